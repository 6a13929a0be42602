/-
  Lemmas for the statement at the top.
-/
import Derived.Test.YthibhamepjhfjaaGreatDoorTeP13
import Derived.Test.YthibhamepjhfjaaGreatDoorTeFw4
import Derived.Test.YthibhamepjhfjaaGreatDoorTeP9
set_option linter.all false
namespace Go.Ab
def q13x0 : List Nat :=[0,2,3,4,5,7,10,12,16]
def q13x1 : List Nat :=[0,1,4,5,6,7,8,9,10,11,19,33,43]
def q13x2 : List Nat :=[0,1,2,3,4,17,22,27,36]
def q13x3 : List Nat :=[0,1,2,3,4,9,25,48]
def q13x4 : List Nat :=[0,1,2,3,4,5,19,24,37]
def q13x5 : List Nat :=[0,1,2,6,7,8,9,13,30,35,54,1000000,1000001]
def q13x6 : List Nat :=[0,1,2,3,4,5,6,9,20,26]
attribute [go_sem] q13x0 q13x1 q13x2 q13x3 q13x4 q13x5 q13x6
end Go.Ab
namespace Go.Proofs.YthibhamepjhfjaaGreatDoor.B
open Go.RowKit Go.Ab
attribute [local irreducible] AWP Go.Ab.Sub Means MeansH CallK CallG CallT CallGT
set_option maxHeartbeats 4000000 in
set_option maxRecDepth 20000 in
theorem q6 (l : List Int) (R : List Rat) (hn : l.Nodup) (hord : ∀ i j (hi : i < l.length) (hj : j < l.length),i < j → l[i] < l[j]) (hr : ∀ x ∈ l,0 ≤ x ∧ x < R.length) (hlt : l.length < 20) (hR : R.length ≤ 100000) (hok : okR R) :
  MeansH Tryz.prog 77 (sH l R) [.ow 0,ii l.length,clo] (.tup []) (sH (srt (kf R) l) R) :=by
 have hi : MeansH Tryz.prog 106 (sH l R) [.ow 0,ii 0,ii l.length,clo] (.tup []) (sH (srt (kf R) l) R) :=by
  have :=CG [] l [] R hn hord hr (by simp; omega) hR hok
  simpa [r3] using this
 have hlt2 : ¬ (20 : Int) ≤ l.length :=by omega
 have hlt3 : ¬ (20 : Int) < l.length :=by omega
 refine bP 2 63 [] Tryz.func77 rfl rfl rfl (by simp) (by decide) rfl fun X hX => ?_
 (repeat (refine aD q13x5 hX mixed rfl ?_;simp [go_sem]; (try simp (disch :=omega) only [w64,td,tm]);try refine ⟨by kernel_rfl,?_⟩))
 refine aH (fun _ : Nat => ⟨mkE [(0,.ow 0),(1,ii l.length),(2,clo),(6,ii 20),(7,ii 0),(8,ii 20),(1000000,.ow 0),(1000001,.ow 1)],sH l R⟩) (fun _ => True) (fun _ => 0) 0 ?_ ?_ ?_
 · refine aG _ [.old 0 ⟨3,1,l.map ii⟩,.old 1 ⟨24,1,[bsl R]⟩] (by simp [go_sem]) ?_
   simp [go_sem]
 · trivial
 · intro _ _
   (repeat (refine aD q13x5 hX mixed rfl ?_;simp [go_sem,hlt2]; (try simp (disch :=omega) only [w64,td,tm]);try refine ⟨by kernel_rfl,?_⟩))
   refine aC (by simp [go_sem]; try omega) ?_
   (repeat (refine aD q13x5 hX mixed rfl ?_;simp [go_sem];try refine ⟨by kernel_rfl,?_⟩))
   first | refine aL [0,1] (hi) (by simp [go_sem]) ?_ | refine aJ [0,1] (hi) (by simp [go_sem]) ?_ | refine aI [0,1] (hi) (by simp [go_sem]) ?_
   try (simp [go_sem];try refine ⟨by kernel_rfl,?_⟩)
   (repeat (refine aD q13x5 hX mixed rfl ?_;simp [go_sem];try refine ⟨by kernel_rfl,?_⟩))
   refine aH (fun _ : Nat => ⟨mkE [(0,.ow 0),(1,ii l.length),(2,clo),(6,ii 20),(1000000,.ow 0),(1000001,.ow 1)],sH (srt (kf R) l) R⟩) (fun _ => True) (fun _ => 0) 0 ?_ ?_ ?_
   · refine aG _ [.old 0 ⟨3,1,(srt (kf R) l).map ii⟩,.old 1 ⟨24,1,[bsl R]⟩] (by simp [go_sem]) ?_
     simp [go_sem]
   · trivial
   · intro _ _
     (repeat (refine aD q13x5 hX mixed rfl ?_;simp [go_sem,hlt3]; (try simp (disch :=omega) only [w64,td,tm]);try refine ⟨by kernel_rfl,?_⟩))
     refine aC (by simp [go_sem]; try omega) ?_
     (repeat (refine aD q13x5 hX mixed rfl ?_;simp [go_sem];try refine ⟨by kernel_rfl,?_⟩))
     (try refine bN ?_); (try simp only [thenQ,blkQ,loopQ]); refine iN [(1000000,.ow 0),(1000001,.ow 1)] [.old 0 ⟨3,1,(srt (kf R) l).map ii⟩,.old 1 ⟨24,1,[bsl R]⟩] ?_
     simp [go_sem]
set_option maxHeartbeats 4000000 in
set_option maxRecDepth 20000 in
theorem sortS_m (l : List Int) (R : List Rat) (hn : l.Nodup) (hord : ∀ i j (hi : i < l.length) (hj : j < l.length),i < j → l[i] < l[j]) (hr : ∀ x ∈ l,0 ≤ x ∧ x < R.length) (hlt : l.length < 20) (hR : R.length ≤ 100000) (hok : okR R) :
  MeansH Tryz.prog 45 (sH l R) [.ow 0,clo] (.tup []) (sH (srt (kf R) l) R) :=by
 refine bP 2 9 [] Tryz.func45 rfl rfl rfl (by simp) (by decide) rfl fun X hX => ?_
 (repeat (refine aD [0,1,1000000,1000001] hX mixed rfl ?_;simp [go_sem];try refine ⟨by kernel_rfl,?_⟩))
 first | refine aL [0,1] (q6 l R hn hord hr hlt hR hok) (by simp [go_sem]) ?_ | refine aJ [0,1] (q6 l R hn hord hr hlt hR hok) (by simp [go_sem]) ?_ | refine aI [0,1] (q6 l R hn hord hr hlt hR hok) (by simp [go_sem]) ?_
 try (simp [go_sem];try refine ⟨by kernel_rfl,?_⟩)
 (repeat (refine aD [0,1,1000000,1000001] hX mixed rfl ?_;simp [go_sem];try refine ⟨by kernel_rfl,?_⟩))
 (try refine bN ?_); (try simp only [thenQ,blkQ,loopQ]); refine iN [(1000000,.ow 0),(1000001,.ow 1)] [.old 0 ⟨3,1,(srt (kf R) l).map ii⟩,.old 1 ⟨24,1,[bsl R]⟩] ?_
 simp [go_sem]
end Go.Proofs.YthibhamepjhfjaaGreatDoor.B

namespace Go.Proofs.YthibhamepjhfjaaGreatDoor
def sumL (l : List Int) : Int :=l.foldr (· + ·) 0
@[simp] theorem sumL_nil : sumL [] = 0 :=rfl
@[simp] theorem sumL_cons (a : Int) (l : List Int) : sumL (a :: l) = a + sumL l :=rfl
def fill (C : List Int) (l : Int) : Int :=sumL (C.map fun c => min c l)
theorem lK (c : Int) (C : List Int) (l : Int) : fill (c :: C) l = min c l + fill C l :=rfl
def shr (l : Int) : Int → List Int → List Int
 | _,[] => []
 | left,c :: C => if l < c ∧ 0 < left then (l + 1) :: shr l (left - 1) C else min c l :: shr l left C
structure isLv (C : List Int) (h l : Int) : Prop where
 low : 0 ≤ l
 le : fill C l ≤ h
 lt : h < fill C (l + 1)
end Go.Proofs.YthibhamepjhfjaaGreatDoor

namespace Go.Proofs.YthibhamepjhfjaaGreatDoor
def idxI (n : Nat) : List Int :=(List.range n).map fun i : Nat => (i : Int)
theorem kB (n : Nat) : (idxI n).length = n :=by simp [idxI]
theorem nS {n i : Nat} (h : i < (idxI n).length) : (idxI n)[i] = i :=by simp [idxI]
theorem gH (n : Nat) : (idxI n).Nodup :=List.pairwise_iff_getElem.2 fun i j hi hj hij => by rw [nS hi,nS hj]; omega
theorem FF (n : Nat) : ∀ i j (hi : i < (idxI n).length) (hj : j < (idxI n).length),i < j → (idxI n)[i] < (idxI n)[j] :=fun i j hi hj hij => by rw [nS hi,nS hj]; omega
theorem gY {n : Nat} {x : Int} : x ∈ idxI n ↔ 0 ≤ x ∧ x < n :=by
 simp only [idxI,List.mem_map,List.mem_range]
 constructor
 · rintro ⟨i,hi,rfl⟩; omega
 · rintro ⟨h1,h2⟩; exact ⟨x.toNat,by omega,by omega⟩
def bump (L : List Int) (x : Int) : List Int :=L.set x.toNat (L.getD x.toNat 0 + 1)
def bumps (L : List Int) (O : List Int) : List Int :=O.foldl bump L
theorem FM (L : List Int) (x : Int) : (bump L x).length = L.length :=by simp [bump]
theorem j0 : ∀ (O L : List Int),(bumps L O).length = L.length
 | [],_ => rfl
 | x :: O,L => by
   have :=j0 O (bump L x)
   rwa [FM] at this
theorem o6 {L O : List Int} {k : Nat} (h : k < O.length) : bumps L (O.take (k + 1)) = bump (bumps L (O.take k)) O[k] :=by
 unfold bumps; rw [List.take_succ_eq_append_getElem h,List.foldl_append]; rfl
theorem HH {L : List Int} {x B : Int} (h : ∀ v ∈ L,0 ≤ v ∧ v ≤ B) : ∀ v ∈ bump L x,0 ≤ v ∧ v ≤ B + 1 :=by
 intro v hv
 unfold bump at hv
 by_cases hx : x.toNat < L.length
 · have e : L.getD x.toNat 0 = L[x.toNat] :=by rw [List.getD_eq_getElem?_getD,List.getElem?_eq_getElem hx]; rfl
   rcases List.mem_or_eq_of_mem_set hv with hv | rfl
   · have :=h v hv; omega
   · rw [e]; have :=h _ (List.getElem_mem hx); omega
 · rw [List.set_eq_of_length_le (by omega)] at hv
   have :=h v hv; omega
theorem o7 : ∀ (O : List Int) {L : List Int} {B : Int},(∀ v ∈ L,0 ≤ v ∧ v ≤ B) → ∀ v ∈ bumps L O,0 ≤ v ∧ v ≤ B + O.length
 | [],L,B,h,v,hv => by have :=h v hv; simp; omega
 | x :: O,L,B,h,v,hv => by
   have :=o7 O (HH (x :=x) h) v hv
   simp only [List.length_cons]; omega
end Go.Proofs.YthibhamepjhfjaaGreatDoor

namespace Go.Proofs.YthibhamepjhfjaaGreatDoor
def kR (R : List Int) (x : Int) : Int :=R.getD x.toNat 0
end Go.Proofs.YthibhamepjhfjaaGreatDoor

namespace Go.Proofs.YthibhamepjhfjaaGreatDoor
open Go.RowKit Go.Ab
attribute [local irreducible] AWP Go.Ab.Sub Means MeansH CallK CallG CallT CallGT CallU
theorem GX (s : Int) (L : List Int) (hl : L.length ≤ 60) : Means false Tryz.prog 102 [big2 s L] (.tup [big2 s L,ii 0]) :=by
 refine aF false 10 [.cell 2 39,.tmp 3] Tryz.func102 rfl rfl rfl (by simp) (by decide) rfl fun X hX => ?_
 (repeat (refine a7 [0,1,2,3,7] hX mixed rfl ?_;simp [go_sem];try refine ⟨by kernel_rfl,?_⟩))
 refine aC (by simp [go_sem]; try omega) ?_
 (repeat (refine a7 [0,1,2,3,7] hX mixed rfl ?_;simp [go_sem];try refine ⟨by kernel_rfl,?_⟩))
theorem GY (s : Int) (L : List Int) (hl : ¬ L.length ≤ 60) (hl2 : L.length ≤ 100000) : Means false Tryz.prog 102 [big2 s L] (.tup [big2 0 [],ii 6]) :=by
 refine aF false 10 [.cell 2 39,.tmp 3] Tryz.func102 rfl rfl rfl (by simp) (by decide) rfl fun X hX => ?_
 (repeat (refine a7 [0,1,2,3,7] hX mixed rfl ?_;simp [go_sem];try refine ⟨by kernel_rfl,?_⟩))
 refine aK (by simp [go_sem]; try omega) ?_
 (repeat (refine a7 [0,1,2,3,7] hX mixed rfl ?_;simp [go_sem];try refine ⟨by kernel_rfl,?_⟩))
set_option maxHeartbeats 4000000 in
set_option maxRecDepth 20000 in
theorem iS (s : Int) (L : List Int) (hl : L.length ≤ 9223372036854775807) : Means false Tryz.prog 78 [big2 s L] (bb (decide (isR s L))) :=by
 refine aF false 60 [.tmp 2] Tryz.func78 rfl rfl rfl (by simp) (by decide) rfl fun X hX => ?_
 (repeat (refine a7 q13x3 hX mixed rfl ?_;simp [go_sem];try refine ⟨by kernel_rfl,?_⟩))
 refine aH (fun n : Nat => ⟨mkE [(1,.el 0 2 0 0),(3,ii n)],[.row ⟨39,2,[big2 s L]⟩]⟩) (fun n => n ≤ L.length ∧ okD (L.take n)) (fun n => L.length - n) 0 ?_ ?_ ?_
 · refine aG _ [.old 0 ⟨39,2,[big2 s L]⟩] (by simp [go_sem]) ?_
   simp [go_sem]
 · exact ⟨Nat.zero_le _,by simp [okD]⟩
 · rintro n ⟨hn,hok⟩
   (repeat (refine a7 q13x3 hX mixed rfl ?_;simp [go_sem];try refine ⟨by kernel_rfl,?_⟩))
   refine aB (b :=decide (n < L.length)) (by simp [go_sem]) (fun hd => ?_) (fun hd => ?_)
   · simp at hd
     (repeat (refine a7 q13x3 hX mixed rfl ?_;simp [go_sem,hd];try refine ⟨by kernel_rfl,?_⟩))
     refine aB (b :=decide (L[n] < 0) || decide (1048576 ≤ L[n])) (by simp [go_sem,hd]; try omega) (fun hf => ?_) (fun hf => ?_)
     · have hf : L[n] < 0 ∨ 1048576 ≤ L[n] :=by simpa using hf
       have hno : ¬ isR s L :=fun h => by have :=bH h.1 hd; omega
       (repeat (refine a7 q13x3 hX mixed rfl ?_;simp [go_sem,hno];try refine ⟨by kernel_rfl,?_⟩))
     · have hf : ¬ (L[n] < 0 ∨ 1048576 ≤ L[n]) :=by simpa using hf
       (repeat (refine a7 q13x3 hX mixed rfl ?_;simp [go_sem]; (try simp (disch :=omega) only [w64,td,tm]);try refine ⟨by kernel_rfl,?_⟩))
       refine ⟨n + 1,⟨by omega,?_⟩,by omega,?_⟩
       · rw [List.take_succ_eq_append_getElem hd]
         exact eD.2 ⟨hok,by simp [okD]; omega⟩
       · refine aG _ [.old 0 ⟨39,2,[big2 s L]⟩] (by simp [go_sem]) ?_
         simp [go_sem]
   · have hnl : n = L.length :=by simp at hd; omega
     subst hnl
     rw [List.take_length] at hok
     by_cases h0 : L.length = 0
     · have hL : L = [] :=List.length_eq_zero_iff.1 h0
       subst hL
       by_cases hs : s = 0
       · subst hs
         have e : isR 0 ([] : List Int) :=⟨cP,fun _ => rfl,fun h => absurd h (by simp)⟩
         (repeat (refine a7 q13x3 hX mixed rfl ?_;simp [go_sem,e];try refine ⟨by kernel_rfl,?_⟩))
         refine aC (by simp [go_sem]) ?_
         (repeat (refine a7 q13x3 hX mixed rfl ?_;simp [go_sem,e];try refine ⟨by kernel_rfl,?_⟩))
       · have e : ¬ isR s [] :=fun h => hs (h.2.1 rfl)
         (repeat (refine a7 q13x3 hX mixed rfl ?_;simp [go_sem,e];try refine ⟨by kernel_rfl,?_⟩))
         refine aK (by simp [go_sem,hs]) ?_
         (repeat (refine a7 q13x3 hX mixed rfl ?_;simp [go_sem,e];try refine ⟨by kernel_rfl,?_⟩))
     · have hp : 0 < L.length :=by omega
       by_cases h1 : (s = 1 ∨ s = -1) ∧ L.length ≤ 60
       · have hi : L.length - 1 < L.length :=by omega
         have hw :=w64 (x :=(L.length : Int) - 1) (by omega) (by omega)
         have ht : ((L.length : Int) - 1).toNat = L.length - 1 :=by omega
         have e : isR s L ↔ L[L.length - 1] ≠ 0 :=⟨fun h => (h.2.2 hp).2.2,fun h => ⟨hok,fun q => absurd q h0,fun _ => ⟨h1.1,h1.2,h⟩⟩⟩
         (repeat (refine a7 q13x3 hX mixed rfl ?_;simp [go_sem,h0];try refine ⟨by kernel_rfl,?_⟩))
         refine aC (by simp [go_sem,h0]; omega) ?_
         (repeat (refine a7 q13x3 hX mixed rfl ?_;simp [go_sem,h0,hw,ht,hi,e];try refine ⟨by kernel_rfl,?_⟩))
         try (repeat refine And.intro (by first | omega | (unfold maxLen;omega) | kernel_rfl | (constructor <;> first | omega | (unfold maxLen;omega)) | grind) ?_)
         try (repeat (refine a7 q13x3 hX mixed rfl ?_;simp [go_sem,h0,hw,ht,hi,e];try refine ⟨by kernel_rfl,?_⟩))
       · have e : ¬ isR s L :=fun h => h1 ⟨(h.2.2 hp).1,(h.2.2 hp).2.1⟩
         (repeat (refine a7 q13x3 hX mixed rfl ?_;simp [go_sem,h0];try refine ⟨by kernel_rfl,?_⟩))
         refine aK (by simp [go_sem,h0]; omega) ?_
         (repeat (refine a7 q13x3 hX mixed rfl ?_;simp [go_sem,e];try refine ⟨by kernel_rfl,?_⟩))
theorem aQ (z : Int) (h : rz z) : Means false Tryz.prog 78 [bigZ z] (bb true) :=by
 have :=iS (sg z) (dg (ab z)) (by have :=bQ h; omega)
 have e : decide (isR (sg z) (dg (ab z))) = true :=decide_eq_true (lQ h)
 rwa [e] at this
set_option maxHeartbeats 4000000 in
set_option maxRecDepth 20000 in
theorem LI (n : Int) (hn : 0 ≤ n ∧ n ≤ 9223372036854775807) : Means false Tryz.prog 81 [ii n] (bigZ n) :=by
 have hab :=aV n
 have hae : ab n = n :=by unfold ab; rw [if_neg (by omega)]
 have hlo : (dg (ab n)).length ≤ 4 :=by
  rw [aR]
  have : (1048576 : Int) ^ 4 = 1208925819614629174706176 :=by decide
  omega
 by_cases h0 : n = 0
 · subst h0
   refine aF false 28 [.cell 2 39] Tryz.func81 rfl rfl rfl (by simp) (by decide) rfl fun X hX => ?_
   (repeat (refine a7 q13x0 hX mixed rfl ?_;simp [go_sem];try refine ⟨by kernel_rfl,?_⟩))
   refine aK (by simp [go_sem]) ?_
   (repeat (refine a7 q13x0 hX mixed rfl ?_;simp [go_sem];try refine ⟨by kernel_rfl,?_⟩))
   all_goals rfl
 · have hsg : sg n = 1 :=by rcases aE n with h | h | h <;> omega
   refine aF false 28 [.cell 2 39] Tryz.func81 rfl rfl rfl (by simp) (by decide) rfl fun X hX => ?_
   (repeat (refine a7 q13x0 hX mixed rfl ?_;simp [go_sem];try refine ⟨by kernel_rfl,?_⟩))
   refine aC (by simp [go_sem,h0]) ?_
   (repeat (refine a7 q13x0 hX mixed rfl ?_;simp [go_sem];try refine ⟨by kernel_rfl,?_⟩))
   refine aC (by simp [go_sem]; omega) ?_
   (repeat (refine a7 q13x0 hX mixed rfl ?_;simp [go_sem];try refine ⟨by kernel_rfl,?_⟩))
   refine aH (fun x : Int × List Int => ⟨mkE [(0,ii x.1),(2,.el 0 2 0 0),(3,ii 1),(4,.ow 1)],[.row ⟨39,2,[.agg [ii 0,.nil]]⟩,rowI x.2]⟩)
    (fun x => 0 ≤ x.1 ∧ x.1 ≤ 9223372036854775807 ∧ x.2 ++ dg x.1 = dg (ab n)) (fun x => x.1.toNat) (n,[]) ?_ ?_ ?_
   · refine aG _ [.old 0 ⟨39,2,[.agg [ii 0,.nil]]⟩,.birth 3 1] (by simp [go_sem]) ?_
     simp [go_sem]
   · exact ⟨hn.1,hn.2,by simp [hae]⟩
   · rintro ⟨u,L⟩ ⟨hu,hu2,hE⟩
     simp only [] at hu hu2 hE
     (repeat (refine a7 q13x0 hX mixed rfl ?_;simp [go_sem];try refine ⟨by kernel_rfl,?_⟩))
     refine aB (b :=decide (u ≠ 0)) (by simp [go_sem]) (fun hd => ?_) (fun hd => ?_)
     · simp only [decide_eq_true_eq] at hd
       have hm : u.tmod 1048576 = u % 1048576 :=Int.tmod_eq_emod_of_nonneg hu
       have hq : u.tdiv 1048576 = u / 1048576 :=Int.tdiv_eq_ediv_of_nonneg hu
       have hLl : L.length ≤ 4 :=by have :=congrArg List.length hE; simp at this; omega
       obtain ⟨r,hr⟩ : ∃ r,u % 1048576 = r :=⟨_,rfl⟩
       obtain ⟨q,hqe⟩ : ∃ q,u / 1048576 = q :=⟨_,rfl⟩
       have hdg :=fF (n :=u) (by omega)
       rw [hr,hqe] at hdg
       rw [hr] at hm
       rw [hqe] at hq
       have w1 :=w64 (x :=r) (by omega) (by omega)
       have w2 :=w64 (x :=q) (by omega) (by omega)
       (repeat (refine a7 q13x0 hX mixed rfl ?_;simp [go_sem,hm,w1];try refine ⟨by kernel_rfl,?_⟩))
       refine aC (by simp [go_sem]; omega) ?_
       (repeat (refine a7 q13x0 hX mixed rfl ?_;simp [go_sem,hq,w2];try refine ⟨by kernel_rfl,?_⟩))
       try (repeat refine And.intro (by first | omega | (unfold maxLen;omega) | kernel_rfl | (constructor <;> first | omega | (unfold maxLen;omega)) | grind) ?_)
       try (repeat (refine a7 q13x0 hX mixed rfl ?_;simp [go_sem,hq,w2];try refine ⟨by kernel_rfl,?_⟩))
       refine ⟨q,L ++ [r],⟨by omega,by omega,by rw [← hE,hdg]; simp⟩,by omega,?_⟩
       refine aG _ [.old 0 ⟨39,2,[.agg [ii 0,.nil]]⟩,.old 3 ⟨3,1,(L ++ [r]).map ii⟩] (by simp [go_sem]) ?_
       simp [go_sem]
     · simp only [decide_eq_false_iff_not,Classical.not_not] at hd
       subst hd
       rw [jC,List.append_nil] at hE
       have hmd :=nK 1 L (by rw [hE]; omega) (by rw [hE]; exact aO _)
       have e1 : (if val L = 0 then 0 else 1) = sg n :=by rw [hE,aS,if_neg (by omega),hsg]
       rw [e1,hE,aS] at hmd
       rw [← hE] at hmd
       (repeat (refine a7 q13x0 hX mixed rfl ?_;simp [go_sem];try refine ⟨by kernel_rfl,?_⟩))
       refine gQ (hmd) rfl rfl ?_
       try (simp [go_sem];try refine ⟨by kernel_rfl,?_⟩)
       (repeat (refine a7 q13x0 hX mixed rfl ?_;simp [go_sem];try refine ⟨by kernel_rfl,?_⟩))
       try simp [hE]
set_option maxHeartbeats 4000000 in
set_option maxRecDepth 20000 in
theorem LJ (n : Int) (hn : -9223372036854775808 ≤ n ∧ n < 0) : Means false Tryz.prog 81 [ii n] (bigZ n) :=by
 have hab :=aV n
 have hae : ab n = -n :=by unfold ab; rw [if_pos (by omega)]
 have hlo : (dg (ab n)).length ≤ 4 :=by
  rw [aR]
  have : (1048576 : Int) ^ 4 = 1208925819614629174706176 :=by decide
  omega
 have h0 : n ≠ 0 :=by omega
 have hsg : sg n = -1 :=by rcases aE n with h | h | h <;> omega
 refine aF false 28 [.cell 2 39] Tryz.func81 rfl rfl rfl (by simp) (by decide) rfl fun X hX => ?_
 (repeat (refine a7 q13x0 hX mixed rfl ?_;simp [go_sem];try refine ⟨by kernel_rfl,?_⟩))
 refine aC (by simp [go_sem,h0]) ?_
 (repeat (refine a7 q13x0 hX mixed rfl ?_;simp [go_sem];try refine ⟨by kernel_rfl,?_⟩))
 refine aK (by simp [go_sem]; omega) ?_
 (repeat (refine a7 q13x0 hX mixed rfl ?_;simp [go_sem];try refine ⟨by kernel_rfl,?_⟩))
 refine aH (fun x : Int × List Int => ⟨mkE [(0,ii (-x.1)),(2,.el 0 2 0 0),(3,ii (-1)),(4,.ow 1)],[.row ⟨39,2,[.agg [ii 0,.nil]]⟩,rowI x.2]⟩)
  (fun x => 0 ≤ x.1 ∧ x.1 ≤ 9223372036854775808 ∧ x.2 ++ dg x.1 = dg (ab n)) (fun x => x.1.toNat) (-n,[]) ?_ ?_ ?_
 · refine aG _ [.old 0 ⟨39,2,[.agg [ii 0,.nil]]⟩,.birth 3 1] (by simp [go_sem]) ?_
   simp [go_sem]
 · exact ⟨by show 0 ≤ -n; omega,by show -n ≤ _; omega,by simp [hae]⟩
 · rintro ⟨u,L⟩ ⟨hu,hu2,hE⟩
   simp only [] at hu hu2 hE
   (repeat (refine a7 q13x0 hX mixed rfl ?_;simp [go_sem];try refine ⟨by kernel_rfl,?_⟩))
   refine aB (b :=decide (u ≠ 0)) (by simp [go_sem]; try omega) (fun hd => ?_) (fun hd => ?_)
   · simp only [decide_eq_true_eq] at hd
     have hm : u.tmod 1048576 = u % 1048576 :=Int.tmod_eq_emod_of_nonneg hu
     have hq : u.tdiv 1048576 = u / 1048576 :=Int.tdiv_eq_ediv_of_nonneg hu
     have hLl : L.length ≤ 4 :=by have :=congrArg List.length hE; simp at this; omega
     obtain ⟨r,hr⟩ : ∃ r,u % 1048576 = r :=⟨_,rfl⟩
     obtain ⟨q,hqe⟩ : ∃ q,u / 1048576 = q :=⟨_,rfl⟩
     have hdg :=fF (n :=u) (by omega)
     rw [hr,hqe] at hdg
     rw [hr] at hm
     rw [hqe] at hq
     have hm2 : (-u).tmod 1048576 = -r :=by rw [Int.neg_tmod,hm]
     have hq2 : (-u).tdiv 1048576 = -q :=by rw [Int.neg_tdiv,hq]
     have w1 :=w64 (x :=r) (by omega) (by omega)
     have w1n :=w64 (x :=-r) (by omega) (by omega)
     have w2 :=w64 (x :=-q) (by omega) (by omega)
     (repeat (refine a7 q13x0 hX mixed rfl ?_;simp [go_sem,hm2,hm,w1n,w1];try refine ⟨by kernel_rfl,?_⟩))
     refine aB (b :=decide (0 < r)) (by simp [go_sem]; try omega) (fun hs => ?_) (fun hs => ?_)
     · (repeat (refine a7 q13x0 hX mixed rfl ?_;simp [go_sem,hq2,hq,w2,w1];try refine ⟨by kernel_rfl,?_⟩))
       try (repeat refine And.intro (by first | omega | (unfold maxLen;omega) | kernel_rfl | (constructor <;> first | omega | (unfold maxLen;omega)) | grind) ?_)
       try (repeat (refine a7 q13x0 hX mixed rfl ?_;simp [go_sem,hq2,hq,w2,w1];try refine ⟨by kernel_rfl,?_⟩))
       refine ⟨q,L ++ [r],⟨by omega,by omega,by rw [← hE,hdg]; simp⟩,by omega,?_⟩
       refine aG _ [.old 0 ⟨39,2,[.agg [ii 0,.nil]]⟩,.old 3 ⟨3,1,(L ++ [r]).map ii⟩] (by simp [go_sem]) ?_
       simp [go_sem]
     · have hr0 : r = 0 :=by simp at hs; omega
       subst hr0
       (repeat (refine a7 q13x0 hX mixed rfl ?_;simp [go_sem,hq2,hq,w2];try refine ⟨by kernel_rfl,?_⟩))
       try (repeat refine And.intro (by first | omega | (unfold maxLen;omega) | kernel_rfl | (constructor <;> first | omega | (unfold maxLen;omega)) | grind) ?_)
       try (repeat (refine a7 q13x0 hX mixed rfl ?_;simp [go_sem,hq2,hq,w2];try refine ⟨by kernel_rfl,?_⟩))
       refine ⟨q,L ++ [(0 : Int)],⟨by omega,by omega,by rw [← hE,hdg]; simp⟩,by omega,?_⟩
       refine aG _ [.old 0 ⟨39,2,[.agg [ii 0,.nil]]⟩,.old 3 ⟨3,1,(L ++ [(0 : Int)]).map ii⟩] (by simp [go_sem]) ?_
       simp [go_sem]
   · simp only [decide_eq_false_iff_not,Classical.not_not] at hd
     subst hd
     rw [jC,List.append_nil] at hE
     have hmd :=nK (-1) L (by rw [hE]; omega) (by rw [hE]; exact aO _)
     have e1 : (if val L = 0 then 0 else -1) = sg n :=by rw [hE,aS,if_neg (by omega),hsg]
     rw [e1,hE,aS] at hmd
     rw [← hE] at hmd
     (repeat (refine a7 q13x0 hX mixed rfl ?_;simp [go_sem];try refine ⟨by kernel_rfl,?_⟩))
     refine gQ (hmd) rfl rfl ?_
     try (simp [go_sem];try refine ⟨by kernel_rfl,?_⟩)
     (repeat (refine a7 q13x0 hX mixed rfl ?_;simp [go_sem];try refine ⟨by kernel_rfl,?_⟩))
     try simp [hE]
theorem jS (n : Int) (hn : -9223372036854775808 ≤ n ∧ n ≤ 9223372036854775807) : Means false Tryz.prog 81 [ii n] (bigZ n) :=by
 rcases Int.lt_or_le n 0 with h | h
 · exact LJ n ⟨hn.1,h⟩
 · exact LI n ⟨h,hn.2⟩
theorem HI (s1 s2 : Int) (a b : List Int) (hla : a.length ≤ 140737488355328) (hlb : b.length ≤ 140737488355328) : Means false Tryz.prog 109 [big2 s1 a,big2 s2 b] (bb (decide (s1 = s2 ∧ a = b))) :=by
 refine aF false 38 [.tmp 4] Tryz.func109 rfl rfl rfl (by simp) (by decide) rfl fun X hX => ?_
 (repeat (refine a7 q13x4 hX mixed rfl ?_;simp [go_sem];try refine ⟨by kernel_rfl,?_⟩))
 by_cases h : s1 = s2
 · subst h
   by_cases hl : a.length = b.length
   · (repeat (refine a7 q13x4 hX mixed rfl ?_;simp [go_sem,hl];try refine ⟨by kernel_rfl,?_⟩))
     refine aB (b :=false) (by simp [go_sem,hl]) (fun hb => by cases hb) (fun _ => ?_)
     (repeat (refine a7 q13x4 hX mixed rfl ?_;simp [go_sem];try refine ⟨by kernel_rfl,?_⟩))
     refine aH (fun n : Nat => ⟨mkE [(2,.el 0 2 0 0),(3,.el 1 2 0 0),(5,ii n)],[.row ⟨39,2,[big2 s1 a]⟩,.row ⟨39,2,[big2 s1 b]⟩]⟩) (fun n => n ≤ a.length ∧ a.take n = b.take n) (fun n => a.length - n) 0 ?_ ?_ ?_
     · refine aG _ [.old 0 ⟨39,2,[big2 s1 a]⟩,.old 1 ⟨39,2,[big2 s1 b]⟩] (by simp [go_sem]) ?_
       simp [go_sem]
     · exact ⟨Nat.zero_le _,by simp⟩
     · rintro n ⟨hn,he⟩
       (repeat (refine a7 q13x4 hX mixed rfl ?_;simp [go_sem];try refine ⟨by kernel_rfl,?_⟩))
       refine aB (b :=decide (n < a.length)) (by simp [go_sem]) (fun hd2 => ?_) (fun hd2 => ?_)
       · simp at hd2
         have h2 : n < b.length :=by omega
         (repeat (refine a7 q13x4 hX mixed rfl ?_;simp [go_sem,hd2,h2]; (try simp (disch :=omega) only [w64,td,tm]);try refine ⟨by kernel_rfl,?_⟩))
         (repeat refine And.intro (by first | omega | (unfold maxLen;omega) | kernel_rfl | (constructor <;> first | omega | (unfold maxLen;omega)) | grind) ?_)
         try (simp [go_sem,hd2,h2];try refine ⟨by kernel_rfl,?_⟩)
         refine aB (b :=decide (a[n] ≠ b[n])) (by simp [go_sem,hd2,h2]; try omega) (fun hc => ?_) (fun hc => ?_)
         · simp only [decide_eq_true_eq] at hc
           have hne : ¬ a = b :=fun e => hc (by simp only [e])
           (repeat (refine a7 q13x4 hX mixed rfl ?_;simp [go_sem,hne];try refine ⟨by kernel_rfl,?_⟩))
         · simp at hc
           (repeat (refine a7 q13x4 hX mixed rfl ?_;simp [go_sem]; (try simp (disch :=omega) only [w64,td,tm]);try refine ⟨by kernel_rfl,?_⟩))
           refine ⟨n + 1,⟨by omega,?_⟩,by omega,?_⟩
           · rw [List.take_succ_eq_append_getElem hd2,List.take_succ_eq_append_getElem h2,he,hc]
           · refine aG _ [.old 0 ⟨39,2,[big2 s1 a]⟩,.old 1 ⟨39,2,[big2 s1 b]⟩] (by simp [go_sem]) ?_
             simp [go_sem]
       · have hnl : n = a.length :=by simp at hd2; omega
         subst hnl
         have hab : a = b :=by rwa [List.take_length,hl,List.take_length] at he
         (repeat (refine a7 q13x4 hX mixed rfl ?_;simp [go_sem,hab];try refine ⟨by kernel_rfl,?_⟩))
   · have hne : ¬ a = b :=fun e => hl (by rw [e])
     (repeat (refine a7 q13x4 hX mixed rfl ?_;simp [go_sem,hl];try refine ⟨by kernel_rfl,?_⟩))
     refine aB (b :=true) (by simp [go_sem,hl]; try omega) (fun _ => ?_) (fun hb => by cases hb)
     (repeat (refine a7 q13x4 hX mixed rfl ?_;simp [go_sem,hne];try refine ⟨by kernel_rfl,?_⟩))
 · (repeat (refine a7 q13x4 hX mixed rfl ?_;simp [go_sem,h];try refine ⟨by kernel_rfl,?_⟩))
   refine aB (b :=true) (by simp [go_sem,h]) (fun _ => ?_) (fun hb => by cases hb)
   (repeat (refine a7 q13x4 hX mixed rfl ?_;simp [go_sem,h];try refine ⟨by kernel_rfl,?_⟩))
theorem wY (z w : Int) (hz : rz z) (hw : rz w) : Means false Tryz.prog 109 [bigZ z,bigZ w] (bb (decide (z = w))) :=by
 have :=HI (sg z) (sg w) (dg (ab z)) (dg (ab w)) (by have :=bQ hz; omega) (by have :=bQ hw; omega)
 simpa only [wT] using this
set_option maxHeartbeats 4000000 in
set_option maxRecDepth 20000 in
theorem fD (z w : Int) (hz : rz z) (hw : rz w) : Means false Tryz.prog 80 [bigZ z,bigZ w] (ii (cmpI z w)) :=by
 have hlz :=bQ hz
 have hlw :=bQ hw
 have hls :=tL (dg (ab z)) (dg (ab w)) (by omega) (by omega) (aO _) (aO _)
 rw [aS,aS] at hls
 by_cases he : z = w
 · subst he
   have e : cmpI z z = 0 :=(jD z z).2 rfl
   have hsm :=wY z z hz hz
   rw [decide_eq_true rfl] at hsm
   rw [e]
   refine aF false 37 [.tmp 4] Tryz.func80 rfl rfl rfl (by simp) (by decide) rfl fun X hX => ?_
   (repeat (refine a7 q13x2 hX mixed rfl ?_;simp [go_sem];try refine ⟨by kernel_rfl,?_⟩))
   first | refine a8 (aQ z hz) ?_ | refine aA (aQ z hz) ?_
   try (simp [go_sem];try refine ⟨by kernel_rfl,?_⟩)
   first | refine aP (fun hg => aQ z hz) ?_ | refine aM (fun hg => aQ z hz) ?_
   try (simp [go_sem];try refine ⟨by kernel_rfl,?_⟩)
   first | refine aP (fun hg => hsm) ?_ | refine aM (fun hg => hsm) ?_
   try (simp [go_sem];try refine ⟨by kernel_rfl,?_⟩)
   refine aK (by simp [go_sem]) ?_
   (repeat (refine a7 q13x2 hX mixed rfl ?_;simp [go_sem];try refine ⟨by kernel_rfl,?_⟩))
 · have hsm :=wY z w hz hw
   rw [decide_eq_false he] at hsm
   refine aF false 37 [.tmp 4] Tryz.func80 rfl rfl rfl (by simp) (by decide) rfl fun X hX => ?_
   (repeat (refine a7 q13x2 hX mixed rfl ?_;simp [go_sem];try refine ⟨by kernel_rfl,?_⟩))
   first | refine a8 (aQ z hz) ?_ | refine aA (aQ z hz) ?_
   try (simp [go_sem];try refine ⟨by kernel_rfl,?_⟩)
   first | refine aP (fun hg => aQ w hw) ?_ | refine aM (fun hg => aQ w hw) ?_
   try (simp [go_sem];try refine ⟨by kernel_rfl,?_⟩)
   first | refine aP (fun hg => hsm) ?_ | refine aM (fun hg => hsm) ?_
   try (simp [go_sem];try refine ⟨by kernel_rfl,?_⟩)
   refine aC (by simp [go_sem]) ?_
   (repeat (refine a7 q13x2 hX mixed rfl ?_;simp [go_sem];try refine ⟨by kernel_rfl,?_⟩))
   refine aB (b :=decide (sg z ≠ sg w)) (by simp [go_sem]; try omega) (fun hd => ?_) (fun hd => ?_)
   · simp only [decide_eq_true_eq] at hd
     have e : cmpI z w = if sg z < sg w then -1 else 1 :=by
      have : cmpI (sg z) (sg w) = cmpI z w :=by
       refine tR ?_ ?_ <;> rcases aE z with h | h | h <;> rcases aE w with h2 | h2 | h2 <;> omega
      rw [← this]; unfold cmpI; split
      · rfl
      · rw [if_pos (by omega)]
     rw [e]
     (repeat (refine a7 q13x2 hX mixed rfl ?_;simp [go_sem];try refine ⟨by kernel_rfl,?_⟩))
     refine aB (b :=decide (sg z < sg w)) (by simp [go_sem]) (fun hf => ?_) (fun hf => ?_)
     · simp at hf
       rw [if_pos hf]
       (repeat (refine a7 q13x2 hX mixed rfl ?_;simp [go_sem];try refine ⟨by kernel_rfl,?_⟩))
     · simp at hf
       rw [if_neg (by omega)]
       (repeat (refine a7 q13x2 hX mixed rfl ?_;simp [go_sem];try refine ⟨by kernel_rfl,?_⟩))
   · simp at hd
     have hs : sg z = 1 ∨ sg z = -1 :=by rcases aE z with h | h | h <;> rcases aE w with h2 | h2 | h2 <;> omega
     have e1 : sg z = 1 → ab z < ab w → cmpI z w = -1 :=fun h1 h2 => by
      unfold cmpI; rcases aE z with h | h | h <;> rcases aE w with h3 | h3 | h3 <;> first | omega | (rw [if_pos (by omega)])
     have e2 : sg z = 1 → ¬ ab z < ab w → cmpI z w = 1 :=fun h1 h2 => by
      unfold cmpI; rcases aE z with h | h | h <;> rcases aE w with h3 | h3 | h3 <;> first | omega | (rw [if_neg (by omega),if_pos (by omega)])
     have e3 : sg z = -1 → ab z < ab w → cmpI z w = 1 :=fun h1 h2 => by
      unfold cmpI; rcases aE z with h | h | h <;> rcases aE w with h3 | h3 | h3 <;> first | omega | (rw [if_neg (by omega),if_pos (by omega)])
     have e4 : sg z = -1 → ¬ ab z < ab w → cmpI z w = -1 :=fun h1 h2 => by
      unfold cmpI; rcases aE z with h | h | h <;> rcases aE w with h3 | h3 | h3 <;> first | omega | (rw [if_pos (by omega)])
     by_cases hlt : ab z < ab w
     · rw [decide_eq_true hlt] at hls
       rcases hs with hs | hs
       · rw [e1 hs hlt]
         (repeat (refine a7 q13x2 hX mixed rfl ?_;simp [go_sem];try refine ⟨by kernel_rfl,?_⟩))
         first | refine a8 (hls) ?_ | refine aA (hls) ?_
         try (simp [go_sem];try refine ⟨by kernel_rfl,?_⟩)
         refine aK (by simp [go_sem,hs]) ?_
         (repeat (refine a7 q13x2 hX mixed rfl ?_;simp [go_sem];try refine ⟨by kernel_rfl,?_⟩))
       · rw [e3 hs hlt]
         (repeat (refine a7 q13x2 hX mixed rfl ?_;simp [go_sem];try refine ⟨by kernel_rfl,?_⟩))
         first | refine a8 (hls) ?_ | refine aA (hls) ?_
         try (simp [go_sem];try refine ⟨by kernel_rfl,?_⟩)
         refine aC (by simp [go_sem,hs]) ?_
         (repeat (refine a7 q13x2 hX mixed rfl ?_;simp [go_sem];try refine ⟨by kernel_rfl,?_⟩))
     · rw [decide_eq_false hlt] at hls
       rcases hs with hs | hs
       · rw [e2 hs hlt]
         (repeat (refine a7 q13x2 hX mixed rfl ?_;simp [go_sem];try refine ⟨by kernel_rfl,?_⟩))
         first | refine a8 (hls) ?_ | refine aA (hls) ?_
         try (simp [go_sem];try refine ⟨by kernel_rfl,?_⟩)
         refine aC (by simp [go_sem,hs]) ?_
         (repeat (refine a7 q13x2 hX mixed rfl ?_;simp [go_sem];try refine ⟨by kernel_rfl,?_⟩))
       · rw [e4 hs hlt]
         (repeat (refine a7 q13x2 hX mixed rfl ?_;simp [go_sem];try refine ⟨by kernel_rfl,?_⟩))
         first | refine a8 (hls) ?_ | refine aA (hls) ?_
         try (simp [go_sem];try refine ⟨by kernel_rfl,?_⟩)
         refine aK (by simp [go_sem,hs]) ?_
         (repeat (refine a7 q13x2 hX mixed rfl ?_;simp [go_sem];try refine ⟨by kernel_rfl,?_⟩))
theorem CH {L : List Int} (h : okD L) (k : Nat) : 0 ≤ val (L.drop k) ∧ val (L.drop k) ≤ val L :=by
 have e :=gD k L
 have h1 :=aT (bL h k)
 have h2 :=aT (bU h k)
 have hp :=bV k
 have :=Int.mul_le_mul_of_nonneg_right (show 1 ≤ (1048576 : Int) ^ k by omega) h2
 rw [Int.one_mul] at this
 omega
set_option maxHeartbeats 4000000 in
set_option maxRecDepth 20000 in
theorem IM (z : Int) (hz : rz z) : Means false Tryz.prog 49 [bigZ z] (.tup [ii (if inI z then z else 0),bb (inI z)]) :=by
 have hlz :=bQ hz
 have hab :=aV z
 have hva :=aS z
 have hok :=aO (ab z)
 have hc1 :=fD z (-9223372036854775808) hz (jK (by omega))
 have hc2 :=fD z 9223372036854775807 hz (jK (by omega))
 have b1 : decide (cmpI z (-9223372036854775808) < 0) = decide (z < -9223372036854775808) :=by rw [decide_eq_decide]; exact kZ
 have b2 : decide (0 < cmpI z 9223372036854775807) = decide (9223372036854775807 < z) :=by
  rw [decide_eq_decide]; rw [FN 9223372036854775807 z]
  have :=kZ (x :=9223372036854775807) (y :=z); omega
 have n1 :=tX z (-9223372036854775808)
 have n2 :=tX z 9223372036854775807
 have hinI : inI z = (!decide (z < -9223372036854775808) && !decide (9223372036854775807 < z)) :=by
  unfold inI; by_cases q1 : z < -9223372036854775808 <;> by_cases q2 : 9223372036854775807 < z <;> simp [q1,q2] <;> omega
 generalize cmpI z (-9223372036854775808) = c1 at *
 generalize cmpI z 9223372036854775807 = c2 at *
 refine aF false 41 [.tmp 2,.tmp 3] Tryz.func49 rfl rfl rfl (by simp) (by decide) rfl fun X hX => ?_
 (repeat (refine a7 q13x6 hX mixed rfl ?_;simp [go_sem];try refine ⟨by kernel_rfl,?_⟩))
 first | refine a8 (aQ z hz) ?_ | refine aA (aQ z hz) ?_
 try (simp [go_sem];try refine ⟨by kernel_rfl,?_⟩)
 refine aC (by simp [go_sem]) ?_
 (repeat (refine a7 q13x6 hX mixed rfl ?_;simp [go_sem];try refine ⟨by kernel_rfl,?_⟩))
 first | refine a8 (jS (-9223372036854775808) (by omega)) ?_ | refine aA (jS (-9223372036854775808) (by omega)) ?_
 try (simp [go_sem];try refine ⟨by kernel_rfl,?_⟩)
 first | refine a8 (hc1) ?_ | refine aA (hc1) ?_
 try (simp [go_sem];try refine ⟨by kernel_rfl,?_⟩)
 first | refine aP (fun hg => jS 9223372036854775807 (by omega)) ?_ | refine aM (fun hg => jS 9223372036854775807 (by omega)) ?_
 try (simp [go_sem];try refine ⟨by kernel_rfl,?_⟩)
 first | refine aP (fun hg => hc2) ?_ | refine aM (fun hg => hc2) ?_
 try (simp [go_sem];try refine ⟨by kernel_rfl,?_⟩)
 by_cases q1 : z < -9223372036854775808
 · have e : inI z = false :=by rw [hinI]; simp [q1]
   rw [e]
   have hcn : c1 < 0 :=by simpa [q1] using b1
   refine aK (by simp [go_sem,hcn]) ?_
   (repeat (refine a7 q13x6 hX mixed rfl ?_;simp [go_sem];try refine ⟨by kernel_rfl,?_⟩))
 have hcn : ¬ c1 < 0 :=by simpa [q1] using b1
 by_cases q2 : 9223372036854775807 < z
 · have e : inI z = false :=by rw [hinI]; simp [q2]
   rw [e]
   have hcm : 0 < c2 :=by simpa [q2] using b2
   refine aK (by simp [go_sem,hcn,hcm]) ?_
   (repeat (refine a7 q13x6 hX mixed rfl ?_;simp [go_sem];try refine ⟨by kernel_rfl,?_⟩))
 have hcm : ¬ 0 < c2 :=by simpa [q2] using b2
 refine aC (by simp [go_sem,hcn,hcm]; try omega) ?_
 have e : inI z = true :=by rw [hinI]; simp [q1,q2]
 rw [e,if_pos rfl]
 have hpre :=CH hok
 rw [hva] at hpre
 have hz0 : sg z * ab z = z :=wI z
 have hdr :=dR (dg (ab z))
 have hsc : sg z = 1 ∨ sg z = 0 ∨ sg z = -1 :=by rcases aE z with h | h | h <;> omega
 have hw0 :=w64 (x :=((dg (ab z)).length : Int) - 1) (by omega) (by omega)
 have hs1 : ab z ≤ 9223372036854775808 ∧ (sg z = 1 → ab z ≤ 9223372036854775807) :=by rcases aE z with h | h | h <;> omega
 (repeat (refine a7 q13x6 hX mixed rfl ?_;simp [go_sem,hw0];try refine ⟨by kernel_rfl,?_⟩))
 refine aH (fun k : Nat => ⟨mkE [(1,.el 0 2 0 0),(5,ii (sg z * val ((dg (ab z)).drop k))),(6,ii ((k : Int) - 1))],[.row ⟨39,2,[bigZ z]⟩]⟩) (fun k => k ≤ (dg (ab z)).length) (fun k => k) (dg (ab z)).length ?_ ?_ ?_
 · refine aG _ [.old 0 ⟨39,2,[bigZ z]⟩] (by simp [go_sem]) ?_
   simp [go_sem,val]
 · exact Nat.le_refl _
 · intro k hk
   cases k with
   | zero =>
     simp only [List.drop_zero]
     rw [hva,hz0]
     (repeat (refine a7 q13x6 hX mixed rfl ?_;simp [go_sem];try refine ⟨by kernel_rfl,?_⟩))
     refine aC (by simp [go_sem]) ?_
     (repeat (refine a7 q13x6 hX mixed rfl ?_;simp [go_sem];try refine ⟨by kernel_rfl,?_⟩))
   | succ k =>
     have hk1 : k < (dg (ab z)).length :=by omega
     have h1 :=hpre (k + 1)
     have h0 :=hpre k
     have hd0 :=hdr k
     rw [gV hk1] at hd0
     have hdb :=bH hok hk1
     have hki : ((k + 1 : Nat) : Int) - 1 = k :=by omega
     rw [hki]
     obtain ⟨d,hd⟩ : ∃ d,(dg (ab z))[k] = d :=⟨_,rfl⟩
     rw [hd] at hd0 hdb
     obtain ⟨D1,hD1⟩ : ∃ D1,val ((dg (ab z)).drop (k + 1)) = D1 :=⟨_,rfl⟩
     obtain ⟨D0,hD0⟩ : ∃ D0,val ((dg (ab z)).drop k) = D0 :=⟨_,rfl⟩
     rw [hD1] at h1 hd0
     rw [hD0] at h0 hd0
     have hw1 :=w64 (x :=sg z * D1 * 1048576) (by rcases hsc with q | q | q <;> rw [q] <;> omega) (by rcases hsc with q | q | q <;> rw [q] <;> omega)
     have hw2 :=w64 (x :=sg z * d) (by rcases hsc with q | q | q <;> rw [q] <;> omega) (by rcases hsc with q | q | q <;> rw [q] <;> omega)
     have hsum : sg z * D1 * 1048576 + sg z * d = sg z * D0 :=by rcases hsc with q | q | q <;> rw [q] <;> omega
     have hw3 :=w64 (x :=sg z * D0) (by rcases hsc with q | q | q <;> rw [q] <;> omega) (by rcases hsc with q | q | q <;> rw [q] <;> omega)
     have hw4 :=w64 (x :=(k : Int) - 1) (by omega) (by omega)
     (repeat (refine a7 q13x6 hX mixed rfl ?_;simp [go_sem];try refine ⟨by kernel_rfl,?_⟩))
     refine aK (by simp [go_sem]) ?_
     (repeat (refine a7 q13x6 hX mixed rfl ?_;simp [go_sem,hD1,hk1,hd,hw1,hw2,hsum,hw3,hw4];try refine ⟨by kernel_rfl,?_⟩))
     refine ⟨k,by omega,by omega,?_⟩
     refine aG _ [.old 0 ⟨39,2,[bigZ z]⟩] (by simp [go_sem]) ?_
     simp [go_sem,hD0]
theorem jI {n B : Int} {k : Nat} (h0 : 0 ≤ n) (h : n < B) (hB : B < 1048576 ^ k) : (dg n).length ≤ k :=by
 rw [aR]; omega
theorem CI {A' B q r d lo : Int} (hB : 0 < B) (h1 : B * q + r = A') (hr : 0 ≤ r ∧ r < B) (h2 : lo * B ≤ d + 1048576 * r) (h3 : d + 1048576 * r < (lo + 1) * B) :
  B * (lo + 1048576 * q) + (d + 1048576 * r - B * lo) = d + 1048576 * A' ∧ 0 ≤ d + 1048576 * r - B * lo ∧ d + 1048576 * r - B * lo < B :=by
 subst h1
 rw [Int.add_mul,Int.one_mul] at h3
 rw [Int.mul_comm lo B] at h2 h3
 refine ⟨?_,by omega,by omega⟩
 rw [Int.mul_add,Int.mul_add,Int.mul_left_comm B 1048576 q]; omega
set_option maxHeartbeats 8000000 in
set_option maxRecDepth 20000 in
theorem zT (a b : List Int) (hla : a.length ≤ 500) (hlb : b.length ≤ 500) (ha : okD a) (hb : okD b) (hB : 0 < val b) : Means false Tryz.prog 108 [il a,il b] (.tup [il (dg (val a / val b)),il (dg (val a % val b))]) :=by
 have hbl :=dF hb
 have hw0 :=w64 (x :=(a.length : Int) - 1) (by omega) (by omega)
 obtain ⟨B,hBe⟩ : ∃ B,val b = B :=⟨_,rfl⟩
 rw [hBe] at hB hbl ⊢
 refine aF false 60 [.tmp 4,.tmp 5] Tryz.func108 rfl rfl rfl (by simp) (by decide) rfl fun X hX => ?_
 (repeat (refine a7 q13x1 hX mixed rfl ?_;simp [go_sem];try refine ⟨by kernel_rfl,?_⟩))
 try (repeat refine And.intro (by first | omega | (unfold maxLen;omega) | kernel_rfl | (constructor <;> first | omega | (unfold maxLen;omega)) | grind) ?_)
 try (repeat (refine a7 q13x1 hX mixed rfl ?_;simp [go_sem,hw0];try refine ⟨by kernel_rfl,?_⟩))
 refine aH (fun x : Nat × List Int × Int => ⟨mkE [(0,il a),(1,il b),(6,.ow 0),(7,il (dg x.2.2)),(8,ii ((x.1 : Int) - 1))],[rowI (List.replicate x.1 (0 : Int) ++ x.2.1)]⟩)
  (fun x => x.1 ≤ a.length ∧ okD x.2.1 ∧ x.1 + x.2.1.length = a.length ∧ 0 ≤ x.2.2 ∧ x.2.2 < B ∧ B * val x.2.1 + x.2.2 = val (a.drop x.1)) (fun x => x.1) (a.length,[],0) ?_ ?_ ?_
 · refine aG _ [.old 0 ⟨3,1,(List.replicate a.length (0 : Int) ++ []).map ii⟩] ?_ ?_
   · simp [go_sem,List.map_replicate]
   · simp [go_sem,jC]
 · refine ⟨Nat.le_refl _,cP,by simp,Int.le_refl _,hB,?_⟩
   simp [val]
 · rintro ⟨i,Q,r⟩ ⟨h1,h2,h3,h4,h5,h6⟩
   simp only [] at h1 h2 h3 h4 h5 h6
   cases i with
   | zero =>
     simp only [List.replicate_zero,List.nil_append,List.drop_zero] at h6 ⊢
     have hq : val a / B = val Q ∧ val a % B = r :=(Int.ediv_emod_unique hB).2 ⟨by omega,h4,h5⟩
     rw [hq.1,hq.2]
     (repeat (refine a7 q13x1 hX mixed rfl ?_;simp [go_sem];try refine ⟨by kernel_rfl,?_⟩))
     refine aC (by simp [go_sem]) ?_
     (repeat (refine a7 q13x1 hX mixed rfl ?_;simp [go_sem];try refine ⟨by kernel_rfl,?_⟩))
     first | refine a8 (dC Q (by omega) h2) ?_ | refine aA (dC Q (by omega) h2) ?_
     try (simp [go_sem];try refine ⟨by kernel_rfl,?_⟩)
     (repeat (refine a7 q13x1 hX mixed rfl ?_;simp [go_sem];try refine ⟨by kernel_rfl,?_⟩))
   | succ i =>
     have hi : i < a.length :=by omega
     have hii : ((i + 1 : Nat) : Int) - 1 = i :=by omega
     have hd0 :=dR a i
     rw [gV hi] at hd0
     have hdb :=bH ha hi
     rw [hii]
     obtain ⟨d,hd⟩ : ∃ d,a[i] = d :=⟨_,rfl⟩
     rw [hd] at hd0 hdb
     have hrl : (dg r).length ≤ b.length :=jI h4 h5 hbl
     have hokr : okD (d :: dg r) :=aU.2 ⟨hdb,aO r⟩
     have hvr : val (d :: dg r) = d + 1048576 * r :=by simp only [val]; rw [bF h4]
     have ht :=dC (d :: dg r) (by simp only [List.length_cons]; omega) hokr
     rw [hvr] at ht
     have hYb : 0 ≤ d + 1048576 * r ∧ d + 1048576 * r < 1048576 * B :=by omega
     have hstep :=fun lo => CI (d :=d) (lo :=lo) hB h6 ⟨h4,h5⟩
     have hXl : (dg (d + 1048576 * r)).length ≤ b.length + 1 :=by
      refine jI hYb.1 hYb.2 ?_
      rw [Int.pow_succ]; omega
     obtain ⟨Y,hXe⟩ : ∃ Y,d + 1048576 * r = Y :=⟨_,rfl⟩
     rw [hXe] at ht hYb hXl
     simp only [hXe] at hstep
     (repeat (refine a7 q13x1 hX mixed rfl ?_;simp [go_sem];try refine ⟨by kernel_rfl,?_⟩))
     refine aK (by simp [go_sem]; try omega) ?_
     (repeat (refine a7 q13x1 hX mixed rfl ?_;simp [go_sem,hi,hd];try refine ⟨by kernel_rfl,?_⟩))
     try (repeat refine And.intro (by first | omega | (unfold maxLen;omega) | kernel_rfl | (constructor <;> first | omega | (unfold maxLen;omega)) | grind) ?_)
     try (repeat (refine a7 q13x1 hX mixed rfl ?_;simp [go_sem,hi,hd];try refine ⟨by kernel_rfl,?_⟩))
     first | refine a8 (ht) ?_ | refine aA (ht) ?_
     try (simp [go_sem];try refine ⟨by kernel_rfl,?_⟩)
     (repeat (refine a7 q13x1 hX mixed rfl ?_;simp [go_sem];try refine ⟨by kernel_rfl,?_⟩))
     refine aH (fun y : Int × Int => ⟨mkE [(0,il a),(1,il b),(6,.ow 0),(7,il (dg Y)),(8,ii i),(9,ii y.1),(10,ii y.2)],[rowI (List.replicate (i + 1) 0 ++ Q)]⟩)
      (fun y => 0 ≤ y.1 ∧ y.1 < y.2 ∧ y.2 ≤ 1048576 ∧ y.1 * B ≤ Y ∧ Y < y.2 * B) (fun y => (y.2 - y.1).toNat) (0,1048576) ?_ ?_ ?_
     · refine aG _ [.old 0 ⟨3,1,(List.replicate (i + 1) (0 : Int) ++ Q).map ii⟩] (by simp [go_sem]) ?_
       simp [go_sem]
     · refine ⟨by simp,by simp,by simp,by simp; omega,?_⟩
       show Y < 1048576 * B
       omega
     · rintro ⟨lo,hi'⟩ ⟨g1,g2,g3,g4,g5⟩
       simp only [] at g1 g2 g3 g4 g5
       have wd :=w64 (x :=hi' - lo) (by omega) (by omega)
       have ws :=w64 (x :=lo + hi') (by omega) (by omega)
       (repeat (refine a7 q13x1 hX mixed rfl ?_;simp [go_sem,wd];try refine ⟨by kernel_rfl,?_⟩))
       refine aB (b :=decide (1 < hi' - lo)) (by simp [go_sem,wd]) (fun hc => ?_) (fun hc => ?_)
       · simp only [decide_eq_true_eq] at hc
         have hmd : (lo + hi').tdiv 2 = (lo + hi') / 2 :=Int.tdiv_eq_ediv_of_nonneg (by omega)
         obtain ⟨m,hm⟩ : ∃ m,(lo + hi') / 2 = m :=⟨_,rfl⟩
         rw [hm] at hmd
         have hmb : lo < m ∧ m < hi' :=by omega
         have wm :=w64 (x :=m) (by omega) (by omega)
         have htm :=pO b [m] (by omega) (by simp) hb (aU.2 ⟨by omega,cP⟩)
         have hvm : val b * val [m] = m * B :=by simp [val,hBe,Int.mul_comm]
         rw [hvm] at htm
         have hmB : 0 ≤ m * B :=Int.mul_nonneg (by omega) (by omega)
         have hmB2 : (dg (m * B)).length ≤ b.length + 1 :=by
          refine jI hmB (B :=1048576 * B) ?_ (by rw [Int.pow_succ]; omega)
          exact Int.mul_lt_mul_of_pos_right (by omega) hB
         have hls :=tL (dg Y) (dg (m * B)) (by omega) (by omega) (aO _) (aO _)
         rw [bF hYb.1,bF hmB] at hls
         (repeat (refine a7 q13x1 hX mixed rfl ?_;simp [go_sem,ws,hmd,wm];try refine ⟨by kernel_rfl,?_⟩))
         refine gQ (htm) rfl rfl ?_
         try (simp [go_sem];try refine ⟨by kernel_rfl,?_⟩)
         first | refine a8 (hls) ?_ | refine aA (hls) ?_
         try (simp [go_sem];try refine ⟨by kernel_rfl,?_⟩)
         refine aB (b :=decide (Y < m * B)) (by simp [go_sem]) (fun hf => ?_) (fun hf => ?_)
         · simp only [decide_eq_true_eq] at hf
           (repeat (refine a7 q13x1 hX mixed rfl ?_;simp [go_sem];try refine ⟨by kernel_rfl,?_⟩))
           refine ⟨lo,m,⟨by omega,by omega,by omega,by omega,by omega⟩,by omega,?_⟩
           refine aG _ [.old 0 ⟨3,1,(List.replicate (i + 1) (0 : Int) ++ Q).map ii⟩] (by simp [go_sem]) ?_
           simp [go_sem]
         · simp only [decide_eq_false_iff_not] at hf
           (repeat (refine a7 q13x1 hX mixed rfl ?_;simp [go_sem];try refine ⟨by kernel_rfl,?_⟩))
           refine ⟨m,hi',⟨by omega,by omega,by omega,by omega,by omega⟩,by omega,?_⟩
           refine aG _ [.old 0 ⟨3,1,(List.replicate (i + 1) (0 : Int) ++ Q).map ii⟩] (by simp [go_sem]) ?_
           simp [go_sem]
       · simp only [decide_eq_false_iff_not] at hc
         have e : hi' = lo + 1 :=by omega
         subst e
         obtain ⟨s1,s2,s3⟩ :=hstep lo g4 g5
         have htl :=dC [lo] (by simp) (aU.2 ⟨by omega,cP⟩)
         have hvl : val [lo] = lo :=by simp [val]
         rw [hvl] at htl
         have hll : (dg lo).length ≤ 1 :=by rw [aR]; omega
         have htm :=pO b (dg lo) (by omega) (by omega) hb (aO _)
         rw [bF g1,hBe] at htm
         have hBl : 0 ≤ B * lo :=Int.mul_nonneg (by omega) g1
         have hBl2 : (dg (B * lo)).length ≤ b.length + 1 :=jI hBl (B :=1048576 * B) (by omega) (by rw [Int.pow_succ]; omega)
         have hmn :=l3 (dg Y) (dg (B * lo)) (by omega) (by omega) (aO _) (aO _) (by rw [bF hYb.1,bF hBl]; omega)
         rw [bF hYb.1,bF hBl] at hmn
         have hrep : List.replicate (i + 1) (0 : Int) ++ Q = List.replicate i 0 ++ 0 :: Q :=by rw [List.replicate_succ',List.append_assoc]; rfl
         have hset : (List.replicate (i + 1) (0 : Int) ++ Q).set i lo = List.replicate i 0 ++ lo :: Q :=by
          rw [hrep,List.set_append_right _ _ (by simp)]; simp
         have hil : i < (List.replicate (i + 1) (0 : Int) ++ Q).length :=by simp; omega
         have wi :=w64 (x :=(i : Int) - 1) (by omega) (by omega)
         generalize hR : List.replicate (i + 1) (0 : Int) ++ Q = R at *
         (repeat (refine a7 q13x1 hX mixed rfl ?_;simp [go_sem,hil];try refine ⟨by kernel_rfl,?_⟩))
         try (repeat refine And.intro (by first | omega | (unfold maxLen;omega) | kernel_rfl | (constructor <;> first | omega | (unfold maxLen;omega)) | grind) ?_)
         first | refine a8 (htl) ?_ | refine aA (htl) ?_
         try (simp [go_sem];try refine ⟨by kernel_rfl,?_⟩)
         first | refine a8 (htm) ?_ | refine aA (htm) ?_
         try (simp [go_sem];try refine ⟨by kernel_rfl,?_⟩)
         first | refine a8 (hmn) ?_ | refine aA (hmn) ?_
         try (simp [go_sem];try refine ⟨by kernel_rfl,?_⟩)
         (repeat (refine a7 q13x1 hX mixed rfl ?_;simp [go_sem,wi];try refine ⟨by kernel_rfl,?_⟩))
         refine ⟨i,lo :: Q,Y - B * lo,⟨by omega,aU.2 ⟨by omega,h2⟩,by simp; omega,s2,s3,?_⟩,by omega,?_⟩
         · simp only [val]; rw [s1,hd0]
         · rw [← hset]
           refine aG _ [.old 0 ⟨3,1,(R.set i lo).map ii⟩] (by simp [go_sem]) ?_
           simp [go_sem]
end Go.Proofs.YthibhamepjhfjaaGreatDoor

