/-
  Lemmas for the statement at the top.
-/
import Derived.Test.YthibhamepjhfjaaGreatDoorTeP8
set_option linter.all false
namespace Go.Proofs.YthibhamepjhfjaaGreatDoor
open Go.RowKit Go.Ab
def q22x0 : List Nat :=[0,1,2,3,4,5,6,15,17,18,19,20,29,38,49]
def q22x1 : List Nat :=[0,1,2,3,4,5,6,7,8,9,17]
def q22x2 : List Nat :=[0,1,2,3,4,5,6,7,8,9,10,20]
def q22x3 : List Nat :=[0,1,2,3,4,5,6,7,8,9,10,11,12,20,30]
def q22x4 : List Nat :=[0,1,2,3,4,5,6,8,11,14,24,29]
def q22x5 : List Nat :=[0,2,3,4,5,9,13]
def q22x6 : List Nat :=[0,1,2,3,4,6,8,9,15]
def q22x7 : List Nat :=[0,1,2,3,4,5,13]
def q22x8 : List Nat :=[0,1,2,3,4,20]
attribute [go_sem] q22x0 q22x1 q22x2 q22x3 q22x4 q22x5 q22x6 q22x7 q22x8
attribute [local irreducible] AWP Go.Ab.Sub Means MeansH CallK CallG CallT CallGT
theorem wu {x : Int} (h1 : 0 ≤ x) (h2 : x < 18446744073709551616) : IntKind.u64.wrap x = x :=by
 unfold IntKind.wrap
 simp [IntKind.bits,IntKind.signed]
 omega
theorem wun {n : Int} (h1 : -9223372036854775808 ≤ n) (h2 : n < 0) : IntKind.u64.wrap (-(IntKind.u64.wrap n)) = -n :=by
 unfold IntKind.wrap
 simp [IntKind.bits,IntKind.signed]
 omega
theorem yP {x : Int} (h1 : 0 ≤ x) (h2 : x < 18446744073709551616) : andI .u64 x 1048575 = x % 1048576 :=by
 unfold andI
 rw [BitVec.toNat_and,BitVec.toNat_ofInt,BitVec.toNat_ofInt]
 show IntKind.u64.wrap (((x % (2 ^ 64 : Nat)).toNat &&& ((1048575 : Int) % (2 ^ 64 : Nat)).toNat : Nat) : Int) = _
 rw [show ((1048575 : Int) % (2 ^ 64 : Nat)).toNat = 1048575 by decide,x6,wu (by omega) (by omega)]
 omega
set_option maxHeartbeats 4000000 in
set_option maxRecDepth 20000 in
theorem HZ (n : Int) (hn : -9223372036854775808 ≤ n ∧ n ≤ 9223372036854775807) : Means false Tryz.prog 57 [ii n] (bigZ n) :=by
 have hab :=aV n
 have hlo : (dg (ab n)).length ≤ 4 :=by
  rw [aR]
  have : ab n ≤ 9223372036854775808 :=by unfold ab; split <;> omega
  have : (1048576 : Int) ^ 4 = 1208925819614629174706176 :=by decide
  omega
 refine aF false 25 [.cell 2 39] Tryz.func57 rfl rfl rfl (by simp) (by decide) rfl fun X hX => ?_
 (repeat (refine a7 q22x5 hX mixed rfl ?_;simp [go_sem];try refine ⟨by kernel_rfl,?_⟩))
 refine j5 ⟨mkE [(2,.el 0 2 0 0),(3,ii (if n < 0 then -1 else 1)),(4,uu (ab n))],[.row ⟨39,2,[.agg [ii 0,.nil]]⟩]⟩ ?_ ?_
 · refine aB (b :=decide (n < 0)) (by simp [go_sem]) (fun hd => ?_) (fun hd => ?_)
   · simp only [decide_eq_true_eq] at hd
     have hw :=wun hn.1 hd
     have hae : ab n = -n :=by unfold ab; rw [if_pos hd]
     (repeat (refine a7 q22x5 hX mixed rfl ?_;simp [go_sem,hw,hd,hae];try refine ⟨by kernel_rfl,?_⟩))
     refine aG _ [.old 0 ⟨39,2,[.agg [ii 0,.nil]]⟩] (by simp [go_sem]) ?_
     simp [go_sem,hw,hd,hae]
   · simp only [decide_eq_false_iff_not] at hd
     have hae : ab n = n :=by unfold ab; rw [if_neg hd]
     have hw :=wu (x :=n) (by omega) (by omega)
     (repeat (refine a7 q22x5 hX mixed rfl ?_;simp [go_sem,hd,hae,hw];try refine ⟨by kernel_rfl,?_⟩))
     refine aG _ [.old 0 ⟨39,2,[.agg [ii 0,.nil]]⟩] (by simp [go_sem]) ?_
     simp [go_sem,hd,hae,hw]
 · try (simp [go_sem];try refine ⟨by kernel_rfl,?_⟩)
   (repeat (refine a7 q22x5 hX mixed rfl ?_;simp [go_sem];try refine ⟨by kernel_rfl,?_⟩))
   refine aH (fun x : Int × List Int => ⟨mkE [(2,.el 0 2 0 0),(3,ii (if n < 0 then -1 else 1)),(4,uu x.1),(5,.ow 1)],[.row ⟨39,2,[.agg [ii 0,.nil]]⟩,.row ⟨3,1,x.2.map ii⟩]⟩)
    (fun x => 0 ≤ x.1 ∧ x.1 ≤ 9223372036854775808 ∧ x.2 ++ dg x.1 = dg (ab n)) (fun x => x.1.toNat) (ab n,[]) ?_ ?_ ?_
   · refine aG _ [.old 0 ⟨39,2,[.agg [ii 0,.nil]]⟩,.birth 3 1] (by simp [go_sem]) ?_
     simp [go_sem]
   · exact ⟨hab,by show ab n ≤ _; unfold ab; split <;> omega,by simp⟩
   · rintro ⟨u,L⟩ ⟨hu,hu2,hE⟩
     simp only [] at hu hu2 hE
     (repeat (refine a7 q22x5 hX mixed rfl ?_;simp [go_sem];try refine ⟨by kernel_rfl,?_⟩))
     refine aB (b :=decide (0 < u)) (by simp [go_sem]) (fun hd => ?_) (fun hd => ?_)
     · simp only [decide_eq_true_eq] at hd
       have ham :=yP hu (by omega)
       have hLl : L.length ≤ 4 :=by have :=congrArg List.length hE; simp at this; omega
       (repeat (refine a7 q22x5 hX mixed rfl ?_;simp [go_sem,ham]; (try simp (disch :=omega) only [w64,td,tm]);try refine ⟨by kernel_rfl,?_⟩))
       refine ⟨⟨by omega,by unfold maxLen; omega⟩,?_⟩
       (repeat (refine a7 q22x5 hX mixed rfl ?_;simp [go_sem]; (try simp (disch :=omega) only [w64,td,tm]);try refine ⟨by kernel_rfl,?_⟩))
       refine ⟨u / 1048576,L ++ [u % 1048576],⟨by omega,by omega,by rw [← hE,fF hd]; simp⟩,by omega,?_⟩
       refine aG _ [.old 0 ⟨39,2,[.agg [ii 0,.nil]]⟩,.old 3 ⟨3,1,(L ++ [u % 1048576]).map ii⟩] (by simp [go_sem]) ?_
       simp [go_sem]
     · simp only [decide_eq_false_iff_not] at hd
       have hu0 : u = 0 :=by omega
       subst hu0
       rw [jC,List.append_nil] at hE
       subst hE
       refine eO (st0 :=⟨mkE [(2,.el 0 2 0 0),(3,ii (if n < 0 then -1 else 1)),(5,il (dg (ab n)))],[.row ⟨39,2,[.agg [ii 0,.nil]]⟩]⟩) ?_ ?_
       · refine aG _ [.old 0 ⟨39,2,[.agg [ii 0,.nil]]⟩] (by simp [go_sem]) ?_
         simp [go_sem]
       · have hsgn :=cT (if n < 0 then -1 else 1) (dg (ab n)) n (by omega) (aO _) (by rw [aS]) (fun h => by rw [aS] at h; unfold ab at h; unfold sg; split <;> split at h <;> first | rfl | omega | (rw [if_pos (by omega)]))
         (repeat (refine a7 q22x5 hX mixed rfl ?_;simp [go_sem]; (try simp (disch :=omega) only [w64,td,tm]);try refine ⟨by kernel_rfl,?_⟩))
         first | refine a8 (hsgn) ?_ | refine aA (hsgn) ?_
         try (simp [go_sem];try refine ⟨by kernel_rfl,?_⟩)
         (repeat (refine a7 q22x5 hX mixed rfl ?_;simp [go_sem];try refine ⟨by kernel_rfl,?_⟩))
theorem LQ (k : Nat) {u d : Int} (h1 : 0 ≤ u) (h2 : u < 2 ^ k) (h3 : 0 ≤ d) (h4 : d * 2 ^ k + u < 18446744073709551616) : orI .u64 u (d * 2 ^ k) = u + d * 2 ^ k :=by
 obtain ⟨m,rfl⟩ :=Int.eq_ofNat_of_zero_le h1
 obtain ⟨n,rfl⟩ :=Int.eq_ofNat_of_zero_le h3
 have hm : m < 2 ^ k :=by
  have : ((m : Nat) : Int) < ((2 ^ k : Nat) : Int) :=by simpa using h2
  omega
 have hnn : (n : Int) * 2 ^ k = ((n * 2 ^ k : Nat) : Int) :=by simp
 rw [hnn] at h4 ⊢
 unfold orI
 rw [BitVec.toNat_or,BitVec.toNat_ofInt,BitVec.toNat_ofInt]
 show IntKind.u64.wrap (((((m : Nat) : Int) % (2 ^ 64 : Nat)).toNat ||| ((((n * 2 ^ k : Nat) : Int)) % (2 ^ 64 : Nat)).toNat : Nat) : Int) = _
 rw [show (((n * 2 ^ k : Nat) : Int) % (2 ^ 64 : Nat)).toNat = n <<< k by rw [Nat.shiftLeft_eq]; omega,show (((m : Nat) : Int) % (2 ^ 64 : Nat)).toNat = m by omega,
  Nat.or_comm,← Nat.shiftLeft_add_eq_or_of_lt hm,Nat.shiftLeft_eq,wu (by omega) (by omega)]
 omega
theorem qI {L : List Int} {i : Nat} (h : i < L.length) : val (L.take (i + 1)) = val (L.take i) + 1048576 ^ i * L[i] :=by
 rw [List.take_succ_eq_append_getElem h,eC,List.length_take,Nat.min_eq_left (by omega)]
 simp [val]
def inI (z : Int) : Bool :=decide (-9223372036854775808 ≤ z ∧ z ≤ 9223372036854775807)
set_option maxHeartbeats 4000000 in
set_option maxRecDepth 20000 in
theorem FW (z : Int) (hz : rz z) : Means false Tryz.prog 42 [bigZ z] (.tup [ii (if inI z then z else 0),bb (inI z)]) :=by
 have hlz :=bQ hz
 have hab :=aV z
 have hva :=aS z
 have hok :=aO (ab z)
 refine aF false 59 [.tmp 2,.tmp 3] Tryz.func42 rfl rfl rfl (by simp) (by decide) rfl fun X hX => ?_
 (repeat (refine a7 q22x0 hX mixed rfl ?_;simp [go_sem];try refine ⟨by kernel_rfl,?_⟩))
 first | refine a8 (bB z hz) ?_ | refine aA (bB z hz) ?_
 try (simp [go_sem];try refine ⟨by kernel_rfl,?_⟩)
 (repeat (refine a7 q22x0 hX mixed rfl ?_;simp [go_sem];try refine ⟨by kernel_rfl,?_⟩))
 refine aB (b :=decide (4 < (dg (ab z)).length)) (by simp [go_sem]; try omega) (fun hd => ?_) (fun hd => ?_)
 · simp only [decide_eq_true_eq] at hd
   have : ¬ (dg (ab z)).length ≤ 4 :=by omega
   rw [aR] at this
   have h4 : (1048576 : Int) ^ 4 = 1208925819614629174706176 :=by decide
   have hin : inI z = false :=by
    unfold inI
    rcases aE z with h | h | h <;> simp <;> omega
   (repeat (refine a7 q22x0 hX mixed rfl ?_;simp [go_sem,hin];try refine ⟨by kernel_rfl,?_⟩))
 · simp only [decide_eq_false_iff_not] at hd
   generalize hL : dg (ab z) = L at *
   (repeat (refine a7 q22x0 hX mixed rfl ?_;simp [go_sem];try refine ⟨by kernel_rfl,?_⟩))
   refine aH (fun x : Nat => ⟨mkE [(1,.el 0 2 0 0),(4,uu (val (L.take x))),(17,il L),(18,ii L.length),(19,ii x)],[.row ⟨39,2,[big2 (sg z) L]⟩]⟩)
    (fun x => x ≤ L.length ∧ (x = 4 → ab z < 10376293541461622784)) (fun x => L.length - x) 0 ?_ ?_ ?_
   · refine aG _ [.old 0 ⟨39,2,[big2 (sg z) L]⟩] (by simp [go_sem,hL]) ?_
     simp [go_sem,val,hL]
   · exact ⟨Nat.zero_le _,fun h => by omega⟩
   · rintro i ⟨hi,hi4⟩
     (repeat (refine a7 q22x0 hX mixed rfl ?_;simp [go_sem];try refine ⟨by kernel_rfl,?_⟩))
     refine aB (b :=decide (i < L.length)) (by simp [go_sem]) (fun hd2 => ?_) (fun hd2 => ?_)
     · simp at hd2
       have hx :=bH hok hd2
       have hlt :=dF (bL hok i)
       have hge :=aT (bL hok i)
       rw [List.length_take,Nat.min_eq_left hi] at hlt
       have hvs :=qI hd2
       have hpw : (1048576 : Int) ^ i = 2 ^ (20 * i) :=by rw [Int.pow_mul]; rfl
       have hvs2 : val (L.take (i + 1)) = val (L.take i) + L[i] * 2 ^ (20 * i) :=by rw [hvs,hpw,Int.mul_comm]
       have hw1 :=wu (x :=L[i]) (by omega) (by omega)
       have hw2 :=w64 (x :=20 * (i : Int)) (by omega) (by omega)
       have hmin : min (20 * (i : Int)).toNat 64 = 20 * i :=by omega
       have hpos : (0 : Int) ≤ 20 * i :=by omega
       have hgo : (L[i] * 2 ^ (20 * i) + val (L.take i) < 18446744073709551616) →
         True :=fun _ => trivial
       clear hgo
       have hsmall : i ≤ 2 → L[i] * 2 ^ (20 * i) + val (L.take i) < 18446744073709551616 ∧ L[i] * 2 ^ (20 * i) < 18446744073709551616 :=by
        intro h
        have : i = 0 ∨ i = 1 ∨ i = 2 :=by omega
        rcases this with rfl | rfl | rfl <;> simp at hlt ⊢ <;> omega
       by_cases h3 : i = 3
       · have h3i : (i : Int) = 3 :=by omega
         have e1 :=eq_true h3
         have e2 :=eq_true h3i
         have hp60 : (2 : Int) ^ (20 * i) = 1152921504606846976 :=by rw [h3]; decide
         rw [hpw,hp60] at hlt
         have hLv : val (L.take (i + 1)) = ab z :=by rw [← hva,List.take_of_length_le (by omega)]
         rw [hp60] at hvs2
         by_cases h8 : 8 < L[i]
         · have hin : inI z = false :=by
            unfold inI
            rcases aE z with h | h | h <;> simp <;> omega
           (repeat (refine a7 q22x0 hX mixed rfl ?_;simp [go_sem,hd2,e1,e2,h8];try refine ⟨by kernel_rfl,?_⟩))
           try (simp [go_sem,hd2,e1,e2,h8];try refine ⟨by kernel_rfl,?_⟩)
           (repeat (refine a7 q22x0 hX mixed rfl ?_;simp [go_sem,e1,e2,h8]; (try simp (disch :=omega) only [w64,td,tm]);try refine ⟨by kernel_rfl,?_⟩))
           try (simp [go_sem,e1,e2,h8];try refine ⟨by kernel_rfl,?_⟩)
           refine aK (by simp [go_sem]) ?_
           (repeat (refine a7 q22x0 hX mixed rfl ?_;simp [go_sem,hin];try refine ⟨by kernel_rfl,?_⟩))
         · have hp2 : (0 : Int) ≤ L[i] * 2 ^ (20 * i) :=Int.mul_nonneg hx.1 (Int.le_of_lt (Int.pow_pos (by decide)))
           have hor :=LQ (20 * i) (u :=val (L.take i)) (d :=L[i]) hge (by rw [hp60]; exact hlt) hx.1 (by rw [hp60]; omega)
           have hw3 :=wu (x :=L[i] * 2 ^ (20 * i)) hp2 (by rw [hp60]; omega)
           (repeat (refine a7 q22x0 hX mixed rfl ?_;simp [go_sem,hd2,e1,e2,h8];try refine ⟨by kernel_rfl,?_⟩))
           try (simp [go_sem,hd2,e1,e2,h8];try refine ⟨by kernel_rfl,?_⟩)
           (repeat (refine a7 q22x0 hX mixed rfl ?_;simp [go_sem,e1,e2,h8]; (try simp (disch :=omega) only [w64,td,tm]);try refine ⟨by kernel_rfl,?_⟩))
           try (simp [go_sem,e1,e2,h8];try refine ⟨by kernel_rfl,?_⟩)
           refine aC (by simp [go_sem]) ?_
           (repeat (refine a7 q22x0 hX mixed rfl ?_;simp [go_sem,hw1,hw2,hmin,hpos,hw3,hor]; (try simp (disch :=omega) only [w64,td,tm]);try refine ⟨by kernel_rfl,?_⟩))
           try (simp [go_sem,hw1,hw2,hmin,hpos,hw3,hor];try refine ⟨by kernel_rfl,?_⟩)
           refine ⟨i + 1,⟨by omega,fun _ => by omega⟩,by omega,?_⟩
           rw [← hp60] at hvs2
           refine aG _ [.old 0 ⟨39,2,[big2 (sg z) L]⟩] (by simp [go_sem,hL]) ?_
           simp [go_sem,hvs2,hL]
       · have h3i : ¬ (i : Int) = 3 :=by omega
         obtain ⟨hs1,hs2⟩ :=hsmall (by omega)
         have hp2 : (0 : Int) ≤ L[i] * 2 ^ (20 * i) :=Int.mul_nonneg hx.1 (Int.le_of_lt (Int.pow_pos (by decide)))
         have hor :=LQ (20 * i) (u :=val (L.take i)) (d :=L[i]) hge (by rw [← hpw]; exact hlt) hx.1 hs1
         have hw3 :=wu (x :=L[i] * 2 ^ (20 * i)) hp2 hs2
         (repeat (refine a7 q22x0 hX mixed rfl ?_;simp [go_sem,hd2,h3i];try refine ⟨by kernel_rfl,?_⟩))
         try (simp [go_sem,hd2,h3i];try refine ⟨by kernel_rfl,?_⟩)
         (repeat (refine a7 q22x0 hX mixed rfl ?_;simp [go_sem]; (try simp (disch :=omega) only [w64,td,tm]);try refine ⟨by kernel_rfl,?_⟩))
         refine aC (by simp [go_sem]) ?_
         (repeat (refine a7 q22x0 hX mixed rfl ?_;simp [go_sem,hw1,hw2,hmin,hpos,hw3,hor]; (try simp (disch :=omega) only [w64,td,tm]);try refine ⟨by kernel_rfl,?_⟩))
         try (simp [go_sem,hw1,hw2,hmin,hpos,hw3,hor];try refine ⟨by kernel_rfl,?_⟩)
         refine ⟨i + 1,⟨by omega,fun h => by omega⟩,by omega,?_⟩
         refine aG _ [.old 0 ⟨39,2,[big2 (sg z) L]⟩] (by simp [go_sem,hL]) ?_
         simp [go_sem,hvs2,hL]
     · have hil : i = L.length :=by simp at hd2; omega
       subst hil
       rw [List.take_length,hva]
       have hbd : ab z < 10376293541461622784 :=by
        by_cases h4 : L.length = 4
        · exact hi4 h4
        · have :=dF hok
          rw [hva] at this
          have hle : (1048576 : Int) ^ L.length ≤ 1048576 ^ 3 :=by
           have : L.length = 0 ∨ L.length = 1 ∨ L.length = 2 ∨ L.length = 3 :=by omega
           rcases this with h | h | h | h <;> rw [h] <;> decide
          have h3 : (1048576 : Int) ^ 3 = 1152921504606846976 :=by decide
          omega
       have hwn : 0 ≤ ab z → ab z ≤ 9223372036854775808 → sg z < 0 → IntKind.i64.wrap (IntKind.u64.wrap (-ab z)) = z :=by
        intro _ h1 h2
        have : ab z = -z :=by rcases aE z with h | h | h <;> omega
        unfold IntKind.wrap
        simp [IntKind.bits,IntKind.signed]
        omega
       by_cases hs : sg z < 0
       · have hz0 : ab z = -z :=by rcases aE z with h | h | h <;> omega
         by_cases hle : ab z ≤ 9223372036854775808
         · have hw :=hwn hab hle hs
           have hin : inI z = true :=by unfold inI; simp; omega
           (repeat (refine a7 q22x0 hX mixed rfl ?_;simp [go_sem,hs,hle];try refine ⟨by kernel_rfl,?_⟩))
           refine aK (by simp [go_sem]) ?_
           (repeat (refine a7 q22x0 hX mixed rfl ?_;simp [go_sem,hw,hin];try refine ⟨by kernel_rfl,?_⟩))
         · have hin : inI z = false :=by unfold inI; simp; omega
           have hs2 : ¬ 0 ≤ sg z :=by omega
           (repeat (refine a7 q22x0 hX mixed rfl ?_;simp [go_sem,hs,hle];try refine ⟨by kernel_rfl,?_⟩))
           refine aC (by simp [go_sem]) ?_
           (repeat (refine a7 q22x0 hX mixed rfl ?_;simp [go_sem,hs2];try refine ⟨by kernel_rfl,?_⟩))
           refine aC (by simp [go_sem]) ?_
           (repeat (refine a7 q22x0 hX mixed rfl ?_;simp [go_sem,hin];try refine ⟨by kernel_rfl,?_⟩))
       · have hz0 : ab z = z :=by rcases aE z with h | h | h <;> omega
         have hs2 : 0 ≤ sg z :=by omega
         by_cases hle : ab z < 9223372036854775808
         · have hw :=w64 (x :=ab z) (by omega) (by omega)
           rw [hz0] at hw
           have hin : inI z = true :=by unfold inI; simp; omega
           (repeat (refine a7 q22x0 hX mixed rfl ?_;simp [go_sem,hs];try refine ⟨by kernel_rfl,?_⟩))
           refine aC (by simp [go_sem]) ?_
           (repeat (refine a7 q22x0 hX mixed rfl ?_;simp [go_sem,hs2,hle];try refine ⟨by kernel_rfl,?_⟩))
           refine aK (by simp [go_sem]) ?_
           (repeat (refine a7 q22x0 hX mixed rfl ?_;simp [go_sem,hz0,hw,hin];try refine ⟨by kernel_rfl,?_⟩))
         · have hin : inI z = false :=by unfold inI; simp; omega
           (repeat (refine a7 q22x0 hX mixed rfl ?_;simp [go_sem,hs];try refine ⟨by kernel_rfl,?_⟩))
           refine aC (by simp [go_sem]) ?_
           (repeat (refine a7 q22x0 hX mixed rfl ?_;simp [go_sem,hs2,hle];try refine ⟨by kernel_rfl,?_⟩))
           refine aC (by simp [go_sem]) ?_
           (repeat (refine a7 q22x0 hX mixed rfl ?_;simp [go_sem,hin];try refine ⟨by kernel_rfl,?_⟩))
end Go.Proofs.YthibhamepjhfjaaGreatDoor

namespace Go.Proofs.YthibhamepjhfjaaGreatDoor
open Go.RowKit Go.Ab
attribute [local irreducible] AWP Go.Ab.Sub Means MeansH CallK CallG CallT CallGT
theorem wT {z w : Int} : (sg z = sg w ∧ dg (ab z) = dg (ab w)) ↔ z = w :=by
 constructor
 · rintro ⟨h1,h2⟩
   have :=KF (aV z) (aV w) h2
   rw [← wI z,← wI w,h1,this]
 · rintro rfl; exact ⟨rfl,rfl⟩
theorem GZ {z : Int} (h : ab z < 100000000000000000000000000000000) : rz z :=by
 unfold rz
 have : (100000000000000000000000000000000 : Int) < 1048576 ^ 60 :=by decide
 omega
theorem jK {z : Int} (h : -9223372036854775808 ≤ z ∧ z ≤ 9223372036854775807) : rz z :=GZ (by unfold ab; split <;> omega)
theorem bZ {z w p : Int} (hz : rz z) (hw : rz w) (hp : rz p) (e : z * w = p) : Means false Tryz.prog 64 [bigZ z,bigZ w] (.tup [bigZ p,ii 0]) :=by
 have :=I5 z w hz hw
 rwa [res,e,cN hp,yE hp] at this
theorem dQ {z w q r : Int} (hz : rz z) (hw : rz w) (h0 : w ≠ 0) (hq : dq z w = q) (hr : dr z w = r) : Means false Tryz.prog 58 [bigZ z,bigZ w] (.tup [bigZ q,bigZ r,ii 0]) :=by
 have :=KX z w hz hw h0
 rwa [hq,hr] at this
theorem uF {z w g : Int} (hz : rz z) (hw : rz w) (hg : (Int.gcd z w : Int) = g) : Means false Tryz.prog 63 [bigZ z,bigZ w] (.tup [bigZ g,ii 0]) :=by
 have :=ET z w hz hw
 rwa [hg] at this
theorem IC {z : Int} (h : -9223372036854775808 ≤ z ∧ z ≤ 9223372036854775807) : Means false Tryz.prog 42 [bigZ z] (.tup [ii z,bb true]) :=by
 have :=FW z (jK h)
 have e : inI z = true :=by unfold inI; simpa using h
 rwa [e,if_pos rfl] at this
theorem FN (a b : Int) : cmpI b a = -cmpI a b :=by unfold cmpI; split <;> (try split) <;> (try split) <;> (try split) <;> omega
theorem tX (a b : Int) : -1 ≤ cmpI a b ∧ cmpI a b ≤ 1 :=by unfold cmpI; split <;> (try split) <;> omega
theorem jD (a b : Int) : cmpI a b = 0 ↔ a = b :=by unfold cmpI; split <;> (try split) <;> omega
theorem nQ (a b : Int) : sg (a - b) = cmpI a b :=by unfold cmpI sg; split <;> (try split) <;> (try split) <;> (try split) <;> omega
theorem KZ {z w : Int} (h : w ≠ 0) : ab (dq z w) ≤ ab z :=by
 have hD : 0 < ab w :=by rcases aE w with h | h | h <;> omega
 unfold dq
 have e : ab (sg w * z) = ab z :=by
  rcases aE w with ⟨a1,_,_⟩ | ⟨a1,a2,_⟩ | ⟨a1,_,_⟩
  · rw [a1,Int.neg_one_mul,pN]
  · exact absurd a2 h
  · rw [a1,Int.one_mul]
 rw [← e]
 generalize sg w * z = x
 generalize ab w = D at *
 have h0 :=Int.mul_ediv_add_emod x D
 have h1 :=Int.emod_nonneg x (show D ≠ 0 by omega)
 have h2 :=Int.emod_lt_of_pos x hD
 generalize x / D = q at *
 generalize x % D = r at *
 rcases aE q with ⟨_,a2,a3⟩ | ⟨_,a2,a3⟩ | ⟨_,a2,a3⟩
 · have : D * q ≤ 1 * q :=Int.mul_le_mul_of_nonpos_right (by omega) (by omega)
   have : x < 0 :=by
    have : D * q ≤ D * (-1) :=Int.mul_le_mul_of_nonneg_left (by omega) (by omega)
    omega
   have hx : ab x = -x :=by unfold ab; rw [if_pos this]
   rw [a3,hx]
   have : (D - 1) * (q + 1) ≤ 0 :=Int.mul_nonpos_of_nonneg_of_nonpos (by omega) (by omega)
   rw [Int.sub_mul,Int.mul_add] at this
   omega
 · rw [a3]; exact aV x
 · have : 1 * q ≤ D * q :=Int.mul_le_mul_of_nonneg_right (by omega) (by omega)
   have hx : ab x = x :=by unfold ab; rw [if_neg (by omega)]
   rw [a3,hx]
   omega
theorem tO {a b : Int} {k : Nat} (h1 : ab a < 1048576 ^ k) (h2 : ab b < 1048576 ^ k) : ab (Int.gcd a b : Int) < 1048576 ^ k :=by
 have e : ab (Int.gcd a b : Int) = Int.gcd a b :=by unfold ab; rw [if_neg (by omega)]
 rw [e]
 by_cases ha : a = 0
 · subst ha
   rw [Int.gcd_zero_left,← fV]; exact h2
 · have hd :=Int.gcd_dvd_left a b
   have : (Int.gcd a b : Int) ≤ ab a :=by
    rw [fV]
    have :=Int.natAbs_dvd_natAbs.2 hd
    rw [Int.natAbs_natCast] at this
    have :=Nat.le_of_dvd (by omega) this
    omega
   omega
end Go.Proofs.YthibhamepjhfjaaGreatDoor

namespace Go.Proofs.YthibhamepjhfjaaGreatDoor
open Go.RowKit Go.Ab
def rf (p q : Int) : Prop :=rz p ∧ rz q ∧ 0 < q ∧ Int.gcd p q = 1
def np (p q : Int) : Int :=sg q * p / (Int.gcd p q : Int)
def nq (p q : Int) : Int :=ab q / (Int.gcd p q : Int)
theorem AW {a b c : Int} (h : Int.gcd a b = 1) (hd : a ∣ b * c) : a ∣ c :=by
 rw [← Int.natAbs_dvd_natAbs] at hd ⊢
 rw [Int.natAbs_mul] at hd
 exact Nat.Coprime.dvd_of_dvd_mul_left h hd
theorem F9 {x y u v : Int} (hy : 0 < y) (h1 : Int.gcd x y = 1) (hv : 0 < v) (h2 : Int.gcd u v = 1) (h : x * v = u * y) : x = u ∧ y = v :=by
 have d1 : y ∣ v :=AW (b :=x) (by rw [Int.gcd_comm]; exact h1) ⟨u,by rw [h,Int.mul_comm]⟩
 have d2 : v ∣ y :=AW (b :=u) (by rw [Int.gcd_comm]; exact h2) ⟨x,by rw [← h,Int.mul_comm]⟩
 have e : y = v :=Int.dvd_antisymm (by omega) (by omega) d1 d2
 subst e
 exact ⟨Int.eq_of_mul_eq_mul_right (by omega) h,rfl⟩
theorem tP {p q : Int} (hq : q ≠ 0) : 0 < (Int.gcd p q : Int) :=by
 have : Int.gcd p q ≠ 0 :=fun e => hq (Int.gcd_eq_zero_iff.1 e).2
 omega
theorem KG {p q : Int} (hq : q ≠ 0) : Int.gcd (sg q * p) (ab q) = Int.gcd p q :=by
 rcases aE q with ⟨h,_,h2⟩ | ⟨_,h,_⟩ | ⟨h,_,h2⟩
 · rw [h,h2,Int.neg_one_mul,Int.neg_gcd,Int.gcd_neg]
 · exact absurd h hq
 · rw [h,h2,Int.one_mul]
theorem pU {p q : Int} (hq : q ≠ 0) : 0 < nq p q ∧ Int.gcd (np p q) (nq p q) = 1 ∧ np p q * q = p * nq p q ∧ ab (np p q) ≤ ab p ∧ nq p q ≤ ab q ∧ np p q * (Int.gcd p q : Int) = sg q * p ∧ nq p q * (Int.gcd p q : Int) = ab q :=by
 have hg :=tP (p :=p) hq
 have d1 : (Int.gcd p q : Int) ∣ sg q * p :=Int.dvd_trans (Int.gcd_dvd_left p q) ⟨sg q,by rw [Int.mul_comm]⟩
 have d2 : (Int.gcd p q : Int) ∣ ab q :=by
  have :=Int.gcd_dvd_right p q
  rcases aE q with ⟨h,_,h2⟩ | ⟨_,h,h2⟩ | ⟨h,_,h2⟩ <;> rw [h2]
  · exact Int.dvd_neg.2 this
  · exact ⟨0,by simp⟩
  · exact this
 have e1 : np p q * (Int.gcd p q : Int) = sg q * p :=Int.ediv_mul_cancel d1
 have e2 : nq p q * (Int.gcd p q : Int) = ab q :=Int.ediv_mul_cancel d2
 have hgs :=KG (p :=p) hq
 have hc : Int.gcd (np p q) (nq p q) = 1 :=by
  have :=@Int.gcd_ediv_gcd_ediv_gcd (sg q * p) (ab q) (by rw [hgs]; omega)
  rwa [hgs] at this
 have haq : 0 < ab q :=by rcases aE q with h | h | h <;> omega
 have h0 : 0 < nq p q :=by
  refine Decidable.byContradiction fun hn => ?_
  have :=Int.mul_le_mul_of_nonneg_right (show nq p q ≤ 0 by omega) (show 0 ≤ (Int.gcd p q : Int) by omega)
  omega
 refine ⟨h0,hc,?_,?_,?_,e1,e2⟩
 · have hqs : q = sg q * ab q :=(wI q).symm
   rw [show np p q * q = np p q * (sg q * ab q) by rw [← hqs],← e2]
   rw [show np p q * (sg q * (nq p q * (Int.gcd p q : Int))) = sg q * nq p q * (np p q * (Int.gcd p q : Int)) by grind,e1]
   rcases aE q with ⟨h,_,h2⟩ | ⟨_,h,_⟩ | ⟨h,_,h2⟩
   · rw [h]; grind
   · exact absurd h hq
   · rw [h]; grind
 · have e3 : ab (np p q) * (Int.gcd p q : Int) = ab p :=by
    have e4 : ab (Int.gcd p q : Int) = (Int.gcd p q : Int) :=by unfold ab; rw [if_neg (by omega)]
    have :=congrArg ab e1
    rw [pP,e4,pP] at this
    rw [this]
    have : ab (sg q) = 1 :=by
     rcases aE q with ⟨h,_,h2⟩ | ⟨_,h,_⟩ | ⟨h,_,h2⟩
     · rw [h]; rfl
     · exact absurd h hq
     · rw [h]; rfl
    rw [this,Int.one_mul]
   have :=Int.mul_le_mul_of_nonneg_left (show 1 ≤ (Int.gcd p q : Int) by omega) (aV (np p q))
   omega
 · have :=Int.mul_le_mul_of_nonneg_left (show 1 ≤ (Int.gcd p q : Int) by omega) (show 0 ≤ nq p q by omega)
   omega
end Go.Proofs.YthibhamepjhfjaaGreatDoor

namespace Go.Proofs.YthibhamepjhfjaaGreatDoor
open Go.RowKit Go.Ab
attribute [local irreducible] AWP Go.Ab.Sub Means MeansH CallK CallG CallT CallGT
@[go_sem] theorem c_sg0 : sg 0 = 0 :=rfl
@[go_sem] theorem c_dg0 : dg (ab 0) = [] :=rfl
abbrev frac4 (s1 : Int) (L1 : List Int) (s2 : Int) (L2 : List Int) : AV :=.agg [ii s1,il L1,ii s2,il L2]
abbrev frZ (p q : Int) : AV :=frac4 (sg p) (dg (ab p)) (sg q) (dg (ab q))
def zv (s : Int) (L : List Int) : Int :=s * val L
theorem eE (z : Int) : zv (sg z) (dg (ab z)) = z :=by unfold zv; rw [aS,wI]
theorem II {s : Int} {L : List Int} (h : isR s L) : rz (zv s L) ∧ s = sg (zv s L) ∧ L = dg (ab (zv s L)) :=by
 obtain ⟨z,hz,rfl,rfl⟩ :=pQ h
 rw [eE]; exact ⟨hz,rfl,rfl⟩
def isF (s1 : Int) (L1 : List Int) (s2 : Int) (L2 : List Int) : Prop :=isR s1 L1 ∧ isR s2 L2 ∧ rf (zv s1 L1) (zv s2 L2)
noncomputable instance (s1 : Int) (L1 : List Int) (s2 : Int) (L2 : List Int) : Decidable (isF s1 L1 s2 L2) :=Classical.propDecidable _
theorem yH {p q : Int} (h : rf p q) : isF (sg p) (dg (ab p)) (sg q) (dg (ab q)) :=⟨lQ h.1,lQ h.2.1,by rw [eE,eE]; exact h⟩
theorem yG {s1 s2 : Int} {L1 L2 : List Int} (h : isF s1 L1 s2 L2) : ∃ p q,rf p q ∧ s1 = sg p ∧ L1 = dg (ab p) ∧ s2 = sg q ∧ L2 = dg (ab q) :=by
 obtain ⟨h1,h2,h3⟩ :=h
 obtain ⟨_,a1,a2⟩ :=II h1
 obtain ⟨_,b1,b2⟩ :=II h2
 exact ⟨_,_,h3,a1,a2,b1,b2⟩
theorem IJ (z : Int) (hz : rz z) : Means false Tryz.prog 75 [bigZ z] (bb (decide (z = 1))) :=by
 refine aF false 15 [.tmp 2] Tryz.func75 rfl rfl rfl (by simp) (by decide) rfl fun X hX => ?_
 (repeat (refine a7 [0,1,2,3,4] hX mixed rfl ?_;simp [go_sem];try refine ⟨by kernel_rfl,?_⟩))
 first | refine a8 (FW z hz) ?_ | refine aA (FW z hz) ?_
 try (simp [go_sem];try refine ⟨by kernel_rfl,?_⟩)
 by_cases h : inI z = true
 · (repeat (refine a7 [0,1,2,3,4] hX mixed rfl ?_;simp [go_sem,h];try refine ⟨by kernel_rfl,?_⟩))
 · have h1 : ¬ z = 1 :=by
    rintro rfl
    exact h (by decide)
   have hf : inI z = false :=by simpa using h
   (repeat (refine a7 [0,1,2,3,4] hX mixed rfl ?_;simp [go_sem,hf,h1];try refine ⟨by kernel_rfl,?_⟩))
set_option maxHeartbeats 4000000 in
set_option maxRecDepth 20000 in
theorem j2 (s1 : Int) (L1 : List Int) (l1 : L1.length ≤ 9223372036854775807) (s2 : Int) (L2 : List Int) (l2 : L2.length ≤ 9223372036854775807) : Means false Tryz.prog 41 [frac4 s1 L1 s2 L2] (bb (decide (isF s1 L1 s2 L2))) :=by
 refine aF false 35 [.tmp 2] Tryz.func41 rfl rfl rfl (by simp) (by decide) rfl fun X hX => ?_
 (repeat (refine a7 q22x8 hX mixed rfl ?_;simp [go_sem];try refine ⟨by kernel_rfl,?_⟩))
 first | refine a8 (l4 s1 L1 l1) ?_ | refine aA (l4 s1 L1 l1) ?_
 try (simp [go_sem];try refine ⟨by kernel_rfl,?_⟩)
 first | refine aP (fun hg => l4 s2 L2 l2) ?_ | refine aM (fun hg => l4 s2 L2 l2) ?_
 try (simp [go_sem];try refine ⟨by kernel_rfl,?_⟩)
 by_cases h : isR s1 L1 ∧ isR s2 L2 ∧ s2 = 1
 · obtain ⟨h1,h2,h3⟩ :=h
   obtain ⟨p,hp,rfl,rfl⟩ :=pQ h1
   obtain ⟨q,hq,rfl,rfl⟩ :=pQ h2
   have hq0 : 0 < q :=by rcases aE q with h | h | h <;> omega
   have e : isF (sg p) (dg (ab p)) (sg q) (dg (ab q)) ↔ (Int.gcd p q : Int) = 1 :=by
    unfold isF rf
    rw [eE,eE]
    constructor
    · rintro ⟨_,_,_,_,_,h⟩; omega
    · intro h; exact ⟨h1,h2,hp,hq,hq0,by omega⟩
   have zg : rz (Int.gcd p q : Int) :=by
    unfold rz at *
    have :=tO hp hq
    exact this
   have h2' : isR 1 (dg (ab q)) :=by rw [← h3]; exact h2
   refine aC (by simp [go_sem,h1,h2,h2',h3]) ?_
   (repeat (refine a7 q22x8 hX mixed rfl ?_;simp [go_sem];try refine ⟨by kernel_rfl,?_⟩))
   first | refine a8 (ET p q hp hq) ?_ | refine aA (ET p q hp hq) ?_
   try (simp [go_sem];try refine ⟨by kernel_rfl,?_⟩)
   (repeat (refine a7 q22x8 hX mixed rfl ?_;simp [go_sem];try refine ⟨by kernel_rfl,?_⟩))
   first | refine aP (fun hg => IJ _ zg) ?_ | refine aM (fun hg => IJ _ zg) ?_
   try (simp [go_sem];try refine ⟨by kernel_rfl,?_⟩)
   (repeat (refine a7 q22x8 hX mixed rfl ?_;simp [go_sem,e];try refine ⟨by kernel_rfl,?_⟩))
 · have e : ¬ isF s1 L1 s2 L2 :=fun hf => h ⟨hf.1,hf.2.1,by
    obtain ⟨p,q,hr,_,_,rfl,_⟩ :=yG hf
    have :=hr.2.2.1
    rcases aE q with h | h | h <;> omega⟩
   refine aK (by simp [go_sem]; grind) ?_
   (repeat (refine a7 q22x8 hX mixed rfl ?_;simp [go_sem,e];try refine ⟨by kernel_rfl,?_⟩))
theorem bG (p q : Int) (h : rf p q) : Means false Tryz.prog 41 [frZ p q] (bb true) :=by
 have :=j2 (sg p) (dg (ab p)) (by have :=bQ h.1; omega) (sg q) (dg (ab q)) (by have :=bQ h.2.1; omega)
 rwa [decide_eq_true (yH h)] at this
theorem mH {p q p' : Int} (_hq : q ≠ 0) (h : p' = sg q * p) (hg : 0 < (Int.gcd p q : Int)) : dq p' (Int.gcd p q : Int) = np p q :=by
 unfold dq np
 have e1 : sg (Int.gcd p q : Int) = 1 :=by rcases aE (Int.gcd p q : Int) with h | h | h <;> omega
 have e2 : ab (Int.gcd p q : Int) = (Int.gcd p q : Int) :=by unfold ab; rw [if_neg (by omega)]
 rw [e1,e2,Int.one_mul,h]
theorem mI {p q q' : Int} (h : q' = ab q) (hg : 0 < (Int.gcd p q : Int)) : dq q' (Int.gcd p q : Int) = nq p q :=by
 unfold dq nq
 have e1 : sg (Int.gcd p q : Int) = 1 :=by rcases aE (Int.gcd p q : Int) with h | h | h <;> omega
 have e2 : ab (Int.gcd p q : Int) = (Int.gcd p q : Int) :=by unfold ab; rw [if_neg (by omega)]
 rw [e1,e2,Int.one_mul,h]
set_option maxHeartbeats 4000000 in
set_option maxRecDepth 20000 in
theorem AX (p q : Int) (hp : rz p) (hq : rz q) (h0 : q ≠ 0) : Means false Tryz.prog 25 [bigZ p,bigZ q] (.tup [frZ (np p q) (nq p q),ii 0]) :=by
 have hs0 : ¬ sg q = 0 :=by rcases aE q with h | h | h <;> omega
 have hgp :=tP (p :=p) h0
 have hg0 : (Int.gcd p q : Int) ≠ 0 :=by omega
 have zg : rz (Int.gcd p q : Int) :=tO hp hq
 have znp :=iQ hp
 have znq :=iQ hq
 refine aF false 60 [.cell 4 41,.tmp 5] Tryz.func25 rfl rfl rfl (by simp) (by decide) rfl fun X hX => ?_
 (repeat (refine a7 q22x4 hX mixed rfl ?_;simp [go_sem];try refine ⟨by kernel_rfl,?_⟩))
 first | refine a8 (bB p hp) ?_ | refine aA (bB p hp) ?_
 try (simp [go_sem];try refine ⟨by kernel_rfl,?_⟩)
 first | refine aP (fun hg => bB q hq) ?_ | refine aM (fun hg => bB q hq) ?_
 try (simp [go_sem];try refine ⟨by kernel_rfl,?_⟩)
 refine aC (by simp [go_sem]) ?_
 (repeat (refine a7 q22x4 hX mixed rfl ?_;simp [go_sem];try refine ⟨by kernel_rfl,?_⟩))
 refine aC (by simp [go_sem,hs0]) ?_
 (repeat (refine a7 q22x4 hX mixed rfl ?_;simp [go_sem];try refine ⟨by kernel_rfl,?_⟩))
 by_cases hn : q < 0
 · have hsq : sg q = -1 :=by unfold sg; rw [if_pos hn]
   refine aK (by simp [go_sem,hsq]) ?_
   (repeat (refine a7 q22x4 hX mixed rfl ?_;simp [go_sem];try refine ⟨by kernel_rfl,?_⟩))
   first | refine a8 (mK p hp) ?_ | refine aA (mK p hp) ?_
   try (simp [go_sem];try refine ⟨by kernel_rfl,?_⟩)
   first | refine a8 (mK q hq) ?_ | refine aA (mK q hq) ?_
   try (simp [go_sem];try refine ⟨by kernel_rfl,?_⟩)
   (repeat (refine a7 q22x4 hX mixed rfl ?_;simp [go_sem];try refine ⟨by kernel_rfl,?_⟩))
   first | refine a8 (uF (g :=(Int.gcd p q : Int)) znp znq (by rw [Int.neg_gcd,Int.gcd_neg])) ?_ | refine aA (uF (g :=(Int.gcd p q : Int)) znp znq (by rw [Int.neg_gcd,Int.gcd_neg])) ?_
   try (simp [go_sem];try refine ⟨by kernel_rfl,?_⟩)
   (repeat (refine a7 q22x4 hX mixed rfl ?_;simp [go_sem];try refine ⟨by kernel_rfl,?_⟩))
   first | refine a8 (dQ znp zg hg0 (mH h0 (by rw [hsq,Int.neg_one_mul]) hgp) rfl) ?_ | refine aA (dQ znp zg hg0 (mH h0 (by rw [hsq,Int.neg_one_mul]) hgp) rfl) ?_
   try (simp [go_sem];try refine ⟨by kernel_rfl,?_⟩)
   (repeat (refine a7 q22x4 hX mixed rfl ?_;simp [go_sem];try refine ⟨by kernel_rfl,?_⟩))
   first | refine a8 (dQ znq zg hg0 (mI (by unfold ab; rw [if_pos hn]) hgp) rfl) ?_ | refine aA (dQ znq zg hg0 (mI (by unfold ab; rw [if_pos hn]) hgp) rfl) ?_
   try (simp [go_sem];try refine ⟨by kernel_rfl,?_⟩)
   (repeat (refine a7 q22x4 hX mixed rfl ?_;simp [go_sem];try refine ⟨by kernel_rfl,?_⟩))
 · have hsq : sg q = 1 :=by rcases aE q with h | h | h <;> omega
   refine aC (by simp [go_sem,hsq]) ?_
   (repeat (refine a7 q22x4 hX mixed rfl ?_;simp [go_sem];try refine ⟨by kernel_rfl,?_⟩))
   first | refine a8 (uF (g :=(Int.gcd p q : Int)) hp hq (rfl)) ?_ | refine aA (uF (g :=(Int.gcd p q : Int)) hp hq (rfl)) ?_
   try (simp [go_sem];try refine ⟨by kernel_rfl,?_⟩)
   (repeat (refine a7 q22x4 hX mixed rfl ?_;simp [go_sem];try refine ⟨by kernel_rfl,?_⟩))
   first | refine a8 (dQ hp zg hg0 (mH h0 (by rw [hsq,Int.one_mul]) hgp) rfl) ?_ | refine aA (dQ hp zg hg0 (mH h0 (by rw [hsq,Int.one_mul]) hgp) rfl) ?_
   try (simp [go_sem];try refine ⟨by kernel_rfl,?_⟩)
   (repeat (refine a7 q22x4 hX mixed rfl ?_;simp [go_sem];try refine ⟨by kernel_rfl,?_⟩))
   first | refine a8 (dQ hq zg hg0 (mI (by unfold ab; rw [if_neg hn]) hgp) rfl) ?_ | refine aA (dQ hq zg hg0 (mI (by unfold ab; rw [if_neg hn]) hgp) rfl) ?_
   try (simp [go_sem];try refine ⟨by kernel_rfl,?_⟩)
   (repeat (refine a7 q22x4 hX mixed rfl ?_;simp [go_sem];try refine ⟨by kernel_rfl,?_⟩))
set_option maxHeartbeats 4000000 in
theorem LR (p q : Int) (hp : -9223372036854775808 ≤ p ∧ p ≤ 9223372036854775807) (hq : -9223372036854775808 ≤ q ∧ q ≤ 9223372036854775807) (h0 : q ≠ 0) : Means false Tryz.prog 21 [ii p,ii q] (.tup [frZ (np p q) (nq p q),ii 0]) :=by
 refine aF false 13 [.cell 4 41,.tmp 5] Tryz.func21 rfl rfl rfl (by simp) (by decide) rfl fun X hX => ?_
 (repeat (refine a7 [0,1,4,5] hX mixed rfl ?_;simp [go_sem];try refine ⟨by kernel_rfl,?_⟩))
 first | refine a8 (HZ p hp) ?_ | refine aA (HZ p hp) ?_
 try (simp [go_sem];try refine ⟨by kernel_rfl,?_⟩)
 first | refine a8 (HZ q hq) ?_ | refine aA (HZ q hq) ?_
 try (simp [go_sem];try refine ⟨by kernel_rfl,?_⟩)
 first | refine a8 (AX p q (jK hp) (jK hq) h0) ?_ | refine aA (AX p q (jK hp) (jK hq) h0) ?_
 try (simp [go_sem];try refine ⟨by kernel_rfl,?_⟩)
 (repeat (refine a7 [0,1,4,5] hX mixed rfl ?_;simp [go_sem];try refine ⟨by kernel_rfl,?_⟩))
theorem cI {a b : Int} (ha : rz a) (hb : rz b) (h : ¬ rz (a * b)) : Means false Tryz.prog 64 [bigZ a,bigZ b] (.tup [bigZ 0,ii 6]) :=by
 have :=I5 a b ha hb
 rwa [res,r60,e60,if_neg h,if_neg h] at this
noncomputable def sumP (a b c d : Int) : Prop :=rz (a * b) ∧ rz (c * d) ∧ rz (a * b + c * d)
noncomputable instance (a b c d : Int) : Decidable (sumP a b c d) :=Classical.propDecidable _
set_option maxHeartbeats 4000000 in
theorem IK (a b c d : Int) (ha : rz a) (hb : rz b) (hc : rz c) (hd : rz d) : Means false Tryz.prog 94 [bigZ a,bigZ b,bigZ c,bigZ d] (.tup [bigZ (if sumP a b c d then a * b + c * d else 0),ii (if sumP a b c d then 0 else 6)]) :=by
 refine aF false 38 [.cell 8 39,.tmp 9] Tryz.func94 rfl rfl rfl (by simp) (by decide) rfl fun X hX => ?_
 (repeat (refine a7 q22x3 hX mixed rfl ?_;simp [go_sem];try refine ⟨by kernel_rfl,?_⟩))
 by_cases h1 : rz (a * b)
 · first | refine a8 (bZ ha hb h1 rfl) ?_ | refine aA (bZ ha hb h1 rfl) ?_
   try (simp [go_sem];try refine ⟨by kernel_rfl,?_⟩)
   (repeat (refine a7 q22x3 hX mixed rfl ?_;simp [go_sem];try refine ⟨by kernel_rfl,?_⟩))
   refine aC (by simp [go_sem]) ?_
   (repeat (refine a7 q22x3 hX mixed rfl ?_;simp [go_sem];try refine ⟨by kernel_rfl,?_⟩))
   by_cases h2 : rz (c * d)
   · first | refine a8 (bZ hc hd h2 rfl) ?_ | refine aA (bZ hc hd h2 rfl) ?_
     try (simp [go_sem];try refine ⟨by kernel_rfl,?_⟩)
     (repeat (refine a7 q22x3 hX mixed rfl ?_;simp [go_sem];try refine ⟨by kernel_rfl,?_⟩))
     refine aC (by simp [go_sem]) ?_
     (repeat (refine a7 q22x3 hX mixed rfl ?_;simp [go_sem];try refine ⟨by kernel_rfl,?_⟩))
     first | refine a8 (I6 _ _ h1 h2) ?_ | refine aA (I6 _ _ h1 h2) ?_
     try (simp [go_sem];try refine ⟨by kernel_rfl,?_⟩)
     have e : sumP a b c d ↔ rz (a * b + c * d) :=⟨fun h => h.2.2,fun h => ⟨h1,h2,h⟩⟩
     (repeat (refine a7 q22x3 hX mixed rfl ?_;simp [go_sem,e,r60,e60];try refine ⟨by kernel_rfl,?_⟩))
   · have e : ¬ sumP a b c d :=fun h => h2 h.2.1
     first | refine a8 (cI hc hd h2) ?_ | refine aA (cI hc hd h2) ?_
     try (simp [go_sem];try refine ⟨by kernel_rfl,?_⟩)
     (repeat (refine a7 q22x3 hX mixed rfl ?_;simp [go_sem];try refine ⟨by kernel_rfl,?_⟩))
     refine aK (by simp [go_sem]) ?_
     (repeat (refine a7 q22x3 hX mixed rfl ?_;simp [go_sem,e];try refine ⟨by kernel_rfl,?_⟩))
 · have e : ¬ sumP a b c d :=fun h => h1 h.1
   first | refine a8 (cI ha hb h1) ?_ | refine aA (cI ha hb h1) ?_
   try (simp [go_sem];try refine ⟨by kernel_rfl,?_⟩)
   (repeat (refine a7 q22x3 hX mixed rfl ?_;simp [go_sem];try refine ⟨by kernel_rfl,?_⟩))
   refine aK (by simp [go_sem]) ?_
   (repeat (refine a7 q22x3 hX mixed rfl ?_;simp [go_sem,e];try refine ⟨by kernel_rfl,?_⟩))
noncomputable def resF (ok : Prop) [Decidable ok] (p q : Int) : AV :=if ok then .tup [frZ (np p q) (nq p q),ii 0] else .tup [frZ 0 0,ii 6]
theorem cY {ok : Prop} [Decidable ok] {p q : Int} (h : ok) : resF ok p q = .tup [frZ (np p q) (nq p q),ii 0] :=if_pos h
theorem cO {ok : Prop} [Decidable ok] {p q : Int} (h : ¬ ok) : resF ok p q = .tup [frZ 0 0,ii 6] :=if_neg h
theorem uG {a b c d : Int} (ha : rz a) (hb : rz b) (hc : rz c) (hd : rz d) (h : sumP a b c d) : Means false Tryz.prog 94 [bigZ a,bigZ b,bigZ c,bigZ d] (.tup [bigZ (a * b + c * d),ii 0]) :=by
 have :=IK a b c d ha hb hc hd
 rwa [if_pos h,if_pos h] at this
theorem FX {a b c d : Int} (ha : rz a) (hb : rz b) (hc : rz c) (hd : rz d) (h : ¬ sumP a b c d) : Means false Tryz.prog 94 [bigZ a,bigZ b,bigZ c,bigZ d] (.tup [bigZ 0,ii 6]) :=by
 have :=IK a b c d ha hb hc hd
 rwa [if_neg h,if_neg h] at this
theorem aZ (p q e f : Int) (h : ¬ (e = 0 ∧ f = 0)) : Means false Tryz.prog 65 [bigZ p,ii e,bigZ q,ii f] (.tup [frZ 0 0,ii 6]) :=by
 refine aF false 22 [.cell 8 41,.tmp 9] Tryz.func65 rfl rfl rfl (by simp) (by decide) rfl fun X hX => ?_
 (repeat (refine a7 q22x6 hX mixed rfl ?_;simp [go_sem];try refine ⟨by kernel_rfl,?_⟩))
 refine aK (by simp [go_sem]; omega) ?_
 (repeat (refine a7 q22x6 hX mixed rfl ?_;simp [go_sem];try refine ⟨by kernel_rfl,?_⟩))
theorem dK (p q : Int) (hp : rz p) (hq : rz q) (h0 : q ≠ 0) : Means false Tryz.prog 65 [bigZ p,ii 0,bigZ q,ii 0] (.tup [frZ (np p q) (nq p q),ii 0]) :=by
 refine aF false 22 [.cell 8 41,.tmp 9] Tryz.func65 rfl rfl rfl (by simp) (by decide) rfl fun X hX => ?_
 (repeat (refine a7 q22x6 hX mixed rfl ?_;simp [go_sem];try refine ⟨by kernel_rfl,?_⟩))
 refine aC (by simp [go_sem]) ?_
 (repeat (refine a7 q22x6 hX mixed rfl ?_;simp [go_sem];try refine ⟨by kernel_rfl,?_⟩))
 first | refine a8 (AX p q hp hq h0) ?_ | refine aA (AX p q hp hq h0) ?_
 try (simp [go_sem];try refine ⟨by kernel_rfl,?_⟩)
 (repeat (refine a7 q22x6 hX mixed rfl ?_;simp [go_sem];try refine ⟨by kernel_rfl,?_⟩))
set_option maxHeartbeats 4000000 in
set_option maxRecDepth 20000 in
theorem IA (a b c d : Int) (hab : rf a b) (hcd : rf c d) : Means false Tryz.prog 60 [frZ a b,frZ c d] (resF (sumP a d c b ∧ rz (b * d)) (a * d + c * b) (b * d)) :=by
 have ha :=hab.1
 have hb :=hab.2.1
 have hc :=hcd.1
 have hd :=hcd.2.1
 have hb0 :=hab.2.2.1
 have hd0 :=hcd.2.2.1
 have hbd : b * d ≠ 0 :=Int.mul_ne_zero (by omega) (by omega)
 refine aF false 46 [.cell 4 41,.tmp 5] Tryz.func60 rfl rfl rfl (by simp) (by decide) rfl fun X hX => ?_
 (repeat (refine a7 q22x1 hX mixed rfl ?_;simp [go_sem];try refine ⟨by kernel_rfl,?_⟩))
 first | refine a8 (bG a b hab) ?_ | refine aA (bG a b hab) ?_
 try (simp [go_sem];try refine ⟨by kernel_rfl,?_⟩)
 first | refine aP (fun hg => bG c d hcd) ?_ | refine aM (fun hg => bG c d hcd) ?_
 try (simp [go_sem];try refine ⟨by kernel_rfl,?_⟩)
 refine aC (by simp [go_sem]) ?_
 (repeat (refine a7 q22x1 hX mixed rfl ?_;simp [go_sem];try refine ⟨by kernel_rfl,?_⟩))
 by_cases h1 : sumP a d c b
 · by_cases h2 : rz (b * d)
   · rw [cY ⟨h1,h2⟩]
     first | refine a8 (uG ha hd hc hb h1) ?_ | refine aA (uG ha hd hc hb h1) ?_
     try (simp [go_sem];try refine ⟨by kernel_rfl,?_⟩)
     (repeat (refine a7 q22x1 hX mixed rfl ?_;simp [go_sem];try refine ⟨by kernel_rfl,?_⟩))
     first | refine a8 (bZ hb hd h2 rfl) ?_ | refine aA (bZ hb hd h2 rfl) ?_
     try (simp [go_sem];try refine ⟨by kernel_rfl,?_⟩)
     (repeat (refine a7 q22x1 hX mixed rfl ?_;simp [go_sem];try refine ⟨by kernel_rfl,?_⟩))
     first | refine a8 (dK _ _ h1.2.2 h2 hbd) ?_ | refine aA (dK _ _ h1.2.2 h2 hbd) ?_
     try (simp [go_sem];try refine ⟨by kernel_rfl,?_⟩)
     (repeat (refine a7 q22x1 hX mixed rfl ?_;simp [go_sem];try refine ⟨by kernel_rfl,?_⟩))
   · rw [cO fun h => h2 h.2]
     first | refine a8 (uG ha hd hc hb h1) ?_ | refine aA (uG ha hd hc hb h1) ?_
     try (simp [go_sem];try refine ⟨by kernel_rfl,?_⟩)
     (repeat (refine a7 q22x1 hX mixed rfl ?_;simp [go_sem];try refine ⟨by kernel_rfl,?_⟩))
     first | refine a8 (cI hb hd h2) ?_ | refine aA (cI hb hd h2) ?_
     try (simp [go_sem];try refine ⟨by kernel_rfl,?_⟩)
     (repeat (refine a7 q22x1 hX mixed rfl ?_;simp [go_sem];try refine ⟨by kernel_rfl,?_⟩))
     first | refine a8 (aZ (a * d + c * b) 0 0 6 (by decide)) ?_ | refine aA (aZ (a * d + c * b) 0 0 6 (by decide)) ?_
     try (simp [go_sem];try refine ⟨by kernel_rfl,?_⟩)
     (repeat (refine a7 q22x1 hX mixed rfl ?_;simp [go_sem];try refine ⟨by kernel_rfl,?_⟩))
 · rw [cO fun h => h1 h.1]
   first | refine a8 (FX ha hd hc hb h1) ?_ | refine aA (FX ha hd hc hb h1) ?_
   try (simp [go_sem];try refine ⟨by kernel_rfl,?_⟩)
   (repeat (refine a7 q22x1 hX mixed rfl ?_;simp [go_sem];try refine ⟨by kernel_rfl,?_⟩))
   by_cases h2 : rz (b * d)
   · first | refine a8 (bZ hb hd h2 rfl) ?_ | refine aA (bZ hb hd h2 rfl) ?_
     try (simp [go_sem];try refine ⟨by kernel_rfl,?_⟩)
     (repeat (refine a7 q22x1 hX mixed rfl ?_;simp [go_sem];try refine ⟨by kernel_rfl,?_⟩))
     first | refine a8 (aZ 0 (b * d) 6 0 (by decide)) ?_ | refine aA (aZ 0 (b * d) 6 0 (by decide)) ?_
     try (simp [go_sem];try refine ⟨by kernel_rfl,?_⟩)
     (repeat (refine a7 q22x1 hX mixed rfl ?_;simp [go_sem];try refine ⟨by kernel_rfl,?_⟩))
   · first | refine a8 (cI hb hd h2) ?_ | refine aA (cI hb hd h2) ?_
     try (simp [go_sem];try refine ⟨by kernel_rfl,?_⟩)
     (repeat (refine a7 q22x1 hX mixed rfl ?_;simp [go_sem];try refine ⟨by kernel_rfl,?_⟩))
     first | refine a8 (aZ 0 0 6 6 (by decide)) ?_ | refine aA (aZ 0 0 6 6 (by decide)) ?_
     try (simp [go_sem];try refine ⟨by kernel_rfl,?_⟩)
     (repeat (refine a7 q22x1 hX mixed rfl ?_;simp [go_sem];try refine ⟨by kernel_rfl,?_⟩))
set_option maxHeartbeats 4000000 in
set_option maxRecDepth 20000 in
theorem L8 (a b c d : Int) (hab : rf a b) (hcd : rf c d) : Means false Tryz.prog 26 [frZ a b,frZ c d] (resF (rz (a * c) ∧ rz (b * d)) (a * c) (b * d)) :=by
 have ha :=hab.1
 have hb :=hab.2.1
 have hc :=hcd.1
 have hd :=hcd.2.1
 have hb0 :=hab.2.2.1
 have hd0 :=hcd.2.2.1
 have hbd : b * d ≠ 0 :=Int.mul_ne_zero (by omega) (by omega)
 refine aF false 42 [.cell 4 41,.tmp 5] Tryz.func26 rfl rfl rfl (by simp) (by decide) rfl fun X hX => ?_
 (repeat (refine a7 q22x1 hX mixed rfl ?_;simp [go_sem];try refine ⟨by kernel_rfl,?_⟩))
 first | refine a8 (bG a b hab) ?_ | refine aA (bG a b hab) ?_
 try (simp [go_sem];try refine ⟨by kernel_rfl,?_⟩)
 first | refine aP (fun hg => bG c d hcd) ?_ | refine aM (fun hg => bG c d hcd) ?_
 try (simp [go_sem];try refine ⟨by kernel_rfl,?_⟩)
 refine aC (by simp [go_sem]) ?_
 (repeat (refine a7 q22x1 hX mixed rfl ?_;simp [go_sem];try refine ⟨by kernel_rfl,?_⟩))
 by_cases h1 : rz (a * c)
 · by_cases h2 : rz (b * d)
   · rw [cY ⟨h1,h2⟩]
     first | refine a8 (bZ ha hc h1 rfl) ?_ | refine aA (bZ ha hc h1 rfl) ?_
     try (simp [go_sem];try refine ⟨by kernel_rfl,?_⟩)
     (repeat (refine a7 q22x1 hX mixed rfl ?_;simp [go_sem];try refine ⟨by kernel_rfl,?_⟩))
     first | refine a8 (bZ hb hd h2 rfl) ?_ | refine aA (bZ hb hd h2 rfl) ?_
     try (simp [go_sem];try refine ⟨by kernel_rfl,?_⟩)
     (repeat (refine a7 q22x1 hX mixed rfl ?_;simp [go_sem];try refine ⟨by kernel_rfl,?_⟩))
     first | refine a8 (dK _ _ h1 h2 hbd) ?_ | refine aA (dK _ _ h1 h2 hbd) ?_
     try (simp [go_sem];try refine ⟨by kernel_rfl,?_⟩)
     (repeat (refine a7 q22x1 hX mixed rfl ?_;simp [go_sem];try refine ⟨by kernel_rfl,?_⟩))
   · rw [cO fun h => h2 h.2]
     first | refine a8 (bZ ha hc h1 rfl) ?_ | refine aA (bZ ha hc h1 rfl) ?_
     try (simp [go_sem];try refine ⟨by kernel_rfl,?_⟩)
     (repeat (refine a7 q22x1 hX mixed rfl ?_;simp [go_sem];try refine ⟨by kernel_rfl,?_⟩))
     first | refine a8 (cI hb hd h2) ?_ | refine aA (cI hb hd h2) ?_
     try (simp [go_sem];try refine ⟨by kernel_rfl,?_⟩)
     (repeat (refine a7 q22x1 hX mixed rfl ?_;simp [go_sem];try refine ⟨by kernel_rfl,?_⟩))
     first | refine a8 (aZ (a * c) 0 0 6 (by decide)) ?_ | refine aA (aZ (a * c) 0 0 6 (by decide)) ?_
     try (simp [go_sem];try refine ⟨by kernel_rfl,?_⟩)
     (repeat (refine a7 q22x1 hX mixed rfl ?_;simp [go_sem];try refine ⟨by kernel_rfl,?_⟩))
 · rw [cO fun h => h1 h.1]
   first | refine a8 (cI ha hc h1) ?_ | refine aA (cI ha hc h1) ?_
   try (simp [go_sem];try refine ⟨by kernel_rfl,?_⟩)
   (repeat (refine a7 q22x1 hX mixed rfl ?_;simp [go_sem];try refine ⟨by kernel_rfl,?_⟩))
   by_cases h2 : rz (b * d)
   · first | refine a8 (bZ hb hd h2 rfl) ?_ | refine aA (bZ hb hd h2 rfl) ?_
     try (simp [go_sem];try refine ⟨by kernel_rfl,?_⟩)
     (repeat (refine a7 q22x1 hX mixed rfl ?_;simp [go_sem];try refine ⟨by kernel_rfl,?_⟩))
     first | refine a8 (aZ 0 (b * d) 6 0 (by decide)) ?_ | refine aA (aZ 0 (b * d) 6 0 (by decide)) ?_
     try (simp [go_sem];try refine ⟨by kernel_rfl,?_⟩)
     (repeat (refine a7 q22x1 hX mixed rfl ?_;simp [go_sem];try refine ⟨by kernel_rfl,?_⟩))
   · first | refine a8 (cI hb hd h2) ?_ | refine aA (cI hb hd h2) ?_
     try (simp [go_sem];try refine ⟨by kernel_rfl,?_⟩)
     (repeat (refine a7 q22x1 hX mixed rfl ?_;simp [go_sem];try refine ⟨by kernel_rfl,?_⟩))
     first | refine a8 (aZ 0 0 6 6 (by decide)) ?_ | refine aA (aZ 0 0 6 6 (by decide)) ?_
     try (simp [go_sem];try refine ⟨by kernel_rfl,?_⟩)
     (repeat (refine a7 q22x1 hX mixed rfl ?_;simp [go_sem];try refine ⟨by kernel_rfl,?_⟩))
set_option maxHeartbeats 4000000 in
set_option maxRecDepth 20000 in
theorem LA (a b c d : Int) (hab : rf a b) (hcd : rf c d) (h0 : c ≠ 0) : Means false Tryz.prog 100 [frZ a b,frZ c d] (resF (rz (a * d) ∧ rz (b * c)) (a * d) (b * c)) :=by
 have ha :=hab.1
 have hb :=hab.2.1
 have hc :=hcd.1
 have hd :=hcd.2.1
 have hb0 :=hab.2.2.1
 have hd0 :=hcd.2.2.1
 have hbd : b * d ≠ 0 :=Int.mul_ne_zero (by omega) (by omega)
 refine aF false 49 [.cell 4 41,.tmp 5] Tryz.func100 rfl rfl rfl (by simp) (by decide) rfl fun X hX => ?_
 (repeat (refine a7 q22x2 hX mixed rfl ?_;simp [go_sem];try refine ⟨by kernel_rfl,?_⟩))
 first | refine a8 (bG a b hab) ?_ | refine aA (bG a b hab) ?_
 try (simp [go_sem];try refine ⟨by kernel_rfl,?_⟩)
 first | refine aP (fun hg => bG c d hcd) ?_ | refine aM (fun hg => bG c d hcd) ?_
 try (simp [go_sem];try refine ⟨by kernel_rfl,?_⟩)
 have hsc : ¬ sg c = 0 :=by rcases aE c with h | h | h <;> omega
 refine aC (by simp [go_sem]) ?_
 (repeat (refine a7 q22x2 hX mixed rfl ?_;simp [go_sem];try refine ⟨by kernel_rfl,?_⟩))
 refine aC (by simp [go_sem,hsc]) ?_
 (repeat (refine a7 q22x2 hX mixed rfl ?_;simp [go_sem];try refine ⟨by kernel_rfl,?_⟩))
 by_cases h1 : rz (a * d)
 · by_cases h2 : rz (b * c)
   · rw [cY ⟨h1,h2⟩]
     first | refine a8 (bZ ha hd h1 rfl) ?_ | refine aA (bZ ha hd h1 rfl) ?_
     try (simp [go_sem];try refine ⟨by kernel_rfl,?_⟩)
     (repeat (refine a7 q22x2 hX mixed rfl ?_;simp [go_sem];try refine ⟨by kernel_rfl,?_⟩))
     first | refine a8 (bZ hb hc h2 rfl) ?_ | refine aA (bZ hb hc h2 rfl) ?_
     try (simp [go_sem];try refine ⟨by kernel_rfl,?_⟩)
     (repeat (refine a7 q22x2 hX mixed rfl ?_;simp [go_sem];try refine ⟨by kernel_rfl,?_⟩))
     first | refine a8 (dK _ _ h1 h2 (Int.mul_ne_zero (by omega) h0)) ?_ | refine aA (dK _ _ h1 h2 (Int.mul_ne_zero (by omega) h0)) ?_
     try (simp [go_sem];try refine ⟨by kernel_rfl,?_⟩)
     (repeat (refine a7 q22x2 hX mixed rfl ?_;simp [go_sem];try refine ⟨by kernel_rfl,?_⟩))
   · rw [cO fun h => h2 h.2]
     first | refine a8 (bZ ha hd h1 rfl) ?_ | refine aA (bZ ha hd h1 rfl) ?_
     try (simp [go_sem];try refine ⟨by kernel_rfl,?_⟩)
     (repeat (refine a7 q22x2 hX mixed rfl ?_;simp [go_sem];try refine ⟨by kernel_rfl,?_⟩))
     first | refine a8 (cI hb hc h2) ?_ | refine aA (cI hb hc h2) ?_
     try (simp [go_sem];try refine ⟨by kernel_rfl,?_⟩)
     (repeat (refine a7 q22x2 hX mixed rfl ?_;simp [go_sem];try refine ⟨by kernel_rfl,?_⟩))
     first | refine a8 (aZ (a * d) 0 0 6 (by decide)) ?_ | refine aA (aZ (a * d) 0 0 6 (by decide)) ?_
     try (simp [go_sem];try refine ⟨by kernel_rfl,?_⟩)
     (repeat (refine a7 q22x2 hX mixed rfl ?_;simp [go_sem];try refine ⟨by kernel_rfl,?_⟩))
 · rw [cO fun h => h1 h.1]
   first | refine a8 (cI ha hd h1) ?_ | refine aA (cI ha hd h1) ?_
   try (simp [go_sem];try refine ⟨by kernel_rfl,?_⟩)
   (repeat (refine a7 q22x2 hX mixed rfl ?_;simp [go_sem];try refine ⟨by kernel_rfl,?_⟩))
   by_cases h2 : rz (b * c)
   · first | refine a8 (bZ hb hc h2 rfl) ?_ | refine aA (bZ hb hc h2 rfl) ?_
     try (simp [go_sem];try refine ⟨by kernel_rfl,?_⟩)
     (repeat (refine a7 q22x2 hX mixed rfl ?_;simp [go_sem];try refine ⟨by kernel_rfl,?_⟩))
     first | refine a8 (aZ 0 (b * c) 6 0 (by decide)) ?_ | refine aA (aZ 0 (b * c) 6 0 (by decide)) ?_
     try (simp [go_sem];try refine ⟨by kernel_rfl,?_⟩)
     (repeat (refine a7 q22x2 hX mixed rfl ?_;simp [go_sem];try refine ⟨by kernel_rfl,?_⟩))
   · first | refine a8 (cI hb hc h2) ?_ | refine aA (cI hb hc h2) ?_
     try (simp [go_sem];try refine ⟨by kernel_rfl,?_⟩)
     (repeat (refine a7 q22x2 hX mixed rfl ?_;simp [go_sem];try refine ⟨by kernel_rfl,?_⟩))
     first | refine a8 (aZ 0 0 6 6 (by decide)) ?_ | refine aA (aZ 0 0 6 6 (by decide)) ?_
     try (simp [go_sem];try refine ⟨by kernel_rfl,?_⟩)
     (repeat (refine a7 q22x2 hX mixed rfl ?_;simp [go_sem];try refine ⟨by kernel_rfl,?_⟩))
theorem KH {p q : Int} (h : rf p q) : rf (-p) q :=⟨iQ h.1,h.2.1,h.2.2.1,by rw [Int.neg_gcd]; exact h.2.2.2⟩
set_option maxHeartbeats 4000000 in
theorem L6 (a b c d : Int) (hab : rf a b) (hcd : rf c d) : Means false Tryz.prog 76 [frZ a b,frZ c d] (resF (sumP a d (-c) b ∧ rz (b * d)) (a * d + -c * b) (b * d)) :=by
 have hA :=IA a b (-c) d hab (KH hcd)
 by_cases h : sumP a d (-c) b ∧ rz (b * d)
 · rw [cY h] at hA ⊢
   refine aF false 25 [.cell 4 41,.tmp 5] Tryz.func76 rfl rfl rfl (by simp) (by decide) rfl fun X hX => ?_
   (repeat (refine a7 q22x7 hX mixed rfl ?_;simp [go_sem];try refine ⟨by kernel_rfl,?_⟩))
   first | refine a8 (bG a b hab) ?_ | refine aA (bG a b hab) ?_
   try (simp [go_sem];try refine ⟨by kernel_rfl,?_⟩)
   first | refine aP (fun hg => bG c d hcd) ?_ | refine aM (fun hg => bG c d hcd) ?_
   try (simp [go_sem];try refine ⟨by kernel_rfl,?_⟩)
   refine aC (by simp [go_sem]) ?_
   (repeat (refine a7 q22x7 hX mixed rfl ?_;simp [go_sem];try refine ⟨by kernel_rfl,?_⟩))
   first | refine a8 (mK c hcd.1) ?_ | refine aA (mK c hcd.1) ?_
   try (simp [go_sem];try refine ⟨by kernel_rfl,?_⟩)
   first | refine a8 (hA) ?_ | refine aA (hA) ?_
   try (simp [go_sem];try refine ⟨by kernel_rfl,?_⟩)
   (repeat (refine a7 q22x7 hX mixed rfl ?_;simp [go_sem];try refine ⟨by kernel_rfl,?_⟩))
 · rw [cO h] at hA ⊢
   refine aF false 25 [.cell 4 41,.tmp 5] Tryz.func76 rfl rfl rfl (by simp) (by decide) rfl fun X hX => ?_
   (repeat (refine a7 q22x7 hX mixed rfl ?_;simp [go_sem];try refine ⟨by kernel_rfl,?_⟩))
   first | refine a8 (bG a b hab) ?_ | refine aA (bG a b hab) ?_
   try (simp [go_sem];try refine ⟨by kernel_rfl,?_⟩)
   first | refine aP (fun hg => bG c d hcd) ?_ | refine aM (fun hg => bG c d hcd) ?_
   try (simp [go_sem];try refine ⟨by kernel_rfl,?_⟩)
   refine aC (by simp [go_sem]) ?_
   (repeat (refine a7 q22x7 hX mixed rfl ?_;simp [go_sem];try refine ⟨by kernel_rfl,?_⟩))
   first | refine a8 (mK c hcd.1) ?_ | refine aA (mK c hcd.1) ?_
   try (simp [go_sem];try refine ⟨by kernel_rfl,?_⟩)
   first | refine a8 (hA) ?_ | refine aA (hA) ?_
   try (simp [go_sem];try refine ⟨by kernel_rfl,?_⟩)
   (repeat (refine a7 q22x7 hX mixed rfl ?_;simp [go_sem];try refine ⟨by kernel_rfl,?_⟩))
end Go.Proofs.YthibhamepjhfjaaGreatDoor

