/-
  Lemmas for the statement at the top.
-/
import Derived.Test.YthibhamepjhfjaaGreatDoorTeP9
import Derived.Shelf.Strings.Builder1
import Derived.Shelf.Strings.Builder2
import Derived.Shelf.Strings.OnBuilder
import Derived.Shelf.Small.Wraps
import Derived.Shelf.Strings.BuilderF
import Derived.Shelf.Strconv.Itoa0
import Derived.Shelf.Strconv.Itoa1
import Derived.Shelf.LaysM
import Derived.Shelf.Strconv.Itoa2
import Derived.Shelf.Strconv.Itoa3
import Derived.Shelf.Strings.Prefix
import Derived.Shelf.Bits.Mul64
import Derived.Shelf.Strings.Repeat
import Derived.Ground.Names2Prog
import Derived.Shelf.Slices.ReverseS
import Derived.Shelf.Slices.Clone
import Derived.Shelf.Slices.Cells
import Derived.Test.YthibhamepjhfjaaGreatDoorProg
import Derived.Test.YthibhamepjhfjaaGreatDoorTeFw5
import Derived.Shelf.Strings.SlTrimAscii
import Derived.Lib.QuietBelow
set_option linter.all false
namespace Go.Proofs.YthibhamepjhfjaaGreatDoor
open Go.RowKit Go.Ab
def q9x0 : List Nat :=[0,1,2,3,4,5,6,7,8,11,16,26,43,44,46]
def q9x1 : List Nat :=[0,1,2,3,4,5,6,7,8,9,10,11,13,14,16,24,52,58]
def q9x2 : List Nat :=[0,1,2,3,4,5,19,24,37]
def q9x3 : List Nat :=[0,1,2,4,5,6,1000000]
attribute [go_sem] q9x0 q9x1 q9x2 q9x3
attribute [local irreducible] AWP Go.Ab.Sub Means MeansH CallK CallG CallT CallGT
theorem cG {p q : Int} (h : 0 < q) : dq p q = p / q ∧ dr p q = p % q :=by
 unfold dq dr
 have e1 : sg q = 1 :=by rcases aE q with h' | h' | h' <;> omega
 have e2 : ab q = q :=by unfold ab; rw [if_neg (by omega)]
 rw [e1,e2,Int.one_mul,Int.one_mul]; exact ⟨rfl,rfl⟩
theorem wN {a b : Int} (h : a < b) : cmpI a b = -1 :=by unfold cmpI; rw [if_pos h]
theorem wP {a b : Int} (h : b < a) : cmpI a b = 1 :=by unfold cmpI; rw [if_neg (by omega),if_pos h]
theorem A7 {p q r s : Int} (hq : 0 < q) (hs : 0 < s) (h : p / q ≠ r / s) : cmpI (p * s) (r * q) = cmpI (p / q) (r / s) :=by
 have a0 :=Int.mul_ediv_add_emod p q
 have a1 :=Int.emod_nonneg p (show q ≠ 0 by omega)
 have a2 :=Int.emod_lt_of_pos p hq
 have b0 :=Int.mul_ediv_add_emod r s
 have b1 :=Int.emod_nonneg r (show s ≠ 0 by omega)
 have b2 :=Int.emod_lt_of_pos r hs
 generalize p / q = x at *
 generalize r / s = y at *
 generalize p % q = u at *
 generalize r % s = v at *
 subst a0 b0
 have hqs : 0 < q * s :=Int.mul_pos hq hs
 have e : (q * x + u) * s - (s * y + v) * q = q * s * (x - y) + (u * s - v * q) :=by grind
 have u1 : u * s ≤ (q - 1) * s :=Int.mul_le_mul_of_nonneg_right (by omega) (by omega)
 have u0 : 0 ≤ u * s :=Int.mul_nonneg a1 (by omega)
 have v1 : v * q ≤ (s - 1) * q :=Int.mul_le_mul_of_nonneg_right (by omega) (by omega)
 have v0 : 0 ≤ v * q :=Int.mul_nonneg b1 (by omega)
 have e1 : (q - 1) * s = q * s - s :=by grind
 have e2 : (s - 1) * q = q * s - q :=by grind
 rcases Int.lt_or_gt_of_ne h with h | h
 · rw [wN h,wN]
   have : q * s * (x - y) ≤ q * s * (-1) :=Int.mul_le_mul_of_nonneg_left (by omega) (by omega)
   omega
 · rw [wP h,wP]
   have : q * s * 1 ≤ q * s * (x - y) :=Int.mul_le_mul_of_nonneg_left (by omega) (by omega)
   omega
theorem C6 (a b : Int) : cmpI a b = -cmpI b a :=by unfold cmpI; split <;> split <;> (try split) <;> omega
theorem wQ {a b c d : Int} (h : a - b = c - d) : cmpI a b = cmpI c d :=by rw [← nQ,← nQ,h]
theorem A8 {p q r s : Int} (h : p / q = r / s) : cmpI (p * s) (r * q) = cmpI (p % q * s) (r % s * q) :=by
 have a0 :=Int.mul_ediv_add_emod p q
 have b0 :=Int.mul_ediv_add_emod r s
 rw [h] at a0
 apply wQ
 generalize r / s = y at *
 generalize p % q = u at *
 generalize r % s = v at *
 subst a0 b0
 grind
theorem wR {u v q s : Int} (hq : 0 < q) (hs : 0 < s) (hu : 0 ≤ u) (hv : 0 ≤ v) (h : u = 0 ∨ v = 0) : cmpI (u * s) (v * q) = sg u - sg v :=by
 rcases h with h | h <;> subst h
 · rw [Int.zero_mul,← nQ,Int.zero_sub,tK,iR]
   have : sg q = 1 :=by rcases aE q with h' | h' | h' <;> omega
   rw [this,Int.mul_one]
   show _ = (0 : Int) - _
   omega
 · rw [Int.zero_mul,← nQ,Int.sub_zero,iR]
   have : sg s = 1 :=by rcases aE s with h' | h' | h' <;> omega
   rw [this,Int.mul_one]
   show _ = _ - (0 : Int)
   omega
theorem A9 {a b : Int} (h : ab a ≤ ab b) (hb : rz b) : rz a :=by unfold rz at *; omega
theorem tV {p q : Int} (hq : 0 < q) (h : rz q) : rz (p % q) :=by
 have a1 :=Int.emod_nonneg p (show q ≠ 0 by omega)
 have a2 :=Int.emod_lt_of_pos p hq
 refine A9 ?_ h
 unfold ab; split <;> split <;> omega
theorem tW {p q : Int} (hq : 0 < q) (h : rz p) : rz (p / q) :=by
 have :=KZ (z :=p) (w :=q) (by omega)
 rw [(cG hq).1] at this
 exact A9 this h
set_option maxHeartbeats 4000000 in
set_option maxRecDepth 20000 in
theorem C5 (a b c d : Int) (hab : rf a b) (hcd : rf c d) : Means false Tryz.prog 22 [frZ a b,frZ c d] (ii (cmpI (a * d) (c * b))) :=by
 have hb0 :=hab.2.2.1
 have hd0 :=hcd.2.2.1
 refine aF false 78 [.tmp 4] Tryz.func22 rfl rfl rfl (by simp) (by decide) rfl fun X hX => ?_
 (repeat (refine a7 q9x1 hX mixed rfl ?_;simp [go_sem];try refine ⟨by kernel_rfl,?_⟩))
 first | refine a8 (bG a b hab) ?_ | refine aA (bG a b hab) ?_
 try (simp [go_sem];try refine ⟨by kernel_rfl,?_⟩)
 first | refine aP (fun hg => bG c d hcd) ?_ | refine aM (fun hg => bG c d hcd) ?_
 try (simp [go_sem];try refine ⟨by kernel_rfl,?_⟩)
 refine aC (by simp [go_sem]) ?_
 (repeat (first | refine j8 ?_ | refine qT ?_ | ((first | refine w8 q9x1 hX ?_ | refine vE ?_ | refine vF ?_); (simp [go_sem];try refine ⟨by kernel_rfl,?_⟩))))
 refine xW q9x1 8 4 hX mixed ?_; (simp [go_sem];try refine ⟨by kernel_rfl,?_⟩)
 (repeat (refine a7 q9x1 hX mixed rfl ?_;simp [go_sem];try refine ⟨by kernel_rfl,?_⟩))
 refine aH (fun x : Int × Int × Int × Int × Int => ⟨mkE [(5,.el 0 2 0 0),(6,.el 1 2 0 0),(7,.el 2 2 0 0),(8,.el 3 2 0 0),(9,ii x.2.2.2.2)],[.row ⟨39,2,[bigZ x.1]⟩,.row ⟨39,2,[bigZ x.2.1]⟩,.row ⟨39,2,[bigZ x.2.2.1]⟩,.row ⟨39,2,[bigZ x.2.2.2.1]⟩]⟩)
  (fun x => rz x.1 ∧ rz x.2.1 ∧ rz x.2.2.1 ∧ rz x.2.2.2.1 ∧ 0 < x.2.1 ∧ 0 < x.2.2.2.1 ∧ (x.2.2.2.2 = 1 ∨ x.2.2.2.2 = -1) ∧ x.2.2.2.2 * cmpI (x.1 * x.2.2.2.1) (x.2.2.1 * x.2.1) = cmpI (a * d) (c * b)) (fun x => x.2.1.toNat) (a,b,c,d,1) ?_ ?_ ?_
 · refine aG _ [.old 2 ⟨39,2,[bigZ a]⟩,.old 3 ⟨39,2,[bigZ b]⟩,.old 4 ⟨39,2,[bigZ c]⟩,.old 5 ⟨39,2,[bigZ d]⟩] (by simp [go_sem]) ?_
   simp [go_sem]
 · exact ⟨hab.1,hab.2.1,hcd.1,hcd.2.1,hb0,hd0,.inl rfl,by simp⟩
 · rintro ⟨p,q,r,s,e⟩ ⟨zp,zq,zr,zs,hq,hs,he,hE⟩
   simp only [] at zp zq zr zs hq hs he hE
   have hu0 :=Int.emod_nonneg p (show q ≠ 0 by omega)
   have hu1 :=Int.emod_lt_of_pos p hq
   have hv0 :=Int.emod_nonneg r (show s ≠ 0 by omega)
   have hv1 :=Int.emod_lt_of_pos r hs
   have zx :=tW hq zp
   have zy :=tW hs zr
   have zu :=tV (p :=p) hq zq
   have zv :=tV (p :=r) hs zs
   have c1 :=tX (p / q) (r / s)
   have c2 :=jD (p / q) (r / s)
   have s1 :=fC (p % q)
   have s2 :=fC (r % s)
   (repeat (refine a7 q9x1 hX mixed rfl ?_;simp [go_sem];try refine ⟨by kernel_rfl,?_⟩))
   first | refine a8 (dQ zp zq (by omega) (cG hq).1 (cG hq).2) ?_ | refine aA (dQ zp zq (by omega) (cG hq).1 (cG hq).2) ?_
   try (simp [go_sem];try refine ⟨by kernel_rfl,?_⟩)
   (repeat (refine a7 q9x1 hX mixed rfl ?_;simp [go_sem];try refine ⟨by kernel_rfl,?_⟩))
   first | refine a8 (dQ zr zs (by omega) (cG hs).1 (cG hs).2) ?_ | refine aA (dQ zr zs (by omega) (cG hs).1 (cG hs).2) ?_
   try (simp [go_sem];try refine ⟨by kernel_rfl,?_⟩)
   (repeat (refine a7 q9x1 hX mixed rfl ?_;simp [go_sem];try refine ⟨by kernel_rfl,?_⟩))
   first | refine a8 (rG _ _ zx zy) ?_ | refine aA (rG _ _ zx zy) ?_
   try (simp [go_sem];try refine ⟨by kernel_rfl,?_⟩)
   (repeat (refine a7 q9x1 hX mixed rfl ?_;simp [go_sem];try refine ⟨by kernel_rfl,?_⟩))
   by_cases hxy : p / q = r / s
   · have hc0 : cmpI (p / q) (r / s) = 0 :=c2.2 hxy
     refine aC (by simp [go_sem,hc0]) ?_
     (repeat (refine a7 q9x1 hX mixed rfl ?_;simp [go_sem];try refine ⟨by kernel_rfl,?_⟩))
     have sgu : sg (p % q) = 0 ↔ p % q = 0 :=by rcases aE (p % q) with h | h | h <;> omega
     have sgv : sg (r % s) = 0 ↔ r % s = 0 :=by rcases aE (r % s) with h | h | h <;> omega
     rw [A8 hxy] at hE
     by_cases huv : p % q = 0 ∨ r % s = 0
     · refine aK (by simp [go_sem,sgu,sgv,huv]) ?_
       rw [wR hq hs hu0 hv0 huv] at hE
       have w1 :=w64 (x :=sg (p % q) - sg (r % s)) (by omega) (by omega)
       have w2 :=w64 (x :=e * (sg (p % q) - sg (r % s))) (by rcases he with rfl | rfl <;> omega) (by rcases he with rfl | rfl <;> omega)
       rw [hE] at w2
       (repeat (refine a7 q9x1 hX mixed rfl ?_;simp [go_sem,w1,hE,w2];try refine ⟨by kernel_rfl,?_⟩))
     · refine aC (by simp [go_sem,sgu,sgv]; omega) ?_
       have w1 :=w64 (x :=-e) (by omega) (by omega)
       (repeat (refine a7 q9x1 hX mixed rfl ?_;simp [go_sem,w1];try refine ⟨by kernel_rfl,?_⟩))
       refine ⟨q,p % q,s,r % s,-e,⟨zq,zu,zs,zv,by omega,by omega,by omega,?_⟩,by omega,?_⟩
       · rw [← hE,C6 (q * (r % s)),Int.mul_comm s,Int.mul_comm q]
         grind
       · refine aG _ [.old 0 ⟨39,2,[bigZ q]⟩,.old 1 ⟨39,2,[bigZ (p % q)]⟩,.old 2 ⟨39,2,[bigZ s]⟩,.old 3 ⟨39,2,[bigZ (r % s)]⟩] (by simp [go_sem]) ?_
         simp [go_sem]
   · have hc0 : ¬ cmpI (p / q) (r / s) = 0 :=fun h => hxy (c2.1 h)
     refine aK (by simp [go_sem,hc0]) ?_
     rw [A7 hq hs hxy] at hE
     have w1 :=w64 (x :=e * cmpI (p / q) (r / s)) (by rcases he with rfl | rfl <;> omega) (by rcases he with rfl | rfl <;> omega)
     rw [hE] at w1
     (repeat (refine a7 q9x1 hX mixed rfl ?_;simp [go_sem,hE,w1];try refine ⟨by kernel_rfl,?_⟩))
end Go.Proofs.YthibhamepjhfjaaGreatDoor

namespace Go.Proofs
open Go.Shelf
def Tryz.lays156_ren : Go.Shelf.Ren :=⟨fun | 156 => 121 | 165 => 129 | 166 => 130 | 169 => 132 | 240 => 138 | 241 => 139 | 276 => 144 | 277 => 145 | n => n,fun | 31 => 111 | 9 => 9 | 3 => 3 | 4 => 4 | 0 => 0 | 20 => 20 | 72 => 124 | 76 => 128 | 70 => 121 | 37 => 122 | 75 => 127 | 127 => 138 | 164 => 144 | 5 => 5 | 80 => 131 | n => n,fun | n => n⟩
theorem Tryz.lays156 : Go.Proofs.Lays.n156 Tryz.prog Tryz.lays156_ren :={
 mixed :=by kernel_rfl
 f156 :=Tryz.func121.trans (congrArg some (by kernel_rfl))
 f165 :=Tryz.func129.trans (congrArg some (by kernel_rfl))
 f166 :=Tryz.func130.trans (congrArg some (by kernel_rfl))
 f169 :=Tryz.func132.trans (congrArg some (by kernel_rfl))
 f240 :=Tryz.func138.trans (congrArg some (by kernel_rfl))
 f241 :=Tryz.func139.trans (congrArg some (by kernel_rfl))
 f276 :=Tryz.func144.trans (congrArg some (by kernel_rfl))
 f277 :=Tryz.func145.trans (congrArg some (by kernel_rfl))
 t0 :=Tryz.underlying0
 a0 :=Tryz.isAgg0
 z0 :=Tryz.sizeOf0
 v0 :=Tryz.zeroValue0
 t3 :=Tryz.underlying3
 a3 :=Tryz.isAgg3
 z3 :=Tryz.sizeOf3
 v3 :=Tryz.zeroValue3
 t4 :=Tryz.underlying4
 a4 :=Tryz.isAgg4
 z4 :=Tryz.sizeOf4
 v4 :=Tryz.zeroValue4
 t9 :=Tryz.underlying9
 a9 :=Tryz.isAgg9
 z9 :=Tryz.sizeOf9
 v9 :=Tryz.zeroValue9
 t20 :=Tryz.underlying20
 a20 :=Tryz.isAgg20
 z20 :=Tryz.sizeOf20
 v20 :=Tryz.zeroValue20
 t31 :=Tryz.underlying111
 a31 :=Tryz.isAgg111
 z31 :=Tryz.sizeOf111
 v31 :=Tryz.zeroValue111
 t37 :=Tryz.underlying122
 a37 :=Tryz.isAgg122
 z37 :=Tryz.sizeOf122
 v37 :=Tryz.zeroValue122
 t70 :=Tryz.underlying121
 a70 :=Tryz.isAgg121
 z70 :=Tryz.sizeOf121
 v70 :=Tryz.zeroValue121
 t72 :=Tryz.underlying124
 a72 :=Tryz.isAgg124
 z72 :=Tryz.sizeOf124
 v72 :=Tryz.zeroValue124
 t75 :=Tryz.underlying127
 a75 :=Tryz.isAgg127
 z75 :=Tryz.sizeOf127
 v75 :=Tryz.zeroValue127
 t76 :=Tryz.underlying128
 a76 :=Tryz.isAgg128
 z76 :=Tryz.sizeOf128
 v76 :=Tryz.zeroValue128
 t127 :=Tryz.underlying138
 a127 :=Tryz.isAgg138
 z127 :=Tryz.sizeOf138
 v127 :=Tryz.zeroValue138
 t164 :=Tryz.underlying144
 a164 :=Tryz.isAgg144
 z164 :=Tryz.sizeOf144
 v164 :=Tryz.zeroValue144 }
theorem Tryz.Builder_Extra_156 : Builder.Extra Tryz.prog Tryz.lays156_ren :={
 sizeBuilder :=by kernel_rfl
 liesBuilder :=by kernel_rfl
 t5 :=Tryz.underlying5
 a5 :=Tryz.isAgg5
 z5 :=Tryz.sizeOf5
 v5 :=Tryz.zeroValue5
 infoByte :=by kernel_rfl
 cellsByte :=by kernel_rfl
 sizeByte :=by kernel_rfl
 neB5 :=by decide }
open Go.RowKit in
theorem Tryz.strings_Join_none (a : Option Addr) (c : Nat) (sep : ByteArray) (w : World) :
  Calls Tryz.prog 121 #[.slice a 0 c,.string sep] w fun e w' => e = .returned (.string ⟨#[]⟩) ∧ w' = w :=Any.strings_Join_none Tryz.lays156 Tryz.Builder_Extra_156 a c sep w
open Go.RowKit in
theorem Tryz.strings_Join (bk o c : Nat) (xs : List ByteArray) (sep : ByteArray) (w : World) (hcells : ∀ (j : Nat) x,xs[j]? = some x → w.cell? ⟨bk,o + j,none⟩ = some (.string x)) (hbk : bk < w.heap.size) (hN : xs.length ≤ 140737488355328) (hcap : xs.length ≤ c) (hlen : (Lib.join (xs.map (·.data.toList)) sep.data.toList).length ≤ 140737488355328) :
  Calls Tryz.prog 121 #[.slice (some ⟨bk,o,none⟩) xs.length c,.string sep] w fun e w' => e = .returned (.string ⟨(Lib.join (xs.map (·.data.toList)) sep.data.toList).toArray⟩) ∧ Below w.heap.size w w' :=Any.strings_Join Tryz.lays156 Tryz.Builder_Extra_156 bk o c xs sep w hcells hbk hN hcap hlen
def Tryz.laysM171_ren : Go.Shelf.Ren :=⟨fun | 171 => 118 | 243 => 126 | 246 => 134 | 283 => 140 | 284 => 141 | 285 => 142 | 286 => 143 | 129 => 147 | 317 => 146 | 318 => 148 | 319 => 149 | 320 => 150 | 337 => 151 | 338 => 152 | n => n,fun | 3 => 3 | 9 => 9 | 2 => 2 | 4 => 4 | 171 => 139 | 0 => 0 | 53 => 88 | 37 => 122 | 5 => 5 | 173 => 142 | 212 => 149 | 51 => 133 | 20 => 20 | 213 => 150 | 46 => 94 | 232 => 153 | 233 => 154 | n => n,fun | 17 => 0 | 18 => 2 | 19 => 3 | n => n⟩
theorem Tryz.laysM171 : Go.Proofs.LaysM.n171 Tryz.prog Tryz.laysM171_ren :={
 mixed :=by kernel_rfl
 f129 :=Tryz.func147.trans (congrArg some (by kernel_rfl))
 f171 :=Tryz.func118.trans (congrArg some (by kernel_rfl))
 f243 :=Tryz.func126.trans (congrArg some (by kernel_rfl))
 f246 :=Tryz.func134.trans (congrArg some (by kernel_rfl))
 f283 :=Tryz.func140.trans (congrArg some (by kernel_rfl))
 f284 :=Tryz.func141.trans (congrArg some (by kernel_rfl))
 f285 :=Tryz.func142.trans (congrArg some (by kernel_rfl))
 f286 :=Tryz.func143.trans (congrArg some (by kernel_rfl))
 f317 :=Tryz.func146.trans (congrArg some (by kernel_rfl))
 f318 :=Tryz.func148.trans (congrArg some (by kernel_rfl))
 f319 :=Tryz.func149.trans (congrArg some (by kernel_rfl))
 f320 :=Tryz.func150.trans (congrArg some (by kernel_rfl))
 f337 :=Tryz.func151.trans (congrArg some (by kernel_rfl))
 f338 :=Tryz.func152.trans (congrArg some (by kernel_rfl))
 t0 :=Tryz.underlying0
 a0 :=Tryz.isAgg0
 z0 :=Tryz.sizeOf0
 v0 :=Tryz.zeroValue0
 t2 :=Tryz.underlying2
 a2 :=Tryz.isAgg2
 z2 :=Tryz.sizeOf2
 v2 :=Tryz.zeroValue2
 t3 :=Tryz.underlying3
 a3 :=Tryz.isAgg3
 z3 :=Tryz.sizeOf3
 v3 :=Tryz.zeroValue3
 t4 :=Tryz.underlying4
 a4 :=Tryz.isAgg4
 z4 :=Tryz.sizeOf4
 v4 :=Tryz.zeroValue4
 t5 :=Tryz.underlying5
 a5 :=Tryz.isAgg5
 z5 :=Tryz.sizeOf5
 v5 :=Tryz.zeroValue5
 t9 :=Tryz.underlying9
 a9 :=Tryz.isAgg9
 z9 :=Tryz.sizeOf9
 v9 :=Tryz.zeroValue9
 t20 :=Tryz.underlying20
 a20 :=Tryz.isAgg20
 z20 :=Tryz.sizeOf20
 v20 :=Tryz.zeroValue20
 t37 :=Tryz.underlying122
 a37 :=Tryz.isAgg122
 z37 :=Tryz.sizeOf122
 v37 :=Tryz.zeroValue122
 t46 :=Tryz.underlying94
 a46 :=Tryz.isAgg94
 z46 :=Tryz.sizeOf94
 v46 :=Tryz.zeroValue94
 t51 :=Tryz.underlying133
 a51 :=Tryz.isAgg133
 z51 :=Tryz.sizeOf133
 v51 :=Tryz.zeroValue133
 t53 :=Tryz.underlying88
 a53 :=Tryz.isAgg88
 z53 :=Tryz.sizeOf88
 v53 :=Tryz.zeroValue88
 t171 :=Tryz.underlying139
 a171 :=Tryz.isAgg139
 z171 :=Tryz.sizeOf139
 v171 :=Tryz.zeroValue139
 t173 :=Tryz.underlying142
 a173 :=Tryz.isAgg142
 z173 :=Tryz.sizeOf142
 v173 :=Tryz.zeroValue142
 t212 :=Tryz.underlying149
 a212 :=Tryz.isAgg149
 z212 :=Tryz.sizeOf149
 v212 :=Tryz.zeroValue149
 t213 :=Tryz.underlying150
 a213 :=Tryz.isAgg150
 z213 :=Tryz.sizeOf150
 t232 :=Tryz.underlying153
 a232 :=Tryz.isAgg153
 z232 :=Tryz.sizeOf153
 v232 :=Tryz.zeroValue153
 t233 :=Tryz.underlying154
 a233 :=Tryz.isAgg154
 z233 :=Tryz.sizeOf154
 v233 :=Tryz.zeroValue154
 g17 :=by kernel_rfl
 g18 :=by kernel_rfl
 g19 :=by kernel_rfl
 i0 :=by kernel_rfl
 i2 :=by kernel_rfl
 i3 :=by kernel_rfl
 i4 :=by kernel_rfl
 i5 :=by kernel_rfl
 i9 :=by kernel_rfl
 i20 :=by kernel_rfl
 i37 :=by kernel_rfl
 i46 :=by kernel_rfl
 i51 :=by kernel_rfl
 i53 :=by kernel_rfl
 i171 :=by kernel_rfl
 i173 :=by kernel_rfl
 i212 :=by kernel_rfl
 i232 :=by kernel_rfl
 i233 :=by kernel_rfl
 m17 :=by kernel_rfl
 m18 :=by kernel_rfl
 m19 :=by kernel_rfl }
open Go.RowKit Go.Sort Go.Lib in
theorem Tryz.strconv_Itoa (n : Int) (h0 : -9223372036854775808 ≤ n) (h1 : n ≤ 9223372036854775807) (w : World) (htab : Lib.TabIs Tryz.prog w "internal/strconv.uint64pow10" .u64 Lib.pow10Tab) :
  Calls Tryz.prog 118 #[.int .i64 n] w fun e w' => e = .returned (.string ⟨(Lib.itoa n).toArray⟩) ∧ ∃ k os,w' = grow (w.drewN k) os :=Any.strconv_Itoa Tryz.laysM171 n h0 h1 w htab
def Tryz.lays105_ren : Go.Shelf.Ren :=⟨fun | 105 => 119 | 212 => 127 | 99 => 128 | 165 => 129 | 166 => 130 | 170 => 131 | 169 => 132 | 263 => 135 | 264 => 136 | 206 => 137 | 240 => 138 | 241 => 139 | 276 => 144 | 277 => 145 | n => n,fun | 9 => 9 | 3 => 3 | 4 => 4 | 20 => 20 | 0 => 0 | 46 => 94 | 109 => 118 | 5 => 5 | 72 => 124 | 76 => 128 | 51 => 133 | 146 => 134 | 53 => 88 | 148 => 136 | 70 => 121 | 37 => 122 | 75 => 127 | 127 => 138 | 164 => 144 | 80 => 131 | n => n,fun | n => n⟩
theorem Tryz.lays105 : Go.Proofs.Lays.n105 Tryz.prog Tryz.lays105_ren :={
 mixed :=by kernel_rfl
 f99 :=Tryz.func128.trans (congrArg some (by kernel_rfl))
 f105 :=Tryz.func119.trans (congrArg some (by kernel_rfl))
 f165 :=Tryz.func129.trans (congrArg some (by kernel_rfl))
 f166 :=Tryz.func130.trans (congrArg some (by kernel_rfl))
 f169 :=Tryz.func132.trans (congrArg some (by kernel_rfl))
 f170 :=Tryz.func131.trans (congrArg some (by kernel_rfl))
 f206 :=Tryz.func137.trans (congrArg some (by kernel_rfl))
 f212 :=Tryz.func127.trans (congrArg some (by kernel_rfl))
 f240 :=Tryz.func138.trans (congrArg some (by kernel_rfl))
 f241 :=Tryz.func139.trans (congrArg some (by kernel_rfl))
 f263 :=Tryz.func135.trans (congrArg some (by kernel_rfl))
 f264 :=Tryz.func136.trans (congrArg some (by kernel_rfl))
 f276 :=Tryz.func144.trans (congrArg some (by kernel_rfl))
 f277 :=Tryz.func145.trans (congrArg some (by kernel_rfl))
 t0 :=Tryz.underlying0
 a0 :=Tryz.isAgg0
 z0 :=Tryz.sizeOf0
 v0 :=Tryz.zeroValue0
 t3 :=Tryz.underlying3
 a3 :=Tryz.isAgg3
 z3 :=Tryz.sizeOf3
 v3 :=Tryz.zeroValue3
 t4 :=Tryz.underlying4
 a4 :=Tryz.isAgg4
 z4 :=Tryz.sizeOf4
 v4 :=Tryz.zeroValue4
 t5 :=Tryz.underlying5
 a5 :=Tryz.isAgg5
 z5 :=Tryz.sizeOf5
 v5 :=Tryz.zeroValue5
 t9 :=Tryz.underlying9
 a9 :=Tryz.isAgg9
 z9 :=Tryz.sizeOf9
 v9 :=Tryz.zeroValue9
 t20 :=Tryz.underlying20
 a20 :=Tryz.isAgg20
 z20 :=Tryz.sizeOf20
 v20 :=Tryz.zeroValue20
 t37 :=Tryz.underlying122
 a37 :=Tryz.isAgg122
 z37 :=Tryz.sizeOf122
 v37 :=Tryz.zeroValue122
 t46 :=Tryz.underlying94
 a46 :=Tryz.isAgg94
 z46 :=Tryz.sizeOf94
 v46 :=Tryz.zeroValue94
 t51 :=Tryz.underlying133
 a51 :=Tryz.isAgg133
 z51 :=Tryz.sizeOf133
 v51 :=Tryz.zeroValue133
 t53 :=Tryz.underlying88
 a53 :=Tryz.isAgg88
 z53 :=Tryz.sizeOf88
 v53 :=Tryz.zeroValue88
 t70 :=Tryz.underlying121
 a70 :=Tryz.isAgg121
 z70 :=Tryz.sizeOf121
 v70 :=Tryz.zeroValue121
 t72 :=Tryz.underlying124
 a72 :=Tryz.isAgg124
 z72 :=Tryz.sizeOf124
 v72 :=Tryz.zeroValue124
 t75 :=Tryz.underlying127
 a75 :=Tryz.isAgg127
 z75 :=Tryz.sizeOf127
 v75 :=Tryz.zeroValue127
 t76 :=Tryz.underlying128
 a76 :=Tryz.isAgg128
 z76 :=Tryz.sizeOf128
 v76 :=Tryz.zeroValue128
 t109 :=Tryz.underlying118
 a109 :=Tryz.isAgg118
 z109 :=Tryz.sizeOf118
 v109 :=Tryz.zeroValue118
 t127 :=Tryz.underlying138
 a127 :=Tryz.isAgg138
 z127 :=Tryz.sizeOf138
 v127 :=Tryz.zeroValue138
 t146 :=Tryz.underlying134
 a146 :=Tryz.isAgg134
 z146 :=Tryz.sizeOf134
 v146 :=Tryz.zeroValue134
 t148 :=Tryz.underlying136
 a148 :=Tryz.isAgg136
 z148 :=Tryz.sizeOf136
 v148 :=Tryz.zeroValue136
 t164 :=Tryz.underlying144
 a164 :=Tryz.isAgg144
 z164 :=Tryz.sizeOf144
 v164 :=Tryz.zeroValue144 }
theorem Tryz.Builder_Extra_105 : Builder.Extra Tryz.prog Tryz.lays105_ren :={
 sizeBuilder :=by kernel_rfl
 liesBuilder :=by kernel_rfl
 t5 :=Tryz.underlying5
 a5 :=Tryz.isAgg5
 z5 :=Tryz.sizeOf5
 v5 :=Tryz.zeroValue5
 infoByte :=by kernel_rfl
 cellsByte :=by kernel_rfl
 sizeByte :=by kernel_rfl
 neB5 :=by decide }
open Go.RowKit Go.Lib in
theorem Tryz.strings_Repeat (s : ByteArray) (c : Nat) (w : World) (hc : c ≤ 9223372036854775807) (hlen : s.size * c ≤ 140737488355328) :
  Calls Tryz.prog 119 #[.string s,.int .i64 c] w fun e w' => e = .returned (.string ⟨(Lib.repeatL s.data.toList c).toArray⟩) ∧ Below w.heap.size w w' :=Any.strings_Repeat Tryz.lays105 Tryz.Builder_Extra_105 s c w hc hlen
def Tryz.laysNm217_ren : Go.Shelf.Ren :=⟨fun | 17 => 120 | n => n,fun | 24 => 111 | 9 => 9 | 3 => 3 | 4 => 4 | 0 => 0 | n => n,fun | n => n⟩
theorem Tryz.laysNm217 : Go.Proofs.Lays2.n17 Tryz.prog Tryz.laysNm217_ren :={
 mixed :=by kernel_rfl
 f17 :=Tryz.func120.trans (congrArg some (by kernel_rfl))
 t0 :=Tryz.underlying0
 a0 :=Tryz.isAgg0
 z0 :=Tryz.sizeOf0
 v0 :=Tryz.zeroValue0
 t3 :=Tryz.underlying3
 a3 :=Tryz.isAgg3
 z3 :=Tryz.sizeOf3
 v3 :=Tryz.zeroValue3
 t4 :=Tryz.underlying4
 a4 :=Tryz.isAgg4
 z4 :=Tryz.sizeOf4
 v4 :=Tryz.zeroValue4
 t9 :=Tryz.underlying9
 a9 :=Tryz.isAgg9
 z9 :=Tryz.sizeOf9
 v9 :=Tryz.zeroValue9
 t24 :=Tryz.underlying111
 a24 :=Tryz.isAgg111
 z24 :=Tryz.sizeOf111
 v24 :=Tryz.zeroValue111 }
open Go.RowKit Go.Lib Go.Sort in
theorem Tryz.slices_Reverse_string_empty (a : Option Addr) (cap : Nat) (w : World) :
  Calls Tryz.prog 120 #[.slice a 0 cap] w fun e w' => e = .returned (.tuple #[]) ∧ w' = w :=Any.slices_Reverse_string_empty Tryz.laysNm217 a cap w
open Go.RowKit Go.Lib Go.Sort in
theorem Tryz.slices_Reverse_string_cells (b off n c : Nat) (Sx : Nat → ByteArray) (w : World) (hbig : n ≤ 9223372036854775807) (hc : ∀ i,i < n → w.cell? ⟨b,off + i,none⟩ = some (.string (Sx i))) (hf : ∀ j,j < n → w.frozen? ⟨b,off + j,none⟩ = false) :
  Calls Tryz.prog 120 #[.slice (some ⟨b,off,none⟩) n c] w fun e w' => e = .returned (.tuple #[]) ∧ ∃ q,w' = (w.drewN q).setCells b off ((Lib.strsOf Sx n).reverse.map encStr) :=Any.slices_Reverse_string_cells Tryz.laysNm217 b off n c Sx w hbig hc hf
end Go.Proofs

namespace Go.Proofs.YthibhamepjhfjaaGreatDoor
open Go.RowKit Go.Ab
abbrev sb (l : List UInt8) : AV :=.v (.string ⟨l.toArray⟩)
theorem L3 {w : World} {M : Nat → Prop} (h : GlobW w M) : Lib.TabIs Tryz.prog w "internal/strconv.uint64pow10" .u64 Lib.pow10Tab := by
 have := DR h (P := Tryz.prog) (n := "internal/strconv.uint64pow10") (g := 0) (cs := Lib.pow10Tab.map fun z => Value.int .u64 z) (by kernel_rfl) (by rw [globs]; exact List.mem_cons.2 (.inl (by kernel_rfl)))
 exact this
theorem JS (n : Int) (h0 : 0 ≤ n) (h1 : n ≤ 99999) : Means true Tryz.prog 118 [ii n] (sb (Lib.decDigits n.toNat)) :=by
 have hi : Lib.itoa n = Lib.decDigits n.toNat :=by unfold Lib.itoa; rw [if_neg (by omega)]
 refine oM (args :=[.int .i64 n]) (x :=.string ⟨(Lib.decDigits n.toNat).toArray⟩) (fun _ _ => .v _) fun w M hM hg => ?_
 refine (Tryz.strconv_Itoa n (by omega) (by omega) w (L3 hg)).mono fun e w' ⟨he,k,os,hw⟩ => ?_
 rw [hi] at he
 refine ⟨he,?_⟩
 rw [hw]
 exact ⟨rfl,rfl,rfl,by simp [Go.Sort.grow,World.drewN],fun k hk => by simp [Go.Sort.grow,World.drewN,Array.getElem?_append_left hk]⟩
theorem F5 (c : Nat) (hc : c ≤ 5) : Means true Tryz.prog 119 [sb [48],ii c] (sb (Lib.repeatL [48] c)) :=by
 refine oM (args :=[.string ⟨#[48]⟩,.int .i64 c]) (x :=.string ⟨(Lib.repeatL [48] c).toArray⟩) (fun _ _ => .v _) fun w M hM hg => ?_
 refine (Tryz.strings_Repeat ⟨#[48]⟩ c w (by omega) (by show 1 * c ≤ _; omega)).mono fun e w' ⟨he,hw⟩ => ⟨he,hw⟩
theorem C7 (xs : List (List UInt8)) (hx : xs.length ≤ 1000000) :
  MeansH Tryz.prog 120 [.row ⟨9,1,xs.map sb⟩] [.ow 0] (.tup []) [.row ⟨9,1,xs.reverse.map sb⟩] :=by
 have :=GH (P :=Tryz.prog) (f :=120) (E :=9) (xs :=xs.map fun l => Value.string ⟨l.toArray⟩) (ys :=xs.reverse.map fun l => Value.string ⟨l.toArray⟩) (by simp) (fun y hy => by
  obtain ⟨l,_,rfl⟩ :=List.mem_map.1 hy; rfl) (fun g c w h1 h2 h3 => ?_) (fun w => Tryz.slices_Reverse_string_empty none 0 w)
 · simpa [List.map_map,Function.comp_def] using this
 · have hS : Lib.strsOf (fun i => (⟨(xs.getD i []).toArray⟩ : ByteArray)) xs.length = xs :=by
    apply List.ext_getElem
    · simp [Lib.strsOf]
    · intro i h1 h2
      simp [Lib.strsOf,h2]
   rw [List.length_map] at h2 ⊢
   have h :=Tryz.slices_Reverse_string_cells g 0 xs.length c (fun i => ⟨(xs.getD i []).toArray⟩) w (by omega) (fun i hi => by
    rw [Nat.zero_add]
    refine h1 i _ ?_
    rw [List.getElem?_map,List.getElem?_eq_getElem hi]
    simp [hi]) (fun j hj => by rw [Nat.zero_add]; exact h2 j hj)
   rw [hS] at h
   exact h
theorem I8 (xs : List (List UInt8)) : Lib.join xs [] = xs.flatten :=by
 cases xs with
 | nil => rfl
 | cons x r =>
   rw [Lib.join_cons,Lib.joinTail]
   simp
theorem JT (xs : List (List UInt8)) (hx : xs.flatten.length ≤ 1000000) (hl : xs.length ≤ 1000000) : MeansH Tryz.prog 121 [.row ⟨9,1,xs.map sb⟩] [.ow 0,sb []] (sb xs.flatten) [.row ⟨9,1,xs.map sb⟩] :=by
 have e1 : (xs.map fun l => (⟨l.toArray⟩ : ByteArray)).map (·.data.toList) = xs :=by simp [List.map_map,Function.comp_def]
 have e2 : (⟨([] : List UInt8).toArray⟩ : ByteArray).data.toList = [] :=rfl
 have h :=J2 (P :=Tryz.prog) (f :=121) (E :=9) (fun bk o c xs sep w h1 h2 h3 h4 h5 => Tryz.strings_Join bk o c xs sep w h1 h2 h3 h4 h5) (fun a c sep w => Tryz.strings_Join_none a c sep w) (xs.map fun l => ⟨l.toArray⟩) ⟨([] : List UInt8).toArray⟩
  (by rw [e1,e2,I8]; omega) (by rw [List.length_map]; omega)
 rw [e1,e2,I8,List.map_map] at h
 exact h
end Go.Proofs.YthibhamepjhfjaaGreatDoor

namespace Go.Proofs.YthibhamepjhfjaaGreatDoor
open Go.RowKit Go.Ab
abbrev dd (u : Nat) : List UInt8 :=Lib.decDigits u
abbrev oo (u : Nat) : UInt8 :=UInt8.ofNat (48 + u)
theorem gC {u : Nat} (h : u < 10) : dd u = [oo u] :=by unfold dd; rw [Lib.decDigits,dif_pos h]
theorem JU {q r : Nat} (hq : 0 < q) (hr : r < 10) : dd (10 * q + r) = dd q ++ [oo r] :=by
 unfold dd
 rw [Lib.decDigits,dif_neg (by omega),show (10 * q + r) / 10 = q by omega,show (10 * q + r) % 10 = r by omega]
theorem cZ {u : Nat} (h : 10 ≤ u) : dd u = dd (u / 10) ++ [oo (u % 10)] :=by
 have :=JU (q :=u / 10) (r :=u % 10) (by omega) (by omega)
 rwa [show 10 * (u / 10) + u % 10 = u by omega] at this
def five (r : Nat) : List UInt8 :=[oo (r / 10000),oo (r / 1000 % 10),oo (r / 100 % 10),oo (r / 10 % 10),oo (r % 10)]
theorem H6 {q r : Nat} (hq : 0 < q) (hr : r < 100000) : dd (q * 100000 + r) = dd q ++ five r :=by
 rw [cZ (by omega),cZ (u :=(q * 100000 + r) / 10) (by omega),cZ (u :=(q * 100000 + r) / 10 / 10) (by omega),cZ (u :=(q * 100000 + r) / 10 / 10 / 10) (by omega),cZ (u :=(q * 100000 + r) / 10 / 10 / 10 / 10) (by omega)]
 rw [show (q * 100000 + r) / 10 / 10 / 10 / 10 / 10 = q by omega,show (q * 100000 + r) / 10 / 10 / 10 / 10 % 10 = r / 10000 by omega,show (q * 100000 + r) / 10 / 10 / 10 % 10 = r / 1000 % 10 by omega,
  show (q * 100000 + r) / 10 / 10 % 10 = r / 100 % 10 by omega,show (q * 100000 + r) / 10 % 10 = r / 10 % 10 by omega,show (q * 100000 + r) % 10 = r % 10 by omega]
 simp [five]
theorem wS {r : Nat} (hr : r < 100000) : 1 ≤ (dd r).length ∧ (dd r).length ≤ 5 ∧ Lib.repeatL [48] (5 - (dd r).length) ++ dd r = five r :=by
 by_cases h1 : r < 10
 · rw [gC h1]
   refine ⟨by simp,by simp,?_⟩
   unfold five
   rw [show r / 10000 = 0 by omega,show r / 1000 % 10 = 0 by omega,show r / 100 % 10 = 0 by omega,show r / 10 % 10 = 0 by omega,show r % 10 = r by omega]
   rfl
 · by_cases h2 : r < 100
   · rw [cZ (by omega),gC (u :=r / 10) (by omega)]
     refine ⟨by simp,by simp,?_⟩
     unfold five
     rw [show r / 10000 = 0 by omega,show r / 1000 % 10 = 0 by omega,show r / 100 % 10 = 0 by omega,show r / 10 % 10 = r / 10 by omega]
     rfl
   · by_cases h3 : r < 1000
     · rw [cZ (by omega),cZ (u :=r / 10) (by omega),gC (u :=r / 10 / 10) (by omega)]
       refine ⟨by simp,by simp,?_⟩
       unfold five
       rw [show r / 10000 = 0 by omega,show r / 1000 % 10 = 0 by omega,show r / 100 % 10 = r / 10 / 10 by omega]
       rfl
     · by_cases h4 : r < 10000
       · rw [cZ (by omega),cZ (u :=r / 10) (by omega),cZ (u :=r / 10 / 10) (by omega),gC (u :=r / 10 / 10 / 10) (by omega)]
         refine ⟨by simp,by simp,?_⟩
         unfold five
         rw [show r / 10000 = 0 by omega,show r / 1000 % 10 = r / 10 / 10 / 10 by omega,show r / 100 % 10 = r / 10 / 10 % 10 by omega]
         rfl
       · rw [cZ (by omega),cZ (u :=r / 10) (by omega),cZ (u :=r / 10 / 10) (by omega),cZ (u :=r / 10 / 10 / 10) (by omega),gC (u :=r / 10 / 10 / 10 / 10) (by omega)]
         refine ⟨by simp,by simp,?_⟩
         unfold five
         rw [show r / 10000 = r / 10 / 10 / 10 / 10 by omega,show r / 1000 % 10 = r / 10 / 10 / 10 % 10 by omega,show r / 100 % 10 = r / 10 / 10 % 10 by omega]
         rfl
def dn (n : Int) : List UInt8 :=if n ≤ 0 then [] else dd n.toNat
theorem JV {n : Int} (h : 0 < n) : dn n = dn (n / 100000) ++ (if 0 < n / 100000 then Lib.repeatL [48] (5 - (dd (n % 100000).toNat).length) ++ dd (n % 100000).toNat else dd (n % 100000).toNat) :=by
 unfold dn
 rw [if_neg (by omega)]
 split
 · rw [if_neg (by omega),show n % 100000 = n by omega]; rfl
 · rw [if_pos (by omega),(wS (r :=(n % 100000).toNat) (by omega)).2.2,← H6 (by omega) (by omega)]
   congr 1
   omega
def txt (z : Int) : List UInt8 :=if z = 0 then [48] else if z < 0 then 45 :: dd z.natAbs else dd z.natAbs
end Go.Proofs.YthibhamepjhfjaaGreatDoor

namespace Go.Proofs.YthibhamepjhfjaaGreatDoor
open Go.RowKit Go.Ab
attribute [local irreducible] AWP Go.Ab.Sub Means MeansH CallK CallG CallT CallGT
@[go_sem] theorem sb_app (a b : List UInt8) : ((⟨a.toArray⟩ : ByteArray) ++ ⟨b.toArray⟩) = ⟨(a ++ b).toArray⟩ :=by
  apply ByteArray.ext; simp
@[go_sem] theorem sb_size (a : List UInt8) : (⟨a.toArray⟩ : ByteArray).size = a.length :=by simp [ByteArray.size]
theorem H7 : (1048576 : Int) ^ 60 < 100000 ^ 250 :=by decide
set_option maxHeartbeats 4000000 in
set_option maxRecDepth 20000 in
theorem tY (z : Int) (hz : rz z) : Means false Tryz.prog 98 [bigZ z] (sb (txt z)) :=by
 have hlz :=bQ hz
 have hab :=aV z
 refine aF false 51 [.tmp 2] Tryz.func98 rfl rfl rfl (by simp) (by decide) rfl fun X hX => ?_
 (repeat (refine a7 q9x0 hX mixed rfl ?_;simp [go_sem];try refine ⟨by kernel_rfl,?_⟩))
 first | refine a8 (bB z hz) ?_ | refine aA (bB z hz) ?_
 try (simp [go_sem];try refine ⟨by kernel_rfl,?_⟩)
 refine aC (by simp [go_sem]) ?_
 (repeat (refine a7 q9x0 hX mixed rfl ?_;simp [go_sem];try refine ⟨by kernel_rfl,?_⟩))
 refine aH (fun x : Int × List (List UInt8) => ⟨mkE [(1,.el 0 2 0 0),(3,.ow 1),(4,il (dg x.1))],[.row ⟨39,2,[bigZ z]⟩,.row ⟨9,1,x.2.map sb⟩]⟩)
  (fun x => 0 ≤ x.1 ∧ x.1 < 100000 ^ (250 - x.2.length) ∧ x.2.length ≤ 250 ∧ (∀ p ∈ x.2,p.length ≤ 5) ∧ (dg x.1).length ≤ 60 ∧ dn x.1 ++ x.2.reverse.flatten = dn (ab z)) (fun x => x.1.toNat) (ab z,[]) ?_ ?_ ?_
 · refine aG _ [.old 0 ⟨39,2,[bigZ z]⟩,.birth 9 1] (by simp [go_sem]) ?_
   simp [go_sem]
 · refine ⟨hab,?_,by simp,by simp,hlz,by simp⟩
   have :=H7
   unfold rz at hz
   simp only [List.length_nil,Nat.sub_zero]
   omega
 · rintro ⟨n,P⟩ ⟨hn,hnb,hP,hP5,hnl,hE⟩
   simp only [] at hn hnb hP hP5 hnl hE
   have hn0 : 0 < (dg n).length ↔ 0 < n :=by rw [List.length_pos_iff,Ne,cB]; omega
   (repeat (refine a7 q9x0 hX mixed rfl ?_;simp [go_sem]; (try simp (disch :=omega) only [w64,td,tm]);try refine ⟨by kernel_rfl,?_⟩))
   refine aB (b :=decide (0 < n)) (by
    simp only [← hn0]
    simp [go_sem]) (fun hd => ?_) (fun hd => ?_)
   · simp only [decide_eq_true_eq] at hd
     have hsh :=nJ (dg n) 100000 (aO _) (by omega) (by decide) (by decide)
     rw [bF hn] at hsh
     have hcut :=JV hd
     have hr0 : 0 ≤ n % 100000 :=by omega
     have hr1 : n % 100000 ≤ 99999 :=by omega
     have hi :=JS (n % 100000) hr0 hr1
     have hq0 : 0 ≤ n / 100000 :=by omega
     have hqn : 0 < (dg (n / 100000)).length ↔ 0 < n / 100000 :=by rw [List.length_pos_iff,Ne,cB]; omega
     obtain ⟨p1,p2,p3⟩ :=wS (r :=(n % 100000).toNat) (by omega)
     simp only [dd] at p1 p2 p3 hcut hi
     generalize hS : Lib.decDigits (n % 100000).toNat = S at *
     (repeat (refine a7 q9x0 hX mixed rfl ?_;simp [go_sem]; (try simp (disch :=omega) only [w64,td,tm]);try refine ⟨by kernel_rfl,?_⟩))
     first | refine a8 (hsh) ?_ | refine aA (hsh) ?_
     try (simp [go_sem];try refine ⟨by kernel_rfl,?_⟩)
     (repeat (refine a7 q9x0 hX mixed rfl ?_;simp [go_sem]; (try simp (disch :=omega) only [w64,td,tm]);try refine ⟨by kernel_rfl,?_⟩))
     first | refine a8 (hi) ?_ | refine aA (hi) ?_
     try (simp [go_sem];try refine ⟨by kernel_rfl,?_⟩)
     (repeat (refine a7 q9x0 hX mixed rfl ?_;simp [go_sem]; (try simp (disch :=omega) only [w64,td,tm]);try refine ⟨by kernel_rfl,?_⟩))
     obtain ⟨S',hS'⟩ : ∃ S',S' = if 0 < n / 100000 then Lib.repeatL [48] (5 - S.length) ++ S else S :=⟨_,rfl⟩
     have hS5 : S'.length ≤ 5 :=by
      rw [hS']
      split
      · rw [p3]; simp [five]
      · exact p2
     rw [← hS'] at hcut
     refine j5 ⟨mkE [(1,.el 0 2 0 0),(3,.ow 1),(5,il (dg (n / 100000))),(7,sb S')],[.row ⟨39,2,[bigZ z]⟩,.row ⟨9,1,P.map sb⟩]⟩ ?_ ?_
     · refine aB (b :=decide (0 < n / 100000)) (by
        simp only [← hqn]
        simp [go_sem]) (fun hb => ?_) (fun hb => ?_)
       · simp only [decide_eq_true_eq] at hb
         rw [if_pos hb] at hS'
         have hrep :=F5 (5 - S.length) (by omega)
         rw [show ((5 - S.length : Nat) : Int) = 5 - (S.length : Int) by omega] at hrep
         have hw :=w64 (x :=5 - (S.length : Int)) (by omega) (by omega)
         have hlr : (Lib.repeatL [48] (5 - S.length)).length + S.length ≤ 5 :=by rw [← List.length_append,← hS']; exact hS5
         (repeat (refine a7 q9x0 hX mixed rfl ?_;simp [go_sem,hw]; (try simp (disch :=omega) only [w64,td,tm]);try refine ⟨by kernel_rfl,?_⟩))
         first | refine a8 (hrep) ?_ | refine aA (hrep) ?_
         try (simp [go_sem];try refine ⟨by kernel_rfl,?_⟩)
         refine ⟨by unfold maxLen; omega,?_⟩
         refine aG _ [.old 0 ⟨39,2,[bigZ z]⟩,.old 1 ⟨9,1,P.map sb⟩] (by simp [go_sem]) ?_
         simp [go_sem,hS']
       · simp only [decide_eq_false_iff_not] at hb
         rw [if_neg hb] at hS'
         (repeat (refine a7 q9x0 hX mixed rfl ?_;simp [go_sem];try refine ⟨by kernel_rfl,?_⟩))
         refine aG _ [.old 0 ⟨39,2,[bigZ z]⟩,.old 1 ⟨9,1,P.map sb⟩] (by simp [go_sem]) ?_
         simp [go_sem,hS']
     · try (simp [go_sem];try refine ⟨by kernel_rfl,?_⟩)
       (repeat (refine a7 q9x0 hX mixed rfl ?_;simp [go_sem]; (try simp (disch :=omega) only [w64,td,tm]);try refine ⟨by kernel_rfl,?_⟩))
       have hk : ∃ j,250 - P.length = j + 1 :=by
        refine ⟨250 - P.length - 1,?_⟩
        by_cases h0 : 250 - P.length = 0
        · rw [h0] at hnb; simp at hnb; omega
        · omega
       obtain ⟨j,hj⟩ :=hk
       rw [hj,Int.pow_succ] at hnb
       have hdq : n / 100000 ≤ n :=by omega
       refine ⟨⟨by omega,by unfold maxLen; omega⟩,n / 100000,P ++ [S'],⟨hq0,?_,by simp; omega,?_,Nat.le_trans (aY hdq) hnl,?_⟩,by rw [Int.max_eq_left hq0]; omega,?_⟩
       · rw [List.length_append,List.length_singleton,show 250 - (P.length + 1) = j by omega]; omega
       · intro p hp
         rcases List.mem_append.1 hp with hp | hp
         · exact hP5 p hp
         · rw [List.mem_singleton.1 hp]; exact hS5
       · rw [← hE,hcut]; simp
       · refine aG _ [.old 0 ⟨39,2,[bigZ z]⟩,.old 3 ⟨9,1,(P ++ [S']).map sb⟩] (by simp [go_sem]) ?_
         simp [go_sem]
   · have hn00 : n = 0 :=by have :=of_decide_eq_false hd; omega
     subst hn00
     have hdn0 : dn 0 = [] :=rfl
     rw [hdn0,List.nil_append] at hE
     have hfl : P.reverse.flatten.length ≤ 5 * 250 :=by
      have : ∀ Q : List (List UInt8),(∀ p ∈ Q,p.length ≤ 5) → Q.flatten.length ≤ 5 * Q.length :=by
       intro Q
       induction Q with
       | nil => simp
       | cons q Q ih =>
         intro h
         have h1 :=h q (by simp)
         have h2 :=ih fun p hp => h p (by simp [hp])
         simp only [List.flatten_cons,List.length_append,List.length_cons]; omega
      have :=this P.reverse (fun p hp => hP5 p (List.mem_reverse.1 hp))
      rw [List.length_reverse] at this
      omega
     have hrv :=C7 P (by omega)
     have hjn :=JT P.reverse (by omega) (by rw [List.length_reverse]; omega)
     rw [hE] at hjn hfl
     (repeat (refine a7 q9x0 hX mixed rfl ?_;simp [go_sem]; (try simp (disch :=omega) only [w64,td,tm]);try refine ⟨by kernel_rfl,?_⟩))
     first | refine aL [1] (hrv) (by simp [go_sem]) ?_ | refine aJ [1] (hrv) (by simp [go_sem]) ?_ | refine aI [1] (hrv) (by simp [go_sem]) ?_
     try (simp [go_sem];try refine ⟨by kernel_rfl,?_⟩)
     (repeat (refine a7 q9x0 hX mixed rfl ?_;simp [go_sem]; (try simp (disch :=omega) only [w64,td,tm]);try refine ⟨by kernel_rfl,?_⟩))
     first | refine aL [1] (hjn) (by simp [go_sem]) ?_ | refine aJ [1] (hjn) (by simp [go_sem]) ?_ | refine aI [1] (hjn) (by simp [go_sem]) ?_
     try (simp [go_sem];try refine ⟨by kernel_rfl,?_⟩)
     (repeat (refine a7 q9x0 hX mixed rfl ?_;simp [go_sem]; (try simp (disch :=omega) only [w64,td,tm]);try refine ⟨by kernel_rfl,?_⟩))
     have hdz : z ≠ 0 → dn (ab z) = dd z.natAbs :=fun h => by
      unfold dn
      rw [if_neg (by rcases aE z with h | h | h <;> omega),fV,Int.toNat_natCast]
     rcases aE z with ⟨h1,h2,h3⟩ | ⟨h1,h2,h3⟩ | ⟨h1,h2,h3⟩
     · have ht : txt z = 45 :: dn (ab z) :=by unfold txt; rw [if_neg (by omega),if_pos h2,hdz (by omega)]
       refine aC (by simp [go_sem,h1]) ?_
       (repeat (refine a7 q9x0 hX mixed rfl ?_;simp [go_sem]; (try simp (disch :=omega) only [w64,td,tm]);try refine ⟨by kernel_rfl,?_⟩))
       refine aK (by simp [go_sem,h1]) ?_
       (repeat (refine a7 q9x0 hX mixed rfl ?_;simp [go_sem]; (try simp (disch :=omega) only [w64,td,tm]);try refine ⟨by kernel_rfl,?_⟩))
       refine ⟨by unfold maxLen; omega,?_⟩
       (repeat (refine a7 q9x0 hX mixed rfl ?_;simp [go_sem,ht];try refine ⟨by kernel_rfl,?_⟩))
     · have ht : txt z = [48] :=by unfold txt; rw [if_pos h2]
       refine aK (by simp [go_sem,h1]) ?_
       (repeat (refine a7 q9x0 hX mixed rfl ?_;simp [go_sem,ht];try refine ⟨by kernel_rfl,?_⟩))
     · have ht : txt z = dn (ab z) :=by unfold txt; rw [if_neg (by omega),if_neg (by omega),hdz (by omega)]
       refine aC (by simp [go_sem,h1]) ?_
       (repeat (refine a7 q9x0 hX mixed rfl ?_;simp [go_sem]; (try simp (disch :=omega) only [w64,td,tm]);try refine ⟨by kernel_rfl,?_⟩))
       refine aC (by simp [go_sem,h1]) ?_
       (repeat (refine a7 q9x0 hX mixed rfl ?_;simp [go_sem,ht]; (try simp (disch :=omega) only [w64,td,tm]);try refine ⟨by kernel_rfl,?_⟩))
end Go.Proofs.YthibhamepjhfjaaGreatDoor

namespace Go.Proofs.YthibhamepjhfjaaGreatDoor
open Go.RowKit Go.Ab
attribute [local irreducible] AWP Go.Ab.Sub Means MeansH CallK CallG CallT CallGT
theorem JW {a b : List UInt8} : (⟨a.toArray⟩ : ByteArray) = ⟨b.toArray⟩ ↔ a = b :=by
 constructor
 · intro h; have :=congrArg (fun s : ByteArray => s.data.toList) h; simpa using this
 · rintro rfl; rfl
theorem F6 (a b : List UInt8) : ((⟨a.toArray⟩ : ByteArray) == ⟨b.toArray⟩) = decide (a = b) :=by rw [Bool.eq_iff_iff,xY]; simp [JW]
@[go_sem] theorem H8 (a : List UInt8) : ((⟨a.toArray⟩ : ByteArray) == ⟨#[]⟩) = decide (a = []) :=F6 a []
@[go_sem] theorem sb_bne0 (a : List UInt8) : ((⟨a.toArray⟩ : ByteArray) != ⟨#[]⟩) = !decide (a = []) :=by rw [bne,H8]
@[go_sem] theorem sb_beq48 (a : List UInt8) : ((⟨a.toArray⟩ : ByteArray) == ⟨#[48]⟩) = decide (a = [48]) :=F6 a [48]
@[go_sem] theorem sb_get (l : List UInt8) (n : Nat) (d : UInt8) : l.toArray.getD n d = l.getD n d :=by simp [Array.getD_eq_getD_getElem?,List.getD_eq_getElem?_getD]
def isDg (c : UInt8) : Prop :=48 ≤ c.toNat ∧ c.toNat ≤ 57
def good (t : List UInt8) : Prop :=t ≠ [] ∧ t.head? ≠ some 48 ∧ ∀ c ∈ t,isDg c
noncomputable instance (t : List UInt8) : Decidable (good t) :=Classical.propDecidable _
def numF (t : List UInt8) : Int :=t.foldl (fun a c => a * 10 + ((c.toNat : Int) - 48)) 0
noncomputable def rd (s : List UInt8) : Int × Int :=
 if s = [48] then (0,0) else
 if good (Lib.trimPrefix s [45]) then
  (if numF (Lib.trimPrefix s [45]) < 1048576 ^ 60 then (if Lib.hasPrefix s [45] then -numF (Lib.trimPrefix s [45]) else numF (Lib.trimPrefix s [45]),0) else (0,6))
 else (0,2)
end Go.Proofs.YthibhamepjhfjaaGreatDoor

namespace Go.Proofs.YthibhamepjhfjaaGreatDoor
open Go.RowKit Go.Ab
end Go.Proofs.YthibhamepjhfjaaGreatDoor

namespace Go.Proofs.YthibhamepjhfjaaGreatDoor
open Go.RowKit Go.Ab
attribute [local irreducible] AWP Go.Ab.Sub Means MeansH CallK CallG CallT CallGT
theorem F7 : ∀ (k n : Nat),0 < k → n < 10 ^ k → (dd n).length ≤ k
 | 0,n,h0,h => by omega
 | k + 1,n,h0,h => by
   by_cases h1 : n < 10
   · rw [gC h1]; simp
   · have hk : 0 < k :=by
      refine Nat.pos_of_ne_zero fun e => ?_
      subst e
      simp at h; omega
     rw [cZ (by omega)]
     have :=F7 k (n / 10) hk (by rw [Nat.pow_succ] at h; omega)
     simp; omega
theorem F8 : (1048576 : Nat) ^ 60 < (10 ^ 200) ^ 2 :=by decide
theorem H9 (k n : Nat) (h0 : 0 < k) (h : n < (10 ^ k) ^ 2) : (dd n).length ≤ k * 2 :=F7 (k * 2) n (by omega) (by rw [Nat.pow_mul]; exact h)
theorem nR {z : Int} (h : rz z) : (txt z).length ≤ 401 :=by
 have h2 : z.natAbs < (10 ^ 200) ^ 2 :=by
  refine Nat.lt_trans ?_ F8
  unfold rz at h
  rw [fV] at h
  have e : ((1048576 : Int) ^ 60) = ((1048576 ^ 60 : Nat) : Int) :=(Int.natCast_pow 1048576 60).symm
  rw [e] at h
  exact Int.ofNat_lt.1 h
 have :=H9 200 z.natAbs (by decide) h2
 clear h2
 unfold txt
 split
 · simp
 · split
   · rw [List.length_cons]; omega
   · omega
end Go.Proofs.YthibhamepjhfjaaGreatDoor

namespace Go.Proofs.YthibhamepjhfjaaGreatDoor
open Go.RowKit Go.Ab
attribute [local irreducible] AWP Go.Ab.Sub Means MeansH CallK CallG CallT CallGT
noncomputable instance (p q : Int) : Decidable (rf p q) :=Classical.propDecidable _
theorem AA {p q : Int} (hp : rz p) (hq : rz q) : isF (sg p) (dg (ab p)) (sg q) (dg (ab q)) ↔ rf p q :=by
 unfold isF
 rw [eE,eE]
 exact ⟨fun h => h.2.2,fun h => ⟨lQ hp,lQ hq,h⟩⟩
theorem AB (p q : Int) (hp : rz p) (hq : rz q) : Means false Tryz.prog 41 [frZ p q] (bb (decide (rf p q))) :=by
 have :=j2 (sg p) (dg (ab p)) (by have :=bQ hp; omega) (sg q) (dg (ab q)) (by have :=bQ hq; omega)
 simpa only [AA hp hq] using this
set_option maxHeartbeats 4000000 in
theorem AC (a b : Int) (h : rf a b) : Means false Tryz.prog 24 [frZ a b] (bigZ (a / b)) :=by
 have hb :=h.2.2.1
 refine aF false 20 [.cell 2 39] Tryz.func24 rfl rfl rfl (by simp) (by decide) rfl fun X hX => ?_
 (repeat (refine a7 [0,1,2,3,8] hX mixed rfl ?_;simp [go_sem];try refine ⟨by kernel_rfl,?_⟩))
 first | refine a8 (bG a b h) ?_ | refine aA (bG a b h) ?_
 try (simp [go_sem];try refine ⟨by kernel_rfl,?_⟩)
 refine aC (by simp [go_sem]) ?_
 (repeat (refine a7 [0,1,2,3,8] hX mixed rfl ?_;simp [go_sem];try refine ⟨by kernel_rfl,?_⟩))
 first | refine a8 (dQ h.1 h.2.1 (by omega) (cG hb).1 (cG hb).2) ?_ | refine aA (dQ h.1 h.2.1 (by omega) (cG hb).1 (cG hb).2) ?_
 try (simp [go_sem];try refine ⟨by kernel_rfl,?_⟩)
 (repeat (refine a7 [0,1,2,3,8] hX mixed rfl ?_;simp [go_sem];try refine ⟨by kernel_rfl,?_⟩))
def ftxt (p q : Int) : List UInt8 :=txt p ++ 47 :: txt q
set_option maxHeartbeats 4000000 in
theorem JX (p q : Int) (hp : rz p) (hq : rz q) : Means false Tryz.prog 66 [frZ p q] (sb (if rf p q then ftxt p q else [])) :=by
 have l1 :=nR hp
 have l2 :=nR hq
 refine aF false 14 [.tmp 2] Tryz.func66 rfl rfl rfl (by simp) (by decide) rfl fun X hX => ?_
 (repeat (refine a7 [0,1,2,5] hX mixed rfl ?_;simp [go_sem];try refine ⟨by kernel_rfl,?_⟩))
 first | refine a8 (AB p q hp hq) ?_ | refine aA (AB p q hp hq) ?_
 try (simp [go_sem];try refine ⟨by kernel_rfl,?_⟩)
 by_cases h : rf p q
 · refine aC (by simp [go_sem,h]) ?_
   (repeat (refine a7 [0,1,2,5] hX mixed rfl ?_;simp [go_sem];try refine ⟨by kernel_rfl,?_⟩))
   first | refine a8 (tY p hp) ?_ | refine aA (tY p hp) ?_
   try (simp [go_sem];try refine ⟨by kernel_rfl,?_⟩)
   refine ⟨by unfold maxLen; omega,?_⟩
   try (simp [go_sem];try refine ⟨by kernel_rfl,?_⟩)
   first | refine a8 (tY q hq) ?_ | refine aA (tY q hq) ?_
   try (simp [go_sem];try refine ⟨by kernel_rfl,?_⟩)
   refine ⟨by unfold maxLen; omega,?_⟩
   (repeat (refine a7 [0,1,2,5] hX mixed rfl ?_;simp [go_sem,h,ftxt];try refine ⟨by kernel_rfl,?_⟩))
   try (simp [go_sem,h,ftxt];try refine ⟨by kernel_rfl,?_⟩)
   (repeat (refine a7 [0,1,2,5] hX mixed rfl ?_;simp [go_sem,h,ftxt];try refine ⟨by kernel_rfl,?_⟩))
 · refine aK (by simp [go_sem,h]) ?_
   (repeat (refine a7 [0,1,2,5] hX mixed rfl ?_;simp [go_sem,h];try refine ⟨by kernel_rfl,?_⟩))
end Go.Proofs.YthibhamepjhfjaaGreatDoor

namespace Go.Proofs.YthibhamepjhfjaaGreatDoor
open Go.RowKit Go.Ab
attribute [local irreducible] AWP Go.Ab.Sub Means MeansH CallK CallG CallT CallGT
theorem C8 (s1 s2 : Int) (a b : List Int) (hla : a.length ≤ 140737488355328) (hlb : b.length ≤ 140737488355328) : Means false Tryz.prog 85 [big2 s1 a,big2 s2 b] (bb (decide (s1 = s2 ∧ a = b))) :=by
 refine aF false 38 [.tmp 4] Tryz.func85 rfl rfl rfl (by simp) (by decide) rfl fun X hX => ?_
 (repeat (refine a7 q9x2 hX mixed rfl ?_;simp [go_sem];try refine ⟨by kernel_rfl,?_⟩))
 by_cases h : s1 = s2
 · subst h
   by_cases hl : a.length = b.length
   · (repeat (refine a7 q9x2 hX mixed rfl ?_;simp [go_sem,hl];try refine ⟨by kernel_rfl,?_⟩))
     refine aB (b :=false) (by simp [go_sem,hl]) (fun hb => by cases hb) (fun _ => ?_)
     (repeat (refine a7 q9x2 hX mixed rfl ?_;simp [go_sem];try refine ⟨by kernel_rfl,?_⟩))
     refine aH (fun n : Nat => ⟨mkE [(2,.el 0 2 0 0),(3,.el 1 2 0 0),(5,ii n)],[.row ⟨39,2,[big2 s1 a]⟩,.row ⟨39,2,[big2 s1 b]⟩]⟩) (fun n => n ≤ a.length ∧ a.take n = b.take n) (fun n => a.length - n) 0 ?_ ?_ ?_
     · refine aG _ [.old 0 ⟨39,2,[big2 s1 a]⟩,.old 1 ⟨39,2,[big2 s1 b]⟩] (by simp [go_sem]) ?_
       simp [go_sem]
     · exact ⟨Nat.zero_le _,by simp⟩
     · rintro n ⟨hn,he⟩
       (repeat (refine a7 q9x2 hX mixed rfl ?_;simp [go_sem];try refine ⟨by kernel_rfl,?_⟩))
       refine aB (b :=decide (n < a.length)) (by simp [go_sem]) (fun hd2 => ?_) (fun hd2 => ?_)
       · simp at hd2
         have h2 : n < b.length :=by omega
         (repeat (refine a7 q9x2 hX mixed rfl ?_;simp [go_sem,hd2,h2]; (try simp (disch :=omega) only [w64,td,tm]);try refine ⟨by kernel_rfl,?_⟩))
         (repeat refine And.intro (by first | omega | (unfold maxLen;omega) | kernel_rfl | (constructor <;> first | omega | (unfold maxLen;omega)) | grind) ?_)
         try (simp [go_sem,hd2,h2];try refine ⟨by kernel_rfl,?_⟩)
         refine aB (b :=decide (a[n] ≠ b[n])) (by simp [go_sem,hd2,h2]; try omega) (fun hc => ?_) (fun hc => ?_)
         · simp only [decide_eq_true_eq] at hc
           have hne : ¬ a = b :=fun e => hc (by simp only [e])
           (repeat (refine a7 q9x2 hX mixed rfl ?_;simp [go_sem,hne];try refine ⟨by kernel_rfl,?_⟩))
         · simp at hc
           (repeat (refine a7 q9x2 hX mixed rfl ?_;simp [go_sem]; (try simp (disch :=omega) only [w64,td,tm]);try refine ⟨by kernel_rfl,?_⟩))
           refine ⟨n + 1,⟨by omega,?_⟩,by omega,?_⟩
           · rw [List.take_succ_eq_append_getElem hd2,List.take_succ_eq_append_getElem h2,he,hc]
           · refine aG _ [.old 0 ⟨39,2,[big2 s1 a]⟩,.old 1 ⟨39,2,[big2 s1 b]⟩] (by simp [go_sem]) ?_
             simp [go_sem]
       · have hnl : n = a.length :=by simp at hd2; omega
         subst hnl
         have hab : a = b :=by rwa [List.take_length,hl,List.take_length] at he
         (repeat (refine a7 q9x2 hX mixed rfl ?_;simp [go_sem,hab];try refine ⟨by kernel_rfl,?_⟩))
   · have hne : ¬ a = b :=fun e => hl (by rw [e])
     (repeat (refine a7 q9x2 hX mixed rfl ?_;simp [go_sem,hl];try refine ⟨by kernel_rfl,?_⟩))
     refine aB (b :=true) (by simp [go_sem,hl]; try omega) (fun _ => ?_) (fun hb => by cases hb)
     (repeat (refine a7 q9x2 hX mixed rfl ?_;simp [go_sem,hne];try refine ⟨by kernel_rfl,?_⟩))
 · (repeat (refine a7 q9x2 hX mixed rfl ?_;simp [go_sem,h];try refine ⟨by kernel_rfl,?_⟩))
   refine aB (b :=true) (by simp [go_sem,h]) (fun _ => ?_) (fun hb => by cases hb)
   (repeat (refine a7 q9x2 hX mixed rfl ?_;simp [go_sem,h];try refine ⟨by kernel_rfl,?_⟩))
theorem jG (z w : Int) (hz : rz z) (hw : rz w) : Means false Tryz.prog 85 [bigZ z,bigZ w] (bb (decide (z = w))) :=by
 have :=C8 (sg z) (sg w) (dg (ab z)) (dg (ab w)) (by have :=bQ hz; omega) (by have :=bQ hw; omega)
 simpa only [wT] using this
theorem HA (a b c d : Int) (ha : rz a) (hb : rz b) (hc : rz c) (hd : rz d) : Means false Tryz.prog 52 [frZ a b,frZ c d] (bb (decide (a = c ∧ b = d))) :=by
 refine aF false 17 [.tmp 4] Tryz.func52 rfl rfl rfl (by simp) (by decide) rfl fun X hX => ?_
 (repeat (refine a7 [0,1,2,3,4] hX mixed rfl ?_;simp [go_sem];try refine ⟨by kernel_rfl,?_⟩))
 first | refine a8 (jG a c ha hc) ?_ | refine aA (jG a c ha hc) ?_
 try (simp [go_sem];try refine ⟨by kernel_rfl,?_⟩)
 first | refine aP (fun hg => jG b d hb hd) ?_ | refine aM (fun hg => jG b d hb hd) ?_
 try (simp [go_sem];try refine ⟨by kernel_rfl,?_⟩)
 (repeat (refine a7 [0,1,2,3,4] hX mixed rfl ?_;simp [go_sem];try refine ⟨by kernel_rfl,?_⟩))
theorem IP (s1 : Int) (L1 : List Int) (l1 : L1.length ≤ 9223372036854775807) (s2 : Int) (L2 : List Int) (l2 : L2.length ≤ 9223372036854775807) (n : Int) : Means false Tryz.prog 28 [frac4 s1 L1 s2 L2,ii n] (bb (decide ((L1.length : Int) ≤ n ∧ (L2.length : Int) ≤ n))) :=by
 refine aF false 19 [.tmp 4] Tryz.func28 rfl rfl rfl (by simp) (by decide) rfl fun X hX => ?_
 (repeat (refine a7 [0,1,2,4] hX mixed rfl ?_;simp [go_sem];try refine ⟨by kernel_rfl,?_⟩))
end Go.Proofs.YthibhamepjhfjaaGreatDoor

namespace Go.Proofs.YthibhamepjhfjaaGreatDoor
open Go.RowKit Go.Ab
attribute [local irreducible] AWP Go.Ab.Sub Means MeansH CallK CallG CallT CallGT CallU
abbrev frq (r : Rat) : AV :=frZ r.num r.den
def rq (r : Rat) : Prop :=rz r.num ∧ rz r.den
theorem dL {r : Rat} (h : rq r) : rf r.num r.den :=⟨h.1,h.2,by have :=r.den_pos; omega,by have :=r.reduced; simpa [Int.gcd] using this⟩
theorem L4 {p q : Int} (h : rf p q) : ∃ r : Rat,rq r ∧ r.num = p ∧ (r.den : Int) = q :=by
 obtain ⟨h1,h2,h3,h4⟩ :=h
 refine ⟨⟨p,q.toNat,by omega,?_⟩,⟨h1,?_⟩,rfl,?_⟩
 · have : q.natAbs = q.toNat :=by omega
   rw [← this]; exact h4
 · show rz (q.toNat : Int)
   rw [Int.toNat_of_nonneg (by omega)]; exact h2
 · show (q.toNat : Int) = q
   omega
theorem cQ (r : Rat) : (r.num : Rat) = r * (r.den : Int) :=by
 have h :=Rat.num_divInt_den r
 rw [Rat.divInt_eq_div] at h
 have hd : (((r.den : Int)) : Rat) ≠ 0 :=by
  have :=r.den_pos
  intro e
  have : ((r.den : Int) : Rat) = ((0 : Int) : Rat) :=e
  have :=Rat.intCast_inj.1 this
  omega
 grind
theorem JY (r : Rat) : (((r.den : Int)) : Rat) ≠ 0 :=by
 have :=r.den_pos
 intro e
 have : ((r.den : Int) : Rat) = ((0 : Int) : Rat) :=e
 have :=Rat.intCast_inj.1 this
 omega
theorem eM {p q : Int} {r : Rat} (hq : q ≠ 0) (h : r * (q : Rat) = p) : np p q = r.num ∧ nq p q = (r.den : Int) :=by
 obtain ⟨a1,a2,a3,_⟩ :=pU (p :=p) hq
 refine F9 a1 a2 (by have :=r.den_pos; omega) (by have :=r.reduced; simpa [Int.gcd] using this) ?_
 have h1 :=cQ r
 have h2 : p * (r.den : Int) = r.num * q :=by
  have : ((p * (r.den : Int) : Int) : Rat) = ((r.num * q : Int) : Rat) :=by
   rw [Rat.intCast_mul,Rat.intCast_mul,h1,← h]; grind
  exact Rat.intCast_inj.1 this
 have key : np p q * (r.den : Int) * q = r.num * nq p q * q :=by
  have e1 : np p q * (r.den : Int) * q = (np p q * q) * (r.den : Int) :=by grind
  have e2 : r.num * nq p q * q = (r.num * q) * nq p q :=by grind
  rw [e1,e2,a3,← h2]; grind
 exact Int.eq_of_mul_eq_mul_right hq key
theorem FB {a b : Rat} (h1 : a.num = b.num) (h2 : (a.den : Int) = b.den) : a = b :=Rat.ext h1 (by omega)
theorem pV {p q : Int} {r : Rat} (hq : q ≠ 0) (h : r * (q : Rat) = p) (hp : rz p) (hz : rz q) : rq r :=by
 obtain ⟨h1,h2⟩ :=eM hq h
 obtain ⟨_,_,_,h4,h5,_⟩ :=pU (p :=p) hq
 refine ⟨?_,?_⟩
 · rw [← h1]; unfold rz at *; omega
 · rw [← h2]
   unfold rz at *
   have : ab (nq p q) = nq p q :=by
    have :=r.den_pos
    unfold ab; rw [if_neg (by omega)]
   omega
abbrev okMul (a b : Rat) : Prop :=rz (a.num * b.num) ∧ rz (a.den * b.den)
abbrev okAdd (a b : Rat) : Prop :=sumP a.num b.den b.num a.den ∧ rz (a.den * b.den)
abbrev okSub (a b : Rat) : Prop :=sumP a.num b.den (-b.num) a.den ∧ rz (a.den * b.den)
abbrev okDiv (a b : Rat) : Prop :=rz (a.num * b.den) ∧ rz (a.den * b.num)
theorem iW (a b : Rat) : (a.den : Int) * b.den ≠ 0 :=Int.mul_ne_zero (by have :=a.den_pos; omega) (by have :=b.den_pos; omega)
theorem nP (a b : Rat) : (a + b) * ((((a.den : Int) * b.den : Int)) : Rat) = ((a.num * b.den + b.num * a.den : Int) : Rat) :=by
 rw [Rat.intCast_mul,Rat.intCast_add,Rat.intCast_mul,Rat.intCast_mul,cQ a,cQ b]; grind
theorem tZ (a b : Rat) : (a - b) * ((((a.den : Int) * b.den : Int)) : Rat) = ((a.num * b.den + -b.num * a.den : Int) : Rat) :=by
 rw [Rat.intCast_mul,Rat.intCast_add,Rat.intCast_mul,Rat.intCast_mul,Rat.intCast_neg,cQ a,cQ b]; grind
theorem nO (a b : Rat) : (a * b) * ((((a.den : Int) * b.den : Int)) : Rat) = ((a.num * b.num : Int) : Rat) :=by
 rw [Rat.intCast_mul,Rat.intCast_mul,cQ a,cQ b]; grind
theorem yN {b : Rat} (h : b ≠ 0) : b.num ≠ 0 :=fun e => h (by
 have :=cQ b
 rw [e] at this
 have h2 :=JY b
 have h3 : ((0 : Int) : Rat) = 0 :=rfl
 rw [h3] at this
 grind)
theorem u5 (a b : Rat) (h : b ≠ 0) : (a / b) * ((((a.den : Int) * b.num : Int)) : Rat) = ((a.num * b.den : Int) : Rat) :=by
 rw [Rat.intCast_mul,Rat.intCast_mul,cQ a,cQ b]; grind
theorem JZ {a b : Rat} (h : okAdd a b) : rq (a + b) :=pV (iW a b) (nP a b) h.1.2.2 h.2
theorem DM {a b : Rat} (h : okSub a b) : rq (a - b) :=pV (iW a b) (tZ a b) h.1.2.2 h.2
theorem oJ {a b : Rat} (h : okMul a b) : rq (a * b) :=pV (iW a b) (nO a b) h.1 h.2
theorem FC (a : Rat) {b : Rat} (h : b ≠ 0) : (a.den : Int) * b.num ≠ 0 :=Int.mul_ne_zero (by have :=a.den_pos; omega) (yN h)
theorem xQ {a b : Rat} (hb : b ≠ 0) (h : okDiv a b) : rq (a / b) :=pV (FC a hb) (u5 a b hb) h.1 h.2
noncomputable def qv (ok : Prop) (r : Rat) : AV :=@ite _ ok (Classical.propDecidable ok) (.tup [frq r,ii 0]) (.tup [frZ 0 0,ii 6])
theorem gX {ok : Prop} {r : Rat} (h : ok) : qv ok r = .tup [frq r,ii 0] :=if_pos h
theorem qA {ok : Prop} {r : Rat} (h : ¬ ok) : qv ok r = .tup [frZ 0 0,ii 6] :=if_neg h
theorem I9 {a b : Rat} (ha : rq a) (hb : rq b) : Means false Tryz.prog 60 [frq a,frq b] (qv (okAdd a b) (a + b)) :=by
 have :=IA a.num a.den b.num b.den (dL ha) (dL hb)
 obtain ⟨h1,h2⟩ :=eM (iW a b) (nP a b)
 by_cases h : okAdd a b
 · rw [cY h,h1,h2] at this
   rw [gX h]; exact this
 · rw [cO h] at this
   rw [qA h]; exact this
theorem K0 {a b : Rat} (ha : rq a) (hb : rq b) (h : okAdd a b) : Means false Tryz.prog 60 [frq a,frq b] (.tup [frq (a + b),ii 0]) :=by
 have :=I9 ha hb
 rwa [gX h] at this
theorem L5 {a b : Rat} (ha : rq a) (hb : rq b) : Means false Tryz.prog 76 [frq a,frq b] (qv (okSub a b) (a - b)) :=by
 have :=L6 a.num a.den b.num b.den (dL ha) (dL hb)
 obtain ⟨h1,h2⟩ :=eM (iW a b) (tZ a b)
 by_cases h : okSub a b
 · rw [cY h,h1,h2] at this
   rw [gX h]; exact this
 · rw [cO h] at this
   rw [qA h]; exact this
theorem DK {a b : Rat} (ha : rq a) (hb : rq b) (h : okSub a b) : Means false Tryz.prog 76 [frq a,frq b] (.tup [frq (a - b),ii 0]) :=by
 have :=L5 ha hb
 rwa [gX h] at this
theorem L7 {a b : Rat} (ha : rq a) (hb : rq b) : Means false Tryz.prog 26 [frq a,frq b] (qv (okMul a b) (a * b)) :=by
 have :=L8 a.num a.den b.num b.den (dL ha) (dL hb)
 obtain ⟨h1,h2⟩ :=eM (iW a b) (nO a b)
 by_cases h : okMul a b
 · rw [cY h,h1,h2] at this
   rw [gX h]; exact this
 · rw [cO h] at this
   rw [qA h]; exact this
theorem IU {a b : Rat} (ha : rq a) (hb : rq b) (h : okMul a b) : Means false Tryz.prog 26 [frq a,frq b] (.tup [frq (a * b),ii 0]) :=by
 have :=L7 ha hb
 rwa [gX h] at this
theorem L9 {a b : Rat} (ha : rq a) (hb : rq b) (h0 : b ≠ 0) : Means false Tryz.prog 100 [frq a,frq b] (qv (okDiv a b) (a / b)) :=by
 have :=LA a.num a.den b.num b.den (dL ha) (dL hb) (yN h0)
 obtain ⟨h1,h2⟩ :=eM (FC a h0) (u5 a b h0)
 by_cases h : okDiv a b
 · rw [cY h,h1,h2] at this
   rw [gX h]; exact this
 · rw [cO h] at this
   rw [qA h]; exact this
theorem IW {a b : Rat} (ha : rq a) (hb : rq b) (h0 : b ≠ 0) (h : okDiv a b) : Means false Tryz.prog 100 [frq a,frq b] (.tup [frq (a / b),ii 0]) :=by
 have :=L9 ha hb h0
 rwa [gX h] at this
theorem ofq {p q : Int} (h0 : q ≠ 0) : ((p : Rat) / (q : Rat)) * (q : Rat) = (p : Rat) :=by
 have : (q : Rat) ≠ 0 :=fun e => h0 (Rat.intCast_inj.1 (show (q : Rat) = ((0 : Int) : Rat) from e))
 grind
theorem jL {p q : Int} (hp : -9223372036854775808 ≤ p ∧ p ≤ 9223372036854775807) (hq : -9223372036854775808 ≤ q ∧ q ≤ 9223372036854775807) (h0 : q ≠ 0) : rq ((p : Rat) / (q : Rat)) :=pV h0 (ofq h0) (jK hp) (jK hq)
theorem KP (p q : Int) (hp : -9223372036854775808 ≤ p ∧ p ≤ 9223372036854775807) (hq : -9223372036854775808 ≤ q ∧ q ≤ 9223372036854775807) (h0 : q ≠ 0) : Means false Tryz.prog 21 [ii p,ii q] (.tup [frq ((p : Rat) / (q : Rat)),ii 0]) :=by
 have :=LR p q hp hq h0
 obtain ⟨h1,h2⟩ :=eM (r :=(p : Rat) / (q : Rat)) h0 (ofq h0)
 rwa [h1,h2] at this
end Go.Proofs.YthibhamepjhfjaaGreatDoor

namespace Go.Proofs.YthibhamepjhfjaaGreatDoor
open Go.RowKit Go.Ab
attribute [local irreducible] AWP Go.Ab.Sub Means MeansH CallK CallG CallT CallGT CallU
abbrev calC (e : Int) : Cell :=.row ⟨56,1,[.agg [ii e]]⟩
def kp (c e : Int) : Int :=if c = 0 then e else c
theorem pW (c e : Int) (s1 : Int) (L1 : List Int) (s2 : Int) (L2 : List Int) : MeansH Tryz.prog 70 [calC c] [.el 0 1 0 0,frac4 s1 L1 s2 L2,ii e] (frac4 s1 L1 s2 L2) [calC (kp c e)] :=by
 refine bP 1 17 [.cell 6 41] Tryz.func70 rfl rfl rfl (by simp) (by decide) rfl fun X hX => ?_
 (repeat (refine aD [0,1,2,4,6,11,1000000] hX mixed rfl ?_;simp [go_sem];try refine ⟨by kernel_rfl,?_⟩))
 refine aB (b :=decide (c = 0)) (by simp [go_sem]) (fun hb => ?_) (fun hb => ?_)
 · simp only [decide_eq_true_eq] at hb
   have e1 : kp c e = e :=if_pos hb
   rw [e1]
   (repeat (refine aD [0,1,2,4,6,11,1000000] hX mixed rfl ?_;simp [go_sem];try refine ⟨by kernel_rfl,?_⟩))
   refine bN ?_; (try simp only [thenQ,blkQ,loopQ]); refine bO [(1000000,.ow 0)] [.old 0 ⟨56,1,[.agg [ii e]]⟩] ?_
   simp [go_sem]
 · simp only [decide_eq_false_iff_not] at hb
   have e1 : kp c e = c :=if_neg hb
   rw [e1]
   (repeat (refine aD [0,1,2,4,6,11,1000000] hX mixed rfl ?_;simp [go_sem];try refine ⟨by kernel_rfl,?_⟩))
   refine bN ?_; (try simp only [thenQ,blkQ,loopQ]); refine bO [(1000000,.ow 0)] [.old 0 ⟨56,1,[.agg [ii c]]⟩] ?_
   simp [go_sem]
theorem KO (c : Int) {p q s1 s2 e : Int} {L1 L2 : List Int} (h : Means false Tryz.prog 21 [ii p,ii q] (.tup [frac4 s1 L1 s2 L2,ii e])) : MeansH Tryz.prog 33 [calC c] [.el 0 1 0 0,ii p,ii q] (frac4 s1 L1 s2 L2) [calC (kp c e)] :=by
 have c1 :=pW c e s1 L1 s2 L2
 refine bP 1 14 [.cell 6 41] Tryz.func33 rfl rfl rfl (by simp) (by decide) rfl fun X hX => ?_
 (repeat (refine aD [0,1,2,6,1000000] hX mixed rfl ?_;simp [go_sem];try refine ⟨by kernel_rfl,?_⟩))
 first | refine a8 (h) ?_ | refine aA (h) ?_
 try (simp [go_sem];try refine ⟨by kernel_rfl,?_⟩)
 first | refine aL [0] (c1) (by simp [go_sem]) ?_ | refine aJ [0] (c1) (by simp [go_sem]) ?_ | refine aI [0] (c1) (by simp [go_sem]) ?_
 try (simp [go_sem];try refine ⟨by kernel_rfl,?_⟩)
 refine bN ?_; (try simp only [thenQ,blkQ,loopQ]); refine bO [(1000000,.ow 0)] [.old 0 ⟨56,1,[.agg [ii (kp c e)]]⟩] ?_
 simp [go_sem]
theorem AD (c : Int) {s1 s2 t1 t2 r1 r2 e : Int} {L1 L2 M1 M2 N1 N2 : List Int} (h : Means false Tryz.prog 60 [frac4 s1 L1 s2 L2,frac4 t1 M1 t2 M2] (.tup [frac4 r1 N1 r2 N2,ii e])) : MeansH Tryz.prog 44 [calC c] [.el 0 1 0 0,frac4 s1 L1 s2 L2,frac4 t1 M1 t2 M2] (frac4 r1 N1 r2 N2) [calC (kp c e)] :=by
 have c1 :=pW c e r1 N1 r2 N2
 refine bP 1 14 [.cell 6 41] Tryz.func44 rfl rfl rfl (by simp) (by decide) rfl fun X hX => ?_
 (repeat (refine aD q9x3 hX mixed rfl ?_;simp [go_sem];try refine ⟨by kernel_rfl,?_⟩))
 first | refine a8 (h) ?_ | refine aA (h) ?_
 try (simp [go_sem];try refine ⟨by kernel_rfl,?_⟩)
 first | refine aL [0] (c1) (by simp [go_sem]) ?_ | refine aJ [0] (c1) (by simp [go_sem]) ?_ | refine aI [0] (c1) (by simp [go_sem]) ?_
 try (simp [go_sem];try refine ⟨by kernel_rfl,?_⟩)
 refine bN ?_; (try simp only [thenQ,blkQ,loopQ]); refine bO [(1000000,.ow 0)] [.old 0 ⟨56,1,[.agg [ii (kp c e)]]⟩] ?_
 simp [go_sem]
theorem I1 (c : Int) {s1 s2 t1 t2 r1 r2 e : Int} {L1 L2 M1 M2 N1 N2 : List Int} (h : Means false Tryz.prog 76 [frac4 s1 L1 s2 L2,frac4 t1 M1 t2 M2] (.tup [frac4 r1 N1 r2 N2,ii e])) : MeansH Tryz.prog 43 [calC c] [.el 0 1 0 0,frac4 s1 L1 s2 L2,frac4 t1 M1 t2 M2] (frac4 r1 N1 r2 N2) [calC (kp c e)] :=by
 have c1 :=pW c e r1 N1 r2 N2
 refine bP 1 14 [.cell 6 41] Tryz.func43 rfl rfl rfl (by simp) (by decide) rfl fun X hX => ?_
 (repeat (refine aD q9x3 hX mixed rfl ?_;simp [go_sem];try refine ⟨by kernel_rfl,?_⟩))
 first | refine a8 (h) ?_ | refine aA (h) ?_
 try (simp [go_sem];try refine ⟨by kernel_rfl,?_⟩)
 first | refine aL [0] (c1) (by simp [go_sem]) ?_ | refine aJ [0] (c1) (by simp [go_sem]) ?_ | refine aI [0] (c1) (by simp [go_sem]) ?_
 try (simp [go_sem];try refine ⟨by kernel_rfl,?_⟩)
 refine bN ?_; (try simp only [thenQ,blkQ,loopQ]); refine bO [(1000000,.ow 0)] [.old 0 ⟨56,1,[.agg [ii (kp c e)]]⟩] ?_
 simp [go_sem]
theorem KM (c : Int) {s1 s2 t1 t2 r1 r2 e : Int} {L1 L2 M1 M2 N1 N2 : List Int} (h : Means false Tryz.prog 26 [frac4 s1 L1 s2 L2,frac4 t1 M1 t2 M2] (.tup [frac4 r1 N1 r2 N2,ii e])) : MeansH Tryz.prog 32 [calC c] [.el 0 1 0 0,frac4 s1 L1 s2 L2,frac4 t1 M1 t2 M2] (frac4 r1 N1 r2 N2) [calC (kp c e)] :=by
 have c1 :=pW c e r1 N1 r2 N2
 refine bP 1 14 [.cell 6 41] Tryz.func32 rfl rfl rfl (by simp) (by decide) rfl fun X hX => ?_
 (repeat (refine aD q9x3 hX mixed rfl ?_;simp [go_sem];try refine ⟨by kernel_rfl,?_⟩))
 first | refine a8 (h) ?_ | refine aA (h) ?_
 try (simp [go_sem];try refine ⟨by kernel_rfl,?_⟩)
 first | refine aL [0] (c1) (by simp [go_sem]) ?_ | refine aJ [0] (c1) (by simp [go_sem]) ?_ | refine aI [0] (c1) (by simp [go_sem]) ?_
 try (simp [go_sem];try refine ⟨by kernel_rfl,?_⟩)
 refine bN ?_; (try simp only [thenQ,blkQ,loopQ]); refine bO [(1000000,.ow 0)] [.old 0 ⟨56,1,[.agg [ii (kp c e)]]⟩] ?_
 simp [go_sem]
theorem KN (c : Int) {s1 s2 t1 t2 r1 r2 e : Int} {L1 L2 M1 M2 N1 N2 : List Int} (h : Means false Tryz.prog 100 [frac4 s1 L1 s2 L2,frac4 t1 M1 t2 M2] (.tup [frac4 r1 N1 r2 N2,ii e])) : MeansH Tryz.prog 69 [calC c] [.el 0 1 0 0,frac4 s1 L1 s2 L2,frac4 t1 M1 t2 M2] (frac4 r1 N1 r2 N2) [calC (kp c e)] :=by
 have c1 :=pW c e r1 N1 r2 N2
 refine bP 1 14 [.cell 6 41] Tryz.func69 rfl rfl rfl (by simp) (by decide) rfl fun X hX => ?_
 (repeat (refine aD q9x3 hX mixed rfl ?_;simp [go_sem];try refine ⟨by kernel_rfl,?_⟩))
 first | refine a8 (h) ?_ | refine aA (h) ?_
 try (simp [go_sem];try refine ⟨by kernel_rfl,?_⟩)
 first | refine aL [0] (c1) (by simp [go_sem]) ?_ | refine aJ [0] (c1) (by simp [go_sem]) ?_ | refine aI [0] (c1) (by simp [go_sem]) ?_
 try (simp [go_sem];try refine ⟨by kernel_rfl,?_⟩)
 refine bN ?_; (try simp only [thenQ,blkQ,loopQ]); refine bO [(1000000,.ow 0)] [.old 0 ⟨56,1,[.agg [ii (kp c e)]]⟩] ?_
 simp [go_sem]
end Go.Proofs.YthibhamepjhfjaaGreatDoor

