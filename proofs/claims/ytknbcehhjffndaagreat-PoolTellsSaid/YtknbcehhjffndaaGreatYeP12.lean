/-
  Lemmas for the statement at the top.
-/
import Derived.Test.YtknbcehhjffndaaGreatYeP11
import Derived.Test.YtknbcehhjffndaaGreatYeFw4
import Derived.Test.YtknbcehhjffndaaGreatYeP8
import Derived.Test.YtknbcehhjffndaaGreatYeP6
import Derived.Test.YtknbcehhjffndaaGreatYeFw5
set_option linter.all false
namespace Go.Ab
def q8x0 : List Nat :=[0,2,3,4,5,7,10,12,16]
def q8x1 : List Nat :=[0,1,4,5,6,7,8,9,10,11,19,33,43]
def q8x2 : List Nat :=[0,1,2,3,4,17,22,27,36]
def q8x3 : List Nat :=[0,1,2,3,4,5,13,29,48]
def q8x4 : List Nat :=[0,1,2,3,4,9,25,48]
def q8x5 : List Nat :=[0,1,2,3,4,5,19,24,37]
def q8x6 : List Nat :=[0,1,2,6,7,8,9,13,30,35,54,1000000,1000001]
def q8x7 : List Nat :=[0,1,2,3,4,5,6,9,20,26]
attribute [go_sem] q8x0 q8x1 q8x2 q8x3 q8x4 q8x5 q8x6 q8x7
end Go.Ab
namespace Go.Proofs.YtknbcehhjffndaaGreat.B
open Go.RowKit Go.Ab
attribute [local irreducible] AWP Go.Ab.Sub Means MeansH CallK CallG CallT CallGT
set_option maxHeartbeats 4000000 in
set_option maxRecDepth 20000 in
theorem EX (l : List Int) (R : List Rat) (hn : l.Nodup) (hord : ∀ i j (hi : i < l.length) (hj : j < l.length),i < j → l[i] < l[j]) (hr : ∀ x ∈ l,0 ≤ x ∧ x < R.length) (hlt : l.length < 20) (hR : R.length ≤ 100000) (hok : okR R) :
  MeansH Tryz.prog 74 (sH l R) [.ow 0,ii l.length,clo] (.tup []) (sH (srt (kf R) l) R) :=by
 have hi : MeansH Tryz.prog 105 (sH l R) [.ow 0,ii 0,ii l.length,clo] (.tup []) (sH (srt (kf R) l) R) :=by
  have :=C5 [] l [] R hn hord hr (by simp; omega) hR hok
  simpa [r3] using this
 have hlt2 : ¬ (20 : Int) ≤ l.length :=by omega
 have hlt3 : ¬ (20 : Int) < l.length :=by omega
 refine bI 2 63 [] Tryz.func74 rfl rfl rfl (by simp) (by decide) rfl fun X hX => ?_
 (repeat (refine aC q8x6 hX a7 rfl ?_; (simp [go_sem]; (try simp (disch :=omega) only [w64,td,tm]))))
 refine aF (fun _ : Nat => ⟨mkE [(0,.ow 0),(1,ii l.length),(2,clo),(6,ii 20),(7,ii 0),(8,ii 20),(1000000,.ow 0),(1000001,.ow 1)],sH l R⟩) (fun _ => True) (fun _ => 0) 0 ?_ ?_ ?_
 · refine aA _ [.old 0 ⟨3,1,l.map ii⟩,.old 1 ⟨43,1,[bsl R]⟩] (by simp [go_sem]) ?_
   simp [go_sem]
 · trivial
 · intro _ _
   (repeat (refine aC q8x6 hX a7 rfl ?_; (simp [go_sem,hlt2]; (try simp (disch :=omega) only [w64,td,tm]))))
   refine a8 (b :=false) (by simp [go_sem]; try omega) (fun h => by cases h) (fun _ => ?_)
   (repeat (refine aC q8x6 hX a7 rfl ?_; (simp [go_sem])))
   refine aG [0,1] (hi) (by simp [go_sem]) ?_
   try (simp [go_sem])
   (repeat (refine aC q8x6 hX a7 rfl ?_; (simp [go_sem])))
   refine aF (fun _ : Nat => ⟨mkE [(0,.ow 0),(1,ii l.length),(2,clo),(6,ii 20),(1000000,.ow 0),(1000001,.ow 1)],sH (srt (kf R) l) R⟩) (fun _ => True) (fun _ => 0) 0 ?_ ?_ ?_
   · refine aA _ [.old 0 ⟨3,1,(srt (kf R) l).map ii⟩,.old 1 ⟨43,1,[bsl R]⟩] (by simp [go_sem]) ?_
     simp [go_sem]
   · trivial
   · intro _ _
     (repeat (refine aC q8x6 hX a7 rfl ?_; (simp [go_sem,hlt3]; (try simp (disch :=omega) only [w64,td,tm]))))
     refine a8 (b :=false) (by simp [go_sem]; try omega) (fun h => by cases h) (fun _ => ?_)
     (repeat (refine aC q8x6 hX a7 rfl ?_; (simp [go_sem])))
     (try refine b8 ?_); (try simp only [thenQ,blkQ,loopQ]); refine j0 [(1000000,.ow 0),(1000001,.ow 1)] [.old 0 ⟨3,1,(srt (kf R) l).map ii⟩,.old 1 ⟨43,1,[bsl R]⟩] ?_
     simp [go_sem]
set_option maxHeartbeats 4000000 in
set_option maxRecDepth 20000 in
theorem sortS_m (l : List Int) (R : List Rat) (hn : l.Nodup) (hord : ∀ i j (hi : i < l.length) (hj : j < l.length),i < j → l[i] < l[j]) (hr : ∀ x ∈ l,0 ≤ x ∧ x < R.length) (hlt : l.length < 20) (hR : R.length ≤ 100000) (hok : okR R) :
  MeansH Tryz.prog 40 (sH l R) [.ow 0,clo] (.tup []) (sH (srt (kf R) l) R) :=by
 refine bI 2 9 [] Tryz.func40 rfl rfl rfl (by simp) (by decide) rfl fun X hX => ?_
 (repeat (refine aC [0,1,1000000,1000001] hX a7 rfl ?_; (simp [go_sem])))
 refine aG [0,1] (EX l R hn hord hr hlt hR hok) (by simp [go_sem]) ?_
 try (simp [go_sem])
 (repeat (refine aC [0,1,1000000,1000001] hX a7 rfl ?_; (simp [go_sem])))
 (try refine b8 ?_); (try simp only [thenQ,blkQ,loopQ]); refine j0 [(1000000,.ow 0),(1000001,.ow 1)] [.old 0 ⟨3,1,(srt (kf R) l).map ii⟩,.old 1 ⟨43,1,[bsl R]⟩] ?_
 simp [go_sem]
end Go.Proofs.YtknbcehhjffndaaGreat.B

namespace Go.Proofs.YtknbcehhjffndaaGreat
def sumL (l : List Int) : Int :=l.foldr (· + ·) 0
@[simp] theorem sumL_nil : sumL [] = 0 :=rfl
@[simp] theorem bW (a : Int) (l : List Int) : sumL (a :: l) = a + sumL l :=rfl
theorem gJ : ∀ a b : List Int,sumL (a ++ b) = sumL a + sumL b
 | [],b => by simp
 | x :: a,b => by simp [gJ a b]; omega
theorem m8 {l : List Int} {k : Nat} (h : k < l.length) : sumL (l.take (k + 1)) = sumL (l.take k) + l[k] :=by
 rw [List.take_succ_eq_append_getElem h,gJ]; simp
def inC (c : Int) : Bool :=decide (0 ≤ c) && decide (c ≤ 1099511627776)
def okC' (C : List Int) : Bool :=C.all inC
def okH (C : List Int) (h : Int) : Bool :=decide ((C.length : Int) ≤ 400) && decide (0 ≤ h) && decide (h ≤ 1125899906842624)
def rightC (C : List Int) (h : Int) : Bool :=okC' C && okH C h
theorem hI {C : List Int} (h : okC' C = true) {c : Int} (hc : c ∈ C) : 0 ≤ c ∧ c ≤ 1099511627776 :=by
 have :=List.all_eq_true.1 h c hc
 simpa [inC] using this
theorem wP {C : List Int} {k : Nat} (h : k < C.length) (h1 : okC' (C.take k) = true) (h2 : inC C[k] = true) : okC' (C.take (k + 1)) = true :=by
 unfold okC' at *
 rw [List.take_succ_eq_append_getElem h,List.all_append,h1]; simp [h2]
theorem AM {C : List Int} {k : Nat} (h : k < C.length) (h2 : inC C[k] = false) : okC' C = false :=List.all_eq_false.2 ⟨C[k],List.getElem_mem h,by simp [h2]⟩
theorem m9 : ∀ {C : List Int},okC' C = true → 0 ≤ sumL C ∧ sumL C ≤ C.length * 1099511627776
 | [],_ => by simp
 | c :: C,h => by
   simp only [okC',List.all_cons,Bool.and_eq_true] at h
   have h1 : 0 ≤ c ∧ c ≤ 1099511627776 :=by simpa [inC] using h.1
   have ih :=m9 (C :=C) h.2
   simp only [bW,List.length_cons]
   omega
theorem pJ {C : List Int} (h : okC' C = true) (k : Nat) : okC' (C.take k) = true :=List.all_eq_true.2 fun c hc => List.all_eq_true.1 h c (List.mem_of_mem_take hc)
def fill (C : List Int) (l : Int) : Int :=sumL (C.map fun c => min c l)
theorem bU (c : Int) (C : List Int) (l : Int) : fill (c :: C) l = min c l + fill C l :=rfl
theorem rX {C : List Int} {k : Nat} (h : k < C.length) (l : Int) : fill (C.take (k + 1)) l = fill (C.take k) l + min C[k] l :=by
 unfold fill
 rw [List.take_succ_eq_append_getElem h,List.map_append,gJ]; simp
theorem jX {l m : Int} (h : l ≤ m) : ∀ C : List Int,fill C l ≤ fill C m
 | [] => Int.le_refl _
 | c :: C => by have :=jX h C; rw [bU,bU]; omega
theorem u5 {l : Int} (hl : 0 ≤ l ∧ l ≤ 1099511627776) : ∀ {C : List Int},okC' C = true → 0 ≤ fill C l ∧ fill C l ≤ C.length * 1099511627776
 | [],_ => by simp [fill]
 | c :: C,h => by
   simp only [okC',List.all_cons,Bool.and_eq_true] at h
   have h1 : 0 ≤ c ∧ c ≤ 1099511627776 :=by simpa [inC] using h.1
   have ih :=u5 hl (C :=C) h.2
   rw [bU]; simp only [List.length_cons]
   omega
theorem gH : ∀ {C : List Int},okC' C = true → fill C 0 = 0
 | [],_ => rfl
 | c :: C,h => by
   simp only [okC',List.all_cons,Bool.and_eq_true] at h
   have h1 : 0 ≤ c ∧ c ≤ 1099511627776 :=by simpa [inC] using h.1
   rw [bU,gH (C :=C) h.2]; omega
theorem iY : ∀ {C : List Int} {l : Int},(∀ c ∈ C,c ≤ l) → fill C l = sumL C
 | [],_,_ => rfl
 | c :: C,l,h => by
   have h1 :=h c (by simp)
   rw [bU,iY (C :=C) (fun x hx => h x (by simp [hx])),bW]; omega
def cntG (C : List Int) (l : Int) : Nat :=C.countP fun c => decide (l < c)
theorem sE : ∀ (C : List Int) (l : Int),fill C (l + 1) = fill C l + cntG C l
 | [],_ => rfl
 | c :: C,l => by
   have :=sE C l
   rw [bU,bU,this]
   unfold cntG
   rw [List.countP_cons]
   by_cases h : l < c <;> simp [h] <;> omega
def shr (l : Int) : Int → List Int → List Int
 | _,[] => []
 | left,c :: C => if l < c ∧ 0 < left then (l + 1) :: shr l (left - 1) C else min c l :: shr l left C
def leftA (l : Int) : Int → List Int → Int
 | left,[] => left
 | left,c :: C => if l < c ∧ 0 < left then leftA l (left - 1) C else leftA l left C
theorem fR (l : Int) : ∀ (C : List Int) (left : Int),(shr l left C).length = C.length
 | [],_ => rfl
 | c :: C,left => by unfold shr; split <;> simp [fR l C]
theorem uB (l : Int) : ∀ (A B : List Int) (left : Int),shr l left (A ++ B) = shr l left A ++ shr l (leftA l left A) B
 | [],_,_ => rfl
 | c :: A,B,left => by
   rw [List.cons_append,shr,shr,leftA]
   split <;> simp [uB l A B]
theorem sF (l : Int) : ∀ (A B : List Int) (left : Int),leftA l left (A ++ B) = leftA l (leftA l left A) B
 | [],_,_ => rfl
 | c :: A,B,left => by
   rw [List.cons_append,leftA,leftA]
   split <;> rw [sF l A B]
def share1 (l left c : Int) : Int :=if l < c ∧ 0 < left then l + 1 else min c l
theorem wR {l left : Int} {C : List Int} {k : Nat} (h : k < C.length) : shr l left (C.take (k + 1)) = shr l left (C.take k) ++ [share1 l (leftA l left (C.take k)) C[k]] :=by
 rw [List.take_succ_eq_append_getElem h,uB]
 congr 1
 unfold shr share1
 split <;> rfl
theorem pK {l left : Int} {C : List Int} {k : Nat} (h : k < C.length) : leftA l left (C.take (k + 1)) = leftA l left (C.take k) - (if l < C[k] ∧ 0 < leftA l left (C.take k) then 1 else 0) :=by
 rw [List.take_succ_eq_append_getElem h,sF]
 generalize leftA l left (C.take k) = q
 show (if l < C[k] ∧ 0 < q then leftA l (q - 1) [] else leftA l q []) = _
 split <;> simp [leftA]
theorem l7 (l : Int) : ∀ (C : List Int) (left : Int),0 ≤ left → 0 ≤ leftA l left C ∧ leftA l left C ≤ left
 | [],left,h => by simp [leftA,h]
 | c :: C,left,h => by
   unfold leftA
   split
   · rename_i h2; have :=l7 l C (left - 1) (by omega); omega
   · exact l7 l C left h
theorem nS (l : Int) : ∀ (C : List Int) (left : Int),0 ≤ left → left ≤ cntG C l → sumL (shr l left C) = fill C l + left
 | [],left,h0,h1 => by simp [cntG] at h1; simp [shr,fill]; omega
 | c :: C,left,h0,h1 => by
   have e : (cntG (c :: C) l : Int) = cntG C l + if l < c then 1 else 0 :=by
    unfold cntG; rw [List.countP_cons]; by_cases h : l < c <;> simp [h]
   rw [e] at h1
   unfold shr
   rw [bU]
   split
   · rename_i h
     rw [if_pos h.1] at h1
     rw [bW,nS l C (left - 1) (by omega) (by omega)]; omega
   · rename_i h
     by_cases hc : l < c
     · have h0' : left = 0 :=by omega
       subst h0'
       rw [bW,nS l C 0 (by omega) (by omega)]; omega
     · rw [if_neg hc] at h1
       rw [bW,nS l C left h0 (by omega)]; omega
structure isLv (C : List Int) (h l : Int) : Prop where
 low : 0 ≤ l
 le : fill C l ≤ h
 lt : h < fill C (l + 1)
theorem mC {C : List Int} {h l m : Int} (a : isLv C h l) (b : isLv C h m) : l = m :=by
 rcases Int.lt_trichotomy l m with hlm | hlm | hlm
 · have :=jX (show l + 1 ≤ m by omega) C; have :=a.lt; have :=b.le; omega
 · exact hlm
 · have :=jX (show m + 1 ≤ l by omega) C; have :=b.lt; have :=a.le; omega
theorem mA {C : List Int} {h l : Int} (a : isLv C h l) : 0 ≤ h - fill C l ∧ h - fill C l < cntG C l :=by
 have h1 :=a.lt; have h2 :=a.le
 rw [sE] at h1; omega
open Classical in
noncomputable def lvl (C : List Int) (h : Int) : Int :=if e : ∃ l,isLv C h l then Classical.choose e else 0
theorem yP {C : List Int} {h l : Int} (a : isLv C h l) : lvl C h = l :=by
 have e : ∃ l,isLv C h l :=⟨l,a⟩
 unfold lvl
 rw [dif_pos e]
 exact mC (Classical.choose_spec e) a
noncomputable def share (C : List Int) (h : Int) : List Int :=if sumL C ≤ h then C else shr (lvl C h) (h - fill C (lvl C h)) C
end Go.Proofs.YtknbcehhjffndaaGreat

namespace Go.Proofs.YtknbcehhjffndaaGreat
def idxI (n : Nat) : List Int :=(List.range n).map fun i : Nat => (i : Int)
theorem iX (n : Nat) : (idxI n).length = n :=by simp [idxI]
theorem nT {n i : Nat} (h : i < (idxI n).length) : (idxI n)[i] = i :=by simp [idxI]
theorem dZ (n : Nat) : (idxI n).Nodup :=List.pairwise_iff_getElem.2 fun i j hi hj hij => by rw [nT hi,nT hj]; omega
theorem EY (n : Nat) : ∀ i j (hi : i < (idxI n).length) (hj : j < (idxI n).length),i < j → (idxI n)[i] < (idxI n)[j] :=fun i j hi hj hij => by rw [nT hi,nT hj]; omega
theorem fF {n : Nat} {x : Int} : x ∈ idxI n ↔ 0 ≤ x ∧ x < n :=by
 simp only [idxI,List.mem_map,List.mem_range]
 constructor
 · rintro ⟨i,hi,rfl⟩; omega
 · rintro ⟨h1,h2⟩; exact ⟨x.toNat,by omega,by omega⟩
def bump (L : List Int) (x : Int) : List Int :=L.set x.toNat (L.getD x.toNat 0 + 1)
def bumps (L : List Int) (O : List Int) : List Int :=O.foldl bump L
theorem j1 (L : List Int) (x : Int) : (bump L x).length = L.length :=by simp [bump]
theorem eX : ∀ (O L : List Int),(bumps L O).length = L.length
 | [],_ => rfl
 | x :: O,L => by
   have :=eX O (bump L x)
   rwa [j1] at this
theorem pQ {L O : List Int} {k : Nat} (h : k < O.length) : bumps L (O.take (k + 1)) = bump (bumps L (O.take k)) O[k] :=by
 unfold bumps; rw [List.take_succ_eq_append_getElem h,List.foldl_append]; rfl
theorem HV {L : List Int} {x B : Int} (h : ∀ v ∈ L,0 ≤ v ∧ v ≤ B) : ∀ v ∈ bump L x,0 ≤ v ∧ v ≤ B + 1 :=by
 intro v hv
 unfold bump at hv
 by_cases hx : x.toNat < L.length
 · have e : L.getD x.toNat 0 = L[x.toNat] :=by rw [List.getD_eq_getElem?_getD,List.getElem?_eq_getElem hx]; rfl
   rcases List.mem_or_eq_of_mem_set hv with hv | rfl
   · have :=h v hv; omega
   · rw [e]; have :=h _ (List.getElem_mem hx); omega
 · rw [List.set_eq_of_length_le (by omega)] at hv
   have :=h v hv; omega
theorem pR : ∀ (O : List Int) {L : List Int} {B : Int},(∀ v ∈ L,0 ≤ v ∧ v ≤ B) → ∀ v ∈ bumps L O,0 ≤ v ∧ v ≤ B + O.length
 | [],L,B,h,v,hv => by have :=h v hv; simp; omega
 | x :: O,L,B,h,v,hv => by
   have :=pR O (HV (x :=x) h) v hv
   simp only [List.length_cons]; omega
end Go.Proofs.YtknbcehhjffndaaGreat

namespace Go.Proofs.YtknbcehhjffndaaGreat
theorem C6 {a b : List Int} (h : a.Perm b) : sumL a = sumL b :=by
 induction h with
 | nil => rfl
 | cons x _ ih => simp [ih]
 | swap x y l => simp; omega
 | trans _ _ ih1 ih2 => rw [ih1,ih2]
def kR (R : List Int) (x : Int) : Int :=R.getD x.toNat 0
theorem HW (R : List Int) : (idxI R.length).map (kR R) = R :=by
 refine List.ext_getElem (by simp [idxI]) fun i h1 h2 => ?_
 simp only [List.getElem_map,idxI,List.getElem_range,kR,Int.toNat_natCast]
 rw [List.getD_eq_getElem?_getD,List.getElem?_eq_getElem h2]; rfl
theorem x4 : ∀ {l : List Int},(∀ x ∈ l,x = 0) → sumL l = 0
 | [],_ => rfl
 | x :: l,h => by rw [bW,h x (by simp),x4 (l :=l) fun y hy => h y (by simp [hy])]; rfl
theorem EZ {B : Int} (hB : 0 ≤ B) : ∀ {l : List Int},(∀ x ∈ l,x ≤ B) → sumL l ≤ l.length * B
 | [],_ => by simp
 | x :: l,h => by
   have h1 :=h x (by simp)
   have ih :=EZ hB (l :=l) fun y hy => h y (by simp [hy])
   rw [bW,List.length_cons,show ((l.length + 1 : Nat) : Int) * B = l.length * B + B by rw [Int.natCast_add,Int.add_mul]; simp]; omega
theorem x5 {B : Int} (hB : 0 ≤ B) : ∀ {l : List Int},(∀ x ∈ l,x ≤ B) → (∃ x ∈ l,x ≤ 0) → sumL l + B ≤ l.length * B
 | [],_,h => by obtain ⟨x,hx,_⟩ :=h; cases hx
 | x :: l,h,h2 => by
   have h1 :=h x (by simp)
   have e : ((l.length + 1 : Nat) : Int) * B = l.length * B + B :=by rw [Int.natCast_add,Int.add_mul]; simp
   rw [bW,List.length_cons,e]
   obtain ⟨y,hy,hy0⟩ :=h2
   rcases List.mem_cons.1 hy with rfl | hy
   · have :=EZ hB (l :=l) fun z hz => h z (by simp [hz]); omega
   · have :=x5 hB (l :=l) (fun z hz => h z (by simp [hz])) ⟨y,hy,hy0⟩; omega
theorem ER {R : List Int} {s : Int} {m : Nat} (hs : 0 < s) (hR : ∀ r ∈ R,0 ≤ r ∧ r < s) (hsum : sumL R = s * m) {x : Int} (hx : x ∈ (srt (kR R) (idxI R.length)).take m) : 0 < kR R x :=by
 obtain ⟨O,hO⟩ : ∃ O,srt (kR R) (idxI R.length) = O :=⟨_,rfl⟩
 rw [hO] at hx
 have hp : O.Perm (idxI R.length) :=by rw [← hO]; exact dN _ _
 have hso : O.Pairwise (bef (kR R)) :=by rw [← hO]; exact kI (dZ _)
 have hkb : ∀ y ∈ O,0 ≤ kR R y ∧ kR R y < s :=fun y hy => by
  have :=fF.1 (hp.mem_iff.1 hy)
  have hl : y.toNat < R.length :=by omega
  have e : kR R y = R[y.toNat] :=by unfold kR; rw [List.getD_eq_getElem?_getD,List.getElem?_eq_getElem hl]; rfl
  rw [e]; exact hR _ (List.getElem_mem hl)
 have e1 : sumL (O.map (kR R)) = s * m :=by rw [← hsum,C6 (hp.map _),HW]
 rcases Int.lt_or_le 0 (kR R x) with h | h
 · exact h
 · exfalso
   have hxo : x ∈ O :=List.mem_of_mem_take hx
   have e2 : O.map (kR R) = (O.take m).map (kR R) ++ (O.drop m).map (kR R) :=by rw [← List.map_append,List.take_append_drop]
   have hz : sumL ((O.drop m).map (kR R)) = 0 :=by
    refine x4 fun v hv => ?_
    obtain ⟨y,hy,rfl⟩ :=List.mem_map.1 hv
    have hso' :=hso
    rw [← List.take_append_drop m O,List.pairwise_append] at hso'
    have :=hso'.2.2 x hx y hy
    have h2 :=hkb y (List.mem_of_mem_drop hy)
    unfold bef at this; omega
   have hl :=x5 (B :=s - 1) (by omega) (l :=(O.take m).map (kR R)) (fun v hv => by
    obtain ⟨y,hy,rfl⟩ :=List.mem_map.1 hv
    have :=hkb y (List.mem_of_mem_take hy); omega) ⟨kR R x,List.mem_map.2 ⟨x,hx,rfl⟩,h⟩
   rw [e2,gJ,hz] at e1
   have hlen : ((O.take m).map (kR R)).length ≤ m :=by simp; omega
   have h3 : (((O.take m).map (kR R)).length : Int) * (s - 1) ≤ m * (s - 1) :=Int.mul_le_mul_of_nonneg_right (by omega) (by omega)
   have h4 : (m : Int) * (s - 1) = s * m - m :=by rw [Int.mul_sub,Int.mul_comm]; omega
   have hx0 : 0 < m :=by
    rcases Nat.eq_zero_or_pos m with rfl | h
    · simp at hx
    · exact h
   omega
theorem wM : ∀ (O L : List Int) (i : Nat) (h : i < L.length) (h' : i < (bumps L O).length),O.Nodup → (∀ x ∈ O,0 ≤ x) → (bumps L O)[i] = L[i] + (if (i : Int) ∈ O then 1 else 0)
 | [],L,i,h,h',_,_ => by simp [bumps]
 | x :: O,L,i,h,h',hn,h0 => by
   rw [List.nodup_cons] at hn
   have hx :=h0 x (by simp)
   have e : (bumps L (x :: O))[i] = (bumps (bump L x) O)[i]'(by rw [eX,j1]; exact h) :=rfl
   rw [e,wM O (bump L x) i (by rw [j1]; exact h) (by rw [eX,j1]; exact h) hn.2 fun y hy => h0 y (by simp [hy])]
   simp only [bump,List.getElem_set]
   by_cases hxi : x.toNat = i
   · have hxe : x = (i : Int) :=by omega
     rw [if_pos hxi,hxi,List.getD_eq_getElem?_getD,List.getElem?_eq_getElem h,if_neg (by rw [← hxe]; exact hn.1),if_pos (by rw [hxe]; simp)]
     simp
   · rw [if_neg hxi]
     have : (i : Int) ∈ x :: O ↔ (i : Int) ∈ O :=by
      rw [List.mem_cons]; constructor
      · rintro (h | h)
        · omega
        · exact h
      · exact .inr
     simp only [this]
theorem rW : ∀ (O L : List Int),(∀ x ∈ O,0 ≤ x ∧ x < L.length) → sumL (bumps L O) = sumL L + O.length
 | [],L,_ => by simp [bumps]
 | x :: O,L,h => by
   have hx :=h x (by simp)
   have e : bumps L (x :: O) = bumps (bump L x) O :=rfl
   have hs : sumL (bump L x) = sumL L + 1 :=by
    have hl : x.toNat < L.length :=by omega
    unfold bump
    rw [List.getD_eq_getElem?_getD,List.getElem?_eq_getElem hl,List.set_eq_take_append_cons_drop,if_pos hl]
    conv => rhs; rw [← List.take_append_drop x.toNat L]
    rw [gJ,gJ,List.drop_eq_getElem_cons hl,bW,bW]
    simp; omega
   rw [e,rW O (bump L x) fun y hy => by rw [j1]; exact h y (by simp [hy]),hs]; simp; omega
end Go.Proofs.YtknbcehhjffndaaGreat

namespace Go.Proofs.YtknbcehhjffndaaGreat
open Go.RowKit Go.Ab
attribute [local irreducible] AWP Go.Ab.Sub Means MeansH CallK CallG CallT CallGT CallU
theorem HX (s : Int) (L : List Int) (hl : L.length ≤ 60) : Means false Tryz.prog 108 [big2 s L] (.tup [big2 s L,ii 0]) :=by
 refine aB false 10 [.cell 2 60,.tmp 3] Tryz.func108 rfl rfl rfl (by simp) (by decide) rfl fun X hX => ?_
 (repeat (refine a6 [0,1,2,3,7] hX a7 rfl ?_; (simp [go_sem])))
 refine a8 (b :=false) (by simp [go_sem]; try omega) (fun h => by cases h) (fun _ => ?_)
 (repeat (refine a6 [0,1,2,3,7] hX a7 rfl ?_; (simp [go_sem])))
theorem HY (s : Int) (L : List Int) (hl : ¬ L.length ≤ 60) (hl2 : L.length ≤ 100000) : Means false Tryz.prog 108 [big2 s L] (.tup [big2 0 [],ii 6]) :=by
 refine aB false 10 [.cell 2 60,.tmp 3] Tryz.func108 rfl rfl rfl (by simp) (by decide) rfl fun X hX => ?_
 (repeat (refine a6 [0,1,2,3,7] hX a7 rfl ?_; (simp [go_sem])))
 refine a8 (b :=true) (by simp [go_sem]; try omega) (fun _ => ?_) (fun h => by cases h)
 (repeat (refine a6 [0,1,2,3,7] hX a7 rfl ?_; (simp [go_sem])))
set_option maxHeartbeats 4000000 in
set_option maxRecDepth 20000 in
theorem j2 (s : Int) (L : List Int) (hl : L.length ≤ 9223372036854775807) : Means false Tryz.prog 80 [big2 s L] (bb (decide (isR s L))) :=by
 refine aB false 60 [.tmp 2] Tryz.func80 rfl rfl rfl (by simp) (by decide) rfl fun X hX => ?_
 (repeat (refine a6 q8x4 hX a7 rfl ?_; (simp [go_sem])))
 refine aF (fun n : Nat => ⟨mkE [(1,.el 0 2 0 0),(3,ii n)],[.row ⟨60,2,[big2 s L]⟩]⟩) (fun n => n ≤ L.length ∧ okD (L.take n)) (fun n => L.length - n) 0 ?_ ?_ ?_
 · refine aA _ [.old 0 ⟨60,2,[big2 s L]⟩] (by simp [go_sem]) ?_
   simp [go_sem]
 · exact ⟨Nat.zero_le _,by simp [okD]⟩
 · rintro n ⟨hn,hok⟩
   (repeat (refine a6 q8x4 hX a7 rfl ?_; (simp [go_sem])))
   refine a8 (b :=decide (n < L.length)) (by simp [go_sem]) (fun hd => ?_) (fun hd => ?_)
   · simp at hd
     (repeat (refine a6 q8x4 hX a7 rfl ?_; (simp [go_sem,hd])))
     refine a8 (b :=decide (L[n] < 0) || decide (1048576 ≤ L[n])) (by simp [go_sem,hd]; try omega) (fun hf => ?_) (fun hf => ?_)
     · have hf : L[n] < 0 ∨ 1048576 ≤ L[n] :=by simpa using hf
       have hno : ¬ isR s L :=fun h => by have :=b5 h.1 hd; omega
       (repeat (refine a6 q8x4 hX a7 rfl ?_; (simp [go_sem,hno])))
     · have hf : ¬ (L[n] < 0 ∨ 1048576 ≤ L[n]) :=by simpa using hf
       (repeat (refine a6 q8x4 hX a7 rfl ?_; (simp [go_sem]; (try simp (disch :=omega) only [w64,td,tm]))))
       refine ⟨n + 1,⟨by omega,?_⟩,by omega,?_⟩
       · rw [List.take_succ_eq_append_getElem hd]
         exact eB.2 ⟨hok,by simp [okD]; omega⟩
       · refine aA _ [.old 0 ⟨60,2,[big2 s L]⟩] (by simp [go_sem]) ?_
         simp [go_sem]
   · have hnl : n = L.length :=by simp at hd; omega
     subst hnl
     rw [List.take_length] at hok
     by_cases h0 : L.length = 0
     · have hL : L = [] :=List.length_eq_zero_iff.1 h0
       subst hL
       by_cases hs : s = 0
       · subst hs
         have e : isR 0 ([] : List Int) :=⟨cJ,fun _ => rfl,fun h => absurd h (by simp)⟩
         (repeat (refine a6 q8x4 hX a7 rfl ?_; (simp [go_sem,e])))
         refine a8 (b :=false) (by simp [go_sem]) (fun h => by cases h) (fun _ => ?_)
         (repeat (refine a6 q8x4 hX a7 rfl ?_; (simp [go_sem,e])))
       · have e : ¬ isR s [] :=fun h => hs (h.2.1 rfl)
         (repeat (refine a6 q8x4 hX a7 rfl ?_; (simp [go_sem,e])))
         refine a8 (b :=true) (by simp [go_sem,hs]) (fun _ => ?_) (fun h => by cases h)
         (repeat (refine a6 q8x4 hX a7 rfl ?_; (simp [go_sem,e])))
     · have hp : 0 < L.length :=by omega
       by_cases h1 : (s = 1 ∨ s = -1) ∧ L.length ≤ 60
       · have hi : L.length - 1 < L.length :=by omega
         have hw :=w64 (x :=(L.length : Int) - 1) (by omega) (by omega)
         have ht : ((L.length : Int) - 1).toNat = L.length - 1 :=by omega
         have e : isR s L ↔ L[L.length - 1] ≠ 0 :=⟨fun h => (h.2.2 hp).2.2,fun h => ⟨hok,fun q => absurd q h0,fun _ => ⟨h1.1,h1.2,h⟩⟩⟩
         (repeat (refine a6 q8x4 hX a7 rfl ?_; (simp [go_sem,h0])))
         refine a8 (b :=false) (by simp [go_sem,h0]; omega) (fun h => by cases h) (fun _ => ?_)
         (repeat (refine a6 q8x4 hX a7 rfl ?_; (simp [go_sem,h0,hw,ht,hi,e])))
         try (repeat refine And.intro (by first | omega | (unfold maxLen; omega) | kernel_rfl | (refine ⟨by first | omega | (unfold maxLen; omega),by first | omega | (unfold maxLen; omega)⟩) | grind) ?_)
         try (repeat (refine a6 q8x4 hX a7 rfl ?_; (simp [go_sem,h0,hw,ht,hi,e])))
       · have e : ¬ isR s L :=fun h => h1 ⟨(h.2.2 hp).1,(h.2.2 hp).2.1⟩
         (repeat (refine a6 q8x4 hX a7 rfl ?_; (simp [go_sem,h0])))
         refine a8 (b :=true) (by simp [go_sem,h0]; omega) (fun _ => ?_) (fun h => by cases h)
         (repeat (refine a6 q8x4 hX a7 rfl ?_; (simp [go_sem,e])))
theorem aK (z : Int) (h : rz z) : Means false Tryz.prog 80 [bigZ z] (bb true) :=by
 have :=j2 (sg z) (dg (ab z)) (by have :=bP h; omega)
 have e : decide (isR (sg z) (dg (ab z))) = true :=decide_eq_true (lW h)
 rwa [e] at this
set_option maxHeartbeats 4000000 in
set_option maxRecDepth 20000 in
theorem MK (n : Int) (hn : 0 ≤ n ∧ n ≤ 9223372036854775807) : Means false Tryz.prog 83 [ii n] (bigZ n) :=by
 have hab :=aT n
 have hae : ab n = n :=by unfold ab; rw [if_neg (by omega)]
 have hlo : (dg (ab n)).length ≤ 4 :=by
  rw [aP]
  have : (1048576 : Int) ^ 4 = 1208925819614629174706176 :=by decide
  omega
 by_cases h0 : n = 0
 · subst h0
   refine aB false 28 [.cell 2 60] Tryz.func83 rfl rfl rfl (by simp) (by decide) rfl fun X hX => ?_
   (repeat (refine a6 q8x0 hX a7 rfl ?_; (simp [go_sem]; try (refine ⟨by kernel_rfl, ?_⟩))))
   refine a8 (b :=true) (by simp [go_sem]) (fun _ => ?_) (fun h => by cases h)
   (repeat (refine a6 q8x0 hX a7 rfl ?_; (simp [go_sem]; try (refine ⟨by kernel_rfl, ?_⟩))))
   all_goals rfl
 · have hsg : sg n = 1 :=by rcases aD n with h | h | h <;> omega
   refine aB false 28 [.cell 2 60] Tryz.func83 rfl rfl rfl (by simp) (by decide) rfl fun X hX => ?_
   (repeat (refine a6 q8x0 hX a7 rfl ?_; (simp [go_sem]; try (refine ⟨by kernel_rfl, ?_⟩))))
   refine a8 (b :=false) (by simp [go_sem,h0]) (fun h => by cases h) (fun _ => ?_)
   (repeat (refine a6 q8x0 hX a7 rfl ?_; (simp [go_sem]; try (refine ⟨by kernel_rfl, ?_⟩))))
   refine a8 (b :=false) (by simp [go_sem]; omega) (fun h => by cases h) (fun _ => ?_)
   (repeat (refine a6 q8x0 hX a7 rfl ?_; (simp [go_sem]; try (refine ⟨by kernel_rfl, ?_⟩))))
   refine aF (fun x : Int × List Int => ⟨mkE [(0,ii x.1),(2,.el 0 2 0 0),(3,ii 1),(4,.ow 1)],[.row ⟨60,2,[.agg [ii 0,.nil]]⟩,rowI x.2]⟩)
    (fun x => 0 ≤ x.1 ∧ x.1 ≤ 9223372036854775807 ∧ x.2 ++ dg x.1 = dg (ab n)) (fun x => x.1.toNat) (n,[]) ?_ ?_ ?_
   · refine aA _ [.old 0 ⟨60,2,[.agg [ii 0,.nil]]⟩,.birth 3 1] (by simp [go_sem]) ?_
     simp [go_sem]
   · exact ⟨hn.1,hn.2,by simp [hae]⟩
   · rintro ⟨u,L⟩ ⟨hu,hu2,hE⟩
     simp only [] at hu hu2 hE
     (repeat (refine a6 q8x0 hX a7 rfl ?_; (simp [go_sem]; try (refine ⟨by kernel_rfl, ?_⟩))))
     refine a8 (b :=decide (u ≠ 0)) (by simp [go_sem]) (fun hd => ?_) (fun hd => ?_)
     · simp only [decide_eq_true_eq] at hd
       have hm : u.tmod 1048576 = u % 1048576 :=Int.tmod_eq_emod_of_nonneg hu
       have hq : u.tdiv 1048576 = u / 1048576 :=Int.tdiv_eq_ediv_of_nonneg hu
       have hLl : L.length ≤ 4 :=by have :=congrArg List.length hE; simp at this; omega
       obtain ⟨r,hr⟩ : ∃ r,u % 1048576 = r :=⟨_,rfl⟩
       obtain ⟨q,hqe⟩ : ∃ q,u / 1048576 = q :=⟨_,rfl⟩
       have hdg :=fC (n :=u) (by omega)
       rw [hr,hqe] at hdg
       rw [hr] at hm
       rw [hqe] at hq
       have w1 :=w64 (x :=r) (by omega) (by omega)
       have w2 :=w64 (x :=q) (by omega) (by omega)
       (repeat (refine a6 q8x0 hX a7 rfl ?_; (simp [go_sem,hm,w1]; try (refine ⟨by kernel_rfl, ?_⟩))))
       refine a8 (b :=false) (by simp [go_sem]; omega) (fun h => by cases h) (fun _ => ?_)
       (repeat (refine a6 q8x0 hX a7 rfl ?_; (simp [go_sem,hq,w2]; try (refine ⟨by kernel_rfl, ?_⟩))))
       try (repeat refine And.intro (by first | omega | (unfold maxLen; omega) | kernel_rfl | (refine ⟨by first | omega | (unfold maxLen; omega),by first | omega | (unfold maxLen; omega)⟩) | grind) ?_)
       try (repeat (refine a6 q8x0 hX a7 rfl ?_; (simp [go_sem,hq,w2]; try (refine ⟨by kernel_rfl, ?_⟩))))
       refine ⟨q,L ++ [r],⟨by omega,by omega,by rw [← hE,hdg]; simp⟩,by omega,?_⟩
       refine aA _ [.old 0 ⟨60,2,[.agg [ii 0,.nil]]⟩,.old 3 ⟨3,1,(L ++ [r]).map ii⟩] (by simp [go_sem]) ?_
       simp [go_sem]
     · simp only [decide_eq_false_iff_not,Classical.not_not] at hd
       subst hd
       rw [jO,List.append_nil] at hE
       have hmd :=nU 1 L (by rw [hE]; omega) (by rw [hE]; exact aI _)
       have e1 : (if val L = 0 then 0 else 1) = sg n :=by rw [hE,aL,if_neg (by omega),hsg]
       rw [e1,hE,aL] at hmd
       rw [← hE] at hmd
       (repeat (refine a6 q8x0 hX a7 rfl ?_; (simp [go_sem]; try (refine ⟨by kernel_rfl, ?_⟩))))
       refine dO (hmd) rfl rfl ?_
       try (simp [go_sem]; try (refine ⟨by kernel_rfl, ?_⟩))
       (repeat (refine a6 q8x0 hX a7 rfl ?_; (simp [go_sem]; try (refine ⟨by kernel_rfl, ?_⟩))))
       try simp [hE]
set_option maxHeartbeats 4000000 in
set_option maxRecDepth 20000 in
theorem ML (n : Int) (hn : -9223372036854775808 ≤ n ∧ n < 0) : Means false Tryz.prog 83 [ii n] (bigZ n) :=by
 have hab :=aT n
 have hae : ab n = -n :=by unfold ab; rw [if_pos (by omega)]
 have hlo : (dg (ab n)).length ≤ 4 :=by
  rw [aP]
  have : (1048576 : Int) ^ 4 = 1208925819614629174706176 :=by decide
  omega
 have h0 : n ≠ 0 :=by omega
 have hsg : sg n = -1 :=by rcases aD n with h | h | h <;> omega
 refine aB false 28 [.cell 2 60] Tryz.func83 rfl rfl rfl (by simp) (by decide) rfl fun X hX => ?_
 (repeat (refine a6 q8x0 hX a7 rfl ?_; (simp [go_sem])))
 refine a8 (b :=false) (by simp [go_sem,h0]) (fun h => by cases h) (fun _ => ?_)
 (repeat (refine a6 q8x0 hX a7 rfl ?_; (simp [go_sem])))
 refine a8 (b :=true) (by simp [go_sem]; omega) (fun _ => ?_) (fun h => by cases h)
 (repeat (refine a6 q8x0 hX a7 rfl ?_; (simp [go_sem])))
 refine aF (fun x : Int × List Int => ⟨mkE [(0,ii (-x.1)),(2,.el 0 2 0 0),(3,ii (-1)),(4,.ow 1)],[.row ⟨60,2,[.agg [ii 0,.nil]]⟩,rowI x.2]⟩)
  (fun x => 0 ≤ x.1 ∧ x.1 ≤ 9223372036854775808 ∧ x.2 ++ dg x.1 = dg (ab n)) (fun x => x.1.toNat) (-n,[]) ?_ ?_ ?_
 · refine aA _ [.old 0 ⟨60,2,[.agg [ii 0,.nil]]⟩,.birth 3 1] (by simp [go_sem]) ?_
   simp [go_sem]
 · exact ⟨by show 0 ≤ -n; omega,by show -n ≤ _; omega,by simp [hae]⟩
 · rintro ⟨u,L⟩ ⟨hu,hu2,hE⟩
   simp only [] at hu hu2 hE
   (repeat (refine a6 q8x0 hX a7 rfl ?_; (simp [go_sem])))
   refine a8 (b :=decide (u ≠ 0)) (by simp [go_sem]; try omega) (fun hd => ?_) (fun hd => ?_)
   · simp only [decide_eq_true_eq] at hd
     have hm : u.tmod 1048576 = u % 1048576 :=Int.tmod_eq_emod_of_nonneg hu
     have hq : u.tdiv 1048576 = u / 1048576 :=Int.tdiv_eq_ediv_of_nonneg hu
     have hLl : L.length ≤ 4 :=by have :=congrArg List.length hE; simp at this; omega
     obtain ⟨r,hr⟩ : ∃ r,u % 1048576 = r :=⟨_,rfl⟩
     obtain ⟨q,hqe⟩ : ∃ q,u / 1048576 = q :=⟨_,rfl⟩
     have hdg :=fC (n :=u) (by omega)
     rw [hr,hqe] at hdg
     rw [hr] at hm
     rw [hqe] at hq
     have hm2 : (-u).tmod 1048576 = -r :=by rw [Int.neg_tmod,hm]
     have hq2 : (-u).tdiv 1048576 = -q :=by rw [Int.neg_tdiv,hq]
     have w1 :=w64 (x :=r) (by omega) (by omega)
     have w1n :=w64 (x :=-r) (by omega) (by omega)
     have w2 :=w64 (x :=-q) (by omega) (by omega)
     (repeat (refine a6 q8x0 hX a7 rfl ?_; (simp [go_sem,hm2,hm,w1n,w1])))
     refine a8 (b :=decide (0 < r)) (by simp [go_sem]; try omega) (fun hs => ?_) (fun hs => ?_)
     · (repeat (refine a6 q8x0 hX a7 rfl ?_; (simp [go_sem,hq2,hq,w2,w1])))
       try (repeat refine And.intro (by first | omega | (unfold maxLen; omega) | kernel_rfl | (refine ⟨by first | omega | (unfold maxLen; omega),by first | omega | (unfold maxLen; omega)⟩) | grind) ?_)
       try (repeat (refine a6 q8x0 hX a7 rfl ?_; (simp [go_sem,hq2,hq,w2,w1])))
       refine ⟨q,L ++ [r],⟨by omega,by omega,by rw [← hE,hdg]; simp⟩,by omega,?_⟩
       refine aA _ [.old 0 ⟨60,2,[.agg [ii 0,.nil]]⟩,.old 3 ⟨3,1,(L ++ [r]).map ii⟩] (by simp [go_sem]) ?_
       simp [go_sem]
     · have hr0 : r = 0 :=by simp at hs; omega
       subst hr0
       (repeat (refine a6 q8x0 hX a7 rfl ?_; (simp [go_sem,hq2,hq,w2])))
       try (repeat refine And.intro (by first | omega | (unfold maxLen; omega) | kernel_rfl | (refine ⟨by first | omega | (unfold maxLen; omega),by first | omega | (unfold maxLen; omega)⟩) | grind) ?_)
       try (repeat (refine a6 q8x0 hX a7 rfl ?_; (simp [go_sem,hq2,hq,w2])))
       refine ⟨q,L ++ [(0 : Int)],⟨by omega,by omega,by rw [← hE,hdg]; simp⟩,by omega,?_⟩
       refine aA _ [.old 0 ⟨60,2,[.agg [ii 0,.nil]]⟩,.old 3 ⟨3,1,(L ++ [(0 : Int)]).map ii⟩] (by simp [go_sem]) ?_
       simp [go_sem]
   · simp only [decide_eq_false_iff_not,Classical.not_not] at hd
     subst hd
     rw [jO,List.append_nil] at hE
     have hmd :=nU (-1) L (by rw [hE]; omega) (by rw [hE]; exact aI _)
     have e1 : (if val L = 0 then 0 else -1) = sg n :=by rw [hE,aL,if_neg (by omega),hsg]
     rw [e1,hE,aL] at hmd
     rw [← hE] at hmd
     (repeat (refine a6 q8x0 hX a7 rfl ?_; (simp [go_sem])))
     refine dO (hmd) rfl rfl ?_
     try (simp [go_sem])
     (repeat (refine a6 q8x0 hX a7 rfl ?_; (simp [go_sem])))
     try simp [hE]
theorem mT (n : Int) (hn : -9223372036854775808 ≤ n ∧ n ≤ 9223372036854775807) : Means false Tryz.prog 83 [ii n] (bigZ n) :=by
 rcases Int.lt_or_le n 0 with h | h
 · exact ML n ⟨hn.1,h⟩
 · exact MK n ⟨h,hn.2⟩
theorem HZ (s1 s2 : Int) (a b : List Int) (hla : a.length ≤ 140737488355328) (hlb : b.length ≤ 140737488355328) : Means false Tryz.prog 113 [big2 s1 a,big2 s2 b] (bb (decide (s1 = s2 ∧ a = b))) :=by
 refine aB false 38 [.tmp 4] Tryz.func113 rfl rfl rfl (by simp) (by decide) rfl fun X hX => ?_
 (repeat (refine a6 q8x5 hX a7 rfl ?_; (simp [go_sem]; try (refine ⟨by kernel_rfl,?_⟩))))
 by_cases h : s1 = s2
 · subst h
   by_cases hl : a.length = b.length
   · (repeat (refine a6 q8x5 hX a7 rfl ?_; (simp [go_sem,hl]; try (refine ⟨by kernel_rfl,?_⟩))))
     refine a8 (b :=false) (by simp [go_sem,hl]) (fun hb => by cases hb) (fun _ => ?_)
     (repeat (refine a6 q8x5 hX a7 rfl ?_; (simp [go_sem]; try (refine ⟨by kernel_rfl,?_⟩))))
     refine aF (fun n : Nat => ⟨mkE [(2,.el 0 2 0 0),(3,.el 1 2 0 0),(5,ii n)],[.row ⟨60,2,[big2 s1 a]⟩,.row ⟨60,2,[big2 s1 b]⟩]⟩) (fun n => n ≤ a.length ∧ a.take n = b.take n) (fun n => a.length - n) 0 ?_ ?_ ?_
     · refine aA _ [.old 0 ⟨60,2,[big2 s1 a]⟩,.old 1 ⟨60,2,[big2 s1 b]⟩] (by simp [go_sem]) ?_
       simp [go_sem]
     · exact ⟨Nat.zero_le _,by simp⟩
     · rintro n ⟨hn,he⟩
       (repeat (refine a6 q8x5 hX a7 rfl ?_; (simp [go_sem]; try (refine ⟨by kernel_rfl,?_⟩))))
       refine a8 (b :=decide (n < a.length)) (by simp [go_sem]) (fun hd2 => ?_) (fun hd2 => ?_)
       · simp at hd2
         have h2 : n < b.length :=by omega
         (repeat (refine a6 q8x5 hX a7 rfl ?_; (simp [go_sem,hd2,h2]; (try simp (disch :=omega) only [w64,td,tm]); try (refine ⟨by kernel_rfl,?_⟩))))
         (repeat refine And.intro (by first | omega | (unfold maxLen; omega) | kernel_rfl | (refine ⟨by first | omega | (unfold maxLen; omega),by first | omega | (unfold maxLen; omega)⟩) | grind) ?_)
         try (simp [go_sem,hd2,h2]; try (refine ⟨by kernel_rfl,?_⟩))
         refine a8 (b :=decide (a[n] ≠ b[n])) (by simp [go_sem,hd2,h2]; try omega) (fun hc => ?_) (fun hc => ?_)
         · simp only [decide_eq_true_eq] at hc
           have hne : ¬ a = b :=fun e => hc (by simp only [e])
           (repeat (refine a6 q8x5 hX a7 rfl ?_; (simp [go_sem,hne]; try (refine ⟨by kernel_rfl,?_⟩))))
         · simp at hc
           (repeat (refine a6 q8x5 hX a7 rfl ?_; (simp [go_sem]; (try simp (disch :=omega) only [w64,td,tm]); try (refine ⟨by kernel_rfl,?_⟩))))
           refine ⟨n + 1,⟨by omega,?_⟩,by omega,?_⟩
           · rw [List.take_succ_eq_append_getElem hd2,List.take_succ_eq_append_getElem h2,he,hc]
           · refine aA _ [.old 0 ⟨60,2,[big2 s1 a]⟩,.old 1 ⟨60,2,[big2 s1 b]⟩] (by simp [go_sem]) ?_
             simp [go_sem]
       · have hnl : n = a.length :=by simp at hd2; omega
         subst hnl
         have hab : a = b :=by rwa [List.take_length,hl,List.take_length] at he
         (repeat (refine a6 q8x5 hX a7 rfl ?_; (simp [go_sem,hab]; try (refine ⟨by kernel_rfl,?_⟩))))
   · have hne : ¬ a = b :=fun e => hl (by rw [e])
     (repeat (refine a6 q8x5 hX a7 rfl ?_; (simp [go_sem,hl]; try (refine ⟨by kernel_rfl,?_⟩))))
     refine a8 (b :=true) (by simp [go_sem,hl]; try omega) (fun _ => ?_) (fun hb => by cases hb)
     (repeat (refine a6 q8x5 hX a7 rfl ?_; (simp [go_sem,hne]; try (refine ⟨by kernel_rfl,?_⟩))))
 · (repeat (refine a6 q8x5 hX a7 rfl ?_; (simp [go_sem,h]; try (refine ⟨by kernel_rfl,?_⟩))))
   refine a8 (b :=true) (by simp [go_sem,h]) (fun _ => ?_) (fun hb => by cases hb)
   (repeat (refine a6 q8x5 hX a7 rfl ?_; (simp [go_sem,h]; try (refine ⟨by kernel_rfl,?_⟩))))
theorem x6 (z w : Int) (hz : rz z) (hw : rz w) : Means false Tryz.prog 113 [bigZ z,bigZ w] (bb (decide (z = w))) :=by
 have :=HZ (sg z) (sg w) (dg (ab z)) (dg (ab w)) (by have :=bP hz; omega) (by have :=bP hw; omega)
 simpa only [vT] using this
set_option maxHeartbeats 4000000 in
set_option maxRecDepth 20000 in
theorem fH (z w : Int) (hz : rz z) (hw : rz w) : Means false Tryz.prog 82 [bigZ z,bigZ w] (ii (cmpI z w)) :=by
 have hlz :=bP hz
 have hlw :=bP hw
 have hls :=uC (dg (ab z)) (dg (ab w)) (by omega) (by omega) (aI _) (aI _)
 rw [aL,aL] at hls
 by_cases he : z = w
 · subst he
   have e : cmpI z z = 0 :=(jL z z).2 rfl
   have hsm :=x6 z z hz hz
   rw [decide_eq_true rfl] at hsm
   rw [e]
   refine aB false 37 [.tmp 4] Tryz.func82 rfl rfl rfl (by simp) (by decide) rfl fun X hX => ?_
   (repeat (refine a6 q8x2 hX a7 rfl ?_; (simp [go_sem]; try (refine ⟨by kernel_rfl,?_⟩))))
   first | refine a9 (aK z hz) ?_ | refine aE (aK z hz) ?_
   try (simp [go_sem]; try (refine ⟨by kernel_rfl,?_⟩))
   first | refine aJ (fun hg => aK z hz) ?_ | refine aZ (fun hg => aK z hz) ?_
   try (simp [go_sem]; try (refine ⟨by kernel_rfl,?_⟩))
   first | refine aJ (fun hg => hsm) ?_ | refine aZ (fun hg => hsm) ?_
   try (simp [go_sem]; try (refine ⟨by kernel_rfl,?_⟩))
   refine a8 (b :=true) (by simp [go_sem]) (fun _ => ?_) (fun h => by cases h)
   (repeat (refine a6 q8x2 hX a7 rfl ?_; (simp [go_sem]; try (refine ⟨by kernel_rfl,?_⟩))))
 · have hsm :=x6 z w hz hw
   rw [decide_eq_false he] at hsm
   refine aB false 37 [.tmp 4] Tryz.func82 rfl rfl rfl (by simp) (by decide) rfl fun X hX => ?_
   (repeat (refine a6 q8x2 hX a7 rfl ?_; (simp [go_sem]; try (refine ⟨by kernel_rfl,?_⟩))))
   first | refine a9 (aK z hz) ?_ | refine aE (aK z hz) ?_
   try (simp [go_sem]; try (refine ⟨by kernel_rfl,?_⟩))
   first | refine aJ (fun hg => aK w hw) ?_ | refine aZ (fun hg => aK w hw) ?_
   try (simp [go_sem]; try (refine ⟨by kernel_rfl,?_⟩))
   first | refine aJ (fun hg => hsm) ?_ | refine aZ (fun hg => hsm) ?_
   try (simp [go_sem]; try (refine ⟨by kernel_rfl,?_⟩))
   refine a8 (b :=false) (by simp [go_sem]) (fun h => by cases h) (fun _ => ?_)
   (repeat (refine a6 q8x2 hX a7 rfl ?_; (simp [go_sem]; try (refine ⟨by kernel_rfl,?_⟩))))
   refine a8 (b :=decide (sg z ≠ sg w)) (by simp [go_sem]; try omega) (fun hd => ?_) (fun hd => ?_)
   · simp only [decide_eq_true_eq] at hd
     have e : cmpI z w = if sg z < sg w then -1 else 1 :=by
      have : cmpI (sg z) (sg w) = cmpI z w :=by
       refine tW ?_ ?_ <;> rcases aD z with h | h | h <;> rcases aD w with h2 | h2 | h2 <;> omega
      rw [← this]; unfold cmpI; split
      · rfl
      · rw [if_pos (by omega)]
     rw [e]
     (repeat (refine a6 q8x2 hX a7 rfl ?_; (simp [go_sem]; try (refine ⟨by kernel_rfl,?_⟩))))
     refine a8 (b :=decide (sg z < sg w)) (by simp [go_sem]) (fun hf => ?_) (fun hf => ?_)
     · simp at hf
       rw [if_pos hf]
       (repeat (refine a6 q8x2 hX a7 rfl ?_; (simp [go_sem]; try (refine ⟨by kernel_rfl,?_⟩))))
     · simp at hf
       rw [if_neg (by omega)]
       (repeat (refine a6 q8x2 hX a7 rfl ?_; (simp [go_sem]; try (refine ⟨by kernel_rfl,?_⟩))))
   · simp at hd
     have hs : sg z = 1 ∨ sg z = -1 :=by rcases aD z with h | h | h <;> rcases aD w with h2 | h2 | h2 <;> omega
     have e1 : sg z = 1 → ab z < ab w → cmpI z w = -1 :=fun h1 h2 => by
      unfold cmpI; rcases aD z with h | h | h <;> rcases aD w with h3 | h3 | h3 <;> first | omega | (rw [if_pos (by omega)])
     have e2 : sg z = 1 → ¬ ab z < ab w → cmpI z w = 1 :=fun h1 h2 => by
      unfold cmpI; rcases aD z with h | h | h <;> rcases aD w with h3 | h3 | h3 <;> first | omega | (rw [if_neg (by omega),if_pos (by omega)])
     have e3 : sg z = -1 → ab z < ab w → cmpI z w = 1 :=fun h1 h2 => by
      unfold cmpI; rcases aD z with h | h | h <;> rcases aD w with h3 | h3 | h3 <;> first | omega | (rw [if_neg (by omega),if_pos (by omega)])
     have e4 : sg z = -1 → ¬ ab z < ab w → cmpI z w = -1 :=fun h1 h2 => by
      unfold cmpI; rcases aD z with h | h | h <;> rcases aD w with h3 | h3 | h3 <;> first | omega | (rw [if_pos (by omega)])
     by_cases hlt : ab z < ab w
     · rw [decide_eq_true hlt] at hls
       rcases hs with hs | hs
       · rw [e1 hs hlt]
         (repeat (refine a6 q8x2 hX a7 rfl ?_; (simp [go_sem]; try (refine ⟨by kernel_rfl,?_⟩))))
         first | refine a9 (hls) ?_ | refine aE (hls) ?_
         try (simp [go_sem]; try (refine ⟨by kernel_rfl,?_⟩))
         refine a8 (b :=true) (by simp [go_sem,hs]) (fun _ => ?_) (fun h => by cases h)
         (repeat (refine a6 q8x2 hX a7 rfl ?_; (simp [go_sem]; try (refine ⟨by kernel_rfl,?_⟩))))
       · rw [e3 hs hlt]
         (repeat (refine a6 q8x2 hX a7 rfl ?_; (simp [go_sem]; try (refine ⟨by kernel_rfl,?_⟩))))
         first | refine a9 (hls) ?_ | refine aE (hls) ?_
         try (simp [go_sem]; try (refine ⟨by kernel_rfl,?_⟩))
         refine a8 (b :=false) (by simp [go_sem,hs]) (fun h => by cases h) (fun _ => ?_)
         (repeat (refine a6 q8x2 hX a7 rfl ?_; (simp [go_sem]; try (refine ⟨by kernel_rfl,?_⟩))))
     · rw [decide_eq_false hlt] at hls
       rcases hs with hs | hs
       · rw [e2 hs hlt]
         (repeat (refine a6 q8x2 hX a7 rfl ?_; (simp [go_sem]; try (refine ⟨by kernel_rfl,?_⟩))))
         first | refine a9 (hls) ?_ | refine aE (hls) ?_
         try (simp [go_sem]; try (refine ⟨by kernel_rfl,?_⟩))
         refine a8 (b :=false) (by simp [go_sem,hs]) (fun h => by cases h) (fun _ => ?_)
         (repeat (refine a6 q8x2 hX a7 rfl ?_; (simp [go_sem]; try (refine ⟨by kernel_rfl,?_⟩))))
       · rw [e4 hs hlt]
         (repeat (refine a6 q8x2 hX a7 rfl ?_; (simp [go_sem]; try (refine ⟨by kernel_rfl,?_⟩))))
         first | refine a9 (hls) ?_ | refine aE (hls) ?_
         try (simp [go_sem]; try (refine ⟨by kernel_rfl,?_⟩))
         refine a8 (b :=true) (by simp [go_sem,hs]) (fun _ => ?_) (fun h => by cases h)
         (repeat (refine a6 q8x2 hX a7 rfl ?_; (simp [go_sem]; try (refine ⟨by kernel_rfl,?_⟩))))
theorem C7 {L : List Int} (h : okD L) (k : Nat) : 0 ≤ val (L.drop k) ∧ val (L.drop k) ≤ val L :=by
 have e :=gK k L
 have h1 :=aM (bB h k)
 have h2 :=aM (bM h k)
 have hp :=bR k
 have :=Int.mul_le_mul_of_nonneg_right (show 1 ≤ (1048576 : Int) ^ k by omega) h2
 rw [Int.one_mul] at this
 omega
set_option maxHeartbeats 4000000 in
set_option maxRecDepth 20000 in
theorem KP (z : Int) (hz : rz z) : Means false Tryz.prog 51 [bigZ z] (.tup [ii (if inI z then z else 0),bb (inI z)]) :=by
 have hlz :=bP hz
 have hab :=aT z
 have hva :=aL z
 have hok :=aI (ab z)
 have hc1 :=fH z (-9223372036854775808) hz (l3 (by omega))
 have hc2 :=fH z 9223372036854775807 hz (l3 (by omega))
 have b1 : decide (cmpI z (-9223372036854775808) < 0) = decide (z < -9223372036854775808) :=by rw [decide_eq_decide]; exact lA
 have b2 : decide (0 < cmpI z 9223372036854775807) = decide (9223372036854775807 < z) :=by
  rw [decide_eq_decide]; rw [F2 9223372036854775807 z]
  have :=lA (x :=9223372036854775807) (y :=z); omega
 have n1 :=tI z (-9223372036854775808)
 have n2 :=tI z 9223372036854775807
 have hinI : inI z = (!decide (z < -9223372036854775808) && !decide (9223372036854775807 < z)) :=by
  unfold inI; by_cases q1 : z < -9223372036854775808 <;> by_cases q2 : 9223372036854775807 < z <;> simp [q1,q2] <;> omega
 generalize cmpI z (-9223372036854775808) = c1 at *
 generalize cmpI z 9223372036854775807 = c2 at *
 refine aB false 41 [.tmp 2,.tmp 3] Tryz.func51 rfl rfl rfl (by simp) (by decide) rfl fun X hX => ?_
 (repeat (refine a6 q8x7 hX a7 rfl ?_; (simp [go_sem]; try (refine ⟨by kernel_rfl,?_⟩))))
 first | refine a9 (aK z hz) ?_ | refine aE (aK z hz) ?_
 try (simp [go_sem]; try (refine ⟨by kernel_rfl,?_⟩))
 refine a8 (b :=false) (by simp [go_sem]) (fun h => by cases h) (fun _ => ?_)
 (repeat (refine a6 q8x7 hX a7 rfl ?_; (simp [go_sem]; try (refine ⟨by kernel_rfl,?_⟩))))
 first | refine a9 (mT (-9223372036854775808) (by omega)) ?_ | refine aE (mT (-9223372036854775808) (by omega)) ?_
 try (simp [go_sem]; try (refine ⟨by kernel_rfl,?_⟩))
 first | refine a9 (hc1) ?_ | refine aE (hc1) ?_
 try (simp [go_sem]; try (refine ⟨by kernel_rfl,?_⟩))
 first | refine aJ (fun hg => mT 9223372036854775807 (by omega)) ?_ | refine aZ (fun hg => mT 9223372036854775807 (by omega)) ?_
 try (simp [go_sem]; try (refine ⟨by kernel_rfl,?_⟩))
 first | refine aJ (fun hg => hc2) ?_ | refine aZ (fun hg => hc2) ?_
 try (simp [go_sem]; try (refine ⟨by kernel_rfl,?_⟩))
 by_cases q1 : z < -9223372036854775808
 · have e : inI z = false :=by rw [hinI]; simp [q1]
   rw [e]
   have hcn : c1 < 0 :=by simpa [q1] using b1
   refine a8 (b :=true) (by simp [go_sem,hcn]) (fun _ => ?_) (fun h => by cases h)
   (repeat (refine a6 q8x7 hX a7 rfl ?_; (simp [go_sem]; try (refine ⟨by kernel_rfl,?_⟩))))
 have hcn : ¬ c1 < 0 :=by simpa [q1] using b1
 by_cases q2 : 9223372036854775807 < z
 · have e : inI z = false :=by rw [hinI]; simp [q2]
   rw [e]
   have hcm : 0 < c2 :=by simpa [q2] using b2
   refine a8 (b :=true) (by simp [go_sem,hcn,hcm]) (fun _ => ?_) (fun h => by cases h)
   (repeat (refine a6 q8x7 hX a7 rfl ?_; (simp [go_sem]; try (refine ⟨by kernel_rfl,?_⟩))))
 have hcm : ¬ 0 < c2 :=by simpa [q2] using b2
 refine a8 (b :=false) (by simp [go_sem,hcn,hcm]; try omega) (fun h => by cases h) (fun _ => ?_)
 have e : inI z = true :=by rw [hinI]; simp [q1,q2]
 rw [e,if_pos rfl]
 have hpre :=C7 hok
 rw [hva] at hpre
 have hz0 : sg z * ab z = z :=x7 z
 have hdr :=dP (dg (ab z))
 have hsc : sg z = 1 ∨ sg z = 0 ∨ sg z = -1 :=by rcases aD z with h | h | h <;> omega
 have hw0 :=w64 (x :=((dg (ab z)).length : Int) - 1) (by omega) (by omega)
 have hs1 : ab z ≤ 9223372036854775808 ∧ (sg z = 1 → ab z ≤ 9223372036854775807) :=by rcases aD z with h | h | h <;> omega
 (repeat (refine a6 q8x7 hX a7 rfl ?_; (simp [go_sem,hw0]; try (refine ⟨by kernel_rfl,?_⟩))))
 refine aF (fun k : Nat => ⟨mkE [(1,.el 0 2 0 0),(5,ii (sg z * val ((dg (ab z)).drop k))),(6,ii ((k : Int) - 1))],[.row ⟨60,2,[bigZ z]⟩]⟩) (fun k => k ≤ (dg (ab z)).length) (fun k => k) (dg (ab z)).length ?_ ?_ ?_
 · refine aA _ [.old 0 ⟨60,2,[bigZ z]⟩] (by simp [go_sem]) ?_
   simp [go_sem,val]
 · exact Nat.le_refl _
 · intro k hk
   cases k with
   | zero =>
     simp only [List.drop_zero]
     rw [hva,hz0]
     (repeat (refine a6 q8x7 hX a7 rfl ?_; (simp [go_sem]; try (refine ⟨by kernel_rfl,?_⟩))))
     refine a8 (b :=false) (by simp [go_sem]) (fun h => by cases h) (fun _ => ?_)
     (repeat (refine a6 q8x7 hX a7 rfl ?_; (simp [go_sem]; try (refine ⟨by kernel_rfl,?_⟩))))
   | succ k =>
     have hk1 : k < (dg (ab z)).length :=by omega
     have h1 :=hpre (k + 1)
     have h0 :=hpre k
     have hd0 :=hdr k
     rw [i7 hk1] at hd0
     have hdb :=b5 hok hk1
     have hki : ((k + 1 : Nat) : Int) - 1 = k :=by omega
     rw [hki]
     obtain ⟨d,hd⟩ : ∃ d,(dg (ab z))[k] = d :=⟨_,rfl⟩
     rw [hd] at hd0 hdb
     obtain ⟨D1,hD1⟩ : ∃ D1,val ((dg (ab z)).drop (k + 1)) = D1 :=⟨_,rfl⟩
     obtain ⟨D0,hD0⟩ : ∃ D0,val ((dg (ab z)).drop k) = D0 :=⟨_,rfl⟩
     rw [hD1] at h1 hd0
     rw [hD0] at h0 hd0
     have hw1 :=w64 (x :=sg z * D1 * 1048576) (by rcases hsc with q | q | q <;> rw [q] <;> omega) (by rcases hsc with q | q | q <;> rw [q] <;> omega)
     have hw2 :=w64 (x :=sg z * d) (by rcases hsc with q | q | q <;> rw [q] <;> omega) (by rcases hsc with q | q | q <;> rw [q] <;> omega)
     have hsum : sg z * D1 * 1048576 + sg z * d = sg z * D0 :=by rcases hsc with q | q | q <;> rw [q] <;> omega
     have hw3 :=w64 (x :=sg z * D0) (by rcases hsc with q | q | q <;> rw [q] <;> omega) (by rcases hsc with q | q | q <;> rw [q] <;> omega)
     have hw4 :=w64 (x :=(k : Int) - 1) (by omega) (by omega)
     (repeat (refine a6 q8x7 hX a7 rfl ?_; (simp [go_sem]; try (refine ⟨by kernel_rfl,?_⟩))))
     refine a8 (b :=true) (by simp [go_sem]) (fun _ => ?_) (fun h => by cases h)
     (repeat (refine a6 q8x7 hX a7 rfl ?_; (simp [go_sem,hD1,hk1,hd,hw1,hw2,hsum,hw3,hw4]; try (refine ⟨by kernel_rfl,?_⟩))))
     refine ⟨k,by omega,by omega,?_⟩
     refine aA _ [.old 0 ⟨60,2,[bigZ z]⟩] (by simp [go_sem]) ?_
     simp [go_sem,hD0]
theorem jY {n B : Int} {k : Nat} (h0 : 0 ≤ n) (h : n < B) (hB : B < 1048576 ^ k) : (dg n).length ≤ k :=by
 rw [aP]; omega
theorem C8 {A' B q r d lo : Int} (hB : 0 < B) (h1 : B * q + r = A') (hr : 0 ≤ r ∧ r < B) (h2 : lo * B ≤ d + 1048576 * r) (h3 : d + 1048576 * r < (lo + 1) * B) :
  B * (lo + 1048576 * q) + (d + 1048576 * r - B * lo) = d + 1048576 * A' ∧ 0 ≤ d + 1048576 * r - B * lo ∧ d + 1048576 * r - B * lo < B :=by
 subst h1
 rw [Int.add_mul,Int.one_mul] at h3
 rw [Int.mul_comm lo B] at h2 h3
 refine ⟨?_,by omega,by omega⟩
 rw [Int.mul_add,Int.mul_add,Int.mul_left_comm B 1048576 q]; omega
set_option maxHeartbeats 8000000 in
set_option maxRecDepth 20000 in
theorem AP (a b : List Int) (hla : a.length ≤ 500) (hlb : b.length ≤ 500) (ha : okD a) (hb : okD b) (hB : 0 < val b) : Means false Tryz.prog 112 [il a,il b] (.tup [il (dg (val a / val b)),il (dg (val a % val b))]) :=by
 have hbl :=d8 hb
 have hw0 :=w64 (x :=(a.length : Int) - 1) (by omega) (by omega)
 obtain ⟨B,hBe⟩ : ∃ B,val b = B :=⟨_,rfl⟩
 rw [hBe] at hB hbl ⊢
 refine aB false 60 [.tmp 4,.tmp 5] Tryz.func112 rfl rfl rfl (by simp) (by decide) rfl fun X hX => ?_
 (repeat (refine a6 q8x1 hX a7 rfl ?_; (simp [go_sem])))
 try (repeat refine And.intro (by first | omega | (unfold maxLen; omega) | kernel_rfl | (refine ⟨by first | omega | (unfold maxLen; omega),by first | omega | (unfold maxLen; omega)⟩) | grind) ?_)
 try (repeat (refine a6 q8x1 hX a7 rfl ?_; (simp [go_sem,hw0])))
 refine aF (fun x : Nat × List Int × Int => ⟨mkE [(0,il a),(1,il b),(6,.ow 0),(7,il (dg x.2.2)),(8,ii ((x.1 : Int) - 1))],[rowI (List.replicate x.1 (0 : Int) ++ x.2.1)]⟩)
  (fun x => x.1 ≤ a.length ∧ okD x.2.1 ∧ x.1 + x.2.1.length = a.length ∧ 0 ≤ x.2.2 ∧ x.2.2 < B ∧ B * val x.2.1 + x.2.2 = val (a.drop x.1)) (fun x => x.1) (a.length,[],0) ?_ ?_ ?_
 · refine aA _ [.old 0 ⟨3,1,(List.replicate a.length (0 : Int) ++ []).map ii⟩] ?_ ?_
   · simp [go_sem,List.map_replicate]
   · simp [go_sem,jO]
 · refine ⟨Nat.le_refl _,cJ,by simp,Int.le_refl _,hB,?_⟩
   simp [val]
 · rintro ⟨i,Q,r⟩ ⟨h1,h2,h3,h4,h5,h6⟩
   simp only [] at h1 h2 h3 h4 h5 h6
   cases i with
   | zero =>
     simp only [List.replicate_zero,List.nil_append,List.drop_zero] at h6 ⊢
     have hq : val a / B = val Q ∧ val a % B = r :=(Int.ediv_emod_unique hB).2 ⟨by omega,h4,h5⟩
     rw [hq.1,hq.2]
     (repeat (refine a6 q8x1 hX a7 rfl ?_; (simp [go_sem])))
     refine a8 (b :=false) (by simp [go_sem]) (fun h => by cases h) (fun _ => ?_)
     (repeat (refine a6 q8x1 hX a7 rfl ?_; (simp [go_sem])))
     refine a9 (eP Q (by omega) h2) ?_
     try (simp [go_sem])
     (repeat (refine a6 q8x1 hX a7 rfl ?_; (simp [go_sem])))
   | succ i =>
     have hi : i < a.length :=by omega
     have hii : ((i + 1 : Nat) : Int) - 1 = i :=by omega
     have hd0 :=dP a i
     rw [i7 hi] at hd0
     have hdb :=b5 ha hi
     rw [hii]
     obtain ⟨d,hd⟩ : ∃ d,a[i] = d :=⟨_,rfl⟩
     rw [hd] at hd0 hdb
     have hrl : (dg r).length ≤ b.length :=jY h4 h5 hbl
     have hokr : okD (d :: dg r) :=aN.2 ⟨hdb,aI r⟩
     have hvr : val (d :: dg r) = d + 1048576 * r :=by simp only [val]; rw [b6 h4]
     have ht :=eP (d :: dg r) (by simp only [List.length_cons]; omega) hokr
     rw [hvr] at ht
     have hYb : 0 ≤ d + 1048576 * r ∧ d + 1048576 * r < 1048576 * B :=by omega
     have hstep :=fun lo => C8 (d :=d) (lo :=lo) hB h6 ⟨h4,h5⟩
     have hXl : (dg (d + 1048576 * r)).length ≤ b.length + 1 :=by
      refine jY hYb.1 hYb.2 ?_
      rw [Int.pow_succ]; omega
     obtain ⟨Y,hXe⟩ : ∃ Y,d + 1048576 * r = Y :=⟨_,rfl⟩
     rw [hXe] at ht hYb hXl
     simp only [hXe] at hstep
     (repeat (refine a6 q8x1 hX a7 rfl ?_; (simp [go_sem])))
     refine a8 (b :=true) (by simp [go_sem]; try omega) (fun _ => ?_) (fun h => by cases h)
     (repeat (refine a6 q8x1 hX a7 rfl ?_; (simp [go_sem,hi,hd])))
     try (repeat refine And.intro (by first | omega | (unfold maxLen; omega) | kernel_rfl | (refine ⟨by first | omega | (unfold maxLen; omega),by first | omega | (unfold maxLen; omega)⟩) | grind) ?_)
     try (repeat (refine a6 q8x1 hX a7 rfl ?_; (simp [go_sem,hi,hd])))
     refine a9 (ht) ?_
     try (simp [go_sem])
     (repeat (refine a6 q8x1 hX a7 rfl ?_; (simp [go_sem])))
     refine aF (fun y : Int × Int => ⟨mkE [(0,il a),(1,il b),(6,.ow 0),(7,il (dg Y)),(8,ii i),(9,ii y.1),(10,ii y.2)],[rowI (List.replicate (i + 1) 0 ++ Q)]⟩)
      (fun y => 0 ≤ y.1 ∧ y.1 < y.2 ∧ y.2 ≤ 1048576 ∧ y.1 * B ≤ Y ∧ Y < y.2 * B) (fun y => (y.2 - y.1).toNat) (0,1048576) ?_ ?_ ?_
     · refine aA _ [.old 0 ⟨3,1,(List.replicate (i + 1) (0 : Int) ++ Q).map ii⟩] (by simp [go_sem]) ?_
       simp [go_sem]
     · refine ⟨by simp,by simp,by simp,by simp; omega,?_⟩
       show Y < 1048576 * B
       omega
     · rintro ⟨lo,hi'⟩ ⟨g1,g2,g3,g4,g5⟩
       simp only [] at g1 g2 g3 g4 g5
       have wd :=w64 (x :=hi' - lo) (by omega) (by omega)
       have ws :=w64 (x :=lo + hi') (by omega) (by omega)
       (repeat (refine a6 q8x1 hX a7 rfl ?_; (simp [go_sem,wd])))
       refine a8 (b :=decide (1 < hi' - lo)) (by simp [go_sem,wd]) (fun hc => ?_) (fun hc => ?_)
       · simp only [decide_eq_true_eq] at hc
         have hmd : (lo + hi').tdiv 2 = (lo + hi') / 2 :=Int.tdiv_eq_ediv_of_nonneg (by omega)
         obtain ⟨m,hm⟩ : ∃ m,(lo + hi') / 2 = m :=⟨_,rfl⟩
         rw [hm] at hmd
         have hmb : lo < m ∧ m < hi' :=by omega
         have wm :=w64 (x :=m) (by omega) (by omega)
         have htm :=pS b [m] (by omega) (by simp) hb (aN.2 ⟨by omega,cJ⟩)
         have hvm : val b * val [m] = m * B :=by simp [val,hBe,Int.mul_comm]
         rw [hvm] at htm
         have hmB : 0 ≤ m * B :=Int.mul_nonneg (by omega) (by omega)
         have hmB2 : (dg (m * B)).length ≤ b.length + 1 :=by
          refine jY hmB (B :=1048576 * B) ?_ (by rw [Int.pow_succ]; omega)
          exact Int.mul_lt_mul_of_pos_right (by omega) hB
         have hls :=uC (dg Y) (dg (m * B)) (by omega) (by omega) (aI _) (aI _)
         rw [b6 hYb.1,b6 hmB] at hls
         (repeat (refine a6 q8x1 hX a7 rfl ?_; (simp [go_sem,ws,hmd,wm])))
         refine dO (htm) rfl rfl ?_
         try (simp [go_sem])
         refine a9 (hls) ?_
         try (simp [go_sem])
         refine a8 (b :=decide (Y < m * B)) (by simp [go_sem]) (fun hf => ?_) (fun hf => ?_)
         · simp only [decide_eq_true_eq] at hf
           (repeat (refine a6 q8x1 hX a7 rfl ?_; (simp [go_sem])))
           refine ⟨lo,m,⟨by omega,by omega,by omega,by omega,by omega⟩,by omega,?_⟩
           refine aA _ [.old 0 ⟨3,1,(List.replicate (i + 1) (0 : Int) ++ Q).map ii⟩] (by simp [go_sem]) ?_
           simp [go_sem]
         · simp only [decide_eq_false_iff_not] at hf
           (repeat (refine a6 q8x1 hX a7 rfl ?_; (simp [go_sem])))
           refine ⟨m,hi',⟨by omega,by omega,by omega,by omega,by omega⟩,by omega,?_⟩
           refine aA _ [.old 0 ⟨3,1,(List.replicate (i + 1) (0 : Int) ++ Q).map ii⟩] (by simp [go_sem]) ?_
           simp [go_sem]
       · simp only [decide_eq_false_iff_not] at hc
         have e : hi' = lo + 1 :=by omega
         subst e
         obtain ⟨s1,s2,s3⟩ :=hstep lo g4 g5
         have htl :=eP [lo] (by simp) (aN.2 ⟨by omega,cJ⟩)
         have hvl : val [lo] = lo :=by simp [val]
         rw [hvl] at htl
         have hll : (dg lo).length ≤ 1 :=by rw [aP]; omega
         have htm :=pS b (dg lo) (by omega) (by omega) hb (aI _)
         rw [b6 g1,hBe] at htm
         have hBl : 0 ≤ B * lo :=Int.mul_nonneg (by omega) g1
         have hBl2 : (dg (B * lo)).length ≤ b.length + 1 :=jY hBl (B :=1048576 * B) (by omega) (by rw [Int.pow_succ]; omega)
         have hmn :=lB (dg Y) (dg (B * lo)) (by omega) (by omega) (aI _) (aI _) (by rw [b6 hYb.1,b6 hBl]; omega)
         rw [b6 hYb.1,b6 hBl] at hmn
         have hrep : List.replicate (i + 1) (0 : Int) ++ Q = List.replicate i 0 ++ 0 :: Q :=by rw [List.replicate_succ',List.append_assoc]; rfl
         have hset : (List.replicate (i + 1) (0 : Int) ++ Q).set i lo = List.replicate i 0 ++ lo :: Q :=by
          rw [hrep,List.set_append_right _ _ (by simp)]; simp
         have hil : i < (List.replicate (i + 1) (0 : Int) ++ Q).length :=by simp; omega
         have wi :=w64 (x :=(i : Int) - 1) (by omega) (by omega)
         generalize hR : List.replicate (i + 1) (0 : Int) ++ Q = R at *
         (repeat (refine a6 q8x1 hX a7 rfl ?_; (simp [go_sem,hil])))
         try (repeat refine And.intro (by first | omega | (unfold maxLen; omega) | kernel_rfl | (refine ⟨by first | omega | (unfold maxLen; omega),by first | omega | (unfold maxLen; omega)⟩) | grind) ?_)
         refine a9 (htl) ?_
         try (simp [go_sem])
         refine a9 (htm) ?_
         try (simp [go_sem])
         refine a9 (hmn) ?_
         try (simp [go_sem])
         (repeat (refine a6 q8x1 hX a7 rfl ?_; (simp [go_sem,wi])))
         refine ⟨i,lo :: Q,Y - B * lo,⟨by omega,aN.2 ⟨by omega,h2⟩,by simp; omega,s2,s3,?_⟩,by omega,?_⟩
         · simp only [val]; rw [s1,hd0]
         · rw [← hset]
           refine aA _ [.old 0 ⟨3,1,(R.set i lo).map ii⟩] (by simp [go_sem]) ?_
           simp [go_sem]
end Go.Proofs.YtknbcehhjffndaaGreat

namespace Go.Proofs.YtknbcehhjffndaaGreat
open Go.RowKit Go.Ab
attribute [local irreducible] AWP Go.Ab.Sub Means MeansH CallK CallG CallT CallGT CallU
theorem AQ (x : Int) (hl : (dg (ab x)).length ≤ 100000) : Means false Tryz.prog 108 [bigZ x] (res x) :=by
 by_cases h : (dg (ab x)).length ≤ 60
 · have hr : rz x :=(aP 60).1 h
   rw [res,cC hr,yS hr]
   exact HX _ _ h
 · have hr : ¬ rz x :=fun q => h ((aP 60).2 q)
   have e : res x = .tup [big2 0 [],ii 6] :=by rw [res,r60,e60,if_neg hr,if_neg hr]; rfl
   rw [e]
   exact HY _ _ h hl
theorem eQ (s x : Int) (L : List Int) (hl : L.length ≤ 100000) (ho : okD L) (h1 : val L = ab x) (h2 : x ≠ 0 → s = sg x) : Means false Tryz.prog 109 [ii s,il L] (bigZ x) :=by
 have hm :=nU s L hl ho
 have e : big2 (if val L = 0 then 0 else s) (dg (val L)) = bigZ x :=by
  show _ = big2 (sg x) (dg (ab x))
  rw [h1]
  by_cases q : x = 0
  · subst q; rfl
  · have : ab x ≠ 0 :=by unfold ab; split <;> omega
    rw [if_neg this,h2 q]
 rwa [e] at hm
theorem uD (z : Int) (hz : rz z) : Means false Tryz.prog 111 [bigZ z] (bigZ (-z)) :=by
 have hlz :=bP hz
 have hb :=fA z
 have hww :=w64 (x :=- sg z) (by omega) (by omega)
 have cm :=eQ (- sg z) (-z) (dg (ab z)) (by omega) (aI _) (by rw [aL,pT]) (fun _ => (tF z).symm)
 refine aB false 13 [.cell 2 60] Tryz.func111 rfl rfl rfl (by simp) (by decide) rfl fun X hX => ?_
 (repeat (refine a6 [0,1,2,5] hX a7 rfl ?_; (simp [go_sem])))
 refine a9 (aK z hz) ?_
 try (simp [go_sem])
 refine a8 (b :=false) (by simp [go_sem]) (fun h => by cases h) (fun _ => ?_)
 (repeat (refine a6 [0,1,2,5] hX a7 rfl ?_; (simp [go_sem,hww])))
 refine a9 (cm) ?_
 try (simp [go_sem])
 (repeat (refine a6 [0,1,2,5] hX a7 rfl ?_; (simp [go_sem])))
theorem MN (z w : Int) (h : sg z = 0 ∨ sg w = 0 ∨ sg z = sg w) : orI .i64 (sg z) (sg w) = (if sg z = 0 then sg w else sg z) :=by
 rcases aD z with ⟨a,_⟩ | ⟨a,_⟩ | ⟨a,_⟩ <;> rcases aD w with ⟨b,_⟩ | ⟨b,_⟩ | ⟨b,_⟩ <;> rw [a,b] at h ⊢ <;> first | (exact absurd h (by decide)) | rfl | decide
set_option maxHeartbeats 4000000 in
set_option maxRecDepth 20000 in
theorem F3 (z w : Int) (hz : rz z) (hw : rz w) : Means false Tryz.prog 86 [bigZ z,bigZ w] (res (z + w)) :=by
 have hlz :=bP hz
 have hlw :=bP hw
 have hza :=aT z
 have hwa :=aT w
 have hsum : ab (z + w) ≤ ab z + ab w :=by rcases aD z with h | h | h <;> rcases aD w with h2 | h2 | h2 <;> rcases aD (z + w) with h3 | h3 | h3 <;> omega
 have hl61 : (dg (ab z + ab w)).length ≤ 61 :=by
  rw [aP]
  unfold rz at hz hw
  have : (1048576 : Int) ^ 61 = 1048576 ^ 60 * 1048576 :=Int.pow_succ _ _
  omega
 have hlr : (dg (ab (z + w))).length ≤ 61 :=Nat.le_trans (aV hsum) hl61
 have ck :=AQ (z + w) (by omega)
 by_cases hc : sg z = 0 ∨ sg w = 0 ∨ sg z = sg w
 · have cp :=AR (dg (ab z)) (dg (ab w)) (by omega) (by omega) (aI _) (aI _)
   rw [aL,aL] at cp
   have hab : ab z + ab w = ab (z + w) :=by rcases aD z with h | h | h <;> rcases aD w with h2 | h2 | h2 <;> rcases aD (z + w) with h3 | h3 | h3 <;> omega
   rw [hab] at cp
   have hor :=MN z w hc
   have cm :=eQ (if sg z = 0 then sg w else sg z) (z + w) (dg (ab (z + w))) (by omega) (aI _) (by rw [aL]) (fun h => by
    rcases aD z with h1 | h1 | h1 <;> rcases aD w with h2 | h2 | h2 <;> rcases aD (z + w) with h3 | h3 | h3 <;> rw [h1.1,h2.1,h3.1] <;> first | omega | (simp; done) | (exfalso; omega))
   have hcb : (decide (sg z = 0) || (decide (sg w = 0) || decide (sg z = sg w))) = true :=by simpa using hc
   refine aB false 71 [.cell 4 60,.tmp 5] Tryz.func86 rfl rfl rfl (by simp) (by decide) rfl fun X hX => ?_
   (repeat (refine a6 q8x3 hX a7 rfl ?_; (simp [go_sem]; try (refine ⟨by kernel_rfl,?_⟩))))
   first | refine a9 (aK z hz) ?_ | refine aE (aK z hz) ?_
   try (simp [go_sem]; try (refine ⟨by kernel_rfl,?_⟩))
   first | refine aJ (fun hg => aK w hw) ?_ | refine aZ (fun hg => aK w hw) ?_
   try (simp [go_sem]; try (refine ⟨by kernel_rfl,?_⟩))
   refine a8 (b :=false) (by simp [go_sem]) (fun h => by cases h) (fun _ => ?_)
   (repeat (refine a6 q8x3 hX a7 rfl ?_; (simp [go_sem]; try (refine ⟨by kernel_rfl,?_⟩))))
   refine a8 (b :=true) (by simp [go_sem,Bool.or_assoc]; simpa using hc) (fun _ => ?_) (fun h => by cases h)
   (repeat (refine a6 q8x3 hX a7 rfl ?_; (simp [go_sem,hor]; try (refine ⟨by kernel_rfl,?_⟩))))
   first | refine a9 (cp) ?_ | refine aE (cp) ?_
   try (simp [go_sem,hor]; try (refine ⟨by kernel_rfl,?_⟩))
   first | refine a9 (cm) ?_ | refine aE (cm) ?_
   try (simp [go_sem]; try (refine ⟨by kernel_rfl,?_⟩))
   first | refine a9 (ck) ?_ | refine aE (ck) ?_
   try (simp [go_sem]; try (refine ⟨by kernel_rfl,?_⟩))
   (repeat (refine a6 q8x3 hX a7 rfl ?_; (simp [go_sem]; try (refine ⟨by kernel_rfl,?_⟩))))
 · have hc0 : ¬ sg z = 0 :=fun h => hc (.inl h)
   have hc1 : ¬ sg w = 0 :=fun h => hc (.inr (.inl h))
   have hc2 : ¬ sg z = sg w :=fun h => hc (.inr (.inr h))
   have cl :=uC (dg (ab z)) (dg (ab w)) (by omega) (by omega) (aI _) (aI _)
   rw [aL,aL] at cl
   by_cases hlt : ab z < ab w
   · have cn :=lB (dg (ab w)) (dg (ab z)) (by omega) (by omega) (aI _) (aI _) (by rw [aL,aL]; omega)
     rw [aL,aL] at cn
     have hab : ab w - ab z = ab (z + w) :=by rcases aD z with h | h | h <;> rcases aD w with h2 | h2 | h2 <;> rcases aD (z + w) with h3 | h3 | h3 <;> omega
     rw [hab] at cn
     have cm :=eQ (sg w) (z + w) (dg (ab (z + w))) (by omega) (aI _) (by rw [aL]) (fun h => by rcases aD z with h1 | h1 | h1 <;> rcases aD w with h2 | h2 | h2 <;> rcases aD (z + w) with h3 | h3 | h3 <;> omega)
     rw [decide_eq_true hlt] at cl
     refine aB false 71 [.cell 4 60,.tmp 5] Tryz.func86 rfl rfl rfl (by simp) (by decide) rfl fun X hX => ?_
     (repeat (refine a6 q8x3 hX a7 rfl ?_; (simp [go_sem]; try (refine ⟨by kernel_rfl,?_⟩))))
     first | refine a9 (aK z hz) ?_ | refine aE (aK z hz) ?_
     try (simp [go_sem]; try (refine ⟨by kernel_rfl,?_⟩))
     first | refine aJ (fun hg => aK w hw) ?_ | refine aZ (fun hg => aK w hw) ?_
     try (simp [go_sem]; try (refine ⟨by kernel_rfl,?_⟩))
     refine a8 (b :=false) (by simp [go_sem]) (fun h => by cases h) (fun _ => ?_)
     (repeat (refine a6 q8x3 hX a7 rfl ?_; (simp [go_sem]; try (refine ⟨by kernel_rfl,?_⟩))))
     refine a8 (b :=false) (by simp [go_sem,hc0,hc1,hc2]) (fun h => by cases h) (fun _ => ?_)
     (repeat (refine a6 q8x3 hX a7 rfl ?_; (simp [go_sem]; try (refine ⟨by kernel_rfl,?_⟩))))
     first | refine a9 (cl) ?_ | refine aE (cl) ?_
     try (simp [go_sem]; try (refine ⟨by kernel_rfl,?_⟩))
     refine a8 (b :=true) (by simp [go_sem]) (fun _ => ?_) (fun h => by cases h)
     (repeat (refine a6 q8x3 hX a7 rfl ?_; (simp [go_sem]; try (refine ⟨by kernel_rfl,?_⟩))))
     first | refine a9 (cn) ?_ | refine aE (cn) ?_
     try (simp [go_sem]; try (refine ⟨by kernel_rfl,?_⟩))
     first | refine a9 (cm) ?_ | refine aE (cm) ?_
     try (simp [go_sem]; try (refine ⟨by kernel_rfl,?_⟩))
     first | refine a9 (ck) ?_ | refine aE (ck) ?_
     try (simp [go_sem]; try (refine ⟨by kernel_rfl,?_⟩))
     (repeat (refine a6 q8x3 hX a7 rfl ?_; (simp [go_sem]; try (refine ⟨by kernel_rfl,?_⟩))))
   · have cn :=lB (dg (ab z)) (dg (ab w)) (by omega) (by omega) (aI _) (aI _) (by rw [aL,aL]; omega)
     rw [aL,aL] at cn
     have hab : ab z - ab w = ab (z + w) :=by rcases aD z with h | h | h <;> rcases aD w with h2 | h2 | h2 <;> rcases aD (z + w) with h3 | h3 | h3 <;> omega
     rw [hab] at cn
     have cm :=eQ (sg z) (z + w) (dg (ab (z + w))) (by omega) (aI _) (by rw [aL]) (fun h => by rcases aD z with h1 | h1 | h1 <;> rcases aD w with h2 | h2 | h2 <;> rcases aD (z + w) with h3 | h3 | h3 <;> omega)
     rw [decide_eq_false hlt] at cl
     refine aB false 71 [.cell 4 60,.tmp 5] Tryz.func86 rfl rfl rfl (by simp) (by decide) rfl fun X hX => ?_
     (repeat (refine a6 q8x3 hX a7 rfl ?_; (simp [go_sem]; try (refine ⟨by kernel_rfl,?_⟩))))
     first | refine a9 (aK z hz) ?_ | refine aE (aK z hz) ?_
     try (simp [go_sem]; try (refine ⟨by kernel_rfl,?_⟩))
     first | refine aJ (fun hg => aK w hw) ?_ | refine aZ (fun hg => aK w hw) ?_
     try (simp [go_sem]; try (refine ⟨by kernel_rfl,?_⟩))
     refine a8 (b :=false) (by simp [go_sem]) (fun h => by cases h) (fun _ => ?_)
     (repeat (refine a6 q8x3 hX a7 rfl ?_; (simp [go_sem]; try (refine ⟨by kernel_rfl,?_⟩))))
     refine a8 (b :=false) (by simp [go_sem,hc0,hc1,hc2]) (fun h => by cases h) (fun _ => ?_)
     (repeat (refine a6 q8x3 hX a7 rfl ?_; (simp [go_sem]; try (refine ⟨by kernel_rfl,?_⟩))))
     first | refine a9 (cl) ?_ | refine aE (cl) ?_
     try (simp [go_sem]; try (refine ⟨by kernel_rfl,?_⟩))
     refine a8 (b :=false) (by simp [go_sem]) (fun h => by cases h) (fun _ => ?_)
     (repeat (refine a6 q8x3 hX a7 rfl ?_; (simp [go_sem]; try (refine ⟨by kernel_rfl,?_⟩))))
     first | refine a9 (cn) ?_ | refine aE (cn) ?_
     try (simp [go_sem]; try (refine ⟨by kernel_rfl,?_⟩))
     first | refine a9 (cm) ?_ | refine aE (cm) ?_
     try (simp [go_sem]; try (refine ⟨by kernel_rfl,?_⟩))
     first | refine a9 (ck) ?_ | refine aE (ck) ?_
     try (simp [go_sem]; try (refine ⟨by kernel_rfl,?_⟩))
     (repeat (refine a6 q8x3 hX a7 rfl ?_; (simp [go_sem]; try (refine ⟨by kernel_rfl,?_⟩))))
theorem KQ (z w : Int) (hz : rz z) (hw : rz w) : Means false Tryz.prog 78 [bigZ z,bigZ w] (res (z - w)) :=by
 have hadd :=F3 z (-w) hz (j3 hw)
 rw [← Int.sub_eq_add_neg] at hadd
 refine aB false 21 [.cell 4 60,.tmp 5] Tryz.func78 rfl rfl rfl (by simp) (by decide) rfl fun X hX => ?_
 (repeat (refine a6 [0,1,2,3,4,5,6,7,10] hX a7 rfl ?_; (simp [go_sem]; try (refine ⟨by kernel_rfl,?_⟩))))
 first | refine a9 (aK w hw) ?_ | refine aE (aK w hw) ?_
 try (simp [go_sem]; try (refine ⟨by kernel_rfl,?_⟩))
 refine a8 (b :=false) (by simp [go_sem]) (fun h => by cases h) (fun _ => ?_)
 (repeat (refine a6 [0,1,2,3,4,5,6,7,10] hX a7 rfl ?_; (simp [go_sem]; try (refine ⟨by kernel_rfl,?_⟩))))
 first | refine a9 (uD w hw) ?_ | refine aE (uD w hw) ?_
 try (simp [go_sem]; try (refine ⟨by kernel_rfl,?_⟩))
 first | refine a9 (hadd) ?_ | refine aE (hadd) ?_
 try (simp [go_sem]; try (refine ⟨by kernel_rfl,?_⟩))
 try (repeat refine And.intro (by first | omega | (unfold maxLen; omega) | kernel_rfl | (refine ⟨by first | omega | (unfold maxLen; omega),by first | omega | (unfold maxLen; omega)⟩) | grind) ?_)
 (repeat (refine a6 [0,1,2,3,4,5,6,7,10] hX a7 rfl ?_; (simp [go_sem]; try (refine ⟨by kernel_rfl,?_⟩))))
set_option maxHeartbeats 4000000 in
theorem fX (z w : Int) (hz : rz z) (hw : rz w) : Means false Tryz.prog 77 [bigZ z,bigZ w] (res (z * w)) :=by
 have hlz :=bP hz
 have hlw :=bP hw
 have ht :=pS (dg (ab z)) (dg (ab w)) (by omega) (by omega) (aI _) (aI _)
 rw [aL,aL] at ht
 have eab : ab z * ab w = ab (z * w) :=(pU z w).symm
 rw [eab] at ht
 have hl120 : (dg (ab (z * w))).length ≤ 120 :=by
  rw [aP,← eab]
  unfold rz at hz hw
  have e : (1048576 : Int) ^ 120 = 1048576 ^ 60 * 1048576 ^ 60 :=by rw [← Int.pow_add]
  rw [e]
  have h1 :=aT z
  have h2 :=aT w
  rcases Int.lt_or_le 0 (ab w) with q | q
  · exact Int.lt_of_lt_of_le (Int.mul_lt_mul_of_pos_right hz q) (Int.mul_le_mul_of_nonneg_left (by omega) (by omega))
  · have : ab w = 0 :=by omega
    rw [this,Int.mul_zero]; exact Int.mul_pos (bR 60) (bR 60)
 have hm :=eQ (sg z * sg w) (z * w) (dg (ab (z * w))) (by omega) (aI _) (by rw [aL]) (fun _ => (iL z w).symm)
 have hws : IntKind.i64.wrap (sg z * sg w) = sg z * sg w :=by
  rw [← iL]
  have :=fA (z * w)
  exact w64 (by omega) (by omega)
 have ck :=AQ (z * w) (by omega)
 refine aB false 29 [.cell 4 60,.tmp 5] Tryz.func77 rfl rfl rfl (by simp) (by decide) rfl fun X hX => ?_
 (repeat (refine a6 [0,1,2,3,4,5,13] hX a7 rfl ?_; (simp [go_sem]; try (refine ⟨by kernel_rfl,?_⟩))))
 first | refine a9 (aK z hz) ?_ | refine aE (aK z hz) ?_
 try (simp [go_sem]; try (refine ⟨by kernel_rfl,?_⟩))
 first | refine aJ (fun hg => aK w hw) ?_ | refine aZ (fun hg => aK w hw) ?_
 try (simp [go_sem]; try (refine ⟨by kernel_rfl,?_⟩))
 refine a8 (b :=false) (by simp [go_sem]) (fun h => by cases h) (fun _ => ?_)
 (repeat (refine a6 [0,1,2,3,4,5,13] hX a7 rfl ?_; (simp [go_sem,hws]; try (refine ⟨by kernel_rfl,?_⟩))))
 first | refine a9 (ht) ?_ | refine aE (ht) ?_
 try (simp [go_sem,hws]; try (refine ⟨by kernel_rfl,?_⟩))
 first | refine a9 (hm) ?_ | refine aE (hm) ?_
 try (simp [go_sem]; try (refine ⟨by kernel_rfl,?_⟩))
 first | refine a9 (ck) ?_ | refine aE (ck) ?_
 try (simp [go_sem]; try (refine ⟨by kernel_rfl,?_⟩))
 (repeat (refine a6 [0,1,2,3,4,5,13] hX a7 rfl ?_; (simp [go_sem]; try (refine ⟨by kernel_rfl,?_⟩))))
end Go.Proofs.YtknbcehhjffndaaGreat

namespace Go.Proofs.YtknbcehhjffndaaGreat
open Go.RowKit Go.Ab
theorem qW {P : Program} {f : FuncId} {E k : Nat} {es : List AV} (pre : List AV) {rest : List AV} {r : AV} (hz : zoneEs es = true) (hpre : ∀ e ∈ pre,e.zone = true) (hrest : ∀ e ∈ rest,e.zone = true) (hrz : r.zone = true)
  (h : Means false P f (pre ++ .sl es :: rest) r) : MeansH P f [.row ⟨E,k,es⟩] (pre ++ .ow 0 :: rest) r [.dead] :=by
 intro w M loc vs hM hg hS hsz hargs
 have hob :=hS.obj 0 ⟨E,k,es⟩ rfl
 obtain ⟨xs,hown,hxs⟩ :=hob.own
 have hlt : ∀ g,(loc 0).ownBlock = some g → g < w.heap.size :=fun g hg => (hown.lt g hg).2
 let MM : Nat → Prop :=fun b => M b ∨ (loc 0).ownBlock = some b
 have hMM : ∀ b,MM b → b < w.heap.size :=fun b hb => hb.elim (hM b) (hlt b)
 have hfr : RepZ w MM (loc 0) (.sl es) :=by
  rcases hown.2 with ⟨hn,h0⟩ | ⟨g,cap,cur,hn,hbg,hheap,hnc,hcm,hcs,htake⟩
  · have hes : es = [] :=List.eq_nil_of_length_eq_zero h0
    rw [hn,hes]
    exact .sl none 0 k [] (fun _ => undef) (by simp) (by simp) (by simp) (by simp) (by simp) (by simp)
  · have hcells :=hown.cells (g :=g) (by rw [hn]; rfl)
    have hb' : MM g :=.inr (by rw [hn]; rfl)
    rw [hn]
    refine .sl _ cap k es (fun j => xs.getD j undef) hob.flat (fun _ => ⟨_,rfl,hb'⟩) (fun ad had j hj => ?_) (fun j e he => ?_) hnc hcm
    · cases had
      have hx : xs[j]? = some (xs[j]'(by rw [hown.1]; exact hj)) :=List.getElem?_eq_getElem _
      rw [hcells j _ hx,List.getD_eq_getElem?_getD,hx]; rfl
    · obtain ⟨x,hx,hr⟩ :=hxs j e he
      have : xs.getD j undef = x :=by rw [List.getD_eq_getElem?_getD,hx]; rfl
      rw [this]
      exact (hr.1.repZ (dA hz he)).mono (fun _ _ => rfl) (fun b hb => .inl hb)
 refine (h MM w vs hMM (hg.mono (fun _ _ => rfl) fun _ hb => .inl hb) (by rw [hsz]; simp) fun j x e hx he => ?_).mono fun e w' ⟨x,he,hb,hr⟩ => ?_
 · rcases Nat.lt_trichotomy j pre.length with q | q | q
   · rw [List.getElem?_append_left q] at he
     have hra :=(hargs j x e hx (by rw [List.getElem?_append_left q]; exact he)).1
     exact (hra.repZ (hpre e (List.mem_of_getElem? he))).mono (fun _ _ => rfl) (fun b hb => .inl hb)
   · subst q
     rw [List.getElem?_append_right (Nat.le_refl _),Nat.sub_self,List.getElem?_cons_zero,Option.some.injEq] at he
     subst he
     have :=(hargs pre.length x (.ow 0) hx (by rw [List.getElem?_append_right (Nat.le_refl _),Nat.sub_self]; rfl)).1
     have e1 : x = loc 0 :=this
     rw [e1]; exact hfr
   · obtain ⟨m,hm⟩ : ∃ m,j - pre.length = m + 1 :=⟨j - pre.length - 1,by omega⟩
     rw [List.getElem?_append_right (by omega),hm,List.getElem?_cons_succ] at he
     have hra :=(hargs j x e hx (by rw [List.getElem?_append_right (by omega),hm,List.getElem?_cons_succ]; exact he)).1
     exact (hra.repZ (hrest e (List.mem_of_getElem? he))).mono (fun _ _ => rfl) (fun b hb => .inl hb)
 · refine ⟨x,fun b => b < w'.heap.size ∧ (w.heap.size ≤ b ∨ MM b),loc,he,⟨fun id o ho => ?_,fun i j oi oj _ hi => ?_,fun id m hm => ?_,fun i j mi mj _ hi => ?_,fun id hid => ?_⟩,⟨hb.os,hb.tape,hb.output,hb.size,fun k hk _ => hb.block k hk⟩,
    fun b hb' => ⟨Nat.lt_of_lt_of_le (hM b hb') hb.size,.inr (.inl hb')⟩,fun b hb' => ⟨hb'.1,?_⟩,fun _ _ => rfl,(hr.mono (fun _ _ => rfl) fun b hb' => ⟨hb'.1,hb'.2.imp id (·.2)⟩).rep,bL hrz _,Nat.le_refl _⟩
   · cases id with
     | zero => simp at ho
     | succ id => simp at ho
   · cases i with
     | zero => simp at hi
     | succ i => simp at hi
   · cases id with
     | zero => simp at hm
     | succ id => simp at hm
   · cases i with
     | zero => simp at hi
     | succ i => simp at hi
   · exact hS.one id hid
   · rcases hb'.2 with q | q | q
     · exact .inr (.inl q)
     · exact .inl q
     · exact .inr (.inr (.inl ⟨0,_,rfl,q⟩))
end Go.Proofs.YtknbcehhjffndaaGreat

