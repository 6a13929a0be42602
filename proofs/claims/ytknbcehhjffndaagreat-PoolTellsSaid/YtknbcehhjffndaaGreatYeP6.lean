/-
  Lemmas for the statement at the top.
-/
import Derived.Test.YtknbcehhjffndaaGreatYeFw4
import Derived.Test.YtknbcehhjffndaaGreatYeFacts
import Derived.Test.YtknbcehhjffndaaGreatYeFw5
set_option linter.all false
namespace Go.Ab
def q15x0 : List Nat :=[0,1,4,5,6,7,8,9,10,11,18,19,20,21,25,26,27,28]
def q15x1 : List Nat :=[0,1,4,5,6,7,8,13,20,21,22,23,33]
def q15x2 : List Nat :=[0,1,4,5,6,7,8,12,13,14,25]
def q15x3 : List Nat :=[0,1,4,5,6,11,12,13,16,19]
def q15x4 : List Nat :=[0,1,4,5,10,20,31]
def q15x5 : List Nat :=[0,1,4,5,6,7,8,16]
def q15x6 : List Nat :=[0,2,3,15,1000000]
def q15x7 : List Nat :=[0,2,3,15]
attribute [go_sem] q15x0 q15x1 q15x2 q15x3 q15x4 q15x5 q15x6 q15x7
end Go.Ab
namespace Go.Proofs.YtknbcehhjffndaaGreat
def val : List Int → Int
 | [] => 0
 | d :: l => d + 1048576 * val l
def okD (l : List Int) : Prop :=∀ d ∈ l,0 ≤ d ∧ d < 1048576
theorem cJ : okD [] :=by simp [okD]
theorem aN {d : Int} {l : List Int} : okD (d :: l) ↔ (0 ≤ d ∧ d < 1048576) ∧ okD l :=by simp [okD]
theorem b5 {l : List Int} (h : okD l) {i : Nat} (hi : i < l.length) : 0 ≤ l[i] ∧ l[i] < 1048576 :=h _ (List.getElem_mem hi)
theorem eB {a b : List Int} : okD (a ++ b) ↔ okD a ∧ okD b :=by
 unfold okD
 constructor
 · intro h; exact ⟨fun d hd => h d (List.mem_append_left _ hd),fun d hd => h d (List.mem_append_right _ hd)⟩
 · rintro ⟨h1,h2⟩ d hd; exact (List.mem_append.1 hd).elim (h1 d) (h2 d)
theorem bB {l : List Int} (h : okD l) (n : Nat) : okD (l.take n) :=fun d hd => h d (List.mem_of_mem_take hd)
theorem bM {l : List Int} (h : okD l) (n : Nat) : okD (l.drop n) :=fun d hd => h d (List.mem_of_mem_drop hd)
theorem dY (n : Nat) : okD (List.replicate n 0) :=fun d hd => by rw [List.eq_of_mem_replicate hd]; decide
theorem gX {l : List Int} (h : okD l) (i : Nat) {x : Int} (hx : 0 ≤ x ∧ x < 1048576) : okD (l.set i x) :=fun d hd => by
 rcases List.mem_or_eq_of_mem_set hd with hd | rfl
 · exact h d hd
 · exact hx
theorem aM : ∀ {l : List Int},okD l → 0 ≤ val l
 | [],_ => by simp [val]
 | d :: l,h => by
   rw [aN] at h
   have :=aM h.2
   simp only [val]; omega
def dgF : Nat → Int → List Int
 | 0,_ => []
 | k + 1,n => if n ≤ 0 then [] else (n % 1048576) :: dgF k (n / 1048576)
def dg (n : Int) : List Int :=dgF n.toNat n
theorem pA : ∀ (k : Nat) (n : Int),n ≤ k → dgF k n = dg n
 | 0,n,h => by
   have : n.toNat = 0 :=by omega
   rw [dg,this]
 | k + 1,n,h => by
   by_cases hn : n ≤ 0
   · have : n.toNat = 0 :=by omega
     rw [dg,this]; simp only [dgF,hn,if_true]
   · obtain ⟨m,hm⟩ : ∃ m,n.toNat = m + 1 :=⟨n.toNat - 1,by omega⟩
     rw [dg,hm]
     simp only [dgF,hn,if_false]
     rw [pA k _ (by omega),pA m _ (by omega)]
termination_by k n => k + n.toNat
theorem gY {n : Int} (h : n ≤ 0) : dg n = [] :=by
 have : n.toNat = 0 :=by omega
 rw [dg,this]; rfl
theorem jO : dg 0 = [] :=rfl
theorem fC {n : Int} (h : 0 < n) : dg n = (n % 1048576) :: dg (n / 1048576) :=by
 obtain ⟨m,hm⟩ : ∃ m,n.toNat = m + 1 :=⟨n.toNat - 1,by omega⟩
 rw [dg,hm]
 have hn : ¬ n ≤ 0 :=by omega
 simp only [dgF,hn,if_false]
 rw [pA m _ (by omega)]
theorem tQ {motive : Int → Prop} (h0 : ∀ n,n ≤ 0 → motive n) (h1 : ∀ n,0 < n → motive (n / 1048576) → motive n) (n : Int) : motive n :=by
 have : ∀ (k : Nat) (n : Int),n ≤ k → motive n :=by
  intro k
  induction k with
  | zero => intro n h; exact h0 n h
  | succ k ih =>
    intro n h
    by_cases hn : n ≤ 0
    · exact h0 n hn
    · exact h1 n (by omega) (ih _ (by omega))
 exact this n.toNat n (by omega)
theorem c8 {n : Int} : dg n = [] ↔ n ≤ 0 :=by
 constructor
 · intro h
   by_cases h0 : n ≤ 0
   · exact h0
   · rw [fC (by omega)] at h; cases h
 · exact gY
theorem b6 {n : Int} (h : 0 ≤ n) : val (dg n) = n :=by
 induction n using tQ with
 | h0 n hn => rw [gY hn,val]; omega
 | h1 n hn ih => rw [fC hn,val,ih (by omega)]; omega
theorem aI (n : Int) : okD (dg n) :=by
 induction n using tQ with
 | h0 n hn => rw [gY hn]; exact cJ
 | h1 n hn ih => rw [fC hn,aN]; exact ⟨by omega,ih⟩
theorem HA {l : List Int} (ho : okD l) (hl : l ≠ []) (h : l.getLast hl ≠ 0) : 0 < val l :=by
 induction l with
 | nil => exact (hl rfl).elim
 | cons d l ih =>
   rw [aN] at ho
   cases l with
   | nil =>
     have : d ≠ 0 :=by simpa using h
     simp only [val]; omega
   | cons e l =>
     have :=ih ho.2 (by simp) (by simpa using h)
     rw [val]; omega
theorem ED {l : List Int} (ho : okD l) (h : ∀ hl : l ≠ [],l.getLast hl ≠ 0) : dg (val l) = l :=by
 induction l with
 | nil => rfl
 | cons d l ih =>
   have hp :=HA ho (by simp) (h (by simp))
   have ho' :=ho
   rw [aN] at ho
   have ih' :=ih ho.2 (fun hl => by have :=h (by simp); rwa [List.getLast_cons hl] at this)
   rw [fC hp]
   simp only [val]
   rw [show (d + 1048576 * val l) % 1048576 = d by omega,show (d + 1048576 * val l) / 1048576 = val l by omega,ih']
theorem tR (n : Int) (hl : dg n ≠ []) : (dg n).getLast hl ≠ 0 :=by
 induction n using tQ with
 | h0 n hn => exact (hl (gY hn)).elim
 | h1 n hn ih =>
   simp only [fC hn] at hl ⊢
   by_cases h2 : dg (n / 1048576) = []
   · have :=c8.1 h2
     simp only [h2,List.getLast_singleton]; omega
   · rw [List.getLast_cons h2]; exact ih h2
theorem KH {a b : Int} (ha : 0 ≤ a) (hb : 0 ≤ b) (h : dg a = dg b) : a = b :=by rw [← b6 ha,h,b6 hb]
theorem aV {a b : Int} (h : a ≤ b) : (dg a).length ≤ (dg b).length :=by
 induction b using tQ generalizing a with
 | h0 n hn => rw [gY (by omega),gY hn]; exact Nat.le_refl _
 | h1 b hb ih =>
   by_cases ha : a ≤ 0
   · rw [gY ha]; exact Nat.zero_le _
   · rw [fC (by omega),fC hb]
     have :=ih (a :=a / 1048576) (by omega)
     simp only [List.length_cons]; omega
theorem gF (n : Nat) : val (List.replicate n 0) = 0 :=by
 induction n with
 | zero => rfl
 | succ n ih => rw [List.replicate_succ,val,ih]; rfl
theorem d8 {l : List Int} (h : okD l) : val l < 1048576 ^ l.length :=by
 induction l with
 | nil => simp [val]
 | cons d l ih =>
   rw [aN] at h
   have :=ih h.2
   simp only [val,List.length_cons,Int.pow_succ]
   omega
theorem bR (k : Nat) : (0 : Int) < 1048576 ^ k :=Int.pow_pos (by decide)
theorem aP {n : Int} (k : Nat) : (dg n).length ≤ k ↔ n < 1048576 ^ k :=by
 induction k generalizing n with
 | zero =>
   simp only [Nat.le_zero_eq,List.length_eq_zero_iff,Int.pow_zero,c8]; omega
 | succ k ih =>
   by_cases h : n ≤ 0
   · have :=bR (k + 1)
     rw [gY h]; simp; omega
   · rw [fC (by omega),List.length_cons,Nat.add_le_add_iff_right,ih,Int.pow_succ]
     have :=bR k
     omega
theorem HB {l : List Int} {n : Nat} (h : ∀ j (hj : j < l.length),n ≤ j → l[j] = 0) : val (l.take n) = val l :=by
 induction l generalizing n with
 | nil => simp
 | cons d l ih =>
   cases n with
   | zero =>
     have h0 :=h 0 (by simp) (Nat.le_refl _)
     have :=ih (n :=0) (fun j hj _ => h (j + 1) (by simpa using hj) (Nat.zero_le _))
     simp only [List.take_zero,val,List.getElem_cons_zero] at this h0 ⊢
     omega
   | succ n =>
     have :=ih (n :=n) (fun j hj hn => by have :=h (j + 1) (by simpa using hj) (by omega); simpa using this)
     simp only [List.take_succ_cons,val,this]
theorem tS {l : List Int} (ho : okD l) {n : Nat} (hn : n ≤ l.length) (h : ∀ j (hj : j < l.length),n ≤ j → l[j] = 0) (h2 : ∀ hp : 0 < n,l[n - 1]'(by omega) ≠ 0) : dg (val l) = l.take n :=by
 rw [← HB h]
 refine ED (bB ho n) fun hl => ?_
 have hnp : 0 < n :=by
  by_cases h0 : n = 0
  · subst h0; simp at hl
  · omega
 rw [List.getLast_eq_getElem]
 have e : (l.take n).length - 1 = n - 1 :=by rw [List.length_take]; omega
 simp only [e,List.getElem_take]
 exact h2 hnp
theorem cY {l : List Int} (ho : okD l) : dg (val l) = l.take (dg (val l)).length ∧ (dg (val l)).length ≤ l.length :=by
 have key : ∀ k,k ≤ l.length → (∀ j (hj : j < l.length),k ≤ j → l[j] = 0) → dg (val l) = l.take (dg (val l)).length ∧ (dg (val l)).length ≤ l.length :=by
  intro k
  induction k with
  | zero =>
    intro _ h
    have :=tS ho (Nat.zero_le _) h (fun h => by omega)
    rw [this]; simp
  | succ k ih =>
    intro hk h
    by_cases hz : l[k]'(by omega) = 0
    · refine ih (by omega) fun j hj hkj => ?_
      by_cases e : j = k
      · subst e; exact hz
      · exact h j hj (by omega)
    · have :=tS ho hk h (fun _ => by simpa using hz)
      rw [this,List.length_take,Nat.min_eq_left hk]
      exact ⟨rfl,hk⟩
 exact key l.length (Nat.le_refl _) (fun j hj h => by omega)
theorem eI {l : List Int} {i : Nat} (h : i < l.length) (x : Int) : (l.set i x).take (i + 1) = l.take i ++ [x] :=by
 rw [List.take_succ_eq_append_getElem (by simpa using h),List.take_set_of_le (Nat.le_refl _)]
 simp
def addC : Int → List Int → List Int → List Int
 | c,[],_ => [c]
 | c,x :: xs,ys => ((c + x + ys.headD 0) % 1048576) :: addC ((c + x + ys.headD 0) / 1048576) xs ys.tail
theorem lZ (ys : List Int) : val ys = ys.headD 0 + 1048576 * val ys.tail :=by cases ys <;> rfl
theorem l4 {ys : List Int} (h : okD ys) : 0 ≤ ys.headD 0 ∧ ys.headD 0 < 1048576 :=by
 cases ys with
 | nil => decide
 | cons y ys => exact (aN.1 h).1
theorem iR {ys : List Int} (h : okD ys) : okD ys.tail :=fun d hd => h d (List.mem_of_mem_tail hd)
theorem wB : ∀ (c : Int) (a b : List Int),(addC c a b).length = a.length + 1
 | c,[],b => rfl
 | c,x :: xs,b => by simp [addC,wB]
theorem pB : ∀ (c : Int) (a b : List Int),b.length ≤ a.length → val (addC c a b) = c + val a + val b
 | c,[],b,h => by
   have : b = [] :=by simpa using h
   subst this; simp [addC,val]
 | c,x :: xs,b,h => by
   have :=pB ((c + x + b.headD 0) / 1048576) xs b.tail (by simp at h ⊢; omega)
   have hb :=lZ b
   simp only [addC,val,this]
   omega
theorem A6 : ∀ (c : Int) (a b : List Int),(0 ≤ c ∧ c ≤ 1) → okD a → okD b → okD (addC c a b)
 | c,[],b,hc,_,_ => by simp [addC,okD]; omega
 | c,x :: xs,b,hc,ha,hb => by
   rw [aN] at ha
   have h1 :=l4 hb
   simp only [addC,aN]
   exact ⟨by omega,A6 _ _ _ (by omega) ha.2 (iR hb)⟩
def subC : Int → List Int → List Int → List Int
 | _,[],_ => []
 | c,x :: xs,ys => if c + ys.headD 0 ≤ x then (x - (c + ys.headD 0)) :: subC 0 xs ys.tail else (x + 1048576 - (c + ys.headD 0)) :: subC 1 xs ys.tail
theorem wC : ∀ (c : Int) (a b : List Int),(subC c a b).length = a.length
 | c,[],b => rfl
 | c,x :: xs,b => by simp only [subC]; split <;> simp [wC]
theorem pC : ∀ (c : Int) (a b : List Int),(0 ≤ c ∧ c ≤ 1) → okD a → okD b → c + val b ≤ val a → val (subC c a b) + c + val b = val a
 | c,[],b,hc,_,hb,h => by
   have :=aM hb
   simp only [val,subC] at h ⊢; omega
 | c,x :: xs,b,hc,ha,hb,h => by
   rw [aN] at ha
   have h1 :=l4 hb
   have h2 :=lZ b
   simp only [val] at h
   simp only [subC]
   split
   · have :=pC 0 xs b.tail (by omega) ha.2 (iR hb) (by omega)
     simp only [val]; omega
   · have :=pC 1 xs b.tail (by omega) ha.2 (iR hb) (by omega)
     simp only [val]; omega
theorem tT : ∀ (c : Int) (a b : List Int),(0 ≤ c ∧ c ≤ 1) → okD a → okD b → okD (subC c a b)
 | c,[],b,_,_,_ => cJ
 | c,x :: xs,b,hc,ha,hb => by
   rw [aN] at ha
   have h1 :=l4 hb
   simp only [subC]
   split
   · rw [aN]; exact ⟨by omega,tT 0 _ _ (by omega) ha.2 (iR hb)⟩
   · rw [aN]; exact ⟨by omega,tT 1 _ _ (by omega) ha.2 (iR hb)⟩
def amC (x : Int) : Int → List Int → List Int → List Int
 | _,_,[] => []
 | c,[],o :: os => (o + c) :: os
 | c,y :: ys,o :: os => ((o + x * y + c) % 1048576) :: amC x ((o + x * y + c) / 1048576) ys os
theorem jP (x : Int) : ∀ (c : Int) (ys os : List Int),(amC x c ys os).length = os.length
 | _,_,[] => by simp [amC]
 | c,[],o :: os => rfl
 | c,y :: ys,o :: os => by simp [amC,jP]
theorem A7 (x : Int) : ∀ (c : Int) (ys os : List Int),ys.length < os.length → val (amC x c ys os) = val os + x * val ys + c
 | _,_,[],h => by simp at h
 | c,[],o :: os,_ => by simp only [amC,val]; omega
 | c,y :: ys,o :: os,h => by
   have :=A7 x ((o + x * y + c) / 1048576) ys os (by simpa using h)
   simp only [amC,val,this,Int.mul_add]
   rw [show x * (1048576 * val ys) = 1048576 * (x * val ys) by rw [Int.mul_left_comm]]
   generalize x * val ys = p
   generalize x * y = q
   omega
theorem kH {x y : Int} (hx : 0 ≤ x ∧ x < 1048576) (hy : 0 ≤ y ∧ y < 1048576) : 0 ≤ x * y ∧ x * y ≤ 1099509530625 :=by
 refine ⟨Int.mul_nonneg hx.1 hy.1,?_⟩
 have h1 : x * y ≤ 1048575 * y :=Int.mul_le_mul_of_nonneg_right (by omega) hy.1
 omega
theorem tU (x : Int) (hx : 0 ≤ x ∧ x < 1048576) : ∀ (c : Int) (ys os : List Int),(0 ≤ c ∧ c < 1048576) → okD ys → okD os → (∀ j (hj : j < os.length),ys.length ≤ j → os[j] = 0) → okD (amC x c ys os) ∧ ∀ j (hj : j < (amC x c ys os).length),ys.length + 1 ≤ j → (amC x c ys os)[j] = 0
 | _,_,[],_,_,_,_ => ⟨by simp [amC,okD],fun j hj => by simp [amC] at hj⟩
 | c,[],o :: os,hc,_,ho,hz => by
   have h0 : o = 0 :=hz 0 (by simp) (by simp)
   subst h0
   rw [aN] at ho
   refine ⟨by simp only [amC,aN]; exact ⟨by omega,ho.2⟩,fun j hj h => ?_⟩
   obtain ⟨k,rfl⟩ : ∃ k,j = k + 1 :=⟨j - 1,by simp at h; omega⟩
   simp only [amC,List.length_cons,Nat.add_lt_add_iff_right] at hj
   exact hz (k + 1) (by simpa using hj) (by simp)
 | c,y :: ys,o :: os,hc,hy,ho,hz => by
   rw [aN] at hy ho
   have hb :=kH hx hy.1
   obtain ⟨h1,h2⟩ :=tU x hx ((o + x * y + c) / 1048576) ys os (by omega) hy.2 ho.2 (fun j hj h => by have :=hz (j + 1) (by simpa using hj) (by simp; omega); simpa using this)
   refine ⟨by simp only [amC,aN]; exact ⟨by omega,h1⟩,fun j hj h => ?_⟩
   obtain ⟨k,rfl⟩ : ∃ k,j = k + 1 :=⟨j - 1,by simp at h; omega⟩
   simp only [amC,List.length_cons,Nat.add_lt_add_iff_right] at hj
   simpa [amC] using h2 k hj (by simp at h; omega)
def mrC (b : List Int) : List Int → List Int → List Int
 | [],acc => acc
 | x :: xs,acc => match amC x 0 b acc with
   | [] => []
   | t :: ts => t :: mrC b xs ts
theorem iS (b : List Int) (hb : okD b) : ∀ (a acc : List Int),okD a → okD acc → acc.length = a.length + b.length → (∀ j (hj : j < acc.length),b.length ≤ j → acc[j] = 0) →
  val (mrC b a acc) = val acc + val a * val b ∧ okD (mrC b a acc) ∧ (mrC b a acc).length = acc.length
 | [],acc,_,hacc,_,_ => by simp [mrC,val,hacc]
 | x :: xs,acc,ha,hacc,hl,hz => by
   rw [aN] at ha
   simp only [List.length_cons] at hl
   obtain ⟨h1,h2⟩ :=tU x ha.1 0 b acc (by decide) hb hacc hz
   have h3 :=jP x 0 b acc
   have h4 :=A7 x 0 b acc (by omega)
   simp only [mrC]
   cases ht : amC x 0 b acc with
   | nil => rw [ht] at h3; simp at h3; omega
   | cons t ts =>
     rw [ht] at h1 h2 h3 h4
     rw [aN] at h1
     simp only [List.length_cons] at h3
     obtain ⟨q1,q2,q3⟩ :=iS b hb xs ts ha.2 h1.2 (by omega) (fun j hj h => by have :=h2 (j + 1) (by simpa using hj) (by omega); simpa using this)
     simp only []
     refine ⟨?_,aN.2 ⟨h1.1,q2⟩,by simp only [List.length_cons]; omega⟩
     simp only [val] at h4 ⊢
     rw [q1,Int.mul_add,Int.add_mul,Int.mul_assoc]
     generalize val xs * val b = p at *
     generalize x * val b = q at *
     omega
def shC (d : Int) : List Int → List Int × Int
 | [] => ([],0)
 | x :: xs => (((shC d xs).2 * 1048576 + x) / d :: (shC d xs).1,((shC d xs).2 * 1048576 + x) % d)
theorem A8 (d : Int) : ∀ l,(shC d l).1.length = l.length
 | [] => rfl
 | x :: xs => by simp [shC,A8]
theorem nQ {d : Int} (hd : 0 < d) : ∀ l,val (shC d l).1 * d + (shC d l).2 = val l ∧ 0 ≤ (shC d l).2 ∧ (shC d l).2 < d
 | [] => by simp [shC,val,hd]
 | x :: xs => by
   obtain ⟨h1,h2⟩ :=nQ hd xs
   refine ⟨?_,Int.emod_nonneg _ (by omega),Int.emod_lt_of_pos _ hd⟩
   simp only [shC,val,← h1,Int.add_mul]
   have :=Int.mul_ediv_add_emod ((shC d xs).2 * 1048576 + x) d
   rw [Int.mul_comm] at this
   rw [Int.mul_add,Int.mul_assoc]
   generalize val (shC d xs).1 * d = p at *
   omega
theorem yL {d : Int} (hd : 0 < d) : ∀ l,okD l → okD (shC d l).1
 | [],_ => cJ
 | x :: xs,h => by
   rw [aN] at h
   obtain ⟨_,h2,h3⟩ :=nQ hd xs
   simp only [shC,aN]
   refine ⟨⟨Int.ediv_nonneg (by omega) (by omega),?_⟩,yL hd xs h.2⟩
   rw [Int.ediv_lt_iff_lt_mul hd]
   omega
theorem HC {d : Int} (hd : 0 < d) (l : List Int) : val (shC d l).1 = val l / d ∧ (shC d l).2 = val l % d :=by
 obtain ⟨h1,h2⟩ :=nQ hd l
 have h3 : val l = (shC d l).2 + val (shC d l).1 * d :=by omega
 rw [h3,Int.add_mul_ediv_right _ _ (by omega),Int.add_mul_emod_self_right,Int.ediv_eq_zero_of_lt h2.1 h2.2,Int.emod_eq_of_lt h2.1 h2.2]
 exact ⟨by omega,rfl⟩
theorem rQ {a b : List Int} (ha : okD a) (hb : okD b) {i : Nat} (h1 : i < a.length) (h2 : i < b.length) (h : a[i] < b[i]) (hd : a.drop (i + 1) = b.drop (i + 1)) : val a < val b :=by
 induction i generalizing a b with
 | zero =>
   match a,b with
   | x :: xs,y :: ys =>
     simp only [List.getElem_cons_zero,List.drop_succ_cons,List.drop_zero] at h hd
     subst hd
     simp only [val]; omega
 | succ i ih =>
   match a,b with
   | x :: xs,y :: ys =>
     rw [aN] at ha hb
     have :=ih ha.2 hb.2 (by simpa using h1) (by simpa using h2) (by simpa using h) (by simpa using hd)
     simp only [val]; omega
end Go.Proofs.YtknbcehhjffndaaGreat

namespace Go.Proofs.YtknbcehhjffndaaGreat
open Go.RowKit Go.Ab
abbrev ii (n : Int) : AV :=.v (.int .i64 n)
abbrev uu (n : Int) : AV :=.v (.int .u64 n)
abbrev bb (b : Bool) : AV :=.v (.bool b)
abbrev il (l : List Int) : AV :=.sl (l.map ii)
theorem a7 : Tryz.prog.follows .mixedOrders = true :=by kernel_rfl
@[go_sem] theorem eM {L : List Int} {k : Nat} (h : k < L.length) : nth (L.map ii) k = ii L[k] :=eC ii h
@[go_sem] theorem ND (a b : Int) : (a == b) = decide (a = b) :=by rw [Bool.eq_iff_iff]; simp
@[go_sem] theorem bneI (a b : Int) : (a != b) = !decide (a = b) :=by rw [bne,ND]
@[go_sem] theorem beqB (a b : Bool) : (a == b) = decide (a = b) :=by cases a <;> cases b <;> rfl
@[go_sem] theorem wm1 : IntKind.i64.wrap (-1) = -1 :=by decide
@[go_sem] theorem nth_nil (n : Nat) : nth [] n = .bad :=rfl
theorem wD (n : Nat) : n &&& 1048575 = n % 1048576 :=Nat.and_two_pow_sub_one_eq_mod n 20
theorem HD (n : Nat) : n &&& 1 = n % 2 :=Nat.and_two_pow_sub_one_eq_mod n 1
@[go_sem] theorem and_mask (x : Int) : andI .i64 x 1048575 = x % 1048576 :=by
  unfold andI
  rw [BitVec.toNat_and,BitVec.toNat_ofInt,BitVec.toNat_ofInt]
  show IntKind.i64.wrap (((x % (2 ^ 64 : Nat)).toNat &&& ((1048575 : Int) % (2 ^ 64 : Nat)).toNat : Nat) : Int) = _
  rw [show ((1048575 : Int) % (2 ^ 64 : Nat)).toNat = 1048575 by decide,wD,IntWalk.i64_in _ (by omega)]
  omega
@[go_sem] theorem and_one (x : Int) : andI .i64 x 1 = x % 2 :=by
  unfold andI
  rw [BitVec.toNat_and,BitVec.toNat_ofInt,BitVec.toNat_ofInt]
  show IntKind.i64.wrap (((x % (2 ^ 64 : Nat)).toNat &&& ((1 : Int) % (2 ^ 64 : Nat)).toNat : Nat) : Int) = _
  rw [show ((1 : Int) % (2 ^ 64 : Nat)).toNat = 1 by decide,HD,IntWalk.i64_in _ (by omega)]
  omega
@[go_sem] theorem fdB (x : Int) : x.fdiv 1048576 = x / 1048576 :=Int.fdiv_eq_ediv_of_nonneg _ (by decide)
theorem yM {r a : Int} (h1 : 0 ≤ r) (h2 : r < 8796093022208) (h3 : 0 ≤ a) (h4 : a < 1048576) : orI .i64 (r * 1048576) a = r * 1048576 + a :=by
 obtain ⟨m,rfl⟩ :=Int.eq_ofNat_of_zero_le h1
 obtain ⟨n,rfl⟩ :=Int.eq_ofNat_of_zero_le h3
 unfold orI
 rw [BitVec.toNat_or,BitVec.toNat_ofInt,BitVec.toNat_ofInt]
 show IntKind.i64.wrap (((((m : Int) * 1048576) % (2 ^ 64 : Nat)).toNat ||| ((n : Int) % (2 ^ 64 : Nat)).toNat : Nat) : Int) = _
 rw [show (((m : Int) * 1048576) % (2 ^ 64 : Nat)).toNat = m <<< 20 by rw [Nat.shiftLeft_eq]; omega,show ((n : Int) % (2 ^ 64 : Nat)).toNat = n by omega,
  ← Nat.shiftLeft_add_eq_or_of_lt (by omega),Nat.shiftLeft_eq,IntWalk.i64_in _ (by omega)]
 omega
end Go.Proofs.YtknbcehhjffndaaGreat

namespace Go.Proofs.YtknbcehhjffndaaGreat
open Go.RowKit Go.Ab
attribute [local irreducible] AWP Go.Ab.Sub Means MeansH CallK CallG CallT CallGT
def zeroFrom (L : List Int) (n : Nat) : Prop :=∀ j (h : j < L.length),n ≤ j → L[j] = 0
theorem tV {L : List Int} {n : Nat} (h : zeroFrom L n) (hn : n - 1 < L.length) (h0 : L[n - 1] = 0) : zeroFrom L (n - 1) :=fun j hj hk => by
 by_cases e : j = n - 1
 · subst e; exact h0
 · exact h j hj (by omega)
theorem jQ {L : List Int} (ho : okD L) {n : Nat} (hn : n ≤ L.length) (h : zeroFrom L n) (h2 : n = 0 ∨ ∃ hp : n - 1 < L.length,L[n - 1] ≠ 0) : dg (val L) = L.take n :=
 tS ho hn h fun hp => by
  rcases h2 with h2 | ⟨_,h2⟩
  · omega
  · exact h2
theorem KI (L : List Int) (hl : L.length ≤ 100000) (ho : okD L) : Means false Tryz.prog 120 [il L] (il (dg (val L))) :=by
 refine aB false 21 [.tmp 2] Tryz.func120 rfl rfl rfl (by simp) (by decide) rfl fun X hX => ?_
 (repeat (refine a6 q15x7 hX a7 rfl ?_; (simp [go_sem])))
 refine aF (fun n : Nat => ⟨mkE [(0,il L),(3,ii n)],[]⟩) (fun n => n ≤ L.length ∧ zeroFrom L n) (fun n => n) L.length ?_ ?_ ?_
 · refine aA _ [] (by simp [go_sem]) ?_
   simp [go_sem]
 · exact ⟨Nat.le_refl _,fun j h h2 => by omega⟩
 · rintro n ⟨hn,hz⟩
   cases n with
   | zero =>
     have hz0 : il (dg (val L)) = il [] :=by rw [jQ ho hn hz (.inl rfl)]; rfl
     rw [hz0]
     clear ho hz hz0
     cases L with
     | nil =>
       (repeat (refine a6 q15x7 hX a7 rfl ?_; (simp [go_sem])))
       refine a8 (b :=false) (by simp [go_sem]) (fun hb => by cases hb) (fun _ => ?_)
       (repeat (refine a6 q15x7 hX a7 rfl ?_; (simp [go_sem])))
     | cons x xs =>
       (repeat (refine a6 q15x7 hX a7 rfl ?_; (simp [go_sem,iT])))
       refine a8 (b :=false) (by simp [go_sem]) (fun hb => by cases hb) (fun _ => ?_)
       (repeat (refine a6 q15x7 hX a7 rfl ?_; (simp [go_sem])))
       (repeat refine And.intro (by first | omega | (unfold maxLen; omega) | kernel_rfl | (refine ⟨by first | omega | (unfold maxLen; omega),by first | omega | (unfold maxLen; omega)⟩) | grind) ?_)
       (repeat (refine a6 q15x7 hX a7 rfl ?_; (simp [go_sem])))
   | succ n =>
     have h1 : n < L.length :=by omega
     (repeat (refine a6 q15x7 hX a7 rfl ?_; (simp [go_sem]; (try simp (disch :=omega) only [w64,td,tm]))))
     (repeat refine And.intro (by first | omega | (unfold maxLen; omega) | kernel_rfl | (refine ⟨by first | omega | (unfold maxLen; omega),by first | omega | (unfold maxLen; omega)⟩) | grind) ?_)
     try (simp [go_sem,h1])
     refine a8 (b :=decide (L[n] = 0)) (by simp [go_sem,h1]; try omega) (fun hb => ?_) (fun hb => ?_)
     · simp at hb
       (repeat (refine a6 q15x7 hX a7 rfl ?_; (simp [go_sem]; (try simp (disch :=omega) only [w64,td,tm]))))
       refine ⟨n,⟨by omega,tV hz h1 hb⟩,by omega,?_⟩
       refine aA _ [] (by simp [go_sem]) ?_
       simp [go_sem]
     · simp at hb
       (repeat (refine a6 q15x7 hX a7 rfl ?_; (simp [go_sem])))
       (repeat refine And.intro (by first | omega | (unfold maxLen; omega) | kernel_rfl | (refine ⟨by first | omega | (unfold maxLen; omega),by first | omega | (unfold maxLen; omega)⟩) | grind) ?_)
       (repeat (refine a6 q15x7 hX a7 rfl ?_; (simp [go_sem])))
       rw [jQ ho hn hz (.inr ⟨h1,hb⟩)]
       simp
theorem dM (L : List Int) (hl : L.length ≤ 100000) (ho : okD L) : MeansH Tryz.prog 120 [.row ⟨3,1,L.map ii⟩] [.ow 0] (.wn 0 1 0 (dg (val L)).length) [.row ⟨3,1,L.map ii⟩] :=by
 refine bI 1 21 [.tmp 2] Tryz.func120 rfl rfl rfl (by simp) (by decide) rfl fun X hX => ?_
 (repeat (refine aC q15x6 hX a7 rfl ?_; (simp [go_sem])))
 refine aF (fun n : Nat => ⟨mkE [(0,.ow 0),(3,ii n),(1000000,.ow 0)],[.row ⟨3,1,L.map ii⟩]⟩) (fun n => n ≤ L.length ∧ zeroFrom L n) (fun n => n) L.length ?_ ?_ ?_
 · refine aA _ [.old 0 ⟨3,1,L.map ii⟩] (by simp [go_sem]) ?_
   simp [go_sem]
 · exact ⟨Nat.le_refl _,fun j h h2 => by omega⟩
 · rintro n ⟨hn,hz⟩
   cases n with
   | zero =>
     have hz0 : (dg (val L)).length = 0 :=by rw [jQ ho hn hz (.inl rfl)]; rfl
     rw [hz0]
     clear ho hz hz0
     cases L with
     | nil =>
       (repeat (refine aC q15x6 hX a7 rfl ?_; (simp [go_sem])))
       refine a8 (b :=false) (by simp [go_sem]) (fun hb => by cases hb) (fun _ => ?_)
       (repeat (refine aC q15x6 hX a7 rfl ?_; (simp [go_sem])))
       refine b8 ?_; (try simp only [thenQ,blkQ,loopQ]); refine bH [(2,.wn 0 1 0 0),(1000000,.ow 0)] [.old 0 ⟨3,1,([] : List Int).map ii⟩] ?_
       simp [go_sem]
     | cons x xs =>
       (repeat (refine aC q15x6 hX a7 rfl ?_; (simp [go_sem,iT])))
       refine a8 (b :=false) (by simp [go_sem]) (fun hb => by cases hb) (fun _ => ?_)
       (repeat (refine aC q15x6 hX a7 rfl ?_; (simp [go_sem])))
       (repeat refine And.intro (by first | omega | (unfold maxLen; omega) | kernel_rfl | (refine ⟨by first | omega | (unfold maxLen; omega),by first | omega | (unfold maxLen; omega)⟩) | grind) ?_)
       (repeat (refine aC q15x6 hX a7 rfl ?_; (simp [go_sem])))
       refine b8 ?_; (try simp only [thenQ,blkQ,loopQ]); refine bH [(2,.wn 0 1 0 0),(1000000,.ow 0)] [.old 0 ⟨3,1,(x :: xs).map ii⟩] ?_
       simp [go_sem]
   | succ n =>
     have h1 : n < L.length :=by omega
     (repeat (refine aC q15x6 hX a7 rfl ?_; (simp [go_sem]; (try simp (disch :=omega) only [w64,td,tm]))))
     (repeat refine And.intro (by first | omega | (unfold maxLen; omega) | kernel_rfl | (refine ⟨by first | omega | (unfold maxLen; omega),by first | omega | (unfold maxLen; omega)⟩) | grind) ?_)
     try (simp [go_sem,h1])
     refine a8 (b :=decide (L[n] = 0)) (by simp [go_sem,h1]; try omega) (fun hb => ?_) (fun hb => ?_)
     · simp at hb
       (repeat (refine aC q15x6 hX a7 rfl ?_; (simp [go_sem]; (try simp (disch :=omega) only [w64,td,tm]))))
       refine ⟨n,⟨by omega,tV hz h1 hb⟩,by omega,?_⟩
       refine aA _ [.old 0 ⟨3,1,L.map ii⟩] (by simp [go_sem]) ?_
       simp [go_sem]
     · simp at hb
       have hd : (dg (val L)).length = n + 1 :=by rw [jQ ho hn hz (.inr ⟨h1,hb⟩),List.length_take]; omega
       rw [hd]
       (repeat (refine aC q15x6 hX a7 rfl ?_; (simp [go_sem])))
       (repeat refine And.intro (by first | omega | (unfold maxLen; omega) | kernel_rfl | (refine ⟨by first | omega | (unfold maxLen; omega),by first | omega | (unfold maxLen; omega)⟩) | grind) ?_)
       (repeat (refine aC q15x6 hX a7 rfl ?_; (simp [go_sem])))
       refine b8 ?_; (try simp only [thenQ,blkQ,loopQ]); refine bH [(2,.wn 0 1 0 (n + 1)),(1000000,.ow 0)] [.old 0 ⟨3,1,L.map ii⟩] ?_
       simp [go_sem]
theorem pD {L : List Int} (ho : okD L) : (L.map ii).take (dg (val L)).length = (dg (val L)).map ii :=by
 rw [← List.map_take,← (cY ho).1]
theorem A9 (L : List Int) (hl : L.length ≤ 100000) : MeansH Tryz.prog 21 [] [il L] (.ow 0) [.row ⟨3,1,L.map ii⟩] :=by
 refine bI 0 8 [.tmp 2] Tryz.func21 rfl rfl rfl (by simp) (by decide) rfl fun X hX => ?_
 (repeat (refine aC [0,2,4] hX a7 rfl ?_; (simp [go_sem])))
 refine ⟨?_,fun hL => ?_⟩
 · refine a8 (b :=false) (by simp [go_sem]) (fun hb => by cases hb) (fun _ => ?_)
   (repeat (refine aC [0,2,4] hX a7 rfl ?_; (simp [go_sem])))
   (repeat refine And.intro (by first | omega | (unfold maxLen; omega) | kernel_rfl | (refine ⟨by first | omega | (unfold maxLen; omega),by first | omega | (unfold maxLen; omega)⟩) | grind) ?_)
   (repeat (refine aC [0,2,4] hX a7 rfl ?_; (simp [go_sem])))
   refine b8 ?_; (try simp only [thenQ,blkQ,loopQ]); refine bH [(2,.ow 0)] [.old 1 ⟨3,1,L.map ii⟩] ?_
   simp [go_sem]
 · subst hL
   refine a8 (b :=true) (by simp [go_sem]) (fun _ => ?_) (fun hb => by cases hb)
   (repeat (refine aC [0,2,4] hX a7 rfl ?_; (simp [go_sem])))
   refine b8 ?_; (try simp only [thenQ,blkQ,loopQ]); refine bH [(2,.ow 0)] [.birth 3 1] ?_
   simp [go_sem]
theorem gZ (L : List Int) (hl : L.length ≤ 100000) : Means true Tryz.prog 21 [il L] (il L) :=by
 refine aB true 8 [.tmp 2] Tryz.func21 rfl rfl rfl (by simp) (by decide) rfl fun X hX => ?_
 (repeat (refine a6 [0,2,4] hX a7 rfl ?_; (simp [go_sem])))
 refine ⟨?_,fun hL => ?_⟩
 · refine a8 (b :=false) (by simp [go_sem]) (fun hb => by cases hb) (fun _ => ?_)
   (repeat (refine a6 [0,2,4] hX a7 rfl ?_; (simp [go_sem])))
   (repeat refine And.intro (by first | omega | (unfold maxLen; omega) | kernel_rfl | (refine ⟨by first | omega | (unfold maxLen; omega),by first | omega | (unfold maxLen; omega)⟩) | grind) ?_)
   (repeat (refine a6 [0,2,4] hX a7 rfl ?_; (simp [go_sem])))
 · subst hL
   refine a8 (b :=true) (by simp [go_sem]) (fun _ => ?_) (fun hb => by cases hb)
   (repeat (refine a6 [0,2,4] hX a7 rfl ?_; (simp [go_sem])))
set_option maxHeartbeats 1000000 in
set_option maxRecDepth 20000 in
theorem JL (a b : List Int) (ha : okD a) (hb : okD b) (hla : a.length ≤ 10000) (hlb : b.length ≤ 10000) : Means true Tryz.prog 99 [il a,il b] (il (dg (val a + val b))) :=by
 obtain ⟨A,C,hA,hC,hlA,hlC,hcase⟩ : ∃ A C : List Int,okD A ∧ okD C ∧ A.length ≤ 10000 ∧ C.length ≤ A.length ∧ ((a.length < b.length ∧ A = b ∧ C = a) ∨ (¬ a.length < b.length ∧ A = a ∧ C = b)) :=by
  by_cases h : a.length < b.length
  · exact ⟨b,a,hb,ha,hlb,by omega,.inl ⟨h,rfl,rfl⟩⟩
  · exact ⟨a,b,ha,hb,hla,by omega,.inr ⟨h,rfl,rfl⟩⟩
 have hv : val a + val b = val A + val C :=by rcases hcase with ⟨_,rfl,rfl⟩ | ⟨_,rfl,rfl⟩ <;> omega
 rw [hv]
 refine aB true 55 [.tmp 4] Tryz.func99 rfl rfl rfl (by simp) (by decide) rfl fun X hX => ?_
 (repeat (refine a6 q15x1 hX a7 rfl ?_; (simp [go_sem])))
 refine gS ⟨mkE [(0,il A),(1,il C)],[]⟩ ?_ ?_
 · refine a8 (b :=decide (a.length < b.length)) (by simp [go_sem]) (fun hd => ?_) (fun hd => ?_)
   · simp only [decide_eq_true_eq] at hd
     rcases hcase with ⟨_,rfl,rfl⟩ | ⟨h,_⟩
     · (repeat (refine a6 q15x1 hX a7 rfl ?_; (simp [go_sem])))
       refine aA _ [] (by simp [go_sem]) ?_
       simp [go_sem]
     · exact (h hd).elim
   · simp only [decide_eq_false_iff_not] at hd
     rcases hcase with ⟨h,_⟩ | ⟨_,rfl,rfl⟩
     · exact (hd h).elim
     · (repeat (refine a6 q15x1 hX a7 rfl ?_; (simp [go_sem])))
       refine aA _ [] (by simp [go_sem]) ?_
       simp [go_sem]
 · clear hcase ha hb hla hlb hv
   try (simp [go_sem])
   (repeat (refine a6 q15x1 hX a7 rfl ?_; (simp [go_sem]; (try simp (disch :=omega) only [w64,td,tm]))))
   (repeat refine And.intro (by first | omega | (unfold maxLen; omega) | kernel_rfl | (refine ⟨by first | omega | (unfold maxLen; omega),by first | omega | (unfold maxLen; omega)⟩) | grind) ?_)
   (repeat (refine a6 q15x1 hX a7 rfl ?_; (simp [go_sem]; (try simp (disch :=omega) only [w64,td,tm]))))
   have hrl : ((A.length : Int) + 1).toNat = A.length + 1 :=by omega
   refine aF (fun x : Nat × List Int × Int => ⟨mkE [(0,il A),(1,il C),(5,.ow 0),(6,ii x.2.2),(20,il A),(21,ii A.length),(22,ii x.1)],[.row ⟨3,1,x.2.1.map ii⟩]⟩)
    (fun x => x.1 ≤ A.length ∧ x.2.1.length = A.length + 1 ∧ (0 ≤ x.2.2 ∧ x.2.2 ≤ 1) ∧ addC 0 A C = x.2.1.take x.1 ++ addC x.2.2 (A.drop x.1) (C.drop x.1)) (fun x => A.length - x.1) (0,List.replicate (A.length + 1) 0,0) ?_ ?_ ?_
   · refine aA _ [.old 0 ⟨3,1,(List.replicate (A.length + 1) (0 : Int)).map ii⟩] (by simp [go_sem,hrl]) ?_
     simp [go_sem]
   · simp
   · rintro ⟨i,T,c⟩ ⟨hi,hT,hc,hE⟩
     simp only [] at hi hT hc hE
     (repeat (refine a6 q15x1 hX a7 rfl ?_; (simp [go_sem])))
     refine a8 (b :=decide (i < A.length)) (by simp [go_sem]) (fun hd => ?_) (fun hd => ?_)
     · simp at hd
       have hx :=b5 hA hd
       have hiT : i < T.length :=by omega
       rw [List.drop_eq_getElem_cons hd,addC] at hE
       (repeat (refine a6 q15x1 hX a7 rfl ?_; (simp [go_sem,hd]; (try simp (disch :=omega) only [w64,td,tm]))))
       by_cases hiC : i < C.length
       · have hy :=b5 hC hiC
         rw [List.drop_eq_getElem_cons hiC] at hE
         simp only [List.headD_cons,List.tail_cons] at hE
         refine a8 (b :=true) (by simp [go_sem,hiC]) (fun _ => ?_) (fun h => by cases h)
         (repeat (refine a6 q15x1 hX a7 rfl ?_; (simp [go_sem,hiC,hiT]; (try simp (disch :=omega) only [w64,td,tm]))))
         (repeat refine And.intro (by first | omega | (unfold maxLen; omega) | kernel_rfl | (refine ⟨by first | omega | (unfold maxLen; omega),by first | omega | (unfold maxLen; omega)⟩) | grind) ?_)
         (repeat (refine a6 q15x1 hX a7 rfl ?_; (simp [go_sem]; (try simp (disch :=omega) only [w64,td,tm]))))
         refine ⟨i + 1,T.set i ((c + A[i] + C[i]) % 1048576),(c + A[i] + C[i]) / 1048576,⟨by omega,by simpa using hT,by omega,?_⟩,by omega,?_⟩
         · rw [eI hiT,hE]; simp
         · refine aA _ [.old 0 ⟨3,1,(T.set i ((c + A[i] + C[i]) % 1048576)).map ii⟩] (by simp [go_sem]) ?_
           simp [go_sem]
       · have e : C.drop i = [] :=List.drop_of_length_le (by omega)
         have e2 : C.drop (i + 1) = [] :=List.drop_of_length_le (by omega)
         rw [e] at hE
         simp only [List.headD_nil,List.tail_nil,Int.add_zero] at hE
         refine a8 (b :=false) (by simp [go_sem]; omega) (fun h => by cases h) (fun _ => ?_)
         (repeat (refine a6 q15x1 hX a7 rfl ?_; (simp [go_sem,hiT]; (try simp (disch :=omega) only [w64,td,tm]))))
         (repeat refine And.intro (by first | omega | (unfold maxLen; omega) | kernel_rfl | (refine ⟨by first | omega | (unfold maxLen; omega),by first | omega | (unfold maxLen; omega)⟩) | grind) ?_)
         (repeat (refine a6 q15x1 hX a7 rfl ?_; (simp [go_sem]; (try simp (disch :=omega) only [w64,td,tm]))))
         refine ⟨i + 1,T.set i ((c + A[i]) % 1048576),(c + A[i]) / 1048576,⟨by omega,by simpa using hT,by omega,?_⟩,by omega,?_⟩
         · rw [eI hiT,hE,e2]; simp
         · refine aA _ [.old 0 ⟨3,1,(T.set i ((c + A[i]) % 1048576)).map ii⟩] (by simp [go_sem]) ?_
           simp [go_sem]
     · have hil : i = A.length :=by simp at hd; omega
       subst hil
       rw [List.drop_length,addC] at hE
       have hTs : T.set A.length c = addC 0 A C :=by
        rw [hE]
        have h1 :=eI (l :=T) (i :=A.length) (by omega) c
        rwa [List.take_of_length_le (by simp; omega)] at h1
       have hok :=A6 0 A C (by decide) hA hC
       have hlen :=wB 0 A C
       have hval :=pB 0 A C hlC
       rw [Int.zero_add] at hval
       have hTm : (T.map ii).set A.length (ii c) = (addC 0 A C).map ii :=by rw [← hTs,List.map_set]
       have hiT : A.length < T.length :=by omega
       have hdt : (dg (val (addC 0 A C))).length ≤ A.length + 1 :=by have :=(cY hok).2; omega
       (repeat (refine a6 q15x1 hX a7 rfl ?_; (simp [go_sem,hiT]; (try simp (disch :=omega) only [w64,td,tm]))))
       try (simp [go_sem,hTm])
       refine aG [0] (dM (addC 0 A C) (by omega) hok) (by simp [go_sem]) ?_
       try (simp [go_sem,hlen,hdt])
       (repeat (refine a6 q15x1 hX a7 rfl ?_; (simp [go_sem,hlen,hdt])))
       rw [pD hok,hval]
end Go.Proofs.YtknbcehhjffndaaGreat

namespace Go.Proofs.YtknbcehhjffndaaGreat
open Go.RowKit Go.Ab
attribute [local irreducible] AWP Go.Ab.Sub Means MeansH CallK CallG CallT CallGT
theorem AA (x : Int) : Means false Tryz.prog 122 [ii x] (bb false) :=by
 refine aB false 6 [.tmp 2] Tryz.func122 rfl rfl rfl (by simp) (by decide) rfl fun X hX => ?_
 (repeat (refine a6 [0,2] hX a7 rfl ?_; (simp [go_sem])))
def cmpI (x y : Int) : Int :=if x < y then -1 else if y < x then 1 else 0
theorem rS (x y : Int) : Means false Tryz.prog 101 [ii x,ii y] (ii (cmpI x y)) :=by
 refine aB false 20 [.tmp 4] Tryz.func101 rfl rfl rfl (by simp) (by decide) rfl fun X hX => ?_
 (repeat (refine a6 q15x3 hX a7 rfl ?_; (simp [go_sem])))
 refine a9 (AA x) ?_
 try (simp [go_sem])
 (repeat (refine a6 q15x3 hX a7 rfl ?_; (simp [go_sem])))
 refine a9 (AA y) ?_
 try (simp [go_sem])
 (repeat (refine a6 q15x3 hX a7 rfl ?_; (simp [go_sem])))
 refine a8 (b :=false) (by simp [go_sem]) (fun hb => by cases hb) (fun _ => ?_)
 (repeat (refine a6 q15x3 hX a7 rfl ?_; (simp [go_sem])))
 refine a8 (b :=false) (by simp [go_sem]) (fun hb => by cases hb) (fun _ => ?_)
 (repeat (refine a6 q15x3 hX a7 rfl ?_; (simp [go_sem])))
 refine a8 (b :=decide (x < y)) (by simp [go_sem]) (fun hb => ?_) (fun hb => ?_)
 · simp at hb
   (repeat (refine a6 q15x3 hX a7 rfl ?_; (simp [go_sem])))
   simp [cmpI,hb]
 · simp at hb
   (repeat (refine a6 q15x3 hX a7 rfl ?_; (simp [go_sem])))
   refine a8 (b :=decide (y < x)) (by simp [go_sem]) (fun hc => ?_) (fun hc => ?_)
   · simp at hc
     (repeat (refine a6 q15x3 hX a7 rfl ?_; (simp [go_sem])))
     rw [cmpI,if_neg (by omega),if_pos hc]
   · simp at hc
     (repeat (refine a6 q15x3 hX a7 rfl ?_; (simp [go_sem])))
     rw [cmpI,if_neg (by omega),if_neg (by omega)]
theorem tW {x y a b : Int} (h1 : x < y ↔ a < b) (h2 : y < x ↔ b < a) : cmpI x y = cmpI a b :=by
 unfold cmpI; simp only [h1,h2]
theorem jR (a b : List Int) (hla : a.length ≤ 10000) (hlb : b.length ≤ 10000) (ha : okD a) (hb : okD b) (ta : dg (val a) = a) (tb : dg (val b) = b) : Means false Tryz.prog 102 [il a,il b] (ii (cmpI (val a) (val b))) :=by
 refine aB false 41 [.tmp 4] Tryz.func102 rfl rfl rfl (by simp) (by decide) rfl fun X hX => ?_
 (repeat (refine a6 q15x4 hX a7 rfl ?_; (simp [go_sem]; try (refine ⟨by kernel_rfl,?_⟩))))
 refine a8 (b :=decide (a.length ≠ b.length)) (by simp [go_sem]; try omega) (fun hd => ?_) (fun hd => ?_)
 · simp at hd
   have e : cmpI a.length b.length = cmpI (val a) (val b) :=by
    refine tW ?_ ?_
    · constructor
      · intro h
        have :=fun h2 => aV (a :=val b) (b :=val a) h2
        rw [ta,tb] at this
        omega
      · intro h
        have :=aV (a :=val a) (b :=val b) (by omega)
        rw [ta,tb] at this
        omega
    · constructor
      · intro h
        have :=fun h2 => aV (a :=val a) (b :=val b) h2
        rw [ta,tb] at this
        omega
      · intro h
        have :=aV (a :=val b) (b :=val a) (by omega)
        rw [ta,tb] at this
        omega
   (repeat (refine a6 q15x4 hX a7 rfl ?_; (simp [go_sem]; try (refine ⟨by kernel_rfl,?_⟩))))
   first | refine a9 (rS a.length b.length) ?_ | refine aE (rS a.length b.length) ?_
   try (simp [go_sem]; try (refine ⟨by kernel_rfl,?_⟩))
   (repeat (refine a6 q15x4 hX a7 rfl ?_; (simp [go_sem]; try (refine ⟨by kernel_rfl,?_⟩))))
   rw [e]
 · simp at hd
   (repeat (refine a6 q15x4 hX a7 rfl ?_; (simp [go_sem]; (try simp (disch :=omega) only [w64,td,tm]); try (refine ⟨by kernel_rfl,?_⟩))))
   refine aF (fun n : Nat => ⟨mkE [(0,il a),(1,il b),(5,ii ((n : Int) - 1))],[]⟩) (fun n => n ≤ a.length ∧ a.drop n = b.drop n) (fun n => n) a.length ?_ ?_ ?_
   · refine aA _ [] (by simp [go_sem]) ?_
     simp [go_sem]
   · refine ⟨Nat.le_refl _,?_⟩
     rw [List.drop_length,hd,List.drop_length]
   · rintro n ⟨hn,he⟩
     cases n with
     | zero =>
       (repeat (refine a6 q15x4 hX a7 rfl ?_; (simp [go_sem]; try (refine ⟨by kernel_rfl,?_⟩))))
       refine a8 (b :=false) (by simp [go_sem]) (fun hb => by cases hb) (fun _ => ?_)
       (repeat (refine a6 q15x4 hX a7 rfl ?_; (simp [go_sem]; try (refine ⟨by kernel_rfl,?_⟩))))
       simp only [List.drop_zero] at he
       subst he
       rw [cmpI,if_neg (by omega),if_neg (by omega)]
     | succ n =>
       have h1 : n < a.length :=by omega
       have h2 : n < b.length :=by omega
       (repeat (refine a6 q15x4 hX a7 rfl ?_; (simp [go_sem]; (try simp (disch :=omega) only [w64,td,tm]); try (refine ⟨by kernel_rfl,?_⟩))))
       refine a8 (b :=true) (by simp [go_sem]; try omega) (fun _ => ?_) (fun hb => by cases hb)
       (repeat (refine a6 q15x4 hX a7 rfl ?_; (simp [go_sem,h1,h2]; (try simp (disch :=omega) only [w64,td,tm]); try (refine ⟨by kernel_rfl,?_⟩))))
       (repeat refine And.intro (by first | omega | (unfold maxLen; omega) | kernel_rfl | (refine ⟨by first | omega | (unfold maxLen; omega),by first | omega | (unfold maxLen; omega)⟩) | grind) ?_)
       try (simp [go_sem,h1,h2]; try (refine ⟨by kernel_rfl,?_⟩))
       refine a8 (b :=decide (a[n] ≠ b[n])) (by simp [go_sem,h1,h2]; try omega) (fun hc => ?_) (fun hc => ?_)
       · simp at hc
         have e : cmpI a[n] b[n] = cmpI (val a) (val b) :=by
          by_cases hlt : a[n] < b[n]
          · have :=rQ ha hb h1 h2 hlt he
            rw [cmpI,cmpI,if_pos hlt,if_pos this]
          · have hgt : b[n] < a[n] :=by omega
            have :=rQ hb ha h2 h1 hgt he.symm
            rw [cmpI,cmpI,if_neg hlt,if_pos hgt,if_neg (by omega),if_pos this]
         (repeat (refine a6 q15x4 hX a7 rfl ?_; (simp [go_sem,h1,h2]; (try simp (disch :=omega) only [w64,td,tm]); try (refine ⟨by kernel_rfl,?_⟩))))
         (repeat refine And.intro (by first | omega | (unfold maxLen; omega) | kernel_rfl | (refine ⟨by first | omega | (unfold maxLen; omega),by first | omega | (unfold maxLen; omega)⟩) | grind) ?_)
         try (simp [go_sem,h1,h2]; try (refine ⟨by kernel_rfl,?_⟩))
         first | refine a9 (rS a[n] b[n]) ?_ | refine aE (rS a[n] b[n]) ?_
         try (simp [go_sem]; try (refine ⟨by kernel_rfl,?_⟩))
         (repeat refine And.intro (by first | omega | (unfold maxLen; omega) | kernel_rfl | (refine ⟨by first | omega | (unfold maxLen; omega),by first | omega | (unfold maxLen; omega)⟩) | grind) ?_)
         (repeat (refine a6 q15x4 hX a7 rfl ?_; (simp [go_sem]; try (refine ⟨by kernel_rfl,?_⟩))))
         rw [e]
       · simp at hc
         (repeat (refine a6 q15x4 hX a7 rfl ?_; (simp [go_sem]; (try simp (disch :=omega) only [w64,td,tm]); try (refine ⟨by kernel_rfl,?_⟩))))
         refine ⟨n,⟨by omega,?_⟩,by omega,?_⟩
         · rw [List.drop_eq_getElem_cons h1,List.drop_eq_getElem_cons h2,he,hc]
         · refine aA _ [] (by simp [go_sem]) ?_
           simp [go_sem]
theorem C0 {c x : Int} {xs ys : List Int} (hc : 0 ≤ c ∧ c ≤ 1) (hx : 0 ≤ x ∧ x < 1048576) (hy : 0 ≤ ys.headD 0 ∧ ys.headD 0 < 1048576) :
  subC c (x :: xs) ys = ((x - c - ys.headD 0) % 1048576) :: subC ((x - c - ys.headD 0) / 1048576 % 2) xs ys.tail :=by
 simp only [subC]
 split
 · rw [show (x - c - ys.headD 0) / 1048576 % 2 = 0 by omega,show (x - c - ys.headD 0) % 1048576 = x - (c + ys.headD 0) by omega]
 · rw [show (x - c - ys.headD 0) / 1048576 % 2 = 1 by omega,show (x - c - ys.headD 0) % 1048576 = x + 1048576 - (c + ys.headD 0) by omega]
theorem bX {T : List Int} {i : Nat} (x : Int) : (T.set i x).drop (i + 1) = T.drop (i + 1) :=by
 rw [List.drop_set_of_lt (by omega)]
set_option maxHeartbeats 1000000 in
set_option maxRecDepth 20000 in
theorem EE (a b : List Int) (ha : okD a) (hb : okD b) (hla : a.length ≤ 10000) (hlb : b.length ≤ 10000) (hle : val b ≤ val a) : Means true Tryz.prog 100 [il a,il b] (il (dg (val a - val b))) :=by
 refine aB true 43 [.tmp 4] Tryz.func100 rfl rfl rfl (by simp) (by decide) rfl fun X hX => ?_
 (repeat (refine a6 q15x2 hX a7 rfl ?_; (simp [go_sem])))
 refine aG [] (A9 a (by omega)) (by simp [go_sem]) ?_
 try (simp [go_sem])
 (repeat (refine a6 q15x2 hX a7 rfl ?_; (simp [go_sem]; (try simp (disch :=omega) only [w64,td,tm]))))
 refine aF (fun x : Nat × List Int × Int => ⟨mkE [(0,il a),(1,il b),(5,.ow 0),(6,ii x.2.2),(12,ii a.length),(13,ii x.1)],[.row ⟨3,1,x.2.1.map ii⟩]⟩)
  (fun x => x.1 ≤ a.length ∧ x.2.1.length = a.length ∧ (0 ≤ x.2.2 ∧ x.2.2 ≤ 1) ∧ x.2.1.drop x.1 = a.drop x.1 ∧ subC 0 a b = x.2.1.take x.1 ++ subC x.2.2 (a.drop x.1) (b.drop x.1)) (fun x => a.length - x.1) (0,a,0) ?_ ?_ ?_
 · refine aA _ [.old 0 ⟨3,1,a.map ii⟩] (by simp [go_sem]) ?_
   simp [go_sem]
 · simp
 · rintro ⟨i,T,c⟩ ⟨hi,hT,hc,hD,hE⟩
   simp only [] at hi hT hc hD hE
   (repeat (refine a6 q15x2 hX a7 rfl ?_; (simp [go_sem])))
   refine a8 (b :=decide (i < a.length)) (by simp [go_sem]) (fun hd => ?_) (fun hd => ?_)
   · simp at hd
     have hx :=b5 ha hd
     have hiT : i < T.length :=by omega
     have hTi : T[i] = a[i] :=by
      rw [List.drop_eq_getElem_cons hd,List.drop_eq_getElem_cons hiT] at hD
      exact (List.cons.inj hD).1
     have hD' : T.drop (i + 1) = a.drop (i + 1) :=by
      rw [List.drop_eq_getElem_cons hd,List.drop_eq_getElem_cons hiT] at hD
      exact (List.cons.inj hD).2
     rw [List.drop_eq_getElem_cons hd,C0 hc hx (l4 (bM hb i))] at hE
     (repeat (refine a6 q15x2 hX a7 rfl ?_; (simp [go_sem,hd,hiT,hTi]; (try simp (disch :=omega) only [w64,td,tm]))))
     by_cases hiC : i < b.length
     · have hy :=b5 hb hiC
       rw [List.drop_eq_getElem_cons hiC] at hE
       simp only [List.headD_cons,List.tail_cons] at hE
       refine a8 (b :=true) (by simp [go_sem,hiC]) (fun _ => ?_) (fun h => by cases h)
       (repeat (refine a6 q15x2 hX a7 rfl ?_; (simp [go_sem,hiC,hiT]; (try simp (disch :=omega) only [w64,td,tm]))))
       (repeat refine And.intro (by first | omega | (unfold maxLen; omega) | kernel_rfl | (refine ⟨by first | omega | (unfold maxLen; omega),by first | omega | (unfold maxLen; omega)⟩) | grind) ?_)
       (repeat (refine a6 q15x2 hX a7 rfl ?_; (simp [go_sem]; (try simp (disch :=omega) only [w64,td,tm]))))
       refine ⟨i + 1,T.set i ((a[i] - c - b[i]) % 1048576),(a[i] - c - b[i]) / 1048576 % 2,⟨by omega,by simpa using hT,by omega,?_,?_⟩,by omega,?_⟩
       · rw [bX,hD']
       · rw [eI hiT,hE]; simp
       · refine aA _ [.old 0 ⟨3,1,(T.set i ((a[i] - c - b[i]) % 1048576)).map ii⟩] (by simp [go_sem]) ?_
         simp [go_sem]
     · have e : b.drop i = [] :=List.drop_of_length_le (by omega)
       have e2 : b.drop (i + 1) = [] :=List.drop_of_length_le (by omega)
       rw [e] at hE
       simp only [List.headD_nil,List.tail_nil,Int.sub_zero] at hE
       refine a8 (b :=false) (by simp [go_sem]; omega) (fun h => by cases h) (fun _ => ?_)
       (repeat (refine a6 q15x2 hX a7 rfl ?_; (simp [go_sem,hiT]; (try simp (disch :=omega) only [w64,td,tm]))))
       (repeat refine And.intro (by first | omega | (unfold maxLen; omega) | kernel_rfl | (refine ⟨by first | omega | (unfold maxLen; omega),by first | omega | (unfold maxLen; omega)⟩) | grind) ?_)
       (repeat (refine a6 q15x2 hX a7 rfl ?_; (simp [go_sem]; (try simp (disch :=omega) only [w64,td,tm]))))
       refine ⟨i + 1,T.set i ((a[i] - c) % 1048576),(a[i] - c) / 1048576 % 2,⟨by omega,by simpa using hT,by omega,?_,?_⟩,by omega,?_⟩
       · rw [bX,hD']
       · rw [eI hiT,hE,e2]; simp
       · refine aA _ [.old 0 ⟨3,1,(T.set i ((a[i] - c) % 1048576)).map ii⟩] (by simp [go_sem]) ?_
         simp [go_sem]
   · have hil : i = a.length :=by simp at hd; omega
     subst hil
     rw [List.drop_length,subC,List.append_nil,List.take_of_length_le (by omega)] at hE
     have hok :=tT 0 a b (by decide) ha hb
     have hlen :=wC 0 a b
     have hval :=pC 0 a b (by decide) ha hb (by omega)
     subst hE
     have hv2 : val (subC 0 a b) = val a - val b :=by omega
     have hdt : (dg (val (subC 0 a b))).length ≤ a.length :=by have :=(cY hok).2; omega
     (repeat (refine a6 q15x2 hX a7 rfl ?_; (simp [go_sem]; (try simp (disch :=omega) only [w64,td,tm]))))
     refine aG [0] (dM (subC 0 a b) (by omega) hok) (by simp [go_sem]) ?_
     try (simp [go_sem,hlen,hdt])
     (repeat (refine a6 q15x2 hX a7 rfl ?_; (simp [go_sem,hlen,hdt])))
     rw [pD hok,hv2]
theorem wE {b : List Int} {x : Int} {xs acc : List Int} {t : Int} {ts : List Int} (h : amC x 0 b acc = t :: ts) : mrC b (x :: xs) acc = t :: mrC b xs ts :=by
 simp only [mrC,h]
theorem kC {T : List Int} {i : Nat} (h : i < T.length) (x : Int) : T.set i x = T.take i ++ x :: T.drop (i + 1) :=by
 rw [List.set_eq_take_append_cons_drop,if_pos h]
theorem wF {p : List Int} {i : Nat} (h : p.length = i) (t : Int) (ts : List Int) : (p ++ t :: ts).take (i + 1) = p ++ [t] ∧ (p ++ t :: ts).drop (i + 1) = ts :=by
 subst h
 constructor
 · rw [List.take_append,List.take_of_length_le (Nat.le_succ _),Nat.add_sub_cancel_left]; rfl
 · rw [List.drop_append,List.drop_of_length_le (Nat.le_succ _),Nat.add_sub_cancel_left]; rfl
theorem AB (x c : Int) (o : Int) (os : List Int) : amC x c [] (o :: os) = (o + c) :: os :=rfl
set_option maxHeartbeats 4000000 in
set_option maxRecDepth 20000 in
theorem MI (a b : List Int) (ha : okD a) (hb : okD b) (hla : a.length ≤ 10000) (hlb : b.length ≤ 10000) :
  MeansH Tryz.prog 118 [] [il a,il b] (.wn 0 1 0 (dg (val a * val b)).length) [.row ⟨3,1,(mrC b a (List.replicate (a.length + b.length) 0)).map ii⟩] :=by
 obtain ⟨hv,hok,hlen⟩ :=iS b hb a (List.replicate (a.length + b.length) 0) ha (dY _) (by simp) (fun j hj _ => by simp)
 rw [gF,Int.zero_add] at hv
 rw [List.length_replicate] at hlen
 generalize hRR : mrC b a (List.replicate (a.length + b.length) 0) = RR at *
 refine bI 0 67 [.tmp 4] Tryz.func118 rfl rfl rfl (by simp) (by decide) rfl fun X hX => ?_
 have hrl : ((a.length : Int) + (b.length : Int)).toNat = a.length + b.length :=by omega
 (repeat (refine aC q15x0 hX a7 rfl ?_; (simp [go_sem]; (try simp (disch :=omega) only [w64,td,tm]))))
 (repeat refine And.intro (by first | omega | (unfold maxLen; omega) | kernel_rfl | (refine ⟨by first | omega | (unfold maxLen; omega),by first | omega | (unfold maxLen; omega)⟩) | grind) ?_)
 (repeat (refine aC q15x0 hX a7 rfl ?_; (simp [go_sem]; (try simp (disch :=omega) only [w64,td,tm]))))
 refine aF (fun x : Nat × List Int => ⟨mkE [(0,il a),(1,il b),(5,.ow 0),(18,il a),(19,ii a.length),(20,ii x.1)],[.row ⟨3,1,x.2.map ii⟩]⟩)
  (fun x => x.1 ≤ a.length ∧ x.2.length = a.length + b.length ∧ okD x.2 ∧ (∀ j (hj : j < x.2.length),x.1 + b.length ≤ j → x.2[j] = 0) ∧ RR = x.2.take x.1 ++ mrC b (a.drop x.1) (x.2.drop x.1)) (fun x => a.length - x.1) (0,List.replicate (a.length + b.length) 0) ?_ ?_ ?_
 · refine aA _ [.old 0 ⟨3,1,(List.replicate (a.length + b.length) (0 : Int)).map ii⟩] (by simp [go_sem,hrl]) ?_
   simp [go_sem]
 · refine ⟨Nat.zero_le _,by simp,dY _,fun j hj _ => by simp,by simp [hRR]⟩
 · rintro ⟨i,T⟩ ⟨hi,hT,hTo,hTz,hE⟩
   simp only [] at hi hT hTo hTz hE
   (repeat (refine aC q15x0 hX a7 rfl ?_; (simp [go_sem])))
   refine a8 (b :=decide (i < a.length)) (by simp [go_sem]) (fun hd => ?_) (fun hd => ?_)
   · simp at hd
     have hx :=b5 ha hd
     (repeat (refine aC q15x0 hX a7 rfl ?_; (simp [go_sem,hd]; (try simp (disch :=omega) only [w64,td,tm]))))
     try (simp [go_sem,hd])
     have hlz :=jP a[i] 0 b (T.drop i)
     obtain ⟨hao,haz⟩ :=tU a[i] hx 0 b (T.drop i) (by decide) hb (bM hTo i) (fun j hj h => by
      have :=hTz (i + j) (by simp at hj; omega) (by omega)
      simpa using this)
     refine aF (fun x : Nat × List Int × Int => ⟨mkE [(0,il a),(1,il b),(5,.ow 0),(6,ii i),(7,ii a[i]),(8,ii x.2.2),(18,il a),(19,ii a.length),(20,ii i),(25,il b),(26,ii b.length),(27,ii x.1)],[.row ⟨3,1,x.2.1.map ii⟩]⟩)
      (fun x => x.1 ≤ b.length ∧ x.2.1.length = a.length + b.length ∧ okD x.2.1 ∧ (∀ j (hj : j < x.2.1.length),i + b.length ≤ j → x.2.1[j] = 0) ∧ (0 ≤ x.2.2 ∧ x.2.2 < 1048576) ∧
       T.take i ++ amC a[i] 0 b (T.drop i) = x.2.1.take (i + x.1) ++ amC a[i] x.2.2 (b.drop x.1) (x.2.1.drop (i + x.1))) (fun x => b.length - x.1) (0,T,0) ?_ ?_ ?_
     · refine aA _ [.old 0 ⟨3,1,T.map ii⟩] (by simp [go_sem]) ?_
       simp [go_sem]
     · exact ⟨Nat.zero_le _,hT,hTo,hTz,⟨Int.le_refl 0,by show (0 : Int) < 1048576; decide⟩,by simp⟩
     · rintro ⟨k,S,c⟩ ⟨hk,hS,hSo,hSz,hc,hF⟩
       simp only [] at hk hS hSo hSz hc hF
       (repeat (refine aC q15x0 hX a7 rfl ?_; (simp [go_sem])))
       refine a8 (b :=decide (k < b.length)) (by simp [go_sem]) (fun hd2 => ?_) (fun hd2 => ?_)
       · simp at hd2
         have hy :=b5 hb hd2
         have hik : i + k < S.length :=by omega
         have hs :=b5 hSo hik
         have hm :=kH hx hy
         rw [List.drop_eq_getElem_cons hd2,List.drop_eq_getElem_cons hik,amC] at hF
         have hik2 : (i : Int) + k < S.length :=by omega
         (repeat (refine aC q15x0 hX a7 rfl ?_; (simp [go_sem,hd2,hik,hik2]; (try simp (disch :=omega) only [w64,td,tm]))))
         try (simp [go_sem,hd2,hik,hik2])
         (repeat refine And.intro (by first | omega | (unfold maxLen; omega) | kernel_rfl | (refine ⟨by first | omega | (unfold maxLen; omega),by first | omega | (unfold maxLen; omega)⟩) | grind) ?_)
         (repeat (refine aC q15x0 hX a7 rfl ?_; (simp [go_sem]; (try simp (disch :=omega) only [w64,td,tm]))))
         have hcast : ((i : Int) + (k : Int)).toNat = i + k :=by omega
         refine ⟨⟨by omega,hik2⟩,by omega,?_⟩
         try (simp [go_sem,hcast,hik])
         (repeat (refine aC q15x0 hX a7 rfl ?_; (simp [go_sem]; (try simp (disch :=omega) only [w64,td,tm]))))
         refine ⟨k + 1,S.set (i + k) ((S[i + k] + a[i] * b[k] + c) % 1048576),(S[i + k] + a[i] * b[k] + c) / 1048576,⟨by omega,by simpa using hS,gX hSo _ (by omega),?_,by omega,?_⟩,by omega,?_⟩
         · intro j hj h
           have hj' : j < S.length :=by simpa using hj
           rw [List.getElem_set_ne (by omega)]
           exact hSz j hj' h
         · rw [hF,← Nat.add_assoc,eI hik,bX]; simp
         · refine aA _ [.old 0 ⟨3,1,(S.set (i + k) ((S[i + k] + a[i] * b[k] + c) % 1048576)).map ii⟩] (by simp [go_sem]) ?_
           simp [go_sem]
       · have hkl : k = b.length :=by simp at hd2; omega
         subst hkl
         have hik : i + b.length < S.length :=by omega
         have hik2 : (i : Int) + b.length < S.length :=by omega
         have hcast : ((i : Int) + (b.length : Int)).toNat = i + b.length :=by omega
         have hS0 : S[i + b.length] = 0 :=hSz _ hik (Nat.le_refl _)
         rw [List.drop_length,List.drop_eq_getElem_cons hik,AB,hS0,Int.zero_add] at hF
         (repeat (refine aC q15x0 hX a7 rfl ?_; (simp [go_sem,hik,hik2,hS0]; (try simp (disch :=omega) only [w64,td,tm]))))
         try (simp [go_sem,hik,hik2,hS0])
         (repeat refine And.intro (by first | omega | (unfold maxLen; omega) | kernel_rfl | (refine ⟨by first | omega | (unfold maxLen; omega),by first | omega | (unfold maxLen; omega)⟩) | grind) ?_)
         (repeat (refine aC q15x0 hX a7 rfl ?_; (simp [go_sem]; (try simp (disch :=omega) only [w64,td,tm]))))
         have hSe : S.set (i + b.length) c = T.take i ++ amC a[i] 0 b (T.drop i) :=by rw [hF,kC hik]
         have hTd : T.drop i = T[i]'(by omega) :: T.drop (i + 1) :=List.drop_eq_getElem_cons (by omega)
         obtain ⟨t,ts,ht⟩ : ∃ t ts,amC a[i] 0 b (T.drop i) = t :: ts :=by
          cases h : amC a[i] 0 b (T.drop i) with
          | nil =>
            have :=congrArg List.length h
            rw [jP,List.length_drop,List.length_nil] at this
            omega
          | cons t ts => exact ⟨t,ts,rfl⟩
         have htl : (T.take i).length = i :=by rw [List.length_take]; omega
         rw [List.drop_eq_getElem_cons hd,wE ht] at hE
         refine ⟨i + 1,S.set (i + b.length) c,⟨by omega,by simpa using hS,?_,?_,?_⟩,by omega,?_⟩
         · rw [hSe]; exact eB.2 ⟨bB hTo i,hao⟩
         · intro j hj h
           have hj' : j < S.length :=by simpa using hj
           rw [List.getElem_set_ne (by omega)]
           exact hSz j hj' (by omega)
         · obtain ⟨q1,q2⟩ :=wF htl t ts
           rw [hSe,hE,ht,q1,q2]; simp
         · refine aA _ [.old 0 ⟨3,1,(S.set (i + b.length) c).map ii⟩] (by simp [go_sem]) ?_
           simp [go_sem]
   · have hil : i = a.length :=by simp at hd; omega
     subst hil
     rw [List.drop_length,mrC,List.take_append_drop] at hE
     subst hE
     (repeat (refine aC q15x0 hX a7 rfl ?_; (simp [go_sem]; (try simp (disch :=omega) only [w64,td,tm]))))
     rw [← hv]
     have hdt : (dg (val RR)).length ≤ a.length + b.length :=by have :=(cY hok).2; omega
     refine aG [0] (dM RR (by omega) hok) (by simp [go_sem]) ?_
     try (simp [go_sem,hlen,hdt])
     refine b8 ?_; (try simp only [thenQ,blkQ,loopQ]); refine bH [(4,.wn 0 1 0 (dg (val RR)).length)] [.old 0 ⟨3,1,RR.map ii⟩] ?_
     simp [go_sem]
theorem JM (a b : List Int) (ha : okD a) (hb : okD b) (hla : a.length ≤ 10000) (hlb : b.length ≤ 10000) :
  Means true Tryz.prog 118 [il a,il b] (il (dg (val a * val b))) :=by
 have h :=MI a b ha hb hla hlb
 obtain ⟨hv,hok,hlen⟩ :=iS b hb a (List.replicate (a.length + b.length) 0) ha (dY _) (by simp) (fun j hj _ => by simp)
 rw [gF,Int.zero_add] at hv
 generalize mrC b a (List.replicate (a.length + b.length) 0) = RR at *
 have hdt :=(cY hok).2
 rw [hv] at hdt
 have e : argA [.row ⟨3,1,RR.map ii⟩] (.wn 0 1 0 (dg (val a * val b)).length) = il (dg (val a * val b)) :=by
  simp [go_sem,hdt]
  rw [← hv,pD hok]
 have :=yD h (by simp [go_sem]) (by rw [e]; simp [go_sem]) (by simp [freshA,go_sem])
 rwa [e] at this
end Go.Proofs.YtknbcehhjffndaaGreat

namespace Go.Proofs.YtknbcehhjffndaaGreat
open Go.RowKit Go.Ab
attribute [local irreducible] AWP Go.Ab.Sub Means MeansH CallK CallG CallT CallGT
theorem EF {T : List Int} {i : Nat} (h : i < T.length) (x : Int) : (T.set i x).drop i = x :: T.drop (i + 1) :=by
 rw [List.drop_eq_getElem_cons (by simpa using h),bX]
 simp
set_option maxHeartbeats 4000000 in
set_option maxRecDepth 20000 in
theorem tX (a : List Int) (d : Int) (ha : okD a) (hla : a.length ≤ 10000) (hd0 : 0 < d) (hd1 : d < 8000000) :
  Means true Tryz.prog 119 [il a,ii d] (.tup [il (dg (val a / d)),ii (val a % d)]) :=by
 refine aB true 38 [.tmp 4,.tmp 5] Tryz.func119 rfl rfl rfl (by simp) (by decide) rfl fun X hX => ?_
 (repeat (refine a6 q15x5 hX a7 rfl ?_; (simp [go_sem]; (try simp (disch :=omega) only [w64,td,tm]))))
 (repeat refine And.intro (by first | omega | (unfold maxLen; omega) | kernel_rfl | (refine ⟨by first | omega | (unfold maxLen; omega),by first | omega | (unfold maxLen; omega)⟩) | grind) ?_)
 (repeat (refine a6 q15x5 hX a7 rfl ?_; (simp [go_sem]; (try simp (disch :=omega) only [w64,td,tm]))))
 have hrl : ((a.length : Int)).toNat = a.length :=by omega
 refine aF (fun x : Nat × List Int × Int => ⟨mkE [(0,il a),(1,ii d),(6,.ow 0),(7,ii x.2.2),(8,ii ((x.1 : Int) - 1))],[.row ⟨3,1,x.2.1.map ii⟩]⟩)
  (fun x => x.1 ≤ a.length ∧ x.2.1.length = a.length ∧ x.2.1.drop x.1 = (shC d (a.drop x.1)).1 ∧ x.2.2 = (shC d (a.drop x.1)).2) (fun x => x.1) (a.length,List.replicate a.length 0,0) ?_ ?_ ?_
 · refine aA _ [.old 0 ⟨3,1,(List.replicate a.length (0 : Int)).map ii⟩] (by simp [go_sem,hrl]) ?_
   simp [go_sem]
 · simp [shC]
 · rintro ⟨n,T,r⟩ ⟨hn,hT,hD,hr⟩
   simp only [] at hn hT hD hr
   cases n with
   | zero =>
     (repeat (refine a6 q15x5 hX a7 rfl ?_; (simp [go_sem])))
     refine a8 (b :=false) (by simp [go_sem]) (fun hb => by cases hb) (fun _ => ?_)
     (repeat (refine a6 q15x5 hX a7 rfl ?_; (simp [go_sem])))
     rw [List.drop_zero,List.drop_zero] at hD
     rw [List.drop_zero] at hr
     subst hD
     have hok :=yL hd0 a ha
     have hlen :=A8 d a
     obtain ⟨hv1,hv2⟩ :=HC hd0 a
     have hdt : (dg (val (shC d a).1)).length ≤ a.length :=by have :=(cY hok).2; omega
     rw [hv2] at hr
     subst hr
     refine aG [0] (dM (shC d a).1 (by omega) hok) (by simp [go_sem]) ?_
     try (simp [go_sem,hlen,hdt])
     (repeat (refine a6 q15x5 hX a7 rfl ?_; (simp [go_sem,hlen,hdt])))
     rw [pD hok,hv1]
   | succ n =>
     have h1 : n < a.length :=by omega
     have h2 : n < T.length :=by omega
     have hx :=b5 ha h1
     obtain ⟨_,hs2,hs3⟩ :=nQ hd0 (a.drop (n + 1))
     rw [← hr] at hs2 hs3
     have hor :=yM (r :=r) (a :=a[n]) hs2 (by omega) hx.1 hx.2
     (repeat (refine a6 q15x5 hX a7 rfl ?_; (simp [go_sem]; (try simp (disch :=omega) only [w64,td,tm]))))
     refine a8 (b :=true) (by simp [go_sem]; try omega) (fun _ => ?_) (fun hb => by cases hb)
     have hsh : shC d (a.drop n) = ((r * 1048576 + a[n]) / d :: (shC d (a.drop (n + 1))).1,(r * 1048576 + a[n]) % d) :=by
      rw [List.drop_eq_getElem_cons h1,shC,← hr]
     have hqo :=yL hd0 (a.drop n) (bM ha n)
     rw [hsh,aN] at hqo
     have hw :=w64 (x :=(r * 1048576 + a[n]) / d) (by omega) (by omega)
     have hdn : ¬ d = 0 :=by omega
     (repeat (refine a6 q15x5 hX a7 rfl ?_; (simp [go_sem,h1,h2,hor]; (try simp (disch :=omega) only [w64,td,tm]))))
     refine ⟨hdn,?_⟩
     try (simp [go_sem,hw])
     (repeat (refine a6 q15x5 hX a7 rfl ?_; (simp [go_sem]; (try simp (disch :=omega) only [w64,td,tm]))))
     refine ⟨hdn,?_⟩
     (repeat (refine a6 q15x5 hX a7 rfl ?_; (simp [go_sem]; (try simp (disch :=omega) only [w64,td,tm]))))
     refine ⟨n,T.set n ((r * 1048576 + a[n]) / d),(r * 1048576 + a[n]) % d,⟨by omega,by simpa using hT,?_,?_⟩,by omega,?_⟩
     · rw [EF h2,hD,hsh]
     · rw [hsh]
     · refine aA _ [.old 0 ⟨3,1,(T.set n ((r * 1048576 + a[n]) / d)).map ii⟩] (by simp [go_sem]) ?_
       simp [go_sem]
end Go.Proofs.YtknbcehhjffndaaGreat

namespace Go.Proofs.YtknbcehhjffndaaGreat
theorem eD : ∀ (a b : List Int),val (a ++ b) = val a + 1048576 ^ a.length * val b
 | [],b => by simp [val]
 | x :: xs,b => by
   simp only [List.cons_append,val,eD xs b,List.length_cons,Int.pow_succ]
   rw [show (1048576 : Int) ^ xs.length * 1048576 * val b = 1048576 * (1048576 ^ xs.length * val b) by rw [Int.mul_comm _ 1048576,Int.mul_assoc]]
   omega
theorem m5 (l : List Int) (n : Nat) (h : n ≤ l.length) : val l = val (l.take n) + 1048576 ^ n * val (l.drop n) :=by
 have :=eD (l.take n) (l.drop n)
 rwa [List.take_append_drop,List.length_take,Nat.min_eq_left h] at this
def padD : Nat → Int → List Int
 | 0,_ => []
 | k + 1,x => x % 1048576 :: padD k (x / 1048576)
theorem wG : ∀ k x,(padD k x).length = k
 | 0,_ => rfl
 | k + 1,x => by simp [padD,wG]
theorem AC : ∀ k x,okD (padD k x)
 | 0,_ => cJ
 | k + 1,x => aN.2 ⟨by omega,AC k _⟩
theorem wH : ∀ {l : List Int},okD l → padD l.length (val l) = l
 | [],_ => rfl
 | d :: l,h => by
   rw [aN] at h
   simp only [List.length_cons,padD,val]
   rw [show (d + 1048576 * val l) % 1048576 = d by omega,show (d + 1048576 * val l) / 1048576 = val l by omega,wH h.2]
theorem wI : ∀ (k : Nat) (x : Int),0 ≤ x → x < 1048576 ^ k → val (padD k x) = x
 | 0,x,h1,h2 => by simp [padD,val] at h2 ⊢; omega
 | k + 1,x,h1,h2 => by
   rw [Int.pow_succ] at h2
   have :=wI k (x / 1048576) (by omega) (by omega)
   simp only [padD,val,this]; omega
theorem HE {l : List Int} {k : Nat} (ho : okD l) (hl : l.length = k) {x : Int} (h : val l = x) : padD k x = l :=by
 subst hl h; exact wH ho
def smC (g : Int) : Int → List Int → List Int → List Int
 | c,[],_ => [c]
 | c,x :: xs,ys => (x - c - g * ys.headD 0) % 1048576 :: smC g (-((x - c - g * ys.headD 0) / 1048576)) xs ys.tail
theorem AD (g : Int) : ∀ (c : Int) (ws vs T : List Int) (c' : Int),vs.length ≤ ws.length → smC g c ws vs = T ++ [c'] → val T - 1048576 ^ ws.length * c' = val ws - c - g * val vs
 | c,[],vs,T,c',hl,h => by
   have hv : vs = [] :=by simpa using hl
   subst hv
   have : T = [] ∧ c' = c :=by
    cases T with
    | nil => simpa [smC,eq_comm] using h
    | cons t T => simp [smC] at h
   obtain ⟨rfl,rfl⟩ :=this
   simp [val]
 | c,x :: xs,vs,T,c',hl,h => by
   cases T with
   | nil =>
     have :=congrArg List.length h
     cases xs <;> simp [smC] at this
   | cons t T =>
     simp only [smC,List.cons_append,List.cons.injEq] at h
     obtain ⟨rfl,h⟩ :=h
     have ih :=AD g _ xs vs.tail T c' (by simp at hl ⊢; omega) h
     have hvs :=lZ vs
     simp only [val,List.length_cons,Int.pow_succ]
     rw [show (1048576 : Int) ^ xs.length * 1048576 * c' = 1048576 * (1048576 ^ xs.length * c') by rw [Int.mul_comm _ 1048576,Int.mul_assoc]]
     rw [hvs,Int.mul_add,Int.mul_left_comm g 1048576]
     generalize (1048576 : Int) ^ xs.length * c' = p at *
     generalize g * val vs.tail = s at *
     generalize g * vs.headD 0 = t at *
     omega
theorem KJ {g c x y : Int} (hg : 0 ≤ g) (hc : 0 ≤ c ∧ c ≤ g) (hx : 0 ≤ x ∧ x < 1048576) (hy : 0 ≤ y ∧ y < 1048576) :
  (0 ≤ g * y ∧ g * y ≤ g * 1048575) ∧ 0 ≤ -((x - c - g * y) / 1048576) ∧ -((x - c - g * y) / 1048576) ≤ g :=by
 have h1 : 0 ≤ g * y :=Int.mul_nonneg hg hy.1
 have h2 : g * y ≤ g * 1048575 :=Int.mul_le_mul_of_nonneg_left (by omega) hg
 refine ⟨⟨h1,h2⟩,?_⟩
 generalize g * y = p at *
 omega
theorem EG {P l l' V2 T3 q : Int} (hP : 0 < P) (hl : 0 ≤ l) (hl' : l' < P) (hq : 0 ≤ q) (h : q * (l + P * V2) ≤ l' + P * T3) : q * V2 ≤ T3 :=by
 refine Decidable.byContradiction fun hn => ?_
 have h1 : P * (T3 + 1) ≤ P * (q * V2) :=Int.mul_le_mul_of_nonneg_left (by omega) (by omega)
 have h2 : 0 ≤ q * l :=Int.mul_nonneg hq hl
 rw [Int.mul_add,Int.mul_left_comm q P V2] at h
 rw [Int.mul_add] at h1
 omega
theorem EH {P l l' V2 T3 q g : Int} (hP : 0 < P) (hl : 0 ≤ l ∧ l < P) (hl' : 0 ≤ l') (hg : 0 ≤ g ∧ g < 1048576) (h : g * V2 ≤ T3) (hB : 1048576 ≤ V2) (hq : l' + P * T3 < (q + 1) * (l + P * V2)) : g ≤ q + 1 :=by
 refine Decidable.byContradiction fun hn => ?_
 have hV : 0 < l + P * V2 :=by have :=Int.mul_pos hP (show 0 < V2 by omega); omega
 have h1 : (q + 2) * (l + P * V2) ≤ g * (l + P * V2) :=Int.mul_le_mul_of_nonneg_right (by omega) (by omega)
 have h2 : P * (g * V2) ≤ P * T3 :=Int.mul_le_mul_of_nonneg_left h (by omega)
 have h3 : g * l ≤ 1048576 * l :=Int.mul_le_mul_of_nonneg_right (by omega) hl.1
 have h4 : P * 1048576 ≤ P * V2 :=Int.mul_le_mul_of_nonneg_left hB (by omega)
 rw [show q + 2 = (q + 1) + 1 by omega,Int.add_mul (q + 1) 1,Int.one_mul] at h1
 rw [Int.mul_add g,Int.mul_left_comm g P V2] at h1
 generalize (q + 1) * (l + P * V2) = z at *
 omega
theorem pE {V : List Int} {k : Nat} (h : V.length = k + 2) : val V = val (V.take k) + 1048576 ^ k * (V[k] + 1048576 * V[k + 1]) :=by
 rw [m5 V k (by omega),List.drop_eq_getElem_cons (by omega),List.drop_eq_getElem_cons (by omega),List.drop_of_length_le (by omega)]
 simp [val]
theorem EI {w : List Int} {k : Nat} (h : w.length = k + 3) : val w = val (w.take k) + 1048576 ^ k * ((w[k + 2] * 1048576 + w[k + 1]) * 1048576 + w[k]) :=by
 rw [m5 w k (by omega),List.drop_eq_getElem_cons (by omega),List.drop_eq_getElem_cons (by omega),List.drop_eq_getElem_cons (by omega),List.drop_of_length_le (by omega)]
 have e : w[k + 2] = w[k + 1 + 1] :=rfl
 rw [e]
 simp only [val]
 congr 2
 omega
theorem KK {L V : List Int} {i n : Nat} (hL : okD L) (hV : okD V) (hn : V.length = n) (hi : i + n < L.length) (hr : val (L.drop (i + 1)) < val V) :
  val (L.drop (i + n + 1)) = 0 ∧ val ((L.drop i).take (n + 1)) = L[i] + 1048576 * val (L.drop (i + 1)) :=by
 have h1 :=d8 hV
 rw [hn] at h1
 have h2 :=m5 (L.drop (i + 1)) n (by simp; omega)
 rw [List.drop_drop,show i + 1 + n = i + n + 1 by omega] at h2
 have h3 :=aM (bB (bM hL (i + 1)) n)
 have h4 :=aM (bM hL (i + n + 1))
 have h0 : val (L.drop (i + n + 1)) = 0 :=by
  refine Decidable.byContradiction fun hne => ?_
  have :=Int.mul_le_mul_of_nonneg_left (show 1 ≤ val (L.drop (i + n + 1)) by omega) (show (0 : Int) ≤ 1048576 ^ n by have :=bR n; omega)
  omega
 refine ⟨h0,?_⟩
 rw [List.drop_eq_getElem_cons (show i < L.length by omega),List.take_succ_cons]
 simp only [val]
 rw [h0] at h2
 omega
theorem wJ {L V : List Int} {i k : Nat} {q : Int} (hL : okD L) (hV : okD V) (hVl : V.length = k + 2) (hi : i + k + 2 < L.length) (hq0 : 0 ≤ q) (h1 : q * val V ≤ val ((L.drop i).take (k + 2 + 1)))
  (h2 : val ((L.drop i).take (k + 2 + 1)) < (q + 1) * val V) (hv1 : 1 ≤ V[k + 1]) :
  q * (V[k] + 1048576 * V[k + 1]) ≤ (L[i + k + 2] * 1048576 + L[i + k + 1]) * 1048576 + L[i + k] ∧ q * V[k + 1] ≤ L[i + k + 2] * 1048576 + L[i + k + 1] ∧
  ∀ g,0 ≤ g → g < 1048576 → g * (V[k] + 1048576 * V[k + 1]) ≤ (L[i + k + 2] * 1048576 + L[i + k + 1]) * 1048576 + L[i + k] → g ≤ q + 1 :=by
 have hwl : ((L.drop i).take (k + 2 + 1)).length = k + 3 :=by simp; omega
 have hw :=EI hwl
 have e0 : ((L.drop i).take (k + 2 + 1))[k]'(by omega) = L[i + k] :=by simp
 have e1 : ((L.drop i).take (k + 2 + 1))[k + 1]'(by omega) = L[i + k + 1] :=by simp [Nat.add_assoc]
 have e2 : ((L.drop i).take (k + 2 + 1))[k + 2]'(by omega) = L[i + k + 2] :=by simp [Nat.add_assoc]
 rw [e0,e1,e2] at hw
 have hV2 :=pE hVl
 have hlo1 :=aM (bB hV k)
 have hlo2 :=d8 (bB hV k)
 have hwo :=bB (bB (bM hL i) (k + 2 + 1)) k
 have hlw1 :=aM hwo
 have hlw2 :=d8 hwo
 rw [List.length_take,Nat.min_eq_left (by omega)] at hlo2 hlw2
 have hP :=bR k
 have hx :=b5 hV (i :=k) (by omega)
 have hy :=b5 hL (i :=i + k) (by omega)
 rw [hw,hV2] at h1 h2
 have hup :=EG hP hlo1 hlw2 hq0 h1
 refine ⟨hup,?_,fun g hg0 hg1 hg => EH hP ⟨hlo1,hlo2⟩ hlw1 ⟨hg0,hg1⟩ hg (by omega) h2⟩
 rw [Int.mul_add,Int.mul_left_comm] at hup
 have :=Int.mul_nonneg hq0 hx.1
 omega
theorem KL {V : List Int} {k : Nat} (hV : okD V) (hk : V.length = k + 2) (h : 1 ≤ V[k + 1]) : 1048576 ^ (k + 1) ≤ val V :=by
 have h2 :=pE hk
 have h3 :=aM (bB hV k)
 have hx :=b5 hV (i :=k) (by omega)
 have h4 :=Int.mul_le_mul_of_nonneg_left (show 1048576 ≤ V[k] + 1048576 * V[k + 1] by omega) (show (0 : Int) ≤ 1048576 ^ k by have :=bR k; omega)
 rw [Int.pow_succ]; omega
theorem C1 {U V : List Int} {k m : Nat} (hU : okD U) (hV : okD V) (hk : V.length = k + 2) (hm : U.length + 1 = m + (k + 2)) (h : 1 ≤ V[k + 1]) : val ((U ++ [0]).drop m) < val V :=by
 have h1 :=KL hV hk h
 have h2 :=d8 (bM hU m)
 rw [List.length_drop,show U.length - m = k + 1 by omega] at h2
 rw [List.drop_append_of_le_length (by omega),eD]
 simp only [val]
 omega
theorem EJ {L Q u0 V : List Int} {i k m : Nat} {q W : Int} (hL : L.length = m + (k + 2)) (hLo : okD L) (hQ : Q.length = m) (hQo : okD (Q.drop (i + 1))) (hi : i < m) (hu : u0.length = m + (k + 2))
  (hLu : L.take (i + 1) = u0.take (i + 1)) (hV : okD V) (hk : V.length = k + 2) (hz : val (L.drop (i + (k + 2) + 1)) = 0) (hWv : W = L[i] + 1048576 * val (L.drop (i + 1))) (hq : 0 ≤ q ∧ q < 1048576)
  (h1 : q * val V ≤ W) (h2 : W < (q + 1) * val V) (hE : val (Q.drop (i + 1)) * val V + val (L.drop (i + 1)) = val (u0.drop (i + 1))) (L2 : List Int)
  (hL2 : L2 = L.take i ++ padD (k + 2 + 1) (W - q * val V) ++ L.drop (i + (k + 2 + 1))) :
  L2.length = m + (k + 2) ∧ okD L2 ∧ okD ((Q.set i q).drop i) ∧ L2.take i = u0.take i ∧ (0 ≤ val (L2.drop i) ∧ val (L2.drop i) < val V) ∧ val ((Q.set i q).drop i) * val V + val (L2.drop i) = val (u0.drop i) :=by
 have hVl :=d8 hV
 rw [hk] at hVl
 rw [Int.add_mul,Int.one_mul] at h2
 have hpow : (1048576 : Int) ^ (k + 2 + 1) = 1048576 ^ (k + 2) * 1048576 :=Int.pow_succ _ _
 have hpp :=bR (k + 2)
 have hti : (L.take i).length = i :=by rw [List.length_take]; omega
 have hpad :=wI (k + 2 + 1) (W - q * val V) (by omega) (by omega)
 have hd : val (L2.drop i) = W - q * val V :=by
  rw [hL2,List.append_assoc,List.drop_append,List.drop_of_length_le (by omega),hti,Nat.sub_self,List.drop_zero,List.nil_append,eD,hpad]
  rw [show i + (k + 2 + 1) = i + (k + 2) + 1 by omega,hz,Int.mul_zero,Int.add_zero]
 have hQs : (Q.set i q).drop i = q :: Q.drop (i + 1) :=by
  rw [List.drop_eq_getElem_cons (by simp; omega),List.drop_set_of_lt (by omega)]
  simp
 have hui : u0[i]'(by omega) = L[i] :=by
  have e :=congrArg (fun l => l[i]?) hLu
  simp only [List.getElem?_take] at e
  rw [if_pos (by omega),if_pos (by omega),List.getElem?_eq_getElem (by omega),List.getElem?_eq_getElem (by omega)] at e
  exact (Option.some.inj e).symm
 refine ⟨?_,?_,?_,?_,?_,?_⟩
 · rw [hL2]; simp [wG]; omega
 · rw [hL2]; exact eB.2 ⟨eB.2 ⟨bB hLo i,AC _ _⟩,bM hLo _⟩
 · rw [hQs]; exact aN.2 ⟨hq,hQo⟩
 · rw [hL2,List.append_assoc,List.take_append_of_le_length (by omega),List.take_of_length_le (by omega)]
   have e :=congrArg (List.take i) hLu
   rwa [List.take_take,List.take_take,Nat.min_eq_left (by omega)] at e
 · rw [hd]; omega
 · rw [hd,hQs,List.drop_eq_getElem_cons (show i < u0.length by omega),hui]
   simp only [val]
   rw [Int.add_mul,Int.mul_assoc,← hE,hWv]
   omega
theorem HF {A b s Q R : Int} (hs : 0 < s) (hR : 0 ≤ R ∧ R < b * s) (h : Q * (b * s) + R = A * s) : Q = A / b ∧ R / s = A % b :=by
 have e : R = (A - Q * b) * s :=by rw [Int.sub_mul,Int.mul_assoc]; omega
 obtain ⟨h1,h2⟩ :=hR
 generalize ht : A - Q * b = t at *
 have h3 : 0 ≤ t :=by
  refine Decidable.byContradiction fun hn => ?_
  have :=Int.mul_lt_mul_of_pos_right (show t < 0 by omega) hs
  omega
 have h4 : t < b :=by
  refine Decidable.byContradiction fun hn => ?_
  have :=Int.mul_le_mul_of_nonneg_right (show b ≤ t by omega) (show 0 ≤ s by omega)
  omega
 have e2 : A = t + Q * b :=by omega
 rw [e2,Int.add_mul_ediv_right _ _ (by omega),Int.add_mul_emod_self_right,Int.ediv_eq_zero_of_lt h3 h4,Int.emod_eq_of_lt h3 h4,e,Int.mul_ediv_cancel _ (by omega)]
 exact ⟨by omega,rfl⟩
end Go.Proofs.YtknbcehhjffndaaGreat

