/-
  Lemmas for the statement at the top.
-/
import Derived.Test.YtaolljbpencjnaaGreatDoorTP9
import Derived.Test.YtaolljbpencjnaaGreatDoorTFw4
set_option linter.all false
namespace Go.Ab
def q7x0 : List Nat :=[0,2,3,4,5,8,13,25,32,44,1000000]
def q7x1 : List Nat :=[0,1,2,3,8,9,10,11,12,13,14,15,16,17,18,23,29,35,50,68,72,87,113,1000000]
def q7x2 : List Nat :=[0,1,4,5,6,7,8,10,26,37,1000000]
def q7x3 : List Nat :=[0,1,2,6,7,12,30,1000000]
def q7x4 : List Nat :=[0,1,2,3,4,10,11,12,13,16,26]
def q7x5 : List Nat :=[0,1,2,3,8,9,10,11,19,31]
def q7x6 : List Nat :=[0,1,4,5,7,8,9,16,1000000]
def q7x7 : List Nat :=[0,1,2,6,7,8,26]
def q7x8 : List Nat :=[0,1,2,3,8,9,10,27]
def q7x9 : List Nat :=[0,1,4,5,7,8,9,16]
attribute [go_sem] q7x0 q7x1 q7x2 q7x3 q7x4 q7x5 q7x6 q7x7 q7x8 q7x9
end Go.Ab
namespace Go.Proofs.YtaolljbpencjnaaGreatDoor
open Go.RowKit Go.Ab
attribute [local irreducible] AWP Go.Ab.Sub Means MeansH CallK CallG CallT CallGT PanicH DefH
def dayB (n : Int) : Bool :=decide (0 ≤ n) && decide (n ≤ 1048576)
theorem dX {n : Int} : dayB n = true ↔ 0 ≤ n ∧ n ≤ 1048576 :=by simp [dayB]
theorem lV (n : Int) : Means true Tryz.prog 28 [ii n] (bb (dayB n)) :=by
 refine aH true 9 [.tmp 2] Tryz.func28 rfl rfl rfl (by simp) (by decide) rfl fun X hX => ?_
 (repeat (refine aA [0,2] hX mixed rfl ?_; (simp [go_sem]; try (refine ⟨by kernel_rfl,?_⟩))))
 simp [dayB]
abbrev t2 (x : Int × Int) : AV :=.tup [ii x.1,ii x.2]
theorem sZ {p l : Int} (h1 : 0 ≤ p) (h2 : p ≤ 5000) (h3 : 0 ≤ l) (h4 : l ≤ 5000) : 0 ≤ p * l ∧ p * l ≤ 25000000 :=by
 refine ⟨Int.mul_nonneg h1 h3,?_⟩
 have :=Int.mul_le_mul h2 h4 h3 (by omega : (0 : Int) ≤ 5000)
 omega
def shV (p f l d : Int) : Int × Int :=if dayB f then (if 1048576 < f + p * l + d then (0,3) else (f + p * l + d,0)) else (0,1)
theorem jN (p f l d : Int) (hp : 0 ≤ p ∧ p ≤ 5000) (hl : 1 ≤ l ∧ l ≤ 5000) (hd : 0 ≤ d ∧ d ≤ 100000) : Means true Tryz.prog 27 [ii p,ii f,ii l,ii d] (t2 (shV p f l d)) :=by
 have c1 :=lV f
 have c2 :=lV l
 have hdl : dayB l = true :=dX.2 (by omega)
 rw [hdl] at c2
 have hb :=sZ hp.1 hp.2 (by omega) hl.2
 have w1 :=w64 (x :=p * l) (by omega) (by omega)
 have n1 : ¬ p < 0 :=by omega
 have n2 : ¬ l = 0 :=by omega
 have n3 : ¬ 1048576 < p :=by omega
 generalize hq : p * l = q at hb w1
 cases hf : dayB f with
 | false =>
   rw [hf] at c1
   refine aH true 47 [.tmp 8,.tmp 9] Tryz.func27 rfl rfl rfl (by simp) (by decide) rfl fun X hX => ?_
   (repeat (refine aA q7x8 hX mixed rfl ?_; (simp [go_sem,n1,n2]; try (refine ⟨by kernel_rfl,?_⟩))))
   first | refine aX (fun hg => c1) ?_ | refine aW (fun hg => c1) ?_
   try (simp [go_sem])
   first | refine cJ rfl ?_ | refine bO rfl ?_
   try (simp [go_sem])
   refine aC (b :=true) (by simp [go_sem]) (fun hb => ?_) (fun hb => by cases hb)
   rw [show shV p f l d = (0,1) by simp [shV,hf]]
   (repeat (refine aA q7x8 hX mixed rfl ?_; (simp [go_sem]; try (refine ⟨by kernel_rfl,?_⟩))))
 | true =>
   rw [hf] at c1
   have hf' :=dX.1 hf
   have w2 :=w64 (x :=f + q) (by omega) (by omega)
   have w3 :=w64 (x :=f + q + d) (by omega) (by omega)
   refine aH true 47 [.tmp 8,.tmp 9] Tryz.func27 rfl rfl rfl (by simp) (by decide) rfl fun X hX => ?_
   (repeat (refine aA q7x8 hX mixed rfl ?_; (simp [go_sem,n1,n2]; try (refine ⟨by kernel_rfl,?_⟩))))
   first | refine aX (fun hg => c1) ?_ | refine aW (fun hg => c1) ?_
   try (simp [go_sem])
   first | refine aX (fun hg => c2) ?_ | refine aW (fun hg => c2) ?_
   try (simp [go_sem,n2])
   refine aC (b :=false) (by simp [go_sem,n2]) (fun hb => by cases hb) (fun hb => ?_)
   (repeat (refine aA q7x8 hX mixed rfl ?_; (simp [go_sem,n3,hq,w1,w2,w3]; try (refine ⟨by kernel_rfl,?_⟩))))
   refine aC (b :=decide (1048576 < f + q + d)) (by simp [go_sem,n3]) (fun hc => ?_) (fun hc => ?_)
   · simp at hc
     rw [show shV p f l d = (0,3) by simp [shV,hf,hq,hc]]
     (repeat (refine aA q7x8 hX mixed rfl ?_; (simp [go_sem]; try (refine ⟨by kernel_rfl,?_⟩))))
   · have hc' : ¬ 1048576 < f + q + d :=by simpa using hc
     rw [show shV p f l d = (f + q + d,0) by simp [shV,hf,hq,hc']]
     (repeat (refine aA q7x8 hX mixed rfl ?_; (simp [go_sem,hq,w1,w2,w3]; try (refine ⟨by kernel_rfl,?_⟩))))
def beginsV (p f l : Int) : Int × Int :=shV p f l 0
theorem r7 (p f l : Int) (hp : 0 ≤ p ∧ p ≤ 5000) (hl : 1 ≤ l ∧ l ≤ 5000) : Means true Tryz.prog 8 [ii p,ii f,ii l] (t2 (beginsV p f l)) :=by
 have c1 :=jN p f l 0 hp hl (by omega)
 refine aH true 14 [.tmp 6,.tmp 7] Tryz.func8 rfl rfl rfl (by simp) (by decide) rfl fun X hX => ?_
 (repeat (refine aA [0,1,2,6,7] hX mixed rfl ?_; (simp [go_sem]; try (refine ⟨by kernel_rfl,?_⟩))))
 first | refine aP (c1) ?_ | refine aQ (c1) ?_
 try (simp [go_sem]; try (refine ⟨by kernel_rfl,?_⟩))
 (repeat (refine aA [0,1,2,6,7] hX mixed rfl ?_; (simp [go_sem]; try (refine ⟨by kernel_rfl,?_⟩))))
 all_goals rfl
def endsV (p f l : Int) : Int × Int :=shV p f l (l - 1)
theorem sY (p f l : Int) (hp : 0 ≤ p ∧ p ≤ 5000) (hl : 1 ≤ l ∧ l ≤ 5000) : Means true Tryz.prog 10 [ii p,ii f,ii l] (t2 (endsV p f l)) :=by
 have c1 :=jN p f l (l - 1) hp hl (by omega)
 have e : min (max l 1) 1048576 = l :=by omega
 have w :=w64 (x :=l - 1) (by omega) (by omega)
 refine aH true 18 [.tmp 6,.tmp 7] Tryz.func10 rfl rfl rfl (by simp) (by decide) rfl fun X hX => ?_
 (repeat (refine aA [0,1,2,6,7] hX mixed rfl ?_; (simp [go_sem,e,w]; try (refine ⟨by kernel_rfl,?_⟩))))
 first | refine aP (c1) ?_ | refine aQ (c1) ?_
 try (simp [go_sem]; try (refine ⟨by kernel_rfl,?_⟩))
 (repeat (refine aA [0,1,2,6,7] hX mixed rfl ?_; (simp [go_sem]; try (refine ⟨by kernel_rfl,?_⟩))))
 all_goals rfl
def dueV (p f l g : Int) : Int × Int :=shV p f l (l - 1 + g)
theorem zJ (p f l g : Int) (hp : 0 ≤ p ∧ p ≤ 5000) (hl : 1 ≤ l ∧ l ≤ 5000) (hg : 0 ≤ g ∧ g ≤ 5000) : Means true Tryz.prog 11 [ii p,ii f,ii l,ii g] (t2 (dueV p f l g)) :=by
 have c0 :=lV g
 have hdg : dayB g = true :=dX.2 (by omega)
 rw [hdg] at c0
 have c1 :=jN p f l (l - 1 + g) hp hl (by omega)
 have e : min (max l 1) 1048576 = l :=by omega
 have w :=w64 (x :=l - 1) (by omega) (by omega)
 have w2 :=w64 (x :=l - 1 + g) (by omega) (by omega)
 refine aH true 25 [.tmp 8,.tmp 9] Tryz.func11 rfl rfl rfl (by simp) (by decide) rfl fun X hX => ?_
 (repeat (refine aA [0,1,2,3,8,9,12] hX mixed rfl ?_; (simp [go_sem]; try (refine ⟨by kernel_rfl,?_⟩))))
 first | refine aP (c0) ?_ | refine aQ (c0) ?_
 try (simp [go_sem]; try (refine ⟨by kernel_rfl,?_⟩))
 refine aC (b :=false) (by simp [go_sem]) (fun hb => by cases hb) (fun hb => ?_)
 (repeat (refine aA [0,1,2,3,8,9,12] hX mixed rfl ?_; (simp [go_sem,e,w,w2]; try (refine ⟨by kernel_rfl,?_⟩))))
 first | refine aP (c1) ?_ | refine aQ (c1) ?_
 try (simp [go_sem]; try (refine ⟨by kernel_rfl,?_⟩))
 (repeat (refine aA [0,1,2,3,8,9,12] hX mixed rfl ?_; (simp [go_sem]; try (refine ⟨by kernel_rfl,?_⟩))))
 all_goals rfl
def opensV (p f l w : Int) : Int × Int :=if (endsV p f l).2 = 1 ∨ l < w then (0,1) else if (endsV p f l).2 = 0 then ((endsV p f l).1 - w + 1,0) else (0,(endsV p f l).2)
theorem zN {p f l d : Int} (hp : 0 ≤ p ∧ p ≤ 5000) (hl : 1 ≤ l ∧ l ≤ 5000) (hd : 0 ≤ d ∧ d ≤ 100000) : 0 ≤ (shV p f l d).1 ∧ (shV p f l d).1 ≤ 1048576 ∧ ((shV p f l d).2 = 0 ∨ (shV p f l d).2 = 1 ∨ (shV p f l d).2 = 3) :=by
 have hb :=sZ hp.1 hp.2 (by omega) hl.2
 unfold shV
 split
 · rename_i hf
   have :=dX.1 hf
   split
   · simp
   · simp only []
     refine ⟨by omega,by omega,.inl ?_⟩
     trivial
 · simp
theorem BN (p f l w : Int) (hp : 0 ≤ p ∧ p ≤ 5000) (hl : 1 ≤ l ∧ l ≤ 5000) (hw : 0 ≤ w ∧ w ≤ 5000) : Means true Tryz.prog 9 [ii p,ii f,ii l,ii w] (t2 (opensV p f l w)) :=by
 have c1 :=sY p f l hp hl
 have hb : 0 ≤ (endsV p f l).1 ∧ (endsV p f l).1 ≤ 1048576 ∧ ((endsV p f l).2 = 0 ∨ (endsV p f l).2 = 1 ∨ (endsV p f l).2 = 3) :=zN hp hl (by omega)
 unfold opensV
 generalize endsV p f l = x at c1 hb
 obtain ⟨a,e⟩ :=x
 simp only [] at hb c1 ⊢
 have n1 : ¬ w < 0 :=by omega
 have w1 :=w64 (x :=a - w) (by omega) (by omega)
 have w2 :=w64 (x :=a - w + 1) (by omega) (by omega)
 refine aH true 39 [.tmp 8,.tmp 9] Tryz.func9 rfl rfl rfl (by simp) (by decide) rfl fun X hX => ?_
 (repeat (refine aA q7x5 hX mixed rfl ?_; (simp [go_sem]; try (refine ⟨by kernel_rfl,?_⟩))))
 first | refine aP (c1) ?_ | refine aQ (c1) ?_
 try (simp [go_sem,n1]; try (refine ⟨by kernel_rfl,?_⟩))
 (repeat (refine aA q7x5 hX mixed rfl ?_; (simp [go_sem,n1]; try (refine ⟨by kernel_rfl,?_⟩))))
 refine aC (b :=decide (e = 1) || decide (l < w)) (by simp [go_sem,n1]) (fun hc => ?_) (fun hc => ?_)
 · have hc' : e = 1 ∨ l < w :=by simpa using hc
   rw [if_pos hc']
   (repeat (refine aA q7x5 hX mixed rfl ?_; (simp [go_sem]; try (refine ⟨by kernel_rfl,?_⟩))))
 · have hc' : ¬ (e = 1 ∨ l < w) :=by simpa using hc
   rw [if_neg hc']
   (repeat (refine aA q7x5 hX mixed rfl ?_; (simp [go_sem]; try (refine ⟨by kernel_rfl,?_⟩))))
   by_cases he : e = 0
   · rw [if_pos he]
     refine aC (b :=false) (by simp [go_sem,he]) (fun hb => by cases hb) (fun hb => ?_)
     (repeat (refine aA q7x5 hX mixed rfl ?_; (simp [go_sem,w1,w2]; try (refine ⟨by kernel_rfl,?_⟩))))
   · rw [if_neg he]
     refine aC (b :=true) (by simp [go_sem,he]) (fun hb => ?_) (fun hb => by cases hb)
     (repeat (refine aA q7x5 hX mixed rfl ?_; (simp [go_sem]; try (refine ⟨by kernel_rfl,?_⟩))))
def periodV (o f l : Int) : Int × Int :=if dayB o && dayB f then (if o < f then (0,26) else ((o - f) / l,0)) else (0,1)
theorem jA (o f l : Int) (hl : 1 ≤ l ∧ l ≤ 5000) : Means true Tryz.prog 12 [ii o,ii f,ii l] (t2 (periodV o f l)) :=by
 have c1 :=lV o
 have c2 :=lV f
 have c3 :=lV l
 have hdl : dayB l = true :=dX.2 (by omega)
 rw [hdl] at c3
 have n2 : ¬ l = 0 :=by omega
 cases h1 : dayB o with
 | false =>
   rw [h1] at c1
   refine aH true 35 [.tmp 6,.tmp 7] Tryz.func12 rfl rfl rfl (by simp) (by decide) rfl fun X hX => ?_
   (repeat (refine aA q7x7 hX mixed rfl ?_; (simp [go_sem]; try (refine ⟨by kernel_rfl,?_⟩))))
   first | refine aP (c1) ?_ | refine aQ (c1) ?_
   try (simp [go_sem,n2])
   first | refine cJ rfl ?_ | refine bO rfl ?_
   try (simp [go_sem,n2])
   first | refine cJ rfl ?_ | refine bO rfl ?_
   try (simp [go_sem,n2])
   refine aC (b :=true) (by simp [go_sem]) (fun hb => ?_) (fun hb => by cases hb)
   rw [show periodV o f l = (0,1) by simp [periodV,h1]]
   (repeat (refine aA q7x7 hX mixed rfl ?_; (simp [go_sem]; try (refine ⟨by kernel_rfl,?_⟩))))
 | true =>
   rw [h1] at c1
   have b1 :=dX.1 h1
   cases h2 : dayB f with
   | false =>
     rw [h2] at c2
     refine aH true 35 [.tmp 6,.tmp 7] Tryz.func12 rfl rfl rfl (by simp) (by decide) rfl fun X hX => ?_
     (repeat (refine aA q7x7 hX mixed rfl ?_; (simp [go_sem]; try (refine ⟨by kernel_rfl,?_⟩))))
     first | refine aP (c1) ?_ | refine aQ (c1) ?_
     try (simp [go_sem,n2])
     first | refine aX (fun hg => c2) ?_ | refine aW (fun hg => c2) ?_
     try (simp [go_sem,n2])
     first | refine cJ rfl ?_ | refine bO rfl ?_
     try (simp [go_sem,n2])
     refine aC (b :=true) (by simp [go_sem]) (fun hb => ?_) (fun hb => by cases hb)
     rw [show periodV o f l = (0,1) by simp [periodV,h1,h2]]
     (repeat (refine aA q7x7 hX mixed rfl ?_; (simp [go_sem]; try (refine ⟨by kernel_rfl,?_⟩))))
   | true =>
     rw [h2] at c2
     have b2 :=dX.1 h2
     refine aH true 35 [.tmp 6,.tmp 7] Tryz.func12 rfl rfl rfl (by simp) (by decide) rfl fun X hX => ?_
     (repeat (refine aA q7x7 hX mixed rfl ?_; (simp [go_sem]; try (refine ⟨by kernel_rfl,?_⟩))))
     first | refine aP (c1) ?_ | refine aQ (c1) ?_
     try (simp [go_sem,n2])
     first | refine aX (fun hg => c2) ?_ | refine aW (fun hg => c2) ?_
     try (simp [go_sem,n2])
     first | refine aX (fun hg => c3) ?_ | refine aW (fun hg => c3) ?_
     try (simp [go_sem,n2])
     refine aC (b :=false) (by simp [go_sem,n2]) (fun hb => by cases hb) (fun hb => ?_)
     (repeat (refine aA q7x7 hX mixed rfl ?_; (simp [go_sem]; try (refine ⟨by kernel_rfl,?_⟩))))
     by_cases hlt : o < f
     · refine aC (b :=true) (by simp [go_sem,hlt]) (fun hb => ?_) (fun hb => by cases hb)
       rw [show periodV o f l = (0,26) by simp [periodV,h1,h2,hlt]]
       (repeat (refine aA q7x7 hX mixed rfl ?_; (simp [go_sem]; try (refine ⟨by kernel_rfl,?_⟩))))
     · refine aC (b :=false) (by simp [go_sem,hlt]) (fun hb => by cases hb) (fun hb => ?_)
       have w1 :=w64 (x :=o - f) (by omega) (by omega)
       have hq :=td (a :=o - f) (b :=l) (by omega)
       have hdv : 0 ≤ (o - f) / l ∧ (o - f) / l ≤ o - f :=⟨Int.ediv_nonneg (by omega) (by omega),Int.ediv_le_self _ (by omega)⟩
       have w2 :=w64 (x :=(o - f) / l) (by omega) (by omega)
       rw [show periodV o f l = ((o - f) / l,0) by simp [periodV,h1,h2,hlt]]
       (repeat (refine aA q7x7 hX mixed rfl ?_; (simp [go_sem,n2,w1,hq,w2]; try (refine ⟨by kernel_rfl,?_⟩))))
def lateV (o p f l g : Int) : Int × Int :=if dayB o then (if (dueV p f l g).2 = 0 then (max 0 (o - (dueV p f l g).1),0) else (0,(dueV p f l g).2)) else (0,1)
theorem DB (o p f l g : Int) (hp : 0 ≤ p ∧ p ≤ 5000) (hl : 1 ≤ l ∧ l ≤ 5000) (hg : 0 ≤ g ∧ g ≤ 5000) : Means true Tryz.prog 74 [ii o,ii p,ii f,ii l,ii g] (t2 (lateV o p f l g)) :=by
 have c0 :=lV o
 have c1 :=zJ p f l g hp hl hg
 have hb : 0 ≤ (dueV p f l g).1 ∧ (dueV p f l g).1 ≤ 1048576 ∧ ((dueV p f l g).2 = 0 ∨ (dueV p f l g).2 = 1 ∨ (dueV p f l g).2 = 3) :=zN hp hl (by omega)
 unfold lateV
 generalize dueV p f l g = x at c1 hb
 obtain ⟨a,e⟩ :=x
 simp only [] at hb c1 ⊢
 refine aH true 32 [.tmp 10,.tmp 11] Tryz.func74 rfl rfl rfl (by simp) (by decide) rfl fun X hX => ?_
 (repeat (refine aA q7x4 hX mixed rfl ?_; (simp [go_sem]; try (refine ⟨by kernel_rfl,?_⟩))))
 first | refine aP (c0) ?_ | refine aQ (c0) ?_
 try (simp [go_sem]; try (refine ⟨by kernel_rfl,?_⟩))
 cases ho : dayB o with
 | false =>
   refine aC (b :=true) (by simp [go_sem,ho]) (fun hb => ?_) (fun hb => by cases hb)
   (repeat (refine aA q7x4 hX mixed rfl ?_; (simp [go_sem]; try (refine ⟨by kernel_rfl,?_⟩))))
 | true =>
   have b1 :=dX.1 ho
   refine aC (b :=false) (by simp [go_sem,ho]) (fun hb => by cases hb) (fun hb => ?_)
   (repeat (refine aA q7x4 hX mixed rfl ?_; (simp [go_sem]; try (refine ⟨by kernel_rfl,?_⟩))))
   first | refine aP (c1) ?_ | refine aQ (c1) ?_
   try (simp [go_sem]; try (refine ⟨by kernel_rfl,?_⟩))
   by_cases he : e = 0
   · (try rw [if_pos rfl]); (try rw [if_pos he])
     (repeat (refine aA q7x4 hX mixed rfl ?_; (simp [go_sem]; try (refine ⟨by kernel_rfl,?_⟩))))
     refine aC (b :=false) (by simp [go_sem,he]) (fun hb => by cases hb) (fun hb => ?_)
     have w1 :=w64 (x :=o - a) (by omega) (by omega)
     (repeat (refine aA q7x4 hX mixed rfl ?_; (simp [go_sem,w1]; try (refine ⟨by kernel_rfl,?_⟩))))
   · (try rw [if_pos rfl]); (try rw [if_neg he])
     (repeat (refine aA q7x4 hX mixed rfl ?_; (simp [go_sem]; try (refine ⟨by kernel_rfl,?_⟩))))
     refine aC (b :=true) (by simp [go_sem,he]) (fun hb => ?_) (fun hb => by cases hb)
     (repeat (refine aA q7x4 hX mixed rfl ?_; (simp [go_sem]; try (refine ⟨by kernel_rfl,?_⟩))))
structure Cn where
 a : Int
 b : Int
 n : Int
 deriving DecidableEq
abbrev cn (c : Cn) : AV :=.agg [ii c.a,ii c.b,ii c.n]
@[go_sem] theorem DC {L : List Cn} {k : Nat} (h : k < L.length) : nth (L.map cn) k = cn L[k] :=cX cn h
def calL (p w g : Int) : List Cn :=[⟨2,0,p - 1⟩,⟨0,2,1 - p⟩,⟨1,2,1 - w⟩,⟨2,1,w - 1⟩,⟨0,1,0⟩,⟨3,2,g⟩,⟨2,3,-g⟩,⟨4,2,p⟩,⟨2,4,-p⟩,⟨3,4,0⟩]
set_option maxRecDepth 20000 in
theorem lF (b : Bl) (h : OkB b) : Means true Tryz.prog 14 [bl b] (.sl ((calL b.period b.wait b.grace).map cn)) :=by
 have c1 :=fY b h
 have hp :=h.period
 have hw :=h.wait
 have hg :=h.grace
 have w1 :=w64 (x :=b.period - 1) (by omega) (by omega)
 have w2 :=w64 (x :=1 - b.period) (by omega) (by omega)
 have w3 :=w64 (x :=1 - b.wait) (by omega) (by omega)
 have w4 :=w64 (x :=b.wait - 1) (by omega) (by omega)
 have w5 :=w64 (x :=-b.grace) (by omega) (by omega)
 have w6 :=w64 (x :=-b.period) (by omega) (by omega)
 refine aH true 39 [.tmp 2] Tryz.func14 rfl rfl rfl (by simp) (by decide) rfl fun X hX => ?_
 (repeat (refine aA [0,1,2,5] hX mixed rfl ?_; (simp [go_sem]; try (refine ⟨by kernel_rfl,?_⟩))))
 first | refine aP (c1) ?_ | refine aQ (c1) ?_
 try (simp [go_sem]; try (refine ⟨by kernel_rfl,?_⟩))
 refine aC (b :=false) (by simp [go_sem]) (fun hb => by cases hb) (fun hb => ?_)
 (repeat (refine aA [0,1,2,5] hX mixed rfl ?_; (simp [go_sem,w1,w2,w3,w4,w5,w6]; try (refine ⟨by kernel_rfl,?_⟩))))
 simp [calL]
end Go.Proofs.YtaolljbpencjnaaGreatDoor

namespace Go.Proofs.YtaolljbpencjnaaGreatDoor
def insS (x : Int) (P : List Int) : List Int :=P.takeWhile (fun e => decide (e ≤ x)) ++ x :: P.dropWhile (fun e => decide (e ≤ x))
def sortS (X : List Int) : List Int :=X.foldl (fun P x => insS x P) []
theorem iB (X : List Int) (x : Int) : sortS (X ++ [x]) = insS x (sortS X) :=by unfold sortS; rw [List.foldl_append]; rfl
theorem wK (x : Int) (P : List Int) : (insS x P).Perm (x :: P) :=by
 unfold insS
 refine List.perm_middle.trans ?_
 rw [List.takeWhile_append_dropWhile]
theorem eL (X : List Int) : (sortS X).Perm X :=by
 have : ∀ k,k ≤ X.length → (sortS (X.take k)).Perm (X.take k) :=by
  intro k
  induction k with
  | zero => intro _; exact .refl _
  | succ k ih =>
    intro hk
    rw [List.take_succ_eq_append_getElem (by omega),iB]
    exact (wK _ _).trans (((ih (by omega)).cons _).trans (List.perm_append_singleton _ _).symm)
 have :=this X.length (Nat.le_refl _)
 rwa [List.take_length] at this
theorem uL {x : Int} : ∀ {P : List Int},P.Pairwise (· ≤ ·) → ∀ e ∈ P.dropWhile (fun e => decide (e ≤ x)),x < e
 | [],_,e,he => by simp at he
 | y :: P,h,e,he => by
   rw [List.pairwise_cons] at h
   rw [List.dropWhile_cons] at he
   split at he
   · exact uL h.2 e he
   · rename_i hy
     have hy : x < y :=by simpa using hy
     rcases List.mem_cons.1 he with rfl | he
     · exact hy
     · have :=h.1 e he; omega
theorem BP {x : Int} {P : List Int} : ∀ e ∈ P.takeWhile (fun e => decide (e ≤ x)),e ≤ x :=fun e he => by
 have :=List.all_takeWhile (p :=fun e => decide (e ≤ x)) (l :=P)
 simpa using List.all_eq_true.1 this e he
theorem rA {x : Int} {P : List Int} (h : P.Pairwise (· ≤ ·)) : (insS x P).Pairwise (· ≤ ·) :=by
 unfold insS
 have hs :=h
 rw [← List.takeWhile_append_dropWhile (p :=fun e => decide (e ≤ x)) (l :=P)] at hs
 rw [List.pairwise_append] at hs ⊢
 refine ⟨hs.1,List.pairwise_cons.2 ⟨fun e he => ?_,hs.2.1⟩,fun a ha b hb => ?_⟩
 · have :=uL h e he; omega
 · rcases List.mem_cons.1 hb with rfl | hb
   · exact BP a ha
   · exact hs.2.2 a ha b hb
theorem j8 (X : List Int) : (sortS X).Pairwise (· ≤ ·) :=by
 have : ∀ k,k ≤ X.length → (sortS (X.take k)).Pairwise (· ≤ ·) :=by
  intro k
  induction k with
  | zero => intro _; exact List.Pairwise.nil
  | succ k ih =>
    intro hk
    rw [List.take_succ_eq_append_getElem (by omega),iB]
    exact rA (ih (by omega))
 have :=this X.length (Nat.le_refl _)
 rwa [List.take_length] at this
theorem nE (X : List Int) : (sortS X).length = X.length :=(eL X).length_eq
theorem uM {x : Int} : ∀ {P : List Int} (k : Nat),k ≤ P.length → (∀ e ∈ P.take k,e ≤ x) → (∀ e ∈ P.drop k,x < e) → insS x P = P.take k ++ x :: P.drop k
 | [],k,_,_,_ => by simp [insS]
 | y :: P,0,_,_,h2 => by
   have : ¬ y ≤ x :=by have :=h2 y (by simp); omega
   simp [insS,this]
 | y :: P,k + 1,hk,h1,h2 => by
   have hy : y ≤ x :=h1 y (by simp)
   have ih :=uM (x :=x) k (by simpa using hk) (fun e he => h1 e (by simp [he])) (fun e he => h2 e (by simpa using he))
   unfold insS at ih ⊢
   rw [List.takeWhile_cons_of_pos (by simpa using hy),List.dropWhile_cons_of_pos (by simpa using hy)]
   simp only [List.cons_append,List.take_succ_cons,List.drop_succ_cons,ih]
def rowY (s : List Int) (x : Int) (post : List Int) (k : Nat) : List Int :=(s.take k ++ x :: s.drop k) ++ post
theorem zO {s : List Int} {x : Int} {post : List Int} {k : Nat} (h : k ≤ s.length) : (rowY s x post k).length = s.length + 1 + post.length :=by
 simp [rowY]; omega
theorem BQ {s : List Int} {x : Int} {post : List Int} {k : Nat} (h : k ≤ s.length) (hl : k < (rowY s x post k).length) : (rowY s x post k)[k] = x :=by
 simp only [rowY]
 rw [List.getElem_append_left (by simp; omega),List.getElem_append_right (by simp; omega)]
 simp [Nat.min_eq_left h]
theorem wL {s : List Int} {x : Int} {post : List Int} {k : Nat} (h : k < s.length) (hl : k < (rowY s x post (k + 1)).length) : (rowY s x post (k + 1))[k] = s[k] :=by
 simp only [rowY]
 rw [List.getElem_append_left (by simp; omega),List.getElem_append_left (by simp; omega)]
 simp
theorem wM {s : List Int} {x : Int} {post : List Int} {k : Nat} (h : k < s.length) : ((rowY s x post (k + 1)).set (k + 1) s[k]).set k x = rowY s x post k :=by
 have e1 : s.take (k + 1) = s.take k ++ [s[k]] :=List.take_succ_eq_append_getElem h
 have e2 : s.drop k = s[k] :: s.drop (k + 1) :=List.drop_eq_getElem_cons h
 have hk : (s.take k).length = k :=by simp; omega
 simp only [rowY,e1,e2,List.append_assoc]
 rw [List.set_append_right _ _ (by omega),List.set_append_right _ _ (by omega),hk]
 congr 1
 rw [show k + 1 - k = 1 by omega,show k - k = 0 by omega]
 rfl
def ddN (Y : List Int) : Nat → List Int
 | 0 => []
 | n + 1 => if n ≠ 0 ∧ Y.getD n 0 = Y.getD (n - 1) 0 then ddN Y n else ddN Y n ++ [Y.getD n 0]
theorem jB {Y : List Int} {n : Nat} (h0 : n ≠ 0) (h : Y.getD n 0 = Y.getD (n - 1) 0) : ddN Y (n + 1) = ddN Y n :=by rw [ddN,if_pos ⟨h0,h⟩]
theorem jC {Y : List Int} {n : Nat} (h : ¬ (n ≠ 0 ∧ Y.getD n 0 = Y.getD (n - 1) 0)) : ddN Y (n + 1) = ddN Y n ++ [Y.getD n 0] :=by rw [ddN,if_neg h]
theorem xW (Y : List Int) : ∀ n,(ddN Y n).length ≤ n
 | 0 => Nat.le_refl _
 | n + 1 => by
   rw [ddN]
   have :=xW Y n
   split
   · omega
   · simp; exact this
theorem zP {Y : List Int} {k : Nat} (h : (ddN Y k).length < k) : ∀ d,(ddN Y (k + d)).length < k + d
 | 0 => h
 | d + 1 => by
   have :=zP h d
   show (ddN Y ((k + d) + 1)).length < _
   rw [ddN]
   split
   · omega
   · simp; omega
theorem gD {Y : List Int} {n : Nat} (h : n < Y.length) : Y.getD n 0 = Y[n] :=by rw [List.getD_eq_getElem?_getD,List.getElem?_eq_getElem h]; rfl
theorem gH {Y : List Int} : ∀ {n : Nat},n ≤ Y.length → ∀ e,e ∈ ddN Y n ↔ e ∈ Y.take n
 | 0,_,e => by simp [ddN]
 | n + 1,h,e => by
   have ih :=gH (Y :=Y) (n :=n) (by omega) e
   have hnl : n < Y.length :=by omega
   have hg : Y.getD n 0 = Y[n] :=gD hnl
   rw [List.take_succ_eq_append_getElem (by omega),List.mem_append,List.mem_singleton]
   by_cases hc : n ≠ 0 ∧ Y.getD n 0 = Y.getD (n - 1) 0
   · rw [jB hc.1 hc.2,ih]
     refine ⟨.inl,fun hh => hh.elim id fun he => ?_⟩
     have hg2 : Y.getD (n - 1) 0 = Y[n - 1] :=gD (by omega)
     rw [he,← hg,hc.2,hg2]
     exact List.mem_take_iff_getElem.2 ⟨n - 1,by omega,rfl⟩
   · rw [jC hc,List.mem_append,List.mem_singleton,ih,hg]
theorem lK {Y : List Int} (h : Y.Pairwise (· ≤ ·)) : ∀ {n : Nat},n ≤ Y.length → (ddN Y n).Pairwise (· < ·)
 | 0,_ => List.Pairwise.nil
 | n + 1,hn => by
   have ih :=lK h (n :=n) (by omega)
   by_cases hc : n ≠ 0 ∧ Y.getD n 0 = Y.getD (n - 1) 0
   · rw [jB hc.1 hc.2]; exact ih
   · rw [jC hc,List.pairwise_append]
     refine ⟨ih,List.pairwise_singleton _ _,fun a ha b hb => ?_⟩
     rw [List.mem_singleton] at hb
     subst hb
     have ha :=(gH (by omega) a).1 ha
     obtain ⟨j,hj,rfl⟩ :=List.mem_take_iff_getElem.1 ha
     have hg : Y.getD n 0 = Y[n] :=gD (by omega)
     have hg2 : Y.getD (n - 1) 0 = Y[n - 1] :=gD (by omega)
     have h1 : Y[n - 1] ≤ Y[n] :=List.pairwise_iff_getElem.1 h (n - 1) n (by omega) (by omega) (by omega)
     have h2 : Y[j] ≤ Y[n - 1] :=by
      by_cases hj2 : j = n - 1
      · subst hj2; exact Int.le_refl _
      · exact List.pairwise_iff_getElem.1 h j (n - 1) (by omega) (by omega) (by omega)
     rw [hg,hg2] at hc
     rw [hg]
     have : n ≠ 0 :=by omega
     have : ¬ Y[n] = Y[n - 1] :=fun e => hc ⟨this,e⟩
     omega
end Go.Proofs.YtaolljbpencjnaaGreatDoor

namespace Go.Proofs.YtaolljbpencjnaaGreatDoor
open Go.RowKit Go.Ab
attribute [local irreducible] AWP Go.Ab.Sub Means MeansH CallK CallG CallT CallGT PanicH DefH
abbrev rowI (L : List Int) : Cell :=.row ⟨3,1,L.map ii⟩
@[go_sem] theorem zoneEs_ii (L : List Int) : zoneEs (L.map ii) = true :=fE _ _ (fun _ => rfl)
theorem C8 (n : Int) : Means true Tryz.prog 173 [ii n] (bb false) :=by
 refine aH true 6 [.tmp 2] Tryz.func173 rfl rfl rfl (by simp) (by decide) rfl fun X hX => ?_
 (repeat (refine aA [0,2] hX mixed rfl ?_; (simp [go_sem]; try (refine ⟨by kernel_rfl,?_⟩))))
theorem DD (a b : Int) : Means true Tryz.prog 153 [ii a,ii b] (bb (decide (a < b))) :=by
 have c1 :=C8 a
 have c2 :=C8 b
 refine aH true 17 [.tmp 4] Tryz.func153 rfl rfl rfl (by simp) (by decide) rfl fun X hX => ?_
 (repeat (refine aA [0,1,4] hX mixed rfl ?_; (simp [go_sem]; try (refine ⟨by kernel_rfl,?_⟩))))
 first | refine aP (c1) ?_ | refine aQ (c1) ?_
 try (simp [go_sem]; try (refine ⟨by kernel_rfl,?_⟩))
 first | refine cJ rfl ?_ | refine bO rfl ?_
 try (simp [go_sem]; try (refine ⟨by kernel_rfl,?_⟩))
 (repeat (refine aA [0,1,4] hX mixed rfl ?_; (simp [go_sem]; try (refine ⟨by kernel_rfl,?_⟩))))
set_option maxHeartbeats 4000000 in
set_option maxRecDepth 20000 in
theorem wN (Z : List Int) (hb : Z.length ≤ 100) :
  MeansH Tryz.prog 147 [rowI Z] [.ow 0,ii 0,ii Z.length] (.tup []) [rowI (sortS Z)] :=by
 refine aS 1 49 [] Tryz.func147 rfl rfl rfl (by simp) (by decide) rfl fun X hX => ?_
 (repeat (refine aB q7x3 hX mixed rfl ?_; (simp [go_sem]; (try simp (disch :=omega) only [w64,td,tm]); try (refine ⟨by kernel_rfl,?_⟩))))
 refine aV (fun i : Nat => ⟨mkE [(0,.ow 0),(1,ii 0),(2,ii Z.length),(6,ii i),(1000000,.ow 0)],[rowI (sortS (Z.take i) ++ Z.drop i)]⟩) (fun i => 1 ≤ i ∧ i ≤ Z.length + (1 - Z.length)) (fun i => Z.length - i) 1 ?_ ?_ ?_
 · have e : sortS (Z.take 1) ++ Z.drop 1 = Z :=by
    cases Z with
    | nil => rfl
    | cons a l => rfl
   rw [e]
   refine aM _ [.old 0 ⟨3,1,Z.map ii⟩] (by simp [go_sem]) ?_
   simp [go_sem]
 · omega
 · rintro i ⟨hi1,hi⟩
   have wi :=w64 (x :=(i : Int) + 1) (by omega) (by omega)
   (repeat (refine aB q7x3 hX mixed rfl ?_; (simp [go_sem]; try (refine ⟨by kernel_rfl,?_⟩))))
   refine aC (b :=decide (i < Z.length)) (by simp [go_sem]; try omega) (fun hc => ?_) (fun hc => ?_)
   · simp at hc
     obtain ⟨s,hs⟩ : ∃ s,sortS (Z.take i) = s :=⟨_,rfl⟩
     have hsl : s.length = i :=by rw [← hs,nE]; simp; omega
     have hss : s.Pairwise (· ≤ ·) :=by rw [← hs]; exact j8 _
     obtain ⟨x,hx⟩ : ∃ x,Z[i] = x :=⟨_,rfl⟩
     obtain ⟨po,hpo⟩ : ∃ po,Z.drop (i + 1) = po :=⟨_,rfl⟩
     have hpl : s.length + 1 + po.length ≤ 100 :=by rw [← hpo]; simp; omega
     have e0 : s ++ Z.drop i = rowY s x po s.length :=by
      rw [List.drop_eq_getElem_cons hc,hx,← hpo]
      simp [rowY]
     have e1 : sortS (Z.take (i + 1)) ++ Z.drop (i + 1) = insS x s ++ po :=by
      rw [List.take_succ_eq_append_getElem hc,iB,hs,hx,hpo]
     have e2 : i = s.length :=hsl.symm
     rw [hs,e0]
     (repeat (refine aB q7x3 hX mixed rfl ?_; (simp [go_sem]; try (refine ⟨by kernel_rfl,?_⟩))))
     refine aV (fun k : Nat => ⟨mkE [(0,.ow 0),(1,ii 0),(2,ii Z.length),(6,ii i),(7,ii k),(1000000,.ow 0)],[rowI (rowY s x po k)]⟩) (fun k => k ≤ s.length ∧ ∀ e ∈ s.drop k,x < e) (fun k => k) s.length ?_ ?_ ?_
     · refine aM _ [.old 0 ⟨3,1,(rowY s x po s.length).map ii⟩] (by simp [go_sem]) ?_
       simp [go_sem,e2]
     · simp
     · rintro k ⟨hk,hd⟩
       have hlen :=zO (x :=x) (post :=po) hk
       have done : (∀ e ∈ s.take k,e ≤ x) → rowY s x po k = sortS (Z.take (i + 1)) ++ Z.drop (i + 1) :=fun h1 => by rw [e1,uM k hk h1 hd]; rfl
       cases k with
       | zero =>
         have hdone :=done (by simp)
         have hi0 : 0 < (rowY s x po 0).length :=by omega
         have hwz : IntKind.i64.wrap (-1 : Int) = -1 :=by decide
         generalize rowY s x po 0 = D1 at *
         (repeat (refine aB q7x3 hX mixed rfl ?_; (simp [go_sem,hi0,hwz]; try (refine ⟨by kernel_rfl,?_⟩))))
         (repeat refine And.intro (by first | omega | (unfold maxLen; omega) | kernel_rfl | (refine ⟨by first | omega | (unfold maxLen; omega),by first | omega | (unfold maxLen; omega)⟩) | grind) ?_)
         first | refine cJ rfl ?_ | refine bO rfl ?_
         try (simp [go_sem]; try (refine ⟨by kernel_rfl,?_⟩))
         refine aC (b :=false) (by simp [go_sem]) (fun h => by cases h) (fun _ => ?_)
         (repeat (refine aB q7x3 hX mixed rfl ?_; (simp [go_sem,wi]; try (refine ⟨by kernel_rfl,?_⟩))))
         refine ⟨i + 1,⟨by omega,by omega⟩,by omega,?_⟩
         rw [← hdone]
         refine aM _ [.old 0 ⟨3,1,D1.map ii⟩] (by simp [go_sem]) ?_
         simp [go_sem]
       | succ k =>
         have hks : k < s.length :=by omega
         have hp1 : k + 1 < (rowY s x po (k + 1)).length :=by omega
         have hp2 : k < (rowY s x po (k + 1)).length :=by omega
         have hat : (rowY s x po (k + 1))[k + 1] = x :=BQ hk hp1
         have hpv : (rowY s x po (k + 1))[k] = s[k] :=wL hks hp2
         have hsw :=wM (x :=x) (post :=po) hks
         have ht1 : ((k : Int) + 1).toNat = k + 1 :=by omega
         have hwp : IntKind.i64.wrap (k : Int) = (k : Int) :=w64 (by omega) (by omega)
         have hcm :=DD x s[k]
         have hdk : x < s[k] → ∀ e ∈ s.drop k,x < e :=fun h e he => by
          rw [List.drop_eq_getElem_cons hks] at he
          rcases List.mem_cons.1 he with rfl | he
          · exact h
          · exact hd e he
         have hup : ¬ x < s[k] → ∀ e ∈ s.take (k + 1),e ≤ x :=fun h e he => by
          rw [List.take_succ_eq_append_getElem hks] at he
          rcases List.mem_append.1 he with he | he
          · obtain ⟨j,hj,rfl⟩ :=List.mem_take_iff_getElem.1 he
            have :=List.pairwise_iff_getElem.1 hss j k (by omega) hks (by omega)
            omega
          · simp at he; rw [he]; omega
         obtain ⟨y,hye⟩ : ∃ y,s[k] = y :=⟨_,rfl⟩
         rw [hye] at hpv hsw hcm hdk hup
         generalize rowY s x po (k + 1) = D1 at *
         have hzs : zoneEs (((D1.map ii).set (k + 1) (ii y)).set k (ii x)) = true :=by
          rw [← List.map_set,← List.map_set]; exact fE _ _ (fun _ => rfl)
         have hns : nth ((D1.map ii).set (k + 1) (ii y)) k = ii y :=by
          rw [← List.map_set,cX ii (by simpa using hp2),List.getElem_set_ne (by omega),hpv]
         (repeat (refine aB q7x3 hX mixed rfl ?_; (simp [go_sem,hp1,hp2,hat,hpv,ht1,hwp]; try (refine ⟨by kernel_rfl,?_⟩))))
         (repeat refine And.intro (by first | omega | (unfold maxLen; omega) | kernel_rfl | (refine ⟨by first | omega | (unfold maxLen; omega),by first | omega | (unfold maxLen; omega)⟩) | grind) ?_)
         first | refine aX (fun hg => hcm) ?_ | refine aW (fun hg => hcm) ?_
         try (simp [go_sem,hp1,hp2,hat,hpv,ht1,hwp]; try (refine ⟨by kernel_rfl,?_⟩))
         refine aC (b :=decide (x < y)) (by simp [go_sem]) (fun hd2 => ?_) (fun hd2 => ?_)
         · simp only [decide_eq_true_eq] at hd2
           (repeat (refine aB q7x3 hX mixed rfl ?_; (simp [go_sem,hp1,hp2,hat,hpv,ht1,hwp,hzs]; try (refine ⟨by kernel_rfl,?_⟩))))
           (repeat refine And.intro (by first | omega | (unfold maxLen; omega) | kernel_rfl | (refine ⟨by first | omega | (unfold maxLen; omega),by first | omega | (unfold maxLen; omega)⟩) | grind) ?_)
           (repeat (refine aB q7x3 hX mixed rfl ?_; (simp [go_sem,hp1,hp2,hat,hpv,ht1,hwp,hzs]; try (refine ⟨by kernel_rfl,?_⟩))))
           refine ⟨k,⟨by omega,hdk hd2⟩,by omega,?_⟩
           rw [← hsw]
           refine aM _ [.old 0 ⟨3,1,((D1.set (k + 1) y).set k x).map ii⟩] (by simp [go_sem,hns,hzs]) ?_
           simp [go_sem]
           try omega
         · simp only [decide_eq_false_iff_not] at hd2
           have hdone :=done (hup hd2)
           (repeat (refine aB q7x3 hX mixed rfl ?_; (simp [go_sem,wi]; try (refine ⟨by kernel_rfl,?_⟩))))
           refine ⟨i + 1,⟨by omega,by omega⟩,by omega,?_⟩
           rw [← hdone]
           refine aM _ [.old 0 ⟨3,1,D1.map ii⟩] (by simp [go_sem]) ?_
           simp [go_sem]
   · simp at hc
     have e : sortS (Z.take i) ++ Z.drop i = sortS Z :=by rw [List.take_of_length_le hc,List.drop_eq_nil_of_le hc,List.append_nil]
     rw [e]
     (repeat (refine aB q7x3 hX mixed rfl ?_; (simp [go_sem]; try (refine ⟨by kernel_rfl,?_⟩))))
     (try refine aK ?_); (try simp only [thenQ,blkQ,loopQ]); refine cM [(1000000,.ow 0)] [.old 0 ⟨3,1,(sortS Z).map ii⟩] ?_
     simp [go_sem]
end Go.Proofs.YtaolljbpencjnaaGreatDoor

namespace Go.Proofs.YtaolljbpencjnaaGreatDoor
open Go.RowKit Go.Ab
attribute [local irreducible] AWP Go.Ab.Sub Means MeansH CallK CallG CallT CallGT PanicH DefH
def lenE (n : Nat) : Int :=if n = 0 then 0 else if n < 2 then 1 else if n < 4 then 2 else if n < 8 then 3 else 4
set_option maxRecDepth 20000 in
theorem BR (n : Nat) (h : n ≤ 12) : Means true Tryz.prog 157 [.v (.int .u64 n)] (ii (lenE n)) :=by
 have n1 : ¬ (4294967296 : Int) ≤ n :=by omega
 have n2 : ¬ (65536 : Int) ≤ n :=by omega
 have n3 : ¬ (256 : Int) ≤ n :=by omega
 have w1 : IntKind.u8.wrap (n : Int) = n :=by
  have : n = 0 ∨ n = 1 ∨ n = 2 ∨ n = 3 ∨ n = 4 ∨ n = 5 ∨ n = 6 ∨ n = 7 ∨ n = 8 ∨ n = 9 ∨ n = 10 ∨ n = 11 ∨ n = 12 :=by omega
  rcases this with rfl | rfl | rfl | rfl | rfl | rfl | rfl | rfl | rfl | rfl | rfl | rfl | rfl <;> rfl
 refine aH true 25 [.tmp 2] Tryz.func157 rfl rfl rfl (by simp) (by decide) rfl fun X hX => ?_
 (repeat (refine aA [0,2,4,8,14] hX mixed rfl ?_; (simp [go_sem]; try (refine ⟨by kernel_rfl,?_⟩))))
 refine aC (b :=false) (by simp [go_sem,n1]) (fun hb => by cases hb) (fun hb => ?_)
 (repeat (refine aA [0,2,4,8,14] hX mixed rfl ?_; (simp [go_sem]; try (refine ⟨by kernel_rfl,?_⟩))))
 refine aC (b :=false) (by simp [go_sem,n2]) (fun hb => by cases hb) (fun hb => ?_)
 (repeat (refine aA [0,2,4,8,14] hX mixed rfl ?_; (simp [go_sem]; try (refine ⟨by kernel_rfl,?_⟩))))
 refine aC (b :=false) (by simp [go_sem,n3]) (fun hb => by cases hb) (fun hb => ?_)
 (repeat (refine aA [0,2,4,8,14] hX mixed rfl ?_; (simp [go_sem,w1]; try (refine ⟨by kernel_rfl,?_⟩))))
 refine ⟨by omega,?_⟩
 refine aK ?_
 have : n = 0 ∨ n = 1 ∨ n = 2 ∨ n = 3 ∨ n = 4 ∨ n = 5 ∨ n = 6 ∨ n = 7 ∨ n = 8 ∨ n = 9 ∨ n = 10 ∨ n = 11 ∨ n = 12 :=by omega
 rcases this with rfl | rfl | rfl | rfl | rfl | rfl | rfl | rfl | rfl | rfl | rfl | rfl | rfl <;> (simp [go_sem,lenE]; try decide)
theorem E7 (n : Nat) (h : n ≤ 12) : Means true Tryz.prog 123 [.v (.int .u64 n)] (ii (lenE n)) :=by
 have c1 :=BR n h
 refine aH true 8 [.tmp 2] Tryz.func123 rfl rfl rfl (by simp) (by decide) rfl fun X hX => ?_
 (repeat (refine aA [0,2] hX mixed rfl ?_; (simp [go_sem]; try (refine ⟨by kernel_rfl,?_⟩))))
 refine aC (b :=false) (by simp [go_sem]) (fun hb => by cases hb) (fun hb => ?_)
 (repeat (refine aA [0,2] hX mixed rfl ?_; (simp [go_sem]; try (refine ⟨by kernel_rfl,?_⟩))))
 first | refine aP (c1) ?_ | refine aQ (c1) ?_
 try (simp [go_sem]; try (refine ⟨by kernel_rfl,?_⟩))
 (repeat (refine aA [0,2] hX mixed rfl ?_; (simp [go_sem]; try (refine ⟨by kernel_rfl,?_⟩))))
theorem E8 (Z : List Int) (hb : Z.length ≤ 12) (r : Int) : MeansH Tryz.prog 122 [rowI Z] [.ow 0,ii 0,ii Z.length,ii r] (.tup []) [rowI (sortS Z)] :=by
 have c1 :=wN Z (by omega)
 have w :=w64 (x :=(Z.length : Int)) (by omega) (by omega)
 have hb2 : (Z.length : Int) ≤ 12 :=by omega
 refine aS 1 134 [] Tryz.func122 rfl rfl rfl (by simp) (by decide) rfl fun X hX => ?_
 (repeat (refine aB q7x1 hX mixed rfl ?_; (simp [go_sem]; try (refine ⟨by kernel_rfl,?_⟩))))
 refine aV (fun _ : Unit => ⟨mkE [(0,.ow 0),(1,ii 0),(2,ii Z.length),(1000000,.ow 0)],[rowI Z]⟩) (fun _ => True) (fun _ => 0) () ?_ trivial ?_
 · refine aM _ [.old 0 ⟨3,1,Z.map ii⟩] (by simp [go_sem]) ?_
   simp [go_sem]
 · rintro _ _
   (repeat (refine aB q7x1 hX mixed rfl ?_; (simp [go_sem,w]; try (refine ⟨by kernel_rfl,?_⟩))))
   refine aC (b :=true) (by simp [go_sem]; omega) (fun hb => ?_) (fun hb => by cases hb)
   (repeat (refine aB q7x1 hX mixed rfl ?_; (simp [go_sem]; try (refine ⟨by kernel_rfl,?_⟩))))
   first | refine aF [0] (c1) (by simp [go_sem]) ?_ | refine aD [0] (c1) (by simp [go_sem]) ?_ | refine aE [0] (c1) (by simp [go_sem]) ?_
   try (simp [go_sem]; try (refine ⟨by kernel_rfl,?_⟩))
   (repeat (refine aB q7x1 hX mixed rfl ?_; (simp [go_sem]; try (refine ⟨by kernel_rfl,?_⟩))))
   refine aK ?_; (try simp only [thenQ,blkQ,loopQ]); refine aJ [(1000000,.ow 0)] [.old 0 ⟨3,1,(sortS Z).map ii⟩] ?_
   simp [go_sem]
theorem CO (Z : List Int) (hb : Z.length ≤ 12) : MeansH Tryz.prog 90 [rowI Z] [.ow 0] (.tup []) [rowI (sortS Z)] :=by
 have c1 :=E7 Z.length hb
 have c2 :=E8 Z hb (lenE Z.length)
 have w : IntKind.u64.wrap (Z.length : Int) = Z.length :=by
  have : Z.length = 0 ∨ Z.length = 1 ∨ Z.length = 2 ∨ Z.length = 3 ∨ Z.length = 4 ∨ Z.length = 5 ∨ Z.length = 6 ∨ Z.length = 7 ∨ Z.length = 8 ∨ Z.length = 9 ∨ Z.length = 10 ∨ Z.length = 11 ∨ Z.length = 12 :=by omega
  rcases this with h | h | h | h | h | h | h | h | h | h | h | h | h <;> rw [h] <;> rfl
 refine aS 1 11 [] Tryz.func90 rfl rfl rfl (by simp) (by decide) rfl fun X hX => ?_
 (repeat (refine aB [0,2,1000000] hX mixed rfl ?_; (simp [go_sem,w]; try (refine ⟨by kernel_rfl,?_⟩))))
 first | refine aP (c1) ?_ | refine aQ (c1) ?_
 try (simp [go_sem]; try (refine ⟨by kernel_rfl,?_⟩))
 first | refine aF [0] (c2) (by simp [go_sem]) ?_ | refine aD [0] (c2) (by simp [go_sem]) ?_ | refine aE [0] (c2) (by simp [go_sem]) ?_
 try (simp [go_sem]; try (refine ⟨by kernel_rfl,?_⟩))
 (try refine aK ?_); (try simp only [thenQ,blkQ,loopQ]); refine cM [(1000000,.ow 0)] [.old 0 ⟨3,1,(sortS Z).map ii⟩] ?_
 simp [go_sem]
end Go.Proofs.YtaolljbpencjnaaGreatDoor

namespace Go.Proofs.YtaolljbpencjnaaGreatDoor
open Go.RowKit Go.Ab
attribute [local irreducible] AWP Go.Ab.Sub Means MeansH CallK CallG CallT CallGT PanicH DefH
def cpR (Y : List Int) : AV :=if (ddN Y Y.length).length = Y.length then .ow 0 else .wn 0 1 0 (ddN Y Y.length).length
def cpL (Y : List Int) : List Int :=if (ddN Y Y.length).length = Y.length then Y else ddN Y Y.length ++ List.replicate (Y.length - (ddN Y Y.length).length) 0
theorem kL {Y : List Int} (h : ddN Y Y.length = Y) : cpR Y = .ow 0 ∧ cpL Y = Y :=by unfold cpR cpL; rw [h]; simp
theorem uN {Y : List Int} (h : (ddN Y Y.length).length < Y.length) : cpR Y = .wn 0 1 0 (ddN Y Y.length).length ∧ cpL Y = ddN Y Y.length ++ List.replicate (Y.length - (ddN Y Y.length).length) 0 :=by
 unfold cpR cpL; rw [if_neg (by omega),if_neg (by omega)]; exact ⟨rfl,rfl⟩
set_option maxHeartbeats 4000000 in
set_option maxRecDepth 20000 in
theorem vR (Y : List Int) (hb : Y.length ≤ 100) : MeansH Tryz.prog 91 [rowI Y] [.ow 0] (cpR Y) [rowI (cpL Y)] :=by
 have gd : ∀ {n : Nat} (h : n < Y.length),Y.getD n 0 = Y[n] :=fun h => gD h
 refine aS 1 61 [.tmp 2] Tryz.func91 rfl rfl rfl (by simp) (by decide) rfl fun X hX => ?_
 (repeat (refine aB q7x0 hX mixed rfl ?_; (simp [go_sem]; try (refine ⟨by kernel_rfl,?_⟩))))
 refine aC (b :=decide (Y.length < 2)) (by simp [go_sem]; try omega) (fun hc => ?_) (fun hc => ?_)
 · simp at hc
   have e : ddN Y Y.length = Y :=by
    match Y,hc with
    | [],_ => rfl
    | [a],_ => rfl
    | a :: b :: l,h => simp at h; omega
   rw [(kL e).1,(kL e).2]
   (repeat (refine aB q7x0 hX mixed rfl ?_; (simp [go_sem]; try (refine ⟨by kernel_rfl,?_⟩))))
   refine aK ?_; (try simp only [thenQ,blkQ,loopQ]); refine aJ [(2,.ow 0),(1000000,.ow 0)] [.old 0 ⟨3,1,Y.map ii⟩] ?_
   simp [go_sem]
 simp at hc
 (repeat (refine aB q7x0 hX mixed rfl ?_; (simp [go_sem]; try (refine ⟨by kernel_rfl,?_⟩))))
 refine aV (fun k : Nat => ⟨mkE [(0,.ow 0),(3,ii k),(1000000,.ow 0)],[rowI Y]⟩) (fun k => 1 ≤ k ∧ k ≤ Y.length ∧ ddN Y k = Y.take k) (fun k => Y.length - k) 1 ?_ ?_ ?_
 · refine aM _ [.old 0 ⟨3,1,Y.map ii⟩] (by simp [go_sem]) ?_
   simp [go_sem]
 · refine ⟨Nat.le_refl _,by omega,?_⟩
   match Y,hc with
   | a :: l,_ => simp [ddN]
 · rintro k ⟨hk1,hk2,hk3⟩
   (repeat (refine aB q7x0 hX mixed rfl ?_; (simp [go_sem]; try (refine ⟨by kernel_rfl,?_⟩))))
   refine aC (b :=decide (k < Y.length)) (by simp [go_sem]; try omega) (fun hd => ?_) (fun hd => ?_)
   rotate_left
   · simp at hd
     have hkl : k = Y.length :=by omega
     have e : ddN Y Y.length = Y :=by rw [← hkl,hk3,hkl,List.take_length]
     rw [(kL e).1,(kL e).2]
     (repeat (refine aB q7x0 hX mixed rfl ?_; (simp [go_sem]; try (refine ⟨by kernel_rfl,?_⟩))))
     refine aK ?_; (try simp only [thenQ,blkQ,loopQ]); refine aJ [(2,.ow 0),(1000000,.ow 0)] [.old 0 ⟨3,1,Y.map ii⟩] ?_
     simp [go_sem]
   simp at hd
   obtain ⟨j,rfl⟩ : ∃ j,k = j + 1 :=⟨k - 1,by omega⟩
   have hj : j < Y.length :=by omega
   have wj :=w64 (x :=(j : Int)) (by omega) (by omega)
   have wj2 :=w64 (x :=(j : Int) + 1 + 1) (by omega) (by omega)
   have tj : ((j : Int) + 1).toNat = j + 1 :=by omega
   (repeat (refine aB q7x0 hX mixed rfl ?_; (simp [go_sem,hd,hj,wj,tj]; try (refine ⟨by kernel_rfl,?_⟩))))
   (repeat refine And.intro (by first | omega | (unfold maxLen; omega) | kernel_rfl | (refine ⟨by first | omega | (unfold maxLen; omega),by first | omega | (unfold maxLen; omega)⟩) | grind) ?_)
   refine aC (b :=decide (Y[j + 1] = Y[j])) (by simp [go_sem]) (fun he => ?_) (fun he => ?_)
   rotate_left
   · have he' : ¬ Y[j + 1] = Y[j] :=by simpa using he
     (repeat (refine aB q7x0 hX mixed rfl ?_; (simp [go_sem,wj2]; try (refine ⟨by kernel_rfl,?_⟩))))
     refine ⟨j + 1 + 1,⟨by omega,by omega,?_⟩,by omega,?_⟩
     · rw [jC (by rw [gd hd,show j + 1 - 1 = j by omega,gd hj]; exact fun h => he' h.2),hk3,gd hd,← List.take_succ_eq_append_getElem hd]
     · refine aM _ [.old 0 ⟨3,1,Y.map ii⟩] (by simp [go_sem]) ?_
       simp [go_sem]
   have he' : Y[j + 1] = Y[j] :=by simpa using he
   have hstart : ddN Y (j + 1 + 1) = Y.take (j + 1) :=by rw [jB (by omega) (by rw [gd hd,show j + 1 - 1 = j by omega,gd hj]; exact he'),hk3]
   have hlow : (ddN Y (j + 1 + 1)).length < j + 1 + 1 :=by rw [hstart]; simp; omega
   have hnl : (Y.length : Int) - ((j : Int) + 1) = ((Y.length - (j + 1) : Nat) : Int) :=by omega
   (repeat (refine aB q7x0 hX mixed rfl ?_; (simp [go_sem]; try (refine ⟨by kernel_rfl,?_⟩))))
   (repeat refine And.intro (by first | omega | (unfold maxLen; omega) | kernel_rfl | (refine ⟨by first | omega | (unfold maxLen; omega),by first | omega | (unfold maxLen; omega)⟩) | grind) ?_)
   (repeat (refine aB q7x0 hX mixed rfl ?_; (simp [go_sem]; try (refine ⟨by kernel_rfl,?_⟩))))
   refine aV (fun (p : Nat × Nat × List Int) => ⟨mkE [(0,.ow 0),(3,ii p.2.1),(4,.wn 0 1 (j + 1) (Y.length - (j + 1))),(5,ii p.1),(1000000,.ow 0)],[rowI p.2.2]⟩)
    (fun p => 1 ≤ p.1 ∧ j + 1 + p.1 ≤ Y.length ∧ p.2.2.length = Y.length ∧ p.2.2.take p.2.1 = ddN Y (j + 1 + p.1) ∧ p.2.1 = (ddN Y (j + 1 + p.1)).length ∧ p.2.2.drop (j + p.1) = Y.drop (j + p.1)) (fun p => Y.length - p.1) (1,j + 1,Y) ?_ ?_ ?_
   · refine aM _ [.old 0 ⟨3,1,Y.map ii⟩] (by simp [go_sem,tj]) ?_
     simp [go_sem,tj]
     try omega
   · refine ⟨Nat.le_refl _,hd,rfl,hstart.symm,?_,rfl⟩
     show j + 1 = (ddN Y (j + 1 + 1)).length
     rw [hstart]; simp; omega
   · rintro ⟨q,k,L⟩ ⟨i1,i2,i3,i4,i5,i6⟩
     simp only [] at i1 i2 i3 i4 i5 i6 ⊢
     have hkq : k ≤ j + q :=by
      have :=zP hlow (q - 1)
      rw [show j + 1 + 1 + (q - 1) = j + 1 + q by omega] at this
      omega
     have hmn : ((Y.length - (j + 1) : Nat) : Int) = (Y.length : Int) - (j + 1) :=by omega
     (repeat (refine aB q7x0 hX mixed rfl ?_; (simp [go_sem]; try (refine ⟨by kernel_rfl,?_⟩))))
     refine aC (b :=decide (q < Y.length - (j + 1))) (by simp [go_sem]; try omega) (fun hx => ?_) (fun hx => ?_)
     rotate_left
     · simp at hx
       have hq : j + 1 + q = Y.length :=by omega
       rw [hq] at i4 i5
       have hless : (ddN Y Y.length).length < Y.length :=by omega
       have hkl : k ≤ L.length :=by omega
       rw [(uN hless).1,(uN hless).2,← i5,← i4]
       have hki : (k : Int) ≤ L.length :=by omega
       have hk0 : k ≤ Y.length :=by omega
       (repeat (refine aB q7x0 hX mixed rfl ?_; (simp [go_sem,hkl,i3]; try (refine ⟨by kernel_rfl,?_⟩))))
       (repeat refine And.intro (by first | omega | (unfold maxLen; omega) | kernel_rfl | (refine ⟨by first | omega | (unfold maxLen; omega),by first | omega | (unfold maxLen; omega)⟩) | grind) ?_)
       (repeat (refine aB q7x0 hX mixed rfl ?_; (simp [go_sem,hki,hkl,hk0,i3]; try (refine ⟨by kernel_rfl,?_⟩))))
       (repeat refine And.intro (by first | omega | (unfold maxLen; omega) | kernel_rfl | (refine ⟨by first | omega | (unfold maxLen; omega),by first | omega | (unfold maxLen; omega)⟩) | grind) ?_)
       refine aK ?_; (try simp only [thenQ,blkQ,loopQ]); refine aJ [(2,.wn 0 1 0 k),(1000000,.ow 0)] [.old 0 ⟨3,1,(L.take k ++ List.replicate (Y.length - k) 0).map ii⟩] ?_
       simp [go_sem,i3]
       try omega
     simp at hx
     obtain ⟨r,rfl⟩ : ∃ r,q = r + 1 :=⟨q - 1,by omega⟩
     have hx1 : j + 1 + (r + 1) < L.length :=by omega
     have hx2 : j + 1 + r < L.length :=by omega
     have g1 : L[j + 1 + (r + 1)] = Y[j + 1 + (r + 1)]'(by omega) :=by
      have h1 : (L.drop (j + (r + 1)))[1]? = (Y.drop (j + (r + 1)))[1]? :=by rw [i6]
      rw [List.getElem?_drop,List.getElem?_drop,show j + (r + 1) + 1 = j + 1 + (r + 1) by omega,List.getElem?_eq_getElem hx1,List.getElem?_eq_getElem (by omega)] at h1
      exact Option.some.inj h1
     have g2 : L[j + 1 + r] = Y[j + 1 + r]'(by omega) :=by
      have h1 : (L.drop (j + (r + 1)))[0]? = (Y.drop (j + (r + 1)))[0]? :=by rw [i6]
      rw [List.getElem?_drop,List.getElem?_drop,show j + (r + 1) + 0 = j + 1 + r by omega,List.getElem?_eq_getElem hx2,List.getElem?_eq_getElem (by omega)] at h1
      exact Option.some.inj h1
     have wr :=w64 (x :=(r : Int)) (by omega) (by omega)
     have wr2 :=w64 (x :=(r : Int) + 1 + 1) (by omega) (by omega)
     have wk :=w64 (x :=(k : Int) + 1) (by omega) (by omega)
     have hkL : k < L.length :=by omega
     have hxi : (r : Int) + 1 < ((Y.length - (j + 1) : Nat) : Int) :=by omega
     have hxr : (r : Int) < ((Y.length - (j + 1) : Nat) : Int) :=by omega
     generalize hya : Y[j + 1 + (r + 1)]'(by omega) = ya at g1
     generalize hyb : Y[j + 1 + r]'(by omega) = yb at g2
     have hyb2 : Y.getD (j + 1 + (r + 1) - 1) 0 = yb :=by rw [← hyb,← gd]; congr 1
     have hya2 : Y.getD (j + 1 + (r + 1)) 0 = ya :=by rw [← hya]; exact gd _
     (repeat (refine aB q7x0 hX mixed rfl ?_; (simp [go_sem,wr,hx1,hx2,g1,g2,hxi,hxr]; try (refine ⟨by kernel_rfl,?_⟩))))
     (repeat refine And.intro (by first | omega | (unfold maxLen; omega) | kernel_rfl | (refine ⟨by first | omega | (unfold maxLen; omega),by first | omega | (unfold maxLen; omega)⟩) | grind) ?_)
     refine aC (b :=!decide (ya = yb)) (by simp [go_sem]) (fun hy => ?_) (fun hy => ?_)
     · have hy' : ¬ ya = yb :=by simpa using hy
       have e : ddN Y (j + 1 + (r + 1) + 1) = ddN Y (j + 1 + (r + 1)) ++ [ya] :=by
        rw [jC (by rw [hya2,hyb2]; exact fun h => hy' h.2),hya2]
       have hzs : zoneEs ((L.map ii).set k (ii ya)) = true :=by rw [← List.map_set]; exact fE _ _ (fun _ => rfl)
       (repeat (refine aB q7x0 hX mixed rfl ?_; (simp [go_sem,wr,wr2,wk,hx1,hx2,g1,g2,hxi,hxr,hkL,hzs]; try (refine ⟨by kernel_rfl,?_⟩))))
       (repeat refine And.intro (by first | omega | (unfold maxLen; omega) | kernel_rfl | (refine ⟨by first | omega | (unfold maxLen; omega),by first | omega | (unfold maxLen; omega)⟩) | grind) ?_)
       (repeat (refine aB q7x0 hX mixed rfl ?_; (simp [go_sem,wr,wr2,wk,hx1,hx2,g1,g2,hxi,hxr,hkL,hzs]; try (refine ⟨by kernel_rfl,?_⟩))))
       refine ⟨r + 1 + 1,k + 1,L.set k ya,⟨by omega,by omega,by simpa using i3,?_,?_,?_⟩,by omega,?_⟩
       · show (L.set k ya).take (k + 1) = ddN Y (j + 1 + (r + 1) + 1)
         rw [e,← i4,List.take_succ_eq_append_getElem (by simpa using hkL),List.take_set_of_le (Nat.le_refl _)]
         simp
       · show k + 1 = (ddN Y (j + 1 + (r + 1) + 1)).length
         rw [e,i5]; simp
       · show (L.set k ya).drop (j + (r + 1) + 1) = Y.drop (j + (r + 1) + 1)
         rw [List.drop_set_of_lt (by omega)]
         have :=congrArg (List.drop 1) i6
         rwa [List.drop_drop,List.drop_drop] at this
       · refine aM _ [.old 0 ⟨3,1,(L.set k ya).map ii⟩] (by simp [go_sem,hzs]) ?_
         simp [go_sem,hzs]
         try omega
     · have hy' : ya = yb :=by simpa using hy
       have e : ddN Y (j + 1 + (r + 1) + 1) = ddN Y (j + 1 + (r + 1)) :=jB (by omega) (by rw [hya2,hyb2]; exact hy')
       (repeat (refine aB q7x0 hX mixed rfl ?_; (simp [go_sem,wr2]; try (refine ⟨by kernel_rfl,?_⟩))))
       refine ⟨r + 1 + 1,k,L,⟨by omega,by omega,i3,?_,?_,?_⟩,by omega,?_⟩
       · show L.take k = ddN Y (j + 1 + (r + 1) + 1)
         rw [e,i4]
       · show k = (ddN Y (j + 1 + (r + 1) + 1)).length
         rw [e,i5]
       · have :=congrArg (List.drop 1) i6
         rwa [List.drop_drop,List.drop_drop] at this
       · refine aM _ [.old 0 ⟨3,1,L.map ii⟩] (by simp [go_sem]) ?_
         simp [go_sem]
         try omega
end Go.Proofs.YtaolljbpencjnaaGreatDoor

namespace Go.Proofs.YtaolljbpencjnaaGreatDoor
open Go.RowKit Go.Ab
attribute [local irreducible] AWP Go.Ab.Sub Means MeansH CallK CallG CallT CallGT PanicH DefH CallU
set_option maxHeartbeats 4000000 in
theorem BS (f : FuncId) (E0 k0 : Nat) (c0 : AV) (p : Cn → Bool) (L : List Cn) (hl : L.length ≤ 100000) (hz0 : c0.flat.all AV.zone = true) (hf : ∀ x ∈ L,MeansH Tryz.prog f [.row ⟨E0,k0,[c0]⟩] [cn x,.el 0 k0 0 0] (bb (p x)) [.row ⟨E0,k0,[c0]⟩]) (hcall : callable Tryz.prog f = true) :
  MeansH Tryz.prog 67 [.row ⟨E0,k0,[c0]⟩] [.sl (L.map cn),.fn f [] [.el 0 k0 0 0]] (ii (match L.findIdx? p with | some n => (n : Int) | none => -1)) [.row ⟨E0,k0,[c0]⟩] :=by
 have hy0 : ∀ x ∈ c0.flat,x.zone = true :=by simpa using hz0
 refine aS 1 19 [.tmp 4] Tryz.func67 rfl rfl rfl (by simp) (by decide) rfl fun X hX => ?_
 (repeat (refine aB q7x6 hX mixed rfl ?_; (simp [go_sem]; try (refine ⟨by kernel_rfl,?_⟩))))
 refine aV (fun n : Nat => ⟨mkE [(0,.sl (L.map cn)),(1,.fn f [] [.el 0 k0 0 0]),(7,ii L.length),(8,ii n),(1000000,.ow 0)],[.row ⟨E0,k0,[c0]⟩]⟩) (fun n => n ≤ L.length ∧ ∀ k (h : k < L.length),k < n → p L[k] = false) (fun n => L.length - n) 0 ?_ ?_ ?_
 · refine aM _ [.old 0 ⟨E0,k0,[c0]⟩] (by simp [go_sem,hz0,hy0]) ?_
   simp [go_sem,hz0,hy0]
 · exact ⟨Nat.zero_le _,fun k h hk => absurd hk (by omega)⟩
 · rintro n ⟨h1,h2⟩
   (repeat (refine aB q7x6 hX mixed rfl ?_; (simp [go_sem]; try (refine ⟨by kernel_rfl,?_⟩))))
   refine aC (b :=decide (n < L.length)) (by simp [go_sem]) (fun hc => ?_) (fun hc => ?_)
   · simp at hc
     have hq :=DC hc
     have wk :=w64 (x :=(n : Int) + 1) (by omega) (by omega)
     (repeat (refine aB q7x6 hX mixed rfl ?_; (simp [go_sem,hc,hq,hcall]; try (refine ⟨by kernel_rfl,?_⟩))))
     refine aF [0] (hf L[n] (List.getElem_mem hc)) (by simp [go_sem,hz0,hy0]) ?_
     try (simp [go_sem,hz0]; try (refine ⟨by kernel_rfl,?_⟩))
     refine aC (b :=p L[n]) (by simp [go_sem]) (fun hs => ?_) (fun hs => ?_)
     · have e1 : L.findIdx? p = some n :=by
        rw [List.findIdx?_eq_some_iff_getElem]
        exact ⟨hc,hs,fun k hk => by rw [h2 k (by omega) hk]; simp⟩
       rw [e1]
       (repeat (refine aB q7x6 hX mixed rfl ?_; (simp [go_sem]; try (refine ⟨by kernel_rfl,?_⟩))))
       refine aK ?_; (try simp only [thenQ,blkQ,loopQ]); refine aJ [(4,ii n),(1000000,.ow 0)] [.old 0 ⟨E0,k0,[c0]⟩] ?_
       simp [go_sem,hz0,hy0]
     · (repeat (refine aB q7x6 hX mixed rfl ?_; (simp [go_sem,wk]; try (refine ⟨by kernel_rfl,?_⟩))))
       refine ⟨n + 1,⟨by omega,fun k h hk => ?_⟩,by omega,?_⟩
       · by_cases e : k = n
         · subst e; exact hs
         · exact h2 k h (by omega)
       · refine aM _ [.old 0 ⟨E0,k0,[c0]⟩] (by simp [go_sem,hz0,hy0]) ?_
         simp [go_sem,hz0,hy0]
   · simp at hc
     have e1 : L.findIdx? p = none :=by
      rw [List.findIdx?_eq_none_iff]
      intro x hx
      obtain ⟨k,hk,rfl⟩ :=List.getElem_of_mem hx
      exact h2 k hk (by omega)
     rw [e1]
     (repeat (refine aB q7x6 hX mixed rfl ?_; (simp [go_sem]; try (refine ⟨by kernel_rfl,?_⟩))))
     refine aK ?_; (try simp only [thenQ,blkQ,loopQ]); refine aJ [(4,ii (-1)),(1000000,.ow 0)] [.old 0 ⟨E0,k0,[c0]⟩] ?_
     simp [go_sem,hz0,hy0]
theorem uO (f : FuncId) (E0 k0 : Nat) (c0 : AV) (p : Cn → Bool) (L : List Cn) (hl : L.length ≤ 100000) (hz0 : c0.flat.all AV.zone = true) (hf : ∀ x ∈ L,MeansH Tryz.prog f [.row ⟨E0,k0,[c0]⟩] [cn x,.el 0 k0 0 0] (bb (p x)) [.row ⟨E0,k0,[c0]⟩]) (hcall : callable Tryz.prog f = true) :
  MeansH Tryz.prog 32 [.row ⟨E0,k0,[c0]⟩] [.sl (L.map cn),.fn f [] [.el 0 k0 0 0]] (bb (L.any p)) [.row ⟨E0,k0,[c0]⟩] :=by
 have hy0 : ∀ x ∈ c0.flat,x.zone = true :=by simpa using hz0
 have hI :=BS f E0 k0 c0 p L hl hz0 hf hcall
 refine aS 1 9 [.tmp 4] Tryz.func32 rfl rfl rfl (by simp) (by decide) rfl fun X hX => ?_
 (repeat (refine aB [0,1,4,1000000] hX mixed rfl ?_; (simp [go_sem]; try (refine ⟨by kernel_rfl,?_⟩))))
 refine aF [0] hI (by simp [go_sem,hz0,hy0]) ?_
 try (simp [go_sem,hz0]; try (refine ⟨by kernel_rfl,?_⟩))
 have e : decide (0 ≤ (match L.findIdx? p with | some n => (n : Int) | none => -1)) = L.any p :=by
  cases hf : L.findIdx? p with
  | none =>
    have : L.any p = false :=by
     rw [List.any_eq_false]
     intro x hx
     rw [List.findIdx?_eq_none_iff.1 hf x hx]; simp
    rw [this]; rfl
  | some n =>
    obtain ⟨h1,h2,_⟩ :=List.findIdx?_eq_some_iff_getElem.1 hf
    have : L.any p = true :=List.any_eq_true.2 ⟨L[n],List.getElem_mem h1,h2⟩
    rw [this]
    simp
 rw [← e]
 (repeat (refine aB [0,1,4,1000000] hX mixed rfl ?_; (simp [go_sem]; try (refine ⟨by kernel_rfl,?_⟩))))
 refine aK ?_; (try simp only [thenQ,blkQ,loopQ]); refine aJ [(4,bb (decide (0 ≤ (match L.findIdx? p with | some n => (n : Int) | none => -1)))),(1000000,.ow 0)] [.old 0 ⟨E0,k0,[c0]⟩] ?_
 simp [go_sem,hz0,hy0]
set_option maxHeartbeats 4000000 in
theorem zQ (f : FuncId)  (p : Int → Bool) (L : List Int) (hl : L.length ≤ 100000)  (hf : ∀ x ∈ L,Means true Tryz.prog f [ii x] (bb (p x))) (hcall : callable Tryz.prog f = true) :
  Means true Tryz.prog 66 [.sl (L.map ii),.v (.func (.func f) #[] #[])] (ii (match L.findIdx? p with | some n => (n : Int) | none => -1)) :=by
 refine aH true 19 [.tmp 4] Tryz.func66 rfl rfl rfl (by simp) (by decide) rfl fun X hX => ?_
 (repeat (refine aA q7x9 hX mixed rfl ?_; (simp [go_sem]; try (refine ⟨by kernel_rfl,?_⟩))))
 refine aV (fun n : Nat => ⟨mkE [(0,.sl (L.map ii)),(1,.v (.func (.func f) #[] #[])),(7,ii L.length),(8,ii n)],[]⟩) (fun n => n ≤ L.length ∧ ∀ k (h : k < L.length),k < n → p L[k] = false) (fun n => L.length - n) 0 ?_ ?_ ?_
 · refine aM _ [] (by simp [go_sem]) ?_
   simp [go_sem]
 · exact ⟨Nat.zero_le _,fun k h hk => absurd hk (by omega)⟩
 · rintro n ⟨h1,h2⟩
   (repeat (refine aA q7x9 hX mixed rfl ?_; (simp [go_sem]; try (refine ⟨by kernel_rfl,?_⟩))))
   refine aC (b :=decide (n < L.length)) (by simp [go_sem]) (fun hc => ?_) (fun hc => ?_)
   · simp at hc
     have hq :=oX hc
     have wk :=w64 (x :=(n : Int) + 1) (by omega) (by omega)
     (repeat (refine aA q7x9 hX mixed rfl ?_; (simp [go_sem,hc,hq,hcall]; try (refine ⟨by kernel_rfl,?_⟩))))
     refine aP (hf L[n] (List.getElem_mem hc)) ?_
     try (simp [go_sem]; try (refine ⟨by kernel_rfl,?_⟩))
     refine aC (b :=p L[n]) (by simp [go_sem]) (fun hs => ?_) (fun hs => ?_)
     · have e1 : L.findIdx? p = some n :=by
        rw [List.findIdx?_eq_some_iff_getElem]
        exact ⟨hc,hs,fun k hk => by rw [h2 k (by omega) hk]; simp⟩
       rw [e1]
       (repeat (refine aA q7x9 hX mixed rfl ?_; (simp [go_sem]; try (refine ⟨by kernel_rfl,?_⟩))))
     · (repeat (refine aA q7x9 hX mixed rfl ?_; (simp [go_sem,wk]; try (refine ⟨by kernel_rfl,?_⟩))))
       refine ⟨n + 1,⟨by omega,fun k h hk => ?_⟩,by omega,?_⟩
       · by_cases e : k = n
         · subst e; exact hs
         · exact h2 k h (by omega)
       · refine aM _ [] (by simp [go_sem]) ?_
         simp [go_sem]
   · simp at hc
     have e1 : L.findIdx? p = none :=by
      rw [List.findIdx?_eq_none_iff]
      intro x hx
      obtain ⟨k,hk,rfl⟩ :=List.getElem_of_mem hx
      exact h2 k hk (by omega)
     rw [e1]
     (repeat (refine aA q7x9 hX mixed rfl ?_; (simp [go_sem]; try (refine ⟨by kernel_rfl,?_⟩))))
theorem rB (f : FuncId)  (p : Int → Bool) (L : List Int) (hl : L.length ≤ 100000)  (hf : ∀ x ∈ L,Means true Tryz.prog f [ii x] (bb (p x))) (hcall : callable Tryz.prog f = true) :
  Means true Tryz.prog 30 [.sl (L.map ii),.v (.func (.func f) #[] #[])] (bb (L.any p)) :=by
 have hI :=zQ f  p L hl  hf hcall
 refine aH true 9 [.tmp 4] Tryz.func30 rfl rfl rfl (by simp) (by decide) rfl fun X hX => ?_
 (repeat (refine aA [0,1,4] hX mixed rfl ?_; (simp [go_sem]; try (refine ⟨by kernel_rfl,?_⟩))))
 first | refine aP (hI) ?_ | refine aQ (hI) ?_
 try (simp [go_sem]; try (refine ⟨by kernel_rfl,?_⟩))
 have e : decide (0 ≤ (match L.findIdx? p with | some n => (n : Int) | none => -1)) = L.any p :=by
  cases hf : L.findIdx? p with
  | none =>
    have : L.any p = false :=by
     rw [List.any_eq_false]
     intro x hx
     rw [List.findIdx?_eq_none_iff.1 hf x hx]; simp
    rw [this]; rfl
  | some n =>
    obtain ⟨h1,h2,_⟩ :=List.findIdx?_eq_some_iff_getElem.1 hf
    have : L.any p = true :=List.any_eq_true.2 ⟨L[n],List.getElem_mem h1,h2⟩
    rw [this]
    simp
 rw [← e]
 (repeat (refine aA [0,1,4] hX mixed rfl ?_; (simp [go_sem]; try (refine ⟨by kernel_rfl,?_⟩))))
def okC (n : Int) (c : Cn) : Prop :=(0 ≤ c.a ∧ c.a < n) ∧ (0 ≤ c.b ∧ c.b < n) ∧ -1099511627776 ≤ c.n ∧ c.n ≤ 1099511627776
set_option maxRecDepth 20000 in
theorem E9 (n : Int) (c : Cn) (h : okC n c) : MeansH Tryz.prog 65 [.row ⟨3,1,[ii n]⟩] [cn c,.el 0 1 0 0] (bb ((fun _ : Cn => false) c)) [.row ⟨3,1,[ii n]⟩] :=by
 obtain ⟨h1,h2,h3,h4⟩ :=h
 have e1 : ¬ min c.a c.b < 0 :=by omega
 have e2 : ¬ n ≤ max c.a c.b :=by omega
 have e3 : ¬ c.n < -1099511627776 :=by omega
 have e4 : ¬ 1099511627776 < c.n :=by omega
 refine aS 1 29 [.tmp 3] Tryz.func65 rfl rfl rfl (by simp) (by decide) rfl fun X hX => ?_
 (repeat (refine aB [0,1,2,3,1000000] hX mixed rfl ?_; (simp [go_sem,e1,e2,e3,e4]; try (refine ⟨by kernel_rfl,?_⟩))))
 refine aK ?_; (try simp only [thenQ,blkQ,loopQ]); refine aJ [(3,bb false),(1000000,.ow 0)] [.old 0 ⟨3,1,[ii n]⟩] ?_
 simp [go_sem,e1,e2,e3,e4]
 try omega
set_option maxRecDepth 20000 in
theorem qG (C : List Cn) (n : Int) (hn : 0 ≤ n ∧ n ≤ 200) (hC : C.length ≤ 2000) (h : ∀ c ∈ C,okC n c) : Means true Tryz.prog 29 [.sl (C.map cn),ii n] (bb true) :=by
 have c1 :=uO 65 3 1 (ii n) (fun _ => false) C (by omega) rfl (fun c hc => E9 n c (h c hc)) (by simp [go_sem])
 have hany : (C.any fun _ => false) = false :=by simp
 rw [hany] at c1
 refine aH true 20 [.tmp 4] Tryz.func29 rfl rfl rfl (by simp) (by decide) rfl fun X hX => ?_
 (repeat (refine aA [0,1,3,4,15] hX mixed rfl ?_; (simp [go_sem]; try (refine ⟨by kernel_rfl,?_⟩))))
 refine aC (b :=false) (by simp [go_sem]; omega) (fun hb => by cases hb) (fun hb => ?_)
 (repeat (refine aA [0,1,3,4,15] hX mixed rfl ?_; (simp [go_sem]; try (refine ⟨by kernel_rfl,?_⟩))))
 first | refine aF [0] (c1) (by simp [go_sem]) ?_ | refine aD [0] (c1) (by simp [go_sem]) ?_ | refine aE [0] (c1) (by simp [go_sem]) ?_
 try (simp [go_sem]; try (refine ⟨by kernel_rfl,?_⟩))
 (repeat (refine aA [0,1,3,4,15] hX mixed rfl ?_; (simp [go_sem]; try (refine ⟨by kernel_rfl,?_⟩))))
theorem DE (v : Int) (h : -1152921504606846976 ≤ v ∧ v ≤ 1152921504606846976) : Means true Tryz.prog 31 [ii v] (bb ((fun _ : Int => false) v)) :=by
 have e1 : ¬ v < -1152921504606846976 :=by omega
 have e2 : ¬ 1152921504606846976 < v :=by omega
 refine aH true 9 [.tmp 2] Tryz.func31 rfl rfl rfl (by simp) (by decide) rfl fun X hX => ?_
 (repeat (refine aA [0,2] hX mixed rfl ?_; (simp [go_sem,e1,e2]; try (refine ⟨by kernel_rfl,?_⟩))))
set_option maxRecDepth 20000 in
theorem DF (V : List Int) (c : Cn) (h : okC V.length c) (hV : ∀ v ∈ V,-1152921504606846976 ≤ v ∧ v ≤ 1152921504606846976) (hs : V.getD c.a.toNat 0 ≤ V.getD c.b.toNat 0 + c.n) :
  MeansH Tryz.prog 33 [.row ⟨40,1,[il V]⟩] [cn c,.el 0 1 0 0] (bb ((fun _ : Cn => false) c)) [.row ⟨40,1,[il V]⟩] :=by
 obtain ⟨h1,h2,h3,h4⟩ :=h
 have i1 : c.a.toNat < V.length :=by omega
 have i2 : c.b.toNat < V.length :=by omega
 rw [gD i1,gD i2] at hs
 have b1 :=hV _ (List.getElem_mem i1)
 have b2 :=hV _ (List.getElem_mem i2)
 have w :=w64 (x :=V[c.b.toNat] + c.n) (by omega) (by omega)
 have e : ¬ V[c.b.toNat] + c.n < V[c.a.toNat] :=by omega
 have h11 :=h1.1
 have h12 :=h1.2
 have h21 :=h2.1
 have h22 :=h2.2
 refine aS 1 18 [.tmp 3] Tryz.func33 rfl rfl rfl (by simp) (by decide) rfl fun X hX => ?_
 (repeat (refine aB [0,1,2,3,1000000] hX mixed rfl ?_; (simp [go_sem,i1,i2,w,e,h11,h12,h21,h22]; try (refine ⟨by kernel_rfl,?_⟩))))
 refine aK ?_; (try simp only [thenQ,blkQ,loopQ]); refine aJ [(3,bb false),(1000000,.ow 0)] [.old 0 ⟨40,1,[il V]⟩] ?_
 simp [go_sem,e]
 try omega
set_option maxRecDepth 20000 in
theorem zK (C : List Cn) (V : List Int) (hn : V.length ≤ 200) (hC : C.length ≤ 2000) (h : ∀ c ∈ C,okC V.length c) (hV : ∀ v ∈ V,-1152921504606846976 ≤ v ∧ v ≤ 1152921504606846976) (hs : ∀ c ∈ C,V.getD c.a.toNat 0 ≤ V.getD c.b.toNat 0 + c.n) :
  Means true Tryz.prog 13 [.sl (C.map cn),ii V.length,il V] (bb true) :=by
 have c0 :=qG C V.length (by omega) hC h
 have c1 :=rB 31 (fun _ => false) V (by omega) (fun v hv => DE v (hV v hv)) (by simp [go_sem])
 have c2 :=uO 33 40 1 (il V) (fun _ => false) C (by omega) rfl (fun c hc => DF V c (h c hc) hV (hs c hc)) (by simp [go_sem])
 have a1 : (V.any fun _ => false) = false :=by simp
 have a2 : (C.any fun _ => false) = false :=by simp
 rw [a1] at c1
 rw [a2] at c2
 refine aH true 25 [.tmp 6] Tryz.func13 rfl rfl rfl (by simp) (by decide) rfl fun X hX => ?_
 (repeat (refine aA [0,1,2,5,6,20] hX mixed rfl ?_; (simp [go_sem]; try (refine ⟨by kernel_rfl,?_⟩))))
 first | refine aP (c0) ?_ | refine aQ (c0) ?_
 try (simp [go_sem]; try (refine ⟨by kernel_rfl,?_⟩))
 first | refine aX (fun hg => c1) ?_ | refine aW (fun hg => c1) ?_
 try (simp [go_sem]; try (refine ⟨by kernel_rfl,?_⟩))
 refine aC (b :=false) (by simp [go_sem]) (fun hb => by cases hb) (fun hb => ?_)
 (repeat (refine aA [0,1,2,5,6,20] hX mixed rfl ?_; (simp [go_sem]; try (refine ⟨by kernel_rfl,?_⟩))))
 first | refine aF [0] (c2) (by simp [go_sem]) ?_ | refine aD [0] (c2) (by simp [go_sem]) ?_ | refine aE [0] (c2) (by simp [go_sem]) ?_
 try (simp [go_sem]; try (refine ⟨by kernel_rfl,?_⟩))
 (repeat (refine aA [0,1,2,5,6,20] hX mixed rfl ?_; (simp [go_sem]; try (refine ⟨by kernel_rfl,?_⟩))))
abbrev u6 (x : Int) : AV :=.v (.int .u64 x)
theorem wuu {x : Int} (h1 : 0 ≤ x) (h2 : x < 18446744073709551616) : IntKind.u64.wrap x = x :=by
 unfold IntKind.wrap
 simp [IntKind.bits,IntKind.signed]
 omega
theorem zR {x : Int} (h1 : 0 ≤ x) (h2 : x < 4294967296) : andI .u64 x 4294967295 = x :=by
 have hm : ∀ n : Nat,n &&& 4294967295 = n % 4294967296 :=fun n => Nat.and_two_pow_sub_one_eq_mod n 32
 unfold andI
 rw [BitVec.toNat_and,BitVec.toNat_ofInt,BitVec.toNat_ofInt]
 show IntKind.u64.wrap (((x % (2 ^ 64 : Nat)).toNat &&& ((4294967295 : Int) % (2 ^ 64 : Nat)).toNat : Nat) : Int) = _
 rw [show ((4294967295 : Int) % (2 ^ 64 : Nat)).toNat = 4294967295 by decide,hm,wuu (by omega) (by omega)]
 omega
theorem uQ (k : Int) (h : 0 ≤ k ∧ k ≤ 60) : Means true Tryz.prog 146 [u6 1,u6 k] (.tup [u6 0,u6 k]) :=by
 have a0 :=zR (x :=0) (by omega) (by omega)
 have a1 :=zR (x :=1) (by omega) (by omega)
 have a2 :=zR (x :=k) (by omega) (by omega)
 have w0 :=wuu (x :=0) (by omega) (by omega)
 have w1 :=wuu (x :=1) (by omega) (by omega)
 have w2 :=wuu (x :=k) (by omega) (by omega)
 have d : k.fdiv 4294967296 = 0 :=by rw [Int.fdiv_eq_ediv_of_nonneg _ (by omega)]; omega
 refine aH true 51 [.tmp 4,.tmp 5] Tryz.func146 rfl rfl rfl (by simp) (by decide) rfl fun X hX => ?_
 (repeat (refine aA [0,1,4,5,6,7,8,9,10,11,12,13] hX mixed rfl ?_; (simp [go_sem,a0,a1,a2,w0,w1,w2,d]; try (refine ⟨by kernel_rfl,?_⟩))))
theorem C9 (k : Int) (h : 0 ≤ k ∧ k ≤ 60) : Means true Tryz.prog 121 [u6 1,u6 k] (.tup [u6 0,u6 k]) :=by
 refine aH true 30 [.tmp 4,.tmp 5] Tryz.func121 rfl rfl rfl (by simp) (by decide) rfl fun X hX => ?_
 (repeat (refine aA [0,1,4,5,6,7,8,9] hX mixed rfl ?_; (simp [go_sem]; try (refine ⟨by kernel_rfl,?_⟩))))
 refine aC (b :=false) (by simp [go_sem]) (fun hb => by cases hb) (fun _ => ?_)
 (repeat (refine aA [0,1,4,5,6,7,8,9] hX mixed rfl ?_; (simp [go_sem]; try (refine ⟨by kernel_rfl,?_⟩))))
 first | refine aP (uQ k h) ?_ | refine aQ (uQ k h) ?_
 try (simp [go_sem]; try (refine ⟨by kernel_rfl,?_⟩))
 (repeat (refine aA [0,1,4,5,6,7,8,9] hX mixed rfl ?_; (simp [go_sem]; try (refine ⟨by kernel_rfl,?_⟩))))
def nums (k n : Nat) : List Int :=List.replicate n (-1) ++ List.replicate (k - n) 0
theorem zS {k n : Nat} (h : n ≤ k) : (nums k n).length = k :=by simp [nums]; omega
theorem zU (k : Nat) : nums k k = List.replicate k (-1) :=by simp [nums]
theorem wO {k n m : Nat} (h1 : m ≤ n) (h2 : n + m ≤ k) : (nums k n).take n ++ ((nums k n).take n).take m ++ (nums k n).drop (n + m) = nums k (n + m) :=by
 have e : (nums k n).take n = List.replicate n (-1) :=by unfold nums; rw [List.take_left' (by simp)]
 rw [e,List.take_replicate,Nat.min_eq_left h1]
 unfold nums
 rw [List.drop_append,List.drop_of_length_le (by simp),List.nil_append,List.drop_replicate,List.length_replicate]
 rw [show k - n - (n + m - n) = k - (n + m) by omega,← List.replicate_append_replicate]
set_option maxHeartbeats 4000000 in
set_option maxRecDepth 20000 in
theorem yE (k : Nat) (h : 1 ≤ k ∧ k ≤ 60) : MeansH Tryz.prog 89 [rowI [-1]] [.ow 0,ii k] (.ow 1) [rowI [-1],rowI (List.replicate k (-1))] :=by
 have w1 :=wuu (x :=1) (by omega) (by omega)
 have w2 :=wuu (x :=(k : Int)) (by omega) (by omega)
 have w3 :=w64 (x :=(k : Int)) (by omega) (by omega)
 refine aS 1 48 [.tmp 4] Tryz.func89 rfl rfl rfl (by simp) (by decide) rfl fun X hX => ?_
 (repeat (refine aB q7x2 hX mixed rfl ?_; (simp [go_sem]; try (refine ⟨by kernel_rfl,?_⟩))))
 refine aC (b :=false) (by simp [go_sem]) (fun hb => by cases hb) (fun _ => ?_)
 (repeat (refine aB q7x2 hX mixed rfl ?_; (simp [go_sem,w1,w2]; try (refine ⟨by kernel_rfl,?_⟩))))
 first | refine aP (C9 k (by omega)) ?_ | refine aQ (C9 k (by omega)) ?_
 try (simp [go_sem]; try (refine ⟨by kernel_rfl,?_⟩))
 (repeat (refine aB q7x2 hX mixed rfl ?_; (simp [go_sem]; try (refine ⟨by kernel_rfl,?_⟩))))
 refine aC (b :=false) (by simp [go_sem]; try omega) (fun hb => by cases hb) (fun _ => ?_)
 (repeat (refine aB q7x2 hX mixed rfl ?_; (simp [go_sem,w3]; try (refine ⟨by kernel_rfl,?_⟩))))
 (repeat refine And.intro (by first | omega | (unfold maxLen; omega) | kernel_rfl | (refine ⟨by first | omega | (unfold maxLen; omega),by first | omega | (unfold maxLen; omega)⟩) | grind) ?_)
 have h1m : min 1 k = 1 :=by omega
 (repeat (refine aB q7x2 hX mixed rfl ?_; (simp [go_sem,h1m]; try (refine ⟨by kernel_rfl,?_⟩))))
 refine aV (fun n : Nat => ⟨mkE [(7,.ow 1),(8,ii n),(1000000,.ow 0)],[rowI [-1],rowI (nums k n)]⟩) (fun n => 1 ≤ n ∧ n ≤ k) (fun n => k - n) 1 ?_ ?_ ?_
 · refine aM _ [.old 0 ⟨3,1,[-1].map ii⟩,.old 1 ⟨3,1,(nums k 1).map ii⟩] (by simp [go_sem,nums,h1m,List.map_replicate]) ?_
   simp [go_sem,h1m]
 · omega
 · rintro n ⟨h1,h2⟩
   have hlen :=zS h2
   obtain ⟨m,hm⟩ : ∃ m,min n (k - n) = m :=⟨_,rfl⟩
   have hcp :=wO (k :=k) (n :=n) (m :=m) (by omega) (by omega)
   generalize hR : nums k n = R at *
   have hmi : min n k = n :=by omega
   have hw :=w64 (x :=(n : Int) + m) (by omega) (by omega)
   (repeat (refine aB q7x2 hX mixed rfl ?_; (simp [go_sem,hlen]; try (refine ⟨by kernel_rfl,?_⟩))))
   refine aC (b :=decide (n < k)) (by simp [go_sem,hlen]) (fun hc => ?_) (fun hc => ?_)
   · simp at hc
     (repeat (first | refine bV ?_ | refine bS ?_ | ((first | refine cG q7x2 hX ?_ | refine bF ?_ | refine cH ?_); (simp [go_sem,hlen]; try (refine ⟨by kernel_rfl,?_⟩)))))
     refine lC [0,1,4,5,6,7,8,10,26,37,1000000] 0 hX mixed ?_; (simp [go_sem,hlen,h2,hmi,hm,hw]; try (refine ⟨by kernel_rfl,?_⟩))
     have hcpm : (nums k (n + m)).map ii = (R.map ii).take n ++ (((R.map ii).take n).take m ++ (R.map ii).drop (n + m)) :=by rw [← hcp]; simp
     refine ⟨fun a ha => ?_,⟨by kernel_rfl,by kernel_rfl⟩,n + m,by omega,by omega,?_⟩
     · obtain ⟨x,_,rfl⟩ :=List.mem_map.1 (List.mem_of_mem_take ha)
       exact ⟨rfl,rfl⟩
     · rw [← hcpm]
       refine aM _ [.old 0 ⟨3,1,[-1].map ii⟩,.old 1 ⟨3,1,(nums k (n + m)).map ii⟩] (by simp [go_sem]) ?_
       simp [go_sem]
   · have e : n = k :=by simp at hc; omega
     subst e
     rw [← hR,zU]
     (repeat (refine aB q7x2 hX mixed rfl ?_; (simp [go_sem]; try (refine ⟨by kernel_rfl,?_⟩))))
     refine aK ?_; (try simp only [thenQ,blkQ,loopQ]); refine aJ [(4,.ow 1),(1000000,.ow 0)] [.old 0 ⟨3,1,[-1].map ii⟩,.old 1 ⟨3,1,(List.replicate n (-1)).map ii⟩] ?_
     simp [go_sem]
end Go.Proofs.YtaolljbpencjnaaGreatDoor

