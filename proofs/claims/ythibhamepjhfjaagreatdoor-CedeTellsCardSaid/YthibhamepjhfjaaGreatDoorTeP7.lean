/-
  Lemmas for the statement at the top.
-/
import Derived.Test.YthibhamepjhfjaaGreatDoorTeP6
set_option linter.all false
namespace Go.Proofs.YthibhamepjhfjaaGreatDoor
def q20x0 : List Nat :=[0,1,4,5,6,7,8,9,10,11,12,13,14,15,16,17,22,27,48,65,80,137]
def q20x1 : List Nat :=[0,1,2,6,7,8,9,10,11,13,14,15,26,45,48,49,50,61,1000000]
def q20x2 : List Nat :=[0,1,4,5,6,7,8,9,10,11,18,19,20,21,25,26,27,28,1000000]
attribute [go_sem] q20x0 q20x1 q20x2
theorem eC : ∀ (a b : List Int),val (a ++ b) = val a + 1048576 ^ a.length * val b
 | [],b => by simp [val]
 | x :: xs,b => by
   simp only [List.cons_append,val,eC xs b,List.length_cons,Int.pow_succ]
   rw [show (1048576 : Int) ^ xs.length * 1048576 * val b = 1048576 * (1048576 ^ xs.length * val b) by rw [Int.mul_comm _ 1048576,Int.mul_assoc]]
   omega
theorem lN (l : List Int) (n : Nat) (h : n ≤ l.length) : val l = val (l.take n) + 1048576 ^ n * val (l.drop n) :=by
 have :=eC (l.take n) (l.drop n)
 rwa [List.take_append_drop,List.length_take,Nat.min_eq_left h] at this
def padD : Nat → Int → List Int
 | 0,_ => []
 | k + 1,x => x % 1048576 :: padD k (x / 1048576)
theorem wB : ∀ k x,(padD k x).length = k
 | 0,_ => rfl
 | k + 1,x => by simp [padD,wB]
theorem zO : ∀ k x,okD (padD k x)
 | 0,_ => cP
 | k + 1,x => aU.2 ⟨by omega,zO k _⟩
theorem wC : ∀ {l : List Int},okD l → padD l.length (val l) = l
 | [],_ => rfl
 | d :: l,h => by
   rw [aU] at h
   simp only [List.length_cons,padD,val]
   rw [show (d + 1048576 * val l) % 1048576 = d by omega,show (d + 1048576 * val l) / 1048576 = val l by omega,wC h.2]
theorem wD : ∀ (k : Nat) (x : Int),0 ≤ x → x < 1048576 ^ k → val (padD k x) = x
 | 0,x,h1,h2 => by simp [padD,val] at h2 ⊢; omega
 | k + 1,x,h1,h2 => by
   rw [Int.pow_succ] at h2
   have :=wD k (x / 1048576) (by omega) (by omega)
   simp only [padD,val,this]; omega
theorem GU {l : List Int} {k : Nat} (ho : okD l) (hl : l.length = k) {x : Int} (h : val l = x) : padD k x = l :=by
 subst hl h; exact wC ho
def smC (g : Int) : Int → List Int → List Int → List Int
 | c,[],_ => [c]
 | c,x :: xs,ys => (x - c - g * ys.headD 0) % 1048576 :: smC g (-((x - c - g * ys.headD 0) / 1048576)) xs ys.tail
theorem zP (g : Int) : ∀ (c : Int) (ws vs T : List Int) (c' : Int),vs.length ≤ ws.length → smC g c ws vs = T ++ [c'] → val T - 1048576 ^ ws.length * c' = val ws - c - g * val vs
 | c,[],vs,T,c',hl,h => by
   have hv : vs = [] :=by simpa using hl
   subst hv
   have : T = [] ∧ c' = c :=by
    cases T with
    | nil => simpa [smC,eq_comm] using h
    | cons t T => simp [smC] at h
   obtain ⟨rfl,rfl⟩ :=this
   simp [val]
 | c,x :: xs,vs,T,c',hl,h => by
   cases T with
   | nil =>
     have :=congrArg List.length h
     cases xs <;> simp [smC] at this
   | cons t T =>
     simp only [smC,List.cons_append,List.cons.injEq] at h
     obtain ⟨rfl,h⟩ :=h
     have ih :=zP g _ xs vs.tail T c' (by simp at hl ⊢; omega) h
     have hvs :=lO vs
     simp only [val,List.length_cons,Int.pow_succ]
     rw [show (1048576 : Int) ^ xs.length * 1048576 * c' = 1048576 * (1048576 ^ xs.length * c') by rw [Int.mul_comm _ 1048576,Int.mul_assoc]]
     rw [hvs,Int.mul_add,Int.mul_left_comm g 1048576]
     generalize (1048576 : Int) ^ xs.length * c' = p at *
     generalize g * val vs.tail = s at *
     generalize g * vs.headD 0 = t at *
     omega
theorem JE {g c x y : Int} (hg : 0 ≤ g) (hc : 0 ≤ c ∧ c ≤ g) (hx : 0 ≤ x ∧ x < 1048576) (hy : 0 ≤ y ∧ y < 1048576) :
  (0 ≤ g * y ∧ g * y ≤ g * 1048575) ∧ 0 ≤ -((x - c - g * y) / 1048576) ∧ -((x - c - g * y) / 1048576) ≤ g :=by
 have h1 : 0 ≤ g * y :=Int.mul_nonneg hg hy.1
 have h2 : g * y ≤ g * 1048575 :=Int.mul_le_mul_of_nonneg_left (by omega) hg
 refine ⟨⟨h1,h2⟩,?_⟩
 generalize g * y = p at *
 omega
theorem EH {P l l' V2 T3 q : Int} (hP : 0 < P) (hl : 0 ≤ l) (hl' : l' < P) (hq : 0 ≤ q) (h : q * (l + P * V2) ≤ l' + P * T3) : q * V2 ≤ T3 :=by
 refine Decidable.byContradiction fun hn => ?_
 have h1 : P * (T3 + 1) ≤ P * (q * V2) :=Int.mul_le_mul_of_nonneg_left (by omega) (by omega)
 have h2 : 0 ≤ q * l :=Int.mul_nonneg hq hl
 rw [Int.mul_add,Int.mul_left_comm q P V2] at h
 rw [Int.mul_add] at h1
 omega
theorem EI {P l l' V2 T3 q g : Int} (hP : 0 < P) (hl : 0 ≤ l ∧ l < P) (hl' : 0 ≤ l') (hg : 0 ≤ g ∧ g < 1048576) (h : g * V2 ≤ T3) (hB : 1048576 ≤ V2) (hq : l' + P * T3 < (q + 1) * (l + P * V2)) : g ≤ q + 1 :=by
 refine Decidable.byContradiction fun hn => ?_
 have hV : 0 < l + P * V2 :=by have :=Int.mul_pos hP (show 0 < V2 by omega); omega
 have h1 : (q + 2) * (l + P * V2) ≤ g * (l + P * V2) :=Int.mul_le_mul_of_nonneg_right (by omega) (by omega)
 have h2 : P * (g * V2) ≤ P * T3 :=Int.mul_le_mul_of_nonneg_left h (by omega)
 have h3 : g * l ≤ 1048576 * l :=Int.mul_le_mul_of_nonneg_right (by omega) hl.1
 have h4 : P * 1048576 ≤ P * V2 :=Int.mul_le_mul_of_nonneg_left hB (by omega)
 rw [show q + 2 = (q + 1) + 1 by omega,Int.add_mul (q + 1) 1,Int.one_mul] at h1
 rw [Int.mul_add g,Int.mul_left_comm g P V2] at h1
 generalize (q + 1) * (l + P * V2) = z at *
 omega
theorem pJ {V : List Int} {k : Nat} (h : V.length = k + 2) : val V = val (V.take k) + 1048576 ^ k * (V[k] + 1048576 * V[k + 1]) :=by
 rw [lN V k (by omega),List.drop_eq_getElem_cons (by omega),List.drop_eq_getElem_cons (by omega),List.drop_of_length_le (by omega)]
 simp [val]
theorem EJ {w : List Int} {k : Nat} (h : w.length = k + 3) : val w = val (w.take k) + 1048576 ^ k * ((w[k + 2] * 1048576 + w[k + 1]) * 1048576 + w[k]) :=by
 rw [lN w k (by omega),List.drop_eq_getElem_cons (by omega),List.drop_eq_getElem_cons (by omega),List.drop_eq_getElem_cons (by omega),List.drop_of_length_le (by omega)]
 have e : w[k + 2] = w[k + 1 + 1] :=rfl
 rw [e]
 simp only [val]
 congr 2
 omega
theorem JF {L V : List Int} {i n : Nat} (hL : okD L) (hV : okD V) (hn : V.length = n) (hi : i + n < L.length) (hr : val (L.drop (i + 1)) < val V) :
  val (L.drop (i + n + 1)) = 0 ∧ val ((L.drop i).take (n + 1)) = L[i] + 1048576 * val (L.drop (i + 1)) :=by
 have h1 :=dF hV
 rw [hn] at h1
 have h2 :=lN (L.drop (i + 1)) n (by simp; omega)
 rw [List.drop_drop,show i + 1 + n = i + n + 1 by omega] at h2
 have h3 :=aT (bL (bU hL (i + 1)) n)
 have h4 :=aT (bU hL (i + n + 1))
 have h0 : val (L.drop (i + n + 1)) = 0 :=by
  refine Decidable.byContradiction fun hne => ?_
  have :=Int.mul_le_mul_of_nonneg_left (show 1 ≤ val (L.drop (i + n + 1)) by omega) (show (0 : Int) ≤ 1048576 ^ n by have :=bV n; omega)
  omega
 refine ⟨h0,?_⟩
 rw [List.drop_eq_getElem_cons (show i < L.length by omega),List.take_succ_cons]
 simp only [val]
 rw [h0] at h2
 omega
theorem wE {L V : List Int} {i k : Nat} {q : Int} (hL : okD L) (hV : okD V) (hVl : V.length = k + 2) (hi : i + k + 2 < L.length) (hq0 : 0 ≤ q) (h1 : q * val V ≤ val ((L.drop i).take (k + 2 + 1)))
  (h2 : val ((L.drop i).take (k + 2 + 1)) < (q + 1) * val V) (hv1 : 1 ≤ V[k + 1]) :
  q * (V[k] + 1048576 * V[k + 1]) ≤ (L[i + k + 2] * 1048576 + L[i + k + 1]) * 1048576 + L[i + k] ∧ q * V[k + 1] ≤ L[i + k + 2] * 1048576 + L[i + k + 1] ∧
  ∀ g,0 ≤ g → g < 1048576 → g * (V[k] + 1048576 * V[k + 1]) ≤ (L[i + k + 2] * 1048576 + L[i + k + 1]) * 1048576 + L[i + k] → g ≤ q + 1 :=by
 have hwl : ((L.drop i).take (k + 2 + 1)).length = k + 3 :=by simp; omega
 have hw :=EJ hwl
 have e0 : ((L.drop i).take (k + 2 + 1))[k]'(by omega) = L[i + k] :=by simp
 have e1 : ((L.drop i).take (k + 2 + 1))[k + 1]'(by omega) = L[i + k + 1] :=by simp [Nat.add_assoc]
 have e2 : ((L.drop i).take (k + 2 + 1))[k + 2]'(by omega) = L[i + k + 2] :=by simp [Nat.add_assoc]
 rw [e0,e1,e2] at hw
 have hV2 :=pJ hVl
 have hlo1 :=aT (bL hV k)
 have hlo2 :=dF (bL hV k)
 have hwo :=bL (bL (bU hL i) (k + 2 + 1)) k
 have hlw1 :=aT hwo
 have hlw2 :=dF hwo
 rw [List.length_take,Nat.min_eq_left (by omega)] at hlo2 hlw2
 have hP :=bV k
 have hx :=bH hV (i :=k) (by omega)
 have hy :=bH hL (i :=i + k) (by omega)
 rw [hw,hV2] at h1 h2
 have hup :=EH hP hlo1 hlw2 hq0 h1
 refine ⟨hup,?_,fun g hg0 hg1 hg => EI hP ⟨hlo1,hlo2⟩ hlw1 ⟨hg0,hg1⟩ hg (by omega) h2⟩
 rw [Int.mul_add,Int.mul_left_comm] at hup
 have :=Int.mul_nonneg hq0 hx.1
 omega
theorem JG {V : List Int} {k : Nat} (hV : okD V) (hk : V.length = k + 2) (h : 1 ≤ V[k + 1]) : 1048576 ^ (k + 1) ≤ val V :=by
 have h2 :=pJ hk
 have h3 :=aT (bL hV k)
 have hx :=bH hV (i :=k) (by omega)
 have h4 :=Int.mul_le_mul_of_nonneg_left (show 1048576 ≤ V[k] + 1048576 * V[k + 1] by omega) (show (0 : Int) ≤ 1048576 ^ k by have :=bV k; omega)
 rw [Int.pow_succ]; omega
theorem BY {U V : List Int} {k m : Nat} (hU : okD U) (hV : okD V) (hk : V.length = k + 2) (hm : U.length + 1 = m + (k + 2)) (h : 1 ≤ V[k + 1]) : val ((U ++ [0]).drop m) < val V :=by
 have h1 :=JG hV hk h
 have h2 :=dF (bU hU m)
 rw [List.length_drop,show U.length - m = k + 1 by omega] at h2
 rw [List.drop_append_of_le_length (by omega),eC]
 simp only [val]
 omega
theorem EK {L Q u0 V : List Int} {i k m : Nat} {q W : Int} (hL : L.length = m + (k + 2)) (hLo : okD L) (hQ : Q.length = m) (hQo : okD (Q.drop (i + 1))) (hi : i < m) (hu : u0.length = m + (k + 2))
  (hLu : L.take (i + 1) = u0.take (i + 1)) (hV : okD V) (hk : V.length = k + 2) (hz : val (L.drop (i + (k + 2) + 1)) = 0) (hWv : W = L[i] + 1048576 * val (L.drop (i + 1))) (hq : 0 ≤ q ∧ q < 1048576)
  (h1 : q * val V ≤ W) (h2 : W < (q + 1) * val V) (hE : val (Q.drop (i + 1)) * val V + val (L.drop (i + 1)) = val (u0.drop (i + 1))) (L2 : List Int)
  (hL2 : L2 = L.take i ++ padD (k + 2 + 1) (W - q * val V) ++ L.drop (i + (k + 2 + 1))) :
  L2.length = m + (k + 2) ∧ okD L2 ∧ okD ((Q.set i q).drop i) ∧ L2.take i = u0.take i ∧ (0 ≤ val (L2.drop i) ∧ val (L2.drop i) < val V) ∧ val ((Q.set i q).drop i) * val V + val (L2.drop i) = val (u0.drop i) :=by
 have hVl :=dF hV
 rw [hk] at hVl
 rw [Int.add_mul,Int.one_mul] at h2
 have hpow : (1048576 : Int) ^ (k + 2 + 1) = 1048576 ^ (k + 2) * 1048576 :=Int.pow_succ _ _
 have hpp :=bV (k + 2)
 have hti : (L.take i).length = i :=by rw [List.length_take]; omega
 have hpad :=wD (k + 2 + 1) (W - q * val V) (by omega) (by omega)
 have hd : val (L2.drop i) = W - q * val V :=by
  rw [hL2,List.append_assoc,List.drop_append,List.drop_of_length_le (by omega),hti,Nat.sub_self,List.drop_zero,List.nil_append,eC,hpad]
  rw [show i + (k + 2 + 1) = i + (k + 2) + 1 by omega,hz,Int.mul_zero,Int.add_zero]
 have hQs : (Q.set i q).drop i = q :: Q.drop (i + 1) :=by
  rw [List.drop_eq_getElem_cons (by simp; omega),List.drop_set_of_lt (by omega)]
  simp
 have hui : u0[i]'(by omega) = L[i] :=by
  have e :=congrArg (fun l => l[i]?) hLu
  simp only [List.getElem?_take] at e
  rw [if_pos (by omega),if_pos (by omega),List.getElem?_eq_getElem (by omega),List.getElem?_eq_getElem (by omega)] at e
  exact (Option.some.inj e).symm
 refine ⟨?_,?_,?_,?_,?_,?_⟩
 · rw [hL2]; simp [wB]; omega
 · rw [hL2]; exact eD.2 ⟨eD.2 ⟨bL hLo i,zO _ _⟩,bU hLo _⟩
 · rw [hQs]; exact aU.2 ⟨hq,hQo⟩
 · rw [hL2,List.append_assoc,List.take_append_of_le_length (by omega),List.take_of_length_le (by omega)]
   have e :=congrArg (List.take i) hLu
   rwa [List.take_take,List.take_take,Nat.min_eq_left (by omega)] at e
 · rw [hd]; omega
 · rw [hd,hQs,List.drop_eq_getElem_cons (show i < u0.length by omega),hui]
   simp only [val]
   rw [Int.add_mul,Int.mul_assoc,← hE,hWv]
   omega
theorem GV {A b s Q R : Int} (hs : 0 < s) (hR : 0 ≤ R ∧ R < b * s) (h : Q * (b * s) + R = A * s) : Q = A / b ∧ R / s = A % b :=by
 have e : R = (A - Q * b) * s :=by rw [Int.sub_mul,Int.mul_assoc]; omega
 obtain ⟨h1,h2⟩ :=hR
 generalize ht : A - Q * b = t at *
 have h3 : 0 ≤ t :=by
  refine Decidable.byContradiction fun hn => ?_
  have :=Int.mul_lt_mul_of_pos_right (show t < 0 by omega) hs
  omega
 have h4 : t < b :=by
  refine Decidable.byContradiction fun hn => ?_
  have :=Int.mul_le_mul_of_nonneg_right (show b ≤ t by omega) (show 0 ≤ s by omega)
  omega
 have e2 : A = t + Q * b :=by omega
 rw [e2,Int.add_mul_ediv_right _ _ (by omega),Int.add_mul_emod_self_right,Int.ediv_eq_zero_of_lt h3 h4,Int.emod_eq_of_lt h3 h4,e,Int.mul_ediv_cancel _ (by omega)]
 exact ⟨by omega,rfl⟩
end Go.Proofs.YthibhamepjhfjaaGreatDoor

namespace Go.Proofs.YthibhamepjhfjaaGreatDoor
open Go.RowKit Go.Ab
attribute [local irreducible] AWP Go.Ab.Sub Means MeansH CallK CallG CallT CallGT
theorem pK {L : List Int} {i : Nat} (h : i < L.length) : (L.drop i).headD 0 = L[i] :=by rw [List.drop_eq_getElem_cons h]; rfl
theorem mG {L : List Int} {i : Nat} (h : ¬ i < L.length) : (L.drop i).headD 0 = 0 :=by rw [List.drop_of_length_le (by omega)]; rfl
theorem nI {L S : List Int} {i m j : Nat} (hS : S.length = L.length) (h1 : S.take i = L.take i) (h2 : S.drop (i + m) = L.drop (i + m)) (hj : j < m) (x : Int) :
  (S.set (i + j) x).take i = L.take i ∧ (S.set (i + j) x).drop (i + m) = L.drop (i + m) :=by
 rw [List.take_set_of_le (by omega),List.drop_set_of_lt (by omega)]
 exact ⟨h1,h2⟩
theorem EL {L S : List Int} {k : Nat} (h : S.drop k = L.drop k) (hk : k < S.length) (hk2 : k < L.length) : S[k] = L[k] ∧ S.drop (k + 1) = L.drop (k + 1) :=by
 rw [List.drop_eq_getElem_cons hk,List.drop_eq_getElem_cons hk2] at h
 exact List.cons.inj h
theorem kY {S : List Int} {i j : Nat} (h : i + j < S.length) (x : Int) : ((S.set (i + j) x).drop i).take (j + 1) = (S.drop i).take j ++ [x] :=by
 rw [List.drop_set,if_neg (by omega),show i + j - i = j by omega,eK (by simp; omega)]
theorem GW {L : List Int} {i m j : Nat} (h : i + j < L.length) (hj : j < m) : ((L.drop i).take m)[j]'(by simp; omega) = L[i + j] :=by simp
theorem wF {L : List Int} {i m j : Nat} (h : i + m ≤ L.length) (hj : j < m) : ((L.drop i).take m).drop j = L[i + j]'(by omega) :: ((L.drop i).take m).drop (j + 1) :=by
 rw [List.drop_eq_getElem_cons (by simp; omega),GW (by omega) hj]
theorem mod_one {p x y a b : Int} (hx : 0 ≤ x ∧ x < p) (hy : 0 ≤ y ∧ y < p) (h : x + p * a = y + p * b) : x = y :=by
 have e : (x + p * a) % p = (y + p * b) % p :=by rw [h]
 rwa [Int.add_mul_emod_self_left,Int.add_mul_emod_self_left,Int.emod_eq_of_lt hx.1 hx.2,Int.emod_eq_of_lt hy.1 hy.2] at e
theorem rE {L S L2 : List Int} {i n : Nat} {x : Int} (hi : i + n ≤ L.length) (hS : S.length = L.length) (h1 : S.take i = L.take i) (h2 : S.drop (i + n) = L.drop (i + n)) (ho : okD S) (hv : val ((S.drop i).take n) = x)
  (hL2 : L2 = L.take i ++ padD n x ++ L.drop (i + n)) : L2 = S :=by
 rw [hL2,GU (bL (bU ho i) n) (by simp; omega) hv,← h1,← h2,List.append_assoc,← List.drop_drop,List.take_append_drop,List.take_append_drop]
set_option maxHeartbeats 4000000 in
set_option maxRecDepth 20000 in
theorem EM (L v : List Int) (i n : Nat) (g q : Int) (hL : okD L) (hv : okD v) (hn : n = v.length + 1) (hi : i + n ≤ L.length) (hll : L.length ≤ 30000) (hg : 0 ≤ g ∧ g < 1048576) (hq : q ≤ g ∧ g ≤ q + 1)
  (h1 : q * val v ≤ val ((L.drop i).take n)) (h2 : val ((L.drop i).take n) < (q + 1) * val v) (L2 : List Int) (hL2 : L2 = L.take i ++ padD n (val ((L.drop i).take n) - q * val v) ++ L.drop (i + n)) :
  MeansH Tryz.prog 115 [.row ⟨3,1,L.map ii⟩] [.wn 0 1 i n,il v,ii g] (ii q) [.row ⟨3,1,L2.map ii⟩] :=by
 refine bP 1 78 [.tmp 6] Tryz.func115 rfl rfl rfl (by simp) (by decide) rfl fun X hX => ?_
 (repeat (refine aD q20x1 hX mixed rfl ?_;simp [go_sem]; (try simp (disch :=omega) only [w64,td,tm]);try refine ⟨by kernel_rfl,?_⟩))
 generalize hw : (L.drop i).take n = w at *
 have hwl : w.length = n :=by rw [← hw]; simp; omega
 refine aH (fun x : Nat × List Int × Int => ⟨mkE [(0,.wn 0 1 i n),(1,il v),(2,ii g),(7,ii x.2.2),(13,ii n),(14,ii x.1),(1000000,.ow 0)],[.row ⟨3,1,x.2.1.map ii⟩]⟩)
  (fun x => x.1 ≤ n ∧ x.2.1.length = L.length ∧ (0 ≤ x.2.2 ∧ x.2.2 ≤ g) ∧ okD x.2.1 ∧ x.2.1.take i = L.take i ∧ x.2.1.drop (i + n) = L.drop (i + n) ∧ x.2.1.drop (i + x.1) = L.drop (i + x.1) ∧
   smC g 0 w v = (x.2.1.drop i).take x.1 ++ smC g x.2.2 (w.drop x.1) (v.drop x.1)) (fun x => n - x.1) (0,L,0) ?_ ?_ ?_
 · refine aG _ [.old 0 ⟨3,1,L.map ii⟩] (by simp [go_sem]) ?_
   simp [go_sem]
 · simp; exact ⟨hg.1,hL⟩
 · rintro ⟨j,S,c⟩ ⟨hj,hS,hc,hSo,hS1,hS2,hS3,hE⟩
   simp only [] at hj hS hc hSo hS1 hS2 hS3 hE
   (repeat (refine aD q20x1 hX mixed rfl ?_;simp [go_sem];try refine ⟨by kernel_rfl,?_⟩))
   refine aB (b :=decide (j < n)) (by simp [go_sem]) (fun hd => ?_) (fun hd => ?_)
   · simp at hd
     have hij : i + j < S.length :=by omega
     have hij2 : i + j < L.length :=by omega
     have hx :=bH hL hij2
     obtain ⟨hS4,hS5⟩ :=EL hS3 hij hij2
     rw [← hw,wF hi hd,hw,smC] at hE
     (repeat (refine aD q20x1 hX mixed rfl ?_;simp [go_sem,hd,hij,hS4]; (try simp (disch :=omega) only [w64,td,tm]);try refine ⟨by kernel_rfl,?_⟩))
     by_cases hiC : j < v.length
     · have hy :=bH hv hiC
       rw [pK hiC,List.tail_drop] at hE
       obtain ⟨hb1,hb2⟩ :=JE hg.1 hc hx hy
       refine aK (by simp [go_sem,hiC]) ?_
       (repeat (refine aD q20x1 hX mixed rfl ?_;simp [go_sem,hiC,hij]; (try simp (disch :=omega) only [w64,td,tm]);try refine ⟨by kernel_rfl,?_⟩))
       refine ⟨hd,?_⟩
       (repeat (refine aD q20x1 hX mixed rfl ?_;simp [go_sem]; (try simp (disch :=omega) only [w64,td,tm]);try refine ⟨by kernel_rfl,?_⟩))
       obtain ⟨m1,m2⟩ :=nI hS hS1 hS2 hd ((L[i + j] - c - g * v[j]) % 1048576)
       refine ⟨j + 1,S.set (i + j) ((L[i + j] - c - g * v[j]) % 1048576),-((L[i + j] - c - g * v[j]) / 1048576),⟨by omega,by simpa using hS,hb2,gT hSo _ (by omega),m1,m2,?_,?_⟩,by omega,?_⟩
       · rw [← Nat.add_assoc,cE,hS5]
       · rw [hE,kY hij]; simp
       · refine aG _ [.old 0 ⟨3,1,(S.set (i + j) ((L[i + j] - c - g * v[j]) % 1048576)).map ii⟩] (by simp [go_sem]) ?_
         simp [go_sem]
     · rw [mG hiC,List.tail_drop,Int.mul_zero,Int.sub_zero] at hE
       refine aC (by simp [go_sem]; omega) ?_
       (repeat (refine aD q20x1 hX mixed rfl ?_;simp [go_sem,hij]; (try simp (disch :=omega) only [w64,td,tm]);try refine ⟨by kernel_rfl,?_⟩))
       refine ⟨hd,?_⟩
       (repeat (refine aD q20x1 hX mixed rfl ?_;simp [go_sem]; (try simp (disch :=omega) only [w64,td,tm]);try refine ⟨by kernel_rfl,?_⟩))
       obtain ⟨m1,m2⟩ :=nI hS hS1 hS2 hd ((L[i + j] - c) % 1048576)
       refine ⟨j + 1,S.set (i + j) ((L[i + j] - c) % 1048576),-((L[i + j] - c) / 1048576),⟨by omega,by simpa using hS,by omega,gT hSo _ (by omega),m1,m2,?_,?_⟩,by omega,?_⟩
       · rw [← Nat.add_assoc,cE,hS5]
       · rw [hE,kY hij]; simp
       · refine aG _ [.old 0 ⟨3,1,(S.set (i + j) ((L[i + j] - c) % 1048576)).map ii⟩] (by simp [go_sem]) ?_
         simp [go_sem]
   · have hjn : j = n :=by simp at hd; omega
     subst hjn
     rw [List.drop_of_length_le (l :=w) (by omega),smC] at hE
     have hvv :=zP g 0 w v _ c (by omega) hE
     rw [hwl] at hvv
     generalize hT : (S.drop i).take j = T at *
     have hTo : okD T :=by rw [← hT]; exact bL (bU hSo i) j
     have hTl : T.length = j :=by rw [← hT]; simp; omega
     have hT1 :=aT hTo
     have hT2 :=dF hTo
     rw [hTl] at hT2
     have hV1 :=aT hv
     have hV2 :=dF hv
     have hpp : (1048576 : Int) ^ j = 1048576 ^ v.length * 1048576 :=by rw [hn,Int.pow_succ]
     (repeat (refine aD q20x1 hX mixed rfl ?_;simp [go_sem]; (try simp (disch :=omega) only [w64,td,tm]);try refine ⟨by kernel_rfl,?_⟩))
     refine aB (b :=decide (c = 0)) (by simp [go_sem]) (fun hb => ?_) (fun hb => ?_)
     · simp at hb
       subst hb
       have hgq : g = q :=by
        have : g = q ∨ g = q + 1 :=by omega
        rcases this with h | h
        · exact h
        · subst h; omega
       subst hgq
       have hLS : L2 = S :=rE hi hS hS1 hS2 hSo (by rw [hT]; omega) hL2
       subst hLS
       (repeat (refine aD q20x1 hX mixed rfl ?_;simp [go_sem]; (try simp (disch :=omega) only [w64,td,tm]);try refine ⟨by kernel_rfl,?_⟩))
       refine bN ?_; (try simp only [thenQ,blkQ,loopQ]); refine bO [(6,ii g),(1000000,.ow 0)] [.old 0 ⟨3,1,L2.map ii⟩] ?_
       simp [go_sem]
     · simp at hb
       have hgq : g = q + 1 :=by
        have : g = q ∨ g = q + 1 :=by omega
        rcases this with h | h
        · subst h
          have : (1048576 : Int) ^ j ≤ 1048576 ^ j * c :=by
           have :=Int.mul_le_mul_of_nonneg_left (show 1 ≤ c by omega) (show (0 : Int) ≤ 1048576 ^ j by omega)
           simpa using this
          omega
        · exact h
       subst hgq
       have hval :=pL 0 T v (by omega)
       (repeat (refine aD q20x1 hX mixed rfl ?_;simp [go_sem]; (try simp (disch :=omega) only [w64,td,tm]);try refine ⟨by kernel_rfl,?_⟩))
       refine aH (fun x : Nat × List Int × Int => ⟨mkE [(0,.wn 0 1 i j),(1,il v),(2,ii (q + 1)),(10,ii x.2.2),(48,ii j),(49,ii x.1),(1000000,.ow 0)],[.row ⟨3,1,x.2.1.map ii⟩]⟩)
        (fun x => x.1 ≤ j ∧ x.2.1.length = L.length ∧ (0 ≤ x.2.2 ∧ x.2.2 ≤ 1) ∧ okD x.2.1 ∧ x.2.1.take i = L.take i ∧ x.2.1.drop (i + j) = L.drop (i + j) ∧ x.2.1.drop (i + x.1) = S.drop (i + x.1) ∧
         addC 0 T v = (x.2.1.drop i).take x.1 ++ addC x.2.2 (T.drop x.1) (v.drop x.1)) (fun x => j - x.1) (0,S,0) ?_ ?_ ?_
       · refine aG _ [.old 0 ⟨3,1,S.map ii⟩] (by simp [go_sem]) ?_
         simp [go_sem]
       · simp; exact ⟨hS,hSo,hS1,hS2⟩
       · rintro ⟨k,R,d⟩ ⟨hk,hR,hdd,hRo,hR1,hR2,hR3,hF⟩
         simp only [] at hk hR hdd hRo hR1 hR2 hR3 hF
         (repeat (refine aD q20x1 hX mixed rfl ?_;simp [go_sem];try refine ⟨by kernel_rfl,?_⟩))
         refine aB (b :=decide (k < j)) (by simp [go_sem]) (fun hd3 => ?_) (fun hd3 => ?_)
         · simp at hd3
           have hik : i + k < R.length :=by omega
           have hik2 : i + k < S.length :=by omega
           have hx :=bH hSo hik2
           obtain ⟨hR4,hR5⟩ :=EL hR3 hik hik2
           rw [← hT,wF (by omega) hd3,hT,addC] at hF
           (repeat (refine aD q20x1 hX mixed rfl ?_;simp [go_sem,hd3,hik,hR4]; (try simp (disch :=omega) only [w64,td,tm]);try refine ⟨by kernel_rfl,?_⟩))
           by_cases hiC : k < v.length
           · have hy :=bH hv hiC
             rw [pK hiC,List.tail_drop] at hF
             refine aK (by simp [go_sem,hiC]) ?_
             (repeat (refine aD q20x1 hX mixed rfl ?_;simp [go_sem,hiC,hik]; (try simp (disch :=omega) only [w64,td,tm]);try refine ⟨by kernel_rfl,?_⟩))
             refine ⟨hd3,?_⟩
             (repeat (refine aD q20x1 hX mixed rfl ?_;simp [go_sem]; (try simp (disch :=omega) only [w64,td,tm]);try refine ⟨by kernel_rfl,?_⟩))
             obtain ⟨m1,m2⟩ :=nI hR hR1 hR2 hd3 ((d + S[i + k] + v[k]) % 1048576)
             refine ⟨k + 1,R.set (i + k) ((d + S[i + k] + v[k]) % 1048576),(d + S[i + k] + v[k]) / 1048576,⟨by omega,by simpa using hR,by omega,gT hRo _ (by omega),m1,m2,?_,?_⟩,by omega,?_⟩
             · rw [← Nat.add_assoc,cE,hR5]
             · rw [hF,kY hik]; simp
             · refine aG _ [.old 0 ⟨3,1,(R.set (i + k) ((d + S[i + k] + v[k]) % 1048576)).map ii⟩] (by simp [go_sem]) ?_
               simp [go_sem]
           · rw [mG hiC,List.tail_drop,Int.add_zero] at hF
             refine aC (by simp [go_sem]; omega) ?_
             (repeat (refine aD q20x1 hX mixed rfl ?_;simp [go_sem,hik]; (try simp (disch :=omega) only [w64,td,tm]);try refine ⟨by kernel_rfl,?_⟩))
             refine ⟨hd3,?_⟩
             (repeat (refine aD q20x1 hX mixed rfl ?_;simp [go_sem]; (try simp (disch :=omega) only [w64,td,tm]);try refine ⟨by kernel_rfl,?_⟩))
             obtain ⟨m1,m2⟩ :=nI hR hR1 hR2 hd3 ((d + S[i + k]) % 1048576)
             refine ⟨k + 1,R.set (i + k) ((d + S[i + k]) % 1048576),(d + S[i + k]) / 1048576,⟨by omega,by simpa using hR,by omega,gT hRo _ (by omega),m1,m2,?_,?_⟩,by omega,?_⟩
             · rw [← Nat.add_assoc,cE,hR5]
             · rw [hF,kY hik]; simp
             · refine aG _ [.old 0 ⟨3,1,(R.set (i + k) ((d + S[i + k]) % 1048576)).map ii⟩] (by simp [go_sem]) ?_
               simp [go_sem]
         · have hkj : k = j :=by simp at hd3; omega
           subst hkj
           rw [List.drop_of_length_le (l :=T) (by omega),addC] at hF
           have hT3 : okD ((R.drop i).take k) :=bL (bU hRo i) k
           have hT4 : ((R.drop i).take k).length = k :=by simp; omega
           have hT5 :=aT hT3
           have hT6 :=dF hT3
           rw [hT4] at hT6
           have hva :=eC ((R.drop i).take k) [d]
           rw [← hF,hval,hT4] at hva
           have hva2 : val ((R.drop i).take k) = val w - q * val v :=by
            refine mod_one (p :=1048576 ^ k) (a :=d) (b :=c) ⟨hT5,hT6⟩ ⟨by omega,?_⟩ ?_
            · rw [Int.add_mul,Int.one_mul] at h2; omega
            · rw [Int.add_mul,Int.one_mul] at hvv
              simp only [val] at hva
              rw [show d + 1048576 * 0 = d by omega] at hva
              omega
           have hLS : L2 = R :=rE hi hR hR1 hR2 hRo hva2 hL2
           subst hLS
           (repeat (refine aD q20x1 hX mixed rfl ?_;simp [go_sem]; (try simp (disch :=omega) only [w64,td,tm]);try refine ⟨by kernel_rfl,?_⟩))
           refine bN ?_; (try simp only [thenQ,blkQ,loopQ]); refine bO [(6,ii q),(1000000,.ow 0)] [.old 0 ⟨3,1,L2.map ii⟩] ?_
           simp [go_sem]
end Go.Proofs.YthibhamepjhfjaaGreatDoor

namespace Go.Proofs.YthibhamepjhfjaaGreatDoor
open Go.RowKit Go.Ab
attribute [local irreducible] AWP Go.Ab.Sub Means MeansH CallK CallG CallT CallGT
set_option maxHeartbeats 4000000 in
set_option maxRecDepth 20000 in
theorem KS (a b : List Int) (ha : okD a) (hb : okD b) (hla : a.length ≤ 10000) (hlb : b.length ≤ 10000) :
  MeansH Tryz.prog 97 [.row ⟨3,1,b.map ii⟩] [il a,.ow 0] (.wn 1 1 0 (dg (val a * val b)).length) [.row ⟨3,1,b.map ii⟩,.row ⟨3,1,(mrC b a (List.replicate (a.length + b.length) 0)).map ii⟩] :=by
 obtain ⟨hv,hok,hlen⟩ :=iO b hb a (List.replicate (a.length + b.length) 0) ha (eB _) (by simp) (fun j hj _ => by simp)
 rw [gB,Int.zero_add] at hv
 rw [List.length_replicate] at hlen
 generalize hRR : mrC b a (List.replicate (a.length + b.length) 0) = RR at *
 refine bP 1 67 [.tmp 4] Tryz.func97 rfl rfl rfl (by simp) (by decide) rfl fun X hX => ?_
 have hrl : ((a.length : Int) + (b.length : Int)).toNat = a.length + b.length :=by omega
 (repeat (refine aD q20x2 hX mixed rfl ?_;simp [go_sem]; (try simp (disch :=omega) only [w64,td,tm]);try refine ⟨by kernel_rfl,?_⟩))
 (repeat refine And.intro (by first | omega | (unfold maxLen;omega) | kernel_rfl | (constructor <;> first | omega | (unfold maxLen;omega)) | grind) ?_)
 (repeat (refine aD q20x2 hX mixed rfl ?_;simp [go_sem]; (try simp (disch :=omega) only [w64,td,tm]);try refine ⟨by kernel_rfl,?_⟩))
 refine aH (fun x : Nat × List Int => ⟨mkE [(0,il a),(1,.ow 0),(5,.ow 1),(18,il a),(19,ii a.length),(20,ii x.1),(1000000,.ow 0)],[.row ⟨3,1,b.map ii⟩,.row ⟨3,1,x.2.map ii⟩]⟩)
  (fun x => x.1 ≤ a.length ∧ x.2.length = a.length + b.length ∧ okD x.2 ∧ (∀ j (hj : j < x.2.length),x.1 + b.length ≤ j → x.2[j] = 0) ∧ RR = x.2.take x.1 ++ mrC b (a.drop x.1) (x.2.drop x.1)) (fun x => a.length - x.1) (0,List.replicate (a.length + b.length) 0) ?_ ?_ ?_
 · refine aG _ [.old 0 ⟨3,1,b.map ii⟩,.old 1 ⟨3,1,(List.replicate (a.length + b.length) (0 : Int)).map ii⟩] (by simp [go_sem,hrl]) ?_
   simp [go_sem]
 · refine ⟨Nat.zero_le _,by simp,eB _,fun j hj _ => by simp,by simp [hRR]⟩
 · rintro ⟨i,T⟩ ⟨hi,hT,hTo,hTz,hE⟩
   simp only [] at hi hT hTo hTz hE
   (repeat (refine aD q20x2 hX mixed rfl ?_;simp [go_sem];try refine ⟨by kernel_rfl,?_⟩))
   refine aB (b :=decide (i < a.length)) (by simp [go_sem]) (fun hd => ?_) (fun hd => ?_)
   · simp at hd
     have hx :=bH ha hd
     (repeat (refine aD q20x2 hX mixed rfl ?_;simp [go_sem,hd]; (try simp (disch :=omega) only [w64,td,tm]);try refine ⟨by kernel_rfl,?_⟩))
     try (simp [go_sem,hd];try refine ⟨by kernel_rfl,?_⟩)
     have hlz :=jA a[i] 0 b (T.drop i)
     obtain ⟨hao,haz⟩ :=tI a[i] hx 0 b (T.drop i) (by decide) hb (bU hTo i) (fun j hj h => by
      have :=hTz (i + j) (by simp at hj; omega) (by omega)
      simpa using this)
     refine aH (fun x : Nat × List Int × Int => ⟨mkE [(0,il a),(1,.ow 0),(5,.ow 1),(6,ii i),(7,ii a[i]),(8,ii x.2.2),(18,il a),(19,ii a.length),(20,ii i),(25,.ow 0),(26,ii b.length),(27,ii x.1),(1000000,.ow 0)],[.row ⟨3,1,b.map ii⟩,.row ⟨3,1,x.2.1.map ii⟩]⟩)
      (fun x => x.1 ≤ b.length ∧ x.2.1.length = a.length + b.length ∧ okD x.2.1 ∧ (∀ j (hj : j < x.2.1.length),i + b.length ≤ j → x.2.1[j] = 0) ∧ (0 ≤ x.2.2 ∧ x.2.2 < 1048576) ∧
       T.take i ++ amC a[i] 0 b (T.drop i) = x.2.1.take (i + x.1) ++ amC a[i] x.2.2 (b.drop x.1) (x.2.1.drop (i + x.1))) (fun x => b.length - x.1) (0,T,0) ?_ ?_ ?_
     · refine aG _ [.old 0 ⟨3,1,b.map ii⟩,.old 1 ⟨3,1,T.map ii⟩] (by simp [go_sem]) ?_
       simp [go_sem]
     · exact ⟨Nat.zero_le _,hT,hTo,hTz,⟨Int.le_refl 0,by show (0 : Int) < 1048576; decide⟩,by simp⟩
     · rintro ⟨k,S,c⟩ ⟨hk,hS,hSo,hSz,hc,hF⟩
       simp only [] at hk hS hSo hSz hc hF
       (repeat (refine aD q20x2 hX mixed rfl ?_;simp [go_sem];try refine ⟨by kernel_rfl,?_⟩))
       refine aB (b :=decide (k < b.length)) (by simp [go_sem]) (fun hd2 => ?_) (fun hd2 => ?_)
       · simp at hd2
         have hy :=bH hb hd2
         have hik : i + k < S.length :=by omega
         have hs :=bH hSo hik
         have hm :=k7 hx hy
         rw [List.drop_eq_getElem_cons hd2,List.drop_eq_getElem_cons hik,amC] at hF
         have hik2 : (i : Int) + k < S.length :=by omega
         (repeat (refine aD q20x2 hX mixed rfl ?_;simp [go_sem,hd2,hik,hik2]; (try simp (disch :=omega) only [w64,td,tm]);try refine ⟨by kernel_rfl,?_⟩))
         try (simp [go_sem,hd2,hik,hik2];try refine ⟨by kernel_rfl,?_⟩)
         (repeat refine And.intro (by first | omega | (unfold maxLen;omega) | kernel_rfl | (constructor <;> first | omega | (unfold maxLen;omega)) | grind) ?_)
         (repeat (refine aD q20x2 hX mixed rfl ?_;simp [go_sem]; (try simp (disch :=omega) only [w64,td,tm]);try refine ⟨by kernel_rfl,?_⟩))
         have hcast : ((i : Int) + (k : Int)).toNat = i + k :=by omega
         refine ⟨⟨by omega,hik2⟩,by omega,?_⟩
         try (simp [go_sem,hcast,hik];try refine ⟨by kernel_rfl,?_⟩)
         (repeat (refine aD q20x2 hX mixed rfl ?_;simp [go_sem]; (try simp (disch :=omega) only [w64,td,tm]);try refine ⟨by kernel_rfl,?_⟩))
         refine ⟨k + 1,S.set (i + k) ((S[i + k] + a[i] * b[k] + c) % 1048576),(S[i + k] + a[i] * b[k] + c) / 1048576,⟨by omega,by simpa using hS,gT hSo _ (by omega),?_,by omega,?_⟩,by omega,?_⟩
         · intro j hj h
           have hj' : j < S.length :=by simpa using hj
           rw [List.getElem_set_ne (by omega)]
           exact hSz j hj' h
         · rw [hF,← Nat.add_assoc,eK hik,cE]; simp
         · refine aG _ [.old 0 ⟨3,1,b.map ii⟩,.old 1 ⟨3,1,(S.set (i + k) ((S[i + k] + a[i] * b[k] + c) % 1048576)).map ii⟩] (by simp [go_sem]) ?_
           simp [go_sem]
       · have hkl : k = b.length :=by simp at hd2; omega
         subst hkl
         have hik : i + b.length < S.length :=by omega
         have hik2 : (i : Int) + b.length < S.length :=by omega
         have hcast : ((i : Int) + (b.length : Int)).toNat = i + b.length :=by omega
         have hS0 : S[i + b.length] = 0 :=hSz _ hik (Nat.le_refl _)
         rw [List.drop_length,List.drop_eq_getElem_cons hik,zQ,hS0,Int.zero_add] at hF
         (repeat (refine aD q20x2 hX mixed rfl ?_;simp [go_sem,hik,hik2,hS0]; (try simp (disch :=omega) only [w64,td,tm]);try refine ⟨by kernel_rfl,?_⟩))
         try (simp [go_sem,hik,hik2,hS0];try refine ⟨by kernel_rfl,?_⟩)
         (repeat refine And.intro (by first | omega | (unfold maxLen;omega) | kernel_rfl | (constructor <;> first | omega | (unfold maxLen;omega)) | grind) ?_)
         (repeat (refine aD q20x2 hX mixed rfl ?_;simp [go_sem]; (try simp (disch :=omega) only [w64,td,tm]);try refine ⟨by kernel_rfl,?_⟩))
         have hSe : S.set (i + b.length) c = T.take i ++ amC a[i] 0 b (T.drop i) :=by rw [hF,jR hik]
         have hTd : T.drop i = T[i]'(by omega) :: T.drop (i + 1) :=List.drop_eq_getElem_cons (by omega)
         obtain ⟨t,ts,ht⟩ : ∃ t ts,amC a[i] 0 b (T.drop i) = t :: ts :=by
          cases h : amC a[i] 0 b (T.drop i) with
          | nil =>
            have :=congrArg List.length h
            rw [jA,List.length_drop,List.length_nil] at this
            omega
          | cons t ts => exact ⟨t,ts,rfl⟩
         have htl : (T.take i).length = i :=by rw [List.length_take]; omega
         rw [List.drop_eq_getElem_cons hd,wG ht] at hE
         refine ⟨i + 1,S.set (i + b.length) c,⟨by omega,by simpa using hS,?_,?_,?_⟩,by omega,?_⟩
         · rw [hSe]; exact eD.2 ⟨bL hTo i,hao⟩
         · intro j hj h
           have hj' : j < S.length :=by simpa using hj
           rw [List.getElem_set_ne (by omega)]
           exact hSz j hj' (by omega)
         · obtain ⟨q1,q2⟩ :=wH htl t ts
           rw [hSe,hE,ht,q1,q2]; simp
         · refine aG _ [.old 0 ⟨3,1,b.map ii⟩,.old 1 ⟨3,1,(S.set (i + b.length) c).map ii⟩] (by simp [go_sem]) ?_
           simp [go_sem]
   · have hil : i = a.length :=by simp at hd; omega
     subst hil
     rw [List.drop_length,mrC,List.take_append_drop] at hE
     subst hE
     (repeat (refine aD q20x2 hX mixed rfl ?_;simp [go_sem]; (try simp (disch :=omega) only [w64,td,tm]);try refine ⟨by kernel_rfl,?_⟩))
     rw [← hv]
     have hdt : (dg (val RR)).length ≤ a.length + b.length :=by have :=(dA hok).2; omega
     first | refine aL [1] (bY RR (by omega) hok) (by simp [go_sem]) ?_ | refine aJ [1] (bY RR (by omega) hok) (by simp [go_sem]) ?_ | refine aI [1] (bY RR (by omega) hok) (by simp [go_sem]) ?_
     try (simp [go_sem,hlen,hdt];try refine ⟨by kernel_rfl,?_⟩)
     refine bN ?_; (try simp only [thenQ,blkQ,loopQ]); refine bO [(4,.wn 1 1 0 (dg (val RR)).length),(1000000,.ow 0)] [.old 0 ⟨3,1,b.map ii⟩,.old 1 ⟨3,1,RR.map ii⟩] ?_
     simp [go_sem]
end Go.Proofs.YthibhamepjhfjaaGreatDoor

namespace Go.Proofs.YthibhamepjhfjaaGreatDoor
open Go.RowKit Go.Ab
attribute [local irreducible] AWP Go.Ab.Sub Means MeansH CallK CallG CallT CallGT
theorem iP {r : Int} (h : 0 ≤ r ∧ r < 1048576) : val [r] = r ∧ okD [r] :=by
 simp [val,okD]; exact h
theorem kZ {x y : Int} : cmpI x y < 0 ↔ x < y :=by
 unfold cmpI
 split
 · simp; assumption
 · split <;> omega
set_option maxHeartbeats 4000000 in
set_option maxRecDepth 20000 in
theorem I3 (a b : List Int) (ha : okD a) (hb : okD b) (hla : a.length ≤ 9000) (hlb : b.length ≤ 9000) (ta : dg (val a) = a) (tb : dg (val b) = b) (hb0 : 0 < b.length) :
  Means false Tryz.prog 89 [il a,il b] (.tup [il (dg (val a / val b)),il (dg (val a % val b))]) :=by
 have hA0 :=aT ha
 have hB0 :=aT hb
 refine aF false 170 [.tmp 4,.tmp 5] Tryz.func89 rfl rfl rfl (by simp) (by decide) rfl fun X hX => ?_
 (repeat (refine a7 q20x0 hX mixed rfl ?_;simp [go_sem];try refine ⟨by kernel_rfl,?_⟩))
 first | refine a8 (jB a b (by omega) (by omega) ha hb ta tb) ?_ | refine aA (jB a b (by omega) (by omega) ha hb ta tb) ?_
 try (simp [go_sem];try refine ⟨by kernel_rfl,?_⟩)
 (repeat (refine a7 q20x0 hX mixed rfl ?_;simp [go_sem];try refine ⟨by kernel_rfl,?_⟩))
 refine aB (b :=decide (val a < val b)) (by simp [go_sem,kZ]) (fun hd => ?_) (fun hd => ?_)
 · simp at hd
   rw [Int.ediv_eq_zero_of_lt hA0 hd,Int.emod_eq_of_lt hA0 hd,ta,jC]
   (repeat (refine a7 q20x0 hX mixed rfl ?_;simp [go_sem];try refine ⟨by kernel_rfl,?_⟩))
   first | refine a8 (l0 a (by omega)) ?_ | refine aA (l0 a (by omega)) ?_
   try (simp [go_sem];try refine ⟨by kernel_rfl,?_⟩)
   (repeat (refine a7 q20x0 hX mixed rfl ?_;simp [go_sem];try refine ⟨by kernel_rfl,?_⟩))
 · simp at hd
   (repeat (refine a7 q20x0 hX mixed rfl ?_;simp [go_sem]; (try simp (disch :=omega) only [w64,td,tm]);try refine ⟨by kernel_rfl,?_⟩))
   refine aB (b :=decide (b.length = 1)) (by simp [go_sem]; try omega) (fun hl => ?_) (fun hl => ?_)
   · simp at hl
     obtain ⟨d,rfl⟩ : ∃ d,b = [d] :=by
      match b,hl with
      | [d],_ => exact ⟨d,rfl⟩
     have hd1 :=bH hb (i :=0) (by simp)
     simp only [List.getElem_cons_zero] at hd1
     have hvd :=(iP hd1).1
     have hd2 : 0 < d :=by
      by_cases h : d = 0
      · subst h; rw [hvd] at tb; cases tb
      · omega
     rw [hvd]
     (repeat (refine a7 q20x0 hX mixed rfl ?_;simp [go_sem];try refine ⟨by kernel_rfl,?_⟩))
     first | refine a8 (nJ a d ha (by omega) hd2 (by omega)) ?_ | refine aA (nJ a d ha (by omega) hd2 (by omega)) ?_
     try (simp [go_sem];try refine ⟨by kernel_rfl,?_⟩)
     (repeat (refine a7 q20x0 hX mixed rfl ?_;simp [go_sem]; (try simp (disch :=omega) only [w64,td,tm]);try refine ⟨by kernel_rfl,?_⟩))
     have hr : 0 ≤ val a % d ∧ val a % d < 1048576 :=by
      have h1 :=Int.emod_nonneg (val a) (show d ≠ 0 by omega)
      have h2 :=Int.emod_lt_of_pos (val a) hd2
      omega
     obtain ⟨hr1,hr2⟩ :=iP hr
     have hdt : (dg (val a % d)).length ≤ 1 :=by have :=(dA hr2).2; rw [hr1] at this; simpa using this
     have ht :=(dA hr2).1
     rw [hr1] at ht
     first | refine aL [0] (bY [val a % d] (by simp) hr2) (by simp [go_sem]) ?_ | refine aJ [0] (bY [val a % d] (by simp) hr2) (by simp [go_sem]) ?_ | refine aI [0] (bY [val a % d] (by simp) hr2) (by simp [go_sem]) ?_
     try (simp [go_sem,hr1,hdt];try refine ⟨by kernel_rfl,?_⟩)
     (repeat (refine a7 q20x0 hX mixed rfl ?_;simp [go_sem,hr1,hdt]; (try simp (disch :=omega) only [w64,td,tm]);try refine ⟨by kernel_rfl,?_⟩))
     have h :=congrArg (List.map ii) ht
     rw [List.map_take] at h
     exact h.symm
   · simp at hl
     have hlast : b.length - 1 < b.length :=by omega
     have ht :=bH hb hlast
     have htop : b[b.length - 1] ≠ 0 :=by
      have :=tJ (val b)
      simp only [tb,List.getLast_eq_getElem] at this
      exact this (by intro h; rw [h] at hb0; simp at hb0)
     (repeat (refine a7 q20x0 hX mixed rfl ?_;simp [go_sem];try refine ⟨by kernel_rfl,?_⟩))
     refine aH (fun s : Int => ⟨mkE [(0,il a),(1,il b),(8,ii s)],[]⟩) (fun s => 1 ≤ s ∧ s < 1048576) (fun s => (1048576 - s).toNat) 1 ?_ ?_ ?_
     · refine aG _ [] (by simp [go_sem]) ?_
       simp [go_sem]
     · decide
     · rintro s ⟨hs1,hs2⟩
       have hlc : ((b.length : Int) - 1).toNat = b.length - 1 :=by omega
       have hlc2 : ((b.length : Int) - 1) < b.length :=by omega
       have hlc3 : 1 ≤ (b.length : Int) :=by omega
       have hm : 1 ≤ b[b.length - 1] * s ∧ b[b.length - 1] * s ≤ 1099509530625 :=by
        refine ⟨?_,(k7 ht ⟨by omega,hs2⟩).2⟩
        have :=Int.mul_le_mul (show 1 ≤ b[b.length - 1] by omega) hs1 (by decide) (by omega)
        simpa using this
       have hms : s ≤ b[b.length - 1] * s :=by
        have :=Int.mul_le_mul_of_nonneg_right (show 1 ≤ b[b.length - 1] by omega) (show 0 ≤ s by omega)
        simpa using this
       (repeat (refine a7 q20x0 hX mixed rfl ?_;simp [go_sem,hlast,hlc,hlc2,hlc3]; (try simp (disch :=omega) only [w64,td,tm]);try refine ⟨by kernel_rfl,?_⟩))
       have hw :=w64 (x :=b[b.length - 1] * s) (by omega) (by omega)
       try (simp [go_sem,hlc,hlast,hlc2,hlc3,hw];try refine ⟨by kernel_rfl,?_⟩)
       refine aB (b :=decide (b[b.length - 1] * s < 524288)) (by simp [go_sem]) (fun hd2 => ?_) (fun hd2 => ?_)
       · simp at hd2
         (repeat (refine a7 q20x0 hX mixed rfl ?_;simp [go_sem]; (try simp (disch :=omega) only [w64,td,tm]);try refine ⟨by kernel_rfl,?_⟩))
         refine ⟨s * 2,by omega,by omega,?_⟩
         refine aG _ [] (by simp [go_sem]) ?_
         simp [go_sem]
       · clear hd2 hms hm hw hlc hlc2 hlc3
         obtain ⟨hsv,hso⟩ :=iP (r :=s) ⟨by omega,hs2⟩
         obtain ⟨hRv,hRo,hRl⟩ :=iO [s] hso a (List.replicate (a.length + [s].length) 0) ha (eB _) (by simp) (fun j hj _ => by simp)
         rw [gB,Int.zero_add,hsv] at hRv
         rw [List.length_replicate] at hRl
         have hmo :=KS a [s] ha hso (by omega) (by simp)
         rw [hsv] at hmo
         generalize mrC [s] a (List.replicate (a.length + [s].length) 0) = RR at *
         have hdt :=dA hRo
         rw [hRv] at hdt
         have hwd :=pM hRo
         rw [hRv] at hwd
         (repeat (refine a7 q20x0 hX mixed rfl ?_;simp [go_sem]; (try simp (disch :=omega) only [w64,td,tm]);try refine ⟨by kernel_rfl,?_⟩))
         first | refine aL [0] (hmo) (by simp [go_sem]) ?_ | refine aJ [0] (hmo) (by simp [go_sem]) ?_ | refine aI [0] (hmo) (by simp [go_sem]) ?_
         try (simp [go_sem,hdt.2];try refine ⟨by kernel_rfl,?_⟩)
         have hUl : (dg (val a * s)).length ≤ 9001 :=by have :=hdt.2; simp at hRl; omega
         refine ⟨⟨by omega,by unfold maxLen; omega⟩,?_⟩
         have hmm :=I4 b [s] hb hso (by omega) (by simp)
         rw [hsv] at hmm
         first | refine a8 (hmm) ?_ | refine aA (hmm) ?_
         rw [hwd]
         have hU0 : val a ≤ val a * s :=by
          have :=Int.mul_le_mul_of_nonneg_left hs1 hA0
          simpa using this
         have hV0 : val b ≤ val b * s :=by
          have :=Int.mul_le_mul_of_nonneg_left hs1 hB0
          simpa using this
         have hUV : val b * s ≤ val a * s :=Int.mul_le_mul_of_nonneg_right hd (by omega)
         have hUa : a.length ≤ (dg (val a * s)).length :=by have :=aY hU0; rwa [ta] at this
         have hVb : b.length ≤ (dg (val b * s)).length :=by have :=aY hV0; rwa [tb] at this
         have hVU : (dg (val b * s)).length ≤ (dg (val a * s)).length :=aY hUV
         have hUok :=aO (val a * s)
         have hVok :=aO (val b * s)
         have hUval :=bF (n :=val a * s) (by omega)
         have hVval :=bF (n :=val b * s) (by omega)
         have hVlast : ∀ h : (dg (val b * s)).length - 1 < (dg (val b * s)).length,(dg (val b * s))[(dg (val b * s)).length - 1] ≠ 0 :=by
          intro h
          have :=tJ (val b * s)
          simp only [List.getLast_eq_getElem] at this
          exact this (by intro e; rw [e] at h; simp at h)
         clear hmo hmm hwd hdt hRv hRo hRl
         generalize dg (val a * s) = U at *
         generalize dg (val b * s) = V at *
         obtain ⟨k,hk⟩ : ∃ k,V.length = k + 2 :=⟨V.length - 2,by omega⟩
         obtain ⟨m,hm⟩ : ∃ m,U.length + 1 = m + (k + 2) :=⟨U.length + 1 - (k + 2),by omega⟩
         have hrow : List.map ii U ++ [AV.v (Value.int IntKind.i64 0)] = (U ++ [0]).map ii :=by simp
         try (simp [go_sem];try refine ⟨by kernel_rfl,?_⟩)
         rw [hrow]
         have hul : (U ++ [0]).length = m + (k + 2) :=by simp; omega
         have huo : okD (U ++ [0]) :=eD.2 ⟨hUok,by simp [okD]⟩
         have huv : val (U ++ [0]) = val a * s :=by rw [eC,hUval]; simp [val]
         have hne : U.length + 1 ≠ a.length :=by omega
         generalize hu0 : U ++ [0] = u0 at *
         (repeat (refine a7 q20x0 hX mixed rfl ?_;simp [go_sem,hul]; (try simp (disch :=omega) only [w64,td,tm]);try refine ⟨by kernel_rfl,?_⟩))
         refine aC (by simp [go_sem]; omega) ?_
         (repeat (refine a7 q20x0 hX mixed rfl ?_;simp [go_sem,hul,hk]; (try simp (disch :=omega) only [w64,td,tm]);try refine ⟨by kernel_rfl,?_⟩))
         refine ⟨⟨by omega,by omega,by omega⟩,?_⟩
         (repeat (refine a7 q20x0 hX mixed rfl ?_;simp [go_sem]; (try simp (disch :=omega) only [w64,td,tm]);try refine ⟨by kernel_rfl,?_⟩))
         have hV1 : 1 ≤ V[k + 1] :=by
          have h1 :=hVlast (by omega)
          have h2 :=bH hVok (i :=k + 1) (by omega)
          have e : V[V.length - 1]'(by omega) = V[k + 1] :=by congr 1; omega
          rw [e] at h1
          omega
         have hVt :=pJ hk
         have hmt : ((m : Nat) : Int).toNat = m :=by omega
         clear hVlast hrow
         have hP :=bV k
         have hVlo1 :=aT (bL hVok k)
         have hVlo2 :=dF (bL hVok k)
         rw [List.length_take,Nat.min_eq_left (by omega)] at hVlo2
         have hv0 :=bH hVok (i :=k) (by omega)
         have hv1 :=bH hVok (i :=k + 1) (by omega)
         have hVm : val (u0.drop m) < val V :=by rw [← hu0]; exact BY hUok hVok hk hm hV1
         refine aH (fun x : Nat × List Int × List Int => ⟨mkE [(8,ii s),(9,.ow 0),(10,il V),(11,ii ((k : Int) + 2)),(12,.ow 1),(13,ii ((x.1 : Int) - 1))],[.row ⟨3,1,x.2.1.map ii⟩,.row ⟨3,1,x.2.2.map ii⟩]⟩)
          (fun x => x.1 ≤ m ∧ x.2.1.length = m + (k + 2) ∧ okD x.2.1 ∧ x.2.2.length = m ∧ okD (x.2.2.drop x.1) ∧ x.2.1.take x.1 = u0.take x.1 ∧ (0 ≤ val (x.2.1.drop x.1) ∧ val (x.2.1.drop x.1) < val V) ∧
           val (x.2.2.drop x.1) * val V + val (x.2.1.drop x.1) = val (u0.drop x.1)) (fun x => x.1) (m,u0,List.replicate m 0) ?_ ?_ ?_
         · refine aG _ [.old 3 ⟨3,1,u0.map ii⟩,.old 5 ⟨3,1,(List.replicate m (0 : Int)).map ii⟩] (by simp [go_sem,hmt]) ?_
           simp [go_sem]
         · refine ⟨Nat.le_refl _,hul,huo,by simp,by simp [okD],rfl,⟨aT (bU huo m),hVm⟩,by simp [val]⟩
         · rintro ⟨n',L,Q⟩ ⟨hn',hL,hLo,hQ,hQo,hLu,hR,hE⟩
           simp only [] at hn' hL hLo hQ hQo hLu hR hE
           cases n' with
           | zero =>
             (repeat (refine a7 q20x0 hX mixed rfl ?_;simp [go_sem];try refine ⟨by kernel_rfl,?_⟩))
             refine aB (b :=false) (by simp [go_sem]) (fun hb => by cases hb) (fun _ => ?_)
             (repeat (refine a7 q20x0 hX mixed rfl ?_;simp [go_sem];try refine ⟨by kernel_rfl,?_⟩))
             rw [List.drop_zero] at hQo hR hE
             rw [List.drop_zero,List.drop_zero,huv,hVval] at hE
             rw [hVval] at hR
             obtain ⟨hq1,hq2⟩ :=GV (by omega) hR hE
             have hdt :=(dA hLo).2
             have hdq :=(dA hQo).2
             rw [hL] at hdt
             rw [hQ] at hdq
             have hso2 :=nJ (dg (val L)) s (aO _) (by omega) (by omega) (by omega)
             rw [bF hR.1,hq2] at hso2
             first | refine aL [0] (bY L (by omega) hLo) (by simp [go_sem]) ?_ | refine aJ [0] (bY L (by omega) hLo) (by simp [go_sem]) ?_ | refine aI [0] (bY L (by omega) hLo) (by simp [go_sem]) ?_
             try (simp [go_sem,hL,hdt,pM hLo];try refine ⟨by kernel_rfl,?_⟩)
             first | refine a8 (hso2) ?_ | refine aA (hso2) ?_
             try (simp [go_sem];try refine ⟨by kernel_rfl,?_⟩)
             (repeat (refine a7 q20x0 hX mixed rfl ?_;simp [go_sem]; (try simp (disch :=omega) only [w64,td,tm]);try refine ⟨by kernel_rfl,?_⟩))
             first | refine aL [1] (bY Q (by omega) hQo) (by simp [go_sem]) ?_ | refine aJ [1] (bY Q (by omega) hQo) (by simp [go_sem]) ?_ | refine aI [1] (bY Q (by omega) hQo) (by simp [go_sem]) ?_
             try (simp [go_sem,hQ,hdq];try refine ⟨by kernel_rfl,?_⟩)
             (repeat (refine a7 q20x0 hX mixed rfl ?_;simp [go_sem,hQ,hdq]; (try simp (disch :=omega) only [w64,td,tm]);try refine ⟨by kernel_rfl,?_⟩))
             rw [pM hQo,hq1]
           | succ i =>
             have hi : i < m :=by omega
             obtain ⟨hz,hWv⟩ :=JF hLo hVok hk (i :=i) (by omega) hR.2
             have hLi :=bH hLo (i :=i) (by omega)
             generalize hW : val ((L.drop i).take (k + 2 + 1)) = W at *
             (repeat (refine a7 q20x0 hX mixed rfl ?_;simp [go_sem]; (try simp (disch :=omega) only [w64,td,tm]);try refine ⟨by kernel_rfl,?_⟩))
             refine aB (b :=true) (by simp [go_sem]; try omega) (fun _ => ?_) (fun hb => by cases hb)
             have hc1 : ((i : Int) + ((k : Int) + 2)).toNat = i + k + 2 :=by omega
             have hc2 : ((i : Int) + ((k : Int) + 2) - 1).toNat = i + k + 1 :=by omega
             have hi0 : i + k < L.length :=by omega
             have hi1 : i + k + 1 < L.length :=by omega
             have hi2 : i + k + 2 < L.length :=by omega
             have hx0 :=bH hLo hi0
             have hx1 :=bH hLo hi1
             have hx2 :=bH hLo hi2
             have hor :=yD (r :=L[i + k + 2]) (a :=L[i + k + 1]) hx2.1 (by omega) hx1.1 hx1.2
             have hc3 : ((k : Int) + 2 - 1).toNat = k + 1 :=by omega
             have hk1 : k + 1 < V.length :=by omega
             (repeat (refine a7 q20x0 hX mixed rfl ?_;simp [go_sem,hc1,hc2,hi1,hi2,hor]; (try simp (disch :=omega) only [w64,td,tm]);try refine ⟨by kernel_rfl,?_⟩))
             try (simp [go_sem,hc1,hc2,hi1,hi2,hor];try refine ⟨by kernel_rfl,?_⟩)
             refine ⟨⟨by omega,by omega⟩,⟨by omega,by omega⟩,?_⟩
             (repeat refine And.intro (by first | omega | (unfold maxLen;omega) | kernel_rfl | (constructor <;> first | omega | (unfold maxLen;omega)) | grind) ?_)
             have hwm :=w64 (x :=L[i + k + 2] * 1048576) (by omega) (by omega)
             try (simp [go_sem,hwm,hor];try refine ⟨by kernel_rfl,?_⟩)
             have hT0 : 0 ≤ L[i + k + 2] * 1048576 + L[i + k + 1] :=by omega
             have hT1 : L[i + k + 2] * 1048576 + L[i + k + 1] ≤ 1099511627775 :=by omega
             generalize hTop : L[i + k + 2] * 1048576 + L[i + k + 1] = top at *
             have hg0 : 0 ≤ top / V[k + 1] :=Int.ediv_nonneg hT0 (by omega)
             have hg1 : top / V[k + 1] ≤ top :=Int.ediv_le_self _ hT0
             have hgr :=Int.mul_ediv_add_emod top V[k + 1]
             have hr0 :=Int.emod_nonneg top (show V[k + 1] ≠ 0 by omega)
             have hwq :=w64 (x :=top / V[k + 1]) (by omega) (by omega)
             have htd :=td (a :=top) (b :=V[k + 1]) hT0
             have htm :=tm (a :=top) (b :=V[k + 1]) hT0
             (repeat (refine a7 q20x0 hX mixed rfl ?_;simp [go_sem,hc3,hk1,hwq,htd,htm]; (try simp (disch :=omega) only [w64,td,tm]);try refine ⟨by kernel_rfl,?_⟩))
             try (simp [go_sem,hc3,hk1,hwq,htd,htm];try refine ⟨by kernel_rfl,?_⟩)
             refine ⟨by omega,by omega,by omega,by omega,?_⟩
             (repeat refine And.intro (by first | omega | (unfold maxLen;omega) | kernel_rfl | (constructor <;> first | omega | (unfold maxLen;omega)) | grind) ?_)
             try (simp [go_sem,hc3,hk1,hwq,htd,htm];try refine ⟨by kernel_rfl,?_⟩)
             (repeat (refine a7 q20x0 hX mixed rfl ?_;simp [go_sem]; (try simp (disch :=omega) only [w64,td,tm]);try refine ⟨by kernel_rfl,?_⟩))
             have hVp : 0 < val V :=by have :=hR; omega
             have hW0 : 0 ≤ W :=by omega
             have hq0 : 0 ≤ W / val V :=Int.ediv_nonneg hW0 (by omega)
             have hqV : W / val V * val V ≤ W :=Int.ediv_mul_le W (by omega)
             have hqV2 : W < (W / val V + 1) * val V :=Int.lt_ediv_add_one_mul_self W hVp
             have hqB : W / val V < 1048576 :=Int.ediv_lt_of_lt_mul hVp (by omega)
             obtain ⟨gu,gv,gd⟩ :=wE hLo hVok hk (by omega) hq0 (by rw [hW]; exact hqV) (by rw [hW]; exact hqV2) hV1
             rw [hTop] at gu gv gd
             have hqg : W / val V ≤ top / V[k + 1] :=Int.le_ediv_of_mul_le (by omega) gv
             generalize hqe : W / val V = q at *
             have hc4 : ((i : Int) + ((k : Int) + 2) - 2).toNat = i + k :=by omega
             have hk0 : k < V.length :=by omega
             refine aH (fun x : Int × Int => ⟨mkE [(8,ii s),(9,.ow 0),(10,il V),(11,ii ((k : Int) + 2)),(12,.ow 1),(13,ii i),(15,ii x.1),(16,ii x.2)],[.row ⟨3,1,L.map ii⟩,.row ⟨3,1,Q.map ii⟩]⟩)
              (fun x => V[k + 1] * x.1 + x.2 = top ∧ 0 ≤ x.2 ∧ q ≤ x.1) (fun x => x.1.toNat) (top / V[k + 1],top % V[k + 1]) ?_ ?_ ?_
             · refine aG _ [.old 0 ⟨3,1,L.map ii⟩,.old 1 ⟨3,1,Q.map ii⟩] (by simp [go_sem]) ?_
               simp [go_sem]
             · exact ⟨hgr,hr0,hqg⟩
             · rintro ⟨g,r⟩ ⟨hgr2,hr2,hgq⟩
               simp only [] at hgr2 hr2 hgq
               clear hgr hr0 hqg hwq htd htm hg0 hg1
               have hmg : 0 ≤ V[k + 1] * g :=Int.mul_nonneg (by omega) (by omega)
               have hmg2 : g ≤ V[k + 1] * g :=by
                have :=Int.mul_le_mul_of_nonneg_right hV1 (show 0 ≤ g by omega)
                simpa using this
               have hnext : V[k + 1] * (g - 1) + (r + V[k + 1]) = top :=by rw [Int.mul_sub]; omega
               have hw1 :=w64 (x :=(k : Int)) (by omega) (by omega)
               have hw2 :=w64 (x :=(i : Int) + ((k : Int) + 2)) (by omega) (by omega)
               have hw3 :=w64 (x :=(i : Int) + ((k : Int) + 2) - 2) (by omega) (by omega)
               have hi00 : 2 ≤ (i : Int) + ((k : Int) + 2) :=by omega
               have hi01 : (i : Int) + ((k : Int) + 2) - 2 < L.length :=by omega
               refine j8 ?_
               refine j8 ?_
               refine j5 ⟨mkE [(8,ii s),(9,.ow 0),(10,il V),(11,ii ((k : Int) + 2)),(12,.ow 1),(13,ii i),(15,ii g),(16,ii r),(137,bb (decide (1048576 ≤ g ∨ (r < 1048576 ∧ r * 1048576 + L[i + k] < g * V[k]))))],
                [.row ⟨3,1,L.map ii⟩,.row ⟨3,1,Q.map ii⟩]⟩ ?_ ?_
               · by_cases hA : 1048576 ≤ g
                 · (repeat (refine a7 q20x0 hX mixed rfl ?_;simp [go_sem,hA,hc4,hk0,hi0,hw1,hw2,hw3,hi00,hi01];try refine ⟨by kernel_rfl,?_⟩))
                   (repeat refine And.intro (by first | omega | (unfold maxLen;omega) | kernel_rfl | (constructor <;> first | omega | (unfold maxLen;omega)) | grind) ?_)
                   refine aG _ [.old 0 ⟨3,1,L.map ii⟩,.old 1 ⟨3,1,Q.map ii⟩] (by simp [go_sem]) ?_
                   simp [go_sem,hA]
                 · by_cases hB : r < 1048576
                   · have hm2 :=k7 (x :=g) (y :=V[k]) ⟨by omega,by omega⟩ hv0
                     have hw4 :=w64 (x :=g * V[k]) (by omega) (by omega)
                     have hw5 :=w64 (x :=r * 1048576) (by omega) (by omega)
                     have hor2 :=yD (r :=r) (a :=L[i + k]) hr2 (by omega) hx0.1 hx0.2
                     (repeat (refine a7 q20x0 hX mixed rfl ?_;simp [go_sem,hA,hB,hc4,hk0,hi0,hw1,hw2,hw3,hw4,hw5,hi00,hi01,hor2];try refine ⟨by kernel_rfl,?_⟩))
                     refine aG _ [.old 0 ⟨3,1,L.map ii⟩,.old 1 ⟨3,1,Q.map ii⟩] (by simp [go_sem]) ?_
                     simp [go_sem,hA,hB]
                   · (repeat (refine a7 q20x0 hX mixed rfl ?_;simp [go_sem,hA,hB,hc4,hk0,hi0,hw1,hw2,hw3,hi00,hi01];try refine ⟨by kernel_rfl,?_⟩))
                     (repeat refine And.intro (by first | omega | (unfold maxLen;omega) | kernel_rfl | (constructor <;> first | omega | (unfold maxLen;omega)) | grind) ?_)
                     refine aG _ [.old 0 ⟨3,1,L.map ii⟩,.old 1 ⟨3,1,Q.map ii⟩] (by simp [go_sem]) ?_
                     simp [go_sem,hA,hB]
               · try (simp [go_sem];try refine ⟨by kernel_rfl,?_⟩)
                 refine aB (b :=decide (1048576 ≤ g ∨ (r < 1048576 ∧ r * 1048576 + L[i + k] < g * V[k]))) (by simp [go_sem]) (fun hb => ?_) (fun hb => ?_)
                 · simp only [decide_eq_true_eq] at hb
                   have hgt : q ≤ g - 1 :=by
                    rcases hb with hb | ⟨hb1,hb2⟩
                    · omega
                    · refine Decidable.byContradiction fun hn => ?_
                      have e : q = g :=by omega
                      rw [e,Int.mul_add,Int.mul_left_comm g 1048576,Int.mul_comm g V[k + 1]] at gu
                      omega
                   have hwr :=w64 (x :=r + V[k + 1]) (by omega) (by omega)
                   have hkk1 : (k : Int) + 2 - 1 < V.length :=by omega
                   have hkk2 : 1 ≤ (k : Int) + 2 :=by omega
                   (repeat (refine a7 q20x0 hX mixed rfl ?_;simp [go_sem,hc3,hk1,hkk1,hkk2]; (try simp (disch :=omega) only [w64,td,tm]);try refine ⟨by kernel_rfl,?_⟩))
                   try (simp [go_sem,hc3,hk1,hkk1,hkk2,hwr];try refine ⟨by kernel_rfl,?_⟩)
                   refine ⟨g - 1,r + V[k + 1],⟨hnext,by omega,hgt⟩,by rw [Int.max_eq_left (by omega)]; omega,?_⟩
                   refine aG _ [.old 0 ⟨3,1,L.map ii⟩,.old 1 ⟨3,1,Q.map ii⟩] (by simp [go_sem]) ?_
                   simp [go_sem]
                 · simp only [decide_eq_false_iff_not] at hb
                   have hgB : g < 1048576 :=by omega
                   have hgle : g ≤ q + 1 :=by
                    refine gd g (by omega) hgB ?_
                    have hm2 :=k7 (x :=g) (y :=V[k]) ⟨by omega,hgB⟩ hv0
                    rw [Int.mul_add,Int.mul_left_comm g 1048576,Int.mul_comm g V[k + 1]]
                    by_cases hB : r < 1048576
                    · have : g * V[k] ≤ r * 1048576 + L[i + k] :=by
                       refine Decidable.byContradiction fun hn => hb (.inr ⟨hB,by omega⟩)
                      omega
                    · omega
                   obtain ⟨L2,hL2⟩ : ∃ L2,L2 = L.take i ++ padD (k + 2 + 1) (W - q * val V) ++ L.drop (i + (k + 2 + 1)) :=⟨_,rfl⟩
                   have hse :=EM L V i (k + 2 + 1) g q hLo hVok (by omega) (by omega) (by omega) ⟨by omega,hgB⟩ ⟨hgq,hgle⟩ (by rw [hW]; exact hqV) (by rw [hW]; exact hqV2) L2 (by rw [hW]; exact hL2)
                   obtain ⟨d1,d2,d3,d4,d5,d6⟩ :=EK hL hLo hQ hQo hi hul hLu hVok hk hz hWv ⟨hq0,hqB⟩ hqV hqV2 hE L2 hL2
                   have hs1 : ((i : Int) + ((k : Int) + 2) + 1).toNat - i = k + 2 + 1 :=by omega
                   have hs2 : (i : Int) ≤ (i : Int) + ((k : Int) + 2) + 1 :=by omega
                   have hs3 : (i : Int) + ((k : Int) + 2) + 1 ≤ L.length :=by omega
                   (repeat (refine a7 q20x0 hX mixed rfl ?_;simp [go_sem]; (try simp (disch :=omega) only [w64,td,tm]);try refine ⟨by kernel_rfl,?_⟩))
                   refine ⟨⟨hs2,hs3⟩,?_⟩
                   try (simp [go_sem,hs1];try refine ⟨by kernel_rfl,?_⟩)
                   first | refine aL [0] (hse) (by simp [go_sem]) ?_ | refine aJ [0] (hse) (by simp [go_sem]) ?_ | refine aI [0] (hse) (by simp [go_sem]) ?_
                   try (simp [go_sem];try refine ⟨by kernel_rfl,?_⟩)
                   have hQi : i < Q.length :=by omega
                   refine ⟨hQi,?_⟩
                   try (simp [go_sem,hQi];try refine ⟨by kernel_rfl,?_⟩)
                   (repeat (refine a7 q20x0 hX mixed rfl ?_;simp [go_sem]; (try simp (disch :=omega) only [w64,td,tm]);try refine ⟨by kernel_rfl,?_⟩))
                   refine ⟨i,L2,Q.set i q,⟨by omega,d1,d2,by simpa using hQ,d3,d4,d5,d6⟩,by omega,?_⟩
                   refine aG _ [.old 0 ⟨3,1,L2.map ii⟩,.old 1 ⟨3,1,(Q.set i q).map ii⟩] (by simp [go_sem,hQi]) ?_
                   simp [go_sem]
end Go.Proofs.YthibhamepjhfjaaGreatDoor

