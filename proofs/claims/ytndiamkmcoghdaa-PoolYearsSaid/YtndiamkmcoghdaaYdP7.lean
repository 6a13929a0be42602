/-
  Lemmas for the statement at the top.
-/
import Derived.Test.YtndiamkmcoghdaaYdP6
set_option linter.all false
namespace Go.Proofs.Ytndiamkmcoghdaa
open Go.RowKit Go.Ab
attribute [local irreducible] AWP Go.Ab.Sub Means MeansH CallK CallG CallT CallGT
theorem headD_drop {L : List Int} {i : Nat} (h : i < L.length) : (L.drop i).headD 0 = L[i] :=by rw [List.drop_eq_getElem_cons h]; rfl
theorem headD_drop0 {L : List Int} {i : Nat} (h : ¬ i < L.length) : (L.drop i).headD 0 = 0 :=by rw [List.drop_of_length_le (by omega)]; rfl
theorem mid_set {L S : List Int} {i m j : Nat} (hS : S.length = L.length) (h1 : S.take i = L.take i) (h2 : S.drop (i + m) = L.drop (i + m)) (hj : j < m) (x : Int) :
  (S.set (i + j) x).take i = L.take i ∧ (S.set (i + j) x).drop (i + m) = L.drop (i + m) :=by
 rw [List.take_set_of_le (by omega),List.drop_set_of_lt (by omega)]
 exact ⟨h1,h2⟩
theorem mid_at {L S : List Int} {k : Nat} (h : S.drop k = L.drop k) (hk : k < S.length) (hk2 : k < L.length) : S[k] = L[k] ∧ S.drop (k + 1) = L.drop (k + 1) :=by
 rw [List.drop_eq_getElem_cons hk,List.drop_eq_getElem_cons hk2] at h
 exact List.cons.inj h
theorem mid_take {S : List Int} {i j : Nat} (h : i + j < S.length) (x : Int) : ((S.set (i + j) x).drop i).take (j + 1) = (S.drop i).take j ++ [x] :=by
 rw [List.drop_set,if_neg (by omega),show i + j - i = j by omega,take_set (by simp; omega)]
theorem win_get {L : List Int} {i m j : Nat} (h : i + j < L.length) (hj : j < m) : ((L.drop i).take m)[j]'(by simp; omega) = L[i + j] :=by simp
theorem win_drop {L : List Int} {i m j : Nat} (h : i + m ≤ L.length) (hj : j < m) : ((L.drop i).take m).drop j = L[i + j]'(by omega) :: ((L.drop i).take m).drop (j + 1) :=by
 rw [List.drop_eq_getElem_cons (by simp; omega),win_get (by omega) hj]
theorem mod_one {p x y a b : Int} (hx : 0 ≤ x ∧ x < p) (hy : 0 ≤ y ∧ y < p) (h : x + p * a = y + p * b) : x = y :=by
 have e : (x + p * a) % p = (y + p * b) % p :=by rw [h]
 rwa [Int.add_mul_emod_self_left,Int.add_mul_emod_self_left,Int.emod_eq_of_lt hx.1 hx.2,Int.emod_eq_of_lt hy.1 hy.2] at e
theorem mid_whole {L S L2 : List Int} {i n : Nat} {x : Int} (hi : i + n ≤ L.length) (hS : S.length = L.length) (h1 : S.take i = L.take i) (h2 : S.drop (i + n) = L.drop (i + n)) (ho : okD S) (hv : val ((S.drop i).take n) = x)
  (hL2 : L2 = L.take i ++ padD n x ++ L.drop (i + n)) : L2 = S :=by
 rw [hL2,padD_eq (okD_take (okD_drop ho i) n) (by simp; omega) hv,← h1,← h2,List.append_assoc,← List.drop_drop,List.take_append_drop,List.take_append_drop]
set_option maxHeartbeats 4000000 in
set_option maxRecDepth 20000 in
theorem settle_h (L v : List Int) (i n : Nat) (g q : Int) (hL : okD L) (hv : okD v) (hn : n = v.length + 1) (hi : i + n ≤ L.length) (hll : L.length ≤ 30000) (hg : 0 ≤ g ∧ g < 1048576) (hq : q ≤ g ∧ g ≤ q + 1)
  (h1 : q * val v ≤ val ((L.drop i).take n)) (h2 : val ((L.drop i).take n) < (q + 1) * val v) (L2 : List Int) (hL2 : L2 = L.take i ++ padD n (val ((L.drop i).take n) - q * val v) ++ L.drop (i + n)) :
  MeansH Try.prog 89 [.row ⟨3,1,L.map ii⟩] [.wn 0 1 i n,il v,ii g] (ii q) [.row ⟨3,1,L2.map ii⟩] :=by
 refine meansH_fn 1 78 [.tmp 6] Try.func89 rfl rfl rfl (by simp) (by decide) rfl fun X hX => ?_
 (repeat (refine awp_stepH [0,1,2,6,7,8,9,10,11,13,14,15,26,45,48,49,50,61,1000000] hX mixed rfl ?_; (simp [go_sem]; (try simp (disch :=omega) only [w64,td,tm]); try (refine ⟨by kernel_rfl,?_⟩))))
 generalize hw : (L.drop i).take n = w at *
 have hwl : w.length = n :=by rw [← hw]; simp; omega
 refine awp_loop (fun x : Nat × List Int × Int => ⟨mkE [(0,.wn 0 1 i n),(1,il v),(2,ii g),(7,ii x.2.2),(13,ii n),(14,ii x.1),(1000000,.ow 0)],[.row ⟨3,1,x.2.1.map ii⟩]⟩)
  (fun x => x.1 ≤ n ∧ x.2.1.length = L.length ∧ (0 ≤ x.2.2 ∧ x.2.2 ≤ g) ∧ okD x.2.1 ∧ x.2.1.take i = L.take i ∧ x.2.1.drop (i + n) = L.drop (i + n) ∧ x.2.1.drop (i + x.1) = L.drop (i + x.1) ∧
   smC g 0 w v = (x.2.1.drop i).take x.1 ++ smC g x.2.2 (w.drop x.1) (v.drop x.1)) (fun x => n - x.1) (0,L,0) ?_ ?_ ?_
 · refine sub_of _ [.old 0 ⟨3,1,L.map ii⟩] (by simp [go_sem]) ?_
   simp [go_sem]
 · simp; exact ⟨hg.1,hL⟩
 · rintro ⟨j,S,c⟩ ⟨hj,hS,hc,hSo,hS1,hS2,hS3,hE⟩
   simp only [] at hj hS hc hSo hS1 hS2 hS3 hE
   (repeat (refine awp_stepH [0,1,2,6,7,8,9,10,11,13,14,15,26,45,48,49,50,61,1000000] hX mixed rfl ?_; (simp [go_sem]; try (refine ⟨by kernel_rfl,?_⟩))))
   refine awp_cond (b :=decide (j < n)) (by simp [go_sem]) (fun hd => ?_) (fun hd => ?_)
   · simp at hd
     have hij : i + j < S.length :=by omega
     have hij2 : i + j < L.length :=by omega
     have hx :=okD_at hL hij2
     obtain ⟨hS4,hS5⟩ :=mid_at hS3 hij hij2
     rw [← hw,win_drop hi hd,hw,smC] at hE
     (repeat (refine awp_stepH [0,1,2,6,7,8,9,10,11,13,14,15,26,45,48,49,50,61,1000000] hX mixed rfl ?_; (simp [go_sem,hd,hij,hS4]; (try simp (disch :=omega) only [w64,td,tm]); try (refine ⟨by kernel_rfl,?_⟩))))
     by_cases hiC : j < v.length
     · have hy :=okD_at hv hiC
       rw [headD_drop hiC,List.tail_drop] at hE
       obtain ⟨hb1,hb2⟩ :=smC_bd hg.1 hc hx hy
       refine awp_cond (b :=true) (by simp [go_sem,hiC]) (fun _ => ?_) (fun h => by cases h)
       (repeat (refine awp_stepH [0,1,2,6,7,8,9,10,11,13,14,15,26,45,48,49,50,61,1000000] hX mixed rfl ?_; (simp [go_sem,hiC,hij]; (try simp (disch :=omega) only [w64,td,tm]); try (refine ⟨by kernel_rfl,?_⟩))))
       refine ⟨hd,?_⟩
       (repeat (refine awp_stepH [0,1,2,6,7,8,9,10,11,13,14,15,26,45,48,49,50,61,1000000] hX mixed rfl ?_; (simp [go_sem]; (try simp (disch :=omega) only [w64,td,tm]); try (refine ⟨by kernel_rfl,?_⟩))))
       obtain ⟨m1,m2⟩ :=mid_set hS hS1 hS2 hd ((L[i + j] - c - g * v[j]) % 1048576)
       refine ⟨j + 1,S.set (i + j) ((L[i + j] - c - g * v[j]) % 1048576),-((L[i + j] - c - g * v[j]) / 1048576),⟨by omega,by simpa using hS,hb2,okD_set hSo _ (by omega),m1,m2,?_,?_⟩,by omega,?_⟩
       · rw [← Nat.add_assoc,drop_set_lt,hS5]
       · rw [hE,mid_take hij]; simp
       · refine sub_of _ [.old 0 ⟨3,1,(S.set (i + j) ((L[i + j] - c - g * v[j]) % 1048576)).map ii⟩] (by simp [go_sem]) ?_
         simp [go_sem]
     · rw [headD_drop0 hiC,List.tail_drop,Int.mul_zero,Int.sub_zero] at hE
       refine awp_cond (b :=false) (by simp [go_sem]; omega) (fun h => by cases h) (fun _ => ?_)
       (repeat (refine awp_stepH [0,1,2,6,7,8,9,10,11,13,14,15,26,45,48,49,50,61,1000000] hX mixed rfl ?_; (simp [go_sem,hij]; (try simp (disch :=omega) only [w64,td,tm]); try (refine ⟨by kernel_rfl,?_⟩))))
       refine ⟨hd,?_⟩
       (repeat (refine awp_stepH [0,1,2,6,7,8,9,10,11,13,14,15,26,45,48,49,50,61,1000000] hX mixed rfl ?_; (simp [go_sem]; (try simp (disch :=omega) only [w64,td,tm]); try (refine ⟨by kernel_rfl,?_⟩))))
       obtain ⟨m1,m2⟩ :=mid_set hS hS1 hS2 hd ((L[i + j] - c) % 1048576)
       refine ⟨j + 1,S.set (i + j) ((L[i + j] - c) % 1048576),-((L[i + j] - c) / 1048576),⟨by omega,by simpa using hS,by omega,okD_set hSo _ (by omega),m1,m2,?_,?_⟩,by omega,?_⟩
       · rw [← Nat.add_assoc,drop_set_lt,hS5]
       · rw [hE,mid_take hij]; simp
       · refine sub_of _ [.old 0 ⟨3,1,(S.set (i + j) ((L[i + j] - c) % 1048576)).map ii⟩] (by simp [go_sem]) ?_
         simp [go_sem]
   · have hjn : j = n :=by simp at hd; omega
     subst hjn
     rw [List.drop_of_length_le (l :=w) (by omega),smC] at hE
     have hvv :=smC_val g 0 w v _ c (by omega) hE
     rw [hwl] at hvv
     generalize hT : (S.drop i).take j = T at *
     have hTo : okD T :=by rw [← hT]; exact okD_take (okD_drop hSo i) j
     have hTl : T.length = j :=by rw [← hT]; simp; omega
     have hT1 :=val_nonneg hTo
     have hT2 :=val_lt hTo
     rw [hTl] at hT2
     have hV1 :=val_nonneg hv
     have hV2 :=val_lt hv
     have hpp : (1048576 : Int) ^ j = 1048576 ^ v.length * 1048576 :=by rw [hn,Int.pow_succ]
     (repeat (refine awp_stepH [0,1,2,6,7,8,9,10,11,13,14,15,26,45,48,49,50,61,1000000] hX mixed rfl ?_; (simp [go_sem]; (try simp (disch :=omega) only [w64,td,tm]); try (refine ⟨by kernel_rfl,?_⟩))))
     refine awp_cond (b :=decide (c = 0)) (by simp [go_sem]) (fun hb => ?_) (fun hb => ?_)
     · simp at hb
       subst hb
       have hgq : g = q :=by
        have : g = q ∨ g = q + 1 :=by omega
        rcases this with h | h
        · exact h
        · subst h; omega
       subst hgq
       have hLS : L2 = S :=mid_whole hi hS hS1 hS2 hSo (by rw [hT]; omega) hL2
       subst hLS
       (repeat (refine awp_stepH [0,1,2,6,7,8,9,10,11,13,14,15,26,45,48,49,50,61,1000000] hX mixed rfl ?_; (simp [go_sem]; (try simp (disch :=omega) only [w64,td,tm]); try (refine ⟨by kernel_rfl,?_⟩))))
       refine awp_ret ?_; (try simp only [thenQ,blkQ,loopQ]); refine retH_ret [(6,ii g),(1000000,.ow 0)] [.old 0 ⟨3,1,L2.map ii⟩] ?_
       simp [go_sem]
     · simp at hb
       have hgq : g = q + 1 :=by
        have : g = q ∨ g = q + 1 :=by omega
        rcases this with h | h
        · subst h
          have : (1048576 : Int) ^ j ≤ 1048576 ^ j * c :=by
           have :=Int.mul_le_mul_of_nonneg_left (show 1 ≤ c by omega) (show (0 : Int) ≤ 1048576 ^ j by omega)
           simpa using this
          omega
        · exact h
       subst hgq
       have hval :=addC_val 0 T v (by omega)
       (repeat (refine awp_stepH [0,1,2,6,7,8,9,10,11,13,14,15,26,45,48,49,50,61,1000000] hX mixed rfl ?_; (simp [go_sem]; (try simp (disch :=omega) only [w64,td,tm]); try (refine ⟨by kernel_rfl,?_⟩))))
       refine awp_loop (fun x : Nat × List Int × Int => ⟨mkE [(0,.wn 0 1 i j),(1,il v),(2,ii (q + 1)),(10,ii x.2.2),(48,ii j),(49,ii x.1),(1000000,.ow 0)],[.row ⟨3,1,x.2.1.map ii⟩]⟩)
        (fun x => x.1 ≤ j ∧ x.2.1.length = L.length ∧ (0 ≤ x.2.2 ∧ x.2.2 ≤ 1) ∧ okD x.2.1 ∧ x.2.1.take i = L.take i ∧ x.2.1.drop (i + j) = L.drop (i + j) ∧ x.2.1.drop (i + x.1) = S.drop (i + x.1) ∧
         addC 0 T v = (x.2.1.drop i).take x.1 ++ addC x.2.2 (T.drop x.1) (v.drop x.1)) (fun x => j - x.1) (0,S,0) ?_ ?_ ?_
       · refine sub_of _ [.old 0 ⟨3,1,S.map ii⟩] (by simp [go_sem]) ?_
         simp [go_sem]
       · simp; exact ⟨hS,hSo,hS1,hS2⟩
       · rintro ⟨k,R,d⟩ ⟨hk,hR,hdd,hRo,hR1,hR2,hR3,hF⟩
         simp only [] at hk hR hdd hRo hR1 hR2 hR3 hF
         (repeat (refine awp_stepH [0,1,2,6,7,8,9,10,11,13,14,15,26,45,48,49,50,61,1000000] hX mixed rfl ?_; (simp [go_sem]; try (refine ⟨by kernel_rfl,?_⟩))))
         refine awp_cond (b :=decide (k < j)) (by simp [go_sem]) (fun hd3 => ?_) (fun hd3 => ?_)
         · simp at hd3
           have hik : i + k < R.length :=by omega
           have hik2 : i + k < S.length :=by omega
           have hx :=okD_at hSo hik2
           obtain ⟨hR4,hR5⟩ :=mid_at hR3 hik hik2
           rw [← hT,win_drop (by omega) hd3,hT,addC] at hF
           (repeat (refine awp_stepH [0,1,2,6,7,8,9,10,11,13,14,15,26,45,48,49,50,61,1000000] hX mixed rfl ?_; (simp [go_sem,hd3,hik,hR4]; (try simp (disch :=omega) only [w64,td,tm]); try (refine ⟨by kernel_rfl,?_⟩))))
           by_cases hiC : k < v.length
           · have hy :=okD_at hv hiC
             rw [headD_drop hiC,List.tail_drop] at hF
             refine awp_cond (b :=true) (by simp [go_sem,hiC]) (fun _ => ?_) (fun h => by cases h)
             (repeat (refine awp_stepH [0,1,2,6,7,8,9,10,11,13,14,15,26,45,48,49,50,61,1000000] hX mixed rfl ?_; (simp [go_sem,hiC,hik]; (try simp (disch :=omega) only [w64,td,tm]); try (refine ⟨by kernel_rfl,?_⟩))))
             refine ⟨hd3,?_⟩
             (repeat (refine awp_stepH [0,1,2,6,7,8,9,10,11,13,14,15,26,45,48,49,50,61,1000000] hX mixed rfl ?_; (simp [go_sem]; (try simp (disch :=omega) only [w64,td,tm]); try (refine ⟨by kernel_rfl,?_⟩))))
             obtain ⟨m1,m2⟩ :=mid_set hR hR1 hR2 hd3 ((d + S[i + k] + v[k]) % 1048576)
             refine ⟨k + 1,R.set (i + k) ((d + S[i + k] + v[k]) % 1048576),(d + S[i + k] + v[k]) / 1048576,⟨by omega,by simpa using hR,by omega,okD_set hRo _ (by omega),m1,m2,?_,?_⟩,by omega,?_⟩
             · rw [← Nat.add_assoc,drop_set_lt,hR5]
             · rw [hF,mid_take hik]; simp
             · refine sub_of _ [.old 0 ⟨3,1,(R.set (i + k) ((d + S[i + k] + v[k]) % 1048576)).map ii⟩] (by simp [go_sem]) ?_
               simp [go_sem]
           · rw [headD_drop0 hiC,List.tail_drop,Int.add_zero] at hF
             refine awp_cond (b :=false) (by simp [go_sem]; omega) (fun h => by cases h) (fun _ => ?_)
             (repeat (refine awp_stepH [0,1,2,6,7,8,9,10,11,13,14,15,26,45,48,49,50,61,1000000] hX mixed rfl ?_; (simp [go_sem,hik]; (try simp (disch :=omega) only [w64,td,tm]); try (refine ⟨by kernel_rfl,?_⟩))))
             refine ⟨hd3,?_⟩
             (repeat (refine awp_stepH [0,1,2,6,7,8,9,10,11,13,14,15,26,45,48,49,50,61,1000000] hX mixed rfl ?_; (simp [go_sem]; (try simp (disch :=omega) only [w64,td,tm]); try (refine ⟨by kernel_rfl,?_⟩))))
             obtain ⟨m1,m2⟩ :=mid_set hR hR1 hR2 hd3 ((d + S[i + k]) % 1048576)
             refine ⟨k + 1,R.set (i + k) ((d + S[i + k]) % 1048576),(d + S[i + k]) / 1048576,⟨by omega,by simpa using hR,by omega,okD_set hRo _ (by omega),m1,m2,?_,?_⟩,by omega,?_⟩
             · rw [← Nat.add_assoc,drop_set_lt,hR5]
             · rw [hF,mid_take hik]; simp
             · refine sub_of _ [.old 0 ⟨3,1,(R.set (i + k) ((d + S[i + k]) % 1048576)).map ii⟩] (by simp [go_sem]) ?_
               simp [go_sem]
         · have hkj : k = j :=by simp at hd3; omega
           subst hkj
           rw [List.drop_of_length_le (l :=T) (by omega),addC] at hF
           have hT3 : okD ((R.drop i).take k) :=okD_take (okD_drop hRo i) k
           have hT4 : ((R.drop i).take k).length = k :=by simp; omega
           have hT5 :=val_nonneg hT3
           have hT6 :=val_lt hT3
           rw [hT4] at hT6
           have hva :=val_app ((R.drop i).take k) [d]
           rw [← hF,hval,hT4] at hva
           have hva2 : val ((R.drop i).take k) = val w - q * val v :=by
            refine mod_one (p :=1048576 ^ k) (a :=d) (b :=c) ⟨hT5,hT6⟩ ⟨by omega,?_⟩ ?_
            · rw [Int.add_mul,Int.one_mul] at h2; omega
            · rw [Int.add_mul,Int.one_mul] at hvv
              simp only [val] at hva
              rw [show d + 1048576 * 0 = d by omega] at hva
              omega
           have hLS : L2 = R :=mid_whole hi hR hR1 hR2 hRo hva2 hL2
           subst hLS
           (repeat (refine awp_stepH [0,1,2,6,7,8,9,10,11,13,14,15,26,45,48,49,50,61,1000000] hX mixed rfl ?_; (simp [go_sem]; (try simp (disch :=omega) only [w64,td,tm]); try (refine ⟨by kernel_rfl,?_⟩))))
           refine awp_ret ?_; (try simp only [thenQ,blkQ,loopQ]); refine retH_ret [(6,ii q),(1000000,.ow 0)] [.old 0 ⟨3,1,L2.map ii⟩] ?_
           simp [go_sem]
end Go.Proofs.Ytndiamkmcoghdaa

namespace Go.Proofs.Ytndiamkmcoghdaa
open Go.RowKit Go.Ab
attribute [local irreducible] AWP Go.Ab.Sub Means MeansH CallK CallG CallT CallGT
set_option maxHeartbeats 4000000 in
set_option maxRecDepth 20000 in
theorem mul_o (a b : List Int) (ha : okD a) (hb : okD b) (hla : a.length ≤ 10000) (hlb : b.length ≤ 10000) :
  MeansH Try.prog 87 [.row ⟨3,1,b.map ii⟩] [il a,.ow 0] (.wn 1 1 0 (dg (val a * val b)).length) [.row ⟨3,1,b.map ii⟩,.row ⟨3,1,(mrC b a (List.replicate (a.length + b.length) 0)).map ii⟩] :=by
 obtain ⟨hv,hok,hlen⟩ :=mrC_spec b hb a (List.replicate (a.length + b.length) 0) ha (okD_zeros _) (by simp) (fun j hj _ => by simp)
 rw [val_zeros,Int.zero_add] at hv
 rw [List.length_replicate] at hlen
 generalize hRR : mrC b a (List.replicate (a.length + b.length) 0) = RR at *
 refine meansH_fn 1 67 [.tmp 4] Try.func87 rfl rfl rfl (by simp) (by decide) rfl fun X hX => ?_
 have hrl : ((a.length : Int) + (b.length : Int)).toNat = a.length + b.length :=by omega
 (repeat (refine awp_stepH [0,1,4,5,6,7,8,9,10,11,18,19,20,21,25,26,27,28,1000000] hX mixed rfl ?_; (simp [go_sem]; (try simp (disch :=omega) only [w64,td,tm]); try (refine ⟨by kernel_rfl,?_⟩))))
 (repeat refine And.intro (by first | omega | (unfold maxLen; omega) | kernel_rfl | (refine ⟨by first | omega | (unfold maxLen; omega),by first | omega | (unfold maxLen; omega)⟩) | grind) ?_)
 (repeat (refine awp_stepH [0,1,4,5,6,7,8,9,10,11,18,19,20,21,25,26,27,28,1000000] hX mixed rfl ?_; (simp [go_sem]; (try simp (disch :=omega) only [w64,td,tm]); try (refine ⟨by kernel_rfl,?_⟩))))
 refine awp_loop (fun x : Nat × List Int => ⟨mkE [(0,il a),(1,.ow 0),(5,.ow 1),(18,il a),(19,ii a.length),(20,ii x.1),(1000000,.ow 0)],[.row ⟨3,1,b.map ii⟩,.row ⟨3,1,x.2.map ii⟩]⟩)
  (fun x => x.1 ≤ a.length ∧ x.2.length = a.length + b.length ∧ okD x.2 ∧ (∀ j (hj : j < x.2.length),x.1 + b.length ≤ j → x.2[j] = 0) ∧ RR = x.2.take x.1 ++ mrC b (a.drop x.1) (x.2.drop x.1)) (fun x => a.length - x.1) (0,List.replicate (a.length + b.length) 0) ?_ ?_ ?_
 · refine sub_of _ [.old 0 ⟨3,1,b.map ii⟩,.old 1 ⟨3,1,(List.replicate (a.length + b.length) (0 : Int)).map ii⟩] (by simp [go_sem,hrl]) ?_
   simp [go_sem]
 · refine ⟨Nat.zero_le _,by simp,okD_zeros _,fun j hj _ => by simp,by simp [hRR]⟩
 · rintro ⟨i,T⟩ ⟨hi,hT,hTo,hTz,hE⟩
   simp only [] at hi hT hTo hTz hE
   (repeat (refine awp_stepH [0,1,4,5,6,7,8,9,10,11,18,19,20,21,25,26,27,28,1000000] hX mixed rfl ?_; (simp [go_sem]; try (refine ⟨by kernel_rfl,?_⟩))))
   refine awp_cond (b :=decide (i < a.length)) (by simp [go_sem]) (fun hd => ?_) (fun hd => ?_)
   · simp at hd
     have hx :=okD_at ha hd
     (repeat (refine awp_stepH [0,1,4,5,6,7,8,9,10,11,18,19,20,21,25,26,27,28,1000000] hX mixed rfl ?_; (simp [go_sem,hd]; (try simp (disch :=omega) only [w64,td,tm]); try (refine ⟨by kernel_rfl,?_⟩))))
     try (simp [go_sem,hd]; try (refine ⟨by kernel_rfl,?_⟩))
     have hlz :=amC_len a[i] 0 b (T.drop i)
     obtain ⟨hao,haz⟩ :=amC_ok a[i] hx 0 b (T.drop i) (by decide) hb (okD_drop hTo i) (fun j hj h => by
      have :=hTz (i + j) (by simp at hj; omega) (by omega)
      simpa using this)
     refine awp_loop (fun x : Nat × List Int × Int => ⟨mkE [(0,il a),(1,.ow 0),(5,.ow 1),(6,ii i),(7,ii a[i]),(8,ii x.2.2),(18,il a),(19,ii a.length),(20,ii i),(25,.ow 0),(26,ii b.length),(27,ii x.1),(1000000,.ow 0)],[.row ⟨3,1,b.map ii⟩,.row ⟨3,1,x.2.1.map ii⟩]⟩)
      (fun x => x.1 ≤ b.length ∧ x.2.1.length = a.length + b.length ∧ okD x.2.1 ∧ (∀ j (hj : j < x.2.1.length),i + b.length ≤ j → x.2.1[j] = 0) ∧ (0 ≤ x.2.2 ∧ x.2.2 < 1048576) ∧
       T.take i ++ amC a[i] 0 b (T.drop i) = x.2.1.take (i + x.1) ++ amC a[i] x.2.2 (b.drop x.1) (x.2.1.drop (i + x.1))) (fun x => b.length - x.1) (0,T,0) ?_ ?_ ?_
     · refine sub_of _ [.old 0 ⟨3,1,b.map ii⟩,.old 1 ⟨3,1,T.map ii⟩] (by simp [go_sem]) ?_
       simp [go_sem]
     · exact ⟨Nat.zero_le _,hT,hTo,hTz,⟨Int.le_refl 0,by show (0 : Int) < 1048576; decide⟩,by simp⟩
     · rintro ⟨k,S,c⟩ ⟨hk,hS,hSo,hSz,hc,hF⟩
       simp only [] at hk hS hSo hSz hc hF
       (repeat (refine awp_stepH [0,1,4,5,6,7,8,9,10,11,18,19,20,21,25,26,27,28,1000000] hX mixed rfl ?_; (simp [go_sem]; try (refine ⟨by kernel_rfl,?_⟩))))
       refine awp_cond (b :=decide (k < b.length)) (by simp [go_sem]) (fun hd2 => ?_) (fun hd2 => ?_)
       · simp at hd2
         have hy :=okD_at hb hd2
         have hik : i + k < S.length :=by omega
         have hs :=okD_at hSo hik
         have hm :=mul_bd hx hy
         rw [List.drop_eq_getElem_cons hd2,List.drop_eq_getElem_cons hik,amC] at hF
         have hik2 : (i : Int) + k < S.length :=by omega
         (repeat (refine awp_stepH [0,1,4,5,6,7,8,9,10,11,18,19,20,21,25,26,27,28,1000000] hX mixed rfl ?_; (simp [go_sem,hd2,hik,hik2]; (try simp (disch :=omega) only [w64,td,tm]); try (refine ⟨by kernel_rfl,?_⟩))))
         try (simp [go_sem,hd2,hik,hik2]; try (refine ⟨by kernel_rfl,?_⟩))
         (repeat refine And.intro (by first | omega | (unfold maxLen; omega) | kernel_rfl | (refine ⟨by first | omega | (unfold maxLen; omega),by first | omega | (unfold maxLen; omega)⟩) | grind) ?_)
         (repeat (refine awp_stepH [0,1,4,5,6,7,8,9,10,11,18,19,20,21,25,26,27,28,1000000] hX mixed rfl ?_; (simp [go_sem]; (try simp (disch :=omega) only [w64,td,tm]); try (refine ⟨by kernel_rfl,?_⟩))))
         have hcast : ((i : Int) + (k : Int)).toNat = i + k :=by omega
         refine ⟨⟨by omega,hik2⟩,by omega,?_⟩
         try (simp [go_sem,hcast,hik]; try (refine ⟨by kernel_rfl,?_⟩))
         (repeat (refine awp_stepH [0,1,4,5,6,7,8,9,10,11,18,19,20,21,25,26,27,28,1000000] hX mixed rfl ?_; (simp [go_sem]; (try simp (disch :=omega) only [w64,td,tm]); try (refine ⟨by kernel_rfl,?_⟩))))
         refine ⟨k + 1,S.set (i + k) ((S[i + k] + a[i] * b[k] + c) % 1048576),(S[i + k] + a[i] * b[k] + c) / 1048576,⟨by omega,by simpa using hS,okD_set hSo _ (by omega),?_,by omega,?_⟩,by omega,?_⟩
         · intro j hj h
           have hj' : j < S.length :=by simpa using hj
           rw [List.getElem_set_ne (by omega)]
           exact hSz j hj' h
         · rw [hF,← Nat.add_assoc,take_set hik,drop_set_lt]; simp
         · refine sub_of _ [.old 0 ⟨3,1,b.map ii⟩,.old 1 ⟨3,1,(S.set (i + k) ((S[i + k] + a[i] * b[k] + c) % 1048576)).map ii⟩] (by simp [go_sem]) ?_
           simp [go_sem]
       · have hkl : k = b.length :=by simp at hd2; omega
         subst hkl
         have hik : i + b.length < S.length :=by omega
         have hik2 : (i : Int) + b.length < S.length :=by omega
         have hcast : ((i : Int) + (b.length : Int)).toNat = i + b.length :=by omega
         have hS0 : S[i + b.length] = 0 :=hSz _ hik (Nat.le_refl _)
         rw [List.drop_length,List.drop_eq_getElem_cons hik,amC_nil,hS0,Int.zero_add] at hF
         (repeat (refine awp_stepH [0,1,4,5,6,7,8,9,10,11,18,19,20,21,25,26,27,28,1000000] hX mixed rfl ?_; (simp [go_sem,hik,hik2,hS0]; (try simp (disch :=omega) only [w64,td,tm]); try (refine ⟨by kernel_rfl,?_⟩))))
         try (simp [go_sem,hik,hik2,hS0]; try (refine ⟨by kernel_rfl,?_⟩))
         (repeat refine And.intro (by first | omega | (unfold maxLen; omega) | kernel_rfl | (refine ⟨by first | omega | (unfold maxLen; omega),by first | omega | (unfold maxLen; omega)⟩) | grind) ?_)
         (repeat (refine awp_stepH [0,1,4,5,6,7,8,9,10,11,18,19,20,21,25,26,27,28,1000000] hX mixed rfl ?_; (simp [go_sem]; (try simp (disch :=omega) only [w64,td,tm]); try (refine ⟨by kernel_rfl,?_⟩))))
         have hSe : S.set (i + b.length) c = T.take i ++ amC a[i] 0 b (T.drop i) :=by rw [hF,set_take_drop hik]
         have hTd : T.drop i = T[i]'(by omega) :: T.drop (i + 1) :=List.drop_eq_getElem_cons (by omega)
         obtain ⟨t,ts,ht⟩ : ∃ t ts,amC a[i] 0 b (T.drop i) = t :: ts :=by
          cases h : amC a[i] 0 b (T.drop i) with
          | nil =>
            have :=congrArg List.length h
            rw [amC_len,List.length_drop,List.length_nil] at this
            omega
          | cons t ts => exact ⟨t,ts,rfl⟩
         have htl : (T.take i).length = i :=by rw [List.length_take]; omega
         rw [List.drop_eq_getElem_cons hd,mrC_cons ht] at hE
         refine ⟨i + 1,S.set (i + b.length) c,⟨by omega,by simpa using hS,?_,?_,?_⟩,by omega,?_⟩
         · rw [hSe]; exact okD_app.2 ⟨okD_take hTo i,hao⟩
         · intro j hj h
           have hj' : j < S.length :=by simpa using hj
           rw [List.getElem_set_ne (by omega)]
           exact hSz j hj' (by omega)
         · obtain ⟨q1,q2⟩ :=app_step htl t ts
           rw [hSe,hE,ht,q1,q2]; simp
         · refine sub_of _ [.old 0 ⟨3,1,b.map ii⟩,.old 1 ⟨3,1,(S.set (i + b.length) c).map ii⟩] (by simp [go_sem]) ?_
           simp [go_sem]
   · have hil : i = a.length :=by simp at hd; omega
     subst hil
     rw [List.drop_length,mrC,List.take_append_drop] at hE
     subst hE
     (repeat (refine awp_stepH [0,1,4,5,6,7,8,9,10,11,18,19,20,21,25,26,27,28,1000000] hX mixed rfl ?_; (simp [go_sem]; (try simp (disch :=omega) only [w64,td,tm]); try (refine ⟨by kernel_rfl,?_⟩))))
     rw [← hv]
     have hdt : (dg (val RR)).length ≤ a.length + b.length :=by have :=(dg_take hok).2; omega
     first | refine callH_intro [1] (trim_h RR (by omega) hok) (by simp [go_sem]) ?_ | refine callTQ_intro [1] (trim_h RR (by omega) hok) (by simp [go_sem]) ?_ | refine callTE_intro [1] (trim_h RR (by omega) hok) (by simp [go_sem]) ?_
     try (simp [go_sem,hlen,hdt]; try (refine ⟨by kernel_rfl,?_⟩))
     refine awp_ret ?_; (try simp only [thenQ,blkQ,loopQ]); refine retH_ret [(4,.wn 1 1 0 (dg (val RR)).length),(1000000,.ow 0)] [.old 0 ⟨3,1,b.map ii⟩,.old 1 ⟨3,1,RR.map ii⟩] ?_
     simp [go_sem]
end Go.Proofs.Ytndiamkmcoghdaa

namespace Go.Proofs.Ytndiamkmcoghdaa
open Go.RowKit Go.Ab
attribute [local irreducible] AWP Go.Ab.Sub Means MeansH CallK CallG CallT CallGT
theorem dg_digit {r : Int} (h : 0 ≤ r ∧ r < 1048576) : val [r] = r ∧ okD [r] :=by
 simp [val,okD]; exact h
theorem cmpI_lt {x y : Int} : cmpI x y < 0 ↔ x < y :=by
 unfold cmpI
 split
 · simp; assumption
 · split <;> omega
set_option maxHeartbeats 4000000 in
set_option maxRecDepth 20000 in
theorem div_m (a b : List Int) (ha : okD a) (hb : okD b) (hla : a.length ≤ 9000) (hlb : b.length ≤ 9000) (ta : dg (val a) = a) (tb : dg (val b) = b) (hb0 : 0 < b.length) :
  Means false Try.prog 70 [il a,il b] (.tup [il (dg (val a / val b)),il (dg (val a % val b))]) :=by
 have hA0 :=val_nonneg ha
 have hB0 :=val_nonneg hb
 refine means_fn false 170 [.tmp 4,.tmp 5] Try.func70 rfl rfl rfl (by simp) (by decide) rfl fun X hX => ?_
 (repeat (refine awp_stepG [0,1,4,5,6,7,8,9,10,11,12,13,14,15,16,17,22,27,48,65,80,137] hX mixed rfl ?_; (simp [go_sem]; try (refine ⟨by kernel_rfl,?_⟩))))
 first | refine callKa (compare_m a b (by omega) (by omega) ha hb ta tb) ?_ | refine callTa (compare_m a b (by omega) (by omega) ha hb ta tb) ?_
 try (simp [go_sem]; try (refine ⟨by kernel_rfl,?_⟩))
 (repeat (refine awp_stepG [0,1,4,5,6,7,8,9,10,11,12,13,14,15,16,17,22,27,48,65,80,137] hX mixed rfl ?_; (simp [go_sem]; try (refine ⟨by kernel_rfl,?_⟩))))
 refine awp_cond (b :=decide (val a < val b)) (by simp [go_sem,cmpI_lt]) (fun hd => ?_) (fun hd => ?_)
 · simp at hd
   rw [Int.ediv_eq_zero_of_lt hA0 hd,Int.emod_eq_of_lt hA0 hd,ta,dg_zero]
   (repeat (refine awp_stepG [0,1,4,5,6,7,8,9,10,11,12,13,14,15,16,17,22,27,48,65,80,137] hX mixed rfl ?_; (simp [go_sem]; try (refine ⟨by kernel_rfl,?_⟩))))
   first | refine callKa (clone_m a (by omega)) ?_ | refine callTa (clone_m a (by omega)) ?_
   try (simp [go_sem]; try (refine ⟨by kernel_rfl,?_⟩))
   (repeat (refine awp_stepG [0,1,4,5,6,7,8,9,10,11,12,13,14,15,16,17,22,27,48,65,80,137] hX mixed rfl ?_; (simp [go_sem]; try (refine ⟨by kernel_rfl,?_⟩))))
 · simp at hd
   (repeat (refine awp_stepG [0,1,4,5,6,7,8,9,10,11,12,13,14,15,16,17,22,27,48,65,80,137] hX mixed rfl ?_; (simp [go_sem]; (try simp (disch :=omega) only [w64,td,tm]); try (refine ⟨by kernel_rfl,?_⟩))))
   refine awp_cond (b :=decide (b.length = 1)) (by simp [go_sem]; try omega) (fun hl => ?_) (fun hl => ?_)
   · simp at hl
     obtain ⟨d,rfl⟩ : ∃ d,b = [d] :=by
      match b,hl with
      | [d],_ => exact ⟨d,rfl⟩
     have hd1 :=okD_at hb (i :=0) (by simp)
     simp only [List.getElem_cons_zero] at hd1
     have hvd :=(dg_digit hd1).1
     have hd2 : 0 < d :=by
      by_cases h : d = 0
      · subst h; rw [hvd] at tb; cases tb
      · omega
     rw [hvd]
     (repeat (refine awp_stepG [0,1,4,5,6,7,8,9,10,11,12,13,14,15,16,17,22,27,48,65,80,137] hX mixed rfl ?_; (simp [go_sem]; try (refine ⟨by kernel_rfl,?_⟩))))
     first | refine callKa (short_m a d ha (by omega) hd2 (by omega)) ?_ | refine callTa (short_m a d ha (by omega) hd2 (by omega)) ?_
     try (simp [go_sem]; try (refine ⟨by kernel_rfl,?_⟩))
     (repeat (refine awp_stepG [0,1,4,5,6,7,8,9,10,11,12,13,14,15,16,17,22,27,48,65,80,137] hX mixed rfl ?_; (simp [go_sem]; (try simp (disch :=omega) only [w64,td,tm]); try (refine ⟨by kernel_rfl,?_⟩))))
     have hr : 0 ≤ val a % d ∧ val a % d < 1048576 :=by
      have h1 :=Int.emod_nonneg (val a) (show d ≠ 0 by omega)
      have h2 :=Int.emod_lt_of_pos (val a) hd2
      omega
     obtain ⟨hr1,hr2⟩ :=dg_digit hr
     have hdt : (dg (val a % d)).length ≤ 1 :=by have :=(dg_take hr2).2; rw [hr1] at this; simpa using this
     have ht :=(dg_take hr2).1
     rw [hr1] at ht
     first | refine callH_intro [0] (trim_h [val a % d] (by simp) hr2) (by simp [go_sem]) ?_ | refine callTQ_intro [0] (trim_h [val a % d] (by simp) hr2) (by simp [go_sem]) ?_ | refine callTE_intro [0] (trim_h [val a % d] (by simp) hr2) (by simp [go_sem]) ?_
     try (simp [go_sem,hr1,hdt]; try (refine ⟨by kernel_rfl,?_⟩))
     (repeat (refine awp_stepG [0,1,4,5,6,7,8,9,10,11,12,13,14,15,16,17,22,27,48,65,80,137] hX mixed rfl ?_; (simp [go_sem,hr1,hdt]; (try simp (disch :=omega) only [w64,td,tm]); try (refine ⟨by kernel_rfl,?_⟩))))
     have h :=congrArg (List.map ii) ht
     rw [List.map_take] at h
     exact h.symm
   · simp at hl
     have hlast : b.length - 1 < b.length :=by omega
     have ht :=okD_at hb hlast
     have htop : b[b.length - 1] ≠ 0 :=by
      have :=dg_last (val b)
      simp only [tb,List.getLast_eq_getElem] at this
      exact this (by intro h; rw [h] at hb0; simp at hb0)
     (repeat (refine awp_stepG [0,1,4,5,6,7,8,9,10,11,12,13,14,15,16,17,22,27,48,65,80,137] hX mixed rfl ?_; (simp [go_sem]; try (refine ⟨by kernel_rfl,?_⟩))))
     refine awp_loop (fun s : Int => ⟨mkE [(0,il a),(1,il b),(8,ii s)],[]⟩) (fun s => 1 ≤ s ∧ s < 1048576) (fun s => (1048576 - s).toNat) 1 ?_ ?_ ?_
     · refine sub_of _ [] (by simp [go_sem]) ?_
       simp [go_sem]
     · decide
     · rintro s ⟨hs1,hs2⟩
       have hlc : ((b.length : Int) - 1).toNat = b.length - 1 :=by omega
       have hlc2 : ((b.length : Int) - 1) < b.length :=by omega
       have hlc3 : 1 ≤ (b.length : Int) :=by omega
       have hm : 1 ≤ b[b.length - 1] * s ∧ b[b.length - 1] * s ≤ 1099509530625 :=by
        refine ⟨?_,(mul_bd ht ⟨by omega,hs2⟩).2⟩
        have :=Int.mul_le_mul (show 1 ≤ b[b.length - 1] by omega) hs1 (by decide) (by omega)
        simpa using this
       have hms : s ≤ b[b.length - 1] * s :=by
        have :=Int.mul_le_mul_of_nonneg_right (show 1 ≤ b[b.length - 1] by omega) (show 0 ≤ s by omega)
        simpa using this
       (repeat (refine awp_stepG [0,1,4,5,6,7,8,9,10,11,12,13,14,15,16,17,22,27,48,65,80,137] hX mixed rfl ?_; (simp [go_sem,hlast,hlc,hlc2,hlc3]; (try simp (disch :=omega) only [w64,td,tm]); try (refine ⟨by kernel_rfl,?_⟩))))
       have hw :=w64 (x :=b[b.length - 1] * s) (by omega) (by omega)
       try (simp [go_sem,hlc,hlast,hlc2,hlc3,hw]; try (refine ⟨by kernel_rfl,?_⟩))
       refine awp_cond (b :=decide (b[b.length - 1] * s < 524288)) (by simp [go_sem]) (fun hd2 => ?_) (fun hd2 => ?_)
       · simp at hd2
         (repeat (refine awp_stepG [0,1,4,5,6,7,8,9,10,11,12,13,14,15,16,17,22,27,48,65,80,137] hX mixed rfl ?_; (simp [go_sem]; (try simp (disch :=omega) only [w64,td,tm]); try (refine ⟨by kernel_rfl,?_⟩))))
         refine ⟨s * 2,by omega,by omega,?_⟩
         refine sub_of _ [] (by simp [go_sem]) ?_
         simp [go_sem]
       · clear hd2 hms hm hw hlc hlc2 hlc3
         obtain ⟨hsv,hso⟩ :=dg_digit (r :=s) ⟨by omega,hs2⟩
         obtain ⟨hRv,hRo,hRl⟩ :=mrC_spec [s] hso a (List.replicate (a.length + [s].length) 0) ha (okD_zeros _) (by simp) (fun j hj _ => by simp)
         rw [val_zeros,Int.zero_add,hsv] at hRv
         rw [List.length_replicate] at hRl
         have hmo :=mul_o a [s] ha hso (by omega) (by simp)
         rw [hsv] at hmo
         generalize mrC [s] a (List.replicate (a.length + [s].length) 0) = RR at *
         have hdt :=dg_take hRo
         rw [hRv] at hdt
         have hwd :=wn_dg hRo
         rw [hRv] at hwd
         (repeat (refine awp_stepG [0,1,4,5,6,7,8,9,10,11,12,13,14,15,16,17,22,27,48,65,80,137] hX mixed rfl ?_; (simp [go_sem]; (try simp (disch :=omega) only [w64,td,tm]); try (refine ⟨by kernel_rfl,?_⟩))))
         first | refine callH_intro [0] (hmo) (by simp [go_sem]) ?_ | refine callTQ_intro [0] (hmo) (by simp [go_sem]) ?_ | refine callTE_intro [0] (hmo) (by simp [go_sem]) ?_
         try (simp [go_sem,hdt.2]; try (refine ⟨by kernel_rfl,?_⟩))
         have hUl : (dg (val a * s)).length ≤ 9001 :=by have :=hdt.2; simp at hRl; omega
         refine ⟨⟨by omega,by unfold maxLen; omega⟩,?_⟩
         have hmm :=mul_m b [s] hb hso (by omega) (by simp)
         rw [hsv] at hmm
         first | refine callKa (hmm) ?_ | refine callTa (hmm) ?_
         rw [hwd]
         have hU0 : val a ≤ val a * s :=by
          have :=Int.mul_le_mul_of_nonneg_left hs1 hA0
          simpa using this
         have hV0 : val b ≤ val b * s :=by
          have :=Int.mul_le_mul_of_nonneg_left hs1 hB0
          simpa using this
         have hUV : val b * s ≤ val a * s :=Int.mul_le_mul_of_nonneg_right hd (by omega)
         have hUa : a.length ≤ (dg (val a * s)).length :=by have :=dg_len_mono hU0; rwa [ta] at this
         have hVb : b.length ≤ (dg (val b * s)).length :=by have :=dg_len_mono hV0; rwa [tb] at this
         have hVU : (dg (val b * s)).length ≤ (dg (val a * s)).length :=dg_len_mono hUV
         have hUok :=okD_dg (val a * s)
         have hVok :=okD_dg (val b * s)
         have hUval :=val_dg (n :=val a * s) (by omega)
         have hVval :=val_dg (n :=val b * s) (by omega)
         have hVlast : ∀ h : (dg (val b * s)).length - 1 < (dg (val b * s)).length,(dg (val b * s))[(dg (val b * s)).length - 1] ≠ 0 :=by
          intro h
          have :=dg_last (val b * s)
          simp only [List.getLast_eq_getElem] at this
          exact this (by intro e; rw [e] at h; simp at h)
         clear hmo hmm hwd hdt hRv hRo hRl
         generalize dg (val a * s) = U at *
         generalize dg (val b * s) = V at *
         obtain ⟨k,hk⟩ : ∃ k,V.length = k + 2 :=⟨V.length - 2,by omega⟩
         obtain ⟨m,hm⟩ : ∃ m,U.length + 1 = m + (k + 2) :=⟨U.length + 1 - (k + 2),by omega⟩
         have hrow : List.map ii U ++ [AV.v (Value.int IntKind.i64 0)] = (U ++ [0]).map ii :=by simp
         try (simp [go_sem]; try (refine ⟨by kernel_rfl,?_⟩))
         rw [hrow]
         have hul : (U ++ [0]).length = m + (k + 2) :=by simp; omega
         have huo : okD (U ++ [0]) :=okD_app.2 ⟨hUok,by simp [okD]⟩
         have huv : val (U ++ [0]) = val a * s :=by rw [val_app,hUval]; simp [val]
         have hne : U.length + 1 ≠ a.length :=by omega
         generalize hu0 : U ++ [0] = u0 at *
         (repeat (refine awp_stepG [0,1,4,5,6,7,8,9,10,11,12,13,14,15,16,17,22,27,48,65,80,137] hX mixed rfl ?_; (simp [go_sem,hul]; (try simp (disch :=omega) only [w64,td,tm]); try (refine ⟨by kernel_rfl,?_⟩))))
         refine awp_cond (b :=false) (by simp [go_sem]; omega) (fun h => by cases h) (fun _ => ?_)
         (repeat (refine awp_stepG [0,1,4,5,6,7,8,9,10,11,12,13,14,15,16,17,22,27,48,65,80,137] hX mixed rfl ?_; (simp [go_sem,hul,hk]; (try simp (disch :=omega) only [w64,td,tm]); try (refine ⟨by kernel_rfl,?_⟩))))
         refine ⟨⟨by omega,by omega,by omega⟩,?_⟩
         (repeat (refine awp_stepG [0,1,4,5,6,7,8,9,10,11,12,13,14,15,16,17,22,27,48,65,80,137] hX mixed rfl ?_; (simp [go_sem]; (try simp (disch :=omega) only [w64,td,tm]); try (refine ⟨by kernel_rfl,?_⟩))))
         have hV1 : 1 ≤ V[k + 1] :=by
          have h1 :=hVlast (by omega)
          have h2 :=okD_at hVok (i :=k + 1) (by omega)
          have e : V[V.length - 1]'(by omega) = V[k + 1] :=by congr 1; omega
          rw [e] at h1
          omega
         have hVt :=val_top2 hk
         have hmt : ((m : Nat) : Int).toNat = m :=by omega
         clear hVlast hrow
         have hP :=pow_pos' k
         have hVlo1 :=val_nonneg (okD_take hVok k)
         have hVlo2 :=val_lt (okD_take hVok k)
         rw [List.length_take,Nat.min_eq_left (by omega)] at hVlo2
         have hv0 :=okD_at hVok (i :=k) (by omega)
         have hv1 :=okD_at hVok (i :=k + 1) (by omega)
         have hVm : val (u0.drop m) < val V :=by rw [← hu0]; exact div_first hUok hVok hk hm hV1
         refine awp_loop (fun x : Nat × List Int × List Int => ⟨mkE [(8,ii s),(9,.ow 0),(10,il V),(11,ii ((k : Int) + 2)),(12,.ow 1),(13,ii ((x.1 : Int) - 1))],[.row ⟨3,1,x.2.1.map ii⟩,.row ⟨3,1,x.2.2.map ii⟩]⟩)
          (fun x => x.1 ≤ m ∧ x.2.1.length = m + (k + 2) ∧ okD x.2.1 ∧ x.2.2.length = m ∧ okD (x.2.2.drop x.1) ∧ x.2.1.take x.1 = u0.take x.1 ∧ (0 ≤ val (x.2.1.drop x.1) ∧ val (x.2.1.drop x.1) < val V) ∧
           val (x.2.2.drop x.1) * val V + val (x.2.1.drop x.1) = val (u0.drop x.1)) (fun x => x.1) (m,u0,List.replicate m 0) ?_ ?_ ?_
         · refine sub_of _ [.old 3 ⟨3,1,u0.map ii⟩,.old 5 ⟨3,1,(List.replicate m (0 : Int)).map ii⟩] (by simp [go_sem,hmt]) ?_
           simp [go_sem]
         · refine ⟨Nat.le_refl _,hul,huo,by simp,by simp [okD],rfl,⟨val_nonneg (okD_drop huo m),hVm⟩,by simp [val]⟩
         · rintro ⟨n',L,Q⟩ ⟨hn',hL,hLo,hQ,hQo,hLu,hR,hE⟩
           simp only [] at hn' hL hLo hQ hQo hLu hR hE
           cases n' with
           | zero =>
             (repeat (refine awp_stepG [0,1,4,5,6,7,8,9,10,11,12,13,14,15,16,17,22,27,48,65,80,137] hX mixed rfl ?_; (simp [go_sem]; try (refine ⟨by kernel_rfl,?_⟩))))
             refine awp_cond (b :=false) (by simp [go_sem]) (fun hb => by cases hb) (fun _ => ?_)
             (repeat (refine awp_stepG [0,1,4,5,6,7,8,9,10,11,12,13,14,15,16,17,22,27,48,65,80,137] hX mixed rfl ?_; (simp [go_sem]; try (refine ⟨by kernel_rfl,?_⟩))))
             rw [List.drop_zero] at hQo hR hE
             rw [List.drop_zero,List.drop_zero,huv,hVval] at hE
             rw [hVval] at hR
             obtain ⟨hq1,hq2⟩ :=fin_div (by omega) hR hE
             have hdt :=(dg_take hLo).2
             have hdq :=(dg_take hQo).2
             rw [hL] at hdt
             rw [hQ] at hdq
             have hso2 :=short_m (dg (val L)) s (okD_dg _) (by omega) (by omega) (by omega)
             rw [val_dg hR.1,hq2] at hso2
             first | refine callH_intro [0] (trim_h L (by omega) hLo) (by simp [go_sem]) ?_ | refine callTQ_intro [0] (trim_h L (by omega) hLo) (by simp [go_sem]) ?_ | refine callTE_intro [0] (trim_h L (by omega) hLo) (by simp [go_sem]) ?_
             try (simp [go_sem,hL,hdt,wn_dg hLo]; try (refine ⟨by kernel_rfl,?_⟩))
             first | refine callKa (hso2) ?_ | refine callTa (hso2) ?_
             try (simp [go_sem]; try (refine ⟨by kernel_rfl,?_⟩))
             (repeat (refine awp_stepG [0,1,4,5,6,7,8,9,10,11,12,13,14,15,16,17,22,27,48,65,80,137] hX mixed rfl ?_; (simp [go_sem]; (try simp (disch :=omega) only [w64,td,tm]); try (refine ⟨by kernel_rfl,?_⟩))))
             first | refine callH_intro [1] (trim_h Q (by omega) hQo) (by simp [go_sem]) ?_ | refine callTQ_intro [1] (trim_h Q (by omega) hQo) (by simp [go_sem]) ?_ | refine callTE_intro [1] (trim_h Q (by omega) hQo) (by simp [go_sem]) ?_
             try (simp [go_sem,hQ,hdq]; try (refine ⟨by kernel_rfl,?_⟩))
             (repeat (refine awp_stepG [0,1,4,5,6,7,8,9,10,11,12,13,14,15,16,17,22,27,48,65,80,137] hX mixed rfl ?_; (simp [go_sem,hQ,hdq]; (try simp (disch :=omega) only [w64,td,tm]); try (refine ⟨by kernel_rfl,?_⟩))))
             rw [wn_dg hQo,hq1]
           | succ i =>
             have hi : i < m :=by omega
             obtain ⟨hz,hWv⟩ :=left_w hLo hVok hk (i :=i) (by omega) hR.2
             have hLi :=okD_at hLo (i :=i) (by omega)
             generalize hW : val ((L.drop i).take (k + 2 + 1)) = W at *
             (repeat (refine awp_stepG [0,1,4,5,6,7,8,9,10,11,12,13,14,15,16,17,22,27,48,65,80,137] hX mixed rfl ?_; (simp [go_sem]; (try simp (disch :=omega) only [w64,td,tm]); try (refine ⟨by kernel_rfl,?_⟩))))
             refine awp_cond (b :=true) (by simp [go_sem]; try omega) (fun _ => ?_) (fun hb => by cases hb)
             have hc1 : ((i : Int) + ((k : Int) + 2)).toNat = i + k + 2 :=by omega
             have hc2 : ((i : Int) + ((k : Int) + 2) - 1).toNat = i + k + 1 :=by omega
             have hi0 : i + k < L.length :=by omega
             have hi1 : i + k + 1 < L.length :=by omega
             have hi2 : i + k + 2 < L.length :=by omega
             have hx0 :=okD_at hLo hi0
             have hx1 :=okD_at hLo hi1
             have hx2 :=okD_at hLo hi2
             have hor :=or_dig (r :=L[i + k + 2]) (a :=L[i + k + 1]) hx2.1 (by omega) hx1.1 hx1.2
             have hc3 : ((k : Int) + 2 - 1).toNat = k + 1 :=by omega
             have hk1 : k + 1 < V.length :=by omega
             (repeat (refine awp_stepG [0,1,4,5,6,7,8,9,10,11,12,13,14,15,16,17,22,27,48,65,80,137] hX mixed rfl ?_; (simp [go_sem,hc1,hc2,hi1,hi2,hor]; (try simp (disch :=omega) only [w64,td,tm]); try (refine ⟨by kernel_rfl,?_⟩))))
             try (simp [go_sem,hc1,hc2,hi1,hi2,hor]; try (refine ⟨by kernel_rfl,?_⟩))
             refine ⟨⟨by omega,by omega⟩,⟨by omega,by omega⟩,?_⟩
             (repeat refine And.intro (by first | omega | (unfold maxLen; omega) | kernel_rfl | (refine ⟨by first | omega | (unfold maxLen; omega),by first | omega | (unfold maxLen; omega)⟩) | grind) ?_)
             have hwm :=w64 (x :=L[i + k + 2] * 1048576) (by omega) (by omega)
             try (simp [go_sem,hwm,hor]; try (refine ⟨by kernel_rfl,?_⟩))
             have hT0 : 0 ≤ L[i + k + 2] * 1048576 + L[i + k + 1] :=by omega
             have hT1 : L[i + k + 2] * 1048576 + L[i + k + 1] ≤ 1099511627775 :=by omega
             generalize hTop : L[i + k + 2] * 1048576 + L[i + k + 1] = top at *
             have hg0 : 0 ≤ top / V[k + 1] :=Int.ediv_nonneg hT0 (by omega)
             have hg1 : top / V[k + 1] ≤ top :=Int.ediv_le_self _ hT0
             have hgr :=Int.mul_ediv_add_emod top V[k + 1]
             have hr0 :=Int.emod_nonneg top (show V[k + 1] ≠ 0 by omega)
             have hwq :=w64 (x :=top / V[k + 1]) (by omega) (by omega)
             have htd :=td (a :=top) (b :=V[k + 1]) hT0
             have htm :=tm (a :=top) (b :=V[k + 1]) hT0
             (repeat (refine awp_stepG [0,1,4,5,6,7,8,9,10,11,12,13,14,15,16,17,22,27,48,65,80,137] hX mixed rfl ?_; (simp [go_sem,hc3,hk1,hwq,htd,htm]; (try simp (disch :=omega) only [w64,td,tm]); try (refine ⟨by kernel_rfl,?_⟩))))
             try (simp [go_sem,hc3,hk1,hwq,htd,htm]; try (refine ⟨by kernel_rfl,?_⟩))
             refine ⟨by omega,by omega,by omega,by omega,?_⟩
             (repeat refine And.intro (by first | omega | (unfold maxLen; omega) | kernel_rfl | (refine ⟨by first | omega | (unfold maxLen; omega),by first | omega | (unfold maxLen; omega)⟩) | grind) ?_)
             try (simp [go_sem,hc3,hk1,hwq,htd,htm]; try (refine ⟨by kernel_rfl,?_⟩))
             (repeat (refine awp_stepG [0,1,4,5,6,7,8,9,10,11,12,13,14,15,16,17,22,27,48,65,80,137] hX mixed rfl ?_; (simp [go_sem]; (try simp (disch :=omega) only [w64,td,tm]); try (refine ⟨by kernel_rfl,?_⟩))))
             have hVp : 0 < val V :=by have :=hR; omega
             have hW0 : 0 ≤ W :=by omega
             have hq0 : 0 ≤ W / val V :=Int.ediv_nonneg hW0 (by omega)
             have hqV : W / val V * val V ≤ W :=Int.ediv_mul_le W (by omega)
             have hqV2 : W < (W / val V + 1) * val V :=Int.lt_ediv_add_one_mul_self W hVp
             have hqB : W / val V < 1048576 :=Int.ediv_lt_of_lt_mul hVp (by omega)
             obtain ⟨gu,gv,gd⟩ :=guess_facts hLo hVok hk (by omega) hq0 (by rw [hW]; exact hqV) (by rw [hW]; exact hqV2) hV1
             rw [hTop] at gu gv gd
             have hqg : W / val V ≤ top / V[k + 1] :=Int.le_ediv_of_mul_le (by omega) gv
             generalize hqe : W / val V = q at *
             have hc4 : ((i : Int) + ((k : Int) + 2) - 2).toNat = i + k :=by omega
             have hk0 : k < V.length :=by omega
             refine awp_loop (fun x : Int × Int => ⟨mkE [(8,ii s),(9,.ow 0),(10,il V),(11,ii ((k : Int) + 2)),(12,.ow 1),(13,ii i),(15,ii x.1),(16,ii x.2)],[.row ⟨3,1,L.map ii⟩,.row ⟨3,1,Q.map ii⟩]⟩)
              (fun x => V[k + 1] * x.1 + x.2 = top ∧ 0 ≤ x.2 ∧ q ≤ x.1) (fun x => x.1.toNat) (top / V[k + 1],top % V[k + 1]) ?_ ?_ ?_
             · refine sub_of _ [.old 0 ⟨3,1,L.map ii⟩,.old 1 ⟨3,1,Q.map ii⟩] (by simp [go_sem]) ?_
               simp [go_sem]
             · exact ⟨hgr,hr0,hqg⟩
             · rintro ⟨g,r⟩ ⟨hgr2,hr2,hgq⟩
               simp only [] at hgr2 hr2 hgq
               clear hgr hr0 hqg hwq htd htm hg0 hg1
               have hmg : 0 ≤ V[k + 1] * g :=Int.mul_nonneg (by omega) (by omega)
               have hmg2 : g ≤ V[k + 1] * g :=by
                have :=Int.mul_le_mul_of_nonneg_right hV1 (show 0 ≤ g by omega)
                simpa using this
               have hnext : V[k + 1] * (g - 1) + (r + V[k + 1]) = top :=by rw [Int.mul_sub]; omega
               have hw1 :=w64 (x :=(k : Int)) (by omega) (by omega)
               have hw2 :=w64 (x :=(i : Int) + ((k : Int) + 2)) (by omega) (by omega)
               have hw3 :=w64 (x :=(i : Int) + ((k : Int) + 2) - 2) (by omega) (by omega)
               have hi00 : 2 ≤ (i : Int) + ((k : Int) + 2) :=by omega
               have hi01 : (i : Int) + ((k : Int) + 2) - 2 < L.length :=by omega
               refine awp_seq ?_
               refine awp_seq ?_
               refine awp_cut ⟨mkE [(8,ii s),(9,.ow 0),(10,il V),(11,ii ((k : Int) + 2)),(12,.ow 1),(13,ii i),(15,ii g),(16,ii r),(137,bb (decide (1048576 ≤ g ∨ (r < 1048576 ∧ r * 1048576 + L[i + k] < g * V[k]))))],
                [.row ⟨3,1,L.map ii⟩,.row ⟨3,1,Q.map ii⟩]⟩ ?_ ?_
               · by_cases hA : 1048576 ≤ g
                 · (repeat (refine awp_stepG [0,1,4,5,6,7,8,9,10,11,12,13,14,15,16,17,22,27,48,65,80,137] hX mixed rfl ?_; (simp [go_sem,hA,hc4,hk0,hi0,hw1,hw2,hw3,hi00,hi01]; try (refine ⟨by kernel_rfl,?_⟩))))
                   (repeat refine And.intro (by first | omega | (unfold maxLen; omega) | kernel_rfl | (refine ⟨by first | omega | (unfold maxLen; omega),by first | omega | (unfold maxLen; omega)⟩) | grind) ?_)
                   refine sub_of _ [.old 0 ⟨3,1,L.map ii⟩,.old 1 ⟨3,1,Q.map ii⟩] (by simp [go_sem]) ?_
                   simp [go_sem,hA]
                 · by_cases hB : r < 1048576
                   · have hm2 :=mul_bd (x :=g) (y :=V[k]) ⟨by omega,by omega⟩ hv0
                     have hw4 :=w64 (x :=g * V[k]) (by omega) (by omega)
                     have hw5 :=w64 (x :=r * 1048576) (by omega) (by omega)
                     have hor2 :=or_dig (r :=r) (a :=L[i + k]) hr2 (by omega) hx0.1 hx0.2
                     (repeat (refine awp_stepG [0,1,4,5,6,7,8,9,10,11,12,13,14,15,16,17,22,27,48,65,80,137] hX mixed rfl ?_; (simp [go_sem,hA,hB,hc4,hk0,hi0,hw1,hw2,hw3,hw4,hw5,hi00,hi01,hor2]; try (refine ⟨by kernel_rfl,?_⟩))))
                     refine sub_of _ [.old 0 ⟨3,1,L.map ii⟩,.old 1 ⟨3,1,Q.map ii⟩] (by simp [go_sem]) ?_
                     simp [go_sem,hA,hB]
                   · (repeat (refine awp_stepG [0,1,4,5,6,7,8,9,10,11,12,13,14,15,16,17,22,27,48,65,80,137] hX mixed rfl ?_; (simp [go_sem,hA,hB,hc4,hk0,hi0,hw1,hw2,hw3,hi00,hi01]; try (refine ⟨by kernel_rfl,?_⟩))))
                     (repeat refine And.intro (by first | omega | (unfold maxLen; omega) | kernel_rfl | (refine ⟨by first | omega | (unfold maxLen; omega),by first | omega | (unfold maxLen; omega)⟩) | grind) ?_)
                     refine sub_of _ [.old 0 ⟨3,1,L.map ii⟩,.old 1 ⟨3,1,Q.map ii⟩] (by simp [go_sem]) ?_
                     simp [go_sem,hA,hB]
               · try (simp [go_sem]; try (refine ⟨by kernel_rfl,?_⟩))
                 refine awp_cond (b :=decide (1048576 ≤ g ∨ (r < 1048576 ∧ r * 1048576 + L[i + k] < g * V[k]))) (by simp [go_sem]) (fun hb => ?_) (fun hb => ?_)
                 · simp only [decide_eq_true_eq] at hb
                   have hgt : q ≤ g - 1 :=by
                    rcases hb with hb | ⟨hb1,hb2⟩
                    · omega
                    · refine Decidable.byContradiction fun hn => ?_
                      have e : q = g :=by omega
                      rw [e,Int.mul_add,Int.mul_left_comm g 1048576,Int.mul_comm g V[k + 1]] at gu
                      omega
                   have hwr :=w64 (x :=r + V[k + 1]) (by omega) (by omega)
                   have hkk1 : (k : Int) + 2 - 1 < V.length :=by omega
                   have hkk2 : 1 ≤ (k : Int) + 2 :=by omega
                   (repeat (refine awp_stepG [0,1,4,5,6,7,8,9,10,11,12,13,14,15,16,17,22,27,48,65,80,137] hX mixed rfl ?_; (simp [go_sem,hc3,hk1,hkk1,hkk2]; (try simp (disch :=omega) only [w64,td,tm]); try (refine ⟨by kernel_rfl,?_⟩))))
                   try (simp [go_sem,hc3,hk1,hkk1,hkk2,hwr]; try (refine ⟨by kernel_rfl,?_⟩))
                   refine ⟨g - 1,r + V[k + 1],⟨hnext,by omega,hgt⟩,by rw [Int.max_eq_left (by omega)]; omega,?_⟩
                   refine sub_of _ [.old 0 ⟨3,1,L.map ii⟩,.old 1 ⟨3,1,Q.map ii⟩] (by simp [go_sem]) ?_
                   simp [go_sem]
                 · simp only [decide_eq_false_iff_not] at hb
                   have hgB : g < 1048576 :=by omega
                   have hgle : g ≤ q + 1 :=by
                    refine gd g (by omega) hgB ?_
                    have hm2 :=mul_bd (x :=g) (y :=V[k]) ⟨by omega,hgB⟩ hv0
                    rw [Int.mul_add,Int.mul_left_comm g 1048576,Int.mul_comm g V[k + 1]]
                    by_cases hB : r < 1048576
                    · have : g * V[k] ≤ r * 1048576 + L[i + k] :=by
                       refine Decidable.byContradiction fun hn => hb (.inr ⟨hB,by omega⟩)
                      omega
                    · omega
                   obtain ⟨L2,hL2⟩ : ∃ L2,L2 = L.take i ++ padD (k + 2 + 1) (W - q * val V) ++ L.drop (i + (k + 2 + 1)) :=⟨_,rfl⟩
                   have hse :=settle_h L V i (k + 2 + 1) g q hLo hVok (by omega) (by omega) (by omega) ⟨by omega,hgB⟩ ⟨hgq,hgle⟩ (by rw [hW]; exact hqV) (by rw [hW]; exact hqV2) L2 (by rw [hW]; exact hL2)
                   obtain ⟨d1,d2,d3,d4,d5,d6⟩ :=div_next hL hLo hQ hQo hi hul hLu hVok hk hz hWv ⟨hq0,hqB⟩ hqV hqV2 hE L2 hL2
                   have hs1 : ((i : Int) + ((k : Int) + 2) + 1).toNat - i = k + 2 + 1 :=by omega
                   have hs2 : (i : Int) ≤ (i : Int) + ((k : Int) + 2) + 1 :=by omega
                   have hs3 : (i : Int) + ((k : Int) + 2) + 1 ≤ L.length :=by omega
                   (repeat (refine awp_stepG [0,1,4,5,6,7,8,9,10,11,12,13,14,15,16,17,22,27,48,65,80,137] hX mixed rfl ?_; (simp [go_sem]; (try simp (disch :=omega) only [w64,td,tm]); try (refine ⟨by kernel_rfl,?_⟩))))
                   refine ⟨⟨hs2,hs3⟩,?_⟩
                   try (simp [go_sem,hs1]; try (refine ⟨by kernel_rfl,?_⟩))
                   first | refine callH_intro [0] (hse) (by simp [go_sem]) ?_ | refine callTQ_intro [0] (hse) (by simp [go_sem]) ?_ | refine callTE_intro [0] (hse) (by simp [go_sem]) ?_
                   try (simp [go_sem]; try (refine ⟨by kernel_rfl,?_⟩))
                   have hQi : i < Q.length :=by omega
                   refine ⟨hQi,?_⟩
                   try (simp [go_sem,hQi]; try (refine ⟨by kernel_rfl,?_⟩))
                   (repeat (refine awp_stepG [0,1,4,5,6,7,8,9,10,11,12,13,14,15,16,17,22,27,48,65,80,137] hX mixed rfl ?_; (simp [go_sem]; (try simp (disch :=omega) only [w64,td,tm]); try (refine ⟨by kernel_rfl,?_⟩))))
                   refine ⟨i,L2,Q.set i q,⟨by omega,d1,d2,by simpa using hQ,d3,d4,d5,d6⟩,by omega,?_⟩
                   refine sub_of _ [.old 0 ⟨3,1,L2.map ii⟩,.old 1 ⟨3,1,(Q.set i q).map ii⟩] (by simp [go_sem,hQi]) ?_
                   simp [go_sem]
end Go.Proofs.Ytndiamkmcoghdaa

namespace Go.Proofs.Ytndiamkmcoghdaa
open Go.RowKit Go.Ab
attribute [local irreducible] AWP Go.Ab.Sub Means MeansH CallK CallG CallT CallGT
def ab (z : Int) : Int :=if z < 0 then -z else z
def sg (z : Int) : Int :=if z < 0 then -1 else if 0 < z then 1 else 0
abbrev big2 (s : Int) (L : List Int) : AV :=.agg [ii s,il L]
abbrev bigZ (z : Int) : AV :=big2 (sg z) (dg (ab z))
def rz (z : Int) : Prop :=ab z < 1048576 ^ 60
def isR (s : Int) (L : List Int) : Prop :=okD L ∧ (L.length = 0 → s = 0) ∧ ∀ h : 0 < L.length,(s = 1 ∨ s = -1) ∧ L.length ≤ 60 ∧ L[L.length - 1]'(by omega) ≠ 0
noncomputable instance (s : Int) (L : List Int) : Decidable (isR s L) :=Classical.propDecidable _
noncomputable instance (z : Int) : Decidable (rz z) :=Classical.propDecidable _
theorem ab_nonneg (z : Int) : 0 ≤ ab z :=by unfold ab; split <;> omega
theorem sg_ab (z : Int) : sg z * ab z = z :=by
 unfold sg ab
 split
 · omega
 · split
   · omega
   · omega
theorem isR_of {z : Int} (h : rz z) : isR (sg z) (dg (ab z)) :=by
 refine ⟨okD_dg _,fun hl => ?_,fun hl => ⟨?_,(dg_len_iff 60).2 h,?_⟩⟩
 · have :=dg_eq_nil.1 (List.length_eq_zero_iff.1 hl)
   have :=ab_nonneg z
   unfold ab at *; unfold sg
   split <;> split at * <;> omega
 · have hz : z ≠ 0 :=by
    intro h0; subst h0
    have : dg (ab 0) = [] :=rfl
    rw [this] at hl; simp at hl
   unfold sg
   split
   · exact .inr rfl
   · rw [if_pos (by omega)]; exact .inl rfl
 · have :=dg_last (ab z) (by intro e; rw [e] at hl; simp at hl)
   rwa [List.getLast_eq_getElem] at this
theorem dg_val' {L : List Int} (ho : okD L) (h : ∀ hl : 0 < L.length,L[L.length - 1]'(by omega) ≠ 0) : dg (val L) = L :=by
 refine dg_val ho fun hl => ?_
 rw [List.getLast_eq_getElem]
 exact h (List.length_pos_iff.2 hl)
theorem isR_to {s : Int} {L : List Int} (h : isR s L) : ∃ z,rz z ∧ s = sg z ∧ L = dg (ab z) :=by
 obtain ⟨h1,h2,h3⟩ :=h
 have hd :=dg_val' h1 fun hl => (h3 hl).2.2
 have hv :=val_nonneg h1
 by_cases hl : 0 < L.length
 · obtain ⟨hs,hlen,hne⟩ :=h3 hl
   have hp : 0 < val L :=by
    refine Decidable.byContradiction fun hn => ?_
    rw [dg_neg (by omega)] at hd
    rw [← hd] at hl; simp at hl
   have hr : val L < 1048576 ^ 60 :=(dg_len_iff 60).1 (by rw [hd]; exact hlen)
   rcases hs with rfl | rfl
   · refine ⟨val L,?_,?_,?_⟩
     · unfold rz ab; rw [if_neg (by omega)]; exact hr
     · unfold sg; rw [if_neg (by omega),if_pos hp]
     · unfold ab; rw [if_neg (by omega),hd]
   · refine ⟨-val L,?_,?_,?_⟩
     · unfold rz ab; rw [if_pos (by omega),Int.neg_neg]; exact hr
     · unfold sg; rw [if_pos (by omega)]
     · unfold ab; rw [if_pos (by omega),Int.neg_neg,hd]
 · have h0 : L = [] :=List.length_eq_zero_iff.1 (by omega)
   subst h0
   exact ⟨0,by unfold rz ab; simp,h2 rfl,rfl⟩
set_option maxHeartbeats 4000000 in
set_option maxRecDepth 20000 in
theorem right_m (s : Int) (L : List Int) (hl : L.length ≤ 9223372036854775807) : Means false Try.prog 62 [big2 s L] (bb (decide (isR s L))) :=by
 refine means_fn false 49 [.tmp 2] Try.func62 rfl rfl rfl (by simp) (by decide) rfl fun X hX => ?_
 (repeat (refine awp_stepG [0,1,2,3,5,10,11,12,13,21,24] hX mixed rfl ?_; (simp [go_sem]; (try simp (disch :=omega) only [w64,td,tm]); try (refine ⟨by kernel_rfl,?_⟩))))
 refine awp_loop (fun n : Nat => ⟨mkE [(1,.el 0 2 0 0),(3,ii L.length),(10,il L),(11,ii L.length),(12,ii n)],[.row ⟨46,2,[big2 s L]⟩]⟩) (fun n => n ≤ L.length ∧ okD (L.take n)) (fun n => L.length - n) 0 ?_ ?_ ?_
 · refine sub_of _ [.old 0 ⟨46,2,[big2 s L]⟩] (by simp [go_sem]) ?_
   simp [go_sem]
 · exact ⟨Nat.zero_le _,by simp [okD]⟩
 · rintro n ⟨hn,hok⟩
   (repeat (refine awp_stepG [0,1,2,3,5,10,11,12,13,21,24] hX mixed rfl ?_; (simp [go_sem]; try (refine ⟨by kernel_rfl,?_⟩))))
   refine awp_cond (b :=decide (n < L.length)) (by simp [go_sem]) (fun hd => ?_) (fun hd => ?_)
   · simp at hd
     (repeat (refine awp_stepG [0,1,2,3,5,10,11,12,13,21,24] hX mixed rfl ?_; (simp [go_sem,hd]; (try simp (disch :=omega) only [w64,td,tm]); try (refine ⟨by kernel_rfl,?_⟩))))
     by_cases h0 : 0 ≤ L[n] ∧ L[n] < 1048576
     · have h1 : ¬ L[n] < 0 :=by omega
       have h2 : ¬ 1048575 < L[n] :=by omega
       (repeat (refine awp_stepG [0,1,2,3,5,10,11,12,13,21,24] hX mixed rfl ?_; (simp [go_sem,hd,h1,h2]; (try simp (disch :=omega) only [w64,td,tm]); try (refine ⟨by kernel_rfl,?_⟩))))
       try (simp [go_sem,hd,h1,h2]; try (refine ⟨by kernel_rfl,?_⟩))
       refine awp_cond (b :=false) (by simp [go_sem]) (fun hb => by cases hb) (fun _ => ?_)
       (repeat (refine awp_stepG [0,1,2,3,5,10,11,12,13,21,24] hX mixed rfl ?_; (simp [go_sem]; (try simp (disch :=omega) only [w64,td,tm]); try (refine ⟨by kernel_rfl,?_⟩))))
       refine ⟨n + 1,⟨by omega,?_⟩,by omega,?_⟩
       · rw [List.take_succ_eq_append_getElem hd]
         exact okD_app.2 ⟨hok,by simp [okD]; exact h0⟩
       · refine sub_of _ [.old 0 ⟨46,2,[big2 s L]⟩] (by simp [go_sem]) ?_
         simp [go_sem]
     · have hno : ¬ isR s L :=fun h => h0 (okD_at h.1 hd)
       by_cases h1 : L[n] < 0
       · (repeat (refine awp_stepG [0,1,2,3,5,10,11,12,13,21,24] hX mixed rfl ?_; (simp [go_sem,hd,h1]; (try simp (disch :=omega) only [w64,td,tm]); try (refine ⟨by kernel_rfl,?_⟩))))
         try (simp [go_sem,hd,h1]; try (refine ⟨by kernel_rfl,?_⟩))
         refine awp_cond (b :=true) (by simp [go_sem]) (fun _ => ?_) (fun hb => by cases hb)
         (repeat (refine awp_stepG [0,1,2,3,5,10,11,12,13,21,24] hX mixed rfl ?_; (simp [go_sem,hno]; try (refine ⟨by kernel_rfl,?_⟩))))
       · have h2 : 1048575 < L[n] :=by omega
         (repeat (refine awp_stepG [0,1,2,3,5,10,11,12,13,21,24] hX mixed rfl ?_; (simp [go_sem,hd,h1,h2]; (try simp (disch :=omega) only [w64,td,tm]); try (refine ⟨by kernel_rfl,?_⟩))))
         try (simp [go_sem,hd,h1,h2]; try (refine ⟨by kernel_rfl,?_⟩))
         refine awp_cond (b :=true) (by simp [go_sem]) (fun _ => ?_) (fun hb => by cases hb)
         (repeat (refine awp_stepG [0,1,2,3,5,10,11,12,13,21,24] hX mixed rfl ?_; (simp [go_sem,hno]; try (refine ⟨by kernel_rfl,?_⟩))))
   · have hnl : n = L.length :=by simp at hd; omega
     subst hnl
     rw [List.take_length] at hok
     (repeat (refine awp_stepG [0,1,2,3,5,10,11,12,13,21,24] hX mixed rfl ?_; (simp [go_sem]; (try simp (disch :=omega) only [w64,td,tm]); try (refine ⟨by kernel_rfl,?_⟩))))
     refine awp_cond (b :=decide (L.length = 0)) (by simp [go_sem]; try omega) (fun hb => ?_) (fun hb => ?_)
     · simp only [decide_eq_true_eq] at hb
       have e : isR s L ↔ s = 0 :=⟨fun h => h.2.1 hb,fun h => ⟨hok,fun _ => h,fun h => by omega⟩⟩
       (repeat (refine awp_stepG [0,1,2,3,5,10,11,12,13,21,24] hX mixed rfl ?_; (simp [go_sem]; try (refine ⟨by kernel_rfl,?_⟩))))
       simp only [e]
     · simp only [decide_eq_false_iff_not] at hb
       have hlp : 0 < L.length :=by omega
       have e : isR s L ↔ (s = 1 ∨ s = -1) ∧ L.length ≤ 60 ∧ L[L.length - 1] ≠ 0 :=⟨fun h => h.2.2 hlp,fun h => ⟨hok,fun h => by omega,fun _ => h⟩⟩
       have hc : ((L.length : Int) - 1).toNat = L.length - 1 :=by omega
       have hc1 : 1 ≤ (L.length : Int) :=by omega
       have hc2 : (L.length : Int) - 1 < L.length :=by omega
       have hc3 : L.length - 1 < L.length :=by omega
       have hw1 :=w64 (x :=(L.length : Int) - 1) (by omega) (by omega)
       by_cases h1 : s = 1
       · subst h1
         by_cases h3 : L.length ≤ 60
         · have h4 : (L.length : Int) ≤ 60 :=by omega
           (repeat (refine awp_stepG [0,1,2,3,5,10,11,12,13,21,24] hX mixed rfl ?_; (simp [go_sem,hc,hc1,hc2,hc3,hw1,h3]; try (refine ⟨by kernel_rfl,?_⟩))))
           simp [e,h3,h4]
         · have h4 : ¬ (L.length : Int) ≤ 60 :=by omega
           (repeat (refine awp_stepG [0,1,2,3,5,10,11,12,13,21,24] hX mixed rfl ?_; (simp [go_sem,hc,hc1,hc2,hc3,hw1,h3]; try (refine ⟨by kernel_rfl,?_⟩))))
           simp [e,h3,h4]
       · by_cases h2 : s = -1
         · subst h2
           by_cases h3 : L.length ≤ 60
           · have h4 : (L.length : Int) ≤ 60 :=by omega
             (repeat (refine awp_stepG [0,1,2,3,5,10,11,12,13,21,24] hX mixed rfl ?_; (simp [go_sem,hc,hc1,hc2,hc3,hw1,h3]; try (refine ⟨by kernel_rfl,?_⟩))))
             simp [e,h3,h4]
           · have h4 : ¬ (L.length : Int) ≤ 60 :=by omega
             (repeat (refine awp_stepG [0,1,2,3,5,10,11,12,13,21,24] hX mixed rfl ?_; (simp [go_sem,hc,hc1,hc2,hc3,hw1,h3]; try (refine ⟨by kernel_rfl,?_⟩))))
             simp [e,h3,h4]
         · (repeat (refine awp_stepG [0,1,2,3,5,10,11,12,13,21,24] hX mixed rfl ?_; (simp [go_sem,hc,hc1,hc2,hc3,hw1,h1,h2]; try (refine ⟨by kernel_rfl,?_⟩))))
           simp [e,h1,h2]
theorem signed_m (s : Int) (L : List Int) (z : Int) (hl : L.length ≤ 100000) (ho : okD L) (hz : ab z = val L) (hs : val L ≠ 0 → sg z = s) : Means false Try.prog 66 [ii s,il L] (bigZ z) :=by
 refine means_fn false 14 [.cell 4 46] Try.func66 rfl rfl rfl (by simp) (by decide) rfl fun X hX => ?_
 (repeat (refine awp_stepG [0,1,4,9] hX mixed rfl ?_; (simp [go_sem]; try (refine ⟨by kernel_rfl,?_⟩))))
 first | refine callKa (trim_m L hl ho) ?_ | refine callTa (trim_m L hl ho) ?_
 try (simp [go_sem]; try (refine ⟨by kernel_rfl,?_⟩))
 (repeat (refine awp_stepG [0,1,4,9] hX mixed rfl ?_; (simp [go_sem]; try (refine ⟨by kernel_rfl,?_⟩))))
 have hv :=val_nonneg ho
 refine awp_cond (b :=decide (val L = 0)) (by simp [go_sem,dg_eq_nil]; omega) (fun hb => ?_) (fun hb => ?_)
 · simp at hb
   have : z = 0 :=by unfold ab at hz; split at hz <;> omega
   subst this
   (repeat (refine awp_stepG [0,1,4,9] hX mixed rfl ?_; (simp [go_sem]; try (refine ⟨by kernel_rfl,?_⟩))))
   simp [ab,dg_zero]
 · simp at hb
   have hs2 :=hs hb
   (repeat (refine awp_stepG [0,1,4,9] hX mixed rfl ?_; (simp [go_sem,hs2,hz]; try (refine ⟨by kernel_rfl,?_⟩))))
theorem z0 : bigZ 0 = big2 0 [] :=rfl
theorem checked_m (z : Int) (hl : (dg (ab z)).length ≤ 100000) : Means false Try.prog 84 [bb true,bigZ z] (.tup [bigZ (if rz z then z else 0),ii (if rz z then 0 else 6)]) :=by
 refine means_fn false 17 [.cell 4 46,.tmp 5] Try.func84 rfl rfl rfl (by simp) (by decide) rfl fun X hX => ?_
 (repeat (refine awp_stepG [0,1,3,4,5,6,10] hX mixed rfl ?_; (simp [go_sem]; try (refine ⟨by kernel_rfl,?_⟩))))
 refine awp_cond (b :=false) (by simp [go_sem]) (fun hb => by cases hb) (fun _ => ?_)
 (repeat (refine awp_stepG [0,1,3,4,5,6,10] hX mixed rfl ?_; (simp [go_sem]; (try simp (disch :=omega) only [w64,td,tm]); try (refine ⟨by kernel_rfl,?_⟩))))
 have e : rz z ↔ (dg (ab z)).length ≤ 60 :=(dg_len_iff 60).symm
 refine awp_cond (b :=decide (¬ rz z)) (by simp [go_sem,e]; try omega) (fun hb => ?_) (fun hb => ?_)
 · simp at hb
   (repeat (refine awp_stepG [0,1,3,4,5,6,10] hX mixed rfl ?_; (simp [go_sem]; try (refine ⟨by kernel_rfl,?_⟩))))
   simp [hb]
   exact ⟨rfl,rfl⟩
 · simp at hb
   (repeat (refine awp_stepG [0,1,3,4,5,6,10] hX mixed rfl ?_; (simp [go_sem]; try (refine ⟨by kernel_rfl,?_⟩))))
   simp [hb]
end Go.Proofs.Ytndiamkmcoghdaa

namespace Go.Proofs.Ytndiamkmcoghdaa
open Go.RowKit Go.Ab
attribute [local irreducible] AWP Go.Ab.Sub Means MeansH CallK CallG CallT CallGT
theorem sg_cases (z : Int) : (sg z = -1 ∧ z < 0 ∧ ab z = -z) ∨ (sg z = 0 ∧ z = 0 ∧ ab z = 0) ∨ (sg z = 1 ∧ 0 < z ∧ ab z = z) :=by
 unfold sg ab
 by_cases h : z < 0
 · rw [if_pos h,if_pos h]; exact .inl ⟨rfl,h,rfl⟩
 · by_cases h2 : 0 < z
   · rw [if_neg h,if_pos h2,if_neg h]; exact .inr (.inr ⟨rfl,h2,rfl⟩)
   · rw [if_neg h,if_neg h2,if_neg h]; exact .inr (.inl ⟨rfl,by omega,by omega⟩)
theorem sg_bd (z : Int) : -1 ≤ sg z ∧ sg z ≤ 1 :=by rcases sg_cases z with h | h | h <;> omega
theorem sg_neg (z : Int) : sg (-z) = -sg z :=by rcases sg_cases z with h | h | h <;> rcases sg_cases (-z) with h2 | h2 | h2 <;> omega
theorem ab_neg (z : Int) : ab (-z) = ab z :=by rcases sg_cases z with h | h | h <;> rcases sg_cases (-z) with h2 | h2 | h2 <;> omega
theorem sg_of {z s t : Int} (h : z = s * t) (ht : 0 < t) (hs : s = 1 ∨ s = -1) : sg z = s ∧ ab z = t :=by
 rcases hs with rfl | rfl
 · rcases sg_cases z with h2 | h2 | h2 <;> omega
 · rcases sg_cases z with h2 | h2 | h2 <;> omega
theorem ab_mul (z w : Int) : ab (z * w) = ab z * ab w :=by
 rcases sg_cases z with ⟨_,hz,e1⟩ | ⟨_,rfl,e1⟩ | ⟨_,hz,e1⟩
 · rcases sg_cases w with ⟨_,hw,e2⟩ | ⟨_,rfl,e2⟩ | ⟨_,hw,e2⟩
   · have :=Int.mul_pos_of_neg_of_neg hz hw
     rw [e1,e2,Int.neg_mul_neg,ab,if_neg (by omega)]
   · rw [e2,Int.mul_zero,Int.mul_zero]; rfl
   · have :=Int.mul_neg_of_neg_of_pos hz hw
     rw [e1,e2,Int.neg_mul,ab,if_pos (by omega)]
 · rw [e1,Int.zero_mul,Int.zero_mul]; rfl
 · rcases sg_cases w with ⟨_,hw,e2⟩ | ⟨_,rfl,e2⟩ | ⟨_,hw,e2⟩
   · have :=Int.mul_neg_of_pos_of_neg hz hw
     rw [e1,e2,Int.mul_neg,ab,if_pos (by omega)]
   · rw [e2,Int.mul_zero,Int.mul_zero]; rfl
   · have :=Int.mul_pos hz hw
     rw [e1,e2,ab,if_neg (by omega)]
theorem sg_mul (z w : Int) : sg (z * w) = sg z * sg w :=by
 rcases sg_cases z with ⟨e1,hz,_⟩ | ⟨e1,rfl,_⟩ | ⟨e1,hz,_⟩
 · rcases sg_cases w with ⟨e2,hw,_⟩ | ⟨e2,rfl,_⟩ | ⟨e2,hw,_⟩
   · have :=Int.mul_pos_of_neg_of_neg hz hw
     rw [e1,e2,sg,if_neg (by omega),if_pos (by omega)]; rfl
   · rw [e2,Int.mul_zero,Int.mul_zero]; rfl
   · have :=Int.mul_neg_of_neg_of_pos hz hw
     rw [e1,e2,sg,if_pos (by omega)]; rfl
 · rw [e1,Int.zero_mul,Int.zero_mul]; rfl
 · rcases sg_cases w with ⟨e2,hw,_⟩ | ⟨e2,rfl,_⟩ | ⟨e2,hw,_⟩
   · have :=Int.mul_neg_of_pos_of_neg hz hw
     rw [e1,e2,sg,if_pos (by omega)]; rfl
   · rw [e2,Int.mul_zero,Int.mul_zero]; rfl
   · have :=Int.mul_pos hz hw
     rw [e1,e2,sg,if_neg (by omega),if_pos (by omega)]; rfl
theorem val_ab (z : Int) : val (dg (ab z)) = ab z :=val_dg (ab_nonneg z)
theorem dg_dg {n : Int} (h : 0 ≤ n) : dg (val (dg n)) = dg n :=by rw [val_dg h]
theorem len60 {z : Int} (h : rz z) : (dg (ab z)).length ≤ 60 :=(dg_len_iff 60).2 h
noncomputable def r60 (x : Int) : Int :=if rz x then x else 0
noncomputable def e60 (x : Int) : Int :=if rz x then 0 else 6
noncomputable abbrev res (x : Int) : AV :=.tup [bigZ (r60 x),ii (e60 x)]
theorem r60_of {x : Int} (h : rz x) : r60 x = x :=if_pos h
theorem e60_of {x : Int} (h : rz x) : e60 x = 0 :=if_pos h
theorem check_m (z : Int) (hl : (dg (ab z)).length ≤ 100000) : Means false Try.prog 84 [bb true,bigZ z] (res z) :=checked_m z hl
theorem right_t (z : Int) (h : rz z) : Means false Try.prog 62 [bigZ z] (bb true) :=by
 have :=right_m (sg z) (dg (ab z)) (by have :=len60 h; omega)
 have e : decide (isR (sg z) (dg (ab z))) = true :=decide_eq_true (isR_of h)
 rwa [e] at this
theorem dg_len_mul {a b : Int} {m n : Nat} (ha : 0 ≤ a) (hb : 0 ≤ b) (h1 : (dg a).length ≤ m) (h2 : (dg b).length ≤ n) : (dg (a * b)).length ≤ m + n :=by
 rw [dg_len_iff] at h1 h2 ⊢
 rw [Int.pow_add]
 by_cases h0 : b = 0
 · subst h0
   rw [Int.mul_zero]
   exact Int.mul_pos (pow_pos' m) (pow_pos' n)
 · exact Int.mul_lt_mul h1 (by omega) (by omega) (by have :=pow_pos' m; omega)
set_option maxHeartbeats 4000000 in
set_option maxRecDepth 20000 in
theorem Mul_m (z w : Int) (hz : rz z) (hw : rz w) : Means false Try.prog 68 [bigZ z,bigZ w] (res (z * w)) :=by
 have hlz :=len60 hz
 have hlw :=len60 hw
 have hs :=sg_mul z w
 have hb :=sg_bd (z * w)
 have hww :=w64 (x :=sg z * sg w) (by omega) (by omega)
 have hmul :=mul_m (dg (ab z)) (dg (ab w)) (okD_dg _) (okD_dg _) (by omega) (by omega)
 rw [val_ab,val_ab] at hmul
 have hll :=dg_len_mul (ab_nonneg z) (ab_nonneg w) hlz hlw
 have hp : 0 ≤ ab z * ab w :=Int.mul_nonneg (ab_nonneg z) (ab_nonneg w)
 have hsgn :=signed_m (sg z * sg w) (dg (ab z * ab w)) (z * w) (by omega) (okD_dg _) (by rw [val_dg hp,ab_mul]) (fun _ => hs)
 have hch :=check_m (z * w) (by rw [ab_mul]; omega)
 refine means_fn false 32 [.cell 4 46,.tmp 5] Try.func68 rfl rfl rfl (by simp) (by decide) rfl fun X hX => ?_
 (repeat (refine awp_stepG [0,1,2,3,4,5,13] hX mixed rfl ?_; (simp [go_sem]; try (refine ⟨by kernel_rfl,?_⟩))))
 first | refine callKa (right_t z hz) ?_ | refine callTa (right_t z hz) ?_
 try (simp [go_sem]; try (refine ⟨by kernel_rfl,?_⟩))
 first | refine callGa (fun hg => right_t w hw) ?_ | refine callGTa (fun hg => right_t w hw) ?_
 try (simp [go_sem]; try (refine ⟨by kernel_rfl,?_⟩))
 refine awp_cond (b :=false) (by simp [go_sem]) (fun h => by cases h) (fun _ => ?_)
 (repeat (refine awp_stepG [0,1,2,3,4,5,13] hX mixed rfl ?_; (simp [go_sem,hww]; (try simp (disch :=omega) only [w64,td,tm]); try (refine ⟨by kernel_rfl,?_⟩))))
 first | refine callKa (hmul) ?_ | refine callTa (hmul) ?_
 try (simp [go_sem]; try (refine ⟨by kernel_rfl,?_⟩))
 first | refine callKa (hsgn) ?_ | refine callTa (hsgn) ?_
 try (simp [go_sem]; try (refine ⟨by kernel_rfl,?_⟩))
 first | refine callKa (hch) ?_ | refine callTa (hch) ?_
 try (simp [go_sem]; try (refine ⟨by kernel_rfl,?_⟩))
 (repeat refine And.intro (by first | omega | (unfold maxLen; omega) | kernel_rfl | (refine ⟨by first | omega | (unfold maxLen; omega),by first | omega | (unfold maxLen; omega)⟩) | grind) ?_)
 (repeat (refine awp_stepG [0,1,2,3,4,5,13] hX mixed rfl ?_; (simp [go_sem]; try (refine ⟨by kernel_rfl,?_⟩))))
theorem Neg_m (z : Int) (hz : rz z) : Means false Try.prog 43 [bigZ z] (bigZ (-z)) :=by
 have hlz :=len60 hz
 have hb :=sg_bd z
 have hww :=w64 (x :=- sg z) (by omega) (by omega)
 have hcl :=clone_m (dg (ab z)) (by omega)
 have hsgn :=signed_m (- sg z) (dg (ab z)) (-z) (by omega) (okD_dg _) (by rw [val_ab,ab_neg]) (fun _ => sg_neg z)
 refine means_fn false 14 [.cell 2 46] Try.func43 rfl rfl rfl (by simp) (by decide) rfl fun X hX => ?_
 (repeat (refine awp_stepG [0,1,2,5] hX mixed rfl ?_; (simp [go_sem]; try (refine ⟨by kernel_rfl,?_⟩))))
 first | refine callKa (right_t z hz) ?_ | refine callTa (right_t z hz) ?_
 try (simp [go_sem]; try (refine ⟨by kernel_rfl,?_⟩))
 refine awp_cond (b :=false) (by simp [go_sem]) (fun h => by cases h) (fun _ => ?_)
 (repeat (refine awp_stepG [0,1,2,5] hX mixed rfl ?_; (simp [go_sem,hww]; (try simp (disch :=omega) only [w64,td,tm]); try (refine ⟨by kernel_rfl,?_⟩))))
 first | refine callKa (hcl) ?_ | refine callTa (hcl) ?_
 try (simp [go_sem]; try (refine ⟨by kernel_rfl,?_⟩))
 first | refine callKa (hsgn) ?_ | refine callTa (hsgn) ?_
 try (simp [go_sem]; try (refine ⟨by kernel_rfl,?_⟩))
 (repeat refine And.intro (by first | omega | (unfold maxLen; omega) | kernel_rfl | (refine ⟨by first | omega | (unfold maxLen; omega),by first | omega | (unfold maxLen; omega)⟩) | grind) ?_)
 (repeat (refine awp_stepG [0,1,2,5] hX mixed rfl ?_; (simp [go_sem]; try (refine ⟨by kernel_rfl,?_⟩))))
theorem Compare_m (z w : Int) (hz : rz z) (hw : rz w) : Means false Try.prog 45 [bigZ z,bigZ w] (ii (cmpI z w)) :=by
 have hlz :=len60 hz
 have hlw :=len60 hw
 have hcm :=compare_m (dg (ab z)) (dg (ab w)) (by omega) (by omega) (okD_dg _) (okD_dg _) (dg_dg (ab_nonneg z)) (dg_dg (ab_nonneg w))
 rw [val_ab,val_ab] at hcm
 have hcc : -1 ≤ cmpI (ab z) (ab w) ∧ cmpI (ab z) (ab w) ≤ 1 :=by unfold cmpI; split <;> (try split) <;> omega
 refine means_fn false 31 [.tmp 4] Try.func45 rfl rfl rfl (by simp) (by decide) rfl fun X hX => ?_
 (repeat (refine awp_stepG [0,1,2,3,4,12,17] hX mixed rfl ?_; (simp [go_sem]; try (refine ⟨by kernel_rfl,?_⟩))))
 first | refine callKa (right_t z hz) ?_ | refine callTa (right_t z hz) ?_
 try (simp [go_sem]; try (refine ⟨by kernel_rfl,?_⟩))
 first | refine callGa (fun hg => right_t w hw) ?_ | refine callGTa (fun hg => right_t w hw) ?_
 try (simp [go_sem]; try (refine ⟨by kernel_rfl,?_⟩))
 refine awp_cond (b :=false) (by simp [go_sem]) (fun h => by cases h) (fun _ => ?_)
 (repeat (refine awp_stepG [0,1,2,3,4,12,17] hX mixed rfl ?_; (simp [go_sem]; (try simp (disch :=omega) only [w64,td,tm]); try (refine ⟨by kernel_rfl,?_⟩))))
 refine awp_cond (b :=decide (sg z ≠ sg w)) (by simp [go_sem]; try omega) (fun hd => ?_) (fun hd => ?_)
 · simp only [decide_eq_true_eq] at hd
   have e : cmpI (sg z) (sg w) = cmpI z w :=by
    refine cmpI_eq ?_ ?_ <;> rcases sg_cases z with h | h | h <;> rcases sg_cases w with h2 | h2 | h2 <;> omega
   (repeat (refine awp_stepG [0,1,2,3,4,12,17] hX mixed rfl ?_; (simp [go_sem]; try (refine ⟨by kernel_rfl,?_⟩))))
   first | refine callKa (cmp_m (sg z) (sg w)) ?_ | refine callTa (cmp_m (sg z) (sg w)) ?_
   try (simp [go_sem]; try (refine ⟨by kernel_rfl,?_⟩))
   (repeat (refine awp_stepG [0,1,2,3,4,12,17] hX mixed rfl ?_; (simp [go_sem,e]; try (refine ⟨by kernel_rfl,?_⟩))))
 · simp at hd
   have e : sg w * cmpI (ab z) (ab w) = cmpI z w :=by
    rcases sg_cases w with ⟨h1,h2,h3⟩ | ⟨h1,h2,h3⟩ | ⟨h1,h2,h3⟩ <;> rcases sg_cases z with ⟨h4,h5,h6⟩ | ⟨h4,h5,h6⟩ | ⟨h4,h5,h6⟩ <;> first | omega | (rw [h1,h3,h6]; unfold cmpI; split <;> (try split) <;> (try split) <;> omega) | skip
   have hew :=w64 (x :=cmpI z w) (by unfold cmpI; split <;> (try split) <;> omega) (by unfold cmpI; split <;> (try split) <;> omega)
   (repeat (refine awp_stepG [0,1,2,3,4,12,17] hX mixed rfl ?_; (simp [go_sem,hd]; (try simp (disch :=omega) only [w64,td,tm]); try (refine ⟨by kernel_rfl,?_⟩))))
   first | refine callKa (hcm) ?_ | refine callTa (hcm) ?_
   try (simp [go_sem,hd,hew,e]; try (refine ⟨by kernel_rfl,?_⟩))
   (repeat refine And.intro (by first | omega | (unfold maxLen; omega) | kernel_rfl | (refine ⟨by first | omega | (unfold maxLen; omega),by first | omega | (unfold maxLen; omega)⟩) | grind) ?_)
   (repeat (refine awp_stepG [0,1,2,3,4,12,17] hX mixed rfl ?_; (simp [go_sem]; try (refine ⟨by kernel_rfl,?_⟩))))
theorem or_m (a b : Int) : Means false Try.prog 96 [.sl [ii a,ii b]] (ii (if a = 0 then b else a)) :=by
 refine means_fn false 18 [.tmp 2] Try.func96 rfl rfl rfl (by simp) (by decide) rfl fun X hX => ?_
 (repeat (refine awp_stepG [0,2,3,5,6,7,8,9,14] hX mixed rfl ?_; (simp [go_sem]; try (refine ⟨by kernel_rfl,?_⟩))))
 refine awp_loop (fun n : Nat => ⟨mkE [(3,ii 0),(6,.sl [ii a,ii b]),(7,ii 2),(8,ii n)],[]⟩) (fun n => n ≤ 2 ∧ (1 ≤ n → a = 0) ∧ (2 ≤ n → b = 0)) (fun n => 2 - n) 0 ?_ ?_ ?_
 · refine sub_of _ [] (by simp [go_sem]) ?_
   simp [go_sem]
 · simp
 · rintro n ⟨hn,ha,hb⟩
   match n,hn with
   | 0,_ =>
     (repeat (refine awp_stepG [0,2,3,5,6,7,8,9,14] hX mixed rfl ?_; (simp [go_sem]; try (refine ⟨by kernel_rfl,?_⟩))))
     refine awp_cond (b :=true) (by simp [go_sem]) (fun _ => ?_) (fun h => by cases h)
     (repeat (refine awp_stepG [0,2,3,5,6,7,8,9,14] hX mixed rfl ?_; (simp [go_sem]; (try simp (disch :=omega) only [w64,td,tm]); try (refine ⟨by kernel_rfl,?_⟩))))
     refine awp_cond (b :=decide (a ≠ 0)) (by simp [go_sem]) (fun h => ?_) (fun h => ?_)
     · simp at h
       (repeat (refine awp_stepG [0,2,3,5,6,7,8,9,14] hX mixed rfl ?_; (simp [go_sem,h]; try (refine ⟨by kernel_rfl,?_⟩))))
     · simp at h
       (repeat (refine awp_stepG [0,2,3,5,6,7,8,9,14] hX mixed rfl ?_; (simp [go_sem]; (try simp (disch :=omega) only [w64,td,tm]); try (refine ⟨by kernel_rfl,?_⟩))))
       refine ⟨1,⟨by omega,fun _ => h,fun h => by omega⟩,by omega,?_⟩
       refine sub_of _ [] (by simp [go_sem]) ?_
       simp [go_sem]
   | 1,_ =>
     have ha0 :=ha (by omega)
     (repeat (refine awp_stepG [0,2,3,5,6,7,8,9,14] hX mixed rfl ?_; (simp [go_sem]; try (refine ⟨by kernel_rfl,?_⟩))))
     refine awp_cond (b :=true) (by simp [go_sem]) (fun _ => ?_) (fun h => by cases h)
     (repeat (refine awp_stepG [0,2,3,5,6,7,8,9,14] hX mixed rfl ?_; (simp [go_sem]; (try simp (disch :=omega) only [w64,td,tm]); try (refine ⟨by kernel_rfl,?_⟩))))
     refine awp_cond (b :=decide (b ≠ 0)) (by simp [go_sem]) (fun h => ?_) (fun h => ?_)
     · simp at h
       (repeat (refine awp_stepG [0,2,3,5,6,7,8,9,14] hX mixed rfl ?_; (simp [go_sem,ha0]; try (refine ⟨by kernel_rfl,?_⟩))))
     · simp at h
       (repeat (refine awp_stepG [0,2,3,5,6,7,8,9,14] hX mixed rfl ?_; (simp [go_sem]; (try simp (disch :=omega) only [w64,td,tm]); try (refine ⟨by kernel_rfl,?_⟩))))
       refine ⟨2,⟨by omega,fun _ => ha0,fun _ => h⟩,by omega,?_⟩
       refine sub_of _ [] (by simp [go_sem]) ?_
       simp [go_sem]
   | 2,_ =>
     have ha0 :=ha (by omega)
     have hb0 :=hb (by omega)
     (repeat (refine awp_stepG [0,2,3,5,6,7,8,9,14] hX mixed rfl ?_; (simp [go_sem]; try (refine ⟨by kernel_rfl,?_⟩))))
     refine awp_cond (b :=false) (by simp [go_sem]) (fun h => by cases h) (fun _ => ?_)
     (repeat (refine awp_stepG [0,2,3,5,6,7,8,9,14] hX mixed rfl ?_; (simp [go_sem,ha0,hb0]; try (refine ⟨by kernel_rfl,?_⟩))))
set_option maxHeartbeats 4000000 in
set_option maxRecDepth 20000 in
theorem Add_m (z w : Int) (hz : rz z) (hw : rz w) : Means false Try.prog 86 [bigZ z,bigZ w] (res (z + w)) :=by
 have hlz :=len60 hz
 have hlw :=len60 hw
 have hsz :=sg_bd z
 have hsw :=sg_bd w
 have hza :=ab_nonneg z
 have hwa :=ab_nonneg w
 have hmm : -1 ≤ sg z * sg w ∧ sg z * sg w ≤ 1 :=by rw [← sg_mul]; exact sg_bd _
 have hww :=w64 (x :=sg z * sg w) (by omega) (by omega)
 have hsum : ab (z + w) ≤ ab z + ab w :=by rcases sg_cases z with h | h | h <;> rcases sg_cases w with h2 | h2 | h2 <;> rcases sg_cases (z + w) with h3 | h3 | h3 <;> omega
 have hl61 : (dg (ab z + ab w)).length ≤ 61 :=by
  rw [dg_len_iff]
  unfold rz at hz hw
  have : (1048576 : Int) ^ 61 = 1048576 ^ 60 * 1048576 :=Int.pow_succ _ _
  omega
 have hl61' : (dg (ab (z + w))).length ≤ 61 :=Nat.le_trans (dg_len_mono hsum) hl61
 have hch :=check_m (z + w) (by omega)
 have hcm :=compare_m (dg (ab z)) (dg (ab w)) (by omega) (by omega) (okD_dg _) (okD_dg _) (dg_dg hza) (dg_dg hwa)
 rw [val_ab,val_ab] at hcm
 refine means_fn false 69 [.cell 4 46,.tmp 5] Try.func86 rfl rfl rfl (by simp) (by decide) rfl fun X hX => ?_
 (repeat (refine awp_stepG [0,1,2,3,4,5,13,18,40] hX mixed rfl ?_; (simp [go_sem]; try (refine ⟨by kernel_rfl,?_⟩))))
 first | refine callKa (right_t z hz) ?_ | refine callTa (right_t z hz) ?_
 try (simp [go_sem]; try (refine ⟨by kernel_rfl,?_⟩))
 first | refine callGa (fun hg => right_t w hw) ?_ | refine callGTa (fun hg => right_t w hw) ?_
 try (simp [go_sem]; try (refine ⟨by kernel_rfl,?_⟩))
 refine awp_cond (b :=false) (by simp [go_sem]) (fun h => by cases h) (fun _ => ?_)
 (repeat (refine awp_stepG [0,1,2,3,4,5,13,18,40] hX mixed rfl ?_; (simp [go_sem,hww]; (try simp (disch :=omega) only [w64,td,tm]); try (refine ⟨by kernel_rfl,?_⟩))))
 refine awp_cond (b :=decide (0 ≤ sg z * sg w)) (by simp [go_sem]) (fun hd => ?_) (fun hd => ?_)
 · simp at hd
   have hab : ab (z + w) = ab z + ab w :=by
    rcases sg_cases z with ⟨h,h1,h2⟩ | ⟨h,h1,h2⟩ | ⟨h,h1,h2⟩ <;> rcases sg_cases w with ⟨h3,h4,h5⟩ | ⟨h3,h4,h5⟩ | ⟨h3,h4,h5⟩ <;> rw [h,h3] at hd <;> rcases sg_cases (z + w) with h6 | h6 | h6 <;> omega
   have hsg : ab z + ab w ≠ 0 → sg (z + w) = (if sg z = 0 then sg w else sg z) :=by
    intro _
    rcases sg_cases z with ⟨h,h1,h2⟩ | ⟨h,h1,h2⟩ | ⟨h,h1,h2⟩ <;> rcases sg_cases w with ⟨h3,h4,h5⟩ | ⟨h3,h4,h5⟩ | ⟨h3,h4,h5⟩ <;> rw [h,h3] at hd ⊢ <;> rcases sg_cases (z + w) with h6 | h6 | h6 <;> simp <;> omega
   have hadd :=add_m (dg (ab z)) (dg (ab w)) (okD_dg _) (okD_dg _) (by omega) (by omega)
   rw [val_ab,val_ab] at hadd
   have hvv : val (dg (ab z + ab w)) = ab z + ab w :=val_dg (by omega)
   have hsgn :=signed_m (if sg z = 0 then sg w else sg z) (dg (ab z + ab w)) (z + w) (by omega) (okD_dg _) (by rw [hvv,hab]) (by rw [hvv]; exact hsg)
   (repeat (refine awp_stepG [0,1,2,3,4,5,13,18,40] hX mixed rfl ?_; (simp [go_sem]; (try simp (disch :=omega) only [w64,td,tm]); try (refine ⟨by kernel_rfl,?_⟩))))
   first | refine callKa (or_m (sg z) (sg w)) ?_ | refine callTa (or_m (sg z) (sg w)) ?_
   try (simp [go_sem]; try (refine ⟨by kernel_rfl,?_⟩))
   first | refine callKa (hadd) ?_ | refine callTa (hadd) ?_
   try (simp [go_sem]; try (refine ⟨by kernel_rfl,?_⟩))
   first | refine callKa (hsgn) ?_ | refine callTa (hsgn) ?_
   try (simp [go_sem]; try (refine ⟨by kernel_rfl,?_⟩))
   first | refine callKa (hch) ?_ | refine callTa (hch) ?_
   try (simp [go_sem]; try (refine ⟨by kernel_rfl,?_⟩))
   (repeat refine And.intro (by first | omega | (unfold maxLen; omega) | kernel_rfl | (refine ⟨by first | omega | (unfold maxLen; omega),by first | omega | (unfold maxLen; omega)⟩) | grind) ?_)
   (repeat (refine awp_stepG [0,1,2,3,4,5,13,18,40] hX mixed rfl ?_; (simp [go_sem]; try (refine ⟨by kernel_rfl,?_⟩))))
 · simp at hd
   have hcl : cmpI (ab z) (ab w) < 0 ↔ ab z < ab w :=cmpI_lt
   (repeat (refine awp_stepG [0,1,2,3,4,5,13,18,40] hX mixed rfl ?_; (simp [go_sem]; (try simp (disch :=omega) only [w64,td,tm]); try (refine ⟨by kernel_rfl,?_⟩))))
   first | refine callKa (hcm) ?_ | refine callTa (hcm) ?_
   try (simp [go_sem]; try (refine ⟨by kernel_rfl,?_⟩))
   (repeat (refine awp_stepG [0,1,2,3,4,5,13,18,40] hX mixed rfl ?_; (simp [go_sem]; (try simp (disch :=omega) only [w64,td,tm]); try (refine ⟨by kernel_rfl,?_⟩))))
   refine awp_cond (b :=decide (ab z < ab w)) (by simp [go_sem,cmpI_lt]) (fun hd2 => ?_) (fun hd2 => ?_)
   · simp at hd2
     have hsub :=sub_m (dg (ab w)) (dg (ab z)) (okD_dg _) (okD_dg _) (by omega) (by omega) (by rw [val_ab,val_ab]; omega)
     rw [val_ab,val_ab] at hsub
     have hvv : val (dg (ab w - ab z)) = ab w - ab z :=val_dg (by omega)
     have hfin : ab (z + w) = ab w - ab z ∧ sg (z + w) = sg w :=by
      rcases sg_cases z with ⟨h,h1,h2⟩ | ⟨h,h1,h2⟩ | ⟨h,h1,h2⟩ <;> rcases sg_cases w with ⟨h3,h4,h5⟩ | ⟨h3,h4,h5⟩ | ⟨h3,h4,h5⟩ <;> rw [h,h3] at hd <;> rcases sg_cases (z + w) with h6 | h6 | h6 <;> omega
     have hsgn :=signed_m (sg w) (dg (ab w - ab z)) (z + w) (by have :=dg_len_mono (show ab w - ab z ≤ ab z + ab w by omega); omega) (okD_dg _) (by rw [hvv,hfin.1]) (fun _ => hfin.2)
     (repeat (refine awp_stepG [0,1,2,3,4,5,13,18,40] hX mixed rfl ?_; (simp [go_sem]; (try simp (disch :=omega) only [w64,td,tm]); try (refine ⟨by kernel_rfl,?_⟩))))
     first | refine callKa (hsub) ?_ | refine callTa (hsub) ?_
     try (simp [go_sem]; try (refine ⟨by kernel_rfl,?_⟩))
     first | refine callKa (hsgn) ?_ | refine callTa (hsgn) ?_
     try (simp [go_sem]; try (refine ⟨by kernel_rfl,?_⟩))
     first | refine callKa (hch) ?_ | refine callTa (hch) ?_
     try (simp [go_sem]; try (refine ⟨by kernel_rfl,?_⟩))
     (repeat refine And.intro (by first | omega | (unfold maxLen; omega) | kernel_rfl | (refine ⟨by first | omega | (unfold maxLen; omega),by first | omega | (unfold maxLen; omega)⟩) | grind) ?_)
     (repeat (refine awp_stepG [0,1,2,3,4,5,13,18,40] hX mixed rfl ?_; (simp [go_sem]; try (refine ⟨by kernel_rfl,?_⟩))))
   · simp at hd2
     have hsub :=sub_m (dg (ab z)) (dg (ab w)) (okD_dg _) (okD_dg _) (by omega) (by omega) (by rw [val_ab,val_ab]; omega)
     rw [val_ab,val_ab] at hsub
     have hvv : val (dg (ab z - ab w)) = ab z - ab w :=val_dg (by omega)
     have hfin : ab (z + w) = ab z - ab w ∧ (ab z - ab w ≠ 0 → sg (z + w) = sg z) :=by
      rcases sg_cases z with ⟨h,h1,h2⟩ | ⟨h,h1,h2⟩ | ⟨h,h1,h2⟩ <;> rcases sg_cases w with ⟨h3,h4,h5⟩ | ⟨h3,h4,h5⟩ | ⟨h3,h4,h5⟩ <;> rw [h,h3] at hd <;> rcases sg_cases (z + w) with h6 | h6 | h6 <;> omega
     have hsgn :=signed_m (sg z) (dg (ab z - ab w)) (z + w) (by have :=dg_len_mono (show ab z - ab w ≤ ab z + ab w by omega); omega) (okD_dg _) (by rw [hvv,hfin.1]) (by rw [hvv]; exact hfin.2)
     (repeat (refine awp_stepG [0,1,2,3,4,5,13,18,40] hX mixed rfl ?_; (simp [go_sem]; (try simp (disch :=omega) only [w64,td,tm]); try (refine ⟨by kernel_rfl,?_⟩))))
     first | refine callKa (hsub) ?_ | refine callTa (hsub) ?_
     try (simp [go_sem]; try (refine ⟨by kernel_rfl,?_⟩))
     first | refine callKa (hsgn) ?_ | refine callTa (hsgn) ?_
     try (simp [go_sem]; try (refine ⟨by kernel_rfl,?_⟩))
     first | refine callKa (hch) ?_ | refine callTa (hch) ?_
     try (simp [go_sem]; try (refine ⟨by kernel_rfl,?_⟩))
     (repeat refine And.intro (by first | omega | (unfold maxLen; omega) | kernel_rfl | (refine ⟨by first | omega | (unfold maxLen; omega),by first | omega | (unfold maxLen; omega)⟩) | grind) ?_)
     (repeat (refine awp_stepG [0,1,2,3,4,5,13,18,40] hX mixed rfl ?_; (simp [go_sem]; try (refine ⟨by kernel_rfl,?_⟩))))
theorem rz_neg {z : Int} (h : rz z) : rz (-z) :=by unfold rz at *; rwa [ab_neg]
end Go.Proofs.Ytndiamkmcoghdaa

