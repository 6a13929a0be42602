/-
  Lemmas for the statement at the top.
-/
import Derived.Test.YtknbcehhjffndaaGreatYeP6
set_option linter.all false
namespace Go.Ab
def q16x0 : List Nat :=[0,1,4,5,6,7,8,9,10,11,12,13,14,15,16,17,22,27,48,65,80,137]
def q16x1 : List Nat :=[0,1,2,6,7,8,9,10,11,13,14,15,26,45,48,49,50,61,1000000]
def q16x2 : List Nat :=[0,1,4,5,6,7,8,9,10,11,18,19,20,21,25,26,27,28,1000000]
def q16x3 : List Nat :=[0,1,2,3,5,10,11,12,13,21,24]
def q16x4 : List Nat :=[0,2,3,5,6,7,8,9,14]
def q16x5 : List Nat :=[0,1,2,3,4,5,13,18,40]
def q16x6 : List Nat :=[0,1,2,3,4,12,17]
attribute [go_sem] q16x0 q16x1 q16x2 q16x3 q16x4 q16x5 q16x6
end Go.Ab
namespace Go.Proofs.YtknbcehhjffndaaGreat
open Go.RowKit Go.Ab
attribute [local irreducible] AWP Go.Ab.Sub Means MeansH CallK CallG CallT CallGT
theorem qU {L : List Int} {i : Nat} (h : i < L.length) : (L.drop i).headD 0 = L[i] :=by rw [List.drop_eq_getElem_cons h]; rfl
theorem nI {L : List Int} {i : Nat} (h : ¬ i < L.length) : (L.drop i).headD 0 = 0 :=by rw [List.drop_of_length_le (by omega)]; rfl
theorem oH {L S : List Int} {i m j : Nat} (hS : S.length = L.length) (h1 : S.take i = L.take i) (h2 : S.drop (i + m) = L.drop (i + m)) (hj : j < m) (x : Int) :
  (S.set (i + j) x).take i = L.take i ∧ (S.set (i + j) x).drop (i + m) = L.drop (i + m) :=by
 rw [List.take_set_of_le (by omega),List.drop_set_of_lt (by omega)]
 exact ⟨h1,h2⟩
theorem GX {L S : List Int} {k : Nat} (h : S.drop k = L.drop k) (hk : k < S.length) (hk2 : k < L.length) : S[k] = L[k] ∧ S.drop (k + 1) = L.drop (k + 1) :=by
 rw [List.drop_eq_getElem_cons hk,List.drop_eq_getElem_cons hk2] at h
 exact List.cons.inj h
theorem lP {S : List Int} {i j : Nat} (h : i + j < S.length) (x : Int) : ((S.set (i + j) x).drop i).take (j + 1) = (S.drop i).take j ++ [x] :=by
 rw [List.drop_set,if_neg (by omega),show i + j - i = j by omega,eI (by simp; omega)]
theorem JF {L : List Int} {i m j : Nat} (h : i + j < L.length) (hj : j < m) : ((L.drop i).take m)[j]'(by simp; omega) = L[i + j] :=by simp
theorem yA {L : List Int} {i m j : Nat} (h : i + m ≤ L.length) (hj : j < m) : ((L.drop i).take m).drop j = L[i + j]'(by omega) :: ((L.drop i).take m).drop (j + 1) :=by
 rw [List.drop_eq_getElem_cons (by simp; omega),JF (by omega) hj]
theorem mod_one {p x y a b : Int} (hx : 0 ≤ x ∧ x < p) (hy : 0 ≤ y ∧ y < p) (h : x + p * a = y + p * b) : x = y :=by
 have e : (x + p * a) % p = (y + p * b) % p :=by rw [h]
 rwa [Int.add_mul_emod_self_left,Int.add_mul_emod_self_left,Int.emod_eq_of_lt hx.1 hx.2,Int.emod_eq_of_lt hy.1 hy.2] at e
theorem t9 {L S L2 : List Int} {i n : Nat} {x : Int} (hi : i + n ≤ L.length) (hS : S.length = L.length) (h1 : S.take i = L.take i) (h2 : S.drop (i + n) = L.drop (i + n)) (ho : okD S) (hv : val ((S.drop i).take n) = x)
  (hL2 : L2 = L.take i ++ padD n x ++ L.drop (i + n)) : L2 = S :=by
 rw [hL2,HE (bB (bM ho i) n) (by simp; omega) hv,← h1,← h2,List.append_assoc,← List.drop_drop,List.take_append_drop,List.take_append_drop]
set_option maxHeartbeats 4000000 in
set_option maxRecDepth 20000 in
theorem GY (L v : List Int) (i n : Nat) (g q : Int) (hL : okD L) (hv : okD v) (hn : n = v.length + 1) (hi : i + n ≤ L.length) (hll : L.length ≤ 30000) (hg : 0 ≤ g ∧ g < 1048576) (hq : q ≤ g ∧ g ≤ q + 1)
  (h1 : q * val v ≤ val ((L.drop i).take n)) (h2 : val ((L.drop i).take n) < (q + 1) * val v) (L2 : List Int) (hL2 : L2 = L.take i ++ padD n (val ((L.drop i).take n) - q * val v) ++ L.drop (i + n)) :
  MeansH Tryz.prog 121 [.row ⟨3,1,L.map ii⟩] [.wn 0 1 i n,il v,ii g] (ii q) [.row ⟨3,1,L2.map ii⟩] :=by
 refine bI 1 78 [.tmp 6] Tryz.func121 rfl rfl rfl (by simp) (by decide) rfl fun X hX => ?_
 (repeat (refine aC q16x1 hX a7 rfl ?_; (simp [go_sem]; (try simp (disch :=omega) only [w64,td,tm]))))
 generalize hw : (L.drop i).take n = w at *
 have hwl : w.length = n :=by rw [← hw]; simp; omega
 refine aF (fun x : Nat × List Int × Int => ⟨mkE [(0,.wn 0 1 i n),(1,il v),(2,ii g),(7,ii x.2.2),(13,ii n),(14,ii x.1),(1000000,.ow 0)],[.row ⟨3,1,x.2.1.map ii⟩]⟩)
  (fun x => x.1 ≤ n ∧ x.2.1.length = L.length ∧ (0 ≤ x.2.2 ∧ x.2.2 ≤ g) ∧ okD x.2.1 ∧ x.2.1.take i = L.take i ∧ x.2.1.drop (i + n) = L.drop (i + n) ∧ x.2.1.drop (i + x.1) = L.drop (i + x.1) ∧
   smC g 0 w v = (x.2.1.drop i).take x.1 ++ smC g x.2.2 (w.drop x.1) (v.drop x.1)) (fun x => n - x.1) (0,L,0) ?_ ?_ ?_
 · refine aA _ [.old 0 ⟨3,1,L.map ii⟩] (by simp [go_sem]) ?_
   simp [go_sem]
 · simp; exact ⟨hg.1,hL⟩
 · rintro ⟨j,S,c⟩ ⟨hj,hS,hc,hSo,hS1,hS2,hS3,hE⟩
   simp only [] at hj hS hc hSo hS1 hS2 hS3 hE
   (repeat (refine aC q16x1 hX a7 rfl ?_; (simp [go_sem])))
   refine a8 (b :=decide (j < n)) (by simp [go_sem]) (fun hd => ?_) (fun hd => ?_)
   · simp at hd
     have hij : i + j < S.length :=by omega
     have hij2 : i + j < L.length :=by omega
     have hx :=b5 hL hij2
     obtain ⟨hS4,hS5⟩ :=GX hS3 hij hij2
     rw [← hw,yA hi hd,hw,smC] at hE
     (repeat (refine aC q16x1 hX a7 rfl ?_; (simp [go_sem,hd,hij,hS4]; (try simp (disch :=omega) only [w64,td,tm]))))
     by_cases hiC : j < v.length
     · have hy :=b5 hv hiC
       rw [qU hiC,List.tail_drop] at hE
       obtain ⟨hb1,hb2⟩ :=KJ hg.1 hc hx hy
       refine a8 (b :=true) (by simp [go_sem,hiC]) (fun _ => ?_) (fun h => by cases h)
       (repeat (refine aC q16x1 hX a7 rfl ?_; (simp [go_sem,hiC,hij]; (try simp (disch :=omega) only [w64,td,tm]))))
       refine ⟨hd,?_⟩
       (repeat (refine aC q16x1 hX a7 rfl ?_; (simp [go_sem]; (try simp (disch :=omega) only [w64,td,tm]))))
       obtain ⟨m1,m2⟩ :=oH hS hS1 hS2 hd ((L[i + j] - c - g * v[j]) % 1048576)
       refine ⟨j + 1,S.set (i + j) ((L[i + j] - c - g * v[j]) % 1048576),-((L[i + j] - c - g * v[j]) / 1048576),⟨by omega,by simpa using hS,hb2,gX hSo _ (by omega),m1,m2,?_,?_⟩,by omega,?_⟩
       · rw [← Nat.add_assoc,bX,hS5]
       · rw [hE,lP hij]; simp
       · refine aA _ [.old 0 ⟨3,1,(S.set (i + j) ((L[i + j] - c - g * v[j]) % 1048576)).map ii⟩] (by simp [go_sem]) ?_
         simp [go_sem]
     · rw [nI hiC,List.tail_drop,Int.mul_zero,Int.sub_zero] at hE
       refine a8 (b :=false) (by simp [go_sem]; omega) (fun h => by cases h) (fun _ => ?_)
       (repeat (refine aC q16x1 hX a7 rfl ?_; (simp [go_sem,hij]; (try simp (disch :=omega) only [w64,td,tm]))))
       refine ⟨hd,?_⟩
       (repeat (refine aC q16x1 hX a7 rfl ?_; (simp [go_sem]; (try simp (disch :=omega) only [w64,td,tm]))))
       obtain ⟨m1,m2⟩ :=oH hS hS1 hS2 hd ((L[i + j] - c) % 1048576)
       refine ⟨j + 1,S.set (i + j) ((L[i + j] - c) % 1048576),-((L[i + j] - c) / 1048576),⟨by omega,by simpa using hS,by omega,gX hSo _ (by omega),m1,m2,?_,?_⟩,by omega,?_⟩
       · rw [← Nat.add_assoc,bX,hS5]
       · rw [hE,lP hij]; simp
       · refine aA _ [.old 0 ⟨3,1,(S.set (i + j) ((L[i + j] - c) % 1048576)).map ii⟩] (by simp [go_sem]) ?_
         simp [go_sem]
   · have hjn : j = n :=by simp at hd; omega
     subst hjn
     rw [List.drop_of_length_le (l :=w) (by omega),smC] at hE
     have hvv :=AD g 0 w v _ c (by omega) hE
     rw [hwl] at hvv
     generalize hT : (S.drop i).take j = T at *
     have hTo : okD T :=by rw [← hT]; exact bB (bM hSo i) j
     have hTl : T.length = j :=by rw [← hT]; simp; omega
     have hT1 :=aM hTo
     have hT2 :=d8 hTo
     rw [hTl] at hT2
     have hV1 :=aM hv
     have hV2 :=d8 hv
     have hpp : (1048576 : Int) ^ j = 1048576 ^ v.length * 1048576 :=by rw [hn,Int.pow_succ]
     (repeat (refine aC q16x1 hX a7 rfl ?_; (simp [go_sem]; (try simp (disch :=omega) only [w64,td,tm]))))
     refine a8 (b :=decide (c = 0)) (by simp [go_sem]) (fun hb => ?_) (fun hb => ?_)
     · simp at hb
       subst hb
       have hgq : g = q :=by
        have : g = q ∨ g = q + 1 :=by omega
        rcases this with h | h
        · exact h
        · subst h; omega
       subst hgq
       have hLS : L2 = S :=t9 hi hS hS1 hS2 hSo (by rw [hT]; omega) hL2
       subst hLS
       (repeat (refine aC q16x1 hX a7 rfl ?_; (simp [go_sem]; (try simp (disch :=omega) only [w64,td,tm]))))
       refine b8 ?_; (try simp only [thenQ,blkQ,loopQ]); refine bH [(6,ii g),(1000000,.ow 0)] [.old 0 ⟨3,1,L2.map ii⟩] ?_
       simp [go_sem]
     · simp at hb
       have hgq : g = q + 1 :=by
        have : g = q ∨ g = q + 1 :=by omega
        rcases this with h | h
        · subst h
          have : (1048576 : Int) ^ j ≤ 1048576 ^ j * c :=by
           have :=Int.mul_le_mul_of_nonneg_left (show 1 ≤ c by omega) (show (0 : Int) ≤ 1048576 ^ j by omega)
           simpa using this
          omega
        · exact h
       subst hgq
       have hval :=pB 0 T v (by omega)
       (repeat (refine aC q16x1 hX a7 rfl ?_; (simp [go_sem]; (try simp (disch :=omega) only [w64,td,tm]))))
       refine aF (fun x : Nat × List Int × Int => ⟨mkE [(0,.wn 0 1 i j),(1,il v),(2,ii (q + 1)),(10,ii x.2.2),(48,ii j),(49,ii x.1),(1000000,.ow 0)],[.row ⟨3,1,x.2.1.map ii⟩]⟩)
        (fun x => x.1 ≤ j ∧ x.2.1.length = L.length ∧ (0 ≤ x.2.2 ∧ x.2.2 ≤ 1) ∧ okD x.2.1 ∧ x.2.1.take i = L.take i ∧ x.2.1.drop (i + j) = L.drop (i + j) ∧ x.2.1.drop (i + x.1) = S.drop (i + x.1) ∧
         addC 0 T v = (x.2.1.drop i).take x.1 ++ addC x.2.2 (T.drop x.1) (v.drop x.1)) (fun x => j - x.1) (0,S,0) ?_ ?_ ?_
       · refine aA _ [.old 0 ⟨3,1,S.map ii⟩] (by simp [go_sem]) ?_
         simp [go_sem]
       · simp; exact ⟨hS,hSo,hS1,hS2⟩
       · rintro ⟨k,R,d⟩ ⟨hk,hR,hdd,hRo,hR1,hR2,hR3,hF⟩
         simp only [] at hk hR hdd hRo hR1 hR2 hR3 hF
         (repeat (refine aC q16x1 hX a7 rfl ?_; (simp [go_sem])))
         refine a8 (b :=decide (k < j)) (by simp [go_sem]) (fun hd3 => ?_) (fun hd3 => ?_)
         · simp at hd3
           have hik : i + k < R.length :=by omega
           have hik2 : i + k < S.length :=by omega
           have hx :=b5 hSo hik2
           obtain ⟨hR4,hR5⟩ :=GX hR3 hik hik2
           rw [← hT,yA (by omega) hd3,hT,addC] at hF
           (repeat (refine aC q16x1 hX a7 rfl ?_; (simp [go_sem,hd3,hik,hR4]; (try simp (disch :=omega) only [w64,td,tm]))))
           by_cases hiC : k < v.length
           · have hy :=b5 hv hiC
             rw [qU hiC,List.tail_drop] at hF
             refine a8 (b :=true) (by simp [go_sem,hiC]) (fun _ => ?_) (fun h => by cases h)
             (repeat (refine aC q16x1 hX a7 rfl ?_; (simp [go_sem,hiC,hik]; (try simp (disch :=omega) only [w64,td,tm]))))
             refine ⟨hd3,?_⟩
             (repeat (refine aC q16x1 hX a7 rfl ?_; (simp [go_sem]; (try simp (disch :=omega) only [w64,td,tm]))))
             obtain ⟨m1,m2⟩ :=oH hR hR1 hR2 hd3 ((d + S[i + k] + v[k]) % 1048576)
             refine ⟨k + 1,R.set (i + k) ((d + S[i + k] + v[k]) % 1048576),(d + S[i + k] + v[k]) / 1048576,⟨by omega,by simpa using hR,by omega,gX hRo _ (by omega),m1,m2,?_,?_⟩,by omega,?_⟩
             · rw [← Nat.add_assoc,bX,hR5]
             · rw [hF,lP hik]; simp
             · refine aA _ [.old 0 ⟨3,1,(R.set (i + k) ((d + S[i + k] + v[k]) % 1048576)).map ii⟩] (by simp [go_sem]) ?_
               simp [go_sem]
           · rw [nI hiC,List.tail_drop,Int.add_zero] at hF
             refine a8 (b :=false) (by simp [go_sem]; omega) (fun h => by cases h) (fun _ => ?_)
             (repeat (refine aC q16x1 hX a7 rfl ?_; (simp [go_sem,hik]; (try simp (disch :=omega) only [w64,td,tm]))))
             refine ⟨hd3,?_⟩
             (repeat (refine aC q16x1 hX a7 rfl ?_; (simp [go_sem]; (try simp (disch :=omega) only [w64,td,tm]))))
             obtain ⟨m1,m2⟩ :=oH hR hR1 hR2 hd3 ((d + S[i + k]) % 1048576)
             refine ⟨k + 1,R.set (i + k) ((d + S[i + k]) % 1048576),(d + S[i + k]) / 1048576,⟨by omega,by simpa using hR,by omega,gX hRo _ (by omega),m1,m2,?_,?_⟩,by omega,?_⟩
             · rw [← Nat.add_assoc,bX,hR5]
             · rw [hF,lP hik]; simp
             · refine aA _ [.old 0 ⟨3,1,(R.set (i + k) ((d + S[i + k]) % 1048576)).map ii⟩] (by simp [go_sem]) ?_
               simp [go_sem]
         · have hkj : k = j :=by simp at hd3; omega
           subst hkj
           rw [List.drop_of_length_le (l :=T) (by omega),addC] at hF
           have hT3 : okD ((R.drop i).take k) :=bB (bM hRo i) k
           have hT4 : ((R.drop i).take k).length = k :=by simp; omega
           have hT5 :=aM hT3
           have hT6 :=d8 hT3
           rw [hT4] at hT6
           have hva :=eD ((R.drop i).take k) [d]
           rw [← hF,hval,hT4] at hva
           have hva2 : val ((R.drop i).take k) = val w - q * val v :=by
            refine mod_one (p :=1048576 ^ k) (a :=d) (b :=c) ⟨hT5,hT6⟩ ⟨by omega,?_⟩ ?_
            · rw [Int.add_mul,Int.one_mul] at h2; omega
            · rw [Int.add_mul,Int.one_mul] at hvv
              simp only [val] at hva
              rw [show d + 1048576 * 0 = d by omega] at hva
              omega
           have hLS : L2 = R :=t9 hi hR hR1 hR2 hRo hva2 hL2
           subst hLS
           (repeat (refine aC q16x1 hX a7 rfl ?_; (simp [go_sem]; (try simp (disch :=omega) only [w64,td,tm]))))
           refine b8 ?_; (try simp only [thenQ,blkQ,loopQ]); refine bH [(6,ii q),(1000000,.ow 0)] [.old 0 ⟨3,1,L2.map ii⟩] ?_
           simp [go_sem]
end Go.Proofs.YtknbcehhjffndaaGreat

namespace Go.Proofs.YtknbcehhjffndaaGreat
open Go.RowKit Go.Ab
attribute [local irreducible] AWP Go.Ab.Sub Means MeansH CallK CallG CallT CallGT
set_option maxHeartbeats 4000000 in
set_option maxRecDepth 20000 in
theorem NA (a b : List Int) (ha : okD a) (hb : okD b) (hla : a.length ≤ 10000) (hlb : b.length ≤ 10000) :
  MeansH Tryz.prog 118 [.row ⟨3,1,b.map ii⟩] [il a,.ow 0] (.wn 1 1 0 (dg (val a * val b)).length) [.row ⟨3,1,b.map ii⟩,.row ⟨3,1,(mrC b a (List.replicate (a.length + b.length) 0)).map ii⟩] :=by
 obtain ⟨hv,hok,hlen⟩ :=iS b hb a (List.replicate (a.length + b.length) 0) ha (dY _) (by simp) (fun j hj _ => by simp)
 rw [gF,Int.zero_add] at hv
 rw [List.length_replicate] at hlen
 generalize hRR : mrC b a (List.replicate (a.length + b.length) 0) = RR at *
 refine bI 1 67 [.tmp 4] Tryz.func118 rfl rfl rfl (by simp) (by decide) rfl fun X hX => ?_
 have hrl : ((a.length : Int) + (b.length : Int)).toNat = a.length + b.length :=by omega
 (repeat (refine aC q16x2 hX a7 rfl ?_; (simp [go_sem]; (try simp (disch :=omega) only [w64,td,tm]))))
 (repeat refine And.intro (by first | omega | (unfold maxLen; omega) | kernel_rfl | (refine ⟨by first | omega | (unfold maxLen; omega),by first | omega | (unfold maxLen; omega)⟩) | grind) ?_)
 (repeat (refine aC q16x2 hX a7 rfl ?_; (simp [go_sem]; (try simp (disch :=omega) only [w64,td,tm]))))
 refine aF (fun x : Nat × List Int => ⟨mkE [(0,il a),(1,.ow 0),(5,.ow 1),(18,il a),(19,ii a.length),(20,ii x.1),(1000000,.ow 0)],[.row ⟨3,1,b.map ii⟩,.row ⟨3,1,x.2.map ii⟩]⟩)
  (fun x => x.1 ≤ a.length ∧ x.2.length = a.length + b.length ∧ okD x.2 ∧ (∀ j (hj : j < x.2.length),x.1 + b.length ≤ j → x.2[j] = 0) ∧ RR = x.2.take x.1 ++ mrC b (a.drop x.1) (x.2.drop x.1)) (fun x => a.length - x.1) (0,List.replicate (a.length + b.length) 0) ?_ ?_ ?_
 · refine aA _ [.old 0 ⟨3,1,b.map ii⟩,.old 1 ⟨3,1,(List.replicate (a.length + b.length) (0 : Int)).map ii⟩] (by simp [go_sem,hrl]) ?_
   simp [go_sem]
 · refine ⟨Nat.zero_le _,by simp,dY _,fun j hj _ => by simp,by simp [hRR]⟩
 · rintro ⟨i,T⟩ ⟨hi,hT,hTo,hTz,hE⟩
   simp only [] at hi hT hTo hTz hE
   (repeat (refine aC q16x2 hX a7 rfl ?_; (simp [go_sem])))
   refine a8 (b :=decide (i < a.length)) (by simp [go_sem]) (fun hd => ?_) (fun hd => ?_)
   · simp at hd
     have hx :=b5 ha hd
     (repeat (refine aC q16x2 hX a7 rfl ?_; (simp [go_sem,hd]; (try simp (disch :=omega) only [w64,td,tm]))))
     try (simp [go_sem,hd])
     have hlz :=jP a[i] 0 b (T.drop i)
     obtain ⟨hao,haz⟩ :=tU a[i] hx 0 b (T.drop i) (by decide) hb (bM hTo i) (fun j hj h => by
      have :=hTz (i + j) (by simp at hj; omega) (by omega)
      simpa using this)
     refine aF (fun x : Nat × List Int × Int => ⟨mkE [(0,il a),(1,.ow 0),(5,.ow 1),(6,ii i),(7,ii a[i]),(8,ii x.2.2),(18,il a),(19,ii a.length),(20,ii i),(25,.ow 0),(26,ii b.length),(27,ii x.1),(1000000,.ow 0)],[.row ⟨3,1,b.map ii⟩,.row ⟨3,1,x.2.1.map ii⟩]⟩)
      (fun x => x.1 ≤ b.length ∧ x.2.1.length = a.length + b.length ∧ okD x.2.1 ∧ (∀ j (hj : j < x.2.1.length),i + b.length ≤ j → x.2.1[j] = 0) ∧ (0 ≤ x.2.2 ∧ x.2.2 < 1048576) ∧
       T.take i ++ amC a[i] 0 b (T.drop i) = x.2.1.take (i + x.1) ++ amC a[i] x.2.2 (b.drop x.1) (x.2.1.drop (i + x.1))) (fun x => b.length - x.1) (0,T,0) ?_ ?_ ?_
     · refine aA _ [.old 0 ⟨3,1,b.map ii⟩,.old 1 ⟨3,1,T.map ii⟩] (by simp [go_sem]) ?_
       simp [go_sem]
     · exact ⟨Nat.zero_le _,hT,hTo,hTz,⟨Int.le_refl 0,by show (0 : Int) < 1048576; decide⟩,by simp⟩
     · rintro ⟨k,S,c⟩ ⟨hk,hS,hSo,hSz,hc,hF⟩
       simp only [] at hk hS hSo hSz hc hF
       (repeat (refine aC q16x2 hX a7 rfl ?_; (simp [go_sem])))
       refine a8 (b :=decide (k < b.length)) (by simp [go_sem]) (fun hd2 => ?_) (fun hd2 => ?_)
       · simp at hd2
         have hy :=b5 hb hd2
         have hik : i + k < S.length :=by omega
         have hs :=b5 hSo hik
         have hm :=kH hx hy
         rw [List.drop_eq_getElem_cons hd2,List.drop_eq_getElem_cons hik,amC] at hF
         have hik2 : (i : Int) + k < S.length :=by omega
         (repeat (refine aC q16x2 hX a7 rfl ?_; (simp [go_sem,hd2,hik,hik2]; (try simp (disch :=omega) only [w64,td,tm]))))
         try (simp [go_sem,hd2,hik,hik2])
         (repeat refine And.intro (by first | omega | (unfold maxLen; omega) | kernel_rfl | (refine ⟨by first | omega | (unfold maxLen; omega),by first | omega | (unfold maxLen; omega)⟩) | grind) ?_)
         (repeat (refine aC q16x2 hX a7 rfl ?_; (simp [go_sem]; (try simp (disch :=omega) only [w64,td,tm]))))
         have hcast : ((i : Int) + (k : Int)).toNat = i + k :=by omega
         refine ⟨⟨by omega,hik2⟩,by omega,?_⟩
         try (simp [go_sem,hcast,hik])
         (repeat (refine aC q16x2 hX a7 rfl ?_; (simp [go_sem]; (try simp (disch :=omega) only [w64,td,tm]))))
         refine ⟨k + 1,S.set (i + k) ((S[i + k] + a[i] * b[k] + c) % 1048576),(S[i + k] + a[i] * b[k] + c) / 1048576,⟨by omega,by simpa using hS,gX hSo _ (by omega),?_,by omega,?_⟩,by omega,?_⟩
         · intro j hj h
           have hj' : j < S.length :=by simpa using hj
           rw [List.getElem_set_ne (by omega)]
           exact hSz j hj' h
         · rw [hF,← Nat.add_assoc,eI hik,bX]; simp
         · refine aA _ [.old 0 ⟨3,1,b.map ii⟩,.old 1 ⟨3,1,(S.set (i + k) ((S[i + k] + a[i] * b[k] + c) % 1048576)).map ii⟩] (by simp [go_sem]) ?_
           simp [go_sem]
       · have hkl : k = b.length :=by simp at hd2; omega
         subst hkl
         have hik : i + b.length < S.length :=by omega
         have hik2 : (i : Int) + b.length < S.length :=by omega
         have hcast : ((i : Int) + (b.length : Int)).toNat = i + b.length :=by omega
         have hS0 : S[i + b.length] = 0 :=hSz _ hik (Nat.le_refl _)
         rw [List.drop_length,List.drop_eq_getElem_cons hik,AB,hS0,Int.zero_add] at hF
         (repeat (refine aC q16x2 hX a7 rfl ?_; (simp [go_sem,hik,hik2,hS0]; (try simp (disch :=omega) only [w64,td,tm]))))
         try (simp [go_sem,hik,hik2,hS0])
         (repeat refine And.intro (by first | omega | (unfold maxLen; omega) | kernel_rfl | (refine ⟨by first | omega | (unfold maxLen; omega),by first | omega | (unfold maxLen; omega)⟩) | grind) ?_)
         (repeat (refine aC q16x2 hX a7 rfl ?_; (simp [go_sem]; (try simp (disch :=omega) only [w64,td,tm]))))
         have hSe : S.set (i + b.length) c = T.take i ++ amC a[i] 0 b (T.drop i) :=by rw [hF,kC hik]
         have hTd : T.drop i = T[i]'(by omega) :: T.drop (i + 1) :=List.drop_eq_getElem_cons (by omega)
         obtain ⟨t,ts,ht⟩ : ∃ t ts,amC a[i] 0 b (T.drop i) = t :: ts :=by
          cases h : amC a[i] 0 b (T.drop i) with
          | nil =>
            have :=congrArg List.length h
            rw [jP,List.length_drop,List.length_nil] at this
            omega
          | cons t ts => exact ⟨t,ts,rfl⟩
         have htl : (T.take i).length = i :=by rw [List.length_take]; omega
         rw [List.drop_eq_getElem_cons hd,wE ht] at hE
         refine ⟨i + 1,S.set (i + b.length) c,⟨by omega,by simpa using hS,?_,?_,?_⟩,by omega,?_⟩
         · rw [hSe]; exact eB.2 ⟨bB hTo i,hao⟩
         · intro j hj h
           have hj' : j < S.length :=by simpa using hj
           rw [List.getElem_set_ne (by omega)]
           exact hSz j hj' (by omega)
         · obtain ⟨q1,q2⟩ :=wF htl t ts
           rw [hSe,hE,ht,q1,q2]; simp
         · refine aA _ [.old 0 ⟨3,1,b.map ii⟩,.old 1 ⟨3,1,(S.set (i + b.length) c).map ii⟩] (by simp [go_sem]) ?_
           simp [go_sem]
   · have hil : i = a.length :=by simp at hd; omega
     subst hil
     rw [List.drop_length,mrC,List.take_append_drop] at hE
     subst hE
     (repeat (refine aC q16x2 hX a7 rfl ?_; (simp [go_sem]; (try simp (disch :=omega) only [w64,td,tm]))))
     rw [← hv]
     have hdt : (dg (val RR)).length ≤ a.length + b.length :=by have :=(cY hok).2; omega
     refine aG [1] (dM RR (by omega) hok) (by simp [go_sem]) ?_
     try (simp [go_sem,hlen,hdt])
     refine b8 ?_; (try simp only [thenQ,blkQ,loopQ]); refine bH [(4,.wn 1 1 0 (dg (val RR)).length),(1000000,.ow 0)] [.old 0 ⟨3,1,b.map ii⟩,.old 1 ⟨3,1,RR.map ii⟩] ?_
     simp [go_sem]
end Go.Proofs.YtknbcehhjffndaaGreat

namespace Go.Proofs.YtknbcehhjffndaaGreat
open Go.RowKit Go.Ab
attribute [local irreducible] AWP Go.Ab.Sub Means MeansH CallK CallG CallT CallGT
theorem j7 {r : Int} (h : 0 ≤ r ∧ r < 1048576) : val [r] = r ∧ okD [r] :=by
 simp [val,okD]; exact h
theorem lA {x y : Int} : cmpI x y < 0 ↔ x < y :=by
 unfold cmpI
 split
 · simp; assumption
 · split <;> omega
set_option maxHeartbeats 4000000 in
set_option maxRecDepth 20000 in
theorem JV (a b : List Int) (ha : okD a) (hb : okD b) (hla : a.length ≤ 9000) (hlb : b.length ≤ 9000) (ta : dg (val a) = a) (tb : dg (val b) = b) (hb0 : 0 < b.length) :
  Means false Tryz.prog 97 [il a,il b] (.tup [il (dg (val a / val b)),il (dg (val a % val b))]) :=by
 have hA0 :=aM ha
 have hB0 :=aM hb
 refine aB false 170 [.tmp 4,.tmp 5] Tryz.func97 rfl rfl rfl (by simp) (by decide) rfl fun X hX => ?_
 (repeat (refine a6 q16x0 hX a7 rfl ?_; (simp [go_sem]; try (refine ⟨by kernel_rfl,?_⟩))))
 first | refine a9 (jR a b (by omega) (by omega) ha hb ta tb) ?_ | refine aE (jR a b (by omega) (by omega) ha hb ta tb) ?_
 try (simp [go_sem]; try (refine ⟨by kernel_rfl,?_⟩))
 (repeat (refine a6 q16x0 hX a7 rfl ?_; (simp [go_sem]; try (refine ⟨by kernel_rfl,?_⟩))))
 refine a8 (b :=decide (val a < val b)) (by simp [go_sem,lA]) (fun hd => ?_) (fun hd => ?_)
 · simp at hd
   rw [Int.ediv_eq_zero_of_lt hA0 hd,Int.emod_eq_of_lt hA0 hd,ta,jO]
   (repeat (refine a6 q16x0 hX a7 rfl ?_; (simp [go_sem]; try (refine ⟨by kernel_rfl,?_⟩))))
   first | refine a9 (gZ a (by omega)) ?_ | refine aE (gZ a (by omega)) ?_
   try (simp [go_sem]; try (refine ⟨by kernel_rfl,?_⟩))
   (repeat (refine a6 q16x0 hX a7 rfl ?_; (simp [go_sem]; try (refine ⟨by kernel_rfl,?_⟩))))
 · simp at hd
   (repeat (refine a6 q16x0 hX a7 rfl ?_; (simp [go_sem]; (try simp (disch :=omega) only [w64,td,tm]); try (refine ⟨by kernel_rfl,?_⟩))))
   refine a8 (b :=decide (b.length = 1)) (by simp [go_sem]; try omega) (fun hl => ?_) (fun hl => ?_)
   · simp at hl
     obtain ⟨d,rfl⟩ : ∃ d,b = [d] :=by
      match b,hl with
      | [d],_ => exact ⟨d,rfl⟩
     have hd1 :=b5 hb (i :=0) (by simp)
     simp only [List.getElem_cons_zero] at hd1
     have hvd :=(j7 hd1).1
     have hd2 : 0 < d :=by
      by_cases h : d = 0
      · subst h; rw [hvd] at tb; cases tb
      · omega
     rw [hvd]
     (repeat (refine a6 q16x0 hX a7 rfl ?_; (simp [go_sem]; try (refine ⟨by kernel_rfl,?_⟩))))
     first | refine a9 (tX a d ha (by omega) hd2 (by omega)) ?_ | refine aE (tX a d ha (by omega) hd2 (by omega)) ?_
     try (simp [go_sem]; try (refine ⟨by kernel_rfl,?_⟩))
     (repeat (refine a6 q16x0 hX a7 rfl ?_; (simp [go_sem]; (try simp (disch :=omega) only [w64,td,tm]); try (refine ⟨by kernel_rfl,?_⟩))))
     have hr : 0 ≤ val a % d ∧ val a % d < 1048576 :=by
      have h1 :=Int.emod_nonneg (val a) (show d ≠ 0 by omega)
      have h2 :=Int.emod_lt_of_pos (val a) hd2
      omega
     obtain ⟨hr1,hr2⟩ :=j7 hr
     have hdt : (dg (val a % d)).length ≤ 1 :=by have :=(cY hr2).2; rw [hr1] at this; simpa using this
     have ht :=(cY hr2).1
     rw [hr1] at ht
     first | refine aG [0] (dM [val a % d] (by simp) hr2) (by simp [go_sem]) ?_ | refine aQ [0] (dM [val a % d] (by simp) hr2) (by simp [go_sem]) ?_ | refine aO [0] (dM [val a % d] (by simp) hr2) (by simp [go_sem]) ?_
     try (simp [go_sem,hr1,hdt]; try (refine ⟨by kernel_rfl,?_⟩))
     (repeat (refine a6 q16x0 hX a7 rfl ?_; (simp [go_sem,hr1,hdt]; (try simp (disch :=omega) only [w64,td,tm]); try (refine ⟨by kernel_rfl,?_⟩))))
     have h :=congrArg (List.map ii) ht
     rw [List.map_take] at h
     exact h.symm
   · simp at hl
     have hlast : b.length - 1 < b.length :=by omega
     have ht :=b5 hb hlast
     have htop : b[b.length - 1] ≠ 0 :=by
      have :=tR (val b)
      simp only [tb,List.getLast_eq_getElem] at this
      exact this (by intro h; rw [h] at hb0; simp at hb0)
     (repeat (refine a6 q16x0 hX a7 rfl ?_; (simp [go_sem]; try (refine ⟨by kernel_rfl,?_⟩))))
     refine aF (fun s : Int => ⟨mkE [(0,il a),(1,il b),(8,ii s)],[]⟩) (fun s => 1 ≤ s ∧ s < 1048576) (fun s => (1048576 - s).toNat) 1 ?_ ?_ ?_
     · refine aA _ [] (by simp [go_sem]) ?_
       simp [go_sem]
     · decide
     · rintro s ⟨hs1,hs2⟩
       have hlc : ((b.length : Int) - 1).toNat = b.length - 1 :=by omega
       have hlc2 : ((b.length : Int) - 1) < b.length :=by omega
       have hlc3 : 1 ≤ (b.length : Int) :=by omega
       have hm : 1 ≤ b[b.length - 1] * s ∧ b[b.length - 1] * s ≤ 1099509530625 :=by
        refine ⟨?_,(kH ht ⟨by omega,hs2⟩).2⟩
        have :=Int.mul_le_mul (show 1 ≤ b[b.length - 1] by omega) hs1 (by decide) (by omega)
        simpa using this
       have hms : s ≤ b[b.length - 1] * s :=by
        have :=Int.mul_le_mul_of_nonneg_right (show 1 ≤ b[b.length - 1] by omega) (show 0 ≤ s by omega)
        simpa using this
       (repeat (refine a6 q16x0 hX a7 rfl ?_; (simp [go_sem,hlast,hlc,hlc2,hlc3]; (try simp (disch :=omega) only [w64,td,tm]); try (refine ⟨by kernel_rfl,?_⟩))))
       have hw :=w64 (x :=b[b.length - 1] * s) (by omega) (by omega)
       try (simp [go_sem,hlc,hlast,hlc2,hlc3,hw]; try (refine ⟨by kernel_rfl,?_⟩))
       refine a8 (b :=decide (b[b.length - 1] * s < 524288)) (by simp [go_sem]) (fun hd2 => ?_) (fun hd2 => ?_)
       · simp at hd2
         (repeat (refine a6 q16x0 hX a7 rfl ?_; (simp [go_sem]; (try simp (disch :=omega) only [w64,td,tm]); try (refine ⟨by kernel_rfl,?_⟩))))
         refine ⟨s * 2,by omega,by omega,?_⟩
         refine aA _ [] (by simp [go_sem]) ?_
         simp [go_sem]
       · clear hd2 hms hm hw hlc hlc2 hlc3
         obtain ⟨hsv,hso⟩ :=j7 (r :=s) ⟨by omega,hs2⟩
         obtain ⟨hRv,hRo,hRl⟩ :=iS [s] hso a (List.replicate (a.length + [s].length) 0) ha (dY _) (by simp) (fun j hj _ => by simp)
         rw [gF,Int.zero_add,hsv] at hRv
         rw [List.length_replicate] at hRl
         have hmo :=NA a [s] ha hso (by omega) (by simp)
         rw [hsv] at hmo
         generalize mrC [s] a (List.replicate (a.length + [s].length) 0) = RR at *
         have hdt :=cY hRo
         rw [hRv] at hdt
         have hwd :=pD hRo
         rw [hRv] at hwd
         (repeat (refine a6 q16x0 hX a7 rfl ?_; (simp [go_sem]; (try simp (disch :=omega) only [w64,td,tm]); try (refine ⟨by kernel_rfl,?_⟩))))
         first | refine aG [0] (hmo) (by simp [go_sem]) ?_ | refine aQ [0] (hmo) (by simp [go_sem]) ?_ | refine aO [0] (hmo) (by simp [go_sem]) ?_
         try (simp [go_sem,hdt.2]; try (refine ⟨by kernel_rfl,?_⟩))
         have hUl : (dg (val a * s)).length ≤ 9001 :=by have :=hdt.2; simp at hRl; omega
         refine ⟨⟨by omega,by unfold maxLen; omega⟩,?_⟩
         have hmm :=JM b [s] hb hso (by omega) (by simp)
         rw [hsv] at hmm
         first | refine a9 (hmm) ?_ | refine aE (hmm) ?_
         rw [hwd]
         have hU0 : val a ≤ val a * s :=by
          have :=Int.mul_le_mul_of_nonneg_left hs1 hA0
          simpa using this
         have hV0 : val b ≤ val b * s :=by
          have :=Int.mul_le_mul_of_nonneg_left hs1 hB0
          simpa using this
         have hUV : val b * s ≤ val a * s :=Int.mul_le_mul_of_nonneg_right hd (by omega)
         have hUa : a.length ≤ (dg (val a * s)).length :=by have :=aV hU0; rwa [ta] at this
         have hVb : b.length ≤ (dg (val b * s)).length :=by have :=aV hV0; rwa [tb] at this
         have hVU : (dg (val b * s)).length ≤ (dg (val a * s)).length :=aV hUV
         have hUok :=aI (val a * s)
         have hVok :=aI (val b * s)
         have hUval :=b6 (n :=val a * s) (by omega)
         have hVval :=b6 (n :=val b * s) (by omega)
         have hVlast : ∀ h : (dg (val b * s)).length - 1 < (dg (val b * s)).length,(dg (val b * s))[(dg (val b * s)).length - 1] ≠ 0 :=by
          intro h
          have :=tR (val b * s)
          simp only [List.getLast_eq_getElem] at this
          exact this (by intro e; rw [e] at h; simp at h)
         clear hmo hmm hwd hdt hRv hRo hRl
         generalize dg (val a * s) = U at *
         generalize dg (val b * s) = V at *
         obtain ⟨k,hk⟩ : ∃ k,V.length = k + 2 :=⟨V.length - 2,by omega⟩
         obtain ⟨m,hm⟩ : ∃ m,U.length + 1 = m + (k + 2) :=⟨U.length + 1 - (k + 2),by omega⟩
         have hrow : List.map ii U ++ [AV.v (Value.int IntKind.i64 0)] = (U ++ [0]).map ii :=by simp
         try (simp [go_sem]; try (refine ⟨by kernel_rfl,?_⟩))
         rw [hrow]
         have hul : (U ++ [0]).length = m + (k + 2) :=by simp; omega
         have huo : okD (U ++ [0]) :=eB.2 ⟨hUok,by simp [okD]⟩
         have huv : val (U ++ [0]) = val a * s :=by rw [eD,hUval]; simp [val]
         have hne : U.length + 1 ≠ a.length :=by omega
         generalize hu0 : U ++ [0] = u0 at *
         (repeat (refine a6 q16x0 hX a7 rfl ?_; (simp [go_sem,hul]; (try simp (disch :=omega) only [w64,td,tm]); try (refine ⟨by kernel_rfl,?_⟩))))
         refine a8 (b :=false) (by simp [go_sem]; omega) (fun h => by cases h) (fun _ => ?_)
         (repeat (refine a6 q16x0 hX a7 rfl ?_; (simp [go_sem,hul,hk]; (try simp (disch :=omega) only [w64,td,tm]); try (refine ⟨by kernel_rfl,?_⟩))))
         refine ⟨⟨by omega,by omega,by omega⟩,?_⟩
         (repeat (refine a6 q16x0 hX a7 rfl ?_; (simp [go_sem]; (try simp (disch :=omega) only [w64,td,tm]); try (refine ⟨by kernel_rfl,?_⟩))))
         have hV1 : 1 ≤ V[k + 1] :=by
          have h1 :=hVlast (by omega)
          have h2 :=b5 hVok (i :=k + 1) (by omega)
          have e : V[V.length - 1]'(by omega) = V[k + 1] :=by congr 1; omega
          rw [e] at h1
          omega
         have hVt :=pE hk
         have hmt : ((m : Nat) : Int).toNat = m :=by omega
         clear hVlast hrow
         have hP :=bR k
         have hVlo1 :=aM (bB hVok k)
         have hVlo2 :=d8 (bB hVok k)
         rw [List.length_take,Nat.min_eq_left (by omega)] at hVlo2
         have hv0 :=b5 hVok (i :=k) (by omega)
         have hv1 :=b5 hVok (i :=k + 1) (by omega)
         have hVm : val (u0.drop m) < val V :=by rw [← hu0]; exact C1 hUok hVok hk hm hV1
         refine aF (fun x : Nat × List Int × List Int => ⟨mkE [(8,ii s),(9,.ow 0),(10,il V),(11,ii ((k : Int) + 2)),(12,.ow 1),(13,ii ((x.1 : Int) - 1))],[.row ⟨3,1,x.2.1.map ii⟩,.row ⟨3,1,x.2.2.map ii⟩]⟩)
          (fun x => x.1 ≤ m ∧ x.2.1.length = m + (k + 2) ∧ okD x.2.1 ∧ x.2.2.length = m ∧ okD (x.2.2.drop x.1) ∧ x.2.1.take x.1 = u0.take x.1 ∧ (0 ≤ val (x.2.1.drop x.1) ∧ val (x.2.1.drop x.1) < val V) ∧
           val (x.2.2.drop x.1) * val V + val (x.2.1.drop x.1) = val (u0.drop x.1)) (fun x => x.1) (m,u0,List.replicate m 0) ?_ ?_ ?_
         · refine aA _ [.old 3 ⟨3,1,u0.map ii⟩,.old 5 ⟨3,1,(List.replicate m (0 : Int)).map ii⟩] (by simp [go_sem,hmt]) ?_
           simp [go_sem]
         · refine ⟨Nat.le_refl _,hul,huo,by simp,by simp [okD],rfl,⟨aM (bM huo m),hVm⟩,by simp [val]⟩
         · rintro ⟨n',L,Q⟩ ⟨hn',hL,hLo,hQ,hQo,hLu,hR,hE⟩
           simp only [] at hn' hL hLo hQ hQo hLu hR hE
           cases n' with
           | zero =>
             (repeat (refine a6 q16x0 hX a7 rfl ?_; (simp [go_sem]; try (refine ⟨by kernel_rfl,?_⟩))))
             refine a8 (b :=false) (by simp [go_sem]) (fun hb => by cases hb) (fun _ => ?_)
             (repeat (refine a6 q16x0 hX a7 rfl ?_; (simp [go_sem]; try (refine ⟨by kernel_rfl,?_⟩))))
             rw [List.drop_zero] at hQo hR hE
             rw [List.drop_zero,List.drop_zero,huv,hVval] at hE
             rw [hVval] at hR
             obtain ⟨hq1,hq2⟩ :=HF (by omega) hR hE
             have hdt :=(cY hLo).2
             have hdq :=(cY hQo).2
             rw [hL] at hdt
             rw [hQ] at hdq
             have hso2 :=tX (dg (val L)) s (aI _) (by omega) (by omega) (by omega)
             rw [b6 hR.1,hq2] at hso2
             first | refine aG [0] (dM L (by omega) hLo) (by simp [go_sem]) ?_ | refine aQ [0] (dM L (by omega) hLo) (by simp [go_sem]) ?_ | refine aO [0] (dM L (by omega) hLo) (by simp [go_sem]) ?_
             try (simp [go_sem,hL,hdt,pD hLo]; try (refine ⟨by kernel_rfl,?_⟩))
             first | refine a9 (hso2) ?_ | refine aE (hso2) ?_
             try (simp [go_sem]; try (refine ⟨by kernel_rfl,?_⟩))
             (repeat (refine a6 q16x0 hX a7 rfl ?_; (simp [go_sem]; (try simp (disch :=omega) only [w64,td,tm]); try (refine ⟨by kernel_rfl,?_⟩))))
             first | refine aG [1] (dM Q (by omega) hQo) (by simp [go_sem]) ?_ | refine aQ [1] (dM Q (by omega) hQo) (by simp [go_sem]) ?_ | refine aO [1] (dM Q (by omega) hQo) (by simp [go_sem]) ?_
             try (simp [go_sem,hQ,hdq]; try (refine ⟨by kernel_rfl,?_⟩))
             (repeat (refine a6 q16x0 hX a7 rfl ?_; (simp [go_sem,hQ,hdq]; (try simp (disch :=omega) only [w64,td,tm]); try (refine ⟨by kernel_rfl,?_⟩))))
             rw [pD hQo,hq1]
           | succ i =>
             have hi : i < m :=by omega
             obtain ⟨hz,hWv⟩ :=KK hLo hVok hk (i :=i) (by omega) hR.2
             have hLi :=b5 hLo (i :=i) (by omega)
             generalize hW : val ((L.drop i).take (k + 2 + 1)) = W at *
             (repeat (refine a6 q16x0 hX a7 rfl ?_; (simp [go_sem]; (try simp (disch :=omega) only [w64,td,tm]); try (refine ⟨by kernel_rfl,?_⟩))))
             refine a8 (b :=true) (by simp [go_sem]; try omega) (fun _ => ?_) (fun hb => by cases hb)
             have hc1 : ((i : Int) + ((k : Int) + 2)).toNat = i + k + 2 :=by omega
             have hc2 : ((i : Int) + ((k : Int) + 2) - 1).toNat = i + k + 1 :=by omega
             have hi0 : i + k < L.length :=by omega
             have hi1 : i + k + 1 < L.length :=by omega
             have hi2 : i + k + 2 < L.length :=by omega
             have hx0 :=b5 hLo hi0
             have hx1 :=b5 hLo hi1
             have hx2 :=b5 hLo hi2
             have hor :=yM (r :=L[i + k + 2]) (a :=L[i + k + 1]) hx2.1 (by omega) hx1.1 hx1.2
             have hc3 : ((k : Int) + 2 - 1).toNat = k + 1 :=by omega
             have hk1 : k + 1 < V.length :=by omega
             (repeat (refine a6 q16x0 hX a7 rfl ?_; (simp [go_sem,hc1,hc2,hi1,hi2,hor]; (try simp (disch :=omega) only [w64,td,tm]); try (refine ⟨by kernel_rfl,?_⟩))))
             try (simp [go_sem,hc1,hc2,hi1,hi2,hor]; try (refine ⟨by kernel_rfl,?_⟩))
             refine ⟨⟨by omega,by omega⟩,⟨by omega,by omega⟩,?_⟩
             (repeat refine And.intro (by first | omega | (unfold maxLen; omega) | kernel_rfl | (refine ⟨by first | omega | (unfold maxLen; omega),by first | omega | (unfold maxLen; omega)⟩) | grind) ?_)
             have hwm :=w64 (x :=L[i + k + 2] * 1048576) (by omega) (by omega)
             try (simp [go_sem,hwm,hor]; try (refine ⟨by kernel_rfl,?_⟩))
             have hT0 : 0 ≤ L[i + k + 2] * 1048576 + L[i + k + 1] :=by omega
             have hT1 : L[i + k + 2] * 1048576 + L[i + k + 1] ≤ 1099511627775 :=by omega
             generalize hTop : L[i + k + 2] * 1048576 + L[i + k + 1] = top at *
             have hg0 : 0 ≤ top / V[k + 1] :=Int.ediv_nonneg hT0 (by omega)
             have hg1 : top / V[k + 1] ≤ top :=Int.ediv_le_self _ hT0
             have hgr :=Int.mul_ediv_add_emod top V[k + 1]
             have hr0 :=Int.emod_nonneg top (show V[k + 1] ≠ 0 by omega)
             have hwq :=w64 (x :=top / V[k + 1]) (by omega) (by omega)
             have htd :=td (a :=top) (b :=V[k + 1]) hT0
             have htm :=tm (a :=top) (b :=V[k + 1]) hT0
             (repeat (refine a6 q16x0 hX a7 rfl ?_; (simp [go_sem,hc3,hk1,hwq,htd,htm]; (try simp (disch :=omega) only [w64,td,tm]); try (refine ⟨by kernel_rfl,?_⟩))))
             try (simp [go_sem,hc3,hk1,hwq,htd,htm]; try (refine ⟨by kernel_rfl,?_⟩))
             refine ⟨by omega,by omega,by omega,by omega,?_⟩
             (repeat refine And.intro (by first | omega | (unfold maxLen; omega) | kernel_rfl | (refine ⟨by first | omega | (unfold maxLen; omega),by first | omega | (unfold maxLen; omega)⟩) | grind) ?_)
             try (simp [go_sem,hc3,hk1,hwq,htd,htm]; try (refine ⟨by kernel_rfl,?_⟩))
             (repeat (refine a6 q16x0 hX a7 rfl ?_; (simp [go_sem]; (try simp (disch :=omega) only [w64,td,tm]); try (refine ⟨by kernel_rfl,?_⟩))))
             have hVp : 0 < val V :=by have :=hR; omega
             have hW0 : 0 ≤ W :=by omega
             have hq0 : 0 ≤ W / val V :=Int.ediv_nonneg hW0 (by omega)
             have hqV : W / val V * val V ≤ W :=Int.ediv_mul_le W (by omega)
             have hqV2 : W < (W / val V + 1) * val V :=Int.lt_ediv_add_one_mul_self W hVp
             have hqB : W / val V < 1048576 :=Int.ediv_lt_of_lt_mul hVp (by omega)
             obtain ⟨gu,gv,gd⟩ :=wJ hLo hVok hk (by omega) hq0 (by rw [hW]; exact hqV) (by rw [hW]; exact hqV2) hV1
             rw [hTop] at gu gv gd
             have hqg : W / val V ≤ top / V[k + 1] :=Int.le_ediv_of_mul_le (by omega) gv
             generalize hqe : W / val V = q at *
             have hc4 : ((i : Int) + ((k : Int) + 2) - 2).toNat = i + k :=by omega
             have hk0 : k < V.length :=by omega
             refine aF (fun x : Int × Int => ⟨mkE [(8,ii s),(9,.ow 0),(10,il V),(11,ii ((k : Int) + 2)),(12,.ow 1),(13,ii i),(15,ii x.1),(16,ii x.2)],[.row ⟨3,1,L.map ii⟩,.row ⟨3,1,Q.map ii⟩]⟩)
              (fun x => V[k + 1] * x.1 + x.2 = top ∧ 0 ≤ x.2 ∧ q ≤ x.1) (fun x => x.1.toNat) (top / V[k + 1],top % V[k + 1]) ?_ ?_ ?_
             · refine aA _ [.old 0 ⟨3,1,L.map ii⟩,.old 1 ⟨3,1,Q.map ii⟩] (by simp [go_sem]) ?_
               simp [go_sem]
             · exact ⟨hgr,hr0,hqg⟩
             · rintro ⟨g,r⟩ ⟨hgr2,hr2,hgq⟩
               simp only [] at hgr2 hr2 hgq
               clear hgr hr0 hqg hwq htd htm hg0 hg1
               have hmg : 0 ≤ V[k + 1] * g :=Int.mul_nonneg (by omega) (by omega)
               have hmg2 : g ≤ V[k + 1] * g :=by
                have :=Int.mul_le_mul_of_nonneg_right hV1 (show 0 ≤ g by omega)
                simpa using this
               have hnext : V[k + 1] * (g - 1) + (r + V[k + 1]) = top :=by rw [Int.mul_sub]; omega
               have hw1 :=w64 (x :=(k : Int)) (by omega) (by omega)
               have hw2 :=w64 (x :=(i : Int) + ((k : Int) + 2)) (by omega) (by omega)
               have hw3 :=w64 (x :=(i : Int) + ((k : Int) + 2) - 2) (by omega) (by omega)
               have hi00 : 2 ≤ (i : Int) + ((k : Int) + 2) :=by omega
               have hi01 : (i : Int) + ((k : Int) + 2) - 2 < L.length :=by omega
               refine eA ?_
               refine eA ?_
               refine gS ⟨mkE [(8,ii s),(9,.ow 0),(10,il V),(11,ii ((k : Int) + 2)),(12,.ow 1),(13,ii i),(15,ii g),(16,ii r),(137,bb (decide (1048576 ≤ g ∨ (r < 1048576 ∧ r * 1048576 + L[i + k] < g * V[k]))))],
                [.row ⟨3,1,L.map ii⟩,.row ⟨3,1,Q.map ii⟩]⟩ ?_ ?_
               · by_cases hA : 1048576 ≤ g
                 · (repeat (refine a6 q16x0 hX a7 rfl ?_; (simp [go_sem,hA,hc4,hk0,hi0,hw1,hw2,hw3,hi00,hi01]; try (refine ⟨by kernel_rfl,?_⟩))))
                   (repeat refine And.intro (by first | omega | (unfold maxLen; omega) | kernel_rfl | (refine ⟨by first | omega | (unfold maxLen; omega),by first | omega | (unfold maxLen; omega)⟩) | grind) ?_)
                   refine aA _ [.old 0 ⟨3,1,L.map ii⟩,.old 1 ⟨3,1,Q.map ii⟩] (by simp [go_sem]) ?_
                   simp [go_sem,hA]
                 · by_cases hB : r < 1048576
                   · have hm2 :=kH (x :=g) (y :=V[k]) ⟨by omega,by omega⟩ hv0
                     have hw4 :=w64 (x :=g * V[k]) (by omega) (by omega)
                     have hw5 :=w64 (x :=r * 1048576) (by omega) (by omega)
                     have hor2 :=yM (r :=r) (a :=L[i + k]) hr2 (by omega) hx0.1 hx0.2
                     (repeat (refine a6 q16x0 hX a7 rfl ?_; (simp [go_sem,hA,hB,hc4,hk0,hi0,hw1,hw2,hw3,hw4,hw5,hi00,hi01,hor2]; try (refine ⟨by kernel_rfl,?_⟩))))
                     refine aA _ [.old 0 ⟨3,1,L.map ii⟩,.old 1 ⟨3,1,Q.map ii⟩] (by simp [go_sem]) ?_
                     simp [go_sem,hA,hB]
                   · (repeat (refine a6 q16x0 hX a7 rfl ?_; (simp [go_sem,hA,hB,hc4,hk0,hi0,hw1,hw2,hw3,hi00,hi01]; try (refine ⟨by kernel_rfl,?_⟩))))
                     (repeat refine And.intro (by first | omega | (unfold maxLen; omega) | kernel_rfl | (refine ⟨by first | omega | (unfold maxLen; omega),by first | omega | (unfold maxLen; omega)⟩) | grind) ?_)
                     refine aA _ [.old 0 ⟨3,1,L.map ii⟩,.old 1 ⟨3,1,Q.map ii⟩] (by simp [go_sem]) ?_
                     simp [go_sem,hA,hB]
               · try (simp [go_sem]; try (refine ⟨by kernel_rfl,?_⟩))
                 refine a8 (b :=decide (1048576 ≤ g ∨ (r < 1048576 ∧ r * 1048576 + L[i + k] < g * V[k]))) (by simp [go_sem]) (fun hb => ?_) (fun hb => ?_)
                 · simp only [decide_eq_true_eq] at hb
                   have hgt : q ≤ g - 1 :=by
                    rcases hb with hb | ⟨hb1,hb2⟩
                    · omega
                    · refine Decidable.byContradiction fun hn => ?_
                      have e : q = g :=by omega
                      rw [e,Int.mul_add,Int.mul_left_comm g 1048576,Int.mul_comm g V[k + 1]] at gu
                      omega
                   have hwr :=w64 (x :=r + V[k + 1]) (by omega) (by omega)
                   have hkk1 : (k : Int) + 2 - 1 < V.length :=by omega
                   have hkk2 : 1 ≤ (k : Int) + 2 :=by omega
                   (repeat (refine a6 q16x0 hX a7 rfl ?_; (simp [go_sem,hc3,hk1,hkk1,hkk2]; (try simp (disch :=omega) only [w64,td,tm]); try (refine ⟨by kernel_rfl,?_⟩))))
                   try (simp [go_sem,hc3,hk1,hkk1,hkk2,hwr]; try (refine ⟨by kernel_rfl,?_⟩))
                   refine ⟨g - 1,r + V[k + 1],⟨hnext,by omega,hgt⟩,by rw [Int.max_eq_left (by omega)]; omega,?_⟩
                   refine aA _ [.old 0 ⟨3,1,L.map ii⟩,.old 1 ⟨3,1,Q.map ii⟩] (by simp [go_sem]) ?_
                   simp [go_sem]
                 · simp only [decide_eq_false_iff_not] at hb
                   have hgB : g < 1048576 :=by omega
                   have hgle : g ≤ q + 1 :=by
                    refine gd g (by omega) hgB ?_
                    have hm2 :=kH (x :=g) (y :=V[k]) ⟨by omega,hgB⟩ hv0
                    rw [Int.mul_add,Int.mul_left_comm g 1048576,Int.mul_comm g V[k + 1]]
                    by_cases hB : r < 1048576
                    · have : g * V[k] ≤ r * 1048576 + L[i + k] :=by
                       refine Decidable.byContradiction fun hn => hb (.inr ⟨hB,by omega⟩)
                      omega
                    · omega
                   obtain ⟨L2,hL2⟩ : ∃ L2,L2 = L.take i ++ padD (k + 2 + 1) (W - q * val V) ++ L.drop (i + (k + 2 + 1)) :=⟨_,rfl⟩
                   have hse :=GY L V i (k + 2 + 1) g q hLo hVok (by omega) (by omega) (by omega) ⟨by omega,hgB⟩ ⟨hgq,hgle⟩ (by rw [hW]; exact hqV) (by rw [hW]; exact hqV2) L2 (by rw [hW]; exact hL2)
                   obtain ⟨d1,d2,d3,d4,d5,d6⟩ :=EJ hL hLo hQ hQo hi hul hLu hVok hk hz hWv ⟨hq0,hqB⟩ hqV hqV2 hE L2 hL2
                   have hs1 : ((i : Int) + ((k : Int) + 2) + 1).toNat - i = k + 2 + 1 :=by omega
                   have hs2 : (i : Int) ≤ (i : Int) + ((k : Int) + 2) + 1 :=by omega
                   have hs3 : (i : Int) + ((k : Int) + 2) + 1 ≤ L.length :=by omega
                   (repeat (refine a6 q16x0 hX a7 rfl ?_; (simp [go_sem]; (try simp (disch :=omega) only [w64,td,tm]); try (refine ⟨by kernel_rfl,?_⟩))))
                   refine ⟨⟨hs2,hs3⟩,?_⟩
                   try (simp [go_sem,hs1]; try (refine ⟨by kernel_rfl,?_⟩))
                   first | refine aG [0] (hse) (by simp [go_sem]) ?_ | refine aQ [0] (hse) (by simp [go_sem]) ?_ | refine aO [0] (hse) (by simp [go_sem]) ?_
                   try (simp [go_sem]; try (refine ⟨by kernel_rfl,?_⟩))
                   have hQi : i < Q.length :=by omega
                   refine ⟨hQi,?_⟩
                   try (simp [go_sem,hQi]; try (refine ⟨by kernel_rfl,?_⟩))
                   (repeat (refine a6 q16x0 hX a7 rfl ?_; (simp [go_sem]; (try simp (disch :=omega) only [w64,td,tm]); try (refine ⟨by kernel_rfl,?_⟩))))
                   refine ⟨i,L2,Q.set i q,⟨by omega,d1,d2,by simpa using hQ,d3,d4,d5,d6⟩,by omega,?_⟩
                   refine aA _ [.old 0 ⟨3,1,L2.map ii⟩,.old 1 ⟨3,1,(Q.set i q).map ii⟩] (by simp [go_sem,hQi]) ?_
                   simp [go_sem]
end Go.Proofs.YtknbcehhjffndaaGreat

namespace Go.Proofs.YtknbcehhjffndaaGreat
open Go.RowKit Go.Ab
attribute [local irreducible] AWP Go.Ab.Sub Means MeansH CallK CallG CallT CallGT
def ab (z : Int) : Int :=if z < 0 then -z else z
def sg (z : Int) : Int :=if z < 0 then -1 else if 0 < z then 1 else 0
abbrev big2 (s : Int) (L : List Int) : AV :=.agg [ii s,il L]
abbrev bigZ (z : Int) : AV :=big2 (sg z) (dg (ab z))
def rz (z : Int) : Prop :=ab z < 1048576 ^ 60
def isR (s : Int) (L : List Int) : Prop :=okD L ∧ (L.length = 0 → s = 0) ∧ ∀ h : 0 < L.length,(s = 1 ∨ s = -1) ∧ L.length ≤ 60 ∧ L[L.length - 1]'(by omega) ≠ 0
noncomputable instance (s : Int) (L : List Int) : Decidable (isR s L) :=Classical.propDecidable _
noncomputable instance (z : Int) : Decidable (rz z) :=Classical.propDecidable _
theorem aT (z : Int) : 0 ≤ ab z :=by unfold ab; split <;> omega
theorem x7 (z : Int) : sg z * ab z = z :=by
 unfold sg ab
 split
 · omega
 · split
   · omega
   · omega
theorem lW {z : Int} (h : rz z) : isR (sg z) (dg (ab z)) :=by
 refine ⟨aI _,fun hl => ?_,fun hl => ⟨?_,(aP 60).2 h,?_⟩⟩
 · have :=c8.1 (List.length_eq_zero_iff.1 hl)
   have :=aT z
   unfold ab at *; unfold sg
   split <;> split at * <;> omega
 · have hz : z ≠ 0 :=by
    intro h0; subst h0
    have : dg (ab 0) = [] :=rfl
    rw [this] at hl; simp at hl
   unfold sg
   split
   · exact .inr rfl
   · rw [if_pos (by omega)]; exact .inl rfl
 · have :=tR (ab z) (by intro e; rw [e] at hl; simp at hl)
   rwa [List.getLast_eq_getElem] at this
theorem JG {L : List Int} (ho : okD L) (h : ∀ hl : 0 < L.length,L[L.length - 1]'(by omega) ≠ 0) : dg (val L) = L :=by
 refine ED ho fun hl => ?_
 rw [List.getLast_eq_getElem]
 exact h (List.length_pos_iff.2 hl)
theorem q8 {s : Int} {L : List Int} (h : isR s L) : ∃ z,rz z ∧ s = sg z ∧ L = dg (ab z) :=by
 obtain ⟨h1,h2,h3⟩ :=h
 have hd :=JG h1 fun hl => (h3 hl).2.2
 have hv :=aM h1
 by_cases hl : 0 < L.length
 · obtain ⟨hs,hlen,hne⟩ :=h3 hl
   have hp : 0 < val L :=by
    refine Decidable.byContradiction fun hn => ?_
    rw [gY (by omega)] at hd
    rw [← hd] at hl; simp at hl
   have hr : val L < 1048576 ^ 60 :=(aP 60).1 (by rw [hd]; exact hlen)
   rcases hs with rfl | rfl
   · refine ⟨val L,?_,?_,?_⟩
     · unfold rz ab; rw [if_neg (by omega)]; exact hr
     · unfold sg; rw [if_neg (by omega),if_pos hp]
     · unfold ab; rw [if_neg (by omega),hd]
   · refine ⟨-val L,?_,?_,?_⟩
     · unfold rz ab; rw [if_pos (by omega),Int.neg_neg]; exact hr
     · unfold sg; rw [if_pos (by omega)]
     · unfold ab; rw [if_pos (by omega),Int.neg_neg,hd]
 · have h0 : L = [] :=List.length_eq_zero_iff.1 (by omega)
   subst h0
   exact ⟨0,by unfold rz ab; simp,h2 rfl,rfl⟩
set_option maxHeartbeats 4000000 in
set_option maxRecDepth 20000 in
theorem uS (s : Int) (L : List Int) (hl : L.length ≤ 9223372036854775807) : Means false Tryz.prog 67 [big2 s L] (bb (decide (isR s L))) :=by
 refine aB false 49 [.tmp 2] Tryz.func67 rfl rfl rfl (by simp) (by decide) rfl fun X hX => ?_
 (repeat (refine a6 q16x3 hX a7 rfl ?_; (simp [go_sem]; (try simp (disch :=omega) only [w64,td,tm]))))
 refine aF (fun n : Nat => ⟨mkE [(1,.el 0 2 0 0),(3,ii L.length),(10,il L),(11,ii L.length),(12,ii n)],[.row ⟨60,2,[big2 s L]⟩]⟩) (fun n => n ≤ L.length ∧ okD (L.take n)) (fun n => L.length - n) 0 ?_ ?_ ?_
 · refine aA _ [.old 0 ⟨60,2,[big2 s L]⟩] (by simp [go_sem]) ?_
   simp [go_sem]
 · exact ⟨Nat.zero_le _,by simp [okD]⟩
 · rintro n ⟨hn,hok⟩
   (repeat (refine a6 q16x3 hX a7 rfl ?_; (simp [go_sem])))
   refine a8 (b :=decide (n < L.length)) (by simp [go_sem]) (fun hd => ?_) (fun hd => ?_)
   · simp at hd
     (repeat (refine a6 q16x3 hX a7 rfl ?_; (simp [go_sem,hd]; (try simp (disch :=omega) only [w64,td,tm]))))
     by_cases h0 : 0 ≤ L[n] ∧ L[n] < 1048576
     · have h1 : ¬ L[n] < 0 :=by omega
       have h2 : ¬ 1048575 < L[n] :=by omega
       (repeat (refine a6 q16x3 hX a7 rfl ?_; (simp [go_sem,hd,h1,h2]; (try simp (disch :=omega) only [w64,td,tm]))))
       try (simp [go_sem,hd,h1,h2])
       refine a8 (b :=false) (by simp [go_sem]) (fun hb => by cases hb) (fun _ => ?_)
       (repeat (refine a6 q16x3 hX a7 rfl ?_; (simp [go_sem]; (try simp (disch :=omega) only [w64,td,tm]))))
       refine ⟨n + 1,⟨by omega,?_⟩,by omega,?_⟩
       · rw [List.take_succ_eq_append_getElem hd]
         exact eB.2 ⟨hok,by simp [okD]; exact h0⟩
       · refine aA _ [.old 0 ⟨60,2,[big2 s L]⟩] (by simp [go_sem]) ?_
         simp [go_sem]
     · have hno : ¬ isR s L :=fun h => h0 (b5 h.1 hd)
       by_cases h1 : L[n] < 0
       · (repeat (refine a6 q16x3 hX a7 rfl ?_; (simp [go_sem,hd,h1]; (try simp (disch :=omega) only [w64,td,tm]))))
         try (simp [go_sem,hd,h1])
         refine a8 (b :=true) (by simp [go_sem]) (fun _ => ?_) (fun hb => by cases hb)
         (repeat (refine a6 q16x3 hX a7 rfl ?_; (simp [go_sem,hno])))
       · have h2 : 1048575 < L[n] :=by omega
         (repeat (refine a6 q16x3 hX a7 rfl ?_; (simp [go_sem,hd,h1,h2]; (try simp (disch :=omega) only [w64,td,tm]))))
         try (simp [go_sem,hd,h1,h2])
         refine a8 (b :=true) (by simp [go_sem]) (fun _ => ?_) (fun hb => by cases hb)
         (repeat (refine a6 q16x3 hX a7 rfl ?_; (simp [go_sem,hno])))
   · have hnl : n = L.length :=by simp at hd; omega
     subst hnl
     rw [List.take_length] at hok
     (repeat (refine a6 q16x3 hX a7 rfl ?_; (simp [go_sem]; (try simp (disch :=omega) only [w64,td,tm]))))
     refine a8 (b :=decide (L.length = 0)) (by simp [go_sem]; try omega) (fun hb => ?_) (fun hb => ?_)
     · simp only [decide_eq_true_eq] at hb
       have e : isR s L ↔ s = 0 :=⟨fun h => h.2.1 hb,fun h => ⟨hok,fun _ => h,fun h => by omega⟩⟩
       (repeat (refine a6 q16x3 hX a7 rfl ?_; (simp [go_sem])))
       simp only [e]
     · simp only [decide_eq_false_iff_not] at hb
       have hlp : 0 < L.length :=by omega
       have e : isR s L ↔ (s = 1 ∨ s = -1) ∧ L.length ≤ 60 ∧ L[L.length - 1] ≠ 0 :=⟨fun h => h.2.2 hlp,fun h => ⟨hok,fun h => by omega,fun _ => h⟩⟩
       have hc : ((L.length : Int) - 1).toNat = L.length - 1 :=by omega
       have hc1 : 1 ≤ (L.length : Int) :=by omega
       have hc2 : (L.length : Int) - 1 < L.length :=by omega
       have hc3 : L.length - 1 < L.length :=by omega
       have hw1 :=w64 (x :=(L.length : Int) - 1) (by omega) (by omega)
       by_cases h1 : s = 1
       · subst h1
         by_cases h3 : L.length ≤ 60
         · have h4 : (L.length : Int) ≤ 60 :=by omega
           (repeat (refine a6 q16x3 hX a7 rfl ?_; (simp [go_sem,hc,hc1,hc2,hc3,hw1,h3])))
           simp [e,h3,h4]
         · have h4 : ¬ (L.length : Int) ≤ 60 :=by omega
           (repeat (refine a6 q16x3 hX a7 rfl ?_; (simp [go_sem,hc,hc1,hc2,hc3,hw1,h3])))
           simp [e,h3,h4]
       · by_cases h2 : s = -1
         · subst h2
           by_cases h3 : L.length ≤ 60
           · have h4 : (L.length : Int) ≤ 60 :=by omega
             (repeat (refine a6 q16x3 hX a7 rfl ?_; (simp [go_sem,hc,hc1,hc2,hc3,hw1,h3])))
             simp [e,h3,h4]
           · have h4 : ¬ (L.length : Int) ≤ 60 :=by omega
             (repeat (refine a6 q16x3 hX a7 rfl ?_; (simp [go_sem,hc,hc1,hc2,hc3,hw1,h3])))
             simp [e,h3,h4]
         · (repeat (refine a6 q16x3 hX a7 rfl ?_; (simp [go_sem,hc,hc1,hc2,hc3,hw1,h1,h2])))
           simp [e,h1,h2]
theorem cO (s : Int) (L : List Int) (z : Int) (hl : L.length ≤ 100000) (ho : okD L) (hz : ab z = val L) (hs : val L ≠ 0 → sg z = s) : Means false Tryz.prog 98 [ii s,il L] (bigZ z) :=by
 refine aB false 14 [.cell 4 60] Tryz.func98 rfl rfl rfl (by simp) (by decide) rfl fun X hX => ?_
 (repeat (refine a6 [0,1,4,9] hX a7 rfl ?_; (simp [go_sem]; try (refine ⟨by kernel_rfl, ?_⟩))))
 refine a9 (KI L hl ho) ?_
 try (simp [go_sem]; try (refine ⟨by kernel_rfl, ?_⟩))
 (repeat (refine a6 [0,1,4,9] hX a7 rfl ?_; (simp [go_sem]; try (refine ⟨by kernel_rfl, ?_⟩))))
 have hv :=aM ho
 refine a8 (b :=decide (val L = 0)) (by simp [go_sem,c8]; omega) (fun hb => ?_) (fun hb => ?_)
 · simp at hb
   have : z = 0 :=by unfold ab at hz; split at hz <;> omega
   subst this
   (repeat (refine a6 [0,1,4,9] hX a7 rfl ?_; (simp [go_sem]; try (refine ⟨by kernel_rfl, ?_⟩))))
   simp [ab,jO]
 · simp at hb
   have hs2 :=hs hb
   (repeat (refine a6 [0,1,4,9] hX a7 rfl ?_; (simp [go_sem,hs2,hz]; try (refine ⟨by kernel_rfl, ?_⟩))))
theorem z0 : bigZ 0 = big2 0 [] :=rfl
theorem DG (z : Int) (hl : (dg (ab z)).length ≤ 100000) : Means false Tryz.prog 96 [bb true,bigZ z] (.tup [bigZ (if rz z then z else 0),ii (if rz z then 0 else 6)]) :=by
 refine aB false 17 [.cell 4 60,.tmp 5] Tryz.func96 rfl rfl rfl (by simp) (by decide) rfl fun X hX => ?_
 (repeat (refine a6 [0,1,3,4,5,6,10] hX a7 rfl ?_; (simp [go_sem])))
 refine a8 (b :=false) (by simp [go_sem]) (fun hb => by cases hb) (fun _ => ?_)
 (repeat (refine a6 [0,1,3,4,5,6,10] hX a7 rfl ?_; (simp [go_sem]; (try simp (disch :=omega) only [w64,td,tm]))))
 have e : rz z ↔ (dg (ab z)).length ≤ 60 :=(aP 60).symm
 refine a8 (b :=decide (¬ rz z)) (by simp [go_sem,e]; try omega) (fun hb => ?_) (fun hb => ?_)
 · simp at hb
   (repeat (refine a6 [0,1,3,4,5,6,10] hX a7 rfl ?_; (simp [go_sem])))
   simp [hb]
   exact ⟨rfl,rfl⟩
 · simp at hb
   (repeat (refine a6 [0,1,3,4,5,6,10] hX a7 rfl ?_; (simp [go_sem])))
   simp [hb]
end Go.Proofs.YtknbcehhjffndaaGreat

namespace Go.Proofs.YtknbcehhjffndaaGreat
open Go.RowKit Go.Ab
attribute [local irreducible] AWP Go.Ab.Sub Means MeansH CallK CallG CallT CallGT
theorem aD (z : Int) : (sg z = -1 ∧ z < 0 ∧ ab z = -z) ∨ (sg z = 0 ∧ z = 0 ∧ ab z = 0) ∨ (sg z = 1 ∧ 0 < z ∧ ab z = z) :=by
 unfold sg ab
 by_cases h : z < 0
 · rw [if_pos h,if_pos h]; exact .inl ⟨rfl,h,rfl⟩
 · by_cases h2 : 0 < z
   · rw [if_neg h,if_pos h2,if_neg h]; exact .inr (.inr ⟨rfl,h2,rfl⟩)
   · rw [if_neg h,if_neg h2,if_neg h]; exact .inr (.inl ⟨rfl,by omega,by omega⟩)
theorem fA (z : Int) : -1 ≤ sg z ∧ sg z ≤ 1 :=by rcases aD z with h | h | h <;> omega
theorem tF (z : Int) : sg (-z) = -sg z :=by rcases aD z with h | h | h <;> rcases aD (-z) with h2 | h2 | h2 <;> omega
theorem pT (z : Int) : ab (-z) = ab z :=by rcases aD z with h | h | h <;> rcases aD (-z) with h2 | h2 | h2 <;> omega
theorem FD {z s t : Int} (h : z = s * t) (ht : 0 < t) (hs : s = 1 ∨ s = -1) : sg z = s ∧ ab z = t :=by
 rcases hs with rfl | rfl
 · rcases aD z with h2 | h2 | h2 <;> omega
 · rcases aD z with h2 | h2 | h2 <;> omega
theorem pU (z w : Int) : ab (z * w) = ab z * ab w :=by
 rcases aD z with ⟨_,hz,e1⟩ | ⟨_,rfl,e1⟩ | ⟨_,hz,e1⟩
 · rcases aD w with ⟨_,hw,e2⟩ | ⟨_,rfl,e2⟩ | ⟨_,hw,e2⟩
   · have :=Int.mul_pos_of_neg_of_neg hz hw
     rw [e1,e2,Int.neg_mul_neg,ab,if_neg (by omega)]
   · rw [e2,Int.mul_zero,Int.mul_zero]; rfl
   · have :=Int.mul_neg_of_neg_of_pos hz hw
     rw [e1,e2,Int.neg_mul,ab,if_pos (by omega)]
 · rw [e1,Int.zero_mul,Int.zero_mul]; rfl
 · rcases aD w with ⟨_,hw,e2⟩ | ⟨_,rfl,e2⟩ | ⟨_,hw,e2⟩
   · have :=Int.mul_neg_of_pos_of_neg hz hw
     rw [e1,e2,Int.mul_neg,ab,if_pos (by omega)]
   · rw [e2,Int.mul_zero,Int.mul_zero]; rfl
   · have :=Int.mul_pos hz hw
     rw [e1,e2,ab,if_neg (by omega)]
theorem iL (z w : Int) : sg (z * w) = sg z * sg w :=by
 rcases aD z with ⟨e1,hz,_⟩ | ⟨e1,rfl,_⟩ | ⟨e1,hz,_⟩
 · rcases aD w with ⟨e2,hw,_⟩ | ⟨e2,rfl,_⟩ | ⟨e2,hw,_⟩
   · have :=Int.mul_pos_of_neg_of_neg hz hw
     rw [e1,e2,sg,if_neg (by omega),if_pos (by omega)]; rfl
   · rw [e2,Int.mul_zero,Int.mul_zero]; rfl
   · have :=Int.mul_neg_of_neg_of_pos hz hw
     rw [e1,e2,sg,if_pos (by omega)]; rfl
 · rw [e1,Int.zero_mul,Int.zero_mul]; rfl
 · rcases aD w with ⟨e2,hw,_⟩ | ⟨e2,rfl,_⟩ | ⟨e2,hw,_⟩
   · have :=Int.mul_neg_of_pos_of_neg hz hw
     rw [e1,e2,sg,if_pos (by omega)]; rfl
   · rw [e2,Int.mul_zero,Int.mul_zero]; rfl
   · have :=Int.mul_pos hz hw
     rw [e1,e2,sg,if_neg (by omega),if_pos (by omega)]; rfl
theorem aL (z : Int) : val (dg (ab z)) = ab z :=b6 (aT z)
theorem mY {n : Int} (h : 0 ≤ n) : dg (val (dg n)) = dg n :=by rw [b6 h]
theorem bP {z : Int} (h : rz z) : (dg (ab z)).length ≤ 60 :=(aP 60).2 h
noncomputable def r60 (x : Int) : Int :=if rz x then x else 0
noncomputable def e60 (x : Int) : Int :=if rz x then 0 else 6
noncomputable abbrev res (x : Int) : AV :=.tup [bigZ (r60 x),ii (e60 x)]
theorem cC {x : Int} (h : rz x) : r60 x = x :=if_pos h
theorem yS {x : Int} (h : rz x) : e60 x = 0 :=if_pos h
theorem uM (z : Int) (hl : (dg (ab z)).length ≤ 100000) : Means false Tryz.prog 96 [bb true,bigZ z] (res z) :=DG z hl
theorem b7 (z : Int) (h : rz z) : Means false Tryz.prog 67 [bigZ z] (bb true) :=by
 have :=uS (sg z) (dg (ab z)) (by have :=bP h; omega)
 have e : decide (isR (sg z) (dg (ab z))) = true :=decide_eq_true (lW h)
 rwa [e] at this
theorem zM {a b : Int} {m n : Nat} (ha : 0 ≤ a) (hb : 0 ≤ b) (h1 : (dg a).length ≤ m) (h2 : (dg b).length ≤ n) : (dg (a * b)).length ≤ m + n :=by
 rw [aP] at h1 h2 ⊢
 rw [Int.pow_add]
 by_cases h0 : b = 0
 · subst h0
   rw [Int.mul_zero]
   exact Int.mul_pos (bR m) (bR n)
 · exact Int.mul_lt_mul h1 (by omega) (by omega) (by have :=bR m; omega)
set_option maxHeartbeats 4000000 in
set_option maxRecDepth 20000 in
theorem JY (z w : Int) (hz : rz z) (hw : rz w) : Means false Tryz.prog 92 [bigZ z,bigZ w] (res (z * w)) :=by
 have hlz :=bP hz
 have hlw :=bP hw
 have hs :=iL z w
 have hb :=fA (z * w)
 have hww :=w64 (x :=sg z * sg w) (by omega) (by omega)
 have hmul :=JM (dg (ab z)) (dg (ab w)) (aI _) (aI _) (by omega) (by omega)
 rw [aL,aL] at hmul
 have hll :=zM (aT z) (aT w) hlz hlw
 have hp : 0 ≤ ab z * ab w :=Int.mul_nonneg (aT z) (aT w)
 have hsgn :=cO (sg z * sg w) (dg (ab z * ab w)) (z * w) (by omega) (aI _) (by rw [b6 hp,pU]) (fun _ => hs)
 have hch :=uM (z * w) (by rw [pU]; omega)
 refine aB false 32 [.cell 4 60,.tmp 5] Tryz.func92 rfl rfl rfl (by simp) (by decide) rfl fun X hX => ?_
 (repeat (refine a6 [0,1,2,3,4,5,13] hX a7 rfl ?_; (simp [go_sem]; try (refine ⟨by kernel_rfl,?_⟩))))
 first | refine a9 (b7 z hz) ?_ | refine aE (b7 z hz) ?_
 try (simp [go_sem]; try (refine ⟨by kernel_rfl,?_⟩))
 first | refine aJ (fun hg => b7 w hw) ?_ | refine aZ (fun hg => b7 w hw) ?_
 try (simp [go_sem]; try (refine ⟨by kernel_rfl,?_⟩))
 refine a8 (b :=false) (by simp [go_sem]) (fun h => by cases h) (fun _ => ?_)
 (repeat (refine a6 [0,1,2,3,4,5,13] hX a7 rfl ?_; (simp [go_sem,hww]; (try simp (disch :=omega) only [w64,td,tm]); try (refine ⟨by kernel_rfl,?_⟩))))
 first | refine a9 (hmul) ?_ | refine aE (hmul) ?_
 try (simp [go_sem]; try (refine ⟨by kernel_rfl,?_⟩))
 first | refine a9 (hsgn) ?_ | refine aE (hsgn) ?_
 try (simp [go_sem]; try (refine ⟨by kernel_rfl,?_⟩))
 first | refine a9 (hch) ?_ | refine aE (hch) ?_
 try (simp [go_sem]; try (refine ⟨by kernel_rfl,?_⟩))
 (repeat refine And.intro (by first | omega | (unfold maxLen; omega) | kernel_rfl | (refine ⟨by first | omega | (unfold maxLen; omega),by first | omega | (unfold maxLen; omega)⟩) | grind) ?_)
 (repeat (refine a6 [0,1,2,3,4,5,13] hX a7 rfl ?_; (simp [go_sem]; try (refine ⟨by kernel_rfl,?_⟩))))
theorem mZ (z : Int) (hz : rz z) : Means false Tryz.prog 103 [bigZ z] (bigZ (-z)) :=by
 have hlz :=bP hz
 have hb :=fA z
 have hww :=w64 (x :=- sg z) (by omega) (by omega)
 have hcl :=gZ (dg (ab z)) (by omega)
 have hsgn :=cO (- sg z) (dg (ab z)) (-z) (by omega) (aI _) (by rw [aL,pT]) (fun _ => tF z)
 refine aB false 14 [.cell 2 60] Tryz.func103 rfl rfl rfl (by simp) (by decide) rfl fun X hX => ?_
 (repeat (refine a6 [0,1,2,5] hX a7 rfl ?_; (simp [go_sem]; try (refine ⟨by kernel_rfl,?_⟩))))
 first | refine a9 (b7 z hz) ?_ | refine aE (b7 z hz) ?_
 try (simp [go_sem]; try (refine ⟨by kernel_rfl,?_⟩))
 refine a8 (b :=false) (by simp [go_sem]) (fun h => by cases h) (fun _ => ?_)
 (repeat (refine a6 [0,1,2,5] hX a7 rfl ?_; (simp [go_sem,hww]; (try simp (disch :=omega) only [w64,td,tm]); try (refine ⟨by kernel_rfl,?_⟩))))
 first | refine a9 (hcl) ?_ | refine aE (hcl) ?_
 try (simp [go_sem]; try (refine ⟨by kernel_rfl,?_⟩))
 first | refine a9 (hsgn) ?_ | refine aE (hsgn) ?_
 try (simp [go_sem]; try (refine ⟨by kernel_rfl,?_⟩))
 (repeat refine And.intro (by first | omega | (unfold maxLen; omega) | kernel_rfl | (refine ⟨by first | omega | (unfold maxLen; omega),by first | omega | (unfold maxLen; omega)⟩) | grind) ?_)
 (repeat (refine a6 [0,1,2,5] hX a7 rfl ?_; (simp [go_sem]; try (refine ⟨by kernel_rfl,?_⟩))))
theorem rI (z w : Int) (hz : rz z) (hw : rz w) : Means false Tryz.prog 71 [bigZ z,bigZ w] (ii (cmpI z w)) :=by
 have hlz :=bP hz
 have hlw :=bP hw
 have hcm :=jR (dg (ab z)) (dg (ab w)) (by omega) (by omega) (aI _) (aI _) (mY (aT z)) (mY (aT w))
 rw [aL,aL] at hcm
 have hcc : -1 ≤ cmpI (ab z) (ab w) ∧ cmpI (ab z) (ab w) ≤ 1 :=by unfold cmpI; split <;> (try split) <;> omega
 refine aB false 31 [.tmp 4] Tryz.func71 rfl rfl rfl (by simp) (by decide) rfl fun X hX => ?_
 (repeat (refine a6 q16x6 hX a7 rfl ?_; (simp [go_sem]; try (refine ⟨by kernel_rfl,?_⟩))))
 first | refine a9 (b7 z hz) ?_ | refine aE (b7 z hz) ?_
 try (simp [go_sem]; try (refine ⟨by kernel_rfl,?_⟩))
 first | refine aJ (fun hg => b7 w hw) ?_ | refine aZ (fun hg => b7 w hw) ?_
 try (simp [go_sem]; try (refine ⟨by kernel_rfl,?_⟩))
 refine a8 (b :=false) (by simp [go_sem]) (fun h => by cases h) (fun _ => ?_)
 (repeat (refine a6 q16x6 hX a7 rfl ?_; (simp [go_sem]; (try simp (disch :=omega) only [w64,td,tm]); try (refine ⟨by kernel_rfl,?_⟩))))
 refine a8 (b :=decide (sg z ≠ sg w)) (by simp [go_sem]; try omega) (fun hd => ?_) (fun hd => ?_)
 · simp only [decide_eq_true_eq] at hd
   have e : cmpI (sg z) (sg w) = cmpI z w :=by
    refine tW ?_ ?_ <;> rcases aD z with h | h | h <;> rcases aD w with h2 | h2 | h2 <;> omega
   (repeat (refine a6 q16x6 hX a7 rfl ?_; (simp [go_sem]; try (refine ⟨by kernel_rfl,?_⟩))))
   first | refine a9 (rS (sg z) (sg w)) ?_ | refine aE (rS (sg z) (sg w)) ?_
   try (simp [go_sem]; try (refine ⟨by kernel_rfl,?_⟩))
   (repeat (refine a6 q16x6 hX a7 rfl ?_; (simp [go_sem,e]; try (refine ⟨by kernel_rfl,?_⟩))))
 · simp at hd
   have e : sg w * cmpI (ab z) (ab w) = cmpI z w :=by
    rcases aD w with ⟨h1,h2,h3⟩ | ⟨h1,h2,h3⟩ | ⟨h1,h2,h3⟩ <;> rcases aD z with ⟨h4,h5,h6⟩ | ⟨h4,h5,h6⟩ | ⟨h4,h5,h6⟩ <;> first | omega | (rw [h1,h3,h6]; unfold cmpI; split <;> (try split) <;> (try split) <;> omega) | skip
   have hew :=w64 (x :=cmpI z w) (by unfold cmpI; split <;> (try split) <;> omega) (by unfold cmpI; split <;> (try split) <;> omega)
   (repeat (refine a6 q16x6 hX a7 rfl ?_; (simp [go_sem,hd]; (try simp (disch :=omega) only [w64,td,tm]); try (refine ⟨by kernel_rfl,?_⟩))))
   first | refine a9 (hcm) ?_ | refine aE (hcm) ?_
   try (simp [go_sem,hd,hew,e]; try (refine ⟨by kernel_rfl,?_⟩))
   (repeat refine And.intro (by first | omega | (unfold maxLen; omega) | kernel_rfl | (refine ⟨by first | omega | (unfold maxLen; omega),by first | omega | (unfold maxLen; omega)⟩) | grind) ?_)
   (repeat (refine a6 q16x6 hX a7 rfl ?_; (simp [go_sem]; try (refine ⟨by kernel_rfl,?_⟩))))
theorem NB (a b : Int) : Means false Tryz.prog 127 [.sl [ii a,ii b]] (ii (if a = 0 then b else a)) :=by
 refine aB false 18 [.tmp 2] Tryz.func127 rfl rfl rfl (by simp) (by decide) rfl fun X hX => ?_
 (repeat (refine a6 q16x4 hX a7 rfl ?_; (simp [go_sem])))
 refine aF (fun n : Nat => ⟨mkE [(3,ii 0),(6,.sl [ii a,ii b]),(7,ii 2),(8,ii n)],[]⟩) (fun n => n ≤ 2 ∧ (1 ≤ n → a = 0) ∧ (2 ≤ n → b = 0)) (fun n => 2 - n) 0 ?_ ?_ ?_
 · refine aA _ [] (by simp [go_sem]) ?_
   simp [go_sem]
 · simp
 · rintro n ⟨hn,ha,hb⟩
   match n,hn with
   | 0,_ =>
     (repeat (refine a6 q16x4 hX a7 rfl ?_; (simp [go_sem])))
     refine a8 (b :=true) (by simp [go_sem]) (fun _ => ?_) (fun h => by cases h)
     (repeat (refine a6 q16x4 hX a7 rfl ?_; (simp [go_sem]; (try simp (disch :=omega) only [w64,td,tm]))))
     refine a8 (b :=decide (a ≠ 0)) (by simp [go_sem]) (fun h => ?_) (fun h => ?_)
     · simp at h
       (repeat (refine a6 q16x4 hX a7 rfl ?_; (simp [go_sem,h])))
     · simp at h
       (repeat (refine a6 q16x4 hX a7 rfl ?_; (simp [go_sem]; (try simp (disch :=omega) only [w64,td,tm]))))
       refine ⟨1,⟨by omega,fun _ => h,fun h => by omega⟩,by omega,?_⟩
       refine aA _ [] (by simp [go_sem]) ?_
       simp [go_sem]
   | 1,_ =>
     have ha0 :=ha (by omega)
     (repeat (refine a6 q16x4 hX a7 rfl ?_; (simp [go_sem])))
     refine a8 (b :=true) (by simp [go_sem]) (fun _ => ?_) (fun h => by cases h)
     (repeat (refine a6 q16x4 hX a7 rfl ?_; (simp [go_sem]; (try simp (disch :=omega) only [w64,td,tm]))))
     refine a8 (b :=decide (b ≠ 0)) (by simp [go_sem]) (fun h => ?_) (fun h => ?_)
     · simp at h
       (repeat (refine a6 q16x4 hX a7 rfl ?_; (simp [go_sem,ha0])))
     · simp at h
       (repeat (refine a6 q16x4 hX a7 rfl ?_; (simp [go_sem]; (try simp (disch :=omega) only [w64,td,tm]))))
       refine ⟨2,⟨by omega,fun _ => ha0,fun _ => h⟩,by omega,?_⟩
       refine aA _ [] (by simp [go_sem]) ?_
       simp [go_sem]
   | 2,_ =>
     have ha0 :=ha (by omega)
     have hb0 :=hb (by omega)
     (repeat (refine a6 q16x4 hX a7 rfl ?_; (simp [go_sem])))
     refine a8 (b :=false) (by simp [go_sem]) (fun h => by cases h) (fun _ => ?_)
     (repeat (refine a6 q16x4 hX a7 rfl ?_; (simp [go_sem,ha0,hb0])))
set_option maxHeartbeats 4000000 in
set_option maxRecDepth 20000 in
theorem MT (z w : Int) (hz : rz z) (hw : rz w) : Means false Tryz.prog 123 [bigZ z,bigZ w] (res (z + w)) :=by
 have hlz :=bP hz
 have hlw :=bP hw
 have hsz :=fA z
 have hsw :=fA w
 have hza :=aT z
 have hwa :=aT w
 have hmm : -1 ≤ sg z * sg w ∧ sg z * sg w ≤ 1 :=by rw [← iL]; exact fA _
 have hww :=w64 (x :=sg z * sg w) (by omega) (by omega)
 have hsum : ab (z + w) ≤ ab z + ab w :=by rcases aD z with h | h | h <;> rcases aD w with h2 | h2 | h2 <;> rcases aD (z + w) with h3 | h3 | h3 <;> omega
 have hl61 : (dg (ab z + ab w)).length ≤ 61 :=by
  rw [aP]
  unfold rz at hz hw
  have : (1048576 : Int) ^ 61 = 1048576 ^ 60 * 1048576 :=Int.pow_succ _ _
  omega
 have hl61' : (dg (ab (z + w))).length ≤ 61 :=Nat.le_trans (aV hsum) hl61
 have hch :=uM (z + w) (by omega)
 have hcm :=jR (dg (ab z)) (dg (ab w)) (by omega) (by omega) (aI _) (aI _) (mY hza) (mY hwa)
 rw [aL,aL] at hcm
 refine aB false 69 [.cell 4 60,.tmp 5] Tryz.func123 rfl rfl rfl (by simp) (by decide) rfl fun X hX => ?_
 (repeat (refine a6 q16x5 hX a7 rfl ?_; (simp [go_sem]; try (refine ⟨by kernel_rfl,?_⟩))))
 first | refine a9 (b7 z hz) ?_ | refine aE (b7 z hz) ?_
 try (simp [go_sem]; try (refine ⟨by kernel_rfl,?_⟩))
 first | refine aJ (fun hg => b7 w hw) ?_ | refine aZ (fun hg => b7 w hw) ?_
 try (simp [go_sem]; try (refine ⟨by kernel_rfl,?_⟩))
 refine a8 (b :=false) (by simp [go_sem]) (fun h => by cases h) (fun _ => ?_)
 (repeat (refine a6 q16x5 hX a7 rfl ?_; (simp [go_sem,hww]; (try simp (disch :=omega) only [w64,td,tm]); try (refine ⟨by kernel_rfl,?_⟩))))
 refine a8 (b :=decide (0 ≤ sg z * sg w)) (by simp [go_sem]) (fun hd => ?_) (fun hd => ?_)
 · simp at hd
   have hab : ab (z + w) = ab z + ab w :=by
    rcases aD z with ⟨h,h1,h2⟩ | ⟨h,h1,h2⟩ | ⟨h,h1,h2⟩ <;> rcases aD w with ⟨h3,h4,h5⟩ | ⟨h3,h4,h5⟩ | ⟨h3,h4,h5⟩ <;> rw [h,h3] at hd <;> rcases aD (z + w) with h6 | h6 | h6 <;> omega
   have hsg : ab z + ab w ≠ 0 → sg (z + w) = (if sg z = 0 then sg w else sg z) :=by
    intro _
    rcases aD z with ⟨h,h1,h2⟩ | ⟨h,h1,h2⟩ | ⟨h,h1,h2⟩ <;> rcases aD w with ⟨h3,h4,h5⟩ | ⟨h3,h4,h5⟩ | ⟨h3,h4,h5⟩ <;> rw [h,h3] at hd ⊢ <;> rcases aD (z + w) with h6 | h6 | h6 <;> simp <;> omega
   have hadd :=JL (dg (ab z)) (dg (ab w)) (aI _) (aI _) (by omega) (by omega)
   rw [aL,aL] at hadd
   have hvv : val (dg (ab z + ab w)) = ab z + ab w :=b6 (by omega)
   have hsgn :=cO (if sg z = 0 then sg w else sg z) (dg (ab z + ab w)) (z + w) (by omega) (aI _) (by rw [hvv,hab]) (by rw [hvv]; exact hsg)
   (repeat (refine a6 q16x5 hX a7 rfl ?_; (simp [go_sem]; (try simp (disch :=omega) only [w64,td,tm]); try (refine ⟨by kernel_rfl,?_⟩))))
   first | refine a9 (NB (sg z) (sg w)) ?_ | refine aE (NB (sg z) (sg w)) ?_
   try (simp [go_sem]; try (refine ⟨by kernel_rfl,?_⟩))
   first | refine a9 (hadd) ?_ | refine aE (hadd) ?_
   try (simp [go_sem]; try (refine ⟨by kernel_rfl,?_⟩))
   first | refine a9 (hsgn) ?_ | refine aE (hsgn) ?_
   try (simp [go_sem]; try (refine ⟨by kernel_rfl,?_⟩))
   first | refine a9 (hch) ?_ | refine aE (hch) ?_
   try (simp [go_sem]; try (refine ⟨by kernel_rfl,?_⟩))
   (repeat refine And.intro (by first | omega | (unfold maxLen; omega) | kernel_rfl | (refine ⟨by first | omega | (unfold maxLen; omega),by first | omega | (unfold maxLen; omega)⟩) | grind) ?_)
   (repeat (refine a6 q16x5 hX a7 rfl ?_; (simp [go_sem]; try (refine ⟨by kernel_rfl,?_⟩))))
 · simp at hd
   have hcl : cmpI (ab z) (ab w) < 0 ↔ ab z < ab w :=lA
   (repeat (refine a6 q16x5 hX a7 rfl ?_; (simp [go_sem]; (try simp (disch :=omega) only [w64,td,tm]); try (refine ⟨by kernel_rfl,?_⟩))))
   first | refine a9 (hcm) ?_ | refine aE (hcm) ?_
   try (simp [go_sem]; try (refine ⟨by kernel_rfl,?_⟩))
   (repeat (refine a6 q16x5 hX a7 rfl ?_; (simp [go_sem]; (try simp (disch :=omega) only [w64,td,tm]); try (refine ⟨by kernel_rfl,?_⟩))))
   refine a8 (b :=decide (ab z < ab w)) (by simp [go_sem,lA]) (fun hd2 => ?_) (fun hd2 => ?_)
   · simp at hd2
     have hsub :=EE (dg (ab w)) (dg (ab z)) (aI _) (aI _) (by omega) (by omega) (by rw [aL,aL]; omega)
     rw [aL,aL] at hsub
     have hvv : val (dg (ab w - ab z)) = ab w - ab z :=b6 (by omega)
     have hfin : ab (z + w) = ab w - ab z ∧ sg (z + w) = sg w :=by
      rcases aD z with ⟨h,h1,h2⟩ | ⟨h,h1,h2⟩ | ⟨h,h1,h2⟩ <;> rcases aD w with ⟨h3,h4,h5⟩ | ⟨h3,h4,h5⟩ | ⟨h3,h4,h5⟩ <;> rw [h,h3] at hd <;> rcases aD (z + w) with h6 | h6 | h6 <;> omega
     have hsgn :=cO (sg w) (dg (ab w - ab z)) (z + w) (by have :=aV (show ab w - ab z ≤ ab z + ab w by omega); omega) (aI _) (by rw [hvv,hfin.1]) (fun _ => hfin.2)
     (repeat (refine a6 q16x5 hX a7 rfl ?_; (simp [go_sem]; (try simp (disch :=omega) only [w64,td,tm]); try (refine ⟨by kernel_rfl,?_⟩))))
     first | refine a9 (hsub) ?_ | refine aE (hsub) ?_
     try (simp [go_sem]; try (refine ⟨by kernel_rfl,?_⟩))
     first | refine a9 (hsgn) ?_ | refine aE (hsgn) ?_
     try (simp [go_sem]; try (refine ⟨by kernel_rfl,?_⟩))
     first | refine a9 (hch) ?_ | refine aE (hch) ?_
     try (simp [go_sem]; try (refine ⟨by kernel_rfl,?_⟩))
     (repeat refine And.intro (by first | omega | (unfold maxLen; omega) | kernel_rfl | (refine ⟨by first | omega | (unfold maxLen; omega),by first | omega | (unfold maxLen; omega)⟩) | grind) ?_)
     (repeat (refine a6 q16x5 hX a7 rfl ?_; (simp [go_sem]; try (refine ⟨by kernel_rfl,?_⟩))))
   · simp at hd2
     have hsub :=EE (dg (ab z)) (dg (ab w)) (aI _) (aI _) (by omega) (by omega) (by rw [aL,aL]; omega)
     rw [aL,aL] at hsub
     have hvv : val (dg (ab z - ab w)) = ab z - ab w :=b6 (by omega)
     have hfin : ab (z + w) = ab z - ab w ∧ (ab z - ab w ≠ 0 → sg (z + w) = sg z) :=by
      rcases aD z with ⟨h,h1,h2⟩ | ⟨h,h1,h2⟩ | ⟨h,h1,h2⟩ <;> rcases aD w with ⟨h3,h4,h5⟩ | ⟨h3,h4,h5⟩ | ⟨h3,h4,h5⟩ <;> rw [h,h3] at hd <;> rcases aD (z + w) with h6 | h6 | h6 <;> omega
     have hsgn :=cO (sg z) (dg (ab z - ab w)) (z + w) (by have :=aV (show ab z - ab w ≤ ab z + ab w by omega); omega) (aI _) (by rw [hvv,hfin.1]) (by rw [hvv]; exact hfin.2)
     (repeat (refine a6 q16x5 hX a7 rfl ?_; (simp [go_sem]; (try simp (disch :=omega) only [w64,td,tm]); try (refine ⟨by kernel_rfl,?_⟩))))
     first | refine a9 (hsub) ?_ | refine aE (hsub) ?_
     try (simp [go_sem]; try (refine ⟨by kernel_rfl,?_⟩))
     first | refine a9 (hsgn) ?_ | refine aE (hsgn) ?_
     try (simp [go_sem]; try (refine ⟨by kernel_rfl,?_⟩))
     first | refine a9 (hch) ?_ | refine aE (hch) ?_
     try (simp [go_sem]; try (refine ⟨by kernel_rfl,?_⟩))
     (repeat refine And.intro (by first | omega | (unfold maxLen; omega) | kernel_rfl | (refine ⟨by first | omega | (unfold maxLen; omega),by first | omega | (unfold maxLen; omega)⟩) | grind) ?_)
     (repeat (refine a6 q16x5 hX a7 rfl ?_; (simp [go_sem]; try (refine ⟨by kernel_rfl,?_⟩))))
theorem j3 {z : Int} (h : rz z) : rz (-z) :=by unfold rz at *; rwa [pT]
end Go.Proofs.YtknbcehhjffndaaGreat

