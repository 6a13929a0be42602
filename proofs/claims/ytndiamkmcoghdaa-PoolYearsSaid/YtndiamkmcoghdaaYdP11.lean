/-
  Lemmas for the statement at the top.
-/
import Derived.Test.YtndiamkmcoghdaaYaFw4
import Derived.Test.YtndiamkmcoghdaaYdP10
set_option linter.all false
namespace Go.Proofs.Ytndiamkmcoghdaa
def bef (K : Int → Int) (x y : Int) : Prop :=K y < K x ∨ (K x = K y ∧ x < y)
instance (K : Int → Int) (x y : Int) : Decidable (bef K x y) :=by unfold bef; infer_instance
theorem bef_trans {K : Int → Int} {x y z : Int} (h1 : bef K x y) (h2 : bef K y z) : bef K x z :=by unfold bef at *; omega
theorem bef_total {K : Int → Int} {x y : Int} (h : x ≠ y) : bef K x y ∨ bef K y x :=by unfold bef; omega
theorem bef_asymm {K : Int → Int} {x y : Int} (h1 : bef K x y) : ¬ bef K y x :=by unfold bef at *; omega
def insB (K : Int → Int) (x : Int) : List Int → List Int
 | [] => [x]
 | y :: l => if bef K x y then x :: y :: l else y :: insB K x l
def srt (K : Int → Int) (l : List Int) : List Int :=l.foldl (fun s x => insB K x s) []
theorem srt_snoc (K : Int → Int) (l : List Int) (x : Int) : srt K (l ++ [x]) = insB K x (srt K l) :=by unfold srt; rw [List.foldl_append]; rfl
theorem insB_perm (K : Int → Int) (x : Int) : ∀ l,(insB K x l).Perm (x :: l)
 | [] => .refl _
 | y :: l => by
   unfold insB
   split
   · exact .refl _
   · exact ((insB_perm K x l).cons y).trans (.swap x y l)
theorem srt_perm (K : Int → Int) (l : List Int) : (srt K l).Perm l :=by
 have : ∀ k,k ≤ l.length → (srt K (l.take k)).Perm (l.take k) :=by
  intro k
  induction k with
  | zero => intro _; exact .refl _
  | succ k ih =>
    intro hk
    rw [List.take_succ_eq_append_getElem (by omega),srt_snoc]
    exact (insB_perm K _ _).trans (((ih (by omega)).cons _).trans (List.perm_append_singleton _ _).symm)
 have :=this l.length (Nat.le_refl _)
 rwa [List.take_length] at this
theorem insB_sorted {K : Int → Int} {x : Int} : ∀ {l : List Int},l.Pairwise (bef K) → x ∉ l → (insB K x l).Pairwise (bef K)
 | [],_,_ => by simp [insB]
 | y :: l,h,hx => by
   rw [List.pairwise_cons] at h
   simp only [List.mem_cons,not_or] at hx
   unfold insB
   split
   · rename_i hb
     refine List.pairwise_cons.2 ⟨fun z hz => ?_,List.pairwise_cons.2 h⟩
     rcases List.mem_cons.1 hz with rfl | hz
     · exact hb
     · exact bef_trans hb (h.1 z hz)
   · rename_i hb
     refine List.pairwise_cons.2 ⟨fun z hz => ?_,insB_sorted h.2 hx.2⟩
     rcases List.mem_cons.1 ((insB_perm K x l).mem_iff.1 hz) with rfl | hz
     · exact (bef_total hx.1).resolve_left hb
     · exact h.1 z hz
theorem srt_sorted {K : Int → Int} {l : List Int} (hn : l.Nodup) : (srt K l).Pairwise (bef K) :=by
 have : ∀ k,k ≤ l.length → (srt K (l.take k)).Pairwise (bef K) :=by
  intro k
  induction k with
  | zero => intro _; exact List.Pairwise.nil
  | succ k ih =>
    intro hk
    have hkl : k < l.length :=by omega
    rw [List.take_succ_eq_append_getElem hkl,srt_snoc]
    refine insB_sorted (ih (by omega)) fun hm => ?_
    have hm :=(srt_perm K _).mem_iff.1 hm
    obtain ⟨j,hj,e⟩ :=List.mem_take_iff_getElem.1 hm
    have :=(List.getElem_inj hn).1 e
    omega
 have :=this l.length (Nat.le_refl _)
 rwa [List.take_length] at this
theorem srt_len (K : Int → Int) (l : List Int) : (srt K l).length = l.length :=(srt_perm K l).length_eq
theorem insB_at {K : Int → Int} {x : Int} : ∀ {s : List Int} (k : Nat),s.Pairwise (bef K) → k ≤ s.length → (∀ e ∈ s.take k,bef K e x) → (∀ e ∈ s.drop k,bef K x e) → insB K x s = s.take k ++ x :: s.drop k
 | [],k,_,_,_,_ => by simp [insB]
 | y :: s,0,_,_,_,h2 => by
   have :=h2 y (by simp)
   simp [insB,this]
 | y :: s,k + 1,h,hk,h1,h2 => by
   have hy : bef K y x :=h1 y (by simp)
   rw [List.pairwise_cons] at h
   have ih :=insB_at k h.2 (by simpa using hk) (fun e he => h1 e (by simp [he])) (fun e he => h2 e (by simpa using he))
   unfold insB
   rw [if_neg (bef_asymm hy),ih]
   rfl
def r3 (a b c : List Int) : List Int :=a ++ b ++ c
@[simp] theorem r3_len (a b c : List Int) : (r3 a b c).length = a.length + b.length + c.length :=by simp [r3]; omega
def rowX (pre s : List Int) (x : Int) (post : List Int) (k : Nat) : List Int :=pre ++ (s.take k ++ x :: s.drop k) ++ post
theorem rowX_len {pre s : List Int} {x : Int} {post : List Int} {k : Nat} (h : k ≤ s.length) : (rowX pre s x post k).length = pre.length + s.length + 1 + post.length :=by
 simp [rowX]; omega
theorem rowX_at {pre s : List Int} {x : Int} {post : List Int} {k : Nat} (h : k ≤ s.length) (hl : pre.length + k < (rowX pre s x post k).length) : (rowX pre s x post k)[pre.length + k] = x :=by
 simp only [rowX,List.append_assoc]
 rw [List.getElem_append_right (by omega),List.getElem_append_right (by simp; omega)]
 simp [Nat.min_eq_left h]
theorem rowX_prev {pre s : List Int} {x : Int} {post : List Int} {k : Nat} (h : k < s.length) (hl : pre.length + k < (rowX pre s x post (k + 1)).length) : (rowX pre s x post (k + 1))[pre.length + k] = s[k] :=by
 simp only [rowX,List.append_assoc]
 rw [List.getElem_append_right (by omega),List.getElem_append_left (by simp; omega)]
 simp
theorem rowX_swap {pre s : List Int} {x : Int} {post : List Int} {k : Nat} (h : k < s.length) : ((rowX pre s x post (k + 1)).set (pre.length + (k + 1)) s[k]).set (pre.length + k) x = rowX pre s x post k :=by
 have e1 : s.take (k + 1) = s.take k ++ [s[k]] :=List.take_succ_eq_append_getElem h
 have e2 : s.drop k = s[k] :: s.drop (k + 1) :=List.drop_eq_getElem_cons h
 have hk : (s.take k).length = k :=by simp; omega
 simp only [rowX,e1,e2,List.append_assoc]
 rw [List.set_append_right _ _ (by omega),List.set_append_right _ _ (by omega)]
 congr 1
 rw [show pre.length + (k + 1) - pre.length = k + 1 by omega,show pre.length + k - pre.length = k by omega]
 rw [List.set_append_right _ _ (by omega),List.set_append_right _ _ (by omega),hk]
 congr 1
 simp
 rw [e2]; rfl
end Go.Proofs.Ytndiamkmcoghdaa

namespace Go.Proofs.Ytndiamkmcoghdaa
open Go.RowKit Go.Ab
attribute [local irreducible] AWP Go.Ab.Sub Means MeansH CallK CallG CallT CallGT CallU
abbrev rowI (L : List Int) : Cell :=.row ⟨3,1,L.map ii⟩
theorem getQ_lt {L : List Rat} {j : Nat} (h : j < L.length) : L.getD j 0 = L[j] :=by rw [List.getD_eq_getElem?_getD,List.getElem?_eq_getElem h]; rfl
def cden : List Rat → Int
 | [] => 1
 | r :: R => r.den * cden R
theorem cden_pos : ∀ R : List Rat,0 < cden R
 | [] => by decide
 | r :: R => Int.mul_pos (by have :=r.den_pos; omega) (cden_pos R)
theorem cden_int : ∀ (R : List Rat) (r : Rat),r ∈ R → ∃ m : Int,r * (cden R : Rat) = (m : Rat)
 | a :: R,r,h => by
   rcases List.mem_cons.1 h with rfl | h
   · refine ⟨r.num * cden R,?_⟩
     show r * (((r.den : Int) * cden R : Int) : Rat) = _
     rw [Rat.intCast_mul,Rat.intCast_mul,num_den r]; grind
   · obtain ⟨m,e⟩ :=cden_int R r h
     refine ⟨a.den * m,?_⟩
     show r * (((a.den : Int) * cden R : Int) : Rat) = _
     rw [Rat.intCast_mul,Rat.intCast_mul,← e]; grind
namespace B
abbrev bsl (R : List Rat) : AV :=fql R
def okR (R : List Rat) : Prop :=∀ r ∈ R,rq r
def kf (R : List Rat) (x : Int) : Int :=(R.getD x.toNat 0 * (cden R : Rat)).num
theorem kf_eq (R : List Rat) (x : Int) : (kf R x : Rat) = R.getD x.toNat 0 * (cden R : Rat) :=by
 unfold kf
 have : ∃ m : Int,R.getD x.toNat 0 * (cden R : Rat) = (m : Rat) :=by
  by_cases h : x.toNat < R.length
  · rw [getQ_lt h]; exact cden_int R _ (List.getElem_mem h)
  · rw [List.getD_eq_getElem?_getD,List.getElem?_eq_none (by omega)]
    exact ⟨0,by show (0 : Rat) * _ = ((0 : Int) : Rat); rw [Rat.zero_mul]; rfl⟩
 obtain ⟨m,e⟩ :=this
 rw [e,Rat.num_intCast]
theorem kf_lt (R : List Rat) (x y : Int) : kf R x < kf R y ↔ R.getD x.toNat 0 < R.getD y.toNat 0 :=by
 rw [← Rat.intCast_lt_intCast,kf_eq,kf_eq]
 exact Rat.mul_lt_mul_right (by have :=cden_pos R; exact Rat.intCast_pos.2 this)
def cmpC (R : List Rat) (x y : Int) : Int :=cmpR (R.getD y.toNat 0) (R.getD x.toNat 0)
theorem cmp_neg (R : List Rat) (x y : Int) : cmpC R x y < 0 ↔ kf R y < kf R x :=by unfold cmpC; rw [cmpR_lt,kf_lt]
set_option maxHeartbeats 4000000 in
set_option maxRecDepth 20000 in
theorem clo_m (R : List Rat) (hok : okR R) (x y : Int) (hx : 0 ≤ x ∧ x < R.length) (hy : 0 ≤ y ∧ y < R.length) : MeansH Try.prog 53 [.row ⟨41,1,[bsl R]⟩] [ii x,ii y,.el 0 1 0 0] (ii (cmpC R x y)) [.row ⟨41,1,[bsl R]⟩] :=by
 obtain ⟨i,hi,rfl⟩ : ∃ i,∃ _ : i < R.length,x = (i : Int) :=⟨x.toNat,by omega,by omega⟩
 obtain ⟨j,hj,rfl⟩ : ∃ i,∃ _ : i < R.length,y = (i : Int) :=⟨y.toNat,by omega,by omega⟩
 unfold cmpC
 rw [Int.toNat_natCast,Int.toNat_natCast,getQ_lt hi,getQ_lt hj]
 have n1 :=nth_fq hi
 have n2 :=nth_fq hj
 have c :=Compare_q (hok _ (List.getElem_mem hj)) (hok _ (List.getElem_mem hi))
 refine meansH_fn 1 15 [.tmp 5] Try.func53 rfl rfl rfl (by simp) (by decide) rfl fun X hX => ?_
 (repeat (refine awp_stepH [0,1,2,5,1000000] hX mixed rfl ?_; (simp [go_sem,hi,hj,n1,n2]; try (refine ⟨by kernel_rfl,?_⟩))))
 first | refine callKa (c) ?_ | refine callTa (c) ?_
 try (simp [go_sem]; try (refine ⟨by kernel_rfl,?_⟩))
 (repeat (refine awp_stepH [0,1,2,5,1000000] hX mixed rfl ?_; (simp [go_sem]; try (refine ⟨by kernel_rfl,?_⟩))))
 refine awp_ret ?_; (try simp only [thenQ,blkQ,loopQ]); refine retH_ret [(5,ii (cmpR R[j] R[i])),(1000000,.ow 0)] [.old 0 ⟨41,1,[bsl R]⟩] ?_
 simp [go_sem]
end B
end Go.Proofs.Ytndiamkmcoghdaa

namespace Go.Proofs.Ytndiamkmcoghdaa.B
open Go.RowKit Go.Ab
attribute [local irreducible] AWP Go.Ab.Sub Means MeansH CallK CallG CallT CallGT
abbrev clo : AV :=.fn 53 [] [.el 1 1 0 0]
abbrev sH (D : List Int) (R : List Rat) : List Cell :=[rowI D,.row ⟨41,1,[bsl R]⟩]
theorem rowX_srt {K : Int → Int} {pre s : List Int} {x : Int} {post : List Int} {k : Nat} (hs : s.Pairwise (bef K)) (hk : k ≤ s.length) (h1 : ∀ e ∈ s.take k,bef K e x) (h2 : ∀ e ∈ s.drop k,bef K x e) : rowX pre s x post k = r3 pre (insB K x s) post :=by
 rw [insB_at k hs hk h1 h2]; rfl
set_option maxHeartbeats 4000000 in
set_option maxRecDepth 20000 in
theorem insSort_m (pre l post : List Int) (R : List Rat) (hn : l.Nodup) (hord : ∀ i j (hi : i < l.length) (hj : j < l.length),i < j → l[i] < l[j]) (hr : ∀ x ∈ l,0 ≤ x ∧ x < R.length) (hb : pre.length + l.length + post.length ≤ 100000) (hR : R.length ≤ 100000) (hok : okR R) :
  MeansH Try.prog 93 (sH (r3 pre l post) R) [.ow 0,ii pre.length,ii (pre.length + l.length : Nat),clo] (.tup []) (sH (r3 pre (srt (kf R) l) post) R) :=by
 refine meansH_fn 2 53 [] Try.func93 rfl rfl rfl (by simp) (by decide) rfl fun X hX => ?_
 (repeat (refine awp_stepH [0,1,2,3,8,9,14,34,1000000,1000001] hX mixed rfl ?_; (simp [go_sem]; (try simp (disch :=omega) only [w64,td,tm]); try (refine ⟨by kernel_rfl,?_⟩))))
 refine awp_loop (fun i : Nat => ⟨mkE [(0,.ow 0),(1,ii pre.length),(2,ii (pre.length + l.length : Nat)),(3,clo),(8,ii (pre.length + i : Nat)),(1000000,.ow 0),(1000001,.ow 1)],sH (r3 pre (srt (kf R) (l.take i)) (l.drop i ++ post)) R⟩) (fun i => i ≤ l.length + (1 - l.length)) (fun i => l.length - i) 1 ?_ ?_ ?_
 · have e : srt (kf R) (l.take 1) ++ l.drop 1 = l :=by
    cases l with
    | nil => rfl
    | cons a l => rfl
   have e2 : r3 pre (srt (kf R) (l.take 1)) (l.drop 1 ++ post) = r3 pre l post :=by unfold r3; rw [← List.append_assoc,List.append_assoc pre,e]
   rw [e2]
   refine sub_of _ [.old 0 ⟨3,1,(r3 pre l post).map ii⟩,.old 1 ⟨41,1,[bsl R]⟩] (by simp [go_sem]) ?_
   simp [go_sem]
 · omega
 · intro i hi
   (repeat (refine awp_stepH [0,1,2,3,8,9,14,34,1000000,1000001] hX mixed rfl ?_; (simp [go_sem]; (try simp (disch :=omega) only [w64,td,tm]); try (refine ⟨by kernel_rfl,?_⟩))))
   refine awp_cond (b :=decide (i < l.length)) (by simp [go_sem]; try omega) (fun hc => ?_) (fun hc => ?_)
   · simp at hc
     obtain ⟨s,hs⟩ : ∃ s,srt (kf R) (l.take i) = s :=⟨_,rfl⟩
     have hsl : s.length = i :=by rw [← hs,srt_len]; simp; omega
     have hnt : (l.take i).Nodup :=hn.sublist (List.take_sublist _ _)
     have hss : s.Pairwise (bef (kf R)) :=by rw [← hs]; exact srt_sorted hnt
     have hsm : ∀ e ∈ s,e < l[i] ∧ 0 ≤ e ∧ e < R.length :=fun e he => by
      rw [← hs] at he
      have :=(srt_perm _ _).mem_iff.1 he
      obtain ⟨j,hj,rfl⟩ :=List.mem_take_iff_getElem.1 this
      exact ⟨hord j i (by omega) hc (by omega),hr _ (List.getElem_mem _)⟩
     have hxr :=hr l[i] (List.getElem_mem hc)
     obtain ⟨x,hx⟩ : ∃ x,l[i] = x :=⟨_,rfl⟩
     obtain ⟨po,hpo⟩ : ∃ po,l.drop (i + 1) ++ post = po :=⟨_,rfl⟩
     have hpl : pre.length + s.length + 1 + po.length ≤ 100000 :=by rw [← hpo]; simp; omega
     have e0 : r3 pre s (l.drop i ++ post) = rowX pre s x po s.length :=by
      rw [List.drop_eq_getElem_cons hc,hx,← hpo]
      simp [rowX,r3]
     have e1 : r3 pre (srt (kf R) (l.take (i + 1))) (l.drop (i + 1) ++ post) = r3 pre (insB (kf R) x s) po :=by
      rw [List.take_succ_eq_append_getElem hc,srt_snoc,hs,hx,hpo]
     have e2 : i = s.length :=hsl.symm
     rw [hx] at hsm hxr
     rw [hs,e0]
     (repeat (refine awp_stepH [0,1,2,3,8,9,14,34,1000000,1000001] hX mixed rfl ?_; (simp [go_sem]; try (refine ⟨by kernel_rfl,?_⟩))))
     refine awp_loop (fun k : Nat => ⟨mkE [(0,.ow 0),(1,ii pre.length),(2,ii (pre.length + l.length : Nat)),(3,clo),(8,ii (pre.length + i : Nat)),(9,ii (pre.length + k : Nat)),(1000000,.ow 0),(1000001,.ow 1)],sH (rowX pre s x po k) R⟩) (fun k => k ≤ s.length ∧ ∀ e ∈ s.drop k,bef (kf R) x e) (fun k => k) s.length ?_ ?_ ?_
     · refine sub_of _ [.old 0 ⟨3,1,(rowX pre s x po s.length).map ii⟩,.old 1 ⟨41,1,[bsl R]⟩] (by simp [go_sem]) ?_
       simp [go_sem,e2]
     · simp
     · rintro k ⟨hk,hd⟩
       have hlen :=rowX_len (pre :=pre) (x :=x) (post :=po) hk
       have done : (∀ e ∈ s.take k,bef (kf R) e x) → rowX pre s x po k = r3 pre (srt (kf R) (l.take (i + 1))) (l.drop (i + 1) ++ post) :=fun h1 => by rw [e1,rowX_srt hss hk h1 hd]
       cases k with
       | zero =>
         have hdone :=done (by simp)
         have hi0 : pre.length < (rowX pre s x po 0).length :=by omega
         have hi1 : pre.length - 1 < (rowX pre s x po 0).length :=by omega
         have hwz : IntKind.i64.wrap ((pre.length : Int) - 1) = (pre.length : Int) - 1 :=w64 (by omega) (by omega)
         have htz : ((pre.length : Int) - 1).toNat = pre.length - 1 :=by omega
         generalize rowX pre s x po 0 = D1 at *
         (repeat (refine awp_stepH [0,1,2,3,8,9,14,34,1000000,1000001] hX mixed rfl ?_; (simp [go_sem,hi0,hi1,hwz,htz]; try (refine ⟨by kernel_rfl,?_⟩))))
         first | refine callG_skip rfl ?_ | refine callGT_skip rfl ?_
         try (simp [go_sem]; try (refine ⟨by kernel_rfl,?_⟩))
         refine awp_cond (b :=false) (by simp [go_sem]) (fun h => by cases h) (fun _ => ?_)
         (repeat (refine awp_stepH [0,1,2,3,8,9,14,34,1000000,1000001] hX mixed rfl ?_; (simp [go_sem]; (try simp (disch :=omega) only [w64,td,tm]); try (refine ⟨by kernel_rfl,?_⟩))))
         refine ⟨i + 1,by omega,by omega,?_⟩
         rw [← hdone]
         refine sub_of _ [.old 0 ⟨3,1,D1.map ii⟩,.old 1 ⟨41,1,[bsl R]⟩] (by simp [go_sem]) ?_
         simp [go_sem]
         try omega
       | succ k =>
         have hks : k < s.length :=by omega
         obtain ⟨p,hp⟩ : ∃ p,pre.length + k = p :=⟨_,rfl⟩
         have hp1 : pre.length + (k + 1) = p + 1 :=by omega
         have hi1 : p + 1 < (rowX pre s x po (k + 1)).length :=by omega
         have hi2 : p < (rowX pre s x po (k + 1)).length :=by omega
         have hat : (rowX pre s x po (k + 1))[p + 1] = x :=by
          have :=rowX_at (pre :=pre) (s :=s) (x :=x) (post :=po) hk (by omega)
          simp only [hp1] at this; exact this
         have hpv : (rowX pre s x po (k + 1))[p] = s[k] :=by
          have :=rowX_prev (pre :=pre) (s :=s) (x :=x) (post :=po) hks (by omega)
          simp only [hp] at this; exact this
         have hsw :=rowX_swap (pre :=pre) (x :=x) (post :=po) hks
         rw [hp,hp1] at hsw
         have hy :=hsm s[k] (List.getElem_mem hks)
         have ht1 : ((p : Int) + 1).toNat = p + 1 :=by omega
         have hwp : IntKind.i64.wrap (p : Int) = (p : Int) :=w64 (by omega) (by omega)
         have hgt : (pre.length : Int) < (p : Int) + 1 :=by omega
         have hgt2 : pre.length < p + 1 :=by omega
         have hpb : p + 1 ≤ 100000 :=by omega
         have hcm :=clo_m R hok x s[k] hxr ⟨hy.2.1,hy.2.2⟩
         have hneg :=cmp_neg R x s[k]
         have hbef : bef (kf R) x s[k] ↔ cmpC R x s[k] < 0 :=by rw [hneg]; unfold bef; omega
         have hdk : bef (kf R) x s[k] → ∀ e ∈ s.drop k,bef (kf R) x e :=fun h e he => by
          rw [List.drop_eq_getElem_cons hks] at he
          rcases List.mem_cons.1 he with rfl | he
          · exact h
          · exact hd e he
         have hup : ¬ bef (kf R) x s[k] → ∀ e ∈ s.take (k + 1),bef (kf R) e x :=fun h e he => by
          have hyx : bef (kf R) s[k] x :=(bef_total (by omega)).resolve_left h
          rw [List.take_succ_eq_append_getElem hks] at he
          rcases List.mem_append.1 he with he | he
          · obtain ⟨j,hj,rfl⟩ :=List.mem_take_iff_getElem.1 he
            exact bef_trans (List.pairwise_iff_getElem.1 hss j k (by omega) hks (by omega)) hyx
          · simp at he; rw [he]; exact hyx
         rw [hp1]
         obtain ⟨y,hye⟩ : ∃ y,s[k] = y :=⟨_,rfl⟩
         rw [hye] at hpv hsw hcm hbef hdk hup
         generalize rowX pre s x po (k + 1) = D1 at *
         have hzs : zoneEs (((D1.map ii).set (p + 1) (ii y)).set p (ii x)) = true :=by
          rw [← List.map_set,← List.map_set]; exact zoneEs_map _ _ (fun _ => rfl)
         have hns : nth ((D1.map ii).set (p + 1) (ii y)) p = ii y :=by
          rw [← List.map_set,nth_map ii (by simpa using hi2),List.getElem_set_ne (by omega),hpv]
         (repeat (refine awp_stepH [0,1,2,3,8,9,14,34,1000000,1000001] hX mixed rfl ?_; (simp [go_sem,hi1,hi2,hat,hpv,ht1,hwp,hgt,hgt2]; try (refine ⟨by kernel_rfl,?_⟩))))
         (repeat refine And.intro (by first | omega | (unfold maxLen; omega) | kernel_rfl | (refine ⟨by first | omega | (unfold maxLen; omega),by first | omega | (unfold maxLen; omega)⟩) | grind) ?_)
         first | refine callHG_intro [1] (fun hg => hcm) (by simp [go_sem]) (by simp [go_sem]) ?_ | refine callHGT_intro [1] (fun hg => hcm) (by simp [go_sem]) ?_
         try (simp [go_sem,hi1,hi2,hat,hpv,ht1,hwp,hgt,hgt2]; try (refine ⟨by kernel_rfl,?_⟩))
         refine awp_cond (b :=decide (cmpC R x y < 0)) (by simp [go_sem]) (fun hd2 => ?_) (fun hd2 => ?_)
         · simp only [decide_eq_true_eq] at hd2
           (repeat (refine awp_stepH [0,1,2,3,8,9,14,34,1000000,1000001] hX mixed rfl ?_; (simp [go_sem,hi1,hi2,hat,hpv,ht1,hwp,hzs]; (try simp (disch :=omega) only [w64,td,tm]); try (refine ⟨by kernel_rfl,?_⟩))))
           try (simp [go_sem,hi1,hi2,hat,hpv,ht1,hwp,hzs]; try (refine ⟨by kernel_rfl,?_⟩))
           (repeat refine And.intro (by first | omega | (unfold maxLen; omega) | kernel_rfl | (refine ⟨by first | omega | (unfold maxLen; omega),by first | omega | (unfold maxLen; omega)⟩) | grind) ?_)
           (repeat (refine awp_stepH [0,1,2,3,8,9,14,34,1000000,1000001] hX mixed rfl ?_; (simp [go_sem,hi1,hi2,hat,hpv,ht1,hwp,hzs]; (try simp (disch :=omega) only [w64,td,tm]); try (refine ⟨by kernel_rfl,?_⟩))))
           refine ⟨k,⟨by omega,hdk (hbef.2 hd2)⟩,by omega,?_⟩
           rw [← hsw]
           refine sub_of _ [.old 0 ⟨3,1,((D1.set (p + 1) y).set p x).map ii⟩,.old 1 ⟨41,1,[bsl R]⟩] (by simp [go_sem,hns,hzs]) ?_
           simp [go_sem]
           try omega
         · simp only [decide_eq_false_iff_not] at hd2
           (repeat (refine awp_stepH [0,1,2,3,8,9,14,34,1000000,1000001] hX mixed rfl ?_; (simp [go_sem]; (try simp (disch :=omega) only [w64,td,tm]); try (refine ⟨by kernel_rfl,?_⟩))))
           refine ⟨i + 1,by omega,by omega,?_⟩
           rw [← done (hup fun h => hd2 (hbef.1 h))]
           refine sub_of _ [.old 0 ⟨3,1,D1.map ii⟩,.old 1 ⟨41,1,[bsl R]⟩] (by simp [go_sem]) ?_
           simp [go_sem]
           try omega
   · simp at hc
     have hd2 : r3 pre (srt (kf R) (l.take i)) (l.drop i ++ post) = r3 pre (srt (kf R) l) post :=by
      rw [List.take_of_length_le (by omega),List.drop_of_length_le (by omega)]; rfl
     rw [hd2]
     (repeat (refine awp_stepH [0,1,2,3,8,9,14,34,1000000,1000001] hX mixed rfl ?_; (simp [go_sem]; try (refine ⟨by kernel_rfl,?_⟩))))
     (try refine awp_ret ?_); (try simp only [thenQ,blkQ,loopQ]); refine retH_normal [(1000000,.ow 0),(1000001,.ow 1)] [.old 0 ⟨3,1,(r3 pre (srt (kf R) l) post).map ii⟩,.old 1 ⟨41,1,[bsl R]⟩] ?_
     simp [go_sem]
end Go.Proofs.Ytndiamkmcoghdaa.B

namespace Go.Proofs.Ytndiamkmcoghdaa.B
open Go.RowKit Go.Ab
attribute [local irreducible] AWP Go.Ab.Sub Means MeansH CallK CallG CallT CallGT
set_option maxHeartbeats 4000000 in
set_option maxRecDepth 20000 in
theorem stable_m (l : List Int) (R : List Rat) (hn : l.Nodup) (hord : ∀ i j (hi : i < l.length) (hj : j < l.length),i < j → l[i] < l[j]) (hr : ∀ x ∈ l,0 ≤ x ∧ x < R.length) (hlt : l.length < 20) (hR : R.length ≤ 100000) (hok : okR R) :
  MeansH Try.prog 79 (sH l R) [.ow 0,ii l.length,clo] (.tup []) (sH (srt (kf R) l) R) :=by
 have hi : MeansH Try.prog 93 (sH l R) [.ow 0,ii 0,ii l.length,clo] (.tup []) (sH (srt (kf R) l) R) :=by
  have :=insSort_m [] l [] R hn hord hr (by simp; omega) hR hok
  simpa [r3] using this
 have hlt2 : ¬ (20 : Int) ≤ l.length :=by omega
 have hlt3 : ¬ (20 : Int) < l.length :=by omega
 refine meansH_fn 2 63 [] Try.func79 rfl rfl rfl (by simp) (by decide) rfl fun X hX => ?_
 (repeat (refine awp_stepH [0,1,2,6,7,8,9,13,30,35,54,1000000,1000001] hX mixed rfl ?_; (simp [go_sem]; (try simp (disch :=omega) only [w64,td,tm]); try (refine ⟨by kernel_rfl,?_⟩))))
 refine awp_loop (fun _ : Nat => ⟨mkE [(0,.ow 0),(1,ii l.length),(2,clo),(6,ii 20),(7,ii 0),(8,ii 20),(1000000,.ow 0),(1000001,.ow 1)],sH l R⟩) (fun _ => True) (fun _ => 0) 0 ?_ ?_ ?_
 · refine sub_of _ [.old 0 ⟨3,1,l.map ii⟩,.old 1 ⟨41,1,[bsl R]⟩] (by simp [go_sem]) ?_
   simp [go_sem]
 · trivial
 · intro _ _
   (repeat (refine awp_stepH [0,1,2,6,7,8,9,13,30,35,54,1000000,1000001] hX mixed rfl ?_; (simp [go_sem,hlt2]; (try simp (disch :=omega) only [w64,td,tm]); try (refine ⟨by kernel_rfl,?_⟩))))
   refine awp_cond (b :=false) (by simp [go_sem]; try omega) (fun h => by cases h) (fun _ => ?_)
   (repeat (refine awp_stepH [0,1,2,6,7,8,9,13,30,35,54,1000000,1000001] hX mixed rfl ?_; (simp [go_sem]; try (refine ⟨by kernel_rfl,?_⟩))))
   first | refine callH_intro [0,1] (hi) (by simp [go_sem]) ?_ | refine callTQ_intro [0,1] (hi) (by simp [go_sem]) ?_ | refine callTE_intro [0,1] (hi) (by simp [go_sem]) ?_
   try (simp [go_sem]; try (refine ⟨by kernel_rfl,?_⟩))
   (repeat (refine awp_stepH [0,1,2,6,7,8,9,13,30,35,54,1000000,1000001] hX mixed rfl ?_; (simp [go_sem]; try (refine ⟨by kernel_rfl,?_⟩))))
   refine awp_loop (fun _ : Nat => ⟨mkE [(0,.ow 0),(1,ii l.length),(2,clo),(6,ii 20),(1000000,.ow 0),(1000001,.ow 1)],sH (srt (kf R) l) R⟩) (fun _ => True) (fun _ => 0) 0 ?_ ?_ ?_
   · refine sub_of _ [.old 0 ⟨3,1,(srt (kf R) l).map ii⟩,.old 1 ⟨41,1,[bsl R]⟩] (by simp [go_sem]) ?_
     simp [go_sem]
   · trivial
   · intro _ _
     (repeat (refine awp_stepH [0,1,2,6,7,8,9,13,30,35,54,1000000,1000001] hX mixed rfl ?_; (simp [go_sem,hlt3]; (try simp (disch :=omega) only [w64,td,tm]); try (refine ⟨by kernel_rfl,?_⟩))))
     refine awp_cond (b :=false) (by simp [go_sem]; try omega) (fun h => by cases h) (fun _ => ?_)
     (repeat (refine awp_stepH [0,1,2,6,7,8,9,13,30,35,54,1000000,1000001] hX mixed rfl ?_; (simp [go_sem]; try (refine ⟨by kernel_rfl,?_⟩))))
     (try refine awp_ret ?_); (try simp only [thenQ,blkQ,loopQ]); refine retH_normal [(1000000,.ow 0),(1000001,.ow 1)] [.old 0 ⟨3,1,(srt (kf R) l).map ii⟩,.old 1 ⟨41,1,[bsl R]⟩] ?_
     simp [go_sem]
set_option maxHeartbeats 4000000 in
set_option maxRecDepth 20000 in
theorem sortS_m (l : List Int) (R : List Rat) (hn : l.Nodup) (hord : ∀ i j (hi : i < l.length) (hj : j < l.length),i < j → l[i] < l[j]) (hr : ∀ x ∈ l,0 ≤ x ∧ x < R.length) (hlt : l.length < 20) (hR : R.length ≤ 100000) (hok : okR R) :
  MeansH Try.prog 52 (sH l R) [.ow 0,clo] (.tup []) (sH (srt (kf R) l) R) :=by
 refine meansH_fn 2 9 [] Try.func52 rfl rfl rfl (by simp) (by decide) rfl fun X hX => ?_
 (repeat (refine awp_stepH [0,1,1000000,1000001] hX mixed rfl ?_; (simp [go_sem]; try (refine ⟨by kernel_rfl,?_⟩))))
 first | refine callH_intro [0,1] (stable_m l R hn hord hr hlt hR hok) (by simp [go_sem]) ?_ | refine callTQ_intro [0,1] (stable_m l R hn hord hr hlt hR hok) (by simp [go_sem]) ?_ | refine callTE_intro [0,1] (stable_m l R hn hord hr hlt hR hok) (by simp [go_sem]) ?_
 try (simp [go_sem]; try (refine ⟨by kernel_rfl,?_⟩))
 (repeat (refine awp_stepH [0,1,1000000,1000001] hX mixed rfl ?_; (simp [go_sem]; try (refine ⟨by kernel_rfl,?_⟩))))
 (try refine awp_ret ?_); (try simp only [thenQ,blkQ,loopQ]); refine retH_normal [(1000000,.ow 0),(1000001,.ow 1)] [.old 0 ⟨3,1,(srt (kf R) l).map ii⟩,.old 1 ⟨41,1,[bsl R]⟩] ?_
 simp [go_sem]
end Go.Proofs.Ytndiamkmcoghdaa.B

namespace Go.Proofs.Ytndiamkmcoghdaa
def sumL (l : List Int) : Int :=l.foldr (· + ·) 0
@[simp] theorem sumL_nil : sumL [] = 0 :=rfl
@[simp] theorem sumL_cons (a : Int) (l : List Int) : sumL (a :: l) = a + sumL l :=rfl
theorem sumL_app : ∀ a b : List Int,sumL (a ++ b) = sumL a + sumL b
 | [],b => by simp
 | x :: a,b => by simp [sumL_app a b]; omega
theorem sumL_succ {l : List Int} {k : Nat} (h : k < l.length) : sumL (l.take (k + 1)) = sumL (l.take k) + l[k] :=by
 rw [List.take_succ_eq_append_getElem h,sumL_app]; simp
def inC (c : Int) : Bool :=decide (0 ≤ c) && decide (c ≤ 1099511627776)
def okC' (C : List Int) : Bool :=C.all inC
def okH (C : List Int) (h : Int) : Bool :=decide ((C.length : Int) ≤ 400) && decide (0 ≤ h) && decide (h ≤ 1125899906842624)
def rightC (C : List Int) (h : Int) : Bool :=okC' C && okH C h
theorem okC_mem {C : List Int} (h : okC' C = true) {c : Int} (hc : c ∈ C) : 0 ≤ c ∧ c ≤ 1099511627776 :=by
 have :=List.all_eq_true.1 h c hc
 simpa [inC] using this
theorem okC_succ {C : List Int} {k : Nat} (h : k < C.length) (h1 : okC' (C.take k) = true) (h2 : inC C[k] = true) : okC' (C.take (k + 1)) = true :=by
 unfold okC' at *
 rw [List.take_succ_eq_append_getElem h,List.all_append,h1]; simp [h2]
theorem okC_bad {C : List Int} {k : Nat} (h : k < C.length) (h2 : inC C[k] = false) : okC' C = false :=List.all_eq_false.2 ⟨C[k],List.getElem_mem h,by simp [h2]⟩
theorem sum_bd : ∀ {C : List Int},okC' C = true → 0 ≤ sumL C ∧ sumL C ≤ C.length * 1099511627776
 | [],_ => by simp
 | c :: C,h => by
   simp only [okC',List.all_cons,Bool.and_eq_true] at h
   have h1 : 0 ≤ c ∧ c ≤ 1099511627776 :=by simpa [inC] using h.1
   have ih :=sum_bd (C :=C) h.2
   simp only [sumL_cons,List.length_cons]
   omega
theorem okC_take {C : List Int} (h : okC' C = true) (k : Nat) : okC' (C.take k) = true :=List.all_eq_true.2 fun c hc => List.all_eq_true.1 h c (List.mem_of_mem_take hc)
def fill (C : List Int) (l : Int) : Int :=sumL (C.map fun c => min c l)
theorem fill_cons (c : Int) (C : List Int) (l : Int) : fill (c :: C) l = min c l + fill C l :=rfl
theorem fill_succ {C : List Int} {k : Nat} (h : k < C.length) (l : Int) : fill (C.take (k + 1)) l = fill (C.take k) l + min C[k] l :=by
 unfold fill
 rw [List.take_succ_eq_append_getElem h,List.map_append,sumL_app]; simp
theorem fill_mono {l m : Int} (h : l ≤ m) : ∀ C : List Int,fill C l ≤ fill C m
 | [] => Int.le_refl _
 | c :: C => by have :=fill_mono h C; rw [fill_cons,fill_cons]; omega
theorem fill_bd {l : Int} (hl : 0 ≤ l ∧ l ≤ 1099511627776) : ∀ {C : List Int},okC' C = true → 0 ≤ fill C l ∧ fill C l ≤ C.length * 1099511627776
 | [],_ => by simp [fill]
 | c :: C,h => by
   simp only [okC',List.all_cons,Bool.and_eq_true] at h
   have h1 : 0 ≤ c ∧ c ≤ 1099511627776 :=by simpa [inC] using h.1
   have ih :=fill_bd hl (C :=C) h.2
   rw [fill_cons]; simp only [List.length_cons]
   omega
theorem fill_zero : ∀ {C : List Int},okC' C = true → fill C 0 = 0
 | [],_ => rfl
 | c :: C,h => by
   simp only [okC',List.all_cons,Bool.and_eq_true] at h
   have h1 : 0 ≤ c ∧ c ≤ 1099511627776 :=by simpa [inC] using h.1
   rw [fill_cons,fill_zero (C :=C) h.2]; omega
theorem fill_top : ∀ {C : List Int} {l : Int},(∀ c ∈ C,c ≤ l) → fill C l = sumL C
 | [],_,_ => rfl
 | c :: C,l,h => by
   have h1 :=h c (by simp)
   rw [fill_cons,fill_top (C :=C) (fun x hx => h x (by simp [hx])),sumL_cons]; omega
def cntG (C : List Int) (l : Int) : Nat :=C.countP fun c => decide (l < c)
theorem fill_step : ∀ (C : List Int) (l : Int),fill C (l + 1) = fill C l + cntG C l
 | [],_ => rfl
 | c :: C,l => by
   have :=fill_step C l
   rw [fill_cons,fill_cons,this]
   unfold cntG
   rw [List.countP_cons]
   by_cases h : l < c <;> simp [h] <;> omega
def shr (l : Int) : Int → List Int → List Int
 | _,[] => []
 | left,c :: C => if l < c ∧ 0 < left then (l + 1) :: shr l (left - 1) C else min c l :: shr l left C
def leftA (l : Int) : Int → List Int → Int
 | left,[] => left
 | left,c :: C => if l < c ∧ 0 < left then leftA l (left - 1) C else leftA l left C
theorem shr_len (l : Int) : ∀ (C : List Int) (left : Int),(shr l left C).length = C.length
 | [],_ => rfl
 | c :: C,left => by unfold shr; split <;> simp [shr_len l C]
theorem shr_app (l : Int) : ∀ (A B : List Int) (left : Int),shr l left (A ++ B) = shr l left A ++ shr l (leftA l left A) B
 | [],_,_ => rfl
 | c :: A,B,left => by
   rw [List.cons_append,shr,shr,leftA]
   split <;> simp [shr_app l A B]
theorem leftA_app (l : Int) : ∀ (A B : List Int) (left : Int),leftA l left (A ++ B) = leftA l (leftA l left A) B
 | [],_,_ => rfl
 | c :: A,B,left => by
   rw [List.cons_append,leftA,leftA]
   split <;> rw [leftA_app l A B]
def share1 (l left c : Int) : Int :=if l < c ∧ 0 < left then l + 1 else min c l
theorem shr_succ {l left : Int} {C : List Int} {k : Nat} (h : k < C.length) : shr l left (C.take (k + 1)) = shr l left (C.take k) ++ [share1 l (leftA l left (C.take k)) C[k]] :=by
 rw [List.take_succ_eq_append_getElem h,shr_app]
 congr 1
 unfold shr share1
 split <;> rfl
theorem leftA_succ {l left : Int} {C : List Int} {k : Nat} (h : k < C.length) : leftA l left (C.take (k + 1)) = leftA l left (C.take k) - (if l < C[k] ∧ 0 < leftA l left (C.take k) then 1 else 0) :=by
 rw [List.take_succ_eq_append_getElem h,leftA_app]
 generalize leftA l left (C.take k) = q
 show (if l < C[k] ∧ 0 < q then leftA l (q - 1) [] else leftA l q []) = _
 split <;> simp [leftA]
theorem leftA_bd (l : Int) : ∀ (C : List Int) (left : Int),0 ≤ left → 0 ≤ leftA l left C ∧ leftA l left C ≤ left
 | [],left,h => by simp [leftA,h]
 | c :: C,left,h => by
   unfold leftA
   split
   · rename_i h2; have :=leftA_bd l C (left - 1) (by omega); omega
   · exact leftA_bd l C left h
theorem shr_sum (l : Int) : ∀ (C : List Int) (left : Int),0 ≤ left → left ≤ cntG C l → sumL (shr l left C) = fill C l + left
 | [],left,h0,h1 => by simp [cntG] at h1; simp [shr,fill]; omega
 | c :: C,left,h0,h1 => by
   have e : (cntG (c :: C) l : Int) = cntG C l + if l < c then 1 else 0 :=by
    unfold cntG; rw [List.countP_cons]; by_cases h : l < c <;> simp [h]
   rw [e] at h1
   unfold shr
   rw [fill_cons]
   split
   · rename_i h
     rw [if_pos h.1] at h1
     rw [sumL_cons,shr_sum l C (left - 1) (by omega) (by omega)]; omega
   · rename_i h
     by_cases hc : l < c
     · have h0' : left = 0 :=by omega
       subst h0'
       rw [sumL_cons,shr_sum l C 0 (by omega) (by omega)]; omega
     · rw [if_neg hc] at h1
       rw [sumL_cons,shr_sum l C left h0 (by omega)]; omega
structure isLv (C : List Int) (h l : Int) : Prop where
 low : 0 ≤ l
 le : fill C l ≤ h
 lt : h < fill C (l + 1)
theorem isLv_uniq {C : List Int} {h l m : Int} (a : isLv C h l) (b : isLv C h m) : l = m :=by
 rcases Int.lt_trichotomy l m with hlm | hlm | hlm
 · have :=fill_mono (show l + 1 ≤ m by omega) C; have :=a.lt; have :=b.le; omega
 · exact hlm
 · have :=fill_mono (show m + 1 ≤ l by omega) C; have :=b.lt; have :=a.le; omega
theorem isLv_left {C : List Int} {h l : Int} (a : isLv C h l) : 0 ≤ h - fill C l ∧ h - fill C l < cntG C l :=by
 have h1 :=a.lt; have h2 :=a.le
 rw [fill_step] at h1; omega
open Classical in
noncomputable def lvl (C : List Int) (h : Int) : Int :=if e : ∃ l,isLv C h l then Classical.choose e else 0
theorem lvl_eq {C : List Int} {h l : Int} (a : isLv C h l) : lvl C h = l :=by
 have e : ∃ l,isLv C h l :=⟨l,a⟩
 unfold lvl
 rw [dif_pos e]
 exact isLv_uniq (Classical.choose_spec e) a
noncomputable def share (C : List Int) (h : Int) : List Int :=if sumL C ≤ h then C else shr (lvl C h) (h - fill C (lvl C h)) C
end Go.Proofs.Ytndiamkmcoghdaa

namespace Go.Proofs.Ytndiamkmcoghdaa
def idxI (n : Nat) : List Int :=(List.range n).map fun i : Nat => (i : Int)
theorem idxI_len (n : Nat) : (idxI n).length = n :=by simp [idxI]
theorem idxI_at {n i : Nat} (h : i < (idxI n).length) : (idxI n)[i] = i :=by simp [idxI]
theorem idxI_nodup (n : Nat) : (idxI n).Nodup :=List.pairwise_iff_getElem.2 fun i j hi hj hij => by rw [idxI_at hi,idxI_at hj]; omega
theorem idxI_ord (n : Nat) : ∀ i j (hi : i < (idxI n).length) (hj : j < (idxI n).length),i < j → (idxI n)[i] < (idxI n)[j] :=fun i j hi hj hij => by rw [idxI_at hi,idxI_at hj]; omega
theorem idxI_mem {n : Nat} {x : Int} : x ∈ idxI n ↔ 0 ≤ x ∧ x < n :=by
 simp only [idxI,List.mem_map,List.mem_range]
 constructor
 · rintro ⟨i,hi,rfl⟩; omega
 · rintro ⟨h1,h2⟩; exact ⟨x.toNat,by omega,by omega⟩
def bump (L : List Int) (x : Int) : List Int :=L.set x.toNat (L.getD x.toNat 0 + 1)
def bumps (L : List Int) (O : List Int) : List Int :=O.foldl bump L
theorem bump_len (L : List Int) (x : Int) : (bump L x).length = L.length :=by simp [bump]
theorem bumps_len : ∀ (O L : List Int),(bumps L O).length = L.length
 | [],_ => rfl
 | x :: O,L => by
   have :=bumps_len O (bump L x)
   rwa [bump_len] at this
theorem bumps_succ {L O : List Int} {k : Nat} (h : k < O.length) : bumps L (O.take (k + 1)) = bump (bumps L (O.take k)) O[k] :=by
 unfold bumps; rw [List.take_succ_eq_append_getElem h,List.foldl_append]; rfl
theorem bump_bd {L : List Int} {x B : Int} (h : ∀ v ∈ L,0 ≤ v ∧ v ≤ B) : ∀ v ∈ bump L x,0 ≤ v ∧ v ≤ B + 1 :=by
 intro v hv
 unfold bump at hv
 by_cases hx : x.toNat < L.length
 · have e : L.getD x.toNat 0 = L[x.toNat] :=by rw [List.getD_eq_getElem?_getD,List.getElem?_eq_getElem hx]; rfl
   rcases List.mem_or_eq_of_mem_set hv with hv | rfl
   · have :=h v hv; omega
   · rw [e]; have :=h _ (List.getElem_mem hx); omega
 · rw [List.set_eq_of_length_le (by omega)] at hv
   have :=h v hv; omega
theorem bumps_bd : ∀ (O : List Int) {L : List Int} {B : Int},(∀ v ∈ L,0 ≤ v ∧ v ≤ B) → ∀ v ∈ bumps L O,0 ≤ v ∧ v ≤ B + O.length
 | [],L,B,h,v,hv => by have :=h v hv; simp; omega
 | x :: O,L,B,h,v,hv => by
   have :=bumps_bd O (bump_bd (x :=x) h) v hv
   simp only [List.length_cons]; omega
end Go.Proofs.Ytndiamkmcoghdaa

namespace Go.Proofs.Ytndiamkmcoghdaa
theorem sumL_perm {a b : List Int} (h : a.Perm b) : sumL a = sumL b :=by
 induction h with
 | nil => rfl
 | cons x _ ih => simp [ih]
 | swap x y l => simp; omega
 | trans _ _ ih1 ih2 => rw [ih1,ih2]
def kR (R : List Int) (x : Int) : Int :=R.getD x.toNat 0
theorem map_idx (R : List Int) : (idxI R.length).map (kR R) = R :=by
 refine List.ext_getElem (by simp [idxI]) fun i h1 h2 => ?_
 simp only [List.getElem_map,idxI,List.getElem_range,kR,Int.toNat_natCast]
 rw [List.getD_eq_getElem?_getD,List.getElem?_eq_getElem h2]; rfl
theorem sum_zero : ∀ {l : List Int},(∀ x ∈ l,x = 0) → sumL l = 0
 | [],_ => rfl
 | x :: l,h => by rw [sumL_cons,h x (by simp),sum_zero (l :=l) fun y hy => h y (by simp [hy])]; rfl
theorem sum_le {B : Int} (hB : 0 ≤ B) : ∀ {l : List Int},(∀ x ∈ l,x ≤ B) → sumL l ≤ l.length * B
 | [],_ => by simp
 | x :: l,h => by
   have h1 :=h x (by simp)
   have ih :=sum_le hB (l :=l) fun y hy => h y (by simp [hy])
   rw [sumL_cons,List.length_cons,show ((l.length + 1 : Nat) : Int) * B = l.length * B + B by rw [Int.natCast_add,Int.add_mul]; simp]; omega
theorem sum_less {B : Int} (hB : 0 ≤ B) : ∀ {l : List Int},(∀ x ∈ l,x ≤ B) → (∃ x ∈ l,x ≤ 0) → sumL l + B ≤ l.length * B
 | [],_,h => by obtain ⟨x,hx,_⟩ :=h; cases hx
 | x :: l,h,h2 => by
   have h1 :=h x (by simp)
   have e : ((l.length + 1 : Nat) : Int) * B = l.length * B + B :=by rw [Int.natCast_add,Int.add_mul]; simp
   rw [sumL_cons,List.length_cons,e]
   obtain ⟨y,hy,hy0⟩ :=h2
   rcases List.mem_cons.1 hy with rfl | hy
   · have :=sum_le hB (l :=l) fun z hz => h z (by simp [hz]); omega
   · have :=sum_less hB (l :=l) (fun z hz => h z (by simp [hz])) ⟨y,hy,hy0⟩; omega
theorem more_pos {R : List Int} {s : Int} {m : Nat} (hs : 0 < s) (hR : ∀ r ∈ R,0 ≤ r ∧ r < s) (hsum : sumL R = s * m) {x : Int} (hx : x ∈ (srt (kR R) (idxI R.length)).take m) : 0 < kR R x :=by
 obtain ⟨O,hO⟩ : ∃ O,srt (kR R) (idxI R.length) = O :=⟨_,rfl⟩
 rw [hO] at hx
 have hp : O.Perm (idxI R.length) :=by rw [← hO]; exact srt_perm _ _
 have hso : O.Pairwise (bef (kR R)) :=by rw [← hO]; exact srt_sorted (idxI_nodup _)
 have hkb : ∀ y ∈ O,0 ≤ kR R y ∧ kR R y < s :=fun y hy => by
  have :=idxI_mem.1 (hp.mem_iff.1 hy)
  have hl : y.toNat < R.length :=by omega
  have e : kR R y = R[y.toNat] :=by unfold kR; rw [List.getD_eq_getElem?_getD,List.getElem?_eq_getElem hl]; rfl
  rw [e]; exact hR _ (List.getElem_mem hl)
 have e1 : sumL (O.map (kR R)) = s * m :=by rw [← hsum,sumL_perm (hp.map _),map_idx]
 rcases Int.lt_or_le 0 (kR R x) with h | h
 · exact h
 · exfalso
   have hxo : x ∈ O :=List.mem_of_mem_take hx
   have e2 : O.map (kR R) = (O.take m).map (kR R) ++ (O.drop m).map (kR R) :=by rw [← List.map_append,List.take_append_drop]
   have hz : sumL ((O.drop m).map (kR R)) = 0 :=by
    refine sum_zero fun v hv => ?_
    obtain ⟨y,hy,rfl⟩ :=List.mem_map.1 hv
    have hso' :=hso
    rw [← List.take_append_drop m O,List.pairwise_append] at hso'
    have :=hso'.2.2 x hx y hy
    have h2 :=hkb y (List.mem_of_mem_drop hy)
    unfold bef at this; omega
   have hl :=sum_less (B :=s - 1) (by omega) (l :=(O.take m).map (kR R)) (fun v hv => by
    obtain ⟨y,hy,rfl⟩ :=List.mem_map.1 hv
    have :=hkb y (List.mem_of_mem_take hy); omega) ⟨kR R x,List.mem_map.2 ⟨x,hx,rfl⟩,h⟩
   rw [e2,sumL_app,hz] at e1
   have hlen : ((O.take m).map (kR R)).length ≤ m :=by simp; omega
   have h3 : (((O.take m).map (kR R)).length : Int) * (s - 1) ≤ m * (s - 1) :=Int.mul_le_mul_of_nonneg_right (by omega) (by omega)
   have h4 : (m : Int) * (s - 1) = s * m - m :=by rw [Int.mul_sub,Int.mul_comm]; omega
   have hx0 : 0 < m :=by
    rcases Nat.eq_zero_or_pos m with rfl | h
    · simp at hx
    · exact h
   omega
theorem bumps_at : ∀ (O L : List Int) (i : Nat) (h : i < L.length) (h' : i < (bumps L O).length),O.Nodup → (∀ x ∈ O,0 ≤ x) → (bumps L O)[i] = L[i] + (if (i : Int) ∈ O then 1 else 0)
 | [],L,i,h,h',_,_ => by simp [bumps]
 | x :: O,L,i,h,h',hn,h0 => by
   rw [List.nodup_cons] at hn
   have hx :=h0 x (by simp)
   have e : (bumps L (x :: O))[i] = (bumps (bump L x) O)[i]'(by rw [bumps_len,bump_len]; exact h) :=rfl
   rw [e,bumps_at O (bump L x) i (by rw [bump_len]; exact h) (by rw [bumps_len,bump_len]; exact h) hn.2 fun y hy => h0 y (by simp [hy])]
   simp only [bump,List.getElem_set]
   by_cases hxi : x.toNat = i
   · have hxe : x = (i : Int) :=by omega
     rw [if_pos hxi,hxi,List.getD_eq_getElem?_getD,List.getElem?_eq_getElem h,if_neg (by rw [← hxe]; exact hn.1),if_pos (by rw [hxe]; simp)]
     simp
   · rw [if_neg hxi]
     have : (i : Int) ∈ x :: O ↔ (i : Int) ∈ O :=by
      rw [List.mem_cons]; constructor
      · rintro (h | h)
        · omega
        · exact h
      · exact .inr
     simp only [this]
theorem bumps_sum : ∀ (O L : List Int),(∀ x ∈ O,0 ≤ x ∧ x < L.length) → sumL (bumps L O) = sumL L + O.length
 | [],L,_ => by simp [bumps]
 | x :: O,L,h => by
   have hx :=h x (by simp)
   have e : bumps L (x :: O) = bumps (bump L x) O :=rfl
   have hs : sumL (bump L x) = sumL L + 1 :=by
    have hl : x.toNat < L.length :=by omega
    unfold bump
    rw [List.getD_eq_getElem?_getD,List.getElem?_eq_getElem hl,List.set_eq_take_append_cons_drop,if_pos hl]
    conv => rhs; rw [← List.take_append_drop x.toNat L]
    rw [sumL_app,sumL_app,List.drop_eq_getElem_cons hl,sumL_cons,sumL_cons]
    simp; omega
   rw [e,bumps_sum O (bump L x) fun y hy => by rw [bump_len]; exact h y (by simp [hy]),hs]; simp; omega
end Go.Proofs.Ytndiamkmcoghdaa

namespace Go.Proofs.Ytndiamkmcoghdaa
open Go.RowKit Go.Ab
attribute [local irreducible] AWP Go.Ab.Sub Means MeansH MeansX CallK CallG CallT CallGT CallU
theorem Add_fbad (s1 : Int) (a : List Int) (t1 : Int) (b : List Int) (s2 : Int) (c : List Int) (t2 : Int) (d : List Int) (ha : a.length ≤ 100000) (hb : b.length ≤ 100000) (hc : c.length ≤ 100000) (hd : d.length ≤ 100000) (h : ¬ (isF s1 a t1 b ∧ isF s2 c t2 d)) : Means false Try.prog 42 [frac4 s1 a t1 b,frac4 s2 c t2 d] (.tup [frZ 0 0,ii 1]) :=by
 have r1 :=Right_f s1 a (by omega) t1 b (by omega)
 have r2 :=Right_f s2 c (by omega) t2 d (by omega)
 obtain ⟨x,hx⟩ : ∃ x,decide (isF s1 a t1 b) = x :=⟨_,rfl⟩
 obtain ⟨y,hy⟩ : ∃ y,decide (isF s2 c t2 d) = y :=⟨_,rfl⟩
 have hxy : (!x || !y) = true :=by
  rw [← hx,← hy]; simp; grind
 rw [hx] at r1
 rw [hy] at r2
 refine means_fn false 46 [.cell 4 48,.tmp 5] Try.func42 rfl rfl rfl (by simp) (by decide) rfl fun X hX => ?_
 (repeat (refine awp_stepG [0,1,2,3,4,5,6,7,8,9,17] hX mixed rfl ?_; (simp [go_sem]; try (refine ⟨by kernel_rfl,?_⟩))))
 first | refine callKa (r1) ?_ | refine callTa (r1) ?_
 try (simp [go_sem]; try (refine ⟨by kernel_rfl,?_⟩))
 first | refine callGa (fun hg => r2) ?_ | refine callGTa (fun hg => r2) ?_
 try (simp [go_sem]; try (refine ⟨by kernel_rfl,?_⟩))
 refine awp_cond (b :=true) (by simpa [go_sem] using hxy) (fun _ => ?_) (fun h => by cases h)
 (repeat (refine awp_stepG [0,1,2,3,4,5,6,7,8,9,17] hX mixed rfl ?_; (simp [go_sem]; try (refine ⟨by kernel_rfl,?_⟩))))
def fl (r : Rat) : Int :=r.num / (r.den : Int)
def rs (r : Rat) : Rat :=r - ((fl r : Int) : Rat)
theorem den_posQ (r : Rat) : (0 : Rat) < ((r.den : Int) : Rat) :=Rat.intCast_pos.2 (by have :=r.den_pos; omega)
theorem fl_le (r : Rat) : ((fl r : Int) : Rat) ≤ r :=by
 have hd : 0 < (r.den : Int) :=by have :=r.den_pos; omega
 have h1 : fl r * (r.den : Int) ≤ r.num :=Int.ediv_mul_le _ (by omega)
 have h2 : ((fl r * (r.den : Int) : Int) : Rat) ≤ ((r.num : Int) : Rat) :=Rat.intCast_le_intCast.2 h1
 rw [Rat.intCast_mul,num_den r] at h2
 exact Rat.le_of_mul_le_mul_right h2 (den_posQ r)
theorem lt_fl (r : Rat) : r < ((fl r : Int) : Rat) + 1 :=by
 have hd : 0 < (r.den : Int) :=by have :=r.den_pos; omega
 have h1 : r.num < (fl r + 1) * (r.den : Int) :=Int.lt_ediv_add_one_mul_self _ hd
 have h2 : ((r.num : Int) : Rat) < (((fl r + 1) * (r.den : Int) : Int) : Rat) :=Rat.intCast_lt_intCast.2 h1
 rw [Rat.intCast_mul,num_den r,Rat.intCast_add] at h2
 have h3 :=Rat.lt_of_mul_lt_mul_right h2 (Rat.le_of_lt (den_posQ r))
 simpa using h3
theorem rs_nonneg (r : Rat) : 0 ≤ rs r :=by have :=fl_le r; unfold rs; grind
theorem rs_lt (r : Rat) : rs r < 1 :=by have :=lt_fl r; unfold rs; grind
theorem fl_bd {r : Rat} {B : Int} (h0 : 0 ≤ r) (h1 : r ≤ ((B : Int) : Rat)) : 0 ≤ fl r ∧ fl r ≤ B :=by
 refine ⟨?_,?_⟩
 · unfold fl
   exact Int.ediv_nonneg (Rat.num_nonneg.2 h0) (by omega)
 · have h2 : ((fl r : Int) : Rat) ≤ ((B : Int) : Rat) :=by have :=fl_le r; grind
   exact Rat.intCast_le_intCast.1 h2
theorem okSub_fl {r : Rat} (hq : rq r) (h0 : 0 ≤ r) : okSub r ((fl r : Int) : Rat) :=by
 have hd : 0 < (r.den : Int) :=by have :=r.den_pos; omega
 have hn :=Rat.num_nonneg.2 h0
 have h1 : fl r * (r.den : Int) ≤ r.num :=Int.ediv_mul_le _ (by omega)
 have h2 : 0 ≤ fl r :=Int.ediv_nonneg hn (by omega)
 have h3 : 0 ≤ fl r * (r.den : Int) :=Int.mul_nonneg h2 (by omega)
 have h4 : ((((fl r : Int) : Rat).den : Nat) : Int) = 1 :=by rw [Rat.den_intCast]; rfl
 obtain ⟨z1,z2⟩ :=hq
 unfold okSub sumP
 rw [h4,Rat.num_intCast,Int.mul_one,Int.mul_one]
 have e : -fl r * (r.den : Int) = -(fl r * (r.den : Int)) :=Int.neg_mul _ _
 rw [e]
 generalize fl r * (r.den : Int) = y at *
 refine ⟨⟨z1,?_,?_⟩,z2⟩
 all_goals
  unfold rz ab at *
  repeat' split
  all_goals (try omega)
  all_goals (repeat' split at z1)
  all_goals (try omega)
def rsum (ks : List Rat) (i : Nat) : Rat :=sumR (fun t => rs (ks.getD t 0)) i
theorem rsum_succ (ks : List Rat) (i : Nat) : rsum ks (i + 1) = rsum ks i + rs (ks.getD i 0) :=rfl
theorem rsum_bd (ks : List Rat) : ∀ i,0 ≤ rsum ks i ∧ rsum ks i ≤ ((i : Int) : Rat)
 | 0 => ⟨by show (0 : Rat) ≤ 0; grind,by show (0 : Rat) ≤ _; simp⟩
 | i + 1 => by
   obtain ⟨h1,h2⟩ :=rsum_bd ks i
   have h3 :=rs_nonneg (ks.getD i 0)
   have h4 :=rs_lt (ks.getD i 0)
   rw [rsum_succ]
   refine ⟨by grind,?_⟩
   have : (((i + 1 : Nat) : Int) : Rat) = ((i : Int) : Rat) + 1 :=by
    rw [show ((i + 1 : Nat) : Int) = (i : Int) + 1 by omega,Rat.intCast_add]; rfl
   rw [this]; grind
def okS (ks : List Rat) (i : Nat) : Prop :=∀ j,j < i → okAdd (rsum ks j) (rs (ks.getD j 0))
noncomputable def svF (ks : List Rat) (i : Nat) : Fr :=@ite _ (okS ks i) (Classical.propDecidable _) (frR (rsum ks i)) ⟨sg 0,dg (ab 0),sg 0,dg (ab 0)⟩
noncomputable def ev (ks : List Rat) (i : Nat) : Int :=@ite _ (okS ks i) (Classical.propDecidable _) 0 6
theorem okS_0 (ks : List Rat) : okS ks 0 :=fun j hj => by omega
theorem okS_dec {ks : List Rat} {i : Nat} (h : okS ks (i + 1)) : okS ks i :=fun j hj => h j (by omega)
theorem rs_rq {r : Rat} (hq : rq r) (h0 : 0 ≤ r) : rq (rs r) :=sub_rq (okSub_fl hq h0)
theorem rq_0 : rq 0 :=⟨rz_i (by decide),rz_i (by decide)⟩
theorem rsum_rq {ks : List Rat} : ∀ {i : Nat},okS ks i → rq (rsum ks i)
 | 0,_ => rq_0
 | i + 1,h => by rw [rsum_succ]; exact add_rq (h i (by omega))
theorem sub_k (c : Int) {r : Rat} (hq : rq r) (h0 : 0 ≤ r) (h1 : fl r ≤ 4503599627370496) : MeansH Try.prog 51 [calC c] [.el 0 1 0 0,frq r,frq ((fl r : Int) : Rat)] (frq (rs r)) [calC c] :=by
 have h2 : 0 ≤ fl r :=Int.ediv_nonneg (Rat.num_nonneg.2 h0) (by omega)
 have :=sub_c c (Sub_qt hq (of_rq (p :=fl r) (q :=1) (by omega) (by decide) (by decide)) (by rw [cast1]; exact okSub_fl hq h0))
 have e : kp c 0 = c :=by unfold kp; split <;> simp_all
 rw [e,cast1] at this
 exact this
theorem of_k (c : Int) {p : Int} (hp : -9223372036854775808 ≤ p ∧ p ≤ 9223372036854775807) : MeansH Try.prog 34 [calC c] [.el 0 1 0 0,ii p,ii 1] (frq ((p : Int) : Rat)) [calC c] :=by
 have :=of_c c (Of_q p 1 hp (by decide) (by decide))
 have e : kp c 0 = c :=by unfold kp; split <;> simp_all
 rw [e,cast1] at this
 exact this
theorem add_k {ks : List Rat} {i : Nat} (hq : rq (ks.getD i 0)) (h0 : 0 ≤ ks.getD i 0) : MeansH Try.prog 39 [calC (ev ks i)] [.el 0 1 0 0,fv (svF ks i),frq (rs (ks.getD i 0))] (fv (svF ks (i + 1))) [calC (ev ks (i + 1))] :=by
 have hr :=rs_rq hq h0
 by_cases h : okS ks i
 · have e1 : svF ks i = frR (rsum ks i) :=if_pos h
   have e2 : ev ks i = 0 :=if_pos h
   have hs :=rsum_rq h
   have ha :=Add_q hs hr
   by_cases h2 : okAdd (rsum ks i) (rs (ks.getD i 0))
   · have h3 : okS ks (i + 1) :=fun j hj => by
      by_cases e : j = i
      · subst e; exact h2
      · exact h j (by omega)
     have e3 : svF ks (i + 1) = frR (rsum ks (i + 1)) :=if_pos h3
     have e4 : ev ks (i + 1) = 0 :=if_pos h3
     rw [qv_t h2] at ha
     rw [e1,e2,e3,e4,rsum_succ]
     exact add_c 0 ha
   · have h3 : ¬ okS ks (i + 1) :=fun e => h2 (e i (by omega))
     have e3 : svF ks (i + 1) = ⟨sg 0,dg (ab 0),sg 0,dg (ab 0)⟩ :=if_neg h3
     have e4 : ev ks (i + 1) = 6 :=if_neg h3
     rw [qv_f h2] at ha
     rw [e1,e2,e3,e4]
     exact add_c 0 ha
 · have h3 : ¬ okS ks (i + 1) :=fun e => h (okS_dec e)
   have e1 : svF ks i = ⟨sg 0,dg (ab 0),sg 0,dg (ab 0)⟩ :=if_neg h
   have e2 : ev ks i = 6 :=if_neg h
   have e3 : svF ks (i + 1) = ⟨sg 0,dg (ab 0),sg 0,dg (ab 0)⟩ :=if_neg h3
   have e4 : ev ks (i + 1) = 6 :=if_neg h3
   rw [e1,e2,e3,e4]
   have hn : ¬ (isF (sg 0) (dg (ab 0)) (sg 0) (dg (ab 0)) ∧ isF (sg (rs (ks.getD i 0)).num) (dg (ab (rs (ks.getD i 0)).num)) (sg ((rs (ks.getD i 0)).den : Int)) (dg (ab ((rs (ks.getD i 0)).den : Int)))) :=fun e => by
    have :=e.1
    rw [isF_iff (rz_i (by decide)) (rz_i (by decide))] at this
    exact absurd this.2.2.1 (by decide)
   exact add_c 6 (Add_fbad _ _ _ _ _ _ _ _ (by decide) (by decide) (by have :=(dg_len_iff 60).2 hr.1; omega) (by have :=(dg_len_iff 60).2 hr.2; omega) hn)
end Go.Proofs.Ytndiamkmcoghdaa

namespace Go.Proofs.Ytndiamkmcoghdaa
open Go.RowKit Go.Ab
attribute [local irreducible] AWP Go.Ab.Sub Means MeansH MeansX CallK CallG CallT CallGT CallU
def most : Rat :=((4503599627370496 : Int) : Rat)
def cArg (ks : List Rat) (T : List AV) : Prop :=T ≠ [] ∨ ∃ k ∈ ks,k < 0 ∨ most < k
def coinL (ks : List Rat) : List Int :=bumps (ks.map fl) ((srt (B.kf (ks.map rs)) (idxI ks.length)).take (fl (rsum ks ks.length)).toNat)
noncomputable def coinV (ks : List Rat) (T : List AV) : AV :=
 @ite _ ((ks.length + T.length = 0 ∨ 12 < ks.length + T.length) ∨ cArg ks T) (Classical.propDecidable _) (.tup [.sl [],ii 1]) (@ite _ (okS ks ks.length) (Classical.propDecidable _) (if rsum ks ks.length = ((fl (rsum ks ks.length) : Int) : Rat) then .tup [il (coinL ks),ii 0] else .tup [.sl [],ii 1]) (.tup [.sl [],ii 6]))
def tailOk (T : List AV) : Prop :=T = [] ∨ ∃ x T',T = fv x :: T' ∧ Means false Try.prog 37 [fv x] (bb false)
def okTo (ks : List Rat) (i : Nat) : Prop :=∀ k,k < i → 0 ≤ ks.getD k 0 ∧ ks.getD k 0 ≤ most
theorem okTo_succ {ks : List Rat} {i : Nat} {f : Rat} (h : okTo ks i) (hf : ks.getD i 0 = f) (h0 : 0 ≤ f) (h1 : f ≤ most) : okTo ks (i + 1) :=fun k hk => by
 by_cases e : k = i
 · subst e; rw [hf]; exact ⟨h0,h1⟩
 · exact h k (by omega)
def restA (ks : List Rat) (i : Nat) : List AV :=(List.range i).map fun k => frq (rs (ks.getD k 0))
def outA (ks : List Rat) (i : Nat) : List AV :=(List.range i).map fun k => ii (fl (ks.getD k 0))
def ordA (i : Nat) : List AV :=(List.range i).map fun k : Nat => ii (k : Int)
theorem restA_succ (ks : List Rat) (i : Nat) : restA ks (i + 1) = restA ks i ++ [frq (rs (ks.getD i 0))] :=by unfold restA; rw [List.range_succ,List.map_append]; rfl
theorem outA_succ (ks : List Rat) (i : Nat) : outA ks (i + 1) = outA ks i ++ [ii (fl (ks.getD i 0))] :=by unfold outA; rw [List.range_succ,List.map_append]; rfl
theorem ordA_succ (i : Nat) : ordA (i + 1) = ordA i ++ [ii (i : Int)] :=by unfold ordA; rw [List.range_succ,List.map_append]; rfl
theorem restA_len (ks : List Rat) (i : Nat) : (restA ks i).length = i :=by simp [restA]
theorem outA_len (ks : List Rat) (i : Nat) : (outA ks i).length = i :=by simp [outA]
theorem ordA_len (i : Nat) : (ordA i).length = i :=by simp [ordA]
theorem range_getD {α β : Type} (ks : List α) (d : α) (f : α → β) : (List.range ks.length).map (fun k => f (ks.getD k d)) = ks.map f :=by
 apply List.ext_getElem
 · simp
 · intro i h1 h2
   have : i < ks.length :=by simpa using h2
   simp [List.getD_eq_getElem?_getD,List.getElem?_eq_getElem this]
theorem restA_full (ks : List Rat) : restA ks ks.length = (ks.map rs).map frq :=by
 rw [List.map_map]; exact range_getD ks 0 fun r => frq (rs r)
theorem outA_full (ks : List Rat) : outA ks ks.length = (ks.map fl).map ii :=by
 rw [List.map_map]; exact range_getD ks 0 fun r => ii (fl r)
theorem ordA_full (n : Nat) : ordA n = (idxI n).map ii :=by unfold ordA idxI; rw [List.map_map]; rfl
theorem zone_rng {n : Nat} {f : Nat → AV} (h : ∀ k,zoneEs [f k] = true) : zoneEs ((List.range n).map f) = true :=by
 unfold zoneEs
 rw [List.all_eq_true]
 intro e he
 obtain ⟨k,_,rfl⟩ :=List.mem_map.1 he
 have :=h k
 unfold zoneEs at this
 rw [List.all_eq_true] at this
 exact this _ (by simp)
theorem restA_zone (ks : List Rat) (i : Nat) : zoneEs (restA ks i) = true :=zone_rng fun _ => rfl
theorem outA_zone (ks : List Rat) (i : Nat) : zoneEs (outA ks i) = true :=zone_rng fun _ => rfl
theorem ordA_zone (i : Nat) : zoneEs (ordA i) = true :=zone_rng fun _ => rfl
theorem nth_hd {A B : List AV} {v : AV} {k : Nat} (h : A[k]? = some v) : nth (A ++ B) k = v :=nth_some (by
 rw [List.getElem?_append_left (by rcases Nat.lt_or_ge k A.length with h2 | h2; exact h2; rw [List.getElem?_eq_none h2] at h; cases h)]; exact h)
theorem nth_end {A B : List AV} {v : AV} {k : Nat} (h : A.length = k) : nth (A ++ v :: B) k = v :=nth_some (by
 rw [List.getElem?_append_right (by omega),h,Nat.sub_self]; rfl)
set_option maxHeartbeats 8000000 in
set_option maxRecDepth 20000 in
theorem Coins_q (ks : List Rat) (T : List AV) (hq : ∀ k ∈ ks,rq k) (hT : tailOk T) (hl : ks.length + T.length ≤ 100000) : Means false Try.prog 26 [.sl (ks.map frq ++ T)] (coinV ks T) :=by
 obtain ⟨V,hV⟩ : ∃ V,coinV ks T = V :=⟨_,rfl⟩
 have hzr : svF ks 0 = frR 0 :=if_pos (okS_0 ks)
 have hev : ev ks 0 = 0 :=if_pos (okS_0 ks)
 have k0 :=of_k 0 (p :=0) (by decide)
 have k1 :=of_k 0 (p :=4503599627370496) (by decide)
 have hmr : ((4503599627370496 : Int) : Rat) = most :=rfl
 have hz0 : (((0 : Int)) : Rat) = 0 :=rfl
 have hmq : rq most :=by
  have :=of_rq (p :=4503599627370496) (q :=1) (by decide) (by decide) (by decide)
  rwa [cast1] at this
 rw [hz0] at k0
 rw [hmr] at k1
 obtain ⟨mr,hmr2⟩ : ∃ m,most = m :=⟨_,rfl⟩
 obtain ⟨zr,hzr2⟩ : ∃ z : Rat,0 = z :=⟨_,rfl⟩
 rw [hmr2] at k1 hmq
 rw [hzr2] at k0 hzr
 have hzq : rq zr :=hzr2 ▸ rq_0
 rw [hV]
 refine means_fn false 128 [.tmp 2,.tmp 3] Try.func26 rfl rfl rfl (by simp) (by decide) rfl fun X hX => ?_
 (repeat (refine awp_stepG [0,2,3,4,5,6,7,8,9,10,11,12,13,15,18,26,35,36,37,38,56,92,108,114,115,116,117] hX mixed rfl ?_; (simp [go_sem]; try (refine ⟨by kernel_rfl,?_⟩))))
 by_cases hlen : ks.length + T.length = 0 ∨ 12 < ks.length + T.length
 · have e : V = .tup [.sl [],ii 1] :=by rw [← hV]; exact if_pos (.inl hlen)
   rw [e]
   refine awp_cond (b :=true) (by simp [go_sem]; omega) (fun _ => ?_) (fun h => by cases h)
   (repeat (refine awp_stepG [0,2,3,4,5,6,7,8,9,10,11,12,13,15,18,26,35,36,37,38,56,92,108,114,115,116,117] hX mixed rfl ?_; (simp [go_sem]; try (refine ⟨by kernel_rfl,?_⟩))))
 refine awp_cond (b :=false) (by simp [go_sem]; omega) (fun h => by cases h) (fun _ => ?_)
 (repeat (refine awp_stepG [0,2,3,4,5,6,7,8,9,10,11,12,13,15,18,26,35,36,37,38,56,92,108,114,115,116,117] hX mixed rfl ?_; (simp [go_sem]; try (refine ⟨by kernel_rfl,?_⟩))))
 first | refine callH_intro [0] (k0) (by simp [go_sem]) ?_ | refine callTQ_intro [0] (k0) (by simp [go_sem]) ?_ | refine callTE_intro [0] (k0) (by simp [go_sem]) ?_
 try (simp [go_sem]; try (refine ⟨by kernel_rfl,?_⟩))
 first | refine callH_intro [0] (k0) (by simp [go_sem]) ?_ | refine callTQ_intro [0] (k0) (by simp [go_sem]) ?_ | refine callTE_intro [0] (k0) (by simp [go_sem]) ?_
 try (simp [go_sem]; try (refine ⟨by kernel_rfl,?_⟩))
 first | refine callH_intro [0] (k1) (by simp [go_sem]) ?_ | refine callTQ_intro [0] (k1) (by simp [go_sem]) ?_ | refine callTE_intro [0] (k1) (by simp [go_sem]) ?_
 try (simp [go_sem]; try (refine ⟨by kernel_rfl,?_⟩))
 (repeat (refine awp_stepG [0,2,3,4,5,6,7,8,9,10,11,12,13,15,18,26,35,36,37,38,56,92,108,114,115,116,117] hX mixed rfl ?_; (simp [go_sem]; try (refine ⟨by kernel_rfl,?_⟩))))
 refine awp_loop (fun i : Nat => ⟨mkE [(0,.sl (ks.map frq ++ T)),(4,.el 0 1 0 0),(5,.el 1 4 0 0),(6,.el 2 4 0 0),(7,.el 3 4 0 0),(8,.ow 6),(9,.ow 7),(10,.el 4 1 0 0),(35,.sl (ks.map frq ++ T)),(36,ii (ks.length + T.length : Nat)),(37,ii i)],[calC (ev ks i),.row ⟨48,4,[fv (svF ks i)]⟩,.row ⟨48,4,[frq zr]⟩,.row ⟨48,4,[frq mr]⟩,.row ⟨41,1,[.ow 5]⟩,.row ⟨48,4,restA ks i⟩,.row ⟨3,1,outA ks i⟩,.row ⟨3,1,ordA i⟩]⟩) (fun i => i ≤ ks.length ∧ okTo ks i) (fun i => ks.length + T.length - i) 0 ?_ ?_ ?_
 · rw [hzr,hev]
   refine sub_of _ [.old 0 ⟨66,1,[.agg [ii 0]]⟩,.old 1 ⟨48,4,[frq zr]⟩,.old 2 ⟨48,4,[frq zr]⟩,.old 3 ⟨48,4,[frq mr]⟩,.old 4 ⟨41,1,[.ow 5]⟩,.birth 48 4,.birth 3 1,.birth 3 1] (by simp [go_sem]) ?_
   simp [go_sem]
 · exact ⟨by omega,fun k hk => by omega⟩
 · rintro i ⟨hi,hp⟩
   have hn0 : ks.length + T.length ≤ 12 :=by omega
   have wi :=w64 (x :=(i : Int) + 1) (by omega) (by omega)
   (repeat (refine awp_stepG [0,2,3,4,5,6,7,8,9,10,11,12,13,15,18,26,35,36,37,38,56,92,108,114,115,116,117] hX mixed rfl ?_; (simp [go_sem]; try (refine ⟨by kernel_rfl,?_⟩))))
   refine awp_cond (b :=decide (i < ks.length + T.length)) (by simp [go_sem]; try omega) (fun hb => ?_) (fun hb => ?_)
   · simp only [decide_eq_true_eq] at hb
     by_cases hik : i < ks.length
     · have hgi : ks.getD i 0 = ks[i] :=by rw [List.getD_eq_getElem?_getD,List.getElem?_eq_getElem hik]; rfl
       have hfq : rq (ks.getD i 0) :=by rw [hgi]; exact hq _ (List.getElem_mem hik)
       have q1 : nth (ks.map frq ++ T) i = frq (ks.getD i 0) :=nth_hd (by simp [hik])
       have hil : (i : Int) < (ks.length : Int) + (T.length : Int) :=by omega
       have r1 :=Right_t _ _ (rf_q hfq)
       have m1 :=Compare_q hfq hzq
       have m2 :=Compare_q hfq hmq
       have z1 :=cmpR_lt (ks.getD i 0) zr
       have z2 :=cmpR_gt (ks.getD i 0) mr
       have hmem : ks.getD i 0 ∈ ks :=by rw [hgi]; exact List.getElem_mem hik
       obtain ⟨F0,hF0⟩ : ∃ F,svF ks i = F :=⟨_,rfl⟩
       obtain ⟨e0,he0⟩ : ∃ e,ev ks i = e :=⟨_,rfl⟩
       have k5 :=fun h => add_k (ks :=ks) (i :=i) hfq h
       have hrs :=restA_succ ks i
       have hos :=outA_succ ks i
       have hds :=ordA_succ i
       have hrl :=restA_len ks i
       have hol :=outA_len ks i
       have hdl :=ordA_len i
       have hrz :=restA_zone ks i
       have hoz :=outA_zone ks i
       have hdz :=ordA_zone i
       obtain ⟨f,hf⟩ : ∃ f,ks.getD i 0 = f :=⟨_,rfl⟩
       obtain ⟨RA,hRA⟩ : ∃ e,restA ks i = e :=⟨_,rfl⟩
       obtain ⟨OA,hOA⟩ : ∃ e,outA ks i = e :=⟨_,rfl⟩
       obtain ⟨DA,hDA⟩ : ∃ e,ordA i = e :=⟨_,rfl⟩
       rw [hf] at hfq q1 r1 m1 m2 z1 z2 hmem hrs hos k5
       rw [hF0,he0] at k5 ⊢
       rw [hRA] at hrs hrl hrz ⊢
       rw [hOA] at hos hoz hol ⊢
       rw [hDA] at hds hdz hdl ⊢
       (repeat (refine awp_stepG [0,2,3,4,5,6,7,8,9,10,11,12,13,15,18,26,35,36,37,38,56,92,108,114,115,116,117] hX mixed rfl ?_; (simp [go_sem,hil,q1]; try (refine ⟨by kernel_rfl,?_⟩))))
       first | refine callKa (r1) ?_ | refine callTa (r1) ?_
       try (simp [go_sem,hil,q1]; try (refine ⟨by kernel_rfl,?_⟩))
       first | refine callGa (fun hg => m1) ?_ | refine callGTa (fun hg => m1) ?_
       try (simp [go_sem,hil,q1]; try (refine ⟨by kernel_rfl,?_⟩))
       first | refine callGa (fun hg => m2) ?_ | refine callGTa (fun hg => m2) ?_
       try (simp [go_sem,hil,q1]; try (refine ⟨by kernel_rfl,?_⟩))
       refine awp_cond (b :=decide (f < zr ∨ mr < f)) (by simp [go_sem,z1,z2]; try grind) (fun hd => ?_) (fun hd => ?_)
       · simp only [decide_eq_true_eq] at hd
         have e : V = .tup [.sl [],ii 1] :=by rw [← hV]; exact if_pos (.inr (.inr ⟨f,hmem,by rw [hmr2,hzr2]; exact hd⟩))
         rw [e]
         (repeat (refine awp_stepG [0,2,3,4,5,6,7,8,9,10,11,12,13,15,18,26,35,36,37,38,56,92,108,114,115,116,117] hX mixed rfl ?_; (simp [go_sem]; try (refine ⟨by kernel_rfl,?_⟩))))
       · simp only [decide_eq_false_iff_not,not_or] at hd
         have hf0 : 0 ≤ f :=by rw [hzr2]; exact Rat.not_lt.1 hd.1
         have hfm : f ≤ most :=by rw [hmr2]; exact Rat.not_lt.1 hd.2
         obtain ⟨b1,b2⟩ :=fl_bd (B :=4503599627370496) hf0 hfm
         have c1 :=Floor_f f.num f.den (rf_q hfq)
         have c2 :=Int_i (z :=fl f) (by omega)
         have k3 :=of_k e0 (p :=fl f) (by omega)
         have k4 :=sub_k e0 hfq hf0 b2
         have k5 :=k5 hf0
         obtain ⟨F1,hF1⟩ : ∃ F,svF ks (i + 1) = F :=⟨_,rfl⟩
         obtain ⟨e1,he1⟩ : ∃ e,ev ks (i + 1) = e :=⟨_,rfl⟩
         rw [hF1,he1] at k5
         have hrn : nth (RA ++ [frq (rs f)]) i = frq (rs f) :=nth_end hrl
         have hri : (i : Int) < (RA.length : Int) + 1 :=by omega
         have hri2 : i < RA.length + 1 :=by omega
         (repeat (refine awp_stepG [0,2,3,4,5,6,7,8,9,10,11,12,13,15,18,26,35,36,37,38,56,92,108,114,115,116,117] hX mixed rfl ?_; (simp [go_sem,hil,q1]; try (refine ⟨by kernel_rfl,?_⟩))))
         first | refine callKa (c1) ?_ | refine callTa (c1) ?_
         try (simp [go_sem]; try (refine ⟨by kernel_rfl,?_⟩))
         first | refine callKa (c2) ?_ | refine callTa (c2) ?_
         try (simp [go_sem]; try (refine ⟨by kernel_rfl,?_⟩))
         (repeat (refine awp_stepG [0,2,3,4,5,6,7,8,9,10,11,12,13,15,18,26,35,36,37,38,56,92,108,114,115,116,117] hX mixed rfl ?_; (simp [go_sem]; try (refine ⟨by kernel_rfl,?_⟩))))
         (repeat refine And.intro (by first | omega | (unfold maxLen; omega) | kernel_rfl | (refine ⟨by first | omega | (unfold maxLen; omega),by first | omega | (unfold maxLen; omega)⟩) | grind) ?_)
         (repeat (refine awp_stepG [0,2,3,4,5,6,7,8,9,10,11,12,13,15,18,26,35,36,37,38,56,92,108,114,115,116,117] hX mixed rfl ?_; (simp [go_sem,hil,q1]; try (refine ⟨by kernel_rfl,?_⟩))))
         first | refine callH_intro [0] (k3) (by simp [go_sem]) ?_ | refine callTQ_intro [0] (k3) (by simp [go_sem]) ?_ | refine callTE_intro [0] (k3) (by simp [go_sem]) ?_
         try (simp [go_sem]; try (refine ⟨by kernel_rfl,?_⟩))
         first | refine callH_intro [0] (k4) (by simp [go_sem]) ?_ | refine callTQ_intro [0] (k4) (by simp [go_sem]) ?_ | refine callTE_intro [0] (k4) (by simp [go_sem]) ?_
         try (simp [go_sem]; try (refine ⟨by kernel_rfl,?_⟩))
         (repeat refine And.intro (by first | omega | (unfold maxLen; omega) | kernel_rfl | (refine ⟨by first | omega | (unfold maxLen; omega),by first | omega | (unfold maxLen; omega)⟩) | grind) ?_)
         (repeat (refine awp_stepG [0,2,3,4,5,6,7,8,9,10,11,12,13,15,18,26,35,36,37,38,56,92,108,114,115,116,117] hX mixed rfl ?_; (simp [go_sem,hrn,hri,hri2]; try (refine ⟨by kernel_rfl,?_⟩))))
         first | refine callH_intro [0] (k5) (by simp [go_sem]) ?_ | refine callTQ_intro [0] (k5) (by simp [go_sem]) ?_ | refine callTE_intro [0] (k5) (by simp [go_sem]) ?_
         try (simp [go_sem]; try (refine ⟨by kernel_rfl,?_⟩))
         (repeat refine And.intro (by first | omega | (unfold maxLen; omega) | kernel_rfl | (refine ⟨by first | omega | (unfold maxLen; omega),by first | omega | (unfold maxLen; omega)⟩) | grind) ?_)
         (repeat (refine awp_stepG [0,2,3,4,5,6,7,8,9,10,11,12,13,15,18,26,35,36,37,38,56,92,108,114,115,116,117] hX mixed rfl ?_; (simp [go_sem,wi]; try (refine ⟨by kernel_rfl,?_⟩))))
         refine ⟨i + 1,⟨by omega,okTo_succ hp hf hf0 hfm⟩,by omega,?_⟩
         · rw [hF1,he1,hrs,hos,hds]
           refine sub_of _ [.old 0 ⟨66,1,[.agg [ii e1]]⟩,.old 1 ⟨48,4,[fv F1]⟩,.old 2 ⟨48,4,[frq zr]⟩,.old 3 ⟨48,4,[frq mr]⟩,.old 4 ⟨41,1,[.ow 5]⟩,.old 14 ⟨48,4,RA ++ [frq (rs f)]⟩,.old 10 ⟨3,1,OA ++ [ii (fl f)]⟩,.old 12 ⟨3,1,DA ++ [ii (i : Int)]⟩] (by simp [go_sem,hrz,hoz,hdz]) ?_
           simp [go_sem]
     · have hin : i = ks.length :=by omega
       rcases hT with rfl | ⟨x,T',rfl,hx⟩
       · simp at hb; omega
       · have q1 : nth (ks.map frq ++ fv x :: T') i = fv x :=nth_end (by simp [hin])
         have hil : (i : Int) < (ks.length : Int) + ((T'.length : Int) + 1) :=by simp at hb; omega
         have e : V = .tup [.sl [],ii 1] :=by rw [← hV]; exact if_pos (.inr (.inl (by simp)))
         (repeat (refine awp_stepG [0,2,3,4,5,6,7,8,9,10,11,12,13,15,18,26,35,36,37,38,56,92,108,114,115,116,117] hX mixed rfl ?_; (simp [go_sem,hil,q1]; try (refine ⟨by kernel_rfl,?_⟩))))
         first | refine callKa (hx) ?_ | refine callTa (hx) ?_
         try (simp [go_sem,hil,q1]; try (refine ⟨by kernel_rfl,?_⟩))
         try first | refine callG_skip rfl ?_ | refine callGT_skip rfl ?_
         try (simp [go_sem,hil,q1]; try (refine ⟨by kernel_rfl,?_⟩))
         try first | refine callG_skip rfl ?_ | refine callGT_skip rfl ?_
         try (simp [go_sem,hil,q1]; try (refine ⟨by kernel_rfl,?_⟩))
         refine awp_cond (b :=true) (by simp [go_sem]) (fun _ => ?_) (fun h => by cases h)
         rw [e]
         (repeat (refine awp_stepG [0,2,3,4,5,6,7,8,9,10,11,12,13,15,18,26,35,36,37,38,56,92,108,114,115,116,117] hX mixed rfl ?_; (simp [go_sem]; try (refine ⟨by kernel_rfl,?_⟩))))
   · simp only [decide_eq_false_iff_not] at hb
     have hin : i = ks.length :=by omega
     have hT0 : T = [] :=List.eq_nil_of_length_eq_zero (by omega)
     subst hin hT0
     have hcB : ¬ ((ks.length + ([] : List AV).length = 0 ∨ 12 < ks.length + ([] : List AV).length) ∨ cArg ks []) :=fun h => by
      rcases h with h | h | ⟨k,hk,h⟩
      · exact hlen h
      · exact h rfl
      · obtain ⟨j,hj,rfl⟩ :=List.getElem_of_mem hk
        have :=hp j hj
        rw [List.getD_eq_getElem?_getD,List.getElem?_eq_getElem hj] at this
        have h1 : 0 ≤ ks[j] :=this.1
        have h2 : ks[j] ≤ most :=this.2
        rcases h with h | h
        · exact absurd h (Rat.not_lt.2 h1)
        · exact absurd h (Rat.not_lt.2 h2)
     by_cases hs : okS ks ks.length
     · have e1 : svF ks ks.length = frR (rsum ks ks.length) :=if_pos hs
       have e2 : ev ks ks.length = 0 :=if_pos hs
       have hsq :=rsum_rq hs
       obtain ⟨b1,b2⟩ :=rsum_bd ks ks.length
       obtain ⟨b3,b4⟩ :=fl_bd (B :=(ks.length : Int)) b1 b2
       have hV2 : V = if rsum ks ks.length = ((fl (rsum ks ks.length) : Int) : Rat) then .tup [il (coinL ks),ii 0] else .tup [.sl [],ii 1] :=by
        rw [← hV]; unfold coinV; rw [if_neg hcB,if_pos hs]
       have hcl : coinL ks = bumps (ks.map fl) ((srt (B.kf (ks.map rs)) (idxI ks.length)).take (fl (rsum ks ks.length)).toNat) :=rfl
       have c1 :=Floor_f (rsum ks ks.length).num (rsum ks ks.length).den (rf_q hsq)
       have c2 :=Int_i (z :=fl (rsum ks ks.length)) (by omega)
       have k3 :=of_k 0 (p :=fl (rsum ks ks.length)) (by omega)
       have hlq : rq ((fl (rsum ks ks.length) : Int) : Rat) :=by
        have :=of_rq (p :=fl (rsum ks ks.length)) (q :=1) (by omega) (by decide) (by decide)
        rwa [cast1] at this
       have m1 :=Compare_q hsq hlq
       have z1 :=cmpR_eq (rsum ks ks.length) ((fl (rsum ks ks.length) : Int) : Rat)
       have hrz :=restA_zone ks ks.length
       have hoz :=outA_zone ks ks.length
       have hdz :=ordA_zone ks.length
       have hrf : restA ks ks.length = (ks.map rs).map frq :=restA_full ks
       have hof :=outA_full ks
       have hdf :=ordA_full ks.length
       have hfq : ∀ v ∈ ks.map fl,0 ≤ v ∧ v ≤ 4503599627370496 :=fun v hv => by
        obtain ⟨k,hk,rfl⟩ :=List.mem_map.1 hv
        obtain ⟨j,hj,rfl⟩ :=List.getElem_of_mem hk
        have :=hp j hj
        rw [List.getD_eq_getElem?_getD,List.getElem?_eq_getElem hj] at this
        exact fl_bd this.1 this.2
       have hrl : (ks.map rs).length = ks.length :=by simp
       have hS :=B.sortS_m (idxI ks.length) (ks.map rs) (idxI_nodup _) (fun i j hi hj hij => idxI_ord _ i j hi hj hij) (fun x hx => by rw [hrl]; exact idxI_mem.1 hx) (by rw [idxI_len]; omega) (by rw [hrl]; omega) (fun r hr => by
        obtain ⟨k,hk,rfl⟩ :=List.mem_map.1 hr
        obtain ⟨j,hj,rfl⟩ :=List.getElem_of_mem hk
        have :=hp j hj
        rw [List.getD_eq_getElem?_getD,List.getElem?_eq_getElem hj] at this
        exact rs_rq (hq _ hk) this.1)
       obtain ⟨O,hO⟩ : ∃ O,srt (B.kf (ks.map rs)) (idxI ks.length) = O :=⟨_,rfl⟩
       rw [hO] at hS hcl
       have hOl : O.length = ks.length :=by rw [← hO,srt_len,idxI_len]
       have hOm : ∀ x ∈ O,0 ≤ x ∧ x < ks.length :=fun x hx => by
        rw [← hO] at hx
        exact idxI_mem.1 ((srt_perm _ _).mem_iff.1 hx)
       have hQl : (ks.map fl).length = ks.length :=by simp
       obtain ⟨m,hm⟩ : ∃ m : Nat,(m : Int) = fl (rsum ks ks.length) :=⟨(fl (rsum ks ks.length)).toNat,by omega⟩
       have hmt : (fl (rsum ks ks.length)).toNat = m :=by omega
       rw [hmt] at hcl
       rw [← hm] at c2 k3 m1 z1 hV2 b3 b4
       have c1 : Means false Try.prog 50 [frq (rsum ks ks.length)] (bigZ (m : Int)) :=by rw [hm]; exact c1
       rw [e1,e2,hrf,hof,hdf]
       rw [hrf] at hrz
       rw [hof] at hoz
       rw [hdf] at hdz
       generalize ks.map rs = R at *
       generalize ks.map fl = Q at *
       generalize idxI ks.length = I at *
       generalize rsum ks ks.length = su at *
       (repeat (refine awp_stepG [0,2,3,4,5,6,7,8,9,10,11,12,13,15,18,26,35,36,37,38,56,92,108,114,115,116,117] hX mixed rfl ?_; (simp [go_sem]; try (refine ⟨by kernel_rfl,?_⟩))))
       refine awp_cond (b :=false) (by simp [go_sem]) (fun h => by cases h) (fun _ => ?_)
       (repeat (refine awp_stepG [0,2,3,4,5,6,7,8,9,10,11,12,13,15,18,26,35,36,37,38,56,92,108,114,115,116,117] hX mixed rfl ?_; (simp [go_sem]; try (refine ⟨by kernel_rfl,?_⟩))))
       first | refine callKa (c1) ?_ | refine callTa (c1) ?_
       try (simp [go_sem]; try (refine ⟨by kernel_rfl,?_⟩))
       first | refine callKa (c2) ?_ | refine callTa (c2) ?_
       try (simp [go_sem]; try (refine ⟨by kernel_rfl,?_⟩))
       (repeat (refine awp_stepG [0,2,3,4,5,6,7,8,9,10,11,12,13,15,18,26,35,36,37,38,56,92,108,114,115,116,117] hX mixed rfl ?_; (simp [go_sem]; try (refine ⟨by kernel_rfl,?_⟩))))
       first | refine callH_intro [0] (k3) (by simp [go_sem]) ?_ | refine callTQ_intro [0] (k3) (by simp [go_sem]) ?_ | refine callTE_intro [0] (k3) (by simp [go_sem]) ?_
       try (simp [go_sem]; try (refine ⟨by kernel_rfl,?_⟩))
       (repeat (refine awp_stepG [0,2,3,4,5,6,7,8,9,10,11,12,13,15,18,26,35,36,37,38,56,92,108,114,115,116,117] hX mixed rfl ?_; (simp [go_sem]; try (refine ⟨by kernel_rfl,?_⟩))))
       first | refine callKa (m1) ?_ | refine callTa (m1) ?_
       try (simp [go_sem]; try (refine ⟨by kernel_rfl,?_⟩))
       refine awp_cond (b :=!decide (su = (((m : Nat) : Int) : Rat))) (by simp [go_sem,z1,bne]; try grind) (fun hd => ?_) (fun hd => ?_)
       · have e : V = .tup [.sl [],ii 1] :=by rw [hV2]; exact if_neg (by simpa using hd)
         rw [e]
         (repeat (refine awp_stepG [0,2,3,4,5,6,7,8,9,10,11,12,13,15,18,26,35,36,37,38,56,92,108,114,115,116,117] hX mixed rfl ?_; (simp [go_sem]; try (refine ⟨by kernel_rfl,?_⟩))))
       simp only [Bool.not_eq_false',decide_eq_true_eq] at hd
       have e : V = .tup [il (coinL ks),ii 0] :=by rw [hV2]; exact if_pos hd
       refine awp_sub (sub_of [(8,.ow 2),(9,.ow 1),(10,.el 0 1 0 0),(15,ii (m : Int))] [.old 4 ⟨41,1,[.sl (R.map frq)]⟩,.old 7 ⟨3,1,I.map ii⟩,.old 6 ⟨3,1,Q.map ii⟩] (by simp [go_sem,hrz]) (by simp [go_sem])) ?_
       simp only [List.map_cons,List.map_nil,Src.cell]
       have hmO : m ≤ O.length :=by omega
       have hmO2 : (m : Int) ≤ (O.length : Int) :=by omega
       (repeat (refine awp_stepG [0,2,3,4,5,6,7,8,9,10,11,12,13,15,18,26,35,36,37,38,56,92,108,114,115,116,117] hX mixed rfl ?_; (simp [go_sem]; try (refine ⟨by kernel_rfl,?_⟩))))
       first | refine callH_intro [1,0] (hS) (by simp [go_sem]) ?_ | refine callTQ_intro [1,0] (hS) (by simp [go_sem]) ?_ | refine callTE_intro [1,0] (hS) (by simp [go_sem]) ?_
       try (simp [go_sem]; try (refine ⟨by kernel_rfl,?_⟩))
       (repeat (refine awp_stepG [0,2,3,4,5,6,7,8,9,10,11,12,13,15,18,26,35,36,37,38,56,92,108,114,115,116,117] hX mixed rfl ?_; (simp [go_sem,hmO,hmO2]; try (refine ⟨by kernel_rfl,?_⟩))))
       refine awp_loop (fun j : Nat => ⟨mkE [(8,.ow 0),(114,.wn 1 1 0 m),(115,ii m),(116,ii j)],[rowI (bumps Q (O.take j)),rowI O]⟩) (fun j => j ≤ m) (fun j => m - j) 0 ?_ ?_ ?_
       · refine sub_of _ [.old 2 ⟨3,1,Q.map ii⟩,.old 1 ⟨3,1,O.map ii⟩] (by simp [go_sem,bumps]) ?_
         simp [go_sem,bumps]
       · omega
       · intro j hj
         have hbl :=bumps_len (O.take j) Q
         (repeat (refine awp_stepG [0,2,3,4,5,6,7,8,9,10,11,12,13,15,18,26,35,36,37,38,56,92,108,114,115,116,117] hX mixed rfl ?_; (simp [go_sem]; try (refine ⟨by kernel_rfl,?_⟩))))
         refine awp_cond (b :=decide (j < m)) (by simp [go_sem]) (fun hc => ?_) (fun hc => ?_)
         · simp at hc
           have hjO : j < O.length :=by omega
           have hx :=hOm O[j] (List.getElem_mem hjO)
           have hbs :=bumps_succ (L :=Q) hjO
           obtain ⟨p,hp⟩ : ∃ p : Nat,O[j] = (p : Int) :=⟨O[j].toNat,by omega⟩
           obtain ⟨B,hB⟩ : ∃ B,bumps Q (O.take j) = B :=⟨_,rfl⟩
           rw [hp] at hx hbs
           have hbd :=bumps_bd (O.take j) hfq
           rw [hB] at hbl hbs hbd ⊢
           have hpB : p < B.length :=by omega
           have hbd : 0 ≤ B[p] ∧ B[p] ≤ 4503599627370496 + 12 :=by
            have :=hbd B[p] (List.getElem_mem _)
            rw [List.length_take] at this
            omega
           have hbe : bump B (p : Int) = B.set p (B[p] + 1) :=by
            unfold bump
            rw [Int.toNat_natCast,List.getD_eq_getElem?_getD,List.getElem?_eq_getElem hpB]; rfl
           (repeat (refine awp_stepG [0,2,3,4,5,6,7,8,9,10,11,12,13,15,18,26,35,36,37,38,56,92,108,114,115,116,117] hX mixed rfl ?_; (simp [go_sem,hc,hjO,hp,hpB]; (try simp (disch :=omega) only [w64,td,tm]); try (refine ⟨by kernel_rfl,?_⟩))))
           (repeat refine And.intro (by first | omega | (unfold maxLen; omega) | kernel_rfl | (refine ⟨by first | omega | (unfold maxLen; omega),by first | omega | (unfold maxLen; omega)⟩) | grind) ?_)
           (repeat (refine awp_stepG [0,2,3,4,5,6,7,8,9,10,11,12,13,15,18,26,35,36,37,38,56,92,108,114,115,116,117] hX mixed rfl ?_; (simp [go_sem,hc,hjO,hp,hpB]; (try simp (disch :=omega) only [w64,td,tm]); try (refine ⟨by kernel_rfl,?_⟩))))
           refine ⟨j + 1,by omega,by omega,?_⟩
           rw [hbs,hbe]
           refine sub_of _ [.old 0 ⟨3,1,(B.set p (B[p] + 1)).map ii⟩,.old 1 ⟨3,1,O.map ii⟩] (by simp [go_sem]) ?_
           simp [go_sem]
           try omega
         · have : j = m :=by simp at hc; omega
           subst this
           (repeat (refine awp_stepG [0,2,3,4,5,6,7,8,9,10,11,12,13,15,18,26,35,36,37,38,56,92,108,114,115,116,117] hX mixed rfl ?_; (simp [go_sem]; try (refine ⟨by kernel_rfl,?_⟩))))
           rw [e,hcl]
           (repeat (refine awp_stepG [0,2,3,4,5,6,7,8,9,10,11,12,13,15,18,26,35,36,37,38,56,92,108,114,115,116,117] hX mixed rfl ?_; (simp [go_sem]; try (refine ⟨by kernel_rfl,?_⟩))))
     · have e2 : ev ks ks.length = 6 :=if_neg hs
       have e : V = .tup [.sl [],ii 6] :=by
        rw [← hV]; unfold coinV
        rw [if_neg (hcB),if_neg hs]
       rw [e2,e]
       (repeat (refine awp_stepG [0,2,3,4,5,6,7,8,9,10,11,12,13,15,18,26,35,36,37,38,56,92,108,114,115,116,117] hX mixed rfl ?_; (simp [go_sem]; try (refine ⟨by kernel_rfl,?_⟩))))
       refine awp_cond (b :=true) (by simp [go_sem]) (fun _ => ?_) (fun h => by cases h)
       (repeat (refine awp_stepG [0,2,3,4,5,6,7,8,9,10,11,12,13,15,18,26,35,36,37,38,56,92,108,114,115,116,117] hX mixed rfl ?_; (simp [go_sem]; try (refine ⟨by kernel_rfl,?_⟩))))
end Go.Proofs.Ytndiamkmcoghdaa

namespace Go.Proofs.Ytndiamkmcoghdaa
open Go.RowKit Go.Ab
attribute [local irreducible] AWP Go.Ab.Sub Means MeansH MeansX CallK CallG CallT CallGT CallU
def allQ (own : List Int) (S : List (List Int)) : List Rat :=(List.range own.length).map (allX own S)
def keptQ (own : List Int) (S : List (List Int)) : List Rat :=(List.range own.length).map (keptX own S)
theorem keptQ_len (own : List Int) (S : List (List Int)) : (keptQ own S).length = own.length :=by simp [keptQ]
theorem keptQ_at {own : List Int} {S : List (List Int)} {k : Nat} (h : k < own.length) : (keptQ own S).getD k 0 = keptX own S k :=by
 simp [keptQ,List.getD_eq_getElem?_getD,h]
variable {own : List Int} {S : List (List Int)}
abbrev partR (S : List (List Int)) (k : Nat) : Rat :=((1000 - sumI (S.getD k []) : Int) : Rat) / ((1000 : Int) : Rat)
theorem part_bd (h : PV own S) {i : Nat} (hi : i < own.length) : 0 < 1000 - sumI (S.getD i []) ∧ 1000 - sumI (S.getD i []) ≤ 1000 :=by
 have hS : i < S.length :=by rw [h.len]; exact hi
 have hg : S.getD i [] = S[i] :=by rw [List.getD_eq_getElem?_getD,List.getElem?_eq_getElem hS]; rfl
 have hpr :=PR_row h.toPR (List.getElem_mem hS)
 have hsb :=csum_bd S[i] S[i].length hpr.2
 rw [List.take_length] at hsb
 have hlt :=h.lt S[i] (List.getElem_mem hS)
 rw [hg]; omega
theorem part_bt (h : PV own S) {i : Nat} (hi : i < own.length) : bt 10 (partR S i).num ∧ bt 10 (partR S i).den :=by
 have :=part_bd h hi
 exact of_bt (by decide) (bt_1000 (by omega)) (bt_1000 (by decide))
theorem keptok (h : PV own S) (h6 : own.length ≤ 6) {k : Nat} (hk : k < own.length) : okMul (allX own S k) (partR S k) :=by
 obtain ⟨h1,h2⟩ :=all_sz h h6 hk
 obtain ⟨h3,h4⟩ :=part_bt h hk
 exact okMul_bt h1 h2 h3 h4 (by omega) (by omega)
theorem kept_sz (h : PV own S) (h6 : own.length ≤ 6) {k : Nat} (hk : k < own.length) : bt 320 (keptX own S k).num ∧ bt 80 (keptX own S k).den :=by
 obtain ⟨h1,h2⟩ :=all_sz h h6 hk
 obtain ⟨h3,h4⟩ :=part_bt h hk
 exact mul_bt h1 h2 h3 h4
theorem pool_fit (h : PV own S) (h6 : own.length ≤ 6) : Fit (poolM own S) own.length :=fit_of (pool_inv h) (pool_stg h.toPR) (.inl h6)
theorem bt_rq {k m : Nat} {r : Rat} (h : bt k r.num ∧ bt m r.den) (hk : k ≤ 1199) (hm : m ≤ 1199) : rq r :=rq_bt h.1 h.2 hk hm
theorem keptQ_mem (h : PV own S) (h6 : own.length ≤ 6) : ∀ x ∈ keptQ own S,bt 320 x.num ∧ bt 80 x.den :=fun x hx => by
 obtain ⟨k,hk,rfl⟩ :=List.mem_map.1 hx
 exact kept_sz h h6 (by simpa using hk)
theorem Solve_q (h : PV own S) (h6 : own.length ≤ 6) : Means false Try.prog 16 [il own,ill S] (.tup [fql (allQ own S),fql (keptQ own S),ii 0]) :=by
 have :=Solve_m own S h (pool_fit h h6) fun k hk => keptok h h6 hk
 have e1 : (allQ own S).map frq = allL own S :=by unfold allQ; rw [List.map_map]; rfl
 have e2 : (keptQ own S).map frq = keptL own S :=by unfold keptQ; rw [List.map_map]; rfl
 unfold fql
 rw [e1,e2]; exact this
theorem rs_bt {r : Rat} {m : Nat} (h0 : 0 ≤ r) (hm : bt m r.den) : bt m (rs r).num ∧ bt m (rs r).den :=by
 have hd : 0 < (r.den : Int) :=by have :=r.den_pos; omega
 have e : rs r * ((r.den : Int) : Rat) = ((r.num % (r.den : Int) : Int) : Rat) :=by
  have h1 : (r.num % (r.den : Int) : Int) = r.num - fl r * (r.den : Int) :=by unfold fl; rw [Int.emod_def,Int.mul_comm]
  rw [h1,Rat.intCast_sub,Rat.intCast_mul,num_den r]
  unfold rs; grind
 refine low_bt (by omega) e ?_ hm
 have h1 :=Int.emod_nonneg r.num (show (r.den : Int) ≠ 0 by omega)
 have h2 :=Int.emod_lt_of_pos r.num hd
 unfold bt at *
 omega
theorem rsum_bt {ks : List Rat} {m : Nat} (h : ∀ k ∈ ks,0 ≤ k ∧ bt m k.den) : ∀ i,i ≤ ks.length → bt ((m + 1) * i) (rsum ks i).num ∧ bt (m * i) (rsum ks i).den
 | 0,_ => ⟨by show bt _ ((0 : Rat)).num; unfold bt; simp,by show bt _ ((((0 : Rat)).den : Nat) : Int); unfold bt; simp⟩
 | i + 1,hi => by
   obtain ⟨h1,h2⟩ :=rsum_bt h i (by omega)
   have hg : ks.getD i 0 = ks[i] :=by rw [List.getD_eq_getElem?_getD,List.getElem?_eq_getElem (by omega)]; rfl
   obtain ⟨h3,h4⟩ :=h ks[i] (List.getElem_mem _)
   obtain ⟨h5,h6⟩ :=rs_bt h3 h4
   rw [rsum_succ,hg]
   have :=add_bt (c :=(m + 1) * i + m) h1 h2 h5 h6 (by omega) (by rw [Nat.add_mul]; omega)
   refine ⟨?_,?_⟩
   · have e : (m + 1) * i + m + 1 = (m + 1) * (i + 1) :=by rw [Nat.mul_add]; omega
     rw [← e]; exact this.1
   · rw [Nat.mul_add,Nat.mul_one]; exact this.2
theorem okS_6 {ks : List Rat} (h : ∀ k ∈ ks,0 ≤ k ∧ bt 80 k.den) (hl : ks.length ≤ 7) : okS ks ks.length :=fun j hj => by
 obtain ⟨h1,h2⟩ :=rsum_bt h j (by omega)
 have hg : ks.getD j 0 = ks[j] :=by rw [List.getD_eq_getElem?_getD,List.getElem?_eq_getElem (by omega)]; rfl
 obtain ⟨h3,h4⟩ :=h ks[j] (List.getElem_mem _)
 obtain ⟨h5,h6⟩ :=rs_bt h3 h4
 rw [hg]
 exact okAdd_bt h1 h2 h5 h6 (by omega) (by omega) (by omega)
theorem Coins_t {ks : List Rat} (h : ∀ k ∈ ks,(0 ≤ k ∧ k ≤ most) ∧ bt 320 k.num ∧ bt 80 k.den) (h0 : 0 < ks.length) (hl : ks.length ≤ 7) (hs : rsum ks ks.length = ((fl (rsum ks ks.length) : Int) : Rat)) : Means false Try.prog 26 [fql ks] (.tup [il (coinL ks),ii 0]) :=by
 have hc :=Coins_q ks [] (fun k hk => bt_rq (h k hk).2 (by omega) (by omega)) (.inl rfl) (by simp; omega)
 rw [List.append_nil] at hc
 have e : coinV ks [] = .tup [il (coinL ks),ii 0] :=by
  unfold coinV
  rw [if_neg,if_pos (okS_6 (fun k hk => ⟨(h k hk).1.1,(h k hk).2.2⟩) hl),if_pos hs]
  rintro (h1 | h1 | ⟨k,hk,h1 | h1⟩)
  · simp only [List.length_nil] at h1; omega
  · exact h1 rfl
  · exact absurd h1 (Rat.not_lt.2 (h k hk).1.1)
  · exact absurd h1 (Rat.not_lt.2 (h k hk).1.2)
 rwa [e] at hc
end Go.Proofs.Ytndiamkmcoghdaa

