/-
  Lemmas for the statement at the top.
-/
import Derived.Test.YtaolljbpencjnaaGreatDoorTP8
set_option linter.all false
namespace Go.Ab
def q16x0 : List Nat :=[0,1,3,4,5,6,7,8,9,10,12,13,14,15,16,18,19,23,35,47,53,54,55,56,66,80,1000000,1000001,1000002]
def q16x1 : List Nat :=[0,1,3,4,5,6,8,9,28,39,44,75,88,95]
def q16x2 : List Nat :=[0,1,2,3,4,5,16,17,23,48,57]
def q16x3 : List Nat :=[0,1,4,5,7,8,9,16,1000000]
def q16x4 : List Nat :=[0,1,4,5,7,13,14,15,16,17,22,26]
def q16x5 : List Nat :=[0,1,2,3,4,5,60,62,63,64,65,86]
def q16x6 : List Nat :=[0,2,3,4,7,9,16]
def q16x7 : List Nat :=[0,1,4,5,7,8,9,16,1000000,1000001]
def q16x8 : List Nat :=[0,1,4,1000000]
def q16x9 : List Nat :=[0,1,2,3,1000000]
attribute [go_sem] q16x0 q16x1 q16x2 q16x3 q16x4 q16x5 q16x6 q16x7 q16x8 q16x9
end Go.Ab
namespace Go.Proofs.YtaolljbpencjnaaGreatDoor
open Go.RowKit Go.Ab
attribute [local irreducible] AWP Go.Ab.Sub Means MeansH CallK CallG CallT CallGT PanicH DefH
abbrev il (L : List Int) : AV :=.sl (L.map ii)
@[go_sem] theorem oX {L : List Int} {k : Nat} (h : k < L.length) : nth (L.map ii) k = ii L[k] :=cX ii h
set_option maxHeartbeats 4000000 in
theorem B3 (f : FuncId) (E0 k0 : Nat) (c0 : AV) (E1 k1 : Nat) (c1 : AV) (p : Int → Bool) (L : List Int) (hl : L.length ≤ 100000) (hz0 : c0.flat.all AV.zone = true) (hz1 : c1.flat.all AV.zone = true) (hf : ∀ x ∈ L,MeansH Tryz.prog f [.row ⟨E0,k0,[c0]⟩,.row ⟨E1,k1,[c1]⟩] [ii x,.el 0 k0 0 0,.el 1 k1 0 0] (bb (p x)) [.row ⟨E0,k0,[c0]⟩,.row ⟨E1,k1,[c1]⟩]) (hcall : callable Tryz.prog f = true) :
  MeansH Tryz.prog 66 [.row ⟨E0,k0,[c0]⟩,.row ⟨E1,k1,[c1]⟩] [.sl (L.map ii),.fn f [] [.el 0 k0 0 0,.el 1 k1 0 0]] (ii (match L.findIdx? p with | some n => (n : Int) | none => -1)) [.row ⟨E0,k0,[c0]⟩,.row ⟨E1,k1,[c1]⟩] :=by
 have hy0 : ∀ x ∈ c0.flat,x.zone = true :=by simpa using hz0
 have hy1 : ∀ x ∈ c1.flat,x.zone = true :=by simpa using hz1
 refine aS 2 19 [.tmp 4] Tryz.func66 rfl rfl rfl (by simp) (by decide) rfl fun X hX => ?_
 (repeat (refine aB q16x7 hX mixed rfl ?_; (simp [go_sem]; try (refine ⟨by kernel_rfl,?_⟩))))
 refine aV (fun n : Nat => ⟨mkE [(0,.sl (L.map ii)),(1,.fn f [] [.el 0 k0 0 0,.el 1 k1 0 0]),(7,ii L.length),(8,ii n),(1000000,.ow 0),(1000001,.ow 1)],[.row ⟨E0,k0,[c0]⟩,.row ⟨E1,k1,[c1]⟩]⟩) (fun n => n ≤ L.length ∧ ∀ k (h : k < L.length),k < n → p L[k] = false) (fun n => L.length - n) 0 ?_ ?_ ?_
 · refine aM _ [.old 0 ⟨E0,k0,[c0]⟩,.old 1 ⟨E1,k1,[c1]⟩] (by simp [go_sem,hz0,hz1,hy0,hy1]) ?_
   simp [go_sem,hz0,hz1,hy0,hy1]
 · exact ⟨Nat.zero_le _,fun k h hk => absurd hk (by omega)⟩
 · rintro n ⟨h1,h2⟩
   (repeat (refine aB q16x7 hX mixed rfl ?_; (simp [go_sem]; try (refine ⟨by kernel_rfl,?_⟩))))
   refine aC (b :=decide (n < L.length)) (by simp [go_sem]) (fun hc => ?_) (fun hc => ?_)
   · simp at hc
     have hq :=oX hc
     have wk :=w64 (x :=(n : Int) + 1) (by omega) (by omega)
     (repeat (refine aB q16x7 hX mixed rfl ?_; (simp [go_sem,hc,hq,hcall]; try (refine ⟨by kernel_rfl,?_⟩))))
     refine aF [0,1] (hf L[n] (List.getElem_mem hc)) (by simp [go_sem,hz0,hz1,hy0,hy1]) ?_
     try (simp [go_sem,hz0]; try (refine ⟨by kernel_rfl,?_⟩))
     refine aC (b :=p L[n]) (by simp [go_sem]) (fun hs => ?_) (fun hs => ?_)
     · have e1 : L.findIdx? p = some n :=by
        rw [List.findIdx?_eq_some_iff_getElem]
        exact ⟨hc,hs,fun k hk => by rw [h2 k (by omega) hk]; simp⟩
       rw [e1]
       (repeat (refine aB q16x7 hX mixed rfl ?_; (simp [go_sem]; try (refine ⟨by kernel_rfl,?_⟩))))
       refine aK ?_; (try simp only [thenQ,blkQ,loopQ]); refine aJ [(4,ii n),(1000000,.ow 0),(1000001,.ow 1)] [.old 0 ⟨E0,k0,[c0]⟩,.old 1 ⟨E1,k1,[c1]⟩] ?_
       simp [go_sem,hz0,hz1,hy0,hy1]
     · (repeat (refine aB q16x7 hX mixed rfl ?_; (simp [go_sem,wk]; try (refine ⟨by kernel_rfl,?_⟩))))
       refine ⟨n + 1,⟨by omega,fun k h hk => ?_⟩,by omega,?_⟩
       · by_cases e : k = n
         · subst e; exact hs
         · exact h2 k h (by omega)
       · refine aM _ [.old 0 ⟨E0,k0,[c0]⟩,.old 1 ⟨E1,k1,[c1]⟩] (by simp [go_sem,hz0,hz1,hy0,hy1]) ?_
         simp [go_sem,hz0,hz1,hy0,hy1]
   · simp at hc
     have e1 : L.findIdx? p = none :=by
      rw [List.findIdx?_eq_none_iff]
      intro x hx
      obtain ⟨k,hk,rfl⟩ :=List.getElem_of_mem hx
      exact h2 k hk (by omega)
     rw [e1]
     (repeat (refine aB q16x7 hX mixed rfl ?_; (simp [go_sem]; try (refine ⟨by kernel_rfl,?_⟩))))
     refine aK ?_; (try simp only [thenQ,blkQ,loopQ]); refine aJ [(4,ii (-1)),(1000000,.ow 0),(1000001,.ow 1)] [.old 0 ⟨E0,k0,[c0]⟩,.old 1 ⟨E1,k1,[c1]⟩] ?_
     simp [go_sem,hz0,hz1,hy0,hy1]
theorem B4 (f : FuncId) (E0 k0 : Nat) (c0 : AV) (E1 k1 : Nat) (c1 : AV) (p : Int → Bool) (L : List Int) (hl : L.length ≤ 100000) (hz0 : c0.flat.all AV.zone = true) (hz1 : c1.flat.all AV.zone = true) (hf : ∀ x ∈ L,MeansH Tryz.prog f [.row ⟨E0,k0,[c0]⟩,.row ⟨E1,k1,[c1]⟩] [ii x,.el 0 k0 0 0,.el 1 k1 0 0] (bb (p x)) [.row ⟨E0,k0,[c0]⟩,.row ⟨E1,k1,[c1]⟩]) (hcall : callable Tryz.prog f = true) :
  MeansH Tryz.prog 30 [.row ⟨E0,k0,[c0]⟩,.row ⟨E1,k1,[c1]⟩] [.sl (L.map ii),.fn f [] [.el 0 k0 0 0,.el 1 k1 0 0]] (bb (L.any p)) [.row ⟨E0,k0,[c0]⟩,.row ⟨E1,k1,[c1]⟩] :=by
 have hy0 : ∀ x ∈ c0.flat,x.zone = true :=by simpa using hz0
 have hy1 : ∀ x ∈ c1.flat,x.zone = true :=by simpa using hz1
 have hI :=B3 f E0 k0 c0 E1 k1 c1 p L hl hz0 hz1 hf hcall
 refine aS 2 9 [.tmp 4] Tryz.func30 rfl rfl rfl (by simp) (by decide) rfl fun X hX => ?_
 (repeat (refine aB [0,1,4,1000000,1000001] hX mixed rfl ?_; (simp [go_sem]; try (refine ⟨by kernel_rfl,?_⟩))))
 refine aF [0,1] hI (by simp [go_sem,hz0,hz1,hy0,hy1]) ?_
 try (simp [go_sem,hz0]; try (refine ⟨by kernel_rfl,?_⟩))
 have e : decide (0 ≤ (match L.findIdx? p with | some n => (n : Int) | none => -1)) = L.any p :=by
  cases hf : L.findIdx? p with
  | none =>
    have : L.any p = false :=by
     rw [List.any_eq_false]
     intro x hx
     rw [List.findIdx?_eq_none_iff.1 hf x hx]; simp
    rw [this]; rfl
  | some n =>
    obtain ⟨h1,h2,_⟩ :=List.findIdx?_eq_some_iff_getElem.1 hf
    have : L.any p = true :=List.any_eq_true.2 ⟨L[n],List.getElem_mem h1,h2⟩
    rw [this]
    simp
 rw [← e]
 (repeat (refine aB [0,1,4,1000000,1000001] hX mixed rfl ?_; (simp [go_sem]; try (refine ⟨by kernel_rfl,?_⟩))))
 refine aK ?_; (try simp only [thenQ,blkQ,loopQ]); refine aJ [(4,bb (decide (0 ≤ (match L.findIdx? p with | some n => (n : Int) | none => -1)))),(1000000,.ow 0),(1000001,.ow 1)] [.old 0 ⟨E0,k0,[c0]⟩,.old 1 ⟨E1,k1,[c1]⟩] ?_
 simp [go_sem,hz0,hz1,hy0,hy1]
set_option maxHeartbeats 4000000 in
theorem B5 (f : FuncId) (E0 k0 : Nat) (c0 : AV) (p : E → Bool) (L : List E) (hl : L.length ≤ 100000) (hz0 : c0.flat.all AV.zone = true) (hf : ∀ x ∈ L,MeansH Tryz.prog f [.row ⟨E0,k0,[c0]⟩] [ex x,.el 0 k0 0 0] (bb (p x)) [.row ⟨E0,k0,[c0]⟩]) (hcall : callable Tryz.prog f = true) :
  MeansH Tryz.prog 160 [.row ⟨E0,k0,[c0]⟩] [.sl (L.map ex),.fn f [] [.el 0 k0 0 0]] (ii (match L.findIdx? p with | some n => (n : Int) | none => -1)) [.row ⟨E0,k0,[c0]⟩] :=by
 have hy0 : ∀ x ∈ c0.flat,x.zone = true :=by simpa using hz0
 refine aS 1 19 [.tmp 4] Tryz.func160 rfl rfl rfl (by simp) (by decide) rfl fun X hX => ?_
 (repeat (refine aB q16x3 hX mixed rfl ?_; (simp [go_sem]; try (refine ⟨by kernel_rfl,?_⟩))))
 refine aV (fun n : Nat => ⟨mkE [(0,.sl (L.map ex)),(1,.fn f [] [.el 0 k0 0 0]),(7,ii L.length),(8,ii n),(1000000,.ow 0)],[.row ⟨E0,k0,[c0]⟩]⟩) (fun n => n ≤ L.length ∧ ∀ k (h : k < L.length),k < n → p L[k] = false) (fun n => L.length - n) 0 ?_ ?_ ?_
 · refine aM _ [.old 0 ⟨E0,k0,[c0]⟩] (by simp [go_sem,hz0,hy0]) ?_
   simp [go_sem,hz0,hy0]
 · exact ⟨Nat.zero_le _,fun k h hk => absurd hk (by omega)⟩
 · rintro n ⟨h1,h2⟩
   (repeat (refine aB q16x3 hX mixed rfl ?_; (simp [go_sem]; try (refine ⟨by kernel_rfl,?_⟩))))
   refine aC (b :=decide (n < L.length)) (by simp [go_sem]) (fun hc => ?_) (fun hc => ?_)
   · simp at hc
     have hq :=lH hc
     have wk :=w64 (x :=(n : Int) + 1) (by omega) (by omega)
     (repeat (refine aB q16x3 hX mixed rfl ?_; (simp [go_sem,hc,hq,hcall]; try (refine ⟨by kernel_rfl,?_⟩))))
     refine aF [0] (hf L[n] (List.getElem_mem hc)) (by simp [go_sem,hz0,hy0]) ?_
     try (simp [go_sem,hz0]; try (refine ⟨by kernel_rfl,?_⟩))
     refine aC (b :=p L[n]) (by simp [go_sem]) (fun hs => ?_) (fun hs => ?_)
     · have e1 : L.findIdx? p = some n :=by
        rw [List.findIdx?_eq_some_iff_getElem]
        exact ⟨hc,hs,fun k hk => by rw [h2 k (by omega) hk]; simp⟩
       rw [e1]
       (repeat (refine aB q16x3 hX mixed rfl ?_; (simp [go_sem]; try (refine ⟨by kernel_rfl,?_⟩))))
       refine aK ?_; (try simp only [thenQ,blkQ,loopQ]); refine aJ [(4,ii n),(1000000,.ow 0)] [.old 0 ⟨E0,k0,[c0]⟩] ?_
       simp [go_sem,hz0,hy0]
     · (repeat (refine aB q16x3 hX mixed rfl ?_; (simp [go_sem,wk]; try (refine ⟨by kernel_rfl,?_⟩))))
       refine ⟨n + 1,⟨by omega,fun k h hk => ?_⟩,by omega,?_⟩
       · by_cases e : k = n
         · subst e; exact hs
         · exact h2 k h (by omega)
       · refine aM _ [.old 0 ⟨E0,k0,[c0]⟩] (by simp [go_sem,hz0,hy0]) ?_
         simp [go_sem,hz0,hy0]
   · simp at hc
     have e1 : L.findIdx? p = none :=by
      rw [List.findIdx?_eq_none_iff]
      intro x hx
      obtain ⟨k,hk,rfl⟩ :=List.getElem_of_mem hx
      exact h2 k hk (by omega)
     rw [e1]
     (repeat (refine aB q16x3 hX mixed rfl ?_; (simp [go_sem]; try (refine ⟨by kernel_rfl,?_⟩))))
     refine aK ?_; (try simp only [thenQ,blkQ,loopQ]); refine aJ [(4,ii (-1)),(1000000,.ow 0)] [.old 0 ⟨E0,k0,[c0]⟩] ?_
     simp [go_sem,hz0,hy0]
theorem B6 (f : FuncId) (E0 k0 : Nat) (c0 : AV) (p : E → Bool) (L : List E) (hl : L.length ≤ 100000) (hz0 : c0.flat.all AV.zone = true) (hf : ∀ x ∈ L,MeansH Tryz.prog f [.row ⟨E0,k0,[c0]⟩] [ex x,.el 0 k0 0 0] (bb (p x)) [.row ⟨E0,k0,[c0]⟩]) (hcall : callable Tryz.prog f = true) :
  MeansH Tryz.prog 136 [.row ⟨E0,k0,[c0]⟩] [.sl (L.map ex),.fn f [] [.el 0 k0 0 0]] (bb (L.any p)) [.row ⟨E0,k0,[c0]⟩] :=by
 have hy0 : ∀ x ∈ c0.flat,x.zone = true :=by simpa using hz0
 have hI :=B5 f E0 k0 c0 p L hl hz0 hf hcall
 refine aS 1 9 [.tmp 4] Tryz.func136 rfl rfl rfl (by simp) (by decide) rfl fun X hX => ?_
 (repeat (refine aB q16x8 hX mixed rfl ?_; (simp [go_sem]; try (refine ⟨by kernel_rfl,?_⟩))))
 refine aF [0] hI (by simp [go_sem,hz0,hy0]) ?_
 try (simp [go_sem,hz0]; try (refine ⟨by kernel_rfl,?_⟩))
 have e : decide (0 ≤ (match L.findIdx? p with | some n => (n : Int) | none => -1)) = L.any p :=by
  cases hf : L.findIdx? p with
  | none =>
    have : L.any p = false :=by
     rw [List.any_eq_false]
     intro x hx
     rw [List.findIdx?_eq_none_iff.1 hf x hx]; simp
    rw [this]; rfl
  | some n =>
    obtain ⟨h1,h2,_⟩ :=List.findIdx?_eq_some_iff_getElem.1 hf
    have : L.any p = true :=List.any_eq_true.2 ⟨L[n],List.getElem_mem h1,h2⟩
    rw [this]
    simp
 rw [← e]
 (repeat (refine aB q16x8 hX mixed rfl ?_; (simp [go_sem]; try (refine ⟨by kernel_rfl,?_⟩))))
 refine aK ?_; (try simp only [thenQ,blkQ,loopQ]); refine aJ [(4,bb (decide (0 ≤ (match L.findIdx? p with | some n => (n : Int) | none => -1)))),(1000000,.ow 0)] [.old 0 ⟨E0,k0,[c0]⟩] ?_
 simp [go_sem,hz0,hy0]
set_option maxHeartbeats 4000000 in
theorem B7 (f : FuncId) (E0 k0 : Nat) (c0 : AV) (p : (By × E) → Bool) (L : List (By × E)) (hl : L.length ≤ 100000) (hz0 : c0.flat.all AV.zone = true) (hf : ∀ x ∈ L,MeansH Tryz.prog f [.row ⟨E0,k0,[c0]⟩] [lt x,.el 0 k0 0 0] (bb (p x)) [.row ⟨E0,k0,[c0]⟩]) (hcall : callable Tryz.prog f = true) :
  MeansH Tryz.prog 103 [.row ⟨E0,k0,[c0]⟩] [.sl (L.map lt),.fn f [] [.el 0 k0 0 0]] (ii (match L.findIdx? p with | some n => (n : Int) | none => -1)) [.row ⟨E0,k0,[c0]⟩] :=by
 have hy0 : ∀ x ∈ c0.flat,x.zone = true :=by simpa using hz0
 refine aS 1 19 [.tmp 4] Tryz.func103 rfl rfl rfl (by simp) (by decide) rfl fun X hX => ?_
 (repeat (refine aB q16x3 hX mixed rfl ?_; (simp [go_sem]; try (refine ⟨by kernel_rfl,?_⟩))))
 refine aV (fun n : Nat => ⟨mkE [(0,.sl (L.map lt)),(1,.fn f [] [.el 0 k0 0 0]),(7,ii L.length),(8,ii n),(1000000,.ow 0)],[.row ⟨E0,k0,[c0]⟩]⟩) (fun n => n ≤ L.length ∧ ∀ k (h : k < L.length),k < n → p L[k] = false) (fun n => L.length - n) 0 ?_ ?_ ?_
 · refine aM _ [.old 0 ⟨E0,k0,[c0]⟩] (by simp [go_sem,hz0,hy0]) ?_
   simp [go_sem,hz0,hy0]
 · exact ⟨Nat.zero_le _,fun k h hk => absurd hk (by omega)⟩
 · rintro n ⟨h1,h2⟩
   (repeat (refine aB q16x3 hX mixed rfl ?_; (simp [go_sem]; try (refine ⟨by kernel_rfl,?_⟩))))
   refine aC (b :=decide (n < L.length)) (by simp [go_sem]) (fun hc => ?_) (fun hc => ?_)
   · simp at hc
     have hq :=fF hc
     have wk :=w64 (x :=(n : Int) + 1) (by omega) (by omega)
     (repeat (refine aB q16x3 hX mixed rfl ?_; (simp [go_sem,hc,hq,hcall]; try (refine ⟨by kernel_rfl,?_⟩))))
     refine aF [0] (hf L[n] (List.getElem_mem hc)) (by simp [go_sem,hz0,hy0]) ?_
     try (simp [go_sem,hz0]; try (refine ⟨by kernel_rfl,?_⟩))
     refine aC (b :=p L[n]) (by simp [go_sem]) (fun hs => ?_) (fun hs => ?_)
     · have e1 : L.findIdx? p = some n :=by
        rw [List.findIdx?_eq_some_iff_getElem]
        exact ⟨hc,hs,fun k hk => by rw [h2 k (by omega) hk]; simp⟩
       rw [e1]
       (repeat (refine aB q16x3 hX mixed rfl ?_; (simp [go_sem]; try (refine ⟨by kernel_rfl,?_⟩))))
       refine aK ?_; (try simp only [thenQ,blkQ,loopQ]); refine aJ [(4,ii n),(1000000,.ow 0)] [.old 0 ⟨E0,k0,[c0]⟩] ?_
       simp [go_sem,hz0,hy0]
     · (repeat (refine aB q16x3 hX mixed rfl ?_; (simp [go_sem,wk]; try (refine ⟨by kernel_rfl,?_⟩))))
       refine ⟨n + 1,⟨by omega,fun k h hk => ?_⟩,by omega,?_⟩
       · by_cases e : k = n
         · subst e; exact hs
         · exact h2 k h (by omega)
       · refine aM _ [.old 0 ⟨E0,k0,[c0]⟩] (by simp [go_sem,hz0,hy0]) ?_
         simp [go_sem,hz0,hy0]
   · simp at hc
     have e1 : L.findIdx? p = none :=by
      rw [List.findIdx?_eq_none_iff]
      intro x hx
      obtain ⟨k,hk,rfl⟩ :=List.getElem_of_mem hx
      exact h2 k hk (by omega)
     rw [e1]
     (repeat (refine aB q16x3 hX mixed rfl ?_; (simp [go_sem]; try (refine ⟨by kernel_rfl,?_⟩))))
     refine aK ?_; (try simp only [thenQ,blkQ,loopQ]); refine aJ [(4,ii (-1)),(1000000,.ow 0)] [.old 0 ⟨E0,k0,[c0]⟩] ?_
     simp [go_sem,hz0,hy0]
theorem B8 (f : FuncId) (E0 k0 : Nat) (c0 : AV) (p : (By × E) → Bool) (L : List (By × E)) (hl : L.length ≤ 100000) (hz0 : c0.flat.all AV.zone = true) (hf : ∀ x ∈ L,MeansH Tryz.prog f [.row ⟨E0,k0,[c0]⟩] [lt x,.el 0 k0 0 0] (bb (p x)) [.row ⟨E0,k0,[c0]⟩]) (hcall : callable Tryz.prog f = true) :
  MeansH Tryz.prog 60 [.row ⟨E0,k0,[c0]⟩] [.sl (L.map lt),.fn f [] [.el 0 k0 0 0]] (bb (L.any p)) [.row ⟨E0,k0,[c0]⟩] :=by
 have hy0 : ∀ x ∈ c0.flat,x.zone = true :=by simpa using hz0
 have hI :=B7 f E0 k0 c0 p L hl hz0 hf hcall
 refine aS 1 9 [.tmp 4] Tryz.func60 rfl rfl rfl (by simp) (by decide) rfl fun X hX => ?_
 (repeat (refine aB q16x8 hX mixed rfl ?_; (simp [go_sem]; try (refine ⟨by kernel_rfl,?_⟩))))
 refine aF [0] hI (by simp [go_sem,hz0,hy0]) ?_
 try (simp [go_sem,hz0]; try (refine ⟨by kernel_rfl,?_⟩))
 have e : decide (0 ≤ (match L.findIdx? p with | some n => (n : Int) | none => -1)) = L.any p :=by
  cases hf : L.findIdx? p with
  | none =>
    have : L.any p = false :=by
     rw [List.any_eq_false]
     intro x hx
     rw [List.findIdx?_eq_none_iff.1 hf x hx]; simp
    rw [this]; rfl
  | some n =>
    obtain ⟨h1,h2,_⟩ :=List.findIdx?_eq_some_iff_getElem.1 hf
    have : L.any p = true :=List.any_eq_true.2 ⟨L[n],List.getElem_mem h1,h2⟩
    rw [this]
    simp
 rw [← e]
 (repeat (refine aB q16x8 hX mixed rfl ?_; (simp [go_sem]; try (refine ⟨by kernel_rfl,?_⟩))))
 refine aK ?_; (try simp only [thenQ,blkQ,loopQ]); refine aJ [(4,bb (decide (0 ≤ (match L.findIdx? p with | some n => (n : Int) | none => -1)))),(1000000,.ow 0)] [.old 0 ⟨E0,k0,[c0]⟩] ?_
 simp [go_sem,hz0,hy0]
end Go.Proofs.YtaolljbpencjnaaGreatDoor

namespace Go.Proofs.YtaolljbpencjnaaGreatDoor
open Go.RowKit Go.Ab
attribute [local irreducible] AWP Go.Ab.Sub Means MeansH CallK CallG CallT CallGT PanicH DefH
def opnd (o : Int) : Int :=if o = 0 ∨ o = 1 then 0 else if o = 12 then 1 else if o = 13 then 3 else if o < 0 ∨ 14 ≤ o then -1 else 2
theorem sI (o : Int) : Means true Tryz.prog 135 [ii o] (ii (opnd o)) :=by
 refine aH true 17 [.tmp 2] Tryz.func135 rfl rfl rfl (by simp) (by decide) rfl fun X hX => ?_
 (repeat (refine aA q16x6 hX mixed rfl ?_; (simp [go_sem]; try (refine ⟨by kernel_rfl,?_⟩))))
 by_cases h0 : o = 0
 · subst h0
   refine aC (b :=true) (by simp [go_sem]) (fun hb => ?_) (fun hb => by cases hb)
   (repeat (refine aA q16x6 hX mixed rfl ?_; (simp [go_sem]; try (refine ⟨by kernel_rfl,?_⟩))))
   refine aC (b :=true) (by simp [go_sem]) (fun hb => ?_) (fun hb => by cases hb)
   (repeat (refine aA q16x6 hX mixed rfl ?_; (simp [go_sem]; try (refine ⟨by kernel_rfl,?_⟩))))
   simp [opnd]
 refine aC (b :=false) (by simp [go_sem,h0]) (fun hb => by cases hb) (fun hb => ?_)
 (repeat (refine aA q16x6 hX mixed rfl ?_; (simp [go_sem]; try (refine ⟨by kernel_rfl,?_⟩))))
 by_cases h1 : o = 1
 · subst h1
   refine aC (b :=true) (by simp [go_sem]) (fun hb => ?_) (fun hb => by cases hb)
   (repeat (refine aA q16x6 hX mixed rfl ?_; (simp [go_sem]; try (refine ⟨by kernel_rfl,?_⟩))))
   simp [opnd]
 refine aC (b :=false) (by simp [go_sem,h1]) (fun hb => by cases hb) (fun hb => ?_)
 (repeat (refine aA q16x6 hX mixed rfl ?_; (simp [go_sem]; try (refine ⟨by kernel_rfl,?_⟩))))
 by_cases h2 : o = 12
 · subst h2
   refine aC (b :=true) (by simp [go_sem]) (fun hb => ?_) (fun hb => by cases hb)
   (repeat (refine aA q16x6 hX mixed rfl ?_; (simp [go_sem]; try (refine ⟨by kernel_rfl,?_⟩))))
   simp [opnd]
 refine aC (b :=false) (by simp [go_sem,h2]) (fun hb => by cases hb) (fun hb => ?_)
 (repeat (refine aA q16x6 hX mixed rfl ?_; (simp [go_sem]; try (refine ⟨by kernel_rfl,?_⟩))))
 by_cases h3 : o = 13
 · subst h3
   refine aC (b :=true) (by simp [go_sem]) (fun hb => ?_) (fun hb => by cases hb)
   (repeat (refine aA q16x6 hX mixed rfl ?_; (simp [go_sem]; try (refine ⟨by kernel_rfl,?_⟩))))
   simp [opnd]
 refine aC (b :=false) (by simp [go_sem,h3]) (fun hb => by cases hb) (fun hb => ?_)
 (repeat (refine aA q16x6 hX mixed rfl ?_; (simp [go_sem]; try (refine ⟨by kernel_rfl,?_⟩))))
 refine aC (b :=decide (o < 0) || decide (14 ≤ o)) (by simp [go_sem]) (fun hb => ?_) (fun hb => ?_)
 · simp at hb
   (repeat (refine aA q16x6 hX mixed rfl ?_; (simp [go_sem]; try (refine ⟨by kernel_rfl,?_⟩))))
   simp [opnd,h0,h1,h2,h3,hb]
 · have hb' : ¬ (o < 0 ∨ 14 ≤ o) :=by simpa using hb
   (repeat (refine aA q16x6 hX mixed rfl ?_; (simp [go_sem]; try (refine ⟨by kernel_rfl,?_⟩))))
   simp [opnd,h0,h1,h2,h3,hb']
theorem yK {e : E} (h : okE e) : opnd e.op = e.kids.length :=by
 cases e with
 | num n u => rfl
 | nam s => rfl
 | un a => rfl
 | bin o a b =>
   have h :=h.1
   show opnd o = 2
   unfold opnd
   rw [if_neg (by omega),if_neg (by omega),if_neg (by omega),if_neg (by omega)]
 | ite a b c => rfl
theorem sB {e x : E} (h : okE e) (hx : x ∈ e.kids) : okE x :=by
 cases e <;> simp only [E.kids,List.mem_cons,List.not_mem_nil,or_false] at hx
 · subst hx; exact h
 · rcases hx with rfl | rfl
   · exact h.2.1
   · exact h.2.2
 · rcases hx with rfl | rfl | rfl
   · exact h.1
   · exact h.2.1
   · exact h.2.2
theorem lM {s : By} (h : nameOk s = true) : s.length ≤ 20 :=by
 unfold nameOk at h
 simp only [Bool.and_eq_true] at h
 have h :=h.1
 unfold isWord at h
 split at h
 · simp
 · simp only [Bool.and_eq_true,decide_eq_true_eq] at h
   exact h.1.2
set_option maxHeartbeats 8000000 in
set_option maxRecDepth 20000 in
theorem B9 (d : Nat) (hd : d ≤ 100) (ih : ∀ x,okE x → x.lev ≤ d → Means true Tryz.prog 108 [ex x,ii d] (bb true)) (e : E) (he : okE e) (hl : e.lev ≤ d + 1) :
  Means true Tryz.prog 108 [ex e,ii (d + 1 : Nat)] (bb true) :=by
 have hop :=yK he
 have c1 :=sI e.op
 rw [hop] at c1
 have wd :=w64 (x :=((d + 1 : Nat) : Int) - 1) (by omega) (by omega)
 have e0 : ((d + 1 : Nat) : Int) - 1 = d :=by omega
 have hc : ∀ x ∈ e.kids,MeansH Tryz.prog 137 [.row ⟨3,1,[ii (d + 1 : Nat)]⟩] [ex x,.el 0 1 0 0] (bb ((fun _ : E => false) x)) [.row ⟨3,1,[ii (d + 1 : Nat)]⟩] :=fun x hx => by
  have c2 :=ih x (sB he hx) (by have :=j7 hx; omega)
  have w2 :=w64 (x :=(d : Int)) (by omega) (by omega)
  refine aS 1 9 [.tmp 3] Tryz.func137 rfl rfl rfl (by simp) (by decide) rfl fun X hX => ?_
  (repeat (refine aB q16x9 hX mixed rfl ?_; (simp [go_sem,wd,e0,w2]; try (refine ⟨by kernel_rfl,?_⟩))))
  first | refine aP (c2) ?_ | refine aQ (c2) ?_
  try (simp [go_sem]; try (refine ⟨by kernel_rfl,?_⟩))
  (repeat (refine aB q16x9 hX mixed rfl ?_; (simp [go_sem]; try (refine ⟨by kernel_rfl,?_⟩))))
  refine aK ?_; (try simp only [thenQ,blkQ,loopQ]); refine aJ [(3,bb false),(1000000,.ow 0)] [.old 0 ⟨3,1,[ii (d + 1 : Nat)]⟩] ?_
  simp [go_sem]
 have c3 :=B6 137 3 1 (ii (d + 1 : Nat)) (fun _ => false) e.kids (by cases e <;> simp [E.kids]) rfl hc (by simp [go_sem])
 have hany : (e.kids.any fun _ => false) = false :=by simp
 rw [hany,← gK] at c3
 have hdn : ¬ ((d : Int) + 1 = 0) :=by omega
 cases e with
 | num n u =>
   obtain ⟨h1,h2,h3⟩ :=he
   have c1 : Means true Tryz.prog 135 [ii 0] (ii 0) :=c1
   refine aH true 74 [.tmp 4] Tryz.func108 rfl rfl rfl (by simp) (by decide) rfl fun X hX => ?_
   (repeat (refine aA q16x2 hX mixed rfl ?_; (simp [go_sem,hdn]; try (refine ⟨by kernel_rfl,?_⟩))))
   first | refine aX (fun hg => c1) ?_ | refine aW (fun hg => c1) ?_
   try (simp [go_sem,hdn]; try (refine ⟨by kernel_rfl,?_⟩))
   refine aC (b :=false) (by simp [go_sem,hdn]) (fun hb => by cases hb) (fun hb => ?_)
   (repeat (refine aA q16x2 hX mixed rfl ?_; (simp [go_sem]; try (refine ⟨by kernel_rfl,?_⟩))))
   refine aC (b :=true) (by simp [go_sem]) (fun hb => ?_) (fun hb => by cases hb)
   (repeat (refine aA q16x2 hX mixed rfl ?_; (simp [go_sem]; try (refine ⟨by kernel_rfl,?_⟩))))
   refine aC (b :=decide (u = 0)) (by simp [go_sem]) (fun hu => ?_) (fun hu => ?_)
   · simp at hu
     have :=h3 hu
     subst hu
     (repeat (refine aA q16x2 hX mixed rfl ?_; (simp [go_sem]; try (refine ⟨by kernel_rfl,?_⟩))))
     (try simp); omega
   · simp at hu
     (repeat (refine aA q16x2 hX mixed rfl ?_; (simp [go_sem]; try (refine ⟨by kernel_rfl,?_⟩))))
     (try simp); omega
 | nam s =>
   have c1 : Means true Tryz.prog 135 [ii 1] (ii 0) :=c1
   have c4 :=oW s (by have :=lM he; omega)
   have he : nameOk s = true :=he
   rw [he] at c4
   refine aH true 74 [.tmp 4] Tryz.func108 rfl rfl rfl (by simp) (by decide) rfl fun X hX => ?_
   (repeat (refine aA q16x2 hX mixed rfl ?_; (simp [go_sem,hdn]; try (refine ⟨by kernel_rfl,?_⟩))))
   first | refine aX (fun hg => c1) ?_ | refine aW (fun hg => c1) ?_
   try (simp [go_sem,hdn]; try (refine ⟨by kernel_rfl,?_⟩))
   refine aC (b :=false) (by simp [go_sem,hdn]) (fun hb => by cases hb) (fun hb => ?_)
   (repeat (refine aA q16x2 hX mixed rfl ?_; (simp [go_sem]; try (refine ⟨by kernel_rfl,?_⟩))))
   refine aC (b :=false) (by simp [go_sem]) (fun hb => by cases hb) (fun hb => ?_)
   (repeat (refine aA q16x2 hX mixed rfl ?_; (simp [go_sem]; try (refine ⟨by kernel_rfl,?_⟩))))
   refine aC (b :=false) (by simp [go_sem]) (fun hb => by cases hb) (fun hb => ?_)
   (repeat (refine aA q16x2 hX mixed rfl ?_; (simp [go_sem]; try (refine ⟨by kernel_rfl,?_⟩))))
   refine aC (b :=true) (by simp [go_sem]) (fun hb => ?_) (fun hb => by cases hb)
   (repeat (refine aA q16x2 hX mixed rfl ?_; (simp [go_sem]; try (refine ⟨by kernel_rfl,?_⟩))))
   first | refine aP (c4) ?_ | refine aQ (c4) ?_
   try (simp [go_sem]; try (refine ⟨by kernel_rfl,?_⟩))
   (repeat (refine aA q16x2 hX mixed rfl ?_; (simp [go_sem]; try (refine ⟨by kernel_rfl,?_⟩))))
 | un a =>
   have c1 : Means true Tryz.prog 135 [ii 12] (ii 1) :=c1
   simp only [E.args_un] at c3
   refine aH true 74 [.tmp 4] Tryz.func108 rfl rfl rfl (by simp) (by decide) rfl fun X hX => ?_
   (repeat (refine aA q16x2 hX mixed rfl ?_; (simp [go_sem,hdn]; try (refine ⟨by kernel_rfl,?_⟩))))
   first | refine aX (fun hg => c1) ?_ | refine aW (fun hg => c1) ?_
   try (simp [go_sem,hdn]; try (refine ⟨by kernel_rfl,?_⟩))
   refine aC (b :=false) (by simp [go_sem,hdn]) (fun hb => by cases hb) (fun hb => ?_)
   (repeat (refine aA q16x2 hX mixed rfl ?_; (simp [go_sem,hdn]; try (refine ⟨by kernel_rfl,?_⟩))))
   refine aC (b :=false) (by simp [go_sem]) (fun hb => by cases hb) (fun hb => ?_)
   (repeat (refine aA q16x2 hX mixed rfl ?_; (simp [go_sem,hdn]; try (refine ⟨by kernel_rfl,?_⟩))))
   refine aC (b :=false) (by simp [go_sem]) (fun hb => by cases hb) (fun hb => ?_)
   (repeat (refine aA q16x2 hX mixed rfl ?_; (simp [go_sem,hdn]; try (refine ⟨by kernel_rfl,?_⟩))))
   refine aC (b :=false) (by simp [go_sem]) (fun hb => by cases hb) (fun hb => ?_)
   (repeat (refine aA q16x2 hX mixed rfl ?_; (simp [go_sem]; try (refine ⟨by kernel_rfl,?_⟩))))
   first | refine bA [1] (fun hg => c3) (by simp [go_sem]) (by simp [go_sem]) ?_ | refine bD [1] (by simp [go_sem]) (c3) (by simp [go_sem]) ?_ | refine bC [1] (fun hg => c3) (by simp [go_sem]) ?_
   try (simp [go_sem]; try (refine ⟨by kernel_rfl,?_⟩))
   (repeat (refine aA q16x2 hX mixed rfl ?_; (simp [go_sem]; try (refine ⟨by kernel_rfl,?_⟩))))
 | bin o a b =>
   have ho :=he.1
   have h0 : ¬ o = 0 :=by omega
   have h1 : ¬ o = 1 :=by omega
   have c1 : Means true Tryz.prog 135 [ii o] (ii 2) :=c1
   simp only [E.args_bin] at c3
   refine aH true 74 [.tmp 4] Tryz.func108 rfl rfl rfl (by simp) (by decide) rfl fun X hX => ?_
   (repeat (refine aA q16x2 hX mixed rfl ?_; (simp [go_sem,hdn,h0,h1]; try (refine ⟨by kernel_rfl,?_⟩))))
   first | refine aX (fun hg => c1) ?_ | refine aW (fun hg => c1) ?_
   try (simp [go_sem,hdn,h0,h1]; try (refine ⟨by kernel_rfl,?_⟩))
   refine aC (b :=false) (by simp [go_sem,hdn]) (fun hb => by cases hb) (fun hb => ?_)
   (repeat (refine aA q16x2 hX mixed rfl ?_; (simp [go_sem,hdn,h0,h1]; try (refine ⟨by kernel_rfl,?_⟩))))
   refine aC (b :=false) (by simp [go_sem,h0,h1]) (fun hb => by cases hb) (fun hb => ?_)
   (repeat (refine aA q16x2 hX mixed rfl ?_; (simp [go_sem,hdn,h0,h1]; try (refine ⟨by kernel_rfl,?_⟩))))
   refine aC (b :=false) (by simp [go_sem]) (fun hb => by cases hb) (fun hb => ?_)
   (repeat (refine aA q16x2 hX mixed rfl ?_; (simp [go_sem,hdn,h0,h1]; try (refine ⟨by kernel_rfl,?_⟩))))
   refine aC (b :=false) (by simp [go_sem,h0,h1]) (fun hb => by cases hb) (fun hb => ?_)
   (repeat (refine aA q16x2 hX mixed rfl ?_; (simp [go_sem]; try (refine ⟨by kernel_rfl,?_⟩))))
   first | refine bA [1] (fun hg => c3) (by simp [go_sem]) (by simp [go_sem]) ?_ | refine bD [1] (by simp [go_sem]) (c3) (by simp [go_sem]) ?_ | refine bC [1] (fun hg => c3) (by simp [go_sem]) ?_
   try (simp [go_sem]; try (refine ⟨by kernel_rfl,?_⟩))
   (repeat (refine aA q16x2 hX mixed rfl ?_; (simp [go_sem]; try (refine ⟨by kernel_rfl,?_⟩))))
 | ite a b c =>
   have c1 : Means true Tryz.prog 135 [ii 13] (ii 3) :=c1
   simp only [E.args_ite] at c3
   refine aH true 74 [.tmp 4] Tryz.func108 rfl rfl rfl (by simp) (by decide) rfl fun X hX => ?_
   (repeat (refine aA q16x2 hX mixed rfl ?_; (simp [go_sem,hdn]; try (refine ⟨by kernel_rfl,?_⟩))))
   first | refine aX (fun hg => c1) ?_ | refine aW (fun hg => c1) ?_
   try (simp [go_sem,hdn]; try (refine ⟨by kernel_rfl,?_⟩))
   refine aC (b :=false) (by simp [go_sem,hdn]) (fun hb => by cases hb) (fun hb => ?_)
   (repeat (refine aA q16x2 hX mixed rfl ?_; (simp [go_sem,hdn]; try (refine ⟨by kernel_rfl,?_⟩))))
   refine aC (b :=false) (by simp [go_sem]) (fun hb => by cases hb) (fun hb => ?_)
   (repeat (refine aA q16x2 hX mixed rfl ?_; (simp [go_sem,hdn]; try (refine ⟨by kernel_rfl,?_⟩))))
   refine aC (b :=false) (by simp [go_sem]) (fun hb => by cases hb) (fun hb => ?_)
   (repeat (refine aA q16x2 hX mixed rfl ?_; (simp [go_sem,hdn]; try (refine ⟨by kernel_rfl,?_⟩))))
   refine aC (b :=false) (by simp [go_sem]) (fun hb => by cases hb) (fun hb => ?_)
   (repeat (refine aA q16x2 hX mixed rfl ?_; (simp [go_sem]; try (refine ⟨by kernel_rfl,?_⟩))))
   first | refine bA [1] (fun hg => c3) (by simp [go_sem]) (by simp [go_sem]) ?_ | refine bD [1] (by simp [go_sem]) (c3) (by simp [go_sem]) ?_ | refine bC [1] (fun hg => c3) (by simp [go_sem]) ?_
   try (simp [go_sem]; try (refine ⟨by kernel_rfl,?_⟩))
   (repeat (refine aA q16x2 hX mixed rfl ?_; (simp [go_sem]; try (refine ⟨by kernel_rfl,?_⟩))))
theorem uA : ∀ (d : Nat),d ≤ 100 → ∀ e,okE e → e.lev ≤ d → Means true Tryz.prog 108 [ex e,ii d] (bb true)
 | 0,_,e,_,hl => by have :=sH e; omega
 | d + 1,hd,e,he,hl => B9 d (by omega) (uA d (by omega)) e he hl
theorem cO (e : E) (he : OkE e) : Means true Tryz.prog 69 [ex e] (bb true) :=by
 have c1 :=uA 12 (by omega) e he.1 he.2
 refine aH true 5 [.tmp 2] Tryz.func69 rfl rfl rfl (by simp) (by decide) rfl fun X hX => ?_
 (repeat (refine aA [0,1,2] hX mixed rfl ?_; (simp [go_sem]; try (refine ⟨by kernel_rfl,?_⟩))))
 first | refine aP (c1) ?_ | refine aQ (c1) ?_
 try (simp [go_sem]; try (refine ⟨by kernel_rfl,?_⟩))
 (repeat (refine aA [0,1,2] hX mixed rfl ?_; (simp [go_sem]; try (refine ⟨by kernel_rfl,?_⟩))))
end Go.Proofs.YtaolljbpencjnaaGreatDoor

namespace Go.Proofs.YtaolljbpencjnaaGreatDoor
open Go.RowKit Go.Ab
attribute [local irreducible] AWP Go.Ab.Sub Means MeansH CallK CallG CallT CallGT PanicH DefH
theorem BA (a b n : Int) : MeansH Tryz.prog 107 [.row ⟨3,1,[ii a]⟩,.row ⟨3,1,[ii b]⟩] [ii n,.el 0 1 0 0,.el 1 1 0 0] (bb (decide (n < a) || decide (b < n))) [.row ⟨3,1,[ii a]⟩,.row ⟨3,1,[ii b]⟩] :=by
 refine aS 2 13 [.tmp 4] Tryz.func107 rfl rfl rfl (by simp) (by decide) rfl fun X hX => ?_
 (repeat (refine aB [0,1,2,4,1000000,1000001] hX mixed rfl ?_; (simp [go_sem]; try (refine ⟨by kernel_rfl,?_⟩))))
 refine aK ?_; (try simp only [thenQ,blkQ,loopQ]); refine aJ [(4,bb (decide (n < a) || decide (b < n))),(1000000,.ow 0),(1000001,.ow 1)] [.old 0 ⟨3,1,[ii a]⟩,.old 1 ⟨3,1,[ii b]⟩] ?_
 simp [go_sem]
theorem yL (a b : Int) (l : List Int) (hl : l.length ≤ 100) (h : ∀ n ∈ l,a ≤ n ∧ n ≤ b) : Means true Tryz.prog 68 [ii a,ii b,il l] (bb true) :=by
 have c1 :=B4 107 3 1 (ii a) 3 1 (ii b) (fun n => decide (n < a) || decide (b < n)) l (by omega) rfl rfl (fun n _ => BA a b n) (by simp [go_sem])
 have e : (l.any fun n => decide (n < a) || decide (b < n)) = false :=by
  rw [List.any_eq_false]
  intro n hn
  have :=h n hn
  simp; omega
 rw [e] at c1
 refine aH true 11 [.tmp 6] Tryz.func68 rfl rfl rfl (by simp) (by decide) rfl fun X hX => ?_
 (repeat (refine aA [0,1,2,3,4,6] hX mixed rfl ?_; (simp [go_sem]; try (refine ⟨by kernel_rfl,?_⟩))))
 first | refine aF [0,1] (c1) (by simp [go_sem]) ?_ | refine aD [0,1] (c1) (by simp [go_sem]) ?_ | refine aE [0,1] (c1) (by simp [go_sem]) ?_
 try (simp [go_sem]; try (refine ⟨by kernel_rfl,?_⟩))
 (repeat (refine aA [0,1,2,3,4,6] hX mixed rfl ?_; (simp [go_sem]; try (refine ⟨by kernel_rfl,?_⟩))))
theorem CX (l x : By × E) : MeansH Tryz.prog 70 [.row ⟨93,6,[lt l]⟩] [lt x,.el 0 6 0 0] (bb (decide (x.1 = l.1))) [.row ⟨93,6,[lt l]⟩] :=by
 refine aS 1 9 [.tmp 3] Tryz.func70 rfl rfl rfl (by simp) (by decide) rfl fun X hX => ?_
 (repeat (refine aB q16x9 hX mixed rfl ?_; (simp [go_sem]; try (refine ⟨by kernel_rfl,?_⟩))))
 refine aK ?_; (try simp only [thenQ,blkQ,loopQ]); refine aJ [(3,bb (decide (x.1 = l.1))),(1000000,.ow 0)] [.old 0 ⟨93,6,[lt l]⟩] ?_
 simp [go_sem]
set_option maxHeartbeats 8000000 in
set_option maxRecDepth 20000 in
theorem fY (b : Bl) (h : OkB b) : Means true Tryz.prog 34 [bl b] (bb true) :=by
 have d1 :=yL 0 2 [b.kind] (by simp) (by simpa using h.kind)
 have d2 :=yL 0 2 [b.order] (by simp) (by simpa using h.order)
 have d3 :=yL 1 1000 [b.period,b.last] (by simp) (by simp; exact ⟨h.period,h.last⟩)
 have d4 :=yL 0 1000 [b.grace,b.wait,b.voices,b.fund] (by simp) (by simp; exact ⟨h.grace,h.wait,h.voices,h.fund⟩)
 have d5 :=yL 0 60 [b.backs,b.jury] (by simp) (by simp; exact ⟨h.backs,h.jury⟩)
 have f1 :=cO b.due h.due
 have f2 :=cO b.fine h.fine
 have f3 :=cO b.pay h.pay
 have f4 :=cO b.cover h.cover
 have f5 :=cO b.hold h.hold
 have hlen :=h.lets.len
 refine aH true 111 [.tmp 2] Tryz.func34 rfl rfl rfl (by simp) (by decide) rfl fun X hX => ?_
 (repeat (refine aA q16x5 hX mixed rfl ?_; (simp [go_sem]; try (refine ⟨by kernel_rfl,?_⟩))))
 first | refine aP (d1) ?_ | refine aQ (d1) ?_
 try (simp [go_sem]; try (refine ⟨by kernel_rfl,?_⟩))
 first | refine aX (fun hg => d2) ?_ | refine aW (fun hg => d2) ?_
 try (simp [go_sem]; try (refine ⟨by kernel_rfl,?_⟩))
 first | refine aX (fun hg => d3) ?_ | refine aW (fun hg => d3) ?_
 try (simp [go_sem]; try (refine ⟨by kernel_rfl,?_⟩))
 first | refine aX (fun hg => d4) ?_ | refine aW (fun hg => d4) ?_
 try (simp [go_sem]; try (refine ⟨by kernel_rfl,?_⟩))
 first | refine aX (fun hg => d5) ?_ | refine aW (fun hg => d5) ?_
 try (simp [go_sem]; try (refine ⟨by kernel_rfl,?_⟩))
 (repeat (refine aA q16x5 hX mixed rfl ?_; (simp [go_sem]; try (refine ⟨by kernel_rfl,?_⟩))))
 refine ⟨fun _ => by cases hs : b.sld with | false => exact .inl rfl | true => exact .inr (h.sld hs),?_⟩
 refine aC (b :=false) (by
  simp [go_sem]
  exact ⟨fun hs => h.sld hs,by omega⟩) (fun hb => by cases hb) (fun hb => ?_)
 (repeat (refine aA q16x5 hX mixed rfl ?_; (simp [go_sem]; try (refine ⟨by kernel_rfl,?_⟩))))
 refine aV (fun n : Nat => ⟨mkE [(1,.el 0 37 0 0),(62,.sl (b.lets.map lt)),(63,ii b.lets.length),(64,ii n)],[.row ⟨31,37,[bl b]⟩]⟩) (fun n => n ≤ b.lets.length) (fun n => b.lets.length - n) 0 ?_ ?_ ?_
 · refine aM _ [.old 0 ⟨31,37,[bl b]⟩] (by simp [go_sem]) ?_
   simp [go_sem]
 · exact Nat.zero_le _
 · intro n hn
   (repeat (refine aA q16x5 hX mixed rfl ?_; (simp [go_sem]; try (refine ⟨by kernel_rfl,?_⟩))))
   refine aC (b :=decide (n < b.lets.length)) (by simp [go_sem]) (fun hc => ?_) (fun hc => ?_)
   · simp at hc
     have hq :=fF hc
     have wk :=w64 (x :=(n : Int) + 1) (by omega) (by omega)
     have hm : b.lets[n] ∈ b.lets :=List.getElem_mem hc
     have hnm :=h.lets.nam _ hm
     have g1 :=oW b.lets[n].1 (by have :=lM hnm; omega)
     rw [hnm] at g1
     have g2 :=cO b.lets[n].2 (h.lets.exp _ hm)
     have g3 :=B8 70 93 6 (lt b.lets[n]) (fun x => decide (x.1 = b.lets[n].1)) (b.lets.take n) (by rw [List.length_take]; omega) rfl (fun x _ => CX b.lets[n] x) (by simp [go_sem])
     have hany : ((b.lets.take n).any fun x => decide (x.1 = b.lets[n].1)) = false :=by
      rw [List.any_eq_false]
      intro x hx
      obtain ⟨k,hk,rfl⟩ :=List.getElem_of_mem hx
      rw [List.length_take] at hk
      rw [List.getElem_take]
      simpa using h.lets.two k n (by omega) hc (by omega)
     rw [hany,List.map_take] at g3
     generalize b.lets[n] = x at hq g1 g2 g3 hnm
     have hc2 : n ≤ b.lets.length :=by omega
     (repeat (refine aA q16x5 hX mixed rfl ?_; (simp [go_sem,hc,hq]; try (refine ⟨by kernel_rfl,?_⟩))))
     first | refine aP (g1) ?_ | refine aQ (g1) ?_
     try (simp [go_sem]; try (refine ⟨by kernel_rfl,?_⟩))
     first | refine aX (fun hg => g2) ?_ | refine aW (fun hg => g2) ?_
     try (simp [go_sem,hc2]; try (refine ⟨by kernel_rfl,?_⟩))
     refine ⟨fun e x y _ he => by subst he; rfl,?_⟩
     refine bA [1] (fun hg => g3) (by simp [go_sem]) (by simp [go_sem]) ?_
     try (simp [go_sem]; try (refine ⟨by kernel_rfl,?_⟩))
     refine aC (b :=false) (by simp [go_sem]) (fun hb => by cases hb) (fun hb => ?_)
     (repeat (refine aA q16x5 hX mixed rfl ?_; (simp [go_sem,wk]; try (refine ⟨by kernel_rfl,?_⟩))))
     refine ⟨n + 1,by omega,by omega,?_⟩
     refine aM _ [.old 0 ⟨31,37,[bl b]⟩] (by simp [go_sem]) ?_
     simp [go_sem]
   · simp at hc
     (repeat (refine aA q16x5 hX mixed rfl ?_; (simp [go_sem]; try (refine ⟨by kernel_rfl,?_⟩))))
     first | refine aP (f1) ?_ | refine aQ (f1) ?_
     try (simp [go_sem]; try (refine ⟨by kernel_rfl,?_⟩))
     first | refine aX (fun hg => f2) ?_ | refine aW (fun hg => f2) ?_
     try (simp [go_sem]; try (refine ⟨by kernel_rfl,?_⟩))
     first | refine aX (fun hg => f3) ?_ | refine aW (fun hg => f3) ?_
     try (simp [go_sem]; try (refine ⟨by kernel_rfl,?_⟩))
     first | refine aX (fun hg => f4) ?_ | refine aW (fun hg => f4) ?_
     try (simp [go_sem]; try (refine ⟨by kernel_rfl,?_⟩))
     first | refine aX (fun hg => f5) ?_ | refine aW (fun hg => f5) ?_
     try (simp [go_sem]; try (refine ⟨by kernel_rfl,?_⟩))
     (repeat (refine aA q16x5 hX mixed rfl ?_; (simp [go_sem]; try (refine ⟨by kernel_rfl,?_⟩))))
end Go.Proofs.YtaolljbpencjnaaGreatDoor

namespace Go.Proofs.YtaolljbpencjnaaGreatDoor
structure Mn where
 u : Int :=0
 e : Int :=0
 sh : Bool :=false
 deriving DecidableEq
def only (l : List Int) (u : Int) : Bool :=!l.any fun x => !decide (x = u)
def prodU (a b : Int) : Int × Bool :=
 if a = 0 ∨ b = 0 then (0,false) else if a = 4 then (b,true) else if b = 4 then (a,true) else if a = 1 then (b,true) else if b = 1 then (a,true) else (0,false)
def combU (op : Int) (l : List Int) : Int × Bool :=
 if op = 2 ∨ op = 3 ∨ op = 6 ∨ op = 7 then (l.getD 0 0,only l (l.getD 0 0) && !decide (l.getD 0 0 = 0))
 else if op = 4 then prodU (l.getD 0 0) (l.getD 1 0)
 else if op = 5 then (if l.getD 1 0 = 1 then (l.getD 0 0,!decide (l.getD 0 0 = 0) && !decide (l.getD 0 0 = 4)) else (1,only l (l.getD 0 0) && (decide (l.getD 0 0 = 3) || decide (l.getD 0 0 = 2))))
 else if op = 8 then (0,only l (l.getD 0 0) && !decide (l.getD 0 0 = 0))
 else if op = 9 then (0,only l (l.getD 0 0))
 else if op = 13 then (l.getD 1 0,decide (l.getD 0 0 = 0) && decide (l.getD 1 0 = l.getD 2 0))
 else (0,only l 0)
def finU (op : Int) (l : List Int) : Int × Int :=if (combU op l).2 then ((combU op l).1,0) else (0,14)
def nameU (g : List (By × Int)) (d : List (By × Mn)) (s : By) : Int × Int :=match g.lookup s with
 | some u => (u,0)
 | none => match d.lookup s with
   | some m => (m.u,m.e)
   | none => (0,13)
def unitU (g : List (By × Int)) (d : List (By × Mn)) : E → Int × Int
 | .num _ u => (u,0)
 | .nam s => nameU g d s
 | .un a => if (unitU g d a).2 = 0 then finU 12 [(unitU g d a).1] else (0,(unitU g d a).2)
 | .bin o a b => if (unitU g d a).2 = 0 then (if (unitU g d b).2 = 0 then finU o [(unitU g d a).1,(unitU g d b).1] else (0,(unitU g d b).2)) else (0,(unitU g d a).2)
 | .ite a b c => if (unitU g d a).2 = 0 then (if (unitU g d b).2 = 0 then (if (unitU g d c).2 = 0 then finU 13 [(unitU g d a).1,(unitU g d b).1,(unitU g d c).1] else (0,(unitU g d c).2)) else (0,(unitU g d b).2)) else (0,(unitU g d a).2)
def nameS (d : List (By × Mn)) (s : By) : Bool :=match d.lookup s with
 | some m => m.sh
 | none => false
def shareU (d : List (By × Mn)) : E → Bool
 | .num _ u => decide (u = 4)
 | .nam s => nameS d s
 | .un _ => false
 | .bin o a b => if o = 2 ∨ o = 3 ∨ o = 6 ∨ o = 7 then shareU d a else if o = 4 then shareU d a && shareU d b else false
 | .ite _ b _ => shareU d b
def givU : List (By × Int) → List (By × Int) → List (By × Int)
 | g,[] => g
 | g,v :: l => givU (match g.lookup v.1 with
   | some _ => g
   | none => g ++ [v]) l
def letsU (g : List (By × Int)) : List (By × Mn) → List (By × E) → List (By × Mn)
 | d,[] => d
 | d,x :: l => letsU g (d ++ [(x.1,⟨(unitU g d x.2).1,(unitU g d x.2).2,shareU d x.2⟩)]) l
def unitOf (g : List (By × Int)) (l : List (By × E)) (e : E) : Int × Int :=unitU (givU [] g) (letsU (givU [] g) [] l) e
def shareOf (l : List (By × E)) (e : E) : Bool :=shareU (letsU [] [] l) e
def vMem : By × Int :=([109,101,109,98,101,114,115],1)
def vPer : By × Int :=([112,101,114,105,111,100],1)
def vLas : By × Int :=([108,97,115,116],1)
def vAge : By × Int :=([97,103,101],2)
def gDue : List (By × Int) :=[vMem,vPer,vLas,vAge]
def gFine : List (By × Int) :=([108,97,116,101],2) :: gDue
def gPay : List (By × Int) :=[([112,111,116],3),([98,105,100],3),vMem,vPer]
def gCov : List (By × Int) :=[([112,97,105,100],3),([99,108,97,105,109,115],1),vAge,vMem]
def gHold : List (By × Int) :=[vMem,([104,111,108,100,115],3)]
def gAll : List (By × List (By × Int)) :=[([100,117,101],gDue),([102,105,110,101],gFine),([112,97,121],gPay),([99,111,118,101,114],gCov),([104,111,108,100],gHold)]
def inG (s : By) : Bool :=gAll.any fun p => p.2.any fun v => decide (v.1 = s)
def ofClause (l : List (By × E)) (g : List (By × Int)) (e : E) : Int :=if (unitOf g l e).2 = 0 then (if (unitOf g l e).1 = 3 then 0 else 14) else (unitOf g l e).2
def firstBad : List (By × Int) → By × Int
 | [] => ([],0)
 | (s,e) :: l => if e = 0 then firstBad l else (s,e)
def unitsU (b : Bl) : By × Int :=match b.lets.find? fun l => inG l.1 with
 | some l => (l.1,5)
 | none => firstBad [([100,117,101],ofClause b.lets gDue b.due),([102,105,110,101],ofClause b.lets gFine b.fine),([112,97,121],ofClause b.lets gPay b.pay),([99,111,118,101,114],ofClause b.lets gCov b.cover),([104,111,108,100],ofClause b.lets gHold b.hold)]
end Go.Proofs.YtaolljbpencjnaaGreatDoor

namespace Go.Proofs.YtaolljbpencjnaaGreatDoor
open Go.RowKit Go.Ab
attribute [local irreducible] AWP Go.Ab.Sub Means MeansH CallK CallG CallT CallGT PanicH DefH
set_option maxHeartbeats 4000000 in
theorem BB (f : FuncId) (E0 k0 : Nat) (c0 : AV) (p : Int → Bool) (L : List Int) (hl : L.length ≤ 100000) (hz0 : c0.flat.all AV.zone = true) (hf : ∀ x ∈ L,MeansH Tryz.prog f [.row ⟨E0,k0,[c0]⟩] [ii x,.el 0 k0 0 0] (bb (p x)) [.row ⟨E0,k0,[c0]⟩]) (hcall : callable Tryz.prog f = true) :
  MeansH Tryz.prog 66 [.row ⟨E0,k0,[c0]⟩] [.sl (L.map ii),.fn f [] [.el 0 k0 0 0]] (ii (match L.findIdx? p with | some n => (n : Int) | none => -1)) [.row ⟨E0,k0,[c0]⟩] :=by
 have hy0 : ∀ x ∈ c0.flat,x.zone = true :=by simpa using hz0
 refine aS 1 19 [.tmp 4] Tryz.func66 rfl rfl rfl (by simp) (by decide) rfl fun X hX => ?_
 (repeat (refine aB q16x3 hX mixed rfl ?_; (simp [go_sem]; try (refine ⟨by kernel_rfl,?_⟩))))
 refine aV (fun n : Nat => ⟨mkE [(0,.sl (L.map ii)),(1,.fn f [] [.el 0 k0 0 0]),(7,ii L.length),(8,ii n),(1000000,.ow 0)],[.row ⟨E0,k0,[c0]⟩]⟩) (fun n => n ≤ L.length ∧ ∀ k (h : k < L.length),k < n → p L[k] = false) (fun n => L.length - n) 0 ?_ ?_ ?_
 · refine aM _ [.old 0 ⟨E0,k0,[c0]⟩] (by simp [go_sem,hz0,hy0]) ?_
   simp [go_sem,hz0,hy0]
 · exact ⟨Nat.zero_le _,fun k h hk => absurd hk (by omega)⟩
 · rintro n ⟨h1,h2⟩
   (repeat (refine aB q16x3 hX mixed rfl ?_; (simp [go_sem]; try (refine ⟨by kernel_rfl,?_⟩))))
   refine aC (b :=decide (n < L.length)) (by simp [go_sem]) (fun hc => ?_) (fun hc => ?_)
   · simp at hc
     have hq :=oX hc
     have wk :=w64 (x :=(n : Int) + 1) (by omega) (by omega)
     (repeat (refine aB q16x3 hX mixed rfl ?_; (simp [go_sem,hc,hq,hcall]; try (refine ⟨by kernel_rfl,?_⟩))))
     refine aF [0] (hf L[n] (List.getElem_mem hc)) (by simp [go_sem,hz0,hy0]) ?_
     try (simp [go_sem,hz0]; try (refine ⟨by kernel_rfl,?_⟩))
     refine aC (b :=p L[n]) (by simp [go_sem]) (fun hs => ?_) (fun hs => ?_)
     · have e1 : L.findIdx? p = some n :=by
        rw [List.findIdx?_eq_some_iff_getElem]
        exact ⟨hc,hs,fun k hk => by rw [h2 k (by omega) hk]; simp⟩
       rw [e1]
       (repeat (refine aB q16x3 hX mixed rfl ?_; (simp [go_sem]; try (refine ⟨by kernel_rfl,?_⟩))))
       refine aK ?_; (try simp only [thenQ,blkQ,loopQ]); refine aJ [(4,ii n),(1000000,.ow 0)] [.old 0 ⟨E0,k0,[c0]⟩] ?_
       simp [go_sem,hz0,hy0]
     · (repeat (refine aB q16x3 hX mixed rfl ?_; (simp [go_sem,wk]; try (refine ⟨by kernel_rfl,?_⟩))))
       refine ⟨n + 1,⟨by omega,fun k h hk => ?_⟩,by omega,?_⟩
       · by_cases e : k = n
         · subst e; exact hs
         · exact h2 k h (by omega)
       · refine aM _ [.old 0 ⟨E0,k0,[c0]⟩] (by simp [go_sem,hz0,hy0]) ?_
         simp [go_sem,hz0,hy0]
   · simp at hc
     have e1 : L.findIdx? p = none :=by
      rw [List.findIdx?_eq_none_iff]
      intro x hx
      obtain ⟨k,hk,rfl⟩ :=List.getElem_of_mem hx
      exact h2 k hk (by omega)
     rw [e1]
     (repeat (refine aB q16x3 hX mixed rfl ?_; (simp [go_sem]; try (refine ⟨by kernel_rfl,?_⟩))))
     refine aK ?_; (try simp only [thenQ,blkQ,loopQ]); refine aJ [(4,ii (-1)),(1000000,.ow 0)] [.old 0 ⟨E0,k0,[c0]⟩] ?_
     simp [go_sem,hz0,hy0]
theorem BC (f : FuncId) (E0 k0 : Nat) (c0 : AV) (p : Int → Bool) (L : List Int) (hl : L.length ≤ 100000) (hz0 : c0.flat.all AV.zone = true) (hf : ∀ x ∈ L,MeansH Tryz.prog f [.row ⟨E0,k0,[c0]⟩] [ii x,.el 0 k0 0 0] (bb (p x)) [.row ⟨E0,k0,[c0]⟩]) (hcall : callable Tryz.prog f = true) :
  MeansH Tryz.prog 30 [.row ⟨E0,k0,[c0]⟩] [.sl (L.map ii),.fn f [] [.el 0 k0 0 0]] (bb (L.any p)) [.row ⟨E0,k0,[c0]⟩] :=by
 have hy0 : ∀ x ∈ c0.flat,x.zone = true :=by simpa using hz0
 have hI :=BB f E0 k0 c0 p L hl hz0 hf hcall
 refine aS 1 9 [.tmp 4] Tryz.func30 rfl rfl rfl (by simp) (by decide) rfl fun X hX => ?_
 (repeat (refine aB q16x8 hX mixed rfl ?_; (simp [go_sem]; try (refine ⟨by kernel_rfl,?_⟩))))
 refine aF [0] hI (by simp [go_sem,hz0,hy0]) ?_
 try (simp [go_sem,hz0]; try (refine ⟨by kernel_rfl,?_⟩))
 have e : decide (0 ≤ (match L.findIdx? p with | some n => (n : Int) | none => -1)) = L.any p :=by
  cases hf : L.findIdx? p with
  | none =>
    have : L.any p = false :=by
     rw [List.any_eq_false]
     intro x hx
     rw [List.findIdx?_eq_none_iff.1 hf x hx]; simp
    rw [this]; rfl
  | some n =>
    obtain ⟨h1,h2,_⟩ :=List.findIdx?_eq_some_iff_getElem.1 hf
    have : L.any p = true :=List.any_eq_true.2 ⟨L[n],List.getElem_mem h1,h2⟩
    rw [this]
    simp
 rw [← e]
 (repeat (refine aB q16x8 hX mixed rfl ?_; (simp [go_sem]; try (refine ⟨by kernel_rfl,?_⟩))))
 refine aK ?_; (try simp only [thenQ,blkQ,loopQ]); refine aJ [(4,bb (decide (0 ≤ (match L.findIdx? p with | some n => (n : Int) | none => -1)))),(1000000,.ow 0)] [.old 0 ⟨E0,k0,[c0]⟩] ?_
 simp [go_sem,hz0,hy0]
theorem CY (a b : Int) : Means true Tryz.prog 144 [ii a,ii b] (.tup [ii (prodU a b).1,bb (prodU a b).2]) :=by
 refine aH true 29 [.tmp 4,.tmp 5] Tryz.func144 rfl rfl rfl (by simp) (by decide) rfl fun X hX => ?_
 (repeat (refine aA q16x4 hX mixed rfl ?_; (simp [go_sem]; try (refine ⟨by kernel_rfl,?_⟩))))
 refine aC (b :=decide (a = 0) || decide (b = 0)) (by simp [go_sem]) (fun hb => ?_) (fun hb => ?_)
 · simp only [Bool.or_eq_true,decide_eq_true_eq] at hb
   have e : prodU a b = (0,false) :=by simp [prodU,hb]
   rw [e]
   (repeat (refine aA q16x4 hX mixed rfl ?_; (simp [go_sem]; try (refine ⟨by kernel_rfl,?_⟩))))
 have h0 : ¬ (a = 0 ∨ b = 0) :=by simpa using hb
 (repeat (refine aA q16x4 hX mixed rfl ?_; (simp [go_sem]; try (refine ⟨by kernel_rfl,?_⟩))))
 refine aV (fun n : Nat => ⟨mkE [(0,ii a),(1,ii b),(14,.sl [ii 4,ii 1]),(15,ii 2),(16,ii n)],[]⟩) (fun n => n ≤ 2 ∧ (0 < n → ¬ a = 4 ∧ ¬ b = 4) ∧ (1 < n → ¬ a = 1 ∧ ¬ b = 1)) (fun n => 2 - n) 0 ?_ ?_ ?_
 · refine aM _ [] (by simp [go_sem]) ?_
   simp [go_sem]
 · simp
 · rintro n ⟨hn,h1,h2⟩
   (repeat (refine aA q16x4 hX mixed rfl ?_; (simp [go_sem]; try (refine ⟨by kernel_rfl,?_⟩))))
   refine aC (b :=decide (n < 2)) (by simp [go_sem]; omega) (fun hc => ?_) (fun hc => ?_)
   · simp at hc
     have wk :=w64 (x :=(n : Int) + 1) (by omega) (by omega)
     obtain ⟨q,hq,hq1⟩ : ∃ q : Int,nth [ii 4,ii 1] n = ii q ∧ (n = 0 ∧ q = 4 ∨ n = 1 ∧ q = 1) :=by
      obtain rfl | rfl : n = 0 ∨ n = 1 :=by omega
      · exact ⟨4,rfl,.inl ⟨rfl,rfl⟩⟩
      · exact ⟨1,rfl,.inr ⟨rfl,rfl⟩⟩
     have hc2 : (n : Int) < 2 :=by omega
     (repeat (refine aA q16x4 hX mixed rfl ?_; (simp [go_sem,hc,hc2,hq]; try (refine ⟨by kernel_rfl,?_⟩))))
     refine aC (b :=decide (a = q)) (by simp [go_sem]) (fun hd => ?_) (fun hd => ?_)
     · simp at hd
       have e : prodU a b = (b,true) :=by
        rcases hq1 with ⟨rfl,rfl⟩ | ⟨rfl,rfl⟩
        · subst hd
          simp only [prodU]; rw [if_neg h0]; simp
        · subst hd
          have :=h1 (by omega)
          simp only [prodU]; rw [if_neg h0]; simp [this]
       rw [e]
       (repeat (refine aA q16x4 hX mixed rfl ?_; (simp [go_sem]; try (refine ⟨by kernel_rfl,?_⟩))))
     · simp at hd
       (repeat (refine aA q16x4 hX mixed rfl ?_; (simp [go_sem]; try (refine ⟨by kernel_rfl,?_⟩))))
       refine aC (b :=decide (b = q)) (by simp [go_sem]) (fun he => ?_) (fun he => ?_)
       · simp at he
         have e : prodU a b = (a,true) :=by
          rcases hq1 with ⟨rfl,rfl⟩ | ⟨rfl,rfl⟩
          · subst he
            simp only [prodU]; rw [if_neg h0]; simp [hd]
          · subst he
            have :=h1 (by omega)
            simp only [prodU]; rw [if_neg h0]; simp [this,hd]
         rw [e]
         (repeat (refine aA q16x4 hX mixed rfl ?_; (simp [go_sem]; try (refine ⟨by kernel_rfl,?_⟩))))
       · simp at he
         (repeat (refine aA q16x4 hX mixed rfl ?_; (simp [go_sem,wk]; try (refine ⟨by kernel_rfl,?_⟩))))
         refine ⟨n + 1,⟨by omega,fun _ => ?_,fun _ => ?_⟩,by omega,?_⟩
         · rcases hq1 with ⟨rfl,rfl⟩ | ⟨rfl,rfl⟩
           · exact ⟨hd,he⟩
           · exact h1 (by omega)
         · rcases hq1 with ⟨rfl,rfl⟩ | ⟨rfl,rfl⟩
           · omega
           · exact ⟨hd,he⟩
         · refine aM _ [] (by simp [go_sem]) ?_
           simp [go_sem]
   · simp at hc
     have e1 :=h1 (by omega)
     have e2 :=h2 (by omega)
     have e : prodU a b = (0,false) :=by
      simp only [prodU]; rw [if_neg h0]; simp [e1,e2]
     rw [e]
     (repeat (refine aA q16x4 hX mixed rfl ?_; (simp [go_sem]; try (refine ⟨by kernel_rfl,?_⟩))))
theorem BD (u x : Int) : MeansH Tryz.prog 143 [.row ⟨3,1,[ii u]⟩] [ii x,.el 0 1 0 0] (bb (!decide (x = u))) [.row ⟨3,1,[ii u]⟩] :=by
 refine aS 1 7 [.tmp 3] Tryz.func143 rfl rfl rfl (by simp) (by decide) rfl fun X hX => ?_
 (repeat (refine aB [0,1,3,1000000] hX mixed rfl ?_; (simp [go_sem]; try (refine ⟨by kernel_rfl,?_⟩))))
 refine aK ?_; (try simp only [thenQ,blkQ,loopQ]); refine aJ [(3,bb (!decide (x = u))),(1000000,.ow 0)] [.old 0 ⟨3,1,[ii u]⟩] ?_
 simp [go_sem]
theorem CZ (l : List Int) (hl : l.length ≤ 100000) (u : Int) : MeansH Tryz.prog 142 [.row ⟨40,1,[il l]⟩] [ii u,.el 0 1 0 0] (bb (only l u)) [.row ⟨40,1,[il l]⟩] :=by
 have c1 :=BC 143 3 1 (ii u) (fun x => !decide (x = u)) l hl rfl (fun x _ => BD u x) (by simp [go_sem])
 refine aS 1 8 [.tmp 3] Tryz.func142 rfl rfl rfl (by simp) (by decide) rfl fun X hX => ?_
 (repeat (refine aB q16x9 hX mixed rfl ?_; (simp [go_sem]; try (refine ⟨by kernel_rfl,?_⟩))))
 first | refine aF [1] (c1) (by simp [go_sem]) ?_ | refine aD [1] (c1) (by simp [go_sem]) ?_ | refine aE [1] (c1) (by simp [go_sem]) ?_
 try (simp [go_sem]; try (refine ⟨by kernel_rfl,?_⟩))
 (repeat (refine aB q16x9 hX mixed rfl ?_; (simp [go_sem]; try (refine ⟨by kernel_rfl,?_⟩))))
 refine aK ?_; (try simp only [thenQ,blkQ,loopQ]); refine aJ [(3,bb (only l u)),(1000000,.ow 0)] [.old 0 ⟨40,1,[il l]⟩] ?_
 simp [go_sem,only]
theorem lN {l : List Int} {k : Nat} (h : k < l.length) : nth (l.map ii) k = ii (l.getD k 0) :=by rw [oX h]; simp [List.getD_eq_getElem?_getD,h]
set_option maxHeartbeats 4000000 in
set_option maxRecDepth 20000 in
theorem D0 (op : Int) (l : List Int) (hl : l.length ≤ 10) (h1 : 0 < l.length) (h2 : 2 ≤ op → op ≤ 9 → 2 ≤ l.length) (h3 : op = 13 → 3 ≤ l.length) (ho : 2 ≤ op ∧ op ≤ 13) : Means true Tryz.prog 120 [ii op,il l] (.tup [ii (combU op l).1,bb (combU op l).2]) :=by
 have c0 :=fun u => CZ l (by omega) u
 have g0 :=lN h1
 have g1 : 1 < l.length → _ :=fun h => lN h
 have g2 : 2 < l.length → _ :=fun h => lN h
 obtain ⟨a,ha⟩ : ∃ a,l.getD 0 0 = a :=⟨_,rfl⟩
 obtain ⟨b,hb⟩ : ∃ b,l.getD 1 0 = b :=⟨_,rfl⟩
 obtain ⟨c,hc⟩ : ∃ c,l.getD 2 0 = c :=⟨_,rfl⟩
 rw [ha] at g0
 rw [hb] at g1
 rw [hc] at g2
 by_cases hA : op = 2 ∨ op = 3 ∨ op = 6 ∨ op = 7
 · have e : combU op l = (a,only l a && !decide (a = 0)) :=by simp only [combU]; rw [if_pos hA,ha]
   rw [e]
   rcases hA with rfl | rfl | rfl | rfl
   all_goals
    refine aH true 115 [.tmp 4,.tmp 5] Tryz.func120 rfl rfl rfl (by simp) (by decide) rfl fun X hX => ?_
    (repeat (refine aA q16x1 hX mixed rfl ?_; (simp [go_sem,h1,g0]; try (refine ⟨by kernel_rfl,?_⟩)))); (repeat (first | (refine aI ?_ ?_; (focus (simp [go_sem,h1,g0]; done)); (repeat (refine aA q16x1 hX mixed rfl ?_; (simp [go_sem,h1,g0]; try (refine ⟨by kernel_rfl,?_⟩))))) | (refine aG ?_ ?_; (focus (simp [go_sem,h1,g0]; done)); (repeat (refine aA q16x1 hX mixed rfl ?_; (simp [go_sem,h1,g0]; try (refine ⟨by kernel_rfl,?_⟩)))))))
    first | refine aF [0] (c0 a) (by simp [go_sem]) ?_ | refine aD [0] (c0 a) (by simp [go_sem]) ?_ | refine aE [0] (c0 a) (by simp [go_sem]) ?_
    try (simp [go_sem,h1,g0]; try (refine ⟨by kernel_rfl,?_⟩))
    try (repeat (refine aA q16x1 hX mixed rfl ?_; (simp [go_sem,h1,g0]; try (refine ⟨by kernel_rfl,?_⟩))))
 by_cases hB : op = 4
 · have e : combU op l = prodU a b :=by simp only [combU]; rw [if_neg hA,if_pos hB,ha,hb]
   rw [e]
   subst hB
   have h2 : 1 < l.length :=h2 (by omega) (by omega)
   have g1 :=g1 h2
   have h2 : (1 : Int) < l.length :=by omega
   have c1 :=CY a b
   refine aH true 115 [.tmp 4,.tmp 5] Tryz.func120 rfl rfl rfl (by simp) (by decide) rfl fun X hX => ?_
   (repeat (refine aA q16x1 hX mixed rfl ?_; (simp [go_sem,h1,g0,h2,g1]; try (refine ⟨by kernel_rfl,?_⟩)))); (repeat (first | (refine aI ?_ ?_; (focus (simp [go_sem,h1,g0,h2,g1]; done)); (repeat (refine aA q16x1 hX mixed rfl ?_; (simp [go_sem,h1,g0,h2,g1]; try (refine ⟨by kernel_rfl,?_⟩))))) | (refine aG ?_ ?_; (focus (simp [go_sem,h1,g0,h2,g1]; done)); (repeat (refine aA q16x1 hX mixed rfl ?_; (simp [go_sem,h1,g0,h2,g1]; try (refine ⟨by kernel_rfl,?_⟩)))))))
   first | refine aP (c1) ?_ | refine aQ (c1) ?_
   try (simp [go_sem,h1,g0,h2,g1]; try (refine ⟨by kernel_rfl,?_⟩))
   try (repeat (refine aA q16x1 hX mixed rfl ?_; (simp [go_sem,h1,g0,h2,g1]; try (refine ⟨by kernel_rfl,?_⟩))))
 by_cases hC : op = 5
 · have e : combU op l = if b = 1 then (a,!decide (a = 0) && !decide (a = 4)) else (1,only l a && (decide (a = 3) || decide (a = 2))) :=by simp only [combU]; rw [if_neg hA,if_neg hB,if_pos hC,ha,hb]
   rw [e]
   subst hC
   have h2 : 1 < l.length :=h2 (by omega) (by omega)
   have g1 :=g1 h2
   have h2 : (1 : Int) < l.length :=by omega
   by_cases hd : b = 1
   · rw [if_pos hd]
     refine aH true 115 [.tmp 4,.tmp 5] Tryz.func120 rfl rfl rfl (by simp) (by decide) rfl fun X hX => ?_
     (repeat (refine aA q16x1 hX mixed rfl ?_; (simp [go_sem,h1,g0,h2,g1,hd]; try (refine ⟨by kernel_rfl,?_⟩)))); (repeat (first | (refine aI ?_ ?_; (focus (simp [go_sem,h1,g0,h2,g1,hd]; done)); (repeat (refine aA q16x1 hX mixed rfl ?_; (simp [go_sem,h1,g0,h2,g1,hd]; try (refine ⟨by kernel_rfl,?_⟩))))) | (refine aG ?_ ?_; (focus (simp [go_sem,h1,g0,h2,g1,hd]; done)); (repeat (refine aA q16x1 hX mixed rfl ?_; (simp [go_sem,h1,g0,h2,g1,hd]; try (refine ⟨by kernel_rfl,?_⟩)))))))
   · rw [if_neg hd]
     refine aH true 115 [.tmp 4,.tmp 5] Tryz.func120 rfl rfl rfl (by simp) (by decide) rfl fun X hX => ?_
     (repeat (refine aA q16x1 hX mixed rfl ?_; (simp [go_sem,h1,g0,h2,g1,hd]; try (refine ⟨by kernel_rfl,?_⟩)))); (repeat (first | (refine aI ?_ ?_; (focus (simp [go_sem,h1,g0,h2,g1,hd]; done)); (repeat (refine aA q16x1 hX mixed rfl ?_; (simp [go_sem,h1,g0,h2,g1,hd]; try (refine ⟨by kernel_rfl,?_⟩))))) | (refine aG ?_ ?_; (focus (simp [go_sem,h1,g0,h2,g1,hd]; done)); (repeat (refine aA q16x1 hX mixed rfl ?_; (simp [go_sem,h1,g0,h2,g1,hd]; try (refine ⟨by kernel_rfl,?_⟩)))))))
     first | refine aF [0] (c0 a) (by simp [go_sem]) ?_ | refine aD [0] (c0 a) (by simp [go_sem]) ?_ | refine aE [0] (c0 a) (by simp [go_sem]) ?_
     try (simp [go_sem,h1,g0]; try (refine ⟨by kernel_rfl,?_⟩))
     refine And.intro (fun p q => ⟨p,q⟩) ?_
     refine ⟨by kernel_rfl,?_⟩
     try (repeat (refine aA q16x1 hX mixed rfl ?_; (simp [go_sem,h1,g0]; try (refine ⟨by kernel_rfl,?_⟩))))
 by_cases hD : op = 8
 · have e : combU op l = (0,only l a && !decide (a = 0)) :=by simp only [combU]; rw [if_neg hA,if_neg hB,if_neg hC,if_pos hD,ha]
   rw [e]
   subst hD
   refine aH true 115 [.tmp 4,.tmp 5] Tryz.func120 rfl rfl rfl (by simp) (by decide) rfl fun X hX => ?_
   (repeat (refine aA q16x1 hX mixed rfl ?_; (simp [go_sem,h1,g0]; try (refine ⟨by kernel_rfl,?_⟩)))); (repeat (first | (refine aI ?_ ?_; (focus (simp [go_sem,h1,g0]; done)); (repeat (refine aA q16x1 hX mixed rfl ?_; (simp [go_sem,h1,g0]; try (refine ⟨by kernel_rfl,?_⟩))))) | (refine aG ?_ ?_; (focus (simp [go_sem,h1,g0]; done)); (repeat (refine aA q16x1 hX mixed rfl ?_; (simp [go_sem,h1,g0]; try (refine ⟨by kernel_rfl,?_⟩)))))))
   first | refine aF [0] (c0 a) (by simp [go_sem]) ?_ | refine aD [0] (c0 a) (by simp [go_sem]) ?_ | refine aE [0] (c0 a) (by simp [go_sem]) ?_
   try (simp [go_sem,h1,g0]; try (refine ⟨by kernel_rfl,?_⟩))
   try (repeat (refine aA q16x1 hX mixed rfl ?_; (simp [go_sem,h1,g0]; try (refine ⟨by kernel_rfl,?_⟩))))
 by_cases hE : op = 9
 · have e : combU op l = (0,only l a) :=by simp only [combU]; rw [if_neg hA,if_neg hB,if_neg hC,if_neg hD,if_pos hE,ha]
   rw [e]
   subst hE
   refine aH true 115 [.tmp 4,.tmp 5] Tryz.func120 rfl rfl rfl (by simp) (by decide) rfl fun X hX => ?_
   (repeat (refine aA q16x1 hX mixed rfl ?_; (simp [go_sem,h1,g0]; try (refine ⟨by kernel_rfl,?_⟩)))); (repeat (first | (refine aI ?_ ?_; (focus (simp [go_sem,h1,g0]; done)); (repeat (refine aA q16x1 hX mixed rfl ?_; (simp [go_sem,h1,g0]; try (refine ⟨by kernel_rfl,?_⟩))))) | (refine aG ?_ ?_; (focus (simp [go_sem,h1,g0]; done)); (repeat (refine aA q16x1 hX mixed rfl ?_; (simp [go_sem,h1,g0]; try (refine ⟨by kernel_rfl,?_⟩)))))))
   first | refine aF [0] (c0 a) (by simp [go_sem]) ?_ | refine aD [0] (c0 a) (by simp [go_sem]) ?_ | refine aE [0] (c0 a) (by simp [go_sem]) ?_
   try (simp [go_sem,h1,g0]; try (refine ⟨by kernel_rfl,?_⟩))
   try (repeat (refine aA q16x1 hX mixed rfl ?_; (simp [go_sem,h1,g0]; try (refine ⟨by kernel_rfl,?_⟩))))
 by_cases hF : op = 13
 · have e : combU op l = (b,decide (a = 0) && decide (b = c)) :=by simp only [combU]; rw [if_neg hA,if_neg hB,if_neg hC,if_neg hD,if_neg hE,if_pos hF,ha,hb,hc]
   rw [e]
   have h3 : 2 < l.length :=h3 hF
   have h2 : 1 < l.length :=by omega
   have g1 :=g1 h2
   have g2 :=g2 h3
   clear ho
   subst hF
   have h2 : (1 : Int) < l.length :=by omega
   have h3 : (2 : Int) < l.length :=by omega
   refine aH true 115 [.tmp 4,.tmp 5] Tryz.func120 rfl rfl rfl (by simp) (by decide) rfl fun X hX => ?_
   (repeat (refine aA q16x1 hX mixed rfl ?_; (simp [go_sem,h1,g0,h2,g1,h3,g2]; try (refine ⟨by kernel_rfl,?_⟩)))); (repeat (first | (refine aI ?_ ?_; (focus (simp [go_sem,h1,g0,h2,g1,h3,g2]; done)); (repeat (refine aA q16x1 hX mixed rfl ?_; (simp [go_sem,h1,g0,h2,g1,h3,g2]; try (refine ⟨by kernel_rfl,?_⟩))))) | (refine aG ?_ ?_; (focus (simp [go_sem,h1,g0,h2,g1,h3,g2]; done)); (repeat (refine aA q16x1 hX mixed rfl ?_; (simp [go_sem,h1,g0,h2,g1,h3,g2]; try (refine ⟨by kernel_rfl,?_⟩)))))))
 have e : combU op l = (0,only l 0) :=by simp only [combU]; rw [if_neg hA,if_neg hB,if_neg hC,if_neg hD,if_neg hE,if_neg hF]
 rw [e]
 have ho : op = 10 ∨ op = 11 ∨ op = 12 :=by omega
 rcases ho with rfl | rfl | rfl
 all_goals
  refine aH true 115 [.tmp 4,.tmp 5] Tryz.func120 rfl rfl rfl (by simp) (by decide) rfl fun X hX => ?_
  (repeat (refine aA q16x1 hX mixed rfl ?_; (simp [go_sem,h1,g0]; try (refine ⟨by kernel_rfl,?_⟩)))); (repeat (first | (refine aI ?_ ?_; (focus (simp [go_sem,h1,g0]; done)); (repeat (refine aA q16x1 hX mixed rfl ?_; (simp [go_sem,h1,g0]; try (refine ⟨by kernel_rfl,?_⟩))))) | (refine aG ?_ ?_; (focus (simp [go_sem,h1,g0]; done)); (repeat (refine aA q16x1 hX mixed rfl ?_; (simp [go_sem,h1,g0]; try (refine ⟨by kernel_rfl,?_⟩)))))))
  first | refine aF [0] (c0 0) (by simp [go_sem]) ?_ | refine aD [0] (c0 0) (by simp [go_sem]) ?_ | refine aE [0] (c0 0) (by simp [go_sem]) ?_
  try (simp [go_sem,h1,g0]; try (refine ⟨by kernel_rfl,?_⟩))
  try (repeat (refine aA q16x1 hX mixed rfl ?_; (simp [go_sem,h1,g0]; try (refine ⟨by kernel_rfl,?_⟩))))
end Go.Proofs.YtaolljbpencjnaaGreatDoor

namespace Go.Proofs.YtaolljbpencjnaaGreatDoor
open Go.RowKit Go.Ab
attribute [local irreducible] AWP Go.Ab.Sub Means MeansH CallK CallG CallT CallGT PanicH DefH
@[go_sem] theorem dC (a b : By) : keyEq Tryz.prog 9 (ss a) (ss b) = some (decide (a = b)) :=by
  simp only [keyEq,tk9,eqV]
  rw [DY]
def gm (g : List (By × Int)) : List (AV × AV) :=g.map fun p => (ss p.1,ii p.2)
abbrev mnA (m : Mn) : AV :=.agg [ii m.u,ii m.e,bb m.sh]
def dm (d : List (By × Mn)) : List (AV × AV) :=d.map fun p => (ss p.1,mnA p.2)
theorem uB (s : By) : ∀ g,findA Tryz.prog 9 (ss s) (gm g) = some ((g.lookup s).map ii)
 | [] => rfl
 | (a,v) :: g => by
   have ih :=uB s g
   simp only [gm,List.map_cons,findA,dC,List.lookup_cons] at ih ⊢
   by_cases h : s = a
   · subst h; simp
   · have h2 : (s == a) = false :=by simpa using h
     simp only [h,h2,decide_false]; exact ih
theorem oY (s : By) : ∀ d,findA Tryz.prog 9 (ss s) (dm d) = some ((d.lookup s).map mnA)
 | [] => rfl
 | (a,v) :: g => by
   have ih :=oY s g
   simp only [dm,List.map_cons,findA,dC,List.lookup_cons] at ih ⊢
   by_cases h : s = a
   · subst h; simp
   · have h2 : (s == a) = false :=by simpa using h
     simp only [h,h2,decide_false]; exact ih
@[go_sem] theorem lookA_gm (s : By) (g : List (By × Int)) : lookA Tryz.prog 9 3 (ss s) (gm g) true = some (.tup [ii ((g.lookup s).getD 0),bb (g.lookup s).isSome]) :=by
  unfold lookA
  rw [uB,tk3]
  cases g.lookup s <;> rfl
@[go_sem] theorem lookA_dm (s : By) (d : List (By × Mn)) : lookA Tryz.prog 9 185 (ss s) (dm d) true = some (.tup [mnA ((d.lookup s).getD {}),bb (d.lookup s).isSome]) :=by
  unfold lookA
  rw [oY,C5]
  cases d.lookup s <;> rfl
@[go_sem] theorem lookA_dmf (s : By) (d : List (By × Mn)) : lookA Tryz.prog 9 185 (ss s) (dm d) false = some (mnA ((d.lookup s).getD {})) :=by
  unfold lookA
  rw [oY,C5]
  cases d.lookup s <;> rfl
theorem yM (g : List (By × Int)) (d : List (By × Mn)) (s : By) : nameU g d s = if (g.lookup s).isSome then ((g.lookup s).getD 0,0) else if (d.lookup s).isSome then (((d.lookup s).getD {}).u,((d.lookup s).getD {}).e) else (0,13) :=by
 unfold nameU
 cases g.lookup s
 · cases d.lookup s <;> rfl
 · rfl
theorem xB (d : List (By × Mn)) (s : By) : nameS d s = ((d.lookup s).getD {}).sh :=by
 unfold nameS
 cases d.lookup s <;> rfl
def firstE (g : List (By × Int)) (d : List (By × Mn)) : List E → Int
 | [] => 0
 | e :: l => if (unitU g d e).2 = 0 then firstE g d l else (unitU g d e).2
theorem nK {g : List (By × Int)} {d : List (By × Mn)} : ∀ {l : List E} {n : Nat} (hn : n < l.length),(∀ j (h : j < l.length),j < n → (unitU g d l[j]).2 = 0) → (unitU g d l[n]).2 ≠ 0 → firstE g d l = (unitU g d l[n]).2
 | [],n,hn,_,_ => by simp at hn
 | e :: l,0,_,_,hne => by
   have hne : (unitU g d e).2 ≠ 0 :=hne
   unfold firstE
   rw [if_neg hne]; rfl
 | e :: l,n + 1,hn,h,hne => by
   have h0 : (unitU g d e).2 = 0 :=h 0 (by simp) (by omega)
   unfold firstE
   rw [if_pos h0]
   exact nK (l :=l) (n :=n) (by simpa using hn) (fun j hj hjn => h (j + 1) (by simpa using hj) (by omega)) hne
theorem lO {g : List (By × Int)} {d : List (By × Mn)} : ∀ {l : List E},(∀ j (h : j < l.length),(unitU g d l[j]).2 = 0) → firstE g d l = 0
 | [],_ => rfl
 | e :: l,h => by
   have h0 : (unitU g d e).2 = 0 :=h 0 (by simp)
   unfold firstE
   rw [if_pos h0]
   exact lO fun j hj => h (j + 1) (by simpa using hj)
theorem sJ (g : List (By × Int)) (d : List (By × Mn)) {e : E} (h0 : ¬ e.op = 0) (h1 : ¬ e.op = 1) : unitU g d e = if firstE g d e.kids = 0 then finU e.op (e.kids.map fun x => (unitU g d x).1) else (0,firstE g d e.kids) :=by
 cases e with
 | num n u => exact absurd rfl h0
 | nam s => exact absurd rfl h1
 | un a =>
   simp only [unitU,E.kids,firstE,E.op_un,List.map_cons,List.map_nil]
   split <;> rename_i h <;> simp [h]
 | bin o a b =>
   simp only [unitU,E.kids,firstE,E.op_bin,List.map_cons,List.map_nil]
   split <;> rename_i h
   · split <;> rename_i h2 <;> simp [h2]
   · simp [h]
 | ite a b c =>
   simp only [unitU,E.kids,firstE,E.op_ite,List.map_cons,List.map_nil]
   split <;> rename_i h
   · split <;> rename_i h2
     · split <;> rename_i h3 <;> simp [h3]
     · simp [h2]
   · simp [h]
abbrev jR : Ob :=⟨183,2,[.agg [.ow 1,.ow 2]]⟩
abbrev gR (g : List (By × Int)) : MOb :=⟨9,3,gm g⟩
abbrev dR (d : List (By × Mn)) : MOb :=⟨9,185,dm d⟩
abbrev JH (g : List (By × Int)) (d : List (By × Mn)) : List Cell :=[.row jR,.map (gR g),.map (dR d)]
set_option maxHeartbeats 8000000 in
set_option maxRecDepth 20000 in
theorem D3 (g : List (By × Int)) (d : List (By × Mn)) (N : Nat) (ih : ∀ x,okE x → x.lev ≤ N → MeansH Tryz.prog 88 (JH g d) [.el 0 2 0 0,ex x] (.tup [ii (unitU g d x).1,ii (unitU g d x).2]) (JH g d)) (e : E) (he : okE e) (hl : e.lev ≤ N + 1) :
  MeansH Tryz.prog 88 (JH g d) [.el 0 2 0 0,ex e] (.tup [ii (unitU g d e).1,ii (unitU g d e).2]) (JH g d) :=by
 by_cases h0 : e.op = 0
 · obtain ⟨n,u,rfl⟩ : ∃ n u,e = .num n u :=by
    cases e with
    | num n u => exact ⟨n,u,rfl⟩
    | nam s => simp [E.op] at h0
    | un a => simp [E.op] at h0
    | ite a b c => simp [E.op] at h0
    | bin o a b => have :=he.1; simp [E.op] at h0; omega
   refine aS 3 82 [.tmp 4,.tmp 5] Tryz.func88 rfl rfl rfl (by simp) (by decide) rfl fun X hX => ?_
   (repeat (refine aB q16x0 hX mixed rfl ?_; (simp [go_sem]; try (refine ⟨by kernel_rfl,?_⟩)))); (repeat (first | (refine aI ?_ ?_; (focus (simp [go_sem]; done)); (repeat (refine aB q16x0 hX mixed rfl ?_; (simp [go_sem]; try (refine ⟨by kernel_rfl,?_⟩))))) | (refine aG ?_ ?_; (focus (simp [go_sem]; done)); (repeat (refine aB q16x0 hX mixed rfl ?_; (simp [go_sem]; try (refine ⟨by kernel_rfl,?_⟩)))))))
   refine aK ?_; (try simp only [thenQ,blkQ,loopQ]); refine aJ [(4,ii u),(5,ii 0),(1000000,.ow 0),(1000001,.ow 1),(1000002,.ow 2)] [.old 0 jR,.oldM 1 (gR g),.oldM 2 (dR d)] ?_
   simp [go_sem,unitU]
 by_cases h1 : e.op = 1
 · obtain ⟨s,rfl⟩ : ∃ s,e = .nam s :=by
    cases e with
    | num n u => simp [E.op] at h1
    | nam s => exact ⟨s,rfl⟩
    | un a => simp [E.op] at h1
    | ite a b c => simp [E.op] at h1
    | bin o a b => have :=he.1; simp [E.op] at h1; omega
   have hu : unitU g d (.nam s) = nameU g d s :=rfl
   rw [hu,yM]
   refine aS 3 82 [.tmp 4,.tmp 5] Tryz.func88 rfl rfl rfl (by simp) (by decide) rfl fun X hX => ?_
   (repeat (refine aB q16x0 hX mixed rfl ?_; (simp [go_sem]; try (refine ⟨by kernel_rfl,?_⟩)))); (repeat (first | (refine aI ?_ ?_; (focus (simp [go_sem]; done)); (repeat (refine aB q16x0 hX mixed rfl ?_; (simp [go_sem]; try (refine ⟨by kernel_rfl,?_⟩))))) | (refine aG ?_ ?_; (focus (simp [go_sem]; done)); (repeat (refine aB q16x0 hX mixed rfl ?_; (simp [go_sem]; try (refine ⟨by kernel_rfl,?_⟩)))))))
   refine aC (b :=(g.lookup s).isSome) (by simp [go_sem]) (fun hb => ?_) (fun hb => ?_)
   · (repeat (refine aB q16x0 hX mixed rfl ?_; (simp [go_sem]; try (refine ⟨by kernel_rfl,?_⟩))))
     rw [if_pos hb]
     refine aK ?_; (try simp only [thenQ,blkQ,loopQ]); refine aJ [(4,ii ((g.lookup s).getD 0)),(5,ii 0),(1000000,.ow 0),(1000001,.ow 1),(1000002,.ow 2)] [.old 0 jR,.oldM 1 (gR g),.oldM 2 (dR d)] ?_
     simp [go_sem]
   · rw [if_neg (by rw [hb]; simp)]
     (repeat (refine aB q16x0 hX mixed rfl ?_; (simp [go_sem]; try (refine ⟨by kernel_rfl,?_⟩))))
     refine aC (b :=(d.lookup s).isSome) (by simp [go_sem]) (fun hc => ?_) (fun hc => ?_)
     · (repeat (refine aB q16x0 hX mixed rfl ?_; (simp [go_sem]; try (refine ⟨by kernel_rfl,?_⟩))))
       rw [if_pos hc]
       refine aK ?_; (try simp only [thenQ,blkQ,loopQ]); refine aJ [(4,ii ((d.lookup s).getD {}).u),(5,ii ((d.lookup s).getD {}).e),(1000000,.ow 0),(1000001,.ow 1),(1000002,.ow 2)] [.old 0 jR,.oldM 1 (gR g),.oldM 2 (dR d)] ?_
       simp [go_sem]
     · rw [if_neg (by rw [hc]; simp)]
       (repeat (refine aB q16x0 hX mixed rfl ?_; (simp [go_sem]; try (refine ⟨by kernel_rfl,?_⟩))))
       refine aK ?_; (try simp only [thenQ,blkQ,loopQ]); refine aJ [(4,ii 0),(5,ii 13),(1000000,.ow 0),(1000001,.ow 1),(1000002,.ow 2)] [.old 0 jR,.oldM 1 (gR g),.oldM 2 (dR d)] ?_
       simp [go_sem]
 have hop :=yK he
 have hk : 1 ≤ e.kids.length ∧ e.kids.length ≤ 3 ∧ (2 ≤ e.op → e.op ≤ 9 → 2 ≤ e.kids.length) ∧ (e.op = 13 → 3 ≤ e.kids.length) ∧ (2 ≤ e.op ∧ e.op ≤ 13) :=by
  cases e with
  | num n u => simp [E.op] at h0
  | nam s => simp [E.op] at h1
  | un a => simp [E.kids,E.op]
  | bin o a b => have :=he.1; simp [E.kids,E.op] <;> omega
  | ite a b c => simp [E.kids,E.op]
 have hki : ∀ x ∈ e.kids,MeansH Tryz.prog 88 (JH g d) [.el 0 2 0 0,ex x] (.tup [ii (unitU g d x).1,ii (unitU g d x).2]) (JH g d) :=fun x hx => ih x (sB he hx) (by have :=j7 hx; omega)
 rw [sJ g d h0 h1]
 have ea :=gK e
 have e1 : ∀ q,e.args = q → ex e = .agg [ii e.op,ii e.n,ii e.u,ss e.s,.sl q] :=fun q h => by subst h; rfl
 have e1 :=e1 _ ea
 have c1 :=D0 e.op (e.kids.map fun x => (unitU g d x).1) (by simp; omega) (by simp; omega) (by simpa using hk.2.2.1) (by simpa using hk.2.2.2.1) hk.2.2.2.2
 rw [e1]
 generalize e.kids = K at *
 generalize e.op = o at *
 generalize e.n = en at *
 generalize e.u = eu at *
 generalize e.s = es at *
 clear e1 ea hl he ih hop
 refine aS 3 82 [.tmp 4,.tmp 5] Tryz.func88 rfl rfl rfl (by simp) (by decide) rfl fun X hX => ?_
 (repeat (refine aB q16x0 hX mixed rfl ?_; (simp [go_sem,h0,h1]; try (refine ⟨by kernel_rfl,?_⟩)))); (repeat (first | (refine aI ?_ ?_; (focus (simp [go_sem,h0,h1]; done)); (repeat (refine aB q16x0 hX mixed rfl ?_; (simp [go_sem,h0,h1]; try (refine ⟨by kernel_rfl,?_⟩))))) | (refine aG ?_ ?_; (focus (simp [go_sem,h0,h1]; done)); (repeat (refine aB q16x0 hX mixed rfl ?_; (simp [go_sem,h0,h1]; try (refine ⟨by kernel_rfl,?_⟩)))))))
 refine aV (fun n : Nat => ⟨mkE [(0,.el 0 2 0 0),(3,.el 3 5 0 0),(4,ii 0),(5,ii 0),(10,.ow 4),(53,.sl (K.map ex)),(54,ii K.length),(55,ii n),(1000000,.ow 0),(1000001,.ow 1),(1000002,.ow 2)],
  [.row jR,.map (gR g),.map (dR d),.row ⟨29,5,[.agg [ii o,ii en,ii eu,ss es,.sl (K.map ex)]]⟩,.row ⟨3,1,(K.map fun x => ii (unitU g d x).1).take n⟩]⟩) (fun n => n ≤ K.length ∧ ∀ j (h : j < K.length),j < n → (unitU g d K[j]).2 = 0) (fun n => K.length - n) 0 ?_ ?_ ?_
 · refine aM _ [.old 0 jR,.oldM 1 (gR g),.oldM 2 (dR d),.old 3 ⟨29,5,[.agg [ii o,ii en,ii eu,ss es,.sl (K.map ex)]]⟩,.birth 3 1] (by simp [go_sem]) ?_
   simp [go_sem]
 · simp
 · rintro n ⟨hn,hz⟩
   (repeat (refine aB q16x0 hX mixed rfl ?_; (simp [go_sem]; try (refine ⟨by kernel_rfl,?_⟩))))
   refine aC (b :=decide (n < K.length)) (by simp [go_sem]) (fun hc => ?_) (fun hc => ?_)
   · simp at hc
     have hq :=lH hc
     have wk :=w64 (x :=(n : Int) + 1) (by omega) (by omega)
     have c2 :=hki K[n] (List.getElem_mem hc)
     (repeat (refine aB q16x0 hX mixed rfl ?_; (simp [go_sem,hc,hq]; try (refine ⟨by kernel_rfl,?_⟩))))
     first | refine aF [0,1,2] (c2) (by simp [go_sem]) ?_ | refine aD [0,1,2] (c2) (by simp [go_sem]) ?_ | refine aE [0,1,2] (c2) (by simp [go_sem]) ?_
     try (simp [go_sem]; try (refine ⟨by kernel_rfl,?_⟩))
     (repeat (refine aB q16x0 hX mixed rfl ?_; (simp [go_sem]; try (refine ⟨by kernel_rfl,?_⟩))))
     refine aC (b :=!decide ((unitU g d K[n]).2 = 0)) (by simp [go_sem]) (fun hd => ?_) (fun hd => ?_)
     · have hd : ¬ (unitU g d K[n]).2 = 0 :=by simpa using hd
       rw [nK hc hz hd,if_neg hd]
       (repeat (refine aB q16x0 hX mixed rfl ?_; (simp [go_sem]; try (refine ⟨by kernel_rfl,?_⟩))))
       refine aK ?_; (try simp only [thenQ,blkQ,loopQ]); refine aJ [(4,ii 0),(5,ii (unitU g d K[n]).2),(1000000,.ow 0),(1000001,.ow 1),(1000002,.ow 2)] [.old 0 jR,.oldM 1 (gR g),.oldM 2 (dR d)] ?_
       simp [go_sem]
     · have hd : (unitU g d K[n]).2 = 0 :=by simpa using hd
       have ht : (K.map fun x => ii (unitU g d x).1).take (n + 1) = (K.map fun x => ii (unitU g d x).1).take n ++ [ii (unitU g d K[n]).1] :=by
        rw [List.take_succ_eq_append_getElem (by simpa using hc)]; simp
       (repeat (refine aB q16x0 hX mixed rfl ?_; (simp [go_sem,wk]; (try simp (disch :=omega) only [w64,td,tm]); try (refine ⟨by kernel_rfl,?_⟩))))
       refine ⟨⟨by first | omega | (simp; omega),by unfold maxLen; first | omega | (simp; omega)⟩,?_⟩
       (repeat (refine aB q16x0 hX mixed rfl ?_; (simp [go_sem,wk]; (try simp (disch :=omega) only [w64,td,tm]); try (refine ⟨by kernel_rfl,?_⟩))))
       refine ⟨n + 1,⟨by omega,fun j hj hjn => ?_⟩,by omega,?_⟩
       · by_cases e : j = n
         · subst e; exact hd
         · exact hz j hj (by omega)
       · rw [ht]
         refine aM _ [.old 0 jR,.oldM 1 (gR g),.oldM 2 (dR d),.old 3 ⟨29,5,[.agg [ii o,ii en,ii eu,ss es,.sl (K.map ex)]]⟩,.old 7 ⟨3,1,(K.map fun x => ii (unitU g d x).1).take n ++ [ii (unitU g d K[n]).1]⟩] (by simp [go_sem]) ?_
         simp [go_sem]
   · have hnn : n = K.length :=by simp at hc; omega
     subst hnn
     rw [List.take_of_length_le (by simp)]
     rw [lO (fun j hj => hz j hj hj),if_pos rfl]
     have em : K.map (fun x => ii (unitU g d x).1) = (K.map fun x => (unitU g d x).1).map ii :=by rw [List.map_map]; rfl
     rw [em]
     generalize K.map (fun x => (unitU g d x).1) = L at *
     (repeat (refine aB q16x0 hX mixed rfl ?_; (simp [go_sem]; try (refine ⟨by kernel_rfl,?_⟩))))
     first | refine aP (c1) ?_ | refine aQ (c1) ?_
     try (simp [go_sem]; try (refine ⟨by kernel_rfl,?_⟩))
     (repeat (refine aB q16x0 hX mixed rfl ?_; (simp [go_sem]; try (refine ⟨by kernel_rfl,?_⟩))))
     unfold finU
     refine aC (b :=(combU o L).2) (by simp [go_sem]) (fun hd => ?_) (fun hd => ?_)
     · rw [if_pos hd]
       (repeat (refine aB q16x0 hX mixed rfl ?_; (simp [go_sem]; try (refine ⟨by kernel_rfl,?_⟩))))
       refine aK ?_; (try simp only [thenQ,blkQ,loopQ]); refine aJ [(4,ii (combU o L).1),(5,ii 0),(1000000,.ow 0),(1000001,.ow 1),(1000002,.ow 2)] [.old 0 jR,.oldM 1 (gR g),.oldM 2 (dR d)] ?_
       simp [go_sem]
     · rw [if_neg (by simpa using hd)]
       (repeat (refine aB q16x0 hX mixed rfl ?_; (simp [go_sem]; try (refine ⟨by kernel_rfl,?_⟩))))
       refine aK ?_; (try simp only [thenQ,blkQ,loopQ]); refine aJ [(4,ii 0),(5,ii 14),(1000000,.ow 0),(1000001,.ow 1),(1000002,.ow 2)] [.old 0 jR,.oldM 1 (gR g),.oldM 2 (dR d)] ?_
       simp [go_sem]
theorem rS (g : List (By × Int)) (d : List (By × Mn)) : ∀ (N : Nat) (e : E),okE e → e.lev ≤ N → MeansH Tryz.prog 88 (JH g d) [.el 0 2 0 0,ex e] (.tup [ii (unitU g d e).1,ii (unitU g d e).2]) (JH g d)
 | 0,e,_,h => by cases e <;> simp [E.lev] at h
 | N + 1,e,he,hl => D3 g d N (rS g d N) e he hl
end Go.Proofs.YtaolljbpencjnaaGreatDoor

