/-
  Lemmas for the statement at the top.
-/
import Derived.Test.YtaolljbpencjnaaGreatDoorTP9
import Derived.Test.YtaolljbpencjnaaGreatDoorTP5
import Derived.Maps.RangeRun
import Derived.LoopN
set_option linter.all false
namespace Go.Ab
def q5x0 : List Nat :=[0,1,3,4,6,7,12,22,33,49,1000000,1000001,1000002]
def q5x1 : List Nat :=[0,1,2,5,6,7,8,10,12,14,15,16,32,33,34,35,36,46,58,68,69,70,71]
def q5x2 : List Nat :=[0,1,4,5,7,8,9,16]
def q5x3 : List Nat :=[0,1,2,5,6,7,8,9,18]
attribute [go_sem] q5x0 q5x1 q5x2 q5x3
end Go.Ab
namespace Go.Proofs.YtaolljbpencjnaaGreatDoor
open Go.RowKit Go.Ab
attribute [local irreducible] AWP Go.Ab.Sub Means MeansH CallK CallG CallT CallGT PanicH DefH
set_option maxHeartbeats 4000000 in
theorem x9 (f : FuncId)  (p : (By × E) → Bool) (L : List (By × E)) (hl : L.length ≤ 100000)  (hf : ∀ x ∈ L,Means true Tryz.prog f [lt x] (bb (p x))) (hcall : callable Tryz.prog f = true) :
  Means true Tryz.prog 103 [.sl (L.map lt),.v (.func (.func f) #[] #[])] (ii (match L.findIdx? p with | some n => (n : Int) | none => -1)) :=by
 refine aH true 19 [.tmp 4] Tryz.func103 rfl rfl rfl (by simp) (by decide) rfl fun X hX => ?_
 (repeat (refine aA q5x2 hX mixed rfl ?_; (simp [go_sem]; try (refine ⟨by kernel_rfl,?_⟩))))
 refine aV (fun n : Nat => ⟨mkE [(0,.sl (L.map lt)),(1,.v (.func (.func f) #[] #[])),(7,ii L.length),(8,ii n)],[]⟩) (fun n => n ≤ L.length ∧ ∀ k (h : k < L.length),k < n → p L[k] = false) (fun n => L.length - n) 0 ?_ ?_ ?_
 · refine aM _ [] (by simp [go_sem]) ?_
   simp [go_sem]
 · exact ⟨Nat.zero_le _,fun k h hk => absurd hk (by omega)⟩
 · rintro n ⟨h1,h2⟩
   (repeat (refine aA q5x2 hX mixed rfl ?_; (simp [go_sem]; try (refine ⟨by kernel_rfl,?_⟩))))
   refine aC (b :=decide (n < L.length)) (by simp [go_sem]) (fun hc => ?_) (fun hc => ?_)
   · simp at hc
     have hq :=fF hc
     have wk :=w64 (x :=(n : Int) + 1) (by omega) (by omega)
     (repeat (refine aA q5x2 hX mixed rfl ?_; (simp [go_sem,hc,hq,hcall]; try (refine ⟨by kernel_rfl,?_⟩))))
     refine aP (hf L[n] (List.getElem_mem hc)) ?_
     try (simp [go_sem]; try (refine ⟨by kernel_rfl,?_⟩))
     refine aC (b :=p L[n]) (by simp [go_sem]) (fun hs => ?_) (fun hs => ?_)
     · have e1 : L.findIdx? p = some n :=by
        rw [List.findIdx?_eq_some_iff_getElem]
        exact ⟨hc,hs,fun k hk => by rw [h2 k (by omega) hk]; simp⟩
       rw [e1]
       (repeat (refine aA q5x2 hX mixed rfl ?_; (simp [go_sem]; try (refine ⟨by kernel_rfl,?_⟩))))
     · (repeat (refine aA q5x2 hX mixed rfl ?_; (simp [go_sem,wk]; try (refine ⟨by kernel_rfl,?_⟩))))
       refine ⟨n + 1,⟨by omega,fun k h hk => ?_⟩,by omega,?_⟩
       · by_cases e : k = n
         · subst e; exact hs
         · exact h2 k h (by omega)
       · refine aM _ [] (by simp [go_sem]) ?_
         simp [go_sem]
   · simp at hc
     have e1 : L.findIdx? p = none :=by
      rw [List.findIdx?_eq_none_iff]
      intro x hx
      obtain ⟨k,hk,rfl⟩ :=List.getElem_of_mem hx
      exact h2 k hk (by omega)
     rw [e1]
     (repeat (refine aA q5x2 hX mixed rfl ?_; (simp [go_sem]; try (refine ⟨by kernel_rfl,?_⟩))))
theorem xA (f : FuncId)  (p : (By × E) → Bool) (L : List (By × E)) (hl : L.length ≤ 100000)  (hf : ∀ x ∈ L,Means true Tryz.prog f [lt x] (bb (p x))) (hcall : callable Tryz.prog f = true) :
  Means true Tryz.prog 60 [.sl (L.map lt),.v (.func (.func f) #[] #[])] (bb (L.any p)) :=by
 have hI :=x9 f  p L hl  hf hcall
 refine aH true 9 [.tmp 4] Tryz.func60 rfl rfl rfl (by simp) (by decide) rfl fun X hX => ?_
 (repeat (refine aA [0,1,4] hX mixed rfl ?_; (simp [go_sem]; try (refine ⟨by kernel_rfl,?_⟩))))
 first | refine aP (hI) ?_ | refine aQ (hI) ?_
 try (simp [go_sem]; try (refine ⟨by kernel_rfl,?_⟩))
 have e : decide (0 ≤ (match L.findIdx? p with | some n => (n : Int) | none => -1)) = L.any p :=by
  cases hf : L.findIdx? p with
  | none =>
    have : L.any p = false :=by
     rw [List.any_eq_false]
     intro x hx
     rw [List.findIdx?_eq_none_iff.1 hf x hx]; simp
    rw [this]; rfl
  | some n =>
    obtain ⟨h1,h2,_⟩ :=List.findIdx?_eq_some_iff_getElem.1 hf
    have : L.any p = true :=List.any_eq_true.2 ⟨L[n],List.getElem_mem h1,h2⟩
    rw [this]
    simp
 rw [← e]
 (repeat (refine aA [0,1,4] hX mixed rfl ?_; (simp [go_sem]; try (refine ⟨by kernel_rfl,?_⟩))))
set_option maxHeartbeats 8000000 in
set_option maxRecDepth 20000 in
theorem DR (g : List (By × Int)) (d : List (By × Mn)) (N : Nat) (ih : ∀ x,okE x → x.lev ≤ N → MeansH Tryz.prog 119 (JH g d) [.el 0 2 0 0,ex x] (bb (shareU d x)) (JH g d)) (e : E) (he : okE e) (hl : e.lev ≤ N + 1) :
  MeansH Tryz.prog 119 (JH g d) [.el 0 2 0 0,ex e] (bb (shareU d e)) (JH g d) :=by
 cases e with
 | num n u =>
   refine aS 3 57 [.tmp 4] Tryz.func119 rfl rfl rfl (by simp) (by decide) rfl fun X hX => ?_
   (repeat (refine aB q5x0 hX mixed rfl ?_; (simp [go_sem]; try (refine ⟨by kernel_rfl,?_⟩)))); (repeat (first | (refine aI ?_ ?_; (focus (simp [go_sem]; done)); (repeat (refine aB q5x0 hX mixed rfl ?_; (simp [go_sem]; try (refine ⟨by kernel_rfl,?_⟩))))) | (refine aG ?_ ?_; (focus (simp [go_sem]; done)); (repeat (refine aB q5x0 hX mixed rfl ?_; (simp [go_sem]; try (refine ⟨by kernel_rfl,?_⟩)))))))
   refine aK ?_; (try simp only [thenQ,blkQ,loopQ]); refine aJ [(4,bb (decide (u = 4))),(1000000,.ow 0),(1000001,.ow 1),(1000002,.ow 2)] [.old 0 jR,.oldM 1 (gR g),.oldM 2 (dR d)] ?_
   simp [go_sem,shareU]
 | nam s =>
   have e1 : shareU d (.nam s) = ((d.lookup s).getD {}).sh :=xB d s
   rw [e1]
   refine aS 3 57 [.tmp 4] Tryz.func119 rfl rfl rfl (by simp) (by decide) rfl fun X hX => ?_
   (repeat (refine aB q5x0 hX mixed rfl ?_; (simp [go_sem]; try (refine ⟨by kernel_rfl,?_⟩)))); (repeat (first | (refine aI ?_ ?_; (focus (simp [go_sem]; done)); (repeat (refine aB q5x0 hX mixed rfl ?_; (simp [go_sem]; try (refine ⟨by kernel_rfl,?_⟩))))) | (refine aG ?_ ?_; (focus (simp [go_sem]; done)); (repeat (refine aB q5x0 hX mixed rfl ?_; (simp [go_sem]; try (refine ⟨by kernel_rfl,?_⟩)))))))
   refine aK ?_; (try simp only [thenQ,blkQ,loopQ]); refine aJ [(4,bb ((d.lookup s).getD {}).sh),(1000000,.ow 0),(1000001,.ow 1),(1000002,.ow 2)] [.old 0 jR,.oldM 1 (gR g),.oldM 2 (dR d)] ?_
   simp [go_sem]
 | un a =>
   refine aS 3 57 [.tmp 4] Tryz.func119 rfl rfl rfl (by simp) (by decide) rfl fun X hX => ?_
   (repeat (refine aB q5x0 hX mixed rfl ?_; (simp [go_sem]; try (refine ⟨by kernel_rfl,?_⟩)))); (repeat (first | (refine aI ?_ ?_; (focus (simp [go_sem]; done)); (repeat (refine aB q5x0 hX mixed rfl ?_; (simp [go_sem]; try (refine ⟨by kernel_rfl,?_⟩))))) | (refine aG ?_ ?_; (focus (simp [go_sem]; done)); (repeat (refine aB q5x0 hX mixed rfl ?_; (simp [go_sem]; try (refine ⟨by kernel_rfl,?_⟩)))))))
   refine aK ?_; (try simp only [thenQ,blkQ,loopQ]); refine aJ [(4,bb false),(1000000,.ow 0),(1000001,.ow 1),(1000002,.ow 2)] [.old 0 jR,.oldM 1 (gR g),.oldM 2 (dR d)] ?_
   simp [go_sem,shareU]
 | ite a b c =>
   have c1 :=ih b he.2.1 (by simp only [E.lev] at hl; omega)
   have e1 : shareU d (.ite a b c) = shareU d b :=rfl
   rw [e1]
   refine aS 3 57 [.tmp 4] Tryz.func119 rfl rfl rfl (by simp) (by decide) rfl fun X hX => ?_
   (repeat (refine aB q5x0 hX mixed rfl ?_; (simp [go_sem]; try (refine ⟨by kernel_rfl,?_⟩)))); (repeat (first | (refine aI ?_ ?_; (focus (simp [go_sem]; done)); (repeat (refine aB q5x0 hX mixed rfl ?_; (simp [go_sem]; try (refine ⟨by kernel_rfl,?_⟩))))) | (refine aG ?_ ?_; (focus (simp [go_sem]; done)); (repeat (refine aB q5x0 hX mixed rfl ?_; (simp [go_sem]; try (refine ⟨by kernel_rfl,?_⟩)))))))
   first | refine aF [0,1,2] (c1) (by simp [go_sem]) ?_ | refine aD [0,1,2] (c1) (by simp [go_sem]) ?_ | refine aE [0,1,2] (c1) (by simp [go_sem]) ?_
   try (simp [go_sem]; try (refine ⟨by kernel_rfl,?_⟩))
   (repeat (refine aB q5x0 hX mixed rfl ?_; (simp [go_sem]; try (refine ⟨by kernel_rfl,?_⟩))))
   refine aK ?_; (try simp only [thenQ,blkQ,loopQ]); refine aJ [(4,bb (shareU d b)),(1000000,.ow 0),(1000001,.ow 1),(1000002,.ow 2)] [.old 0 jR,.oldM 1 (gR g),.oldM 2 (dR d)] ?_
   simp [go_sem]
 | bin o a b =>
   have hA :=ih a he.2.1 (by simp only [E.lev] at hl; omega)
   have hB :=ih b he.2.2 (by simp only [E.lev] at hl; omega)
   have ho :=he.1
   by_cases h1 : o = 2 ∨ o = 3 ∨ o = 6 ∨ o = 7
   · have e1 : shareU d (.bin o a b) = shareU d a :=by simp only [shareU]; rw [if_pos h1]
     rw [e1]
     clear ho he hl
     rcases h1 with rfl | rfl | rfl | rfl
     all_goals
      refine aS 3 57 [.tmp 4] Tryz.func119 rfl rfl rfl (by simp) (by decide) rfl fun X hX => ?_
      (repeat (refine aB q5x0 hX mixed rfl ?_; (simp [go_sem]; try (refine ⟨by kernel_rfl,?_⟩)))); (repeat (first | (refine aI ?_ ?_; (focus (simp [go_sem]; done)); (repeat (refine aB q5x0 hX mixed rfl ?_; (simp [go_sem]; try (refine ⟨by kernel_rfl,?_⟩))))) | (refine aG ?_ ?_; (focus (simp [go_sem]; done)); (repeat (refine aB q5x0 hX mixed rfl ?_; (simp [go_sem]; try (refine ⟨by kernel_rfl,?_⟩)))))))
      first | refine aF [0,1,2] (hA) (by simp [go_sem]) ?_ | refine aD [0,1,2] (hA) (by simp [go_sem]) ?_ | refine aE [0,1,2] (hA) (by simp [go_sem]) ?_
      try (simp [go_sem]; try (refine ⟨by kernel_rfl,?_⟩))
      (repeat (refine aB q5x0 hX mixed rfl ?_; (simp [go_sem]; try (refine ⟨by kernel_rfl,?_⟩))))
      refine aK ?_; (try simp only [thenQ,blkQ,loopQ]); refine aJ [(4,bb (shareU d a)),(1000000,.ow 0),(1000001,.ow 1),(1000002,.ow 2)] [.old 0 jR,.oldM 1 (gR g),.oldM 2 (dR d)] ?_
      simp [go_sem]
   by_cases h2 : o = 4
   · have e1 : shareU d (.bin o a b) = (shareU d a && shareU d b) :=by simp only [shareU]; rw [if_neg h1,if_pos h2]
     rw [e1]
     subst h2
     refine aS 3 57 [.tmp 4] Tryz.func119 rfl rfl rfl (by simp) (by decide) rfl fun X hX => ?_
     (repeat (refine aB q5x0 hX mixed rfl ?_; (simp [go_sem]; try (refine ⟨by kernel_rfl,?_⟩)))); (repeat (first | (refine aI ?_ ?_; (focus (simp [go_sem]; done)); (repeat (refine aB q5x0 hX mixed rfl ?_; (simp [go_sem]; try (refine ⟨by kernel_rfl,?_⟩))))) | (refine aG ?_ ?_; (focus (simp [go_sem]; done)); (repeat (refine aB q5x0 hX mixed rfl ?_; (simp [go_sem]; try (refine ⟨by kernel_rfl,?_⟩)))))))
     first | refine aF [0,1,2] (hA) (by simp [go_sem]) ?_ | refine aD [0,1,2] (hA) (by simp [go_sem]) ?_ | refine aE [0,1,2] (hA) (by simp [go_sem]) ?_
     try (simp [go_sem]; try (refine ⟨by kernel_rfl,?_⟩))
     first | refine bA [0,1,2] (fun hg => hB) (by simp [go_sem]) (by simp [go_sem]) ?_ | refine bD [0,1,2] (by simp [go_sem]) (hB) (by simp [go_sem]) ?_ | refine bC [0,1,2] (fun hg => hB) (by simp [go_sem]) ?_
     try (simp [go_sem]; try (refine ⟨by kernel_rfl,?_⟩))
     (repeat (refine aB q5x0 hX mixed rfl ?_; (simp [go_sem]; try (refine ⟨by kernel_rfl,?_⟩))))
     refine aK ?_; (try simp only [thenQ,blkQ,loopQ]); refine aJ [(4,bb (shareU d a && shareU d b)),(1000000,.ow 0),(1000001,.ow 1),(1000002,.ow 2)] [.old 0 jR,.oldM 1 (gR g),.oldM 2 (dR d)] ?_
     simp [go_sem]
   have e1 : shareU d (.bin o a b) = false :=by simp only [shareU]; rw [if_neg h1,if_neg h2]
   rw [e1]
   have n0 : ¬ o = 0 :=by omega
   have n1 : ¬ o = 1 :=by omega
   have n2 : ¬ o = 2 :=by omega
   have n3 : ¬ o = 3 :=by omega
   have n6 : ¬ o = 6 :=by omega
   have n7 : ¬ o = 7 :=by omega
   have n13 : ¬ o = 13 :=by omega
   refine aS 3 57 [.tmp 4] Tryz.func119 rfl rfl rfl (by simp) (by decide) rfl fun X hX => ?_
   (repeat (refine aB q5x0 hX mixed rfl ?_; (simp [go_sem,n0,n1,n2,n3,n6,n7,h2,n13]; try (refine ⟨by kernel_rfl,?_⟩)))); (repeat (first | (refine aI ?_ ?_; (focus (simp [go_sem,n0,n1,n2,n3,n6,n7,h2,n13]; done)); (repeat (refine aB q5x0 hX mixed rfl ?_; (simp [go_sem,n0,n1,n2,n3,n6,n7,h2,n13]; try (refine ⟨by kernel_rfl,?_⟩))))) | (refine aG ?_ ?_; (focus (simp [go_sem,n0,n1,n2,n3,n6,n7,h2,n13]; done)); (repeat (refine aB q5x0 hX mixed rfl ?_; (simp [go_sem,n0,n1,n2,n3,n6,n7,h2,n13]; try (refine ⟨by kernel_rfl,?_⟩)))))))
   refine aK ?_; (try simp only [thenQ,blkQ,loopQ]); refine aJ [(4,bb false),(1000000,.ow 0),(1000001,.ow 1),(1000002,.ow 2)] [.old 0 jR,.oldM 1 (gR g),.oldM 2 (dR d)] ?_
   simp [go_sem]
theorem xC (g : List (By × Int)) (d : List (By × Mn)) : ∀ (N : Nat) (e : E),okE e → e.lev ≤ N → MeansH Tryz.prog 119 (JH g d) [.el 0 2 0 0,ex e] (bb (shareU d e)) (JH g d)
 | 0,e,_,h => by cases e <;> simp [E.lev] at h
 | N + 1,e,he,hl => DR g d N (xC g d N) e he hl
end Go.Proofs.YtaolljbpencjnaaGreatDoor

namespace Go.Proofs.YtaolljbpencjnaaGreatDoor
open Go.RowKit Go.Ab
attribute [local irreducible] AWP Go.Ab.Sub Means MeansH CallK CallG CallT CallGT PanicH DefH
abbrev vr (v : By × Int) : AV :=.agg [ss v.1,ii v.2,ii 0]
@[go_sem] theorem xD {L : List (By × Int)} {k : Nat} (h : k < L.length) : nth (L.map vr) k = vr L[k] :=cX vr h
theorem rQ (s : By) (u : Int) : ∀ (g : List (By × Int)),(g.lookup s).isSome = false → updA Tryz.prog 9 (ss s) (ii u) (gm g) = some (gm (g ++ [(s,u)]))
 | [],_ => rfl
 | (a,v) :: g,h => by
   simp only [List.lookup_cons] at h
   by_cases e : s = a
   · subst e; simp at h
   · have h2 : (s == a) = false :=by simpa using e
     rw [h2] at h
     have ih :=rQ s u g h
     simp only [gm,List.map_cons,updA,dC,e,decide_false,List.cons_append] at ih ⊢
     rw [ih]; rfl
theorem xE (s : By) (m : Mn) : ∀ (g : List (By × Mn)),(∀ p ∈ g,p.1 ≠ s) → updA Tryz.prog 9 (ss s) (mnA m) (dm g) = some (dm (g ++ [(s,m)]))
 | [],_ => rfl
 | (a,v) :: g,h => by
   have e : ¬ s = a :=fun e => h (a,v) (by simp) e.symm
   have ih :=xE s m g (fun p hp => h p (by simp [hp]))
   simp only [dm,List.map_cons,updA,dC,e,decide_false,List.cons_append] at ih ⊢
   rw [ih]; rfl
def givS (g : List (By × Int)) (v : By × Int) : List (By × Int) :=if (g.lookup v.1).isSome then g else g ++ [v]
theorem jF (v : By × Int) : ∀ (l : List (By × Int)) (g : List (By × Int)),givU g (l ++ [v]) = givS (givU g l) v
 | [],g => by
   simp only [List.nil_append,givU,givS]
   split <;> rename_i h <;> simp [h]
 | x :: l,g => by
   rw [List.cons_append,givU,givU]
   exact jF v l _
def letS (g : List (By × Int)) (d : List (By × Mn)) (x : By × E) : By × Mn :=(x.1,⟨(unitU g d x.2).1,(unitU g d x.2).2,shareU d x.2⟩)
theorem kU (g : List (By × Int)) (x : By × E) : ∀ (l : List (By × E)) (d : List (By × Mn)),letsU g d (l ++ [x]) = letsU g d l ++ [letS g (letsU g d l) x]
 | [],d => rfl
 | y :: l,d => by
   rw [List.cons_append,letsU,letsU]
   exact kU g x l _
theorem mV (g : List (By × Int)) : ∀ (l : List (By × E)) (d : List (By × Mn)),(letsU g d l).map (·.1) = d.map (·.1) ++ l.map (·.1)
 | [],d => by simp [letsU]
 | y :: l,d => by rw [letsU,mV g l]; simp
theorem vB (g : List (By × Int)) {l : List (By × E)} (h : OkL l) {n : Nat} (hn : n < l.length) : ∀ p ∈ letsU g [] (l.take n),p.1 ≠ l[n].1 :=by
 intro p hp e
 have h1 : p.1 ∈ (letsU g [] (l.take n)).map (·.1) :=List.mem_map_of_mem hp
 rw [mV] at h1
 simp only [List.map_nil,List.nil_append,List.mem_map] at h1
 obtain ⟨x,hx,hx2⟩ :=h1
 obtain ⟨k,hk,rfl⟩ :=List.getElem_of_mem hx
 have hk2 : k < n :=by rw [List.length_take] at hk; omega
 rw [List.getElem_take] at hx2
 exact h.two k n (by omega) hn hk2 (hx2.trans e)
theorem CG (l : By × E) (h : OkE l.2) : Means true Tryz.prog 118 [lt l] (bb false) :=by
 have c1 :=cO l.2 h
 refine aH true 7 [.tmp 2] Tryz.func118 rfl rfl rfl (by simp) (by decide) rfl fun X hX => ?_
 (repeat (refine aA [0,1,2] hX mixed rfl ?_; (simp [go_sem]; try (refine ⟨by kernel_rfl,?_⟩))))
 first | refine aP (c1) ?_ | refine aQ (c1) ?_
 try (simp [go_sem]; try (refine ⟨by kernel_rfl,?_⟩))
 (repeat (refine aA [0,1,2] hX mixed rfl ?_; (simp [go_sem]; try (refine ⟨by kernel_rfl,?_⟩))))
set_option maxHeartbeats 8000000 in
set_option maxRecDepth 20000 in
theorem kV (L : List (By × E)) (V : List (By × Int)) (e : E) (hL : OkL L) (hV : V.length ≤ 100 ∧ ∀ v ∈ V,0 ≤ v.2 ∧ v.2 < 5) (he : OkE e) :
  MeansH Tryz.prog 87 [] [.sl (L.map lt),.sl (V.map vr),ex e] (.tup [.el 0 2 0 0,bb true]) (JH (givU [] V) (letsU (givU [] V) [] L)) :=by
 have c1 :=cO e he
 have hl :=hL.len
 have c2 :=xA 118 (fun _ => false) L (by omega) (fun x hx => CG x (hL.exp x hx)) (by simp [go_sem])
 have hany : (L.any fun _ => false) = false :=by simp
 rw [hany] at c2
 have hv :=hV.1
 have h20 : ¬ (20 : Int) < L.length :=by omega
 refine aS 0 96 [.tmp 6,.tmp 7] Tryz.func87 rfl rfl rfl (by simp) (by decide) rfl fun X hX => ?_
 (repeat (refine aB q5x1 hX mixed rfl ?_; (simp [go_sem,h20]; try (refine ⟨by kernel_rfl,?_⟩))))
 first | refine aX (fun hg => c1) ?_ | refine aW (fun hg => c1) ?_
 try (simp [go_sem]; try (refine ⟨by kernel_rfl,?_⟩))
 first | refine aX (fun hg => c2) ?_ | refine aW (fun hg => c2) ?_
 try (simp [go_sem]; try (refine ⟨by kernel_rfl,?_⟩))
 (repeat (refine aB q5x1 hX mixed rfl ?_; (simp [go_sem,h20]; try (refine ⟨by kernel_rfl,?_⟩))))
 refine aC (b :=false) (by simp [go_sem,h20]) (fun hb => by cases hb) (fun hb => ?_)
 (repeat (refine aB q5x1 hX mixed rfl ?_; (simp [go_sem]; try (refine ⟨by kernel_rfl,?_⟩))))
 refine aV (fun n : Nat => ⟨mkE [(0,.sl (L.map lt)),(5,.el 0 5 0 0),(8,.el 3 2 0 0),(33,.sl (V.map vr)),(34,ii V.length),(35,ii n)],
  [.row ⟨29,5,[ex e]⟩,.map (gR (givU [] (V.take n))),.map (dR []),.row jR]⟩) (fun n => n ≤ V.length) (fun n => V.length - n) 0 ?_ ?_ ?_
 · refine aM _ [.old 0 ⟨29,5,[ex e]⟩,.oldM 1 ⟨9,3,[]⟩,.oldM 2 ⟨9,185,[]⟩,.old 3 jR] (by simp [go_sem]) ?_
   simp [go_sem,gm,dm,givU]
 · simp
 · rintro n hn
   (repeat (refine aB q5x1 hX mixed rfl ?_; (simp [go_sem]; try (refine ⟨by kernel_rfl,?_⟩))))
   refine aC (b :=decide (n < V.length)) (by simp [go_sem]) (fun hc => ?_) (fun hc => ?_)
   · simp at hc
     have hq :=xD hc
     have wk :=w64 (x :=(n : Int) + 1) (by omega) (by omega)
     have hu :=hV.2 V[n] (List.getElem_mem hc)
     have hn1 : ¬ V[n].2 < 0 :=by omega
     have hn2 : ¬ 5 ≤ V[n].2 :=by omega
     have ht : givU [] (V.take (n + 1)) = givS (givU [] (V.take n)) V[n] :=by rw [List.take_succ_eq_append_getElem hc,jF]
     have hup :=rQ V[n].1 V[n].2 (givU [] (V.take n))
     generalize V[n] = v at *
     generalize givU [] (V.take n) = G at *
     (repeat (refine aB q5x1 hX mixed rfl ?_; (simp [go_sem,hc,hq,hn1,hn2]; try (refine ⟨by kernel_rfl,?_⟩))))
     refine aG (by simp [go_sem,hn1,hn2]) ?_
     (repeat (refine aB q5x1 hX mixed rfl ?_; (simp [go_sem,hq]; try (refine ⟨by kernel_rfl,?_⟩))))
     refine aC (b :=!(G.lookup v.1).isSome) (by simp [go_sem]) (fun hd => ?_) (fun hd => ?_)
     · have hd : (G.lookup v.1).isSome = false :=by simpa using hd
       have hup :=hup hd
       have e2 : givS G v = G ++ [v] :=by unfold givS; rw [hd]; simp
       (repeat (refine aB q5x1 hX mixed rfl ?_; (simp [go_sem,hup,wk]; try (refine ⟨by kernel_rfl,?_⟩))))
       refine ⟨n + 1,by omega,by omega,?_⟩
       rw [ht,e2]
       refine aM _ [.old 0 ⟨29,5,[ex e]⟩,.oldM 1 (gR (G ++ [v])),.oldM 2 (dR []),.old 3 jR] (by simp [go_sem]) ?_
       simp [go_sem]
     · have hd : (G.lookup v.1).isSome = true :=by simpa using hd
       have e2 : givS G v = G :=by unfold givS; rw [hd]; simp
       (repeat (refine aB q5x1 hX mixed rfl ?_; (simp [go_sem,wk]; try (refine ⟨by kernel_rfl,?_⟩))))
       refine ⟨n + 1,by omega,by omega,?_⟩
       rw [ht,e2]
       refine aM _ [.old 0 ⟨29,5,[ex e]⟩,.oldM 1 (gR G),.oldM 2 (dR []),.old 3 jR] (by simp [go_sem]) ?_
       simp [go_sem]
   · have hnn : n = V.length :=by simp at hc; omega
     subst hnn
     rw [List.take_of_length_le (Nat.le_refl _)]
     generalize givU [] V = G at *
     (repeat (refine aB q5x1 hX mixed rfl ?_; (simp [go_sem]; try (refine ⟨by kernel_rfl,?_⟩))))
     refine aV (fun n : Nat => ⟨mkE [(8,.el 3 2 0 0),(68,.sl (L.map lt)),(69,ii L.length),(70,ii n)],
      [.row ⟨29,5,[ex e]⟩,.map (gR G),.map (dR (letsU G [] (L.take n))),.row jR]⟩) (fun n => n ≤ L.length) (fun n => L.length - n) 0 ?_ ?_ ?_
     · refine aM _ [.old 0 ⟨29,5,[ex e]⟩,.oldM 1 (gR G),.oldM 2 (dR []),.old 3 jR] (by simp [go_sem]) ?_
       simp [go_sem,letsU]
     · simp
     · rintro n hn
       (repeat (refine aB q5x1 hX mixed rfl ?_; (simp [go_sem]; try (refine ⟨by kernel_rfl,?_⟩))))
       refine aC (b :=decide (n < L.length)) (by simp [go_sem]) (fun hc => ?_) (fun hc => ?_)
       · simp at hc
         have hq :=fF hc
         have wk :=w64 (x :=(n : Int) + 1) (by omega) (by omega)
         have hx :=hL.exp L[n] (List.getElem_mem hc)
         have ht : letsU G [] (L.take (n + 1)) = letsU G [] (L.take n) ++ [letS G (letsU G [] (L.take n)) L[n]] :=by rw [List.take_succ_eq_append_getElem hc,kU]
         have hoff :=vB G hL hc
         generalize letsU G [] (L.take n) = D at *
         have hup :=xE L[n].1 (letS G D L[n]).2 D hoff
         have d1 :=rS G D 12 L[n].2 hx.1 hx.2
         have d2 :=xC G D 12 L[n].2 hx.1 hx.2
         generalize L[n] = x at *
         (repeat (refine aB q5x1 hX mixed rfl ?_; (simp [go_sem,hc,hq]; try (refine ⟨by kernel_rfl,?_⟩))))
         first | refine aF [3,1,2] (d1) (by simp [go_sem]) ?_ | refine aD [3,1,2] (d1) (by simp [go_sem]) ?_ | refine aE [3,1,2] (d1) (by simp [go_sem]) ?_
         try (simp [go_sem]; try (refine ⟨by kernel_rfl,?_⟩))
         (repeat (refine aB q5x1 hX mixed rfl ?_; (simp [go_sem]; try (refine ⟨by kernel_rfl,?_⟩))))
         simp only [letS,mnA] at hup ht
         generalize D ++ [(x.1,({ u :=(unitU G D x.2).1,e :=(unitU G D x.2).2,sh :=shareU D x.2 } : Mn))] = D2 at hup ht
         first | refine aF [3,1,2] (d2) (by simp [go_sem]) ?_ | refine aD [3,1,2] (d2) (by simp [go_sem]) ?_ | refine aE [3,1,2] (d2) (by simp [go_sem]) ?_
         try (simp [go_sem,hup]; try (refine ⟨by kernel_rfl,?_⟩))
         (repeat (refine aB q5x1 hX mixed rfl ?_; (simp [go_sem,wk]; try (refine ⟨by kernel_rfl,?_⟩))))
         refine ⟨n + 1,by omega,by omega,?_⟩
         rw [ht]
         refine aM _ [.old 0 ⟨29,5,[ex e]⟩,.oldM 1 (gR G),.oldM 2 (dR D2),.old 3 jR] (by simp [go_sem]) ?_
         simp [go_sem]
       · have hnn : n = L.length :=by simp at hc; omega
         subst hnn
         rw [List.take_of_length_le (Nat.le_refl _)]
         (repeat (refine aB q5x1 hX mixed rfl ?_; (simp [go_sem]; try (refine ⟨by kernel_rfl,?_⟩))))
         refine aK ?_; (try simp only [thenQ,blkQ,loopQ]); refine aJ [(6,.el 0 2 0 0),(7,bb true)] [.old 3 jR,.oldM 1 (gR G),.oldM 2 (dR (letsU G [] L))] ?_
         simp [go_sem]
theorem xF (L : List (By × E)) (V : List (By × Int)) (e : E) (hL : OkL L) (hV : V.length ≤ 100 ∧ ∀ v ∈ V,0 ≤ v.2 ∧ v.2 < 5) (he : OkE e) :
  Means true Tryz.prog 47 [.sl (L.map lt),.sl (V.map vr),ex e] (.tup [ii (unitOf V L e).1,ii (unitOf V L e).2]) :=by
 have c1 :=kV L V e hL hV he
 have c2 :=rS (givU [] V) (letsU (givU [] V) [] L) 12 e he.1 he.2
 have e1 : unitOf V L e = unitU (givU [] V) (letsU (givU [] V) [] L) e :=rfl
 rw [e1]
 generalize givU [] V = G at *
 generalize letsU G [] L = D at *
 refine aH true 24 [.tmp 6,.tmp 7] Tryz.func47 rfl rfl rfl (by simp) (by decide) rfl fun X hX => ?_
 (repeat (refine aA q5x3 hX mixed rfl ?_; (simp [go_sem]; try (refine ⟨by kernel_rfl,?_⟩))))
 first | refine aF [] (c1) (by simp [go_sem]) ?_ | refine aD [] (c1) (by simp [go_sem]) ?_ | refine aE [] (c1) (by simp [go_sem]) ?_
 try (simp [go_sem]; try (refine ⟨by kernel_rfl,?_⟩))
 (repeat (refine aA q5x3 hX mixed rfl ?_; (simp [go_sem]; try (refine ⟨by kernel_rfl,?_⟩))))
 refine aG (by simp [go_sem]) ?_
 (repeat (refine aA q5x3 hX mixed rfl ?_; (simp [go_sem]; try (refine ⟨by kernel_rfl,?_⟩))))
 first | refine aF [1,2,3] (c2) (by simp [go_sem]) ?_ | refine aD [1,2,3] (c2) (by simp [go_sem]) ?_ | refine aE [1,2,3] (c2) (by simp [go_sem]) ?_
 try (simp [go_sem]; try (refine ⟨by kernel_rfl,?_⟩))
 (repeat (refine aA q5x3 hX mixed rfl ?_; (simp [go_sem]; try (refine ⟨by kernel_rfl,?_⟩))))
theorem tI (L : List (By × E)) (e : E) (hL : OkL L) (he : OkE e) :
  Means true Tryz.prog 187 [.sl (L.map lt),ex e] (bb (shareOf L e)) :=by
 have c1 :=kV L [] e hL ⟨by simp,by simp⟩ he
 have c2 :=xC [] (letsU [] [] L) 12 e he.1 he.2
 have e1 : shareOf L e = shareU (letsU [] [] L) e :=rfl
 rw [e1]
 simp only [givU,List.map_nil] at c1
 generalize letsU [] [] L = D at *
 refine aH true 19 [.tmp 4] Tryz.func187 rfl rfl rfl (by simp) (by decide) rfl fun X hX => ?_
 (repeat (refine aA [0,1,3,4,5,6] hX mixed rfl ?_; (simp [go_sem]; try (refine ⟨by kernel_rfl,?_⟩))))
 first | refine aF [] (c1) (by simp [go_sem]) ?_ | refine aD [] (c1) (by simp [go_sem]) ?_ | refine aE [] (c1) (by simp [go_sem]) ?_
 try (simp [go_sem]; try (refine ⟨by kernel_rfl,?_⟩))
 (repeat (refine aA [0,1,3,4,5,6] hX mixed rfl ?_; (simp [go_sem]; try (refine ⟨by kernel_rfl,?_⟩))))
 first | refine bA [1,2,3] (fun hg => c2) (by simp [go_sem]) (by simp [go_sem]) ?_ | refine bD [1,2,3] (by simp [go_sem]) (c2) (by simp [go_sem]) ?_ | refine bC [1,2,3] (fun hg => c2) (by simp [go_sem]) ?_
 try (simp [go_sem]; try (refine ⟨by kernel_rfl,?_⟩))
 (repeat (refine aA [0,1,3,4,5,6] hX mixed rfl ?_; (simp [go_sem]; try (refine ⟨by kernel_rfl,?_⟩))))
end Go.Proofs.YtaolljbpencjnaaGreatDoor

namespace Go.Ab
open Go.RowKit
section
variable {P : Program} {w w' : World} {M : Nat → Prop} {loc : Nat → Value}
theorem RR.other {X : Ctx} {st : St} {a : Act} (h : RR X M loc st a w) {r : Nat} (hg : w.grownBy w' (some r)) (hM : ¬ M r) (hB : ¬ blks st.heap loc r) (hown : X.own r) : RR X M loc st a w' :=by
 have hb : ∀ b,M b → w'.heap[b]? = w.heap[b]? :=fun b hb => hg.block b (h.zone b hb).1 (fun e => by cases e; exact hM hb)
 refine ⟨fun s => Rep.mono (n :=st.heap.length) hb (fun _ h => h) (fun _ _ => rfl) (h.env s) (h.ids s),h.nle,h.size,h.defers,fun id o ho => ?_,h.sep,fun id m hm => ?_,h.msep,?_,fun b hb => ⟨Nat.lt_of_lt_of_le (h.zone b hb).1 hg.size,(h.zone b hb).2⟩,h.zin,h.zlt,h.one,h.ids⟩
 · refine (h.obj id o ho).kept hg ?_ (fun g e => by cases e; exact hM) (fun b hb => (h.zone b hb).1) (fun _ _ => rfl) (Nat.le_refl _)
   cases hb : (loc id).ownBlock with
   | none => exact .inl rfl
   | some b => exact .inr fun e => by cases e; exact hB (.inl ⟨id,o,ho,hb⟩)
 · obtain ⟨g,es,c,h1,h2,h3,h4,h5⟩ :=(h.mobj id m hm).own
   have hgr : g ≠ r :=fun e => hB (.inr ⟨id,m,hm,by rw [h1,e]⟩)
   exact ⟨g,es,c,h1,h2,h3,by rw [hg.block g (Array.getElem?_eq_some_iff.1 h4).1 (fun e => hgr (by cases e; rfl))]; exact h4,h5.mono hb (fun _ h => h)⟩
 · refine ⟨hg.os.trans h.below.os,hg.tape.trans h.below.tape,hg.output.trans h.below.output,Nat.le_trans h.below.size hg.size,fun k hk hT => ?_⟩
   rw [hg.block k (Nat.lt_of_lt_of_le hk h.below.size) (fun e => by
    cases e
    rcases hown with h1 | h1
    · omega
    · exact hT h1)]
   exact h.below.block k hk hT
structure Same (X X' : Ctx) : Prop where
 n : X'.n = X.n
 gh : X'.gh = X.gh
 dl : X'.dl = X.dl
structure Base (X' : Ctx) (w : World) (M : Nat → Prop) (T : Nat → Prop) : Prop where
 w0 : X'.w0 = w
 Z : X'.Z = M
 T : X'.T = T
theorem RR.heapS {X : Ctx} {st : St} {a : Act} (h : RR X M loc st a w) : HeapS X.own M loc st.heap w :=⟨h.obj,h.sep,h.mobj,h.msep,h.one⟩
theorem RR.blk_own {X : Ctx} {st : St} {a : Act} (h : RR X M loc st a w) {b : Nat} (hb : blks st.heap loc b) : X.own b :=by
 rcases hb with ⟨id,o,ho,hg⟩ | ⟨id,m,hm,hg⟩
 · exact (h.obj id o ho).mine b hg
 · obtain ⟨g,es,c,h1,h2,_⟩ :=(h.mobj id m hm).own
   rw [hg] at h1; cases h1; exact h2
theorem RR.rebase {X : Ctx} {st : St} {a : Act} (h : RR X M loc st a w) : ∃ X',Same X X' ∧ Base X' w M (blks st.heap loc) ∧ RR X' M loc st a w :=by
 have hH :=h.heapS
 have hgl : GlobW w M :=h.globW fun _ h => h
 refine ⟨⟨w,M,X.n,blks st.heap loc,X.gh,⟨hgl,fun p hp hb => eE hH hb (hgl.1 p hp).1,fun g hg hb => eE hH hb (hgl.2 g hg).1⟩,X.dl⟩,⟨rfl,rfl,rfl⟩,⟨rfl,rfl,rfl⟩,?_⟩
 refine ⟨h.env,h.nle,h.size,h.defers,fun id o ho => ?_,h.sep,fun id m hm => ?_,h.msep,⟨rfl,rfl,rfl,Nat.le_refl _,fun _ _ _ => rfl⟩,fun b hb => ⟨(h.zone b hb).1,.inl hb⟩,fun b hb => hb,fun b hb => (h.zone b hb).1,h.one,h.ids⟩
 · have ho2 :=h.obj id o ho
   exact ⟨ho2.own,ho2.flat,ho2.away,fun g hg => .inr (.inl ⟨id,o,ho,hg⟩)⟩
 · obtain ⟨g,es,c,h1,h2,h3⟩ :=(h.mobj id m hm).own
   exact ⟨g,es,c,h1,.inr (.inr ⟨id,m,hm,h1⟩),h3⟩
theorem RR.unbase {X X' : Ctx} {M0 : Nat → Prop} {loc0 : Nat → Value} {st0 st : St} {a0 a : Act} {w0 : World} (h0 : RR X M0 loc0 st0 a0 w0) (s : Same X X') (b : Base X' w0 M0 (blks st0.heap loc0)) (h : RR X' M loc st a w) : RR X M loc st a w :=by
 have hown : ∀ b,X'.own b → X.own b :=fun k hk => by
  rcases hk with hk | hk
  · rw [b.w0] at hk; exact .inl (Nat.le_trans h0.below.size hk)
  · rw [b.T] at hk; exact h0.blk_own hk
 have hbel :=h.below
 rw [b.w0,b.T] at hbel
 refine ⟨fun k => ?_,by rw [← s.n]; exact h.nle,by rw [← s.n]; exact h.size,by rw [← s.dl]; exact h.defers,fun id o ho => ?_,h.sep,fun id m hm => ?_,h.msep,?_,fun k hk => ?_,fun k hk => ?_,h0.zlt,h.one,h.ids⟩
 · have :=h.env k
   rwa [s.gh] at this
 · have ho2 :=h.obj id o ho
   exact ⟨ho2.own,ho2.flat,ho2.away,fun g hg => hown g (ho2.mine g hg)⟩
 · obtain ⟨g,es,c,h1,h2,h3⟩ :=(h.mobj id m hm).own
   exact ⟨g,es,c,h1,hown g h2,h3⟩
 · refine ⟨hbel.os.trans h0.below.os,hbel.tape.trans h0.below.tape,hbel.output.trans h0.below.output,Nat.le_trans h0.below.size hbel.size,fun k hk hT => ?_⟩
   rw [hbel.block k (Nat.lt_of_lt_of_le hk h0.below.size) (fun hb => by
    rcases h0.blk_own hb with h1 | h1
    · omega
    · exact hT h1)]
   exact h0.below.block k hk hT
 · refine ⟨(h.zone k hk).1,?_⟩
   rcases (h.zone k hk).2 with h1 | h1
   · rw [b.Z] at h1; exact (h0.zone k h1).2
   · exact .inr (hown k h1)
 · exact h.zin k (by rw [b.Z]; exact h0.zin k hk)
structure Frozen (X : Ctx) (g : Nat) (l : List (AV × AV)) (es : Array MapEntry) (c : Nat) : Prop where
 lt : g < X.w0.heap.size
 nT : ¬ X.T g
 nZ : ¬ X.Z g
 zT : ∀ b,X.Z b → ¬ X.T b
 mem : X.w0.heap[g]? = some (.map es c)
 ent : EntOK X.w0 X.Z es c l
theorem Frozen.here {X : Ctx} {g : Nat} {l : List (AV × AV)} {es : Array MapEntry} {c : Nat} (f : Frozen X g l es c) {st : St} {a : Act} (h : RR X M loc st a w) :
  w.heap[g]? = some (.map es c) ∧ EntOK w M es c l ∧ ¬ M g ∧ ¬ X.own g :=by
 have hno : ¬ X.own g :=fun h => by
  rcases h with h | h
  · have :=f.lt; omega
  · exact f.nT h
 refine ⟨by rw [h.below.block g f.lt f.nT]; exact f.mem,f.ent.mono (fun b hb => h.below.block b (h.zlt b hb) (f.zT b hb)) h.zin,fun hM => ?_,hno⟩
 rcases (h.zone g hM).2 with h1 | h1
 · exact f.nZ h1
 · exact hno h1
theorem Frozen.base {X X' : Ctx} {g : Nat} {l : List (AV × AV)} {es : Array MapEntry} {c : Nat} (f : Frozen X g l es c) {st : St} {a : Act} (h : RR X M loc st a w) (b : Base X' w M (blks st.heap loc)) : Frozen X' g l es c :=by
 obtain ⟨h1,h2,h3,h4⟩ :=f.here h
 refine ⟨by rw [b.w0]; exact (Array.getElem?_eq_some_iff.1 h1).1,?_,by rw [b.Z]; exact h3,?_,by rw [b.w0]; exact h1,by rw [b.w0,b.Z]; exact h2⟩
 · rw [b.T]; exact fun hb => h4 (h.blk_own hb)
 · rw [b.T,b.Z]; exact fun k hk hb => eE h.heapS hb hk
theorem eS {H : List Cell} {i id : Nat} {x : Cell} (hx : x ≠ .dead) (h : (H.set i .dead)[id]? = some x) : id ≠ i ∧ H[id]? = some x :=by
 rw [List.getElem?_set] at h
 split at h
 · split at h
   · cases h; exact absurd rfl hx
   · cases h
 · rename_i hne; exact ⟨fun e => hne e.symm,h⟩
theorem RR.demap {X : Ctx} {st : St} {a : Act} (h : RR X M loc st a w) {t mj : Nat} {m : MOb} (ht : st.env t = .ow mj) (hm : st.heap[mj]? = some (.map m)) :
  ∃ g es c,loc mj = .map (some g) ∧ RR X M loc ⟨upd st.env t (.v (.map (some g))),st.heap.set mj .dead⟩ a w ∧ w.heap[g]? = some (.map es c) ∧ EntOK w M es c m.es ∧ ¬ M g ∧ X.own g ∧ ¬ blks (st.heap.set mj .dead) loc g :=by
 obtain ⟨g,es,c,h1,h2,h3,h4,h5⟩ :=(h.mobj mj m hm).own
 refine ⟨g,es,c,h1,⟨fun s => ?_,h.nle,h.size,h.defers,fun id o ho => ?_,fun i j oi oj hij hi hj => ?_,fun id mm hmm => ?_,fun i j mi mj2 hij hi hj => ?_,h.below,h.zone,h.zin,h.zlt,fun id hid => h.one id (by simpa using hid),fun s => ?_⟩,h4,h5,h3,h2,?_⟩
 · have hs :=h.env s
   show Rep w M loc _ (upd st.env t _ s)
   by_cases e : s = t
   · subst e
     rw [cV]
     rw [ht] at hs
     have e2 : (if s < G0 then a.tmps.getD s undef else X.gh (s - G0)) = loc mj :=hs
     rw [e2,h1]
     exact (RepZ.v _).rep
   · rw [bI _ _ _ e]; exact hs
 · have :=h.obj id o (eS (by simp) ho).2
   simpa using this
 · exact h.sep i j oi oj hij (eS (by simp) hi).2 (eS (by simp) hj).2
 · exact h.mobj id mm (eS (by simp) hmm).2
 · exact h.msep i j mi mj2 hij (eS (by simp) hi).2 (eS (by simp) hj).2
 · have :=h.ids s
   simp only [upd]
   split
   · trivial
   · simpa using this
 · rintro (⟨id,o,ho,hb⟩ | ⟨id,m2,hm2,hb⟩)
   · obtain ⟨xs,hown,_⟩ :=(h.obj id o (eS (by simp) ho).2).own
     obtain ⟨cs,t,fr,hc⟩ :=bK hown g hb
     rw [h4] at hc; cases hc
   · obtain ⟨hne,hm3⟩ :=eS (by simp) hm2
     exact h.msep id mj m2 m hne hm3 hm (by rw [hb,h1])
theorem RR.remap {X : Ctx} {E : Nat → AV} {H : List Cell} {a : Act} {t g : Nat} {m : MOb} {es : Array MapEntry} {c : Nat} (h : RR X M loc ⟨upd E t (.v (.map (some g))),H⟩ a w) (h4 : w.heap[g]? = some (.map es c)) (h5 : EntOK w M es c m.es) (h3 : ¬ M g) (h2 : X.own g) (hB : ¬ blks H loc g)  :
  RR X M (fun id => if id = H.length then .map (some g) else loc id) ⟨upd E t (.ow H.length),H ++ [.map m]⟩ a w :=by
 have hl : ∀ id,id < H.length → (fun id => if id = H.length then Value.map (some g) else loc id) id = loc id :=fun id hid => if_neg (by omega)
 have hget : ∀ {id x},(H ++ [Cell.map m])[id]? = some x → (id < H.length ∧ H[id]? = some x) ∨ (id = H.length ∧ x = .map m) :=by
  intro id x hx
  by_cases hid : id < H.length
  · rw [List.getElem?_append_left hid] at hx; exact .inl ⟨hid,hx⟩
  · rw [List.getElem?_append_right (by omega)] at hx
    have : id - H.length = 0 :=by
     have :=(List.getElem?_eq_some_iff.1 hx).1
     simp at this; omega
    rw [this] at hx
    simp at hx
    exact .inr ⟨by omega,hx.symm⟩
 refine ⟨fun s => ?_,h.nle,h.size,h.defers,fun id o ho => ?_,fun i j oi oj hij hi hj => ?_,fun id mm hmm => ?_,fun i j mi mj hij hi hj => ?_,h.below,h.zone,h.zin,h.zlt,fun id hid => ?_,fun s => ?_⟩
 · have hs :=h.env s
   show Rep w M _ _ (upd E t _ s)
   by_cases e : s = t
   · subst e
     rw [show (⟨upd E s (AV.v (.map (some g))),H⟩ : St).env s = .v (.map (some g)) from cV _ _ _] at hs
     rw [cV]
     have e2 :=hs.v_inv
     rw [e2]
     refine RepO.rep (e :=.ow H.length) ?_
     show _ = _
     simp
   · rw [show (⟨upd E t (AV.v (.map (some g))),H⟩ : St).env s = E s from bI _ _ _ e] at hs
     rw [bI _ _ _ e]
     refine Rep.mono (n :=H.length) (fun _ _ => rfl) (fun _ h => h) hl hs ?_
     have :=h.ids s
     rw [show (⟨upd E t (AV.v (.map (some g))),H⟩ : St).env s = E s from bI _ _ _ e] at this
     exact this
 · rcases hget ho with ⟨hid,ho⟩ | ⟨_,e⟩
   · show ObjOK X.own w M _ _ (if id = H.length then _ else _) o
     rw [if_neg (by omega)]
     have hob :=h.obj id o ho
     obtain ⟨xs,q1,q2⟩ :=hob.own
     exact ⟨⟨xs,q1,fun j e he => by
      obtain ⟨x,hx,hr⟩ :=q2 j e he
      exact ⟨x,hx,hr.mono (fun _ _ => rfl) (fun _ h => h) hl (by simp)⟩⟩,hob.flat,hob.away,hob.mine⟩
   · cases e
 · rcases hget hi with ⟨hil,hi⟩ | ⟨_,e⟩
   · rcases hget hj with ⟨hjl,hj⟩ | ⟨_,e⟩
     · simp only [if_neg (show i ≠ H.length by omega),if_neg (show j ≠ H.length by omega)]
       exact h.sep i j oi oj hij hi hj
     · cases e
   · cases e
 · rcases hget hmm with ⟨hid,hmm⟩ | ⟨rfl,e⟩
   · simp only [if_neg (show id ≠ H.length by omega)]
     exact h.mobj id mm hmm
   · cases e
     simp only [if_pos]
     exact ⟨g,es,c,rfl,h2,h3,h4,h5⟩
 · rcases hget hi with ⟨hil,hi⟩ | ⟨rfl,e⟩
   · simp only [if_neg (show i ≠ H.length by omega)]
     rcases hget hj with ⟨hjl,hj⟩ | ⟨rfl,e⟩
     · simp only [if_neg (show j ≠ H.length by omega)]
       exact h.msep i j mi mj hij hi hj
     · simp only [if_pos]
       exact fun e => hB (.inr ⟨i,mi,hi,e⟩)
   · rcases hget hj with ⟨hjl,hj⟩ | ⟨rfl,e⟩
     · simp only [if_pos,if_neg (show j ≠ H.length by omega)]
       exact fun e => hB (.inr ⟨j,mj,hj,e.symm⟩)
     · exact absurd rfl hij
 · show Value.oneCell' (if id = H.length then _ else loc id) = true
   split
   · rfl
   · rename_i hne
     exact h.one id (by simp at hid; show id < H.length; omega)
 · have :=h.ids s
   simp only [upd] at this ⊢
   split
   · show H.length < (H ++ [Cell.map m]).length; simp
   · rename_i e
     rw [if_neg e] at this
     exact AV.idLt_up (by simp) this
def frzQ (X' : Ctx) (E : Nat → AV) (t g : Nat) (H : List Cell) (d : Prop) (Q : Exit → St → Prop) : Exit → St → Prop
 | .normal,st => d ∧ Sub X' ⟨upd E t (.v (.map (some g))),H⟩ st
 | e,st => Q e st
theorem rT {X : Ctx} {Q : Exit → St → Prop} {st : St} {c : Code} {t mj : Nat} {m : MOb} (d : Prop) (E : Nat → AV) (H : List Cell) (ht : st.env t = .ow mj) (hm : st.heap[mj]? = some (.map m))
  (h : ∀ X' g es cl,Same X X' → Frozen X' g m.es es cl → AWP P X' c (frzQ X' E t g H d Q) ⟨upd st.env t (.v (.map (some g))),st.heap.set mj .dead⟩)
  (hq : d → Q .normal ⟨upd E t (.ow H.length),H ++ [.map m]⟩) : AWP P X c Q st :=by
 rintro a w ⟨M,loc,hr⟩
 obtain ⟨g,es,cl,h1,h2,h3,h4,h5,h6,h7⟩ :=hr.demap ht hm
 obtain ⟨X',hs,hb,hr'⟩ :=h2.rebase
 have hf : Frozen X' g m.es es cl :=by
  refine ⟨by rw [hb.w0]; exact (Array.getElem?_eq_some_iff.1 h3).1,by rw [hb.T]; exact h7,by rw [hb.Z]; exact h5,?_,by rw [hb.w0]; exact h3,by rw [hb.w0,hb.Z]; exact h4⟩
  rw [hb.Z,hb.T]
  exact fun b hz hbk => eE h2.heapS hbk hz
 refine wp_mono (h X' g es cl hs hf a w ⟨M,loc,hr'⟩) fun e a' w' ⟨st',hq',hr2⟩ => ?_
 have other : Q e st' → ∃ st',Q e st' ∧ R X st' a' w' :=fun hq' => by
  obtain ⟨M2,loc2,hr2⟩ :=hr2
  exact ⟨st',hq',M2,loc2,h2.unbase hs hb hr2⟩
 cases e with
 | normal =>
   obtain ⟨M2,loc2,hr3⟩ :=hq'.2 a' w' hr2
   obtain ⟨k1,k2,k3,k4⟩ :=hf.here hr3
   exact ⟨_,hq hq'.1,M2,_,(h2.unbase hs hb hr3).remap k1 k2 k3 h6 (fun hbk => k4 (hr3.blk_own hbk))⟩
 | _ => exact other hq'
theorem bW {ops : Array Oper} {Q : Exit → Act → World → Prop} {o : Oper} {l : List Oper} {a : Act} {v : Value} (hg : o.guard = none) (hr : (execOp a.eval o).run P w = .ok (.value v) w') (h : wpList P ops Q l (a.put o.dst v) w') : wpList P ops Q (o :: l) a w :=by
 unfold wpList
 rw [if_pos (by simp [Region.wanted,hg])]
 refine .inl ?_
 unfold Oper.wp
 rw [hr]
 exact h
theorem xG (f : Nat → AV) (s : Nat) {x : AV} (h : f s = x) : upd f s x = f :=by
 funext t
 simp only [upd]
 split
 · rename_i e; rw [e,h]
 · rfl
theorem RR.putB {X : Ctx} {st : St} {a : Act} (h : RR X M loc st a w) {d : Nat} (hd : d < X.n) (hb : st.env d = .bad) (x : Value) : RR X M loc st (a.put (some d) x) w :=by
 have :=h.put (d :=d) (e :=.bad) hd (x :=x) (RepZ.bad x).rep trivial
 rw [xG _ _ hb] at this
 exact this
theorem RR.evalAt {X : Ctx} {st : St} {a : Act} (h : RR X M loc st a w) {d : Nat} (hd : d < X.n) (x : Value) : (a.put (some d) x).eval (.tmp d) = x :=by
 have : (a.tmps.setIfInBounds d x).getD d undef = x :=by
  rw [Array.getD_eq_getD_getElem?,Array.getElem?_setIfInBounds_self_of_lt (by rw [h.size]; exact hd)]; rfl
 exact this
theorem vC {env : Nat → AV} {s : Nat} {x : Value} (hs : s < G0) (h : env s = .v x) : Ab.ev env (.tmp s) = .v x :=by simp [Ab.ev,h,hs]
def rngQ (X' : Ctx) (S : St) (d : Prop) (Q : Exit → St → Prop) : Exit → St → Prop
 | .normal,st => d ∧ Sub X' S st
 | .ret,st => Q .ret st
 | _,_ => False
theorem vE {X : Ctx} {Q : Exit → St → Prop} {st : St} {rest : Code} {bk k3 i7 i8 i9 s d1 it nx ok en ev d9 T K V g c t1 t2 t3 t4 t5 t6 t7 : Nat} {p1 p2 p3 p4 p5 p6 p7 : String} {f1 f2 f3 f4 f5 f6 f7 : Array Edge} {l : List (AV × AV)} {es : Array MapEntry} (D : Nat → Prop)
  (hT : P.underlying T = some (.map K V)) (f : Frozen X g l es c) (hs : st.env s = .v (.map (some g)))
  (hz : ∀ q ∈ l,q.2.zone = true) (hlt : s < X.n ∧ d1 < X.n ∧ it < X.n ∧ nx < X.n ∧ ok < X.n ∧ en < X.n ∧ ev < X.n ∧ d9 < X.n) (hne : d1 ≠ it ∧ nx ≠ it ∧ ok ≠ it ∧ en ≠ it ∧ ev ≠ it ∧ d9 ≠ it)
  (hb1 : st.env d1 = .bad) (hb3 : st.env nx = .bad) (hb4 : st.env ok = .bad) (hb5 : st.env en = .bad) (hb6 : st.env ev = .bad)
  (hbody : ∀ X' r j q,Same X X' → Frozen X' g l es c → l[j]? = some q → AWP P X' rest (rngQ X' ⟨upd st.env it (.v (.pointer (some ⟨r,0,none⟩))),st.heap⟩ (D j) Q) ⟨upd (upd st.env it (.v (.pointer (some ⟨r,0,none⟩)))) d9 q.2,st.heap⟩)
  (hend : (∀ j,j < l.length → D j) → ∀ r,Q .normal ⟨upd st.env it (.v (.pointer (some ⟨r,0,none⟩))),st.heap⟩) :
  AWP P X (.seq (.region i7 #[⟨some d1,.move (.tmp s),t1,p1,f1,none⟩,⟨some it,.range T (.tmp d1),t2,p2,f2,none⟩] false)
   (.block bk (.loop (.seq (.region i8 #[⟨some nx,.next (.tmp it) false,t3,p3,f3,none⟩,⟨some ok,.extract (.tmp nx) 0,t4,p4,f4,none⟩] false)
    (.seq (.cond (.tmp ok) .skip (.exit bk)) (.block k3 (.seq (.region i9 #[⟨some en,.entry (.tmp it),t5,p5,f5,none⟩,⟨some ev,.extract (.tmp en) 1,t6,p6,f6,none⟩,⟨some d9,.assign (.tmp ev),t7,p7,f7,none⟩] false) rest))))))) Q st :=by
 obtain ⟨l0,l1,l2,l3,l4,l5,l6,l7⟩ :=hlt
 obtain ⟨n1,n3,n4,n5,n6,n7⟩ :=hne
 rintro a w ⟨M,loc,hr⟩
 obtain ⟨hg,hent,hgM,hgo⟩ :=f.here hr
 have hev : a.eval (.tmp s) = .map (some g) :=by
  have :=hr.ev (.tmp s)
  rw [show Ab.ev st.env (.tmp s) = .v (.map (some g)) from vC (Nat.lt_of_lt_of_le l0 hr.nle) hs] at this
  exact this.v_inv
 refine wp_seq (wp_region_list ?_)
 refine bW (v :=.map (some g)) (w' :=w) rfl (by simp [execOp,hev]) ?_
 have h1 :=hr.putB l1 hb1 (.map (some g))
 refine bW (v :=.pointer (some ⟨w.heap.size,0,none⟩)) (w' :=w.alloc (.mapIter (some g) c #[] c)) rfl (by simp [execOp,hr.evalAt l1,run_range_map w T K V g es c hT hg]) ?_
 have hbel : Below w.heap.size w (w.alloc (.mapIter (some g) c #[] c)) :=⟨rfl,rfl,rfl,by simp,fun k hk => Below.heap_alloc w _ k hk⟩
 have h2 :=h1.world hbel (fun _ hb => hb) (fun b hb => .inl hb)
 have h3 :=h2.put (d :=it) (e :=.v (.pointer (some ⟨w.heap.size,0,none⟩))) l2 (RepZ.v _).rep trivial
 refine wp_block ?_
 let S : Nat → St :=fun r => ⟨upd st.env it (.v (.pointer (some ⟨r,0,none⟩))),st.heap⟩
 let I : Act → World → Prop :=fun a' w' => ∃ M loc r seen,RR X M loc (S r) a' w' ∧ w'.heap[r]? = some (.mapIter (some g) c seen c) ∧ X.w0.heap.size ≤ r ∧ ¬ M r ∧ ¬ blks st.heap loc r ∧ ∀ j e,es[j]? = some e → seen.contains e.born = true → D j
 let μ : Act → World → Nat :=fun a w => match a.eval (.tmp it) with
  | .pointer (some ⟨r,_,_⟩) => match w.heap[r]? with
    | some (.mapIter _ _ seen _) => (leftOf es seen).size
    | _ => 0
  | _ => 0
 refine wp_loop I μ ⟨M,loc,w.heap.size,#[],h3,heap_alloc_new w _,hr.below.size,fun hm => ?_,fun hb => ?_,fun j e _ h => by simp at h⟩ fun a' w' hI => ?_
 · have :=(hr.zone _ hm).1; omega
 · rcases hb with ⟨id,o,ho,hb⟩ | ⟨id,m,hm,hb⟩
   · obtain ⟨xs,hown,_⟩ :=(hr.obj id o ho).own
     have :=(hown.lt _ hb).2; omega
   · obtain ⟨g2,es2,c2,q1,q2,q3,q4,_⟩ :=(hr.mobj id m hm).own
     rw [hb] at q1
     cases q1
     have :=(Array.getElem?_eq_some_iff.1 q4).1; omega
 clear h1 h2 h3 hbel hev hg hent hgM hgo hr
 obtain ⟨M,loc,r,seen,hR,hit,hr0,hrM,hrB,hD⟩ :=hI
 obtain ⟨hg,hent,hgM,hgo⟩ :=f.here hR
 have hptr : a'.eval (.tmp it) = .pointer (some ⟨r,0,none⟩) :=by
  have :=hR.ev (.tmp it)
  rw [show Ab.ev (S r).env (.tmp it) = .v (.pointer (some ⟨r,0,none⟩)) from vC (Nat.lt_of_lt_of_le l2 hR.nle) (cV _ _ _)] at this
  exact this.v_inv
 have bad : ∀ {d},d ≠ it → st.env d = .bad → (S r).env d = .bad :=fun h1 h2 => (bI _ _ _ h1).trans h2
 have hmem : ∀ x ∈ es.toList,∃ j,es[j]? = some x :=fun x hx => by
  obtain ⟨j,hj⟩ :=List.getElem?_of_mem hx
  exact ⟨j,by simpa using hj⟩
 refine wp_seq (wp_region_list ?_)
 rcases run_next_at (P :=P) w' t3 r g c c seen es c hit hg (fun x hx => by obtain ⟨j,hj⟩ :=hmem x hx; exact hent.old j x hj) (Nat.le_refl _) with ⟨h0,hrun⟩ | ⟨e,he,w1,hw1,hrun⟩
 · refine bW (v :=.tuple #[.bool false]) (w' :=w') rfl (by simp [execOp,hptr,hrun]) ?_
   have k1 :=hR.putB l3 (bad n3 hb3) (.tuple #[.bool false])
   refine bW (v :=.bool false) (w' :=w') rfl (by simp [execOp,hR.evalAt l3,Instr.extract]) ?_
   have k2 :=k1.putB l4 (bad n4 hb4) (.bool false)
   refine wp_seq (wp_cond_false (k1.evalAt l4 _) (wp_exit ?_))
   simp only [Exit.then,Exit.inBlock,if_true]
   exact ⟨S r,hend (fun j hj => by
    have hj2 : j < es.size :=by rw [hent.sz]; exact hj
    exact hD j _ (Array.getElem?_eq_getElem hj2) (all_seen es seen h0 _ (by simp))) r,M,loc,k2⟩
 · obtain ⟨hem,hes⟩ :=mem_left he
   have hr1 : w1.heap[r]? = some (.mapIter (some g) c seen c) :=by rcases hw1 with rfl | rfl <;> exact hit
   have hset : (ChangeMaps.setBlock w1 r (.mapIter (some g) c (seen.push e.born) c)).heap[r]? = some (.mapIter (some g) c (seen.push e.born) c) ∧ ∀ r',r' ≠ r → (ChangeMaps.setBlock w1 r (.mapIter (some g) c (seen.push e.born) c)).heap[r']? = w1.heap[r']? :=MapKept.heap_set hr1
   have hgr : g ≠ r :=fun e => by rw [e,hit] at hg; cases hg
   generalize hw2 : ChangeMaps.setBlock w1 r (.mapIter (some g) c (seen.push e.born) c) = w2 at hrun hset
   have hgb : w'.grownBy w2 (some r) :=by
    subst hw2
    rcases hw1 with rfl | rfl <;> exact ⟨rfl,rfl,rfl,by simp [ChangeMaps.setBlock],fun i _ hi => hset.2 i (fun e1 => hi (by rw [e1]))⟩
   have hR2 :=hR.other hgb hrM hrB (.inl hr0)
   refine bW (v :=.tuple #[.bool true,e.key,e.val]) (w' :=w2) rfl (by simp [execOp,hptr,hrun]) ?_
   have k1 :=hR2.putB l3 (bad n3 hb3) (.tuple #[.bool true,e.key,e.val])
   refine bW (v :=.bool true) (w' :=w2) rfl (by simp [execOp,hR2.evalAt l3,Instr.extract]) ?_
   have k2 :=k1.putB l4 (bad n4 hb4) (.bool true)
   refine wp_seq (wp_cond_true (k1.evalAt l4 _) (wp_skip ?_))
   refine wp_block (wp_seq (wp_region_list ?_))
   have hg2 : w2.heap[g]? = some (.map es c) :=(hgb.block g (Array.getElem?_eq_some_iff.1 hg).1 (fun e => hgr (by cases e; rfl))).trans hg
   have hptr2 : ((a'.put (some nx) (.tuple #[.bool true,e.key,e.val])).put (some ok) (.bool true)).eval (.tmp it) = .pointer (some ⟨r,0,none⟩) :=by
    have :=k2.ev (.tmp it)
    rw [show Ab.ev (S r).env (.tmp it) = .v (.pointer (some ⟨r,0,none⟩)) from vC (Nat.lt_of_lt_of_le l2 hR.nle) (cV _ _ _)] at this
    exact this.v_inv
   have hnd : (es.toList.map (·.born)).Nodup :=by
    refine List.pairwise_iff_getElem.2 fun i j hi hj hij => ?_
    simp only [List.length_map,Array.length_toList] at hi hj
    simp only [List.getElem_map,Array.getElem_toList]
    have :=hent.age i j _ _ hij (Array.getElem?_eq_getElem hi) (Array.getElem?_eq_getElem hj)
    omega
   have hent2 :=run_entry_at (P :=P) w2 r g c seen es c e hset.1 hg2 hem hnd
   refine bW (v :=.tuple #[e.key,e.val]) (w' :=w2) rfl (by simp [execOp,hptr2,hent2]) ?_
   have k3 :=k2.putB l5 (bad n5 hb5) (.tuple #[e.key,e.val])
   refine bW (v :=e.val) (w' :=w2) rfl (by simp [execOp,k2.evalAt l5,Instr.extract]) ?_
   have k4 :=k3.putB l6 (bad n6 hb6) e.val
   refine bW (v :=e.val) (w' :=w2) rfl (by simp [execOp,k3.evalAt l6]) ?_
   obtain ⟨j,hj⟩ :=hmem e hem
   have hjl : j < l.length :=by have :=(Array.getElem?_eq_some_iff.1 hj).1; rw [hent.sz] at this; exact this
   obtain ⟨q,hq⟩ : ∃ q,l[j]? = some q :=⟨_,List.getElem?_eq_getElem hjl⟩
   have hval :=((f.here k4).2.1.rep j e q hj hq).2
   have k5 :=k4.put (d :=d9) (e :=q.2) l7 hval.rep (bH (hz q (List.mem_of_getElem? hq)) _)
   obtain ⟨X',hs',hb',hR'⟩ :=k5.rebase
   refine wp_mono (hbody X' r j q hs' (f.base k5 hb') hq _ w2 ⟨M,loc,hR'⟩) fun ex a6 w6 ⟨st',hq',hr6⟩ => ?_
   cases ex with
   | normal =>
     obtain ⟨hDj,hsub⟩ :=hq'
     obtain ⟨M6,loc6,hR6⟩ :=hsub a6 w6 hr6
     have hr2 : r < w2.heap.size :=(Array.getElem?_eq_some_iff.1 hset.1).1
     have hno : ¬ X'.own r :=fun h => by
      rcases h with h | h
      · rw [hb'.w0] at h; omega
      · rw [hb'.T] at h; exact hrB h
     have hit6 : w6.heap[r]? = some (.mapIter (some g) c (seen.push e.born) c) :=by
      rw [hR6.below.block r (by rw [hb'.w0]; exact hr2) (by rw [hb'.T]; exact hrB),hb'.w0]
      exact hset.1
     have hM6 : ¬ M6 r :=fun h => by
      rcases (hR6.zone r h).2 with h | h
      · rw [hb'.Z] at h; exact hrM h
      · exact hno h
     have hR7 :=k5.unbase hs' hb' hR6
     refine ⟨⟨M6,loc6,r,seen.push e.born,hR7,hit6,hr0,hM6,fun h => hno (hR6.blk_own h),fun i x hx hc => ?_⟩,?_⟩
     · rw [contains_push] at hc
       rcases Bool.or_eq_true _ _ ▸ hc with hc | hc
       · exact hD i x hx hc
       · have hbe : x.born = e.born :=by simpa using hc
         have : i = j :=by
          rcases Nat.lt_trichotomy i j with hij | hij | hij
          · have :=hent.age i j x e hij hx hj; omega
          · exact hij
          · have :=hent.age j i e x hij hj hx; omega
         rw [this]; exact hDj
     · have hptr6 : a6.eval (.tmp it) = .pointer (some ⟨r,0,none⟩) :=by
        have :=hR6.ev (.tmp it)
        rw [show Ab.ev (S r).env (.tmp it) = .v (.pointer (some ⟨r,0,none⟩)) from vC (Nat.lt_of_lt_of_le l2 hR.nle) (cV _ _ _)] at this
        exact this.v_inv
       show μ a6 w6 < μ a' w'
       simp only [μ,hptr6,hptr,hit6,hit]
       exact left_shrinks es seen e he
   | ret =>
     obtain ⟨M6,loc6,hR6⟩ :=hr6
     exact ⟨st',hq',M6,loc6,k5.unbase hs' hb' hR6⟩
   | _ => exact hq'.elim
def rndQ (P : Program) (X : Ctx) (c : Code) (Q : Exit → St → Prop) : Nat → Exit → St → Prop
 | 0,.normal,_ => False
 | n + 1,.normal,s => AWP P X c (rndQ P X c Q n) s
 | _,e,s => Q e s
@[go_sem] theorem rndQ_more {X : Ctx} {c : Code} {Q : Exit → St → Prop} {n : Nat} {s : St} : rndQ P X c Q (n + 1) .normal s = AWP P X c (rndQ P X c Q n) s :=by simp only [rndQ]
@[go_sem] theorem rndQ_ret {X : Ctx} {c : Code} {Q : Exit → St → Prop} {n : Nat} {s : St} : rndQ P X c Q n .ret s = Q .ret s :=by cases n <;> simp only [rndQ]
@[go_sem] theorem rndQ_exit {X : Ctx} {c : Code} {Q : Exit → St → Prop} {n i : Nat} {s : St} : rndQ P X c Q n (.exit i) s = Q (.exit i) s :=by cases n <;> simp only [rndQ]
theorem bU {X : Ctx} {c : Code} {Q : Exit → St → Prop} : ∀ (n : Nat) {st : St},AWP P X c (rndQ P X c Q n) st → AWP P X (.loop c) Q st :=by
 have key : ∀ (n : Nat) (st : St) (a : Act) (w : World),AWP P X c (rndQ P X c Q n) st → R X st a w → Code.rounds P c (fun e a' w' => ∃ st',Q e st' ∧ R X st' a' w') (n + 1) a w :=by
  intro n
  induction n with
  | zero =>
    intro st a w h hr
    refine wp_mono (h a w hr) fun e a' w' ⟨st',hq,hr'⟩ => ?_
    cases e <;> first | exact hq.elim | exact ⟨st',hq,hr'⟩
  | succ n ih =>
    intro st a w h hr
    refine wp_mono (h a w hr) fun e a' w' ⟨st',hq,hr'⟩ => ?_
    cases e <;> first | exact ih st' a' w' hq hr' | exact ⟨st',hq,hr'⟩
 intro n st h a w hr
 exact wp_loop_rounds (n + 1) (key n st a w h hr)
theorem oJ (w : World) (ty r pos c : Nat) (s : ByteArray) (hr : w.heap[r]? = some (.stringIter s pos)) (hp : pos < s.size) (hd : Utf8.decode s pos = (c,1)) :
  (Instr.next (.pointer (some ⟨r,0,none⟩)) true ty).run P w = .ok (.tuple #[.bool true,.int .i64 pos,.int .i32 c]) (ChangeMaps.setBlock w r (.stringIter s (pos + 1))) :=by
 simp only [Instr.next,getObj,Sem.run_bind,Sem.run,hr,Result.andThen,hp,if_true,hd,setObj,goInt]
 rfl
theorem mH (w : World) (ty r pos : Nat) (s : ByteArray) (hr : w.heap[r]? = some (.stringIter s pos)) (hp : ¬ pos < s.size) :
  (Instr.next (.pointer (some ⟨r,0,none⟩)) true ty).run P w = .ok (.tuple #[.bool false]) w :=by
 simp only [Instr.next,getObj,Sem.run_bind,Sem.run,hr,Result.andThen,hp,if_false]
 rfl
theorem mI (w : World) (T : Nat) (s : ByteArray) (hT : P.underlying T = some .string) :
  (Instr.range T (.string s)).run P w = .ok (.pointer (some ⟨w.heap.size,0,none⟩)) (w.alloc (.stringIter s 0)) :=by
 simp only [Instr.range,Sem.run_bind,run_underlying hT,Result.andThen_ok,Sem.run_pure]
 rfl
theorem RR.evalNe {X : Ctx} {st : St} {a : Act} (_h : RR X M loc st a w) {d t : Nat} (hd : t ≠ d) (x : Value) : (a.put (some d) x).eval (.tmp t) = a.eval (.tmp t) :=by
 simp only [Act.eval,Act.put]
 rw [Array.getD_eq_getD_getElem?,Array.getD_eq_getD_getElem?,Array.getElem?_setIfInBounds_ne (Ne.symm hd)]
theorem rV {X : Ctx} {Q : Exit → St → Prop} {st : St} {rest : Code} {bk k3 i7 i8 i9 it nx ok e1 e2 d1 d2 T t2 t3 t4 t5 t6 t7 t8 : Nat} {p2 p3 p4 p5 p6 p7 p8 : String} {f2 f3 f4 f5 f6 f7 f8 : Array Edge} {s : ByteArray} (c : Nat → Nat) (D : Nat → Prop)
  (hT : P.underlying T = some .string) (hdec : ∀ i,i < s.size → Utf8.decode s i = (c i,1))
  (hlt : it < X.n ∧ nx < X.n ∧ ok < X.n ∧ e1 < X.n ∧ e2 < X.n ∧ d1 < X.n ∧ d2 < X.n) (hne : nx ≠ it ∧ ok ≠ it ∧ e1 ≠ it ∧ e2 ≠ it ∧ d1 ≠ it ∧ d2 ≠ it) (hne2 : nx ≠ ok ∧ nx ≠ e1 ∧ e1 ≠ e2 ∧ e2 ≠ d1)
  (hb3 : st.env nx = .bad) (hb4 : st.env ok = .bad) (hb5 : st.env e1 = .bad) (hb6 : st.env e2 = .bad)
  (hbody : ∀ X' r j,Same X X' → j < s.size → AWP P X' rest (rngQ X' ⟨upd st.env it (.v (.pointer (some ⟨r,0,none⟩))),st.heap⟩ (D j) Q) ⟨upd (upd (upd st.env it (.v (.pointer (some ⟨r,0,none⟩)))) d1 (.v (.int .i64 j))) d2 (.v (.int .i32 (c j))),st.heap⟩)
  (hend : (∀ j,j < s.size → D j) → ∀ r,Q .normal ⟨upd st.env it (.v (.pointer (some ⟨r,0,none⟩))),st.heap⟩) :
  AWP P X (.seq (.region i7 #[⟨some it,.range T (.const (.string s)),t2,p2,f2,none⟩] false)
   (.block bk (.loop (.seq (.region i8 #[⟨some nx,.next (.tmp it) true,t3,p3,f3,none⟩,⟨some ok,.extract (.tmp nx) 0,t4,p4,f4,none⟩] false)
    (.seq (.cond (.tmp ok) .skip (.exit bk)) (.block k3 (.seq (.region i9 #[⟨some e1,.extract (.tmp nx) 1,t5,p5,f5,none⟩,⟨some e2,.extract (.tmp nx) 2,t6,p6,f6,none⟩,⟨some d1,.assign (.tmp e1),t7,p7,f7,none⟩,⟨some d2,.assign (.tmp e2),t8,p8,f8,none⟩] false) rest))))))) Q st :=by
 obtain ⟨l2,l3,l4,l5,l6,l7,l8⟩ :=hlt
 obtain ⟨n3,n4,n5,n6,n7,n8⟩ :=hne
 obtain ⟨m1,m2,m3,m4⟩ :=hne2
 rintro a w ⟨M,loc,hr⟩
 refine wp_seq (wp_region_list ?_)
 refine bW (v :=.pointer (some ⟨w.heap.size,0,none⟩)) (w' :=w.alloc (.stringIter s 0)) rfl (by simp [execOp,Act.eval,mI w T s hT]) ?_
 have hbel : Below w.heap.size w (w.alloc (.stringIter s 0)) :=⟨rfl,rfl,rfl,by simp,fun k hk => Below.heap_alloc w _ k hk⟩
 have h2 :=hr.world hbel (fun _ hb => hb) (fun b hb => .inl hb)
 have h3 :=h2.put (d :=it) (e :=.v (.pointer (some ⟨w.heap.size,0,none⟩))) l2 (RepZ.v _).rep trivial
 refine wp_block ?_
 let S : Nat → St :=fun r => ⟨upd st.env it (.v (.pointer (some ⟨r,0,none⟩))),st.heap⟩
 let I : Act → World → Prop :=fun a' w' => ∃ M loc r pos,RR X M loc (S r) a' w' ∧ w'.heap[r]? = some (.stringIter s pos) ∧ X.w0.heap.size ≤ r ∧ ¬ M r ∧ ¬ blks st.heap loc r ∧ pos ≤ s.size ∧ ∀ j,j < pos → D j
 let μ : Act → World → Nat :=fun a w => match a.eval (.tmp it) with
  | .pointer (some ⟨r,_,_⟩) => match w.heap[r]? with
    | some (.stringIter _ pos) => s.size - pos
    | _ => 0
  | _ => 0
 refine wp_loop I μ ⟨M,loc,w.heap.size,0,h3,heap_alloc_new w _,hr.below.size,fun hm => ?_,fun hb => ?_,Nat.zero_le _,fun j h => absurd h (Nat.not_lt_zero _)⟩ fun a' w' hI => ?_
 · have :=(hr.zone _ hm).1; omega
 · rcases hb with ⟨id,o,ho,hb⟩ | ⟨id,m,hm,hb⟩
   · obtain ⟨xs,hown,_⟩ :=(hr.obj id o ho).own
     have :=(hown.lt _ hb).2; omega
   · obtain ⟨g2,es2,c2,q1,q2,q3,q4,_⟩ :=(hr.mobj id m hm).own
     rw [hb] at q1
     cases q1
     have :=(Array.getElem?_eq_some_iff.1 q4).1; omega
 clear h2 h3 hbel hr
 obtain ⟨M,loc,r,pos,hR,hit,hr0,hrM,hrB,hps,hD⟩ :=hI
 have hptr : a'.eval (.tmp it) = .pointer (some ⟨r,0,none⟩) :=by
  have :=hR.ev (.tmp it)
  rw [show Ab.ev (S r).env (.tmp it) = .v (.pointer (some ⟨r,0,none⟩)) from vC (Nat.lt_of_lt_of_le l2 hR.nle) (cV _ _ _)] at this
  exact this.v_inv
 have bad : ∀ {d},d ≠ it → st.env d = .bad → (S r).env d = .bad :=fun h1 h2 => (bI _ _ _ h1).trans h2
 refine wp_seq (wp_region_list ?_)
 by_cases hp : pos < s.size
 · have hrun :=oJ (P :=P) w' t3 r pos (c pos) s hit hp (hdec pos hp)
   have hset : (ChangeMaps.setBlock w' r (.stringIter s (pos + 1))).heap[r]? = some (.stringIter s (pos + 1)) ∧ ∀ r',r' ≠ r → (ChangeMaps.setBlock w' r (.stringIter s (pos + 1))).heap[r']? = w'.heap[r']? :=MapKept.heap_set hit
   generalize hw2 : ChangeMaps.setBlock w' r (.stringIter s (pos + 1)) = w2 at hrun hset
   have hgb : w'.grownBy w2 (some r) :=by
    subst hw2
    exact ⟨rfl,rfl,rfl,by simp [ChangeMaps.setBlock],fun i _ hi => hset.2 i (fun e1 => hi (by rw [e1]))⟩
   have hR2 :=hR.other hgb hrM hrB (.inl hr0)
   refine bW (v :=.tuple #[.bool true,.int .i64 pos,.int .i32 (c pos)]) (w' :=w2) rfl (by simp [execOp,hptr,hrun]) ?_
   have k1 :=hR2.putB l3 (bad n3 hb3) (.tuple #[.bool true,.int .i64 pos,.int .i32 (c pos)])
   refine bW (v :=.bool true) (w' :=w2) rfl (by simp [execOp,hR2.evalAt l3,Instr.extract]) ?_
   have k2 :=k1.putB l4 (bad n4 hb4) (.bool true)
   refine wp_seq (wp_cond_true (k1.evalAt l4 _) (wp_skip ?_))
   refine wp_block (wp_seq (wp_region_list ?_))
   have x1 :=(k1.evalNe m1 (.bool true)).trans (hR2.evalAt l3 (.tuple #[.bool true,.int .i64 pos,.int .i32 (c pos)]))
   refine bW (v :=.int .i64 pos) (w' :=w2) rfl (by simp [execOp,x1,Instr.extract]) ?_
   have k3 :=k2.putB l5 (bad n5 hb5) (.int .i64 pos)
   have x2 :=(k2.evalNe m2 (.int .i64 pos)).trans x1
   refine bW (v :=.int .i32 (c pos)) (w' :=w2) rfl (by simp [execOp,x2,Instr.extract]) ?_
   have k4 :=k3.putB l6 (bad n6 hb6) (.int .i32 (c pos))
   have x3 :=(k3.evalNe m3 (.int .i32 (c pos))).trans (k2.evalAt l5 (.int .i64 pos))
   refine bW (v :=.int .i64 pos) (w' :=w2) rfl (by simp [execOp,x3]) ?_
   have k5 :=k4.put (d :=d1) (e :=.v (.int .i64 pos)) l7 (RepZ.v _).rep trivial
   have x4 :=(k4.evalNe m4 (.int .i64 pos)).trans (k3.evalAt l6 (.int .i32 (c pos)))
   refine bW (v :=.int .i32 (c pos)) (w' :=w2) rfl (by simp [execOp,x4]) ?_
   have k6 :=k5.put (d :=d2) (e :=.v (.int .i32 (c pos))) l8 (RepZ.v _).rep trivial
   obtain ⟨X',hs',hb',hR'⟩ :=k6.rebase
   refine wp_mono (hbody X' r pos hs' hp _ w2 ⟨M,loc,hR'⟩) fun ex a6 w6 ⟨st',hq',hr6⟩ => ?_
   cases ex with
   | normal =>
     obtain ⟨hDj,hsub⟩ :=hq'
     obtain ⟨M6,loc6,hR6⟩ :=hsub a6 w6 hr6
     have hr2 : r < w2.heap.size :=(Array.getElem?_eq_some_iff.1 hset.1).1
     have hno : ¬ X'.own r :=fun h => by
      rcases h with h | h
      · rw [hb'.w0] at h; omega
      · rw [hb'.T] at h; exact hrB h
     have hit6 : w6.heap[r]? = some (.stringIter s (pos + 1)) :=by
      rw [hR6.below.block r (by rw [hb'.w0]; exact hr2) (by rw [hb'.T]; exact hrB),hb'.w0]
      exact hset.1
     have hM6 : ¬ M6 r :=fun h => by
      rcases (hR6.zone r h).2 with h | h
      · rw [hb'.Z] at h; exact hrM h
      · exact hno h
     have hR7 :=k6.unbase hs' hb' hR6
     refine ⟨⟨M6,loc6,r,pos + 1,hR7,hit6,hr0,hM6,fun h => hno (hR6.blk_own h),hp,fun i hi => ?_⟩,?_⟩
     · by_cases e : i = pos
       · subst e; exact hDj
       · exact hD i (by omega)
     · have hptr6 : a6.eval (.tmp it) = .pointer (some ⟨r,0,none⟩) :=by
        have :=hR6.ev (.tmp it)
        rw [show Ab.ev (S r).env (.tmp it) = .v (.pointer (some ⟨r,0,none⟩)) from vC (Nat.lt_of_lt_of_le l2 hR.nle) (cV _ _ _)] at this
        exact this.v_inv
       show μ a6 w6 < μ a' w'
       simp only [μ,hptr6,hptr,hit6,hit]
       omega
   | ret =>
     obtain ⟨M6,loc6,hR6⟩ :=hr6
     exact ⟨st',hq',M6,loc6,k6.unbase hs' hb' hR6⟩
   | _ => exact hq'.elim
 · have hrun :=mH (P :=P) w' t3 r pos s hit hp
   refine bW (v :=.tuple #[.bool false]) (w' :=w') rfl (by simp [execOp,hptr,hrun]) ?_
   have k1 :=hR.putB l3 (bad n3 hb3) (.tuple #[.bool false])
   refine bW (v :=.bool false) (w' :=w') rfl (by simp [execOp,hR.evalAt l3,Instr.extract]) ?_
   have k2 :=k1.putB l4 (bad n4 hb4) (.bool false)
   refine wp_seq (wp_cond_false (k1.evalAt l4 _) (wp_exit ?_))
   simp only [Exit.then,Exit.inBlock,if_true]
   exact ⟨S r,hend (fun j hj => hD j (by omega)) r,M,loc,k2⟩
theorem xH (loc : Nat → Value) : blks [] loc = fun _ => False :=by
 funext b
 simp [blks]
def MeansS (P : Program) (f : FuncId) (r : AV) (S : List Cell → Prop) : Prop :=
 ∀ (w : World) (M : Nat → Prop),(∀ b,M b → b < w.heap.size) → GlobW w M → Calls P f #[] w fun e w' => ∃ H',S H' ∧ PostH w M (fun _ => undef) [] r H' e w'
theorem vF {f : FuncId} {fn : Func} {c : Code} {r : AV} {S : List Cell → Prop} (N : Nat) (rs : List ResultVar) (hf : P.funcs[f]? = some fn) (hb : fn.body = some c) (hN : fn.ntmps = N) (hrs : fn.results.toList = rs) (hG : N ≤ G0)
  (h : ∀ X : Ctx,X.n = N → AWP P X c (fun e st => ∃ H',S H' ∧ retH P rs 0 r H' e st) ⟨argE 0 [],[]⟩) : MeansS P f r S :=by
 subst hN; subst hrs
 intro w M hM hgl
 refine calls_of_wp hf hb ?_
 obtain ⟨X,t,hXn,hd,hrr⟩ :=kN (fn :=fn) (H :=[]) (args :=[]) (loc :=fun _ => undef) (vs :=#[]) (Nat.zero_le _) hG hM hgl ⟨by simp,by simp,by simp,by simp,by simp⟩ rfl (by simp)
 refine wp_mono (h X hXn _ w hrr) fun e a' w' ⟨st',hq,hr⟩ => ?_
 have hdf : a'.defers = [] :=by obtain ⟨_,_,h1⟩ :=hr; rw [h1.defers,hd]
 obtain ⟨H',hS,hq⟩ :=hq
 cases e with
 | normal =>
   obtain ⟨v,h1,h2⟩ :=dS t hr hq
   exact ⟨hdf,v,h1,H',hS,h2⟩
 | ret =>
   obtain ⟨v,h1,h2⟩ :=dS t hr hq
   exact ⟨hdf,v,h1,H',hS,h2⟩
 | exit i => exact hq.elim
 | goto l => exact hq.elim
 | panic c => exact hq.elim
 | outgrown => exact hq.elim
theorem vG {X : Ctx} {Q : Exit → St → Prop} {st : St} {id N : Nat} {o : Oper} {l : List Oper} {c : Call} {f : FuncId} {r : AV} {S : List Cell → Prop} (G : List Nat) (hX : X.n = N) (hm : MeansS P f r S) (ho : o.op = .call c) (hg : o.guard = none) (hd : ∀ d,o.dst = some d → d < N)
  (ht : tgt (Ab.ev st.env) c.callee = some (f,[],[])) (ha : c.args = #[]) (hcall : callable P f = true)
  (h : ∀ H',S H' → runK P ⟨o :: l⟩ N false (fun v s => Q (panCh v) (prune G s)) l true (fun s => Q .normal (prune G s)) ⟨putE st.env o.dst (ren (upN [] st.heap.length) r),heapAfter st.heap [] H'⟩) : AWP P X (.region id ⟨o :: l⟩ false) Q st :=by
 subst hX
 rintro a w ⟨M,loc,hr⟩
 refine wp_region_list ?_
 show wpList P _ _ (o :: l) a w
 unfold wpList
 rw [if_pos (by simp [Region.wanted,hg])]
 refine .inl ?_
 unfold Oper.wp
 obtain ⟨vs,h1,h2,h3⟩ :=eQ hr ho (fun x _ => hr.ev x) (u :=fun i => i) (m :=0) (largs :=[]) ht hcall (by rw [ha]; simp [okArgs])
 rw [h1]
 have hvs : vs = #[] :=Array.eq_empty_of_size_eq_zero h2
 subst hvs
 refine (hm w M (fun b hb => (hr.zone b hb).1) (hr.globW fun _ h => h)).mono fun e w' ⟨H',hS,hp⟩ => ?_
 obtain ⟨x,M',loc',rfl,q1,q2,q3⟩ :=iD (C :=fun R => R e w') (E :=fun e x => e = .returned x) (fun _ _ hi hc => hi _ _ hc) hr (H :=[]) (args :=[]) (vs :=#[]) (r :=r) (H' :=H') (fun loc _ _ => by
  unfold PostH at hp
  rw [xH] at hp ⊢
  simpa using hp) [] List.nodup_nil rfl (by simp) (by simp) (fun i o h => by simp at h) (by simp)
 exact tC (K :=fun s => Q .normal (prune G s)) (qp :=fun v s => Q (panCh v) (prune G s)) (Q :=fun e a' w' => ∃ st',Q e st' ∧ R X st' a' w') (fun st' a' w' hk hr' => ⟨_,hk,cP G a' w' hr'⟩) (fun pv st' a' w' hk hr' => ⟨_,hk,cP G a' w' hr'⟩) l _ _ _ (h H' hS) ⟨M',loc',q1.putO hd q2 q3⟩
def normO (o : Oper) : Oper :=match o.op with
 | .insert t m k x => { o with op :=.mapUpdate t m k x }
 | _ => o
theorem pU {o : Oper} {a : Act} {K : Act → World → Prop} {Q : Exit → Act → World → Prop} (h : (normO o).wp P a w K Q) : o.wp P a w K Q :=by
 obtain ⟨dst,op,ty,pos,after,guard⟩ :=o
 cases op <;> exact h
theorem rW (o : Oper) : (normO o).guard = o.guard ∧ (normO o).dst = o.dst :=by
 unfold normO
 split <;> exact ⟨rfl,rfl⟩
theorem xI {X : Ctx} {Q : Exit → St → Prop} {st : St} {id N : Nat} {ops : Array Oper} (G : List Nat) (hX : X.n = N) (h : runK P ops N false (fun v s => Q (panCh v) (prune G s)) (ops.toList.map normO) true (fun s => Q .normal (prune G s)) st) : AWP P X (.region id ops false) Q st :=by
 subst hX
 intro a w hr
 refine wp_region_list ?_
 refine dQ (P :=P) (X :=X) (ops :=ops) (dr :=false) (qp :=fun v s => Q (panCh v) (prune G s)) (K :=fun s => Q .normal (prune G s)) (Q :=fun e a' w' => ∃ st',Q e st' ∧ R X st' a' w') (W :=fun l a w => ∀ l0,l = l0.map normO → wpList P ops (fun e a' w' => ∃ st',Q e st' ∧ R X st' a' w') l0 a w)
  (fun o l a w this l0 hl => ?_) (fun st' a' w' hk hr' l0 hl => ?_) (fun pv st' a' w' hk hr' => ⟨_,hk,cP G a' w' hr'⟩) (ops.toList.map normO) st a w h hr _ rfl
 · cases l0 with
   | nil => simp at hl
   | cons o0 l1 =>
     simp only [List.map_cons,List.cons.injEq] at hl
     obtain ⟨rfl,rfl⟩ :=hl
     obtain ⟨h1,h2⟩ :=rW o0
     have hw : Region.wanted (normO o0) (yielded ops a.tmps) = Region.wanted o0 (yielded ops a.tmps) :=by simp only [Region.wanted,h1]
     rw [hw,h2] at this
     unfold wpList
     split
     · rename_i hp
       rw [if_pos hp] at this
       exact .inl (pU (Oper.wp_mono (fun a w h => h _ rfl) this))
     · rename_i hp
       rw [if_neg hp] at this
       exact this _ rfl
 · cases l0 with
   | nil => exact ⟨_,hk,cP G a' w' hr'⟩
   | cons o0 l1 => simp at hl
def wpL (P : Program) (ops : Array Oper) (Q : Exit → Act → World → Prop) (K : Act → World → Prop) : List Oper → Act → World → Prop
 | [],a,w => K a w
 | o :: l,a,w => if Region.wanted o (yielded ops a.tmps) = true then o.wp P a w (wpL P ops Q K l) Q else wpL P ops Q K l (a.put o.dst undef) w
def backOK (ops : Array Oper) : Bool :=ops.toList.zipIdx.all fun (oj,j) => oj.after.all fun e => !Region.binds .any e || decide (e.on < j)
theorem vH {X : Ctx} {Q : Exit → St → Prop} {st : St} {id N : Nat} {ops : Array Oper} (hX : X.n = N) (hm : P.follows .mixedOrders = true) (J : (Nat → Bool) → St → Prop) (h0 : J (fun _ => false) st) (hback : backOK ops = true)
  (hstep : ∀ i o D s,ops[i]? = some o → (∀ e ∈ o.after,Region.binds .any e = true → D e.on = true) → D i = false → J D s → o.guard = none ∧ runK P ops N false (fun _ _ => False) [normO o] true (fun s' => ∃ s'',J (fun j => D j || j == i) s'' ∧ Sub X s'' s') s)
  (hq : ∀ D s,(∀ i,i < ops.size → D i = true) → J D s → Q .normal s) : AWP P X (.region id ops true) Q st :=by
 subst hX
 intro a w hr
 refine wp_region_any hm ?_
 have hbk : ∀ j o,ops[j]? = some o → ∀ e ∈ o.after,Region.binds .any e = true → e.on < j :=by
  intro j o hj e he hb
  simp only [backOK,List.all_eq_true] at hback
  have :=hback (o,j) (by rw [List.mem_zipIdx_iff_getElem?]; simpa using hj)
  rw [Array.all_eq_true'] at this
  have :=this e he
  simp only [hb,Bool.not_true,Bool.false_or,decide_eq_true_eq] at this
  exact this
 have key : ∀ (fuel : Nat) (listed : Array Bool) (s : St) (a : Act) (w : World),listed.size = ops.size → (leftL ops listed).length = fuel → J (fun i => listed.getD i false) s → R X s a w →
   wpAny P .any ops (fun e a' w' => ∃ st',Q e st' ∧ R X st' a' w') fuel listed a w :=by
  intro fuel
  induction fuel with
  | zero =>
    intro listed s a w hs hl hJ hR
    have h0 : leftL ops listed = [] :=List.eq_nil_of_length_eq_zero hl
    refine ⟨?_,s,hq _ s (fun i hi => ?_) hJ,hR⟩
    · refine List.eq_nil_iff_forall_not_mem.2 fun i hi => ?_
      have :=(cL.1 hi).1
      rw [h0] at this; cases this
    · cases hg : listed.getD i false with
      | true => rfl
      | false =>
        exfalso
        have : i ∈ leftL ops listed :=by
         simp only [leftL,List.mem_filter,List.mem_range,Bool.not_eq_true']
         refine ⟨hi,?_⟩
         have hil : i < listed.size :=by omega
         rw [Array.getD_eq_getD_getElem?,Array.getElem?_eq_getElem hil] at hg ⊢
         exact hg
        rw [h0] at this; cases this
  | succ fuel ih =>
    intro listed s a w hs hl hJ hR
    refine ⟨fun h0 => ?_,fun i hi => ?_⟩
    · exfalso
      cases hL : leftL ops listed with
      | nil => rw [hL] at hl; simp at hl
      | cons k L =>
        have hk : k ∈ leftL ops listed :=by rw [hL]; simp
        have : k ∈ Region.ready .any ops listed :=by
         refine cL.2 ⟨hk,fun o ho e he hbn => ?_⟩
         have hlt :=hbk k o ho e he hbn
         have hkk : k < ops.size :=(Array.getElem?_eq_some_iff.1 ho).1
         cases hg : listed.getD e.on false with
         | true => rfl
         | false =>
           exfalso
           have hsz : e.on < listed.size :=by omega
           have hmem : e.on ∈ leftL ops listed :=by
            simp only [leftL,List.mem_filter,List.mem_range,Bool.not_eq_true']
            refine ⟨by omega,?_⟩
            rw [Array.getD_eq_getD_getElem?,Array.getElem?_eq_getElem hsz] at hg ⊢
            exact hg
           have hsort :=cF ops listed
           rw [hL] at hsort hmem
           rcases List.mem_cons.1 hmem with h | h
           · omega
           · have :=(List.pairwise_cons.1 hsort).1 _ h; omega
        rw [h0] at this; cases this
    · obtain ⟨hil,hip⟩ :=cL.1 hi
      have hil2 :=hil
      simp only [leftL,List.mem_filter,List.mem_range,Bool.not_eq_true'] at hil2
      have hoi : ops[i]? = some ops[i] :=Array.getElem?_eq_getElem hil2.1
      have hfi : listed.getD i false = false :=by
       have h2 :=hil2.2
       have hsz : i < listed.size :=by omega
       rw [Array.getD_eq_getD_getElem?,Array.getElem?_eq_getElem hsz] at h2 ⊢
       exact h2
      obtain ⟨hgd,hrun⟩ :=hstep i _ _ s hoi (fun e he hb => hip _ hoi e he hb) hfi hJ
      unfold wpOp
      rw [hoi]
      simp only []
      have hw : Region.wanted ops[i] (yielded ops a.tmps) = true :=by simp [Region.wanted,hgd]
      rw [if_pos hw]
      refine .inl (pU ?_)
      have hwn : Region.wanted (normO ops[i]) (yielded ops a.tmps) = true :=by
       have : (normO ops[i]).guard = none :=by
        unfold normO
        split
        · exact hgd
        · exact hgd
       simp [Region.wanted,this]
      have :=dQ (P :=P) (X :=X) (ops :=ops) (Q :=fun e a' w' => ∃ st',Q e st' ∧ R X st' a' w') (dr :=false) (qp :=fun _ _ => False) (W :=wpL P ops (fun e a' w' => ∃ st',Q e st' ∧ R X st' a' w') (wpAny P .any ops (fun e a' w' => ∃ st',Q e st' ∧ R X st' a' w') fuel (listed.setIfInBounds i true))) (fun o l a w h => h)
       (K :=fun s' => ∃ s'',J (fun j => listed.getD j false || j == i) s'' ∧ Sub X s'' s') (fun s' a' w' ⟨s'',hJ',hsub⟩ hr' => by
        refine ih (listed.setIfInBounds i true) s'' a' w' (by simpa using hs) ?_ ?_ (hsub a' w' hr')
        · obtain ⟨A,B,hAB,hA,hf⟩ :=iG (cF ops listed) hil
          rw [eG hs hil,hf]
          rw [hAB] at hl
          simp at hl ⊢; omega
        · have : (fun j => (listed.setIfInBounds i true).getD j false) = fun j => listed.getD j false || j == i :=by
           funext j
           by_cases hj : j = i
           · subst hj
             rw [Array.getD_eq_getD_getElem?,Array.getElem?_setIfInBounds_self_of_lt (by omega)]
             simp
           · rw [Array.getD_eq_getD_getElem?,Array.getElem?_setIfInBounds_ne (by omega),← Array.getD_eq_getD_getElem?]
             simp [hj]
          rw [this]; exact hJ') (fun _ _ _ _ h => h.elim) [normO ops[i]] s a w hrun hR
      unfold wpL at this
      rw [if_pos hwn] at this
      exact this
 refine key ops.size _ st a _ (by simp) ?_ ?_ hr.drew
 · have hall : leftL ops (Array.replicate ops.size false) = List.range ops.size :=by
    unfold leftL
    refine List.filter_eq_self.2 fun i hi => ?_
    simp only [List.mem_range] at hi
    rw [Array.getD_eq_getD_getElem?]
    simp [hi]
   rw [hall]; simp
 · have : (fun i => (Array.replicate ops.size false).getD i false) = fun _ => false :=by
    funext i
    rw [Array.getD_eq_getD_getElem?,Array.getElem?_replicate]
    split <;> rfl
   rw [this]; exact h0
theorem iK {X : Ctx} {E : Nat → AV} {H : List Cell} {d : Nat} {o : Ob} (hd : d < G0) (hz : zoneEs o.es = true) : Sub X ⟨upd E d (.sl o.es),H ++ [.dead]⟩ ⟨upd E d (.ow H.length),H ++ [.row o]⟩ :=by
 rintro a w ⟨M,loc,h⟩
 have ho : (⟨upd E d (.ow H.length),H ++ [.row o]⟩ : St).heap[H.length]? = some (.row o) :=by simp
 have hk :=h.kill [H.length]
 have hf :=h.frozenRow ho hz (M' :=fun b => M b ∨ ∃ id ∈ [H.length],∃ o2,(H ++ [Cell.row o])[id]? = some (.row o2) ∧ (loc id).ownBlock = some b) (fun b hb => .inl hb) (fun g hg => .inr ⟨_,by simp,o,ho,hg⟩)
 have hH : killH (H ++ [.row o]) [H.length] = H ++ [.dead] :=by simp [killH]
 simp only [hH] at hk
 refine ⟨_,loc,fun s => ?_,hk.nle,hk.size,hk.defers,hk.obj,hk.sep,hk.mobj,hk.msep,hk.below,hk.zone,hk.zin,hk.zlt,hk.one,fun s => ?_⟩
 · have hs :=hk.env s
   show Rep w _ loc _ (upd E d _ s)
   by_cases e : s = d
   · subst e
     rw [show (⟨upd E s (.ow H.length),H ++ [Cell.dead]⟩ : St).env s = .ow H.length from cV _ _ _] at hs
     rw [cV]
     have e2 : (if s < G0 then a.tmps.getD s undef else X.gh (s - G0)) = loc H.length :=hs
     rw [e2]
     exact hf.rep
   · rw [show (⟨upd E d (.ow H.length),H ++ [Cell.dead]⟩ : St).env s = E s from bI _ _ _ e] at hs
     rw [bI _ _ _ e]
     exact hs
 · have :=hk.ids s
   show (upd E d _ s).idLt _
   by_cases e : s = d
   · subst e
     rw [cV]
     exact bH (by simpa [AV.zone,zoneEs] using hz) _
   · rw [show (⟨upd E d (.ow H.length),H ++ [Cell.dead]⟩ : St).env s = E s from bI _ _ _ e] at this
     rw [bI _ _ _ e]
     exact this
end
end Go.Ab

