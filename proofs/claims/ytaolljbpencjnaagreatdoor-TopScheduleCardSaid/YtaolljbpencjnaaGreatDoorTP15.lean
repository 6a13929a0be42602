/-
  Lemmas for the statement at the top.
-/
import Derived.Test.YtaolljbpencjnaaGreatDoorTP14
import Derived.Test.YtaolljbpencjnaaGreatDoorTP8
import Derived.Test.YtaolljbpencjnaaGreatDoorTP10
import Derived.Shelf.Small.Utf8
import Derived.Shelf.Small.Bits
import Derived.Shelf.Small.Strs
import Derived.Shelf.Strconv.Itoa0
import Derived.Shelf.Strings.Search1
import Derived.Shelf.Strings.Runes
import Derived.Shelf.Bits.Mul64
import Derived.Shelf.Slices.Reverse
import Derived.Ground.Names2Prog
import Derived.Shelf.Slices.Clone
import Derived.Shelf.Slices.CompactI
import Derived.Shelf.Slices.SearchI
import Derived.Shelf.Slices.Cells
import Derived.Ground.SlgnProg
import Derived.Shelf.SlicesE.Clone
import Derived.Test.YtaolljbpencjnaaGreatDoorProg
import Derived.Test.YtaolljbpencjnaaGreatDoorTP9
import Derived.Test.YtaolljbpencjnaaGreatDoorTFw5
set_option linter.all false
namespace Go.Ab
def q10x0 : List Nat :=[0,1,2,3,4,5,6,9,12,13,14,15,17,18,19,20,21,22,42,70,78,88]
def q10x1 : List Nat :=[0,1,2,4,5,6,8,9,10,11,12,13,33,47,65,80,98]
def q10x2 : List Nat :=[0,1,2,3,4,5,6,7,10,11,16,23,34,45,51,55,1000000,1000001,1000002]
def q10x3 : List Nat :=[0,1,2,5,6,7,9,10,12,14,22,23,24,25,26,32,41,42,43,44,54,66]
def q10x4 : List Nat :=[0,1,2,3,4,6,10,12,13,19,25,50,57,60,67,72,77,1000000,1000001,1000002]
def q10x5 : List Nat :=[0,1,2,3,6,7,8,10,11,12,14,16,17,18,19,55,65,66,67,68,81]
def q10x6 : List Nat :=[0,1,2,3,4,5,40,73,96,129]
def q10x7 : List Nat :=[0,1,2,3,4,5,10,11,12,13,14,21]
def q10x8 : List Nat :=[0,1,2,3,13,14,29,44,49,64,87,95,108,114,129,141,153,174]
def q10x9 : List Nat :=[0,1,2,3,5,1000000,1000001,1000002,1000003,1000004,1000005]
def q10x10 : List Nat :=[0,1,2,6,7,8,9,13,30,35,54]
def q10x11 : List Nat :=[0,1,2,6,7,8,9,10,20,25,37,48,76,1000000,1000001,1000002]
def q10x12 : List Nat :=[0,1,2,3,4,5,6,38,39,40,52]
def q10x13 : List Nat :=[0,1,2,3,6,7,8,9,10,35]
attribute [go_sem] q10x0 q10x1 q10x2 q10x3 q10x4 q10x5 q10x6 q10x7 q10x8 q10x9 q10x10 q10x11 q10x12 q10x13
end Go.Ab
namespace Go.Proofs.YtaolljbpencjnaaGreatDoor
open Go.RowKit Go.Ab
attribute [local irreducible] AWP Go.Ab.Sub Means MeansH CallK CallG CallT CallGT PanicH DefH CallU
abbrev mR : Ob :=⟨233,3,[.agg [.sl [],.ow 1,.ow 2]]⟩
abbrev rR : Ob :=⟨256,3,[]⟩
abbrev MH (G : List (By × Int)) : List Cell :=[.row mR,.row rR,.map (gR G)]
theorem BW (G : List (By × Int)) (s : By) (v : Int) (h : G.lookup s = some v) : MeansH Tryz.prog 182 (MH G) [.el 0 3 0 0,ss s,ii 0] (ii v) (MH G) :=by
 have h1 : (G.lookup s).isSome = true :=by rw [h]; rfl
 have h2 : (G.lookup s).getD 0 = v :=by rw [h]; rfl
 refine aS 3 89 [.tmp 6] Tryz.func182 rfl rfl rfl (by simp) (by decide) rfl fun X hX => ?_
 (repeat (refine aB q10x11 hX mixed rfl ?_; (simp [go_sem,h1,h2]; try (refine ⟨by kernel_rfl,?_⟩)))); (repeat (first | (refine aI ?_ ?_; (focus (simp [go_sem,h1,h2]; done)); (repeat (refine aB q10x11 hX mixed rfl ?_; (simp [go_sem,h1,h2]; try (refine ⟨by kernel_rfl,?_⟩))))) | (refine aG ?_ ?_; (focus (simp [go_sem,h1,h2]; done)); (repeat (refine aB q10x11 hX mixed rfl ?_; (simp [go_sem,h1,h2]; try (refine ⟨by kernel_rfl,?_⟩)))))))
 refine aK ?_; (try simp only [thenQ,blkQ,loopQ]); refine aJ [(6,ii v),(1000000,.ow 0),(1000001,.ow 1),(1000002,.ow 2)] [.old 0 mR,.old 1 rR,.oldM 2 (gR G)] ?_
 simp [go_sem]
theorem rH : OkL [] :=⟨by simp,by simp,by simp,fun i j hi => by simp at hi⟩
set_option maxHeartbeats 4000000 in
set_option maxRecDepth 20000 in
theorem A1 (G : List (By × Int)) (o : Int) (a b : E) (x y v : Int) (ha : OkE a) (hb : OkE b) (hx : evD G a = some x) (hy : evD G b = some y) (h : evD G (.bin o a b) = some v) :
  MeansH Tryz.prog 184 (MH G) [.el 0 3 0 0,ex (.bin o a b),ii x,ii y,ii 0] (ii v) (MH G) :=by
 have bx :=s9 hx
 have b_y :=s9 hy
 simp only [evD,hx,hy] at h
 by_cases h4 : o = 4
 · subst h4
   simp only [if_true] at h
   split at h
   · rename_i hs
     have c1 :=tI [] a rH ha
     have c2 :=tI [] b rH hb
     rw [hs.1] at c1
     rw [hs.2] at c2
     simp only [List.map_nil] at c1 c2
     obtain ⟨rfl,hv⟩ :=d8 h
     have c3 :=vU x y bx b_y hv.2
     refine aS 3 87 [.tmp 10] Tryz.func184 rfl rfl rfl (by simp) (by decide) rfl fun X hX => ?_
     (repeat (refine aB q10x4 hX mixed rfl ?_; (simp [go_sem]; try (refine ⟨by kernel_rfl,?_⟩)))); (repeat (first | (refine aI ?_ ?_; (focus (simp [go_sem]; done)); (repeat (refine aB q10x4 hX mixed rfl ?_; (simp [go_sem]; try (refine ⟨by kernel_rfl,?_⟩))))) | (refine aG ?_ ?_; (focus (simp [go_sem]; done)); (repeat (refine aB q10x4 hX mixed rfl ?_; (simp [go_sem]; try (refine ⟨by kernel_rfl,?_⟩)))))))
     first | refine aP (c1) ?_ | refine aQ (c1) ?_
     try (simp [go_sem]; try (refine ⟨by kernel_rfl,?_⟩))
     first | refine aX (fun hg => c2) ?_ | refine aW (fun hg => c2) ?_
     try (simp [go_sem]; try (refine ⟨by kernel_rfl,?_⟩))
     refine aG (by simp [go_sem]) ?_
     (repeat (refine aB q10x4 hX mixed rfl ?_; (simp [go_sem]; try (refine ⟨by kernel_rfl,?_⟩))))
     first | refine aP (c3) ?_ | refine aQ (c3) ?_
     try (simp [go_sem]; try (refine ⟨by kernel_rfl,?_⟩))
     (repeat (refine aB q10x4 hX mixed rfl ?_; (simp [go_sem]; try (refine ⟨by kernel_rfl,?_⟩))))
     refine aK ?_; (try simp only [thenQ,blkQ,loopQ]); refine aJ [(10,ii (x * y)),(1000000,.ow 0),(1000001,.ow 1),(1000002,.ow 2)] [.old 0 mR,.old 1 rR,.oldM 2 (gR G)] ?_
     simp [go_sem]
   · cases h
 · rw [if_neg h4] at h
   split at h
   · rename_i h5
     subst h5
     split at h
     · rename_i hp
       obtain ⟨rfl,hv⟩ :=d8 h
       have n0 : ¬ y = 0 :=by omega
       have c1 :=tZ x y (by omega) hp
       have c2 :=oT (x / y) hv
       refine aS 3 87 [.tmp 10] Tryz.func184 rfl rfl rfl (by simp) (by decide) rfl fun X hX => ?_
       (repeat (refine aB q10x4 hX mixed rfl ?_; (simp [go_sem,n0]; try (refine ⟨by kernel_rfl,?_⟩)))); (repeat (first | (refine aI ?_ ?_; (focus (simp [go_sem,n0]; done)); (repeat (refine aB q10x4 hX mixed rfl ?_; (simp [go_sem,n0]; try (refine ⟨by kernel_rfl,?_⟩))))) | (refine aG ?_ ?_; (focus (simp [go_sem,n0]; done)); (repeat (refine aB q10x4 hX mixed rfl ?_; (simp [go_sem,n0]; try (refine ⟨by kernel_rfl,?_⟩)))))))
       first | refine aP (c1) ?_ | refine aQ (c1) ?_
       try (simp [go_sem]; try (refine ⟨by kernel_rfl,?_⟩))
       first | refine aP (c2) ?_ | refine aQ (c2) ?_
       try (simp [go_sem]; try (refine ⟨by kernel_rfl,?_⟩))
       (repeat (refine aB q10x4 hX mixed rfl ?_; (simp [go_sem]; try (refine ⟨by kernel_rfl,?_⟩))))
       refine aK ?_; (try simp only [thenQ,blkQ,loopQ]); refine aJ [(10,ii (x / y)),(1000000,.ow 0),(1000001,.ow 1),(1000002,.ow 2)] [.old 0 mR,.old 1 rR,.oldM 2 (gR G)] ?_
       simp [go_sem]
     · cases h
   · cases h
abbrev VH (G : List (By × Int)) (e : E) : List Cell :=[.row mR,.row rR,.map (gR G),.row ⟨230,1,[.el 0 3 0 0]⟩,.row ⟨29,5,[ex e]⟩,.row ⟨3,1,[ii 0]⟩]
set_option maxHeartbeats 4000000 in
set_option maxRecDepth 20000 in
theorem EA (G : List (By × Int)) (N : Nat) (ih : ∀ x v,OkE x → x.lev ≤ N → evD G x = some v → MeansH Tryz.prog 176 (MH G) [.el 0 3 0 0,ex x,ii 0] (ii v) (MH G)) (e : E) (v : Int) (he : OkE e) (hl : e.lev ≤ N + 1) (hv : evD G e = some v) :
  MeansH Tryz.prog 176 (MH G) [.el 0 3 0 0,ex e,ii 0] (ii v) (MH G) :=by
 cases e with
 | num n u =>
   obtain ⟨rfl,h⟩ :=d8 hv
   have c1 :=oT v h
   refine aS 3 68 [.tmp 6] Tryz.func176 rfl rfl rfl (by simp) (by decide) rfl fun X hX => ?_
   (repeat (refine aB q10x2 hX mixed rfl ?_; (simp [go_sem]; try (refine ⟨by kernel_rfl,?_⟩)))); (repeat (first | (refine aI ?_ ?_; (focus (simp [go_sem]; done)); (repeat (refine aB q10x2 hX mixed rfl ?_; (simp [go_sem]; try (refine ⟨by kernel_rfl,?_⟩))))) | (refine aG ?_ ?_; (focus (simp [go_sem]; done)); (repeat (refine aB q10x2 hX mixed rfl ?_; (simp [go_sem]; try (refine ⟨by kernel_rfl,?_⟩)))))))
   first | refine aP (c1) ?_ | refine aQ (c1) ?_
   try (simp [go_sem]; try (refine ⟨by kernel_rfl,?_⟩))
   (repeat (refine aB q10x2 hX mixed rfl ?_; (simp [go_sem]; try (refine ⟨by kernel_rfl,?_⟩))))
   refine aK ?_; (try simp only [thenQ,blkQ,loopQ]); refine aJ [(6,ii v),(1000000,.ow 0),(1000001,.ow 1),(1000002,.ow 2)] [.old 0 mR,.old 1 rR,.oldM 2 (gR G)] ?_
   simp [go_sem]
 | nam s =>
   obtain ⟨x,hx,h⟩ :=Option.bind_eq_some_iff.1 hv
   obtain ⟨rfl,h⟩ :=d8 h
   have c1 :=BW G s v hx
   refine aS 3 68 [.tmp 6] Tryz.func176 rfl rfl rfl (by simp) (by decide) rfl fun X hX => ?_
   (repeat (refine aB q10x2 hX mixed rfl ?_; (simp [go_sem]; try (refine ⟨by kernel_rfl,?_⟩)))); (repeat (first | (refine aI ?_ ?_; (focus (simp [go_sem]; done)); (repeat (refine aB q10x2 hX mixed rfl ?_; (simp [go_sem]; try (refine ⟨by kernel_rfl,?_⟩))))) | (refine aG ?_ ?_; (focus (simp [go_sem]; done)); (repeat (refine aB q10x2 hX mixed rfl ?_; (simp [go_sem]; try (refine ⟨by kernel_rfl,?_⟩)))))))
   first | refine aF [0,1,2] (c1) (by simp [go_sem]) ?_ | refine aD [0,1,2] (c1) (by simp [go_sem]) ?_ | refine aE [0,1,2] (c1) (by simp [go_sem]) ?_
   try (simp [go_sem]; try (refine ⟨by kernel_rfl,?_⟩))
   (repeat (refine aB q10x2 hX mixed rfl ?_; (simp [go_sem]; try (refine ⟨by kernel_rfl,?_⟩))))
   refine aK ?_; (try simp only [thenQ,blkQ,loopQ]); refine aJ [(6,ii v),(1000000,.ow 0),(1000001,.ow 1),(1000002,.ow 2)] [.old 0 mR,.old 1 rR,.oldM 2 (gR G)] ?_
   simp [go_sem]
 | un a => cases hv
 | ite a b c => cases hv
 | bin o a b =>
   have oka : OkE a :=⟨he.1.2.1,by have :=he.2; simp only [E.lev] at this; omega⟩
   have okb : OkE b :=⟨he.1.2.2,by have :=he.2; simp only [E.lev] at this; omega⟩
   obtain ⟨x,y,hx,hy⟩ : ∃ x y,evD G a = some x ∧ evD G b = some y :=by
    simp only [evD] at hv
    split at hv
    · rename_i x y h1 h2; exact ⟨x,y,h1,h2⟩
    · cases hv
   have cA :=ih a x oka (by simp only [E.lev] at hl; omega) hx
   have cB :=ih b y okb (by simp only [E.lev] at hl; omega) hy
   have c3 :=A1 G o a b x y v oka okb hx hy hv
   have kA : MeansH Tryz.prog 180 (VH G (.bin o a b)) [ii 0,.el 3 1 0 0,.el 4 5 0 0,.el 5 1 0 0] (ii x) (VH G (.bin o a b)) :=by
    refine aS 6 14 [.tmp 5] Tryz.func180 rfl rfl rfl (by simp) (by decide) rfl fun X hX => ?_
    (repeat (refine aB q10x9 hX mixed rfl ?_; (simp [go_sem]; try (refine ⟨by kernel_rfl,?_⟩))))
    first | refine aF [0,1,2] (cA) (by simp [go_sem]) ?_ | refine aD [0,1,2] (cA) (by simp [go_sem]) ?_ | refine aE [0,1,2] (cA) (by simp [go_sem]) ?_
    try (simp [go_sem]; try (refine ⟨by kernel_rfl,?_⟩))
    (repeat (refine aB q10x9 hX mixed rfl ?_; (simp [go_sem]; try (refine ⟨by kernel_rfl,?_⟩))))
    refine aK ?_; (try simp only [thenQ,blkQ,loopQ]); refine aJ [(5,ii x),(1000000,.ow 0),(1000001,.ow 1),(1000002,.ow 2),(1000003,.ow 3),(1000004,.ow 4),(1000005,.ow 5)] [.old 0 mR,.old 1 rR,.oldM 2 (gR G),.old 3 ⟨230,1,[.el 0 3 0 0]⟩,.old 4 ⟨29,5,[ex (.bin o a b)]⟩,.old 5 ⟨3,1,[ii 0]⟩] ?_
    simp [go_sem]
   have kB : MeansH Tryz.prog 180 (VH G (.bin o a b)) [ii 1,.el 3 1 0 0,.el 4 5 0 0,.el 5 1 0 0] (ii y) (VH G (.bin o a b)) :=by
    refine aS 6 14 [.tmp 5] Tryz.func180 rfl rfl rfl (by simp) (by decide) rfl fun X hX => ?_
    (repeat (refine aB q10x9 hX mixed rfl ?_; (simp [go_sem]; try (refine ⟨by kernel_rfl,?_⟩))))
    first | refine aF [0,1,2] (cB) (by simp [go_sem]) ?_ | refine aD [0,1,2] (cB) (by simp [go_sem]) ?_ | refine aE [0,1,2] (cB) (by simp [go_sem]) ?_
    try (simp [go_sem]; try (refine ⟨by kernel_rfl,?_⟩))
    (repeat (refine aB q10x9 hX mixed rfl ?_; (simp [go_sem]; try (refine ⟨by kernel_rfl,?_⟩))))
    refine aK ?_; (try simp only [thenQ,blkQ,loopQ]); refine aJ [(5,ii y),(1000000,.ow 0),(1000001,.ow 1),(1000002,.ow 2),(1000003,.ow 3),(1000004,.ow 4),(1000005,.ow 5)] [.old 0 mR,.old 1 rR,.oldM 2 (gR G),.old 3 ⟨230,1,[.el 0 3 0 0]⟩,.old 4 ⟨29,5,[ex (.bin o a b)]⟩,.old 5 ⟨3,1,[ii 0]⟩] ?_
    simp [go_sem]
   have ho : o = 4 ∨ o = 5 :=by
    simp only [evD,hx,hy] at hv
    split at hv
    · exact .inl (by assumption)
    · split at hv
      · exact .inr (by assumption)
      · cases hv
   clear he hl hv
   rcases ho with rfl | rfl
   all_goals
    refine aS 3 68 [.tmp 6] Tryz.func176 rfl rfl rfl (by simp) (by decide) rfl fun X hX => ?_
    (repeat (refine aB q10x2 hX mixed rfl ?_; (simp [go_sem]; try (refine ⟨by kernel_rfl,?_⟩)))); (repeat (first | (refine aI ?_ ?_; (focus (simp [go_sem]; done)); (repeat (refine aB q10x2 hX mixed rfl ?_; (simp [go_sem]; try (refine ⟨by kernel_rfl,?_⟩))))) | (refine aG ?_ ?_; (focus (simp [go_sem]; done)); (repeat (refine aB q10x2 hX mixed rfl ?_; (simp [go_sem]; try (refine ⟨by kernel_rfl,?_⟩)))))))
    first | refine aF [0,1,2,3,4,5] (kA) (by simp [go_sem]) ?_ | refine aD [0,1,2,3,4,5] (kA) (by simp [go_sem]) ?_ | refine aE [0,1,2,3,4,5] (kA) (by simp [go_sem]) ?_
    try (simp [go_sem]; try (refine ⟨by kernel_rfl,?_⟩))
    first | refine aF [0,1,2,3,4,5] (kB) (by simp [go_sem]) ?_ | refine aD [0,1,2,3,4,5] (kB) (by simp [go_sem]) ?_ | refine aE [0,1,2,3,4,5] (kB) (by simp [go_sem]) ?_
    try (simp [go_sem]; try (refine ⟨by kernel_rfl,?_⟩))
    first | refine aF [0,1,2] (c3) (by simp [go_sem]) ?_ | refine aD [0,1,2] (c3) (by simp [go_sem]) ?_ | refine aE [0,1,2] (c3) (by simp [go_sem]) ?_
    try (simp [go_sem]; try (refine ⟨by kernel_rfl,?_⟩))
    (repeat (refine aB q10x2 hX mixed rfl ?_; (simp [go_sem]; try (refine ⟨by kernel_rfl,?_⟩))))
    refine aK ?_; (try simp only [thenQ,blkQ,loopQ]); refine aJ [(6,ii v),(1000000,.ow 0),(1000001,.ow 1),(1000002,.ow 2)] [.old 0 mR,.old 1 rR,.oldM 2 (gR G)] ?_
    simp [go_sem]
theorem CA (G : List (By × Int)) : ∀ (N : Nat) (e : E) (v : Int),OkE e → e.lev ≤ N → evD G e = some v → MeansH Tryz.prog 176 (MH G) [.el 0 3 0 0,ex e,ii 0] (ii v) (MH G)
 | 0,e,v,_,h,_ => by cases e <;> simp [E.lev] at h
 | N + 1,e,v,he,hl,hv => EA G N (fun x w => CA G N x w) e v he hl hv
end Go.Proofs.YtaolljbpencjnaaGreatDoor

namespace Go.Proofs.YtaolljbpencjnaaGreatDoor
open Go.RowKit Go.Ab
attribute [local irreducible] AWP Go.Ab.Sub Means MeansH CallK CallG CallT CallGT PanicH DefH CallU
abbrev vO (v : Int) : Ob :=⟨3,1,[ii v]⟩
abbrev eO (e : Int) : Ob :=⟨24,1,[ii e]⟩
theorem wS (v e : Int) : DefH Tryz.prog 175 [.row (vO v),.row (eO e)] [.el 0 1 0 0,.el 1 1 0 0] .returning .returning [.row (vO v),.row (eO e)] :=by
 refine p9 2 18 5 [0,1,2,3,4,7,14,1000000,1000001] [] .idle Tryz.func175 rfl rfl rfl (by simp) (by decide) rfl rfl rfl rfl rfl (by decide) fun X hX => ?_
 (simp [go_sem]; try (refine ⟨by kernel_rfl,?_⟩))
 (repeat (refine aA [0,1,2,3,4,7,14,1000000,1000001] hX mixed rfl ?_; (simp [go_sem]; try (refine ⟨by kernel_rfl,?_⟩))))
 refine aG (by simp [go_sem]) ?_
 (repeat (refine aA [0,1,2,3,4,7,14,1000000,1000001] hX mixed rfl ?_; (simp [go_sem]; try (refine ⟨by kernel_rfl,?_⟩))))
 (try refine aK ?_); (try simp only [thenQ,blkQ,loopQ]); refine cM [(1000000,.ow 0),(1000001,.ow 1)] [.old 0 (vO v),.old 1 (eO e)] ?_
 simp [go_sem]
set_option maxHeartbeats 4000000 in
theorem EB (G : List (By × Int)) (e : E) (v : Int) (he : OkE e) (hv : evD G e = some v) : MeansH Tryz.prog 161 (MH G) [.el 0 3 0 0,ex e,ii 0] (.tup [ii v,ii 0]) (MH G) :=by
 have c1 :=CA G 12 e v he he.2 hv
 refine lP 3 13 [.cell 6 3,.cell 7 24] Tryz.func161 rfl rfl rfl (by simp) (by decide) rfl fun X hX => ?_
 refine eP ?_
 ((first | refine cG [0,1,2,4,6,7,1000000,1000001,1000002] hX ?_ | refine bT [0,1,2,4,6,7,1000000,1000001,1000002] hX mixed ?_ | refine aK ?_ | refine bF ?_ | refine cH ?_); (simp [go_sem]; try (refine ⟨by kernel_rfl,?_⟩)))
 refine lQ (l :=[_]) (oD :=_) [0,2,4,6,7,1000000,1000001,1000002] hX rfl rfl rfl rfl ?_
 (simp [go_sem]; try (refine ⟨by kernel_rfl,?_⟩))
 refine ⟨_,_,⟨rfl,rfl⟩,by simp [go_sem],by simp [go_sem],fun X hX => ?_⟩
 try (simp [go_sem]; try (refine ⟨by kernel_rfl,?_⟩))
 refine bX (st0 :=⟨mkE [(0,.el 0 3 0 0),(2,ii 0),(4,.el 3 5 0 0),(6,.el 4 1 0 0),(7,.el 5 1 0 0),(1000000,.ow 0),(1000001,.ow 1),(1000002,.ow 2),(1000003,.el 4 1 0 0),(1000004,.el 5 1 0 0)],[.row mR,.row rR,.map (gR G),.row ⟨29,5,[ex e]⟩,.row (vO 0),.row (eO 0)]⟩) ?_ ?_
 · refine aM _ [.old 0 mR,.old 1 rR,.oldM 2 (gR G),.old 3 ⟨29,5,[ex e]⟩,.old 4 (vO 0),.old 5 (eO 0)] (by simp [go_sem]) ?_
   simp [go_sem]
 (repeat (refine aB [0,2,4,6,7,1000000,1000001,1000002,1000003,1000004] hX mixed rfl ?_; (simp [go_sem]; try (refine ⟨by kernel_rfl,?_⟩))))
 first | refine aF [0,1,2] (c1) (by simp [go_sem]) ?_ | refine aD [0,1,2] (c1) (by simp [go_sem]) ?_ | refine aE [0,1,2] (c1) (by simp [go_sem]) ?_
 try (simp [go_sem]; try (refine ⟨by kernel_rfl,?_⟩))
 refine aK ?_
 simp only [doorQ]
 refine fM [4,5] (wS v 0) rfl ?_ ?_
 · simp [go_sem]
 · refine aJ [(1000000,.ow 0),(1000001,.ow 1),(1000002,.ow 2)] [.old 0 mR,.old 1 rR,.oldM 2 (gR G)] ?_
   simp [go_sem]
abbrev v3 (v : By × Int × Int) : AV :=.agg [ss v.1,ii v.2.1,ii v.2.2]
@[go_sem] theorem DH {L : List (By × Int × Int)} {k : Nat} (h : k < L.length) : nth (L.map v3) k = v3 L[k] :=cX v3 h
def gOf (V : List (By × Int × Int)) : List (By × Int) :=givU [] (V.map fun v => (v.1,v.2.2))
set_option maxHeartbeats 8000000 in
set_option maxRecDepth 20000 in
theorem BX (V : List (By × Int × Int)) (e : E) (v : Int) (hV : V.length ≤ 100 ∧ ∀ x ∈ V,-1099511627776 ≤ x.2.2 ∧ x.2.2 ≤ 1099511627776) (he : OkE e) (hv : evD (gOf V) e = some v) :
  Means true Tryz.prog 138 [.sl [],.sl (V.map v3),ex e] (.tup [ii v,ii 0]) :=by
 have c1 :=cO e he
 have c2 :=EB (gOf V) e v he hv
 have hlen :=hV.1
 refine aH true 83 [.tmp 6,.tmp 7] Tryz.func138 rfl rfl rfl (by simp) (by decide) rfl fun X hX => ?_
 (repeat (refine aA q10x3 hX mixed rfl ?_; (simp [go_sem]; try (refine ⟨by kernel_rfl,?_⟩))))
 first | refine aP (c1) ?_ | refine aQ (c1) ?_
 try (simp [go_sem]; try (refine ⟨by kernel_rfl,?_⟩))
 refine aG (by simp [go_sem]) ?_
 (repeat (refine aA q10x3 hX mixed rfl ?_; (simp [go_sem]; try (refine ⟨by kernel_rfl,?_⟩))))
 refine aV (fun n : Nat => ⟨mkE [(0,.sl []),(1,.sl (V.map v3)),(5,.el 0 5 0 0),(24,ii 0),(25,ii 0)],[.row ⟨29,5,[ex e]⟩]⟩) (fun n => n = 0) (fun n => 0) 0 ?_ ?_ ?_
 · refine aM _ [.old 0 ⟨29,5,[ex e]⟩] (by simp [go_sem]) ?_
   simp [go_sem]
 · rfl
 rintro n -
 (repeat (refine aA q10x3 hX mixed rfl ?_; (simp [go_sem]; try (refine ⟨by kernel_rfl,?_⟩))))
 refine aG (by simp [go_sem]) ?_
 (repeat (refine aA q10x3 hX mixed rfl ?_; (simp [go_sem]; try (refine ⟨by kernel_rfl,?_⟩))))
 refine aV (fun n : Nat => ⟨mkE [(0,.sl []),(5,.el 0 5 0 0),(10,.el 3 3 0 0),(41,.sl (V.map v3)),(42,ii V.length),(43,ii n)],
  [.row ⟨29,5,[ex e]⟩,.row rR,.map (gR (gOf (V.take n))),.row mR]⟩) (fun n => n ≤ V.length) (fun n => V.length - n) 0 ?_ ?_ ?_
 · refine aM _ [.old 0 ⟨29,5,[ex e]⟩,.old 1 rR,.oldM 2 ⟨9,3,[]⟩,.old 3 mR] (by simp [go_sem]) ?_
   simp [go_sem,gm,gOf,givU]
 · exact Nat.zero_le _
 · rintro n hn
   (repeat (refine aA q10x3 hX mixed rfl ?_; (simp [go_sem]; try (refine ⟨by kernel_rfl,?_⟩))))
   refine aC (b :=decide (n < V.length)) (by simp [go_sem]) (fun hc => ?_) (fun hc => ?_)
   · simp at hc
     have hq :=DH hc
     have wk :=w64 (x :=(n : Int) + 1) (by omega) (by omega)
     have hu :=hV.2 V[n] (List.getElem_mem hc)
     have hn1 : ¬ 1099511627776 < V[n].2.2 :=by omega
     have hn2 : ¬ V[n].2.2 < -1099511627776 :=by omega
     have ht : gOf (V.take (n + 1)) = givS (gOf (V.take n)) (V[n].1,V[n].2.2) :=by
      unfold gOf
      rw [List.take_succ_eq_append_getElem hc,List.map_append]
      exact jF _ _ _
     have hup :=rQ V[n].1 V[n].2.2 (gOf (V.take n))
     generalize V[n] = v at *
     generalize gOf (V.take n) = G at *
     (repeat (refine aA q10x3 hX mixed rfl ?_; (simp [go_sem,hc,hq,hn1,hn2]; try (refine ⟨by kernel_rfl,?_⟩))))
     refine aG (by simp [go_sem,hn1,hn2]) ?_
     (repeat (refine aA q10x3 hX mixed rfl ?_; (simp [go_sem,hq]; try (refine ⟨by kernel_rfl,?_⟩))))
     refine aC (b :=!(G.lookup v.1).isSome) (by simp [go_sem]) (fun hd => ?_) (fun hd => ?_)
     · have hd : (G.lookup v.1).isSome = false :=by simpa using hd
       have hup :=hup hd
       have e2 : givS G (v.1,v.2.2) = G ++ [(v.1,v.2.2)] :=by unfold givS; rw [hd]; simp
       rw [e2] at ht
       generalize G ++ [(v.1,v.2.2)] = G2 at *
       (repeat (refine aA q10x3 hX mixed rfl ?_; (simp [go_sem,hup,wk]; try (refine ⟨by kernel_rfl,?_⟩))))
       refine ⟨n + 1,by omega,by omega,?_⟩
       rw [ht]
       refine aM _ [.old 0 ⟨29,5,[ex e]⟩,.old 1 rR,.oldM 2 (gR G2),.old 3 mR] (by simp [go_sem]) ?_
       simp [go_sem]
     · have hd : (G.lookup v.1).isSome = true :=by simpa using hd
       have e2 : givS G (v.1,v.2.2) = G :=by unfold givS; rw [hd]; simp
       (repeat (refine aA q10x3 hX mixed rfl ?_; (simp [go_sem,wk]; try (refine ⟨by kernel_rfl,?_⟩))))
       refine ⟨n + 1,by omega,by omega,?_⟩
       rw [ht,e2]
       refine aM _ [.old 0 ⟨29,5,[ex e]⟩,.old 1 rR,.oldM 2 (gR G),.old 3 mR] (by simp [go_sem]) ?_
       simp [go_sem]
   · have hnn : n = V.length :=by simp at hc; omega
     subst hnn
     rw [List.take_of_length_le (Nat.le_refl _)]
     (repeat (refine aA q10x3 hX mixed rfl ?_; (simp [go_sem]; try (refine ⟨by kernel_rfl,?_⟩))))
     first | refine aF [3,1,2] (c2) (by simp [go_sem]) ?_ | refine aD [3,1,2] (c2) (by simp [go_sem]) ?_ | refine aE [3,1,2] (c2) (by simp [go_sem]) ?_
     try (simp [go_sem]; try (refine ⟨by kernel_rfl,?_⟩))
     (repeat (refine aA q10x3 hX mixed rfl ?_; (simp [go_sem]; try (refine ⟨by kernel_rfl,?_⟩))))
def clM (b : Bl) : List (AV × AV) :=[(ss [100,117,101],ex b.due),(ss [102,105,110,101],ex b.fine),(ss [112,97,121],ex b.pay),(ss [99,111,118,101,114],ex b.cover),(ss [104,111,108,100],ex b.hold)]
theorem A2 (b : Bl) : lookA Tryz.prog 9 29 (ss [100,117,101]) (clM b) true = some (.tup [ex b.due,bb true]) :=by
 simp [lookA,clM,findA,dC,E4,foundA]
theorem wT (b : Bl) : lookA Tryz.prog 9 29 (ss [102,105,110,101]) (clM b) true = some (.tup [ex b.fine,bb true]) :=by
 simp [lookA,clM,findA,dC,E4,foundA]
def clE (b : Bl) (s : By) : Option E :=if s = [100,117,101] then some b.due else if s = [102,105,110,101] then some b.fine else none
set_option maxHeartbeats 8000000 in
set_option maxRecDepth 20000 in
theorem A3 (b : Bl) (h : OkB b) (h0 : b.lets = []) (s : By) (e : E) (hs : clE b s = some e) (V : List (By × Int × Int)) (v : Int) (hV : V.length ≤ 100 ∧ ∀ x ∈ V,-1099511627776 ≤ x.2.2 ∧ x.2.2 ≤ 1099511627776) (hv : evD (gOf V) e = some v) :
  Means true Tryz.prog 110 [bl b,ss s,.sl (V.map v3)] (.tup [ii v,ii 0]) :=by
 have c1 :=fY b h
 have hd : s = [100,117,101] ∧ e = b.due ∨ s = [102,105,110,101] ∧ e = b.fine :=by
  unfold clE at hs
  split at hs
  · exact .inl ⟨by assumption,(Option.some.inj hs).symm⟩
  · split at hs
    · exact .inr ⟨by assumption,(Option.some.inj hs).symm⟩
    · cases hs
 have he : OkE e :=by
  rcases hd with ⟨_,rfl⟩ | ⟨_,rfl⟩
  · exact h.due
  · exact h.fine
 have c2 :=BX V e v hV he hv
 have hl : lookA Tryz.prog 9 29 (ss s) (clM b) true = some (.tup [ex e,bb true]) :=by
  rcases hd with ⟨rfl,rfl⟩ | ⟨rfl,rfl⟩
  · exact A2 b
  · exact wT b
 clear hs hv
 refine aH true 43 [.tmp 6,.tmp 7] Tryz.func110 rfl rfl rfl (by simp) (by decide) rfl fun X hX => ?_
 (iterate 2 (refine aA q10x13 hX mixed rfl ?_; (simp [go_sem]; try (refine ⟨by kernel_rfl,?_⟩))))
 refine bV ?_
 refine xI [1,2,3,6,7,8] hX ?_
 simp [go_sem,normO,updA,dC]
 refine bX (st0 :=⟨mkE [(1,ss s),(2,.sl (V.map v3)),(3,.el 0 37 0 0),(8,.ow 1)],[.row ⟨31,37,[bl b]⟩,.map ⟨9,29,clM b⟩]⟩) ?_ ?_
 · refine aM _ [.old 0 ⟨31,37,[bl b]⟩,.oldM 1 ⟨9,29,clM b⟩] (by simp [go_sem,clM]) ?_
   simp [go_sem,clM]
 (repeat (refine aA q10x13 hX mixed rfl ?_; (simp [go_sem,hl]; try (refine ⟨by kernel_rfl,?_⟩))))
 first | refine aX (fun hg => c1) ?_ | refine aW (fun hg => c1) ?_
 try (simp [go_sem]; try (refine ⟨by kernel_rfl,?_⟩))
 refine aG (by simp [go_sem]) ?_
 (repeat (refine aA q10x13 hX mixed rfl ?_; (simp [go_sem,h0]; try (refine ⟨by kernel_rfl,?_⟩))))
 first | refine aP (c2) ?_ | refine aQ (c2) ?_
 try (simp [go_sem]; try (refine ⟨by kernel_rfl,?_⟩))
 (repeat (refine aA q10x13 hX mixed rfl ?_; (simp [go_sem]; try (refine ⟨by kernel_rfl,?_⟩))))
end Go.Proofs.YtaolljbpencjnaaGreatDoor

namespace Go.Proofs.YtaolljbpencjnaaGreatDoor
open Go.RowKit Go.Ab
attribute [local irreducible] AWP Go.Ab.Sub Means MeansH CallK CallG CallT CallGT PanicH DefH CallU
theorem BY (n : Int) (h : 0 ≤ n ∧ n ≤ 1048576) : Means true Tryz.prog 71 [ii n] (bb false) :=by
 have h1 : ¬ n < 0 :=by omega
 have h2 : ¬ 1048576 < n :=by omega
 refine aH true 9 [.tmp 2] Tryz.func71 rfl rfl rfl (by simp) (by decide) rfl fun X hX => ?_
 (repeat (refine aA [0,2] hX mixed rfl ?_; (simp [go_sem,h1,h2]; try (refine ⟨by kernel_rfl,?_⟩)))); (repeat (first | (refine aI ?_ ?_; (focus (simp [go_sem,h1,h2]; done)); (repeat (refine aA [0,2] hX mixed rfl ?_; (simp [go_sem,h1,h2]; try (refine ⟨by kernel_rfl,?_⟩))))) | (refine aG ?_ ?_; (focus (simp [go_sem,h1,h2]; done)); (repeat (refine aA [0,2] hX mixed rfl ?_; (simp [go_sem,h1,h2]; try (refine ⟨by kernel_rfl,?_⟩)))))))
theorem DI (l : List Int) (hl : l.length ≤ 100) (h : ∀ n ∈ l,0 ≤ n ∧ n ≤ 1048576) : Means true Tryz.prog 35 [il l] (bb true) :=by
 have c1 :=rB 71 (fun _ => false) l (by omega) (fun x hx => BY x (h x hx)) (by simp [go_sem])
 have hany : (l.any fun _ => false) = false :=by simp
 rw [hany] at c1
 refine aH true 6 [.tmp 2] Tryz.func35 rfl rfl rfl (by simp) (by decide) rfl fun X hX => ?_
 (repeat (refine aA [0,2] hX mixed rfl ?_; (simp [go_sem]; try (refine ⟨by kernel_rfl,?_⟩))))
 first | refine aP (c1) ?_ | refine aQ (c1) ?_
 try (simp [go_sem]; try (refine ⟨by kernel_rfl,?_⟩))
 (repeat (refine aA [0,2] hX mixed rfl ?_; (simp [go_sem]; try (refine ⟨by kernel_rfl,?_⟩))))
abbrev rcl : AV :=.v (.func (.func 112) #[] #[])
theorem DJ : Means true Tryz.prog 162 [.sl [],ii 0,ii 0,rcl] (.tup []) :=by
 have w : IntKind.i64.wrap 1 = 1 :=by decide
 refine aH true 53 [] Tryz.func162 rfl rfl rfl (by simp) (by decide) rfl fun X hX => ?_
 (repeat (refine aA [0,1,2,3,8,9,14,34] hX mixed rfl ?_; (simp [go_sem,w]; try (refine ⟨by kernel_rfl,?_⟩))))
 refine aV (fun n : Nat => ⟨mkE [(0,.sl []),(1,ii 0),(2,ii 0),(3,rcl),(8,ii 1)],[]⟩) (fun n => n = 0) (fun n => 0) 0 ?_ ?_ ?_
 · refine aM _ [] (by simp [go_sem]) ?_
   simp [go_sem]
 · rfl
 rintro n -
 (repeat (refine aA [0,1,2,3,8,9,14,34] hX mixed rfl ?_; (simp [go_sem]; try (refine ⟨by kernel_rfl,?_⟩))))
 refine aG (by simp [go_sem]) ?_
 (repeat (refine aA [0,1,2,3,8,9,14,34] hX mixed rfl ?_; (simp [go_sem]; try (refine ⟨by kernel_rfl,?_⟩))))
theorem BZ : Means true Tryz.prog 139 [.sl [],ii 0,rcl] (.tup []) :=by
 have c1 :=DJ
 refine aH true 63 [] Tryz.func139 rfl rfl rfl (by simp) (by decide) rfl fun X hX => ?_
 (repeat (refine aA q10x10 hX mixed rfl ?_; (simp [go_sem]; try (refine ⟨by kernel_rfl,?_⟩))))
 refine aV (fun n : Nat => ⟨mkE [(0,.sl []),(1,ii 0),(2,rcl),(6,ii 20),(7,ii 0),(8,ii 20)],[]⟩) (fun n => n = 0) (fun n => 0) 0 ?_ ?_ ?_
 · refine aM _ [] (by simp [go_sem]) ?_
   simp [go_sem]
 · rfl
 rintro n -
 (repeat (refine aA q10x10 hX mixed rfl ?_; (simp [go_sem]; try (refine ⟨by kernel_rfl,?_⟩))))
 refine aG (by simp [go_sem]) ?_
 (repeat (refine aA q10x10 hX mixed rfl ?_; (simp [go_sem]; try (refine ⟨by kernel_rfl,?_⟩))))
 first | refine aP (c1) ?_ | refine aQ (c1) ?_
 try (simp [go_sem]; try (refine ⟨by kernel_rfl,?_⟩))
 (repeat (refine aA q10x10 hX mixed rfl ?_; (simp [go_sem]; try (refine ⟨by kernel_rfl,?_⟩))))
 refine aV (fun n : Nat => ⟨mkE [(0,.sl []),(1,ii 0),(2,rcl),(6,ii 20)],[]⟩) (fun n => n = 0) (fun n => 0) 0 ?_ ?_ ?_
 · refine aM _ [] (by simp [go_sem]) ?_
   simp [go_sem]
 · rfl
 rintro n -
 (repeat (refine aA q10x10 hX mixed rfl ?_; (simp [go_sem]; try (refine ⟨by kernel_rfl,?_⟩))))
 refine aG (by simp [go_sem]) ?_
 (repeat (refine aA q10x10 hX mixed rfl ?_; (simp [go_sem]; try (refine ⟨by kernel_rfl,?_⟩))))
theorem C0 : Means true Tryz.prog 111 [.sl [],rcl] (.tup []) :=by
 have c1 :=BZ
 refine aH true 9 [] Tryz.func111 rfl rfl rfl (by simp) (by decide) rfl fun X hX => ?_
 (repeat (refine aA [0,1] hX mixed rfl ?_; (simp [go_sem]; try (refine ⟨by kernel_rfl,?_⟩))))
 first | refine aP (c1) ?_ | refine aQ (c1) ?_
 try (simp [go_sem]; try (refine ⟨by kernel_rfl,?_⟩))
 (repeat (refine aA [0,1] hX mixed rfl ?_; (simp [go_sem]; try (refine ⟨by kernel_rfl,?_⟩))))
abbrev cirV (b : Bl) (f n k j d : Int) : AV :=.agg [ii b.kind,ii b.period,ii b.grace,ii b.wait,ii b.last,ii b.order,bb b.sld,ii b.backs,ii b.voices,ii b.jury,ii b.fund,.sl (b.lets.map lt),ii b.due.op,ii b.due.n,ii b.due.u,ss b.due.s,.sl b.due.args,ii b.fine.op,ii b.fine.n,ii b.fine.u,ss b.fine.s,.sl b.fine.args,ii b.pay.op,ii b.pay.n,ii b.pay.u,ss b.pay.s,.sl b.pay.args,ii b.cover.op,ii b.cover.n,ii b.cover.u,ss b.cover.s,.sl b.cover.args,ii b.hold.op,ii b.hold.n,ii b.hold.u,ss b.hold.s,.sl b.hold.args,ii f,ii n,ii k,ii j,.sl [],ii 0,ii 0,.sl [],ii d]
def varV (b : Bl) (n p age late : Int) : List (By × Int × Int) :=[([109,101,109,98,101,114,115],1,n),([112,101,114,105,111,100],1,p),([108,97,115,116],1,b.last),([97,103,101],2,age),([108,97,116,101],2,late)]
theorem DK (b : Bl) (f n k j d p age late : Int) : Means true Tryz.prog 109 [cirV b f n k j d,ii p,ii age,ii late] (.sl ((varV b n p age late).map v3)) :=by
 refine aH true 23 [.tmp 8] Tryz.func109 rfl rfl rfl (by simp) (by decide) rfl fun X hX => ?_
 (repeat (refine aA [0,1,2,3,4,8] hX mixed rfl ?_; (simp [go_sem]; try (refine ⟨by kernel_rfl,?_⟩))))
 rfl
def varS (b : Bl) (n p age late : Int) (s : By) : List (By × Int × Int) :=if s = [100,117,101] then (varV b n p age late).take 4 else varV b n p age late
def fits (x : Int) : Prop :=-1099511627776 ≤ x ∧ x ≤ 1099511627776
set_option maxRecDepth 20000 in
theorem A4 (b : Bl) (h : OkB b) (h0 : b.lets = []) (f n k j d p age late : Int) (hn : fits n) (hp : fits p) (ha : fits age) (hl : fits late) (s : By) (e : E) (hs : clE b s = some e) (v : Int) (hv : evD (gOf (varS b n p age late s)) e = some v) :
  Means true Tryz.prog 72 [cirV b f n k j d,ss s,ii p,ii age,ii late] (.tup [ii v,ii 0]) :=by
 have c1 :=DK b f n k j d p age late
 have hb :=s9 hv
 have hla :=h.last
 have hall : ∀ x ∈ varV b n p age late,-1099511627776 ≤ x.2.2 ∧ x.2.2 ≤ 1099511627776 :=by
  unfold fits at *
  intro x hx
  simp only [varV,List.mem_cons,List.not_mem_nil,or_false] at hx
  rcases hx with rfl | rfl | rfl | rfl | rfl
  · exact hn
  · exact hp
  · constructor <;> simp only <;> omega
  · exact ha
  · exact hl
 have c2 :=A3 b h h0 s e hs (varS b n p age late s) v ⟨by unfold varS; split <;> simp [varV],fun x hx => by
  refine hall x ?_
  unfold varS at hx
  split at hx
  · exact List.mem_of_mem_take hx
  · exact hx⟩ hv
 have hm : max v 0 = v :=by omega
 have hlen : (varV b n p age late).length = 5 :=rfl
 have hd : s = [100,117,101] ∨ s = [102,105,110,101] :=by
  unfold clE at hs
  split at hs
  · exact .inl (by assumption)
  · split at hs
    · exact .inr (by assumption)
    · cases hs
 clear hs hv
 rcases hd with rfl | rfl
 · have e1 : varS b n p age late [100,117,101] = (varV b n p age late).take 4 :=rfl
   rw [e1,List.map_take] at c2
   generalize varV b n p age late = V at *
   refine aH true 35 [.tmp 10,.tmp 11] Tryz.func72 rfl rfl rfl (by simp) (by decide) rfl fun X hX => ?_
   (repeat (refine aA q10x7 hX mixed rfl ?_; (simp [go_sem]; try (refine ⟨by kernel_rfl,?_⟩))))
   first | refine aP (c1) ?_ | refine aQ (c1) ?_
   try (simp [go_sem]; try (refine ⟨by kernel_rfl,?_⟩))
   (repeat (refine aA q10x7 hX mixed rfl ?_; (simp [go_sem,hlen]; try (refine ⟨by kernel_rfl,?_⟩)))); (repeat (first | (refine aI ?_ ?_; (focus (simp [go_sem,hlen]; done)); (repeat (refine aA q10x7 hX mixed rfl ?_; (simp [go_sem,hlen]; try (refine ⟨by kernel_rfl,?_⟩))))) | (refine aG ?_ ?_; (focus (simp [go_sem,hlen]; done)); (repeat (refine aA q10x7 hX mixed rfl ?_; (simp [go_sem,hlen]; try (refine ⟨by kernel_rfl,?_⟩)))))))
   refine And.intro (fun e x y z _ he => by subst he; rfl) ?_
   (repeat (refine aA q10x7 hX mixed rfl ?_; (simp [go_sem]; try (refine ⟨by kernel_rfl,?_⟩))))
   first | refine aP (c2) ?_ | refine aQ (c2) ?_
   try (simp [go_sem]; try (refine ⟨by kernel_rfl,?_⟩))
   (repeat (refine aA q10x7 hX mixed rfl ?_; (simp [go_sem,hm]; try (refine ⟨by kernel_rfl,?_⟩))))
 · have e1 : varS b n p age late [102,105,110,101] = varV b n p age late :=rfl
   rw [e1] at c2
   generalize varV b n p age late = V at *
   refine aH true 35 [.tmp 10,.tmp 11] Tryz.func72 rfl rfl rfl (by simp) (by decide) rfl fun X hX => ?_
   (repeat (refine aA q10x7 hX mixed rfl ?_; (simp [go_sem]; try (refine ⟨by kernel_rfl,?_⟩))))
   first | refine aP (c1) ?_ | refine aQ (c1) ?_
   try (simp [go_sem]; try (refine ⟨by kernel_rfl,?_⟩))
   (repeat (refine aA q10x7 hX mixed rfl ?_; (simp [go_sem,hlen]; try (refine ⟨by kernel_rfl,?_⟩)))); (repeat (first | (refine aI ?_ ?_; (focus (simp [go_sem,hlen]; done)); (repeat (refine aA q10x7 hX mixed rfl ?_; (simp [go_sem,hlen]; try (refine ⟨by kernel_rfl,?_⟩))))) | (refine aG ?_ ?_; (focus (simp [go_sem,hlen]; done)); (repeat (refine aA q10x7 hX mixed rfl ?_; (simp [go_sem,hlen]; try (refine ⟨by kernel_rfl,?_⟩)))))))
   first | refine aP (c2) ?_ | refine aQ (c2) ?_
   try (simp [go_sem]; try (refine ⟨by kernel_rfl,?_⟩))
   (repeat (refine aA q10x7 hX mixed rfl ?_; (simp [go_sem,hm]; try (refine ⟨by kernel_rfl,?_⟩))))
theorem wU (b : Bl) (f n k j d p due : Int) : Means true Tryz.prog 73 [cirV b f n k j d,ii p,ii due] (.tup [ii 0,ii d]) :=by
 have c1 :=C0
 refine aH true 91 [.tmp 6,.tmp 7] Tryz.func73 rfl rfl rfl (by simp) (by decide) rfl fun X hX => ?_
 (repeat (refine aA q10x5 hX mixed rfl ?_; (simp [go_sem]; try (refine ⟨by kernel_rfl,?_⟩))))
 refine bU 0 ?_
 (repeat (refine aA q10x5 hX mixed rfl ?_; (simp [go_sem]; try (refine ⟨by kernel_rfl,?_⟩)))); (repeat (first | (refine aI ?_ ?_; (focus (simp [go_sem]; done)); (repeat (refine aA q10x5 hX mixed rfl ?_; (simp [go_sem]; try (refine ⟨by kernel_rfl,?_⟩))))) | (refine aG ?_ ?_; (focus (simp [go_sem]; done)); (repeat (refine aA q10x5 hX mixed rfl ?_; (simp [go_sem]; try (refine ⟨by kernel_rfl,?_⟩)))))))
 first | refine aP (c1) ?_ | refine aQ (c1) ?_
 try (simp [go_sem]; try (refine ⟨by kernel_rfl,?_⟩))
 (repeat (refine aA q10x5 hX mixed rfl ?_; (simp [go_sem]; try (refine ⟨by kernel_rfl,?_⟩)))); (repeat (first | (refine aI ?_ ?_; (focus (simp [go_sem]; done)); (repeat (refine aA q10x5 hX mixed rfl ?_; (simp [go_sem]; try (refine ⟨by kernel_rfl,?_⟩))))) | (refine aG ?_ ?_; (focus (simp [go_sem]; done)); (repeat (refine aA q10x5 hX mixed rfl ?_; (simp [go_sem]; try (refine ⟨by kernel_rfl,?_⟩)))))))
 refine bU 0 ?_
 (repeat (refine aA q10x5 hX mixed rfl ?_; (simp [go_sem]; try (refine ⟨by kernel_rfl,?_⟩)))); (repeat (first | (refine aI ?_ ?_; (focus (simp [go_sem]; done)); (repeat (refine aA q10x5 hX mixed rfl ?_; (simp [go_sem]; try (refine ⟨by kernel_rfl,?_⟩))))) | (refine aG ?_ ?_; (focus (simp [go_sem]; done)); (repeat (refine aA q10x5 hX mixed rfl ?_; (simp [go_sem]; try (refine ⟨by kernel_rfl,?_⟩)))))))
abbrev owV (k p due late fine : Int) : AV :=.agg [ii k,ii p,ii due,ii 0,ii late,ii fine]
set_option maxHeartbeats 8000000 in
set_option maxRecDepth 20000 in
theorem A5 (b : Bl) (h : OkB b) (h0 : b.lets = []) (f n k j d p x first late due fine : Int) (hp : 0 ≤ p ∧ p ≤ 1000) (hn : fits n) (hdu : dueV p f b.period b.grace = (x,0)) (hbe : beginsV p f b.period = (first,0)) (hj : 0 ≤ j ∧ j ≤ first ∧ first ≤ 1048576)
  (hv : evD (gOf (varS b n p (first - j) 0 [100,117,101])) b.due = some due) (hd0 : 0 < due) (hla : (lateV d p f b.period b.grace).1 = late) (hl0 : 0 ≤ late ∧ late ≤ 1048576) (hf : late = 0 ∧ fine = 0 ∨ 0 < late ∧ evD (gOf (varS b n p (first - j) late [102,105,110,101])) b.fine = some fine) :
  Means true Tryz.prog 36 [cirV b f n k j d,ii p] (.tup [owV k p due late fine,ii 0]) :=by
 have hper :=h.period
 have hgr :=h.grace
 have c1 :=zJ p f b.period b.grace (by omega) (by omega) (by omega)
 have c2 :=r7 p f b.period (by omega) (by omega)
 have c3 :=A4 b h h0 f n k j d p (first - j) 0 hn (by unfold fits; omega) (by unfold fits; omega) (by unfold fits; omega) [100,117,101] b.due rfl due hv
 have c4 :=wU b f n k j d p due
 have c5 :=DB d p f b.period b.grace (by omega) (by omega) (by omega)
 have c6 : 0 < late → _ :=fun hlp => A4 b h h0 f n k j d p (first - j) late hn (by unfold fits; omega) (by unfold fits; omega) (by unfold fits; omega) [102,105,110,101] b.fine rfl fine (by
  rcases hf with hf | hf
  · omega
  · exact hf.2)
 rw [hdu] at c1
 rw [hbe] at c2
 simp only [t2,hla] at c1 c2 c5
 generalize (lateV d p f b.period b.grace).2 = le at c5
 have w1 :=w64 (x :=first - j) (by omega) (by omega)
 have m1 : max (first - j) 0 = first - j :=by omega
 clear hdu hbe hv hla
 refine aH true 111 [.cell 4 61,.tmp 5] Tryz.func36 rfl rfl rfl (by simp) (by decide) rfl fun X hX => ?_
 (repeat (refine aA q10x1 hX mixed rfl ?_; (simp [go_sem]; try (refine ⟨by kernel_rfl,?_⟩))))
 first | refine aP (c1) ?_ | refine aQ (c1) ?_
 try (simp [go_sem]; try (refine ⟨by kernel_rfl,?_⟩))
 (repeat (refine aA q10x1 hX mixed rfl ?_; (simp [go_sem]; try (refine ⟨by kernel_rfl,?_⟩)))); (repeat (first | (refine aI ?_ ?_; (focus (simp [go_sem]; done)); (repeat (refine aA q10x1 hX mixed rfl ?_; (simp [go_sem]; try (refine ⟨by kernel_rfl,?_⟩))))) | (refine aG ?_ ?_; (focus (simp [go_sem]; done)); (repeat (refine aA q10x1 hX mixed rfl ?_; (simp [go_sem]; try (refine ⟨by kernel_rfl,?_⟩)))))))
 first | refine aP (c2) ?_ | refine aQ (c2) ?_
 try (simp [go_sem]; try (refine ⟨by kernel_rfl,?_⟩))
 (repeat (refine aA q10x1 hX mixed rfl ?_; (simp [go_sem,w1,m1]; try (refine ⟨by kernel_rfl,?_⟩)))); (repeat (first | (refine aI ?_ ?_; (focus (simp [go_sem,w1,m1]; done)); (repeat (refine aA q10x1 hX mixed rfl ?_; (simp [go_sem,w1,m1]; try (refine ⟨by kernel_rfl,?_⟩))))) | (refine aG ?_ ?_; (focus (simp [go_sem,w1,m1]; done)); (repeat (refine aA q10x1 hX mixed rfl ?_; (simp [go_sem,w1,m1]; try (refine ⟨by kernel_rfl,?_⟩)))))))
 first | refine aP (c3) ?_ | refine aQ (c3) ?_
 try (simp [go_sem]; try (refine ⟨by kernel_rfl,?_⟩))
 (repeat (refine aA q10x1 hX mixed rfl ?_; (simp [go_sem]; try (refine ⟨by kernel_rfl,?_⟩)))); (repeat (first | (refine aI ?_ ?_; (focus (simp [go_sem]; done)); (repeat (refine aA q10x1 hX mixed rfl ?_; (simp [go_sem]; try (refine ⟨by kernel_rfl,?_⟩))))) | (refine aG ?_ ?_; (focus (simp [go_sem]; done)); (repeat (refine aA q10x1 hX mixed rfl ?_; (simp [go_sem]; try (refine ⟨by kernel_rfl,?_⟩)))))))
 first | refine aP (c4) ?_ | refine aQ (c4) ?_
 try (simp [go_sem]; try (refine ⟨by kernel_rfl,?_⟩))
 (repeat (refine aA q10x1 hX mixed rfl ?_; (simp [go_sem,hd0]; try (refine ⟨by kernel_rfl,?_⟩)))); (repeat (first | (refine aI ?_ ?_; (focus (simp [go_sem,hd0]; done)); (repeat (refine aA q10x1 hX mixed rfl ?_; (simp [go_sem,hd0]; try (refine ⟨by kernel_rfl,?_⟩))))) | (refine aG ?_ ?_; (focus (simp [go_sem,hd0]; done)); (repeat (refine aA q10x1 hX mixed rfl ?_; (simp [go_sem,hd0]; try (refine ⟨by kernel_rfl,?_⟩)))))))
 first | refine aP (c5) ?_ | refine aQ (c5) ?_
 try (simp [go_sem]; try (refine ⟨by kernel_rfl,?_⟩))
 by_cases hlp : 0 < late
 · have c6 :=c6 hlp
   (repeat (refine aA q10x1 hX mixed rfl ?_; (simp [go_sem,hlp]; try (refine ⟨by kernel_rfl,?_⟩)))); (repeat (first | (refine aI ?_ ?_; (focus (simp [go_sem,hlp]; done)); (repeat (refine aA q10x1 hX mixed rfl ?_; (simp [go_sem,hlp]; try (refine ⟨by kernel_rfl,?_⟩))))) | (refine aG ?_ ?_; (focus (simp [go_sem,hlp]; done)); (repeat (refine aA q10x1 hX mixed rfl ?_; (simp [go_sem,hlp]; try (refine ⟨by kernel_rfl,?_⟩)))))))
   first | refine aP (c6) ?_ | refine aQ (c6) ?_
   try (simp [go_sem]; try (refine ⟨by kernel_rfl,?_⟩))
   (repeat (refine aA q10x1 hX mixed rfl ?_; (simp [go_sem]; try (refine ⟨by kernel_rfl,?_⟩)))); (repeat (first | (refine aI ?_ ?_; (focus (simp [go_sem]; done)); (repeat (refine aA q10x1 hX mixed rfl ?_; (simp [go_sem]; try (refine ⟨by kernel_rfl,?_⟩))))) | (refine aG ?_ ?_; (focus (simp [go_sem]; done)); (repeat (refine aA q10x1 hX mixed rfl ?_; (simp [go_sem]; try (refine ⟨by kernel_rfl,?_⟩)))))))
 · have e1 : late = 0 ∧ fine = 0 :=by
    rcases hf with hf | hf
    · exact hf
    · omega
   obtain ⟨rfl,rfl⟩ :=e1
   (repeat (refine aA q10x1 hX mixed rfl ?_; (simp [go_sem]; try (refine ⟨by kernel_rfl,?_⟩)))); (repeat (first | (refine aI ?_ ?_; (focus (simp [go_sem]; done)); (repeat (refine aA q10x1 hX mixed rfl ?_; (simp [go_sem]; try (refine ⟨by kernel_rfl,?_⟩))))) | (refine aG ?_ ?_; (focus (simp [go_sem]; done)); (repeat (refine aA q10x1 hX mixed rfl ?_; (simp [go_sem]; try (refine ⟨by kernel_rfl,?_⟩)))))))
set_option maxHeartbeats 8000000 in
set_option maxRecDepth 20000 in
theorem D8 (b : Bl) (h : OkB b) (h0 : b.lets = []) (hper : b.period = 7) (hgr : b.grace = 2) (hlast : b.last = 3) (hdue : b.due = .bin 4 (.num 10 3) (.nam [109,101,109,98,101,114,115])) (hfine : b.fine = .bin 4 (.num 1 3) (.bin 5 (.nam [108,97,116,101]) (.num 1 2))) :
  Means true Tryz.prog 16 [bl b,ii 0,ii 2,.agg [ii 1,ii 0,.sl [],ii 0,ii 0],.sl [],ii 10] (.tup [.sl [owV 1 0 20 2 2,owV 1 1 20 0 0],ii 0]) :=by
 have c1 :=fY b h
 have c2 :=DI [0,10,0] (by simp) (by simp)
 have c3 :=jA 0 0 b.period (by omega)
 have c4 :=jA 10 0 b.period (by omega)
 have c5 :=A5 b h h0 0 2 1 0 10 0 8 0 2 20 2 (by omega) (by unfold fits; omega) (by rw [hper,hgr]; decide) (by rw [hper]; decide) (by omega) (by rw [hdue]; simp only [varS,varV,hlast]; decide +kernel) (by omega) (by rw [hper,hgr]; decide) (by omega) (.inr ⟨by omega,by rw [hfine]; simp only [varS,varV,hlast]; decide +kernel⟩)
 have c6 :=A5 b h h0 0 2 1 0 10 1 15 7 0 20 0 (by omega) (by unfold fits; omega) (by rw [hper,hgr]; decide) (by rw [hper]; decide) (by omega) (by rw [hdue]; simp only [varS,varV,hlast]; decide +kernel) (by omega) (by rw [hper,hgr]; decide) (by omega) (.inl ⟨rfl,rfl⟩)
 rw [hper,show periodV 0 0 7 = (0,0) from by decide] at c3
 rw [hper,show periodV 10 0 7 = (1,0) from by decide] at c4
 simp only [t2] at c3 c4
 simp only [cirV,hper,hlast] at c5 c6
 have w1 : IntKind.i64.wrap 1 = 1 :=by decide
 have w2 : IntKind.i64.wrap 2 = 2 :=by decide
 have m0 : max (0 : Int) 0 = 0 :=by decide
 have m1 : min (1 : Int) 2 = 1 :=by decide
 refine aH true 95 [.tmp 12,.tmp 13] Tryz.func16 rfl rfl rfl (by simp) (by decide) rfl fun X hX => ?_
 (repeat (refine aA q10x0 hX mixed rfl ?_; (simp [go_sem]; try (refine ⟨by kernel_rfl,?_⟩))))
 first | refine aP (c1) ?_ | refine aQ (c1) ?_
 try (simp [go_sem]; try (refine ⟨by kernel_rfl,?_⟩))
 first | refine aX (fun hg => c2) ?_ | refine aW (fun hg => c2) ?_
 try (simp [go_sem]; try (refine ⟨by kernel_rfl,?_⟩))
 (repeat (refine aA q10x0 hX mixed rfl ?_; (simp [go_sem,hper,m0]; try (refine ⟨by kernel_rfl,?_⟩)))); (repeat (first | (refine aI ?_ ?_; (focus (simp [go_sem,hper,m0]; done)); (repeat (refine aA q10x0 hX mixed rfl ?_; (simp [go_sem,hper,m0]; try (refine ⟨by kernel_rfl,?_⟩))))) | (refine aG ?_ ?_; (focus (simp [go_sem,hper,m0]; done)); (repeat (refine aA q10x0 hX mixed rfl ?_; (simp [go_sem,hper,m0]; try (refine ⟨by kernel_rfl,?_⟩)))))))
 first | refine aP (c3) ?_ | refine aQ (c3) ?_
 try (simp [go_sem]; try (refine ⟨by kernel_rfl,?_⟩))
 (repeat (refine aA q10x0 hX mixed rfl ?_; (simp [go_sem,hper]; try (refine ⟨by kernel_rfl,?_⟩)))); (repeat (first | (refine aI ?_ ?_; (focus (simp [go_sem,hper]; done)); (repeat (refine aA q10x0 hX mixed rfl ?_; (simp [go_sem,hper]; try (refine ⟨by kernel_rfl,?_⟩))))) | (refine aG ?_ ?_; (focus (simp [go_sem,hper]; done)); (repeat (refine aA q10x0 hX mixed rfl ?_; (simp [go_sem,hper]; try (refine ⟨by kernel_rfl,?_⟩)))))))
 first | refine aP (c4) ?_ | refine aQ (c4) ?_
 try (simp [go_sem]; try (refine ⟨by kernel_rfl,?_⟩))
 (repeat (refine aA q10x0 hX mixed rfl ?_; (simp [go_sem]; try (refine ⟨by kernel_rfl,?_⟩)))); (repeat (first | (refine aI ?_ ?_; (focus (simp [go_sem]; done)); (repeat (refine aA q10x0 hX mixed rfl ?_; (simp [go_sem]; try (refine ⟨by kernel_rfl,?_⟩))))) | (refine aG ?_ ?_; (focus (simp [go_sem]; done)); (repeat (refine aA q10x0 hX mixed rfl ?_; (simp [go_sem]; try (refine ⟨by kernel_rfl,?_⟩)))))))
 refine bU 2 ?_
 (repeat (refine aA q10x0 hX mixed rfl ?_; (simp [go_sem,hlast,w2,m1]; try (refine ⟨by kernel_rfl,?_⟩)))); (repeat (first | (refine aI ?_ ?_; (focus (simp [go_sem,hlast,w2,m1]; done)); (repeat (refine aA q10x0 hX mixed rfl ?_; (simp [go_sem,hlast,w2,m1]; try (refine ⟨by kernel_rfl,?_⟩))))) | (refine aG ?_ ?_; (focus (simp [go_sem,hlast,w2,m1]; done)); (repeat (refine aA q10x0 hX mixed rfl ?_; (simp [go_sem,hlast,w2,m1]; try (refine ⟨by kernel_rfl,?_⟩)))))))
 first | refine aP (c5) ?_ | refine aQ (c5) ?_
 try (simp [go_sem]; try (refine ⟨by kernel_rfl,?_⟩))
 (repeat (refine aA q10x0 hX mixed rfl ?_; (simp [go_sem,hlast,w1,w2,m1]; try (refine ⟨by kernel_rfl,?_⟩)))); (repeat (first | (refine aI ?_ ?_; (focus (simp [go_sem,hlast,w1,w2,m1]; done)); (repeat (refine aA q10x0 hX mixed rfl ?_; (simp [go_sem,hlast,w1,w2,m1]; try (refine ⟨by kernel_rfl,?_⟩))))) | (refine aG ?_ ?_; (focus (simp [go_sem,hlast,w1,w2,m1]; done)); (repeat (refine aA q10x0 hX mixed rfl ?_; (simp [go_sem,hlast,w1,w2,m1]; try (refine ⟨by kernel_rfl,?_⟩)))))))
 refine ⟨by unfold maxLen; omega,?_⟩
 (repeat (refine aA q10x0 hX mixed rfl ?_; (simp [go_sem,hlast,w1,w2,m1]; try (refine ⟨by kernel_rfl,?_⟩)))); (repeat (first | (refine aI ?_ ?_; (focus (simp [go_sem,hlast,w1,w2,m1]; done)); (repeat (refine aA q10x0 hX mixed rfl ?_; (simp [go_sem,hlast,w1,w2,m1]; try (refine ⟨by kernel_rfl,?_⟩))))) | (refine aG ?_ ?_; (focus (simp [go_sem,hlast,w1,w2,m1]; done)); (repeat (refine aA q10x0 hX mixed rfl ?_; (simp [go_sem,hlast,w1,w2,m1]; try (refine ⟨by kernel_rfl,?_⟩)))))))
 first | refine aP (c6) ?_ | refine aQ (c6) ?_
 try (simp [go_sem]; try (refine ⟨by kernel_rfl,?_⟩))
 (repeat (refine aA q10x0 hX mixed rfl ?_; (simp [go_sem,hlast,w1,w2,m1]; try (refine ⟨by kernel_rfl,?_⟩)))); (repeat (first | (refine aI ?_ ?_; (focus (simp [go_sem,hlast,w1,w2,m1]; done)); (repeat (refine aA q10x0 hX mixed rfl ?_; (simp [go_sem,hlast,w1,w2,m1]; try (refine ⟨by kernel_rfl,?_⟩))))) | (refine aG ?_ ?_; (focus (simp [go_sem,hlast,w1,w2,m1]; done)); (repeat (refine aA q10x0 hX mixed rfl ?_; (simp [go_sem,hlast,w1,w2,m1]; try (refine ⟨by kernel_rfl,?_⟩)))))))
 refine ⟨by unfold maxLen; omega,?_⟩
 (repeat (refine aA q10x0 hX mixed rfl ?_; (simp [go_sem,hlast,w1,w2,m1]; try (refine ⟨by kernel_rfl,?_⟩)))); (repeat (first | (refine aI ?_ ?_; (focus (simp [go_sem,hlast,w1,w2,m1]; done)); (repeat (refine aA q10x0 hX mixed rfl ?_; (simp [go_sem,hlast,w1,w2,m1]; try (refine ⟨by kernel_rfl,?_⟩))))) | (refine aG ?_ ?_; (focus (simp [go_sem,hlast,w1,w2,m1]; done)); (repeat (refine aA q10x0 hX mixed rfl ?_; (simp [go_sem,hlast,w1,w2,m1]; try (refine ⟨by kernel_rfl,?_⟩)))))))
end Go.Proofs.YtaolljbpencjnaaGreatDoor

namespace Go.Proofs
open Go.Shelf
def Tryz.lays151_ren : Go.Shelf.Ren :=⟨fun | 151 => 113 | 152 => 140 | 137 => 164 | 119 => 165 | 224 => 166 | 225 => 167 | 217 => 178 | 266 => 186 | n => n,fun | 9 => 9 | 21 => 21 | 4 => 4 | 3 => 3 | 5 => 5 | 0 => 0 | 46 => 188 | n => n,fun | n => n⟩
theorem Tryz.lays151 : Go.Proofs.Lays.n151 Tryz.prog Tryz.lays151_ren :={
 mixed :=by kernel_rfl
 f119 :=Tryz.func165.trans (congrArg some (by kernel_rfl))
 f137 :=Tryz.func164.trans (congrArg some (by kernel_rfl))
 f151 :=Tryz.func113.trans (congrArg some (by kernel_rfl))
 f152 :=Tryz.func140.trans (congrArg some (by kernel_rfl))
 f217 :=Tryz.func178.trans (congrArg some (by kernel_rfl))
 f224 :=Tryz.func166.trans (congrArg some (by kernel_rfl))
 f225 :=Tryz.func167.trans (congrArg some (by kernel_rfl))
 f266 :=Tryz.func186.trans (congrArg some (by kernel_rfl))
 t0 :=Tryz.underlying0
 a0 :=Tryz.isAgg0
 z0 :=Tryz.sizeOf0
 v0 :=Tryz.zeroValue0
 t3 :=Tryz.underlying3
 a3 :=Tryz.isAgg3
 z3 :=Tryz.sizeOf3
 v3 :=Tryz.zeroValue3
 t4 :=Tryz.underlying4
 a4 :=Tryz.isAgg4
 z4 :=Tryz.sizeOf4
 v4 :=Tryz.zeroValue4
 t5 :=Tryz.underlying5
 a5 :=Tryz.isAgg5
 z5 :=Tryz.sizeOf5
 v5 :=Tryz.zeroValue5
 t9 :=Tryz.underlying9
 a9 :=Tryz.isAgg9
 z9 :=Tryz.sizeOf9
 v9 :=Tryz.zeroValue9
 t21 :=Tryz.underlying21
 a21 :=Tryz.isAgg21
 z21 :=Tryz.sizeOf21
 v21 :=Tryz.zeroValue21
 t46 :=Tryz.underlying188
 a46 :=Tryz.isAgg188
 z46 :=Tryz.sizeOf188
 v46 :=Tryz.zeroValue188 }
open Go.RowKit Go.Lib in
theorem Tryz.strings_ContainsRune_ascii (s : ByteArray) (r : Int) (w : World) (h0 : 0 ≤ r) (h1 : r < 128) :
  Calls Tryz.prog 113 #[.string s,.int .i32 r] w fun e w' => e = .returned (.bool (decide (0 ≤ Lib.indexByte s.data.toList r.toNat.toUInt8))) ∧ w' = w :=Any.strings_ContainsRune_ascii Tryz.lays151 s r w h0 h1
end Go.Proofs

namespace Go.Proofs.YtaolljbpencjnaaGreatDoor
open Go.RowKit Go.Ab
attribute [local irreducible] AWP Go.Ab.Sub Means MeansH CallK CallG CallT CallGT PanicH DefH CallU
def usesL : List By :=[[107,116],[99],[99],[99,119,110,109],[110,114],[119,115],[119,109,115],[99,119,109,114,115],[99,110,109,114],[110,114],[99,110,109,116],[114,116],[110,114],[114],[99,116],[119,110],[99,109],[99,107],[110,109,114],[110,109,114],[110,109,114]]
@[go_sem] theorem glU : globV 0 = .ro (usesL.map ss) :=by rfl
abbrev eA : AV :=.agg [ii 2,ii 0,ii 0,.sl [],ii 10,ii 0,ii 0,ii 9,ii 0,ii (-1),.sl [],.sl [],ss [104,97,105,108]]
theorem A6 (n : Int) (h : 0 ≤ n ∧ n < 200) : Means true Tryz.prog 75 [ii n] (bb true) :=by
 refine aH true 9 [.tmp 2] Tryz.func75 rfl rfl rfl (by simp) (by decide) rfl fun X hX => ?_
 (repeat (refine aA [0,2] hX mixed rfl ?_; (simp [go_sem,h.1,h.2]; try (refine ⟨by kernel_rfl,?_⟩)))); (repeat (first | (refine aI ?_ ?_; (focus (simp [go_sem,h.1,h.2]; done)); (repeat (refine aA [0,2] hX mixed rfl ?_; (simp [go_sem,h.1,h.2]; try (refine ⟨by kernel_rfl,?_⟩))))) | (refine aG ?_ ?_; (focus (simp [go_sem,h.1,h.2]; done)); (repeat (refine aA [0,2] hX mixed rfl ?_; (simp [go_sem,h.1,h.2]; try (refine ⟨by kernel_rfl,?_⟩)))))))
theorem A7 (n : Int) (h : 0 ≤ n ∧ n ≤ 1048576) : Means true Tryz.prog 76 [ii n] (bb true) :=by
 refine aH true 9 [.tmp 2] Tryz.func76 rfl rfl rfl (by simp) (by decide) rfl fun X hX => ?_
 (repeat (refine aA [0,2] hX mixed rfl ?_; (simp [go_sem,h.1,h.2]; try (refine ⟨by kernel_rfl,?_⟩)))); (repeat (first | (refine aI ?_ ?_; (focus (simp [go_sem,h.1,h.2]; done)); (repeat (refine aA [0,2] hX mixed rfl ?_; (simp [go_sem,h.1,h.2]; try (refine ⟨by kernel_rfl,?_⟩))))) | (refine aG ?_ ?_; (focus (simp [go_sem,h.1,h.2]; done)); (repeat (refine aA [0,2] hX mixed rfl ?_; (simp [go_sem,h.1,h.2]; try (refine ⟨by kernel_rfl,?_⟩)))))))
theorem C1 (n : Int) (h : 0 ≤ n ∧ n ≤ 1073741824) : Means true Tryz.prog 79 [ii n] (bb true) :=by
 refine aH true 9 [.tmp 2] Tryz.func79 rfl rfl rfl (by simp) (by decide) rfl fun X hX => ?_
 (repeat (refine aA [0,2] hX mixed rfl ?_; (simp [go_sem,h.1,h.2]; try (refine ⟨by kernel_rfl,?_⟩)))); (repeat (first | (refine aI ?_ ?_; (focus (simp [go_sem,h.1,h.2]; done)); (repeat (refine aA [0,2] hX mixed rfl ?_; (simp [go_sem,h.1,h.2]; try (refine ⟨by kernel_rfl,?_⟩))))) | (refine aG ?_ ?_; (focus (simp [go_sem,h.1,h.2]; done)); (repeat (refine aA [0,2] hX mixed rfl ?_; (simp [go_sem,h.1,h.2]; try (refine ⟨by kernel_rfl,?_⟩)))))))
theorem DL : Means true Tryz.prog 78 [.sl []] (bb true) :=by
 refine aH true 20 [.tmp 2] Tryz.func78 rfl rfl rfl (by simp) (by decide) rfl fun X hX => ?_
 (repeat (refine aA [0,2,3,7,19] hX mixed rfl ?_; (simp [go_sem]; try (refine ⟨by kernel_rfl,?_⟩))))
 refine aV (fun n : Nat => ⟨mkE [(0,.sl []),(3,ii 1)],[]⟩) (fun n => n = 0) (fun n => 0) 0 ?_ ?_ ?_
 · refine aM _ [] (by simp [go_sem]) ?_
   simp [go_sem]
 · rfl
 rintro n -
 (repeat (refine aA [0,2,3,7,19] hX mixed rfl ?_; (simp [go_sem]; try (refine ⟨by kernel_rfl,?_⟩))))
 refine aG (by simp [go_sem]) ?_
 (repeat (refine aA [0,2,3,7,19] hX mixed rfl ?_; (simp [go_sem]; try (refine ⟨by kernel_rfl,?_⟩))))
theorem DM (x : Int) (hx : x = 110 ∨ x = 116) : Means true Tryz.prog 113 [ss [99,110,109,116],.v (.int .i32 x)] (bb true) :=by
 refine s3 (args :=[.string (B [99,110,109,116]),.int .i32 x]) (r :=.bool true) fun w => ?_
 refine (Tryz.strings_ContainsRune_ascii (B [99,110,109,116]) x w (by omega) (by omega)).mono fun e w' ⟨he,hw⟩ => ⟨?_,hw⟩
 rw [he]
 rcases hx with rfl | rfl <;> rfl
abbrev iR (x : Int) : AV :=.v (.int .i32 x)
abbrev emV : AV :=.agg [bb true,bb true,bb false,bb true,bb true,bb true,bb true,bb false]
def chN (i : Nat) : Nat :=([99,119,110,109,114,107,115,116] : List Nat).getD i 0
set_option maxHeartbeats 4000000 in
set_option maxRecDepth 20000 in
theorem C2 : Means true Tryz.prog 77 [eA] (bb true) :=by
 have u1 : usesL.length = 21 :=rfl
 have u2 : usesL[10]? = some [99,110,109,116] :=rfl
 have c1 :=fun x h => DM x h
 refine aH true 53 [.tmp 2] Tryz.func77 rfl rfl rfl (by simp) (by decide) rfl fun X hX => ?_
 (iterate 7 (refine aA q10x12 hX mixed rfl ?_; (simp [go_sem,u1,u2]; try (refine ⟨by kernel_rfl,?_⟩))))
 refine bX (st0 :=⟨mkE [(3,ss [99,110,109,116]),(4,.el 1 8 0 0)],[.row ⟨54,13,[eA]⟩,.row ⟨173,8,[emV]⟩]⟩) ?_ ?_
 · refine aM _ [.old 0 ⟨54,13,[eA]⟩,.old 1 ⟨173,8,[emV]⟩] (by simp [go_sem]) ?_
   simp [go_sem]
   rfl
 refine rV (c :=chN) (D :=fun _ => True) Tryz.underlying9 ?_ (by rw [hX]; decide) (by decide) (by decide) rfl rfl rfl rfl ?_ ?_
 · decide +kernel
 · intro X' r j hs hj
   have hX : X'.n = 53 :=by rw [hs.n,hX]
   have hj : j < 8 :=hj
   show AWP _ _ _ _ ⟨mkE ((6,iR (chN j)) :: (5,ii j) :: (38,.v (.pointer (some ⟨r,0,none⟩))) :: [(3,ss [99,110,109,116]),(4,.el 1 8 0 0)]),[.row ⟨54,13,[eA]⟩,.row ⟨173,8,[emV]⟩]⟩
   have hfin : ∀ {Q : Exit → St → Prop} {E : Nat → AV} {H : List Cell},Go.Ab.Sub X' ⟨mkE ((38,.v (.pointer (some ⟨r,0,none⟩))) :: [(3,ss [99,110,109,116]),(4,.el 1 8 0 0)]),[.row ⟨54,13,[eA]⟩,.row ⟨173,8,[emV]⟩]⟩ ⟨E,H⟩ → rngQ X' ⟨mkE ((38,.v (.pointer (some ⟨r,0,none⟩))) :: [(3,ss [99,110,109,116]),(4,.el 1 8 0 0)]),[.row ⟨54,13,[eA]⟩,.row ⟨173,8,[emV]⟩]⟩ True Q .normal ⟨E,H⟩ :=fun h => ⟨trivial,h⟩
   have hjj : (j = 0 ∨ j = 1 ∨ j = 3 ∨ j = 4 ∨ j = 5 ∨ j = 6) ∨ j = 2 ∨ j = 7 :=by omega
   rcases hjj with (rfl | rfl | rfl | rfl | rfl | rfl) | rfl | rfl
   iterate 6
    · (repeat (refine aA q10x12 hX mixed rfl ?_; (simp [go_sem]; try (refine ⟨by kernel_rfl,?_⟩))))
      first | refine cJ rfl ?_ | refine bO rfl ?_
      try (simp [go_sem]; try (refine ⟨by kernel_rfl,?_⟩))
      refine aG (by simp [go_sem]) ?_
      refine bF (hfin ?_)
      refine aM _ [.old 0 ⟨54,13,[eA]⟩,.old 1 ⟨173,8,[emV]⟩] (by simp [go_sem]) ?_
      simp [go_sem]
   · (repeat (refine aA q10x12 hX mixed rfl ?_; (simp [go_sem]; try (refine ⟨by kernel_rfl,?_⟩))))
     first | refine aX (fun hg => c1 110 (.inl rfl)) ?_ | refine aW (fun hg => c1 110 (.inl rfl)) ?_
     try (simp [go_sem]; try (refine ⟨by kernel_rfl,?_⟩))
     refine aG (by simp [go_sem]) ?_
     refine bF (hfin ?_)
     refine aM _ [.old 0 ⟨54,13,[eA]⟩,.old 1 ⟨173,8,[emV]⟩] (by simp [go_sem]) ?_
     simp [go_sem]
   · (repeat (refine aA q10x12 hX mixed rfl ?_; (simp [go_sem]; try (refine ⟨by kernel_rfl,?_⟩))))
     first | refine aX (fun hg => c1 116 (.inr rfl)) ?_ | refine aW (fun hg => c1 116 (.inr rfl)) ?_
     try (simp [go_sem]; try (refine ⟨by kernel_rfl,?_⟩))
     refine aG (by simp [go_sem]) ?_
     refine bF (hfin ?_)
     refine aM _ [.old 0 ⟨54,13,[eA]⟩,.old 1 ⟨173,8,[emV]⟩] (by simp [go_sem]) ?_
     simp [go_sem]
 · intro _ r
   simp only [blkQ,thenQ]
   (repeat (refine aA q10x12 hX mixed rfl ?_; (simp [go_sem]; try (refine ⟨by kernel_rfl,?_⟩))))
theorem DN : Means true Tryz.prog 80 [il [5,6,7],ii 10] (bb false) :=by
 have c1 : Means true Tryz.prog 114 [il [5,6,7],ii 10] (ii (-1)) :=by
  have w1 : IntKind.i64.wrap 1 = 1 :=by decide
  have w2 : IntKind.i64.wrap 2 = 2 :=by decide
  have w3 : IntKind.i64.wrap 3 = 3 :=by decide
  refine aH true 19 [.tmp 4] Tryz.func114 rfl rfl rfl (by simp) (by decide) rfl fun X hX => ?_
  (repeat (refine aA [0,1,4,5,7,8,9,16] hX mixed rfl ?_; (simp [go_sem]; try (refine ⟨by kernel_rfl,?_⟩))))
  refine bU 3 ?_
  (repeat (refine aA [0,1,4,5,7,8,9,16] hX mixed rfl ?_; (simp [go_sem,w1,w2,w3]; try (refine ⟨by kernel_rfl,?_⟩)))); (repeat (first | (refine aI ?_ ?_; (focus (simp [go_sem,w1,w2,w3]; done)); (repeat (refine aA [0,1,4,5,7,8,9,16] hX mixed rfl ?_; (simp [go_sem,w1,w2,w3]; try (refine ⟨by kernel_rfl,?_⟩))))) | (refine aG ?_ ?_; (focus (simp [go_sem,w1,w2,w3]; done)); (repeat (refine aA [0,1,4,5,7,8,9,16] hX mixed rfl ?_; (simp [go_sem,w1,w2,w3]; try (refine ⟨by kernel_rfl,?_⟩)))))))
 refine aH true 9 [.tmp 4] Tryz.func80 rfl rfl rfl (by simp) (by decide) rfl fun X hX => ?_
 (repeat (refine aA [0,1,4] hX mixed rfl ?_; (simp [go_sem]; try (refine ⟨by kernel_rfl,?_⟩))))
 first | refine aP (c1) ?_ | refine aQ (c1) ?_
 try (simp [go_sem]; try (refine ⟨by kernel_rfl,?_⟩))
 (repeat (refine aA [0,1,4] hX mixed rfl ?_; (simp [go_sem]; try (refine ⟨by kernel_rfl,?_⟩))))
set_option maxHeartbeats 4000000 in
set_option maxRecDepth 20000 in
theorem DO : Means true Tryz.prog 83 [eA] (bb true) :=by
 have c1 :=A7 0 (by decide)
 refine aH true 189 [.tmp 2] Tryz.func83 rfl rfl rfl (by simp) (by decide) rfl fun X hX => ?_
 (repeat (refine aA q10x8 hX mixed rfl ?_; (simp [go_sem]; try (refine ⟨by kernel_rfl,?_⟩)))); (repeat (first | (refine aI ?_ ?_; (focus (simp [go_sem]; done)); (repeat (refine aA q10x8 hX mixed rfl ?_; (simp [go_sem]; try (refine ⟨by kernel_rfl,?_⟩))))) | (refine aG ?_ ?_; (focus (simp [go_sem]; done)); (repeat (refine aA q10x8 hX mixed rfl ?_; (simp [go_sem]; try (refine ⟨by kernel_rfl,?_⟩)))))))
 first | refine aX (fun hg => c1) ?_ | refine aW (fun hg => c1) ?_
 try (simp [go_sem]; try (refine ⟨by kernel_rfl,?_⟩))
 (repeat (refine aA q10x8 hX mixed rfl ?_; (simp [go_sem]; try (refine ⟨by kernel_rfl,?_⟩)))); (repeat (first | (refine aI ?_ ?_; (focus (simp [go_sem]; done)); (repeat (refine aA q10x8 hX mixed rfl ?_; (simp [go_sem]; try (refine ⟨by kernel_rfl,?_⟩))))) | (refine aG ?_ ?_; (focus (simp [go_sem]; done)); (repeat (refine aA q10x8 hX mixed rfl ?_; (simp [go_sem]; try (refine ⟨by kernel_rfl,?_⟩)))))))
set_option maxHeartbeats 4000000 in
set_option maxRecDepth 20000 in
theorem zI : Means true Tryz.prog 37 [eA] (bb true) :=by
 have c1 :=A6 2 (by decide)
 have c2 :=A7 0 (by decide)
 have c3 :=C2
 have c4 :=DL
 have c5 :=DN
 have c6 :=C1 0 (by decide)
 have c7 :=A6 0 (by decide)
 have c8 :=DO
 have hn0 : nth ([] : List AV) 0 = .bad :=rfl
 have w1 : IntKind.i64.wrap (-1) = -1 :=by decide
 refine aH true 132 [.tmp 2] Tryz.func37 rfl rfl rfl (by simp) (by decide) rfl fun X hX => ?_
 (repeat (refine aA q10x6 hX mixed rfl ?_; (simp [go_sem]; try (refine ⟨by kernel_rfl,?_⟩))))
 first | refine aP (c1) ?_ | refine aQ (c1) ?_
 try (simp [go_sem]; try (refine ⟨by kernel_rfl,?_⟩))
 first | refine aX (fun hg => c2) ?_ | refine aW (fun hg => c2) ?_
 try (simp [go_sem]; try (refine ⟨by kernel_rfl,?_⟩))
 first | refine aX (fun hg => c3) ?_ | refine aW (fun hg => c3) ?_
 try (simp [go_sem]; try (refine ⟨by kernel_rfl,?_⟩))
 (repeat (refine aA q10x6 hX mixed rfl ?_; (simp [go_sem]; try (refine ⟨by kernel_rfl,?_⟩)))); (repeat (first | (refine aI ?_ ?_; (focus (simp [go_sem]; done)); (repeat (refine aA q10x6 hX mixed rfl ?_; (simp [go_sem]; try (refine ⟨by kernel_rfl,?_⟩))))) | (refine aG ?_ ?_; (focus (simp [go_sem]; done)); (repeat (refine aA q10x6 hX mixed rfl ?_; (simp [go_sem]; try (refine ⟨by kernel_rfl,?_⟩)))))))
 first | refine aX (fun hg => c4) ?_ | refine aW (fun hg => c4) ?_
 try (simp [go_sem,hn0]; try (refine ⟨by kernel_rfl,?_⟩))
 refine bA (Hl :=[]) (largs :=[.bad]) (r0 :=bb true) [] (fun hg => by cases hg) (by simp [go_sem]) (by simp [go_sem]) ?_
 try (simp [go_sem,hn0,w1]; try (refine ⟨by kernel_rfl,?_⟩))
 refine bA (Hl :=[]) (largs :=[.bad]) (r0 :=bb true) [] (fun hg => by cases hg) (by simp [go_sem]) (by simp [go_sem]) ?_
 try (simp [go_sem,hn0,w1]; try (refine ⟨by kernel_rfl,?_⟩))
 (repeat (refine aA q10x6 hX mixed rfl ?_; (simp [go_sem]; try (refine ⟨by kernel_rfl,?_⟩)))); (repeat (first | (refine aI ?_ ?_; (focus (simp [go_sem]; done)); (repeat (refine aA q10x6 hX mixed rfl ?_; (simp [go_sem]; try (refine ⟨by kernel_rfl,?_⟩))))) | (refine aG ?_ ?_; (focus (simp [go_sem]; done)); (repeat (refine aA q10x6 hX mixed rfl ?_; (simp [go_sem]; try (refine ⟨by kernel_rfl,?_⟩)))))))
 first | refine aP (c5) ?_ | refine aQ (c5) ?_
 try (simp [go_sem]; try (refine ⟨by kernel_rfl,?_⟩))
 (repeat (refine aA q10x6 hX mixed rfl ?_; (simp [go_sem]; try (refine ⟨by kernel_rfl,?_⟩)))); (repeat (first | (refine aI ?_ ?_; (focus (simp [go_sem]; done)); (repeat (refine aA q10x6 hX mixed rfl ?_; (simp [go_sem]; try (refine ⟨by kernel_rfl,?_⟩))))) | (refine aG ?_ ?_; (focus (simp [go_sem]; done)); (repeat (refine aA q10x6 hX mixed rfl ?_; (simp [go_sem]; try (refine ⟨by kernel_rfl,?_⟩)))))))
 refine aX (r :=bb true) (fr :=true) (fun hg => by cases hg) ?_
 try (simp [go_sem]; try (refine ⟨by kernel_rfl,?_⟩))
 (repeat (refine aA q10x6 hX mixed rfl ?_; (simp [go_sem]; try (refine ⟨by kernel_rfl,?_⟩)))); (repeat (first | (refine aI ?_ ?_; (focus (simp [go_sem]; done)); (repeat (refine aA q10x6 hX mixed rfl ?_; (simp [go_sem]; try (refine ⟨by kernel_rfl,?_⟩))))) | (refine aG ?_ ?_; (focus (simp [go_sem]; done)); (repeat (refine aA q10x6 hX mixed rfl ?_; (simp [go_sem]; try (refine ⟨by kernel_rfl,?_⟩)))))))
 refine aX (r :=bb true) (fr :=true) (fun hg => by cases hg) ?_
 try (simp [go_sem]; try (refine ⟨by kernel_rfl,?_⟩))
 first | refine aX (fun hg => c6) ?_ | refine aW (fun hg => c6) ?_
 try (simp [go_sem]; try (refine ⟨by kernel_rfl,?_⟩))
 first | refine aX (fun hg => c7) ?_ | refine aW (fun hg => c7) ?_
 try (simp [go_sem]; try (refine ⟨by kernel_rfl,?_⟩))
 (repeat (refine aA q10x6 hX mixed rfl ?_; (simp [go_sem]; try (refine ⟨by kernel_rfl,?_⟩)))); (repeat (first | (refine aI ?_ ?_; (focus (simp [go_sem]; done)); (repeat (refine aA q10x6 hX mixed rfl ?_; (simp [go_sem]; try (refine ⟨by kernel_rfl,?_⟩))))) | (refine aG ?_ ?_; (focus (simp [go_sem]; done)); (repeat (refine aA q10x6 hX mixed rfl ?_; (simp [go_sem]; try (refine ⟨by kernel_rfl,?_⟩)))))))
 first | refine aP (c8) ?_ | refine aQ (c8) ?_
 try (simp [go_sem]; try (refine ⟨by kernel_rfl,?_⟩))
 (repeat (refine aA q10x6 hX mixed rfl ?_; (simp [go_sem]; try (refine ⟨by kernel_rfl,?_⟩)))); (repeat (first | (refine aI ?_ ?_; (focus (simp [go_sem]; done)); (repeat (refine aA q10x6 hX mixed rfl ?_; (simp [go_sem]; try (refine ⟨by kernel_rfl,?_⟩))))) | (refine aG ?_ ?_; (focus (simp [go_sem]; done)); (repeat (refine aA q10x6 hX mixed rfl ?_; (simp [go_sem]; try (refine ⟨by kernel_rfl,?_⟩)))))))
end Go.Proofs.YtaolljbpencjnaaGreatDoor

