/-
  Lemmas for the statement at the top.
-/
import Derived.Test.YtllgjognpobnpaaGreatDoorGP6
import Derived.Test.YtllgjognpobnpaaGreatDoorGP12
import Derived.Test.YtllgjognpobnpaaGreatDoorGP11
import Derived.Test.YtllgjognpobnpaaGreatDoorGP9
set_option linter.all false
namespace Go.Ab
def q10x0:List Nat:=[0,1,2,3,4,5,6,7,10,11,16,23,34,45,51,55,1000000,1000001,1000002]
def q10x1:List Nat:=[0,1,2,3,4,6,10,12,13,19,25,50,57,60,67,72,77,1000000,1000001,1000002]
def q10x2:List Nat:=[0,1,2,3,5,1000000,1000001,1000002,1000003,1000004,1000005]
def q10x3:List Nat:=[0,1,2,4,6,7,1000000,1000001,1000002]
def q10x4:List Nat:=[0,1,2,3,4,7,14,1000000,1000001]
attribute [go_sem] q10x0 q10x1 q10x2 q10x3 q10x4
end Go.Ab
namespace Go.Proofs.YtllgjognpobnpaaGreatDoor
open Go.RowKit Go.Ab
attribute [local irreducible] AWP Go.Ab.Sub Means MeansH CallK CallG CallT CallGT PanicH PanicX DefH CallU
theorem OkL.take{L:List (By×E)}(h:OkL L)(n:Nat):OkL (L.take n):=by
 refine⟨by have:=h.len;simp;omega,fun x hx=>h.nam x (List.mem_of_mem_take hx),fun x hx=>h.exp x (List.mem_of_mem_take hx),fun i j hi hj hij=>?_⟩
 simp only[List.length_take]at hi hj
 rw[List.getElem_take,List.getElem_take]
 exact h.two i j (by omega) (by omega) hij
set_option maxHeartbeats 8000000 in
set_option maxRecDepth 20000 in
theorem BV(L:List (By×E))(G:List (By×Int))(R:List (Int×Int×Bool))(n:Nat)(o2:Int)(a b:E)(x y:Int)(hL:OkL L)(hn:n≤L.length)(ho2:2≤o2∧o2≤9)(hea:OkE a)(heb:OkE b)(hx:bnd x)(hy:bnd y):
  ∃o,okO o∧OutX Tryz.prog 200 (MG L R G) [.el 0 3 0 0,ex (.bin o2 a b),ii x,ii y,ii n] (outV o) (MG L R G):=by
 have hxb:=hx
 have hyb:=hy
 unfold bnd at hx hy
 have hn2:n≤100000:=by have:=hL.len;omega
 have ht:∀q:Bool,bnd (if q then 1 else 0):=fun q=>by cases q<;>(show bnd _;unfold bnd;simp)
 have hoo:o2=2∨o2=3∨o2=4∨o2=5∨o2=6∨o2=7∨o2=8∨o2=9:=by omega
 clear ho2
 rcases hoo with rfl|rfl|rfl|rfl|rfl|rfl|rfl|rfl
 ·obtain⟨o,ho,c⟩:=lK (x+y)
  refine⟨o,ho,?_⟩
  have w:=w64 (x:=x+y) (by omega) (by omega)
  refine aN 3 87 [.tmp 10] Tryz.func200 rfl rfl rfl (by simp) (by decide) rfl fun X hX=>?_
  (repeat(refine a7 q10x1 hX mixed rfl ?_;simp[go_sem,w]));(repeat(refine aC ?_ ?_;(focus(simp[go_sem,w];done));(repeat(refine a7 q10x1 hX mixed rfl ?_;simp[go_sem,w]))))
  cases o with
  |inl e=>
   refine aO [] (c) (by simp[go_sem]) ?_
   (first|refine aZ [(1000000,.ow 0),(1000001,.ow 1),(1000002,.ow 2)] [.old 0 (mL L),.old 1 (rL R),.oldM 2 (gR G)] ?_|refine aA [(1000000,.ow 0),(1000001,.ow 1),(1000002,.ow 2)] [.old 0 (mL L),.old 1 (rL R),.oldM 2 (gR G)] ?_)
   simp[go_sem]
  |inr v=>
   refine yH [] c ?_
   simp[go_sem]
   refine aB ?_;simp only[thenQ,blkQ,loopQ];refine aA [(10,ii v),(1000000,.ow 0),(1000001,.ow 1),(1000002,.ow 2)] [.old 0 (mL L),.old 1 (rL R),.oldM 2 (gR G)] ?_
   simp[go_sem]
 ·obtain⟨o,ho,c⟩:=lK (x-y)
  refine⟨o,ho,?_⟩
  have w:=w64 (x:=x-y) (by omega) (by omega)
  refine aN 3 87 [.tmp 10] Tryz.func200 rfl rfl rfl (by simp) (by decide) rfl fun X hX=>?_
  (repeat(refine a7 q10x1 hX mixed rfl ?_;simp[go_sem,w]));(repeat(first|(refine aC ?_ ?_;(focus(simp[go_sem,w];done));(repeat(refine a7 q10x1 hX mixed rfl ?_;simp[go_sem,w])))|(refine a8 ?_ ?_;(focus(simp[go_sem,w];done));(repeat(refine a7 q10x1 hX mixed rfl ?_;simp[go_sem,w])))))
  cases o with
  |inl e=>
   refine aO [] (c) (by simp[go_sem]) ?_
   (first|refine aZ [(1000000,.ow 0),(1000001,.ow 1),(1000002,.ow 2)] [.old 0 (mL L),.old 1 (rL R),.oldM 2 (gR G)] ?_|refine aA [(1000000,.ow 0),(1000001,.ow 1),(1000002,.ow 2)] [.old 0 (mL L),.old 1 (rL R),.oldM 2 (gR G)] ?_)
   simp[go_sem]
  |inr v=>
   refine yH [] c ?_
   simp[go_sem]
   refine aB ?_;simp only[thenQ,blkQ,loopQ];refine aA [(10,ii v),(1000000,.ow 0),(1000001,.ow 1),(1000002,.ow 2)] [.old 0 (mL L),.old 1 (rL R),.oldM 2 (gR G)] ?_
   simp[go_sem]
 ·have c1:=lH (L.take n) a (hL.take n) hea
  have c2:=lH (L.take n) b (hL.take n) heb
  obtain⟨o,ho,c⟩:=z6 x y (if shareOf (L.take n) a||shareOf (L.take n) b then 1000 else 1) (by split<;>simp) hxb
  refine⟨o,ho,?_⟩
  rw[List.map_take]at c1 c2
  refine aN 3 87 [.tmp 10] Tryz.func200 rfl rfl rfl (by simp) (by decide) rfl fun X hX=>?_
  have hlt6:∀(e:AV) (x:By) (x_1:E),(x,x_1)∈L→lt (x,x_1)=e→e.flat.length=6:=by
   rintro _ _ _ _ rfl
   rfl
  (repeat(refine a7 q10x1 hX mixed rfl ?_;simp[go_sem,hn]));(repeat(first|(refine aC ?_ ?_;(focus(simp[go_sem,hn];done));(repeat(refine a7 q10x1 hX mixed rfl ?_;simp[go_sem,hn])))|(refine a8 ?_ ?_;(focus(simp[go_sem,hn];done));(repeat(refine a7 q10x1 hX mixed rfl ?_;simp[go_sem,hn])))))
  refine⟨hlt6,?_⟩
  refine bH c1 ?_
  simp[go_sem,hn]
  refine⟨fun _=>hlt6,?_⟩
  refine eT (fun hg=>c2) ?_
  (simp[go_sem];try(refine⟨by kernel_rfl,?_⟩))
  cases hs:(shareOf (L.take n) a||shareOf (L.take n) b)with
  |true=>
   rw[hs,if_pos rfl]at c
   refine aC (by simp[go_sem,←hs]) ?_
   (repeat(refine a7 q10x1 hX mixed rfl ?_;simp[go_sem]))
   cases o with
   |inl e=>
    refine aO [] (c) (by simp[go_sem]) ?_
    (first|refine aZ [(1000000,.ow 0),(1000001,.ow 1),(1000002,.ow 2)] [.old 0 (mL L),.old 1 (rL R),.oldM 2 (gR G)] ?_|refine aA [(1000000,.ow 0),(1000001,.ow 1),(1000002,.ow 2)] [.old 0 (mL L),.old 1 (rL R),.oldM 2 (gR G)] ?_)
    simp[go_sem]
   |inr v=>
    refine yH [] c ?_
    simp[go_sem]
    refine aB ?_;simp only[thenQ,blkQ,loopQ];refine aA [(10,ii v),(1000000,.ow 0),(1000001,.ow 1),(1000002,.ow 2)] [.old 0 (mL L),.old 1 (rL R),.oldM 2 (gR G)] ?_
    simp[go_sem]
  |false=>
   rw[hs,if_neg (by simp)]at c
   refine a8 (by simp[go_sem,←hs]) ?_
   (repeat(refine a7 q10x1 hX mixed rfl ?_;simp[go_sem]))
   cases o with
   |inl e=>
    refine aO [] (c) (by simp[go_sem]) ?_
    (first|refine aZ [(1000000,.ow 0),(1000001,.ow 1),(1000002,.ow 2)] [.old 0 (mL L),.old 1 (rL R),.oldM 2 (gR G)] ?_|refine aA [(1000000,.ow 0),(1000001,.ow 1),(1000002,.ow 2)] [.old 0 (mL L),.old 1 (rL R),.oldM 2 (gR G)] ?_)
    simp[go_sem]
   |inr v=>
    refine yH [] c ?_
    simp[go_sem]
    refine aB ?_;simp only[thenQ,blkQ,loopQ];refine aA [(10,ii v),(1000000,.ow 0),(1000001,.ow 1),(1000002,.ow 2)] [.old 0 (mL L),.old 1 (rL R),.oldM 2 (gR G)] ?_
    simp[go_sem]
 ·by_cases h0:y=0
  ·refine⟨.inl 15,trivial,?_⟩
   refine aN 3 87 [.tmp 10] Tryz.func200 rfl rfl rfl (by simp) (by decide) rfl fun X hX=>?_
   (repeat(refine a7 q10x1 hX mixed rfl ?_;simp[go_sem,h0]));(repeat(first|(refine aC ?_ ?_;(focus(simp[go_sem,h0];done));(repeat(refine a7 q10x1 hX mixed rfl ?_;simp[go_sem,h0];try refine⟨by kernel_rfl,?_⟩)))|(refine a8 ?_ ?_;(focus(simp[go_sem,h0];done));(repeat(refine a7 q10x1 hX mixed rfl ?_;simp[go_sem,h0])))))
   (first|refine aZ [(1000000,.ow 0),(1000001,.ow 1),(1000002,.ow 2)] [.old 0 (mL L),.old 1 (rL R),.oldM 2 (gR G)] ?_|refine aA [(1000000,.ow 0),(1000001,.ow 1),(1000002,.ow 2)] [.old 0 (mL L),.old 1 (rL R),.oldM 2 (gR G)] ?_)
   simp[go_sem]
  ·obtain⟨q,hq,c1⟩:=wK x y (by omega) h0 (by omega)
   obtain⟨o,ho,c⟩:=lK q
   refine⟨o,ho,?_⟩
   refine aN 3 87 [.tmp 10] Tryz.func200 rfl rfl rfl (by simp) (by decide) rfl fun X hX=>?_
   (repeat(refine a7 q10x1 hX mixed rfl ?_;simp[go_sem,h0]));(repeat(first|(refine aC ?_ ?_;(focus(simp[go_sem,h0];done));(repeat(refine a7 q10x1 hX mixed rfl ?_;simp[go_sem,h0])))|(refine a8 ?_ ?_;(focus(simp[go_sem,h0];done));(repeat(refine a7 q10x1 hX mixed rfl ?_;simp[go_sem,h0])))))
   refine aD c1 ?_
   simp[go_sem]
   cases o with
   |inl e=>
    refine aO [] (c) (by simp[go_sem]) ?_
    (first|refine aZ [(1000000,.ow 0),(1000001,.ow 1),(1000002,.ow 2)] [.old 0 (mL L),.old 1 (rL R),.oldM 2 (gR G)] ?_|refine aA [(1000000,.ow 0),(1000001,.ow 1),(1000002,.ow 2)] [.old 0 (mL L),.old 1 (rL R),.oldM 2 (gR G)] ?_)
    simp[go_sem]
   |inr v=>
    refine yH [] c ?_
    simp[go_sem]
    refine aB ?_;simp only[thenQ,blkQ,loopQ];refine aA [(10,ii v),(1000000,.ow 0),(1000001,.ow 1),(1000002,.ow 2)] [.old 0 (mL L),.old 1 (rL R),.oldM 2 (gR G)] ?_
    simp[go_sem]
 ·refine⟨.inr (min x y),by show bnd _;unfold bnd;omega,?_⟩
  refine aN 3 87 [.tmp 10] Tryz.func200 rfl rfl rfl (by simp) (by decide) rfl fun X hX=>?_
  (repeat(refine a7 q10x1 hX mixed rfl ?_;simp[go_sem]));(repeat(first|(refine aC ?_ ?_;(focus(simp[go_sem];done));(repeat(refine a7 q10x1 hX mixed rfl ?_;simp[go_sem])))|(refine a8 ?_ ?_;(focus(simp[go_sem];done));(repeat(refine a7 q10x1 hX mixed rfl ?_;simp[go_sem])))))
  refine aB ?_;simp only[thenQ,blkQ,loopQ];refine aA [(10,ii (min x y)),(1000000,.ow 0),(1000001,.ow 1),(1000002,.ow 2)] [.old 0 (mL L),.old 1 (rL R),.oldM 2 (gR G)] ?_
  simp[go_sem]
 ·refine⟨.inr (max x y),by show bnd _;unfold bnd;omega,?_⟩
  refine aN 3 87 [.tmp 10] Tryz.func200 rfl rfl rfl (by simp) (by decide) rfl fun X hX=>?_
  (repeat(refine a7 q10x1 hX mixed rfl ?_;simp[go_sem]));(repeat(first|(refine aC ?_ ?_;(focus(simp[go_sem];done));(repeat(refine a7 q10x1 hX mixed rfl ?_;simp[go_sem])))|(refine a8 ?_ ?_;(focus(simp[go_sem];done));(repeat(refine a7 q10x1 hX mixed rfl ?_;simp[go_sem])))))
  refine aB ?_;simp only[thenQ,blkQ,loopQ];refine aA [(10,ii (max x y)),(1000000,.ow 0),(1000001,.ow 1),(1000002,.ow 2)] [.old 0 (mL L),.old 1 (rL R),.oldM 2 (gR G)] ?_
  simp[go_sem]
 ·refine⟨.inr (if decide (x<y)then 1 else 0),ht _,?_⟩
  have c1:=fQ (decide (x<y))
  generalize(if decide (x<y)then(1:Int)else 0)=z at*
  refine aN 3 87 [.tmp 10] Tryz.func200 rfl rfl rfl (by simp) (by decide) rfl fun X hX=>?_
  (repeat(refine a7 q10x1 hX mixed rfl ?_;simp[go_sem]));(repeat(first|(refine aC ?_ ?_;(focus(simp[go_sem];done));(repeat(refine a7 q10x1 hX mixed rfl ?_;simp[go_sem])))|(refine a8 ?_ ?_;(focus(simp[go_sem];done));(repeat(refine a7 q10x1 hX mixed rfl ?_;simp[go_sem])))))
  refine aD c1 ?_
  simp[go_sem]
  refine aB ?_;simp only[thenQ,blkQ,loopQ];refine aA [(10,ii z),(1000000,.ow 0),(1000001,.ow 1),(1000002,.ow 2)] [.old 0 (mL L),.old 1 (rL R),.oldM 2 (gR G)] ?_
  simp[go_sem]
 ·refine⟨.inr (if decide (x=y)then 1 else 0),ht _,?_⟩
  have c1:=fQ (decide (x=y))
  generalize(if decide (x=y)then(1:Int)else 0)=z at*
  refine aN 3 87 [.tmp 10] Tryz.func200 rfl rfl rfl (by simp) (by decide) rfl fun X hX=>?_
  (repeat(refine a7 q10x1 hX mixed rfl ?_;simp[go_sem]));(repeat(refine a8 ?_ ?_;(focus(simp[go_sem];done));(repeat(refine a7 q10x1 hX mixed rfl ?_;simp[go_sem]))))
  refine aD c1 ?_
  simp[go_sem]
  refine aB ?_;refine aA [(10,ii z),(1000000,.ow 0),(1000001,.ow 1),(1000002,.ow 2)] [.old 0 (mL L),.old 1 (rL R),.oldM 2 (gR G)] ?_
  simp[go_sem]
end Go.Proofs.YtllgjognpobnpaaGreatDoor

namespace Go.Proofs.YtllgjognpobnpaaGreatDoor
open Go.RowKit Go.Ab
attribute [local irreducible] AWP Go.Ab.Sub Means MeansH CallK CallG CallT CallGT PanicH PanicX DefH CallU
abbrev VGe(L:List (By×E))(R:List (Int×Int×Bool))(G:List (By×Int))(e:E)(n:Nat):List Cell:=
 [.row (mL L),.row (rL R),.map (gR G),.row ⟨242,1,[.el 0 3 0 0]⟩,.row ⟨30,5,[ex e]⟩,.row ⟨3,1,[ii n]⟩]
abbrev clo:AV:=.fn 196 [] [.el 3 1 0 0,.el 4 5 0 0,.el 5 1 0 0]
set_option maxHeartbeats 4000000 in
theorem oU{L:List (By×E)}{G:List (By×Int)}{R R':List (Int×Int×Bool)}{n:Nat}{o:Int ⊕ Int}{x:E}(e:E)(i:Nat)(hi:i<e.args.length)(hq:nth e.args i=ex x)
  (c:OutX Tryz.prog 181 (MG L R G) [.el 0 3 0 0,ex x,ii n] (outV o) (MG L R' G)):
  OutX Tryz.prog 196 (VGe L R G e n) [ii i,.el 3 1 0 0,.el 4 5 0 0,.el 5 1 0 0] (outV o) (VGe L R' G e n):=by
 cases o with
 |inl f=>
  refine aN 6 14 [.tmp 5] Tryz.func196 rfl rfl rfl (by simp) (by decide) rfl fun X hX=>?_
  (repeat(first|refine aS ?_|refine aP ?_))
  ((first|refine aQ q10x2 hX ?_|refine aK q10x2 hX mixed ?_|refine aB ?_|refine aJ ?_|refine aR ?_);(simp[go_sem];try(refine⟨by kernel_rfl,?_⟩)))
  (repeat(first|refine aS ?_|refine aP ?_))
  refine uH 7 hX mixed (by kernel_rfl) (by kernel_rfl) ?_;(simp[go_sem,hi,hq];try(refine⟨by kernel_rfl,?_⟩))
  refine o4 [0,1,2] (c) (by simp[go_sem]) ?_
  rintro⟨E,H⟩ hs hg
  have g0:E 1000000=.ow 0:=hg 1000000 (Nat.le_refl _)
  have g1:E 1000001=.ow 1:=hg 1000001 (by decide)
  have g2:E 1000002=.ow 2:=hg 1000002 (by decide)
  have g3:E 1000003=.ow 3:=hg 1000003 (by decide)
  have g4:E 1000004=.ow 4:=hg 1000004 (by decide)
  have g5:E 1000005=.ow 5:=hg 1000005 (by decide)
  clear hg
  have hs:H=VGe L R' G e n:=hs.trans (by simp[go_sem])
  subst hs
  (first|refine aZ [(1000000,.ow 0),(1000001,.ow 1),(1000002,.ow 2),(1000003,.ow 3),(1000004,.ow 4),(1000005,.ow 5)] [.old 0 (mL L),.old 1 (rL R'),.oldM 2 (gR G),.old 3 ⟨242,1,[.el 0 3 0 0]⟩,.old 4 ⟨30,5,[ex e]⟩,.old 5 ⟨3,1,[ii n]⟩] ?_|refine aA [(1000000,.ow 0),(1000001,.ow 1),(1000002,.ow 2),(1000003,.ow 3),(1000004,.ow 4),(1000005,.ow 5)] [.old 0 (mL L),.old 1 (rL R'),.oldM 2 (gR G),.old 3 ⟨242,1,[.el 0 3 0 0]⟩,.old 4 ⟨30,5,[ex e]⟩,.old 5 ⟨3,1,[ii n]⟩] ?_)
  simp[go_sem,g0,g1,g2,g3,g4,g5]
 |inr v=>
  refine aN 6 14 [.tmp 5] Tryz.func196 rfl rfl rfl (by simp) (by decide) rfl fun X hX=>?_
  (repeat(refine a7 q10x2 hX mixed rfl ?_;simp[go_sem,hi,hq]))
  refine dB [0,1,2] (c) (by simp[go_sem]) ?_
  (simp[go_sem];try(refine⟨by kernel_rfl,?_⟩))
  refine aB ?_;refine aA [(5,ii v),(1000000,.ow 0),(1000001,.ow 1),(1000002,.ow 2),(1000003,.ow 3),(1000004,.ow 4),(1000005,.ow 5)] [.old 0 (mL L),.old 1 (rL R'),.oldM 2 (gR G),.old 3 ⟨242,1,[.el 0 3 0 0]⟩,.old 4 ⟨30,5,[ex e]⟩,.old 5 ⟨3,1,[ii n]⟩] ?_
  simp[go_sem]
end Go.Proofs.YtllgjognpobnpaaGreatDoor

namespace Go.Proofs.YtllgjognpobnpaaGreatDoor
open Go.RowKit Go.Ab
attribute [local irreducible] AWP Go.Ab.Sub Means MeansH CallK CallG CallT CallGT PanicH PanicX DefH CallU
structure JV(L:List (By×E))(G:List (By×Int))(e:E)(n:Nat)(R R1 R2:List (Int×Int×Bool))(oa ob oc:Int ⊕ Int)(D:Nat→Bool)(s:St):Prop where
 e3:s.env 3=.el 3 1 0 0
 e4:s.env 4=.el 4 5 0 0
 e5:s.env 5=.el 5 1 0 0
 e7:s.env 7=clo
 g0:s.env 1000000=.ow 0
 g1:s.env 1000001=.ow 1
 g2:s.env 1000002=.ow 2
 x0:D 0=true→s.env 60=.el 0 3 0 0
 x1:D 1=true→s.env 61=ex e
 x2:D 2=true→s.env 62=clo
 x4:D 4=true→s.env 64=clo
 x6:D 6=true→s.env 66=ii n
 x3:D 3=true→∃x,oa=.inr x∧s.env 63=ii x
 x5:D 5=true→D 3=true∧∃y,ob=.inr y∧s.env 65=ii y
 x7:D 7=true→D 5=true∧∃v,oc=.inr v∧s.env 67=ii v
 x8:D 8=true→∃v,oc=.inr v∧s.env 6=ii v
 hh:s.heap=bif D 5 then VGe L R2 G e n else bif D 3 then VGe L R1 G e n else VGe L R G e n
theorem JV.rows{L:List (By×E)}{G:List (By×Int)}{e:E}{n:Nat}{R R1 R2:List (Int×Int×Bool)}{oa ob oc:Int ⊕ Int}{D:Nat→Bool}{s:St}(h:JV L G e n R R1 R2 oa ob oc D s):
  ∃R0,s.heap=VGe L R0 G e n:=by
 rw[h.hh]
 cases D 5 with
 |true=>exact⟨_,rfl⟩
 |false=>cases D 3 with
  |true=>exact⟨_,rfl⟩
  |false=>exact⟨_,rfl⟩
theorem JV.put{L:List (By×E)}{G:List (By×Int)}{e:E}{n:Nat}{R R1 R2:List (Int×Int×Bool)}{oa ob oc:Int ⊕ Int}{D D':Nat→Bool}{E0 E':Nat→AV}{H H':List Cell}(h:JV L G e n R R1 R2 oa ob oc D ⟨E0,H⟩)(i d:Nat)(hd:d∉[3,4,5,7,1000000,1000001,1000002])
  (hE:∀s,s≠d→E' s=E0 s) (hD:∀j,j≠i→D' j=D j) (hp:∀p∈[(0,60),(1,61),(2,62),(3,63),(4,64),(5,65),(6,66),(7,67),(8,6)],p.1≠i→p.2≠d)
  (q0:i=0→E' 60=.el 0 3 0 0)
  (q1:i=1→E' 61=ex e)
  (q2:i=2→E' 62=clo)
  (q4:i=4→E' 64=clo)
  (q6:i=6→E' 66=ii n)
  (q3:i=3→∃x,oa=.inr x∧E' 63=ii x) (q5:i=5→D' 3=true∧∃y,ob=.inr y∧E' 65=ii y) (q7:i=7→D' 5=true∧∃v,oc=.inr v∧E' 67=ii v) (q8:i=8→∃v,oc=.inr v∧E' 6=ii v)
  (hH:H'=bif D' 5 then VGe L R2 G e n else bif D' 3 then VGe L R1 G e n else VGe L R G e n) (hm:∀j,D j=true→D' j=true):JV L G e n R R1 R2 oa ob oc D' ⟨E',H'⟩:=by
 simp only[List.mem_cons,not_or,List.not_mem_nil,not_false_eq_true,and_true]at hd
 have hne:∀a,a≠d→E' a=E0 a:=fun a ha=>hE a ha
 have val:∀j sl,(j,sl)∈[(0,60),(1,61),(2,62),(3,63),(4,64),(5,65),(6,66),(7,67),(8,6)]→j≠i→E' sl=E0 sl:=fun j sl hm hj=>hE sl (hp (j,sl) hm hj)
 refine⟨(hE _ (by omega)).trans h.e3,(hE _ (by omega)).trans h.e4,(hE _ (by omega)).trans h.e5,(hE _ (by omega)).trans h.e7,(hE _ (by omega)).trans h.g0,(hE _ (by omega)).trans h.g1,(hE _ (by omega)).trans h.g2,fun hx=>?_,fun hx=>?_,fun hx=>?_,fun hx=>?_,fun hx=>?_,fun hx=>?_,fun hx=>?_,fun hx=>?_,fun hx=>?_,hH⟩
 ·by_cases hi:0=i
  ·exact q0 hi.symm
  ·rw[hD _ hi]at hx;exact(val 0 60 (by simp) hi).trans (h.x0 hx)
 ·by_cases hi:1=i
  ·exact q1 hi.symm
  ·rw[hD _ hi]at hx;exact(val 1 61 (by simp) hi).trans (h.x1 hx)
 ·by_cases hi:2=i
  ·exact q2 hi.symm
  ·rw[hD _ hi]at hx;exact(val 2 62 (by simp) hi).trans (h.x2 hx)
 ·by_cases hi:4=i
  ·exact q4 hi.symm
  ·rw[hD _ hi]at hx;exact(val 4 64 (by simp) hi).trans (h.x4 hx)
 ·by_cases hi:6=i
  ·exact q6 hi.symm
  ·rw[hD _ hi]at hx;exact(val 6 66 (by simp) hi).trans (h.x6 hx)
 ·by_cases hi:3=i
  ·exact q3 hi.symm
  ·rw[hD _ hi]at hx
   obtain⟨x,h1,h2⟩:=h.x3 hx
   exact⟨x,h1,(val 3 63 (by simp) hi).trans h2⟩
 ·by_cases hi:5=i
  ·exact q5 hi.symm
  ·rw[hD _ hi]at hx
   obtain⟨h0,x,h1,h2⟩:=h.x5 hx
   exact⟨hm _ h0,x,h1,(val 5 65 (by simp) hi).trans h2⟩
 ·by_cases hi:7=i
  ·exact q7 hi.symm
  ·rw[hD _ hi]at hx
   obtain⟨h0,x,h1,h2⟩:=h.x7 hx
   exact⟨hm _ h0,x,h1,(val 7 67 (by simp) hi).trans h2⟩
 ·by_cases hi:8=i
  ·exact q8 hi.symm
  ·rw[hD _ hi]at hx
   obtain⟨x,h1,h2⟩:=h.x8 hx
   exact⟨x,h1,(val 8 6 (by simp) hi).trans h2⟩
end Go.Proofs.YtllgjognpobnpaaGreatDoor

namespace Go.Proofs.YtllgjognpobnpaaGreatDoor
open Go.RowKit Go.Ab
attribute [local irreducible] AWP Go.Ab.Sub Means MeansH CallK CallG CallT CallGT PanicH PanicX DefH CallU
def thenO(oa ob oc:Int ⊕ Int):Int ⊕ Int:=match oa with
 | .inl f=>.inl f
 | .inr _=>match ob with
   | .inl f=>.inl f
   | .inr _=>oc
def thenR(oa:Int ⊕ Int)(R1 R2:List (Int×Int×Bool)):List (Int×Int×Bool):=match oa with
 | .inl _=>R1
 | .inr _=>R2
set_option maxHeartbeats 8000000 in
set_option maxRecDepth 20000 in
theorem F0(L:List (By×E))(G:List (By×Int))(n:Nat)(o2:Int)(a b:E)(R R1 R2:List (Int×Int×Bool))(oa ob oc:Int ⊕ Int)(ho:2≤o2∧o2≤9)
  (kA:OutX Tryz.prog 196 (VGe L R G (.bin o2 a b) n) [ii 0,.el 3 1 0 0,.el 4 5 0 0,.el 5 1 0 0] (outV oa) (VGe L R1 G (.bin o2 a b) n))
  (kB:∀x,oa=.inr x→OutX Tryz.prog 196 (VGe L R1 G (.bin o2 a b) n) [ii 1,.el 3 1 0 0,.el 4 5 0 0,.el 5 1 0 0] (outV ob) (VGe L R2 G (.bin o2 a b) n))
  (kC:∀x y,oa=.inr x→ob=.inr y→OutX Tryz.prog 200 (MG L R2 G) [.el 0 3 0 0,ex (.bin o2 a b),ii x,ii y,ii n] (outV oc) (MG L R2 G)):
  OutX Tryz.prog 181 (MG L R G) [.el 0 3 0 0,ex (.bin o2 a b),ii n] (outV (thenO oa ob oc)) (MG L (thenR oa R1 R2) G):=by
 have n0:¬o2=0:=by omega
 have n1:¬o2=1:=by omega
 have n2:¬o2=10:=by omega
 have n3:¬o2=11:=by omega
 have n4:¬o2=12:=by omega
 have n5:¬o2=13:=by omega
 refine aN 3 68 [.tmp 6] Tryz.func181 rfl rfl rfl (by simp) (by decide) rfl fun X hX=>?_
 (repeat(first|refine aS ?_|refine aP ?_))
 ((first|refine aQ q10x0 hX ?_|refine aK q10x0 hX mixed ?_|refine aB ?_|refine aJ ?_|refine aR ?_);(simp[go_sem,n0,n1,n2,n3,n4,n5];try(refine⟨by kernel_rfl,?_⟩)))
 (repeat(first|refine aS ?_|refine aP ?_))
 ((first|refine aQ q10x0 hX ?_|refine aK q10x0 hX mixed ?_|refine aB ?_|refine aJ ?_|refine aR ?_);(simp[go_sem,n0,n1,n2,n3,n4,n5];try(refine⟨by kernel_rfl,?_⟩)))
 (repeat(first|refine aS ?_|refine aP ?_))
 ((first|refine aQ q10x0 hX ?_|refine aK q10x0 hX mixed ?_|refine aB ?_|refine aJ ?_|refine aR ?_);(simp[go_sem,n0,n1,n2,n3,n4,n5];try(refine⟨by kernel_rfl,?_⟩)))
 (repeat(first|refine aS ?_|refine aP ?_))
 ((first|refine aQ q10x0 hX ?_|refine aK q10x0 hX mixed ?_|refine aB ?_|refine aJ ?_|refine aR ?_);(simp[go_sem,n0,n1,n2,n3,n4,n5];try(refine⟨by kernel_rfl,?_⟩)))
 refine a8 (by simp[go_sem,n0]) ?_
 (repeat(first|refine aS ?_|refine aP ?_))
 ((first|refine aQ q10x0 hX ?_|refine aK q10x0 hX mixed ?_|refine aB ?_|refine aJ ?_|refine aR ?_);(simp[go_sem,n0,n1,n2,n3,n4,n5];try(refine⟨by kernel_rfl,?_⟩)))
 refine a8 (by simp[go_sem,n1]) ?_
 (repeat(first|refine aS ?_|refine aP ?_))
 ((first|refine aQ q10x0 hX ?_|refine aK q10x0 hX mixed ?_|refine aB ?_|refine aJ ?_|refine aR ?_);(simp[go_sem,n0,n1,n2,n3,n4,n5];try(refine⟨by kernel_rfl,?_⟩)))
 refine a8 (by simp[go_sem,n2]) ?_
 (repeat(first|refine aS ?_|refine aP ?_))
 ((first|refine aQ q10x0 hX ?_|refine aK q10x0 hX mixed ?_|refine aB ?_|refine aJ ?_|refine aR ?_);(simp[go_sem,n0,n1,n2,n3,n4,n5];try(refine⟨by kernel_rfl,?_⟩)))
 refine a8 (by simp[go_sem,n3]) ?_
 (repeat(first|refine aS ?_|refine aP ?_))
 ((first|refine aQ q10x0 hX ?_|refine aK q10x0 hX mixed ?_|refine aB ?_|refine aJ ?_|refine aR ?_);(simp[go_sem,n0,n1,n2,n3,n4,n5];try(refine⟨by kernel_rfl,?_⟩)))
 refine a8 (by simp[go_sem,n4]) ?_
 (repeat(first|refine aS ?_|refine aP ?_))
 ((first|refine aQ q10x0 hX ?_|refine aK q10x0 hX mixed ?_|refine aB ?_|refine aJ ?_|refine aR ?_);(simp[go_sem,n0,n1,n2,n3,n4,n5];try(refine⟨by kernel_rfl,?_⟩)))
 refine a8 (by simp[go_sem,n5]) ?_
 refine aJ ?_
 simp only[thenQ,blkQ]
 (repeat(first|refine aS ?_|refine aP ?_))
 refine oG hX mixed (JV L G (.bin o2 a b) n R R1 R2 oa ob oc) ?_ (by kernel_rfl) ?_ ?_
 ·exact⟨rfl,rfl,rfl,rfl,rfl,rfl,rfl,(fun h=>by cases h),(fun h=>by cases h),(fun h=>by cases h),(fun h=>by cases h),(fun h=>by cases h),(fun h=>by cases h),(fun h=>by cases h),(fun h=>by cases h),(fun h=>by cases h),rfl⟩
 ·intro i o D s hi hdep hDi hJ
  obtain⟨E,H⟩:=s
  have g0:E 1000000=.ow 0:=hJ.g0
  have g1:E 1000001=.ow 1:=hJ.g1
  have g2:E 1000002=.ow 2:=hJ.g2
  match i with
  |0=>
   obtain⟨R0,hr⟩:=hJ.rows
   have hr:H=VGe L R0 G (.bin o2 a b) n:=hr
   subst hr
   have e3:E 3=.el 3 1 0 0:=hJ.e3
   obtain rfl:=Option.some.inj hi
   refine⟨rfl,?_⟩
   simp[go_sem,normO,e3]
   exact⟨⟨upd E 60 (.el 0 3 0 0),VGe L R0 G (.bin o2 a b) n⟩,hJ.put 0 60 (by decide) (fun s h=>aX _ _ _ h) (fun j h=>by simp[h]) (by decide) (fun _=>bK _ _ _) (fun h=>absurd h (by decide)) (fun h=>absurd h (by decide)) (fun h=>absurd h (by decide)) (fun h=>absurd h (by decide)) (fun h=>absurd h (by decide)) (fun h=>absurd h (by decide)) (fun h=>absurd h (by decide)) (fun h=>absurd h (by decide)) (by have:=hJ.hh;simpa using this) (fun j h=>by simp[h]),Sub.refl⟩
  |1=>
   obtain⟨R0,hr⟩:=hJ.rows
   have hr:H=VGe L R0 G (.bin o2 a b) n:=hr
   subst hr
   have e4:E 4=.el 4 5 0 0:=hJ.e4
   obtain rfl:=Option.some.inj hi
   refine⟨rfl,?_⟩
   simp[go_sem,normO,e4]
   exact⟨⟨upd E 61 (ex (.bin o2 a b)),VGe L R0 G (.bin o2 a b) n⟩,hJ.put 1 61 (by decide) (fun s h=>aX _ _ _ h) (fun j h=>by simp[h]) (by decide) (fun h=>absurd h (by decide)) (fun _=>bK _ _ _) (fun h=>absurd h (by decide)) (fun h=>absurd h (by decide)) (fun h=>absurd h (by decide)) (fun h=>absurd h (by decide)) (fun h=>absurd h (by decide)) (fun h=>absurd h (by decide)) (fun h=>absurd h (by decide)) (by have:=hJ.hh;simpa using this) (fun j h=>by simp[h]),Sub.refl⟩
  |2=>
   obtain⟨R0,hr⟩:=hJ.rows
   have hr:H=VGe L R0 G (.bin o2 a b) n:=hr
   subst hr
   have e7:E 7=clo:=hJ.e7
   obtain rfl:=Option.some.inj hi
   refine⟨rfl,?_⟩
   simp[go_sem,normO,e7]
   exact⟨⟨upd E 62 (clo),VGe L R0 G (.bin o2 a b) n⟩,hJ.put 2 62 (by decide) (fun s h=>aX _ _ _ h) (fun j h=>by simp[h]) (by decide) (fun h=>absurd h (by decide)) (fun h=>absurd h (by decide)) (fun _=>bK _ _ _) (fun h=>absurd h (by decide)) (fun h=>absurd h (by decide)) (fun h=>absurd h (by decide)) (fun h=>absurd h (by decide)) (fun h=>absurd h (by decide)) (fun h=>absurd h (by decide)) (by have:=hJ.hh;simpa using this) (fun j h=>by simp[h]),Sub.refl⟩
  |3=>
   have d2:D 2=true:=hdep ⟨2,.data⟩ (by obtain rfl:=Option.some.inj hi;simp) rfl
   have d5:D 5=false:=by
    cases h:D 5 with
    |false=>rfl
    |true=>have:=(hJ.x5 h).1;rw[hDi]at this;cases this
   have hr:H=VGe L R G (.bin o2 a b) n:=by have:=hJ.hh;rw[d5,hDi]at this;exact this
   subst hr
   have e62:E 62=clo:=hJ.x2 d2
   obtain rfl:=Option.some.inj hi
   refine⟨rfl,?_⟩
   simp[go_sem,normO,e62]
   cases oa with
   |inl f=>
    refine aO [0,1,2,3,4,5] (kA) (by simp[go_sem]) ?_
    simp only[thenO,thenR,qK,qL]
    (first|refine aZ [(1000000,.ow 0),(1000001,.ow 1),(1000002,.ow 2)] [.old 0 (mL L),.old 1 (rL R1),.oldM 2 (gR G)] ?_|refine aA [(1000000,.ow 0),(1000001,.ow 1),(1000002,.ow 2)] [.old 0 (mL L),.old 1 (rL R1),.oldM 2 (gR G)] ?_)
    simp[go_sem,g0,g1,g2]
   |inr x=>
    refine yH [0,1,2,3,4,5] kA ?_
    simp[go_sem]
    exact⟨⟨upd E 63 (ii x),VGe L R1 G (.bin o2 a b) n⟩,hJ.put 3 63 (by decide) (fun s h=>aX _ _ _ h) (fun j h=>by simp[h]) (by decide) (fun h=>absurd h (by decide)) (fun h=>absurd h (by decide)) (fun h=>absurd h (by decide)) (fun h=>absurd h (by decide)) (fun h=>absurd h (by decide)) (fun _=>⟨x,rfl,bK _ _ _⟩) (fun h=>absurd h (by decide)) (fun h=>absurd h (by decide)) (fun h=>absurd h (by decide)) (by simp[d5]) (fun j h=>by simp[h]),Sub.refl⟩
  |4=>
   obtain⟨R0,hr⟩:=hJ.rows
   have hr:H=VGe L R0 G (.bin o2 a b) n:=hr
   subst hr
   have e7:E 7=clo:=hJ.e7
   obtain rfl:=Option.some.inj hi
   refine⟨rfl,?_⟩
   simp[go_sem,normO,e7]
   exact⟨⟨upd E 64 (clo),VGe L R0 G (.bin o2 a b) n⟩,hJ.put 4 64 (by decide) (fun s h=>aX _ _ _ h) (fun j h=>by simp[h]) (by decide) (fun h=>absurd h (by decide)) (fun h=>absurd h (by decide)) (fun h=>absurd h (by decide)) (fun _=>bK _ _ _) (fun h=>absurd h (by decide)) (fun h=>absurd h (by decide)) (fun h=>absurd h (by decide)) (fun h=>absurd h (by decide)) (fun h=>absurd h (by decide)) (by have:=hJ.hh;simpa using this) (fun j h=>by simp[h]),Sub.refl⟩
  |5=>
   have d3:D 3=true:=hdep ⟨3,.chain⟩ (by obtain rfl:=Option.some.inj hi;simp) rfl
   have d4:D 4=true:=hdep ⟨4,.data⟩ (by obtain rfl:=Option.some.inj hi;simp) rfl
   have d7:¬D 7=true:=fun h=>by have:=(hJ.x7 h).1;rw[hDi]at this;cases this
   have hr:H=VGe L R1 G (.bin o2 a b) n:=by have:=hJ.hh;rw[hDi,d3]at this;exact this
   subst hr
   have e64:E 64=clo:=hJ.x4 d4
   obtain⟨x,rfl,e63⟩:=hJ.x3 d3
   have kB:=kB x rfl
   obtain rfl:=Option.some.inj hi
   refine⟨rfl,?_⟩
   simp[go_sem,normO,e64]
   cases ob with
   |inl f=>
    refine aO [0,1,2,3,4,5] (kB) (by simp[go_sem]) ?_
    simp only[thenO,thenR,qK,qL]
    (first|refine aZ [(1000000,.ow 0),(1000001,.ow 1),(1000002,.ow 2)] [.old 0 (mL L),.old 1 (rL R2),.oldM 2 (gR G)] ?_|refine aA [(1000000,.ow 0),(1000001,.ow 1),(1000002,.ow 2)] [.old 0 (mL L),.old 1 (rL R2),.oldM 2 (gR G)] ?_)
    simp[go_sem,g0,g1,g2]
   |inr y=>
    refine yH [0,1,2,3,4,5] kB ?_
    simp[go_sem]
    exact⟨⟨upd E 65 (ii y),VGe L R2 G (.bin o2 a b) n⟩,hJ.put 5 65 (by decide) (fun s h=>aX _ _ _ h) (fun j h=>by simp[h]) (by decide) (fun h=>absurd h (by decide)) (fun h=>absurd h (by decide)) (fun h=>absurd h (by decide)) (fun h=>absurd h (by decide)) (fun h=>absurd h (by decide)) (fun h=>absurd h (by decide)) (fun _=>⟨by simp[d3],y,rfl,bK _ _ _⟩) (fun h=>absurd h (by decide)) (fun h=>absurd h (by decide)) (by simp) (fun j h=>by simp[h]),Sub.refl⟩
  |6=>
   obtain⟨R0,hr⟩:=hJ.rows
   have hr:H=VGe L R0 G (.bin o2 a b) n:=hr
   subst hr
   have e5:E 5=.el 5 1 0 0:=hJ.e5
   obtain rfl:=Option.some.inj hi
   refine⟨rfl,?_⟩
   simp[go_sem,normO,e5]
   exact⟨⟨upd E 66 (ii n),VGe L R0 G (.bin o2 a b) n⟩,hJ.put 6 66 (by decide) (fun s h=>aX _ _ _ h) (fun j h=>by simp[h]) (by decide) (fun h=>absurd h (by decide)) (fun h=>absurd h (by decide)) (fun h=>absurd h (by decide)) (fun h=>absurd h (by decide)) (fun _=>bK _ _ _) (fun h=>absurd h (by decide)) (fun h=>absurd h (by decide)) (fun h=>absurd h (by decide)) (fun h=>absurd h (by decide)) (by have:=hJ.hh;simpa using this) (fun j h=>by simp[h]),Sub.refl⟩
  |7=>
   have d0:D 0=true:=hdep ⟨0,.data⟩ (by obtain rfl:=Option.some.inj hi;simp) rfl
   have d1:D 1=true:=hdep ⟨1,.data⟩ (by obtain rfl:=Option.some.inj hi;simp) rfl
   have d5:D 5=true:=hdep ⟨5,.data⟩ (by obtain rfl:=Option.some.inj hi;simp) rfl
   have d6:D 6=true:=hdep ⟨6,.data⟩ (by obtain rfl:=Option.some.inj hi;simp) rfl
   have hr:H=VGe L R2 G (.bin o2 a b) n:=by have:=hJ.hh;rw[d5]at this;exact this
   subst hr
   obtain⟨d3,y,rfl,e65⟩:=hJ.x5 d5
   obtain⟨x,rfl,e63⟩:=hJ.x3 d3
   have e60:E 60=.el 0 3 0 0:=hJ.x0 d0
   have e61:E 61=ex (.bin o2 a b):=hJ.x1 d1
   have e66:E 66=ii n:=hJ.x6 d6
   have e63:E 63=ii x:=e63
   have e65:E 65=ii y:=e65
   have kC:=kC x y rfl rfl
   obtain rfl:=Option.some.inj hi
   refine⟨rfl,?_⟩
   simp[go_sem,normO,e60,e61,e63,e65,e66]
   cases oc with
   |inl f=>
    refine aO [0,1,2] (kC) (by simp[go_sem]) ?_
    simp only[thenO,thenR,qK,qL]
    (first|refine aZ [(1000000,.ow 0),(1000001,.ow 1),(1000002,.ow 2)] [.old 0 (mL L),.old 1 (rL R2),.oldM 2 (gR G)] ?_|refine aA [(1000000,.ow 0),(1000001,.ow 1),(1000002,.ow 2)] [.old 0 (mL L),.old 1 (rL R2),.oldM 2 (gR G)] ?_)
    simp[go_sem,g0,g1,g2]
   |inr v=>
    refine yH [0,1,2] kC ?_
    simp[go_sem]
    exact⟨⟨upd E 67 (ii v),VGe L R2 G (.bin o2 a b) n⟩,hJ.put 7 67 (by decide) (fun s h=>aX _ _ _ h) (fun j h=>by simp[h]) (by decide) (fun h=>absurd h (by decide)) (fun h=>absurd h (by decide)) (fun h=>absurd h (by decide)) (fun h=>absurd h (by decide)) (fun h=>absurd h (by decide)) (fun h=>absurd h (by decide)) (fun h=>absurd h (by decide)) (fun _=>⟨by simp[d5],v,rfl,bK _ _ _⟩) (fun h=>absurd h (by decide)) (by simp[d5]) (fun j h=>by simp[h]),Sub.refl⟩
  |8=>
   have d7:D 7=true:=hdep ⟨7,.data⟩ (by obtain rfl:=Option.some.inj hi;simp) rfl
   obtain⟨d5,v,rfl,k67⟩:=hJ.x7 d7
   have e67:E 67=ii v:=k67
   clear k67
   have hr:H=VGe L R2 G (.bin o2 a b) n:=by have:=hJ.hh;rw[d5]at this;exact this
   subst hr
   obtain rfl:=Option.some.inj hi
   refine⟨rfl,?_⟩
   simp[go_sem,normO,e67]
   exact⟨⟨upd E 6 (ii v),VGe L R2 G (.bin o2 a b) n⟩,hJ.put 8 6 (by decide) (fun s h=>aX _ _ _ h) (fun j h=>by simp[h]) (by decide) (fun h=>absurd h (by decide)) (fun h=>absurd h (by decide)) (fun h=>absurd h (by decide)) (fun h=>absurd h (by decide)) (fun h=>absurd h (by decide)) (fun h=>absurd h (by decide)) (fun h=>absurd h (by decide)) (fun h=>absurd h (by decide)) (fun _=>⟨v,rfl,bK _ _ _⟩) (by simp[d5]) (fun j h=>by simp[h]),Sub.refl⟩
  |k+9=>simp at hi
 ·intro D s ha hJ
  obtain⟨E,H⟩:=s
  have ha:∀i,i<9→D i=true:=ha
  obtain⟨d3,y,rfl,e65⟩:=hJ.x5 (ha 5 (by omega))
  obtain⟨x,rfl,e63⟩:=hJ.x3 d3
  obtain⟨v,rfl,k6⟩:=hJ.x8 (ha 8 (by omega))
  have e6:E 6=ii v:=k6
  clear k6
  have hr:H=VGe L R2 G (.bin o2 a b) n:=by have:=hJ.hh;rw[ha 5 (by omega)]at this;exact this
  subst hr
  have g0:E 1000000=.ow 0:=hJ.g0
  have g1:E 1000001=.ow 1:=hJ.g1
  have g2:E 1000002=.ow 2:=hJ.g2
  simp only[thenQ,thenO,thenR,F1,F2]
  refine aB ?_;refine aA [(6,ii v),(1000000,.ow 0),(1000001,.ow 1),(1000002,.ow 2)] [.old 0 (mL L),.old 1 (rL R2),.oldM 2 (gR G)] ?_
  simp[go_sem,g0,g1,g2,e6]
end Go.Proofs.YtllgjognpobnpaaGreatDoor

namespace Go.Proofs.YtllgjognpobnpaaGreatDoor
open Go.RowKit Go.Ab
attribute [local irreducible] AWP Go.Ab.Sub Means MeansH CallK CallG CallT CallGT PanicH PanicX DefH CallU
theorem mQ(q:Bool):bnd (if q then 1 else 0):=by cases q<;>(show bnd _;unfold bnd;simp)
set_option maxHeartbeats 8000000 in
set_option maxRecDepth 20000 in
theorem wL(L:List (By×E))(G:List (By×Int))(n:Nat)(hL:OkL L)(hn:n≤L.length)
  (hname:∀R s,OkR L R→∃R' o,OkR L R'∧okO o∧OutX Tryz.prog 198 (MG L R G) [.el 0 3 0 0,ss s,ii n] (outV o) (MG L R' G))
  (N:Nat) (ih:∀x,OkE x→x.lev≤N→∀R,OkR L R→∃R' o,OkR L R'∧okO o∧OutX Tryz.prog 181 (MG L R G) [.el 0 3 0 0,ex x,ii n] (outV o) (MG L R' G))
  (e:E) (he:OkE e) (hl:e.lev≤N+1) (R:List (Int×Int×Bool)) (hR:OkR L R):
  ∃R' o,OkR L R'∧okO o∧OutX Tryz.prog 181 (MG L R G) [.el 0 3 0 0,ex e,ii n] (outV o) (MG L R' G):=by
 cases e with
 |num m u=>
  have hb:bnd m:=by have:=he.1.1;unfold bnd;omega
  have c1:=BW m hb
  refine⟨R,.inr m,hR,hb,?_⟩
  refine aN 3 68 [.tmp 6] Tryz.func181 rfl rfl rfl (by simp) (by decide) rfl fun X hX=>?_
  (repeat(refine a7 q10x0 hX mixed rfl ?_;simp[go_sem]));(repeat(refine aC ?_ ?_;(focus(simp[go_sem];done));(repeat(refine a7 q10x0 hX mixed rfl ?_;simp[go_sem]))))
  refine yH [] c1 ?_
  simp[go_sem]
  refine aB ?_;simp only[thenQ,blkQ,loopQ];refine aA [(6,ii (m)),(1000000,.ow 0),(1000001,.ow 1),(1000002,.ow 2)] [.old 0 (mL L),.old 1 (rL R),.oldM 2 (gR G)] ?_
  simp[go_sem]
 |nam s=>
  obtain⟨R',o,h1,h2,c1⟩:=hname R s hR
  refine⟨R',o,h1,h2,?_⟩
  cases o with
  |inl f=>
   refine aN 3 68 [.tmp 6] Tryz.func181 rfl rfl rfl (by simp) (by decide) rfl fun X hX=>?_
   (repeat(refine a7 q10x0 hX mixed rfl ?_;simp[go_sem]));(repeat(first|(refine aC ?_ ?_;(focus(simp[go_sem];done));(repeat(refine a7 q10x0 hX mixed rfl ?_;simp[go_sem])))|(refine a8 ?_ ?_;(focus(simp[go_sem];done));(repeat(refine a7 q10x0 hX mixed rfl ?_;simp[go_sem])))))
   refine aO [0,1,2] (c1) (by simp[go_sem]) ?_
   (first|refine aZ [(1000000,.ow 0),(1000001,.ow 1),(1000002,.ow 2)] [.old 0 (mL L),.old 1 (rL R'),.oldM 2 (gR G)] ?_|refine aA [(1000000,.ow 0),(1000001,.ow 1),(1000002,.ow 2)] [.old 0 (mL L),.old 1 (rL R'),.oldM 2 (gR G)] ?_)
   simp[go_sem]
  |inr v=>
   refine aN 3 68 [.tmp 6] Tryz.func181 rfl rfl rfl (by simp) (by decide) rfl fun X hX=>?_
   (repeat(refine a7 q10x0 hX mixed rfl ?_;simp[go_sem]));(repeat(first|(refine aC ?_ ?_;(focus(simp[go_sem];done));(repeat(refine a7 q10x0 hX mixed rfl ?_;simp[go_sem])))|(refine a8 ?_ ?_;(focus(simp[go_sem];done));(repeat(refine a7 q10x0 hX mixed rfl ?_;simp[go_sem])))))
   refine yH [0,1,2] c1 ?_
   simp[go_sem]
   refine aB ?_;simp only[thenQ,blkQ,loopQ];refine aA [(6,ii (v)),(1000000,.ow 0),(1000001,.ow 1),(1000002,.ow 2)] [.old 0 (mL L),.old 1 (rL R'),.oldM 2 (gR G)] ?_
   simp[go_sem]
 |un a=>
  have oka:OkE a:=⟨he.1,by have:=he.2;simp only[E.lev]at this;omega⟩
  obtain⟨R1,oa,h1,h2,cA⟩:=ih a oka (by simp only[E.lev]at hl;omega) R hR
  have kA:=oU (.un a) 0 (by simp[E.args]) rfl cA
  cases oa with
  |inl f=>
   refine⟨R1,.inl f,h1,trivial,?_⟩
   refine aN 3 68 [.tmp 6] Tryz.func181 rfl rfl rfl (by simp) (by decide) rfl fun X hX=>?_
   (repeat(refine a7 q10x0 hX mixed rfl ?_;simp[go_sem]));(repeat(first|(refine aC ?_ ?_;(focus(simp[go_sem];done));(repeat(refine a7 q10x0 hX mixed rfl ?_;simp[go_sem])))|(refine a8 ?_ ?_;(focus(simp[go_sem];done));(repeat(refine a7 q10x0 hX mixed rfl ?_;simp[go_sem])))))
   refine aO [0,1,2,3,4,5] (kA) (by simp[go_sem]) ?_
   (first|refine aZ [(1000000,.ow 0),(1000001,.ow 1),(1000002,.ow 2)] [.old 0 (mL L),.old 1 (rL R1),.oldM 2 (gR G)] ?_|refine aA [(1000000,.ow 0),(1000001,.ow 1),(1000002,.ow 2)] [.old 0 (mL L),.old 1 (rL R1),.oldM 2 (gR G)] ?_)
   simp[go_sem]
  |inr x=>
   have c1:=fQ (decide (x=0))
   refine⟨R1,.inr (if decide (x=0)then 1 else 0),h1,mQ _,?_⟩
   generalize(if decide (x=0)then(1:Int)else 0)=z at*
   refine aN 3 68 [.tmp 6] Tryz.func181 rfl rfl rfl (by simp) (by decide) rfl fun X hX=>?_
   (repeat(refine a7 q10x0 hX mixed rfl ?_;simp[go_sem]));(repeat(first|(refine aC ?_ ?_;(focus(simp[go_sem];done));(repeat(refine a7 q10x0 hX mixed rfl ?_;simp[go_sem])))|(refine a8 ?_ ?_;(focus(simp[go_sem];done));(repeat(refine a7 q10x0 hX mixed rfl ?_;simp[go_sem])))))
   refine yH [0,1,2,3,4,5] kA ?_
   simp[go_sem]
   refine aD c1 ?_
   simp[go_sem]
   refine aB ?_;simp only[thenQ,blkQ,loopQ];refine aA [(6,ii (z)),(1000000,.ow 0),(1000001,.ow 1),(1000002,.ow 2)] [.old 0 (mL L),.old 1 (rL R1),.oldM 2 (gR G)] ?_
   simp[go_sem]
 |ite a b c=>
  have oka:OkE a:=⟨he.1.1,by have:=he.2;simp only[E.lev]at this;omega⟩
  have okb:OkE b:=⟨he.1.2.1,by have:=he.2;simp only[E.lev]at this;omega⟩
  have okc:OkE c:=⟨he.1.2.2,by have:=he.2;simp only[E.lev]at this;omega⟩
  obtain⟨R1,oa,h1,h2,cA⟩:=ih a oka (by simp only[E.lev]at hl;omega) R hR
  have kA:=oU (.ite a b c) 0 (by simp[E.args]) rfl cA
  cases oa with
  |inl f=>
   refine⟨R1,.inl f,h1,trivial,?_⟩
   refine aN 3 68 [.tmp 6] Tryz.func181 rfl rfl rfl (by simp) (by decide) rfl fun X hX=>?_
   (repeat(refine a7 q10x0 hX mixed rfl ?_;simp[go_sem]));(repeat(first|(refine aC ?_ ?_;(focus(simp[go_sem];done));(repeat(refine a7 q10x0 hX mixed rfl ?_;simp[go_sem])))|(refine a8 ?_ ?_;(focus(simp[go_sem];done));(repeat(refine a7 q10x0 hX mixed rfl ?_;simp[go_sem])))))
   refine aO [0,1,2,3,4,5] (kA) (by simp[go_sem]) ?_
   (first|refine aZ [(1000000,.ow 0),(1000001,.ow 1),(1000002,.ow 2)] [.old 0 (mL L),.old 1 (rL R1),.oldM 2 (gR G)] ?_|refine aA [(1000000,.ow 0),(1000001,.ow 1),(1000002,.ow 2)] [.old 0 (mL L),.old 1 (rL R1),.oldM 2 (gR G)] ?_)
   simp[go_sem]
  |inr x=>
   by_cases hx:x=0
   ·obtain⟨R2,ob,h3,h4,cB⟩:=ih c okc (by simp only[E.lev]at hl;omega) R1 h1
    have kB:=oU (.ite a b c) 2 (by simp[E.args]) rfl cB
    refine⟨R2,ob,h3,h4,?_⟩
    cases ob with
    |inl f=>
     refine aN 3 68 [.tmp 6] Tryz.func181 rfl rfl rfl (by simp) (by decide) rfl fun X hX=>?_
     (repeat(refine a7 q10x0 hX mixed rfl ?_;simp[go_sem]));(repeat(first|(refine aC ?_ ?_;(focus(simp[go_sem];done));(repeat(refine a7 q10x0 hX mixed rfl ?_;simp[go_sem])))|(refine a8 ?_ ?_;(focus(simp[go_sem];done));(repeat(refine a7 q10x0 hX mixed rfl ?_;simp[go_sem])))))
     refine yH [0,1,2,3,4,5] kA ?_
     simp[go_sem]
     refine a8 (by simp[go_sem,hx]) ?_
     (repeat(refine a7 q10x0 hX mixed rfl ?_;simp[go_sem]))
     refine aO [0,1,2,3,4,5] (kB) (by simp[go_sem]) ?_
     (first|refine aZ [(1000000,.ow 0),(1000001,.ow 1),(1000002,.ow 2)] [.old 0 (mL L),.old 1 (rL R2),.oldM 2 (gR G)] ?_|refine aA [(1000000,.ow 0),(1000001,.ow 1),(1000002,.ow 2)] [.old 0 (mL L),.old 1 (rL R2),.oldM 2 (gR G)] ?_)
     simp[go_sem]
    |inr y=>
     refine aN 3 68 [.tmp 6] Tryz.func181 rfl rfl rfl (by simp) (by decide) rfl fun X hX=>?_
     (repeat(refine a7 q10x0 hX mixed rfl ?_;simp[go_sem]));(repeat(first|(refine aC ?_ ?_;(focus(simp[go_sem];done));(repeat(refine a7 q10x0 hX mixed rfl ?_;simp[go_sem])))|(refine a8 ?_ ?_;(focus(simp[go_sem];done));(repeat(refine a7 q10x0 hX mixed rfl ?_;simp[go_sem])))))
     refine yH [0,1,2,3,4,5] kA ?_
     simp[go_sem]
     refine a8 (by simp[go_sem,hx]) ?_
     (repeat(refine a7 q10x0 hX mixed rfl ?_;simp[go_sem]))
     refine yH [0,1,2,3,4,5] kB ?_
     simp[go_sem]
     refine aB ?_;simp only[thenQ,blkQ,loopQ];refine aA [(6,ii (y)),(1000000,.ow 0),(1000001,.ow 1),(1000002,.ow 2)] [.old 0 (mL L),.old 1 (rL R2),.oldM 2 (gR G)] ?_
     simp[go_sem]
   ·obtain⟨R2,ob,h3,h4,cB⟩:=ih b okb (by simp only[E.lev]at hl;omega) R1 h1
    have kB:=oU (.ite a b c) 1 (by simp[E.args]) rfl cB
    refine⟨R2,ob,h3,h4,?_⟩
    cases ob with
    |inl f=>
     refine aN 3 68 [.tmp 6] Tryz.func181 rfl rfl rfl (by simp) (by decide) rfl fun X hX=>?_
     (repeat(refine a7 q10x0 hX mixed rfl ?_;simp[go_sem]));(repeat(first|(refine aC ?_ ?_;(focus(simp[go_sem];done));(repeat(refine a7 q10x0 hX mixed rfl ?_;simp[go_sem])))|(refine a8 ?_ ?_;(focus(simp[go_sem];done));(repeat(refine a7 q10x0 hX mixed rfl ?_;simp[go_sem])))))
     refine yH [0,1,2,3,4,5] kA ?_
     simp[go_sem]
     refine aC (by simp[go_sem,hx]) ?_
     (repeat(refine a7 q10x0 hX mixed rfl ?_;simp[go_sem]))
     refine aO [0,1,2,3,4,5] (kB) (by simp[go_sem]) ?_
     (first|refine aZ [(1000000,.ow 0),(1000001,.ow 1),(1000002,.ow 2)] [.old 0 (mL L),.old 1 (rL R2),.oldM 2 (gR G)] ?_|refine aA [(1000000,.ow 0),(1000001,.ow 1),(1000002,.ow 2)] [.old 0 (mL L),.old 1 (rL R2),.oldM 2 (gR G)] ?_)
     simp[go_sem]
    |inr y=>
     refine aN 3 68 [.tmp 6] Tryz.func181 rfl rfl rfl (by simp) (by decide) rfl fun X hX=>?_
     (repeat(refine a7 q10x0 hX mixed rfl ?_;simp[go_sem]));(repeat(first|(refine aC ?_ ?_;(focus(simp[go_sem];done));(repeat(refine a7 q10x0 hX mixed rfl ?_;simp[go_sem])))|(refine a8 ?_ ?_;(focus(simp[go_sem];done));(repeat(refine a7 q10x0 hX mixed rfl ?_;simp[go_sem])))))
     refine yH [0,1,2,3,4,5] kA ?_
     simp[go_sem]
     refine aC (by simp[go_sem,hx]) ?_
     (repeat(refine a7 q10x0 hX mixed rfl ?_;simp[go_sem]))
     refine yH [0,1,2,3,4,5] kB ?_
     simp[go_sem]
     refine aB ?_;simp only[thenQ,blkQ,loopQ];refine aA [(6,ii (y)),(1000000,.ow 0),(1000001,.ow 1),(1000002,.ow 2)] [.old 0 (mL L),.old 1 (rL R2),.oldM 2 (gR G)] ?_
     simp[go_sem]
 |bin o2 a b=>
  have oka:OkE a:=⟨he.1.2.1,by have:=he.2;simp only[E.lev]at this;omega⟩
  have okb:OkE b:=⟨he.1.2.2,by have:=he.2;simp only[E.lev]at this;omega⟩
  have ho:=he.1.1
  obtain⟨R1,oa,h1,h2,cA⟩:=ih a oka (by simp only[E.lev]at hl;omega) R hR
  have kA:=oU (.bin o2 a b) 0 (by simp[E.args]) rfl cA
  obtain⟨R2,ob,h3,h4,cB⟩:=ih b okb (by simp only[E.lev]at hl;omega) R1 h1
  have kB:=oU (.bin o2 a b) 1 (by simp[E.args]) rfl cB
  by_cases h9:o2≤9
  ·obtain⟨oc,hoc,kC⟩:∃oc,okO oc∧∀x y,oa=.inr x→ob=.inr y→OutX Tryz.prog 200 (MG L R2 G) [.el 0 3 0 0,ex (.bin o2 a b),ii x,ii y,ii n] (outV oc) (MG L R2 G):=by
    cases oa with
    |inl f=>exact⟨.inl 0,trivial,fun x y hx=>by cases hx⟩
    |inr x=>
     cases ob with
     |inl f=>exact⟨.inl 0,trivial,fun x y _ hy=>by cases hy⟩
     |inr y=>
      obtain⟨oc,k1,k2⟩:=BV L G R2 n o2 a b x y hL hn ⟨ho.1,h9⟩ oka okb h2 h4
      exact⟨oc,k1,fun x' y' hx hy=>by cases hx;cases hy;exact k2⟩
   refine⟨thenR oa R1 R2,thenO oa ob oc,?_,?_,F0 L G n o2 a b R R1 R2 oa ob oc ⟨ho.1,h9⟩ kA (fun _ _=>kB) kC⟩
   ·cases oa with
    |inl f=>exact h1
    |inr x=>exact h3
   ·cases oa with
    |inl f=>trivial
    |inr x=>
     cases ob with
     |inl f=>trivial
     |inr y=>exact hoc
  ·have hoo:o2=10∨o2=11:=by omega
   clear he hl ho h9
   rcases hoo with rfl|rfl
   ·cases oa with
    |inl f=>
     refine⟨R1,.inl f,h1,trivial,?_⟩
     refine aN 3 68 [.tmp 6] Tryz.func181 rfl rfl rfl (by simp) (by decide) rfl fun X hX=>?_
     (repeat(refine a7 q10x0 hX mixed rfl ?_;simp[go_sem]));(repeat(first|(refine aC ?_ ?_;(focus(simp[go_sem];done));(repeat(refine a7 q10x0 hX mixed rfl ?_;simp[go_sem])))|(refine a8 ?_ ?_;(focus(simp[go_sem];done));(repeat(refine a7 q10x0 hX mixed rfl ?_;simp[go_sem])))))
     refine aO [0,1,2,3,4,5] (kA) (by simp[go_sem]) ?_
     (first|refine aZ [(1000000,.ow 0),(1000001,.ow 1),(1000002,.ow 2)] [.old 0 (mL L),.old 1 (rL R1),.oldM 2 (gR G)] ?_|refine aA [(1000000,.ow 0),(1000001,.ow 1),(1000002,.ow 2)] [.old 0 (mL L),.old 1 (rL R1),.oldM 2 (gR G)] ?_)
     simp[go_sem]
    |inr x=>
     by_cases hx:x=0
     ·have c1:=fQ false
      refine⟨R1,.inr (if false then 1 else 0),h1,mQ _,?_⟩
      generalize(if false then(1:Int)else 0)=z at*
      refine aN 3 68 [.tmp 6] Tryz.func181 rfl rfl rfl (by simp) (by decide) rfl fun X hX=>?_
      (repeat(refine a7 q10x0 hX mixed rfl ?_;simp[go_sem]));(repeat(first|(refine aC ?_ ?_;(focus(simp[go_sem];done));(repeat(refine a7 q10x0 hX mixed rfl ?_;simp[go_sem])))|(refine a8 ?_ ?_;(focus(simp[go_sem];done));(repeat(refine a7 q10x0 hX mixed rfl ?_;simp[go_sem])))))
      refine yH [0,1,2,3,4,5] kA ?_
      simp[go_sem]
      simp[go_sem,hx]
      refine bT rfl ?_
      simp[go_sem,hx]
      refine aD c1 ?_
      simp[go_sem]
      refine aB ?_;simp only[thenQ,blkQ,loopQ];refine aA [(6,ii (z)),(1000000,.ow 0),(1000001,.ow 1),(1000002,.ow 2)] [.old 0 (mL L),.old 1 (rL R1),.oldM 2 (gR G)] ?_
      simp[go_sem]
     ·cases ob with
      |inl f=>
       refine⟨R2,.inl f,h3,trivial,?_⟩
       refine aN 3 68 [.tmp 6] Tryz.func181 rfl rfl rfl (by simp) (by decide) rfl fun X hX=>?_
       (repeat(refine a7 q10x0 hX mixed rfl ?_;simp[go_sem]));(repeat(first|(refine aC ?_ ?_;(focus(simp[go_sem];done));(repeat(refine a7 q10x0 hX mixed rfl ?_;simp[go_sem])))|(refine a8 ?_ ?_;(focus(simp[go_sem];done));(repeat(refine a7 q10x0 hX mixed rfl ?_;simp[go_sem])))))
       refine yH [0,1,2,3,4,5] kA ?_
       simp[go_sem]
       simp[go_sem,hx]
       refine jO [0,1,2,3,4,5] (by simp[go_sem]) (kB) (by simp[go_sem]) ?_
       (first|refine aZ [(1000000,.ow 0),(1000001,.ow 1),(1000002,.ow 2)] [.old 0 (mL L),.old 1 (rL R2),.oldM 2 (gR G)] ?_|refine aA [(1000000,.ow 0),(1000001,.ow 1),(1000002,.ow 2)] [.old 0 (mL L),.old 1 (rL R2),.oldM 2 (gR G)] ?_)
       simp[go_sem]
      |inr y=>
       have c1:=fQ (!decide (y=0))
       refine⟨R2,.inr (if !decide (y=0)then 1 else 0),h3,mQ _,?_⟩
       generalize(if !decide (y=0)then(1:Int)else 0)=z at*
       refine aN 3 68 [.tmp 6] Tryz.func181 rfl rfl rfl (by simp) (by decide) rfl fun X hX=>?_
       (repeat(refine a7 q10x0 hX mixed rfl ?_;simp[go_sem]));(repeat(first|(refine aC ?_ ?_;(focus(simp[go_sem];done));(repeat(refine a7 q10x0 hX mixed rfl ?_;simp[go_sem])))|(refine a8 ?_ ?_;(focus(simp[go_sem];done));(repeat(refine a7 q10x0 hX mixed rfl ?_;simp[go_sem])))))
       refine yH [0,1,2,3,4,5] kA ?_
       simp[go_sem]
       simp[go_sem,hx]
       refine eC [0,1,2,3,4,5] (by simp[go_sem]) (kB) (by simp[go_sem]) ?_
       simp[go_sem,hx]
       refine aD c1 ?_
       simp[go_sem]
       refine aB ?_;simp only[thenQ,blkQ,loopQ];refine aA [(6,ii (z)),(1000000,.ow 0),(1000001,.ow 1),(1000002,.ow 2)] [.old 0 (mL L),.old 1 (rL R2),.oldM 2 (gR G)] ?_
       simp[go_sem]
   ·cases oa with
    |inl f=>
     refine⟨R1,.inl f,h1,trivial,?_⟩
     refine aN 3 68 [.tmp 6] Tryz.func181 rfl rfl rfl (by simp) (by decide) rfl fun X hX=>?_
     (repeat(refine a7 q10x0 hX mixed rfl ?_;simp[go_sem]));(repeat(first|(refine aC ?_ ?_;(focus(simp[go_sem];done));(repeat(refine a7 q10x0 hX mixed rfl ?_;simp[go_sem])))|(refine a8 ?_ ?_;(focus(simp[go_sem];done));(repeat(refine a7 q10x0 hX mixed rfl ?_;simp[go_sem])))))
     refine aO [0,1,2,3,4,5] (kA) (by simp[go_sem]) ?_
     (first|refine aZ [(1000000,.ow 0),(1000001,.ow 1),(1000002,.ow 2)] [.old 0 (mL L),.old 1 (rL R1),.oldM 2 (gR G)] ?_|refine aA [(1000000,.ow 0),(1000001,.ow 1),(1000002,.ow 2)] [.old 0 (mL L),.old 1 (rL R1),.oldM 2 (gR G)] ?_)
     simp[go_sem]
    |inr x=>
     by_cases hx:x=0
     ·cases ob with
      |inl f=>
       refine⟨R2,.inl f,h3,trivial,?_⟩
       refine aN 3 68 [.tmp 6] Tryz.func181 rfl rfl rfl (by simp) (by decide) rfl fun X hX=>?_
       (repeat(refine a7 q10x0 hX mixed rfl ?_;simp[go_sem]));(repeat(first|(refine aC ?_ ?_;(focus(simp[go_sem];done));(repeat(refine a7 q10x0 hX mixed rfl ?_;simp[go_sem])))|(refine a8 ?_ ?_;(focus(simp[go_sem];done));(repeat(refine a7 q10x0 hX mixed rfl ?_;simp[go_sem])))))
       refine yH [0,1,2,3,4,5] kA ?_
       simp[go_sem]
       simp[go_sem,hx]
       refine jO [0,1,2,3,4,5] (by simp[go_sem]) (kB) (by simp[go_sem]) ?_
       (first|refine aZ [(1000000,.ow 0),(1000001,.ow 1),(1000002,.ow 2)] [.old 0 (mL L),.old 1 (rL R2),.oldM 2 (gR G)] ?_|refine aA [(1000000,.ow 0),(1000001,.ow 1),(1000002,.ow 2)] [.old 0 (mL L),.old 1 (rL R2),.oldM 2 (gR G)] ?_)
       simp[go_sem]
      |inr y=>
       have c1:=fQ (!decide (y=0))
       refine⟨R2,.inr (if !decide (y=0)then 1 else 0),h3,mQ _,?_⟩
       generalize(if !decide (y=0)then(1:Int)else 0)=z at*
       refine aN 3 68 [.tmp 6] Tryz.func181 rfl rfl rfl (by simp) (by decide) rfl fun X hX=>?_
       (repeat(refine a7 q10x0 hX mixed rfl ?_;simp[go_sem]));(repeat(first|(refine aC ?_ ?_;(focus(simp[go_sem];done));(repeat(refine a7 q10x0 hX mixed rfl ?_;simp[go_sem])))|(refine a8 ?_ ?_;(focus(simp[go_sem];done));(repeat(refine a7 q10x0 hX mixed rfl ?_;simp[go_sem])))))
       refine yH [0,1,2,3,4,5] kA ?_
       simp[go_sem]
       simp[go_sem,hx]
       refine eC [0,1,2,3,4,5] (by simp[go_sem]) (kB) (by simp[go_sem]) ?_
       simp[go_sem,hx]
       refine aD c1 ?_
       simp[go_sem]
       refine aB ?_;simp only[thenQ,blkQ,loopQ];refine aA [(6,ii (z)),(1000000,.ow 0),(1000001,.ow 1),(1000002,.ow 2)] [.old 0 (mL L),.old 1 (rL R2),.oldM 2 (gR G)] ?_
       simp[go_sem]
     ·have c1:=fQ true
      refine⟨R1,.inr (if true then 1 else 0),h1,mQ _,?_⟩
      generalize(if true then(1:Int)else 0)=z at*
      refine aN 3 68 [.tmp 6] Tryz.func181 rfl rfl rfl (by simp) (by decide) rfl fun X hX=>?_
      (repeat(refine a7 q10x0 hX mixed rfl ?_;simp[go_sem]));(repeat(first|(refine aC ?_ ?_;(focus(simp[go_sem];done));(repeat(refine a7 q10x0 hX mixed rfl ?_;simp[go_sem])))|(refine a8 ?_ ?_;(focus(simp[go_sem];done));(repeat(refine a7 q10x0 hX mixed rfl ?_;simp[go_sem])))))
      refine yH [0,1,2,3,4,5] kA ?_
      simp[go_sem]
      simp[go_sem,hx]
      refine bT rfl ?_
      simp[go_sem,hx]
      refine aD c1 ?_
      simp[go_sem]
      refine aB ?_;simp only[thenQ,blkQ,loopQ];refine aA [(6,ii (z)),(1000000,.ow 0),(1000001,.ow 1),(1000002,.ow 2)] [.old 0 (mL L),.old 1 (rL R1),.oldM 2 (gR G)] ?_
      simp[go_sem]
end Go.Proofs.YtllgjognpobnpaaGreatDoor

namespace Go.Proofs.YtllgjognpobnpaaGreatDoor
open Go.RowKit Go.Ab
attribute [local irreducible] AWP Go.Ab.Sub Means MeansH CallK CallG CallT CallGT PanicH PanicX DefH CallU
theorem BX(f v e:Int):DefH Tryz.prog 180 [.row (vO v),.row (eO e)] [.el 0 1 0 0,.el 1 1 0 0] (.panicking [{v:=faultV f,recovered:=false}]) (.panicking [{v:=faultV f,recovered:=true}]) [.row (vO 0),.row (eO f)]:=by
 refine lD 2 18 5 [0,1,2,3,4,7,14,1000000,1000001] [] (.got _) Tryz.func180 rfl rfl rfl (by simp) (by decide) rfl rfl rfl rfl rfl (by decide) fun X hX=>?_
 (simp[go_sem];try(refine⟨by kernel_rfl,?_⟩))
 (repeat(refine aU q10x4 hX mixed rfl ?_;simp[go_sem]))
 have hof:ofV (Value.agg #[Value.int .i64 f])=.agg [ii f]:=by simp[ofV]
 refine aC (by simp[go_sem]) ?_
 (repeat(refine aU q10x4 hX mixed rfl ?_;simp[go_sem,hof]))
 refine a8 (by simp[go_sem]) ?_
 (repeat(refine aU q10x4 hX mixed rfl ?_;simp[go_sem];try refine⟨by kernel_rfl,?_⟩))
 refine cC [(1000000,.ow 0),(1000001,.ow 1)] [.old 0 (vO 0),.old 1 (eO f)] ?_
 simp[go_sem]
set_option maxHeartbeats 4000000 in
theorem GK(L:List (By×E))(G:List (By×Int))(n:Nat)(e:E)(R:List (Int×Int×Bool))
  (h:∃R' o,OkR L R'∧okO o∧OutX Tryz.prog 181 (MG L R G) [.el 0 3 0 0,ex e,ii n] (outV o) (MG L R' G)):
  ∃R' v err,OkR L R'∧(err=0→bnd v)∧MeansH Tryz.prog 155 (MG L R G) [.el 0 3 0 0,ex e,ii n] (.tup [ii v,ii err]) (MG L R' G):=by
 obtain⟨R',o,h1,h2,c1⟩:=h
 cases o with
 |inl f=>
  refine⟨R',0,f,h1,fun _=>by unfold bnd;omega,?_⟩
  refine fY 3 13 [.cell 6 3,.cell 7 25] Tryz.func155 rfl rfl rfl (by simp) (by decide) rfl fun X hX=>?_
  refine cX ?_
  ((first|refine aQ q10x3 hX ?_|refine aK q10x3 hX mixed ?_|refine aB ?_|refine aJ ?_|refine aR ?_);(simp[go_sem]))
  refine fI (l:=[_]) (oD:=_) [0,2,4,6,7,1000000,1000001,1000002] hX rfl rfl rfl rfl ?_
  (simp[go_sem])
  refine⟨_,_,⟨rfl,rfl⟩,by simp[go_sem],by simp[go_sem],fun X hX=>?_⟩
  simp[go_sem]
  refine bB (st0:=⟨mkE [(0,.el 0 3 0 0),(2,ii n),(4,.el 3 5 0 0),(6,.el 4 1 0 0),(7,.el 5 1 0 0),(1000000,.ow 0),(1000001,.ow 1),(1000002,.ow 2),(1000003,.el 4 1 0 0),(1000004,.el 5 1 0 0)],[.row (mL L),.row (rL R),.map (gR G),.row ⟨30,5,[ex e]⟩,.row (vO 0),.row (eO 0)]⟩) ?_ ?_
  ·refine yS _ [.old 0 (mL L),.old 1 (rL R),.oldM 2 (gR G),.old 3 ⟨30,5,[ex e]⟩,.old 4 (vO 0),.old 5 (eO 0)] ?_
   simp[go_sem]
  (repeat(refine a7 [0,2,4,6,7,1000000,1000001,1000002,1000003,1000004] hX mixed rfl ?_;simp[go_sem]))
  refine aO [0,1,2] (c1) (by simp[go_sem]) ?_
  (try simp only[thenQ,blkQ,panCh])
  (try simp only[doorQ])
  refine cY [4,5] (BX f 0 0) rfl ?_ ?_
  ·simp[go_sem]
  ·refine aA [(1000000,.ow 0),(1000001,.ow 1),(1000002,.ow 2)] [.old 0 (mL L),.old 1 (rL R'),.oldM 2 (gR G)] ?_
   simp[go_sem]
 |inr v=>
  refine⟨R',v,0,h1,fun _=>h2,?_⟩
  refine fY 3 13 [.cell 6 3,.cell 7 25] Tryz.func155 rfl rfl rfl (by simp) (by decide) rfl fun X hX=>?_
  refine cX ?_
  ((first|refine aQ q10x3 hX ?_|refine aK q10x3 hX mixed ?_|refine aB ?_|refine aJ ?_|refine aR ?_);(simp[go_sem]))
  refine fI (l:=[_]) (oD:=_) [0,2,4,6,7,1000000,1000001,1000002] hX rfl rfl rfl rfl ?_
  (simp[go_sem])
  refine⟨_,_,⟨rfl,rfl⟩,by simp[go_sem],by simp[go_sem],fun X hX=>?_⟩
  simp[go_sem]
  refine bB (st0:=⟨mkE [(0,.el 0 3 0 0),(2,ii n),(4,.el 3 5 0 0),(6,.el 4 1 0 0),(7,.el 5 1 0 0),(1000000,.ow 0),(1000001,.ow 1),(1000002,.ow 2),(1000003,.el 4 1 0 0),(1000004,.el 5 1 0 0)],[.row (mL L),.row (rL R),.map (gR G),.row ⟨30,5,[ex e]⟩,.row (vO 0),.row (eO 0)]⟩) ?_ ?_
  ·refine yS _ [.old 0 (mL L),.old 1 (rL R),.oldM 2 (gR G),.old 3 ⟨30,5,[ex e]⟩,.old 4 (vO 0),.old 5 (eO 0)] ?_
   simp[go_sem]
  (repeat(refine a7 [0,2,4,6,7,1000000,1000001,1000002,1000003,1000004] hX mixed rfl ?_;simp[go_sem]))
  refine yH [0,1,2] c1 ?_
  simp[go_sem]
  refine aB ?_
  simp only[doorQ]
  refine cY [4,5] (oB v 0) rfl ?_ ?_
  ·simp[go_sem]
  ·refine aA [(1000000,.ow 0),(1000001,.ow 1),(1000002,.ow 2)] [.old 0 (mL L),.old 1 (rL R'),.oldM 2 (gR G)] ?_
   simp[go_sem]
theorem F3(L:List (By×E))(G:List (By×Int))(hL:OkL L)(hG:∀x∈G,bnd x.2)(K:Nat):∀n,n≤K→n≤L.length→∀(N:Nat) (e:E),OkE e→e.lev≤N→∀R,OkR L R→
  ∃R' o,OkR L R'∧okO o∧OutX Tryz.prog 181 (MG L R G) [.el 0 3 0 0,ex e,ii n] (outV o) (MG L R' G):=by
 induction K with
 |zero=>
  intro n hn hnL N
  have hn0:n=0:=by omega
  subst hn0
  induction N with
  |zero=>intro e _ hl;cases e<;>simp[E.lev]at hl
  |succ N ih=>exact fun e he hl R hR=>wL L G 0 hL hnL (fun R s hR=>wM L G R 0 s hL hnL hR hG (fun i _ hi=>by omega)) N ih e he hl R hR
 |succ K ihK=>
  intro n hn hnL N
  induction N with
  |zero=>intro e _ hl;cases e<;>simp[E.lev]at hl
  |succ N ih=>exact fun e he hl R hR=>wL L G n hL hnL (fun R s hR=>wM L G R n s hL hnL hR hG (fun i hi hin R hR=>GK L G i L[i].2 R (ihK i (by omega) (by omega) 12 _ (hL.exp _ (List.getElem_mem hi)) (hL.exp _ (List.getElem_mem hi)).2 R hR))) N ih e he hl R hR
end Go.Proofs.YtllgjognpobnpaaGreatDoor

namespace Go.Proofs.YtllgjognpobnpaaGreatDoor
open Go.RowKit Go.Ab
attribute [local irreducible] AWP Go.Ab.Sub Means MeansH CallK CallG CallT CallGT PanicH PanicX DefH CallU
theorem qN{V:List (By×Int×Int)}(hV:∀x∈V,-1099511627776≤x.2.2∧x.2.2≤1099511627776):∀(n:Nat),n≤V.length→∀x∈gOf (V.take n),bnd x.2
 |0,_=>by simp[gOf,givU]
 |n+1,hn=>by
  have e:gOf (V.take (n+1))=givS (gOf (V.take n)) (V[n].1,V[n].2.2):=by
   unfold gOf
   rw[List.take_succ_eq_append_getElem hn,List.map_append]
   exact eZ _ _ _
  rw[e]
  intro x hx
  unfold givS at hx
  split at hx
  ·exact qN hV n (by omega) x hx
  ·rcases List.mem_append.1 hx with hx|hx
   ·exact qN hV n (by omega) x hx
   ·simp only[List.mem_singleton]at hx
    subst hx
    exact hV _ (List.getElem_mem hn)
def rs0(n:Nat):List (Int×Int×Bool):=List.replicate n (0,0,false)
theorem HY(L:List (By×E)):OkR L (rs0 L.length):=⟨by simp[rs0],fun r hr h=>by rw[(List.mem_replicate.1 hr).2]at h;cases h⟩
set_option maxHeartbeats 8000000 in
set_option maxRecDepth 20000 in
theorem BY(L:List (By×E))(V:List (By×Int×Int))(e:E)(hL:OkL L)(hV:V.length≤100∧∀x∈V,-1099511627776≤x.2.2∧x.2.2≤1099511627776)(he:OkE e):
  ∃v err,(err=0→bnd v)∧Means true Tryz.prog 124 [.sl (L.map lt),.sl (V.map v3),ex e] (.tup [ii v,ii err]):=by
 have c1:=bS e he
 have hGb:∀x∈gOf V,bnd x.2:=by have:=qN hV.2 V.length (Nat.le_refl _);rwa [List.take_of_length_le (Nat.le_refl _)]at this
 obtain⟨R',v,err,h1,h2,c2⟩:=GK L (gOf V) L.length e (rs0 L.length) (F3 L (gOf V) hL hGb L.length L.length (Nat.le_refl _) (Nat.le_refl _) 12 e he he.2 _ (HY L))
 refine⟨v,err,h2,?_⟩
 have hlen:=hV.1
 have hll:=hL.len
 have n20:(L.length:Int)≤20:=by omega
 refine yM true 83 [.tmp 6,.tmp 7] [0,1,2,5,6,7,9,10,12,14,22,23,24,25,26,32,41,42,43,44,54,66] Tryz.func124 fun X hX=>?_
 (repeat(refine yA ?_;(simp[go_sem])))
 refine aD c1 ?_
 simp[go_sem]
 refine a8 (by simp[go_sem,n20]) ?_
 (repeat(refine yA ?_;(simp[go_sem])))
 refine aG (fun n:Nat=>⟨mkE [(0,.sl (L.map lt)),(1,.sl (V.map v3)),(5,.el 0 5 0 0),(23,.sl (L.map lt)),(24,ii L.length),(25,ii n)],[.row ⟨30,5,[ex e]⟩]⟩) (fun n=>n≤L.length) (fun n=>L.length-n) 0 ?_ ?_ ?_
 ·refine yS _ [.old 0 ⟨30,5,[ex e]⟩] ?_
  simp[go_sem]
 ·exact Nat.zero_le _
 ·rintro n hn
  (repeat(refine yA ?_;(simp[go_sem])))
  refine yC (decide (n<L.length)) (fun hc=>?_) fun hc=>?_
  ·simp at hc
   have hq:=dA hc
   have wk:=w64 (x:=(n:Int)+1) (by omega) (by omega)
   have c3:=bS L[n].2 (hL.exp _ (List.getElem_mem hc))
   (repeat(refine yA ?_;(simp[go_sem,hc,hq])))
   refine aD c3 ?_
   simp[go_sem]
   refine a8 (by simp[go_sem]) ?_
   (repeat(refine yA ?_;(simp[go_sem,wk])))
   refine⟨n+1,by omega,by omega,?_⟩
   refine yS _ [.old 0 ⟨30,5,[ex e]⟩] ?_
   simp[go_sem]
  ·have hnn:n=L.length:=by simp at hc;omega
   subst hnn
   (repeat(refine yA ?_;(simp[go_sem])))
   refine⟨⟨by omega,by omega⟩,?_⟩
   (repeat(refine yA ?_;(simp[go_sem])))
   have hrs:(rs0 L.length).map rsv=List.replicate L.length (.agg [ii 0,ii 0,bb false]):=by simp[rs0]
   obtain⟨rr,hrr⟩:∃rr:Ob,rr=⟨291,3,List.replicate L.length (.agg [ii 0,ii 0,bb false])⟩:=⟨_,rfl⟩
   have hrl:rL (rs0 L.length)=rr:=by rw[hrr];unfold rL;rw[hrs]
   have hMG:MG L (rs0 L.length) (gOf V)=[.row (mL L),.row rr,.map (gR (gOf V))]:=by unfold MG;rw[hrl]
   rw[hMG]at c2
   rw[←hrr]
   have hz:zoneEs rr.es=true:=by
    rw[hrr,←hrs]
    simp[go_sem]
   refine aG (fun n:Nat=>⟨mkE [(0,.sl (L.map lt)),(5,.el 0 5 0 0),(10,.el 3 3 0 0),(41,.sl (V.map v3)),(42,ii V.length),(43,ii n)],
    [.row ⟨30,5,[ex e]⟩,.row rr,.map (gR (gOf (V.take n))),.row (mL L)]⟩) (fun n=>n≤V.length) (fun n=>V.length-n) 0 ?_ ?_ ?_
   ·refine yS _ [.old 0 ⟨30,5,[ex e]⟩,.old 1 rr,.oldM 2 ⟨9,3,[]⟩,.old 3 (mL L)] ?_ (by simp[go_sem,hz])
    simp[go_sem,gm,gOf,givU,hz]
   ·exact Nat.zero_le _
   ·rintro n hn
    (repeat(refine yA ?_;(simp[go_sem])))
    refine yC (decide (n<V.length)) (fun hc=>?_) fun hc=>?_
    ·simp at hc
     have hq:=AB hc
     have wk:=w64 (x:=(n:Int)+1) (by omega) (by omega)
     have hu:=hV.2 V[n] (List.getElem_mem hc)
     have hn1:¬1099511627776<V[n].2.2:=by omega
     have hn2:¬V[n].2.2< -1099511627776:=by omega
     have ht:gOf (V.take (n+1))=givS (gOf (V.take n)) (V[n].1,V[n].2.2):=by
      unfold gOf
      rw[List.take_succ_eq_append_getElem hc,List.map_append]
      exact eZ _ _ _
     have hup:=pV V[n].1 V[n].2.2 (gOf (V.take n))
     clear c2 hMG hGb
     generalize V[n]=v at*
     generalize gOf (V.take n)=G at*
     (repeat(refine yA ?_;(simp[go_sem,hc,hq,hn1,hn2])))
     refine a8 (by simp[go_sem,hn1,hn2]) ?_
     (repeat(refine yA ?_;(simp[go_sem,hq];try(refine⟨by kernel_rfl,?_⟩))))
     refine yC (!(G.lookup v.1).isSome) (fun hd=>?_) fun hd=>?_
     ·have hd:(G.lookup v.1).isSome=false:=by simpa using hd
      have hup:=hup hd
      have e2:givS G (v.1,v.2.2)=G++[(v.1,v.2.2)]:=by unfold givS;rw[hd];simp
      rw[e2]at ht
      generalize G++[(v.1,v.2.2)]=G2 at*
      (repeat(refine yA ?_;(simp[go_sem,hup,wk];try(refine⟨by kernel_rfl,?_⟩))))
      refine⟨n+1,by omega,by omega,?_⟩
      rw[ht]
      refine yS _ [.old 0 ⟨30,5,[ex e]⟩,.old 1 rr,.oldM 2 (gR G2),.old 3 (mL L)] ?_ (by simp[go_sem,hz])
      simp[go_sem,hz]
     ·have hd:(G.lookup v.1).isSome=true:=by simpa using hd
      have e2:givS G (v.1,v.2.2)=G:=by unfold givS;rw[hd];simp
      (repeat(refine yA ?_;(simp[go_sem,wk])))
      refine⟨n+1,by omega,by omega,?_⟩
      rw[ht,e2]
      refine yS _ [.old 0 ⟨30,5,[ex e]⟩,.old 1 rr,.oldM 2 (gR G),.old 3 (mL L)] ?_ (by simp[go_sem,hz])
      simp[go_sem,hz]
    ·have hnn:n=V.length:=by simp at hc;omega
     subst hnn
     rw[List.take_of_length_le (Nat.le_refl _)]
     (repeat(refine yA ?_;(simp[go_sem])))
     refine aV [3,1,2] (c2) (by simp[go_sem,hz]) ?_
     simp[go_sem]
     (repeat(refine yA ?_;(simp[go_sem])))
end Go.Proofs.YtllgjognpobnpaaGreatDoor

namespace Go.Proofs.YtllgjognpobnpaaGreatDoor
open Go.RowKit Go.Ab
attribute [local irreducible] AWP Go.Ab.Sub Means MeansH CallK CallG CallT CallGT PanicH PanicX DefH CallU
end Go.Proofs.YtllgjognpobnpaaGreatDoor

namespace Go.Proofs.YtllgjognpobnpaaGreatDoor
open Go.RowKit Go.Ab
attribute [local irreducible] AWP Go.Ab.Sub Means MeansH CallK CallG CallT CallGT PanicH PanicX DefH CallU
theorem BZ(b:Bl):lookA Tryz.prog 9 30 (ss [112,97,121]) (clM b) true=some (.tup [ex b.pay,bb true]):=by
 simp[lookA,clM,findA,cJ,E2,foundA]
theorem z7(b:Bl):lookA Tryz.prog 9 30 (ss [104,111,108,100]) (clM b) true=some (.tup [ex b.hold,bb true]):=by
 simp[lookA,clM,findA,cJ,E2,foundA]
set_option maxHeartbeats 8000000 in
set_option maxRecDepth 20000 in
theorem z8(b:Bl)(h:OkB b)(s:By)(hs:s=[100,117,101]∨s=[112,97,121]∨s=[104,111,108,100])(V:List (By×Int×Int))(hV:V.length≤100∧∀x∈V,-1099511627776≤x.2.2∧x.2.2≤1099511627776):
  ∃v err,(err=0→bnd v)∧Means true Tryz.prog 77 [bl b,ss s,.sl (V.map v3)] (.tup [ii v,ii err]):=by
 have c1:=eK b h
 obtain⟨e,he,hl⟩:∃e,OkE e∧lookA Tryz.prog 9 30 (ss s) (clM b) true=some (.tup [ex e,bb true]):=by
  rcases hs with rfl|rfl|rfl
  ·exact⟨_,h.due,rN b⟩
  ·exact⟨_,h.pay,BZ b⟩
  ·exact⟨_,h.hold,z7 b⟩
 obtain⟨v,err,h2,c2⟩:=BY b.lets V e h.lets hV he
 refine⟨v,err,h2,?_⟩
 clear hs
 refine yM true 43 [.tmp 6,.tmp 7] [0,1,2,3,6,7,8,9,10,35] Tryz.func77 fun X hX=>?_
 (iterate 2 (refine yA ?_;(simp[go_sem])))
 refine aS ?_
 refine rO [1,2,3,6,7,8] hX ?_
 simp[go_sem,normO,updA,cJ]
 refine bB (st0:=⟨mkE [(1,ss s),(2,.sl (V.map v3)),(3,.el 0 37 0 0),(8,.ow 1)],[.row ⟨32,37,[bl b]⟩,.map ⟨9,30,clM b⟩]⟩) ?_ ?_
 ·refine yS _ [.old 0 ⟨32,37,[bl b]⟩,.oldM 1 ⟨9,30,clM b⟩] ?_ (by simp[go_sem,clM])
  simp[go_sem,clM]
 (repeat(refine yA ?_;(simp[go_sem,hl])))
 refine aI (fun hg=>c1) ?_
 simp[go_sem]
 refine a8 (by simp[go_sem]) ?_
 (repeat(refine yA ?_;(simp[go_sem])))
 refine aD c2 ?_
 simp[go_sem]
 (repeat(refine yA ?_;(simp[go_sem])))
noncomputable def claV(b:Bl)(s:By)(V:List (By×Int×Int)):Int×Int:=
 open Classical in if h:∃v err,(err=0→bnd v)∧Means true Tryz.prog 77 [bl b,ss s,.sl (V.map v3)] (.tup [ii v,ii err])then(h.choose,h.choose_spec.choose)else(0,0)
theorem uI(b:Bl)(h:OkB b)(s:By)(hs:s=[100,117,101]∨s=[112,97,121]∨s=[104,111,108,100])(V:List (By×Int×Int))(hV:V.length≤100∧∀x∈V,-1099511627776≤x.2.2∧x.2.2≤1099511627776):
  ((claV b s V).2=0→bnd (claV b s V).1)∧Means true Tryz.prog 77 [bl b,ss s,.sl (V.map v3)] (.tup [ii (claV b s V).1,ii (claV b s V).2]):=by
 have:=z8 b h s hs V hV
 unfold claV
 rw[dif_pos this]
 exact this.choose_spec.choose_spec
end Go.Proofs.YtllgjognpobnpaaGreatDoor

