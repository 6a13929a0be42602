/-
  Lemmas for the statement at the top.
-/
import Derived.Test.YtdcidannegcaoaaGreatDoorGP6
import Derived.Test.YtdcidannegcaoaaGreatDoorGP10
set_option linter.all false
namespace Go.Ab
def q8x0:List Nat:=[0,1,2,3,4,5,6,7,10,11,16,23,34,45,51,55,1000000,1000001,1000002]
def q8x1:List Nat:=[0,1,2,3,4,6,10,12,13,19,25,50,57,60,67,72,77,1000000,1000001,1000002]
def q8x2:List Nat:=[0,1,2,3,5,1000000,1000001,1000002,1000003,1000004,1000005]
attribute [go_sem] q8x0 q8x1 q8x2
end Go.Ab
namespace Go.Proofs.YtdcidannegcaoaaGreatDoor
open Go.RowKit Go.Ab
attribute [local irreducible] AWP Go.Ab.Sub Means MeansH CallK CallG CallT CallGT PanicH PanicX DefH CallU
theorem OkL.take{L:List (By×E)}(h:OkL L)(n:Nat):OkL (L.take n):=by
 refine⟨by have:=h.len;simp;omega,fun x hx=>h.nam x (List.mem_of_mem_take hx),fun x hx=>h.exp x (List.mem_of_mem_take hx),fun i j hi hj hij=>?_⟩
 simp only[List.length_take]at hi hj
 rw[List.getElem_take,List.getElem_take]
 exact h.two i j (by omega) (by omega) hij
set_option maxHeartbeats 8000000 in
set_option maxRecDepth 20000 in
theorem CQ(L:List (By×E))(G:List (By×Int))(R:List (Int×Int×Bool))(n:Nat)(o2:Int)(a b:E)(x y:Int)(hL:OkL L)(hn:n≤L.length)(ho2:2≤o2∧o2≤9)(hea:OkE a)(heb:OkE b)(hx:bnd x)(hy:bnd y):
  ∃o,okO o∧OutX Tryz.prog 196 (MG L R G) [.el 0 3 0 0,ex (.bin o2 a b),ii x,ii y,ii n] (outV o) (MG L R G):=by
 have hxb:=hx
 have hyb:=hy
 unfold bnd at hx hy
 have hn2:n≤100000:=by have:=hL.len;omega
 have ht:∀q:Bool,bnd (if q then 1 else 0):=fun q=>by cases q<;>(show bnd _;unfold bnd;simp)
 have hoo:o2=2∨o2=3∨o2=4∨o2=5∨o2=6∨o2=7∨o2=8∨o2=9:=by omega
 clear ho2
 rcases hoo with rfl|rfl|rfl|rfl|rfl|rfl|rfl|rfl
 ·obtain⟨o,ho,c⟩:=lJ (x+y)
  refine⟨o,ho,?_⟩
  have w:=w64 (x:=x+y) (by omega) (by omega)
  refine aP 3 87 [.tmp 10] Tryz.func196 rfl rfl rfl (by simp) (by decide) rfl fun X hX=>?_
  (repeat(refine a7 q8x1 hX mixed rfl ?_;simp[go_sem,w]));(repeat(refine aD ?_ ?_;(focus(simp[go_sem,w];done));(repeat(refine a7 q8x1 hX mixed rfl ?_;simp[go_sem,w]))))
  cases o with
  |inl e=>
   refine aQ [] (c) (by simp[go_sem]) ?_
   (first|refine aX [(1000000,.ow 0),(1000001,.ow 1),(1000002,.ow 2)] [.old 0 (mL L),.old 1 (rL R),.oldM 2 (gR G)] ?_|refine a8 [(1000000,.ow 0),(1000001,.ow 1),(1000002,.ow 2)] [.old 0 (mL L),.old 1 (rL R),.oldM 2 (gR G)] ?_)
   simp[go_sem]
  |inr v=>
   refine yH [] c ?_
   simp[go_sem]
   refine aB ?_;simp only[thenQ,blkQ,loopQ];refine a8 [(10,ii v),(1000000,.ow 0),(1000001,.ow 1),(1000002,.ow 2)] [.old 0 (mL L),.old 1 (rL R),.oldM 2 (gR G)] ?_
   simp[go_sem]
 ·obtain⟨o,ho,c⟩:=lJ (x-y)
  refine⟨o,ho,?_⟩
  have w:=w64 (x:=x-y) (by omega) (by omega)
  refine aP 3 87 [.tmp 10] Tryz.func196 rfl rfl rfl (by simp) (by decide) rfl fun X hX=>?_
  (repeat(refine a7 q8x1 hX mixed rfl ?_;simp[go_sem,w]));(repeat(first|(refine aD ?_ ?_;(focus(simp[go_sem,w];done));(repeat(refine a7 q8x1 hX mixed rfl ?_;simp[go_sem,w])))|(refine aA ?_ ?_;(focus(simp[go_sem,w];done));(repeat(refine a7 q8x1 hX mixed rfl ?_;simp[go_sem,w])))))
  cases o with
  |inl e=>
   refine aQ [] (c) (by simp[go_sem]) ?_
   (first|refine aX [(1000000,.ow 0),(1000001,.ow 1),(1000002,.ow 2)] [.old 0 (mL L),.old 1 (rL R),.oldM 2 (gR G)] ?_|refine a8 [(1000000,.ow 0),(1000001,.ow 1),(1000002,.ow 2)] [.old 0 (mL L),.old 1 (rL R),.oldM 2 (gR G)] ?_)
   simp[go_sem]
  |inr v=>
   refine yH [] c ?_
   simp[go_sem]
   refine aB ?_;simp only[thenQ,blkQ,loopQ];refine a8 [(10,ii v),(1000000,.ow 0),(1000001,.ow 1),(1000002,.ow 2)] [.old 0 (mL L),.old 1 (rL R),.oldM 2 (gR G)] ?_
   simp[go_sem]
 ·have c1:=lI (L.take n) a (hL.take n) hea
  have c2:=lI (L.take n) b (hL.take n) heb
  obtain⟨o,ho,c⟩:=yV x y (if shareOf (L.take n) a||shareOf (L.take n) b then 1000 else 1) (by split<;>simp) hxb
  refine⟨o,ho,?_⟩
  rw[List.map_take]at c1 c2
  refine aP 3 87 [.tmp 10] Tryz.func196 rfl rfl rfl (by simp) (by decide) rfl fun X hX=>?_
  have hlt6:∀(e:AV) (x:By) (x_1:E),(x,x_1)∈L→lt (x,x_1)=e→e.flat.length=6:=by
   rintro _ _ _ _ rfl
   rfl
  (repeat(refine a7 q8x1 hX mixed rfl ?_;simp[go_sem,hn]));(repeat(first|(refine aD ?_ ?_;(focus(simp[go_sem,hn];done));(repeat(refine a7 q8x1 hX mixed rfl ?_;simp[go_sem,hn])))|(refine aA ?_ ?_;(focus(simp[go_sem,hn];done));(repeat(refine a7 q8x1 hX mixed rfl ?_;simp[go_sem,hn])))))
  refine⟨hlt6,?_⟩
  refine fB c1 ?_
  simp[go_sem,hn]
  refine⟨fun _=>hlt6,?_⟩
  refine eI (fun hg=>c2) ?_
  (simp[go_sem];try(refine⟨by kernel_rfl,?_⟩))
  cases hs:(shareOf (L.take n) a||shareOf (L.take n) b)with
  |true=>
   rw[hs,if_pos rfl]at c
   refine aD (by simp[go_sem,←hs]) ?_
   (repeat(refine a7 q8x1 hX mixed rfl ?_;simp[go_sem]))
   cases o with
   |inl e=>
    refine aQ [] (c) (by simp[go_sem]) ?_
    (first|refine aX [(1000000,.ow 0),(1000001,.ow 1),(1000002,.ow 2)] [.old 0 (mL L),.old 1 (rL R),.oldM 2 (gR G)] ?_|refine a8 [(1000000,.ow 0),(1000001,.ow 1),(1000002,.ow 2)] [.old 0 (mL L),.old 1 (rL R),.oldM 2 (gR G)] ?_)
    simp[go_sem]
   |inr v=>
    refine yH [] c ?_
    simp[go_sem]
    refine aB ?_;simp only[thenQ,blkQ,loopQ];refine a8 [(10,ii v),(1000000,.ow 0),(1000001,.ow 1),(1000002,.ow 2)] [.old 0 (mL L),.old 1 (rL R),.oldM 2 (gR G)] ?_
    simp[go_sem]
  |false=>
   rw[hs,if_neg (by simp)]at c
   refine aA (by simp[go_sem,←hs]) ?_
   (repeat(refine a7 q8x1 hX mixed rfl ?_;simp[go_sem]))
   cases o with
   |inl e=>
    refine aQ [] (c) (by simp[go_sem]) ?_
    (first|refine aX [(1000000,.ow 0),(1000001,.ow 1),(1000002,.ow 2)] [.old 0 (mL L),.old 1 (rL R),.oldM 2 (gR G)] ?_|refine a8 [(1000000,.ow 0),(1000001,.ow 1),(1000002,.ow 2)] [.old 0 (mL L),.old 1 (rL R),.oldM 2 (gR G)] ?_)
    simp[go_sem]
   |inr v=>
    refine yH [] c ?_
    simp[go_sem]
    refine aB ?_;simp only[thenQ,blkQ,loopQ];refine a8 [(10,ii v),(1000000,.ow 0),(1000001,.ow 1),(1000002,.ow 2)] [.old 0 (mL L),.old 1 (rL R),.oldM 2 (gR G)] ?_
    simp[go_sem]
 ·by_cases h0:y=0
  ·refine⟨.inl 15,trivial,?_⟩
   refine aP 3 87 [.tmp 10] Tryz.func196 rfl rfl rfl (by simp) (by decide) rfl fun X hX=>?_
   (repeat(refine a7 q8x1 hX mixed rfl ?_;simp[go_sem,h0]));(repeat(first|(refine aD ?_ ?_;(focus(simp[go_sem,h0];done));(repeat(refine a7 q8x1 hX mixed rfl ?_;simp[go_sem,h0];try refine⟨by kernel_rfl,?_⟩)))|(refine aA ?_ ?_;(focus(simp[go_sem,h0];done));(repeat(refine a7 q8x1 hX mixed rfl ?_;simp[go_sem,h0])))))
   (first|refine aX [(1000000,.ow 0),(1000001,.ow 1),(1000002,.ow 2)] [.old 0 (mL L),.old 1 (rL R),.oldM 2 (gR G)] ?_|refine a8 [(1000000,.ow 0),(1000001,.ow 1),(1000002,.ow 2)] [.old 0 (mL L),.old 1 (rL R),.oldM 2 (gR G)] ?_)
   simp[go_sem]
  ·obtain⟨q,hq,c1⟩:=wF x y (by omega) h0 (by omega)
   obtain⟨o,ho,c⟩:=lJ q
   refine⟨o,ho,?_⟩
   refine aP 3 87 [.tmp 10] Tryz.func196 rfl rfl rfl (by simp) (by decide) rfl fun X hX=>?_
   (repeat(refine a7 q8x1 hX mixed rfl ?_;simp[go_sem,h0]));(repeat(first|(refine aD ?_ ?_;(focus(simp[go_sem,h0];done));(repeat(refine a7 q8x1 hX mixed rfl ?_;simp[go_sem,h0])))|(refine aA ?_ ?_;(focus(simp[go_sem,h0];done));(repeat(refine a7 q8x1 hX mixed rfl ?_;simp[go_sem,h0])))))
   refine aC c1 ?_
   simp[go_sem]
   cases o with
   |inl e=>
    refine aQ [] (c) (by simp[go_sem]) ?_
    (first|refine aX [(1000000,.ow 0),(1000001,.ow 1),(1000002,.ow 2)] [.old 0 (mL L),.old 1 (rL R),.oldM 2 (gR G)] ?_|refine a8 [(1000000,.ow 0),(1000001,.ow 1),(1000002,.ow 2)] [.old 0 (mL L),.old 1 (rL R),.oldM 2 (gR G)] ?_)
    simp[go_sem]
   |inr v=>
    refine yH [] c ?_
    simp[go_sem]
    refine aB ?_;simp only[thenQ,blkQ,loopQ];refine a8 [(10,ii v),(1000000,.ow 0),(1000001,.ow 1),(1000002,.ow 2)] [.old 0 (mL L),.old 1 (rL R),.oldM 2 (gR G)] ?_
    simp[go_sem]
 ·refine⟨.inr (min x y),by show bnd _;unfold bnd;omega,?_⟩
  refine aP 3 87 [.tmp 10] Tryz.func196 rfl rfl rfl (by simp) (by decide) rfl fun X hX=>?_
  (repeat(refine a7 q8x1 hX mixed rfl ?_;simp[go_sem]));(repeat(first|(refine aD ?_ ?_;(focus(simp[go_sem];done));(repeat(refine a7 q8x1 hX mixed rfl ?_;simp[go_sem])))|(refine aA ?_ ?_;(focus(simp[go_sem];done));(repeat(refine a7 q8x1 hX mixed rfl ?_;simp[go_sem])))))
  refine aB ?_;simp only[thenQ,blkQ,loopQ];refine a8 [(10,ii (min x y)),(1000000,.ow 0),(1000001,.ow 1),(1000002,.ow 2)] [.old 0 (mL L),.old 1 (rL R),.oldM 2 (gR G)] ?_
  simp[go_sem]
 ·refine⟨.inr (max x y),by show bnd _;unfold bnd;omega,?_⟩
  refine aP 3 87 [.tmp 10] Tryz.func196 rfl rfl rfl (by simp) (by decide) rfl fun X hX=>?_
  (repeat(refine a7 q8x1 hX mixed rfl ?_;simp[go_sem]));(repeat(first|(refine aD ?_ ?_;(focus(simp[go_sem];done));(repeat(refine a7 q8x1 hX mixed rfl ?_;simp[go_sem])))|(refine aA ?_ ?_;(focus(simp[go_sem];done));(repeat(refine a7 q8x1 hX mixed rfl ?_;simp[go_sem])))))
  refine aB ?_;simp only[thenQ,blkQ,loopQ];refine a8 [(10,ii (max x y)),(1000000,.ow 0),(1000001,.ow 1),(1000002,.ow 2)] [.old 0 (mL L),.old 1 (rL R),.oldM 2 (gR G)] ?_
  simp[go_sem]
 ·refine⟨.inr (if decide (x<y)then 1 else 0),ht _,?_⟩
  have c1:=fK (decide (x<y))
  generalize(if decide (x<y)then(1:Int)else 0)=z at*
  refine aP 3 87 [.tmp 10] Tryz.func196 rfl rfl rfl (by simp) (by decide) rfl fun X hX=>?_
  (repeat(refine a7 q8x1 hX mixed rfl ?_;simp[go_sem]));(repeat(first|(refine aD ?_ ?_;(focus(simp[go_sem];done));(repeat(refine a7 q8x1 hX mixed rfl ?_;simp[go_sem])))|(refine aA ?_ ?_;(focus(simp[go_sem];done));(repeat(refine a7 q8x1 hX mixed rfl ?_;simp[go_sem])))))
  refine aC c1 ?_
  simp[go_sem]
  refine aB ?_;simp only[thenQ,blkQ,loopQ];refine a8 [(10,ii z),(1000000,.ow 0),(1000001,.ow 1),(1000002,.ow 2)] [.old 0 (mL L),.old 1 (rL R),.oldM 2 (gR G)] ?_
  simp[go_sem]
 ·refine⟨.inr (if decide (x=y)then 1 else 0),ht _,?_⟩
  have c1:=fK (decide (x=y))
  generalize(if decide (x=y)then(1:Int)else 0)=z at*
  refine aP 3 87 [.tmp 10] Tryz.func196 rfl rfl rfl (by simp) (by decide) rfl fun X hX=>?_
  (repeat(refine a7 q8x1 hX mixed rfl ?_;simp[go_sem]));(repeat(refine aA ?_ ?_;(focus(simp[go_sem];done));(repeat(refine a7 q8x1 hX mixed rfl ?_;simp[go_sem]))))
  refine aC c1 ?_
  simp[go_sem]
  refine aB ?_;refine a8 [(10,ii z),(1000000,.ow 0),(1000001,.ow 1),(1000002,.ow 2)] [.old 0 (mL L),.old 1 (rL R),.oldM 2 (gR G)] ?_
  simp[go_sem]
end Go.Proofs.YtdcidannegcaoaaGreatDoor

namespace Go.Proofs.YtdcidannegcaoaaGreatDoor
open Go.RowKit Go.Ab
attribute [local irreducible] AWP Go.Ab.Sub Means MeansH CallK CallG CallT CallGT PanicH PanicX DefH CallU
abbrev VGe(L:List (By×E))(R:List (Int×Int×Bool))(G:List (By×Int))(e:E)(n:Nat):List Cell:=
 [.row (mL L),.row (rL R),.map (gR G),.row ⟨248,1,[.el 0 3 0 0]⟩,.row ⟨32,5,[ex e]⟩,.row ⟨3,1,[ii n]⟩]
abbrev clo:AV:=.fn 192 [] [.el 3 1 0 0,.el 4 5 0 0,.el 5 1 0 0]
set_option maxHeartbeats 4000000 in
theorem oW{L:List (By×E)}{G:List (By×Int)}{R R':List (Int×Int×Bool)}{n:Nat}{o:Int ⊕ Int}{x:E}(e:E)(i:Nat)(hi:i<e.args.length)(hq:nth e.args i=ex x)
  (c:OutX Tryz.prog 188 (MG L R G) [.el 0 3 0 0,ex x,ii n] (outV o) (MG L R' G)):
  OutX Tryz.prog 192 (VGe L R G e n) [ii i,.el 3 1 0 0,.el 4 5 0 0,.el 5 1 0 0] (outV o) (VGe L R' G e n):=by
 cases o with
 |inl f=>
  refine aP 6 14 [.tmp 5] Tryz.func192 rfl rfl rfl (by simp) (by decide) rfl fun X hX=>?_
  (repeat(first|refine aT ?_|refine aR ?_))
  ((first|refine aV q8x2 hX ?_|refine aO q8x2 hX mixed ?_|refine aB ?_|refine aL ?_|refine aU ?_);(simp[go_sem];try(refine⟨by kernel_rfl,?_⟩)))
  (repeat(first|refine aT ?_|refine aR ?_))
  refine vB 7 hX mixed (by kernel_rfl) (by kernel_rfl) ?_;(simp[go_sem,hi,hq];try(refine⟨by kernel_rfl,?_⟩))
  refine nU [0,1,2] (c) (by simp[go_sem]) ?_
  rintro⟨E,H⟩ hs hg
  have g0:E 1000000=.ow 0:=hg 1000000 (Nat.le_refl _)
  have g1:E 1000001=.ow 1:=hg 1000001 (by decide)
  have g2:E 1000002=.ow 2:=hg 1000002 (by decide)
  have g3:E 1000003=.ow 3:=hg 1000003 (by decide)
  have g4:E 1000004=.ow 4:=hg 1000004 (by decide)
  have g5:E 1000005=.ow 5:=hg 1000005 (by decide)
  clear hg
  have hs:H=VGe L R' G e n:=hs.trans (by simp[go_sem])
  subst hs
  (first|refine aX [(1000000,.ow 0),(1000001,.ow 1),(1000002,.ow 2),(1000003,.ow 3),(1000004,.ow 4),(1000005,.ow 5)] [.old 0 (mL L),.old 1 (rL R'),.oldM 2 (gR G),.old 3 ⟨248,1,[.el 0 3 0 0]⟩,.old 4 ⟨32,5,[ex e]⟩,.old 5 ⟨3,1,[ii n]⟩] ?_|refine a8 [(1000000,.ow 0),(1000001,.ow 1),(1000002,.ow 2),(1000003,.ow 3),(1000004,.ow 4),(1000005,.ow 5)] [.old 0 (mL L),.old 1 (rL R'),.oldM 2 (gR G),.old 3 ⟨248,1,[.el 0 3 0 0]⟩,.old 4 ⟨32,5,[ex e]⟩,.old 5 ⟨3,1,[ii n]⟩] ?_)
  simp[go_sem,g0,g1,g2,g3,g4,g5]
 |inr v=>
  refine aP 6 14 [.tmp 5] Tryz.func192 rfl rfl rfl (by simp) (by decide) rfl fun X hX=>?_
  (repeat(refine a7 q8x2 hX mixed rfl ?_;simp[go_sem,hi,hq]))
  refine dJ [0,1,2] (c) (by simp[go_sem]) ?_
  (simp[go_sem];try(refine⟨by kernel_rfl,?_⟩))
  refine aB ?_;refine a8 [(5,ii v),(1000000,.ow 0),(1000001,.ow 1),(1000002,.ow 2),(1000003,.ow 3),(1000004,.ow 4),(1000005,.ow 5)] [.old 0 (mL L),.old 1 (rL R'),.oldM 2 (gR G),.old 3 ⟨248,1,[.el 0 3 0 0]⟩,.old 4 ⟨32,5,[ex e]⟩,.old 5 ⟨3,1,[ii n]⟩] ?_
  simp[go_sem]
end Go.Proofs.YtdcidannegcaoaaGreatDoor

namespace Go.Proofs.YtdcidannegcaoaaGreatDoor
open Go.RowKit Go.Ab
attribute [local irreducible] AWP Go.Ab.Sub Means MeansH CallK CallG CallT CallGT PanicH PanicX DefH CallU
structure JV(L:List (By×E))(G:List (By×Int))(e:E)(n:Nat)(R R1 R2:List (Int×Int×Bool))(oa ob oc:Int ⊕ Int)(D:Nat→Bool)(s:St):Prop where
 e3:s.env 3=.el 3 1 0 0
 e4:s.env 4=.el 4 5 0 0
 e5:s.env 5=.el 5 1 0 0
 e7:s.env 7=clo
 g0:s.env 1000000=.ow 0
 g1:s.env 1000001=.ow 1
 g2:s.env 1000002=.ow 2
 x0:D 0=true→s.env 60=.el 0 3 0 0
 x1:D 1=true→s.env 61=ex e
 x2:D 2=true→s.env 62=clo
 x4:D 4=true→s.env 64=clo
 x6:D 6=true→s.env 66=ii n
 x3:D 3=true→∃x,oa=.inr x∧s.env 63=ii x
 x5:D 5=true→D 3=true∧∃y,ob=.inr y∧s.env 65=ii y
 x7:D 7=true→D 5=true∧∃v,oc=.inr v∧s.env 67=ii v
 x8:D 8=true→∃v,oc=.inr v∧s.env 6=ii v
 hh:s.heap=bif D 5 then VGe L R2 G e n else bif D 3 then VGe L R1 G e n else VGe L R G e n
theorem JV.rows{L:List (By×E)}{G:List (By×Int)}{e:E}{n:Nat}{R R1 R2:List (Int×Int×Bool)}{oa ob oc:Int ⊕ Int}{D:Nat→Bool}{s:St}(h:JV L G e n R R1 R2 oa ob oc D s):
  ∃R0,s.heap=VGe L R0 G e n:=by
 rw[h.hh]
 cases D 5 with
 |true=>exact⟨_,rfl⟩
 |false=>cases D 3 with
  |true=>exact⟨_,rfl⟩
  |false=>exact⟨_,rfl⟩
theorem JV.put{L:List (By×E)}{G:List (By×Int)}{e:E}{n:Nat}{R R1 R2:List (Int×Int×Bool)}{oa ob oc:Int ⊕ Int}{D D':Nat→Bool}{E0 E':Nat→AV}{H H':List Cell}(h:JV L G e n R R1 R2 oa ob oc D ⟨E0,H⟩)(i d:Nat)(hd:d∉[3,4,5,7,1000000,1000001,1000002])
  (hE:∀s,s≠d→E' s=E0 s) (hD:∀j,j≠i→D' j=D j) (hp:∀p∈[(0,60),(1,61),(2,62),(3,63),(4,64),(5,65),(6,66),(7,67),(8,6)],p.1≠i→p.2≠d)
  (q0:i=0→E' 60=.el 0 3 0 0)
  (q1:i=1→E' 61=ex e)
  (q2:i=2→E' 62=clo)
  (q4:i=4→E' 64=clo)
  (q6:i=6→E' 66=ii n)
  (q3:i=3→∃x,oa=.inr x∧E' 63=ii x) (q5:i=5→D' 3=true∧∃y,ob=.inr y∧E' 65=ii y) (q7:i=7→D' 5=true∧∃v,oc=.inr v∧E' 67=ii v) (q8:i=8→∃v,oc=.inr v∧E' 6=ii v)
  (hH:H'=bif D' 5 then VGe L R2 G e n else bif D' 3 then VGe L R1 G e n else VGe L R G e n) (hm:∀j,D j=true→D' j=true):JV L G e n R R1 R2 oa ob oc D' ⟨E',H'⟩:=by
 simp only[List.mem_cons,not_or,List.not_mem_nil,not_false_eq_true,and_true]at hd
 have hne:∀a,a≠d→E' a=E0 a:=fun a ha=>hE a ha
 have val:∀j sl,(j,sl)∈[(0,60),(1,61),(2,62),(3,63),(4,64),(5,65),(6,66),(7,67),(8,6)]→j≠i→E' sl=E0 sl:=fun j sl hm hj=>hE sl (hp (j,sl) hm hj)
 refine⟨(hE _ (by omega)).trans h.e3,(hE _ (by omega)).trans h.e4,(hE _ (by omega)).trans h.e5,(hE _ (by omega)).trans h.e7,(hE _ (by omega)).trans h.g0,(hE _ (by omega)).trans h.g1,(hE _ (by omega)).trans h.g2,fun hx=>?_,fun hx=>?_,fun hx=>?_,fun hx=>?_,fun hx=>?_,fun hx=>?_,fun hx=>?_,fun hx=>?_,fun hx=>?_,hH⟩
 ·by_cases hi:0=i
  ·exact q0 hi.symm
  ·rw[hD _ hi]at hx;exact(val 0 60 (by simp) hi).trans (h.x0 hx)
 ·by_cases hi:1=i
  ·exact q1 hi.symm
  ·rw[hD _ hi]at hx;exact(val 1 61 (by simp) hi).trans (h.x1 hx)
 ·by_cases hi:2=i
  ·exact q2 hi.symm
  ·rw[hD _ hi]at hx;exact(val 2 62 (by simp) hi).trans (h.x2 hx)
 ·by_cases hi:4=i
  ·exact q4 hi.symm
  ·rw[hD _ hi]at hx;exact(val 4 64 (by simp) hi).trans (h.x4 hx)
 ·by_cases hi:6=i
  ·exact q6 hi.symm
  ·rw[hD _ hi]at hx;exact(val 6 66 (by simp) hi).trans (h.x6 hx)
 ·by_cases hi:3=i
  ·exact q3 hi.symm
  ·rw[hD _ hi]at hx
   obtain⟨x,h1,h2⟩:=h.x3 hx
   exact⟨x,h1,(val 3 63 (by simp) hi).trans h2⟩
 ·by_cases hi:5=i
  ·exact q5 hi.symm
  ·rw[hD _ hi]at hx
   obtain⟨h0,x,h1,h2⟩:=h.x5 hx
   exact⟨hm _ h0,x,h1,(val 5 65 (by simp) hi).trans h2⟩
 ·by_cases hi:7=i
  ·exact q7 hi.symm
  ·rw[hD _ hi]at hx
   obtain⟨h0,x,h1,h2⟩:=h.x7 hx
   exact⟨hm _ h0,x,h1,(val 7 67 (by simp) hi).trans h2⟩
 ·by_cases hi:8=i
  ·exact q8 hi.symm
  ·rw[hD _ hi]at hx
   obtain⟨x,h1,h2⟩:=h.x8 hx
   exact⟨x,h1,(val 8 6 (by simp) hi).trans h2⟩
end Go.Proofs.YtdcidannegcaoaaGreatDoor

namespace Go.Proofs.YtdcidannegcaoaaGreatDoor
open Go.RowKit Go.Ab
attribute [local irreducible] AWP Go.Ab.Sub Means MeansH CallK CallG CallT CallGT PanicH PanicX DefH CallU
def thenO(oa ob oc:Int ⊕ Int):Int ⊕ Int:=match oa with
 | .inl f=>.inl f
 | .inr _=>match ob with
   | .inl f=>.inl f
   | .inr _=>oc
def thenR(oa:Int ⊕ Int)(R1 R2:List (Int×Int×Bool)):List (Int×Int×Bool):=match oa with
 | .inl _=>R1
 | .inr _=>R2
set_option maxHeartbeats 8000000 in
set_option maxRecDepth 20000 in
theorem FV(L:List (By×E))(G:List (By×Int))(n:Nat)(o2:Int)(a b:E)(R R1 R2:List (Int×Int×Bool))(oa ob oc:Int ⊕ Int)(ho:2≤o2∧o2≤9)
  (kA:OutX Tryz.prog 192 (VGe L R G (.bin o2 a b) n) [ii 0,.el 3 1 0 0,.el 4 5 0 0,.el 5 1 0 0] (outV oa) (VGe L R1 G (.bin o2 a b) n))
  (kB:∀x,oa=.inr x→OutX Tryz.prog 192 (VGe L R1 G (.bin o2 a b) n) [ii 1,.el 3 1 0 0,.el 4 5 0 0,.el 5 1 0 0] (outV ob) (VGe L R2 G (.bin o2 a b) n))
  (kC:∀x y,oa=.inr x→ob=.inr y→OutX Tryz.prog 196 (MG L R2 G) [.el 0 3 0 0,ex (.bin o2 a b),ii x,ii y,ii n] (outV oc) (MG L R2 G)):
  OutX Tryz.prog 188 (MG L R G) [.el 0 3 0 0,ex (.bin o2 a b),ii n] (outV (thenO oa ob oc)) (MG L (thenR oa R1 R2) G):=by
 have n0:¬o2=0:=by omega
 have n1:¬o2=1:=by omega
 have n2:¬o2=10:=by omega
 have n3:¬o2=11:=by omega
 have n4:¬o2=12:=by omega
 have n5:¬o2=13:=by omega
 refine aP 3 68 [.tmp 6] Tryz.func188 rfl rfl rfl (by simp) (by decide) rfl fun X hX=>?_
 (repeat(first|refine aT ?_|refine aR ?_))
 ((first|refine aV q8x0 hX ?_|refine aO q8x0 hX mixed ?_|refine aB ?_|refine aL ?_|refine aU ?_);(simp[go_sem,n0,n1,n2,n3,n4,n5];try(refine⟨by kernel_rfl,?_⟩)))
 (repeat(first|refine aT ?_|refine aR ?_))
 ((first|refine aV q8x0 hX ?_|refine aO q8x0 hX mixed ?_|refine aB ?_|refine aL ?_|refine aU ?_);(simp[go_sem,n0,n1,n2,n3,n4,n5];try(refine⟨by kernel_rfl,?_⟩)))
 (repeat(first|refine aT ?_|refine aR ?_))
 ((first|refine aV q8x0 hX ?_|refine aO q8x0 hX mixed ?_|refine aB ?_|refine aL ?_|refine aU ?_);(simp[go_sem,n0,n1,n2,n3,n4,n5];try(refine⟨by kernel_rfl,?_⟩)))
 (repeat(first|refine aT ?_|refine aR ?_))
 ((first|refine aV q8x0 hX ?_|refine aO q8x0 hX mixed ?_|refine aB ?_|refine aL ?_|refine aU ?_);(simp[go_sem,n0,n1,n2,n3,n4,n5];try(refine⟨by kernel_rfl,?_⟩)))
 refine aA (by simp[go_sem,n0]) ?_
 (repeat(first|refine aT ?_|refine aR ?_))
 ((first|refine aV q8x0 hX ?_|refine aO q8x0 hX mixed ?_|refine aB ?_|refine aL ?_|refine aU ?_);(simp[go_sem,n0,n1,n2,n3,n4,n5];try(refine⟨by kernel_rfl,?_⟩)))
 refine aA (by simp[go_sem,n1]) ?_
 (repeat(first|refine aT ?_|refine aR ?_))
 ((first|refine aV q8x0 hX ?_|refine aO q8x0 hX mixed ?_|refine aB ?_|refine aL ?_|refine aU ?_);(simp[go_sem,n0,n1,n2,n3,n4,n5];try(refine⟨by kernel_rfl,?_⟩)))
 refine aA (by simp[go_sem,n2]) ?_
 (repeat(first|refine aT ?_|refine aR ?_))
 ((first|refine aV q8x0 hX ?_|refine aO q8x0 hX mixed ?_|refine aB ?_|refine aL ?_|refine aU ?_);(simp[go_sem,n0,n1,n2,n3,n4,n5];try(refine⟨by kernel_rfl,?_⟩)))
 refine aA (by simp[go_sem,n3]) ?_
 (repeat(first|refine aT ?_|refine aR ?_))
 ((first|refine aV q8x0 hX ?_|refine aO q8x0 hX mixed ?_|refine aB ?_|refine aL ?_|refine aU ?_);(simp[go_sem,n0,n1,n2,n3,n4,n5];try(refine⟨by kernel_rfl,?_⟩)))
 refine aA (by simp[go_sem,n4]) ?_
 (repeat(first|refine aT ?_|refine aR ?_))
 ((first|refine aV q8x0 hX ?_|refine aO q8x0 hX mixed ?_|refine aB ?_|refine aL ?_|refine aU ?_);(simp[go_sem,n0,n1,n2,n3,n4,n5];try(refine⟨by kernel_rfl,?_⟩)))
 refine aA (by simp[go_sem,n5]) ?_
 refine aL ?_
 simp only[thenQ,blkQ]
 (repeat(first|refine aT ?_|refine aR ?_))
 refine kG hX mixed (JV L G (.bin o2 a b) n R R1 R2 oa ob oc) ?_ (by kernel_rfl) ?_ ?_
 ·exact⟨rfl,rfl,rfl,rfl,rfl,rfl,rfl,(fun h=>by cases h),(fun h=>by cases h),(fun h=>by cases h),(fun h=>by cases h),(fun h=>by cases h),(fun h=>by cases h),(fun h=>by cases h),(fun h=>by cases h),(fun h=>by cases h),rfl⟩
 ·intro i o D s hi hdep hDi hJ
  obtain⟨E,H⟩:=s
  have g0:E 1000000=.ow 0:=hJ.g0
  have g1:E 1000001=.ow 1:=hJ.g1
  have g2:E 1000002=.ow 2:=hJ.g2
  match i with
  |0=>
   obtain⟨R0,hr⟩:=hJ.rows
   have hr:H=VGe L R0 G (.bin o2 a b) n:=hr
   subst hr
   have e3:E 3=.el 3 1 0 0:=hJ.e3
   obtain rfl:=Option.some.inj hi
   refine⟨rfl,?_⟩
   simp[go_sem,normO,e3]
   exact⟨⟨upd E 60 (.el 0 3 0 0),VGe L R0 G (.bin o2 a b) n⟩,hJ.put 0 60 (by decide) (fun s h=>aS _ _ _ h) (fun j h=>by simp[h]) (by decide) (fun _=>bC _ _ _) (fun h=>absurd h (by decide)) (fun h=>absurd h (by decide)) (fun h=>absurd h (by decide)) (fun h=>absurd h (by decide)) (fun h=>absurd h (by decide)) (fun h=>absurd h (by decide)) (fun h=>absurd h (by decide)) (fun h=>absurd h (by decide)) (by have:=hJ.hh;simpa using this) (fun j h=>by simp[h]),Sub.refl⟩
  |1=>
   obtain⟨R0,hr⟩:=hJ.rows
   have hr:H=VGe L R0 G (.bin o2 a b) n:=hr
   subst hr
   have e4:E 4=.el 4 5 0 0:=hJ.e4
   obtain rfl:=Option.some.inj hi
   refine⟨rfl,?_⟩
   simp[go_sem,normO,e4]
   exact⟨⟨upd E 61 (ex (.bin o2 a b)),VGe L R0 G (.bin o2 a b) n⟩,hJ.put 1 61 (by decide) (fun s h=>aS _ _ _ h) (fun j h=>by simp[h]) (by decide) (fun h=>absurd h (by decide)) (fun _=>bC _ _ _) (fun h=>absurd h (by decide)) (fun h=>absurd h (by decide)) (fun h=>absurd h (by decide)) (fun h=>absurd h (by decide)) (fun h=>absurd h (by decide)) (fun h=>absurd h (by decide)) (fun h=>absurd h (by decide)) (by have:=hJ.hh;simpa using this) (fun j h=>by simp[h]),Sub.refl⟩
  |2=>
   obtain⟨R0,hr⟩:=hJ.rows
   have hr:H=VGe L R0 G (.bin o2 a b) n:=hr
   subst hr
   have e7:E 7=clo:=hJ.e7
   obtain rfl:=Option.some.inj hi
   refine⟨rfl,?_⟩
   simp[go_sem,normO,e7]
   exact⟨⟨upd E 62 (clo),VGe L R0 G (.bin o2 a b) n⟩,hJ.put 2 62 (by decide) (fun s h=>aS _ _ _ h) (fun j h=>by simp[h]) (by decide) (fun h=>absurd h (by decide)) (fun h=>absurd h (by decide)) (fun _=>bC _ _ _) (fun h=>absurd h (by decide)) (fun h=>absurd h (by decide)) (fun h=>absurd h (by decide)) (fun h=>absurd h (by decide)) (fun h=>absurd h (by decide)) (fun h=>absurd h (by decide)) (by have:=hJ.hh;simpa using this) (fun j h=>by simp[h]),Sub.refl⟩
  |3=>
   have d2:D 2=true:=hdep ⟨2,.data⟩ (by obtain rfl:=Option.some.inj hi;simp) rfl
   have d5:D 5=false:=by
    cases h:D 5 with
    |false=>rfl
    |true=>have:=(hJ.x5 h).1;rw[hDi]at this;cases this
   have hr:H=VGe L R G (.bin o2 a b) n:=by have:=hJ.hh;rw[d5,hDi]at this;exact this
   subst hr
   have e62:E 62=clo:=hJ.x2 d2
   obtain rfl:=Option.some.inj hi
   refine⟨rfl,?_⟩
   simp[go_sem,normO,e62]
   cases oa with
   |inl f=>
    refine aQ [0,1,2,3,4,5] (kA) (by simp[go_sem]) ?_
    simp only[thenO,thenR,pV,qR]
    (first|refine aX [(1000000,.ow 0),(1000001,.ow 1),(1000002,.ow 2)] [.old 0 (mL L),.old 1 (rL R1),.oldM 2 (gR G)] ?_|refine a8 [(1000000,.ow 0),(1000001,.ow 1),(1000002,.ow 2)] [.old 0 (mL L),.old 1 (rL R1),.oldM 2 (gR G)] ?_)
    simp[go_sem,g0,g1,g2]
   |inr x=>
    refine yH [0,1,2,3,4,5] kA ?_
    simp[go_sem]
    exact⟨⟨upd E 63 (ii x),VGe L R1 G (.bin o2 a b) n⟩,hJ.put 3 63 (by decide) (fun s h=>aS _ _ _ h) (fun j h=>by simp[h]) (by decide) (fun h=>absurd h (by decide)) (fun h=>absurd h (by decide)) (fun h=>absurd h (by decide)) (fun h=>absurd h (by decide)) (fun h=>absurd h (by decide)) (fun _=>⟨x,rfl,bC _ _ _⟩) (fun h=>absurd h (by decide)) (fun h=>absurd h (by decide)) (fun h=>absurd h (by decide)) (by simp[d5]) (fun j h=>by simp[h]),Sub.refl⟩
  |4=>
   obtain⟨R0,hr⟩:=hJ.rows
   have hr:H=VGe L R0 G (.bin o2 a b) n:=hr
   subst hr
   have e7:E 7=clo:=hJ.e7
   obtain rfl:=Option.some.inj hi
   refine⟨rfl,?_⟩
   simp[go_sem,normO,e7]
   exact⟨⟨upd E 64 (clo),VGe L R0 G (.bin o2 a b) n⟩,hJ.put 4 64 (by decide) (fun s h=>aS _ _ _ h) (fun j h=>by simp[h]) (by decide) (fun h=>absurd h (by decide)) (fun h=>absurd h (by decide)) (fun h=>absurd h (by decide)) (fun _=>bC _ _ _) (fun h=>absurd h (by decide)) (fun h=>absurd h (by decide)) (fun h=>absurd h (by decide)) (fun h=>absurd h (by decide)) (fun h=>absurd h (by decide)) (by have:=hJ.hh;simpa using this) (fun j h=>by simp[h]),Sub.refl⟩
  |5=>
   have d3:D 3=true:=hdep ⟨3,.chain⟩ (by obtain rfl:=Option.some.inj hi;simp) rfl
   have d4:D 4=true:=hdep ⟨4,.data⟩ (by obtain rfl:=Option.some.inj hi;simp) rfl
   have d7:¬D 7=true:=fun h=>by have:=(hJ.x7 h).1;rw[hDi]at this;cases this
   have hr:H=VGe L R1 G (.bin o2 a b) n:=by have:=hJ.hh;rw[hDi,d3]at this;exact this
   subst hr
   have e64:E 64=clo:=hJ.x4 d4
   obtain⟨x,rfl,e63⟩:=hJ.x3 d3
   have kB:=kB x rfl
   obtain rfl:=Option.some.inj hi
   refine⟨rfl,?_⟩
   simp[go_sem,normO,e64]
   cases ob with
   |inl f=>
    refine aQ [0,1,2,3,4,5] (kB) (by simp[go_sem]) ?_
    simp only[thenO,thenR,pV,qR]
    (first|refine aX [(1000000,.ow 0),(1000001,.ow 1),(1000002,.ow 2)] [.old 0 (mL L),.old 1 (rL R2),.oldM 2 (gR G)] ?_|refine a8 [(1000000,.ow 0),(1000001,.ow 1),(1000002,.ow 2)] [.old 0 (mL L),.old 1 (rL R2),.oldM 2 (gR G)] ?_)
    simp[go_sem,g0,g1,g2]
   |inr y=>
    refine yH [0,1,2,3,4,5] kB ?_
    simp[go_sem]
    exact⟨⟨upd E 65 (ii y),VGe L R2 G (.bin o2 a b) n⟩,hJ.put 5 65 (by decide) (fun s h=>aS _ _ _ h) (fun j h=>by simp[h]) (by decide) (fun h=>absurd h (by decide)) (fun h=>absurd h (by decide)) (fun h=>absurd h (by decide)) (fun h=>absurd h (by decide)) (fun h=>absurd h (by decide)) (fun h=>absurd h (by decide)) (fun _=>⟨by simp[d3],y,rfl,bC _ _ _⟩) (fun h=>absurd h (by decide)) (fun h=>absurd h (by decide)) (by simp) (fun j h=>by simp[h]),Sub.refl⟩
  |6=>
   obtain⟨R0,hr⟩:=hJ.rows
   have hr:H=VGe L R0 G (.bin o2 a b) n:=hr
   subst hr
   have e5:E 5=.el 5 1 0 0:=hJ.e5
   obtain rfl:=Option.some.inj hi
   refine⟨rfl,?_⟩
   simp[go_sem,normO,e5]
   exact⟨⟨upd E 66 (ii n),VGe L R0 G (.bin o2 a b) n⟩,hJ.put 6 66 (by decide) (fun s h=>aS _ _ _ h) (fun j h=>by simp[h]) (by decide) (fun h=>absurd h (by decide)) (fun h=>absurd h (by decide)) (fun h=>absurd h (by decide)) (fun h=>absurd h (by decide)) (fun _=>bC _ _ _) (fun h=>absurd h (by decide)) (fun h=>absurd h (by decide)) (fun h=>absurd h (by decide)) (fun h=>absurd h (by decide)) (by have:=hJ.hh;simpa using this) (fun j h=>by simp[h]),Sub.refl⟩
  |7=>
   have d0:D 0=true:=hdep ⟨0,.data⟩ (by obtain rfl:=Option.some.inj hi;simp) rfl
   have d1:D 1=true:=hdep ⟨1,.data⟩ (by obtain rfl:=Option.some.inj hi;simp) rfl
   have d5:D 5=true:=hdep ⟨5,.data⟩ (by obtain rfl:=Option.some.inj hi;simp) rfl
   have d6:D 6=true:=hdep ⟨6,.data⟩ (by obtain rfl:=Option.some.inj hi;simp) rfl
   have hr:H=VGe L R2 G (.bin o2 a b) n:=by have:=hJ.hh;rw[d5]at this;exact this
   subst hr
   obtain⟨d3,y,rfl,e65⟩:=hJ.x5 d5
   obtain⟨x,rfl,e63⟩:=hJ.x3 d3
   have e60:E 60=.el 0 3 0 0:=hJ.x0 d0
   have e61:E 61=ex (.bin o2 a b):=hJ.x1 d1
   have e66:E 66=ii n:=hJ.x6 d6
   have e63:E 63=ii x:=e63
   have e65:E 65=ii y:=e65
   have kC:=kC x y rfl rfl
   obtain rfl:=Option.some.inj hi
   refine⟨rfl,?_⟩
   simp[go_sem,normO,e60,e61,e63,e65,e66]
   cases oc with
   |inl f=>
    refine aQ [0,1,2] (kC) (by simp[go_sem]) ?_
    simp only[thenO,thenR,pV,qR]
    (first|refine aX [(1000000,.ow 0),(1000001,.ow 1),(1000002,.ow 2)] [.old 0 (mL L),.old 1 (rL R2),.oldM 2 (gR G)] ?_|refine a8 [(1000000,.ow 0),(1000001,.ow 1),(1000002,.ow 2)] [.old 0 (mL L),.old 1 (rL R2),.oldM 2 (gR G)] ?_)
    simp[go_sem,g0,g1,g2]
   |inr v=>
    refine yH [0,1,2] kC ?_
    simp[go_sem]
    exact⟨⟨upd E 67 (ii v),VGe L R2 G (.bin o2 a b) n⟩,hJ.put 7 67 (by decide) (fun s h=>aS _ _ _ h) (fun j h=>by simp[h]) (by decide) (fun h=>absurd h (by decide)) (fun h=>absurd h (by decide)) (fun h=>absurd h (by decide)) (fun h=>absurd h (by decide)) (fun h=>absurd h (by decide)) (fun h=>absurd h (by decide)) (fun h=>absurd h (by decide)) (fun _=>⟨by simp[d5],v,rfl,bC _ _ _⟩) (fun h=>absurd h (by decide)) (by simp[d5]) (fun j h=>by simp[h]),Sub.refl⟩
  |8=>
   have d7:D 7=true:=hdep ⟨7,.data⟩ (by obtain rfl:=Option.some.inj hi;simp) rfl
   obtain⟨d5,v,rfl,k67⟩:=hJ.x7 d7
   have e67:E 67=ii v:=k67
   clear k67
   have hr:H=VGe L R2 G (.bin o2 a b) n:=by have:=hJ.hh;rw[d5]at this;exact this
   subst hr
   obtain rfl:=Option.some.inj hi
   refine⟨rfl,?_⟩
   simp[go_sem,normO,e67]
   exact⟨⟨upd E 6 (ii v),VGe L R2 G (.bin o2 a b) n⟩,hJ.put 8 6 (by decide) (fun s h=>aS _ _ _ h) (fun j h=>by simp[h]) (by decide) (fun h=>absurd h (by decide)) (fun h=>absurd h (by decide)) (fun h=>absurd h (by decide)) (fun h=>absurd h (by decide)) (fun h=>absurd h (by decide)) (fun h=>absurd h (by decide)) (fun h=>absurd h (by decide)) (fun h=>absurd h (by decide)) (fun _=>⟨v,rfl,bC _ _ _⟩) (by simp[d5]) (fun j h=>by simp[h]),Sub.refl⟩
  |k+9=>simp at hi
 ·intro D s ha hJ
  obtain⟨E,H⟩:=s
  have ha:∀i,i<9→D i=true:=ha
  obtain⟨d3,y,rfl,e65⟩:=hJ.x5 (ha 5 (by omega))
  obtain⟨x,rfl,e63⟩:=hJ.x3 d3
  obtain⟨v,rfl,k6⟩:=hJ.x8 (ha 8 (by omega))
  have e6:E 6=ii v:=k6
  clear k6
  have hr:H=VGe L R2 G (.bin o2 a b) n:=by have:=hJ.hh;rw[ha 5 (by omega)]at this;exact this
  subst hr
  have g0:E 1000000=.ow 0:=hJ.g0
  have g1:E 1000001=.ow 1:=hJ.g1
  have g2:E 1000002=.ow 2:=hJ.g2
  simp only[thenQ,thenO,thenR,ES,FW]
  refine aB ?_;refine a8 [(6,ii v),(1000000,.ow 0),(1000001,.ow 1),(1000002,.ow 2)] [.old 0 (mL L),.old 1 (rL R2),.oldM 2 (gR G)] ?_
  simp[go_sem,g0,g1,g2,e6]
end Go.Proofs.YtdcidannegcaoaaGreatDoor

namespace Go.Proofs.YtdcidannegcaoaaGreatDoor
open Go.RowKit Go.Ab
attribute [local irreducible] AWP Go.Ab.Sub Means MeansH CallK CallG CallT CallGT PanicH PanicX DefH CallU
theorem mW(q:Bool):bnd (if q then 1 else 0):=by cases q<;>(show bnd _;unfold bnd;simp)
set_option maxHeartbeats 8000000 in
set_option maxRecDepth 20000 in
theorem xH(L:List (By×E))(G:List (By×Int))(n:Nat)(hL:OkL L)(hn:n≤L.length)
  (hname:∀R s,OkR L R→∃R' o,OkR L R'∧okO o∧OutX Tryz.prog 194 (MG L R G) [.el 0 3 0 0,ss s,ii n] (outV o) (MG L R' G))
  (N:Nat) (ih:∀x,OkE x→x.lev≤N→∀R,OkR L R→∃R' o,OkR L R'∧okO o∧OutX Tryz.prog 188 (MG L R G) [.el 0 3 0 0,ex x,ii n] (outV o) (MG L R' G))
  (e:E) (he:OkE e) (hl:e.lev≤N+1) (R:List (Int×Int×Bool)) (hR:OkR L R):
  ∃R' o,OkR L R'∧okO o∧OutX Tryz.prog 188 (MG L R G) [.el 0 3 0 0,ex e,ii n] (outV o) (MG L R' G):=by
 cases e with
 |num m u=>
  have hb:bnd m:=by have:=he.1.1;unfold bnd;omega
  have c1:=BF m hb
  refine⟨R,.inr m,hR,hb,?_⟩
  refine aP 3 68 [.tmp 6] Tryz.func188 rfl rfl rfl (by simp) (by decide) rfl fun X hX=>?_
  (repeat(refine a7 q8x0 hX mixed rfl ?_;simp[go_sem]));(repeat(refine aD ?_ ?_;(focus(simp[go_sem];done));(repeat(refine a7 q8x0 hX mixed rfl ?_;simp[go_sem]))))
  refine yH [] c1 ?_
  simp[go_sem]
  refine aB ?_;simp only[thenQ,blkQ,loopQ];refine a8 [(6,ii (m)),(1000000,.ow 0),(1000001,.ow 1),(1000002,.ow 2)] [.old 0 (mL L),.old 1 (rL R),.oldM 2 (gR G)] ?_
  simp[go_sem]
 |nam s=>
  obtain⟨R',o,h1,h2,c1⟩:=hname R s hR
  refine⟨R',o,h1,h2,?_⟩
  cases o with
  |inl f=>
   refine aP 3 68 [.tmp 6] Tryz.func188 rfl rfl rfl (by simp) (by decide) rfl fun X hX=>?_
   (repeat(refine a7 q8x0 hX mixed rfl ?_;simp[go_sem]));(repeat(first|(refine aD ?_ ?_;(focus(simp[go_sem];done));(repeat(refine a7 q8x0 hX mixed rfl ?_;simp[go_sem])))|(refine aA ?_ ?_;(focus(simp[go_sem];done));(repeat(refine a7 q8x0 hX mixed rfl ?_;simp[go_sem])))))
   refine aQ [0,1,2] (c1) (by simp[go_sem]) ?_
   (first|refine aX [(1000000,.ow 0),(1000001,.ow 1),(1000002,.ow 2)] [.old 0 (mL L),.old 1 (rL R'),.oldM 2 (gR G)] ?_|refine a8 [(1000000,.ow 0),(1000001,.ow 1),(1000002,.ow 2)] [.old 0 (mL L),.old 1 (rL R'),.oldM 2 (gR G)] ?_)
   simp[go_sem]
  |inr v=>
   refine aP 3 68 [.tmp 6] Tryz.func188 rfl rfl rfl (by simp) (by decide) rfl fun X hX=>?_
   (repeat(refine a7 q8x0 hX mixed rfl ?_;simp[go_sem]));(repeat(first|(refine aD ?_ ?_;(focus(simp[go_sem];done));(repeat(refine a7 q8x0 hX mixed rfl ?_;simp[go_sem])))|(refine aA ?_ ?_;(focus(simp[go_sem];done));(repeat(refine a7 q8x0 hX mixed rfl ?_;simp[go_sem])))))
   refine yH [0,1,2] c1 ?_
   simp[go_sem]
   refine aB ?_;simp only[thenQ,blkQ,loopQ];refine a8 [(6,ii (v)),(1000000,.ow 0),(1000001,.ow 1),(1000002,.ow 2)] [.old 0 (mL L),.old 1 (rL R'),.oldM 2 (gR G)] ?_
   simp[go_sem]
 |un a=>
  have oka:OkE a:=⟨he.1,by have:=he.2;simp only[E.lev]at this;omega⟩
  obtain⟨R1,oa,h1,h2,cA⟩:=ih a oka (by simp only[E.lev]at hl;omega) R hR
  have kA:=oW (.un a) 0 (by simp[E.args]) rfl cA
  cases oa with
  |inl f=>
   refine⟨R1,.inl f,h1,trivial,?_⟩
   refine aP 3 68 [.tmp 6] Tryz.func188 rfl rfl rfl (by simp) (by decide) rfl fun X hX=>?_
   (repeat(refine a7 q8x0 hX mixed rfl ?_;simp[go_sem]));(repeat(first|(refine aD ?_ ?_;(focus(simp[go_sem];done));(repeat(refine a7 q8x0 hX mixed rfl ?_;simp[go_sem])))|(refine aA ?_ ?_;(focus(simp[go_sem];done));(repeat(refine a7 q8x0 hX mixed rfl ?_;simp[go_sem])))))
   refine aQ [0,1,2,3,4,5] (kA) (by simp[go_sem]) ?_
   (first|refine aX [(1000000,.ow 0),(1000001,.ow 1),(1000002,.ow 2)] [.old 0 (mL L),.old 1 (rL R1),.oldM 2 (gR G)] ?_|refine a8 [(1000000,.ow 0),(1000001,.ow 1),(1000002,.ow 2)] [.old 0 (mL L),.old 1 (rL R1),.oldM 2 (gR G)] ?_)
   simp[go_sem]
  |inr x=>
   have c1:=fK (decide (x=0))
   refine⟨R1,.inr (if decide (x=0)then 1 else 0),h1,mW _,?_⟩
   generalize(if decide (x=0)then(1:Int)else 0)=z at*
   refine aP 3 68 [.tmp 6] Tryz.func188 rfl rfl rfl (by simp) (by decide) rfl fun X hX=>?_
   (repeat(refine a7 q8x0 hX mixed rfl ?_;simp[go_sem]));(repeat(first|(refine aD ?_ ?_;(focus(simp[go_sem];done));(repeat(refine a7 q8x0 hX mixed rfl ?_;simp[go_sem])))|(refine aA ?_ ?_;(focus(simp[go_sem];done));(repeat(refine a7 q8x0 hX mixed rfl ?_;simp[go_sem])))))
   refine yH [0,1,2,3,4,5] kA ?_
   simp[go_sem]
   refine aC c1 ?_
   simp[go_sem]
   refine aB ?_;simp only[thenQ,blkQ,loopQ];refine a8 [(6,ii (z)),(1000000,.ow 0),(1000001,.ow 1),(1000002,.ow 2)] [.old 0 (mL L),.old 1 (rL R1),.oldM 2 (gR G)] ?_
   simp[go_sem]
 |ite a b c=>
  have oka:OkE a:=⟨he.1.1,by have:=he.2;simp only[E.lev]at this;omega⟩
  have okb:OkE b:=⟨he.1.2.1,by have:=he.2;simp only[E.lev]at this;omega⟩
  have okc:OkE c:=⟨he.1.2.2,by have:=he.2;simp only[E.lev]at this;omega⟩
  obtain⟨R1,oa,h1,h2,cA⟩:=ih a oka (by simp only[E.lev]at hl;omega) R hR
  have kA:=oW (.ite a b c) 0 (by simp[E.args]) rfl cA
  cases oa with
  |inl f=>
   refine⟨R1,.inl f,h1,trivial,?_⟩
   refine aP 3 68 [.tmp 6] Tryz.func188 rfl rfl rfl (by simp) (by decide) rfl fun X hX=>?_
   (repeat(refine a7 q8x0 hX mixed rfl ?_;simp[go_sem]));(repeat(first|(refine aD ?_ ?_;(focus(simp[go_sem];done));(repeat(refine a7 q8x0 hX mixed rfl ?_;simp[go_sem])))|(refine aA ?_ ?_;(focus(simp[go_sem];done));(repeat(refine a7 q8x0 hX mixed rfl ?_;simp[go_sem])))))
   refine aQ [0,1,2,3,4,5] (kA) (by simp[go_sem]) ?_
   (first|refine aX [(1000000,.ow 0),(1000001,.ow 1),(1000002,.ow 2)] [.old 0 (mL L),.old 1 (rL R1),.oldM 2 (gR G)] ?_|refine a8 [(1000000,.ow 0),(1000001,.ow 1),(1000002,.ow 2)] [.old 0 (mL L),.old 1 (rL R1),.oldM 2 (gR G)] ?_)
   simp[go_sem]
  |inr x=>
   by_cases hx:x=0
   ·obtain⟨R2,ob,h3,h4,cB⟩:=ih c okc (by simp only[E.lev]at hl;omega) R1 h1
    have kB:=oW (.ite a b c) 2 (by simp[E.args]) rfl cB
    refine⟨R2,ob,h3,h4,?_⟩
    cases ob with
    |inl f=>
     refine aP 3 68 [.tmp 6] Tryz.func188 rfl rfl rfl (by simp) (by decide) rfl fun X hX=>?_
     (repeat(refine a7 q8x0 hX mixed rfl ?_;simp[go_sem]));(repeat(first|(refine aD ?_ ?_;(focus(simp[go_sem];done));(repeat(refine a7 q8x0 hX mixed rfl ?_;simp[go_sem])))|(refine aA ?_ ?_;(focus(simp[go_sem];done));(repeat(refine a7 q8x0 hX mixed rfl ?_;simp[go_sem])))))
     refine yH [0,1,2,3,4,5] kA ?_
     simp[go_sem]
     refine aA (by simp[go_sem,hx]) ?_
     (repeat(refine a7 q8x0 hX mixed rfl ?_;simp[go_sem]))
     refine aQ [0,1,2,3,4,5] (kB) (by simp[go_sem]) ?_
     (first|refine aX [(1000000,.ow 0),(1000001,.ow 1),(1000002,.ow 2)] [.old 0 (mL L),.old 1 (rL R2),.oldM 2 (gR G)] ?_|refine a8 [(1000000,.ow 0),(1000001,.ow 1),(1000002,.ow 2)] [.old 0 (mL L),.old 1 (rL R2),.oldM 2 (gR G)] ?_)
     simp[go_sem]
    |inr y=>
     refine aP 3 68 [.tmp 6] Tryz.func188 rfl rfl rfl (by simp) (by decide) rfl fun X hX=>?_
     (repeat(refine a7 q8x0 hX mixed rfl ?_;simp[go_sem]));(repeat(first|(refine aD ?_ ?_;(focus(simp[go_sem];done));(repeat(refine a7 q8x0 hX mixed rfl ?_;simp[go_sem])))|(refine aA ?_ ?_;(focus(simp[go_sem];done));(repeat(refine a7 q8x0 hX mixed rfl ?_;simp[go_sem])))))
     refine yH [0,1,2,3,4,5] kA ?_
     simp[go_sem]
     refine aA (by simp[go_sem,hx]) ?_
     (repeat(refine a7 q8x0 hX mixed rfl ?_;simp[go_sem]))
     refine yH [0,1,2,3,4,5] kB ?_
     simp[go_sem]
     refine aB ?_;simp only[thenQ,blkQ,loopQ];refine a8 [(6,ii (y)),(1000000,.ow 0),(1000001,.ow 1),(1000002,.ow 2)] [.old 0 (mL L),.old 1 (rL R2),.oldM 2 (gR G)] ?_
     simp[go_sem]
   ·obtain⟨R2,ob,h3,h4,cB⟩:=ih b okb (by simp only[E.lev]at hl;omega) R1 h1
    have kB:=oW (.ite a b c) 1 (by simp[E.args]) rfl cB
    refine⟨R2,ob,h3,h4,?_⟩
    cases ob with
    |inl f=>
     refine aP 3 68 [.tmp 6] Tryz.func188 rfl rfl rfl (by simp) (by decide) rfl fun X hX=>?_
     (repeat(refine a7 q8x0 hX mixed rfl ?_;simp[go_sem]));(repeat(first|(refine aD ?_ ?_;(focus(simp[go_sem];done));(repeat(refine a7 q8x0 hX mixed rfl ?_;simp[go_sem])))|(refine aA ?_ ?_;(focus(simp[go_sem];done));(repeat(refine a7 q8x0 hX mixed rfl ?_;simp[go_sem])))))
     refine yH [0,1,2,3,4,5] kA ?_
     simp[go_sem]
     refine aD (by simp[go_sem,hx]) ?_
     (repeat(refine a7 q8x0 hX mixed rfl ?_;simp[go_sem]))
     refine aQ [0,1,2,3,4,5] (kB) (by simp[go_sem]) ?_
     (first|refine aX [(1000000,.ow 0),(1000001,.ow 1),(1000002,.ow 2)] [.old 0 (mL L),.old 1 (rL R2),.oldM 2 (gR G)] ?_|refine a8 [(1000000,.ow 0),(1000001,.ow 1),(1000002,.ow 2)] [.old 0 (mL L),.old 1 (rL R2),.oldM 2 (gR G)] ?_)
     simp[go_sem]
    |inr y=>
     refine aP 3 68 [.tmp 6] Tryz.func188 rfl rfl rfl (by simp) (by decide) rfl fun X hX=>?_
     (repeat(refine a7 q8x0 hX mixed rfl ?_;simp[go_sem]));(repeat(first|(refine aD ?_ ?_;(focus(simp[go_sem];done));(repeat(refine a7 q8x0 hX mixed rfl ?_;simp[go_sem])))|(refine aA ?_ ?_;(focus(simp[go_sem];done));(repeat(refine a7 q8x0 hX mixed rfl ?_;simp[go_sem])))))
     refine yH [0,1,2,3,4,5] kA ?_
     simp[go_sem]
     refine aD (by simp[go_sem,hx]) ?_
     (repeat(refine a7 q8x0 hX mixed rfl ?_;simp[go_sem]))
     refine yH [0,1,2,3,4,5] kB ?_
     simp[go_sem]
     refine aB ?_;simp only[thenQ,blkQ,loopQ];refine a8 [(6,ii (y)),(1000000,.ow 0),(1000001,.ow 1),(1000002,.ow 2)] [.old 0 (mL L),.old 1 (rL R2),.oldM 2 (gR G)] ?_
     simp[go_sem]
 |bin o2 a b=>
  have oka:OkE a:=⟨he.1.2.1,by have:=he.2;simp only[E.lev]at this;omega⟩
  have okb:OkE b:=⟨he.1.2.2,by have:=he.2;simp only[E.lev]at this;omega⟩
  have ho:=he.1.1
  obtain⟨R1,oa,h1,h2,cA⟩:=ih a oka (by simp only[E.lev]at hl;omega) R hR
  have kA:=oW (.bin o2 a b) 0 (by simp[E.args]) rfl cA
  obtain⟨R2,ob,h3,h4,cB⟩:=ih b okb (by simp only[E.lev]at hl;omega) R1 h1
  have kB:=oW (.bin o2 a b) 1 (by simp[E.args]) rfl cB
  by_cases h9:o2≤9
  ·obtain⟨oc,hoc,kC⟩:∃oc,okO oc∧∀x y,oa=.inr x→ob=.inr y→OutX Tryz.prog 196 (MG L R2 G) [.el 0 3 0 0,ex (.bin o2 a b),ii x,ii y,ii n] (outV oc) (MG L R2 G):=by
    cases oa with
    |inl f=>exact⟨.inl 0,trivial,fun x y hx=>by cases hx⟩
    |inr x=>
     cases ob with
     |inl f=>exact⟨.inl 0,trivial,fun x y _ hy=>by cases hy⟩
     |inr y=>
      obtain⟨oc,k1,k2⟩:=CQ L G R2 n o2 a b x y hL hn ⟨ho.1,h9⟩ oka okb h2 h4
      exact⟨oc,k1,fun x' y' hx hy=>by cases hx;cases hy;exact k2⟩
   refine⟨thenR oa R1 R2,thenO oa ob oc,?_,?_,FV L G n o2 a b R R1 R2 oa ob oc ⟨ho.1,h9⟩ kA (fun _ _=>kB) kC⟩
   ·cases oa with
    |inl f=>exact h1
    |inr x=>exact h3
   ·cases oa with
    |inl f=>trivial
    |inr x=>
     cases ob with
     |inl f=>trivial
     |inr y=>exact hoc
  ·have hoo:o2=10∨o2=11:=by omega
   clear he hl ho h9
   rcases hoo with rfl|rfl
   ·cases oa with
    |inl f=>
     refine⟨R1,.inl f,h1,trivial,?_⟩
     refine aP 3 68 [.tmp 6] Tryz.func188 rfl rfl rfl (by simp) (by decide) rfl fun X hX=>?_
     (repeat(refine a7 q8x0 hX mixed rfl ?_;simp[go_sem]));(repeat(first|(refine aD ?_ ?_;(focus(simp[go_sem];done));(repeat(refine a7 q8x0 hX mixed rfl ?_;simp[go_sem])))|(refine aA ?_ ?_;(focus(simp[go_sem];done));(repeat(refine a7 q8x0 hX mixed rfl ?_;simp[go_sem])))))
     refine aQ [0,1,2,3,4,5] (kA) (by simp[go_sem]) ?_
     (first|refine aX [(1000000,.ow 0),(1000001,.ow 1),(1000002,.ow 2)] [.old 0 (mL L),.old 1 (rL R1),.oldM 2 (gR G)] ?_|refine a8 [(1000000,.ow 0),(1000001,.ow 1),(1000002,.ow 2)] [.old 0 (mL L),.old 1 (rL R1),.oldM 2 (gR G)] ?_)
     simp[go_sem]
    |inr x=>
     by_cases hx:x=0
     ·have c1:=fK false
      refine⟨R1,.inr (if false then 1 else 0),h1,mW _,?_⟩
      generalize(if false then(1:Int)else 0)=z at*
      refine aP 3 68 [.tmp 6] Tryz.func188 rfl rfl rfl (by simp) (by decide) rfl fun X hX=>?_
      (repeat(refine a7 q8x0 hX mixed rfl ?_;simp[go_sem]));(repeat(first|(refine aD ?_ ?_;(focus(simp[go_sem];done));(repeat(refine a7 q8x0 hX mixed rfl ?_;simp[go_sem])))|(refine aA ?_ ?_;(focus(simp[go_sem];done));(repeat(refine a7 q8x0 hX mixed rfl ?_;simp[go_sem])))))
      refine yH [0,1,2,3,4,5] kA ?_
      simp[go_sem]
      simp[go_sem,hx]
      refine bT rfl ?_
      simp[go_sem,hx]
      refine aC c1 ?_
      simp[go_sem]
      refine aB ?_;simp only[thenQ,blkQ,loopQ];refine a8 [(6,ii (z)),(1000000,.ow 0),(1000001,.ow 1),(1000002,.ow 2)] [.old 0 (mL L),.old 1 (rL R1),.oldM 2 (gR G)] ?_
      simp[go_sem]
     ·cases ob with
      |inl f=>
       refine⟨R2,.inl f,h3,trivial,?_⟩
       refine aP 3 68 [.tmp 6] Tryz.func188 rfl rfl rfl (by simp) (by decide) rfl fun X hX=>?_
       (repeat(refine a7 q8x0 hX mixed rfl ?_;simp[go_sem]));(repeat(first|(refine aD ?_ ?_;(focus(simp[go_sem];done));(repeat(refine a7 q8x0 hX mixed rfl ?_;simp[go_sem])))|(refine aA ?_ ?_;(focus(simp[go_sem];done));(repeat(refine a7 q8x0 hX mixed rfl ?_;simp[go_sem])))))
       refine yH [0,1,2,3,4,5] kA ?_
       simp[go_sem]
       simp[go_sem,hx]
       refine jN [0,1,2,3,4,5] (by simp[go_sem]) (kB) (by simp[go_sem]) ?_
       (first|refine aX [(1000000,.ow 0),(1000001,.ow 1),(1000002,.ow 2)] [.old 0 (mL L),.old 1 (rL R2),.oldM 2 (gR G)] ?_|refine a8 [(1000000,.ow 0),(1000001,.ow 1),(1000002,.ow 2)] [.old 0 (mL L),.old 1 (rL R2),.oldM 2 (gR G)] ?_)
       simp[go_sem]
      |inr y=>
       have c1:=fK (!decide (y=0))
       refine⟨R2,.inr (if !decide (y=0)then 1 else 0),h3,mW _,?_⟩
       generalize(if !decide (y=0)then(1:Int)else 0)=z at*
       refine aP 3 68 [.tmp 6] Tryz.func188 rfl rfl rfl (by simp) (by decide) rfl fun X hX=>?_
       (repeat(refine a7 q8x0 hX mixed rfl ?_;simp[go_sem]));(repeat(first|(refine aD ?_ ?_;(focus(simp[go_sem];done));(repeat(refine a7 q8x0 hX mixed rfl ?_;simp[go_sem])))|(refine aA ?_ ?_;(focus(simp[go_sem];done));(repeat(refine a7 q8x0 hX mixed rfl ?_;simp[go_sem])))))
       refine yH [0,1,2,3,4,5] kA ?_
       simp[go_sem]
       simp[go_sem,hx]
       refine eH [0,1,2,3,4,5] (by simp[go_sem]) (kB) (by simp[go_sem]) ?_
       simp[go_sem,hx]
       refine aC c1 ?_
       simp[go_sem]
       refine aB ?_;simp only[thenQ,blkQ,loopQ];refine a8 [(6,ii (z)),(1000000,.ow 0),(1000001,.ow 1),(1000002,.ow 2)] [.old 0 (mL L),.old 1 (rL R2),.oldM 2 (gR G)] ?_
       simp[go_sem]
   ·cases oa with
    |inl f=>
     refine⟨R1,.inl f,h1,trivial,?_⟩
     refine aP 3 68 [.tmp 6] Tryz.func188 rfl rfl rfl (by simp) (by decide) rfl fun X hX=>?_
     (repeat(refine a7 q8x0 hX mixed rfl ?_;simp[go_sem]));(repeat(first|(refine aD ?_ ?_;(focus(simp[go_sem];done));(repeat(refine a7 q8x0 hX mixed rfl ?_;simp[go_sem])))|(refine aA ?_ ?_;(focus(simp[go_sem];done));(repeat(refine a7 q8x0 hX mixed rfl ?_;simp[go_sem])))))
     refine aQ [0,1,2,3,4,5] (kA) (by simp[go_sem]) ?_
     (first|refine aX [(1000000,.ow 0),(1000001,.ow 1),(1000002,.ow 2)] [.old 0 (mL L),.old 1 (rL R1),.oldM 2 (gR G)] ?_|refine a8 [(1000000,.ow 0),(1000001,.ow 1),(1000002,.ow 2)] [.old 0 (mL L),.old 1 (rL R1),.oldM 2 (gR G)] ?_)
     simp[go_sem]
    |inr x=>
     by_cases hx:x=0
     ·cases ob with
      |inl f=>
       refine⟨R2,.inl f,h3,trivial,?_⟩
       refine aP 3 68 [.tmp 6] Tryz.func188 rfl rfl rfl (by simp) (by decide) rfl fun X hX=>?_
       (repeat(refine a7 q8x0 hX mixed rfl ?_;simp[go_sem]));(repeat(first|(refine aD ?_ ?_;(focus(simp[go_sem];done));(repeat(refine a7 q8x0 hX mixed rfl ?_;simp[go_sem])))|(refine aA ?_ ?_;(focus(simp[go_sem];done));(repeat(refine a7 q8x0 hX mixed rfl ?_;simp[go_sem])))))
       refine yH [0,1,2,3,4,5] kA ?_
       simp[go_sem]
       simp[go_sem,hx]
       refine jN [0,1,2,3,4,5] (by simp[go_sem]) (kB) (by simp[go_sem]) ?_
       (first|refine aX [(1000000,.ow 0),(1000001,.ow 1),(1000002,.ow 2)] [.old 0 (mL L),.old 1 (rL R2),.oldM 2 (gR G)] ?_|refine a8 [(1000000,.ow 0),(1000001,.ow 1),(1000002,.ow 2)] [.old 0 (mL L),.old 1 (rL R2),.oldM 2 (gR G)] ?_)
       simp[go_sem]
      |inr y=>
       have c1:=fK (!decide (y=0))
       refine⟨R2,.inr (if !decide (y=0)then 1 else 0),h3,mW _,?_⟩
       generalize(if !decide (y=0)then(1:Int)else 0)=z at*
       refine aP 3 68 [.tmp 6] Tryz.func188 rfl rfl rfl (by simp) (by decide) rfl fun X hX=>?_
       (repeat(refine a7 q8x0 hX mixed rfl ?_;simp[go_sem]));(repeat(first|(refine aD ?_ ?_;(focus(simp[go_sem];done));(repeat(refine a7 q8x0 hX mixed rfl ?_;simp[go_sem])))|(refine aA ?_ ?_;(focus(simp[go_sem];done));(repeat(refine a7 q8x0 hX mixed rfl ?_;simp[go_sem])))))
       refine yH [0,1,2,3,4,5] kA ?_
       simp[go_sem]
       simp[go_sem,hx]
       refine eH [0,1,2,3,4,5] (by simp[go_sem]) (kB) (by simp[go_sem]) ?_
       simp[go_sem,hx]
       refine aC c1 ?_
       simp[go_sem]
       refine aB ?_;simp only[thenQ,blkQ,loopQ];refine a8 [(6,ii (z)),(1000000,.ow 0),(1000001,.ow 1),(1000002,.ow 2)] [.old 0 (mL L),.old 1 (rL R2),.oldM 2 (gR G)] ?_
       simp[go_sem]
     ·have c1:=fK true
      refine⟨R1,.inr (if true then 1 else 0),h1,mW _,?_⟩
      generalize(if true then(1:Int)else 0)=z at*
      refine aP 3 68 [.tmp 6] Tryz.func188 rfl rfl rfl (by simp) (by decide) rfl fun X hX=>?_
      (repeat(refine a7 q8x0 hX mixed rfl ?_;simp[go_sem]));(repeat(first|(refine aD ?_ ?_;(focus(simp[go_sem];done));(repeat(refine a7 q8x0 hX mixed rfl ?_;simp[go_sem])))|(refine aA ?_ ?_;(focus(simp[go_sem];done));(repeat(refine a7 q8x0 hX mixed rfl ?_;simp[go_sem])))))
      refine yH [0,1,2,3,4,5] kA ?_
      simp[go_sem]
      simp[go_sem,hx]
      refine bT rfl ?_
      simp[go_sem,hx]
      refine aC c1 ?_
      simp[go_sem]
      refine aB ?_;simp only[thenQ,blkQ,loopQ];refine a8 [(6,ii (z)),(1000000,.ow 0),(1000001,.ow 1),(1000002,.ow 2)] [.old 0 (mL L),.old 1 (rL R1),.oldM 2 (gR G)] ?_
      simp[go_sem]
end Go.Proofs.YtdcidannegcaoaaGreatDoor

namespace Go.Proofs.YtdcidannegcaoaaGreatDoor
open Go.RowKit Go.Ab
attribute [local irreducible] AWP Go.Ab.Sub Means MeansH CallK CallG CallT CallGT PanicH DefH CallU
def small(n:Int):Option Int:=if 0≤n∧n≤1000000 then some n else none
def evD(G:List (By×Int)):E→Option Int
 | .num n _=>small n
 | .nam s=>(G.lookup s).bind small
 | .bin o a b=>match evD G a,evD G b with
   |some x,some y=>if o=4 then(if shareOf [] a=false∧shareOf [] b=false then small (x*y)else none)else if o=5 then(if 0<y then small (x/y)else none)else none
   |_,_=>none
 |_=>none
theorem dD{n v:Int}(h:small n=some v):v=n∧0≤n∧n≤1000000:=by
 unfold small at h
 split at h
 ·simp only[Option.some.injEq]at h
  exact⟨h.symm,by assumption⟩
 ·cases h
theorem vC{G:List (By×Int)}{e:E}{v:Int}(h:evD G e=some v):0≤v∧v≤1000000:=by
 cases e with
 |num n u=>obtain⟨rfl,hq⟩:=dD h;exact hq
 |nam s=>
  obtain⟨x,_,h⟩:=Option.bind_eq_some_iff.1 h
  obtain⟨rfl,hq⟩:=dD h;exact hq
 |un a=>cases h
 |ite a b c=>cases h
 |bin o a b=>
  simp only[evD]at h
  split at h
  ·split at h
   ·split at h
    ·obtain⟨rfl,hq⟩:=dD h;exact hq
    ·cases h
   ·split at h
    ·split at h
     ·obtain⟨rfl,hq⟩:=dD h;exact hq
     ·cases h
    ·cases h
  ·cases h
set_option maxRecDepth 20000 in
theorem qS(n:Int)(h:0≤n∧n≤1000000):Means true Tryz.prog 193 [ii n] (ii n):=by
 have h1:¬1099511627776<n:=by omega
 have h2:¬n< -1099511627776:=by omega
 refine yM true 12 [.tmp 2] [0,2,8] Tryz.func193 fun X hX=>?_
 (repeat(refine yA ?_;(simp[go_sem,h1,h2])));(repeat(refine aA ?_ ?_;(focus(simp[go_sem,h1,h2];done));(repeat(refine yA ?_;(simp[go_sem,h1,h2])))))
set_option maxRecDepth 20000 in
theorem xI(a b:Int)(ha:0≤a∧a≤1000000000000)(hb:0<b):Means true Tryz.prog 201 [ii a,ii b] (ii (a/b)):=by
 have n1:¬b=0:=by omega
 have n2:¬a<0:=by omega
 have n3:¬b<0:=by omega
 have hq:=td (a:=a) (b:=b) (by omega)
 have hdv:0≤a/b∧a/b≤a:=⟨Int.ediv_nonneg (by omega) (by omega),Int.ediv_le_self _ (by omega)⟩
 have w2:=w64 (x:=a/b) (by omega) (by omega)
 refine yM true 24 [.tmp 4] [0,1,4,5,20] Tryz.func201 fun X hX=>?_
 (repeat(refine yA ?_;(simp[go_sem,n1,n2,n3,hq,w2])));(repeat(refine aA ?_ ?_;(focus(simp[go_sem,n1,n2,n3,hq,w2];done));(repeat(refine yA ?_;(simp[go_sem,n1,n2,n3,hq,w2])))))
set_option maxRecDepth 20000 in
theorem zZ(a b:Int)(ha:0≤a∧a≤1000000)(hb:0≤b∧b≤1000000)(hab:a*b≤1000000):Means true Tryz.prog 200 [ii a,ii b,ii 1] (ii (a*b)):=by
 have hp:0≤a*b:=Int.mul_nonneg ha.1 hb.1
 have w1:=w64 (x:=a*b) (by omega) (by omega)
 have c1:=xI (a*b) 1 (by omega) (by decide)
 rw[Int.ediv_one]at c1
 have c2:=qS (a*b) (by omega)
 have w0:IntKind.i64.wrap 1099511627777=1099511627777:=by decide
 have w3:IntKind.i64.wrap (-1099511627777)= -1099511627777:=by decide
 have w4:=w64 (x:= -a) (by omega) (by omega)
 by_cases h0:a=0
 ·subst h0
  rw[Int.zero_mul]at c1 c2⊢
  have w1:IntKind.i64.wrap 0=0:=by decide
  refine yM true 41 [.tmp 6] [0,1,2,6,7,32] Tryz.func200 fun X hX=>?_
  (repeat(refine yA ?_;(simp[go_sem,w0,w1])));(repeat(refine aA ?_ ?_;(focus(simp[go_sem,w0,w1];done));(repeat(refine yA ?_;(simp[go_sem,w0,w1])))))
  refine aC c1 ?_
  simp[go_sem]
  refine aC c2 ?_
  simp[go_sem]
  (repeat(refine yA ?_;(simp[go_sem])))
 ·have hm:max a (-a)=a:=by omega
  have hq:=td (a:=1099511627777) (b:=a) (by omega)
  have hq2:Int.tdiv (-1099511627777) a= -(1099511627777/a):=by rw[Int.neg_tdiv,hq]
  have hge:1000000≤1099511627777/a:=by
   rw[Int.le_ediv_iff_mul_le (by omega)]
   omega
  have hle:1099511627777/a≤1099511627777:=Int.ediv_le_self _ (by omega)
  generalize 1099511627777/a=q at*
  have n1:¬q<b:=by omega
  have n2:¬b< -q:=by omega
  have w5:=w64 (x:=q) (by omega) (by omega)
  have w6:=w64 (x:= -q) (by omega) (by omega)
  refine yM true 41 [.tmp 6] [0,1,2,6,7,32] Tryz.func200 fun X hX=>?_
  (repeat(refine yA ?_;(simp[go_sem,w0,w1,w3,w4,h0,hm,hq,hq2,n1,n2,w5,w6])));(repeat(refine aA ?_ ?_;(focus(simp[go_sem,w0,w1,w3,w4,h0,hm,hq,hq2,n1,n2,w5,w6];done));(repeat(refine yA ?_;(simp[go_sem,w0,w1,w3,w4,h0,hm,hq,hq2,n1,n2,w5,w6])))))
  refine aC c1 ?_
  simp[go_sem]
  refine aC c2 ?_
  simp[go_sem]
  (repeat(refine yA ?_;(simp[go_sem])))
end Go.Proofs.YtdcidannegcaoaaGreatDoor

namespace Go.Proofs.YtdcidannegcaoaaGreatDoor
open Go.RowKit Go.Ab
attribute [local irreducible] AWP Go.Ab.Sub Means MeansH CallK CallG CallT CallGT PanicH DefH CallU
abbrev mR:Ob:=⟨251,3,[.agg [.sl [],.ow 1,.ow 2]]⟩
abbrev rR:Ob:=⟨275,3,[]⟩
abbrev MH(G:List (By×Int)):List Cell:=[.row mR,.row rR,.map (gR G)]
theorem FX(G:List (By×Int))(s:By)(v:Int)(h:G.lookup s=some v):MeansH Tryz.prog 194 (MH G) [.el 0 3 0 0,ss s,ii 0] (ii v) (MH G):=by
 have h1:(G.lookup s).isSome=true:=by rw[h];rfl
 have h2:(G.lookup s).getD 0=v:=by rw[h];rfl
 refine yN 3 89 [.tmp 6] [0,1,2,6,7,8,9,10,20,25,37,48,76,1000000,1000001,1000002] Tryz.func194 fun X hX=>?_
 (repeat(refine yB ?_;(simp[go_sem,h1,h2])));(repeat(refine aD ?_ ?_;(focus(simp[go_sem,h1,h2];done));(repeat(refine yB ?_;(simp[go_sem,h1,h2])))))
 refine aB ?_;simp only[thenQ,blkQ,loopQ];refine a8 [(6,ii v),(1000000,.ow 0),(1000001,.ow 1),(1000002,.ow 2)] [.old 0 mR,.old 1 rR,.oldM 2 (gR G)] ?_
 simp[go_sem]
theorem sJ:OkL []:=⟨by simp,by simp,by simp,fun i j hi=>by simp at hi⟩
set_option maxHeartbeats 4000000 in
set_option maxRecDepth 20000 in
theorem CR(G:List (By×Int))(o:Int)(a b:E)(x y v:Int)(ha:OkE a)(hb:OkE b)(hx:evD G a=some x)(hy:evD G b=some y)(h:evD G (.bin o a b)=some v):
  MeansH Tryz.prog 196 (MH G) [.el 0 3 0 0,ex (.bin o a b),ii x,ii y,ii 0] (ii v) (MH G):=by
 have bx:=vC hx
 have b_y:=vC hy
 simp only[evD,hx,hy]at h
 by_cases h4:o=4
 ·subst h4
  simp only[if_true]at h
  split at h
  ·rename_i hs
   have c1:=lI [] a sJ ha
   have c2:=lI [] b sJ hb
   rw[hs.1]at c1
   rw[hs.2]at c2
   simp only[List.map_nil]at c1 c2
   obtain⟨rfl,hv⟩:=dD h
   have c3:=zZ x y bx b_y hv.2
   refine yN 3 87 [.tmp 10] [0,1,2,3,4,6,10,12,13,19,25,50,57,60,67,72,77,1000000,1000001,1000002] Tryz.func196 fun X hX=>?_
   (repeat(refine yB ?_;(simp[go_sem])));(repeat(first|(refine aD ?_ ?_;(focus(simp[go_sem];done));(repeat(refine yB ?_;(simp[go_sem]))))|(refine aA ?_ ?_;(focus(simp[go_sem];done));(repeat(refine yB ?_;(simp[go_sem]))))))
   refine fB c1 ?_
   simp[go_sem]
   refine eI (fun hg=>c2) ?_
   (simp[go_sem];try(refine⟨by kernel_rfl,?_⟩))
   refine aA (by simp[go_sem]) ?_
   (repeat(refine yB ?_;(simp[go_sem])))
   refine aC c3 ?_
   simp[go_sem]
   refine aB ?_;simp only[thenQ,blkQ,loopQ];refine a8 [(10,ii (x*y)),(1000000,.ow 0),(1000001,.ow 1),(1000002,.ow 2)] [.old 0 mR,.old 1 rR,.oldM 2 (gR G)] ?_
   simp[go_sem]
  ·cases h
 ·rw[if_neg h4]at h
  split at h
  ·rename_i h5
   subst h5
   split at h
   ·rename_i hp
    obtain⟨rfl,hv⟩:=dD h
    have n0:¬y=0:=by omega
    have c1:=xI x y (by omega) hp
    have c2:=qS (x/y) hv
    refine yN 3 87 [.tmp 10] [0,1,2,3,4,6,10,12,13,19,25,50,57,60,67,72,77,1000000,1000001,1000002] Tryz.func196 fun X hX=>?_
    (repeat(refine yB ?_;(simp[go_sem,n0])));(repeat(first|(refine aD ?_ ?_;(focus(simp[go_sem,n0];done));(repeat(refine yB ?_;(simp[go_sem,n0]))))|(refine aA ?_ ?_;(focus(simp[go_sem,n0];done));(repeat(refine yB ?_;(simp[go_sem,n0]))))))
    refine aC c1 ?_
    simp[go_sem]
    refine aC c2 ?_
    simp[go_sem]
    refine aB ?_;simp only[thenQ,blkQ,loopQ];refine a8 [(10,ii (x/y)),(1000000,.ow 0),(1000001,.ow 1),(1000002,.ow 2)] [.old 0 mR,.old 1 rR,.oldM 2 (gR G)] ?_
    simp[go_sem]
   ·cases h
  ·cases h
abbrev VH(G:List (By×Int))(e:E):List Cell:=[.row mR,.row rR,.map (gR G),.row ⟨248,1,[.el 0 3 0 0]⟩,.row ⟨32,5,[ex e]⟩,.row ⟨3,1,[ii 0]⟩]
set_option maxHeartbeats 4000000 in
set_option maxRecDepth 20000 in
theorem JZ(G:List (By×Int))(N:Nat)(ih:∀x v,OkE x→x.lev≤N→evD G x=some v→MeansH Tryz.prog 188 (MH G) [.el 0 3 0 0,ex x,ii 0] (ii v) (MH G))(e:E)(v:Int)(he:OkE e)(hl:e.lev≤N+1)(hv:evD G e=some v):
  MeansH Tryz.prog 188 (MH G) [.el 0 3 0 0,ex e,ii 0] (ii v) (MH G):=by
 cases e with
 |num n u=>
  obtain⟨rfl,h⟩:=dD hv
  have c1:=qS v h
  refine yN 3 68 [.tmp 6] [0,1,2,3,4,5,6,7,10,11,16,23,34,45,51,55,1000000,1000001,1000002] Tryz.func188 fun X hX=>?_
  (repeat(refine yB ?_;(simp[go_sem])));(repeat(refine aD ?_ ?_;(focus(simp[go_sem];done));(repeat(refine yB ?_;(simp[go_sem])))))
  refine aC c1 ?_
  simp[go_sem]
  refine aB ?_;simp only[thenQ,blkQ,loopQ];refine a8 [(6,ii v),(1000000,.ow 0),(1000001,.ow 1),(1000002,.ow 2)] [.old 0 mR,.old 1 rR,.oldM 2 (gR G)] ?_
  simp[go_sem]
 |nam s=>
  obtain⟨x,hx,h⟩:=Option.bind_eq_some_iff.1 hv
  obtain⟨rfl,h⟩:=dD h
  have c1:=FX G s v hx
  refine yN 3 68 [.tmp 6] [0,1,2,3,4,5,6,7,10,11,16,23,34,45,51,55,1000000,1000001,1000002] Tryz.func188 fun X hX=>?_
  (repeat(refine yB ?_;(simp[go_sem])));(repeat(first|(refine aD ?_ ?_;(focus(simp[go_sem];done));(repeat(refine yB ?_;(simp[go_sem]))))|(refine aA ?_ ?_;(focus(simp[go_sem];done));(repeat(refine yB ?_;(simp[go_sem]))))))
  refine yH [0,1,2] c1 ?_
  simp[go_sem]
  refine aB ?_;simp only[thenQ,blkQ,loopQ];refine a8 [(6,ii v),(1000000,.ow 0),(1000001,.ow 1),(1000002,.ow 2)] [.old 0 mR,.old 1 rR,.oldM 2 (gR G)] ?_
  simp[go_sem]
 |un a=>cases hv
 |ite a b c=>cases hv
 |bin o a b=>
  have oka:OkE a:=⟨he.1.2.1,by have:=he.2;simp only[E.lev]at this;omega⟩
  have okb:OkE b:=⟨he.1.2.2,by have:=he.2;simp only[E.lev]at this;omega⟩
  obtain⟨x,y,hx,hy⟩:∃x y,evD G a=some x∧evD G b=some y:=by
   simp only[evD]at hv
   split at hv
   ·rename_i x y h1 h2;exact⟨x,y,h1,h2⟩
   ·cases hv
  have cA:=ih a x oka (by simp only[E.lev]at hl;omega) hx
  have cB:=ih b y okb (by simp only[E.lev]at hl;omega) hy
  have c3:=CR G o a b x y v oka okb hx hy hv
  have kA:MeansH Tryz.prog 192 (VH G (.bin o a b)) [ii 0,.el 3 1 0 0,.el 4 5 0 0,.el 5 1 0 0] (ii x) (VH G (.bin o a b)):=by
   refine yN 6 14 [.tmp 5] [0,1,2,3,5,1000000,1000001,1000002,1000003,1000004,1000005] Tryz.func192 fun X hX=>?_
   (repeat(refine yB ?_;(simp[go_sem])))
   refine bN [0,1,2] (cA) (by simp[go_sem]) ?_
   (simp[go_sem];try(refine⟨by kernel_rfl,?_⟩))
   refine aB ?_;refine a8 [(5,ii x),(1000000,.ow 0),(1000001,.ow 1),(1000002,.ow 2),(1000003,.ow 3),(1000004,.ow 4),(1000005,.ow 5)] [.old 0 mR,.old 1 rR,.oldM 2 (gR G),.old 3 ⟨248,1,[.el 0 3 0 0]⟩,.old 4 ⟨32,5,[ex (.bin o a b)]⟩,.old 5 ⟨3,1,[ii 0]⟩] ?_
   simp[go_sem]
  have kB:MeansH Tryz.prog 192 (VH G (.bin o a b)) [ii 1,.el 3 1 0 0,.el 4 5 0 0,.el 5 1 0 0] (ii y) (VH G (.bin o a b)):=by
   refine yN 6 14 [.tmp 5] [0,1,2,3,5,1000000,1000001,1000002,1000003,1000004,1000005] Tryz.func192 fun X hX=>?_
   (repeat(refine yB ?_;(simp[go_sem])))
   refine bN [0,1,2] (cB) (by simp[go_sem]) ?_
   (simp[go_sem];try(refine⟨by kernel_rfl,?_⟩))
   refine aB ?_;refine a8 [(5,ii y),(1000000,.ow 0),(1000001,.ow 1),(1000002,.ow 2),(1000003,.ow 3),(1000004,.ow 4),(1000005,.ow 5)] [.old 0 mR,.old 1 rR,.oldM 2 (gR G),.old 3 ⟨248,1,[.el 0 3 0 0]⟩,.old 4 ⟨32,5,[ex (.bin o a b)]⟩,.old 5 ⟨3,1,[ii 0]⟩] ?_
   simp[go_sem]
  have ho:o=4∨o=5:=by
   simp only[evD,hx,hy]at hv
   split at hv
   ·exact .inl (by assumption)
   ·split at hv
    ·exact .inr (by assumption)
    ·cases hv
  clear he hl hv
  rcases ho with rfl|rfl
  all_goals
   refine yN 3 68 [.tmp 6] [0,1,2,3,4,5,6,7,10,11,16,23,34,45,51,55,1000000,1000001,1000002] Tryz.func188 fun X hX=>?_
   (repeat(refine yB ?_;(simp[go_sem])));(repeat(refine aA ?_ ?_;(focus(simp[go_sem];done));(repeat(refine yB ?_;(simp[go_sem])))))
   refine bN [0,1,2,3,4,5] (kA) (by simp[go_sem]) ?_
   simp[go_sem]
   refine bN [0,1,2,3,4,5] (kB) (by simp[go_sem]) ?_
   simp[go_sem]
   refine bN [0,1,2] (c3) (by simp[go_sem]) ?_
   (simp[go_sem];try(refine⟨by kernel_rfl,?_⟩))
   refine aB ?_;refine a8 [(6,ii v),(1000000,.ow 0),(1000001,.ow 1),(1000002,.ow 2)] [.old 0 mR,.old 1 rR,.oldM 2 (gR G)] ?_
   simp[go_sem]
theorem HK(G:List (By×Int)):∀(N:Nat) (e:E) (v:Int),OkE e→e.lev≤N→evD G e=some v→MeansH Tryz.prog 188 (MH G) [.el 0 3 0 0,ex e,ii 0] (ii v) (MH G)
 |0,e,v,_,h,_=>by cases e<;>simp[E.lev]at h
 |N+1,e,v,he,hl,hv=>JZ G N (fun x w=>HK G N x w) e v he hl hv
end Go.Proofs.YtdcidannegcaoaaGreatDoor

