/-
  Lemmas for the statement at the top.
-/
import Derived.Test.YtllgjognpobnpaaGreatDoorGP6
import Derived.Test.YtllgjognpobnpaaGreatDoorGP7
set_option linter.all false
namespace Go.Ab
def q17x0:List Nat:=[0,2,3,4,5,6,7,10,26,30,34,42,68,1000000]
def q17x1:List Nat:=[0,1,4,5,6,7,13,35,1000000]
def q17x2:List Nat:=[0,1,2,4,5,6,7,8,19,43,1000000]
def q17x3:List Nat:=[0,2,3,4,8,14,1000000]
def q17x4:List Nat:=[0,1,2,3,4,10,11,15,1000000,1000001]
def q17x5:List Nat:=[0,1,5,6,7,8,9,1000000,1000001]
def q17x6:List Nat:=[0,2,3,6,9,1000000]
def q17x7:List Nat:=[0,2,3,6,1000000]
def q17x8:List Nat:=[0,1,2,6,7,1000000]
attribute [go_sem] q17x0 q17x1 q17x2 q17x3 q17x4 q17x5 q17x6 q17x7 q17x8
end Go.Ab
namespace Go.Proofs.YtllgjognpobnpaaGreatDoor
open Go.RowKit Go.Ab
attribute [local irreducible] AWP Go.Ab.Sub Means MeansH CallK CallG CallT CallGT PanicH
theorem gP{ts:List Tk}(hn:OkT ts){i:Nat}(hi:i<ts.length):MeansH Tryz.prog 63 [pst ts i] [pp] (tk (nx ts i)) [pst ts i]:=by
 have hq:=HB hi
 have hl:=hn.len
 have hi2:(i:Int)<ts.length:=by omega
 refine yN 1 13 [.cell 2 153] [0,2,1000000] Tryz.func63 fun X hX=>?_
 (repeat(refine yB ?_;(simp[go_sem,hq,hi,hi2];try(refine⟨by kernel_rfl,?_⟩))))
 refine aB ?_;refine aA [(1000000,.ow 0)] [.old 0 ⟨143,2,[.agg [.sl (ts.map tk),ii i]]⟩] ?_
 simp[go_sem]
theorem rY{ts:List Tk}(hn:OkT ts){i:Nat}(hi:i<ts.length)(s:By):MeansH Tryz.prog 60 [pst ts i] [pp,ss s] (bb (isT ts s i)) [pst ts i]:=by
 have c:=gP hn hi
 refine yN 1 16 [.tmp 4] [0,1,4,1000000] Tryz.func60 fun X hX=>?_
 (repeat(refine yB ?_;(simp[go_sem])))
 refine yH [0] c ?_
 simp[go_sem]
 refine aW [0] (fun hg=>c) (by simp[go_sem]) (by simp[go_sem]) ?_
 simp[go_sem]
 refine aB ?_;refine aA [(4,bb (isT ts s i)),(1000000,.ow 0)] [.old 0 ⟨143,2,[.agg [.sl (ts.map tk),ii i]]⟩] ?_
 simp[go_sem,isT]
theorem dX{ts:List Tk}(hn:OkT ts){i:Nat}(hi:i<ts.length)(s:By):MeansH Tryz.prog 111 [pst ts i] [pp,ss s] (bb (isT ts s i)) [pst ts (hasT ts s i)]:=by
 have c:=rY hn hi s
 have hl:=hn.len
 have wk:=w64 (x:=(i:Int)+1) (by omega) (by omega)
 refine yN 1 16 [.tmp 4] [0,1,4,8,1000000] Tryz.func111 fun X hX=>?_
 (repeat(refine yB ?_;(simp[go_sem])))
 refine yH [0] c ?_
 simp[go_sem]
 cases hs:isT ts s i with
 |false=>
  refine yT ?_ (by simp[go_sem,hs])
  (repeat(refine yB ?_;(simp[go_sem])))
  refine aB ?_;simp only[thenQ,blkQ,loopQ];refine aA [(4,bb false),(1000000,.ow 0)] [.old 0 ⟨143,2,[.agg [.sl (ts.map tk),ii i]]⟩] ?_
  simp[go_sem,hasT,hs]
 |true=>
  refine yF ?_ (by simp[go_sem,hs])
  (repeat(refine yB ?_;(simp[go_sem,wk])))
  refine aB ?_;refine aA [(4,bb true),(1000000,.ow 0)] [.old 0 ⟨143,2,[.agg [.sl (ts.map tk),ii (i+1)]]⟩] ?_
  simp[go_sem,hasT,hs]
theorem eM{ts:List Tk}(hn:OkT ts){i:Nat}(hi:i<ts.length)(e:Int):MeansH Tryz.prog 59 [pst ts i] [pp,bb true,ii e] (.tup []) [pst ts i]:=by
 refine yN 1 14 [] [0,1,2,7,1000000] Tryz.func59 fun X hX=>?_
 (repeat(refine yB ?_;(simp[go_sem])))
 refine yF ?_
 (repeat(refine yB ?_;(simp[go_sem])))
 refine cC [(1000000,.ow 0)] [.old 0 ⟨143,2,[.agg [.sl (ts.map tk),ii i]]⟩] ?_
 simp[go_sem]
theorem eP{ts:List Tk}(hn:OkT ts){i:Nat}(hi:i<ts.length)(e:Int):PanicH Tryz.prog 59 [pst ts i] [pp,bb false,ii e] (stopV (nx ts i).pos e):=by
 have c:=gP hn hi
 refine yD 1 14 Tryz.func59 rfl rfl (by simp) (by decide) rfl fun X hX=>?_
 (repeat(refine a7 [0,1,2,7,1000000] hX mixed rfl ?_;simp[go_sem]))
 refine yT ?_
 (repeat(refine a7 [0,1,2,7,1000000] hX mixed rfl ?_;simp[go_sem]))
 refine yH [0] c ?_
 simp[go_sem]
theorem fJ{ts:List Tk}(hn:OkT ts){i:Nat}(hi:i<ts.length)(e:Int){b:Bool}(hb:b=true):MeansH Tryz.prog 59 [pst ts i] [pp,bb b,ii e] (.tup []) [pst ts i]:=by subst hb;exact eM hn hi e
theorem fK{ts:List Tk}(hn:OkT ts){i:Nat}(hi:i<ts.length)(e:Int){b:Bool}(hb:b=false):PanicH Tryz.prog 59 [pst ts i] [pp,bb b,ii e] (stopV (nx ts i).pos e):=by subst hb;exact eP hn hi e
end Go.Proofs.YtllgjognpobnpaaGreatDoor

namespace Go.Proofs.YtllgjognpobnpaaGreatDoor
open Go.RowKit Go.Ab
attribute [local irreducible] AWP Go.Ab.Sub Means MeansH CallK CallG CallT CallGT PanicH
theorem u0{ts:List Tk}{l:List By}{n j:Nat}(h:n<l.length):wantT ts (l.drop n) j=if isT ts l[n] j then wantT ts (l.drop (n+1)) (j+1)else .no (nx ts j).pos 12:=by
 rw[List.drop_eq_getElem_cons h];rfl
set_option maxHeartbeats 4000000 in
theorem cS{ts:List Tk}(hn:OkT ts){i:Nat}(hi:i<ts.length)(l:List By)(hl:l.length≤100):
  OutH Tryz.prog 67 [pst ts i,.row ⟨9,1,l.map ss⟩] [pp,.ow 1] (outP (wantT ts l i) (fun _=>.tup []) ts [.row ⟨9,1,l.map ss⟩]):=by
 have hlen:=hn.len
 refine cN 2 18 [] Tryz.func67 rfl rfl rfl (by simp) (by decide) rfl fun X hX=>?_
 (repeat(refine a7 q17x5 hX mixed rfl ?_;simp[go_sem]))
 refine aG (fun n:Nat=>⟨mkE [(0,pp),(6,.ow 1),(7,ii l.length),(8,ii n),(1000000,.ow 0),(1000001,.ow 1)],[pst ts (i+n),.row ⟨9,1,l.map ss⟩]⟩) (fun n=>n≤l.length∧i+n<ts.length∧wantT ts l i=wantT ts (l.drop n) (i+n)) (fun n=>l.length-n) 0 ?_ ?_ ?_
 ·refine yS _ [.old 0 ⟨143,2,[.agg [.sl (ts.map tk),ii (i)]]⟩,.old 1 ⟨9,1,l.map ss⟩] ?_
  simp[go_sem]
 ·exact⟨Nat.zero_le _,hi,by simp⟩
 ·rintro n ⟨h1,h2,h3⟩
  (repeat(refine a7 q17x5 hX mixed rfl ?_;simp[go_sem]))
  refine yC (decide (n<l.length)) (fun hc=>?_) fun hc=>?_
  ·simp at hc
   have hq:nth (l.map ss) n=ss l[n]:=u3 hc
   have hd:=u0 (ts:=ts) (j:=i+n) hc
   have wk:=w64 (x:=(n:Int)+1) (by omega) (by omega)
   have c1:=dX hn h2 l[n]
   (repeat(refine a7 q17x5 hX mixed rfl ?_;simp[go_sem,hc,hq]))
   refine yH [0] c1 ?_
   simp[go_sem]
   cases hs:isT ts l[n] (i+n)with
   |true=>
    have eh:hasT ts l[n] (i+n)=i+n+1:=by simp[hasT,hs]
    rw[eh]
    have h4:=hn.has h2 hs
    have c2:=eM hn h4 12
    refine yH [0] c2 ?_
    simp[go_sem]
    (repeat(refine a7 q17x5 hX mixed rfl ?_;simp[go_sem,wk]))
    refine⟨n+1,⟨by omega,by omega,?_⟩,by omega,?_⟩
    ·rw[h3,hd,if_pos hs];rfl
    ·refine yS _ [.old 0 ⟨143,2,[.agg [.sl (ts.map tk),ii ((i+(n+1):Nat))]]⟩,.old 1 ⟨9,1,l.map ss⟩] ?_ (by simp[go_sem,Int.add_assoc])
     simp[go_sem]
   |false=>
    have eh:hasT ts l[n] (i+n)=i+n:=by simp[hasT,hs]
    rw[eh]
    have c2:=eP hn h2 12
    refine aF [0] (c2) (by simp[go_sem]) ?_
    rw[h3,hd,hs]
    simp[go_sem]
  ·simp at hc
   have e:n=l.length:=by omega
   have e2:wantT ts l i=.ok () (i+n):=by rw[h3,e,List.drop_length];rfl
   rw[e2,aY]
   (repeat(refine a7 q17x5 hX mixed rfl ?_;simp[go_sem]))
   refine cC [(1000000,.ow 0),(1000001,.ow 1)] [.old 0 ⟨143,2,[.agg [.sl (ts.map tk),ii (i+n)]]⟩,.old 1 ⟨9,1,l.map ss⟩] ?_
   simp[go_sem]
set_option maxHeartbeats 4000000 in
theorem B3{ts:List Tk}(hn:OkT ts){i:Nat}(hi:i<ts.length)(a b:Int):
  OutH Tryz.prog 112 [pst ts i] [pp,ii a,ii b] (outP (numberT ts a b i) ii ts []):=by
 have hlen:=hn.len
 have c1:=gP hn hi
 have wk:=w64 (x:=(i:Int)+1) (by omega) (by omega)
 refine cN 1 36 [.tmp 6] Tryz.func112 rfl rfl rfl (by simp) (by decide) rfl fun X hX=>?_
 (repeat(refine a7 q17x8 hX mixed rfl ?_;simp[go_sem]))
 refine yH [0] c1 ?_
 simp[go_sem]
 (repeat(refine a7 q17x8 hX mixed rfl ?_;simp[go_sem]))
 by_cases hk:(nx ts i).kind=2
 ·have c2:=fJ hn hi 12 (b:=decide ((nx ts i).kind=2)) (by simp[hk])
  refine yH [0] c2 ?_
  simp[go_sem]
  (repeat(refine a7 q17x8 hX mixed rfl ?_;simp[go_sem]))
  by_cases hr:a≤(nx ts i).n∧(nx ts i).n≤b
  ·have c3:=fJ hn hi 3 (b:=decide (a≤(nx ts i).n)&&decide ((nx ts i).n≤b)) (by simp[hr])
   refine yH [0] c3 ?_
   simp[go_sem]
   (repeat(refine a7 q17x8 hX mixed rfl ?_;simp[go_sem,wk]))
   have e:numberT ts a b i=.ok (nx ts i).n (i+1):=by rw[numberT,if_pos hk,if_pos hr]
   rw[e,aY]
   refine aB ?_;refine aA [(6,ii (nx ts i).n),(1000000,.ow 0)] [.old 0 ⟨143,2,[.agg [.sl (ts.map tk),ii ((i+1:Nat))]]⟩] ?_
   simp[go_sem]
  ·have c3:=fK hn hi 3 (b:=decide (a≤(nx ts i).n)&&decide ((nx ts i).n≤b)) (by simp;omega)
   refine aF [0] (c3) (by simp[go_sem]) ?_
   have e:numberT ts a b i=.no (nx ts i).pos 3:=by rw[numberT,if_pos hk,if_neg hr]
   rw[e]
   simp[go_sem]
 ·have c2:=fK hn hi 12 (b:=decide ((nx ts i).kind=2)) (by simp[hk])
  refine aF [0] (c2) (by simp[go_sem]) ?_
  have e:numberT ts a b i=.no (nx ts i).pos 12:=by rw[numberT,if_neg hk]
  rw[e]
  simp[go_sem]
set_option maxHeartbeats 4000000 in
theorem g6{ts:List Tk}(hn:OkT ts){i:Nat}(hi:i<ts.length)(word:By)(a b:Int)(l:List By)(hl:l.length≤100):
  OutH Tryz.prog 61 [pst ts i,.row ⟨9,1,l.map ss⟩] [pp,ss word,ii a,ii b,.ow 1] (outP (partT ts word a b l i) ii ts [.row ⟨9,1,l.map ss⟩]):=by
 have hlen:=hn.len
 have c1:=dX hn hi word
 refine cN 2 24 [.tmp 10] Tryz.func61 rfl rfl rfl (by simp) (by decide) rfl fun X hX=>?_
 (repeat(refine a7 q17x4 hX mixed rfl ?_;simp[go_sem]))
 refine yH [0] c1 ?_
 simp[go_sem]
 cases hs:isT ts word i with
 |false=>
  have e:partT ts word a b l i=.ok 0 i:=by rw[partT,hs];rfl
  have eh:hasT ts word i=i:=by simp[hasT,hs]
  rw[e,aY,eh]
  refine yT ?_
  (repeat(refine a7 q17x4 hX mixed rfl ?_;simp[go_sem]))
  refine aB ?_;simp only[thenQ,blkQ,loopQ];refine aA [(10,ii 0),(1000000,.ow 0),(1000001,.ow 1)] [.old 0 ⟨143,2,[.agg [.sl (ts.map tk),ii (i)]]⟩,.old 1 ⟨9,1,l.map ss⟩] ?_
  simp[go_sem]
 |true=>
  have hi1:=hn.has hi hs
  have eh:hasT ts word i=i+1:=by simp[hasT,hs]
  have e0:partT ts word a b l i=(numberT ts a b (i+1)).bind fun n j=>(wantT ts l j).bind fun _ k=>.ok n k:=by rw[partT,hs];rfl
  rw[e0,eh]
  have c2:=B3 hn hi1 a b
  refine yF ?_
  (repeat(refine a7 q17x4 hX mixed rfl ?_;simp[go_sem]))
  cases hnum:numberT ts a b (i+1)with
  |no p e=>
   refine aF [0] (aL c2 hnum) (by simp[go_sem]) ?_
   simp[go_sem,Pr.bind_no]
  |ok n j=>
   rw[Pr.bind_ok]
   have hj:=(m9 hn hi1 hnum).2.1
   refine yH [0] (aM c2 hnum) ?_
   simp[go_sem]
   (repeat(refine a7 q17x4 hX mixed rfl ?_;simp[go_sem]))
   have c3:=cS hn hj l hl
   cases hw:wantT ts l j with
   |no p e=>
    refine aF [0,1] (aL c3 hw) (by simp[go_sem]) ?_
    simp[go_sem,Pr.bind_no]
   |ok u k=>
    rw[Pr.bind_ok,aY]
    refine yH [0,1] (aM c3 hw) ?_
    simp[go_sem]
    (repeat(refine a7 q17x4 hX mixed rfl ?_;simp[go_sem]))
    refine aB ?_;refine aA [(10,ii n),(1000000,.ow 0),(1000001,.ow 1)] [.old 0 ⟨143,2,[.agg [.sl (ts.map tk),ii (k)]]⟩,.old 1 ⟨9,1,l.map ss⟩] ?_
    simp[go_sem]
set_option maxHeartbeats 4000000 in
theorem HC{ts:List Tk}(hn:OkT ts){i:Nat}(hi:i<ts.length):
  OutH Tryz.prog 195 [pst ts i] [pp] (outP (unitT ts i) ii ts []):=by
 have hlen:=hn.len
 have c1:=dX hn hi [99,111,105,110,115]
 have c2:=dX hn hi [100,97,121,115]
 have c3:=dX hn hi [112,101,114]
 refine cN 1 15 [.tmp 2] Tryz.func195 rfl rfl rfl (by simp) (by decide) rfl fun X hX=>?_
 (repeat(refine a7 q17x6 hX mixed rfl ?_;simp[go_sem]))
 refine yH [0] c1 ?_
 simp[go_sem]
 cases h1:isT ts [99,111,105,110,115] i with
 |true=>
  have e:unitT ts i=.ok 3 (i+1):=by rw[unitT,h1];rfl
  have eh:hasT ts [99,111,105,110,115] i=i+1:=by simp[hasT,h1]
  rw[e,aY,eh]
  refine yT ?_
  (repeat(refine a7 q17x6 hX mixed rfl ?_;simp[go_sem]))
  refine aB ?_;simp only[thenQ,blkQ,loopQ];refine aA [(2,ii 3),(1000000,.ow 0)] [.old 0 ⟨143,2,[.agg [.sl (ts.map tk),ii ((i+1:Nat))]]⟩] ?_
  simp[go_sem]
 |false=>
  have eh:hasT ts [99,111,105,110,115] i=i:=by simp[hasT,h1]
  rw[eh]
  refine yF ?_
  (repeat(refine a7 q17x6 hX mixed rfl ?_;simp[go_sem]))
  refine yH [0] c2 ?_
  simp[go_sem]
  cases h2:isT ts [100,97,121,115] i with
  |true=>
   have e:unitT ts i=.ok 2 (i+1):=by rw[unitT,h1,h2];rfl
   have eh:hasT ts [100,97,121,115] i=i+1:=by simp[hasT,h2]
   rw[e,aY,eh]
   refine yT ?_
   (repeat(refine a7 q17x6 hX mixed rfl ?_;simp[go_sem]))
   refine aB ?_;simp only[thenQ,blkQ,loopQ];refine aA [(2,ii 2),(1000000,.ow 0)] [.old 0 ⟨143,2,[.agg [.sl (ts.map tk),ii ((i+1:Nat))]]⟩] ?_
   simp[go_sem]
  |false=>
   have eh:hasT ts [100,97,121,115] i=i:=by simp[hasT,h2]
   rw[eh]
   refine yF ?_
   (repeat(refine a7 q17x6 hX mixed rfl ?_;simp[go_sem]))
   refine yH [0] c3 ?_
   simp[go_sem]
   cases h3:isT ts [112,101,114] i with
   |false=>
    have e:unitT ts i=.ok 1 i:=by rw[unitT,h1,h2,h3];rfl
    have eh:hasT ts [112,101,114] i=i:=by simp[hasT,h3]
    rw[e,aY,eh]
    refine yF ?_
    (repeat(refine a7 q17x6 hX mixed rfl ?_;simp[go_sem]))
    refine aB ?_;refine aA [(2,ii 1),(1000000,.ow 0)] [.old 0 ⟨143,2,[.agg [.sl (ts.map tk),ii (i)]]⟩] ?_
    simp[go_sem]
   |true=>
    have hi1:=hn.has hi h3
    have eh:hasT ts [112,101,114] i=i+1:=by simp[hasT,h3]
    have e0:unitT ts i=(wantT ts [[109,105,108,108,101]] (i+1)).bind fun _ j=>.ok 4 j:=by rw[unitT,h1,h2,h3];rfl
    have c4:=cS hn hi1 [[109,105,108,108,101]] (by simp)
    rw[e0,eh]
    refine yT ?_
    (repeat(refine a7 q17x6 hX mixed rfl ?_;simp[go_sem]))
    cases hw:wantT ts [[109,105,108,108,101]] (i+1)with
    |no p e=>
     refine aF [0,1] (aL c4 hw) (by simp[go_sem]) ?_
     simp[go_sem,Pr.bind_no]
    |ok u k=>
     rw[Pr.bind_ok,aY]
     refine yH [0,1] (aM c4 hw) ?_
     simp[go_sem]
     (repeat(refine a7 q17x6 hX mixed rfl ?_;simp[go_sem]))
     refine aB ?_;simp only[thenQ,blkQ,loopQ];refine aA [(2,ii 4),(1000000,.ow 0)] [.old 0 ⟨143,2,[.agg [.sl (ts.map tk),ii (k)]]⟩] ?_
     simp[go_sem]
end Go.Proofs.YtllgjognpobnpaaGreatDoor

namespace Go.Proofs.YtllgjognpobnpaaGreatDoor
open Go.RowKit Go.Ab
attribute [local irreducible] AWP Go.Ab.Sub Means MeansH CallK CallG CallT CallGT PanicH
set_option maxHeartbeats 4000000 in
theorem HD{ts:List Tk}(hn:OkT ts){i:Nat}(hi:i<ts.length):
  OutH Tryz.prog 58 [pst ts i] [pp] (outP (kindT ts i) (fun x=>.tup [ii x.1,bb x.2]) ts []):=by
 have hlen:=hn.len
 have c1:=cS hn hi [[99,105,114,99,108,101]] (by simp)
 refine cN 1 29 [.tmp 2,.tmp 3] Tryz.func58 rfl rfl rfl (by simp) (by decide) rfl fun X hX=>?_
 (repeat(refine a7 q17x3 hX mixed rfl ?_;simp[go_sem]))
 unfold kindT
 cases w1:wantT ts [[99,105,114,99,108,101]] i with
 |no p e=>
  refine aF [0,1] (aL c1 w1) (by simp[go_sem]) ?_
  simp[go_sem,Pr.bind_no]
 |ok u i1=>
  rw[Pr.bind_ok]
  refine yH [0,1] (aM c1 w1) ?_
  simp[go_sem]
  have h1:=(bD hn hi w1).2
  have c2:=dX hn h1 [114,111,116,97,116,105,110,103]
  have c3:=dX hn h1 [115,97,118,105,110,103]
  (repeat(refine a7 q17x3 hX mixed rfl ?_;simp[go_sem]))
  refine yH [0] c2 ?_
  simp[go_sem]
  cases s1:isT ts [114,111,116,97,116,105,110,103] i1 with
  |true=>
   have eh:hasT ts [114,111,116,97,116,105,110,103] i1=i1+1:=by simp[hasT,s1]
   rw[eh,if_pos rfl]
   have c4:=cS hn (hn.has h1 s1) [[59]] (by simp)
   refine yT ?_
   (repeat(refine a7 q17x3 hX mixed rfl ?_;simp[go_sem]))
   cases w2:wantT ts [[59]] (i1+1)with
   |no p e=>
    refine aF [0,2] (aL c4 w2) (by simp[go_sem]) ?_
    simp[go_sem,Pr.bind_no]
   |ok u i2=>
    rw[Pr.bind_ok,aY]
    refine yH [0,2] (aM c4 w2) ?_
    simp[go_sem]
    (repeat(refine a7 q17x3 hX mixed rfl ?_;simp[go_sem]))
    refine aB ?_;simp only[thenQ,blkQ,loopQ];refine aA [(2,ii 0),(3,bb false),(1000000,.ow 0)] [.old 0 ⟨143,2,[.agg [.sl (ts.map tk),ii (i2)]]⟩] ?_
    simp[go_sem]
  |false=>
   have eh:hasT ts [114,111,116,97,116,105,110,103] i1=i1:=by simp[hasT,s1]
   rw[eh,if_neg (by simp)]
   refine yF ?_
   (repeat(refine a7 q17x3 hX mixed rfl ?_;simp[go_sem]))
   refine yH [0] c3 ?_
   simp[go_sem]
   cases s2:isT ts [115,97,118,105,110,103] i1 with
   |true=>
    have eh:hasT ts [115,97,118,105,110,103] i1=i1+1:=by simp[hasT,s2]
    rw[eh,if_pos rfl]
    have c4:=cS hn (hn.has h1 s2) [[59]] (by simp)
    refine yT ?_
    (repeat(refine a7 q17x3 hX mixed rfl ?_;simp[go_sem]))
    cases w2:wantT ts [[59]] (i1+1)with
    |no p e=>
     refine aF [0,2] (aL c4 w2) (by simp[go_sem]) ?_
     simp[go_sem,Pr.bind_no]
    |ok u i2=>
     rw[Pr.bind_ok,aY]
     refine yH [0,2] (aM c4 w2) ?_
     simp[go_sem]
     (repeat(refine a7 q17x3 hX mixed rfl ?_;simp[go_sem]))
     refine aB ?_;simp only[thenQ,blkQ,loopQ];refine aA [(2,ii 2),(3,bb false),(1000000,.ow 0)] [.old 0 ⟨143,2,[.agg [.sl (ts.map tk),ii (i2)]]⟩] ?_
     simp[go_sem]
   |false=>
    have eh:hasT ts [115,97,118,105,110,103] i1=i1:=by simp[hasT,s2]
    rw[eh,if_neg (by simp)]
    refine yF ?_
    have c4:=cS hn h1 [[98,105,100,100,105,110,103]] (by simp)
    (repeat(refine a7 q17x3 hX mixed rfl ?_;simp[go_sem]))
    cases w2:wantT ts [[98,105,100,100,105,110,103]] i1 with
    |no p e=>
     refine aF [0,2] (aL c4 w2) (by simp[go_sem]) ?_
     simp[go_sem,Pr.bind_no]
    |ok u i2=>
     rw[Pr.bind_ok]
     refine yH [0,2] (aM c4 w2) ?_
     simp[go_sem]
     have h2:=(bD hn h1 w2).2
     have c5:=dX hn h2 [115,101,97,108,101,100]
     (repeat(refine a7 q17x3 hX mixed rfl ?_;simp[go_sem]))
     refine yH [0] c5 ?_
     simp[go_sem]
     have h3:=(vY hn (s:=[115,101,97,108,101,100]) h2).2
     have c6:=cS hn h3 [[59]] (by simp)
     (repeat(refine a7 q17x3 hX mixed rfl ?_;simp[go_sem]))
     cases w3:wantT ts [[59]] (hasT ts [115,101,97,108,101,100] i2)with
     |no p e=>
      refine aF [0,3] (aL c6 w3) (by simp[go_sem]) ?_
      simp[go_sem,Pr.bind_no]
     |ok u i3=>
      rw[Pr.bind_ok,aY]
      refine yH [0,3] (aM c6 w3) ?_
      simp[go_sem]
      (repeat(refine a7 q17x3 hX mixed rfl ?_;simp[go_sem]))
      refine aB ?_;refine aA [(2,ii 1),(3,bb (isT ts [115,101,97,108,101,100] i2)),(1000000,.ow 0)] [.old 0 ⟨143,2,[.agg [.sl (ts.map tk),ii (i3)]]⟩] ?_
      simp[go_sem]
theorem B4:Means true Tryz.prog 114 [] (.sl (ordersL.map ss)):=by
 refine yM true 2 [.tmp 0] [0] Tryz.func114 fun X hX=>?_
 (repeat(refine yA ?_;(simp[go_sem])))
 simp[ordersL]
def fdT(ts:List Tk)(l:List By)(i:Nat):Nat:=if l.any (fun s=>isT ts s i)then i+1 else i
set_option maxHeartbeats 4000000 in
theorem u4{ts:List Tk}(hn:OkT ts){i:Nat}(hi:i<ts.length)(l:List By)(hl:l.length≤1000)(hcall:callable Tryz.prog 111=true):
  MeansH Tryz.prog 113 [pst ts i] [.sl (l.map ss),.fn 111 [pp] []] (ii (match l.findIdx? fun s=>isT ts s i with|some n=>(n:Int)|none=> -1)) [pst ts (fdT ts l i)]:=by
 have hlen:=hn.len
 refine yN 1 19 [.tmp 4] [0,1,4,5,7,8,9,16,1000000] Tryz.func113 fun X hX=>?_
 (repeat(refine yB ?_;(simp[go_sem])))
 refine aG (fun n:Nat=>⟨mkE [(0,.sl (l.map ss)),(1,.fn 111 [pp] []),(7,ii l.length),(8,ii n),(1000000,.ow 0)],[pst ts i]⟩) (fun n=>n≤l.length∧∀k (h:k<l.length),k<n→isT ts l[k] i=false) (fun n=>l.length-n) 0 ?_ ?_ ?_
 ·refine yS _ [.old 0 ⟨143,2,[.agg [.sl (ts.map tk),ii (i)]]⟩] ?_
  simp[go_sem]
 ·exact⟨Nat.zero_le _,fun k h hk=>absurd hk (by omega)⟩
 ·rintro n ⟨h1,h2⟩
  (repeat(refine yB ?_;(simp[go_sem])))
  refine yC (decide (n<l.length)) (fun hc=>?_) fun hc=>?_
  ·simp at hc
   have hq:nth (l.map ss) n=ss l[n]:=u3 hc
   have wk:=w64 (x:=(n:Int)+1) (by omega) (by omega)
   have c1:=dX hn hi l[n]
   (repeat(refine yB ?_;(simp[go_sem,hc,hq,hcall])))
   refine yH [0] c1 ?_
   simp[go_sem]
   cases hs:isT ts l[n] i with
   |true=>
    have e1:l.findIdx? (fun s=>isT ts s i)=some n:=by
     rw[List.findIdx?_eq_some_iff_getElem]
     exact⟨hc,hs,fun k hk=>by rw[h2 k (by omega) hk];simp⟩
    have e2:fdT ts l i=i+1:=by
     unfold fdT
     rw[if_pos]
     exact List.any_eq_true.2 ⟨l[n],List.getElem_mem hc,hs⟩
    have eh:hasT ts l[n] i=i+1:=by simp[hasT,hs]
    rw[eh,e1,e2]
    refine yT ?_
    (repeat(refine yB ?_;(simp[go_sem])))
    refine aB ?_;simp only[thenQ,blkQ,loopQ];refine aA [(4,ii n),(1000000,.ow 0)] [.old 0 ⟨143,2,[.agg [.sl (ts.map tk),ii ((i+1:Nat))]]⟩] ?_
    simp[go_sem]
   |false=>
    have eh:hasT ts l[n] i=i:=by simp[hasT,hs]
    rw[eh]
    refine yF ?_
    (repeat(refine yB ?_;(simp[go_sem,wk])))
    refine⟨n+1,⟨by omega,fun k h hk=>?_⟩,by omega,?_⟩
    ·by_cases e:k=n
     ·subst e;exact hs
     ·exact h2 k h (by omega)
    ·refine yS _ [.old 0 ⟨143,2,[.agg [.sl (ts.map tk),ii (i)]]⟩] ?_
     simp[go_sem]
  ·simp at hc
   have all:∀s∈l,isT ts s i=false:=fun s hs=>by
    obtain⟨k,hk,rfl⟩:=List.getElem_of_mem hs
    exact h2 k hk (by omega)
   have e1:l.findIdx? (fun s=>isT ts s i)=none:=by
    rw[List.findIdx?_eq_none_iff]
    exact all
   have e2:fdT ts l i=i:=by
    unfold fdT
    rw[if_neg]
    simp only[List.any_eq_true,not_exists,not_and]
    intro s hs;rw[all s hs];simp
   rw[e1,e2]
   (repeat(refine yB ?_;(simp[go_sem])))
   refine aB ?_;refine aA [(4,ii (-1)),(1000000,.ow 0)] [.old 0 ⟨143,2,[.agg [.sl (ts.map tk),ii (i)]]⟩] ?_
   simp[go_sem]
set_option maxHeartbeats 4000000 in
theorem EI{ts:List Tk}(hn:OkT ts){i:Nat}(hi:i<ts.length):
  OutH Tryz.prog 62 [pst ts i] [pp] (outP (orderT ts i) ii ts []):=by
 have hlen:=hn.len
 have c1:=dX hn hi [111,114,100,101,114]
 have c2:=B4
 refine cN 1 19 [.tmp 2] Tryz.func62 rfl rfl rfl (by simp) (by decide) rfl fun X hX=>?_
 (repeat(refine a7 q17x7 hX mixed rfl ?_;simp[go_sem]))
 refine yH [0] c1 ?_
 simp[go_sem]
 cases s1:isT ts [111,114,100,101,114] i with
 |false=>
  have eh:hasT ts [111,114,100,101,114] i=i:=by simp[hasT,s1]
  have e:orderT ts i=.ok 0 i:=by rw[orderT,s1];rfl
  rw[e,aY,eh]
  refine yT ?_
  (repeat(refine a7 q17x7 hX mixed rfl ?_;simp[go_sem]))
  refine aB ?_;simp only[thenQ,blkQ,loopQ];refine aA [(2,ii 0),(1000000,.ow 0)] [.old 0 ⟨143,2,[.agg [.sl (ts.map tk),ii (i)]]⟩] ?_
  simp[go_sem]
 |true=>
  have hi1:=hn.has hi s1
  have eh:hasT ts [111,114,100,101,114] i=i+1:=by simp[hasT,s1]
  rw[eh]
  have c3:=u4 hn hi1 ordersL (by decide) (by simp[go_sem])
  refine yF ?_
  (repeat(refine a7 q17x7 hX mixed rfl ?_;simp[go_sem]))
  refine aD c2 ?_
  simp[go_sem]
  refine yH [0] c3 ?_
  simp[go_sem]
  cases hf:ordersL.findIdx? fun s=>isT ts s (i+1)with
  |none=>
   have e:orderT ts i=.no (nx ts (i+1)).pos 12:=by rw[orderT,s1,hf];rfl
   have e2:fdT ts ordersL (i+1)=i+1:=by
    unfold fdT
    rw[if_neg]
    simp only[List.any_eq_true,not_exists,not_and]
    intro s hs;rw[List.findIdx?_eq_none_iff.1 hf s hs];simp
   rw[e,e2]
   have c4:=eP hn hi1 12
   (repeat(refine a7 q17x7 hX mixed rfl ?_;simp[go_sem]))
   refine aF [0] (c4) (by simp[go_sem]) ?_
   simp[go_sem]
  |some n=>
   obtain⟨hm1,hm2,_⟩:=List.findIdx?_eq_some_iff_getElem.1 hf
   have hi2:=hn.has hi1 hm2
   have e:orderT ts i=(wantT ts [[59]] (i+1+1)).bind fun _ j=>.ok (n:Int) j:=by rw[orderT,s1,hf];rfl
   have e2:fdT ts ordersL (i+1)=i+1+1:=by
    unfold fdT
    rw[if_pos]
    exact List.any_eq_true.2 ⟨ordersL[n],List.getElem_mem hm1,hm2⟩
   rw[e,e2]
   have c4:=eM hn hi2 12
   have c5:=cS hn hi2 [[59]] (by simp)
   (repeat(refine a7 q17x7 hX mixed rfl ?_;simp[go_sem]))
   refine yH [0] c4 ?_
   simp[go_sem]
   (repeat(refine a7 q17x7 hX mixed rfl ?_;simp[go_sem]))
   cases w2:wantT ts [[59]] (i+1+1)with
   |no p e=>
    refine aF [0,1] (aL c5 w2) (by simp[go_sem]) ?_
    simp[go_sem,Pr.bind_no]
   |ok u i2=>
    rw[Pr.bind_ok,aY]
    refine yH [0,1] (aM c5 w2) ?_
    simp[go_sem]
    (repeat(refine a7 q17x7 hX mixed rfl ?_;simp[go_sem]))
    refine aB ?_;refine aA [(2,ii n),(1000000,.ow 0)] [.old 0 ⟨143,2,[.agg [.sl (ts.map tk),ii (i2)]]⟩] ?_
    simp[go_sem]
end Go.Proofs.YtllgjognpobnpaaGreatDoor

namespace Go.Proofs.YtllgjognpobnpaaGreatDoor
open Go.RowKit Go.Ab
attribute [local irreducible] AWP Go.Ab.Sub Means MeansH CallK CallG CallT CallGT PanicH
theorem B5(L:List By)(v:By)(hL:L.length≤100000):Means true Tryz.prog 150 [.sl (L.map ss),ss v] (ii (match L.findIdx? fun s=>decide (v=s)with|some n=>(n:Int)|none=> -1)):=by
 refine yM true 19 [.tmp 4] [0,1,4,5,7,8,9,16] Tryz.func150 fun X hX=>?_
 (repeat(refine yA ?_;(simp[go_sem])))
 refine aG (fun n:Nat=>⟨mkE [(0,.sl (L.map ss)),(1,ss v),(7,ii L.length),(8,ii n)],[]⟩) (fun n=>n≤L.length∧∀k (h:k<L.length),k<n→¬v=L[k]) (fun n=>L.length-n) 0 ?_ ?_ ?_
 ·refine yS _ [] ?_
  simp[go_sem]
 ·exact⟨Nat.zero_le _,fun k h hk=>absurd hk (by omega)⟩
 ·rintro n ⟨h1,h2⟩
  (repeat(refine yA ?_;(simp[go_sem])))
  refine yC (decide (n<L.length)) (fun hc=>?_) fun hc=>?_
  ·simp at hc
   have hq:nth (L.map ss) n=ss L[n]:=u3 hc
   have wk:=w64 (x:=(n:Int)+1) (by omega) (by omega)
   (repeat(refine yA ?_;(simp[go_sem,hc,hq])))
   refine yC (decide (v=L[n])) (fun hs=>?_) fun hs=>?_
   ·simp at hs
    have e1:L.findIdx? (fun s=>decide (v=s))=some n:=by
     rw[List.findIdx?_eq_some_iff_getElem]
     exact⟨hc,by simpa using hs,fun k hk=>by simpa using h2 k (by omega) hk⟩
    (repeat(refine yA ?_;(simp[go_sem])))
    simp[e1]
   ·simp at hs
    (repeat(refine yA ?_;(simp[go_sem,wk])))
    refine⟨n+1,⟨by omega,fun k h hk=>?_⟩,by omega,?_⟩
    ·by_cases e:k=n
     ·subst e;exact hs
     ·exact h2 k h (by omega)
    ·refine yS _ [] ?_
     simp[go_sem]
  ·simp at hc
   have e1:L.findIdx? (fun s=>decide (v=s))=none:=by
    rw[List.findIdx?_eq_none_iff]
    intro s hs
    obtain⟨k,hk,rfl⟩:=List.getElem_of_mem hs
    simpa using h2 k hk (by omega)
   (repeat(refine yA ?_;(simp[go_sem])))
   simp[e1]
theorem rZ(L:List By)(v:By)(hL:L.length≤100000):Means true Tryz.prog 116 [.sl (L.map ss),ss v] (bb (decide (v∈L))):=by
 have c1:=B5 L v hL
 refine yM true 9 [.tmp 4] [0,1,4] Tryz.func116 fun X hX=>?_
 (repeat(refine yA ?_;(simp[go_sem])))
 refine aD c1 ?_
 try(simp[go_sem])
 (repeat(refine yA ?_;(simp[go_sem])))
 cases hf:L.findIdx? fun s=>decide (v=s)with
 |none=>
  have:¬v∈L:=fun hv=>by have:=List.findIdx?_eq_none_iff.1 hf v hv;simp at this
  simp[this]
 |some n=>
  obtain⟨h1,h2,_⟩:=List.findIdx?_eq_some_iff_getElem.1 hf
  have:v∈L:=by
   have h2:v=L[n]:=by simpa using h2
   rw[h2];exact List.getElem_mem h1
  simp[this]
theorem u5:Means true Tryz.prog 117 [] (.sl (reservedL.map ss)):=by
 refine yM true 2 [.tmp 0] [0] Tryz.func117 fun X hX=>?_
 (repeat(refine yA ?_;(simp[go_sem])))
 simp[reservedL]
theorem pZ(s:By)(hs:s.length≤100000):Means true Tryz.prog 64 [ss s] (bb (nameOk s)):=by
 have c1:=B6 s hs
 have c2:=u5
 have c3:=rZ reservedL s (by decide)
 refine yM true 11 [.tmp 2] [0,2] Tryz.func64 fun X hX=>?_
 (repeat(refine yA ?_;(simp[go_sem])))
 refine aD c1 ?_
 try(simp[go_sem])
 refine aI (fun hg=>c2) ?_
 try(simp[go_sem])
 refine aI (fun hg=>c3) ?_
 try(simp[go_sem])
 (repeat(refine yA ?_;(simp[go_sem])))
 simp[nameOk]
abbrev opv(o:Opr):AV:=.agg [ss o.text,ii o.op,ii o.form]
@[go_sem] theorem B7{L:List Opr}{k:Nat}(h:k<L.length):nth (L.map opv) k=opv L[k]:=cG opv h
theorem s0:Means true Tryz.prog 153 [] (.sl (opTab.map opv)):=by
 refine yM true 10 [.tmp 0] [0] Tryz.func153 fun X hX=>?_
 (repeat(refine yA ?_;(simp[go_sem])))
 simp[opTab]
abbrev pbox:Cell:=.row ⟨78,1,[.el 0 2 0 0]⟩
set_option maxHeartbeats 1000000 in
theorem HE{ts:List Tk}(hn:OkT ts){i:Nat}(hi:i<ts.length)(o:Opr):MeansH Tryz.prog 154 [pst ts i,pbox] [opv o,.el 1 1 0 0] (bb (isT ts o.text i)) [pst ts i,pbox]:=by
 have c1:=rY hn hi o.text
 refine yN 2 8 [.tmp 3] [0,1,2,3,1000000,1000001] Tryz.func154 fun X hX=>?_
 (repeat(refine yB ?_;(simp[go_sem])))
 refine yH [0] c1 ?_
 try(simp[go_sem])
 (repeat(refine yB ?_;(simp[go_sem])))
 refine aB ?_;(try simp only[thenQ,blkQ,loopQ]);refine aA [(3,bb (isT ts o.text i)),(1000000,.ow 0),(1000001,.ow 1)] [.old 0 ⟨143,2,[.agg [.sl (ts.map tk),ii (i)]]⟩,.old 1 ⟨78,1,[.el 0 2 0 0]⟩] ?_
 simp[go_sem]
set_option maxHeartbeats 4000000 in
theorem yG{ts:List Tk}(hn:OkT ts){i:Nat}(hi:i<ts.length)(L:List Opr)(hl:L.length≤1000)(hcall:callable Tryz.prog 154=true):
  MeansH Tryz.prog 152 [pst ts i,pbox] [.sl (L.map opv),.fn 154 [] [.el 1 1 0 0]] (ii (match L.findIdx? fun o=>isT ts o.text i with|some n=>(n:Int)|none=> -1)) [pst ts i,pbox]:=by
 refine yN 2 19 [.tmp 4] [0,1,4,5,7,8,9,16,1000000,1000001] Tryz.func152 fun X hX=>?_
 (repeat(refine yB ?_;(simp[go_sem])))
 refine aG (fun n:Nat=>⟨mkE [(0,.sl (L.map opv)),(1,.fn 154 [] [.el 1 1 0 0]),(7,ii L.length),(8,ii n),(1000000,.ow 0),(1000001,.ow 1)],[pst ts i,pbox]⟩) (fun n=>n≤L.length∧∀k (h:k<L.length),k<n→isT ts L[k].text i=false) (fun n=>L.length-n) 0 ?_ ?_ ?_
 ·refine yS _ [.old 0 ⟨143,2,[.agg [.sl (ts.map tk),ii (i)]]⟩,.old 1 ⟨78,1,[.el 0 2 0 0]⟩] ?_
  simp[go_sem]
 ·exact⟨Nat.zero_le _,fun k h hk=>absurd hk (by omega)⟩
 ·rintro n ⟨h1,h2⟩
  (repeat(refine yB ?_;(simp[go_sem])))
  refine yC (decide (n<L.length)) (fun hc=>?_) fun hc=>?_
  ·simp at hc
   have hq:=B7 hc
   have wk:=w64 (x:=(n:Int)+1) (by omega) (by omega)
   have c1:=HE hn hi L[n]
   (repeat(refine yB ?_;(simp[go_sem,hc,hq,hcall])))
   refine yH [0,1] c1 ?_
   try(simp[go_sem])
   cases hs:isT ts L[n].text i with
   |true=>
    have e1:L.findIdx? (fun o=>isT ts o.text i)=some n:=by
     rw[List.findIdx?_eq_some_iff_getElem]
     exact⟨hc,hs,fun k hk=>by rw[h2 k (by omega) hk];simp⟩
    rw[e1]
    refine yT ?_
    (repeat(refine yB ?_;(simp[go_sem])))
    refine aB ?_;(try simp only[thenQ,blkQ,loopQ]);refine aA [(4,ii n),(1000000,.ow 0),(1000001,.ow 1)] [.old 0 ⟨143,2,[.agg [.sl (ts.map tk),ii (i)]]⟩,.old 1 ⟨78,1,[.el 0 2 0 0]⟩] ?_
    simp[go_sem]
   |false=>
    refine yF ?_
    (repeat(refine yB ?_;(simp[go_sem,wk])))
    refine⟨n+1,⟨by omega,fun k h hk=>?_⟩,by omega,?_⟩
    ·by_cases e:k=n
     ·subst e;exact hs
     ·exact h2 k h (by omega)
    ·refine yS _ [.old 0 ⟨143,2,[.agg [.sl (ts.map tk),ii (i)]]⟩,.old 1 ⟨78,1,[.el 0 2 0 0]⟩] ?_
     simp[go_sem]
  ·simp at hc
   have e1:L.findIdx? (fun o=>isT ts o.text i)=none:=by
    rw[List.findIdx?_eq_none_iff]
    intro s hs
    obtain⟨k,hk,rfl⟩:=List.getElem_of_mem hs
    exact h2 k hk (by omega)
   rw[e1]
   (repeat(refine yB ?_;(simp[go_sem])))
   refine aB ?_;(try simp only[thenQ,blkQ,loopQ]);refine aA [(4,ii (-1)),(1000000,.ow 0),(1000001,.ow 1)] [.old 0 ⟨143,2,[.agg [.sl (ts.map tk),ii (i)]]⟩,.old 1 ⟨78,1,[.el 0 2 0 0]⟩] ?_
   simp[go_sem]
theorem yI:Means true Tryz.prog 121 [] (ex nothingE):=by
 refine yM true 2 [.cell 0 30] [0] Tryz.func121 fun X hX=>?_
 (repeat(refine yA ?_;(simp[go_sem])))
 repeat' first|rfl|apply And.intro
theorem j9{e x:E}(h:x∈e.kids):x.lev<e.lev:=by
 cases e<;>simp only[E.kids,List.mem_cons,List.not_mem_nil,or_false]at h
 ·subst h;simp only[E.lev];omega
 ·rcases h with rfl|rfl<;>simp only[E.lev]<;>omega
 ·rcases h with rfl|rfl|rfl<;>simp only[E.lev]<;>omega
def mx(l:List E):Nat:=l.foldl (fun m x=>max m x.lev) 0
theorem u7(e:E):e.lev=mx e.kids+1:=by cases e<;>simp[E.lev,mx,E.kids]
theorem EJ{l:List E}{n:Nat}(h:n<l.length):mx (l.take (n+1))=max (mx (l.take n)) l[n].lev:=by
 unfold mx
 rw[List.take_succ_eq_append_getElem h,List.foldl_append];rfl
@[go_sem] theorem mA{L:List E}{k:Nat}(h:k<L.length):nth (L.map ex) k=ex L[k]:=cG ex h
set_option maxHeartbeats 4000000 in
theorem s3:∀(n:Nat) (e:E),e.lev≤n→n≤1000000→Means true Tryz.prog 120 [ex e] (ii e.lev)
 |0,e,h,_=>by have:=u7 e;omega
 |n+1,e,h,hn=>by
  have hk:e.kids.length≤3:=by cases e<;>simp[E.kids]
  have ih:∀x∈e.kids,Means true Tryz.prog 120 [ex x] (ii x.lev):=fun x hx=>s3 n x (by have:=j9 hx;omega) (by omega)
  have hlev:=u7 e
  refine yM true 20 [.tmp 2] [0,1,2,3,5,7,8,9,10] Tryz.func120 fun X hX=>?_
  (repeat(refine yA ?_;(simp[go_sem,gQ])))
  refine aG (fun k:Nat=>⟨mkE [(3,ii (mx (e.kids.take k))),(7,.sl (e.kids.map ex)),(8,ii e.kids.length),(9,ii k)],[]⟩) (fun k=>k≤e.kids.length) (fun k=>e.kids.length-k) 0 ?_ ?_ ?_
  ·refine yS _ [] ?_
   simp[go_sem,mx]
  ·exact Nat.zero_le _
  ·intro k hk0
   (repeat(refine yA ?_;(simp[go_sem])))
   refine yC (decide (k<e.kids.length)) (fun hc=>?_) fun hc=>?_
   ·simp at hc
    have hq:=mA hc
    have c1:=ih e.kids[k] (List.getElem_mem hc)
    have wk:=w64 (x:=(k:Int)+1) (by omega) (by omega)
    have es:=EJ hc
    have em:max ((mx (e.kids.take k):Nat):Int) (e.kids[k].lev:Int)=((mx (e.kids.take (k+1)):Nat):Int):=by rw[es];omega
    (repeat(refine yA ?_;(simp[go_sem,hc,hq])))
    refine aD c1 ?_
    try(simp[go_sem])
    (repeat(refine yA ?_;(simp[go_sem,wk,em])))
    refine⟨k+1,by omega,by omega,?_⟩
    refine yS _ [] ?_
    simp[go_sem]
   ·simp at hc
    have e1:e.kids.take k=e.kids:=List.take_of_length_le hc
    have wk:=w64 (x:=(mx e.kids:Int)+1) (by omega) (by omega)
    rw[hlev]
    (repeat(refine yA ?_;(simp[go_sem,e1,wk])))
end Go.Proofs.YtllgjognpobnpaaGreatDoor

namespace Go.Proofs.YtllgjognpobnpaaGreatDoor
open Go.RowKit Go.Ab
attribute [local irreducible] AWP Go.Ab.Sub Means MeansH CallK CallG CallT CallGT PanicH
structure ExpC(ts:List Tk)(f:Nat):Prop where
 exp:∀(form:Int) (i:Nat),i<ts.length→3*(ts.length-i)+3≤f→OutH Tryz.prog 119 [pst ts i] [pp,ii form] (outP (expF f ts form i) ex ts [])
theorem k7{ts:List Tk}{s:By}{i:Nat}(h:isT ts s i=false):hasT ts s i=i:=by simp[hasT,h]
theorem k8{ts:List Tk}{s:By}{i:Nat}(h:isT ts s i=true):hasT ts s i=i+1:=by simp[hasT,h]
set_option maxHeartbeats 8000000 in
theorem yJ{ts:List Tk}(hn:OkT ts){f:Nat}(hE:ExpC ts f){i:Nat}(hi:i<ts.length)(hf:3*(ts.length-i)≤f):
  OutH Tryz.prog 179 [pst ts i] [pp] (outP (primaryF (f+1) ts i) ex ts []):=by
 have hlen:=hn.len
 obtain⟨bE,bL,bP,bQ⟩:=g7 hn f
 have one:∀{s:By} {i j:Nat},i<ts.length→wantT ts [s] i=.ok () j→i<j∧j<ts.length:=fun hi hw=>by have:=bD hn hi hw;simp at this;omega
 have c0:=gP hn hi
 have wk:=w64 (x:=(i:Int)+1) (by omega) (by omega)
 have htx:=hn.txt' i
 rw[primaryF]
 refine cN 1 97 [.cell 2 30] Tryz.func179 rfl rfl rfl (by simp) (by decide) rfl fun X hX=>?_
 (repeat(refine a7 q17x0 hX mixed rfl ?_;simp[go_sem]))
 refine yH [0] c0 ?_
 simp[go_sem]
 (repeat(refine a7 q17x0 hX mixed rfl ?_;simp[go_sem]))
 refine yC (decide ((nx ts i).kind=2)) (fun hb=>?_) fun hb=>?_
 ·simp at hb
  rw[if_pos hb]
  have hi1:=hn.last i hi (by rw[hb];decide)
  have c1:=HC hn hi1
  cases hu:unitT ts (i+1)with
  |no p e=>
   (repeat(first|refine aS ?_|refine aP ?_))
   ((first|refine aQ q17x0 hX ?_|refine aK q17x0 hX mixed ?_|refine aB ?_|refine aJ ?_|refine aR ?_);(simp[go_sem,wk];try(refine⟨by kernel_rfl,?_⟩)))
   (repeat(first|refine aS ?_|refine aP ?_))
   refine gT 3 hX mixed (by kernel_rfl) (by kernel_rfl) ?_;(simp[go_sem];try(refine⟨by kernel_rfl,?_⟩))
   refine eB [0] (aL c1 hu) (by simp[go_sem]) ?_
   simp[go_sem,Pr.bind_no]
  |ok u j=>
   rw[Pr.bind_ok,aY]
   (repeat(refine a7 q17x0 hX mixed rfl ?_;simp[go_sem,wk]))
   refine dB [0] (aM c1 hu) (by simp[go_sem]) ?_
   (simp[go_sem];try(refine⟨by kernel_rfl,?_⟩))
   refine bB (st0:=⟨mkE [(2,.el 1 5 0 0),(1000000,.ow 0)],[pst ts j,.row ⟨30,5,[ex (.num (nx ts i).n u)]⟩]⟩) ?_ ?_
   ·refine yS _ [.old 0 ⟨143,2,[.agg [.sl (ts.map tk),ii (j)]]⟩,.old 1 ⟨30,5,[ex (.num (nx ts i).n u)]⟩] ?_
    simp[go_sem]
   refine aB ?_;simp only[thenQ,blkQ,loopQ];refine aA [(1000000,.ow 0)] [.old 0 ⟨143,2,[.agg [.sl (ts.map tk),ii (j)]]⟩] ?_
   simp[go_sem]
 ·simp at hb
  rw[if_neg hb]
  have c1:=dX hn hi [116,114,117,101]
  have c2:=dX hn hi [102,97,108,115,101]
  have c3:=rY hn hi [109,105,110]
  have c4:=rY hn hi [109,97,120]
  have c5:=dX hn hi [40]
  (repeat(refine a7 q17x0 hX mixed rfl ?_;simp[go_sem]))
  refine yH [0] c1 ?_
  simp[go_sem]
  cases s1:isT ts [116,114,117,101] i with
  |true=>
   rw[if_pos rfl,k8 s1,aY]
   refine yT ?_
   (repeat(refine a7 q17x0 hX mixed rfl ?_;simp[go_sem]))
   refine bB (st0:=⟨mkE [(2,.el 1 5 0 0),(1000000,.ow 0)],[pst ts (i+1),.row ⟨30,5,[ex (.num 1 0)]⟩]⟩) ?_ ?_
   ·refine yS _ [.old 0 ⟨143,2,[.agg [.sl (ts.map tk),ii ((i+1:Nat))]]⟩,.old 1 ⟨30,5,[ex (.num 1 0)]⟩] ?_
    simp[go_sem]
   refine aB ?_;simp only[thenQ,blkQ,loopQ];refine aA [(1000000,.ow 0)] [.old 0 ⟨143,2,[.agg [.sl (ts.map tk),ii ((i+1:Nat))]]⟩] ?_
   simp[go_sem]
  |false=>
  rw[if_neg (by simp),k7 s1]
  refine yF ?_
  (repeat(refine a7 q17x0 hX mixed rfl ?_;simp[go_sem]))
  refine yH [0] c2 ?_
  simp[go_sem]
  cases s2:isT ts [102,97,108,115,101] i with
  |true=>
   rw[if_pos rfl,k8 s2,aY]
   refine yT ?_
   (repeat(refine a7 q17x0 hX mixed rfl ?_;simp[go_sem]))
   refine bB (st0:=⟨mkE [(2,.el 1 5 0 0),(1000000,.ow 0)],[pst ts (i+1),.row ⟨30,5,[ex (.num 0 0)]⟩]⟩) ?_ ?_
   ·refine yS _ [.old 0 ⟨143,2,[.agg [.sl (ts.map tk),ii ((i+1:Nat))]]⟩,.old 1 ⟨30,5,[ex (.num 0 0)]⟩] ?_
    simp[go_sem]
   refine aB ?_;simp only[thenQ,blkQ,loopQ];refine aA [(1000000,.ow 0)] [.old 0 ⟨143,2,[.agg [.sl (ts.map tk),ii ((i+1:Nat))]]⟩] ?_
   simp[go_sem]
  |false=>
  rw[if_neg (by simp),k7 s2]
  refine yF ?_
  (repeat(refine a7 q17x0 hX mixed rfl ?_;simp[go_sem]))
  refine yH [0] c3 ?_
  simp[go_sem]
  refine aW [0] (fun hg=>c4) (by simp[go_sem]) (by simp[go_sem]) ?_
  simp[go_sem]
  refine yC (isT ts [109,105,110] i||isT ts [109,97,120] i) (fun hd=>?_) fun hd=>?_
  ·rw[if_pos (by simpa using hd)]
   have hi1:i+1<ts.length:=by
    rcases Bool.or_eq_true _ _▸hd with hs|hs
    ·exact hn.has hi hs
    ·exact hn.has hi hs
   generalize hop:(if isT ts [109,97,120] i=true then(7:Int)else 6)=op
   (repeat(first|refine aS ?_|refine aP ?_))
   ((first|refine aQ q17x0 hX ?_|refine aK q17x0 hX mixed ?_|refine aB ?_|refine aJ ?_|refine aR ?_);(simp[go_sem];try(refine⟨by kernel_rfl,?_⟩)))
   refine aS ?_
   refine lC ⟨mkE [(0,pp),(2,.el 1 5 0 0),(4,ii op),(1000000,.ow 0)],[pst ts i,.row ⟨30,5,[.agg [ii 0,ii 0,ii 0,ss [],.nil]]⟩]⟩ ?_ ?_
   ·(repeat(refine a7 q17x0 hX mixed rfl ?_;simp[go_sem]))
    refine yH [0] c4 ?_
    simp[go_sem]
    cases hx:isT ts [109,97,120] i with
    |true=>
     rw[hx]at hop
     have hop:(7:Int)=op:=hop
     subst hop
     refine yT ?_
     (repeat(refine a7 q17x0 hX mixed rfl ?_;simp[go_sem]))
     refine yS _ [.old 0 ⟨143,2,[.agg [.sl (ts.map tk),ii (i)]]⟩,.old 1 ⟨30,5,[.agg [ii 0,ii 0,ii 0,ss [],.nil]]⟩] ?_
     simp[go_sem]
    |false=>
     rw[hx]at hop
     have hop:(6:Int)=op:=hop
     subst hop
     refine yF ?_
     (repeat(refine a7 q17x0 hX mixed rfl ?_;simp[go_sem]))
     refine yS _ [.old 0 ⟨143,2,[.agg [.sl (ts.map tk),ii (i)]]⟩,.old 1 ⟨30,5,[.agg [ii 0,ii 0,ii 0,ss [],.nil]]⟩] ?_
     simp[go_sem]
   ·(simp[go_sem];try(refine⟨by kernel_rfl,?_⟩))
    have d1:=cS hn hi1 [[40]] (by simp)
    cases w1:wantT ts [[40]] (i+1)with
    |no p e=>
     (repeat(refine a7 q17x0 hX mixed rfl ?_;simp[go_sem,wk]))
     refine aF [0,2] (aL d1 w1) (by simp[go_sem]) ?_
     simp[go_sem,Pr.bind_no]
    |ok u j1=>
    rw[Pr.bind_ok]
    have b1:=one hi1 w1
    (repeat(refine a7 q17x0 hX mixed rfl ?_;simp[go_sem,wk]))
    refine yH [0,2] (aM d1 w1) ?_
    simp[go_sem]
    have d2:=hE.exp 0 j1 b1.2 (by omega)
    (repeat(refine a7 q17x0 hX mixed rfl ?_;simp[go_sem]))
    cases e1:expF f ts 0 j1 with
    |no p e=>
     refine aF [0] (aL d2 e1) (by simp[go_sem]) ?_
     simp[go_sem,Pr.bind_no]
    |ok a j2=>
    rw[Pr.bind_ok]
    have b2:=bE _ _ _ _ b1.2 e1
    refine yH [0] (aM d2 e1) ?_
    simp[go_sem]
    have d3:=cS hn b2.2 [[44]] (by simp)
    (repeat(refine a7 q17x0 hX mixed rfl ?_;simp[go_sem]))
    cases w2:wantT ts [[44]] j2 with
    |no p e=>
     refine aF [0,4] (aL d3 w2) (by simp[go_sem]) ?_
     simp[go_sem,Pr.bind_no]
    |ok u j3=>
    rw[Pr.bind_ok]
    have b3:=one b2.2 w2
    refine yH [0,4] (aM d3 w2) ?_
    simp[go_sem]
    have d4:=hE.exp 0 j3 b3.2 (by omega)
    (repeat(refine a7 q17x0 hX mixed rfl ?_;simp[go_sem]))
    cases e2:expF f ts 0 j3 with
    |no p e=>
     refine aF [0] (aL d4 e2) (by simp[go_sem]) ?_
     simp[go_sem,Pr.bind_no]
    |ok b j4=>
    rw[Pr.bind_ok]
    have b4:=bE _ _ _ _ b3.2 e2
    refine yH [0] (aM d4 e2) ?_
    simp[go_sem]
    have d5:=cS hn b4.2 [[41]] (by simp)
    (repeat(refine a7 q17x0 hX mixed rfl ?_;simp[go_sem]))
    cases w3:wantT ts [[41]] j4 with
    |no p e=>
     refine aF [0,6] (aL d5 w3) (by simp[go_sem]) ?_
     simp[go_sem,Pr.bind_no]
    |ok u j5=>
    rw[Pr.bind_ok,aY]
    refine yH [0,6] (aM d5 w3) ?_
    simp[go_sem]
    (repeat(refine a7 q17x0 hX mixed rfl ?_;simp[go_sem]))
    refine bB (st0:=⟨mkE [(2,.el 1 5 0 0),(1000000,.ow 0)],[pst ts j5,.row ⟨30,5,[ex (.bin op a b)]⟩]⟩) ?_ ?_
    ·refine yS _ [.old 0 ⟨143,2,[.agg [.sl (ts.map tk),ii (j5)]]⟩,.old 1 ⟨30,5,[ex (.bin op a b)]⟩] ?_
     simp[go_sem]
    refine aB ?_;simp only[thenQ,blkQ,loopQ];refine aA [(1000000,.ow 0)] [.old 0 ⟨143,2,[.agg [.sl (ts.map tk),ii (j5)]]⟩] ?_
    simp[go_sem]
  ·rw[if_neg (by simpa using hd)]
   (repeat(refine a7 q17x0 hX mixed rfl ?_;simp[go_sem]))
   refine yH [0] c5 ?_
   simp[go_sem]
   cases s5:isT ts [40] i with
   |true=>
    rw[if_pos rfl,k8 s5]
    have hi1:=hn.has hi s5
    refine yT ?_
    have d1:=hE.exp 0 (i+1) hi1 (by omega)
    (repeat(refine a7 q17x0 hX mixed rfl ?_;simp[go_sem]))
    cases e1:expF f ts 0 (i+1)with
    |no p e=>
     refine aF [0] (aL d1 e1) (by simp[go_sem]) ?_
     simp[go_sem,Pr.bind_no]
    |ok a j1=>
    rw[Pr.bind_ok]
    have b1:=bE _ _ _ _ hi1 e1
    refine yH [0] (aM d1 e1) ?_
    simp[go_sem]
    have d2:=cS hn b1.2 [[41]] (by simp)
    (repeat(refine a7 q17x0 hX mixed rfl ?_;simp[go_sem]))
    cases w1:wantT ts [[41]] j1 with
    |no p e=>
     refine aF [0,4] (aL d2 w1) (by simp[go_sem]) ?_
     simp[go_sem,Pr.bind_no]
    |ok u j2=>
    rw[Pr.bind_ok,aY]
    refine yH [0,4] (aM d2 w1) ?_
    simp[go_sem]
    (repeat(refine a7 q17x0 hX mixed rfl ?_;simp[go_sem]))
    refine aB ?_;simp only[thenQ,blkQ,loopQ];refine aA [(1000000,.ow 0)] [.old 0 ⟨143,2,[.agg [.sl (ts.map tk),ii (j2)]]⟩] ?_
    simp[go_sem]
   |false=>
    rw[if_neg (by simp),k7 s5]
    refine yF ?_
    have c6:=pZ (nx ts i).text (by omega)
    (repeat(refine a7 q17x0 hX mixed rfl ?_;simp[go_sem]))
    refine aI (fun hg=>c6) ?_
    simp[go_sem]
    by_cases hk:(nx ts i).kind=1∧nameOk (nx ts i).text=true
    ·rw[if_pos hk,aY]
     have c7:=fJ hn hi 12 (b:=decide ((nx ts i).kind=1)&&nameOk (nx ts i).text) (by simp[hk])
     refine yH [0] c7 ?_
     simp[go_sem]
     (repeat(refine a7 q17x0 hX mixed rfl ?_;simp[go_sem,wk]))
     refine bB (st0:=⟨mkE [(2,.el 1 5 0 0),(1000000,.ow 0)],[pst ts (i+1),.row ⟨30,5,[ex (.nam (nx ts i).text)]⟩]⟩) ?_ ?_
     ·refine yS _ [.old 0 ⟨143,2,[.agg [.sl (ts.map tk),ii ((i+1:Nat))]]⟩,.old 1 ⟨30,5,[ex (.nam (nx ts i).text)]⟩] ?_
      simp[go_sem]
     refine aB ?_;refine aA [(1000000,.ow 0)] [.old 0 ⟨143,2,[.agg [.sl (ts.map tk),ii ((i+1:Nat))]]⟩] ?_
     simp[go_sem]
    ·rw[if_neg hk]
     have c7:=fK hn hi 12 (b:=decide ((nx ts i).kind=1)&&nameOk (nx ts i).text) (by
      cases hq:nameOk (nx ts i).text<;>simp_all)
     refine aF [0] (c7) (by simp[go_sem]) ?_
     simp[go_sem]
set_option maxHeartbeats 8000000 in
theorem B8{ts:List Tk}(hn:OkT ts){f:Nat}(hE:ExpC ts f)(hP:∀i,i<ts.length→3*(ts.length-i)+1≤f→OutH Tryz.prog 179 [pst ts i] [pp] (outP (primaryF f ts i) ex ts []))(form:Int){i:Nat}(hi:i<ts.length)(hf:3*(ts.length-i)+1≤f):
  OutH Tryz.prog 151 [pst ts i] [pp,ii form] (outP (prefixF (f+1) ts form i) (fun x=>.tup [ex x.1,ii x.2]) ts []):=by
 have hlen:=hn.len
 obtain⟨bE,bL,bP,bQ⟩:=g7 hn f
 have one:∀{s:By} {i j:Nat},i<ts.length→wantT ts [s] i=.ok () j→i<j∧j<ts.length:=fun hi hw=>by have:=bD hn hi hw;simp at this;omega
 have c1:=dX hn hi [105,102]
 have c2:=dX hn hi [110,111,116]
 have c3:=hP i hi hf
 rw[prefixF]
 by_cases h1:form=0∧isT ts [105,102] i=true
 ·rw[if_pos h1]
  obtain⟨rfl,s1⟩:=h1
  have hi1:=hn.has hi s1
  rw[k8 s1,s1]at c1
  have d1:=hE.exp 0 (i+1) hi1 (by omega)
  refine cN 1 42 [.cell 4 30,.tmp 5] Tryz.func151 rfl rfl rfl (by simp) (by decide) rfl fun X hX=>?_
  (repeat(refine a7 q17x1 hX mixed rfl ?_;simp[go_sem]))
  refine eC [0] (by simp[go_sem]) (c1) (by simp[go_sem]) ?_
  simp[go_sem]
  refine yT ?_
  (repeat(refine a7 q17x1 hX mixed rfl ?_;simp[go_sem]))
  cases e1:expF f ts 0 (i+1)with
  |no p e=>
   refine aF [0] (aL d1 e1) (by simp[go_sem]) ?_
   simp[go_sem,Pr.bind_no]
  |ok a j1=>
  rw[Pr.bind_ok]
  refine yH [0] (aM d1 e1) ?_
  simp[go_sem]
  have b1:=bE _ _ _ _ hi1 e1
  have d2:=cS hn b1.2 [[116,104,101,110]] (by simp)
  (repeat(refine a7 q17x1 hX mixed rfl ?_;simp[go_sem]))
  cases w1:wantT ts [[116,104,101,110]] j1 with
  |no p e=>
   refine aF [0,3] (aL d2 w1) (by simp[go_sem]) ?_
   simp[go_sem,Pr.bind_no]
  |ok u j2=>
  rw[Pr.bind_ok]
  refine yH [0,3] (aM d2 w1) ?_
  simp[go_sem]
  have b2:=one b1.2 w1
  have d3:=hE.exp 0 j2 b2.2 (by omega)
  (repeat(refine a7 q17x1 hX mixed rfl ?_;simp[go_sem]))
  cases e2:expF f ts 0 j2 with
  |no p e=>
   refine aF [0] (aL d3 e2) (by simp[go_sem]) ?_
   simp[go_sem,Pr.bind_no]
  |ok b j3=>
  rw[Pr.bind_ok]
  refine yH [0] (aM d3 e2) ?_
  simp[go_sem]
  have b3:=bE _ _ _ _ b2.2 e2
  have d4:=cS hn b3.2 [[101,108,115,101]] (by simp)
  (repeat(refine a7 q17x1 hX mixed rfl ?_;simp[go_sem]))
  cases w2:wantT ts [[101,108,115,101]] j3 with
  |no p e=>
   refine aF [0,5] (aL d4 w2) (by simp[go_sem]) ?_
   simp[go_sem,Pr.bind_no]
  |ok u j4=>
  rw[Pr.bind_ok]
  refine yH [0,5] (aM d4 w2) ?_
  simp[go_sem]
  have b4:=one b3.2 w2
  have d5:=hE.exp 0 j4 b4.2 (by omega)
  cases e3:expF f ts 0 j4 with
  |no p e=>
   (repeat(first|refine aS ?_|refine aP ?_))
   refine gT 3 hX mixed (by kernel_rfl) (by kernel_rfl) ?_;(simp[go_sem];try(refine⟨by kernel_rfl,?_⟩))
   refine eB [0] (aL d5 e3) (by simp[go_sem]) ?_
   simp[go_sem,Pr.bind_no]
  |ok c j5=>
  rw[Pr.bind_ok,aY]
  (repeat(refine a7 q17x1 hX mixed rfl ?_;simp[go_sem]))
  refine dB [0] (aM d5 e3) (by simp[go_sem]) ?_
  (simp[go_sem];try(refine⟨by kernel_rfl,?_⟩))
  refine bB (st0:=⟨mkE [(4,.el 1 5 0 0),(5,ii 0),(1000000,.ow 0)],[pst ts j5,.row ⟨30,5,[ex (.ite a b c)]⟩]⟩) ?_ ?_
  ·refine yS _ [.old 0 ⟨143,2,[.agg [.sl (ts.map tk),ii (j5)]]⟩,.old 1 ⟨30,5,[ex (.ite a b c)]⟩] ?_
   simp[go_sem]
  refine aB ?_;simp only[thenQ,blkQ,loopQ];refine aA [(5,ii 0),(1000000,.ow 0)] [.old 0 ⟨143,2,[.agg [.sl (ts.map tk),ii (j5)]]⟩] ?_
  simp[go_sem]
 ·rw[if_neg h1]
  refine cN 1 42 [.cell 4 30,.tmp 5] Tryz.func151 rfl rfl rfl (by simp) (by decide) rfl fun X hX=>?_
  (repeat(first|refine aS ?_|refine aP ?_))
  ((first|refine aQ q17x1 hX ?_|refine aK q17x1 hX mixed ?_|refine aB ?_|refine aJ ?_|refine aR ?_);(simp[go_sem];try(refine⟨by kernel_rfl,?_⟩)))
  refine aS ?_
  refine lC ⟨mkE [(0,pp),(1,ii form),(4,.el 1 5 0 0),(5,ii 0),(1000000,.ow 0)],[pst ts i,.row ⟨30,5,[.agg [ii 0,ii 0,ii 0,ss [],.nil]]⟩]⟩ ?_ ?_
  ·by_cases hf0:form=0
   ·have s1:isT ts [105,102] i=false:=by
     cases hs:isT ts [105,102] i with
     |true=>exact absurd ⟨hf0,hs⟩ h1
     |false=>rfl
    subst hf0
    rw[k7 s1,s1]at c1
    (repeat(refine a7 q17x1 hX mixed rfl ?_;simp[go_sem]))
    refine aW [0] (fun hg=>c1) (by simp[go_sem]) (by simp[go_sem]) ?_
    simp[go_sem]
    refine yF ?_
    (repeat(refine a7 q17x1 hX mixed rfl ?_;simp[go_sem]))
    refine yS _ [.old 0 ⟨143,2,[.agg [.sl (ts.map tk),ii (i)]]⟩,.old 1 ⟨30,5,[.agg [ii 0,ii 0,ii 0,ss [],.nil]]⟩] ?_
    simp[go_sem]
   ·(repeat(refine a7 q17x1 hX mixed rfl ?_;simp[go_sem,hf0]))
    refine bT rfl ?_
    simp[go_sem,hf0]
    refine yF ?_ (by simp[go_sem,hf0])
    (repeat(refine a7 q17x1 hX mixed rfl ?_;simp[go_sem]))
    refine yS _ [.old 0 ⟨143,2,[.agg [.sl (ts.map tk),ii (i)]]⟩,.old 1 ⟨30,5,[.agg [ii 0,ii 0,ii 0,ss [],.nil]]⟩] ?_
    simp[go_sem]
  (simp[go_sem];try(refine⟨by kernel_rfl,?_⟩))
  by_cases h2:form≤3∧isT ts [110,111,116] i=true
  ·rw[if_pos h2]
   obtain⟨hf3,s2⟩:=h2
   have hi1:=hn.has hi s2
   rw[k8 s2,s2]at c2
   have d1:=hE.exp 3 (i+1) hi1 (by omega)
   (repeat(refine a7 q17x1 hX mixed rfl ?_;simp[go_sem,hf3]))
   refine eC [0] (by simp[go_sem]) (c2) (by simp[go_sem]) ?_
   simp[go_sem]
   refine yT ?_
   (repeat(refine a7 q17x1 hX mixed rfl ?_;simp[go_sem]))
   cases e1:expF f ts 3 (i+1)with
   |no p e=>
    refine aF [0] (aL d1 e1) (by simp[go_sem]) ?_
    simp[go_sem,Pr.bind_no]
   |ok a j=>
   rw[Pr.bind_ok,aY]
   refine yH [0] (aM d1 e1) ?_
   simp[go_sem]
   refine bB (st0:=⟨mkE [(4,.el 1 5 0 0),(5,ii 3),(1000000,.ow 0)],[pst ts j,.row ⟨30,5,[ex (.un a)]⟩]⟩) ?_ ?_
   ·refine yS _ [.old 0 ⟨143,2,[.agg [.sl (ts.map tk),ii (j)]]⟩,.old 1 ⟨30,5,[ex (.un a)]⟩] ?_
    simp[go_sem]
   refine aB ?_;simp only[thenQ,blkQ,loopQ];refine aA [(5,ii 3),(1000000,.ow 0)] [.old 0 ⟨143,2,[.agg [.sl (ts.map tk),ii (j)]]⟩] ?_
   simp[go_sem]
  ·rw[if_neg h2]
   refine aS ?_
   refine lC ⟨mkE [(0,pp),(4,.el 1 5 0 0),(5,ii 0),(1000000,.ow 0)],[pst ts i,.row ⟨30,5,[.agg [ii 0,ii 0,ii 0,ss [],.nil]]⟩]⟩ ?_ ?_
   ·by_cases hf3:form≤3
    ·have s2:isT ts [110,111,116] i=false:=by
      cases hs:isT ts [110,111,116] i with
      |true=>exact absurd ⟨hf3,hs⟩ h2
      |false=>rfl
     rw[k7 s2,s2]at c2
     (repeat(refine a7 q17x1 hX mixed rfl ?_;simp[go_sem,hf3]))
     refine aW [0] (fun hg=>c2) (by simp[go_sem]) (by simp[go_sem]) ?_
     simp[go_sem]
     refine yF ?_
     (repeat(refine a7 q17x1 hX mixed rfl ?_;simp[go_sem]))
     refine yS _ [.old 0 ⟨143,2,[.agg [.sl (ts.map tk),ii (i)]]⟩,.old 1 ⟨30,5,[.agg [ii 0,ii 0,ii 0,ss [],.nil]]⟩] ?_
     simp[go_sem]
    ·(repeat(refine a7 q17x1 hX mixed rfl ?_;simp[go_sem,hf3]))
     refine bT rfl ?_
     simp[go_sem,hf3]
     refine yF ?_ (by simp[go_sem,hf3])
     (repeat(refine a7 q17x1 hX mixed rfl ?_;simp[go_sem]))
     refine yS _ [.old 0 ⟨143,2,[.agg [.sl (ts.map tk),ii (i)]]⟩,.old 1 ⟨30,5,[.agg [ii 0,ii 0,ii 0,ss [],.nil]]⟩] ?_
     simp[go_sem]
   (simp[go_sem];try(refine⟨by kernel_rfl,?_⟩))
   (repeat(refine a7 q17x1 hX mixed rfl ?_;simp[go_sem]))
   cases e1:primaryF f ts i with
   |no p e=>
    refine aF [0] (aL c3 e1) (by simp[go_sem]) ?_
    simp[go_sem,Pr.bind_no]
   |ok a j=>
   rw[Pr.bind_ok,aY]
   refine yH [0] (aM c3 e1) ?_
   simp[go_sem]
   refine aB ?_;refine aA [(5,ii 7),(1000000,.ow 0)] [.old 0 ⟨143,2,[.agg [.sl (ts.map tk),ii (j)]]⟩] ?_
   simp[go_sem]
end Go.Proofs.YtllgjognpobnpaaGreatDoor

namespace Go.Proofs.YtllgjognpobnpaaGreatDoor
open Go.RowKit Go.Ab
attribute [local irreducible] AWP Go.Ab.Sub Means MeansH CallK CallG CallT CallGT PanicH
theorem yK{ts:List Tk}{i:Nat}(h:(opTab.findIdx? fun o=>isT ts o.text i)=none):opAt ts i=none:=by
 unfold opAt
 rw[List.find?_eq_none]
 intro o ho
 rw[List.findIdx?_eq_none_iff.1 h o ho];simp
theorem yL{ts:List Tk}{i n:Nat}(h:(opTab.findIdx? fun o=>isT ts o.text i)=some n):∃hn:n<opTab.length,opAt ts i=some opTab[n]∧isT ts opTab[n].text i=true:=by
 obtain⟨h1,h2,h3⟩:=List.findIdx?_eq_some_iff_getElem.1 h
 refine⟨h1,?_,h2⟩
 unfold opAt
 rw[List.find?_eq_some_iff_getElem]
 exact⟨h2,n,h1,rfl,fun j hj=>by simpa using h3 j hj⟩
theorem EK{o:Opr}(h:o∈opTab):1≤o.form∧o.form≤6:=by
 simp only[opTab,List.mem_cons,List.not_mem_nil,or_false]at h
 rcases h with rfl|rfl|rfl|rfl|rfl|rfl|rfl|rfl<;>decide
set_option maxHeartbeats 8000000 in
theorem B9{ts:List Tk}(hn:OkT ts){f:Nat}(hE:∀g,g≤f→ExpC ts g)(hP:∀(form:Int) i,i<ts.length→3*(ts.length-i)+2≤f→OutH Tryz.prog 151 [pst ts i] [pp,ii form] (outP (prefixF f ts form i) (fun x=>.tup [ex x.1,ii x.2]) ts []))(form:Int){i:Nat}(hi:i<ts.length)(hf:3*(ts.length-i)+2≤f):
  OutH Tryz.prog 119 [pst ts i] [pp,ii form] (outP (expF (f+1) ts form i) ex ts []):=by
 have hlen:=hn.len
 have one:∀{s:By} {i j:Nat},i<ts.length→wantT ts [s] i=.ok () j→i<j∧j<ts.length:=fun hi hw=>by have:=bD hn hi hw;simp at this;omega
 have c1:=hP form i hi hf
 rw[expF]
 refine cN 1 64 [.cell 4 30] Tryz.func119 rfl rfl rfl (by simp) (by decide) rfl fun X hX=>?_
 (repeat(refine a7 q17x2 hX mixed rfl ?_;simp[go_sem]))
 cases e1:prefixF f ts form i with
 |no p e=>
  refine aF [0] (aL c1 e1) (by simp[go_sem]) ?_
  simp[go_sem,Pr.bind_no]
 |ok x j0=>
 rw[Pr.bind_ok]
 have b1:=(g7 hn f).2.2.1 _ _ _ _ hi e1
 refine yH [0] (aM c1 e1) ?_
 simp[go_sem]
 (repeat(refine a7 q17x2 hX mixed rfl ?_;simp[go_sem]))
 refine aG (fun(q:Nat×E×Int×Nat)=>⟨mkE [(1,ii form),(2,.el 1 1 0 0),(4,.el 2 5 0 0),(5,.el 3 5 0 0),(6,ii q.2.2.1),(1000000,.ow 0)],[pst ts q.2.2.2,pbox,.row ⟨30,5,[.agg [ii 0,ii 0,ii 0,ss [],.nil]]⟩,.row ⟨30,5,[ex q.2.1]⟩]⟩)
  (fun q=>q.1≤f∧q.2.2.2<ts.length∧3*(ts.length-q.2.2.2)+3≤q.1∧loopF f ts form x.1 x.2 j0=loopF q.1 ts form q.2.1 q.2.2.1 q.2.2.2) (fun q=>ts.length-q.2.2.2) (f,x.1,x.2,j0) ?_ ?_ ?_
 ·refine yS _ [.old 0 ⟨143,2,[.agg [.sl (ts.map tk),ii (j0)]]⟩,.old 1 ⟨78,1,[.el 0 2 0 0]⟩,.old 2 ⟨30,5,[.agg [ii 0,ii 0,ii 0,ss [],.nil]]⟩,.old 3 ⟨30,5,[ex (x.1)]⟩] ?_
  simp[go_sem]
 ·refine⟨Nat.le_refl _,b1.2,?_,rfl⟩
  show 3*(ts.length-j0)+3≤f
  omega
 ·rintro⟨g,e,own,at_⟩ ⟨hg,hat,hm,hl⟩
  simp only[]at hg hat hm hl⊢
  rw[hl]
  obtain⟨g',rfl⟩:∃g',g=g'+1:=⟨g-1,by omega⟩
  rw[loopF]
  have d1:=s0
  have d2:=yG hn hat opTab (by decide) (by simp[go_sem])
  (repeat(refine a7 q17x2 hX mixed rfl ?_;simp[go_sem]))
  refine aD d1 ?_
  simp[go_sem]
  refine yH [0,1] d2 ?_
  simp[go_sem]
  cases hx:opTab.findIdx? fun o=>isT ts o.text at_ with
  |none=>
   rw[yK hx,aY]
   (repeat(refine a7 q17x2 hX mixed rfl ?_;simp[go_sem]))
   refine yT ?_
   (repeat(refine a7 q17x2 hX mixed rfl ?_;simp[go_sem]))
   refine aB ?_;simp only[thenQ,blkQ,loopQ];refine aA [(1000000,.ow 0)] [.old 0 ⟨143,2,[.agg [.sl (ts.map tk),ii (at_)]]⟩] ?_
   simp[go_sem]
  |some n=>
  obtain⟨hn1,ho,hs⟩:=yL hx
  rw[ho]
  have hof:=EK (List.getElem_mem hn1)
  have hq:=B7 hn1
  generalize opTab[n]=o at ho hs hof hq
  have hat1:=hn.has hat hs
  have wk:=w64 (x:=(at_:Int)+1) (by omega) (by omega)
  have wf:=w64 (x:=o.form+1) (by omega) (by omega)
  (repeat(refine a7 q17x2 hX mixed rfl ?_;simp[go_sem]))
  refine yF ?_
  (repeat(refine a7 q17x2 hX mixed rfl ?_;simp[go_sem]))
  refine aD d1 ?_
  simp[go_sem,hn1,hq]
  (repeat(refine a7 q17x2 hX mixed rfl ?_;simp[go_sem,hn1,hq]))
  refine⟨fun a b c=>⟨⟨a,b⟩,c⟩,?_⟩
  refine yC (decide (o.form<form)||decide (own<o.form)||decide (own=4)&&decide (o.form=4)) (fun hc=>?_) fun hc=>?_
  ·have hc':o.form<form∨own<o.form∨(own=4∧o.form=4):=by simpa[or_assoc]using hc
   rw[if_pos hc',aY]
   (repeat(refine a7 q17x2 hX mixed rfl ?_;simp[go_sem]))
   refine aB ?_;simp only[thenQ,blkQ,loopQ];refine aA [(1000000,.ow 0)] [.old 0 ⟨143,2,[.agg [.sl (ts.map tk),ii (at_)]]⟩] ?_
   simp[go_sem]
  ·have hc':¬(o.form<form∨own<o.form∨(own=4∧o.form=4)):=by
    rintro h
    have:(decide (o.form<form)||decide (own<o.form)||decide (own=4)&&decide (o.form=4))=true:=by simpa[or_assoc]using h
    rw[this]at hc;cases hc
   rw[if_neg hc']
   have d3:=(hE g' (by omega)).exp (o.form+1) (at_+1) hat1 (by omega)
   have b2:=(g7 hn g').1 (o.form+1) (at_+1)
   cases e2:expF g' ts (o.form+1) (at_+1)with
   |no p q=>
    (repeat(first|refine aS ?_|refine aP ?_))
    ((first|refine aQ q17x2 hX ?_|refine aK q17x2 hX mixed ?_|refine aB ?_|refine aJ ?_|refine aR ?_);(simp[go_sem];try(refine⟨by kernel_rfl,?_⟩)))
    (repeat(first|refine aS ?_|refine aP ?_))
    ((first|refine aQ q17x2 hX ?_|refine aK q17x2 hX mixed ?_|refine aB ?_|refine aJ ?_|refine aR ?_);(simp[go_sem,wk];try(refine⟨by kernel_rfl,?_⟩)))
    (repeat(first|refine aS ?_|refine aP ?_))
    refine gT 7 hX mixed (by kernel_rfl) (by kernel_rfl) ?_;(simp[go_sem,wf];try(refine⟨by kernel_rfl,?_⟩))
    refine eB [0] (aL d3 e2) (by simp[go_sem]) ?_
    simp[go_sem,Pr.bind_no]
   |ok y j=>
   rw[Pr.bind_ok]
   have b2:=b2 y j hat1 e2
   (repeat(refine a7 q17x2 hX mixed rfl ?_;simp[go_sem,wk,wf]))
   refine dB [0] (aM d3 e2) (by simp[go_sem]) ?_
   (simp[go_sem];try(refine⟨by kernel_rfl,?_⟩))
   (repeat(refine a7 q17x2 hX mixed rfl ?_;simp[go_sem]))
   refine⟨g',.bin o.op e y,o.form,j,⟨by omega,b2.2,by omega,rfl⟩,by omega,?_⟩
   ·refine yS _ [.old 0 ⟨143,2,[.agg [.sl (ts.map tk),ii (j)]]⟩,.old 1 ⟨78,1,[.el 0 2 0 0]⟩,.old 2 ⟨30,5,[.agg [ii 0,ii 0,ii 0,ss [],.nil]]⟩,.old 3 ⟨30,5,[ex (.bin o.op e y)]⟩] ?_
    simp[go_sem]
theorem vZ{ts:List Tk}(hn:OkT ts):∀f:Nat,(∀g,g≤f→ExpC ts g)∧(∀(form:Int) i,i<ts.length→3*(ts.length-i)+2≤f→OutH Tryz.prog 151 [pst ts i] [pp,ii form] (outP (prefixF f ts form i) (fun x=>.tup [ex x.1,ii x.2]) ts []))∧
  ∀i,i<ts.length→3*(ts.length-i)+1≤f→OutH Tryz.prog 179 [pst ts i] [pp] (outP (primaryF f ts i) ex ts [])
 |0=>⟨fun g hg=>⟨fun form i hi h=>by omega⟩,fun form i hi h=>by omega,fun i hi h=>by omega⟩
 |f+1=>by
  obtain⟨hE,hP,hQ⟩:=vZ hn f
  refine⟨fun g hg=>?_,fun form i hi h=>B8 hn (hE f (Nat.le_refl _)) hQ form hi (by omega),fun i hi h=>yJ hn (hE f (Nat.le_refl _)) hi (by omega)⟩
  by_cases hgf:g≤f
  ·exact hE g hgf
  ·have:g=f+1:=by omega
   subst this
   exact⟨fun form i hi h=>B9 hn hE hP form hi (by omega)⟩
theorem IW{ts:List Tk}(hn:OkT ts)(form:Int){i:Nat}(hi:i<ts.length):OutH Tryz.prog 119 [pst ts i] [pp,ii form] (outP (expT ts form i) ex ts []):=
 ((vZ hn (3*ts.length+5)).1 _ (Nat.le_refl _)).exp form i hi (by omega)
end Go.Proofs.YtllgjognpobnpaaGreatDoor

namespace Go.Proofs.YtllgjognpobnpaaGreatDoor
open Go.RowKit Go.Ab
attribute [local irreducible] AWP Go.Ab.Sub Means MeansH CallK CallG CallT CallGT PanicH
set_option maxHeartbeats 4000000 in
theorem q9{ts:List Tk}(hn:OkT ts){i:Nat}(hi:i<ts.length):
  OutH Tryz.prog 68 [pst ts i] [pp] (outP (wholeT ts i) ex ts []):=by
 have hlen:=hn.len
 have c1:=IW hn 0 hi
 unfold wholeT
 refine cN 1 23 [.cell 2 30] Tryz.func68 rfl rfl rfl (by simp) (by decide) rfl fun X hX=>?_
 (repeat(refine a7 [0,2,3,1000000] hX mixed rfl ?_;simp[go_sem]))
 cases e1:expT ts 0 i with
 |no p e=>
  refine aF [0] (aL c1 e1) (by simp[go_sem]) ?_
  simp[go_sem,Pr.bind_no]
 |ok e j=>
 rw[Pr.bind_ok]
 have b1:=(g7 hn _).1 _ _ _ _ hi e1
 have hlev:e.lev≤5000:=by
  have:=(w8 hn _).1 _ _ _ _ hi e1
  omega
 refine yH [0] (aM c1 e1) ?_
 simp[go_sem]
 have c2:=rY hn b1.2 [59]
 have c4:=s3 5000 e hlev (by omega)
 (repeat(refine a7 [0,2,3,1000000] hX mixed rfl ?_;simp[go_sem]))
 refine yH [0] c2 ?_
 simp[go_sem]
 cases s1:isT ts [59] j with
 |false=>
  have c3:=eP hn b1.2 12
  refine aF [0] (c3) (by simp[go_sem]) ?_
  simp[go_sem]
 |true=>
 rw[if_pos rfl]
 have c3:=eM hn b1.2 12
 have hj1:=hn.has b1.2 s1
 have wk:=w64 (x:=(j:Int)+1) (by omega) (by omega)
 refine yH [0] c3 ?_
 simp[go_sem]
 (repeat(refine a7 [0,2,3,1000000] hX mixed rfl ?_;simp[go_sem]))
 refine aD c4 ?_
 simp[go_sem]
 by_cases hl:e.lev≤12
 ·rw[if_pos hl,aY]
  have c5:=fJ hn b1.2 6 (b:=decide ((e.lev:Int)≤12)) (by simp;omega)
  refine yH [0] c5 ?_
  simp[go_sem]
  (repeat(refine a7 [0,2,3,1000000] hX mixed rfl ?_;simp[go_sem,wk]))
  refine aB ?_;refine aA [(1000000,.ow 0)] [.old 0 ⟨143,2,[.agg [.sl (ts.map tk),ii ((j+1:Nat))]]⟩] ?_
  simp[go_sem]
 ·rw[if_neg hl]
  have c5:=fK hn b1.2 6 (b:=decide ((e.lev:Int)≤12)) (by simp;omega)
  refine aF [0] (c5) (by simp[go_sem]) ?_
  simp[go_sem]
set_option maxHeartbeats 4000000 in
theorem jA{ts:List Tk}(hn:OkT ts){i:Nat}(hi:i<ts.length)(w:By):
  OutH Tryz.prog 69 [pst ts i] [pp,ss w] (outP (clauseT ts w i) ex ts []):=by
 have hlen:=hn.len
 have c1:=dX hn hi w
 have c3:=yI
 unfold clauseT
 refine cN 1 11 [.cell 4 30] Tryz.func69 rfl rfl rfl (by simp) (by decide) rfl fun X hX=>?_
 (repeat(refine a7 [0,1,4,7,1000000] hX mixed rfl ?_;simp[go_sem]))
 refine yH [0] c1 ?_
 simp[go_sem]
 cases s1:isT ts w i with
 |true=>
  have hi1:=hn.has hi s1
  rw[if_pos rfl,k8 s1]
  have c2:=q9 hn hi1
  refine yT ?_
  (repeat(refine a7 [0,1,4,7,1000000] hX mixed rfl ?_;simp[go_sem]))
  cases e1:wholeT ts (i+1)with
  |no p e=>
   refine aF [0] (aL c2 e1) (by simp[go_sem]) ?_
   simp[go_sem,Pr.bind_no]
  |ok e j=>
  rw[aY]
  refine yH [0] (aM c2 e1) ?_
  simp[go_sem]
  refine aB ?_;simp only[thenQ,blkQ,loopQ];refine aA [(1000000,.ow 0)] [.old 0 ⟨143,2,[.agg [.sl (ts.map tk),ii (j)]]⟩] ?_
  simp[go_sem]
 |false=>
  rw[if_neg (by simp),k7 s1,aY]
  refine yF ?_
  (repeat(refine a7 [0,1,4,7,1000000] hX mixed rfl ?_;simp[go_sem]))
  refine aD c3 ?_
  simp[go_sem]
  refine aB ?_;refine aA [(1000000,.ow 0)] [.old 0 ⟨143,2,[.agg [.sl (ts.map tk),ii (i)]]⟩] ?_
  simp[go_sem]
abbrev lt(l:By×E):AV:=.agg [ss l.1,ii l.2.op,ii l.2.n,ii l.2.u,ss l.2.s,.sl l.2.args]
@[go_sem] theorem dA{L:List (By×E)}{k:Nat}(h:k<L.length):nth (L.map lt) k=lt L[k]:=cG lt h
abbrev bl(b:Bl):AV:=.agg [ii b.kind,ii b.period,ii b.grace,ii b.wait,ii b.last,ii b.order,bb b.sld,ii b.backs,ii b.voices,ii b.jury,ii b.fund,.sl (b.lets.map lt),
 ii b.due.op,ii b.due.n,ii b.due.u,ss b.due.s,.sl b.due.args,ii b.fine.op,ii b.fine.n,ii b.fine.u,ss b.fine.s,.sl b.fine.args,ii b.pay.op,ii b.pay.n,ii b.pay.u,ss b.pay.s,.sl b.pay.args,
 ii b.cover.op,ii b.cover.n,ii b.cover.u,ss b.cover.s,.sl b.cover.args,ii b.hold.op,ii b.hold.n,ii b.hold.u,ss b.hold.s,.sl b.hold.args]
abbrev sbox(s:By):Cell:=.row ⟨9,1,[ss s]⟩
theorem HF(s:By)(l:By×E):MeansH Tryz.prog 66 [sbox s] [lt l,.el 0 1 0 0] (bb (decide (l.1=s))) [sbox s]:=by
 refine yN 1 8 [.tmp 3] [0,1,2,3,1000000] Tryz.func66 fun X hX=>?_
 (repeat(refine yB ?_;(simp[go_sem])))
 refine aB ?_;refine aA [(3,bb (decide (l.1=s))),(1000000,.ow 0)] [.old 0 ⟨9,1,[ss s]⟩] ?_
 simp[go_sem]
abbrev lrow(L:List (By×E)):Cell:=.row ⟨119,6,L.map lt⟩
set_option maxHeartbeats 4000000 in
theorem u9(s:By)(L:List (By×E))(hl:L.length≤1000)(hcall:callable Tryz.prog 66=true):
  MeansH Tryz.prog 118 [lrow L,sbox s] [.ow 0,.fn 66 [] [.el 1 1 0 0]] (ii (match L.findIdx? fun l=>decide (l.1=s)with|some n=>(n:Int)|none=> -1)) [lrow L,sbox s]:=by
 refine yN 2 19 [.tmp 4] [0,1,4,5,7,8,9,16,1000000,1000001] Tryz.func118 fun X hX=>?_
 (repeat(refine yB ?_;(simp[go_sem])))
 refine aG (fun n:Nat=>⟨mkE [(0,.ow 0),(1,.fn 66 [] [.el 1 1 0 0]),(7,ii L.length),(8,ii n),(1000000,.ow 0),(1000001,.ow 1)],[lrow L,sbox s]⟩) (fun n=>n≤L.length∧∀k (h:k<L.length),k<n→¬L[k].1=s) (fun n=>L.length-n) 0 ?_ ?_ ?_
 ·refine yS _ [.old 0 ⟨119,6,L.map lt⟩,.old 1 ⟨9,1,[ss s]⟩] ?_
  simp[go_sem]
 ·exact⟨Nat.zero_le _,fun k h hk=>absurd hk (by omega)⟩
 ·rintro n ⟨h1,h2⟩
  (repeat(refine yB ?_;(simp[go_sem])))
  refine yC (decide (n<L.length)) (fun hc=>?_) fun hc=>?_
  ·simp at hc
   have hq:=dA hc
   have wk:=w64 (x:=(n:Int)+1) (by omega) (by omega)
   have c1:=HF s L[n]
   (repeat(refine yB ?_;(simp[go_sem,hc,hq,hcall])))
   refine yH [1] c1 ?_
   simp[go_sem]
   refine yC (decide (L[n].1=s)) (fun hs=>?_) fun hs=>?_
   ·simp at hs
    have e1:L.findIdx? (fun l=>decide (l.1=s))=some n:=by
     rw[List.findIdx?_eq_some_iff_getElem]
     exact⟨hc,by simpa using hs,fun k hk=>by simpa using h2 k (by omega) hk⟩
    rw[e1]
    (repeat(refine yB ?_;(simp[go_sem])))
    refine aB ?_;simp only[thenQ,blkQ,loopQ];refine aA [(4,ii n),(1000000,.ow 0),(1000001,.ow 1)] [.old 0 ⟨119,6,L.map lt⟩,.old 1 ⟨9,1,[ss s]⟩] ?_
    simp[go_sem]
   ·simp at hs
    (repeat(refine yB ?_;(simp[go_sem,wk])))
    refine⟨n+1,⟨by omega,fun k h hk=>?_⟩,by omega,?_⟩
    ·by_cases e:k=n
     ·subst e;exact hs
     ·exact h2 k h (by omega)
    ·refine yS _ [.old 0 ⟨119,6,L.map lt⟩,.old 1 ⟨9,1,[ss s]⟩] ?_
     simp[go_sem]
  ·simp at hc
   have e1:L.findIdx? (fun l=>decide (l.1=s))=none:=by
    rw[List.findIdx?_eq_none_iff]
    intro x hx
    obtain⟨k,hk,rfl⟩:=List.getElem_of_mem hx
    simpa using h2 k hk (by omega)
   rw[e1]
   (repeat(refine yB ?_;(simp[go_sem])))
   refine aB ?_;refine aA [(4,ii (-1)),(1000000,.ow 0),(1000001,.ow 1)] [.old 0 ⟨119,6,L.map lt⟩,.old 1 ⟨9,1,[ss s]⟩] ?_
   simp[go_sem]
theorem nX(s:By)(L:List (By×E))(hl:L.length≤1000):
  MeansH Tryz.prog 65 [lrow L,sbox s] [.ow 0,.fn 66 [] [.el 1 1 0 0]] (bb (L.any fun l=>decide (l.1=s))) [lrow L,sbox s]:=by
 have c1:=u9 s L hl (by simp[go_sem])
 refine yN 2 9 [.tmp 4] [0,1,4,1000000,1000001] Tryz.func65 fun X hX=>?_
 (repeat(refine yB ?_;(simp[go_sem])))
 refine yH [0,1] c1 ?_
 simp[go_sem]
 have e:bb (L.any fun l=>decide (l.1=s))=bb (decide (0≤(match L.findIdx? fun l=>decide (l.1=s)with|some n=>(n:Int)|none=> -1))):=by
  cases hf:L.findIdx? fun l=>decide (l.1=s)with
  |none=>
   have:(L.any fun l=>decide (l.1=s))=false:=by
    rw[List.any_eq_false]
    intro x hx
    simpa using List.findIdx?_eq_none_iff.1 hf x hx
   rw[this];rfl
  |some n=>
   obtain⟨h1,h2,_⟩:=List.findIdx?_eq_some_iff_getElem.1 hf
   have:(L.any fun l=>decide (l.1=s))=true:=List.any_eq_true.2 ⟨L[n],List.getElem_mem h1,h2⟩
   rw[this]
   simp
 rw[e]
 refine aB ?_;refine aA [(4,bb (decide (0≤(match L.findIdx? fun l=>decide (l.1=s)with|some n=>(n:Int)|none=> -1)))),(1000000,.ow 0),(1000001,.ow 1)] [.old 0 ⟨119,6,L.map lt⟩,.old 1 ⟨9,1,[ss s]⟩] ?_
 simp[go_sem]
end Go.Proofs.YtllgjognpobnpaaGreatDoor

