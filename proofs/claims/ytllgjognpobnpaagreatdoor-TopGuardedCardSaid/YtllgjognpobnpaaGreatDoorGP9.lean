/-
  Lemmas for the statement at the top.
-/
import Derived.Test.YtllgjognpobnpaaGreatDoorGP6
import Derived.Test.YtllgjognpobnpaaGreatDoorGP8
import Derived.Test.YtllgjognpobnpaaGreatDoorGP7
set_option linter.all false
namespace Go.Ab
def q18x0:List Nat:=[0,2,3,4,56,1000000]
def q18x1:List Nat:=[0,2,3,4,5,13]
attribute [go_sem] q18x0 q18x1
end Go.Ab
namespace Go.Proofs.YtllgjognpobnpaaGreatDoor
open Go.RowKit Go.Ab
attribute [local irreducible] AWP Go.Ab.Sub Means MeansH CallK CallG CallT CallGT PanicH
theorem uK{f:Nat}{ts:List Tk}{acc:List (By×E)}{i:Nat}:letsF (f+1) ts acc i=if isT ts [108,101,116] i then
   (if acc.length<20 then
    (if(nx ts (i+1)).kind=1∧nameOk (nx ts (i+1)).text=true then
     (if acc.any fun l=>decide (l.1=(nx ts (i+1)).text)then .no (nx ts (i+1)).pos 5
      else(wantT ts [[61]] (i+1+1)).bind fun _ j=>(wholeT ts j).bind fun e k=>letsF f ts (acc++[((nx ts (i+1)).text,e)]) k)
     else .no (nx ts (i+1)).pos 12)
    else .no (nx ts i).pos 6)
  else .ok acc i:=rfl
set_option maxHeartbeats 20000000 in
set_option maxRecDepth 20000 in
theorem C9{ts:List Tk}(hn:OkT ts)(hi:0<ts.length):
  OutH Tryz.prog 26 [pst ts 0] [pp] (outP (bylawsT ts) bl ts []):=by
 have hlen:=hn.len
 have c0:=HD hn hi
 unfold bylawsT
 refine cN 1 134 [.cell 2 32] Tryz.func26 rfl rfl rfl (by simp) (by decide) rfl fun X hX=>?_
 (repeat(refine a7 q18x0 hX mixed rfl ?_;simp[go_sem]))
 cases e0:kindT ts 0 with
 |no p e=>
  refine aF [0] (aL c0 e0) (by simp[go_sem]) ?_
  simp[go_sem,Pr.bind_no]
 |ok k i0=>
 rw[Pr.bind_ok]
 refine yH [0] (aM c0 e0) ?_
 simp[go_sem]
 have b0:=(C0 hn hi e0).2
 have q1:=rY hn b0 [112,101,114,105,111,100]
 (repeat(refine a7 q18x0 hX mixed rfl ?_;simp[go_sem]))
 refine yH [0] q1 ?_
 simp[go_sem]
 try unfold chk
 cases s1:isT ts [112,101,114,105,111,100] i0 with
 |false=>
  have c:=eP hn b0 12
  refine aF [0] (c) (by simp[go_sem]) ?_
  simp[go_sem]
 |true=>
 rw[if_pos rfl]
 have r1:=eM hn b0 12
 refine yH [0] r1 ?_
 simp[go_sem]
 have c1:=g6 hn b0 [112,101,114,105,111,100] 1 1000 [[100,97,121,115],[59]] (by simp)
 (repeat(refine a7 q18x0 hX mixed rfl ?_;simp[go_sem]))
 cases e1:partT ts [112,101,114,105,111,100] 1 1000 [[100,97,121,115],[59]] i0 with
 |no p e=>
  refine aF [0,3] (aL c1 e1) (by simp[go_sem]) ?_
  simp[go_sem,Pr.bind_no]
 |ok period i1=>
 rw[Pr.bind_ok]
 refine yH [0,3] (aM c1 e1) ?_
 simp[go_sem]
 have b1:=(dS hn b0 e1).2.1
 have q2:=rY hn b1 [108,97,115,116]
 (repeat(refine a7 q18x0 hX mixed rfl ?_;simp[go_sem]))
 refine yH [0] q2 ?_
 simp[go_sem]
 try unfold chk
 cases s2:isT ts [108,97,115,116] i1 with
 |false=>
  have c:=eP hn b1 12
  refine aF [0] (c) (by simp[go_sem]) ?_
  simp[go_sem]
 |true=>
 rw[if_pos rfl]
 have r2:=eM hn b1 12
 refine yH [0] r2 ?_
 simp[go_sem]
 have c2:=g6 hn b1 [108,97,115,116] 1 1000 [[59]] (by simp)
 (repeat(refine a7 q18x0 hX mixed rfl ?_;simp[go_sem]))
 cases e2:partT ts [108,97,115,116] 1 1000 [[59]] i1 with
 |no p e=>
  refine aF [0,4] (aL c2 e2) (by simp[go_sem]) ?_
  simp[go_sem,Pr.bind_no]
 |ok last i2=>
 rw[Pr.bind_ok]
 refine yH [0,4] (aM c2 e2) ?_
 simp[go_sem]
 have b2:=(dS hn b1 e2).2.1
 have c3:=g6 hn b2 [103,114,97,99,101] 0 1000 [[100,97,121,115],[59]] (by simp)
 (repeat(refine a7 q18x0 hX mixed rfl ?_;simp[go_sem]))
 cases e3:partT ts [103,114,97,99,101] 0 1000 [[100,97,121,115],[59]] i2 with
 |no p e=>
  refine aF [0,5] (aL c3 e3) (by simp[go_sem]) ?_
  simp[go_sem,Pr.bind_no]
 |ok grace i3=>
 rw[Pr.bind_ok]
 refine yH [0,5] (aM c3 e3) ?_
 simp[go_sem]
 have b3:=(dS hn b2 e3).2.1
 have c4:=g6 hn b3 [119,97,105,116] 0 1000 [[100,97,121,115],[59]] (by simp)
 (repeat(refine a7 q18x0 hX mixed rfl ?_;simp[go_sem]))
 cases e4:partT ts [119,97,105,116] 0 1000 [[100,97,121,115],[59]] i3 with
 |no p e=>
  refine aF [0,6] (aL c4 e4) (by simp[go_sem]) ?_
  simp[go_sem,Pr.bind_no]
 |ok wait i4=>
 rw[Pr.bind_ok]
 refine yH [0,6] (aM c4 e4) ?_
 simp[go_sem]
 have b4:=(dS hn b3 e4).2.1
 have c5:=EI hn b4
 (repeat(refine a7 q18x0 hX mixed rfl ?_;simp[go_sem]))
 cases e5:orderT ts i4 with
 |no p e=>
  refine aF [0] (aL c5 e5) (by simp[go_sem]) ?_
  simp[go_sem,Pr.bind_no]
 |ok order i5=>
 rw[Pr.bind_ok]
 refine yH [0] (aM c5 e5) ?_
 simp[go_sem]
 have b5:=(zA hn b4 e5).2
 have c6:=g6 hn b5 [98,97,99,107,115] 0 60 [[59]] (by simp)
 (repeat(refine a7 q18x0 hX mixed rfl ?_;simp[go_sem]))
 cases e6:partT ts [98,97,99,107,115] 0 60 [[59]] i5 with
 |no p e=>
  refine aF [0,7] (aL c6 e6) (by simp[go_sem]) ?_
  simp[go_sem,Pr.bind_no]
 |ok backs i6=>
 rw[Pr.bind_ok]
 refine yH [0,7] (aM c6 e6) ?_
 simp[go_sem]
 have b6:=(dS hn b5 e6).2.1
 have c7:=g6 hn b6 [118,111,105,99,101,115] 0 1000 [[112,101,114],[109,105,108,108,101],[59]] (by simp)
 (repeat(refine a7 q18x0 hX mixed rfl ?_;simp[go_sem]))
 cases e7:partT ts [118,111,105,99,101,115] 0 1000 [[112,101,114],[109,105,108,108,101],[59]] i6 with
 |no p e=>
  refine aF [0,8] (aL c7 e7) (by simp[go_sem]) ?_
  simp[go_sem,Pr.bind_no]
 |ok voices i7=>
 rw[Pr.bind_ok]
 refine yH [0,8] (aM c7 e7) ?_
 simp[go_sem]
 have b7:=(dS hn b6 e7).2.1
 have c8:=g6 hn b7 [106,117,114,121] 0 60 [[59]] (by simp)
 (repeat(refine a7 q18x0 hX mixed rfl ?_;simp[go_sem]))
 cases e8:partT ts [106,117,114,121] 0 60 [[59]] i7 with
 |no p e=>
  refine aF [0,9] (aL c8 e8) (by simp[go_sem]) ?_
  simp[go_sem,Pr.bind_no]
 |ok jury i8=>
 rw[Pr.bind_ok]
 refine yH [0,9] (aM c8 e8) ?_
 simp[go_sem]
 have b8:=(dS hn b7 e8).2.1
 have c9:=g6 hn b8 [102,117,110,100] 0 1000 [[112,101,114],[109,105,108,108,101],[59]] (by simp)
 (repeat(refine a7 q18x0 hX mixed rfl ?_;simp[go_sem]))
 cases e9:partT ts [102,117,110,100] 0 1000 [[112,101,114],[109,105,108,108,101],[59]] i8 with
 |no p e=>
  refine aF [0,10] (aL c9 e9) (by simp[go_sem]) ?_
  simp[go_sem,Pr.bind_no]
 |ok fund i9=>
 rw[Pr.bind_ok]
 refine yH [0,10] (aM c9 e9) ?_
 simp[go_sem]
 have b9:=(dS hn b8 e9).2.1
 (repeat(refine a7 q18x0 hX mixed rfl ?_;simp[go_sem]))
 unfold letsT
 refine aG (fun(q:Nat×List (By×E)×Nat)=>⟨mkE [(0,pp),(2,.el 1 37 0 0),(3,.el 2 37 0 0),(1000000,.ow 0)],[pst ts q.2.2,.row ⟨32,37,[.agg [ii 0,ii 0,ii 0,ii 0,ii 0,ii 0,bb false,ii 0,ii 0,ii 0,ii 0,.nil,ii 0,ii 0,ii 0,ss [],.nil,ii 0,ii 0,ii 0,ss [],.nil,ii 0,ii 0,ii 0,ss [],.nil,ii 0,ii 0,ii 0,ss [],.nil,ii 0,ii 0,ii 0,ss [],.nil]]⟩,.row ⟨32,37,[.agg [ii k.1,ii period,ii grace,ii wait,ii last,ii order,bb k.2,ii backs,ii voices,ii jury,ii fund,.ow 3,ii 0,ii 0,ii 0,ss [],.nil,ii 0,ii 0,ii 0,ss [],.nil,ii 0,ii 0,ii 0,ss [],.nil,ii 0,ii 0,ii 0,ss [],.nil,ii 0,ii 0,ii 0,ss [],.nil]]⟩,lrow q.2.1]⟩)
  (fun q=>q.2.2<ts.length∧ts.length-q.2.2+1≤q.1∧q.2.1.length≤20∧letsF (ts.length+1) ts [] i9=letsF q.1 ts q.2.1 q.2.2) (fun q=>ts.length-q.2.2) (ts.length+1,[],i9) ?_ ?_ ?_
 ·refine yS _ [.old 0 ⟨143,2,[.agg [.sl (ts.map tk),ii (i9)]]⟩,.old 1 ⟨32,37,[.agg [ii 0,ii 0,ii 0,ii 0,ii 0,ii 0,bb false,ii 0,ii 0,ii 0,ii 0,.nil,ii 0,ii 0,ii 0,ss [],.nil,ii 0,ii 0,ii 0,ss [],.nil,ii 0,ii 0,ii 0,ss [],.nil,ii 0,ii 0,ii 0,ss [],.nil,ii 0,ii 0,ii 0,ss [],.nil]]⟩,.old 2 ⟨32,37,[.agg [ii k.1,ii period,ii grace,ii wait,ii last,ii order,bb k.2,ii backs,ii voices,ii jury,ii fund,.ow 3,ii 0,ii 0,ii 0,ss [],.nil,ii 0,ii 0,ii 0,ss [],.nil,ii 0,ii 0,ii 0,ss [],.nil,ii 0,ii 0,ii 0,ss [],.nil,ii 0,ii 0,ii 0,ss [],.nil]]⟩,.birth 119 6] ?_
  simp[go_sem]
 ·refine⟨b9,?_,by simp,rfl⟩
  show ts.length-i9+1≤ts.length+1
  omega
 rintro⟨g,acc,at_⟩ ⟨hat,hm,hacc,hl⟩
 simp only[]at hat hm hacc hl⊢
 rw[hl]
 obtain⟨g',rfl⟩:∃g',g=g'+1:=⟨g-1,by omega⟩
 rw[uK]
 have l1:=rY hn hat [108,101,116]
 (repeat(refine a7 q18x0 hX mixed rfl ?_;simp[go_sem]))
 refine yH [0] l1 ?_
 simp[go_sem]
 cases s1:isT ts [108,101,116] at_ with
 |false=>
  rw[if_neg (by simp),Pr.bind_ok]
  refine yF ?_
  have m1:=cS hn hat [[100,117,101]] (by simp)
  (repeat(refine a7 q18x0 hX mixed rfl ?_;simp[go_sem]))
  cases w1:wantT ts [[100,117,101]] at_ with
  |no p e=>
   refine aF [0,4] (aL m1 w1) (by simp[go_sem]) ?_
   simp[go_sem,Pr.bind_no]
  |ok u a1=>
  rw[Pr.bind_ok]
  refine yH [0,4] (aM m1 w1) ?_
  simp[go_sem]
  have h1:=(bD hn hat w1).2
  have m2:=q9 hn h1
  (repeat(refine a7 q18x0 hX mixed rfl ?_;simp[go_sem]))
  cases w2:wholeT ts a1 with
  |no p e=>
   refine aF [0] (aL m2 w2) (by simp[go_sem]) ?_
   simp[go_sem,Pr.bind_no]
  |ok due a2=>
  rw[Pr.bind_ok]
  refine yH [0] (aM m2 w2) ?_
  simp[go_sem]
  have h2:=(kF hn h1 w2).2.1
  (repeat(refine a7 q18x0 hX mixed rfl ?_;simp[go_sem]))
  have m3:=jA hn h2 [102,105,110,101]
  cases w3:clauseT ts [102,105,110,101] a2 with
  |no p e=>
   refine aF [0] (aL m3 w3) (by simp[go_sem]) ?_
   simp[go_sem,Pr.bind_no]
  |ok fine a3=>
  rw[Pr.bind_ok]
  refine yH [0] (aM m3 w3) ?_
  simp[go_sem]
  have h3:=(fR hn h2 w3).2.1
  have m4:=jA hn h3 [112,97,121]
  cases w4:clauseT ts [112,97,121] a3 with
  |no p e=>
   refine aF [0] (aL m4 w4) (by simp[go_sem]) ?_
   simp[go_sem,Pr.bind_no]
  |ok pay a4=>
  rw[Pr.bind_ok]
  refine yH [0] (aM m4 w4) ?_
  simp[go_sem]
  have h4:=(fR hn h3 w4).2.1
  have m5:=jA hn h4 [99,111,118,101,114]
  cases w5:clauseT ts [99,111,118,101,114] a4 with
  |no p e=>
   refine aF [0] (aL m5 w5) (by simp[go_sem]) ?_
   simp[go_sem,Pr.bind_no]
  |ok cover a5=>
  rw[Pr.bind_ok]
  refine yH [0] (aM m5 w5) ?_
  simp[go_sem]
  have h5:=(fR hn h4 w5).2.1
  have m6:=jA hn h5 [104,111,108,100]
  cases w6:clauseT ts [104,111,108,100] a5 with
  |no p e=>
   refine aF [0] (aL m6 w6) (by simp[go_sem]) ?_
   simp[go_sem,Pr.bind_no]
  |ok hold a6=>
  rw[Pr.bind_ok]
  refine yH [0] (aM m6 w6) ?_
  simp[go_sem]
  have h6:=(fR hn h5 w6).2.1
  have m7:=gP hn h6
  (repeat(refine a7 q18x0 hX mixed rfl ?_;simp[go_sem]))
  refine yH [0] m7 ?_
  simp[go_sem]
  by_cases hk:(nx ts a6).kind=0
  ·have m8:=fJ hn h6 12 (b:=decide ((nx ts a6).kind=0)) (by simp[hk])
   rw[if_pos (by simp[hk]),aY]
   refine yH [0] m8 ?_
   simp[go_sem]
   (repeat(refine a7 q18x0 hX mixed rfl ?_;simp[go_sem]))
   refine bB (st0:=⟨mkE [(2,.el 1 37 0 0),(1000000,.ow 0)],[pst ts a6,.row ⟨32,37,[.agg [ii k.1,ii period,ii grace,ii wait,ii last,ii order,bb k.2,ii backs,ii voices,ii jury,ii fund,.sl (acc.map lt),ii due.op,ii due.n,ii due.u,ss due.s,.sl due.args,ii fine.op,ii fine.n,ii fine.u,ss fine.s,.sl fine.args,ii pay.op,ii pay.n,ii pay.u,ss pay.s,.sl pay.args,ii cover.op,ii cover.n,ii cover.u,ss cover.s,.sl cover.args,ii hold.op,ii hold.n,ii hold.u,ss hold.s,.sl hold.args]]⟩]⟩) ?_ ?_
   ·refine yS _ [.old 0 ⟨143,2,[.agg [.sl (ts.map tk),ii (a6)]]⟩,.old 1 ⟨32,37,[.agg [ii k.1,ii period,ii grace,ii wait,ii last,ii order,bb k.2,ii backs,ii voices,ii jury,ii fund,.sl (acc.map lt),ii due.op,ii due.n,ii due.u,ss due.s,.sl due.args,ii fine.op,ii fine.n,ii fine.u,ss fine.s,.sl fine.args,ii pay.op,ii pay.n,ii pay.u,ss pay.s,.sl pay.args,ii cover.op,ii cover.n,ii cover.u,ss cover.s,.sl cover.args,ii hold.op,ii hold.n,ii hold.u,ss hold.s,.sl hold.args]]⟩] ?_
    simp[go_sem]
   ·refine aB ?_;simp only[thenQ,blkQ,loopQ];refine aA [(1000000,.ow 0)] [.old 0 ⟨143,2,[.agg [.sl (ts.map tk),ii (a6)]]⟩] ?_
    simp[go_sem]
  ·have m8:=fK hn h6 12 (b:=decide ((nx ts a6).kind=0)) (by simp[hk])
   rw[if_neg (by simp[hk])]
   refine aF [0] (m8) (by simp[go_sem]) ?_
   simp[go_sem]
 |true=>
 rw[if_pos rfl]
 refine yT ?_
 have hat1:=hn.has hat s1
 have wk:=w64 (x:=(at_:Int)+1) (by omega) (by omega)
 have wk2:=w64 (x:=(at_:Int)+1+1) (by omega) (by omega)
 have htx:=hn.txt' (at_+1)
 by_cases hc:acc.length<20
 rotate_right
 ·have m1:=fK hn hat 6 (b:=decide ((acc.length:Int)<20)) (by simp;omega)
  rw[if_neg hc]
  (repeat(refine a7 q18x0 hX mixed rfl ?_;simp[go_sem]))
  refine aF [0] (m1) (by simp[go_sem]) ?_
  simp[go_sem,Pr.bind_no]
 have m1:=fJ hn hat 6 (b:=decide ((acc.length:Int)<20)) (by simp;omega)
 have m2:=gP hn hat1
 have m3:=pZ (nx ts (at_+1)).text (by omega)
 rw[if_pos hc]
 (repeat(refine a7 q18x0 hX mixed rfl ?_;simp[go_sem]))
 refine yH [0] m1 ?_
 simp[go_sem]
 (repeat(refine a7 q18x0 hX mixed rfl ?_;simp[go_sem,wk]))
 refine yH [0] m2 ?_
 simp[go_sem]
 (repeat(refine a7 q18x0 hX mixed rfl ?_;simp[go_sem]))
 refine yH [0] m2 ?_
 simp[go_sem]
 refine aI (fun hg=>m3) ?_
 simp[go_sem]
 by_cases hk:(nx ts (at_+1)).kind=1∧nameOk (nx ts (at_+1)).text=true
 rotate_right
 ·have m4:=fK hn hat1 12 (b:=decide ((nx ts (at_+1)).kind=1)&&nameOk (nx ts (at_+1)).text) (by
   cases hq:nameOk (nx ts (at_+1)).text<;>simp_all)
  rw[if_neg hk]
  refine aF [0] (m4) (by simp[go_sem]) ?_
  simp[go_sem,Pr.bind_no]
 have m4:=fJ hn hat1 12 (b:=decide ((nx ts (at_+1)).kind=1)&&nameOk (nx ts (at_+1)).text) (by simp[hk])
 have hat2:=hn.last (at_+1) hat1 (by rw[hk.1];decide)
 rw[if_pos hk]
 refine yH [0] m4 ?_
 simp[go_sem]
 have m5:=nX (nx ts (at_+1)).text acc (by omega)
 (repeat(refine a7 q18x0 hX mixed rfl ?_;simp[go_sem]))
 refine yH [3,4] m5 ?_
 simp[go_sem]
 cases hany:acc.any fun l=>decide (l.1=(nx ts (at_+1)).text)with
 |true=>
  have m6:=eP hn hat1 5
  rw[if_pos rfl]
  refine aF [0] (m6) (by simp[go_sem]) ?_
  simp[go_sem,Pr.bind_no]
 |false=>
 rw[if_neg (by simp)]
 have m6:=eM hn hat1 5
 refine yH [0] m6 ?_
 simp[go_sem]
 have m7:=cS hn hat2 [[61]] (by simp)
 (repeat(refine a7 q18x0 hX mixed rfl ?_;simp[go_sem,wk2]))
 cases w1:wantT ts [[61]] (at_+1+1)with
 |no p e=>
  refine aF [0,5] (aL m7 w1) (by simp[go_sem]) ?_
  simp[go_sem,Pr.bind_no]
 |ok u a1=>
 rw[Pr.bind_ok]
 refine yH [0,5] (aM m7 w1) ?_
 simp[go_sem]
 have h1:=bD hn hat2 w1
 have m8:=q9 hn h1.2
 cases w2:wholeT ts a1 with
 |no p e=>
  (repeat(first|refine aS ?_|refine aP ?_))
  refine gT 4 hX mixed (by kernel_rfl) (by kernel_rfl) ?_;(simp[go_sem];try(refine⟨by kernel_rfl,?_⟩))
  refine eB [0] (aL m8 w2) (by simp[go_sem]) ?_
  simp[go_sem,Pr.bind_no]
 |ok x a2=>
 rw[Pr.bind_ok]
 have h2:=kF hn h1.2 w2
 (repeat(refine a7 q18x0 hX mixed rfl ?_;simp[go_sem]))
 refine dB [0] (aM m8 w2) (by simp[go_sem]) ?_
 simp[go_sem]
 refine⟨⟨by omega,by unfold maxLen;omega⟩,by kernel_rfl,?_⟩
 refine⟨g',acc++[((nx ts (at_+1)).text,x)],a2,⟨h2.2.1,by omega,by simp;omega,rfl⟩,by omega,?_⟩
 refine yS _ [.old 0 ⟨143,2,[.agg [.sl (ts.map tk),ii (a2)]]⟩,.old 1 ⟨32,37,[.agg [ii 0,ii 0,ii 0,ii 0,ii 0,ii 0,bb false,ii 0,ii 0,ii 0,ii 0,.nil,ii 0,ii 0,ii 0,ss [],.nil,ii 0,ii 0,ii 0,ss [],.nil,ii 0,ii 0,ii 0,ss [],.nil,ii 0,ii 0,ii 0,ss [],.nil,ii 0,ii 0,ii 0,ss [],.nil]]⟩,.old 2 ⟨32,37,[.agg [ii k.1,ii period,ii grace,ii wait,ii last,ii order,bb k.2,ii backs,ii voices,ii jury,ii fund,.ow 3,ii 0,ii 0,ii 0,ss [],.nil,ii 0,ii 0,ii 0,ss [],.nil,ii 0,ii 0,ii 0,ss [],.nil,ii 0,ii 0,ii 0,ss [],.nil,ii 0,ii 0,ii 0,ss [],.nil]]⟩,.old 7 ⟨119,6,(acc++[((nx ts (at_+1)).text,x)]).map lt⟩] ?_
 simp[go_sem]
end Go.Proofs.YtllgjognpobnpaaGreatDoor

namespace Go.Proofs.YtllgjognpobnpaaGreatDoor
open Go.RowKit Go.Ab
attribute [local irreducible] AWP Go.Ab.Sub Means MeansH CallK CallG CallT CallGT PanicH DefH
abbrev ir(n:Int):Cell:=.row ⟨3,1,[ii n]⟩
abbrev er(n:Int):Cell:=.row ⟨25,1,[ii n]⟩
abbrev br(b:Bl):Cell:=.row ⟨32,37,[bl b]⟩
@[go_sem] theorem ofV_nilI:ofV Value.nilIface=.v .nilIface:=rfl
@[go_sem] theorem ofV_stop(p q:Int):ofV (Value.agg #[.int .i64 p,.int .i64 q])=.agg [ii p,ii q]:=rfl
theorem uL(p q a b:Int):MeansH Tryz.prog 25 [ir a,er b] [.v (stopV p q),.el 0 1 0 0,.el 1 1 0 0] (bb true) [ir p,er q]:=by
 refine yN 2 31 [.tmp 6] [0,1,2,6,7,8,19,21,1000000,1000001] Tryz.func25 fun X hX=>?_
 (repeat(refine yB ?_;(simp[go_sem])))
 refine yF ?_
 (repeat(refine yB ?_;(simp[go_sem])))
 refine yT ?_
 (repeat(refine yB ?_;(simp[go_sem];try(refine⟨by kernel_rfl,?_⟩))))
 refine aB ?_;refine aA [(6,bb true),(1000000,.ow 0),(1000001,.ow 1)] [.old 0 ⟨3,1,[ii p]⟩,.old 1 ⟨25,1,[ii q]⟩] ?_
 simp[go_sem]
theorem uM(a b:Int):MeansH Tryz.prog 25 [ir a,er b] [.v .nilIface,.el 0 1 0 0,.el 1 1 0 0] (bb false) [ir a,er b]:=by
 refine yN 2 31 [.tmp 6] [0,1,2,6,7,8,19,21,1000000,1000001] Tryz.func25 fun X hX=>?_
 (repeat(refine yB ?_;(simp[go_sem])))
 refine yF ?_
 (repeat(refine yB ?_;(simp[go_sem])))
 refine yF ?_
 (repeat(refine yB ?_;(simp[go_sem])))
 refine aB ?_;refine aA [(6,bb false),(1000000,.ow 0),(1000001,.ow 1)] [.old 0 ⟨3,1,[ii a]⟩,.old 1 ⟨25,1,[ii b]⟩] ?_
 simp[go_sem]
theorem CA(p q a b:Int)(b0:Bl):DefH Tryz.prog 24 [ir a,er b,br b0] [.el 0 1 0 0,.el 1 1 0 0,.el 2 37 0 0] (.panicking [{v:=stopV p q,recovered:=false}]) (.panicking [{v:=stopV p q,recovered:=true}]) [ir p,er q,br {}]:=by
 have c1:=uL p q a b
 refine lD 3 6 3 [0,1,2,3,4,5,1000000,1000001,1000002] [] (.got _) Tryz.func24 rfl rfl rfl (by simp) (by decide) rfl rfl rfl rfl rfl (by decide) fun X hX=>?_
 (simp[go_sem])
 refine yH [0,1] c1 ?_
 simp[go_sem]
 refine yT ?_
 (repeat(refine a7 [0,1,2,3,4,5,1000000,1000001,1000002] hX mixed rfl ?_;simp[go_sem]))
 refine cC [(1000000,.ow 0),(1000001,.ow 1),(1000002,.ow 2)] [.old 0 ⟨3,1,[ii p]⟩,.old 1 ⟨25,1,[ii q]⟩,.old 2 ⟨32,37,[bl {}]⟩] ?_
 simp[go_sem]
theorem zE(a b:Int)(b0:Bl):DefH Tryz.prog 24 [ir a,er b,br b0] [.el 0 1 0 0,.el 1 1 0 0,.el 2 37 0 0] .returning .returning [ir a,er b,br b0]:=by
 have c1:=uM a b
 refine lD 3 6 3 [0,1,2,3,4,5,1000000,1000001,1000002] [] .idle Tryz.func24 rfl rfl rfl (by simp) (by decide) rfl rfl rfl rfl rfl (by decide) fun X hX=>?_
 (simp[go_sem])
 refine yH [0,1] c1 ?_
 simp[go_sem]
 refine yF ?_
 (repeat(refine a7 [0,1,2,3,4,5,1000000,1000001,1000002] hX mixed rfl ?_;simp[go_sem]))
 refine cC [(1000000,.ow 0),(1000001,.ow 1),(1000002,.ow 2)] [.old 0 ⟨3,1,[ii a]⟩,.old 1 ⟨25,1,[ii b]⟩,.old 2 ⟨32,37,[bl b0]⟩] ?_
 simp[go_sem]
theorem CB(s:By)(L:List AV)(p e:Int)(h:lexAV s=.tup [.sl L,ii p,ii e]):MeansH Tryz.prog 23 [] [ss s] (.tup [.el 0 2 0 0,ii p,ii e]) [.row ⟨143,2,[.agg [.sl L,ii 0]]⟩]:=by
 have c1:=J4 s
 rw[h]at c1
 refine yN 0 19 [.tmp 2,.tmp 3,.tmp 4] [0,2,3,4,5,6,7] Tryz.func23 fun X hX=>?_
 (repeat(refine yB ?_;(simp[go_sem])))
 refine aD c1 ?_
 simp[go_sem]
 (repeat(refine yB ?_;(simp[go_sem])))
 refine aB ?_;refine aA [(2,.el 0 2 0 0),(3,ii p),(4,ii e)] [.old 0 ⟨143,2,[.agg [.sl L,ii 0]]⟩] ?_
 simp[go_sem]
end Go.Proofs.YtllgjognpobnpaaGreatDoor

namespace Go.Proofs.YtllgjognpobnpaaGreatDoor
open Go.RowKit Go.Ab
theorem sG{P:Program}{f:FuncId}{args:List AV}{r:AV}{H':List Cell}(h:MeansH P f [] args r H')(hz:∀e∈args,e.idLt 0)(hr:r.zone=true):Means false P f args r:=by
 intro M w vs hM hg hl hvs
 have h0:HeapS (blks [] fun _=>undef) M (fun _=>undef) [] w:=⟨by simp,by simp,by simp,by simp,by simp⟩
 refine(h w M (fun _=>undef) vs hM hg h0 hl fun j x e h1 h2=>⟨(hvs j x e h1 h2).rep,hz e (List.mem_of_getElem? h2)⟩).mono fun e w' hq=>?_
 obtain⟨x,M',loc',rfl,hS,hb,hMM,hzone,_,hrep,hid,_⟩:=hq
 have hno:∀b,¬blks [] (fun _=>undef) b:=fun b hb=>by
  rcases hb with⟨id,o,ho,_⟩|⟨id,m,hm,_⟩
  ·simp at ho
  ·simp at hm
 refine⟨x,rfl,⟨hb.os,hb.tape,hb.output,hb.size,fun k hk=>hb.block k hk (hno k)⟩,(hrep.repZ hr).mono (fun _ _=>rfl) fun b hb=>?_⟩
 obtain⟨h1,h2⟩:=hzone b hb
 refine⟨h1,?_⟩
 rcases h2 with h2|h2|h2
 ·exact .inr ⟨rfl,h2⟩
 ·exact .inl h2
 ·exact(hno b h2).elim
attribute [local irreducible] AWP Go.Ab.Sub Means MeansH CallK CallG CallT CallGT PanicH DefH
set_option maxHeartbeats 4000000 in
theorem oY(s:By)(p e:Int)(h:lexAV s=.tup [.sl [],ii p,ii e])(he:e≠0):MeansH Tryz.prog 7 [] [ss s] (.tup [bl {},ii p,ii e]) []:=by
 have c1:=CB s [] p e h
 refine fY 0 20 [.cell 2 32,.cell 3 3,.cell 4 25] Tryz.func7 rfl rfl rfl (by simp) (by decide) rfl fun X hX=>?_
 refine cX ?_
 ((first|refine aQ q18x1 hX ?_|refine aK q18x1 hX mixed ?_|refine aB ?_|refine aJ ?_|refine aR ?_);(simp[go_sem];try(refine⟨by kernel_rfl,?_⟩)))
 refine cX ?_
 ((first|refine aQ q18x1 hX ?_|refine aK q18x1 hX mixed ?_|refine aB ?_|refine aJ ?_|refine aR ?_);(simp[go_sem];try(refine⟨by kernel_rfl,?_⟩)))
 refine yH [] c1 ?_
 simp[go_sem]
 refine cX ?_
 (repeat(refine a7 q18x1 hX mixed rfl ?_;simp[go_sem]))
 refine yT ?_ (by simp[go_sem,he])
 (repeat(refine a7 q18x1 hX mixed rfl ?_;simp[go_sem];try refine⟨by kernel_rfl,?_⟩))
 refine bB (st0:=⟨mkE [(2,.el 0 37 0 0),(3,.el 1 1 0 0),(4,.el 2 1 0 0)],[br {},ir p,er e]⟩) ?_ ?_
 ·refine yS _ [.old 0 ⟨32,37,[bl {}]⟩,.old 1 ⟨3,1,[ii p]⟩,.old 2 ⟨25,1,[ii e]⟩] ?_
  simp[go_sem]
 ·refine aB ?_
  simp only[doorN]
  refine aA [] [] ?_
  simp[go_sem]
set_option maxHeartbeats 4000000 in
theorem CC(s:By)(ts:List Tk)(hn:OkT ts)(h0:0<ts.length)(h:lexAV s=.tup [.sl (ts.map tk),ii 0,ii 0]):
  MeansH Tryz.prog 7 [] [ss s] (match bylawsT ts with| .ok b _=>.tup [bl b,ii 0,ii 0]| .no p e=>.tup [bl {},ii p,ii e]) []:=by
 have c1:=CB s (ts.map tk) 0 0 h
 have c2:=C9 hn h0
 generalize hr:(match bylawsT ts with| .ok b _=>AV.tup [bl b,ii 0,ii 0]| .no p e=>AV.tup [bl {},ii p,ii e])=r
 refine fY 0 20 [.cell 2 32,.cell 3 3,.cell 4 25] Tryz.func7 rfl rfl rfl (by simp) (by decide) rfl fun X hX=>?_
 refine cX ?_
 ((first|refine aQ q18x1 hX ?_|refine aK q18x1 hX mixed ?_|refine aB ?_|refine aJ ?_|refine aR ?_);(simp[go_sem];try(refine⟨by kernel_rfl,?_⟩)))
 refine cX ?_
 ((first|refine aQ q18x1 hX ?_|refine aK q18x1 hX mixed ?_|refine aB ?_|refine aJ ?_|refine aR ?_);(simp[go_sem];try(refine⟨by kernel_rfl,?_⟩)))
 refine yH [] c1 ?_
 simp[go_sem]
 refine cX ?_
 (repeat(refine a7 q18x1 hX mixed rfl ?_;simp[go_sem]))
 refine yF ?_
 (repeat(refine a7 q18x1 hX mixed rfl ?_;simp[go_sem]))
 refine fI (l:=[_]) (oD:=_) [2,3,4,5] hX rfl rfl rfl rfl ?_
 (simp[go_sem];try(refine⟨by kernel_rfl,?_⟩))
 refine⟨_,_,⟨rfl,rfl⟩,by simp[go_sem],by simp[go_sem],fun X hX=>?_⟩
 simp[go_sem]
 refine bB (st0:=⟨mkE [(2,.el 0 37 0 0),(3,.el 1 1 0 0),(4,.el 2 1 0 0),(5,.el 3 2 0 0),(1000000,.el 1 1 0 0),(1000001,.el 2 1 0 0),(1000002,.el 0 37 0 0)],[br {},ir 0,er 0,pst ts 0]⟩) ?_ ?_
 ·refine yS _ [.old 0 ⟨32,37,[bl {}]⟩,.old 1 ⟨3,1,[ii 0]⟩,.old 2 ⟨25,1,[ii 0]⟩,.old 3 ⟨143,2,[.agg [.sl (ts.map tk),ii 0]]⟩] ?_
  simp[go_sem]
 (repeat(refine a7 [2,3,4,5,1000000,1000001,1000002] hX mixed rfl ?_;simp[go_sem]))
 cases e1:bylawsT ts with
 |no p e=>
  rw[e1]at hr
  have hr:AV.tup [bl {},ii p,ii e]=r:=hr
  subst hr
  refine aF [3] (aL c2 e1) (by simp[go_sem]) ?_
  simp[go_sem]
  refine cY [1,2,0] (CA p e 0 0 {}) rfl ?_ ?_
  ·simp[go_sem]
  ·refine aA [] [] ?_
   simp[go_sem]
 |ok b j=>
  rw[e1]at hr
  have hr:AV.tup [bl b,ii 0,ii 0]=r:=hr
  subst hr
  refine yH [3] (aM c2 e1) ?_
  simp[go_sem]
  refine aB ?_
  simp only[doorQ]
  refine cY [1,2,0] (zE 0 0 b) rfl ?_ ?_
  ·simp[go_sem]
  ·refine aA [] [] ?_
   simp[go_sem]
theorem FA(s:By):MeansH Tryz.prog 7 [] [ss s] (.tup [bl (parseT s).1,ii (parseT s).2.1,ii (parseT s).2.2]) []:=by
 unfold parseT
 by_cases hl:2000<s.length
 ·rw[if_pos hl]
  exact oY s 0 6 (by rw[lexAV,if_pos hl]) (by decide)
 ·rw[if_neg hl]
  cases h:lexA s 0 with
  |err i e=>
   refine oY s i e (zD (by omega) h) ?_
   obtain⟨_,_,h3,_⟩:=oZ s h
   omega
  |ok ts=>
   obtain⟨hn,h0⟩:=wO (by omega) h
   have:=CC s ts hn h0 (C8 (by omega) h)
   simp only[]
   cases hb:bylawsT ts with
   |ok b j=>rw[hb]at this;exact this
   |no p e=>rw[hb]at this;exact this
theorem lF(s:By):Means false Tryz.prog 7 [ss s] (.tup [bl (parseT s).1,ii (parseT s).2.1,ii (parseT s).2.2]):=by
 exact sG (FA s) (by simp[go_sem]) (by simp[go_sem])
end Go.Proofs.YtllgjognpobnpaaGreatDoor

namespace Go.Proofs.YtllgjognpobnpaaGreatDoor
def okE:E→Prop
 | .num n u=>(0≤n∧n≤1099511627776)∧(0≤u∧u≤4)∧(u=0→n≤1)
 | .nam s=>nameOk s=true
 | .un a=>okE a
 | .bin o a b=>(2≤o∧o≤11)∧okE a∧okE b
 | .ite a b c=>okE a∧okE b∧okE c
theorem zF{ts:List Tk}{i j:Nat}{u:Int}(h:unitT ts i=.ok u j):1≤u∧u≤4:=by
 unfold unitT at h
 split at h
 ·simp only[Pr.ok.injEq]at h;omega
 ·split at h
  ·simp only[Pr.ok.injEq]at h;omega
  ·split at h
   ·obtain⟨_,k,_,h2⟩:=aE h
    simp only[Pr.ok.injEq]at h2;omega
   ·simp only[Pr.ok.injEq]at h;omega
theorem CD{ts:List Tk}{i:Nat}{o:Opr}(h:opAt ts i=some o):2≤o.op∧o.op≤11:=by
 have:=List.mem_of_find?_eq_some h
 simp only[opTab,List.mem_cons,List.not_mem_nil,or_false]at this
 rcases this with rfl|rfl|rfl|rfl|rfl|rfl|rfl|rfl<;>decide
theorem wR{ts:List Tk}(h:OkT ts):∀f:Nat,(∀form i e j,expF f ts form i=.ok e j→okE e)∧(∀form e own i x j,okE e→loopF f ts form e own i=.ok x j→okE x)∧
  (∀form i x j,prefixF f ts form i=.ok x j→okE x.1)∧(∀i e j,primaryF f ts i=.ok e j→okE e)
 |0=>by refine⟨?_,?_,?_,?_⟩<;>intros<;>simp[expF,loopF,prefixF,primaryF]at*
 |f+1=>by
  obtain⟨hE,hL,hP,hQ⟩:=wR h f
  refine⟨fun form i e j he=>?_,fun form e own i x j ho he=>?_,fun form i x j he=>?_,fun i e j he=>?_⟩
  ·rw[expF]at he
   obtain⟨x,k,h1,h2⟩:=aE he
   exact hL _ _ _ _ _ _ (hP _ _ _ _ h1) h2
  ·rw[loopF]at he
   split at he
   ·simp only[Pr.ok.injEq]at he;obtain⟨rfl,_⟩:=he;exact ho
   ·rename_i o hop
    split at he
    ·simp only[Pr.ok.injEq]at he;obtain⟨rfl,_⟩:=he;exact ho
    ·obtain⟨y,k,h1,h2⟩:=aE he
     have hb:okE (.bin o.op e y):=⟨CD hop,ho,hE _ _ _ _ h1⟩
     exact hL _ _ _ _ _ _ hb h2
  ·rw[prefixF]at he
   split at he
   ·obtain⟨a,k1,h1,he⟩:=aE he
    obtain⟨_,k2,h2,he⟩:=aE he
    obtain⟨b,k3,h3,he⟩:=aE he
    obtain⟨_,k4,h4,he⟩:=aE he
    obtain⟨c,k5,h5,he⟩:=aE he
    simp only[Pr.ok.injEq]at he
    obtain⟨rfl,_⟩:=he
    exact⟨hE _ _ _ _ h1,hE _ _ _ _ h3,hE _ _ _ _ h5⟩
   ·split at he
    ·obtain⟨a,k1,h1,he⟩:=aE he
     simp only[Pr.ok.injEq]at he
     obtain⟨rfl,_⟩:=he
     have:=hE _ _ _ _ h1
     exact this
    ·obtain⟨a,k1,h1,he⟩:=aE he
     simp only[Pr.ok.injEq]at he
     obtain⟨rfl,_⟩:=he
     have:=hQ _ _ _ h1
     exact this
  ·rw[primaryF]at he
   split at he
   ·obtain⟨u,k1,h1,he⟩:=aE he
    have:=zF h1
    have hn:=h.num' i
    simp only[Pr.ok.injEq]at he
    obtain⟨rfl,_⟩:=he
    exact⟨hn,⟨by omega,this.2⟩,fun e=>by omega⟩
   ·split at he
    ·simp only[Pr.ok.injEq]at he;obtain⟨rfl,_⟩:=he;exact⟨⟨by decide,by decide⟩,⟨by decide,by decide⟩,fun _=>by decide⟩
    ·split at he
     ·simp only[Pr.ok.injEq]at he;obtain⟨rfl,_⟩:=he;exact⟨⟨by decide,by decide⟩,⟨by decide,by decide⟩,fun _=>by decide⟩
     ·split at he
      ·obtain⟨_,k1,h1,he⟩:=aE he
       obtain⟨a,k2,h2,he⟩:=aE he
       obtain⟨_,k3,h3,he⟩:=aE he
       obtain⟨b,k4,h4,he⟩:=aE he
       obtain⟨_,k5,h5,he⟩:=aE he
       simp only[Pr.ok.injEq]at he
       obtain⟨rfl,_⟩:=he
       refine⟨?_,hE _ _ _ _ h2,hE _ _ _ _ h4⟩
       split<;>decide
      ·split at he
       ·obtain⟨a,k1,h1,he⟩:=aE he
        obtain⟨_,k2,h2,he⟩:=aE he
        simp only[Pr.ok.injEq]at he
        obtain⟨rfl,_⟩:=he
        exact hE _ _ _ _ h1
       ·split at he
        ·rename_i hs
         simp only[Pr.ok.injEq]at he;obtain⟨rfl,_⟩:=he;exact hs.2
        ·cases he
def OkE(e:E):Prop:=okE e∧e.lev≤12
theorem kH{ts:List Tk}(h:OkT ts){i j:Nat}{e:E}(hw:wholeT ts i=.ok e j):OkE e:=by
 obtain⟨x,k,h1,h2⟩:=aE hw
 split at h2
 ·split at h2
  ·rename_i hl
   simp only[Pr.ok.injEq]at h2
   obtain⟨rfl,_⟩:=h2
   exact⟨(wR h _).1 _ _ _ _ h1,hl⟩
  ·cases h2
 ·cases h2
theorem fS{ts:List Tk}(h:OkT ts){w:By}{i j:Nat}{e:E}(hw:clauseT ts w i=.ok e j):OkE e:=by
 unfold clauseT at hw
 split at hw
 ·exact kH h hw
 ·simp only[Pr.ok.injEq]at hw
  obtain⟨rfl,_⟩:=hw
  exact⟨⟨⟨by decide,by decide⟩,⟨by decide,by decide⟩,fun _=>by decide⟩,by decide⟩
structure OkL(l:List (By×E)):Prop where
 len:l.length≤20
 nam:∀x∈l,nameOk x.1=true
 exp:∀x∈l,OkE x.2
 two:∀i j (hi:i<l.length) (hj:j<l.length),i<j→¬l[i].1=l[j].1
theorem sH{ts:List Tk}(h:OkT ts):∀(f:Nat) (acc:List (By×E)) (i:Nat) (l:List (By×E)) (j:Nat),OkL acc→letsF f ts acc i=.ok l j→OkL l
 |0,_,_,_,_,_,he=>by cases he
 |f+1,acc,i,l,j,ha,he=>by
  rw[letsF]at he
  split at he
  ·split at he
   ·rename_i hlt
    split at he
    ·rename_i hk
     split at he
     ·cases he
     ·rename_i hany
      obtain⟨_,k1,h1,he⟩:=aE he
      obtain⟨e,k2,h2,he⟩:=aE he
      refine sH h f _ _ _ _ ⟨by simp;omega,fun x hx=>?_,fun x hx=>?_,fun a b hla hlb hab=>?_⟩ he
      ·rcases List.mem_append.1 hx with hx|hx
       ·exact ha.nam x hx
       ·simp only[List.mem_singleton]at hx;subst hx;exact hk.2
      ·rcases List.mem_append.1 hx with hx|hx
       ·exact ha.exp x hx
       ·simp only[List.mem_singleton]at hx;subst hx;exact kH h h2
      ·simp only[List.length_append,List.length_cons,List.length_nil]at hla hlb
       rw[List.getElem_append_left (by omega)]
       by_cases hb:b<acc.length
       ·rw[List.getElem_append_left hb]
        exact ha.two a b _ hb hab
       ·have hb2:b=acc.length:=by omega
        subst hb2
        rw[List.getElem_append_right (Nat.le_refl _)]
        intro heq
        apply hany
        refine List.any_eq_true.2 ⟨acc[a],List.getElem_mem _,?_⟩
        simpa using heq
    ·cases he
   ·cases he
  ·simp only[Pr.ok.injEq]at he
   obtain⟨rfl,_⟩:=he
   exact ha
structure OkB(b:Bl):Prop where
 kind:0≤b.kind∧b.kind≤2
 sld:b.sld=true→b.kind=1
 order:0≤b.order∧b.order≤2
 period:1≤b.period∧b.period≤1000
 last:1≤b.last∧b.last≤1000
 grace:0≤b.grace∧b.grace≤1000
 wait:0≤b.wait∧b.wait≤1000
 voices:0≤b.voices∧b.voices≤1000
 fund:0≤b.fund∧b.fund≤1000
 backs:0≤b.backs∧b.backs≤60
 jury:0≤b.jury∧b.jury≤60
 lets:OkL b.lets
 due:OkE b.due
 fine:OkE b.fine
 pay:OkE b.pay
 cover:OkE b.cover
 hold:OkE b.hold
theorem p9{ts:List Tk}{i j:Nat}{x:Int×Bool}(h:kindT ts i=.ok x j):(0≤x.1∧x.1≤2)∧(x.2=true→x.1=1):=by
 obtain⟨_,k,_,h2⟩:=aE h
 split at h2
 ·obtain⟨_,_,_,h3⟩:=aE h2
  simp only[Pr.ok.injEq]at h3;obtain⟨rfl,_⟩:=h3;simp
 ·split at h2
  ·obtain⟨_,_,_,h3⟩:=aE h2
   simp only[Pr.ok.injEq]at h3;obtain⟨rfl,_⟩:=h3;simp
  ·obtain⟨_,_,_,h3⟩:=aE h2
   obtain⟨_,_,_,h4⟩:=aE h3
   simp only[Pr.ok.injEq]at h4;obtain⟨rfl,_⟩:=h4;simp
theorem uN{ts:List Tk}{i j:Nat}{n:Int}(h:orderT ts i=.ok n j):0≤n∧n≤2:=by
 unfold orderT at h
 split at h
 ·split at h
  ·rename_i m hm
   obtain⟨_,_,_,h3⟩:=aE h
   simp only[Pr.ok.injEq]at h3;obtain⟨rfl,_⟩:=h3
   obtain⟨hm1,_⟩:=List.findIdx?_eq_some_iff_getElem.1 hm
   simp only[ordersL,List.length_cons,List.length_nil]at hm1
   omega
  ·cases h
 ·simp only[Pr.ok.injEq]at h;omega
theorem qO{α:Type}{ts:List Tk}{b:Bool}{e:Int}{i j:Nat}{r:Pr α}{x:α}(h:chk ts b e i r=.ok x j):b=true∧r=.ok x j:=by
 unfold chk at h
 split at h
 ·rename_i hb;exact⟨hb,h⟩
 ·cases h
theorem cV{ts:List Tk}{word:By}{a b:Int}{l:List By}{i j:Nat}{n:Int}(hw:partT ts word a b l i=.ok n j):(n=0∧isT ts word i=false)∨(a≤n∧n≤b):=by
 unfold partT at hw
 split at hw
 ·obtain⟨m,k,h1,h2⟩:=aE hw
  obtain⟨_,q,h3,h4⟩:=aE h2
  simp only[Pr.ok.injEq]at h4
  obtain⟨rfl,_⟩:=h4
  unfold numberT at h1
  split at h1
  ·split at h1
   ·rename_i hn
    simp only[Pr.ok.injEq]at h1
    obtain⟨rfl,_⟩:=h1
    exact .inr hn
   ·cases h1
  ·cases h1
 ·rename_i hs
  simp only[Pr.ok.injEq]at hw
  exact .inl ⟨hw.1.symm,by simpa using hs⟩
theorem uO{ts:List Tk}(h:OkT ts){b:Bl}{j:Nat}(hb:bylawsT ts=.ok b j):OkB b:=by
 unfold bylawsT at hb
 obtain⟨k,i0,h0,hb⟩:=aE hb
 obtain⟨s1,hb⟩:=qO hb
 obtain⟨period,i1,h1,hb⟩:=aE hb
 obtain⟨s2,hb⟩:=qO hb
 obtain⟨last,i2,h2,hb⟩:=aE hb
 obtain⟨grace,i3,h3,hb⟩:=aE hb
 obtain⟨wait,i4,h4,hb⟩:=aE hb
 obtain⟨order,i5,h5,hb⟩:=aE hb
 obtain⟨backs,i6,h6,hb⟩:=aE hb
 obtain⟨voices,i7,h7,hb⟩:=aE hb
 obtain⟨jury,i8,h8,hb⟩:=aE hb
 obtain⟨fund,i9,h9,hb⟩:=aE hb
 obtain⟨lets,i10,h10,hb⟩:=aE hb
 obtain⟨_,i11,h11,hb⟩:=aE hb
 obtain⟨due,i12,h12,hb⟩:=aE hb
 obtain⟨fine,i13,h13,hb⟩:=aE hb
 obtain⟨pay,i14,h14,hb⟩:=aE hb
 obtain⟨cover,i15,h15,hb⟩:=aE hb
 obtain⟨hold,i16,h16,hb⟩:=aE hb
 obtain⟨_,hb⟩:=qO hb
 simp only[Pr.ok.injEq]at hb
 obtain⟨rfl,_⟩:=hb
 have z:∀{n a b:Int} {p:Prop},(n=0∧p)∨(a≤n∧n≤b)→a≤0→0≤b→a≤n∧n≤b:=fun h h1 h2=>by
  rcases h with h|h
  ·rw[h.1];exact⟨h1,h2⟩
  ·exact h
 refine⟨(p9 h0).1,(p9 h0).2,uN h5,?_,?_,z (cV h3) (by decide) (by decide),z (cV h4) (by decide) (by decide),z (cV h7) (by decide) (by decide),z (cV h9) (by decide) (by decide),z (cV h6) (by decide) (by decide),z (cV h8) (by decide) (by decide),
  sH h _ _ _ _ _ ⟨by simp,by simp,by simp,by simp⟩ h10,kH h h12,fS h h13,fS h h14,fS h h15,fS h h16⟩
 ·rcases cV h1 with h|h
  ·rw[s1]at h;cases h.2
  ·exact h
 ·rcases cV h2 with h|h
  ·rw[s2]at h;cases h.2
  ·exact h
def Pr.ne{α:Type}(r:Pr α):Prop:=∀p e,r=.no p e→e≠0
theorem bind_ne{α β:Type}{r:Pr α}{f:α→Nat→Pr β}(h:r.ne)(hf:∀x i,(f x i).ne):(r.bind f).ne:=by
 cases r with
 |ok x i=>exact hf x i
 |no p e=>intro q c hc;simp only[Pr.bind_no,Pr.no.injEq]at hc;obtain⟨rfl,rfl⟩:=hc;exact h _ _ rfl
theorem cE{α:Type}(x:α)(i:Nat):(Pr.ok x i).ne:=fun _ _ h=>by cases h
theorem dY{α:Type}{p e:Int}(h:e≠0):(Pr.no p e:Pr α).ne:=fun _ _ hc=>by cases hc;exact h
theorem bF{α:Type}{c:Prop}[Decidable c]{x y:Pr α}(hx:x.ne)(hy:y.ne):(if c then x else y).ne:=by split<;>assumption
theorem bI{ts:List Tk}:∀(l:List By) (i:Nat),(wantT ts l i).ne
 | [],i=>cE _ _
 |s::l,i=>bF (bI l _) (dY (by decide))
theorem uQ{ts:List Tk}(a b:Int)(i:Nat):(numberT ts a b i).ne:=bF (bF (cE _ _) (dY (by decide))) (dY (by decide))
theorem dT{ts:List Tk}(w:By)(a b:Int)(l:List By)(i:Nat):(partT ts w a b l i).ne:=bF (bind_ne (uQ _ _ _) fun _ _=>bind_ne (bI _ _) fun _ _=>cE _ _) (cE _ _)
theorem CE{ts:List Tk}(i:Nat):(unitT ts i).ne:=bF (cE _ _) (bF (cE _ _) (bF (bind_ne (bI _ _) fun _ _=>cE _ _) (cE _ _)))
theorem CF{ts:List Tk}:∀f:Nat,(∀form i,(expF f ts form i).ne)∧(∀form e own i,(loopF f ts form e own i).ne)∧(∀form i,(prefixF f ts form i).ne)∧(∀i,(primaryF f ts i).ne)
 |0=>⟨fun _ _=>by rw[expF];exact dY (by decide),fun _ _ _ _=>by rw[loopF];exact dY (by decide),fun _ _=>by rw[prefixF];exact dY (by decide),fun _=>by rw[primaryF];exact dY (by decide)⟩
 |f+1=>by
  obtain⟨hE,hL,hP,hQ⟩:=CF (ts:=ts) f
  refine⟨fun form i=>?_,fun form e own i=>?_,fun form i=>?_,fun i=>?_⟩
  ·rw[expF];exact bind_ne (hP _ _) fun _ _=>hL _ _ _ _
  ·rw[loopF]
   split
   ·exact cE _ _
   ·exact bF (cE _ _) (bind_ne (hE _ _) fun _ _=>hL _ _ _ _)
  ·rw[prefixF]
   exact bF (bind_ne (hE _ _) fun _ _=>bind_ne (bI _ _) fun _ _=>bind_ne (hE _ _) fun _ _=>bind_ne (bI _ _) fun _ _=>bind_ne (hE _ _) fun _ _=>cE _ _)
    (bF (bind_ne (hE _ _) fun _ _=>cE _ _) (bind_ne (hQ _) fun _ _=>cE _ _))
  ·rw[primaryF]
   exact bF (bind_ne (CE _) fun _ _=>cE _ _) (bF (cE _ _) (bF (cE _ _) (bF
    (bind_ne (bI _ _) fun _ _=>bind_ne (hE _ _) fun _ _=>bind_ne (bI _ _) fun _ _=>bind_ne (hE _ _) fun _ _=>bind_ne (bI _ _) fun _ _=>cE _ _)
    (bF (bind_ne (hE _ _) fun _ _=>bind_ne (bI _ _) fun _ _=>cE _ _) (bF (cE _ _) (dY (by decide)))))))
theorem kI{ts:List Tk}(i:Nat):(wholeT ts i).ne:=bind_ne ((CF _).1 _ _) fun _ _=>bF (bF (cE _ _) (dY (by decide))) (dY (by decide))
theorem fT{ts:List Tk}(w:By)(i:Nat):(clauseT ts w i).ne:=bF (kI _) (cE _ _)
theorem CG{ts:List Tk}(i:Nat):(kindT ts i).ne:=bind_ne (bI _ _) fun _ _=>bF (bind_ne (bI _ _) fun _ _=>cE _ _) (bF (bind_ne (bI _ _) fun _ _=>cE _ _) (bind_ne (bI _ _) fun _ _=>bind_ne (bI _ _) fun _ _=>cE _ _))
theorem zG{ts:List Tk}(i:Nat):(orderT ts i).ne:=by
 unfold orderT
 refine bF ?_ (cE _ _)
 split
 ·exact bind_ne (bI _ _) fun _ _=>cE _ _
 ·exact dY (by decide)
theorem sI{ts:List Tk}:∀(f:Nat) (acc:List (By×E)) (i:Nat),(letsF f ts acc i).ne
 |0,_,_=>dY (by decide)
 |f+1,acc,i=>bF (bF (bF (bF (dY (by decide)) (bind_ne (bI _ _) fun _ _=>bind_ne (kI _) fun _ _=>sI f _ _)) (dY (by decide))) (dY (by decide))) (cE _ _)
theorem uR{α:Type}{ts:List Tk}{b:Bool}{e:Int}{i:Nat}{r:Pr α}(he:e≠0)(h:r.ne):(chk ts b e i r).ne:=bF h (dY he)
theorem uS{ts:List Tk}:(bylawsT ts).ne:=
 bind_ne (CG _) fun _ _=>uR (by decide)<|bind_ne (dT _ _ _ _ _) fun _ _=>uR (by decide)<|bind_ne (dT _ _ _ _ _) fun _ _=>bind_ne (dT _ _ _ _ _) fun _ _=>bind_ne (dT _ _ _ _ _) fun _ _=>
 bind_ne (zG _) fun _ _=>bind_ne (dT _ _ _ _ _) fun _ _=>bind_ne (dT _ _ _ _ _) fun _ _=>bind_ne (dT _ _ _ _ _) fun _ _=>bind_ne (dT _ _ _ _ _) fun _ _=>bind_ne (sI _ _ _) fun _ _=>
 bind_ne (bI _ _) fun _ _=>bind_ne (kI _) fun _ _=>bind_ne (fT _ _) fun _ _=>bind_ne (fT _ _) fun _ _=>bind_ne (fT _ _) fun _ _=>bind_ne (fT _ _) fun _ _=>uR (by decide) (cE _ _)
theorem f0{s:By}(h:(parseT s).2.2=0):OkB (parseT s).1:=by
 unfold parseT at h⊢
 split
 ·rename_i hl;rw[if_pos hl]at h;cases h
 ·rename_i hl
  rw[if_neg hl]at h
  cases hx:lexA s 0 with
  |err i e=>
   rw[hx]at h
   simp only[]at h
   obtain⟨_,_,h3,_⟩:=oZ s hx
   omega
  |ok ts=>
   rw[hx]at h
   simp only[]at h⊢
   obtain⟨hn,h0⟩:=wO (by omega) hx
   cases hb:bylawsT ts with
   |ok b j=>exact uO hn hb
   |no p e=>
    rw[hb]at h
    simp only[]at h
    exact(uS p e hb h).elim
end Go.Proofs.YtllgjognpobnpaaGreatDoor

namespace Go.Proofs.YtllgjognpobnpaaGreatDoor
open Go.RowKit Go.Ab
attribute [local irreducible] AWP Go.Ab.Sub Means MeansH CallK CallG CallT CallGT PanicH DefH
abbrev il(L:List Int):AV:=.sl (L.map ii)
@[go_sem] theorem cZ{L:List Int}{k:Nat}(h:k<L.length):nth (L.map ii) k=ii L[k]:=cG ii h
set_option maxHeartbeats 4000000 in
theorem FB(f:FuncId)(E0 k0:Nat)(c0:AV)(E1 k1:Nat)(c1:AV)(p:Int→Bool)(L:List Int)(hl:L.length≤100000)(hz0:c0.flat.all AV.zone=true)(hz1:c1.flat.all AV.zone=true)(hf:∀x∈L,MeansH Tryz.prog f [.row ⟨E0,k0,[c0]⟩,.row ⟨E1,k1,[c1]⟩] [ii x,.el 0 k0 0 0,.el 1 k1 0 0] (bb (p x)) [.row ⟨E0,k0,[c0]⟩,.row ⟨E1,k1,[c1]⟩])(hcall:callable Tryz.prog f=true):
  MeansH Tryz.prog 127 [.row ⟨E0,k0,[c0]⟩,.row ⟨E1,k1,[c1]⟩] [.sl (L.map ii),.fn f [] [.el 0 k0 0 0,.el 1 k1 0 0]] (ii (match L.findIdx? p with|some n=>(n:Int)|none=> -1)) [.row ⟨E0,k0,[c0]⟩,.row ⟨E1,k1,[c1]⟩]:=by
 have hy0:∀x∈c0.flat,x.zone=true:=by simpa using hz0
 have hy1:∀x∈c1.flat,x.zone=true:=by simpa using hz1
 refine yN 2 19 [.tmp 4] [0,1,4,5,7,8,9,16,1000000,1000001] Tryz.func127 fun X hX=>?_
 (repeat(refine yB ?_;(simp[go_sem])))
 refine aG (fun n:Nat=>⟨mkE [(0,.sl (L.map ii)),(1,.fn f [] [.el 0 k0 0 0,.el 1 k1 0 0]),(7,ii L.length),(8,ii n),(1000000,.ow 0),(1000001,.ow 1)],[.row ⟨E0,k0,[c0]⟩,.row ⟨E1,k1,[c1]⟩]⟩) (fun n=>n≤L.length∧∀k (h:k<L.length),k<n→p L[k]=false) (fun n=>L.length-n) 0 ?_ ?_ ?_
 ·refine yS _ [.old 0 ⟨E0,k0,[c0]⟩,.old 1 ⟨E1,k1,[c1]⟩] ?_ (by simp[go_sem,hz0,hz1,hy0,hy1])
  simp[go_sem,hz0,hz1,hy0,hy1]
 ·exact⟨Nat.zero_le _,fun k h hk=>absurd hk (by omega)⟩
 ·rintro n ⟨h1,h2⟩
  (repeat(refine yB ?_;(simp[go_sem])))
  refine yC (decide (n<L.length)) (fun hc=>?_) fun hc=>?_
  ·simp at hc
   have hq:=cZ hc
   have wk:=w64 (x:=(n:Int)+1) (by omega) (by omega)
   (repeat(refine yB ?_;(simp[go_sem,hc,hq,hcall])))
   refine aV [0,1] (hf L[n] (List.getElem_mem hc)) (by simp[go_sem,hz0,hz1,hy0,hy1]) ?_
   simp[go_sem,hz0]
   refine yC (p L[n]) (fun hs=>?_) fun hs=>?_
   ·have e1:L.findIdx? p=some n:=by
     rw[List.findIdx?_eq_some_iff_getElem]
     exact⟨hc,hs,fun k hk=>by rw[h2 k (by omega) hk];simp⟩
    rw[e1]
    (repeat(refine yB ?_;(simp[go_sem])))
    refine aB ?_;simp only[thenQ,blkQ,loopQ];refine aA [(4,ii n),(1000000,.ow 0),(1000001,.ow 1)] [.old 0 ⟨E0,k0,[c0]⟩,.old 1 ⟨E1,k1,[c1]⟩] ?_
    simp[go_sem,hz0,hz1,hy0,hy1]
   ·(repeat(refine yB ?_;(simp[go_sem,wk])))
    refine⟨n+1,⟨by omega,fun k h hk=>?_⟩,by omega,?_⟩
    ·by_cases e:k=n
     ·subst e;exact hs
     ·exact h2 k h (by omega)
    ·refine yS _ [.old 0 ⟨E0,k0,[c0]⟩,.old 1 ⟨E1,k1,[c1]⟩] ?_ (by simp[go_sem,hz0,hz1,hy0,hy1])
     simp[go_sem,hz0,hz1,hy0,hy1]
  ·simp at hc
   have e1:L.findIdx? p=none:=by
    rw[List.findIdx?_eq_none_iff]
    intro x hx
    obtain⟨k,hk,rfl⟩:=List.getElem_of_mem hx
    exact h2 k hk (by omega)
   rw[e1]
   (repeat(refine yB ?_;(simp[go_sem])))
   refine aB ?_;refine aA [(4,ii (-1)),(1000000,.ow 0),(1000001,.ow 1)] [.old 0 ⟨E0,k0,[c0]⟩,.old 1 ⟨E1,k1,[c1]⟩] ?_
   simp[go_sem,hz0,hz1,hy0,hy1]
theorem EM(f:FuncId)(E0 k0:Nat)(c0:AV)(E1 k1:Nat)(c1:AV)(p:Int→Bool)(L:List Int)(hl:L.length≤100000)(hz0:c0.flat.all AV.zone=true)(hz1:c1.flat.all AV.zone=true)(hf:∀x∈L,MeansH Tryz.prog f [.row ⟨E0,k0,[c0]⟩,.row ⟨E1,k1,[c1]⟩] [ii x,.el 0 k0 0 0,.el 1 k1 0 0] (bb (p x)) [.row ⟨E0,k0,[c0]⟩,.row ⟨E1,k1,[c1]⟩])(hcall:callable Tryz.prog f=true):
  MeansH Tryz.prog 81 [.row ⟨E0,k0,[c0]⟩,.row ⟨E1,k1,[c1]⟩] [.sl (L.map ii),.fn f [] [.el 0 k0 0 0,.el 1 k1 0 0]] (bb (L.any p)) [.row ⟨E0,k0,[c0]⟩,.row ⟨E1,k1,[c1]⟩]:=by
 have hy0:∀x∈c0.flat,x.zone=true:=by simpa using hz0
 have hy1:∀x∈c1.flat,x.zone=true:=by simpa using hz1
 have hI:=FB f E0 k0 c0 E1 k1 c1 p L hl hz0 hz1 hf hcall
 refine yN 2 9 [.tmp 4] [0,1,4,1000000,1000001] Tryz.func81 fun X hX=>?_
 (repeat(refine yB ?_;(simp[go_sem])))
 refine aV [0,1] hI (by simp[go_sem,hz0,hz1,hy0,hy1]) ?_
 simp[go_sem,hz0]
 have e:decide (0≤(match L.findIdx? p with|some n=>(n:Int)|none=> -1))=L.any p:=by
  cases hf:L.findIdx? p with
  |none=>
   have:L.any p=false:=by
    rw[List.any_eq_false]
    intro x hx
    rw[List.findIdx?_eq_none_iff.1 hf x hx];simp
   rw[this];rfl
  |some n=>
   obtain⟨h1,h2,_⟩:=List.findIdx?_eq_some_iff_getElem.1 hf
   have:L.any p=true:=List.any_eq_true.2 ⟨L[n],List.getElem_mem h1,h2⟩
   rw[this]
   simp
 rw[←e]
 refine aB ?_;refine aA [(4,bb (decide (0≤(match L.findIdx? p with|some n=>(n:Int)|none=> -1)))),(1000000,.ow 0),(1000001,.ow 1)] [.old 0 ⟨E0,k0,[c0]⟩,.old 1 ⟨E1,k1,[c1]⟩] ?_
 simp[go_sem,hz0,hz1,hy0,hy1]
set_option maxHeartbeats 4000000 in
theorem FC(f:FuncId)(E0 k0:Nat)(c0:AV)(p:E→Bool)(L:List E)(hl:L.length≤100000)(hz0:c0.flat.all AV.zone=true)(hf:∀x∈L,MeansH Tryz.prog f [.row ⟨E0,k0,[c0]⟩] [ex x,.el 0 k0 0 0] (bb (p x)) [.row ⟨E0,k0,[c0]⟩])(hcall:callable Tryz.prog f=true):
  MeansH Tryz.prog 182 [.row ⟨E0,k0,[c0]⟩] [.sl (L.map ex),.fn f [] [.el 0 k0 0 0]] (ii (match L.findIdx? p with|some n=>(n:Int)|none=> -1)) [.row ⟨E0,k0,[c0]⟩]:=by
 have hy0:∀x∈c0.flat,x.zone=true:=by simpa using hz0
 refine yN 1 19 [.tmp 4] [0,1,4,5,7,8,9,16,1000000] Tryz.func182 fun X hX=>?_
 (repeat(refine yB ?_;(simp[go_sem])))
 refine aG (fun n:Nat=>⟨mkE [(0,.sl (L.map ex)),(1,.fn f [] [.el 0 k0 0 0]),(7,ii L.length),(8,ii n),(1000000,.ow 0)],[.row ⟨E0,k0,[c0]⟩]⟩) (fun n=>n≤L.length∧∀k (h:k<L.length),k<n→p L[k]=false) (fun n=>L.length-n) 0 ?_ ?_ ?_
 ·refine yS _ [.old 0 ⟨E0,k0,[c0]⟩] ?_ (by simp[go_sem,hz0,hy0])
  simp[go_sem,hz0,hy0]
 ·exact⟨Nat.zero_le _,fun k h hk=>absurd hk (by omega)⟩
 ·rintro n ⟨h1,h2⟩
  (repeat(refine yB ?_;(simp[go_sem])))
  refine yC (decide (n<L.length)) (fun hc=>?_) fun hc=>?_
  ·simp at hc
   have hq:=mA hc
   have wk:=w64 (x:=(n:Int)+1) (by omega) (by omega)
   (repeat(refine yB ?_;(simp[go_sem,hc,hq,hcall])))
   refine aV [0] (hf L[n] (List.getElem_mem hc)) (by simp[go_sem,hz0,hy0]) ?_
   simp[go_sem,hz0]
   refine yC (p L[n]) (fun hs=>?_) fun hs=>?_
   ·have e1:L.findIdx? p=some n:=by
     rw[List.findIdx?_eq_some_iff_getElem]
     exact⟨hc,hs,fun k hk=>by rw[h2 k (by omega) hk];simp⟩
    rw[e1]
    (repeat(refine yB ?_;(simp[go_sem])))
    refine aB ?_;simp only[thenQ,blkQ,loopQ];refine aA [(4,ii n),(1000000,.ow 0)] [.old 0 ⟨E0,k0,[c0]⟩] ?_
    simp[go_sem,hz0,hy0]
   ·(repeat(refine yB ?_;(simp[go_sem,wk])))
    refine⟨n+1,⟨by omega,fun k h hk=>?_⟩,by omega,?_⟩
    ·by_cases e:k=n
     ·subst e;exact hs
     ·exact h2 k h (by omega)
    ·refine yS _ [.old 0 ⟨E0,k0,[c0]⟩] ?_ (by simp[go_sem,hz0,hy0])
     simp[go_sem,hz0,hy0]
  ·simp at hc
   have e1:L.findIdx? p=none:=by
    rw[List.findIdx?_eq_none_iff]
    intro x hx
    obtain⟨k,hk,rfl⟩:=List.getElem_of_mem hx
    exact h2 k hk (by omega)
   rw[e1]
   (repeat(refine yB ?_;(simp[go_sem])))
   refine aB ?_;refine aA [(4,ii (-1)),(1000000,.ow 0)] [.old 0 ⟨E0,k0,[c0]⟩] ?_
   simp[go_sem,hz0,hy0]
theorem FD(f:FuncId)(E0 k0:Nat)(c0:AV)(p:E→Bool)(L:List E)(hl:L.length≤100000)(hz0:c0.flat.all AV.zone=true)(hf:∀x∈L,MeansH Tryz.prog f [.row ⟨E0,k0,[c0]⟩] [ex x,.el 0 k0 0 0] (bb (p x)) [.row ⟨E0,k0,[c0]⟩])(hcall:callable Tryz.prog f=true):
  MeansH Tryz.prog 157 [.row ⟨E0,k0,[c0]⟩] [.sl (L.map ex),.fn f [] [.el 0 k0 0 0]] (bb (L.any p)) [.row ⟨E0,k0,[c0]⟩]:=by
 have hy0:∀x∈c0.flat,x.zone=true:=by simpa using hz0
 have hI:=FC f E0 k0 c0 p L hl hz0 hf hcall
 refine yN 1 9 [.tmp 4] [0,1,4,1000000] Tryz.func157 fun X hX=>?_
 (repeat(refine yB ?_;(simp[go_sem])))
 refine aV [0] hI (by simp[go_sem,hz0,hy0]) ?_
 simp[go_sem,hz0]
 have e:decide (0≤(match L.findIdx? p with|some n=>(n:Int)|none=> -1))=L.any p:=by
  cases hf:L.findIdx? p with
  |none=>
   have:L.any p=false:=by
    rw[List.any_eq_false]
    intro x hx
    rw[List.findIdx?_eq_none_iff.1 hf x hx];simp
   rw[this];rfl
  |some n=>
   obtain⟨h1,h2,_⟩:=List.findIdx?_eq_some_iff_getElem.1 hf
   have:L.any p=true:=List.any_eq_true.2 ⟨L[n],List.getElem_mem h1,h2⟩
   rw[this]
   simp
 rw[←e]
 refine aB ?_;refine aA [(4,bb (decide (0≤(match L.findIdx? p with|some n=>(n:Int)|none=> -1)))),(1000000,.ow 0)] [.old 0 ⟨E0,k0,[c0]⟩] ?_
 simp[go_sem,hz0,hy0]
set_option maxHeartbeats 4000000 in
theorem FE(f:FuncId)(E0 k0:Nat)(c0:AV)(p:(By×E)→Bool)(L:List (By×E))(hl:L.length≤100000)(hz0:c0.flat.all AV.zone=true)(hf:∀x∈L,MeansH Tryz.prog f [.row ⟨E0,k0,[c0]⟩] [lt x,.el 0 k0 0 0] (bb (p x)) [.row ⟨E0,k0,[c0]⟩])(hcall:callable Tryz.prog f=true):
  MeansH Tryz.prog 118 [.row ⟨E0,k0,[c0]⟩] [.sl (L.map lt),.fn f [] [.el 0 k0 0 0]] (ii (match L.findIdx? p with|some n=>(n:Int)|none=> -1)) [.row ⟨E0,k0,[c0]⟩]:=by
 have hy0:∀x∈c0.flat,x.zone=true:=by simpa using hz0
 refine yN 1 19 [.tmp 4] [0,1,4,5,7,8,9,16,1000000] Tryz.func118 fun X hX=>?_
 (repeat(refine yB ?_;(simp[go_sem])))
 refine aG (fun n:Nat=>⟨mkE [(0,.sl (L.map lt)),(1,.fn f [] [.el 0 k0 0 0]),(7,ii L.length),(8,ii n),(1000000,.ow 0)],[.row ⟨E0,k0,[c0]⟩]⟩) (fun n=>n≤L.length∧∀k (h:k<L.length),k<n→p L[k]=false) (fun n=>L.length-n) 0 ?_ ?_ ?_
 ·refine yS _ [.old 0 ⟨E0,k0,[c0]⟩] ?_ (by simp[go_sem,hz0,hy0])
  simp[go_sem,hz0,hy0]
 ·exact⟨Nat.zero_le _,fun k h hk=>absurd hk (by omega)⟩
 ·rintro n ⟨h1,h2⟩
  (repeat(refine yB ?_;(simp[go_sem])))
  refine yC (decide (n<L.length)) (fun hc=>?_) fun hc=>?_
  ·simp at hc
   have hq:=dA hc
   have wk:=w64 (x:=(n:Int)+1) (by omega) (by omega)
   (repeat(refine yB ?_;(simp[go_sem,hc,hq,hcall])))
   refine aV [0] (hf L[n] (List.getElem_mem hc)) (by simp[go_sem,hz0,hy0]) ?_
   simp[go_sem,hz0]
   refine yC (p L[n]) (fun hs=>?_) fun hs=>?_
   ·have e1:L.findIdx? p=some n:=by
     rw[List.findIdx?_eq_some_iff_getElem]
     exact⟨hc,hs,fun k hk=>by rw[h2 k (by omega) hk];simp⟩
    rw[e1]
    (repeat(refine yB ?_;(simp[go_sem])))
    refine aB ?_;simp only[thenQ,blkQ,loopQ];refine aA [(4,ii n),(1000000,.ow 0)] [.old 0 ⟨E0,k0,[c0]⟩] ?_
    simp[go_sem,hz0,hy0]
   ·(repeat(refine yB ?_;(simp[go_sem,wk])))
    refine⟨n+1,⟨by omega,fun k h hk=>?_⟩,by omega,?_⟩
    ·by_cases e:k=n
     ·subst e;exact hs
     ·exact h2 k h (by omega)
    ·refine yS _ [.old 0 ⟨E0,k0,[c0]⟩] ?_ (by simp[go_sem,hz0,hy0])
     simp[go_sem,hz0,hy0]
  ·simp at hc
   have e1:L.findIdx? p=none:=by
    rw[List.findIdx?_eq_none_iff]
    intro x hx
    obtain⟨k,hk,rfl⟩:=List.getElem_of_mem hx
    exact h2 k hk (by omega)
   rw[e1]
   (repeat(refine yB ?_;(simp[go_sem])))
   refine aB ?_;refine aA [(4,ii (-1)),(1000000,.ow 0)] [.old 0 ⟨E0,k0,[c0]⟩] ?_
   simp[go_sem,hz0,hy0]
theorem EN(f:FuncId)(E0 k0:Nat)(c0:AV)(p:(By×E)→Bool)(L:List (By×E))(hl:L.length≤100000)(hz0:c0.flat.all AV.zone=true)(hf:∀x∈L,MeansH Tryz.prog f [.row ⟨E0,k0,[c0]⟩] [lt x,.el 0 k0 0 0] (bb (p x)) [.row ⟨E0,k0,[c0]⟩])(hcall:callable Tryz.prog f=true):
  MeansH Tryz.prog 65 [.row ⟨E0,k0,[c0]⟩] [.sl (L.map lt),.fn f [] [.el 0 k0 0 0]] (bb (L.any p)) [.row ⟨E0,k0,[c0]⟩]:=by
 have hy0:∀x∈c0.flat,x.zone=true:=by simpa using hz0
 have hI:=FE f E0 k0 c0 p L hl hz0 hf hcall
 refine yN 1 9 [.tmp 4] [0,1,4,1000000] Tryz.func65 fun X hX=>?_
 (repeat(refine yB ?_;(simp[go_sem])))
 refine aV [0] hI (by simp[go_sem,hz0,hy0]) ?_
 simp[go_sem,hz0]
 have e:decide (0≤(match L.findIdx? p with|some n=>(n:Int)|none=> -1))=L.any p:=by
  cases hf:L.findIdx? p with
  |none=>
   have:L.any p=false:=by
    rw[List.any_eq_false]
    intro x hx
    rw[List.findIdx?_eq_none_iff.1 hf x hx];simp
   rw[this];rfl
  |some n=>
   obtain⟨h1,h2,_⟩:=List.findIdx?_eq_some_iff_getElem.1 hf
   have:L.any p=true:=List.any_eq_true.2 ⟨L[n],List.getElem_mem h1,h2⟩
   rw[this]
   simp
 rw[←e]
 refine aB ?_;refine aA [(4,bb (decide (0≤(match L.findIdx? p with|some n=>(n:Int)|none=> -1)))),(1000000,.ow 0)] [.old 0 ⟨E0,k0,[c0]⟩] ?_
 simp[go_sem,hz0,hy0]
end Go.Proofs.YtllgjognpobnpaaGreatDoor

namespace Go.Proofs.YtllgjognpobnpaaGreatDoor
open Go.RowKit Go.Ab
structure Nd where
 mine:Bool
 mv:List (Nat×Int)
abbrev mvv(m:Nat×Int):AV:=.agg [ii m.1,ii m.2]
abbrev ndv(x:Nd):AV:=.agg [bb x.mine,.sl (x.mv.map mvv)]
@[go_sem] theorem lM{L:List (Nat×Int)}{k:Nat}(h:k<L.length):nth (L.map mvv) k=mvv L[k]:=cG mvv h
@[go_sem] theorem jS{L:List Nd}{k:Nat}(h:k<L.length):nth (L.map ndv) k=ndv L[k]:=cG ndv h
structure OkN(n j:Nat)(x:Nd):Prop where
 few:x.mv.length≤8
 to:∀m∈x.mv,j<m.1∧m.1<n∧ -1099511627776≤m.2∧m.2≤1099511627776
structure OkG(G:List Nd):Prop where
 pos:0<G.length
 len:G.length≤3000
 nd:∀j (h:j<G.length),OkN G.length j G[j]
theorem kT{V:List Int}{i j:Nat}(h:i≠j)(c d:Int):(V.set i c).getD j d=V.getD j d:=by
 rw[List.getD_eq_getElem?_getD,List.getElem?_set_ne h,←List.getD_eq_getElem?_getD]
theorem mU{V:List Int}{i:Nat}(h:i<V.length)(c d:Int):(V.set i c).getD i d=c:=by
 rw[List.getD_eq_getElem?_getD,List.getElem?_set_self h];rfl
def vAt(V:List Int)(m:Nat×Int):Int:=m.2+V.getD m.1 0
def bst(x:Nd)(V:List Int):Nat→Int×Int
 |0=>(0,-1)
 |k+1=>if k=0∨(x.mine=true∧(bst x V k).1<vAt V (x.mv.getD k (0,0)))∨(x.mine=false∧vAt V (x.mv.getD k (0,0))<(bst x V k).1)then(vAt V (x.mv.getD k (0,0)),(k:Int))else bst x V k
theorem qP(x:Nd)(V:List Int):∀k,0<k→∃j,j<k∧bst x V k=(vAt V (x.mv.getD j (0,0)),(j:Int))
 |0,h=>absurd h (by omega)
 |k+1,_=>by
  rw[bst]
  split
  ·exact⟨k,by omega,rfl⟩
  ·rename_i h
   obtain⟨j,hj,e⟩:=qP x V k (by omega)
   exact⟨j,by omega,e⟩
theorem wS{x:Nd}(hx:x.mine=true)(V:List Int):∀k j,j<k→vAt V (x.mv.getD j (0,0))≤(bst x V k).1
 |0,j,h=>absurd h (by omega)
 |k+1,j,h=>by
  rw[bst]
  by_cases hk:j<k
  ·have ih:=wS hx V k j hk
   split
   ·rename_i hc
    rcases hc with rfl|hc|hc
    ·omega
    ·show _≤vAt _ _;omega
    ·rw[hx]at hc;cases hc.1
   ·exact ih
  ·have:j=k:=by omega
   subst this
   split
   ·exact Int.le_refl _
   ·rename_i hc
    simp only[not_or,not_and,hx]at hc
    have:=hc.2.1 trivial
    omega
theorem pA{x:Nd}{V V':List Int}(h:∀m∈x.mv,V.getD m.1 0=V'.getD m.1 0):∀k,k≤x.mv.length→bst x V k=bst x V' k
 |0,_=>rfl
 |k+1,hk=>by
  have ih:=pA h k (by omega)
  have e:vAt V (x.mv.getD k (0,0))=vAt V' (x.mv.getD k (0,0)):=by
   unfold vAt
   rw[h _ (by rw[List.getD_eq_getElem?_getD,List.getElem?_eq_getElem (by omega)];exact List.getElem_mem _)]
  rw[bst,bst,ih,e]
abbrev nd0:Nd:=⟨false,[]⟩
def sol(G:List Nd):Nat→List Int×List Int
 |0=>(List.replicate G.length 0,List.replicate G.length (-1))
 |t+1=>((sol G t).1.set (G.length-1-t) (bst (G.getD (G.length-1-t) nd0) (sol G t).1 (G.getD (G.length-1-t) nd0).mv.length).1,
   (sol G t).2.set (G.length-1-t) (bst (G.getD (G.length-1-t) nd0) (sol G t).1 (G.getD (G.length-1-t) nd0).mv.length).2)
theorem gX(G:List Nd):∀t,(sol G t).1.length=G.length∧(sol G t).2.length=G.length
 |0=>by simp[sol]
 |t+1=>by simp[sol,gX G t]
theorem wT(G:List Nd):∀t,t≤G.length→∀j,j<G.length-t→(sol G t).1.getD j 0=0∧(sol G t).2.getD j 0= -1
 |0,_,j,hj=>by simp only[sol,List.getD_eq_getElem?_getD,List.getElem?_replicate,if_pos (show j<G.length by omega)];exact⟨rfl,rfl⟩
 |t+1,ht,j,hj=>by
  have ih:=wT G t (by omega) j (by omega)
  simp only[sol]
  rw[kT (by omega),kT (by omega)]
  exact ih
theorem CH{G:List Nd}(hG:OkG G):∀t,t≤G.length→∀j (h:j<G.length),G.length-t≤j→
  ((sol G t).1.getD j 0,(sol G t).2.getD j 0)=bst G[j] (sol G t).1 G[j].mv.length
 |0,_,j,h,hj=>absurd hj (by omega)
 |t+1,ht,j,h,hj=>by
  have hl:=gX G t
  have cong:∀i (hi:i<G.length),G.length-1-t≤i→bst G[i] (sol G (t+1)).1 G[i].mv.length=bst G[i] (sol G t).1 G[i].mv.length:=fun i hi hge=>by
   refine pA (fun m hm=>?_) _ (Nat.le_refl _)
   have:=((hG.nd i hi).to m hm).1
   simp only[sol]
   rw[kT (by omega)]
  rw[cong j h (by omega)]
  by_cases e:j=G.length-1-t
  ·subst e
   have eG:G.getD (G.length-1-t) nd0=G[G.length-1-t]:=by simp[List.getD_eq_getElem?_getD,List.getElem?_eq_getElem h]
   simp only[sol,eG]
   rw[mU (by omega),mU (by omega)]
  ·have ih:=CH hG t (by omega) j h (by omega)
   rw[←ih]
   simp only[sol]
   rw[kT (by omega),kT (by omega)]
def vals(G:List Nd):List Int:=(sol G G.length).1
def mvs(G:List Nd):List Int:=(sol G G.length).2
theorem gB(G:List Nd):(vals G).length=G.length:=(gX G _).1
theorem lN(G:List Nd):(mvs G).length=G.length:=(gX G _).2
theorem qQ{G:List Nd}(hG:OkG G)(j:Nat)(h:j<G.length):(vals G).getD j 0=(bst G[j] (vals G) G[j].mv.length).1∧(mvs G).getD j 0=(bst G[j] (vals G) G[j].mv.length).2:=by
 have:=CH hG G.length (Nat.le_refl _) j h (by omega)
 exact⟨congrArg Prod.fst this,congrArg Prod.snd this⟩
theorem gY{x:Nd}{k:Nat}(h:k<x.mv.length):x.mv.getD k (0,0)=x.mv[k]:=by simp[List.getD_eq_getElem?_getD,List.getElem?_eq_getElem h]
theorem lO{G:List Nd}(hG:OkG G){j:Nat}(h:j<G.length)(he:G[j].mv=[]):(vals G).getD j 0=0∧(mvs G).getD j 0= -1:=by
 have:=qQ hG j h
 rw[he]at this
 exact this
theorem lP{G:List Nd}(hG:OkG G){j:Nat}(h:j<G.length)(he:0<G[j].mv.length):∃k,∃hk:k<G[j].mv.length,(vals G).getD j 0=G[j].mv[k].2+(vals G).getD G[j].mv[k].1 0∧(mvs G).getD j 0=(k:Int):=by
 have:=qQ hG j h
 obtain⟨k,hk,e⟩:=qP G[j] (vals G) _ he
 rw[e,gY hk]at this
 exact⟨k,hk,this.1,this.2⟩
theorem qR{G:List Nd}(hG:OkG G){j:Nat}(h:j<G.length)(hm:G[j].mine=true){k:Nat}(hk:k<G[j].mv.length):G[j].mv[k].2+(vals G).getD G[j].mv[k].1 0≤(vals G).getD j 0:=by
 have:=wS hm (vals G) _ k hk
 rw[gY hk,←(qQ hG j h).1]at this
 exact this
theorem CI{G:List Nd}(hG:OkG G):∀t j,j<G.length→G.length-j≤t→ -(1099511627776*(t:Int))≤(vals G).getD j 0∧(vals G).getD j 0≤1099511627776*(t:Int)
 |0,j,h,ht=>absurd ht (by omega)
 |t+1,j,h,ht=>by
  by_cases he:0<G[j].mv.length
  ·obtain⟨k,hk,e,_⟩:=lP hG h he
   have ho:=(hG.nd j h).to _ (List.getElem_mem hk)
   have ih:=CI hG t G[j].mv[k].1 ho.2.1 (by omega)
   rw[e]
   push_cast
   omega
  ·have:=(lO hG h (List.length_eq_zero_iff.1 (by omega))).1
   rw[this]
   omega
theorem lQ{G:List Nd}(hG:OkG G){j:Nat}(h:j<G.length): -3298534883328000≤(vals G).getD j 0∧(vals G).getD j 0≤3298534883328000:=by
 have:=CI hG 3000 j h (by have:=hG.len;omega)
 omega
theorem uT{G:List Nd}(hG:OkG G)(hn:∀j (h:j<G.length),(G[j].mine=true→∃m∈G[j].mv,0≤m.2)∧(G[j].mine=false→∀m∈G[j].mv,0≤m.2)):∀t j,j<G.length→G.length-j≤t→0≤(vals G).getD j 0
 |0,j,h,ht=>absurd ht (by omega)
 |t+1,j,h,ht=>by
  cases hm:G[j].mine with
  |true=>
   obtain⟨m,hmm,h0⟩:=(hn j h).1 hm
   obtain⟨k,hk,rfl⟩:=List.getElem_of_mem hmm
   have ho:=(hG.nd j h).to _ hmm
   have ih:=uT hG hn t G[j].mv[k].1 ho.2.1 (by omega)
   have:=qR hG h hm hk
   omega
  |false=>
   by_cases he:0<G[j].mv.length
   ·obtain⟨k,hk,e,_⟩:=lP hG h he
    have ho:=(hG.nd j h).to _ (List.getElem_mem hk)
    have ih:=uT hG hn t G[j].mv[k].1 ho.2.1 (by omega)
    have:=(hn j h).2 hm _ (List.getElem_mem hk)
    omega
   ·rw[(lO hG h (List.length_eq_zero_iff.1 (by omega))).1]
    omega
def ofK(G:List Nd)(W:List Int):Nat→List Int
 |0=>W
 |t+1=>if(G.getD t nd0).mine=true then(ofK G W t).set t (-1)else ofK G W t
theorem lR(G:List Nd)(W:List Int):∀t,(ofK G W t).length=W.length
 |0=>rfl
 |t+1=>by rw[ofK];split<;>simp[lR G W t]
theorem CJ(G:List Nd)(W:List Int):∀t,t≤W.length→∀j,j<W.length→(ofK G W t).getD j 0=if j<t∧(G.getD j nd0).mine=true then-1 else W.getD j 0
 |0,_,j,_=>by simp[ofK]
 |t+1,ht,j,hj=>by
  have ih:=CJ G W t (by omega) j hj
  have hl:=lR G W t
  rw[ofK]
  by_cases e:j=t
  ·subst e
   split
   ·rename_i hm
    rw[mU (by omega),if_pos ⟨by omega,hm⟩]
   ·rename_i hm
    rw[ih,if_neg (by omega),if_neg (fun h=>hm h.2)]
  ·split
   ·rw[kT (by omega),ih]
    by_cases q:j<t
    ·simp[q,show j<t+1 by omega]
    ·simp[q,show ¬j<t+1 by omega]
   ·rw[ih]
    by_cases q:j<t
    ·simp[q,show j<t+1 by omega]
    ·simp[q,show ¬j<t+1 by omega]
def chc(G:List Nd):List Int:=ofK G (mvs G) G.length
theorem wU(G:List Nd):(chc G).length=G.length:=by rw[chc,lR,lN]
theorem CK(G:List Nd){j:Nat}(h:j<G.length):(chc G).getD j 0=if G[j].mine=true then-1 else(mvs G).getD j 0:=by
 rw[chc,CJ G _ _ (by rw[lN];exact Nat.le_refl _) j (by rw[lN];exact h)]
 simp[h,List.getD_eq_getElem?_getD]
def plyK(x:Nd)(m c:Int):Nat:=if(if x.mine then m else c)<0∨(x.mv.length:Int)≤(if x.mine then m else c)then 0 else(if x.mine then m else c).toNat
theorem wV{G:List Nd}(hG:OkG G){j:Nat}(h:j<G.length)(he:0<G[j].mv.length)(m:Int):∃hk:plyK G[j] m ((chc G).getD j 0)<G[j].mv.length,
  G[j].mv[plyK G[j] m ((chc G).getD j 0)].2+(vals G).getD G[j].mv[plyK G[j] m ((chc G).getD j 0)].1 0≤(vals G).getD j 0:=by
 have hk:plyK G[j] m ((chc G).getD j 0)<G[j].mv.length:=by
  unfold plyK
  generalize(if G[j].mine=true then m else(chc G).getD j 0)=c
  split
  ·exact he
  ·rename_i hc
   simp only[not_or]at hc
   omega
 refine⟨hk,?_⟩
 cases hm:G[j].mine with
 |true=>exact qR hG h hm hk
 |false=>
  obtain⟨k,hk2,e1,e2⟩:=lP hG h he
  have:plyK G[j] m ((chc G).getD j 0)=k:=by
   unfold plyK
   rw[CK G h,hm,e2]
   simp
   omega
  simp only[this]
  omega
def AllAt(Q:Nat→Nd→Prop)(b:Nat)(l:List Nd):Prop:=∀i (h:i<l.length),Q (b+i) l[i]
theorem AllAt.app{Q:Nat→Nd→Prop}{b:Nat}{l l':List Nd}(h:AllAt Q b l)(h':AllAt Q (b+l.length) l'):AllAt Q b (l++l'):=fun i hi=>by
 by_cases q:i<l.length
 ·rw[List.getElem_append_left q];exact h i q
 ·rw[List.getElem_append_right (by omega)]
  have:=h' (i-l.length) (by simp at hi;omega)
  rw[show b+l.length+(i-l.length)=b+i by omega]at this
  exact this
theorem AllAt.one{Q:Nat→Nd→Prop}{b:Nat}{x:Nd}(h:Q b x):AllAt Q b [x]:=fun i hi=>by
 have:i=0:=by simpa using hi
 subst this
 exact h
theorem AllAt.rng{Q:Nat→Nd→Prop}{b n:Nat}{f:Nat→Nd}(h:∀i,i<n→Q (b+i) (f i)):AllAt Q b ((List.range n).map f):=fun i hi=>by
 have:i<n:=by simpa using hi
 simp only[List.getElem_map,List.getElem_range]
 exact h i this
end Go.Proofs.YtllgjognpobnpaaGreatDoor

namespace Go.Proofs.YtllgjognpobnpaaGreatDoor
open Go.RowKit Go.Ab
def mvM(at0 k:Nat)(g:List Int)(j:Nat):List (Nat×Int):=(List.range (j+1)).map fun r=>(at0+(k+1)+k-(j-r),g.getD (j-r) 0)
def ndM(at0 k:Nat)(g:List Int)(q:Nat):Nd:=⟨true,mvM at0 k g (k-q)⟩
def endsC(n k vo:Int)(j:Nat):Bool:=decide ((j:Int)<k)&&decide (k<n)&&decide (vo*n≤1000*(n-k))
def ndO(at0 en k:Nat)(lastP:Bool)(n vo:Int)(q:Nat):Nd:=
 ⟨false,((if lastP then en else at0+2*(k+1)+q),0)::if endsC n k vo (k-q)then[(en,0)]else[]⟩
def ndsP(at0 en k:Nat)(lastP:Bool)(n vo:Int)(g:List Int):List Nd:=
 (List.range (k+1)).map (ndM at0 k g)++(List.range (k+1)).map (ndO at0 en k lastP n vo)
theorem mV(at0 en k:Nat)(lastP:Bool)(n vo:Int)(g:List Int):(ndsP at0 en k lastP n vo g).length=2*(k+1):=by
 simp[ndsP];omega
def ndsG(n vo:Int)(k last:Nat)(G:Nat→List Int):Nat→List Nd
 |0=>[]
 |p+1=>ndsG n vo k last G p++ndsP (2*(k+1)*p) (2*(k+1)*last) k (decide (p+1=last)) n vo (G p)
theorem gC(n vo:Int)(k last:Nat)(G:Nat→List Int):∀p,(ndsG n vo k last G p).length=2*(k+1)*p
 |0=>rfl
 |p+1=>by rw[ndsG,List.length_append,gC n vo k last G p,mV];exact(Nat.mul_succ _ _).symm
def gameL(n vo:Int)(k last:Nat)(G:Nat→List Int):List Nd:=ndsG n vo k last G last++[nd0]
theorem gZ(n vo:Int)(k last:Nat)(G:Nat→List Int):(gameL n vo k last G).length=2*(k+1)*last+1:=by
 rw[gameL,List.length_append,gC];rfl
structure OkGn(k:Nat)(g:List Int):Prop where
 len:g.length=k+1
 z:g.getD 0 0=0
 bd:∀x∈g,-1099511627776≤x∧x≤1099511627776
theorem OkGn.at{k:Nat}{g:List Int}(h:OkGn k g)(i:Nat): -1099511627776≤g.getD i 0∧g.getD i 0≤1099511627776:=by
 rw[List.getD_eq_getElem?_getD]
 cases e:g[i]? with
 |none=>simp
 |some x=>exact h.bd x (List.mem_of_getElem? e)
def ndQ(N j:Nat)(x:Nd):Prop:=OkN N j x∧(x.mine=true→∃m∈x.mv,0≤m.2)∧(x.mine=false→∀m∈x.mv,0≤m.2)
theorem J5{N at0 k q:Nat}{g:List Int}(hg:OkGn k g)(hk:k≤7)(hq:q<k+1)(hN:at0+2*(k+1)<N):ndQ N (at0+q) (ndM at0 k g q):=by
 refine⟨⟨by simp[ndM,mvM];omega,fun m hm=>?_⟩,fun _=>?_,fun h=>by cases h⟩
 ·simp only[ndM,mvM,List.mem_map,List.mem_range]at hm
  obtain⟨r,hr,rfl⟩:=hm
  have:=hg.at (k-q-r)
  refine⟨?_,?_,this.1,this.2⟩<;>simp only<;>omega
 ·refine⟨_,List.mem_map.2 ⟨k-q,List.mem_range.2 (by omega),rfl⟩,?_⟩
  simp only[Nat.sub_self,hg.z]
  exact Int.le_refl _
theorem J6{N at0 en k q:Nat}{lastP:Bool}{n vo:Int}(hq:q<k+1)(he:at0+2*(k+1)≤en)(hl:lastP=false→at0+2*(k+1)+(k+1)≤en)(hN:en<N):ndQ N (at0+(k+1)+q) (ndO at0 en k lastP n vo q):=by
 refine⟨⟨?_,fun m hm=>?_⟩,fun h=>(by cases h),fun _ m hm=>?_⟩
 ·unfold ndO;simp only[List.length_cons];cases endsC n k vo (k-q)<;>simp
 ·have hto:m=((if lastP then en else at0+2*(k+1)+q),0)∨m=(en,0):=by
   unfold ndO at hm
   simp only[List.mem_cons]at hm
   rcases hm with h|h
   ·exact .inl h
   ·split at h
    ·simp at h;exact .inr h
    ·cases h
  rcases hto with rfl|rfl
  ·cases lastP with
   |true=>simp only[if_true];omega
   |false=>have:=hl rfl;simp only[Bool.false_eq_true,if_false];omega
  ·simp only;omega
 ·unfold ndO at hm
  simp only[List.mem_cons]at hm
  rcases hm with rfl|h
  ·exact Int.le_refl _
  ·split at h
   ·simp at h;subst h;exact Int.le_refl _
   ·cases h
theorem CM{n vo:Int}{k last:Nat}{G:Nat→List Int}(hk:k≤7)(hG:∀p,p<last→OkGn k (G p)):∀p,p≤last→AllAt (ndQ (2*(k+1)*last+1)) 0 (ndsG n vo k last G p)
 |0,_=>fun i hi=>absurd hi (by simp[ndsG])
 |p+1,hp=>by
  have hm:2*(k+1)*(p+1)≤2*(k+1)*last:=Nat.mul_le_mul_left _ hp
  rw[Nat.mul_succ]at hm
  rw[ndsG]
  refine(CM hk hG p (by omega)).app ?_
  rw[gC,Nat.zero_add]
  unfold ndsP
  refine AllAt.app (AllAt.rng fun i hi=>J5 (hG p (by omega)) hk hi (by omega)) ?_
  rw[List.length_map,List.length_range]
  refine AllAt.rng fun i hi=>J6 hi (by omega) (fun hl=>?_) (by omega)
  have hl:¬p+1=last:=by simpa using hl
  have h2:2*(k+1)*(p+2)≤2*(k+1)*last:=Nat.mul_le_mul_left _ (by omega)
  rw[Nat.mul_add]at h2
  omega
theorem wW{n vo:Int}{k last:Nat}{G:Nat→List Int}(hk:k≤7)(hG:∀p,p<last→OkGn k (G p)):AllAt (ndQ (gameL n vo k last G).length) 0 (gameL n vo k last G):=by
 rw[gZ]
 refine(CM hk hG last (Nat.le_refl _)).app (AllAt.one ⟨⟨by simp,by simp⟩,fun h=>(by cases h),by simp⟩)
theorem sJ{n vo:Int}{k last:Nat}{G:Nat→List Int}(hk:k≤7)(hl:2*(k+1)*last<3000)(hG:∀p,p<last→OkGn k (G p)):OkG (gameL n vo k last G):=
 ⟨by rw[gZ];omega,by rw[gZ];omega,fun j h=>by have:=(wW (n:=n) (vo:=vo) hk hG j h).1;rwa [Nat.zero_add]at this⟩
theorem FG{n vo:Int}{k last:Nat}{G:Nat→List Int}(hk:k≤7)(hl:2*(k+1)*last<3000)(hG:∀p,p<last→OkGn k (G p)):0≤(vals (gameL n vo k last G)).getD 0 0:=
 uT (sJ hk hl hG) (fun j h=>(wW hk hG j h).2) _ 0 (by rw[gZ];omega) (Nat.le_refl _)
end Go.Proofs.YtllgjognpobnpaaGreatDoor

namespace Go.Proofs.YtllgjognpobnpaaGreatDoor
open Go.RowKit Go.Ab
attribute [local irreducible] AWP Go.Ab.Sub Means MeansH CallK CallG CallT CallGT PanicH DefH
def opnd(o:Int):Int:=if o=0∨o=1 then 0 else if o=12 then 1 else if o=13 then 3 else if o<0∨14≤o then-1 else 2
theorem uU(o:Int):Means true Tryz.prog 156 [ii o] (ii (opnd o)):=by
 refine yM true 17 [.tmp 2] [0,2,3,4,7,9,16] Tryz.func156 fun X hX=>?_
 (repeat(refine yA ?_;(simp[go_sem])))
 by_cases h0:o=0
 ·subst h0
  refine yT ?_
  (repeat(refine yA ?_;(simp[go_sem])))
  refine yT ?_
  (repeat(refine yA ?_;(simp[go_sem])))
  simp[opnd]
 refine yF ?_ (by simp[go_sem,h0])
 (repeat(refine yA ?_;(simp[go_sem])))
 by_cases h1:o=1
 ·subst h1
  refine yT ?_
  (repeat(refine yA ?_;(simp[go_sem])))
  simp[opnd]
 refine yF ?_ (by simp[go_sem,h1])
 (repeat(refine yA ?_;(simp[go_sem])))
 by_cases h2:o=12
 ·subst h2
  refine yT ?_
  (repeat(refine yA ?_;(simp[go_sem])))
  simp[opnd]
 refine yF ?_ (by simp[go_sem,h2])
 (repeat(refine yA ?_;(simp[go_sem])))
 by_cases h3:o=13
 ·subst h3
  refine yT ?_
  (repeat(refine yA ?_;(simp[go_sem])))
  simp[opnd]
 refine yF ?_ (by simp[go_sem,h3])
 (repeat(refine yA ?_;(simp[go_sem])))
 refine yC (decide (o<0)||decide (14≤o)) (fun hb=>?_) fun hb=>?_
 ·simp at hb
  (repeat(refine yA ?_;(simp[go_sem])))
  simp[opnd,h0,h1,h2,h3,hb]
 ·have hb':¬(o<0∨14≤o):=by simpa using hb
  (repeat(refine yA ?_;(simp[go_sem])))
  simp[opnd,h0,h1,h2,h3,hb']
theorem BD{e:E}(h:okE e):opnd e.op=e.kids.length:=by
 cases e with
 |num n u=>rfl
 |nam s=>rfl
 |un a=>rfl
 |bin o a b=>
  have h:=h.1
  show opnd o=2
  unfold opnd
  rw[if_neg (by omega),if_neg (by omega),if_neg (by omega),if_neg (by omega)]
 |ite a b c=>rfl
theorem uB{e x:E}(h:okE e)(hx:x∈e.kids):okE x:=by
 cases e<;>simp only[E.kids,List.mem_cons,List.not_mem_nil,or_false]at hx
 ·subst hx;exact h
 ·rcases hx with rfl|rfl
  ·exact h.2.1
  ·exact h.2.2
 ·rcases hx with rfl|rfl|rfl
  ·exact h.1
  ·exact h.2.1
  ·exact h.2.2
theorem mB{s:By}(h:nameOk s=true):s.length≤20:=by
 unfold nameOk at h
 simp only[Bool.and_eq_true]at h
 have h:=h.1
 unfold isWord at h
 split at h
 ·simp
 ·simp only[Bool.and_eq_true,decide_eq_true_eq]at h
  exact h.1.2
set_option maxHeartbeats 8000000 in
set_option maxRecDepth 20000 in
theorem FH(d:Nat)(hd:d≤100)(ih:∀x,okE x→x.lev≤d→Means true Tryz.prog 126 [ex x,ii d] (bb true))(e:E)(he:okE e)(hl:e.lev≤d+1):
  Means true Tryz.prog 126 [ex e,ii (d+1:Nat)] (bb true):=by
 have hop:=BD he
 have c1:=uU e.op
 rw[hop]at c1
 have wd:=w64 (x:=((d+1:Nat):Int)-1) (by omega) (by omega)
 have e0:((d+1:Nat):Int)-1=d:=by omega
 have hc:∀x∈e.kids,MeansH Tryz.prog 158 [.row ⟨3,1,[ii (d+1:Nat)]⟩] [ex x,.el 0 1 0 0] (bb ((fun _:E=>false) x)) [.row ⟨3,1,[ii (d+1:Nat)]⟩]:=fun x hx=>by
  have c2:=ih x (uB he hx) (by have:=j9 hx;omega)
  have w2:=w64 (x:=(d:Int)) (by omega) (by omega)
  refine yN 1 9 [.tmp 3] [0,1,2,3,1000000] Tryz.func158 fun X hX=>?_
  (repeat(refine yB ?_;(simp[go_sem,wd,e0,w2])))
  refine aD c2 ?_
  simp[go_sem]
  refine aB ?_;refine aA [(3,bb false),(1000000,.ow 0)] [.old 0 ⟨3,1,[ii (d+1:Nat)]⟩] ?_
  simp[go_sem]
 have c3:=FD 158 3 1 (ii (d+1:Nat)) (fun _=>false) e.kids (by cases e<;>simp[E.kids]) rfl hc (by simp[go_sem])
 have hany:(e.kids.any fun _=>false)=false:=by simp
 rw[hany,←gQ]at c3
 have hdn:¬((d:Int)+1=0):=by omega
 cases e with
 |num n u=>
  obtain⟨h1,h2,h3⟩:=he
  have c1:Means true Tryz.prog 156 [ii 0] (ii 0):=c1
  refine yM true 74 [.tmp 4] [0,1,2,3,4,5,16,17,23,48,57] Tryz.func126 fun X hX=>?_
  (repeat(refine yA ?_;(simp[go_sem,hdn])))
  refine eT (fun hg=>c1) ?_
  (simp[go_sem,hdn];try(refine⟨by kernel_rfl,?_⟩))
  refine yF ?_ (by simp[go_sem,hdn])
  (repeat(refine yA ?_;(simp[go_sem])))
  refine yT ?_
  (repeat(refine yA ?_;(simp[go_sem])))
  refine yC (decide (u=0)) (fun hu=>?_) fun hu=>?_
  ·simp at hu
   have:=h3 hu
   subst hu
   (repeat(refine yA ?_;(simp[go_sem])))
   (try simp);omega
  ·simp at hu
   (repeat(refine yA ?_;(simp[go_sem])))
   (try simp);omega
 |nam s=>
  have c1:Means true Tryz.prog 156 [ii 1] (ii 0):=c1
  have c4:=pZ s (by have:=mB he;omega)
  have he:nameOk s=true:=he
  rw[he]at c4
  refine yM true 74 [.tmp 4] [0,1,2,3,4,5,16,17,23,48,57] Tryz.func126 fun X hX=>?_
  (repeat(refine yA ?_;(simp[go_sem,hdn])))
  refine eT (fun hg=>c1) ?_
  (simp[go_sem,hdn];try(refine⟨by kernel_rfl,?_⟩))
  refine yF ?_ (by simp[go_sem,hdn])
  (repeat(refine yA ?_;(simp[go_sem])))
  refine yF ?_
  (repeat(refine yA ?_;(simp[go_sem])))
  refine yF ?_
  (repeat(refine yA ?_;(simp[go_sem])))
  refine yT ?_
  (repeat(refine yA ?_;(simp[go_sem])))
  refine aD c4 ?_
  simp[go_sem]
  (repeat(refine yA ?_;(simp[go_sem])))
 |un a=>
  have c1:Means true Tryz.prog 156 [ii 12] (ii 1):=c1
  simp only[E.args_un]at c3
  refine yM true 74 [.tmp 4] [0,1,2,3,4,5,16,17,23,48,57] Tryz.func126 fun X hX=>?_
  (repeat(refine yA ?_;(simp[go_sem,hdn])))
  refine eT (fun hg=>c1) ?_
  (simp[go_sem,hdn];try(refine⟨by kernel_rfl,?_⟩))
  refine yF ?_ (by simp[go_sem,hdn])
  (repeat(refine yA ?_;(simp[go_sem,hdn])))
  refine yF ?_
  (repeat(refine yA ?_;(simp[go_sem,hdn])))
  refine yF ?_
  (repeat(refine yA ?_;(simp[go_sem,hdn])))
  refine yF ?_
  (repeat(refine yA ?_;(simp[go_sem])))
  refine aW [1] (fun hg=>c3) (by simp[go_sem]) (by simp[go_sem]) ?_
  simp[go_sem]
  (repeat(refine yA ?_;(simp[go_sem])))
 |bin o a b=>
  have ho:=he.1
  have h0:¬o=0:=by omega
  have h1:¬o=1:=by omega
  have c1:Means true Tryz.prog 156 [ii o] (ii 2):=c1
  simp only[E.args_bin]at c3
  refine yM true 74 [.tmp 4] [0,1,2,3,4,5,16,17,23,48,57] Tryz.func126 fun X hX=>?_
  (repeat(refine yA ?_;(simp[go_sem,hdn,h0,h1])))
  refine eT (fun hg=>c1) ?_
  (simp[go_sem,hdn,h0,h1];try(refine⟨by kernel_rfl,?_⟩))
  refine yF ?_ (by simp[go_sem,hdn])
  (repeat(refine yA ?_;(simp[go_sem,hdn,h0,h1])))
  refine yF ?_ (by simp[go_sem,h0,h1])
  (repeat(refine yA ?_;(simp[go_sem,hdn,h0,h1])))
  refine yF ?_
  (repeat(refine yA ?_;(simp[go_sem,hdn,h0,h1])))
  refine yF ?_ (by simp[go_sem,h0,h1])
  (repeat(refine yA ?_;(simp[go_sem])))
  refine aW [1] (fun hg=>c3) (by simp[go_sem]) (by simp[go_sem]) ?_
  simp[go_sem]
  (repeat(refine yA ?_;(simp[go_sem])))
 |ite a b c=>
  have c1:Means true Tryz.prog 156 [ii 13] (ii 3):=c1
  simp only[E.args_ite]at c3
  refine yM true 74 [.tmp 4] [0,1,2,3,4,5,16,17,23,48,57] Tryz.func126 fun X hX=>?_
  (repeat(refine yA ?_;(simp[go_sem,hdn])))
  refine eT (fun hg=>c1) ?_
  (simp[go_sem,hdn];try(refine⟨by kernel_rfl,?_⟩))
  refine yF ?_ (by simp[go_sem,hdn])
  (repeat(refine yA ?_;(simp[go_sem,hdn])))
  refine yF ?_
  (repeat(refine yA ?_;(simp[go_sem,hdn])))
  refine yF ?_
  (repeat(refine yA ?_;(simp[go_sem,hdn])))
  refine yF ?_
  (repeat(refine yA ?_;(simp[go_sem])))
  refine aW [1] (fun hg=>c3) (by simp[go_sem]) (by simp[go_sem]) ?_
  simp[go_sem]
  (repeat(refine yA ?_;(simp[go_sem])))
theorem wX:∀(d:Nat),d≤100→∀e,okE e→e.lev≤d→Means true Tryz.prog 126 [ex e,ii d] (bb true)
 |0,_,e,_,hl=>by have:=u7 e;omega
 |d+1,hd,e,he,hl=>FH d (by omega) (wX d (by omega)) e he hl
theorem bS(e:E)(he:OkE e):Means true Tryz.prog 79 [ex e] (bb true):=by
 have c1:=wX 12 (by omega) e he.1 he.2
 refine yM true 5 [.tmp 2] [0,1,2] Tryz.func79 fun X hX=>?_
 (repeat(refine yA ?_;(simp[go_sem])))
 refine aD c1 ?_
 simp[go_sem]
 (repeat(refine yA ?_;(simp[go_sem])))
end Go.Proofs.YtllgjognpobnpaaGreatDoor

