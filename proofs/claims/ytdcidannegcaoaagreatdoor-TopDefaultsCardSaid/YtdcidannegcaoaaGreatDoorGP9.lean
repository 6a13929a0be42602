/-
  Lemmas for the statement at the top.
-/
import Derived.Test.YtdcidannegcaoaaGreatDoorGP6
import Derived.Test.YtdcidannegcaoaaGreatDoorGP8
import Derived.Test.YtdcidannegcaoaaGreatDoorGP7
set_option linter.all false
namespace Go.Ab
def q18x0:List Nat:=[0,2,3,4,56,1000000]
def q18x1:List Nat:=[0,2,3,4,5,13]
attribute [go_sem] q18x0 q18x1
end Go.Ab
namespace Go.Proofs.YtdcidannegcaoaaGreatDoor
open Go.RowKit Go.Ab
attribute [local irreducible] AWP Go.Ab.Sub Means MeansH CallK CallG CallT CallGT PanicH
theorem vN{f:Nat}{ts:List Tk}{acc:List (By×E)}{i:Nat}:letsF (f+1) ts acc i=if isT ts [108,101,116] i then
   (if acc.length<20 then
    (if(nx ts (i+1)).kind=1∧nameOk (nx ts (i+1)).text=true then
     (if acc.any fun l=>decide (l.1=(nx ts (i+1)).text)then .no (nx ts (i+1)).pos 5
      else(wantT ts [[61]] (i+1+1)).bind fun _ j=>(wholeT ts j).bind fun e k=>letsF f ts (acc++[((nx ts (i+1)).text,e)]) k)
     else .no (nx ts (i+1)).pos 12)
    else .no (nx ts i).pos 6)
  else .ok acc i:=rfl
set_option maxHeartbeats 20000000 in
set_option maxRecDepth 20000 in
theorem DY{ts:List Tk}(hn:OkT ts)(hi:0<ts.length):
  OutH Tryz.prog 25 [pst ts 0] [pp] (outP (bylawsT ts) bl ts []):=by
 have hlen:=hn.len
 have c0:=IA hn hi
 unfold bylawsT
 refine cQ 1 134 [.cell 2 34] Tryz.func25 rfl rfl rfl (by simp) (by decide) rfl fun X hX=>?_
 (repeat(refine a7 q18x0 hX mixed rfl ?_;simp[go_sem]))
 cases e0:kindT ts 0 with
 |no p e=>
  refine aG [0] (aM c0 e0) (by simp[go_sem]) ?_
  simp[go_sem,Pr.bind_no]
 |ok k i0=>
 rw[Pr.bind_ok]
 refine yH [0] (aN c0 e0) ?_
 simp[go_sem]
 have b0:=(CS hn hi e0).2
 have q1:=s6 hn b0 [112,101,114,105,111,100]
 (repeat(refine a7 q18x0 hX mixed rfl ?_;simp[go_sem]))
 refine yH [0] q1 ?_
 simp[go_sem]
 try unfold chk
 cases s1:isT ts [112,101,114,105,111,100] i0 with
 |false=>
  have c:=eU hn b0 12
  refine aG [0] (c) (by simp[go_sem]) ?_
  simp[go_sem]
 |true=>
 rw[if_pos rfl]
 have r1:=eT hn b0 12
 refine yH [0] r1 ?_
 simp[go_sem]
 have c1:=gF hn b0 [112,101,114,105,111,100] 1 1000 [[100,97,121,115],[59]] (by simp)
 (repeat(refine a7 q18x0 hX mixed rfl ?_;simp[go_sem]))
 cases e1:partT ts [112,101,114,105,111,100] 1 1000 [[100,97,121,115],[59]] i0 with
 |no p e=>
  refine aG [0,3] (aM c1 e1) (by simp[go_sem]) ?_
  simp[go_sem,Pr.bind_no]
 |ok period i1=>
 rw[Pr.bind_ok]
 refine yH [0,3] (aN c1 e1) ?_
 simp[go_sem]
 have b1:=(eB hn b0 e1).2.1
 have q2:=s6 hn b1 [108,97,115,116]
 (repeat(refine a7 q18x0 hX mixed rfl ?_;simp[go_sem]))
 refine yH [0] q2 ?_
 simp[go_sem]
 try unfold chk
 cases s2:isT ts [108,97,115,116] i1 with
 |false=>
  have c:=eU hn b1 12
  refine aG [0] (c) (by simp[go_sem]) ?_
  simp[go_sem]
 |true=>
 rw[if_pos rfl]
 have r2:=eT hn b1 12
 refine yH [0] r2 ?_
 simp[go_sem]
 have c2:=gF hn b1 [108,97,115,116] 1 1000 [[59]] (by simp)
 (repeat(refine a7 q18x0 hX mixed rfl ?_;simp[go_sem]))
 cases e2:partT ts [108,97,115,116] 1 1000 [[59]] i1 with
 |no p e=>
  refine aG [0,4] (aM c2 e2) (by simp[go_sem]) ?_
  simp[go_sem,Pr.bind_no]
 |ok last i2=>
 rw[Pr.bind_ok]
 refine yH [0,4] (aN c2 e2) ?_
 simp[go_sem]
 have b2:=(eB hn b1 e2).2.1
 have c3:=gF hn b2 [103,114,97,99,101] 0 1000 [[100,97,121,115],[59]] (by simp)
 (repeat(refine a7 q18x0 hX mixed rfl ?_;simp[go_sem]))
 cases e3:partT ts [103,114,97,99,101] 0 1000 [[100,97,121,115],[59]] i2 with
 |no p e=>
  refine aG [0,5] (aM c3 e3) (by simp[go_sem]) ?_
  simp[go_sem,Pr.bind_no]
 |ok grace i3=>
 rw[Pr.bind_ok]
 refine yH [0,5] (aN c3 e3) ?_
 simp[go_sem]
 have b3:=(eB hn b2 e3).2.1
 have c4:=gF hn b3 [119,97,105,116] 0 1000 [[100,97,121,115],[59]] (by simp)
 (repeat(refine a7 q18x0 hX mixed rfl ?_;simp[go_sem]))
 cases e4:partT ts [119,97,105,116] 0 1000 [[100,97,121,115],[59]] i3 with
 |no p e=>
  refine aG [0,6] (aM c4 e4) (by simp[go_sem]) ?_
  simp[go_sem,Pr.bind_no]
 |ok wait i4=>
 rw[Pr.bind_ok]
 refine yH [0,6] (aN c4 e4) ?_
 simp[go_sem]
 have b4:=(eB hn b3 e4).2.1
 have c5:=FI hn b4
 (repeat(refine a7 q18x0 hX mixed rfl ?_;simp[go_sem]))
 cases e5:orderT ts i4 with
 |no p e=>
  refine aG [0] (aM c5 e5) (by simp[go_sem]) ?_
  simp[go_sem,Pr.bind_no]
 |ok order i5=>
 rw[Pr.bind_ok]
 refine yH [0] (aN c5 e5) ?_
 simp[go_sem]
 have b5:=(A0 hn b4 e5).2
 have c6:=gF hn b5 [98,97,99,107,115] 0 60 [[59]] (by simp)
 (repeat(refine a7 q18x0 hX mixed rfl ?_;simp[go_sem]))
 cases e6:partT ts [98,97,99,107,115] 0 60 [[59]] i5 with
 |no p e=>
  refine aG [0,7] (aM c6 e6) (by simp[go_sem]) ?_
  simp[go_sem,Pr.bind_no]
 |ok backs i6=>
 rw[Pr.bind_ok]
 refine yH [0,7] (aN c6 e6) ?_
 simp[go_sem]
 have b6:=(eB hn b5 e6).2.1
 have c7:=gF hn b6 [118,111,105,99,101,115] 0 1000 [[112,101,114],[109,105,108,108,101],[59]] (by simp)
 (repeat(refine a7 q18x0 hX mixed rfl ?_;simp[go_sem]))
 cases e7:partT ts [118,111,105,99,101,115] 0 1000 [[112,101,114],[109,105,108,108,101],[59]] i6 with
 |no p e=>
  refine aG [0,8] (aM c7 e7) (by simp[go_sem]) ?_
  simp[go_sem,Pr.bind_no]
 |ok voices i7=>
 rw[Pr.bind_ok]
 refine yH [0,8] (aN c7 e7) ?_
 simp[go_sem]
 have b7:=(eB hn b6 e7).2.1
 have c8:=gF hn b7 [106,117,114,121] 0 60 [[59]] (by simp)
 (repeat(refine a7 q18x0 hX mixed rfl ?_;simp[go_sem]))
 cases e8:partT ts [106,117,114,121] 0 60 [[59]] i7 with
 |no p e=>
  refine aG [0,9] (aM c8 e8) (by simp[go_sem]) ?_
  simp[go_sem,Pr.bind_no]
 |ok jury i8=>
 rw[Pr.bind_ok]
 refine yH [0,9] (aN c8 e8) ?_
 simp[go_sem]
 have b8:=(eB hn b7 e8).2.1
 have c9:=gF hn b8 [102,117,110,100] 0 1000 [[112,101,114],[109,105,108,108,101],[59]] (by simp)
 (repeat(refine a7 q18x0 hX mixed rfl ?_;simp[go_sem]))
 cases e9:partT ts [102,117,110,100] 0 1000 [[112,101,114],[109,105,108,108,101],[59]] i8 with
 |no p e=>
  refine aG [0,10] (aM c9 e9) (by simp[go_sem]) ?_
  simp[go_sem,Pr.bind_no]
 |ok fund i9=>
 rw[Pr.bind_ok]
 refine yH [0,10] (aN c9 e9) ?_
 simp[go_sem]
 have b9:=(eB hn b8 e9).2.1
 (repeat(refine a7 q18x0 hX mixed rfl ?_;simp[go_sem]))
 unfold letsT
 refine aE (fun(q:Nat×List (By×E)×Nat)=>⟨mkE [(0,pp),(2,.el 1 37 0 0),(3,.el 2 37 0 0),(1000000,.ow 0)],[pst ts q.2.2,.row ⟨34,37,[.agg [ii 0,ii 0,ii 0,ii 0,ii 0,ii 0,bb false,ii 0,ii 0,ii 0,ii 0,.nil,ii 0,ii 0,ii 0,ss [],.nil,ii 0,ii 0,ii 0,ss [],.nil,ii 0,ii 0,ii 0,ss [],.nil,ii 0,ii 0,ii 0,ss [],.nil,ii 0,ii 0,ii 0,ss [],.nil]]⟩,.row ⟨34,37,[.agg [ii k.1,ii period,ii grace,ii wait,ii last,ii order,bb k.2,ii backs,ii voices,ii jury,ii fund,.ow 3,ii 0,ii 0,ii 0,ss [],.nil,ii 0,ii 0,ii 0,ss [],.nil,ii 0,ii 0,ii 0,ss [],.nil,ii 0,ii 0,ii 0,ss [],.nil,ii 0,ii 0,ii 0,ss [],.nil]]⟩,lrow q.2.1]⟩)
  (fun q=>q.2.2<ts.length∧ts.length-q.2.2+1≤q.1∧q.2.1.length≤20∧letsF (ts.length+1) ts [] i9=letsF q.1 ts q.2.1 q.2.2) (fun q=>ts.length-q.2.2) (ts.length+1,[],i9) ?_ ?_ ?_
 ·refine yS _ [.old 0 ⟨130,2,[.agg [.sl (ts.map tk),ii (i9)]]⟩,.old 1 ⟨34,37,[.agg [ii 0,ii 0,ii 0,ii 0,ii 0,ii 0,bb false,ii 0,ii 0,ii 0,ii 0,.nil,ii 0,ii 0,ii 0,ss [],.nil,ii 0,ii 0,ii 0,ss [],.nil,ii 0,ii 0,ii 0,ss [],.nil,ii 0,ii 0,ii 0,ss [],.nil,ii 0,ii 0,ii 0,ss [],.nil]]⟩,.old 2 ⟨34,37,[.agg [ii k.1,ii period,ii grace,ii wait,ii last,ii order,bb k.2,ii backs,ii voices,ii jury,ii fund,.ow 3,ii 0,ii 0,ii 0,ss [],.nil,ii 0,ii 0,ii 0,ss [],.nil,ii 0,ii 0,ii 0,ss [],.nil,ii 0,ii 0,ii 0,ss [],.nil,ii 0,ii 0,ii 0,ss [],.nil]]⟩,.birth 105 6] ?_
  simp[go_sem]
 ·refine⟨b9,?_,by simp,rfl⟩
  show ts.length-i9+1≤ts.length+1
  omega
 rintro⟨g,acc,at_⟩ ⟨hat,hm,hacc,hl⟩
 simp only[]at hat hm hacc hl⊢
 rw[hl]
 obtain⟨g',rfl⟩:∃g',g=g'+1:=⟨g-1,by omega⟩
 rw[vN]
 have l1:=s6 hn hat [108,101,116]
 (repeat(refine a7 q18x0 hX mixed rfl ?_;simp[go_sem]))
 refine yH [0] l1 ?_
 simp[go_sem]
 cases s1:isT ts [108,101,116] at_ with
 |false=>
  rw[if_neg (by simp),Pr.bind_ok]
  refine yF ?_
  have m1:=cU hn hat [[100,117,101]] (by simp)
  (repeat(refine a7 q18x0 hX mixed rfl ?_;simp[go_sem]))
  cases w1:wantT ts [[100,117,101]] at_ with
  |no p e=>
   refine aG [0,4] (aM m1 w1) (by simp[go_sem]) ?_
   simp[go_sem,Pr.bind_no]
  |ok u a1=>
  rw[Pr.bind_ok]
  refine yH [0,4] (aN m1 w1) ?_
  simp[go_sem]
  have h1:=(bI hn hat w1).2
  have m2:=qJ hn h1
  (repeat(refine a7 q18x0 hX mixed rfl ?_;simp[go_sem]))
  cases w2:wholeT ts a1 with
  |no p e=>
   refine aG [0] (aM m2 w2) (by simp[go_sem]) ?_
   simp[go_sem,Pr.bind_no]
  |ok due a2=>
  rw[Pr.bind_ok]
  refine yH [0] (aN m2 w2) ?_
  simp[go_sem]
  have h2:=(kO hn h1 w2).2.1
  (repeat(refine a7 q18x0 hX mixed rfl ?_;simp[go_sem]))
  have m3:=jJ hn h2 [102,105,110,101]
  cases w3:clauseT ts [102,105,110,101] a2 with
  |no p e=>
   refine aG [0] (aM m3 w3) (by simp[go_sem]) ?_
   simp[go_sem,Pr.bind_no]
  |ok fine a3=>
  rw[Pr.bind_ok]
  refine yH [0] (aN m3 w3) ?_
  simp[go_sem]
  have h3:=(fU hn h2 w3).2.1
  have m4:=jJ hn h3 [112,97,121]
  cases w4:clauseT ts [112,97,121] a3 with
  |no p e=>
   refine aG [0] (aM m4 w4) (by simp[go_sem]) ?_
   simp[go_sem,Pr.bind_no]
  |ok pay a4=>
  rw[Pr.bind_ok]
  refine yH [0] (aN m4 w4) ?_
  simp[go_sem]
  have h4:=(fU hn h3 w4).2.1
  have m5:=jJ hn h4 [99,111,118,101,114]
  cases w5:clauseT ts [99,111,118,101,114] a4 with
  |no p e=>
   refine aG [0] (aM m5 w5) (by simp[go_sem]) ?_
   simp[go_sem,Pr.bind_no]
  |ok cover a5=>
  rw[Pr.bind_ok]
  refine yH [0] (aN m5 w5) ?_
  simp[go_sem]
  have h5:=(fU hn h4 w5).2.1
  have m6:=jJ hn h5 [104,111,108,100]
  cases w6:clauseT ts [104,111,108,100] a5 with
  |no p e=>
   refine aG [0] (aM m6 w6) (by simp[go_sem]) ?_
   simp[go_sem,Pr.bind_no]
  |ok hold a6=>
  rw[Pr.bind_ok]
  refine yH [0] (aN m6 w6) ?_
  simp[go_sem]
  have h6:=(fU hn h5 w6).2.1
  have m7:=gZ hn h6
  (repeat(refine a7 q18x0 hX mixed rfl ?_;simp[go_sem]))
  refine yH [0] m7 ?_
  simp[go_sem]
  by_cases hk:(nx ts a6).kind=0
  ·have m8:=fQ hn h6 12 (b:=decide ((nx ts a6).kind=0)) (by simp[hk])
   rw[if_pos (by simp[hk]),aY]
   refine yH [0] m8 ?_
   simp[go_sem]
   (repeat(refine a7 q18x0 hX mixed rfl ?_;simp[go_sem]))
   refine bA (st0:=⟨mkE [(2,.el 1 37 0 0),(1000000,.ow 0)],[pst ts a6,.row ⟨34,37,[.agg [ii k.1,ii period,ii grace,ii wait,ii last,ii order,bb k.2,ii backs,ii voices,ii jury,ii fund,.sl (acc.map lt),ii due.op,ii due.n,ii due.u,ss due.s,.sl due.args,ii fine.op,ii fine.n,ii fine.u,ss fine.s,.sl fine.args,ii pay.op,ii pay.n,ii pay.u,ss pay.s,.sl pay.args,ii cover.op,ii cover.n,ii cover.u,ss cover.s,.sl cover.args,ii hold.op,ii hold.n,ii hold.u,ss hold.s,.sl hold.args]]⟩]⟩) ?_ ?_
   ·refine yS _ [.old 0 ⟨130,2,[.agg [.sl (ts.map tk),ii (a6)]]⟩,.old 1 ⟨34,37,[.agg [ii k.1,ii period,ii grace,ii wait,ii last,ii order,bb k.2,ii backs,ii voices,ii jury,ii fund,.sl (acc.map lt),ii due.op,ii due.n,ii due.u,ss due.s,.sl due.args,ii fine.op,ii fine.n,ii fine.u,ss fine.s,.sl fine.args,ii pay.op,ii pay.n,ii pay.u,ss pay.s,.sl pay.args,ii cover.op,ii cover.n,ii cover.u,ss cover.s,.sl cover.args,ii hold.op,ii hold.n,ii hold.u,ss hold.s,.sl hold.args]]⟩] ?_
    simp[go_sem]
   ·refine aB ?_;simp only[thenQ,blkQ,loopQ];refine a8 [(1000000,.ow 0)] [.old 0 ⟨130,2,[.agg [.sl (ts.map tk),ii (a6)]]⟩] ?_
    simp[go_sem]
  ·have m8:=fR hn h6 12 (b:=decide ((nx ts a6).kind=0)) (by simp[hk])
   rw[if_neg (by simp[hk])]
   refine aG [0] (m8) (by simp[go_sem]) ?_
   simp[go_sem]
 |true=>
 rw[if_pos rfl]
 refine yT ?_
 have hat1:=hn.has hat s1
 have wk:=w64 (x:=(at_:Int)+1) (by omega) (by omega)
 have wk2:=w64 (x:=(at_:Int)+1+1) (by omega) (by omega)
 have htx:=hn.txt' (at_+1)
 by_cases hc:acc.length<20
 rotate_right
 ·have m1:=fR hn hat 6 (b:=decide ((acc.length:Int)<20)) (by simp;omega)
  rw[if_neg hc]
  (repeat(refine a7 q18x0 hX mixed rfl ?_;simp[go_sem]))
  refine aG [0] (m1) (by simp[go_sem]) ?_
  simp[go_sem,Pr.bind_no]
 have m1:=fQ hn hat 6 (b:=decide ((acc.length:Int)<20)) (by simp;omega)
 have m2:=gZ hn hat1
 have m3:=qI (nx ts (at_+1)).text (by omega)
 rw[if_pos hc]
 (repeat(refine a7 q18x0 hX mixed rfl ?_;simp[go_sem]))
 refine yH [0] m1 ?_
 simp[go_sem]
 (repeat(refine a7 q18x0 hX mixed rfl ?_;simp[go_sem,wk]))
 refine yH [0] m2 ?_
 simp[go_sem]
 (repeat(refine a7 q18x0 hX mixed rfl ?_;simp[go_sem]))
 refine yH [0] m2 ?_
 simp[go_sem]
 refine aK (fun hg=>m3) ?_
 simp[go_sem]
 by_cases hk:(nx ts (at_+1)).kind=1∧nameOk (nx ts (at_+1)).text=true
 rotate_right
 ·have m4:=fR hn hat1 12 (b:=decide ((nx ts (at_+1)).kind=1)&&nameOk (nx ts (at_+1)).text) (by
   cases hq:nameOk (nx ts (at_+1)).text<;>simp_all)
  rw[if_neg hk]
  refine aG [0] (m4) (by simp[go_sem]) ?_
  simp[go_sem,Pr.bind_no]
 have m4:=fQ hn hat1 12 (b:=decide ((nx ts (at_+1)).kind=1)&&nameOk (nx ts (at_+1)).text) (by simp[hk])
 have hat2:=hn.last (at_+1) hat1 (by rw[hk.1];decide)
 rw[if_pos hk]
 refine yH [0] m4 ?_
 simp[go_sem]
 have m5:=nS (nx ts (at_+1)).text acc (by omega)
 (repeat(refine a7 q18x0 hX mixed rfl ?_;simp[go_sem]))
 refine yH [3,4] m5 ?_
 simp[go_sem]
 cases hany:acc.any fun l=>decide (l.1=(nx ts (at_+1)).text)with
 |true=>
  have m6:=eU hn hat1 5
  rw[if_pos rfl]
  refine aG [0] (m6) (by simp[go_sem]) ?_
  simp[go_sem,Pr.bind_no]
 |false=>
 rw[if_neg (by simp)]
 have m6:=eT hn hat1 5
 refine yH [0] m6 ?_
 simp[go_sem]
 have m7:=cU hn hat2 [[61]] (by simp)
 (repeat(refine a7 q18x0 hX mixed rfl ?_;simp[go_sem,wk2]))
 cases w1:wantT ts [[61]] (at_+1+1)with
 |no p e=>
  refine aG [0,5] (aM m7 w1) (by simp[go_sem]) ?_
  simp[go_sem,Pr.bind_no]
 |ok u a1=>
 rw[Pr.bind_ok]
 refine yH [0,5] (aN m7 w1) ?_
 simp[go_sem]
 have h1:=bI hn hat2 w1
 have m8:=qJ hn h1.2
 cases w2:wholeT ts a1 with
 |no p e=>
  (repeat(first|refine aT ?_|refine aR ?_))
  refine hO 4 hX mixed (by kernel_rfl) (by kernel_rfl) ?_;(simp[go_sem];try(refine⟨by kernel_rfl,?_⟩))
  refine eG [0] (aM m8 w2) (by simp[go_sem]) ?_
  simp[go_sem,Pr.bind_no]
 |ok x a2=>
 rw[Pr.bind_ok]
 have h2:=kO hn h1.2 w2
 (repeat(refine a7 q18x0 hX mixed rfl ?_;simp[go_sem]))
 refine dJ [0] (aN m8 w2) (by simp[go_sem]) ?_
 simp[go_sem]
 refine⟨⟨by omega,by unfold maxLen;omega⟩,by kernel_rfl,?_⟩
 refine⟨g',acc++[((nx ts (at_+1)).text,x)],a2,⟨h2.2.1,by omega,by simp;omega,rfl⟩,by omega,?_⟩
 refine yS _ [.old 0 ⟨130,2,[.agg [.sl (ts.map tk),ii (a2)]]⟩,.old 1 ⟨34,37,[.agg [ii 0,ii 0,ii 0,ii 0,ii 0,ii 0,bb false,ii 0,ii 0,ii 0,ii 0,.nil,ii 0,ii 0,ii 0,ss [],.nil,ii 0,ii 0,ii 0,ss [],.nil,ii 0,ii 0,ii 0,ss [],.nil,ii 0,ii 0,ii 0,ss [],.nil,ii 0,ii 0,ii 0,ss [],.nil]]⟩,.old 2 ⟨34,37,[.agg [ii k.1,ii period,ii grace,ii wait,ii last,ii order,bb k.2,ii backs,ii voices,ii jury,ii fund,.ow 3,ii 0,ii 0,ii 0,ss [],.nil,ii 0,ii 0,ii 0,ss [],.nil,ii 0,ii 0,ii 0,ss [],.nil,ii 0,ii 0,ii 0,ss [],.nil,ii 0,ii 0,ii 0,ss [],.nil]]⟩,.old 7 ⟨105,6,(acc++[((nx ts (at_+1)).text,x)]).map lt⟩] ?_
 simp[go_sem]
end Go.Proofs.YtdcidannegcaoaaGreatDoor

namespace Go.Proofs.YtdcidannegcaoaaGreatDoor
open Go.RowKit Go.Ab
attribute [local irreducible] AWP Go.Ab.Sub Means MeansH CallK CallG CallT CallGT PanicH DefH
abbrev ir(n:Int):Cell:=.row ⟨3,1,[ii n]⟩
abbrev er(n:Int):Cell:=.row ⟨27,1,[ii n]⟩
abbrev br(b:Bl):Cell:=.row ⟨34,37,[bl b]⟩
@[go_sem] theorem ofV_nilI:ofV Value.nilIface=.v .nilIface:=rfl
@[go_sem] theorem ofV_stop(p q:Int):ofV (Value.agg #[.int .i64 p,.int .i64 q])=.agg [ii p,ii q]:=rfl
theorem vP(p q a b:Int):MeansH Tryz.prog 24 [ir a,er b] [.v (stopV p q),.el 0 1 0 0,.el 1 1 0 0] (bb true) [ir p,er q]:=by
 refine yN 2 31 [.tmp 6] [0,1,2,6,7,8,19,21,1000000,1000001] Tryz.func24 fun X hX=>?_
 (repeat(refine yB ?_;(simp[go_sem])))
 refine yF ?_
 (repeat(refine yB ?_;(simp[go_sem])))
 refine yT ?_
 (repeat(refine yB ?_;(simp[go_sem];try(refine⟨by kernel_rfl,?_⟩))))
 refine aB ?_;refine a8 [(6,bb true),(1000000,.ow 0),(1000001,.ow 1)] [.old 0 ⟨3,1,[ii p]⟩,.old 1 ⟨27,1,[ii q]⟩] ?_
 simp[go_sem]
theorem vQ(a b:Int):MeansH Tryz.prog 24 [ir a,er b] [.v .nilIface,.el 0 1 0 0,.el 1 1 0 0] (bb false) [ir a,er b]:=by
 refine yN 2 31 [.tmp 6] [0,1,2,6,7,8,19,21,1000000,1000001] Tryz.func24 fun X hX=>?_
 (repeat(refine yB ?_;(simp[go_sem])))
 refine yF ?_
 (repeat(refine yB ?_;(simp[go_sem])))
 refine yF ?_
 (repeat(refine yB ?_;(simp[go_sem])))
 refine aB ?_;refine a8 [(6,bb false),(1000000,.ow 0),(1000001,.ow 1)] [.old 0 ⟨3,1,[ii a]⟩,.old 1 ⟨27,1,[ii b]⟩] ?_
 simp[go_sem]
theorem DZ(p q a b:Int)(b0:Bl):DefH Tryz.prog 23 [ir a,er b,br b0] [.el 0 1 0 0,.el 1 1 0 0,.el 2 37 0 0] (.panicking [{v:=stopV p q,recovered:=false}]) (.panicking [{v:=stopV p q,recovered:=true}]) [ir p,er q,br {}]:=by
 have c1:=vP p q a b
 refine lP 3 6 3 [0,1,2,3,4,5,1000000,1000001,1000002] [] (.got _) Tryz.func23 rfl rfl rfl (by simp) (by decide) rfl rfl rfl rfl rfl (by decide) fun X hX=>?_
 (simp[go_sem])
 refine yH [0,1] c1 ?_
 simp[go_sem]
 refine yT ?_
 (repeat(refine a7 [0,1,2,3,4,5,1000000,1000001,1000002] hX mixed rfl ?_;simp[go_sem]))
 refine aJ [(1000000,.ow 0),(1000001,.ow 1),(1000002,.ow 2)] [.old 0 ⟨3,1,[ii p]⟩,.old 1 ⟨27,1,[ii q]⟩,.old 2 ⟨34,37,[bl {}]⟩] ?_
 simp[go_sem]
theorem AJ(a b:Int)(b0:Bl):DefH Tryz.prog 23 [ir a,er b,br b0] [.el 0 1 0 0,.el 1 1 0 0,.el 2 37 0 0] .returning .returning [ir a,er b,br b0]:=by
 have c1:=vQ a b
 refine lP 3 6 3 [0,1,2,3,4,5,1000000,1000001,1000002] [] .idle Tryz.func23 rfl rfl rfl (by simp) (by decide) rfl rfl rfl rfl rfl (by decide) fun X hX=>?_
 (simp[go_sem])
 refine yH [0,1] c1 ?_
 simp[go_sem]
 refine yF ?_
 (repeat(refine a7 [0,1,2,3,4,5,1000000,1000001,1000002] hX mixed rfl ?_;simp[go_sem]))
 refine aJ [(1000000,.ow 0),(1000001,.ow 1),(1000002,.ow 2)] [.old 0 ⟨3,1,[ii a]⟩,.old 1 ⟨27,1,[ii b]⟩,.old 2 ⟨34,37,[bl b0]⟩] ?_
 simp[go_sem]
theorem E2(s:By)(L:List AV)(p e:Int)(h:lexAV s=.tup [.sl L,ii p,ii e]):MeansH Tryz.prog 22 [] [ss s] (.tup [.el 0 2 0 0,ii p,ii e]) [.row ⟨130,2,[.agg [.sl L,ii 0]]⟩]:=by
 have c1:=K7 s
 rw[h]at c1
 refine yN 0 19 [.tmp 2,.tmp 3,.tmp 4] [0,2,3,4,5,6,7] Tryz.func22 fun X hX=>?_
 (repeat(refine yB ?_;(simp[go_sem])))
 refine aC c1 ?_
 simp[go_sem]
 (repeat(refine yB ?_;(simp[go_sem])))
 refine aB ?_;refine a8 [(2,.el 0 2 0 0),(3,ii p),(4,ii e)] [.old 0 ⟨130,2,[.agg [.sl L,ii 0]]⟩] ?_
 simp[go_sem]
end Go.Proofs.YtdcidannegcaoaaGreatDoor

namespace Go.Proofs.YtdcidannegcaoaaGreatDoor
open Go.RowKit Go.Ab
theorem tJ{P:Program}{f:FuncId}{args:List AV}{r:AV}{H':List Cell}(h:MeansH P f [] args r H')(hz:∀e∈args,e.idLt 0)(hr:r.zone=true):Means false P f args r:=by
 intro M w vs hM hg hl hvs
 have h0:HeapS (blks [] fun _=>undef) M (fun _=>undef) [] w:=⟨by simp,by simp,by simp,by simp,by simp⟩
 refine(h w M (fun _=>undef) vs hM hg h0 hl fun j x e h1 h2=>⟨(hvs j x e h1 h2).rep,hz e (List.mem_of_getElem? h2)⟩).mono fun e w' hq=>?_
 obtain⟨x,M',loc',rfl,hS,hb,hMM,hzone,_,hrep,hid,_⟩:=hq
 have hno:∀b,¬blks [] (fun _=>undef) b:=fun b hb=>by
  rcases hb with⟨id,o,ho,_⟩|⟨id,m,hm,_⟩
  ·simp at ho
  ·simp at hm
 refine⟨x,rfl,⟨hb.os,hb.tape,hb.output,hb.size,fun k hk=>hb.block k hk (hno k)⟩,(hrep.repZ hr).mono (fun _ _=>rfl) fun b hb=>?_⟩
 obtain⟨h1,h2⟩:=hzone b hb
 refine⟨h1,?_⟩
 rcases h2 with h2|h2|h2
 ·exact .inr ⟨rfl,h2⟩
 ·exact .inl h2
 ·exact(hno b h2).elim
attribute [local irreducible] AWP Go.Ab.Sub Means MeansH CallK CallG CallT CallGT PanicH DefH
set_option maxHeartbeats 4000000 in
theorem pJ(s:By)(p e:Int)(h:lexAV s=.tup [.sl [],ii p,ii e])(he:e≠0):MeansH Tryz.prog 7 [] [ss s] (.tup [bl {},ii p,ii e]) []:=by
 have c1:=E2 s [] p e h
 refine gM 0 20 [.cell 2 34,.cell 3 3,.cell 4 27] Tryz.func7 rfl rfl rfl (by simp) (by decide) rfl fun X hX=>?_
 refine dL ?_
 ((first|refine aV q18x1 hX ?_|refine aO q18x1 hX mixed ?_|refine aB ?_|refine aL ?_|refine aU ?_);(simp[go_sem];try(refine⟨by kernel_rfl,?_⟩)))
 refine dL ?_
 ((first|refine aV q18x1 hX ?_|refine aO q18x1 hX mixed ?_|refine aB ?_|refine aL ?_|refine aU ?_);(simp[go_sem];try(refine⟨by kernel_rfl,?_⟩)))
 refine yH [] c1 ?_
 simp[go_sem]
 refine dL ?_
 (repeat(refine a7 q18x1 hX mixed rfl ?_;simp[go_sem]))
 refine yT ?_ (by simp[go_sem,he])
 (repeat(refine a7 q18x1 hX mixed rfl ?_;simp[go_sem];try refine⟨by kernel_rfl,?_⟩))
 refine bA (st0:=⟨mkE [(2,.el 0 37 0 0),(3,.el 1 1 0 0),(4,.el 2 1 0 0)],[br {},ir p,er e]⟩) ?_ ?_
 ·refine yS _ [.old 0 ⟨34,37,[bl {}]⟩,.old 1 ⟨3,1,[ii p]⟩,.old 2 ⟨27,1,[ii e]⟩] ?_
  simp[go_sem]
 ·refine aB ?_
  simp only[doorN]
  refine a8 [] [] ?_
  simp[go_sem]
set_option maxHeartbeats 4000000 in
theorem E3(s:By)(ts:List Tk)(hn:OkT ts)(h0:0<ts.length)(h:lexAV s=.tup [.sl (ts.map tk),ii 0,ii 0]):
  MeansH Tryz.prog 7 [] [ss s] (match bylawsT ts with| .ok b _=>.tup [bl b,ii 0,ii 0]| .no p e=>.tup [bl {},ii p,ii e]) []:=by
 have c1:=E2 s (ts.map tk) 0 0 h
 have c2:=DY hn h0
 generalize hr:(match bylawsT ts with| .ok b _=>AV.tup [bl b,ii 0,ii 0]| .no p e=>AV.tup [bl {},ii p,ii e])=r
 refine gM 0 20 [.cell 2 34,.cell 3 3,.cell 4 27] Tryz.func7 rfl rfl rfl (by simp) (by decide) rfl fun X hX=>?_
 refine dL ?_
 ((first|refine aV q18x1 hX ?_|refine aO q18x1 hX mixed ?_|refine aB ?_|refine aL ?_|refine aU ?_);(simp[go_sem];try(refine⟨by kernel_rfl,?_⟩)))
 refine dL ?_
 ((first|refine aV q18x1 hX ?_|refine aO q18x1 hX mixed ?_|refine aB ?_|refine aL ?_|refine aU ?_);(simp[go_sem];try(refine⟨by kernel_rfl,?_⟩)))
 refine yH [] c1 ?_
 simp[go_sem]
 refine dL ?_
 (repeat(refine a7 q18x1 hX mixed rfl ?_;simp[go_sem]))
 refine yF ?_
 (repeat(refine a7 q18x1 hX mixed rfl ?_;simp[go_sem]))
 refine fV (l:=[_]) (oD:=_) [2,3,4,5] hX rfl rfl rfl rfl ?_
 (simp[go_sem];try(refine⟨by kernel_rfl,?_⟩))
 refine⟨_,_,⟨rfl,rfl⟩,by simp[go_sem],by simp[go_sem],fun X hX=>?_⟩
 simp[go_sem]
 refine bA (st0:=⟨mkE [(2,.el 0 37 0 0),(3,.el 1 1 0 0),(4,.el 2 1 0 0),(5,.el 3 2 0 0),(1000000,.el 1 1 0 0),(1000001,.el 2 1 0 0),(1000002,.el 0 37 0 0)],[br {},ir 0,er 0,pst ts 0]⟩) ?_ ?_
 ·refine yS _ [.old 0 ⟨34,37,[bl {}]⟩,.old 1 ⟨3,1,[ii 0]⟩,.old 2 ⟨27,1,[ii 0]⟩,.old 3 ⟨130,2,[.agg [.sl (ts.map tk),ii 0]]⟩] ?_
  simp[go_sem]
 (repeat(refine a7 [2,3,4,5,1000000,1000001,1000002] hX mixed rfl ?_;simp[go_sem]))
 cases e1:bylawsT ts with
 |no p e=>
  rw[e1]at hr
  have hr:AV.tup [bl {},ii p,ii e]=r:=hr
  subst hr
  refine aG [3] (aM c2 e1) (by simp[go_sem]) ?_
  simp[go_sem]
  refine dM [1,2,0] (DZ p e 0 0 {}) rfl ?_ ?_
  ·simp[go_sem]
  ·refine a8 [] [] ?_
   simp[go_sem]
 |ok b j=>
  rw[e1]at hr
  have hr:AV.tup [bl b,ii 0,ii 0]=r:=hr
  subst hr
  refine yH [3] (aN c2 e1) ?_
  simp[go_sem]
  refine aB ?_
  simp only[doorQ]
  refine dM [1,2,0] (AJ 0 0 b) rfl ?_ ?_
  ·simp[go_sem]
  ·refine a8 [] [] ?_
   simp[go_sem]
theorem GT(s:By):MeansH Tryz.prog 7 [] [ss s] (.tup [bl (parseT s).1,ii (parseT s).2.1,ii (parseT s).2.2]) []:=by
 unfold parseT
 by_cases hl:2000<s.length
 ·rw[if_pos hl]
  exact pJ s 0 6 (by rw[lexAV,if_pos hl]) (by decide)
 ·rw[if_neg hl]
  cases h:lexA s 0 with
  |err i e=>
   refine pJ s i e (A3 (by omega) h) ?_
   obtain⟨_,_,h3,_⟩:=o8 s h
   omega
  |ok ts=>
   obtain⟨hn,h0⟩:=xK (by omega) h
   have:=E3 s ts hn h0 (CX (by omega) h)
   simp only[]
   cases hb:bylawsT ts with
   |ok b j=>rw[hb]at this;exact this
   |no p e=>rw[hb]at this;exact this
theorem lN(s:By):Means false Tryz.prog 7 [ss s] (.tup [bl (parseT s).1,ii (parseT s).2.1,ii (parseT s).2.2]):=by
 exact tJ (GT s) (by simp[go_sem]) (by simp[go_sem])
end Go.Proofs.YtdcidannegcaoaaGreatDoor

namespace Go.Proofs.YtdcidannegcaoaaGreatDoor
def okE:E→Prop
 | .num n u=>(0≤n∧n≤1099511627776)∧(0≤u∧u≤4)∧(u=0→n≤1)
 | .nam s=>nameOk s=true
 | .un a=>okE a
 | .bin o a b=>(2≤o∧o≤11)∧okE a∧okE b
 | .ite a b c=>okE a∧okE b∧okE c
theorem AK{ts:List Tk}{i j:Nat}{u:Int}(h:unitT ts i=.ok u j):1≤u∧u≤4:=by
 unfold unitT at h
 split at h
 ·simp only[Pr.ok.injEq]at h;omega
 ·split at h
  ·simp only[Pr.ok.injEq]at h;omega
  ·split at h
   ·obtain⟨_,k,_,h2⟩:=aF h
    simp only[Pr.ok.injEq]at h2;omega
   ·simp only[Pr.ok.injEq]at h;omega
theorem E4{ts:List Tk}{i:Nat}{o:Opr}(h:opAt ts i=some o):2≤o.op∧o.op≤11:=by
 have:=List.mem_of_find?_eq_some h
 simp only[opTab,List.mem_cons,List.not_mem_nil,or_false]at this
 rcases this with rfl|rfl|rfl|rfl|rfl|rfl|rfl|rfl<;>decide
theorem y7{ts:List Tk}(h:OkT ts):∀f:Nat,(∀form i e j,expF f ts form i=.ok e j→okE e)∧(∀form e own i x j,okE e→loopF f ts form e own i=.ok x j→okE x)∧
  (∀form i x j,prefixF f ts form i=.ok x j→okE x.1)∧(∀i e j,primaryF f ts i=.ok e j→okE e)
 |0=>by refine⟨?_,?_,?_,?_⟩<;>intros<;>simp[expF,loopF,prefixF,primaryF]at*
 |f+1=>by
  obtain⟨hE,hL,hP,hQ⟩:=y7 h f
  refine⟨fun form i e j he=>?_,fun form e own i x j ho he=>?_,fun form i x j he=>?_,fun i e j he=>?_⟩
  ·rw[expF]at he
   obtain⟨x,k,h1,h2⟩:=aF he
   exact hL _ _ _ _ _ _ (hP _ _ _ _ h1) h2
  ·rw[loopF]at he
   split at he
   ·simp only[Pr.ok.injEq]at he;obtain⟨rfl,_⟩:=he;exact ho
   ·rename_i o hop
    split at he
    ·simp only[Pr.ok.injEq]at he;obtain⟨rfl,_⟩:=he;exact ho
    ·obtain⟨y,k,h1,h2⟩:=aF he
     have hb:okE (.bin o.op e y):=⟨E4 hop,ho,hE _ _ _ _ h1⟩
     exact hL _ _ _ _ _ _ hb h2
  ·rw[prefixF]at he
   split at he
   ·obtain⟨a,k1,h1,he⟩:=aF he
    obtain⟨_,k2,h2,he⟩:=aF he
    obtain⟨b,k3,h3,he⟩:=aF he
    obtain⟨_,k4,h4,he⟩:=aF he
    obtain⟨c,k5,h5,he⟩:=aF he
    simp only[Pr.ok.injEq]at he
    obtain⟨rfl,_⟩:=he
    exact⟨hE _ _ _ _ h1,hE _ _ _ _ h3,hE _ _ _ _ h5⟩
   ·split at he
    ·obtain⟨a,k1,h1,he⟩:=aF he
     simp only[Pr.ok.injEq]at he
     obtain⟨rfl,_⟩:=he
     have:=hE _ _ _ _ h1
     exact this
    ·obtain⟨a,k1,h1,he⟩:=aF he
     simp only[Pr.ok.injEq]at he
     obtain⟨rfl,_⟩:=he
     have:=hQ _ _ _ h1
     exact this
  ·rw[primaryF]at he
   split at he
   ·obtain⟨u,k1,h1,he⟩:=aF he
    have:=AK h1
    have hn:=h.num' i
    simp only[Pr.ok.injEq]at he
    obtain⟨rfl,_⟩:=he
    exact⟨hn,⟨by omega,this.2⟩,fun e=>by omega⟩
   ·split at he
    ·simp only[Pr.ok.injEq]at he;obtain⟨rfl,_⟩:=he;exact⟨⟨by decide,by decide⟩,⟨by decide,by decide⟩,fun _=>by decide⟩
    ·split at he
     ·simp only[Pr.ok.injEq]at he;obtain⟨rfl,_⟩:=he;exact⟨⟨by decide,by decide⟩,⟨by decide,by decide⟩,fun _=>by decide⟩
     ·split at he
      ·obtain⟨_,k1,h1,he⟩:=aF he
       obtain⟨a,k2,h2,he⟩:=aF he
       obtain⟨_,k3,h3,he⟩:=aF he
       obtain⟨b,k4,h4,he⟩:=aF he
       obtain⟨_,k5,h5,he⟩:=aF he
       simp only[Pr.ok.injEq]at he
       obtain⟨rfl,_⟩:=he
       refine⟨?_,hE _ _ _ _ h2,hE _ _ _ _ h4⟩
       split<;>decide
      ·split at he
       ·obtain⟨a,k1,h1,he⟩:=aF he
        obtain⟨_,k2,h2,he⟩:=aF he
        simp only[Pr.ok.injEq]at he
        obtain⟨rfl,_⟩:=he
        exact hE _ _ _ _ h1
       ·split at he
        ·rename_i hs
         simp only[Pr.ok.injEq]at he;obtain⟨rfl,_⟩:=he;exact hs.2
        ·cases he
def OkE(e:E):Prop:=okE e∧e.lev≤12
theorem kU{ts:List Tk}(h:OkT ts){i j:Nat}{e:E}(hw:wholeT ts i=.ok e j):OkE e:=by
 obtain⟨x,k,h1,h2⟩:=aF hw
 split at h2
 ·split at h2
  ·rename_i hl
   simp only[Pr.ok.injEq]at h2
   obtain⟨rfl,_⟩:=h2
   exact⟨(y7 h _).1 _ _ _ _ h1,hl⟩
  ·cases h2
 ·cases h2
theorem g7{ts:List Tk}(h:OkT ts){w:By}{i j:Nat}{e:E}(hw:clauseT ts w i=.ok e j):OkE e:=by
 unfold clauseT at hw
 split at hw
 ·exact kU h hw
 ·simp only[Pr.ok.injEq]at hw
  obtain⟨rfl,_⟩:=hw
  exact⟨⟨⟨by decide,by decide⟩,⟨by decide,by decide⟩,fun _=>by decide⟩,by decide⟩
structure OkL(l:List (By×E)):Prop where
 len:l.length≤20
 nam:∀x∈l,nameOk x.1=true
 exp:∀x∈l,OkE x.2
 two:∀i j (hi:i<l.length) (hj:j<l.length),i<j→¬l[i].1=l[j].1
theorem tK{ts:List Tk}(h:OkT ts):∀(f:Nat) (acc:List (By×E)) (i:Nat) (l:List (By×E)) (j:Nat),OkL acc→letsF f ts acc i=.ok l j→OkL l
 |0,_,_,_,_,_,he=>by cases he
 |f+1,acc,i,l,j,ha,he=>by
  rw[letsF]at he
  split at he
  ·split at he
   ·rename_i hlt
    split at he
    ·rename_i hk
     split at he
     ·cases he
     ·rename_i hany
      obtain⟨_,k1,h1,he⟩:=aF he
      obtain⟨e,k2,h2,he⟩:=aF he
      refine tK h f _ _ _ _ ⟨by simp;omega,fun x hx=>?_,fun x hx=>?_,fun a b hla hlb hab=>?_⟩ he
      ·rcases List.mem_append.1 hx with hx|hx
       ·exact ha.nam x hx
       ·simp only[List.mem_singleton]at hx;subst hx;exact hk.2
      ·rcases List.mem_append.1 hx with hx|hx
       ·exact ha.exp x hx
       ·simp only[List.mem_singleton]at hx;subst hx;exact kU h h2
      ·simp only[List.length_append,List.length_cons,List.length_nil]at hla hlb
       rw[List.getElem_append_left (by omega)]
       by_cases hb:b<acc.length
       ·rw[List.getElem_append_left hb]
        exact ha.two a b _ hb hab
       ·have hb2:b=acc.length:=by omega
        subst hb2
        rw[List.getElem_append_right (Nat.le_refl _)]
        intro heq
        apply hany
        refine List.any_eq_true.2 ⟨acc[a],List.getElem_mem _,?_⟩
        simpa using heq
    ·cases he
   ·cases he
  ·simp only[Pr.ok.injEq]at he
   obtain⟨rfl,_⟩:=he
   exact ha
structure OkB(b:Bl):Prop where
 kind:0≤b.kind∧b.kind≤2
 sld:b.sld=true→b.kind=1
 order:0≤b.order∧b.order≤2
 period:1≤b.period∧b.period≤1000
 last:1≤b.last∧b.last≤1000
 grace:0≤b.grace∧b.grace≤1000
 wait:0≤b.wait∧b.wait≤1000
 voices:0≤b.voices∧b.voices≤1000
 fund:0≤b.fund∧b.fund≤1000
 backs:0≤b.backs∧b.backs≤60
 jury:0≤b.jury∧b.jury≤60
 lets:OkL b.lets
 due:OkE b.due
 fine:OkE b.fine
 pay:OkE b.pay
 cover:OkE b.cover
 hold:OkE b.hold
theorem pK{ts:List Tk}{i j:Nat}{x:Int×Bool}(h:kindT ts i=.ok x j):(0≤x.1∧x.1≤2)∧(x.2=true→x.1=1):=by
 obtain⟨_,k,_,h2⟩:=aF h
 split at h2
 ·obtain⟨_,_,_,h3⟩:=aF h2
  simp only[Pr.ok.injEq]at h3;obtain⟨rfl,_⟩:=h3;simp
 ·split at h2
  ·obtain⟨_,_,_,h3⟩:=aF h2
   simp only[Pr.ok.injEq]at h3;obtain⟨rfl,_⟩:=h3;simp
  ·obtain⟨_,_,_,h3⟩:=aF h2
   obtain⟨_,_,_,h4⟩:=aF h3
   simp only[Pr.ok.injEq]at h4;obtain⟨rfl,_⟩:=h4;simp
theorem vR{ts:List Tk}{i j:Nat}{n:Int}(h:orderT ts i=.ok n j):0≤n∧n≤2:=by
 unfold orderT at h
 split at h
 ·split at h
  ·rename_i m hm
   obtain⟨_,_,_,h3⟩:=aF h
   simp only[Pr.ok.injEq]at h3;obtain⟨rfl,_⟩:=h3
   obtain⟨hm1,_⟩:=List.findIdx?_eq_some_iff_getElem.1 hm
   simp only[ordersL,List.length_cons,List.length_nil]at hm1
   omega
  ·cases h
 ·simp only[Pr.ok.injEq]at h;omega
theorem rC{α:Type}{ts:List Tk}{b:Bool}{e:Int}{i j:Nat}{r:Pr α}{x:α}(h:chk ts b e i r=.ok x j):b=true∧r=.ok x j:=by
 unfold chk at h
 split at h
 ·rename_i hb;exact⟨hb,h⟩
 ·cases h
theorem dE{ts:List Tk}{word:By}{a b:Int}{l:List By}{i j:Nat}{n:Int}(hw:partT ts word a b l i=.ok n j):(n=0∧isT ts word i=false)∨(a≤n∧n≤b):=by
 unfold partT at hw
 split at hw
 ·obtain⟨m,k,h1,h2⟩:=aF hw
  obtain⟨_,q,h3,h4⟩:=aF h2
  simp only[Pr.ok.injEq]at h4
  obtain⟨rfl,_⟩:=h4
  unfold numberT at h1
  split at h1
  ·split at h1
   ·rename_i hn
    simp only[Pr.ok.injEq]at h1
    obtain⟨rfl,_⟩:=h1
    exact .inr hn
   ·cases h1
  ·cases h1
 ·rename_i hs
  simp only[Pr.ok.injEq]at hw
  exact .inl ⟨hw.1.symm,by simpa using hs⟩
theorem vS{ts:List Tk}(h:OkT ts){b:Bl}{j:Nat}(hb:bylawsT ts=.ok b j):OkB b:=by
 unfold bylawsT at hb
 obtain⟨k,i0,h0,hb⟩:=aF hb
 obtain⟨s1,hb⟩:=rC hb
 obtain⟨period,i1,h1,hb⟩:=aF hb
 obtain⟨s2,hb⟩:=rC hb
 obtain⟨last,i2,h2,hb⟩:=aF hb
 obtain⟨grace,i3,h3,hb⟩:=aF hb
 obtain⟨wait,i4,h4,hb⟩:=aF hb
 obtain⟨order,i5,h5,hb⟩:=aF hb
 obtain⟨backs,i6,h6,hb⟩:=aF hb
 obtain⟨voices,i7,h7,hb⟩:=aF hb
 obtain⟨jury,i8,h8,hb⟩:=aF hb
 obtain⟨fund,i9,h9,hb⟩:=aF hb
 obtain⟨lets,i10,h10,hb⟩:=aF hb
 obtain⟨_,i11,h11,hb⟩:=aF hb
 obtain⟨due,i12,h12,hb⟩:=aF hb
 obtain⟨fine,i13,h13,hb⟩:=aF hb
 obtain⟨pay,i14,h14,hb⟩:=aF hb
 obtain⟨cover,i15,h15,hb⟩:=aF hb
 obtain⟨hold,i16,h16,hb⟩:=aF hb
 obtain⟨_,hb⟩:=rC hb
 simp only[Pr.ok.injEq]at hb
 obtain⟨rfl,_⟩:=hb
 have z:∀{n a b:Int} {p:Prop},(n=0∧p)∨(a≤n∧n≤b)→a≤0→0≤b→a≤n∧n≤b:=fun h h1 h2=>by
  rcases h with h|h
  ·rw[h.1];exact⟨h1,h2⟩
  ·exact h
 refine⟨(pK h0).1,(pK h0).2,vR h5,?_,?_,z (dE h3) (by decide) (by decide),z (dE h4) (by decide) (by decide),z (dE h7) (by decide) (by decide),z (dE h9) (by decide) (by decide),z (dE h6) (by decide) (by decide),z (dE h8) (by decide) (by decide),
  tK h _ _ _ _ _ ⟨by simp,by simp,by simp,by simp⟩ h10,kU h h12,g7 h h13,g7 h h14,g7 h h15,g7 h h16⟩
 ·rcases dE h1 with h|h
  ·rw[s1]at h;cases h.2
  ·exact h
 ·rcases dE h2 with h|h
  ·rw[s2]at h;cases h.2
  ·exact h
def Pr.ne{α:Type}(r:Pr α):Prop:=∀p e,r=.no p e→e≠0
theorem bind_ne{α β:Type}{r:Pr α}{f:α→Nat→Pr β}(h:r.ne)(hf:∀x i,(f x i).ne):(r.bind f).ne:=by
 cases r with
 |ok x i=>exact hf x i
 |no p e=>intro q c hc;simp only[Pr.bind_no,Pr.no.injEq]at hc;obtain⟨rfl,rfl⟩:=hc;exact h _ _ rfl
theorem cC{α:Type}(x:α)(i:Nat):(Pr.ok x i).ne:=fun _ _ h=>by cases h
theorem eF{α:Type}{p e:Int}(h:e≠0):(Pr.no p e:Pr α).ne:=fun _ _ hc=>by cases hc;exact h
theorem bJ{α:Type}{c:Prop}[Decidable c]{x y:Pr α}(hx:x.ne)(hy:y.ne):(if c then x else y).ne:=by split<;>assumption
theorem bM{ts:List Tk}:∀(l:List By) (i:Nat),(wantT ts l i).ne
 | [],i=>cC _ _
 |s::l,i=>bJ (bM l _) (eF (by decide))
theorem vT{ts:List Tk}(a b:Int)(i:Nat):(numberT ts a b i).ne:=bJ (bJ (cC _ _) (eF (by decide))) (eF (by decide))
theorem eD{ts:List Tk}(w:By)(a b:Int)(l:List By)(i:Nat):(partT ts w a b l i).ne:=bJ (bind_ne (vT _ _ _) fun _ _=>bind_ne (bM _ _) fun _ _=>cC _ _) (cC _ _)
theorem E5{ts:List Tk}(i:Nat):(unitT ts i).ne:=bJ (cC _ _) (bJ (cC _ _) (bJ (bind_ne (bM _ _) fun _ _=>cC _ _) (cC _ _)))
theorem E6{ts:List Tk}:∀f:Nat,(∀form i,(expF f ts form i).ne)∧(∀form e own i,(loopF f ts form e own i).ne)∧(∀form i,(prefixF f ts form i).ne)∧(∀i,(primaryF f ts i).ne)
 |0=>⟨fun _ _=>by rw[expF];exact eF (by decide),fun _ _ _ _=>by rw[loopF];exact eF (by decide),fun _ _=>by rw[prefixF];exact eF (by decide),fun _=>by rw[primaryF];exact eF (by decide)⟩
 |f+1=>by
  obtain⟨hE,hL,hP,hQ⟩:=E6 (ts:=ts) f
  refine⟨fun form i=>?_,fun form e own i=>?_,fun form i=>?_,fun i=>?_⟩
  ·rw[expF];exact bind_ne (hP _ _) fun _ _=>hL _ _ _ _
  ·rw[loopF]
   split
   ·exact cC _ _
   ·exact bJ (cC _ _) (bind_ne (hE _ _) fun _ _=>hL _ _ _ _)
  ·rw[prefixF]
   exact bJ (bind_ne (hE _ _) fun _ _=>bind_ne (bM _ _) fun _ _=>bind_ne (hE _ _) fun _ _=>bind_ne (bM _ _) fun _ _=>bind_ne (hE _ _) fun _ _=>cC _ _)
    (bJ (bind_ne (hE _ _) fun _ _=>cC _ _) (bind_ne (hQ _) fun _ _=>cC _ _))
  ·rw[primaryF]
   exact bJ (bind_ne (E5 _) fun _ _=>cC _ _) (bJ (cC _ _) (bJ (cC _ _) (bJ
    (bind_ne (bM _ _) fun _ _=>bind_ne (hE _ _) fun _ _=>bind_ne (bM _ _) fun _ _=>bind_ne (hE _ _) fun _ _=>bind_ne (bM _ _) fun _ _=>cC _ _)
    (bJ (bind_ne (hE _ _) fun _ _=>bind_ne (bM _ _) fun _ _=>cC _ _) (bJ (cC _ _) (eF (by decide)))))))
theorem kV{ts:List Tk}(i:Nat):(wholeT ts i).ne:=bind_ne ((E6 _).1 _ _) fun _ _=>bJ (bJ (cC _ _) (eF (by decide))) (eF (by decide))
theorem g8{ts:List Tk}(w:By)(i:Nat):(clauseT ts w i).ne:=bJ (kV _) (cC _ _)
theorem E7{ts:List Tk}(i:Nat):(kindT ts i).ne:=bind_ne (bM _ _) fun _ _=>bJ (bind_ne (bM _ _) fun _ _=>cC _ _) (bJ (bind_ne (bM _ _) fun _ _=>cC _ _) (bind_ne (bM _ _) fun _ _=>bind_ne (bM _ _) fun _ _=>cC _ _))
theorem AM{ts:List Tk}(i:Nat):(orderT ts i).ne:=by
 unfold orderT
 refine bJ ?_ (cC _ _)
 split
 ·exact bind_ne (bM _ _) fun _ _=>cC _ _
 ·exact eF (by decide)
theorem tL{ts:List Tk}:∀(f:Nat) (acc:List (By×E)) (i:Nat),(letsF f ts acc i).ne
 |0,_,_=>eF (by decide)
 |f+1,acc,i=>bJ (bJ (bJ (bJ (eF (by decide)) (bind_ne (bM _ _) fun _ _=>bind_ne (kV _) fun _ _=>tL f _ _)) (eF (by decide))) (eF (by decide))) (cC _ _)
theorem vU{α:Type}{ts:List Tk}{b:Bool}{e:Int}{i:Nat}{r:Pr α}(he:e≠0)(h:r.ne):(chk ts b e i r).ne:=bJ h (eF he)
theorem vV{ts:List Tk}:(bylawsT ts).ne:=
 bind_ne (E7 _) fun _ _=>vU (by decide)<|bind_ne (eD _ _ _ _ _) fun _ _=>vU (by decide)<|bind_ne (eD _ _ _ _ _) fun _ _=>bind_ne (eD _ _ _ _ _) fun _ _=>bind_ne (eD _ _ _ _ _) fun _ _=>
 bind_ne (AM _) fun _ _=>bind_ne (eD _ _ _ _ _) fun _ _=>bind_ne (eD _ _ _ _ _) fun _ _=>bind_ne (eD _ _ _ _ _) fun _ _=>bind_ne (eD _ _ _ _ _) fun _ _=>bind_ne (tL _ _ _) fun _ _=>
 bind_ne (bM _ _) fun _ _=>bind_ne (kV _) fun _ _=>bind_ne (g8 _ _) fun _ _=>bind_ne (g8 _ _) fun _ _=>bind_ne (g8 _ _) fun _ _=>bind_ne (g8 _ _) fun _ _=>vU (by decide) (cC _ _)
theorem gY{s:By}(h:(parseT s).2.2=0):OkB (parseT s).1:=by
 unfold parseT at h⊢
 split
 ·rename_i hl;rw[if_pos hl]at h;cases h
 ·rename_i hl
  rw[if_neg hl]at h
  cases hx:lexA s 0 with
  |err i e=>
   rw[hx]at h
   simp only[]at h
   obtain⟨_,_,h3,_⟩:=o8 s hx
   omega
  |ok ts=>
   rw[hx]at h
   simp only[]at h⊢
   obtain⟨hn,h0⟩:=xK (by omega) hx
   cases hb:bylawsT ts with
   |ok b j=>exact vS hn hb
   |no p e=>
    rw[hb]at h
    simp only[]at h
    exact(vV p e hb h).elim
end Go.Proofs.YtdcidannegcaoaaGreatDoor

namespace Go.Proofs.YtdcidannegcaoaaGreatDoor
open Go.RowKit Go.Ab
attribute [local irreducible] AWP Go.Ab.Sub Means MeansH CallK CallG CallT CallGT PanicH DefH
abbrev il(L:List Int):AV:=.sl (L.map ii)
@[go_sem] theorem cK{L:List Int}{k:Nat}(h:k<L.length):nth (L.map ii) k=ii L[k]:=bF ii h
set_option maxHeartbeats 4000000 in
theorem GU(f:FuncId)(E0 k0:Nat)(c0:AV)(E1 k1:Nat)(c1:AV)(p:Int→Bool)(L:List Int)(hl:L.length≤100000)(hz0:c0.flat.all AV.zone=true)(hz1:c1.flat.all AV.zone=true)(hf:∀x∈L,MeansH Tryz.prog f [.row ⟨E0,k0,[c0]⟩,.row ⟨E1,k1,[c1]⟩] [ii x,.el 0 k0 0 0,.el 1 k1 0 0] (bb (p x)) [.row ⟨E0,k0,[c0]⟩,.row ⟨E1,k1,[c1]⟩])(hcall:callable Tryz.prog f=true):
  MeansH Tryz.prog 113 [.row ⟨E0,k0,[c0]⟩,.row ⟨E1,k1,[c1]⟩] [.sl (L.map ii),.fn f [] [.el 0 k0 0 0,.el 1 k1 0 0]] (ii (match L.findIdx? p with|some n=>(n:Int)|none=> -1)) [.row ⟨E0,k0,[c0]⟩,.row ⟨E1,k1,[c1]⟩]:=by
 have hy0:∀x∈c0.flat,x.zone=true:=by simpa using hz0
 have hy1:∀x∈c1.flat,x.zone=true:=by simpa using hz1
 refine yN 2 19 [.tmp 4] [0,1,4,5,7,8,9,16,1000000,1000001] Tryz.func113 fun X hX=>?_
 (repeat(refine yB ?_;(simp[go_sem])))
 refine aE (fun n:Nat=>⟨mkE [(0,.sl (L.map ii)),(1,.fn f [] [.el 0 k0 0 0,.el 1 k1 0 0]),(7,ii L.length),(8,ii n),(1000000,.ow 0),(1000001,.ow 1)],[.row ⟨E0,k0,[c0]⟩,.row ⟨E1,k1,[c1]⟩]⟩) (fun n=>n≤L.length∧∀k (h:k<L.length),k<n→p L[k]=false) (fun n=>L.length-n) 0 ?_ ?_ ?_
 ·refine yS _ [.old 0 ⟨E0,k0,[c0]⟩,.old 1 ⟨E1,k1,[c1]⟩] ?_ (by simp[go_sem,hz0,hz1,hy0,hy1])
  simp[go_sem,hz0,hz1,hy0,hy1]
 ·exact⟨Nat.zero_le _,fun k h hk=>absurd hk (by omega)⟩
 ·rintro n ⟨h1,h2⟩
  (repeat(refine yB ?_;(simp[go_sem])))
  refine yC (decide (n<L.length)) (fun hc=>?_) fun hc=>?_
  ·simp at hc
   have hq:=cK hc
   have wk:=w64 (x:=(n:Int)+1) (by omega) (by omega)
   (repeat(refine yB ?_;(simp[go_sem,hc,hq,hcall])))
   refine aZ [0,1] (hf L[n] (List.getElem_mem hc)) (by simp[go_sem,hz0,hz1,hy0,hy1]) ?_
   simp[go_sem,hz0]
   refine yC (p L[n]) (fun hs=>?_) fun hs=>?_
   ·have e1:L.findIdx? p=some n:=by
     rw[List.findIdx?_eq_some_iff_getElem]
     exact⟨hc,hs,fun k hk=>by rw[h2 k (by omega) hk];simp⟩
    rw[e1]
    (repeat(refine yB ?_;(simp[go_sem])))
    refine aB ?_;simp only[thenQ,blkQ,loopQ];refine a8 [(4,ii n),(1000000,.ow 0),(1000001,.ow 1)] [.old 0 ⟨E0,k0,[c0]⟩,.old 1 ⟨E1,k1,[c1]⟩] ?_
    simp[go_sem,hz0,hz1,hy0,hy1]
   ·(repeat(refine yB ?_;(simp[go_sem,wk])))
    refine⟨n+1,⟨by omega,fun k h hk=>?_⟩,by omega,?_⟩
    ·by_cases e:k=n
     ·subst e;exact hs
     ·exact h2 k h (by omega)
    ·refine yS _ [.old 0 ⟨E0,k0,[c0]⟩,.old 1 ⟨E1,k1,[c1]⟩] ?_ (by simp[go_sem,hz0,hz1,hy0,hy1])
     simp[go_sem,hz0,hz1,hy0,hy1]
  ·simp at hc
   have e1:L.findIdx? p=none:=by
    rw[List.findIdx?_eq_none_iff]
    intro x hx
    obtain⟨k,hk,rfl⟩:=List.getElem_of_mem hx
    exact h2 k hk (by omega)
   rw[e1]
   (repeat(refine yB ?_;(simp[go_sem])))
   refine aB ?_;refine a8 [(4,ii (-1)),(1000000,.ow 0),(1000001,.ow 1)] [.old 0 ⟨E0,k0,[c0]⟩,.old 1 ⟨E1,k1,[c1]⟩] ?_
   simp[go_sem,hz0,hz1,hy0,hy1]
theorem GW(f:FuncId)(E0 k0:Nat)(c0:AV)(E1 k1:Nat)(c1:AV)(p:Int→Bool)(L:List Int)(hl:L.length≤100000)(hz0:c0.flat.all AV.zone=true)(hz1:c1.flat.all AV.zone=true)(hf:∀x∈L,MeansH Tryz.prog f [.row ⟨E0,k0,[c0]⟩,.row ⟨E1,k1,[c1]⟩] [ii x,.el 0 k0 0 0,.el 1 k1 0 0] (bb (p x)) [.row ⟨E0,k0,[c0]⟩,.row ⟨E1,k1,[c1]⟩])(hcall:callable Tryz.prog f=true):
  MeansH Tryz.prog 67 [.row ⟨E0,k0,[c0]⟩,.row ⟨E1,k1,[c1]⟩] [.sl (L.map ii),.fn f [] [.el 0 k0 0 0,.el 1 k1 0 0]] (bb (L.any p)) [.row ⟨E0,k0,[c0]⟩,.row ⟨E1,k1,[c1]⟩]:=by
 have hy0:∀x∈c0.flat,x.zone=true:=by simpa using hz0
 have hy1:∀x∈c1.flat,x.zone=true:=by simpa using hz1
 have hI:=GU f E0 k0 c0 E1 k1 c1 p L hl hz0 hz1 hf hcall
 refine yN 2 9 [.tmp 4] [0,1,4,1000000,1000001] Tryz.func67 fun X hX=>?_
 (repeat(refine yB ?_;(simp[go_sem])))
 refine aZ [0,1] hI (by simp[go_sem,hz0,hz1,hy0,hy1]) ?_
 simp[go_sem,hz0]
 have e:decide (0≤(match L.findIdx? p with|some n=>(n:Int)|none=> -1))=L.any p:=by
  cases hf:L.findIdx? p with
  |none=>
   have:L.any p=false:=by
    rw[List.any_eq_false]
    intro x hx
    rw[List.findIdx?_eq_none_iff.1 hf x hx];simp
   rw[this];rfl
  |some n=>
   obtain⟨h1,h2,_⟩:=List.findIdx?_eq_some_iff_getElem.1 hf
   have:L.any p=true:=List.any_eq_true.2 ⟨L[n],List.getElem_mem h1,h2⟩
   rw[this]
   simp
 rw[←e]
 refine aB ?_;refine a8 [(4,bb (decide (0≤(match L.findIdx? p with|some n=>(n:Int)|none=> -1)))),(1000000,.ow 0),(1000001,.ow 1)] [.old 0 ⟨E0,k0,[c0]⟩,.old 1 ⟨E1,k1,[c1]⟩] ?_
 simp[go_sem,hz0,hz1,hy0,hy1]
set_option maxHeartbeats 4000000 in
theorem GX(f:FuncId)(E0 k0:Nat)(c0:AV)(p:E→Bool)(L:List E)(hl:L.length≤100000)(hz0:c0.flat.all AV.zone=true)(hf:∀x∈L,MeansH Tryz.prog f [.row ⟨E0,k0,[c0]⟩] [ex x,.el 0 k0 0 0] (bb (p x)) [.row ⟨E0,k0,[c0]⟩])(hcall:callable Tryz.prog f=true):
  MeansH Tryz.prog 171 [.row ⟨E0,k0,[c0]⟩] [.sl (L.map ex),.fn f [] [.el 0 k0 0 0]] (ii (match L.findIdx? p with|some n=>(n:Int)|none=> -1)) [.row ⟨E0,k0,[c0]⟩]:=by
 have hy0:∀x∈c0.flat,x.zone=true:=by simpa using hz0
 refine yN 1 19 [.tmp 4] [0,1,4,5,7,8,9,16,1000000] Tryz.func171 fun X hX=>?_
 (repeat(refine yB ?_;(simp[go_sem])))
 refine aE (fun n:Nat=>⟨mkE [(0,.sl (L.map ex)),(1,.fn f [] [.el 0 k0 0 0]),(7,ii L.length),(8,ii n),(1000000,.ow 0)],[.row ⟨E0,k0,[c0]⟩]⟩) (fun n=>n≤L.length∧∀k (h:k<L.length),k<n→p L[k]=false) (fun n=>L.length-n) 0 ?_ ?_ ?_
 ·refine yS _ [.old 0 ⟨E0,k0,[c0]⟩] ?_ (by simp[go_sem,hz0,hy0])
  simp[go_sem,hz0,hy0]
 ·exact⟨Nat.zero_le _,fun k h hk=>absurd hk (by omega)⟩
 ·rintro n ⟨h1,h2⟩
  (repeat(refine yB ?_;(simp[go_sem])))
  refine yC (decide (n<L.length)) (fun hc=>?_) fun hc=>?_
  ·simp at hc
   have hq:=lV hc
   have wk:=w64 (x:=(n:Int)+1) (by omega) (by omega)
   (repeat(refine yB ?_;(simp[go_sem,hc,hq,hcall])))
   refine aZ [0] (hf L[n] (List.getElem_mem hc)) (by simp[go_sem,hz0,hy0]) ?_
   simp[go_sem,hz0]
   refine yC (p L[n]) (fun hs=>?_) fun hs=>?_
   ·have e1:L.findIdx? p=some n:=by
     rw[List.findIdx?_eq_some_iff_getElem]
     exact⟨hc,hs,fun k hk=>by rw[h2 k (by omega) hk];simp⟩
    rw[e1]
    (repeat(refine yB ?_;(simp[go_sem])))
    refine aB ?_;simp only[thenQ,blkQ,loopQ];refine a8 [(4,ii n),(1000000,.ow 0)] [.old 0 ⟨E0,k0,[c0]⟩] ?_
    simp[go_sem,hz0,hy0]
   ·(repeat(refine yB ?_;(simp[go_sem,wk])))
    refine⟨n+1,⟨by omega,fun k h hk=>?_⟩,by omega,?_⟩
    ·by_cases e:k=n
     ·subst e;exact hs
     ·exact h2 k h (by omega)
    ·refine yS _ [.old 0 ⟨E0,k0,[c0]⟩] ?_ (by simp[go_sem,hz0,hy0])
     simp[go_sem,hz0,hy0]
  ·simp at hc
   have e1:L.findIdx? p=none:=by
    rw[List.findIdx?_eq_none_iff]
    intro x hx
    obtain⟨k,hk,rfl⟩:=List.getElem_of_mem hx
    exact h2 k hk (by omega)
   rw[e1]
   (repeat(refine yB ?_;(simp[go_sem])))
   refine aB ?_;refine a8 [(4,ii (-1)),(1000000,.ow 0)] [.old 0 ⟨E0,k0,[c0]⟩] ?_
   simp[go_sem,hz0,hy0]
theorem GY(f:FuncId)(E0 k0:Nat)(c0:AV)(p:E→Bool)(L:List E)(hl:L.length≤100000)(hz0:c0.flat.all AV.zone=true)(hf:∀x∈L,MeansH Tryz.prog f [.row ⟨E0,k0,[c0]⟩] [ex x,.el 0 k0 0 0] (bb (p x)) [.row ⟨E0,k0,[c0]⟩])(hcall:callable Tryz.prog f=true):
  MeansH Tryz.prog 145 [.row ⟨E0,k0,[c0]⟩] [.sl (L.map ex),.fn f [] [.el 0 k0 0 0]] (bb (L.any p)) [.row ⟨E0,k0,[c0]⟩]:=by
 have hy0:∀x∈c0.flat,x.zone=true:=by simpa using hz0
 have hI:=GX f E0 k0 c0 p L hl hz0 hf hcall
 refine yN 1 9 [.tmp 4] [0,1,4,1000000] Tryz.func145 fun X hX=>?_
 (repeat(refine yB ?_;(simp[go_sem])))
 refine aZ [0] hI (by simp[go_sem,hz0,hy0]) ?_
 simp[go_sem,hz0]
 have e:decide (0≤(match L.findIdx? p with|some n=>(n:Int)|none=> -1))=L.any p:=by
  cases hf:L.findIdx? p with
  |none=>
   have:L.any p=false:=by
    rw[List.any_eq_false]
    intro x hx
    rw[List.findIdx?_eq_none_iff.1 hf x hx];simp
   rw[this];rfl
  |some n=>
   obtain⟨h1,h2,_⟩:=List.findIdx?_eq_some_iff_getElem.1 hf
   have:L.any p=true:=List.any_eq_true.2 ⟨L[n],List.getElem_mem h1,h2⟩
   rw[this]
   simp
 rw[←e]
 refine aB ?_;refine a8 [(4,bb (decide (0≤(match L.findIdx? p with|some n=>(n:Int)|none=> -1)))),(1000000,.ow 0)] [.old 0 ⟨E0,k0,[c0]⟩] ?_
 simp[go_sem,hz0,hy0]
set_option maxHeartbeats 4000000 in
theorem GZ(f:FuncId)(E0 k0:Nat)(c0:AV)(p:(By×E)→Bool)(L:List (By×E))(hl:L.length≤100000)(hz0:c0.flat.all AV.zone=true)(hf:∀x∈L,MeansH Tryz.prog f [.row ⟨E0,k0,[c0]⟩] [lt x,.el 0 k0 0 0] (bb (p x)) [.row ⟨E0,k0,[c0]⟩])(hcall:callable Tryz.prog f=true):
  MeansH Tryz.prog 107 [.row ⟨E0,k0,[c0]⟩] [.sl (L.map lt),.fn f [] [.el 0 k0 0 0]] (ii (match L.findIdx? p with|some n=>(n:Int)|none=> -1)) [.row ⟨E0,k0,[c0]⟩]:=by
 have hy0:∀x∈c0.flat,x.zone=true:=by simpa using hz0
 refine yN 1 19 [.tmp 4] [0,1,4,5,7,8,9,16,1000000] Tryz.func107 fun X hX=>?_
 (repeat(refine yB ?_;(simp[go_sem])))
 refine aE (fun n:Nat=>⟨mkE [(0,.sl (L.map lt)),(1,.fn f [] [.el 0 k0 0 0]),(7,ii L.length),(8,ii n),(1000000,.ow 0)],[.row ⟨E0,k0,[c0]⟩]⟩) (fun n=>n≤L.length∧∀k (h:k<L.length),k<n→p L[k]=false) (fun n=>L.length-n) 0 ?_ ?_ ?_
 ·refine yS _ [.old 0 ⟨E0,k0,[c0]⟩] ?_ (by simp[go_sem,hz0,hy0])
  simp[go_sem,hz0,hy0]
 ·exact⟨Nat.zero_le _,fun k h hk=>absurd hk (by omega)⟩
 ·rintro n ⟨h1,h2⟩
  (repeat(refine yB ?_;(simp[go_sem])))
  refine yC (decide (n<L.length)) (fun hc=>?_) fun hc=>?_
  ·simp at hc
   have hq:=dF hc
   have wk:=w64 (x:=(n:Int)+1) (by omega) (by omega)
   (repeat(refine yB ?_;(simp[go_sem,hc,hq,hcall])))
   refine aZ [0] (hf L[n] (List.getElem_mem hc)) (by simp[go_sem,hz0,hy0]) ?_
   simp[go_sem,hz0]
   refine yC (p L[n]) (fun hs=>?_) fun hs=>?_
   ·have e1:L.findIdx? p=some n:=by
     rw[List.findIdx?_eq_some_iff_getElem]
     exact⟨hc,hs,fun k hk=>by rw[h2 k (by omega) hk];simp⟩
    rw[e1]
    (repeat(refine yB ?_;(simp[go_sem])))
    refine aB ?_;simp only[thenQ,blkQ,loopQ];refine a8 [(4,ii n),(1000000,.ow 0)] [.old 0 ⟨E0,k0,[c0]⟩] ?_
    simp[go_sem,hz0,hy0]
   ·(repeat(refine yB ?_;(simp[go_sem,wk])))
    refine⟨n+1,⟨by omega,fun k h hk=>?_⟩,by omega,?_⟩
    ·by_cases e:k=n
     ·subst e;exact hs
     ·exact h2 k h (by omega)
    ·refine yS _ [.old 0 ⟨E0,k0,[c0]⟩] ?_ (by simp[go_sem,hz0,hy0])
     simp[go_sem,hz0,hy0]
  ·simp at hc
   have e1:L.findIdx? p=none:=by
    rw[List.findIdx?_eq_none_iff]
    intro x hx
    obtain⟨k,hk,rfl⟩:=List.getElem_of_mem hx
    exact h2 k hk (by omega)
   rw[e1]
   (repeat(refine yB ?_;(simp[go_sem])))
   refine aB ?_;refine a8 [(4,ii (-1)),(1000000,.ow 0)] [.old 0 ⟨E0,k0,[c0]⟩] ?_
   simp[go_sem,hz0,hy0]
theorem H3(f:FuncId)(E0 k0:Nat)(c0:AV)(p:(By×E)→Bool)(L:List (By×E))(hl:L.length≤100000)(hz0:c0.flat.all AV.zone=true)(hf:∀x∈L,MeansH Tryz.prog f [.row ⟨E0,k0,[c0]⟩] [lt x,.el 0 k0 0 0] (bb (p x)) [.row ⟨E0,k0,[c0]⟩])(hcall:callable Tryz.prog f=true):
  MeansH Tryz.prog 59 [.row ⟨E0,k0,[c0]⟩] [.sl (L.map lt),.fn f [] [.el 0 k0 0 0]] (bb (L.any p)) [.row ⟨E0,k0,[c0]⟩]:=by
 have hy0:∀x∈c0.flat,x.zone=true:=by simpa using hz0
 have hI:=GZ f E0 k0 c0 p L hl hz0 hf hcall
 refine yN 1 9 [.tmp 4] [0,1,4,1000000] Tryz.func59 fun X hX=>?_
 (repeat(refine yB ?_;(simp[go_sem])))
 refine aZ [0] hI (by simp[go_sem,hz0,hy0]) ?_
 simp[go_sem,hz0]
 have e:decide (0≤(match L.findIdx? p with|some n=>(n:Int)|none=> -1))=L.any p:=by
  cases hf:L.findIdx? p with
  |none=>
   have:L.any p=false:=by
    rw[List.any_eq_false]
    intro x hx
    rw[List.findIdx?_eq_none_iff.1 hf x hx];simp
   rw[this];rfl
  |some n=>
   obtain⟨h1,h2,_⟩:=List.findIdx?_eq_some_iff_getElem.1 hf
   have:L.any p=true:=List.any_eq_true.2 ⟨L[n],List.getElem_mem h1,h2⟩
   rw[this]
   simp
 rw[←e]
 refine aB ?_;refine a8 [(4,bb (decide (0≤(match L.findIdx? p with|some n=>(n:Int)|none=> -1)))),(1000000,.ow 0)] [.old 0 ⟨E0,k0,[c0]⟩] ?_
 simp[go_sem,hz0,hy0]
end Go.Proofs.YtdcidannegcaoaaGreatDoor

namespace Go.Proofs.YtdcidannegcaoaaGreatDoor
open Go.RowKit Go.Ab
attribute [local irreducible] AWP Go.Ab.Sub Means MeansH CallK CallG CallT CallGT PanicH DefH
def opnd(o:Int):Int:=if o=0∨o=1 then 0 else if o=12 then 1 else if o=13 then 3 else if o<0∨14≤o then-1 else 2
theorem vW(o:Int):Means true Tryz.prog 144 [ii o] (ii (opnd o)):=by
 refine yM true 17 [.tmp 2] [0,2,3,4,7,9,16] Tryz.func144 fun X hX=>?_
 (repeat(refine yA ?_;(simp[go_sem])))
 by_cases h0:o=0
 ·subst h0
  refine yT ?_
  (repeat(refine yA ?_;(simp[go_sem])))
  refine yT ?_
  (repeat(refine yA ?_;(simp[go_sem])))
  simp[opnd]
 refine yF ?_ (by simp[go_sem,h0])
 (repeat(refine yA ?_;(simp[go_sem])))
 by_cases h1:o=1
 ·subst h1
  refine yT ?_
  (repeat(refine yA ?_;(simp[go_sem])))
  simp[opnd]
 refine yF ?_ (by simp[go_sem,h1])
 (repeat(refine yA ?_;(simp[go_sem])))
 by_cases h2:o=12
 ·subst h2
  refine yT ?_
  (repeat(refine yA ?_;(simp[go_sem])))
  simp[opnd]
 refine yF ?_ (by simp[go_sem,h2])
 (repeat(refine yA ?_;(simp[go_sem])))
 by_cases h3:o=13
 ·subst h3
  refine yT ?_
  (repeat(refine yA ?_;(simp[go_sem])))
  simp[opnd]
 refine yF ?_ (by simp[go_sem,h3])
 (repeat(refine yA ?_;(simp[go_sem])))
 refine yC (decide (o<0)||decide (14≤o)) (fun hb=>?_) fun hb=>?_
 ·simp at hb
  (repeat(refine yA ?_;(simp[go_sem])))
  simp[opnd,h0,h1,h2,h3,hb]
 ·have hb':¬(o<0∨14≤o):=by simpa using hb
  (repeat(refine yA ?_;(simp[go_sem])))
  simp[opnd,h0,h1,h2,h3,hb']
theorem B5{e:E}(h:okE e):opnd e.op=e.kids.length:=by
 cases e with
 |num n u=>rfl
 |nam s=>rfl
 |un a=>rfl
 |bin o a b=>
  have h:=h.1
  show opnd o=2
  unfold opnd
  rw[if_neg (by omega),if_neg (by omega),if_neg (by omega),if_neg (by omega)]
 |ite a b c=>rfl
theorem uB{e x:E}(h:okE e)(hx:x∈e.kids):okE x:=by
 cases e<;>simp only[E.kids,List.mem_cons,List.not_mem_nil,or_false]at hx
 ·subst hx;exact h
 ·rcases hx with rfl|rfl
  ·exact h.2.1
  ·exact h.2.2
 ·rcases hx with rfl|rfl|rfl
  ·exact h.1
  ·exact h.2.1
  ·exact h.2.2
theorem nH{s:By}(h:nameOk s=true):s.length≤20:=by
 unfold nameOk at h
 simp only[Bool.and_eq_true]at h
 have h:=h.1
 unfold isWord at h
 split at h
 ·simp
 ·simp only[Bool.and_eq_true,decide_eq_true_eq]at h
  exact h.1.2
set_option maxHeartbeats 8000000 in
set_option maxRecDepth 20000 in
theorem H4(d:Nat)(hd:d≤100)(ih:∀x,okE x→x.lev≤d→Means true Tryz.prog 112 [ex x,ii d] (bb true))(e:E)(he:okE e)(hl:e.lev≤d+1):
  Means true Tryz.prog 112 [ex e,ii (d+1:Nat)] (bb true):=by
 have hop:=B5 he
 have c1:=vW e.op
 rw[hop]at c1
 have wd:=w64 (x:=((d+1:Nat):Int)-1) (by omega) (by omega)
 have e0:((d+1:Nat):Int)-1=d:=by omega
 have hc:∀x∈e.kids,MeansH Tryz.prog 146 [.row ⟨3,1,[ii (d+1:Nat)]⟩] [ex x,.el 0 1 0 0] (bb ((fun _:E=>false) x)) [.row ⟨3,1,[ii (d+1:Nat)]⟩]:=fun x hx=>by
  have c2:=ih x (uB he hx) (by have:=iX hx;omega)
  have w2:=w64 (x:=(d:Int)) (by omega) (by omega)
  refine yN 1 9 [.tmp 3] [0,1,2,3,1000000] Tryz.func146 fun X hX=>?_
  (repeat(refine yB ?_;(simp[go_sem,wd,e0,w2])))
  refine aC c2 ?_
  simp[go_sem]
  refine aB ?_;refine a8 [(3,bb false),(1000000,.ow 0)] [.old 0 ⟨3,1,[ii (d+1:Nat)]⟩] ?_
  simp[go_sem]
 have c3:=GY 146 3 1 (ii (d+1:Nat)) (fun _=>false) e.kids (by cases e<;>simp[E.kids]) rfl hc (by simp[go_sem])
 have hany:(e.kids.any fun _=>false)=false:=by simp
 rw[hany,←gU]at c3
 have hdn:¬((d:Int)+1=0):=by omega
 cases e with
 |num n u=>
  obtain⟨h1,h2,h3⟩:=he
  have c1:Means true Tryz.prog 144 [ii 0] (ii 0):=c1
  refine yM true 74 [.tmp 4] [0,1,2,3,4,5,16,17,23,48,57] Tryz.func112 fun X hX=>?_
  (repeat(refine yA ?_;(simp[go_sem,hdn])))
  refine eI (fun hg=>c1) ?_
  (simp[go_sem,hdn];try(refine⟨by kernel_rfl,?_⟩))
  refine yF ?_ (by simp[go_sem,hdn])
  (repeat(refine yA ?_;(simp[go_sem])))
  refine yT ?_
  (repeat(refine yA ?_;(simp[go_sem])))
  refine yC (decide (u=0)) (fun hu=>?_) fun hu=>?_
  ·simp at hu
   have:=h3 hu
   subst hu
   (repeat(refine yA ?_;(simp[go_sem])))
   (try simp);omega
  ·simp at hu
   (repeat(refine yA ?_;(simp[go_sem])))
   (try simp);omega
 |nam s=>
  have c1:Means true Tryz.prog 144 [ii 1] (ii 0):=c1
  have c4:=qI s (by have:=nH he;omega)
  have he:nameOk s=true:=he
  rw[he]at c4
  refine yM true 74 [.tmp 4] [0,1,2,3,4,5,16,17,23,48,57] Tryz.func112 fun X hX=>?_
  (repeat(refine yA ?_;(simp[go_sem,hdn])))
  refine eI (fun hg=>c1) ?_
  (simp[go_sem,hdn];try(refine⟨by kernel_rfl,?_⟩))
  refine yF ?_ (by simp[go_sem,hdn])
  (repeat(refine yA ?_;(simp[go_sem])))
  refine yF ?_
  (repeat(refine yA ?_;(simp[go_sem])))
  refine yF ?_
  (repeat(refine yA ?_;(simp[go_sem])))
  refine yT ?_
  (repeat(refine yA ?_;(simp[go_sem])))
  refine aC c4 ?_
  simp[go_sem]
  (repeat(refine yA ?_;(simp[go_sem])))
 |un a=>
  have c1:Means true Tryz.prog 144 [ii 12] (ii 1):=c1
  simp only[E.args_un]at c3
  refine yM true 74 [.tmp 4] [0,1,2,3,4,5,16,17,23,48,57] Tryz.func112 fun X hX=>?_
  (repeat(refine yA ?_;(simp[go_sem,hdn])))
  refine eI (fun hg=>c1) ?_
  (simp[go_sem,hdn];try(refine⟨by kernel_rfl,?_⟩))
  refine yF ?_ (by simp[go_sem,hdn])
  (repeat(refine yA ?_;(simp[go_sem,hdn])))
  refine yF ?_
  (repeat(refine yA ?_;(simp[go_sem,hdn])))
  refine yF ?_
  (repeat(refine yA ?_;(simp[go_sem,hdn])))
  refine yF ?_
  (repeat(refine yA ?_;(simp[go_sem])))
  refine bB [1] (fun hg=>c3) (by simp[go_sem]) (by simp[go_sem]) ?_
  simp[go_sem]
  (repeat(refine yA ?_;(simp[go_sem])))
 |bin o a b=>
  have ho:=he.1
  have h0:¬o=0:=by omega
  have h1:¬o=1:=by omega
  have c1:Means true Tryz.prog 144 [ii o] (ii 2):=c1
  simp only[E.args_bin]at c3
  refine yM true 74 [.tmp 4] [0,1,2,3,4,5,16,17,23,48,57] Tryz.func112 fun X hX=>?_
  (repeat(refine yA ?_;(simp[go_sem,hdn,h0,h1])))
  refine eI (fun hg=>c1) ?_
  (simp[go_sem,hdn,h0,h1];try(refine⟨by kernel_rfl,?_⟩))
  refine yF ?_ (by simp[go_sem,hdn])
  (repeat(refine yA ?_;(simp[go_sem,hdn,h0,h1])))
  refine yF ?_ (by simp[go_sem,h0,h1])
  (repeat(refine yA ?_;(simp[go_sem,hdn,h0,h1])))
  refine yF ?_
  (repeat(refine yA ?_;(simp[go_sem,hdn,h0,h1])))
  refine yF ?_ (by simp[go_sem,h0,h1])
  (repeat(refine yA ?_;(simp[go_sem])))
  refine bB [1] (fun hg=>c3) (by simp[go_sem]) (by simp[go_sem]) ?_
  simp[go_sem]
  (repeat(refine yA ?_;(simp[go_sem])))
 |ite a b c=>
  have c1:Means true Tryz.prog 144 [ii 13] (ii 3):=c1
  simp only[E.args_ite]at c3
  refine yM true 74 [.tmp 4] [0,1,2,3,4,5,16,17,23,48,57] Tryz.func112 fun X hX=>?_
  (repeat(refine yA ?_;(simp[go_sem,hdn])))
  refine eI (fun hg=>c1) ?_
  (simp[go_sem,hdn];try(refine⟨by kernel_rfl,?_⟩))
  refine yF ?_ (by simp[go_sem,hdn])
  (repeat(refine yA ?_;(simp[go_sem,hdn])))
  refine yF ?_
  (repeat(refine yA ?_;(simp[go_sem,hdn])))
  refine yF ?_
  (repeat(refine yA ?_;(simp[go_sem,hdn])))
  refine yF ?_
  (repeat(refine yA ?_;(simp[go_sem])))
  refine bB [1] (fun hg=>c3) (by simp[go_sem]) (by simp[go_sem]) ?_
  simp[go_sem]
  (repeat(refine yA ?_;(simp[go_sem])))
theorem y8:∀(d:Nat),d≤100→∀e,okE e→e.lev≤d→Means true Tryz.prog 112 [ex e,ii d] (bb true)
 |0,_,e,_,hl=>by have:=uV e;omega
 |d+1,hd,e,he,hl=>H4 d (by omega) (y8 d (by omega)) e he hl
theorem bS(e:E)(he:OkE e):Means true Tryz.prog 65 [ex e] (bb true):=by
 have c1:=y8 12 (by omega) e he.1 he.2
 refine yM true 5 [.tmp 2] [0,1,2] Tryz.func65 fun X hX=>?_
 (repeat(refine yA ?_;(simp[go_sem])))
 refine aC c1 ?_
 simp[go_sem]
 (repeat(refine yA ?_;(simp[go_sem])))
end Go.Proofs.YtdcidannegcaoaaGreatDoor

namespace Go.Proofs.YtdcidannegcaoaaGreatDoor
open Go.RowKit Go.Ab
attribute [local irreducible] AWP Go.Ab.Sub Means MeansH CallK CallG CallT CallGT PanicH DefH
theorem H5(a b n:Int):MeansH Tryz.prog 111 [.row ⟨3,1,[ii a]⟩,.row ⟨3,1,[ii b]⟩] [ii n,.el 0 1 0 0,.el 1 1 0 0] (bb (decide (n<a)||decide (b<n))) [.row ⟨3,1,[ii a]⟩,.row ⟨3,1,[ii b]⟩]:=by
 refine yN 2 13 [.tmp 4] [0,1,2,4,1000000,1000001] Tryz.func111 fun X hX=>?_
 (repeat(refine yB ?_;(simp[go_sem])))
 refine aB ?_;refine a8 [(4,bb (decide (n<a)||decide (b<n))),(1000000,.ow 0),(1000001,.ow 1)] [.old 0 ⟨3,1,[ii a]⟩,.old 1 ⟨3,1,[ii b]⟩] ?_
 simp[go_sem]
theorem E8(a b:Int)(l:List Int)(hl:l.length≤100)(h:∀n∈l,a≤n∧n≤b):Means true Tryz.prog 64 [ii a,ii b,il l] (bb true):=by
 have c1:=GW 111 3 1 (ii a) 3 1 (ii b) (fun n=>decide (n<a)||decide (b<n)) l (by omega) rfl rfl (fun n _=>H5 a b n) (by simp[go_sem])
 have e:(l.any fun n=>decide (n<a)||decide (b<n))=false:=by
  rw[List.any_eq_false]
  intro n hn
  have:=h n hn
  simp;omega
 rw[e]at c1
 refine yM true 11 [.tmp 6] [0,1,2,3,4,6] Tryz.func64 fun X hX=>?_
 (repeat(refine yA ?_;(simp[go_sem])))
 refine yH [0,1] c1 ?_
 simp[go_sem]
 (repeat(refine yA ?_;(simp[go_sem])))
theorem J4(l x:By×E):MeansH Tryz.prog 66 [.row ⟨105,6,[lt l]⟩] [lt x,.el 0 6 0 0] (bb (decide (x.1=l.1))) [.row ⟨105,6,[lt l]⟩]:=by
 refine yN 1 9 [.tmp 3] [0,1,2,3,1000000] Tryz.func66 fun X hX=>?_
 (repeat(refine yB ?_;(simp[go_sem])))
 refine aB ?_;refine a8 [(3,bb (decide (x.1=l.1))),(1000000,.ow 0)] [.old 0 ⟨105,6,[lt l]⟩] ?_
 simp[go_sem]
set_option maxHeartbeats 8000000 in
set_option maxRecDepth 20000 in
theorem eN(b:Bl)(h:OkB b):Means true Tryz.prog 27 [bl b] (bb true):=by
 have d1:=E8 0 2 [b.kind] (by simp) (by simpa using h.kind)
 have d2:=E8 0 2 [b.order] (by simp) (by simpa using h.order)
 have d3:=E8 1 1000 [b.period,b.last] (by simp) (by simp;exact⟨h.period,h.last⟩)
 have d4:=E8 0 1000 [b.grace,b.wait,b.voices,b.fund] (by simp) (by simp;exact⟨h.grace,h.wait,h.voices,h.fund⟩)
 have d5:=E8 0 60 [b.backs,b.jury] (by simp) (by simp;exact⟨h.backs,h.jury⟩)
 have f1:=bS b.due h.due
 have f2:=bS b.fine h.fine
 have f3:=bS b.pay h.pay
 have f4:=bS b.cover h.cover
 have f5:=bS b.hold h.hold
 have hlen:=h.lets.len
 refine yM true 111 [.tmp 2] [0,1,2,3,4,5,60,62,63,64,65,86] Tryz.func27 fun X hX=>?_
 (repeat(refine yA ?_;(simp[go_sem])))
 refine aC d1 ?_
 simp[go_sem]
 refine aK (fun hg=>d2) ?_
 simp[go_sem]
 refine aK (fun hg=>d3) ?_
 simp[go_sem]
 refine aK (fun hg=>d4) ?_
 simp[go_sem]
 refine aK (fun hg=>d5) ?_
 simp[go_sem]
 (repeat(refine yA ?_;(simp[go_sem])))
 refine⟨fun _=>by cases hs:b.sld with|false=>exact .inl rfl|true=>exact .inr (h.sld hs),?_⟩
 refine gC (b:=false) (by
  simp[go_sem]
  exact⟨fun hs=>h.sld hs,by omega⟩) (fun hb=>by cases hb) (fun hb=>?_)
 (repeat(refine yA ?_;(simp[go_sem])))
 refine aE (fun n:Nat=>⟨mkE [(1,.el 0 37 0 0),(62,.sl (b.lets.map lt)),(63,ii b.lets.length),(64,ii n)],[.row ⟨34,37,[bl b]⟩]⟩) (fun n=>n≤b.lets.length) (fun n=>b.lets.length-n) 0 ?_ ?_ ?_
 ·refine yS _ [.old 0 ⟨34,37,[bl b]⟩] ?_
  simp[go_sem]
 ·exact Nat.zero_le _
 ·intro n hn
  (repeat(refine yA ?_;(simp[go_sem])))
  refine yC (decide (n<b.lets.length)) (fun hc=>?_) fun hc=>?_
  ·simp at hc
   have hq:=dF hc
   have wk:=w64 (x:=(n:Int)+1) (by omega) (by omega)
   have hm:b.lets[n]∈b.lets:=List.getElem_mem hc
   have hnm:=h.lets.nam _ hm
   have g1:=qI b.lets[n].1 (by have:=nH hnm;omega)
   rw[hnm]at g1
   have g2:=bS b.lets[n].2 (h.lets.exp _ hm)
   have g3:=H3 66 105 6 (lt b.lets[n]) (fun x=>decide (x.1=b.lets[n].1)) (b.lets.take n) (by rw[List.length_take];omega) rfl (fun x _=>J4 b.lets[n] x) (by simp[go_sem])
   have hany:((b.lets.take n).any fun x=>decide (x.1=b.lets[n].1))=false:=by
    rw[List.any_eq_false]
    intro x hx
    obtain⟨k,hk,rfl⟩:=List.getElem_of_mem hx
    rw[List.length_take]at hk
    rw[List.getElem_take]
    simpa using h.lets.two k n (by omega) hc (by omega)
   rw[hany,List.map_take]at g3
   generalize b.lets[n]=x at hq g1 g2 g3 hnm
   have hc2:n≤b.lets.length:=by omega
   (repeat(refine yA ?_;(simp[go_sem,hc,hq])))
   refine aC g1 ?_
   simp[go_sem]
   refine aK (fun hg=>g2) ?_
   simp[go_sem,hc2]
   refine⟨fun e x y _ he=>by subst he;rfl,?_⟩
   refine bB [1] (fun hg=>g3) (by simp[go_sem]) (by simp[go_sem]) ?_
   simp[go_sem]
   refine yF ?_
   (repeat(refine yA ?_;(simp[go_sem,wk])))
   refine⟨n+1,by omega,by omega,?_⟩
   refine yS _ [.old 0 ⟨34,37,[bl b]⟩] ?_
   simp[go_sem]
  ·simp at hc
   (repeat(refine yA ?_;(simp[go_sem])))
   refine aC f1 ?_
   simp[go_sem]
   refine aK (fun hg=>f2) ?_
   simp[go_sem]
   refine aK (fun hg=>f3) ?_
   simp[go_sem]
   refine aK (fun hg=>f4) ?_
   simp[go_sem]
   refine aK (fun hg=>f5) ?_
   simp[go_sem]
   (repeat(refine yA ?_;(simp[go_sem])))
end Go.Proofs.YtdcidannegcaoaaGreatDoor

namespace Go.Proofs.YtdcidannegcaoaaGreatDoor
structure Mn where
 u:Int:=0
 e:Int:=0
 sh:Bool:=false
 deriving DecidableEq
def only(l:List Int)(u:Int):Bool:= !l.any fun x=> !decide (x=u)
def prodU(a b:Int):Int×Bool:=
 if a=0∨b=0 then(0,false)else if a=4 then(b,true)else if b=4 then(a,true)else if a=1 then(b,true)else if b=1 then(a,true)else(0,false)
def combU(op:Int)(l:List Int):Int×Bool:=
 if op=2∨op=3∨op=6∨op=7 then(l.getD 0 0,only l (l.getD 0 0)&& !decide (l.getD 0 0=0))
 else if op=4 then prodU (l.getD 0 0) (l.getD 1 0)
 else if op=5 then(if l.getD 1 0=1 then(l.getD 0 0,!decide (l.getD 0 0=0)&& !decide (l.getD 0 0=4))else(1,only l (l.getD 0 0)&&(decide (l.getD 0 0=3)||decide (l.getD 0 0=2))))
 else if op=8 then(0,only l (l.getD 0 0)&& !decide (l.getD 0 0=0))
 else if op=9 then(0,only l (l.getD 0 0))
 else if op=13 then(l.getD 1 0,decide (l.getD 0 0=0)&&decide (l.getD 1 0=l.getD 2 0))
 else(0,only l 0)
def finU(op:Int)(l:List Int):Int×Int:=if(combU op l).2 then((combU op l).1,0)else(0,14)
def nameU(g:List (By×Int))(d:List (By×Mn))(s:By):Int×Int:=match g.lookup s with
 |some u=>(u,0)
 |none=>match d.lookup s with
  |some m=>(m.u,m.e)
  |none=>(0,13)
def unitU(g:List (By×Int))(d:List (By×Mn)):E→Int×Int
 | .num _ u=>(u,0)
 | .nam s=>nameU g d s
 | .un a=>if(unitU g d a).2=0 then finU 12 [(unitU g d a).1]else(0,(unitU g d a).2)
 | .bin o a b=>if(unitU g d a).2=0 then(if(unitU g d b).2=0 then finU o [(unitU g d a).1,(unitU g d b).1]else(0,(unitU g d b).2))else(0,(unitU g d a).2)
 | .ite a b c=>if(unitU g d a).2=0 then(if(unitU g d b).2=0 then(if(unitU g d c).2=0 then finU 13 [(unitU g d a).1,(unitU g d b).1,(unitU g d c).1]else(0,(unitU g d c).2))else(0,(unitU g d b).2))else(0,(unitU g d a).2)
def nameS(d:List (By×Mn))(s:By):Bool:=match d.lookup s with
 |some m=>m.sh
 |none=>false
def shareU(d:List (By×Mn)):E→Bool
 | .num _ u=>decide (u=4)
 | .nam s=>nameS d s
 | .un _=>false
 | .bin o a b=>if o=2∨o=3∨o=6∨o=7 then shareU d a else if o=4 then shareU d a&&shareU d b else false
 | .ite _ b _=>shareU d b
def givU:List (By×Int)→List (By×Int)→List (By×Int)
 |g,[]=>g
 |g,v::l=>givU (match g.lookup v.1 with
  |some _=>g
  |none=>g++[v]) l
def letsU(g:List (By×Int)):List (By×Mn)→List (By×E)→List (By×Mn)
 |d,[]=>d
 |d,x::l=>letsU g (d++[(x.1,⟨(unitU g d x.2).1,(unitU g d x.2).2,shareU d x.2⟩)]) l
def unitOf(g:List (By×Int))(l:List (By×E))(e:E):Int×Int:=unitU (givU [] g) (letsU (givU [] g) [] l) e
def shareOf(l:List (By×E))(e:E):Bool:=shareU (letsU [] [] l) e
def vMem:By×Int:=([109,101,109,98,101,114,115],1)
def vPer:By×Int:=([112,101,114,105,111,100],1)
def vLas:By×Int:=([108,97,115,116],1)
def vAge:By×Int:=([97,103,101],2)
def gDue:List (By×Int):=[vMem,vPer,vLas,vAge]
def gFine:List (By×Int):=([108,97,116,101],2)::gDue
def gPay:List (By×Int):=[([112,111,116],3),([98,105,100],3),vMem,vPer]
def gCov:List (By×Int):=[([112,97,105,100],3),([99,108,97,105,109,115],1),vAge,vMem]
def gHold:List (By×Int):=[vMem,([104,111,108,100,115],3)]
def gAll:List (By×List (By×Int)):=[([100,117,101],gDue),([102,105,110,101],gFine),([112,97,121],gPay),([99,111,118,101,114],gCov),([104,111,108,100],gHold)]
def inG(s:By):Bool:=gAll.any fun p=>p.2.any fun v=>decide (v.1=s)
def ofClause(l:List (By×E))(g:List (By×Int))(e:E):Int:=if(unitOf g l e).2=0 then(if(unitOf g l e).1=3 then 0 else 14)else(unitOf g l e).2
def firstBad:List (By×Int)→By×Int
 | []=>([],0)
 |(s,e)::l=>if e=0 then firstBad l else(s,e)
def unitsU(b:Bl):By×Int:=match b.lets.find? fun l=>inG l.1 with
 |some l=>(l.1,5)
 |none=>firstBad [([100,117,101],ofClause b.lets gDue b.due),([102,105,110,101],ofClause b.lets gFine b.fine),([112,97,121],ofClause b.lets gPay b.pay),([99,111,118,101,114],ofClause b.lets gCov b.cover),([104,111,108,100],ofClause b.lets gHold b.hold)]
end Go.Proofs.YtdcidannegcaoaaGreatDoor

