/-
  Lemmas for the statement at the top.
-/
import Derived.Test.YtdcidannegcaoaaGreatDoorGP6
import Derived.Test.YtdcidannegcaoaaGreatDoorGP9
set_option linter.all false
namespace Go.Ab
def q7x0:List Nat:=[0,1,2,6,7,8,9,10,20,25,37,48,76,1000000,1000001,1000002]
def q7x1:List Nat:=[0,1,2,6,7,32]
attribute [go_sem] q7x0 q7x1
end Go.Ab
namespace Go.Proofs.YtdcidannegcaoaaGreatDoor
open Go.RowKit Go.Ab
attribute [local irreducible] AWP Go.Ab.Sub Means MeansH CallK CallG CallT CallGT PanicH DefH
set_option maxHeartbeats 4000000 in
theorem EP(f:FuncId)(E0 k0:Nat)(c0:AV)(p:Int→Bool)(L:List Int)(hl:L.length≤100000)(hz0:c0.flat.all AV.zone=true)(hf:∀x∈L,MeansH Tryz.prog f [.row ⟨E0,k0,[c0]⟩] [ii x,.el 0 k0 0 0] (bb (p x)) [.row ⟨E0,k0,[c0]⟩])(hcall:callable Tryz.prog f=true):
  MeansH Tryz.prog 113 [.row ⟨E0,k0,[c0]⟩] [.sl (L.map ii),.fn f [] [.el 0 k0 0 0]] (ii (match L.findIdx? p with|some n=>(n:Int)|none=> -1)) [.row ⟨E0,k0,[c0]⟩]:=by
 have hy0:∀x∈c0.flat,x.zone=true:=by simpa using hz0
 refine yN 1 19 [.tmp 4] [0,1,4,5,7,8,9,16,1000000] Tryz.func113 fun X hX=>?_
 (repeat(refine yB ?_;(simp[go_sem])))
 refine aE (fun n:Nat=>⟨mkE [(0,.sl (L.map ii)),(1,.fn f [] [.el 0 k0 0 0]),(7,ii L.length),(8,ii n),(1000000,.ow 0)],[.row ⟨E0,k0,[c0]⟩]⟩) (fun n=>n≤L.length∧∀k (h:k<L.length),k<n→p L[k]=false) (fun n=>L.length-n) 0 ?_ ?_ ?_
 ·refine yS _ [.old 0 ⟨E0,k0,[c0]⟩] ?_ (by simp[go_sem,hz0,hy0])
  simp[go_sem,hz0,hy0]
 ·exact⟨Nat.zero_le _,fun k h hk=>absurd hk (by omega)⟩
 ·rintro n ⟨h1,h2⟩
  (repeat(refine yB ?_;(simp[go_sem])))
  refine yC (decide (n<L.length)) (fun hc=>?_) fun hc=>?_
  ·simp at hc
   have hq:=cK hc
   have wk:=w64 (x:=(n:Int)+1) (by omega) (by omega)
   (repeat(refine yB ?_;(simp[go_sem,hc,hq,hcall])))
   refine aZ [0] (hf L[n] (List.getElem_mem hc)) (by simp[go_sem,hz0,hy0]) ?_
   simp[go_sem,hz0]
   refine yC (p L[n]) (fun hs=>?_) fun hs=>?_
   ·have e1:L.findIdx? p=some n:=by
     rw[List.findIdx?_eq_some_iff_getElem]
     exact⟨hc,hs,fun k hk=>by rw[h2 k (by omega) hk];simp⟩
    rw[e1]
    (repeat(refine yB ?_;(simp[go_sem])))
    refine aB ?_;simp only[thenQ,blkQ,loopQ];refine a8 [(4,ii n),(1000000,.ow 0)] [.old 0 ⟨E0,k0,[c0]⟩] ?_
    simp[go_sem,hz0,hy0]
   ·(repeat(refine yB ?_;(simp[go_sem,wk])))
    refine⟨n+1,⟨by omega,fun k h hk=>?_⟩,by omega,?_⟩
    ·by_cases e:k=n
     ·subst e;exact hs
     ·exact h2 k h (by omega)
    ·refine yS _ [.old 0 ⟨E0,k0,[c0]⟩] ?_ (by simp[go_sem,hz0,hy0])
     simp[go_sem,hz0,hy0]
  ·simp at hc
   have e1:L.findIdx? p=none:=by
    rw[List.findIdx?_eq_none_iff]
    intro x hx
    obtain⟨k,hk,rfl⟩:=List.getElem_of_mem hx
    exact h2 k hk (by omega)
   rw[e1]
   (repeat(refine yB ?_;(simp[go_sem])))
   refine aB ?_;refine a8 [(4,ii (-1)),(1000000,.ow 0)] [.old 0 ⟨E0,k0,[c0]⟩] ?_
   simp[go_sem,hz0,hy0]
theorem EQ(f:FuncId)(E0 k0:Nat)(c0:AV)(p:Int→Bool)(L:List Int)(hl:L.length≤100000)(hz0:c0.flat.all AV.zone=true)(hf:∀x∈L,MeansH Tryz.prog f [.row ⟨E0,k0,[c0]⟩] [ii x,.el 0 k0 0 0] (bb (p x)) [.row ⟨E0,k0,[c0]⟩])(hcall:callable Tryz.prog f=true):
  MeansH Tryz.prog 67 [.row ⟨E0,k0,[c0]⟩] [.sl (L.map ii),.fn f [] [.el 0 k0 0 0]] (bb (L.any p)) [.row ⟨E0,k0,[c0]⟩]:=by
 have hy0:∀x∈c0.flat,x.zone=true:=by simpa using hz0
 have hI:=EP f E0 k0 c0 p L hl hz0 hf hcall
 refine yN 1 9 [.tmp 4] [0,1,4,1000000] Tryz.func67 fun X hX=>?_
 (repeat(refine yB ?_;(simp[go_sem])))
 refine aZ [0] hI (by simp[go_sem,hz0,hy0]) ?_
 simp[go_sem,hz0]
 have e:decide (0≤(match L.findIdx? p with|some n=>(n:Int)|none=> -1))=L.any p:=by
  cases hf:L.findIdx? p with
  |none=>
   have:L.any p=false:=by
    rw[List.any_eq_false]
    intro x hx
    rw[List.findIdx?_eq_none_iff.1 hf x hx];simp
   rw[this];rfl
  |some n=>
   obtain⟨h1,h2,_⟩:=List.findIdx?_eq_some_iff_getElem.1 hf
   have:L.any p=true:=List.any_eq_true.2 ⟨L[n],List.getElem_mem h1,h2⟩
   rw[this]
   simp
 rw[←e]
 refine aB ?_;refine a8 [(4,bb (decide (0≤(match L.findIdx? p with|some n=>(n:Int)|none=> -1)))),(1000000,.ow 0)] [.old 0 ⟨E0,k0,[c0]⟩] ?_
 simp[go_sem,hz0,hy0]
theorem HR(a b:Int):Means true Tryz.prog 166 [ii a,ii b] (.tup [ii (prodU a b).1,bb (prodU a b).2]):=by
 refine yM true 29 [.tmp 4,.tmp 5] [0,1,4,5,7,13,14,15,16,17,22,26] Tryz.func166 fun X hX=>?_
 (repeat(refine yA ?_;(simp[go_sem])))
 refine yC (decide (a=0)||decide (b=0)) (fun hb=>?_) fun hb=>?_
 ·simp only[Bool.or_eq_true,decide_eq_true_eq]at hb
  have e:prodU a b=(0,false):=by simp[prodU,hb]
  rw[e]
  (repeat(refine yA ?_;(simp[go_sem])))
 have h0:¬(a=0∨b=0):=by simpa using hb
 (repeat(refine yA ?_;(simp[go_sem])))
 refine aE (fun n:Nat=>⟨mkE [(0,ii a),(1,ii b),(14,.sl [ii 4,ii 1]),(15,ii 2),(16,ii n)],[]⟩) (fun n=>n≤2∧(0<n→¬a=4∧¬b=4)∧(1<n→¬a=1∧¬b=1)) (fun n=>2-n) 0 ?_ ?_ ?_
 ·refine yS _ [] ?_
  simp[go_sem]
 ·simp
 ·rintro n ⟨hn,h1,h2⟩
  (repeat(refine yA ?_;(simp[go_sem])))
  refine yC (decide (n<2)) (fun hc=>?_) (fun hc=>?_) (by simp[go_sem];omega)
  ·simp at hc
   have wk:=w64 (x:=(n:Int)+1) (by omega) (by omega)
   obtain⟨q,hq,hq1⟩:∃q:Int,nth [ii 4,ii 1] n=ii q∧(n=0∧q=4∨n=1∧q=1):=by
    obtain rfl|rfl:n=0∨n=1:=by omega
    ·exact⟨4,rfl,.inl ⟨rfl,rfl⟩⟩
    ·exact⟨1,rfl,.inr ⟨rfl,rfl⟩⟩
   have hc2:(n:Int)<2:=by omega
   (repeat(refine yA ?_;(simp[go_sem,hc,hc2,hq])))
   refine yC (decide (a=q)) (fun hd=>?_) fun hd=>?_
   ·simp at hd
    have e:prodU a b=(b,true):=by
     rcases hq1 with⟨rfl,rfl⟩|⟨rfl,rfl⟩
     ·subst hd
      simp only[prodU];rw[if_neg h0];simp
     ·subst hd
      have:=h1 (by omega)
      simp only[prodU];rw[if_neg h0];simp[this]
    rw[e]
    (repeat(refine yA ?_;(simp[go_sem])))
   ·simp at hd
    (repeat(refine yA ?_;(simp[go_sem])))
    refine yC (decide (b=q)) (fun he=>?_) fun he=>?_
    ·simp at he
     have e:prodU a b=(a,true):=by
      rcases hq1 with⟨rfl,rfl⟩|⟨rfl,rfl⟩
      ·subst he
       simp only[prodU];rw[if_neg h0];simp[hd]
      ·subst he
       have:=h1 (by omega)
       simp only[prodU];rw[if_neg h0];simp[this,hd]
     rw[e]
     (repeat(refine yA ?_;(simp[go_sem])))
    ·simp at he
     (repeat(refine yA ?_;(simp[go_sem,wk])))
     refine⟨n+1,⟨by omega,fun _=>?_,fun _=>?_⟩,by omega,?_⟩
     ·rcases hq1 with⟨rfl,rfl⟩|⟨rfl,rfl⟩
      ·exact⟨hd,he⟩
      ·exact h1 (by omega)
     ·rcases hq1 with⟨rfl,rfl⟩|⟨rfl,rfl⟩
      ·omega
      ·exact⟨hd,he⟩
     ·refine yS _ [] ?_
      simp[go_sem]
  ·simp at hc
   have e1:=h1 (by omega)
   have e2:=h2 (by omega)
   have e:prodU a b=(0,false):=by
    simp only[prodU];rw[if_neg h0];simp[e1,e2]
   rw[e]
   (repeat(refine yA ?_;(simp[go_sem])))
theorem ER(u x:Int):MeansH Tryz.prog 165 [.row ⟨3,1,[ii u]⟩] [ii x,.el 0 1 0 0] (bb (!decide (x=u))) [.row ⟨3,1,[ii u]⟩]:=by
 refine yN 1 7 [.tmp 3] [0,1,3,1000000] Tryz.func165 fun X hX=>?_
 (repeat(refine yB ?_;(simp[go_sem])))
 refine aB ?_;refine a8 [(3,bb (!decide (x=u))),(1000000,.ow 0)] [.old 0 ⟨3,1,[ii u]⟩] ?_
 simp[go_sem]
theorem HT(l:List Int)(hl:l.length≤100000)(u:Int):MeansH Tryz.prog 164 [.row ⟨22,1,[il l]⟩] [ii u,.el 0 1 0 0] (bb (only l u)) [.row ⟨22,1,[il l]⟩]:=by
 have c1:=EQ 165 3 1 (ii u) (fun x=> !decide (x=u)) l hl rfl (fun x _=>ER u x) (by simp[go_sem])
 refine yN 1 8 [.tmp 3] [0,1,2,3,1000000] Tryz.func164 fun X hX=>?_
 (repeat(refine yB ?_;(simp[go_sem])))
 refine yH [1] c1 ?_
 simp[go_sem]
 refine aB ?_;refine a8 [(3,bb (only l u)),(1000000,.ow 0)] [.old 0 ⟨22,1,[il l]⟩] ?_
 simp[go_sem,only]
theorem lT{l:List Int}{k:Nat}(h:k<l.length):nth (l.map ii) k=ii (l.getD k 0):=by rw[cK h];simp[List.getD_eq_getElem?_getD,h]
set_option maxHeartbeats 4000000 in
set_option maxRecDepth 20000 in
theorem HU(op:Int)(l:List Int)(hl:l.length≤10)(h1:0<l.length)(h2:2≤op→op≤9→2≤l.length)(h3:op=13→3≤l.length)(ho:2≤op∧op≤13):Means true Tryz.prog 130 [ii op,il l] (.tup [ii (combU op l).1,bb (combU op l).2]):=by
 have c0:=fun u=>HT l (by omega) u
 have g0:=lT h1
 have g1:1<l.length→_:=fun h=>lT h
 have g2:2<l.length→_:=fun h=>lT h
 obtain⟨a,ha⟩:∃a,l.getD 0 0=a:=⟨_,rfl⟩
 obtain⟨b,hb⟩:∃b,l.getD 1 0=b:=⟨_,rfl⟩
 obtain⟨c,hc⟩:∃c,l.getD 2 0=c:=⟨_,rfl⟩
 rw[ha]at g0
 rw[hb]at g1
 rw[hc]at g2
 by_cases hA:op=2∨op=3∨op=6∨op=7
 ·have e:combU op l=(a,only l a&& !decide (a=0)):=by simp only[combU];rw[if_pos hA,ha]
  rw[e]
  rcases hA with rfl|rfl|rfl|rfl
  all_goals
   refine yM true 115 [.tmp 4,.tmp 5] [0,1,3,4,5,6,8,9,28,39,44,75,88,95] Tryz.func130 fun X hX=>?_
   (repeat(refine yA ?_;(simp[go_sem,h1,g0])));(repeat(first|(refine aD ?_ ?_;(focus(simp[go_sem,h1,g0];done));(repeat(refine yA ?_;(simp[go_sem,h1,g0]))))|(refine aA ?_ ?_;(focus(simp[go_sem,h1,g0];done));(repeat(refine yA ?_;(simp[go_sem,h1,g0]))))))
   refine bN [0] (c0 a) (by simp[go_sem]) ?_
   (simp[go_sem,h1,g0];try(refine⟨by kernel_rfl,?_⟩))
   try(repeat(refine yA ?_;(simp[go_sem,h1,g0])))
 by_cases hB:op=4
 ·have e:combU op l=prodU a b:=by simp only[combU];rw[if_neg hA,if_pos hB,ha,hb]
  rw[e]
  subst hB
  have h2:1<l.length:=h2 (by omega) (by omega)
  have g1:=g1 h2
  have h2:(1:Int)<l.length:=by omega
  have c1:=HR a b
  refine yM true 115 [.tmp 4,.tmp 5] [0,1,3,4,5,6,8,9,28,39,44,75,88,95] Tryz.func130 fun X hX=>?_
  (repeat(refine yA ?_;(simp[go_sem,h1,g0,h2,g1])));(repeat(first|(refine aD ?_ ?_;(focus(simp[go_sem,h1,g0,h2,g1];done));(repeat(refine yA ?_;(simp[go_sem,h1,g0,h2,g1]))))|(refine aA ?_ ?_;(focus(simp[go_sem,h1,g0,h2,g1];done));(repeat(refine yA ?_;(simp[go_sem,h1,g0,h2,g1]))))))
  refine fB c1 ?_
  (simp[go_sem,h1,g0,h2,g1];try(refine⟨by kernel_rfl,?_⟩))
  try(repeat(refine yA ?_;(simp[go_sem,h1,g0,h2,g1])))
 by_cases hC:op=5
 ·have e:combU op l=if b=1 then(a,!decide (a=0)&& !decide (a=4))else(1,only l a&&(decide (a=3)||decide (a=2))):=by simp only[combU];rw[if_neg hA,if_neg hB,if_pos hC,ha,hb]
  rw[e]
  subst hC
  have h2:1<l.length:=h2 (by omega) (by omega)
  have g1:=g1 h2
  have h2:(1:Int)<l.length:=by omega
  by_cases hd:b=1
  ·rw[if_pos hd]
   refine yM true 115 [.tmp 4,.tmp 5] [0,1,3,4,5,6,8,9,28,39,44,75,88,95] Tryz.func130 fun X hX=>?_
   (repeat(refine yA ?_;(simp[go_sem,h1,g0,h2,g1,hd])));(repeat(first|(refine aD ?_ ?_;(focus(simp[go_sem,h1,g0,h2,g1,hd];done));(repeat(refine yA ?_;(simp[go_sem,h1,g0,h2,g1,hd];try(refine⟨by kernel_rfl,?_⟩)))))|(refine aA ?_ ?_;(focus(simp[go_sem,h1,g0,h2,g1,hd];done));(repeat(refine yA ?_;(simp[go_sem,h1,g0,h2,g1,hd]))))))
  ·rw[if_neg hd]
   refine yM true 115 [.tmp 4,.tmp 5] [0,1,3,4,5,6,8,9,28,39,44,75,88,95] Tryz.func130 fun X hX=>?_
   (repeat(refine yA ?_;(simp[go_sem,h1,g0,h2,g1,hd])));(repeat(first|(refine aD ?_ ?_;(focus(simp[go_sem,h1,g0,h2,g1,hd];done));(repeat(refine yA ?_;(simp[go_sem,h1,g0,h2,g1,hd]))))|(refine aA ?_ ?_;(focus(simp[go_sem,h1,g0,h2,g1,hd];done));(repeat(refine yA ?_;(simp[go_sem,h1,g0,h2,g1,hd]))))))
   refine bN [0] (c0 a) (by simp[go_sem]) ?_
   simp[go_sem,h1,g0]
   refine And.intro (fun p q=>⟨p,q⟩) ?_
   refine⟨by kernel_rfl,?_⟩
   try(repeat(refine yA ?_;(simp[go_sem,h1,g0])))
 by_cases hD:op=8
 ·have e:combU op l=(0,only l a&& !decide (a=0)):=by simp only[combU];rw[if_neg hA,if_neg hB,if_neg hC,if_pos hD,ha]
  rw[e]
  subst hD
  refine yM true 115 [.tmp 4,.tmp 5] [0,1,3,4,5,6,8,9,28,39,44,75,88,95] Tryz.func130 fun X hX=>?_
  (repeat(refine yA ?_;(simp[go_sem,h1,g0])));(repeat(first|(refine aD ?_ ?_;(focus(simp[go_sem,h1,g0];done));(repeat(refine yA ?_;(simp[go_sem,h1,g0]))))|(refine aA ?_ ?_;(focus(simp[go_sem,h1,g0];done));(repeat(refine yA ?_;(simp[go_sem,h1,g0]))))))
  refine bN [0] (c0 a) (by simp[go_sem]) ?_
  (simp[go_sem,h1,g0];try(refine⟨by kernel_rfl,?_⟩))
  try(repeat(refine yA ?_;(simp[go_sem,h1,g0])))
 by_cases hE:op=9
 ·have e:combU op l=(0,only l a):=by simp only[combU];rw[if_neg hA,if_neg hB,if_neg hC,if_neg hD,if_pos hE,ha]
  rw[e]
  subst hE
  refine yM true 115 [.tmp 4,.tmp 5] [0,1,3,4,5,6,8,9,28,39,44,75,88,95] Tryz.func130 fun X hX=>?_
  (repeat(refine yA ?_;(simp[go_sem,h1,g0])));(repeat(first|(refine aD ?_ ?_;(focus(simp[go_sem,h1,g0];done));(repeat(refine yA ?_;(simp[go_sem,h1,g0]))))|(refine aA ?_ ?_;(focus(simp[go_sem,h1,g0];done));(repeat(refine yA ?_;(simp[go_sem,h1,g0]))))))
  refine yH [0] (c0 a) ?_
  simp[go_sem,h1,g0]
  try(repeat(refine yA ?_;(simp[go_sem,h1,g0])))
 by_cases hF:op=13
 ·have e:combU op l=(b,decide (a=0)&&decide (b=c)):=by simp only[combU];rw[if_neg hA,if_neg hB,if_neg hC,if_neg hD,if_neg hE,if_pos hF,ha,hb,hc]
  rw[e]
  have h3:2<l.length:=h3 hF
  have h2:1<l.length:=by omega
  have g1:=g1 h2
  have g2:=g2 h3
  clear ho
  subst hF
  have h2:(1:Int)<l.length:=by omega
  have h3:(2:Int)<l.length:=by omega
  refine yM true 115 [.tmp 4,.tmp 5] [0,1,3,4,5,6,8,9,28,39,44,75,88,95] Tryz.func130 fun X hX=>?_
  (repeat(refine yA ?_;(simp[go_sem,h1,g0,h2,g1,h3,g2])));(repeat(first|(refine aD ?_ ?_;(focus(simp[go_sem,h1,g0,h2,g1,h3,g2];done));(repeat(refine yA ?_;(simp[go_sem,h1,g0,h2,g1,h3,g2];try(refine⟨by kernel_rfl,?_⟩)))))|(refine aA ?_ ?_;(focus(simp[go_sem,h1,g0,h2,g1,h3,g2];done));(repeat(refine yA ?_;(simp[go_sem,h1,g0,h2,g1,h3,g2]))))))
 have e:combU op l=(0,only l 0):=by simp only[combU];rw[if_neg hA,if_neg hB,if_neg hC,if_neg hD,if_neg hE,if_neg hF]
 rw[e]
 have ho:op=10∨op=11∨op=12:=by omega
 rcases ho with rfl|rfl|rfl
 all_goals
  refine yM true 115 [.tmp 4,.tmp 5] [0,1,3,4,5,6,8,9,28,39,44,75,88,95] Tryz.func130 fun X hX=>?_
  (repeat(refine yA ?_;(simp[go_sem,h1,g0])));(repeat(refine aA ?_ ?_;(focus(simp[go_sem,h1,g0];done));(repeat(refine yA ?_;(simp[go_sem,h1,g0])))))
  refine yH [0] (c0 0) ?_
  simp[go_sem,h1,g0]
  try(repeat(refine yA ?_;(simp[go_sem,h1,g0])))
end Go.Proofs.YtdcidannegcaoaaGreatDoor

namespace Go.Proofs.YtdcidannegcaoaaGreatDoor
open Go.RowKit Go.Ab
attribute [local irreducible] AWP Go.Ab.Sub Means MeansH CallK CallG CallT CallGT PanicH DefH
@[go_sem] theorem cV(a b:By):keyEq Tryz.prog 9 (ss a) (ss b)=some (decide (a=b)):=by
  simp only[keyEq,tk9,eqV]
  rw[JQ]
def gm(g:List (By×Int)):List (AV×AV):=g.map fun p=>(ss p.1,ii p.2)
abbrev mnA(m:Mn):AV:=.agg [ii m.u,ii m.e,bb m.sh]
def dm(d:List (By×Mn)):List (AV×AV):=d.map fun p=>(ss p.1,mnA p.2)
theorem wE(s:By):∀g,findA Tryz.prog 9 (ss s) (gm g)=some ((g.lookup s).map ii)
 | []=>rfl
 |(a,v)::g=>by
  have ih:=wE s g
  simp only[gm,List.map_cons,findA,cV,List.lookup_cons]at ih⊢
  by_cases h:s=a
  ·subst h;simp
  ·have h2:(s==a)=false:=by simpa using h
   simp only[h,h2,decide_false];exact ih
theorem pT(s:By):∀d,findA Tryz.prog 9 (ss s) (dm d)=some ((d.lookup s).map mnA)
 | []=>rfl
 |(a,v)::g=>by
  have ih:=pT s g
  simp only[dm,List.map_cons,findA,cV,List.lookup_cons]at ih⊢
  by_cases h:s=a
  ·subst h;simp
  ·have h2:(s==a)=false:=by simpa using h
   simp only[h,h2,decide_false];exact ih
@[go_sem] theorem lookA_gm(s:By)(g:List (By×Int)):lookA Tryz.prog 9 3 (ss s) (gm g) true=some (.tup [ii ((g.lookup s).getD 0),bb (g.lookup s).isSome]):=by
  unfold lookA
  rw[wE,tk3]
  cases g.lookup s<;>rfl
@[go_sem] theorem lookA_dm(s:By)(d:List (By×Mn)):lookA Tryz.prog 9 206 (ss s) (dm d) true=some (.tup [mnA ((d.lookup s).getD {}),bb (d.lookup s).isSome]):=by
  unfold lookA
  rw[pT,HH]
  cases d.lookup s<;>rfl
@[go_sem] theorem lookA_dmf(s:By)(d:List (By×Mn)):lookA Tryz.prog 9 206 (ss s) (dm d) false=some (mnA ((d.lookup s).getD {})):=by
  unfold lookA
  rw[pT,HH]
  cases d.lookup s<;>rfl
theorem B3(g:List (By×Int))(d:List (By×Mn))(s:By):nameU g d s=if(g.lookup s).isSome then((g.lookup s).getD 0,0)else if(d.lookup s).isSome then(((d.lookup s).getD {}).u,((d.lookup s).getD {}).e)else(0,13):=by
 unfold nameU
 cases g.lookup s
 ·cases d.lookup s<;>rfl
 ·rfl
theorem B4(d:List (By×Mn))(s:By):nameS d s=((d.lookup s).getD {}).sh:=by
 unfold nameS
 cases d.lookup s<;>rfl
def firstE(g:List (By×Int))(d:List (By×Mn)):List E→Int
 | []=>0
 |e::l=>if(unitU g d e).2=0 then firstE g d l else(unitU g d e).2
theorem o3{g:List (By×Int)}{d:List (By×Mn)}:∀{l:List E} {n:Nat} (hn:n<l.length),(∀j (h:j<l.length),j<n→(unitU g d l[j]).2=0)→(unitU g d l[n]).2≠0→firstE g d l=(unitU g d l[n]).2
 | [],n,hn,_,_=>by simp at hn
 |e::l,0,_,_,hne=>by
  have hne:(unitU g d e).2≠0:=hne
  unfold firstE
  rw[if_neg hne];rfl
 |e::l,n+1,hn,h,hne=>by
  have h0:(unitU g d e).2=0:=h 0 (by simp) (by omega)
  unfold firstE
  rw[if_pos h0]
  exact o3 (l:=l) (n:=n) (by simpa using hn) (fun j hj hjn=>h (j+1) (by simpa using hj) (by omega)) hne
theorem lU{g:List (By×Int)}{d:List (By×Mn)}:∀{l:List E},(∀j (h:j<l.length),(unitU g d l[j]).2=0)→firstE g d l=0
 | [],_=>rfl
 |e::l,h=>by
  have h0:(unitU g d e).2=0:=h 0 (by simp)
  unfold firstE
  rw[if_pos h0]
  exact lU fun j hj=>h (j+1) (by simpa using hj)
theorem uA(g:List (By×Int))(d:List (By×Mn)){e:E}(h0:¬e.op=0)(h1:¬e.op=1):unitU g d e=if firstE g d e.kids=0 then finU e.op (e.kids.map fun x=>(unitU g d x).1)else(0,firstE g d e.kids):=by
 cases e with
 |num n u=>exact absurd rfl h0
 |nam s=>exact absurd rfl h1
 |un a=>
  simp only[unitU,E.kids,firstE,E.op_un,List.map_cons,List.map_nil]
  split<;>rename_i h<;>simp[h]
 |bin o a b=>
  simp only[unitU,E.kids,firstE,E.op_bin,List.map_cons,List.map_nil]
  split<;>rename_i h
  ·split<;>rename_i h2<;>simp[h2]
  ·simp[h]
 |ite a b c=>
  simp only[unitU,E.kids,firstE,E.op_ite,List.map_cons,List.map_nil]
  split<;>rename_i h
  ·split<;>rename_i h2
   ·split<;>rename_i h3<;>simp[h3]
   ·simp[h2]
  ·simp[h]
abbrev jR:Ob:=⟨204,2,[.agg [.ow 1,.ow 2]]⟩
abbrev gR(g:List (By×Int)):MOb:=⟨9,3,gm g⟩
abbrev dR(d:List (By×Mn)):MOb:=⟨9,206,dm d⟩
abbrev JH(g:List (By×Int))(d:List (By×Mn)):List Cell:=[.row jR,.map (gR g),.map (dR d)]
set_option maxHeartbeats 8000000 in
set_option maxRecDepth 20000 in
theorem HV(g:List (By×Int))(d:List (By×Mn))(N:Nat)(ih:∀x,okE x→x.lev≤N→MeansH Tryz.prog 91 (JH g d) [.el 0 2 0 0,ex x] (.tup [ii (unitU g d x).1,ii (unitU g d x).2]) (JH g d))(e:E)(he:okE e)(hl:e.lev≤N+1):
  MeansH Tryz.prog 91 (JH g d) [.el 0 2 0 0,ex e] (.tup [ii (unitU g d e).1,ii (unitU g d e).2]) (JH g d):=by
 by_cases h0:e.op=0
 ·obtain⟨n,u,rfl⟩:∃n u,e=.num n u:=by
   cases e with
   |num n u=>exact⟨n,u,rfl⟩
   |nam s=>simp[E.op]at h0
   |un a=>simp[E.op]at h0
   |ite a b c=>simp[E.op]at h0
   |bin o a b=>have:=he.1;simp[E.op]at h0;omega
  refine yN 3 82 [.tmp 4,.tmp 5] [0,1,3,4,5,6,7,8,9,10,12,13,14,15,16,18,19,23,35,47,53,54,55,56,66,80,1000000,1000001,1000002] Tryz.func91 fun X hX=>?_
  (repeat(refine yB ?_;(simp[go_sem])));(repeat(refine aD ?_ ?_;(focus(simp[go_sem];done));(repeat(refine yB ?_;(simp[go_sem])))))
  refine aB ?_;simp only[thenQ,blkQ,loopQ];refine a8 [(4,ii u),(5,ii 0),(1000000,.ow 0),(1000001,.ow 1),(1000002,.ow 2)] [.old 0 jR,.oldM 1 (gR g),.oldM 2 (dR d)] ?_
  simp[go_sem,unitU]
 by_cases h1:e.op=1
 ·obtain⟨s,rfl⟩:∃s,e=.nam s:=by
   cases e with
   |num n u=>simp[E.op]at h1
   |nam s=>exact⟨s,rfl⟩
   |un a=>simp[E.op]at h1
   |ite a b c=>simp[E.op]at h1
   |bin o a b=>have:=he.1;simp[E.op]at h1;omega
  have hu:unitU g d (.nam s)=nameU g d s:=rfl
  rw[hu,B3]
  refine yN 3 82 [.tmp 4,.tmp 5] [0,1,3,4,5,6,7,8,9,10,12,13,14,15,16,18,19,23,35,47,53,54,55,56,66,80,1000000,1000001,1000002] Tryz.func91 fun X hX=>?_
  (repeat(refine yB ?_;(simp[go_sem])));(repeat(first|(refine aD ?_ ?_;(focus(simp[go_sem];done));(repeat(refine yB ?_;(simp[go_sem];try(refine⟨by kernel_rfl,?_⟩)))))|(refine aA ?_ ?_;(focus(simp[go_sem];done));(repeat(refine yB ?_;(simp[go_sem]))))))
  refine yC ((g.lookup s).isSome) (fun hb=>?_) fun hb=>?_
  ·(repeat(refine yB ?_;(simp[go_sem])))
   rw[if_pos hb]
   refine aB ?_;simp only[thenQ,blkQ,loopQ];refine a8 [(4,ii ((g.lookup s).getD 0)),(5,ii 0),(1000000,.ow 0),(1000001,.ow 1),(1000002,.ow 2)] [.old 0 jR,.oldM 1 (gR g),.oldM 2 (dR d)] ?_
   simp[go_sem]
  ·rw[if_neg (by rw[hb];simp)]
   (repeat(refine yB ?_;(simp[go_sem];try(refine⟨by kernel_rfl,?_⟩))))
   refine yC ((d.lookup s).isSome) (fun hc=>?_) fun hc=>?_
   ·(repeat(refine yB ?_;(simp[go_sem];try(refine⟨by kernel_rfl,?_⟩))))
    rw[if_pos hc]
    refine aB ?_;simp only[thenQ,blkQ,loopQ];refine a8 [(4,ii ((d.lookup s).getD {}).u),(5,ii ((d.lookup s).getD {}).e),(1000000,.ow 0),(1000001,.ow 1),(1000002,.ow 2)] [.old 0 jR,.oldM 1 (gR g),.oldM 2 (dR d)] ?_
    simp[go_sem]
   ·rw[if_neg (by rw[hc];simp)]
    (repeat(refine yB ?_;(simp[go_sem])))
    refine aB ?_;simp only[thenQ,blkQ,loopQ];refine a8 [(4,ii 0),(5,ii 13),(1000000,.ow 0),(1000001,.ow 1),(1000002,.ow 2)] [.old 0 jR,.oldM 1 (gR g),.oldM 2 (dR d)] ?_
    simp[go_sem]
 have hop:=B5 he
 have hk:1≤e.kids.length∧e.kids.length≤3∧(2≤e.op→e.op≤9→2≤e.kids.length)∧(e.op=13→3≤e.kids.length)∧(2≤e.op∧e.op≤13):=by
  cases e with
  |num n u=>simp[E.op]at h0
  |nam s=>simp[E.op]at h1
  |un a=>simp[E.kids,E.op]
  |bin o a b=>have:=he.1;simp[E.kids,E.op]<;>omega
  |ite a b c=>simp[E.kids,E.op]
 have hki:∀x∈e.kids,MeansH Tryz.prog 91 (JH g d) [.el 0 2 0 0,ex x] (.tup [ii (unitU g d x).1,ii (unitU g d x).2]) (JH g d):=fun x hx=>ih x (uB he hx) (by have:=iX hx;omega)
 rw[uA g d h0 h1]
 have ea:=gU e
 have e1:∀q,e.args=q→ex e=.agg [ii e.op,ii e.n,ii e.u,ss e.s,.sl q]:=fun q h=>by subst h;rfl
 have e1:=e1 _ ea
 have c1:=HU e.op (e.kids.map fun x=>(unitU g d x).1) (by simp;omega) (by simp;omega) (by simpa using hk.2.2.1) (by simpa using hk.2.2.2.1) hk.2.2.2.2
 rw[e1]
 generalize e.kids=K at*
 generalize e.op=o at*
 generalize e.n=en at*
 generalize e.u=eu at*
 generalize e.s=es at*
 clear e1 ea hl he ih hop
 refine yN 3 82 [.tmp 4,.tmp 5] [0,1,3,4,5,6,7,8,9,10,12,13,14,15,16,18,19,23,35,47,53,54,55,56,66,80,1000000,1000001,1000002] Tryz.func91 fun X hX=>?_
 (repeat(refine yB ?_;(simp[go_sem,h0,h1])));(repeat(refine aA ?_ ?_;(focus(simp[go_sem,h0,h1];done));(repeat(refine yB ?_;(simp[go_sem,h0,h1])))))
 refine aE (fun n:Nat=>⟨mkE [(0,.el 0 2 0 0),(3,.el 3 5 0 0),(4,ii 0),(5,ii 0),(10,.ow 4),(53,.sl (K.map ex)),(54,ii K.length),(55,ii n),(1000000,.ow 0),(1000001,.ow 1),(1000002,.ow 2)],
  [.row jR,.map (gR g),.map (dR d),.row ⟨32,5,[.agg [ii o,ii en,ii eu,ss es,.sl (K.map ex)]]⟩,.row ⟨3,1,(K.map fun x=>ii (unitU g d x).1).take n⟩]⟩) (fun n=>n≤K.length∧∀j (h:j<K.length),j<n→(unitU g d K[j]).2=0) (fun n=>K.length-n) 0 ?_ ?_ ?_
 ·refine yS _ [.old 0 jR,.oldM 1 (gR g),.oldM 2 (dR d),.old 3 ⟨32,5,[.agg [ii o,ii en,ii eu,ss es,.sl (K.map ex)]]⟩,.birth 3 1] ?_
  simp[go_sem]
 ·simp
 ·rintro n ⟨hn,hz⟩
  (repeat(refine yB ?_;(simp[go_sem])))
  refine yC (decide (n<K.length)) (fun hc=>?_) fun hc=>?_
  ·simp at hc
   have hq:=lV hc
   have wk:=w64 (x:=(n:Int)+1) (by omega) (by omega)
   have c2:=hki K[n] (List.getElem_mem hc)
   (repeat(refine yB ?_;(simp[go_sem,hc,hq])))
   refine yH [0,1,2] c2 ?_
   simp[go_sem]
   (repeat(refine yB ?_;(simp[go_sem])))
   refine yC (!decide ((unitU g d K[n]).2=0)) (fun hd=>?_) fun hd=>?_
   ·have hd:¬(unitU g d K[n]).2=0:=by simpa using hd
    rw[o3 hc hz hd,if_neg hd]
    (repeat(refine yB ?_;(simp[go_sem])))
    refine aB ?_;simp only[thenQ,blkQ,loopQ];refine a8 [(4,ii 0),(5,ii (unitU g d K[n]).2),(1000000,.ow 0),(1000001,.ow 1),(1000002,.ow 2)] [.old 0 jR,.oldM 1 (gR g),.oldM 2 (dR d)] ?_
    simp[go_sem]
   ·have hd:(unitU g d K[n]).2=0:=by simpa using hd
    have ht:(K.map fun x=>ii (unitU g d x).1).take (n+1)=(K.map fun x=>ii (unitU g d x).1).take n++[ii (unitU g d K[n]).1]:=by
     rw[List.take_succ_eq_append_getElem (by simpa using hc)];simp
    (repeat(refine yB ?_;(simp[go_sem,wk];(try simp(disch:=omega) only[w64,td,tm]))))
    refine⟨⟨by first|omega|(simp;omega),by unfold maxLen;first|omega|(simp;omega)⟩,?_⟩
    (repeat(refine yB ?_;(simp[go_sem,wk];(try simp(disch:=omega) only[w64,td,tm]))))
    refine⟨n+1,⟨by omega,fun j hj hjn=>?_⟩,by omega,?_⟩
    ·by_cases e:j=n
     ·subst e;exact hd
     ·exact hz j hj (by omega)
    ·rw[ht]
     refine yS _ [.old 0 jR,.oldM 1 (gR g),.oldM 2 (dR d),.old 3 ⟨32,5,[.agg [ii o,ii en,ii eu,ss es,.sl (K.map ex)]]⟩,.old 7 ⟨3,1,(K.map fun x=>ii (unitU g d x).1).take n++[ii (unitU g d K[n]).1]⟩] ?_
     simp[go_sem]
  ·have hnn:n=K.length:=by simp at hc;omega
   subst hnn
   rw[List.take_of_length_le (by simp)]
   rw[lU (fun j hj=>hz j hj hj),if_pos rfl]
   have em:K.map (fun x=>ii (unitU g d x).1)=(K.map fun x=>(unitU g d x).1).map ii:=by rw[List.map_map];rfl
   rw[em]
   generalize K.map (fun x=>(unitU g d x).1)=L at*
   (repeat(refine yB ?_;(simp[go_sem])))
   refine aC c1 ?_
   simp[go_sem]
   (repeat(refine yB ?_;(simp[go_sem])))
   unfold finU
   refine yC ((combU o L).2) (fun hd=>?_) fun hd=>?_
   ·rw[if_pos hd]
    (repeat(refine yB ?_;(simp[go_sem])))
    refine aB ?_;simp only[thenQ,blkQ,loopQ];refine a8 [(4,ii (combU o L).1),(5,ii 0),(1000000,.ow 0),(1000001,.ow 1),(1000002,.ow 2)] [.old 0 jR,.oldM 1 (gR g),.oldM 2 (dR d)] ?_
    simp[go_sem]
   ·rw[if_neg (by simpa using hd)]
    (repeat(refine yB ?_;(simp[go_sem])))
    refine aB ?_;refine a8 [(4,ii 0),(5,ii 14),(1000000,.ow 0),(1000001,.ow 1),(1000002,.ow 2)] [.old 0 jR,.oldM 1 (gR g),.oldM 2 (dR d)] ?_
    simp[go_sem]
theorem uC(g:List (By×Int))(d:List (By×Mn)):∀(N:Nat) (e:E),okE e→e.lev≤N→MeansH Tryz.prog 91 (JH g d) [.el 0 2 0 0,ex e] (.tup [ii (unitU g d e).1,ii (unitU g d e).2]) (JH g d)
 |0,e,_,h=>by cases e<;>simp[E.lev]at h
 |N+1,e,he,hl=>HV g d N (uC g d N) e he hl
end Go.Proofs.YtdcidannegcaoaaGreatDoor

namespace Go.Proofs.YtdcidannegcaoaaGreatDoor
open Go.RowKit Go.Ab
attribute [local irreducible] AWP Go.Ab.Sub Means MeansH CallK CallG CallT CallGT PanicH DefH
set_option maxHeartbeats 4000000 in
theorem B6(f:FuncId)  (p:(By×E)→Bool)(L:List (By×E))(hl:L.length≤100000)  (hf:∀x∈L,Means true Tryz.prog f [lt x] (bb (p x)))(hcall:callable Tryz.prog f=true):
  Means true Tryz.prog 107 [.sl (L.map lt),.v (.func (.func f) #[] #[])] (ii (match L.findIdx? p with|some n=>(n:Int)|none=> -1)):=by
 refine yM true 19 [.tmp 4] [0,1,4,5,7,8,9,16] Tryz.func107 fun X hX=>?_
 (repeat(refine yA ?_;(simp[go_sem])))
 refine aE (fun n:Nat=>⟨mkE [(0,.sl (L.map lt)),(1,.v (.func (.func f) #[] #[])),(7,ii L.length),(8,ii n)],[]⟩) (fun n=>n≤L.length∧∀k (h:k<L.length),k<n→p L[k]=false) (fun n=>L.length-n) 0 ?_ ?_ ?_
 ·refine yS _ [] ?_
  simp[go_sem]
 ·exact⟨Nat.zero_le _,fun k h hk=>absurd hk (by omega)⟩
 ·rintro n ⟨h1,h2⟩
  (repeat(refine yA ?_;(simp[go_sem])))
  refine yC (decide (n<L.length)) (fun hc=>?_) fun hc=>?_
  ·simp at hc
   have hq:=dF hc
   have wk:=w64 (x:=(n:Int)+1) (by omega) (by omega)
   (repeat(refine yA ?_;(simp[go_sem,hc,hq,hcall])))
   refine aC (hf L[n] (List.getElem_mem hc)) ?_
   refine yC (p L[n]) (fun hs=>?_) fun hs=>?_
   ·have e1:L.findIdx? p=some n:=by
     rw[List.findIdx?_eq_some_iff_getElem]
     exact⟨hc,hs,fun k hk=>by rw[h2 k (by omega) hk];simp⟩
    rw[e1]
    (repeat(refine yA ?_;(simp[go_sem])))
   ·(repeat(refine yA ?_;(simp[go_sem,wk])))
    refine⟨n+1,⟨by omega,fun k h hk=>?_⟩,by omega,?_⟩
    ·by_cases e:k=n
     ·subst e;exact hs
     ·exact h2 k h (by omega)
    ·refine yS _ [] ?_
     simp[go_sem]
  ·simp at hc
   have e1:L.findIdx? p=none:=by
    rw[List.findIdx?_eq_none_iff]
    intro x hx
    obtain⟨k,hk,rfl⟩:=List.getElem_of_mem hx
    exact h2 k hk (by omega)
   rw[e1]
   (repeat(refine yA ?_;(simp[go_sem])))
theorem B7(f:FuncId)  (p:(By×E)→Bool)(L:List (By×E))(hl:L.length≤100000)  (hf:∀x∈L,Means true Tryz.prog f [lt x] (bb (p x)))(hcall:callable Tryz.prog f=true):
  Means true Tryz.prog 59 [.sl (L.map lt),.v (.func (.func f) #[] #[])] (bb (L.any p)):=by
 have hI:=B6 f  p L hl  hf hcall
 refine yM true 9 [.tmp 4] [0,1,4] Tryz.func59 fun X hX=>?_
 (repeat(refine yA ?_;(simp[go_sem])))
 refine aC hI ?_
 simp[go_sem]
 have e:decide (0≤(match L.findIdx? p with|some n=>(n:Int)|none=> -1))=L.any p:=by
  cases hf:L.findIdx? p with
  |none=>
   have:L.any p=false:=by
    rw[List.any_eq_false]
    intro x hx
    rw[List.findIdx?_eq_none_iff.1 hf x hx];simp
   rw[this];rfl
  |some n=>
   obtain⟨h1,h2,_⟩:=List.findIdx?_eq_some_iff_getElem.1 hf
   have:L.any p=true:=List.any_eq_true.2 ⟨L[n],List.getElem_mem h1,h2⟩
   rw[this]
   simp
 rw[←e]
 (repeat(refine yA ?_;(simp[go_sem])))
set_option maxHeartbeats 8000000 in
set_option maxRecDepth 20000 in
theorem JR(g:List (By×Int))(d:List (By×Mn))(N:Nat)(ih:∀x,okE x→x.lev≤N→MeansH Tryz.prog 129 (JH g d) [.el 0 2 0 0,ex x] (bb (shareU d x)) (JH g d))(e:E)(he:okE e)(hl:e.lev≤N+1):
  MeansH Tryz.prog 129 (JH g d) [.el 0 2 0 0,ex e] (bb (shareU d e)) (JH g d):=by
 cases e with
 |num n u=>
  refine yN 3 57 [.tmp 4] [0,1,3,4,6,7,12,22,33,49,1000000,1000001,1000002] Tryz.func129 fun X hX=>?_
  (repeat(refine yB ?_;(simp[go_sem])));(repeat(refine aD ?_ ?_;(focus(simp[go_sem];done));(repeat(refine yB ?_;(simp[go_sem])))))
  refine aB ?_;simp only[thenQ,blkQ,loopQ];refine a8 [(4,bb (decide (u=4))),(1000000,.ow 0),(1000001,.ow 1),(1000002,.ow 2)] [.old 0 jR,.oldM 1 (gR g),.oldM 2 (dR d)] ?_
  simp[go_sem,shareU]
 |nam s=>
  have e1:shareU d (.nam s)=((d.lookup s).getD {}).sh:=B4 d s
  rw[e1]
  refine yN 3 57 [.tmp 4] [0,1,3,4,6,7,12,22,33,49,1000000,1000001,1000002] Tryz.func129 fun X hX=>?_
  (repeat(refine yB ?_;(simp[go_sem])));(repeat(first|(refine aD ?_ ?_;(focus(simp[go_sem];done));(repeat(refine yB ?_;(simp[go_sem];try(refine⟨by kernel_rfl,?_⟩)))))|(refine aA ?_ ?_;(focus(simp[go_sem];done));(repeat(refine yB ?_;(simp[go_sem]))))))
  refine aB ?_;simp only[thenQ,blkQ,loopQ];refine a8 [(4,bb ((d.lookup s).getD {}).sh),(1000000,.ow 0),(1000001,.ow 1),(1000002,.ow 2)] [.old 0 jR,.oldM 1 (gR g),.oldM 2 (dR d)] ?_
  simp[go_sem]
 |un a=>
  refine yN 3 57 [.tmp 4] [0,1,3,4,6,7,12,22,33,49,1000000,1000001,1000002] Tryz.func129 fun X hX=>?_
  (repeat(refine yB ?_;(simp[go_sem])));(repeat(refine aA ?_ ?_;(focus(simp[go_sem];done));(repeat(refine yB ?_;(simp[go_sem])))))
  refine aB ?_;refine a8 [(4,bb false),(1000000,.ow 0),(1000001,.ow 1),(1000002,.ow 2)] [.old 0 jR,.oldM 1 (gR g),.oldM 2 (dR d)] ?_
  simp[go_sem,shareU]
 |ite a b c=>
  have c1:=ih b he.2.1 (by simp only[E.lev]at hl;omega)
  have e1:shareU d (.ite a b c)=shareU d b:=rfl
  rw[e1]
  refine yN 3 57 [.tmp 4] [0,1,3,4,6,7,12,22,33,49,1000000,1000001,1000002] Tryz.func129 fun X hX=>?_
  (repeat(refine yB ?_;(simp[go_sem])));(repeat(first|(refine aD ?_ ?_;(focus(simp[go_sem];done));(repeat(refine yB ?_;(simp[go_sem]))))|(refine aA ?_ ?_;(focus(simp[go_sem];done));(repeat(refine yB ?_;(simp[go_sem]))))))
  refine yH [0,1,2] c1 ?_
  simp[go_sem]
  refine aB ?_;simp only[thenQ,blkQ,loopQ];refine a8 [(4,bb (shareU d b)),(1000000,.ow 0),(1000001,.ow 1),(1000002,.ow 2)] [.old 0 jR,.oldM 1 (gR g),.oldM 2 (dR d)] ?_
  simp[go_sem]
 |bin o a b=>
  have hA:=ih a he.2.1 (by simp only[E.lev]at hl;omega)
  have hB:=ih b he.2.2 (by simp only[E.lev]at hl;omega)
  have ho:=he.1
  by_cases h1:o=2∨o=3∨o=6∨o=7
  ·have e1:shareU d (.bin o a b)=shareU d a:=by simp only[shareU];rw[if_pos h1]
   rw[e1]
   clear ho he hl
   rcases h1 with rfl|rfl|rfl|rfl
   all_goals
    refine yN 3 57 [.tmp 4] [0,1,3,4,6,7,12,22,33,49,1000000,1000001,1000002] Tryz.func129 fun X hX=>?_
    (repeat(refine yB ?_;(simp[go_sem])));(repeat(first|(refine aD ?_ ?_;(focus(simp[go_sem];done));(repeat(refine yB ?_;(simp[go_sem]))))|(refine aA ?_ ?_;(focus(simp[go_sem];done));(repeat(refine yB ?_;(simp[go_sem]))))))
    refine yH [0,1,2] hA ?_
    simp[go_sem]
    refine aB ?_;simp only[thenQ,blkQ,loopQ];refine a8 [(4,bb (shareU d a)),(1000000,.ow 0),(1000001,.ow 1),(1000002,.ow 2)] [.old 0 jR,.oldM 1 (gR g),.oldM 2 (dR d)] ?_
    simp[go_sem]
  by_cases h2:o=4
  ·have e1:shareU d (.bin o a b)=(shareU d a&&shareU d b):=by simp only[shareU];rw[if_neg h1,if_pos h2]
   rw[e1]
   subst h2
   refine yN 3 57 [.tmp 4] [0,1,3,4,6,7,12,22,33,49,1000000,1000001,1000002] Tryz.func129 fun X hX=>?_
   (repeat(refine yB ?_;(simp[go_sem])));(repeat(first|(refine aD ?_ ?_;(focus(simp[go_sem];done));(repeat(refine yB ?_;(simp[go_sem]))))|(refine aA ?_ ?_;(focus(simp[go_sem];done));(repeat(refine yB ?_;(simp[go_sem]))))))
   refine yH [0,1,2] hA ?_
   simp[go_sem]
   refine bB [0,1,2] (fun hg=>hB) (by simp[go_sem]) (by simp[go_sem]) ?_
   simp[go_sem]
   refine aB ?_;simp only[thenQ,blkQ,loopQ];refine a8 [(4,bb (shareU d a&&shareU d b)),(1000000,.ow 0),(1000001,.ow 1),(1000002,.ow 2)] [.old 0 jR,.oldM 1 (gR g),.oldM 2 (dR d)] ?_
   simp[go_sem]
  have e1:shareU d (.bin o a b)=false:=by simp only[shareU];rw[if_neg h1,if_neg h2]
  rw[e1]
  have n0:¬o=0:=by omega
  have n1:¬o=1:=by omega
  have n2:¬o=2:=by omega
  have n3:¬o=3:=by omega
  have n6:¬o=6:=by omega
  have n7:¬o=7:=by omega
  have n13:¬o=13:=by omega
  refine yN 3 57 [.tmp 4] [0,1,3,4,6,7,12,22,33,49,1000000,1000001,1000002] Tryz.func129 fun X hX=>?_
  (repeat(refine yB ?_;(simp[go_sem,n0,n1,n2,n3,n6,n7,h2,n13])));(repeat(refine aA ?_ ?_;(focus(simp[go_sem,n0,n1,n2,n3,n6,n7,h2,n13];done));(repeat(refine yB ?_;(simp[go_sem,n0,n1,n2,n3,n6,n7,h2,n13])))))
  refine aB ?_;refine a8 [(4,bb false),(1000000,.ow 0),(1000001,.ow 1),(1000002,.ow 2)] [.old 0 jR,.oldM 1 (gR g),.oldM 2 (dR d)] ?_
  simp[go_sem]
theorem B8(g:List (By×Int))(d:List (By×Mn)):∀(N:Nat) (e:E),okE e→e.lev≤N→MeansH Tryz.prog 129 (JH g d) [.el 0 2 0 0,ex e] (bb (shareU d e)) (JH g d)
 |0,e,_,h=>by cases e<;>simp[E.lev]at h
 |N+1,e,he,hl=>JR g d N (B8 g d N) e he hl
end Go.Proofs.YtdcidannegcaoaaGreatDoor

namespace Go.Proofs.YtdcidannegcaoaaGreatDoor
open Go.RowKit Go.Ab
attribute [local irreducible] AWP Go.Ab.Sub Means MeansH CallK CallG CallT CallGT PanicH DefH
abbrev vr(v:By×Int):AV:=.agg [ss v.1,ii v.2,ii 0]
@[go_sem] theorem B9{L:List (By×Int)}{k:Nat}(h:k<L.length):nth (L.map vr) k=vr L[k]:=bF vr h
theorem pU(s:By)(u:Int):∀(g:List (By×Int)),(g.lookup s).isSome=false→updA Tryz.prog 9 (ss s) (ii u) (gm g)=some (gm (g++[(s,u)]))
 | [],_=>rfl
 |(a,v)::g,h=>by
  simp only[List.lookup_cons]at h
  by_cases e:s=a
  ·subst e;simp at h
  ·have h2:(s==a)=false:=by simpa using e
   rw[h2]at h
   have ih:=pU s u g h
   simp only[gm,List.map_cons,updA,cV,e,decide_false,List.cons_append]at ih⊢
   rw[ih];rfl
theorem BA(s:By)(m:Mn):∀(g:List (By×Mn)),(∀p∈g,p.1≠s)→updA Tryz.prog 9 (ss s) (mnA m) (dm g)=some (dm (g++[(s,m)]))
 | [],_=>rfl
 |(a,v)::g,h=>by
  have e:¬s=a:=fun e=>h (a,v) (by simp) e.symm
  have ih:=BA s m g (fun p hp=>h p (by simp[hp]))
  simp only[dm,List.map_cons,updA,cV,e,decide_false,List.cons_append]at ih⊢
  rw[ih];rfl
def givS(g:List (By×Int))(v:By×Int):List (By×Int):=if(g.lookup v.1).isSome then g else g++[v]
theorem fC(v:By×Int):∀(l:List (By×Int)) (g:List (By×Int)),givU g (l++[v])=givS (givU g l) v
 | [],g=>by
   simp only[List.nil_append,givU,givS]
   split<;>rename_i h<;>simp[h]
 |x::l,g=>by
  rw[List.cons_append,givU,givU]
  exact fC v l _
def letS(g:List (By×Int))(d:List (By×Mn))(x:By×E):By×Mn:=(x.1,⟨(unitU g d x.2).1,(unitU g d x.2).2,shareU d x.2⟩)
theorem lW(g:List (By×Int))(x:By×E):∀(l:List (By×E)) (d:List (By×Mn)),letsU g d (l++[x])=letsU g d l++[letS g (letsU g d l) x]
 | [],d=>rfl
 |y::l,d=>by
  rw[List.cons_append,letsU,letsU]
  exact lW g x l _
theorem o4(g:List (By×Int)):∀(l:List (By×E)) (d:List (By×Mn)),(letsU g d l).map (·.1)=d.map (·.1)++l.map (·.1)
 | [],d=>by simp[letsU]
 |y::l,d=>by rw[letsU,o4 g l];simp
theorem yU(g:List (By×Int)){l:List (By×E)}(h:OkL l){n:Nat}(hn:n<l.length):∀p∈letsU g [] (l.take n),p.1≠l[n].1:=by
 intro p hp e
 have h1:p.1∈(letsU g [] (l.take n)).map (·.1):=List.mem_map_of_mem hp
 rw[o4]at h1
 simp only[List.map_nil,List.nil_append,List.mem_map]at h1
 obtain⟨x,hx,hx2⟩:=h1
 obtain⟨k,hk,rfl⟩:=List.getElem_of_mem hx
 have hk2:k<n:=by rw[List.length_take]at hk;omega
 rw[List.getElem_take]at hx2
 exact h.two k n (by omega) hn hk2 (hx2.trans e)
theorem HW(l:By×E)(h:OkE l.2):Means true Tryz.prog 128 [lt l] (bb false):=by
 have c1:=bS l.2 h
 refine yM true 7 [.tmp 2] [0,1,2] Tryz.func128 fun X hX=>?_
 (repeat(refine yA ?_;(simp[go_sem])))
 refine aC c1 ?_
 simp[go_sem]
 (repeat(refine yA ?_;(simp[go_sem])))
set_option maxHeartbeats 8000000 in
set_option maxRecDepth 20000 in
theorem lX(L:List (By×E))(V:List (By×Int))(e:E)(hL:OkL L)(hV:V.length≤100∧∀v∈V,0≤v.2∧v.2<5)(he:OkE e):
  MeansH Tryz.prog 90 [] [.sl (L.map lt),.sl (V.map vr),ex e] (.tup [.el 0 2 0 0,bb true]) (JH (givU [] V) (letsU (givU [] V) [] L)):=by
 have c1:=bS e he
 have hl:=hL.len
 have c2:=B7 128 (fun _=>false) L (by omega) (fun x hx=>HW x (hL.exp x hx)) (by simp[go_sem])
 have hany:(L.any fun _=>false)=false:=by simp
 rw[hany]at c2
 have hv:=hV.1
 have h20:¬(20:Int)<L.length:=by omega
 refine yN 0 96 [.tmp 6,.tmp 7] [0,1,2,5,6,7,8,10,12,14,15,16,32,33,34,35,36,46,58,68,69,70,71] Tryz.func90 fun X hX=>?_
 (repeat(refine yB ?_;(simp[go_sem,h20])))
 refine aK (fun hg=>c1) ?_
 simp[go_sem]
 refine aK (fun hg=>c2) ?_
 simp[go_sem]
 refine yF ?_ (by simp[go_sem,h20])
 (repeat(refine yB ?_;(simp[go_sem])))
 refine aE (fun n:Nat=>⟨mkE [(0,.sl (L.map lt)),(5,.el 0 5 0 0),(8,.el 3 2 0 0),(33,.sl (V.map vr)),(34,ii V.length),(35,ii n)],
  [.row ⟨32,5,[ex e]⟩,.map (gR (givU [] (V.take n))),.map (dR []),.row jR]⟩) (fun n=>n≤V.length) (fun n=>V.length-n) 0 ?_ ?_ ?_
 ·refine yS _ [.old 0 ⟨32,5,[ex e]⟩,.oldM 1 ⟨9,3,[]⟩,.oldM 2 ⟨9,206,[]⟩,.old 3 jR] ?_
  simp[go_sem,gm,dm,givU]
 ·simp
 ·rintro n hn
  (repeat(refine yB ?_;(simp[go_sem])))
  refine yC (decide (n<V.length)) (fun hc=>?_) fun hc=>?_
  ·simp at hc
   have hq:=B9 hc
   have wk:=w64 (x:=(n:Int)+1) (by omega) (by omega)
   have hu:=hV.2 V[n] (List.getElem_mem hc)
   have hn1:¬V[n].2<0:=by omega
   have hn2:¬5≤V[n].2:=by omega
   have ht:givU [] (V.take (n+1))=givS (givU [] (V.take n)) V[n]:=by rw[List.take_succ_eq_append_getElem hc,fC]
   have hup:=pU V[n].1 V[n].2 (givU [] (V.take n))
   generalize V[n]=v at*
   generalize givU [] (V.take n)=G at*
   (repeat(refine yB ?_;(simp[go_sem,hc,hq,hn1,hn2])))
   refine aA (by simp[go_sem,hn1,hn2]) ?_
   (repeat(refine yB ?_;(simp[go_sem,hq];try(refine⟨by kernel_rfl,?_⟩))))
   refine yC (!(G.lookup v.1).isSome) (fun hd=>?_) fun hd=>?_
   ·have hd:(G.lookup v.1).isSome=false:=by simpa using hd
    have hup:=hup hd
    have e2:givS G v=G++[v]:=by unfold givS;rw[hd];simp
    (repeat(refine yB ?_;(simp[go_sem,hup,wk];try(refine⟨by kernel_rfl,?_⟩))))
    refine⟨n+1,by omega,by omega,?_⟩
    rw[ht,e2]
    refine yS _ [.old 0 ⟨32,5,[ex e]⟩,.oldM 1 (gR (G++[v])),.oldM 2 (dR []),.old 3 jR] ?_
    simp[go_sem]
   ·have hd:(G.lookup v.1).isSome=true:=by simpa using hd
    have e2:givS G v=G:=by unfold givS;rw[hd];simp
    (repeat(refine yB ?_;(simp[go_sem,wk])))
    refine⟨n+1,by omega,by omega,?_⟩
    rw[ht,e2]
    refine yS _ [.old 0 ⟨32,5,[ex e]⟩,.oldM 1 (gR G),.oldM 2 (dR []),.old 3 jR] ?_
    simp[go_sem]
  ·have hnn:n=V.length:=by simp at hc;omega
   subst hnn
   rw[List.take_of_length_le (Nat.le_refl _)]
   generalize givU [] V=G at*
   (repeat(refine yB ?_;(simp[go_sem])))
   refine aE (fun n:Nat=>⟨mkE [(8,.el 3 2 0 0),(68,.sl (L.map lt)),(69,ii L.length),(70,ii n)],
    [.row ⟨32,5,[ex e]⟩,.map (gR G),.map (dR (letsU G [] (L.take n))),.row jR]⟩) (fun n=>n≤L.length) (fun n=>L.length-n) 0 ?_ ?_ ?_
   ·refine yS _ [.old 0 ⟨32,5,[ex e]⟩,.oldM 1 (gR G),.oldM 2 (dR []),.old 3 jR] ?_
    simp[go_sem,letsU]
   ·simp
   ·rintro n hn
    (repeat(refine yB ?_;(simp[go_sem])))
    refine yC (decide (n<L.length)) (fun hc=>?_) fun hc=>?_
    ·simp at hc
     have hq:=dF hc
     have wk:=w64 (x:=(n:Int)+1) (by omega) (by omega)
     have hx:=hL.exp L[n] (List.getElem_mem hc)
     have ht:letsU G [] (L.take (n+1))=letsU G [] (L.take n)++[letS G (letsU G [] (L.take n)) L[n]]:=by rw[List.take_succ_eq_append_getElem hc,lW]
     have hoff:=yU G hL hc
     generalize letsU G [] (L.take n)=D at*
     have hup:=BA L[n].1 (letS G D L[n]).2 D hoff
     have d1:=uC G D 12 L[n].2 hx.1 hx.2
     have d2:=B8 G D 12 L[n].2 hx.1 hx.2
     generalize L[n]=x at*
     (repeat(refine yB ?_;(simp[go_sem,hc,hq])))
     refine yH [3,1,2] d1 ?_
     simp[go_sem]
     (repeat(refine yB ?_;(simp[go_sem])))
     simp only[letS,mnA]at hup ht
     generalize D++[(x.1,({u:=(unitU G D x.2).1,e:=(unitU G D x.2).2,sh:=shareU D x.2}:Mn))]=D2 at hup ht
     refine bN [3,1,2] (d2) (by simp[go_sem]) ?_
     (simp[go_sem,hup];try(refine⟨by kernel_rfl,?_⟩))
     (repeat(refine yB ?_;(simp[go_sem,wk])))
     refine⟨n+1,by omega,by omega,?_⟩
     rw[ht]
     refine yS _ [.old 0 ⟨32,5,[ex e]⟩,.oldM 1 (gR G),.oldM 2 (dR D2),.old 3 jR] ?_
     simp[go_sem]
    ·have hnn:n=L.length:=by simp at hc;omega
     subst hnn
     rw[List.take_of_length_le (Nat.le_refl _)]
     (repeat(refine yB ?_;(simp[go_sem])))
     refine aB ?_;refine a8 [(6,.el 0 2 0 0),(7,bb true)] [.old 3 jR,.oldM 1 (gR G),.oldM 2 (dR (letsU G [] L))] ?_
     simp[go_sem]
theorem BB(L:List (By×E))(V:List (By×Int))(e:E)(hL:OkL L)(hV:V.length≤100∧∀v∈V,0≤v.2∧v.2<5)(he:OkE e):
  Means true Tryz.prog 45 [.sl (L.map lt),.sl (V.map vr),ex e] (.tup [ii (unitOf V L e).1,ii (unitOf V L e).2]):=by
 have c1:=lX L V e hL hV he
 have c2:=uC (givU [] V) (letsU (givU [] V) [] L) 12 e he.1 he.2
 have e1:unitOf V L e=unitU (givU [] V) (letsU (givU [] V) [] L) e:=rfl
 rw[e1]
 generalize givU [] V=G at*
 generalize letsU G [] L=D at*
 refine yM true 24 [.tmp 6,.tmp 7] [0,1,2,5,6,7,8,9,18] Tryz.func45 fun X hX=>?_
 (repeat(refine yA ?_;(simp[go_sem])))
 refine yH [] c1 ?_
 simp[go_sem]
 (repeat(refine yA ?_;(simp[go_sem])))
 refine aA (by simp[go_sem]) ?_
 (repeat(refine yA ?_;(simp[go_sem])))
 refine yH [1,2,3] c2 ?_
 simp[go_sem]
 (repeat(refine yA ?_;(simp[go_sem])))
theorem lI(L:List (By×E))(e:E)(hL:OkL L)(he:OkE e):
  Means true Tryz.prog 199 [.sl (L.map lt),ex e] (bb (shareOf L e)):=by
 have c1:=lX L [] e hL ⟨by simp,by simp⟩ he
 have c2:=B8 [] (letsU [] [] L) 12 e he.1 he.2
 have e1:shareOf L e=shareU (letsU [] [] L) e:=rfl
 rw[e1]
 simp only[givU,List.map_nil]at c1
 generalize letsU [] [] L=D at*
 refine yM true 19 [.tmp 4] [0,1,3,4,5,6] Tryz.func199 fun X hX=>?_
 (repeat(refine yA ?_;(simp[go_sem])))
 refine yH [] c1 ?_
 simp[go_sem]
 (repeat(refine yA ?_;(simp[go_sem])))
 refine bB [1,2,3] (fun hg=>c2) (by simp[go_sem]) (by simp[go_sem]) ?_
 simp[go_sem]
 (repeat(refine yA ?_;(simp[go_sem])))
end Go.Proofs.YtdcidannegcaoaaGreatDoor

namespace Go.Proofs.YtdcidannegcaoaaGreatDoor
open Go.RowKit Go.Ab
attribute [local irreducible] AWP Go.Ab.Sub Means MeansH CallK CallG CallT CallGT PanicH DefH
def dayB(n:Int):Bool:=decide (0≤n)&&decide (n≤1048576)
theorem eM{n:Int}:dayB n=true↔0≤n∧n≤1048576:=by simp[dayB]
theorem lY(n:Int):Means true Tryz.prog 69 [ii n] (bb (dayB n)):=by
 refine yM true 9 [.tmp 2] [0,2] Tryz.func69 fun X hX=>?_
 (repeat(refine yA ?_;(simp[go_sem])))
 simp[dayB]
abbrev t2(x:Int×Int):AV:=.tup [ii x.1,ii x.2]
theorem BC{p l:Int}(h1:0≤p)(h2:p≤5000)(h3:0≤l)(h4:l≤5000):0≤p*l∧p*l≤25000000:=by
 refine⟨Int.mul_nonneg h1 h3,?_⟩
 have:=Int.mul_le_mul h2 h4 h3 (by omega:(0:Int)≤5000)
 omega
def shV(p f l d:Int):Int×Int:=if dayB f then(if 1048576<f+p*l+d then(0,3)else(f+p*l+d,0))else(0,1)
theorem o5(p f l d:Int)(hp:0≤p∧p≤5000)(hl:1≤l∧l≤5000)(hd:0≤d∧d≤100000):Means true Tryz.prog 114 [ii p,ii f,ii l,ii d] (t2 (shV p f l d)):=by
 have c1:=lY f
 have c2:=lY l
 have hdl:dayB l=true:=eM.2 (by omega)
 rw[hdl]at c2
 have hb:=BC hp.1 hp.2 (by omega) hl.2
 have w1:=w64 (x:=p*l) (by omega) (by omega)
 have n1:¬p<0:=by omega
 have n2:¬l=0:=by omega
 have n3:¬1048576<p:=by omega
 generalize hq:p*l=q at hb w1
 cases hf:dayB f with
 |false=>
  rw[hf]at c1
  refine yM true 47 [.tmp 8,.tmp 9] [0,1,2,3,8,9,10,27] Tryz.func114 fun X hX=>?_
  (repeat(refine yA ?_;(simp[go_sem,n1,n2])))
  refine aK (fun hg=>c1) ?_
  try(simp[go_sem])
  first|refine bT rfl ?_|refine dB rfl ?_
  try(simp[go_sem])
  refine yT ?_
  rw[show shV p f l d=(0,1) by simp[shV,hf]]
  (repeat(refine yA ?_;(simp[go_sem])))
 |true=>
  rw[hf]at c1
  have hf':=eM.1 hf
  have w2:=w64 (x:=f+q) (by omega) (by omega)
  have w3:=w64 (x:=f+q+d) (by omega) (by omega)
  refine yM true 47 [.tmp 8,.tmp 9] [0,1,2,3,8,9,10,27] Tryz.func114 fun X hX=>?_
  (repeat(refine yA ?_;(simp[go_sem,n1,n2])))
  refine aK (fun hg=>c1) ?_
  try(simp[go_sem])
  refine aK (fun hg=>c2) ?_
  try(simp[go_sem,n2])
  refine yF ?_ (by simp[go_sem,n2])
  (repeat(refine yA ?_;(simp[go_sem,n3,hq,w1,w2,w3])))
  refine yC (decide (1048576<f+q+d)) (fun hc=>?_) (fun hc=>?_) (by simp[go_sem,n3])
  ·simp at hc
   rw[show shV p f l d=(0,3) by simp[shV,hf,hq,hc]]
   (repeat(refine yA ?_;(simp[go_sem])))
  ·have hc':¬1048576<f+q+d:=by simpa using hc
   rw[show shV p f l d=(f+q+d,0) by simp[shV,hf,hq,hc']]
   (repeat(refine yA ?_;(simp[go_sem,hq,w1,w2,w3])))
def beginsV(p f l:Int):Int×Int:=shV p f l 0
theorem rI(p f l:Int)(hp:0≤p∧p≤5000)(hl:1≤l∧l≤5000):Means true Tryz.prog 71 [ii p,ii f,ii l] (t2 (beginsV p f l)):=by
 have c1:=o5 p f l 0 hp hl (by omega)
 refine yM true 14 [.tmp 6,.tmp 7] [0,1,2,6,7] Tryz.func71 fun X hX=>?_
 (repeat(refine yA ?_;(simp[go_sem])))
 refine aC c1 ?_
 try(simp[go_sem])
 (repeat(refine yA ?_;(simp[go_sem])))
 all_goals exact⟨rfl,rfl⟩
def dueV(p f l g:Int):Int×Int:=shV p f l (l-1+g)
theorem BD(p f l g:Int)(hp:0≤p∧p≤5000)(hl:1≤l∧l≤5000)(hg:0≤g∧g≤5000):Means true Tryz.prog 70 [ii p,ii f,ii l,ii g] (t2 (dueV p f l g)):=by
 have c0:=lY g
 have hdg:dayB g=true:=eM.2 (by omega)
 rw[hdg]at c0
 have c1:=o5 p f l (l-1+g) hp hl (by omega)
 have e:min (max l 1) 1048576=l:=by omega
 have w:=w64 (x:=l-1) (by omega) (by omega)
 have w2:=w64 (x:=l-1+g) (by omega) (by omega)
 refine yM true 25 [.tmp 8,.tmp 9] [0,1,2,3,8,9,12] Tryz.func70 fun X hX=>?_
 (repeat(refine yA ?_;(simp[go_sem])))
 refine aC c0 ?_
 try(simp[go_sem])
 refine yF ?_
 (repeat(refine yA ?_;(simp[go_sem,e,w,w2])))
 refine aC c1 ?_
 try(simp[go_sem])
 (repeat(refine yA ?_;(simp[go_sem])))
 all_goals exact⟨rfl,rfl⟩
theorem uD{p f l d:Int}(hp:0≤p∧p≤5000)(hl:1≤l∧l≤5000)(hd:0≤d∧d≤100000):0≤(shV p f l d).1∧(shV p f l d).1≤1048576∧((shV p f l d).2=0∨(shV p f l d).2=1∨(shV p f l d).2=3):=by
 have hb:=BC hp.1 hp.2 (by omega) hl.2
 unfold shV
 split
 ·rename_i hf
  have:=eM.1 hf
  split
  ·simp
  ·simp only[]
   refine⟨by omega,by omega,.inl ?_⟩
   trivial
 ·simp
def periodV(o f l:Int):Int×Int:=if dayB o&&dayB f then(if o<f then(0,26)else((o-f)/l,0))else(0,1)
theorem iY(o f l:Int)(hl:1≤l∧l≤5000):Means true Tryz.prog 29 [ii o,ii f,ii l] (t2 (periodV o f l)):=by
 have c1:=lY o
 have c2:=lY f
 have c3:=lY l
 have hdl:dayB l=true:=eM.2 (by omega)
 rw[hdl]at c3
 have n2:¬l=0:=by omega
 cases h1:dayB o with
 |false=>
  rw[h1]at c1
  refine yM true 35 [.tmp 6,.tmp 7] [0,1,2,6,7,8,26] Tryz.func29 fun X hX=>?_
  (repeat(refine yA ?_;(simp[go_sem])))
  refine aC c1 ?_
  try(simp[go_sem,n2])
  first|refine bT rfl ?_|refine dB rfl ?_
  try(simp[go_sem,n2])
  first|refine bT rfl ?_|refine dB rfl ?_
  try(simp[go_sem,n2])
  refine yT ?_
  rw[show periodV o f l=(0,1) by simp[periodV,h1]]
  (repeat(refine yA ?_;(simp[go_sem])))
 |true=>
  rw[h1]at c1
  have b1:=eM.1 h1
  cases h2:dayB f with
  |false=>
   rw[h2]at c2
   refine yM true 35 [.tmp 6,.tmp 7] [0,1,2,6,7,8,26] Tryz.func29 fun X hX=>?_
   (repeat(refine yA ?_;(simp[go_sem])))
   refine aC c1 ?_
   try(simp[go_sem,n2])
   refine aK (fun hg=>c2) ?_
   try(simp[go_sem,n2])
   first|refine bT rfl ?_|refine dB rfl ?_
   try(simp[go_sem,n2])
   refine yT ?_
   rw[show periodV o f l=(0,1) by simp[periodV,h1,h2]]
   (repeat(refine yA ?_;(simp[go_sem])))
  |true=>
   rw[h2]at c2
   have b2:=eM.1 h2
   refine yM true 35 [.tmp 6,.tmp 7] [0,1,2,6,7,8,26] Tryz.func29 fun X hX=>?_
   (repeat(refine yA ?_;(simp[go_sem])))
   refine aC c1 ?_
   try(simp[go_sem,n2])
   refine aK (fun hg=>c2) ?_
   try(simp[go_sem,n2])
   refine aK (fun hg=>c3) ?_
   try(simp[go_sem,n2])
   refine yF ?_ (by simp[go_sem,n2])
   (repeat(refine yA ?_;(simp[go_sem])))
   by_cases hlt:o<f
   ·refine yT ?_ (by simp[go_sem,hlt])
    rw[show periodV o f l=(0,26) by simp[periodV,h1,h2,hlt]]
    (repeat(refine yA ?_;(simp[go_sem])))
   ·refine yF ?_ (by simp[go_sem,hlt])
    have w1:=w64 (x:=o-f) (by omega) (by omega)
    have hq:=td (a:=o-f) (b:=l) (by omega)
    have hdv:0≤(o-f)/l∧(o-f)/l≤o-f:=⟨Int.ediv_nonneg (by omega) (by omega),Int.ediv_le_self _ (by omega)⟩
    have w2:=w64 (x:=(o-f)/l) (by omega) (by omega)
    rw[show periodV o f l=((o-f)/l,0) by simp[periodV,h1,h2,hlt]]
    (repeat(refine yA ?_;(simp[go_sem,n2,w1,hq,w2])))
def lateV(o p f l g:Int):Int×Int:=if dayB o then(if(dueV p f l g).2=0 then(max 0 (o-(dueV p f l g).1),0)else(0,(dueV p f l g).2))else(0,1)
theorem BE(o p f l g:Int)(hp:0≤p∧p≤5000)(hl:1≤l∧l≤5000)(hg:0≤g∧g≤5000):Means true Tryz.prog 74 [ii o,ii p,ii f,ii l,ii g] (t2 (lateV o p f l g)):=by
 have c0:=lY o
 have c1:=BD p f l g hp hl hg
 have hb:0≤(dueV p f l g).1∧(dueV p f l g).1≤1048576∧((dueV p f l g).2=0∨(dueV p f l g).2=1∨(dueV p f l g).2=3):=uD hp hl (by omega)
 unfold lateV
 generalize dueV p f l g=x at c1 hb
 obtain⟨a,e⟩:=x
 simp only[]at hb c1⊢
 refine yM true 32 [.tmp 10,.tmp 11] [0,1,2,3,4,10,11,12,13,16,26] Tryz.func74 fun X hX=>?_
 (repeat(refine yA ?_;(simp[go_sem])))
 refine aC c0 ?_
 try(simp[go_sem])
 cases ho:dayB o with
 |false=>
  refine yT ?_ (by simp[go_sem,ho])
  (repeat(refine yA ?_;(simp[go_sem])))
 |true=>
  have b1:=eM.1 ho
  refine yF ?_ (by simp[go_sem,ho])
  (repeat(refine yA ?_;(simp[go_sem])))
  refine aC c1 ?_
  try(simp[go_sem])
  by_cases he:e=0
  ·(try rw[if_pos rfl]);(try rw[if_pos he])
   (repeat(refine yA ?_;(simp[go_sem])))
   refine yF ?_ (by simp[go_sem,he])
   have w1:=w64 (x:=o-a) (by omega) (by omega)
   (repeat(refine yA ?_;(simp[go_sem,w1])))
  ·(try rw[if_pos rfl]);(try rw[if_neg he])
   (repeat(refine yA ?_;(simp[go_sem])))
   refine yT ?_ (by simp[go_sem,he])
   (repeat(refine yA ?_;(simp[go_sem])))
structure Cn where
 a:Int
 b:Int
 n:Int
 deriving DecidableEq
abbrev cn(c:Cn):AV:=.agg [ii c.a,ii c.b,ii c.n]
@[go_sem] theorem HY{L:List Cn}{k:Nat}(h:k<L.length):nth (L.map cn) k=cn L[k]:=bF cn h
def calL(p w g:Int):List Cn:=[⟨2,0,p-1⟩,⟨0,2,1-p⟩,⟨1,2,1-w⟩,⟨2,1,w-1⟩,⟨0,1,0⟩,⟨3,2,g⟩,⟨2,3,-g⟩,⟨4,2,p⟩,⟨2,4,-p⟩,⟨3,4,0⟩]
set_option maxRecDepth 20000 in
theorem uE(b:Bl)(h:OkB b):Means true Tryz.prog 20 [bl b] (.sl ((calL b.period b.wait b.grace).map cn)):=by
 have c1:=eN b h
 have hp:=h.period
 have hw:=h.wait
 have hg:=h.grace
 have w1:=w64 (x:=b.period-1) (by omega) (by omega)
 have w2:=w64 (x:=1-b.period) (by omega) (by omega)
 have w3:=w64 (x:=1-b.wait) (by omega) (by omega)
 have w4:=w64 (x:=b.wait-1) (by omega) (by omega)
 have w5:=w64 (x:= -b.grace) (by omega) (by omega)
 have w6:=w64 (x:= -b.period) (by omega) (by omega)
 refine yM true 39 [.tmp 2] [0,1,2,5] Tryz.func20 fun X hX=>?_
 (repeat(refine yA ?_;(simp[go_sem])))
 refine aC c1 ?_
 try(simp[go_sem])
 refine yF ?_
 (repeat(refine yA ?_;(simp[go_sem,w1,w2,w3,w4,w5,w6])))
 simp[calL]
end Go.Proofs.YtdcidannegcaoaaGreatDoor

namespace Go.Proofs.YtdcidannegcaoaaGreatDoor
open Go.RowKit Go.Ab
attribute [local irreducible] AWP Go.Ab.Sub Means MeansH CallK CallG CallT CallGT PanicH PanicX DefH CallU
def bnd(n:Int):Prop:= -1099511627776≤n∧n≤1099511627776
abbrev faultV(e:Int):Value:=.iface 265 (.agg #[.int .i64 e])
def outV:Int ⊕ Int→Value ⊕ AV
 | .inl e=>.inl (faultV e)
 | .inr v=>.inr (ii v)
@[go_sem] theorem pV(e:Int):outV (.inl e)=.inl (faultV e):=rfl
@[go_sem] theorem ES(v:Int):outV (.inr v)=.inr (ii v):=rfl
def okO:Int ⊕ Int→Prop
 | .inl _=>True
 | .inr v=>bnd v
set_option maxRecDepth 20000 in
theorem BF(n:Int)(h:bnd n):MeansH Tryz.prog 193 [] [ii n] (ii n) []:=by
 have h1:¬1099511627776<n:=by unfold bnd at h;omega
 have h2:¬n< -1099511627776:=by unfold bnd at h;omega
 refine yN 0 12 [.tmp 2] [0,2,8] Tryz.func193 fun X hX=>?_
 (repeat(refine yB ?_;(simp[go_sem,h1,h2])));(repeat(refine aA ?_ ?_;(focus(simp[go_sem,h1,h2];done));(repeat(refine yB ?_;(simp[go_sem,h1,h2])))))
 refine aB ?_;refine a8 [(2,ii n)] [] ?_
 simp[go_sem]
set_option maxRecDepth 20000 in
theorem HZ(n:Int)(h:¬bnd n):PanicX Tryz.prog 193 [] [ii n] (faultV 3) []:=by
 have h1:1099511627776<n∨n< -1099511627776:=by unfold bnd at h;omega
 refine kF 0 12 Tryz.func193 rfl rfl (by simp) (by decide) rfl fun X hX=>?_
 (repeat(refine a7 [0,2,8] hX mixed rfl ?_;simp[go_sem]))
 rcases h1 with h1|h1
 ·refine aD (by simp[go_sem,h1]) ?_
  (repeat(refine a7 [0,2,8] hX mixed rfl ?_;simp[go_sem]))
  (first|refine aX [] [] ?_|refine a8 [] [] ?_)
  simp[go_sem]
 ·have h2:¬1099511627776<n:=by omega
  refine aD (by simp[go_sem,h1,h2]) ?_
  (repeat(refine a7 [0,2,8] hX mixed rfl ?_;simp[go_sem]))
  (first|refine aX [] [] ?_|refine a8 [] [] ?_)
  simp[go_sem]
theorem lJ(n:Int):∃o,okO o∧OutX Tryz.prog 193 [] [ii n] (outV o) []:=by
 by_cases h:bnd n
 ·exact⟨.inr n,h,BF n h⟩
 ·exact⟨.inl 3,trivial,HZ n h⟩
theorem BG{a b:Int}:(a.tdiv b).natAbs=a.natAbs/b.natAbs:=Int.natAbs_tdiv a b
theorem ET{a b:Int}(hb:b≠0)(n:Nat)(ha:a.natAbs≤n):(a.tdiv b).natAbs≤n∧(a.tdiv b*b).natAbs≤n:=by
 have h1:=Nat.div_le_self a.natAbs b.natAbs
 have h2:=Nat.div_mul_le_self a.natAbs b.natAbs
 rw[Int.natAbs_mul,BG]
 omega
set_option maxRecDepth 20000 in
theorem wF(a b:Int)(ha:a.natAbs≤2000000000000000)(hb:b≠0)(hb2:b.natAbs≤2000000000000000):∃q:Int,q.natAbs≤2000000000000001∧Means true Tryz.prog 201 [ii a,ii b] (ii q):=by
 obtain⟨q1,q2⟩:=ET hb _ ha
 have w1:=w64 (x:=a.tdiv b) (by omega) (by omega)
 obtain⟨p,hp⟩:∃p,a.tdiv b*b=p:=⟨_,rfl⟩
 have w2:IntKind.i64.wrap (a.tdiv b*b)=p:=by rw[w64 (by omega) (by omega),hp]
 rw[hp]at q2
 have w3:=w64 (x:=a.tdiv b-1) (by omega) (by omega)
 by_cases h:p=a
 ·refine⟨a.tdiv b,by omega,?_⟩
  refine yM true 24 [.tmp 4] [0,1,4,5,20] Tryz.func201 fun X hX=>?_
  (repeat(refine yA ?_;(simp[go_sem,hb,w1,w2,h])));(repeat(refine aA ?_ ?_;(focus(simp[go_sem,hb,w1,w2,h];done));(repeat(refine yA ?_;(simp[go_sem,hb,w1,w2,h])))))
 ·by_cases h1:a<0
  ·by_cases h2:b<0
   ·refine⟨a.tdiv b,by omega,?_⟩
    refine yM true 24 [.tmp 4] [0,1,4,5,20] Tryz.func201 fun X hX=>?_
    (repeat(refine yA ?_;(simp[go_sem,hb,w1,w2,h,h1,h2])));(repeat(refine aA ?_ ?_;(focus(simp[go_sem,hb,w1,w2,h,h1,h2];done));(repeat(refine yA ?_;(simp[go_sem,hb,w1,w2,h,h1,h2])))))
   ·refine⟨a.tdiv b-1,by omega,?_⟩
    refine yM true 24 [.tmp 4] [0,1,4,5,20] Tryz.func201 fun X hX=>?_
    (repeat(refine yA ?_;(simp[go_sem,hb,w1,w2,w3,h,h1,h2])));(repeat(refine aD ?_ ?_;(focus(simp[go_sem,hb,w1,w2,w3,h,h1,h2];done));(repeat(refine yA ?_;(simp[go_sem,hb,w1,w2,w3,h,h1,h2])))))
  ·by_cases h2:b<0
   ·refine⟨a.tdiv b-1,by omega,?_⟩
    refine yM true 24 [.tmp 4] [0,1,4,5,20] Tryz.func201 fun X hX=>?_
    (repeat(refine yA ?_;(simp[go_sem,hb,w1,w2,w3,h,h1,h2])));(repeat(refine aD ?_ ?_;(focus(simp[go_sem,hb,w1,w2,w3,h,h1,h2];done));(repeat(refine yA ?_;(simp[go_sem,hb,w1,w2,w3,h,h1,h2])))))
   ·refine⟨a.tdiv b,by omega,?_⟩
    refine yM true 24 [.tmp 4] [0,1,4,5,20] Tryz.func201 fun X hX=>?_
    (repeat(refine yA ?_;(simp[go_sem,hb,w1,w2,h,h1,h2])));(repeat(refine aA ?_ ?_;(focus(simp[go_sem,hb,w1,w2,h,h1,h2];done));(repeat(refine yA ?_;(simp[go_sem,hb,w1,w2,h,h1,h2])))))
set_option maxRecDepth 20000 in
theorem fK(x:Bool):Means true Tryz.prog 195 [bb x] (ii (if x then 1 else 0)):=by
 cases x
 all_goals
  refine yM true 4 [.tmp 2] [0,2,3] Tryz.func195 fun X hX=>?_
  (repeat(refine yA ?_;(simp[go_sem])));(repeat(first|(refine aD ?_ ?_;(focus(simp[go_sem];done));(repeat(refine yA ?_;(simp[go_sem]))))|(refine aA ?_ ?_;(focus(simp[go_sem];done));(repeat(refine yA ?_;(simp[go_sem]))))))
theorem JS{a b:Int}{N:Nat}(hN:N≤1099511627777000)(h0:a≠0)(h1:¬(((N/a.natAbs:Nat):Int)<b))(h2:¬(b< -((N/a.natAbs:Nat):Int))):(a*b).natAbs≤1099511627777000:=by
 rw[Int.natAbs_mul]
 have hb:b.natAbs≤N/a.natAbs:=by omega
 have h3:a.natAbs*b.natAbs≤a.natAbs*(N/a.natAbs):=Nat.mul_le_mul_left _ hb
 have h4:=Nat.mul_div_le N a.natAbs
 omega
set_option maxRecDepth 20000 in
theorem o6(a b y:Int)(hy:y=1∨y=1000)(hab:(a*b).natAbs≤1099511627777000)(hok:a=0∨(a≠0∧(a.natAbs≤1099511627776)∧¬(((1099511627777*y.toNat/a.natAbs:Nat):Int)<b)∧¬(b< -((1099511627777*y.toNat/a.natAbs:Nat):Int)))):
  ∃o,okO o∧OutX Tryz.prog 200 [] [ii a,ii b,ii y] (outV o) []:=by
 obtain⟨q,hq,c1⟩:=wF (a*b) y (by omega) (by omega) (by omega)
 obtain⟨o,ho,c2⟩:=lJ q
 refine⟨o,ho,?_⟩
 have w1:=w64 (x:=a*b) (by omega) (by omega)
 have w0:=w64 (x:=1099511627777*y) (by omega) (by omega)
 rcases hok with rfl|⟨h0,h3,h1,h2⟩
 ·rw[Int.zero_mul]at c1 w1
  have w1:IntKind.i64.wrap 0=0:=by decide
  cases o with
  |inl e=>
   refine aP 0 41 [.tmp 6] Tryz.func200 rfl rfl rfl (by simp) (by decide) rfl fun X hX=>?_
   (repeat(refine a7 q7x1 hX mixed rfl ?_;simp[go_sem,w0,w1]));(repeat(refine aA ?_ ?_;(focus(simp[go_sem,w0,w1];done));(repeat(refine a7 q7x1 hX mixed rfl ?_;simp[go_sem,w0,w1]))))
   refine aC c1 ?_
   simp[go_sem]
   refine aQ [] (c2) (by simp[go_sem]) ?_
   (first|refine aX [] [] ?_|refine a8 [] [] ?_)
   simp[go_sem]
  |inr v=>
   refine aP 0 41 [.tmp 6] Tryz.func200 rfl rfl rfl (by simp) (by decide) rfl fun X hX=>?_
   (repeat(refine a7 q7x1 hX mixed rfl ?_;simp[go_sem,w0,w1]));(repeat(refine aA ?_ ?_;(focus(simp[go_sem,w0,w1];done));(repeat(refine a7 q7x1 hX mixed rfl ?_;simp[go_sem,w0,w1]))))
   refine aC c1 ?_
   simp[go_sem]
   refine yH [] c2 ?_
   simp[go_sem]
   refine aB ?_;refine a8 [(6,ii v)] [] ?_
   simp[go_sem]
 ·have hm:max a (-a)=(a.natAbs:Int):=by omega
  have e1:Int.tdiv (1099511627777*y) (a.natAbs:Int)=((1099511627777*y.toNat/a.natAbs:Nat):Int):=by
   have:1099511627777*y=((1099511627777*y.toNat:Nat):Int):=by omega
   rw[this,←Int.ofNat_tdiv]
  have e2:Int.tdiv (-(1099511627777*y)) (a.natAbs:Int)= -((1099511627777*y.toNat/a.natAbs:Nat):Int):=by rw[Int.neg_tdiv,e1]
  have hle:1099511627777*y.toNat/a.natAbs≤1099511627777*y.toNat:=Nat.div_le_self _ _
  have hyt:y.toNat≤1000:=by omega
  have n0:¬(a.natAbs:Int)=0:=by omega
  generalize 1099511627777*y.toNat/a.natAbs=q2 at*
  have w4:=w64 (x:= -a) (by omega) (by omega)
  have w5:=w64 (x:=(q2:Int)) (by omega) (by omega)
  have w6:=w64 (x:= -(q2:Int)) (by omega) (by omega)
  have w7:=w64 (x:= -(1099511627777*y)) (by omega) (by omega)
  cases o with
  |inl e=>
   refine aP 0 41 [.tmp 6] Tryz.func200 rfl rfl rfl (by simp) (by decide) rfl fun X hX=>?_
   (repeat(refine a7 q7x1 hX mixed rfl ?_;simp[go_sem,w0,w1,w4,w5,w6,w7,h0,hm,n0,e1,e2,h1,h2]));(repeat(refine aA ?_ ?_;(focus(simp[go_sem,w0,w1,w4,w5,w6,w7,h0,hm,n0,e1,e2,h1,h2];done));(repeat(refine a7 q7x1 hX mixed rfl ?_;simp[go_sem,w0,w1,w4,w5,w6,w7,h0,hm,n0,e1,e2,h1,h2]))))
   refine aC c1 ?_
   simp[go_sem]
   refine aQ [] (c2) (by simp[go_sem]) ?_
   (first|refine aX [] [] ?_|refine a8 [] [] ?_)
   simp[go_sem]
  |inr v=>
   refine aP 0 41 [.tmp 6] Tryz.func200 rfl rfl rfl (by simp) (by decide) rfl fun X hX=>?_
   (repeat(refine a7 q7x1 hX mixed rfl ?_;simp[go_sem,w0,w1,w4,w5,w6,w7,h0,hm,n0,e1,e2,h1,h2]));(repeat(refine aA ?_ ?_;(focus(simp[go_sem,w0,w1,w4,w5,w6,w7,h0,hm,n0,e1,e2,h1,h2];done));(repeat(refine a7 q7x1 hX mixed rfl ?_;simp[go_sem,w0,w1,w4,w5,w6,w7,h0,hm,n0,e1,e2,h1,h2]))))
   refine aC c1 ?_
   simp[go_sem]
   refine yH [] c2 ?_
   simp[go_sem]
   refine aB ?_;refine a8 [(6,ii v)] [] ?_
   simp[go_sem]
set_option maxRecDepth 20000 in
theorem lZ(a b y:Int)(hy:y=1∨y=1000)(h0:a≠0)(ha:a.natAbs≤1099511627776)(hb:((1099511627777*y.toNat/a.natAbs:Nat):Int)<b∨b< -((1099511627777*y.toNat/a.natAbs:Nat):Int)):
  PanicX Tryz.prog 200 [] [ii a,ii b,ii y] (faultV 3) []:=by
 have w0:=w64 (x:=1099511627777*y) (by omega) (by omega)
 have hm:max a (-a)=(a.natAbs:Int):=by omega
 have e1:Int.tdiv (1099511627777*y) (a.natAbs:Int)=((1099511627777*y.toNat/a.natAbs:Nat):Int):=by
  have:1099511627777*y=((1099511627777*y.toNat:Nat):Int):=by omega
  rw[this,←Int.ofNat_tdiv]
 have e2:Int.tdiv (-(1099511627777*y)) (a.natAbs:Int)= -((1099511627777*y.toNat/a.natAbs:Nat):Int):=by rw[Int.neg_tdiv,e1]
 have hle:1099511627777*y.toNat/a.natAbs≤1099511627777*y.toNat:=Nat.div_le_self _ _
 have hyt:y.toNat≤1000:=by omega
 have n0:¬(a.natAbs:Int)=0:=by omega
 generalize 1099511627777*y.toNat/a.natAbs=q2 at*
 have w4:=w64 (x:= -a) (by omega) (by omega)
 have w5:=w64 (x:=(q2:Int)) (by omega) (by omega)
 have w6:=w64 (x:= -(q2:Int)) (by omega) (by omega)
 have w7:=w64 (x:= -(1099511627777*y)) (by omega) (by omega)
 by_cases h1:(q2:Int)<b
 ·refine kF 0 41 Tryz.func200 rfl rfl (by simp) (by decide) rfl fun X hX=>?_
  (repeat(refine a7 q7x1 hX mixed rfl ?_;simp[go_sem,w0,w4,w5,w6,w7,h0,hm,n0,e1,e2,h1]));(repeat(refine aD ?_ ?_;(focus(simp[go_sem,w0,w4,w5,w6,w7,h0,hm,n0,e1,e2,h1];done));(repeat(refine a7 q7x1 hX mixed rfl ?_;simp[go_sem,w0,w4,w5,w6,w7,h0,hm,n0,e1,e2,h1]))))
  (first|refine aX [] [] ?_|refine a8 [] [] ?_)
  simp[go_sem]
 ·have h2:b< -(q2:Int):=by omega
  refine kF 0 41 Tryz.func200 rfl rfl (by simp) (by decide) rfl fun X hX=>?_
  (repeat(refine a7 q7x1 hX mixed rfl ?_;simp[go_sem,w0,w4,w5,w6,w7,h0,hm,n0,e1,e2,h1,h2]));(repeat(refine aD ?_ ?_;(focus(simp[go_sem,w0,w4,w5,w6,w7,h0,hm,n0,e1,e2,h1,h2];done));(repeat(refine a7 q7x1 hX mixed rfl ?_;simp[go_sem,w0,w4,w5,w6,w7,h0,hm,n0,e1,e2,h1,h2]))))
  (first|refine aX [] [] ?_|refine a8 [] [] ?_)
  simp[go_sem]
theorem yV(a b y:Int)(hy:y=1∨y=1000)(ha:bnd a):∃o,okO o∧OutX Tryz.prog 200 [] [ii a,ii b,ii y] (outV o) []:=by
 unfold bnd at ha
 by_cases h0:a=0
 ·exact o6 a b y hy (by simp[h0]) (.inl h0)
 ·by_cases h1:((1099511627777*y.toNat/a.natAbs:Nat):Int)<b
  ·exact⟨.inl 3,trivial,lZ a b y hy h0 (by omega) (.inl h1)⟩
  ·by_cases h2:b< -((1099511627777*y.toNat/a.natAbs:Nat):Int)
   ·exact⟨.inl 3,trivial,lZ a b y hy h0 (by omega) (.inr h2)⟩
   ·exact o6 a b y hy (JS (by omega) h0 h1 h2) (.inr ⟨h0,by omega,h1,h2⟩)
end Go.Proofs.YtdcidannegcaoaaGreatDoor

namespace Go.Proofs.YtdcidannegcaoaaGreatDoor
open Go.RowKit Go.Ab
attribute [local irreducible] AWP Go.Ab.Sub Means MeansH CallK CallG CallT CallGT PanicH PanicX DefH CallU
abbrev rsv(r:Int×Int×Bool):AV:=.agg [ii r.1,ii r.2.1,bb r.2.2]
abbrev mL(L:List (By×E)):Ob:=⟨251,3,[.agg [.sl (L.map lt),.ow 1,.ow 2]]⟩
abbrev rL(R:List (Int×Int×Bool)):Ob:=⟨275,3,R.map rsv⟩
abbrev MG(L:List (By×E))(R:List (Int×Int×Bool))(G:List (By×Int)):List Cell:=[.row (mL L),.row (rL R),.map (gR G)]
def OkR(L:List (By×E))(R:List (Int×Int×Bool)):Prop:=R.length=L.length∧∀r∈R,r.2.2=true→r.2.1=0→bnd r.1
theorem OkR.set{L:List (By×E)}{R:List (Int×Int×Bool)}(h:OkR L R){i:Nat}{v e:Int}(hv:e=0→bnd v):OkR L (R.set i (v,e,true)):=by
 refine⟨by simpa using h.1,fun r hr h1 h2=>?_⟩
 rcases List.mem_or_eq_of_mem_set hr with hr|rfl
 ·exact h.2 r hr h1 h2
 ·exact hv h2
@[go_sem] theorem wG{R:List (Int×Int×Bool)}{k:Nat}(h:k<R.length):nth (R.map rsv) k=rsv R[k]:=bF rsv h
theorem yW{G:List (By×Int)}(hG:∀x∈G,bnd x.2){s:By}{v:Int}(h:G.lookup s=some v):bnd v:=by
 induction G with
 |nil=>cases h
 |cons p G ih=>
  obtain⟨a,b⟩:=p
  simp only[List.lookup_cons]at h
  split at h
  ·simp only[Option.some.injEq]at h;subst h;exact hG (a,b) (by simp)
  ·exact ih (fun x hx=>hG x (by simp[hx])) h
theorem pW{l:List AV}{k:Nat}{x:AV}(h:k<l.length):nth (l.set k x) k=x:=by simp[nth,h]
set_option maxHeartbeats 4000000 in
set_option maxRecDepth 20000 in
theorem wH(L:List (By×E))(G:List (By×Int))(R:List (Int×Int×Bool))(n:Nat)(s:By)(hL:OkL L)(hn:n≤L.length)(hR:OkR L R)(hG:∀x∈G,bnd x.2)
  (ht:∀i (h:i<L.length),i<n→∀R,OkR L R→∃R' v e,OkR L R'∧(e=0→bnd v)∧MeansH Tryz.prog 172 (MG L R G) [.el 0 3 0 0,ex L[i].2,ii i] (.tup [ii v,ii e]) (MG L R' G)):
  ∃R' o,OkR L R'∧okO o∧OutX Tryz.prog 194 (MG L R G) [.el 0 3 0 0,ss s,ii n] (outV o) (MG L R' G):=by
 have hlen:=hL.len
 cases hg:G.lookup s with
 |some v=>
  refine⟨R,.inr v,hR,yW hG hg,?_⟩
  have h1:(G.lookup s).isSome=true:=by rw[hg];rfl
  have h2:(G.lookup s).getD 0=v:=by rw[hg];rfl
  refine aP 3 89 [.tmp 6] Tryz.func194 rfl rfl rfl (by simp) (by decide) rfl fun X hX=>?_
  (repeat(refine a7 q7x0 hX mixed rfl ?_;simp[go_sem,h1,h2]));(repeat(refine aD ?_ ?_;(focus(simp[go_sem,h1,h2];done));(repeat(refine a7 q7x0 hX mixed rfl ?_;simp[go_sem,h1,h2]))))
  refine aB ?_;simp only[thenQ,blkQ,loopQ];refine a8 [(6,ii v),(1000000,.ow 0),(1000001,.ow 1),(1000002,.ow 2)] [.old 0 (mL L),.old 1 (rL R),.oldM 2 (gR G)] ?_
  simp[go_sem]
 |none=>
  have h1:(G.lookup s).isSome=false:=by rw[hg];rfl
  have wn:=w64 (x:=(n:Int)-1) (by omega) (by omega)
  by_cases hx:∃i,∃h:i<L.length,i<n∧L[i].1=s
  ·obtain⟨i,hi,hin,his⟩:=hx
   have hne:∀j (h:j<L.length),i<j→¬L[j].1=s:=fun j h hij e=>hL.two i j hi h hij (his.trans e.symm)
   have hiR:i<R.length:=by rw[hR.1];exact hi
   obtain⟨R',v,e,hR',hv,hD⟩:∃R' v e,OkR L R'∧(e=0→bnd v)∧((R[i]=(v,e,true)∧R'=R)∨(∃a b Rt,R[i]=(a,b,false)∧OkR L Rt∧R'=Rt.set i (v,e,true)∧MeansH Tryz.prog 172 (MG L R G) [.el 0 3 0 0,ex L[i].2,ii i] (.tup [ii v,ii e]) (MG L Rt G))):=by
    obtain⟨a,b,c,hr⟩:∃a b c,R[i]=(a,b,c):=⟨_,_,_,rfl⟩
    cases c with
    |true=>
     refine⟨R,a,b,hR,fun h=>?_,.inl ⟨hr,rfl⟩⟩
     have:=hR.2 _ (List.getElem_mem hiR)
     rw[hr]at this
     exact this rfl h
    |false=>
     obtain⟨Rt,v,e,k1,k2,k3⟩:=ht i hi hin R hR
     exact⟨Rt.set i (v,e,true),v,e,k1.set k2,k2,.inr ⟨a,b,Rt,hr,k1,rfl,k3⟩⟩
   have hok:okO (if e=0 then .inr v else .inl e):=by
    split
    ·exact hv (by assumption)
    ·trivial
   obtain⟨o,ho⟩:∃o:Int ⊕ Int,o=if e=0 then .inr v else .inl e:=⟨_,rfl⟩
   rw[←ho]at hok
   refine⟨R',o,hR',hok,?_⟩
   have hiR':i<R'.length:=by rw[hR'.1];exact hi
   have hlt:=dF hi
   have hq:=wG hiR
   refine aP 3 89 [.tmp 6] Tryz.func194 rfl rfl rfl (by simp) (by decide) rfl fun X hX=>?_
   (repeat(refine a7 q7x0 hX mixed rfl ?_;simp[go_sem,h1,wn]));(repeat(refine aA ?_ ?_;(focus(simp[go_sem,h1,wn];done));(repeat(refine a7 q7x0 hX mixed rfl ?_;simp[go_sem,h1,wn]))))
   refine aE (fun m:Nat=>⟨mkE [(0,.el 0 3 0 0),(1,ss s),(9,ii ((m:Int)-1)),(1000000,.ow 0),(1000001,.ow 1),(1000002,.ow 2)],MG L R G⟩) (fun m=>i<m∧m≤n) (fun m=>m) n ?_ ?_ ?_
   ·refine yS _ [.old 0 (mL L),.old 1 (rL R),.oldM 2 (gR G)] ?_
    simp[go_sem]
   ·exact⟨hin,Nat.le_refl _⟩
   ·rintro m ⟨m1,m2⟩
    obtain⟨k,rfl⟩:∃k,m=k+1:=⟨m-1,by omega⟩
    have e0:((k+1:Nat):Int)-1=k:=by omega
    have wk:=w64 (x:=(k:Int)-1) (by omega) (by omega)
    have hkL:k<L.length:=by omega
    have hql:=dF hkL
    rw[e0]
    (repeat(refine a7 q7x0 hX mixed rfl ?_;simp[go_sem]))
    refine aD (by simp[go_sem]) ?_
    (repeat(refine a7 q7x0 hX mixed rfl ?_;simp[go_sem,hkL,hql]))
    by_cases hki:k=i
    ·subst hki
     refine aA (by simp[go_sem,his]) ?_
     rcases hD with⟨d1,rfl⟩|⟨a,b,Rt,d1,d2,rfl,d3⟩
     ·rw[d1]at hq
      (repeat(refine a7 q7x0 hX mixed rfl ?_;simp[go_sem,hiR,hq]))
      refine aA (by simp[go_sem,hq]) ?_
      (repeat(refine a7 q7x0 hX mixed rfl ?_;simp[go_sem,hiR,hq]))
      by_cases he:e=0
      ·rw[if_pos he]at ho
       subst ho
       refine aA (by simp[go_sem,he]) ?_
       (repeat(refine a7 q7x0 hX mixed rfl ?_;simp[go_sem,hiR,hq]))
       refine aB ?_;simp only[thenQ,blkQ,loopQ];refine a8 [(6,ii v),(1000000,.ow 0),(1000001,.ow 1),(1000002,.ow 2)] [.old 0 (mL L),.old 1 (rL R'),.oldM 2 (gR G)] ?_
       simp[go_sem]
      ·rw[if_neg he]at ho
       subst ho
       refine aD (by simp[go_sem,he]) ?_
       (repeat(refine a7 q7x0 hX mixed rfl ?_;simp[go_sem,hiR,hq]))
       (first|refine aX [(1000000,.ow 0),(1000001,.ow 1),(1000002,.ow 2)] [.old 0 (mL L),.old 1 (rL R'),.oldM 2 (gR G)] ?_|refine a8 [(1000000,.ow 0),(1000001,.ow 1),(1000002,.ow 2)] [.old 0 (mL L),.old 1 (rL R'),.oldM 2 (gR G)] ?_)
       simp[go_sem]
     ·rw[d1]at hq
      (repeat(refine a7 q7x0 hX mixed rfl ?_;simp[go_sem,hiR,hq]))
      refine aD (by simp[go_sem,hq]) ?_
      (repeat(refine a7 q7x0 hX mixed rfl ?_;simp[go_sem,hiR,hq,hkL,hql]))
      have hk2:k<Rt.length:=by rw[d2.1];exact hkL
      have hq2:=wG hk2
      have hs:∀x,nth ((List.map rsv Rt).set k x) k=x:=fun x=>pW (by simpa using hk2)
      have hm:List.map rsv (Rt.set k (v,e,true))=(List.map rsv Rt).set k (.agg [ii v,ii e,bb true]):=by rw[List.map_set]
      have hMG:MG L (Rt.set k (v,e,true)) G=[.row (mL L),.row ⟨275,3,(Rt.map rsv).set k (.agg [ii v,ii e,bb true])⟩,.map (gR G)]:=by unfold MG rL;rw[hm]
      rw[hMG]
      refine yH [0,1,2] d3 ?_
      try((simp[go_sem,hk2,hq2,hs]))
      (repeat(refine a7 q7x0 hX mixed rfl ?_;simp[go_sem,hk2,hs]))
      by_cases he:e=0
      ·rw[if_pos he]at ho
       subst ho
       refine aA (by simp[go_sem,he]) ?_
       (repeat(refine a7 q7x0 hX mixed rfl ?_;simp[go_sem,hk2,hs]))
       refine aB ?_;simp only[thenQ,blkQ,loopQ];refine a8 [(6,ii v),(1000000,.ow 0),(1000001,.ow 1),(1000002,.ow 2)] [.old 0 (mL L),.old 1 ⟨275,3,(Rt.map rsv).set k (.agg [ii v,ii e,bb true])⟩,.oldM 2 (gR G)] ?_
       simp[go_sem]
      ·rw[if_neg he]at ho
       subst ho
       refine aD (by simp[go_sem,he]) ?_
       (repeat(refine a7 q7x0 hX mixed rfl ?_;simp[go_sem,hk2,hs]))
       (first|refine aX [(1000000,.ow 0),(1000001,.ow 1),(1000002,.ow 2)] [.old 0 (mL L),.old 1 ⟨275,3,(Rt.map rsv).set k (.agg [ii v,ii e,bb true])⟩,.oldM 2 (gR G)] ?_|refine a8 [(1000000,.ow 0),(1000001,.ow 1),(1000002,.ow 2)] [.old 0 (mL L),.old 1 ⟨275,3,(Rt.map rsv).set k (.agg [ii v,ii e,bb true])⟩,.oldM 2 (gR G)] ?_)
       simp[go_sem]
    ·have hn2:=hne k hkL (by omega)
     refine aD (by simp[go_sem,hn2]) ?_
     (repeat(refine a7 q7x0 hX mixed rfl ?_;simp[go_sem,wk]))
     refine⟨k,by omega,by omega,?_⟩
     refine yS _ [.old 0 (mL L),.old 1 (rL R),.oldM 2 (gR G)] ?_
     simp[go_sem]
  ·have hne:∀j (h:j<L.length),j<n→¬L[j].1=s:=fun j h hj e=>hx ⟨j,h,hj,e⟩
   refine⟨R,.inl 13,hR,trivial,?_⟩
   refine aP 3 89 [.tmp 6] Tryz.func194 rfl rfl rfl (by simp) (by decide) rfl fun X hX=>?_
   (repeat(refine a7 q7x0 hX mixed rfl ?_;simp[go_sem,h1,wn]));(repeat(refine aA ?_ ?_;(focus(simp[go_sem,h1,wn];done));(repeat(refine a7 q7x0 hX mixed rfl ?_;simp[go_sem,h1,wn]))))
   refine aE (fun m:Nat=>⟨mkE [(0,.el 0 3 0 0),(1,ss s),(9,ii ((m:Int)-1)),(1000000,.ow 0),(1000001,.ow 1),(1000002,.ow 2)],MG L R G⟩) (fun m=>m≤n) (fun m=>m) n ?_ ?_ ?_
   ·refine yS _ [.old 0 (mL L),.old 1 (rL R),.oldM 2 (gR G)] ?_
    simp[go_sem]
   ·exact Nat.le_refl _
   ·rintro m m2
    cases m with
    |zero=>
     (repeat(refine a7 q7x0 hX mixed rfl ?_;simp[go_sem]))
     refine aA (by simp[go_sem]) ?_
     (repeat(refine a7 q7x0 hX mixed rfl ?_;simp[go_sem]))
     (first|refine aX [(1000000,.ow 0),(1000001,.ow 1),(1000002,.ow 2)] [.old 0 (mL L),.old 1 (rL R),.oldM 2 (gR G)] ?_|refine a8 [(1000000,.ow 0),(1000001,.ow 1),(1000002,.ow 2)] [.old 0 (mL L),.old 1 (rL R),.oldM 2 (gR G)] ?_)
     simp[go_sem]
    |succ k=>
     have e0:((k+1:Nat):Int)-1=k:=by omega
     have wk:=w64 (x:=(k:Int)-1) (by omega) (by omega)
     have hkL:k<L.length:=by omega
     have hql:=dF hkL
     have hn2:=hne k hkL (by omega)
     rw[e0]
     (repeat(refine a7 q7x0 hX mixed rfl ?_;simp[go_sem]))
     refine aD (by simp[go_sem]) ?_
     (repeat(refine a7 q7x0 hX mixed rfl ?_;simp[go_sem,hkL,hql]))
     refine aD (by simp[go_sem,hn2]) ?_
     (repeat(refine a7 q7x0 hX mixed rfl ?_;simp[go_sem,wk]))
     refine⟨k,by omega,by omega,?_⟩
     refine yS _ [.old 0 (mL L),.old 1 (rL R),.oldM 2 (gR G)] ?_
     simp[go_sem]
end Go.Proofs.YtdcidannegcaoaaGreatDoor

