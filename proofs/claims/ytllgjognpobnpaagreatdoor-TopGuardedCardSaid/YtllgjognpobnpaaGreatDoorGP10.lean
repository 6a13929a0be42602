/-
  Lemmas for the statement at the top.
-/
import Derived.Test.YtllgjognpobnpaaGreatDoorGP6
import Derived.Test.YtllgjognpobnpaaGreatDoorGP9
set_option linter.all false
namespace Go.Proofs.YtllgjognpobnpaaGreatDoor
open Go.RowKit Go.Ab
attribute [local irreducible] AWP Go.Ab.Sub Means MeansH CallK CallG CallT CallGT PanicH DefH
theorem EL(a b n:Int):MeansH Tryz.prog 125 [.row ⟨3,1,[ii a]⟩,.row ⟨3,1,[ii b]⟩] [ii n,.el 0 1 0 0,.el 1 1 0 0] (bb (decide (n<a)||decide (b<n))) [.row ⟨3,1,[ii a]⟩,.row ⟨3,1,[ii b]⟩]:=by
 refine yN 2 13 [.tmp 4] [0,1,2,4,1000000,1000001] Tryz.func125 fun X hX=>?_
 (repeat(refine yB ?_;(simp[go_sem])))
 refine aB ?_;refine aA [(4,bb (decide (n<a)||decide (b<n))),(1000000,.ow 0),(1000001,.ow 1)] [.old 0 ⟨3,1,[ii a]⟩,.old 1 ⟨3,1,[ii b]⟩] ?_
 simp[go_sem]
theorem BA(a b:Int)(l:List Int)(hl:l.length≤100)(h:∀n∈l,a≤n∧n≤b):Means true Tryz.prog 78 [ii a,ii b,il l] (bb true):=by
 have c1:=EM 125 3 1 (ii a) 3 1 (ii b) (fun n=>decide (n<a)||decide (b<n)) l (by omega) rfl rfl (fun n _=>EL a b n) (by simp[go_sem])
 have e:(l.any fun n=>decide (n<a)||decide (b<n))=false:=by
  rw[List.any_eq_false]
  intro n hn
  have:=h n hn
  simp;omega
 rw[e]at c1
 refine yM true 11 [.tmp 6] [0,1,2,3,4,6] Tryz.func78 fun X hX=>?_
 (repeat(refine yA ?_;(simp[go_sem])))
 refine yH [0,1] c1 ?_
 simp[go_sem]
 (repeat(refine yA ?_;(simp[go_sem])))
theorem HG(l x:By×E):MeansH Tryz.prog 80 [.row ⟨119,6,[lt l]⟩] [lt x,.el 0 6 0 0] (bb (decide (x.1=l.1))) [.row ⟨119,6,[lt l]⟩]:=by
 refine yN 1 9 [.tmp 3] [0,1,2,3,1000000] Tryz.func80 fun X hX=>?_
 (repeat(refine yB ?_;(simp[go_sem])))
 refine aB ?_;refine aA [(3,bb (decide (x.1=l.1))),(1000000,.ow 0)] [.old 0 ⟨119,6,[lt l]⟩] ?_
 simp[go_sem]
set_option maxHeartbeats 8000000 in
set_option maxRecDepth 20000 in
theorem eK(b:Bl)(h:OkB b):Means true Tryz.prog 38 [bl b] (bb true):=by
 have d1:=BA 0 2 [b.kind] (by simp) (by simpa using h.kind)
 have d2:=BA 0 2 [b.order] (by simp) (by simpa using h.order)
 have d3:=BA 1 1000 [b.period,b.last] (by simp) (by simp;exact⟨h.period,h.last⟩)
 have d4:=BA 0 1000 [b.grace,b.wait,b.voices,b.fund] (by simp) (by simp;exact⟨h.grace,h.wait,h.voices,h.fund⟩)
 have d5:=BA 0 60 [b.backs,b.jury] (by simp) (by simp;exact⟨h.backs,h.jury⟩)
 have f1:=bS b.due h.due
 have f2:=bS b.fine h.fine
 have f3:=bS b.pay h.pay
 have f4:=bS b.cover h.cover
 have f5:=bS b.hold h.hold
 have hlen:=h.lets.len
 refine yM true 111 [.tmp 2] [0,1,2,3,4,5,60,62,63,64,65,86] Tryz.func38 fun X hX=>?_
 (repeat(refine yA ?_;(simp[go_sem])))
 refine aD d1 ?_
 simp[go_sem]
 refine aI (fun hg=>d2) ?_
 simp[go_sem]
 refine aI (fun hg=>d3) ?_
 simp[go_sem]
 refine aI (fun hg=>d4) ?_
 simp[go_sem]
 refine aI (fun hg=>d5) ?_
 simp[go_sem]
 (repeat(refine yA ?_;(simp[go_sem])))
 refine⟨fun _=>by cases hs:b.sld with|false=>exact .inl rfl|true=>exact .inr (h.sld hs),?_⟩
 refine f9 (b:=false) (by
  simp[go_sem]
  exact⟨fun hs=>h.sld hs,by omega⟩) (fun hb=>by cases hb) (fun hb=>?_)
 (repeat(refine yA ?_;(simp[go_sem])))
 refine aG (fun n:Nat=>⟨mkE [(1,.el 0 37 0 0),(62,.sl (b.lets.map lt)),(63,ii b.lets.length),(64,ii n)],[.row ⟨32,37,[bl b]⟩]⟩) (fun n=>n≤b.lets.length) (fun n=>b.lets.length-n) 0 ?_ ?_ ?_
 ·refine yS _ [.old 0 ⟨32,37,[bl b]⟩] ?_
  simp[go_sem]
 ·exact Nat.zero_le _
 ·intro n hn
  (repeat(refine yA ?_;(simp[go_sem])))
  refine yC (decide (n<b.lets.length)) (fun hc=>?_) fun hc=>?_
  ·simp at hc
   have hq:=dA hc
   have wk:=w64 (x:=(n:Int)+1) (by omega) (by omega)
   have hm:b.lets[n]∈b.lets:=List.getElem_mem hc
   have hnm:=h.lets.nam _ hm
   have g1:=pZ b.lets[n].1 (by have:=mB hnm;omega)
   rw[hnm]at g1
   have g2:=bS b.lets[n].2 (h.lets.exp _ hm)
   have g3:=EN 80 119 6 (lt b.lets[n]) (fun x=>decide (x.1=b.lets[n].1)) (b.lets.take n) (by rw[List.length_take];omega) rfl (fun x _=>HG b.lets[n] x) (by simp[go_sem])
   have hany:((b.lets.take n).any fun x=>decide (x.1=b.lets[n].1))=false:=by
    rw[List.any_eq_false]
    intro x hx
    obtain⟨k,hk,rfl⟩:=List.getElem_of_mem hx
    rw[List.length_take]at hk
    rw[List.getElem_take]
    simpa using h.lets.two k n (by omega) hc (by omega)
   rw[hany,List.map_take]at g3
   generalize b.lets[n]=x at hq g1 g2 g3 hnm
   have hc2:n≤b.lets.length:=by omega
   (repeat(refine yA ?_;(simp[go_sem,hc,hq])))
   refine aD g1 ?_
   simp[go_sem]
   refine aI (fun hg=>g2) ?_
   simp[go_sem,hc2]
   refine⟨fun e x y _ he=>by subst he;rfl,?_⟩
   refine aW [1] (fun hg=>g3) (by simp[go_sem]) (by simp[go_sem]) ?_
   simp[go_sem]
   refine yF ?_
   (repeat(refine yA ?_;(simp[go_sem,wk])))
   refine⟨n+1,by omega,by omega,?_⟩
   refine yS _ [.old 0 ⟨32,37,[bl b]⟩] ?_
   simp[go_sem]
  ·simp at hc
   (repeat(refine yA ?_;(simp[go_sem])))
   refine aD f1 ?_
   simp[go_sem]
   refine aI (fun hg=>f2) ?_
   simp[go_sem]
   refine aI (fun hg=>f3) ?_
   simp[go_sem]
   refine aI (fun hg=>f4) ?_
   simp[go_sem]
   refine aI (fun hg=>f5) ?_
   simp[go_sem]
   (repeat(refine yA ?_;(simp[go_sem])))
end Go.Proofs.YtllgjognpobnpaaGreatDoor

namespace Go.Proofs.YtllgjognpobnpaaGreatDoor
structure Mn where
 u:Int:=0
 e:Int:=0
 sh:Bool:=false
 deriving DecidableEq
def only(l:List Int)(u:Int):Bool:= !l.any fun x=> !decide (x=u)
def prodU(a b:Int):Int×Bool:=
 if a=0∨b=0 then(0,false)else if a=4 then(b,true)else if b=4 then(a,true)else if a=1 then(b,true)else if b=1 then(a,true)else(0,false)
def combU(op:Int)(l:List Int):Int×Bool:=
 if op=2∨op=3∨op=6∨op=7 then(l.getD 0 0,only l (l.getD 0 0)&& !decide (l.getD 0 0=0))
 else if op=4 then prodU (l.getD 0 0) (l.getD 1 0)
 else if op=5 then(if l.getD 1 0=1 then(l.getD 0 0,!decide (l.getD 0 0=0)&& !decide (l.getD 0 0=4))else(1,only l (l.getD 0 0)&&(decide (l.getD 0 0=3)||decide (l.getD 0 0=2))))
 else if op=8 then(0,only l (l.getD 0 0)&& !decide (l.getD 0 0=0))
 else if op=9 then(0,only l (l.getD 0 0))
 else if op=13 then(l.getD 1 0,decide (l.getD 0 0=0)&&decide (l.getD 1 0=l.getD 2 0))
 else(0,only l 0)
def finU(op:Int)(l:List Int):Int×Int:=if(combU op l).2 then((combU op l).1,0)else(0,14)
def nameU(g:List (By×Int))(d:List (By×Mn))(s:By):Int×Int:=match g.lookup s with
 |some u=>(u,0)
 |none=>match d.lookup s with
  |some m=>(m.u,m.e)
  |none=>(0,13)
def unitU(g:List (By×Int))(d:List (By×Mn)):E→Int×Int
 | .num _ u=>(u,0)
 | .nam s=>nameU g d s
 | .un a=>if(unitU g d a).2=0 then finU 12 [(unitU g d a).1]else(0,(unitU g d a).2)
 | .bin o a b=>if(unitU g d a).2=0 then(if(unitU g d b).2=0 then finU o [(unitU g d a).1,(unitU g d b).1]else(0,(unitU g d b).2))else(0,(unitU g d a).2)
 | .ite a b c=>if(unitU g d a).2=0 then(if(unitU g d b).2=0 then(if(unitU g d c).2=0 then finU 13 [(unitU g d a).1,(unitU g d b).1,(unitU g d c).1]else(0,(unitU g d c).2))else(0,(unitU g d b).2))else(0,(unitU g d a).2)
def nameS(d:List (By×Mn))(s:By):Bool:=match d.lookup s with
 |some m=>m.sh
 |none=>false
def shareU(d:List (By×Mn)):E→Bool
 | .num _ u=>decide (u=4)
 | .nam s=>nameS d s
 | .un _=>false
 | .bin o a b=>if o=2∨o=3∨o=6∨o=7 then shareU d a else if o=4 then shareU d a&&shareU d b else false
 | .ite _ b _=>shareU d b
def givU:List (By×Int)→List (By×Int)→List (By×Int)
 |g,[]=>g
 |g,v::l=>givU (match g.lookup v.1 with
  |some _=>g
  |none=>g++[v]) l
def letsU(g:List (By×Int)):List (By×Mn)→List (By×E)→List (By×Mn)
 |d,[]=>d
 |d,x::l=>letsU g (d++[(x.1,⟨(unitU g d x.2).1,(unitU g d x.2).2,shareU d x.2⟩)]) l
def unitOf(g:List (By×Int))(l:List (By×E))(e:E):Int×Int:=unitU (givU [] g) (letsU (givU [] g) [] l) e
def shareOf(l:List (By×E))(e:E):Bool:=shareU (letsU [] [] l) e
def vMem:By×Int:=([109,101,109,98,101,114,115],1)
def vPer:By×Int:=([112,101,114,105,111,100],1)
def vLas:By×Int:=([108,97,115,116],1)
def vAge:By×Int:=([97,103,101],2)
def gDue:List (By×Int):=[vMem,vPer,vLas,vAge]
def gFine:List (By×Int):=([108,97,116,101],2)::gDue
def gPay:List (By×Int):=[([112,111,116],3),([98,105,100],3),vMem,vPer]
def gCov:List (By×Int):=[([112,97,105,100],3),([99,108,97,105,109,115],1),vAge,vMem]
def gHold:List (By×Int):=[vMem,([104,111,108,100,115],3)]
def gAll:List (By×List (By×Int)):=[([100,117,101],gDue),([102,105,110,101],gFine),([112,97,121],gPay),([99,111,118,101,114],gCov),([104,111,108,100],gHold)]
def inG(s:By):Bool:=gAll.any fun p=>p.2.any fun v=>decide (v.1=s)
def ofClause(l:List (By×E))(g:List (By×Int))(e:E):Int:=if(unitOf g l e).2=0 then(if(unitOf g l e).1=3 then 0 else 14)else(unitOf g l e).2
def firstBad:List (By×Int)→By×Int
 | []=>([],0)
 |(s,e)::l=>if e=0 then firstBad l else(s,e)
def unitsU(b:Bl):By×Int:=match b.lets.find? fun l=>inG l.1 with
 |some l=>(l.1,5)
 |none=>firstBad [([100,117,101],ofClause b.lets gDue b.due),([102,105,110,101],ofClause b.lets gFine b.fine),([112,97,121],ofClause b.lets gPay b.pay),([99,111,118,101,114],ofClause b.lets gCov b.cover),([104,111,108,100],ofClause b.lets gHold b.hold)]
end Go.Proofs.YtllgjognpobnpaaGreatDoor

namespace Go.Proofs.YtllgjognpobnpaaGreatDoor
open Go.RowKit Go.Ab
attribute [local irreducible] AWP Go.Ab.Sub Means MeansH CallK CallG CallT CallGT PanicH DefH
set_option maxHeartbeats 4000000 in
theorem EO(f:FuncId)(E0 k0:Nat)(c0:AV)(p:Int→Bool)(L:List Int)(hl:L.length≤100000)(hz0:c0.flat.all AV.zone=true)(hf:∀x∈L,MeansH Tryz.prog f [.row ⟨E0,k0,[c0]⟩] [ii x,.el 0 k0 0 0] (bb (p x)) [.row ⟨E0,k0,[c0]⟩])(hcall:callable Tryz.prog f=true):
  MeansH Tryz.prog 127 [.row ⟨E0,k0,[c0]⟩] [.sl (L.map ii),.fn f [] [.el 0 k0 0 0]] (ii (match L.findIdx? p with|some n=>(n:Int)|none=> -1)) [.row ⟨E0,k0,[c0]⟩]:=by
 have hy0:∀x∈c0.flat,x.zone=true:=by simpa using hz0
 refine yN 1 19 [.tmp 4] [0,1,4,5,7,8,9,16,1000000] Tryz.func127 fun X hX=>?_
 (repeat(refine yB ?_;(simp[go_sem])))
 refine aG (fun n:Nat=>⟨mkE [(0,.sl (L.map ii)),(1,.fn f [] [.el 0 k0 0 0]),(7,ii L.length),(8,ii n),(1000000,.ow 0)],[.row ⟨E0,k0,[c0]⟩]⟩) (fun n=>n≤L.length∧∀k (h:k<L.length),k<n→p L[k]=false) (fun n=>L.length-n) 0 ?_ ?_ ?_
 ·refine yS _ [.old 0 ⟨E0,k0,[c0]⟩] ?_ (by simp[go_sem,hz0,hy0])
  simp[go_sem,hz0,hy0]
 ·exact⟨Nat.zero_le _,fun k h hk=>absurd hk (by omega)⟩
 ·rintro n ⟨h1,h2⟩
  (repeat(refine yB ?_;(simp[go_sem])))
  refine yC (decide (n<L.length)) (fun hc=>?_) fun hc=>?_
  ·simp at hc
   have hq:=cZ hc
   have wk:=w64 (x:=(n:Int)+1) (by omega) (by omega)
   (repeat(refine yB ?_;(simp[go_sem,hc,hq,hcall])))
   refine aV [0] (hf L[n] (List.getElem_mem hc)) (by simp[go_sem,hz0,hy0]) ?_
   simp[go_sem,hz0]
   refine yC (p L[n]) (fun hs=>?_) fun hs=>?_
   ·have e1:L.findIdx? p=some n:=by
     rw[List.findIdx?_eq_some_iff_getElem]
     exact⟨hc,hs,fun k hk=>by rw[h2 k (by omega) hk];simp⟩
    rw[e1]
    (repeat(refine yB ?_;(simp[go_sem])))
    refine aB ?_;simp only[thenQ,blkQ,loopQ];refine aA [(4,ii n),(1000000,.ow 0)] [.old 0 ⟨E0,k0,[c0]⟩] ?_
    simp[go_sem,hz0,hy0]
   ·(repeat(refine yB ?_;(simp[go_sem,wk])))
    refine⟨n+1,⟨by omega,fun k h hk=>?_⟩,by omega,?_⟩
    ·by_cases e:k=n
     ·subst e;exact hs
     ·exact h2 k h (by omega)
    ·refine yS _ [.old 0 ⟨E0,k0,[c0]⟩] ?_ (by simp[go_sem,hz0,hy0])
     simp[go_sem,hz0,hy0]
  ·simp at hc
   have e1:L.findIdx? p=none:=by
    rw[List.findIdx?_eq_none_iff]
    intro x hx
    obtain⟨k,hk,rfl⟩:=List.getElem_of_mem hx
    exact h2 k hk (by omega)
   rw[e1]
   (repeat(refine yB ?_;(simp[go_sem])))
   refine aB ?_;refine aA [(4,ii (-1)),(1000000,.ow 0)] [.old 0 ⟨E0,k0,[c0]⟩] ?_
   simp[go_sem,hz0,hy0]
theorem EP(f:FuncId)(E0 k0:Nat)(c0:AV)(p:Int→Bool)(L:List Int)(hl:L.length≤100000)(hz0:c0.flat.all AV.zone=true)(hf:∀x∈L,MeansH Tryz.prog f [.row ⟨E0,k0,[c0]⟩] [ii x,.el 0 k0 0 0] (bb (p x)) [.row ⟨E0,k0,[c0]⟩])(hcall:callable Tryz.prog f=true):
  MeansH Tryz.prog 81 [.row ⟨E0,k0,[c0]⟩] [.sl (L.map ii),.fn f [] [.el 0 k0 0 0]] (bb (L.any p)) [.row ⟨E0,k0,[c0]⟩]:=by
 have hy0:∀x∈c0.flat,x.zone=true:=by simpa using hz0
 have hI:=EO f E0 k0 c0 p L hl hz0 hf hcall
 refine yN 1 9 [.tmp 4] [0,1,4,1000000] Tryz.func81 fun X hX=>?_
 (repeat(refine yB ?_;(simp[go_sem])))
 refine aV [0] hI (by simp[go_sem,hz0,hy0]) ?_
 simp[go_sem,hz0]
 have e:decide (0≤(match L.findIdx? p with|some n=>(n:Int)|none=> -1))=L.any p:=by
  cases hf:L.findIdx? p with
  |none=>
   have:L.any p=false:=by
    rw[List.any_eq_false]
    intro x hx
    rw[List.findIdx?_eq_none_iff.1 hf x hx];simp
   rw[this];rfl
  |some n=>
   obtain⟨h1,h2,_⟩:=List.findIdx?_eq_some_iff_getElem.1 hf
   have:L.any p=true:=List.any_eq_true.2 ⟨L[n],List.getElem_mem h1,h2⟩
   rw[this]
   simp
 rw[←e]
 refine aB ?_;refine aA [(4,bb (decide (0≤(match L.findIdx? p with|some n=>(n:Int)|none=> -1)))),(1000000,.ow 0)] [.old 0 ⟨E0,k0,[c0]⟩] ?_
 simp[go_sem,hz0,hy0]
theorem HH(a b:Int):Means true Tryz.prog 164 [ii a,ii b] (.tup [ii (prodU a b).1,bb (prodU a b).2]):=by
 refine yM true 29 [.tmp 4,.tmp 5] [0,1,4,5,7,13,14,15,16,17,22,26] Tryz.func164 fun X hX=>?_
 (repeat(refine yA ?_;(simp[go_sem])))
 refine yC (decide (a=0)||decide (b=0)) (fun hb=>?_) fun hb=>?_
 ·simp only[Bool.or_eq_true,decide_eq_true_eq]at hb
  have e:prodU a b=(0,false):=by simp[prodU,hb]
  rw[e]
  (repeat(refine yA ?_;(simp[go_sem])))
 have h0:¬(a=0∨b=0):=by simpa using hb
 (repeat(refine yA ?_;(simp[go_sem])))
 refine aG (fun n:Nat=>⟨mkE [(0,ii a),(1,ii b),(14,.sl [ii 4,ii 1]),(15,ii 2),(16,ii n)],[]⟩) (fun n=>n≤2∧(0<n→¬a=4∧¬b=4)∧(1<n→¬a=1∧¬b=1)) (fun n=>2-n) 0 ?_ ?_ ?_
 ·refine yS _ [] ?_
  simp[go_sem]
 ·simp
 ·rintro n ⟨hn,h1,h2⟩
  (repeat(refine yA ?_;(simp[go_sem])))
  refine yC (decide (n<2)) (fun hc=>?_) (fun hc=>?_) (by simp[go_sem];omega)
  ·simp at hc
   have wk:=w64 (x:=(n:Int)+1) (by omega) (by omega)
   obtain⟨q,hq,hq1⟩:∃q:Int,nth [ii 4,ii 1] n=ii q∧(n=0∧q=4∨n=1∧q=1):=by
    obtain rfl|rfl:n=0∨n=1:=by omega
    ·exact⟨4,rfl,.inl ⟨rfl,rfl⟩⟩
    ·exact⟨1,rfl,.inr ⟨rfl,rfl⟩⟩
   have hc2:(n:Int)<2:=by omega
   (repeat(refine yA ?_;(simp[go_sem,hc,hc2,hq])))
   refine yC (decide (a=q)) (fun hd=>?_) fun hd=>?_
   ·simp at hd
    have e:prodU a b=(b,true):=by
     rcases hq1 with⟨rfl,rfl⟩|⟨rfl,rfl⟩
     ·subst hd
      simp only[prodU];rw[if_neg h0];simp
     ·subst hd
      have:=h1 (by omega)
      simp only[prodU];rw[if_neg h0];simp[this]
    rw[e]
    (repeat(refine yA ?_;(simp[go_sem])))
   ·simp at hd
    (repeat(refine yA ?_;(simp[go_sem])))
    refine yC (decide (b=q)) (fun he=>?_) fun he=>?_
    ·simp at he
     have e:prodU a b=(a,true):=by
      rcases hq1 with⟨rfl,rfl⟩|⟨rfl,rfl⟩
      ·subst he
       simp only[prodU];rw[if_neg h0];simp[hd]
      ·subst he
       have:=h1 (by omega)
       simp only[prodU];rw[if_neg h0];simp[this,hd]
     rw[e]
     (repeat(refine yA ?_;(simp[go_sem])))
    ·simp at he
     (repeat(refine yA ?_;(simp[go_sem,wk])))
     refine⟨n+1,⟨by omega,fun _=>?_,fun _=>?_⟩,by omega,?_⟩
     ·rcases hq1 with⟨rfl,rfl⟩|⟨rfl,rfl⟩
      ·exact⟨hd,he⟩
      ·exact h1 (by omega)
     ·rcases hq1 with⟨rfl,rfl⟩|⟨rfl,rfl⟩
      ·omega
      ·exact⟨hd,he⟩
     ·refine yS _ [] ?_
      simp[go_sem]
  ·simp at hc
   have e1:=h1 (by omega)
   have e2:=h2 (by omega)
   have e:prodU a b=(0,false):=by
    simp only[prodU];rw[if_neg h0];simp[e1,e2]
   rw[e]
   (repeat(refine yA ?_;(simp[go_sem])))
theorem EQ(u x:Int):MeansH Tryz.prog 163 [.row ⟨3,1,[ii u]⟩] [ii x,.el 0 1 0 0] (bb (!decide (x=u))) [.row ⟨3,1,[ii u]⟩]:=by
 refine yN 1 7 [.tmp 3] [0,1,3,1000000] Tryz.func163 fun X hX=>?_
 (repeat(refine yB ?_;(simp[go_sem])))
 refine aB ?_;refine aA [(3,bb (!decide (x=u))),(1000000,.ow 0)] [.old 0 ⟨3,1,[ii u]⟩] ?_
 simp[go_sem]
theorem HI(l:List Int)(hl:l.length≤100000)(u:Int):MeansH Tryz.prog 162 [.row ⟨22,1,[il l]⟩] [ii u,.el 0 1 0 0] (bb (only l u)) [.row ⟨22,1,[il l]⟩]:=by
 have c1:=EP 163 3 1 (ii u) (fun x=> !decide (x=u)) l hl rfl (fun x _=>EQ u x) (by simp[go_sem])
 refine yN 1 8 [.tmp 3] [0,1,2,3,1000000] Tryz.func162 fun X hX=>?_
 (repeat(refine yB ?_;(simp[go_sem])))
 refine yH [1] c1 ?_
 simp[go_sem]
 refine aB ?_;refine aA [(3,bb (only l u)),(1000000,.ow 0)] [.old 0 ⟨22,1,[il l]⟩] ?_
 simp[go_sem,only]
theorem mC{l:List Int}{k:Nat}(h:k<l.length):nth (l.map ii) k=ii (l.getD k 0):=by rw[cZ h];simp[List.getD_eq_getElem?_getD,h]
set_option maxHeartbeats 4000000 in
set_option maxRecDepth 20000 in
theorem HJ(op:Int)(l:List Int)(hl:l.length≤10)(h1:0<l.length)(h2:2≤op→op≤9→2≤l.length)(h3:op=13→3≤l.length)(ho:2≤op∧op≤13):Means true Tryz.prog 139 [ii op,il l] (.tup [ii (combU op l).1,bb (combU op l).2]):=by
 have c0:=fun u=>HI l (by omega) u
 have g0:=mC h1
 have g1:1<l.length→_:=fun h=>mC h
 have g2:2<l.length→_:=fun h=>mC h
 obtain⟨a,ha⟩:∃a,l.getD 0 0=a:=⟨_,rfl⟩
 obtain⟨b,hb⟩:∃b,l.getD 1 0=b:=⟨_,rfl⟩
 obtain⟨c,hc⟩:∃c,l.getD 2 0=c:=⟨_,rfl⟩
 rw[ha]at g0
 rw[hb]at g1
 rw[hc]at g2
 by_cases hA:op=2∨op=3∨op=6∨op=7
 ·have e:combU op l=(a,only l a&& !decide (a=0)):=by simp only[combU];rw[if_pos hA,ha]
  rw[e]
  rcases hA with rfl|rfl|rfl|rfl
  all_goals
   refine yM true 115 [.tmp 4,.tmp 5] [0,1,3,4,5,6,8,9,28,39,44,75,88,95] Tryz.func139 fun X hX=>?_
   (repeat(refine yA ?_;(simp[go_sem,h1,g0])));(repeat(first|(refine aC ?_ ?_;(focus(simp[go_sem,h1,g0];done));(repeat(refine yA ?_;(simp[go_sem,h1,g0]))))|(refine a8 ?_ ?_;(focus(simp[go_sem,h1,g0];done));(repeat(refine yA ?_;(simp[go_sem,h1,g0]))))))
   refine bN [0] (c0 a) (by simp[go_sem]) ?_
   (simp[go_sem,h1,g0];try(refine⟨by kernel_rfl,?_⟩))
   try(repeat(refine yA ?_;(simp[go_sem,h1,g0])))
 by_cases hB:op=4
 ·have e:combU op l=prodU a b:=by simp only[combU];rw[if_neg hA,if_pos hB,ha,hb]
  rw[e]
  subst hB
  have h2:1<l.length:=h2 (by omega) (by omega)
  have g1:=g1 h2
  have h2:(1:Int)<l.length:=by omega
  have c1:=HH a b
  refine yM true 115 [.tmp 4,.tmp 5] [0,1,3,4,5,6,8,9,28,39,44,75,88,95] Tryz.func139 fun X hX=>?_
  (repeat(refine yA ?_;(simp[go_sem,h1,g0,h2,g1])));(repeat(first|(refine aC ?_ ?_;(focus(simp[go_sem,h1,g0,h2,g1];done));(repeat(refine yA ?_;(simp[go_sem,h1,g0,h2,g1]))))|(refine a8 ?_ ?_;(focus(simp[go_sem,h1,g0,h2,g1];done));(repeat(refine yA ?_;(simp[go_sem,h1,g0,h2,g1]))))))
  refine bH c1 ?_
  (simp[go_sem,h1,g0,h2,g1];try(refine⟨by kernel_rfl,?_⟩))
  try(repeat(refine yA ?_;(simp[go_sem,h1,g0,h2,g1])))
 by_cases hC:op=5
 ·have e:combU op l=if b=1 then(a,!decide (a=0)&& !decide (a=4))else(1,only l a&&(decide (a=3)||decide (a=2))):=by simp only[combU];rw[if_neg hA,if_neg hB,if_pos hC,ha,hb]
  rw[e]
  subst hC
  have h2:1<l.length:=h2 (by omega) (by omega)
  have g1:=g1 h2
  have h2:(1:Int)<l.length:=by omega
  by_cases hd:b=1
  ·rw[if_pos hd]
   refine yM true 115 [.tmp 4,.tmp 5] [0,1,3,4,5,6,8,9,28,39,44,75,88,95] Tryz.func139 fun X hX=>?_
   (repeat(refine yA ?_;(simp[go_sem,h1,g0,h2,g1,hd])));(repeat(first|(refine aC ?_ ?_;(focus(simp[go_sem,h1,g0,h2,g1,hd];done));(repeat(refine yA ?_;(simp[go_sem,h1,g0,h2,g1,hd];try(refine⟨by kernel_rfl,?_⟩)))))|(refine a8 ?_ ?_;(focus(simp[go_sem,h1,g0,h2,g1,hd];done));(repeat(refine yA ?_;(simp[go_sem,h1,g0,h2,g1,hd]))))))
  ·rw[if_neg hd]
   refine yM true 115 [.tmp 4,.tmp 5] [0,1,3,4,5,6,8,9,28,39,44,75,88,95] Tryz.func139 fun X hX=>?_
   (repeat(refine yA ?_;(simp[go_sem,h1,g0,h2,g1,hd])));(repeat(first|(refine aC ?_ ?_;(focus(simp[go_sem,h1,g0,h2,g1,hd];done));(repeat(refine yA ?_;(simp[go_sem,h1,g0,h2,g1,hd]))))|(refine a8 ?_ ?_;(focus(simp[go_sem,h1,g0,h2,g1,hd];done));(repeat(refine yA ?_;(simp[go_sem,h1,g0,h2,g1,hd]))))))
   refine bN [0] (c0 a) (by simp[go_sem]) ?_
   simp[go_sem,h1,g0]
   refine And.intro (fun p q=>⟨p,q⟩) ?_
   refine⟨by kernel_rfl,?_⟩
   try(repeat(refine yA ?_;(simp[go_sem,h1,g0])))
 by_cases hD:op=8
 ·have e:combU op l=(0,only l a&& !decide (a=0)):=by simp only[combU];rw[if_neg hA,if_neg hB,if_neg hC,if_pos hD,ha]
  rw[e]
  subst hD
  refine yM true 115 [.tmp 4,.tmp 5] [0,1,3,4,5,6,8,9,28,39,44,75,88,95] Tryz.func139 fun X hX=>?_
  (repeat(refine yA ?_;(simp[go_sem,h1,g0])));(repeat(first|(refine aC ?_ ?_;(focus(simp[go_sem,h1,g0];done));(repeat(refine yA ?_;(simp[go_sem,h1,g0]))))|(refine a8 ?_ ?_;(focus(simp[go_sem,h1,g0];done));(repeat(refine yA ?_;(simp[go_sem,h1,g0]))))))
  refine bN [0] (c0 a) (by simp[go_sem]) ?_
  (simp[go_sem,h1,g0];try(refine⟨by kernel_rfl,?_⟩))
  try(repeat(refine yA ?_;(simp[go_sem,h1,g0])))
 by_cases hE:op=9
 ·have e:combU op l=(0,only l a):=by simp only[combU];rw[if_neg hA,if_neg hB,if_neg hC,if_neg hD,if_pos hE,ha]
  rw[e]
  subst hE
  refine yM true 115 [.tmp 4,.tmp 5] [0,1,3,4,5,6,8,9,28,39,44,75,88,95] Tryz.func139 fun X hX=>?_
  (repeat(refine yA ?_;(simp[go_sem,h1,g0])));(repeat(first|(refine aC ?_ ?_;(focus(simp[go_sem,h1,g0];done));(repeat(refine yA ?_;(simp[go_sem,h1,g0]))))|(refine a8 ?_ ?_;(focus(simp[go_sem,h1,g0];done));(repeat(refine yA ?_;(simp[go_sem,h1,g0]))))))
  refine yH [0] (c0 a) ?_
  simp[go_sem,h1,g0]
  try(repeat(refine yA ?_;(simp[go_sem,h1,g0])))
 by_cases hF:op=13
 ·have e:combU op l=(b,decide (a=0)&&decide (b=c)):=by simp only[combU];rw[if_neg hA,if_neg hB,if_neg hC,if_neg hD,if_neg hE,if_pos hF,ha,hb,hc]
  rw[e]
  have h3:2<l.length:=h3 hF
  have h2:1<l.length:=by omega
  have g1:=g1 h2
  have g2:=g2 h3
  clear ho
  subst hF
  have h2:(1:Int)<l.length:=by omega
  have h3:(2:Int)<l.length:=by omega
  refine yM true 115 [.tmp 4,.tmp 5] [0,1,3,4,5,6,8,9,28,39,44,75,88,95] Tryz.func139 fun X hX=>?_
  (repeat(refine yA ?_;(simp[go_sem,h1,g0,h2,g1,h3,g2])));(repeat(first|(refine aC ?_ ?_;(focus(simp[go_sem,h1,g0,h2,g1,h3,g2];done));(repeat(refine yA ?_;(simp[go_sem,h1,g0,h2,g1,h3,g2];try(refine⟨by kernel_rfl,?_⟩)))))|(refine a8 ?_ ?_;(focus(simp[go_sem,h1,g0,h2,g1,h3,g2];done));(repeat(refine yA ?_;(simp[go_sem,h1,g0,h2,g1,h3,g2]))))))
 have e:combU op l=(0,only l 0):=by simp only[combU];rw[if_neg hA,if_neg hB,if_neg hC,if_neg hD,if_neg hE,if_neg hF]
 rw[e]
 have ho:op=10∨op=11∨op=12:=by omega
 rcases ho with rfl|rfl|rfl
 all_goals
  refine yM true 115 [.tmp 4,.tmp 5] [0,1,3,4,5,6,8,9,28,39,44,75,88,95] Tryz.func139 fun X hX=>?_
  (repeat(refine yA ?_;(simp[go_sem,h1,g0])));(repeat(refine a8 ?_ ?_;(focus(simp[go_sem,h1,g0];done));(repeat(refine yA ?_;(simp[go_sem,h1,g0])))))
  refine yH [0] (c0 0) ?_
  simp[go_sem,h1,g0]
  try(repeat(refine yA ?_;(simp[go_sem,h1,g0])))
end Go.Proofs.YtllgjognpobnpaaGreatDoor

namespace Go.Proofs.YtllgjognpobnpaaGreatDoor
open Go.RowKit Go.Ab
attribute [local irreducible] AWP Go.Ab.Sub Means MeansH CallK CallG CallT CallGT PanicH DefH
@[go_sem] theorem cJ(a b:By):keyEq Tryz.prog 9 (ss a) (ss b)=some (decide (a=b)):=by
  simp only[keyEq,tk9,eqV]
  rw[IX]
def gm(g:List (By×Int)):List (AV×AV):=g.map fun p=>(ss p.1,ii p.2)
abbrev mnA(m:Mn):AV:=.agg [ii m.u,ii m.e,bb m.sh]
def dm(d:List (By×Mn)):List (AV×AV):=d.map fun p=>(ss p.1,mnA p.2)
theorem w9(s:By):∀g,findA Tryz.prog 9 (ss s) (gm g)=some ((g.lookup s).map ii)
 | []=>rfl
 |(a,v)::g=>by
  have ih:=w9 s g
  simp only[gm,List.map_cons,findA,cJ,List.lookup_cons]at ih⊢
  by_cases h:s=a
  ·subst h;simp
  ·have h2:(s==a)=false:=by simpa using h
   simp only[h,h2,decide_false];exact ih
theorem qA(s:By):∀d,findA Tryz.prog 9 (ss s) (dm d)=some ((d.lookup s).map mnA)
 | []=>rfl
 |(a,v)::g=>by
  have ih:=qA s g
  simp only[dm,List.map_cons,findA,cJ,List.lookup_cons]at ih⊢
  by_cases h:s=a
  ·subst h;simp
  ·have h2:(s==a)=false:=by simpa using h
   simp only[h,h2,decide_false];exact ih
@[go_sem] theorem lookA_gm(s:By)(g:List (By×Int)):lookA Tryz.prog 9 3 (ss s) (gm g) true=some (.tup [ii ((g.lookup s).getD 0),bb (g.lookup s).isSome]):=by
  unfold lookA
  rw[w9,tk3]
  cases g.lookup s<;>rfl
@[go_sem] theorem lookA_dm(s:By)(d:List (By×Mn)):lookA Tryz.prog 9 221 (ss s) (dm d) true=some (.tup [mnA ((d.lookup s).getD {}),bb (d.lookup s).isSome]):=by
  unfold lookA
  rw[qA,GI]
  cases d.lookup s<;>rfl
@[go_sem] theorem lookA_dmf(s:By)(d:List (By×Mn)):lookA Tryz.prog 9 221 (ss s) (dm d) false=some (mnA ((d.lookup s).getD {})):=by
  unfold lookA
  rw[qA,GI]
  cases d.lookup s<;>rfl
theorem BB(g:List (By×Int))(d:List (By×Mn))(s:By):nameU g d s=if(g.lookup s).isSome then((g.lookup s).getD 0,0)else if(d.lookup s).isSome then(((d.lookup s).getD {}).u,((d.lookup s).getD {}).e)else(0,13):=by
 unfold nameU
 cases g.lookup s
 ·cases d.lookup s<;>rfl
 ·rfl
theorem BC(d:List (By×Mn))(s:By):nameS d s=((d.lookup s).getD {}).sh:=by
 unfold nameS
 cases d.lookup s<;>rfl
def firstE(g:List (By×Int))(d:List (By×Mn)):List E→Int
 | []=>0
 |e::l=>if(unitU g d e).2=0 then firstE g d l else(unitU g d e).2
theorem oH{g:List (By×Int)}{d:List (By×Mn)}:∀{l:List E} {n:Nat} (hn:n<l.length),(∀j (h:j<l.length),j<n→(unitU g d l[j]).2=0)→(unitU g d l[n]).2≠0→firstE g d l=(unitU g d l[n]).2
 | [],n,hn,_,_=>by simp at hn
 |e::l,0,_,_,hne=>by
  have hne:(unitU g d e).2≠0:=hne
  unfold firstE
  rw[if_neg hne];rfl
 |e::l,n+1,hn,h,hne=>by
  have h0:(unitU g d e).2=0:=h 0 (by simp) (by omega)
  unfold firstE
  rw[if_pos h0]
  exact oH (l:=l) (n:=n) (by simpa using hn) (fun j hj hjn=>h (j+1) (by simpa using hj) (by omega)) hne
theorem mD{g:List (By×Int)}{d:List (By×Mn)}:∀{l:List E},(∀j (h:j<l.length),(unitU g d l[j]).2=0)→firstE g d l=0
 | [],_=>rfl
 |e::l,h=>by
  have h0:(unitU g d e).2=0:=h 0 (by simp)
  unfold firstE
  rw[if_pos h0]
  exact mD fun j hj=>h (j+1) (by simpa using hj)
theorem uA(g:List (By×Int))(d:List (By×Mn)){e:E}(h0:¬e.op=0)(h1:¬e.op=1):unitU g d e=if firstE g d e.kids=0 then finU e.op (e.kids.map fun x=>(unitU g d x).1)else(0,firstE g d e.kids):=by
 cases e with
 |num n u=>exact absurd rfl h0
 |nam s=>exact absurd rfl h1
 |un a=>
  simp only[unitU,E.kids,firstE,E.op_un,List.map_cons,List.map_nil]
  split<;>rename_i h<;>simp[h]
 |bin o a b=>
  simp only[unitU,E.kids,firstE,E.op_bin,List.map_cons,List.map_nil]
  split<;>rename_i h
  ·split<;>rename_i h2<;>simp[h2]
  ·simp[h]
 |ite a b c=>
  simp only[unitU,E.kids,firstE,E.op_ite,List.map_cons,List.map_nil]
  split<;>rename_i h
  ·split<;>rename_i h2
   ·split<;>rename_i h3<;>simp[h3]
   ·simp[h2]
  ·simp[h]
abbrev jR:Ob:=⟨219,2,[.agg [.ow 1,.ow 2]]⟩
abbrev gR(g:List (By×Int)):MOb:=⟨9,3,gm g⟩
abbrev dR(d:List (By×Mn)):MOb:=⟨9,221,dm d⟩
abbrev JH(g:List (By×Int))(d:List (By×Mn)):List Cell:=[.row jR,.map (gR g),.map (dR d)]
set_option maxHeartbeats 8000000 in
set_option maxRecDepth 20000 in
theorem HK(g:List (By×Int))(d:List (By×Mn))(N:Nat)(ih:∀x,okE x→x.lev≤N→MeansH Tryz.prog 101 (JH g d) [.el 0 2 0 0,ex x] (.tup [ii (unitU g d x).1,ii (unitU g d x).2]) (JH g d))(e:E)(he:okE e)(hl:e.lev≤N+1):
  MeansH Tryz.prog 101 (JH g d) [.el 0 2 0 0,ex e] (.tup [ii (unitU g d e).1,ii (unitU g d e).2]) (JH g d):=by
 by_cases h0:e.op=0
 ·obtain⟨n,u,rfl⟩:∃n u,e=.num n u:=by
   cases e with
   |num n u=>exact⟨n,u,rfl⟩
   |nam s=>simp[E.op]at h0
   |un a=>simp[E.op]at h0
   |ite a b c=>simp[E.op]at h0
   |bin o a b=>have:=he.1;simp[E.op]at h0;omega
  refine yN 3 82 [.tmp 4,.tmp 5] [0,1,3,4,5,6,7,8,9,10,12,13,14,15,16,18,19,23,35,47,53,54,55,56,66,80,1000000,1000001,1000002] Tryz.func101 fun X hX=>?_
  (repeat(refine yB ?_;(simp[go_sem])));(repeat(refine aC ?_ ?_;(focus(simp[go_sem];done));(repeat(refine yB ?_;(simp[go_sem])))))
  refine aB ?_;simp only[thenQ,blkQ,loopQ];refine aA [(4,ii u),(5,ii 0),(1000000,.ow 0),(1000001,.ow 1),(1000002,.ow 2)] [.old 0 jR,.oldM 1 (gR g),.oldM 2 (dR d)] ?_
  simp[go_sem,unitU]
 by_cases h1:e.op=1
 ·obtain⟨s,rfl⟩:∃s,e=.nam s:=by
   cases e with
   |num n u=>simp[E.op]at h1
   |nam s=>exact⟨s,rfl⟩
   |un a=>simp[E.op]at h1
   |ite a b c=>simp[E.op]at h1
   |bin o a b=>have:=he.1;simp[E.op]at h1;omega
  have hu:unitU g d (.nam s)=nameU g d s:=rfl
  rw[hu,BB]
  refine yN 3 82 [.tmp 4,.tmp 5] [0,1,3,4,5,6,7,8,9,10,12,13,14,15,16,18,19,23,35,47,53,54,55,56,66,80,1000000,1000001,1000002] Tryz.func101 fun X hX=>?_
  (repeat(refine yB ?_;(simp[go_sem])));(repeat(first|(refine aC ?_ ?_;(focus(simp[go_sem];done));(repeat(refine yB ?_;(simp[go_sem];try(refine⟨by kernel_rfl,?_⟩)))))|(refine a8 ?_ ?_;(focus(simp[go_sem];done));(repeat(refine yB ?_;(simp[go_sem]))))))
  refine yC ((g.lookup s).isSome) (fun hb=>?_) fun hb=>?_
  ·(repeat(refine yB ?_;(simp[go_sem])))
   rw[if_pos hb]
   refine aB ?_;simp only[thenQ,blkQ,loopQ];refine aA [(4,ii ((g.lookup s).getD 0)),(5,ii 0),(1000000,.ow 0),(1000001,.ow 1),(1000002,.ow 2)] [.old 0 jR,.oldM 1 (gR g),.oldM 2 (dR d)] ?_
   simp[go_sem]
  ·rw[if_neg (by rw[hb];simp)]
   (repeat(refine yB ?_;(simp[go_sem];try(refine⟨by kernel_rfl,?_⟩))))
   refine yC ((d.lookup s).isSome) (fun hc=>?_) fun hc=>?_
   ·(repeat(refine yB ?_;(simp[go_sem];try(refine⟨by kernel_rfl,?_⟩))))
    rw[if_pos hc]
    refine aB ?_;simp only[thenQ,blkQ,loopQ];refine aA [(4,ii ((d.lookup s).getD {}).u),(5,ii ((d.lookup s).getD {}).e),(1000000,.ow 0),(1000001,.ow 1),(1000002,.ow 2)] [.old 0 jR,.oldM 1 (gR g),.oldM 2 (dR d)] ?_
    simp[go_sem]
   ·rw[if_neg (by rw[hc];simp)]
    (repeat(refine yB ?_;(simp[go_sem])))
    refine aB ?_;simp only[thenQ,blkQ,loopQ];refine aA [(4,ii 0),(5,ii 13),(1000000,.ow 0),(1000001,.ow 1),(1000002,.ow 2)] [.old 0 jR,.oldM 1 (gR g),.oldM 2 (dR d)] ?_
    simp[go_sem]
 have hop:=BD he
 have hk:1≤e.kids.length∧e.kids.length≤3∧(2≤e.op→e.op≤9→2≤e.kids.length)∧(e.op=13→3≤e.kids.length)∧(2≤e.op∧e.op≤13):=by
  cases e with
  |num n u=>simp[E.op]at h0
  |nam s=>simp[E.op]at h1
  |un a=>simp[E.kids,E.op]
  |bin o a b=>have:=he.1;simp[E.kids,E.op]<;>omega
  |ite a b c=>simp[E.kids,E.op]
 have hki:∀x∈e.kids,MeansH Tryz.prog 101 (JH g d) [.el 0 2 0 0,ex x] (.tup [ii (unitU g d x).1,ii (unitU g d x).2]) (JH g d):=fun x hx=>ih x (uB he hx) (by have:=j9 hx;omega)
 rw[uA g d h0 h1]
 have ea:=gQ e
 have e1:∀q,e.args=q→ex e=.agg [ii e.op,ii e.n,ii e.u,ss e.s,.sl q]:=fun q h=>by subst h;rfl
 have e1:=e1 _ ea
 have c1:=HJ e.op (e.kids.map fun x=>(unitU g d x).1) (by simp;omega) (by simp;omega) (by simpa using hk.2.2.1) (by simpa using hk.2.2.2.1) hk.2.2.2.2
 rw[e1]
 generalize e.kids=K at*
 generalize e.op=o at*
 generalize e.n=en at*
 generalize e.u=eu at*
 generalize e.s=es at*
 clear e1 ea hl he ih hop
 refine yN 3 82 [.tmp 4,.tmp 5] [0,1,3,4,5,6,7,8,9,10,12,13,14,15,16,18,19,23,35,47,53,54,55,56,66,80,1000000,1000001,1000002] Tryz.func101 fun X hX=>?_
 (repeat(refine yB ?_;(simp[go_sem,h0,h1])));(repeat(refine a8 ?_ ?_;(focus(simp[go_sem,h0,h1];done));(repeat(refine yB ?_;(simp[go_sem,h0,h1])))))
 refine aG (fun n:Nat=>⟨mkE [(0,.el 0 2 0 0),(3,.el 3 5 0 0),(4,ii 0),(5,ii 0),(10,.ow 4),(53,.sl (K.map ex)),(54,ii K.length),(55,ii n),(1000000,.ow 0),(1000001,.ow 1),(1000002,.ow 2)],
  [.row jR,.map (gR g),.map (dR d),.row ⟨30,5,[.agg [ii o,ii en,ii eu,ss es,.sl (K.map ex)]]⟩,.row ⟨3,1,(K.map fun x=>ii (unitU g d x).1).take n⟩]⟩) (fun n=>n≤K.length∧∀j (h:j<K.length),j<n→(unitU g d K[j]).2=0) (fun n=>K.length-n) 0 ?_ ?_ ?_
 ·refine yS _ [.old 0 jR,.oldM 1 (gR g),.oldM 2 (dR d),.old 3 ⟨30,5,[.agg [ii o,ii en,ii eu,ss es,.sl (K.map ex)]]⟩,.birth 3 1] ?_
  simp[go_sem]
 ·simp
 ·rintro n ⟨hn,hz⟩
  (repeat(refine yB ?_;(simp[go_sem])))
  refine yC (decide (n<K.length)) (fun hc=>?_) fun hc=>?_
  ·simp at hc
   have hq:=mA hc
   have wk:=w64 (x:=(n:Int)+1) (by omega) (by omega)
   have c2:=hki K[n] (List.getElem_mem hc)
   (repeat(refine yB ?_;(simp[go_sem,hc,hq])))
   refine yH [0,1,2] c2 ?_
   simp[go_sem]
   (repeat(refine yB ?_;(simp[go_sem])))
   refine yC (!decide ((unitU g d K[n]).2=0)) (fun hd=>?_) fun hd=>?_
   ·have hd:¬(unitU g d K[n]).2=0:=by simpa using hd
    rw[oH hc hz hd,if_neg hd]
    (repeat(refine yB ?_;(simp[go_sem])))
    refine aB ?_;simp only[thenQ,blkQ,loopQ];refine aA [(4,ii 0),(5,ii (unitU g d K[n]).2),(1000000,.ow 0),(1000001,.ow 1),(1000002,.ow 2)] [.old 0 jR,.oldM 1 (gR g),.oldM 2 (dR d)] ?_
    simp[go_sem]
   ·have hd:(unitU g d K[n]).2=0:=by simpa using hd
    have ht:(K.map fun x=>ii (unitU g d x).1).take (n+1)=(K.map fun x=>ii (unitU g d x).1).take n++[ii (unitU g d K[n]).1]:=by
     rw[List.take_succ_eq_append_getElem (by simpa using hc)];simp
    (repeat(refine yB ?_;(simp[go_sem,wk];(try simp(disch:=omega) only[w64,td,tm]))))
    refine⟨⟨by first|omega|(simp;omega),by unfold maxLen;first|omega|(simp;omega)⟩,?_⟩
    (repeat(refine yB ?_;(simp[go_sem,wk];(try simp(disch:=omega) only[w64,td,tm]))))
    refine⟨n+1,⟨by omega,fun j hj hjn=>?_⟩,by omega,?_⟩
    ·by_cases e:j=n
     ·subst e;exact hd
     ·exact hz j hj (by omega)
    ·rw[ht]
     refine yS _ [.old 0 jR,.oldM 1 (gR g),.oldM 2 (dR d),.old 3 ⟨30,5,[.agg [ii o,ii en,ii eu,ss es,.sl (K.map ex)]]⟩,.old 7 ⟨3,1,(K.map fun x=>ii (unitU g d x).1).take n++[ii (unitU g d K[n]).1]⟩] ?_
     simp[go_sem]
  ·have hnn:n=K.length:=by simp at hc;omega
   subst hnn
   rw[List.take_of_length_le (by simp)]
   rw[mD (fun j hj=>hz j hj hj),if_pos rfl]
   have em:K.map (fun x=>ii (unitU g d x).1)=(K.map fun x=>(unitU g d x).1).map ii:=by rw[List.map_map];rfl
   rw[em]
   generalize K.map (fun x=>(unitU g d x).1)=L at*
   (repeat(refine yB ?_;(simp[go_sem])))
   refine aD c1 ?_
   simp[go_sem]
   (repeat(refine yB ?_;(simp[go_sem])))
   unfold finU
   refine yC ((combU o L).2) (fun hd=>?_) fun hd=>?_
   ·rw[if_pos hd]
    (repeat(refine yB ?_;(simp[go_sem])))
    refine aB ?_;simp only[thenQ,blkQ,loopQ];refine aA [(4,ii (combU o L).1),(5,ii 0),(1000000,.ow 0),(1000001,.ow 1),(1000002,.ow 2)] [.old 0 jR,.oldM 1 (gR g),.oldM 2 (dR d)] ?_
    simp[go_sem]
   ·rw[if_neg (by simpa using hd)]
    (repeat(refine yB ?_;(simp[go_sem])))
    refine aB ?_;refine aA [(4,ii 0),(5,ii 14),(1000000,.ow 0),(1000001,.ow 1),(1000002,.ow 2)] [.old 0 jR,.oldM 1 (gR g),.oldM 2 (dR d)] ?_
    simp[go_sem]
theorem uC(g:List (By×Int))(d:List (By×Mn)):∀(N:Nat) (e:E),okE e→e.lev≤N→MeansH Tryz.prog 101 (JH g d) [.el 0 2 0 0,ex e] (.tup [ii (unitU g d e).1,ii (unitU g d e).2]) (JH g d)
 |0,e,_,h=>by cases e<;>simp[E.lev]at h
 |N+1,e,he,hl=>HK g d N (uC g d N) e he hl
end Go.Proofs.YtllgjognpobnpaaGreatDoor

namespace Go.Proofs.YtllgjognpobnpaaGreatDoor
open Go.RowKit Go.Ab
attribute [local irreducible] AWP Go.Ab.Sub Means MeansH CallK CallG CallT CallGT PanicH DefH
set_option maxHeartbeats 4000000 in
theorem BE(f:FuncId)  (p:(By×E)→Bool)(L:List (By×E))(hl:L.length≤100000)  (hf:∀x∈L,Means true Tryz.prog f [lt x] (bb (p x)))(hcall:callable Tryz.prog f=true):
  Means true Tryz.prog 118 [.sl (L.map lt),.v (.func (.func f) #[] #[])] (ii (match L.findIdx? p with|some n=>(n:Int)|none=> -1)):=by
 refine yM true 19 [.tmp 4] [0,1,4,5,7,8,9,16] Tryz.func118 fun X hX=>?_
 (repeat(refine yA ?_;(simp[go_sem])))
 refine aG (fun n:Nat=>⟨mkE [(0,.sl (L.map lt)),(1,.v (.func (.func f) #[] #[])),(7,ii L.length),(8,ii n)],[]⟩) (fun n=>n≤L.length∧∀k (h:k<L.length),k<n→p L[k]=false) (fun n=>L.length-n) 0 ?_ ?_ ?_
 ·refine yS _ [] ?_
  simp[go_sem]
 ·exact⟨Nat.zero_le _,fun k h hk=>absurd hk (by omega)⟩
 ·rintro n ⟨h1,h2⟩
  (repeat(refine yA ?_;(simp[go_sem])))
  refine yC (decide (n<L.length)) (fun hc=>?_) fun hc=>?_
  ·simp at hc
   have hq:=dA hc
   have wk:=w64 (x:=(n:Int)+1) (by omega) (by omega)
   (repeat(refine yA ?_;(simp[go_sem,hc,hq,hcall])))
   refine aD (hf L[n] (List.getElem_mem hc)) ?_
   refine yC (p L[n]) (fun hs=>?_) fun hs=>?_
   ·have e1:L.findIdx? p=some n:=by
     rw[List.findIdx?_eq_some_iff_getElem]
     exact⟨hc,hs,fun k hk=>by rw[h2 k (by omega) hk];simp⟩
    rw[e1]
    (repeat(refine yA ?_;(simp[go_sem])))
   ·(repeat(refine yA ?_;(simp[go_sem,wk])))
    refine⟨n+1,⟨by omega,fun k h hk=>?_⟩,by omega,?_⟩
    ·by_cases e:k=n
     ·subst e;exact hs
     ·exact h2 k h (by omega)
    ·refine yS _ [] ?_
     simp[go_sem]
  ·simp at hc
   have e1:L.findIdx? p=none:=by
    rw[List.findIdx?_eq_none_iff]
    intro x hx
    obtain⟨k,hk,rfl⟩:=List.getElem_of_mem hx
    exact h2 k hk (by omega)
   rw[e1]
   (repeat(refine yA ?_;(simp[go_sem])))
theorem BF(f:FuncId)  (p:(By×E)→Bool)(L:List (By×E))(hl:L.length≤100000)  (hf:∀x∈L,Means true Tryz.prog f [lt x] (bb (p x)))(hcall:callable Tryz.prog f=true):
  Means true Tryz.prog 65 [.sl (L.map lt),.v (.func (.func f) #[] #[])] (bb (L.any p)):=by
 have hI:=BE f  p L hl  hf hcall
 refine yM true 9 [.tmp 4] [0,1,4] Tryz.func65 fun X hX=>?_
 (repeat(refine yA ?_;(simp[go_sem])))
 refine aD hI ?_
 simp[go_sem]
 have e:decide (0≤(match L.findIdx? p with|some n=>(n:Int)|none=> -1))=L.any p:=by
  cases hf:L.findIdx? p with
  |none=>
   have:L.any p=false:=by
    rw[List.any_eq_false]
    intro x hx
    rw[List.findIdx?_eq_none_iff.1 hf x hx];simp
   rw[this];rfl
  |some n=>
   obtain⟨h1,h2,_⟩:=List.findIdx?_eq_some_iff_getElem.1 hf
   have:L.any p=true:=List.any_eq_true.2 ⟨L[n],List.getElem_mem h1,h2⟩
   rw[this]
   simp
 rw[←e]
 (repeat(refine yA ?_;(simp[go_sem])))
set_option maxHeartbeats 8000000 in
set_option maxRecDepth 20000 in
theorem IY(g:List (By×Int))(d:List (By×Mn))(N:Nat)(ih:∀x,okE x→x.lev≤N→MeansH Tryz.prog 138 (JH g d) [.el 0 2 0 0,ex x] (bb (shareU d x)) (JH g d))(e:E)(he:okE e)(hl:e.lev≤N+1):
  MeansH Tryz.prog 138 (JH g d) [.el 0 2 0 0,ex e] (bb (shareU d e)) (JH g d):=by
 cases e with
 |num n u=>
  refine yN 3 57 [.tmp 4] [0,1,3,4,6,7,12,22,33,49,1000000,1000001,1000002] Tryz.func138 fun X hX=>?_
  (repeat(refine yB ?_;(simp[go_sem])));(repeat(refine aC ?_ ?_;(focus(simp[go_sem];done));(repeat(refine yB ?_;(simp[go_sem])))))
  refine aB ?_;simp only[thenQ,blkQ,loopQ];refine aA [(4,bb (decide (u=4))),(1000000,.ow 0),(1000001,.ow 1),(1000002,.ow 2)] [.old 0 jR,.oldM 1 (gR g),.oldM 2 (dR d)] ?_
  simp[go_sem,shareU]
 |nam s=>
  have e1:shareU d (.nam s)=((d.lookup s).getD {}).sh:=BC d s
  rw[e1]
  refine yN 3 57 [.tmp 4] [0,1,3,4,6,7,12,22,33,49,1000000,1000001,1000002] Tryz.func138 fun X hX=>?_
  (repeat(refine yB ?_;(simp[go_sem])));(repeat(first|(refine aC ?_ ?_;(focus(simp[go_sem];done));(repeat(refine yB ?_;(simp[go_sem];try(refine⟨by kernel_rfl,?_⟩)))))|(refine a8 ?_ ?_;(focus(simp[go_sem];done));(repeat(refine yB ?_;(simp[go_sem]))))))
  refine aB ?_;simp only[thenQ,blkQ,loopQ];refine aA [(4,bb ((d.lookup s).getD {}).sh),(1000000,.ow 0),(1000001,.ow 1),(1000002,.ow 2)] [.old 0 jR,.oldM 1 (gR g),.oldM 2 (dR d)] ?_
  simp[go_sem]
 |un a=>
  refine yN 3 57 [.tmp 4] [0,1,3,4,6,7,12,22,33,49,1000000,1000001,1000002] Tryz.func138 fun X hX=>?_
  (repeat(refine yB ?_;(simp[go_sem])));(repeat(refine a8 ?_ ?_;(focus(simp[go_sem];done));(repeat(refine yB ?_;(simp[go_sem])))))
  refine aB ?_;refine aA [(4,bb false),(1000000,.ow 0),(1000001,.ow 1),(1000002,.ow 2)] [.old 0 jR,.oldM 1 (gR g),.oldM 2 (dR d)] ?_
  simp[go_sem,shareU]
 |ite a b c=>
  have c1:=ih b he.2.1 (by simp only[E.lev]at hl;omega)
  have e1:shareU d (.ite a b c)=shareU d b:=rfl
  rw[e1]
  refine yN 3 57 [.tmp 4] [0,1,3,4,6,7,12,22,33,49,1000000,1000001,1000002] Tryz.func138 fun X hX=>?_
  (repeat(refine yB ?_;(simp[go_sem])));(repeat(first|(refine aC ?_ ?_;(focus(simp[go_sem];done));(repeat(refine yB ?_;(simp[go_sem]))))|(refine a8 ?_ ?_;(focus(simp[go_sem];done));(repeat(refine yB ?_;(simp[go_sem]))))))
  refine yH [0,1,2] c1 ?_
  simp[go_sem]
  refine aB ?_;simp only[thenQ,blkQ,loopQ];refine aA [(4,bb (shareU d b)),(1000000,.ow 0),(1000001,.ow 1),(1000002,.ow 2)] [.old 0 jR,.oldM 1 (gR g),.oldM 2 (dR d)] ?_
  simp[go_sem]
 |bin o a b=>
  have hA:=ih a he.2.1 (by simp only[E.lev]at hl;omega)
  have hB:=ih b he.2.2 (by simp only[E.lev]at hl;omega)
  have ho:=he.1
  by_cases h1:o=2∨o=3∨o=6∨o=7
  ·have e1:shareU d (.bin o a b)=shareU d a:=by simp only[shareU];rw[if_pos h1]
   rw[e1]
   clear ho he hl
   rcases h1 with rfl|rfl|rfl|rfl
   all_goals
    refine yN 3 57 [.tmp 4] [0,1,3,4,6,7,12,22,33,49,1000000,1000001,1000002] Tryz.func138 fun X hX=>?_
    (repeat(refine yB ?_;(simp[go_sem])));(repeat(first|(refine aC ?_ ?_;(focus(simp[go_sem];done));(repeat(refine yB ?_;(simp[go_sem]))))|(refine a8 ?_ ?_;(focus(simp[go_sem];done));(repeat(refine yB ?_;(simp[go_sem]))))))
    refine yH [0,1,2] hA ?_
    simp[go_sem]
    refine aB ?_;simp only[thenQ,blkQ,loopQ];refine aA [(4,bb (shareU d a)),(1000000,.ow 0),(1000001,.ow 1),(1000002,.ow 2)] [.old 0 jR,.oldM 1 (gR g),.oldM 2 (dR d)] ?_
    simp[go_sem]
  by_cases h2:o=4
  ·have e1:shareU d (.bin o a b)=(shareU d a&&shareU d b):=by simp only[shareU];rw[if_neg h1,if_pos h2]
   rw[e1]
   subst h2
   refine yN 3 57 [.tmp 4] [0,1,3,4,6,7,12,22,33,49,1000000,1000001,1000002] Tryz.func138 fun X hX=>?_
   (repeat(refine yB ?_;(simp[go_sem])));(repeat(first|(refine aC ?_ ?_;(focus(simp[go_sem];done));(repeat(refine yB ?_;(simp[go_sem]))))|(refine a8 ?_ ?_;(focus(simp[go_sem];done));(repeat(refine yB ?_;(simp[go_sem]))))))
   refine yH [0,1,2] hA ?_
   simp[go_sem]
   refine aW [0,1,2] (fun hg=>hB) (by simp[go_sem]) (by simp[go_sem]) ?_
   simp[go_sem]
   refine aB ?_;simp only[thenQ,blkQ,loopQ];refine aA [(4,bb (shareU d a&&shareU d b)),(1000000,.ow 0),(1000001,.ow 1),(1000002,.ow 2)] [.old 0 jR,.oldM 1 (gR g),.oldM 2 (dR d)] ?_
   simp[go_sem]
  have e1:shareU d (.bin o a b)=false:=by simp only[shareU];rw[if_neg h1,if_neg h2]
  rw[e1]
  have n0:¬o=0:=by omega
  have n1:¬o=1:=by omega
  have n2:¬o=2:=by omega
  have n3:¬o=3:=by omega
  have n6:¬o=6:=by omega
  have n7:¬o=7:=by omega
  have n13:¬o=13:=by omega
  refine yN 3 57 [.tmp 4] [0,1,3,4,6,7,12,22,33,49,1000000,1000001,1000002] Tryz.func138 fun X hX=>?_
  (repeat(refine yB ?_;(simp[go_sem,n0,n1,n2,n3,n6,n7,h2,n13])));(repeat(refine a8 ?_ ?_;(focus(simp[go_sem,n0,n1,n2,n3,n6,n7,h2,n13];done));(repeat(refine yB ?_;(simp[go_sem,n0,n1,n2,n3,n6,n7,h2,n13])))))
  refine aB ?_;refine aA [(4,bb false),(1000000,.ow 0),(1000001,.ow 1),(1000002,.ow 2)] [.old 0 jR,.oldM 1 (gR g),.oldM 2 (dR d)] ?_
  simp[go_sem]
theorem BG(g:List (By×Int))(d:List (By×Mn)):∀(N:Nat) (e:E),okE e→e.lev≤N→MeansH Tryz.prog 138 (JH g d) [.el 0 2 0 0,ex e] (bb (shareU d e)) (JH g d)
 |0,e,_,h=>by cases e<;>simp[E.lev]at h
 |N+1,e,he,hl=>IY g d N (BG g d N) e he hl
end Go.Proofs.YtllgjognpobnpaaGreatDoor

namespace Go.Proofs.YtllgjognpobnpaaGreatDoor
open Go.RowKit Go.Ab
attribute [local irreducible] AWP Go.Ab.Sub Means MeansH CallK CallG CallT CallGT PanicH DefH
abbrev vr(v:By×Int):AV:=.agg [ss v.1,ii v.2,ii 0]
@[go_sem] theorem AR{L:List (By×Int)}{k:Nat}(h:k<L.length):nth (L.map vr) k=vr L[k]:=cG vr h
theorem pV(s:By)(u:Int):∀(g:List (By×Int)),(g.lookup s).isSome=false→updA Tryz.prog 9 (ss s) (ii u) (gm g)=some (gm (g++[(s,u)]))
 | [],_=>rfl
 |(a,v)::g,h=>by
  simp only[List.lookup_cons]at h
  by_cases e:s=a
  ·subst e;simp at h
  ·have h2:(s==a)=false:=by simpa using e
   rw[h2]at h
   have ih:=pV s u g h
   simp only[gm,List.map_cons,updA,cJ,e,decide_false,List.cons_append]at ih⊢
   rw[ih];rfl
theorem BH(s:By)(m:Mn):∀(g:List (By×Mn)),(∀p∈g,p.1≠s)→updA Tryz.prog 9 (ss s) (mnA m) (dm g)=some (dm (g++[(s,m)]))
 | [],_=>rfl
 |(a,v)::g,h=>by
  have e:¬s=a:=fun e=>h (a,v) (by simp) e.symm
  have ih:=BH s m g (fun p hp=>h p (by simp[hp]))
  simp only[dm,List.map_cons,updA,cJ,e,decide_false,List.cons_append]at ih⊢
  rw[ih];rfl
def givS(g:List (By×Int))(v:By×Int):List (By×Int):=if(g.lookup v.1).isSome then g else g++[v]
theorem eZ(v:By×Int):∀(l:List (By×Int)) (g:List (By×Int)),givU g (l++[v])=givS (givU g l) v
 | [],g=>by
   simp only[List.nil_append,givU,givS]
   split<;>rename_i h<;>simp[h]
 |x::l,g=>by
  rw[List.cons_append,givU,givU]
  exact eZ v l _
def letS(g:List (By×Int))(d:List (By×Mn))(x:By×E):By×Mn:=(x.1,⟨(unitU g d x.2).1,(unitU g d x.2).2,shareU d x.2⟩)
theorem mE(g:List (By×Int))(x:By×E):∀(l:List (By×E)) (d:List (By×Mn)),letsU g d (l++[x])=letsU g d l++[letS g (letsU g d l) x]
 | [],d=>rfl
 |y::l,d=>by
  rw[List.cons_append,letsU,letsU]
  exact mE g x l _
theorem oI(g:List (By×Int)):∀(l:List (By×E)) (d:List (By×Mn)),(letsU g d l).map (·.1)=d.map (·.1)++l.map (·.1)
 | [],d=>by simp[letsU]
 |y::l,d=>by rw[letsU,oI g l];simp
theorem yO(g:List (By×Int)){l:List (By×E)}(h:OkL l){n:Nat}(hn:n<l.length):∀p∈letsU g [] (l.take n),p.1≠l[n].1:=by
 intro p hp e
 have h1:p.1∈(letsU g [] (l.take n)).map (·.1):=List.mem_map_of_mem hp
 rw[oI]at h1
 simp only[List.map_nil,List.nil_append,List.mem_map]at h1
 obtain⟨x,hx,hx2⟩:=h1
 obtain⟨k,hk,rfl⟩:=List.getElem_of_mem hx
 have hk2:k<n:=by rw[List.length_take]at hk;omega
 rw[List.getElem_take]at hx2
 exact h.two k n (by omega) hn hk2 (hx2.trans e)
theorem HL(l:By×E)(h:OkE l.2):Means true Tryz.prog 137 [lt l] (bb false):=by
 have c1:=bS l.2 h
 refine yM true 7 [.tmp 2] [0,1,2] Tryz.func137 fun X hX=>?_
 (repeat(refine yA ?_;(simp[go_sem])))
 refine aD c1 ?_
 simp[go_sem]
 (repeat(refine yA ?_;(simp[go_sem])))
set_option maxHeartbeats 8000000 in
set_option maxRecDepth 20000 in
theorem mF(L:List (By×E))(V:List (By×Int))(e:E)(hL:OkL L)(hV:V.length≤100∧∀v∈V,0≤v.2∧v.2<5)(he:OkE e):
  MeansH Tryz.prog 100 [] [.sl (L.map lt),.sl (V.map vr),ex e] (.tup [.el 0 2 0 0,bb true]) (JH (givU [] V) (letsU (givU [] V) [] L)):=by
 have c1:=bS e he
 have hl:=hL.len
 have c2:=BF 137 (fun _=>false) L (by omega) (fun x hx=>HL x (hL.exp x hx)) (by simp[go_sem])
 have hany:(L.any fun _=>false)=false:=by simp
 rw[hany]at c2
 have hv:=hV.1
 have h20:¬(20:Int)<L.length:=by omega
 refine yN 0 96 [.tmp 6,.tmp 7] [0,1,2,5,6,7,8,10,12,14,15,16,32,33,34,35,36,46,58,68,69,70,71] Tryz.func100 fun X hX=>?_
 (repeat(refine yB ?_;(simp[go_sem,h20])))
 refine aI (fun hg=>c1) ?_
 simp[go_sem]
 refine aI (fun hg=>c2) ?_
 simp[go_sem]
 refine yF ?_ (by simp[go_sem,h20])
 (repeat(refine yB ?_;(simp[go_sem])))
 refine aG (fun n:Nat=>⟨mkE [(0,.sl (L.map lt)),(5,.el 0 5 0 0),(8,.el 3 2 0 0),(33,.sl (V.map vr)),(34,ii V.length),(35,ii n)],
  [.row ⟨30,5,[ex e]⟩,.map (gR (givU [] (V.take n))),.map (dR []),.row jR]⟩) (fun n=>n≤V.length) (fun n=>V.length-n) 0 ?_ ?_ ?_
 ·refine yS _ [.old 0 ⟨30,5,[ex e]⟩,.oldM 1 ⟨9,3,[]⟩,.oldM 2 ⟨9,221,[]⟩,.old 3 jR] ?_
  simp[go_sem,gm,dm,givU]
 ·simp
 ·rintro n hn
  (repeat(refine yB ?_;(simp[go_sem])))
  refine yC (decide (n<V.length)) (fun hc=>?_) fun hc=>?_
  ·simp at hc
   have hq:=AR hc
   have wk:=w64 (x:=(n:Int)+1) (by omega) (by omega)
   have hu:=hV.2 V[n] (List.getElem_mem hc)
   have hn1:¬V[n].2<0:=by omega
   have hn2:¬5≤V[n].2:=by omega
   have ht:givU [] (V.take (n+1))=givS (givU [] (V.take n)) V[n]:=by rw[List.take_succ_eq_append_getElem hc,eZ]
   have hup:=pV V[n].1 V[n].2 (givU [] (V.take n))
   generalize V[n]=v at*
   generalize givU [] (V.take n)=G at*
   (repeat(refine yB ?_;(simp[go_sem,hc,hq,hn1,hn2])))
   refine a8 (by simp[go_sem,hn1,hn2]) ?_
   (repeat(refine yB ?_;(simp[go_sem,hq];try(refine⟨by kernel_rfl,?_⟩))))
   refine yC (!(G.lookup v.1).isSome) (fun hd=>?_) fun hd=>?_
   ·have hd:(G.lookup v.1).isSome=false:=by simpa using hd
    have hup:=hup hd
    have e2:givS G v=G++[v]:=by unfold givS;rw[hd];simp
    (repeat(refine yB ?_;(simp[go_sem,hup,wk];try(refine⟨by kernel_rfl,?_⟩))))
    refine⟨n+1,by omega,by omega,?_⟩
    rw[ht,e2]
    refine yS _ [.old 0 ⟨30,5,[ex e]⟩,.oldM 1 (gR (G++[v])),.oldM 2 (dR []),.old 3 jR] ?_
    simp[go_sem]
   ·have hd:(G.lookup v.1).isSome=true:=by simpa using hd
    have e2:givS G v=G:=by unfold givS;rw[hd];simp
    (repeat(refine yB ?_;(simp[go_sem,wk])))
    refine⟨n+1,by omega,by omega,?_⟩
    rw[ht,e2]
    refine yS _ [.old 0 ⟨30,5,[ex e]⟩,.oldM 1 (gR G),.oldM 2 (dR []),.old 3 jR] ?_
    simp[go_sem]
  ·have hnn:n=V.length:=by simp at hc;omega
   subst hnn
   rw[List.take_of_length_le (Nat.le_refl _)]
   generalize givU [] V=G at*
   (repeat(refine yB ?_;(simp[go_sem])))
   refine aG (fun n:Nat=>⟨mkE [(8,.el 3 2 0 0),(68,.sl (L.map lt)),(69,ii L.length),(70,ii n)],
    [.row ⟨30,5,[ex e]⟩,.map (gR G),.map (dR (letsU G [] (L.take n))),.row jR]⟩) (fun n=>n≤L.length) (fun n=>L.length-n) 0 ?_ ?_ ?_
   ·refine yS _ [.old 0 ⟨30,5,[ex e]⟩,.oldM 1 (gR G),.oldM 2 (dR []),.old 3 jR] ?_
    simp[go_sem,letsU]
   ·simp
   ·rintro n hn
    (repeat(refine yB ?_;(simp[go_sem])))
    refine yC (decide (n<L.length)) (fun hc=>?_) fun hc=>?_
    ·simp at hc
     have hq:=dA hc
     have wk:=w64 (x:=(n:Int)+1) (by omega) (by omega)
     have hx:=hL.exp L[n] (List.getElem_mem hc)
     have ht:letsU G [] (L.take (n+1))=letsU G [] (L.take n)++[letS G (letsU G [] (L.take n)) L[n]]:=by rw[List.take_succ_eq_append_getElem hc,mE]
     have hoff:=yO G hL hc
     generalize letsU G [] (L.take n)=D at*
     have hup:=BH L[n].1 (letS G D L[n]).2 D hoff
     have d1:=uC G D 12 L[n].2 hx.1 hx.2
     have d2:=BG G D 12 L[n].2 hx.1 hx.2
     generalize L[n]=x at*
     (repeat(refine yB ?_;(simp[go_sem,hc,hq])))
     refine yH [3,1,2] d1 ?_
     simp[go_sem]
     (repeat(refine yB ?_;(simp[go_sem])))
     simp only[letS,mnA]at hup ht
     generalize D++[(x.1,({u:=(unitU G D x.2).1,e:=(unitU G D x.2).2,sh:=shareU D x.2}:Mn))]=D2 at hup ht
     refine bN [3,1,2] (d2) (by simp[go_sem]) ?_
     (simp[go_sem,hup];try(refine⟨by kernel_rfl,?_⟩))
     (repeat(refine yB ?_;(simp[go_sem,wk])))
     refine⟨n+1,by omega,by omega,?_⟩
     rw[ht]
     refine yS _ [.old 0 ⟨30,5,[ex e]⟩,.oldM 1 (gR G),.oldM 2 (dR D2),.old 3 jR] ?_
     simp[go_sem]
    ·have hnn:n=L.length:=by simp at hc;omega
     subst hnn
     rw[List.take_of_length_le (Nat.le_refl _)]
     (repeat(refine yB ?_;(simp[go_sem])))
     refine aB ?_;refine aA [(6,.el 0 2 0 0),(7,bb true)] [.old 3 jR,.oldM 1 (gR G),.oldM 2 (dR (letsU G [] L))] ?_
     simp[go_sem]
theorem AW(L:List (By×E))(V:List (By×Int))(e:E)(hL:OkL L)(hV:V.length≤100∧∀v∈V,0≤v.2∧v.2<5)(he:OkE e):
  Means true Tryz.prog 51 [.sl (L.map lt),.sl (V.map vr),ex e] (.tup [ii (unitOf V L e).1,ii (unitOf V L e).2]):=by
 have c1:=mF L V e hL hV he
 have c2:=uC (givU [] V) (letsU (givU [] V) [] L) 12 e he.1 he.2
 have e1:unitOf V L e=unitU (givU [] V) (letsU (givU [] V) [] L) e:=rfl
 rw[e1]
 generalize givU [] V=G at*
 generalize letsU G [] L=D at*
 refine yM true 24 [.tmp 6,.tmp 7] [0,1,2,5,6,7,8,9,18] Tryz.func51 fun X hX=>?_
 (repeat(refine yA ?_;(simp[go_sem])))
 refine yH [] c1 ?_
 simp[go_sem]
 (repeat(refine yA ?_;(simp[go_sem])))
 refine a8 (by simp[go_sem]) ?_
 (repeat(refine yA ?_;(simp[go_sem])))
 refine yH [1,2,3] c2 ?_
 simp[go_sem]
 (repeat(refine yA ?_;(simp[go_sem])))
theorem lH(L:List (By×E))(e:E)(hL:OkL L)(he:OkE e):
  Means true Tryz.prog 204 [.sl (L.map lt),ex e] (bb (shareOf L e)):=by
 have c1:=mF L [] e hL ⟨by simp,by simp⟩ he
 have c2:=BG [] (letsU [] [] L) 12 e he.1 he.2
 have e1:shareOf L e=shareU (letsU [] [] L) e:=rfl
 rw[e1]
 simp only[givU,List.map_nil]at c1
 generalize letsU [] [] L=D at*
 refine yM true 19 [.tmp 4] [0,1,3,4,5,6] Tryz.func204 fun X hX=>?_
 (repeat(refine yA ?_;(simp[go_sem])))
 refine yH [] c1 ?_
 simp[go_sem]
 (repeat(refine yA ?_;(simp[go_sem])))
 refine aW [1,2,3] (fun hg=>c2) (by simp[go_sem]) (by simp[go_sem]) ?_
 simp[go_sem]
 (repeat(refine yA ?_;(simp[go_sem])))
end Go.Proofs.YtllgjognpobnpaaGreatDoor

namespace Go.Proofs.YtllgjognpobnpaaGreatDoor
open Go.RowKit Go.Ab
attribute [local irreducible] AWP Go.Ab.Sub Means MeansH CallK CallG CallT CallGT PanicH DefH
def dayB(n:Int):Bool:=decide (0≤n)&&decide (n≤1048576)
theorem g8{n:Int}:dayB n=true↔0≤n∧n≤1048576:=by simp[dayB]
theorem mG(n:Int):Means true Tryz.prog 83 [ii n] (bb (dayB n)):=by
 refine yM true 9 [.tmp 2] [0,2] Tryz.func83 fun X hX=>?_
 (repeat(refine yA ?_;(simp[go_sem])))
 simp[dayB]
abbrev t2(x:Int×Int):AV:=.tup [ii x.1,ii x.2]
theorem g9{p l:Int}(h1:0≤p)(h2:p≤5000)(h3:0≤l)(h4:l≤5000):0≤p*l∧p*l≤25000000:=by
 refine⟨Int.mul_nonneg h1 h3,?_⟩
 have:=Int.mul_le_mul h2 h4 h3 (by omega:(0:Int)≤5000)
 omega
def shV(p f l d:Int):Int×Int:=if dayB f then(if 1048576<f+p*l+d then(0,3)else(f+p*l+d,0))else(0,1)
theorem oJ(p f l d:Int)(hp:0≤p∧p≤5000)(hl:1≤l∧l≤5000)(hd:0≤d∧d≤100000):Means true Tryz.prog 128 [ii p,ii f,ii l,ii d] (t2 (shV p f l d)):=by
 have c1:=mG f
 have c2:=mG l
 have hdl:dayB l=true:=g8.2 (by omega)
 rw[hdl]at c2
 have hb:=g9 hp.1 hp.2 (by omega) hl.2
 have w1:=w64 (x:=p*l) (by omega) (by omega)
 have n1:¬p<0:=by omega
 have n2:¬l=0:=by omega
 have n3:¬1048576<p:=by omega
 generalize hq:p*l=q at hb w1
 cases hf:dayB f with
 |false=>
  rw[hf]at c1
  refine yM true 47 [.tmp 8,.tmp 9] [0,1,2,3,8,9,10,27] Tryz.func128 fun X hX=>?_
  (repeat(refine yA ?_;(simp[go_sem,n1,n2])))
  refine aI (fun hg=>c1) ?_
  try(simp[go_sem])
  first|refine bT rfl ?_|refine dQ rfl ?_
  try(simp[go_sem])
  refine yT ?_
  rw[show shV p f l d=(0,1) by simp[shV,hf]]
  (repeat(refine yA ?_;(simp[go_sem])))
 |true=>
  rw[hf]at c1
  have hf':=g8.1 hf
  have w2:=w64 (x:=f+q) (by omega) (by omega)
  have w3:=w64 (x:=f+q+d) (by omega) (by omega)
  refine yM true 47 [.tmp 8,.tmp 9] [0,1,2,3,8,9,10,27] Tryz.func128 fun X hX=>?_
  (repeat(refine yA ?_;(simp[go_sem,n1,n2])))
  refine aI (fun hg=>c1) ?_
  try(simp[go_sem])
  refine aI (fun hg=>c2) ?_
  try(simp[go_sem,n2])
  refine yF ?_ (by simp[go_sem,n2])
  (repeat(refine yA ?_;(simp[go_sem,n3,hq,w1,w2,w3])))
  refine yC (decide (1048576<f+q+d)) (fun hc=>?_) (fun hc=>?_) (by simp[go_sem,n3])
  ·simp at hc
   rw[show shV p f l d=(0,3) by simp[shV,hf,hq,hc]]
   (repeat(refine yA ?_;(simp[go_sem])))
  ·have hc':¬1048576<f+q+d:=by simpa using hc
   rw[show shV p f l d=(f+q+d,0) by simp[shV,hf,hq,hc']]
   (repeat(refine yA ?_;(simp[go_sem,hq,w1,w2,w3])))
def beginsV(p f l:Int):Int×Int:=shV p f l 0
theorem BI(p f l:Int)(hp:0≤p∧p≤5000)(hl:1≤l∧l≤5000):Means true Tryz.prog 85 [ii p,ii f,ii l] (t2 (beginsV p f l)):=by
 have c1:=oJ p f l 0 hp hl (by omega)
 refine yM true 14 [.tmp 6,.tmp 7] [0,1,2,6,7] Tryz.func85 fun X hX=>?_
 (repeat(refine yA ?_;(simp[go_sem])))
 refine aD c1 ?_
 try(simp[go_sem])
 (repeat(refine yA ?_;(simp[go_sem])))
 all_goals exact⟨rfl,rfl⟩
def dueV(p f l g:Int):Int×Int:=shV p f l (l-1+g)
theorem GJ(p f l g:Int)(hp:0≤p∧p≤5000)(hl:1≤l∧l≤5000)(hg:0≤g∧g≤5000):Means true Tryz.prog 84 [ii p,ii f,ii l,ii g] (t2 (dueV p f l g)):=by
 have c0:=mG g
 have hdg:dayB g=true:=g8.2 (by omega)
 rw[hdg]at c0
 have c1:=oJ p f l (l-1+g) hp hl (by omega)
 have e:min (max l 1) 1048576=l:=by omega
 have w:=w64 (x:=l-1) (by omega) (by omega)
 have w2:=w64 (x:=l-1+g) (by omega) (by omega)
 refine yM true 25 [.tmp 8,.tmp 9] [0,1,2,3,8,9,12] Tryz.func84 fun X hX=>?_
 (repeat(refine yA ?_;(simp[go_sem])))
 refine aD c0 ?_
 try(simp[go_sem])
 refine yF ?_
 (repeat(refine yA ?_;(simp[go_sem,e,w,w2])))
 refine aD c1 ?_
 try(simp[go_sem])
 (repeat(refine yA ?_;(simp[go_sem])))
 all_goals exact⟨rfl,rfl⟩
theorem HM{p f l d:Int}(hp:0≤p∧p≤5000)(hl:1≤l∧l≤5000)(hd:0≤d∧d≤100000):0≤(shV p f l d).1∧(shV p f l d).1≤1048576∧((shV p f l d).2=0∨(shV p f l d).2=1∨(shV p f l d).2=3):=by
 have hb:=g9 hp.1 hp.2 (by omega) hl.2
 unfold shV
 split
 ·rename_i hf
  have:=g8.1 hf
  split
  ·simp
  ·simp only[]
   refine⟨by omega,by omega,.inl ?_⟩
   trivial
 ·simp
def periodV(o f l:Int):Int×Int:=if dayB o&&dayB f then(if o<f then(0,26)else((o-f)/l,0))else(0,1)
theorem s4(o f l:Int)(hl:1≤l∧l≤5000):Means true Tryz.prog 40 [ii o,ii f,ii l] (t2 (periodV o f l)):=by
 have c1:=mG o
 have c2:=mG f
 have c3:=mG l
 have hdl:dayB l=true:=g8.2 (by omega)
 rw[hdl]at c3
 have n2:¬l=0:=by omega
 cases h1:dayB o with
 |false=>
  rw[h1]at c1
  refine yM true 35 [.tmp 6,.tmp 7] [0,1,2,6,7,8,26] Tryz.func40 fun X hX=>?_
  (repeat(refine yA ?_;(simp[go_sem])))
  refine aD c1 ?_
  try(simp[go_sem,n2])
  first|refine bT rfl ?_|refine dQ rfl ?_
  try(simp[go_sem,n2])
  first|refine bT rfl ?_|refine dQ rfl ?_
  try(simp[go_sem,n2])
  refine yT ?_
  rw[show periodV o f l=(0,1) by simp[periodV,h1]]
  (repeat(refine yA ?_;(simp[go_sem])))
 |true=>
  rw[h1]at c1
  have b1:=g8.1 h1
  cases h2:dayB f with
  |false=>
   rw[h2]at c2
   refine yM true 35 [.tmp 6,.tmp 7] [0,1,2,6,7,8,26] Tryz.func40 fun X hX=>?_
   (repeat(refine yA ?_;(simp[go_sem])))
   refine aD c1 ?_
   try(simp[go_sem,n2])
   refine aI (fun hg=>c2) ?_
   try(simp[go_sem,n2])
   first|refine bT rfl ?_|refine dQ rfl ?_
   try(simp[go_sem,n2])
   refine yT ?_
   rw[show periodV o f l=(0,1) by simp[periodV,h1,h2]]
   (repeat(refine yA ?_;(simp[go_sem])))
  |true=>
   rw[h2]at c2
   have b2:=g8.1 h2
   refine yM true 35 [.tmp 6,.tmp 7] [0,1,2,6,7,8,26] Tryz.func40 fun X hX=>?_
   (repeat(refine yA ?_;(simp[go_sem])))
   refine aD c1 ?_
   try(simp[go_sem,n2])
   refine aI (fun hg=>c2) ?_
   try(simp[go_sem,n2])
   refine aI (fun hg=>c3) ?_
   try(simp[go_sem,n2])
   refine yF ?_ (by simp[go_sem,n2])
   (repeat(refine yA ?_;(simp[go_sem])))
   by_cases hlt:o<f
   ·refine yT ?_ (by simp[go_sem,hlt])
    rw[show periodV o f l=(0,26) by simp[periodV,h1,h2,hlt]]
    (repeat(refine yA ?_;(simp[go_sem])))
   ·refine yF ?_ (by simp[go_sem,hlt])
    have w1:=w64 (x:=o-f) (by omega) (by omega)
    have hq:=td (a:=o-f) (b:=l) (by omega)
    have hdv:0≤(o-f)/l∧(o-f)/l≤o-f:=⟨Int.ediv_nonneg (by omega) (by omega),Int.ediv_le_self _ (by omega)⟩
    have w2:=w64 (x:=(o-f)/l) (by omega) (by omega)
    rw[show periodV o f l=((o-f)/l,0) by simp[periodV,h1,h2,hlt]]
    (repeat(refine yA ?_;(simp[go_sem,n2,w1,hq,w2])))
def lateV(o p f l g:Int):Int×Int:=if dayB o then(if(dueV p f l g).2=0 then(max 0 (o-(dueV p f l g).1),0)else(0,(dueV p f l g).2))else(0,1)
theorem HN(o p f l g:Int)(hp:0≤p∧p≤5000)(hl:1≤l∧l≤5000)(hg:0≤g∧g≤5000):Means true Tryz.prog 88 [ii o,ii p,ii f,ii l,ii g] (t2 (lateV o p f l g)):=by
 have c0:=mG o
 have c1:=GJ p f l g hp hl hg
 have hb:0≤(dueV p f l g).1∧(dueV p f l g).1≤1048576∧((dueV p f l g).2=0∨(dueV p f l g).2=1∨(dueV p f l g).2=3):=HM hp hl (by omega)
 unfold lateV
 generalize dueV p f l g=x at c1 hb
 obtain⟨a,e⟩:=x
 simp only[]at hb c1⊢
 refine yM true 32 [.tmp 10,.tmp 11] [0,1,2,3,4,10,11,12,13,16,26] Tryz.func88 fun X hX=>?_
 (repeat(refine yA ?_;(simp[go_sem])))
 refine aD c0 ?_
 try(simp[go_sem])
 cases ho:dayB o with
 |false=>
  refine yT ?_ (by simp[go_sem,ho])
  (repeat(refine yA ?_;(simp[go_sem])))
 |true=>
  have b1:=g8.1 ho
  refine yF ?_ (by simp[go_sem,ho])
  (repeat(refine yA ?_;(simp[go_sem])))
  refine aD c1 ?_
  try(simp[go_sem])
  by_cases he:e=0
  ·(try rw[if_pos rfl]);(try rw[if_pos he])
   (repeat(refine yA ?_;(simp[go_sem])))
   refine yF ?_ (by simp[go_sem,he])
   have w1:=w64 (x:=o-a) (by omega) (by omega)
   (repeat(refine yA ?_;(simp[go_sem,w1])))
  ·(try rw[if_pos rfl]);(try rw[if_neg he])
   (repeat(refine yA ?_;(simp[go_sem])))
   refine yT ?_ (by simp[go_sem,he])
   (repeat(refine yA ?_;(simp[go_sem])))
structure Cn where
 a:Int
 b:Int
 n:Int
 deriving DecidableEq
abbrev cn(c:Cn):AV:=.agg [ii c.a,ii c.b,ii c.n]
@[go_sem] theorem GT{L:List Cn}{k:Nat}(h:k<L.length):nth (L.map cn) k=cn L[k]:=cG cn h
def calL(p w g:Int):List Cn:=[⟨2,0,p-1⟩,⟨0,2,1-p⟩,⟨1,2,1-w⟩,⟨2,1,w-1⟩,⟨0,1,0⟩,⟨3,2,g⟩,⟨2,3,-g⟩,⟨4,2,p⟩,⟨2,4,-p⟩,⟨3,4,0⟩]
set_option maxRecDepth 20000 in
theorem iJ(b:Bl)(h:OkB b):Means true Tryz.prog 21 [bl b] (.sl ((calL b.period b.wait b.grace).map cn)):=by
 have c1:=eK b h
 have hp:=h.period
 have hw:=h.wait
 have hg:=h.grace
 have w1:=w64 (x:=b.period-1) (by omega) (by omega)
 have w2:=w64 (x:=1-b.period) (by omega) (by omega)
 have w3:=w64 (x:=1-b.wait) (by omega) (by omega)
 have w4:=w64 (x:=b.wait-1) (by omega) (by omega)
 have w5:=w64 (x:= -b.grace) (by omega) (by omega)
 have w6:=w64 (x:= -b.period) (by omega) (by omega)
 refine yM true 39 [.tmp 2] [0,1,2,5] Tryz.func21 fun X hX=>?_
 (repeat(refine yA ?_;(simp[go_sem])))
 refine aD c1 ?_
 try(simp[go_sem])
 refine yF ?_
 (repeat(refine yA ?_;(simp[go_sem,w1,w2,w3,w4,w5,w6])))
 simp[calL]
end Go.Proofs.YtllgjognpobnpaaGreatDoor

namespace Go.Proofs.YtllgjognpobnpaaGreatDoor
open Go.RowKit Go.Ab
attribute [local irreducible] AWP Go.Ab.Sub Means MeansH CallK CallG CallT CallGT PanicH DefH CallU
def small(n:Int):Option Int:=if 0≤n∧n≤1000000 then some n else none
def evD(G:List (By×Int)):E→Option Int
 | .num n _=>small n
 | .nam s=>(G.lookup s).bind small
 | .bin o a b=>match evD G a,evD G b with
   |some x,some y=>if o=4 then(if shareOf [] a=false∧shareOf [] b=false then small (x*y)else none)else if o=5 then(if 0<y then small (x/y)else none)else none
   |_,_=>none
 |_=>none
theorem cU{n v:Int}(h:small n=some v):v=n∧0≤n∧n≤1000000:=by
 unfold small at h
 split at h
 ·simp only[Option.some.injEq]at h
  exact⟨h.symm,by assumption⟩
 ·cases h
theorem uD{G:List (By×Int)}{e:E}{v:Int}(h:evD G e=some v):0≤v∧v≤1000000:=by
 cases e with
 |num n u=>obtain⟨rfl,hq⟩:=cU h;exact hq
 |nam s=>
  obtain⟨x,_,h⟩:=Option.bind_eq_some_iff.1 h
  obtain⟨rfl,hq⟩:=cU h;exact hq
 |un a=>cases h
 |ite a b c=>cases h
 |bin o a b=>
  simp only[evD]at h
  split at h
  ·split at h
   ·split at h
    ·obtain⟨rfl,hq⟩:=cU h;exact hq
    ·cases h
   ·split at h
    ·split at h
     ·obtain⟨rfl,hq⟩:=cU h;exact hq
     ·cases h
    ·cases h
  ·cases h
set_option maxRecDepth 20000 in
theorem qB(n:Int)(h:0≤n∧n≤1000000):Means true Tryz.prog 197 [ii n] (ii n):=by
 have h1:¬1099511627776<n:=by omega
 have h2:¬n< -1099511627776:=by omega
 refine yM true 12 [.tmp 2] [0,2,8] Tryz.func197 fun X hX=>?_
 (repeat(refine yA ?_;(simp[go_sem,h1,h2])));(repeat(refine a8 ?_ ?_;(focus(simp[go_sem,h1,h2];done));(repeat(refine yA ?_;(simp[go_sem,h1,h2])))))
set_option maxRecDepth 20000 in
theorem wA(a b:Int)(ha:0≤a∧a≤1000000000000)(hb:0<b):Means true Tryz.prog 206 [ii a,ii b] (ii (a/b)):=by
 have n1:¬b=0:=by omega
 have n2:¬a<0:=by omega
 have n3:¬b<0:=by omega
 have hq:=td (a:=a) (b:=b) (by omega)
 have hdv:0≤a/b∧a/b≤a:=⟨Int.ediv_nonneg (by omega) (by omega),Int.ediv_le_self _ (by omega)⟩
 have w2:=w64 (x:=a/b) (by omega) (by omega)
 refine yM true 24 [.tmp 4] [0,1,4,5,20] Tryz.func206 fun X hX=>?_
 (repeat(refine yA ?_;(simp[go_sem,n1,n2,n3,hq,w2])));(repeat(refine a8 ?_ ?_;(focus(simp[go_sem,n1,n2,n3,hq,w2];done));(repeat(refine yA ?_;(simp[go_sem,n1,n2,n3,hq,w2])))))
set_option maxRecDepth 20000 in
theorem yP(a b:Int)(ha:0≤a∧a≤1000000)(hb:0≤b∧b≤1000000)(hab:a*b≤1000000):Means true Tryz.prog 205 [ii a,ii b,ii 1] (ii (a*b)):=by
 have hp:0≤a*b:=Int.mul_nonneg ha.1 hb.1
 have w1:=w64 (x:=a*b) (by omega) (by omega)
 have c1:=wA (a*b) 1 (by omega) (by decide)
 rw[Int.ediv_one]at c1
 have c2:=qB (a*b) (by omega)
 have w0:IntKind.i64.wrap 1099511627777=1099511627777:=by decide
 have w3:IntKind.i64.wrap (-1099511627777)= -1099511627777:=by decide
 have w4:=w64 (x:= -a) (by omega) (by omega)
 by_cases h0:a=0
 ·subst h0
  rw[Int.zero_mul]at c1 c2⊢
  have w1:IntKind.i64.wrap 0=0:=by decide
  refine yM true 41 [.tmp 6] [0,1,2,6,7,32] Tryz.func205 fun X hX=>?_
  (repeat(refine yA ?_;(simp[go_sem,w0,w1])));(repeat(refine a8 ?_ ?_;(focus(simp[go_sem,w0,w1];done));(repeat(refine yA ?_;(simp[go_sem,w0,w1])))))
  refine aD c1 ?_
  simp[go_sem]
  refine aD c2 ?_
  simp[go_sem]
  (repeat(refine yA ?_;(simp[go_sem])))
 ·have hm:max a (-a)=a:=by omega
  have hq:=td (a:=1099511627777) (b:=a) (by omega)
  have hq2:Int.tdiv (-1099511627777) a= -(1099511627777/a):=by rw[Int.neg_tdiv,hq]
  have hge:1000000≤1099511627777/a:=by
   rw[Int.le_ediv_iff_mul_le (by omega)]
   omega
  have hle:1099511627777/a≤1099511627777:=Int.ediv_le_self _ (by omega)
  generalize 1099511627777/a=q at*
  have n1:¬q<b:=by omega
  have n2:¬b< -q:=by omega
  have w5:=w64 (x:=q) (by omega) (by omega)
  have w6:=w64 (x:= -q) (by omega) (by omega)
  refine yM true 41 [.tmp 6] [0,1,2,6,7,32] Tryz.func205 fun X hX=>?_
  (repeat(refine yA ?_;(simp[go_sem,w0,w1,w3,w4,h0,hm,hq,hq2,n1,n2,w5,w6])));(repeat(refine a8 ?_ ?_;(focus(simp[go_sem,w0,w1,w3,w4,h0,hm,hq,hq2,n1,n2,w5,w6];done));(repeat(refine yA ?_;(simp[go_sem,w0,w1,w3,w4,h0,hm,hq,hq2,n1,n2,w5,w6])))))
  refine aD c1 ?_
  simp[go_sem]
  refine aD c2 ?_
  simp[go_sem]
  (repeat(refine yA ?_;(simp[go_sem])))
end Go.Proofs.YtllgjognpobnpaaGreatDoor

namespace Go.Proofs.YtllgjognpobnpaaGreatDoor
open Go.RowKit Go.Ab
attribute [local irreducible] AWP Go.Ab.Sub Means MeansH CallK CallG CallT CallGT PanicH DefH CallU
abbrev mR:Ob:=⟨245,3,[.agg [.sl [],.ow 1,.ow 2]]⟩
abbrev rR:Ob:=⟨291,3,[]⟩
abbrev MH(G:List (By×Int)):List Cell:=[.row mR,.row rR,.map (gR G)]
theorem ER(G:List (By×Int))(s:By)(v:Int)(h:G.lookup s=some v):MeansH Tryz.prog 198 (MH G) [.el 0 3 0 0,ss s,ii 0] (ii v) (MH G):=by
 have h1:(G.lookup s).isSome=true:=by rw[h];rfl
 have h2:(G.lookup s).getD 0=v:=by rw[h];rfl
 refine yN 3 89 [.tmp 6] [0,1,2,6,7,8,9,10,20,25,37,48,76,1000000,1000001,1000002] Tryz.func198 fun X hX=>?_
 (repeat(refine yB ?_;(simp[go_sem,h1,h2])));(repeat(refine aC ?_ ?_;(focus(simp[go_sem,h1,h2];done));(repeat(refine yB ?_;(simp[go_sem,h1,h2])))))
 refine aB ?_;simp only[thenQ,blkQ,loopQ];refine aA [(6,ii v),(1000000,.ow 0),(1000001,.ow 1),(1000002,.ow 2)] [.old 0 mR,.old 1 rR,.oldM 2 (gR G)] ?_
 simp[go_sem]
theorem s6:OkL []:=⟨by simp,by simp,by simp,fun i j hi=>by simp at hi⟩
set_option maxHeartbeats 4000000 in
set_option maxRecDepth 20000 in
theorem BJ(G:List (By×Int))(o:Int)(a b:E)(x y v:Int)(ha:OkE a)(hb:OkE b)(hx:evD G a=some x)(hy:evD G b=some y)(h:evD G (.bin o a b)=some v):
  MeansH Tryz.prog 200 (MH G) [.el 0 3 0 0,ex (.bin o a b),ii x,ii y,ii 0] (ii v) (MH G):=by
 have bx:=uD hx
 have b_y:=uD hy
 simp only[evD,hx,hy]at h
 by_cases h4:o=4
 ·subst h4
  simp only[if_true]at h
  split at h
  ·rename_i hs
   have c1:=lH [] a s6 ha
   have c2:=lH [] b s6 hb
   rw[hs.1]at c1
   rw[hs.2]at c2
   simp only[List.map_nil]at c1 c2
   obtain⟨rfl,hv⟩:=cU h
   have c3:=yP x y bx b_y hv.2
   refine yN 3 87 [.tmp 10] [0,1,2,3,4,6,10,12,13,19,25,50,57,60,67,72,77,1000000,1000001,1000002] Tryz.func200 fun X hX=>?_
   (repeat(refine yB ?_;(simp[go_sem])));(repeat(first|(refine aC ?_ ?_;(focus(simp[go_sem];done));(repeat(refine yB ?_;(simp[go_sem]))))|(refine a8 ?_ ?_;(focus(simp[go_sem];done));(repeat(refine yB ?_;(simp[go_sem]))))))
   refine bH c1 ?_
   simp[go_sem]
   refine eT (fun hg=>c2) ?_
   (simp[go_sem];try(refine⟨by kernel_rfl,?_⟩))
   refine a8 (by simp[go_sem]) ?_
   (repeat(refine yB ?_;(simp[go_sem])))
   refine aD c3 ?_
   simp[go_sem]
   refine aB ?_;simp only[thenQ,blkQ,loopQ];refine aA [(10,ii (x*y)),(1000000,.ow 0),(1000001,.ow 1),(1000002,.ow 2)] [.old 0 mR,.old 1 rR,.oldM 2 (gR G)] ?_
   simp[go_sem]
  ·cases h
 ·rw[if_neg h4]at h
  split at h
  ·rename_i h5
   subst h5
   split at h
   ·rename_i hp
    obtain⟨rfl,hv⟩:=cU h
    have n0:¬y=0:=by omega
    have c1:=wA x y (by omega) hp
    have c2:=qB (x/y) hv
    refine yN 3 87 [.tmp 10] [0,1,2,3,4,6,10,12,13,19,25,50,57,60,67,72,77,1000000,1000001,1000002] Tryz.func200 fun X hX=>?_
    (repeat(refine yB ?_;(simp[go_sem,n0])));(repeat(first|(refine aC ?_ ?_;(focus(simp[go_sem,n0];done));(repeat(refine yB ?_;(simp[go_sem,n0]))))|(refine a8 ?_ ?_;(focus(simp[go_sem,n0];done));(repeat(refine yB ?_;(simp[go_sem,n0]))))))
    refine aD c1 ?_
    simp[go_sem]
    refine aD c2 ?_
    simp[go_sem]
    refine aB ?_;simp only[thenQ,blkQ,loopQ];refine aA [(10,ii (x/y)),(1000000,.ow 0),(1000001,.ow 1),(1000002,.ow 2)] [.old 0 mR,.old 1 rR,.oldM 2 (gR G)] ?_
    simp[go_sem]
   ·cases h
  ·cases h
abbrev VH(G:List (By×Int))(e:E):List Cell:=[.row mR,.row rR,.map (gR G),.row ⟨242,1,[.el 0 3 0 0]⟩,.row ⟨30,5,[ex e]⟩,.row ⟨3,1,[ii 0]⟩]
set_option maxHeartbeats 4000000 in
set_option maxRecDepth 20000 in
theorem IZ(G:List (By×Int))(N:Nat)(ih:∀x v,OkE x→x.lev≤N→evD G x=some v→MeansH Tryz.prog 181 (MH G) [.el 0 3 0 0,ex x,ii 0] (ii v) (MH G))(e:E)(v:Int)(he:OkE e)(hl:e.lev≤N+1)(hv:evD G e=some v):
  MeansH Tryz.prog 181 (MH G) [.el 0 3 0 0,ex e,ii 0] (ii v) (MH G):=by
 cases e with
 |num n u=>
  obtain⟨rfl,h⟩:=cU hv
  have c1:=qB v h
  refine yN 3 68 [.tmp 6] [0,1,2,3,4,5,6,7,10,11,16,23,34,45,51,55,1000000,1000001,1000002] Tryz.func181 fun X hX=>?_
  (repeat(refine yB ?_;(simp[go_sem])));(repeat(refine aC ?_ ?_;(focus(simp[go_sem];done));(repeat(refine yB ?_;(simp[go_sem])))))
  refine aD c1 ?_
  simp[go_sem]
  refine aB ?_;simp only[thenQ,blkQ,loopQ];refine aA [(6,ii v),(1000000,.ow 0),(1000001,.ow 1),(1000002,.ow 2)] [.old 0 mR,.old 1 rR,.oldM 2 (gR G)] ?_
  simp[go_sem]
 |nam s=>
  obtain⟨x,hx,h⟩:=Option.bind_eq_some_iff.1 hv
  obtain⟨rfl,h⟩:=cU h
  have c1:=ER G s v hx
  refine yN 3 68 [.tmp 6] [0,1,2,3,4,5,6,7,10,11,16,23,34,45,51,55,1000000,1000001,1000002] Tryz.func181 fun X hX=>?_
  (repeat(refine yB ?_;(simp[go_sem])));(repeat(first|(refine aC ?_ ?_;(focus(simp[go_sem];done));(repeat(refine yB ?_;(simp[go_sem]))))|(refine a8 ?_ ?_;(focus(simp[go_sem];done));(repeat(refine yB ?_;(simp[go_sem]))))))
  refine yH [0,1,2] c1 ?_
  simp[go_sem]
  refine aB ?_;simp only[thenQ,blkQ,loopQ];refine aA [(6,ii v),(1000000,.ow 0),(1000001,.ow 1),(1000002,.ow 2)] [.old 0 mR,.old 1 rR,.oldM 2 (gR G)] ?_
  simp[go_sem]
 |un a=>cases hv
 |ite a b c=>cases hv
 |bin o a b=>
  have oka:OkE a:=⟨he.1.2.1,by have:=he.2;simp only[E.lev]at this;omega⟩
  have okb:OkE b:=⟨he.1.2.2,by have:=he.2;simp only[E.lev]at this;omega⟩
  obtain⟨x,y,hx,hy⟩:∃x y,evD G a=some x∧evD G b=some y:=by
   simp only[evD]at hv
   split at hv
   ·rename_i x y h1 h2;exact⟨x,y,h1,h2⟩
   ·cases hv
  have cA:=ih a x oka (by simp only[E.lev]at hl;omega) hx
  have cB:=ih b y okb (by simp only[E.lev]at hl;omega) hy
  have c3:=BJ G o a b x y v oka okb hx hy hv
  have kA:MeansH Tryz.prog 196 (VH G (.bin o a b)) [ii 0,.el 3 1 0 0,.el 4 5 0 0,.el 5 1 0 0] (ii x) (VH G (.bin o a b)):=by
   refine yN 6 14 [.tmp 5] [0,1,2,3,5,1000000,1000001,1000002,1000003,1000004,1000005] Tryz.func196 fun X hX=>?_
   (repeat(refine yB ?_;(simp[go_sem])))
   refine bN [0,1,2] (cA) (by simp[go_sem]) ?_
   (simp[go_sem];try(refine⟨by kernel_rfl,?_⟩))
   refine aB ?_;refine aA [(5,ii x),(1000000,.ow 0),(1000001,.ow 1),(1000002,.ow 2),(1000003,.ow 3),(1000004,.ow 4),(1000005,.ow 5)] [.old 0 mR,.old 1 rR,.oldM 2 (gR G),.old 3 ⟨242,1,[.el 0 3 0 0]⟩,.old 4 ⟨30,5,[ex (.bin o a b)]⟩,.old 5 ⟨3,1,[ii 0]⟩] ?_
   simp[go_sem]
  have kB:MeansH Tryz.prog 196 (VH G (.bin o a b)) [ii 1,.el 3 1 0 0,.el 4 5 0 0,.el 5 1 0 0] (ii y) (VH G (.bin o a b)):=by
   refine yN 6 14 [.tmp 5] [0,1,2,3,5,1000000,1000001,1000002,1000003,1000004,1000005] Tryz.func196 fun X hX=>?_
   (repeat(refine yB ?_;(simp[go_sem])))
   refine bN [0,1,2] (cB) (by simp[go_sem]) ?_
   (simp[go_sem];try(refine⟨by kernel_rfl,?_⟩))
   refine aB ?_;refine aA [(5,ii y),(1000000,.ow 0),(1000001,.ow 1),(1000002,.ow 2),(1000003,.ow 3),(1000004,.ow 4),(1000005,.ow 5)] [.old 0 mR,.old 1 rR,.oldM 2 (gR G),.old 3 ⟨242,1,[.el 0 3 0 0]⟩,.old 4 ⟨30,5,[ex (.bin o a b)]⟩,.old 5 ⟨3,1,[ii 0]⟩] ?_
   simp[go_sem]
  have ho:o=4∨o=5:=by
   simp only[evD,hx,hy]at hv
   split at hv
   ·exact .inl (by assumption)
   ·split at hv
    ·exact .inr (by assumption)
    ·cases hv
  clear he hl hv
  rcases ho with rfl|rfl
  all_goals
   refine yN 3 68 [.tmp 6] [0,1,2,3,4,5,6,7,10,11,16,23,34,45,51,55,1000000,1000001,1000002] Tryz.func181 fun X hX=>?_
   (repeat(refine yB ?_;(simp[go_sem])));(repeat(refine a8 ?_ ?_;(focus(simp[go_sem];done));(repeat(refine yB ?_;(simp[go_sem])))))
   refine bN [0,1,2,3,4,5] (kA) (by simp[go_sem]) ?_
   simp[go_sem]
   refine bN [0,1,2,3,4,5] (kB) (by simp[go_sem]) ?_
   simp[go_sem]
   refine bN [0,1,2] (c3) (by simp[go_sem]) ?_
   (simp[go_sem];try(refine⟨by kernel_rfl,?_⟩))
   refine aB ?_;refine aA [(6,ii v),(1000000,.ow 0),(1000001,.ow 1),(1000002,.ow 2)] [.old 0 mR,.old 1 rR,.oldM 2 (gR G)] ?_
   simp[go_sem]
theorem GG(G:List (By×Int)):∀(N:Nat) (e:E) (v:Int),OkE e→e.lev≤N→evD G e=some v→MeansH Tryz.prog 181 (MH G) [.el 0 3 0 0,ex e,ii 0] (ii v) (MH G)
 |0,e,v,_,h,_=>by cases e<;>simp[E.lev]at h
 |N+1,e,v,he,hl,hv=>IZ G N (fun x w=>GG G N x w) e v he hl hv
end Go.Proofs.YtllgjognpobnpaaGreatDoor

