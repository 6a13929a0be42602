/-
  Lemmas for the statement at the top.
-/
import Derived.Test.YtllgjognpobnpaaGreatDoorGP6
import Derived.Test.YtllgjognpobnpaaGreatDoorGP14
import Derived.Test.YtllgjognpobnpaaGreatDoorGP10
import Derived.Test.YtllgjognpobnpaaGreatDoorGP9
set_option linter.all false
namespace Go.Ab
def q12x0:List Nat:=[0,1,2,3,6,7,8,9,10,12,13,14,15,16,29,31,32,33,44,67]
attribute [go_sem] q12x0
end Go.Ab
namespace Go.Proofs.YtllgjognpobnpaaGreatDoor
open Go.RowKit Go.Ab
attribute [local irreducible] AWP Go.Ab.Sub Means MeansH CallK CallG CallT CallGT PanicH PanicX DefH CallU
set_option maxHeartbeats 8000000 in
set_option maxRecDepth 20000 in
theorem I9(b:Bl)(n:Int)(hf:Fit b n)(C:List Int)(hC:C.length≤9):MeansH Tryz.prog 10 [rowI C] [bl b,ii n,.ow 0] (.tup [ndl (if errG b n C=0 then gml b n C.length else[]),ii (errG b n C)]) [rowI C]:=by
 have hn:=hf.n
 have h:=hf.ok
 have hla:=hf.last
 have hlb:=h.last
 have c1:=nD b h n (by omega) C (by omega)
 by_cases hr:rgt n (-1) C=true
 ·have hkn:(C.length:Int)≤n:=by have:=eD C (-1) (by omega) hr;omega
  rw[hr]at c1
  have hv:errG b n C=if 7<C.length then 6 else feG b n C.length b.last.toNat:=by unfold errG;rw[if_pos hr]
  obtain⟨k,hk⟩:∃k,C.length=k:=⟨_,rfl⟩
  rw[hk]at hv hkn hC⊢
  generalize errG b n C=R at*
  have w1:=w64 (x:=(k:Int)+1) (by omega) (by omega)
  have w2:=w64 (x:=2*((k:Int)+1)) (by omega) (by omega)
  have hm:=g9 (p:=2*((k:Int)+1)) (l:=b.last) (by omega) (by omega) (by omega) (by omega)
  have w3:=w64 (x:=2*((k:Int)+1)*b.last) (by omega) (by omega)
  refine yN 1 66 [.tmp 6,.tmp 7] [0,1,2,3,6,7,8,9,10,11,12,13,18,37,39,40,41,50,1000000] Tryz.func10 fun X hX=>?_
  (repeat(refine yB ?_;(simp[go_sem])))
  refine aD c1 ?_
  simp[go_sem]
  refine a8 (by simp[go_sem]) ?_
  (repeat(refine yB ?_;(simp[go_sem,hk,w1,w2,w3])))
  by_cases h7:7<k
  ·rw[if_pos h7]at hv
   subst hv
   refine aC (by simp[go_sem];omega) ?_
   (repeat(refine yB ?_;(simp[go_sem])))
   refine aB ?_;simp only[thenQ,blkQ,loopQ];refine aA [(6,.sl []),(7,ii 6),(1000000,.ow 0)] [.old 0 ⟨3,1,C.map ii⟩] ?_
   simp[go_sem]
  rw[if_neg h7]at hv
  obtain⟨last,hlast⟩:∃last:Nat,b.last=last:=⟨b.last.toNat,by omega⟩
  have hlt:b.last.toNat=last:=by omega
  have hen:2*(k+1)*last≤16*12:=Nat.mul_le_mul (by omega) (by omega)
  have hen2:2*((k:Int)+1)*b.last=((2*(k+1)*last:Nat):Int):=by rw[hlast];push_cast;rfl
  obtain⟨en,hene⟩:∃en,2*(k+1)*last=en:=⟨_,rfl⟩
  rw[hene]at hen hen2
  rw[hen2]
  rw[hlt]at hv
  refine a8 (by simp[go_sem];omega) ?_
  (repeat(refine yB ?_;(simp[go_sem,hlast])))
  have hgl:gml b n k=ndsG n b.voices k last (fun p=>(gnL b n k p).1) last++[nd0]:=by unfold gml gameL;rw[hlt]
  generalize gml b n k=GL at*
  refine aG (fun p:Nat=>⟨mkE [(8,.el 1 39 0 0),(9,ii en),(10,.ow 2),(39,ii last),(40,ii p),(1000000,.ow 0)],[rowI C,.row ⟨90,39,[circ b n k]⟩,.row ⟨96,2,(ndsG n b.voices k last (fun p=>(gnL b n k p).1) p).map ndv⟩]⟩) (fun p=>p≤last∧feG b n k p=0) (fun p=>last-p) 0 ?_ ?_ ?_
  ·refine yS _ [.old 0 ⟨3,1,C.map ii⟩,.old 2 ⟨90,39,[circ b n k]⟩,.birth 96 2] ?_ (by simp[go_sem,ndsG,hlast])
   simp[go_sem,ndsG,hlast]
  ·exact⟨Nat.zero_le _,rfl⟩
  rintro p ⟨hp,he⟩
  have hL:=gC n b.voices k last (fun p=>(gnL b n k p).1) p
  (repeat(refine yB ?_;(simp[go_sem])))
  refine yC (decide (p<last)) (fun hc=>?_) fun hc=>?_
  ·simp at hc
   have cg:=xE b h n k p (by omega) hkn (by omega)
   have hpm:2*(k+1)*p≤16*12:=Nat.mul_le_mul (by omega) (by omega)
   have hok:=vF b h n k p (by omega) hkn (by omega)
   have hs:ndsG n b.voices k last (fun p=>(gnL b n k p).1) (p+1)=ndsG n b.voices k last (fun p=>(gnL b n k p).1) p++ndsP (2*(k+1)*p) en k (decide (p+1=last)) n b.voices (gnL b n k p).1:=by rw[ndsG,hene]
   have hfe:feG b n k (p+1)=(gnL b n k p).2:=by rw[feG,if_neg (by simp[he])]
   have hle:=xF h p
   rw[hlt]at hle
   generalize ndsG n b.voices k last (fun p=>(gnL b n k p).1) p=L at*
   generalize hg:gnL b n k p=g at*
   obtain⟨g,e⟩:=g
   simp only at*
   (repeat(refine yB ?_;(simp[go_sem])))
   refine aD cg ?_
   simp[go_sem]
   (repeat(refine yB ?_;(simp[go_sem])))
   refine yC (decide (¬e=0)) (fun hd=>?_) fun hd=>?_
   ·have hd:¬e=0:=by simpa using hd
    have hst:=nE (b:=b) (n:=n) (k:=k) (p:=p+1) (q:=last) (by omega) (by rw[hfe];exact hd)
    rw[hst,hfe]at hv
    subst hv
    rw[if_neg hd]
    (repeat(refine yB ?_;(simp[go_sem])))
    refine aB ?_;simp only[thenQ,blkQ,loopQ];refine aA [(6,.sl []),(7,ii R),(1000000,.ow 0)] [.old 0 ⟨3,1,C.map ii⟩] ?_
    simp[go_sem]
   ·have hd:e=0:=by simpa using hd
    subst hd
    have cn:=sX b h n k p (2*(k+1)*p) en g (hok rfl).len (by omega) (by omega) hkn (by omega) (by omega) (by omega)
    rw[hle]at cn
    have wk:=w64 (x:=(p:Int)+1) (by omega) (by omega)
    have hN:=mV (2*(k+1)*p) en k (decide (p+1=last)) n b.voices g
    have hz:=bJ (ndsP (2*(k+1)*p) en k (decide (p+1=last)) n b.voices g)
    generalize ndsP (2*(k+1)*p) en k (decide (p+1=last)) n b.voices g=N at*
    rw[←hL]at cn
    (repeat(refine yB ?_;(simp[go_sem])))
    refine aD cn ?_
    simp[go_sem]
    (repeat refine⟨by first|omega|(rw[bA];omega)|kernel_rfl|grind,?_⟩)
    (repeat(refine yB ?_;(simp[go_sem,wk])))
    refine⟨p+1,⟨by omega,hfe⟩,by omega,?_⟩
    rw[hs]
    refine yS _ [.old 0 ⟨3,1,C.map ii⟩,.old 1 ⟨90,39,[circ b n k]⟩,.old 3 ⟨96,2,(L++N).map ndv⟩] ?_
    simp[go_sem]
  ·have hp2:p=last:=by simp at hc;omega
   subst hp2
   rw[he]at hv
   subst hv
   rw[if_pos rfl,hgl]
   generalize ndsG n b.voices k p (fun p=>(gnL b n k p).1) p=L at*
   have hz:=bJ L
   have hlL:L.length≤3000:=by omega
   (iterate 3 (refine yA ?_;(simp[go_sem])))
   (repeat refine⟨by first|omega|(rw[bA];omega)|kernel_rfl|grind,?_⟩)
   refine bB (st0:=⟨mkE [(6,.ow 1),(7,ii 0),(1000000,.ow 0)],[rowI C,.row ⟨96,2,(L++[nd0]).map ndv⟩]⟩) ?_ ?_
   ·refine yS _ [.old 0 ⟨3,1,C.map ii⟩,.old 4 ⟨96,2,(L++[nd0]).map ndv⟩] ?_ (by simp[go_sem];exact r8 L)
    simp[go_sem]
   have hz2:=bJ (L++[nd0])
   refine aB ?_;refine aA [(6,.sl ((L++[nd0]).map ndv)),(7,ii 0),(1000000,.ow 0)] [.old 0 ⟨3,1,C.map ii⟩] ?_
   simp[go_sem]
 ·have hv:errG b n C=1:=by unfold errG;rw[if_neg hr]
  have hr:rgt n (-1) C=false:=by simpa using hr
  rw[hv,if_neg (by decide)]
  rw[hr]at c1
  refine yN 1 66 [.tmp 6,.tmp 7] [0,1,2,3,6,7,8,9,10,11,12,13,18,37,39,40,41,50,1000000] Tryz.func10 fun X hX=>?_
  (repeat(refine yB ?_;(simp[go_sem])))
  refine aD c1 ?_
  simp[go_sem]
  refine aC (by simp[go_sem]) ?_
  (repeat(refine yB ?_;(simp[go_sem])))
  refine aB ?_;simp only[thenQ,blkQ,loopQ];refine aA [(6,.sl []),(7,ii 1),(1000000,.ow 0)] [.old 0 ⟨3,1,C.map ii⟩] ?_
  simp[go_sem]
set_option maxHeartbeats 4000000 in
set_option maxRecDepth 20000 in
theorem xG(b:Bl)(n:Int)(hf:Fit b n)(C:List Int)(hC:C.length≤9):MeansH Tryz.prog 28 [rowI C] [bl b,ii n,.ow 0] (.tup [ndl (if errG b n C=0 then gml b n C.length else[]),ii (errG b n C)]) [rowI C]:=by
 have c1:=I9 b n hf C hC
 have c2:=iJ b hf.ok
 obtain⟨l1,l2,c3⟩:=pY b.period b.wait b.grace hf.ok.period hf.ok.wait hf.ok.grace
 rw[hf.sol]at c3
 generalize errG b n C=e at*
 by_cases he:e=0
 ·subst he
  rw[if_pos rfl]at*
  generalize gml b n C.length=G at*
  have hz:=bJ G
  refine yN 1 33 [.tmp 6,.tmp 7] [0,1,2,3,6,7,8,9,12,21,31,1000000] Tryz.func28 fun X hX=>?_
  (repeat(refine yB ?_;(simp[go_sem])))
  refine yH [0] c1 ?_
  simp[go_sem]
  (repeat(refine yB ?_;(simp[go_sem])))
  refine a8 (by simp[go_sem]) ?_
  (repeat(refine yB ?_;(simp[go_sem])))
  refine aD c2 ?_
  simp[go_sem]
  refine aD c3 ?_
  simp[go_sem]
  (repeat(refine yB ?_;(simp[go_sem])))
  refine a8 (by simp[go_sem]) ?_
  (repeat(refine yB ?_;(simp[go_sem])))
  refine aB ?_;refine aA [(6,.sl (G.map ndv)),(7,ii 0),(1000000,.ow 0)] [.old 0 ⟨3,1,C.map ii⟩] ?_
  simp[go_sem]
 ·rw[if_neg he]at*
  refine yN 1 33 [.tmp 6,.tmp 7] [0,1,2,3,6,7,8,9,12,21,31,1000000] Tryz.func28 fun X hX=>?_
  (repeat(refine yB ?_;(simp[go_sem])))
  refine yH [0] c1 ?_
  simp[go_sem]
  (repeat(refine yB ?_;(simp[go_sem])))
  refine aC (by simp[go_sem,he]) ?_
  (repeat(refine yB ?_;(simp[go_sem])))
  refine aB ?_;simp only[thenQ,blkQ,loopQ];refine aA [(6,.sl []),(7,ii e),(1000000,.ow 0)] [.old 0 ⟨3,1,C.map ii⟩] ?_
  simp[go_sem]
set_option maxHeartbeats 4000000 in
set_option maxRecDepth 20000 in
theorem D6(b:Bl)(n:Int)(hf:Fit b n)(C:List Int)(hC:C.length≤9)(he:errG b n C=0):MeansH Tryz.prog 9 [rowI C] [bl b,ii n,.ow 0] (.tup [cert (gml b n C.length),ii ((vals (gml b n C.length)).getD 0 0),ii 0]) [rowI C]:=by
 have c1:=xG b n hf C hC
 obtain⟨h1,h2,h3⟩:=iA he
 have hn:=hf.n
 have hG:=(nC hf h2 (by have:=eD C (-1) (by omega) h1;omega) h3).1
 rw[he,if_pos rfl]at c1
 generalize gml b n C.length=G at*
 have c2:=sY G hG
 have hz:=bJ G
 have hp:=hG.pos
 have hV:=gB G
 have h0:0<(vals G).length:=by omega
 change MeansH _ _ _ _ (.tup [.agg [il (vals G),il (chc G)],ii ((vals G).getD 0 0),ii 0]) _
 change Means false _ _ _ (.tup [.agg [il (vals G),il (chc G)],ii 0])at c2
 rw[←gDI h0]
 generalize vals G=V at*
 generalize chc G=Ch at*
 refine yN 1 34 [.cell 6 37,.tmp 7,.tmp 8] [0,1,2,3,6,7,8,9,10,11,21,1000000] Tryz.func9 fun X hX=>?_
 (repeat(refine yB ?_;(simp[go_sem])))
 refine yH [0] c1 ?_
 simp[go_sem]
 (repeat(refine yB ?_;(simp[go_sem])))
 refine a8 (by simp[go_sem]) ?_
 (repeat(refine yB ?_;(simp[go_sem])))
 refine aD c2 ?_
 simp[go_sem]
 (repeat(refine yB ?_;(simp[go_sem,h0];try(refine⟨by kernel_rfl,?_⟩))))
 refine aB ?_;refine aA [(1000000,.ow 0)] [.old 0 ⟨3,1,C.map ii⟩] ?_
 simp[go_sem]
theorem zZ(b:Bl)(n:Int)(hf:Fit b n)(C:List Int)(hC:C.length≤9)(he:¬errG b n C=0):MeansH Tryz.prog 9 [rowI C] [bl b,ii n,.ow 0] (.tup [.agg [.nil,.nil],ii 0,ii (errG b n C)]) [rowI C]:=by
 have c1:=xG b n hf C hC
 rw[if_neg he]at c1
 generalize errG b n C=e at*
 refine yN 1 34 [.cell 6 37,.tmp 7,.tmp 8] [0,1,2,3,6,7,8,9,10,11,21,1000000] Tryz.func9 fun X hX=>?_
 (repeat(refine yB ?_;(simp[go_sem])))
 refine yH [0] c1 ?_
 simp[go_sem]
 (repeat(refine yB ?_;(simp[go_sem])))
 refine aC (by simp[go_sem,he]) ?_
 (repeat(refine yB ?_;(simp[go_sem])))
 refine aB ?_;simp only[thenQ,blkQ,loopQ];refine aA [(1000000,.ow 0)] [.old 0 ⟨3,1,C.map ii⟩] ?_
 simp[go_sem]
end Go.Proofs.YtllgjognpobnpaaGreatDoor

namespace Go.Proofs.YtllgjognpobnpaaGreatDoor
open Go.RowKit Go.Ab
attribute [local irreducible] AWP Go.Ab.Sub Means MeansH MeansV CallK CallG CallT CallGT PanicH PanicX DefH CallU
def holdA(n:Int):List (By×Int×Int):=[([109,101,109,98,101,114,115],1,n),([104,111,108,100,115],3,0)]
theorem FT{b:Bl}{n:Int}{C:List Int}(h:errG b n C=0){s:Nat}(hs:s≤C.length):errG b n (seqC s)=feG b n s b.last.toNat:=by
 obtain⟨h1,h2,h3⟩:=iA h
 unfold errG
 by_cases hn:(-1:Int)<n
 ·have:=eD C (-1) hn h1
  rw[nF,if_pos (sZ s (by omega)),if_neg (by omega)]
 ·cases C with
  |nil=>
   have:s=0:=by simpa using hs
   subst this
   rfl
  |cons x l=>simp[rgt]at h1;omega
def expR(v:Int)(r:AV):Prop:=∃x e:Int,r=.tup [ii x,ii e]∧(e=0→v≤x)
structure ExI(v:Int)(k:Nat)(s:Nat×Int):Prop where
 le:s.1≤k+1
 lo:0≤s.2
 hi:s.2≤3298534883328000
 val:k<s.1→v≤s.2
set_option maxHeartbeats 8000000 in
set_option maxRecDepth 20000 in
theorem I7(b:Bl)(n:Int)(hf:Fit b n)(C:List Int)(he:errG b n C=0):MeansV true Tryz.prog 13 [bl b,ii n,ii C.length] (expR ((vals (gml b n C.length)).getD 0 0)):=by
 obtain⟨h1,h2,h3⟩:=iA he
 have hn:=hf.n
 have h:=hf.ok
 have hkn:(C.length:Int)≤n:=by have:=eD C (-1) (by omega) h1;omega
 have hse:=fun s hs=>FT he (s:=s) hs
 have c0:=nD b h n (by omega) [] (by simp)
 rw[show rgt n (-1) []=true from rfl]at c0
 have hcp:=fun s=>D6 b n hf (seqC s)
 have hce:=fun s=>zZ b n hf (seqC s)
 simp only[nF]at hcp hce
 generalize hk:C.length=k at*
 have w1:=w64 (x:=(k:Int)+1) (by omega) (by omega)
 clear he h1 hk
 obtain⟨v,hv⟩:∃v,(vals (gml b n k)).getD 0 0=v:=⟨_,rfl⟩
 have hvs:∀s,s=k→(vals (gml b n s)).getD 0 0=v:=fun s hs=>by rw[hs,hv]
 rw[hv]
 clear hv
 refine zJ true 74 [.tmp 6,.tmp 7] Tryz.func13 rfl rfl rfl (by simp) (by decide) rfl fun X hX=>?_
 (repeat(refine aU q12x0 hX mixed rfl ?_;simp[go_sem]))
 refine aD c0 ?_
 simp[go_sem]
 refine a8 (by simp[go_sem];omega) ?_
 (repeat(refine aU q12x0 hX mixed rfl ?_;simp[go_sem,w1]))
 refine aG (fun s:Nat×Int=>⟨mkE [(1,ii n),(2,ii k),(3,.el 0 37 0 0),(8,ii s.2),(9,.ow 1),(31,ii ((k:Int)+1)),(32,ii s.1)],[.row ⟨32,37,[bl b]⟩,rowI (seqC s.1)]⟩) (ExI v k) (fun s=>k+1-s.1) (0,0) ?_ ?_ ?_
 ·refine yS _ [.old 0 ⟨32,37,[bl b]⟩,.birth 3 1] ?_ (by simp[go_sem,seqC])
  simp[go_sem,seqC]
 ·exact⟨Nat.zero_le _,Int.le_refl _,by simp,fun h=>absurd h (by simp)⟩
 rintro⟨s,mo⟩ ⟨i1,i2,i3,i4⟩
 simp only at i1 i2 i3 i4⊢
 have hsl:=nF s
 have hss:=D7 s
 (repeat(refine aU q12x0 hX mixed rfl ?_;simp[go_sem]))
 refine yC (decide (s<k+1)) (fun hc=>?_) (fun hc=>?_) (by simp[go_sem];omega)
 ·simp at hc
  by_cases hes:errG b n (seqC s)=0
  ·have c:=hcp s (by omega) hes
   have hfs:=hse s (by omega)
   rw[hes]at hfs
   have hGo:=nC hf (k:=s) (by omega) (by omega) hfs.symm
   have hbd:=lQ hGo.1 hGo.1.pos
   have h0:=hGo.2
   have hlt:k<s+1→v≤max mo ((vals (gml b n s)).getD 0 0):=fun hks=>by
    rw[hvs s (by omega)]
    omega
   generalize hw:gml b n s=G at*
   generalize(vals G).getD 0 0=w at*
   generalize seqC s=S at*
   have wk:=w64 (x:=(s:Int)+1) (by omega) (by omega)
   (repeat(refine aU q12x0 hX mixed rfl ?_;simp[go_sem]))
   refine yH [1] c ?_
   simp[go_sem]
   (repeat(refine aU q12x0 hX mixed rfl ?_;simp[go_sem]))
   refine a8 (by simp[go_sem]) ?_
   (repeat(refine aU q12x0 hX mixed rfl ?_;simp[go_sem]))
   (repeat refine⟨by first|omega|(rw[bA];omega)|kernel_rfl|grind,?_⟩)
   (repeat(refine aU q12x0 hX mixed rfl ?_;simp[go_sem,wk]))
   refine⟨s+1,max mo w,⟨by simp only;omega,by simp only;omega,by simp only;omega,hlt⟩,by omega,?_⟩
   rw[hss]
   refine yS _ [.old 0 ⟨32,37,[bl b]⟩,.old 4 ⟨3,1,(S++[(s:Int)]).map ii⟩] ?_
   simp[go_sem]
  ·have c:=hce s (by omega) hes
   generalize errG b n (seqC s)=e at*
   generalize seqC s=S at*
   (repeat(refine aU q12x0 hX mixed rfl ?_;simp[go_sem]))
   refine yH [1] c ?_
   simp[go_sem]
   (repeat(refine aU q12x0 hX mixed rfl ?_;simp[go_sem]))
   refine aC (by simp[go_sem,hes]) ?_
   (repeat(refine aU q12x0 hX mixed rfl ?_;simp[go_sem]))
   exact⟨0,e,rfl,fun h=>absurd h hes⟩
 ·have hs2:k<s:=by simp at hc;omega
  have hv:=i4 hs2
  have e1:=lT [109,101,109,98,101,114,115] n
  have e2:=r9 [104,111,108,100,115] 0
  have hA:(holdA n).length≤100∧∀x∈holdA n,-1099511627776≤x.2.2∧x.2.2≤1099511627776:=by
   refine⟨by simp[holdA],fun x hx=>?_⟩
   simp only[holdA,List.mem_cons,List.not_mem_nil,or_false]at hx
   rcases hx with rfl|rfl<;>simp only<;>omega
  have c:=vG b h n 0 [104,111,108,100] (.inr (.inr rfl)) (holdA n) hA
  have hb:=(uI b h [104,111,108,100] (.inr (.inr rfl)) (holdA n) hA).1
  generalize claV b [104,111,108,100] (holdA n)=q at*
  obtain⟨x,e⟩:=q
  simp only[holdA,List.map_cons,List.map_nil]at c hb
  (repeat(refine aU q12x0 hX mixed rfl ?_;simp[go_sem]))
  refine bH e1 ?_
  simp[go_sem]
  refine bH e2 ?_
  simp[go_sem]
  refine bH c ?_
  (simp[go_sem];try(refine⟨by kernel_rfl,?_⟩))
  (repeat refine⟨by first|omega|(rw[bA];omega)|kernel_rfl|grind,?_⟩)
  (repeat(refine aU q12x0 hX mixed rfl ?_;simp[go_sem]))
  by_cases hee:e=0
  ·have hx:=hb hee
   unfold bnd at hx
   have hm0:0≤(k:Int)*max x 0:=Int.mul_nonneg (by omega) (by omega)
   have hm1:(k:Int)*max x 0≤8*1099511627776:=Int.mul_le_mul (by omega) (by omega) (by omega) (by omega)
   have v1:=w64 (x:=(k:Int)*max x 0) (by omega) (by omega)
   have v2:=w64 (x:=mo+(k:Int)*max x 0) (by omega) (by omega)
   refine a8 (by simp[go_sem,hee]) ?_
   (repeat(refine aU q12x0 hX mixed rfl ?_;simp[go_sem,v1,v2]))
   exact⟨_,0,rfl,fun _=>by omega⟩
  ·refine aC (by simp[go_sem,hee]) ?_
   (repeat(refine aU q12x0 hX mixed rfl ?_;simp[go_sem]))
   exact⟨0,e,rfl,fun h=>absurd h hee⟩
end Go.Proofs.YtllgjognpobnpaaGreatDoor

namespace Go.Proofs.YtllgjognpobnpaaGreatDoor
open Go.RowKit Go.Ab
attribute [local irreducible] AWP Go.Ab.Sub Means MeansH CallK CallG CallT CallGT PanicH DefH
def plyN(G:List Nd)(M C:List Int)(s:Int×Nat×List Int):Int×Nat×List Int:=
 let x:=G.getD s.2.1 nd0
 let m:=x.mv.getD (plyK x (M.getD s.2.1 0) (C.getD s.2.1 0)) (0,0)
 (s.1+m.2,m.1,s.2.2++[(m.1:Int)])
def plyS(G:List Nd)(M C:List Int):Nat→Int×Nat×List Int
 |0=>(0,0,[0])
 |t+1=>if(G.getD (plyS G M C t).2.1 nd0).mv.length=0 then plyS G M C t else plyN G M C (plyS G M C t)
structure PlI(G:List Nd)(t:Nat)(s:Int×Nat×List Int):Prop where
 lt:s.2.1<G.length
 le:t≤s.2.1
 val:s.1+(vals G).getD s.2.1 0≤(vals G).getD 0 0
 lo: -(1099511627776*(s.2.1:Int))≤s.1
 hi:s.1≤1099511627776*(s.2.1:Int)
 len:s.2.2.length≤s.2.1+1
theorem PlI.step{G:List Nd}(hG:OkG G)(M:List Int){t:Nat}{s:Int×Nat×List Int}(h:PlI G t s)(he:0<(G.getD s.2.1 nd0).mv.length):PlI G (t+1) (plyN G M (chc G) s)∧s.2.1<(plyN G M (chc G) s).2.1:=by
 obtain⟨i1,i0,i2,i3,i4,i5⟩:=h
 obtain⟨g,j,p⟩:=s
 simp only at*
 have eG:G.getD j nd0=G[j]:=by simp[List.getD_eq_getElem?_getD,List.getElem?_eq_getElem i1]
 rw[eG]at he
 obtain⟨hk,hle⟩:=wV hG i1 he (M.getD j 0)
 have hto:=(hG.nd j i1).to _ (List.getElem_mem hk)
 have e:plyN G M (chc G) (g,j,p)=(g+G[j].mv[plyK G[j] (M.getD j 0) ((chc G).getD j 0)].2,G[j].mv[plyK G[j] (M.getD j 0) ((chc G).getD j 0)].1,p++[(G[j].mv[plyK G[j] (M.getD j 0) ((chc G).getD j 0)].1:Int)]):=by
  unfold plyN
  simp only[eG,gY hk]
 rw[e]
 generalize G[j].mv[plyK G[j] (M.getD j 0) ((chc G).getD j 0)]=mk at*
 obtain⟨to,gn⟩:=mk
 simp only at*
 refine⟨⟨hto.2.1,by simp only;omega,by simp only;omega,by simp only;omega,by simp only;omega,by simp;omega⟩,hto.1⟩
theorem tA(G:List Nd)(M C:List Int){t:Nat}(he:(G.getD (plyS G M C t).2.1 nd0).mv.length=0):∀d,plyS G M C (t+d)=plyS G M C t
 |0=>rfl
 |d+1=>by
  have ih:=tA G M C he d
  rw[←Nat.add_assoc,plyS,ih,if_pos he]
def ply(G:List Nd)(M C:List Int):Int×Nat×List Int:=plyS G M C G.length
theorem nG{G:List Nd}(hG:OkG G)(M:List Int):∀t,PlI G t (plyS G M (chc G) t)∨((G.getD (plyS G M (chc G) t).2.1 nd0).mv.length=0∧∃d,PlI G d (plyS G M (chc G) t))
 |0=>.inl ⟨hG.pos,Nat.le_refl _,by simp[plyS],by simp[plyS],by simp[plyS],by simp[plyS]⟩
 |t+1=>by
  by_cases he:(G.getD (plyS G M (chc G) t).2.1 nd0).mv.length=0
  ·refine .inr ?_
   rw[plyS,if_pos he]
   rcases nG hG M t with h|h
   ·exact⟨he,t,h⟩
   ·exact h
  ·rcases nG hG M t with h|h
   ·refine .inl ?_
    rw[plyS,if_neg he]
    exact(h.step hG M (by omega)).1
   ·exact absurd h.1 he
theorem I8{G:List Nd}(hG:OkG G)(M:List Int):(ply G M (chc G)).1≤(vals G).getD 0 0∧ -3298534883328000≤(ply G M (chc G)).1:=by
 unfold ply
 rcases nG hG M G.length with h|⟨he,d,h⟩
 ·have h1:=h.lt
  have h2:=h.le
  omega
 ·have eG:G.getD (plyS G M (chc G) G.length).2.1 nd0=G[(plyS G M (chc G) G.length).2.1]'h.lt:=by simp[List.getD_eq_getElem?_getD,List.getElem?_eq_getElem h.lt]
  rw[eG]at he
  have hv:=(lO hG h.lt (List.length_eq_zero_iff.1 he)).1
  have h1:=h.val
  have h2:=h.lo
  have h3:=h.lt
  have h4:=hG.len
  omega
set_option maxHeartbeats 4000000 in
set_option maxRecDepth 20000 in
theorem FU(G:List Nd)(hG:OkG G)(M C:List Int)(hM:M.length=G.length)(hC:C.length=G.length)
  (hstep:∀t s,PlI G t s→0<(G.getD s.2.1 nd0).mv.length→PlI G (t+1) (plyN G M C s)∧s.2.1<(plyN G M C s).2.1)
  (hval:∀j (h:j<G.length),0<G[j].mv.length→plyK G[j] (M.getD j 0) (C.getD j 0)<G[j].mv.length):
  Means true Tryz.prog 11 [ndl G,il M,il C] (.tup [ii (ply G M C).1,il (ply G M C).2.2,ii 0]):=by
 have c1:=nH G hG
 have hl:=hG.len
 have hz:=bJ G
 have h0:PlI G 0 (plyS G M C 0):=⟨hG.pos,Nat.le_refl _,by simp[plyS],by simp[plyS],by simp[plyS],by simp[plyS]⟩
 have hfix:=fun t=>tA G M C (t:=t)
 obtain⟨R,hR⟩:∃R,R=ply G M C:=⟨_,rfl⟩
 rw[←hR]
 unfold ply at hR
 refine yM true 84 [.tmp 6,.tmp 7,.tmp 8] [0,1,2,6,7,8,9,10,11,12,13,30,38,47,63] Tryz.func11 fun X hX=>?_
 (repeat(refine yA ?_;(simp[go_sem])))
 refine aD c1 ?_
 simp[go_sem]
 refine a8 (by simp[go_sem,hM,hC]) ?_
 (repeat(refine yA ?_;(simp[go_sem])))
 refine aG (fun t:Nat=>⟨mkE [(0,ndl G),(1,il M),(2,il C),(9,ii (plyS G M C t).1),(10,ii (plyS G M C t).2.1),(11,.ow 0)],[rowI (plyS G M C t).2.2]⟩) (fun t=>PlI G t (plyS G M C t)) (fun t=>G.length-(plyS G M C t).2.1) 0 ?_ ?_ ?_
 ·refine yS _ [.old 0 ⟨3,1,([0]:List Int).map ii⟩] ?_ (by simp[go_sem,plyS])
  simp[go_sem,plyS]
 ·exact h0
 intro t hI
 have hS1:plyS G M C (t+1)=if(G.getD (plyS G M C t).2.1 nd0).mv.length=0 then plyS G M C t else plyN G M C (plyS G M C t):=rfl
 have hf:=hfix t
 have hst:=hstep t _ hI
 generalize hsn:plyS G M C (t+1)=s1 at*
 generalize hs0:plyS G M C t=s at*
 obtain⟨g,j,p⟩:=s
 simp only at hI hS1 hst hf⊢
 obtain⟨i1,i0,i2,i3,i4,i5⟩:=hI
 simp only at*
 have hq:=jS i1
 have hx:=hG.nd j i1
 have eG:G.getD j nd0=G[j]:=by simp[List.getD_eq_getElem?_getD,List.getElem?_eq_getElem i1]
 rw[eG]at hS1 hf hst
 (repeat(refine yA ?_;(simp[go_sem,i1,hq])))
 refine yC (decide (0<G[j].mv.length)) (fun hc=>?_) fun hc=>?_
 ·have hc:0<G[j].mv.length:=by simpa using hc
  rw[if_neg (by omega)]at hS1
  obtain⟨hn,hlt⟩:=hst hc
  have jM:j<M.length:=by omega
  have jC:j<C.length:=by omega
  have qM:=cZ jM
  have qC:=cZ jC
  rw[gDI jC]at qC
  rw[gDI jM]at qM
  have hk:=hval j i1 hc
  obtain⟨K,hK⟩:∃K,K=plyK G[j] (M.getD j 0) (C.getD j 0):=⟨_,rfl⟩
  have eN:plyN G M C (g,j,p)=(g+(G[j].mv.getD K (0,0)).2,(G[j].mv.getD K (0,0)).1,p++[((G[j].mv.getD K (0,0)).1:Int)]):=by
   unfold plyN
   simp only[eG,←hK]
  rw[eN]at hS1 hn hlt
  rw[←hK]at hk
  rw[gY hk]at hS1 hn hlt
  have hto:=hx.to _ (List.getElem_mem hk)
  have hqm:=lM hk
  generalize M.getD j 0=m at*
  generalize C.getD j 0=c at*
  generalize hxe:G[j]=x at*
  obtain⟨mi,mv⟩:=x
  simp only at*
  generalize hmk:mv[K]=mk at*
  obtain⟨to,gn⟩:=mk
  simp only at*
  have wg:=w64 (x:=g+gn) (by omega) (by omega)
  have hpl:p.length≤100000:=by omega
  cases mi with
  |true=>
   by_cases h1:m<0
   ·obtain rfl:K=0:=by rw[hK];simp[plyK,h1]
    (repeat(refine yA ?_;(simp[go_sem,i1,hq,hxe,jM,qM,jC,qC,hk,hqm,wg,hpl,h1])));(repeat(refine aC ?_ ?_;(focus(simp[go_sem,i1,hq,hxe,jM,qM,jC,qC,hk,hqm,wg,hpl,h1];done));(repeat(refine yA ?_;(simp[go_sem,i1,hq,hxe,jM,qM,jC,qC,hk,hqm,wg,hpl,h1];try(refine⟨by kernel_rfl,?_⟩))))))
    (repeat refine And.intro (by first|omega|(rw[bA];omega)|kernel_rfl|grind) ?_)
    refine⟨t+1,by rw[hsn,hS1];exact hn,by rw[hsn,hS1,hs0];simp only;omega,?_⟩
    rw[hsn,hS1]
    refine yS _ [.old 3 ⟨3,1,(p++[(to:Int)]).map ii⟩] ?_
    simp[go_sem]
   ·by_cases h2:(mv.length:Int)≤m
    ·obtain rfl:K=0:=by rw[hK];simp[plyK,h1,h2]
     (repeat(refine yA ?_;(simp[go_sem,i1,hq,hxe,jM,qM,jC,qC,hk,hqm,wg,hpl,h1,h2])));(repeat(refine aC ?_ ?_;(focus(simp[go_sem,i1,hq,hxe,jM,qM,jC,qC,hk,hqm,wg,hpl,h1,h2];done));(repeat(refine yA ?_;(simp[go_sem,i1,hq,hxe,jM,qM,jC,qC,hk,hqm,wg,hpl,h1,h2];try(refine⟨by kernel_rfl,?_⟩))))))
     (repeat refine And.intro (by first|omega|(rw[bA];omega)|kernel_rfl|grind) ?_)
     refine⟨t+1,by rw[hsn,hS1];exact hn,by rw[hsn,hS1,hs0];simp only;omega,?_⟩
     rw[hsn,hS1]
     refine yS _ [.old 3 ⟨3,1,(p++[(to:Int)]).map ii⟩] ?_
     simp[go_sem]
    ·obtain rfl:m=(K:Int):=by rw[hK];simp[plyK,h1,h2];omega
     (repeat(refine yA ?_;(simp[go_sem,i1,hq,hxe,jM,qM,jC,qC,hk,hqm,wg,hpl,h1,h2])));(repeat(first|(refine aC ?_ ?_;(focus(simp[go_sem,i1,hq,hxe,jM,qM,jC,qC,hk,hqm,wg,hpl,h1,h2];done));(repeat(refine yA ?_;(simp[go_sem,i1,hq,hxe,jM,qM,jC,qC,hk,hqm,wg,hpl,h1,h2]))))|(refine a8 ?_ ?_;(focus(simp[go_sem,i1,hq,hxe,jM,qM,jC,qC,hk,hqm,wg,hpl,h1,h2];done));(repeat(refine yA ?_;(simp[go_sem,i1,hq,hxe,jM,qM,jC,qC,hk,hqm,wg,hpl,h1,h2];try(refine⟨by kernel_rfl,?_⟩)))))))
     (repeat refine And.intro (by first|omega|(rw[bA];omega)|kernel_rfl|grind) ?_)
     refine⟨t+1,by rw[hsn,hS1];exact hn,by rw[hsn,hS1,hs0];simp only;omega,?_⟩
     rw[hsn,hS1]
     refine yS _ [.old 3 ⟨3,1,(p++[(to:Int)]).map ii⟩] ?_
     simp[go_sem]
  |false=>
   by_cases h1:c<0
   ·obtain rfl:K=0:=by rw[hK];simp[plyK,h1]
    (repeat(refine yA ?_;(simp[go_sem,i1,hq,hxe,jM,qM,jC,qC,hk,hqm,wg,hpl,h1])));(repeat(first|(refine aC ?_ ?_;(focus(simp[go_sem,i1,hq,hxe,jM,qM,jC,qC,hk,hqm,wg,hpl,h1];done));(repeat(refine yA ?_;(simp[go_sem,i1,hq,hxe,jM,qM,jC,qC,hk,hqm,wg,hpl,h1];try(refine⟨by kernel_rfl,?_⟩)))))|(refine a8 ?_ ?_;(focus(simp[go_sem,i1,hq,hxe,jM,qM,jC,qC,hk,hqm,wg,hpl,h1];done));(repeat(refine yA ?_;(simp[go_sem,i1,hq,hxe,jM,qM,jC,qC,hk,hqm,wg,hpl,h1]))))))
    (repeat refine And.intro (by first|omega|(rw[bA];omega)|kernel_rfl|grind) ?_)
    refine⟨t+1,by rw[hsn,hS1];exact hn,by rw[hsn,hS1,hs0];simp only;omega,?_⟩
    rw[hsn,hS1]
    refine yS _ [.old 3 ⟨3,1,(p++[(to:Int)]).map ii⟩] ?_
    simp[go_sem]
   ·by_cases h2:(mv.length:Int)≤c
    ·obtain rfl:K=0:=by rw[hK];simp[plyK,h1,h2]
     (repeat(refine yA ?_;(simp[go_sem,i1,hq,hxe,jM,qM,jC,qC,hk,hqm,wg,hpl,h1,h2])));(repeat(first|(refine aC ?_ ?_;(focus(simp[go_sem,i1,hq,hxe,jM,qM,jC,qC,hk,hqm,wg,hpl,h1,h2];done));(repeat(refine yA ?_;(simp[go_sem,i1,hq,hxe,jM,qM,jC,qC,hk,hqm,wg,hpl,h1,h2];try(refine⟨by kernel_rfl,?_⟩)))))|(refine a8 ?_ ?_;(focus(simp[go_sem,i1,hq,hxe,jM,qM,jC,qC,hk,hqm,wg,hpl,h1,h2];done));(repeat(refine yA ?_;(simp[go_sem,i1,hq,hxe,jM,qM,jC,qC,hk,hqm,wg,hpl,h1,h2]))))))
     (repeat refine And.intro (by first|omega|(rw[bA];omega)|kernel_rfl|grind) ?_)
     refine⟨t+1,by rw[hsn,hS1];exact hn,by rw[hsn,hS1,hs0];simp only;omega,?_⟩
     rw[hsn,hS1]
     refine yS _ [.old 3 ⟨3,1,(p++[(to:Int)]).map ii⟩] ?_
     simp[go_sem]
    ·obtain rfl:c=(K:Int):=by rw[hK];simp[plyK,h1,h2];omega
     (repeat(refine yA ?_;(simp[go_sem,i1,hq,hxe,jM,qM,jC,qC,hk,hqm,wg,hpl,h1,h2])));(repeat(refine a8 ?_ ?_;(focus(simp[go_sem,i1,hq,hxe,jM,qM,jC,qC,hk,hqm,wg,hpl,h1,h2];done));(repeat(refine yA ?_;(simp[go_sem,i1,hq,hxe,jM,qM,jC,qC,hk,hqm,wg,hpl,h1,h2];try(refine⟨by kernel_rfl,?_⟩))))))
     (repeat refine And.intro (by first|omega|(rw[bA];omega)|kernel_rfl|grind) ?_)
     refine⟨t+1,by rw[hsn,hS1];exact hn,by rw[hsn,hS1,hs0];simp only;omega,?_⟩
     rw[hsn,hS1]
     refine yS _ [.old 3 ⟨3,1,(p++[(to:Int)]).map ii⟩] ?_
     simp[go_sem]
 ·have he:G[j].mv.length=0:=by simpa using hc
  have hd:=hf he (G.length-t)
  rw[show t+(G.length-t)=G.length by omega,←hR]at hd
  subst hd
  (repeat(refine yA ?_;(simp[go_sem])))
theorem FS(G:List Nd)(hG:OkG G)(M:List Int)(hM:M.length=G.length):Means true Tryz.prog 11 [ndl G,il M,il (chc G)] (.tup [ii (ply G M (chc G)).1,il (ply G M (chc G)).2.2,ii 0]):=
 FU G hG M (chc G) hM (wU G) (fun _ _ h he=>h.step hG M he) fun _ h he=>(wV hG h he _).1
end Go.Proofs.YtllgjognpobnpaaGreatDoor

namespace Go.Proofs.YtllgjognpobnpaaGreatDoor
open Go.RowKit Go.Ab
attribute [local irreducible] AWP Go.Ab.Sub Means MeansH CallK CallG CallT CallGT PanicH DefH
def nodesL(f:E→Int→Int)(most:Int):List E→Int→Int
 | [],n=>n
 |x::l,n=>if n≤most then nodesL f most l (n+f x (most-n))else n
def nodesE:Nat→E→Int→Int
 |0,_,most=>most+1
 |d+1,e,most=>if 60<e.s.length then most+1 else nodesL (nodesE d) most e.kids 1
theorem kX(f:E→Int→Int)(most:Int)(x:E):∀(l:List E) (n:Int),nodesL f most (l++[x]) n=if nodesL f most l n≤most then nodesL f most l n+f x (most-nodesL f most l n)else nodesL f most l n
 | [],n=>by simp only[List.nil_append,nodesL];rfl
 |y::l,n=>by
  rw[List.cons_append,nodesL,nodesL]
  split
  ·exact kX f most x l _
  ·rename_i h;simp[h]
theorem kY(f:E→Int→Int)(most:Int)(r:List E):∀(l:List E) (n:Int),most<nodesL f most l n→nodesL f most (l++r) n=nodesL f most l n
 | [],n,h=>by
   simp only[nodesL]at h
   cases r with
   |nil=>rfl
   |cons x r=>simp only[List.nil_append,nodesL];rw[if_neg (by omega)]
 |y::l,n,h=>by
  rw[List.cons_append,nodesL,nodesL]
  rw[nodesL]at h
  split
  ·rename_i hn
   rw[if_pos hn]at h
   exact kY f most r l _ h
  ·rfl
theorem kN{f:E→Int→Int}{most:Int}(hm:0≤most):∀(l:List E) (n:Int),(∀x∈l,∀m,0≤m→m≤most→1≤f x m∧f x m≤m+1)→1≤n→n≤most+1→1≤nodesL f most l n∧nodesL f most l n≤most+1
 | [],n,_,h1,h2=>⟨h1,h2⟩
 |y::l,n,hf,h1,h2=>by
  rw[nodesL]
  split
  ·rename_i hn
   have:=hf y (by simp) (most-n) (by omega) (by omega)
   exact kN hm l _ (fun x hx=>hf x (by simp[hx])) (by omega) (by omega)
  ·exact⟨h1,h2⟩
theorem pH:∀(d:Nat) (e:E) (most:Int),0≤most→1≤nodesE d e most∧nodesE d e most≤most+1
 |0,_,_,h=>⟨by simp only[nodesE];omega,by simp only[nodesE];omega⟩
 |d+1,e,most,h=>by
  rw[nodesE]
  split
  ·exact⟨by omega,by omega⟩
  ·exact kN h _ _ (fun x _ m hm _=>pH d x m hm) (by omega) (by omega)
theorem GM(e:E):ex e=.agg [ii e.op,ii e.n,ii e.u,ss e.s,.sl (e.kids.map ex)]:=by rw[←gQ]
set_option maxHeartbeats 4000000 in
set_option maxRecDepth 20000 in
theorem xH:∀(d:Nat),d≤100→∀(e:E) (most:Int),0≤most→most≤1000→Means true Tryz.prog 70 [ex e,ii most,ii d] (ii (nodesE d e most))
 |0,_,e,most,h1,h2=>by
  have wk:=w64 (x:=most+1) (by omega) (by omega)
  refine yM true 45 [.tmp 6] [0,1,2,3,6,7,8,16,28] Tryz.func70 fun X hX=>?_
  (repeat(refine yA ?_;(simp[go_sem,wk])));(repeat(refine aC ?_ ?_;(focus(simp[go_sem,wk];done));(repeat(refine yA ?_;(simp[go_sem,wk])))))
  try simp[nodesE]
 |d+1,hd,e,most,h1,h2=>by
  have ih:=xH d (by omega)
  have hF:=fun x=>pH d x
  have wk:=w64 (x:=most+1) (by omega) (by omega)
  obtain⟨z,hz⟩:∃z:Int,((d+1:Nat):Int)=z:=⟨_,rfl⟩
  have w1:IntKind.i64.wrap (z-1)=d:=by rw[w64 (by omega) (by omega)];omega
  have hd1:¬z<1:=by omega
  rw[hz]
  clear hz
  have hk:e.kids.length≤3:=by cases e<;>simp[E.kids]
  have e1:nodesE (d+1) e most=if 60<e.s.length then most+1 else nodesL (nodesE d) most e.kids 1:=rfl
  rw[GM,e1]
  clear e1
  generalize e.kids=K at*
  generalize e.s=s at*
  generalize e.op=o at*
  generalize e.n=en at*
  generalize e.u=eu at*
  generalize nodesE d=F at*
  refine yM true 45 [.tmp 6] [0,1,2,3,6,7,8,16,28] Tryz.func70 fun X hX=>?_
  (repeat(refine yA ?_;(simp[go_sem,hd1])))
  refine yC (decide (60<s.length)) (fun hb=>?_) (fun hb=>?_) (by simp[go_sem,hd1];try omega)
  ·rw[if_pos (by simpa using hb)]
   (repeat(refine yA ?_;(simp[go_sem,wk])))
  rw[if_neg (by simpa using hb)]
  (repeat(refine yA ?_;(simp[go_sem])))
  refine aG (fun k:Nat=>⟨mkE [(1,ii most),(2,ii z),(3,.el 0 5 0 0),(7,ii (nodesL F most (K.take k) 1)),(8,ii k)],[.row ⟨30,5,[.agg [ii o,ii en,ii eu,ss s,.sl (K.map ex)]]⟩]⟩) (fun k=>k≤K.length) (fun k=>K.length-k) 0 ?_ ?_ ?_
  ·refine yS _ [.old 0 ⟨30,5,[.agg [ii o,ii en,ii eu,ss s,.sl (K.map ex)]]⟩] ?_
   simp[go_sem,nodesL]
  ·exact Nat.zero_le _
  ·rintro k hkn
   have hbd:1≤nodesL F most (K.take k) 1∧nodesL F most (K.take k) 1≤most+1:=kN h1 _ _ (fun x _ m hm _=>hF x m hm) (by omega) (by omega)
   have hst:=kY F most (K.drop k) (K.take k) 1
   rw[List.take_append_drop]at hst
   (repeat(refine yA ?_;(simp[go_sem])))
   refine yC (decide (k<K.length)&&decide (nodesL F most (K.take k) 1≤most)) (fun hc=>?_) fun hc=>?_
   ·simp only[Bool.and_eq_true,decide_eq_true_eq]at hc
    obtain⟨hc,hle⟩:=hc
    have hq:=mA hc
    have wk:=w64 (x:=(k:Int)+1) (by omega) (by omega)
    have hsn:nodesL F most (K.take (k+1)) 1=nodesL F most (K.take k) 1+F K[k] (most-nodesL F most (K.take k) 1):=by
     rw[List.take_succ_eq_append_getElem hc,kX,if_pos hle]
    generalize nodesL F most (K.take k) 1=N at*
    have c1:=ih K[k] (most-N) (by omega) (by omega)
    have hb2:=hF K[k] (most-N) (by omega)
    have w2:=w64 (x:=most-N) (by omega) (by omega)
    have w3:=w64 (x:=N+F K[k] (most-N)) (by omega) (by omega)
    (repeat(refine yA ?_;(simp[go_sem,hc,hq,w1,w2])))
    refine aD c1 ?_
    simp[go_sem,w3]
    (repeat(refine yA ?_;(simp[go_sem,wk,w3])))
    refine⟨k+1,by omega,by omega,?_⟩
    rw[hsn]
    refine yS _ [.old 0 ⟨30,5,[.agg [ii o,ii en,ii eu,ss s,.sl (K.map ex)]]⟩] ?_
    simp[go_sem]
   ·have hfin:nodesL F most K 1=nodesL F most (K.take k) 1:=by
     simp only[Bool.and_eq_false_iff,decide_eq_false_iff_not]at hc
     rcases hc with hc|hc
     ·rw[List.take_of_length_le (by omega)]
     ·exact hst (by omega)
    rw[hfin]
    (repeat(refine yA ?_;(simp[go_sem])))
theorem tB(n:Int)(hn:0≤n∧n≤1000)(e:E):Means true Tryz.prog 27 [ex e,ii n] (bb (decide (nodesE 16 e n≤n))):=by
 have c1:=xH 16 (by omega) e n (by omega) (by omega)
 refine yM true 10 [.tmp 4] [0,1,2,4] Tryz.func27 fun X hX=>?_
 (repeat(refine yA ?_;(simp[go_sem])))
 refine aD c1 ?_
 simp[go_sem]
 (repeat(refine yA ?_;(simp[go_sem])))
def namesE:E→Int
 | .num _ _=>0
 | .nam _=>1
 | .un a=>namesE a
 | .bin _ a b=>namesE a+namesE b
 | .ite a b c=>namesE a+namesE b+namesE c
def sumN:List E→Int
 | []=>0
 |x::l=>namesE x+sumN l
theorem pI(x:E):∀l,sumN (l++[x])=sumN l+namesE x
 | []=>by simp[sumN]
 |y::l=>by rw[List.cons_append,sumN,sumN,pI x l];omega
theorem tC{e:E}(h:okE e):namesE e=(if e.op=1 then 1 else 0)+sumN e.kids:=by
 cases e with
 |num n u=>simp[namesE,sumN,E.op,E.kids]
 |nam s=>simp[namesE,sumN,E.op,E.kids]
 |un a=>simp[namesE,sumN,E.op,E.kids]
 |bin o a b=>
  have:=h.1
  have h1:¬o=1:=by omega
  simp[namesE,sumN,E.op,E.kids,h1]
 |ite a b c=>simp[namesE,sumN,E.op,E.kids];omega
theorem cQ:∀(d:Nat) (e:E),e.lev≤d→0≤namesE e∧namesE e≤3^d
 |0,e,h=>by cases e<;>simp[E.lev]at h
 |d+1,e,h=>by
  have p:(1:Int)≤3^d:=by
   have h1:0<3^d:=Nat.pow_pos (by decide)
   have h3:(((3:Nat)^d:Nat):Int)=3^d:=by simp
   omega
  have q:(3:Int)^(d+1)=3^d*3:=Int.pow_succ 3 d
  cases e with
  |num n u=>simp only[namesE];omega
  |nam s=>simp only[namesE];omega
  |un a=>
   have:=cQ d a (by simp only[E.lev]at h;omega)
   simp only[namesE];omega
  |bin o a b=>
   have h1:=cQ d a (by simp only[E.lev]at h;omega)
   have h2:=cQ d b (by simp only[E.lev]at h;omega)
   simp only[namesE];omega
  |ite a b c=>
   have h1:=cQ d a (by simp only[E.lev]at h;omega)
   have h2:=cQ d b (by simp only[E.lev]at h;omega)
   have h3:=cQ d c (by simp only[E.lev]at h;omega)
   simp only[namesE];omega
theorem xI{d:Nat}:∀(l:List E),(∀x∈l,x.lev≤d)→0≤sumN l∧sumN l≤3^d*l.length
 | [],_=>by simp[sumN]
 |x::l,h=>by
  have h1:=cQ d x (h x (by simp))
  have h2:=xI l fun y hy=>h y (by simp[hy])
  simp only[sumN,List.length_cons,Int.natCast_add,Int.mul_add]
  omega
set_option maxHeartbeats 4000000 in
set_option maxRecDepth 20000 in
theorem xJ:∀(d:Nat),d≤12→∀(e:E),okE e→e.lev≤d→Means true Tryz.prog 47 [ex e] (ii (namesE e))
 |0,_,e,_,h=>by cases e<;>simp[E.lev]at h
 |d+1,hd,e,he,hl=>by
  have ih:∀x∈e.kids,Means true Tryz.prog 47 [ex x] (ii (namesE x)):=fun x hx=>xJ d (by omega) x (uB he hx) (by have:=j9 hx;omega)
  have hlev:∀x∈e.kids,x.lev≤d:=fun x hx=>by have:=j9 hx;omega
  have hk:e.kids.length≤3:=by cases e<;>simp[E.kids]
  have hp:(3:Int)^d≤531441:=by
   have h1:(3:Nat)^d≤3^12:=Nat.pow_le_pow_right (by decide) (by omega)
   have h2:(3:Nat)^12=531441:=by decide
   have h3:(((3:Nat)^d:Nat):Int)=3^d:=by simp
   omega
  rw[GM,tC he]
  generalize e.kids=K at*
  generalize e.s=s at*
  generalize e.op=o at*
  generalize e.n=en at*
  generalize e.u=eu at*
  clear hl he
  obtain⟨q,hq0⟩:∃q:Int,(if o=1 then(1:Int)else 0)=q:=⟨_,rfl⟩
  have hq1:0≤q∧q≤1:=by rw[←hq0];split<;>omega
  rw[hq0]
  refine yM true 24 [.tmp 2] [0,1,2,3,4,7,12] Tryz.func47 fun X hX=>?_
  (repeat(refine yA ?_;(simp[go_sem])))
  refine lC (⟨mkE [(1,.el 0 5 0 0),(3,ii q)],[.row ⟨30,5,[.agg [ii o,ii en,ii eu,ss s,.sl (K.map ex)]]⟩]⟩) ?_ ?_
  ·refine yC (decide (o=1)) (fun hd=>?_) fun hd=>?_
   ·rw[if_pos (by simpa using hd)]at hq0
    subst hq0
    (repeat(refine yA ?_;(simp[go_sem,cutQ])))
    refine yS _ [.old 0 ⟨30,5,[.agg [ii o,ii en,ii eu,ss s,.sl (K.map ex)]]⟩] ?_
    simp[go_sem]
   ·rw[if_neg (by simpa using hd)]at hq0
    subst hq0
    (repeat(refine yA ?_;(simp[go_sem,cutQ])))
    refine yS _ [.old 0 ⟨30,5,[.agg [ii o,ii en,ii eu,ss s,.sl (K.map ex)]]⟩] ?_
    simp[go_sem]
  ·simp only[thenQ]
   (repeat(refine yA ?_;(simp[go_sem])))
   refine aG (fun k:Nat=>⟨mkE [(1,.el 0 5 0 0),(3,ii (q+sumN (K.take k))),(4,ii k)],[.row ⟨30,5,[.agg [ii o,ii en,ii eu,ss s,.sl (K.map ex)]]⟩]⟩) (fun k=>k≤K.length) (fun k=>K.length-k) 0 ?_ ?_ ?_
   ·refine yS _ [.old 0 ⟨30,5,[.agg [ii o,ii en,ii eu,ss s,.sl (K.map ex)]]⟩] ?_
    simp[go_sem,sumN]
   ·exact Nat.zero_le _
   ·rintro k hkn
    (repeat(refine yA ?_;(simp[go_sem])))
    refine yC (decide (k<K.length)) (fun hc=>?_) fun hc=>?_
    ·simp at hc
     have hq:=mA hc
     have wk:=w64 (x:=(k:Int)+1) (by omega) (by omega)
     have hsn:sumN (K.take (k+1))=sumN (K.take k)+namesE K[k]:=by
      rw[List.take_succ_eq_append_getElem hc,pI]
     have b1:=xI (d:=d) (K.take k) fun x hx=>hlev x (List.mem_of_mem_take hx)
     have b2:=cQ d K[k] (hlev _ (List.getElem_mem hc))
     have b3:((K.take k).length:Int)≤3:=by rw[List.length_take];omega
     have b4:(3:Int)^d*((K.take k).length:Int)≤531441*3:=Int.mul_le_mul hp b3 (by omega) (by decide)
     have c1:=ih K[k] (List.getElem_mem hc)
     generalize sumN (K.take k)=S at*
     generalize namesE K[k]=N at*
     have w3:=w64 (x:=q+S+N) (by omega) (by omega)
     (repeat(refine yA ?_;(simp[go_sem,hc,hq])))
     refine aD c1 ?_
     simp[go_sem,w3]
     (repeat(refine yA ?_;(simp[go_sem,wk,w3])))
     refine⟨k+1,by omega,by omega,?_⟩
     rw[hsn,←Int.add_assoc]
     refine yS _ [.old 0 ⟨30,5,[.agg [ii o,ii en,ii eu,ss s,.sl (K.map ex)]]⟩] ?_
     simp[go_sem]
    ·have hfin:K.take k=K:=by simp at hc;exact List.take_of_length_le (by omega)
     rw[hfin]
     (repeat(refine yA ?_;(simp[go_sem])))
def fewG(n:Int):List (By×E)→Int→Bool
 | [],_=>true
 |x::l,p=>if 60<x.1.length∨n<nodesE 16 x.2 n then false else if 2000<p*(1+namesE x.2)then false else fewG n l (p*(1+namesE x.2))
def prodN:List (By×E)→Int→Int
 | [],p=>p
 |x::l,p=>prodN l (p*(1+namesE x.2))
def runsL(n:Int):List (By×E)→Int→Prop
 | [],_=>True
 |x::l,p=>¬(60<x.1.length∨n<nodesE 16 x.2 n)∧¬2000<p*(1+namesE x.2)∧runsL n l (p*(1+namesE x.2))
theorem nI(x:By×E):∀(l:List (By×E)) (p:Int),prodN (l++[x]) p=prodN l p*(1+namesE x.2)
 | [],p=>rfl
 |y::l,p=>by rw[List.cons_append,prodN,prodN];exact nI x l _
theorem nJ(n:Int)(x:By×E):∀(l:List (By×E)) (p:Int),runsL n l p→¬(60<x.1.length∨n<nodesE 16 x.2 n)→¬2000<prodN l p*(1+namesE x.2)→runsL n (l++[x]) p
 | [],p,_,h1,h2=>⟨h1,h2,trivial⟩
 |y::l,p,h,h1,h2=>⟨h.1,h.2.1,nJ n x l _ h.2.2 h1 h2⟩
theorem pJ(n:Int)(r:List (By×E)):∀(l:List (By×E)) (p:Int),runsL n l p→fewG n (l++r) p=fewG n r (prodN l p)
 | [],p,_=>rfl
 |y::l,p,h=>by
  rw[List.cons_append,fewG,if_neg h.1,if_neg h.2.1,pJ n r l _ h.2.2,prodN]
theorem tD(n:Int):∀(l:List (By×E)) (p:Int),0≤p→p≤2000→(∀x∈l,0≤namesE x.2)→runsL n l p→0≤prodN l p∧prodN l p≤2000
 | [],p,h1,h2,_,_=>⟨h1,h2⟩
 |y::l,p,h1,h2,hn,h=>by
  have:=hn y (by simp)
  exact tD n l _ (Int.mul_nonneg h1 (by omega)) (by have:=h.2.1;omega) (fun x hx=>hn x (by simp[hx])) h.2.2
set_option maxHeartbeats 4000000 in
set_option maxRecDepth 20000 in
theorem pK(q n:Int)(hq0:0≤q∧q≤22)(hn:0≤n∧n≤1000)(L:List (By×E))(h:OkL L):Means true Tryz.prog 19 [.sl (L.map lt),ii q,ii n] (bb (decide ((L.length:Int)≤q)&&fewG n L 1)):=by
 have hl:=h.len
 have hx:∀x∈L,0≤namesE x.2∧namesE x.2≤3^12:=fun x hx=>cQ 12 x.2 (h.exp x hx).2
 have p12:(3:Int)^12=531441:=by decide
 rw[p12]at hx
 refine yM true 52 [.tmp 6] [0,1,2,6,7,8,17,36,47] Tryz.func19 fun X hX=>?_
 (repeat(refine yA ?_;(simp[go_sem])))
 refine aG (fun k:Nat=>⟨mkE [(0,.sl (L.map lt)),(1,ii q),(2,ii n),(7,ii (prodN (L.take k) 1)),(8,ii k)],[]⟩) (fun k=>k≤L.length∧runsL n (L.take k) 1) (fun k=>L.length-k) 0 ?_ ?_ ?_
 ·refine yS _ [] ?_
  simp[go_sem,prodN]
 ·exact⟨Nat.zero_le _,trivial⟩
 ·rintro k ⟨hk,hr⟩
  have hbd:=tD n (L.take k) 1 (by decide) (by decide) (fun x h=>(hx x (List.mem_of_mem_take h)).1) hr
  have hfl:=pJ n (L.drop k) (L.take k) 1 hr
  rw[List.take_append_drop]at hfl
  (repeat(refine yA ?_;(simp[go_sem])))
  refine yC (decide (k<L.length)&&decide ((k:Int)≤q)) (fun hc=>?_) fun hc=>?_
  ·simp only[Bool.and_eq_true,decide_eq_true_eq]at hc
   have hc:=hc.1
   have hq:=dA hc
   have wk:=w64 (x:=(k:Int)+1) (by omega) (by omega)
   have hsn:prodN (L.take (k+1)) 1=prodN (L.take k) 1*(1+namesE L[k].2):=by rw[List.take_succ_eq_append_getElem hc,nI]
   have hrn:=nJ n L[k] (L.take k) 1 hr
   rw[←List.take_succ_eq_append_getElem hc]at hrn
   rw[List.drop_eq_getElem_cons hc,fewG]at hfl
   have c1:=tB n hn L[k].2
   have c2:=xJ 12 (by omega) L[k].2 (h.exp L[k] (List.getElem_mem hc)).1 (h.exp L[k] (List.getElem_mem hc)).2
   have hxk:=hx L[k] (List.getElem_mem hc)
   generalize prodN (L.take k) 1=P at*
   generalize L[k]=x at*
   generalize namesE x.2=N at*
   have m1:0≤P*(1+N):=Int.mul_nonneg hbd.1 (by omega)
   have m2:P*(1+N)≤2000*531442:=Int.mul_le_mul hbd.2 (by omega) (by omega) (by decide)
   have w1:=w64 (x:=1+N) (by omega) (by omega)
   have w2:=w64 (x:=P*(1+N)) (by omega) (by omega)
   (repeat(refine yA ?_;(simp[go_sem,hc,hq])))
   refine aI (fun hg=>c1) ?_
   simp[go_sem,hc,hq]
   have hca:(60:Int)<x.1.length↔60<x.1.length:=by omega
   refine yC (decide (60<x.1.length)|| !decide (nodesE 16 x.2 n≤n)) (fun hd=>?_) (fun hd=>?_) (by simp[go_sem,hca])
   ·have hd:60<x.1.length∨n<nodesE 16 x.2 n:=by
     simp at hd
     rcases hd with hd|hd
     ·exact .inl hd
     ·exact .inr (by omega)
    rw[if_pos hd]at hfl
    rw[hfl,Bool.and_false]
    (repeat(refine yA ?_;(simp[go_sem])))
   ·have hd:¬(60<x.1.length∨n<nodesE 16 x.2 n):=by
     simp at hd
     omega
    rw[if_neg hd]at hfl
    (repeat(refine yA ?_;(simp[go_sem,hc,hq])))
    refine aD c2 ?_
    simp[go_sem,w1,w2]
    (repeat(refine yA ?_;(simp[go_sem])))
    refine yC (decide (2000<P*(1+N))) (fun he=>?_) fun he=>?_
    ·rw[if_pos (by simpa using he)]at hfl
     rw[hfl,Bool.and_false]
     (repeat(refine yA ?_;(simp[go_sem])))
    ·have he:¬2000<P*(1+N):=by simpa using he
     (repeat(refine yA ?_;(simp[go_sem,wk])))
     refine⟨k+1,⟨by omega,hrn hd he⟩,by omega,?_⟩
     rw[hsn]
     refine yS _ [] ?_
     simp[go_sem]
  ·by_cases hkl:k=L.length
   ·have e:fewG n L 1=true:=by
     rw[hfl,hkl,List.drop_length];rfl
    rw[e,Bool.and_true]
    (repeat(refine yA ?_;(simp[go_sem])))
   ·have e:¬(L.length:Int)≤q:=by simp at hc;omega
    rw[decide_eq_false e,Bool.false_and]
    (repeat(refine yA ?_;(simp[go_sem,e])))
abbrev fewL(L:List (By×E))(p:Int):Bool:=fewG 300 L p
theorem y7(L:List (By×E))(h:OkL L):Means true Tryz.prog 19 [.sl (L.map lt),ii 22,ii 300] (bb (fewL L 1)):=by
 have:=pK 22 300 (by omega) (by omega) L h
 rwa [decide_eq_true (show(L.length:Int)≤22 by have:=h.len;omega),Bool.true_and]at this
end Go.Proofs.YtllgjognpobnpaaGreatDoor

namespace Go.Proofs.YtllgjognpobnpaaGreatDoor
open Go.RowKit Go.Ab
attribute [local irreducible] AWP Go.Ab.Sub Means MeansH MeansE CallK CallG CallT CallGT PanicH PanicX DefH CallU
def few22(b:Bl)(C:List Int):Bool:=(decide ((b.lets.length:Int)≤2)&&fewG 12 b.lets 1&&decide (nodesE 16 b.due 12≤12)&&decide (nodesE 16 b.fine 12≤12)&&decide (nodesE 16 b.pay 12≤12)&&decide (nodesE 16 b.cover 12≤12)&&decide (nodesE 16 b.hold 12≤12))&&decide (b.last≤12)&&decide ((C.length:Int)≤9)
set_option maxHeartbeats 4000000 in
set_option maxRecDepth 20000 in
theorem FR(b:Bl)(h:OkB b)(C:List Int):Means true Tryz.prog 8 [bl b,il C] (bb (few22 b C)):=by
 have c0:=pK 2 12 (by omega) (by omega) b.lets h.lets
 have c1:=fun e=>tB 12 (by omega) e
 have e1:=c1 b.due
 have e2:=c1 b.fine
 have e3:=c1 b.pay
 have e4:=c1 b.cover
 have e5:=c1 b.hold
 have hv:few22 b C=((decide ((b.lets.length:Int)≤2)&&fewG 12 b.lets 1&&decide (nodesE 16 b.due 12≤12)&&decide (nodesE 16 b.fine 12≤12)&&decide (nodesE 16 b.pay 12≤12)&&decide (nodesE 16 b.cover 12≤12)&&decide (nodesE 16 b.hold 12≤12))&&decide (b.last≤12)&&decide ((C.length:Int)≤9)):=rfl
 generalize(decide ((b.lets.length:Int)≤2)&&fewG 12 b.lets 1)=x0 at*
 generalize decide (nodesE 16 b.due 12≤12)=x1 at*
 generalize decide (nodesE 16 b.fine 12≤12)=x2 at*
 generalize decide (nodesE 16 b.pay 12≤12)=x3 at*
 generalize decide (nodesE 16 b.cover 12≤12)=x4 at*
 generalize decide (nodesE 16 b.hold 12≤12)=x5 at*
 rw[hv]
 refine yM true 45 [.tmp 4] [0,1,2,4,5] Tryz.func8 fun X hX=>?_
 (repeat(refine yA ?_;(simp[go_sem])))
 refine aD c0 ?_
 simp[go_sem]
 refine aI (fun hg=>e1) ?_
 simp[go_sem]
 refine aI (fun hg=>e2) ?_
 simp[go_sem]
 refine aI (fun hg=>e3) ?_
 simp[go_sem]
 refine aI (fun hg=>e4) ?_
 simp[go_sem]
 refine aI (fun hg=>e5) ?_
 simp[go_sem]
 (repeat(refine yA ?_;(simp[go_sem])))
theorem CX{b:Bl}{C:List Int}(h:few22 b C=true):b.last≤12∧C.length≤9:=by
 unfold few22 at h
 simp only[Bool.and_eq_true,decide_eq_true_eq]at h
 omega
end Go.Proofs.YtllgjognpobnpaaGreatDoor

