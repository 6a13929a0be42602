/-
  Lemmas for the statement at the top.
-/
import Derived.Test.YtdcidannegcaoaaGreatDoorGP6
import Derived.Test.YtdcidannegcaoaaGreatDoorGP16
import Derived.Test.YtdcidannegcaoaaGreatDoorRows
import Derived.Test.YtdcidannegcaoaaGreatDoorGFw5
import Derived.Test.YtdcidannegcaoaaGreatDoorGP9
import Derived.Test.YtdcidannegcaoaaGreatDoorGP14
set_option linter.all false
namespace Go.Ab
def q14x0:List Nat:=[0,1,2,6,7,8,9,10,11,12,13,18,25,26,27,44,45,46,68]
attribute [go_sem] q14x0
end Go.Ab
namespace Go.Proofs.YtdcidannegcaoaaGreatDoor
open Go.RowKit Go.Ab
attribute [local irreducible] AWP Go.Ab.Sub Means MeansH MeansE CallK CallG CallT CallGT PanicH PanicX DefH CallU
structure NxI(n:Nat)(S S1:List Bool)(O:List Int):Prop where
 len:S1.length=n
 mem:∀g∈O,(0≤g∧g<n)∧S1[g.toNat]? =some true
 nd:O.Nodup
 cnt:O.length+S1.count false=S.count false
theorem NxI.step{n:Nat}{S S1:List Bool}{O:List Int}(h:NxI n S S1 O){q:Nat}(hq:q<S1.length)(hf:S1[q]=false):NxI n S (S1.set q true) (O++[(q:Int)]):=by
 have hn:=h.len
 refine⟨by simpa using h.len,fun g hg=>?_,?_,?_⟩
 ·rcases List.mem_append.1 hg with hg|hg
  ·obtain⟨h1,h2⟩:=h.mem g hg
   refine⟨h1,?_⟩
   rw[List.getElem?_set]
   by_cases e:q=g.toNat
   ·rw[if_pos e,if_pos (by omega)]
   ·rw[if_neg e];exact h2
  ·simp at hg
   subst hg
   refine⟨⟨by omega,by omega⟩,?_⟩
   rw[Int.toNat_natCast,List.getElem?_set,if_pos rfl,if_pos hq]
 ·rw[List.nodup_append]
  refine⟨h.nd,by simp,fun a ha b hb e=>?_⟩
  simp at hb
  subst hb;subst e
  have:=(h.mem _ ha).2
  rw[Int.toNat_natCast,List.getElem?_eq_getElem hq,hf]at this
  cases this
 ·have h1:=h.cnt
  have h2:0<S1.count false:=List.count_pos_iff.2 (by rw[←hf];exact List.getElem_mem hq)
  rw[List.count_set hq,hf]
  simp
  omega
abbrev rowB(S:List Bool):Cell:=.row ⟨4,1,S.map bb⟩
theorem I2{S:List Bool}{k:Nat}(h:k<S.length):nth (S.map bb) k=bb S[k]:=bF bb h
abbrev nextS(G:List (List Int))(n:Nat)(M:List Int)(R:Nat→List Int)(L:List Nat)(S:List Bool):AV→List Cell→Prop:=
 fun r H=>r=.ow 13∧∃(S1:List Bool) (L1:List Nat),(S1.length=n∧(∀q∈L1,q<n)∧L1.Nodup∧L1.length+S1.count false=S.count false)∧H=h8 G M n R [rowQ L,rowB S1,rowQ L1]
set_option maxHeartbeats 16000000 in
set_option maxRecDepth 20000 in
theorem wR(G:List (List Int))(n:Nat)(M:List Int)(R:Nat→List Int)(L:List Nat)(S:List Bool)(hn:n≤8)(hG:∀l∈G,l.length≤8∧∀g∈l,0≤g∧g<n)(hGl:G.length=n)(hL:∀q∈L,q<n)(hLl:L.length≤8)(hS:S.length=n):
  MeansE Tryz.prog 33 (h8 G M n R [rowQ L,rowB S]) [.el 0 3 0 0,.ow 11,.ow 12] (nextS G n M R L S):=by
 refine yE 13 47 [.tmp 6] [0,1,2,6,7,9,11,12,13,14,15,24,25,26,27,34,1000000,1000001,1000002,1000003,1000004,1000005,1000006,1000007,1000008,1000009,1000010,1000011,1000012] Tryz.func33 fun X hX=>?_
 (repeat(refine yB ?_;(simp[go_sem])))
 refine aE (fun z:Nat×List Bool×List Int=>⟨mkE [(0,.el 0 3 0 0),(2,.ow 12),(7,.ow 13),(12,.ow 11),(13,ii L.length),(14,ii z.1),(1000000,.ow 0),(1000001,.ow 1),(1000002,.ow 2),(1000003,.ow 3),(1000004,.ow 4),(1000005,.ow 5),(1000006,.ow 6),(1000007,.ow 7),(1000008,.ow 8),(1000009,.ow 9),(1000010,.ow 10),(1000011,.ow 11),(1000012,.ow 12)],h8 G M n R [rowQ L,rowB z.2.1,rowI z.2.2]⟩) (fun z=>z.1≤L.length∧NxI n S z.2.1 z.2.2) (fun z=>L.length-z.1) (0,S,[]) ?_ ?_ ?_
 ·refine yS _ (s8 G M n R [.old 11 ⟨3,1,L.map iq⟩,.old 12 ⟨4,1,S.map bb⟩,.birth 3 1]) ?_ (by simp[go_sem,isO])
  simp[go_sem]
 ·exact⟨Nat.zero_le _,hS,by simp,by simp,by simp⟩
 ·rintro⟨k,S1,O⟩ ⟨k1,k2⟩
  simp only[]at k1 k2
  (repeat(refine yB ?_;(simp[go_sem])))
  refine yC (decide (k<L.length)) (fun hc=>?_) fun hc=>?_
  ·simp at hc
   have hq:=qC hc
   have hqn:=hL _ (List.getElem_mem hc)
   have wk:=w64 (x:=(k:Int)+1) (by omega) (by omega)
   generalize L[k]=q at*
   have hqG:q<G.length:=by omega
   have hg:=uK hqG
   obtain⟨hr1,hr2⟩:=hG _ (List.getElem_mem hqG)
   generalize G[q]=r at*
   (repeat(refine yB ?_;(simp[go_sem,hc,hq,hqG,hg])))
   refine aE (fun z:Nat×List Bool×List Int=>⟨mkE [(0,.el 0 3 0 0),(2,.ow 12),(7,.ow 13),(12,.ow 11),(13,ii L.length),(14,ii k),(24,il r),(25,ii r.length),(26,ii z.1),(1000000,.ow 0),(1000001,.ow 1),(1000002,.ow 2),(1000003,.ow 3),(1000004,.ow 4),(1000005,.ow 5),(1000006,.ow 6),(1000007,.ow 7),(1000008,.ow 8),(1000009,.ow 9),(1000010,.ow 10),(1000011,.ow 11),(1000012,.ow 12)],h8 G M n R [rowQ L,rowB z.2.1,rowI z.2.2]⟩) (fun z=>z.1≤r.length∧NxI n S z.2.1 z.2.2) (fun z=>r.length-z.1) (0,S1,O) ?_ ?_ ?_
   ·refine yS _ (s8 G M n R [.old 11 ⟨3,1,L.map iq⟩,.old 12 ⟨4,1,S1.map bb⟩,.old 13 ⟨3,1,O.map ii⟩]) ?_ (by simp[go_sem,isO])
    simp[go_sem]
   ·exact⟨Nat.zero_le _,k2⟩
   ·clear k2
    rintro⟨j,S1,O⟩ ⟨j1,k2⟩
    simp only[]at j1 k2
    (repeat(refine yB ?_;(simp[go_sem])))
    refine yC (decide (j<r.length)) (fun hd=>?_) fun hd=>?_
    ·simp at hd
     have hj:=cK hd
     obtain⟨g0,g1⟩:=hr2 _ (List.getElem_mem hd)
     obtain⟨p,hp⟩:∃p:Nat,r[j]=p:=⟨r[j].toNat,by omega⟩
     have wj:=w64 (x:=(j:Int)+1) (by omega) (by omega)
     rw[hp]at hj g1
     have hpS:p<S1.length:=by rw[k2.len];omega
     have hb:=I2 hpS
     have hOl:O.length≤8:=by
      have h1:=k2.cnt
      have h2:=List.count_le_length (a:=false) (l:=S)
      omega
     (repeat(refine yB ?_;(simp[go_sem,hd,hj,hpS,hb])))
     refine yC (!S1[p]) (fun he=>?_) fun he=>?_
     ·have he:S1[p]=false:=by simpa using he
      have hst:=k2.step hpS he
      (repeat(refine yB ?_;(simp[go_sem,hpS,hb])))
      (repeat refine⟨by first|omega|(rw[bH];omega)|kernel_rfl|grind,?_⟩)
      (repeat(refine yB ?_;(simp[go_sem,wj,hb];(try simp(disch:=omega) only[w64,td,tm]))))
      refine⟨j+1,S1.set p true,O++[(p:Int)],⟨by omega,hst⟩,by omega,?_⟩
      refine yS _ (s8 G M n R [.old 11 ⟨3,1,L.map iq⟩,.old 12 ⟨4,1,(S1.set p true).map bb⟩,.old 15 ⟨3,1,(O++[(p:Int)]).map ii⟩]) ?_ (by simp[go_sem,isO])
      simp[go_sem]
     ·(repeat(refine yB ?_;(simp[go_sem,wj])))
      refine⟨j+1,S1,O,⟨by omega,k2⟩,by omega,?_⟩
      refine yS _ (s8 G M n R [.old 11 ⟨3,1,L.map iq⟩,.old 12 ⟨4,1,S1.map bb⟩,.old 13 ⟨3,1,O.map ii⟩]) ?_ (by simp[go_sem,isO])
      simp[go_sem]
    ·(repeat(refine yB ?_;(simp[go_sem,wk])))
     refine⟨k+1,S1,O,⟨by omega,k2⟩,by omega,?_⟩
     refine yS _ (s8 G M n R [.old 11 ⟨3,1,L.map iq⟩,.old 12 ⟨4,1,S1.map bb⟩,.old 13 ⟨3,1,O.map ii⟩]) ?_ (by simp[go_sem,isO])
     simp[go_sem]
  ·have hOl:O.length≤8:=by
    have h1:=k2.cnt
    have h2:=List.count_le_length (a:=false) (l:=S)
    omega
   have cs:=uL O (by omega)
   (repeat(refine yB ?_;(simp[go_sem])))
   refine yH [13] cs ?_
   simp[go_sem]
   (repeat(refine yB ?_;(simp[go_sem])))
   have hpm:=cH O
   obtain⟨L1,hL1⟩:∃L1:List Nat,(sortS O).map ii=L1.map iq∧(∀q∈L1,q<n)∧L1.Nodup∧L1.length=O.length:=by
    have hmem:∀g∈sortS O,0≤g∧g<n:=fun g hg=>(k2.mem g (hpm.mem_iff.1 hg)).1
    refine⟨(sortS O).map Int.toNat,?_,fun q hq=>?_,?_,by simp[hpm.length_eq]⟩
    ·rw[List.map_map]
     refine List.map_congr_left fun g hg=>?_
     have:=hmem g hg
     show ii g=ii ((g.toNat:Nat):Int)
     rw[Int.toNat_of_nonneg this.1]
    ·obtain⟨g,hg,rfl⟩:=List.mem_map.1 hq
     have:=hmem g hg
     omega
    ·refine List.pairwise_map.2 (List.Pairwise.imp_of_mem (fun{a b} ha hb hab e=>hab ?_) (hpm.nodup_iff.2 k2.nd))
     have h1:=hmem a ha
     have h2:=hmem b hb
     omega
   obtain⟨e1,e2,e3,e4⟩:=hL1
   have hcnt:=k2.cnt
   rw[e1]
   refine aB ?_;refine⟨.ow 13,h8 G M n R [rowQ L,rowB S1,rowQ L1],⟨rfl,S1,L1,⟨k2.len,e2,e3,by omega⟩,rfl⟩,?_⟩
   refine a8 [(6,.ow 13),(1000000,.ow 0),(1000001,.ow 1),(1000002,.ow 2),(1000003,.ow 3),(1000004,.ow 4),(1000005,.ow 5),(1000006,.ow 6),(1000007,.ow 7),(1000008,.ow 8),(1000009,.ow 9),(1000010,.ow 10),(1000011,.ow 11),(1000012,.ow 12)] (s8 G M n R [.old 11 ⟨3,1,L.map iq⟩,.old 12 ⟨4,1,S1.map bb⟩,.old 13 ⟨3,1,L1.map iq⟩]) ?_
   simp[go_sem,isO]
end Go.Proofs.YtdcidannegcaoaaGreatDoor

namespace Go.Proofs.YtdcidannegcaoaaGreatDoor
open Go.RowKit Go.Ab
attribute [local irreducible] AWP Go.Ab.Sub Means MeansH MeansE CallK CallG CallT CallGT PanicH PanicX DefH CallU
theorem HI(L:List Int)(hl:L.length≤1000)(hne:L≠[]):MeansH Tryz.prog 32 [] [il L] (.ow 0) [rowI L]:=by
 refine yN 0 8 [.tmp 2] [0,2,4] Tryz.func32 fun X hX=>?_
 (repeat(refine yB ?_;(simp[go_sem])))
 refine⟨?_,fun hL=>absurd hL hne⟩
 refine yF ?_
 (repeat(refine yB ?_;(simp[go_sem])))
 (repeat refine⟨by first|omega|(rw[bH];omega)|kernel_rfl|grind,?_⟩)
 refine aB ?_;refine a8 [(2,.ow 0)] [.old 1 ⟨3,1,L.map ii⟩] ?_
 simp[go_sem]
theorem rT{n:Int}:∀{l S:List Int},rowR n S l=true→∀g∈l,0≤g∧g<n
 | [],_,_,g,hg=>by cases hg
 |a::l,S,h,g,hg=>by
  rw[rowR]at h
  split at h
  ·cases h
  ·rename_i hc
   rcases List.mem_cons.1 hg with rfl|hg
   ·omega
   ·exact rT h g hg
theorem oI{D:List Int}{G:List (List Int)}{M:List Int}(h:rightB D G M=true):
  G.length=D.length∧M.length=D.length∧(∀l∈G,∀g∈l,0≤g∧g<D.length)∧∀i,i<D.length→(0≤D.getD i 0∧D.getD i 0≤1099511627776)∧0≤M.getD i 0∧M.getD i 0≤1099511627776:=by
 unfold rightB at h
 simp only[Bool.and_eq_true,decide_eq_true_eq,List.all_eq_true,List.mem_range]at h
 obtain⟨⟨⟨_,hG⟩,hM⟩,ha⟩:=h
 refine⟨hG,hM,fun l hl g hg=>?_,fun i hi=>?_⟩
 ·obtain⟨i,hi,rfl⟩:=List.getElem_of_mem hl
  have:=ha i (by omega)
  unfold itR at this
  simp only[Bool.and_eq_true]at this
  have h1:=this.1.1
  rw[List.getD_eq_getElem?_getD,List.getElem?_eq_getElem hi]at h1
  exact rT h1 g hg
 ·have:=ha i hi
  unfold itR amt at this
  simp only[Bool.and_eq_true,decide_eq_true_eq]at this
  omega
end Go.Proofs.YtdcidannegcaoaaGreatDoor

namespace Go.Proofs.YtdcidannegcaoaaGreatDoor
open Go.RowKit Go.Ab
attribute [local irreducible] AWP Go.Ab.Sub Means MeansH MeansE CallK CallG CallT CallGT PanicH PanicX DefH CallU
def zR(n k:Nat):Nat→List Int:=fun j=>if j<k then List.replicate n 0 else[]
def zS(n k j:Nat):Src:=if j+1=k then .old 11 ⟨3,1,(List.replicate n (0:Int)).map ii⟩else .old (j+3) ⟨3,1,(zR n (k-1) j).map ii⟩
theorem KM(n k j:Nat):(zS n (k+1) j).cell=rowI (zR n (k+1) j):=by
 unfold zS zR
 by_cases h:j+1=k+1
 ·rw[if_pos h,if_pos (by omega)];rfl
 ·rw[if_neg h]
  show rowI (if j<k+1-1 then _ else[])=_
  by_cases h2:j<k
  ·rw[if_pos (by omega),if_pos (by omega)]
  ·rw[if_neg (by omega),if_neg (by omega)]
abbrev zH(G:List (List Int))(M0:List Int)(n k:Nat):List Src:=[.old 0 ⟨95,3,[.agg [.sl (G.map il),.ow 1,.ow 2]]⟩,.old 1 ⟨3,1,M0.map ii⟩,.old 13 ⟨22,1,rws k⟩,zS n k 0,zS n k 1,zS n k 2,zS n k 3,zS n k 4,zS n k 5,zS n k 6,zS n k 7]
theorem KN(G:List (List Int))(M0:List Int)(n k:Nat):h8 G M0 (k+1) (zR n (k+1)) []=(zH G M0 n (k+1)).map Src.cell:=by
 simp only[List.map_cons,List.map_nil,KM];rfl
structure MvI(D M0:List Int)(M:List Int)(R:Nat→List Int)(F:List Int):Prop where
 inv:InvM D.length M R
 len:F.length=D.length
 col:∀d,d<D.length→colS R D.length d+F.getD d 0=D.getD d 0
 low:∀d,d<D.length→0≤F.getD d 0∧F.getD d 0≤D.getD d 0
 row:∀i,i<D.length→M.getD i 0+(R i).sum=M0.getD i 0
theorem MvI.step{D M0 M M' F:List Int}{R R':Nat→List Int}{d:Nat}{x:Int}(h:MvI D M0 M R F)(hd:d<D.length)(hp:Pst D.length M R M' R' d x)(hx:0≤x∧x≤F.getD d 0):MvI D M0 M' R' (F.set d (F.getD d 0-x)):=by
 have hdF:d<F.length:=by rw[h.len];exact hd
 refine⟨hp.inv,by simpa using h.len,fun j hj=>?_,fun j hj=>?_,fun i hi=>(hp.tot i hi).trans (h.row i hi)⟩
 ·rw[dC _ _ _ _ hdF]
  have h1:=h.col j hj
  by_cases e:j=d
  ·subst e
   rw[if_pos rfl,hp.col];omega
  ·rw[if_neg e]
   have:colS R' D.length j=colS R D.length j:=by
    unfold colS
    rw[List.map_congr_left fun i hi=>hp.oth i (by simpa using hi) j e]
   omega
 ·rw[dC _ _ _ _ hdF]
  have h1:=h.low j hj
  by_cases e:j=d
  ·subst e
   rw[if_pos rfl];omega
  ·rw[if_neg e];exact h1
theorem MvI.start{D M0:List Int}(hM:M0.length=D.length)(h:∀i,i<D.length→(0≤D.getD i 0∧D.getD i 0≤1099511627776)∧0≤M0.getD i 0∧M0.getD i 0≤1099511627776):MvI D M0 M0 (zR D.length D.length) D:=by
 have hz:∀i,i<D.length→zR D.length D.length i=List.replicate D.length 0:=fun i hi=>if_pos hi
 refine⟨⟨hM,fun i hi=>by rw[hz i hi];simp,fun i hi=>(h i hi).2.1,fun i hi y hy=>by rw[hz i hi]at hy;rw[List.eq_of_mem_replicate hy];exact Int.le_refl _,fun i hi=>by rw[hz i hi];simp;exact(h i hi).2.2⟩,rfl,fun d hd=>?_,fun d hd=>⟨(h d hd).1.1,Int.le_refl _⟩,fun i hi=>by rw[hz i hi];simp⟩
 have:colS (zR D.length D.length) D.length d=0:=by
  have h0:∀l:List Nat,(∀i∈l,i<D.length)→(l.map fun i=>(zR D.length D.length i).getD d 0).sum=0:=fun l=>by
   induction l with
   |nil=>intro _;rfl
   |cons a l ih=>
    intro hl
    have h1:(zR D.length D.length a).getD d 0=0:=by
     rw[hz a (hl a (by simp)),List.getD_eq_getElem?_getD,List.getElem?_replicate]
     split<;>rfl
    rw[List.map_cons,List.sum_cons,h1,ih fun i hi=>hl i (by simp[hi])];rfl
  exact h0 _ fun i hi=>by simpa using hi
 omega
def pL(n:Nat)(R:Nat→List Int):List AV:=((List.range n).map R).map il
@[go_sem] theorem pL_zone(n:Nat)(R:Nat→List Int):zoneEs (pL n R)=true:=cZ il _ fun _=>rfl
theorem I3(n:Nat)(R:Nat→List Int):(pL n R).length=n:=by simp[pL]
theorem uM{n i:Nat}{R:Nat→List Int}(h:i<n):nth (pL n R) i=il (R i):=gE (by simp[pL,h])
theorem F3{n:Nat}(hn:n≤8):rws n=(List.range n).map fun j=>.ow (j+3):=by
 have:n=0∨n=1∨n=2∨n=3∨n=4∨n=5∨n=6∨n=7∨n=8:=by omega
 rcases this with rfl|rfl|rfl|rfl|rfl|rfl|rfl|rfl|rfl<;>rfl
theorem oJ{HS:List Src}{H:List Cell}(f g:Nat→AV):∀l:List Nat,(∀j∈l,okF HS H (f j) (g j))→okEs HS H (l.map f) (l.map g)
 | [],_=>trivial
 |a::l,h=>⟨h a (by simp),oJ f g l fun j hj=>h j (by simp[hj])⟩
theorem F4{HS:List Src}{H:List Cell}{n:Nat}{R:Nat→List Int}(hn:n≤8)(h0:H[3]? =some (rowI (R 0)))(h1:H[4]? =some (rowI (R 1)))(h2:H[5]? =some (rowI (R 2)))(h3:H[6]? =some (rowI (R 3)))(h4:H[7]? =some (rowI (R 4)))(h5:H[8]? =some (rowI (R 5)))(h6:H[9]? =some (rowI (R 6)))(h7:H[10]? =some (rowI (R 7)))
  (hs:[3,4,5,6,7,8,9,10].all (fun j=> !HS.any (Src.isOld j))=true):okEs HS H (rws n) (pL n R):=by
 rw[F3 hn]
 unfold pL
 rw[List.map_map]
 refine oJ _ _ _ fun j hj=>?_
 have hj:j<n:=by simpa using hj
 have hg:H[j+3]? =some (rowI (R j)):=by
  have:j=0∨j=1∨j=2∨j=3∨j=4∨j=5∨j=6∨j=7:=by omega
  rcases this with rfl|rfl|rfl|rfl|rfl|rfl|rfl|rfl<;>assumption
 have hh:HS.any (Src.isOld (j+3))=false:=by
  have:=List.all_eq_true.1 hs (j+3) (by simp;omega)
  simpa using this
 exact .inr (.inr (.inl ⟨j+3,_,rfl,hg,rfl,cZ ii _ (fun _=>rfl),hh⟩))
def movR(D:List Int)(G:List (List Int))(M0:List Int)(r:AV):Prop:=
 (r=.tup [.sl [],.sl [],ii 1]∧rightB D G M0=false)∨∃M R F,r=.tup [.sl (pL D.length R),il F,ii 0]∧MvI D M0 M R F∧rightB D G M0=true
set_option maxHeartbeats 16000000 in
set_option maxRecDepth 20000 in
theorem I4(D:List Int)(G:List (List Int))(M0:List Int)(hD:1≤D.length∧D.length≤8)(hG:∀l∈G,l.length≤8):MeansV false Tryz.prog 11 [il D,.sl (G.map il),il M0] (movR D G M0):=by
 have cr:=rV D G M0 hG
 refine o7 false 90 [.tmp 6,.tmp 7,.tmp 8] Tryz.func11 rfl rfl rfl (by simp) (by decide) rfl fun X hX=>?_
 (repeat(refine aI q14x0 hX mixed rfl ?_;simp[go_sem]))
 refine aC cr ?_
 simp[go_sem]
 refine yC (!rightB D G M0) (fun hc=>?_) fun hc=>?_
 ·have hc:rightB D G M0=false:=by simpa using hc
  (repeat(refine aI q14x0 hX mixed rfl ?_;simp[go_sem]))
  exact .inl ⟨rfl,hc⟩
 have hr:rightB D G M0=true:=by simpa using hc
 obtain⟨g1,g2,g3,g4⟩:=oI hr
 clear hc cr
 have cM:=HI M0 (by omega) (fun e=>by rw[e]at g2;simp at g2;omega)
 have cD:=HI D (by omega) (fun e=>by rw[e]at hD;simp at hD)
 (repeat(refine aI q14x0 hX mixed rfl ?_;simp[go_sem]))
 refine yH [] cM ?_
 simp[go_sem]
 (repeat(refine aI q14x0 hX mixed rfl ?_;simp[go_sem]))
 refine aE (fun k:Nat=>⟨mkE [(0,il D),(9,.el 0 3 0 0),(25,ii D.length),(26,ii k)],h8 G M0 k (zR D.length k) []⟩) (fun k=>k≤D.length) (fun k=>D.length-k) 0 ?_ ?_ ?_
 ·refine yS _ [.old 1 ⟨95,3,[.agg [.sl (G.map il),.ow 1,.ow 2]]⟩,.old 0 ⟨3,1,M0.map ii⟩,.birth 22 1,.birth 3 1,.birth 3 1,.birth 3 1,.birth 3 1,.birth 3 1,.birth 3 1,.birth 3 1,.birth 3 1] ?_ (by simp[go_sem,rws,zR])
  simp[go_sem,rws,zR]
 ·exact Nat.zero_le _
 ·intro k hk
  (repeat(refine aI q14x0 hX mixed rfl ?_;simp[go_sem]))
  refine yC (decide (k<D.length)) (fun hc=>?_) fun hc=>?_
  ·simp at hc
   have wk:=w64 (x:=(k:Int)+1) (by omega) (by omega)
   have hrl:=wS (n:=k) (by omega)
   obtain⟨k1,hk1⟩:∃k1,k1=k+1:=⟨_,rfl⟩
   have hz:=KN G M0 D.length k
   rw[←hk1]at hz
   have hcs:k=0∨k=1∨k=2∨k=3∨k=4∨k=5∨k=6∨k=7:=by omega
   rcases hcs with rfl|rfl|rfl|rfl|rfl|rfl|rfl|rfl
   all_goals
    push_cast at wk
    (repeat(refine aI q14x0 hX mixed rfl ?_;simp[go_sem]))
    (repeat refine⟨by first|omega|(rw[bH];omega)|kernel_rfl|grind,?_⟩)
    (repeat(refine aI q14x0 hX mixed rfl ?_;simp[go_sem,wk]))
    refine⟨k1,by omega,by omega,?_⟩
    rw[hz]
    refine yS _ (zH G M0 D.length k1) ?_ (by simp[go_sem,hk1,rws,zR,zS])
    simp[go_sem,hk1,rws,zR,zS]
  ·have hkn:k=D.length:=by simp at hc;omega
   subst hkn
   clear hk hc
   have hst:=MvI.start g2 g4
   generalize zR D.length D.length=R0 at*
   (repeat(refine aI q14x0 hX mixed rfl ?_;simp[go_sem]))
   refine yH [] cD ?_
   simp[go_sem]
   (repeat(refine aI q14x0 hX mixed rfl ?_;simp[go_sem]))
   obtain⟨n,hn⟩:∃n,D.length=n:=⟨_,rfl⟩
   have hGG:∀l∈G,l.length≤8∧∀g∈l,0≤g∧g<n:=fun l hl=>⟨hG l hl,by rw[←hn];exact g3 l hl⟩
   rw[hn]at hD g1
   refine aE (fun z:Nat×List Int×(Nat→List Int)×List Int=>⟨mkE [(0,il D),(9,.el 0 3 0 0),(10,.ow 11),(44,ii n),(45,ii z.1)],h8 G z.2.1 n z.2.2.1 [rowI z.2.2.2]⟩) (fun z=>z.1≤n∧MvI D M0 z.2.1 z.2.2.1 z.2.2.2) (fun z=>n-z.1) (0,M0,R0,D) ?_ ?_ ?_
   ·rw[hn]
    refine yS _ (s8 G M0 n R0 [.old 11 ⟨3,1,D.map ii⟩]) ?_ (by simp[go_sem,isO])
    simp[go_sem]
   ·exact⟨Nat.zero_le _,hst⟩
   clear hst
   rintro⟨d,M1,R1,F1⟩ ⟨d1,d2⟩
   simp only[]at d1 d2
   (repeat(refine aI q14x0 hX mixed rfl ?_;simp[go_sem]))
   refine yC (decide (d<n)) (fun hc=>?_) fun hc=>?_
   ·simp at hc
    have wd:=w64 (x:=(d:Int)+1) (by omega) (by omega)
    have cn:=wR G n M1 R1 [d] ((List.replicate n false).set d true) (by omega) hGG g1 (by simpa using hc) (by simp) (by simp)
    have hnb:nth (List.replicate n (bb false)) d=bb false:=gE (by simp[hc])
    (repeat(refine aI q14x0 hX mixed rfl ?_;simp[go_sem,hn,hc,hnb]))
    (repeat refine⟨by first|omega|(rw[bH];omega)|kernel_rfl|grind,?_⟩)
    (repeat(refine aI q14x0 hX mixed rfl ?_;simp[go_sem,hn,hc,hnb]))
    refine yQ [0,1,2,3,4,5,6,7,8,9,10,13,12] cn ?_
    rintro _ _ ⟨rfl,S,L,⟨s1,s2,s3,s4⟩,rfl⟩
    simp[go_sem]
    (repeat(refine aI q14x0 hX mixed rfl ?_;simp[go_sem]))
    have hL8:L.length≤8:=by
     have:=List.count_le_length (a:=false) (l:=(List.replicate n false).set d true)
     simp only[List.length_set,List.length_replicate]at this
     omega
    clear cn s4 hnb
    refine aE (fun z:List Int×(Nat→List Int)×List Int×List Bool×List Nat=>⟨mkE [(0,il D),(9,.el 0 3 0 0),(10,.ow 11),(11,ii d),(12,.ow 12),(13,.ow 13),(44,ii n),(45,ii d)],h8 G z.1 n z.2.1 [rowI z.2.2.1,rowB z.2.2.2.1,rowQ z.2.2.2.2]⟩) (fun z=>MvI D M0 z.1 z.2.1 z.2.2.1∧z.2.2.2.1.length=n∧(∀q∈z.2.2.2.2,q<n)∧z.2.2.2.2.Nodup∧z.2.2.2.2.length≤8) (fun z=>z.2.2.2.1.count false+z.2.2.2.2.length) (M1,R1,F1,S,L) ?_ ?_ ?_
    ·refine yS _ (s8 G M1 n R1 [.old 11 ⟨3,1,F1.map ii⟩,.old 12 ⟨4,1,S.map bb⟩,.old 14 ⟨3,1,L.map iq⟩]) ?_ (by simp[go_sem,isO])
     simp[go_sem]
    ·exact⟨d2,s1,s2,s3,hL8⟩
    clear d2 s1 s2 s3 hL8
    rintro⟨M2,R2,F2,S,L⟩ ⟨h1,s1,s2,s3,hL8⟩
    simp only[]at h1 s1 s2 s3 hL8
    have hdF:d<F2.length:=by rw[h1.len,hn];exact hc
    have hF:=cK hdF
    have hFv:F2[d]=F2.getD d 0:=by simp[hdF]
    have hlow:=h1.low d (by omega)
    have hDb:=(g4 d (by omega)).1
    rw[hFv]at hF
    obtain⟨v,hv⟩:∃v,F2.getD d 0=v:=⟨_,rfl⟩
    rw[hv]at hF hFv hlow
    (repeat(refine aI q14x0 hX mixed rfl ?_;simp[go_sem,hdF,hF]))
    refine yC (decide (0<v)&&decide (0<L.length)) (fun hd=>?_) (fun hd=>?_) (by simp[go_sem,hFv])
    ·simp only[Bool.and_eq_true,decide_eq_true_eq]at hd
     have hI:=h1.inv
     rw[hn]at hI
     have cp:=JT G n M2 R2 L d v (by omega) hI hc s2 hL8 s3 (by omega)
     (repeat(refine aI q14x0 hX mixed rfl ?_;simp[go_sem,hdF,hF,hFv]))
     refine yQ [0,1,2,3,4,5,6,7,8,9,10,13] cp ?_
     rintro _ _ ⟨x,M3,R3,rfl,hx,hp,rfl⟩
     have h3:=h1.step (d:=d) (by omega) (by rw[hn];exact hp) (by rw[hv];exact hx)
     rw[hv]at h3
     simp[go_sem,hdF]
     (repeat(refine aI q14x0 hX mixed rfl ?_;simp[go_sem]))
     have cn:=wR G n M3 R3 L S (by omega) hGG g1 s2 hL8 s1
     refine yQ [0,1,2,3,4,5,6,7,8,9,10,13,12] cn ?_
     rintro _ _ ⟨rfl,S1,L1,⟨t1,t2,t3,t4⟩,rfl⟩
     simp[go_sem]
     have hL9:L1.length≤8:=by
      have:=List.count_le_length (a:=false) (l:=S)
      omega
     refine⟨M3,R3,F2.set d (v-x),S1,L1,⟨h3,t1,t2,t3,hL9⟩,by omega,?_⟩
     refine yS _ (s8 G M3 n R3 [.old 11 ⟨3,1,(F2.set d (v-x)).map ii⟩,.old 12 ⟨4,1,S1.map bb⟩,.old 14 ⟨3,1,L1.map iq⟩]) ?_ (by simp[go_sem,isO])
     simp[go_sem]
    ·(repeat(refine aI q14x0 hX mixed rfl ?_;simp[go_sem,wd]))
     refine⟨d+1,M2,R2,F2,⟨by omega,h1⟩,by omega,?_⟩
     refine yS _ (s8 G M2 n R2 [.old 11 ⟨3,1,F2.map ii⟩]) ?_ (by simp[go_sem,isO])
     simp[go_sem]
   ·have hdn:d=n:=by simp at hc;omega
    subst hdn
    have hd8:d≤8:=by omega
    refine bA (BJ [(9,.el 0 3 0 0),(10,.ow 3)] [.old 0 ⟨95,3,[.agg [.sl (G.map il),.ow 1,.ow 2]]⟩,.old 1 ⟨3,1,M1.map ii⟩,.old 2 ⟨22,1,pL d R1⟩,.old 11 ⟨3,1,F1.map ii⟩] ?_ ?_) ?_
    ·simp[go_sem,F4 hd8]
    ·simp[go_sem]
    (repeat(refine aI q14x0 hX mixed rfl ?_;simp[go_sem]))
    exact .inr ⟨M1,R1,F1,by rw[hn],d2,hr⟩
end Go.Proofs.YtdcidannegcaoaaGreatDoor

namespace Go.Proofs.YtdcidannegcaoaaGreatDoor
open Go.RowKit Go.Ab
attribute [local irreducible] AWP Go.Ab.Sub Means MeansH MeansE CallK CallG CallT CallGT PanicH PanicX DefH CallU
def fewE(e:E):Bool:=decide (nodesE 16 e 16≤16)
def smallV(b:Bl):Bool:=decide ((b.lets.length:Int)≤3)&&fewG 16 b.lets 1&&fewE b.due&&fewE b.fine&&fewE b.pay&&fewE b.cover&&fewE b.hold
set_option maxHeartbeats 4000000 in
set_option maxRecDepth 20000 in
theorem F6(b:Bl)(h:OkB b):Means true Tryz.prog 26 [bl b] (bb (smallV b)):=by
 have c0:=oK 3 16 (by omega) (by omega) b.lets h.lets
 have c1:=fun e=>rW 16 (by omega) e
 have e1:=c1 b.due
 have e2:=c1 b.fine
 have e3:=c1 b.pay
 have e4:=c1 b.cover
 have e5:=c1 b.hold
 have hv:smallV b=(decide ((b.lets.length:Int)≤3)&&fewG 16 b.lets 1&&fewE b.due&&fewE b.fine&&fewE b.pay&&fewE b.cover&&fewE b.hold):=rfl
 unfold fewE at hv
 generalize(decide ((b.lets.length:Int)≤3)&&fewG 16 b.lets 1)=x0 at*
 generalize decide (nodesE 16 b.due 16≤16)=x1 at*
 generalize decide (nodesE 16 b.fine 16≤16)=x2 at*
 generalize decide (nodesE 16 b.pay 16≤16)=x3 at*
 generalize decide (nodesE 16 b.cover 16≤16)=x4 at*
 generalize decide (nodesE 16 b.hold 16≤16)=x5 at*
 rw[hv]
 refine yM true 31 [.tmp 2] [0,1,2] Tryz.func26 fun X hX=>?_
 (repeat(refine yA ?_;(simp[go_sem])))
 refine aC c0 ?_
 simp[go_sem]
 refine aK (fun hg=>e1) ?_
 simp[go_sem]
 refine aK (fun hg=>e2) ?_
 simp[go_sem]
 refine aK (fun hg=>e3) ?_
 simp[go_sem]
 refine aK (fun hg=>e4) ?_
 simp[go_sem]
 refine aK (fun hg=>e5) ?_
 simp[go_sem]
 (repeat(refine yA ?_;(simp[go_sem])))
def few25(b:Bl)(P:List Pd):Bool:=smallV b&&decide (b.last≤40)&&decide (P.length≤40)
theorem F7(b:Bl)(h:OkB b)(P:List Pd):Means true Tryz.prog 8 [bl b,.sl (P.map pdv)] (bb (few25 b P)):=by
 have c:=F6 b h
 have hv:few25 b P=(smallV b&&decide (b.last≤40)&&decide ((P.length:Int)≤40)):=by
  unfold few25
  rw[show decide (P.length≤40)=decide ((P.length:Int)≤40) from by rw[Bool.eq_iff_iff];simp;omega]
 rw[hv]
 refine yM true 17 [.tmp 4] [0,1,2,4] Tryz.func8 fun X hX=>?_
 (repeat(refine yA ?_;(simp[go_sem])))
 refine aC c ?_
 simp[go_sem]
 (repeat(refine yA ?_;(simp[go_sem])))
theorem mG{f:Nat→Int}{B:Int}:∀n,(∀i,i<n→0≤f i∧f i≤B)→0≤((List.range n).map f).sum∧((List.range n).map f).sum≤B*n
 |0,_=>by simp
 |n+1,h=>by
  have h1:=mG n fun i hi=>h i (by omega)
  have h2:=h n (by omega)
  simp only[List.range_succ,List.map_append,List.sum_append,List.map_cons,List.map_nil,List.sum_cons,List.sum_nil,Int.natCast_add,Int.mul_add]
  omega
theorem C1(f:Nat→Int)(n:Nat):((List.range (n+1)).map f).sum=((List.range n).map f).sum+f n:=by
 simp[List.range_succ]
theorem zG(R:Nat→List Int)(n d:Nat):colS R (n+1) d=colS R n d+(R n).getD d 0:=C1 _ n
def tkS(l:List Int)(n:Nat):Int:=(l.take n).sum
theorem mH(l:List Int):tkS l 0=0:=rfl
theorem qE{l:List Int}{n:Nat}(h:n=l.length):tkS l n=l.sum:=by unfold tkS;rw[h,List.take_length]
theorem kJ{l:List Int}{n:Nat}(h:n<l.length):tkS l (n+1)=tkS l n+l[n]:=by
 unfold tkS
 rw[List.take_succ_eq_append_getElem h,List.sum_append];simp
theorem fH{l:List Int}(h:∀y∈l,0≤y)(n:Nat):0≤tkS l n∧tkS l n≤l.sum:=by
 unfold tkS
 have e:l.sum=(l.take n).sum+(l.drop n).sum:=by rw[←List.sum_append,List.take_append_drop]
 have h1:=(qG (l:=l.take n) fun y hy=>h y (List.mem_of_mem_take hy)).1
 have h2:=(qG (l:=l.drop n) fun y hy=>h y (List.mem_of_mem_drop hy)).1
 omega
theorem I5{n:Int}{L:List Ow}(hn:0≤n)(h:∀o∈L,OkW o):∀y∈(stl n L).1,0≤y:=by
 unfold stl
 have:∀(L:List Ow) (a:List Int×Int),0≤a.2→(∀y∈a.1,0≤y)→(∀o∈L,OkW o)→∀y∈(L.foldl stS a).1,0≤y:=by
  intro L
  induction L with
  |nil=>intro a _ h2 _;exact h2
  |cons o L ih=>
   intro a h1 h2 h3
   have b:=iG (h3 o (by simp))
   rw[List.foldl_cons]
   refine ih (stS a o) (by simp only[stS];omega) (fun y hy=>?_) fun x hx=>h3 x (by simp[hx])
   rcases List.mem_append.1 hy with hy|hy
   ·exact h2 y hy
   ·simp at hy;omega
 exact this L ([],n) hn (by simp) h
theorem F8{n:Int}{L:List Ow}(h:∀o∈L,OkW o)(hn:0≤n)(hD:n≤sumD L):(stl n L).1.length=L.length∧(stl n L).1.sum=n∧(stl n L).2=0∧∀y∈(stl n L).1,0≤y:=by
 have h1:=rX hn h
 have h2:=F9 n L
 exact⟨wT n L,by omega,by omega,I5 hn h⟩
end Go.Proofs.YtdcidannegcaoaaGreatDoor

namespace Go.Proofs.YtdcidannegcaoaaGreatDoor
open Go.RowKit Go.Ab
attribute [local irreducible] AWP Go.Ab.Sub Means MeansH MeansE CallK CallG CallT CallGT PanicH PanicX DefH CallU
def oV(b:Bl)(f k day:Int)(K:List Int)(P:List Pd)(i:Nat)(L:List Ow)(err:Int):Nat→AV
 |0=>bl b
 |1=>ii f
 |2=>il K
 |3=>ii K.length
 |4=>il K
 |5=>ii i
 |6=>.ro [ii k]
 |7=>ii k
 |8=>ii f
 |9=>ii (max f 0)
 |10=>.agg [ii k,ii (max f 0),.sl [],ii 0,ii 0]
 |11=>.sl (P.map pdv)
 |12=>ii day
 |13=>.tup [.sl (L.map oww),ii err]
 |14=>.tup [.sl (L.map oww),ii err]
 |15=>.sl (L.map oww)
 |16=>ii err
 |17=>.sl (L.map oww)
 |18=>ii err
 |_=>.bad
def oD:Nat→Nat
 |0=>89
 |1=>90
 |2=>91
 |3=>92
 |4=>93
 |5=>94
 |6=>95
 |7=>96
 |8=>97
 |9=>98
 |10=>99
 |11=>100
 |12=>101
 |13=>102
 |14=>88
 |15=>103
 |16=>104
 |17=>23
 |18=>24
 |_=>0
def oB:List Nat:=[1,2,3,4,5,6,15,16,19,20,21,22]
structure JO(b:Bl)(f k day:Int)(K:List Int)(P:List Pd)(i:Nat)(E0:Nat→AV)(H:List Cell)(D:Nat→Bool)(s:St):Prop where
 heap:s.heap=H
 base:∀t∈oB,s.env t=E0 t
 vals:∃L err,(D 13=true→err=0→L.length≤1000∧∀o∈L,OkW o)∧∀j,j<19→D j=true→s.env (oD j)=oV b f k day K P i L err j
 post:D 13=false→∀j,j<19→13<j→D j=false
theorem C2{i j:Nat}(hi:i<19)(hj:j<19)(h:oD i=oD j):i=j:=by
 have:∀i,i<19→∀j,j<19→oD i=oD j→i=j:=by decide
 exact this i hi j hj h
theorem wU{i:Nat}(hi:i<19):oD i∉oB:=by
 have:∀i,i<19→oD i∉oB:=by decide
 exact this i hi
theorem JU(b:Bl)(f k day:Int)(K:List Int)(P:List Pd)(i:Nat)(L L':List Ow)(e e':Int){j:Nat}(h:j<13):oV b f k day K P i L e j=oV b f k day K P i L' e' j:=by
 have:j=0∨j=1∨j=2∨j=3∨j=4∨j=5∨j=6∨j=7∨j=8∨j=9∨j=10∨j=11∨j=12:=by omega
 rcases this with rfl|rfl|rfl|rfl|rfl|rfl|rfl|rfl|rfl|rfl|rfl|rfl|rfl<;>rfl
theorem JO.put{b:Bl}{f k day:Int}{K:List Int}{P:List Pd}{i:Nat}{E0:Nat→AV}{H:List Cell}{D:Nat→Bool}{s:St}(h:JO b f k day K P i E0 H D s){L:List Ow}{err:Int}(h1:D 13=true→err=0→L.length≤1000∧∀o∈L,OkW o)(h2:∀j,j<19→D j=true→s.env (oD j)=oV b f k day K P i L err j)
  (c:Nat) (hc:c<19) (hc2:c≠13) (hc3:13<c→D 13=true):JO b f k day K P i E0 H (fun j=>D j||j==c) ⟨upd s.env (oD c) (oV b f k day K P i L err c),H⟩:=by
 refine⟨rfl,fun t ht=>?_,⟨L,err,fun h13=>?_,fun j hj hd=>?_⟩,fun h13 j hj hlt=>?_⟩
 ·show upd s.env (oD c) _ t=_
  rw[aS _ _ _ fun e=>wU hc (by rw[←e];exact ht)]
  exact h.base t ht
 ·have:(13==c)=false:=by simp;omega
  rw[this,Bool.or_false]at h13
  exact h1 h13
 ·show upd s.env (oD c) _ (oD j)=_
  by_cases e:j=c
  ·subst e;exact bC _ _ _
  ·rw[aS _ _ _ fun e2=>e (C2 hj hc e2)]
   have:(j==c)=false:=by simpa using e
   rw[this,Bool.or_false]at hd
   exact h2 j hj hd
 ·have e1:(13==c)=false:=by simp;omega
  rw[e1,Bool.or_false]at h13
  have e2:(j==c)=false:=by
   rw[beq_eq_false_iff_ne]
   intro e
   subst e
   rw[hc3 hlt]at h13
   cases h13
  rw[e2,Bool.or_false]
  exact h.post h13 j hj hlt
theorem JO.has{b:Bl}{f k day:Int}{K:List Int}{P:List Pd}{i:Nat}{E0:Nat→AV}{H:List Cell}{D:Nat→Bool}{s:St}(h:JO b f k day K P i E0 H D s)(c:Nat)(hc:c<19)(h3:13<c)(hD:D c=true):D 13=true:=by
 cases h13:D 13 with
 |true=>rfl
 |false=>rw[h.post h13 c hc h3]at hD;cases hD
theorem JO.call{b:Bl}{f k day:Int}{K:List Int}{P:List Pd}{i:Nat}{E0:Nat→AV}{H:List Cell}{D:Nat→Bool}{s:St}(h:JO b f k day K P i E0 H D s)(hD:D 13=false){L:List Ow}{err:Int}(h1:err=0→L.length≤1000∧∀o∈L,OkW o):
  JO b f k day K P i E0 H (fun j=>D j||j==13) ⟨upd s.env 102 (.tup [.sl (L.map oww),ii err]),H⟩:=by
 obtain⟨L0,e0,_,h2⟩:=h.vals
 refine⟨rfl,fun t ht=>?_,⟨L,err,fun _=>h1,fun j hj hd=>?_⟩,fun h13=>by simp at h13⟩
 ·show upd s.env 102 _ t=_
  rw[aS _ _ _ fun e=>wU (i:=13) (by omega) (by rw[show oD 13=t from e.symm];exact ht)]
  exact h.base t ht
 ·show upd s.env 102 _ (oD j)=_
  by_cases e:j=13
  ·subst e;exact bC _ _ _
  ·rw[show upd s.env 102 (.tup [.sl (L.map oww),ii err]) (oD j)=s.env (oD j) from aS _ _ _ fun e2=>e (C2 (j:=13) hj (by omega) e2)]
   have e3:(j==13)=false:=by simpa using e
   rw[e3,Bool.or_false]at hd
   have hlt:j<13:=by
    rcases Nat.lt_or_ge 13 j with hg|hg
    ·rw[h.post hD j hj hg]at hd;cases hd
    ·omega
   rw[h2 j hj hd]
   exact JU b f k day K P i L0 L e0 err hlt
theorem FA{X:Ctx}{E:Nat→AV}{H:List Cell}(d:Nat)(a b c e:AV):Go.Ab.Sub X ⟨upd E d (.agg [a,b,.sl [],c,e]),H⟩ ⟨upd E d (.agg [a,b,.nil,c,e]),H⟩:=by
 unfold Go.Ab.Sub
 rintro t w ⟨M,loc,h⟩
 refine⟨M,loc,fun s=>?_,h.nle,h.size,h.defers,h.obj,h.sep,h.mobj,h.msep,h.below,h.zone,h.zin,h.zlt,h.one,fun s=>?_⟩
 ·have hs:=h.env s
  show Rep w M loc _ (upd E d _ s)
  by_cases hd:s=d
  ·subst hd
   rw[bC]
   have hs:Rep w M loc _ (upd E s _ s):=hs
   rw[bC]at hs
   obtain⟨cs,h1,h2,h3⟩:=hs
   refine⟨cs,h1,h2,fun j x y hx hy=>?_⟩
   match j,hy with
   |0,hy=>exact h3 0 x y hx hy
   |1,hy=>exact h3 1 x y hx hy
   |2,hy=>
    cases hy
    rcases h3 2 x .nil hx rfl with h4|h4
    ·cases h4
     exact .inl (.sl none 0 0 [] (fun _=>undef) (by simp) (by simp) (by simp) (by simp) (by simp) (by decide))
    ·exact h4.elim
   |3,hy=>exact h3 3 x y hx hy
   |4,hy=>exact h3 4 x y hx hy
   |j+5,hy=>simp at hy
  ·rw[aS _ _ _ hd]
   have hs:Rep w M loc _ (upd E d _ s):=hs
   rw[aS _ _ _ hd]at hs
   exact hs
 ·have hs:AV.idLt _ (upd E d _ s):=h.ids s
  show AV.idLt _ (upd E d _ s)
  by_cases hd:s=d
  ·subst hd
   rw[bC]at hs⊢
   intro y hy id hid
   refine hs y ?_ id hid
   simp only[List.mem_cons,List.not_mem_nil,or_false]at hy⊢
   rcases hy with rfl|rfl|rfl|rfl|rfl
   ·simp
   ·simp
   ·simp[AV.idB]at hid
   ·simp
   ·simp
  ·rw[aS _ _ _ hd]at hs⊢;exact hs
end Go.Proofs.YtdcidannegcaoaaGreatDoor

namespace Go.Proofs.YtdcidannegcaoaaGreatDoor
open Go.RowKit Go.Ab
attribute [local irreducible] AWP Go.Ab.Sub Means MeansH MeansE CallK CallG CallT CallGT PanicH PanicX DefH CallU MeansS
theorem zI{s:By}{n:Int}(h:rulesV s n=0):(1≤n∧n≤60)∧(parseT s).2.2=0:=by
 unfold rulesV at h
 split at h
 ·cases h
 ·split at h
  ·exact⟨by omega,by assumption⟩
  ·rename_i he;exact absurd h he
abbrev lo(L:List Ow):AV:=.sl (L.map oww)
structure LsI(n:Nat)(G:List (List Int))(Ls:List (List Ow)):Prop where
 len:Ls.length≤n
 ok:∀L∈Ls,L.length≤1000∧∀o∈L,OkW o
 gs:∀l∈G.take Ls.length,l.length≤8
def sumL(Ls:List (List Ow)):Int:=(Ls.map sumD).sum
theorem zJ(Ls:List (List Ow))(L:List Ow):sumL (Ls++[L])=sumL Ls+sumD L:=by simp[sumL]
theorem wV{Ls:List (List Ow)}(h:∀L∈Ls,L.length≤1000∧∀o∈L,OkW o):0≤sumL Ls∧sumL Ls≤1099511627776000*Ls.length:=by
 unfold sumL
 induction Ls with
 |nil=>simp
 |cons a l ih=>
  have h1:=h a (by simp)
  have hb:0≤sumD a∧sumD a≤1099511627776*a.length:=gX (g:=opD) (L:=a) fun o ho=>(iG (h1.2 o ho)).1
  have h2:=ih fun o ho=>h o (by simp[ho])
  simp only[List.map_cons,List.sum_cons,List.length_cons]
  omega
set_option maxHeartbeats 16000000 in
set_option maxRecDepth 20000 in
theorem I6(s:By)(f:Int)(K:List Int)(P:List Pd)(day:Int)(G:List (List Int))(M:List Int):Means true Tryz.prog 3 [ss s,ii f,il K,.sl (P.map pdv),ii day,.sl (G.map il),il M] (bb true):=by
 have c1:=FB
 have c2:=FC s
 have c3:=rY s K.length
 have c4:=lN s
 have hri:=zI (s:=s) (n:=K.length)
 have hok:(parseT s).2.2=0→OkB (parseT s).1:=gY
 generalize lightV s=LV at*
 generalize rulesV s K.length=V at*
 generalize parseT s=R at*
 obtain⟨b,pp,e⟩:=R
 simp only at c4 hri hok
 refine yM true 275 [.tmp 14] [0,1,2,3,4,5,6,14,15,16,19,20,21,22,23,24,25,27,28,29,30,31,32,33,34,35,36,37,38,39,62,73,78,86,106,133,157,161,167,177,181,214,260] Tryz.func3 fun X hX=>?_
 (repeat(refine yA ?_;(simp[go_sem])))
 refine aC c1 ?_
 simp[go_sem]
 (repeat(refine yA ?_;(simp[go_sem])))
 refine aC c2 ?_
 simp[go_sem]
 refine aK (fun hg=>c3) ?_
 simp[go_sem]
 refine yC (!LV||decide (8<(K.length:Int))|| !decide ((G.length:Int)=(K.length:Int))|| !decide (V=0)) (fun hd=>?_) fun hd=>?_
 ·(repeat(refine yA ?_;(simp[go_sem])))
 simp only[Bool.or_eq_false_iff,Bool.not_eq_false',decide_eq_true_eq,decide_eq_false_iff_not]at hd
 obtain⟨⟨⟨_,h8⟩,hGl⟩,hV⟩:=hd
 have h8:K.length≤8:=by omega
 have hGl:G.length=K.length:=by omega
 obtain⟨hn,he⟩:=hri hV
 have hb:=hok he
 have c5:=F7 b hb P
 clear hok hri c1 c2 c3
 (repeat(refine yA ?_;(simp[go_sem])))
 refine aC c4 ?_
 simp[go_sem]
 (repeat(refine yA ?_;(simp[go_sem])))
 refine aC c5 ?_
 simp[go_sem]
 refine yC (!few25 b P) (fun hd=>?_) fun hd=>?_
 ·(repeat(refine yA ?_;(simp[go_sem])))
 have hP:P.length≤40:=by
  have:few25 b P=true:=by simpa using hd
  unfold few25 at this
  simp only[Bool.and_eq_true,decide_eq_true_eq]at this
  exact this.2
 clear hd c4 c5
 (repeat(refine yA ?_;(simp[go_sem])))
 refine aE (fun Ls:List (List Ow)=>⟨mkE [(1,ii f),(2,il K),(3,.sl (P.map pdv)),(4,ii day),(5,.sl (G.map il)),(6,il M),(15,bb true),(16,.el 0 37 0 0),(19,.ow 1),(20,.ow 2),(21,ii (sumL Ls)),(22,ii Ls.length)],[.row ⟨34,37,[bl b]⟩,.row ⟨39,1,Ls.map lo⟩,rowI (Ls.map sumD)]⟩) (LsI K.length G) (fun Ls=>K.length-Ls.length) [] ?_ ?_ ?_
 ·refine yS _ [.old 0 ⟨34,37,[bl b]⟩,.birth 39 1,.birth 3 1] ?_ (by simp[go_sem,sumL])
  simp[go_sem,sumL]
 ·exact⟨Nat.zero_le _,by simp,by simp⟩
 ·intro Ls hI
  obtain⟨i1,i2,i3⟩:=hI
  (repeat(refine yA ?_;(simp[go_sem])))
  refine yC (decide (Ls.length<K.length)) (fun hc=>?_) fun hc=>?_
  ·simp at hc
   have hgG:Ls.length<G.length:=by omega
   have hgq:=uK hgG
   (repeat(refine yA ?_;(simp[go_sem,hgG,hgq])))
   refine yC (decide (8<(G[Ls.length].length:Int))) (fun hd=>?_) fun hd=>?_
   ·(repeat(refine yA ?_;(simp[go_sem])))
   have hg8:G[Ls.length].length≤8:=by simp at hd;omega
   (iterate 2 (refine yA ?_;(simp[go_sem];try(refine⟨by kernel_rfl,?_⟩))))
   have hqi:=cK hc
   have hi:=hc
   generalize hk:K[Ls.length]=k at*
   have co:=(FD b hb f K.length k (max f 0) P day hP).e rfl (fun r hr=>by obtain⟨L,err,rfl,_⟩:=hr;simp[AV.idLt,AV.idB])
   refine bA (st0:=⟨mkE [(1,ii f),(2,il K),(3,.sl (P.map pdv)),(4,ii day),(5,.sl (G.map il)),(6,il M),(15,bb true),(16,.el 0 37 0 0),(19,.ow 1),(20,.ow 2),(21,ii (sumL Ls)),(22,ii Ls.length)],[.row ⟨34,37,[bl b]⟩,.row ⟨39,1,Ls.map lo⟩,rowI (Ls.map sumD)]⟩) ?_ ?_
   ·refine yS _ [.old 0 ⟨34,37,[bl b]⟩,.old 1 ⟨39,1,Ls.map lo⟩,.old 2 ⟨3,1,(Ls.map sumD).map ii⟩] ?_
    simp[go_sem]
   refine kG hX mixed (JO b f k day K P Ls.length (mkE [(1,ii f),(2,il K),(3,.sl (P.map pdv)),(4,ii day),(5,.sl (G.map il)),(6,il M),(15,bb true),(16,.el 0 37 0 0),(19,.ow 1),(20,.ow 2),(21,ii (sumL Ls)),(22,ii Ls.length)]) [.row ⟨34,37,[bl b]⟩,.row ⟨39,1,Ls.map lo⟩,rowI (Ls.map sumD)]) ?_ (by kernel_rfl) ?_ ?_
   ·exact⟨rfl,fun _ _=>rfl,⟨[],0,fun h=>(by cases h),fun _ _ h=>(by cases h)⟩,fun _ _ _ _=>rfl⟩
   ·intro j o D s hj hdep hDj hJ
    obtain⟨E,H2⟩:=s
    obtain⟨L,err,h1,h2⟩:=hJ.vals
    obtain rfl:=hJ.heap
    match j with
    |0=>
     have b16:=hJ.base 16 (by decide)
     simp[go_sem]at b16
     obtain rfl:=Option.some.inj hj
     refine⟨rfl,?_⟩
     simp[go_sem,normO,oV,b16]
     exact⟨_,hJ.put h1 h2 0 (by decide) (by decide) (fun h=>absurd h (by decide)),Sub.refl⟩
    |1=>
     have b1:=hJ.base 1 (by decide)
     simp[go_sem]at b1
     obtain rfl:=Option.some.inj hj
     refine⟨rfl,?_⟩
     simp[go_sem,normO,oV,b1]
     exact⟨_,hJ.put h1 h2 1 (by decide) (by decide) (fun h=>absurd h (by decide)),Sub.refl⟩
    |2=>
     have b2:=hJ.base 2 (by decide)
     simp[go_sem]at b2
     obtain rfl:=Option.some.inj hj
     refine⟨rfl,?_⟩
     simp[go_sem,normO,oV,b2]
     exact⟨_,hJ.put h1 h2 2 (by decide) (by decide) (fun h=>absurd h (by decide)),Sub.refl⟩
    |3=>
     have d2:=hdep ⟨2,.data⟩ (by obtain rfl:=Option.some.inj hj;simp) rfl
     have v2:E 91=_:=h2 2 (by omega) d2
     obtain rfl:=Option.some.inj hj
     refine⟨rfl,?_⟩
     simp[go_sem,normO,oV,v2]
     exact⟨_,hJ.put h1 h2 3 (by decide) (by decide) (fun h=>absurd h (by decide)),Sub.refl⟩
    |4=>
     have b2:=hJ.base 2 (by decide)
     simp[go_sem]at b2
     obtain rfl:=Option.some.inj hj
     refine⟨rfl,?_⟩
     simp[go_sem,normO,oV,b2]
     exact⟨_,hJ.put h1 h2 4 (by decide) (by decide) (fun h=>absurd h (by decide)),Sub.refl⟩
    |5=>
     have b22:=hJ.base 22 (by decide)
     simp[go_sem]at b22
     obtain rfl:=Option.some.inj hj
     refine⟨rfl,?_⟩
     simp[go_sem,normO,oV,b22]
     exact⟨_,hJ.put h1 h2 5 (by decide) (by decide) (fun h=>absurd h (by decide)),Sub.refl⟩
    |6=>
     have d4:=hdep ⟨4,.data⟩ (by obtain rfl:=Option.some.inj hj;simp) rfl
     have v4:E 93=_:=h2 4 (by omega) d4
     have d5:=hdep ⟨5,.data⟩ (by obtain rfl:=Option.some.inj hj;simp) rfl
     have v5:E 94=_:=h2 5 (by omega) d5
     obtain rfl:=Option.some.inj hj
     refine⟨rfl,?_⟩
     simp[go_sem,normO,oV,hi,hqi,v4,v5]
     exact⟨_,hJ.put h1 h2 6 (by decide) (by decide) (fun h=>absurd h (by decide)),Sub.refl⟩
    |7=>
     have d6:=hdep ⟨6,.data⟩ (by obtain rfl:=Option.some.inj hj;simp) rfl
     have v6:E 95=_:=h2 6 (by omega) d6
     obtain rfl:=Option.some.inj hj
     refine⟨rfl,?_⟩
     simp[go_sem,normO,oV,v6]
     exact⟨_,hJ.put h1 h2 7 (by decide) (by decide) (fun h=>absurd h (by decide)),Sub.refl⟩
    |8=>
     have b1:=hJ.base 1 (by decide)
     simp[go_sem]at b1
     obtain rfl:=Option.some.inj hj
     refine⟨rfl,?_⟩
     simp[go_sem,normO,oV,b1]
     exact⟨_,hJ.put h1 h2 8 (by decide) (by decide) (fun h=>absurd h (by decide)),Sub.refl⟩
    |9=>
     have d8:=hdep ⟨8,.data⟩ (by obtain rfl:=Option.some.inj hj;simp) rfl
     have v8:E 97=_:=h2 8 (by omega) d8
     obtain rfl:=Option.some.inj hj
     refine⟨rfl,?_⟩
     simp[go_sem,normO,oV,v8]
     exact⟨_,hJ.put h1 h2 9 (by decide) (by decide) (fun h=>absurd h (by decide)),Sub.refl⟩
    |10=>
     have d7:=hdep ⟨7,.data⟩ (by obtain rfl:=Option.some.inj hj;simp) rfl
     have v7:E 96=_:=h2 7 (by omega) d7
     have d9:=hdep ⟨9,.data⟩ (by obtain rfl:=Option.some.inj hj;simp) rfl
     have v9:E 98=_:=h2 9 (by omega) d9
     obtain rfl:=Option.some.inj hj
     refine⟨rfl,?_⟩
     simp[go_sem,normO,oV,v7,v9]
     exact⟨_,hJ.put h1 h2 10 (by decide) (by decide) (fun h=>absurd h (by decide)),FA _ _ _ _ _⟩
    |11=>
     have b3:=hJ.base 3 (by decide)
     simp[go_sem]at b3
     obtain rfl:=Option.some.inj hj
     refine⟨rfl,?_⟩
     simp[go_sem,normO,oV,b3]
     exact⟨_,hJ.put h1 h2 11 (by decide) (by decide) (fun h=>absurd h (by decide)),Sub.refl⟩
    |12=>
     have b4:=hJ.base 4 (by decide)
     simp[go_sem]at b4
     obtain rfl:=Option.some.inj hj
     refine⟨rfl,?_⟩
     simp[go_sem,normO,oV,b4]
     exact⟨_,hJ.put h1 h2 12 (by decide) (by decide) (fun h=>absurd h (by decide)),Sub.refl⟩
    |13=>
     have d0:=hdep ⟨0,.data⟩ (by obtain rfl:=Option.some.inj hj;simp) rfl
     have v0:E 89=_:=h2 0 (by omega) d0
     have d1:=hdep ⟨1,.data⟩ (by obtain rfl:=Option.some.inj hj;simp) rfl
     have v1:E 90=_:=h2 1 (by omega) d1
     have d3:=hdep ⟨3,.data⟩ (by obtain rfl:=Option.some.inj hj;simp) rfl
     have v3:E 92=_:=h2 3 (by omega) d3
     have d10:=hdep ⟨10,.data⟩ (by obtain rfl:=Option.some.inj hj;simp) rfl
     have v10:E 99=_:=h2 10 (by omega) d10
     have d11:=hdep ⟨11,.data⟩ (by obtain rfl:=Option.some.inj hj;simp) rfl
     have v11:E 100=_:=h2 11 (by omega) d11
     have d12:=hdep ⟨12,.data⟩ (by obtain rfl:=Option.some.inj hj;simp) rfl
     have v12:E 101=_:=h2 12 (by omega) d12
     obtain rfl:=Option.some.inj hj
     refine⟨rfl,?_⟩
     simp[go_sem,normO,oV,v0,v1,v3,v10,v11,v12]
     refine yQ [] co ?_
     rintro r H2 ⟨⟨L2,err2,rfl,hL⟩,rfl⟩
     simp[go_sem]
     exact⟨_,hJ.call hDj hL,Sub.refl⟩
    |14=>
     have d13:=hdep ⟨13,.data⟩ (by obtain rfl:=Option.some.inj hj;simp) rfl
     have v13:E 102=_:=h2 13 (by omega) d13
     obtain rfl:=Option.some.inj hj
     refine⟨rfl,?_⟩
     simp[go_sem,normO,oV,v13]
     exact⟨_,hJ.put h1 h2 14 (by decide) (by decide) (fun _=>d13),Sub.refl⟩
    |15=>
     have d14:=hdep ⟨14,.data⟩ (by obtain rfl:=Option.some.inj hj;simp) rfl
     have v14:E 88=_:=h2 14 (by omega) d14
     obtain rfl:=Option.some.inj hj
     refine⟨rfl,?_⟩
     simp[go_sem,normO,oV,v14]
     exact⟨_,hJ.put h1 h2 15 (by decide) (by decide) (fun _=>hJ.has 14 (by decide) (by decide) d14),Sub.refl⟩
    |16=>
     have d14:=hdep ⟨14,.data⟩ (by obtain rfl:=Option.some.inj hj;simp) rfl
     have v14:E 88=_:=h2 14 (by omega) d14
     obtain rfl:=Option.some.inj hj
     refine⟨rfl,?_⟩
     simp[go_sem,normO,oV,v14]
     exact⟨_,hJ.put h1 h2 16 (by decide) (by decide) (fun _=>hJ.has 14 (by decide) (by decide) d14),Sub.refl⟩
    |17=>
     have d15:=hdep ⟨15,.data⟩ (by obtain rfl:=Option.some.inj hj;simp) rfl
     have v15:E 103=_:=h2 15 (by omega) d15
     obtain rfl:=Option.some.inj hj
     refine⟨rfl,?_⟩
     simp[go_sem,normO,oV,v15]
     exact⟨_,hJ.put h1 h2 17 (by decide) (by decide) (fun _=>hJ.has 15 (by decide) (by decide) d15),Sub.refl⟩
    |18=>
     have d16:=hdep ⟨16,.data⟩ (by obtain rfl:=Option.some.inj hj;simp) rfl
     have v16:E 104=_:=h2 16 (by omega) d16
     obtain rfl:=Option.some.inj hj
     refine⟨rfl,?_⟩
     simp[go_sem,normO,oV,v16]
     exact⟨_,hJ.put h1 h2 18 (by decide) (by decide) (fun _=>hJ.has 16 (by decide) (by decide) d16),Sub.refl⟩
    |j+19=>simp at hj
   ·intro D s hall hJ
    obtain⟨E,H2⟩:=s
    obtain⟨L,err,h1,h2⟩:=hJ.vals
    obtain rfl:=hJ.heap
    have v23:E 23=.sl (L.map oww):=h2 17 (by omega) (hall 17 (by decide))
    have v24:E 24=ii err:=h2 18 (by omega) (hall 18 (by decide))
    have hok:=h1 (hall 13 (by decide))
    have b1:=hJ.base 1 (by decide)
    simp[go_sem]at b1
    have b2:=hJ.base 2 (by decide)
    simp[go_sem]at b2
    have b3:=hJ.base 3 (by decide)
    simp[go_sem]at b3
    have b4:=hJ.base 4 (by decide)
    simp[go_sem]at b4
    have b5:=hJ.base 5 (by decide)
    simp[go_sem]at b5
    have b6:=hJ.base 6 (by decide)
    simp[go_sem]at b6
    have b15:=hJ.base 15 (by decide)
    simp[go_sem]at b15
    have b16:=hJ.base 16 (by decide)
    simp[go_sem]at b16
    have b19:=hJ.base 19 (by decide)
    simp[go_sem]at b19
    have b20:=hJ.base 20 (by decide)
    simp[go_sem]at b20
    have b21:=hJ.base 21 (by decide)
    simp[go_sem]at b21
    have b22:=hJ.base 22 (by decide)
    simp[go_sem]at b22
    clear hall hJ h1 h2 co
    show AWP _ _ _ _ _
    refine bA (st0:=⟨mkE [(1,ii f),(2,il K),(3,.sl (P.map pdv)),(4,ii day),(5,.sl (G.map il)),(6,il M),(15,bb true),(16,.el 0 37 0 0),(19,.ow 1),(20,.ow 2),(21,ii (sumL Ls)),(22,ii Ls.length),(23,lo L),(24,ii err)],[.row ⟨34,37,[bl b]⟩,.row ⟨39,1,Ls.map lo⟩,rowI (Ls.map sumD)]⟩) (C3 _ _ rfl ⟨b1,b2,b3,b4,b5,b6,b15,b16,b19,b20,b21,b22,v23,v24,trivial⟩) ?_
    clear b1 b2 b3 b4 b5 b6 b15 b16 b19 b20 b21 b22 v23 v24
    (repeat(refine yA ?_;(simp[go_sem])))
    refine yC (decide (err≠0)) (fun hd=>?_) fun hd=>?_
    ·(repeat(refine yA ?_;(simp[go_sem])))
    have hok:=hok (by simpa using hd)
    have ct:=FE L hok.1 hok.2
    have hs:=wV i2
    have hb1:=(gX (g:=opD) (L:=L) fun o ho=>(iG (hok.2 o ho)).1)
    have wi:=w64 (x:=(Ls.length:Int)+1) (by omega) (by omega)
    have ws:=w64 (x:=sumL Ls+sumD L) (by unfold sumD;omega) (by unfold sumD;omega)
    (repeat(refine yA ?_;(simp[go_sem])))
    refine aC ct ?_
    simp[go_sem]
    (repeat(refine yA ?_;(simp[go_sem])))
    (repeat refine⟨by first|omega|(rw[bH];omega)|kernel_rfl|grind,?_⟩)
    (repeat(refine yA ?_;(simp[go_sem])))
    (repeat refine⟨by first|omega|(rw[bH];omega)|kernel_rfl|grind,?_⟩)
    (repeat(refine yA ?_;(simp[go_sem,ws,wi])))
    refine⟨Ls++[L],⟨by simp;omega,fun L' hL'=>?_,fun l hl=>?_⟩,by simp;omega,?_⟩
    ·rcases List.mem_append.1 hL' with h|h
     ·exact i2 L' h
     ·simp at h;subst h;exact hok
    ·rw[List.length_append,List.length_singleton,List.take_succ_eq_append_getElem hgG]at hl
     rcases List.mem_append.1 hl with h|h
     ·exact i3 l h
     ·simp at h;subst h;exact hg8
    refine yS _ [.old 0 ⟨34,37,[bl b]⟩,.old 4 ⟨39,1,(Ls++[L]).map lo⟩,.old 6 ⟨3,1,((Ls++[L]).map sumD).map ii⟩] ?_
    simp[go_sem,zJ]
  ·have hln:Ls.length=K.length:=by simp at hc;omega
   (iterate 1 (refine yA ?_;(simp[go_sem];try(refine⟨by kernel_rfl,?_⟩))))
   obtain⟨n,hn2⟩:∃n,K.length=n:=⟨_,rfl⟩
   rw[hn2]at hln
   have hGt:∀l∈G,l.length≤8:=fun l hl=>i3 l (by rw[hln,List.take_of_length_le (by omega)];exact hl)
   obtain⟨D,hD⟩:∃D,D=Ls.map sumD:=⟨_,rfl⟩
   have hDl:D.length=n:=by simp[hD,hln]
   have cm:=(I4 D G M (by omega) hGt).e rfl (fun r hr=>by
    rcases hr with⟨rfl,_⟩|⟨M',R',F,rfl,_,_⟩<;>simp[AV.idLt,AV.idB])
   refine bA (st0:=⟨mkE [(2,il K),(5,.sl (G.map il)),(6,il M),(15,bb true),(19,.sl (Ls.map lo)),(20,il D),(21,ii (sumL Ls))],[]⟩) ?_ ?_
   ·refine yS _ [] ?_
    simp[go_sem,hD]
   have cr:=rV D G M hGt
   (repeat(refine yA ?_;(simp[go_sem])))
   refine yQ [] cm ?_
   rintro r H ⟨hr,rfl⟩
   rcases hr with⟨rfl,hrf⟩|⟨M',R,F,rfl,hm,hrt⟩
   ·rw[hrf]at cr
    simp[go_sem]
    (repeat(refine yA ?_;(simp[go_sem])))
    refine yT ?_
    (repeat(refine yA ?_;(simp[go_sem])))
    refine aK (fun hg=>cr) ?_
    simp[go_sem]
    (repeat(refine yA ?_;(simp[go_sem])))
   have hmi:=hm.inv
   obtain⟨r1,r2,_,_⟩:=oI hrt
   have hsum:D.sum=sumL Ls:=by rw[hD];rfl
   have hDg:∀d (h:d<Ls.length) (h':d<D.length),D[d]=sumD Ls[d]:=fun d h h'=>by simp[hD]
   have hsb:=wV i2
   clear hD
   have hDn:∀d,d<n→0≤D.getD d 0:=fun d hd=>by have:=hm.low d (by omega);omega
   rw[hDl]at hmi
   clear cr cm
   simp[go_sem]
   (repeat(refine yA ?_;(simp[go_sem])))
   refine yF ?_
   have hpl:=I3 n R
   have hFl:F.length=n:=by rw[hm.len,hDl]
   rw[hDl]
   (repeat(refine yA ?_;(simp[go_sem,hpl,hFl,hn2])))
   refine yF ?_ (by simp[go_sem,hpl,hFl,hn2])
   (repeat(refine yA ?_;(simp[go_sem])))
   refine aE (fun d:Nat=>⟨mkE [(2,il K),(6,il M),(15,bb true),(19,.sl (Ls.map lo)),(20,il D),(21,ii (sumL Ls)),(27,.sl (pL n R)),(28,il F),(30,ii (tkS D d)),(31,ii d)],[]⟩) (fun d=>d≤n) (fun d=>n-d) 0 ?_ ?_ ?_
   ·refine yS _ [] ?_
    simp[go_sem,mH]
   ·exact Nat.zero_le _
   intro d hd
   (repeat(refine yA ?_;(simp[go_sem,hn2])))
   refine yC (decide (d<n)) (fun hc2=>?_) (fun hc2=>?_) (by simp[go_sem,hn2])
   ·simp at hc2
    (repeat(refine yA ?_;(simp[go_sem])))
    refine aE (fun i:Nat=>⟨mkE [(2,il K),(6,il M),(15,bb true),(19,.sl (Ls.map lo)),(20,il D),(21,ii (sumL Ls)),(27,.sl (pL n R)),(28,il F),(30,ii (tkS D d)),(31,ii d),(32,ii i)],[]⟩) (fun i=>i≤n) (fun i=>n-i) 0 ?_ ?_ ?_
    ·refine yS _ [] ?_
     simp[go_sem]
    ·exact Nat.zero_le _
    intro i hi2
    (repeat(refine yA ?_;(simp[go_sem,hn2])))
    refine yC (decide (i<n)) (fun hc3=>?_) (fun hc3=>?_) (by simp[go_sem,hn2])
    ·simp at hc3
     have hq:=uM (R:=R) hc3
     have hrl:=hmi.rl i hc3
     have wi:=w64 (x:=(i:Int)+1) (by omega) (by omega)
     (repeat(refine yA ?_;(simp[go_sem,hc3,hq,hrl,hpl,hn2])))
     refine yF ?_ (by simp[go_sem,hrl,hn2])
     (repeat(refine yA ?_;(simp[go_sem,wi])))
     refine⟨i+1,by omega,by omega,?_⟩
     refine yS _ [] ?_
     simp[go_sem]
    have hin:n=i:=by simp at hc3;omega
    subst hin
    clear hi2 hc3
    have hdD:d<D.length:=by omega
    have hdL:d<Ls.length:=by omega
    have hdF:d<F.length:=by omega
    have hdM:d<M.length:=by omega
    have qd:=uM (R:=R) hc2
    have hrd:=hmi.rl d hc2
    have hbd:=fun i (hi:i<n)=>(hmi.bd hi d).2
    (repeat(refine yA ?_;(simp[go_sem])))
    refine aE (fun i:Nat=>⟨mkE [(2,il K),(6,il M),(15,bb true),(19,.sl (Ls.map lo)),(20,il D),(21,ii (sumL Ls)),(27,.sl (pL n R)),(28,il F),(30,ii (tkS D d)),(31,ii d),(33,ii (colS R i d)),(34,ii (tkS (R d) i)),(35,ii i)],[]⟩) (fun i=>i≤n) (fun i=>n-i) 0 ?_ ?_ ?_
    ·refine yS _ [] ?_
     simp[go_sem,mH,colS]
    ·exact Nat.zero_le _
    intro i hi2
    (repeat(refine yA ?_;(simp[go_sem,hn2])))
    refine yC (decide (i<n)) (fun hc3=>?_) (fun hc3=>?_) (by simp[go_sem,hn2])
    ·simp at hc3
     have hq:=uM (R:=R) hc3
     have hrl:=hmi.rl i hc3
     have hdi:d<(R i).length:=by omega
     have hid:i<(R d).length:=by omega
     have q1:=cK hdi
     have q2:=cK hid
     have s1:=zG R i d
     have s2:=kJ hid
     have t1:0≤colS R i d∧colS R i d≤1099511627776*i:=mG i fun j hj=>hbd j (by omega)
     have t2:=fH (hmi.r0 d hc2) i
     have t3:=fH (hmi.r0 d hc2) (i+1)
     have t4:=hmi.tot d hc2
     have t5:=hmi.m0 d hc2
     have e1:(R i)[d]=(R i).getD d 0:=by simp[hdi]
     have hb1:=hbd i hc3
     have wi:=w64 (x:=(i:Int)+1) (by omega) (by omega)
     rw[e1]at q1
     generalize(R i).getD d 0=x at*
     generalize(R d)[i]=y at*
     rw[s2]at t3
     have w1:=w64 (x:=colS R i d+x) (by omega) (by omega)
     have w2:=w64 (x:=tkS (R d) i+y) (by omega) (by omega)
     (repeat(refine yA ?_;(simp[go_sem,hc3,hq,hpl,qd,hc2,hdi,hid,q1,q2])))
     refine⟨i+1,by omega,by omega,?_⟩
     rw[s1,s2]
     refine yS _ [] ?_
     simp[go_sem,w1,w2,wi]
    have hin:n=i:=by simp at hc3;omega
    subst hin
    clear hi2 hc3
    have hgv:=qE (l:=R d) (n:=n) (by omega)
    have hcol:=hm.col d (by omega)
    have hlow:=hm.low d (by omega)
    have hrow:=hm.row d (by omega)
    have hm0:=hmi.m0 d hc2
    have hcs:0≤colS R n d:=(mG (B:=1099511627776) n fun j hj=>hbd j hj).1
    have hF1:F[d]=F.getD d 0:=by simp[hdF]
    have hD1:D[d]=D.getD d 0:=by simp[hdD]
    have hM1:M[d]=M.getD d 0:=by simp[hdM]
    have hDL:=hDg d hdL hdD
    have hLm:=i2 _ (List.getElem_mem hdL)
    have qL:nth (Ls.map lo) d=lo Ls[d]:=bF lo hdL
    have qF:=cK hdF
    have qM:=cK hdM
    have qD:=cK hdD
    have hDs:=kJ hdD
    have hDb:=fH (l:=D) (fun y hy=>by
     obtain⟨j,hj,rfl⟩:=List.getElem_of_mem hy
     have:=hDn j (by omega)
     simpa[hj]using this) d
    have hLb:=(gX (g:=opD) (L:=Ls[d]) fun o ho=>(iG (hLm.2 o ho)).1)
    rw[hgv]at*
    rw[hDl]at hcol
    rw[←hF1]at hcol hlow
    rw[←hD1]at hcol hlow
    rw[←hM1]at hrow
    generalize Ls[d]=L at*
    generalize F[d]=fd at*
    generalize M[d]=md at*
    generalize D[d]=dd at*
    generalize hgt:colS R n d=gt at*
    generalize(R d).sum=gv at*
    obtain⟨u1,u2,u3,u4⟩:=F8 (n:=gt) hLm.2 hcs (by omega)
    have cst:=C4 L gt ⟨hcs,by unfold sumD at hDL;omega⟩ hLm.1 hLm.2
    generalize(stl gt L).1=C at*
    generalize(stl gt L).2=rest at*
    subst u3
    clear hF1 hD1 hM1
    (repeat(refine yA ?_;(simp[go_sem,hdL,qL])))
    refine aC cst ?_
    simp[go_sem]
    (repeat(refine yA ?_;(simp[go_sem])))
    refine aE (fun i:Nat=>⟨mkE [(2,il K),(6,il M),(15,bb true),(19,.sl (Ls.map lo)),(20,il D),(21,ii (sumL Ls)),(27,.sl (pL n R)),(28,il F),(30,ii (tkS D d)),(31,ii d),(33,ii gt),(34,ii gv),(36,il C),(37,ii 0),(38,ii (tkS C i)),(39,ii i)],[]⟩) (fun i=>i≤C.length) (fun i=>C.length-i) 0 ?_ ?_ ?_
    ·refine yS _ [] ?_
     simp[go_sem,mH]
    ·exact Nat.zero_le _
    intro i hi2
    (repeat(refine yA ?_;(simp[go_sem])))
    refine yC (decide (i<C.length)) (fun hc3=>?_) fun hc3=>?_
    ·simp at hc3
     have q1:=cK hc3
     have s2:=kJ hc3
     have t3:=fH u4 (i+1)
     have wi:=w64 (x:=(i:Int)+1) (by omega) (by omega)
     have w1:=w64 (x:=tkS C (i+1)) (by unfold sumD at hDL;omega) (by unfold sumD at hDL;omega)
     rw[s2]at w1
     (repeat(refine yA ?_;(simp[go_sem,hc3,q1,w1,wi])))
     refine⟨i+1,by omega,by omega,?_⟩
     rw[s2]
     refine yS _ [] ?_
     simp[go_sem]
    have hin:i=C.length:=by simp at hc3;omega
    have hal:=qE (l:=C) hin
    rw[hal,u2]
    clear hi2 hc3
    have w1:=w64 (x:=gt+fd) (by unfold sumD at hDL;omega) (by unfold sumD at hDL;omega)
    have f1:gt+fd=dd:=hcol
    have f2:¬md<gv:=by omega
    have wd:=w64 (x:=(d:Int)+1) (by omega) (by omega)
    have hsb2:tkS D d+dd≤D.sum:=by
     rw[←hDs]
     exact(fH (l:=D) (fun y hy=>by
      obtain⟨j,hj,rfl⟩:=List.getElem_of_mem hy
      have:=hDn j (by omega)
      simpa[hj]using this) (d+1)).2
    have w2:=w64 (x:=tkS D d+gt) (by omega) (by omega)
    have w3:=w64 (x:=tkS D d+gt+fd) (by omega) (by omega)
    have e3:tkS D d+gt+fd=tkS D (d+1):=by omega
    have w4:=w64 (x:=dd) (by omega) (by omega)
    (repeat(refine yA ?_;(simp[go_sem,hdF,hdM,hdD,hdL,qF,qM,qD,qL,f1,f2,u1];try(refine⟨by kernel_rfl,?_⟩))))
    refine yF ?_ (by simp[go_sem,w4])
    (repeat(refine yA ?_;(simp[go_sem,hdF,qF,w2,w3,wd])))
    refine⟨d+1,by omega,by omega,?_⟩
    rw[←e3]
    refine yS _ [] ?_
    simp[go_sem]
   ·have hdn:d=n:=by simp at hc2;omega
    have hal:=qE (l:=D) (n:=d) (by omega)
    rw[hal,hsum]
    (repeat(refine yA ?_;(simp[go_sem])))
end Go.Proofs.YtdcidannegcaoaaGreatDoor

namespace Go.Proofs.YtdcidannegcaoaaGreatDoor
open Go.ChangeShapes Go.WideShapes Go.ChangeAt Go.RowKit Go.Ab
theorem Tryz.own:ownKnob Tryz.prog.godebug=none:=by kernel_rfl
theorem Tryz.laidOut:laidOutB Tryz.prog=true:=by kernel_rfl
set_option maxRecDepth 100000 in
theorem uN{H:Type}{enc:TypeId×Value→H}{W:World}{base:Nat}{v:Value}{d:DataW H}{p:List MemPlace}{M:Nat→Prop}{r:Go.Reach}{b0:Nat}(_hM:∀b,b<W.heap.size→M b)
  (hval:Value.okWide Tryz.prog W r b0 9 v) (h:DataW.Trod enc Tryz.prog W base (fun _=>true) true 9 v d p):∃l:By,l.length≤maxLen∧RepZ W M v (ss l):=by
 obtain⟨s,rfl,_,_,hs⟩:=Go.ChangeMaps.open_string Tryz.underlying9 hval h
 obtain⟨l,rfl⟩:=toB s
 exact⟨l,by simpa[ByteArray.size]using hs,.v _⟩
set_option maxRecDepth 100000 in
theorem C5{H:Type}{enc:TypeId×Value→H}{W:World}{base:Nat}{v:Value}{d:DataW H}{p:List MemPlace}{M:Nat→Prop}{r:Go.Reach}{b0:Nat}(hM:∀b,b<W.heap.size→M b)
  (hval:Value.okWide Tryz.prog W r b0 22 v) (h:DataW.Trod enc Tryz.prog W base (fun _=>true) true 22 v d p):∃L:List Int,L.length≤maxLen∧RepZ W M v (.sl (L.map ii)):=
 iM ii 1 (by decide) (fun _=>rfl) Tryz.underlying22 (by kernel_rfl) hM (C6 Tryz.underlying3) hval h
set_option maxRecDepth 100000 in
theorem JW{H:Type}{enc:TypeId×Value→H}{W:World}{base:Nat}{M:Nat→Prop}(hM:∀b,b<W.heap.size→M b):∀n cs y,DataW.trod enc Tryz.prog W base (fun _=>true) true n 22 cs=some y→cs.length=1→∃x:List Int,∀(j:Nat) (c:Value) (z:AV),cs[j]? =some c→(il x).flat[j]? =some z→RepZ W M c z:=by
 intro n cs y h hl
 match cs,hl with
 | [c0],_=>
   obtain⟨v,hv,L,hL,hr⟩:=oL (M:=M) ii 1 (by decide) (fun _=>rfl) Tryz.underlying22 (by kernel_rfl) hM (C6 Tryz.underlying3) h
   have:v=c0:=by simpa using hv.symm
   subst this
   refine⟨L,fun j x z hx hz=>?_⟩
   match j with
   |0=>simp at hx hz;subst hx;subst hz;exact hr
   |j+1=>simp at hx
set_option maxRecDepth 100000 in
theorem FH{H:Type}{enc:TypeId×Value→H}{W:World}{base:Nat}{v:Value}{d:DataW H}{p:List MemPlace}{M:Nat→Prop}{r:Go.Reach}{b0:Nat}(hM:∀b,b<W.heap.size→M b)
  (hval:Value.okWide Tryz.prog W r b0 24 v) (h:DataW.Trod enc Tryz.prog W base (fun _=>true) true 24 v d p):∃L:List (List Int),L.length≤maxLen∧RepZ W M v (.sl (L.map il)):=
 iM il 1 (by decide) (fun _=>rfl) Tryz.underlying24 (by kernel_rfl) hM (JW hM) hval h
theorem JX{H:Type}{enc:TypeId×Value→H}{W:World}{base:Nat}{M:Nat→Prop}:∀n cs y,DataW.trod enc Tryz.prog W base (fun _=>true) true n 184 cs=some y→cs.length=5→∃x:Pd,∀(j:Nat) (c:Value) (z:AV),cs[j]? =some c→(pdv x).flat[j]? =some z→RepZ W M c z:=by
 intro n cs y h hl
 match cs,hl with
 | [c0,c1,c2,c3,c4],_=>
   obtain⟨n0,y0,h0⟩:=eS (c:=c0) Tryz.underlying184 h (i:=0) rfl (by kernel_rfl) rfl
   obtain⟨n1,y1,h1⟩:=eS (c:=c1) Tryz.underlying184 h (i:=1) rfl (by kernel_rfl) rfl
   obtain⟨n2,y2,h2⟩:=eS (c:=c2) Tryz.underlying184 h (i:=2) rfl (by kernel_rfl) rfl
   obtain⟨n3,y3,h3⟩:=eS (c:=c3) Tryz.underlying184 h (i:=3) rfl (by kernel_rfl) rfl
   obtain⟨n4,y4,h4⟩:=eS (c:=c4) Tryz.underlying184 h (i:=4) rfl (by kernel_rfl) rfl
   obtain⟨a0,rfl⟩:=dI Tryz.underlying3 h0
   obtain⟨a1,rfl⟩:=dI Tryz.underlying3 h1
   obtain⟨a2,rfl⟩:=dI Tryz.underlying3 h2
   obtain⟨a3,rfl⟩:=dI Tryz.underlying3 h3
   obtain⟨a4,rfl⟩:=dI Tryz.underlying3 h4
   refine⟨⟨a0,a1,a2,a3,a4⟩,fun j x z hx hz=>?_⟩
   match j with
   |0=>simp[AV.flat_agg]at hx hz;subst hx;subst hz;exact .v _
   |1=>simp[AV.flat_agg]at hx hz;subst hx;subst hz;exact .v _
   |2=>simp[AV.flat_agg]at hx hz;subst hx;subst hz;exact .v _
   |3=>simp[AV.flat_agg]at hx hz;subst hx;subst hz;exact .v _
   |4=>simp[AV.flat_agg]at hx hz;subst hx;subst hz;exact .v _
   |j+5=>simp at hx
set_option maxRecDepth 100000 in
theorem I7{H:Type}{enc:TypeId×Value→H}{W:World}{base:Nat}{v:Value}{d:DataW H}{p:List MemPlace}{M:Nat→Prop}{r:Go.Reach}{b0:Nat}(hM:∀b,b<W.heap.size→M b)
  (hval:Value.okWide Tryz.prog W r b0 23 v) (h:DataW.Trod enc Tryz.prog W base (fun _=>true) true 23 v d p):∃L:List Pd,L.length≤maxLen∧RepZ W M v (.sl (L.map pdv)):=
 iM pdv 5 (by decide) (fun _=>rfl) Tryz.underlying23 (by kernel_rfl) hM JX hval h
theorem uO{P:Program}{W:World}{t e:TypeId}{len fuel:Nat}{cs:List Value}{zs:List (List UInt8)}{p:List MemPlace}(hu:P.underlying t=some (.array len e))(he:P.underlying e=some .string)(hC:P.cellsOf e=1)(hCt:P.cellsOf t=len)
  (h:DataW.trod (fun _=>()) P W 0 (fun _=>true) false fuel t cs=some (.agg (zs.map fun z=>.lit (.string z)),p)):cs=zs.map fun z=>.string ⟨z.toArray⟩:=by
 obtain⟨xs,m,_,hx,hl,hxl,hi⟩:=DataW.trod_array hu h
 have hdat:xs.map (·.1)=zs.map fun z=>.lit (.string z):=by
  have:=(Prod.mk.inj hx).1
  simpa using this.symm
 have hzl:zs.length=len:=by
  have:=congrArg List.length hdat
  simpa[hxl]using this.symm
 rw[hCt]at hl
 simp only[hC,Nat.mul_one]at hi
 refine List.ext_getElem (by rw[List.length_map];omega) fun i h1 h2=>?_
 have h3:=hi i (by omega)
 rw[List.drop_eq_getElem_cons h1,List.take_succ_cons,List.take_zero]at h3
 have hxi:i<xs.length:=by omega
 rw[List.getElem?_eq_getElem hxi]at h3
 obtain⟨z,e1,e2,_⟩:=DataW.trod_string he h3
 have e3:cs[i]=.string z:=by simpa using e1
 have e4:(xs.map (·.1))[i]'(by rw[List.length_map];exact hxi)=.lit (.string z.data.toList):=by rw[List.getElem_map,e2]
 have e5:(zs.map fun z=>(DataW.lit (.string z):DataW Unit))[i]'(by rw[List.length_map];omega)=.lit (.string z.data.toList):=by
  rw[←e4]
  simp only[hdat]
 rw[List.getElem_map]at e5
 have e6:zs[i]=z.data.toList:=by simpa using e5
 rw[e3,List.getElem_map,e6]
theorem oM{P:Program}{W:World}{l:List (String×DataW Unit)}(h:laidMet P l W){n:String}{zs:List (List UInt8)}(hm:(n,.agg (zs.map fun z=>.lit (.string z)))∈l){g:Nat}{t e:TypeId}{len:Nat}
  (hg:P.globalNamed n=some g) (ht:(P.globals[g]?).map (·.type)=some t) (hu:P.underlying t=some (.array len e)) (he:P.underlying e=some .string) (hC:P.cellsOf e=1) (hCt:P.cellsOf t=len):
  ∃t f,W.heap[g]? =some (.cells (zs.map fun z=>Value.string ⟨z.toArray⟩).toArray t f):=by
 obtain⟨ps,hv,_⟩:=h
 obtain⟨g',t',cs,fuel,p,h1,h2,h3,h4⟩:=rZ hv hm
 rw[hg]at h1
 cases h1
 rw[ht]at h2
 cases h2
 have hcs:=uO hu he hC hCt h4
 simp only[World.var?,hg,Option.bind_some]at h3
 split at h3
 ·rename_i cs' a b hh
  cases h3
  exact⟨a,b,by rw[hh,←hcs]⟩
 ·cases h3
theorem zK{W:World}(h:∀p∈globs,∃t f,W.heap[p.1]? =some (.cells p.2.toArray t f))(hi:∀g∈globI,∃m t f,W.heap[g]? =some (.cells #[.int .i64 m] t f)):GlobW W (fun b=>b<W.heap.size):=by
 refine⟨fun p hp=>?_,fun g hg=>by
  obtain⟨m,t,f,hh⟩:=hi g hg
  exact⟨(Array.getElem?_eq_some_iff.1 hh).1,m,t,f,hh⟩⟩
 obtain⟨t,f,hh⟩:=h p hp
 refine⟨(Array.getElem?_eq_some_iff.1 hh).1,fun j c hc=>?_,t,f,hh⟩
 simp[World.cell?,hh,hc]
theorem qH{W:World}(hSh:W.ShapedOpen Tryz.prog)(h:laidMet Tryz.prog Rows.topDefaultsRow.laid W):GlobW W (fun b=>b<W.heap.size):=
 zK (fun p hp=>by
  have hp2:p=(0,usesL.map fun z=>Value.string ⟨z.toArray⟩)∨p=(1,signs.map fun z=>Value.string ⟨z.toArray⟩):=by
   rw[globs]at hp
   simpa[usesL,signs]using hp
  rcases hp2 with rfl|rfl
  ·exact oM (zs:=usesL) h (n:= "stokvel/entry.uses") (List.mem_of_getElem? (i:=1) (by kernel_rfl)) (len:=21) (by kernel_rfl) (by kernel_rfl) Tryz.underlying194 Tryz.underlying9 (by kernel_rfl) (by kernel_rfl)
  ·exact oM (zs:=signs) h (n:= "stokvel/lex.signs") (List.mem_of_getElem? (i:=0) (by kernel_rfl)) (len:=11) (by kernel_rfl) (by kernel_rfl) Tryz.underlying213 Tryz.underlying9 (by kernel_rfl) (by kernel_rfl))
  (fun g hg=>by
   have:g=2:=by rw[globI]at hg;simpa using hg
   subst this
   exact uQ hSh (g:=2) (zero:= #[.int .i64 0]) (t:=3) (u:=3) (of_decide_eq_true (by kernel_rfl)) (by kernel_rfl) (by kernel_rfl) (by kernel_rfl) (by kernel_rfl) Tryz.underlying3)
noncomputable def laidWorld(os:Os):World:=layAll Tryz.prog (World.holding Tryz.prog os ⟨#[],#[],[]⟩) Rows.topDefaultsRow.laid
theorem C7(os:Os)(args:Array Value):laidMet Tryz.prog Rows.topDefaultsRow.laid ((laidWorld os).forCall (fun _ _=>0) ⟨#[],args,[]⟩).memory:=
 laidMet_of_run3 8 (by kernel_rfl) (by kernel_rfl) (by kernel_rfl)
end Go.Proofs.YtdcidannegcaoaaGreatDoor

