/-
  Lemmas for the statement at the top.
-/
import Derived.Test.YtllgjognpobnpaaGreatDoorGP6
import Derived.Test.YtllgjognpobnpaaGreatDoorGP11
import Derived.Test.YtllgjognpobnpaaGreatDoorGP10
set_option linter.all false
namespace Go.Ab
def q9x0:List Nat:=[0,1,2,6,7,8,9,10,20,25,37,48,76,1000000,1000001,1000002]
def q9x1:List Nat:=[0,1,2,6,7,32]
attribute [go_sem] q9x0 q9x1
end Go.Ab
namespace Go.Proofs.YtllgjognpobnpaaGreatDoor
open Go.RowKit Go.Ab
attribute [local irreducible] AWP Go.Ab.Sub Means MeansH CallK CallG CallT CallGT PanicH DefH CallU
theorem lG(L:List Int)(hl:L.length≤100000):Means true Tryz.prog 43 [il L] (il L):=by
 refine yM true 8 [.tmp 2] [0,2,4] Tryz.func43 fun X hX=>?_
 (repeat(refine yA ?_;(simp[go_sem])))
 refine⟨?_,fun hL=>?_⟩
 ·refine yF ?_
  (repeat(refine yA ?_;(simp[go_sem])))
  (repeat refine⟨by first|omega|(rw[bA];omega)|kernel_rfl|grind,?_⟩)
  (repeat(refine yA ?_;(simp[go_sem])))
 ·subst hL
  refine yT ?_
  (repeat(refine yA ?_;(simp[go_sem])))
@[go_sem] theorem nth_il{L:List (List Int)}{k:Nat}(h:k<L.length):nth (L.map il) k=il L[k]:=cG il h
theorem IE{C:List Cn}{V Y nx:List Int}{vn iN an:Nat}{b n:Int}(hi:iN<C.length)(hc:C[iN]=⟨an,b,n⟩)(hv:vn<V.length)(ha:an<V.length):
  rlx C vn (V,Y,nx) iN=if V[vn]+n<V[an]then(V.set an (V[vn]+n),Y.set an iN,nx++[(an:Int)])else(V,Y,nx):=by
 unfold rlx
 simp only[Int.toNat_natCast]
 rw[cD hi,hc]
 simp only[Int.toNat_natCast]
 rw[gD hv,gD ha]
theorem DG{k:Nat}(h:k<5):([bb true,bb true,bb true,bb true,bb true]:List AV).set k (bb true)=[bb true,bb true,bb true,bb true,bb true]∧nth [bb true,bb true,bb true,bb true,bb true] k=bb true:=by
 have:k=0∨k=1∨k=2∨k=3∨k=4:=by omega
 rcases this with rfl|rfl|rfl|rfl|rfl<;>exact⟨rfl,rfl⟩
theorem tG{Y:List Int}:∀{n:Nat},n≤Y.length→(ddN Y n).length=n→ddN Y n=Y.take n
 |0,_,_=>by simp[ddN]
 |n+1,hn,h=>by
  have h1:=AE Y n
  rw[ddN]at h⊢
  split at h
  ·omega
  ·rename_i hc
   rw[if_neg hc]
   simp only[List.length_append,List.length_singleton,Nat.add_right_cancel_iff]at h
   rw[tG (by omega) h,List.take_succ_eq_append_getElem (by omega),gD (by omega)]
theorem G3(x:Int):(AV.v (Value.int .i64 x)).zone=true:=rfl
set_option maxHeartbeats 16000000 in
set_option maxRecDepth 20000 in
theorem JA(C:List Cn)(F:List (List Int))(hw:WF C F)(V0 Y0 todo0:List Int)(hV:V0.length=5)(hY:Y0.length=5)(hz:∀x∈V0,x=0)(ht0:Todo todo0)(hne:todo0≠[]):
  MeansH Tryz.prog 55 [.row ⟨137,5,[.agg [.sl (C.map cn),.sl (F.map il),.ow 1,.ow 2,.ow 3]]⟩,rowI V0,rowI Y0,.row ⟨4,1,[bb true,bb true,bb true,bb true,bb true]⟩] [.el 0 5 0 0,il todo0] (ii (runM C F 6 V0 Y0 todo0).1) [.row ⟨137,5,[.agg [.sl (C.map cn),.sl (F.map il),.ow 1,.ow 2,.ow 3]]⟩,rowI (runM C F 6 V0 Y0 todo0).2.1,rowI (runM C F 6 V0 Y0 todo0).2.2,.row ⟨4,1,[bb true,bb true,bb true,bb true,bb true]⟩]:=by
 have len5:∀{l:List Int},Todo l→l.length≤5:=fun{l} h=>by
  have:∀(l:List Int) (a:Int),0≤a→l.Pairwise (· < ·)→(∀v∈l,a≤v∧v<5)→(l.length:Int)≤max 0 (5-a):=by
   intro l
   induction l with
   |nil=>intro a _ _ _;simp;omega
   |cons x l ih=>
    intro a ha hp hr
    rw[List.pairwise_cons]at hp
    have hx:=hr x (by simp)
    have:=ih (x+1) (by omega) hp.2 fun v hv=>by have:=hp.1 v hv;have:=hr v (by simp[hv]);omega
    simp only[List.length_cons];omega
  have:=this l 0 (by omega) h.1 h.2
  omega
 have c1:=lG todo0 (by have:=len5 ht0;omega)
 generalize hR:runM C F 6 V0 Y0 todo0=R
 have w6:IntKind.i64.wrap 6=6:=by decide
 refine yN 4 120 [.tmp 4] [0,1,4,5,6,8,10,11,12,20,21,22,23,24,25,26,35,36,37,38,78,111,1000000,1000001,1000002,1000003] Tryz.func55 fun X hX=>?_
 (repeat(refine yB ?_;(simp[go_sem])))
 refine aD c1 ?_
 simp[go_sem]
 (repeat(refine yB ?_;(simp[go_sem,hV,w6])))
 refine aG (fun(q:Nat×List Int×List Int×List Int)=>⟨mkE [(0,.el 0 5 0 0),(5,il q.2.2.2),(20,ii 6),(21,ii q.1),(1000000,.ow 0),(1000001,.ow 1),(1000002,.ow 2),(1000003,.ow 3)],[.row ⟨137,5,[.agg [.sl (C.map cn),.sl (F.map il),.ow 1,.ow 2,.ow 3]]⟩,rowI q.2.1,rowI q.2.2.1,.row ⟨4,1,[bb true,bb true,bb true,bb true,bb true]⟩]⟩)
  (fun q=>q.1≤6∧Gd (q.2.1,q.2.2.1,[]) (24000*q.1) 0∧Todo q.2.2.2∧q.2.2.2≠[]∧runM C F (6-q.1) q.2.1 q.2.2.1 q.2.2.2=R) (fun q=>6-q.1) (0,V0,Y0,todo0) ?_ ?_ ?_
 ·refine yS _ [.old 0 ⟨137,5,[.agg [.sl (C.map cn),.sl (F.map il),.ow 1,.ow 2,.ow 3]]⟩,.old 1 ⟨3,1,(V0).map ii⟩,.old 2 ⟨3,1,(Y0).map ii⟩,.old 3 ⟨4,1,[bb true,bb true,bb true,bb true,bb true]⟩] ?_
  simp[go_sem,hV,w6]
 ·refine⟨Nat.zero_le _,⟨hV,hY,fun x hx=>by rw[hz x hx];simp,by simp,by simp⟩,ht0,hne,hR⟩
 rintro⟨r,V,Y,todo⟩ ⟨hr,hG,hT,hne,hM⟩
 simp only[]at hr hG hT hne hM⊢
 have hlv:V.length=5:=hG.lv
 have hly:Y.length=5:=hG.ly
 have wr:=w64 (x:=(r:Int)+1) (by omega) (by omega)
 have hl5:=len5 hT
 have htl:0<todo.length:=List.length_pos_iff.2 hne
 (repeat(refine yB ?_;(simp[go_sem])))
 refine yC (decide (r<6)) (fun hc=>?_) (fun hc=>?_) (by simp[go_sem];try omega)
 rotate_left
 ·simp at hc
  have e:r=6:=by omega
  subst e
  have hM2:(todo.getD 0 0,V,Y)=R:=hM
  rw[←hM2]
  have e0:todo.getD 0 0=todo[0]:=gD htl
  simp only[]
  rw[e0]
  (repeat(refine yB ?_;(simp[go_sem,htl])))
  refine aB ?_;refine aA [(4,ii todo[0]),(1000000,.ow 0),(1000001,.ow 1),(1000002,.ow 2),(1000003,.ow 3)] [.old 0 ⟨137,5,[.agg [.sl (C.map cn),.sl (F.map il),.ow 1,.ow 2,.ow 3]]⟩,.old 1 ⟨3,1,(V).map ii⟩,.old 2 ⟨3,1,(Y).map ii⟩,.old 3 ⟨4,1,[bb true,bb true,bb true,bb true,bb true]⟩] ?_
  simp[go_sem]
 simp at hc
 obtain⟨k6,hk6⟩:∃k6,6-r=k6+1:=⟨5-r,by omega⟩
 rw[hk6,runM]at hM
 (repeat(refine yB ?_;(simp[go_sem])))
 refine aG (fun(p:Nat×List Int×List Int×List Int)=>⟨mkE [(0,.el 0 5 0 0),(6,.ow 4),(20,ii 6),(21,ii r),(23,il todo),(24,ii todo.length),(25,ii p.1),(1000000,.ow 0),(1000001,.ow 1),(1000002,.ow 2),(1000003,.ow 3)],[.row ⟨137,5,[.agg [.sl (C.map cn),.sl (F.map il),.ow 1,.ow 2,.ow 3]]⟩,rowI p.2.1,rowI p.2.2.1,.row ⟨4,1,[bb true,bb true,bb true,bb true,bb true]⟩,rowI p.2.2.2]⟩)
  (fun p=>p.1≤todo.length∧p.2=rnd C F (V,Y,[]) (todo.take p.1)∧Gd p.2 (24000*r+2000*cntF F (todo.take p.1)) (cntF F (todo.take p.1))) (fun p=>todo.length-p.1) (0,V,Y,[]) ?_ ?_ ?_
 ·refine yS _ [.old 0 ⟨137,5,[.agg [.sl (C.map cn),.sl (F.map il),.ow 1,.ow 2,.ow 3]]⟩,.old 1 ⟨3,1,(V).map ii⟩,.old 2 ⟨3,1,(Y).map ii⟩,.old 3 ⟨4,1,[bb true,bb true,bb true,bb true,bb true]⟩,.birth 3 1] ?_
  simp[go_sem]
 ·exact⟨Nat.zero_le _,rfl,hG⟩
 rintro⟨t,V1,Y1,N1⟩ ⟨i1,i2,i3⟩
 simp only[]at i1 i2 i3⊢
 have wt:=w64 (x:=(t:Int)+1) (by omega) (by omega)
 have hlv1:V1.length=5:=i3.lv
 have hly1:Y1.length=5:=i3.ly
 have hct:=AP (F:=F) (todo:=todo) t
 have htt:=hw.tot todo hT
 (repeat(refine yB ?_;(simp[go_sem])))
 refine yC (decide (t<todo.length)) (fun hd=>?_) (fun hd=>?_) (by simp[go_sem];try omega)
 rotate_left
 ·simp at hd
  have e:todo.take t=todo:=List.take_of_length_le hd
  rw[e]at i2 i3
  rw[←i2]at hM
  have hn12:N1.length≤12:=by have:=i3.ln;simp only[]at this;omega
  (repeat(refine yB ?_;(simp[go_sem])))
  by_cases hN:N1=[]
  ·subst hN
   have hM:(-1,V1,Y1)=R:=by simpa using hM
   rw[←hM]
   refine yT ?_
   (repeat(refine yB ?_;(simp[go_sem])))
   refine aB ?_;simp only[thenQ,blkQ,loopQ];refine aA [(4,ii (-1)),(1000000,.ow 0),(1000001,.ow 1),(1000002,.ow 2),(1000003,.ow 3)] [.old 0 ⟨137,5,[.agg [.sl (C.map cn),.sl (F.map il),.ow 1,.ow 2,.ow 3]]⟩,.old 1 ⟨3,1,(V1).map ii⟩,.old 2 ⟨3,1,(Y1).map ii⟩,.old 3 ⟨4,1,[bb true,bb true,bb true,bb true,bb true]⟩] ?_
   simp[go_sem]
  ·have hM:runM C F k6 V1 Y1 (ddL (sortS N1))=R:=by simpa[hN]using hM
   refine yF ?_ (by simp[go_sem,hN])
   have d1:=GS N1 hn12
   have d2:=xY (sortS N1) (by rw[oC];omega)
   have hT2:=oF i3.nx
   have hne2:ddL (sortS N1)≠[]:=by
    obtain⟨x,hx⟩:=List.exists_mem_of_ne_nil _ hN
    have hx2:x∈ddL (sortS N1):=(gN (Nat.le_refl _) x).2 (by rw[List.take_length];exact(eL N1).mem_iff.2 hx)
    exact List.ne_nil_of_mem hx2
   have hG2:Gd (V1,Y1,[]) (24000*(r+1)) 0:=⟨i3.lv,i3.ly,fun x hx=>by have:=i3.bd x hx;omega,by simp,by simp⟩
   have hk2:6-(r+1)=k6:=by omega
   (repeat(refine yB ?_;(simp[go_sem])))
   refine yH [4] d1 ?_
   simp[go_sem]
   (repeat(refine yB ?_;(simp[go_sem])))
   by_cases hcp:(ddN (sortS N1) (sortS N1).length).length=(sortS N1).length
   ·have hdd:ddL (sortS N1)=sortS N1:=by have:=tG (Nat.le_refl _) hcp;rwa [List.take_length]at this
    rw[cpR,cpL,if_pos hcp,if_pos hcp]at d2
    refine yH [4] d2 ?_
    simp[go_sem]
    (repeat(refine yB ?_;(simp[go_sem,wr])))
    refine⟨r+1,V1,Y1,ddL (sortS N1),⟨by omega,hG2,hT2,hne2,by rw[hk2];exact hM⟩,by omega,?_⟩
    rw[hdd]
    refine yS _ [.old 0 ⟨137,5,[.agg [.sl (C.map cn),.sl (F.map il),.ow 1,.ow 2,.ow 3]]⟩,.old 1 ⟨3,1,(V1).map ii⟩,.old 2 ⟨3,1,(Y1).map ii⟩,.old 3 ⟨4,1,[bb true,bb true,bb true,bb true,bb true]⟩] ?_
    simp[go_sem]
   ·rw[cpR,cpL,if_neg hcp,if_neg hcp]at d2
    refine yH [4] d2 ?_
    simp[go_sem]
    (repeat(refine yB ?_;(simp[go_sem,wr])))
    refine⟨r+1,V1,Y1,ddL (sortS N1),⟨by omega,hG2,hT2,hne2,by rw[hk2];exact hM⟩,by omega,?_⟩
    refine yS _ [.old 0 ⟨137,5,[.agg [.sl (C.map cn),.sl (F.map il),.ow 1,.ow 2,.ow 3]]⟩,.old 1 ⟨3,1,(V1).map ii⟩,.old 2 ⟨3,1,(Y1).map ii⟩,.old 3 ⟨4,1,[bb true,bb true,bb true,bb true,bb true]⟩] ?_
    simp only[go_sem]
    try simp[ddL]
    refine⟨4,1,0,_,⟨rfl,rfl,rfl,rfl⟩,_,rfl,⟨rfl,?_⟩,?_,?_,rfl,rfl,rfl,rfl⟩
    ·simp
    ·simp
    ·simp[zoneEs,G3]
 simp at hd
 obtain⟨vn,hvn⟩:∃vn:Nat,todo[t]=(vn:Int):=⟨todo[t].toNat,by have:=hT.2 _ (List.getElem_mem hd);omega⟩
 have hv5:vn<5:=by have:=hT.2 _ (List.getElem_mem hd);omega
 have hF:vn<F.length:=by rw[hw.F5];exact hv5
 have hstep:=AO (F:=F) hd
 have hrs:=AQ (C:=C) (F:=F) (s:=(V,Y,[])) hd
 have hct1:=AP (F:=F) (todo:=todo) (t+1)
 rw[hvn,Int.toNat_natCast]at hstep
 rw[hvn,←i2]at hrs
 have hFD:F.getD vn []=F[vn]:=by rw[List.getD_eq_getElem?_getD,List.getElem?_eq_getElem hF];rfl
 unfold rlxV at hrs
 rw[Int.toNat_natCast]at hrs
 rw[hFD]at hstep hrs
 obtain⟨L,hL⟩:∃L,F[vn]=L:=⟨_,rfl⟩
 have hLm:L∈F:=by rw[←hL];exact List.getElem_mem hF
 rw[hL]at hstep hrs
 (repeat(refine yB ?_;(simp[go_sem,hd,hvn,hF,hL])))
 refine aG (fun(p:Nat×List Int×List Int×List Int)=>⟨mkE [(0,.el 0 5 0 0),(6,.ow 4),(8,ii vn),(20,ii 6),(21,ii r),(23,il todo),(24,ii todo.length),(25,ii t),(35,il L),(36,ii L.length),(37,ii p.1),(1000000,.ow 0),(1000001,.ow 1),(1000002,.ow 2),(1000003,.ow 3)],[.row ⟨137,5,[.agg [.sl (C.map cn),.sl (F.map il),.ow 1,.ow 2,.ow 3]]⟩,rowI p.2.1,rowI p.2.2.1,.row ⟨4,1,[bb true,bb true,bb true,bb true,bb true]⟩,rowI p.2.2.2]⟩)
  (fun p=>p.1≤L.length∧p.2=(L.take p.1).foldl (rlx C vn) (V1,Y1,N1)∧Gd p.2 (24000*r+2000*cntF F (todo.take t)+2000*p.1) (cntF F (todo.take t)+p.1)) (fun p=>L.length-p.1) (0,V1,Y1,N1) ?_ ?_ ?_
 ·refine yS _ [.old 0 ⟨137,5,[.agg [.sl (C.map cn),.sl (F.map il),.ow 1,.ow 2,.ow 3]]⟩,.old 1 ⟨3,1,(V1).map ii⟩,.old 2 ⟨3,1,(Y1).map ii⟩,.old 3 ⟨4,1,[bb true,bb true,bb true,bb true,bb true]⟩,.old 4 ⟨3,1,(N1).map ii⟩] ?_
  simp[go_sem]
 ·exact⟨Nat.zero_le _,rfl,i3⟩
 rintro⟨q,V2,Y2,N2⟩ ⟨j1,j2,j3⟩
 simp only[]at j1 j2 j3⊢
 have hlv2:V2.length=5:=j3.lv
 have hly2:Y2.length=5:=j3.ly
 have wq:=w64 (x:=(q:Int)+1) (by omega) (by omega)
 (repeat(refine yB ?_;(simp[go_sem])))
 refine yC (decide (q<L.length)) (fun he=>?_) (fun he=>?_) (by simp[go_sem];try omega)
 rotate_left
 ·simp at he
  have e:q=L.length:=by omega
  subst e
  rw[List.take_length]at j2
  (repeat(refine yB ?_;(simp[go_sem,wt])))
  refine⟨t+1,V2,Y2,N2,⟨by omega,by rw[hrs];exact j2,?_⟩,by omega,?_⟩
  ·rw[hstep,Nat.mul_add]
   have:=j3
   rwa [←Nat.add_assoc]
  ·refine yS _ [.old 0 ⟨137,5,[.agg [.sl (C.map cn),.sl (F.map il),.ow 1,.ow 2,.ow 3]]⟩,.old 1 ⟨3,1,(V2).map ii⟩,.old 2 ⟨3,1,(Y2).map ii⟩,.old 3 ⟨4,1,[bb true,bb true,bb true,bb true,bb true]⟩,.old 4 ⟨3,1,(N2).map ii⟩] ?_
   simp[go_sem]
 simp at he
 have hLi:=hw.fi L hLm L[q] (List.getElem_mem he)
 obtain⟨iN,hiN⟩:∃iN:Nat,L[q]=(iN:Int):=⟨L[q].toNat,by omega⟩
 have hi:iN<C.length:=by omega
 have hca:=hw.ca C[iN] (List.getElem_mem hi)
 have hcn:=hw.cn C[iN] (List.getElem_mem hi)
 have hgd:=GU hw j3 (v:=(vn:Int)) (i:=(iN:Int)) (by omega) (by omega)
 have hfs:=y0 (C:=C) (v:=(vn:Int)) (s:=(V1,Y1,N1)) he
 rw[←j2,hiN]at hfs
 obtain⟨⟨ca,cb,cc⟩,hc0⟩:∃c,C[iN]=c:=⟨_,rfl⟩
 rw[hc0]at hca hcn
 simp only[]at hca hcn
 obtain⟨an,rfl⟩:∃an:Nat,ca=(an:Int):=⟨ca.toNat,by omega⟩
 have ha5:an<5:=by omega
 have hv2:vn<V2.length:=by omega
 have ha2:an<V2.length:=by omega
 have hay:an<Y2.length:=by omega
 have hrl:=IE (Y:=Y2) (nx:=N2) hi hc0 hv2 ha2
 have hbv:=j3.bd V2[vn] (List.getElem_mem hv2)
 have wn:=w64 (x:=V2[vn]+cc) (by omega) (by omega)
 obtain⟨hn5,hg5⟩:=DG ha5
 have hN2l:N2.length≤24:=by
  have:=j3.ln
  simp only[]at this
  have:cntF F (todo.take t)+q≤12:=by rw[hstep]at hct1;omega
  omega
 (repeat(refine yB ?_;(simp[go_sem,he,hiN,hi,hc0,hv2,ha2,hay,wn,hn5,hg5];try(refine⟨by kernel_rfl,?_⟩))))
 refine⟨by omega,by omega,by kernel_rfl,?_⟩
 refine yC (decide (V2[vn]+cc<V2[an])) (fun hc=>?_) fun hc=>?_
 ·simp only[decide_eq_true_eq]at hc
  rw[if_pos hc]at hrl
  rw[hrl]at hfs
  rw[hrl]at hgd
  (repeat(refine yB ?_;(simp[go_sem,he,hiN,hi,hc0,hv2,ha2,hay,wn,hn5,hg5,wq])))
  refine⟨by omega,by omega,by kernel_rfl,?_⟩
  (repeat(refine yB ?_;(simp[go_sem,he,hiN,hi,hc0,hv2,ha2,hay,wn,hn5,hg5,wq])))
  refine⟨⟨by omega,by unfold maxLen;omega⟩,?_⟩
  (repeat(refine yB ?_;(simp[go_sem,he,hiN,hi,hc0,hv2,ha2,hay,wn,hn5,hg5,wq])))
  refine⟨q+1,V2.set an (V2[vn]+cc),Y2.set an iN,N2++[(an:Int)],⟨by omega,hfs.symm,by simpa[Nat.mul_add,Nat.add_assoc]using hgd⟩,by omega,?_⟩
  refine yS _ [.old 0 ⟨137,5,[.agg [.sl (C.map cn),.sl (F.map il),.ow 1,.ow 2,.ow 3]]⟩,.old 1 ⟨3,1,(V2.set an (V2[vn]+cc)).map ii⟩,.old 2 ⟨3,1,(Y2.set an iN).map ii⟩,.old 3 ⟨4,1,[bb true,bb true,bb true,bb true,bb true]⟩,.old 7 ⟨3,1,(N2++[(an:Int)]).map ii⟩] ?_
  simp[go_sem]
 ·simp only[decide_eq_false_iff_not]at hc
  rw[if_neg hc]at hrl
  rw[hrl]at hfs hgd
  (repeat(refine yB ?_;(simp[go_sem,he,hiN,hi,hc0,hv2,ha2,hay,wn,hn5,hg5,wq])))
  refine⟨q+1,V2,Y2,N2,⟨by omega,hfs.symm,by simpa[Nat.mul_add,Nat.add_assoc]using hgd⟩,by omega,?_⟩
  refine yS _ [.old 0 ⟨137,5,[.agg [.sl (C.map cn),.sl (F.map il),.ow 1,.ow 2,.ow 3]]⟩,.old 1 ⟨3,1,(V2).map ii⟩,.old 2 ⟨3,1,(Y2).map ii⟩,.old 3 ⟨4,1,[bb true,bb true,bb true,bb true,bb true]⟩,.old 4 ⟨3,1,(N2).map ii⟩] ?_
  simp[go_sem]
end Go.Proofs.YtllgjognpobnpaaGreatDoor

namespace Go.Proofs.YtllgjognpobnpaaGreatDoor
def cI(C:List Cn)(i:Int):Cn:=C.getD i.toNat ⟨0,0,0⟩
def vD(V:List Int)(x:Int):Int:=V.getD x.toNat 0
def Sat(C:List Cn)(V:List Int)(i:Int):Prop:=vD V (cI C i).a≤vD V (cI C i).b+(cI C i).n
structure WG(C:List Cn)(F:List (List Int)):Prop where
 toWF:WF C F
 b5:∀i:Int,0≤i→i<C.length→0≤(cI C i).b∧(cI C i).b<5
 fb:∀v,0≤v→v<5→∀i∈F.getD v.toNat [],0≤i∧i<C.length∧(cI C i).b=v
 bf:∀i:Int,0≤i→i<C.length→i∈F.getD (cI C i).b.toNat []
theorem WG.a5{C:List Cn}{F:List (List Int)}(h:WG C F){i:Int}(h0:0≤i)(h1:i<C.length):0≤(cI C i).a∧(cI C i).a<5:=by
 have hi:i.toNat<C.length:=by omega
 unfold cI
 rw[cD hi]
 exact h.toWF.ca _ (List.getElem_mem hi)
structure Why(C:List Cn)(s:RS)(L:Int→Nat)(k:Nat)(todo:List Int):Prop where
 lv:s.1.length=5
 ly:s.2.1.length=5
 le:∀x,L x≤k
 why:∀x,0≤x→x<5→1≤L x→0≤vD s.2.1 x∧vD s.2.1 x<C.length∧(cI C (vD s.2.1 x)).a=x∧L x≤L (cI C (vD s.2.1 x)).b+1
 td:∀v∈todo,k≤L v+1
 nx:∀x∈s.2.2,0≤x∧x<5∧k≤L x
def Hold(C:List Cn)(s:RS)(rem:List Int)(v:Int)(ri:List Int):Prop:=
 ∀i:Int,0≤i→i<C.length→Sat C s.1 i∨(cI C i).b∈s.2.2∨(cI C i).b∈rem∨((cI C i).b=v∧i∈ri)
theorem DH{C:List Cn}{v i:Int}{s:RS}:rlx C v s i=if vD s.1 v+(cI C i).n<vD s.1 (cI C i).a then(s.1.set (cI C i).a.toNat (vD s.1 v+(cI C i).n),s.2.1.set (cI C i).a.toNat i,s.2.2++[(cI C i).a])else s:=rfl
theorem vI{V:List Int}(hV:V.length=5){a x n:Int}(ha:0≤a∧a<5)(hx:0≤x∧x<5):vD (V.set a.toNat n) x=if x=a then n else vD V x:=by
 unfold vD
 have h1:x.toNat<(V.set a.toNat n).length:=by rw[List.length_set];omega
 rw[gD h1,gD (by omega),List.getElem_set]
 by_cases h:x=a
 ·subst h;rw[if_pos rfl,if_pos rfl]
 ·rw[if_neg h,if_neg (by omega)]
theorem G4{C:List Cn}{F:List (List Int)}(hw:WG C F){s:RS}{L:Int→Nat}{k:Nat}{todo:List Int}(h:Why C s L k todo)(hk:1≤k){v i:Int}(hv:v∈todo)(hv5:0≤v∧v<5)(hi:0≤i∧i<C.length)(hb:(cI C i).b=v):
  ∃L',Why C (rlx C v s i) L' k todo:=by
 rw[DH]
 have ha:=hw.a5 hi.1 hi.2
 split
 ·refine⟨fun x=>if x=(cI C i).a then k else L x,⟨by simp[h.lv],by simp[h.ly],fun x=>?_,fun x x0 x5 hx=>?_,fun x hx=>?_,fun x hx=>?_⟩⟩
  ·show(if _ then _ else _)≤k
   split
   ·exact Nat.le_refl _
   ·exact h.le x
  ·simp only[]at hx⊢
   rw[vI h.ly ha ⟨x0,x5⟩]
   by_cases hxa:x=(cI C i).a
   ·rw[if_pos hxa,if_pos hxa]
    refine⟨hi.1,hi.2,hxa.symm,?_⟩
    rw[hb]
    have:=h.td v hv
    split<;>omega
   ·rw[if_neg hxa]at hx⊢
    rw[if_neg hxa]
    obtain⟨w0,w1,w2,w3⟩:=h.why x x0 x5 hx
    refine⟨w0,w1,w2,?_⟩
    have:=h.le x
    split
    ·omega
    ·exact w3
  ·have:=h.td x hx
   split<;>omega
  ·rcases List.mem_append.1 hx with hx|hx
   ·have:=h.nx x hx
    split<;>omega
   ·simp only[List.mem_singleton]at hx
    subst hx
    simp only[if_pos]
    omega
 ·exact⟨L,h⟩
theorem DI{C:List Cn}{F:List (List Int)}(hw:WG C F){s:RS}(hs:s.1.length=5){v i:Int}{rem ri:List Int}(h:Hold C s rem v (i::ri))(hi:0≤i∧i<C.length)(hb:(cI C i).b=v):
  Hold C (rlx C v s i) rem v ri:=by
 have ha:=hw.a5 hi.1 hi.2
 have hv:=hw.b5 i hi.1 hi.2
 intro j j0 j1
 have hja:=hw.a5 j0 j1
 have hjb:=hw.b5 j j0 j1
 have hj:=h j j0 j1
 rw[DH]
 split
 ·rename_i hc
  show Sat C (s.1.set _ _) j∨_
  by_cases hjn:(cI C j).b=(cI C i).a
  ·exact .inr (.inl (by simp[hjn]))
  ·have hS:Sat C s.1 j∨j=i→Sat C (s.1.set (cI C i).a.toNat (vD s.1 v+(cI C i).n)) j:=by
    intro hS
    unfold Sat
    rw[vI hs ha hja,vI hs ha hjb,if_neg hjn]
    rcases hS with hS|rfl
    ·unfold Sat at hS
     split
     ·rename_i he;rw[he]at hS;omega
     ·exact hS
    ·rw[if_pos rfl,hb];omega
   rcases hj with hj|hj|hj|⟨hj,hj2⟩
   ·exact .inl (hS (.inl hj))
   ·exact .inr (.inl (by simp[hj]))
   ·exact .inr (.inr (.inl hj))
   ·rcases List.mem_cons.1 hj2 with rfl|hj2
    ·exact .inl (hS (.inr rfl))
    ·exact .inr (.inr (.inr ⟨hj,hj2⟩))
 ·rename_i hc
  rcases hj with hj|hj|hj|⟨hj,hj2⟩
  ·exact .inl hj
  ·exact .inr (.inl hj)
  ·exact .inr (.inr (.inl hj))
  ·rcases List.mem_cons.1 hj2 with rfl|hj2
   ·refine .inl ?_
    unfold Sat
    rw[hb];omega
   ·exact .inr (.inr (.inr ⟨hj,hj2⟩))
theorem tH{C:List Cn}{F:List (List Int)}(hw:WG C F){k:Nat}{todo rem:List Int}(hk:1≤k){v:Int}(hv:v∈todo)(hv5:0≤v∧v<5):∀(ri:List Int),(∀i∈ri,0≤i∧i<C.length∧(cI C i).b=v)→∀(s:RS) (L:Int→Nat),Why C s L k todo→Hold C s rem v ri→
  ∃L',Why C (ri.foldl (rlx C v) s) L' k todo∧Hold C (ri.foldl (rlx C v) s) rem v []
 | [],_,s,L,h,hh=>⟨L,h,hh⟩
 |i::ri,hr,s,L,h,hh=>by
  obtain⟨i0,i1,i2⟩:=hr i (by simp)
  obtain⟨L1,h1⟩:=G4 hw h hk hv hv5 ⟨i0,i1⟩ i2
  exact tH hw hk hv hv5 ri (fun j hj=>hr j (by simp[hj])) _ L1 h1 (DI hw h.lv hh ⟨i0,i1⟩ i2)
theorem xM{C:List Cn}{F:List (List Int)}(hw:WG C F){k:Nat}{todo:List Int}(hk:1≤k):∀(rem:List Int),(∀v∈rem,v∈todo∧0≤v∧v<5)→∀(s:RS) (L:Int→Nat),Why C s L k todo→Hold C s rem 0 []→
  ∃L',Why C (rnd C F s rem) L' k todo∧Hold C (rnd C F s rem) [] 0 []
 | [],_,s,L,h,hh=>⟨L,h,hh⟩
 |v::rem,hr,s,L,h,hh=>by
  obtain⟨v0,v1⟩:=hr v (by simp)
  have hf:=hw.fb v v1.1 v1.2
  obtain⟨L1,h1,hh1⟩:=tH hw (rem:=rem) hk v0 v1 (F.getD v.toNat []) hf s L h (by
   intro i i0 i1
   rcases hh i i0 i1 with hi|hi|hi|hi
   ·exact .inl hi
   ·exact .inr (.inl hi)
   ·rcases List.mem_cons.1 hi with hi|hi
    ·exact .inr (.inr (.inr ⟨hi,by have:=hw.bf i i0 i1;rwa [hi]at this⟩))
    ·exact .inr (.inr (.inl hi))
   ·simp at hi)
  have hh2:Hold C (rlxV C F s v) rem 0 []:=fun i i0 i1=>by
   rcases hh1 i i0 i1 with hi|hi|hi|hi
   ·exact .inl hi
   ·exact .inr (.inl hi)
   ·exact .inr (.inr (.inl hi))
   ·simp at hi
  exact xM hw hk rem (fun w hw=>hr w (by simp[hw])) _ L1 h1 hh2
theorem tI{C:List Cn}{F:List (List Int)}(hw:WG C F):∀(n k:Nat) (V Y todo:List Int) (L:Int→Nat),1≤k→Todo todo→todo≠[]→Why C (V,Y,[]) L k todo→Hold C (V,Y,[]) todo 0 []→
  ((runM C F n V Y todo).1= -1∧(∀i:Int,0≤i→i<C.length→Sat C (runM C F n V Y todo).2.1 i))∨
  (0≤(runM C F n V Y todo).1∧(runM C F n V Y todo).1<5∧∃L' td,Why C ((runM C F n V Y todo).2.1,(runM C F n V Y todo).2.2,[]) L' (n+k) td∧n+k≤L' (runM C F n V Y todo).1+1)
 |0,k,V,Y,todo,L,hk,ht,hne,h,hh=>by
  rw[runM]
  have hm:todo.getD 0 0∈todo:=d8 (List.length_pos_iff.2 hne)
  have:=ht.2 _ hm
  refine .inr ⟨this.1,this.2,L,todo,by rw[Nat.zero_add];exact h,by rw[Nat.zero_add];exact h.td _ hm⟩
 |n+1,k,V,Y,todo,L,hk,ht,hne,h,hh=>by
  obtain⟨L1,h1,hh1⟩:=xM hw hk todo (fun v hv=>⟨hv,ht.2 v hv⟩) (V,Y,[]) L h hh
  rw[runM]
  generalize rnd C F (V,Y,[]) todo=s at h1 hh1⊢
  obtain⟨V1,Y1,N1⟩:=s
  by_cases hN:N1=[]
  ·subst hN
   refine .inl ⟨rfl,fun i i0 i1=>?_⟩
   rcases hh1 i i0 i1 with hi|hi|hi|hi
   ·exact hi
   ·simp at hi
   ·simp at hi
   ·simp at hi
  ·simp only[if_neg hN]
   have hmem:∀v∈ddL (sortS N1),v∈N1:=fun v hv=>by
    have hv:=(gN (Nat.le_refl _) v).1 hv
    rw[List.take_length]at hv
    exact(eL N1).mem_iff.1 hv
   have hmem2:∀v∈N1,v∈ddL (sortS N1):=fun v hv=>(gN (Nat.le_refl _) v).2 (by rw[List.take_length];exact(eL N1).mem_iff.2 hv)
   have hT2:Todo (ddL (sortS N1)):=oF fun x hx=>⟨(h1.nx x hx).1,(h1.nx x hx).2.1⟩
   have hne2:ddL (sortS N1)≠[]:=by
    obtain⟨x,hx⟩:=List.exists_mem_of_ne_nil _ hN
    exact List.ne_nil_of_mem (hmem2 x hx)
   have:=tI hw n (k+1) V1 Y1 (ddL (sortS N1)) L1 (by omega) hT2 hne2
    ⟨h1.lv,h1.ly,fun x=>Nat.le_succ_of_le (h1.le x),h1.why,fun v hv=>by have:=(h1.nx v (hmem v hv)).2.2;omega,by simp⟩
    (fun i i0 i1=>by
     rcases hh1 i i0 i1 with hi|hi|hi|hi
     ·exact .inl hi
     ·exact .inr (.inr (.inl (hmem2 _ hi)))
     ·simp at hi
     ·simp at hi)
   rw[show n+1+k=n+(k+1) by omega]
   exact this
def par(C:List Cn)(Y:List Int)(v:Int):Int:=(cI C (vD Y v)).b
def parN(C:List Cn)(Y:List Int):Nat→Int→Int
 |0,v=>v
 |k+1,v=>par C Y (parN C Y k v)
theorem jY{C:List Cn}{Y:List Int}(a b:Nat)(v:Int):parN C Y (a+b) v=parN C Y a (parN C Y b v):=by
 induction a with
 |zero=>rw[Nat.zero_add];rfl
 |succ a ih=>rw[show a+1+b=(a+b)+1 by omega];show par C Y _=par C Y _;rw[ih]
def Leads(C:List Cn)(Y:List Int)(v:Int):Prop:=0≤v∧v<5∧0≤vD Y v∧vD Y v<C.length∧0≤par C Y v∧par C Y v<5
theorem pig:∀a b c d e f:Fin 5,a=b∨a=c∨a=d∨a=e∨a=f∨b=c∨b=d∨b=e∨b=f∨c=d∨c=e∨c=f∨d=e∨d=f∨e=f:=by decide+kernel
theorem JK{g:Nat→Int}(h:∀k,k≤5→0≤g k∧g k<5):∃i j,i<j∧j≤5∧g i=g j:=by
 have h0:=h 0 (by omega)
 have h1:=h 1 (by omega)
 have h2:=h 2 (by omega)
 have h3:=h 3 (by omega)
 have h4:=h 4 (by omega)
 have h5:=h 5 (by omega)
 have:=pig ⟨(g 0).toNat,by omega⟩ ⟨(g 1).toNat,by omega⟩ ⟨(g 2).toNat,by omega⟩ ⟨(g 3).toNat,by omega⟩ ⟨(g 4).toNat,by omega⟩ ⟨(g 5).toNat,by omega⟩
 simp only[Fin.mk.injEq]at this
 rcases this with h|h|h|h|h|h|h|h|h|h|h|h|h|h|h
 ·exact⟨0,1,by omega,by omega,by omega⟩
 ·exact⟨0,2,by omega,by omega,by omega⟩
 ·exact⟨0,3,by omega,by omega,by omega⟩
 ·exact⟨0,4,by omega,by omega,by omega⟩
 ·exact⟨0,5,by omega,by omega,by omega⟩
 ·exact⟨1,2,by omega,by omega,by omega⟩
 ·exact⟨1,3,by omega,by omega,by omega⟩
 ·exact⟨1,4,by omega,by omega,by omega⟩
 ·exact⟨1,5,by omega,by omega,by omega⟩
 ·exact⟨2,3,by omega,by omega,by omega⟩
 ·exact⟨2,4,by omega,by omega,by omega⟩
 ·exact⟨2,5,by omega,by omega,by omega⟩
 ·exact⟨3,4,by omega,by omega,by omega⟩
 ·exact⟨3,5,by omega,by omega,by omega⟩
 ·exact⟨4,5,by omega,by omega,by omega⟩
theorem DJ{C:List Cn}{F:List (List Int)}(hw:WG C F){V Y:List Int}{L:Int→Nat}{k:Nat}{td:List Int}(h:Why C (V,Y,[]) L k td){r:Int}(hr:0≤r∧r<5)(hL:6≤L r):
  (∀j,j≤5→Leads C Y (parN C Y j r))∧∃m,1≤m∧m≤5∧parN C Y m (parN C Y 5 r)=parN C Y 5 r∧∀j,j<m→Leads C Y (parN C Y j (parN C Y 5 r)):=by
 have step:∀x,0≤x∧x<5→1≤L x→Leads C Y x∧L x≤L (par C Y x)+1:=fun x hx h1=>by
  obtain⟨w0,w1,w2,w3⟩:=h.why x hx.1 hx.2 h1
  have hb:=hw.b5 _ w0 w1
  exact⟨⟨hx.1,hx.2,w0,w1,hb.1,hb.2⟩,w3⟩
 have all:∀j,j≤5→(0≤parN C Y j r∧parN C Y j r<5)∧6≤L (parN C Y j r)+j:=by
  intro j
  induction j with
  |zero=>intro _;exact⟨hr,hL⟩
  |succ j ih=>
   intro hj
   obtain⟨i1,i2⟩:=ih (by omega)
   obtain⟨l1,l2⟩:=step _ i1 (by omega)
   refine⟨⟨l1.2.2.2.2.1,l1.2.2.2.2.2⟩,?_⟩
   show 6≤L (par C Y (parN C Y j r))+(j+1)
   omega
 have ld:∀j,j≤5→Leads C Y (parN C Y j r):=fun j hj=>(step _ (all j hj).1 (by have:=(all j hj).2;omega)).1
 refine⟨ld,?_⟩
 obtain⟨i,j,hij,hj,he⟩:=JK (g:=fun j=>parN C Y j r) fun j hj=>(all j hj).1
 have hm:parN C Y (5-(j-i)) r=parN C Y 5 r:=by
  rw[show 5-(j-i)=(5-j)+i by omega,jY,he,←jY]
  congr 1;omega
 refine⟨j-i,by omega,by omega,?_,fun q hq=>?_⟩
 ·rw[←hm,←jY,show j-i+(5-(j-i))=5 by omega,hm]
 ·rw[←hm,←jY]
  exact ld _ (by omega)
def bkL(C:List Cn)(Y:List Int)(to:Int):Nat→Int→List Int
 |0,_=>[]
 |f+1,v=>vD Y v::if par C Y v=to then[]else bkL C Y to f (par C Y v)
theorem xN{C:List Cn}{Y:List Int}{to:Int}:∀f v,(bkL C Y to f v).length≤f
 |0,_=>Nat.le_refl _
 |f+1,v=>by
  rw[bkL,List.length_cons]
  split
  ·simp
  ·exact Nat.succ_le_succ (xN f _)
end Go.Proofs.YtllgjognpobnpaaGreatDoor

namespace Go.Proofs.YtllgjognpobnpaaGreatDoor
open Go.RowKit Go.Ab
attribute [local irreducible] AWP Go.Ab.Sub Means MeansH CallK CallG CallT CallGT PanicH DefH CallU
def FF:List (List Int):=[[0],[3,4],[1,2,5,7],[6],[8,9]]
def gS:Nat→Nat
 |0=>10
 |1=>9
 |2=>7
 |3=>3
 |4=>2
 |_=>0
def revK(L:List Int):Nat→List Int
 |0=>L
 |k+1=>((revK L k).set k ((revK L k).getD (L.length-1-k) 0)).set (L.length-1-k) ((revK L k).getD k 0)
@[simp] theorem tJ(L:List Int):∀k,(revK L k).length=L.length
  |0=>rfl
  |k+1=>by simp[revK,tJ L k]
theorem JB(L:List Int)(hl:L.length≤100000):MeansH Tryz.prog 107 [rowI L] [.ow 0] (.tup []) [rowI (revK L (L.length/2))]:=by
 have w1:=w64 (x:=(L.length:Int)-1) (by omega) (by omega)
 refine yN 1 28 [] [0,2,3,9,1000000] Tryz.func107 fun X hX=>?_
 (repeat(refine yB ?_;(simp[go_sem,w1])))
 refine aG (fun k:Nat=>⟨mkE [(0,.ow 0),(2,ii k),(3,ii ((L.length:Int)-1-k)),(1000000,.ow 0)],[rowI (revK L k)]⟩) (fun k=>k≤L.length/2) (fun k=>L.length-k) 0 ?_ ?_ ?_
 ·refine yS _ [.old 0 ⟨3,1,(L).map ii⟩] ?_
  simp[go_sem,revK]
 ·exact Nat.zero_le _
 rintro k hk
 have wk:=w64 (x:=(k:Int)+1) (by omega) (by omega)
 (repeat(refine yB ?_;(simp[go_sem])))
 refine yC (decide ((k:Int)<(L.length:Int)-1-k)) (fun hc=>?_) fun hc=>?_
 rotate_left
 ·simp only[decide_eq_false_iff_not]at hc
  have e:k=L.length/2:=by omega
  subst e
  (repeat(refine yB ?_;(simp[go_sem])))
  refine cC [(1000000,.ow 0)] [.old 0 ⟨3,1,(revK L (L.length/2)).map ii⟩] ?_
  simp[go_sem]
 simp only[decide_eq_true_eq]at hc
 obtain⟨j,hj⟩:∃j:Nat,L.length=j+1+k:=⟨L.length-1-k,by omega⟩
 have ej:(L.length:Int)-1-k=j:=by omega
 have ej2:L.length-1-k=j:=by omega
 have wj:=w64 (x:=(j:Int)-1) (by omega) (by omega)
 have hlen:=tJ L k
 have hne:k≠j:=by omega
 have hnx:revK L (k+1)=((revK L k).set k ((revK L k).getD j 0)).set j ((revK L k).getD k 0):=by rw[revK,ej2]
 rw[ej]
 generalize revK L k=D at hnx hlen⊢
 have hp1:k<D.length:=by omega
 have hp2:j<D.length:=by omega
 rw[gD hp1,gD hp2]at hnx
 have hzs:zoneEs (((D.map ii).set k (ii D[j])).set j (ii D[k]))=true:=by
  rw[←List.map_set,←List.map_set];exact dI _ _ (fun _=>rfl)
 have hns:nth ((D.map ii).set k (ii D[j])) j=ii D[j]:=by
  rw[←List.map_set,cG ii (by simpa using hp2),List.getElem_set_ne (by omega)]
 (repeat(refine yB ?_;(simp[go_sem,hp1,hp2,hzs,hns,wk,wj];try(refine⟨by kernel_rfl,?_⟩))))
 refine⟨k+1,by omega,by omega,?_⟩
 rw[hnx]
 have ek:(L.length:Int)-1-((k+1:Nat):Int)=j-1:=by omega
 rw[ek]
 refine yS _ [.old 0 ⟨3,1,((D.set k D[j]).set j D[k]).map ii⟩] ?_
 simp[go_sem]
set_option maxRecDepth 20000 in
theorem IF(C:List Cn)(F:List (List Int))(hC:C.length≤2000)(V Y:List Int)(hY:Y.length=5)(v:Int)(m:Nat)(hm1:1≤m)(hm5:m≤5)(hm:parN C Y m v=v)(hld:∀j,j<m→Leads C Y (parN C Y j v)):
  MeansH Tryz.prog 56 [.row ⟨137,5,[.agg [.sl (C.map cn),.sl (F.map il),.ow 1,.ow 2,.ow 3]]⟩,rowI V,rowI Y,.row ⟨4,1,[bb true,bb true,bb true,bb true,bb true]⟩] [.el 0 5 0 0,ii v,ii v] (il (revK (bkL C Y v m v) ((bkL C Y v m v).length/2))) [.row ⟨137,5,[.agg [.sl (C.map cn),.sl (F.map il),.ow 1,.ow 2,.ow 3]]⟩,rowI V,rowI Y,.row ⟨4,1,[bb true,bb true,bb true,bb true,bb true]⟩]:=by
 have hle:(bkL C Y v m v).length≤5:=Nat.le_trans (xN m v) hm5
 generalize hB:bkL C Y v m v=B at hle⊢
 have c1:=JB B (by omega)
 refine yN 4 42 [.tmp 6] [0,1,2,6,7,8,14,1000000,1000001,1000002,1000003] Tryz.func56 fun X hX=>?_
 (repeat(refine yB ?_;(simp[go_sem])))
 refine aG (fun(q:Nat×List Int×Int)=>⟨mkE [(0,.el 0 5 0 0),(1,ii q.2.2),(2,ii v),(7,.ow 4),(8,bb (decide (q.1=0))),(1000000,.ow 0),(1000001,.ow 1),(1000002,.ow 2),(1000003,.ow 3)],[.row ⟨137,5,[.agg [.sl (C.map cn),.sl (F.map il),.ow 1,.ow 2,.ow 3]]⟩,rowI V,rowI Y,.row ⟨4,1,[bb true,bb true,bb true,bb true,bb true]⟩,rowI q.2.1]⟩)
  (fun q=>q.1≤m∧q.2.2=parN C Y q.1 v∧q.2.1.length≤q.1∧B=q.2.1++(if q.1≠0∧q.2.2=v then[]else bkL C Y v (m-q.1) q.2.2)) (fun q=>m-q.1) (0,[],v) ?_ ?_ ?_
 ·refine yS _ [.old 0 ⟨137,5,[.agg [.sl (C.map cn),.sl (F.map il),.ow 1,.ow 2,.ow 3]]⟩,.old 1 ⟨3,1,(V).map ii⟩,.old 2 ⟨3,1,(Y).map ii⟩,.old 3 ⟨4,1,[bb true,bb true,bb true,bb true,bb true]⟩,.birth 3 1] ?_
  simp[go_sem]
 ·exact⟨Nat.zero_le _,rfl,Nat.zero_le _,by simp[hB]⟩
 rintro⟨k,O,x⟩ ⟨k1,k2,k3,k4⟩
 simp only[]at k1 k2 k3 k4⊢
 (repeat(refine yB ?_;(simp[go_sem])))
 refine yC (decide (k=0∨x≠v)) (fun hc=>?_) fun hc=>?_
 rotate_left
 ·simp at hc
  have hk4:B=O:=by rw[k4,if_pos ⟨hc.1,hc.2⟩,List.append_nil]
  subst hk4
  (repeat(refine yB ?_;(simp[go_sem])))
  refine yH [4] c1 ?_
  simp[go_sem]
  (repeat(refine yB ?_;(simp[go_sem])))
  refine aB ?_;refine aA [(6,il (revK B (B.length/2))),(1000000,.ow 0),(1000001,.ow 1),(1000002,.ow 2),(1000003,.ow 3)] [.old 0 ⟨137,5,[.agg [.sl (C.map cn),.sl (F.map il),.ow 1,.ow 2,.ow 3]]⟩,.old 1 ⟨3,1,(V).map ii⟩,.old 2 ⟨3,1,(Y).map ii⟩,.old 3 ⟨4,1,[bb true,bb true,bb true,bb true,bb true]⟩] ?_
  simp[go_sem]
 simp only[decide_eq_true_eq]at hc
 have hkm:k<m:=by
  rcases Nat.lt_or_ge k m with h|h
  ·exact h
  ·have e:k=m:=by omega
   subst e
   rcases hc with h|h
   ·omega
   ·exact absurd (k2.trans hm) h
 obtain⟨l1,l2,l3,l4,l5,l6⟩:=hld k hkm
 rw[←k2]at l1 l2 l3 l4 l5 l6
 rw[if_neg (by omega),show m-k=(m-(k+1))+1 by omega,bkL]at k4
 have k2':par C Y x=parN C Y (k+1) v:=by rw[k2];rfl
 obtain⟨xn,rfl⟩:∃n:Nat,x=n:=⟨x.toNat,by omega⟩
 have hxn:xn<Y.length:=by omega
 have hvd:vD Y xn=Y[xn]:=by unfold vD;rw[Int.toNat_natCast,gD hxn]
 obtain⟨iN,hiN⟩:∃n:Nat,Y[xn]=n:=⟨Y[xn].toNat,by omega⟩
 rw[hvd,hiN]at l3 l4 k4
 have hi:iN<C.length:=by omega
 obtain⟨⟨ca,cb,cc⟩,hc0⟩:∃c,C[iN]=c:=⟨_,rfl⟩
 have hpar:par C Y xn=cb:=by unfold par cI;rw[hvd,hiN,Int.toNat_natCast,cD hi,hc0]
 rw[hpar]at k2' k4
 (repeat(refine yB ?_;(simp[go_sem,hxn,hiN,hi,hc0])))
 refine⟨⟨by omega,by unfold maxLen;omega⟩,?_⟩
 (repeat(refine yB ?_;(simp[go_sem,hxn,hiN,hi,hc0];try(refine⟨by kernel_rfl,?_⟩))))
 (repeat refine And.intro (by first|omega|(rw[bA];omega)|kernel_rfl|grind) ?_)
 refine⟨k+1,O++[(iN:Int)],cb,⟨by omega,k2',by simp;omega,?_⟩,by omega,?_⟩
 ·rw[k4];simp
 ·refine yS _ [.old 0 ⟨137,5,[.agg [.sl (C.map cn),.sl (F.map il),.ow 1,.ow 2,.ow 3]]⟩,.old 1 ⟨3,1,(V).map ii⟩,.old 2 ⟨3,1,(Y).map ii⟩,.old 3 ⟨4,1,[bb true,bb true,bb true,bb true,bb true]⟩,.old 6 ⟨3,1,(O++[(iN:Int)]).map ii⟩] ?_
  simp[go_sem]
theorem DK:∀(l:List Int) (a:Nat),l.Pairwise (· < ·)→(∀v∈l,(a:Int)≤v∧v<5)→cntF FF l≤gS a
 | [],a,_,_=>Nat.zero_le _
 |x::l,a,hp,hr=>by
  rw[List.pairwise_cons]at hp
  have hx:=hr x (by simp)
  obtain⟨xn,rfl⟩:∃n:Nat,x=n:=⟨x.toNat,by omega⟩
  have ih:=DK l (xn+1) hp.2 fun v hv=>by have:=hp.1 v hv;have:=hr v (by simp[hv]);omega
  have e:cntF FF ((xn:Int)::l)=(FF.getD xn []).length+cntF FF l:=by unfold cntF;rw[List.map_cons,List.sum_cons,Int.toNat_natCast]
  rw[e]
  have h1:(FF.getD xn []).length+gS (xn+1)≤gS a:=by
   have hx5:xn<5:=by omega
   have hax:a≤xn:=by omega
   revert hax
   revert a
   have:∀x<5,∀a,a≤x→(FF.getD x []).length+gS (x+1)≤gS a:=by decide
   intro a _ _ h
   exact this xn hx5 a (by omega)
  omega
theorem G5(p w g:Int)(hp:1≤p∧p≤1000)(hw:0≤w∧w≤1000)(hg:0≤g∧g≤1000):WG (calL p w g) FF:=by
 have hi:∀i:Int,0≤i→i<(calL p w g).length→i=0∨i=1∨i=2∨i=3∨i=4∨i=5∨i=6∨i=7∨i=8∨i=9:=fun i h0 h1=>by
  simp[calL]at h1;omega
 refine⟨⟨rfl,by simp[calL],fun c hc=>?_,fun c hc=>?_,fun l hl i hi=>?_,fun l hl=>?_⟩,fun i h0 h1=>?_,fun v h0 h1 i hiv=>?_,fun i h0 h1=>?_⟩
 ·simp[calL]at hc
  rcases hc with rfl|rfl|rfl|rfl|rfl|rfl|rfl|rfl|rfl|rfl<;>simp
 ·simp[calL]at hc
  rcases hc with rfl|rfl|rfl|rfl|rfl|rfl|rfl|rfl|rfl|rfl<;>simp<;>omega
 ·simp[FF]at hl
  have e:(calL p w g).length=10:=rfl
  rw[e]
  rcases hl with rfl|rfl|rfl|rfl|rfl<;>simp at hi<;>omega
 ·have:=DK l 0 hl.1 (fun v hv=>hl.2 v hv)
  exact Nat.le_trans this (by decide)
 ·rcases hi i h0 h1 with rfl|rfl|rfl|rfl|rfl|rfl|rfl|rfl|rfl|rfl<;>simp[cI,calL]
 ·have e:(calL p w g).length=10:=rfl
  rw[e]
  have hv:v=0∨v=1∨v=2∨v=3∨v=4:=by omega
  rcases hv with rfl|rfl|rfl|rfl|rfl<;>simp[FF]at hiv<;>(try rcases hiv with rfl|rfl|rfl|rfl)<;>(try rcases hiv with rfl|rfl)<;>(try subst hiv)<;>simp[cI,calL]
 ·rcases hi i h0 h1 with rfl|rfl|rfl|rfl|rfl|rfl|rfl|rfl|rfl|rfl<;>simp[cI,calL,FF]
theorem DL{C:List Cn}{F:List (List Int)}(hw:WG C F):let R:=runM C F 6 [0,0,0,0,0] [-1,-1,-1,-1,-1] [0,1,2,3,4]
  (R.1= -1∧(∀i:Int,0≤i→i<C.length→Sat C R.2.1 i))∨
  (0≤R.1∧R.1<5∧∃L' td,Why C (R.2.1,R.2.2,[]) L' 7 td∧7≤L' R.1+1):=by
 refine tI hw 6 1 _ _ _ (fun _=>0) (Nat.le_refl _) ⟨by decide,by decide⟩ (by decide) ⟨rfl,rfl,fun _=>by omega,fun x _ _ h=>by simp at h,fun v _=>by omega,fun x h=>by simp at h⟩ fun i h0 h1=>.inr (.inr (.inl ?_))
 have:=hw.b5 i h0 h1
 simp
 omega
def solvE(C:List Cn)(F:List (List Int)):Int:=if(runM C F 6 [0,0,0,0,0] [-1,-1,-1,-1,-1] [0,1,2,3,4]).1= -1 then 0 else 23
set_option maxRecDepth 20000 in
theorem G6(C:List Cn)(F:List (List Int))(hw:WG C F)(z y t:List Int)(hz:z=[0,0,0,0,0])(hy:y=[-1,-1,-1,-1,-1])(ht:t=[0,1,2,3,4])
  (c0:Means true Tryz.prog 52 [.sl (C.map cn),ii 5] (bb true))
  (c2:MeansH Tryz.prog 53 [] [.sl (C.map cn),ii 5,il t] (.el 0 5 0 0) [.row ⟨137,5,[.agg [.sl (C.map cn),.sl (F.map il),.ow 1,.ow 2,.ow 3]]⟩,rowI z,rowI y,.row ⟨4,1,[bb true,bb true,bb true,bb true,bb true]⟩]):
  ∃l1 l2:List Int,Means false Tryz.prog 22 [.sl (C.map cn),ii 5] (.tup [il l1,il l2,ii (solvE C F)]):=by
 have c1:=E9 5 (by omega)
 have e5:rngI 5=t:=by rw[ht];decide
 rw[e5]at c1
 have c1:Means true Tryz.prog 54 [ii 5] (il t):=c1
 have hC:=hw.toWF.C10
 have c3:=JA C F hw.toWF z y t (by rw[hz];rfl) (by rw[hy];rfl) (by rw[hz];simp) (by rw[ht];exact⟨by decide,by decide⟩) (by rw[ht];decide)
 have hinv:=DL hw
 unfold solvE
 rw[←hz,←hy,←ht]at hinv⊢
 generalize runM C F 6 z y t=R at c3 hinv⊢
 obtain⟨r,V,Y⟩:=R
 simp only[]at c3 hinv⊢
 rcases hinv with⟨rfl,_⟩|⟨r0,r5,L',td,hW,hL⟩
 ·refine⟨V,[],?_⟩
  rw[if_pos rfl]
  refine yM false 47 [.tmp 4,.tmp 5,.tmp 6] [0,1,4,5,6,7,8,12,23,28,29,30] Tryz.func22 fun X hX=>?_
  (repeat(refine yA ?_;(simp[go_sem])))
  refine aD c0 ?_
  simp[go_sem]
  refine yF ?_
  (repeat(refine yA ?_;(simp[go_sem])))
  refine aD c1 ?_
  simp[go_sem]
  refine yH [] c2 ?_
  simp[go_sem]
  (repeat(refine yA ?_;(simp[go_sem])))
  refine aD c1 ?_
  simp[go_sem]
  refine yH [0,1,2,3] c3 ?_
  simp[go_sem]
  (repeat(refine yA ?_;(simp[go_sem])))
  refine yT ?_
  (repeat(refine yA ?_;(simp[go_sem])))
 ·have hly:Y.length=5:=hW.ly
  obtain⟨ld,m,hm1,hm5,hmv,hml⟩:=DJ hw hW ⟨r0,r5⟩ (by omega)
  have c4:=IF C F hC V Y hly (parN C Y 5 r) m hm1 hm5 hmv hml
  generalize revK (bkL C Y (parN C Y 5 r) m (parN C Y 5 r)) _=B at c4
  refine⟨[],B,?_⟩
  rw[if_neg (by omega)]
  refine yM false 47 [.tmp 4,.tmp 5,.tmp 6] [0,1,4,5,6,7,8,12,23,28,29,30] Tryz.func22 fun X hX=>?_
  (repeat(refine yA ?_;(simp[go_sem])))
  refine aD c0 ?_
  simp[go_sem]
  refine yF ?_
  (repeat(refine yA ?_;(simp[go_sem])))
  refine aD c1 ?_
  simp[go_sem]
  refine yH [] c2 ?_
  simp[go_sem]
  (repeat(refine yA ?_;(simp[go_sem])))
  refine aD c1 ?_
  simp[go_sem]
  refine yH [0,1,2,3] c3 ?_
  simp[go_sem]
  (repeat(refine yA ?_;(simp[go_sem])))
  refine yF ?_ (by simp[go_sem];omega)
  (repeat(refine yA ?_;(simp[go_sem])))
  refine aG (fun k:Nat=>⟨mkE [(0,.sl (C.map cn)),(7,.el 0 5 0 0),(8,ii (parN C Y k r)),(28,ii 5),(29,ii k)],[.row ⟨137,5,[.agg [.sl (C.map cn),.sl (F.map il),.ow 1,.ow 2,.ow 3]]⟩,rowI V,rowI Y,.row ⟨4,1,[bb true,bb true,bb true,bb true,bb true]⟩]⟩) (fun k=>k≤5) (fun k=>5-k) 0 ?_ ?_ ?_
  ·refine yS _ [.old 0 ⟨137,5,[.agg [.sl (C.map cn),.sl (F.map il),.ow 1,.ow 2,.ow 3]]⟩,.old 1 ⟨3,1,(V).map ii⟩,.old 2 ⟨3,1,(Y).map ii⟩,.old 3 ⟨4,1,[bb true,bb true,bb true,bb true,bb true]⟩] ?_
   simp[go_sem,parN]
  ·exact Nat.zero_le _
  intro k hk
  have wk:=w64 (x:=(k:Int)+1) (by omega) (by omega)
  (repeat(refine yA ?_;(simp[go_sem])))
  refine yC (decide (k<5)) (fun hc=>?_) (fun hc=>?_) (by simp[go_sem];try omega)
  ·simp only[decide_eq_true_eq]at hc
   obtain⟨l1,l2,l3,l4,l5,l6⟩:=ld k hk
   have hps:parN C Y (k+1) r=par C Y (parN C Y k r):=rfl
   generalize parN C Y k r=x at hps l1 l2 l3 l4 l5 l6⊢
   obtain⟨xn,rfl⟩:∃n:Nat,x=n:=⟨x.toNat,by omega⟩
   have hxn:xn<Y.length:=by omega
   have hvd:vD Y xn=Y[xn]:=by unfold vD;rw[Int.toNat_natCast,gD hxn]
   obtain⟨iN,hiN⟩:∃n:Nat,Y[xn]=n:=⟨Y[xn].toNat,by omega⟩
   rw[hvd,hiN]at l3 l4
   have hi:iN<C.length:=by omega
   obtain⟨⟨ca,cb,cc⟩,hc0⟩:∃c,C[iN]=c:=⟨_,rfl⟩
   have hpar:par C Y xn=cb:=by unfold par cI;rw[hvd,hiN,Int.toNat_natCast,cD hi,hc0]
   rw[hpar]at hps
   (repeat(refine yA ?_;(simp[go_sem,hxn,hiN,hi,hc0,wk])))
   refine⟨k+1,by omega,by omega,?_⟩
   rw[hps]
   refine yS _ [.old 0 ⟨137,5,[.agg [.sl (C.map cn),.sl (F.map il),.ow 1,.ow 2,.ow 3]]⟩,.old 1 ⟨3,1,(V).map ii⟩,.old 2 ⟨3,1,(Y).map ii⟩,.old 3 ⟨4,1,[bb true,bb true,bb true,bb true,bb true]⟩] ?_
   simp[go_sem]
  ·simp only[decide_eq_false_iff_not]at hc
   have e:k=5:=by omega
   subst e
   (repeat(refine yA ?_;(simp[go_sem])))
   refine yH [0,1,2,3] c4 ?_
   simp[go_sem]
   (repeat(refine yA ?_;(simp[go_sem])))
set_option maxRecDepth 20000 in
theorem pY(p w g:Int)(hp:1≤p∧p≤1000)(hw:0≤w∧w≤1000)(hg:0≤g∧g≤1000):
  ∃l1 l2:List Int,Means false Tryz.prog 22 [.sl ((calL p w g).map cn),ii 5] (.tup [il l1,il l2,ii (solvE (calL p w g) FF)]):=by
 refine G6 (calL p w g) FF (G5 p w g hp hw hg) _ _ _ rfl rfl rfl (AI _ 5 (by omega) (by simp[calL]) ?_) (rT (p-1) (1-p) (1-w) (w-1) 0 g (-g) p (-p) 0)
 intro c hc
 simp[calL]at hc
 rcases hc with rfl|rfl|rfl|rfl|rfl|rfl|rfl|rfl|rfl|rfl<;>simp[okC]<;>omega
end Go.Proofs.YtllgjognpobnpaaGreatDoor

namespace Go.Proofs.YtllgjognpobnpaaGreatDoor
open Go.RowKit Go.Ab
attribute [local irreducible] AWP Go.Ab.Sub Means MeansH CallK CallG CallT CallGT PanicH DefH CallU
theorem G7(n:Int)(h:0≤n∧n≤1048576):Means true Tryz.prog 82 [ii n] (bb false):=by
 have h1:¬n<0:=by omega
 have h2:¬1048576<n:=by omega
 refine yM true 9 [.tmp 2] [0,2] Tryz.func82 fun X hX=>?_
 (repeat(refine yA ?_;(simp[go_sem,h1,h2])))
theorem IH(l:List Int)(hl:l.length≤100)(h:∀n∈l,0≤n∧n≤1048576):Means true Tryz.prog 39 [il l] (bb true):=by
 have c1:=AH 82 (fun _=>false) l (by omega) (fun x hx=>G7 x (h x hx)) (by simp[go_sem])
 have hany:(l.any fun _=>false)=false:=by simp
 rw[hany]at c1
 refine yM true 6 [.tmp 2] [0,2] Tryz.func39 fun X hX=>?_
 (repeat(refine yA ?_;(simp[go_sem])))
 refine aD c1 ?_
 simp[go_sem]
 (repeat(refine yA ?_;(simp[go_sem])))
abbrev rcl:AV:=.v (.func (.func 131) #[] #[])
theorem II:Means true Tryz.prog 183 [.sl [],ii 0,ii 0,rcl] (.tup []):=by
 have w:IntKind.i64.wrap 1=1:=by decide
 refine yM true 53 [] [0,1,2,3,8,9,14,34] Tryz.func183 fun X hX=>?_
 (repeat(refine yA ?_;(simp[go_sem,w])))
 refine aG (fun n:Nat=>⟨mkE [(0,.sl []),(1,ii 0),(2,ii 0),(3,rcl),(8,ii 1)],[]⟩) (fun n=>n=0) (fun n=>0) 0 ?_ ?_ ?_
 ·refine yS _ [] ?_
  simp[go_sem]
 ·rfl
 rintro n-
 (repeat(refine yA ?_;(simp[go_sem])))
 refine a8 (by simp[go_sem]) ?_
 (repeat(refine yA ?_;(simp[go_sem])))
theorem G8:Means true Tryz.prog 159 [.sl [],ii 0,rcl] (.tup []):=by
 have c1:=II
 refine yM true 63 [] [0,1,2,6,7,8,9,13,30,35,54] Tryz.func159 fun X hX=>?_
 (repeat(refine yA ?_;(simp[go_sem])))
 refine aG (fun n:Nat=>⟨mkE [(0,.sl []),(1,ii 0),(2,rcl),(6,ii 20),(7,ii 0),(8,ii 20)],[]⟩) (fun n=>n=0) (fun n=>0) 0 ?_ ?_ ?_
 ·refine yS _ [] ?_
  simp[go_sem]
 ·rfl
 rintro n-
 (repeat(refine yA ?_;(simp[go_sem])))
 refine a8 (by simp[go_sem]) ?_
 (repeat(refine yA ?_;(simp[go_sem])))
 refine aD c1 ?_
 (repeat(refine yA ?_;(simp[go_sem])))
 refine aG (fun n:Nat=>⟨mkE [(0,.sl []),(1,ii 0),(2,rcl),(6,ii 20)],[]⟩) (fun n=>n=0) (fun n=>0) 0 ?_ ?_ ?_
 ·refine yS _ [] ?_
  simp[go_sem]
 ·rfl
 rintro n-
 (repeat(refine yA ?_;(simp[go_sem])))
 refine a8 (by simp[go_sem]) ?_
 (repeat(refine yA ?_;(simp[go_sem])))
theorem G9:Means true Tryz.prog 130 [.sl [],rcl] (.tup []):=by
 have c1:=G8
 refine yM true 9 [] [0,1] Tryz.func130 fun X hX=>?_
 (repeat(refine yA ?_;(simp[go_sem])))
 refine aD c1 ?_
 simp[go_sem]
abbrev cirV(b:Bl)(f n k j d:Int):AV:=.agg [ii b.kind,ii b.period,ii b.grace,ii b.wait,ii b.last,ii b.order,bb b.sld,ii b.backs,ii b.voices,ii b.jury,ii b.fund,.sl (b.lets.map lt),ii b.due.op,ii b.due.n,ii b.due.u,ss b.due.s,.sl b.due.args,ii b.fine.op,ii b.fine.n,ii b.fine.u,ss b.fine.s,.sl b.fine.args,ii b.pay.op,ii b.pay.n,ii b.pay.u,ss b.pay.s,.sl b.pay.args,ii b.cover.op,ii b.cover.n,ii b.cover.u,ss b.cover.s,.sl b.cover.args,ii b.hold.op,ii b.hold.n,ii b.hold.u,ss b.hold.s,.sl b.hold.args,ii f,ii n,ii k,ii j,.sl [],ii 0,ii 0,.sl [],ii d]
def varV(b:Bl)(n p age late:Int):List (By×Int×Int):=[([109,101,109,98,101,114,115],1,n),([112,101,114,105,111,100],1,p),([108,97,115,116],1,b.last),([97,103,101],2,age),([108,97,116,101],2,late)]
theorem IJ(b:Bl)(f n k j d p age late:Int):Means true Tryz.prog 129 [cirV b f n k j d,ii p,ii age,ii late] (.sl ((varV b n p age late).map v3)):=by
 refine yM true 23 [.tmp 8] [0,1,2,3,4,8] Tryz.func129 fun X hX=>?_
 (repeat(refine yA ?_;(simp[go_sem])))
 rfl
def varS(b:Bl)(n p age late:Int)(s:By):List (By×Int×Int):=if s=[100,117,101]then(varV b n p age late).take 4 else varV b n p age late
def fits(x:Int):Prop:= -1099511627776≤x∧x≤1099511627776
set_option maxRecDepth 20000 in
theorem DM(b:Bl)(h:OkB b)(h0:b.lets=[])(f n k j d p age late:Int)(hn:fits n)(hp:fits p)(ha:fits age)(hl:fits late)(s:By)(e:E)(hs:clE b s=some e)(v:Int)(hv:evD (gOf (varS b n p age late s)) e=some v):
  Means true Tryz.prog 86 [cirV b f n k j d,ss s,ii p,ii age,ii late] (.tup [ii v,ii 0]):=by
 have c1:=IJ b f n k j d p age late
 have hb:=uD hv
 have hla:=h.last
 have hall:∀x∈varV b n p age late,-1099511627776≤x.2.2∧x.2.2≤1099511627776:=by
  unfold fits at*
  intro x hx
  simp only[varV,List.mem_cons,List.not_mem_nil,or_false]at hx
  rcases hx with rfl|rfl|rfl|rfl|rfl
  ·exact hn
  ·exact hp
  ·constructor<;>simp only<;>omega
  ·exact ha
  ·exact hl
 have c2:=AC b h h0 s e hs (varS b n p age late s) v ⟨by unfold varS;split<;>simp[varV],fun x hx=>by
  refine hall x ?_
  unfold varS at hx
  split at hx
  ·exact List.mem_of_mem_take hx
  ·exact hx⟩ hv
 have hm:max v 0=v:=by omega
 have hlen:(varV b n p age late).length=5:=rfl
 have hd:s=[100,117,101]∨s=[102,105,110,101]:=by
  unfold clE at hs
  split at hs
  ·exact .inl (by assumption)
  ·split at hs
   ·exact .inr (by assumption)
   ·cases hs
 clear hs hv
 rcases hd with rfl|rfl
 ·have e1:varS b n p age late [100,117,101]=(varV b n p age late).take 4:=rfl
  rw[e1,List.map_take]at c2
  generalize varV b n p age late=V at*
  refine yM true 35 [.tmp 10,.tmp 11] [0,1,2,3,4,5,10,11,12,13,14,21] Tryz.func86 fun X hX=>?_
  (repeat(refine yA ?_;(simp[go_sem])))
  refine aD c1 ?_
  simp[go_sem]
  (repeat(refine yA ?_;(simp[go_sem,hlen])));(repeat(refine aC ?_ ?_;(focus(simp[go_sem,hlen];done));(repeat(refine yA ?_;(simp[go_sem,hlen])))))
  refine And.intro (fun e x y z _ he=>by subst he;rfl) ?_
  (repeat(refine yA ?_;(simp[go_sem])))
  refine aD c2 ?_
  simp[go_sem]
  (repeat(refine yA ?_;(simp[go_sem,hm])))
 ·have e1:varS b n p age late [102,105,110,101]=varV b n p age late:=rfl
  rw[e1]at c2
  generalize varV b n p age late=V at*
  refine yM true 35 [.tmp 10,.tmp 11] [0,1,2,3,4,5,10,11,12,13,14,21] Tryz.func86 fun X hX=>?_
  (repeat(refine yA ?_;(simp[go_sem])))
  refine aD c1 ?_
  simp[go_sem]
  (repeat(refine yA ?_;(simp[go_sem,hlen])));(repeat(refine a8 ?_ ?_;(focus(simp[go_sem,hlen];done));(repeat(refine yA ?_;(simp[go_sem,hlen])))))
  refine aD c2 ?_
  simp[go_sem]
  (repeat(refine yA ?_;(simp[go_sem,hm])))
theorem A0(b:Bl)(f n k j d p due:Int):Means true Tryz.prog 87 [cirV b f n k j d,ii p,ii due] (.tup [ii 0,ii d]):=by
 have c1:=G9
 refine yM true 91 [.tmp 6,.tmp 7] [0,1,2,3,6,7,8,10,11,12,14,16,17,18,19,55,65,66,67,68,81] Tryz.func87 fun X hX=>?_
 (repeat(refine yA ?_;(simp[go_sem])))
 refine bU 0 ?_
 (repeat(refine yA ?_;(simp[go_sem])));(repeat(refine a8 ?_ ?_;(focus(simp[go_sem];done));(repeat(refine yA ?_;(simp[go_sem])))))
 refine aD c1 ?_
 (repeat(refine yA ?_;(simp[go_sem];try(refine⟨by kernel_rfl,?_⟩))))
 refine bU 0 ?_
 (repeat(refine yA ?_;(simp[go_sem])));(repeat(refine a8 ?_ ?_;(focus(simp[go_sem];done));(repeat(refine yA ?_;(simp[go_sem])))))
abbrev owV(k p due late fine:Int):AV:=.agg [ii k,ii p,ii due,ii 0,ii late,ii fine]
set_option maxHeartbeats 8000000 in
set_option maxRecDepth 20000 in
theorem DN(b:Bl)(h:OkB b)(h0:b.lets=[])(f n k j d p x first late due fine:Int)(hp:0≤p∧p≤1000)(hn:fits n)(hdu:dueV p f b.period b.grace=(x,0))(hbe:beginsV p f b.period=(first,0))(hj:0≤j∧j≤first∧first≤1048576)
  (hv:evD (gOf (varS b n p (first-j) 0 [100,117,101])) b.due=some due) (hd0:0<due) (hla:(lateV d p f b.period b.grace).1=late) (hl0:0≤late∧late≤1048576) (hf:late=0∧fine=0∨0<late∧evD (gOf (varS b n p (first-j) late [102,105,110,101])) b.fine=some fine):
  Means true Tryz.prog 41 [cirV b f n k j d,ii p] (.tup [owV k p due late fine,ii 0]):=by
 have hper:=h.period
 have hgr:=h.grace
 have c1:=GJ p f b.period b.grace (by omega) (by omega) (by omega)
 have c2:=BI p f b.period (by omega) (by omega)
 have c3:=DM b h h0 f n k j d p (first-j) 0 hn (by unfold fits;omega) (by unfold fits;omega) (by unfold fits;omega) [100,117,101] b.due rfl due hv
 have c4:=A0 b f n k j d p due
 have c5:=HN d p f b.period b.grace (by omega) (by omega) (by omega)
 have c6:0<late→_:=fun hlp=>DM b h h0 f n k j d p (first-j) late hn (by unfold fits;omega) (by unfold fits;omega) (by unfold fits;omega) [102,105,110,101] b.fine rfl fine (by
  rcases hf with hf|hf
  ·omega
  ·exact hf.2)
 rw[hdu]at c1
 rw[hbe]at c2
 simp only[t2,hla]at c1 c2 c5
 generalize(lateV d p f b.period b.grace).2=le at c5
 have w1:=w64 (x:=first-j) (by omega) (by omega)
 have m1:max (first-j) 0=first-j:=by omega
 clear hdu hbe hv hla
 refine yM true 111 [.cell 4 68,.tmp 5] [0,1,2,4,5,6,8,9,10,11,12,13,33,47,65,80,98] Tryz.func41 fun X hX=>?_
 (repeat(refine yA ?_;(simp[go_sem])))
 refine aD c1 ?_
 simp[go_sem]
 (repeat(refine yA ?_;(simp[go_sem])));(repeat(refine a8 ?_ ?_;(focus(simp[go_sem];done));(repeat(refine yA ?_;(simp[go_sem])))))
 refine aD c2 ?_
 simp[go_sem]
 (repeat(refine yA ?_;(simp[go_sem,w1,m1])));(repeat(refine a8 ?_ ?_;(focus(simp[go_sem,w1,m1];done));(repeat(refine yA ?_;(simp[go_sem,w1,m1])))))
 refine aD c3 ?_
 simp[go_sem]
 (repeat(refine yA ?_;(simp[go_sem])));(repeat(refine a8 ?_ ?_;(focus(simp[go_sem];done));(repeat(refine yA ?_;(simp[go_sem])))))
 refine aD c4 ?_
 simp[go_sem]
 (repeat(refine yA ?_;(simp[go_sem,hd0])));(repeat(refine aC ?_ ?_;(focus(simp[go_sem,hd0];done));(repeat(refine yA ?_;(simp[go_sem,hd0])))))
 refine aD c5 ?_
 simp[go_sem]
 by_cases hlp:0<late
 ·have c6:=c6 hlp
  (repeat(refine yA ?_;(simp[go_sem,hlp])));(repeat(refine aC ?_ ?_;(focus(simp[go_sem,hlp];done));(repeat(refine yA ?_;(simp[go_sem,hlp])))))
  refine aD c6 ?_
  simp[go_sem]
  (repeat(refine yA ?_;(simp[go_sem])))
 ·have e1:late=0∧fine=0:=by
   rcases hf with hf|hf
   ·exact hf
   ·omega
  obtain⟨rfl,rfl⟩:=e1
  (repeat(refine yA ?_;(simp[go_sem])));(repeat(refine a8 ?_ ?_;(focus(simp[go_sem];done));(repeat(refine yA ?_;(simp[go_sem])))))
set_option maxHeartbeats 8000000 in
set_option maxRecDepth 20000 in
theorem I6(b:Bl)(h:OkB b)(h0:b.lets=[])(hper:b.period=7)(hgr:b.grace=2)(hlast:b.last=3)(hdue:b.due=.bin 4 (.num 10 3) (.nam [109,101,109,98,101,114,115]))(hfine:b.fine=.bin 4 (.num 1 3) (.bin 5 (.nam [108,97,116,101]) (.num 1 2))):
  Means true Tryz.prog 15 [bl b,ii 0,ii 2,.agg [ii 1,ii 0,.sl [],ii 0,ii 0],.sl [],ii 10] (.tup [.sl [owV 1 0 20 2 2,owV 1 1 20 0 0],ii 0]):=by
 have c1:=eK b h
 have c2:=IH [0,10,0] (by simp) (by simp)
 have c3:=s4 0 0 b.period (by omega)
 have c4:=s4 10 0 b.period (by omega)
 have c5:=DN b h h0 0 2 1 0 10 0 8 0 2 20 2 (by omega) (by unfold fits;omega) (by rw[hper,hgr];decide) (by rw[hper];decide) (by omega) (by rw[hdue];simp only[varS,varV,hlast];decide+kernel) (by omega) (by rw[hper,hgr];decide) (by omega) (.inr ⟨by omega,by rw[hfine];simp only[varS,varV,hlast];decide+kernel⟩)
 have c6:=DN b h h0 0 2 1 0 10 1 15 7 0 20 0 (by omega) (by unfold fits;omega) (by rw[hper,hgr];decide) (by rw[hper];decide) (by omega) (by rw[hdue];simp only[varS,varV,hlast];decide+kernel) (by omega) (by rw[hper,hgr];decide) (by omega) (.inl ⟨rfl,rfl⟩)
 rw[hper,show periodV 0 0 7=(0,0) from by decide]at c3
 rw[hper,show periodV 10 0 7=(1,0) from by decide]at c4
 simp only[t2]at c3 c4
 simp only[cirV,hper,hlast]at c5 c6
 have w1:IntKind.i64.wrap 1=1:=by decide
 have w2:IntKind.i64.wrap 2=2:=by decide
 have m0:max (0:Int) 0=0:=by decide
 have m1:min (1:Int) 2=1:=by decide
 refine yM true 95 [.tmp 12,.tmp 13] [0,1,2,3,4,5,6,9,12,13,14,15,17,18,19,20,21,22,42,70,78,88] Tryz.func15 fun X hX=>?_
 (repeat(refine yA ?_;(simp[go_sem])))
 refine aD c1 ?_
 simp[go_sem]
 refine aI (fun hg=>c2) ?_
 simp[go_sem]
 (repeat(refine a8 ?_ ?_;(focus(simp[go_sem,hper,m0];done));(repeat(refine yA ?_;(simp[go_sem,hper,m0])))))
 refine aD c3 ?_
 simp[go_sem]
 (repeat(refine yA ?_;(simp[go_sem,hper])))
 refine aD c4 ?_
 simp[go_sem]
 (repeat(refine yA ?_;(simp[go_sem])));(repeat(refine a8 ?_ ?_;(focus(simp[go_sem];done));(repeat(refine yA ?_;(simp[go_sem])))))
 refine bU 2 ?_
 (repeat(refine yA ?_;(simp[go_sem,hlast,w2,m1])));(repeat(refine aC ?_ ?_;(focus(simp[go_sem,hlast,w2,m1];done));(repeat(refine yA ?_;(simp[go_sem,hlast,w2,m1])))))
 refine aD c5 ?_
 simp[go_sem]
 (repeat(refine yA ?_;(simp[go_sem,hlast,w1,w2,m1])));(repeat(refine a8 ?_ ?_;(focus(simp[go_sem,hlast,w1,w2,m1];done));(repeat(refine yA ?_;(simp[go_sem,hlast,w1,w2,m1])))))
 refine⟨by unfold maxLen;omega,?_⟩
 (repeat(refine yA ?_;(simp[go_sem,hlast,w1,w2,m1])));(repeat(refine aC ?_ ?_;(focus(simp[go_sem,hlast,w1,w2,m1];done));(repeat(refine yA ?_;(simp[go_sem,hlast,w1,w2,m1])))))
 refine aD c6 ?_
 simp[go_sem]
 (repeat(refine yA ?_;(simp[go_sem,hlast,w1,w2,m1])));(repeat(refine a8 ?_ ?_;(focus(simp[go_sem,hlast,w1,w2,m1];done));(repeat(refine yA ?_;(simp[go_sem,hlast,w1,w2,m1])))))
 refine⟨by unfold maxLen;omega,?_⟩
 (repeat(refine yA ?_;(simp[go_sem,hlast,w1,w2,m1])));(repeat(refine a8 ?_ ?_;(focus(simp[go_sem,hlast,w1,w2,m1];done));(repeat(refine yA ?_;(simp[go_sem,hlast,w1,w2,m1])))))
end Go.Proofs.YtllgjognpobnpaaGreatDoor

namespace Go.Proofs.YtllgjognpobnpaaGreatDoor
open Go.RowKit Go.Ab
attribute [local irreducible] AWP Go.Ab.Sub Means MeansH CallK CallG CallT CallGT PanicH PanicX DefH CallU
def bnd(n:Int):Prop:= -1099511627776≤n∧n≤1099511627776
abbrev faultV(e:Int):Value:=.iface 270 (.agg #[.int .i64 e])
def outV:Int ⊕ Int→Value ⊕ AV
 | .inl e=>.inl (faultV e)
 | .inr v=>.inr (ii v)
@[go_sem] theorem qK(e:Int):outV (.inl e)=.inl (faultV e):=rfl
@[go_sem] theorem F1(v:Int):outV (.inr v)=.inr (ii v):=rfl
def okO:Int ⊕ Int→Prop
 | .inl _=>True
 | .inr v=>bnd v
set_option maxRecDepth 20000 in
theorem BW(n:Int)(h:bnd n):MeansH Tryz.prog 197 [] [ii n] (ii n) []:=by
 have h1:¬1099511627776<n:=by unfold bnd at h;omega
 have h2:¬n< -1099511627776:=by unfold bnd at h;omega
 refine yN 0 12 [.tmp 2] [0,2,8] Tryz.func197 fun X hX=>?_
 (repeat(refine yB ?_;(simp[go_sem,h1,h2])));(repeat(refine a8 ?_ ?_;(focus(simp[go_sem,h1,h2];done));(repeat(refine yB ?_;(simp[go_sem,h1,h2])))))
 refine aB ?_;refine aA [(2,ii n)] [] ?_
 simp[go_sem]
set_option maxRecDepth 20000 in
theorem IK(n:Int)(h:¬bnd n):PanicX Tryz.prog 197 [] [ii n] (faultV 3) []:=by
 have h1:1099511627776<n∨n< -1099511627776:=by unfold bnd at h;omega
 refine kK 0 12 Tryz.func197 rfl rfl (by simp) (by decide) rfl fun X hX=>?_
 (repeat(refine a7 [0,2,8] hX mixed rfl ?_;simp[go_sem]))
 rcases h1 with h1|h1
 ·refine aC (by simp[go_sem,h1]) ?_
  (repeat(refine a7 [0,2,8] hX mixed rfl ?_;simp[go_sem]))
  (first|refine aZ [] [] ?_|refine aA [] [] ?_)
  simp[go_sem]
 ·have h2:¬1099511627776<n:=by omega
  refine aC (by simp[go_sem,h1,h2]) ?_
  (repeat(refine a7 [0,2,8] hX mixed rfl ?_;simp[go_sem]))
  (first|refine aZ [] [] ?_|refine aA [] [] ?_)
  simp[go_sem]
theorem lK(n:Int):∃o,okO o∧OutX Tryz.prog 197 [] [ii n] (outV o) []:=by
 by_cases h:bnd n
 ·exact⟨.inr n,h,BW n h⟩
 ·exact⟨.inl 3,trivial,IK n h⟩
theorem DO{a b:Int}:(a.tdiv b).natAbs=a.natAbs/b.natAbs:=Int.natAbs_tdiv a b
theorem GA{a b:Int}(hb:b≠0)(n:Nat)(ha:a.natAbs≤n):(a.tdiv b).natAbs≤n∧(a.tdiv b*b).natAbs≤n:=by
 have h1:=Nat.div_le_self a.natAbs b.natAbs
 have h2:=Nat.div_mul_le_self a.natAbs b.natAbs
 rw[Int.natAbs_mul,DO]
 omega
set_option maxRecDepth 20000 in
theorem wK(a b:Int)(ha:a.natAbs≤2000000000000000)(hb:b≠0)(hb2:b.natAbs≤2000000000000000):∃q:Int,q.natAbs≤2000000000000001∧Means true Tryz.prog 206 [ii a,ii b] (ii q):=by
 obtain⟨q1,q2⟩:=GA hb _ ha
 have w1:=w64 (x:=a.tdiv b) (by omega) (by omega)
 obtain⟨p,hp⟩:∃p,a.tdiv b*b=p:=⟨_,rfl⟩
 have w2:IntKind.i64.wrap (a.tdiv b*b)=p:=by rw[w64 (by omega) (by omega),hp]
 rw[hp]at q2
 have w3:=w64 (x:=a.tdiv b-1) (by omega) (by omega)
 by_cases h:p=a
 ·refine⟨a.tdiv b,by omega,?_⟩
  refine yM true 24 [.tmp 4] [0,1,4,5,20] Tryz.func206 fun X hX=>?_
  (repeat(refine yA ?_;(simp[go_sem,hb,w1,w2,h])));(repeat(refine a8 ?_ ?_;(focus(simp[go_sem,hb,w1,w2,h];done));(repeat(refine yA ?_;(simp[go_sem,hb,w1,w2,h])))))
 ·by_cases h1:a<0
  ·by_cases h2:b<0
   ·refine⟨a.tdiv b,by omega,?_⟩
    refine yM true 24 [.tmp 4] [0,1,4,5,20] Tryz.func206 fun X hX=>?_
    (repeat(refine yA ?_;(simp[go_sem,hb,w1,w2,h,h1,h2])));(repeat(refine a8 ?_ ?_;(focus(simp[go_sem,hb,w1,w2,h,h1,h2];done));(repeat(refine yA ?_;(simp[go_sem,hb,w1,w2,h,h1,h2])))))
   ·refine⟨a.tdiv b-1,by omega,?_⟩
    refine yM true 24 [.tmp 4] [0,1,4,5,20] Tryz.func206 fun X hX=>?_
    (repeat(refine yA ?_;(simp[go_sem,hb,w1,w2,w3,h,h1,h2])));(repeat(refine aC ?_ ?_;(focus(simp[go_sem,hb,w1,w2,w3,h,h1,h2];done));(repeat(refine yA ?_;(simp[go_sem,hb,w1,w2,w3,h,h1,h2])))))
  ·by_cases h2:b<0
   ·refine⟨a.tdiv b-1,by omega,?_⟩
    refine yM true 24 [.tmp 4] [0,1,4,5,20] Tryz.func206 fun X hX=>?_
    (repeat(refine yA ?_;(simp[go_sem,hb,w1,w2,w3,h,h1,h2])));(repeat(refine aC ?_ ?_;(focus(simp[go_sem,hb,w1,w2,w3,h,h1,h2];done));(repeat(refine yA ?_;(simp[go_sem,hb,w1,w2,w3,h,h1,h2])))))
   ·refine⟨a.tdiv b,by omega,?_⟩
    refine yM true 24 [.tmp 4] [0,1,4,5,20] Tryz.func206 fun X hX=>?_
    (repeat(refine yA ?_;(simp[go_sem,hb,w1,w2,h,h1,h2])));(repeat(refine a8 ?_ ?_;(focus(simp[go_sem,hb,w1,w2,h,h1,h2];done));(repeat(refine yA ?_;(simp[go_sem,hb,w1,w2,h,h1,h2])))))
set_option maxRecDepth 20000 in
theorem fQ(x:Bool):Means true Tryz.prog 199 [bb x] (ii (if x then 1 else 0)):=by
 cases x
 all_goals
  refine yM true 4 [.tmp 2] [0,2,3] Tryz.func199 fun X hX=>?_
  (repeat(refine yA ?_;(simp[go_sem])));(repeat(first|(refine aC ?_ ?_;(focus(simp[go_sem];done));(repeat(refine yA ?_;(simp[go_sem]))))|(refine a8 ?_ ?_;(focus(simp[go_sem];done));(repeat(refine yA ?_;(simp[go_sem]))))))
theorem JC{a b:Int}{N:Nat}(hN:N≤1099511627777000)(h0:a≠0)(h1:¬(((N/a.natAbs:Nat):Int)<b))(h2:¬(b< -((N/a.natAbs:Nat):Int))):(a*b).natAbs≤1099511627777000:=by
 rw[Int.natAbs_mul]
 have hb:b.natAbs≤N/a.natAbs:=by omega
 have h3:a.natAbs*b.natAbs≤a.natAbs*(N/a.natAbs):=Nat.mul_le_mul_left _ hb
 have h4:=Nat.mul_div_le N a.natAbs
 omega
set_option maxRecDepth 20000 in
theorem pL(a b y:Int)(hy:y=1∨y=1000)(hab:(a*b).natAbs≤1099511627777000)(hok:a=0∨(a≠0∧(a.natAbs≤1099511627776)∧¬(((1099511627777*y.toNat/a.natAbs:Nat):Int)<b)∧¬(b< -((1099511627777*y.toNat/a.natAbs:Nat):Int)))):
  ∃o,okO o∧OutX Tryz.prog 205 [] [ii a,ii b,ii y] (outV o) []:=by
 obtain⟨q,hq,c1⟩:=wK (a*b) y (by omega) (by omega) (by omega)
 obtain⟨o,ho,c2⟩:=lK q
 refine⟨o,ho,?_⟩
 have w1:=w64 (x:=a*b) (by omega) (by omega)
 have w0:=w64 (x:=1099511627777*y) (by omega) (by omega)
 rcases hok with rfl|⟨h0,h3,h1,h2⟩
 ·rw[Int.zero_mul]at c1 w1
  have w1:IntKind.i64.wrap 0=0:=by decide
  cases o with
  |inl e=>
   refine aN 0 41 [.tmp 6] Tryz.func205 rfl rfl rfl (by simp) (by decide) rfl fun X hX=>?_
   (repeat(refine a7 q9x1 hX mixed rfl ?_;simp[go_sem,w0,w1]));(repeat(refine a8 ?_ ?_;(focus(simp[go_sem,w0,w1];done));(repeat(refine a7 q9x1 hX mixed rfl ?_;simp[go_sem,w0,w1]))))
   refine aD c1 ?_
   simp[go_sem]
   refine aO [] (c2) (by simp[go_sem]) ?_
   (first|refine aZ [] [] ?_|refine aA [] [] ?_)
   simp[go_sem]
  |inr v=>
   refine aN 0 41 [.tmp 6] Tryz.func205 rfl rfl rfl (by simp) (by decide) rfl fun X hX=>?_
   (repeat(refine a7 q9x1 hX mixed rfl ?_;simp[go_sem,w0,w1]));(repeat(refine a8 ?_ ?_;(focus(simp[go_sem,w0,w1];done));(repeat(refine a7 q9x1 hX mixed rfl ?_;simp[go_sem,w0,w1]))))
   refine aD c1 ?_
   simp[go_sem]
   refine yH [] c2 ?_
   simp[go_sem]
   refine aB ?_;refine aA [(6,ii v)] [] ?_
   simp[go_sem]
 ·have hm:max a (-a)=(a.natAbs:Int):=by omega
  have e1:Int.tdiv (1099511627777*y) (a.natAbs:Int)=((1099511627777*y.toNat/a.natAbs:Nat):Int):=by
   have:1099511627777*y=((1099511627777*y.toNat:Nat):Int):=by omega
   rw[this,←Int.ofNat_tdiv]
  have e2:Int.tdiv (-(1099511627777*y)) (a.natAbs:Int)= -((1099511627777*y.toNat/a.natAbs:Nat):Int):=by rw[Int.neg_tdiv,e1]
  have hle:1099511627777*y.toNat/a.natAbs≤1099511627777*y.toNat:=Nat.div_le_self _ _
  have hyt:y.toNat≤1000:=by omega
  have n0:¬(a.natAbs:Int)=0:=by omega
  generalize 1099511627777*y.toNat/a.natAbs=q2 at*
  have w4:=w64 (x:= -a) (by omega) (by omega)
  have w5:=w64 (x:=(q2:Int)) (by omega) (by omega)
  have w6:=w64 (x:= -(q2:Int)) (by omega) (by omega)
  have w7:=w64 (x:= -(1099511627777*y)) (by omega) (by omega)
  cases o with
  |inl e=>
   refine aN 0 41 [.tmp 6] Tryz.func205 rfl rfl rfl (by simp) (by decide) rfl fun X hX=>?_
   (repeat(refine a7 q9x1 hX mixed rfl ?_;simp[go_sem,w0,w1,w4,w5,w6,w7,h0,hm,n0,e1,e2,h1,h2]));(repeat(refine a8 ?_ ?_;(focus(simp[go_sem,w0,w1,w4,w5,w6,w7,h0,hm,n0,e1,e2,h1,h2];done));(repeat(refine a7 q9x1 hX mixed rfl ?_;simp[go_sem,w0,w1,w4,w5,w6,w7,h0,hm,n0,e1,e2,h1,h2]))))
   refine aD c1 ?_
   simp[go_sem]
   refine aO [] (c2) (by simp[go_sem]) ?_
   (first|refine aZ [] [] ?_|refine aA [] [] ?_)
   simp[go_sem]
  |inr v=>
   refine aN 0 41 [.tmp 6] Tryz.func205 rfl rfl rfl (by simp) (by decide) rfl fun X hX=>?_
   (repeat(refine a7 q9x1 hX mixed rfl ?_;simp[go_sem,w0,w1,w4,w5,w6,w7,h0,hm,n0,e1,e2,h1,h2]));(repeat(refine a8 ?_ ?_;(focus(simp[go_sem,w0,w1,w4,w5,w6,w7,h0,hm,n0,e1,e2,h1,h2];done));(repeat(refine a7 q9x1 hX mixed rfl ?_;simp[go_sem,w0,w1,w4,w5,w6,w7,h0,hm,n0,e1,e2,h1,h2]))))
   refine aD c1 ?_
   simp[go_sem]
   refine yH [] c2 ?_
   simp[go_sem]
   refine aB ?_;refine aA [(6,ii v)] [] ?_
   simp[go_sem]
set_option maxRecDepth 20000 in
theorem nK(a b y:Int)(hy:y=1∨y=1000)(h0:a≠0)(ha:a.natAbs≤1099511627776)(hb:((1099511627777*y.toNat/a.natAbs:Nat):Int)<b∨b< -((1099511627777*y.toNat/a.natAbs:Nat):Int)):
  PanicX Tryz.prog 205 [] [ii a,ii b,ii y] (faultV 3) []:=by
 have w0:=w64 (x:=1099511627777*y) (by omega) (by omega)
 have hm:max a (-a)=(a.natAbs:Int):=by omega
 have e1:Int.tdiv (1099511627777*y) (a.natAbs:Int)=((1099511627777*y.toNat/a.natAbs:Nat):Int):=by
  have:1099511627777*y=((1099511627777*y.toNat:Nat):Int):=by omega
  rw[this,←Int.ofNat_tdiv]
 have e2:Int.tdiv (-(1099511627777*y)) (a.natAbs:Int)= -((1099511627777*y.toNat/a.natAbs:Nat):Int):=by rw[Int.neg_tdiv,e1]
 have hle:1099511627777*y.toNat/a.natAbs≤1099511627777*y.toNat:=Nat.div_le_self _ _
 have hyt:y.toNat≤1000:=by omega
 have n0:¬(a.natAbs:Int)=0:=by omega
 generalize 1099511627777*y.toNat/a.natAbs=q2 at*
 have w4:=w64 (x:= -a) (by omega) (by omega)
 have w5:=w64 (x:=(q2:Int)) (by omega) (by omega)
 have w6:=w64 (x:= -(q2:Int)) (by omega) (by omega)
 have w7:=w64 (x:= -(1099511627777*y)) (by omega) (by omega)
 by_cases h1:(q2:Int)<b
 ·refine kK 0 41 Tryz.func205 rfl rfl (by simp) (by decide) rfl fun X hX=>?_
  (repeat(refine a7 q9x1 hX mixed rfl ?_;simp[go_sem,w0,w4,w5,w6,w7,h0,hm,n0,e1,e2,h1]));(repeat(refine aC ?_ ?_;(focus(simp[go_sem,w0,w4,w5,w6,w7,h0,hm,n0,e1,e2,h1];done));(repeat(refine a7 q9x1 hX mixed rfl ?_;simp[go_sem,w0,w4,w5,w6,w7,h0,hm,n0,e1,e2,h1]))))
  (first|refine aZ [] [] ?_|refine aA [] [] ?_)
  simp[go_sem]
 ·have h2:b< -(q2:Int):=by omega
  refine kK 0 41 Tryz.func205 rfl rfl (by simp) (by decide) rfl fun X hX=>?_
  (repeat(refine a7 q9x1 hX mixed rfl ?_;simp[go_sem,w0,w4,w5,w6,w7,h0,hm,n0,e1,e2,h1,h2]));(repeat(refine aC ?_ ?_;(focus(simp[go_sem,w0,w4,w5,w6,w7,h0,hm,n0,e1,e2,h1,h2];done));(repeat(refine a7 q9x1 hX mixed rfl ?_;simp[go_sem,w0,w4,w5,w6,w7,h0,hm,n0,e1,e2,h1,h2]))))
  (first|refine aZ [] [] ?_|refine aA [] [] ?_)
  simp[go_sem]
theorem z6(a b y:Int)(hy:y=1∨y=1000)(ha:bnd a):∃o,okO o∧OutX Tryz.prog 205 [] [ii a,ii b,ii y] (outV o) []:=by
 unfold bnd at ha
 by_cases h0:a=0
 ·exact pL a b y hy (by simp[h0]) (.inl h0)
 ·by_cases h1:((1099511627777*y.toNat/a.natAbs:Nat):Int)<b
  ·exact⟨.inl 3,trivial,nK a b y hy h0 (by omega) (.inl h1)⟩
  ·by_cases h2:b< -((1099511627777*y.toNat/a.natAbs:Nat):Int)
   ·exact⟨.inl 3,trivial,nK a b y hy h0 (by omega) (.inr h2)⟩
   ·exact pL a b y hy (JC (by omega) h0 h1 h2) (.inr ⟨h0,by omega,h1,h2⟩)
end Go.Proofs.YtllgjognpobnpaaGreatDoor

namespace Go.Proofs.YtllgjognpobnpaaGreatDoor
open Go.RowKit Go.Ab
attribute [local irreducible] AWP Go.Ab.Sub Means MeansH CallK CallG CallT CallGT PanicH PanicX DefH CallU
abbrev rsv(r:Int×Int×Bool):AV:=.agg [ii r.1,ii r.2.1,bb r.2.2]
abbrev mL(L:List (By×E)):Ob:=⟨245,3,[.agg [.sl (L.map lt),.ow 1,.ow 2]]⟩
abbrev rL(R:List (Int×Int×Bool)):Ob:=⟨291,3,R.map rsv⟩
abbrev MG(L:List (By×E))(R:List (Int×Int×Bool))(G:List (By×Int)):List Cell:=[.row (mL L),.row (rL R),.map (gR G)]
def OkR(L:List (By×E))(R:List (Int×Int×Bool)):Prop:=R.length=L.length∧∀r∈R,r.2.2=true→r.2.1=0→bnd r.1
theorem OkR.set{L:List (By×E)}{R:List (Int×Int×Bool)}(h:OkR L R){i:Nat}{v e:Int}(hv:e=0→bnd v):OkR L (R.set i (v,e,true)):=by
 refine⟨by simpa using h.1,fun r hr h1 h2=>?_⟩
 rcases List.mem_or_eq_of_mem_set hr with hr|rfl
 ·exact h.2 r hr h1 h2
 ·exact hv h2
@[go_sem] theorem xO{R:List (Int×Int×Bool)}{k:Nat}(h:k<R.length):nth (R.map rsv) k=rsv R[k]:=cG rsv h
theorem A1{G:List (By×Int)}(hG:∀x∈G,bnd x.2){s:By}{v:Int}(h:G.lookup s=some v):bnd v:=by
 induction G with
 |nil=>cases h
 |cons p G ih=>
  obtain⟨a,b⟩:=p
  simp only[List.lookup_cons]at h
  split at h
  ·simp only[Option.some.injEq]at h;subst h;exact hG (a,b) (by simp)
  ·exact ih (fun x hx=>hG x (by simp[hx])) h
theorem rB{l:List AV}{k:Nat}{x:AV}(h:k<l.length):nth (l.set k x) k=x:=by simp[nth,h]
set_option maxHeartbeats 4000000 in
set_option maxRecDepth 20000 in
theorem wM(L:List (By×E))(G:List (By×Int))(R:List (Int×Int×Bool))(n:Nat)(s:By)(hL:OkL L)(hn:n≤L.length)(hR:OkR L R)(hG:∀x∈G,bnd x.2)
  (ht:∀i (h:i<L.length),i<n→∀R,OkR L R→∃R' v e,OkR L R'∧(e=0→bnd v)∧MeansH Tryz.prog 155 (MG L R G) [.el 0 3 0 0,ex L[i].2,ii i] (.tup [ii v,ii e]) (MG L R' G)):
  ∃R' o,OkR L R'∧okO o∧OutX Tryz.prog 198 (MG L R G) [.el 0 3 0 0,ss s,ii n] (outV o) (MG L R' G):=by
 have hlen:=hL.len
 cases hg:G.lookup s with
 |some v=>
  refine⟨R,.inr v,hR,A1 hG hg,?_⟩
  have h1:(G.lookup s).isSome=true:=by rw[hg];rfl
  have h2:(G.lookup s).getD 0=v:=by rw[hg];rfl
  refine aN 3 89 [.tmp 6] Tryz.func198 rfl rfl rfl (by simp) (by decide) rfl fun X hX=>?_
  (repeat(refine a7 q9x0 hX mixed rfl ?_;simp[go_sem,h1,h2]));(repeat(refine aC ?_ ?_;(focus(simp[go_sem,h1,h2];done));(repeat(refine a7 q9x0 hX mixed rfl ?_;simp[go_sem,h1,h2]))))
  refine aB ?_;simp only[thenQ,blkQ,loopQ];refine aA [(6,ii v),(1000000,.ow 0),(1000001,.ow 1),(1000002,.ow 2)] [.old 0 (mL L),.old 1 (rL R),.oldM 2 (gR G)] ?_
  simp[go_sem]
 |none=>
  have h1:(G.lookup s).isSome=false:=by rw[hg];rfl
  have wn:=w64 (x:=(n:Int)-1) (by omega) (by omega)
  by_cases hx:∃i,∃h:i<L.length,i<n∧L[i].1=s
  ·obtain⟨i,hi,hin,his⟩:=hx
   have hne:∀j (h:j<L.length),i<j→¬L[j].1=s:=fun j h hij e=>hL.two i j hi h hij (his.trans e.symm)
   have hiR:i<R.length:=by rw[hR.1];exact hi
   obtain⟨R',v,e,hR',hv,hD⟩:∃R' v e,OkR L R'∧(e=0→bnd v)∧((R[i]=(v,e,true)∧R'=R)∨(∃a b Rt,R[i]=(a,b,false)∧OkR L Rt∧R'=Rt.set i (v,e,true)∧MeansH Tryz.prog 155 (MG L R G) [.el 0 3 0 0,ex L[i].2,ii i] (.tup [ii v,ii e]) (MG L Rt G))):=by
    obtain⟨a,b,c,hr⟩:∃a b c,R[i]=(a,b,c):=⟨_,_,_,rfl⟩
    cases c with
    |true=>
     refine⟨R,a,b,hR,fun h=>?_,.inl ⟨hr,rfl⟩⟩
     have:=hR.2 _ (List.getElem_mem hiR)
     rw[hr]at this
     exact this rfl h
    |false=>
     obtain⟨Rt,v,e,k1,k2,k3⟩:=ht i hi hin R hR
     exact⟨Rt.set i (v,e,true),v,e,k1.set k2,k2,.inr ⟨a,b,Rt,hr,k1,rfl,k3⟩⟩
   have hok:okO (if e=0 then .inr v else .inl e):=by
    split
    ·exact hv (by assumption)
    ·trivial
   obtain⟨o,ho⟩:∃o:Int ⊕ Int,o=if e=0 then .inr v else .inl e:=⟨_,rfl⟩
   rw[←ho]at hok
   refine⟨R',o,hR',hok,?_⟩
   have hiR':i<R'.length:=by rw[hR'.1];exact hi
   have hlt:=dA hi
   have hq:=xO hiR
   refine aN 3 89 [.tmp 6] Tryz.func198 rfl rfl rfl (by simp) (by decide) rfl fun X hX=>?_
   (repeat(refine a7 q9x0 hX mixed rfl ?_;simp[go_sem,h1,wn]));(repeat(refine a8 ?_ ?_;(focus(simp[go_sem,h1,wn];done));(repeat(refine a7 q9x0 hX mixed rfl ?_;simp[go_sem,h1,wn]))))
   refine aG (fun m:Nat=>⟨mkE [(0,.el 0 3 0 0),(1,ss s),(9,ii ((m:Int)-1)),(1000000,.ow 0),(1000001,.ow 1),(1000002,.ow 2)],MG L R G⟩) (fun m=>i<m∧m≤n) (fun m=>m) n ?_ ?_ ?_
   ·refine yS _ [.old 0 (mL L),.old 1 (rL R),.oldM 2 (gR G)] ?_
    simp[go_sem]
   ·exact⟨hin,Nat.le_refl _⟩
   ·rintro m ⟨m1,m2⟩
    obtain⟨k,rfl⟩:∃k,m=k+1:=⟨m-1,by omega⟩
    have e0:((k+1:Nat):Int)-1=k:=by omega
    have wk:=w64 (x:=(k:Int)-1) (by omega) (by omega)
    have hkL:k<L.length:=by omega
    have hql:=dA hkL
    rw[e0]
    (repeat(refine a7 q9x0 hX mixed rfl ?_;simp[go_sem]))
    refine aC (by simp[go_sem]) ?_
    (repeat(refine a7 q9x0 hX mixed rfl ?_;simp[go_sem,hkL,hql]))
    by_cases hki:k=i
    ·subst hki
     refine a8 (by simp[go_sem,his]) ?_
     rcases hD with⟨d1,rfl⟩|⟨a,b,Rt,d1,d2,rfl,d3⟩
     ·rw[d1]at hq
      (repeat(refine a7 q9x0 hX mixed rfl ?_;simp[go_sem,hiR,hq]))
      refine a8 (by simp[go_sem,hq]) ?_
      (repeat(refine a7 q9x0 hX mixed rfl ?_;simp[go_sem,hiR,hq]))
      by_cases he:e=0
      ·rw[if_pos he]at ho
       subst ho
       refine a8 (by simp[go_sem,he]) ?_
       (repeat(refine a7 q9x0 hX mixed rfl ?_;simp[go_sem,hiR,hq]))
       refine aB ?_;simp only[thenQ,blkQ,loopQ];refine aA [(6,ii v),(1000000,.ow 0),(1000001,.ow 1),(1000002,.ow 2)] [.old 0 (mL L),.old 1 (rL R'),.oldM 2 (gR G)] ?_
       simp[go_sem]
      ·rw[if_neg he]at ho
       subst ho
       refine aC (by simp[go_sem,he]) ?_
       (repeat(refine a7 q9x0 hX mixed rfl ?_;simp[go_sem,hiR,hq]))
       (first|refine aZ [(1000000,.ow 0),(1000001,.ow 1),(1000002,.ow 2)] [.old 0 (mL L),.old 1 (rL R'),.oldM 2 (gR G)] ?_|refine aA [(1000000,.ow 0),(1000001,.ow 1),(1000002,.ow 2)] [.old 0 (mL L),.old 1 (rL R'),.oldM 2 (gR G)] ?_)
       simp[go_sem]
     ·rw[d1]at hq
      (repeat(refine a7 q9x0 hX mixed rfl ?_;simp[go_sem,hiR,hq]))
      refine aC (by simp[go_sem,hq]) ?_
      (repeat(refine a7 q9x0 hX mixed rfl ?_;simp[go_sem,hiR,hq,hkL,hql]))
      have hk2:k<Rt.length:=by rw[d2.1];exact hkL
      have hq2:=xO hk2
      have hs:∀x,nth ((List.map rsv Rt).set k x) k=x:=fun x=>rB (by simpa using hk2)
      have hm:List.map rsv (Rt.set k (v,e,true))=(List.map rsv Rt).set k (.agg [ii v,ii e,bb true]):=by rw[List.map_set]
      have hMG:MG L (Rt.set k (v,e,true)) G=[.row (mL L),.row ⟨291,3,(Rt.map rsv).set k (.agg [ii v,ii e,bb true])⟩,.map (gR G)]:=by unfold MG rL;rw[hm]
      rw[hMG]
      refine yH [0,1,2] d3 ?_
      try((simp[go_sem,hk2,hq2,hs]))
      (repeat(refine a7 q9x0 hX mixed rfl ?_;simp[go_sem,hk2,hs]))
      by_cases he:e=0
      ·rw[if_pos he]at ho
       subst ho
       refine a8 (by simp[go_sem,he]) ?_
       (repeat(refine a7 q9x0 hX mixed rfl ?_;simp[go_sem,hk2,hs]))
       refine aB ?_;simp only[thenQ,blkQ,loopQ];refine aA [(6,ii v),(1000000,.ow 0),(1000001,.ow 1),(1000002,.ow 2)] [.old 0 (mL L),.old 1 ⟨291,3,(Rt.map rsv).set k (.agg [ii v,ii e,bb true])⟩,.oldM 2 (gR G)] ?_
       simp[go_sem]
      ·rw[if_neg he]at ho
       subst ho
       refine aC (by simp[go_sem,he]) ?_
       (repeat(refine a7 q9x0 hX mixed rfl ?_;simp[go_sem,hk2,hs]))
       (first|refine aZ [(1000000,.ow 0),(1000001,.ow 1),(1000002,.ow 2)] [.old 0 (mL L),.old 1 ⟨291,3,(Rt.map rsv).set k (.agg [ii v,ii e,bb true])⟩,.oldM 2 (gR G)] ?_|refine aA [(1000000,.ow 0),(1000001,.ow 1),(1000002,.ow 2)] [.old 0 (mL L),.old 1 ⟨291,3,(Rt.map rsv).set k (.agg [ii v,ii e,bb true])⟩,.oldM 2 (gR G)] ?_)
       simp[go_sem]
    ·have hn2:=hne k hkL (by omega)
     refine aC (by simp[go_sem,hn2]) ?_
     (repeat(refine a7 q9x0 hX mixed rfl ?_;simp[go_sem,wk]))
     refine⟨k,by omega,by omega,?_⟩
     refine yS _ [.old 0 (mL L),.old 1 (rL R),.oldM 2 (gR G)] ?_
     simp[go_sem]
  ·have hne:∀j (h:j<L.length),j<n→¬L[j].1=s:=fun j h hj e=>hx ⟨j,h,hj,e⟩
   refine⟨R,.inl 13,hR,trivial,?_⟩
   refine aN 3 89 [.tmp 6] Tryz.func198 rfl rfl rfl (by simp) (by decide) rfl fun X hX=>?_
   (repeat(refine a7 q9x0 hX mixed rfl ?_;simp[go_sem,h1,wn]));(repeat(refine a8 ?_ ?_;(focus(simp[go_sem,h1,wn];done));(repeat(refine a7 q9x0 hX mixed rfl ?_;simp[go_sem,h1,wn]))))
   refine aG (fun m:Nat=>⟨mkE [(0,.el 0 3 0 0),(1,ss s),(9,ii ((m:Int)-1)),(1000000,.ow 0),(1000001,.ow 1),(1000002,.ow 2)],MG L R G⟩) (fun m=>m≤n) (fun m=>m) n ?_ ?_ ?_
   ·refine yS _ [.old 0 (mL L),.old 1 (rL R),.oldM 2 (gR G)] ?_
    simp[go_sem]
   ·exact Nat.le_refl _
   ·rintro m m2
    cases m with
    |zero=>
     (repeat(refine a7 q9x0 hX mixed rfl ?_;simp[go_sem]))
     refine a8 (by simp[go_sem]) ?_
     (repeat(refine a7 q9x0 hX mixed rfl ?_;simp[go_sem]))
     (first|refine aZ [(1000000,.ow 0),(1000001,.ow 1),(1000002,.ow 2)] [.old 0 (mL L),.old 1 (rL R),.oldM 2 (gR G)] ?_|refine aA [(1000000,.ow 0),(1000001,.ow 1),(1000002,.ow 2)] [.old 0 (mL L),.old 1 (rL R),.oldM 2 (gR G)] ?_)
     simp[go_sem]
    |succ k=>
     have e0:((k+1:Nat):Int)-1=k:=by omega
     have wk:=w64 (x:=(k:Int)-1) (by omega) (by omega)
     have hkL:k<L.length:=by omega
     have hql:=dA hkL
     have hn2:=hne k hkL (by omega)
     rw[e0]
     (repeat(refine a7 q9x0 hX mixed rfl ?_;simp[go_sem]))
     refine aC (by simp[go_sem]) ?_
     (repeat(refine a7 q9x0 hX mixed rfl ?_;simp[go_sem,hkL,hql]))
     refine aC (by simp[go_sem,hn2]) ?_
     (repeat(refine a7 q9x0 hX mixed rfl ?_;simp[go_sem,wk]))
     refine⟨k,by omega,by omega,?_⟩
     refine yS _ [.old 0 (mL L),.old 1 (rL R),.oldM 2 (gR G)] ?_
     simp[go_sem]
end Go.Proofs.YtllgjognpobnpaaGreatDoor

