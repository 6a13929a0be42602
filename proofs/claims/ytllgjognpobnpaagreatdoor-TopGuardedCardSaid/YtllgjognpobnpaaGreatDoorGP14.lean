/-
  Lemmas for the statement at the top.
-/
import Derived.Test.YtllgjognpobnpaaGreatDoorGP6
import Derived.Test.YtllgjognpobnpaaGreatDoorGP9
import Derived.Test.YtllgjognpobnpaaGreatDoorGP11
import Derived.Test.YtllgjognpobnpaaGreatDoorGP13
import Derived.Test.YtllgjognpobnpaaGreatDoorGP12
set_option linter.all false
namespace Go.Proofs.YtllgjognpobnpaaGreatDoor
open Go.RowKit Go.Ab
attribute [local irreducible] AWP Go.Ab.Sub Means MeansH CallK CallG CallT CallGT PanicH DefH
abbrev ndl(G:List Nd):AV:=.sl (G.map ndv)
theorem lU(l:List (Nat×Int)):zoneEs (l.map mvv)=true:=dI _ _ fun _=>rfl
theorem bJ(l:List Nd):zoneEs (l.map ndv)=true:=dI _ _ fun x=>by
 have:=lU x.mv
 simp[go_sem,this]
theorem D8(G:List Nd):(ndl G).flat.all AV.zone=true:=by
 have:=bJ G
 simp[go_sem,this]
set_option maxHeartbeats 4000000 in
theorem IA(f:FuncId)(E0:Nat)(c0:AV)(E1:Nat)(c1:AV)(L:List (Nat×Int))(hl:L.length≤100000)(hz0:c0.flat.all AV.zone=true)(hz1:c1.flat.all AV.zone=true)(hf:∀x∈L,MeansH Tryz.prog f [.row ⟨E0,1,[c0]⟩,.row ⟨E1,1,[c1]⟩] [mvv x,.el 0 1 0 0,.el 1 1 0 0] (bb false) [.row ⟨E0,1,[c0]⟩,.row ⟨E1,1,[c1]⟩])(hcall:callable Tryz.prog f=true):
  MeansH Tryz.prog 122 [.row ⟨E0,1,[c0]⟩,.row ⟨E1,1,[c1]⟩] [.sl (L.map mvv),.fn f [] [.el 0 1 0 0,.el 1 1 0 0]] (ii (-1)) [.row ⟨E0,1,[c0]⟩,.row ⟨E1,1,[c1]⟩]:=by
 have hy0:∀x∈c0.flat,x.zone=true:=by simpa using hz0
 have hy1:∀x∈c1.flat,x.zone=true:=by simpa using hz1
 refine yN 2 19 [.tmp 4] [0,1,4,5,7,8,9,16,1000000,1000001] Tryz.func122 fun X hX=>?_
 (repeat(refine yB ?_;(simp[go_sem])))
 refine aG (fun n:Nat=>⟨mkE [(0,.sl (L.map mvv)),(1,.fn f [] [.el 0 1 0 0,.el 1 1 0 0]),(7,ii L.length),(8,ii n),(1000000,.ow 0),(1000001,.ow 1)],[.row ⟨E0,1,[c0]⟩,.row ⟨E1,1,[c1]⟩]⟩) (fun n=>n≤L.length) (fun n=>L.length-n) 0 ?_ ?_ ?_
 ·refine yS _ [.old 0 ⟨E0,1,[c0]⟩,.old 1 ⟨E1,1,[c1]⟩] ?_ (by simp[go_sem,hz0,hz1,hy0,hy1])
  simp[go_sem,hz0,hz1,hy0,hy1]
 ·exact Nat.zero_le _
 ·rintro n h1
  (repeat(refine yB ?_;(simp[go_sem])))
  refine yC (decide (n<L.length)) (fun hc=>?_) fun hc=>?_
  ·simp at hc
   have hq:=lM hc
   have wk:=w64 (x:=(n:Int)+1) (by omega) (by omega)
   (repeat(refine yB ?_;(simp[go_sem,hc,hq,hcall])))
   refine aV [0,1] (hf L[n] (List.getElem_mem hc)) (by simp[go_sem,hz0,hz1,hy0,hy1]) ?_
   simp[go_sem,hz0]
   refine a8 (by simp[go_sem]) ?_
   (repeat(refine yB ?_;(simp[go_sem,wk])))
   refine⟨n+1,by omega,by omega,?_⟩
   refine yS _ [.old 0 ⟨E0,1,[c0]⟩,.old 1 ⟨E1,1,[c1]⟩] ?_ (by simp[go_sem,hz0,hz1,hy0,hy1])
   simp[go_sem,hz0,hz1,hy0,hy1]
  ·simp at hc
   (repeat(refine yB ?_;(simp[go_sem])))
   refine aB ?_;refine aA [(4,ii (-1)),(1000000,.ow 0),(1000001,.ow 1)] [.old 0 ⟨E0,1,[c0]⟩,.old 1 ⟨E1,1,[c1]⟩] ?_
   simp[go_sem,hz0,hz1,hy0,hy1]
theorem D9(f:FuncId)(E0:Nat)(c0:AV)(E1:Nat)(c1:AV)(L:List (Nat×Int))(hl:L.length≤100000)(hz0:c0.flat.all AV.zone=true)(hz1:c1.flat.all AV.zone=true)(hf:∀x∈L,MeansH Tryz.prog f [.row ⟨E0,1,[c0]⟩,.row ⟨E1,1,[c1]⟩] [mvv x,.el 0 1 0 0,.el 1 1 0 0] (bb false) [.row ⟨E0,1,[c0]⟩,.row ⟨E1,1,[c1]⟩])(hcall:callable Tryz.prog f=true):
  MeansH Tryz.prog 75 [.row ⟨E0,1,[c0]⟩,.row ⟨E1,1,[c1]⟩] [.sl (L.map mvv),.fn f [] [.el 0 1 0 0,.el 1 1 0 0]] (bb false) [.row ⟨E0,1,[c0]⟩,.row ⟨E1,1,[c1]⟩]:=by
 have hy0:∀x∈c0.flat,x.zone=true:=by simpa using hz0
 have hy1:∀x∈c1.flat,x.zone=true:=by simpa using hz1
 have hI:=IA f E0 c0 E1 c1 L hl hz0 hz1 hf hcall
 refine yN 2 9 [.tmp 4] [0,1,4,1000000,1000001] Tryz.func75 fun X hX=>?_
 (repeat(refine yB ?_;(simp[go_sem])))
 refine aV [0,1] hI (by simp[go_sem,hz0,hz1,hy0,hy1]) ?_
 simp[go_sem,hz0]
 refine aB ?_;refine aA [(4,bb false),(1000000,.ow 0),(1000001,.ow 1)] [.old 0 ⟨E0,1,[c0]⟩,.old 1 ⟨E1,1,[c1]⟩] ?_
 simp[go_sem,hz0,hz1,hy0,hy1]
theorem FV(G:List Nd)(j:Nat)(m:Nat×Int)(h:j<m.1∧m.1<G.length∧ -1099511627776≤m.2∧m.2≤1099511627776):
  MeansH Tryz.prog 74 [.row ⟨3,1,[ii j]⟩,.row ⟨40,1,[ndl G]⟩] [mvv m,.el 0 1 0 0,.el 1 1 0 0] (bb false) [.row ⟨3,1,[ii j]⟩,.row ⟨40,1,[ndl G]⟩]:=by
 have h1:¬((m.1:Int)≤j):=by omega
 have h2:¬((G.length:Int)≤m.1):=by omega
 have h3:¬(m.2< -1099511627776):=by omega
 have h4:¬(1099511627776<m.2):=by omega
 have hz:=bJ G
 refine yN 2 26 [.tmp 4] [0,1,2,3,4,1000000,1000001] Tryz.func74 fun X hX=>?_
 (repeat(refine yB ?_;(simp[go_sem,h1,h2,h3,h4])))
 refine aB ?_;refine aA [(4,bb false),(1000000,.ow 0),(1000001,.ow 1)] [.old 0 ⟨3,1,[ii j]⟩,.old 1 ⟨40,1,[ndl G]⟩] ?_
 simp[go_sem,h1,h2,h3,h4,hz]
set_option maxHeartbeats 4000000 in
theorem nH(G:List Nd)(hG:OkG G):Means true Tryz.prog 33 [ndl G] (bb true):=by
 have h0:¬((G.length:Int)=0):=by have:=hG.pos;omega
 have h1:¬(3000<(G.length:Int)):=by have:=hG.len;omega
 have hl:=hG.len
 have hz:=bJ G
 refine yM true 33 [.tmp 2] [0,1,2,3,4,5,13,14,15,16,17,31] Tryz.func33 fun X hX=>?_
 (repeat(refine yA ?_;(simp[go_sem,h0,h1])))
 refine a8 (by simp[go_sem,h0,h1];intro e;subst e;exact absurd hG.pos (by simp)) ?_
 (repeat(refine yA ?_;(simp[go_sem])))
 refine aG (fun j:Nat=>⟨mkE [(1,.el 0 1 0 0),(14,ndl G),(15,ii G.length),(16,ii j)],[.row ⟨40,1,[ndl G]⟩]⟩) (fun j=>j≤G.length) (fun j=>G.length-j) 0 ?_ ?_ ?_
 ·refine yS _ [.old 0 ⟨40,1,[ndl G]⟩] ?_ (by simp[go_sem,hz])
  simp[go_sem]
 ·exact Nat.zero_le _
 intro j hj
 (repeat(refine yA ?_;(simp[go_sem])))
 refine yC (decide (j<G.length)) (fun hc=>?_) fun hc=>?_
 ·simp at hc
  have hx:=hG.nd j hc
  have hq:=jS hc
  generalize G[j]=x at*
  obtain⟨mi,mv⟩:=x
  have h8:¬(8<(mv.length:Int)):=by have:=hx.few;simp only at this;omega
  have c:=D9 74 3 (ii j) 40 (ndl G) mv (by omega) rfl (D8 G) (fun m hm=>FV G j m (hx.to m hm)) (by simp[go_sem])
  have wk:=w64 (x:=(j:Int)+1) (by omega) (by omega)
  (repeat(refine yA ?_;(simp[go_sem,hc,hq,h8])))
  refine aW [1,0] (fun hg=>c) (by simp[go_sem]) (by simp[go_sem]) ?_
  simp[go_sem,h8]
  refine a8 (by simp[go_sem,h8]) ?_
  (repeat(refine yA ?_;(simp[go_sem,wk])))
  refine⟨j+1,by omega,by omega,?_⟩
  refine yS _ [.old 0 ⟨40,1,[ndl G]⟩] ?_ (by simp[go_sem,hz])
  simp[go_sem]
 ·(repeat(refine yA ?_;(simp[go_sem])))
end Go.Proofs.YtllgjognpobnpaaGreatDoor

namespace Go.Proofs.YtllgjognpobnpaaGreatDoor
open Go.RowKit Go.Ab
attribute [local irreducible] AWP Go.Ab.Sub Means MeansH CallK CallG CallT CallGT PanicH DefH
abbrev circ(b:Bl)(n:Int)(k:Nat):AV:=.agg [ii b.kind,ii b.period,ii b.grace,ii b.wait,ii b.last,ii b.order,bb b.sld,ii b.backs,ii b.voices,ii b.jury,ii b.fund,.sl (b.lets.map lt),ii b.due.op,ii b.due.n,ii b.due.u,ss b.due.s,.sl b.due.args,ii b.fine.op,ii b.fine.n,ii b.fine.u,ss b.fine.s,.sl b.fine.args,ii b.pay.op,ii b.pay.n,ii b.pay.u,ss b.pay.s,.sl b.pay.args,ii b.cover.op,ii b.cover.n,ii b.cover.u,ss b.cover.s,.sl b.cover.args,ii b.hold.op,ii b.hold.n,ii b.hold.u,ss b.hold.s,.sl b.hold.args,ii n,ii k]
set_option maxRecDepth 20000 in
theorem IB(b:Bl)(h:OkB b)(n:Int)(k j:Nat)(hn:1≤n∧n≤60)(hk:(k:Int)≤n):Means true Tryz.prog 73 [circ b n k,ii j] (bb (endsC n k b.voices j)):=by
 have hv:=h.voices
 have hm:=g9 (p:=b.voices) (l:=n) hv.1 (by omega) (by omega) (by omega)
 have w1:=w64 (x:=n-k) (by omega) (by omega)
 have w2:=w64 (x:=1000*(n-k)) (by omega) (by omega)
 have w3:=w64 (x:=b.voices*n) (by omega) (by omega)
 unfold endsC
 refine yM true 31 [.tmp 4] [0,1,2,4] Tryz.func73 fun X hX=>?_
 (repeat(refine yA ?_;(simp[go_sem,w1,w2,w3])))
end Go.Proofs.YtllgjognpobnpaaGreatDoor

namespace Go.Proofs.YtllgjognpobnpaaGreatDoor
open Go.RowKit Go.Ab
attribute [local irreducible] AWP Go.Ab.Sub Means MeansH CallK CallG CallT CallGT PanicH PanicX DefH CallU
theorem lT(s:By)(x:Int):Means true Tryz.prog 36 [ss s,ii x] (v3 (s,1,x)):=by
 refine yM true 8 [.cell 4 103] [0,1,4] Tryz.func36 fun X hX=>?_
 (repeat(refine yA ?_;(simp[go_sem])))
theorem r9(s:By)(x:Int):Means true Tryz.prog 37 [ss s,ii x] (v3 (s,3,x)):=by
 refine yM true 8 [.cell 4 103] [0,1,4] Tryz.func37 fun X hX=>?_
 (repeat(refine yA ?_;(simp[go_sem])))
set_option maxRecDepth 20000 in
theorem vG(b:Bl)(h:OkB b)(n:Int)(k:Nat)(s:By)(hs:s=[100,117,101]∨s=[112,97,121]∨s=[104,111,108,100])(V:List (By×Int×Int))(hV:V.length≤100∧∀x∈V,-1099511627776≤x.2.2∧x.2.2≤1099511627776):
  Means true Tryz.prog 35 [circ b n k,ss s,.sl (V.map v3)] (.tup [ii (max (claV b s V).1 0),ii (claV b s V).2]):=by
 have c:=(uI b h s hs V hV).2
 generalize claV b s V=q at*
 refine yM true 21 [.tmp 6,.tmp 7] [0,1,2,3,6,7,8,9] Tryz.func35 fun X hX=>?_
 (repeat(refine yA ?_;(simp[go_sem])))
 refine aD c ?_
 simp[go_sem]
 (repeat(refine yA ?_;(simp[go_sem])))
def dueA(b:Bl)(n p:Int):List (By×Int×Int):=[([109,101,109,98,101,114,115],1,n),([112,101,114,105,111,100],1,p),([108,97,115,116],1,b.last),([97,103,101],2,p*b.period)]
noncomputable def dueC(b:Bl)(n p:Int):Int×Int:=claV b [100,117,101] (dueA b n p)
noncomputable def dv(b:Bl)(n p:Int):Int:=max (dueC b n p).1 0
noncomputable def potC(b:Bl)(n:Int)(k:Nat)(p:Int)(j:Nat):Int:=(if b.backs=0 then n-k+j else n)*(dv b n p-(dv b n p*b.fund).tdiv 1000)
def payA(n p pot:Int):List (By×Int×Int):=[([112,111,116],3,pot),([98,105,100],3,0),([109,101,109,98,101,114,115],1,n),([112,101,114,105,111,100],1,p)]
noncomputable def payC(b:Bl)(n p pot:Int):Int×Int:=claV b [112,97,121] (payA n p pot)
noncomputable def gnC(b:Bl)(n:Int)(k p:Nat)(j:Nat):Int:=(if p<k∧0<j then min (max (payC b n p (potC b n k p j)).1 0) (potC b n k p j)else 0)-j*dv b n p
noncomputable def geC(b:Bl)(n:Int)(k p:Nat)(j:Nat):Int:=if p<k∧0<j then(payC b n p (potC b n k p j)).2 else 0
noncomputable def feC(b:Bl)(n:Int)(k p:Nat):Nat→Int
 |0=>0
 |t+1=>if geC b n k p t≠0 then geC b n k p t else feC b n k p t
noncomputable def outC(b:Bl)(n:Int)(k p:Nat)(t:Nat):List Int:=(List.range (k+1)).map fun i=>if t≤i then gnC b n k p i else 0
noncomputable def gnL(b:Bl)(n:Int)(k p:Nat):List Int×Int:=
 if b.kind=2 then(List.replicate (k+1) 0,0)else if(dueC b n p).2≠0 then([],(dueC b n p).2)else if 1099511627776<n*dv b n p then([],3)else
  if feC b n k p (k+1)≠0 then([],feC b n k p (k+1))else(outC b n k p 0,0)
theorem tE(b:Bl)(n:Int)(k p t:Nat):(outC b n k p t).length=k+1:=by simp[outC]
theorem DA(b:Bl)(n:Int)(k p:Nat):outC b n k p (k+1)=List.replicate (k+1) 0:=by
 apply List.ext_getElem
 ·simp[outC]
 ·intro i h1 h2
  simp[outC]at h1⊢
  omega
theorem DB(b:Bl)(n:Int)(k p u:Nat)(hu:u<k+1)(c:Int):((outC b n k p (u+1)).set u c).set u (gnC b n k p u)=outC b n k p u:=by
 apply List.ext_getElem
 ·simp[outC]
 ·intro i h1 h2
  simp only[List.set_set,List.getElem_set,outC,List.getElem_map,List.getElem_range]
  by_cases e:u=i
  ·subst e;simp
  ·rw[if_neg e]
   by_cases q:u≤i
   ·rw[if_pos q,if_pos (by omega)]
   ·rw[if_neg q,if_neg (by omega)]
theorem FW(b:Bl)(n:Int)(k p u:Nat)(hu:u<k+1):(outC b n k p (u+1)).getD u 0=0:=by
 simp[outC,List.getD_eq_getElem?_getD,hu]
 intro h
 omega
theorem xK(b:Bl)(h:OkB b)(n:Int)(p:Nat)(hn:1≤n∧n≤60)(hp:p<1000):(dueA b n p).length≤100∧∀x∈dueA b n p,-1099511627776≤x.2.2∧x.2.2≤1099511627776:=by
 have hpe:=h.period
 have hm:=g9 (p:=(p:Int)) (l:=b.period) (by omega) (by omega) (by omega) (by omega)
 refine⟨by simp[dueA],fun x hx=>?_⟩
 have:=h.last
 simp only[dueA,List.mem_cons,List.not_mem_nil,or_false]at hx
 rcases hx with rfl|rfl|rfl|rfl<;>simp only<;>omega
theorem FX{n p pot:Int}(hn:1≤n∧n≤60)(hp:0≤p∧p<1000)(hpot:0≤pot∧pot≤1099511627776):(payA n p pot).length≤100∧∀x∈payA n p pot,-1099511627776≤x.2.2∧x.2.2≤1099511627776:=by
 refine⟨by simp[payA],fun x hx=>?_⟩
 simp only[payA,List.mem_cons,List.not_mem_nil,or_false]at hx
 rcases hx with rfl|rfl|rfl|rfl<;>simp only<;>omega
end Go.Proofs.YtllgjognpobnpaaGreatDoor

namespace Go.Proofs.YtllgjognpobnpaaGreatDoor
open Go.RowKit Go.Ab
attribute [local irreducible] AWP Go.Ab.Sub Means MeansH CallK CallG CallT CallGT PanicH DefH
theorem iQ{V:List Int}{i:Nat}{c d:Int}(h:V.getD i d=c):V.set i c=V:=by
 apply List.ext_getElem?
 intro j
 by_cases e:i=j
 ·subst e
  by_cases hi:i<V.length
  ·rw[List.getElem?_set_self hi,List.getElem?_eq_getElem hi,←h,List.getD_eq_getElem?_getD,List.getElem?_eq_getElem hi];rfl
  ·rw[List.getElem?_eq_none (by simp;omega),List.getElem?_eq_none (by omega)]
 ·rw[List.getElem?_set_ne e]
theorem gDI{V:List Int}{k:Nat}(h:k<V.length):V[k]=V.getD k 0:=by rw[List.getD_eq_getElem?_getD,List.getElem?_eq_getElem h];rfl
theorem IC{x:Nd}{V:List Int}{B:Int}(hB:0≤B)(hx:∀m∈x.mv,-1099511627776≤m.2∧m.2≤1099511627776)(hV:∀m∈x.mv,-B≤V.getD m.1 0∧V.getD m.1 0≤B)(k:Nat)(hk:k≤x.mv.length): -(B+1099511627776)≤(bst x V k).1∧(bst x V k).1≤B+1099511627776:=by
 by_cases h0:k=0
 ·subst h0;simp only[bst];omega
 ·obtain⟨j,hj,e⟩:=qP x V k (by omega)
  have hj2:j<x.mv.length:=by omega
  rw[e,gY hj2]
  have h1:=hx _ (List.getElem_mem hj2)
  have h2:=hV _ (List.getElem_mem hj2)
  unfold vAt
  simp only
  omega
theorem DC{G:List Nd}(hG:OkG G):∀t,t≤G.length→∀j,-(1099511627776*(t:Int))≤(sol G t).1.getD j 0∧(sol G t).1.getD j 0≤1099511627776*(t:Int)
 |0,_,j=>by
  simp only[sol,List.getD_eq_getElem?_getD,List.getElem?_replicate]
  split<;>simp
 |t+1,ht,j=>by
  have ih:=DC hG t (by omega)
  have hi:G.length-1-t<G.length:=by omega
  have eG:G.getD (G.length-1-t) nd0=G[G.length-1-t]:=by simp[List.getD_eq_getElem?_getD,List.getElem?_eq_getElem hi]
  simp only[sol,eG]
  by_cases e:G.length-1-t=j
  ·subst e
   rw[mU (by rw[(gX G t).1];exact hi)]
   have ho:=(hG.nd _ hi).to
   have:=IC (V:=(sol G t).1) (B:=1099511627776*(t:Int)) (by omega) (fun m hm=>⟨(ho m hm).2.2.1,(ho m hm).2.2.2⟩) (fun m _=>ih m.1) _ (Nat.le_refl _)
   push_cast
   omega
  ·rw[kT e]
   have:=ih j
   push_cast
   omega
set_option maxHeartbeats 16000000 in
set_option maxRecDepth 20000 in
theorem vH(G:List Nd)(hG:OkG G):MeansH Tryz.prog 71 [] [ndl G] (.tup [.ow 0,.ow 1]) [rowI (vals G),rowI (mvs G)]:=by
 have hl:=hG.len
 have hp:=hG.pos
 have hz:=bJ G
 have c1:=rQ G.length (by omega)
 have w1:=w64 (x:=(G.length:Int)-1) (by omega) (by omega)
 refine yN 0 87 [.tmp 2,.tmp 3] [0,2,3,4,5,6,7,8,9,21,28,29,30,31,75] Tryz.func71 fun X hX=>?_
 (repeat(first|refine aS ?_|refine aP ?_|((first|refine aQ [0,2,3,4,5,6,7,8,9,21,28,29,30,31,75] hX ?_|refine aJ ?_|refine aR ?_);(simp[go_sem];try(refine⟨by kernel_rfl,?_⟩)))))
 refine iH [0,2,3,4,5,6,7,8,9,21,28,29,30,31,75] 3 hX mixed ?_;(simp[go_sem,w1];try(refine⟨by kernel_rfl,?_⟩))
 (repeat refine⟨by first|omega|(rw[bA];omega)|kernel_rfl|grind,?_⟩)
 refine iW [1] (c1) (by simp[go_sem]) (by simp[go_sem]) (by simp[go_sem]) ?_
 (simp[go_sem,w1];try(refine⟨by kernel_rfl,?_⟩))
 refine⟨⟨by kernel_rfl,by kernel_rfl⟩,?_⟩
 (repeat(refine yB ?_;(simp[go_sem,w1])))
 refine aG (fun t:Nat=>⟨mkE [(0,ndl G),(4,.ow 0),(5,.ow 1),(6,ii ((G.length:Int)-1-t))],[rowI (sol G t).1,rowI (sol G t).2]⟩) (fun t=>t≤G.length) (fun t=>G.length-t) 0 ?_ ?_ ?_
 ·refine yS _ [.old 0 ⟨3,1,(sol G 0).1.map ii⟩,.old 2 ⟨3,1,(sol G 0).2.map ii⟩] ?_ (by simp[go_sem,sol,List.map_replicate])
  simp[go_sem]
 ·exact Nat.zero_le _
 intro t ht
 have hlen:=gX G t
 (repeat(refine yB ?_;(simp[go_sem])))
 refine yC (decide (t<G.length)) (fun hc=>?_) (fun hc=>?_) (by simp[go_sem];omega)
 ·simp at hc
  obtain⟨i,hi⟩:∃i:Nat,G.length-1-t=i:=⟨_,rfl⟩
  have hi2:(G.length:Int)-1-t=i:=by omega
  have hiG:i<G.length:=by omega
  have eG:G.getD i nd0=G[i]:=by simp[List.getD_eq_getElem?_getD,List.getElem?_eq_getElem hiG]
  have hx:=hG.nd i hiG
  have hq:=jS hiG
  have hlow:=wT G t (by omega) i (by omega)
  have hbd:=DC hG t (by omega)
  have hs:sol G (t+1)=((sol G t).1.set i (bst G[i] (sol G t).1 G[i].mv.length).1,(sol G t).2.set i (bst G[i] (sol G t).1 G[i].mv.length).2):=by simp only[sol,hi,eG]
  generalize sol G t=S at*
  obtain⟨V,W⟩:=S
  simp only at hlen hlow hbd hs
  obtain⟨hlV,hlW⟩:=hlen
  generalize hx0:G[i]=x at*
  have hxt:=hx.to
  have hxf:=hx.few
  rw[hi2]
  (repeat(refine yB ?_;(simp[go_sem,hiG,hq])))
  refine aG (fun k:Nat=>⟨mkE [(0,ndl G),(4,.ow 0),(5,.ow 1),(6,ii i),(28,.sl (x.mv.map mvv)),(29,ii x.mv.length),(30,ii k)],[rowI (V.set i (bst x V k).1),rowI (W.set i (bst x V k).2)]⟩) (fun k=>k≤x.mv.length) (fun k=>x.mv.length-k) 0 ?_ ?_ ?_
  ·have e1:V.set i (bst x V 0).1=V:=iQ hlow.1
   have e2:W.set i (bst x V 0).2=W:=iQ hlow.2
   rw[e1,e2]
   refine yS _ [.old 0 ⟨3,1,V.map ii⟩,.old 1 ⟨3,1,W.map ii⟩] ?_
   simp[go_sem]
  ·exact Nat.zero_le _
  intro k hk
  (repeat(refine yB ?_;(simp[go_sem])))
  refine yC (decide (k<x.mv.length)) (fun hc2=>?_) fun hc2=>?_
  ·simp at hc2
   have hm:=hxt _ (List.getElem_mem hc2)
   have hqm:=lM hc2
   have hb:=hbd x.mv[k].1
   have ev:vAt V (x.mv.getD k (0,0))=x.mv[k].2+V.getD x.mv[k].1 0:=by rw[gY hc2];rfl
   have ew:(V.set i (bst x V k).1).getD x.mv[k].1 0=V.getD x.mv[k].1 0:=kT (by omega) _ _
   have ec:(V.set i (bst x V k).1).getD i 0=(bst x V k).1:=mU (by omega) _ _
   have hbs:bst x V (k+1)=if k=0∨(x.mine=true∧(bst x V k).1<x.mv[k].2+V.getD x.mv[k].1 0)∨(x.mine=false∧x.mv[k].2+V.getD x.mv[k].1 0<(bst x V k).1)then(x.mv[k].2+V.getD x.mv[k].1 0,(k:Int))else bst x V k:=by rw[bst,ev]
   have hto:x.mv[k].1<(V.set i (bst x V k).1).length:=by simp;omega
   have hii:i<(V.set i (bst x V k).1).length:=by simp;omega
   have hiw:i<(W.set i (bst x V k).2).length:=by simp;omega
   have n1:=cZ hto
   have n2:=cZ hii
   rw[gDI hto,ew]at n1
   rw[gDI hii,ec]at n2
   have n3:=cZ hiw
   rw[gDI hiw,mU (by omega)]at n3
   generalize hbb:bst x V k=b at*
   obtain⟨c,m⟩:=b
   simp only at*
   generalize hmk:x.mv[k]=mk at*
   obtain⟨to,gn⟩:=mk
   simp only at*
   generalize V.getD to 0=vt at*
   rw[List.map_set]at n1 n2 n3
   rw[List.length_set]at hto hii hiw
   have wv:=w64 (x:=gn+vt) (by omega) (by omega)
   have wk:=w64 (x:=(k:Int)+1) (by omega) (by omega)
   have ek:decide ((k:Int)=0)=decide (k=0):=by simp
   (repeat(refine yB ?_;(simp[go_sem,hc2,hqm,hto,n1,wv,hiG,hq,hx0,hii,n2];try(refine⟨by kernel_rfl,?_⟩))))
   (repeat refine⟨by first|omega|(rw[bA];omega)|kernel_rfl|grind,?_⟩)
   refine f9 (b:=decide (k=0)||(x.mine&&decide (c<gn+vt))||(!x.mine&&decide (gn+vt<c))) ?_ (fun hd=>?_) (fun hd=>?_)
   ·cases hmi:x.mine<;>simp[go_sem,hmi]
   ·have hd':k=0∨(x.mine=true∧c<gn+vt)∨(x.mine=false∧gn+vt<c):=by
     cases hmi:x.mine<;>simp[hmi]at hd⊢ <;>omega
    rw[if_pos hd']at hbs
    (repeat(refine yB ?_;(simp[go_sem,hii,hiw,wk,n2,n3])))
    refine⟨k+1,by omega,by omega,?_⟩
    rw[hbs]
    refine yS _ [.old 0 ⟨3,1,(V.set i (gn+vt)).map ii⟩,.old 1 ⟨3,1,(W.set i (k:Int)).map ii⟩] ?_ (by simp[go_sem,n2,n3])
    simp[go_sem,n2,n3]
   ·have hd':¬(k=0∨(x.mine=true∧c<gn+vt)∨(x.mine=false∧gn+vt<c)):=by
     cases hmi:x.mine<;>simp[hmi]at hd⊢ <;>omega
    rw[if_neg hd']at hbs
    (repeat(refine yB ?_;(simp[go_sem,wk])))
    refine⟨k+1,by omega,by omega,?_⟩
    rw[hbs]
    refine yS _ [.old 0 ⟨3,1,(V.set i c).map ii⟩,.old 1 ⟨3,1,(W.set i m).map ii⟩] ?_
    simp[go_sem]
  ·have hk2:k=x.mv.length:=by simp at hc2;omega
   subst hk2
   have wi:=w64 (x:=(i:Int)-1) (by omega) (by omega)
   have ei:(G.length:Int)-1-((t+1:Nat):Int)=(i:Int)-1:=by omega
   (repeat(refine yB ?_;(simp[go_sem,wi])))
   refine⟨t+1,by omega,by omega,?_⟩
   rw[hs,ei]
   refine yS _ [.old 0 ⟨3,1,(V.set i (bst x V x.mv.length).1).map ii⟩,.old 1 ⟨3,1,(W.set i (bst x V x.mv.length).2).map ii⟩] ?_
   simp[go_sem]
 ·have ht2:t=G.length:=by simp at hc;omega
  subst ht2
  (repeat(refine yB ?_;(simp[go_sem])))
  refine aB ?_;refine aA [(2,.ow 0),(3,.ow 1)] [.old 0 ⟨3,1,(vals G).map ii⟩,.old 1 ⟨3,1,(mvs G).map ii⟩] ?_
  simp[go_sem,vals,mvs]
end Go.Proofs.YtllgjognpobnpaaGreatDoor

namespace Go.Proofs.YtllgjognpobnpaaGreatDoor
open Go.RowKit Go.Ab
attribute [local irreducible] AWP Go.Ab.Sub Means MeansH CallK CallG CallT CallGT PanicH PanicX DefH CallU
theorem GN(b:Bl)(h:OkB b)(n:Int)(p:Nat)(hn:1≤n∧n≤60)(hp:p<1000)(he:(dueC b n p).2=0):0≤dv b n p∧dv b n p≤1099511627776:=by
 have:=(uI b h _ (.inl rfl) _ (xK b h n p hn hp)).1 he
 unfold bnd at this
 unfold dv dueC
 omega
theorem DD(b:Bl)(h:OkB b)(n:Int)(k p j:Nat)(hn:1≤n∧n≤60)(hk:(k:Int)≤n)(hj:j≤k)(hd:0≤dv b n p∧dv b n p≤1099511627776)(hm:n*dv b n p≤1099511627776):
  (0≤dv b n p*b.fund∧dv b n p*b.fund≤1099511627776000)∧(0≤(dv b n p*b.fund).tdiv 1000∧(dv b n p*b.fund).tdiv 1000≤dv b n p)∧0≤potC b n k p j∧potC b n k p j≤1099511627776:=by
 have hf:=h.fund
 unfold potC
 generalize dv b n p=d at*
 have h1:0≤d*b.fund:=Int.mul_nonneg hd.1 hf.1
 have h2:d*b.fund≤d*1000:=Int.mul_le_mul_of_nonneg_left hf.2 hd.1
 have h3:(d*b.fund).tdiv 1000=d*b.fund/1000:=Int.tdiv_eq_ediv_of_nonneg h1
 rw[h3]
 generalize d*b.fund=f at*
 have hq:0≤d-f/1000∧d-f/1000≤d:=by omega
 have hpay:0≤(if b.backs=0 then n-k+j else n)∧(if b.backs=0 then n-k+j else n)≤n:=by split<;>omega
 generalize(if b.backs=0 then n-k+j else n)=y at*
 refine⟨by omega,by omega,Int.mul_nonneg hpay.1 hq.1,?_⟩
 have h4:y*(d-f/1000)≤n*(d-f/1000):=Int.mul_le_mul_of_nonneg_right hpay.2 hq.1
 have h5:n*(d-f/1000)≤n*d:=Int.mul_le_mul_of_nonneg_left hq.2 (by omega)
 omega
theorem GO{n d:Int}{j:Nat}(hj:(j:Int)≤n)(hd:0≤d)(hm:n*d≤1099511627776):0≤(j:Int)*d∧(j:Int)*d≤1099511627776:=by
 refine⟨Int.mul_nonneg (by omega) hd,?_⟩
 have:(j:Int)*d≤n*d:=Int.mul_le_mul_of_nonneg_right hj hd
 omega
theorem vF(b:Bl)(h:OkB b)(n:Int)(k p:Nat)(hn:1≤n∧n≤60)(hk:(k:Int)≤n)(hp:p<1000)(he:(gnL b n k p).2=0):OkGn k (gnL b n k p).1:=by
 unfold gnL at he⊢
 split
 ·exact⟨by simp,by simp[List.getD_eq_getElem?_getD],fun x hx=>by rw[(List.mem_replicate.1 hx).2];omega⟩
 ·rename_i h1
  rw[if_neg h1]at he
  split
  ·rename_i h2;rw[if_pos h2]at he;exact absurd he h2
  ·rename_i h2
   rw[if_neg h2]at he
   have hd:=GN b h n p hn hp (by simpa using h2)
   split
   ·rename_i h3;rw[if_pos h3]at he;cases he
   ·rename_i h3
    refine(fun(q:OkGn k (outC b n k p 0))=>?_) ⟨tE b n k p 0,?_,?_⟩
    ·split
     ·rename_i h4;rw[if_neg h3,if_pos h4]at he;exact absurd he h4
     ·exact q
    ·simp[outC,List.getD_eq_getElem?_getD,gnC]
    ·intro x hx
     obtain⟨j,hj,rfl⟩:=List.mem_map.1 hx
     have hj:j<k+1:=List.mem_range.1 hj
     have hpo:=(DD b h n k p j hn hk (by omega) hd (by omega)).2.2
     have hjd:=GO (j:=j) (n:=n) (by omega) hd.1 (by omega)
     rw[if_pos (Nat.zero_le _)]
     unfold gnC
     split<;>omega
set_option maxHeartbeats 16000000 in
set_option maxRecDepth 20000 in
theorem xE(b:Bl)(h:OkB b)(n:Int)(k p:Nat)(hn:1≤n∧n≤60)(hk:(k:Int)≤n)(hp:p<1000):Means true Tryz.prog 31 [circ b n k,ii p] (.tup [il (gnL b n k p).1,ii (gnL b n k p).2]):=by
 have e1:=lT [109,101,109,98,101,114,115] n
 have e2:=lT [112,101,114,105,111,100] p
 have e3:=lT [108,97,115,116] b.last
 have hda:=xK b h n p hn hp
 have cd:=vG b h n k _ (.inl rfl) _ hda
 have hgo:=GN b h n p hn hp
 have w1:=w64 (x:=(k:Int)+1) (by omega) (by omega)
 have w2:=w64 (x:=(p:Int)*b.period) (by have:=h.period;have:=g9 (p:=(p:Int)) (l:=b.period) (by omega) (by omega) (by omega) (by omega);omega) (by have:=h.period;have:=g9 (p:=(p:Int)) (l:=b.period) (by omega) (by omega) (by omega) (by omega);omega)
 have hv:gnL b n k p=if b.kind=2 then(List.replicate (k+1) 0,0)else if(dueC b n p).2≠0 then([],(dueC b n p).2)else if 1099511627776<n*dv b n p then([],3)else
  if feC b n k p (k+1)≠0 then([],feC b n k p (k+1))else(outC b n k p 0,0):=rfl
 generalize gnL b n k p=R at*
 refine yM true 124 [.tmp 4,.tmp 5] [0,1,2,4,5,6,7,8,9,10,11,12,13,21,44,48,57,67,73,106] Tryz.func31 fun X hX=>?_
 (repeat(refine yA ?_;(simp[go_sem,w1])))
 (repeat refine⟨by first|omega|(rw[bA];omega)|kernel_rfl|grind,?_⟩)
 (repeat(refine yA ?_;(simp[go_sem,w1])))
 by_cases hkd:b.kind=2
 ·rw[if_pos hkd]at hv
  subst hv
  refine aC (by simp[go_sem,hkd]) ?_
  (repeat(refine yA ?_;(simp[go_sem])))
 rw[if_neg hkd]at hv
 refine a8 (by simp[go_sem,hkd]) ?_
 obtain⟨D,hD⟩:∃D,D=dueC b n p:=⟨_,rfl⟩
 have cd':=cd
 rw[show claV b [100,117,101] (dueA b n p)=D from hD.symm]at cd
 have hdv:max D.1 0=dv b n p:=by rw[hD];rfl
 rw[hdv]at cd
 simp only[dueA,List.map_cons,List.map_nil]at cd
 rw[←hD]at hv hgo
 clear cd'
 (repeat(refine yA ?_;(simp[go_sem,w2])))
 refine bH e1 ?_
 simp[go_sem,w2]
 refine bH e2 ?_
 simp[go_sem,w2]
 refine bH e3 ?_
 simp[go_sem,w2]
 refine bH cd ?_
 (simp[go_sem,w2];try(refine⟨by kernel_rfl,?_⟩))
 (repeat refine⟨by first|omega|(rw[bA];omega)|kernel_rfl|grind,?_⟩)
 (repeat(refine yA ?_;(simp[go_sem,w2])))
 by_cases hde:D.2=0
 case neg=>
  rw[if_pos hde]at hv
  subst hv
  refine aC (by simp[go_sem,hde]) ?_
  (repeat(refine yA ?_;(simp[go_sem])))
 rw[if_neg (by simp[hde])]at hv
 obtain⟨hd0,hd1⟩:=hgo hde
 have hnd0:0≤n*dv b n p:=Int.mul_nonneg (by omega) hd0
 have hnd1:n*dv b n p≤60*1099511627776:=Int.mul_le_mul hn.2 hd1 hd0 (by omega)
 have w3:=w64 (x:=n*dv b n p) (by omega) (by omega)
 refine a8 (by simp[go_sem,hde]) ?_
 (repeat(refine yA ?_;(simp[go_sem,w3])))
 by_cases hbig:1099511627776<n*dv b n p
 ·rw[if_pos hbig]at hv
  subst hv
  refine aC (by simp[go_sem,hbig]) ?_
  (repeat(refine yA ?_;(simp[go_sem])))
 rw[if_neg hbig]at hv
 refine a8 (by simp[go_sem,hbig]) ?_
 have hpot:=fun j hj=>DD b h n k p j hn hk hj ⟨hd0,hd1⟩ (by omega)
 have hjd:=fun j hj=>GO (n:=n) (d:=dv b n p) (j:=j) hj hd0 (by omega)
 have cp:=fun pot hpot=>vG b h n k [112,97,121] (.inr (.inl rfl)) (payA n p pot) (FX hn (by omega) hpot)
 have f1:=r9 [112,111,116]
 have f2:=r9 [98,105,100] 0
 have hgT:∀j:Nat,p<k∧0<j→gnC b n k p j=min (max (payC b n p (potC b n k p j)).1 0) (potC b n k p j)-j*dv b n p∧geC b n k p j=(payC b n p (potC b n k p j)).2:=fun j hj=>⟨by unfold gnC;rw[if_pos hj],by unfold geC;rw[if_pos hj]⟩
 have hgF:∀j:Nat,¬(p<k∧0<j)→gnC b n k p j=0-j*dv b n p∧geC b n k p j=0:=fun j hj=>⟨by unfold gnC;rw[if_neg hj],by unfold geC;rw[if_neg hj]⟩
 have hfT:∀j,feC b n k p (j+1)=if geC b n k p j≠0 then geC b n k p j else feC b n k p j:=fun _=>rfl
 have hpo:∀j:Nat,potC b n k p j=(if b.backs=0 then n-k+j else n)*(dv b n p-(dv b n p*b.fund).tdiv 1000):=fun _=>rfl
 have hO0:=DA b n k p
 have hOs:=fun u hu c=>DB b n k p u hu c
 have hOa:=fun u hu=>FW b n k p u hu
 have hOl:=fun t=>tE b n k p t
 clear hgo cd hnd0 hnd1 w3
 generalize dv b n p=d at*
 (repeat(refine yA ?_;(simp[go_sem])))
 refine aG (fun t:Nat=>⟨mkE [(1,ii p),(2,.el 0 39 0 0),(6,.ow 1),(7,ii d),(9,ii ((t:Int)-1))],[.row ⟨90,39,[circ b n k]⟩,rowI (outC b n k p t)]⟩) (fun t=>t≤k+1∧feC b n k p (k+1)=feC b n k p t) (fun t=>t) (k+1) ?_ ?_ ?_
 ·rw[hO0]
  refine yS _ [.old 0 ⟨90,39,[circ b n k]⟩,.old 1 ⟨3,1,(List.replicate (k+1) (0:Int)).map ii⟩] ?_ (by simp[go_sem,List.map_replicate])
  simp[go_sem]
 ·exact⟨Nat.le_refl _,rfl⟩
 rintro t ⟨ht,hfe⟩
 rcases Nat.eq_zero_or_pos t with rfl|htp
 ·rw[hfe,show feC b n k p 0=0 from rfl,if_neg (by simp)]at hv
  subst hv
  (repeat(refine yA ?_;(simp[go_sem])))
  refine a8 (by simp[go_sem]) ?_
  (repeat(refine yA ?_;(simp[go_sem])))
 obtain⟨u,rfl⟩:∃u,t=u+1:=⟨t-1,by omega⟩
 rw[show((u+1:Nat):Int)-1=u by omega]
 have hs:=hOs u (by omega)
 have hat:=hOa u (by omega)
 have hlen:=hOl (u+1)
 generalize outC b n k p (u+1)=O at*
 have hju:=hjd u (by omega)
 have hfu:=hfT u
 rw[←hfe]at hfu
 have v1:=w64 (x:=(u:Int)*d) (by omega) (by omega)
 have v2:=w64 (x:=(u:Int)-1) (by omega) (by omega)
 have huO:u<O.length:=by omega
 (repeat(refine yA ?_;(simp[go_sem])))
 refine aC (by simp[go_sem]) ?_
 by_cases hpu:p<k∧0<u
 ·obtain⟨g1,g2⟩:=hgT u hpu
  obtain⟨q1,q2,q3,q4⟩:=hpot u (by omega)
  have hpe:=hpo u
  have cpu:=cp _ ⟨q3,q4⟩
  have f1u:=f1 (potC b n k p u)
  rw[g2]at hfu
  generalize potC b n k p u=pot at*
  rw[show claV b [112,97,121] (payA n p pot)=payC b n p pot from rfl]at cpu
  generalize payC b n p pot=Y at*
  obtain⟨y,e⟩:=Y
  simp only[payA,List.map_cons,List.map_nil]at cpu g1 hfu
  have hs2:=hs (min (max y 0) pot)
  rw[g1,List.set_set]at hs2
  have huM:u<(O.set u (min (max y 0) pot)).length:=by simpa using huO
  have hq:=cZ huM
  rw[gDI huM,mU huO,List.map_set]at hq
  have hfd:=h.fund
  have a1:=w64 (x:=n-k) (by omega) (by omega)
  have a2:=w64 (x:=n-k+u) (by omega) (by omega)
  have a3:=w64 (x:=d*b.fund) (by omega) (by omega)
  have a4:=w64 (x:=(d*b.fund).tdiv 1000) (by omega) (by omega)
  have a5:=w64 (x:=d-(d*b.fund).tdiv 1000) (by omega) (by omega)
  have a6:=w64 (x:=pot) (by omega) (by omega)
  have v3:=w64 (x:=min (max y 0) pot-(u:Int)*d) (by omega) (by omega)
  (repeat(refine yA ?_;(simp[go_sem])))
  refine aC (by simp[go_sem,hpu]) ?_
  (repeat(refine yA ?_;(simp[go_sem])))
  by_cases hb0:b.backs=0
  ·rw[if_pos hb0]at hpe
   refine aC (by simp[go_sem,hb0]) ?_
   (repeat(refine yA ?_;(simp[go_sem,a1,a2,a3,a4,a5,a6,←hpe])))
   refine bH f1u ?_
   simp[go_sem]
   refine bH f2 ?_
   simp[go_sem]
   refine bH e1 ?_
   simp[go_sem]
   refine bH e2 ?_
   simp[go_sem]
   refine bH cpu ?_
   (simp[go_sem];try(refine⟨by kernel_rfl,?_⟩))
   (repeat refine⟨by first|omega|(rw[bA];omega)|kernel_rfl|grind,?_⟩)
   (repeat(refine yA ?_;(simp[go_sem])))
   by_cases hee:e=0
   ·rw[if_neg (by simp[hee])]at hfu
    refine a8 (by simp[go_sem,hee]) ?_
    (repeat(refine yA ?_;(simp[go_sem,huO,v1,hq,v3,v2])))
    refine⟨u,⟨by omega,hfu⟩,by omega,?_⟩
    rw[←hs2]
    refine yS _ [.old 0 ⟨90,39,[circ b n k]⟩,.old 1 ⟨3,1,(O.set u (min (max y 0) pot-(u:Int)*d)).map ii⟩] ?_
    simp[go_sem]
   ·rw[if_pos hee]at hfu
    rw[hfu,if_pos hee]at hv
    subst hv
    refine aC (by simp[go_sem,hee]) ?_
    (repeat(refine yA ?_;(simp[go_sem])))
  ·rw[if_neg hb0]at hpe
   refine a8 (by simp[go_sem,hb0]) ?_
   (repeat(refine yA ?_;(simp[go_sem,a1,a2,a3,a4,a5,a6,←hpe])))
   refine bH f1u ?_
   simp[go_sem]
   refine bH f2 ?_
   simp[go_sem]
   refine bH e1 ?_
   simp[go_sem]
   refine bH e2 ?_
   simp[go_sem]
   refine bH cpu ?_
   (simp[go_sem];try(refine⟨by kernel_rfl,?_⟩))
   (repeat refine⟨by first|omega|(rw[bA];omega)|kernel_rfl|grind,?_⟩)
   (repeat(refine yA ?_;(simp[go_sem])))
   by_cases hee:e=0
   ·rw[if_neg (by simp[hee])]at hfu
    refine a8 (by simp[go_sem,hee]) ?_
    (repeat(refine yA ?_;(simp[go_sem,huO,v1,hq,v3,v2])))
    refine⟨u,⟨by omega,hfu⟩,by omega,?_⟩
    rw[←hs2]
    refine yS _ [.old 0 ⟨90,39,[circ b n k]⟩,.old 1 ⟨3,1,(O.set u (min (max y 0) pot-(u:Int)*d)).map ii⟩] ?_
    simp[go_sem]
   ·rw[if_pos hee]at hfu
    rw[hfu,if_pos hee]at hv
    subst hv
    refine aC (by simp[go_sem,hee]) ?_
    (repeat(refine yA ?_;(simp[go_sem])))
 ·obtain⟨g1,g2⟩:=hgF u hpu
  rw[g2,if_neg (by simp)]at hfu
  have hq:=cZ huO
  rw[gDI huO,hat]at hq
  have hs2:=hs 0
  rw[g1,iQ hat,Int.zero_sub]at hs2
  have v3:=w64 (x:= -((u:Int)*d)) (by omega) (by omega)
  (repeat(refine yA ?_;(simp[go_sem])))
  refine a8 (by simp[go_sem];omega) ?_
  (repeat(refine yA ?_;(simp[go_sem,huO,hq,v1,v3,v2])))
  refine⟨u,⟨by omega,hfu⟩,by omega,?_⟩
  rw[←hs2]
  refine yS _ [.old 0 ⟨90,39,[circ b n k]⟩,.old 1 ⟨3,1,(O.set u (-((u:Int)*d))).map ii⟩] ?_
  simp[go_sem]
end Go.Proofs.YtllgjognpobnpaaGreatDoor

namespace Go.Proofs.YtllgjognpobnpaaGreatDoor
open Go.RowKit Go.Ab
def rgt(n:Int):Int→List Int→Bool
 |_,[]=>true
 |c,x::l=> !decide (x≤c)&& !decide (n≤x)&&rgt n x l
theorem eD{n:Int}:∀(l:List Int) (c:Int),c<n→rgt n c l=true→(l.length:Int)≤n-1-c
 | [],c,hc,_=>by simp;omega
 |x::l,c,hc,h=>by
  simp only[rgt,Bool.and_eq_true,Bool.not_eq_true',decide_eq_false_iff_not]at h
  have:=eD l x (by omega) h.2
  simp only[List.length_cons]
  omega
def seqC(s:Nat):List Int:=(List.range s).map fun i:Nat=>(i:Int)
theorem nF(s:Nat):(seqC s).length=s:=by simp[seqC]
theorem D7(s:Nat):seqC (s+1)=seqC s++[(s:Int)]:=by simp[seqC,List.range_succ]
theorem tF{n x:Int}:∀(l:List Int) (c:Int),rgt n c l=true→(∀y∈c::l,y<x)→x<n→rgt n c (l++[x])=true
 | [],c,_,h,hx=>by simp[rgt];have:=h c (by simp);omega
 |y::l,c,h0,h,hx=>by
  simp only[rgt,Bool.and_eq_true,List.cons_append]at h0⊢
  exact⟨h0.1,tF l y h0.2 (fun z hz=>h z (by simp at hz⊢;rcases hz with rfl|hz<;>simp[*])) hx⟩
theorem sZ{n:Int}:∀s:Nat,(s:Int)≤n→rgt n (-1) (seqC s)=true
 |0,_=>rfl
 |s+1,h=>by
  rw[D7]
  refine tF _ _ (sZ s (by omega)) (fun y hy=>?_) (by omega)
  simp only[List.mem_cons,seqC,List.mem_map,List.mem_range]at hy
  rcases hy with rfl|⟨i,hi,rfl⟩<;>omega
noncomputable def feG(b:Bl)(n:Int)(k:Nat):Nat→Int
 |0=>0
 |p+1=>if feG b n k p≠0 then feG b n k p else(gnL b n k p).2
theorem xL{b:Bl}{n:Int}{k:Nat}:∀{p q:Nat},feG b n k p=0→q<p→(gnL b n k q).2=0
 |0,q,_,hq=>absurd hq (by omega)
 |p+1,q,h,hq=>by
  rw[feG]at h
  split at h
  ·rename_i h1;exact absurd h h1
  ·rename_i h1
   by_cases e:q=p
   ·subst e;exact h
   ·exact xL (by simpa using h1) (by omega)
theorem nE{b:Bl}{n:Int}{k:Nat}:∀{p q:Nat},p≤q→feG b n k p≠0→feG b n k q=feG b n k p
 |p,0,h,_=>by have:p=0:=by omega
              subst this;rfl
 |p,q+1,h,hne=>by
  by_cases e:p=q+1
  ·subst e;rfl
  ·have:=nE (q:=q) (by omega) hne
   rw[feG,if_pos (by rw[this];exact hne),this]
noncomputable def gml(b:Bl)(n:Int)(k:Nat):List Nd:=gameL n b.voices k b.last.toNat fun p=>(gnL b n k p).1
noncomputable def errG(b:Bl)(n:Int)(C:List Int):Int:=if rgt n (-1) C=true then(if 7<C.length then 6 else feG b n C.length b.last.toNat)else 1
structure Fit(b:Bl)(n:Int):Prop where
 ok:OkB b
 n:1≤n∧n≤8
 last:b.last≤12
 sol:solvE (calL b.period b.wait b.grace) FF=0
theorem iA{b:Bl}{n:Int}{C:List Int}(h:errG b n C=0):rgt n (-1) C=true∧C.length≤7∧feG b n C.length b.last.toNat=0:=by
 unfold errG at h
 split at h
 ·rename_i h1
  split at h
  ·cases h
  ·exact⟨h1,by omega,h⟩
 ·cases h
theorem nC{b:Bl}{n:Int}(hf:Fit b n){k:Nat}(hk:k≤7)(hkn:(k:Int)≤n)(h:feG b n k b.last.toNat=0):OkG (gml b n k)∧0≤(vals (gml b n k)).getD 0 0:=by
 have hl:=hf.last
 have hn:=hf.n
 have hlt:b.last.toNat≤12:=by omega
 have hb:2*(k+1)*b.last.toNat≤16*12:=Nat.mul_le_mul (by omega) hlt
 have hG:∀p,p<b.last.toNat→OkGn k (gnL b n k p).1:=fun p hp=>vF b hf.ok n k p (by omega) hkn (by omega) (xL h hp)
 exact⟨sJ hk (by omega) hG,FG hk (by omega) hG⟩
end Go.Proofs.YtllgjognpobnpaaGreatDoor

namespace Go.Proofs.YtllgjognpobnpaaGreatDoor
open Go.RowKit Go.Ab
attribute [local irreducible] AWP Go.Ab.Sub Means MeansH CallK CallG CallT CallGT PanicH DefH
theorem iB{HS:List Src}{H:List Cell}{m:Bool}{id E k:Nat}{M:List (Nat×Int)}(h1:H[id]? =some (.row ⟨E,k,M.map mvv⟩))(h2:HS.any (Src.isOld id)=false):∀L:List Nd,okEs HS H (L.map ndv++[.agg [bb m,.ow id]]) (L.map ndv++[ndv ⟨m,M⟩])
 | []=>⟨⟨rfl,.inr (.inr (.inl ⟨id,_,rfl,h1,rfl,lU M,h2⟩)),trivial⟩,trivial⟩
 |x::L=>⟨⟨rfl,.inl rfl,trivial⟩,iB h1 h2 L⟩
def mvS(at0 k:Nat)(g:List Int)(j r:Nat):List (Nat×Int):=(List.range r).map fun r=>(at0+(k+1)+k-(j-r),g.getD (j-r) 0)
theorem J9(at0 k:Nat)(g:List Int)(j r:Nat):mvS at0 k g j (r+1)=mvS at0 k g j r++[(at0+(k+1)+k-(j-r),g.getD (j-r) 0)]:=by
 simp[mvS,List.range_succ]
theorem FY(at0 k:Nat)(g:List Int)(j r:Nat):(mvS at0 k g j r).length=r:=by simp[mvS]
def mN(at0 k:Nat)(g:List Int)(t:Nat):List Nd:=(List.range t).map (ndM at0 k g)
theorem JF(at0 k:Nat)(g:List Int)(t:Nat):mN at0 k g (t+1)=mN at0 k g t++[⟨true,mvS at0 k g (k-t) (k-t+1)⟩]:=by
 simp only[mN,List.range_succ,List.map_append,List.map_cons,List.map_nil];rfl
theorem DE(at0 k:Nat)(g:List Int)(t:Nat):(mN at0 k g t).length=t:=by simp[mN]
def oN(at0 en k:Nat)(lp:Bool)(n vo:Int)(g:List Int)(t:Nat):List Nd:=mN at0 k g (k+1)++(List.range t).map (ndO at0 en k lp n vo)
theorem JI(at0 en k:Nat)(lp:Bool)(n vo:Int)(g:List Int)(t:Nat):oN at0 en k lp n vo g (t+1)=oN at0 en k lp n vo g t++[ndO at0 en k lp n vo t]:=by
 simp only[oN,List.range_succ,List.map_append,List.map_cons,List.map_nil,List.append_assoc]
theorem ID(at0 en k:Nat)(lp:Bool)(n vo:Int)(g:List Int)(t:Nat):(oN at0 en k lp n vo g t).length=k+1+t:=by simp[oN,DE]
set_option maxHeartbeats 16000000 in
set_option maxRecDepth 20000 in
theorem sX(b:Bl)(h:OkB b)(n:Int)(k p at0 en:Nat)(g:List Int)(hg:g.length=k+1)(hn:1≤n∧n≤60)(hk:k≤9)(hkn:(k:Int)≤n)(hp:p<1000)(hat:at0≤3000)(hen:en≤3000):
  Means false Tryz.prog 32 [circ b n k,ii p,ii at0,ii en,il g] (.sl ((ndsP at0 en k (decide ((p:Int)=b.last-1)) n b.voices g).map ndv)):=by
 have w1:=w64 (x:=(k:Int)+1) (by omega) (by omega)
 have hl:=h.last
 refine yM false 97 [.tmp 10] [0,1,2,3,4,5,10,11,12,13,14,15,16,17,18,25,31,59,76,84] Tryz.func32 fun X hX=>?_
 (repeat(refine yA ?_;(simp[go_sem,w1])))
 refine aG (fun t:Nat=>⟨mkE [(1,ii p),(2,ii at0),(3,ii en),(4,il g),(5,.el 0 39 0 0),(11,.ow 1),(12,ii ((k:Int)+1)),(13,ii ((k:Int)-t))],[.row ⟨90,39,[circ b n k]⟩,.row ⟨96,2,(mN at0 k g t).map ndv⟩]⟩) (fun t=>t≤k+1) (fun t=>k+1-t) 0 ?_ ?_ ?_
 ·refine yS _ [.old 0 ⟨90,39,[circ b n k]⟩,.birth 96 2] ?_ (by simp[go_sem,mN])
  simp[go_sem,mN]
 ·exact Nat.zero_le _
 ·intro t ht
  (repeat(refine yA ?_;(simp[go_sem])))
  refine yC (decide (t<k+1)) (fun hc=>?_) (fun hc=>?_) (by simp[go_sem];omega)
  ·simp at hc
   obtain⟨j,hj⟩:∃j:Nat,k-t=j:=⟨_,rfl⟩
   have hj2:(k:Int)-t=j:=by omega
   have hs:=JF at0 k g t
   have hL:=DE at0 k g t
   rw[hj]at hs
   generalize mN at0 k g t=L at*
   rw[hj2]
   (repeat(refine yA ?_;(simp[go_sem])))
   refine aG (fun r:Nat=>⟨mkE [(1,ii p),(2,ii at0),(3,ii en),(4,il g),(5,.el 0 39 0 0),(11,.ow 1),(12,ii ((k:Int)+1)),(13,ii j),(14,.el 2 2 0 0),(15,ii ((j:Int)-r))],[.row ⟨90,39,[circ b n k]⟩,.row ⟨96,2,L.map ndv⟩,.row ⟨96,2,[.agg [bb true,.ow 3]]⟩,.row ⟨99,2,(mvS at0 k g j r).map mvv⟩]⟩) (fun r=>r≤j+1) (fun r=>j+1-r) 0 ?_ ?_ ?_
   ·refine yS _ [.old 0 ⟨90,39,[circ b n k]⟩,.old 1 ⟨96,2,L.map ndv⟩,.old 2 ⟨96,2,[.agg [bb true,.ow 3]]⟩,.birth 99 2] ?_ (by simp[go_sem,mvS])
    simp[go_sem,mvS,okF,okC,okB]
   ·exact Nat.zero_le _
   intro r hr
   have hML:=FY at0 k g j r
   (repeat(refine yA ?_;(simp[go_sem])))
   refine yC (decide (r<j+1)) (fun hd=>?_) (fun hd=>?_) (by simp[go_sem];omega)
   ·simp at hd
    obtain⟨i,hi⟩:∃i:Nat,j-r=i:=⟨_,rfl⟩
    have hi2:(j:Int)-r=i:=by omega
    have hig:i<g.length:=by omega
    have hq:=cZ hig
    have hs2:=J9 at0 k g j r
    rw[hi,←gDI hig]at hs2
    generalize g[i]=y at*
    obtain⟨to,hto⟩:∃to:Nat,at0+(k+1)+k-i=to:=⟨_,rfl⟩
    rw[hto]at hs2
    generalize mvS at0 k g j r=S at*
    have v1:=w64 (x:=(at0:Int)+((k:Int)+1)) (by omega) (by omega)
    have v2:=w64 (x:=(at0:Int)+((k:Int)+1)+k) (by omega) (by omega)
    have v3:IntKind.i64.wrap ((at0:Int)+((k:Int)+1)+k-i)=(to:Int):=by rw[w64 (by omega) (by omega)];omega
    have v4:=w64 (x:=(i:Int)-1) (by omega) (by omega)
    rw[hi2]
    (repeat(refine yA ?_;(simp[go_sem,v1,v2,v3,hig,hq])))
    (repeat refine⟨by first|omega|(rw[bA];omega)|kernel_rfl|grind,?_⟩)
    (repeat(refine yA ?_;(simp[go_sem,v4])))
    refine⟨r+1,by omega,by omega,?_⟩
    rw[hs2,show(j:Int)-((r+1:Nat):Int)=(i:Int)-1 by omega]
    refine yS _ [.old 0 ⟨90,39,[circ b n k]⟩,.old 1 ⟨96,2,L.map ndv⟩,.old 2 ⟨96,2,[.agg [bb true,.ow 3]]⟩,.old 5 ⟨99,2,(S++[(to,y)]).map mvv⟩] ?_
    simp[go_sem,okF,okC,okB]
   ·have hr2:r=j+1:=by simp at hd;omega
    subst hr2
    generalize mvS at0 k g j (j+1)=S at*
    have v5:=w64 (x:=(j:Int)-1) (by omega) (by omega)
    (repeat(refine yA ?_;(simp[go_sem,v5])))
    (repeat refine⟨by first|omega|(rw[bA];omega)|kernel_rfl|grind,?_⟩)
    (repeat(refine yA ?_;(simp[go_sem,v5])))
    refine⟨t+1,by omega,by omega,?_⟩
    rw[hs,show(k:Int)-((t+1:Nat):Int)=(j:Int)-1 by omega]
    refine yS _ [.old 0 ⟨90,39,[circ b n k]⟩,.old 5 ⟨96,2,(L++[(⟨true,S⟩:Nd)]).map ndv⟩] ?_ (by simp[go_sem];exact iB rfl rfl L)
    simp[go_sem]
  ·have ht2:t=k+1:=by simp at hc;omega
   subst ht2
   clear hc ht
   have hN0:oN at0 en k (decide ((p:Int)=b.last-1)) n b.voices g 0=mN at0 k g (k+1):=by simp[oN]
   have hNe:oN at0 en k (decide ((p:Int)=b.last-1)) n b.voices g (k+1)=ndsP at0 en k (decide ((p:Int)=b.last-1)) n b.voices g:=rfl
   have hlq:decide ((p:Int)=b.last-1)=decide ((p:Int)=b.last-1):=rfl
   have wl:=w64 (x:=b.last-1) (by omega) (by omega)
   rw[←hNe,←hN0]
   clear hNe hN0
   generalize hlp:decide ((p:Int)=b.last-1)=lp at*
   (repeat(refine yA ?_;(simp[go_sem])))
   refine aG (fun t:Nat=>⟨mkE [(1,ii p),(2,ii at0),(3,ii en),(5,.el 0 39 0 0),(11,.ow 1),(12,ii ((k:Int)+1)),(16,ii ((k:Int)-t))],[.row ⟨90,39,[circ b n k]⟩,.row ⟨96,2,(oN at0 en k lp n b.voices g t).map ndv⟩]⟩) (fun t=>t≤k+1) (fun t=>k+1-t) 0 ?_ ?_ ?_
   ·refine yS _ [.old 0 ⟨90,39,[circ b n k]⟩,.old 1 ⟨96,2,(oN at0 en k lp n b.voices g 0).map ndv⟩] ?_
    simp[go_sem]
   ·exact Nat.zero_le _
   intro t ht
   have hs:=JI at0 en k lp n b.voices g t
   have hL:=ID at0 en k lp n b.voices g t
   generalize hLe:oN at0 en k lp n b.voices g t=L at*
   (repeat(refine yA ?_;(simp[go_sem])))
   refine yC (decide (t<k+1)) (fun hc=>?_) (fun hc=>?_) (by simp[go_sem];omega)
   ·simp at hc
    obtain⟨j,hj⟩:∃j:Nat,k-t=j:=⟨_,rfl⟩
    have hj2:(k:Int)-t=j:=by omega
    have ce:=IB b h n k j hn hkn
    have v1:=w64 (x:=2*((k:Int)+1)) (by omega) (by omega)
    have v2:=w64 (x:=(at0:Int)+2*((k:Int)+1)) (by omega) (by omega)
    have v3:=w64 (x:=(at0:Int)+2*((k:Int)+1)+k) (by omega) (by omega)
    obtain⟨nx,hnx⟩:∃nx:Nat,at0+2*(k+1)+t=nx:=⟨_,rfl⟩
    have v4:IntKind.i64.wrap ((at0:Int)+2*((k:Int)+1)+k-j)=(nx:Int):=by rw[w64 (by omega) (by omega)];omega
    have v5:=w64 (x:=(j:Int)-1) (by omega) (by omega)
    have ho:ndO at0 en k lp n b.voices t=⟨false,((if lp then en else nx),0)::if endsC n k b.voices j then[(en,0)]else[]⟩:=by unfold ndO;rw[hj,hnx]
    rw[ho]at hs
    clear ho
    generalize endsC n k b.voices j=eb at*
    rw[hj2]
    (repeat(refine yA ?_;(simp[go_sem,v1,v2,v3,v4,wl])))
    have hz:=bJ L
    cases lp with
    |true=>
     refine aC (by simp[go_sem];simpa using hlp) ?_
     (repeat(refine yA ?_;(simp[go_sem])))
     refine aD ce ?_
     cases eb with
     |true=>
      refine aC (by simp[go_sem]) ?_
      (repeat(refine yA ?_;(simp[go_sem])))
      (repeat refine⟨by first|omega|(rw[bA];omega)|kernel_rfl|grind,?_⟩)
      (repeat(refine yA ?_;(simp[go_sem,v5])))
      (repeat refine⟨by first|omega|(rw[bA];omega)|kernel_rfl|grind,?_⟩)
      (repeat(refine yA ?_;(simp[go_sem,v5])))
      refine⟨t+1,by omega,by omega,?_⟩
      rw[hs,show(k:Int)-((t+1:Nat):Int)=(j:Int)-1 by omega]
      refine yS _ [.old 0 ⟨90,39,[circ b n k]⟩,.old 7 ⟨96,2,(L++[(⟨false,[(en,0),(en,0)]⟩:Nd)]).map ndv⟩] ?_ (by simp[go_sem];exact iB (M:=[(en,0),(en,0)]) rfl rfl L)
      simp[go_sem]
     |false=>
      refine a8 (by simp[go_sem]) ?_
      (repeat(refine yA ?_;(simp[go_sem])))
      (repeat refine⟨by first|omega|(rw[bA];omega)|kernel_rfl|grind,?_⟩)
      (repeat(refine yA ?_;(simp[go_sem,v5])))
      refine⟨t+1,by omega,by omega,?_⟩
      rw[hs,show(k:Int)-((t+1:Nat):Int)=(j:Int)-1 by omega]
      refine yS _ [.old 0 ⟨90,39,[circ b n k]⟩,.old 5 ⟨96,2,(L++[(⟨false,[(en,0)]⟩:Nd)]).map ndv⟩] ?_ (by simp[go_sem];exact iB (M:=[(en,0)]) rfl rfl L)
      simp[go_sem]
    |false=>
     refine a8 (by simp[go_sem];simpa using hlp) ?_
     (repeat(refine yA ?_;(simp[go_sem])))
     refine aD ce ?_
     cases eb with
     |true=>
      refine aC (by simp[go_sem]) ?_
      (repeat(refine yA ?_;(simp[go_sem])))
      (repeat refine⟨by first|omega|(rw[bA];omega)|kernel_rfl|grind,?_⟩)
      (repeat(refine yA ?_;(simp[go_sem,v5])))
      (repeat refine⟨by first|omega|(rw[bA];omega)|kernel_rfl|grind,?_⟩)
      (repeat(refine yA ?_;(simp[go_sem,v5])))
      refine⟨t+1,by omega,by omega,?_⟩
      rw[hs,show(k:Int)-((t+1:Nat):Int)=(j:Int)-1 by omega]
      refine yS _ [.old 0 ⟨90,39,[circ b n k]⟩,.old 7 ⟨96,2,(L++[(⟨false,[(nx,0),(en,0)]⟩:Nd)]).map ndv⟩] ?_ (by simp[go_sem];exact iB (M:=[(nx,0),(en,0)]) rfl rfl L)
      simp[go_sem]
     |false=>
      refine a8 (by simp[go_sem]) ?_
      (repeat(refine yA ?_;(simp[go_sem])))
      (repeat refine⟨by first|omega|(rw[bA];omega)|kernel_rfl|grind,?_⟩)
      (repeat(refine yA ?_;(simp[go_sem,v5])))
      refine⟨t+1,by omega,by omega,?_⟩
      rw[hs,show(k:Int)-((t+1:Nat):Int)=(j:Int)-1 by omega]
      refine yS _ [.old 0 ⟨90,39,[circ b n k]⟩,.old 5 ⟨96,2,(L++[(⟨false,[(nx,0)]⟩:Nd)]).map ndv⟩] ?_ (by simp[go_sem];exact iB (M:=[(nx,0)]) rfl rfl L)
      simp[go_sem]
   ·have ht2:t=k+1:=by simp at hc;omega
    subst ht2
    have hz:=bJ L
    (repeat(refine yA ?_;(simp[go_sem])))
    rw[hLe]
end Go.Proofs.YtllgjognpobnpaaGreatDoor

namespace Go.Proofs.YtllgjognpobnpaaGreatDoor
open Go.RowKit Go.Ab
attribute [local irreducible] AWP Go.Ab.Sub Means MeansH CallK CallG CallT CallGT PanicH PanicX DefH CallU
set_option maxRecDepth 20000 in
theorem nD(b:Bl)(h:OkB b)(n:Int)(hn:1≤n∧n≤60)(C:List Int)(hC:C.length≤100000):Means true Tryz.prog 30 [bl b,ii n,il C] (bb (rgt n (-1) C)):=by
 have c1:=eK b h
 refine yM true 36 [.tmp 6] [0,1,2,3,6,7,9,10,11,12,13,23] Tryz.func30 fun X hX=>?_
 (repeat(refine yA ?_;(simp[go_sem])))
 refine aG (fun s:Nat×Int=>⟨mkE [(1,ii n),(3,.el 0 37 0 0),(7,ii s.2),(10,il C),(11,ii C.length),(12,ii s.1)],[.row ⟨32,37,[bl b]⟩]⟩) (fun s=>s.1≤C.length∧rgt n s.2 (C.drop s.1)=rgt n (-1) C) (fun s=>C.length-s.1) (0,-1) ?_ ?_ ?_
 ·refine yS _ [.old 0 ⟨32,37,[bl b]⟩] ?_
  simp[go_sem]
 ·exact⟨Nat.zero_le _,by simp⟩
 rintro⟨i,c⟩ ⟨hi,hI⟩
 simp only at hi hI⊢
 (repeat(refine yA ?_;(simp[go_sem])))
 refine yC (decide (i<C.length)) (fun hc=>?_) fun hc=>?_
 ·simp at hc
  have hq:=cZ hc
  have wk:=w64 (x:=(i:Int)+1) (by omega) (by omega)
  rw[List.drop_eq_getElem_cons hc,rgt]at hI
  generalize C[i]=x at*
  (repeat(refine yA ?_;(simp[go_sem,hc,hq])))
  refine yC (decide (x≤c)||decide (n≤x)) (fun hd=>?_) fun hd=>?_
  ·have hv:rgt n (-1) C=false:=by
    rw[←hI]
    cases h1:decide (x≤c)<;>cases h2:decide (n≤x)<;>simp[h1,h2]at hd⊢
   rw[hv]
   (repeat(refine yA ?_;(simp[go_sem])))
  ·(repeat(refine yA ?_;(simp[go_sem,wk])))
   have hI2:rgt n x (C.drop (i+1))=rgt n (-1) C:=by
    rw[←hI]
    cases h1:decide (x≤c)<;>cases h2:decide (n≤x)<;>simp[h1,h2]at hd⊢
   refine⟨i+1,x,⟨by omega,hI2⟩,by omega,?_⟩
   ·refine yS _ [.old 0 ⟨32,37,[bl b]⟩] ?_
    simp[go_sem]
 ·have hi2:i=C.length:=by simp at hc;omega
  subst hi2
  rw[List.drop_length,rgt]at hI
  rw[←hI]
  (repeat(refine yA ?_;(simp[go_sem])))
  refine aD c1 ?_
  simp[go_sem,hn]
  (repeat(refine yA ?_;(simp[go_sem,hn])))
theorem r8{HS:List Src}{H:List Cell}{m:Bool}:∀L:List Nd,okEs HS H (L.map ndv++[.agg [bb m,.nil]]) (L.map ndv++[ndv ⟨m,[]⟩])
 | []=>⟨⟨rfl,.inr (.inl ⟨rfl,rfl⟩),trivial⟩,trivial⟩
 |x::L=>⟨⟨rfl,.inl rfl,trivial⟩,r8 L⟩
theorem xF{b:Bl}(h:OkB b)(p:Nat):decide ((p:Int)=b.last-1)=decide (p+1=b.last.toNat):=by
 have:=h.last
 apply decide_eq_decide.2
 omega
set_option maxHeartbeats 8000000 in
set_option maxRecDepth 20000 in
theorem CZ(b:Bl)(n:Int)(hf:Fit b n)(C:List Int)(hC:C.length≤9):Means false Tryz.prog 10 [bl b,ii n,il C] (.tup [ndl (if errG b n C=0 then gml b n C.length else[]),ii (errG b n C)]):=by
 have hn:=hf.n
 have h:=hf.ok
 have hla:=hf.last
 have hlb:=h.last
 have c1:=nD b h n (by omega) C (by omega)
 by_cases hr:rgt n (-1) C=true
 ·have hkn:(C.length:Int)≤n:=by have:=eD C (-1) (by omega) hr;omega
  rw[hr]at c1
  have hv:errG b n C=if 7<C.length then 6 else feG b n C.length b.last.toNat:=by unfold errG;rw[if_pos hr]
  obtain⟨k,hk⟩:∃k,C.length=k:=⟨_,rfl⟩
  rw[hk]at hv hkn hC⊢
  generalize errG b n C=R at*
  have w1:=w64 (x:=(k:Int)+1) (by omega) (by omega)
  have w2:=w64 (x:=2*((k:Int)+1)) (by omega) (by omega)
  have hm:=g9 (p:=2*((k:Int)+1)) (l:=b.last) (by omega) (by omega) (by omega) (by omega)
  have w3:=w64 (x:=2*((k:Int)+1)*b.last) (by omega) (by omega)
  refine yM false 66 [.tmp 6,.tmp 7] [0,1,2,3,6,7,8,9,10,11,12,13,18,37,39,40,41,50] Tryz.func10 fun X hX=>?_
  (repeat(refine yA ?_;(simp[go_sem])))
  refine aD c1 ?_
  simp[go_sem]
  refine a8 (by simp[go_sem]) ?_
  (repeat(refine yA ?_;(simp[go_sem,hk,w1,w2,w3])))
  by_cases h7:7<k
  ·rw[if_pos h7]at hv
   subst hv
   refine aC (by simp[go_sem];omega) ?_
   (repeat(refine yA ?_;(simp[go_sem])))
  rw[if_neg h7]at hv
  obtain⟨last,hlast⟩:∃last:Nat,b.last=last:=⟨b.last.toNat,by omega⟩
  have hlt:b.last.toNat=last:=by omega
  have hen:2*(k+1)*last≤16*12:=Nat.mul_le_mul (by omega) (by omega)
  have hen2:2*((k:Int)+1)*b.last=((2*(k+1)*last:Nat):Int):=by rw[hlast];push_cast;rfl
  obtain⟨en,hene⟩:∃en,2*(k+1)*last=en:=⟨_,rfl⟩
  rw[hene]at hen hen2
  rw[hen2]
  rw[hlt]at hv
  refine a8 (by simp[go_sem];omega) ?_
  (repeat(refine yA ?_;(simp[go_sem,hlast])))
  have hgl:gml b n k=ndsG n b.voices k last (fun p=>(gnL b n k p).1) last++[nd0]:=by unfold gml gameL;rw[hlt]
  generalize gml b n k=GL at*
  refine aG (fun p:Nat=>⟨mkE [(8,.el 0 39 0 0),(9,ii en),(10,.ow 1),(39,ii last),(40,ii p)],[.row ⟨90,39,[circ b n k]⟩,.row ⟨96,2,(ndsG n b.voices k last (fun p=>(gnL b n k p).1) p).map ndv⟩]⟩) (fun p=>p≤last∧feG b n k p=0) (fun p=>last-p) 0 ?_ ?_ ?_
  ·refine yS _ [.old 1 ⟨90,39,[circ b n k]⟩,.birth 96 2] ?_ (by simp[go_sem,ndsG,hlast])
   simp[go_sem,ndsG,hlast]
  ·exact⟨Nat.zero_le _,rfl⟩
  rintro p ⟨hp,he⟩
  have hL:=gC n b.voices k last (fun p=>(gnL b n k p).1) p
  (repeat(refine yA ?_;(simp[go_sem])))
  refine yC (decide (p<last)) (fun hc=>?_) fun hc=>?_
  ·simp at hc
   have cg:=xE b h n k p (by omega) hkn (by omega)
   have hpm:2*(k+1)*p≤16*12:=Nat.mul_le_mul (by omega) (by omega)
   have hok:=vF b h n k p (by omega) hkn (by omega)
   have hs:ndsG n b.voices k last (fun p=>(gnL b n k p).1) (p+1)=ndsG n b.voices k last (fun p=>(gnL b n k p).1) p++ndsP (2*(k+1)*p) en k (decide (p+1=last)) n b.voices (gnL b n k p).1:=by rw[ndsG,hene]
   have hfe:feG b n k (p+1)=(gnL b n k p).2:=by rw[feG,if_neg (by simp[he])]
   have hle:=xF h p
   rw[hlt]at hle
   generalize ndsG n b.voices k last (fun p=>(gnL b n k p).1) p=L at*
   generalize hg:gnL b n k p=g at*
   obtain⟨g,e⟩:=g
   simp only at*
   (repeat(refine yA ?_;(simp[go_sem])))
   refine aD cg ?_
   simp[go_sem]
   (repeat(refine yA ?_;(simp[go_sem])))
   refine yC (decide (¬e=0)) (fun hd=>?_) fun hd=>?_
   ·have hd:¬e=0:=by simpa using hd
    have hst:=nE (b:=b) (n:=n) (k:=k) (p:=p+1) (q:=last) (by omega) (by rw[hfe];exact hd)
    rw[hst,hfe]at hv
    subst hv
    rw[if_neg hd]
    (repeat(refine yA ?_;(simp[go_sem])))
   ·have hd:e=0:=by simpa using hd
    subst hd
    have cn:=sX b h n k p (2*(k+1)*p) en g (hok rfl).len (by omega) (by omega) hkn (by omega) (by omega) (by omega)
    rw[hle]at cn
    have wk:=w64 (x:=(p:Int)+1) (by omega) (by omega)
    have hN:=mV (2*(k+1)*p) en k (decide (p+1=last)) n b.voices g
    have hz:=bJ (ndsP (2*(k+1)*p) en k (decide (p+1=last)) n b.voices g)
    generalize ndsP (2*(k+1)*p) en k (decide (p+1=last)) n b.voices g=N at*
    rw[←hL]at cn
    (repeat(refine yA ?_;(simp[go_sem])))
    refine aD cn ?_
    simp[go_sem]
    (repeat refine⟨by first|omega|(rw[bA];omega)|kernel_rfl|grind,?_⟩)
    (repeat(refine yA ?_;(simp[go_sem,wk])))
    refine⟨p+1,⟨by omega,hfe⟩,by omega,?_⟩
    rw[hs]
    refine yS _ [.old 0 ⟨90,39,[circ b n k]⟩,.old 2 ⟨96,2,(L++N).map ndv⟩] ?_
    simp[go_sem]
  ·have hp2:p=last:=by simp at hc;omega
   subst hp2
   rw[he]at hv
   subst hv
   rw[if_pos rfl,hgl]
   generalize ndsG n b.voices k p (fun p=>(gnL b n k p).1) p=L at*
   have hz:=bJ L
   have hlL:L.length≤3000:=by omega
   (iterate 3 (refine yA ?_;(simp[go_sem])))
   (repeat refine⟨by first|omega|(rw[bA];omega)|kernel_rfl|grind,?_⟩)
   refine bB (st0:=⟨mkE [(6,.ow 0),(7,ii 0)],[.row ⟨96,2,(L++[nd0]).map ndv⟩]⟩) ?_ ?_
   ·refine yS _ [.old 3 ⟨96,2,(L++[nd0]).map ndv⟩] ?_ (by simp[go_sem];exact r8 L)
    simp[go_sem]
   (repeat(refine yA ?_;(simp[go_sem])))
 ·have hv:errG b n C=1:=by unfold errG;rw[if_neg hr]
  have hr:rgt n (-1) C=false:=by simpa using hr
  rw[hv,if_neg (by decide)]
  rw[hr]at c1
  refine yM false 66 [.tmp 6,.tmp 7] [0,1,2,3,6,7,8,9,10,11,12,13,18,37,39,40,41,50] Tryz.func10 fun X hX=>?_
  (repeat(refine yA ?_;(simp[go_sem])))
  refine aD c1 ?_
  simp[go_sem]
  refine aC (by simp[go_sem]) ?_
  (repeat(refine yA ?_;(simp[go_sem])))
end Go.Proofs.YtllgjognpobnpaaGreatDoor

namespace Go.Proofs.YtllgjognpobnpaaGreatDoor
open Go.RowKit Go.Ab
attribute [local irreducible] AWP Go.Ab.Sub Means MeansH CallK CallG CallT CallGT PanicH DefH
theorem JJ(G:List Nd)(W:List Int)(hW:W.length=G.length)(hl:G.length≤3000):MeansH Tryz.prog 72 [rowI W] [ndl G,.ow 0,bb false] (.ow 0) [rowI (ofK G W G.length)]:=by
 have hz:=bJ G
 refine yN 1 25 [.tmp 6] [0,1,2,6,7,8,9,10,11,12,19,1000000] Tryz.func72 fun X hX=>?_
 (repeat(refine yB ?_;(simp[go_sem])))
 refine aG (fun t:Nat=>⟨mkE [(1,.ow 0),(2,bb false),(9,ndl G),(10,ii G.length),(11,ii t),(1000000,.ow 0)],[rowI (ofK G W t)]⟩) (fun t=>t≤G.length) (fun t=>G.length-t) 0 ?_ ?_ ?_
 ·refine yS _ [.old 0 ⟨3,1,(ofK G W 0).map ii⟩] ?_ (by simp[go_sem,ofK])
  simp[go_sem]
 ·exact Nat.zero_le _
 intro t ht
 have hlen:=lR G W t
 (repeat(refine yB ?_;(simp[go_sem])))
 refine yC (decide (t<G.length)) (fun hc=>?_) fun hc=>?_
 ·simp at hc
  have hq:=jS hc
  have eG:G.getD t nd0=G[t]:=by simp[List.getD_eq_getElem?_getD,List.getElem?_eq_getElem hc]
  have hs:ofK G W (t+1)=if G[t].mine=true then(ofK G W t).set t (-1)else ofK G W t:=by rw[ofK,eG]
  generalize ofK G W t=V at*
  generalize G[t]=x at*
  obtain⟨mi,mv⟩:=x
  simp only at hs
  have wk:=w64 (x:=(t:Int)+1) (by omega) (by omega)
  have htV:t<V.length:=by omega
  (repeat(refine yB ?_;(simp[go_sem,hc,hq])))
  refine yC mi (fun hd=>?_) (fun hd=>?_) (by cases mi<;>simp[go_sem])
  ·rw[if_pos hd]at hs
   (repeat(refine yB ?_;(simp[go_sem,htV,wk])))
   refine⟨t+1,by omega,by omega,?_⟩
   rw[hs]
   refine yS _ [.old 0 ⟨3,1,(V.set t (-1)).map ii⟩] ?_
   simp[go_sem]
  ·rw[if_neg (by simp[hd])]at hs
   (repeat(refine yB ?_;(simp[go_sem,htV,wk])))
   refine⟨t+1,by omega,by omega,?_⟩
   rw[hs]
   refine yS _ [.old 0 ⟨3,1,V.map ii⟩] ?_
   simp[go_sem]
 ·have ht2:t=G.length:=by simp at hc;omega
  subst ht2
  (repeat(refine yB ?_;(simp[go_sem])))
  refine aB ?_;refine aA [(6,.ow 0),(1000000,.ow 0)] [.old 0 ⟨3,1,(ofK G W G.length).map ii⟩] ?_
  simp[go_sem]
abbrev cert(G:List Nd):AV:=.agg [il (vals G),il (chc G)]
set_option maxRecDepth 20000 in
theorem sY(G:List Nd)(hG:OkG G):Means false Tryz.prog 29 [ndl G] (.tup [cert G,ii 0]):=by
 have c1:=nH G hG
 have c2:=vH G hG
 have c3:=JJ G (mvs G) (lN G) hG.len
 rw[show ofK G (mvs G) G.length=chc G from rfl]at c3
 refine yM false 20 [.cell 2 37,.tmp 3] [0,2,3,4,5,8] Tryz.func29 fun X hX=>?_
 (repeat(refine yA ?_;(simp[go_sem])))
 refine aD c1 ?_
 simp[go_sem]
 refine a8 (by simp[go_sem]) ?_
 (repeat(refine yA ?_;(simp[go_sem])))
 refine yH [] c2 ?_
 simp[go_sem]
 (repeat(refine yA ?_;(simp[go_sem])))
 refine yH [2] c3 ?_
 simp[go_sem]
 (repeat(refine yA ?_;(simp[go_sem])))
theorem FZ(V:List Int)(v:Int)(m:Nat×Int)(hm:m.1<V.length)(h1: -9007199254740992≤V.getD m.1 0∧V.getD m.1 0≤9007199254740992)(h2: -1099511627776≤m.2∧m.2≤1099511627776)(h:m.2+V.getD m.1 0≤v):
  MeansH Tryz.prog 123 [.row ⟨3,1,[ii v]⟩,.row ⟨22,1,[il V]⟩] [mvv m,.el 0 1 0 0,.el 1 1 0 0] (bb false) [.row ⟨3,1,[ii v]⟩,.row ⟨22,1,[il V]⟩]:=by
 have hq:=cZ hm
 rw[←gDI hm]at h1 h
 generalize V[m.1]=y at*
 have hn:¬(v<m.2+y):=by omega
 have w:=w64 (x:=m.2+y) (by omega) (by omega)
 refine yN 2 15 [.tmp 4] [0,1,2,3,4,1000000,1000001] Tryz.func123 fun X hX=>?_
 (repeat(refine yB ?_;(simp[go_sem,hm,hq,w,hn];try(refine⟨by kernel_rfl,?_⟩))))
 refine aB ?_;refine aA [(4,bb false),(1000000,.ow 0),(1000001,.ow 1)] [.old 0 ⟨3,1,[ii v]⟩,.old 1 ⟨22,1,[il V]⟩] ?_
 simp[go_sem,hm,hq,w,hn]
set_option maxHeartbeats 4000000 in
set_option maxRecDepth 20000 in
theorem G1(G:List Nd)(hG:OkG G)(j:Nat)(hj:j<G.length):Means true Tryz.prog 76 [ndv G[j],ii ((vals G).getD j 0),ii ((chc G).getD j 0),il (vals G)] (bb true):=by
 have hb:=lQ hG hj
 have h1:¬((vals G).getD j 0< -4503599627370496):=by omega
 have h2:¬(4503599627370496<(vals G).getD j 0):=by omega
 have hx:=hG.nd j hj
 have hc:=CK G hj
 have hV:=gB G
 have hall:=fun i (h:i<G.length)=>lQ hG h
 have hz:=lU G[j].mv
 by_cases he:G[j].mv=[]
 ·have hv:=lO hG hj he
  have hch:(chc G).getD j 0= -1:=by rw[hc,hv.2];simp
  rw[hch,hv.1]
  rw[hv.1]at h1 h2
  generalize G[j]=x at*
  obtain⟨mi,mv⟩:=x
  simp only at he
  subst he
  refine yM true 68 [.tmp 8] [0,1,2,3,4,5,7,8,9,15,19,28] Tryz.func76 fun X hX=>?_
  (repeat(refine yA ?_;(simp[go_sem])))
  refine a8 (by simp[go_sem]) ?_
  (repeat(refine yA ?_;(simp[go_sem])))
  refine aC (by simp[go_sem]) ?_
  (repeat(refine yA ?_;(simp[go_sem])))
 ·have hp:0<G[j].mv.length:=List.length_pos_iff.2 he
  obtain⟨k,hk,e1,e2⟩:=lP hG hj hp
  have hmx:=fun(hm:G[j].mine=true) k (hk:k<G[j].mv.length)=>qR hG hj hm hk
  have hto:=(hx.to _ (List.getElem_mem hk))
  generalize hvv:(vals G).getD j 0=v at*
  generalize hcc:(chc G).getD j 0=c at*
  rw[e2]at hc
  generalize vals G=V at*
  have hxt:=hx.to
  have hfew:=hx.few
  generalize G[j]=x at*
  obtain⟨mi,mv⟩:=x
  simp only at*
  have hne:¬((mv.length:Int)=0):=by omega
  refine yM true 68 [.tmp 8] [0,1,2,3,4,5,7,8,9,15,19,28] Tryz.func76 fun X hX=>?_
  (repeat(refine yA ?_;(simp[go_sem,h1,h2])))
  refine a8 (by simp[go_sem,h1,h2]) ?_
  (repeat(refine yA ?_;(simp[go_sem,hne])))
  refine a8 (by simp[go_sem,hne,he]) ?_
  (repeat(refine yA ?_;(simp[go_sem])))
  cases mi with
  |false=>
   have hcx:c=(k:Int):=by simpa using hc
   subst hcx
   have hbk:=hall mv[k].1 (by omega)
   have hq:=lM hk
   have htl:mv[k].1<V.length:=by omega
   rw[←gDI htl]at e1 hbk
   have w:IntKind.i64.wrap (mv[k].2+V[mv[k].1])=v:=by rw[←e1];exact w64 (by omega) (by omega)
   refine aC (by simp[go_sem]) ?_
   (repeat(refine yA ?_;(simp[go_sem,hk,hq,htl,w];try(refine⟨by kernel_rfl,?_⟩))))
   (repeat refine⟨by first|omega|(rw[bA];omega)|kernel_rfl|grind,?_⟩)
  |true=>
   have hcx:c= -1:=by simpa using hc
   subst hcx
   refine a8 (by simp[go_sem]) ?_
   have c:=D9 123 3 (ii v) 22 (il V) mv (by omega) rfl (by simp[go_sem]) (fun m hm=>by
    obtain⟨q,hq,rfl⟩:=List.getElem_of_mem hm
    have ht:=hxt _ hm
    have hb:=hall mv[q].1 ht.2.1
    exact FZ V v mv[q] (by omega) (by omega) ⟨ht.2.2.1,ht.2.2.2⟩ (hmx rfl q hq)) (by simp[go_sem])
   (repeat(refine yA ?_;(simp[go_sem])))
   refine aW [1,2] (fun hg=>c) (by simp[go_sem]) (by simp[go_sem]) ?_
   simp[go_sem]
   (repeat(refine yA ?_;(simp[go_sem])))
set_option maxRecDepth 20000 in
theorem DF(G:List Nd)(hG:OkG G):Means true Tryz.prog 34 [ndl G,cert G] (ii 0):=by
 have c1:=nH G hG
 have c2:=fun j h=>G1 G hG j h
 have h1:=gB G
 have h2:=wU G
 have hl:=hG.len
 have w1:=w64 (x:=(G.length:Int)-1) (by omega) (by omega)
 have hz:=bJ G
 show Means true Tryz.prog _ [ndl G,.agg [il (vals G),il (chc G)]] _
 generalize vals G=V at*
 generalize chc G=C at*
 refine yM true 48 [.tmp 4] [0,1,3,4,5,8,22,27,47] Tryz.func34 fun X hX=>?_
 (repeat(refine yA ?_;(simp[go_sem])))
 refine aD c1 ?_
 simp[go_sem]
 refine a8 (by simp[go_sem]) ?_
 (repeat(refine yA ?_;(simp[go_sem,h1,h2])))
 refine a8 (by simp[go_sem,h1,h2]) ?_
 (repeat(refine yA ?_;(simp[go_sem,w1])))
 refine aG (fun t:Nat=>⟨mkE [(0,ndl G),(3,.el 0 2 0 0),(5,ii ((G.length:Int)-1-t))],[.row ⟨37,2,[.agg [il V,il C]]⟩]⟩) (fun t=>t≤G.length) (fun t=>G.length-t) 0 ?_ ?_ ?_
 ·refine yS _ [.old 0 ⟨37,2,[.agg [il V,il C]]⟩] ?_
  simp[go_sem]
 ·exact Nat.zero_le _
 intro t ht
 (repeat(refine yA ?_;(simp[go_sem])))
 refine yC (decide (t<G.length)) (fun hc=>?_) (fun hc=>?_) (by simp[go_sem];omega)
 ·simp at hc
  obtain⟨i,hi⟩:∃i:Nat,G.length-1-t=i:=⟨_,rfl⟩
  have hi2:(G.length:Int)-1-t=i:=by omega
  have hiG:i<G.length:=by omega
  have hq:=jS hiG
  have hiV:i<V.length:=by omega
  have hiC:i<C.length:=by omega
  have c:=c2 i hiG
  rw[←gDI hiV,←gDI hiC]at c
  have hzi:=lU G[i].mv
  have wi:=w64 (x:=(i:Int)-1) (by omega) (by omega)
  have ei:(G.length:Int)-1-((t+1:Nat):Int)=(i:Int)-1:=by omega
  rw[hi2]
  (repeat(refine yA ?_;(simp[go_sem,hiG,hq,hiV,hiC])))
  refine bH c ?_
  (simp[go_sem];try(refine⟨by kernel_rfl,?_⟩))
  (repeat refine⟨by first|omega|(rw[bA];omega)|kernel_rfl|grind,?_⟩)
  refine a8 (by simp[go_sem]) ?_
  (repeat(refine yA ?_;(simp[go_sem,wi])))
  refine⟨t+1,by omega,by omega,?_⟩
  rw[ei]
  refine yS _ [.old 0 ⟨37,2,[.agg [il V,il C]]⟩] ?_
  simp[go_sem]
 ·(repeat(refine yA ?_;(simp[go_sem])))
end Go.Proofs.YtllgjognpobnpaaGreatDoor

namespace Go.Proofs.YtllgjognpobnpaaGreatDoor
open Go.RowKit Go.Ab
attribute [local irreducible] AWP Go.Ab.Sub Means MeansH CallK CallG CallT CallGT PanicH PanicX DefH CallU
set_option maxHeartbeats 4000000 in
set_option maxRecDepth 20000 in
theorem rA(b:Bl)(n:Int)(hf:Fit b n)(C:List Int)(hC:C.length≤9):Means false Tryz.prog 28 [bl b,ii n,il C] (.tup [ndl (if errG b n C=0 then gml b n C.length else[]),ii (errG b n C)]):=by
 have c1:=CZ b n hf C hC
 have c2:=iJ b hf.ok
 obtain⟨l1,l2,c3⟩:=pY b.period b.wait b.grace hf.ok.period hf.ok.wait hf.ok.grace
 rw[hf.sol]at c3
 generalize errG b n C=e at*
 by_cases he:e=0
 ·subst he
  rw[if_pos rfl]at*
  generalize gml b n C.length=G at*
  have hz:=bJ G
  refine yM false 33 [.tmp 6,.tmp 7] [0,1,2,3,6,7,8,9,12,21,31] Tryz.func28 fun X hX=>?_
  (repeat(refine yA ?_;(simp[go_sem])))
  refine aD c1 ?_
  simp[go_sem]
  (repeat(refine yA ?_;(simp[go_sem])))
  refine a8 (by simp[go_sem]) ?_
  (repeat(refine yA ?_;(simp[go_sem])))
  refine aD c2 ?_
  simp[go_sem]
  refine aD c3 ?_
  simp[go_sem]
  (repeat(refine yA ?_;(simp[go_sem])))
  refine a8 (by simp[go_sem]) ?_
  (repeat(refine yA ?_;(simp[go_sem])))
 ·rw[if_neg he]at*
  refine yM false 33 [.tmp 6,.tmp 7] [0,1,2,3,6,7,8,9,12,21,31] Tryz.func28 fun X hX=>?_
  (repeat(refine yA ?_;(simp[go_sem])))
  refine aD c1 ?_
  simp[go_sem]
  (repeat(refine yA ?_;(simp[go_sem])))
  refine aC (by simp[go_sem,he]) ?_
  (repeat(refine yA ?_;(simp[go_sem])))
set_option maxHeartbeats 4000000 in
set_option maxRecDepth 20000 in
theorem CY(b:Bl)(n:Int)(hf:Fit b n)(C:List Int)(hC:C.length≤9)(he:errG b n C=0):Means false Tryz.prog 9 [bl b,ii n,il C] (.tup [cert (gml b n C.length),ii ((vals (gml b n C.length)).getD 0 0),ii 0]):=by
 have c1:=rA b n hf C hC
 obtain⟨h1,h2,h3⟩:=iA he
 have hn:=hf.n
 have hG:=(nC hf h2 (by have:=eD C (-1) (by omega) h1;omega) h3).1
 rw[he,if_pos rfl]at c1
 generalize gml b n C.length=G at*
 have c2:=sY G hG
 have hz:=bJ G
 have hp:=hG.pos
 have hV:=gB G
 have h0:0<(vals G).length:=by omega
 change Means false _ _ _ (.tup [.agg [il (vals G),il (chc G)],ii ((vals G).getD 0 0),ii 0])
 change Means false _ _ _ (.tup [.agg [il (vals G),il (chc G)],ii 0])at c2
 rw[←gDI h0]
 generalize vals G=V at*
 generalize chc G=Ch at*
 refine yM false 34 [.cell 6 37,.tmp 7,.tmp 8] [0,1,2,3,6,7,8,9,10,11,21] Tryz.func9 fun X hX=>?_
 (repeat(refine yA ?_;(simp[go_sem])))
 refine aD c1 ?_
 simp[go_sem]
 (repeat(refine yA ?_;(simp[go_sem])))
 refine a8 (by simp[go_sem]) ?_
 (repeat(refine yA ?_;(simp[go_sem])))
 refine aD c2 ?_
 simp[go_sem]
 (repeat(refine yA ?_;(simp[go_sem,h0];try(refine⟨by kernel_rfl,?_⟩))))
theorem D3(b:Bl)(n:Int)(hf:Fit b n)(C:List Int)(hC:C.length≤9)(he:¬errG b n C=0):Means false Tryz.prog 9 [bl b,ii n,il C] (.tup [.agg [.sl [],.sl []],ii 0,ii (errG b n C)]):=by
 have c1:=rA b n hf C hC
 rw[if_neg he]at c1
 generalize errG b n C=e at*
 refine yM false 34 [.cell 6 37,.tmp 7,.tmp 8] [0,1,2,3,6,7,8,9,10,11,21] Tryz.func9 fun X hX=>?_
 (repeat(refine yA ?_;(simp[go_sem])))
 refine aD c1 ?_
 simp[go_sem]
 (repeat(refine yA ?_;(simp[go_sem])))
 refine aC (by simp[go_sem,he]) ?_
 (repeat(refine yA ?_;(simp[go_sem])))
set_option maxHeartbeats 4000000 in
set_option maxRecDepth 20000 in
theorem D0(b:Bl)(n:Int)(hf:Fit b n)(C:List Int)(hC:C.length≤9)(he:errG b n C=0)(bd:Int):Means true Tryz.prog 12 [bl b,ii n,il C,cert (gml b n C.length),ii bd] (ii (if bd<(vals (gml b n C.length)).getD 0 0 then 21 else 0)):=by
 have c1:=rA b n hf C hC
 obtain⟨h1,h2,h3⟩:=iA he
 have hn:=hf.n
 have hG:=(nC hf h2 (by have:=eD C (-1) (by omega) h1;omega) h3).1
 rw[he,if_pos rfl]at c1
 generalize gml b n C.length=G at*
 have c2:=DF G hG
 have hz:=bJ G
 have hp:=hG.pos
 have hV:=gB G
 have h0:0<(vals G).length:=by omega
 change Means true _ _ [bl b,ii n,il C,.agg [il (vals G),il (chc G)],ii bd] _
 change Means true _ _ [ndl G,.agg [il (vals G),il (chc G)]] _ at c2
 rw[←gDI h0]
 generalize vals G=V at*
 generalize chc G=Ch at*
 refine yM true 37 [.tmp 10] [0,1,2,3,4,5,8,10,11,12,20,24] Tryz.func12 fun X hX=>?_
 (repeat(refine yA ?_;(simp[go_sem])))
 refine aD c1 ?_
 simp[go_sem]
 (repeat(refine yA ?_;(simp[go_sem])))
 refine a8 (by simp[go_sem]) ?_
 (repeat(refine yA ?_;(simp[go_sem])))
 refine aD c2 ?_
 simp[go_sem,h0]
 refine yC (decide (bd<V[0])) (fun hd=>?_) (fun hd=>?_) (by simp[go_sem,h0])
 ·have hd:bd<V[0]:=by simpa using hd
  rw[if_pos hd]
  (repeat(refine yA ?_;(simp[go_sem])))
 ·have hd:¬bd<V[0]:=by simpa using hd
  rw[if_neg hd]
  (repeat(refine yA ?_;(simp[go_sem])))
end Go.Proofs.YtllgjognpobnpaaGreatDoor

