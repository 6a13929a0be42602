/-
  Lemmas for the statement at the top.
-/
import Derived.Test.YtdcidannegcaoaaGreatDoorGP6
import Derived.Test.YtdcidannegcaoaaGreatDoorGP11
import Derived.Test.YtdcidannegcaoaaGreatDoorGP9
import Derived.Test.YtdcidannegcaoaaGreatDoorGFw4
import Derived.Test.YtdcidannegcaoaaGreatDoorGP10
set_option linter.all false
namespace Go.Ab
def q9x0:List Nat:=[0,1,2,4,6,7,1000000,1000001,1000002]
def q9x1:List Nat:=[0,1,2,3,4,7,14,1000000,1000001]
def q9x2:List Nat:=[0,2,4,6,7,1000000,1000001,1000002,1000003,1000004]
attribute [go_sem] q9x0 q9x1 q9x2
end Go.Ab
namespace Go.Proofs.YtdcidannegcaoaaGreatDoor
open Go.RowKit Go.Ab
attribute [local irreducible] AWP Go.Ab.Sub Means MeansH CallK CallG CallT CallGT PanicH DefH CallU
abbrev vO(v:Int):Ob:=⟨3,1,[ii v]⟩
abbrev eO(e:Int):Ob:=⟨27,1,[ii e]⟩
theorem pH(v e:Int):DefH Tryz.prog 187 [.row (vO v),.row (eO e)] [.el 0 1 0 0,.el 1 1 0 0] .returning .returning [.row (vO v),.row (eO e)]:=by
 refine lP 2 18 5 [0,1,2,3,4,7,14,1000000,1000001] [] .idle Tryz.func187 rfl rfl rfl (by simp) (by decide) rfl rfl rfl rfl rfl (by decide) fun X hX=>?_
 (simp[go_sem];try(refine⟨by kernel_rfl,?_⟩))
 (repeat(refine aI q9x1 hX mixed rfl ?_;simp[go_sem]))
 refine aA (by simp[go_sem]) ?_
 (repeat(refine aI q9x1 hX mixed rfl ?_;simp[go_sem]))
 refine aJ [(1000000,.ow 0),(1000001,.ow 1)] [.old 0 (vO v),.old 1 (eO e)] ?_
 simp[go_sem]
set_option maxHeartbeats 4000000 in
theorem KD(G:List (By×Int))(e:E)(v:Int)(he:OkE e)(hv:evD G e=some v):MeansH Tryz.prog 172 (MH G) [.el 0 3 0 0,ex e,ii 0] (.tup [ii v,ii 0]) (MH G):=by
 have c1:=HK G 12 e v he he.2 hv
 refine gM 3 13 [.cell 6 3,.cell 7 27] Tryz.func172 rfl rfl rfl (by simp) (by decide) rfl fun X hX=>?_
 refine dL ?_
 ((first|refine aV q9x0 hX ?_|refine aO q9x0 hX mixed ?_|refine aB ?_|refine aL ?_|refine aU ?_);(simp[go_sem]))
 refine fV (l:=[_]) (oD:=_) [0,2,4,6,7,1000000,1000001,1000002] hX rfl rfl rfl rfl ?_
 (simp[go_sem])
 refine⟨_,_,⟨rfl,rfl⟩,by simp[go_sem],by simp[go_sem],fun X hX=>?_⟩
 simp[go_sem]
 refine bA (st0:=⟨mkE [(0,.el 0 3 0 0),(2,ii 0),(4,.el 3 5 0 0),(6,.el 4 1 0 0),(7,.el 5 1 0 0),(1000000,.ow 0),(1000001,.ow 1),(1000002,.ow 2),(1000003,.el 4 1 0 0),(1000004,.el 5 1 0 0)],[.row mR,.row rR,.map (gR G),.row ⟨32,5,[ex e]⟩,.row (vO 0),.row (eO 0)]⟩) ?_ ?_
 ·refine yS _ [.old 0 mR,.old 1 rR,.oldM 2 (gR G),.old 3 ⟨32,5,[ex e]⟩,.old 4 (vO 0),.old 5 (eO 0)] ?_
  simp[go_sem]
 (repeat(refine a7 q9x2 hX mixed rfl ?_;simp[go_sem]))
 refine yH [0,1,2] c1 ?_
 simp[go_sem]
 refine aB ?_
 simp only[doorQ]
 refine dM [4,5] (pH v 0) rfl ?_ ?_
 ·simp[go_sem]
 ·refine a8 [(1000000,.ow 0),(1000001,.ow 1),(1000002,.ow 2)] [.old 0 mR,.old 1 rR,.oldM 2 (gR G)] ?_
  simp[go_sem]
abbrev v3(v:By×Int×Int):AV:=.agg [ss v.1,ii v.2.1,ii v.2.2]
@[go_sem] theorem DP{L:List (By×Int×Int)}{k:Nat}(h:k<L.length):nth (L.map v3) k=v3 L[k]:=bF v3 h
def gOf(V:List (By×Int×Int)):List (By×Int):=givU [] (V.map fun v=>(v.1,v.2.2))
set_option maxHeartbeats 8000000 in
set_option maxRecDepth 20000 in
theorem GL(V:List (By×Int×Int))(e:E)(v:Int)(hV:V.length≤100∧∀x∈V,-1099511627776≤x.2.2∧x.2.2≤1099511627776)(he:OkE e)(hv:evD (gOf V) e=some v):
  Means true Tryz.prog 147 [.sl [],.sl (V.map v3),ex e] (.tup [ii v,ii 0]):=by
 have c1:=bS e he
 have c2:=KD (gOf V) e v he hv
 have hlen:=hV.1
 refine yM true 83 [.tmp 6,.tmp 7] [0,1,2,5,6,7,9,10,12,14,22,23,24,25,26,32,41,42,43,44,54,66] Tryz.func147 fun X hX=>?_
 (repeat(refine yA ?_;(simp[go_sem])))
 refine aC c1 ?_
 simp[go_sem]
 refine aA (by simp[go_sem]) ?_
 (repeat(refine yA ?_;(simp[go_sem])))
 refine aE (fun n:Nat=>⟨mkE [(0,.sl []),(1,.sl (V.map v3)),(5,.el 0 5 0 0),(24,ii 0),(25,ii 0)],[.row ⟨32,5,[ex e]⟩]⟩) (fun n=>n=0) (fun n=>0) 0 ?_ ?_ ?_
 ·refine yS _ [.old 0 ⟨32,5,[ex e]⟩] ?_
  simp[go_sem]
 ·rfl
 rintro n-
 (repeat(refine yA ?_;(simp[go_sem])))
 refine aA (by simp[go_sem]) ?_
 (repeat(refine yA ?_;(simp[go_sem])))
 refine aE (fun n:Nat=>⟨mkE [(0,.sl []),(5,.el 0 5 0 0),(10,.el 3 3 0 0),(41,.sl (V.map v3)),(42,ii V.length),(43,ii n)],
  [.row ⟨32,5,[ex e]⟩,.row rR,.map (gR (gOf (V.take n))),.row mR]⟩) (fun n=>n≤V.length) (fun n=>V.length-n) 0 ?_ ?_ ?_
 ·refine yS _ [.old 0 ⟨32,5,[ex e]⟩,.old 1 rR,.oldM 2 ⟨9,3,[]⟩,.old 3 mR] ?_
  simp[go_sem,gm,gOf,givU]
 ·exact Nat.zero_le _
 ·rintro n hn
  (repeat(refine yA ?_;(simp[go_sem])))
  refine yC (decide (n<V.length)) (fun hc=>?_) fun hc=>?_
  ·simp at hc
   have hq:=DP hc
   have wk:=w64 (x:=(n:Int)+1) (by omega) (by omega)
   have hu:=hV.2 V[n] (List.getElem_mem hc)
   have hn1:¬1099511627776<V[n].2.2:=by omega
   have hn2:¬V[n].2.2< -1099511627776:=by omega
   have ht:gOf (V.take (n+1))=givS (gOf (V.take n)) (V[n].1,V[n].2.2):=by
    unfold gOf
    rw[List.take_succ_eq_append_getElem hc,List.map_append]
    exact fC _ _ _
   have hup:=pU V[n].1 V[n].2.2 (gOf (V.take n))
   generalize V[n]=v at*
   generalize gOf (V.take n)=G at*
   (repeat(refine yA ?_;(simp[go_sem,hc,hq,hn1,hn2])))
   refine aA (by simp[go_sem,hn1,hn2]) ?_
   (repeat(refine yA ?_;(simp[go_sem,hq];try(refine⟨by kernel_rfl,?_⟩))))
   refine yC (!(G.lookup v.1).isSome) (fun hd=>?_) fun hd=>?_
   ·have hd:(G.lookup v.1).isSome=false:=by simpa using hd
    have hup:=hup hd
    have e2:givS G (v.1,v.2.2)=G++[(v.1,v.2.2)]:=by unfold givS;rw[hd];simp
    rw[e2]at ht
    generalize G++[(v.1,v.2.2)]=G2 at*
    (repeat(refine yA ?_;(simp[go_sem,hup,wk];try(refine⟨by kernel_rfl,?_⟩))))
    refine⟨n+1,by omega,by omega,?_⟩
    rw[ht]
    refine yS _ [.old 0 ⟨32,5,[ex e]⟩,.old 1 rR,.oldM 2 (gR G2),.old 3 mR] ?_
    simp[go_sem]
   ·have hd:(G.lookup v.1).isSome=true:=by simpa using hd
    have e2:givS G (v.1,v.2.2)=G:=by unfold givS;rw[hd];simp
    (repeat(refine yA ?_;(simp[go_sem,wk])))
    refine⟨n+1,by omega,by omega,?_⟩
    rw[ht,e2]
    refine yS _ [.old 0 ⟨32,5,[ex e]⟩,.old 1 rR,.oldM 2 (gR G),.old 3 mR] ?_
    simp[go_sem]
  ·have hnn:n=V.length:=by simp at hc;omega
   subst hnn
   rw[List.take_of_length_le (Nat.le_refl _)]
   (repeat(refine yA ?_;(simp[go_sem])))
   refine yH [3,1,2] c2 ?_
   simp[go_sem]
   (repeat(refine yA ?_;(simp[go_sem])))
def clM(b:Bl):List (AV×AV):=[(ss [100,117,101],ex b.due),(ss [102,105,110,101],ex b.fine),(ss [112,97,121],ex b.pay),(ss [99,111,118,101,114],ex b.cover),(ss [104,111,108,100],ex b.hold)]
theorem tH(b:Bl):lookA Tryz.prog 9 32 (ss [100,117,101]) (clM b) true=some (.tup [ex b.due,bb true]):=by
 simp[lookA,clM,findA,cV,K0,foundA]
theorem pI(b:Bl):lookA Tryz.prog 9 32 (ss [102,105,110,101]) (clM b) true=some (.tup [ex b.fine,bb true]):=by
 simp[lookA,clM,findA,cV,K0,foundA]
def clE(b:Bl)(s:By):Option E:=if s=[100,117,101]then some b.due else if s=[102,105,110,101]then some b.fine else none
set_option maxHeartbeats 8000000 in
set_option maxRecDepth 20000 in
theorem DH(b:Bl)(h:OkB b)(h0:b.lets=[])(s:By)(e:E)(hs:clE b s=some e)(V:List (By×Int×Int))(v:Int)(hV:V.length≤100∧∀x∈V,-1099511627776≤x.2.2∧x.2.2≤1099511627776)(hv:evD (gOf V) e=some v):
  Means true Tryz.prog 116 [bl b,ss s,.sl (V.map v3)] (.tup [ii v,ii 0]):=by
 have c1:=eN b h
 have hd:s=[100,117,101]∧e=b.due∨s=[102,105,110,101]∧e=b.fine:=by
  unfold clE at hs
  split at hs
  ·exact .inl ⟨by assumption,(Option.some.inj hs).symm⟩
  ·split at hs
   ·exact .inr ⟨by assumption,(Option.some.inj hs).symm⟩
   ·cases hs
 have he:OkE e:=by
  rcases hd with⟨_,rfl⟩|⟨_,rfl⟩
  ·exact h.due
  ·exact h.fine
 have c2:=GL V e v hV he hv
 have hl:lookA Tryz.prog 9 32 (ss s) (clM b) true=some (.tup [ex e,bb true]):=by
  rcases hd with⟨rfl,rfl⟩|⟨rfl,rfl⟩
  ·exact tH b
  ·exact pI b
 clear hs hv
 refine yM true 43 [.tmp 6,.tmp 7] [0,1,2,3,6,7,8,9,10,35] Tryz.func116 fun X hX=>?_
 (iterate 2 (refine yA ?_;(simp[go_sem])))
 refine aT ?_
 refine m9 [1,2,3,6,7,8] hX ?_
 simp[go_sem,normO,updA,cV]
 refine bA (st0:=⟨mkE [(1,ss s),(2,.sl (V.map v3)),(3,.el 0 37 0 0),(8,.ow 1)],[.row ⟨34,37,[bl b]⟩,.map ⟨9,32,clM b⟩]⟩) ?_ ?_
 ·refine yS _ [.old 0 ⟨34,37,[bl b]⟩,.oldM 1 ⟨9,32,clM b⟩] ?_ (by simp[go_sem,clM])
  simp[go_sem,clM]
 (repeat(refine yA ?_;(simp[go_sem,hl])))
 refine aK (fun hg=>c1) ?_
 simp[go_sem]
 refine aA (by simp[go_sem]) ?_
 (repeat(refine yA ?_;(simp[go_sem,h0])))
 refine aC c2 ?_
 simp[go_sem]
 (repeat(refine yA ?_;(simp[go_sem])))
end Go.Proofs.YtdcidannegcaoaaGreatDoor

namespace Go.Proofs.YtdcidannegcaoaaGreatDoor
open Go.RowKit Go.Ab
attribute [local irreducible] AWP Go.Ab.Sub Means MeansH CallK CallG CallT CallGT PanicH PanicX DefH CallU
theorem DQ(f v e:Int):DefH Tryz.prog 187 [.row (vO v),.row (eO e)] [.el 0 1 0 0,.el 1 1 0 0] (.panicking [{v:=faultV f,recovered:=false}]) (.panicking [{v:=faultV f,recovered:=true}]) [.row (vO 0),.row (eO f)]:=by
 refine lP 2 18 5 [0,1,2,3,4,7,14,1000000,1000001] [] (.got _) Tryz.func187 rfl rfl rfl (by simp) (by decide) rfl rfl rfl rfl rfl (by decide) fun X hX=>?_
 (simp[go_sem];try(refine⟨by kernel_rfl,?_⟩))
 (repeat(refine aI q9x1 hX mixed rfl ?_;simp[go_sem]))
 have hof:ofV (Value.agg #[Value.int .i64 f])=.agg [ii f]:=by simp[ofV]
 refine aD (by simp[go_sem]) ?_
 (repeat(refine aI q9x1 hX mixed rfl ?_;simp[go_sem,hof]))
 refine aA (by simp[go_sem]) ?_
 (repeat(refine aI q9x1 hX mixed rfl ?_;simp[go_sem];try refine⟨by kernel_rfl,?_⟩))
 refine aJ [(1000000,.ow 0),(1000001,.ow 1)] [.old 0 (vO 0),.old 1 (eO f)] ?_
 simp[go_sem]
set_option maxHeartbeats 4000000 in
theorem HN(L:List (By×E))(G:List (By×Int))(n:Nat)(e:E)(R:List (Int×Int×Bool))
  (h:∃R' o,OkR L R'∧okO o∧OutX Tryz.prog 188 (MG L R G) [.el 0 3 0 0,ex e,ii n] (outV o) (MG L R' G)):
  ∃R' v err,OkR L R'∧(err=0→bnd v)∧MeansH Tryz.prog 172 (MG L R G) [.el 0 3 0 0,ex e,ii n] (.tup [ii v,ii err]) (MG L R' G):=by
 obtain⟨R',o,h1,h2,c1⟩:=h
 cases o with
 |inl f=>
  refine⟨R',0,f,h1,fun _=>by unfold bnd;omega,?_⟩
  refine gM 3 13 [.cell 6 3,.cell 7 27] Tryz.func172 rfl rfl rfl (by simp) (by decide) rfl fun X hX=>?_
  refine dL ?_
  ((first|refine aV q9x0 hX ?_|refine aO q9x0 hX mixed ?_|refine aB ?_|refine aL ?_|refine aU ?_);(simp[go_sem]))
  refine fV (l:=[_]) (oD:=_) [0,2,4,6,7,1000000,1000001,1000002] hX rfl rfl rfl rfl ?_
  (simp[go_sem])
  refine⟨_,_,⟨rfl,rfl⟩,by simp[go_sem],by simp[go_sem],fun X hX=>?_⟩
  simp[go_sem]
  refine bA (st0:=⟨mkE [(0,.el 0 3 0 0),(2,ii n),(4,.el 3 5 0 0),(6,.el 4 1 0 0),(7,.el 5 1 0 0),(1000000,.ow 0),(1000001,.ow 1),(1000002,.ow 2),(1000003,.el 4 1 0 0),(1000004,.el 5 1 0 0)],[.row (mL L),.row (rL R),.map (gR G),.row ⟨32,5,[ex e]⟩,.row (vO 0),.row (eO 0)]⟩) ?_ ?_
  ·refine yS _ [.old 0 (mL L),.old 1 (rL R),.oldM 2 (gR G),.old 3 ⟨32,5,[ex e]⟩,.old 4 (vO 0),.old 5 (eO 0)] ?_
   simp[go_sem]
  (repeat(refine a7 q9x2 hX mixed rfl ?_;simp[go_sem]))
  refine aQ [0,1,2] (c1) (by simp[go_sem]) ?_
  (try simp only[thenQ,blkQ,panCh])
  (try simp only[doorQ])
  refine dM [4,5] (DQ f 0 0) rfl ?_ ?_
  ·simp[go_sem]
  ·refine a8 [(1000000,.ow 0),(1000001,.ow 1),(1000002,.ow 2)] [.old 0 (mL L),.old 1 (rL R'),.oldM 2 (gR G)] ?_
   simp[go_sem]
 |inr v=>
  refine⟨R',v,0,h1,fun _=>h2,?_⟩
  refine gM 3 13 [.cell 6 3,.cell 7 27] Tryz.func172 rfl rfl rfl (by simp) (by decide) rfl fun X hX=>?_
  refine dL ?_
  ((first|refine aV q9x0 hX ?_|refine aO q9x0 hX mixed ?_|refine aB ?_|refine aL ?_|refine aU ?_);(simp[go_sem]))
  refine fV (l:=[_]) (oD:=_) [0,2,4,6,7,1000000,1000001,1000002] hX rfl rfl rfl rfl ?_
  (simp[go_sem])
  refine⟨_,_,⟨rfl,rfl⟩,by simp[go_sem],by simp[go_sem],fun X hX=>?_⟩
  simp[go_sem]
  refine bA (st0:=⟨mkE [(0,.el 0 3 0 0),(2,ii n),(4,.el 3 5 0 0),(6,.el 4 1 0 0),(7,.el 5 1 0 0),(1000000,.ow 0),(1000001,.ow 1),(1000002,.ow 2),(1000003,.el 4 1 0 0),(1000004,.el 5 1 0 0)],[.row (mL L),.row (rL R),.map (gR G),.row ⟨32,5,[ex e]⟩,.row (vO 0),.row (eO 0)]⟩) ?_ ?_
  ·refine yS _ [.old 0 (mL L),.old 1 (rL R),.oldM 2 (gR G),.old 3 ⟨32,5,[ex e]⟩,.old 4 (vO 0),.old 5 (eO 0)] ?_
   simp[go_sem]
  (repeat(refine a7 q9x2 hX mixed rfl ?_;simp[go_sem]))
  refine yH [0,1,2] c1 ?_
  simp[go_sem]
  refine aB ?_
  simp only[doorQ]
  refine dM [4,5] (pH v 0) rfl ?_ ?_
  ·simp[go_sem]
  ·refine a8 [(1000000,.ow 0),(1000001,.ow 1),(1000002,.ow 2)] [.old 0 (mL L),.old 1 (rL R'),.oldM 2 (gR G)] ?_
   simp[go_sem]
theorem GM(L:List (By×E))(G:List (By×Int))(hL:OkL L)(hG:∀x∈G,bnd x.2)(K:Nat):∀n,n≤K→n≤L.length→∀(N:Nat) (e:E),OkE e→e.lev≤N→∀R,OkR L R→
  ∃R' o,OkR L R'∧okO o∧OutX Tryz.prog 188 (MG L R G) [.el 0 3 0 0,ex e,ii n] (outV o) (MG L R' G):=by
 induction K with
 |zero=>
  intro n hn hnL N
  have hn0:n=0:=by omega
  subst hn0
  induction N with
  |zero=>intro e _ hl;cases e<;>simp[E.lev]at hl
  |succ N ih=>exact fun e he hl R hR=>xH L G 0 hL hnL (fun R s hR=>wH L G R 0 s hL hnL hR hG (fun i _ hi=>by omega)) N ih e he hl R hR
 |succ K ihK=>
  intro n hn hnL N
  induction N with
  |zero=>intro e _ hl;cases e<;>simp[E.lev]at hl
  |succ N ih=>exact fun e he hl R hR=>xH L G n hL hnL (fun R s hR=>wH L G R n s hL hnL hR hG (fun i hi hin R hR=>HN L G i L[i].2 R (ihK i (by omega) (by omega) 12 _ (hL.exp _ (List.getElem_mem hi)) (hL.exp _ (List.getElem_mem hi)).2 R hR))) N ih e he hl R hR
end Go.Proofs.YtdcidannegcaoaaGreatDoor

namespace Go.Proofs.YtdcidannegcaoaaGreatDoor
open Go.RowKit Go.Ab
attribute [local irreducible] AWP Go.Ab.Sub Means MeansH CallK CallG CallT CallGT PanicH PanicX DefH CallU
theorem rB{V:List (By×Int×Int)}(hV:∀x∈V,-1099511627776≤x.2.2∧x.2.2≤1099511627776):∀(n:Nat),n≤V.length→∀x∈gOf (V.take n),bnd x.2
 |0,_=>by simp[gOf,givU]
 |n+1,hn=>by
  have e:gOf (V.take (n+1))=givS (gOf (V.take n)) (V[n].1,V[n].2.2):=by
   unfold gOf
   rw[List.take_succ_eq_append_getElem hn,List.map_append]
   exact fC _ _ _
  rw[e]
  intro x hx
  unfold givS at hx
  split at hx
  ·exact rB hV n (by omega) x hx
  ·rcases List.mem_append.1 hx with hx|hx
   ·exact rB hV n (by omega) x hx
   ·simp only[List.mem_singleton]at hx
    subst hx
    exact hV _ (List.getElem_mem hn)
def rs0(n:Nat):List (Int×Int×Bool):=List.replicate n (0,0,false)
theorem J2(L:List (By×E)):OkR L (rs0 L.length):=⟨by simp[rs0],fun r hr h=>by rw[(List.mem_replicate.1 hr).2]at h;cases h⟩
set_option maxHeartbeats 8000000 in
set_option maxRecDepth 20000 in
theorem DR(L:List (By×E))(V:List (By×Int×Int))(e:E)(hL:OkL L)(hV:V.length≤100∧∀x∈V,-1099511627776≤x.2.2∧x.2.2≤1099511627776)(he:OkE e):
  ∃v err,(err=0→bnd v)∧Means true Tryz.prog 147 [.sl (L.map lt),.sl (V.map v3),ex e] (.tup [ii v,ii err]):=by
 have c1:=bS e he
 have hGb:∀x∈gOf V,bnd x.2:=by have:=rB hV.2 V.length (Nat.le_refl _);rwa [List.take_of_length_le (Nat.le_refl _)]at this
 obtain⟨R',v,err,h1,h2,c2⟩:=HN L (gOf V) L.length e (rs0 L.length) (GM L (gOf V) hL hGb L.length L.length (Nat.le_refl _) (Nat.le_refl _) 12 e he he.2 _ (J2 L))
 refine⟨v,err,h2,?_⟩
 have hlen:=hV.1
 have hll:=hL.len
 have n20:(L.length:Int)≤20:=by omega
 refine yM true 83 [.tmp 6,.tmp 7] [0,1,2,5,6,7,9,10,12,14,22,23,24,25,26,32,41,42,43,44,54,66] Tryz.func147 fun X hX=>?_
 (repeat(refine yA ?_;(simp[go_sem])))
 refine aC c1 ?_
 simp[go_sem]
 refine aA (by simp[go_sem,n20]) ?_
 (repeat(refine yA ?_;(simp[go_sem])))
 refine aE (fun n:Nat=>⟨mkE [(0,.sl (L.map lt)),(1,.sl (V.map v3)),(5,.el 0 5 0 0),(23,.sl (L.map lt)),(24,ii L.length),(25,ii n)],[.row ⟨32,5,[ex e]⟩]⟩) (fun n=>n≤L.length) (fun n=>L.length-n) 0 ?_ ?_ ?_
 ·refine yS _ [.old 0 ⟨32,5,[ex e]⟩] ?_
  simp[go_sem]
 ·exact Nat.zero_le _
 ·rintro n hn
  (repeat(refine yA ?_;(simp[go_sem])))
  refine yC (decide (n<L.length)) (fun hc=>?_) fun hc=>?_
  ·simp at hc
   have hq:=dF hc
   have wk:=w64 (x:=(n:Int)+1) (by omega) (by omega)
   have c3:=bS L[n].2 (hL.exp _ (List.getElem_mem hc))
   (repeat(refine yA ?_;(simp[go_sem,hc,hq])))
   refine aC c3 ?_
   simp[go_sem]
   refine aA (by simp[go_sem]) ?_
   (repeat(refine yA ?_;(simp[go_sem,wk])))
   refine⟨n+1,by omega,by omega,?_⟩
   refine yS _ [.old 0 ⟨32,5,[ex e]⟩] ?_
   simp[go_sem]
  ·have hnn:n=L.length:=by simp at hc;omega
   subst hnn
   (repeat(refine yA ?_;(simp[go_sem])))
   refine⟨⟨by omega,by omega⟩,?_⟩
   (repeat(refine yA ?_;(simp[go_sem])))
   have hrs:(rs0 L.length).map rsv=List.replicate L.length (.agg [ii 0,ii 0,bb false]):=by simp[rs0]
   obtain⟨rr,hrr⟩:∃rr:Ob,rr=⟨275,3,List.replicate L.length (.agg [ii 0,ii 0,bb false])⟩:=⟨_,rfl⟩
   have hrl:rL (rs0 L.length)=rr:=by rw[hrr];unfold rL;rw[hrs]
   have hMG:MG L (rs0 L.length) (gOf V)=[.row (mL L),.row rr,.map (gR (gOf V))]:=by unfold MG;rw[hrl]
   rw[hMG]at c2
   rw[←hrr]
   have hz:zoneEs rr.es=true:=by
    rw[hrr,←hrs]
    simp[go_sem]
   refine aE (fun n:Nat=>⟨mkE [(0,.sl (L.map lt)),(5,.el 0 5 0 0),(10,.el 3 3 0 0),(41,.sl (V.map v3)),(42,ii V.length),(43,ii n)],
    [.row ⟨32,5,[ex e]⟩,.row rr,.map (gR (gOf (V.take n))),.row (mL L)]⟩) (fun n=>n≤V.length) (fun n=>V.length-n) 0 ?_ ?_ ?_
   ·refine yS _ [.old 0 ⟨32,5,[ex e]⟩,.old 1 rr,.oldM 2 ⟨9,3,[]⟩,.old 3 (mL L)] ?_ (by simp[go_sem,hz])
    simp[go_sem,gm,gOf,givU,hz]
   ·exact Nat.zero_le _
   ·rintro n hn
    (repeat(refine yA ?_;(simp[go_sem])))
    refine yC (decide (n<V.length)) (fun hc=>?_) fun hc=>?_
    ·simp at hc
     have hq:=DP hc
     have wk:=w64 (x:=(n:Int)+1) (by omega) (by omega)
     have hu:=hV.2 V[n] (List.getElem_mem hc)
     have hn1:¬1099511627776<V[n].2.2:=by omega
     have hn2:¬V[n].2.2< -1099511627776:=by omega
     have ht:gOf (V.take (n+1))=givS (gOf (V.take n)) (V[n].1,V[n].2.2):=by
      unfold gOf
      rw[List.take_succ_eq_append_getElem hc,List.map_append]
      exact fC _ _ _
     have hup:=pU V[n].1 V[n].2.2 (gOf (V.take n))
     clear c2 hMG hGb
     generalize V[n]=v at*
     generalize gOf (V.take n)=G at*
     (repeat(refine yA ?_;(simp[go_sem,hc,hq,hn1,hn2])))
     refine aA (by simp[go_sem,hn1,hn2]) ?_
     (repeat(refine yA ?_;(simp[go_sem,hq];try(refine⟨by kernel_rfl,?_⟩))))
     refine yC (!(G.lookup v.1).isSome) (fun hd=>?_) fun hd=>?_
     ·have hd:(G.lookup v.1).isSome=false:=by simpa using hd
      have hup:=hup hd
      have e2:givS G (v.1,v.2.2)=G++[(v.1,v.2.2)]:=by unfold givS;rw[hd];simp
      rw[e2]at ht
      generalize G++[(v.1,v.2.2)]=G2 at*
      (repeat(refine yA ?_;(simp[go_sem,hup,wk];try(refine⟨by kernel_rfl,?_⟩))))
      refine⟨n+1,by omega,by omega,?_⟩
      rw[ht]
      refine yS _ [.old 0 ⟨32,5,[ex e]⟩,.old 1 rr,.oldM 2 (gR G2),.old 3 (mL L)] ?_ (by simp[go_sem,hz])
      simp[go_sem,hz]
     ·have hd:(G.lookup v.1).isSome=true:=by simpa using hd
      have e2:givS G (v.1,v.2.2)=G:=by unfold givS;rw[hd];simp
      (repeat(refine yA ?_;(simp[go_sem,wk])))
      refine⟨n+1,by omega,by omega,?_⟩
      rw[ht,e2]
      refine yS _ [.old 0 ⟨32,5,[ex e]⟩,.old 1 rr,.oldM 2 (gR G),.old 3 (mL L)] ?_ (by simp[go_sem,hz])
      simp[go_sem,hz]
    ·have hnn:n=V.length:=by simp at hc;omega
     subst hnn
     rw[List.take_of_length_le (Nat.le_refl _)]
     (repeat(refine yA ?_;(simp[go_sem])))
     refine aZ [3,1,2] (c2) (by simp[go_sem,hz]) ?_
     simp[go_sem]
     (repeat(refine yA ?_;(simp[go_sem])))
end Go.Proofs.YtdcidannegcaoaaGreatDoor

namespace Go.Proofs.YtdcidannegcaoaaGreatDoor
open Go.RowKit Go.Ab
attribute [local irreducible] AWP Go.Ab.Sub Means MeansH CallK CallG CallT CallGT PanicH PanicX DefH CallU
set_option maxHeartbeats 8000000 in
set_option maxRecDepth 20000 in
theorem zY(b:Bl)(h:OkB b)(s:By)(e:E)(hs:clE b s=some e)(V:List (By×Int×Int))(hV:V.length≤100∧∀x∈V,-1099511627776≤x.2.2∧x.2.2≤1099511627776):
  ∃v err,(err=0→bnd v)∧Means true Tryz.prog 116 [bl b,ss s,.sl (V.map v3)] (.tup [ii v,ii err]):=by
 have c1:=eN b h
 have hd:s=[100,117,101]∧e=b.due∨s=[102,105,110,101]∧e=b.fine:=by
  unfold clE at hs
  split at hs
  ·exact .inl ⟨by assumption,(Option.some.inj hs).symm⟩
  ·split at hs
   ·exact .inr ⟨by assumption,(Option.some.inj hs).symm⟩
   ·cases hs
 have he:OkE e:=by
  rcases hd with⟨_,rfl⟩|⟨_,rfl⟩
  ·exact h.due
  ·exact h.fine
 obtain⟨v,err,h2,c2⟩:=DR b.lets V e h.lets hV he
 refine⟨v,err,h2,?_⟩
 have hl:lookA Tryz.prog 9 32 (ss s) (clM b) true=some (.tup [ex e,bb true]):=by
  rcases hd with⟨rfl,rfl⟩|⟨rfl,rfl⟩
  ·exact tH b
  ·exact pI b
 clear hs
 refine yM true 43 [.tmp 6,.tmp 7] [0,1,2,3,6,7,8,9,10,35] Tryz.func116 fun X hX=>?_
 (iterate 2 (refine yA ?_;(simp[go_sem])))
 refine aT ?_
 refine m9 [1,2,3,6,7,8] hX ?_
 simp[go_sem,normO,updA,cV]
 refine bA (st0:=⟨mkE [(1,ss s),(2,.sl (V.map v3)),(3,.el 0 37 0 0),(8,.ow 1)],[.row ⟨34,37,[bl b]⟩,.map ⟨9,32,clM b⟩]⟩) ?_ ?_
 ·refine yS _ [.old 0 ⟨34,37,[bl b]⟩,.oldM 1 ⟨9,32,clM b⟩] ?_ (by simp[go_sem,clM])
  simp[go_sem,clM]
 (repeat(refine yA ?_;(simp[go_sem,hl])))
 refine aK (fun hg=>c1) ?_
 simp[go_sem]
 refine aA (by simp[go_sem]) ?_
 (repeat(refine yA ?_;(simp[go_sem])))
 refine aC c2 ?_
 simp[go_sem]
 (repeat(refine yA ?_;(simp[go_sem])))
end Go.Proofs.YtdcidannegcaoaaGreatDoor

namespace Go.Proofs.YtdcidannegcaoaaGreatDoor
def insS(x:Int)(P:List Int):List Int:=P.takeWhile (fun e=>decide (e≤x))++x::P.dropWhile (fun e=>decide (e≤x))
def sortS(X:List Int):List Int:=X.foldl (fun P x=>insS x P) []
theorem iU(X:List Int)(x:Int):sortS (X++[x])=insS x (sortS X):=by unfold sortS;rw[List.foldl_append];rfl
theorem AE(x:Int)(P:List Int):(insS x P).Perm (x::P):=by
 unfold insS
 refine List.perm_middle.trans ?_
 rw[List.takeWhile_append_dropWhile]
theorem cH(X:List Int):(sortS X).Perm X:=by
 have:∀k,k≤X.length→(sortS (X.take k)).Perm (X.take k):=by
  intro k
  induction k with
  |zero=>intro _;exact .refl _
  |succ k ih=>
   intro hk
   rw[List.take_succ_eq_append_getElem (by omega),iU]
   exact(AE _ _).trans (((ih (by omega)).cons _).trans (List.perm_append_singleton _ _).symm)
 have:=this X.length (Nat.le_refl _)
 rwa [List.take_length]at this
theorem xZ{x:Int}:∀{P:List Int},P.Pairwise (· ≤ ·)→∀e∈P.dropWhile (fun e=>decide (e≤x)),x<e
 | [],_,e,he=>by simp at he
 |y::P,h,e,he=>by
  rw[List.pairwise_cons]at h
  rw[List.dropWhile_cons]at he
  split at he
  ·exact xZ h.2 e he
  ·rename_i hy
   have hy:x<y:=by simpa using hy
   rcases List.mem_cons.1 he with rfl|he
   ·exact hy
   ·have:=h.1 e he;omega
theorem GN{x:Int}{P:List Int}:∀e∈P.takeWhile (fun e=>decide (e≤x)),e≤x:=fun e he=>by
 have:=List.all_takeWhile (p:=fun e=>decide (e≤x)) (l:=P)
 simpa using List.all_eq_true.1 this e he
theorem tI{x:Int}{P:List Int}(h:P.Pairwise (· ≤ ·)):(insS x P).Pairwise (· ≤ ·):=by
 unfold insS
 have hs:=h
 rw[←List.takeWhile_append_dropWhile (p:=fun e=>decide (e≤x)) (l:=P)]at hs
 rw[List.pairwise_append]at hs⊢
 refine⟨hs.1,List.pairwise_cons.2 ⟨fun e he=>?_,hs.2.1⟩,fun a ha b hb=>?_⟩
 ·have:=xZ h e he;omega
 ·rcases List.mem_cons.1 hb with rfl|hb
  ·exact GN a ha
  ·exact hs.2.2 a ha b hb
theorem jQ(X:List Int):(sortS X).Pairwise (· ≤ ·):=by
 have:∀k,k≤X.length→(sortS (X.take k)).Pairwise (· ≤ ·):=by
  intro k
  induction k with
  |zero=>intro _;exact List.Pairwise.nil
  |succ k ih=>
   intro hk
   rw[List.take_succ_eq_append_getElem (by omega),iU]
   exact tI (ih (by omega))
 have:=this X.length (Nat.le_refl _)
 rwa [List.take_length]at this
theorem kR(X:List Int):(sortS X).length=X.length:=(cH X).length_eq
theorem y5{x:Int}:∀{P:List Int} (k:Nat),k≤P.length→(∀e∈P.take k,e≤x)→(∀e∈P.drop k,x<e)→insS x P=P.take k++x::P.drop k
 | [],k,_,_,_=>by simp[insS]
 |y::P,0,_,_,h2=>by
  have:¬y≤x:=by have:=h2 y (by simp);omega
  simp[insS,this]
 |y::P,k+1,hk,h1,h2=>by
  have hy:y≤x:=h1 y (by simp)
  have ih:=y5 (x:=x) k (by simpa using hk) (fun e he=>h1 e (by simp[he])) (fun e he=>h2 e (by simpa using he))
  unfold insS at ih⊢
  rw[List.takeWhile_cons_of_pos (by simpa using hy),List.dropWhile_cons_of_pos (by simpa using hy)]
  simp only[List.cons_append,List.take_succ_cons,List.drop_succ_cons,ih]
def rowY(s:List Int)(x:Int)(post:List Int)(k:Nat):List Int:=(s.take k++x::s.drop k)++post
theorem DS{s:List Int}{x:Int}{post:List Int}{k:Nat}(h:k≤s.length):(rowY s x post k).length=s.length+1+post.length:=by
 simp[rowY];omega
theorem GO{s:List Int}{x:Int}{post:List Int}{k:Nat}(h:k≤s.length)(hl:k<(rowY s x post k).length):(rowY s x post k)[k]=x:=by
 simp only[rowY]
 rw[List.getElem_append_left (by simp;omega),List.getElem_append_right (by simp;omega)]
 simp[Nat.min_eq_left h]
theorem AF{s:List Int}{x:Int}{post:List Int}{k:Nat}(h:k<s.length)(hl:k<(rowY s x post (k+1)).length):(rowY s x post (k+1))[k]=s[k]:=by
 simp only[rowY]
 rw[List.getElem_append_left (by simp;omega),List.getElem_append_left (by simp;omega)]
 simp
theorem AG{s:List Int}{x:Int}{post:List Int}{k:Nat}(h:k<s.length):((rowY s x post (k+1)).set (k+1) s[k]).set k x=rowY s x post k:=by
 have e1:s.take (k+1)=s.take k++[s[k]]:=List.take_succ_eq_append_getElem h
 have e2:s.drop k=s[k]::s.drop (k+1):=List.drop_eq_getElem_cons h
 have hk:(s.take k).length=k:=by simp;omega
 simp only[rowY,e1,e2,List.append_assoc]
 rw[List.set_append_right _ _ (by omega),List.set_append_right _ _ (by omega),hk]
 congr 1
 rw[show k+1-k=1 by omega,show k-k=0 by omega]
 rfl
def ddN(Y:List Int):Nat→List Int
 |0=>[]
 |n+1=>if n≠0∧Y.getD n 0=Y.getD (n-1) 0 then ddN Y n else ddN Y n++[Y.getD n 0]
theorem jX{Y:List Int}{n:Nat}(h0:n≠0)(h:Y.getD n 0=Y.getD (n-1) 0):ddN Y (n+1)=ddN Y n:=by rw[ddN,if_pos ⟨h0,h⟩]
theorem jY{Y:List Int}{n:Nat}(h:¬(n≠0∧Y.getD n 0=Y.getD (n-1) 0)):ddN Y (n+1)=ddN Y n++[Y.getD n 0]:=by rw[ddN,if_neg h]
theorem D9(Y:List Int):∀n,(ddN Y n).length≤n
 |0=>Nat.le_refl _
 |n+1=>by
  rw[ddN]
  have:=D9 Y n
  split
  ·omega
  ·simp;exact this
theorem DT{Y:List Int}{k:Nat}(h:(ddN Y k).length<k):∀d,(ddN Y (k+d)).length<k+d
 |0=>h
 |d+1=>by
  have:=DT h d
  show(ddN Y ((k+d)+1)).length<_
  rw[ddN]
  split
  ·omega
  ·simp;omega
theorem gD{Y:List Int}{n:Nat}(h:n<Y.length):Y.getD n 0=Y[n]:=by rw[List.getD_eq_getElem?_getD,List.getElem?_eq_getElem h];rfl
theorem iC{Y:List Int}:∀{n:Nat},n≤Y.length→∀e,e∈ddN Y n↔e∈Y.take n
 |0,_,e=>by simp[ddN]
 |n+1,h,e=>by
  have ih:=iC (Y:=Y) (n:=n) (by omega) e
  have hnl:n<Y.length:=by omega
  have hg:Y.getD n 0=Y[n]:=gD hnl
  rw[List.take_succ_eq_append_getElem (by omega),List.mem_append,List.mem_singleton]
  by_cases hc:n≠0∧Y.getD n 0=Y.getD (n-1) 0
  ·rw[jX hc.1 hc.2,ih]
   refine⟨.inl,fun hh=>hh.elim id fun he=>?_⟩
   have hg2:Y.getD (n-1) 0=Y[n-1]:=gD (by omega)
   rw[he,←hg,hc.2,hg2]
   exact List.mem_take_iff_getElem.2 ⟨n-1,by omega,rfl⟩
  ·rw[jY hc,List.mem_append,List.mem_singleton,ih,hg]
theorem nA{Y:List Int}(h:Y.Pairwise (· ≤ ·)):∀{n:Nat},n≤Y.length→(ddN Y n).Pairwise (· < ·)
 |0,_=>List.Pairwise.nil
 |n+1,hn=>by
  have ih:=nA h (n:=n) (by omega)
  by_cases hc:n≠0∧Y.getD n 0=Y.getD (n-1) 0
  ·rw[jX hc.1 hc.2];exact ih
  ·rw[jY hc,List.pairwise_append]
   refine⟨ih,List.pairwise_singleton _ _,fun a ha b hb=>?_⟩
   rw[List.mem_singleton]at hb
   subst hb
   have ha:=(iC (by omega) a).1 ha
   obtain⟨j,hj,rfl⟩:=List.mem_take_iff_getElem.1 ha
   have hg:Y.getD n 0=Y[n]:=gD (by omega)
   have hg2:Y.getD (n-1) 0=Y[n-1]:=gD (by omega)
   have h1:Y[n-1]≤Y[n]:=List.pairwise_iff_getElem.1 h (n-1) n (by omega) (by omega) (by omega)
   have h2:Y[j]≤Y[n-1]:=by
    by_cases hj2:j=n-1
    ·subst hj2;exact Int.le_refl _
    ·exact List.pairwise_iff_getElem.1 h j (n-1) (by omega) (by omega) (by omega)
   rw[hg,hg2]at hc
   rw[hg]
   have:n≠0:=by omega
   have:¬Y[n]=Y[n-1]:=fun e=>hc ⟨this,e⟩
   omega
end Go.Proofs.YtdcidannegcaoaaGreatDoor

namespace Go.Proofs.YtdcidannegcaoaaGreatDoor
open Go.RowKit Go.Ab
attribute [local irreducible] AWP Go.Ab.Sub Means MeansH CallK CallG CallT CallGT PanicH DefH
abbrev rowI(L:List Int):Cell:=.row ⟨3,1,L.map ii⟩
@[go_sem] theorem zoneEs_ii(L:List Int):zoneEs (L.map ii)=true:=cZ _ _ (fun _=>rfl)
theorem HO(n:Int):Means true Tryz.prog 180 [ii n] (bb false):=by
 refine yM true 6 [.tmp 2] [0,2] Tryz.func180 fun X hX=>?_
 (repeat(refine yA ?_;(simp[go_sem])))
theorem J3(a b:Int):Means true Tryz.prog 155 [ii a,ii b] (bb (decide (a<b))):=by
 have c1:=HO a
 have c2:=HO b
 refine yM true 17 [.tmp 4] [0,1,4] Tryz.func155 fun X hX=>?_
 (repeat(refine yA ?_;(simp[go_sem])))
 refine aC c1 ?_
 simp[go_sem]
 refine bT rfl ?_
 simp[go_sem]
 (repeat(refine yA ?_;(simp[go_sem])))
set_option maxHeartbeats 4000000 in
set_option maxRecDepth 20000 in
theorem AH(Z:List Int)(hb:Z.length≤100):
  MeansH Tryz.prog 149 [rowI Z] [.ow 0,ii 0,ii Z.length] (.tup []) [rowI (sortS Z)]:=by
 refine yN 1 49 [] [0,1,2,6,7,12,30,1000000] Tryz.func149 fun X hX=>?_
 (repeat(refine yB ?_;(simp[go_sem];(try simp(disch:=omega) only[w64,td,tm]))))
 refine aE (fun i:Nat=>⟨mkE [(0,.ow 0),(1,ii 0),(2,ii Z.length),(6,ii i),(1000000,.ow 0)],[rowI (sortS (Z.take i)++Z.drop i)]⟩) (fun i=>1≤i∧i≤Z.length+(1-Z.length)) (fun i=>Z.length-i) 1 ?_ ?_ ?_
 ·have e:sortS (Z.take 1)++Z.drop 1=Z:=by
   cases Z with
   |nil=>rfl
   |cons a l=>rfl
  rw[e]
  refine yS _ [.old 0 ⟨3,1,Z.map ii⟩] ?_
  simp[go_sem]
 ·omega
 ·rintro i ⟨hi1,hi⟩
  have wi:=w64 (x:=(i:Int)+1) (by omega) (by omega)
  (repeat(refine yB ?_;(simp[go_sem])))
  refine yC (decide (i<Z.length)) (fun hc=>?_) (fun hc=>?_) (by simp[go_sem];try omega)
  ·simp at hc
   obtain⟨s,hs⟩:∃s,sortS (Z.take i)=s:=⟨_,rfl⟩
   have hsl:s.length=i:=by rw[←hs,kR];simp;omega
   have hss:s.Pairwise (· ≤ ·):=by rw[←hs];exact jQ _
   obtain⟨x,hx⟩:∃x,Z[i]=x:=⟨_,rfl⟩
   obtain⟨po,hpo⟩:∃po,Z.drop (i+1)=po:=⟨_,rfl⟩
   have hpl:s.length+1+po.length≤100:=by rw[←hpo];simp;omega
   have e0:s++Z.drop i=rowY s x po s.length:=by
    rw[List.drop_eq_getElem_cons hc,hx,←hpo]
    simp[rowY]
   have e1:sortS (Z.take (i+1))++Z.drop (i+1)=insS x s++po:=by
    rw[List.take_succ_eq_append_getElem hc,iU,hs,hx,hpo]
   have e2:i=s.length:=hsl.symm
   rw[hs,e0]
   (repeat(refine yB ?_;(simp[go_sem])))
   refine aE (fun k:Nat=>⟨mkE [(0,.ow 0),(1,ii 0),(2,ii Z.length),(6,ii i),(7,ii k),(1000000,.ow 0)],[rowI (rowY s x po k)]⟩) (fun k=>k≤s.length∧∀e∈s.drop k,x<e) (fun k=>k) s.length ?_ ?_ ?_
   ·refine yS _ [.old 0 ⟨3,1,(rowY s x po s.length).map ii⟩] ?_
    simp[go_sem,e2]
   ·simp
   ·rintro k ⟨hk,hd⟩
    have hlen:=DS (x:=x) (post:=po) hk
    have done:(∀e∈s.take k,e≤x)→rowY s x po k=sortS (Z.take (i+1))++Z.drop (i+1):=fun h1=>by rw[e1,y5 k hk h1 hd];rfl
    cases k with
    |zero=>
     have hdone:=done (by simp)
     have hi0:0<(rowY s x po 0).length:=by omega
     have hwz:IntKind.i64.wrap (-1:Int)= -1:=by decide
     generalize rowY s x po 0=D1 at*
     (repeat(refine yB ?_;(simp[go_sem,hi0,hwz])))
     (repeat refine⟨by first|omega|(rw[bH];omega)|kernel_rfl|grind,?_⟩)
     refine dB rfl ?_
     (simp[go_sem];try(refine⟨by kernel_rfl,?_⟩))
     refine yF ?_
     (repeat(refine yB ?_;(simp[go_sem,wi])))
     refine⟨i+1,⟨by omega,by omega⟩,by omega,?_⟩
     rw[←hdone]
     refine yS _ [.old 0 ⟨3,1,D1.map ii⟩] ?_
     simp[go_sem]
    |succ k=>
     have hks:k<s.length:=by omega
     have hp1:k+1<(rowY s x po (k+1)).length:=by omega
     have hp2:k<(rowY s x po (k+1)).length:=by omega
     have hat:(rowY s x po (k+1))[k+1]=x:=GO hk hp1
     have hpv:(rowY s x po (k+1))[k]=s[k]:=AF hks hp2
     have hsw:=AG (x:=x) (post:=po) hks
     have ht1:((k:Int)+1).toNat=k+1:=by omega
     have hwp:IntKind.i64.wrap (k:Int)=(k:Int):=w64 (by omega) (by omega)
     have hcm:=J3 x s[k]
     have hdk:x<s[k]→∀e∈s.drop k,x<e:=fun h e he=>by
      rw[List.drop_eq_getElem_cons hks]at he
      rcases List.mem_cons.1 he with rfl|he
      ·exact h
      ·exact hd e he
     have hup:¬x<s[k]→∀e∈s.take (k+1),e≤x:=fun h e he=>by
      rw[List.take_succ_eq_append_getElem hks]at he
      rcases List.mem_append.1 he with he|he
      ·obtain⟨j,hj,rfl⟩:=List.mem_take_iff_getElem.1 he
       have:=List.pairwise_iff_getElem.1 hss j k (by omega) hks (by omega)
       omega
      ·simp at he;rw[he];omega
     obtain⟨y,hye⟩:∃y,s[k]=y:=⟨_,rfl⟩
     rw[hye]at hpv hsw hcm hdk hup
     generalize rowY s x po (k+1)=D1 at*
     have hzs:zoneEs (((D1.map ii).set (k+1) (ii y)).set k (ii x))=true:=by
      rw[←List.map_set,←List.map_set];exact cZ _ _ (fun _=>rfl)
     have hns:nth ((D1.map ii).set (k+1) (ii y)) k=ii y:=by
      rw[←List.map_set,bF ii (by simpa using hp2),List.getElem_set_ne (by omega),hpv]
     (repeat(refine yB ?_;(simp[go_sem,hp1,hp2,hat,hpv,ht1,hwp])))
     (repeat refine⟨by first|omega|(rw[bH];omega)|kernel_rfl|grind,?_⟩)
     refine eI (fun hg=>hcm) ?_
     (simp[go_sem,hp1,hp2,hat,hpv,ht1,hwp];try(refine⟨by kernel_rfl,?_⟩))
     refine yC (decide (x<y)) (fun hd2=>?_) fun hd2=>?_
     ·simp only[decide_eq_true_eq]at hd2
      (repeat(refine yB ?_;(simp[go_sem,hp1,hp2,hat,hpv,ht1,hwp,hzs])))
      (repeat refine⟨by first|omega|(rw[bH];omega)|kernel_rfl|grind,?_⟩)
      (repeat(refine yB ?_;(simp[go_sem,hp1,hp2,hat,hpv,ht1,hwp,hzs])))
      refine⟨k,⟨by omega,hdk hd2⟩,by omega,?_⟩
      rw[←hsw]
      refine yS _ [.old 0 ⟨3,1,((D1.set (k+1) y).set k x).map ii⟩] ?_ (by simp[go_sem,hns,hzs])
      simp[go_sem]
     ·simp only[decide_eq_false_iff_not]at hd2
      have hdone:=done (hup hd2)
      (repeat(refine yB ?_;(simp[go_sem,wi])))
      refine⟨i+1,⟨by omega,by omega⟩,by omega,?_⟩
      rw[←hdone]
      refine yS _ [.old 0 ⟨3,1,D1.map ii⟩] ?_
      simp[go_sem]
  ·simp at hc
   have e:sortS (Z.take i)++Z.drop i=sortS Z:=by rw[List.take_of_length_le hc,List.drop_eq_nil_of_le hc,List.append_nil]
   rw[e]
   (repeat(refine yB ?_;(simp[go_sem])))
   refine aJ [(1000000,.ow 0)] [.old 0 ⟨3,1,(sortS Z).map ii⟩] ?_
   simp[go_sem]
end Go.Proofs.YtdcidannegcaoaaGreatDoor

namespace Go.Proofs.YtdcidannegcaoaaGreatDoor
open Go.RowKit Go.Ab
attribute [local irreducible] AWP Go.Ab.Sub Means MeansH CallK CallG CallT CallGT PanicH DefH
def lenE(n:Nat):Int:=if n=0 then 0 else if n<2 then 1 else if n<4 then 2 else if n<8 then 3 else 4
set_option maxRecDepth 20000 in
theorem GP(n:Nat)(h:n≤12):Means true Tryz.prog 159 [.v (.int .u64 n)] (ii (lenE n)):=by
 have n1:¬(4294967296:Int)≤n:=by omega
 have n2:¬(65536:Int)≤n:=by omega
 have n3:¬(256:Int)≤n:=by omega
 have w1:IntKind.u8.wrap (n:Int)=n:=by
  have:n=0∨n=1∨n=2∨n=3∨n=4∨n=5∨n=6∨n=7∨n=8∨n=9∨n=10∨n=11∨n=12:=by omega
  rcases this with rfl|rfl|rfl|rfl|rfl|rfl|rfl|rfl|rfl|rfl|rfl|rfl|rfl<;>rfl
 refine yM true 25 [.tmp 2] [0,2,4,8,14] Tryz.func159 fun X hX=>?_
 (repeat(refine yA ?_;(simp[go_sem])))
 refine yF ?_ (by simp[go_sem,n1])
 (repeat(refine yA ?_;(simp[go_sem])))
 refine yF ?_ (by simp[go_sem,n2])
 (repeat(refine yA ?_;(simp[go_sem])))
 refine yF ?_ (by simp[go_sem,n3])
 (repeat(refine yA ?_;(simp[go_sem,w1])))
 refine⟨by omega,?_⟩
 refine aB ?_
 have:n=0∨n=1∨n=2∨n=3∨n=4∨n=5∨n=6∨n=7∨n=8∨n=9∨n=10∨n=11∨n=12:=by omega
 rcases this with rfl|rfl|rfl|rfl|rfl|rfl|rfl|rfl|rfl|rfl|rfl|rfl|rfl<;>(simp[go_sem,lenE];try decide)
theorem KE(n:Nat)(h:n≤12):Means true Tryz.prog 120 [.v (.int .u64 n)] (ii (lenE n)):=by
 have c1:=GP n h
 refine yM true 8 [.tmp 2] [0,2] Tryz.func120 fun X hX=>?_
 (repeat(refine yA ?_;(simp[go_sem])))
 refine yF ?_
 (repeat(refine yA ?_;(simp[go_sem])))
 refine aC c1 ?_
 simp[go_sem]
 (repeat(refine yA ?_;(simp[go_sem])))
theorem KF(Z:List Int)(hb:Z.length≤12)(r:Int):MeansH Tryz.prog 119 [rowI Z] [.ow 0,ii 0,ii Z.length,ii r] (.tup []) [rowI (sortS Z)]:=by
 have c1:=AH Z (by omega)
 have w:=w64 (x:=(Z.length:Int)) (by omega) (by omega)
 have hb2:(Z.length:Int)≤12:=by omega
 refine yN 1 134 [] [0,1,2,3,8,9,10,11,12,13,14,15,16,17,18,23,29,35,50,68,72,87,113,1000000] Tryz.func119 fun X hX=>?_
 (repeat(refine yB ?_;(simp[go_sem])))
 refine aE (fun _:Unit=>⟨mkE [(0,.ow 0),(1,ii 0),(2,ii Z.length),(1000000,.ow 0)],[rowI Z]⟩) (fun _=>True) (fun _=>0) () ?_ trivial ?_
 ·refine yS _ [.old 0 ⟨3,1,Z.map ii⟩] ?_
  simp[go_sem]
 ·rintro _ _
  (repeat(refine yB ?_;(simp[go_sem,w])))
  refine yT ?_ (by simp[go_sem];omega)
  (repeat(refine yB ?_;(simp[go_sem])))
  refine yH [0] c1 ?_
  simp[go_sem]
  refine aB ?_;simp only[thenQ,blkQ,loopQ];refine a8 [(1000000,.ow 0)] [.old 0 ⟨3,1,(sortS Z).map ii⟩] ?_
  simp[go_sem]
theorem uL(Z:List Int)(hb:Z.length≤12):MeansH Tryz.prog 75 [rowI Z] [.ow 0] (.tup []) [rowI (sortS Z)]:=by
 have c1:=KE Z.length hb
 have c2:=KF Z hb (lenE Z.length)
 have w:IntKind.u64.wrap (Z.length:Int)=Z.length:=by
  have:Z.length=0∨Z.length=1∨Z.length=2∨Z.length=3∨Z.length=4∨Z.length=5∨Z.length=6∨Z.length=7∨Z.length=8∨Z.length=9∨Z.length=10∨Z.length=11∨Z.length=12:=by omega
  rcases this with h|h|h|h|h|h|h|h|h|h|h|h|h<;>rw[h]<;>rfl
 refine yN 1 11 [] [0,2,1000000] Tryz.func75 fun X hX=>?_
 (repeat(refine yB ?_;(simp[go_sem,w])))
 refine aC c1 ?_
 simp[go_sem]
 refine yH [0] c2 ?_
 simp[go_sem]
 refine aJ [(1000000,.ow 0)] [.old 0 ⟨3,1,(sortS Z).map ii⟩] ?_
 simp[go_sem]
end Go.Proofs.YtdcidannegcaoaaGreatDoor

namespace Go.Proofs.YtdcidannegcaoaaGreatDoor
open Go.RowKit Go.Ab
attribute [local irreducible] AWP Go.Ab.Sub Means MeansH CallK CallG CallT CallGT PanicH DefH
def cpR(Y:List Int):AV:=if(ddN Y Y.length).length=Y.length then .ow 0 else .wn 0 1 0 (ddN Y Y.length).length
def cpL(Y:List Int):List Int:=if(ddN Y Y.length).length=Y.length then Y else ddN Y Y.length++List.replicate (Y.length-(ddN Y Y.length).length) 0
theorem lS{Y:List Int}(h:ddN Y Y.length=Y):cpR Y=.ow 0∧cpL Y=Y:=by unfold cpR cpL;rw[h];simp
theorem y6{Y:List Int}(h:(ddN Y Y.length).length<Y.length):cpR Y=.wn 0 1 0 (ddN Y Y.length).length∧cpL Y=ddN Y Y.length++List.replicate (Y.length-(ddN Y Y.length).length) 0:=by
 unfold cpR cpL;rw[if_neg (by omega),if_neg (by omega)];exact⟨rfl,rfl⟩
set_option maxHeartbeats 4000000 in
set_option maxRecDepth 20000 in
theorem A7(Y:List Int)(hb:Y.length≤100):MeansH Tryz.prog 95 [rowI Y] [.ow 0] (cpR Y) [rowI (cpL Y)]:=by
 have gd:∀{n:Nat} (h:n<Y.length),Y.getD n 0=Y[n]:=fun h=>gD h
 refine yN 1 61 [.tmp 2] [0,2,3,4,5,8,13,25,32,44,1000000] Tryz.func95 fun X hX=>?_
 (repeat(refine yB ?_;(simp[go_sem])))
 refine yC (decide (Y.length<2)) (fun hc=>?_) (fun hc=>?_) (by simp[go_sem];try omega)
 ·simp at hc
  have e:ddN Y Y.length=Y:=by
   match Y,hc with
   | [],_=>rfl
   | [a],_=>rfl
   |a::b::l,h=>simp at h;omega
  rw[(lS e).1,(lS e).2]
  (repeat(refine yB ?_;(simp[go_sem])))
  refine aB ?_;simp only[thenQ,blkQ,loopQ];refine a8 [(2,.ow 0),(1000000,.ow 0)] [.old 0 ⟨3,1,Y.map ii⟩] ?_
  simp[go_sem]
 simp at hc
 (repeat(refine yB ?_;(simp[go_sem])))
 refine aE (fun k:Nat=>⟨mkE [(0,.ow 0),(3,ii k),(1000000,.ow 0)],[rowI Y]⟩) (fun k=>1≤k∧k≤Y.length∧ddN Y k=Y.take k) (fun k=>Y.length-k) 1 ?_ ?_ ?_
 ·refine yS _ [.old 0 ⟨3,1,Y.map ii⟩] ?_
  simp[go_sem]
 ·refine⟨Nat.le_refl _,by omega,?_⟩
  match Y,hc with
  |a::l,_=>simp[ddN]
 ·rintro k ⟨hk1,hk2,hk3⟩
  (repeat(refine yB ?_;(simp[go_sem])))
  refine yC (decide (k<Y.length)) (fun hd=>?_) (fun hd=>?_) (by simp[go_sem];try omega)
  rotate_left
  ·simp at hd
   have hkl:k=Y.length:=by omega
   have e:ddN Y Y.length=Y:=by rw[←hkl,hk3,hkl,List.take_length]
   rw[(lS e).1,(lS e).2]
   (repeat(refine yB ?_;(simp[go_sem])))
   refine aB ?_;refine a8 [(2,.ow 0),(1000000,.ow 0)] [.old 0 ⟨3,1,Y.map ii⟩] ?_
   simp[go_sem]
  simp at hd
  obtain⟨j,rfl⟩:∃j,k=j+1:=⟨k-1,by omega⟩
  have hj:j<Y.length:=by omega
  have wj:=w64 (x:=(j:Int)) (by omega) (by omega)
  have wj2:=w64 (x:=(j:Int)+1+1) (by omega) (by omega)
  have tj:((j:Int)+1).toNat=j+1:=by omega
  (repeat(refine yB ?_;(simp[go_sem,hd,hj,wj,tj])))
  (repeat refine⟨by first|omega|(rw[bH];omega)|kernel_rfl|grind,?_⟩)
  refine yC (decide (Y[j+1]=Y[j])) (fun he=>?_) fun he=>?_
  rotate_left
  ·have he':¬Y[j+1]=Y[j]:=by simpa using he
   (repeat(refine yB ?_;(simp[go_sem,wj2])))
   refine⟨j+1+1,⟨by omega,by omega,?_⟩,by omega,?_⟩
   ·rw[jY (by rw[gd hd,show j+1-1=j by omega,gd hj];exact fun h=>he' h.2),hk3,gd hd,←List.take_succ_eq_append_getElem hd]
   ·refine yS _ [.old 0 ⟨3,1,Y.map ii⟩] ?_
    simp[go_sem]
  have he':Y[j+1]=Y[j]:=by simpa using he
  have hstart:ddN Y (j+1+1)=Y.take (j+1):=by rw[jX (by omega) (by rw[gd hd,show j+1-1=j by omega,gd hj];exact he'),hk3]
  have hlow:(ddN Y (j+1+1)).length<j+1+1:=by rw[hstart];simp;omega
  have hnl:(Y.length:Int)-((j:Int)+1)=((Y.length-(j+1):Nat):Int):=by omega
  (repeat(refine yB ?_;(simp[go_sem])))
  (repeat refine⟨by first|omega|(rw[bH];omega)|kernel_rfl|grind,?_⟩)
  (repeat(refine yB ?_;(simp[go_sem])))
  refine aE (fun(p:Nat×Nat×List Int)=>⟨mkE [(0,.ow 0),(3,ii p.2.1),(4,.wn 0 1 (j+1) (Y.length-(j+1))),(5,ii p.1),(1000000,.ow 0)],[rowI p.2.2]⟩)
   (fun p=>1≤p.1∧j+1+p.1≤Y.length∧p.2.2.length=Y.length∧p.2.2.take p.2.1=ddN Y (j+1+p.1)∧p.2.1=(ddN Y (j+1+p.1)).length∧p.2.2.drop (j+p.1)=Y.drop (j+p.1)) (fun p=>Y.length-p.1) (1,j+1,Y) ?_ ?_ ?_
  ·refine yS _ [.old 0 ⟨3,1,Y.map ii⟩] ?_ (by simp[go_sem,tj])
   simp[go_sem,tj]
  ·refine⟨Nat.le_refl _,hd,rfl,hstart.symm,?_,rfl⟩
   show j+1=(ddN Y (j+1+1)).length
   rw[hstart];simp;omega
  ·rintro⟨q,k,L⟩ ⟨i1,i2,i3,i4,i5,i6⟩
   simp only[]at i1 i2 i3 i4 i5 i6⊢
   have hkq:k≤j+q:=by
    have:=DT hlow (q-1)
    rw[show j+1+1+(q-1)=j+1+q by omega]at this
    omega
   have hmn:((Y.length-(j+1):Nat):Int)=(Y.length:Int)-(j+1):=by omega
   (repeat(refine yB ?_;(simp[go_sem])))
   refine yC (decide (q<Y.length-(j+1))) (fun hx=>?_) (fun hx=>?_) (by simp[go_sem];try omega)
   rotate_left
   ·simp at hx
    have hq:j+1+q=Y.length:=by omega
    rw[hq]at i4 i5
    have hless:(ddN Y Y.length).length<Y.length:=by omega
    have hkl:k≤L.length:=by omega
    rw[(y6 hless).1,(y6 hless).2,←i5,←i4]
    have hki:(k:Int)≤L.length:=by omega
    have hk0:k≤Y.length:=by omega
    (repeat(refine yB ?_;(simp[go_sem,hkl,i3])))
    (repeat refine⟨by first|omega|(rw[bH];omega)|kernel_rfl|grind,?_⟩)
    (repeat(refine yB ?_;(simp[go_sem,hki,hkl,hk0,i3])))
    (repeat refine⟨by first|omega|(rw[bH];omega)|kernel_rfl|grind,?_⟩)
    refine aB ?_;simp only[thenQ,blkQ,loopQ];refine a8 [(2,.wn 0 1 0 k),(1000000,.ow 0)] [.old 0 ⟨3,1,(L.take k++List.replicate (Y.length-k) 0).map ii⟩] ?_
    simp[go_sem,i3]
   simp at hx
   obtain⟨r,rfl⟩:∃r,q=r+1:=⟨q-1,by omega⟩
   have hx1:j+1+(r+1)<L.length:=by omega
   have hx2:j+1+r<L.length:=by omega
   have g1:L[j+1+(r+1)]=Y[j+1+(r+1)]'(by omega):=by
    have h1:(L.drop (j+(r+1)))[1]? =(Y.drop (j+(r+1)))[1]? :=by rw[i6]
    rw[List.getElem?_drop,List.getElem?_drop,show j+(r+1)+1=j+1+(r+1) by omega,List.getElem?_eq_getElem hx1,List.getElem?_eq_getElem (by omega)]at h1
    exact Option.some.inj h1
   have g2:L[j+1+r]=Y[j+1+r]'(by omega):=by
    have h1:(L.drop (j+(r+1)))[0]? =(Y.drop (j+(r+1)))[0]? :=by rw[i6]
    rw[List.getElem?_drop,List.getElem?_drop,show j+(r+1)+0=j+1+r by omega,List.getElem?_eq_getElem hx2,List.getElem?_eq_getElem (by omega)]at h1
    exact Option.some.inj h1
   have wr:=w64 (x:=(r:Int)) (by omega) (by omega)
   have wr2:=w64 (x:=(r:Int)+1+1) (by omega) (by omega)
   have wk:=w64 (x:=(k:Int)+1) (by omega) (by omega)
   have hkL:k<L.length:=by omega
   have hxi:(r:Int)+1<((Y.length-(j+1):Nat):Int):=by omega
   have hxr:(r:Int)<((Y.length-(j+1):Nat):Int):=by omega
   generalize hya:Y[j+1+(r+1)]'(by omega)=ya at g1
   generalize hyb:Y[j+1+r]'(by omega)=yb at g2
   have hyb2:Y.getD (j+1+(r+1)-1) 0=yb:=by rw[←hyb,←gd];congr 1
   have hya2:Y.getD (j+1+(r+1)) 0=ya:=by rw[←hya];exact gd _
   (repeat(refine yB ?_;(simp[go_sem,wr,hx1,hx2,g1,g2,hxi,hxr])))
   (repeat refine⟨by first|omega|(rw[bH];omega)|kernel_rfl|grind,?_⟩)
   refine yC (!decide (ya=yb)) (fun hy=>?_) fun hy=>?_
   ·have hy':¬ya=yb:=by simpa using hy
    have e:ddN Y (j+1+(r+1)+1)=ddN Y (j+1+(r+1))++[ya]:=by
     rw[jY (by rw[hya2,hyb2];exact fun h=>hy' h.2),hya2]
    have hzs:zoneEs ((L.map ii).set k (ii ya))=true:=by rw[←List.map_set];exact cZ _ _ (fun _=>rfl)
    (repeat(refine yB ?_;(simp[go_sem,wr,wr2,wk,hx1,hx2,g1,g2,hxi,hxr,hkL,hzs])))
    (repeat refine⟨by first|omega|(rw[bH];omega)|kernel_rfl|grind,?_⟩)
    (repeat(refine yB ?_;(simp[go_sem,wr,wr2,wk,hx1,hx2,g1,g2,hxi,hxr,hkL,hzs])))
    refine⟨r+1+1,k+1,L.set k ya,⟨by omega,by omega,by simpa using i3,?_,?_,?_⟩,by omega,?_⟩
    ·show(L.set k ya).take (k+1)=ddN Y (j+1+(r+1)+1)
     rw[e,←i4,List.take_succ_eq_append_getElem (by simpa using hkL),List.take_set_of_le (Nat.le_refl _)]
     simp
    ·show k+1=(ddN Y (j+1+(r+1)+1)).length
     rw[e,i5];simp
    ·show(L.set k ya).drop (j+(r+1)+1)=Y.drop (j+(r+1)+1)
     rw[List.drop_set_of_lt (by omega)]
     have:=congrArg (List.drop 1) i6
     rwa [List.drop_drop,List.drop_drop]at this
    ·refine yS _ [.old 0 ⟨3,1,(L.set k ya).map ii⟩] ?_ (by simp[go_sem,hzs])
     simp[go_sem,hzs]
   ·have hy':ya=yb:=by simpa using hy
    have e:ddN Y (j+1+(r+1)+1)=ddN Y (j+1+(r+1)):=jX (by omega) (by rw[hya2,hyb2];exact hy')
    (repeat(refine yB ?_;(simp[go_sem,wr2])))
    refine⟨r+1+1,k,L,⟨by omega,by omega,i3,?_,?_,?_⟩,by omega,?_⟩
    ·show L.take k=ddN Y (j+1+(r+1)+1)
     rw[e,i4]
    ·show k=(ddN Y (j+1+(r+1)+1)).length
     rw[e,i5]
    ·have:=congrArg (List.drop 1) i6
     rwa [List.drop_drop,List.drop_drop]at this
    ·refine yS _ [.old 0 ⟨3,1,L.map ii⟩] ?_
     simp[go_sem]
end Go.Proofs.YtdcidannegcaoaaGreatDoor

namespace Go.Proofs.YtdcidannegcaoaaGreatDoor
open Go.RowKit Go.Ab
attribute [local irreducible] AWP Go.Ab.Sub Means MeansH CallK CallG CallT CallGT PanicH DefH CallU
set_option maxHeartbeats 4000000 in
theorem GQ(f:FuncId)(E0 k0:Nat)(c0:AV)(p:Cn→Bool)(L:List Cn)(hl:L.length≤100000)(hz0:c0.flat.all AV.zone=true)(hf:∀x∈L,MeansH Tryz.prog f [.row ⟨E0,k0,[c0]⟩] [cn x,.el 0 k0 0 0] (bb (p x)) [.row ⟨E0,k0,[c0]⟩])(hcall:callable Tryz.prog f=true):
  MeansH Tryz.prog 131 [.row ⟨E0,k0,[c0]⟩] [.sl (L.map cn),.fn f [] [.el 0 k0 0 0]] (ii (match L.findIdx? p with|some n=>(n:Int)|none=> -1)) [.row ⟨E0,k0,[c0]⟩]:=by
 have hy0:∀x∈c0.flat,x.zone=true:=by simpa using hz0
 refine yN 1 19 [.tmp 4] [0,1,4,5,7,8,9,16,1000000] Tryz.func131 fun X hX=>?_
 (repeat(refine yB ?_;(simp[go_sem])))
 refine aE (fun n:Nat=>⟨mkE [(0,.sl (L.map cn)),(1,.fn f [] [.el 0 k0 0 0]),(7,ii L.length),(8,ii n),(1000000,.ow 0)],[.row ⟨E0,k0,[c0]⟩]⟩) (fun n=>n≤L.length∧∀k (h:k<L.length),k<n→p L[k]=false) (fun n=>L.length-n) 0 ?_ ?_ ?_
 ·refine yS _ [.old 0 ⟨E0,k0,[c0]⟩] ?_ (by simp[go_sem,hz0,hy0])
  simp[go_sem,hz0,hy0]
 ·exact⟨Nat.zero_le _,fun k h hk=>absurd hk (by omega)⟩
 ·rintro n ⟨h1,h2⟩
  (repeat(refine yB ?_;(simp[go_sem])))
  refine yC (decide (n<L.length)) (fun hc=>?_) fun hc=>?_
  ·simp at hc
   have hq:=HY hc
   have wk:=w64 (x:=(n:Int)+1) (by omega) (by omega)
   (repeat(refine yB ?_;(simp[go_sem,hc,hq,hcall])))
   refine aZ [0] (hf L[n] (List.getElem_mem hc)) (by simp[go_sem,hz0,hy0]) ?_
   simp[go_sem,hz0]
   refine yC (p L[n]) (fun hs=>?_) fun hs=>?_
   ·have e1:L.findIdx? p=some n:=by
     rw[List.findIdx?_eq_some_iff_getElem]
     exact⟨hc,hs,fun k hk=>by rw[h2 k (by omega) hk];simp⟩
    rw[e1]
    (repeat(refine yB ?_;(simp[go_sem])))
    refine aB ?_;simp only[thenQ,blkQ,loopQ];refine a8 [(4,ii n),(1000000,.ow 0)] [.old 0 ⟨E0,k0,[c0]⟩] ?_
    simp[go_sem,hz0,hy0]
   ·(repeat(refine yB ?_;(simp[go_sem,wk])))
    refine⟨n+1,⟨by omega,fun k h hk=>?_⟩,by omega,?_⟩
    ·by_cases e:k=n
     ·subst e;exact hs
     ·exact h2 k h (by omega)
    ·refine yS _ [.old 0 ⟨E0,k0,[c0]⟩] ?_ (by simp[go_sem,hz0,hy0])
     simp[go_sem,hz0,hy0]
  ·simp at hc
   have e1:L.findIdx? p=none:=by
    rw[List.findIdx?_eq_none_iff]
    intro x hx
    obtain⟨k,hk,rfl⟩:=List.getElem_of_mem hx
    exact h2 k hk (by omega)
   rw[e1]
   (repeat(refine yB ?_;(simp[go_sem])))
   refine aB ?_;refine a8 [(4,ii (-1)),(1000000,.ow 0)] [.old 0 ⟨E0,k0,[c0]⟩] ?_
   simp[go_sem,hz0,hy0]
theorem GR(f:FuncId)(E0 k0:Nat)(c0:AV)(p:Cn→Bool)(L:List Cn)(hl:L.length≤100000)(hz0:c0.flat.all AV.zone=true)(hf:∀x∈L,MeansH Tryz.prog f [.row ⟨E0,k0,[c0]⟩] [cn x,.el 0 k0 0 0] (bb (p x)) [.row ⟨E0,k0,[c0]⟩])(hcall:callable Tryz.prog f=true):
  MeansH Tryz.prog 92 [.row ⟨E0,k0,[c0]⟩] [.sl (L.map cn),.fn f [] [.el 0 k0 0 0]] (bb (L.any p)) [.row ⟨E0,k0,[c0]⟩]:=by
 have hy0:∀x∈c0.flat,x.zone=true:=by simpa using hz0
 have hI:=GQ f E0 k0 c0 p L hl hz0 hf hcall
 refine yN 1 9 [.tmp 4] [0,1,4,1000000] Tryz.func92 fun X hX=>?_
 (repeat(refine yB ?_;(simp[go_sem])))
 refine aZ [0] hI (by simp[go_sem,hz0,hy0]) ?_
 simp[go_sem,hz0]
 have e:decide (0≤(match L.findIdx? p with|some n=>(n:Int)|none=> -1))=L.any p:=by
  cases hf:L.findIdx? p with
  |none=>
   have:L.any p=false:=by
    rw[List.any_eq_false]
    intro x hx
    rw[List.findIdx?_eq_none_iff.1 hf x hx];simp
   rw[this];rfl
  |some n=>
   obtain⟨h1,h2,_⟩:=List.findIdx?_eq_some_iff_getElem.1 hf
   have:L.any p=true:=List.any_eq_true.2 ⟨L[n],List.getElem_mem h1,h2⟩
   rw[this]
   simp
 rw[←e]
 refine aB ?_;refine a8 [(4,bb (decide (0≤(match L.findIdx? p with|some n=>(n:Int)|none=> -1)))),(1000000,.ow 0)] [.old 0 ⟨E0,k0,[c0]⟩] ?_
 simp[go_sem,hz0,hy0]
set_option maxHeartbeats 4000000 in
theorem DU(f:FuncId)  (p:Int→Bool)(L:List Int)(hl:L.length≤100000)  (hf:∀x∈L,Means true Tryz.prog f [ii x] (bb (p x)))(hcall:callable Tryz.prog f=true):
  Means true Tryz.prog 113 [.sl (L.map ii),.v (.func (.func f) #[] #[])] (ii (match L.findIdx? p with|some n=>(n:Int)|none=> -1)):=by
 refine yM true 19 [.tmp 4] [0,1,4,5,7,8,9,16] Tryz.func113 fun X hX=>?_
 (repeat(refine yA ?_;(simp[go_sem])))
 refine aE (fun n:Nat=>⟨mkE [(0,.sl (L.map ii)),(1,.v (.func (.func f) #[] #[])),(7,ii L.length),(8,ii n)],[]⟩) (fun n=>n≤L.length∧∀k (h:k<L.length),k<n→p L[k]=false) (fun n=>L.length-n) 0 ?_ ?_ ?_
 ·refine yS _ [] ?_
  simp[go_sem]
 ·exact⟨Nat.zero_le _,fun k h hk=>absurd hk (by omega)⟩
 ·rintro n ⟨h1,h2⟩
  (repeat(refine yA ?_;(simp[go_sem])))
  refine yC (decide (n<L.length)) (fun hc=>?_) fun hc=>?_
  ·simp at hc
   have hq:=cK hc
   have wk:=w64 (x:=(n:Int)+1) (by omega) (by omega)
   (repeat(refine yA ?_;(simp[go_sem,hc,hq,hcall])))
   refine aC (hf L[n] (List.getElem_mem hc)) ?_
   refine yC (p L[n]) (fun hs=>?_) fun hs=>?_
   ·have e1:L.findIdx? p=some n:=by
     rw[List.findIdx?_eq_some_iff_getElem]
     exact⟨hc,hs,fun k hk=>by rw[h2 k (by omega) hk];simp⟩
    rw[e1]
    (repeat(refine yA ?_;(simp[go_sem])))
   ·(repeat(refine yA ?_;(simp[go_sem,wk])))
    refine⟨n+1,⟨by omega,fun k h hk=>?_⟩,by omega,?_⟩
    ·by_cases e:k=n
     ·subst e;exact hs
     ·exact h2 k h (by omega)
    ·refine yS _ [] ?_
     simp[go_sem]
  ·simp at hc
   have e1:L.findIdx? p=none:=by
    rw[List.findIdx?_eq_none_iff]
    intro x hx
    obtain⟨k,hk,rfl⟩:=List.getElem_of_mem hx
    exact h2 k hk (by omega)
   rw[e1]
   (repeat(refine yA ?_;(simp[go_sem])))
theorem sH(f:FuncId)  (p:Int→Bool)(L:List Int)(hl:L.length≤100000)  (hf:∀x∈L,Means true Tryz.prog f [ii x] (bb (p x)))(hcall:callable Tryz.prog f=true):
  Means true Tryz.prog 67 [.sl (L.map ii),.v (.func (.func f) #[] #[])] (bb (L.any p)):=by
 have hI:=DU f  p L hl  hf hcall
 refine yM true 9 [.tmp 4] [0,1,4] Tryz.func67 fun X hX=>?_
 (repeat(refine yA ?_;(simp[go_sem])))
 refine aC hI ?_
 simp[go_sem]
 have e:decide (0≤(match L.findIdx? p with|some n=>(n:Int)|none=> -1))=L.any p:=by
  cases hf:L.findIdx? p with
  |none=>
   have:L.any p=false:=by
    rw[List.any_eq_false]
    intro x hx
    rw[List.findIdx?_eq_none_iff.1 hf x hx];simp
   rw[this];rfl
  |some n=>
   obtain⟨h1,h2,_⟩:=List.findIdx?_eq_some_iff_getElem.1 hf
   have:L.any p=true:=List.any_eq_true.2 ⟨L[n],List.getElem_mem h1,h2⟩
   rw[this]
   simp
 rw[←e]
 (repeat(refine yA ?_;(simp[go_sem])))
def okC(n:Int)(c:Cn):Prop:=(0≤c.a∧c.a<n)∧(0≤c.b∧c.b<n)∧ -1099511627776≤c.n∧c.n≤1099511627776
set_option maxRecDepth 20000 in
theorem KG(n:Int)(c:Cn)(h:okC n c):MeansH Tryz.prog 93 [.row ⟨3,1,[ii n]⟩] [cn c,.el 0 1 0 0] (bb ((fun _:Cn=>false) c)) [.row ⟨3,1,[ii n]⟩]:=by
 obtain⟨h1,h2,h3,h4⟩:=h
 have e1:¬min c.a c.b<0:=by omega
 have e2:¬n≤max c.a c.b:=by omega
 have e3:¬c.n< -1099511627776:=by omega
 have e4:¬1099511627776<c.n:=by omega
 refine yN 1 29 [.tmp 3] [0,1,2,3,1000000] Tryz.func93 fun X hX=>?_
 (repeat(refine yB ?_;(simp[go_sem,e1,e2,e3,e4])))
 refine aB ?_;refine a8 [(3,bb false),(1000000,.ow 0)] [.old 0 ⟨3,1,[ii n]⟩] ?_
 simp[go_sem,e1,e2,e3,e4]
set_option maxRecDepth 20000 in
theorem DF(C:List Cn)(n:Int)(hn:0≤n∧n≤200)(hC:C.length≤2000)(h:∀c∈C,okC n c):Means true Tryz.prog 46 [.sl (C.map cn),ii n] (bb true):=by
 have c1:=GR 93 3 1 (ii n) (fun _=>false) C (by omega) rfl (fun c hc=>KG n c (h c hc)) (by simp[go_sem])
 have hany:(C.any fun _=>false)=false:=by simp
 rw[hany]at c1
 refine yM true 20 [.tmp 4] [0,1,3,4,15] Tryz.func46 fun X hX=>?_
 (repeat(refine yA ?_;(simp[go_sem])))
 refine yF ?_ (by simp[go_sem];omega)
 (repeat(refine yA ?_;(simp[go_sem])))
 refine yH [0] c1 ?_
 simp[go_sem]
 (repeat(refine yA ?_;(simp[go_sem])))
abbrev u6(x:Int):AV:=.v (.int .u64 x)
theorem wuu{x:Int}(h1:0≤x)(h2:x<18446744073709551616):IntKind.u64.wrap x=x:=by
 unfold IntKind.wrap
 simp[IntKind.bits,IntKind.signed]
 omega
theorem DV{x:Int}(h1:0≤x)(h2:x<4294967296):andI .u64 x 4294967295=x:=by
 have hm:∀n:Nat,n&&&4294967295=n%4294967296:=fun n=>Nat.and_two_pow_sub_one_eq_mod n 32
 unfold andI
 rw[BitVec.toNat_and,BitVec.toNat_ofInt,BitVec.toNat_ofInt]
 show IntKind.u64.wrap (((x%(2^64:Nat)).toNat&&&((4294967295:Int)%(2^64:Nat)).toNat:Nat):Int)=_
 rw[show((4294967295:Int)%(2^64:Nat)).toNat=4294967295 by decide,hm,wuu (by omega) (by omega)]
 omega
theorem GS(k:Int)(h:0≤k∧k≤60000):Means true Tryz.prog 168 [u6 1,u6 k] (.tup [u6 0,u6 k]):=by
 have a0:=DV (x:=0) (by omega) (by omega)
 have a1:=DV (x:=1) (by omega) (by omega)
 have a2:=DV (x:=k) (by omega) (by omega)
 have w0:=wuu (x:=0) (by omega) (by omega)
 have w1:=wuu (x:=1) (by omega) (by omega)
 have w2:=wuu (x:=k) (by omega) (by omega)
 have d:k.fdiv 4294967296=0:=by rw[Int.fdiv_eq_ediv_of_nonneg _ (by omega)];omega
 refine yM true 51 [.tmp 4,.tmp 5] [0,1,4,5,6,7,8,9,10,11,12,13] Tryz.func168 fun X hX=>?_
 (repeat(refine yA ?_;(simp[go_sem,a0,a1,a2,w0,w1,w2,d])))
theorem KH(k:Int)(h:0≤k∧k≤60000):Means true Tryz.prog 132 [u6 1,u6 k] (.tup [u6 0,u6 k]):=by
 refine yM true 30 [.tmp 4,.tmp 5] [0,1,4,5,6,7,8,9] Tryz.func132 fun X hX=>?_
 (repeat(refine yA ?_;(simp[go_sem])))
 refine yF ?_
 (repeat(refine yA ?_;(simp[go_sem])))
 refine aC (GS k h) ?_
 simp[go_sem]
 (repeat(refine yA ?_;(simp[go_sem])))
def nums(k n:Nat):List Int:=List.replicate n (-1)++List.replicate (k-n) 0
theorem DW{k n:Nat}(h:n≤k):(nums k n).length=k:=by simp[nums];omega
theorem DX(k:Nat):nums k k=List.replicate k (-1):=by simp[nums]
theorem AI{k n m:Nat}(h1:m≤n)(h2:n+m≤k):(nums k n).take n++((nums k n).take n).take m++(nums k n).drop (n+m)=nums k (n+m):=by
 have e:(nums k n).take n=List.replicate n (-1):=by unfold nums;rw[List.take_left' (by simp)]
 rw[e,List.take_replicate,Nat.min_eq_left h1]
 unfold nums
 rw[List.drop_append,List.drop_of_length_le (by simp),List.nil_append,List.drop_replicate,List.length_replicate]
 rw[show k-n-(n+m-n)=k-(n+m) by omega,←List.replicate_append_replicate]
set_option maxHeartbeats 4000000 in
set_option maxRecDepth 20000 in
theorem D4(k:Nat)(h:1≤k∧k≤60000):MeansH Tryz.prog 94 [rowI [-1]] [.ow 0,ii k] (.ow 1) [rowI [-1],rowI (List.replicate k (-1))]:=by
 have w1:=wuu (x:=1) (by omega) (by omega)
 have w2:=wuu (x:=(k:Int)) (by omega) (by omega)
 have w3:=w64 (x:=(k:Int)) (by omega) (by omega)
 refine yN 1 48 [.tmp 4] [0,1,4,5,6,7,8,10,26,37,1000000] Tryz.func94 fun X hX=>?_
 (repeat(refine yB ?_;(simp[go_sem])))
 refine yF ?_
 (repeat(refine yB ?_;(simp[go_sem,w1,w2])))
 refine aC (KH k (by omega)) ?_
 simp[go_sem]
 (repeat(refine yB ?_;(simp[go_sem])))
 refine yF ?_ (by simp[go_sem];try omega)
 (repeat(refine yB ?_;(simp[go_sem,w3])))
 (repeat refine⟨by first|omega|(rw[bH];omega)|kernel_rfl|grind,?_⟩)
 have h1m:min 1 k=1:=by omega
 (repeat(refine yB ?_;(simp[go_sem,h1m])))
 refine aE (fun n:Nat=>⟨mkE [(7,.ow 1),(8,ii n),(1000000,.ow 0)],[rowI [-1],rowI (nums k n)]⟩) (fun n=>1≤n∧n≤k) (fun n=>k-n) 1 ?_ ?_ ?_
 ·refine yS _ [.old 0 ⟨3,1,[-1].map ii⟩,.old 1 ⟨3,1,(nums k 1).map ii⟩] ?_ (by simp[go_sem,nums,h1m,List.map_replicate])
  simp[go_sem,h1m]
 ·omega
 ·rintro n ⟨h1,h2⟩
  have hlen:=DW h2
  obtain⟨m,hm⟩:∃m,min n (k-n)=m:=⟨_,rfl⟩
  have hcp:=AI (k:=k) (n:=n) (m:=m) (by omega) (by omega)
  generalize hR:nums k n=R at*
  have hmi:min n k=n:=by omega
  have hw:=w64 (x:=(n:Int)+m) (by omega) (by omega)
  (repeat(refine yB ?_;(simp[go_sem,hlen])))
  refine yC (decide (n<k)) (fun hc=>?_) (fun hc=>?_) (by simp[go_sem,hlen])
  ·simp at hc
   (repeat(first|refine aT ?_|refine aR ?_|((first|refine aV [0,1,4,5,6,7,8,10,26,37,1000000] hX ?_|refine aL ?_|refine aU ?_);(simp[go_sem,hlen];try(refine⟨by kernel_rfl,?_⟩)))))
   refine mZ [0,1,4,5,6,7,8,10,26,37,1000000] 0 hX mixed ?_;(simp[go_sem,hlen,h2,hmi,hm,hw];try(refine⟨by kernel_rfl,?_⟩))
   have hcpm:(nums k (n+m)).map ii=(R.map ii).take n++(((R.map ii).take n).take m++(R.map ii).drop (n+m)):=by rw[←hcp];simp
   refine⟨fun a ha=>?_,⟨by kernel_rfl,by kernel_rfl⟩,n+m,by omega,by omega,?_⟩
   ·obtain⟨x,_,rfl⟩:=List.mem_map.1 (List.mem_of_mem_take ha)
    exact⟨rfl,rfl⟩
   ·rw[←hcpm]
    refine yS _ [.old 0 ⟨3,1,[-1].map ii⟩,.old 1 ⟨3,1,(nums k (n+m)).map ii⟩] ?_
    simp[go_sem]
  ·have e:n=k:=by simp at hc;omega
   subst e
   rw[←hR,DX]
   (repeat(refine yB ?_;(simp[go_sem])))
   refine aB ?_;refine a8 [(4,.ow 1),(1000000,.ow 0)] [.old 0 ⟨3,1,[-1].map ii⟩,.old 1 ⟨3,1,(List.replicate n (-1)).map ii⟩] ?_
   simp[go_sem]
end Go.Proofs.YtdcidannegcaoaaGreatDoor

