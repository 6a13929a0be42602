/-
  Lemmas for the statement at the top.
-/
import Derived.Test.YtllgjognpobnpaaGreatDoorGP6
import Derived.Test.YtllgjognpobnpaaGreatDoorGP10
import Derived.Test.YtllgjognpobnpaaGreatDoorGP9
import Derived.Test.YtllgjognpobnpaaGreatDoorGFw4
set_option linter.all false
namespace Go.Proofs.YtllgjognpobnpaaGreatDoor
open Go.RowKit Go.Ab
attribute [local irreducible] AWP Go.Ab.Sub Means MeansH CallK CallG CallT CallGT PanicH DefH CallU
abbrev vO(v:Int):Ob:=⟨3,1,[ii v]⟩
abbrev eO(e:Int):Ob:=⟨25,1,[ii e]⟩
theorem oB(v e:Int):DefH Tryz.prog 180 [.row (vO v),.row (eO e)] [.el 0 1 0 0,.el 1 1 0 0] .returning .returning [.row (vO v),.row (eO e)]:=by
 refine lD 2 18 5 [0,1,2,3,4,7,14,1000000,1000001] [] .idle Tryz.func180 rfl rfl rfl (by simp) (by decide) rfl rfl rfl rfl rfl (by decide) fun X hX=>?_
 (simp[go_sem];try(refine⟨by kernel_rfl,?_⟩))
 (repeat(refine aU [0,1,2,3,4,7,14,1000000,1000001] hX mixed rfl ?_;simp[go_sem]))
 refine a8 (by simp[go_sem]) ?_
 (repeat(refine aU [0,1,2,3,4,7,14,1000000,1000001] hX mixed rfl ?_;simp[go_sem]))
 refine cC [(1000000,.ow 0),(1000001,.ow 1)] [.old 0 (vO v),.old 1 (eO e)] ?_
 simp[go_sem]
set_option maxHeartbeats 4000000 in
theorem IN(G:List (By×Int))(e:E)(v:Int)(he:OkE e)(hv:evD G e=some v):MeansH Tryz.prog 155 (MH G) [.el 0 3 0 0,ex e,ii 0] (.tup [ii v,ii 0]) (MH G):=by
 have c1:=GG G 12 e v he he.2 hv
 refine fY 3 13 [.cell 6 3,.cell 7 25] Tryz.func155 rfl rfl rfl (by simp) (by decide) rfl fun X hX=>?_
 refine cX ?_
 ((first|refine aQ [0,1,2,4,6,7,1000000,1000001,1000002] hX ?_|refine aK [0,1,2,4,6,7,1000000,1000001,1000002] hX mixed ?_|refine aB ?_|refine aJ ?_|refine aR ?_);(simp[go_sem]))
 refine fI (l:=[_]) (oD:=_) [0,2,4,6,7,1000000,1000001,1000002] hX rfl rfl rfl rfl ?_
 (simp[go_sem])
 refine⟨_,_,⟨rfl,rfl⟩,by simp[go_sem],by simp[go_sem],fun X hX=>?_⟩
 simp[go_sem]
 refine bB (st0:=⟨mkE [(0,.el 0 3 0 0),(2,ii 0),(4,.el 3 5 0 0),(6,.el 4 1 0 0),(7,.el 5 1 0 0),(1000000,.ow 0),(1000001,.ow 1),(1000002,.ow 2),(1000003,.el 4 1 0 0),(1000004,.el 5 1 0 0)],[.row mR,.row rR,.map (gR G),.row ⟨30,5,[ex e]⟩,.row (vO 0),.row (eO 0)]⟩) ?_ ?_
 ·refine yS _ [.old 0 mR,.old 1 rR,.oldM 2 (gR G),.old 3 ⟨30,5,[ex e]⟩,.old 4 (vO 0),.old 5 (eO 0)] ?_
  simp[go_sem]
 (repeat(refine a7 [0,2,4,6,7,1000000,1000001,1000002,1000003,1000004] hX mixed rfl ?_;simp[go_sem]))
 refine yH [0,1,2] c1 ?_
 simp[go_sem]
 refine aB ?_
 simp only[doorQ]
 refine cY [4,5] (oB v 0) rfl ?_ ?_
 ·simp[go_sem]
 ·refine aA [(1000000,.ow 0),(1000001,.ow 1),(1000002,.ow 2)] [.old 0 mR,.old 1 rR,.oldM 2 (gR G)] ?_
  simp[go_sem]
abbrev v3(v:By×Int×Int):AV:=.agg [ss v.1,ii v.2.1,ii v.2.2]
@[go_sem] theorem AB{L:List (By×Int×Int)}{k:Nat}(h:k<L.length):nth (L.map v3) k=v3 L[k]:=cG v3 h
def gOf(V:List (By×Int×Int)):List (By×Int):=givU [] (V.map fun v=>(v.1,v.2.2))
set_option maxHeartbeats 8000000 in
set_option maxRecDepth 20000 in
theorem DZ(V:List (By×Int×Int))(e:E)(v:Int)(hV:V.length≤100∧∀x∈V,-1099511627776≤x.2.2∧x.2.2≤1099511627776)(he:OkE e)(hv:evD (gOf V) e=some v):
  Means true Tryz.prog 124 [.sl [],.sl (V.map v3),ex e] (.tup [ii v,ii 0]):=by
 have c1:=bS e he
 have c2:=IN (gOf V) e v he hv
 have hlen:=hV.1
 refine yM true 83 [.tmp 6,.tmp 7] [0,1,2,5,6,7,9,10,12,14,22,23,24,25,26,32,41,42,43,44,54,66] Tryz.func124 fun X hX=>?_
 (repeat(refine yA ?_;(simp[go_sem])))
 refine aD c1 ?_
 simp[go_sem]
 refine a8 (by simp[go_sem]) ?_
 (repeat(refine yA ?_;(simp[go_sem])))
 refine aG (fun n:Nat=>⟨mkE [(0,.sl []),(1,.sl (V.map v3)),(5,.el 0 5 0 0),(24,ii 0),(25,ii 0)],[.row ⟨30,5,[ex e]⟩]⟩) (fun n=>n=0) (fun n=>0) 0 ?_ ?_ ?_
 ·refine yS _ [.old 0 ⟨30,5,[ex e]⟩] ?_
  simp[go_sem]
 ·rfl
 rintro n-
 (repeat(refine yA ?_;(simp[go_sem])))
 refine a8 (by simp[go_sem]) ?_
 (repeat(refine yA ?_;(simp[go_sem])))
 refine aG (fun n:Nat=>⟨mkE [(0,.sl []),(5,.el 0 5 0 0),(10,.el 3 3 0 0),(41,.sl (V.map v3)),(42,ii V.length),(43,ii n)],
  [.row ⟨30,5,[ex e]⟩,.row rR,.map (gR (gOf (V.take n))),.row mR]⟩) (fun n=>n≤V.length) (fun n=>V.length-n) 0 ?_ ?_ ?_
 ·refine yS _ [.old 0 ⟨30,5,[ex e]⟩,.old 1 rR,.oldM 2 ⟨9,3,[]⟩,.old 3 mR] ?_
  simp[go_sem,gm,gOf,givU]
 ·exact Nat.zero_le _
 ·rintro n hn
  (repeat(refine yA ?_;(simp[go_sem])))
  refine yC (decide (n<V.length)) (fun hc=>?_) fun hc=>?_
  ·simp at hc
   have hq:=AB hc
   have wk:=w64 (x:=(n:Int)+1) (by omega) (by omega)
   have hu:=hV.2 V[n] (List.getElem_mem hc)
   have hn1:¬1099511627776<V[n].2.2:=by omega
   have hn2:¬V[n].2.2< -1099511627776:=by omega
   have ht:gOf (V.take (n+1))=givS (gOf (V.take n)) (V[n].1,V[n].2.2):=by
    unfold gOf
    rw[List.take_succ_eq_append_getElem hc,List.map_append]
    exact eZ _ _ _
   have hup:=pV V[n].1 V[n].2.2 (gOf (V.take n))
   generalize V[n]=v at*
   generalize gOf (V.take n)=G at*
   (repeat(refine yA ?_;(simp[go_sem,hc,hq,hn1,hn2])))
   refine a8 (by simp[go_sem,hn1,hn2]) ?_
   (repeat(refine yA ?_;(simp[go_sem,hq];try(refine⟨by kernel_rfl,?_⟩))))
   refine yC (!(G.lookup v.1).isSome) (fun hd=>?_) fun hd=>?_
   ·have hd:(G.lookup v.1).isSome=false:=by simpa using hd
    have hup:=hup hd
    have e2:givS G (v.1,v.2.2)=G++[(v.1,v.2.2)]:=by unfold givS;rw[hd];simp
    rw[e2]at ht
    generalize G++[(v.1,v.2.2)]=G2 at*
    (repeat(refine yA ?_;(simp[go_sem,hup,wk];try(refine⟨by kernel_rfl,?_⟩))))
    refine⟨n+1,by omega,by omega,?_⟩
    rw[ht]
    refine yS _ [.old 0 ⟨30,5,[ex e]⟩,.old 1 rR,.oldM 2 (gR G2),.old 3 mR] ?_
    simp[go_sem]
   ·have hd:(G.lookup v.1).isSome=true:=by simpa using hd
    have e2:givS G (v.1,v.2.2)=G:=by unfold givS;rw[hd];simp
    (repeat(refine yA ?_;(simp[go_sem,wk])))
    refine⟨n+1,by omega,by omega,?_⟩
    rw[ht,e2]
    refine yS _ [.old 0 ⟨30,5,[ex e]⟩,.old 1 rR,.oldM 2 (gR G),.old 3 mR] ?_
    simp[go_sem]
  ·have hnn:n=V.length:=by simp at hc;omega
   subst hnn
   rw[List.take_of_length_le (Nat.le_refl _)]
   (repeat(refine yA ?_;(simp[go_sem])))
   refine yH [3,1,2] c2 ?_
   simp[go_sem]
   (repeat(refine yA ?_;(simp[go_sem])))
def clM(b:Bl):List (AV×AV):=[(ss [100,117,101],ex b.due),(ss [102,105,110,101],ex b.fine),(ss [112,97,121],ex b.pay),(ss [99,111,118,101,114],ex b.cover),(ss [104,111,108,100],ex b.hold)]
theorem rN(b:Bl):lookA Tryz.prog 9 30 (ss [100,117,101]) (clM b) true=some (.tup [ex b.due,bb true]):=by
 simp[lookA,clM,findA,cJ,E2,foundA]
theorem xT(b:Bl):lookA Tryz.prog 9 30 (ss [102,105,110,101]) (clM b) true=some (.tup [ex b.fine,bb true]):=by
 simp[lookA,clM,findA,cJ,E2,foundA]
def clE(b:Bl)(s:By):Option E:=if s=[100,117,101]then some b.due else if s=[102,105,110,101]then some b.fine else none
set_option maxHeartbeats 8000000 in
set_option maxRecDepth 20000 in
theorem AC(b:Bl)(h:OkB b)(h0:b.lets=[])(s:By)(e:E)(hs:clE b s=some e)(V:List (By×Int×Int))(v:Int)(hV:V.length≤100∧∀x∈V,-1099511627776≤x.2.2∧x.2.2≤1099511627776)(hv:evD (gOf V) e=some v):
  Means true Tryz.prog 77 [bl b,ss s,.sl (V.map v3)] (.tup [ii v,ii 0]):=by
 have c1:=eK b h
 have hd:s=[100,117,101]∧e=b.due∨s=[102,105,110,101]∧e=b.fine:=by
  unfold clE at hs
  split at hs
  ·exact .inl ⟨by assumption,(Option.some.inj hs).symm⟩
  ·split at hs
   ·exact .inr ⟨by assumption,(Option.some.inj hs).symm⟩
   ·cases hs
 have he:OkE e:=by
  rcases hd with⟨_,rfl⟩|⟨_,rfl⟩
  ·exact h.due
  ·exact h.fine
 have c2:=DZ V e v hV he hv
 have hl:lookA Tryz.prog 9 30 (ss s) (clM b) true=some (.tup [ex e,bb true]):=by
  rcases hd with⟨rfl,rfl⟩|⟨rfl,rfl⟩
  ·exact rN b
  ·exact xT b
 clear hs hv
 refine yM true 43 [.tmp 6,.tmp 7] [0,1,2,3,6,7,8,9,10,35] Tryz.func77 fun X hX=>?_
 (iterate 2 (refine yA ?_;(simp[go_sem])))
 refine aS ?_
 refine rO [1,2,3,6,7,8] hX ?_
 simp[go_sem,normO,updA,cJ]
 refine bB (st0:=⟨mkE [(1,ss s),(2,.sl (V.map v3)),(3,.el 0 37 0 0),(8,.ow 1)],[.row ⟨32,37,[bl b]⟩,.map ⟨9,30,clM b⟩]⟩) ?_ ?_
 ·refine yS _ [.old 0 ⟨32,37,[bl b]⟩,.oldM 1 ⟨9,30,clM b⟩] ?_ (by simp[go_sem,clM])
  simp[go_sem,clM]
 (repeat(refine yA ?_;(simp[go_sem,hl])))
 refine aI (fun hg=>c1) ?_
 simp[go_sem]
 refine a8 (by simp[go_sem]) ?_
 (repeat(refine yA ?_;(simp[go_sem,h0])))
 refine aD c2 ?_
 simp[go_sem]
 (repeat(refine yA ?_;(simp[go_sem])))
end Go.Proofs.YtllgjognpobnpaaGreatDoor

namespace Go.Proofs.YtllgjognpobnpaaGreatDoor
def insS(x:Int)(P:List Int):List Int:=P.takeWhile (fun e=>decide (e≤x))++x::P.dropWhile (fun e=>decide (e≤x))
def sortS(X:List Int):List Int:=X.foldl (fun P x=>insS x P) []
theorem iI(X:List Int)(x:Int):sortS (X++[x])=insS x (sortS X):=by unfold sortS;rw[List.foldl_append];rfl
theorem xU(x:Int)(P:List Int):(insS x P).Perm (x::P):=by
 unfold insS
 refine List.perm_middle.trans ?_
 rw[List.takeWhile_append_dropWhile]
theorem eL(X:List Int):(sortS X).Perm X:=by
 have:∀k,k≤X.length→(sortS (X.take k)).Perm (X.take k):=by
  intro k
  induction k with
  |zero=>intro _;exact .refl _
  |succ k ih=>
   intro hk
   rw[List.take_succ_eq_append_getElem (by omega),iI]
   exact(xU _ _).trans (((ih (by omega)).cons _).trans (List.perm_append_singleton _ _).symm)
 have:=this X.length (Nat.le_refl _)
 rwa [List.take_length]at this
theorem vT{x:Int}:∀{P:List Int},P.Pairwise (· ≤ ·)→∀e∈P.dropWhile (fun e=>decide (e≤x)),x<e
 | [],_,e,he=>by simp at he
 |y::P,h,e,he=>by
  rw[List.pairwise_cons]at h
  rw[List.dropWhile_cons]at he
  split at he
  ·exact vT h.2 e he
  ·rename_i hy
   have hy:x<y:=by simpa using hy
   rcases List.mem_cons.1 he with rfl|he
   ·exact hy
   ·have:=h.1 e he;omega
theorem E3{x:Int}{P:List Int}:∀e∈P.takeWhile (fun e=>decide (e≤x)),e≤x:=fun e he=>by
 have:=List.all_takeWhile (p:=fun e=>decide (e≤x)) (l:=P)
 simpa using List.all_eq_true.1 this e he
theorem rP{x:Int}{P:List Int}(h:P.Pairwise (· ≤ ·)):(insS x P).Pairwise (· ≤ ·):=by
 unfold insS
 have hs:=h
 rw[←List.takeWhile_append_dropWhile (p:=fun e=>decide (e≤x)) (l:=P)]at hs
 rw[List.pairwise_append]at hs⊢
 refine⟨hs.1,List.pairwise_cons.2 ⟨fun e he=>?_,hs.2.1⟩,fun a ha b hb=>?_⟩
 ·have:=vT h e he;omega
 ·rcases List.mem_cons.1 hb with rfl|hb
  ·exact E3 a ha
  ·exact hs.2.2 a ha b hb
theorem iY(X:List Int):(sortS X).Pairwise (· ≤ ·):=by
 have:∀k,k≤X.length→(sortS (X.take k)).Pairwise (· ≤ ·):=by
  intro k
  induction k with
  |zero=>intro _;exact List.Pairwise.nil
  |succ k ih=>
   intro hk
   rw[List.take_succ_eq_append_getElem (by omega),iI]
   exact rP (ih (by omega))
 have:=this X.length (Nat.le_refl _)
 rwa [List.take_length]at this
theorem oC(X:List Int):(sortS X).length=X.length:=(eL X).length_eq
theorem vU{x:Int}:∀{P:List Int} (k:Nat),k≤P.length→(∀e∈P.take k,e≤x)→(∀e∈P.drop k,x<e)→insS x P=P.take k++x::P.drop k
 | [],k,_,_,_=>by simp[insS]
 |y::P,0,_,_,h2=>by
  have:¬y≤x:=by have:=h2 y (by simp);omega
  simp[insS,this]
 |y::P,k+1,hk,h1,h2=>by
  have hy:y≤x:=h1 y (by simp)
  have ih:=vU (x:=x) k (by simpa using hk) (fun e he=>h1 e (by simp[he])) (fun e he=>h2 e (by simpa using he))
  unfold insS at ih⊢
  rw[List.takeWhile_cons_of_pos (by simpa using hy),List.dropWhile_cons_of_pos (by simpa using hy)]
  simp only[List.cons_append,List.take_succ_cons,List.drop_succ_cons,ih]
def rowY(s:List Int)(x:Int)(post:List Int)(k:Nat):List Int:=(s.take k++x::s.drop k)++post
theorem AD{s:List Int}{x:Int}{post:List Int}{k:Nat}(h:k≤s.length):(rowY s x post k).length=s.length+1+post.length:=by
 simp[rowY];omega
theorem E4{s:List Int}{x:Int}{post:List Int}{k:Nat}(h:k≤s.length)(hl:k<(rowY s x post k).length):(rowY s x post k)[k]=x:=by
 simp only[rowY]
 rw[List.getElem_append_left (by simp;omega),List.getElem_append_right (by simp;omega)]
 simp[Nat.min_eq_left h]
theorem xV{s:List Int}{x:Int}{post:List Int}{k:Nat}(h:k<s.length)(hl:k<(rowY s x post (k+1)).length):(rowY s x post (k+1))[k]=s[k]:=by
 simp only[rowY]
 rw[List.getElem_append_left (by simp;omega),List.getElem_append_left (by simp;omega)]
 simp
theorem xW{s:List Int}{x:Int}{post:List Int}{k:Nat}(h:k<s.length):((rowY s x post (k+1)).set (k+1) s[k]).set k x=rowY s x post k:=by
 have e1:s.take (k+1)=s.take k++[s[k]]:=List.take_succ_eq_append_getElem h
 have e2:s.drop k=s[k]::s.drop (k+1):=List.drop_eq_getElem_cons h
 have hk:(s.take k).length=k:=by simp;omega
 simp only[rowY,e1,e2,List.append_assoc]
 rw[List.set_append_right _ _ (by omega),List.set_append_right _ _ (by omega),hk]
 congr 1
 rw[show k+1-k=1 by omega,show k-k=0 by omega]
 rfl
def ddN(Y:List Int):Nat→List Int
 |0=>[]
 |n+1=>if n≠0∧Y.getD n 0=Y.getD (n-1) 0 then ddN Y n else ddN Y n++[Y.getD n 0]
theorem iZ{Y:List Int}{n:Nat}(h0:n≠0)(h:Y.getD n 0=Y.getD (n-1) 0):ddN Y (n+1)=ddN Y n:=by rw[ddN,if_pos ⟨h0,h⟩]
theorem j6{Y:List Int}{n:Nat}(h:¬(n≠0∧Y.getD n 0=Y.getD (n-1) 0)):ddN Y (n+1)=ddN Y n++[Y.getD n 0]:=by rw[ddN,if_neg h]
theorem AE(Y:List Int):∀n,(ddN Y n).length≤n
 |0=>Nat.le_refl _
 |n+1=>by
  rw[ddN]
  have:=AE Y n
  split
  ·omega
  ·simp;exact this
theorem AF{Y:List Int}{k:Nat}(h:(ddN Y k).length<k):∀d,(ddN Y (k+d)).length<k+d
 |0=>h
 |d+1=>by
  have:=AF h d
  show(ddN Y ((k+d)+1)).length<_
  rw[ddN]
  split
  ·omega
  ·simp;omega
theorem gD{Y:List Int}{n:Nat}(h:n<Y.length):Y.getD n 0=Y[n]:=by rw[List.getD_eq_getElem?_getD,List.getElem?_eq_getElem h];rfl
theorem gN{Y:List Int}:∀{n:Nat},n≤Y.length→∀e,e∈ddN Y n↔e∈Y.take n
 |0,_,e=>by simp[ddN]
 |n+1,h,e=>by
  have ih:=gN (Y:=Y) (n:=n) (by omega) e
  have hnl:n<Y.length:=by omega
  have hg:Y.getD n 0=Y[n]:=gD hnl
  rw[List.take_succ_eq_append_getElem (by omega),List.mem_append,List.mem_singleton]
  by_cases hc:n≠0∧Y.getD n 0=Y.getD (n-1) 0
  ·rw[iZ hc.1 hc.2,ih]
   refine⟨.inl,fun hh=>hh.elim id fun he=>?_⟩
   have hg2:Y.getD (n-1) 0=Y[n-1]:=gD (by omega)
   rw[he,←hg,hc.2,hg2]
   exact List.mem_take_iff_getElem.2 ⟨n-1,by omega,rfl⟩
  ·rw[j6 hc,List.mem_append,List.mem_singleton,ih,hg]
theorem lY{Y:List Int}(h:Y.Pairwise (· ≤ ·)):∀{n:Nat},n≤Y.length→(ddN Y n).Pairwise (· < ·)
 |0,_=>List.Pairwise.nil
 |n+1,hn=>by
  have ih:=lY h (n:=n) (by omega)
  by_cases hc:n≠0∧Y.getD n 0=Y.getD (n-1) 0
  ·rw[iZ hc.1 hc.2];exact ih
  ·rw[j6 hc,List.pairwise_append]
   refine⟨ih,List.pairwise_singleton _ _,fun a ha b hb=>?_⟩
   rw[List.mem_singleton]at hb
   subst hb
   have ha:=(gN (by omega) a).1 ha
   obtain⟨j,hj,rfl⟩:=List.mem_take_iff_getElem.1 ha
   have hg:Y.getD n 0=Y[n]:=gD (by omega)
   have hg2:Y.getD (n-1) 0=Y[n-1]:=gD (by omega)
   have h1:Y[n-1]≤Y[n]:=List.pairwise_iff_getElem.1 h (n-1) n (by omega) (by omega) (by omega)
   have h2:Y[j]≤Y[n-1]:=by
    by_cases hj2:j=n-1
    ·subst hj2;exact Int.le_refl _
    ·exact List.pairwise_iff_getElem.1 h j (n-1) (by omega) (by omega) (by omega)
   rw[hg,hg2]at hc
   rw[hg]
   have:n≠0:=by omega
   have:¬Y[n]=Y[n-1]:=fun e=>hc ⟨this,e⟩
   omega
end Go.Proofs.YtllgjognpobnpaaGreatDoor

namespace Go.Proofs.YtllgjognpobnpaaGreatDoor
open Go.RowKit Go.Ab
attribute [local irreducible] AWP Go.Ab.Sub Means MeansH CallK CallG CallT CallGT PanicH DefH
abbrev rowI(L:List Int):Cell:=.row ⟨3,1,L.map ii⟩
@[go_sem] theorem zoneEs_ii(L:List Int):zoneEs (L.map ii)=true:=dI _ _ (fun _=>rfl)
theorem GH(n:Int):Means true Tryz.prog 194 [ii n] (bb false):=by
 refine yM true 6 [.tmp 2] [0,2] Tryz.func194 fun X hX=>?_
 (repeat(refine yA ?_;(simp[go_sem])))
theorem GR(a b:Int):Means true Tryz.prog 173 [ii a,ii b] (bb (decide (a<b))):=by
 have c1:=GH a
 have c2:=GH b
 refine yM true 17 [.tmp 4] [0,1,4] Tryz.func173 fun X hX=>?_
 (repeat(refine yA ?_;(simp[go_sem])))
 refine aD c1 ?_
 simp[go_sem]
 refine bT rfl ?_
 simp[go_sem]
 (repeat(refine yA ?_;(simp[go_sem])))
set_option maxHeartbeats 4000000 in
set_option maxRecDepth 20000 in
theorem xX(Z:List Int)(hb:Z.length≤100):
  MeansH Tryz.prog 167 [rowI Z] [.ow 0,ii 0,ii Z.length] (.tup []) [rowI (sortS Z)]:=by
 refine yN 1 49 [] [0,1,2,6,7,12,30,1000000] Tryz.func167 fun X hX=>?_
 (repeat(refine yB ?_;(simp[go_sem];(try simp(disch:=omega) only[w64,td,tm]))))
 refine aG (fun i:Nat=>⟨mkE [(0,.ow 0),(1,ii 0),(2,ii Z.length),(6,ii i),(1000000,.ow 0)],[rowI (sortS (Z.take i)++Z.drop i)]⟩) (fun i=>1≤i∧i≤Z.length+(1-Z.length)) (fun i=>Z.length-i) 1 ?_ ?_ ?_
 ·have e:sortS (Z.take 1)++Z.drop 1=Z:=by
   cases Z with
   |nil=>rfl
   |cons a l=>rfl
  rw[e]
  refine yS _ [.old 0 ⟨3,1,Z.map ii⟩] ?_
  simp[go_sem]
 ·omega
 ·rintro i ⟨hi1,hi⟩
  have wi:=w64 (x:=(i:Int)+1) (by omega) (by omega)
  (repeat(refine yB ?_;(simp[go_sem])))
  refine yC (decide (i<Z.length)) (fun hc=>?_) (fun hc=>?_) (by simp[go_sem];try omega)
  ·simp at hc
   obtain⟨s,hs⟩:∃s,sortS (Z.take i)=s:=⟨_,rfl⟩
   have hsl:s.length=i:=by rw[←hs,oC];simp;omega
   have hss:s.Pairwise (· ≤ ·):=by rw[←hs];exact iY _
   obtain⟨x,hx⟩:∃x,Z[i]=x:=⟨_,rfl⟩
   obtain⟨po,hpo⟩:∃po,Z.drop (i+1)=po:=⟨_,rfl⟩
   have hpl:s.length+1+po.length≤100:=by rw[←hpo];simp;omega
   have e0:s++Z.drop i=rowY s x po s.length:=by
    rw[List.drop_eq_getElem_cons hc,hx,←hpo]
    simp[rowY]
   have e1:sortS (Z.take (i+1))++Z.drop (i+1)=insS x s++po:=by
    rw[List.take_succ_eq_append_getElem hc,iI,hs,hx,hpo]
   have e2:i=s.length:=hsl.symm
   rw[hs,e0]
   (repeat(refine yB ?_;(simp[go_sem])))
   refine aG (fun k:Nat=>⟨mkE [(0,.ow 0),(1,ii 0),(2,ii Z.length),(6,ii i),(7,ii k),(1000000,.ow 0)],[rowI (rowY s x po k)]⟩) (fun k=>k≤s.length∧∀e∈s.drop k,x<e) (fun k=>k) s.length ?_ ?_ ?_
   ·refine yS _ [.old 0 ⟨3,1,(rowY s x po s.length).map ii⟩] ?_
    simp[go_sem,e2]
   ·simp
   ·rintro k ⟨hk,hd⟩
    have hlen:=AD (x:=x) (post:=po) hk
    have done:(∀e∈s.take k,e≤x)→rowY s x po k=sortS (Z.take (i+1))++Z.drop (i+1):=fun h1=>by rw[e1,vU k hk h1 hd];rfl
    cases k with
    |zero=>
     have hdone:=done (by simp)
     have hi0:0<(rowY s x po 0).length:=by omega
     have hwz:IntKind.i64.wrap (-1:Int)= -1:=by decide
     generalize rowY s x po 0=D1 at*
     (repeat(refine yB ?_;(simp[go_sem,hi0,hwz])))
     (repeat refine⟨by first|omega|(rw[bA];omega)|kernel_rfl|grind,?_⟩)
     refine dQ rfl ?_
     (simp[go_sem];try(refine⟨by kernel_rfl,?_⟩))
     refine yF ?_
     (repeat(refine yB ?_;(simp[go_sem,wi])))
     refine⟨i+1,⟨by omega,by omega⟩,by omega,?_⟩
     rw[←hdone]
     refine yS _ [.old 0 ⟨3,1,D1.map ii⟩] ?_
     simp[go_sem]
    |succ k=>
     have hks:k<s.length:=by omega
     have hp1:k+1<(rowY s x po (k+1)).length:=by omega
     have hp2:k<(rowY s x po (k+1)).length:=by omega
     have hat:(rowY s x po (k+1))[k+1]=x:=E4 hk hp1
     have hpv:(rowY s x po (k+1))[k]=s[k]:=xV hks hp2
     have hsw:=xW (x:=x) (post:=po) hks
     have ht1:((k:Int)+1).toNat=k+1:=by omega
     have hwp:IntKind.i64.wrap (k:Int)=(k:Int):=w64 (by omega) (by omega)
     have hcm:=GR x s[k]
     have hdk:x<s[k]→∀e∈s.drop k,x<e:=fun h e he=>by
      rw[List.drop_eq_getElem_cons hks]at he
      rcases List.mem_cons.1 he with rfl|he
      ·exact h
      ·exact hd e he
     have hup:¬x<s[k]→∀e∈s.take (k+1),e≤x:=fun h e he=>by
      rw[List.take_succ_eq_append_getElem hks]at he
      rcases List.mem_append.1 he with he|he
      ·obtain⟨j,hj,rfl⟩:=List.mem_take_iff_getElem.1 he
       have:=List.pairwise_iff_getElem.1 hss j k (by omega) hks (by omega)
       omega
      ·simp at he;rw[he];omega
     obtain⟨y,hye⟩:∃y,s[k]=y:=⟨_,rfl⟩
     rw[hye]at hpv hsw hcm hdk hup
     generalize rowY s x po (k+1)=D1 at*
     have hzs:zoneEs (((D1.map ii).set (k+1) (ii y)).set k (ii x))=true:=by
      rw[←List.map_set,←List.map_set];exact dI _ _ (fun _=>rfl)
     have hns:nth ((D1.map ii).set (k+1) (ii y)) k=ii y:=by
      rw[←List.map_set,cG ii (by simpa using hp2),List.getElem_set_ne (by omega),hpv]
     (repeat(refine yB ?_;(simp[go_sem,hp1,hp2,hat,hpv,ht1,hwp])))
     (repeat refine⟨by first|omega|(rw[bA];omega)|kernel_rfl|grind,?_⟩)
     refine eT (fun hg=>hcm) ?_
     (simp[go_sem,hp1,hp2,hat,hpv,ht1,hwp];try(refine⟨by kernel_rfl,?_⟩))
     refine yC (decide (x<y)) (fun hd2=>?_) fun hd2=>?_
     ·simp only[decide_eq_true_eq]at hd2
      (repeat(refine yB ?_;(simp[go_sem,hp1,hp2,hat,hpv,ht1,hwp,hzs])))
      (repeat refine⟨by first|omega|(rw[bA];omega)|kernel_rfl|grind,?_⟩)
      (repeat(refine yB ?_;(simp[go_sem,hp1,hp2,hat,hpv,ht1,hwp,hzs])))
      refine⟨k,⟨by omega,hdk hd2⟩,by omega,?_⟩
      rw[←hsw]
      refine yS _ [.old 0 ⟨3,1,((D1.set (k+1) y).set k x).map ii⟩] ?_ (by simp[go_sem,hns,hzs])
      simp[go_sem]
     ·simp only[decide_eq_false_iff_not]at hd2
      have hdone:=done (hup hd2)
      (repeat(refine yB ?_;(simp[go_sem,wi])))
      refine⟨i+1,⟨by omega,by omega⟩,by omega,?_⟩
      rw[←hdone]
      refine yS _ [.old 0 ⟨3,1,D1.map ii⟩] ?_
      simp[go_sem]
  ·simp at hc
   have e:sortS (Z.take i)++Z.drop i=sortS Z:=by rw[List.take_of_length_le hc,List.drop_eq_nil_of_le hc,List.append_nil]
   rw[e]
   (repeat(refine yB ?_;(simp[go_sem])))
   refine cC [(1000000,.ow 0)] [.old 0 ⟨3,1,(sortS Z).map ii⟩] ?_
   simp[go_sem]
end Go.Proofs.YtllgjognpobnpaaGreatDoor

namespace Go.Proofs.YtllgjognpobnpaaGreatDoor
open Go.RowKit Go.Ab
attribute [local irreducible] AWP Go.Ab.Sub Means MeansH CallK CallG CallT CallGT PanicH DefH
def lenE(n:Nat):Int:=if n=0 then 0 else if n<2 then 1 else if n<4 then 2 else if n<8 then 3 else 4
set_option maxRecDepth 20000 in
theorem E5(n:Nat)(h:n≤12):Means true Tryz.prog 177 [.v (.int .u64 n)] (ii (lenE n)):=by
 have n1:¬(4294967296:Int)≤n:=by omega
 have n2:¬(65536:Int)≤n:=by omega
 have n3:¬(256:Int)≤n:=by omega
 have w1:IntKind.u8.wrap (n:Int)=n:=by
  have:n=0∨n=1∨n=2∨n=3∨n=4∨n=5∨n=6∨n=7∨n=8∨n=9∨n=10∨n=11∨n=12:=by omega
  rcases this with rfl|rfl|rfl|rfl|rfl|rfl|rfl|rfl|rfl|rfl|rfl|rfl|rfl<;>rfl
 refine yM true 25 [.tmp 2] [0,2,4,8,14] Tryz.func177 fun X hX=>?_
 (repeat(refine yA ?_;(simp[go_sem])))
 refine yF ?_ (by simp[go_sem,n1])
 (repeat(refine yA ?_;(simp[go_sem])))
 refine yF ?_ (by simp[go_sem,n2])
 (repeat(refine yA ?_;(simp[go_sem])))
 refine yF ?_ (by simp[go_sem,n3])
 (repeat(refine yA ?_;(simp[go_sem,w1])))
 refine⟨by omega,?_⟩
 refine aB ?_
 have:n=0∨n=1∨n=2∨n=3∨n=4∨n=5∨n=6∨n=7∨n=8∨n=9∨n=10∨n=11∨n=12:=by omega
 rcases this with rfl|rfl|rfl|rfl|rfl|rfl|rfl|rfl|rfl|rfl|rfl|rfl|rfl<;>(simp[go_sem,lenE];try decide)
theorem IP(n:Nat)(h:n≤12):Means true Tryz.prog 143 [.v (.int .u64 n)] (ii (lenE n)):=by
 have c1:=E5 n h
 refine yM true 8 [.tmp 2] [0,2] Tryz.func143 fun X hX=>?_
 (repeat(refine yA ?_;(simp[go_sem])))
 refine yF ?_
 (repeat(refine yA ?_;(simp[go_sem])))
 refine aD c1 ?_
 simp[go_sem]
 (repeat(refine yA ?_;(simp[go_sem])))
theorem IQ(Z:List Int)(hb:Z.length≤12)(r:Int):MeansH Tryz.prog 142 [rowI Z] [.ow 0,ii 0,ii Z.length,ii r] (.tup []) [rowI (sortS Z)]:=by
 have c1:=xX Z (by omega)
 have w:=w64 (x:=(Z.length:Int)) (by omega) (by omega)
 have hb2:(Z.length:Int)≤12:=by omega
 refine yN 1 134 [] [0,1,2,3,8,9,10,11,12,13,14,15,16,17,18,23,29,35,50,68,72,87,113,1000000] Tryz.func142 fun X hX=>?_
 (repeat(refine yB ?_;(simp[go_sem])))
 refine aG (fun _:Unit=>⟨mkE [(0,.ow 0),(1,ii 0),(2,ii Z.length),(1000000,.ow 0)],[rowI Z]⟩) (fun _=>True) (fun _=>0) () ?_ trivial ?_
 ·refine yS _ [.old 0 ⟨3,1,Z.map ii⟩] ?_
  simp[go_sem]
 ·rintro _ _
  (repeat(refine yB ?_;(simp[go_sem,w])))
  refine yT ?_ (by simp[go_sem];omega)
  (repeat(refine yB ?_;(simp[go_sem])))
  refine yH [0] c1 ?_
  simp[go_sem]
  refine aB ?_;simp only[thenQ,blkQ,loopQ];refine aA [(1000000,.ow 0)] [.old 0 ⟨3,1,(sortS Z).map ii⟩] ?_
  simp[go_sem]
theorem GS(Z:List Int)(hb:Z.length≤12):MeansH Tryz.prog 105 [rowI Z] [.ow 0] (.tup []) [rowI (sortS Z)]:=by
 have c1:=IP Z.length hb
 have c2:=IQ Z hb (lenE Z.length)
 have w:IntKind.u64.wrap (Z.length:Int)=Z.length:=by
  have:Z.length=0∨Z.length=1∨Z.length=2∨Z.length=3∨Z.length=4∨Z.length=5∨Z.length=6∨Z.length=7∨Z.length=8∨Z.length=9∨Z.length=10∨Z.length=11∨Z.length=12:=by omega
  rcases this with h|h|h|h|h|h|h|h|h|h|h|h|h<;>rw[h]<;>rfl
 refine yN 1 11 [] [0,2,1000000] Tryz.func105 fun X hX=>?_
 (repeat(refine yB ?_;(simp[go_sem,w])))
 refine aD c1 ?_
 simp[go_sem]
 refine yH [0] c2 ?_
 simp[go_sem]
 refine cC [(1000000,.ow 0)] [.old 0 ⟨3,1,(sortS Z).map ii⟩] ?_
 simp[go_sem]
end Go.Proofs.YtllgjognpobnpaaGreatDoor

namespace Go.Proofs.YtllgjognpobnpaaGreatDoor
open Go.RowKit Go.Ab
attribute [local irreducible] AWP Go.Ab.Sub Means MeansH CallK CallG CallT CallGT PanicH DefH
def cpR(Y:List Int):AV:=if(ddN Y Y.length).length=Y.length then .ow 0 else .wn 0 1 0 (ddN Y Y.length).length
def cpL(Y:List Int):List Int:=if(ddN Y Y.length).length=Y.length then Y else ddN Y Y.length++List.replicate (Y.length-(ddN Y Y.length).length) 0
theorem lE{Y:List Int}(h:ddN Y Y.length=Y):cpR Y=.ow 0∧cpL Y=Y:=by unfold cpR cpL;rw[h];simp
theorem vV{Y:List Int}(h:(ddN Y Y.length).length<Y.length):cpR Y=.wn 0 1 0 (ddN Y Y.length).length∧cpL Y=ddN Y Y.length++List.replicate (Y.length-(ddN Y Y.length).length) 0:=by
 unfold cpR cpL;rw[if_neg (by omega),if_neg (by omega)];exact⟨rfl,rfl⟩
set_option maxHeartbeats 4000000 in
set_option maxRecDepth 20000 in
theorem xY(Y:List Int)(hb:Y.length≤100):MeansH Tryz.prog 106 [rowI Y] [.ow 0] (cpR Y) [rowI (cpL Y)]:=by
 have gd:∀{n:Nat} (h:n<Y.length),Y.getD n 0=Y[n]:=fun h=>gD h
 refine yN 1 61 [.tmp 2] [0,2,3,4,5,8,13,25,32,44,1000000] Tryz.func106 fun X hX=>?_
 (repeat(refine yB ?_;(simp[go_sem])))
 refine yC (decide (Y.length<2)) (fun hc=>?_) (fun hc=>?_) (by simp[go_sem];try omega)
 ·simp at hc
  have e:ddN Y Y.length=Y:=by
   match Y,hc with
   | [],_=>rfl
   | [a],_=>rfl
   |a::b::l,h=>simp at h;omega
  rw[(lE e).1,(lE e).2]
  (repeat(refine yB ?_;(simp[go_sem])))
  refine aB ?_;simp only[thenQ,blkQ,loopQ];refine aA [(2,.ow 0),(1000000,.ow 0)] [.old 0 ⟨3,1,Y.map ii⟩] ?_
  simp[go_sem]
 simp at hc
 (repeat(refine yB ?_;(simp[go_sem])))
 refine aG (fun k:Nat=>⟨mkE [(0,.ow 0),(3,ii k),(1000000,.ow 0)],[rowI Y]⟩) (fun k=>1≤k∧k≤Y.length∧ddN Y k=Y.take k) (fun k=>Y.length-k) 1 ?_ ?_ ?_
 ·refine yS _ [.old 0 ⟨3,1,Y.map ii⟩] ?_
  simp[go_sem]
 ·refine⟨Nat.le_refl _,by omega,?_⟩
  match Y,hc with
  |a::l,_=>simp[ddN]
 ·rintro k ⟨hk1,hk2,hk3⟩
  (repeat(refine yB ?_;(simp[go_sem])))
  refine yC (decide (k<Y.length)) (fun hd=>?_) (fun hd=>?_) (by simp[go_sem];try omega)
  rotate_left
  ·simp at hd
   have hkl:k=Y.length:=by omega
   have e:ddN Y Y.length=Y:=by rw[←hkl,hk3,hkl,List.take_length]
   rw[(lE e).1,(lE e).2]
   (repeat(refine yB ?_;(simp[go_sem])))
   refine aB ?_;refine aA [(2,.ow 0),(1000000,.ow 0)] [.old 0 ⟨3,1,Y.map ii⟩] ?_
   simp[go_sem]
  simp at hd
  obtain⟨j,rfl⟩:∃j,k=j+1:=⟨k-1,by omega⟩
  have hj:j<Y.length:=by omega
  have wj:=w64 (x:=(j:Int)) (by omega) (by omega)
  have wj2:=w64 (x:=(j:Int)+1+1) (by omega) (by omega)
  have tj:((j:Int)+1).toNat=j+1:=by omega
  (repeat(refine yB ?_;(simp[go_sem,hd,hj,wj,tj])))
  (repeat refine⟨by first|omega|(rw[bA];omega)|kernel_rfl|grind,?_⟩)
  refine yC (decide (Y[j+1]=Y[j])) (fun he=>?_) fun he=>?_
  rotate_left
  ·have he':¬Y[j+1]=Y[j]:=by simpa using he
   (repeat(refine yB ?_;(simp[go_sem,wj2])))
   refine⟨j+1+1,⟨by omega,by omega,?_⟩,by omega,?_⟩
   ·rw[j6 (by rw[gd hd,show j+1-1=j by omega,gd hj];exact fun h=>he' h.2),hk3,gd hd,←List.take_succ_eq_append_getElem hd]
   ·refine yS _ [.old 0 ⟨3,1,Y.map ii⟩] ?_
    simp[go_sem]
  have he':Y[j+1]=Y[j]:=by simpa using he
  have hstart:ddN Y (j+1+1)=Y.take (j+1):=by rw[iZ (by omega) (by rw[gd hd,show j+1-1=j by omega,gd hj];exact he'),hk3]
  have hlow:(ddN Y (j+1+1)).length<j+1+1:=by rw[hstart];simp;omega
  have hnl:(Y.length:Int)-((j:Int)+1)=((Y.length-(j+1):Nat):Int):=by omega
  (repeat(refine yB ?_;(simp[go_sem])))
  (repeat refine⟨by first|omega|(rw[bA];omega)|kernel_rfl|grind,?_⟩)
  (repeat(refine yB ?_;(simp[go_sem])))
  refine aG (fun(p:Nat×Nat×List Int)=>⟨mkE [(0,.ow 0),(3,ii p.2.1),(4,.wn 0 1 (j+1) (Y.length-(j+1))),(5,ii p.1),(1000000,.ow 0)],[rowI p.2.2]⟩)
   (fun p=>1≤p.1∧j+1+p.1≤Y.length∧p.2.2.length=Y.length∧p.2.2.take p.2.1=ddN Y (j+1+p.1)∧p.2.1=(ddN Y (j+1+p.1)).length∧p.2.2.drop (j+p.1)=Y.drop (j+p.1)) (fun p=>Y.length-p.1) (1,j+1,Y) ?_ ?_ ?_
  ·refine yS _ [.old 0 ⟨3,1,Y.map ii⟩] ?_ (by simp[go_sem,tj])
   simp[go_sem,tj]
  ·refine⟨Nat.le_refl _,hd,rfl,hstart.symm,?_,rfl⟩
   show j+1=(ddN Y (j+1+1)).length
   rw[hstart];simp;omega
  ·rintro⟨q,k,L⟩ ⟨i1,i2,i3,i4,i5,i6⟩
   simp only[]at i1 i2 i3 i4 i5 i6⊢
   have hkq:k≤j+q:=by
    have:=AF hlow (q-1)
    rw[show j+1+1+(q-1)=j+1+q by omega]at this
    omega
   have hmn:((Y.length-(j+1):Nat):Int)=(Y.length:Int)-(j+1):=by omega
   (repeat(refine yB ?_;(simp[go_sem])))
   refine yC (decide (q<Y.length-(j+1))) (fun hx=>?_) (fun hx=>?_) (by simp[go_sem];try omega)
   rotate_left
   ·simp at hx
    have hq:j+1+q=Y.length:=by omega
    rw[hq]at i4 i5
    have hless:(ddN Y Y.length).length<Y.length:=by omega
    have hkl:k≤L.length:=by omega
    rw[(vV hless).1,(vV hless).2,←i5,←i4]
    have hki:(k:Int)≤L.length:=by omega
    have hk0:k≤Y.length:=by omega
    (repeat(refine yB ?_;(simp[go_sem,hkl,i3])))
    (repeat refine⟨by first|omega|(rw[bA];omega)|kernel_rfl|grind,?_⟩)
    (repeat(refine yB ?_;(simp[go_sem,hki,hkl,hk0,i3])))
    (repeat refine⟨by first|omega|(rw[bA];omega)|kernel_rfl|grind,?_⟩)
    refine aB ?_;simp only[thenQ,blkQ,loopQ];refine aA [(2,.wn 0 1 0 k),(1000000,.ow 0)] [.old 0 ⟨3,1,(L.take k++List.replicate (Y.length-k) 0).map ii⟩] ?_
    simp[go_sem,i3]
   simp at hx
   obtain⟨r,rfl⟩:∃r,q=r+1:=⟨q-1,by omega⟩
   have hx1:j+1+(r+1)<L.length:=by omega
   have hx2:j+1+r<L.length:=by omega
   have g1:L[j+1+(r+1)]=Y[j+1+(r+1)]'(by omega):=by
    have h1:(L.drop (j+(r+1)))[1]? =(Y.drop (j+(r+1)))[1]? :=by rw[i6]
    rw[List.getElem?_drop,List.getElem?_drop,show j+(r+1)+1=j+1+(r+1) by omega,List.getElem?_eq_getElem hx1,List.getElem?_eq_getElem (by omega)]at h1
    exact Option.some.inj h1
   have g2:L[j+1+r]=Y[j+1+r]'(by omega):=by
    have h1:(L.drop (j+(r+1)))[0]? =(Y.drop (j+(r+1)))[0]? :=by rw[i6]
    rw[List.getElem?_drop,List.getElem?_drop,show j+(r+1)+0=j+1+r by omega,List.getElem?_eq_getElem hx2,List.getElem?_eq_getElem (by omega)]at h1
    exact Option.some.inj h1
   have wr:=w64 (x:=(r:Int)) (by omega) (by omega)
   have wr2:=w64 (x:=(r:Int)+1+1) (by omega) (by omega)
   have wk:=w64 (x:=(k:Int)+1) (by omega) (by omega)
   have hkL:k<L.length:=by omega
   have hxi:(r:Int)+1<((Y.length-(j+1):Nat):Int):=by omega
   have hxr:(r:Int)<((Y.length-(j+1):Nat):Int):=by omega
   generalize hya:Y[j+1+(r+1)]'(by omega)=ya at g1
   generalize hyb:Y[j+1+r]'(by omega)=yb at g2
   have hyb2:Y.getD (j+1+(r+1)-1) 0=yb:=by rw[←hyb,←gd];congr 1
   have hya2:Y.getD (j+1+(r+1)) 0=ya:=by rw[←hya];exact gd _
   (repeat(refine yB ?_;(simp[go_sem,wr,hx1,hx2,g1,g2,hxi,hxr])))
   (repeat refine⟨by first|omega|(rw[bA];omega)|kernel_rfl|grind,?_⟩)
   refine yC (!decide (ya=yb)) (fun hy=>?_) fun hy=>?_
   ·have hy':¬ya=yb:=by simpa using hy
    have e:ddN Y (j+1+(r+1)+1)=ddN Y (j+1+(r+1))++[ya]:=by
     rw[j6 (by rw[hya2,hyb2];exact fun h=>hy' h.2),hya2]
    have hzs:zoneEs ((L.map ii).set k (ii ya))=true:=by rw[←List.map_set];exact dI _ _ (fun _=>rfl)
    (repeat(refine yB ?_;(simp[go_sem,wr,wr2,wk,hx1,hx2,g1,g2,hxi,hxr,hkL,hzs])))
    (repeat refine⟨by first|omega|(rw[bA];omega)|kernel_rfl|grind,?_⟩)
    (repeat(refine yB ?_;(simp[go_sem,wr,wr2,wk,hx1,hx2,g1,g2,hxi,hxr,hkL,hzs])))
    refine⟨r+1+1,k+1,L.set k ya,⟨by omega,by omega,by simpa using i3,?_,?_,?_⟩,by omega,?_⟩
    ·show(L.set k ya).take (k+1)=ddN Y (j+1+(r+1)+1)
     rw[e,←i4,List.take_succ_eq_append_getElem (by simpa using hkL),List.take_set_of_le (Nat.le_refl _)]
     simp
    ·show k+1=(ddN Y (j+1+(r+1)+1)).length
     rw[e,i5];simp
    ·show(L.set k ya).drop (j+(r+1)+1)=Y.drop (j+(r+1)+1)
     rw[List.drop_set_of_lt (by omega)]
     have:=congrArg (List.drop 1) i6
     rwa [List.drop_drop,List.drop_drop]at this
    ·refine yS _ [.old 0 ⟨3,1,(L.set k ya).map ii⟩] ?_ (by simp[go_sem,hzs])
     simp[go_sem,hzs]
   ·have hy':ya=yb:=by simpa using hy
    have e:ddN Y (j+1+(r+1)+1)=ddN Y (j+1+(r+1)):=iZ (by omega) (by rw[hya2,hyb2];exact hy')
    (repeat(refine yB ?_;(simp[go_sem,wr2])))
    refine⟨r+1+1,k,L,⟨by omega,by omega,i3,?_,?_,?_⟩,by omega,?_⟩
    ·show L.take k=ddN Y (j+1+(r+1)+1)
     rw[e,i4]
    ·show k=(ddN Y (j+1+(r+1)+1)).length
     rw[e,i5]
    ·have:=congrArg (List.drop 1) i6
     rwa [List.drop_drop,List.drop_drop]at this
    ·refine yS _ [.old 0 ⟨3,1,L.map ii⟩] ?_
     simp[go_sem]
end Go.Proofs.YtllgjognpobnpaaGreatDoor

namespace Go.Proofs.YtllgjognpobnpaaGreatDoor
open Go.RowKit Go.Ab
attribute [local irreducible] AWP Go.Ab.Sub Means MeansH CallK CallG CallT CallGT PanicH DefH CallU
set_option maxHeartbeats 4000000 in
theorem E6(f:FuncId)(E0 k0:Nat)(c0:AV)(p:Cn→Bool)(L:List Cn)(hl:L.length≤100000)(hz0:c0.flat.all AV.zone=true)(hf:∀x∈L,MeansH Tryz.prog f [.row ⟨E0,k0,[c0]⟩] [cn x,.el 0 k0 0 0] (bb (p x)) [.row ⟨E0,k0,[c0]⟩])(hcall:callable Tryz.prog f=true):
  MeansH Tryz.prog 140 [.row ⟨E0,k0,[c0]⟩] [.sl (L.map cn),.fn f [] [.el 0 k0 0 0]] (ii (match L.findIdx? p with|some n=>(n:Int)|none=> -1)) [.row ⟨E0,k0,[c0]⟩]:=by
 have hy0:∀x∈c0.flat,x.zone=true:=by simpa using hz0
 refine yN 1 19 [.tmp 4] [0,1,4,5,7,8,9,16,1000000] Tryz.func140 fun X hX=>?_
 (repeat(refine yB ?_;(simp[go_sem])))
 refine aG (fun n:Nat=>⟨mkE [(0,.sl (L.map cn)),(1,.fn f [] [.el 0 k0 0 0]),(7,ii L.length),(8,ii n),(1000000,.ow 0)],[.row ⟨E0,k0,[c0]⟩]⟩) (fun n=>n≤L.length∧∀k (h:k<L.length),k<n→p L[k]=false) (fun n=>L.length-n) 0 ?_ ?_ ?_
 ·refine yS _ [.old 0 ⟨E0,k0,[c0]⟩] ?_ (by simp[go_sem,hz0,hy0])
  simp[go_sem,hz0,hy0]
 ·exact⟨Nat.zero_le _,fun k h hk=>absurd hk (by omega)⟩
 ·rintro n ⟨h1,h2⟩
  (repeat(refine yB ?_;(simp[go_sem])))
  refine yC (decide (n<L.length)) (fun hc=>?_) fun hc=>?_
  ·simp at hc
   have hq:=GT hc
   have wk:=w64 (x:=(n:Int)+1) (by omega) (by omega)
   (repeat(refine yB ?_;(simp[go_sem,hc,hq,hcall])))
   refine aV [0] (hf L[n] (List.getElem_mem hc)) (by simp[go_sem,hz0,hy0]) ?_
   simp[go_sem,hz0]
   refine yC (p L[n]) (fun hs=>?_) fun hs=>?_
   ·have e1:L.findIdx? p=some n:=by
     rw[List.findIdx?_eq_some_iff_getElem]
     exact⟨hc,hs,fun k hk=>by rw[h2 k (by omega) hk];simp⟩
    rw[e1]
    (repeat(refine yB ?_;(simp[go_sem])))
    refine aB ?_;simp only[thenQ,blkQ,loopQ];refine aA [(4,ii n),(1000000,.ow 0)] [.old 0 ⟨E0,k0,[c0]⟩] ?_
    simp[go_sem,hz0,hy0]
   ·(repeat(refine yB ?_;(simp[go_sem,wk])))
    refine⟨n+1,⟨by omega,fun k h hk=>?_⟩,by omega,?_⟩
    ·by_cases e:k=n
     ·subst e;exact hs
     ·exact h2 k h (by omega)
    ·refine yS _ [.old 0 ⟨E0,k0,[c0]⟩] ?_ (by simp[go_sem,hz0,hy0])
     simp[go_sem,hz0,hy0]
  ·simp at hc
   have e1:L.findIdx? p=none:=by
    rw[List.findIdx?_eq_none_iff]
    intro x hx
    obtain⟨k,hk,rfl⟩:=List.getElem_of_mem hx
    exact h2 k hk (by omega)
   rw[e1]
   (repeat(refine yB ?_;(simp[go_sem])))
   refine aB ?_;refine aA [(4,ii (-1)),(1000000,.ow 0)] [.old 0 ⟨E0,k0,[c0]⟩] ?_
   simp[go_sem,hz0,hy0]
theorem E7(f:FuncId)(E0 k0:Nat)(c0:AV)(p:Cn→Bool)(L:List Cn)(hl:L.length≤100000)(hz0:c0.flat.all AV.zone=true)(hf:∀x∈L,MeansH Tryz.prog f [.row ⟨E0,k0,[c0]⟩] [cn x,.el 0 k0 0 0] (bb (p x)) [.row ⟨E0,k0,[c0]⟩])(hcall:callable Tryz.prog f=true):
  MeansH Tryz.prog 102 [.row ⟨E0,k0,[c0]⟩] [.sl (L.map cn),.fn f [] [.el 0 k0 0 0]] (bb (L.any p)) [.row ⟨E0,k0,[c0]⟩]:=by
 have hy0:∀x∈c0.flat,x.zone=true:=by simpa using hz0
 have hI:=E6 f E0 k0 c0 p L hl hz0 hf hcall
 refine yN 1 9 [.tmp 4] [0,1,4,1000000] Tryz.func102 fun X hX=>?_
 (repeat(refine yB ?_;(simp[go_sem])))
 refine aV [0] hI (by simp[go_sem,hz0,hy0]) ?_
 simp[go_sem,hz0]
 have e:decide (0≤(match L.findIdx? p with|some n=>(n:Int)|none=> -1))=L.any p:=by
  cases hf:L.findIdx? p with
  |none=>
   have:L.any p=false:=by
    rw[List.any_eq_false]
    intro x hx
    rw[List.findIdx?_eq_none_iff.1 hf x hx];simp
   rw[this];rfl
  |some n=>
   obtain⟨h1,h2,_⟩:=List.findIdx?_eq_some_iff_getElem.1 hf
   have:L.any p=true:=List.any_eq_true.2 ⟨L[n],List.getElem_mem h1,h2⟩
   rw[this]
   simp
 rw[←e]
 refine aB ?_;refine aA [(4,bb (decide (0≤(match L.findIdx? p with|some n=>(n:Int)|none=> -1)))),(1000000,.ow 0)] [.old 0 ⟨E0,k0,[c0]⟩] ?_
 simp[go_sem,hz0,hy0]
set_option maxHeartbeats 4000000 in
theorem AG(f:FuncId)  (p:Int→Bool)(L:List Int)(hl:L.length≤100000)  (hf:∀x∈L,Means true Tryz.prog f [ii x] (bb (p x)))(hcall:callable Tryz.prog f=true):
  Means true Tryz.prog 127 [.sl (L.map ii),.v (.func (.func f) #[] #[])] (ii (match L.findIdx? p with|some n=>(n:Int)|none=> -1)):=by
 refine yM true 19 [.tmp 4] [0,1,4,5,7,8,9,16] Tryz.func127 fun X hX=>?_
 (repeat(refine yA ?_;(simp[go_sem])))
 refine aG (fun n:Nat=>⟨mkE [(0,.sl (L.map ii)),(1,.v (.func (.func f) #[] #[])),(7,ii L.length),(8,ii n)],[]⟩) (fun n=>n≤L.length∧∀k (h:k<L.length),k<n→p L[k]=false) (fun n=>L.length-n) 0 ?_ ?_ ?_
 ·refine yS _ [] ?_
  simp[go_sem]
 ·exact⟨Nat.zero_le _,fun k h hk=>absurd hk (by omega)⟩
 ·rintro n ⟨h1,h2⟩
  (repeat(refine yA ?_;(simp[go_sem])))
  refine yC (decide (n<L.length)) (fun hc=>?_) fun hc=>?_
  ·simp at hc
   have hq:=cZ hc
   have wk:=w64 (x:=(n:Int)+1) (by omega) (by omega)
   (repeat(refine yA ?_;(simp[go_sem,hc,hq,hcall])))
   refine aD (hf L[n] (List.getElem_mem hc)) ?_
   refine yC (p L[n]) (fun hs=>?_) fun hs=>?_
   ·have e1:L.findIdx? p=some n:=by
     rw[List.findIdx?_eq_some_iff_getElem]
     exact⟨hc,hs,fun k hk=>by rw[h2 k (by omega) hk];simp⟩
    rw[e1]
    (repeat(refine yA ?_;(simp[go_sem])))
   ·(repeat(refine yA ?_;(simp[go_sem,wk])))
    refine⟨n+1,⟨by omega,fun k h hk=>?_⟩,by omega,?_⟩
    ·by_cases e:k=n
     ·subst e;exact hs
     ·exact h2 k h (by omega)
    ·refine yS _ [] ?_
     simp[go_sem]
  ·simp at hc
   have e1:L.findIdx? p=none:=by
    rw[List.findIdx?_eq_none_iff]
    intro x hx
    obtain⟨k,hk,rfl⟩:=List.getElem_of_mem hx
    exact h2 k hk (by omega)
   rw[e1]
   (repeat(refine yA ?_;(simp[go_sem])))
theorem AH(f:FuncId)  (p:Int→Bool)(L:List Int)(hl:L.length≤100000)  (hf:∀x∈L,Means true Tryz.prog f [ii x] (bb (p x)))(hcall:callable Tryz.prog f=true):
  Means true Tryz.prog 81 [.sl (L.map ii),.v (.func (.func f) #[] #[])] (bb (L.any p)):=by
 have hI:=AG f  p L hl  hf hcall
 refine yM true 9 [.tmp 4] [0,1,4] Tryz.func81 fun X hX=>?_
 (repeat(refine yA ?_;(simp[go_sem])))
 refine aD hI ?_
 simp[go_sem]
 have e:decide (0≤(match L.findIdx? p with|some n=>(n:Int)|none=> -1))=L.any p:=by
  cases hf:L.findIdx? p with
  |none=>
   have:L.any p=false:=by
    rw[List.any_eq_false]
    intro x hx
    rw[List.findIdx?_eq_none_iff.1 hf x hx];simp
   rw[this];rfl
  |some n=>
   obtain⟨h1,h2,_⟩:=List.findIdx?_eq_some_iff_getElem.1 hf
   have:L.any p=true:=List.any_eq_true.2 ⟨L[n],List.getElem_mem h1,h2⟩
   rw[this]
   simp
 rw[←e]
 (repeat(refine yA ?_;(simp[go_sem])))
def okC(n:Int)(c:Cn):Prop:=(0≤c.a∧c.a<n)∧(0≤c.b∧c.b<n)∧ -1099511627776≤c.n∧c.n≤1099511627776
set_option maxRecDepth 20000 in
theorem IR(n:Int)(c:Cn)(h:okC n c):MeansH Tryz.prog 103 [.row ⟨3,1,[ii n]⟩] [cn c,.el 0 1 0 0] (bb ((fun _:Cn=>false) c)) [.row ⟨3,1,[ii n]⟩]:=by
 obtain⟨h1,h2,h3,h4⟩:=h
 have e1:¬min c.a c.b<0:=by omega
 have e2:¬n≤max c.a c.b:=by omega
 have e3:¬c.n< -1099511627776:=by omega
 have e4:¬1099511627776<c.n:=by omega
 refine yN 1 29 [.tmp 3] [0,1,2,3,1000000] Tryz.func103 fun X hX=>?_
 (repeat(refine yB ?_;(simp[go_sem,e1,e2,e3,e4])))
 refine aB ?_;refine aA [(3,bb false),(1000000,.ow 0)] [.old 0 ⟨3,1,[ii n]⟩] ?_
 simp[go_sem,e1,e2,e3,e4]
set_option maxRecDepth 20000 in
theorem AI(C:List Cn)(n:Int)(hn:0≤n∧n≤200)(hC:C.length≤2000)(h:∀c∈C,okC n c):Means true Tryz.prog 52 [.sl (C.map cn),ii n] (bb true):=by
 have c1:=E7 103 3 1 (ii n) (fun _=>false) C (by omega) rfl (fun c hc=>IR n c (h c hc)) (by simp[go_sem])
 have hany:(C.any fun _=>false)=false:=by simp
 rw[hany]at c1
 refine yM true 20 [.tmp 4] [0,1,3,4,15] Tryz.func52 fun X hX=>?_
 (repeat(refine yA ?_;(simp[go_sem])))
 refine yF ?_ (by simp[go_sem];omega)
 (repeat(refine yA ?_;(simp[go_sem])))
 refine yH [0] c1 ?_
 simp[go_sem]
 (repeat(refine yA ?_;(simp[go_sem])))
abbrev u6(x:Int):AV:=.v (.int .u64 x)
theorem wuu{x:Int}(h1:0≤x)(h2:x<18446744073709551616):IntKind.u64.wrap x=x:=by
 unfold IntKind.wrap
 simp[IntKind.bits,IntKind.signed]
 omega
theorem AJ{x:Int}(h1:0≤x)(h2:x<4294967296):andI .u64 x 4294967295=x:=by
 have hm:∀n:Nat,n&&&4294967295=n%4294967296:=fun n=>Nat.and_two_pow_sub_one_eq_mod n 32
 unfold andI
 rw[BitVec.toNat_and,BitVec.toNat_ofInt,BitVec.toNat_ofInt]
 show IntKind.u64.wrap (((x%(2^64:Nat)).toNat&&&((4294967295:Int)%(2^64:Nat)).toNat:Nat):Int)=_
 rw[show((4294967295:Int)%(2^64:Nat)).toNat=4294967295 by decide,hm,wuu (by omega) (by omega)]
 omega
theorem E8(k:Int)(h:0≤k∧k≤60000):Means true Tryz.prog 166 [u6 1,u6 k] (.tup [u6 0,u6 k]):=by
 have a0:=AJ (x:=0) (by omega) (by omega)
 have a1:=AJ (x:=1) (by omega) (by omega)
 have a2:=AJ (x:=k) (by omega) (by omega)
 have w0:=wuu (x:=0) (by omega) (by omega)
 have w1:=wuu (x:=1) (by omega) (by omega)
 have w2:=wuu (x:=k) (by omega) (by omega)
 have d:k.fdiv 4294967296=0:=by rw[Int.fdiv_eq_ediv_of_nonneg _ (by omega)];omega
 refine yM true 51 [.tmp 4,.tmp 5] [0,1,4,5,6,7,8,9,10,11,12,13] Tryz.func166 fun X hX=>?_
 (repeat(refine yA ?_;(simp[go_sem,a0,a1,a2,w0,w1,w2,d])))
theorem IS(k:Int)(h:0≤k∧k≤60000):Means true Tryz.prog 141 [u6 1,u6 k] (.tup [u6 0,u6 k]):=by
 refine yM true 30 [.tmp 4,.tmp 5] [0,1,4,5,6,7,8,9] Tryz.func141 fun X hX=>?_
 (repeat(refine yA ?_;(simp[go_sem])))
 refine yF ?_
 (repeat(refine yA ?_;(simp[go_sem])))
 refine aD (E8 k h) ?_
 simp[go_sem]
 (repeat(refine yA ?_;(simp[go_sem])))
def nums(k n:Nat):List Int:=List.replicate n (-1)++List.replicate (k-n) 0
theorem AK{k n:Nat}(h:n≤k):(nums k n).length=k:=by simp[nums];omega
theorem AM(k:Nat):nums k k=List.replicate k (-1):=by simp[nums]
theorem xZ{k n m:Nat}(h1:m≤n)(h2:n+m≤k):(nums k n).take n++((nums k n).take n).take m++(nums k n).drop (n+m)=nums k (n+m):=by
 have e:(nums k n).take n=List.replicate n (-1):=by unfold nums;rw[List.take_left' (by simp)]
 rw[e,List.take_replicate,Nat.min_eq_left h1]
 unfold nums
 rw[List.drop_append,List.drop_of_length_le (by simp),List.nil_append,List.drop_replicate,List.length_replicate]
 rw[show k-n-(n+m-n)=k-(n+m) by omega,←List.replicate_append_replicate]
set_option maxHeartbeats 4000000 in
set_option maxRecDepth 20000 in
theorem rQ(k:Nat)(h:1≤k∧k≤60000):MeansH Tryz.prog 104 [rowI [-1]] [.ow 0,ii k] (.ow 1) [rowI [-1],rowI (List.replicate k (-1))]:=by
 have w1:=wuu (x:=1) (by omega) (by omega)
 have w2:=wuu (x:=(k:Int)) (by omega) (by omega)
 have w3:=w64 (x:=(k:Int)) (by omega) (by omega)
 refine yN 1 48 [.tmp 4] [0,1,4,5,6,7,8,10,26,37,1000000] Tryz.func104 fun X hX=>?_
 (repeat(refine yB ?_;(simp[go_sem])))
 refine yF ?_
 (repeat(refine yB ?_;(simp[go_sem,w1,w2])))
 refine aD (IS k (by omega)) ?_
 simp[go_sem]
 (repeat(refine yB ?_;(simp[go_sem])))
 refine yF ?_ (by simp[go_sem];try omega)
 (repeat(refine yB ?_;(simp[go_sem,w3])))
 (repeat refine⟨by first|omega|(rw[bA];omega)|kernel_rfl|grind,?_⟩)
 have h1m:min 1 k=1:=by omega
 (repeat(refine yB ?_;(simp[go_sem,h1m])))
 refine aG (fun n:Nat=>⟨mkE [(7,.ow 1),(8,ii n),(1000000,.ow 0)],[rowI [-1],rowI (nums k n)]⟩) (fun n=>1≤n∧n≤k) (fun n=>k-n) 1 ?_ ?_ ?_
 ·refine yS _ [.old 0 ⟨3,1,[-1].map ii⟩,.old 1 ⟨3,1,(nums k 1).map ii⟩] ?_ (by simp[go_sem,nums,h1m,List.map_replicate])
  simp[go_sem,h1m]
 ·omega
 ·rintro n ⟨h1,h2⟩
  have hlen:=AK h2
  obtain⟨m,hm⟩:∃m,min n (k-n)=m:=⟨_,rfl⟩
  have hcp:=xZ (k:=k) (n:=n) (m:=m) (by omega) (by omega)
  generalize hR:nums k n=R at*
  have hmi:min n k=n:=by omega
  have hw:=w64 (x:=(n:Int)+m) (by omega) (by omega)
  (repeat(refine yB ?_;(simp[go_sem,hlen])))
  refine yC (decide (n<k)) (fun hc=>?_) (fun hc=>?_) (by simp[go_sem,hlen])
  ·simp at hc
   (repeat(first|refine aS ?_|refine aP ?_|((first|refine aQ [0,1,4,5,6,7,8,10,26,37,1000000] hX ?_|refine aJ ?_|refine aR ?_);(simp[go_sem,hlen];try(refine⟨by kernel_rfl,?_⟩)))))
   refine iH [0,1,4,5,6,7,8,10,26,37,1000000] 0 hX mixed ?_;(simp[go_sem,hlen,h2,hmi,hm,hw];try(refine⟨by kernel_rfl,?_⟩))
   have hcpm:(nums k (n+m)).map ii=(R.map ii).take n++(((R.map ii).take n).take m++(R.map ii).drop (n+m)):=by rw[←hcp];simp
   refine⟨fun a ha=>?_,⟨by kernel_rfl,by kernel_rfl⟩,n+m,by omega,by omega,?_⟩
   ·obtain⟨x,_,rfl⟩:=List.mem_map.1 (List.mem_of_mem_take ha)
    exact⟨rfl,rfl⟩
   ·rw[←hcpm]
    refine yS _ [.old 0 ⟨3,1,[-1].map ii⟩,.old 1 ⟨3,1,(nums k (n+m)).map ii⟩] ?_
    simp[go_sem]
  ·have e:n=k:=by simp at hc;omega
   subst e
   rw[←hR,AM]
   (repeat(refine yB ?_;(simp[go_sem])))
   refine aB ?_;refine aA [(4,.ow 1),(1000000,.ow 0)] [.old 0 ⟨3,1,[-1].map ii⟩,.old 1 ⟨3,1,(List.replicate n (-1)).map ii⟩] ?_
   simp[go_sem]
end Go.Proofs.YtllgjognpobnpaaGreatDoor

namespace Go.Proofs.YtllgjognpobnpaaGreatDoor
open Go.RowKit Go.Ab
attribute [local irreducible] AWP Go.Ab.Sub Means MeansH CallK CallG CallT CallGT PanicH DefH CallU
def rngI(n:Nat):List Int:=List.map (fun k:Nat=>(k:Int)) (List.range n)
theorem oE(n:Nat):rngI (n+1)=rngI n++[(n:Int)]:=by simp[rngI,List.range_succ]
theorem AN(n:Nat):(rngI n).length=n:=by simp[rngI]
theorem E9(n:Nat)(hn:n≤200):Means true Tryz.prog 54 [ii n] (il (rngI n)):=by
 refine yM true 15 [.tmp 2] [0,2,3,4,5,6,7] Tryz.func54 fun X hX=>?_
 (repeat(refine yA ?_;(simp[go_sem])))
 refine aG (fun k:Nat=>⟨mkE [(3,.ow 0),(5,ii n),(6,ii k)],[rowI (rngI k)]⟩) (fun k=>k≤n) (fun k=>n-k) 0 ?_ ?_ ?_
 ·refine yS _ [.birth 3 1] ?_
  simp[go_sem]
 ·omega
 ·intro k hk
  have wk:=w64 (x:=(k:Int)+1) (by omega) (by omega)
  have hl:=AN k
  (repeat(refine yA ?_;(simp[go_sem])))
  refine yC (decide (k<n)) (fun hc=>?_) fun hc=>?_
  ·simp at hc
   (repeat(refine yA ?_;(simp[go_sem,hl])))
   (repeat refine⟨by first|omega|(rw[bA];omega)|kernel_rfl|grind,?_⟩)
   (repeat(refine yA ?_;(simp[go_sem,hl,wk])))
   refine⟨k+1,by omega,by omega,?_⟩
   refine yS _ [.old 2 ⟨3,1,(rngI (k+1)).map ii⟩] ?_ (by simp[go_sem,oE])
   simp[go_sem,oE]
  ·simp at hc
   have e:k=n:=by omega
   subst e
   (repeat(refine yA ?_;(simp[go_sem])))
abbrev cZ0(v:Nat→Int):List Cn:=[⟨2,0,v 0⟩,⟨0,2,v 1⟩,⟨1,2,v 2⟩,⟨2,1,v 3⟩,⟨0,1,v 4⟩,⟨3,2,v 5⟩,⟨2,3,v 6⟩,⟨4,2,v 7⟩,⟨2,4,v 8⟩,⟨3,4,v 9⟩]
abbrev cY0(v:Nat→Int):List AV:=[cn ⟨2,0,v 0⟩,cn ⟨0,2,v 1⟩,cn ⟨1,2,v 2⟩,cn ⟨2,1,v 3⟩,cn ⟨0,1,v 4⟩,cn ⟨3,2,v 5⟩,cn ⟨2,3,v 6⟩,cn ⟨4,2,v 7⟩,cn ⟨2,4,v 8⟩,cn ⟨3,4,v 9⟩]
abbrev oR0(v:Nat→Int):Ob:=⟨137,5,[.agg [.sl (cY0 v),.ow 1,.ow 2,.ow 3,.ow 4]]⟩
abbrev oV0:Ob:=⟨3,1,([0,0,0,0,0]:List Int).map ii⟩
abbrev oY0:Ob:=⟨3,1,([-1,-1,-1,-1,-1]:List Int).map ii⟩
abbrev oK0(K:List Bool):Ob:=⟨4,1,K.map bb⟩
abbrev hA0(v:Nat→Int)(F:List AV)(K:List Bool)(R:List (List Int)):List Cell:=.row (oR0 v)::.row ⟨22,1,F⟩::.row oV0::.row oY0::.row (oK0 K)::R.map rowI
abbrev sA0(v:Nat→Int)(a b c d e:Nat)(F:List AV)(K:List Bool)(R:List (Nat×List Int)):List Src:=.old a (oR0 v)::.old b ⟨22,1,F⟩::.old c oV0::.old d oY0::.old e (oK0 K)::R.map fun x=>.old x.1 ⟨3,1,x.2.map ii⟩
abbrev eA0(v:Nat→Int)(k:Int):List (Nat×AV):=[(2,il [0,1,2,3,4]),(7,.el 0 5 0 0),(24,.sl (cY0 v)),(25,ii 10),(26,ii k)]
abbrev eB0(k:Int):List (Nat×AV):=[(7,.el 0 5 0 0),(50,il [0,1,2,3,4]),(51,ii 5),(52,ii k)]
attribute [go_sem] cZ0 cY0 oR0 oV0 oY0 oK0 hA0 sA0 eA0 eB0
set_option maxHeartbeats 16000000 in
set_option maxRecDepth 20000 in
theorem rS(v:Nat→Int):MeansH Tryz.prog 53 [] [.sl ((cZ0 v).map cn),ii 5,il [0,1,2,3,4]] (.el 0 5 0 0)
  [.row ⟨137,5,[.agg [.sl ((cZ0 v).map cn),.sl [il [0],il [3,4],il [1,2,5,7],il [6],il [8,9]],.ow 1,.ow 2,.ow 3]]⟩,.row ⟨3,1,([0,0,0,0,0]:List Int).map ii⟩,.row ⟨3,1,([-1,-1,-1,-1,-1]:List Int).map ii⟩,.row ⟨4,1,[bb true,bb true,bb true,bb true,bb true]⟩]:=by
 have c1:=rQ 5 (by omega)
 have w1:IntKind.i64.wrap 5=5:=by decide
 refine yN 0 64 [.tmp 6] [0,1,2,6,7,8,9,11,24,25,26,27,50,51,52,53] Tryz.func53 fun X hX=>?_
 (repeat(first|refine aS ?_|refine aP ?_|((first|refine aQ [0,1,2,6,7,8,9,11,24,25,26,27,50,51,52,53] hX ?_|refine aJ ?_|refine aR ?_);(simp[go_sem];try(refine⟨by kernel_rfl,?_⟩)))))
 refine iH [0,1,2,6,7,8,9,11,24,25,26,27,50,51,52,53] 6 hX mixed ?_;(simp[go_sem,w1];try(refine⟨by kernel_rfl,?_⟩))
 refine iW [2] (c1) (by simp[go_sem]) (by simp[go_sem]) (by simp[go_sem]) ?_
 (simp[go_sem,w1];try(refine⟨by kernel_rfl,?_⟩))
 (repeat refine⟨by first|omega|(rw[bA];omega)|kernel_rfl|grind,?_⟩)
 refine⟨⟨by kernel_rfl,by kernel_rfl⟩,?_⟩
 (repeat(refine yB ?_;(simp[go_sem])))
 refine aG (fun k:Nat=>match k with|0=>⟨mkE (eA0 v 0),(hA0 v [.nil,.nil,.nil,.nil,.nil] [false,false,false,false,false] [])⟩|1=>⟨mkE (eA0 v 1),(hA0 v [.ow 5,.nil,.nil,.nil,.nil] [false,false,false,false,false] [[0]])⟩|2=>⟨mkE (eA0 v 2),(hA0 v [.ow 5,.nil,.ow 6,.nil,.nil] [false,false,false,false,false] [[0],[1]])⟩|3=>⟨mkE (eA0 v 3),(hA0 v [.ow 5,.nil,.ow 6,.nil,.nil] [false,false,false,false,false] [[0],[1,2]])⟩|4=>⟨mkE (eA0 v 4),(hA0 v [.ow 5,.ow 7,.ow 6,.nil,.nil] [false,false,false,false,false] [[0],[1,2],[3]])⟩|5=>⟨mkE (eA0 v 5),(hA0 v [.ow 5,.ow 7,.ow 6,.nil,.nil] [false,false,false,false,false] [[0],[1,2],[3,4]])⟩|6=>⟨mkE (eA0 v 6),(hA0 v [.ow 5,.ow 7,.ow 6,.nil,.nil] [false,false,false,false,false] [[0],[1,2,5],[3,4]])⟩|7=>⟨mkE (eA0 v 7),(hA0 v [.ow 5,.ow 7,.ow 6,.ow 8,.nil] [false,false,false,false,false] [[0],[1,2,5],[3,4],[6]])⟩|8=>⟨mkE (eA0 v 8),(hA0 v [.ow 5,.ow 7,.ow 6,.ow 8,.nil] [false,false,false,false,false] [[0],[1,2,5,7],[3,4],[6]])⟩|9=>⟨mkE (eA0 v 9),(hA0 v [.ow 5,.ow 7,.ow 6,.ow 8,.ow 9] [false,false,false,false,false] [[0],[1,2,5,7],[3,4],[6],[8]])⟩|_=>⟨mkE (eA0 v 10),(hA0 v [.ow 5,.ow 7,.ow 6,.ow 8,.ow 9] [false,false,false,false,false] [[0],[1,2,5,7],[3,4],[6],[8,9]])⟩) (fun k=>k≤10) (fun k=>10-k) 0 ?_ ?_ ?_
 ·show Ab.Sub X ⟨mkE (eA0 v 0),(hA0 v [.nil,.nil,.nil,.nil,.nil] [false,false,false,false,false] [])⟩ _
  refine yS _ (sA0 v 5 0 1 3 4 [.nil,.nil,.nil,.nil,.nil] [false,false,false,false,false] []) ?_
  simp[go_sem]
 ·omega
 ·intro k hk
  have hcs:k=0∨k=1∨k=2∨k=3∨k=4∨k=5∨k=6∨k=7∨k=8∨k=9∨k=10:=by omega
  rcases hcs with rfl|rfl|rfl|rfl|rfl|rfl|rfl|rfl|rfl|rfl|rfl
  ·show AWP Tryz.prog X _ _ ⟨mkE (eA0 v 0),(hA0 v [.nil,.nil,.nil,.nil,.nil] [false,false,false,false,false] [])⟩
   (repeat(refine yB ?_;(simp[go_sem])))
   refine yT ?_
   (repeat(refine yB ?_;(simp[go_sem])))
   (repeat refine⟨by first|omega|(rw[bA];omega)|kernel_rfl|grind,?_⟩)
   (repeat(refine yB ?_;(simp[go_sem])))
   refine⟨1,by omega,by omega,?_⟩
   show Ab.Sub X ⟨mkE (eA0 v 1),(hA0 v [.ow 5,.nil,.nil,.nil,.nil] [false,false,false,false,false] [[0]])⟩ _
   refine yS _ (sA0 v 0 1 2 3 4 [.ow 5,.nil,.nil,.nil,.nil] [false,false,false,false,false] [(7,[0])]) ?_
   simp[go_sem]
   decide
  ·show AWP Tryz.prog X _ _ ⟨mkE (eA0 v 1),(hA0 v [.ow 5,.nil,.nil,.nil,.nil] [false,false,false,false,false] [[0]])⟩
   (repeat(refine yB ?_;(simp[go_sem])))
   refine yT ?_
   (repeat(refine yB ?_;(simp[go_sem])))
   (repeat refine⟨by first|omega|(rw[bA];omega)|kernel_rfl|grind,?_⟩)
   (repeat(refine yB ?_;(simp[go_sem])))
   refine⟨2,by omega,by omega,?_⟩
   show Ab.Sub X ⟨mkE (eA0 v 2),(hA0 v [.ow 5,.nil,.ow 6,.nil,.nil] [false,false,false,false,false] [[0],[1]])⟩ _
   refine yS _ (sA0 v 0 1 2 3 4 [.ow 5,.nil,.ow 6,.nil,.nil] [false,false,false,false,false] [(5,[0]),(8,[1])]) ?_
   simp[go_sem]
   decide
  ·show AWP Tryz.prog X _ _ ⟨mkE (eA0 v 2),(hA0 v [.ow 5,.nil,.ow 6,.nil,.nil] [false,false,false,false,false] [[0],[1]])⟩
   (repeat(refine yB ?_;(simp[go_sem])))
   refine yT ?_
   (repeat(refine yB ?_;(simp[go_sem])))
   (repeat refine⟨by first|omega|(rw[bA];omega)|kernel_rfl|grind,?_⟩)
   (repeat(refine yB ?_;(simp[go_sem])))
   refine⟨3,by omega,by omega,?_⟩
   show Ab.Sub X ⟨mkE (eA0 v 3),(hA0 v [.ow 5,.nil,.ow 6,.nil,.nil] [false,false,false,false,false] [[0],[1,2]])⟩ _
   refine yS _ (sA0 v 0 1 2 3 4 [.ow 5,.nil,.ow 6,.nil,.nil] [false,false,false,false,false] [(5,[0]),(9,[1,2])]) ?_
   simp[go_sem]
   decide
  ·show AWP Tryz.prog X _ _ ⟨mkE (eA0 v 3),(hA0 v [.ow 5,.nil,.ow 6,.nil,.nil] [false,false,false,false,false] [[0],[1,2]])⟩
   (repeat(refine yB ?_;(simp[go_sem])))
   refine yT ?_
   (repeat(refine yB ?_;(simp[go_sem])))
   (repeat refine⟨by first|omega|(rw[bA];omega)|kernel_rfl|grind,?_⟩)
   (repeat(refine yB ?_;(simp[go_sem])))
   refine⟨4,by omega,by omega,?_⟩
   show Ab.Sub X ⟨mkE (eA0 v 4),(hA0 v [.ow 5,.ow 7,.ow 6,.nil,.nil] [false,false,false,false,false] [[0],[1,2],[3]])⟩ _
   refine yS _ (sA0 v 0 1 2 3 4 [.ow 5,.ow 7,.ow 6,.nil,.nil] [false,false,false,false,false] [(5,[0]),(6,[1,2]),(9,[3])]) ?_
   simp[go_sem]
   decide
  ·show AWP Tryz.prog X _ _ ⟨mkE (eA0 v 4),(hA0 v [.ow 5,.ow 7,.ow 6,.nil,.nil] [false,false,false,false,false] [[0],[1,2],[3]])⟩
   (repeat(refine yB ?_;(simp[go_sem])))
   refine yT ?_
   (repeat(refine yB ?_;(simp[go_sem])))
   (repeat refine⟨by first|omega|(rw[bA];omega)|kernel_rfl|grind,?_⟩)
   (repeat(refine yB ?_;(simp[go_sem])))
   refine⟨5,by omega,by omega,?_⟩
   show Ab.Sub X ⟨mkE (eA0 v 5),(hA0 v [.ow 5,.ow 7,.ow 6,.nil,.nil] [false,false,false,false,false] [[0],[1,2],[3,4]])⟩ _
   refine yS _ (sA0 v 0 1 2 3 4 [.ow 5,.ow 7,.ow 6,.nil,.nil] [false,false,false,false,false] [(5,[0]),(6,[1,2]),(10,[3,4])]) ?_
   simp[go_sem]
   decide
  ·show AWP Tryz.prog X _ _ ⟨mkE (eA0 v 5),(hA0 v [.ow 5,.ow 7,.ow 6,.nil,.nil] [false,false,false,false,false] [[0],[1,2],[3,4]])⟩
   (repeat(refine yB ?_;(simp[go_sem])))
   refine yT ?_
   (repeat(refine yB ?_;(simp[go_sem])))
   (repeat refine⟨by first|omega|(rw[bA];omega)|kernel_rfl|grind,?_⟩)
   (repeat(refine yB ?_;(simp[go_sem])))
   refine⟨6,by omega,by omega,?_⟩
   show Ab.Sub X ⟨mkE (eA0 v 6),(hA0 v [.ow 5,.ow 7,.ow 6,.nil,.nil] [false,false,false,false,false] [[0],[1,2,5],[3,4]])⟩ _
   refine yS _ (sA0 v 0 1 2 3 4 [.ow 5,.ow 7,.ow 6,.nil,.nil] [false,false,false,false,false] [(5,[0]),(10,[1,2,5]),(7,[3,4])]) ?_
   simp[go_sem]
   decide
  ·show AWP Tryz.prog X _ _ ⟨mkE (eA0 v 6),(hA0 v [.ow 5,.ow 7,.ow 6,.nil,.nil] [false,false,false,false,false] [[0],[1,2,5],[3,4]])⟩
   (repeat(refine yB ?_;(simp[go_sem])))
   refine yT ?_
   (repeat(refine yB ?_;(simp[go_sem])))
   (repeat refine⟨by first|omega|(rw[bA];omega)|kernel_rfl|grind,?_⟩)
   (repeat(refine yB ?_;(simp[go_sem])))
   refine⟨7,by omega,by omega,?_⟩
   show Ab.Sub X ⟨mkE (eA0 v 7),(hA0 v [.ow 5,.ow 7,.ow 6,.ow 8,.nil] [false,false,false,false,false] [[0],[1,2,5],[3,4],[6]])⟩ _
   refine yS _ (sA0 v 0 1 2 3 4 [.ow 5,.ow 7,.ow 6,.ow 8,.nil] [false,false,false,false,false] [(5,[0]),(6,[1,2,5]),(7,[3,4]),(10,[6])]) ?_
   simp[go_sem]
   decide
  ·show AWP Tryz.prog X _ _ ⟨mkE (eA0 v 7),(hA0 v [.ow 5,.ow 7,.ow 6,.ow 8,.nil] [false,false,false,false,false] [[0],[1,2,5],[3,4],[6]])⟩
   (repeat(refine yB ?_;(simp[go_sem])))
   refine yT ?_
   (repeat(refine yB ?_;(simp[go_sem])))
   (repeat refine⟨by first|omega|(rw[bA];omega)|kernel_rfl|grind,?_⟩)
   (repeat(refine yB ?_;(simp[go_sem])))
   refine⟨8,by omega,by omega,?_⟩
   show Ab.Sub X ⟨mkE (eA0 v 8),(hA0 v [.ow 5,.ow 7,.ow 6,.ow 8,.nil] [false,false,false,false,false] [[0],[1,2,5,7],[3,4],[6]])⟩ _
   refine yS _ (sA0 v 0 1 2 3 4 [.ow 5,.ow 7,.ow 6,.ow 8,.nil] [false,false,false,false,false] [(5,[0]),(11,[1,2,5,7]),(7,[3,4]),(8,[6])]) ?_
   simp[go_sem]
   decide
  ·show AWP Tryz.prog X _ _ ⟨mkE (eA0 v 8),(hA0 v [.ow 5,.ow 7,.ow 6,.ow 8,.nil] [false,false,false,false,false] [[0],[1,2,5,7],[3,4],[6]])⟩
   (repeat(refine yB ?_;(simp[go_sem])))
   refine yT ?_
   (repeat(refine yB ?_;(simp[go_sem])))
   (repeat refine⟨by first|omega|(rw[bA];omega)|kernel_rfl|grind,?_⟩)
   (repeat(refine yB ?_;(simp[go_sem])))
   refine⟨9,by omega,by omega,?_⟩
   show Ab.Sub X ⟨mkE (eA0 v 9),(hA0 v [.ow 5,.ow 7,.ow 6,.ow 8,.ow 9] [false,false,false,false,false] [[0],[1,2,5,7],[3,4],[6],[8]])⟩ _
   refine yS _ (sA0 v 0 1 2 3 4 [.ow 5,.ow 7,.ow 6,.ow 8,.ow 9] [false,false,false,false,false] [(5,[0]),(6,[1,2,5,7]),(7,[3,4]),(8,[6]),(11,[8])]) ?_
   simp[go_sem]
   decide
  ·show AWP Tryz.prog X _ _ ⟨mkE (eA0 v 9),(hA0 v [.ow 5,.ow 7,.ow 6,.ow 8,.ow 9] [false,false,false,false,false] [[0],[1,2,5,7],[3,4],[6],[8]])⟩
   (repeat(refine yB ?_;(simp[go_sem])))
   refine yT ?_
   (repeat(refine yB ?_;(simp[go_sem])))
   (repeat refine⟨by first|omega|(rw[bA];omega)|kernel_rfl|grind,?_⟩)
   (repeat(refine yB ?_;(simp[go_sem])))
   refine⟨10,by omega,by omega,?_⟩
   show Ab.Sub X ⟨mkE (eA0 v 10),(hA0 v [.ow 5,.ow 7,.ow 6,.ow 8,.ow 9] [false,false,false,false,false] [[0],[1,2,5,7],[3,4],[6],[8,9]])⟩ _
   refine yS _ (sA0 v 0 1 2 3 4 [.ow 5,.ow 7,.ow 6,.ow 8,.ow 9] [false,false,false,false,false] [(5,[0]),(6,[1,2,5,7]),(7,[3,4]),(8,[6]),(12,[8,9])]) ?_
   simp[go_sem]
   decide
  ·show AWP Tryz.prog X _ _ ⟨mkE (eA0 v 10),(hA0 v [.ow 5,.ow 7,.ow 6,.ow 8,.ow 9] [false,false,false,false,false] [[0],[1,2,5,7],[3,4],[6],[8,9]])⟩
   (repeat(refine yB ?_;(simp[go_sem])))
   refine yF ?_
   (repeat(refine yB ?_;(simp[go_sem])))
   refine aG (fun k:Nat=>match k with|0=>⟨mkE (eB0 0),(hA0 v [.ow 5,.ow 7,.ow 6,.ow 8,.ow 9] [false,false,false,false,false] [[0],[1,2,5,7],[3,4],[6],[8,9]])⟩|1=>⟨mkE (eB0 1),(hA0 v [.ow 5,.ow 7,.ow 6,.ow 8,.ow 9] [true,false,false,false,false] [[0],[1,2,5,7],[3,4],[6],[8,9]])⟩|2=>⟨mkE (eB0 2),(hA0 v [.ow 5,.ow 7,.ow 6,.ow 8,.ow 9] [true,true,false,false,false] [[0],[1,2,5,7],[3,4],[6],[8,9]])⟩|3=>⟨mkE (eB0 3),(hA0 v [.ow 5,.ow 7,.ow 6,.ow 8,.ow 9] [true,true,true,false,false] [[0],[1,2,5,7],[3,4],[6],[8,9]])⟩|4=>⟨mkE (eB0 4),(hA0 v [.ow 5,.ow 7,.ow 6,.ow 8,.ow 9] [true,true,true,true,false] [[0],[1,2,5,7],[3,4],[6],[8,9]])⟩|_=>⟨mkE (eB0 5),(hA0 v [.ow 5,.ow 7,.ow 6,.ow 8,.ow 9] [true,true,true,true,true] [[0],[1,2,5,7],[3,4],[6],[8,9]])⟩) (fun k=>k≤5) (fun k=>5-k) 0 ?_ ?_ ?_
   ·show Ab.Sub X ⟨mkE (eB0 0),(hA0 v [.ow 5,.ow 7,.ow 6,.ow 8,.ow 9] [false,false,false,false,false] [[0],[1,2,5,7],[3,4],[6],[8,9]])⟩ _
    refine yS _ (sA0 v 0 1 2 3 4 [.ow 5,.ow 7,.ow 6,.ow 8,.ow 9] [false,false,false,false,false] [(5,[0]),(6,[1,2,5,7]),(7,[3,4]),(8,[6]),(9,[8,9])]) ?_
    simp[go_sem]
   ·omega
   ·intro k hk
    have hcs:k=0∨k=1∨k=2∨k=3∨k=4∨k=5:=by omega
    rcases hcs with rfl|rfl|rfl|rfl|rfl|rfl
    ·show AWP Tryz.prog X _ _ ⟨mkE (eB0 0),(hA0 v [.ow 5,.ow 7,.ow 6,.ow 8,.ow 9] [false,false,false,false,false] [[0],[1,2,5,7],[3,4],[6],[8,9]])⟩
     (repeat(refine yB ?_;(simp[go_sem])))
     refine yT ?_
     (repeat(refine yB ?_;(simp[go_sem])))
     (repeat refine⟨by first|omega|(rw[bA];omega)|kernel_rfl|grind,?_⟩)
     refine⟨1,by omega,by omega,?_⟩
     show Ab.Sub X ⟨mkE (eB0 1),(hA0 v [.ow 5,.ow 7,.ow 6,.ow 8,.ow 9] [true,false,false,false,false] [[0],[1,2,5,7],[3,4],[6],[8,9]])⟩ _
     refine yS _ (sA0 v 0 1 2 3 4 [.ow 5,.ow 7,.ow 6,.ow 8,.ow 9] [true,false,false,false,false] [(5,[0]),(6,[1,2,5,7]),(7,[3,4]),(8,[6]),(9,[8,9])]) ?_
     simp[go_sem]
     decide
    ·show AWP Tryz.prog X _ _ ⟨mkE (eB0 1),(hA0 v [.ow 5,.ow 7,.ow 6,.ow 8,.ow 9] [true,false,false,false,false] [[0],[1,2,5,7],[3,4],[6],[8,9]])⟩
     (repeat(refine yB ?_;(simp[go_sem])))
     refine yT ?_
     (repeat(refine yB ?_;(simp[go_sem])))
     (repeat refine⟨by first|omega|(rw[bA];omega)|kernel_rfl|grind,?_⟩)
     refine⟨2,by omega,by omega,?_⟩
     show Ab.Sub X ⟨mkE (eB0 2),(hA0 v [.ow 5,.ow 7,.ow 6,.ow 8,.ow 9] [true,true,false,false,false] [[0],[1,2,5,7],[3,4],[6],[8,9]])⟩ _
     refine yS _ (sA0 v 0 1 2 3 4 [.ow 5,.ow 7,.ow 6,.ow 8,.ow 9] [true,true,false,false,false] [(5,[0]),(6,[1,2,5,7]),(7,[3,4]),(8,[6]),(9,[8,9])]) ?_
     simp[go_sem]
     decide
    ·show AWP Tryz.prog X _ _ ⟨mkE (eB0 2),(hA0 v [.ow 5,.ow 7,.ow 6,.ow 8,.ow 9] [true,true,false,false,false] [[0],[1,2,5,7],[3,4],[6],[8,9]])⟩
     (repeat(refine yB ?_;(simp[go_sem])))
     refine yT ?_
     (repeat(refine yB ?_;(simp[go_sem])))
     (repeat refine⟨by first|omega|(rw[bA];omega)|kernel_rfl|grind,?_⟩)
     refine⟨3,by omega,by omega,?_⟩
     show Ab.Sub X ⟨mkE (eB0 3),(hA0 v [.ow 5,.ow 7,.ow 6,.ow 8,.ow 9] [true,true,true,false,false] [[0],[1,2,5,7],[3,4],[6],[8,9]])⟩ _
     refine yS _ (sA0 v 0 1 2 3 4 [.ow 5,.ow 7,.ow 6,.ow 8,.ow 9] [true,true,true,false,false] [(5,[0]),(6,[1,2,5,7]),(7,[3,4]),(8,[6]),(9,[8,9])]) ?_
     simp[go_sem]
     decide
    ·show AWP Tryz.prog X _ _ ⟨mkE (eB0 3),(hA0 v [.ow 5,.ow 7,.ow 6,.ow 8,.ow 9] [true,true,true,false,false] [[0],[1,2,5,7],[3,4],[6],[8,9]])⟩
     (repeat(refine yB ?_;(simp[go_sem])))
     refine yT ?_
     (repeat(refine yB ?_;(simp[go_sem])))
     (repeat refine⟨by first|omega|(rw[bA];omega)|kernel_rfl|grind,?_⟩)
     refine⟨4,by omega,by omega,?_⟩
     show Ab.Sub X ⟨mkE (eB0 4),(hA0 v [.ow 5,.ow 7,.ow 6,.ow 8,.ow 9] [true,true,true,true,false] [[0],[1,2,5,7],[3,4],[6],[8,9]])⟩ _
     refine yS _ (sA0 v 0 1 2 3 4 [.ow 5,.ow 7,.ow 6,.ow 8,.ow 9] [true,true,true,true,false] [(5,[0]),(6,[1,2,5,7]),(7,[3,4]),(8,[6]),(9,[8,9])]) ?_
     simp[go_sem]
     decide
    ·show AWP Tryz.prog X _ _ ⟨mkE (eB0 4),(hA0 v [.ow 5,.ow 7,.ow 6,.ow 8,.ow 9] [true,true,true,true,false] [[0],[1,2,5,7],[3,4],[6],[8,9]])⟩
     (repeat(refine yB ?_;(simp[go_sem])))
     refine yT ?_
     (repeat(refine yB ?_;(simp[go_sem])))
     (repeat refine⟨by first|omega|(rw[bA];omega)|kernel_rfl|grind,?_⟩)
     refine⟨5,by omega,by omega,?_⟩
     show Ab.Sub X ⟨mkE (eB0 5),(hA0 v [.ow 5,.ow 7,.ow 6,.ow 8,.ow 9] [true,true,true,true,true] [[0],[1,2,5,7],[3,4],[6],[8,9]])⟩ _
     refine yS _ (sA0 v 0 1 2 3 4 [.ow 5,.ow 7,.ow 6,.ow 8,.ow 9] [true,true,true,true,true] [(5,[0]),(6,[1,2,5,7]),(7,[3,4]),(8,[6]),(9,[8,9])]) ?_
     simp[go_sem]
     decide
    ·show AWP Tryz.prog X _ _ ⟨mkE (eB0 5),(hA0 v [.ow 5,.ow 7,.ow 6,.ow 8,.ow 9] [true,true,true,true,true] [[0],[1,2,5,7],[3,4],[6],[8,9]])⟩
     (repeat(refine yB ?_;(simp[go_sem])))
     refine yF ?_
     (repeat(refine yB ?_;(simp[go_sem])))
     refine bB (st0:=⟨mkE [(6,.el 0 5 0 0)],hA0 v [il [0],il [3,4],il [1,2,5,7],il [6],il [8,9]] [true,true,true,true,true] []⟩) ?_ ?_
     ·refine yS _ (sA0 v 0 1 2 3 4 [il [0],il [3,4],il [1,2,5,7],il [6],il [8,9]] [true,true,true,true,true] []) ?_
      simp[go_sem]
     ·refine aB ?_;refine aA [(6,.el 0 5 0 0)] [.old 0 ⟨137,5,[.agg [.sl (cY0 v),.sl [il [0],il [3,4],il [1,2,5,7],il [6],il [8,9]],.ow 1,.ow 2,.ow 3]]⟩,.old 2 oV0,.old 3 oY0,.old 4 (oK0 [true,true,true,true,true])] ?_
      simp[go_sem]
theorem rT(n0 n1 n2 n3 n4 n5 n6 n7 n8 n9:Int):MeansH Tryz.prog 53 [] [.sl (([⟨2,0,n0⟩,⟨0,2,n1⟩,⟨1,2,n2⟩,⟨2,1,n3⟩,⟨0,1,n4⟩,⟨3,2,n5⟩,⟨2,3,n6⟩,⟨4,2,n7⟩,⟨2,4,n8⟩,⟨3,4,n9⟩]:List Cn).map cn),ii 5,il [0,1,2,3,4]] (.el 0 5 0 0)
  [.row ⟨137,5,[.agg [.sl (([⟨2,0,n0⟩,⟨0,2,n1⟩,⟨1,2,n2⟩,⟨2,1,n3⟩,⟨0,1,n4⟩,⟨3,2,n5⟩,⟨2,3,n6⟩,⟨4,2,n7⟩,⟨2,4,n8⟩,⟨3,4,n9⟩]:List Cn).map cn),.sl [il [0],il [3,4],il [1,2,5,7],il [6],il [8,9]],.ow 1,.ow 2,.ow 3]]⟩,.row ⟨3,1,([0,0,0,0,0]:List Int).map ii⟩,.row ⟨3,1,([-1,-1,-1,-1,-1]:List Int).map ii⟩,.row ⟨4,1,[bb true,bb true,bb true,bb true,bb true]⟩]:=
 rS fun|0=>n0|1=>n1|2=>n2|3=>n3|4=>n4|5=>n5|6=>n6|7=>n7|8=>n8|_=>n9
end Go.Proofs.YtllgjognpobnpaaGreatDoor

namespace Go.Proofs.YtllgjognpobnpaaGreatDoor
abbrev RS:=List Int×List Int×List Int
def rlx(C:List Cn)(v:Int)(s:RS)(i:Int):RS:=
 if s.1.getD v.toNat 0+(C.getD i.toNat ⟨0,0,0⟩).n<s.1.getD (C.getD i.toNat ⟨0,0,0⟩).a.toNat 0 then
  (s.1.set (C.getD i.toNat ⟨0,0,0⟩).a.toNat (s.1.getD v.toNat 0+(C.getD i.toNat ⟨0,0,0⟩).n),s.2.1.set (C.getD i.toNat ⟨0,0,0⟩).a.toNat i,s.2.2++[(C.getD i.toNat ⟨0,0,0⟩).a])else s
def rlxV(C:List Cn)(F:List (List Int))(s:RS)(v:Int):RS:=(F.getD v.toNat []).foldl (rlx C v) s
def rnd(C:List Cn)(F:List (List Int))(s:RS)(todo:List Int):RS:=todo.foldl (rlxV C F) s
def ddL(Y:List Int):List Int:=ddN Y Y.length
def runM(C:List Cn)(F:List (List Int)):Nat→List Int→List Int→List Int→Int×List Int×List Int
 |0,V,Y,todo=>(todo.getD 0 0,V,Y)
 |k+1,V,Y,todo=>if(rnd C F (V,Y,[]) todo).2.2=[]then(-1,(rnd C F (V,Y,[]) todo).1,(rnd C F (V,Y,[]) todo).2.1)
  else runM C F k (rnd C F (V,Y,[]) todo).1 (rnd C F (V,Y,[]) todo).2.1 (ddL (sortS (rnd C F (V,Y,[]) todo).2.2))
def cntF(F:List (List Int))(todo:List Int):Nat:=(todo.map fun v=>(F.getD v.toNat []).length).sum
def Todo(l:List Int):Prop:=l.Pairwise (· < ·)∧∀v∈l,0≤v∧v<5
structure WF(C:List Cn)(F:List (List Int)):Prop where
 F5:F.length=5
 C10:C.length≤2000
 ca:∀c∈C,0≤c.a∧c.a<5
 cn:∀c∈C,-2000≤c.n∧c.n≤2000
 fi:∀l∈F,∀i∈l,0≤i∧i<C.length
 tot:∀l,Todo l→cntF F l≤12
structure Gd(s:RS)(b m:Nat):Prop where
 lv:s.1.length=5
 ly:s.2.1.length=5
 bd:∀x∈s.1,-(b:Int)≤x∧x≤0
 ln:s.2.2.length≤m
 nx:∀x∈s.2.2,0≤x∧x<5
theorem d8{l:List Int}{n:Nat}(h:n<l.length):l.getD n 0∈l:=by rw[gD h];exact List.getElem_mem h
theorem cD{C:List Cn}{n:Nat}(h:n<C.length):C.getD n ⟨0,0,0⟩=C[n]:=by rw[List.getD_eq_getElem?_getD,List.getElem?_eq_getElem h];rfl
theorem GU{C:List Cn}{F:List (List Int)}(hw:WF C F){s:RS}{b m:Nat}(h:Gd s b m){v i:Int}(hv:0≤v∧v<5)(hi:0≤i∧i<C.length):Gd (rlx C v s i) (b+2000) (m+1):=by
 have hil:i.toNat<C.length:=by omega
 have hc:C.getD i.toNat ⟨0,0,0⟩∈C:=by rw[cD hil];exact List.getElem_mem hil
 unfold rlx
 generalize C.getD i.toNat ⟨0,0,0⟩=c at hc
 have h1:=hw.ca c hc
 have h2:=hw.cn c hc
 have hV:=h.bd _ (d8 (l:=s.1) (n:=v.toNat) (by rw[h.lv];omega))
 have hA:=h.bd _ (d8 (l:=s.1) (n:=c.a.toNat) (by rw[h.lv];omega))
 split
 ·refine⟨by simp[h.lv],by simp[h.ly],fun x hx=>?_,by simp;exact h.ln,fun x hx=>?_⟩
  ·rcases List.mem_or_eq_of_mem_set hx with hx|rfl
   ·have:=h.bd x hx;omega
   ·omega
  ·rcases List.mem_append.1 hx with hx|hx
   ·exact h.nx x hx
   ·simp only[List.mem_singleton]at hx;subst hx;exact h1
 ·exact⟨h.lv,h.ly,fun x hx=>by have:=h.bd x hx;omega,by have:=h.ln;omega,h.nx⟩
theorem AO{F:List (List Int)}{todo:List Int}{t:Nat}(h:t<todo.length):cntF F (todo.take (t+1))=cntF F (todo.take t)+(F.getD todo[t].toNat []).length:=by
 unfold cntF
 rw[List.take_succ_eq_append_getElem h,List.map_append,List.sum_append]
 simp
theorem AP{F:List (List Int)}{todo:List Int}(t:Nat):cntF F (todo.take t)≤cntF F todo:=by
 unfold cntF
 conv=>rhs;rw[←List.take_append_drop t todo]
 rw[List.map_append,List.sum_append]
 omega
theorem AQ{C:List Cn}{F:List (List Int)}{s:RS}{todo:List Int}{t:Nat}(h:t<todo.length):rnd C F s (todo.take (t+1))=rlxV C F (rnd C F s (todo.take t)) todo[t]:=by
 unfold rnd
 rw[List.take_succ_eq_append_getElem h,List.foldl_append];rfl
theorem y0{C:List Cn}{v:Int}{s:RS}{l:List Int}{q:Nat}(h:q<l.length):(l.take (q+1)).foldl (rlx C v) s=rlx C v ((l.take q).foldl (rlx C v) s) l[q]:=by
 rw[List.take_succ_eq_append_getElem h,List.foldl_append];rfl
theorem oF{l:List Int}(h:∀x∈l,0≤x∧x<5):Todo (ddL (sortS l)):=by
 refine⟨lY (iY l) (Nat.le_refl _),fun v hv=>?_⟩
 have hv:=(gN (Nat.le_refl _) v).1 hv
 rw[List.take_length]at hv
 exact h v ((eL l).mem_iff.1 hv)
end Go.Proofs.YtllgjognpobnpaaGreatDoor

