/-
  Lemmas for the statement at the top.
-/
import Derived.Test.YtdcidannegcaoaaGreatDoorGP6
import Derived.Test.YtdcidannegcaoaaGreatDoorGP12
import Derived.Test.YtdcidannegcaoaaGreatDoorGP13
set_option linter.all false
namespace Go.Ab
def q11x0:List Nat:=[0,1,2,3,4,5,6,9,12,13,14,15,17,18,19,20,21,22,42,70,78,88]
attribute [go_sem] q11x0
end Go.Ab
namespace Go.Proofs.YtdcidannegcaoaaGreatDoor
open Go.RowKit Go.Ab
attribute [local irreducible] AWP Go.Ab.Sub Means MeansH CallK CallG CallT CallGT PanicH PanicX DefH CallU
structure Pd where
 mark:Int
 who:Int
 per:Int
 day:Int
 n:Int
 deriving DecidableEq
abbrev pdv(p:Pd):AV:=.agg [ii p.mark,ii p.who,ii p.per,ii p.day,ii p.n]
@[go_sem] theorem xD{L:List Pd}{k:Nat}(h:k<L.length):nth (L.map pdv) k=pdv L[k]:=bF pdv h
abbrev cirP(b:Bl)(f n k j d:Int)(P:List Pd):AV:=.agg [ii b.kind,ii b.period,ii b.grace,ii b.wait,ii b.last,ii b.order,bb b.sld,ii b.backs,ii b.voices,ii b.jury,ii b.fund,.sl (b.lets.map lt),ii b.due.op,ii b.due.n,ii b.due.u,ss b.due.s,.sl b.due.args,ii b.fine.op,ii b.fine.n,ii b.fine.u,ss b.fine.s,.sl b.fine.args,ii b.pay.op,ii b.pay.n,ii b.pay.u,ss b.pay.s,.sl b.pay.args,ii b.cover.op,ii b.cover.n,ii b.cover.u,ss b.cover.s,.sl b.cover.args,ii b.hold.op,ii b.hold.n,ii b.hold.u,ss b.hold.s,.sl b.hold.args,ii f,ii n,ii k,ii j,.sl [],ii 0,ii 0,.sl (P.map pdv),ii d]
theorem FO(b:Bl)(f n k j d:Int)(P:List Pd)(p age late:Int):Means true Tryz.prog 115 [cirP b f n k j d P,ii p,ii age,ii late] (.sl ((varV b n p age late).map v3)):=by
 refine yM true 23 [.tmp 8] [0,1,2,3,4,8] Tryz.func115 fun X hX=>?_
 (repeat(refine yA ?_;(simp[go_sem])))
 rfl
set_option maxRecDepth 20000 in
theorem xE(b:Bl)(h:OkB b)(f n k j d:Int)(P:List Pd)(p age late:Int)(hn:fits n)(hp:fits p)(ha:fits age)(hl:fits late)(s:By)(e:E)(hs:clE b s=some e):
  ∃v err,0≤v∧(err=0→v≤1099511627776)∧Means true Tryz.prog 72 [cirP b f n k j d P,ss s,ii p,ii age,ii late] (.tup [ii v,ii err]):=by
 have c1:=FO b f n k j d P p age late
 have hla:=h.last
 have hall:∀x∈varV b n p age late,-1099511627776≤x.2.2∧x.2.2≤1099511627776:=by
  unfold fits at*
  intro x hx
  simp only[varV,List.mem_cons,List.not_mem_nil,or_false]at hx
  rcases hx with rfl|rfl|rfl|rfl|rfl
  ·exact hn
  ·exact hp
  ·constructor<;>simp only<;>omega
  ·exact ha
  ·exact hl
 obtain⟨v,err,hv,c2⟩:=zY b h s e hs (varS b n p age late s) ⟨by unfold varS;split<;>simp[varV],fun x hx=>by
  refine hall x ?_
  unfold varS at hx
  split at hx
  ·exact List.mem_of_mem_take hx
  ·exact hx⟩
 refine⟨max v 0,err,by omega,fun he=>by have:=hv he;unfold bnd at this;omega,?_⟩
 have hlen:(varV b n p age late).length=5:=rfl
 have hd:s=[100,117,101]∨s=[102,105,110,101]:=by
  unfold clE at hs
  split at hs
  ·exact .inl (by assumption)
  ·split at hs
   ·exact .inr (by assumption)
   ·cases hs
 clear hs hv
 rcases hd with rfl|rfl
 ·have e1:varS b n p age late [100,117,101]=(varV b n p age late).take 4:=rfl
  rw[e1,List.map_take]at c2
  generalize varV b n p age late=V at*
  refine yM true 35 [.tmp 10,.tmp 11] [0,1,2,3,4,5,10,11,12,13,14,21] Tryz.func72 fun X hX=>?_
  (repeat(refine yA ?_;(simp[go_sem])))
  refine aC c1 ?_
  simp[go_sem]
  (repeat(refine yA ?_;(simp[go_sem,hlen])));(repeat(refine aD ?_ ?_;(focus(simp[go_sem,hlen];done));(repeat(refine yA ?_;(simp[go_sem,hlen])))))
  refine And.intro (fun e x y z _ he=>by subst he;rfl) ?_
  (repeat(refine yA ?_;(simp[go_sem])))
  refine aC c2 ?_
  simp[go_sem]
  (repeat(refine yA ?_;(simp[go_sem])))
 ·have e1:varS b n p age late [102,105,110,101]=varV b n p age late:=rfl
  rw[e1]at c2
  generalize varV b n p age late=V at*
  refine yM true 35 [.tmp 10,.tmp 11] [0,1,2,3,4,5,10,11,12,13,14,21] Tryz.func72 fun X hX=>?_
  (repeat(refine yA ?_;(simp[go_sem])))
  refine aC c1 ?_
  simp[go_sem]
  (repeat(refine yA ?_;(simp[go_sem,hlen])));(repeat(refine aA ?_ ?_;(focus(simp[go_sem,hlen];done));(repeat(refine yA ?_;(simp[go_sem,hlen])))))
  refine aC c2 ?_
  simp[go_sem]
  (repeat(refine yA ?_;(simp[go_sem])))
end Go.Proofs.YtdcidannegcaoaaGreatDoor

namespace Go.Proofs.YtdcidannegcaoaaGreatDoor
open Go.RowKit Go.Ab
attribute [local irreducible] AWP Go.Ab.Sub Means MeansH CallK CallG CallT CallGT PanicH PanicX DefH CallU
structure Ow where
 who:Int
 per:Int
 due:Int
 paid:Int
 late:Int
 fine:Int
 deriving DecidableEq
abbrev oww(o:Ow):AV:=.agg [ii o.who,ii o.per,ii o.due,ii o.paid,ii o.late,ii o.fine]
@[go_sem] theorem xF{L:List Ow}{k:Nat}(h:k<L.length):nth (L.map oww) k=oww L[k]:=bF oww h
structure OkW(o:Ow):Prop where
 due:0≤o.due∧o.due≤1099511627776
 paid:0≤o.paid∧o.paid≤109951162777600
 fine:0≤o.fine∧o.fine≤1099511627776
def opD(o:Ow):Int:=max (o.due-o.paid) 0
def opF(o:Ow):Int:=max (o.fine-max (o.paid-o.due) 0) 0
theorem iG{o:Ow}(h:OkW o):(0≤opD o∧opD o≤1099511627776)∧0≤opF o∧opF o≤1099511627776:=by
 have h1:=h.due;have h2:=h.paid;have h3:=h.fine
 unfold opD opF
 omega
theorem HJ(o:Ow)(h:OkW o):Means true Tryz.prog 31 [oww o] (.tup [ii (opD o),ii (opF o)]):=by
 have h1:=h.due;have h2:=h.paid;have h3:=h.fine
 have w1:=w64 (x:=o.due-o.paid) (by omega) (by omega)
 have w2:=w64 (x:=o.paid-o.due) (by omega) (by omega)
 have w3:=w64 (x:=o.fine-max (o.paid-o.due) 0) (by omega) (by omega)
 unfold opD opF
 refine yM true 20 [.tmp 2,.tmp 3] [0,1,2,3] Tryz.func31 fun X hX=>?_
 (repeat(refine yA ?_;(simp[go_sem,w1,w2,w3];try(refine⟨by kernel_rfl,?_⟩))))
def sumD(L:List Ow):Int:=(L.map opD).sum
def sumF(L:List Ow):Int:=(L.map opF).sum
theorem gX{g:Ow→Int}{L:List Ow}(h:∀o∈L,0≤g o∧g o≤1099511627776):0≤(L.map g).sum∧(L.map g).sum≤1099511627776*L.length:=by
 induction L with
 |nil=>simp
 |cons a L ih=>
  have h1:=h a (by simp)
  have h2:=ih fun o ho=>h o (by simp[ho])
  simp only[List.map_cons,List.sum_cons,List.length_cons]
  omega
theorem oU{g:Ow→Int}{L:List Ow}{n:Nat}(h:n<L.length):((L.take (n+1)).map g).sum=((L.take n).map g).sum+g L[n]:=by
 rw[List.take_succ_eq_append_getElem h,List.map_append,List.sum_append]
 simp only[List.map_cons,List.map_nil,List.sum_cons,List.sum_nil,Int.add_zero]
set_option maxHeartbeats 4000000 in
theorem FE(L:List Ow)(hL:L.length≤1000)(h:∀o∈L,OkW o):Means true Tryz.prog 10 [.sl (L.map oww)] (.tup [ii (sumD L),ii (sumF L)]):=by
 refine yM true 30 [.tmp 2,.tmp 3] [0,2,3,4,5,7,8,9,10,11,12,13] Tryz.func10 fun X hX=>?_
 (repeat(refine yA ?_;(simp[go_sem])))
 refine aE (fun n:Nat=>⟨mkE [(4,ii (sumD (L.take n))),(5,ii (sumF (L.take n))),(10,.sl (L.map oww)),(11,ii L.length),(12,ii n)],[]⟩) (fun n=>n≤L.length) (fun n=>L.length-n) 0 ?_ ?_ ?_
 ·refine yS _ [] ?_
  simp[go_sem,sumD,sumF]
 ·exact Nat.zero_le _
 ·rintro n hn
  (repeat(refine yA ?_;(simp[go_sem])))
  refine yC (decide (n<L.length)) (fun hc=>?_) fun hc=>?_
  ·simp at hc
   have hq:=xF hc
   have ho:=h L[n] (List.getElem_mem hc)
   have c1:=HJ L[n] ho
   have b1:=iG ho
   have e1:sumD (L.take (n+1))=sumD (L.take n)+opD L[n]:=oU hc
   have e2:sumF (L.take (n+1))=sumF (L.take n)+opF L[n]:=oU hc
   have s1:=gX (g:=opD) (L:=L.take n) fun o ho=>(iG (h o (List.mem_of_mem_take ho))).1
   have s2:=gX (g:=opF) (L:=L.take n) fun o ho=>(iG (h o (List.mem_of_mem_take ho))).2
   have hl:(L.take n).length≤1000:=by simp;omega
   have wk:=w64 (x:=(n:Int)+1) (by omega) (by omega)
   have wd:=w64 (x:=sumD (L.take n)+opD L[n]) (by unfold sumD;omega) (by unfold sumD;omega)
   have wf:=w64 (x:=sumF (L.take n)+opF L[n]) (by unfold sumF;omega) (by unfold sumF;omega)
   (repeat(refine yA ?_;(simp[go_sem,hc,hq])))
   refine aC c1 ?_
   simp[go_sem]
   (repeat(refine yA ?_;(simp[go_sem,wd,wf,wk])))
   refine⟨n+1,by omega,by omega,?_⟩
   rw[e1,e2]
   refine yS _ [] ?_
   simp[go_sem]
  ·have hnn:n=L.length:=by simp at hc;omega
   subst hnn
   rw[List.take_of_length_le (Nat.le_refl _)]
   (repeat(refine yA ?_;(simp[go_sem])))
def stS(a:List Int×Int)(o:Ow):List Int×Int:=(a.1++[min a.2 (opD o+opF o)],a.2-min a.2 (opD o+opF o))
def stl(n:Int)(L:List Ow):List Int×Int:=L.foldl stS ([],n)
theorem wT(n:Int)(L:List Ow):(stl n L).1.length=L.length:=by
 unfold stl
 have:∀(L:List Ow) (a:List Int×Int),(L.foldl stS a).1.length=a.1.length+L.length:=by
  intro L
  induction L with
  |nil=>simp
  |cons o L ih=>intro a;rw[List.foldl_cons,ih];simp[stS];omega
 simpa using this L ([],n)
theorem F9(n:Int)(L:List Ow):(stl n L).1.sum+(stl n L).2=n:=by
 unfold stl
 have:∀(L:List Ow) (a:List Int×Int),(L.foldl stS a).1.sum+(L.foldl stS a).2=a.1.sum+a.2:=by
  intro L
  induction L with
  |nil=>simp
  |cons o L ih=>intro a;rw[List.foldl_cons,ih];simp[stS];omega
 simpa using this L ([],n)
theorem rX{n:Int}{L:List Ow}(hn:0≤n)(h:∀o∈L,OkW o):0≤(stl n L).2∧(stl n L).2≤n∧(stl n L).2≤max 0 (n-sumD L):=by
 unfold stl
 have:∀(L:List Ow) (a:List Int×Int),0≤a.2→(∀o∈L,OkW o)→0≤(L.foldl stS a).2∧(L.foldl stS a).2≤a.2∧(L.foldl stS a).2≤max 0 (a.2-sumD L):=by
  intro L
  induction L with
  |nil=>intro a ha _;simp[sumD];omega
  |cons o L ih=>
   intro a ha hL
   have b:=iG (hL o (by simp))
   have hs:0≤(stS a o).2:=by simp only[stS];omega
   have k:=ih (stS a o) hs fun x hx=>hL x (by simp[hx])
   have s0:=(gX (g:=opD) (L:=L) fun o ho=>(iG (hL o (by simp[ho]))).1).1
   have e:sumD (o::L)=opD o+sumD L:=by simp[sumD]
   have e2:(stS a o).2=a.2-min a.2 (opD o+opF o):=rfl
   rw[List.foldl_cons,e]
   have s0:0≤sumD L:=s0
   omega
 exact this L ([],n) hn h
set_option maxHeartbeats 4000000 in
theorem C4(L:List Ow)(n:Int)(hn:0≤n∧n≤9000000000000000)(hL:L.length≤1000)(h:∀o∈L,OkW o):Means false Tryz.prog 13 [.sl (L.map oww),ii n] (.tup [il (stl n L).1,ii (stl n L).2]):=by
 have hm:max n 0=n:=by omega
 refine yM false 40 [.tmp 4,.tmp 5] [0,1,4,5,6,8,9,10,11,14,15,16,17] Tryz.func13 fun X hX=>?_
 (repeat(refine yA ?_;(simp[go_sem,hm])))
 refine aE (fun k:Nat=>⟨mkE [(1,ii (stl n (L.take k)).2),(6,.ow 0),(14,.sl (L.map oww)),(15,ii L.length),(16,ii k)],[.row ⟨3,1,(stl n (L.take k)).1.map ii⟩]⟩) (fun k=>k≤L.length) (fun k=>L.length-k) 0 ?_ ?_ ?_
 ·refine yS _ [.birth 3 1] ?_ (by simp[go_sem,stl])
  simp[go_sem,stl]
 ·exact Nat.zero_le _
 ·rintro k hk
  have hll:(stl n (L.take k)).1.length=k:=by rw[wT];simp;omega
  (repeat(refine yA ?_;(simp[go_sem])))
  refine yC (decide (k<L.length)) (fun hc=>?_) fun hc=>?_
  ·simp at hc
   have hq:=xF hc
   have ho:=h L[k] (List.getElem_mem hc)
   have c1:=HJ L[k] ho
   have b1:=iG ho
   have e1:stl n (L.take (k+1))=stS (stl n (L.take k)) L[k]:=by
    unfold stl
    rw[List.take_succ_eq_append_getElem hc,List.foldl_append]
    rfl
   have br:=rX (L:=L.take k) hn.1 fun o ho=>h o (List.mem_of_mem_take ho)
   have wk:=w64 (x:=(k:Int)+1) (by omega) (by omega)
   unfold stS at e1
   generalize(stl n (L.take k)).1=D at*
   generalize(stl n (L.take k)).2=r at*
   have w1:=w64 (x:=opD L[k]+opF L[k]) (by omega) (by omega)
   have w2:=w64 (x:=r-min r (opD L[k]+opF L[k])) (by omega) (by omega)
   (repeat(refine yA ?_;(simp[go_sem,hc,hq])))
   refine aC c1 ?_
   simp[go_sem]
   (repeat(refine yA ?_;(simp[go_sem,w1,w2,wk,hll])))
   (repeat refine⟨by first|omega|(rw[bH];omega)|kernel_rfl|grind,?_⟩)
   (repeat(refine yA ?_;(simp[go_sem,wk,hll];(try simp(disch:=omega) only[w64,td,tm]))))
   refine⟨k+1,by omega,by omega,?_⟩
   rw[e1]
   refine yS _ [.old 3 ⟨3,1,(D++[min r (opD L[k]+opF L[k])]).map ii⟩] ?_
   simp[go_sem]
  ·have hnn:k=L.length:=by simp at hc;omega
   subst hnn
   rw[List.take_of_length_le (Nat.le_refl _)]
   (repeat(refine yA ?_;(simp[go_sem])))
end Go.Proofs.YtdcidannegcaoaaGreatDoor

namespace Go.Proofs.YtdcidannegcaoaaGreatDoor
open Go.RowKit Go.Ab
attribute [local irreducible] AWP Go.Ab.Sub Means MeansH MeansE CallK CallG CallT CallGT PanicH PanicX DefH CallU
def sh(L L':List Pd):Prop:=L'.length=L.length∧∀x∈L',x∈L
theorem fT(L:List Pd):sh L L:=⟨rfl,fun _ h=>h⟩
theorem cW{A B C:List Pd}(h1:sh A B)(h2:sh B C):sh A C:=⟨h2.1.trans h1.1,fun x hx=>h1.2 x (h2.2 x hx)⟩
theorem qO{L D:List Pd}{p q:Nat}(h:sh L D)(hp:p<D.length)(hq:q<D.length):sh L ((D.set p D[q]).set q D[p]):=by
 refine cW h ⟨by simp,fun x hx=>?_⟩
 rcases List.mem_or_eq_of_mem_set hx with hx|rfl
 ·rcases List.mem_or_eq_of_mem_set hx with hx|rfl
  ·exact hx
  ·exact List.getElem_mem _
 ·exact List.getElem_mem _
def okP(L:List Pd):Prop:=L.length≤1000∧∀x∈L,0≤x.day∧x.day≤1048576
theorem kN{L D:List Pd}(h:okP L)(hs:sh L D):okP D:=⟨by rw[hs.1];exact h.1,fun x hx=>h.2 x (hs.2 x hx)⟩
theorem qP(D:List Pd)(p q:Nat)(x y:Pd):zoneEs (((D.map pdv).set p (pdv x)).set q (pdv y))=true:=by
 rw[←List.map_set,←List.map_set];exact cZ _ _ (fun _=>rfl)
abbrev rowP(L:List Pd):Cell:=.row ⟨184,5,L.map pdv⟩
abbrev shS(L:List Pd):AV→List Cell→Prop:=fun r H=>r=.tup []∧∃D,sh L D∧H=[rowP D]
theorem IF(x y:Pd)(hx:0≤x.day∧x.day≤1048576)(hy:0≤y.day∧y.day≤1048576):Means true Tryz.prog 118 [pdv x,pdv y] (ii (x.day-y.day)):=by
 have w:=w64 (x:=x.day-y.day) (by omega) (by omega)
 refine yM true 10 [.tmp 4] [0,1,2,3,4] Tryz.func118 fun X hX=>?_
 (repeat(refine yA ?_;(simp[go_sem,w])))
theorem qQ{D:List Pd}(h:okP D){p q:Nat}(hp:p<D.length)(hq:q<D.length):Means true Tryz.prog 118 [pdv D[p],pdv D[q]] (ii (D[p].day-D[q].day)):=
 IF _ _ (h.2 _ (List.getElem_mem _)) (h.2 _ (List.getElem_mem _))
set_option maxHeartbeats 4000000 in
set_option maxRecDepth 20000 in
theorem CO(L:List Pd)(hok:okP L)(a b:Nat)(ha:a≤L.length)(hb:b≤L.length):MeansE Tryz.prog 173 [rowP L] [.ow 0,ii a,ii b,rcl] (shS L):=by
 have hL:=hok.1
 have hw1:=w64 (x:=(a:Int)+1) (by omega) (by omega)
 refine yE 1 53 [] [0,1,2,3,8,9,14,34,1000000] Tryz.func173 fun X hX=>?_
 (repeat(refine yB ?_;(simp[go_sem,hw1])))
 refine aE (fun z:Nat×List Pd=>⟨mkE [(0,.ow 0),(1,ii a),(2,ii b),(3,rcl),(8,ii z.1),(1000000,.ow 0)],[rowP z.2]⟩) (fun z=>a<z.1∧z.1≤a+b+1∧sh L z.2) (fun z=>b-z.1) (a+1,L) ?_ ?_ ?_
 ·refine yS _ [.old 0 ⟨184,5,L.map pdv⟩] ?_
  simp[go_sem]
 ·exact⟨by simp,by simp only[];omega,fT L⟩
 ·rintro⟨i,D⟩ ⟨h1,h2,h3⟩
  simp only[]at h1 h2 h3
  have hDl:=h3.1
  (repeat(refine yB ?_;(simp[go_sem];(try simp(disch:=omega) only[w64,td,tm]))))
  refine yC (decide (i<b)) (fun hc=>?_) (fun hc=>?_) (by simp[go_sem];try omega)
  ·simp at hc
   (repeat(refine yB ?_;(simp[go_sem])))
   refine aE (fun z:Nat×List Pd=>⟨mkE [(0,.ow 0),(1,ii a),(2,ii b),(3,rcl),(8,ii i),(9,ii z.1),(1000000,.ow 0)],[rowP z.2]⟩) (fun z=>a≤z.1∧z.1≤i∧sh L z.2) (fun z=>z.1) (i,D) ?_ ?_ ?_
   ·refine yS _ [.old 0 ⟨184,5,D.map pdv⟩] ?_
    simp[go_sem]
   ·exact⟨by simp;omega,by simp,h3⟩
   ·rintro⟨j,E⟩ ⟨g1,g2,g3⟩
    simp only[]at g1 g2 g3
    have hEl:=g3.1
    have hj:j<E.length:=by omega
    rcases Nat.eq_or_lt_of_le g1 with hja|hja
    ·subst hja
     obtain⟨q,hql,hqe⟩:∃q,q<E.length∧(IntKind.i64.wrap ((a:Int)-1)).toNat=q:=⟨a-1,by omega,by rw[w64 (by omega) (by omega)];omega⟩
     (repeat(refine yB ?_;(simp[go_sem,hj,hql,hqe])))
     refine dB rfl ?_
     (simp[go_sem];try(refine⟨by kernel_rfl,?_⟩))
     refine yF ?_
     (repeat(refine yB ?_;(simp[go_sem];(try simp(disch:=omega) only[w64,td,tm]))))
     refine⟨i+1,E,⟨by omega,by omega,g3⟩,by omega,?_⟩
     refine yS _ [.old 0 ⟨184,5,E.map pdv⟩] ?_
     simp[go_sem]
    ·obtain⟨p,rfl⟩:∃p,j=p+1:=⟨j-1,by omega⟩
     have hp:p<E.length:=by omega
     have hwp:=w64 (x:=(p:Int)) (by omega) (by omega)
     have ht1:((p:Int)+1).toNat=p+1:=by omega
     have hgt:(a:Int)<(p:Int)+1:=by omega
     have hgt2:a<p+1:=by omega
     have hcm:=qQ (kN hok g3) hj hp
     have h2:=qO g3 hj hp
     have hns:nth ((E.map pdv).set (p+1) (pdv E[p])) p=pdv E[p]:=by
      rw[←List.map_set,bF pdv (by simpa using hp),List.getElem_set_ne (by omega)]
     generalize hx:E[p]=x at*
     generalize hy:E[p+1]=y at*
     (repeat(refine yB ?_;(simp[go_sem,hj,hp,ht1,hwp,hgt,hgt2,hx,hy])))
     (repeat refine⟨by first|omega|(rw[bH];omega)|kernel_rfl|grind,?_⟩)
     refine eI (fun hg=>hcm) ?_
     (simp[go_sem,hj,hp,ht1,hwp,hgt,hgt2,hx,hy];try(refine⟨by kernel_rfl,?_⟩))
     refine yC (decide (y.day<x.day)) (fun hd=>?_) (fun hd=>?_) (by simp[go_sem];try omega)
     ·simp only[decide_eq_true_eq]at hd
      (repeat(refine yB ?_;(simp[go_sem,hj,hp,ht1,hwp,hx,hy];(try simp(disch:=omega) only[w64,td,tm]))))
      (repeat refine⟨by first|omega|(rw[bH];omega)|kernel_rfl|grind,?_⟩)
      (repeat(refine yB ?_;(simp[go_sem,hj,hp,ht1,hwp,hx,hy];(try simp(disch:=omega) only[w64,td,tm]))))
      refine⟨p,(E.set (p+1) x).set p y,⟨by omega,by omega,h2⟩,by omega,?_⟩
      refine yS _ [.old 0 ⟨184,5,((E.set (p+1) x).set p y).map pdv⟩] ?_ (by simp[go_sem,hns,qP])
      simp[go_sem]
     ·simp only[decide_eq_false_iff_not]at hd
      (repeat(refine yB ?_;(simp[go_sem];(try simp(disch:=omega) only[w64,td,tm]))))
      refine⟨i+1,E,⟨by omega,by omega,g3⟩,by omega,?_⟩
      refine yS _ [.old 0 ⟨184,5,E.map pdv⟩] ?_
      simp[go_sem]
  ·simp at hc
   (repeat(refine yB ?_;(simp[go_sem])))
   refine⟨.tup [],[rowP D],⟨rfl,D,h3,rfl⟩,?_⟩;first|refine a8 [(1000000,.ow 0)] [.old 0 ⟨184,5,D.map pdv⟩] ?_|refine aJ [(1000000,.ow 0)] [.old 0 ⟨184,5,D.map pdv⟩] ?_
   simp[go_sem]
set_option maxHeartbeats 4000000 in
set_option maxRecDepth 20000 in
theorem uY(L:List Pd)(hok:okP L)(a b n:Nat)(ha:a+n≤L.length)(hb:b+n≤L.length):MeansE Tryz.prog 197 [rowP L] [.ow 0,ii a,ii b,ii n,rcl] (shS L):=by
 have hL:=hok.1
 refine yE 1 38 [] [0,1,2,3,10,13,1000000] Tryz.func197 fun X hX=>?_
 (repeat(refine yB ?_;(simp[go_sem];(try simp(disch:=omega) only[w64,td,tm]))))
 refine aE (fun z:Nat×List Pd=>⟨mkE [(0,.ow 0),(1,ii a),(2,ii b),(3,ii n),(10,ii z.1),(1000000,.ow 0)],[rowP z.2]⟩) (fun z=>z.1≤n∧sh L z.2) (fun z=>n-z.1) (0,L) ?_ ?_ ?_
 ·refine yS _ [.old 0 ⟨184,5,L.map pdv⟩] ?_
  simp[go_sem]
 ·exact⟨Nat.zero_le _,fT L⟩
 ·rintro⟨i,D⟩ ⟨h1,h3⟩
  simp only[]at h1 h3
  have hDl:=h3.1
  (repeat(refine yB ?_;(simp[go_sem])))
  refine yC (decide (i<n)) (fun hc=>?_) fun hc=>?_
  ·simp at hc
   obtain⟨p,hp⟩:∃p,a+i=p:=⟨_,rfl⟩
   obtain⟨q,hq⟩:∃q,b+i=q:=⟨_,rfl⟩
   have hp':(a:Int)+i=p:=by omega
   have hq':(b:Int)+i=q:=by omega
   have hpl:p<D.length:=by omega
   have hql:q<D.length:=by omega
   have hwp:=w64 (x:=(p:Int)) (by omega) (by omega)
   have hwq:=w64 (x:=(q:Int)) (by omega) (by omega)
   have hwi:=w64 (x:=(i:Int)+1) (by omega) (by omega)
   have h2:=qO h3 hpl hql
   have hns:nth ((D.map pdv).set p (pdv D[q])) q=pdv D[q]:=by
    rw[←List.map_set,bF pdv (by simpa using hql),List.getElem_set];split<;>simp_all
   generalize hx:D[p]=x at*
   generalize hy:D[q]=y at*
   (repeat(refine yB ?_;(simp[go_sem,hp',hq',hwp,hwq,hpl,hql,hx,hy];try(refine⟨by kernel_rfl,?_⟩))))
   (repeat refine And.intro (by first|omega|(rw[bH];omega)|kernel_rfl|grind) ?_)
   refine⟨i+1,(D.set p y).set q x,⟨by omega,h2⟩,by omega,?_⟩
   refine yS _ [.old 0 ⟨184,5,((D.set p y).set q x).map pdv⟩] ?_ (by simp[go_sem,hns,qP])
   simp[go_sem]
   omega
  ·simp at hc
   (repeat(refine yB ?_;(simp[go_sem])))
   refine⟨.tup [],[rowP D],⟨rfl,D,h3,rfl⟩,?_⟩;first|refine a8 [(1000000,.ow 0)] [.old 0 ⟨184,5,D.map pdv⟩] ?_|refine aJ [(1000000,.ow 0)] [.old 0 ⟨184,5,D.map pdv⟩] ?_
   simp[go_sem]
set_option maxHeartbeats 4000000 in
set_option maxRecDepth 20000 in
theorem II(L:List Pd)(hok:okP L)(a m b:Nat)(h1:a<m)(h2:m<b)(h3:b≤L.length):MeansE Tryz.prog 189 [rowP L] [.ow 0,ii a,ii m,ii b,rcl] (shS L):=by
 have hL:=hok.1
 obtain⟨u,hu⟩:∃u,a+u=m:=⟨m-a,by omega⟩
 obtain⟨v,hv⟩:∃v,m+v=b:=⟨b-m,by omega⟩
 have hi0:(m:Int)-a=u:=by omega
 have hj0:(b:Int)-m=v:=by omega
 have hwu:=w64 (x:=(u:Int)) (by omega) (by omega)
 have hwv:=w64 (x:=(v:Int)) (by omega) (by omega)
 refine yE 1 58 [] [0,1,2,3,4,10,11,20,23,1000000] Tryz.func189 fun X hX=>?_
 (repeat(refine yB ?_;(simp[go_sem,hi0,hj0,hwu,hwv])))
 refine aE (fun z:Nat×Nat×List Pd=>⟨mkE [(0,.ow 0),(2,ii m),(4,rcl),(10,ii z.1),(11,ii z.2.1),(1000000,.ow 0)],[rowP z.2.2]⟩)
  (fun z=>0<z.1∧0<z.2.1∧z.1≤u∧z.2.1≤v∧sh L z.2.2) (fun z=>z.1+z.2.1) (u,v,L) ?_ ?_ ?_
 ·refine yS _ [.old 0 ⟨184,5,L.map pdv⟩] ?_
  simp[go_sem]
 ·exact⟨by simp;omega,by simp;omega,Nat.le_refl _,Nat.le_refl _,fT L⟩
 ·rintro⟨i,j,D⟩ ⟨g1,g2,g3,g4,g5⟩
  simp only[]at g1 g2 g3 g4 g5
  have hDl:=g5.1
  have hokD:=kN hok g5
  obtain⟨p,hp⟩:∃p,p+i=m:=⟨m-i,by omega⟩
  have hmi:(m:Int)-i=p:=by omega
  have hwp:=w64 (x:=(p:Int)) (by omega) (by omega)
  (repeat(refine yB ?_;(simp[go_sem])))
  refine yC (decide (i≠j)) (fun hc=>?_) (fun hc=>?_) (by simp[go_sem];try omega)
  ·simp only[decide_eq_true_eq]at hc
   (repeat(refine yB ?_;(simp[go_sem])))
   refine yC (decide (j<i)) (fun hd=>?_) (fun hd=>?_) (by simp[go_sem];try omega)
   ·simp only[decide_eq_true_eq]at hd
    have hs:=uY D hokD p m j (by omega) (by omega)
    obtain⟨k,hk⟩:∃k,j+k=i:=⟨i-j,by omega⟩
    have hw1:IntKind.i64.wrap ((i:Int)-j)=(k:Int):=by rw[w64 (by omega) (by omega)];omega
    (repeat(refine yB ?_;(simp[go_sem,hmi,hwp])))
    refine yQ [0] hs ?_
    rintro _ _ ⟨rfl,E,hE,rfl⟩
    simp[go_sem,hw1]
    (repeat(refine yB ?_;(simp[go_sem,hw1])))
    refine⟨k,j,E,⟨by omega,g2,by omega,g4,cW g5 hE⟩,by first|omega|(simp only[];omega),?_⟩
    refine yS _ [.old 0 ⟨184,5,E.map pdv⟩] ?_
    simp[go_sem]
   ·simp only[decide_eq_false_iff_not]at hd
    obtain⟨k,hk⟩:∃k,i+k=j:=⟨j-i,by omega⟩
    obtain⟨q,hq⟩:∃q,m+k=q:=⟨_,rfl⟩
    have hs:=uY D hokD p q i (by omega) (by omega)
    have hw1:IntKind.i64.wrap (IntKind.i64.wrap ((m:Int)+j)-i)=(q:Int):=by rw[w64 (x:=(m:Int)+j) (by omega) (by omega),w64 (by omega) (by omega)];omega
    have hw2:IntKind.i64.wrap ((j:Int)-i)=(k:Int):=by rw[w64 (by omega) (by omega)];omega
    (repeat(refine yB ?_;(simp[go_sem,hmi,hwp,hw1])))
    refine yQ [0] hs ?_
    rintro _ _ ⟨rfl,E,hE,rfl⟩
    simp[go_sem,hw2]
    (repeat(refine yB ?_;(simp[go_sem,hw2])))
    refine⟨i,k,E,⟨g1,by omega,g3,by omega,cW g5 hE⟩,by first|omega|(simp only[];omega),?_⟩
    refine yS _ [.old 0 ⟨184,5,E.map pdv⟩] ?_
    simp[go_sem]
  ·simp only[decide_eq_false_iff_not,Classical.not_not]at hc
   subst hc
   have hs:=uY D hokD p m i (by omega) (by omega)
   (repeat(refine yB ?_;(simp[go_sem,hmi,hwp])))
   refine yQ [0] hs ?_
   rintro _ _ ⟨rfl,E,hE,rfl⟩
   simp[go_sem]
   refine⟨.tup [],[rowP E],⟨rfl,E,cW g5 hE,rfl⟩,?_⟩;first|refine a8 [(1000000,.ow 0)] [.old 0 ⟨184,5,E.map pdv⟩] ?_|refine aJ [(1000000,.ow 0)] [.old 0 ⟨184,5,E.map pdv⟩] ?_
   simp[go_sem]
end Go.Proofs.YtdcidannegcaoaaGreatDoor

namespace Go.Proofs.YtdcidannegcaoaaGreatDoor
open Go.RowKit Go.Ab
attribute [local irreducible] AWP Go.Ab.Sub Means MeansH MeansE CallK CallG CallT CallGT PanicH PanicX DefH CallU
theorem FP(x y:Nat)(h:x+y≤1000000):IntKind.i64.wrap ((IntKind.u64.wrap ((x:Int)+y)).fdiv 2)=(((x+y)/2:Nat):Int):=by
 have e:IntKind.u64.wrap ((x:Int)+y)=(x:Int)+y:=IntWalk.u64_in _ (by omega)
 rw[e,Int.fdiv_eq_ediv_of_nonneg _ (by omega),w64 (by omega) (by omega)];omega
set_option maxHeartbeats 4000000 in
set_option maxRecDepth 20000 in
theorem IJ(L:List Pd)(hok:okP L)(a m b:Nat)(h1:a+1=m)(h2:m<b)(h3:b≤L.length):MeansE Tryz.prog 174 [rowP L] [.ow 0,ii a,ii m,ii b,rcl] (shS L):=by
 have hL:=hok.1
 have hma:(m:Int)-a=1:=by omega
 refine yE 1 220 [] [0,1,2,3,4,10,11,12,13,14,15,16,17,18,19,20,21,22,23,24,28,33,50,58,80,85,103,110,140,151,171,185,199,213,1000000] Tryz.func174 fun X hX=>?_
 (repeat(refine yB ?_;(simp[go_sem,hma];(try simp(disch:=omega) only[w64,td,tm]))))
 simp[go_sem,hma]
 refine yT ?_
 (repeat(refine yB ?_;(simp[go_sem])))
 refine aE (fun z:Nat×Nat=>⟨mkE [(0,.ow 0),(1,ii a),(2,ii m),(3,ii b),(4,rcl),(10,ii z.1),(11,ii z.2),(1000000,.ow 0)],[rowP L]⟩)
  (fun z=>m≤z.1∧z.1≤z.2∧z.2≤b) (fun z=>z.2-z.1) (m,b) ?_ ?_ ?_
 ·refine yS _ [.old 0 ⟨184,5,L.map pdv⟩] ?_
  simp[go_sem]
 ·exact⟨Nat.le_refl _,by simp;omega,Nat.le_refl _⟩
 ·rintro⟨i,j⟩ ⟨g1,g2,g3⟩
  simp only[]at g1 g2 g3
  (repeat(refine yB ?_;(simp[go_sem])))
  refine yC (decide (i<j)) (fun hc=>?_) (fun hc=>?_) (by simp[go_sem];try omega)
  ·simp at hc
   obtain⟨h,hh⟩:∃h,(i+j)/2=h:=⟨_,rfl⟩
   have hwE:=w64 (x:=(i:Int)+j) (by omega) (by omega)
   have hP:IntKind.i64.wrap ((IntKind.u64.wrap ((i:Int)+j)).fdiv 2)=(h:Int):=by rw[FP i j (by omega),hh]
   have hl:h<L.length:=by omega
   have hal:a<L.length:=by omega
   have hw1:=w64 (x:=(h:Int)+1) (by omega) (by omega)
   have hcm:=qQ hok hl hal
   generalize hx:L[h]=x at*
   generalize hy:L[a]=y at*
   (repeat(refine yB ?_;(simp[go_sem,hwE,hP,hl,hal,hx,hy])))
   (repeat refine⟨by first|omega|(rw[bH];omega)|kernel_rfl|grind,?_⟩)
   refine fB hcm ?_
   (simp[go_sem,hwE,hP,hl,hal,hx,hy];try(refine⟨by kernel_rfl,?_⟩))
   refine yC (decide (x.day<y.day)) (fun hd=>?_) (fun hd=>?_) (by simp[go_sem];try omega)
   ·(repeat(refine yB ?_;(simp[go_sem,hw1];(try simp(disch:=omega) only[w64,td,tm]))))
    refine⟨h+1,j,⟨by omega,by omega,g3⟩,by omega,?_⟩
    refine yS _ [.old 0 ⟨184,5,L.map pdv⟩] ?_
    simp[go_sem]
   ·(repeat(refine yB ?_;(simp[go_sem];(try simp(disch:=omega) only[w64,td,tm]))))
    refine⟨i,h,⟨g1,by omega,by omega⟩,by omega,?_⟩
    refine yS _ [.old 0 ⟨184,5,L.map pdv⟩] ?_
    simp[go_sem]
  ·have hij:i=j:=by simp at hc;omega
   subst hij
   (repeat(refine yB ?_;(simp[go_sem])))
   refine aE (fun z:Nat×List Pd=>⟨mkE [(0,.ow 0),(10,ii i),(13,ii z.1),(1000000,.ow 0)],[rowP z.2]⟩) (fun z=>z.1≤b∧sh L z.2) (fun z=>b-z.1) (a,L) ?_ ?_ ?_
   ·refine yS _ [.old 0 ⟨184,5,L.map pdv⟩] ?_
    simp[go_sem]
   ·exact⟨by simp;omega,fT L⟩
   ·rintro⟨k,D⟩ ⟨g4,g5⟩
    simp only[]at g4 g5
    have hDl:=g5.1
    have hwm:=w64 (x:=(i:Int)-1) (by omega) (by omega)
    (repeat(refine yB ?_;(simp[go_sem,hwm];(try simp(disch:=omega) only[w64,td,tm]))))
    refine yC (decide (k+1<i)) (fun hd=>?_) (fun hd=>?_) (by simp[go_sem];try omega)
    ·simp at hd
     have hi1:k+1<D.length:=by omega
     have hi2:k<D.length:=by omega
     have ht1:((k:Int)+1).toNat=k+1:=by omega
     have hwp:=w64 (x:=(k:Int)) (by omega) (by omega)
     have hwp1:=w64 (x:=(k:Int)+1) (by omega) (by omega)
     have h6:=qO g5 hi2 hi1
     have hns:nth ((D.map pdv).set k (pdv D[k+1])) (k+1)=pdv D[k+1]:=by
      rw[←List.map_set,bF pdv (by simpa using hi1),List.getElem_set_ne (by omega)]
     generalize hx:D[k]=x at*
     generalize hy:D[k+1]=y at*
     (repeat(refine yB ?_;(simp[go_sem,hwp,hwp1,hi1,hi2,hx,hy,ht1])))
     (repeat refine⟨by first|omega|(rw[bH];omega)|kernel_rfl|grind,?_⟩)
     (repeat(refine yB ?_;(simp[go_sem,hwp,hwp1,hi1,hi2,hx,hy,ht1];(try simp(disch:=omega) only[w64,td,tm]))))
     refine⟨k+1,(D.set k y).set (k+1) x,⟨by omega,h6⟩,by omega,?_⟩
     refine yS _ [.old 0 ⟨184,5,((D.set k y).set (k+1) x).map pdv⟩] ?_ (by simp[go_sem,hns,qP])
     simp[go_sem]
    ·(repeat(refine yB ?_;(simp[go_sem])))
     refine aB ?_;simp only[thenQ,blkQ,loopQ];refine⟨.tup [],[rowP D],⟨rfl,D,g5,rfl⟩,?_⟩;first|refine a8 [(1000000,.ow 0)] [.old 0 ⟨184,5,D.map pdv⟩] ?_|refine aJ [(1000000,.ow 0)] [.old 0 ⟨184,5,D.map pdv⟩] ?_
     simp[go_sem]
set_option maxHeartbeats 4000000 in
set_option maxRecDepth 20000 in
theorem IK(L:List Pd)(hok:okP L)(a m b:Nat)(h1:a+1<m)(h2:m+1=b)(h3:b≤L.length):MeansE Tryz.prog 174 [rowP L] [.ow 0,ii a,ii m,ii b,rcl] (shS L):=by
 have hL:=hok.1
 obtain⟨u,hu⟩:∃u,a+u=m:=⟨m-a,by omega⟩
 have hma:(m:Int)-a=u:=by omega
 have hma2:¬(u:Int)=1:=by omega
 have hma3:¬u=1:=by omega
 have hbm:(b:Int)-m=1:=by omega
 refine yE 1 220 [] [0,1,2,3,4,10,11,12,13,14,15,16,17,18,19,20,21,22,23,24,28,33,50,58,80,85,103,110,140,151,171,185,199,213,1000000] Tryz.func174 fun X hX=>?_
 (repeat(refine yB ?_;(simp[go_sem,hma,hma2,hma3];(try simp(disch:=omega) only[w64,td,tm]))))
 simp[go_sem,hma,hma2,hma3]
 refine yF ?_ (by simp[go_sem,hma3];try omega)
 (repeat(refine yB ?_;(simp[go_sem,hbm];(try simp(disch:=omega) only[w64,td,tm]))))
 simp[go_sem,hbm]
 refine yT ?_
 (repeat(refine yB ?_;(simp[go_sem])))
 refine aE (fun z:Nat×Nat=>⟨mkE [(0,.ow 0),(1,ii a),(2,ii m),(3,ii b),(4,rcl),(14,ii z.1),(15,ii z.2),(1000000,.ow 0)],[rowP L]⟩)
  (fun z=>a≤z.1∧z.1≤z.2∧z.2≤m) (fun z=>z.2-z.1) (a,m) ?_ ?_ ?_
 ·refine yS _ [.old 0 ⟨184,5,L.map pdv⟩] ?_
  simp[go_sem]
 ·exact⟨Nat.le_refl _,by simp;omega,Nat.le_refl _⟩
 ·rintro⟨i,j⟩ ⟨g1,g2,g3⟩
  simp only[]at g1 g2 g3
  (repeat(refine yB ?_;(simp[go_sem])))
  refine yC (decide (i<j)) (fun hc=>?_) (fun hc=>?_) (by simp[go_sem];try omega)
  ·simp at hc
   obtain⟨h,hh⟩:∃h,(i+j)/2=h:=⟨_,rfl⟩
   have hwE:=w64 (x:=(i:Int)+j) (by omega) (by omega)
   have hP:IntKind.i64.wrap ((IntKind.u64.wrap ((i:Int)+j)).fdiv 2)=(h:Int):=by rw[FP i j (by omega),hh]
   have hl:h<L.length:=by omega
   have hml:m<L.length:=by omega
   have hw1:=w64 (x:=(h:Int)+1) (by omega) (by omega)
   have hcm:=qQ hok hml hl
   generalize hx:L[h]=x at*
   generalize hy:L[m]=y at*
   (repeat(refine yB ?_;(simp[go_sem,hwE,hP,hl,hml,hx,hy])))
   (repeat refine⟨by first|omega|(rw[bH];omega)|kernel_rfl|grind,?_⟩)
   refine fB hcm ?_
   (simp[go_sem,hwE,hP,hl,hml,hx,hy];try(refine⟨by kernel_rfl,?_⟩))
   refine yC (!decide (y.day<x.day)) (fun hd=>?_) (fun hd=>?_) (by simp[go_sem];try omega)
   ·(repeat(refine yB ?_;(simp[go_sem,hw1];(try simp(disch:=omega) only[w64,td,tm]))))
    refine⟨h+1,j,⟨by omega,by omega,g3⟩,by omega,?_⟩
    refine yS _ [.old 0 ⟨184,5,L.map pdv⟩] ?_
    simp[go_sem]
   ·(repeat(refine yB ?_;(simp[go_sem];(try simp(disch:=omega) only[w64,td,tm]))))
    refine⟨i,h,⟨g1,by omega,by omega⟩,by omega,?_⟩
    refine yS _ [.old 0 ⟨184,5,L.map pdv⟩] ?_
    simp[go_sem]
  ·have hij:i=j:=by simp at hc;omega
   subst hij
   (repeat(refine yB ?_;(simp[go_sem])))
   refine aE (fun z:Nat×List Pd=>⟨mkE [(0,.ow 0),(14,ii i),(17,ii z.1),(1000000,.ow 0)],[rowP z.2]⟩) (fun z=>i≤z.1∧z.1≤m∧sh L z.2) (fun z=>z.1) (m,L) ?_ ?_ ?_
   ·refine yS _ [.old 0 ⟨184,5,L.map pdv⟩] ?_
    simp[go_sem]
   ·exact⟨g3,Nat.le_refl _,fT L⟩
   ·rintro⟨k,D⟩ ⟨g4,g5,g6⟩
    simp only[]at g4 g5 g6
    have hDl:=g6.1
    (repeat(refine yB ?_;(simp[go_sem])))
    refine yC (decide (i<k)) (fun hd=>?_) (fun hd=>?_) (by simp[go_sem];try omega)
    ·simp at hd
     obtain⟨p,rfl⟩:∃p,k=p+1:=⟨k-1,by omega⟩
     have hi1:p+1<D.length:=by omega
     have hi2:p<D.length:=by omega
     have ht1:((p:Int)+1).toNat=p+1:=by omega
     have hwp:=w64 (x:=(p:Int)) (by omega) (by omega)
     have hwp1:=w64 (x:=(p:Int)+1) (by omega) (by omega)
     have h6:=qO g6 hi1 hi2
     have hns:nth ((D.map pdv).set (p+1) (pdv D[p])) p=pdv D[p]:=by
      rw[←List.map_set,bF pdv (by simpa using hi2),List.getElem_set_ne (by omega)]
     generalize hx:D[p]=x at*
     generalize hy:D[p+1]=y at*
     (repeat(refine yB ?_;(simp[go_sem,hwp,hwp1,hi1,hi2,hx,hy,ht1])))
     (repeat refine⟨by first|omega|(rw[bH];omega)|kernel_rfl|grind,?_⟩)
     (repeat(refine yB ?_;(simp[go_sem,hwp,hwp1,hi1,hi2,hx,hy,ht1];(try simp(disch:=omega) only[w64,td,tm]))))
     refine⟨p,(D.set (p+1) x).set p y,⟨by omega,by omega,h6⟩,by omega,?_⟩
     refine yS _ [.old 0 ⟨184,5,((D.set (p+1) x).set p y).map pdv⟩] ?_ (by simp[go_sem,hns,qP])
     simp[go_sem]
    ·(repeat(refine yB ?_;(simp[go_sem])))
     refine aB ?_;simp only[thenQ,blkQ,loopQ];refine⟨.tup [],[rowP D],⟨rfl,D,g6,rfl⟩,?_⟩;first|refine a8 [(1000000,.ow 0)] [.old 0 ⟨184,5,D.map pdv⟩] ?_|refine aJ [(1000000,.ow 0)] [.old 0 ⟨184,5,D.map pdv⟩] ?_
     simp[go_sem]
set_option maxHeartbeats 16000000 in
set_option maxRecDepth 20000 in
theorem uZ:∀(N:Nat) (L:List Pd) (_:okP L) (a m b:Nat),b-a≤N→a<m→m<b→b≤L.length→MeansE Tryz.prog 174 [rowP L] [.ow 0,ii a,ii m,ii b,rcl] (shS L)
 |0,L,hok,a,m,b=>by intro h1 h2;omega
 |N+1,L,hok,a,m,b=>by
  intro hN h1 h2 h3
  have hL:=hok.1
  by_cases hA1:a+1=m
  ·exact IJ L hok a m b hA1 h2 h3
  by_cases hB1:m+1=b
  ·exact IK L hok a m b (by omega) hB1 h3
  have IH:=uZ N
  obtain⟨u,hu⟩:∃u,a+u=m:=⟨m-a,by omega⟩
  obtain⟨v,hv⟩:∃v,m+v=b:=⟨b-m,by omega⟩
  obtain⟨mid,hmid⟩:∃mid,(a+b)/2=mid:=⟨_,rfl⟩
  obtain⟨n,hn⟩:∃n,mid+m=n:=⟨_,rfl⟩
  obtain⟨w,hw⟩:∃w,w+1=n:=⟨n-1,by omega⟩
  obtain⟨lo,hi,hlh⟩:∃lo hi,(mid<m∧lo+b=n∧hi=mid)∨(¬mid<m∧lo=a∧hi=m):=by
   by_cases h:mid<m
   ·exact⟨n-b,mid,.inl ⟨h,by omega,rfl⟩⟩
   ·exact⟨a,m,.inr ⟨h,rfl,rfl⟩⟩
  have hma:(m:Int)-a=u:=by omega
  have hbm:(b:Int)-m=v:=by omega
  have hA2:¬u=1:=by omega
  have hB2:¬v=1:=by omega
  have hp1:¬(u:Int)=1:=by omega
  have hq1:¬(v:Int)=1:=by omega
  have hwE:=w64 (x:=(a:Int)+b) (by omega) (by omega)
  have hwM:IntKind.i64.wrap ((IntKind.u64.wrap ((a:Int)+b)).fdiv 2)=(mid:Int):=by
   rw[FP a b (by omega),hmid]
  have hwn:(mid:Int)+m=n:=by omega
  have hwn2:=w64 (x:=(n:Int)) (by omega) (by omega)
  have hnv:IntKind.i64.wrap ((n:Int)-1)=(w:Int):=by rw[w64 (by omega) (by omega)];omega
  refine yE 1 220 [] [0,1,2,3,4,10,11,12,13,14,15,16,17,18,19,20,21,22,23,24,28,33,50,58,80,85,103,110,140,151,171,185,199,213,1000000] Tryz.func174 fun X hX=>?_
  (repeat(refine yB ?_;(simp[go_sem,hma,hA2,hp1];(try simp(disch:=omega) only[w64,td,tm]))))
  simp[go_sem,hma,hA2,hp1]
  refine yF ?_ (by simp[go_sem,hA2];try omega)
  (repeat(refine yB ?_;(simp[go_sem,hbm,hB2,hq1];(try simp(disch:=omega) only[w64,td,tm]))))
  simp[go_sem,hbm,hB2,hq1]
  refine yF ?_ (by simp[go_sem,hB2];try omega)
  (repeat(refine yB ?_;(simp[go_sem,hwE,hwM,hwn,hwn2])))
  refine jI ⟨mkE [(0,.ow 0),(1,ii a),(2,ii m),(3,ii b),(4,rcl),(18,ii mid),(19,ii n),(20,ii lo),(21,ii hi),(1000000,.ow 0)],[rowP L]⟩ ?_ ?_
  ·skip
   refine yC (decide (mid<m)) (fun hc=>?_) (fun hc=>?_) (by simp[go_sem];try omega)
   ·simp at hc
    obtain⟨e1,e2⟩:lo+b=n∧hi=mid:=by omega
    have hw1:IntKind.i64.wrap ((n:Int)-b)=(lo:Int):=by rw[w64 (by omega) (by omega)];omega
    (repeat(refine yB ?_;(simp[go_sem,hw1])))
    refine yS _ [.old 0 ⟨184,5,L.map pdv⟩] ?_
    simp[go_sem]
    omega
   ·simp at hc
    obtain⟨e1,e2⟩:lo=a∧hi=m:=by omega
    (repeat(refine yB ?_;(simp[go_sem])))
    refine yS _ [.old 0 ⟨184,5,L.map pdv⟩] ?_
    simp[go_sem]
    omega
  (repeat(refine yB ?_;(simp[go_sem,hnv])))
  refine aE (fun z:Nat×Nat=>⟨mkE [(0,.ow 0),(1,ii a),(2,ii m),(3,ii b),(4,rcl),(18,ii mid),(19,ii n),(20,ii z.1),(21,ii z.2),(22,ii w),(1000000,.ow 0)],[rowP L]⟩)
   (fun z=>lo≤z.1∧z.1≤z.2∧z.2≤hi) (fun z=>z.2-z.1) (lo,hi) ?_ ?_ ?_
  ·refine yS _ [.old 0 ⟨184,5,L.map pdv⟩] ?_
   simp[go_sem]
  ·exact⟨Nat.le_refl _,by simp only[];omega,Nat.le_refl _⟩
  ·rintro⟨s,r⟩ ⟨g1,g2,g3⟩
   simp only[]at g1 g2 g3
   (repeat(refine yB ?_;(simp[go_sem])))
   refine yC (decide (s<r)) (fun hc=>?_) (fun hc=>?_) (by simp[go_sem];try omega)
   ·simp at hc
    obtain⟨c,hce⟩:∃c,(s+r)/2=c:=⟨_,rfl⟩
    obtain⟨p,hp⟩:∃p,p+c=w:=⟨w-c,by omega⟩
    have hcl:c<L.length:=by omega
    have hpl:p<L.length:=by omega
    have hwF:=w64 (x:=(s:Int)+r) (by omega) (by omega)
    have hP:IntKind.i64.wrap ((IntKind.u64.wrap ((s:Int)+r)).fdiv 2)=(c:Int):=by rw[FP s r (by omega),hce]
    have hvP:(w:Int)-c=p:=by omega
    have hwp:=w64 (x:=(p:Int)) (by omega) (by omega)
    have hw1:=w64 (x:=(c:Int)+1) (by omega) (by omega)
    have hcm:=qQ hok hpl hcl
    generalize hx:L[p]=x at*
    generalize hy:L[c]=y at*
    (repeat(refine yB ?_;(simp[go_sem,hwF,hP,hvP,hwp,hcl,hpl,hx,hy])))
    (repeat refine⟨by first|omega|(rw[bH];omega)|kernel_rfl|grind,?_⟩)
    refine fB hcm ?_
    (simp[go_sem,hwF,hP,hvP,hwp,hcl,hpl,hx,hy];try(refine⟨by kernel_rfl,?_⟩))
    refine yC (!decide (x.day<y.day)) (fun hd=>?_) (fun hd=>?_) (by simp[go_sem];try omega)
    ·(repeat(refine yB ?_;(simp[go_sem,hw1];(try simp(disch:=omega) only[w64,td,tm]))))
     refine⟨c+1,r,⟨by omega,by omega,g3⟩,by omega,?_⟩
     refine yS _ [.old 0 ⟨184,5,L.map pdv⟩] ?_
     simp[go_sem]
    ·(repeat(refine yB ?_;(simp[go_sem];(try simp(disch:=omega) only[w64,td,tm]))))
     refine⟨s,c,⟨g1,by omega,by omega⟩,by omega,?_⟩
     refine yS _ [.old 0 ⟨184,5,L.map pdv⟩] ?_
     simp[go_sem]
   ·have hsr:s=r:=by simp at hc;omega
    subst hsr
    obtain⟨e,he⟩:∃e,e+s=n:=⟨n-s,by omega⟩
    have hwe:IntKind.i64.wrap ((n:Int)-s)=(e:Int):=by rw[w64 (by omega) (by omega)];omega
    (repeat(refine yB ?_;(simp[go_sem,hwe];(try simp(disch:=omega) only[w64,td,tm]))))
    refine jM (fun D:List Pd=>⟨mkE [(0,.ow 0),(1,ii a),(3,ii b),(4,rcl),(18,ii mid),(20,ii s),(24,ii e),(1000000,.ow 0)],[rowP D]⟩) (sh L) ?_ ?_
    ·skip
     refine yC (decide (s<m)&&decide (m<e)) (fun hd=>?_) (fun hd=>?_) (by simp[go_sem];first|done|(rw[Bool.eq_iff_iff];simp;omega))
     ·simp at hd
      have hrot:=II L hok s m e (by omega) (by omega) (by omega)
      (repeat(refine yB ?_;(simp[go_sem])))
      refine yQ [0] hrot ?_
      rintro _ _ ⟨rfl,D,hD,rfl⟩
      simp[go_sem]
      refine⟨D,hD,?_⟩
      refine yS _ [.old 0 ⟨184,5,D.map pdv⟩] ?_
      simp[go_sem]
     ·(repeat(refine yB ?_;(simp[go_sem])))
      refine⟨L,fT L,?_⟩
      refine yS _ [.old 0 ⟨184,5,L.map pdv⟩] ?_
      simp[go_sem]
    intro D hD
    have hokD:=kN hok hD
    have hDl:=hD.1
    (repeat(refine yB ?_;(simp[go_sem])))
    refine jM (fun D:List Pd=>⟨mkE [(0,.ow 0),(3,ii b),(4,rcl),(18,ii mid),(24,ii e),(1000000,.ow 0)],[rowP D]⟩) (sh L) ?_ ?_
    ·skip
     refine yC (decide (a<s)&&decide (s<mid)) (fun hd=>?_) (fun hd=>?_) (by simp[go_sem];first|done|(rw[Bool.eq_iff_iff];simp;omega))
     ·simp at hd
      have hrec:=IH D hokD a s mid (by omega) (by omega) (by omega) (by omega)
      (repeat(refine yB ?_;(simp[go_sem])))
      refine yQ [0] hrec ?_
      rintro _ _ ⟨rfl,E,hE,rfl⟩
      simp[go_sem]
      refine⟨E,cW hD hE,?_⟩
      refine yS _ [.old 0 ⟨184,5,E.map pdv⟩] ?_
      simp[go_sem]
     ·(repeat(refine yB ?_;(simp[go_sem])))
      refine⟨D,hD,?_⟩
      refine yS _ [.old 0 ⟨184,5,D.map pdv⟩] ?_
      simp[go_sem]
    intro E hE
    have hokE:=kN hok hE
    have hEl:=hE.1
    (repeat(refine yB ?_;(simp[go_sem])))
    refine yC (decide (mid<e)&&decide (e<b)) (fun hd=>?_) (fun hd=>?_) (by simp[go_sem];first|done|(rw[Bool.eq_iff_iff];simp;omega))
    ·simp at hd
     have hrec:=IH E hokE mid e b (by omega) (by omega) (by omega) (by omega)
     (repeat(refine yB ?_;(simp[go_sem])))
     refine yQ [0] hrec ?_
     rintro _ _ ⟨rfl,F,hF,rfl⟩
     simp[go_sem]
     refine⟨.tup [],[rowP F],⟨rfl,F,cW hE hF,rfl⟩,?_⟩;first|refine a8 [(1000000,.ow 0)] [.old 0 ⟨184,5,F.map pdv⟩] ?_|refine aJ [(1000000,.ow 0)] [.old 0 ⟨184,5,F.map pdv⟩] ?_
     simp[go_sem]
    ·(repeat(refine yB ?_;(simp[go_sem])))
     refine⟨.tup [],[rowP E],⟨rfl,E,hE,rfl⟩,?_⟩;first|refine a8 [(1000000,.ow 0)] [.old 0 ⟨184,5,E.map pdv⟩] ?_|refine aJ [(1000000,.ow 0)] [.old 0 ⟨184,5,E.map pdv⟩] ?_
     simp[go_sem]
end Go.Proofs.YtdcidannegcaoaaGreatDoor

namespace Go.Proofs.YtdcidannegcaoaaGreatDoor
open Go.RowKit Go.Ab
attribute [local irreducible] AWP Go.Ab.Sub Means MeansH MeansE CallK CallG CallT CallGT PanicH PanicX DefH CallU
set_option maxHeartbeats 8000000 in
set_option maxRecDepth 20000 in
theorem FQ(L:List Pd)(hok:okP L):MeansE Tryz.prog 148 [rowP L] [.ow 0,ii L.length,rcl] (shS L):=by
 have hL:=hok.1
 obtain⟨n,hn⟩:∃n,L.length=n:=⟨_,rfl⟩
 rw[hn]
 refine yE 1 63 [] [0,1,2,6,7,8,9,13,30,35,54,1000000] Tryz.func148 fun X hX=>?_
 (repeat(refine yB ?_;(simp[go_sem];(try simp(disch:=omega) only[w64,td,tm]))))
 refine aE (fun z:Nat×List Pd=>⟨mkE [(0,.ow 0),(1,ii n),(2,rcl),(6,ii 20),(7,ii z.1),(8,ii (z.1+20:Nat)),(1000000,.ow 0)],[rowP z.2]⟩) (fun z=>z.1≤n∧sh L z.2) (fun z=>n-z.1) (0,L) ?_ ?_ ?_
 ·refine yS _ [.old 0 ⟨184,5,L.map pdv⟩] ?_
  simp[go_sem]
 ·exact⟨Nat.zero_le _,fT L⟩
 ·rintro⟨a,D⟩ ⟨h1,h3⟩
  simp only[]at h1 h3
  have hDl:=h3.1
  have hokD:=kN hok h3
  obtain⟨b,hb⟩:∃b,a+20=b:=⟨_,rfl⟩
  rw[hb]
  (repeat(refine yB ?_;(simp[go_sem])))
  refine yC (decide (b≤n)) (fun hc=>?_) (fun hc=>?_) (by simp[go_sem];try omega)
  ·simp at hc
   have hi:=CO D hokD a b (by omega) (by omega)
   have hw:=w64 (x:=(b:Int)+20) (by omega) (by omega)
   (repeat(refine yB ?_;(simp[go_sem])))
   refine yQ [0] hi ?_
   rintro _ _ ⟨rfl,E,hE,rfl⟩
   simp[go_sem,hw]
   (repeat(refine yB ?_;(simp[go_sem,hw])))
   refine⟨b,E,⟨hc,cW h3 hE⟩,by omega,?_⟩
   refine yS _ [.old 0 ⟨184,5,E.map pdv⟩] ?_
   simp[go_sem]
  ·simp at hc
   have hi:=CO D hokD a n (by omega) (by omega)
   (repeat(refine yB ?_;(simp[go_sem])))
   refine yQ [0] hi ?_
   rintro _ _ ⟨rfl,E,hE,rfl⟩
   have h4:=cW h3 hE
   simp[go_sem]
   (repeat(refine yB ?_;(simp[go_sem])))
   clear hi hE hokD h3 hDl hb hc
   refine aE (fun z:Nat×List Pd=>⟨mkE [(0,.ow 0),(1,ii n),(2,rcl),(6,ii z.1),(1000000,.ow 0)],[rowP z.2]⟩) (fun z=>0<z.1∧z.1≤2*n+20∧sh L z.2) (fun z=>n-z.1) (20,E) ?_ ?_ ?_
   ·refine yS _ [.old 0 ⟨184,5,E.map pdv⟩] ?_
    simp[go_sem]
   ·exact⟨by simp,by simp only[];omega,h4⟩
   ·rintro⟨s,F⟩ ⟨g0,g1,g2⟩
    simp only[]at g0 g1 g2
    have hFl:=g2.1
    (repeat(refine yB ?_;(simp[go_sem])))
    refine yC (decide (s<n)) (fun hd=>?_) (fun hd=>?_) (by simp[go_sem];try omega)
    ·simp at hd
     have hw2:=w64 (x:=2*(s:Int)) (by omega) (by omega)
     have hw3:=w64 (x:=(s:Int)*2) (by omega) (by omega)
     (repeat(refine yB ?_;(simp[go_sem,hw2])))
     refine aE (fun z:Nat×List Pd=>⟨mkE [(0,.ow 0),(1,ii n),(2,rcl),(6,ii s),(7,ii z.1),(8,ii (z.1+2*s:Nat)),(1000000,.ow 0)],[rowP z.2]⟩) (fun z=>z.1≤n∧sh L z.2) (fun z=>n-z.1) (0,F) ?_ ?_ ?_
     ·refine yS _ [.old 0 ⟨184,5,F.map pdv⟩] ?_
      simp[go_sem]
     ·exact⟨Nat.zero_le _,g2⟩
     ·rintro⟨a,D⟩ ⟨k1,k2⟩
      simp only[]at k1 k2
      have hDl:=k2.1
      have hokD:=kN hok k2
      obtain⟨b,hb⟩:∃b,a+2*s=b:=⟨_,rfl⟩
      obtain⟨m,hm⟩:∃m,a+s=m:=⟨_,rfl⟩
      have hma:(a:Int)+s=m:=by omega
      have hwm:=w64 (x:=(m:Int)) (by omega) (by omega)
      have hwb:=w64 (x:=(b:Int)+2*s) (by omega) (by omega)
      rw[hb]
      (repeat(refine yB ?_;(simp[go_sem])))
      refine yC (decide (b≤n)) (fun he=>?_) (fun he=>?_) (by simp[go_sem];try omega)
      ·simp at he
       have hme:=uZ (b-a) D hokD a m b (by omega) (by omega) (by omega) (by omega)
       (repeat(refine yB ?_;(simp[go_sem,hma,hwm])))
       refine yQ [0] hme ?_
       rintro _ _ ⟨rfl,G,hG,rfl⟩
       simp[go_sem,hw2,hwb]
       (repeat(refine yB ?_;(simp[go_sem,hw2,hwb])))
       refine⟨b,G,⟨he,cW k2 hG⟩,by omega,?_⟩
       refine yS _ [.old 0 ⟨184,5,G.map pdv⟩] ?_
       simp[go_sem]
      ·simp at he
       (repeat(refine yB ?_;(simp[go_sem,hma,hwm])))
       refine jM (fun D:List Pd=>⟨mkE [(0,.ow 0),(1,ii n),(2,rcl),(6,ii s),(1000000,.ow 0)],[rowP D]⟩) (sh L) ?_ ?_
       ·refine yC (decide (m<n)) (fun hf=>?_) (fun hf=>?_) (by simp[go_sem];try omega)
        ·simp at hf
         have hme:=uZ (n-a) D hokD a m n (by omega) (by omega) (by omega) (by omega)
         (repeat(refine yB ?_;(simp[go_sem])))
         refine yQ [0] hme ?_
         rintro _ _ ⟨rfl,G,hG,rfl⟩
         simp[go_sem]
         refine⟨G,cW k2 hG,?_⟩
         refine yS _ [.old 0 ⟨184,5,G.map pdv⟩] ?_
         simp[go_sem]
        ·(repeat(refine yB ?_;(simp[go_sem])))
         refine⟨D,k2,?_⟩
         refine yS _ [.old 0 ⟨184,5,D.map pdv⟩] ?_
         simp[go_sem]
       ·intro G hG
        (repeat(refine yB ?_;(simp[go_sem,hw3])))
        refine⟨2*s,G,⟨by omega,by omega,hG⟩,by omega,?_⟩
        refine yS _ [.old 0 ⟨184,5,G.map pdv⟩] ?_
        simp[go_sem]
        omega
    ·(repeat(refine yB ?_;(simp[go_sem])))
     refine⟨.tup [],[rowP F],⟨rfl,F,g2,rfl⟩,?_⟩;first|refine a8 [(1000000,.ow 0)] [.old 0 ⟨184,5,F.map pdv⟩] ?_|refine aJ [(1000000,.ow 0)] [.old 0 ⟨184,5,F.map pdv⟩] ?_
     simp[go_sem]
set_option maxHeartbeats 4000000 in
set_option maxRecDepth 20000 in
theorem FR(L:List Pd)(hok:okP L):MeansE Tryz.prog 117 [rowP L] [.ow 0,rcl] (shS L):=by
 refine yE 1 9 [] [0,1,1000000] Tryz.func117 fun X hX=>?_
 (repeat(refine yB ?_;(simp[go_sem])))
 refine yQ [0] (FQ L hok) ?_
 rintro _ _ ⟨rfl,D,hD,rfl⟩
 simp[go_sem]
 refine⟨.tup [],[rowP D],⟨rfl,D,hD,rfl⟩,?_⟩;first|refine a8 [(1000000,.ow 0)] [.old 0 ⟨184,5,D.map pdv⟩] ?_|refine aJ [(1000000,.ow 0)] [.old 0 ⟨184,5,D.map pdv⟩] ?_
 simp[go_sem]
end Go.Proofs.YtdcidannegcaoaaGreatDoor

namespace Go.Proofs.YtdcidannegcaoaaGreatDoor
open Go.RowKit Go.Ab
attribute [local irreducible] AWP Go.Ab.Sub Means MeansH MeansE CallK CallG CallT CallGT PanicH PanicX DefH CallU
def okR(d:Int)(x:Pd):Prop:=(0≤x.day∧x.day≤d)∧1≤x.n∧x.n≤1099511627776
def sumPd(L:List Pd):Int:=(L.map (·.n)).sum
theorem sG{d:Int}{L:List Pd}(h:∀x∈L,okR d x):0≤sumPd L∧sumPd L≤1099511627776*L.length:=by
 unfold sumPd
 induction L with
 |nil=>simp
 |cons a L ih=>
  have h1:=h a (by simp)
  have h2:=ih fun o ho=>h o (by simp[ho])
  unfold okR at h1
  simp only[List.map_cons,List.sum_cons,List.length_cons]
  omega
theorem vA{L:List Pd}{n:Nat}(h:n<L.length):sumPd (L.take (n+1))=sumPd (L.take n)+L[n].n:=by
 unfold sumPd
 rw[List.take_succ_eq_append_getElem h,List.map_append,List.sum_append]
 simp only[List.map_cons,List.map_nil,List.sum_cons,List.sum_nil,Int.add_zero]
set_option maxHeartbeats 8000000 in
set_option maxRecDepth 20000 in
theorem CP(b:Bl)(f n k j d:Int)(P:List Pd)(p due:Int)(hd:0≤d∧d≤1048576)(hdu:0≤due∧due≤1099511627776)(hP:P.length≤40):
  MeansE Tryz.prog 73 [] [cirP b f n k j d P,ii p,ii due] (fun r H=>H=[]∧∃s y,r=.tup [ii s,ii y]∧(0≤s∧s≤1099511627776*40)∧0≤y∧y≤1048576):=by
 refine yE 0 91 [.tmp 6,.tmp 7] [0,1,2,3,6,7,8,10,11,12,14,16,17,18,19,55,65,66,67,68,81] Tryz.func73 fun X hX=>?_
 (repeat(refine yB ?_;(simp[go_sem])))
 refine aE (fun z:Nat×List Pd=>⟨mkE [(1,ii p),(2,ii due),(3,.el 0 46 0 0),(8,.ow 1),(16,.sl (P.map pdv)),(17,ii P.length),(18,ii z.1)],[.row ⟨86,46,[cirP b f n k j d P]⟩,rowP z.2]⟩) (fun z=>z.1≤P.length∧z.2.length≤z.1∧∀x∈z.2,okR d x) (fun z=>P.length-z.1) (0,[]) ?_ ?_ ?_
 ·refine yS _ [.old 0 ⟨86,46,[cirP b f n k j d P]⟩,.birth 184 5] ?_
  simp[go_sem]
 ·exact⟨Nat.zero_le _,Nat.le_refl _,by simp⟩
 ·rintro⟨i,D⟩ ⟨h1,h2,h3⟩
  simp only[]at h1 h2 h3
  (repeat(refine yB ?_;(simp[go_sem])))
  refine yC (decide (i<P.length)) (fun hc=>?_) fun hc=>?_
  ·simp at hc
   have hq:=xD hc
   have wk:=w64 (x:=(i:Int)+1) (by omega) (by omega)
   generalize hx:P[i]=x at*
   (repeat(refine yB ?_;(simp[go_sem,hc,hq,hx])))
   refine yC (decide (x.who=k)&&decide (x.per=p)&&decide (0≤x.day)&&decide (x.day≤d)&&decide (1≤x.n)&&decide (x.n≤1099511627776)) (fun hb=>?_) fun hb=>?_
   ·simp only[Bool.and_eq_true,decide_eq_true_eq]at hb
    (repeat(refine yB ?_;(simp[go_sem])))
    (repeat refine⟨by first|omega|(rw[bH];omega)|kernel_rfl|grind,?_⟩)
    (repeat(refine yB ?_;(simp[go_sem,wk];(try simp(disch:=omega) only[w64,td,tm]))))
    refine⟨i+1,D++[x],⟨by omega,by simp;omega,fun y hy=>?_⟩,by omega,?_⟩
    ·rcases List.mem_append.1 hy with hy|hy
     ·exact h3 y hy
     ·simp at hy
      subst hy
      exact⟨⟨hb.1.1.1.2,hb.1.1.2⟩,hb.1.2,hb.2⟩
    refine yS _ [.old 0 ⟨86,46,[cirP b f n k j d P]⟩,.old 4 ⟨184,5,(D++[x]).map pdv⟩] ?_
    simp[go_sem]
   ·(repeat(refine yB ?_;(simp[go_sem,wk])))
    refine⟨i+1,D,⟨by omega,by omega,h3⟩,by omega,?_⟩
    refine yS _ [.old 0 ⟨86,46,[cirP b f n k j d P]⟩,.old 1 ⟨184,5,D.map pdv⟩] ?_
    simp[go_sem]
  ·simp at hc
   have hokD:okP D:=⟨by omega,fun x hx=>⟨(h3 x hx).1.1,by have:=(h3 x hx).1.2;omega⟩⟩
   (repeat(refine yB ?_;(simp[go_sem])))
   refine yQ [1] (FR D hokD) ?_
   rintro _ _ ⟨rfl,E,hE,rfl⟩
   have hEl:=hE.1
   have h4:∀x∈E,okR d x:=fun x hx=>h3 x (hE.2 x hx)
   simp[go_sem]
   (repeat(refine yB ?_;(simp[go_sem];try(refine⟨by kernel_rfl,?_⟩))))
   clear hE hokD h3
   refine aE (fun z:Nat×Int=>⟨mkE [(2,ii due),(11,ii (sumPd (E.take z.1))),(12,ii z.2),(65,.ow 0),(66,ii E.length),(67,ii z.1)],[rowP E]⟩) (fun z=>z.1≤E.length∧0≤z.2∧z.2≤1048576) (fun z=>E.length-z.1) (0,d) ?_ ?_ ?_
   ·refine yS _ [.old 1 ⟨184,5,E.map pdv⟩] ?_
    simp[go_sem,sumPd]
   ·exact⟨Nat.zero_le _,hd⟩
   ·rintro⟨i,y⟩ ⟨g1,g2,g3⟩
    simp only[]at g1 g2 g3
    (repeat(refine yB ?_;(simp[go_sem])))
    refine yC (decide (i<E.length)) (fun hc=>?_) fun hc=>?_
    ·simp at hc
     have hq:=xD hc
     have hx1:=h4 _ (List.getElem_mem hc)
     have b0:=sG (L:=E.take i) fun x hx=>h4 x (List.mem_of_mem_take hx)
     have bl:(E.take i).length≤40:=by simp;omega
     have e1:=vA hc
     unfold okR at hx1
     have w1:=w64 (x:=sumPd (E.take i)+E[i].n) (by omega) (by omega)
     have wk:=w64 (x:=(i:Int)+1) (by omega) (by omega)
     rw[←e1]at w1
     generalize hS:sumPd (E.take (i+1))=S' at*
     generalize sumPd (E.take i)=S at*
     generalize hx:E[i]=x at*
     have e2:S+x.n=S':=e1.symm
     (repeat(refine yB ?_;(simp[go_sem,hc,hq,hx])))
     refine jM (fun y:Int=>⟨mkE [(2,ii due),(11,ii S),(12,ii y),(14,.el 1 5 0 0),(65,.ow 0),(66,ii E.length),(67,ii i)],[rowP E,.row ⟨184,5,[pdv x]⟩]⟩) (fun y=>0≤y∧y≤1048576) ?_ ?_
     ·refine yC (decide (S<due)&&decide (due≤S')) (fun hd=>?_) (fun hd=>?_) (by simp[go_sem,e2,w1])
      ·(repeat(refine yB ?_;(simp[go_sem])))
       refine⟨x.day,⟨hx1.1.1,by omega⟩,?_⟩
       refine yS _ [.old 0 ⟨184,5,E.map pdv⟩,.old 1 ⟨184,5,[pdv x]⟩] ?_
       simp[go_sem]
      ·(repeat(refine yB ?_;(simp[go_sem])))
       refine⟨y,⟨g2,g3⟩,?_⟩
       refine yS _ [.old 0 ⟨184,5,E.map pdv⟩,.old 1 ⟨184,5,[pdv x]⟩] ?_
       simp[go_sem]
     intro y hy
     (repeat(refine yB ?_;(simp[go_sem,e2,w1,wk])))
     refine⟨i+1,y,⟨by omega,hy⟩,by omega,?_⟩
     rw[hS]
     refine yS _ [.old 0 ⟨184,5,E.map pdv⟩] ?_
     simp[go_sem]
    ·have hnn:i=E.length:=by simp at hc;omega
     subst hnn
     rw[List.take_of_length_le (Nat.le_refl _)]
     have b0:=sG h4
     (repeat(refine yB ?_;(simp[go_sem])))
     refine aB ?_;refine⟨.tup [ii (sumPd E),ii y],[],⟨rfl,_,_,rfl,⟨b0.1,by omega⟩,g2,g3⟩,?_⟩;first|refine a8 [] [] ?_|refine aJ [] [] ?_
     simp[go_sem]
end Go.Proofs.YtdcidannegcaoaaGreatDoor

namespace Go.Proofs.YtdcidannegcaoaaGreatDoor
open Go.RowKit Go.Ab
attribute [local irreducible] AWP Go.Ab.Sub Means MeansH MeansE CallK CallG CallT CallGT PanicH PanicX DefH CallU
abbrev owS:AV→List Cell→Prop:=fun r H=>H=[]∧∃o err,r=.tup [oww o,ii err]∧(err=0→OkW o)
theorem FS{o p f l g:Int}(hp:0≤p∧p≤5000)(hl:1≤l∧l≤5000)(hg:0≤g∧g≤5000)(ho:0≤o∧o≤1048576):0≤(lateV o p f l g).1∧(lateV o p f l g).1≤1048576:=by
 have hb:0≤(dueV p f l g).1∧(dueV p f l g).1≤1048576∧((dueV p f l g).2=0∨(dueV p f l g).2=1∨(dueV p f l g).2=3):=uD hp hl (by omega)
 unfold lateV
 split
 ·split<;>simp only[]<;>omega
 ·simp
set_option maxHeartbeats 16000000 in
set_option maxRecDepth 20000 in
theorem FT(b:Bl)(h:OkB b)(f n k j d:Int)(P:List Pd)(p:Int)(hp:0≤p∧p≤1000)(hn:1≤n∧n≤60)(hj:0≤j∧j≤1048576)(hd:0≤d∧d≤1048576)(hP:P.length≤40):
  MeansE Tryz.prog 30 [] [cirP b f n k j d P,ii p] owS:=by
 have hper:=h.period
 have hgr:=h.grace
 have c1:=BD p f b.period b.grace (by omega) (by omega) (by omega)
 have c2:=rI p f b.period (by omega) (by omega)
 have hfb:0≤(beginsV p f b.period).1∧(beginsV p f b.period).1≤1048576:=by
  have:=uD (p:=p) (f:=f) (l:=b.period) (d:=0) (by omega) (by omega) (by omega)
  exact⟨this.1,this.2.1⟩
 have cl:=fun(y:Int) (hy:0≤y∧y≤1048576)=>And.intro (BE y p f b.period b.grace (by omega) (by omega) (by omega)) (FS (f:=f) (p:=p) (l:=b.period) (g:=b.grace) (by omega) (by omega) (by omega) hy)
 simp only[t2]at c1 c2 cl
 generalize beginsV p f b.period=B at*
 obtain⟨first,e2⟩:=B
 simp only[]at c2 hfb
 have ha:fits (max (first-j) 0):=by unfold fits;omega
 obtain⟨v,e3,hv0,hv1,c3⟩:=xE b h f n k j d P p (max (first-j) 0) 0 (by unfold fits;omega) (by unfold fits;omega) ha (by unfold fits;omega) [100,117,101] b.due rfl
 have cf:=fun(late:Int) (hl:0≤late∧late≤1048576)=>xE b h f n k j d P p (max (first-j) 0) late (by unfold fits;omega) (by unfold fits;omega) ha (by unfold fits;omega) [102,105,110,101] b.fine rfl
 have w1:=w64 (x:=first-j) (by omega) (by omega)
 generalize(dueV p f b.period b.grace).2=e1 at c1
 generalize(dueV p f b.period b.grace).1=d1 at c1
 refine yE 0 111 [.cell 4 66,.tmp 5] [0,1,2,4,5,6,8,9,10,11,12,13,33,47,65,80,98] Tryz.func30 fun X hX=>?_
 (repeat(refine yB ?_;(simp[go_sem])))
 refine aC c1 ?_
 simp[go_sem]
 (repeat(refine yB ?_;(simp[go_sem])))
 refine yC (decide (e1≠0)) (fun hc=>?_) fun hc=>?_
 ·simp only[decide_eq_true_eq]at hc
  (repeat(refine yB ?_;(simp[go_sem])))
  refine aB ?_;simp only[thenQ,blkQ,loopQ];refine⟨.tup [oww ⟨k,p,0,0,0,0⟩,ii e1],[],⟨rfl,_,_,rfl,fun h=>absurd h hc⟩,?_⟩;first|refine a8 [] [] ?_|refine aJ [] [] ?_
  simp[go_sem]
 clear hc
 (repeat(refine yB ?_;(simp[go_sem])))
 refine aC c2 ?_
 simp[go_sem]
 (repeat(refine yB ?_;(simp[go_sem])))
 refine yC (decide (e2≠0)) (fun hc=>?_) fun hc=>?_
 ·simp only[decide_eq_true_eq]at hc
  (repeat(refine yB ?_;(simp[go_sem])))
  refine aB ?_;simp only[thenQ,blkQ,loopQ];refine⟨.tup [oww ⟨k,p,0,0,0,0⟩,ii e2],[],⟨rfl,_,_,rfl,fun h=>absurd h hc⟩,?_⟩;first|refine a8 [] [] ?_|refine aJ [] [] ?_
  simp[go_sem]
 clear hc
 (repeat(refine yB ?_;(simp[go_sem,w1])))
 refine aC c3 ?_
 simp[go_sem]
 (repeat(refine yB ?_;(simp[go_sem])))
 refine yC (decide (e3≠0)) (fun hc=>?_) fun hc=>?_
 ·simp only[decide_eq_true_eq]at hc
  (repeat(refine yB ?_;(simp[go_sem])))
  refine aB ?_;simp only[thenQ,blkQ,loopQ];refine⟨.tup [oww ⟨k,p,v,0,0,0⟩,ii e3],[],⟨rfl,_,_,rfl,fun h=>absurd h hc⟩,?_⟩;first|refine a8 [] [] ?_|refine aJ [] [] ?_
  simp[go_sem]
 have he3:e3=0:=by simpa using hc
 have hv2:=hv1 he3
 clear hv1
 subst he3
 clear hc c3
 (repeat(refine yB ?_;(simp[go_sem])))
 refine yQ [] (CP b f n k j d P p v hd ⟨hv0,hv2⟩ hP) ?_
 rintro _ _ ⟨rfl,s,y,rfl,hs,hy⟩
 obtain⟨cl,hlb⟩:=cl y hy
 generalize(lateV y p f b.period b.grace).1=late at*
 generalize(lateV y p f b.period b.grace).2=le at*
 obtain⟨vf,ef,hf0,hf1,cf⟩:=cf late hlb
 simp[go_sem]
 (repeat(refine yB ?_;(simp[go_sem])))
 have fin:∀(lt2 fi er:Int),(er=0→0≤fi∧fi≤1099511627776)→(er=0→OkW ⟨k,p,v,s,lt2,fi⟩):=fun lt2 fi er hh he=>⟨⟨hv0,hv2⟩,⟨hs.1,by simp only[];omega⟩,hh he⟩
 refine yC (decide (0<v)) (fun hc=>?_) fun hc=>?_
 ·(repeat(refine yB ?_;(simp[go_sem])))
  refine aC cl ?_
  simp[go_sem]
  (repeat(refine yB ?_;(simp[go_sem])))
  refine yC (decide (0<late)) (fun hc=>?_) fun hc=>?_
  ·(repeat(refine yB ?_;(simp[go_sem])))
   refine aC cf ?_
   simp[go_sem]
   (repeat(refine yB ?_;(simp[go_sem])))
   refine aB ?_;refine⟨.tup [oww ⟨k,p,v,s,late,vf⟩,ii ef],[],⟨rfl,_,_,rfl,fin _ _ _ fun he=>⟨hf0,hf1 he⟩⟩,?_⟩;first|refine a8 [] [] ?_|refine aJ [] [] ?_
   simp[go_sem]
  ·(repeat(refine yB ?_;(simp[go_sem])))
   refine aB ?_;refine⟨.tup [oww ⟨k,p,v,s,late,0⟩,ii 0],[],⟨rfl,_,_,rfl,fin _ _ _ fun he=>by omega⟩,?_⟩;first|refine a8 [] [] ?_|refine aJ [] [] ?_
   simp[go_sem]
 ·(repeat(refine yB ?_;(simp[go_sem])));(repeat(refine aA ?_ ?_;(focus(simp[go_sem];done));(repeat(refine yB ?_;(simp[go_sem])))))
  refine aB ?_;refine⟨.tup [oww ⟨k,p,v,s,0,0⟩,ii 0],[],⟨rfl,_,_,rfl,fin _ _ _ fun he=>by omega⟩,?_⟩;first|refine a8 [] [] ?_|refine aJ [] [] ?_
  simp[go_sem]
end Go.Proofs.YtdcidannegcaoaaGreatDoor

namespace Go.Proofs.YtdcidannegcaoaaGreatDoor
open Go.RowKit Go.Ab
attribute [local irreducible] AWP Go.Ab.Sub Means MeansH MeansE CallK CallG CallT CallGT PanicH PanicX DefH CallU
theorem FU(n:Int):Means true Tryz.prog 68 [ii n] (bb (!dayB n)):=by
 have e:(!dayB n)=(decide (n<0)||decide (1048576<n)):=by unfold dayB;rw[Bool.eq_iff_iff];simp
 rw[e]
 refine yM true 9 [.tmp 2] [0,2] Tryz.func68 fun X hX=>?_
 (repeat(refine yA ?_;(simp[go_sem])))
theorem IL(l:List Int)(hl:l.length≤100):Means true Tryz.prog 28 [il l] (bb (l.all dayB)):=by
 have c1:=sH 68 (fun n=> !dayB n) l (by omega) (fun x hx=>FU x) (by simp[go_sem])
 have hany:(!l.any fun n=> !dayB n)=l.all dayB:=by rw[List.all_eq_not_any_not]
 rw[←hany]
 refine yM true 6 [.tmp 2] [0,2] Tryz.func28 fun X hX=>?_
 (repeat(refine yA ?_;(simp[go_sem])))
 refine aC c1 ?_
 simp[go_sem]
 (repeat(refine yA ?_;(simp[go_sem])))
abbrev rowW(L:List Ow):Cell:=.row ⟨66,6,L.map oww⟩
def dueR(r:AV):Prop:=∃(L:List Ow) (err:Int),r=.tup [.sl (L.map oww),ii err]∧(err=0→L.length≤1000∧∀o∈L,OkW o)
theorem sI(e:Int)(h:e≠0):dueR (.tup [.sl [],ii e]):=⟨[],e,rfl,fun h2=>absurd h2 h⟩
theorem xG(L:List Ow)(e:Int)(h:L.length≤1000∧∀o∈L,OkW o):dueR (.tup [.sl (L.map oww),ii e]):=⟨L,e,rfl,fun _=>h⟩
set_option maxHeartbeats 16000000 in
set_option maxRecDepth 20000 in
theorem FD(b:Bl)(h:OkB b)(f n k j:Int)(P:List Pd)(d:Int)(hP:P.length≤40):
  MeansV true Tryz.prog 9 [bl b,ii f,ii n,.agg [ii k,ii j,.sl [],ii 0,ii 0],.sl (P.map pdv),ii d] dueR:=by
 have c1:=eN b h
 have c2:=IL [f,d,j] (by simp)
 have c3:=iY (max j f) f b.period (by have:=h.period;omega)
 have c4:=iY d f b.period (by have:=h.period;omega)
 have hla:=h.last
 have hper:=h.period
 simp only[t2]at c3 c4
 refine o7 true 95 [.tmp 12,.tmp 13] Tryz.func9 rfl rfl rfl (by simp) (by decide) rfl fun X hX=>?_
 (repeat(refine aI q11x0 hX mixed rfl ?_;simp[go_sem]))
 refine aC c1 ?_
 simp[go_sem]
 refine aK (fun hg=>c2) ?_
 simp[go_sem]
 refine yC (!dayB f||(!dayB d|| !dayB j)||decide (n<1)||decide (60<n)) (fun hc=>?_) fun hc=>?_
 ·(repeat(refine aI q11x0 hX mixed rfl ?_;simp[go_sem]))
  exact sI 1 (by omega)
 simp only[Bool.or_eq_false_iff,Bool.not_eq_false',decide_eq_false_iff_not]at hc
 obtain⟨⟨⟨hf,hd,hj⟩,hn1⟩,hn2⟩:=hc
 have hf:=eM.1 hf
 have hd:=eM.1 hd
 have hj:=eM.1 hj
 (repeat(refine aI q11x0 hX mixed rfl ?_;simp[go_sem]))
 refine aC c3 ?_
 simp[go_sem]
 (repeat(refine aI q11x0 hX mixed rfl ?_;simp[go_sem]))
 refine aC c4 ?_
 simp[go_sem]
 have hq:0≤(periodV (max j f) f b.period).1:=by
  unfold periodV
  split
  ·split
   ·simp
   ·exact Int.ediv_nonneg (by omega) (by omega)
  ·simp
 generalize(periodV (max j f) f b.period).1=q at*
 generalize(periodV d f b.period).1=to at*
 generalize(periodV d f b.period).2=e at*
 have wl:=w64 (x:=b.last-1) (by omega) (by omega)
 clear c1 c2 c3 c4
 (repeat(refine aI q11x0 hX mixed rfl ?_;simp[go_sem]))
 refine yC (decide (e≠0)) (fun hc=>?_) fun hc=>?_
 ·(repeat(refine aI q11x0 hX mixed rfl ?_;simp[go_sem]))
  exact xG [] 0 (by simp)
 (repeat(refine aI q11x0 hX mixed rfl ?_;simp[go_sem]))
 refine aE (fun z:Int×List Ow=>⟨mkE [(6,.el 0 37 0 0),(14,.el 1 46 0 0),(17,ii to),(19,.ow 2),(20,ii z.1)],[.row ⟨34,37,[bl b]⟩,.row ⟨86,46,[cirP b f n k j d P]⟩,rowW z.2]⟩) (fun z=>(z.2.length:Int)+q=z.1∧(z.1≤1000∨z.2.length=0)∧∀o∈z.2,OkW o) (fun z=>(1001-z.1).toNat) (q,[]) ?_ ?_ ?_
 ·refine yS _ [.old 0 ⟨34,37,[bl b]⟩,.old 3 ⟨86,46,[cirP b f n k j d P]⟩,.birth 66 6] ?_
  simp[go_sem]
 ·exact⟨by simp,.inr rfl,by simp⟩
 ·rintro⟨p,L⟩ ⟨h1,h2,h3⟩
  simp only[]at h1 h2 h3
  (repeat(refine aI q11x0 hX mixed rfl ?_;simp[go_sem,wl]))
  refine yC (decide (p≤min to (b.last-1))) (fun hc=>?_) (fun hc=>?_) (by simp[go_sem,wl])
  ·simp only[decide_eq_true_eq]at hc
   have co:=FT b h f n k j d P p (by omega) (by omega) hj hd hP
   have wk:=w64 (x:=p+1) (by omega) (by omega)
   have hLl:L.length≤1000:=by omega
   (repeat(refine aI q11x0 hX mixed rfl ?_;simp[go_sem]))
   refine yQ [] co ?_
   rintro _ _ ⟨rfl,o,e2,rfl,ho⟩
   simp[go_sem]
   (repeat(refine aI q11x0 hX mixed rfl ?_;simp[go_sem]))
   refine yC (decide (e2≠0)) (fun hc2=>?_) fun hc2=>?_
   ·simp only[decide_eq_true_eq]at hc2
    (repeat(refine aI q11x0 hX mixed rfl ?_;simp[go_sem]))
    exact sI e2 hc2
   have ho:=ho (by simpa using hc2)
   (repeat(refine aI q11x0 hX mixed rfl ?_;simp[go_sem]))
   (repeat refine⟨by first|omega|(rw[bH];omega)|kernel_rfl|grind,?_⟩)
   (repeat(refine aI q11x0 hX mixed rfl ?_;(simp[go_sem,wk];(try simp(disch:=omega) only[w64,td,tm]))))
   refine⟨p+1,L++[o],⟨by simp;omega,.inl (by omega),fun y hy=>?_⟩,by omega,?_⟩
   ·rcases List.mem_append.1 hy with hy|hy
    ·exact h3 y hy
    ·simp at hy;subst hy;exact ho
   refine yS _ [.old 0 ⟨34,37,[bl b]⟩,.old 1 ⟨86,46,[cirP b f n k j d P]⟩,.old 5 ⟨66,6,(L++[o]).map oww⟩] ?_
   simp[go_sem]
  ·(repeat(refine aI q11x0 hX mixed rfl ?_;simp[go_sem]))
   exact xG L 0 ⟨by omega,h3⟩
end Go.Proofs.YtdcidannegcaoaaGreatDoor

