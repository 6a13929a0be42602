/-
  Lemmas for the statement at the top.
-/
import Derived.Test.YtllgjognpobnpaaGreatDoorGP6
import Derived.Test.YtllgjognpobnpaaGreatDoorGP10
import Derived.Test.YtllgjognpobnpaaGreatDoorGP15
import Derived.Test.YtllgjognpobnpaaGreatDoorGP12
import Derived.Shelf.Small.Utf8
import Derived.Shelf.Small.Strs
import Derived.Shelf.Strings.Search1
import Derived.Shelf.Strings.Runes
import Derived.Shelf.Bits.Mul64
import Derived.Test.YtllgjognpobnpaaGreatDoorProg
import Derived.Test.YtllgjognpobnpaaGreatDoorGFw5
set_option linter.all false
namespace Go.Proofs.YtllgjognpobnpaaGreatDoor
open Go.RowKit Go.Ab
attribute [local irreducible] AWP Go.Ab.Sub Means MeansH CallK CallG CallT CallGT PanicH DefH CallU MeansS
abbrev gvDue:List AV:=[.agg [ss [109,101,109,98,101,114,115],ii 1,ii 0],.agg [ss [112,101,114,105,111,100],ii 1,ii 0],.agg [ss [108,97,115,116],ii 1,ii 0],.agg [ss [97,103,101],ii 2,ii 0]]
abbrev fineV:List AV:=[.agg [ss [108,97,116,101],ii 2,ii 0],.agg [ss [109,101,109,98,101,114,115],ii 1,ii 0],.agg [ss [112,101,114,105,111,100],ii 1,ii 0],.agg [ss [108,97,115,116],ii 1,ii 0],.agg [ss [97,103,101],ii 2,ii 0]]
abbrev payV:List AV:=[.agg [ss [112,111,116],ii 3,ii 0],.agg [ss [98,105,100],ii 3,ii 0],.agg [ss [109,101,109,98,101,114,115],ii 1,ii 0],.agg [ss [112,101,114,105,111,100],ii 1,ii 0]]
abbrev coverV:List AV:=[.agg [ss [112,97,105,100],ii 3,ii 0],.agg [ss [99,108,97,105,109,115],ii 1,ii 0],.agg [ss [97,103,101],ii 2,ii 0],.agg [ss [109,101,109,98,101,114,115],ii 1,ii 0]]
abbrev holdV:List AV:=[.agg [ss [109,101,109,98,101,114,115],ii 1,ii 0],.agg [ss [104,111,108,100,115],ii 3,ii 0]]
def VG:List (Nat×Nat×AV):=[(0,16,.sl [ss [100,117,101],ss [102,105,110,101],ss [112,97,121],ss [99,111,118,101,114],ss [104,111,108,100]]),(2,18,.sl gvDue),(4,19,.agg [ss [108,97,116,101],ii 2,ii 0]),(6,21,.sl gvDue),(7,22,.sl fineV),(9,23,.agg [ss [112,111,116],ii 3,ii 0]),(10,24,.agg [ss [98,105,100],ii 3,ii 0]),(11,25,.agg [ss [109,101,109,98,101,114,115],ii 1,ii 0]),(12,26,.agg [ss [112,101,114,105,111,100],ii 1,ii 0]),(13,27,.sl payV),(15,28,.agg [ss [112,97,105,100],ii 3,ii 0]),(16,29,.agg [ss [99,108,97,105,109,115],ii 1,ii 0]),(17,30,.agg [ss [97,103,101],ii 2,ii 0]),(18,31,.agg [ss [109,101,109,98,101,114,115],ii 1,ii 0]),(19,32,.sl coverV),(21,33,.agg [ss [109,101,109,98,101,114,115],ii 1,ii 0]),(22,34,.agg [ss [104,111,108,100,115],ii 3,ii 0]),(23,35,.sl holdV),(26,0,.sl [ss [100,117,101],ss [102,105,110,101],ss [112,97,121],ss [99,111,118,101,114],ss [104,111,108,100]])]
def IG:List (Nat×AV×AV):=[(3,ss [100,117,101],.sl gvDue),(8,ss [102,105,110,101],.sl fineV),(14,ss [112,97,121],.sl payV),(20,ss [99,111,118,101,114],.sl coverV),(24,ss [104,111,108,100],.sl holdV)]
def GV(q:AV×AV):Prop:=∃i,(i,q)∈IG
structure JG(D:Nat→Bool)(s:St):Prop where
 e2:s.env 2=.el 0 3 0 0
 e3:s.env 3=.el 1 3 0 0
 e5:s.env 5=.el 3 3 0 0
 e6:s.env 6=.sl gvDue
 h0:s.heap[0]? =some (.row ⟨103,3,[.agg [ss [109,101,109,98,101,114,115],ii 1,ii 0]]⟩)
 h1:s.heap[1]? =some (.row ⟨103,3,[.agg [ss [112,101,114,105,111,100],ii 1,ii 0]]⟩)
 h3:s.heap[3]? =some (.row ⟨103,3,[.agg [ss [97,103,101],ii 2,ii 0]]⟩)
 hl:4≤s.heap.length
 val:∀x∈VG,D x.1=true→s.env x.2.1=x.2.2
 mp:D 1=true→∃m es,4≤m∧s.env 17=.ow m∧s.heap[m]? =some (.map ⟨9,125,es⟩)∧(∀q,q∈es↔∃i,(i,q)∈IG∧D i=true)∧(D 25=true→s.env 36=.ow m)∧(D 27=true→s.env 1=.ow m)
 rw:D 5=true→D 7=false→∃r,4≤r∧s.env 20=.ow r∧s.heap[r]? =some (.row ⟨103,3,[.agg [ss [108,97,116,101],ii 2,ii 0]]⟩)
 nin:∀i∈[3,8,14,20,24,25,27],D i=true→D 1=true
theorem EA{D:Nat→Bool}{E:Nat→AV}{i d:Nat}{v:AV}(h:∀x∈VG,D x.1=true→E x.2.1=x.2.2)(hu:∀x∈VG,(x.1=i→x.2.1=d∧x.2.2=v)∧(x.2.1=d→x.1=i)):∀x∈VG,(D x.1||x.1==i)=true→upd E d v x.2.1=x.2.2:=by
 intro x hx hd
 obtain⟨h1,h2⟩:=hu x hx
 by_cases hi:x.1=i
 ·obtain⟨q1,q2⟩:=h1 hi
  rw[q1,q2,bK]
 ·rw[aX _ _ _ (fun e=>hi (h2 e))]
  refine h x hx ?_
  simpa[hi]using hd
theorem JG.put{D:Nat→Bool}{s:St}(h:JG D s){i d:Nat}{v:AV}{H':List Cell}(hu:∀x∈VG,(x.1=i→x.2.1=d∧x.2.2=v)∧(x.2.1=d→x.1=i))(hd:d∉[2,3,5,6,17,20,36,1])(hi:i∉[1,5,3,8,14,20,24,25,27])
  (hH:∀id x,id∉[4,5].map (fun _=>s.heap.length)→(i=7→∀o,x=Cell.row o→id<4)→s.heap[id]? =some x→H'[id]? =some x) (hlen:s.heap.length≤H'.length):JG (fun j=>D j||j==i) ⟨upd s.env d v,H'⟩:=by
 have hlt:∀{id x},s.heap[id]? =some x→id∉[4,5].map (fun _=>s.heap.length):=fun{id x} hx=>by
  have:=(List.getElem?_eq_some_iff.1 hx).1
  simp;omega
 have gd:∀{id x},(i=7→∀o,x=Cell.row o→id<4)→s.heap[id]? =some x→H'[id]? =some x:=fun h1 hx=>hH _ _ (hlt hx) h1 hx
 simp only[List.mem_cons,not_or,List.not_mem_nil,not_false_eq_true,and_true]at hd hi
 obtain⟨d2,d3,d5,d6,d17,d20,d36,d1⟩:=hd
 obtain⟨i1,i5,i3,i8,i14,i20,i24,i25,i27⟩:=hi
 have ne:∀{a},a≠d→upd s.env d v a=s.env a:=fun h=>aX _ _ _ h
 have off:∀{j},j≠i→(D j||j==i)=D j:=fun{j} h=>by simp[h]
 refine⟨(ne (Ne.symm d2)).trans h.e2,(ne (Ne.symm d3)).trans h.e3,(ne (Ne.symm d5)).trans h.e5,(ne (Ne.symm d6)).trans h.e6,gd (fun _ _ _=>by omega) h.h0,gd (fun _ _ _=>by omega) h.h1,gd (fun _ _ _=>by omega) h.h3,Nat.le_trans h.hl hlen,EA h.val hu,fun hD=>?_,fun hD h7=>?_,fun x hx hD=>?_⟩
 ·rw[off (Ne.symm i1)]at hD
  obtain⟨m,es,m1,m2,m3,m4,m5,m6⟩:=h.mp hD
  refine⟨m,es,m1,(ne (Ne.symm d17)).trans m2,gd (fun _ _ e=>by cases e) m3,fun q=>?_,fun hD=>?_,fun hD=>?_⟩
  ·rw[m4 q]
   constructor
   ·rintro⟨j,hj,hd⟩
    exact⟨j,hj,by simp[hd]⟩
   ·rintro⟨j,hj,hd⟩
    refine⟨j,hj,?_⟩
    have:j≠i:=by
     simp only[IG,List.mem_cons,List.not_mem_nil,or_false,Prod.mk.injEq]at hj
     omega
    rwa [off this]at hd
  ·rw[off (Ne.symm i25)]at hD;exact(ne (Ne.symm d36)).trans (m5 hD)
  ·rw[off (Ne.symm i27)]at hD;exact(ne (Ne.symm d1)).trans (m6 hD)
 ·rw[off (Ne.symm i5)]at hD
  have h7':D 7=false∧¬i=7:=by
   simp only[Bool.or_eq_false_iff,beq_eq_false_iff_ne]at h7
   exact⟨h7.1,fun e=>h7.2 e.symm⟩
  obtain⟨r,r1,r2,r3⟩:=h.rw hD h7'.1
  exact⟨r,r1,(ne (Ne.symm d20)).trans r2,gd (fun e=>absurd e h7'.2) r3⟩
 ·rw[off (Ne.symm i1)]
  refine h.nin x hx ?_
  have:x≠i:=by
   simp only[List.mem_cons,List.not_mem_nil,or_false]at hx
   omega
  rwa [off this]at hD
theorem dZ{α:Type}{H:List α}{y:α}:∀(id:Nat) (x:α),H[id]? =some x→(H++[y])[id]? =some x:=fun id x h=>by
 rw[List.getElem?_append_left (List.getElem?_eq_some_iff.1 h).1];exact h
theorem gO{s:By}{x:AV}:∀{es:List (AV×AV)},(∀q∈es,∃t,q.1=ss t∧t≠s)→updA Tryz.prog 9 (ss s) x es=some (es++[(ss s,x)])
 | [],_=>rfl
 |(a,v)::es,h=>by
  obtain⟨t,ht,hne⟩:=h (a,v) (by simp)
  have ht:a=ss t:=ht
  subst ht
  have e:¬s=t:=fun e=>hne e.symm
  have ih:=gO (x:=x) (es:=es) fun q hq=>h q (by simp[hq])
  simp only[updA,cJ,e,decide_false,List.cons_append]at ih⊢
  rw[ih];rfl
theorem IT{i:Nat}{q q':AV×AV}(h:(i,q)∈IG)(h':(i,q')∈IG):q=q':=by
 simp only[IG,List.mem_cons,List.not_mem_nil,or_false,Prod.mk.injEq]at h h'
 rcases h with⟨rfl,rfl⟩|⟨rfl,rfl⟩|⟨rfl,rfl⟩|⟨rfl,rfl⟩|⟨rfl,rfl⟩<;>simp at h'<;>exact h'.symm
theorem lZ{i k:Nat}{q:AV×AV}{s:By}{v:AV}(h:(i,q)∈IG)(hk:(k,(ss s,v))∈IG)(hne:i≠k):∃t,q.1=ss t∧t≠s:=by
 simp only[IG,List.mem_cons,List.not_mem_nil,or_false,Prod.mk.injEq]at h hk
 have inj:∀{a b:By},ss a=ss b→a=b:=fun h=>by
  simp only[AV.v.injEq,Value.string.injEq]at h
  exact vW.1 h
 rcases h with⟨rfl,rfl⟩|⟨rfl,rfl⟩|⟨rfl,rfl⟩|⟨rfl,rfl⟩|⟨rfl,rfl⟩<;>refine⟨_,rfl,fun e=>?_⟩<;>subst e<;>rcases hk with⟨rfl,hk,_⟩|⟨rfl,hk,_⟩|⟨rfl,hk,_⟩|⟨rfl,hk,_⟩|⟨rfl,hk,_⟩<;>first|exact hne rfl|exact absurd (inj hk) (by decide)
theorem JG.ins{D:Nat→Bool}{E:Nat→AV}{H:List Cell}(h:JG D ⟨E,H⟩){k m:Nat}{q:AV×AV}{es:List (AV×AV)}(hD:D 1=true)(hk:k∈[3,8,14,20,24])(hq:(k,q)∈IG)(m1:4≤m)(m2:E 17=.ow m)(m3:H[m]? =some (.map ⟨9,125,es⟩))(m4:∀q,q∈es↔∃i,(i,q)∈IG∧D i=true)(m5:D 25=true→E 36=.ow m)(m6:D 27=true→E 1=.ow m):
  JG (fun j=>D j||j==k) ⟨E,H.set m (.map ⟨9,125,es++[q]⟩)⟩:=by
 have hlt:m<H.length:=(List.getElem?_eq_some_iff.1 m3).1
 have off:∀{j},j≠k→(D j||j==k)=D j:=fun{j} h=>by simp[h]
 simp only[List.mem_cons,List.not_mem_nil,or_false]at hk
 have st:∀{id x},H[id]? =some x→id≠m→(H.set m (.map ⟨9,125,es++[q]⟩))[id]? =some x:=fun{id x} hx hne=>by
  rw[List.getElem?_set_ne (Ne.symm hne)];exact hx
 refine⟨h.e2,h.e3,h.e5,h.e6,st h.h0 (by omega),st h.h1 (by omega),st h.h3 (by omega),by have:=h.hl;simpa using this,fun x hx hd=>?_,fun _=>⟨m,es++[q],m1,m2,by simp[hlt],fun p=>?_,fun hd=>?_,fun hd=>?_⟩,fun hd h7=>?_,fun i hi hd=>?_⟩
 ·refine h.val x hx ?_
  rwa [off ?_]at hd
  simp only[VG,List.mem_cons,List.not_mem_nil,or_false]at hx
  rcases hx with rfl|rfl|rfl|rfl|rfl|rfl|rfl|rfl|rfl|rfl|rfl|rfl|rfl|rfl|rfl|rfl|rfl|rfl|rfl<;>simp only[]<;>omega
 ·rw[List.mem_append,m4 p,List.mem_singleton]
  constructor
  ·rintro(⟨j,hj,hd⟩|rfl)
   ·exact⟨j,hj,by simp[hd]⟩
   ·exact⟨k,hq,by simp⟩
  ·rintro⟨j,hj,hd⟩
   by_cases e:j=k
   ·subst e;exact .inr (IT hj hq)
   ·rw[off e]at hd;exact .inl ⟨j,hj,hd⟩
 ·rw[off (by omega)]at hd;exact m5 hd
 ·rw[off (by omega)]at hd;exact m6 hd
 ·rw[off (by omega)]at hd h7
  obtain⟨r,r1,r2,r3⟩:=h.rw hd h7
  refine⟨r,r1,r2,st r3 fun e=>?_⟩
  subst e
  have r3:H[r]? =_:=r3
  rw[m3]at r3;cases r3
 ·rw[off (by omega)];exact hD
theorem pW:∀x∈VG,x.1∉[1,5,25,27]∧x.2.1∉[17,20,36,1]:=by simp[VG]
theorem pX{i:Nat}{q:AV×AV}(h:(i,q)∈IG):i∈[3,8,14,20,24]:=by
 simp only[IG,List.mem_cons,List.not_mem_nil,or_false,Prod.mk.injEq]at h
 simp;omega
theorem bX{D:Nat→Bool}{i j:Nat}(h:i≠j):(D i||i==j)=D i:=by simp[h]
theorem JG.rep{D D':Nat→Bool}{E E':Nat→AV}{H H':List Cell}(h:JG D ⟨E,H⟩)(d:Nat)(hd:d∉[2,3,5,6])(hE:∀s,s≠d→E' s=E s)(hH:∀(id:Nat) (x:Cell),H[id]? =some x→H'[id]? =some x)(hlen:H.length≤H'.length)
  (val:∀x∈VG,D' x.1=true→D x.1=true∧x.2.1≠d) (mp:D' 1=true→∃m es,4≤m∧E' 17=.ow m∧H'[m]? =some (.map ⟨9,125,es⟩)∧(∀q,q∈es↔∃i,(i,q)∈IG∧D' i=true)∧(D' 25=true→E' 36=.ow m)∧(D' 27=true→E' 1=.ow m))
  (rw:D' 5=true→D' 7=false→∃r,4≤r∧E' 20=.ow r∧H'[r]? =some (.row ⟨103,3,[.agg [ss [108,97,116,101],ii 2,ii 0]]⟩)) (nin:∀i∈[3,8,14,20,24,25,27],D' i=true→D' 1=true):JG D' ⟨E',H'⟩:=by
 simp only[List.mem_cons,not_or,List.not_mem_nil,not_false_eq_true,and_true]at hd
 obtain⟨d2,d3,d5,d6⟩:=hd
 exact⟨(hE 2 (Ne.symm d2)).trans h.e2,(hE 3 (Ne.symm d3)).trans h.e3,(hE 5 (Ne.symm d5)).trans h.e5,(hE 6 (Ne.symm d6)).trans h.e6,hH _ _ h.h0,hH _ _ h.h1,hH _ _ h.h3,Nat.le_trans h.hl hlen,fun x hx hx2=>(hE _ (val x hx hx2).2).trans (h.val x hx (val x hx hx2).1),mp,rw,nin⟩
theorem JG.end{D:Nat→Bool}{s:St}(h:JG D s)(ha:∀i,i<28→D i=true):∃m es,s.env 0=.sl [ss [100,117,101],ss [102,105,110,101],ss [112,97,121],ss [99,111,118,101,114],ss [104,111,108,100]]∧s.env 1=.ow m∧s.heap[m]? =some (.map ⟨9,125,es⟩)∧∀q,q∈es↔GV q:=by
 obtain⟨m,es,m1,m2,m3,m4,m5,m6⟩:=h.mp (ha 1 (by omega))
 refine⟨m,es,h.val (26,0,.sl [ss [100,117,101],ss [102,105,110,101],ss [112,97,121],ss [99,111,118,101,114],ss [104,111,108,100]]) (by simp[VG]) (ha 26 (by omega)),m6 (ha 27 (by omega)),m3,fun q=>?_⟩
 rw[m4 q]
 constructor
 ·rintro⟨i,hi,_⟩
  exact⟨i,hi⟩
 ·rintro⟨i,hi⟩
  refine⟨i,hi,ha i ?_⟩
  simp only[IG,List.mem_cons,List.not_mem_nil,or_false,Prod.mk.injEq]at hi
  omega
set_option maxHeartbeats 8000000 in
set_option maxRecDepth 20000 in
theorem EB:MeansS Tryz.prog 48 (.tup [.sl [ss [100,117,101],ss [102,105,110,101],ss [112,97,121],ss [99,111,118,101,114],ss [104,111,108,100]],.ow 0]) (fun H=>∃es,H=[.map ⟨9,125,es⟩]∧∀q,q∈es↔GV q):=by
 refine y4 37 [.tmp 0,.tmp 1] Tryz.func48 rfl rfl rfl (by decide) fun X hX=>?_
 have hof:ofV (.map none)=.v (.map none):=rfl
 (repeat(first|refine aS ?_|refine aP ?_|((first|refine aQ [0,1,2,3,4,5,6] hX ?_|refine aJ ?_|refine aR ?_);(simp[go_sem,hof];try(refine⟨by kernel_rfl,?_⟩)))))
 refine bB (st0:=⟨mkE [(2,.el 0 3 0 0),(3,.el 1 3 0 0),(5,.el 3 3 0 0),(6,.sl gvDue)],[.row ⟨103,3,[.agg [ss [109,101,109,98,101,114,115],ii 1,ii 0]]⟩,.row ⟨103,3,[.agg [ss [112,101,114,105,111,100],ii 1,ii 0]]⟩,.dead,.row ⟨103,3,[.agg [ss [97,103,101],ii 2,ii 0]]⟩]⟩) ?_ ?_
 ·refine yS _ [.old 0 ⟨103,3,[.agg [ss [109,101,109,98,101,114,115],ii 1,ii 0]]⟩,.old 1 ⟨103,3,[.agg [ss [112,101,114,105,111,100],ii 1,ii 0]]⟩,.gone 2,.old 3 ⟨103,3,[.agg [ss [97,103,101],ii 2,ii 0]]⟩] ?_
  simp[go_sem]
 refine oG hX mixed JG ?_ (by kernel_rfl) ?_ ?_
 ·refine⟨rfl,rfl,rfl,rfl,rfl,rfl,rfl,Nat.le_refl _,fun _ _ h=>absurd h (by simp),fun h=>absurd h (by simp),fun h=>absurd h (by simp),fun _ _ h=>absurd h (by simp)⟩
 ·intro i o D s hi hdep hDi hJ
  obtain⟨E,H⟩:=s
  match i with
  |0=>
   obtain rfl:=Option.some.inj hi
   clear hi hdep
   refine⟨rfl,?_⟩
   simp[go_sem,normO]
   exact⟨⟨upd E 16 (.sl [ss [100,117,101],ss [102,105,110,101],ss [112,97,121],ss [99,111,118,101,114],ss [104,111,108,100]]),H++[.dead]⟩,hJ.put (i:=0) (v:=.sl [ss [100,117,101],ss [102,105,110,101],ss [112,97,121],ss [99,111,118,101,114],ss [104,111,108,100]]) (by simp[VG]) (by decide) (by decide) (fun id x _ _ h=>dZ id x h) (by simp),j7 (o:=⟨9,1,[ss [100,117,101],ss [102,105,110,101],ss [112,97,121],ss [99,111,118,101,114],ss [104,111,108,100]]⟩) (by decide) rfl⟩
  |1=>
   obtain rfl:=Option.some.inj hi
   clear hi hdep
   refine⟨rfl,?_⟩
   simp[go_sem,normO]
   refine⟨_,hJ.rep 17 (by decide) (fun s h=>aX _ _ _ h) dZ (by simp) (fun x hx hd=>?_) (fun _=>⟨H.length,[],hJ.hl,bK _ _ _,by simp,fun q=>?_,fun hd=>?_,fun hd=>?_⟩) (fun hd h7=>?_) (fun i hi hd=>by simp),Sub.refl⟩
   ·obtain⟨h1,h2⟩:=pW x hx
    simp only[List.mem_cons,not_or]at h1 h2
    rw[bX h1.1]at hd
    exact⟨hd,h2.1⟩
   ·constructor
    ·intro h;cases h
    ·rintro⟨j,hj,hd⟩
     have h1:=pX hj
     rw[bX (by rintro rfl;simp at h1)]at hd
     have:=hJ.nin j (by simp at h1⊢;omega) hd
     rw[hDi]at this;cases this
   ·rw[bX (by decide)]at hd
    have:=hJ.nin 25 (by simp) hd
    rw[hDi]at this;cases this
   ·rw[bX (by decide)]at hd
    have:=hJ.nin 27 (by simp) hd
    rw[hDi]at this;cases this
   ·rw[bX (by decide)]at hd h7
    obtain⟨r,r1,r2,r3⟩:=hJ.rw hd h7
    exact⟨r,r1,(aX _ _ _ (by decide)).trans r2,dZ _ _ r3⟩
  |2=>
   have e6:E 6=.sl gvDue:=hJ.e6
   obtain rfl:=Option.some.inj hi
   clear hi hdep
   refine⟨rfl,?_⟩
   simp[go_sem,normO,e6]
   exact⟨⟨upd E 18 (.sl gvDue),H⟩,hJ.put (i:=2) (v:=.sl gvDue) (by simp[VG]) (by decide) (by decide) (fun _ _ _ _ h=>h) (Nat.le_refl _),Sub.refl⟩
  |3=>
   have d1:D 1=true:=hdep ⟨1,.data⟩ (by obtain rfl:=Option.some.inj hi;simp) rfl
   have d2:D 2=true:=hdep ⟨2,.data⟩ (by obtain rfl:=Option.some.inj hi;simp) rfl
   have v2:E 18=.sl gvDue:=hJ.val (2,18,.sl gvDue) (by simp[VG]) d2
   obtain⟨m,es,m1,m2,m3,m4,m5,m6⟩:=hJ.mp d1
   have m2:E 17=.ow m:=m2
   have m3:H[m]? =some (.map ⟨9,125,es⟩):=m3
   have m5:D 25=true→E 36=.ow m:=m5
   have m6:D 27=true→E 1=.ow m:=m6
   have hu:updA Tryz.prog 9 (ss [100,117,101]) (.sl gvDue) es=some (es++[(ss [100,117,101],.sl gvDue)]):=gO fun q hq=>by
    obtain⟨j,hj,hd⟩:=(m4 q).1 hq
    exact lZ (k:=3) (v:=.sl gvDue) hj (by simp[IG]) fun e=>by rw[e,hDi]at hd;cases hd
   obtain rfl:=Option.some.inj hi
   clear hi hdep
   refine⟨rfl,?_⟩
   simp[go_sem,normO,v2,m2,m3,hu]
   exact⟨_,hJ.ins (k:=3) (q:=(ss [100,117,101],.sl gvDue)) d1 (by decide) (by simp[IG]) m1 m2 m3 m4 m5 m6,Sub.refl⟩
  |4=>
   obtain rfl:=Option.some.inj hi
   clear hi hdep
   refine⟨rfl,?_⟩
   simp[go_sem,normO]
   exact⟨⟨upd E 19 (.agg [ss [108,97,116,101],ii 2,ii 0]),H⟩,hJ.put (i:=4) (v:=.agg [ss [108,97,116,101],ii 2,ii 0]) (by simp[VG]) (by decide) (by decide) (fun _ _ _ _ h=>h) (Nat.le_refl _),Sub.refl⟩
  |5=>
   have d4:D 4=true:=hdep ⟨4,.data⟩ (by obtain rfl:=Option.some.inj hi;simp) rfl
   have v4:E 19=.agg [ss [108,97,116,101],ii 2,ii 0]:=hJ.val (4,19,.agg [ss [108,97,116,101],ii 2,ii 0]) (by simp[VG]) d4
   obtain rfl:=Option.some.inj hi
   clear hi hdep
   refine⟨rfl,?_⟩
   simp[go_sem,normO,v4]
   refine⟨_,hJ.rep 20 (by decide) (fun s h=>aX _ _ _ h) dZ (by simp) (fun x hx hd=>?_) (fun hd=>?_) (fun _ _=>⟨H.length,hJ.hl,bK _ _ _,by simp⟩) (fun i hi hd=>?_),Sub.refl⟩
   ·obtain⟨h1,h2⟩:=pW x hx
    simp only[List.mem_cons,not_or]at h1 h2
    rw[bX h1.2.1]at hd
    exact⟨hd,h2.2.1⟩
   ·rw[bX (by decide)]at hd
    obtain⟨m,es,m1,m2,m3,m4,m5,m6⟩:=hJ.mp hd
    refine⟨m,es,m1,(aX _ _ _ (by decide)).trans m2,dZ _ _ m3,fun q=>(m4 q).trans ⟨fun⟨j,hj,h⟩=>⟨j,hj,by simp[h]⟩,fun⟨j,hj,h⟩=>⟨j,hj,?_⟩⟩,fun hd=>(aX _ _ _ (by decide)).trans (m5 (by rwa [bX (by decide)]at hd)),fun hd=>(aX _ _ _ (by decide)).trans (m6 (by rwa [bX (by decide)]at hd))⟩
    have h1:=pX hj
    rwa [bX (by rintro rfl;simp at h1)]at h
   ·rw[bX (by rintro rfl;simp at hi)]at hd
    rw[bX (by decide)]
    exact hJ.nin i hi hd
  |6=>
   have e6:E 6=.sl gvDue:=hJ.e6
   obtain rfl:=Option.some.inj hi
   clear hi hdep
   refine⟨rfl,?_⟩
   simp[go_sem,normO,e6]
   exact⟨⟨upd E 21 (.sl gvDue),H⟩,hJ.put (i:=6) (v:=.sl gvDue) (by simp[VG]) (by decide) (by decide) (fun _ _ _ _ h=>h) (Nat.le_refl _),Sub.refl⟩
  |7=>
   have d5:D 5=true:=hdep ⟨5,.data⟩ (by obtain rfl:=Option.some.inj hi;simp) rfl
   have d6:D 6=true:=hdep ⟨6,.data⟩ (by obtain rfl:=Option.some.inj hi;simp) rfl
   have v6:E 21=.sl gvDue:=hJ.val (6,21,.sl gvDue) (by simp[VG]) d6
   obtain⟨r,r1,r2,r3⟩:=hJ.rw d5 hDi
   have r2:E 20=.ow r:=r2
   have r3:H[r]? =some (.row ⟨103,3,[.agg [ss [108,97,116,101],ii 2,ii 0]]⟩):=r3
   obtain rfl:=Option.some.inj hi
   clear hi hdep
   refine⟨rfl,?_⟩
   simp[go_sem,normO,v6,r2,r3]
   refine⟨by unfold maxLen;omega,⟨upd E 22 (.sl fineV),H.set r .dead++[.dead]⟩,hJ.put (i:=7) (v:=.sl fineV) (by simp[VG]) (by decide) (by decide) (fun id x _ h hx=>dZ id x ?_) (by simp),?_⟩
   ·rw[List.getElem?_set_ne (fun e=>?_)]
    ·exact hx
    ·subst e
     have hx:H[r]? =some x:=hx
     rw[r3]at hx
     have:=h rfl _ (Option.some.inj hx).symm
     omega
   ·have:=j7 (X:=X) (E:=E) (H:=H.set r .dead) (d:=22) (o:=⟨103,3,fineV⟩) (by decide) rfl
    simpa using this
  |8=>
   have d1:D 1=true:=hdep ⟨1,.data⟩ (by obtain rfl:=Option.some.inj hi;simp) rfl
   have d7:D 7=true:=hdep ⟨7,.data⟩ (by obtain rfl:=Option.some.inj hi;simp) rfl
   have v7:E 22=.sl fineV:=hJ.val (7,22,.sl fineV) (by simp[VG]) d7
   obtain⟨m,es,m1,m2,m3,m4,m5,m6⟩:=hJ.mp d1
   have m2:E 17=.ow m:=m2
   have m3:H[m]? =some (.map ⟨9,125,es⟩):=m3
   have m5:D 25=true→E 36=.ow m:=m5
   have m6:D 27=true→E 1=.ow m:=m6
   have hu:updA Tryz.prog 9 (ss [102,105,110,101]) (.sl fineV) es=some (es++[(ss [102,105,110,101],.sl fineV)]):=gO fun q hq=>by
    obtain⟨j,hj,hd⟩:=(m4 q).1 hq
    exact lZ (k:=8) (v:=.sl fineV) hj (by simp[IG]) fun e=>by rw[e,hDi]at hd;cases hd
   obtain rfl:=Option.some.inj hi
   clear hi hdep
   refine⟨rfl,?_⟩
   simp[go_sem,normO,v7,m2,m3,hu]
   exact⟨_,hJ.ins (k:=8) (q:=(ss [102,105,110,101],.sl fineV)) d1 (by decide) (by simp[IG]) m1 m2 m3 m4 m5 m6,Sub.refl⟩
  |9=>
   obtain rfl:=Option.some.inj hi
   clear hi hdep
   refine⟨rfl,?_⟩
   simp[go_sem,normO]
   exact⟨⟨upd E 23 (.agg [ss [112,111,116],ii 3,ii 0]),H⟩,hJ.put (i:=9) (v:=.agg [ss [112,111,116],ii 3,ii 0]) (by simp[VG]) (by decide) (by decide) (fun _ _ _ _ h=>h) (Nat.le_refl _),Sub.refl⟩
  |10=>
   obtain rfl:=Option.some.inj hi
   clear hi hdep
   refine⟨rfl,?_⟩
   simp[go_sem,normO]
   exact⟨⟨upd E 24 (.agg [ss [98,105,100],ii 3,ii 0]),H⟩,hJ.put (i:=10) (v:=.agg [ss [98,105,100],ii 3,ii 0]) (by simp[VG]) (by decide) (by decide) (fun _ _ _ _ h=>h) (Nat.le_refl _),Sub.refl⟩
  |11=>
   have e2:E 2=.el 0 3 0 0:=hJ.e2
   have h0:H[0]? =some (.row ⟨103,3,[.agg [ss [109,101,109,98,101,114,115],ii 1,ii 0]]⟩):=hJ.h0
   obtain rfl:=Option.some.inj hi
   clear hi hdep
   refine⟨rfl,?_⟩
   simp[go_sem,normO,e2,h0]
   exact⟨⟨upd E 25 (.agg [ss [109,101,109,98,101,114,115],ii 1,ii 0]),H⟩,hJ.put (i:=11) (v:=.agg [ss [109,101,109,98,101,114,115],ii 1,ii 0]) (by simp[VG]) (by decide) (by decide) (fun _ _ _ _ h=>h) (Nat.le_refl _),Sub.refl⟩
  |12=>
   have e3:E 3=.el 1 3 0 0:=hJ.e3
   have h1:H[1]? =some (.row ⟨103,3,[.agg [ss [112,101,114,105,111,100],ii 1,ii 0]]⟩):=hJ.h1
   obtain rfl:=Option.some.inj hi
   clear hi hdep
   refine⟨rfl,?_⟩
   simp[go_sem,normO,e3,h1]
   exact⟨⟨upd E 26 (.agg [ss [112,101,114,105,111,100],ii 1,ii 0]),H⟩,hJ.put (i:=12) (v:=.agg [ss [112,101,114,105,111,100],ii 1,ii 0]) (by simp[VG]) (by decide) (by decide) (fun _ _ _ _ h=>h) (Nat.le_refl _),Sub.refl⟩
  |13=>
   have d9:D 9=true:=hdep ⟨9,.data⟩ (by obtain rfl:=Option.some.inj hi;simp) rfl
   have v9:E 23=.agg [ss [112,111,116],ii 3,ii 0]:=hJ.val (9,23,.agg [ss [112,111,116],ii 3,ii 0]) (by simp[VG]) d9
   have d10:D 10=true:=hdep ⟨10,.data⟩ (by obtain rfl:=Option.some.inj hi;simp) rfl
   have v10:E 24=.agg [ss [98,105,100],ii 3,ii 0]:=hJ.val (10,24,.agg [ss [98,105,100],ii 3,ii 0]) (by simp[VG]) d10
   have d11:D 11=true:=hdep ⟨11,.data⟩ (by obtain rfl:=Option.some.inj hi;simp) rfl
   have v11:E 25=.agg [ss [109,101,109,98,101,114,115],ii 1,ii 0]:=hJ.val (11,25,.agg [ss [109,101,109,98,101,114,115],ii 1,ii 0]) (by simp[VG]) d11
   have d12:D 12=true:=hdep ⟨12,.data⟩ (by obtain rfl:=Option.some.inj hi;simp) rfl
   have v12:E 26=.agg [ss [112,101,114,105,111,100],ii 1,ii 0]:=hJ.val (12,26,.agg [ss [112,101,114,105,111,100],ii 1,ii 0]) (by simp[VG]) d12
   obtain rfl:=Option.some.inj hi
   clear hi hdep
   refine⟨rfl,?_⟩
   simp[go_sem,normO,v9,v10,v11,v12]
   exact⟨⟨upd E 27 (.sl payV),H++[.dead]⟩,hJ.put (i:=13) (v:=.sl payV) (by simp[VG]) (by decide) (by decide) (fun id x _ _ h=>dZ id x h) (by simp),j7 (o:=⟨103,3,payV⟩) (by decide) rfl⟩
  |14=>
   have d1:D 1=true:=hdep ⟨1,.data⟩ (by obtain rfl:=Option.some.inj hi;simp) rfl
   have d13:D 13=true:=hdep ⟨13,.data⟩ (by obtain rfl:=Option.some.inj hi;simp) rfl
   have v13:E 27=.sl payV:=hJ.val (13,27,.sl payV) (by simp[VG]) d13
   obtain⟨m,es,m1,m2,m3,m4,m5,m6⟩:=hJ.mp d1
   have m2:E 17=.ow m:=m2
   have m3:H[m]? =some (.map ⟨9,125,es⟩):=m3
   have m5:D 25=true→E 36=.ow m:=m5
   have m6:D 27=true→E 1=.ow m:=m6
   have hu:updA Tryz.prog 9 (ss [112,97,121]) (.sl payV) es=some (es++[(ss [112,97,121],.sl payV)]):=gO fun q hq=>by
    obtain⟨j,hj,hd⟩:=(m4 q).1 hq
    exact lZ (k:=14) (v:=.sl payV) hj (by simp[IG]) fun e=>by rw[e,hDi]at hd;cases hd
   obtain rfl:=Option.some.inj hi
   clear hi hdep
   refine⟨rfl,?_⟩
   simp[go_sem,normO,v13,m2,m3,hu]
   exact⟨_,hJ.ins (k:=14) (q:=(ss [112,97,121],.sl payV)) d1 (by decide) (by simp[IG]) m1 m2 m3 m4 m5 m6,Sub.refl⟩
  |15=>
   obtain rfl:=Option.some.inj hi
   clear hi hdep
   refine⟨rfl,?_⟩
   simp[go_sem,normO]
   exact⟨⟨upd E 28 (.agg [ss [112,97,105,100],ii 3,ii 0]),H⟩,hJ.put (i:=15) (v:=.agg [ss [112,97,105,100],ii 3,ii 0]) (by simp[VG]) (by decide) (by decide) (fun _ _ _ _ h=>h) (Nat.le_refl _),Sub.refl⟩
  |16=>
   obtain rfl:=Option.some.inj hi
   clear hi hdep
   refine⟨rfl,?_⟩
   simp[go_sem,normO]
   exact⟨⟨upd E 29 (.agg [ss [99,108,97,105,109,115],ii 1,ii 0]),H⟩,hJ.put (i:=16) (v:=.agg [ss [99,108,97,105,109,115],ii 1,ii 0]) (by simp[VG]) (by decide) (by decide) (fun _ _ _ _ h=>h) (Nat.le_refl _),Sub.refl⟩
  |17=>
   have e5:E 5=.el 3 3 0 0:=hJ.e5
   have h3:H[3]? =some (.row ⟨103,3,[.agg [ss [97,103,101],ii 2,ii 0]]⟩):=hJ.h3
   obtain rfl:=Option.some.inj hi
   clear hi hdep
   refine⟨rfl,?_⟩
   simp[go_sem,normO,e5,h3]
   exact⟨⟨upd E 30 (.agg [ss [97,103,101],ii 2,ii 0]),H⟩,hJ.put (i:=17) (v:=.agg [ss [97,103,101],ii 2,ii 0]) (by simp[VG]) (by decide) (by decide) (fun _ _ _ _ h=>h) (Nat.le_refl _),Sub.refl⟩
  |18=>
   have e2:E 2=.el 0 3 0 0:=hJ.e2
   have h0:H[0]? =some (.row ⟨103,3,[.agg [ss [109,101,109,98,101,114,115],ii 1,ii 0]]⟩):=hJ.h0
   obtain rfl:=Option.some.inj hi
   clear hi hdep
   refine⟨rfl,?_⟩
   simp[go_sem,normO,e2,h0]
   exact⟨⟨upd E 31 (.agg [ss [109,101,109,98,101,114,115],ii 1,ii 0]),H⟩,hJ.put (i:=18) (v:=.agg [ss [109,101,109,98,101,114,115],ii 1,ii 0]) (by simp[VG]) (by decide) (by decide) (fun _ _ _ _ h=>h) (Nat.le_refl _),Sub.refl⟩
  |19=>
   have d15:D 15=true:=hdep ⟨15,.data⟩ (by obtain rfl:=Option.some.inj hi;simp) rfl
   have v15:E 28=.agg [ss [112,97,105,100],ii 3,ii 0]:=hJ.val (15,28,.agg [ss [112,97,105,100],ii 3,ii 0]) (by simp[VG]) d15
   have d16:D 16=true:=hdep ⟨16,.data⟩ (by obtain rfl:=Option.some.inj hi;simp) rfl
   have v16:E 29=.agg [ss [99,108,97,105,109,115],ii 1,ii 0]:=hJ.val (16,29,.agg [ss [99,108,97,105,109,115],ii 1,ii 0]) (by simp[VG]) d16
   have d17:D 17=true:=hdep ⟨17,.data⟩ (by obtain rfl:=Option.some.inj hi;simp) rfl
   have v17:E 30=.agg [ss [97,103,101],ii 2,ii 0]:=hJ.val (17,30,.agg [ss [97,103,101],ii 2,ii 0]) (by simp[VG]) d17
   have d18:D 18=true:=hdep ⟨18,.data⟩ (by obtain rfl:=Option.some.inj hi;simp) rfl
   have v18:E 31=.agg [ss [109,101,109,98,101,114,115],ii 1,ii 0]:=hJ.val (18,31,.agg [ss [109,101,109,98,101,114,115],ii 1,ii 0]) (by simp[VG]) d18
   obtain rfl:=Option.some.inj hi
   clear hi hdep
   refine⟨rfl,?_⟩
   simp[go_sem,normO,v15,v16,v17,v18]
   exact⟨⟨upd E 32 (.sl coverV),H++[.dead]⟩,hJ.put (i:=19) (v:=.sl coverV) (by simp[VG]) (by decide) (by decide) (fun id x _ _ h=>dZ id x h) (by simp),j7 (o:=⟨103,3,coverV⟩) (by decide) rfl⟩
  |20=>
   have d1:D 1=true:=hdep ⟨1,.data⟩ (by obtain rfl:=Option.some.inj hi;simp) rfl
   have d19:D 19=true:=hdep ⟨19,.data⟩ (by obtain rfl:=Option.some.inj hi;simp) rfl
   have v19:E 32=.sl coverV:=hJ.val (19,32,.sl coverV) (by simp[VG]) d19
   obtain⟨m,es,m1,m2,m3,m4,m5,m6⟩:=hJ.mp d1
   have m2:E 17=.ow m:=m2
   have m3:H[m]? =some (.map ⟨9,125,es⟩):=m3
   have m5:D 25=true→E 36=.ow m:=m5
   have m6:D 27=true→E 1=.ow m:=m6
   have hu:updA Tryz.prog 9 (ss [99,111,118,101,114]) (.sl coverV) es=some (es++[(ss [99,111,118,101,114],.sl coverV)]):=gO fun q hq=>by
    obtain⟨j,hj,hd⟩:=(m4 q).1 hq
    exact lZ (k:=20) (v:=.sl coverV) hj (by simp[IG]) fun e=>by rw[e,hDi]at hd;cases hd
   obtain rfl:=Option.some.inj hi
   clear hi hdep
   refine⟨rfl,?_⟩
   simp[go_sem,normO,v19,m2,m3,hu]
   exact⟨_,hJ.ins (k:=20) (q:=(ss [99,111,118,101,114],.sl coverV)) d1 (by decide) (by simp[IG]) m1 m2 m3 m4 m5 m6,Sub.refl⟩
  |21=>
   have e2:E 2=.el 0 3 0 0:=hJ.e2
   have h0:H[0]? =some (.row ⟨103,3,[.agg [ss [109,101,109,98,101,114,115],ii 1,ii 0]]⟩):=hJ.h0
   obtain rfl:=Option.some.inj hi
   clear hi hdep
   refine⟨rfl,?_⟩
   simp[go_sem,normO,e2,h0]
   exact⟨⟨upd E 33 (.agg [ss [109,101,109,98,101,114,115],ii 1,ii 0]),H⟩,hJ.put (i:=21) (v:=.agg [ss [109,101,109,98,101,114,115],ii 1,ii 0]) (by simp[VG]) (by decide) (by decide) (fun _ _ _ _ h=>h) (Nat.le_refl _),Sub.refl⟩
  |22=>
   obtain rfl:=Option.some.inj hi
   clear hi hdep
   refine⟨rfl,?_⟩
   simp[go_sem,normO]
   exact⟨⟨upd E 34 (.agg [ss [104,111,108,100,115],ii 3,ii 0]),H⟩,hJ.put (i:=22) (v:=.agg [ss [104,111,108,100,115],ii 3,ii 0]) (by simp[VG]) (by decide) (by decide) (fun _ _ _ _ h=>h) (Nat.le_refl _),Sub.refl⟩
  |23=>
   have d21:D 21=true:=hdep ⟨21,.data⟩ (by obtain rfl:=Option.some.inj hi;simp) rfl
   have v21:E 33=.agg [ss [109,101,109,98,101,114,115],ii 1,ii 0]:=hJ.val (21,33,.agg [ss [109,101,109,98,101,114,115],ii 1,ii 0]) (by simp[VG]) d21
   have d22:D 22=true:=hdep ⟨22,.data⟩ (by obtain rfl:=Option.some.inj hi;simp) rfl
   have v22:E 34=.agg [ss [104,111,108,100,115],ii 3,ii 0]:=hJ.val (22,34,.agg [ss [104,111,108,100,115],ii 3,ii 0]) (by simp[VG]) d22
   obtain rfl:=Option.some.inj hi
   clear hi hdep
   refine⟨rfl,?_⟩
   simp[go_sem,normO,v21,v22]
   exact⟨⟨upd E 35 (.sl holdV),H++[.dead]⟩,hJ.put (i:=23) (v:=.sl holdV) (by simp[VG]) (by decide) (by decide) (fun id x _ _ h=>dZ id x h) (by simp),j7 (o:=⟨103,3,holdV⟩) (by decide) rfl⟩
  |24=>
   have d1:D 1=true:=hdep ⟨1,.data⟩ (by obtain rfl:=Option.some.inj hi;simp) rfl
   have d23:D 23=true:=hdep ⟨23,.data⟩ (by obtain rfl:=Option.some.inj hi;simp) rfl
   have v23:E 35=.sl holdV:=hJ.val (23,35,.sl holdV) (by simp[VG]) d23
   obtain⟨m,es,m1,m2,m3,m4,m5,m6⟩:=hJ.mp d1
   have m2:E 17=.ow m:=m2
   have m3:H[m]? =some (.map ⟨9,125,es⟩):=m3
   have m5:D 25=true→E 36=.ow m:=m5
   have m6:D 27=true→E 1=.ow m:=m6
   have hu:updA Tryz.prog 9 (ss [104,111,108,100]) (.sl holdV) es=some (es++[(ss [104,111,108,100],.sl holdV)]):=gO fun q hq=>by
    obtain⟨j,hj,hd⟩:=(m4 q).1 hq
    exact lZ (k:=24) (v:=.sl holdV) hj (by simp[IG]) fun e=>by rw[e,hDi]at hd;cases hd
   obtain rfl:=Option.some.inj hi
   clear hi hdep
   refine⟨rfl,?_⟩
   simp[go_sem,normO,v23,m2,m3,hu]
   exact⟨_,hJ.ins (k:=24) (q:=(ss [104,111,108,100],.sl holdV)) d1 (by decide) (by simp[IG]) m1 m2 m3 m4 m5 m6,Sub.refl⟩
  |25=>
   have d1:D 1=true:=hdep ⟨1,.data⟩ (by obtain rfl:=Option.some.inj hi;simp) rfl
   obtain⟨m,es,m1,m2,m3,m4,m5,m6⟩:=hJ.mp d1
   have m2:E 17=.ow m:=m2
   have m3:H[m]? =some (.map ⟨9,125,es⟩):=m3
   have m5:D 25=true→E 36=.ow m:=m5
   have m6:D 27=true→E 1=.ow m:=m6
   obtain rfl:=Option.some.inj hi
   clear hi hdep
   refine⟨rfl,?_⟩
   simp[go_sem,normO,m2,m3]
   refine⟨(List.getElem?_eq_some_iff.1 m3).1,_,hJ.rep 36 (by decide) (fun s h=>aX _ _ _ h) (fun _ _ h=>h) (Nat.le_refl _) (fun x hx hd=>?_) (fun _=>⟨m,es,m1,(aX _ _ _ (by decide)).trans m2,m3,fun q=>(m4 q).trans ⟨fun⟨j,hj,h⟩=>⟨j,hj,by simp[h]⟩,fun⟨j,hj,h⟩=>⟨j,hj,?_⟩⟩,fun _=>bK _ _ _,fun hd=>(aX _ _ _ (by decide)).trans (m6 (by rwa [bX (by decide)]at hd))⟩) (fun hd h7=>?_) (fun i hi hd=>by rw[bX (by decide)];exact d1),Sub.refl⟩
   ·obtain⟨h1,h2⟩:=pW x hx
    simp only[List.mem_cons,not_or]at h1 h2
    rw[bX h1.2.2.1]at hd
    exact⟨hd,h2.2.2.1⟩
   ·have h1:=pX hj
    rwa [bX (by rintro rfl;simp at h1)]at h
   ·rw[bX (by decide)]at hd h7
    obtain⟨r,r1,r2,r3⟩:=hJ.rw hd h7
    exact⟨r,r1,(aX _ _ _ (by decide)).trans r2,r3⟩
  |26=>
   have d0:D 0=true:=hdep ⟨0,.data⟩ (by obtain rfl:=Option.some.inj hi;simp) rfl
   have v0:E 16=.sl [ss [100,117,101],ss [102,105,110,101],ss [112,97,121],ss [99,111,118,101,114],ss [104,111,108,100]]:=hJ.val (0,16,.sl [ss [100,117,101],ss [102,105,110,101],ss [112,97,121],ss [99,111,118,101,114],ss [104,111,108,100]]) (by simp[VG]) d0
   obtain rfl:=Option.some.inj hi
   clear hi hdep
   refine⟨rfl,?_⟩
   simp[go_sem,normO,v0]
   exact⟨⟨upd E 0 (.sl [ss [100,117,101],ss [102,105,110,101],ss [112,97,121],ss [99,111,118,101,114],ss [104,111,108,100]]),H⟩,hJ.put (i:=26) (v:=.sl [ss [100,117,101],ss [102,105,110,101],ss [112,97,121],ss [99,111,118,101,114],ss [104,111,108,100]]) (by simp[VG]) (by decide) (by decide) (fun _ _ _ _ h=>h) (Nat.le_refl _),Sub.refl⟩
  |27=>
   have d25:D 25=true:=hdep ⟨25,.data⟩ (by obtain rfl:=Option.some.inj hi;simp) rfl
   have d1:D 1=true:=hJ.nin 25 (by simp) d25
   obtain⟨m,es,m1,m2,m3,m4,m5,m6⟩:=hJ.mp d1
   have m2:E 17=.ow m:=m2
   have m3:H[m]? =some (.map ⟨9,125,es⟩):=m3
   have m5:D 25=true→E 36=.ow m:=m5
   have m6:D 27=true→E 1=.ow m:=m6
   have e36:=m5 d25
   obtain rfl:=Option.some.inj hi
   clear hi hdep
   refine⟨rfl,?_⟩
   simp[go_sem,normO,m2,m3,e36]
   refine⟨(List.getElem?_eq_some_iff.1 m3).1,_,hJ.rep 1 (by decide) (fun s h=>aX _ _ _ h) (fun _ _ h=>h) (Nat.le_refl _) (fun x hx hd=>?_) (fun _=>⟨m,es,m1,(aX _ _ _ (by decide)).trans m2,m3,fun q=>(m4 q).trans ⟨fun⟨j,hj,h⟩=>⟨j,hj,by simp[h]⟩,fun⟨j,hj,h⟩=>⟨j,hj,?_⟩⟩,fun hd=>(aX _ _ _ (by decide)).trans (m5 (by rwa [bX (by decide)]at hd)),fun _=>bK _ _ _⟩) (fun hd h7=>?_) (fun i hi hd=>by rw[bX (by decide)];exact d1),Sub.refl⟩
   ·obtain⟨h1,h2⟩:=pW x hx
    simp only[List.mem_cons,not_or]at h1 h2
    rw[bX h1.2.2.2.1]at hd
    exact⟨hd,h2.2.2.2.1⟩
   ·have h1:=pX hj
    rwa [bX (by rintro rfl;simp at h1)]at h
   ·rw[bX (by decide)]at hd h7
    obtain⟨r,r1,r2,r3⟩:=hJ.rw hd h7
    exact⟨r,r1,(aX _ _ _ (by decide)).trans r2,r3⟩
  |n+28=>simp at hi
 ·intro D s ha hJ
  obtain⟨m,es,e0,e1,hm,hes⟩:=hJ.end ha
  obtain⟨E,H⟩:=s
  have e0:E 0=.sl [ss [100,117,101],ss [102,105,110,101],ss [112,97,121],ss [99,111,118,101,114],ss [104,111,108,100]]:=e0
  have e1:E 1=.ow m:=e1
  have hm:H[m]? =some (.map ⟨9,125,es⟩):=hm
  clear ha hJ
  refine bB (st0:=⟨mkE [(0,.sl [ss [100,117,101],ss [102,105,110,101],ss [112,97,121],ss [99,111,118,101,114],ss [104,111,108,100]]),(1,.ow 0)],[.map ⟨9,125,es⟩]⟩) ?_ ?_
  ·refine yS _ [.oldM m ⟨9,125,es⟩] ?_ (by simp[go_sem,e0,e1,hm])
   simp[go_sem,e0,e1,hm]
  ·refine aB ?_
   refine⟨[.map ⟨9,125,es⟩],⟨es,rfl,fun a b=>hes (a,b)⟩,?_⟩
   refine aA [(0,.sl [ss [100,117,101],ss [102,105,110,101],ss [112,97,121],ss [99,111,118,101,114],ss [104,111,108,100]]),(1,.ow 0)] [.oldM 0 ⟨9,125,es⟩] ?_
   simp[go_sem]
end Go.Proofs.YtllgjognpobnpaaGreatDoor

namespace Go.Proofs.YtllgjognpobnpaaGreatDoor
open Go.RowKit Go.Ab
attribute [local irreducible] AWP Go.Ab.Sub Means MeansH CallK CallG CallT CallGT PanicH DefH CallU MeansS
set_option maxHeartbeats 4000000 in
theorem EC(f:FuncId)(E0 k0:Nat)(c0:AV)(p:(By×Int)→Bool)(L:List (By×Int))(hl:L.length≤100000)(hz0:c0.flat.all AV.zone=true)(hf:∀x∈L,MeansH Tryz.prog f [.row ⟨E0,k0,[c0]⟩] [vr x,.el 0 k0 0 0] (bb (p x)) [.row ⟨E0,k0,[c0]⟩])(hcall:callable Tryz.prog f=true):
  MeansH Tryz.prog 99 [.row ⟨E0,k0,[c0]⟩] [.sl (L.map vr),.fn f [] [.el 0 k0 0 0]] (ii (match L.findIdx? p with|some n=>(n:Int)|none=> -1)) [.row ⟨E0,k0,[c0]⟩]:=by
 have hy0:∀x∈c0.flat,x.zone=true:=by simpa using hz0
 refine yN 1 19 [.tmp 4] [0,1,4,5,7,8,9,16,1000000] Tryz.func99 fun X hX=>?_
 (repeat(refine yB ?_;(simp[go_sem])))
 refine aG (fun n:Nat=>⟨mkE [(0,.sl (L.map vr)),(1,.fn f [] [.el 0 k0 0 0]),(7,ii L.length),(8,ii n),(1000000,.ow 0)],[.row ⟨E0,k0,[c0]⟩]⟩) (fun n=>n≤L.length∧∀k (h:k<L.length),k<n→p L[k]=false) (fun n=>L.length-n) 0 ?_ ?_ ?_
 ·refine yS _ [.old 0 ⟨E0,k0,[c0]⟩] ?_ (by simp[go_sem,hz0,hy0])
  simp[go_sem,hz0,hy0]
 ·exact⟨Nat.zero_le _,fun k h hk=>absurd hk (by omega)⟩
 ·rintro n ⟨h1,h2⟩
  (repeat(refine yB ?_;(simp[go_sem])))
  refine yC (decide (n<L.length)) (fun hc=>?_) fun hc=>?_
  ·simp at hc
   have hq:=AR hc
   have wk:=w64 (x:=(n:Int)+1) (by omega) (by omega)
   (repeat(refine yB ?_;(simp[go_sem,hc,hq,hcall])))
   refine aV [0] (hf L[n] (List.getElem_mem hc)) (by simp[go_sem,hz0,hy0]) ?_
   simp[go_sem,hz0]
   refine yC (p L[n]) (fun hs=>?_) fun hs=>?_
   ·have e1:L.findIdx? p=some n:=by
     rw[List.findIdx?_eq_some_iff_getElem]
     exact⟨hc,hs,fun k hk=>by rw[h2 k (by omega) hk];simp⟩
    rw[e1]
    (repeat(refine yB ?_;(simp[go_sem])))
    refine aB ?_;simp only[thenQ,blkQ,loopQ];refine aA [(4,ii n),(1000000,.ow 0)] [.old 0 ⟨E0,k0,[c0]⟩] ?_
    simp[go_sem,hz0,hy0]
   ·(repeat(refine yB ?_;(simp[go_sem,wk])))
    refine⟨n+1,⟨by omega,fun k h hk=>?_⟩,by omega,?_⟩
    ·by_cases e:k=n
     ·subst e;exact hs
     ·exact h2 k h (by omega)
    ·refine yS _ [.old 0 ⟨E0,k0,[c0]⟩] ?_ (by simp[go_sem,hz0,hy0])
     simp[go_sem,hz0,hy0]
  ·simp at hc
   have e1:L.findIdx? p=none:=by
    rw[List.findIdx?_eq_none_iff]
    intro x hx
    obtain⟨k,hk,rfl⟩:=List.getElem_of_mem hx
    exact h2 k hk (by omega)
   rw[e1]
   (repeat(refine yB ?_;(simp[go_sem])))
   refine aB ?_;refine aA [(4,ii (-1)),(1000000,.ow 0)] [.old 0 ⟨E0,k0,[c0]⟩] ?_
   simp[go_sem,hz0,hy0]
theorem ED(f:FuncId)(E0 k0:Nat)(c0:AV)(p:(By×Int)→Bool)(L:List (By×Int))(hl:L.length≤100000)(hz0:c0.flat.all AV.zone=true)(hf:∀x∈L,MeansH Tryz.prog f [.row ⟨E0,k0,[c0]⟩] [vr x,.el 0 k0 0 0] (bb (p x)) [.row ⟨E0,k0,[c0]⟩])(hcall:callable Tryz.prog f=true):
  MeansH Tryz.prog 49 [.row ⟨E0,k0,[c0]⟩] [.sl (L.map vr),.fn f [] [.el 0 k0 0 0]] (bb (L.any p)) [.row ⟨E0,k0,[c0]⟩]:=by
 have hy0:∀x∈c0.flat,x.zone=true:=by simpa using hz0
 have hI:=EC f E0 k0 c0 p L hl hz0 hf hcall
 refine yN 1 9 [.tmp 4] [0,1,4,1000000] Tryz.func49 fun X hX=>?_
 (repeat(refine yB ?_;(simp[go_sem])))
 refine aV [0] hI (by simp[go_sem,hz0,hy0]) ?_
 simp[go_sem,hz0]
 have e:decide (0≤(match L.findIdx? p with|some n=>(n:Int)|none=> -1))=L.any p:=by
  cases hf:L.findIdx? p with
  |none=>
   have:L.any p=false:=by
    rw[List.any_eq_false]
    intro x hx
    rw[List.findIdx?_eq_none_iff.1 hf x hx];simp
   rw[this];rfl
  |some n=>
   obtain⟨h1,h2,_⟩:=List.findIdx?_eq_some_iff_getElem.1 hf
   have:L.any p=true:=List.any_eq_true.2 ⟨L[n],List.getElem_mem h1,h2⟩
   rw[this]
   simp
 rw[←e]
 refine aB ?_;refine aA [(4,bb (decide (0≤(match L.findIdx? p with|some n=>(n:Int)|none=> -1)))),(1000000,.ow 0)] [.old 0 ⟨E0,k0,[c0]⟩] ?_
 simp[go_sem,hz0,hy0]
theorem GW(l:By×E)(v:By×Int):MeansH Tryz.prog 50 [.row ⟨119,6,[lt l]⟩] [vr v,.el 0 6 0 0] (bb (decide (v.1=l.1))) [.row ⟨119,6,[lt l]⟩]:=by
 refine yN 1 9 [.tmp 3] [0,1,2,3,1000000] Tryz.func50 fun X hX=>?_
 (repeat(refine yB ?_;(simp[go_sem])))
 refine aB ?_;refine aA [(3,bb (decide (v.1=l.1))),(1000000,.ow 0)] [.old 0 ⟨119,6,[lt l]⟩] ?_
 simp[go_sem]
theorem AS:∀p∈gAll,GV (ss p.1,.sl (p.2.map vr)):=by
 intro p hp
 simp only[gAll,List.mem_cons,List.not_mem_nil,or_false]at hp
 rcases hp with rfl|rfl|rfl|rfl|rfl
 ·exact⟨3,by simp[IG];rfl⟩
 ·exact⟨8,by simp[IG];rfl⟩
 ·exact⟨14,by simp[IG];rfl⟩
 ·exact⟨20,by simp[IG];rfl⟩
 ·exact⟨24,by simp[IG];rfl⟩
theorem tW{q:AV×AV}(h:GV q):∃p∈gAll,q=(ss p.1,.sl (p.2.map vr)):=by
 obtain⟨i,h⟩:=h
 simp only[IG,List.mem_cons,List.not_mem_nil,or_false,Prod.mk.injEq]at h
 rcases h with⟨rfl,rfl⟩|⟨rfl,rfl⟩|⟨rfl,rfl⟩|⟨rfl,rfl⟩|⟨rfl,rfl⟩
 ·exact⟨([100,117,101],gDue),by simp[gAll],rfl⟩
 ·exact⟨([102,105,110,101],gFine),by simp[gAll],rfl⟩
 ·exact⟨([112,97,121],gPay),by simp[gAll],rfl⟩
 ·exact⟨([99,111,118,101,114],gCov),by simp[gAll],rfl⟩
 ·exact⟨([104,111,108,100],gHold),by simp[gAll],rfl⟩
theorem rV:∀p∈gAll,∀p'∈gAll,p.1=p'.1→p=p':=by decide
theorem vX{p:By×List (By×Int)}(hp:p∈gAll):∀{es:List (AV×AV)},(∀q∈es,GV q)→(ss p.1,AV.sl (p.2.map vr))∈es→findA Tryz.prog 9 (ss p.1) es=some (some (.sl (p.2.map vr)))
 | [],_,h=>by cases h
 |(a,v)::es,h,hm=>by
  obtain⟨p',hp',e⟩:=tW (h (a,v) (by simp))
  simp only[Prod.mk.injEq]at e
  obtain⟨rfl,rfl⟩:=e
  simp only[findA,cJ]
  by_cases e:p.1=p'.1
  ·obtain rfl:=rV p hp p' hp' e
   simp
  ·simp only[e,decide_false]
   refine vX hp (fun q hq=>h q (by simp[hq])) ?_
   rcases List.mem_cons.1 hm with hm|hm
   ·simp only[Prod.mk.injEq,AV.v.injEq,Value.string.injEq]at hm
    exact absurd (vW.1 hm.1) e
   ·exact hm
theorem AT{p:By×List (By×Int)}(hp:p∈gAll){es:List (AV×AV)}(h:∀q,q∈es↔GV q):lookA Tryz.prog 9 125 (ss p.1) es false=some (.sl (p.2.map vr)):=by
 unfold lookA
 rw[vX hp (fun q hq=>(h q).1 hq) ((h _).2 (AS p hp)),IU]
 rfl
def rU(b:Bl):List (By×Int):=[([100,117,101],ofClause b.lets gDue b.due),([102,105,110,101],ofClause b.lets gFine b.fine),([112,97,121],ofClause b.lets gPay b.pay),([99,111,118,101,114],ofClause b.lets gCov b.cover),([104,111,108,100],ofClause b.lets gHold b.hold)]
theorem j8:∀(l:List (By×Int)),(∀x∈l,x.2=0)→firstBad l=([],0)
 | [],_=>rfl
 |(s,e)::l,h=>by
  have h0:e=0:=h (s,e) (by simp)
  unfold firstBad
  rw[if_pos h0]
  exact j8 l fun x hx=>h x (by simp[hx])
theorem fZ:∀(l:List (By×Int)) {n:Nat} {s:By} {e:Int},(∀j x,j<n→l[j]? =some x→x.2=0)→l[n]? =some (s,e)→e≠0→firstBad l=(s,e)
 | [],n,s,e,_,h,_=>by simp at h
 |(t,f)::l,0,s,e,_,h,hne=>by
  simp only[List.getElem?_cons_zero,Option.some.injEq,Prod.mk.injEq]at h
  obtain⟨rfl,rfl⟩:=h
  unfold firstBad
  rw[if_neg hne]
 |(t,f)::l,n+1,s,e,hz,h,hne=>by
  have h0:f=0:=hz 0 (t,f) (by omega) rfl
  unfold firstBad
  rw[if_pos h0]
  exact fZ l (n:=n) (fun j x hj hx=>hz (j+1) x (by omega) (by simpa using hx)) (by simpa using h) hne
def offJ(es:List (AV×AV))(s:By)(j:Nat):Prop:=∀p∈gAll,es[j]? =some (ss p.1,.sl (p.2.map vr))→(p.2.any fun v=>decide (v.1=s))=false
abbrev nmV:List AV:=[ss [100,117,101],ss [102,105,110,101],ss [112,97,121],ss [99,111,118,101,114],ss [104,111,108,100]]
def zeroTo(b:Bl)(n:Nat):Prop:=∀j x,j<n→(rU b)[j]? =some x→x.2=0
abbrev exV(b:Bl):List AV:=[ex b.due,ex b.fine,ex b.pay,ex b.cover,ex b.hold]
theorem IV(b:Bl)(h:OkB b){n:Nat}(hn:n<5):∃s g e,nth nmV n=ss s∧nth (exV b) n=ex e∧(s,g)∈gAll∧OkE e∧(g.length≤100∧∀v∈g,0≤v.2∧v.2<5)∧(rU b)[n]? =some (s,ofClause b.lets g e):=by
 match n,hn with
 |0,_=>exact⟨_,gDue,b.due,rfl,rfl,by simp[gAll],h.due,by decide,rfl⟩
 |1,_=>exact⟨_,gFine,b.fine,rfl,rfl,by simp[gAll],h.fine,by decide,rfl⟩
 |2,_=>exact⟨_,gPay,b.pay,rfl,rfl,by simp[gAll],h.pay,by decide,rfl⟩
 |3,_=>exact⟨_,gCov,b.cover,rfl,rfl,by simp[gAll],h.cover,by decide,rfl⟩
 |4,_=>exact⟨_,gHold,b.hold,rfl,rfl,by simp[gAll],h.hold,by decide,rfl⟩
set_option maxHeartbeats 8000000 in
set_option maxRecDepth 20000 in
theorem AU(b:Bl)(h:OkB b):Means true Tryz.prog 20 [bl b] (.tup [ss (unitsU b).1,ii (unitsU b).2]):=by
 have c1:=eK b h
 have hlen:=h.lets.len
 refine yM true 84 [.tmp 2,.tmp 3] [0,1,2,3,4,5,7,9,10,11,12,13,16,22,23,24,25,29,31,36,50,51,52,53,75,77] Tryz.func20 fun X hX=>?_
 (repeat(refine yA ?_;(simp[go_sem])))
 refine aD c1 ?_
 simp[go_sem]
 refine a8 (by simp[go_sem]) ?_
 refine aJ ?_
 simp only[thenQ]
 refine aS ?_
 refine y5 [1,2,3,4,5,17,19,20] hX EB rfl rfl (by simp) (by simp[go_sem]) rfl (by kernel_rfl) ?_
 rintro H' ⟨es,rfl,hes⟩
 simp[go_sem]
 (repeat(refine yA ?_;(simp[go_sem])))
 refine aG (fun n:Nat=>⟨mkE [(1,.el 0 37 0 0),(4,.sl nmV),(5,.ow 1),(22,.sl (b.lets.map lt)),(23,ii b.lets.length),(24,ii n)],[.row ⟨32,37,[bl b]⟩,.map ⟨9,125,es⟩]⟩)
  (fun n=>n≤b.lets.length∧∀j (h:j<b.lets.length),j<n→inG b.lets[j].1=false) (fun n=>b.lets.length-n) 0 ?_ ?_ ?_
 ·refine yS _ [.old 0 ⟨32,37,[bl b]⟩,.oldM 1 ⟨9,125,es⟩] ?_
  simp[go_sem]
 ·simp
 ·rintro n ⟨hn,hz⟩
  (repeat(refine yA ?_;(simp[go_sem])))
  refine yC (decide (n<b.lets.length)) (fun hc=>?_) fun hc=>?_
  ·simp at hc
   have hq:=dA hc
   have wk:=w64 (x:=(n:Int)+1) (by omega) (by omega)
   have hzn:∀j (h:j<b.lets.length),j<n+1→inG b.lets[n].1=false→inG b.lets[j].1=false:=fun j hj hjn h2=>by
    by_cases e:j=n
    ·subst e;exact h2
    ·exact hz j hj (by omega)
   have hyes:inG b.lets[n].1=true→unitsU b=(b.lets[n].1,5):=fun h2=>by
    have:b.lets.find? (fun l=>inG l.1)=some b.lets[n]:=by
     rw[List.find?_eq_some_iff_getElem]
     exact⟨h2,n,hc,rfl,fun j hj=>by simp[hz j (by omega) hj]⟩
    unfold unitsU
    rw[this]
   (iterate 5 (refine yA ?_;(simp[go_sem,hc,hq];try(refine⟨by kernel_rfl,?_⟩))))
   generalize b.lets[n]=l at*
   refine bB (st0:=⟨mkE [(1,.el 0 37 0 0),(4,.sl nmV),(5,.ow 1),(7,.el 2 6 0 0),(22,.sl (b.lets.map lt)),(23,ii b.lets.length),(24,ii n)],[.row ⟨32,37,[bl b]⟩,.map ⟨9,125,es⟩,.row ⟨119,6,[lt l]⟩]⟩) ?_ ?_
   ·refine yS _ [.old 0 ⟨32,37,[bl b]⟩,.oldM 1 ⟨9,125,es⟩,.old 2 ⟨119,6,[lt l]⟩] ?_
    simp[go_sem]
   refine tX (m:=⟨9,125,es⟩) (mj:=1) (t:=5) (inG l.1=false) (mkE [(1,.el 0 37 0 0),(4,.sl nmV),(7,.el 2 6 0 0),(22,.sl (b.lets.map lt)),(23,ii b.lets.length),(24,ii n)]) [.row ⟨32,37,[bl b]⟩,.dead,.row ⟨119,6,[lt l]⟩] rfl rfl (fun X' g ees cl hs hf=>?_) (fun hd=>?_)
   ·refine bB (st0:=⟨mkE [(5,.v (.map (some g))),(1,.el 0 37 0 0),(4,.sl nmV),(7,.el 2 6 0 0),(22,.sl (b.lets.map lt)),(23,ii b.lets.length),(24,ii n)],[.row ⟨32,37,[bl b]⟩,.dead,.row ⟨119,6,[lt l]⟩]⟩) ?_ ?_
    ·refine yS _ [.old 0 ⟨32,37,[bl b]⟩,.gone 1,.old 2 ⟨119,6,[lt l]⟩] ?_ (by simp[go_sem,upd])
     simp[go_sem,upd]
    refine y6 (D:=offJ es l.1) Tryz.underlying122 hf (by rfl) (fun q hq=>?_) (by rw[hs.n,hX];decide) (by decide) rfl rfl rfl rfl rfl ?_ ?_
    ·obtain⟨p,hp,rfl⟩:=tW ((hes q).1 hq)
     rfl
    ·intro X2 r j q hs2 hf2 hj
     obtain⟨p,hp,rfl⟩:=tW ((hes q).1 (List.mem_of_getElem? hj))
     have hX:HX X2 84 [0,1,2,3,4,5,7,9,10,11,12,13,16,22,23,24,25,29,31,36,50,51,52,53,75,77]:=by rw[HX,hs2.n,hs.n];exact hX
     have hpl:p.2.length≤100000:=by
      simp only[gAll,List.mem_cons,List.not_mem_nil,or_false]at hp
      rcases hp with rfl|rfl|rfl|rfl|rfl<;>decide
     have c2:=ED 50 119 6 (lt l) (fun v=>decide (v.1=l.1)) p.2 hpl rfl (fun v _=>GW l v) (by simp[go_sem])
     have hno:(p.2.any fun v=>decide (v.1=l.1))=false→offJ es l.1 j:=fun hd p' hp' hj'=>by
      have hj:es[j]? =_:=hj
      rw[hj]at hj'
      simp only[Option.some.injEq,Prod.mk.injEq,AV.v.injEq,Value.string.injEq]at hj'
      obtain rfl:=rV p hp p' hp' (vW.1 hj'.1)
      exact hd
     have hy:(p.2.any fun v=>decide (v.1=l.1))=true→inG l.1=true:=fun hd=>by
      unfold inG
      rw[List.any_eq_true]
      exact⟨p,hp,hd⟩
     generalize(p.2.any fun v=>decide (v.1=l.1))=fd at*
     show AWP _ _ _ _ ⟨mkE ((9,.sl (p.2.map vr))::(29,.v (.pointer (some ⟨r,0,none⟩)))::[(5,.v (.map (some g))),(1,.el 0 37 0 0),(4,.sl nmV),(7,.el 2 6 0 0),(22,.sl (b.lets.map lt)),(23,ii b.lets.length),(24,ii n)]),[.row ⟨32,37,[bl b]⟩,.dead,.row ⟨119,6,[lt l]⟩]⟩
     (repeat(refine yA ?_;(simp[go_sem])))
     refine yH [2] c2 ?_
     simp[go_sem]
     refine yC fd (fun hd=>?_) fun hd=>?_
     ·rw[hyes (hy hd)]
      (repeat(refine yA ?_;(simp[go_sem,rngQ,frzQ])))
     ·refine aJ ?_
      refine⟨hno hd,?_⟩
      show Go.Ab.Sub _ ⟨mkE ((29,.v (.pointer (some ⟨r,0,none⟩)))::[(5,.v (.map (some g))),(1,.el 0 37 0 0),(4,.sl nmV),(7,.el 2 6 0 0),(22,.sl (b.lets.map lt)),(23,ii b.lets.length),(24,ii n)]),[.row ⟨32,37,[bl b]⟩,.dead,.row ⟨119,6,[lt l]⟩]⟩ _
      refine yS _ [.old 0 ⟨32,37,[bl b]⟩,.gone 1,.old 2 ⟨119,6,[lt l]⟩] ?_
      simp[go_sem]
    ·intro hall r
     refine⟨?_,?_⟩
     ·unfold inG
      rw[List.any_eq_false]
      intro p hp
      have hm:=(hes _).2 (AS p hp)
      obtain⟨j,hj⟩:=List.mem_iff_getElem?.1 hm
      have:=hall j (List.getElem?_eq_some_iff.1 hj).1 p hp hj
      rw[this];simp
     ·show Go.Ab.Sub _ ⟨mkE ((5,.v (.map (some g)))::[(1,.el 0 37 0 0),(4,.sl nmV),(7,.el 2 6 0 0),(22,.sl (b.lets.map lt)),(23,ii b.lets.length),(24,ii n)]),[.row ⟨32,37,[bl b]⟩,.dead,.row ⟨119,6,[lt l]⟩]⟩ ⟨mkE ((29,.v (.pointer (some ⟨r,0,none⟩)))::[(5,.v (.map (some g))),(1,.el 0 37 0 0),(4,.sl nmV),(7,.el 2 6 0 0),(22,.sl (b.lets.map lt)),(23,ii b.lets.length),(24,ii n)]),[.row ⟨32,37,[bl b]⟩,.dead,.row ⟨119,6,[lt l]⟩]⟩
      refine yS _ [.old 0 ⟨32,37,[bl b]⟩,.gone 1,.old 2 ⟨119,6,[lt l]⟩] ?_
      simp[go_sem]
   ·simp only[blkQ,thenQ]
    show AWP _ _ _ _ ⟨mkE ((5,.ow 3)::[(1,.el 0 37 0 0),(4,.sl nmV),(7,.el 2 6 0 0),(22,.sl (b.lets.map lt)),(23,ii b.lets.length),(24,ii n)]),[.row ⟨32,37,[bl b]⟩,.dead,.row ⟨119,6,[lt l]⟩,.map ⟨9,125,es⟩]⟩
    (repeat(refine yA ?_;(simp[go_sem,wk])))
    refine⟨n+1,⟨by omega,fun j hj hjn=>hzn j hj hjn hd⟩,by omega,?_⟩
    refine yS _ [.old 0 ⟨32,37,[bl b]⟩,.oldM 3 ⟨9,125,es⟩] ?_
    simp[go_sem]
  ·have hnn:n=b.lets.length:=by simp at hc;omega
   have e1:b.lets.find? (fun l=>inG l.1)=none:=by
    rw[List.find?_eq_none]
    intro x hx
    obtain⟨j,hj,rfl⟩:=List.getElem_of_mem hx
    rw[hz j hj (by omega)];simp
   have e2:unitsU b=firstBad (rU b):=by
    unfold unitsU
    rw[e1];rfl
   rw[e2]
   (repeat(refine yA ?_;(simp[go_sem])))
   refine aG (fun n:Nat=>⟨mkE [(1,.el 0 37 0 0),(4,.sl nmV),(5,.ow 1),(50,.sl (exV b)),(51,ii 5),(52,ii n)],[.row ⟨32,37,[bl b]⟩,.map ⟨9,125,es⟩]⟩)
    (fun n=>n≤5∧zeroTo b n) (fun n=>5-n) 0 ?_ ?_ ?_
   ·refine yS _ [.old 0 ⟨32,37,[bl b]⟩,.oldM 1 ⟨9,125,es⟩] ?_
    simp[go_sem]
   ·exact⟨Nat.zero_le _,fun j x h _=>absurd h (Nat.not_lt_zero _)⟩
   ·rintro n ⟨hn,hz⟩
    (repeat(refine yA ?_;(simp[go_sem])))
    refine yC (decide (n<5)) (fun hc=>?_) (fun hc=>?_) (by simp[go_sem];omega)
    ·simp at hc
     have hc2:(n:Int)<5:=by omega
     have wk:=w64 (x:=(n:Int)+1) (by omega) (by omega)
     obtain⟨s,g,e,q1,q2,q3,q4,q5,q6⟩:=IV b h hc
     have hlk:=AT q3 hes
     have c2:=AW b.lets g e h.lets q5 q4
     have hof:ofClause b.lets g e=if(unitOf g b.lets e).2=0 then(if(unitOf g b.lets e).1=3 then 0 else 14)else(unitOf g b.lets e).2:=rfl
     generalize unitOf g b.lets e=U at*
     (repeat(refine yA ?_;(simp[go_sem,hc,hc2,q1,q2,hlk])))
     refine bH c2 ?_
     (simp[go_sem];try(refine⟨by kernel_rfl,?_⟩))
     (repeat(refine yA ?_;(simp[go_sem])))
     by_cases h0:U.2=0
     ·rw[if_pos h0]at hof
      by_cases h3:U.1=3
      ·rw[if_pos h3]at hof
       refine a8 (by simp[go_sem,h0,h3]) ?_
       (repeat(refine yA ?_;(simp[go_sem,h0])))
       refine a8 (by simp[go_sem,h0]) ?_
       (repeat(refine yA ?_;(simp[go_sem,wk])))
       refine⟨n+1,⟨by omega,fun j x hj hx=>?_⟩,by omega,?_⟩
       ·by_cases e:j=n
        ·subst e
         rw[q6]at hx
         cases hx
         exact hof
        ·exact hz j x (by omega) hx
       ·refine yS _ [.old 0 ⟨32,37,[bl b]⟩,.oldM 1 ⟨9,125,es⟩] ?_
        simp[go_sem]
      ·rw[if_neg h3]at hof
       rw[fZ (rU b) hz q6 (by rw[hof];decide),hof]
       refine aC (by simp[go_sem,h0,h3]) ?_
       (repeat(refine yA ?_;(simp[go_sem])))
       refine aC (by simp[go_sem]) ?_
       (repeat(refine yA ?_;(simp[go_sem,hc,hc2,q1])))
     ·rw[if_neg h0]at hof
      rw[fZ (rU b) hz q6 (by rw[hof];exact h0),hof]
      refine a8 (by simp[go_sem,h0]) ?_
      (repeat(refine yA ?_;(simp[go_sem])))
      refine aC (by simp[go_sem,h0]) ?_
      (repeat(refine yA ?_;(simp[go_sem,hc,hc2,q1])))
    ·have hz:∀x∈rU b,x.2=0:=fun x hx=>by
      obtain⟨j,hj⟩:=List.mem_iff_getElem?.1 hx
      exact hz j x (by have:=(List.getElem?_eq_some_iff.1 hj).1;simp[rU]at this;simp at hc;omega) hj
     rw[j8 _ hz]
     (repeat(refine yA ?_;(simp[go_sem])))
end Go.Proofs.YtllgjognpobnpaaGreatDoor

namespace Go.Proofs.YtllgjognpobnpaaGreatDoor
open Go.RowKit Go.Ab
attribute [local irreducible] AWP Go.Ab.Sub Means MeansH CallK CallG CallT CallGT PanicH DefH CallU MeansS
def lightV(s:By):Bool:=if 600<s.length then false else if(parseT s).2.2=0 then fewL (parseT s).1.lets 1 else true
theorem EE(s:By):Means true Tryz.prog 5 [ss s] (bb (lightV s)):=by
 have c1:=lF s
 have hok:(parseT s).2.2=0→OkB (parseT s).1:=f0
 have hv:lightV s=if 600<s.length then false else if(parseT s).2.2=0 then fewL (parseT s).1.lets 1 else true:=rfl
 generalize lightV s=V at*
 generalize parseT s=R at*
 obtain⟨b,p,e⟩:=R
 simp only at*
 have hca:(600:Int)<s.length↔600<s.length:=by omega
 refine yM true 22 [.tmp 2] [0,2,3,5,8] Tryz.func5 fun X hX=>?_
 (repeat(refine yA ?_;(simp[go_sem])))
 refine yC (decide (600<s.length)) (fun hd=>?_) (fun hd=>?_) (by simp[go_sem,hca])
 ·rw[if_pos (by simpa using hd)]at hv
  rw[hv]
  (repeat(refine yA ?_;(simp[go_sem])))
 rw[if_neg (by simpa using hd)]at hv
 (repeat(refine yA ?_;(simp[go_sem])))
 refine aD c1 ?_
 simp[go_sem]
 by_cases he:e=0
 ·rw[if_pos he]at hv
  have c2:=y7 b.lets (hok he).lets
  (repeat(refine yA ?_;(simp[go_sem,he])))
  refine aI (fun hg=>c2) ?_
  simp[go_sem,he]
  rw[hv]
  (repeat(refine yA ?_;(simp[go_sem])))
 ·rw[if_neg he]at hv
  (repeat(refine yA ?_;(simp[go_sem,he])))
  refine bT rfl ?_
  simp[go_sem,he]
  rw[hv]
  (repeat(refine yA ?_;(simp[go_sem])))
def rulesV(s:By)(n:Int):Int:=
 if n<1∨60<n then 1 else if(parseT s).2.2=0 then(if(unitsU (parseT s).1).2=0 then(if solvE (calL (parseT s).1.period (parseT s).1.wait (parseT s).1.grace) FF=0 then 0 else 23)else(unitsU (parseT s).1).2)else(parseT s).2.2
def mxN(k:Nat):Int:=if k=0 then 0 else if k≤5 then 3 else if k≤7 then 4 else 5
theorem GX(p w g:Int){k:Nat}(h:k<10):∃a b n:Int,nth ((calL p w g).map cn) k=cn ⟨a,b,n⟩∧(0≤a∧a<5)∧(0≤b∧b<5)∧max (max (mxN k) (a+1)) (b+1)=mxN (k+1):=by
 match k,h with
 |0,_=>exact⟨2,0,_,rfl,by decide,by decide,by decide⟩
 |1,_=>exact⟨0,2,_,rfl,by decide,by decide,by decide⟩
 |2,_=>exact⟨1,2,_,rfl,by decide,by decide,by decide⟩
 |3,_=>exact⟨2,1,_,rfl,by decide,by decide,by decide⟩
 |4,_=>exact⟨0,1,_,rfl,by decide,by decide,by decide⟩
 |5,_=>exact⟨3,2,_,rfl,by decide,by decide,by decide⟩
 |6,_=>exact⟨2,3,_,rfl,by decide,by decide,by decide⟩
 |7,_=>exact⟨4,2,_,rfl,by decide,by decide,by decide⟩
 |8,_=>exact⟨2,4,_,rfl,by decide,by decide,by decide⟩
 |9,_=>exact⟨3,4,_,rfl,by decide,by decide,by decide⟩
set_option maxHeartbeats 4000000 in
set_option maxRecDepth 20000 in
theorem rW(s:By)(n:Int):Means true Tryz.prog 6 [ss s,ii n] (ii (rulesV s n)):=by
 have c1:=lF s
 have hok:(parseT s).2.2=0→OkB (parseT s).1:=f0
 have hv:rulesV s n=if n<1∨60<n then 1 else if(parseT s).2.2=0 then(if(unitsU (parseT s).1).2=0 then(if solvE (calL (parseT s).1.period (parseT s).1.wait (parseT s).1.grace) FF=0 then 0 else 23)else(unitsU (parseT s).1).2)else(parseT s).2.2:=rfl
 generalize rulesV s n=V at*
 generalize parseT s=R at*
 obtain⟨b,p,e⟩:=R
 simp only at*
 refine yM true 66 [.tmp 4] [0,1,4,5,7,9,10,11,13,16,22,30,38,42,43,44,45,65] Tryz.func6 fun X hX=>?_
 (repeat(refine yA ?_ hX;(simp[go_sem])))
 refine yC (decide (n<1)||decide (60<n)) (fun hd=>?_) fun hd=>?_
 ·rw[if_pos (by simpa using hd)]at hv
  rw[hv]
  (repeat(refine yA ?_ hX;(simp[go_sem])))
 have hd:¬(n<1∨60<n):=by simpa using hd
 rw[if_neg hd]at hv
 (repeat(refine yA ?_ hX;(simp[go_sem])))
 refine aD c1 ?_
 simp[go_sem]
 by_cases he:e=0
 ·rw[if_pos he]at hv
  have hb:=hok he
  have c2:=AU b hb
  have c3:=iJ b hb
  obtain⟨r1,r2,c4⟩:=pY b.period b.wait b.grace hb.period hb.wait hb.grace
  have hlen:(calL b.period b.wait b.grace).length=10:=rfl
  have hmx:=fun k h=>GX b.period b.wait b.grace (k:=k) h
  generalize calL b.period b.wait b.grace=C at*
  generalize unitsU b=U at*
  (repeat(refine yA ?_ hX;(simp[go_sem,he])))
  refine a8 (by simp[go_sem,he]) ?_
  (repeat(refine yA ?_ hX;(simp[go_sem])))
  refine aD c2 ?_
  simp[go_sem]
  (repeat(refine yA ?_ hX;(simp[go_sem])))
  by_cases hu:U.2=0
  ·rw[if_pos hu]at hv
   refine a8 (by simp[go_sem,hu]) ?_
   (repeat(refine yA ?_ hX;(simp[go_sem])))
   refine aD c3 ?_
   simp[go_sem]
   (repeat(refine yA ?_ hX;(simp[go_sem])))
   refine aG (fun k:Nat=>⟨mkE [(10,.sl (C.map cn)),(11,ii (mxN k)),(42,.sl (C.map cn)),(43,ii 10),(44,ii k)],[]⟩) (fun k=>k≤10) (fun k=>10-k) 0 ?_ ?_ ?_
   ·refine yS _ [] ?_ (by simp[go_sem,hlen])
    simp[go_sem,hlen,mxN]
   ·exact Nat.zero_le _
   ·rintro k hk
    (repeat(refine yA ?_ hX;(simp[go_sem])))
    refine yC (decide (k<10)) (fun hc=>?_) (fun hc=>?_) (by simp[go_sem];omega)
    ·simp at hc
     obtain⟨ca,cb,cc,q1,q2,q3,q4⟩:=hmx k hc
     have hc2:k<C.length:=by omega
     have wk:=w64 (x:=(k:Int)+1) (by omega) (by omega)
     have w1:=w64 (x:=ca+1) (by omega) (by omega)
     have w2:=w64 (x:=cb+1) (by omega) (by omega)
     have q5:max (mxN k) (max ca cb+1)=mxN (k+1):=by omega
     (repeat(refine yA ?_ hX;(simp[go_sem,hc2,q1,w1,w2,wk])))
     refine⟨k+1,by omega,by omega,?_⟩
     rw[←q5]
     refine yS _ [] ?_
     simp[go_sem]
    ·have hk:k=10:=by simp at hc;omega
     subst hk
     (repeat(refine yA ?_ hX;(simp[go_sem,mxN])))
     refine aD c4 ?_
     simp[go_sem]
     (repeat(refine yA ?_ hX;(simp[go_sem])))
     by_cases hs:solvE C FF=0
     ·rw[if_pos hs]at hv
      refine a8 (by simp[go_sem,hs]) ?_
      rw[hv]
      (repeat(refine yA ?_ hX;(simp[go_sem])))
     ·rw[if_neg hs]at hv
      refine aC (by simp[go_sem,hs]) ?_
      rw[hv]
      (repeat(refine yA ?_ hX;(simp[go_sem])))
  ·rw[if_neg hu]at hv
   refine aC (by simp[go_sem,hu]) ?_
   rw[hv]
   (repeat(refine yA ?_ hX;(simp[go_sem])))
 ·rw[if_neg he]at hv
  (repeat(refine yA ?_ hX;(simp[go_sem,he])))
  refine aC (by simp[go_sem,he]) ?_
  rw[hv]
  (repeat(refine yA ?_ hX;(simp[go_sem])))
end Go.Proofs.YtllgjognpobnpaaGreatDoor

namespace Go.Proofs
open Go.Shelf
def Tryz.lays151_ren:Go.Shelf.Ren:=⟨fun|151=>132|152=>160|137=>185|119=>186|224=>187|225=>188|217=>202|266=>208|n=>n,fun|9=>9|21=>21|4=>4|3=>3|5=>5|0=>0|46=>225|n=>n,fun|n=>n⟩
theorem Tryz.lays151:Go.Proofs.Lays.n151 Tryz.prog Tryz.lays151_ren:={
 mixed:=by kernel_rfl
 f119:=Tryz.func186.trans (congrArg some (by kernel_rfl))
 f137:=Tryz.func185.trans (congrArg some (by kernel_rfl))
 f151:=Tryz.func132.trans (congrArg some (by kernel_rfl))
 f152:=Tryz.func160.trans (congrArg some (by kernel_rfl))
 f217:=Tryz.func202.trans (congrArg some (by kernel_rfl))
 f224:=Tryz.func187.trans (congrArg some (by kernel_rfl))
 f225:=Tryz.func188.trans (congrArg some (by kernel_rfl))
 f266:=Tryz.func208.trans (congrArg some (by kernel_rfl))
 t0:=Tryz.underlying0
 a0:=Tryz.isAgg0
 z0:=Tryz.sizeOf0
 v0:=Tryz.zeroValue0
 t3:=Tryz.underlying3
 a3:=Tryz.isAgg3
 z3:=Tryz.sizeOf3
 v3:=Tryz.zeroValue3
 t4:=Tryz.underlying4
 a4:=Tryz.isAgg4
 z4:=Tryz.sizeOf4
 v4:=Tryz.zeroValue4
 t5:=Tryz.underlying5
 a5:=Tryz.isAgg5
 z5:=Tryz.sizeOf5
 v5:=Tryz.zeroValue5
 t9:=Tryz.underlying9
 a9:=Tryz.isAgg9
 z9:=Tryz.sizeOf9
 v9:=Tryz.zeroValue9
 t21:=Tryz.underlying21
 a21:=Tryz.isAgg21
 z21:=Tryz.sizeOf21
 v21:=Tryz.zeroValue21
 t46:=Tryz.underlying225
 a46:=Tryz.isAgg225
 z46:=Tryz.sizeOf225
 v46:=Tryz.zeroValue225}
open Go.RowKit Go.Lib in
theorem Tryz.strings_ContainsRune_ascii(s:ByteArray)(r:Int)(w:World)(h0:0≤r)(h1:r<128):
  Calls Tryz.prog 132 #[.string s,.int .i32 r] w fun e w'=>e=.returned (.bool (decide (0≤Lib.indexByte s.data.toList r.toNat.toUInt8)))∧w'=w:=Any.strings_ContainsRune_ascii Tryz.lays151 s r w h0 h1
end Go.Proofs

namespace Go.Proofs.YtllgjognpobnpaaGreatDoor
open Go.RowKit Go.Ab
attribute [local irreducible] AWP Go.Ab.Sub Means MeansH CallK CallG CallT CallGT PanicH DefH CallU
def usesL:List By:=[[107,116],[99],[99],[99,119,110,109],[110,114],[119,115],[119,109,115],[99,119,109,114,115],[99,110,109,114],[110,114],[99,110,109,116],[114,116],[110,114],[114],[99,116],[119,110],[99,109],[99,107],[110,109,114],[110,109,114],[110,109,114]]
@[go_sem] theorem glU:globV 0=.ro (usesL.map ss):=by rfl
abbrev eA:AV:=.agg [ii 2,ii 0,ii 0,.sl [],ii 10,ii 0,ii 0,ii 9,ii 0,ii (-1),.sl [],.sl [],ss [104,97,105,108]]
theorem AX(n:Int)(h:0≤n∧n<200):Means true Tryz.prog 89 [ii n] (bb true):=by
 refine yM true 9 [.tmp 2] [0,2] Tryz.func89 fun X hX=>?_
 (repeat(refine yA ?_;(simp[go_sem,h.1,h.2])))
theorem AY(n:Int)(h:0≤n∧n≤1048576):Means true Tryz.prog 90 [ii n] (bb true):=by
 refine yM true 9 [.tmp 2] [0,2] Tryz.func90 fun X hX=>?_
 (repeat(refine yA ?_;(simp[go_sem,h.1,h.2])))
theorem EF(n:Int)(h:0≤n∧n≤1073741824):Means true Tryz.prog 93 [ii n] (bb true):=by
 refine yM true 9 [.tmp 2] [0,2] Tryz.func93 fun X hX=>?_
 (repeat(refine yA ?_;(simp[go_sem,h.1,h.2])))
theorem GY:Means true Tryz.prog 92 [.sl []] (bb true):=by
 refine yM true 20 [.tmp 2] [0,2,3,7,19] Tryz.func92 fun X hX=>?_
 (repeat(refine yA ?_;(simp[go_sem])))
 refine aG (fun n:Nat=>⟨mkE [(0,.sl []),(3,ii 1)],[]⟩) (fun n=>n=0) (fun n=>0) 0 ?_ ?_ ?_
 ·refine yS _ [] ?_
  simp[go_sem]
 ·rfl
 rintro n-
 (repeat(refine yA ?_;(simp[go_sem])))
 refine a8 (by simp[go_sem]) ?_
 (repeat(refine yA ?_;(simp[go_sem])))
theorem GZ(x:Int)(hx:x=110∨x=116):Means true Tryz.prog 132 [ss [99,110,109,116],.v (.int .i32 x)] (bb true):=by
 refine tU (args:=[.string (B [99,110,109,116]),.int .i32 x]) (r:=.bool true) fun w=>?_
 refine(Tryz.strings_ContainsRune_ascii (B [99,110,109,116]) x w (by omega) (by omega)).mono fun e w' ⟨he,hw⟩=>⟨?_,hw⟩
 rw[he]
 rcases hx with rfl|rfl<;>rfl
abbrev iR(x:Int):AV:=.v (.int .i32 x)
abbrev emV:AV:=.agg [bb true,bb true,bb false,bb true,bb true,bb true,bb true,bb false]
def chN(i:Nat):Nat:=([99,119,110,109,114,107,115,116]:List Nat).getD i 0
set_option maxHeartbeats 4000000 in
set_option maxRecDepth 20000 in
theorem EG:Means true Tryz.prog 91 [eA] (bb true):=by
 have u1:usesL.length=21:=rfl
 have u2:usesL[10]? =some [99,110,109,116]:=rfl
 have c1:=fun x h=>GZ x h
 refine yM true 53 [.tmp 2] [0,1,2,3,4,5,6,38,39,40,52] Tryz.func91 fun X hX=>?_
 (iterate 7 (refine yA ?_;(simp[go_sem,u1,u2])))
 refine bB (st0:=⟨mkE [(3,ss [99,110,109,116]),(4,.el 1 8 0 0)],[.row ⟨61,13,[eA]⟩,.row ⟨209,8,[emV]⟩]⟩) ?_ ?_
 ·refine yS _ [.old 0 ⟨61,13,[eA]⟩,.old 1 ⟨209,8,[emV]⟩] ?_
  simp[go_sem]
  rfl
 refine tY (c:=chN) (D:=fun _=>True) Tryz.underlying9 ?_ (by rw[hX];decide) (by decide) (by decide) rfl rfl rfl rfl ?_ ?_
 ·decide+kernel
 ·intro X' r j hs hj
  have hX:HX X' 53 [0,1,2,3,4,5,6,38,39,40,52]:=by rw[HX,hs.n];exact hX
  have hj:j<8:=hj
  show AWP _ _ _ _ ⟨mkE ((6,iR (chN j))::(5,ii j)::(38,.v (.pointer (some ⟨r,0,none⟩)))::[(3,ss [99,110,109,116]),(4,.el 1 8 0 0)]),[.row ⟨61,13,[eA]⟩,.row ⟨209,8,[emV]⟩]⟩
  have hfin:∀{Q:Exit→St→Prop} {E:Nat→AV} {H:List Cell},Go.Ab.Sub X' ⟨mkE ((38,.v (.pointer (some ⟨r,0,none⟩)))::[(3,ss [99,110,109,116]),(4,.el 1 8 0 0)]),[.row ⟨61,13,[eA]⟩,.row ⟨209,8,[emV]⟩]⟩ ⟨E,H⟩→rngQ X' ⟨mkE ((38,.v (.pointer (some ⟨r,0,none⟩)))::[(3,ss [99,110,109,116]),(4,.el 1 8 0 0)]),[.row ⟨61,13,[eA]⟩,.row ⟨209,8,[emV]⟩]⟩ True Q .normal ⟨E,H⟩:=fun h=>⟨trivial,h⟩
  have hjj:(j=0∨j=1∨j=3∨j=4∨j=5∨j=6)∨j=2∨j=7:=by omega
  rcases hjj with(rfl|rfl|rfl|rfl|rfl|rfl)|rfl|rfl
  iterate 6
   ·(repeat(refine yA ?_;(simp[go_sem])))
    refine bT rfl ?_
    simp[go_sem]
    refine a8 (by simp[go_sem]) ?_
    refine aJ (hfin ?_)
    refine yS _ [.old 0 ⟨61,13,[eA]⟩,.old 1 ⟨209,8,[emV]⟩] ?_
    simp[go_sem]
  ·(repeat(refine yA ?_;(simp[go_sem])))
   refine aI (fun hg=>c1 110 (.inl rfl)) ?_
   simp[go_sem]
   refine a8 (by simp[go_sem]) ?_
   refine aJ (hfin ?_)
   refine yS _ [.old 0 ⟨61,13,[eA]⟩,.old 1 ⟨209,8,[emV]⟩] ?_
   simp[go_sem]
  ·(repeat(refine yA ?_;(simp[go_sem])))
   refine aI (fun hg=>c1 116 (.inr rfl)) ?_
   simp[go_sem]
   refine a8 (by simp[go_sem]) ?_
   refine aJ (hfin ?_)
   refine yS _ [.old 0 ⟨61,13,[eA]⟩,.old 1 ⟨209,8,[emV]⟩] ?_
   simp[go_sem]
 ·intro _ r
  simp only[blkQ,thenQ]
  (repeat(refine yA ?_;(simp[go_sem])))
theorem H3:Means true Tryz.prog 94 [il [5,6,7],ii 10] (bb false):=by
 have c1:Means true Tryz.prog 133 [il [5,6,7],ii 10] (ii (-1)):=by
  have w1:IntKind.i64.wrap 1=1:=by decide
  have w2:IntKind.i64.wrap 2=2:=by decide
  have w3:IntKind.i64.wrap 3=3:=by decide
  refine yM true 19 [.tmp 4] [0,1,4,5,7,8,9,16] Tryz.func133 fun X hX=>?_
  (repeat(refine yA ?_;(simp[go_sem])))
  refine bU 3 ?_
  (repeat(refine yA ?_;(simp[go_sem,w1,w2,w3])));(repeat(first|(refine aC ?_ ?_;(focus(simp[go_sem,w1,w2,w3];done));(repeat(refine yA ?_;(simp[go_sem,w1,w2,w3]))))|(refine a8 ?_ ?_;(focus(simp[go_sem,w1,w2,w3];done));(repeat(refine yA ?_;(simp[go_sem,w1,w2,w3]))))))
 refine yM true 9 [.tmp 4] [0,1,4] Tryz.func94 fun X hX=>?_
 (repeat(refine yA ?_;(simp[go_sem])))
 refine aD c1 ?_
 simp[go_sem]
 (repeat(refine yA ?_;(simp[go_sem])))
set_option maxHeartbeats 4000000 in
set_option maxRecDepth 20000 in
theorem H4:Means true Tryz.prog 97 [eA] (bb true):=by
 have c1:=AY 0 (by decide)
 refine yM true 189 [.tmp 2] [0,1,2,3,13,14,29,44,49,64,87,95,108,114,129,141,153,174] Tryz.func97 fun X hX=>?_
 (repeat(refine yA ?_;(simp[go_sem])));(repeat(first|(refine aC ?_ ?_;(focus(simp[go_sem];done));(repeat(refine yA ?_;(simp[go_sem]))))|(refine a8 ?_ ?_;(focus(simp[go_sem];done));(repeat(refine yA ?_;(simp[go_sem]))))))
 refine aI (fun hg=>c1) ?_
 simp[go_sem]
 (repeat(refine yA ?_;(simp[go_sem])))
set_option maxHeartbeats 4000000 in
set_option maxRecDepth 20000 in
theorem AZ:Means true Tryz.prog 42 [eA] (bb true):=by
 have c1:=AX 2 (by decide)
 have c2:=AY 0 (by decide)
 have c3:=EG
 have c4:=GY
 have c5:=H3
 have c6:=EF 0 (by decide)
 have c7:=AX 0 (by decide)
 have c8:=H4
 have hn0:nth ([]:List AV) 0=.bad:=rfl
 have w1:IntKind.i64.wrap (-1)= -1:=by decide
 refine yM true 132 [.tmp 2] [0,1,2,3,4,5,40,73,96,129] Tryz.func42 fun X hX=>?_
 (repeat(refine yA ?_;(simp[go_sem])))
 refine aD c1 ?_
 simp[go_sem]
 refine aI (fun hg=>c2) ?_
 simp[go_sem]
 refine aI (fun hg=>c3) ?_
 simp[go_sem]
 (repeat(refine a8 ?_ ?_;(focus(simp[go_sem];done));(repeat(refine yA ?_;(simp[go_sem])))))
 refine aI (fun hg=>c4) ?_
 simp[go_sem,hn0]
 refine aW (Hl:=[]) (largs:=[.bad]) (r0:=bb true) [] (fun hg=>by cases hg) (by simp[go_sem]) (by simp[go_sem]) ?_
 simp[go_sem,hn0,w1]
 refine aW (Hl:=[]) (largs:=[.bad]) (r0:=bb true) [] (fun hg=>by cases hg) (by simp[go_sem]) (by simp[go_sem]) ?_
 simp[go_sem,hn0,w1]
 (repeat(refine a8 ?_ ?_;(focus(simp[go_sem];done));(repeat(refine yA ?_;(simp[go_sem])))))
 refine aD c5 ?_
 simp[go_sem]
 (repeat(refine yA ?_;(simp[go_sem])))
 refine aI (r:=bb true) (fr:=true) (fun hg=>by cases hg) ?_
 simp[go_sem]
 (repeat(refine a8 ?_ ?_;(focus(simp[go_sem];done));(repeat(refine yA ?_;(simp[go_sem])))))
 refine aI (r:=bb true) (fr:=true) (fun hg=>by cases hg) ?_
 simp[go_sem]
 refine aI (fun hg=>c6) ?_
 simp[go_sem]
 refine aI (fun hg=>c7) ?_
 simp[go_sem]
 (repeat(refine a8 ?_ ?_;(focus(simp[go_sem];done));(repeat(refine yA ?_;(simp[go_sem])))))
 refine aD c8 ?_
 simp[go_sem]
 (repeat(refine yA ?_;(simp[go_sem])))
end Go.Proofs.YtllgjognpobnpaaGreatDoor

namespace Go.Proofs.YtllgjognpobnpaaGreatDoor
open Go.RowKit Go.Ab
attribute [local irreducible] AWP Go.Ab.Sub Means MeansH CallK CallG CallT CallGT PanicH DefH CallU
theorem w1':IntKind.i64.wrap 1=1:=by decide
theorem H5:Means true Tryz.prog 133 [il [],ii 1] (ii (-1)):=by
 refine yM true 19 [.tmp 4] [0,1,4,5,7,8,9,16] Tryz.func133 fun X hX=>?_
 (repeat(refine yA ?_;(simp[go_sem])))
 refine bU 0 ?_
 (repeat(refine yA ?_;(simp[go_sem,w1'])));(repeat(refine a8 ?_ ?_;(focus(simp[go_sem,w1'];done));(repeat(refine yA ?_;(simp[go_sem,w1'])))))
theorem H6:Means true Tryz.prog 133 [il [1],ii 1] (ii 0):=by
 refine yM true 19 [.tmp 4] [0,1,4,5,7,8,9,16] Tryz.func133 fun X hX=>?_
 (repeat(refine yA ?_;(simp[go_sem])))
 refine bU 1 ?_
 (repeat(refine yA ?_;(simp[go_sem,w1'])));(repeat(refine aC ?_ ?_;(focus(simp[go_sem,w1'];done));(repeat(refine yA ?_;(simp[go_sem,w1'])))))
theorem B0:Means true Tryz.prog 94 [il [],ii 1] (bb false):=by
 refine yM true 9 [.tmp 4] [0,1,4] Tryz.func94 fun X hX=>?_
 (repeat(refine yA ?_;(simp[go_sem])))
 refine aD H5 ?_
 simp[go_sem]
 (repeat(refine yA ?_;(simp[go_sem])))
theorem H7:Means true Tryz.prog 94 [il [1],ii 1] (bb true):=by
 refine yM true 9 [.tmp 4] [0,1,4] Tryz.func94 fun X hX=>?_
 (repeat(refine yA ?_;(simp[go_sem])))
 refine aD H6 ?_
 simp[go_sem]
 (repeat(refine yA ?_;(simp[go_sem])))
set_option maxHeartbeats 4000000 in
theorem B1:Means true Tryz.prog 135 [il [1]] (bb true):=by
 refine yM true 34 [.tmp 2] [0,2,3,4,12,13,14,15,16,32] Tryz.func135 fun X hX=>?_
 (repeat(refine yA ?_;(simp[go_sem,w1'])));(repeat(refine a8 ?_ ?_;(focus(simp[go_sem,w1'];done));(repeat(refine yA ?_;(simp[go_sem,w1'])))))
 refine bU 1 ?_
 (repeat(refine yA ?_;(simp[go_sem,w1'])));(repeat(refine aC ?_ ?_;(focus(simp[go_sem,w1'];done));(repeat(refine yA ?_;(simp[go_sem,w1'])))))
 refine aI (fun hg=>B0) ?_
 simp[go_sem]
 (repeat(refine a8 ?_ ?_;(focus(simp[go_sem,w1'];done));(repeat(refine yA ?_;(simp[go_sem,w1'])))))
set_option maxHeartbeats 4000000 in
theorem B2:Means true Tryz.prog 161 [il [1]] (bb true):=by
 refine yM true 34 [.tmp 2] [0,2,3,4,12,13,14,15,16,32] Tryz.func161 fun X hX=>?_
 (repeat(refine yA ?_;(simp[go_sem,w1'])));(repeat(refine a8 ?_ ?_;(focus(simp[go_sem,w1'];done));(repeat(refine yA ?_;(simp[go_sem,w1'])))))
 refine bU 1 ?_
 (repeat(refine yA ?_;(simp[go_sem,w1'])));(repeat(refine aC ?_ ?_;(focus(simp[go_sem,w1'];done));(repeat(refine yA ?_;(simp[go_sem,w1'])))))
 refine aI (fun hg=>B0) ?_
 simp[go_sem]
 (repeat(refine a8 ?_ ?_;(focus(simp[go_sem,w1'];done));(repeat(refine yA ?_;(simp[go_sem,w1'])))))
abbrev voE:AV:=.agg [ii 0,ii 1,bb true,ii 0]
@[go_sem] theorem look_no:lookA Tryz.prog 3 4 (ii 1) [] false=some (bb false):=by
  simp only[lookA,findA,tk4]
  rfl
set_option maxHeartbeats 4000000 in
theorem y8:Means true Tryz.prog 136 [il [1],.sl [voE],ii 0] (.sl [voE]):=by
 have hu:updA Tryz.prog 3 (ii 1) (bb true) []=some [(ii 1,bb true)]:=rfl
 refine yM true 47 [.tmp 6] [0,1,2,6,7,8,10,13,15,16,17,18,37] Tryz.func136 fun X hX=>?_
 (repeat(refine yA ?_;(simp[go_sem,w1'])))
 refine aD B2 ?_
 simp[go_sem]
 (repeat(refine a8 ?_ ?_;(focus(simp[go_sem,w1'];done));(repeat(refine yA ?_;(simp[go_sem,w1'])))))
 refine bU 1 ?_
 (repeat(refine yA ?_;(simp[go_sem,hu,w1'])));(repeat(refine aC ?_ ?_;(focus(simp[go_sem,hu,w1'];done));(repeat(refine yA ?_;(simp[go_sem,hu,w1'])))))
 refine aI (fun hg=>H7) ?_
 simp[go_sem]
 (repeat(refine a8 ?_ ?_;(focus(simp[go_sem,hu,w1'];done));(repeat(refine yA ?_;(simp[go_sem,hu,w1'])))))
 refine⟨by unfold maxLen;omega,?_⟩
 (repeat(refine yA ?_;(simp[go_sem,w1'])));(repeat(refine a8 ?_ ?_;(focus(simp[go_sem,w1'];done));(repeat(refine yA ?_;(simp[go_sem,w1'])))))
set_option maxHeartbeats 4000000 in
theorem tZ:Means true Tryz.prog 98 [il [1],.sl [voE]] (.tup [ii 1,ii 0]):=by
 have w2:IntKind.i64.wrap 0=0:=by decide
 have m0:max (0:Int) 0=0:=by decide
 have q1:Int.tdiv 1 2=0:=by decide
 refine yM true 61 [.tmp 4,.tmp 5] [0,1,4,5,6,8,9,10,12,13,16,17,18,19,20,32,33,34,35,39,47,51] Tryz.func98 fun X hX=>?_
 (repeat(refine yA ?_;(simp[go_sem])))
 refine aD B1 ?_
 simp[go_sem]
 (repeat(refine a8 ?_ ?_;(focus(simp[go_sem];done));(repeat(refine yA ?_;(simp[go_sem])))))
 refine bU 1 ?_
 (repeat(refine yA ?_;(simp[go_sem,w1',m0])));(repeat(first|(refine aC ?_ ?_;(focus(simp[go_sem,w1',m0];done));(repeat(refine yA ?_;(simp[go_sem,w1',m0]))))|(refine a8 ?_ ?_;(focus(simp[go_sem,w1',m0];done));(repeat(refine yA ?_;(simp[go_sem,w1',m0]))))))
 refine aD y8 ?_
 simp[go_sem]
 (repeat(refine yA ?_;(simp[go_sem])))
 refine bU 1 ?_
 (repeat(refine yA ?_;(simp[go_sem,w1',w2,q1])));(repeat(first|(refine aC ?_ ?_;(focus(simp[go_sem,w1',w2,q1];done));(repeat(refine yA ?_;(simp[go_sem,w1',w2,q1]))))|(refine a8 ?_ ?_;(focus(simp[go_sem,w1',w2,q1];done));(repeat(refine yA ?_;(simp[go_sem,w1',w2,q1]))))))
abbrev clV(pr st gr fr:Int):AV:=.agg [ii 5,ii 0,ii 2,ii 9,ii 0,ii 0,ii pr,il [1],il [],ii st,ii gr,ii fr]
theorem y9(pr st gr fr:Int):Means true Tryz.prog 46 [clV pr st gr fr,.sl [voE]] (ii 1):=by
 refine yM true 25 [.tmp 4] [0,1,2,4,5,6,7,13,23] Tryz.func46 fun X hX=>?_
 (repeat(refine yA ?_;(simp[go_sem])));(repeat(refine a8 ?_ ?_;(focus(simp[go_sem];done));(repeat(refine yA ?_;(simp[go_sem])))))
 refine aD tZ ?_
 simp[go_sem]
 (repeat(refine yA ?_;(simp[go_sem])));(repeat(refine a8 ?_ ?_;(focus(simp[go_sem];done));(repeat(refine yA ?_;(simp[go_sem])))))
theorem rX(pr st gr fr:Int):Means false Tryz.prog 44 [clV pr st gr fr] (clV pr st gr fr):=by
 have c1:=lG [1] (by simp)
 have c2:=lG [] (by simp)
 refine yM false 12 [.cell 2 56] [0,1,2] Tryz.func44 fun X hX=>?_
 (repeat(refine yA ?_;(simp[go_sem])))
 refine bH c1 ?_
 simp[go_sem]
 refine bH c2 ?_
 (simp[go_sem];try(refine⟨by kernel_rfl,?_⟩))
 (repeat(refine yA ?_;(simp[go_sem])))
theorem EH:Means false Tryz.prog 17 [clV 0 0 0 0] (.tup [clV 1 0 0 0,ii 0]):=by
 have c1:=rX 0 0 0 0
 refine yM false 21 [.cell 2 56,.tmp 3] [0,1,2,3,6,11] Tryz.func17 fun X hX=>?_
 (repeat(refine yA ?_;(simp[go_sem])))
 refine aD c1 ?_
 simp[go_sem]
 (repeat(refine yA ?_;(simp[go_sem,w1'])));(repeat(refine a8 ?_ ?_;(focus(simp[go_sem,w1'];done));(repeat(refine yA ?_;(simp[go_sem,w1'])))))
theorem H8(n:Int)(h:0≤n∧n≤1048576):Means true Tryz.prog 45 [ii n] (bb true):=by
 refine yM true 9 [.tmp 2] [0,2] Tryz.func45 fun X hX=>?_
 (repeat(refine yA ?_;(simp[go_sem,h.1,h.2])))
set_option maxHeartbeats 4000000 in
theorem H9(b:Bl)(h:OkB b)(hw:b.wait=0):Means false Tryz.prog 18 [clV 1 0 0 0,bl b,ii 4,.sl [voE],ii 0] (clV 1 2 4 1):=by
 have c1:=rX 1 0 0 0
 have c2:=eK b h
 have c3:=H8 0 (by decide)
 have c4:=y9 1 0 0 0
 have hp:=h.period
 refine yM false 88 [.cell 10 56] [0,1,2,3,4,5,6,10,11,12,22,26,35,56,85] Tryz.func18 fun X hX=>?_
 (repeat(refine yA ?_;(simp[go_sem])))
 refine aD c1 ?_
 simp[go_sem]
 (repeat(refine yA ?_;(simp[go_sem])))
 refine aD c2 ?_
 simp[go_sem]
 refine aI (fun hg=>c3) ?_
 simp[go_sem]
 (repeat(first|(refine aC ?_ ?_;(focus(simp[go_sem];done));(repeat(refine yA ?_;(simp[go_sem]))))|(refine a8 ?_ ?_;(focus(simp[go_sem];done));(repeat(refine yA ?_;(simp[go_sem]))))))
 refine aD c4 ?_
 simp[go_sem]
 have m4:max (min (9:Int) 4) 0=4:=by decide
 (repeat(refine yA ?_;(simp[go_sem,hw,w1',m4])));(repeat(refine aC ?_ ?_;(focus(simp[go_sem,hw,w1',m4];done));(repeat(refine yA ?_;(simp[go_sem,hw,w1',m4];try(refine⟨by kernel_rfl,?_⟩))))))
set_option maxHeartbeats 4000000 in
theorem HA:Means false Tryz.prog 16 [eA,ii 5,il [1]] (.tup [clV 0 0 0 0,ii 0]):=by
 have c1:=AZ
 have c2:=lG [1] (by simp)
 refine yM false 49 [.cell 6 56,.tmp 7] [0,1,2,3,6,7,8,26] Tryz.func16 fun X hX=>?_
 (repeat(refine yA ?_;(simp[go_sem])))
 refine aD c1 ?_
 simp[go_sem]
 (repeat(refine a8 ?_ ?_;(focus(simp[go_sem];done));(repeat(refine yA ?_;(simp[go_sem])))))
 refine bH c2 ?_
 (simp[go_sem];try(refine⟨by kernel_rfl,?_⟩))
 (repeat(refine yA ?_;(simp[go_sem])))
end Go.Proofs.YtllgjognpobnpaaGreatDoor

