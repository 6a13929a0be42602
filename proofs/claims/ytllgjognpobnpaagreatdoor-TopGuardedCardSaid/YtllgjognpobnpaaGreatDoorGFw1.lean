import Derived.WalkKit
import Derived.Maps.AppendAt
import Derived.Laws.StructEq
set_option linter.all false
namespace Go.Ab
open Go.RowKit
inductive AV where
 |bad
 |v (x:Value)
 |nil
 |sl (es:List AV)
 |ro (cells:List AV)
 |agg (cells:List AV)
 |tup (vs:List AV)
 |el (id k i off:Nat)
 |ow (id:Nat)
 |mb (g:Bool) (x:AV)
 |wn (id k lo n:Nat)
 |fn (f:FuncId) (first cap:List AV)
 deriving Inhabited
def AV.flat:AV→List AV
 | .agg cs=>cs
 |x=>[x]
@[simp] theorem AV.flat_v(x:Value):AV.flat (.v x)=[.v x]:=rfl
@[simp] theorem AV.flat_agg(cs:List AV):AV.flat (.agg cs)=cs:=rfl
@[simp] theorem AV.flat_nil:AV.flat .nil=[.nil]:=rfl
@[simp] theorem AV.flat_sl(cs:List AV):AV.flat (.sl cs)=[.sl cs]:=rfl
def nth(es:List AV)(i:Nat):AV:=es.getD i .bad
theorem sB{es:List AV}{i:Nat}{e:AV}(h:es[i]? =some e):nth es i=e:=by unfold nth;rw[List.getD_eq_getElem?_getD,h];rfl
theorem uF{es:List AV}{i:Nat}(h:i<es.length):nth es i=es[i]:=sB (List.getElem?_eq_getElem h)
theorem cG{α:Type}(f:α→AV){l:List α}{i:Nat}(h:i<l.length):nth (l.map f) i=f l[i]:=sB (by simp[h])
theorem sC(e:AV)(es:List AV):nth (e::es) 0=e:=rfl
theorem sD(e:AV)(es:List AV)(i:Nat):nth (e::es) (i+1)=nth es i:=rfl
inductive RepZ(w:World)(M:Nat→Prop):Value→AV→Prop
 |bad (x:Value):RepZ w M x .bad
 |v (x:Value):RepZ w M x (.v x)
 |nil:RepZ w M (.slice none 0 0) .nil
 |sl (A:Option Addr) (cap k:Nat) (es:List AV) (f:Nat→Value)
   (hk:∀e∈es,e.flat.length=k)
   (hA:es≠[]→∃ad,A=some ad∧M ad.block)
   (hc:∀ad,A=some ad→∀j,j<es.length*k→w.cell? (ad.add j)=some (f j))
   (hr:∀(j:Nat) (e:AV),(es.flatMap AV.flat)[j]? =some e→RepZ w M (f j) e)
   (hcap:es.length≤cap) (hmax:cap≤maxLen):RepZ w M (.slice A es.length cap) (.sl es)
 |ro (ad:Addr) (cells:List AV) (f:Nat→Value) (hM:M ad.block)
   (hc:∀j,j<cells.length→w.cell? (ad.add j)=some (f j))
   (hr:∀(j:Nat) (e:AV),cells[j]? =some e→RepZ w M (f j) e):RepZ w M (.pointer (some ad)) (.ro cells)
 |agg (cs:Array Value) (es:List AV) (hl:cs.size=es.length)
   (hr:∀(j:Nat) (c:Value) (e:AV),cs[j]? =some c→es[j]? =some e→RepZ w M c e):RepZ w M (.agg cs) (.agg es)
 |tup (cs:Array Value) (es:List AV) (hl:cs.size=es.length)
   (hr:∀(j:Nat) (c:Value) (e:AV),cs[j]? =some c→es[j]? =some e→RepZ w M c e):RepZ w M (.tuple cs) (.tup es)
 |mb (x:Value) (g:Bool) (y:AV) (h0:g=false→x=undef) (h:g=true→RepZ w M x y):RepZ w M x (.mb g y)
theorem dG(a:Addr)(n:Nat):(a.add n).block=a.block:=by unfold Addr.add;split<;>rfl
theorem iP(a:Addr)(i j:Nat):(a.add i).add j=a.add (i+j):=by
 unfold Addr.add
 by_cases hi:i=0<;>by_cases hj:j=0<;>simp[hi,hj,Nat.add_assoc]
theorem dJ(g i j:Nat):(⟨g,i,none⟩:Addr).add j=⟨g,i+j,none⟩:=by
 unfold Addr.add
 by_cases hj:j=0<;>simp[hj]
theorem RepZ.mono{w w':World}{M M':Nat→Prop}(hb:∀b,M b→w'.heap[b]? =w.heap[b]?)(hM:∀b,M b→M' b){x:Value}{e:AV}
  (h:RepZ w M x e):RepZ w' M' x e:=by
 have hcell:∀(p:Addr),M p.block→w'.cell? p=w.cell? p:=fun p hp=>World.cell?_of_block (hb _ hp)
 induction h with
 |bad x=>exact .bad x
 |v x=>exact .v x
 |nil=>exact .nil
 |sl A cap k es f hk hA hc hr hcap hmax ih=>
  refine .sl A cap k es f hk (fun h=>?_) (fun ad had j hj=>?_) ih hcap hmax
  ·obtain⟨ad,h1,h2⟩:=hA h;exact⟨ad,h1,hM _ h2⟩
  ·have hne:es≠[]:=by rintro rfl;simp at hj
   obtain⟨ad',h1,h2⟩:=hA hne
   obtain rfl:ad=ad':=by rw[had]at h1;exact Option.some.inj h1
   rw[hcell _ (by rw[dG];exact h2)]
   exact hc ad had j hj
 |ro ad cells f hm hc hr ih=>
  refine .ro ad cells f (hM _ hm) (fun j hj=>?_) ih
  rw[hcell _ (by rw[dG];exact hm)]
  exact hc j hj
 |agg cs es hl hr ih=>exact .agg cs es hl ih
 |tup cs es hl hr ih=>exact .tup cs es hl ih
 |mb x g y h0 h ih=>exact .mb x g y h0 ih
mutual
def AV.scal:AV→Bool
 | .bad| .v _| .nil=>true
 | .sl es=>es.isEmpty
 | .agg cs=>scalAll cs
 | .tup cs=>scalAll cs
 |_=>false
def AV.scalAll:List AV→Bool
 | []=>true
 |c::cs=>c.scal&&scalAll cs
end
theorem AV.scalAll_mem{cs:List AV}(h:AV.scalAll cs=true){j:Nat}{e:AV}(he:cs[j]? =some e):e.scal=true:=by
 induction cs generalizing j with
 |nil=>simp at he
 |cons c cs ih=>
  simp only[AV.scalAll,Bool.and_eq_true]at h
  cases j with
  |zero=>simp at he;subst he;exact h.1
  |succ j=>exact ih h.2 (by simpa using he)
theorem RepZ.of_scal{w w':World}{M M':Nat→Prop}{x:Value}{e:AV}(h:RepZ w M x e)(hs:e.scal=true):RepZ w' M' x e:=by
 induction h with
 |bad x=>exact .bad x
 |v x=>exact .v x
 |nil=>exact .nil
 |sl A cap k es f hk hA hc hr hcap hmax ih=>
  simp only[AV.scal,List.isEmpty_iff]at hs
  subst hs
  exact .sl A cap k [] (fun _=>undef) (by simp) (by simp) (by simp) (by simp) (by simp) hmax
 |ro ad cells f hm hc hr ih=>simp[AV.scal]at hs
 |agg cs es hl hr ih=>
  simp only[AV.scal]at hs
  exact .agg cs es hl fun j c e h1 h2=>ih j c e h1 h2 (AV.scalAll_mem hs h2)
 |tup cs es hl hr ih=>
  simp only[AV.scal]at hs
  exact .tup cs es hl fun j c e h1 h2=>ih j c e h1 h2 (AV.scalAll_mem hs h2)
 |mb x g y h0 h ih=>simp[AV.scal]at hs
structure Ob where
 E:Nat
 k:Nat
 es:List AV
structure MOb where
 K:Nat
 V:Nat
 es:List (AV×AV)
inductive Cell where
 |dead
 |row (o:Ob)
 |map (m:MOb)
structure St where
 env:Nat→AV
 heap:List Cell
def upd(f:Nat→AV)(s:Nat)(x:AV):Nat→AV:=fun t=>if t=s then x else f t
theorem bK(f:Nat→AV)(s:Nat)(x:AV):upd f s x s=x:=by simp[upd]
theorem aX(f:Nat→AV)(s:Nat)(x:AV){t:Nat}(h:t≠s):upd f s x t=f t:=by simp[upd,h]
def RepO(loc:Nat→Value)(x:Value):AV→Prop
 | .ow id=>x=loc id
 | .el id k i off=>∃g n c,loc id=.slice (some ⟨g,0,none⟩) n c∧x=.pointer (some ⟨g,i*k+off,none⟩)
 | .wn id k lo n=>∃A c,x=.slice A n c∧n≤c∧c≤maxLen∧(0<n→∃g m d,loc id=.slice (some ⟨g,0,none⟩) m d∧A=some ⟨g,lo*k,none⟩)∧(lo=0→∃m,loc id=.slice A m c)
 |_=>False
def RepB(w:World)(M:Nat→Prop)(loc:Nat→Value)(x:Value)(e:AV):Prop:=RepZ w M x e∨RepO loc x e
def Rep(w:World)(M:Nat→Prop)(loc:Nat→Value)(x:Value):AV→Prop
 | .ow id=>RepO loc x (.ow id)
 | .el id k i off=>RepO loc x (.el id k i off)
 | .wn id k lo n=>RepO loc x (.wn id k lo n)
 | .mb g y=>(g=false→x=undef)∧(g=true→Rep w M loc x y)
 | .fn f first cap=>∃fs cs,x=.func (.func f) fs cs∧fs.size=first.length∧cs.size=cap.length∧
   (∀(j:Nat) (c:Value) (e:AV),fs[j]? =some c→first[j]? =some e→RepB w M loc c e)∧(∀(j:Nat) (c:Value) (e:AV),cs[j]? =some c→cap[j]? =some e→RepB w M loc c e)
 | .bad=>RepZ w M x .bad
 | .v y=>RepZ w M x (.v y)
 | .nil=>RepZ w M x .nil
 | .sl es=>RepZ w M x (.sl es)
 | .ro cs=>RepZ w M x (.ro cs)
 | .agg es=>∃cs,x=.agg cs∧cs.size=es.length∧∀(j:Nat) (c:Value) (e:AV),cs[j]? =some c→es[j]? =some e→RepB w M loc c e
 | .tup es=>∃cs,x=.tuple cs∧cs.size=es.length∧∀(j:Nat) (c:Value) (e:AV),cs[j]? =some c→es[j]? =some e→RepB w M loc c e
def AV.idB:AV→List Nat
 | .ow id=>[id]
 | .el id _ _ _=>[id]
 | .wn id _ _ _=>[id]
 |_=>[]
def AV.ids:AV→List Nat
 | .ow id=>[id]
 | .el id _ _ _=>[id]
 | .wn id _ _ _=>[id]
 | .mb _ y=>y.ids
 | .fn _ first cap=>(first++cap).flatMap AV.idB
 | .tup es=>es.flatMap AV.idB
 | .agg es=>es.flatMap AV.idB
 |_=>[]
def AV.idLt(n:Nat):AV→Prop
 | .ow id=>id<n
 | .el id _ _ _=>id<n
 | .wn id _ _ _=>id<n
 | .mb _ y=>y.idLt n
 | .fn _ first cap=>∀e∈first++cap,∀id∈e.idB,id<n
 | .tup es=>∀e∈es,∀id∈e.idB,id<n
 | .agg es=>∀e∈es,∀id∈e.idB,id<n
 |_=>True
theorem Rep.of_repZ{w:World}{M:Nat→Prop}{loc:Nat→Value}{x:Value}{e:AV}(h:RepZ w M x e):Rep w M loc x e:=by
 induction h with
 |mb x g y h0 h ih=>exact⟨h0,ih⟩
 |tup cs es hl hr ih=>exact⟨cs,rfl,hl,fun j c e h1 h2=>.inl (hr j c e h1 h2)⟩
 |agg cs es hl hr ih=>exact⟨cs,rfl,hl,fun j c e h1 h2=>.inl (hr j c e h1 h2)⟩
 |_=>unfold Rep;constructor<;>assumption
theorem RepZ.no_ow{w:World}{M:Nat→Prop}{x:Value}{id:Nat}(h:RepZ w M x (.ow id)):False:=by cases h
theorem RepZ.no_el{w:World}{M:Nat→Prop}{x:Value}{a b c d:Nat}(h:RepZ w M x (.el a b c d)):False:=by cases h
theorem RepZ.rep{w:World}{M:Nat→Prop}{loc:Nat→Value}{x:Value}{e:AV}(h:RepZ w M x e):Rep w M loc x e:=
 Rep.of_repZ h
def AV.zoneB:AV→Bool
 | .ow _=>false
 | .el .. =>false
 | .wn .. =>false
 |_=>true
def AV.zone:AV→Bool
 | .ow _=>false
 | .el .. =>false
 | .wn .. =>false
 | .fn .. =>false
 | .mb _ y=>y.zone
 | .tup es=>es.all AV.zoneB
 | .agg es=>es.all AV.zoneB
 |_=>true
theorem RepB.repZ'{w:World}{M:Nat→Prop}{loc:Nat→Value}{x:Value}{e:AV}(h:RepB w M loc x e)(hz:e.zoneB=true):RepZ w M x e:=by
 rcases h with h|h
 ·exact h
 ·cases e<;>first|exact h.elim|simp[AV.zoneB]at hz
theorem Rep.repZ{w:World}{M:Nat→Prop}{loc:Nat→Value}{x:Value}{e:AV}(h:Rep w M loc x e)(hz:e.zone=true):RepZ w M x e:=by
 induction e using AV.zone.induct with
 |case5 g y ih=>
  have h':(g=false→x=undef)∧(g=true→Rep w M loc x y):=h
  exact .mb x g y h'.1 fun hg=>ih (h'.2 hg) (by simpa[AV.zone]using hz)
 |case6 es=>
  obtain⟨cs,rfl,hl,hr⟩:=h
  simp only[AV.zone,List.all_eq_true]at hz
  exact .tup cs es hl fun j c e h1 h2=>(hr j c e h1 h2).repZ' (hz e (List.mem_of_getElem? h2))
 |case7 es=>
  obtain⟨cs,rfl,hl,hr⟩:=h
  simp only[AV.zone,List.all_eq_true]at hz
  exact .agg cs es hl fun j c e h1 h2=>(hr j c e h1 h2).repZ' (hz e (List.mem_of_getElem? h2))
 |case8 e h1 h2 h3 h4 h5 h6 h7=>
  cases e with
  |ow id=>exact(h1 _ rfl).elim
  |el a b c d=>exact(h2 _ _ _ _ rfl).elim
  |wn a b c d=>exact(h3 _ _ _ _ rfl).elim
  |fn a b c=>exact(h4 _ _ _ rfl).elim
  |mb g y=>exact(h5 _ _ rfl).elim
  |tup es=>exact(h6 _ rfl).elim
  |agg es=>exact(h7 _ rfl).elim
  |_=>exact h
 |_=>simp[AV.zone]at hz
theorem RepO.rep{w:World}{M:Nat→Prop}{loc:Nat→Value}{x:Value}{e:AV}(h:RepO loc x e):Rep w M loc x e:=by
 cases e<;>first|exact h|exact h.elim
theorem RepB.rep{w:World}{M:Nat→Prop}{loc:Nat→Value}{x:Value}{e:AV}(h:RepB w M loc x e):Rep w M loc x e:=h.elim RepZ.rep RepO.rep
theorem RepB.repZ{w:World}{M:Nat→Prop}{loc:Nat→Value}{x:Value}{e:AV}(h:RepB w M loc x e)(hz:e.zone=true):RepZ w M x e:=h.rep.repZ hz
def AV.flatB:AV→Bool
 | .mb .. =>false
 | .fn .. =>false
 | .tup .. =>false
 | .agg cs=>cs.all AV.zoneB
 |_=>true
theorem Rep.repB{w:World}{M:Nat→Prop}{loc:Nat→Value}{x:Value}{e:AV}(h:Rep w M loc x e)(hf:e.flatB=true):RepB w M loc x e:=by
 cases e with
 |ow id=>exact .inr h
 |el a b c d=>exact .inr h
 |wn a b c d=>exact .inr h
 |mb g y=>simp[AV.flatB]at hf
 |fn a b c=>simp[AV.flatB]at hf
 |tup a=>simp[AV.flatB]at hf
 |agg a=>exact .inl (h.repZ hf)
 |_=>exact .inl h
theorem aT(n:Nat)(e:AV):e.idLt n↔∀id∈e.ids,id<n:=by
 induction e using AV.ids.induct with
 |case5 f first cap=>simp only[AV.idLt,AV.ids,List.mem_flatMap];exact⟨fun h id ⟨e,he,hi⟩=>h e he id hi,fun h e he id hi=>h id ⟨e,he,hi⟩⟩
 |case6 es=>simp only[AV.idLt,AV.ids,List.mem_flatMap];exact⟨fun h id ⟨e,he,hi⟩=>h e he id hi,fun h e he id hi=>h id ⟨e,he,hi⟩⟩
 |case4 g y ih=>exact ih
 |case7 es=>simp only[AV.idLt,AV.ids,List.mem_flatMap];exact⟨fun h id ⟨e,he,hi⟩=>h e he id hi,fun h e he id hi=>h id ⟨e,he,hi⟩⟩
 |case8 e h1 h2 h3 h4 h5 h6 h7=>
  cases e with
  |ow id=>exact(h1 _ rfl).elim
  |el a b c d=>exact(h2 _ _ _ _ rfl).elim
  |wn a b c d=>exact(h3 _ _ _ _ rfl).elim
  |fn a b c=>exact(h5 _ _ _ rfl).elim
  |mb g y=>exact(h4 _ _ rfl).elim
  |tup es=>exact(h6 _ rfl).elim
  |agg es=>exact(h7 _ rfl).elim
  |_=>simp[AV.idLt,AV.ids]
 |_=>simp[AV.idLt,AV.ids]
theorem bC{e:AV}(h:e.zone=true)(n:Nat):e.idLt n:=by
 induction e using AV.zone.induct with
 |case5 g y ih=>exact ih (by simpa[AV.zone]using h)
 |case6 es=>
  intro e he id hid
  simp only[AV.zone,List.all_eq_true]at h
  have:=h e he
  cases e<;>simp[AV.zoneB,AV.idB]at*
 |case7 es=>
  intro e he id hid
  simp only[AV.zone,List.all_eq_true]at h
  have:=h e he
  cases e<;>simp[AV.zoneB,AV.idB]at*
 |case8 e h1 h2 h3 h4 h5 h6 h7=>
  cases e with
  |ow id=>exact(h1 _ rfl).elim
  |el a b c d=>exact(h2 _ _ _ _ rfl).elim
  |wn a b c d=>exact(h3 _ _ _ _ rfl).elim
  |fn a b c=>exact(h4 _ _ _ rfl).elim
  |mb g y=>exact(h5 _ _ rfl).elim
  |tup es=>exact(h6 _ rfl).elim
  |agg es=>exact(h7 _ rfl).elim
  |_=>trivial
 |_=>simp[AV.zone]at h
theorem AV.idLt_up{n m:Nat}(h:n≤m){e:AV}(he:e.idLt n):e.idLt m:=(aT m e).2 fun id hid=>Nat.lt_of_lt_of_le ((aT n e).1 he id hid) h
theorem AV.idB_ids{e:AV}(hf:e.flatB=true):e.idB=e.ids:=by
 cases e with
 |agg cs=>
  simp only[AV.flatB,List.all_eq_true]at hf
  simp only[AV.idB,AV.ids]
  symm
  rw[List.flatMap_eq_nil_iff]
  intro e he
  have:=hf e he
  cases e<;>simp[AV.zoneB,AV.idB]at*
 |_=>first|rfl|simp[AV.flatB]at hf
def G0:Nat:=1000000
def globs:List (Nat×List Value):=[(0,[.string ⟨#[107,116]⟩,.string ⟨#[99]⟩,.string ⟨#[99]⟩,.string ⟨#[99,119,110,109]⟩,.string ⟨#[110,114]⟩,.string ⟨#[119,115]⟩,.string ⟨#[119,109,115]⟩,.string ⟨#[99,119,109,114,115]⟩,.string ⟨#[99,110,109,114]⟩,.string ⟨#[110,114]⟩,.string ⟨#[99,110,109,116]⟩,.string ⟨#[114,116]⟩,.string ⟨#[110,114]⟩,.string ⟨#[114]⟩,.string ⟨#[99,116]⟩,.string ⟨#[119,110]⟩,.string ⟨#[99,109]⟩,.string ⟨#[99,107]⟩,.string ⟨#[110,109,114]⟩,.string ⟨#[110,109,114]⟩,.string ⟨#[110,109,114]⟩]),(1,[.string ⟨#[61,61]⟩,.string ⟨#[59]⟩,.string ⟨#[44]⟩,.string ⟨#[61]⟩,.string ⟨#[60]⟩,.string ⟨#[43]⟩,.string ⟨#[45]⟩,.string ⟨#[42]⟩,.string ⟨#[47]⟩,.string ⟨#[40]⟩,.string ⟨#[41]⟩])]
def globI:List Nat:=[2]
def GlobW(w:World)(M:Nat→Prop):Prop:=(∀p∈globs,M p.1∧(∀(j:Nat) (c:Value),p.2[j]? =some c→w.cell? ⟨p.1,j,none⟩=some c)∧∃t f,w.heap[p.1]? =some (.cells p.2.toArray t f))∧
 ∀g∈globI,M g∧∃m t f,w.heap[g]? =some (.cells #[.int .i64 m] t f)
theorem GlobW.mono{w w':World}{M M':Nat→Prop}(h:GlobW w M)(hb:∀b,M b→w'.heap[b]? =w.heap[b]?)(hM:∀b,M b→M' b):GlobW w' M':=
 ⟨fun p hp=>⟨hM _ (h.1 p hp).1,fun j c hc=>by rw[World.cell?_of_block (a:=⟨p.1,j,none⟩) (hb p.1 (h.1 p hp).1)];exact(h.1 p hp).2.1 j c hc,by rw[hb p.1 (h.1 p hp).1];exact(h.1 p hp).2.2⟩,
  fun g hg=>⟨hM _ (h.2 g hg).1,by rw[hb g (h.2 g hg).1];exact(h.2 g hg).2⟩⟩
structure Ctx where
 w0:World
 Z:Nat→Prop
 n:Nat
 T:Nat→Prop
 gh:Nat→Value
 glob:GlobW w0 Z∧(∀p∈globs,¬T p.1)∧∀g∈globI,¬T g
 dl:List Deferred
def Ctx.own(X:Ctx)(b:Nat):Prop:=X.w0.heap.size≤b∨X.T b
structure BelowT(T:Nat→Prop)(w w':World):Prop where
 os:w'.os=w.os
 tape:w'.tape=w.tape
 output:w'.output=w.output
 size:w.heap.size≤w'.heap.size
 block:∀k,k<w.heap.size→¬T k→w'.heap[k]? =w.heap[k]?
def RepC(w:World)(M:Nat→Prop)(loc:Nat→Value)(n:Nat)(x:Value)(e:AV):Prop:=RepB w M loc x e∧e.idLt n∧e.flatB=true
structure ObjOK(own':Nat→Prop)(w:World)(M:Nat→Prop)(loc:Nat→Value)(n:Nat)(sv:Value)(o:Ob):Prop where
 own:∃xs,w.ownsRow 0 o.E o.k sv o.es.length xs∧∀(j:Nat) (e:AV),(o.es.flatMap AV.flat)[j]? =some e→∃x,xs[j]? =some x∧RepC w M loc n x e
 flat:∀e∈o.es,e.flat.length=o.k
 away:∀g,sv.ownBlock=some g→¬M g
 mine:∀g,sv.ownBlock=some g→own' g
structure EntOK(w:World)(M:Nat→Prop)(es:Array MapEntry)(c:Nat)(l:List (AV×AV)):Prop where
 sz:es.size=l.length
 rep:∀(j:Nat) (e:MapEntry) (q:AV×AV),es[j]? =some e→l[j]? =some q→RepZ w M e.key q.1∧RepZ w M e.val q.2
 old:∀(j:Nat) (e:MapEntry),es[j]? =some e→e.born<c
 age:∀(i j:Nat) (d e:MapEntry),i<j→es[i]? =some d→es[j]? =some e→d.born<e.born
structure MapOK(own':Nat→Prop)(w:World)(M:Nat→Prop)(sv:Value)(m:MOb):Prop where
 own:∃g es clock,sv=.map (some g)∧own' g∧¬M g∧w.heap[g]? =some (.map es clock)∧EntOK w M es clock m.es
theorem EntOK.mono{w w':World}{M M':Nat→Prop}(hb:∀b,M b→w'.heap[b]? =w.heap[b]?)(hM:∀b,M b→M' b){es:Array MapEntry}{c:Nat}{l:List (AV×AV)}(h:EntOK w M es c l):EntOK w' M' es c l:=
 ⟨h.1,fun j e q h1 h2=>⟨(h.2 j e q h1 h2).1.mono hb hM,(h.2 j e q h1 h2).2.mono hb hM⟩,h.old,h.age⟩
structure RR(X:Ctx)(M:Nat→Prop)(loc:Nat→Value)(st:St)(a:Act)(w:World):Prop where
 env:∀s,Rep w M loc (if s<G0 then a.tmps.getD s undef else X.gh (s-G0)) (st.env s)
 nle:X.n≤G0
 size:a.tmps.size=X.n
 defers:a.defers=X.dl
 obj:∀id o,st.heap[id]? =some (.row o)→ObjOK X.own w M loc st.heap.length (loc id) o
 sep:∀i j oi oj,i≠j→st.heap[i]? =some (.row oi)→st.heap[j]? =some (.row oj)→(loc i).ownBlock=none∨(loc i).ownBlock≠(loc j).ownBlock
 mobj:∀id m,st.heap[id]? =some (.map m)→MapOK X.own w M (loc id) m
 msep:∀i j mi mj,i≠j→st.heap[i]? =some (.map mi)→st.heap[j]? =some (.map mj)→loc i≠loc j
 below:BelowT X.T X.w0 w
 zone:∀b,M b→b<w.heap.size∧(X.Z b∨X.own b)
 zin:∀b,X.Z b→M b
 zlt:∀b,X.Z b→b<X.w0.heap.size
 one:∀id,id<st.heap.length→(loc id).oneCell'=true
 ids:∀s,(st.env s).idLt st.heap.length
def R(X:Ctx)(st:St)(a:Act)(w:World):Prop:=∃M loc,RR X M loc st a w
theorem RepO.mono{loc loc':Nat→Value}{n:Nat}(hl:∀id,id<n→loc' id=loc id){x:Value}{e:AV}(h:RepO loc x e)(hi:e.idLt n):RepO loc' x e:=by
 cases e with
 |ow id=>simp only[RepO]at h⊢;rw[hl id hi];exact h
 |el a b c d=>simp only[RepO]at h⊢;rw[hl a hi];exact h
 |wn a b c d=>simp only[RepO]at h⊢;rw[hl a hi];exact h
 |_=>exact h
theorem mK{n:Nat}{e:AV}(h:∀id∈e.idB,id<n)(hf:e.flatB=true):e.idLt n:=(aT n e).2 (by rw[←AV.idB_ids hf];exact h)
theorem RepO.lt{loc:Nat→Value}{n:Nat}{x:Value}{e:AV}(h:RepO loc x e)(hi:∀id∈e.idB,id<n):e.idLt n:=by
 refine mK hi ?_
 cases e<;>first|rfl|exact h.elim
theorem RepB.mono{w w':World}{M M':Nat→Prop}{loc loc':Nat→Value}{n:Nat}(hb:∀b,M b→w'.heap[b]? =w.heap[b]?)(hM:∀b,M b→M' b)
  (hl:∀id,id<n→loc' id=loc id) {x:Value} {e:AV} (h:RepB w M loc x e) (hi:∀id∈e.idB,id<n):RepB w' M' loc' x e:=
 h.imp (fun h=>h.mono hb hM) (fun h=>h.mono hl (h.lt hi))
theorem RepC.mono{w w':World}{M M':Nat→Prop}{loc loc':Nat→Value}{n n':Nat}(hb:∀b,M b→w'.heap[b]? =w.heap[b]?)(hM:∀b,M b→M' b)
  (hl:∀id,id<n→loc' id=loc id) (hn:n≤n') {x:Value} {e:AV} (h:RepC w M loc n x e):RepC w' M' loc' n' x e:=
 ⟨h.1.mono hb hM hl (fun id hid=>(aT n e).1 h.2.1 id (by
  cases e<;>first|exact hid|simp[AV.idB]at hid)),AV.idLt_up hn h.2.1,h.2.2⟩
theorem Rep.mono{w w':World}{M M':Nat→Prop}{loc loc':Nat→Value}{n:Nat}(hb:∀b,M b→w'.heap[b]? =w.heap[b]?)(hM:∀b,M b→M' b)
  (hl:∀id,id<n→loc' id=loc id) {x:Value} {e:AV} (h:Rep w M loc x e) (hi:e.idLt n):Rep w' M' loc' x e:=by
 induction e using AV.zone.induct with
 |case1 id=>exact RepO.mono hl (e:=.ow id) h hi
 |case2 a b c d=>exact RepO.mono hl (e:=.el a b c d) h hi
 |case3 a b c d=>exact RepO.mono hl (e:=.wn a b c d) h hi
 |case4 f first cap=>
  obtain⟨fs,cs,h1,h2,h3,h4,h5⟩:=h
  exact⟨fs,cs,h1,h2,h3,fun j c e hc he=>(h4 j c e hc he).mono hb hM hl (hi e (List.mem_append_left _ (List.mem_of_getElem? he))),fun j c e hc he=>(h5 j c e hc he).mono hb hM hl (hi e (List.mem_append_right _ (List.mem_of_getElem? he)))⟩
 |case5 g y ih=>
  have h':(g=false→x=undef)∧(g=true→Rep w M loc x y):=h
  show(g=false→x=undef)∧(g=true→Rep w' M' loc' x y)
  exact⟨h'.1,fun hg=>ih (h'.2 hg) hi⟩
 |case6 es=>
  obtain⟨cs,h1,h2,h3⟩:=h
  exact⟨cs,h1,h2,fun j c e hc he=>(h3 j c e hc he).mono hb hM hl (hi e (List.mem_of_getElem? he))⟩
 |case7 es=>
  obtain⟨cs,h1,h2,h3⟩:=h
  exact⟨cs,h1,h2,fun j c e hc he=>(h3 j c e hc he).mono hb hM hl (hi e (List.mem_of_getElem? he))⟩
 |case8 e h1 h2 h3 h4 h5 h6 h7=>
  refine RepZ.rep (RepZ.mono hb hM (Rep.repZ h ?_))
  cases e with
  |ow id=>exact(h1 _ rfl).elim
  |el a b c d=>exact(h2 _ _ _ _ rfl).elim
  |wn a b c d=>exact(h3 _ _ _ _ rfl).elim
  |fn a b c=>exact(h4 _ _ _ rfl).elim
  |mb g y=>exact(h5 _ _ rfl).elim
  |tup es=>exact(h6 _ rfl).elim
  |agg es=>exact(h7 _ rfl).elim
  |_=>rfl
theorem RR.globW{X:Ctx}{M M':Nat→Prop}{loc:Nat→Value}{st:St}{a:Act}{w:World}(h:RR X M loc st a w)(hM:∀b,M b→M' b):GlobW w M':=by
 refine⟨fun p hp=>?_,fun g hg=>?_⟩
 ·obtain⟨h1,h2,h3⟩:=X.glob.1.1 p hp
  have hbk:=h.below.block p.1 (h.zlt _ h1) (X.glob.2.1 p hp)
  refine⟨hM _ (h.zin _ h1),fun j c hc=>?_,by rw[hbk];exact h3⟩
  rw[World.cell?_of_block (a:=⟨p.1,j,none⟩) (h.below.block p.1 (h.zlt _ h1) (X.glob.2.1 p hp))]
  exact h2 j c hc
 ·obtain⟨h1,h2⟩:=X.glob.1.2 g hg
  exact⟨hM _ (h.zin _ h1),by rw[h.below.block g (h.zlt _ h1) (X.glob.2.2 g hg)];exact h2⟩
theorem RR.put{X:Ctx}{M:Nat→Prop}{loc:Nat→Value}{st:St}{a:Act}{w:World}(h:RR X M loc st a w){d:Nat}(hd:d<X.n){x:Value}{e:AV}
  (hr:Rep w M loc x e) (hi:e.idLt st.heap.length):RR X M loc {st with env:=upd st.env d e} (a.put (some d) x) w where
 env:=by
  intro s
  simp only[Act.put,upd]
  by_cases hs:s=d
  ·subst hs
   rw[if_pos rfl,if_pos (Nat.lt_of_lt_of_le hd h.nle)]
   have:(a.tmps.setIfInBounds s x).getD s undef=x:=by
    rw[Array.getD_eq_getD_getElem?,Array.getElem?_setIfInBounds_self_of_lt (by rw[h.size];exact hd)];rfl
   rw[this];exact hr
  ·rw[if_neg hs]
   have:(a.tmps.setIfInBounds d x).getD s undef=a.tmps.getD s undef:=by
    rw[Array.getD_eq_getD_getElem?,Array.getElem?_setIfInBounds_ne (by omega),←Array.getD_eq_getD_getElem?]
   rw[this];exact h.env s
 nle:=h.nle
 size:=by simp[Act.put,h.size]
 defers:=h.defers
 obj:=h.obj
 sep:=h.sep
 mobj:=h.mobj
 msep:=h.msep
 below:=h.below
 zone:=h.zone
 zin:=h.zin
 zlt:=h.zlt
 one:=h.one
 ids:=by
  intro s
  simp only[upd]
  split
  ·exact hi
  ·exact h.ids s
end Go.Ab
namespace Go.Ab
open Go.RowKit
inductive K where
 |one|str|bool|ptr|int (k:IntKind)
 |slice (e:Nat)
 |struct (fs:List (Nat×Nat))
 |arr (n e:Nat)
 |map (k e:Nat)
def kOf:TypeDesc→K
 | .slice e=>.slice e
 | .struct fs=>.struct (fs.toList.map fun f=>(f.offset,f.type))
 | .array n e=>.arr n e
 | .string=>.str
 | .bool=>.bool
 | .int k=>.int k
 | .map k e=>.map k e
 | .pointer _=>.ptr
 |_=>.one
def K.agg:K→Bool
 | .struct _| .arr _ _=>true
 |_=>false
structure TK where
 k:K
 cells:Nat
 bytes:Nat
 zero:AV
def ofV:Value→AV
 | .slice none 0 0=>.nil
 | .agg cs=>.agg (cs.toList.map .v)
 |x=>.v x
def zeroOf:Value→AV
 | .agg cs=>.agg (cs.toList.map ofV)
 |x=>ofV x
def tyk(P:Program)(t:Nat):Option TK:=
 match P.info? t,P.underlying t with
 |some i,some d=>match i.zero with
  |some z=>some ⟨kOf d,i.size,i.bytes,zeroOf z⟩
  |none=>none
 |_,_=>none
theorem aH{P:Program}{t:Nat}{T:TK}(h:tyk P t=some T):
  ∃i d z,P.info? t=some i∧P.underlying t=some d∧i.zero=some z∧T=⟨kOf d,i.size,i.bytes,zeroOf z⟩:=by
 unfold tyk at h
 split at h
 ·rename_i i d h1 h2
  split at h
  ·rename_i z hz
   exact⟨i,d,z,h1,h2,hz,(Option.some.inj h).symm⟩
  ·cases h
 ·cases h
section
variable{P:Program}{w:World}{M:Nat→Prop}{loc:Nat→Value}
theorem bY{d:TypeDesc}{e:Nat}(h:kOf d=.slice e):d=.slice e:=by cases d<;>simp[kOf]at h;rw[h]
theorem jN{d:TypeDesc}(h:kOf d=.str):d=.string:=by cases d<;>simp[kOf]at h;rfl
theorem wH{d:TypeDesc}(h:kOf d=.ptr):∃e,d=.pointer e:=by cases d<;>simp[kOf]at h;exact⟨_,rfl⟩
theorem jB{d:TypeDesc}{k:IntKind}(h:kOf d=.int k):d=.int k:=by cases d<;>simp[kOf]at h;rw[h]
theorem mO{d:TypeDesc}(h:kOf d=.bool):d=.bool:=by cases d<;>simp[kOf]at h;rfl
theorem qG{d:TypeDesc}{n e:Nat}(h:kOf d=.arr n e):d=.array n e:=by cases d<;>simp[kOf]at h;rw[h.1,h.2]
theorem wI{d:TypeDesc}{n e:Nat}(h:kOf d=.map n e):d=.map n e:=by cases d<;>simp[kOf]at h;rw[h.1,h.2]
theorem dM{d:TypeDesc}{fs:List (Nat×Nat)}(h:kOf d=.struct fs):∃fa:Array Field,d=.struct fa∧fs=fa.toList.map fun f=>(f.offset,f.type):=by
 cases d<;>simp[kOf]at h
 exact⟨_,rfl,by simp[h]⟩
theorem gU(x:Value):RepZ w M x (ofV x):=by
 unfold ofV
 split
 ·exact .nil
 ·rename_i cs
  refine .agg cs _ (by simp) fun j c e h1 h2=>?_
  simp only[List.getElem?_map,Array.getElem?_toList,h1,Option.map_some]at h2
  obtain rfl:=Option.some.inj h2
  exact .v c
 ·exact .v x
theorem cL(x:Value):RepZ w M x (zeroOf x):=by
 unfold zeroOf
 split
 ·rename_i cs
  refine .agg cs _ (by simp) fun j c e h1 h2=>?_
  simp only[List.getElem?_map,Array.getElem?_toList,h1,Option.map_some]at h2
  obtain rfl:=Option.some.inj h2
  exact gU c
 ·exact gU _
def globV(g:Nat):AV:=match globs.find? (fun p=>p.1==g)with
 |some p=>.ro (p.2.map ofV)
 |none=>.bad
def ev(env:Nat→AV):Operand→AV
 | .tmp t=>if t<G0 then env t else .bad
 | .const x=>ofV x
 | .global g=>globV g
 | .func f=>.v (.func (.func f) #[] #[])
theorem RR.ev{X:Ctx}{st:St}{a:Act}(h:RR X M loc st a w)(x:Operand):Rep w M loc (a.eval x) (ev st.env x):=by
 cases x with
 |tmp t=>
  have:=h.env t
  simp only[Ab.ev]
  split
  ·rename_i ht;rw[if_pos ht]at this;exact this
  ·exact(RepZ.bad _).rep
 |const x=>exact(gU x).rep
 |global g=>
  simp only[Ab.ev,globV]
  split
  ·rename_i p hp
   have hm:=List.mem_of_find?_eq_some hp
   have he:p.1=g:=by simpa using List.find?_some hp
   obtain⟨h1,h2,_⟩:=(h.globW (fun _ hb=>hb)).1 p hm
   refine RepZ.rep ?_
   show RepZ w M (.pointer (some ⟨g,0,none⟩)) _
   refine .ro ⟨g,0,none⟩ _ (fun j=>p.2.getD j undef) (he▸h1) (fun j hj=>?_) (fun j e hj=>?_)
   ·rw[List.length_map]at hj
    rw[dJ,Nat.zero_add,←he,List.getD_eq_getElem?_getD,List.getElem?_eq_getElem hj]
    exact h2 j _ (List.getElem?_eq_getElem hj)
   ·rw[List.getElem?_map,Option.map_eq_some_iff]at hj
    obtain⟨c,hc,rfl⟩:=hj
    rw[List.getD_eq_getElem?_getD,hc]
    exact gU c
  ·exact(RepZ.bad _).rep
 |func f=>exact(RepZ.v _).rep
theorem fV(n:Nat)(x:Value):(ofV x).idLt n:=by
 unfold ofV;split
 ·trivial
 ·intro e he id hid
  obtain⟨y,_,rfl⟩:=List.mem_map.1 he
  simp[AV.idB]at hid
 ·trivial
theorem RR.evLt{X:Ctx}{st:St}{a:Act}(h:RR X M loc st a w)(x:Operand):(Ab.ev st.env x).idLt st.heap.length:=by
 cases x with
 |tmp t=>
  simp only[Ab.ev]
  split
  ·exact h.ids t
  ·trivial
 |const x=>exact fV _ x
 |global g=>
  simp only[Ab.ev,globV]
  split<;>trivial
 |func f=>trivial
theorem Rep.v_inv{x y:Value}(h:Rep w M loc x (.v y)):x=y:=by unfold Rep at h;cases h;rfl
theorem Rep.nil_inv{x:Value}(h:Rep w M loc x .nil):x=.slice none 0 0:=by unfold Rep at h;cases h;rfl
theorem RepZ.sl_inv{x:Value}{es:List AV}(h:RepZ w M x (.sl es)):∃(A:Option Addr) (cap k:Nat) (f:Nat→Value),x=.slice A es.length cap∧(∀e∈es,e.flat.length=k)∧(es≠[]→∃ad,A=some ad∧M ad.block)∧
  (∀ad,A=some ad→∀j,j<es.length*k→w.cell? (ad.add j)=some (f j))∧(∀(j:Nat) (e:AV),(es.flatMap AV.flat)[j]? =some e→RepZ w M (f j) e)∧es.length≤cap∧cap≤maxLen:=by
 cases h with
 |sl A cap k es f hk hA hc hr hcap hmax=>exact⟨A,cap,k,f,rfl,hk,hA,hc,hr,hcap,hmax⟩
theorem Rep.sl_inv{x:Value}{es:List AV}(h:Rep w M loc x (.sl es)):∃(A:Option Addr) (cap k:Nat) (f:Nat→Value),x=.slice A es.length cap∧(∀e∈es,e.flat.length=k)∧(es≠[]→∃ad,A=some ad∧M ad.block)∧
  (∀ad,A=some ad→∀j,j<es.length*k→w.cell? (ad.add j)=some (f j))∧(∀(j:Nat) (e:AV),(es.flatMap AV.flat)[j]? =some e→RepZ w M (f j) e)∧es.length≤cap∧cap≤maxLen:=by
 unfold Rep at h;exact RepZ.sl_inv h
theorem Rep.ro_inv{x:Value}{cells:List AV}(h:Rep w M loc x (.ro cells)):∃(ad:Addr) (f:Nat→Value),x=.pointer (some ad)∧M ad.block∧
  (∀j,j<cells.length→w.cell? (ad.add j)=some (f j))∧(∀(j:Nat) (e:AV),cells[j]? =some e→RepZ w M (f j) e):=by
 unfold Rep at h
 cases h with
 |ro ad cells f hm hc hr=>exact⟨ad,f,rfl,hm,hc,hr⟩
theorem Rep.agg_inv{x:Value}{es:List AV}(h:Rep w M loc x (.agg es)):∃cs:Array Value,x=.agg cs∧cs.size=es.length∧∀(j:Nat) (c:Value) (e:AV),cs[j]? =some c→es[j]? =some e→RepB w M loc c e:=h
theorem Rep.tup_inv{x:Value}{es:List AV}(h:Rep w M loc x (.tup es)):∃cs:Array Value,x=.tuple cs∧cs.size=es.length∧∀(j:Nat) (c:Value) (e:AV),cs[j]? =some c→es[j]? =some e→RepB w M loc c e:=h
def eqV(T:Option TK)(x y:AV):Option Bool:=
 match T,x,y with
 |some ⟨.int _,_,_,_⟩,.v (.int k a),.v (.int k' b)=>if k=k' then some (a==b)else none
 |some ⟨.str,_,_,_⟩,.v (.string a),.v (.string b)=>some (a==b)
 |some ⟨.bool,_,_,_⟩,.v (.bool a),.v (.bool b)=>some (a==b)
 |_,_,_=>none
def eqFs(P:Program):Nat→List (Nat×Nat)→List AV→List AV→Option Bool
 |_,[],[],[]=>some true
 |i,(o,t)::fs,x::xs,y::ys=>if o=i then(match eqV (tyk P t) x y,eqFs P (i+1) fs xs ys with
  |some a,some b=>some (a&&b)
  |_,_=>none)else none
 |_,_,_,_=>none
def eqOK(P:Program)(t:Nat):Bool:=
 (match P.underlying t with
  |some (.struct fs)=>fs.toList.all fun f=>f.name != "_"
  |_=>false)&& !P.stoodInHeld t&& !P.eqGuardType P.depth t
def andI(k:IntKind)(a b:Int):Int:=k.wrap (BitVec.ofInt k.bits a&&&BitVec.ofInt k.bits b).toNat
def orI(k:IntKind)(a b:Int):Int:=k.wrap (BitVec.ofInt k.bits a|||BitVec.ofInt k.bits b).toNat
def xorI(k:IntKind)(a b:Int):Int:=k.wrap (BitVec.ofInt k.bits a^^^BitVec.ofInt k.bits b).toNat
def binI(op:BinOp)(k:IntKind)(a b:Int):Option (Prop×AV):=
 match op with
 | .add=>some (True,.v (.int k (k.wrap (a+b))))
 | .sub=>some (True,.v (.int k (k.wrap (a-b))))
 | .mul=>some (True,.v (.int k (k.wrap (a*b))))
 | .quo=>some (b≠0,.v (.int k (k.wrap (a.tdiv b))))
 | .rem=>some (b≠0,.v (.int k (a.tmod b)))
 | .eql=>some (True,.v (.bool (a==b)))
 | .neq=>some (True,.v (.bool (a !=b)))
 | .lss=>some (True,.v (.bool (decide (a<b))))
 | .leq=>some (True,.v (.bool (decide (a≤b))))
 | .gtr=>some (True,.v (.bool (decide (b<a))))
 | .geq=>some (True,.v (.bool (decide (b≤a))))
 | .and=>some (True,.v (.int k (andI k a b)))
 | .or=>some (True,.v (.int k (orI k a b)))
 | .xor=>some (True,.v (.int k (xorI k a b)))
 | .shl=>none
 | .shr=>none
 | .andNot=>none
def binS(op:BinOp)(a b:ByteArray):Option (Prop×AV):=
 match op with
 | .add=>some (a.size+b.size≤maxLen,.v (.string (a++b)))
 | .eql=>some (True,.v (.bool (a==b)))
 | .neq=>some (True,.v (.bool (a !=b)))
 |_=>none
def ifcE(P:Program)(t:Nat):Bool:=
 match P.underlying t with
 |some (.interface ms)=>ms.isEmpty
 |_=>false
def bin(P:Program)(op:BinOp)(t:Nat)(x y:AV):Option (Prop×AV):=
 match x,y with
 | .v (.int k a),.v (.int k' b)=>
   (match op with
    | .shl=>some (0≤b,.v (.int k (k.wrap (a*2^(min b.toNat k.bits)))))
    | .shr=>some (0≤b,.v (.int k (a.fdiv (2^(min b.toNat k.bits)))))
    |_=>(binI op k a b).map fun(p,r)=>(k=k'∧p,r))
 | .v (.string a),.v (.string b)=>binS op a b
 | .v (.bool a),.v (.bool b)=>match tyk P t,op with
   |some ⟨.bool,_,_,_⟩,.eql=>some (True,.v (.bool (a==b)))
   |some ⟨.bool,_,_,_⟩,.neq=>some (True,.v (.bool (a !=b)))
   |_,_=>none
 | .el ..,.v (.pointer none)=>match tyk P t,op with
   |some ⟨.ptr,_,_,_⟩,.eql=>some (True,.v (.bool false))
   |some ⟨.ptr,_,_,_⟩,.neq=>some (True,.v (.bool true))
   |_,_=>none
 | .v (.pointer none),.v (.pointer none)=>match tyk P t,op with
   |some ⟨.ptr,_,_,_⟩,.eql=>some (True,.v (.bool true))
   |some ⟨.ptr,_,_,_⟩,.neq=>some (True,.v (.bool false))
   |_,_=>none
 | .v (.iface _ _),.v .nilIface=>match op with
   | .eql=>some (ifcE P t=true,.v (.bool false))
   | .neq=>some (ifcE P t=true,.v (.bool true))
   |_=>none
 | .v .nilIface,.v .nilIface=>match op with
   | .eql=>some (ifcE P t=true,.v (.bool true))
   | .neq=>some (ifcE P t=true,.v (.bool false))
   |_=>none
 | .agg xs,.agg ys=>match tyk P t with
   |some ⟨.struct fs,_,_,_⟩=>match op,eqFs P 0 fs xs ys with
    | .eql,some r=>some (eqOK P t=true∧xs.all AV.zoneB=true∧ys.all AV.zoneB=true,.v (.bool r))
    | .neq,some r=>some (eqOK P t=true∧xs.all AV.zoneB=true∧ys.all AV.zoneB=true,.v (.bool !r))
    |_,_=>none
   |_=>none
 |_,_=>none
def cut(T:TK)(cs:List AV):Option (Prop×AV):=
 if T.k.agg then some (T.cells≤cs.length,.agg (cs.take T.cells))else some (0<cs.length,cs.headD .bad)
def AV.aggZ(_:AV):Bool:=true
def loadA(T:TK)(H:List Cell):AV→Option (Prop×AV)
 | .ro cs=>cut T cs
 | .el id k i off=>match H[id]? with
   |some (.row o)=>(cut T ((nth o.es i).flat.drop off)).map fun(p,r)=>((k=o.k∧i<o.es.length∧off+T.cells≤k)∧p∧r.aggZ=true,r)
   |_=>none
 |_=>none
def lenA(k:K)(H:List Cell)(x:AV):Option AV:=
 match k,x with
 | .slice _,.sl es=>some (.v (.int .i64 es.length))
 | .slice _,.nil=>some (.v (.int .i64 0))
 | .str,.v (.string s)=>some (.v (.int .i64 s.size))
 | .slice _,.ow id=>match H[id]? with
   |some (.row o)=>some (.v (.int .i64 o.es.length))
   |_=>none
 | .slice _,.wn _ _ _ n=>some (.v (.int .i64 n))
 |_,_=>none
def AV.isV:AV→Bool
 | .v _=>true
 |_=>false
def AV.getV:AV→Value
 | .v y=>y
 |_=>undef
def AV.known:AV→Option Value
 | .v y=>some y
 | .agg es=>bif es.all AV.isV then some (.agg (es.map AV.getV).toArray)else none
 |_=>none
def K.conc:K→Bool
 | .one=>false
 |_=>true
def pur(P:Program)(H:List Cell)(ρ:Operand→AV):Op→Option (Prop×AV)
 | .move x=>some (True,ρ x)
 | .assign x=>some (True,ρ x)
 | .pick c x y=>match ρ c,ρ x,ρ y with
   | .v (.bool b),.v (.bool p),.v (.bool q)=>some (True,.v (.bool (bif b then p else q)))
   | .v (.bool b),.mb g (.v (.bool p)),.v (.bool q)=>some (b=true→g=true,.v (.bool (bif b then p else q)))
   | .v (.bool b),.v (.bool p),.mb g (.v (.bool q))=>some (b=false→g=true,.v (.bool (bif b then p else q)))
   | .v (.bool false),.mb _ .bad,.v (.bool q)=>some (True,.v (.bool q))
   | .v (.bool true),.v (.bool p),.mb _ .bad=>some (True,.v (.bool p))
   |_,_,_=>none
 | .load t x=>match tyk P t with
   |some T=>loadA T H (ρ x)
   |none=>none
 | .nilCheck x=>match ρ x with
   | .el id k i off=>some (True,.el id k i off)
   | .ro cs=>some (True,.ro cs)
   |_=>none
 | .binOp op t x y _=>bin P op t (ρ x) (ρ y)
 | .unOp op _ x=>match op,ρ x with
   | .not,.v (.bool b)=>some (True,.v (.bool !b))
   | .neg,.v (.int k n)=>some (True,.v (.int k (k.wrap (0-n))))
   |_,_=>none
 | .convert src dst x=>match tyk P src,tyk P dst,ρ x with
   |some _,some ⟨.int k,_,_,_⟩,.v (.int _ n)=>some (True,.v (.int k (k.wrap n)))
   |_,_,_=>none
 | .makeInterface t x=>match tyk P t,(ρ x).known with
   |some T,some v=>some (T.k.conc=true,.v (.iface t v))
   |_,_=>none
 | .typeAssert x _ t ok=>match tyk P t,ρ x with
   |some T,.v (.iface u v)=>bif ok then some (T.k.conc=true,.tup [if u=t then ofV v else T.zero,.v (.bool (decide (u=t)))])else none
   |some T,.v .nilIface=>bif ok then some (T.k.conc=true,.tup [T.zero,.v (.bool false)])else none
   |_,_=>none
 | .extract x i=>match ρ x with
   | .tup vs=>(vs[i]?).map fun r=>(True,r)
   |_=>none
 | .fieldAddr s x f=>match tyk P s with
   |some ⟨.struct fs,_,_,_⟩=>match fs[f]? with
    |some (o,t)=>match tyk P t,ρ x with
     |some T,.ro cs=>some (T.cells≠0,.ro (cs.drop o))
     |some T,.el id k i off=>some (T.cells≠0,.el id k i (off+o))
     |_,_=>none
    |none=>none
   |_=>none
 | .field s x f=>match tyk P s with
   |some ⟨.struct fs,_,_,_⟩=>match fs[f]? with
    |some (o,t)=>match tyk P t,ρ x with
     |some T,.agg cs=>if T.k.agg then some (o+T.cells≤cs.length,.agg ((cs.drop o).take T.cells))else some (o<cs.length,nth cs o)
     |_,_=>none
    |none=>none
   |_=>none
 | .indexAddr t x i=>match tyk P t,ρ x,ρ i with
   |some ⟨.slice e,_,_,_⟩,.sl es,.v (.int _ n)=>match tyk P e with
    |some E=>some ((0≤n∧n<es.length)∧(nth es n.toNat).flat.length=E.cells,.ro (nth es n.toNat).flat)
    |none=>none
   |some ⟨.slice e,_,_,_⟩,.ow id,.v (.int _ n)=>match tyk P e,H[id]? with
    |some E,some (.row o)=>some ((0≤n∧n<o.es.length)∧o.k=E.cells,.el id o.k n.toNat 0)
    |_,_=>none
   |some ⟨.slice e,_,_,_⟩,.wn id k lo m,.v (.int _ n)=>match tyk P e with
    |some E=>some ((0≤n∧n<m)∧k=E.cells,.el id k (lo+n.toNat) 0)
    |_=>none
   |some ⟨.arr m e,_,_,_⟩,.ro cs,.v (.int _ n)=>match tyk P e with
    |some E=>some (0≤n∧n<m,.ro (cs.drop (n.toNat*E.cells)))
    |none=>none
   |some ⟨.arr m e,_,_,_⟩,.el id k j off,.v (.int _ n)=>match tyk P e with
    |some E=>some (0≤n∧n<m,.el id k j (off+n.toNat*E.cells))
    |none=>none
   |_,_,_=>none
 | .index t x i=>match tyk P t,ρ x,ρ i with
   |some ⟨.str,_,_,_⟩,.v (.string s),.v (.int _ n)=>some (0≤n∧n<s.size,.v (.int .u8 (s.data.getD n.toNat 0).toNat))
   |some ⟨.arr m e,_,_,_⟩,.agg cs,.v (.int _ n)=>match tyk P e with
    |some E=>if E.k.agg then none else some ((0≤n∧n<m)∧E.cells=1∧n<cs.length,nth cs n.toNat)
    |none=>none
   |_,_,_=>none
 | .slice t x lo hi none=>match tyk P t,ρ x with
   |some ⟨.str,_,_,_⟩,.v (.string s)=>match lo.map ρ,hi.map ρ with
    |none,none=>some (True,.v (.string s))
    |some (.v (.int _ l)),none=>some (0≤l∧l≤s.size,.v (.string (s.extract l.toNat s.size)))
    |none,some (.v (.int _ h))=>some (0≤h∧h≤s.size,.v (.string (s.extract 0 h.toNat)))
    |some (.v (.int _ l)),some (.v (.int _ h))=>some ((0≤l∧l≤h)∧h≤s.size,.v (.string (s.extract l.toNat h.toNat)))
    |_,_=>none
   |some ⟨.slice e,_,_,_⟩,.sl es=>match tyk P e,lo.map ρ,hi.map ρ with
    |some E,some (.v (.int _ l)),none=>some ((0≤l∧l≤es.length)∧∀e∈es,e.flat.length=E.cells,.sl (es.drop l.toNat))
    |some E,none,some (.v (.int _ h))=>some ((0≤h∧h≤es.length)∧∀e∈es,e.flat.length=E.cells,.sl (es.take h.toNat))
    |some E,some (.v (.int _ l)),some (.v (.int _ h))=>some (((0≤l∧l≤h)∧h≤es.length)∧∀e∈es,e.flat.length=E.cells,.sl ((es.take h.toNat).drop l.toNat))
    |_,_,_=>none
   |some ⟨.slice e,_,_,_⟩,.wn id k s m=>match tyk P e,lo.map ρ,hi.map ρ with
     |some E,some (.v (.int _ l)),none=>some ((0≤l∧l≤m)∧k=E.cells,.wn id k (s+l.toNat) (m-l.toNat))
     |some E,none,some (.v (.int _ h))=>some ((0≤h∧h≤m)∧k=E.cells,.wn id k s h.toNat)
     |some E,some (.v (.int _ l)),some (.v (.int _ h))=>some (((0≤l∧l≤h)∧h≤m)∧k=E.cells,.wn id k (s+l.toNat) (h.toNat-l.toNat))
     |_,_,_=>none
   |some ⟨.slice e,_,_,_⟩,.nil=>match tyk P e,lo.map ρ,hi.map ρ with
     |some _,none,some (.v (.int _ h))=>some (h=0,.nil)
     |_,_,_=>none
   |_,_=>none
 | .makeFunc f first cap=>if first.all (fun x=>(ρ x).isV)&&cap.all (fun x=>(ρ x).isV)then
   some (True,.v (.func f (first.map fun x=>(ρ x).getV) (cap.map fun x=>(ρ x).getV)))else
   match f with
   | .func f=>if first.all (fun x=>(ρ x).flatB)&&cap.all (fun x=>(ρ x).flatB)then some (True,.fn f (first.toList.map ρ) (cap.toList.map ρ))else none
   |_=>none
 | .call c=>match c.callee,c.args.toList,c.argTypes.toList with
   | .builtin .len,[x],[t]=>match tyk P t with
     |some T=>(lenA T.k H (ρ x)).map fun r=>(True,r)
     |none=>none
   | .builtin .max,[x,y],_=>match ρ x,ρ y with
     | .v (.int k p),.v (.int _ q)=>some (True,.v (.int k (max p q)))
     |_,_=>none
   | .builtin .cap,[x],[t]=>match tyk P t,ρ x with
     |some ⟨.slice _,_,_,_⟩,.nil=>some (True,.v (.int .i64 0))
     |_,_=>none
   | .builtin .min,[x,y],_=>match ρ x,ρ y with
     | .v (.int k p),.v (.int _ q)=>some (True,.v (.int k (min p q)))
     |_,_=>none
   | .builtin .min,[x,y,z],_=>match ρ x,ρ y,ρ z with
     | .v (.int k p),.v (.int _ q),.v (.int _ r)=>some (True,.v (.int k (min (min p q) r)))
     |_,_,_=>none
   | .builtin .max,[x,y,z],_=>match ρ x,ρ y,ρ z with
     | .v (.int k p),.v (.int _ q),.v (.int _ r)=>some (True,.v (.int k (max (max p q) r)))
     |_,_,_=>none
   |_,_,_=>none
 |_=>none
def sliceX(P:Program)(H:List Cell)(ρ:Operand→AV):Op→Option (Prop×AV)
 | .slice t x lo hi none=>match tyk P t,ρ x with
   |some ⟨.slice e,_,_,_⟩,.ow id=>match H[id]? with
    |some (.row o)=>match tyk P e,lo.map ρ,hi.map ρ with
     |some E,some (.v (.int _ l)),none=>some ((0≤l∧l≤o.es.length)∧o.k=E.cells,.wn id o.k l.toNat (o.es.length-l.toNat))
     |some E,none,some (.v (.int _ h))=>some ((0≤h∧h≤o.es.length)∧o.k=E.cells,.wn id o.k 0 h.toNat)
     |some E,some (.v (.int _ l)),some (.v (.int _ h))=>some (((0≤l∧l≤h)∧h≤o.es.length)∧o.k=E.cells,.wn id o.k l.toNat (h.toNat-l.toNat))
     |_,_,_=>none
    |_=>none
   |_,_=>none
 |_=>none
def HeapOK(X:Ctx)(w:World)(M:Nat→Prop)(loc:Nat→Value)(H:List Cell):Prop:=∀id o,H[id]? =some (.row o)→ObjOK X.own w M loc H.length (loc id) o
def PurOK(P:Program)(w:World)(M:Nat→Prop)(loc:Nat→Value)(s:Sem Value)(r:AV):Prop:=∃v,s.run P w=.ok v w∧Rep w M loc v r
theorem EW{op:BinOp}{k k':IntKind}{a b:Int}{p:Prop}{r:AV}{t:Nat}(h:binI op k a b=some (p,r))(hk:k=k')(hp:p):
  PurOK P w M loc (binOp op t (.int k a) (.int k' b)) r:=by
 subst hk
 cases op<;>simp only[binI,Option.some.injEq,Prod.mk.injEq,reduceCtorEq]at h<;>obtain⟨rfl,rfl⟩:=h<;>
  refine⟨_,?_,(RepZ.v _).rep⟩
 all_goals simp only[binOp,ne_eq,not_true_eq_false,if_false]
 all_goals first
  |rfl
  |(simp only[Op.intDiv];rw[if_neg (by first|exact hp|trivial)];rfl)
theorem EX{op:BinOp}{a b:ByteArray}{p:Prop}{r:AV}{t:Nat}(h:binS op a b=some (p,r))(hp:p):
  PurOK P w M loc (binOp op t (.string a) (.string b)) r:=by
 cases op<;>simp only[binS,Option.some.injEq,Prod.mk.injEq,reduceCtorEq]at h<;>obtain⟨rfl,rfl⟩:=h
 ·refine⟨_,?_,(RepZ.v _).rep⟩
  have h1:¬(((a.size+b.size:Nat):Int)>IntKind.i64.max):=by
   have:IntKind.i64.max=9223372036854775807:=by decide
   rw[this];unfold maxLen at hp;omega
  simp only[binOp,Op.stringOp,Sem.run_bind,if_neg h1]
  rfl
 ·refine⟨_,?_,(RepZ.v _).rep⟩
  simp only[binOp,Op.stringOp,Sem.run_pure,beq_toListBytes]
 ·refine⟨_,?_,(RepZ.v _).rep⟩
  simp only[binOp,Op.stringOp,Sem.run_pure,bne,beq_toListBytes]
end
end Go.Ab
namespace Go.Ab
open Go.RowKit
section
variable{P:Program}{w:World}{M:Nat→Prop}{loc:Nat→Value}
theorem uG{t:Nat}{x y:AV}{r:Bool}(h:eqV (tyk P t) x y=some r){a b:Value}(ha:RepZ w M a x)(hb:RepZ w M b y)(d:Nat):
  (∀(zs:Array Value) (i:Nat) (z:Value),zs[i]? =some z→(part t zs i).run P w=.ok z w)∧(Op.equalIn (d+1) t a b).run P w=.ok r w:=by
 unfold eqV at h
 have ha':=ha.rep (loc:=fun _=>undef)
 have hb':=hb.rep (loc:=fun _=>undef)
 split at h
 ·rename_i k _ _ _ k1 p k2 q hT
  split at h
  ·rename_i hk
   subst hk
   obtain rfl:=Option.some.inj h
   obtain⟨i,d',z,h1,h2,h3,h4⟩:=aH hT
   have hd:d'=.int k:=jB (by have:=congrArg TK.k h4;exact this.symm)
   subst hd
   rw[ha'.v_inv,hb'.v_inv]
   exact⟨fun zs i z hz=>by simp[part,isAgg,run_underlying h2,hz],run_equalIn_int w d t k1 k p q h2⟩
  ·cases h
 ·rename_i _ _ _ p q hT
  obtain rfl:=Option.some.inj h
  obtain⟨i,d',z,h1,h2,h3,h4⟩:=aH hT
  have hd:d'=.string:=jN (by have:=congrArg TK.k h4;exact this.symm)
  subst hd
  rw[ha'.v_inv,hb'.v_inv,beq_toListBytes]
  exact⟨fun zs i z hz=>by simp[part,isAgg,run_underlying h2,hz],run_equalIn_string w d t p q h2⟩
 ·rename_i _ _ _ p q hT
  obtain rfl:=Option.some.inj h
  obtain⟨i,d',z,h1,h2,h3,h4⟩:=aH hT
  have hd:d'=.bool:=mO (by have:=congrArg TK.k h4;exact this.symm)
  subst hd
  rw[ha'.v_inv,hb'.v_inv]
  exact⟨fun zs i z hz=>by simp[part,isAgg,run_underlying h2,hz],run_equalIn_bool' w d t p q h2⟩
 ·cases h
theorem wJ(d:Nat)(xs ys:Array Value):∀(fs:List Field) (i:Nat) (as bs:List AV) (r:Bool),
  (fs.all fun f=>f.name != "_")=true→eqFs P i (fs.map fun f=>(f.offset,f.type)) as bs=some r→
  (∀(j:Nat) (c:Value) (e:AV),xs[i+j]? =some c→as[j]? =some e→RepZ w M c e)→(∀(j:Nat) (c:Value) (e:AV),ys[i+j]? =some c→bs[j]? =some e→RepZ w M c e)→
  xs.size=i+as.length→ys.size=i+bs.length→
  (Op.eqFields (d+1) xs ys fs).run P w=.ok r w:=by
 intro fs
 induction fs with
 |nil=>
  intro i as bs r _ he _ _ _ _
  cases as<;>cases bs<;>simp[eqFs]at he
  subst he;simp[Op.eqFields]
 |cons f fs ih=>
  intro i as bs r hf he hx hy hsx hsy
  cases as with
  |nil=>cases bs<;>simp[eqFs]at he
  |cons a as=>
   cases bs with
   |nil=>simp[eqFs]at he
   |cons b bs=>
    simp only[List.all_cons,Bool.and_eq_true]at hf
    obtain⟨hname,hrest⟩:=hf
    simp only[List.map_cons,eqFs]at he
    split at he
    ·rename_i hoff
     split at he
     ·rename_i r1 r2 h1 h2
      obtain rfl:=Option.some.inj he
      obtain⟨xv,hxi⟩:∃xv,xs[i]? =some xv:=⟨xs[i]'(by simp at hsx;omega),Array.getElem?_eq_getElem _⟩
      obtain⟨yv,hyi⟩:∃yv,ys[i]? =some yv:=⟨ys[i]'(by simp at hsy;omega),Array.getElem?_eq_getElem _⟩
      have hrx:=hx 0 _ a hxi rfl
      have hry:=hy 0 _ b hyi rfl
      have ih':=ih (i+1) as bs r2 hrest h2 (fun j c e h1 h2=>hx (j+1) c e (by rw[←h1];congr 1;omega) (by simpa using h2))
       (fun j c e h1 h2=>hy (j+1) c e (by rw[←h1];congr 1;omega) (by simpa using h2)) (by simp at hsx;omega) (by simp at hsy;omega)
      obtain⟨hpart,heq⟩:=uG (d:=d) h1 hrx hry
      have hne:f.name≠ "_":=by simpa using hname
      have e1:=hpart xs f.offset _ (by rw[hoff];exact hxi)
      have e2:=hpart ys f.offset _ (by rw[hoff];exact hyi)
      simp only[Op.eqFields,hne,ne_eq,not_false_eq_true,if_true,Sem.run_bind,e1,e2,Result.andThen_ok,heq]
      cases r1
      ·simp
      ·simp[ih']
     ·cases he
    ·cases he
theorem nY{t e:Nat}{a:Addr}(h:P.underlying t=some (.pointer e)):(Op.equal t (.pointer (some a)) (.pointer none)).run P w=.ok false w:=by
 have key:∀n,(Op.equalIn (n+1) t (.pointer (some a)) (.pointer none)).run P w=.ok false w:=by
  intro n
  simp only[Op.equalIn,Sem.run_bind,run_underlying h,Result.andThen_ok,Sem.run_pure]
 exact key 9999
theorem o3{t e:Nat}(h:P.underlying t=some (.pointer e)):(Op.equal t (.pointer none) (.pointer none)).run P w=.ok true w:=by
 have key:∀n,(Op.equalIn (n+1) t (.pointer none) (.pointer none)).run P w=.ok true w:=by
  intro n
  simp only[Op.equalIn,Sem.run_bind,run_underlying h,Result.andThen_ok,Sem.run_pure,Option.isNone_none]
 exact key 9999
theorem fU{t e:Nat}{A:Option Addr}{n c:Nat}(h:P.underlying t=some (.slice e)):(Op.equal t (.slice A n c) (.slice none 0 0)).run P w=.ok A.isNone w:=by
 have key:∀m,(Op.equalIn (m+1) t (.slice A n c) (.slice none 0 0)).run P w=.ok A.isNone w:=by
  intro m
  cases A<;>simp only[Op.equalIn,Sem.run_bind,run_underlying h,Result.andThen_ok,Sem.run_pure,Option.isNone_none,Option.isNone_some]
 exact key 9999
theorem oT{t:Nat}(h:ifcE P t=true):∃ms,P.underlying t=some (.interface ms)∧ms.isEmpty=true:=by
 unfold ifcE at h
 split at h
 ·rename_i ms e;exact⟨ms,e,h⟩
 ·cases h
theorem qH{t u:Nat}{v:Value}{ms:Array (String×TypeId)}(h:P.underlying t=some (.interface ms)):(Op.equal t (.iface u v) .nilIface).run P w=.ok false w:=by
 have key:∀n,(Op.equalIn (n+1) t (.iface u v) .nilIface).run P w=.ok false w:=by
  intro n
  simp only[Op.equalIn,Sem.run_bind,run_underlying h,Result.andThen_ok,Sem.run_pure]
 exact key 9999
theorem qI{t:Nat}{ms:Array (String×TypeId)}(h:P.underlying t=some (.interface ms)):(Op.equal t .nilIface .nilIface).run P w=.ok true w:=by
 have key:∀n,(Op.equalIn (n+1) t .nilIface .nilIface).run P w=.ok true w:=by
  intro n
  simp only[Op.equalIn,Sem.run_bind,run_underlying h,Result.andThen_ok,Sem.run_pure]
 exact key 9999
theorem qJ{t:Nat}{ms:Array (String×TypeId)}(h:P.underlying t=some (.interface ms))(he:ms.isEmpty=true):(Op.eqGuardIn Op.maxDepth t .nilIface .nilIface).run P w=.ok false w:=by
 have key:∀n,(Op.eqGuardIn (n+1) t .nilIface .nilIface).run P w=.ok false w:=by
  intro n
  simp only[Op.eqGuardIn,Sem.run_bind,run_underlying h,Result.andThen_ok,Sem.run_pure,he,Bool.not_true]
 exact key 9999
theorem HT{op:BinOp}{t:Nat}{x y:AV}{p:Prop}{r:AV}(h:bin P op t x y=some (p,r))(hp:p){a b:Value}(ha:Rep w M loc a x)(hb:Rep w M loc b y)(ox oy:Operand):
  PurOK P w M loc (do eqGuard op t ox oy a b;binOp op t a b) r:=by
 have key:(eqGuard op t ox oy a b).run P w=.ok () w→PurOK P w M loc (binOp op t a b) r→PurOK P w M loc (do eqGuard op t ox oy a b;binOp op t a b) r:=by
  rintro h1 ⟨v,h2,h3⟩
  exact⟨v,by simp only[Sem.run_bind,h1,Result.andThen_ok,h2],h3⟩
 unfold bin at h
 split at h
 ·rename_i k p1 k' q1
  obtain rfl:=ha.v_inv
  obtain rfl:=hb.v_inv
  refine key (by unfold eqGuard;split<;>rfl) ?_
  split at h
  ·simp only[Option.some.injEq,Prod.mk.injEq]at h
   obtain⟨rfl,rfl⟩:=h
   refine⟨_,?_,(RepZ.v _).rep⟩
   simp only[binOp,Op.shift,if_neg (show ¬q1<0 by omega),Sem.run_pure]
  ·simp only[Option.some.injEq,Prod.mk.injEq]at h
   obtain⟨rfl,rfl⟩:=h
   refine⟨_,?_,(RepZ.v _).rep⟩
   simp only[binOp,Op.shift,if_neg (show ¬q1<0 by omega),Sem.run_pure]
  ·cases hbi:binI op k p1 q1 with
   |none=>simp[hbi]at h
   |some pr=>
    obtain⟨p',r'⟩:=pr
    simp only[hbi,Option.map_some,Option.some.injEq,Prod.mk.injEq]at h
    obtain⟨rfl,rfl⟩:=h
    exact EW hbi hp.1 hp.2
 ·obtain rfl:=ha.v_inv
  obtain rfl:=hb.v_inv
  refine key (by unfold eqGuard;split<;>rfl) ?_
  exact EX h hp
 ·rename_i p1 q1
  obtain rfl:=ha.v_inv
  obtain rfl:=hb.v_inv
  refine key (by unfold eqGuard;split<;>rfl) ?_
  split at h
  all_goals first|(cases h;done)|skip
  all_goals
   rename_i hT
   obtain⟨i,d',z,h1,h2,h3,h4⟩:=aH hT
   have hd:d'=.bool:=mO (by have:=congrArg TK.k h4;exact this.symm)
   subst hd
   simp only[Option.some.injEq,Prod.mk.injEq]at h
   obtain⟨rfl,rfl⟩:=h
   refine⟨_,?_,(RepZ.v _).rep⟩
   simp only[binOp,Op.equal,Op.maxDepth,Sem.run_bind,run_equalIn_bool' w 9999 t p1 q1 h2,Result.andThen_ok,Sem.run_pure,bne]
 ·obtain⟨g,n,c,h1,rfl⟩:=ha
  obtain rfl:=hb.v_inv
  refine key (by unfold eqGuard;split<;>rfl) ?_
  split at h
  all_goals first|(cases h;done)|skip
  all_goals
   rename_i hT
   obtain⟨i,d',z,h1,h2,h3,h4⟩:=aH hT
   obtain⟨e,hd⟩:=wH (d:=d') (by have:=congrArg TK.k h4;exact this.symm)
   subst hd
   simp only[Option.some.injEq,Prod.mk.injEq]at h
   obtain⟨rfl,rfl⟩:=h
   refine⟨_,?_,(RepZ.v _).rep⟩
   simp only[binOp,Sem.run_bind,nY h2,Result.andThen_ok,Sem.run_pure,Bool.not_false]
 ·obtain rfl:=ha.v_inv
  obtain rfl:=hb.v_inv
  refine key (by unfold eqGuard;split<;>rfl) ?_
  split at h
  all_goals first|(cases h;done)|skip
  all_goals
   rename_i hT
   obtain⟨i,d',z,h1,h2,h3,h4⟩:=aH hT
   obtain⟨e,hd⟩:=wH (d:=d') (by have:=congrArg TK.k h4;exact this.symm)
   subst hd
   simp only[Option.some.injEq,Prod.mk.injEq]at h
   obtain⟨rfl,rfl⟩:=h
   refine⟨_,?_,(RepZ.v _).rep⟩
   simp only[binOp,Sem.run_bind,o3 h2,Result.andThen_ok,Sem.run_pure,Bool.not_true]
 ·obtain rfl:=ha.v_inv
  obtain rfl:=hb.v_inv
  refine key (by unfold eqGuard;split<;>rfl) ?_
  split at h
  all_goals first|(cases h;done)|skip
  all_goals
   simp only[Option.some.injEq,Prod.mk.injEq]at h
   obtain⟨rfl,rfl⟩:=h
   obtain⟨ms,h1,h2⟩:=oT hp
   refine⟨_,?_,(RepZ.v _).rep⟩
   simp only[binOp,Sem.run_bind,qH h1,Result.andThen_ok,Sem.run_pure,Bool.not_false]
 ·obtain rfl:=ha.v_inv
  obtain rfl:=hb.v_inv
  split at h
  all_goals first|(cases h;done)|skip
  all_goals
   simp only[Option.some.injEq,Prod.mk.injEq]at h
   obtain⟨rfl,rfl⟩:=h
   obtain⟨ms,h1,h2⟩:=oT hp
   refine key ?_ ⟨_,?_,(RepZ.v _).rep⟩
   ·simp only[eqGuard,Bool.not_true,Bool.false_eq_true,if_false]
    cases ox<;>cases oy<;>first|rfl|(simp only[Bool.or_self,Bool.false_eq_true,if_false,Sem.run_bind,qJ h1 h2,Result.andThen_ok];rfl)
   ·simp only[binOp,Sem.run_bind,qI h1,Result.andThen_ok,Sem.run_pure,Bool.not_true]
 ·rename_i xs ys
  obtain⟨as,rfl,hla,hra⟩:=ha.agg_inv
  obtain⟨bs,rfl,hlb,hrb⟩:=hb.agg_inv
  split at h
  ·rename_i fs _ _ _ hT
   obtain⟨i,d',z,h1,h2,h3,h4⟩:=aH hT
   obtain⟨fa,rfl,hfs⟩:=dM (d:=d') (by have:=congrArg TK.k h4;exact this.symm)
   have hfo:P.fieldsOf t=fa:=by unfold Program.fieldsOf;rw[h2]
   split at h
   all_goals first|(cases h;done)|skip
   all_goals
    rename_i r0 he
    simp only[Option.some.injEq,Prod.mk.injEq]at h
    obtain⟨rfl,rfl⟩:=h
    obtain⟨hp,hz1,hz2⟩:=hp
    rw[List.all_eq_true]at hz1 hz2
    unfold eqOK at hp
    simp only[h2,Bool.and_eq_true,Bool.not_eq_true']at hp
    obtain⟨⟨hn,hst⟩,hgd⟩:=hp
    refine key (run_eqGuard_agg w _ t ox oy as bs hgd) ?_
    have heq:=wJ (P:=P) (w:=w) (M:=M) 9998 as bs fa.toList 0 xs ys r0 (by simpa using hn) (by rw[←hfs];exact he) (fun j c e h1 h2=>(hra j c e (by simpa using h1) h2).repZ' (hz1 e (List.mem_of_getElem? h2))) (fun j c e h1 h2=>(hrb j c e (by simpa using h1) h2).repZ' (hz2 e (List.mem_of_getElem? h2))) (by omega) (by omega)
    refine⟨_,?_,(RepZ.v _).rep⟩
    first
     |rw[run_eql_struct,run_equalIn_struct (P:=P) w 9999 t as bs (by rw[hfo];exact h2) hst,hfo,heq];rfl
     |rw[run_neq_struct,run_equalIn_struct (P:=P) w 9999 t as bs (by rw[hfo];exact h2) hst,hfo,heq];rfl
  ·cases h
 ·cases h
end
end Go.Ab
namespace Go.Ab
open Go.RowKit
section
variable{P:Program}{w:World}{M:Nat→Prop}{loc:Nat→Value}
theorem dD{t:Nat}{d:TypeDesc}(h:P.underlying t=some d):(isAgg t).run P w=.ok (kOf d).agg w:=by
 simp only[isAgg,Sem.run_bind,run_underlying h,Result.andThen_ok]
 cases d<;>rfl
theorem HU{t:Nat}{T:TK}(hT:tyk P t=some T){ad:Addr}{cells:List AV}{f:Nat→Value}
  (hc:∀j,j<cells.length→w.cell? (ad.add j)=some (f j)) (hr:∀(j:Nat) (e:AV),cells[j]? =some e→RepZ w M (f j) e) {p:Prop} {r:AV}
  (h:cut T cells=some (p,r)) (hp:p):∃v,(loadVar t ad).run P w=.ok v w∧RepZ w M v r:=by
 obtain⟨i,d,z,h1,h2,h3,rfl⟩:=aH hT
 unfold cut at h
 simp only[loadVar,Sem.run_bind,dD h2,Result.andThen_ok]
 split at h
 ·rename_i hag
  simp only[Option.some.injEq,Prod.mk.injEq]at h
  obtain⟨rfl,rfl⟩:=h
  have hs:(sizeOf t).run P w=.ok i.size w:=by simp[sizeOf,typeInfo,h1]
  simp only[]at hp hag
  rw[if_pos (by simpa using hag)]
  simp only[Sem.run_bind,hs,Result.andThen_ok,run_loadCells w ad i.size f (fun j hj=>hc j (by omega)),Sem.run_pure]
  refine⟨_,rfl,.agg _ _ (by simp;omega) fun j c e h1 h2=>?_⟩
  have hj:j<i.size:=by
   have:=(Array.getElem?_eq_some_iff.1 h1).1
   simpa using this
  have:c=f j:=by simp[hj]at h1;exact h1.symm
  subst this
  exact hr j e (by rw[List.getElem?_take,if_pos hj]at h2;exact h2)
 ·rename_i hag
  simp only[Option.some.injEq,Prod.mk.injEq]at h
  obtain⟨rfl,rfl⟩:=h
  simp only[]at hag
  rw[if_neg (by simpa using hag)]
  have h0:w.cell? ad=some (f 0):=by have:=hc 0 hp;simpa[Addr.add]using this
  simp only[run_load,h0]
  refine⟨_,rfl,?_⟩
  cases cells with
  |nil=>simp at hp
  |cons c cs=>exact hr 0 c rfl
theorem EY{t:Nat}{T:TK}(hT:tyk P t=some T){ad:Addr}{cells:List AV}{f:Nat→Value}
  (hc:∀j,j<cells.length→w.cell? (ad.add j)=some (f j)) (hr:∀(j:Nat) (e:AV),cells[j]? =some e→RepB w M loc (f j) e) {p:Prop} {r:AV}
  (h:cut T cells=some (p,r)) (hp:p) (hag:r.aggZ=true):∃v,(loadVar t ad).run P w=.ok v w∧Rep w M loc v r:=by
 obtain⟨i,d,z,h1,h2,h3,rfl⟩:=aH hT
 unfold cut at h
 simp only[loadVar,Sem.run_bind,dD h2,Result.andThen_ok]
 split at h
 ·rename_i hag'
  simp only[Option.some.injEq,Prod.mk.injEq]at h
  obtain⟨rfl,rfl⟩:=h
  have hs:(sizeOf t).run P w=.ok i.size w:=by simp[sizeOf,typeInfo,h1]
  simp only[]at hp hag'
  rw[if_pos (by simpa using hag')]
  simp only[Sem.run_bind,hs,Result.andThen_ok,run_loadCells w ad i.size f (fun j hj=>hc j (by omega)),Sem.run_pure]
  refine⟨_,rfl,_,rfl,by simp;omega,fun j c e h1 h2=>?_⟩
  have hj:j<i.size:=by
   have:=(Array.getElem?_eq_some_iff.1 h1).1
   simpa using this
  have:c=f j:=by simp[hj]at h1;exact h1.symm
  subst this
  exact hr j e (by rw[List.getElem?_take,if_pos hj]at h2;exact h2)
 ·rename_i hag'
  simp only[Option.some.injEq,Prod.mk.injEq]at h
  obtain⟨rfl,rfl⟩:=h
  simp only[]at hag'
  rw[if_neg (by simpa using hag')]
  have h0:w.cell? ad=some (f 0):=by have:=hc 0 hp;simpa[Addr.add]using this
  simp only[run_load,h0]
  refine⟨_,rfl,?_⟩
  cases cells with
  |nil=>simp at hp
  |cons c cs=>exact(hr 0 c rfl).rep
theorem gV{es:List AV}{k:Nat}(hk:∀e∈es,e.flat.length=k){i j:Nat}(hi:i<es.length)(hj:j<k):
  (es.flatMap AV.flat)[i*k+j]? =(nth es i).flat[j]? :=by
 induction es generalizing i with
 |nil=>simp at hi
 |cons e es ih=>
  have he:e.flat.length=k:=hk e (by simp)
  cases i with
  |zero=>simp only[List.flatMap_cons,Nat.zero_mul,Nat.zero_add,sC];rw[List.getElem?_append_left (by omega)]
  |succ i=>
   simp only[List.flatMap_cons,sD]
   rw[List.getElem?_append_right (by rw[Nat.succ_mul];omega),←ih (fun e he=>hk e (by simp[he])) (by simpa using hi)]
   congr 1
   rw[Nat.succ_mul];omega
theorem bR{es:List AV}{k:Nat}(hk:∀e∈es,e.flat.length=k):(es.flatMap AV.flat).length=es.length*k:=by
 induction es with
 |nil=>simp
 |cons e es ih=>simp only[List.flatMap_cons,List.length_append,List.length_cons,hk e (by simp),ih (fun e he=>hk e (by simp[he])),Nat.succ_mul];omega
theorem d8{es:List AV}{i:Nat}(hi:i<es.length):nth es i∈es:=by
 rw[uF hi];exact List.getElem_mem hi
theorem ObjOK.elem{X:Ctx}{N:Nat}{sv:Value}{o:Ob}(h:ObjOK X.own w M loc N sv o){g n c:Nat}(hsv:sv=.slice (some ⟨g,0,none⟩) n c){i:Nat}(hi:i<o.es.length):
  ∃f:Nat→Value,(∀j,j<o.k→w.cell? ⟨g,i*o.k+j,none⟩=some (f j))∧∀(j:Nat) (e:AV),(nth o.es i).flat[j]? =some e→RepC w M loc N (f j) e:=by
 obtain⟨xs,hown,hrep⟩:=h.own
 have hcells:=hown.cells (g:=g) (by rw[hsv];rfl)
 have hlen:xs.length=o.es.length*o.k:=hown.1
 have hin:∀j,j<o.k→i*o.k+j<o.es.length*o.k:=fun j hj=>by
  have:(i+1)*o.k≤o.es.length*o.k:=Nat.mul_le_mul_right _ hi
  rw[Nat.succ_mul]at this;omega
 refine⟨fun j=>xs.getD (i*o.k+j) undef,fun j hj=>?_,fun j e he=>?_⟩
 ·have hx:xs[i*o.k+j]? =some (xs[i*o.k+j]'(by rw[hlen];exact hin j hj)):=List.getElem?_eq_getElem _
  have:=hcells _ _ hx
  rw[dJ,Nat.zero_add]at this
  rw[this];show _=some (xs.getD (i*o.k+j) undef);rw[List.getD_eq_getElem?_getD,hx];rfl
 ·have hj:j<o.k:=by
   have:=(List.getElem?_eq_some_iff.1 he).1
   rw[h.flat _ (d8 hi)]at this;exact this
  rw[←gV h.flat hi hj]at he
  obtain⟨x,hx,hr⟩:=hrep _ _ he
  show RepC w M loc N (xs.getD (i*o.k+j) undef) e;rw[List.getD_eq_getElem?_getD,hx];exact hr
theorem mI{X:Ctx}{H:List Cell}(hH:HeapOK X w M loc H){t:Nat}{T:TK}(hT:tyk P t=some T){x:AV}{a:Value}(ha:Rep w M loc a x){p:Prop}{r:AV}
  (h:loadA T H x=some (p,r)) (hp:p):PurOK P w M loc (Instr.loadAt t a) r:=by
 unfold loadA at h
 split at h
 ·obtain⟨ad,f,rfl,hm,hc,hr⟩:=ha.ro_inv
  obtain⟨v,h1,h2⟩:=HU hT hc hr h hp
  exact⟨v,by simp only[Instr.loadAt,Instr.sureAddr,Sem.run_bind,Sem.run_pure,Result.andThen_ok,h1],h2.rep⟩
 ·rename_i id k i off
  split at h
  ·rename_i o ho
   have hob:=hH id o ho
   obtain⟨g,n,c,hsv,rfl⟩:=ha
   cases hcut:cut T ((nth o.es i).flat.drop off)with
   |none=>rw[hcut]at h;cases h
   |some pr=>
    obtain⟨p',r'⟩:=pr
    simp only[hcut,Option.map_some,Option.some.injEq,Prod.mk.injEq]at h
    obtain⟨rfl,rfl⟩:=h
    obtain⟨⟨hk,hi,hoff⟩,hp',hag⟩:=hp
    subst hk
    obtain⟨f,hc,hr⟩:=hob.elem hsv hi
    have hfl:(nth o.es i).flat.length=o.k:=hob.flat _ (d8 hi)
    obtain⟨v,h1,h2⟩:=EY (P:=P) (w:=w) (M:=M) (loc:=loc) hT (ad:=⟨g,i*o.k+off,none⟩) (cells:=(nth o.es i).flat.drop off) (f:=fun j=>f (off+j))
     (fun j hj=>by rw[dJ,Nat.add_assoc];exact hc _ (by rw[List.length_drop,hfl]at hj;omega))
     (fun j e he=>(hr _ e (by rw[List.getElem?_drop]at he;exact he)).1) hcut hp' hag
    exact⟨v,by simp only[Instr.loadAt,Instr.sureAddr,Sem.run_bind,Sem.run_pure,Result.andThen_ok,h1],h2⟩
  ·cases h
 ·cases h
theorem HV{T:TK}{cs:List AV}{p:Prop}{r:AV}{n:Nat}(h:cut T cs=some (p,r))(hc:∀e∈cs,e.idLt n):r.idLt n:=by
 unfold cut at h
 split at h
 ·simp only[Option.some.injEq,Prod.mk.injEq]at h
  obtain⟨-,rfl⟩:=h
  intro e he id hid
  have:=hc e (List.mem_of_mem_take he)
  exact(aT _ _).1 this id (by cases e<;>first|exact hid|simp[AV.idB]at hid)
 ·simp only[Option.some.injEq,Prod.mk.injEq]at h
  obtain⟨-,rfl⟩:=h
  cases cs with
  |nil=>trivial
  |cons c cs=>exact hc c (by simp)
theorem BR{X:Ctx}{H:List Cell}(hH:HeapOK X w M loc H){T:TK}{id k i off:Nat}{p:Prop}{r:AV}(h:loadA T H (.el id k i off)=some (p,r))(hp:p):r.idLt H.length:=by
 simp only[loadA]at h
 split at h
 ·rename_i o ho
  have hob:=hH id o ho
  cases hcut:cut T ((nth o.es i).flat.drop off)with
  |none=>rw[hcut]at h;cases h
  |some pr=>
   obtain⟨p',r'⟩:=pr
   simp only[hcut,Option.map_some,Option.some.injEq,Prod.mk.injEq]at h
   obtain⟨rfl,rfl⟩:=h
   obtain⟨⟨hk,hi,hoff⟩,hp',hag⟩:=hp
   refine HV hcut fun e he=>?_
   have he':=List.mem_of_mem_drop he
   obtain⟨j,hj,rfl⟩:=List.getElem_of_mem he'
   have hjk:j<o.k:=by rw[←hob.flat _ (d8 hi)];exact hj
   obtain⟨xs,hown,hrep⟩:=hob.own
   obtain⟨x,_,hx⟩:=hrep _ _ (by rw[gV hob.flat hi hjk];exact List.getElem?_eq_getElem hj)
   exact hx.2.1
 ·cases h
theorem EZ{X:Ctx}{H:List Cell}(hH:HeapOK X w M loc H){t ty:Nat}{T:TK}(hT:tyk P t=some T){x:AV}{a:Value}(ha:Rep w M loc a x){r:AV}
  (h:lenA T.k H x=some r):PurOK P w M loc (Builtin.len_ #[t] ty #[a]) r:=by
 obtain⟨i,d,z,h1,h2,h3,rfl⟩:=aH hT
 have hslice:∀A n c e,kOf d=.slice e→(Builtin.len_ #[t] ty #[.slice A n c]).run P w=.ok (goInt n) w:=by
  rintro A n c e he
  have:=bY he
  subst this
  simp[Builtin.len_,run_underlying h2]
 unfold lenA at h
 split at h
 ·rename_i es hk
  obtain rfl:=Option.some.inj h
  obtain⟨A,cap,k,f,rfl,_⟩:=ha.sl_inv
  exact⟨_,hslice _ _ _ _ hk,(RepZ.v _).rep⟩
 ·rename_i hk
  obtain rfl:=Option.some.inj h
  obtain rfl:=ha.nil_inv
  exact⟨_,hslice _ _ _ _ hk,(RepZ.v _).rep⟩
 ·rename_i s hk
  obtain rfl:=Option.some.inj h
  obtain rfl:=ha.v_inv
  have:=jN hk
  subst this
  refine⟨_,?_,(RepZ.v _).rep⟩
  simp[Builtin.len_,run_underlying h2,goInt]
 ·rename_i id hk
  split at h
  ·rename_i o ho
   obtain rfl:=Option.some.inj h
   have hob:=hH id o ho
   obtain⟨xs,hown,_⟩:=hob.own
   have ha':a=loc id:=ha
   rw[ha']
   rcases hown.2 with⟨hn,h0⟩|⟨g,cap,cur,hn,_⟩
   ·rw[hn,h0];exact⟨_,hslice _ _ _ _ hk,(RepZ.v _).rep⟩
   ·rw[hn];exact⟨_,hslice _ _ _ _ hk,(RepZ.v _).rep⟩
  ·cases h
 ·rename_i hk
  obtain rfl:=Option.some.inj h
  obtain⟨A,c,rfl,_⟩:=ha
  exact⟨_,hslice _ _ _ _ hk,(RepZ.v _).rep⟩
 ·cases h
theorem mP{s f:Nat}{fs:List (Nat×Nat)}{n b:Nat}{z:AV}(hs:tyk P s=some ⟨.struct fs,n,b,z⟩){o t:Nat}(hf:fs[f]? =some (o,t)){T:TK}(hT:tyk P t=some T)(h0:T.cells≠0)(ad:Addr):
  (Instr.fieldAt s (.pointer (some ad)) f).run P w=.ok (.pointer (some (ad.add o))) w:=by
 obtain⟨i,d,z',h1,h2,h3,h4⟩:=aH hs
 obtain⟨i2,d2,z2,g1,g2,g3,rfl⟩:=aH hT
 obtain⟨fa,rfl,hfs⟩:=dM (d:=d) (by have:=congrArg TK.k h4;exact this.symm)
 rw[hfs]at hf
 simp only[List.getElem?_map,Array.getElem?_toList]at hf
 cases hfa:fa[f]? with
 |none=>simp[hfa]at hf
 |some fld=>
  simp only[hfa,Option.map_some,Option.some.injEq,Prod.mk.injEq]at hf
  obtain⟨rfl,rfl⟩:=hf
  have hsz:(sizeOf fld.type).run P w=.ok i2.size w:=by simp[sizeOf,typeInfo,g1]
  simp only[Instr.fieldAt,Sem.run_bind,run_underlying h2,Result.andThen_ok,hfa,Instr.sureAddr,Sem.run_pure,fieldPlace,hsz]
  rw[if_neg h0]
  rfl
theorem iK{t e:Nat}{n b:Nat}{z:AV}(ht:tyk P t=some ⟨.slice e,n,b,z⟩){E:TK}(hE:tyk P e=some E)(ad:Addr)(len cap:Nat)(k:IntKind)(i:Int)(h0:0≤i)(h1:i<len):
  (Instr.indexAt t (.slice (some ad) len cap) (.int k i)).run P w=.ok (.pointer (some (ad.add (i.toNat*E.cells)))) w:=by
 obtain⟨i1,d,z',g1,g2,g3,g4⟩:=aH ht
 obtain⟨i2,d2,z2,e1,e2,e3,rfl⟩:=aH hE
 have:=bY (d:=d) (e:=e) (by have:=congrArg TK.k g4;exact this.symm)
 subst this
 have hsz:(sizeOf e).run P w=.ok i2.size w:=by simp[sizeOf,typeInfo,e1]
 simp only[Instr.indexAt,asIntOf,Sem.run_bind,Sem.run_pure,Result.andThen_ok,run_underlying g2,Sem.run_ite,if_pos (And.intro h0 h1),hsz]
theorem kR{t e m:Nat}{n b:Nat}{z:AV}(ht:tyk P t=some ⟨.arr m e,n,b,z⟩){E:TK}(hE:tyk P e=some E)(ad:Addr)(k:IntKind)(i:Int)(h0:0≤i)(h1:i<m):
  (Instr.indexAt t (.pointer (some ad)) (.int k i)).run P w=.ok (.pointer (some (ad.add (i.toNat*E.cells)))) w:=by
 obtain⟨i1,d,z',g1,g2,g3,g4⟩:=aH ht
 obtain⟨i2,d2,z2,e1,e2,e3,rfl⟩:=aH hE
 have:=qG (d:=d) (by have:=congrArg TK.k g4;exact this.symm)
 subst this
 have hsz:(sizeOf e).run P w=.ok i2.size w:=by simp[sizeOf,typeInfo,e1]
 simp only[Instr.indexAt,asIntOf,Instr.sureAddr,Sem.run_bind,Sem.run_pure,Result.andThen_ok,run_underlying g2,Sem.run_ite,if_pos (And.intro h0 h1),hsz]
theorem eU{t:Nat}{n b:Nat}{z:AV}(ht:tyk P t=some ⟨.str,n,b,z⟩)(s:ByteArray)(lo hi:Option Value)(l h:Nat)
  (hl:lo=none∧l=0∨∃k i,lo=some (.int k i)∧0≤i∧i≤h∧l=i.toNat) (hh:hi=none∧h=s.size∨∃k i,hi=some (.int k i)∧0≤i∧i≤s.size∧h=i.toNat):
  (Instr.sliceAt t (.string s) lo hi none).run P w=.ok (.string (s.extract l h)) w:=by
 obtain⟨i1,d,z',g1,g2,g3,g4⟩:=aH ht
 have:=jN (d:=d) (by have:=congrArg TK.k g4;exact this.symm)
 subst this
 have hb:(Instr.sliceBounds false s.size s.size lo hi none).run P w=.ok (l,h,s.size) w:=by
  rcases hl with⟨rfl,rfl⟩|⟨k,i,rfl,hi0,hih,rfl⟩<;>rcases hh with⟨rfl,rfl⟩|⟨k2,j,rfl,hj0,hjs,rfl⟩
  ·simp[Instr.sliceBounds]
  ·simp[Instr.sliceBounds,Instr.sliceBound,asIntOf,hj0,hjs]
  ·simp[Instr.sliceBounds,Instr.sliceBound,asIntOf,hi0,hih]
  ·have:i≤max j 0:=by omega
   have hle:i≤(j.toNat:Int):=hih
   simp[Instr.sliceBounds,Instr.sliceBound,asIntOf,hi0,hj0,hjs]
   intro h;omega
 simp only[Instr.sliceAt,Sem.run_bind,run_underlying g2,Result.andThen_ok,Instr.slice,Option.isSome_none,Bool.false_eq_true,if_false,Sem.run_pure,hb]
theorem eR{t e:Nat}{n b:Nat}{z:AV}(ht:tyk P t=some ⟨.slice e,n,b,z⟩){E:TK}(hE:tyk P e=some E)(A:Option Addr)(len cap:Nat)(hlc:len≤cap)(lo hi:Option Value)(l h:Nat)
  (hl:lo=none∧l=0∨∃k i,lo=some (.int k i)∧0≤i∧i≤h∧l=i.toNat) (hh:hi=none∧h=len∨∃k i,hi=some (.int k i)∧0≤i∧i≤len∧h=i.toNat):
  (Instr.sliceAt t (.slice A len cap) lo hi none).run P w=.ok (.slice (if cap=l then A else A.map (fun(a:Addr)=>a.add (l*E.cells))) (h-l) (cap-l)) w:=by
 obtain⟨i1,d,z',g1,g2,g3,g4⟩:=aH ht
 obtain⟨i2,d2,z2,e1,e2,e3,rfl⟩:=aH hE
 have:=bY (d:=d) (e:=e) (by have:=congrArg TK.k g4;exact this.symm)
 subst this
 have hsz:(sizeOf e).run P w=.ok i2.size w:=by simp[sizeOf,typeInfo,e1]
 have hb:(Instr.sliceBounds true len cap lo hi none).run P w=.ok (l,h,cap) w:=by
  rcases hl with⟨rfl,rfl⟩|⟨k,i,rfl,hi0,hih,rfl⟩<;>rcases hh with⟨rfl,rfl⟩|⟨k2,j,rfl,hj0,hjs,rfl⟩
  ·simp[Instr.sliceBounds]
  ·simp[Instr.sliceBounds,Instr.sliceBound,asIntOf,hj0];omega
  ·simp[Instr.sliceBounds,Instr.sliceBound,asIntOf,hi0,hih]
  ·have hle:i≤(j.toNat:Int):=hih
   simp[Instr.sliceBounds,Instr.sliceBound,asIntOf,hi0,hj0,show j≤(cap:Int) by omega,show i≤max j 0 by omega]
 simp only[Instr.sliceAt,Sem.run_bind,run_underlying g2,Result.andThen_ok,Instr.slice,Sem.run_pure,hb,hsz]
end
end Go.Ab
namespace Go.Ab
open Go.RowKit
section
variable{P:Program}{w:World}{M:Nat→Prop}{loc:Nat→Value}
theorem fM{es:List AV}{k:Nat}(hk:∀e∈es,e.flat.length=k)(l:Nat):(es.drop l).flatMap AV.flat=(es.flatMap AV.flat).drop (l*k):=by
 induction l generalizing es with
 |zero=>simp
 |succ l ih=>
  cases es with
  |nil=>simp
  |cons e es=>
   simp only[List.drop_succ_cons,List.flatMap_cons]
   rw[ih (fun e he=>hk e (by simp[he])),List.drop_append,hk e (by simp)]
   have:List.drop ((l+1)*k) e.flat=[]:=List.drop_eq_nil_of_le (by rw[hk e (by simp),Nat.succ_mul];omega)
   rw[this,List.nil_append]
   congr 1
   rw[Nat.succ_mul];omega
theorem eQ(es:List AV)(h:Nat):∃r,es.flatMap AV.flat=(es.take h).flatMap AV.flat++r:=by
 refine⟨(es.drop h).flatMap AV.flat,?_⟩
 rw[←List.flatMap_append,List.take_append_drop]
theorem RepZ.sub{A:Option Addr}{len cap:Nat}{es:List AV}(hr:RepZ w M (.slice A len cap) (.sl es)){k:Nat}(hk:∀e∈es,e.flat.length=k){l h:Nat}(hlh:l≤h)(hh:h≤es.length):
  RepZ w M (.slice (if cap=l then A else A.map (fun(a:Addr)=>a.add (l*k))) (h-l) (cap-l)) (.sl ((es.take h).drop l)):=by
 obtain⟨A',cap',k',f,hx,hk',hA,hc,hrr,hcap,hmax⟩:=hr.sl_inv
 simp only[Value.slice.injEq]at hx
 obtain⟨rfl,rfl,rfl⟩:=hx
 have hlen:((es.take h).drop l).length=h-l:=by simp;omega
 rw[←hlen]
 by_cases hne:(es.take h).drop l=[]
 ·rw[hne]
  exact .sl _ _ k _ (fun _=>undef) (by simp) (by simp) (by simp) (by simp) (by simp) (by omega)
 ·have hpos:0<h-l:=by rw[←hlen];exact List.length_pos_iff.2 hne
  have hes:es≠[]:=by rintro rfl;simp at hne
  obtain⟨ad,rfl,hM⟩:=hA hes
  have hkk:k'=k:=by
   cases es with
   |nil=>exact(hes rfl).elim
   |cons e es=>rw[←hk e (by simp),hk' e (by simp)]
  subst hkk
  rw[if_neg (by omega)]
  refine .sl _ _ k' _ (fun j=>f (l*k'+j)) ?_ ?_ ?_ ?_ ?_ (by omega)
  ·intro e he
   exact hk e (List.mem_of_mem_take (List.mem_of_mem_drop he))
  ·intro _;exact⟨_,rfl,by rw[dG];exact hM⟩
  ·intro ad' had j hj
   simp only[Option.map_some,Option.some.injEq]at had
   subst had
   rw[iP]
   refine hc ad rfl _ ?_
   rw[hlen,Nat.sub_mul]at hj
   have h1:h*k'≤es.length*k':=Nat.mul_le_mul_right _ hh
   omega
  ·intro j e he
   refine hrr _ e ?_
   obtain⟨r,hr⟩:=eQ es h
   rw[fM (k:=k') (fun e he=>hk e (List.mem_of_mem_take he)),List.getElem?_drop]at he
   rw[hr,List.getElem?_append_left (List.getElem?_eq_some_iff.1 he).1]
   exact he
  ·rw[hlen];omega
theorem fB{t e:Nat}{n b:Nat}{z:AV}(ht:tyk P t=some ⟨.slice e,n,b,z⟩){E:TK}(hE:tyk P e=some E){v:Value}{id k s m:Nat}(hw:RepO loc v (.wn id k s m))(hk:k=E.cells)(lo hi:Option Value)(l h:Nat)(hhm:h≤m)(hlh:l≤h)
  (hl:lo=none∧l=0∨∃k i,lo=some (.int k i)∧0≤i∧i≤h∧l=i.toNat) (hh:hi=none∧h=m∨∃k i,hi=some (.int k i)∧0≤i∧i≤m∧h=i.toNat):
  PurOK P w M loc (Instr.sliceAt t v lo hi none) (.wn id k (s+l) (h-l)):=by
 obtain⟨A,c,rfl,hmc,hcm,hA⟩:=hw
 refine⟨_,eR ht hE A m c hmc lo hi l h hl hh,?_⟩
 refine⟨_,_,rfl,by omega,by omega,fun hp=>?_,fun h0=>?_⟩
 ·obtain⟨g,m2,d,h1,rfl⟩:=hA.1 (by omega)
  refine⟨g,m2,d,h1,?_⟩
  rw[if_neg (by omega),Option.map_some,dJ,←hk,Nat.add_mul]
 ·obtain⟨m2,h1⟩:=hA.2 (by omega)
  have hl0:l=0:=by omega
  subst hl0
  have e:A.map (fun(a:Addr)=>a.add (0*E.cells))=A:=by cases A<;>simp[Addr.add]
  exact⟨m2,by rw[h1,e,ite_self,Nat.sub_zero]⟩
theorem ObjOK.win{X:Ctx}{N:Nat}{id:Nat}{o:Ob}(h:ObjOK X.own w M loc N (loc id) o):RepO loc (loc id) (.wn id o.k 0 o.es.length):=by
 obtain⟨xs,hown,_⟩:=h.own
 rcases hown.2 with⟨hn,h0⟩|⟨g,cap,cur,hn,_,_,hnc,hcm,_⟩
 ·exact⟨none,0,by rw[hn,h0],by omega,by simp,(fun h=>by omega),fun _=>⟨_,hn⟩⟩
 ·exact⟨_,_,hn,hnc,hcm,fun _=>⟨g,_,_,hn,by simp⟩,fun _=>⟨_,hn⟩⟩
theorem yY{x:Value}{e:AV}{v:Value}(h:Rep w M loc x e)(he:e.known=some v):x=v:=by
 unfold AV.known at he
 split at he
 ·cases he;exact h.v_inv
 ·rename_i es
  cases hb:es.all AV.isV with
  |false=>rw[hb]at he;cases he
  |true=>
   rw[hb,cond_true]at he
   cases he
   obtain⟨cs,rfl,hl,hr⟩:=h.agg_inv
   congr 1
   refine Array.ext (by simp[hl]) fun j h1 h2=>?_
   have hj:j<es.length:=by simpa using h2
   have he:=hr j _ _ (Array.getElem?_eq_getElem h1) (List.getElem?_eq_getElem hj)
   have hv:=List.all_eq_true.1 hb _ (List.getElem_mem hj)
   simp only[List.getElem_toArray,List.getElem_map]
   cases hc:es[j]with
   |v y=>rw[hc]at he;exact he.rep.v_inv
   |_=>rw[hc]at hv;cases hv
 ·cases he
theorem HW{X:Ctx}{H:List Cell}(hH:HeapOK X w M loc H){o:Oper}{a:Act}{ρ:Operand→AV}(hρ:∀x∈o.op.operands,Rep w M loc (a.eval x) (ρ x)){p:Prop}{r:AV}
  (h:pur P H ρ o.op=some (p,r)) (hp:p):∃v,(execOp a.eval o).run P w=.ok (.value v) w∧Rep w M loc v r:=by
 obtain⟨dst,op,ty,pos,after,guard⟩:=o
 have lift:∀{s:Sem Value},PurOK P w M loc s r→∃v,(do pure (Next.value (←s)):Sem Next).run P w=.ok (.value v) w∧Rep w M loc v r:=by
  rintro s ⟨v,h1,h2⟩
  exact⟨v,by simp only[Sem.run_bind,h1,Result.andThen_ok,Sem.run_pure],h2⟩
 simp only[]at h hρ
 cases op<;>simp only[pur,reduceCtorEq]at h
 case move x=>
  simp only[Option.some.injEq,Prod.mk.injEq]at h
  obtain⟨-,rfl⟩:=h
  exact⟨_,rfl,hρ x (by simp[Op.operands])⟩
 case assign x=>
  simp only[Option.some.injEq,Prod.mk.injEq]at h
  obtain⟨-,rfl⟩:=h
  exact⟨_,rfl,hρ x (by simp[Op.operands])⟩
 case pick c x y=>
  have hc:=hρ c (by simp[Op.operands])
  have hx:=hρ x (by simp[Op.operands])
  have hy:=hρ y (by simp[Op.operands])
  split at h
  ·rename_i b p1 q1 e1 e2 e3
   rw[e1]at hc;rw[e2]at hx;rw[e3]at hy
   simp only[Option.some.injEq,Prod.mk.injEq]at h
   obtain⟨-,rfl⟩:=h
   refine⟨_,?_,(RepZ.v _).rep⟩
   simp only[execOp,hc.v_inv,hx.v_inv,hy.v_inv,asBool,Sem.run_bind,Sem.run_pure,Result.andThen_ok]
   cases b<;>rfl
  ·rename_i b g p1 q1 e1 e2 e3
   rw[e1]at hc;rw[e2]at hx;rw[e3]at hy
   simp only[Option.some.injEq,Prod.mk.injEq]at h
   obtain⟨rfl,rfl⟩:=h
   refine⟨_,?_,(RepZ.v _).rep⟩
   simp only[execOp,hc.v_inv,hy.v_inv,asBool,Sem.run_bind,Sem.run_pure,Result.andThen_ok]
   cases b
   ·rfl
   ·have hx':g=true→Rep w M loc (a.eval x) (.v (.bool p1)):=hx.2
    simp only[if_true,(hx' (hp rfl)).v_inv];rfl
  ·rename_i b p1 g q1 e1 e2 e3
   rw[e1]at hc;rw[e2]at hx;rw[e3]at hy
   simp only[Option.some.injEq,Prod.mk.injEq]at h
   obtain⟨rfl,rfl⟩:=h
   refine⟨_,?_,(RepZ.v _).rep⟩
   simp only[execOp,hc.v_inv,hx.v_inv,asBool,Sem.run_bind,Sem.run_pure,Result.andThen_ok]
   cases b
   ·have hy':g=true→Rep w M loc (a.eval y) (.v (.bool q1)):=hy.2
    simp only[Bool.false_eq_true,if_false,(hy' (hp rfl)).v_inv];rfl
   ·rfl
  ·rename_i g q1 e1 e2 e3
   rw[e1]at hc;rw[e3]at hy
   simp only[Option.some.injEq,Prod.mk.injEq]at h
   obtain⟨-,rfl⟩:=h
   refine⟨_,?_,(RepZ.v _).rep⟩
   simp only[execOp,hc.v_inv,hy.v_inv,asBool,Sem.run_bind,Sem.run_pure,Result.andThen_ok]
   rfl
  ·rename_i p1 g e1 e2 e3
   rw[e1]at hc;rw[e2]at hx
   simp only[Option.some.injEq,Prod.mk.injEq]at h
   obtain⟨-,rfl⟩:=h
   refine⟨_,?_,(RepZ.v _).rep⟩
   simp only[execOp,hc.v_inv,hx.v_inv,asBool,Sem.run_bind,Sem.run_pure,Result.andThen_ok]
   rfl
  ·cases h
 case load t x=>
  have hx:=hρ x (by simp[Op.operands])
  split at h
  ·rename_i T hT
   exact lift (mI hH hT hx h hp)
  ·cases h
 case nilCheck x=>
  have hx:=hρ x (by simp[Op.operands])
  split at h
  ·rename_i e1
   simp only[Option.some.injEq,Prod.mk.injEq]at h
   obtain⟨-,rfl⟩:=h
   rw[e1]at hx
   have hx0:=hx
   obtain⟨g,n,c,h1,h2⟩:=hx
   refine⟨a.eval x,?_,hx0⟩
   simp only[execOp,h2,Sem.run_pure]
  ·rename_i e1
   simp only[Option.some.injEq,Prod.mk.injEq]at h
   obtain⟨-,rfl⟩:=h
   rw[e1]at hx
   have hx0:=hx
   obtain⟨ad,f,h2,_⟩:=hx.ro_inv
   refine⟨a.eval x,?_,hx0⟩
   simp only[execOp,h2,Sem.run_pure]
  ·cases h
 case binOp op t x y t'=>
  exact lift (HT h hp (hρ x (by simp[Op.operands])) (hρ y (by simp[Op.operands])) x y)
 case unOp op t x=>
  have hx:=hρ x (by simp[Op.operands])
  split at h
  ·rename_i b e1
   rw[e1]at hx
   simp only[Option.some.injEq,Prod.mk.injEq]at h
   obtain⟨-,rfl⟩:=h
   refine lift ⟨_,?_,(RepZ.v _).rep⟩
   rw[hx.v_inv];rfl
  ·rename_i k n e1
   rw[e1]at hx
   simp only[Option.some.injEq,Prod.mk.injEq]at h
   obtain⟨-,rfl⟩:=h
   refine lift ⟨_,?_,(RepZ.v _).rep⟩
   rw[hx.v_inv];rfl
  ·cases h
 case convert s d x=>
  have hx:=hρ x (by simp[Op.operands])
  split at h
  ·rename_i T1 k _ _ _ k1 n hT1 hT2 e1
   rw[e1]at hx
   simp only[Option.some.injEq,Prod.mk.injEq]at h
   obtain⟨-,rfl⟩:=h
   obtain⟨i1,d1,z1,g1,g2,g3,g4⟩:=aH hT1
   obtain⟨i2,d2,z2,f1,f2,f3,f4⟩:=aH hT2
   have:=jB (d:=d2) (k:=k) (by have:=congrArg TK.k f4;exact this.symm)
   subst this
   refine lift ⟨_,?_,(RepZ.v _).rep⟩
   rw[hx.v_inv]
   simp only[Go.convert,Sem.run_bind,run_underlying g2,run_underlying f2,Result.andThen_ok,Conv.intToInt,Sem.run_pure]
  ·cases h
 case makeInterface t x=>
  have hx:=hρ x (by simp[Op.operands])
  split at h
  ·rename_i T v hT e1
   simp only[Option.some.injEq,Prod.mk.injEq]at h
   obtain⟨rfl,rfl⟩:=h
   obtain⟨i1,d1,z1,g1,g2,g3,rfl⟩:=aH hT
   refine lift ⟨_,?_,(RepZ.v _).rep⟩
   have hv:=yY hx e1
   simp only[Instr.makeInterface,Sem.run_bind,run_underlying g2,Result.andThen_ok]
   cases d1<;>first|(cases hp;done)|rw[hv];rfl
  ·cases h
 case typeAssert x t0 t ok=>
  have hx:=hρ x (by simp[Op.operands])
  split at h
  ·rename_i T u v hT e1
   rw[e1]at hx
   cases ok<;>simp only[cond_true,cond_false,reduceCtorEq]at h
   simp only[Option.some.injEq,Prod.mk.injEq]at h
   obtain⟨rfl,rfl⟩:=h
   obtain⟨i1,d1,z1,g1,g2,g3,rfl⟩:=aH hT
   have hz:(zeroValue t).run P w=.ok z1 w:=by simp[zeroValue,typeInfo,g1,g3]
   by_cases hu:u=t
   ·subst hu
    refine lift ⟨.tuple #[v,.bool true],?_,?_⟩
    ·rw[hx.v_inv]
     simp only[Instr.typeAssert,Sem.run_bind,run_underlying g2,Result.andThen_ok]
     cases d1<;>first|(cases hp;done)|simp
    ·exact⟨_,rfl,rfl,fun j c e h1 h2=>by
      match j with
      |0=>simp at h1 h2;subst h1;subst h2;exact .inl (gU v)
      |1=>simp at h1 h2;subst h1;subst h2;exact .inl (.v _)
      |j+2=>simp at h1⟩
   ·refine lift ⟨.tuple #[z1,.bool false],?_,?_⟩
    ·rw[hx.v_inv]
     simp only[Instr.typeAssert,Sem.run_bind,run_underlying g2,Result.andThen_ok]
     cases d1<;>first|(cases hp;done)|simp[hu,hz]
    ·exact⟨_,rfl,rfl,fun j c e h1 h2=>by
      match j with
      |0=>simp[hu]at h1 h2;subst h1;subst h2;exact .inl (cL z1)
      |1=>simp[hu]at h1 h2;subst h1;subst h2;exact .inl (.v _)
      |j+2=>simp at h1⟩
  ·rename_i T hT e1
   rw[e1]at hx
   cases ok<;>simp only[cond_true,cond_false,reduceCtorEq]at h
   simp only[Option.some.injEq,Prod.mk.injEq]at h
   obtain⟨rfl,rfl⟩:=h
   obtain⟨i1,d1,z1,g1,g2,g3,rfl⟩:=aH hT
   have hz:(zeroValue t).run P w=.ok z1 w:=by simp[zeroValue,typeInfo,g1,g3]
   refine lift ⟨.tuple #[z1,.bool false],?_,?_⟩
   ·rw[hx.v_inv]
    simp only[Instr.typeAssert,Sem.run_bind,run_underlying g2,Result.andThen_ok]
    cases d1<;>first|(cases hp;done)|simp[hz]
   ·exact⟨_,rfl,rfl,fun j c e h1 h2=>by
     match j with
     |0=>simp at h1 h2;subst h1;subst h2;exact .inl (cL z1)
     |1=>simp at h1 h2;subst h1;subst h2;exact .inl (.v _)
     |j+2=>simp at h1⟩
  ·cases h
 case extract x i=>
  have hx:=hρ x (by simp[Op.operands])
  split at h
  ·rename_i vs e1
   rw[e1]at hx
   cases hi:vs[i]? with
   |none=>simp[hi]at h
   |some r'=>
    simp only[hi,Option.map_some,Option.some.injEq,Prod.mk.injEq]at h
    obtain⟨-,rfl⟩:=h
    obtain⟨cs,h2,hl,hr⟩:=hx.tup_inv
    have hi':i<cs.size:=by rw[hl];exact(List.getElem?_eq_some_iff.1 hi).1
    have hci:cs[i]? =some cs[i]:=Array.getElem?_eq_getElem hi'
    refine lift ⟨cs[i],?_,(hr i _ _ hci hi).rep⟩
    rw[h2]
    simp only[Instr.extract,hci,Sem.run_pure]
  ·cases h
 case fieldAddr s x f=>
  have hx:=hρ x (by simp[Op.operands])
  split at h
  ·rename_i fs _ _ _ hs
   split at h
   ·rename_i o t hf
    split at h
    ·rename_i T cs hT e1
     rw[e1]at hx
     simp only[Option.some.injEq,Prod.mk.injEq]at h
     obtain⟨rfl,rfl⟩:=h
     obtain⟨ad,g,h2,hM,hc,hr⟩:=hx.ro_inv
     refine lift ⟨_,by rw[h2];exact mP hs hf hT hp ad,(RepZ.ro _ _ (fun j=>g (o+j)) (by rw[dG];exact hM) (fun j hj=>?_) fun j e he=>?_).rep⟩
     ·rw[iP];exact hc _ (by rw[List.length_drop]at hj;omega)
     ·exact hr _ e (by rw[List.getElem?_drop]at he;exact he)
    ·rename_i T id k i off hT e1
     rw[e1]at hx
     simp only[Option.some.injEq,Prod.mk.injEq]at h
     obtain⟨rfl,rfl⟩:=h
     obtain⟨g,n,c,h1,h2⟩:=hx
     refine lift ⟨_,by rw[h2];exact mP hs hf hT hp _,?_⟩
     exact⟨g,n,c,h1,by rw[dJ,Nat.add_assoc]⟩
    ·cases h
   ·cases h
  ·cases h
 case field s x f=>
  have hx:=hρ x (by simp[Op.operands])
  split at h
  ·rename_i fs _ _ _ hs
   split at h
   ·rename_i off t hf
    split at h
    ·rename_i T cs hT e1
     rw[e1]at hx
     obtain⟨ca,h2,hl,hr⟩:=hx.agg_inv
     obtain⟨i,d,z',g1,g2,g3,g4⟩:=aH hs
     obtain⟨i2,d2,z2,f1,f2,f3,rfl⟩:=aH hT
     obtain⟨fa,rfl,hfs⟩:=dM (d:=d) (by have:=congrArg TK.k g4;exact this.symm)
     rw[hfs]at hf
     simp only[List.getElem?_map,Array.getElem?_toList]at hf
     cases hfa:fa[f]? with
     |none=>simp[hfa]at hf
     |some fld=>
      simp only[hfa,Option.map_some,Option.some.injEq,Prod.mk.injEq]at hf
      obtain⟨rfl,rfl⟩:=hf
      have hsz:(sizeOf fld.type).run P w=.ok i2.size w:=by simp[sizeOf,typeInfo,f1]
      have hrun:(Instr.field s (a.eval x) f).run P w=(part fld.type ca fld.offset).run P w:=by
       rw[h2]
       simp only[Instr.field,Sem.run_bind,run_underlying g2,Result.andThen_ok,hfa,asAgg,Sem.run_pure]
      split at h
      ·rename_i hag
       simp only[Option.some.injEq,Prod.mk.injEq]at h
       obtain⟨rfl,rfl⟩:=h
       simp only[]at hp hag
       refine lift ⟨.agg (ca.extract fld.offset (fld.offset+i2.size)),?_,⟨_,rfl,?_,fun j c e h1 h2=>?_⟩⟩
       ·rw[hrun]
        simp only[part,Sem.run_bind,dD f2,Result.andThen_ok,hag,if_true,hsz,Sem.run_pure]
       ·simp[hl];omega
       ·have hj:j<i2.size:=by
         have:=(List.getElem?_eq_some_iff.1 h2).1
         simp at this;omega
        rw[List.getElem?_take,if_pos hj,List.getElem?_drop]at h2
        refine hr (fld.offset+j) c e ?_ h2
        rw[Array.getElem?_extract]at h1
        split at h1
        ·exact h1
        ·cases h1
      ·rename_i hag
       simp only[Option.some.injEq,Prod.mk.injEq]at h
       obtain⟨rfl,rfl⟩:=h
       simp only[]at hag
       have hci:ca[fld.offset]? =some (ca[fld.offset]'(by rw[hl];exact hp)):=Array.getElem?_eq_getElem _
       refine lift ⟨_,?_,(hr _ _ _ hci (by rw[uF hp];exact List.getElem?_eq_getElem hp)).rep⟩
       rw[hrun]
       simp only[part,Sem.run_bind,dD f2,Result.andThen_ok,hag,Bool.false_eq_true,if_false,hci,Sem.run_pure]
    ·cases h
   ·cases h
  ·cases h
 case indexAddr t x i=>
  have hx:=hρ x (by simp[Op.operands])
  have hi:=hρ i (by simp[Op.operands])
  split at h
  ·rename_i e _ _ _ es k n hT e1 e2
   rw[e1]at hx;rw[e2]at hi
   split at h
   ·rename_i E hE
    simp only[Option.some.injEq,Prod.mk.injEq]at h
    obtain⟨rfl,rfl⟩:=h
    obtain⟨⟨h0,hlt⟩,hfl⟩:=hp
    obtain⟨A,cap,k',f,hx',hk,hA,hc,hr,hcap,hmax⟩:=hx.sl_inv
    have hin:n.toNat<es.length:=by omega
    have hne:es≠[]:=by rintro rfl;simp at hin
    obtain⟨ad,rfl,hM⟩:=hA hne
    have hkk:k'=E.cells:=by rw[←hfl];exact(hk _ (d8 hin)).symm
    subst hkk
    refine lift ⟨_,by rw[hx',hi.v_inv];exact iK hT hE ad _ _ k n h0 hlt,(RepZ.ro _ _ (fun j=>f (n.toNat*E.cells+j)) (by rw[dG];exact hM) (fun j hj=>?_) fun j e he=>?_).rep⟩
    ·rw[iP]
     refine hc ad rfl _ ?_
     rw[hfl]at hj
     have h1:(n.toNat+1)*E.cells≤es.length*E.cells:=Nat.mul_le_mul_right _ hin
     rw[Nat.succ_mul]at h1
     omega
    ·refine hr _ e ?_
     rw[gV hk hin (by rw[←hfl];exact(List.getElem?_eq_some_iff.1 he).1)]
     exact he
   ·cases h
  ·rename_i e _ _ _ id k n hT e1 e2
   rw[e1]at hx;rw[e2]at hi
   split at h
   ·rename_i E ob hE ho
    simp only[Option.some.injEq,Prod.mk.injEq]at h
    obtain⟨rfl,rfl⟩:=h
    obtain⟨⟨h0,hlt⟩,hk⟩:=hp
    have hob:=hH id ob ho
    obtain⟨xs,hown,_⟩:=hob.own
    have ha':a.eval x=loc id:=hx
    rcases hown.2 with⟨hn,hz⟩|⟨g,cap,cur,hn,_⟩
    ·omega
    ·refine lift ⟨_,by rw[ha',hn,hi.v_inv];exact iK hT hE _ _ _ k n h0 hlt,?_⟩
     exact⟨g,_,_,hn,by rw[dJ,hk];simp⟩
   ·cases h
  ·rename_i e _ _ _ id kk lo m k n hT e1 e2
   rw[e1]at hx;rw[e2]at hi
   split at h
   ·rename_i E hE
    simp only[Option.some.injEq,Prod.mk.injEq]at h
    obtain⟨rfl,rfl⟩:=h
    obtain⟨⟨h0,hlt⟩,hk⟩:=hp
    obtain⟨A,c,hxv,hnc,hcm,hA⟩:=hx
    obtain⟨g,m2,d2,hn,rfl⟩:=hA.1 (by omega)
    refine lift ⟨_,by rw[hxv,hi.v_inv];exact iK hT hE _ _ _ k n h0 hlt,?_⟩
    exact⟨g,_,_,hn,by rw[dJ,hk,Nat.add_mul];simp⟩
   ·cases h
  ·rename_i m e _ _ _ cs k n hT e1 e2
   rw[e1]at hx;rw[e2]at hi
   split at h
   ·rename_i E hE
    simp only[Option.some.injEq,Prod.mk.injEq]at h
    obtain⟨rfl,rfl⟩:=h
    obtain⟨h0,hlt⟩:=hp
    obtain⟨ad,g,h2,hM,hc,hr⟩:=hx.ro_inv
    refine lift ⟨_,by rw[h2,hi.v_inv];exact kR hT hE ad k n h0 hlt,(RepZ.ro _ _ (fun j=>g (n.toNat*E.cells+j)) (by rw[dG];exact hM) (fun j hj=>?_) fun j e he=>?_).rep⟩
    ·rw[iP];exact hc _ (by rw[List.length_drop]at hj;omega)
    ·exact hr _ e (by rw[List.getElem?_drop]at he;exact he)
   ·cases h
  ·rename_i m e _ _ _ id kk j off k n hT e1 e2
   rw[e1]at hx;rw[e2]at hi
   split at h
   ·rename_i E hE
    simp only[Option.some.injEq,Prod.mk.injEq]at h
    obtain⟨rfl,rfl⟩:=h
    obtain⟨h0,hlt⟩:=hp
    obtain⟨g,n2,c,h1,h2⟩:=hx
    refine lift ⟨_,by rw[h2,hi.v_inv];exact kR hT hE _ k n h0 hlt,?_⟩
    exact⟨g,n2,c,h1,by rw[dJ,Nat.add_assoc]⟩
   ·cases h
  ·cases h
 case index t x i=>
  have hx:=hρ x (by simp[Op.operands])
  have hi:=hρ i (by simp[Op.operands])
  split at h
  ·rename_i s k n hT e1 e2
   rw[e1]at hx;rw[e2]at hi
   simp only[Option.some.injEq,Prod.mk.injEq]at h
   obtain⟨rfl,rfl⟩:=h
   obtain⟨i1,d,z',g1,g2,g3,g4⟩:=aH hT
   have:=jN (d:=d) (by have:=congrArg TK.k g4;exact this.symm)
   subst this
   refine lift ⟨_,?_,(RepZ.v _).rep⟩
   rw[hx.v_inv,hi.v_inv]
   have hlt:n.toNat<s.size:=by omega
   have hs:s[n.toNat]? =some (s[n.toNat]'hlt):=by simp[hlt]
   have hd:s.data.getD n.toNat 0=s[n.toNat]'hlt:=by
    rw[Array.getD_eq_getD_getElem?,Array.getElem?_eq_getElem hlt];rfl
   simp only[Instr.index,asIntOf,Sem.run_bind,Sem.run_pure,Result.andThen_ok,run_underlying g2,if_pos hp.1,hs,hd]
  ·rename_i m e _ _ _ cs k n hT e1 e2
   rw[e1]at hx;rw[e2]at hi
   split at h
   ·rename_i E hE
    split at h
    ·cases h
    ·rename_i hag
     simp only[Option.some.injEq,Prod.mk.injEq]at h
     obtain⟨rfl,rfl⟩:=h
     obtain⟨hnm,hE1,hnl⟩:=hp
     obtain⟨ca,h2,hl,hr⟩:=hx.agg_inv
     obtain⟨i1,d,z',g1,g2,g3,g4⟩:=aH hT
     obtain⟨i2,d2,z2,f1,f2,f3,rfl⟩:=aH hE
     have:=qG (d:=d) (by have:=congrArg TK.k g4;exact this.symm)
     subst this
     have hlt:n.toNat<cs.length:=by omega
     have hci:ca[n.toNat]? =some (ca[n.toNat]'(by rw[hl];exact hlt)):=Array.getElem?_eq_getElem _
     have hsz:(sizeOf e).run P w=.ok 1 w:=by
      have hE1':i2.size=1:=hE1
      simp[sizeOf,typeInfo,f1,hE1']
     refine lift ⟨_,?_,(hr _ _ _ hci (by rw[uF hlt];exact List.getElem?_eq_getElem hlt)).rep⟩
     rw[h2,hi.v_inv]
     simp only[Instr.index,asIntOf,Sem.run_bind,Sem.run_pure,Result.andThen_ok,run_underlying g2,if_pos hnm,hsz,Nat.mul_one]
     simp only[part,Sem.run_bind,dD f2,Result.andThen_ok,hag,Bool.false_eq_true,if_false,hci,Sem.run_pure]
   ·cases h
  ·cases h
 case slice t x lo hi mx=>
  cases mx with
  |some m=>simp only[pur,reduceCtorEq]at h
  |none=>
  simp only[pur]at h
  have hx:=hρ x (by simp[Op.operands])
  have hlo:∀l,lo=some l→Rep w M loc (a.eval l) (ρ l):=fun l hl=>hρ l (by simp[Op.operands,hl])
  have hhi:∀l,hi=some l→Rep w M loc (a.eval l) (ρ l):=fun l hl=>hρ l (by simp[Op.operands,hl])
  split at h
  ·rename_i s hT e1
   rw[e1]at hx
   have hxv:=hx.v_inv
   split at h
   all_goals first|(cases h;done)|skip
   all_goals
    simp only[Option.some.injEq,Prod.mk.injEq]at h
    obtain⟨rfl,rfl⟩:=h
   ·rename_i h1 h2
    simp only[Option.map_eq_none_iff]at h1 h2
    subst h1;subst h2
    refine lift ⟨_,by rw[hxv];exact eU hT s none none 0 s.size (.inl ⟨rfl,rfl⟩) (.inl ⟨rfl,rfl⟩),?_⟩
    have:s.extract 0 s.size=s:=by simp
    rw[this];exact(RepZ.v _).rep
   ·rename_i k l h1 h2
    simp only[Option.map_eq_none_iff]at h2
    subst h2
    simp only[Option.map_eq_some_iff]at h1
    obtain⟨lx,rfl,h1⟩:=h1
    have hl:=hlo lx rfl
    rw[h1]at hl
    exact lift ⟨_,by rw[hxv];exact eU hT s _ none l.toNat s.size (.inr ⟨k,l,by rw[Option.map_some,hl.v_inv],hp.1,hp.2,rfl⟩) (.inl ⟨rfl,rfl⟩),(RepZ.v _).rep⟩
   ·rename_i k l h2 h1
    simp only[Option.map_eq_none_iff]at h2
    subst h2
    simp only[Option.map_eq_some_iff]at h1
    obtain⟨lx,rfl,h1⟩:=h1
    have hl:=hhi lx rfl
    rw[h1]at hl
    exact lift ⟨_,by rw[hxv];exact eU hT s none _ 0 l.toNat (.inl ⟨rfl,rfl⟩) (.inr ⟨k,l,by rw[Option.map_some,hl.v_inv],hp.1,hp.2,rfl⟩),(RepZ.v _).rep⟩
   ·rename_i k l k2 l2 h1 h2
    simp only[Option.map_eq_some_iff]at h1 h2
    obtain⟨lx,rfl,h1⟩:=h1
    obtain⟨rx,rfl,h2⟩:=h2
    have hl:=hlo lx rfl
    have hr:=hhi rx rfl
    rw[h1]at hl;rw[h2]at hr
    exact lift ⟨_,by rw[hxv];exact eU hT s _ _ l.toNat l2.toNat (.inr ⟨k,l,by rw[Option.map_some,hl.v_inv],hp.1.1,by omega,rfl⟩) (.inr ⟨k2,l2,by rw[Option.map_some,hr.v_inv],by omega,hp.2,rfl⟩),(RepZ.v _).rep⟩
  ·rename_i e _ _ _ es hT e1
   rw[e1]at hx
   obtain⟨A,cap,k',f,hx',hk,hA,hc,hr,hcap,hmax⟩:=hx.sl_inv
   have hxz:RepZ w M (a.eval x) (.sl es):=hx
   rw[hx']at hxz
   split at h
   all_goals first|(cases h;done)|skip
   all_goals
    simp only[Option.some.injEq,Prod.mk.injEq]at h
    obtain⟨rfl,rfl⟩:=h
    obtain⟨hp1,hfl⟩:=hp
   ·rename_i E k l hE h1 h2
    simp only[Option.map_eq_none_iff]at h2
    subst h2
    simp only[Option.map_eq_some_iff]at h1
    obtain⟨lx,rfl,h1⟩:=h1
    have hl:=hlo lx rfl
    rw[h1]at hl
    refine lift ⟨_,by rw[hx'];exact eR hT hE A _ cap hcap _ none l.toNat es.length (.inr ⟨k,l,by rw[Option.map_some,hl.v_inv],hp1.1,hp1.2,rfl⟩) (.inl ⟨rfl,rfl⟩),?_⟩
    have:=(hxz.sub hfl (l:=l.toNat) (h:=es.length) (by omega) (Nat.le_refl _)).rep (loc:=loc)
    rw[List.take_length]at this
    exact this
   ·rename_i E k l hE h2 h1
    simp only[Option.map_eq_none_iff]at h2
    subst h2
    simp only[Option.map_eq_some_iff]at h1
    obtain⟨lx,rfl,h1⟩:=h1
    have hl:=hhi lx rfl
    rw[h1]at hl
    refine lift ⟨_,by rw[hx'];exact eR hT hE A _ cap hcap none _ 0 l.toNat (.inl ⟨rfl,rfl⟩) (.inr ⟨k,l,by rw[Option.map_some,hl.v_inv],hp1.1,hp1.2,rfl⟩),?_⟩
    have:=(hxz.sub hfl (l:=0) (h:=l.toNat) (by omega) (by omega)).rep (loc:=loc)
    rw[List.drop_zero]at this
    exact this
   ·rename_i E k l k2 l2 hE h1 h2
    simp only[Option.map_eq_some_iff]at h1 h2
    obtain⟨lx,rfl,h1⟩:=h1
    obtain⟨rx,rfl,h2⟩:=h2
    have hl:=hlo lx rfl
    have hr:=hhi rx rfl
    rw[h1]at hl;rw[h2]at hr
    refine lift ⟨_,by rw[hx'];exact eR hT hE A _ cap hcap _ _ l.toNat l2.toNat (.inr ⟨k,l,by rw[Option.map_some,hl.v_inv],hp1.1.1,by omega,rfl⟩) (.inr ⟨k2,l2,by rw[Option.map_some,hr.v_inv],by omega,hp1.2,rfl⟩),?_⟩
    exact(hxz.sub hfl (l:=l.toNat) (h:=l2.toNat) (by omega) (by omega)).rep
  ·rename_i e _ _ _ id kk s m hT e1
   rw[e1]at hx
   have hw:RepO loc (a.eval x) (.wn id kk s m):=hx
   split at h
   all_goals first|(cases h;done)|skip
   all_goals
    simp only[Option.some.injEq,Prod.mk.injEq]at h
    obtain⟨rfl,rfl⟩:=h
    obtain⟨hp1,hk⟩:=hp
   ·rename_i E k l hE h1 h2
    simp only[Option.map_eq_none_iff]at h2
    subst h2
    simp only[Option.map_eq_some_iff]at h1
    obtain⟨lx,rfl,h1⟩:=h1
    have hl:=hlo lx rfl
    rw[h1]at hl
    exact lift (by rw[Option.map_some,hl.v_inv];exact fB (w:=w) (M:=M) hT hE hw hk (some (.int k l)) none l.toNat m (Nat.le_refl _) (by omega) (.inr ⟨k,l,rfl,hp1.1,hp1.2,rfl⟩) (.inl ⟨rfl,rfl⟩))
   ·rename_i E k l hE h2 h1
    simp only[Option.map_eq_none_iff]at h2
    subst h2
    simp only[Option.map_eq_some_iff]at h1
    obtain⟨lx,rfl,h1⟩:=h1
    have hl:=hhi lx rfl
    rw[h1]at hl
    have:=fB (w:=w) (M:=M) hT hE hw hk none (some (.int k l)) 0 l.toNat (by omega) (by omega) (.inl ⟨rfl,rfl⟩) (.inr ⟨k,l,rfl,hp1.1,hp1.2,rfl⟩)
    rw[Nat.add_zero,Nat.sub_zero]at this
    exact lift (by rw[Option.map_some,hl.v_inv];exact this)
   ·rename_i E k l k2 l2 hE h1 h2
    simp only[Option.map_eq_some_iff]at h1 h2
    obtain⟨lx,rfl,h1⟩:=h1
    obtain⟨rx,rfl,h2⟩:=h2
    have hl:=hlo lx rfl
    have hr:=hhi rx rfl
    rw[h1]at hl;rw[h2]at hr
    exact lift (by rw[Option.map_some,Option.map_some,hl.v_inv,hr.v_inv];exact fB (w:=w) (M:=M) hT hE hw hk (some (.int k l)) (some (.int k2 l2)) l.toNat l2.toNat (by omega) (by omega) (.inr ⟨k,l,rfl,hp1.1.1,by omega,rfl⟩) (.inr ⟨k2,l2,rfl,by omega,hp1.2,rfl⟩))
  ·rename_i e _ _ _ hT e1
   rw[e1]at hx
   have hxv:a.eval x=.slice none 0 0:=by
    have h2:RepZ w M (a.eval x) .nil:=hx
    generalize a.eval x=y at h2
    cases h2;rfl
   split at h
   ·rename_i E k l hE h2 h1
    simp only[Option.some.injEq,Prod.mk.injEq]at h
    obtain⟨rfl,rfl⟩:=h
    simp only[Option.map_eq_none_iff]at h2
    subst h2
    simp only[Option.map_eq_some_iff]at h1
    obtain⟨lx,rfl,h1⟩:=h1
    have hl:=hhi lx rfl
    rw[h1]at hl
    exact lift ⟨_,by rw[hxv];exact eR hT hE none 0 0 (Nat.le_refl _) none _ 0 0 (.inl ⟨rfl,rfl⟩) (.inr ⟨k,l,by rw[Option.map_some,hl.v_inv],by omega,by omega,by omega⟩),RepZ.nil.rep⟩
   ·cases h
  ·cases h
 case makeFunc f first cap=>
  split at h
  ·rename_i hc
   simp only[Option.some.injEq,Prod.mk.injEq]at h
   obtain⟨-,rfl⟩:=h
   simp only[Bool.and_eq_true,Array.all_eq_true_iff_forall_mem]at hc
   have hv:∀x,x∈first∨x∈cap→a.eval x=(ρ x).getV:=by
    intro x hx
    have h1:=hρ x (by simp[Op.operands];exact hx)
    have h2:(ρ x).isV=true:=by
     rcases hx with hx|hx
     ·exact hc.1 x hx
     ·exact hc.2 x hx
    cases hr:ρ x<;>simp[hr,AV.isV]at h2
    rw[hr]at h1
    exact h1.v_inv
   refine lift ⟨.func f (first.map a.eval) (cap.map a.eval),rfl,?_⟩
   have e1:first.map a.eval=first.map fun x=>(ρ x).getV:=Array.map_congr_left fun x hx=>hv x (.inl hx)
   have e2:cap.map a.eval=cap.map fun x=>(ρ x).getV:=Array.map_congr_left fun x hx=>hv x (.inr hx)
   rw[e1,e2]
   exact(RepZ.v _).rep
  ·split at h
   ·rename_i f
    split at h
    ·rename_i hc
     simp only[Option.some.injEq,Prod.mk.injEq]at h
     obtain⟨-,rfl⟩:=h
     simp only[Bool.and_eq_true,Array.all_eq_true_iff_forall_mem]at hc
     have hv:∀(l:Array Operand),(∀x∈l,x∈first∨x∈cap)→∀(j:Nat) (c:Value) (e:AV),(l.map a.eval)[j]? =some c→(l.toList.map ρ)[j]? =some e→RepB w M loc c e:=by
      intro l hl j c e h1 h2
      simp only[Array.getElem?_map,List.getElem?_map,Array.getElem?_toList]at h1 h2
      cases hx:l[j]? with
      |none=>rw[hx]at h1;cases h1
      |some x=>
       rw[hx]at h1 h2
       cases h1;cases h2
       have hm:=hl x (Array.mem_of_getElem? hx)
       have hr:=hρ x (by simp[Op.operands];exact hm)
       refine hr.repB ?_
       rcases hm with hm|hm
       ·exact hc.1 x hm
       ·exact hc.2 x hm
     exact lift ⟨_,rfl,⟨_,_,rfl,by simp,by simp,hv first (fun x hx=>.inl hx),hv cap (fun x hx=>.inr hx)⟩⟩
    ·cases h
   ·cases h
 case call c=>
  obtain⟨callee,args,ats⟩:=c
  obtain⟨args⟩:=args
  obtain⟨ats⟩:=ats
  split at h
  ·rename_i x t e1 e2 e3
   simp only[]at e1 e2 e3
   subst e1;subst e2;subst e3
   have hx:=hρ x (by simp[Op.operands,Call.operands])
   split at h
   ·rename_i T hT
    cases hl:lenA T.k H (ρ x)with
    |none=>simp[hl]at h
    |some r'=>
     simp only[hl,Option.map_some,Option.some.injEq,Prod.mk.injEq]at h
     obtain⟨-,rfl⟩:=h
     obtain⟨v,h1,h2⟩:=EZ (ty:=ty) hH hT hx hl
     exact⟨v,by simp[execOp,resolve,invoke,builtin,h1],h2⟩
   ·cases h
  ·rename_i ts x y e1 e2
   simp only[]at e1 e2
   subst e1;subst e2
   have hx:=hρ x (by simp[Op.operands,Call.operands])
   have hy:=hρ y (by simp[Op.operands,Call.operands])
   split at h
   ·rename_i k p1 k2 q1 e1 e2
    rw[e1]at hx;rw[e2]at hy
    simp only[Option.some.injEq,Prod.mk.injEq]at h
    obtain⟨-,rfl⟩:=h
    refine⟨.int k (max p1 q1),?_,(RepZ.v _).rep⟩
    simp only[execOp,resolve,invoke,builtin,Sem.run_bind,Sem.run_pure,Result.andThen_ok,List.map_toArray,List.map_cons,List.map_nil,hx.v_inv,hy.v_inv,Builtin.max_,List.foldlM,Builtin.max2]
    congr 3
    split<;>omega
   ·cases h
  ·rename_i x t e1 e2 e3
   simp only[]at e1 e2 e3
   subst e1;subst e2;subst e3
   have hx:=hρ x (by simp[Op.operands,Call.operands])
   split at h
   ·rename_i e _ _ _ hT e1
    rw[e1]at hx
    have hxv:a.eval x=.slice none 0 0:=by
     have h2:RepZ w M (a.eval x) .nil:=hx
     generalize a.eval x=y at h2
     cases h2;rfl
    obtain⟨i1,d,z1,g1,g2,g3,g4⟩:=aH hT
    have:=bY (d:=d) (e:=e) (by have:=congrArg TK.k g4;exact this.symm)
    subst this
    simp only[Option.some.injEq,Prod.mk.injEq]at h
    obtain⟨-,rfl⟩:=h
    refine⟨.int .i64 0,?_,(RepZ.v _).rep⟩
    simp[execOp,resolve,invoke,builtin,hxv,Builtin.cap_,run_underlying g2,goInt]
   ·cases h
  ·rename_i ts x y e1 e2
   simp only[]at e1 e2
   subst e1;subst e2
   have hx:=hρ x (by simp[Op.operands,Call.operands])
   have hy:=hρ y (by simp[Op.operands,Call.operands])
   split at h
   ·rename_i k p1 k2 q1 e1 e2
    rw[e1]at hx;rw[e2]at hy
    simp only[Option.some.injEq,Prod.mk.injEq]at h
    obtain⟨-,rfl⟩:=h
    refine⟨.int k (min p1 q1),?_,(RepZ.v _).rep⟩
    simp only[execOp,resolve,invoke,builtin,Sem.run_bind,Sem.run_pure,Result.andThen_ok,List.map_toArray,List.map_cons,List.map_nil,hx.v_inv,hy.v_inv,Builtin.min_,List.foldlM,Builtin.min2]
    congr 3
    split<;>omega
   ·cases h
  ·rename_i ts x y z e1 e2
   simp only[]at e1 e2
   subst e1;subst e2
   have hx:=hρ x (by simp[Op.operands,Call.operands])
   have hy:=hρ y (by simp[Op.operands,Call.operands])
   have hz:=hρ z (by simp[Op.operands,Call.operands])
   split at h
   ·rename_i k p1 k2 q1 k3 r1 e1 e2 e3
    rw[e1]at hx;rw[e2]at hy;rw[e3]at hz
    simp only[Option.some.injEq,Prod.mk.injEq]at h
    obtain⟨-,rfl⟩:=h
    refine⟨.int k (min (min p1 q1) r1),?_,(RepZ.v _).rep⟩
    simp only[execOp,resolve,invoke,builtin,Sem.run_bind,Sem.run_pure,Result.andThen_ok,List.map_toArray,List.map_cons,List.map_nil,hx.v_inv,hy.v_inv,hz.v_inv,Builtin.min_,List.foldlM,Builtin.min2]
    congr 3
    split<;>split<;>omega
   ·cases h
  ·rename_i ts x y z e1 e2
   simp only[]at e1 e2
   subst e1;subst e2
   have hx:=hρ x (by simp[Op.operands,Call.operands])
   have hy:=hρ y (by simp[Op.operands,Call.operands])
   have hz:=hρ z (by simp[Op.operands,Call.operands])
   split at h
   ·rename_i k p1 k2 q1 k3 r1 e1 e2 e3
    rw[e1]at hx;rw[e2]at hy;rw[e3]at hz
    simp only[Option.some.injEq,Prod.mk.injEq]at h
    obtain⟨-,rfl⟩:=h
    refine⟨.int k (max (max p1 q1) r1),?_,(RepZ.v _).rep⟩
    simp only[execOp,resolve,invoke,builtin,Sem.run_bind,Sem.run_pure,Result.andThen_ok,List.map_toArray,List.map_cons,List.map_nil,hx.v_inv,hy.v_inv,hz.v_inv,Builtin.max_,List.foldlM,Builtin.max2]
    congr 3
    split<;>split<;>omega
   ·cases h
  ·cases h
theorem yZ{X:Ctx}{H:List Cell}(hH:HeapOK X w M loc H){o:Oper}{a:Act}{ρ:Operand→AV}(hρ:∀x∈o.op.operands,Rep w M loc (a.eval x) (ρ x)){p:Prop}{r:AV}
  (h:sliceX P H ρ o.op=some (p,r)) (hp:p):∃v,(execOp a.eval o).run P w=.ok (.value v) w∧Rep w M loc v r:=by
 obtain⟨dst,op,ty,pos,after,guard⟩:=o
 have lift:∀{s:Sem Value},PurOK P w M loc s r→∃v,(do pure (Next.value (←s)):Sem Next).run P w=.ok (.value v) w∧Rep w M loc v r:=by
  rintro s ⟨v,h1,h2⟩
  exact⟨v,by simp only[Sem.run_bind,h1,Result.andThen_ok,Sem.run_pure],h2⟩
 simp only[]at h hρ
 cases op<;>simp only[sliceX,reduceCtorEq]at h
 case slice t x lo hi mx=>
  cases mx with
  |some m=>simp only[reduceCtorEq]at h
  |none=>
  simp only[]at h
  have hx:=hρ x (by simp[Op.operands])
  have hlo:∀l,lo=some l→Rep w M loc (a.eval l) (ρ l):=fun l hl=>hρ l (by simp[Op.operands,hl])
  have hhi:∀l,hi=some l→Rep w M loc (a.eval l) (ρ l):=fun l hl=>hρ l (by simp[Op.operands,hl])
  split at h
  ·rename_i e _ _ _ id hT e1
   rw[e1]at hx
   split at h
   ·rename_i o ho
    have hw:=(hH id o ho).win
    have hx':a.eval x=loc id:=hx
    rw[←hx']at hw
    split at h
    all_goals first|(cases h;done)|skip
    all_goals
     simp only[Option.some.injEq,Prod.mk.injEq]at h
     obtain⟨rfl,rfl⟩:=h
     obtain⟨hp1,hk⟩:=hp
    ·rename_i E k l hE h1 h2
     simp only[Option.map_eq_none_iff]at h2
     subst h2
     simp only[Option.map_eq_some_iff]at h1
     obtain⟨lx,rfl,h1⟩:=h1
     have hl:=hlo lx rfl
     rw[h1]at hl
     have:=fB (w:=w) (M:=M) hT hE hw hk (some (.int k l)) none l.toNat o.es.length (Nat.le_refl _) (by omega) (.inr ⟨k,l,rfl,hp1.1,hp1.2,rfl⟩) (.inl ⟨rfl,rfl⟩)
     rw[Nat.zero_add]at this
     exact lift (by rw[Option.map_some,hl.v_inv];exact this)
    ·rename_i E k l hE h2 h1
     simp only[Option.map_eq_none_iff]at h2
     subst h2
     simp only[Option.map_eq_some_iff]at h1
     obtain⟨lx,rfl,h1⟩:=h1
     have hl:=hhi lx rfl
     rw[h1]at hl
     have:=fB (w:=w) (M:=M) hT hE hw hk none (some (.int k l)) 0 l.toNat (by omega) (by omega) (.inl ⟨rfl,rfl⟩) (.inr ⟨k,l,rfl,hp1.1,hp1.2,rfl⟩)
     rw[Nat.zero_add,Nat.sub_zero]at this
     exact lift (by rw[Option.map_some,hl.v_inv];exact this)
    ·rename_i E k l k2 l2 hE h1 h2
     simp only[Option.map_eq_some_iff]at h1 h2
     obtain⟨lx,rfl,h1⟩:=h1
     obtain⟨rx,rfl,h2⟩:=h2
     have hl:=hlo lx rfl
     have hr:=hhi rx rfl
     rw[h1]at hl;rw[h2]at hr
     have:=fB (w:=w) (M:=M) hT hE hw hk (some (.int k l)) (some (.int k2 l2)) l.toNat l2.toNat (by omega) (by omega) (.inr ⟨k,l,rfl,hp1.1.1,by omega,rfl⟩) (.inr ⟨k2,l2,rfl,by omega,hp1.2,rfl⟩)
     rw[Nat.zero_add]at this
     exact lift (by rw[Option.map_some,Option.map_some,hl.v_inv,hr.v_inv];exact this)
   ·cases h
  ·cases h
end
end Go.Ab

