import Derived.Test.YtllgjognpobnpaaGreatDoorGFw1
set_option linter.all false
namespace Go.Ab
open Go.RowKit
def AV.one:AV→Bool
 | .v x=>x.oneCell'
 | .nil| .sl _| .ro _| .ow _| .el .. | .wn .. =>true
 |_=>false
def AV.plain:AV→Bool
 | .agg cs=>cs.all AV.one
 |x=>x.one
section
variable{P:Program}{w w':World}{M:Nat→Prop}{loc:Nat→Value}
theorem RepZ.one{x:Value}{e:AV}(h:RepZ w M x e)(ho:e.one=true):x.oneCell'=true:=by
 cases h with
 |v x=>exact ho
 |bad x=>simp[AV.one]at ho
 |nil=>rfl
 |sl=>rfl
 |ro=>rfl
 |agg=>simp[AV.one]at ho
 |tup=>simp[AV.one]at ho
 |mb=>simp[AV.one]at ho
theorem RepZ.plain{x:Value}{e:AV}(h:RepZ w M x e)(hp:e.plain=true):
  x.cells.size=e.flat.length∧(∀(j:Nat) (c:AV),e.flat[j]? =some c→∃y,x.cells[j]? =some y∧RepZ w M y c)∧∀y∈x.cells.toList,y.oneCell'=true:=by
 have hone:e.one=true→(∀cs,e≠.agg cs)→x.cells.size=e.flat.length∧(∀(j:Nat) (c:AV),e.flat[j]? =some c→∃y,x.cells[j]? =some y∧RepZ w M y c)∧∀y∈x.cells.toList,y.oneCell'=true:=by
  intro ho hn
  have h1:=h.one ho
  have hx:x.cells= #[x]:=by cases x<;>simp[Value.cells,Value.oneCell']at*
  have hf:e.flat=[e]:=by cases e<;>first|rfl|exact absurd rfl (hn _)
  rw[hx,hf]
  refine⟨rfl,fun j c hc=>?_,fun y hy=>?_⟩
  ·cases j with
   |zero=>simp at hc;subst hc;exact⟨x,rfl,h⟩
   |succ j=>simp at hc
  ·simp at hy;subst hy;exact h1
 cases h with
 |agg cs es hl hr=>
  refine⟨hl,fun j c hc=>?_,fun y hy=>?_⟩
  ·have hj:j<cs.size:=by rw[hl];exact(List.getElem?_eq_some_iff.1 hc).1
   exact⟨cs[j],Array.getElem?_eq_getElem hj,hr j _ c (Array.getElem?_eq_getElem hj) hc⟩
  ·simp only[Value.cells]at hy
   obtain⟨j,hj,rfl⟩:=List.getElem_of_mem hy
   simp only[Array.length_toList]at hj
   have hj':j<es.length:=by rw[←hl];exact hj
   have:=hr j cs[j] es[j] (Array.getElem?_eq_getElem hj) (List.getElem?_eq_getElem hj')
   simp only[AV.plain,List.all_eq_true]at hp
   simpa using this.one (hp _ (List.getElem_mem hj'))
 |v x=>exact hone hp (by intro cs h;cases h)
 |bad x=>simp[AV.plain,AV.one]at hp
 |nil=>exact hone hp (by intro cs h;cases h)
 |sl=>exact hone rfl (by intro cs h;cases h)
 |ro=>exact hone rfl (by intro cs h;cases h)
 |tup=>simp[AV.plain,AV.one]at hp
 |mb=>simp[AV.plain,AV.one]at hp
theorem AV.idLt_of_one{e:AV}(ho:e.one=true)(hz:e.zone=true)(n:Nat):e.idLt n:=by
 cases e<;>first|trivial|simp[AV.one]at ho|simp[AV.zone]at hz
theorem RepO.one{loc:Nat→Value}{n:Nat}(h1:∀id,id<n→(loc id).oneCell'=true){x:Value}{e:AV}(h:RepO loc x e)(hi:e.idLt n):x.oneCell'=true:=by
 cases e with
 |ow id=>rw[show x=loc id from h];exact h1 id hi
 |el a b c d=>obtain⟨g,n,c,_,rfl⟩:=h;rfl
 |wn a b c d=>obtain⟨A,c,rfl,_⟩:=h;rfl
 |_=>exact h.elim
theorem RepZ.repC{x:Value}{e:AV}(h:RepZ w M x e)(ho:e.one=true)(n:Nat):RepC w M loc n x e:=
 ⟨.inl h,AV.idLt_of_one ho (by cases h<;>first|rfl|simp[AV.one]at ho) n,by cases h<;>first|rfl|simp[AV.one]at ho⟩
theorem RepB.repC{n:Nat}{x:Value}{e:AV}(h:RepB w M loc x e)(ho:e.one=true)(hi:∀id∈e.idB,id<n):RepC w M loc n x e:=by
 have hf:e.flatB=true:=by cases e<;>first|rfl|simp[AV.one]at ho
 exact⟨h,mK hi hf,hf⟩
theorem RepC.one{n:Nat}(h1:∀id,id<n→(loc id).oneCell'=true){x:Value}{e:AV}(h:RepC w M loc n x e)(ho:e.one=true):x.oneCell'=true:=by
 rcases h.1 with hz|hz
 ·exact hz.one ho
 ·exact hz.one h1 h.2.1
theorem RR.plain{X:Ctx}{st:St}{a:Act}(h:RR X M loc st a w){x:Value}{e:AV}(hr:Rep w M loc x e)(hi:e.idLt st.heap.length)(hp:e.plain=true):
  x.cells.size=e.flat.length∧(∀(j:Nat) (c:AV),e.flat[j]? =some c→∃y,x.cells[j]? =some y∧RepC w M loc st.heap.length y c)∧∀y∈x.cells.toList,y.oneCell'=true:=by
 have own:RepO loc x e→e.flat=[e]→x.cells.size=e.flat.length∧(∀(j:Nat) (c:AV),e.flat[j]? =some c→∃y,x.cells[j]? =some y∧RepC w M loc st.heap.length y c)∧∀y∈x.cells.toList,y.oneCell'=true:=by
  intro ho hf
  have h1:=ho.one h.one hi
  have hx:x.cells= #[x]:=by cases x<;>simp[Value.cells,Value.oneCell']at*
  rw[hx,hf]
  refine⟨rfl,fun j c hc=>?_,fun y hy=>?_⟩
  ·cases j with
   |zero=>simp at hc;subst hc;exact⟨x,rfl,.inr ho,hi,by cases e<;>first|rfl|exact ho.elim⟩
   |succ j=>simp at hc
  ·simp at hy;subst hy;exact h1
 by_cases hag:∃cs,e=.agg cs
 ·obtain⟨cs,rfl⟩:=hag
  obtain⟨ca,rfl,hl,hc⟩:=hr.agg_inv
  simp only[AV.plain,List.all_eq_true]at hp
  have hcc:∀(j:Nat) (c:Value) (e:AV),ca[j]? =some c→cs[j]? =some e→RepC w M loc st.heap.length c e:=fun j c e h1 h2=>(hc j c e h1 h2).repC (hp e (List.mem_of_getElem? h2)) (hi e (List.mem_of_getElem? h2))
  refine⟨hl,fun j c hj=>?_,fun y hy=>?_⟩
  ·have hjl:j<ca.size:=by rw[hl];exact(List.getElem?_eq_some_iff.1 hj).1
   exact⟨ca[j],Array.getElem?_eq_getElem hjl,hcc j _ c (Array.getElem?_eq_getElem hjl) hj⟩
  ·simp only[Value.cells]at hy
   obtain⟨j,hj,rfl⟩:=List.getElem_of_mem hy
   simp only[Array.length_toList]at hj
   have hj':j<cs.length:=by rw[←hl];exact hj
   simpa using(hcc j ca[j] cs[j] (Array.getElem?_eq_getElem hj) (List.getElem?_eq_getElem hj')).one h.one (hp _ (List.getElem_mem hj'))
 by_cases hz:e.zone=true
 ·obtain⟨h1,h2,h3⟩:=(hr.repZ hz).plain hp
  refine⟨h1,fun j c hc=>?_,h3⟩
  obtain⟨y,hy,hr⟩:=h2 j c hc
  refine⟨y,hy,hr.repC ?_ _⟩
  cases e with
  |agg cs=>simp only[AV.plain,List.all_eq_true]at hp;exact hp c (List.mem_of_getElem? hc)
  |_=>
   simp only[AV.flat]at hc
   cases j with
   |zero=>simp at hc;subst hc;exact hp
   |succ j=>simp at hc
 ·cases e with
  |ow id=>exact own hr rfl
  |el a b c d=>exact own hr rfl
  |wn a b c d=>exact own hr rfl
  |fn a b c=>simp[AV.plain,AV.one]at hp
  |mb a b=>simp[AV.plain,AV.one]at hp
  |tup a=>simp[AV.plain,AV.one]at hp
  |agg a=>exact(hag ⟨_,rfl⟩).elim
  |_=>exact absurd rfl hz
theorem nM{row:Option Nat}{b:Nat}(h:∀g,row=some g→¬M g)(hb:M b):some b≠row:=fun e=>h b e.symm hb
theorem ObjOK.kept{X:Ctx}{sv:Value}{o:Ob}{row:Option Nat}{loc loc':Nat→Value}{n n':Nat}(h:ObjOK X.own w M loc n sv o)(hg:w.grownBy w' row)(hne:sv.ownBlock=none∨sv.ownBlock≠row)
  (hM:∀g,row=some g→¬M g) (hlt:∀b,M b→b<w.heap.size) (hl:∀id,id<n→loc' id=loc id) (hn:n≤n'):ObjOK X.own w' M loc' n' sv o where
 own:=by
  obtain⟨xs,h1,h2⟩:=h.own
  refine⟨xs,h1.kept hg hne,fun j e he=>?_⟩
  obtain⟨x,hx,hr⟩:=h2 j e he
  exact⟨x,hx,hr.mono (fun b hb=>hg.block b (hlt b hb) (nM hM hb)) (fun _ hb=>hb) hl hn⟩
 flat:=h.flat
 away:=h.away
 mine:=h.mine
theorem lV{H:List Cell}{o:Ob}{id:Nat}{m:MOb}(h:(H++[.row o])[id]? =some (.map m)):H[id]? =some (.map m):=by
 by_cases hid:id<H.length
 ·rwa [List.getElem?_append_left hid]at h
 ·rw[List.getElem?_append_right (by omega)]at h
  have:id-H.length=0:=by
   have:=(List.getElem?_eq_some_iff.1 h).1
   simp at this;omega
  rw[this]at h;simp at h
theorem map_set{H:List Cell}{c:Cell}{id i:Nat}{m:MOb}(hc:∀m,c≠.map m)(h:(H.set i c)[id]? =some (.map m)):H[id]? =some (.map m):=by
 rw[List.getElem?_set]at h
 split at h
 ·split at h
  ·exact absurd (Option.some.inj h) (hc m)
  ·cases h
 ·exact h
theorem bG{w:World}{base E k n:Nat}{sv:Value}{xs:List Value}(h:w.ownsRow base E k sv n xs)(g:Nat)(hg:sv.ownBlock=some g):∃cs t fr,w.heap[g]? =some (.cells cs t fr):=by
 rcases h.2 with⟨rfl,_⟩|⟨g',cap,cur,rfl,_,hh,_⟩
 ·simp[Value.ownBlock]at hg
 ·simp[Value.ownBlock]at hg;subst hg;exact⟨_,_,_,hh⟩
theorem RR.change{X:Ctx}{st:St}{a:Act}(h:RR X M loc st a w){row:Option Nat}(hg:w.grownBy w' row)(hrow:∀g,row=some g→¬M g∧X.own g)
  (c:Nat) (sv:Value) (o':Ob) (H':List Cell)
  (hold:∀id o,id≠c→H'[id]? =some (.row o)→st.heap[id]? =some (.row o)∧((loc id).ownBlock=none∨(loc id).ownBlock≠row)∧((loc id).ownBlock=none∨(loc id).ownBlock≠sv.ownBlock))
  (hnew:ObjOK X.own w' M (fun id=>if id=c then sv else loc id) H'.length sv o') (hc:H'[c]? =some (.row o')) (hlen:st.heap.length≤H'.length) (hloc:c<st.heap.length→sv=loc c)
  (hrc:∀g,row=some g→∃cs t fr,w.heap[g]? =some (.cells cs t fr)) (hmap:∀(id:Nat) (m:MOb),H'[id]? =some (.map m)→st.heap[id]? =some (.map m)) (hlt:∀id,id≠c→id<H'.length→id<st.heap.length):
  RR X M (fun id=>if id=c then sv else loc id) {st with heap:=H'} a w' where
 env:=by
  intro s
  refine Rep.mono (n:=st.heap.length) (fun b hb=>hg.block b (h.zone b hb).1 (nM (fun g e=>(hrow g e).1) hb)) (fun _ hb=>hb) (fun id hid=>?_) (h.env s) (h.ids s)
  split
  ·rename_i e;subst e;exact hloc hid
  ·rfl
 nle:=h.nle
 one:=by
  intro id hid
  show Value.oneCell' (if id=c then sv else loc id)=true
  split
  ·obtain⟨xs,hown,_⟩:=hnew.own
   rcases hown.2 with⟨rfl,_⟩|⟨g,cap,cur,rfl,_⟩<;>rfl
  ·rename_i hne;exact h.one id (hlt id hne hid)
 size:=h.size
 defers:=h.defers
 obj:=by
  intro id o ho
  by_cases hid:id=c
  ·subst hid
   have:o=o':=by rw[hc]at ho;simpa using ho.symm
   subst this
   rw[if_pos rfl];exact hnew
  ·rw[if_neg hid]
   obtain⟨h1,h2,h3⟩:=hold id o hid ho
   refine(h.obj id o h1).kept hg h2 (fun g e=>(hrow g e).1) (fun b hb=>(h.zone b hb).1) (fun i hi=>?_) hlen
   split
   ·rename_i e;subst e;exact hloc hi
   ·rfl
 sep:=by
  intro i j oi oj hij hi hj
  by_cases hic:i=c
  ·subst hic
   rw[if_pos rfl,if_neg (fun e=>hij e.symm)]
   obtain⟨_,_,h3⟩:=hold j oj (fun e=>hij e.symm) hj
   rcases h3 with h3|h3
   ·cases hs:sv.ownBlock with
    |none=>exact .inl rfl
    |some b=>right;rw[h3];simp
   ·exact .inr (fun e=>h3 e.symm)
  ·rw[if_neg hic]
   by_cases hjc:j=c
   ·subst hjc
    rw[if_pos rfl]
    exact(hold i oi hic hi).2.2
   ·rw[if_neg hjc]
    exact h.sep i j oi oj hij (hold i oi hic hi).1 (hold j oj hjc hj).1
 mobj:=by
  intro id m hm
  have hm0:=hmap id m hm
  have hid:id≠c:=by rintro rfl;rw[hc]at hm;cases hm
  rw[if_neg hid]
  obtain⟨g,es,clock,h1,h2,h3,h4,h5⟩:=(h.mobj id m hm0).own
  have hgl:g<w.heap.size:=(Array.getElem?_eq_some_iff.1 h4).1
  refine⟨g,es,clock,h1,h2,h3,?_,h5.mono (fun b hb=>hg.block b (h.zone b hb).1 (nM (fun g e=>(hrow g e).1) hb)) (fun _ hb=>hb)⟩
  rw[hg.block g hgl (fun e=>by
   obtain⟨cs,t,fr,hcells⟩:=hrc g e.symm
   rw[h4]at hcells;cases hcells)]
  exact h4
 msep:=by
  intro i j mi mj hij hi hj
  have hic:i≠c:=by rintro rfl;rw[hc]at hi;cases hi
  have hjc:j≠c:=by rintro rfl;rw[hc]at hj;cases hj
  rw[if_neg hic,if_neg hjc]
  exact h.msep i j mi mj hij (hmap i mi hi) (hmap j mj hj)
 below:=⟨hg.os.trans h.below.os,hg.tape.trans h.below.tape,hg.output.trans h.below.output,Nat.le_trans h.below.size hg.size,fun k hk hT=>by
  rw[hg.block k (Nat.lt_of_lt_of_le hk h.below.size) (fun e=>by
   rcases(hrow k e.symm).2 with h1|h1
   ·omega
   ·exact hT h1)]
  exact h.below.block k hk hT⟩
 zone:=fun b hb=>⟨Nat.lt_of_lt_of_le (h.zone b hb).1 hg.size,(h.zone b hb).2⟩
 zin:=h.zin
 zlt:=h.zlt
 ids:=fun s=>AV.idLt_up hlen (h.ids s)
theorem RR.newRow{X:Ctx}{st:St}{a:Act}(h:RR X M loc st a w)(E k:Nat)(es:List AV)(cs:Array Value)(hflat:∀e∈es,e.flat.length=k)(hlen:cs.size=es.length*k)
  (hrep:∀(j:Nat) (e:AV),(es.flatMap AV.flat)[j]? =some e→∃x,cs[j]? =some x∧RepC w M loc st.heap.length x e) (hmax:es.length≤maxLen):
  RR X M (fun id=>if id=st.heap.length then .slice (some ⟨w.heap.size,0,none⟩) es.length es.length else loc id) {st with heap:=st.heap++[.row ⟨E,k,es⟩]} a (w.alloc (.cells cs E)):=by
 have hg:w.grownBy (w.alloc (.cells cs E)) none:=World.grownBy_alloc w _ none
 refine h.change hg (fun g e=>by cases e) st.heap.length _ ⟨E,k,es⟩ _ (fun id o hid ho=>?_) ?_ (by simp) (by simp) (fun h=>absurd h (by omega)) (fun g e=>by cases e) (fun id m hm=>lV hm) (fun id hid hl=>by simp at hl;omega)
 ·have hid':id<st.heap.length:=by
   have:=(List.getElem?_eq_some_iff.1 ho).1
   simp at this;omega
  rw[List.getElem?_append_left hid']at ho
  refine⟨ho,?_,?_⟩
  ·cases(loc id).ownBlock<;>simp
  ·obtain⟨xs,hown,_⟩:=(h.obj id o ho).own
   cases hb:(loc id).ownBlock with
   |none=>exact .inl rfl
   |some b=>
    right
    have:=(hown.lt b hb).2
    simp only[Value.ownBlock,ne_eq,Option.some.injEq]
    omega
 ·refine⟨⟨cs.toList,World.ownsRow_lit w cs es.length (Nat.zero_le _) hmax hlen,fun j e he=>?_⟩,hflat,fun g hg'=>?_,fun g hg'=>?_⟩
  ·obtain⟨x,hx,hr⟩:=hrep j e he
   refine⟨x,by simpa using hx,hr.mono (fun b hb=>Below.heap_alloc w _ b (h.zone b hb).1) (fun _ hb=>hb) (fun i hi=>if_neg (by omega)) (by simp)⟩
  ·simp only[Value.ownBlock,Option.some.injEq]at hg'
   subst hg'
   intro hm
   have:=(h.zone _ hm).1
   omega
  ·simp only[Value.ownBlock,Option.some.injEq]at hg'
   subst hg'
   exact .inl h.below.size
def splice(cells:List AV)(o:Nat)(xs:List AV):List AV:=cells.take o++xs++cells.drop (o+xs.length)
theorem kZ(off:Nat):∀(l:List Value) (s:Nat) (cells:Array Value),off+s+l.length≤cells.size→
  ((l.zipIdx s).foldl (fun(cs:Array Value) (p:Value×Nat)=>cs.setIfInBounds (off+p.2) p.1) cells).toList=cells.toList.take (off+s)++l++cells.toList.drop (off+s+l.length)
 | [],s,cells,_=>by simp
 |v::l,s,cells,h=>by
  simp only[List.zipIdx_cons,List.foldl_cons]
  rw[kZ off l (s+1) _ (by simp at h⊢;omega),Array.toList_setIfInBounds]
  have:=list_seg_step cells.toList (off+s) v l (by simp at h⊢;omega)
  simpa[Nat.add_assoc]using this
theorem pM{vN:Nat→Option (Nat×Nat)}{cells:Array Value}{i off:Nat}{v:Value}{rest:List (Nat×Value)}(hp:vN i=some (off,v.cells.size))(hb:off+v.cells.size≤cells.size):
  Instr.fill vN cells ((i,v)::rest)=Instr.fill vN (cells.toList.take off++v.cells.toList++cells.toList.drop (off+v.cells.size)).toArray rest:=by
 simp only[Instr.fill,hp]
 rw[if_neg (by simp;omega)]
 congr 1
 apply Array.ext'
 have:=kZ off v.cells.toList 0 cells (by simpa using hb)
 simp only[Nat.add_zero,Array.length_toList]at this
 rw[←this]
 congr 1
 rw[←Array.foldl_toList,Array.toList_zipIdx]
def RepL(R:Value→AV→Prop)(cs:List Value)(es:List AV):Prop:=cs.length=es.length∧∀(j:Nat) (c:Value) (e:AV),cs[j]? =some c→es[j]? =some e→R c e
theorem RepL.splice{R:Value→AV→Prop}{cs:List Value}{es:List AV}(h:RepL R cs es){vs:List Value}{xs:List AV}(h':RepL R vs xs){o:Nat}(ho:o+xs.length≤es.length):
  RepL R (cs.take o++vs++cs.drop (o+vs.length)) (splice es o xs):=by
 have hl:=h.1
 have hl':=h'.1
 refine⟨by simp[Ab.splice,hl,hl'],fun j c e hc he=>?_⟩
 unfold Ab.splice at he
 by_cases h1:j<o
 ·rw[List.append_assoc,List.getElem?_append_left (by simp;omega),List.getElem?_take,if_pos h1]at hc he
  exact h.2 j c e hc he
 ·by_cases h2:j<o+xs.length
  ·rw[List.append_assoc,List.getElem?_append_right (by simp;omega),List.getElem?_append_left (by simp;omega)]at hc he
   have e1:(cs.take o).length=o:=by simp;omega
   have e2:(es.take o).length=o:=by simp;omega
   rw[e1]at hc;rw[e2]at he
   exact h'.2 _ c e hc he
  ·rw[List.getElem?_append_right (by simp;omega),List.getElem?_drop]at hc he
   have e1:o+vs.length+(j-(cs.take o++vs).length)=j:=by simp;omega
   have e2:o+xs.length+(j-(es.take o++xs).length)=j:=by simp;omega
   rw[e1]at hc;rw[e2]at he
   exact h.2 j c e hc he
theorem RR.cellsC{X:Ctx}{st:St}{a:Act}(h:RR X M loc st a w){x:Value}{e:AV}(hr:Rep w M loc x e)(hi:e.idLt st.heap.length)(hp:e.plain=true):RepL (RepC w M loc st.heap.length) x.cells.toList e.flat:=by
 obtain⟨h1,h2,_⟩:=h.plain hr hi hp
 refine⟨by simpa using h1,fun j c e' hc he=>?_⟩
 obtain⟨y,hy,hr⟩:=h2 j e' he
 have:c=y:=by
  simp only[Array.getElem?_toList]at hc
  rw[hc]at hy;exact Option.some.inj hy
 rw[this];exact hr
def fillA(P:Program)(fs:List (Nat×Nat))(ρ:Operand→AV):List (Nat×Operand)→List AV→Option (Prop×List AV)
 | [],cells=>some (True,cells)
 |(i,x)::r,cells=>match fs[i]? with
  |some (o,t)=>match tyk P t with
   |some T=>match fillA P fs ρ r (splice cells o (ρ x).flat)with
    |some (p,cs)=>some (((ρ x).plain=true∧(ρ x).flat.length=T.cells∧o+T.cells≤cells.length)∧p,cs)
    |none=>none
   |none=>none
  |none=>none
def bldOK(P:Program)(t:Nat):Bool:=
 match P.underlying t with
 |some (.struct fs)=>(fs.toList.mapM (fun f=>(P.info? f.type).map fun i=>(f.offset,i.size))).isSome
 |_=>false
def buildA(P:Program)(ρ:Operand→AV)(t:Nat)(parts:List (Nat×Operand)):Option (Prop×AV):=
 match tyk P t with
 |some ⟨.struct fs,_,_,.agg z⟩=>match fillA P fs ρ parts z with
  |some (p,cs)=>some ((bldOK P t=true∧z.all AV.one=true)∧p,.agg cs)
  |none=>none
 |some ⟨.arr m e,_,_,.agg z⟩=>match tyk P e with
  |some E=>if parts.map (fun p=>p.1)=List.range m∧z.length=m*E.cells then some (∀x∈parts.map (fun p=>ρ p.2),x.plain=true∧x.flat.length=E.cells,.agg ((parts.map fun p=>ρ p.2).flatMap AV.flat))else none
  |none=>none
 |_=>none
theorem nN{P:Program}:∀{fields:List Field} {places:List (Nat×Nat)},fields.mapM (fun f=>(P.info? f.type).map fun i=>(f.offset,i.size))=some places→
  ∀(i:Nat) (f:Field) (inf:TypeInfo),fields[i]? =some f→P.info? f.type=some inf→places[i]? =some (f.offset,inf.size)
 | [],places,hpl,i,f,inf,h,hi=>by simp at h
 |g::gs,places,hpl,i,f,inf,h,hi=>by
  simp only[List.mapM_cons,Option.bind_eq_bind,Option.pure_def]at hpl
  cases hg:P.info? g.type with
  |none=>simp[hg]at hpl
  |some ig=>
   cases hr:gs.mapM (fun f=>(P.info? f.type).map fun i=>(f.offset,i.size))with
   |none=>simp[hg,hr]at hpl
   |some rest=>
    simp[hg,hr]at hpl
    subst hpl
    cases i with
    |zero=>simp at h;subst h;rw[hg]at hi;cases hi;rfl
    |succ i=>exact nN hr i f inf (by simpa using h) hi
theorem DS{X:Ctx}{st:St}{a:Act}(h0:RR X M loc st a w){ρ:Operand→AV}{fields:List Field}{places:List (Nat×Nat)}(hpl:fields.mapM (fun f=>(P.info? f.type).map fun i=>(f.offset,i.size))=some places):
  ∀(parts:List (Nat×Operand)) (cs:Array Value) (cells:List AV) (p:Prop) (r:List AV),(∀(x:Nat×Operand),x∈parts→Rep w M loc (a.eval x.2) (ρ x.2)∧(ρ x.2).idLt st.heap.length)→
  fillA P (fields.map fun f=>(f.offset,f.type)) ρ parts cells=some (p,r)→p→RepL (RepC w M loc st.heap.length) cs.toList cells→
  ∃cs',Instr.fill (places.toArray[·]?) cs (parts.map fun(i,x)=>(i,a.eval x))=some cs'∧RepL (RepC w M loc st.heap.length) cs'.toList r:=by
 have hplace:=nN hpl
 intro parts
 induction parts with
 |nil=>
  intro cs cells p r _ h hp hr
  simp only[fillA,Option.some.injEq,Prod.mk.injEq]at h
  obtain⟨-,rfl⟩:=h
  exact⟨cs,rfl,hr⟩
 |cons ix rest ih=>
  obtain⟨i,x⟩:=ix
  intro cs cells p r hρ h hp hr
  simp only[fillA]at h
  split at h
  ·rename_i o t hf
   split at h
   ·rename_i T hT
    split at h
    ·rename_i p' cs1 hrest
     simp only[Option.some.injEq,Prod.mk.injEq]at h
     obtain⟨rfl,rfl⟩:=h
     obtain⟨⟨hpl1,hfl,hoc⟩,hp'⟩:=hp
     obtain⟨inf,d,z,g1,g2,g3,rfl⟩:=aH hT
     simp only[List.getElem?_map]at hf
     cases hfi:fields[i]? with
     |none=>simp[hfi]at hf
     |some f=>
      simp only[hfi,Option.map_some,Option.some.injEq,Prod.mk.injEq]at hf
      obtain⟨rfl,rfl⟩:=hf
      have hpi:=hplace i f inf hfi g1
      have hx:=hρ (i,x) (by simp)
      have hcl:=h0.cellsC hx.1 hx.2 hpl1
      obtain⟨hs1,_,_⟩:=h0.plain hx.1 hx.2 hpl1
      have hsz:(a.eval x).cells.size=inf.size:=by rw[hs1,hfl]
      have hlen:cs.size=cells.length:=by have:=hr.1;simpa using this
      have hnew:=hr.splice hcl (o:=f.offset) (by rw[hfl];exact hoc)
      obtain⟨cs',h1,h2⟩:=ih (cs.toList.take f.offset++(a.eval x).cells.toList++cs.toList.drop (f.offset+(a.eval x).cells.size)).toArray _ p' cs1 (fun y hy=>hρ y (by simp[hy])) hrest hp' (by simpa using hnew)
      refine⟨cs',?_,h2⟩
      simp only[List.map_cons]
      rw[pM (off:=f.offset) (by simp[hpi,hsz]) (by rw[hsz,hlen];exact hoc)]
      exact h1
    ·cases h
   ·cases h
  ·cases h
theorem tN(n:Nat)(z:Value){zs:List AV}(h:zeroOf z=.agg zs)(hp:zs.all AV.one=true):RepL (RepC w M loc n) z.cells.toList zs:=by
 rw[List.all_eq_true]at hp
 have hr:=cL (w:=w) (M:=M) z
 rw[h]at hr
 cases hr with
 |agg cs es hl hr=>exact⟨by simpa[Value.cells]using hl,fun j c e h1 h2=>(hr j c e (by simpa[Value.cells]using h1) h2).repC (hp e (List.mem_of_getElem? h2)) n⟩
theorem RepL.append{R:Value→AV→Prop}{as bs:List Value}{xs ys:List AV}(h:RepL R as xs)(h':RepL R bs ys):RepL R (as++bs) (xs++ys):=by
 refine⟨by simp[h.1,h'.1],fun j c e hc he=>?_⟩
 by_cases hj:j<as.length
 ·rw[List.getElem?_append_left hj]at hc
  rw[List.getElem?_append_left (by rw[←h.1];exact hj)]at he
  exact h.2 j c e hc he
 ·rw[List.getElem?_append_right (by omega)]at hc
  rw[List.getElem?_append_right (by rw[←h.1];omega)]at he
  rw[←h.1]at he
  exact h'.2 _ c e hc he
theorem nO{X:Ctx}{st:St}{a:Act}(h:RR X M loc st a w)(ρ:Operand→AV)(k:Nat)(cap:Nat):∀(ps:List (Nat×Operand)) (s:Nat) (cs:Array Value),ps.map (fun p=>p.1)=(List.range' s ps.length)→cs.size=cap*k→s+ps.length≤cap→
  (∀p∈ps,Rep w M loc (a.eval p.2) (ρ p.2)∧(ρ p.2).idLt st.heap.length∧(ρ p.2).plain=true∧(ρ p.2).flat.length=k)→
  ∃cs' vs,Instr.fill (fun i=>some (i*k,k)) cs (ps.map fun(i,x)=>(i,a.eval x))=some cs'∧cs'.size=cs.size∧cs'.toList=cs.toList.take (s*k)++vs++cs.toList.drop ((s+ps.length)*k)∧RepL (RepC w M loc st.heap.length) vs ((ps.map fun p=>ρ p.2).flatMap AV.flat)
 | [],s,cs,_,hcs,hcap,_=>⟨cs,[],rfl,rfl,by simp,by simp[RepL]⟩
 |(i,x)::ps,s,cs,hi,hcs,hcap,hp=>by
  simp only[List.map_cons,List.length_cons,List.range'_succ,List.cons.injEq]at hi
  obtain⟨rfl,hi⟩:=hi
  obtain⟨hr,hil,hpl,hf⟩:=hp (i,x) (by simp)
  simp only[List.length_cons]at hcap
  have hcl:=h.cellsC hr hil hpl
  obtain⟨hs1,_,_⟩:=h.plain hr hil hpl
  have hsz:(a.eval x).cells.size=k:=by rw[hs1];exact hf
  have hbound:i*k+k≤cap*k:=by
   have:(i+1)*k≤cap*k:=Nat.mul_le_mul_right _ (by omega)
   rw[Nat.succ_mul]at this;exact this
  obtain⟨cs',vs,h1,h2,h3,h4⟩:=nO h ρ k cap ps (i+1) (cs.toList.take (i*k)++(a.eval x).cells.toList++cs.toList.drop (i*k+(a.eval x).cells.size)).toArray hi (by simp;omega) (by omega) (fun p hp'=>hp p (by simp[hp']))
  have hl1:(cs.toList.take (i*k)).length=i*k:=by simp;omega
  have hl2:(a.eval x).cells.toList.length=k:=by simpa using hsz
  refine⟨cs',(a.eval x).cells.toList++vs,?_,?_,?_,?_⟩
  ·simp only[List.map_cons]
   rw[pM (off:=i*k) (by rw[hsz]) (by rw[hsz,hcs];exact hbound)]
   exact h1
  ·rw[h2];simp;omega
  ·simp only[List.toList_toArray]at h3
   rw[h3]
   have e1:(i+1)*k=i*k+k:=by rw[Nat.succ_mul]
   have e2:(i+1+ps.length)*k=(i*k+k)+ps.length*k:=by rw[Nat.add_mul,e1]
   have e3:(i+(ps.length+1))*k=(i*k+k)+ps.length*k:=by rw[←e2];congr 1;omega
   simp only[List.length_cons]
   rw[e1,e2,e3,hsz]
   have t1:(cs.toList.take (i*k)++(a.eval x).cells.toList++cs.toList.drop (i*k+k)).take (i*k+k)=cs.toList.take (i*k)++(a.eval x).cells.toList:=by
    rw[List.take_append_of_le_length (by simp only[List.length_append,hl1,hl2];exact Nat.le_refl _)]
    exact List.take_of_length_le (by simp only[List.length_append,hl1,hl2];exact Nat.le_refl _)
   have t2:(cs.toList.take (i*k)++(a.eval x).cells.toList++cs.toList.drop (i*k+k)).drop (i*k+k+ps.length*k)=cs.toList.drop (i*k+k+ps.length*k):=by
    rw[List.drop_append,List.drop_eq_nil_of_le (by simp only[List.length_append,hl1,hl2];omega),List.nil_append,List.drop_drop]
    congr 1
    simp only[List.length_append,hl1,hl2]
    omega
   rw[t1,t2]
   simp only[List.append_assoc]
  ·simp only[List.map_cons,List.flatMap_cons]
   exact hcl.append h4
theorem yR{X:Ctx}{st:St}{a:Act}(h0:RR X M loc st a w){ρ:Operand→AV}{t:Nat}{parts:Array (Nat×Operand)}(hρ:∀x∈parts.toList,Rep w M loc (a.eval x.2) (ρ x.2)∧(ρ x.2).idLt st.heap.length){p:Prop}{r:AV}
  (h:buildA P ρ t parts.toList=some (p,r)) (hp:p):PurOK P w M loc (Instr.build t (parts.map fun(i,x)=>(i,a.eval x))) r:=by
 unfold buildA at h
 split at h
 ·rename_i fs n b z hT
  split at h
  ·rename_i p' cs hf
   simp only[Option.some.injEq,Prod.mk.injEq]at h
   obtain⟨rfl,rfl⟩:=h
   obtain⟨⟨hb,hzo⟩,hp'⟩:=hp
   obtain⟨i,d,z',g1,g2,g3,g4⟩:=aH hT
   obtain⟨fa,rfl,hfs⟩:=dM (d:=d) (by have:=congrArg TK.k g4;exact this.symm)
   unfold bldOK at hb
   simp only[g2]at hb
   obtain⟨places,hpl⟩:=Option.isSome_iff_exists.1 hb
   have hz:zeroOf z'=.agg z:=by have:=congrArg TK.zero g4;exact this.symm
   rw[hfs]at hf
   obtain⟨cs',h1,h2⟩:=DS (P:=P) (w:=w) (M:=M) (loc:=loc) h0 (ρ:=ρ) hpl parts.toList z'.cells z p' cs hρ hf hp' (tN _ z' hz hzo)
   refine⟨.agg cs',run_build w t _ cs' ?_,⟨_,rfl,by simpa using h2.1,fun j c e hc he=>(h2.2 j c e (by simpa using hc) he).1⟩⟩
   unfold Program.built
   simp only[g1,g2,g3,hpl]
   simpa using h1
  ·cases h
 ·rename_i m e _ _ z hT
  split at h
  ·rename_i E hE
   split at h
   ·rename_i hc
    obtain⟨hc,hzl⟩:=hc
    simp only[Option.some.injEq,Prod.mk.injEq]at h
    obtain⟨rfl,rfl⟩:=h
    obtain⟨i1,d,z',g1,g2,g3,g4⟩:=aH hT
    obtain⟨i2,d2,z2,e1,e2,e3,rfl⟩:=aH hE
    have:=qG (d:=d) (by have:=congrArg TK.k g4;exact this.symm)
    subst this
    have hz:zeroOf z'=.agg z:=by have:=congrArg TK.zero g4;exact this.symm
    have hzs:z'.cells.size=m*i2.size:=by
     have hr:=cL (w:=w) (M:=M) z'
     rw[hz]at hr
     cases hr with
     |agg cs es hl hr=>simp only[Value.cells];rw[hl];exact hzl
    have hlen:parts.toList.length=m:=by have:=congrArg List.length hc;simpa using this
    obtain⟨cs',vs,h1,h2,h3,h4⟩:=nO h0 ρ i2.size m parts.toList 0 z'.cells (by rw[hc,hlen,List.range_eq_range']) hzs (by omega)
     (fun q hq=>by
      obtain⟨q1,q2⟩:=hp (ρ q.2) (List.mem_map.2 ⟨q,hq,rfl⟩)
      exact⟨(hρ q hq).1,(hρ q hq).2,q1,q2⟩)
    have hvs:cs'.toList=vs:=by
     rw[h3]
     have:z'.cells.toList.drop ((0+parts.toList.length)*i2.size)=[]:=List.drop_eq_nil_of_le (by rw[Array.length_toList,hzs,hlen,Nat.zero_add];exact Nat.le_refl _)
     rw[this];simp
    rw[←hvs]at h4
    refine⟨.agg cs',run_build w t _ cs' ?_,⟨_,rfl,by simpa using h4.1,fun j c x hc hx=>(h4.2 j c x (by simpa using hc) hx).1⟩⟩
    unfold Program.built
    simp only[g1,g2,g3,e1]
    simpa using h1
   ·cases h
  ·cases h
 ·cases h
end
end Go.Ab
namespace Go.Ab
open Go.RowKit
def srcA(H:List Cell):AV→Option (Prop×List AV)
 | .sl es=>some (True,es)
 | .nil=>some (True,[])
 | .ow id=>match H[id]? with
   |some (.row o)=>some (True,o.es)
   |_=>none
 | .wn id k lo n=>match H[id]? with
   |some (.row o)=>some (k=o.k∧lo+n≤o.es.length,(o.es.drop lo).take n)
   |_=>none
 |_=>none
def AV.isAgg:AV→Bool
 | .agg _=>true
 |_=>false
def setE(e:AV)(off:Nat)(x:AV):AV:=
 match e with
 | .agg cs=>.agg (splice cs off x.flat)
 |_=>x
def appA(P:Program)(H:List Cell)(t:Nat)(s x:AV):Option (Prop×AV×List Cell):=
 match tyk P t with
 |some ⟨.slice e,_,_,_⟩=>match tyk P e,srcA H x with
  |some T,some (q,news)=>match s with
   | .nil=>some (q∧(news.length*T.bytes≤140737488355328∧news.length≤maxLen)∧T.zero.flat.length=T.cells∧0<T.cells∧∀n∈news,n.plain=true∧n.flat.length=T.cells,.ow H.length,H++[.row ⟨e,T.cells,news⟩])
   | .ow id=>match H[id]? with
     |some (.row o)=>some (q∧(((o.es.length+news.length)*T.bytes≤140737488355328∧o.es.length+news.length≤maxLen)∧T.zero.flat.length=T.cells∧0<T.cells∧∀n∈news,n.plain=true∧n.flat.length=T.cells)∧o.E=e∧o.k=T.cells,
       .ow H.length,H.set id .dead++[.row ⟨e,T.cells,o.es++news⟩])
     |_=>none
   | .wn id k lo n=>match H[id]? with
     |some (.row o)=>if lo=0∧n≤o.es.length∧k=o.k then some (q∧(((n+news.length)*T.bytes≤140737488355328∧n+news.length≤maxLen)∧T.zero.flat.length=T.cells∧0<T.cells∧∀m∈news,m.plain=true∧m.flat.length=T.cells)∧o.E=e∧o.k=T.cells,
       .ow H.length,H.set id .dead++[.row ⟨e,T.cells,o.es.take n++news⟩])else none
     |_=>none
   |_=>none
  |_,_=>none
 |_=>none
def clrA(P:Program)(H:List Cell)(t:Nat)(s:AV):Option (Prop×AV×List Cell):=
 match tyk P t,s with
 |some ⟨.slice e,_,_,_⟩,.wn id k lo n=>match tyk P e,H[id]? with
  |some T,some (.row o)=>some ((k=o.k∧lo+n≤o.es.length)∧T.zero.plain=true∧T.zero.flat.length=o.k,.tup [],H.set id (.row ⟨o.E,o.k,o.es.take lo++List.replicate n T.zero++o.es.drop (lo+n)⟩))
  |_,_=>none
 |_,_=>none
def winOf(H:List Cell):AV→Option (Nat×Nat×Nat×Ob×Prop)
 | .ow id=>match H[id]? with
   |some (.row o)=>some (id,0,o.es.length,o,True)
   |_=>none
 | .wn id k lo n=>match H[id]? with
   |some (.row o)=>some (id,lo,n,o,k=o.k∧lo+n≤o.es.length)
   |_=>none
 |_=>none
def cpyA(P:Program)(H:List Cell)(t:Nat)(s x:AV):Option (Prop×AV×List Cell):=
 match tyk P t with
 |some ⟨.slice e,_,_,_⟩=>match tyk P e,winOf H s,srcA H x with
  |some T,some (id,lo,n,o,p),some (q,news)=>some ((p∧q)∧(o.k=1∧T.cells=1)∧∀m∈news,m.plain=true∧m.flat.length=1,
    .v (.int .i64 (min news.length n:Nat)),H.set id (.row ⟨o.E,o.k,o.es.take lo++news.take (min news.length n)++o.es.drop (lo+min news.length n)⟩))
  |_,_,_=>none
 |_=>none
def growA(P:Program)(H:List Cell)(t t':Nat)(s x:AV):Option (Prop×AV×List Cell):=
 match tyk P t,tyk P t',s,x with
 |some ⟨.slice e,_,_,_⟩,some ⟨.int _,_,_,_⟩,.nil,.v (.int .i64 n)=>match tyk P e with
  |some T=>some ((0<n∧n≤1000000000∧T.bytes=8)∧T.cells=1∧T.zero.one=true,.ow H.length,H++[.row ⟨e,T.cells,List.replicate n.toNat T.zero⟩])
  |none=>none
 |_,_,_,_=>none
def eff(P:Program)(H:List Cell)(ρ:Operand→AV):Op→Option (Prop×AV×List Cell)
 | .alloc e=>match tyk P e with
   |some T=>some (T.zero.flat.length=T.cells,.el H.length T.cells 0 0,H++[.row ⟨e,T.cells,[T.zero]⟩])
   |none=>none
 | .box e x=>match tyk P e with
   |some T=>some ((ρ x).plain=true∧(ρ x).flat.length=T.cells,.el H.length T.cells 0 0,H++[.row ⟨e,T.cells,[ρ x]⟩])
   |none=>none
 | .buildSlice t n parts=>match tyk P t with
   |some ⟨.slice e,_,_,_⟩=>match tyk P e with
    |some T=>if parts.toList.map (fun p=>p.1)=List.range n∧n*T.cells≤16777216∧n≤16777216 then
      some (T.zero.flat.length=T.cells∧∀x∈parts.toList.map (fun p=>ρ p.2),x.plain=true∧x.flat.length=T.cells,.ow H.length,H++[.row ⟨e,T.cells,parts.toList.map fun p=>ρ p.2⟩])else none
    |none=>none
   |_=>none
 | .makeSlice t l c=>match tyk P t,ρ l,ρ c with
   |some ⟨.slice e,_,_,_⟩,.v (.int _ n),.v (.int _ m)=>match tyk P e with
    |some T=>some ((n=m∧0≤n∧(T.bytes:Int)*n≤281474976710656∧n≤9223372036854775807)∧T.zero.flat.length=T.cells,.ow H.length,H++[.row ⟨e,T.cells,List.replicate n.toNat T.zero⟩])
    |none=>none
   |_,_,_=>none
 | .store t d x=>match tyk P t,ρ d with
   |some T,.el id k i off=>match H[id]? with
    |some (.row o)=>some (((ρ x).plain=true∧(ρ x).flat.length=T.cells)∧(k=o.k∧i<o.es.length∧off+T.cells≤k)∧((nth o.es i).isAgg=true∨off=0∧T.cells=k),
      .bad,H.set id (.row ⟨o.E,o.k,o.es.set i (setE (nth o.es i) off (ρ x))⟩))
    |_=>none
   |_,_=>none
 | .call c=>match c.callee,c.args.toList,c.argTypes.toList with
   | .builtin .append,[s,x],[t,t']=>if t=t' then appA P H t (ρ s) (ρ x)else growA P H t t' (ρ s) (ρ x)
   | .builtin .clear,[s],[t]=>clrA P H t (ρ s)
   | .builtin .copy,[s,x],[t,_]=>cpyA P H t (ρ s) (ρ x)
   |_,_,_=>none
 |_=>none
section
variable{P:Program}{w w':World}{M:Nat→Prop}{loc:Nat→Value}
def EffOK(P:Program)(X:Ctx)(st:St)(a:Act)(w:World)(M:Nat→Prop)(s:Sem Next)(r:AV)(H':List Cell):Prop:=
 ∃nx w' loc' v,s.run P w=.ok nx w'∧(nx=.value v∨nx=.skip∧v=undef)∧RR X M loc' {st with heap:=H'} a w'∧Rep w' M loc' v r∧r.idLt H'.length
theorem EffOK.lift{X:Ctx}{st:St}{a:Act}{s:Sem Value}{r:AV}{H':List Cell}{w':World}{loc':Nat→Value}{v:Value}
  (h1:s.run P w=.ok v w') (h2:RR X M loc' {st with heap:=H'} a w') (h3:Rep w' M loc' v r) (h4:r.idLt H'.length):
  EffOK P X st a w M (do pure (Next.value (←s))) r H':=
 ⟨.value v,w',loc',v,by simp only[Sem.run_bind,h1,Result.andThen_ok,Sem.run_pure],.inl rfl,h2,h3,h4⟩
theorem tO(e:AV):[e].flatMap AV.flat=e.flat:=by simp
theorem pN(x:Value):(ofV x).flatB=true:=by
 unfold ofV
 split
 ·rfl
 ·simp only[AV.flatB,List.all_eq_true]
  intro e he
  obtain⟨y,_,rfl⟩:=List.mem_map.1 he
  rfl
 ·rfl
theorem cR(n:Nat)(z:Value)(h:(zeroOf z).flat.length=z.cells.size→True):(zeroOf z).flat.length=z.cells.size∧∀(j:Nat) (e:AV),(zeroOf z).flat[j]? =some e→∃x,z.cells[j]? =some x∧RepC w M loc n x e:=by
 cases z with
 |agg cs=>
  have hl:(zeroOf (.agg cs))=.agg (cs.toList.map ofV):=rfl
  rw[hl]
  refine⟨by simp[AV.flat,Value.cells],fun j e he=>?_⟩
  simp only[AV.flat,List.getElem?_map,Array.getElem?_toList,Option.map_eq_some_iff]at he
  obtain⟨x,hx,rfl⟩:=he
  exact⟨x,hx,.inl (gU x),fV n x,pN x⟩
 |slice A n c=>
  have hf:(zeroOf (.slice A n c)).flat=[zeroOf (.slice A n c)]:=by
   unfold zeroOf ofV
   cases A<;>cases n<;>cases c<;>rfl
  rw[hf]
  refine⟨rfl,fun j e he=>?_⟩
  cases j with
  |zero=>simp at he;subst he;exact⟨_,rfl,.inl (cL _),fV _ (.slice A n c),pN (.slice A n c)⟩
  |succ j=>simp at he
 |_=>
  refine⟨rfl,fun j e he=>?_⟩
  cases j with
  |zero=>
   simp[zeroOf,ofV,AV.flat]at he
   subst he
   exact⟨_,rfl,.inl (RepZ.v _),trivial,rfl⟩
  |succ j=>simp[zeroOf,ofV,AV.flat]at he
theorem RR.newVar{X:Ctx}{st:St}{a:Act}(h:RR X M loc st a w)(E k:Nat)(e:AV)(cs:Array Value)(hk:e.flat.length=k)(hlen:cs.size=k)
  (hrep:∀(j:Nat) (e':AV),e.flat[j]? =some e'→∃x,cs[j]? =some x∧RepC w M loc st.heap.length x e') {s:Sem Value} (hs:s.run P w=.ok (.pointer (some ⟨w.heap.size,0,none⟩)) (w.alloc (.cells cs E))):
  EffOK P X st a w M (do pure (Next.value (←s))) (.el st.heap.length k 0 0) (st.heap++[.row ⟨E,k,[e]⟩]):=by
 have hr:=h.newRow E k [e] cs (by simpa using hk) (by simpa using hlen) (by rw[tO];exact hrep) (by unfold maxLen;simp)
 refine EffOK.lift hs hr ?_ (by simp[AV.idLt])
 exact⟨w.heap.size,1,1,by simp,by simp⟩
theorem tP{es:List AV}{k:Nat}(hk:∀e∈es,e.flat.length=k){i:Nat}(hi:i<es.length){e':AV}(he:e'.flat.length=k):
  (es.set i e').flatMap AV.flat=(es.flatMap AV.flat).take (i*k)++e'.flat++(es.flatMap AV.flat).drop (i*k+k):=by
 induction es generalizing i with
 |nil=>simp at hi
 |cons e es ih=>
  have h0:e.flat.length=k:=hk e (by simp)
  cases i with
  |zero=>
   simp only[List.set_cons_zero,List.flatMap_cons,Nat.zero_mul,List.take_zero,List.nil_append,Nat.zero_add]
   rw[List.drop_append,List.drop_eq_nil_of_le (by omega),List.nil_append,h0,Nat.sub_self,List.drop_zero]
  |succ i=>
   simp only[List.set_cons_succ,List.flatMap_cons]
   rw[ih (fun e he=>hk e (by simp[he])) (by simpa using hi)]
   have e1:(i+1)*k=e.flat.length+i*k:=by rw[Nat.succ_mul];omega
   rw[e1,Nat.add_assoc,List.take_length_add_append,List.drop_length_add_append]
   simp only[List.append_assoc]
end
end Go.Ab
namespace Go.Ab
open Go.RowKit
section
variable{P:Program}{w w':World}{M:Nat→Prop}{loc:Nat→Value}
theorem nP{n:AV}(h:n.plain=true){j:Nat}{e:AV}(he:n.flat[j]? =some e):e.one=true:=by
 cases n with
 |agg cs=>simp only[AV.plain,List.all_eq_true]at h;exact h e (List.mem_of_getElem? he)
 |_=>
  simp only[AV.flat]at he
  cases j with
  |zero=>simp at he;subst he;exact h
  |succ j=>simp at he
theorem nQ{news:List AV}(hp:∀n∈news,n.plain=true){j:Nat}{e:AV}(he:(news.flatMap AV.flat)[j]? =some e):e.one=true:=by
 have hm:=List.mem_of_getElem? he
 obtain⟨n,hn,he'⟩:=List.mem_flatMap.1 hm
 obtain⟨i,hi,rfl⟩:=List.getElem_of_mem he'
 exact nP (hp n hn) (List.getElem?_eq_getElem hi)
theorem xP{X:Ctx}{st:St}{a:Act}(h:RR X M loc st a w){x:AV}{v:Value}(hv:Rep w M loc v x){q:Prop}{news:List AV}(hs:srcA st.heap x=some (q,news))(hq:q){k:Nat}(hk:∀n∈news,n.plain=true∧n.flat.length=k):
  ∃A c cs,v=.slice A news.length c∧cs.length=news.length*k∧(A=none→news.length=0)∧(∀ad,A=some ad→∀(j:Nat) (u:Value),cs[j]? =some u→w.cell? (ad.add j)=some u)∧RepL (RepC w M loc st.heap.length) cs (news.flatMap AV.flat):=by
 have hk':=fun n hn=>(hk n hn).2
 unfold srcA at hs
 split at hs
 ·rename_i es
  simp only[Option.some.injEq,Prod.mk.injEq]at hs
  obtain⟨rfl,rfl⟩:=hs
  obtain⟨A,cap,k',f,rfl,hk'',hA,hc,hr,hcap,hmax⟩:=hv.sl_inv
  by_cases hne:es=[]
  ·subst hne
   exact⟨A,cap,[],rfl,by simp,fun _=>rfl,by simp,by simp[RepL]⟩
  ·obtain⟨ad,rfl,hM⟩:=hA hne
   have hkk:k'=k:=by
    cases es with
    |nil=>exact(hne rfl).elim
    |cons e es=>rw[←hk' e (by simp),hk'' e (by simp)]
   subst hkk
   refine⟨some ad,cap,(List.range (es.length*k')).map f,rfl,by simp,(fun h=>by cases h),fun ad' had j u hu=>?_,by simp[bR hk'],fun j c e hc' he=>?_⟩
   ·cases had
    simp only[List.getElem?_map,Option.map_eq_some_iff]at hu
    obtain⟨i,hi,rfl⟩:=hu
    have hj:=(List.getElem?_eq_some_iff.1 hi).1
    simp only[List.length_range]at hj
    simp only[List.getElem?_range hj,Option.some.injEq]at hi
    subst hi
    exact hc ad rfl j hj
   ·simp only[List.getElem?_map,Option.map_eq_some_iff]at hc'
    obtain⟨i,hi,rfl⟩:=hc'
    have hj:=(List.getElem?_eq_some_iff.1 hi).1
    simp only[List.length_range]at hj
    simp only[List.getElem?_range hj,Option.some.injEq]at hi
    subst hi
    exact(hr j e he).repC (nQ (fun n hn=>(hk n hn).1) he) _
 ·simp only[Option.some.injEq,Prod.mk.injEq]at hs
  obtain⟨rfl,rfl⟩:=hs
  obtain rfl:=hv.nil_inv
  exact⟨none,0,[],rfl,by simp,fun _=>rfl,by simp,by simp[RepL]⟩
 ·rename_i id
  split at hs
  ·rename_i o ho
   simp only[Option.some.injEq,Prod.mk.injEq]at hs
   obtain⟨rfl,rfl⟩:=hs
   have hob:=h.obj id o ho
   obtain⟨xs,hown,hrep⟩:=hob.own
   have hv':v=loc id:=hv
   by_cases hne:o.es=[]
   ·rcases hown.2 with⟨hn,h0⟩|⟨g,cap,cur,hn,_⟩
    ·exact⟨none,0,[],by rw[hv',hn,hne];rfl,by simp[hne],fun _=>by simp[hne],by simp,by simp[RepL,hne]⟩
    ·exact⟨some _,cap,[],by rw[hv',hn],by simp[hne],(fun h=>by cases h),by simp,by simp[RepL,hne]⟩
   ·have hok:o.k=k:=by
     cases hes:o.es with
     |nil=>exact(hne hes).elim
     |cons e es=>rw[←hk' e (by rw[hes];simp),hob.flat e (by rw[hes];simp)]
    have hpos:0<o.es.length:=List.length_pos_iff.2 hne
    rcases hown.2 with⟨hn,h0⟩|⟨g,cap,cur,hn,_⟩
    ·omega
    ·have hcells:=hown.cells (g:=g) (by rw[hn];rfl)
     refine⟨some ⟨g,0,none⟩,cap,xs,by rw[hv',hn],by rw[hown.1,hok],(fun h=>by cases h),fun ad had j u hu=>?_,by rw[hown.1,bR hob.flat],fun j c e hc he=>?_⟩
     ·cases had;exact hcells j u hu
     ·obtain⟨x,hx,hr⟩:=hrep j e he
      have:c=x:=by rw[hx]at hc;exact(Option.some.inj hc).symm
      rw[this];exact hr
  ·cases hs
 ·rename_i id kk lo m
  split at hs
  ·rename_i o ho
   simp only[Option.some.injEq,Prod.mk.injEq]at hs
   obtain⟨rfl,rfl⟩:=hs
   obtain⟨rfl,hb⟩:=hq
   have hob:=h.obj id o ho
   obtain⟨xs,hown,hrep⟩:=hob.own
   obtain⟨A,c,rfl,hmc,hcm,hA⟩:=hv
   have hlen:((o.es.drop lo).take m).length=m:=by simp;omega
   by_cases h0:m=0
   ·subst h0
    refine⟨A,c,[],by simp,by simp,fun _=>by simp,by simp,by simp[RepL]⟩
   ·obtain⟨g,m2,d,hn,rfl⟩:=hA.1 (by omega)
    have hcells:=hown.cells (g:=g) (by rw[hn];rfl)
    have hkk:o.k=k:=by
     have hne:(o.es.drop lo).take m≠[]:=by intro e;rw[e]at hlen;simp at hlen;omega
     obtain⟨e,he⟩:=List.exists_mem_of_ne_nil _ hne
     rw[←hk' e he,hob.flat e (List.mem_of_mem_drop (List.mem_of_mem_take he))]
    have hxl:xs.length=o.es.length*o.k:=hown.1
    have hfl:=bR hob.flat
    have hb2:lo*o.k+m*o.k≤o.es.length*o.k:=by rw[←Nat.add_mul];exact Nat.mul_le_mul_right _ hb
    have hfm:((o.es.drop lo).take m).flatMap AV.flat=((o.es.flatMap AV.flat).drop (lo*o.k)).take (m*o.k):=by
     have e1:=fM hob.flat lo
     have hd:∀e∈o.es.drop lo,e.flat.length=o.k:=fun e he=>hob.flat e (List.mem_of_mem_drop he)
     rw[←e1]
     have e2:(o.es.drop lo).flatMap AV.flat=((o.es.drop lo).take m).flatMap AV.flat++((o.es.drop lo).drop m).flatMap AV.flat:=by
      rw[←List.flatMap_append,List.take_append_drop]
     have hL:(((o.es.drop lo).take m).flatMap AV.flat).length=m*o.k:=by rw[bR (k:=o.k) (fun e he=>hd e (List.mem_of_mem_take he)),hlen]
     rw[e2]
     exact(List.take_left' hL).symm
    refine⟨some ⟨g,lo*o.k,none⟩,c,(xs.drop (lo*o.k)).take (m*o.k),by rw[hlen],?_,(fun h=>by cases h),fun ad had j u hu=>?_,?_,fun j c' e hc' he=>?_⟩
    ·rw[hlen,←hkk];simp[hxl];omega
    ·cases had
     rw[List.getElem?_take]at hu
     split at hu
     ·rw[List.getElem?_drop]at hu
      have:=hcells _ u hu
      rw[dJ,Nat.zero_add]at this
      rw[dJ];exact this
     ·cases hu
    ·rw[hfm];simp[hxl,hfl]
    ·rw[hfm]at he
     rw[List.getElem?_take]at hc' he
     split at hc'
     ·rename_i hj
      rw[if_pos hj,List.getElem?_drop]at he
      rw[List.getElem?_drop]at hc'
      obtain⟨x,hx,hr⟩:=hrep _ e he
      have:c'=x:=by rw[hx]at hc';exact(Option.some.inj hc').symm
      rw[this];exact hr
     ·cases hc'
  ·cases hs
 ·cases hs
theorem nR{X:Ctx}{st:St}{a:Act}(h:RR X M loc st a w){t ty e:Nat}{i:TypeInfo}{z:Value}(ht:P.underlying t=some (.slice e))(hi:P.info? e=some i)(hz:i.zero=some z)(hzs:z.cells.size=i.size)(hsz:0<i.size)
  {sv:Value} {n:Nat} {xs:List Value} (hown:w.ownsRow 0 e i.size sv n xs) {x:AV} {v:Value} (hv:Rep w M loc v x) {q:Prop} {news:List AV} (hs:srcA st.heap x=some (q,news)) (hq:q) (hk:∀m∈news,m.plain=true∧m.flat.length=i.size)
  (h63:n+news.length≤maxLen) (hbytes:(n+news.length)*i.bytes≤140737488355328):
  ∃v' w' cs,(Builtin.append_ #[t,t] ty #[sv,v]).run P w=.ok v' w'∧w'.ownsRow 0 e i.size v' (n+news.length) (xs++cs)∧w.grownBy w' sv.ownBlock∧
   (v'.ownBlock=sv.ownBlock∨v'.ownBlock=some w.heap.size)∧RepL (RepC w M loc st.heap.length) cs (news.flatMap AV.flat):=by
 obtain⟨A,c,cs,rfl,hl,hA,hc,hr⟩:=xP h hv hs hq hk
 cases A with
 |none=>
  have h0:news.length=0:=hA rfl
  have hcs:cs=[]:=List.eq_nil_of_length_eq_zero (by rw[hl,h0];simp)
  subst hcs
  refine⟨sv,w,[],?_,by rw[h0,List.append_nil];exact hown,World.grownBy.refl w _,.inl rfl,hr⟩
  rw[h0]
  rcases hown.2 with⟨rfl,rfl⟩|⟨g,cap,cur,rfl,_,_,hnc,_⟩
  ·simp[Builtin.append_,run_underlying ht,sizeOf,typeInfo,hi,Builtin.lenOf,Builtin.firstCells]
  ·simp[Builtin.append_,run_underlying ht,sizeOf,typeInfo,hi,Builtin.lenOf,Builtin.firstCells,hnc,storeCells]
 |some ad=>
  have hone:∀u∈cs,u.oneCell'=true:=by
   intro u hu
   obtain⟨j,hj,rfl⟩:=List.getElem_of_mem hu
   have hj':j<(news.flatMap AV.flat).length:=by rw[←hr.1];exact hj
   have hcc:=hr.2 j _ _ (List.getElem?_eq_getElem hj) (List.getElem?_eq_getElem hj')
   rcases hcc.1 with hcz|hco
   ·exact hcz.one (nQ (fun n hn=>(hk n hn).1) (List.getElem?_eq_getElem hj'))
   ·exact hco.one h.one hcc.2.1
  obtain⟨v',w',h1,h2,h3,_,h5⟩:=run_append_own_at (P:=P) w 0 t ty e i z i.size i.bytes ht hi hz rfl rfl hzs hsz sv n xs hown ad news.length c cs hl (hc ad rfl) hone h63 hbytes (Nat.zero_le _)
  exact⟨v',w',cs,h1,h2,h3,h5,hr⟩
theorem RepL.imp{R R':Value→AV→Prop}{as:List Value}{xs:List AV}(hi:∀c e,R c e→R' c e)(h:RepL R as xs):RepL R' as xs:=
 ⟨h.1,fun j c e hc he=>hi _ _ (h.2 j c e hc he)⟩
theorem RepL.own{R:Value→AV→Prop}{as:List Value}{xs:List AV}(h:RepL R as xs)(j:Nat)(e:AV)(he:xs[j]? =some e):∃x,as[j]? =some x∧R x e:=by
 have hj:j<as.length:=by rw[h.1];exact(List.getElem?_eq_some_iff.1 he).1
 exact⟨_,List.getElem?_eq_getElem hj,h.2 j _ e (List.getElem?_eq_getElem hj) he⟩
theorem ObjOK.repL{X:Ctx}{N:Nat}{sv:Value}{o:Ob}(h:ObjOK X.own w M loc N sv o):∃xs,w.ownsRow 0 o.E o.k sv o.es.length xs∧RepL (RepC w M loc N) xs (o.es.flatMap AV.flat):=by
 obtain⟨xs,h1,h2⟩:=h.own
 refine⟨xs,h1,by rw[h1.1,bR h.flat],fun j c e hc he=>?_⟩
 obtain⟨x,hx,hr⟩:=h2 j e he
 have:c=x:=by rw[hx]at hc;exact(Option.some.inj hc).symm
 rw[this];exact hr
theorem pO{X:Ctx}{st:St}{a:Act}(h:RR X M loc st a w){t ty e id:Nat}{i:TypeInfo}{z:Value}(g2:P.underlying t=some (.slice e))(f1:P.info? e=some i)(f3:i.zero=some z)(hz:(zeroOf z).flat.length=i.size)(h0:0<i.size)
  {vs vx:Value} {x:AV} (hvx:Rep w M loc vx x) {q:Prop} {news:List AV} (hsrc:srcA st.heap x=some (q,news)) (hq:q) (hn:∀m∈news,m.plain=true∧m.flat.length=i.size) {o:Ob} (ho:st.heap[id]? =some (.row o))
  {es0:List AV} (hf0:∀e∈es0,e.flat.length=i.size) {xs:List Value} (hown:w.ownsRow 0 e i.size vs es0.length xs) (hxs:RepL (RepC w M loc st.heap.length) xs (es0.flatMap AV.flat)) (hblk:vs.ownBlock=(loc id).ownBlock)
  (h63:es0.length+news.length≤maxLen) (hb:(es0.length+news.length)*i.bytes≤140737488355328):
  EffOK P X st a w M (do pure (Next.value (←Builtin.append_ #[t,t] ty #[vs,vx]))) (.ow st.heap.length) (st.heap.set id .dead++[.row ⟨e,i.size,es0++news⟩]):=by
 have hob:=h.obj id o ho
 have hzs:z.cells.size=i.size:=by rw[←hz];exact(cR (w:=w) (M:=M) (loc:=loc) 0 z (fun _=>trivial)).1.symm
 obtain⟨v',w',cs,h1,h2,h3,h4,h5⟩:=nR (P:=P) (ty:=ty) h g2 f1 f3 hzs h0 hown hvx hsrc hq hn h63 hb
 have hcl:=bG hown
 rw[hblk]at h3 h4 hcl
 have hrow:∀g,(loc id).ownBlock=some g→¬M g∧X.own g:=fun g hg=>⟨hob.away g hg,hob.mine g hg⟩
 have hM:∀b,M b→w'.heap[b]? =w.heap[b]? :=fun b hb=>h3.block b (h.zone b hb).1 (fun e=>hob.away b e.symm hb)
 have hidlt:id<st.heap.length:=(List.getElem?_eq_some_iff.1 ho).1
 have hrr:=h.change h3 hrow st.heap.length v' ⟨e,i.size,es0++news⟩ (st.heap.set id .dead++[.row ⟨e,i.size,es0++news⟩]) (fun id2 o2 hid ho2=>?_) ?_ (by simp) (by simp) (fun h=>absurd h (by omega)) hcl (fun id m hm=>map_set (fun m=>by intro e;cases e) (lV hm)) (fun id hid hl=>by simp at hl;omega)
 ·refine EffOK.lift h1 hrr ?_ (by simp[AV.idLt])
  show v'=_
  simp
 ·have hid':id2<st.heap.length:=by
   have:=(List.getElem?_eq_some_iff.1 ho2).1
   simp at this;omega
  rw[List.getElem?_append_left (by simpa using hid'),List.getElem?_set]at ho2
  split at ho2
  ·simp at ho2
  ·rename_i hne
   have hsep:=h.sep id2 id o2 o (fun e=>hne e.symm) ho2 ho
   refine⟨ho2,hsep,?_⟩
   rcases h4 with h4|h4
   ·rw[h4];exact hsep
   ·obtain⟨xs2,hown2,_⟩:=(h.obj id2 o2 ho2).own
    cases hb:(loc id2).ownBlock with
    |none=>exact .inl rfl
    |some b=>
     right
     have:=(hown2.lt b hb).2
     rw[h4];simp;omega
 ·refine⟨⟨xs++cs,by simpa using h2,fun j e he=>?_⟩,fun e he=>?_,fun g hg hm=>?_,fun g hg=>?_⟩
  ·rw[List.flatMap_append]at he
   exact((hxs.append h5).imp fun c e hce=>hce.mono hM (fun _ hb=>hb) (fun i hi=>if_neg (by omega)) (by simp)).own j e he
  ·rcases List.mem_append.1 he with he|he
   ·exact hf0 e he
   ·exact(hn e he).2
  ·rcases h4 with h4|h4
   ·rw[h4]at hg;exact hob.away g hg hm
   ·have:=(h.zone g hm).1
    rw[h4]at hg;simp at hg;omega
  ·rcases h4 with h4|h4
   ·rw[h4]at hg;exact hob.mine g hg
   ·rw[h4]at hg;simp at hg;exact .inl (hg▸h.below.size)
theorem nS{w:World}{base E k:Nat}{A:Option Addr}{m c n L:Nat}{xs:List Value}(h:w.ownsRow base E k (.slice A m c) L xs)(hn:n≤L):w.ownsRow base E k (.slice A n c) n (xs.take (n*k)):=by
 have hk:n*k≤L*k:=Nat.mul_le_mul_right _ hn
 refine⟨by rw[List.length_take,h.1];omega,?_⟩
 rcases h.2 with⟨h1,h2⟩|⟨g,cap,cur,h1,h2,h3,h4,h5,h6,h7⟩
 ·left
  simp only[Value.slice.injEq]at h1
  obtain⟨rfl,_,rfl⟩:=h1
  have:n=0:=by omega
  subst this
  exact⟨rfl,rfl⟩
 ·right
  simp only[Value.slice.injEq]at h1
  obtain⟨rfl,_,rfl⟩:=h1
  exact⟨g,c,cur,rfl,h2,h3,by omega,h5,h6,by rw[←h7,List.take_take,Nat.min_eq_left hk]⟩
theorem GC{X:Ctx}{st:St}{a:Act}(h:RR X M loc st a w){t ty:Nat}{s x:AV}{vs vx:Value}(hvs:Rep w M loc vs s)(hvx:Rep w M loc vx x){p:Prop}{r:AV}{H':List Cell}
  (he:appA P st.heap t s x=some (p,r,H')) (hp:p):EffOK P X st a w M (do pure (Next.value (←Builtin.append_ #[t,t] ty #[vs,vx]))) r H':=by
 unfold appA at he
 split at he
 ·rename_i e _ _ _ hT
  obtain⟨i1,d,z1,g1,g2,g3,g4⟩:=aH hT
  have:=bY (d:=d) (e:=e) (by have:=congrArg TK.k g4;exact this.symm)
  subst this
  split at he
  ·rename_i T q news hE hsrc
   obtain⟨i,d',z,f1,f2,f3,rfl⟩:=aH hE
   split at he
   ·simp only[Option.some.injEq,Prod.mk.injEq]at he
    obtain⟨rfl,rfl,rfl⟩:=he
    obtain⟨hq,⟨hb,h63⟩,hz,h0,hn⟩:=hp
    obtain rfl:=hvs.nil_inv
    have hzs:z.cells.size=i.size:=by rw[←hz];exact(cR (w:=w) (M:=M) (loc:=loc) 0 z (fun _=>trivial)).1.symm
    obtain⟨v',w',cs,h1,h2,h3,h4,h5⟩:=nR (P:=P) (ty:=ty) h g2 f1 f3 hzs h0 (World.ownsRow_nil w 0 e i.size) hvx hsrc hq hn (by omega) (by rw[Nat.zero_add];exact hb)
    have hM:∀b,M b→w'.heap[b]? =w.heap[b]? :=fun b hb=>h3.block b (h.zone b hb).1 (by simp[Value.ownBlock])
    have hrr:=h.change h3 (fun g e=>by simp[Value.ownBlock]at e) st.heap.length v' ⟨e,i.size,news⟩ (st.heap++[.row ⟨e,i.size,news⟩]) (fun id o hid ho=>?_) ?_ (by simp) (by simp) (fun h=>absurd h (by omega)) (fun g e=>by simp[Value.ownBlock]at e) (fun id m hm=>lV hm) (fun id hid hl=>by simp at hl;omega)
    ·refine EffOK.lift h1 hrr ?_ (by simp[AV.idLt])
     show v'=_
     simp
    ·have hid':id<st.heap.length:=by
      have:=(List.getElem?_eq_some_iff.1 ho).1
      simp at this;omega
     rw[List.getElem?_append_left hid']at ho
     refine⟨ho,(by cases hb:(loc id).ownBlock with|none=>exact .inl rfl|some b=>exact .inr (by intro e;cases e)),?_⟩
     obtain⟨xs,hown,_⟩:=(h.obj id o ho).own
     cases hb:(loc id).ownBlock with
     |none=>exact .inl rfl
     |some b=>
      right
      have:=(hown.lt b hb).2
      rcases h4 with h4|h4
      ·rw[h4];simp[Value.ownBlock]
      ·rw[h4];simp;omega
    ·refine⟨⟨cs,by simpa using h2,fun j e he=>(h5.imp fun c e hce=>hce.mono hM (fun _ hb=>hb) (fun i hi=>if_neg (by omega)) (by simp)).own j e he⟩,fun e he=>(hn e he).2,fun g hg hm=>?_,fun g hg=>?_⟩
     ·have:=(h.zone g hm).1
      rcases h4 with h4|h4
      ·rw[h4]at hg;simp[Value.ownBlock]at hg
      ·rw[h4]at hg;simp at hg;omega
     ·rcases h4 with h4|h4
      ·rw[h4]at hg;simp[Value.ownBlock]at hg
      ·rw[h4]at hg;simp at hg;exact .inl (hg▸h.below.size)
   ·rename_i id
    split at he
    ·rename_i o ho
     simp only[Option.some.injEq,Prod.mk.injEq]at he
     obtain⟨rfl,rfl,rfl⟩:=he
     obtain⟨hq,⟨⟨hb,h63⟩,hz,h0,hn⟩,hoE,hok⟩:=hp
     have hvs':vs=loc id:=hvs
     subst hvs'
     have hob:=h.obj id o ho
     obtain⟨xs,hown,hxs⟩:=hob.repL
     rw[hoE,hok]at hown
     exact pO (P:=P) (ty:=ty) h g2 f1 f3 hz h0 hvx hsrc hq hn ho (fun e he=>by rw[←hok];exact hob.flat e he) hown hxs rfl h63 hb
    ·cases he
   ·rename_i id k lo n
    split at he
    ·rename_i o ho
     split at he
     ·rename_i hc
      obtain⟨rfl,hnl,rfl⟩:=hc
      simp only[Option.some.injEq,Prod.mk.injEq]at he
      obtain⟨rfl,rfl,rfl⟩:=he
      obtain⟨hq,⟨⟨hb,h63⟩,hz,h0,hn⟩,hoE,hok⟩:=hp
      have hvs':RepO loc vs (.wn id o.k 0 n):=hvs
      obtain⟨A,c,rfl,hnc,hcm,_,hA⟩:=hvs'
      obtain⟨m,hloc⟩:=hA rfl
      have hob:=h.obj id o ho
      obtain⟨xs,hown,hxs⟩:=hob.repL
      rw[hoE,hok,hloc]at hown
      have hlen:(o.es.take n).length=n:=by rw[List.length_take];omega
      have hown':=nS hown hnl
      obtain⟨r,hr⟩:=eQ o.es n
      have hfl:((o.es.take n).flatMap AV.flat).length=n*i.size:=by rw[bR (k:=i.size) (fun e he=>by rw[←hok];exact hob.flat e (List.mem_of_mem_take he)),hlen]
      have hxs':RepL (RepC w M loc st.heap.length) (xs.take (n*i.size)) ((o.es.take n).flatMap AV.flat):=by
       refine⟨by rw[hown'.1,hfl],fun j c e hc he=>hxs.2 j c e ?_ ?_⟩
       ·rw[List.getElem?_take]at hc
        split at hc
        ·exact hc
        ·cases hc
       ·rw[hr,List.getElem?_append_left (List.getElem?_eq_some_iff.1 he).1];exact he
      rw[←hlen]at hown' h63 hb
      rw[hlen]at hown'
      have hown2:w.ownsRow 0 e i.size (.slice A n c) (o.es.take n).length (xs.take (n*i.size)):=by rw[hlen];exact hown'
      exact pO (P:=P) (ty:=ty) h g2 f1 f3 hz h0 hvx hsrc hq hn ho (fun e he=>by rw[←hok];exact hob.flat e (List.mem_of_mem_take he)) hown2 hxs' (by rw[hloc];cases A<;>rfl) h63 hb
     ·cases he
    ·cases he
   ·cases he
  ·cases he
 ·cases he
end
end Go.Ab
namespace Go.Ab
open Go.RowKit
theorem tQ(L:AV){k:Nat}(hk:L.flat.length=k):∀(n j:Nat) (x:AV),((List.replicate n L).flatMap AV.flat)[j]? =some x→j<n*k∧L.flat[j%k]? =some x
 |0,j,x,h=>by simp at h
 |n+1,j,x,h=>by
  rw[List.replicate_succ,List.flatMap_cons]at h
  by_cases hj:j<k
  ·rw[List.getElem?_append_left (by omega)]at h
   rw[Nat.mod_eq_of_lt hj]
   exact⟨by rw[Nat.succ_mul];omega,h⟩
  ·rw[List.getElem?_append_right (by omega),hk]at h
   obtain⟨h1,h2⟩:=tQ L hk n (j-k) x h
   refine⟨by rw[Nat.succ_mul];omega,?_⟩
   rw[←h2,Nat.mod_eq_sub_mod (by omega)]
section
variable{P:Program}{w w':World}{M:Nat→Prop}{loc:Nat→Value}
theorem A4(F E xs:List AV)(b k off:Nat)(hE:E.length=k)(hF:b+k≤F.length)(hx:off+xs.length≤k)(hq:∀q,q<k→F[b+q]? =E[q]?):
  F.take b++splice E off xs++F.drop (b+k)=splice F (b+off) xs:=by
 have hEE:E=(F.drop b).take k:=by
  apply List.ext_getElem?
  intro q
  rw[List.getElem?_take]
  by_cases c:q<k
  ·rw[if_pos c,List.getElem?_drop,hq q c]
  ·rw[if_neg c,List.getElem?_eq_none (by omega)]
 subst hEE
 unfold splice
 rw[List.take_add,List.take_take,Nat.min_eq_left (by omega)]
 have h2:F.drop (b+off+xs.length)=((F.drop b).take k).drop (off+xs.length)++F.drop (b+k):=by
  have h3:(F.drop b).drop (off+xs.length)=((F.drop b).take k++(F.drop b).drop k).drop (off+xs.length):=by rw[List.take_append_drop]
  rw[List.drop_append_of_le_length (by rw[hE];exact hx)]at h3
  rw[List.drop_drop,List.drop_drop]at h3
  rw[Nat.add_assoc]
  exact h3
 rw[h2]
 simp only[List.append_assoc]
theorem l9(cs vs:List Value)(N o s:Nat)(hv:vs.length=s)(hN:o+s≤N)(hl:N≤cs.length):
  (cs.take N).take o++vs++(cs.take N).drop (o+s)=(cs.take o++vs++cs.drop (o+s)).take N:=by
 rw[List.take_take,Nat.min_eq_left (by omega)]
 have h1:(cs.take o++vs).length=o+s:=by rw[List.length_append,List.length_take,hv];omega
 have h2:N=(cs.take o++vs).length+(N-(o+s)):=by omega
 conv=>rhs;rw[h2]
 rw[List.take_length_add_append,List.drop_take]
theorem RepL.of_eq{R:Value→AV→Prop}{as bs:List Value}{xs:List AV}(h:RepL R as xs)(e:as=bs):RepL R bs xs:=e▸h
theorem lA{α:Type}{l:List α}{i:Nat}{x:α}(h:l[i]? =some x):l.set i x=l:=by
 apply List.ext_getElem?
 intro j
 rw[List.getElem?_set]
 split
 ·rename_i e
  subst e
  rw[if_pos (List.getElem?_eq_some_iff.1 h).1,h]
 ·rfl
theorem RR.same{X:Ctx}{st:St}{a:Act}(h:RR X M loc st a w){H:List Cell}(e:H=st.heap):RR X M loc {st with heap:=H} a w:=by
 subst e;exact h
theorem RR.spliceRow{X:Ctx}{st:St}{a:Act}(h:RR X M loc st a w){id:Nat}{ob:Ob}(ho:st.heap[id]? =some (.row ob)){o:Nat}{vs:List Value}{xs:List AV}(hcl:RepL (RepC w M loc st.heap.length) vs xs)
  (hone:∀v∈vs,v.oneCell'=true) (hbd:o+xs.length≤ob.es.length*ob.k) {es':List AV} (hl':es'.length=ob.es.length) (hf':∀e∈es',e.flat.length=ob.k) (hfl:es'.flatMap AV.flat=splice (ob.es.flatMap AV.flat) o xs) (h0:0<ob.es.length):
  ∃g n c cur,loc id=.slice (some ⟨g,0,none⟩) n c∧w.heap[g]? =some (.cells cur ob.E (0,0))∧o+vs.length≤cur.size∧
   RR X M (fun i=>if i=id then loc id else loc i) {st with heap:=st.heap.set id (.row ⟨ob.E,ob.k,es'⟩)} a (w.setRow g (cur.toList.take o++vs++cur.toList.drop (o+vs.length)).toArray):=by
 have hob:=h.obj id ob ho
 obtain⟨xs0,hown,hxs⟩:=hob.repL
 have hvl:vs.length=xs.length:=hcl.1
 rcases hown.2 with⟨hn,hz⟩|⟨g',cap,cur,hn,hbg,hheap,hnc,hcm,hcs,htake⟩
 ·omega
 ·have hbound2:ob.es.length*ob.k≤cap*ob.k:=Nat.mul_le_mul_right _ hnc
  have hocs:o+vs.length≤cur.size:=by rw[hvl,hcs];exact Nat.le_trans hbd hbound2
  refine⟨g',_,cap,cur,hn,hheap,hocs,?_⟩
  generalize hcur':(cur.toList.take o++vs++cur.toList.drop (o+vs.length)).toArray=cur'
  have hsz':cur'.size=cur.size:=by
   rw[←hcur']
   simp only[List.size_toArray,List.length_append,List.length_take,List.length_drop,Array.length_toList]
   omega
  have hg:w.grownBy (w.setRow g' cur') (some g'):=⟨rfl,rfl,rfl,by simp[World.setRow],fun k _ hk=>setRow_other w g' k _ (fun e=>hk (by rw[e]))⟩
  have hblk:(loc id).ownBlock=some g':=by rw[hn];rfl
  have hmono:∀b,M b→(w.setRow g' cur').heap[b]? =w.heap[b]? :=fun b hb=>hg.block b (h.zone b hb).1 (fun e=>hob.away g' hblk (by rw[Option.some.inj e]at hb;exact hb))
  have hnewL:RepL (RepC w M loc st.heap.length) (cur'.toList.take (ob.es.length*ob.k)) (splice (ob.es.flatMap AV.flat) o xs):=by
   have:=hxs.splice hcl (o:=o) (by rw[bR hob.flat];exact hbd)
   refine this.of_eq ?_
   rw[←htake,←hcur']
   simp only[List.toList_toArray]
   rw[hvl]
   exact l9 _ _ _ _ _ hvl hbd (by rw[Array.length_toList,hcs];exact hbound2)
  refine h.change hg (fun g e=>by cases e;exact⟨hob.away _ hblk,hob.mine _ hblk⟩) id (loc id) ⟨ob.E,ob.k,es'⟩ (st.heap.set id (.row ⟨ob.E,ob.k,es'⟩)) (fun id2 o2 hid ho2=>?_) ?_ ?_ (by simp) (fun _=>rfl) (fun g e=>by cases e;exact⟨_,_,_,hheap⟩) (fun id m hm=>map_set (fun m=>by intro e;cases e) hm) (fun id hid hl=>by simpa using hl)
  ·rw[List.getElem?_set_ne (fun e=>hid e.symm)]at ho2
   have hsep:=h.sep id2 id o2 ob hid ho2 ho
   refine⟨ho2,?_,hsep⟩
   rw[hblk]at hsep
   exact hsep
  ·refine⟨⟨cur'.toList.take (ob.es.length*ob.k),⟨?_,.inr ⟨g',cap,cur',by simp[hn,hl'],hbg,setRow_heap w g' cur _ ob.E _ hheap,by simp only[hl'];exact hnc,hcm,by rw[hsz'];exact hcs,by simp only[hl']⟩⟩,fun j e he=>?_⟩,hf',?_,hob.mine⟩
   ·simp only[hl',List.length_take,Array.length_toList,hsz',hcs];omega
   ·simp only[]at he
    rw[hfl]at he
    exact(hnewL.imp fun c e hce=>hce.mono hmono (fun _ hb=>hb) (fun i hi=>by show(if i=id then loc id else loc i)=loc i;split<;>simp_all) (by simp)).own j e he
   ·intro g hg
    exact hob.away g hg
  ·rw[List.getElem?_set_self (List.getElem?_eq_some_iff.1 ho).1]
theorem RepL.many{R:Value→AV→Prop}{as:List Value}{xs:List AV}(h:RepL R as xs):∀n:Nat,RepL R (List.replicate n as).flatten (List.replicate n xs).flatten
 |0=>⟨rfl,by simp⟩
 |n+1=>by rw[List.replicate_succ,List.replicate_succ,List.flatten_cons,List.flatten_cons];exact h.append (RepL.many h n)
theorem rE(Z:AV)(n:Nat):(List.replicate n Z).flatMap AV.flat=(List.replicate n Z.flat).flatten:=by
 induction n with
 |zero=>rfl
 |succ n ih=>rw[List.replicate_succ,List.replicate_succ,List.flatMap_cons,List.flatten_cons,ih]
theorem DT{α:Type}(l:List α)(n:Nat):(List.replicate n l).flatten.length=n*l.length:=by
 induction n with
 |zero=>simp
 |succ n ih=>rw[List.replicate_succ,List.flatten_cons,List.length_append,ih,Nat.succ_mul];omega
theorem pP{α:Type}(l:List α):∀n:Nat,(List.replicate n l).flatten++l=l++(List.replicate n l).flatten
 |0=>by simp
 |n+1=>by rw[List.replicate_succ,List.flatten_cons,List.append_assoc,pP l n]
theorem gH(z:Array Value):∀n:Nat,(Builtin.zeroCells z n).toList=(List.replicate n z.toList).flatten
 |0=>by simp[Builtin.zeroCells]
 |n+1=>by
  have ih:=gH z n
  have e:(Builtin.zeroCells z (n+1)).toList=(Builtin.zeroCells z n).toList++z.toList:=by
   simp only[Builtin.zeroCells,Array.toList_map,Array.toList_range]
   rw[Nat.succ_mul,List.range_add,List.map_append,List.map_map]
   congr 1
   apply List.ext_getElem
   ·simp
   ·intro i h1 h2
    simp only[List.length_map,List.length_range]at h1
    have:(n*z.size+i)%z.size=i:=by rw[Nat.mul_comm,Nat.mul_add_mod,Nat.mod_eq_of_lt h1]
    simp[this,h1]
  rw[e,ih,pP,List.replicate_succ,List.flatten_cons]
theorem kO{k:Nat}:∀{l:List AV},(∀e∈l,e.flat.length=k)→∀q,(l.take q).flatMap AV.flat=(l.flatMap AV.flat).take (q*k)∧(l.drop q).flatMap AV.flat=(l.flatMap AV.flat).drop (q*k)
 | [],_,q=>by simp
 |e::l,h,0=>by simp
 |e::l,h,q+1=>by
  have ih:=kO (fun e he=>h e (by simp[he])) q (l:=l) (k:=k)
  have he:=h e (by simp)
  simp only[List.take_succ_cons,List.drop_succ_cons,List.flatMap_cons]
  rw[ih.1,ih.2,Nat.succ_mul,Nat.add_comm (q*k) k,←he,List.take_length_add_append,List.drop_length_add_append]
  exact⟨rfl,rfl⟩
theorem GD{X:Ctx}{st:St}{a:Act}(h:RR X M loc st a w){t ty:Nat}{s:AV}{vs:Value}(hvs:Rep w M loc vs s){p:Prop}{r:AV}{H':List Cell}
  (he:clrA P st.heap t s=some (p,r,H')) (hp:p):EffOK P X st a w M (do pure (Next.value (←Builtin.clear_ #[t] ty #[vs]))) r H':=by
 unfold clrA at he
 split at he
 ·rename_i e _ _ _ id k lo n hT
  obtain⟨i1,d,z1,g1,g2,g3,g4⟩:=aH hT
  have:=bY (d:=d) (e:=e) (by have:=congrArg TK.k g4;exact this.symm)
  subst this
  split at he
  ·rename_i T o hE ho
   simp only[Option.some.injEq,Prod.mk.injEq]at he
   obtain⟨rfl,rfl,rfl⟩:=he
   obtain⟨⟨rfl,hb⟩,hpl,hfl⟩:=hp
   obtain⟨i,d',z,f1,f2,f3,rfl⟩:=aH hE
   simp only[]at hpl hfl
   obtain⟨A,c,rfl,hnc,hcm,hA,_⟩:=hvs
   have hzr:=cL (w:=w) (M:=M) z
   obtain⟨hzl,hzrep⟩:=cR (w:=w) (M:=M) (loc:=loc) st.heap.length z (fun _=>trivial)
   obtain⟨_,_,hzone⟩:=hzr.plain hpl
   have hL0:RepL (RepC w M loc st.heap.length) z.cells.toList (zeroOf z).flat:=by
    refine⟨by rw[hzl];simp,fun j c e h1 h2=>?_⟩
    obtain⟨x,h3,h4⟩:=hzrep j e h2
    rw[Array.getElem?_toList,h3]at h1
    cases h1
    exact h4
   have hob:=h.obj id o ho
   have htup:∀w' M' loc',Rep w' M' loc' (.tuple #[]) (.tup []):=fun w' M' loc'=>(RepZ.tup #[] [] rfl (by simp)).rep
   by_cases hn:n=0
   ·subst hn
    have hrun:(Builtin.clear_ #[t] ty #[.slice A 0 c]).run P w=.ok (.tuple #[]) w:=by
     cases A<;>simp[Builtin.clear_,run_underlying g2]
    refine EffOK.lift hrun (h.same ?_) (htup _ _ _) (by simp[AV.idLt])
    rw[List.replicate_zero,List.append_nil,Nat.add_zero,List.take_append_drop]
    exact lA ho
   ·obtain⟨g,m,dd,hloc,rfl⟩:=hA (by omega)
    have hL:=hL0.many n
    have hzm:(List.replicate n (zeroOf z)).flatMap AV.flat=(List.replicate n (zeroOf z).flat).flatten:=rE _ _
    have hxl:(List.replicate n (zeroOf z).flat).flatten.length=n*o.k:=by rw[DT,hfl]
    have hvl:(List.replicate n z.cells.toList).flatten.length=n*o.k:=by rw[hL.1,hxl]
    have hmul:(lo+n)*o.k≤o.es.length*o.k:=Nat.mul_le_mul_right _ hb
    have hone:∀v∈(List.replicate n z.cells.toList).flatten,v.oneCell'=true:=by
     intro v hv
     obtain⟨l,hl,hvl⟩:=List.mem_flatten.1 hv
     rw[List.eq_of_mem_replicate hl]at hvl
     exact hzone v hvl
    obtain⟨g',n',c',cur,hl2,hheap,hcs,hrr⟩:=h.spliceRow ho (o:=lo*o.k) (vs:=(List.replicate n z.cells.toList).flatten) (xs:=(List.replicate n (zeroOf z).flat).flatten) hL
     hone (by rw[hxl,←Nat.add_mul];exact hmul)
     (es':=o.es.take lo++List.replicate n (zeroOf z)++o.es.drop (lo+n)) (by simp;omega)
     (fun e he=>by
      rcases List.mem_append.1 he with he|he
      ·rcases List.mem_append.1 he with he|he
       ·exact hob.flat e (List.mem_of_mem_take he)
       ·rw[List.eq_of_mem_replicate he,hfl]
      ·exact hob.flat e (List.mem_of_mem_drop he))
     (by
      unfold splice
      rw[List.flatMap_append,List.flatMap_append,hzm,(kO hob.flat _).1,(kO hob.flat _).2,hxl,Nat.add_mul])
     (by omega)
    rw[hloc]at hl2
    simp only[Value.slice.injEq,Option.some.injEq,Addr.mk.injEq,and_true]at hl2
    obtain⟨rfl,-,-⟩:=hl2
    have hst:=run_storeCells_at P g (lo*o.k) o.E (List.replicate n z.cells.toList).flatten 0 cur w hheap (by simpa using hcs) hone
    simp only[Nat.add_zero]at hst
    have hzcs:(Builtin.zeroCells z.cells n).toList=(List.replicate n z.cells.toList).flatten:=gH _ _
    have hrun:(Builtin.clear_ #[t] ty #[.slice (some ⟨g,lo*o.k,none⟩) n c]).run P w=.ok (.tuple #[]) (w.setRow g (cur.toList.take (lo*o.k)++(List.replicate n z.cells.toList).flatten++cur.toList.drop (lo*o.k+(List.replicate n z.cells.toList).flatten.length)).toArray):=by
     obtain⟨m,rfl⟩:∃m,n=m+1:=⟨n-1,by omega⟩
     have hzv:(zeroValue e).run P w=.ok z w:=by simp[zeroValue,typeInfo,f1,f3]
     simp only[Builtin.clear_,List.getElem?_toArray,List.getElem?_cons_zero,Sem.run_bind,run_underlying g2,Result.andThen_ok,hzv,hzcs,hst,Sem.run_pure]
    exact EffOK.lift hrun hrr (htup _ _ _) (by simp[AV.idLt])
  ·cases he
 ·cases he
theorem cT:∀{l:List AV},(∀e∈l,e.flat.length=1)→∀q,(l.take q).flatMap AV.flat=(l.flatMap AV.flat).take q∧(l.drop q).flatMap AV.flat=(l.flatMap AV.flat).drop q
 | [],_,q=>by simp
 |e::l,hl,q=>by
  obtain⟨y,hy⟩:∃y,e.flat=[y]:=List.length_eq_one_iff.1 (hl e (by simp))
  cases q with
  |zero=>simp
  |succ q=>
   have:=cT (l:=l) (fun e he=>hl e (by simp[he])) q
   simp[List.flatMap_cons,hy,this.1,this.2]
theorem DU{X:Ctx}{st:St}{a:Act}(h:RR X M loc st a w){s:AV}{vs:Value}(hvs:Rep w M loc vs s){id lo n:Nat}{o:Ob}{p:Prop}(hw:winOf st.heap s=some (id,lo,n,o,p))(hp:p):
  st.heap[id]? =some (.row o)∧lo+n≤o.es.length∧∃A c,vs=.slice A n c∧(0<n→∃g m d,loc id=.slice (some ⟨g,0,none⟩) m d∧A=some ⟨g,lo*o.k,none⟩):=by
 unfold winOf at hw
 split at hw
 ·rename_i id'
  split at hw
  ·rename_i o' ho
   simp only[Option.some.injEq,Prod.mk.injEq]at hw
   obtain⟨rfl,rfl,rfl,rfl,rfl⟩:=hw
   obtain⟨xs,hown,_⟩:=(h.obj _ _ ho).own
   have hv':vs=loc id':=hvs
   refine⟨ho,by omega,?_⟩
   rcases hown.2 with⟨hn,h0⟩|⟨g,cap,cur,hn,_⟩
   ·exact⟨none,0,by rw[hv',hn,h0],fun h=>by omega⟩
   ·exact⟨some ⟨g,0,none⟩,cap,by rw[hv',hn],fun _=>⟨g,_,cap,hn,by simp⟩⟩
  ·cases hw
 ·rename_i id' k lo' n'
  split at hw
  ·rename_i o' ho
   simp only[Option.some.injEq,Prod.mk.injEq]at hw
   obtain⟨rfl,rfl,rfl,rfl,rfl⟩:=hw
   obtain⟨rfl,hb⟩:=hp
   obtain⟨A,c,rfl,_,_,hA,_⟩:=hvs
   exact⟨ho,hb,A,c,rfl,hA⟩
  ·cases hw
 ·cases hw
theorem GE{X:Ctx}{st:St}{a:Act}(h:RR X M loc st a w){t t' ty:Nat}{s x:AV}{vs vx:Value}(hvs:Rep w M loc vs s)(hvx:Rep w M loc vx x){p:Prop}{r:AV}{H':List Cell}
  (he:cpyA P st.heap t s x=some (p,r,H')) (hp:p):EffOK P X st a w M (do pure (Next.value (←Builtin.copy_ #[t,t'] ty #[vs,vx]))) r H':=by
 unfold cpyA at he
 split at he
 ·rename_i e _ _ _ hT
  obtain⟨i1,d,z1,g1,g2,g3,g4⟩:=aH hT
  have:=bY (d:=d) (e:=e) (by have:=congrArg TK.k g4;exact this.symm)
  subst this
  split at he
  ·rename_i T id lo n o pw q news hE hw hsrc
   simp only[Option.some.injEq,Prod.mk.injEq]at he
   obtain⟨rfl,rfl,rfl⟩:=he
   obtain⟨⟨hpw,hq⟩,⟨hk1,hc1⟩,hn⟩:=hp
   obtain⟨i,d',z,f1,f2,f3,rfl⟩:=aH hE
   simp only[]at hc1
   obtain⟨ho,hb,A,c,rfl,hA⟩:=DU h hvs hw hpw
   obtain⟨B,c2,cs,rfl,hcl,hB,hcell,hrep⟩:=xP h hvx hsrc hq hn
   have hob:=h.obj id o ho
   have hfo:∀e∈o.es,e.flat.length=1:=fun e he=>by rw[hob.flat e he,hk1]
   have hfn:∀e∈news,e.flat.length=1:=fun e he=>(hn e he).2
   rw[Nat.mul_one]at hcl
   obtain⟨m,hm⟩:∃m,min news.length n=m:=⟨_,rfl⟩
   have hm':Nat.min news.length n=m:=hm
   rw[hm]
   have hv:∀w' M' loc',Rep w' M' loc' (goInt m) (.v (.int .i64 (m:Int))):=fun w' M' loc'=>(RepZ.v _).rep
   by_cases h0:m=0
   ·subst h0
    have hrun:(Builtin.copy_ #[t,t'] ty #[.slice A n c,.slice B news.length c2]).run P w=.ok (goInt 0) w:=by
     cases A<;>cases B<;>simp[Builtin.copy_,run_underlying g2,sizeOf,typeInfo,f1,Builtin.lenOf,Builtin.firstCells,hm',loadCells,loadCellsFrom,storeCells]
    refine EffOK.lift hrun (h.same ?_) (hv _ _ _) (by simp[AV.idLt])
    rw[List.take_zero,List.append_nil,Nat.add_zero,List.take_append_drop]
    exact lA ho
   ·obtain⟨g,m0,dd,hloc,rfl⟩:=hA (by omega)
    have hmn:m≤news.length:=by omega
    obtain⟨ad,rfl⟩:∃ad,B=some ad:=by
     cases B with
     |none=>have:=hB rfl;omega
     |some ad=>exact⟨ad,rfl⟩
    have hL:RepL (RepC w M loc st.heap.length) (cs.take m) ((news.take m).flatMap AV.flat):=by
     rw[(cT hfn m).1]
     refine⟨by rw[List.length_take,List.length_take,hrep.1],fun j c e h1 h2=>?_⟩
     rw[List.getElem?_take]at h1 h2
     split at h1
     ·rename_i hj
      rw[if_pos hj]at h2
      exact hrep.2 j c e h1 h2
     ·cases h1
    have hfl1:∀{l:List AV},(∀e∈l,e.flat.length=1)→(l.flatMap AV.flat).length=l.length:=fun hl=>by rw[bR hl,Nat.mul_one]
    have hlt:((news.take m).flatMap AV.flat).length=m:=by rw[hfl1 (fun e he=>hfn e (List.mem_of_mem_take he)),List.length_take];omega
    have hone:∀u∈cs.take m,u.oneCell'=true:=by
     intro u hu
     obtain⟨j,hj,rfl⟩:=List.getElem_of_mem hu
     have hj':j<((news.take m).flatMap AV.flat).length:=by rw[←hL.1];exact hj
     exact(hL.2 j _ _ (List.getElem?_eq_getElem hj) (List.getElem?_eq_getElem hj')).one h.one (nQ (fun n hnn=>(hn n (List.mem_of_mem_take hnn)).1) (List.getElem?_eq_getElem hj'))
    have hcm:(cs.take m).length=m:=by rw[List.length_take,hcl];omega
    obtain⟨g',n',c',cur,hl2,hheap,hcs,hrr⟩:=h.spliceRow ho (o:=lo) (vs:=cs.take m) (xs:=(news.take m).flatMap AV.flat) hL hone
     (by rw[hlt,hk1,Nat.mul_one];omega)
     (es':=o.es.take lo++news.take m++o.es.drop (lo+m)) (by simp;omega)
     (fun e he=>by
      rw[hk1]
      rcases List.mem_append.1 he with he|he
      ·rcases List.mem_append.1 he with he|he
       ·exact hfo e (List.mem_of_mem_take he)
       ·exact hfn e (List.mem_of_mem_take he)
      ·exact hfo e (List.mem_of_mem_drop he))
     (by
      unfold splice
      rw[List.flatMap_append,List.flatMap_append,(cT hfo _).1,(cT hfo _).2,hlt])
     (by omega)
    rw[hloc]at hl2
    simp only[Value.slice.injEq,Option.some.injEq,Addr.mk.injEq,and_true]at hl2
    obtain⟨rfl,-,-⟩:=hl2
    have hst:=run_storeCells_at P g lo o.E (cs.take m) 0 cur w hheap (by simpa using hcs) hone
    simp only[Nat.add_zero]at hst
    have hld:=run_loadCells_list (P:=P) w ad (cs.take m) (fun j v hv=>by
     rw[List.getElem?_take]at hv
     split at hv
     ·exact hcell ad rfl j v hv
     ·cases hv)
    rw[hcm]at hld
    have hrun:(Builtin.copy_ #[t,t'] ty #[.slice (some ⟨g,lo*o.k,none⟩) n c,.slice (some ad) news.length c2]).run P w=.ok (goInt m) (w.setRow g (cur.toList.take lo++cs.take m++cur.toList.drop (lo+(cs.take m).length)).toArray):=by
     rw[hk1,Nat.mul_one]
     simp[Builtin.copy_,run_underlying g2,sizeOf,typeInfo,f1,Builtin.lenOf,Builtin.firstCells,hm',hc1,hld,hst]
    exact EffOK.lift hrun hrr (hv _ _ _) (by simp[AV.idLt])
  ·cases he
 ·cases he
theorem DV{X:Ctx}{st:St}{a:Act}(h:RR X M loc st a w){t t' ty:Nat}{s x:AV}{vs vx:Value}(hvs:Rep w M loc vs s)(hvx:Rep w M loc vx x){p:Prop}{r:AV}{H':List Cell}
  (he:growA P st.heap t t' s x=some (p,r,H')) (hp:p):EffOK P X st a w M (do pure (Next.value (←Builtin.append_ #[t,t'] ty #[vs,vx]))) r H':=by
 unfold growA at he
 split at he
 ·rename_i e _ _ _ k' _ _ _ n hT hT2
  obtain⟨i1,d,z1,g1,g2,g3,g4⟩:=aH hT
  have:=bY (d:=d) (e:=e) (by have:=congrArg TK.k g4;exact this.symm)
  subst this
  obtain⟨i1',d2,z1',k1,k2,k3,k4⟩:=aH hT2
  have:=jB (d:=d2) (k:=k') (by have:=congrArg TK.k k4;exact this.symm)
  subst this
  split at he
  ·rename_i T hE
   simp only[Option.some.injEq,Prod.mk.injEq]at he
   obtain⟨rfl,rfl,rfl⟩:=he
   obtain⟨⟨hn0,hn1,hby⟩,hc1,hone⟩:=hp
   obtain⟨i,d',z,f1,f2,f3,rfl⟩:=aH hE
   simp only[]at hc1 hone hby
   obtain⟨m,rfl⟩:=Int.eq_ofNat_of_zero_le (Int.le_of_lt hn0)
   obtain rfl:=hvs.nil_inv
   obtain rfl:=hvx.v_inv
   have hzr:=cL (w:=w) (M:=M) z
   have hzo:=hzr.one hone
   have hzc:z.cells= #[z]:=by cases z<;>simp[Value.cells,Value.oneCell']at*
   have hzf:(zeroOf z).flat=[zeroOf z]:=by
    cases hzz:zeroOf z<;>simp[hzz,AV.one,AV.flat]at*
   have hzcs:∀q,Builtin.zeroCells z.cells q=(List.replicate q z).toArray:=fun q=>by
    apply Array.ext'
    rw[hzc]
    simp[Builtin.zeroCells]
    apply List.ext_getElem
    ·simp
    ·intro i h1 h2
     simp[Nat.mod_one]
   have hrl:∀q,(List.replicate q (zeroOf z)).flatMap AV.flat=List.replicate q (zeroOf z):=by
    intro q
    induction q with
    |zero=>rfl
    |succ q ih=>rw[List.replicate_succ,List.flatMap_cons,ih,hzf];rfl
   have hge:=grownCap_ge w m 0 e
   have hcm:grownCap w m 0 e≤maxLen:=grownCap_le_maxLen w m 0 e (by unfold maxLen;omega)
   have hrun:(Builtin.append_ #[t,t'] ty #[.slice none 0 0,.int .i64 (m:Int)]).run P w=.ok (.slice (some ⟨w.heap.size,0,none⟩) m (grownCap w m 0 e)) (w.drew.alloc (.cells ((List.replicate m z).toArray++(List.replicate (grownCap w m 0 e-m) z).toArray) e)):=by
    have hm0:0<m:=by omega
    have hw:IntKind.i64.wrap (m:Int)=m:=IntWalk.i64_in _ (by omega)
    have q1:m≠0:=by omega
    have q2:¬((m:Int)<0):=by omega
    have q3:¬(281474976710656<(m:Int)*8):=by omega
    have q4:¬(9223372036854775807<(m:Int)):=by omega
    have q5:¬(281474976710656<Builtin.nextslicecap m 0*8):=by rw[nextslicecap_zero hm0];omega
    simp[Builtin.append_,run_underlying g2,run_underlying k2,sizeOf,typeInfo,zeroValue,f1,f3,asInt,asIntOf,hw,hby,q1,q2,q3,q4,q5,hc1,hzcs,Question.forced,Builtin.firstCells,newRow,grownCap]
   generalize hcap:grownCap w m 0 e=cap at hge hcm hrun
   have h3:w.grownBy (w.drew.alloc (.cells ((List.replicate m z).toArray++(List.replicate (cap-m) z).toArray) e)) none:=⟨rfl,rfl,rfl,by simp,fun k hk _=>Below.heap_alloc w.drew _ k hk⟩
   have hM:∀b,M b→(w.drew.alloc (.cells ((List.replicate m z).toArray++(List.replicate (cap-m) z).toArray) e)).heap[b]? =w.heap[b]? :=fun b hb=>h3.block b (h.zone b hb).1 (by simp)
   have hrr:=h.change h3 (fun g e=>by cases e) st.heap.length (.slice (some ⟨w.heap.size,0,none⟩) m cap) ⟨e,i.size,List.replicate m (zeroOf z)⟩ (st.heap++[.row ⟨e,i.size,List.replicate m (zeroOf z)⟩]) (fun id o hid ho=>?_) ?_ (by simp) (by simp) (fun h=>absurd h (by omega)) (fun g e=>by cases e) (fun id m hm=>lV hm) (fun id hid hl=>by simp at hl;omega)
   ·refine EffOK.lift hrun hrr ?_ (by simp[AV.idLt])
    show _=_
    simp
   ·have hid':id<st.heap.length:=by
     have:=(List.getElem?_eq_some_iff.1 ho).1
     simp at this;omega
    rw[List.getElem?_append_left hid']at ho
    refine⟨ho,?_,?_⟩
    ·cases(loc id).ownBlock<;>simp
    ·obtain⟨xs,hown,_⟩:=(h.obj id o ho).own
     cases hb:(loc id).ownBlock with
     |none=>exact .inl rfl
     |some b=>
      right
      have:=(hown.lt b hb).2
      simp only[Value.ownBlock,ne_eq,Option.some.injEq]
      omega
   ·refine⟨⟨List.replicate m z,⟨by simp[hc1],.inr ⟨w.heap.size,cap,_,by simp,Nat.zero_le _,heap_alloc_new w.drew _,by simpa using hge,hcm,by simp[hc1];omega,by simp[hc1]⟩⟩,fun j x hx=>?_⟩,fun x hx=>by rw[List.eq_of_mem_replicate hx,hzf,hc1];rfl,fun g hg' hm=>?_,fun g hg'=>?_⟩
    ·simp only[]at hx
     rw[hrl]at hx
     have hj:=(List.getElem?_eq_some_iff.1 hx).1
     rw[List.length_replicate]at hj
     refine⟨z,by simp[hj],?_⟩
     simp[hj]at hx;rw[←hx]
     exact(hzr.repC (loc:=loc) hone st.heap.length).mono hM (fun _ hb=>hb) (fun i hi=>if_neg (by omega)) (by simp)
    ·have:=(h.zone _ hm).1
     simp only[Value.ownBlock,Option.some.injEq]at hg'
     omega
    ·simp only[Value.ownBlock,Option.some.injEq]at hg'
     subst hg'
     exact .inl h.below.size
  ·cases he
 ·cases he
theorem IL{X:Ctx}{st:St}{o:Oper}{a:Act}(h:RR X M loc st a w){p:Prop}{r:AV}{H':List Cell}
  (he:eff P st.heap (ev st.env) o.op=some (p,r,H')) (hp:p):EffOK P X st a w M (execOp a.eval o) r H':=by
 obtain⟨dst,op,ty,pos,after,guard⟩:=o
 simp only[]at he
 cases op<;>simp only[eff,reduceCtorEq]at he
 case alloc e=>
  split at he
  ·rename_i T hT
   simp only[Option.some.injEq,Prod.mk.injEq]at he
   obtain⟨rfl,rfl,rfl⟩:=he
   obtain⟨i,d,z,f1,f2,f3,rfl⟩:=aH hT
   obtain⟨hz1,hz2⟩:=cR (w:=w) (M:=M) (loc:=loc) st.heap.length z (fun _=>trivial)
   simp only[]at hp
   refine h.newVar e i.size (zeroOf z) z.cells hp (by rw[←hp];exact hz1.symm) hz2 ?_
   simp[Instr.alloc,zeroValue,typeInfo,f1,f3,newVar,Go.newRow]
  ·cases he
 case box e x=>
  split at he
  ·rename_i T hT
   simp only[Option.some.injEq,Prod.mk.injEq]at he
   obtain⟨rfl,rfl,rfl⟩:=he
   obtain⟨hpl,hf⟩:=hp
   obtain⟨h1,h2,_⟩:=h.plain (h.ev x) (h.evLt x) hpl
   refine h.newVar e T.cells (ev st.env x) (a.eval x).cells hf (by rw[h1];exact hf) h2 ?_
   simp[Instr.box,newVar,Go.newRow]
  ·cases he
 case buildSlice t n parts=>
  split at he
  ·rename_i e _ _ _ hT
   obtain⟨i1,d,z1,g1,g2,g3,g4⟩:=aH hT
   have:=bY (d:=d) (e:=e) (by have:=congrArg TK.k g4;exact this.symm)
   subst this
   split at he
   ·rename_i T hE
    split at he
    ·rename_i hc
     obtain⟨hc,hn24,hn25⟩:=hc
     simp only[Option.some.injEq,Prod.mk.injEq]at he
     obtain⟨rfl,rfl,rfl⟩:=he
     obtain⟨hz,hpp⟩:=hp
     obtain⟨i,d',z,f1,f2,f3,rfl⟩:=aH hE
     simp only[]at hz hpp hn24
     have hlen:parts.toList.length=n:=by have:=congrArg List.length hc;simpa using this
     have hzc:=(cR (w:=w) (M:=M) (loc:=loc) 0 z (fun _=>trivial)).1
     obtain⟨cs',vs,h1,h2,h3,h4⟩:=nO h (ev st.env) i.size n parts.toList 0 (madeCells z.cells (n*i.size)) (by rw[hc,hlen,List.range_eq_range']) (by rw[size_madeCells]) (by omega)
      (fun p hp=>by
       obtain⟨q1,q2⟩:=hpp (ev st.env p.2) (List.mem_map.2 ⟨p,hp,rfl⟩)
       exact⟨h.ev p.2,h.evLt p.2,q1,q2⟩)
     have hvs:cs'.toList=vs:=by
      rw[h3]
      have:(madeCells z.cells (n*i.size)).toList.drop ((0+parts.toList.length)*i.size)=[]:=List.drop_eq_nil_of_le (by rw[Array.length_toList,size_madeCells,hlen,Nat.zero_add];exact Nat.le_refl _)
      rw[this];simp
     rw[←hvs]at h4
     have hes:(parts.toList.map fun p=>ev st.env p.2).length=n:=by rw[List.length_map];exact hlen
     have hrr:=h.newRow e i.size (parts.toList.map fun p=>ev st.env p.2) cs' (fun x hx=>(hpp x hx).2) (by rw[h2,size_madeCells,hes]) (fun j e he=>by
      obtain⟨x,hx,hr⟩:=h4.own j e he
      exact⟨x,by simpa using hx,hr⟩) (by
       rw[hes];unfold maxLen;omega)
     refine EffOK.lift (v:=.slice (some ⟨w.heap.size,0,none⟩) n n) ?_ hrr ?_ (by simp[AV.idLt])
     ·have hn:¬n*i.size>2^24:=by omega
      have hpl:(parts.map fun(i,x)=>(i,a.eval x)).toList=parts.toList.map fun(i,x)=>(i,a.eval x):=by simp
      by_cases h0:n*i.size=0
      ·have hm:madeCells z.cells (n*i.size)= #[]:=by rw[h0];exact Array.eq_empty_of_size_eq_zero (size_madeCells _ _)
       rw[hm]at h1
       simp only[Instr.buildSlice,Sem.run_bind,run_underlying g2,Result.andThen_ok,sizeOf,typeInfo,run_program,f1,Sem.run_pure,if_neg hn,h0,if_true,Array.range_zero',Array.map_empty,hpl,h1,Go.newRow,run_newObj]
       rfl
      ·have h1':=h1
       unfold madeCells at h1'
       simp only[Instr.buildSlice,Sem.run_bind,run_underlying g2,Result.andThen_ok,sizeOf,typeInfo,run_program,f1,Sem.run_pure,if_neg hn,if_neg h0,zeroValue,f3,hpl,h1',Go.newRow,run_newObj]
       rfl
     ·show _=_
      simp[hes]
    ·cases he
   ·cases he
  ·cases he
 case makeSlice t l c=>
  have hl:=h.ev l
  have hc:=h.ev c
  split at he
  ·rename_i e _ _ _ k1 n k2 m hT e1 e2
   rw[e1]at hl;rw[e2]at hc
   obtain⟨i1,d,z1,g1,g2,g3,g4⟩:=aH hT
   have:=bY (d:=d) (e:=e) (by have:=congrArg TK.k g4;exact this.symm)
   subst this
   split at he
   ·rename_i T hE
    simp only[Option.some.injEq,Prod.mk.injEq]at he
    obtain⟨rfl,rfl,rfl⟩:=he
    obtain⟨⟨rfl,hn0,hby,hn63⟩,hk⟩:=hp
    obtain⟨i,d',z,f1,f2,f3,rfl⟩:=aH hE
    simp only[]at hby hk
    obtain⟨nn,rfl⟩:=Int.eq_ofNat_of_zero_le hn0
    obtain⟨hz1,hz2⟩:=cR (w:=w) (M:=M) (loc:=loc) st.heap.length z (fun _=>trivial)
    have hrun:=run_make (P:=P) w t e i z g2 f1 f3 k1 k2 nn nn hn0 (Int.le_refl _) hby hn63
    simp only[Int.toNat_natCast]at hrun
    have hrr:=h.newRow e i.size (List.replicate nn (zeroOf z)) (madeCells z.cells (nn*i.size)) (fun x hx=>by rw[List.eq_of_mem_replicate hx];exact hk) (by rw[size_madeCells,List.length_replicate])
     (fun j x hx=>by
      obtain⟨hj,hx⟩:=tQ (zeroOf z) hk nn j x hx
      obtain⟨y,hy,hrep⟩:=hz2 _ _ hx
      refine⟨y,?_,hrep⟩
      have hsz:z.cells.size=i.size:=by rw[←hk];omega
      simp only[madeCells,Array.getElem?_map,Array.getElem?_range,if_pos hj,Option.map_some,hsz]
      rw[getElem!_def,hy])
     (by rw[List.length_replicate];unfold maxLen;omega)
    rw[List.length_replicate]at hrr
    refine EffOK.lift (v:=.slice (some ⟨w.heap.size,0,none⟩) nn nn) (by rw[hl.v_inv,hc.v_inv];exact hrun) hrr ?_ (by simp[AV.idLt])
    show _=_
    simp
   ·cases he
  ·cases he
 case store t d x=>
  have hd:=h.ev d
  have hx:=h.ev x
  split at he
  ·rename_i T id k i off hT e1
   rw[e1]at hd
   split at he
   ·rename_i ob ho
    simp only[Option.some.injEq,Prod.mk.injEq]at he
    obtain⟨rfl,rfl,rfl⟩:=he
    obtain⟨⟨hpl,hfl⟩,⟨hk,hi,hoff⟩,hone⟩:=hp
    obtain⟨g,n,c,hsv,hd'⟩:=hd
    have hob:=h.obj id ob ho
    obtain⟨xs,hown,hxs⟩:=hob.repL
    subst hk
    obtain⟨inf,dd,z,f1,f2,f3,rfl⟩:=aH hT
    simp only[]at hfl hoff hone
    have hcl:=h.cellsC hx (h.evLt x) hpl
    obtain⟨hs1,_,hs3⟩:=h.plain hx (h.evLt x) hpl
    rcases hown.2 with⟨hn,h0⟩|⟨g',cap,cur,hn,hbg,hheap,hnc,hcm,hcs,htake⟩
    ·omega
    ·rw[hn]at hsv
     simp only[Value.slice.injEq,Option.some.injEq,Addr.mk.injEq,and_true]at hsv
     obtain⟨rfl,-,-⟩:=hsv
     have hbound:i*ob.k+ob.k≤ob.es.length*ob.k:=by
      have:(i+1)*ob.k≤ob.es.length*ob.k:=Nat.mul_le_mul_right _ hi
      rw[Nat.succ_mul]at this;exact this
     have hbound2:ob.es.length*ob.k≤cap*ob.k:=Nat.mul_le_mul_right _ hnc
     have hvl:(a.eval x).cells.toList.length=inf.size:=by rw[Array.length_toList,hs1,hfl]
     have hst:=run_storeCells_at P g' (i*ob.k+off) ob.E (a.eval x).cells.toList 0 cur w hheap (by rw[hvl];omega) hs3
     simp only[Nat.add_zero]at hst
     generalize hcur':(cur.toList.take (i*ob.k+off)++(a.eval x).cells.toList++cur.toList.drop (i*ob.k+off+(a.eval x).cells.toList.length)).toArray=cur' at hst
     have hsz':cur'.size=cur.size:=by
      rw[←hcur']
      simp only[List.size_toArray,List.length_append,List.length_take,List.length_drop,Array.length_toList,hvl]
      simp only[Array.length_toList]at hvl
      omega
     have hg:w.grownBy (w.setRow g' cur') (some g'):=⟨rfl,rfl,rfl,by simp[World.setRow],fun k _ hk=>setRow_other w g' k _ (fun e=>hk (by rw[e]))⟩
     have hblk:(loc id).ownBlock=some g':=by rw[hn];rfl
     have hold:=hob.flat (nth ob.es i) (d8 hi)
     have hnew:(setE (nth ob.es i) off (ev st.env x)).flat=splice (nth ob.es i).flat off (ev st.env x).flat:=by
      unfold setE
      split
      ·rename_i cs hcs
       rw[hcs];rfl
      ·rename_i hne
       obtain⟨h0,h1⟩:off=0∧inf.size=ob.k:=hone.resolve_left (by
        cases hq:nth ob.es i<;>simp[AV.isAgg]
        exact hne _ hq)
       subst h0
       unfold splice
       rw[List.take_zero,List.nil_append,Nat.zero_add,List.drop_eq_nil_of_le (by rw[hold,hfl,h1];exact Nat.le_refl _),List.append_nil]
     have hnl:(setE (nth ob.es i) off (ev st.env x)).flat.length=ob.k:=by
      rw[hnew];unfold splice
      simp only[List.length_append,List.length_take,List.length_drop,hold,hfl];omega
     have hflat2:((ob.es.set i (setE (nth ob.es i) off (ev st.env x))).flatMap AV.flat)=splice (ob.es.flatMap AV.flat) (i*ob.k+off) (ev st.env x).flat:=by
      rw[tP hob.flat hi hnl,hnew]
      exact A4 _ _ _ _ _ _ hold (by rw[bR hob.flat];exact hbound) (by rw[hfl];exact hoff) (fun q hq=>gV hob.flat hi hq)
     have hmono:∀b,M b→(w.setRow g' cur').heap[b]? =w.heap[b]? :=fun b hb=>hg.block b (h.zone b hb).1 (fun e=>hob.away g' hblk (by rw[Option.some.inj e]at hb;exact hb))
     have hnewL:RepL (RepC w M loc st.heap.length) (cur'.toList.take (ob.es.length*ob.k)) (splice (ob.es.flatMap AV.flat) (i*ob.k+off) (ev st.env x).flat):=by
      have:=hxs.splice hcl (o:=i*ob.k+off) (by rw[bR hob.flat,hfl];omega)
      refine this.of_eq ?_
      rw[←htake,←hcur']
      simp only[List.toList_toArray]
      rw[hvl]
      exact l9 _ _ _ _ _ hvl (by omega) (by rw[Array.length_toList,hcs];exact hbound2)
     have hrr:=h.change hg (fun g e=>by cases e;exact⟨hob.away _ hblk,hob.mine _ hblk⟩) id (loc id) ⟨ob.E,ob.k,ob.es.set i (setE (nth ob.es i) off (ev st.env x))⟩
      (st.heap.set id (.row ⟨ob.E,ob.k,ob.es.set i (setE (nth ob.es i) off (ev st.env x))⟩)) (fun id2 o2 hid ho2=>?_) ?_ ?_ (by simp) (fun _=>rfl) (fun g e=>by cases e;exact⟨_,_,_,hheap⟩) (fun id m hm=>map_set (fun m=>by intro e;cases e) hm) (fun id hid hl=>by simpa using hl)
     ·refine⟨.skip,_,_,undef,?_,.inr ⟨rfl,rfl⟩,hrr,(RepZ.bad _).rep,trivial⟩
      have hne:¬((a.eval x).cells.size≠inf.size):=by simp only[Array.length_toList]at hvl;omega
      simp only[execOp,Instr.storeAt,hd',Instr.sureAddr,Sem.run_bind,Sem.run_pure,Result.andThen_ok,storeVar,sizeOf,typeInfo,run_program,f1,if_neg hne,hst]
     ·rw[List.getElem?_set_ne (fun e=>hid e.symm)]at ho2
      have hsep:=h.sep id2 id o2 ob hid ho2 ho
      refine⟨ho2,?_,hsep⟩
      rw[hblk]at hsep
      exact hsep
     ·refine⟨⟨cur'.toList.take (ob.es.length*ob.k),⟨?_,.inr ⟨g',cap,cur',by simp[hn],hbg,setRow_heap w g' cur _ ob.E _ hheap,by simpa using hnc,hcm,by rw[hsz'];exact hcs,by simp⟩⟩,fun j e he=>?_⟩,fun e he=>?_,?_,hob.mine⟩
      ·simp only[List.length_set,List.length_take,Array.length_toList,hsz',hcs];omega
      ·simp only[]at he
       rw[hflat2]at he
       exact(hnewL.imp fun c e hce=>hce.mono hmono (fun _ hb=>hb) (fun i hi=>by show(if i=id then loc id else loc i)=loc i;split<;>simp_all) (by simp)).own j e he
      ·rcases List.mem_or_eq_of_mem_set he with he|he
       ·exact hob.flat e he
       ·rw[he];exact hnl
      ·intro g hg
       exact hob.away g hg
     ·rw[List.getElem?_set_self (List.getElem?_eq_some_iff.1 ho).1]
   ·cases he
  ·cases he
 case call c=>
  obtain⟨callee,args,ats⟩:=c
  obtain⟨args⟩:=args
  obtain⟨ats⟩:=ats
  split at he
  ·rename_i s x t t' e1 e2 e3
   simp only[]at e1 e2 e3
   subst e1;subst e2;subst e3
   split at he
   ·rename_i htt
    subst htt
    have:=GC (P:=P) (ty:=ty) h (h.ev s) (h.ev x) he hp
    simpa[execOp,resolve,invoke,builtin]using this
   ·have:=DV (P:=P) (ty:=ty) h (h.ev s) (h.ev x) he hp
    simpa[execOp,resolve,invoke,builtin]using this
  ·rename_i s t e1 e2 e3
   simp only[]at e1 e2 e3
   subst e1;subst e2;subst e3
   have:=GD (P:=P) (ty:=ty) h (h.ev s) he hp
   simpa[execOp,resolve,invoke,builtin]using this
  ·rename_i s x t t' e1 e2 e3
   simp only[]at e1 e2 e3
   subst e1;subst e2;subst e3
   have:=GE (P:=P) (ty:=ty) (t':=t') h (h.ev s) (h.ev x) he hp
   simpa[execOp,resolve,invoke,builtin]using this
  ·cases he
end
end Go.Ab
namespace Go.Ab
open Go.RowKit
def keyEq(P:Program)(t:Nat)(x y:AV):Option Bool:=
 match tyk P t,x,y with
 |some ⟨.struct fs,_,_,_⟩,.agg xs,.agg ys=>if eqOK P t=true then eqFs P 0 fs xs ys else none
 |T,x,y=>eqV T x y
def findA(P:Program)(t:Nat)(k:AV):List (AV×AV)→Option (Option AV)
 | []=>some none
 |(a,v)::l=>match keyEq P t k a with
  |some true=>some (some v)
  |some false=>findA P t k l
  |none=>none
def updA(P:Program)(t:Nat)(k x:AV):List (AV×AV)→Option (List (AV×AV))
 | []=>some [(k,x)]
 |(a,v)::l=>match keyEq P t k a with
  |some true=>some ((k,x)::l)
  |some false=>(updA P t k x l).map ((a,v):: ·)
  |none=>none
section
variable{P:Program}{w w':World}{M:Nat→Prop}{loc:Nat→Value}
theorem C3{a b:ByteArray}:(a==b)=true↔a=b:=by
 obtain⟨⟨x⟩⟩:=a
 obtain⟨⟨y⟩⟩:=b
 have:((⟨⟨x⟩⟩:ByteArray)==⟨⟨y⟩⟩)=(x==y):=by
  show((⟨x⟩:Array UInt8)==⟨y⟩)=(x==y)
  simp
 rw[this]
 simp
theorem tR{t:Nat}{x y:AV}{r:Bool}(h:eqV (tyk P t) x y=some r){a b:Value}(ha:RepZ w M a x)(hb:RepZ w M b y)(hr:r=true)(n:Nat):Instr.sameBits n b a=true:=by
 have ha':=ha.rep (loc:=fun _=>undef)
 have hb':=hb.rep (loc:=fun _=>undef)
 subst hr
 unfold eqV at h
 split at h
 ·split at h
  ·rename_i hk
   subst hk
   have h:=Option.some.inj h
   rw[ha'.v_inv,hb'.v_inv]
   simp only[beq_iff_eq]at h
   subst h
   simp[Instr.sameBits]
  ·cases h
 ·have h:=Option.some.inj h
  rw[ha'.v_inv,hb'.v_inv]
  have h2:=C3.1 h
  subst h2
  simp only[Instr.sameBits];exact h
 ·have h:=Option.some.inj h
  rw[ha'.v_inv,hb'.v_inv]
  simp only[beq_iff_eq]at h
  subst h
  simp[Instr.sameBits]
 ·cases h
theorem pQ:∀(fs:List (Nat×Nat)) (i:Nat) (xs ys:List AV) (as bs:List Value),eqFs P i fs xs ys=some true→as.length=xs.length→bs.length=ys.length→(∀(j:Nat) (c:Value) (e:AV),as[j]? =some c→xs[j]? =some e→RepZ w M c e)→(∀(j:Nat) (c:Value) (e:AV),bs[j]? =some c→ys[j]? =some e→RepZ w M c e)→
  ∀n,(bs.length==as.length)=true∧(bs.zip as).all (fun(x,y)=>Instr.sameBits n x y)=true
 | [],i,[],[],as,bs,_,h1,h2,_,_,n=>by
   have e1:as=[]:=List.eq_nil_of_length_eq_zero h1
   have e2:bs=[]:=List.eq_nil_of_length_eq_zero h2
   subst e1;subst e2;simp
 | [],i,_::_,_,_,_,h,_,_,_,_,_=>by simp[eqFs]at h
 | [],i,[],_::_,_,_,h,_,_,_,_,_=>by simp[eqFs]at h
 |(o,t)::fs,i,[],_,_,_,h,_,_,_,_,_=>by simp[eqFs]at h
 |(o,t)::fs,i,_::_,[],_,_,h,_,_,_,_,_=>by simp[eqFs]at h
 |(o,t)::fs,i,x::xs,y::ys,[],_,_,h1,_,_,_,_=>by simp at h1
 |(o,t)::fs,i,x::xs,y::ys,_::_,[],_,_,h2,_,_,_=>by simp at h2
 |(o,t)::fs,i,x::xs,y::ys,a::as,b::bs,h,h1,h2,hx,hy,n=>by
  simp only[eqFs]at h
  split at h
  ·split at h
   ·rename_i r1 r2 e1 e2
    have h:=Option.some.inj h
    simp only[Bool.and_eq_true]at h
    have ih:=pQ fs (i+1) xs ys as bs (by rw[e2,h.2]) (by simpa using h1) (by simpa using h2) (fun j c e hc he=>hx (j+1) c e (by simpa using hc) (by simpa using he)) (fun j c e hc he=>hy (j+1) c e (by simpa using hc) (by simpa using he)) n
    have hb:=tR e1 (hx 0 a x rfl rfl) (hy 0 b y rfl rfl) h.1 n
    refine⟨by simpa using ih.1,?_⟩
    simp only[List.zip_cons_cons,List.all_cons,hb,ih.2,Bool.and_self]
   ·cases h
  ·cases h
theorem nU{t:Nat}{x y:AV}{r:Bool}(h:keyEq P t x y=some r){a b:Value}(ha:RepZ w M a x)(hb:RepZ w M b y):(Op.equal t a b).run P w=.ok r w∧(r=true→Instr.sameBits 10000 b a=true):=by
 unfold keyEq at h
 split at h
 ·rename_i fs _ _ _ xs ys hT
  split at h
  ·rename_i hE
   obtain⟨as,rfl,hla,hra⟩:∃as:Array Value,a=.agg as∧as.size=xs.length∧∀(j:Nat) (c:Value) (e:AV),as[j]? =some c→xs[j]? =some e→RepZ w M c e:=by
    cases ha with
    |agg cs es hl hr=>exact⟨cs,rfl,hl,hr⟩
   obtain⟨bs,rfl,hlb,hrb⟩:∃bs:Array Value,b=.agg bs∧bs.size=ys.length∧∀(j:Nat) (c:Value) (e:AV),bs[j]? =some c→ys[j]? =some e→RepZ w M c e:=by
    cases hb with
    |agg cs es hl hr=>exact⟨cs,rfl,hl,hr⟩
   obtain⟨i,d',z,h1,h2,h3,h4⟩:=aH hT
   obtain⟨fa,rfl,hfs⟩:=dM (d:=d') (by have:=congrArg TK.k h4;exact this.symm)
   have hfo:P.fieldsOf t=fa:=by unfold Program.fieldsOf;rw[h2]
   unfold eqOK at hE
   simp only[h2,Bool.and_eq_true,Bool.not_eq_true']at hE
   obtain⟨⟨hn,hst⟩,hgd⟩:=hE
   have heq:=wJ (P:=P) (w:=w) (M:=M) 9998 as bs fa.toList 0 xs ys r (by simpa using hn) (by rw[←hfs];exact h) (fun j c e h1 h2=>hra j c e (by simpa using h1) h2) (fun j c e h1 h2=>hrb j c e (by simpa using h1) h2) (by omega) (by omega)
   refine⟨?_,fun hr=>?_⟩
   ·show(Op.equalIn 10000 t _ _).run P w=_
    rw[run_equalIn_struct (P:=P) w 9999 t as bs (by rw[hfo];exact h2) hst,hfo,heq]
   ·subst hr
    have:=pQ (P:=P) (w:=w) (M:=M) fs 0 xs ys as.toList bs.toList h (by simpa using hla) (by simpa using hlb) (fun j c e hc he=>hra j c e (by simpa using hc) he) (fun j c e hc he=>hrb j c e (by simpa using hc) he) 9999
    simp only[Instr.sameBits,Bool.and_eq_true]
    exact⟨by simpa using this.1,this.2⟩
  ·cases h
 ·rename_i T x y _
  obtain⟨_,h2⟩:=uG (P:=P) (w:=w) (M:=M) (d:=9999) h ha hb
  exact⟨h2,fun hr=>tR h ha hb hr _⟩
theorem DW{α:Type}{l:List α}{g:α→PUnit→Sem (ForInStep PUnit)}(h:∀f∈l,(g f PUnit.unit).run P w=.ok (ForInStep.yield PUnit.unit) w):(forIn l PUnit.unit g).run P w=.ok PUnit.unit w:=by
 induction l with
 |nil=>rfl
 |cons f l ih=>
  simp only[List.forIn_cons,Sem.run_bind,h f (by simp),Result.andThen_ok]
  exact ih fun f hf=>h f (by simp[hf])
theorem eW{t:Nat}{k:AV}(h:(keyEq P t k k).isSome=true){x:Value}(hx:RepZ w M x k)(b:Bool):(Instr.checkKey b 10000 t x).run P w=.ok () w:=by
 have scal:∀(t:Nat) (k:AV) (x:Value) (n:Nat),(eqV (tyk P t) k k).isSome=true→RepZ w M x k→(Instr.checkKey b (n+1) t x).run P w=.ok () w:=by
  intro t k x n h hx
  obtain⟨r,hr⟩:=Option.isSome_iff_exists.1 h
  have hx':=hx.rep (loc:=fun _=>undef)
  unfold eqV at hr
  split at hr
  ·rename_i kk _ _ _ k1 a k2 b hT e1
   obtain⟨i,d,z,h1,h2,h3,h4⟩:=aH hT
   have hd:d=.int kk:=jB (by have:=congrArg TK.k h4;exact this.symm)
   subst hd
   simp only[Instr.checkKey,Sem.run_bind,run_underlying h2,Result.andThen_ok];rfl
  ·rename_i a b hT e1
   obtain⟨i,d,z,h1,h2,h3,h4⟩:=aH hT
   have hd:d=.string:=jN (by have:=congrArg TK.k h4;exact this.symm)
   subst hd
   simp only[Instr.checkKey,Sem.run_bind,run_underlying h2,Result.andThen_ok];rfl
  ·rename_i a b hT e1
   obtain⟨i,d,z,h1,h2,h3,h4⟩:=aH hT
   have hd:d=.bool:=mO (by have:=congrArg TK.k h4;exact this.symm)
   subst hd
   simp only[Instr.checkKey,Sem.run_bind,run_underlying h2,Result.andThen_ok];rfl
  ·cases hr
 obtain⟨r,hr⟩:=Option.isSome_iff_exists.1 h
 unfold keyEq at hr
 split at hr
 ·rename_i fs _ _ _ xs ys hT e1
  have hxy:xs=ys:=by cases e1;rfl
  split at hr
  ·rename_i hE
   obtain⟨as,rfl,hla,hra⟩:∃as:Array Value,x=.agg as∧as.size=xs.length∧∀(j:Nat) (c:Value) (e:AV),as[j]? =some c→xs[j]? =some e→RepZ w M c e:=by
    cases hx with
    |agg cs es hl hr=>exact⟨cs,rfl,hl,hr⟩
   obtain⟨i,d',z,h1,h2,h3,h4⟩:=aH hT
   obtain⟨fa,rfl,hfs⟩:=dM (d:=d') (by have:=congrArg TK.k h4;exact this.symm)
   subst hfs
   have loop:∀(n:Nat) (fl:List Field) (i:Nat) (zs ws:List AV) (r:Bool),eqFs P i (fl.map fun f=>(f.offset,f.type)) zs ws=some r→(∀(j:Nat) (e:AV),zs[j]? =some e→ws[j]? =some e)→(∀(j:Nat) (c:Value) (e:AV),as[i+j]? =some c→zs[j]? =some e→RepZ w M c e)→as.size=i+zs.length→
     ∀f∈fl,∃v,(part f.type as f.offset).run P w=.ok v w∧(Instr.checkKey b (n+1) f.type v).run P w=.ok () w:=by
    intro n fl
    induction fl with
    |nil=>intro i zs ws r _ _ _ _ f hf;cases hf
    |cons f fl ih=>
     intro i zs ws r he hzw hr hs
     cases zs with
     |nil=>cases ws<;>simp[eqFs]at he
     |cons z zs=>
      cases ws with
      |nil=>simp[eqFs]at he
      |cons q ws=>
       simp only[List.map_cons,eqFs]at he
       split at he
       ·rename_i hoff
        split at he
        ·rename_i r1 r2 e1 e2
         obtain⟨xv,hxi⟩:∃xv,as[i]? =some xv:=⟨as[i]'(by simp at hs;omega),Array.getElem?_eq_getElem _⟩
         have hrx:=hr 0 _ z hxi rfl
         have hqz:q=z:=by have:=hzw 0 z rfl;simpa using this
         subst hqz
         obtain⟨hpart,_⟩:=uG (P:=P) (w:=w) (M:=M) (d:=0) e1 hrx hrx
         have ep:=hpart as f.offset _ (by rw[hoff];exact hxi)
         have ec:=scal f.type q xv n (by rw[e1];rfl) hrx
         have ih':=ih (i+1) zs ws r2 e2 (fun j e hj=>by have:=hzw (j+1) e (by simpa using hj);simpa using this) (fun j c e h1 h2=>hr (j+1) c e (by rw[←h1];congr 1;omega) (by simpa using h2)) (by simp at hs;omega)
         intro g hg
         rcases List.mem_cons.1 hg with rfl|hg
         ·exact⟨xv,ep,ec⟩
         ·exact ih' g hg
        ·cases he
       ·cases he
   have key:∀m n,m=n+1→(Instr.checkKey b (m+1) t (.agg as)).run P w=.ok () w:=by
    intro m n hmn
    have hl:=loop n fa.toList 0 xs ys r hr (fun j e h=>by
     rw[hxy]at h;exact h) (fun j c e h1 h2=>hra j c e (by simpa using h1) h2) (by omega)
    rw[←hmn]at hl
    simp only[Instr.checkKey,Sem.run_bind,run_underlying h2,Result.andThen_ok]
    rw[←Array.forIn_toList]
    rw[DW (fun f hf=>by
     obtain⟨v,h1,h2⟩:=hl f hf
     by_cases hn:f.name= "_"<;>simp only[hn,ne_eq,not_true_eq_false,not_false_eq_true,if_true,if_false,Sem.run_bind,h1,h2,Result.andThen_ok,Sem.run_pure])]
    simp only[Result.andThen_ok,Sem.run_pure]
   exact key 9999 9998 rfl
  ·cases hr
 ·rename_i T k' _ _
  exact scal t _ x 9999 (by rw[hr];rfl) hx
theorem iE{t:Nat}{k:AV}{x:Value}(hx:RepZ w M x k):∀(es:List MapEntry) (l:List (AV×AV)) (s:Nat) (r:Option AV),es.length=l.length→
  (∀(j:Nat) (e:MapEntry) (q:AV×AV),es[j]? =some e→l[j]? =some q→RepZ w M e.key q.1∧RepZ w M e.val q.2)→findA P t k l=some r→
  (∃i e q,r=some q.2∧es[i]? =some e∧l[i]? =some q∧(Instr.findAsking t x es s).run P w=.ok (some (s+i,e.val)) w∧RepZ w M e.val q.2∧Instr.sameBits 10000 e.key x=true∧
   ∀y,updA P t k y l=some (l.set i (k,y)))∨
  (r=none∧(Instr.findAsking t x es s).run P w=.ok none w∧∀y,updA P t k y l=some (l++[(k,y)]))
 | [],l,s,r,hl,_,hf=>by
   have:l=[]:=List.eq_nil_of_length_eq_zero (by simpa using hl.symm)
   subst this
   simp only[findA,Option.some.injEq]at hf
   subst hf
   exact .inr ⟨rfl,rfl,fun y=>rfl⟩
 |e::es,[],s,r,hl,_,hf=>by simp at hl
 |e::es,(a,v)::l,s,r,hl,he,hf=>by
  simp only[findA]at hf
  obtain⟨hk,hv⟩:=he 0 e (a,v) rfl rfl
  split at hf
  ·rename_i heq
   obtain rfl:=Option.some.inj hf
   obtain⟨h3,h4⟩:=nU (P:=P) (w:=w) (M:=M) heq hx hk
   refine .inl ⟨0,e,(a,v),rfl,rfl,rfl,?_,hv,h4 rfl,fun z=>?_⟩
   ·simp only[Instr.findAsking,Sem.run_bind,h3,Result.andThen_ok,if_true,Sem.run_pure,Nat.add_zero]
   ·simp only[updA,heq,List.set_cons_zero]
  ·rename_i heq
   obtain⟨h3,h4⟩:=nU (P:=P) (w:=w) (M:=M) heq hx hk
   have ih:=iE hx es l (s+1) r (by simpa using hl) (fun j e' q h1 h2=>he (j+1) e' q (by simpa using h1) (by simpa using h2)) hf
   rcases ih with⟨i,e',q,h5,h6,h7,h8,h9,h10,h11⟩|⟨h5,h6,h7⟩
   ·refine .inl ⟨i+1,e',q,h5,by simpa using h6,by simpa using h7,?_,h9,h10,fun z=>?_⟩
    ·simp only[Instr.findAsking,Sem.run_bind,h3,Result.andThen_ok,Bool.false_eq_true,if_false,h8]
     rw[show s+1+i=s+(i+1) by omega]
    ·simp only[updA,heq,h11 z,Option.map_some,List.set_cons_succ]
   ·refine .inr ⟨h5,?_,fun z=>?_⟩
    ·simp only[Instr.findAsking,Sem.run_bind,h3,Result.andThen_ok,Bool.false_eq_true,if_false,h6]
    ·simp only[updA,heq,h7 z,Option.map_some,List.cons_append]
  ·cases hf
theorem gI{t:Nat}{d:TypeDesc}(hu:P.underlying t=some d)(x:Value):∀(es:List MapEntry) (s:Nat) (r:Option (Nat×Value)),Instr.findNow d x es s=some r→(Instr.findAsking t x es s).run P w=.ok r w
 | [],s,r,h=>by simp only[Instr.findNow,Option.some.injEq]at h;subst h;rfl
 |e::es,s,r,h=>by
  have hone:∀b,Instr.sameNow d x e.key=some b→(Op.equal t x e.key).run P w=.ok b w:=by
   intro b hb
   show(Op.equalIn 10000 t _ _).run P w=_
   unfold Instr.sameNow at hb
   split at hb
   ·rename_i hek
    rw[hek]
    split at hb
    ·rename_i hk
     subst hk
     obtain rfl:=Option.some.inj hb
     exact run_equalIn_int w 9999 t _ _ _ _ hu
    ·cases hb
   ·rename_i hek
    rw[hek]
    obtain rfl:=Option.some.inj hb
    rw[run_equalIn_string w 9999 t _ _ hu,beq_toListBytes]
   ·rename_i hek
    rw[hek]
    obtain rfl:=Option.some.inj hb
    exact run_equalIn_bool' w 9999 t _ _ hu
   ·cases hb
  simp only[Instr.findNow]at h
  split at h
  ·rename_i hs
   obtain rfl:=Option.some.inj h
   simp only[Instr.findAsking,Sem.run_bind,hone _ hs,Result.andThen_ok,if_true,Sem.run_pure]
  ·rename_i hs
   simp only[Instr.findAsking,Sem.run_bind,hone _ hs,Result.andThen_ok,Bool.false_eq_true,if_false]
   exact gI hu x es (s+1) r h
  ·cases h
theorem nV{t:Nat}{d:TypeDesc}(hu:P.underlying t=some d)(x:Value)(es:List MapEntry):(Instr.findKey t x es).run P w=(Instr.findAsking t x es).run P w:=by
 simp only[Instr.findKey,Sem.run_bind,run_underlying hu,Result.andThen_ok]
 cases h:Instr.findNow d x es 0 with
 |none=>rfl
 |some r=>rw[gI hu x es 0 r h];rfl
theorem A5{t:Nat}{k:AV}(h:(keyEq P t k k).isSome=true):∃d,P.underlying t=some d:=by
 obtain⟨r,hr⟩:=Option.isSome_iff_exists.1 h
 cases hT:tyk P t with
 |none=>
  unfold keyEq at hr
  rw[hT]at hr
  simp[eqV]at hr
 |some T=>
  obtain⟨i,d,z,h1,h2,_⟩:=aH hT
  exact⟨d,h2⟩
theorem nW{t:Nat}{k:AV}(hkey:(keyEq P t k k).isSome=true){x:Value}(hx:RepZ w M x k)(es:List MapEntry)(l:List (AV×AV))(r:Option AV)(hl:es.length=l.length)
  (he:∀(j:Nat) (e:MapEntry) (q:AV×AV),es[j]? =some e→l[j]? =some q→RepZ w M e.key q.1∧RepZ w M e.val q.2) (hf:findA P t k l=some r):
  (∃i e q,r=some q.2∧es[i]? =some e∧l[i]? =some q∧(Instr.findKey t x es).run P w=.ok (some (i,e.val)) w∧RepZ w M e.val q.2∧Instr.sameBits 10000 e.key x=true∧
   ∀y,updA P t k y l=some (l.set i (k,y)))∨
  (r=none∧(Instr.findKey t x es).run P w=.ok none w∧∀y,updA P t k y l=some (l++[(k,y)])):=by
 obtain⟨d,hu⟩:=A5 hkey
 rw[nV hu]
 have:=iE (P:=P) (w:=w) (M:=M) (t:=t) hx es l 0 r hl he hf
 simpa using this
end
end Go.Ab
namespace Go.Ab
open Go.RowKit
def foundA(T:TK):Option AV→AV
 |some v=>v
 |none=>T.zero
def lookA(P:Program)(K V:Nat)(k:AV)(es:List (AV×AV))(ok:Bool):Option AV:=
 match tyk P V,findA P K k es with
 |some T,some r=>some (if ok then .tup [foundA T r,.v (.bool r.isSome)]else foundA T r)
 |_,_=>none
def mapPur(P:Program)(H:List Cell)(ρ:Operand→AV):Op→Option (Prop×AV)
 | .lookup t m k ok=>match tyk P t,ρ m with
   |some ⟨.map K V,_,_,_⟩,.ow id=>match H[id]? with
    |some (.map mo)=>(lookA P K V (ρ k) mo.es ok).map fun r=>((mo.K=K∧mo.V=V)∧(keyEq P K (ρ k) (ρ k)).isSome=true∧(ρ k).zone=true,r)
    |_=>none
   |_,_=>none
 |_=>none
def mapEff(P:Program)(H:List Cell)(ρ:Operand→AV):Op→Option (Prop×AV×List Cell)
 | .makeMap t none=>match tyk P t with
   |some ⟨.map K V,_,_,_⟩=>some (True,.ow H.length,H++[.map ⟨K,V,[]⟩])
   |_=>none
 | .mapUpdate t m k x=>match tyk P t,ρ m with
   |some ⟨.map K V,_,_,_⟩,.ow id=>match H[id]? with
    |some (.map mo)=>(updA P K (ρ k) (ρ x) mo.es).map fun es=>(((mo.K=K∧mo.V=V)∧(keyEq P K (ρ k) (ρ k)).isSome=true∧(ρ k).zone=true)∧(ρ x).zone=true,.bad,H.set id (.map ⟨K,V,es⟩))
    |_=>none
   |_,_=>none
 |_=>none
section
variable{P:Program}{w w':World}{M:Nat→Prop}{loc:Nat→Value}
theorem A6{X:Ctx}{st:St}{o:Oper}{a:Act}{ρ:Operand→AV}(h:RR X M loc st a w)(hρ:∀x∈o.op.operands,Rep w M loc (a.eval x) (ρ x)){p:Prop}{r:AV}
  (he:mapPur P st.heap ρ o.op=some (p,r)) (hp:p):∃v,(execOp a.eval o).run P w=.ok (.value v) w∧RepZ w M v r:=by
 obtain⟨dst,op,ty,pos,after,guard⟩:=o
 simp only[]at he hρ
 cases op<;>simp only[mapPur,reduceCtorEq]at he
 case lookup t m k ok=>
  have hm:=hρ m (by simp[Op.operands])
  have hk:=hρ k (by simp[Op.operands])
  split at he
  ·rename_i K V _ _ _ id hT e1
   rw[e1]at hm
   obtain⟨i1,d,z1,g1,g2,g3,g4⟩:=aH hT
   have:=wI (d:=d) (by have:=congrArg TK.k g4;exact this.symm)
   subst this
   split at he
   ·rename_i mo ho
    cases hl:lookA P K V (ρ k) mo.es ok with
    |none=>simp[hl]at he
    |some r'=>
     simp only[hl,Option.map_some,Option.some.injEq,Prod.mk.injEq]at he
     obtain⟨rfl,rfl⟩:=he
     obtain⟨⟨hK,hV⟩,hkey,hkz⟩:=hp
     obtain⟨g,es,clock,h1,h2,h3,h4,h5⟩:=(h.mobj id mo ho).own
     have hkr:=hk.repZ hkz
     have hmv:a.eval m=.map (some g):=by
      have:a.eval m=loc id:=hm
      rw[this,h1]
     unfold lookA at hl
     split at hl
     ·rename_i T rr hVt hf
      obtain⟨iV,dV,zV,f1,f2,f3,rfl⟩:=aH hVt
      simp only[Option.some.injEq]at hl
      have hg:(getObj g).run P w=.ok (.map es clock) w:=by simp only[getObj,Sem.run,h4]
      have hz:(zeroValue V).run P w=.ok zV w:=by simp[zeroValue,typeInfo,f1,f3]
      have hfin:∃fr v,(Instr.findKey K (a.eval k) es.toList).run P w=.ok fr w∧((∃i,fr=some (i,v)∧rr.isSome=true)∨(fr=none∧v=zV∧rr.isSome=false))∧RepZ w M v (foundA ⟨kOf dV,iV.size,iV.bytes,zeroOf zV⟩ rr):=by
       rcases nW (w:=w) (M:=M) hkey hkr es.toList mo.es rr (by simpa using h5.1) (fun j e q h1 h2=>h5.2 j e q (by simpa using h1) h2) hf with⟨i,e,q,rfl,e2,e3,e4,e5,_⟩|⟨rfl,e4,_⟩
       ·exact⟨some (i,e.val),e.val,e4,.inl ⟨_,rfl,rfl⟩,e5⟩
       ·exact⟨none,zV,e4,.inr ⟨rfl,rfl,rfl⟩,cL zV⟩
      obtain⟨fr,v,e2,e4,e3⟩:=hfin
      refine⟨if ok then .tuple #[v,.bool rr.isSome]else v,?_,?_⟩
      ·rcases e4 with⟨i,rfl,e5⟩|⟨rfl,rfl,e5⟩
       ·simp only[execOp,Instr.lookup,hmv,Sem.run_bind,run_underlying g2,Result.andThen_ok,hg,Sem.run_pure,eW hkey hkr,e2,e5]
       ·simp only[execOp,Instr.lookup,hmv,Sem.run_bind,run_underlying g2,Result.andThen_ok,hg,Sem.run_pure,eW hkey hkr,e2,hz,e5]
      ·rw[←hl]
       cases ok
       ·exact e3
       ·simp only[if_true]
        refine .tup _ _ rfl fun j c e h1 h2=>?_
        match j with
        |0=>simp at h1 h2;subst h1;subst h2;exact e3
        |1=>simp at h1 h2;subst h1;subst h2;exact .v _
        |j+2=>simp at h2
     ·cases hl
   ·cases he
  ·cases he
theorem gJ{es:Array MapEntry}{i j:Nat}{k x:Value}{e:MapEntry}(h:(es.modify i fun e=>{e with key:=k,val:=x})[j]? =some e):∃e0,es[j]? =some e0∧e.born=e0.born:=by
 rw[Array.getElem?_modify]at h
 split at h
 ·cases hj:es[j]? with
  |none=>rw[hj]at h;cases h
  |some e0=>rw[hj]at h;cases h;exact⟨e0,rfl,rfl⟩
 ·exact⟨e,h,rfl⟩
theorem RR.changeMap{X:Ctx}{st:St}{a:Act}(h:RR X M loc st a w)(g:Nat)(hg:∀k,k<w.heap.size→k≠g→w'.heap[k]? =w.heap[k]?)(hs:w.heap.size≤w'.heap.size)(hos:w'.os=w.os)(htp:w'.tape=w.tape)(hout:w'.output=w.output)
  (hgM:¬M g) (hgb:X.own g) (hgc:g<w.heap.size→∃es c,w.heap[g]? =some (.map es c))
  (c:Nat) (m':MOb) (H':List Cell) (es':Array MapEntry) (clock':Nat) (hnew:w'.heap[g]? =some (.map es' clock')) (hent:EntOK w M es' clock' m'.es)
  (hold:∀id x,id≠c→H'[id]? =some x→st.heap[id]? =some x) (hne:∀id m,id≠c→st.heap[id]? =some (.map m)→loc id≠.map (some g))
  (hc:H'[c]? =some (.map m')) (hlen:st.heap.length≤H'.length) (hloc:c<st.heap.length→loc c=.map (some g)):
  RR X M (fun id=>if id=c then .map (some g)else loc id) {st with heap:=H'} a w':=by
 have hM:∀b,M b→w'.heap[b]? =w.heap[b]? :=fun b hb=>hg b (h.zone b hb).1 (fun e=>hgM (e▸hb))
 have hgr:w.grownBy w' (some g):=⟨hos,htp,hout,hs,fun k hk hn=>hg k hk (fun e=>hn (by rw[e]))⟩
 refine⟨fun s=>?_,h.nle,h.size,h.defers,fun id o ho=>?_,fun i j oi oj hij hi hj=>?_,fun id m hm=>?_,fun i j mi mj hij hi hj=>?_,?_,fun b hb=>⟨Nat.lt_of_lt_of_le (h.zone b hb).1 hs,(h.zone b hb).2⟩,h.zin,h.zlt,fun id hid=>?_,fun s=>AV.idLt_up hlen (h.ids s)⟩
 ·refine Rep.mono (n:=st.heap.length) hM (fun _ hb=>hb) (fun id hid=>?_) (h.env s) (h.ids s)
  split
  ·rename_i e;subst e;exact(hloc hid).symm
  ·rfl
 ·have hid:id≠c:=by rintro rfl;rw[hc]at ho;cases ho
  rw[if_neg hid]
  have ho':=hold id _ hid ho
  have hob:=h.obj id o ho'
  refine hob.kept hgr ?_ (fun k e=>by cases e;exact hgM) (fun b hb=>(h.zone b hb).1) (fun i hi=>by
   split
   ·rename_i e;subst e;exact(hloc hi).symm
   ·rfl) hlen
  cases hb:(loc id).ownBlock with
  |none=>exact .inl rfl
  |some b=>
   right
   intro e
   cases e
   obtain⟨xs,hown,_⟩:=hob.own
   obtain⟨cs,t,fr,hcells⟩:=bG hown _ hb
   obtain⟨es,cc,hm⟩:=hgc (hown.lt _ hb).2
   rw[hm]at hcells;cases hcells
 ·have h1:i≠c:=by rintro rfl;rw[hc]at hi;cases hi
  have h2:j≠c:=by rintro rfl;rw[hc]at hj;cases hj
  rw[if_neg h1,if_neg h2]
  exact h.sep i j oi oj hij (hold i _ h1 hi) (hold j _ h2 hj)
 ·by_cases hid:id=c
  ·subst hid
   rw[if_pos rfl]
   have:m=m':=by rw[hc]at hm;cases hm;rfl
   subst this
   exact⟨g,es',clock',rfl,hgb,hgM,hnew,hent.mono hM (fun _ hb=>hb)⟩
  ·rw[if_neg hid]
   have hm':=hold id _ hid hm
   obtain⟨g2,es,cl,h1,h2,h3,h4,h5⟩:=(h.mobj id m hm').own
   refine⟨g2,es,cl,h1,h2,h3,?_,h5.mono hM (fun _ hb=>hb)⟩
   rw[hg g2 (Array.getElem?_eq_some_iff.1 h4).1 (fun e=>hne id m hid hm' (by rw[h1,e]))]
   exact h4
 ·by_cases hic:i=c
  ·subst hic
   have hjc:j≠i:=fun e=>hij e.symm
   rw[if_pos rfl,if_neg hjc]
   exact(hne j mj hjc (hold j _ hjc hj)).symm
  ·rw[if_neg hic]
   by_cases hjc:j=c
   ·subst hjc
    rw[if_pos rfl]
    exact hne i mi hic (hold i _ hic hi)
   ·rw[if_neg hjc]
    exact h.msep i j mi mj hij (hold i _ hic hi) (hold j _ hjc hj)
 ·exact⟨hgr.os.trans h.below.os,hgr.tape.trans h.below.tape,hgr.output.trans h.below.output,Nat.le_trans h.below.size hgr.size,fun k hk hT=>by
   rw[hgr.block k (Nat.lt_of_lt_of_le hk h.below.size) (fun e=>by
    cases e
    rcases hgb with h1|h1
    ·omega
    ·exact hT h1)]
   exact h.below.block k hk hT⟩
 ·show Value.oneCell' (if id=c then .map (some g)else loc id)=true
  split
  ·rfl
  ·rename_i hne';exact h.one id (List.getElem?_eq_some_iff.1 (hold id _ hne' (List.getElem?_eq_getElem hid))).1
theorem lB{t:Nat}{k x:AV}:∀(l es2:List (AV×AV)),updA P t k x l=some es2→∃rr,findA P t k l=some rr
 | [],es2,_=>⟨_,rfl⟩
 |(a,v)::l,es2,h=>by
  simp only[updA]at h
  simp only[findA]
  cases hq:keyEq P t k a with
  |none=>rw[hq]at h;cases h
  |some b=>
   rw[hq]at h
   cases b
   ·simp only[]at h⊢
    cases hr:updA P t k x l with
    |none=>rw[hr]at h;cases h
    |some es3=>exact lB l es3 hr
   ·exact⟨_,rfl⟩
theorem pR{X:Ctx}{st:St}{o:Oper}{a:Act}(h:RR X M loc st a w){p:Prop}{r:AV}{H':List Cell}
  (he:mapEff P st.heap (ev st.env) o.op=some (p,r,H')) (hp:p):EffOK P X st a w M (execOp a.eval o) r H':=by
 obtain⟨dst,op,ty,pos,after,guard⟩:=o
 simp only[]at he
 cases op<;>simp only[mapEff,reduceCtorEq]at he
 case makeMap t rs=>
  cases rs with
  |some x=>simp only[mapEff,reduceCtorEq]at he
  |none=>
  simp only[mapEff]at he
  split at he
  ·rename_i K V _ _ _ hT
   simp only[Option.some.injEq,Prod.mk.injEq]at he
   obtain⟨rfl,rfl,rfl⟩:=he
   have hrr:=h.changeMap (w':=w.alloc (.map #[] 0)) w.heap.size (fun k hk _=>Below.heap_alloc w _ k hk) (by simp) rfl rfl rfl (fun hm=>by have:=(h.zone _ hm).1;omega) (.inl h.below.size) (fun e=>by omega)
    st.heap.length ⟨K,V,[]⟩ (st.heap++[.map ⟨K,V,[]⟩]) #[] 0 (heap_alloc_new w _) ⟨rfl,by simp,by simp,by simp⟩ (fun id x hid hx=>by
     by_cases hlt:id<st.heap.length
     ·rwa [List.getElem?_append_left hlt]at hx
     ·have:=(List.getElem?_eq_some_iff.1 hx).1
      simp at this;omega) (fun id m _ hm e=>by
     obtain⟨g2,es,cl,h1,h2,h3,h4,h5⟩:=(h.mobj id m hm).own
     rw[h1]at e
     simp at e
     have:=(Array.getElem?_eq_some_iff.1 h4).1
     omega) (by simp) (by simp) (fun e=>by omega)
   refine EffOK.lift (v:=.map (some w.heap.size)) ?_ hrr ?_ (by simp[AV.idLt])
   ·simp[Instr.makeMap]
   ·show _=_
    simp
  ·cases he
 case mapUpdate t m k x=>
  have hm:=h.ev m
  have hk:=h.ev k
  have hx:=h.ev x
  split at he
  ·rename_i K V _ _ _ id hT e1
   rw[e1]at hm
   obtain⟨i1,d,z1,g1,g2,g3,g4⟩:=aH hT
   have:=wI (d:=d) (by have:=congrArg TK.k g4;exact this.symm)
   subst this
   split at he
   ·rename_i mo ho
    cases hu':updA P K (ev st.env k) (ev st.env x) mo.es with
    |none=>simp[hu']at he
    |some es2=>
     simp only[hu',Option.map_some,Option.some.injEq,Prod.mk.injEq]at he
     obtain⟨rfl,rfl,rfl⟩:=he
     obtain⟨⟨⟨hK,hV⟩,hkey,hkz⟩,hxz⟩:=hp
     obtain⟨g,es,clock,h1,h2,h3,h4,h5⟩:=(h.mobj id mo ho).own
     have hkr:=hk.repZ hkz
     have hxr:=hx.repZ hxz
     have hmv:a.eval m=.map (some g):=by
      have:a.eval m=loc id:=hm
      rw[this,h1]
     have hg:(getObj g).run P w=.ok (.map es clock) w:=by simp only[getObj,Sem.run,h4]
     have hgl:g<w.heap.size:=(Array.getElem?_eq_some_iff.1 h4).1
     have hset:∀e2 c2,(setObj g (.map e2 c2)).run P w=.ok () {w with heap:=w.heap.setIfInBounds g (.map e2 c2)}:=fun e2 c2=>by simp only[setObj,Sem.run,h4]
     have hfr:=lB mo.es es2 hu'
     obtain⟨rr,hf⟩:=hfr
     have fin:∀(e2:Array MapEntry) (c2:Nat),EntOK w M e2 c2 es2→(Instr.mapUpdate t (.map (some g)) (a.eval k) (a.eval x)).run P w=.ok () {w with heap:=w.heap.setIfInBounds g (.map e2 c2)}→
       EffOK P X st a w M (execOp a.eval ⟨dst,.mapUpdate t m k x,ty,pos,after,guard⟩) .bad (st.heap.set id (.map ⟨K,V,es2⟩)):=by
      intro e2 c2 hent hrun
      have hrr:=h.changeMap (w':={w with heap:=w.heap.setIfInBounds g (.map e2 c2)}) g (fun k hk hne=>by
        show(w.heap.setIfInBounds g _)[k]? =_
        rw[Array.getElem?_setIfInBounds_ne (fun e=>hne e.symm)]) (by simp) rfl rfl rfl h3 h2 (fun _=>⟨es,clock,h4⟩)
       id ⟨K,V,es2⟩ (st.heap.set id (.map ⟨K,V,es2⟩)) e2 c2 (by show(w.heap.setIfInBounds g _)[g]? =_;rw[Array.getElem?_setIfInBounds_self_of_lt hgl]) hent (fun id2 x2 hne hx2=>by rwa [List.getElem?_set_ne (fun e=>hne e.symm)]at hx2)
       (fun id2 m2 hne hm2 e=>h.msep id2 id m2 mo hne hm2 ho (by rw[e,h1])) (by rw[List.getElem?_set_self (List.getElem?_eq_some_iff.1 ho).1]) (by simp) (fun _=>h1)
      refine⟨.skip,_,_,undef,?_,.inr ⟨rfl,rfl⟩,hrr,(RepZ.bad _).rep,trivial⟩
      simp only[execOp,hmv,Sem.run_bind,hrun,Result.andThen_ok,Sem.run_pure]
     rcases nW (w:=w) (M:=M) hkey hkr es.toList mo.es rr (by simpa using h5.1) (fun j e q h1 h2=>h5.2 j e q (by simpa using h1) h2) hf with⟨i,e,q,rfl,e2,e3,e4,e5,e6,e7⟩|⟨rfl,e4,e7⟩
     ·rw[e7]at hu'
      cases hu'
      refine fin (es.modify i fun e=>{e with key:=a.eval k,val:=a.eval x}) clock ⟨by simpa using h5.1,fun j ej qj hj hq=>?_,fun j ej hj=>?_,fun i2 j di ej hij hi hj=>?_⟩ ?_
      ·by_cases hji:j=i
       ·subst hji
        have hjl:j<mo.es.length:=(List.getElem?_eq_some_iff.1 e3).1
        rw[List.getElem?_set_self hjl]at hq
        cases hq
        have:es[j]? =some e:=by simpa using e2
        simp[Array.getElem?_modify,this]at hj
        subst hj
        exact⟨hkr,hxr⟩
       ·rw[List.getElem?_set_ne (fun e=>hji e.symm)]at hq
        rw[Array.getElem?_modify,if_neg (fun e=>hji e.symm)]at hj
        exact h5.2 j ej qj hj hq
      ·obtain⟨e0,g1,g2⟩:=gJ hj
       rw[g2];exact h5.old j e0 g1
      ·obtain⟨d0,g1,g2⟩:=gJ hi
       obtain⟨e0,g3,g4⟩:=gJ hj
       rw[g2,g4];exact h5.age i2 j d0 e0 hij g1 g3
      ·have hkey2:(((es[i]?).map (·.key)).getD (a.eval k))=e.key:=by
        have:es[i]? =some e:=by simpa using e2
        simp[this]
       simp only[Instr.mapUpdate,Sem.run_bind,run_underlying g2,Result.andThen_ok,hg,eW hkey hkr,e4,Sem.run_pure]
       rw[hkey2]
       simp only[Instr.keyThatStays,e6,if_true,Sem.run_pure,Result.andThen_ok,hset]
     ·rw[e7]at hu'
      cases hu'
      refine fin (es.push {key:=a.eval k,val:=a.eval x,born:=clock}) (clock+1) ⟨by simp[h5.1],fun j ej qj hj hq=>?_,fun j ej hj=>?_,fun i2 j di ej hij hi hj=>?_⟩ ?_
      ·by_cases hjl:j<mo.es.length
       ·rw[List.getElem?_append_left hjl]at hq
        rw[Array.getElem?_push,if_neg (by rw[h5.1];omega)]at hj
        exact h5.2 j ej qj hj hq
       ·have hjj:j=mo.es.length:=by
         have:=(List.getElem?_eq_some_iff.1 hq).1
         simp at this;omega
        subst hjj
        simp at hq
        subst hq
        rw[Array.getElem?_push,if_pos h5.1.symm]at hj
        cases hj
        exact⟨hkr,hxr⟩
      ·rw[Array.getElem?_push]at hj
       split at hj
       ·cases hj;exact Nat.lt_succ_self _
       ·exact Nat.lt_succ_of_lt (h5.old j ej hj)
      ·rw[Array.getElem?_push]at hi hj
       split at hj
       ·rename_i hje
        rw[if_neg (by omega)]at hi
        cases hj;exact h5.old i2 di hi
       ·have:=(Array.getElem?_eq_some_iff.1 hj).1
        rw[if_neg (by omega)]at hi
        exact h5.age i2 j di ej hij hi hj
      ·simp only[Instr.mapUpdate,Sem.run_bind,run_underlying g2,Result.andThen_ok,hg,eW hkey hkr,e4,Sem.run_pure,hset]
   ·cases he
  ·cases he
def purA(P:Program)(H:List Cell)(ρ:Operand→AV)(op:Op):Option (Prop×AV):=
 match op with
 | .lookup t m k ok=>mapPur P H ρ (.lookup t m k ok)
 |op=>pur P H ρ op
def effA(P:Program)(H:List Cell)(ρ:Operand→AV)(op:Op):Option (Prop×AV×List Cell):=
 match op with
 | .makeMap t r=>mapEff P H ρ (.makeMap t r)
 | .mapUpdate t m k x=>mapEff P H ρ (.mapUpdate t m k x)
 |op=>eff P H ρ op
theorem ES{X:Ctx}{st:St}{o:Oper}{a:Act}{ρ:Operand→AV}(h:RR X M loc st a w)(hρ:∀x∈o.op.operands,Rep w M loc (a.eval x) (ρ x)){p:Prop}{r:AV}
  (he:purA P st.heap ρ o.op=some (p,r)) (hp:p):∃v,(execOp a.eval o).run P w=.ok (.value v) w∧Rep w M loc v r:=by
 unfold purA at he
 split at he
 ·rename_i t m k ok ho
  rw[←ho]at he
  obtain⟨v,h1,h2⟩:=A6 h hρ he hp
  exact⟨v,h1,h2.rep⟩
 ·exact HW (X:=X) (fun id o ho=>h.obj id o ho) hρ he hp
theorem pT{X:Ctx}{st:St}{o:Oper}{a:Act}(h:RR X M loc st a w){p:Prop}{r:AV}{H':List Cell}
  (he:effA P st.heap (ev st.env) o.op=some (p,r,H')) (hp:p):EffOK P X st a w M (execOp a.eval o) r H':=by
 unfold effA at he
 split at he
 ·rename_i t rs ho
  rw[←ho]at he
  exact pR h he hp
 ·rename_i t m k x ho
  rw[←ho]at he
  exact pR h he hp
 ·exact IL h he hp
end
end Go.Ab

