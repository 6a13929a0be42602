import Derived.Test.YtllgjognpobnpaaGreatDoorGFw4
import Derived.ProofKit
import Derived.Deep.Slices
import Derived.Deep.DeepLaidRun
import Derived.LaidLaws
import Derived.Handed
import Derived.FnData
import Derived.OpenShut
import Derived.Lib.Join
import Derived.Laws.IdiomCopy
import Derived.Deep.Draws
set_option linter.all false
namespace Go.Ab
open Go.RowKit Go.ChangeShapes Go.WideShapes Go.Deep
section
variable{H:Type}{enc:TypeId×Value→H}{P:Program}{W:World}{base:Nat}{spare:Nat→Bool}{held:Bool}
theorem rF{es:List AV}{k:Nat}(hk:∀e∈es,e.flat.length=k):∀{j:Nat} {y:AV},(es.flatMap AV.flat)[j]? =some y→∃(i r:Nat) (e:AV),j=i*k+r∧r<k∧es[i]? =some e∧e.flat[r]? =some y:=by
 induction es with
 |nil=>intro j y h;simp at h
 |cons e es ih=>
  intro j y h
  have hek:=hk e (by simp)
  rw[List.flatMap_cons]at h
  by_cases hj:j<k
  ·rw[List.getElem?_append_left (by omega)]at h
   exact⟨0,j,e,by omega,hj,rfl,h⟩
  ·rw[List.getElem?_append_right (by omega),hek]at h
   obtain⟨i,r,e',h1,h2,h3,h4⟩:=ih (fun x hx=>hk x (by simp[hx])) h
   refine⟨i+1,r,e',?_,h2,h3,h4⟩
   rw[Nat.succ_mul];omega
theorem xQ{α:Type}(g:α→AV)(k:Nat)(hk:0<k)(hg:∀x,(g x).flat.length=k){t e:TypeId}{fuel:Nat}{cs:List Value}{x:DataW H×List MemPlace}{M:Nat→Prop}(ht:P.underlying t=some (.slice e))(hC:P.cellsOf e=k)
  (hM:∀b,b<W.heap.size→M b)
  (hel:∀n cs y,DataW.trod enc P W base spare held n e cs=some y→cs.length=k→∃x:α,∀(j:Nat) (c:Value) (z:AV),cs[j]? =some c→(g x).flat[j]? =some z→RepZ W M c z)
  (h:DataW.trod enc P W base spare held fuel t cs=some x):∃v,cs=[v]∧∃L:List α,L.length≤maxLen∧RepZ W M v (.sl (L.map g)):=by
 rcases open_slice ht h with⟨rfl,_⟩|⟨a,len,cap,m,n,D,Pl,rfl,hb,hl,hm,hmm,hx,hi⟩
 ·exact⟨_,rfl,[],Nat.zero_le _,by
   have:=RepZ.sl (w:=W) (M:=M) none 0 k [] (fun _=>undef) (by simp) (by simp) (by simp) (by simp) (Nat.le_refl _) (Nat.zero_le _)
   exact this⟩
 ·refine⟨_,rfl,?_⟩
  have hlm:len≤m:=by rw[hmm];split<;>omega
  have each:∀i:Fin len,∃(x:α) (cs':List Value),cs'.length=k∧(∀j,j<k→W.cell? (a.add (i.1*k+j))=cs'[j]?)∧∀(j:Nat) (c:Value) (z:AV),cs'[j]? =some c→(g x).flat[j]? =some z→RepZ W M c z:=by
   rintro⟨i,hil⟩
   obtain⟨cs',hc,ht'⟩:=hi i (by omega)
   rw[hC]at hc
   obtain⟨_,hcl,hat⟩:=World.cells?_some hc
   obtain⟨x,hx⟩:=hel n cs' _ ht' hcl
   exact⟨x,cs',hcl,fun j hj=>by rw[←iP];exact hat j hj,hx⟩
  have hX:=fun i=>Classical.choose_spec (each i)
  refine⟨List.ofFn fun i=>Classical.choose (each i),by simp;omega,?_⟩
  have hlen:((List.ofFn fun i=>Classical.choose (each i)).map g).length=len:=by simp
  have hfl:∀e∈(List.ofFn fun i=>Classical.choose (each i)).map g,e.flat.length=k:=by
   intro e he
   obtain⟨x,_,rfl⟩:=List.mem_map.1 he
   exact hg x
  have hcell:∀j,j<len*k→∃v,W.cell? (a.add j)=some v:=by
   intro j hj
   have hi':j/k<len:=Nat.div_lt_of_lt_mul (by rw[Nat.mul_comm];exact hj)
   obtain⟨cs',h1,h2,_⟩:=hX ⟨j/k,hi'⟩
   have hr:j%k<k:=Nat.mod_lt _ hk
   have:=h2 (j%k) hr
   rw[show j/k*k+j%k=j by rw[Nat.mul_comm];exact Nat.div_add_mod j k]at this
   exact⟨cs'[j%k]'(by omega),by rw[this];exact List.getElem?_eq_getElem _⟩
  have:=RepZ.sl (w:=W) (M:=M) (some a) cap k ((List.ofFn fun i=>Classical.choose (each i)).map g) (fun j=>(W.cell? (a.add j)).getD undef) hfl
   (fun hne=>⟨a,rfl,hM _ (by
    have:0<len:=by
     rw[←hlen];exact List.length_pos_iff.2 hne
    obtain⟨v,hv⟩:=hcell 0 (Nat.mul_pos this hk)
    have:=World.block_lt_of_cell? W _ hv
    rwa [dG]at this)⟩)
   (fun ad had j hj=>by
    cases had
    rw[hlen]at hj
    obtain⟨v,hv⟩:=hcell j hj
    rw[hv];rfl)
   (fun j e he=>by
    obtain⟨i,r,e',rfl,hr,he',hy⟩:=rF hfl he
    rw[List.getElem?_map,List.getElem?_ofFn]at he'
    split at he'
    ·rename_i hil
     simp only[Option.map_some,Option.some.injEq]at he'
     subst he'
     obtain⟨cs',h1,h2,h3⟩:=hX ⟨i,hil⟩
     have h4:=h2 r hr
     have h5:cs'[r]? =some (cs'[r]'(by omega)):=List.getElem?_eq_getElem _
     rw[h4,h5]
     exact h3 r _ e h5 hy
    ·simp at he')
   (by rw[hlen];exact hl) hm
  rw[hlen]at this
  exact this
theorem tS{α:Type}(g:α→AV)(k:Nat)(hk:0<k)(hg:∀x,(g x).flat.length=k){t e:TypeId}{v:Value}{d:DataW H}{p:List MemPlace}{M:Nat→Prop}(ht:P.underlying t=some (.slice e))(hC:P.cellsOf e=k)
  (hM:∀b,b<W.heap.size→M b)
  (hel:∀n cs y,DataW.trod enc P W base spare held n e cs=some y→cs.length=k→∃x:α,∀(j:Nat) (c:Value) (z:AV),cs[j]? =some c→(g x).flat[j]? =some z→RepZ W M c z)
  {r:Go.Reach} {b0:Nat} (hval:Value.okWide P W r b0 t v) (h:DataW.Trod enc P W base spare held t v d p):∃L:List α,L.length≤maxLen∧RepZ W M v (.sl (L.map g)):=by
 obtain⟨a,len,cap,rfl⟩:=okWide_slice ht hval
 obtain⟨n,hn⟩:=h
 obtain⟨v,hv,L,h1,h2⟩:=xQ g k hk hg ht hC hM hel hn
 have:v=.slice a len cap:=by
  have:(Value.slice a len cap).cells.toList=[.slice a len cap]:=rfl
  rw[this]at hv
  simpa using hv.symm
 subst this
 exact⟨L,h1,h2⟩
theorem DX{k:IntKind}{t:TypeId}{v:Value}{d:DataW H}{p:List MemPlace}{M:Nat→Prop}(ht:P.underlying t=some (.int k)){r:Go.Reach}{b0:Nat}(hval:Value.okWide P W r b0 t v)(h:DataW.Trod enc P W base spare held t v d p):
  ∃n,(Lit.int k n).wf=true∧RepZ W M v (.v (.int k n)):=by
 obtain⟨n,rfl,_,_,hw⟩:=open_int ht hval h
 exact⟨n,hw,.v _⟩
theorem GP{n:Int}(h:(Lit.int .i64 n).wf=true): -9223372036854775808≤n∧n≤9223372036854775807:=by
 simpa[Lit.wf,IntKind.min,IntKind.max,IntKind.signed,IntKind.bits]using h
theorem GQ{k:IntKind}{e:TypeId}{M:Nat→Prop}(he:P.underlying e=some (.int k)):∀n cs y,DataW.trod enc P W base spare held n e cs=some y→cs.length=1→∃x:Int,∀(j:Nat) (c:Value) (z:AV),cs[j]? =some c→(AV.v (.int k x)).flat[j]? =some z→RepZ W M c z:=by
 intro n cs y h _
 obtain⟨x,rfl,_,_⟩:=DataW.trod_int he h
 refine⟨x,fun j c z h1 h2=>?_⟩
 cases j with
 |zero=>
  simp only[List.getElem?_cons_zero,Option.some.injEq,AV.flat_v]at h1 h2
  subst h1;subst h2
  exact .v _
 |succ j=>simp at h1
theorem iC(hl:laidOutB P=true){W':World}{sp':Nat→Bool}:∀{ts:List TypeId} {vs:List Value} {ds:List (DataW H)} {ps:List MemPlace},ts.all (fun t=>P.readableRec t&&decide (t<P.types.size))=true→DataW.TrodAll enc P W base (fun _=>true) true ts vs ds ps→(∀p∈ps,W.sameAt W' p)→(∀p∈ps,sp' p.block=true)→DataW.TrodAll enc P W' base sp' true ts vs ds ps
 | [],_,_,_,_,h,_,_=>by
   obtain⟨rfl,rfl,rfl⟩:=trodAll_nil h
   rfl
 |_::_,_,_,_,hr,h,h1,h2=>by
  obtain⟨v,vs,d,ds,p,q,rfl,rfl,rfl,ha,hb⟩:=trodAll_cons h
  simp only[List.all_cons,Bool.and_eq_true,decide_eq_true_eq]at hr
  exact⟨p,q,WideElems.Trod_stays hl hr.1.1 hr.1.2 ha (fun x hx=>h1 x (by simp[hx])) (fun x hx=>h2 x (by simp[hx])),iC hl hr.2 hb (fun x hx=>h1 x (by simp[hx])) (fun x hx=>h2 x (by simp[hx])),rfl⟩
end
end Go.Ab
namespace Go.Ab
open Go.RowKit Go.ChangeShapes Go.WideShapes Go.Deep
theorem A7{H:Type}{enc:TypeId×Value→H}{P:Program}{W W':World}{f:Func}{s:ChangeSpec}{apart fresh handsOn again:Bool}{args:Array Value}{ds gs:List (DataW H)}{before:List MemPlace}{tb:TypeId}
  (hrt:f.resultTypes= #[tb]) (htb:P.underlying tb=some .bool) (hv0:s.vars=[])
  (hds:s.fn H (ds++gs)={results:=[.lit (.bool true)],args:=ds})
  (hl:laidOutB P=true) (hr:f.params.toList.all (fun t=>P.readableRec t&&decide (t<P.types.size))=true)
  (hW:DataW.Whole enc P f.params.toList s.vars apart W args.toList ds gs before) (hb:Below W.heap.size W W'):
  s.post enc P f apart fresh handsOn again W args (.bool true) W':=by
 obtain⟨p,q,hA,hV,hpq,hz,hn⟩:=hW
 have hV':=hV
 rw[hv0]at hV'
 obtain⟨rfl,rfl⟩:=trodVars_none hV'
 simp only[List.append_nil]at hpq hds
 subst hpq
 have hlt:∀x∈before,x.block<W.heap.size:=fun x hx=>hA.lt x hx
 have hargs:∀sp:Nat→Bool,(∀p∈before,sp p.block=true)→DataW.TrodAll enc P W' 0 sp true f.params.toList args.toList ds before:=
  fun sp hsp=>iC hl hr hA (fun x hx=>hb.same (hlt x hx)) hsp
 have hres:∀(b:Nat) (sp:Nat→Bool) (hd:Bool),DataW.TrodAll enc P W' b sp hd f.resultTypes.toList ((Value.bool true).resultList f.resultTypes.size) [.lit (.bool true)] []:=by
  intro b sp hd
  rw[hrt]
  exact trodAll_mk1 ⟨1,by simp[DataW.trod,Value.cells,htb]⟩
 have hvars:∀sp:Nat→Bool,DataW.TrodVars enc P W' sp s.vars (s.fn H ds).vars []:=by
  intro sp
  rw[hv0,hds];rfl
 refine⟨ds,[],before,[],before,[],⟨before,[],hA,hV,by simp,hz,hn⟩,by rw[List.append_nil,hds];exact hres _ _ _,by rw[List.append_nil,hds];exact hargs _ (fun x hx=>by simpa using hlt x hx),by rw[List.append_nil];exact hvars _,hb.frame _,fun _=>?_⟩
 refine⟨?_,_,[],([]++before)++[],⟨[]++before,[],trodAll_append (hargs _ (fun _ _=>rfl)) (hres _ _ _),by rw[hv0];rfl,rfl,?_,?_⟩,?_⟩
 ·intro j t r h1 h2
  rw[hrt]at h1 h2
  cases j with
  |zero=>
   simp[Value.resultList]at h1 h2
   subst h1;subst h2
   simp[Value.okWide,htb,Cell.okWide,Cell.ok]
  |succ j=>simp at h1
 ·intro b off hp
  rw[hb.frozen (hlt (.cell b off) (by simpa using hp))]
  exact hz b off (by simpa using hp)
 ·intro ha
  simpa using hn ha
 ·intro x hx _
  simpa using hx
end Go.Ab
namespace Go.Ab
open Go.RowKit Go.ChangeShapes Go.WideShapes
mutual
def cellsD:DataW Unit→List Value
 | .agg l=>cellsDs l
 | .lit x=>[x.value]
 |_=>[]
def cellsDs:List (DataW Unit)→List Value
 | []=>[]
 |d::r=>cellsD d++cellsDs r
end
def layG(w:World)(g:Nat)(d:DataW Unit):World:=
 {w with heap:=w.heap.modify g fun
    | .cells _ t frozen=>.cells (cellsD d).toArray t frozen
    |o=>o}
def layAll(P:Program)(w:World):List (String×DataW Unit)→World
 | []=>w
 |(n,d)::r=>match P.globalNamed n with
  |some g=>layG (layAll P w r) g d
  |none=>layAll P w r
theorem rG{P:Program}{W:World}{n:String}{d:DataW Unit}:∀{l:List (String×DataW Unit)} {ps:List MemPlace},DataW.LaidVars P W l ps→(n,d)∈l→
  ∃g t cs fuel p,P.globalNamed n=some g∧(P.globals[g]?).map (·.type)=some t∧W.var? P n=some cs∧DataW.trod (fun _=>()) P W 0 (fun _=>true) false fuel t cs.toList=some (d,p)
 |(n',d')::r,ps,h,hm=>by
  obtain⟨g,t,cs,fuel,p,q,h1,h2,h3,h4,h5,_⟩:=h
  rcases List.mem_cons.1 hm with e|hm
  ·cases e
   exact⟨g,t,cs,fuel,p,h1,h2,h3,h4⟩
  ·exact rG h5 hm
theorem fE{H:Type}{enc:TypeId×Value→H}{a:Assume}{C:Checked}{os:Os}{f:FuncId}{fn:Func}{s:ChangeSpec}{conds:List PathCond}{apart fresh handsOn again:Bool}{X:World→Array Value→Prop}
  (hX:∀(w w':World) (args:Array Value),w.heap=w'.heap→X w args→X w' args)
  (own:ownKnob C.prog.godebug=none) (started:os.Started) (noInit:C.prog.inits.idxOf? f=none) (hfn:C.prog.funcs[f]? =some fn)
  (witness:∃(w:World) (tape:Tape) (i:Input),w.os=os∧(w.forCall tape i).Shaped C.prog∧i.vars=[]∧Input.okWide C.prog (w.forCall tape i) .any w.heap.size f i∧
   ((s.pre enc C.prog fn conds apart (w.forCall tape i).memory i.args∧X (w.forCall tape i).memory i.args)∧sizedMet enc C.prog fn (OpenSpec.ofChange s) apart (w.forCall tape i).memory i.args)∧a.holds C.prog (lone (Frame.enter C.prog f i.args .normal) [] (w.forCall tape i)))
  (contract:∀(W:World) (base:Nat) (args:Array Value) (ds gs:List (DataW H)) (before:List MemPlace),W.ShapedOpen C.prog→
   (∀(j:Nat) t v,fn.params[j]? =some t→args[j]? =some v→Value.okWide C.prog W .any base t v)→
   DataW.Whole enc C.prog fn.params.toList s.vars apart W args.toList ds gs before→
   conds.all (PathCond.test C.prog ⟨fn.params.toList,ds,s.plain.varTypes C.prog,gs⟩)=true→
   (DataW.weightsEach C.prog (fn.params.toList++s.plain.varTypes C.prog) (ds++gs)).all (· ≤reachBytes)=true→X W args→
   a.holds C.prog (lone (Frame.enter C.prog f args .normal) [] W)→
   Calls C.prog f args W fun e W'=>∃v,e=.returned v∧s.post enc C.prog fn apart fresh handsOn again W args v W'):
  ReturnsInHanded a C os f .any (fun w args=>(s.pre enc C.prog fn conds apart w args∧X w args)∧sizedMet enc C.prog fn (OpenSpec.ofChange s) apart w args) (s.post enc C.prog fn apart fresh handsOn again):=by
 refine returnsInHanded_of_calls own started noInit witness ?_
 intro w tape i _ hsh _ hok hpre hholds
 obtain⟨_,_,_,fn',hfn',_,_,_,_,hval⟩:=hok
 have e:fn'=fn:=Option.some.inj (hfn'.symm.trans hfn)
 subst e
 obtain⟨⟨⟨ds,gs,before,hw,hc⟩,hx⟩,hz⟩:=hpre
 have hw':=DataW.Whole.of_heap (w':=w.forCall tape i) (by rfl) hw
 refine(contract (w.forCall tape i) w.heap.size i.args ds gs before hsh hval hw' hc (hz.weights hw) (hX _ _ _ (by rfl) hx) hholds).mono fun e W' ⟨v,he,hp⟩=>?_
 subst he
 exact ChangeSpec.post_blind hp
theorem tT{P:Program}{W:World}(h:W.ShapedOpen P){g:Nat}{zero:Array Value}{t u:TypeId}(hg:g<P.globals.size)(h0:(((begin P (fun _ _=>0) default).world).heap[g]?).bind Obj.row? =some (zero,t))(hz:zero.size=1)(hb:P.buildable t=true)(hc:P.cellTypes P.depth t=some [u])(hu:P.underlying u=some (.int .i64)):
  ∃m t f,W.heap[g]? =some (.cells #[.int .i64 m] t f):=by
 obtain⟨cs,h1,h2,h3⟩:=h.1 g zero t hg h0
 obtain⟨ts,e1,_,e3⟩:=h3 hb
 rw[hc]at e1
 cases e1
 have hs:cs.size=1:=by omega
 have hv:∃v,cs= #[v]:=by
  rcases cs with⟨l⟩
  match l,hs with
  | [v],_=>exact⟨v,rfl⟩
 obtain⟨v,rfl⟩:=hv
 obtain⟨u',e4,e5⟩:=e3 0 v rfl
 have:u'=u:=by simpa using e4.symm
 subst this
 unfold Cell.ok at e5
 rw[hu]at e5
 cases v with
 |int k n=>
  obtain⟨rfl,_⟩:=e5
  exact⟨n,t,_,h1⟩
 |_=>exact e5.elim
end Go.Ab
namespace Go.Ab
open Go.RowKit
theorem tU{P:Program}{f:FuncId}{args:List Value}{r:Value}(h:∀w,Calls P f args.toArray w fun e w'=>e=.returned r∧w'=w):Means true P f (args.map AV.v) (.v r):=by
 intro M w vs hM _ hl hvs
 have:vs=args.toArray:=by
  apply Array.ext
  ·simpa using hl
  ·intro i h1 h2
   have hi:i<args.length:=by simpa using h2
   have:=hvs i vs[i] (.v args[i]) (Array.getElem?_eq_getElem h1) (by simp[hi])
   have hv:=this.rep (loc:=fun _=>undef)|>.v_inv
   simpa using hv
 subst this
 refine(h w).mono fun e w' ⟨he,hw⟩=>⟨r,he,by rw[hw];exact Below.refl _ _,.v r⟩
end Go.Ab
namespace Go.Ab
open Go.RowKit
end Go.Ab
namespace Go.Ab
open Go.RowKit
theorem flat_v(xs:List Value):(xs.map AV.v).flatMap AV.flat=xs.map AV.v:=by
 induction xs with
 |nil=>rfl
 |cons a l ih=>simp only[List.map_cons,List.flatMap_cons,AV.flat_v,ih];rfl
end Go.Ab
namespace Go.Ab
open Go.RowKit
end Go.Ab
namespace Go.Ab
open Go.RowKit
section
variable{P:Program}
theorem iQ{listed:Array Bool}{i:Nat}:(listed.setIfInBounds i true).getD i true=true:=by
 rw[Array.getD_eq_getD_getElem?,Array.getElem?_setIfInBounds_self];split<;>rfl
def fO(ops:Array Oper)(i:Nat):Oper:=ops.getD i default
def lstA(ops:Array Oper)(c z:Nat):List Oper:=fO ops z::fO ops c::((ops.toList.drop (c+1)).take (z-c-1)++ops.toList.drop (z+1))
def cutQ(X:Ctx)(S:St):Exit→St→Prop
 | .normal,st=>Sub X S st
 |_,_=>False
theorem lC{X:Ctx}{c:Code}{Q:Exit→St→Prop}{st:St}(S:St)(h:AWP P X c (cutQ X S) st)(hq:Q .normal S):AWP P X c Q st:=by
 intro a w hr
 refine wp_mono (h a w hr) fun e a' w' ⟨st',h1,h2⟩=>?_
 cases e with
 |normal=>exact⟨S,hq,h1 a' w' h2⟩
 |_=>exact h1.elim
def cutE{α:Type}(X:Ctx)(S:α→St)(I:α→Prop):Exit→St→Prop
 | .normal,st=>∃x,I x∧Sub X (S x) st
 |_,_=>False
attribute [go_sem] lstA fO cutQ cutE
end
end Go.Ab
namespace Go.Ab
open Go.RowKit
theorem RR.ren{X:Ctx}{M:Nat→Prop}{loc:Nat→Value}{st:St}{a:Act}{w:World}(h:RR X M loc st a w)(u v:Nat→Nat)(hu:∀i,i<st.heap.length→u i<st.heap.length)(hv:∀i,i<st.heap.length→v i<st.heap.length)(huv:∀i,u (v i)=i)(hvu:∀i,v (u i)=i){H':List Cell}(hlen:H'.length=st.heap.length)
  (hH:∀i,i<st.heap.length→H'[u i]? =st.heap[i]?.map (renCell u)):RR X M (fun i=>loc (v i)) ⟨fun s=>ren u (st.env s),H'⟩ a w:=by
 have hl:∀i,i<st.heap.length→(fun i=>loc (v i)) (u i)=loc i:=fun i _=>by show loc (v (u i))=loc i;rw[hvu]
 have back:∀id c,H'[id]? =some c→∃c0,st.heap[v id]? =some c0∧c=renCell u c0:=by
  intro id c hc
  have hid:id<st.heap.length:=by rw[←hlen];exact(List.getElem?_eq_some_iff.1 hc).1
  have:=hH (v id) (hv id hid)
  rw[huv,hc]at this
  cases hs:st.heap[v id]? with
  |none=>rw[hs]at this;cases this
  |some c0=>rw[hs]at this;exact⟨c0,rfl,by simpa using this⟩
 have inj:∀i j,i≠j→v i≠v j:=fun i j hij e=>hij (by rw[←huv i,e,huv])
 have row:∀{id o},H'[id]? =some (.row o)→∃o0,st.heap[v id]? =some (.row o0)∧o=⟨o0.E,o0.k,renEs u o0.es⟩:=by
  intro id o hc
  obtain⟨c0,h1,h2⟩:=back id _ hc
  cases c0 with
  |row o0=>exact⟨o0,h1,by simpa[renCell]using h2⟩
  |dead=>simp[renCell]at h2
  |map m=>simp[renCell]at h2
 have mp:∀{id m},H'[id]? =some (.map m)→st.heap[v id]? =some (.map m):=by
  intro id m hc
  obtain⟨c0,h1,h2⟩:=back id _ hc
  cases c0 with
  |map m0=>simp[renCell]at h2;rw[h1,h2]
  |dead=>simp[renCell]at h2
  |row o=>simp[renCell]at h2
 refine⟨fun s=>?_,h.nle,h.size,h.defers,fun id o ho=>?_,fun i j oi oj hij hi hj=>?_,fun id m hm=>?_,fun i j mi mj hij hi hj=>?_,h.below,h.zone,h.zin,h.zlt,fun id hid=>?_,fun s=>?_⟩
 ·exact(Rep.up (u:=u) (locU:=fun i=>loc (v i)) hl (h.ids s)).1 (h.env s)
 ·obtain⟨o0,h1,rfl⟩:=row ho
  have hob:=h.obj _ _ h1
  obtain⟨xs,hown,hcs⟩:=hob.own
  refine⟨⟨xs,by rw[eX];exact hown,fun j e he=>?_⟩,iS.2 hob.flat,hob.away,hob.mine⟩
  rw[eH,List.getElem?_map,Option.map_eq_some_iff]at he
  obtain⟨e0,he0,rfl⟩:=he
  obtain⟨x,hx,hr⟩:=hcs j e0 he0
  exact⟨x,hx,by rw[hlen];exact RepC.up (u:=u) (locU:=fun i=>loc (v i)) hl hu hr⟩
 ·obtain⟨o1,h1,_⟩:=row hi
  obtain⟨o2,h2,_⟩:=row hj
  exact h.sep _ _ _ _ (inj i j hij) h1 h2
 ·exact h.mobj _ _ (mp hm)
 ·exact h.msep _ _ _ _ (inj i j hij) (mp hi) (mp hj)
 ·exact h.one _ (hv id (by rw[←hlen];exact hid))
 ·rw[hlen];exact pS hu (h.ids s)
section
variable{P:Program}
structure AL where
 d:Nat
 o:Ob
def AL.put(st:St)(x:AL):St:=⟨upd st.env x.d (.el st.heap.length x.o.k 0 0),st.heap++[.row x.o]⟩
def ext(st:St):List AL→St
 | []=>st
 |x::r=>ext (x.put st) r
theorem vN{τ:List AL}(hn:(τ.map AL.d).Nodup){x:AL}(hx:x∈τ):∃j,τ[j]? =some x∧(τ.map AL.d).idxOf x.d=j:=by
 obtain⟨j,hj,rfl⟩:=List.mem_iff_getElem.1 hx
 refine⟨j,List.getElem?_eq_getElem hj,?_⟩
 have hj2:j<(τ.map AL.d).length:=by rw[List.length_map];exact hj
 have:=hn.idxOf_getElem j hj2
 rwa [List.getElem_map]at this
def runAL(P:Program)(n:Nat):List Oper→(List AL→Prop)→Prop
 | [],K=>K []
 |o::l,K=>match o.op,o.dst,o.guard with
  | .alloc e,some d,none=>match tyk P e with
    |some T=>d<n∧T.zero.flat.length=T.cells∧zoneEs [T.zero]=true∧runAL P n l (fun r=>K (⟨d,⟨e,T.cells,[T.zero]⟩⟩::r))
    |none=>False
  |_,_,_=>False
attribute [go_sem] runAL ext AL.put
end
end Go.Ab
namespace Go.Ab
open Go.RowKit
def cellIds:Cell→List Nat
 | .row o=>bif zoneEs o.es then[]else(o.es.flatMap AV.flat).flatMap AV.ids
 |_=>[]
theorem cW{o:Ob}{e:AV}{id:Nat}(he:e∈o.es.flatMap AV.flat)(hid:id∈e.ids):id∈cellIds (.row o):=by
 show id∈(bif zoneEs o.es then[]else(o.es.flatMap AV.flat).flatMap AV.ids)
 cases hz:zoneEs o.es with
 |false=>exact List.mem_flatMap.2 ⟨e,he,hid⟩
 |true=>
  obtain⟨j,hj,rfl⟩:=List.getElem_of_mem he
  have:=dP hz (List.getElem?_eq_getElem hj)
  have h0:=(aT 0 _).1 (bC this 0) id hid
  omega
def setU(H:List Cell):List (Nat×Cell)→List Cell
 | []=>H
 |(i,c)::l=>setU (H.set i c) l
theorem eI:∀(U:List (Nat×Cell)) (H:List Cell),(setU H U).length=H.length
 | [],_=>rfl
 |(i,c)::U,H=>by rw[setU,eI U];simp
theorem eY:∀(U:List (Nat×Cell)) (H:List Cell) (id:Nat),(∀q∈U,q.1≠id)→(setU H U)[id]? =H[id]?
 | [],_,_,_=>rfl
 |(i,c)::U,H,id,h=>by
  rw[setU,eY U _ id fun q hq=>h q (List.mem_cons_of_mem _ hq),List.getElem?_set_ne (h (i,c) (by simp))]
theorem lW:∀(U V:List (Nat×Cell)) (H:List Cell),setU H (U++V)=setU (setU H U) V
 | [],_,_=>rfl
 |(i,c)::U,V,H=>by rw[List.cons_append,setU,setU,lW U V]
theorem rH:∀(U:List (Nat×Cell)) (H:List Cell) (i:Nat) (c:Cell),(∀q∈U,q.1≠i)→setU (H.set i c) U=(setU H U).set i c
 | [],_,_,_,_=>rfl
 |(j,d)::U,H,i,c,h=>by
  have hne:i≠j:=fun e=>h (j,d) (by simp) e.symm
  rw[setU,setU,List.set_comm _ _ hne,rH U _ i c fun q hq=>h q (List.mem_cons_of_mem _ hq)]
theorem o9:∀(U V:List (Nat×Cell)) (H:List Cell),(∀q∈U,∀p∈V,p.1≠q.1)→setU (setU H U) V=setU (setU H V) U
 | [],_,_,_=>rfl
 |(i,c)::U,V,H,h=>by
  rw[setU,o9 U V _ fun q hq=>h q (List.mem_cons_of_mem _ hq),rH V H i c fun p hp=>h (i,c) (by simp) p hp];rfl
theorem gK:∀(U:List (Nat×Cell)) (H:List Cell) (i:Nat) (x:Cell),(setU H U)[i]? =some x→H[i]? =some x∨∃q∈U,q.2=x
 | [],_,_,_,h=>.inl h
 |(j,d)::U,H,i,x,h=>by
  rcases gK U _ i x h with h|⟨q,hq,rfl⟩
  ·rw[List.getElem?_set]at h
   split at h
   ·split at h
    ·cases h;exact .inr ⟨(j,d),by simp,rfl⟩
    ·cases h
   ·exact .inl h
  ·exact .inr ⟨q,List.mem_cons_of_mem _ hq,rfl⟩
section
variable{P:Program}
theorem xR{H H':List Cell}{ρ:Operand→AV}{op:Op}{p:Prop}{r:AV}(h:effA P H ρ op=some (p,r,H')):
  ∃upd nw,H'=setU H upd++nw∧nw.length≤1∧(∀q∈upd,q.1∈wrOf ρ op∧H'[q.1]? =some q.2)∧
   ∀H1:List Cell,H1.length=H.length→(∀id∈tch ρ op,H1[id]? =H[id]?)→effA P H1 ρ op=some (p,r,setU H1 upd++nw):=by
 have new:∀{c:Cell},H'=H++[c]→(∀H1:List Cell,H1.length=H.length→(∀id∈tch ρ op,H1[id]? =H[id]?)→effA P H1 ρ op=some (p,r,H1++[c]))→∃upd nw,H'=setU H upd++nw∧nw.length≤1∧(∀q∈upd,q.1∈wrOf ρ op∧H'[q.1]? =some q.2)∧
   ∀H1:List Cell,H1.length=H.length→(∀id∈tch ρ op,H1[id]? =H[id]?)→effA P H1 ρ op=some (p,r,setU H1 upd++nw):=fun{c} e hh=>⟨[],[c],e,by simp,by simp,hh⟩
 have one:∀{i:Nat} {c x:Cell},H[i]? =some x→i∈wrOf ρ op→H'=H.set i c→(∀H1:List Cell,H1.length=H.length→(∀id∈tch ρ op,H1[id]? =H[id]?)→effA P H1 ρ op=some (p,r,H1.set i c))→∃upd nw,H'=setU H upd++nw∧nw.length≤1∧(∀q∈upd,q.1∈wrOf ρ op∧H'[q.1]? =some q.2)∧
   ∀H1:List Cell,H1.length=H.length→(∀id∈tch ρ op,H1[id]? =H[id]?)→effA P H1 ρ op=some (p,r,setU H1 upd++nw):=fun{i c x} hx hw e hh=>by
  refine⟨[(i,c)],[],by rw[e];simp[setU],by simp,fun q hq=>?_,fun H1 h1 h2=>by rw[hh H1 h1 h2];simp[setU]⟩
  simp only[List.mem_singleton]at hq
  subst hq
  exact⟨hw,by rw[e,List.getElem?_set_self (List.getElem?_eq_some_iff.1 hx).1]⟩
 have both:∀{i:Nat} {c d x:Cell},H[i]? =some x→i∈wrOf ρ op→H'=H.set i c++[d]→(∀H1:List Cell,H1.length=H.length→(∀id∈tch ρ op,H1[id]? =H[id]?)→effA P H1 ρ op=some (p,r,H1.set i c++[d]))→∃upd nw,H'=setU H upd++nw∧nw.length≤1∧(∀q∈upd,q.1∈wrOf ρ op∧H'[q.1]? =some q.2)∧
   ∀H1:List Cell,H1.length=H.length→(∀id∈tch ρ op,H1[id]? =H[id]?)→effA P H1 ρ op=some (p,r,setU H1 upd++nw):=fun{i c d x} hx hw e hh=>by
  refine⟨[(i,c)],[d],by rw[e];simp[setU],by simp,fun q hq=>?_,fun H1 h1 h2=>by rw[hh H1 h1 h2];simp[setU]⟩
  simp only[List.mem_singleton]at hq
  subst hq
  have hl:=(List.getElem?_eq_some_iff.1 hx).1
  exact⟨hw,by rw[e,List.getElem?_append_left (by simpa using hl),List.getElem?_set_self hl]⟩
 unfold effA at h
 split at h
 ·rename_i t rs
  cases rs with
  |some x=>simp only[mapEff,reduceCtorEq]at h
  |none=>
   simp only[mapEff]at h
   split at h
   ·rename_i hT
    simp only[Option.some.injEq,Prod.mk.injEq]at h
    obtain⟨rfl,rfl,rfl⟩:=h
    refine new rfl fun H1 h1 h2=>?_
    unfold effA
    simp only[mapEff,hT,h1]
   ·cases h
 ·rename_i t m k x
  simp only[mapEff]at h
  split at h
  ·rename_i K V _ _ _ id hT e1
   split at h
   ·rename_i mo ho
    cases hu:updA P K (ρ k) (ρ x) mo.es with
    |none=>simp[hu]at h
    |some es=>
     simp only[hu,Option.map_some,Option.some.injEq,Prod.mk.injEq]at h
     obtain⟨rfl,rfl,rfl⟩:=h
     refine one ho (by simp[wrOf,e1,AV.ids]) rfl fun H1 h1 h2=>?_
     have hid:H1[id]? =H[id]? :=h2 id (bM (x:=m) (by simp[Op.operands]) (by rw[e1];simp[AV.ids]))
     unfold effA
     simp only[mapEff,hT,e1,hid,ho,hu,Option.map_some]
   ·cases h
  ·cases h
 ·rename_i hx1 hx2
  clear hx1 hx2
  cases op<;>simp only[eff,reduceCtorEq]at h
  case alloc e=>
   split at h
   ·rename_i T hT
    simp only[Option.some.injEq,Prod.mk.injEq]at h
    obtain⟨rfl,rfl,rfl⟩:=h
    exact new rfl fun H1 h1 h2=>by simp only[effA,eff,hT,h1]
   ·cases h
  case box e x=>
   split at h
   ·rename_i T hT
    simp only[Option.some.injEq,Prod.mk.injEq]at h
    obtain⟨rfl,rfl,rfl⟩:=h
    exact new rfl fun H1 h1 h2=>by simp only[effA,eff,hT,h1]
   ·cases h
  case buildSlice t n parts=>
   split at h
   ·rename_i e _ _ _ hT
    split at h
    ·rename_i T hE
     split at h
     ·rename_i hc
      simp only[Option.some.injEq,Prod.mk.injEq]at h
      obtain⟨rfl,rfl,rfl⟩:=h
      exact new rfl fun H1 h1 h2=>by simp only[effA,eff,hT,hE,if_pos hc,h1]
     ·cases h
    ·cases h
   ·cases h
  case makeSlice t l c=>
   split at h
   ·rename_i e _ _ _ k1 n k2 m hT e1 e2
    split at h
    ·rename_i T hE
     simp only[Option.some.injEq,Prod.mk.injEq]at h
     obtain⟨rfl,rfl,rfl⟩:=h
     exact new rfl fun H1 h1 h2=>by simp only[effA,eff,hT,e1,e2,hE,h1]
    ·cases h
   ·cases h
  case store t d x=>
   split at h
   ·rename_i T id k i off hT e1
    split at h
    ·rename_i ob ho
     simp only[Option.some.injEq,Prod.mk.injEq]at h
     obtain⟨rfl,rfl,rfl⟩:=h
     refine one ho (by simp[wrOf,e1,AV.ids]) rfl fun H1 h1 h2=>?_
     have hid:H1[id]? =H[id]? :=h2 id (bM (x:=d) (by simp[Op.operands]) (by rw[e1];simp[AV.ids]))
     simp only[effA,eff,hT,e1,hid,ho]
    ·cases h
   ·cases h
  case call c=>
   obtain⟨callee,args,ats⟩:=c
   obtain⟨args⟩:=args
   obtain⟨ats⟩:=ats
   simp only[]at h
   split at h
   ·rename_i s x t t'
    have hms:s∈(Op.call ⟨.builtin .append,⟨[s,x]⟩,⟨[t,t']⟩⟩).operands:=by simp[Op.operands,Call.operands]
    have hmx:x∈(Op.call ⟨.builtin .append,⟨[s,x]⟩,⟨[t,t']⟩⟩).operands:=by simp[Op.operands,Call.operands]
    split at h
    ·rename_i htt
     subst htt
     have hsrc:∀H1:List Cell,(∀id∈tch ρ (Op.call ⟨.builtin .append,⟨[s,x]⟩,⟨[t,t]⟩⟩),H1[id]? =H[id]?)→srcA H1 (ρ x)=srcA H (ρ x):=fun H1 h2=>by
      have h3:∀id∈(ρ x).ids,H1[id]? =H[id]? :=fun id hid=>h2 id (bM hmx hid)
      unfold srcA
      split
      ·rfl
      ·rfl
      ·rename_i id e;rw[h3 id (by rw[e];simp[AV.ids])]
      ·rename_i id k lo n e;rw[h3 id (by rw[e];simp[AV.ids])]
      ·rfl
     unfold appA at h
     split at h
     ·rename_i e _ _ _ hT
      split at h
      ·rename_i T q news hE hs
       split at h
       ·rename_i hs0
        simp only[Option.some.injEq,Prod.mk.injEq]at h
        obtain⟨rfl,rfl,rfl⟩:=h
        exact new rfl fun H1 h1 h2=>by simp only[effA,eff,if_true,appA,hT,hE,hsrc H1 h2,hs,hs0,h1]
       ·rename_i id e1
        split at h
        ·rename_i o ho
         simp only[Option.some.injEq,Prod.mk.injEq]at h
         obtain⟨rfl,rfl,rfl⟩:=h
         refine both ho (by simp[wrOf,e1,AV.ids]) rfl fun H1 h1 h2=>?_
         have hid:H1[id]? =H[id]? :=h2 id (bM hms (by rw[e1];simp[AV.ids]))
         simp only[effA,eff,if_true,appA,hT,hE,hsrc H1 h2,hs,e1,hid,ho,h1]
        ·cases h
       ·rename_i id k lo n e1
        split at h
        ·rename_i o ho
         split at h
         ·rename_i hc
          simp only[Option.some.injEq,Prod.mk.injEq]at h
          obtain⟨rfl,rfl,rfl⟩:=h
          refine both ho (by simp[wrOf,e1,AV.ids]) rfl fun H1 h1 h2=>?_
          have hid:H1[id]? =H[id]? :=h2 id (bM hms (by rw[e1];simp[AV.ids]))
          simp only[effA,eff,if_true,appA,hT,hE,hsrc H1 h2,hs,e1,hid,ho,if_pos hc,h1]
         ·cases h
        ·cases h
       ·cases h
      ·cases h
     ·cases h
    ·rename_i htt
     unfold growA at h
     split at h
     ·rename_i hT hT2 hs0 hx0
      split at h
      ·rename_i T hE
       simp only[Option.some.injEq,Prod.mk.injEq]at h
       obtain⟨rfl,rfl,rfl⟩:=h
       exact new rfl fun H1 h1 h2=>by simp only[effA,eff,if_neg htt,growA,hT,hT2,hs0,hx0,hE,h1]
      ·cases h
     ·cases h
   ·rename_i s t
    have hms:s∈(Op.call ⟨.builtin .clear,⟨[s]⟩,⟨[t]⟩⟩).operands:=by simp[Op.operands,Call.operands]
    unfold clrA at h
    split at h
    ·rename_i hT e1
     split at h
     ·rename_i T o hE ho
      simp only[Option.some.injEq,Prod.mk.injEq]at h
      obtain⟨rfl,rfl,rfl⟩:=h
      refine one ho (by simp[wrOf,e1,AV.ids]) rfl fun H1 h1 h2=>?_
      have hid:=h2 _ (bM hms (by rw[e1];simp[AV.ids];rfl))
      simp only[effA,eff,clrA,hT,e1,hE,hid,ho]
     ·cases h
    ·cases h
   ·rename_i s x t t'
    have hms:s∈(Op.call ⟨.builtin .copy,⟨[s,x]⟩,⟨[t,t']⟩⟩).operands:=by simp[Op.operands,Call.operands]
    have hmx:x∈(Op.call ⟨.builtin .copy,⟨[s,x]⟩,⟨[t,t']⟩⟩).operands:=by simp[Op.operands,Call.operands]
    unfold cpyA at h
    split at h
    ·rename_i hT
     split at h
     ·rename_i T id lo n o pw q news hE hw hs
      simp only[Option.some.injEq,Prod.mk.injEq]at h
      obtain⟨rfl,rfl,rfl⟩:=h
      obtain⟨hids,ho⟩:=oA hw
      refine one ho (by show id∈(ρ s).ids;rw[hids];simp) rfl fun H1 h1 h2=>?_
      have hw1:winOf H1 (ρ s)=winOf H (ρ s):=rI fun id hid=>h2 id (bM hms hid)
      have h3:∀id∈(ρ x).ids,H1[id]? =H[id]? :=fun id hid=>h2 id (bM hmx hid)
      have hs1:srcA H1 (ρ x)=srcA H (ρ x):=by
       unfold srcA
       split
       ·rfl
       ·rfl
       ·rename_i id e;rw[h3 id (by rw[e];simp[AV.ids])]
       ·rename_i id k lo n e;rw[h3 id (by rw[e];simp[AV.ids])]
       ·rfl
      simp only[effA,eff,cpyA,hT,hE,hw1,hw,hs1,hs]
     ·cases h
    ·cases h
   ·cases h
variable{w:World}{M:Nat→Prop}{loc:Nat→Value}
theorem RepO.congr{loc loc':Nat→Value}{x:Value}{e:AV}(hl:∀id∈e.idB,loc' id=loc id)(h:RepO loc x e):RepO loc' x e:=by
 cases e with
 |ow id=>simp only[RepO]at h⊢;rw[hl id (by simp[AV.idB])];exact h
 |el a b c d=>simp only[RepO]at h⊢;rw[hl a (by simp[AV.idB])];exact h
 |wn a b c d=>simp only[RepO]at h⊢;rw[hl a (by simp[AV.idB])];exact h
 |_=>exact h
theorem RepB.congr{loc loc':Nat→Value}{x:Value}{e:AV}(hl:∀id∈e.idB,loc' id=loc id)(h:RepB w M loc x e):RepB w M loc' x e:=h.imp id (RepO.congr hl)
theorem Rep.congr{loc loc':Nat→Value}{x:Value}{e:AV}(hl:∀id∈e.ids,loc' id=loc id)(h:Rep w M loc x e):Rep w M loc' x e:=by
 induction e using AV.zone.induct with
 |case1 id=>exact RepO.congr (e:=.ow id) hl h
 |case2 a b c d=>exact RepO.congr (e:=.el a b c d) hl h
 |case3 a b c d=>exact RepO.congr (e:=.wn a b c d) hl h
 |case4 f first cap=>
  obtain⟨fs,cs,h1,h2,h3,h4,h5⟩:=h
  exact⟨fs,cs,h1,h2,h3,fun j c e hc he=>(h4 j c e hc he).congr fun id hid=>hl id (List.mem_flatMap.2 ⟨e,List.mem_append_left _ (List.mem_of_getElem? he),hid⟩),fun j c e hc he=>(h5 j c e hc he).congr fun id hid=>hl id (List.mem_flatMap.2 ⟨e,List.mem_append_right _ (List.mem_of_getElem? he),hid⟩)⟩
 |case5 g y ih=>
  have h':(g=false→x=undef)∧(g=true→Rep w M loc x y):=h
  show(g=false→x=undef)∧(g=true→Rep w M loc' x y)
  exact⟨h'.1,fun hg=>ih hl (h'.2 hg)⟩
 |case6 es=>
  obtain⟨cs,h1,h2,h3⟩:=h
  exact⟨cs,h1,h2,fun j c e hc he=>(h3 j c e hc he).congr fun id hid=>hl id (List.mem_flatMap.2 ⟨e,List.mem_of_getElem? he,hid⟩)⟩
 |case7 es=>
  obtain⟨cs,h1,h2,h3⟩:=h
  exact⟨cs,h1,h2,fun j c e hc he=>(h3 j c e hc he).congr fun id hid=>hl id (List.mem_flatMap.2 ⟨e,List.mem_of_getElem? he,hid⟩)⟩
 |case8 e h1 h2 h3 h4 h5 h6 h7=>
  cases e with
  |ow id=>exact(h1 _ rfl).elim
  |el a b c d=>exact(h2 _ _ _ _ rfl).elim
  |wn a b c d=>exact(h3 _ _ _ _ rfl).elim
  |fn a b c=>exact(h4 _ _ _ rfl).elim
  |mb g y=>exact(h5 _ _ rfl).elim
  |tup es=>exact(h6 _ rfl).elim
  |agg es=>exact(h7 _ rfl).elim
  |_=>exact h
structure NmOK(L0:Nat)(st:St)(C:Nat→Prop):Prop where
 env:∀s,∀id∈(st.env s).ids,id<st.heap.length∧¬C id
 row:∀(i:Nat) (o:Ob),st.heap[i]? =some (.row o)→∀e∈o.es.flatMap AV.flat,∀id∈e.ids,id<st.heap.length∧¬C id
 dead:∀c,C c→st.heap[c]? =some .dead
 low:∀c,C c→L0≤c
 len:L0≤st.heap.length
theorem NmOK.ev{L0:Nat}{st:St}{C:Nat→Prop}(h:NmOK L0 st C)(x:Operand){id:Nat}(hid:id∈(Ab.ev st.env x).ids):id<st.heap.length∧¬C id:=by
 have none:∀e:AV,e.idLt 0→id∉e.ids:=fun e he hi=>by have:=(aT 0 e).1 he id hi;omega
 cases x with
 |tmp t=>
  simp only[Ab.ev]at hid
  split at hid
  ·exact h.env t id hid
  ·simp[AV.ids]at hid
 |const x=>exact absurd hid (none _ (fV _ x))
 |global g=>
  simp only[Ab.ev,globV]at hid
  split at hid<;>simp[AV.ids]at hid
 |func f=>simp[Ab.ev,AV.ids]at hid
theorem NmOK.tch{L0:Nat}{st:St}{C:Nat→Prop}(h:NmOK L0 st C){op:Op}{id:Nat}(hid:id∈Ab.tch (Ab.ev st.env) op):id<st.heap.length∧¬C id:=by
 obtain⟨x,_,hx⟩:=List.mem_flatMap.1 hid
 exact h.ev x hx
theorem RR.aside{X:Ctx}{st:St}{a:Act}(h:RR X M loc st a w)(k:Nat):RR X M (fun i=>if i<st.heap.length then loc i else .slice none 0 0) ⟨st.env,st.heap++List.replicate k .dead⟩ a w:=by
 have hrow:∀(id:Nat) (c:Cell),c≠.dead→(st.heap++List.replicate k .dead)[id]? =some c→id<st.heap.length∧st.heap[id]? =some c:=fun id c hne hc=>by
  by_cases hid:id<st.heap.length
  ·rw[List.getElem?_append_left hid]at hc;exact⟨hid,hc⟩
  ·rw[List.getElem?_append_right (by omega),List.getElem?_replicate]at hc
   split at hc
   ·cases hc;exact absurd rfl hne
   ·cases hc
 have hl:∀id,id<st.heap.length→(fun i=>if i<st.heap.length then loc i else Value.slice none 0 0) id=loc id:=fun id hid=>if_pos hid
 refine⟨fun s=>Rep.mono (n:=st.heap.length) (fun _ _=>rfl) (fun _ hb=>hb) hl (h.env s) (h.ids s),h.nle,h.size,h.defers,fun id o ho=>?_,fun i j oi oj hij hi hj=>?_,fun id m hm=>?_,fun i j mi mj hij hi hj=>?_,h.below,h.zone,h.zin,h.zlt,fun id hid=>?_,fun s=>AV.idLt_up (by simp) (h.ids s)⟩
 ·obtain⟨hid,h1⟩:=hrow id _ (by intro e;cases e) ho
  have hob:=h.obj id o h1
  obtain⟨xs,g1,g2⟩:=hob.own
  have hll:(if id<st.heap.length then loc id else Value.slice none 0 0)=loc id:=if_pos hid
  refine⟨⟨xs,by rw[hll];exact g1,fun j e he=>?_⟩,hob.flat,by rw[hll];exact hob.away,by rw[hll];exact hob.mine⟩
  obtain⟨x,hx,hr⟩:=g2 j e he
  exact⟨x,hx,hr.mono (fun _ _=>rfl) (fun _ hb=>hb) hl (by simp)⟩
 ·obtain⟨h1,g1⟩:=hrow i _ (by intro e;cases e) hi
  obtain⟨h2,g2⟩:=hrow j _ (by intro e;cases e) hj
  simp only[if_pos h1,if_pos h2]
  exact h.sep i j oi oj hij g1 g2
 ·obtain⟨hid,h1⟩:=hrow id _ (by intro e;cases e) hm
  have hll:(if id<st.heap.length then loc id else Value.slice none 0 0)=loc id:=if_pos hid
  show MapOK X.own w M (if id<st.heap.length then loc id else Value.slice none 0 0) m
  rw[hll]
  exact h.mobj id m h1
 ·obtain⟨h1,g1⟩:=hrow i _ (by intro e;cases e) hi
  obtain⟨h2,g2⟩:=hrow j _ (by intro e;cases e) hj
  simp only[if_pos h1,if_pos h2]
  exact h.msep i j mi mj hij g1 g2
 ·show Value.oneCell' (if id<st.heap.length then loc id else Value.slice none 0 0)=true
  split
  ·rename_i hid;exact h.one id hid
  ·rfl
theorem RR.move{X:Ctx}{env:Nat→AV}{G:List Cell}{x:Cell}{a:Act}{c:Nat}(h:RR X M loc ⟨env,G++[x]⟩ a w)(hc:G[c]? =some .dead)
  (henv:∀s,∀id∈(env s).ids,id<G.length∧id≠c) (hrow:∀(i:Nat) (o:Ob),(G++[x])[i]? =some (.row o)→∀e∈o.es.flatMap AV.flat,∀id∈e.ids,id<G.length∧id≠c):
  RR X M (fun i=>if i=c then loc G.length else loc i) ⟨env,G.set c x⟩ a w:=by
 have hcl:=(List.getElem?_eq_some_iff.1 hc).1
 have hx:(G++[x])[G.length]? =some x:=by simp
 have back:∀(i:Nat) (y:Cell),(G.set c x)[i]? =some y→(i=c∧y=x)∨(i≠c∧i<G.length∧(G++[x])[i]? =some y):=fun i y hy=>by
  by_cases hi:i=c
  ·subst hi
   rw[List.getElem?_set_self hcl]at hy
   cases hy;exact .inl ⟨rfl,rfl⟩
  ·rw[List.getElem?_set_ne (fun e=>hi e.symm)]at hy
   have hl:=(List.getElem?_eq_some_iff.1 hy).1
   exact .inr ⟨hi,hl,by rw[List.getElem?_append_left hl];exact hy⟩
 let src:Nat→Nat:=fun i=>if i=c then G.length else i
 have hsrc:∀(i:Nat) (y:Cell),(G.set c x)[i]? =some y→(G++[x])[src i]? =some y:=fun i y hy=>by
  rcases back i y hy with⟨rfl,rfl⟩|⟨h1,h2,h3⟩
  ·show(G++[y])[if i=i then G.length else i]? =_
   rw[if_pos rfl];exact hx
  ·show(G++[x])[if i=c then G.length else i]? =_
   rw[if_neg h1];exact h3
 have hinj:∀i j y z,(G.set c x)[i]? =some y→(G.set c x)[j]? =some z→i≠j→src i≠src j:=fun i j y z hi hj hij e=>by
  have h1:=(List.getElem?_eq_some_iff.1 hi).1
  have h2:=(List.getElem?_eq_some_iff.1 hj).1
  simp only[List.length_set]at h1 h2
  simp only[src]at e
  split at e<;>split at e<;>omega
 have hloc:∀i,(if i=c then loc G.length else loc i)=loc (src i):=fun i=>by
  simp only[src];split<;>rfl
 have hcong:∀id,id≠c→(if id=c then loc G.length else loc id)=loc id:=fun id hid=>if_neg hid
 have hlen:(G.set c x).length=G.length:=by simp
 refine⟨fun s=>Rep.congr (fun id hid=>hcong id (henv s id hid).2) (h.env s),h.nle,h.size,h.defers,fun id o ho=>?_,fun i j oi oj hij hi hj=>?_,fun id m hm=>?_,fun i j mi mj hij hi hj=>?_,h.below,h.zone,h.zin,h.zlt,fun id hid=>?_,fun s=>(aT _ _).2 fun id hid=>by simp only[hlen];exact(henv s id hid).1⟩
 ·have ho':=hsrc id _ ho
  have hob:=h.obj _ _ ho'
  obtain⟨xs,g1,g2⟩:=hob.own
  show ObjOK X.own w M (fun i=>if i=c then loc G.length else loc i) (G.set c x).length (if id=c then loc G.length else loc id) o
  rw[hloc id]
  refine⟨⟨xs,g1,fun j e he=>?_⟩,hob.flat,hob.away,hob.mine⟩
  obtain⟨y,hy,hr⟩:=g2 j e he
  have hn:=hrow _ _ ho' e (List.mem_of_getElem? he)
  refine⟨y,hy,hr.1.congr fun id hid=>hcong id ?_,(aT _ _).2 fun id hid=>?_,hr.2.2⟩
  ·rw[AV.idB_ids hr.2.2]at hid
   exact(hn id hid).2
  ·rw[hlen];exact(hn id hid).1
 ·show(if i=c then loc G.length else loc i).ownBlock=none∨(if i=c then loc G.length else loc i).ownBlock≠(if j=c then loc G.length else loc j).ownBlock
  rw[hloc i,hloc j]
  exact h.sep _ _ _ _ (hinj i j _ _ hi hj hij) (hsrc i _ hi) (hsrc j _ hj)
 ·show MapOK X.own w M (if id=c then loc G.length else loc id) m
  rw[hloc id]
  exact h.mobj _ _ (hsrc id _ hm)
 ·show(if i=c then loc G.length else loc i)≠(if j=c then loc G.length else loc j)
  rw[hloc i,hloc j]
  exact h.msep _ _ _ _ (hinj i j _ _ hi hj hij) (hsrc i _ hi) (hsrc j _ hj)
 ·show Value.oneCell' (if id=c then loc G.length else loc id)=true
  rw[hloc id]
  refine h.one _ ?_
  simp only[List.length_append,List.length_singleton,src]
  simp only[hlen]at hid
  split<;>omega
structure TagU where
 t:List Nat
 w:List Nat
 c:Nat
 nw:Bool
 deriving Inhabited
def plc(L c:Nat):AV→AV
 | .ow i=>.ow (if i=L then c else i)
 | .el i k a b=>.el (if i=L then c else i) k a b
 |e=>e
def AV.effR:AV→Bool
 | .ow _| .el .. =>true
 |e=>e.ids.isEmpty
theorem DY{G:List Cell}{c:Nat}{x:Value}{e:AV}(hf:e.effR=true)(he:∀id∈e.ids,id≠c)(h:Rep w M loc x e):Rep w M (fun i=>if i=c then loc G.length else loc i) x (plc G.length c e):=by
 have keep:(∀i,e≠.ow i)→(∀i k a b,e≠.el i k a b)→Rep w M (fun i=>if i=c then loc G.length else loc i) x (plc G.length c e):=fun h1 h2=>by
  have e1:plc G.length c e=e:=by
   cases e with
   |ow i=>exact absurd rfl (h1 i)
   |el i k a b=>exact absurd rfl (h2 i k a b)
   |_=>rfl
  rw[e1]
  exact Rep.congr (fun id hid=>if_neg (he id hid)) h
 have hloc:∀i,i≠c→(if(if i=G.length then c else i)=c then loc G.length else loc (if i=G.length then c else i))=loc i:=fun i hi=>by
  by_cases hl:i=G.length
  ·rw[if_pos hl,if_pos rfl,hl]
  ·rw[if_neg hl,if_neg hi]
 cases e with
 |ow i=>
  have hi:=he i (by simp[AV.ids])
  have h':x=loc i:=h
  show x=(if(if i=G.length then c else i)=c then loc G.length else loc (if i=G.length then c else i))
  rw[hloc i hi];exact h'
 |el i k a b=>
  have hi:=he i (by simp[AV.ids])
  obtain⟨g,n,d,h1,h2⟩:=h
  exact⟨g,n,d,(hloc i hi).trans h1,h2⟩
 |_=>exact keep (fun i e=>by cases e) (fun i k a b e=>by cases e)
def NewC(P:Program)(H:List Cell)(ρ:Operand→AV)(op:Op)(ob:Ob):Prop:=
 ∃c f first cap ps Hl largs,op=.call c∧tgt ρ c.callee=some (f,first,cap)∧callable P f=true∧MeansH P f Hl largs (.ow Hl.length) (Hl++[.row ob])∧zoneEs ob.es=true∧CallHC H (first++c.args.toList.map ρ++cap) ps Hl largs∧∀p∈ps,p∈tch ρ op
theorem tV{H H':List Cell}{ρ ρ':Operand→AV}{op:Op}{ob:Ob}(hρ:∀x∈op.operands,ρ' x=ρ x)(hl:H'.length=H.length)(hH:∀id∈tch ρ op,H'[id]? =H[id]?)(h:NewC P H ρ op ob):NewC P H' ρ' op ob:=by
 obtain⟨c,f,first,cap,ps,Hl,largs,rfl,h1,h2,h3,h4,⟨g1,g2,g3,g4,g5⟩,h6⟩:=h
 refine⟨c,f,first,cap,ps,Hl,largs,rfl,by rw[gL hρ];exact h1,h2,h3,h4,⟨g1,fun p hp=>by rw[hl];exact g2 p hp,?_,g4,by rw[fF hρ,hl];exact g5⟩,fun p hp=>by rw[dH hρ];exact h6 p hp⟩
 rw[hl]
 exact fG (fun p hp=>hH p (h6 p hp)) g3
theorem kP{e:List Cell}:∀{ps:List Nat} {H:List Cell} {cs:List Cell},cs.length=ps.length→setAll H ps (cs++e)=setAll H ps cs
 | [],H,[],_=>by cases e<;>rfl
 |p::ps,H,c::cs,h=>by
  simp only[List.cons_append,setAll]
  exact kP (by simpa using h)
 | [],_,_::_,h=>by cases h
 |_::_,_,[],h=>by cases h
theorem NewC.toA{H:List Cell}{ρ:Operand→AV}{op:Op}{ob:Ob}(h:NewC P H ρ op ob):∃c,op=.call c∧CallHA P H ρ c (.ow H.length) (H++[.row ob]):=by
 obtain⟨c,f,first,cap,ps,Hl,largs,rfl,h1,h2,h3,h4,h5,h6⟩:=h
 obtain⟨g1,g2,g3,g4,g5⟩:=h5
 have hlen:=bO g3
 refine⟨c,rfl,f,first,cap,ps,Hl,largs,.ow Hl.length,Hl++[.row ob],h1,h2,h3,⟨g1,g2,g3,g4,g5⟩,?_,?_⟩
 ·simp only[ren]
  rw[dO (by omega),hlen];simp
 ·have hs:=iF g1 g2 g3
  unfold heapAfter at hs⊢
  rw[List.map_append,kP (cs:=Hl.map (renCell (upN ps H.length))) (by simpa using hlen)]
  rw[List.drop_of_length_le (by omega),List.map_nil,List.append_nil]at hs
  rw[hs,List.drop_append,List.drop_of_length_le (by omega),show ps.length-Hl.length=0 by omega]
  simp[renCell,renEs,h4]
theorem iT{ob:Ob}(h:zoneEs ob.es=true):cellIds (.row ob)=[]:=by
 show(bif zoneEs ob.es then[]else _)=_
 rw[h];rfl
def StepU(P:Program)(n L0:Nat)(o:Oper)(t:TagU)(st st':St):Prop:=
 (∀d,o.dst=some d→d<n)∧o.guard=none∧t.t=tch (ev st.env) o.op∧
 ((∃r,DoesX P st.heap (ev st.env) o.op r∧(∀id∈r.ids,id∈t.t∨id<L0)∧st'=⟨putE st.env o.dst r,st.heap⟩∧t.w=[]∧t.nw=false)∨
  (∃p r upd nw,effA P st.heap (ev st.env) o.op=some (p,r,setU st.heap upd++nw)∧p∧r.effR=true∧(∀id∈r.ids,id∈t.t∨id<L0∨(id=st.heap.length∧nw≠[]))∧nw.length≤1∧
    (∀H1:List Cell,H1.length=st.heap.length→(∀id∈t.t,H1[id]? =st.heap[id]?)→effA P H1 (ev st.env) o.op=some (p,r,setU H1 upd++nw))∧
    (∀q∈upd,q.1∈t.w∧q.1∈t.t∧∀id∈cellIds q.2,id∈t.t∨id<L0)∧(∀c∈nw,t.c∈t.w∧∀id∈cellIds c,id∈t.t∨id<L0)∧t.nw= !nw.isEmpty∧(∀id∈t.w,id∈t.t∨(id=t.c∧t.nw=true))∧
    st'=⟨putE st.env o.dst (plc st.heap.length t.c r),setU st.heap (upd++nw.map fun c=>(t.c,c))⟩)∨
  (∃ob,NewC P st.heap (ev st.env) o.op ob∧t.w=[t.c]∧t.nw=true∧st'=⟨putE st.env o.dst (.ow t.c),setU st.heap [(t.c,.row ob)]⟩))
theorem rJ{L c:Nat}{e:AV}(h:∀id∈e.ids,id≠L):plc L c e=e:=by
 cases e with
 |ow i=>have:=h i (by simp[AV.ids]);simp[plc,this]
 |el i k a b=>have:=h i (by simp[AV.ids]);simp[plc,this]
 |_=>rfl
theorem vP{L c:Nat}{e:AV}(hf:e.effR=true){id:Nat}(h:id∈(plc L c e).ids):id=c∨(id∈e.ids∧id≠L):=by
 cases e with
 |ow i=>
  simp only[plc,AV.ids,List.mem_singleton]at h⊢
  split at h
  ·exact .inl h
  ·rename_i hne;exact .inr ⟨h,by rw[h];exact hne⟩
 |el i k a b=>
  simp only[plc,AV.ids,List.mem_singleton]at h⊢
  split at h
  ·exact .inl h
  ·rename_i hne;exact .inr ⟨h,by rw[h];exact hne⟩
 |_=>
  simp only[AV.effR,List.isEmpty_iff]at hf
  simp only[plc]at h
  rw[hf]at h;cases h
theorem A8{X:Ctx}{L0:Nat}{st st':St}{ops:Array Oper}{o:Oper}{t:TagU}{a:Act}{K:Act→World→Prop}{Q:Exit→Act→World→Prop}{C:Nat→Prop}(hs:StepU P X.n L0 o t st st')(hn:NmOK L0 st C)(hC:t.nw=true→C t.c)(hr:R X st a w)
  (hk:∀a' w',R X st' a' w'→K a' w'):if Region.wanted o (yielded ops a.tmps)=true then o.wp P a w K Q else K (a.put o.dst undef) w:=by
 obtain⟨M,loc,h⟩:=hr
 obtain⟨hd,hg,htt,hs⟩:=hs
 have hw:Region.wanted o (yielded ops a.tmps)=true:=by simp[Region.wanted,hg]
 rw[if_pos hw]
 have htc:∀{id},id∈t.t→id<st.heap.length∧¬C id:=fun{id} hid=>hn.tch (by rw[←htt];exact hid)
 rcases hs with⟨r,hdo,hi,rfl,_,_⟩|⟨p,r,upd,nw,he,hp,hf,hri,hnl,_,hupd,hnw,hnwb,_,rfl⟩|⟨ob,hnc,htw,hnwb,rfl⟩
 ·have hlt:r.idLt st.heap.length:=(aT _ _).2 fun id hid=>by
   rcases hi id hid with h1|h1
   ·exact(htc h1).1
   ·exact Nat.lt_of_lt_of_le h1 hn.len
  exact rK h (fun x _=>h.ev x) (fun x _=>h.evLt x) hdo fun v w' M' h1 h2=>hk _ _ ⟨M',loc,h1.putO hd h2 hlt⟩
 ·obtain⟨nx,w',loc',v,h1,h2,h3,h4,h5⟩:=pT h he hp
  unfold Oper.wp
  rw[h1]
  have hfin:K (a.put o.dst v) w':=by
   match nw,hnl with
   | [],_=>
     have hne:∀id∈r.ids,id≠st.heap.length:=fun id hid e=>by
      rcases hri id hid with q|q|⟨_,q⟩
      ·have:=(htc q).1;omega
      ·have:=hn.len;omega
      ·exact q rfl
     rw[rJ hne,List.map_nil,List.append_nil]at hk
     rw[List.append_nil]at h3 h5
     exact hk _ _ ⟨M,loc',h3.putO hd h4 h5⟩
   | [x],_=>
     have hcC:C t.c:=hC (by rw[hnwb];rfl)
     have hlen:(setU st.heap upd).length=st.heap.length:=eI _ _
     have hdead:(setU st.heap upd)[t.c]? =some .dead:=by
      rw[eY _ _ _ fun q hq e=>(htc (hupd q hq).2.1).2 (by rw[e];exact hcC)]
      exact hn.dead _ hcC
     have hcl:t.c<st.heap.length:=(List.getElem?_eq_some_iff.1 (hn.dead _ hcC)).1
     have hok:∀id,(id∈t.t∨id<L0)→id<(setU st.heap upd).length∧id≠t.c:=fun id hid=>by
      rw[hlen]
      rcases hid with q|q
      ·exact⟨(htc q).1,fun e=>(htc q).2 (by rw[e];exact hcC)⟩
      ·have:=hn.low _ hcC;have:=hn.len;exact⟨by omega,by omega⟩
     have hmv:=RR.move (c:=t.c) (G:=setU st.heap upd) (x:=x) (env:=st.env) h3 hdead (fun s id hid=>by
       obtain⟨q1,q2⟩:=hn.env s id hid
       exact⟨by rw[hlen];exact q1,fun e=>q2 (by rw[e];exact hcC)⟩) (fun i ob hob e he id hid=>by
      by_cases hil:i<(setU st.heap upd).length
      ·rw[List.getElem?_append_left hil]at hob
       rcases gK _ _ _ _ hob with q|⟨q,hq,hq2⟩
       ·obtain⟨q1,q2⟩:=hn.row i ob q e he id hid
        exact⟨by rw[hlen];exact q1,fun e=>q2 (by rw[e];exact hcC)⟩
       ·exact hok id ((hupd q hq).2.2 id (by rw[hq2];exact cW he hid))
      ·rw[List.getElem?_append_right (by omega)]at hob
       have hz:i-(setU st.heap upd).length=0:=by
        have:=(List.getElem?_eq_some_iff.1 hob).1
        simp at this;omega
       rw[hz]at hob
       have hxo:x=.row ob:=by simpa using hob
       exact hok id ((hnw x (by simp)).2 id (by rw[hxo];exact cW he hid)))
     have hrp:=DY (G:=setU st.heap upd) (c:=t.c) hf (fun id hid=>by
      rcases hri id hid with q|q|⟨q,_⟩
      ·exact(hok id (.inl q)).2
      ·exact(hok id (.inr q)).2
      ·omega) h4
     rw[hlen]at hrp
     have hstate:setU st.heap (upd++[(t.c,x)])=(setU st.heap upd).set t.c x:=by rw[lW];rfl
     refine hk (a.put o.dst v) w' ⟨M,fun i=>if i=t.c then loc' st.heap.length else loc' i,?_⟩
     rw[List.map_singleton,hstate]
     rw[hlen]at hmv
     refine hmv.putO hd hrp ((aT _ _).2 fun id hid=>?_)
     simp only[List.length_set,hlen]
     rcases vP hf hid with q|⟨q,qn⟩
     ·omega
     ·rcases hri id q with q|q|⟨q,_⟩
      ·exact(htc q).1
      ·exact Nat.lt_of_lt_of_le q hn.len
      ·exact absurd q qn
  rcases h2 with rfl|⟨rfl,rfl⟩
  ·exact hfin
  ·exact hfin
 ·have hz:zoneEs ob.es=true:=by obtain⟨_,_,_,_,_,_,_,_,_,_,_,h4,_⟩:=hnc;exact h4
  obtain⟨c,hop,hca⟩:=hnc.toA
  obtain⟨f,vs,h1,h2⟩:=jZ h hop (fun x _=>h.ev x) hca
  have hcC:C t.c:=hC hnwb
  have hcl:t.c<st.heap.length:=(List.getElem?_eq_some_iff.1 (hn.dead _ hcC)).1
  unfold Oper.wp
  rw[h1]
  refine h2.mono fun e w' hq=>?_
  obtain⟨x,M',loc',rfl,h3,h4,_⟩:=hq
  have hmv:=RR.move (c:=t.c) (G:=st.heap) (x:=.row ob) (env:=st.env) h3 (hn.dead _ hcC) (fun s id hid=>by
    obtain⟨q1,q2⟩:=hn.env s id hid
    exact⟨q1,fun e=>q2 (by rw[e];exact hcC)⟩) (fun i o2 hob e he id hid=>by
   by_cases hil:i<st.heap.length
   ·rw[List.getElem?_append_left hil]at hob
    obtain⟨q1,q2⟩:=hn.row i o2 hob e he id hid
    exact⟨q1,fun e=>q2 (by rw[e];exact hcC)⟩
   ·rw[List.getElem?_append_right (by omega)]at hob
    have hz0:i-st.heap.length=0:=by
     have:=(List.getElem?_eq_some_iff.1 hob).1
     simp at this;omega
    rw[hz0]at hob
    have hxo:ob=o2:=by simpa using hob
    have:=cW (o:=o2) he hid
    rw[←hxo,iT hz]at this
    cases this)
  refine hk (a.put o.dst x) w' ⟨M',fun i=>if i=t.c then loc' st.heap.length else loc' i,?_⟩
  have hrp:Rep w' M' (fun i=>if i=t.c then loc' st.heap.length else loc' i) x (.ow t.c):=by
   have h4':x=loc' st.heap.length:=h4
   show x=(if t.c=t.c then loc' st.heap.length else loc' t.c)
   rw[if_pos rfl];exact h4'
  exact hmv.putO hd hrp (by show t.c<_;rw[List.length_set];exact hcl)
theorem GF{n L0:Nat}{o:Oper}{t:TagU}{st st':St}(h:StepU P n L0 o t st st'):
  ∃r U,st'=⟨putE st.env o.dst r,setU st.heap U⟩∧(∀q∈U,q.1∈t.w)∧∀(env1:Nat→AV) (H1:List Cell),(∀x∈o.op.operands,ev env1 x=ev st.env x)→H1.length=st.heap.length→(∀id∈t.t,H1[id]? =st.heap[id]?)→StepU P n L0 o t ⟨env1,H1⟩ ⟨putE env1 o.dst r,setU H1 U⟩:=by
 obtain⟨hd,hg,htt,hs⟩:=h
 rcases hs with⟨r,hdo,hi,rfl,e1,e2⟩|⟨p,r,upd,nw,he,hp,hf,hri,hnl,hloc,hupd,hnw,hnwb,htw,rfl⟩|⟨ob,hnc,htw,hnwb,rfl⟩
 ·refine⟨r,[],rfl,by simp,fun env1 H1 h1 h2 h3=>⟨hd,hg,by rw[dH h1];exact htt,.inl ⟨r,kQ h1 (fun id hid=>h3 id ?_) hdo,hi,rfl,e1,e2⟩⟩⟩
  rw[htt];exact vQ hid
 ·refine⟨plc st.heap.length t.c r,upd++nw.map fun c=>(t.c,c),rfl,fun q hq=>?_,fun env1 H1 h1 h2 h3=>⟨hd,hg,by rw[dH h1];exact htt,.inr (.inl ⟨p,r,upd,nw,?_,hp,hf,?_,hnl,fun H2 g1 g2=>?_,hupd,hnw,hnwb,htw,?_⟩)⟩⟩
  ·rcases List.mem_append.1 hq with hq|hq
   ·exact(hupd q hq).1
   ·obtain⟨c,hc,rfl⟩:=List.mem_map.1 hq
    exact(hnw c hc).1
  ·show effA P H1 (ev env1) o.op=_
   rw[iG h1];exact hloc H1 h2 h3
  ·show ∀id∈r.ids,id∈t.t∨id<L0∨(id=H1.length∧nw≠[])
   rw[h2];exact hri
  ·rw[iG h1]
   exact hloc H2 (by rw[g1];exact h2) (fun id hid=>(g2 id hid).trans (h3 id hid))
  ·show _=(⟨putE env1 o.dst (plc H1.length t.c r),_⟩:St)
   rw[h2]
 ·exact⟨.ow t.c,[(t.c,.row ob)],rfl,fun q hq=>by simp at hq;rw[hq,htw];simp,fun env1 H1 h1 h2 h3=>⟨hd,hg,by rw[dH h1];exact htt,.inr (.inr ⟨ob,tV h1 h2 (fun id hid=>h3 id (by rw[htt];exact hid)) hnc,htw,hnwb,rfl⟩)⟩⟩
def noMeetU(ti tj:TagU):Bool:=(ti.w.all fun id=> !tj.t.contains id&& !tj.w.contains id)&&(tj.w.all fun id=> !ti.t.contains id)
theorem IM{ops:Array Oper}{n L0:Nat}{oi oj:Oper}{ti tj:TagU}{st st1 st2:St}(hi:StepU P n L0 oi ti st st1)(hj:StepU P n L0 oj tj st1 st2)(hap:oi.apart ops oj=true)(hm:noMeetU ti tj=true):
  ∃st1',StepU P n L0 oj tj st st1'∧StepU P n L0 oi ti st1' st2:=by
 obtain⟨a1,a2,a3⟩:=Oper.apart_spec hap
 simp only[noMeetU,Bool.and_eq_true,List.all_eq_true,Bool.not_eq_true']at hm
 obtain⟨m1,m2⟩:=hm
 have m1t:∀id∈ti.w,id∉tj.t:=fun id h1 h2=>by have:=(m1 id h1).1;simp at this;exact this h2
 have m1w:∀id∈ti.w,id∉tj.w:=fun id h1 h2=>by have:=(m1 id h1).2;simp at this;exact this h2
 have m2t:∀id∈tj.w,id∉ti.t:=fun id h1 h2=>by have:=m2 id h1;simp at this;exact this h2
 obtain⟨ri,Ui,rfl,ui,qi⟩:=GF hi
 obtain⟨rj,Uj,rfl,uj,qj⟩:=GF hj
 refine⟨_,qj st.env st.heap (fun x hx=>(fW a1 x hx).symm) (eI _ _).symm (fun id hid=>(eY _ _ _ fun q hq e=>m1t _ (ui q hq) (by rw[e];exact hid)).symm),?_⟩
 have:=qi (putE st.env oj.dst rj) (setU st.heap Uj) (fW a3) (eI _ _) (fun id hid=>eY _ _ _ fun q hq e=>m2t _ (uj q hq) (by rw[e];exact hid))
 rw[←gM a2,o9 Uj Ui _ (fun q hq p hp e=>m1w _ (ui p hp) (by rw[e];exact uj q hq))]at this
 exact this
theorem NmOK.mono{L0:Nat}{st:St}{C C':Nat→Prop}(h:NmOK L0 st C)(hc:∀c,C' c→C c):NmOK L0 st C':=
 ⟨fun s id hid=>⟨(h.env s id hid).1,fun e=>(h.env s id hid).2 (hc _ e)⟩,fun i o ho e he id hid=>⟨(h.row i o ho e he id hid).1,fun q=>(h.row i o ho e he id hid).2 (hc _ q)⟩,fun c e=>h.dead c (hc _ e),fun c e=>h.low c (hc _ e),h.len⟩
theorem StepU.nm{n L0:Nat}{o:Oper}{t:TagU}{st st':St}{C:Nat→Prop}(h:StepU P n L0 o t st st')(hn:NmOK L0 st C)(hC:t.nw=true→C t.c):NmOK L0 st' (fun c=>C c∧(t.nw=true→c≠t.c)):=by
 obtain⟨hd,hg,htt,hs⟩:=h
 have htc:∀{id},id∈t.t→id<st.heap.length∧¬C id:=fun{id} hid=>hn.tch (by rw[←htt];exact hid)
 have hok:∀id,(id∈t.t∨id<L0)→id<st.heap.length∧¬C id:=fun id hid=>by
  rcases hid with q|q
  ·exact htc q
  ·exact⟨Nat.lt_of_lt_of_le q hn.len,fun e=>by have:=hn.low _ e;omega⟩
 have putEnv:∀(r:AV) (N:Nat),st.heap.length=N→(∀id∈r.ids,id<st.heap.length∧¬(C id∧(t.nw=true→id≠t.c)))→∀s,∀id∈(putE st.env o.dst r s).ids,id<N∧¬(C id∧(t.nw=true→id≠t.c)):=fun r N hN hr s id hid=>by
  have old:id∈(st.env s).ids→id<N∧¬(C id∧(t.nw=true→id≠t.c)):=fun hid=>by
   obtain⟨q1,q2⟩:=hn.env s id hid
   exact⟨hN▸q1,fun e=>q2 e.1⟩
  cases hdd:o.dst with
  |none=>rw[hdd]at hid;exact old hid
  |some d=>
   rw[hdd]at hid
   simp only[putE,upd]at hid
   split at hid
   ·obtain⟨q1,q2⟩:=hr id hid
    exact⟨hN▸q1,q2⟩
   ·exact old hid
 rcases hs with⟨r,hdo,hi,rfl,e1,e2⟩|⟨p,r,upd,nw,he,hp,hf,hri,hnl,hloc,hupd,hnw,hnwb,htw,rfl⟩|⟨ob,hnc,htw,hnwb,rfl⟩
 ·refine⟨putEnv r _ rfl fun id hid=>?_,fun i ob ho e he id hid=>⟨(hn.row i ob ho e he id hid).1,fun q=>(hn.row i ob ho e he id hid).2 q.1⟩,fun c q=>hn.dead c q.1,fun c q=>hn.low c q.1,hn.len⟩
  obtain⟨q1,q2⟩:=hok id (hi id hid)
  exact⟨q1,fun e=>q2 e.1⟩
 ·have hlen:(setU st.heap (upd++nw.map fun c=>(t.c,c))).length=st.heap.length:=eI _ _
  refine⟨putEnv _ _ hlen.symm fun id hid=>?_,fun i ob ho e he id hid=>?_,fun c q=>?_,fun c q=>hn.low c q.1,by rw[hlen];exact hn.len⟩
  ·rcases vP hf hid with q|⟨q,qn⟩
   ·cases hb:t.nw with
    |true=>
     have hcC:=hC hb
     exact⟨by rw[q];exact(List.getElem?_eq_some_iff.1 (hn.dead _ hcC)).1,fun e=>e.2 rfl q⟩
    |false=>
     have hne:nw=[]:=by rw[hb]at hnwb;simpa using hnwb.symm
     by_cases hL:∀id∈r.ids,id≠st.heap.length
     ·rw[rJ hL]at hid
      rcases hri id hid with q2|q2|⟨_,q2⟩
      ·obtain⟨g1,g2⟩:=hok id (.inl q2);exact⟨g1,fun e=>g2 e.1⟩
      ·obtain⟨g1,g2⟩:=hok id (.inr q2);exact⟨g1,fun e=>g2 e.1⟩
      ·exact absurd hne q2
     ·exfalso
      apply hL
      intro id2 h2 e2
      rcases hri id2 h2 with q2|q2|⟨_,q2⟩
      ·have:=(htc q2).1;omega
      ·have:=hn.len;omega
      ·exact q2 hne
   ·rcases hri id q with q2|q2|⟨q2,_⟩
    ·obtain⟨g1,g2⟩:=hok id (.inl q2);exact⟨g1,fun e=>g2 e.1⟩
    ·obtain⟨g1,g2⟩:=hok id (.inr q2);exact⟨g1,fun e=>g2 e.1⟩
    ·exact absurd q2 qn
  ·show id<(setU st.heap (upd++nw.map fun c=>(t.c,c))).length∧_
   rw[hlen]
   rcases gK _ _ _ _ ho with q|⟨q,hq,hq2⟩
   ·obtain⟨g1,g2⟩:=hn.row i ob q e he id hid
    exact⟨g1,fun e=>g2 e.1⟩
   ·have hid2:id∈cellIds q.2:=by rw[hq2];exact cW he hid
    have:id∈t.t∨id<L0:=by
     rcases List.mem_append.1 hq with hq|hq
     ·exact(hupd q hq).2.2 id hid2
     ·obtain⟨c,hc,rfl⟩:=List.mem_map.1 hq
      exact(hnw c hc).2 id hid2
    obtain⟨g1,g2⟩:=hok id this
    exact⟨g1,fun e=>g2 e.1⟩
  ·show(setU st.heap (upd++nw.map fun c=>(t.c,c)))[c]? =some .dead
   rw[eY _ _ _ fun x hx e=>?_]
   ·exact hn.dead c q.1
   ·rcases List.mem_append.1 hx with hx|hx
    ·exact(htc (hupd x hx).2.1).2 (by rw[e];exact q.1)
    ·obtain⟨c2,hc2,rfl⟩:=List.mem_map.1 hx
     refine q.2 ?_ e.symm
     rw[hnwb]
     cases nw with
     |nil=>cases hc2
     |cons _ _=>rfl
 ·have hz:zoneEs ob.es=true:=by obtain⟨_,_,_,_,_,_,_,_,_,_,_,h4,_⟩:=hnc;exact h4
  have hcC:=hC hnwb
  have hcl:t.c<st.heap.length:=(List.getElem?_eq_some_iff.1 (hn.dead _ hcC)).1
  have hlen:(setU st.heap [(t.c,.row ob)]).length=st.heap.length:=eI _ _
  refine⟨putEnv _ _ hlen.symm fun id hid=>?_,fun i o2 ho e he id hid=>?_,fun c q=>?_,fun c q=>hn.low c q.1,by rw[hlen];exact hn.len⟩
  ·simp only[AV.ids,List.mem_singleton]at hid
   rw[hid]
   exact⟨hcl,fun e=>e.2 hnwb rfl⟩
  ·show id<(setU st.heap [(t.c,.row ob)]).length∧_
   rw[hlen]
   rcases gK _ _ _ _ ho with q|⟨q,hq,hq2⟩
   ·obtain⟨g1,g2⟩:=hn.row i o2 q e he id hid
    exact⟨g1,fun e=>g2 e.1⟩
   ·simp at hq
    rw[hq]at hq2
    have hq3:Cell.row ob=Cell.row o2:=hq2
    have hid2:id∈cellIds (.row ob):=by rw[hq3];exact cW he hid
    rw[iT hz]at hid2;cases hid2
  ·show(setU st.heap [(t.c,.row ob)])[c]? =some .dead
   rw[eY _ _ _ fun x hx e=>?_]
   ·exact hn.dead c q.1
   ·simp at hx
    rw[hx]at e
    exact q.2 hnwb e.symm
def RunUX(P:Program)(n L0:Nat):List (Oper×TagU)→St→St→Prop
 | [],st,st'=>st'=st
 |(o,t)::l,st,st'=>∃st1,StepU P n L0 o t st st1∧RunUX P n L0 l st1 st'
theorem vR{ops:Array Oper}{n L0:Nat}{x:Oper×TagU}{B:List (Oper×TagU)}{sf:St}:∀(A:List (Oper×TagU)) (st:St),RunUX P n L0 (A++x::B) st sf→
  (∀a∈A,a.1.apart ops x.1=true∧noMeetU a.2 x.2=true)→RunUX P n L0 (x::(A++B)) st sf
 | [],st,h,_=>h
 |a::A,st,h,hA=>by
  obtain⟨st1,h1,h2⟩:=h
  obtain⟨st2,g1,g2⟩:=vR A st1 h2 (fun b hb=>hA b (by simp[hb]))
  obtain⟨p1,p2⟩:=hA a (by simp)
  obtain⟨st1',q1,q2⟩:=IM h1 g1 p1 p2
  exact⟨st1',q1,st2,q2,g2⟩
def CL(T:Nat→TagU)(L:List Nat)(c:Nat):Prop:=∃i∈L,(T i).nw=true∧(T i).c=c
theorem A9{X:Ctx}{ops:Array Oper}{L0:Nat}{Q:Exit→Act→World→Prop}{T:Nat→TagU}{sf:St}(hq:∀a w,R X sf a w→Q .normal a w){meet:Nat→Oper→Nat→Oper→Bool}
  (hback:∀j oj,ops[j]? =some oj→∀e∈oj.after,Region.binds .any e=true→e.on<j)
  (hind:∀i j oi oj,ops[i]? =some oi→ops[j]? =some oj→i<j→Reach ops i j∨(oi.apart ops oj=true∧meet i oi j oj=true))
  (hmeet:∀i j oi oj,ops[i]? =some oi→ops[j]? =some oj→i<j→meet i oi j oj=true→noMeetU (T i) (T j)=true)
  (hdis:∀i j,i<ops.size→j<ops.size→i≠j→(T i).nw=true→(T j).nw=true→(T i).c≠(T j).c):
  ∀(fuel:Nat) (listed:Array Bool) (st:St) (a:Act) (w:World),listed.size=ops.size→(leftL ops listed).length=fuel→NmOK L0 st (CL T (leftL ops listed))→
   (∀j o,ops[j]? =some o→listed.getD j false=true→∀e∈o.after,Region.binds .any e=true→listed.getD e.on false=true)→
   RunUX P X.n L0 ((leftL ops listed).map fun i=>(ops.getD i default,T i)) st sf→R X st a w→wpAny P .any ops Q fuel listed a w:=by
 have hsome:∀{listed:Array Bool} {i},i∈leftL ops listed→ops[i]? =some (ops.getD i default)∧listed.getD i true=false:=by
  intro listed i hi
  simp only[leftL,List.mem_filter,List.mem_range,Bool.not_eq_true']at hi
  exact⟨by rw[Array.getD_eq_getD_getElem?,Array.getElem?_eq_getElem hi.1];rfl,hi.2⟩
 intro fuel
 induction fuel with
 |zero=>
  intro listed st a w hs hl hN _ hr hR
  have h0:leftL ops listed=[]:=List.eq_nil_of_length_eq_zero hl
  rw[h0]at hr
  simp only[List.map_nil,RunUX]at hr
  subst hr
  refine⟨?_,hq a w hR⟩
  refine List.eq_nil_iff_forall_not_mem.2 fun i hi=>?_
  have:=(cF.1 hi).1
  rw[h0]at this;cases this
 |succ fuel ih=>
  intro listed st a w hs hl hN hcl hr hR
  refine⟨fun h0=>?_,fun i hi=>?_⟩
  ·exfalso
   cases hL:leftL ops listed with
   |nil=>rw[hL]at hl;simp at hl
   |cons k L=>
    have hk:k∈leftL ops listed:=by rw[hL];simp
    have:k∈Region.ready .any ops listed:=by
     refine cF.2 ⟨hk,fun o ho e he hbn=>?_⟩
     have hlt:=hback k o ho e he hbn
     have hkk:k<ops.size:=(Array.getElem?_eq_some_iff.1 ho).1
     cases hg:listed.getD e.on false with
     |true=>rfl
     |false=>
      exfalso
      have hsz:e.on<listed.size:=by omega
      have hmem:e.on∈leftL ops listed:=by
       simp only[leftL,List.mem_filter,List.mem_range,Bool.not_eq_true']
       refine⟨by omega,?_⟩
       rw[Array.getD_eq_getD_getElem?,Array.getElem?_eq_getElem hsz]at hg⊢
       exact hg
      have hsort:=bZ ops listed
      rw[hL]at hsort hmem
      rcases List.mem_cons.1 hmem with h|h
      ·omega
      ·have:=(List.pairwise_cons.1 hsort).1 _ h;omega
    rw[h0]at this;cases this
  ·obtain⟨hil,hip⟩:=cF.1 hi
   obtain⟨hoi,hli⟩:=hsome hil
   obtain⟨A,B,hAB,hA,hf⟩:=iU (bZ ops listed) hil
   rw[hAB,List.map_append,List.map_cons]at hr
   have hbub:=vR (ops:=ops) (A.map fun i=>(ops.getD i default,T i)) st hr (fun x hx=>by
    obtain⟨k,hk,rfl⟩:=List.mem_map.1 hx
    have hkl:k∈leftL ops listed:=by rw[hAB];simp[hk]
    obtain⟨hok,hlk⟩:=hsome hkl
    rcases hind k i _ _ hok hoi (hA k hk)with h1|⟨h1,h2⟩
    ·exfalso
     have:=fH hcl h1 hip
     have hk2:k<listed.size:=by
      simp only[leftL,List.mem_filter,List.mem_range]at hkl;omega
     rw[Array.getD_eq_getD_getElem?,Array.getElem?_eq_getElem hk2]at this hlk
     simp at this hlk
     rw[hlk]at this;cases this
    ·exact⟨h1,hmeet k i _ _ hok hoi (hA k hk) h2⟩)
   obtain⟨st1,h1,h2⟩:=hbub
   have hCi:(T i).nw=true→CL T (leftL ops listed) (T i).c:=fun hb=>⟨i,hil,hb,rfl⟩
   have hlset:leftL ops (listed.setIfInBounds i true)=A++B:=by rw[eJ hs hil,hf]
   have hN1:NmOK L0 st1 (CL T (leftL ops (listed.setIfInBounds i true))):=by
    refine(h1.nm hN hCi).mono fun c hc=>?_
    obtain⟨j,hj,hb,rfl⟩:=hc
    rw[hlset]at hj
    have hjl:j∈leftL ops listed:=by
     rw[hAB]
     rcases List.mem_append.1 hj with h|h
     ·exact List.mem_append_left _ h
     ·exact List.mem_append_right _ (List.mem_cons_of_mem _ h)
    have hsj:j<ops.size:=by simp only[leftL,List.mem_filter,List.mem_range]at hjl;exact hjl.1
    have hsi:i<ops.size:=by simp only[leftL,List.mem_filter,List.mem_range]at hil;exact hil.1
    refine⟨⟨j,hjl,hb,rfl⟩,fun hbi=>hdis j i hsj hsi ?_ hb hbi⟩
    rintro rfl
    have hsort:=bZ ops listed
    rw[hAB]at hsort
    rcases List.mem_append.1 hj with h|h
    ·have:=(List.pairwise_append.1 hsort).2.2 j h j (by simp);omega
    ·have:=(List.pairwise_cons.1 (List.pairwise_append.1 hsort).2.1).1 j h;omega
   unfold wpOp
   rw[hoi]
   simp only[]
   have hstep:=A8 (ops:=ops) (Q:=Q) (K:=wpAny P .any ops Q fuel (listed.setIfInBounds i true)) h1 hN hCi hR (fun a' w' hR'=>by
    refine ih (listed.setIfInBounds i true) st1 a' w' (by simpa using hs) ?_ hN1 ?_ ?_ hR'
    ·rw[hlset]
     rw[hAB]at hl
     simp at hl⊢;omega
    ·intro j o hj hlj e he hbn
     have hset:∀q,listed.getD q false=true→(listed.setIfInBounds i true).getD q false=true:=fun q hq=>by
      by_cases hqi:q=i
      ·subst hqi
       have hqs:q<listed.size:=by
        simp only[leftL,List.mem_filter,List.mem_range]at hil;omega
       rw[Array.getD_eq_getD_getElem?,Array.getElem?_setIfInBounds_self_of_lt hqs];rfl
      ·rw[Array.getD_eq_getD_getElem?,Array.getElem?_setIfInBounds_ne (by omega),←Array.getD_eq_getD_getElem?];exact hq
     by_cases hji:j=i
     ·subst hji
      exact hset _ (hip o hj e he hbn)
     ·rw[Array.getD_eq_getD_getElem?,Array.getElem?_setIfInBounds_ne (by omega),←Array.getD_eq_getD_getElem?]at hlj
      exact hset _ (hcl j o hj hlj e he hbn)
    ·rw[hlset,List.map_append];exact h2)
   split
   ·rename_i hw
    rw[if_pos hw]at hstep
    exact .inl hstep
   ·rename_i hw
    rw[if_neg hw]at hstep
    exact hstep
def meetU(ts:List TagU)(i:Nat)(_:Oper)(j:Nat)(_:Oper):Bool:=noMeetU (ts.getD i default) (ts.getD j default)
def okNum(L0 K:Nat)(ts:List TagU):Bool:=((List.range ts.length).all fun i=>(List.range ts.length).all fun j=>i==j|| !(ts.getD i default).nw|| !(ts.getD j default).nw||(ts.getD i default).c !=(ts.getD j default).c)&&ts.all fun t=> !t.nw||(decide (L0≤t.c)&&decide (t.c<L0+K))
theorem xS{X:Ctx}{Q:Exit→St→Prop}{st st':St}{id:Nat}{ops:Array Oper}{K:Nat}(ts:List TagU)(hm:P.follows .mixedOrders=true)(hd:drawOK ops (meetU ts)=true)(hc:okNum st.heap.length K ts=true)(hlen:ts.length=ops.size)
  (h:RunUX P X.n st.heap.length (ops.toList.zip ts) ⟨st.env,st.heap++List.replicate K .dead⟩ st') (hq:Q .normal st'):AWP P X (.region id ops true) Q st:=by
 intro a w hr
 refine wp_region_any hm ?_
 obtain⟨hback,hind⟩:=fX hd
 have hall:leftL ops (Array.replicate ops.size false)=List.range ops.size:=by
  unfold leftL
  refine List.filter_eq_self.2 fun i hi=>?_
  simp only[List.mem_range]at hi
  rw[Array.getD_eq_getD_getElem?]
  simp[hi]
 simp only[okNum,Bool.and_eq_true,List.all_eq_true,List.mem_range,Bool.or_eq_true,beq_iff_eq,Bool.not_eq_true',bne_iff_ne,decide_eq_true_eq]at hc
 obtain⟨hc1,hc2⟩:=hc
 have hR:=hr.drew
 obtain⟨M,loc,hRR⟩:=hR
 have hA:=hRR.aside K
 refine A9 (T:=fun i=>ts.getD i default) (sf:=st') (L0:=st.heap.length) (fun a' w' hr'=>⟨st',hq,hr'⟩) hback hind (fun i j oi oj hi hj _ hmt=>hmt) (fun i j hi hj hij h1 h2=>?_) ops.size _ ⟨st.env,st.heap++List.replicate K .dead⟩ a _ (by simp) ?_ ?_ ?_ ?_ ⟨M,_,hA⟩
 ·rcases hc1 i (by omega) j (by omega)with((h|h)|h)|h
  ·exact absurd h hij
  ·rw[h1]at h;cases h
  ·rw[h2]at h;cases h
  ·exact h
 ·rw[hall];simp
 ·rw[hall]
  have hCl:∀c,CL (fun i=>ts.getD i default) (List.range ops.size) c→st.heap.length≤c∧c<st.heap.length+K:=fun c ⟨i,hi,hb,e⟩=>by
   have hi2:i<ts.length:=by rw[List.mem_range]at hi;omega
   have hmem:ts.getD i default∈ts:=by rw[List.getD_eq_getElem?_getD,List.getElem?_eq_getElem hi2];exact List.getElem_mem hi2
   rcases hc2 _ hmem with h|h
   ·rw[h]at hb;cases hb
   ·rw[←e];exact h
  refine⟨fun s id hid=>?_,fun i o ho e he id hid=>?_,fun c hc=>?_,fun c hc=>(hCl c hc).1,by simp⟩
  ·have:=(aT _ _).1 (hRR.ids s) id hid
   exact⟨by simp;omega,fun e=>by have:=(hCl _ e).1;omega⟩
  ·have hil:i<st.heap.length:=by
    refine Nat.lt_of_not_le fun hle=>?_
    have ho2:=ho
    simp only[]at ho2
    rw[List.getElem?_append_right hle,List.getElem?_replicate]at ho2
    split at ho2<;>cases ho2
   have ho2:st.heap[i]? =some (.row o):=by
    have:=ho
    simp only[]at this
    rwa [List.getElem?_append_left hil]at this
   obtain⟨xs,_,g2⟩:=(hRR.obj i o ho2).own
   obtain⟨j,hj,rfl⟩:=List.getElem_of_mem he
   obtain⟨x,_,hx⟩:=g2 j _ (List.getElem?_eq_getElem hj)
   have:=(aT _ _).1 hx.2.1 id hid
   exact⟨by simp;omega,fun e=>by have:=(hCl _ e).1;omega⟩
  ·obtain⟨h1,h2⟩:=hCl c hc
   show(st.heap++List.replicate K Cell.dead)[c]? =some .dead
   rw[List.getElem?_append_right h1,List.getElem?_replicate,if_pos (by omega)]
 ·intro j o hj hl
  rw[Array.getD_eq_getD_getElem?]at hl
  simp[Array.getElem?_replicate]at hl
  split at hl<;>simp at hl
 ·rw[hall]
  have:((List.range ops.size).map fun i=>(ops.getD i default,ts.getD i default))=ops.toList.zip ts:=by
   apply List.ext_getElem?
   intro k
   by_cases hk:k<ops.size
   ·have hkt:k<ts.length:=by rw[hlen];exact hk
    simp[List.getElem?_range hk,List.getElem?_zip_eq_some,hk,hkt,Array.getD_eq_getD_getElem?,List.getD_eq_getElem?_getD,List.getElem?_zipWith,List.zip]
   ·have hkt:¬k<ts.length:=by rw[hlen];exact hk
    simp[hk,List.zip,List.getElem?_zipWith]
  rw[this];exact h
def placeU(L c:Nat)(H:List Cell):List Cell:=bif H.length !=L then(H.take L).set c (H.getD L .dead)else H
def CallU(P:Program)(f:FuncId)(args:List AV)(b ok:Bool)(H:List Cell)(raw:List AV)(tl:List Nat)(k:Bool→AV→Prop)(kn:Bool→Ob→Prop):Prop:=
 (ok=true∧∃fr r,Means fr P f args r∧r.zone=true∧(fr=true∨r.scal=true∨b=false)∧k true r)∨
 ∃ps Hl largs ob,MeansH P f Hl largs (.ow Hl.length) (Hl++[.row ob])∧zoneEs ob.es=true∧CallHC H raw ps Hl largs∧(∀p∈ps,p∈tl)∧kn true ob
theorem rM{P:Program}{f:FuncId}{args args':List AV}{b b' ok ok':Bool}{H H':List Cell}{raw raw':List AV}{tl tl':List Nat}{k:Bool→AV→Prop}{kn:Bool→Ob→Prop}(h:args=args')(hb:b=b')(ho:ok=ok')(hL:H=H')(hr:raw=raw')(ht:tl=tl'):CallU P f args b ok H raw tl k kn=CallU P f args' b' ok' H' raw' tl' k kn:=by rw[h,hb,ho,hL,hr,ht]
attribute [congr] rM
theorem iW{f:FuncId}{args:List AV}{b ok:Bool}{H:List Cell}{raw:List AV}{tl:List Nat}{k:Bool→AV→Prop}{kn:Bool→Ob→Prop}(ps:List Nat){Hl:List Cell}{largs:List AV}{ob:Ob}(h:MeansH P f Hl largs (.ow Hl.length) (Hl++[.row ob]))(hz:zoneEs ob.es=true)(hc:CallHC H raw ps Hl largs)(ht:∀p∈ps,p∈tl)(hk:kn true ob):CallU P f args b ok H raw tl k kn:=.inr ⟨ps,Hl,largs,ob,h,hz,hc,ht,hk⟩
def runU(P:Program)(n L0:Nat):List Oper→Bool→Nat→List TagU→(St→List TagU→Prop)→St→Prop
 | [],_,_,acc,K,st=>K st acc
 |_::_,false,_,_,_,_=>False
 |o::l,true,k,acc,K,st=>dOK n o.dst∧o.guard=none∧
  match isCall o.op with
  |true=>match tgt (ev st.env) (argsOf o.op).1 with
   |some (f,first,cap)=>callable P f=true∧
     CallU P f (first++(argsOf o.op).2.map (fun x=>argA st.heap (ev st.env x))++cap) ((argsOf o.op).2.any fun x=>(ev st.env x).isOw) ((first++(argsOf o.op).2.map (fun x=>argA st.heap (ev st.env x))++cap).all AV.argOK)
      st.heap (first++(argsOf o.op).2.map (ev st.env)++cap) (tch (ev st.env) o.op)
      (fun z r=>runU P n L0 l z k (acc++[⟨tch (ev st.env) o.op,[],L0+k,false⟩]) K ⟨putE st.env o.dst r,st.heap⟩)
      (fun z ob=>runU P n L0 l z (k+1) (acc++[⟨tch (ev st.env) o.op,[L0+k],L0+k,true⟩]) K ⟨putE st.env o.dst (.ow (L0+k)),st.heap.set (L0+k) (.row ob)⟩)
   |none=>False
  |false=>match isEff o.op with
   |true=>match effA P st.heap (ev st.env) o.op with
    |some (p,r,H)=>p∧r.effR=true∧(∀id∈r.ids,id∈tch (ev st.env) o.op∨id<L0∨(id=st.heap.length∧(H.length !=st.heap.length)=true))∧
      (∀i∈wrOf (ev st.env) o.op,∀id∈cellIds (H.getD i .dead),id∈tch (ev st.env) o.op∨id<L0)∧(∀c∈H.drop st.heap.length,∀id∈cellIds c,id∈tch (ev st.env) o.op∨id<L0)∧
      runU P n L0 l true (bif H.length !=st.heap.length then k+1 else k) (acc++[⟨tch (ev st.env) o.op,wrOf (ev st.env) o.op++(bif H.length !=st.heap.length then[L0+k]else[]),L0+k,H.length !=st.heap.length⟩]) K
       ⟨putE st.env o.dst (plc st.heap.length (L0+k) r),placeU st.heap.length (L0+k) H⟩
    |none=>False
   |false=>match doF P false st.heap (ev st.env) o.op with
    |some (p,r,_)=>p∧(∀id∈r.ids,id∈tch (ev st.env) o.op∨id<L0)∧runU P n L0 l true k (acc++[⟨tch (ev st.env) o.op,[],L0+k,false⟩]) K ⟨putE st.env o.dst r,st.heap⟩
    |none=>False
theorem AA{ρ:Operand→AV}{op:Op}{id:Nat}(h:id∈wrOf ρ op):id∈tch ρ op:=by
 cases op<;>simp only[wrOf]at h
 case store t d x=>exact bM (x:=d) (by simp[Op.operands]) h
 case mapUpdate t m k x=>exact bM (x:=m) (by simp[Op.operands]) h
 case call c=>
  split at h
  ·rename_i s l e1 e2
   exact bM (x:=s) (by simp only[Op.operands,Call.operands,Array.mem_append];right;have:s∈c.args.toList:=by rw[e2];simp
                       simpa using this) h
  ·rename_i s l e1 e2
   exact bM (x:=s) (by simp only[Op.operands,Call.operands,Array.mem_append];right;have:s∈c.args.toList:=by rw[e2];simp
                       simpa using this) h
  ·rename_i s l e1 e2
   exact bM (x:=s) (by simp only[Op.operands,Call.operands,Array.mem_append];right;have:s∈c.args.toList:=by rw[e2];simp
                       simpa using this) h
  ·cases h
 all_goals cases h
theorem vS{n L0:Nat}{K:St→List TagU→Prop}:∀(l:List Oper) (k:Nat) (acc:List TagU) (st:St),runU P n L0 l true k acc K st→∃ts st',ts.length=l.length∧RunUX P n L0 (l.zip ts) st st'∧K st' (acc++ts)
 | [],k,acc,st,h=>⟨[],st,rfl,rfl,by rw[List.append_nil];exact h⟩
 |o::l,k,acc,st,h=>by
  obtain⟨hd,hg,h⟩:=h
  have hd':∀d,o.dst=some d→d<n:=by intro d e;rw[e]at hd;exact hd
  have fin:∀(t:TagU) (st1:St) (k1:Nat),StepU P n L0 o t st st1→runU P n L0 l true k1 (acc++[t]) K st1→∃ts st',ts.length=(o::l).length∧RunUX P n L0 ((o::l).zip ts) st st'∧K st' (acc++ts):=fun t st1 k1 h1 h2=>by
   obtain⟨ts,st',e1,e2,e3⟩:=vS l k1 (acc++[t]) st1 h2
   refine⟨t::ts,st',by simp[e1],⟨st1,h1,e2⟩,?_⟩
   rw[List.append_assoc]at e3
   exact e3
  split at h
  ·rename_i hc
   obtain⟨c,hop,hargs⟩:=iX hc
   rw[hargs]at h
   simp only[]at h
   split at h
   ·rename_i f first cap ht
    obtain⟨h1,h⟩:=h
    rcases h with⟨hok,fr,r,h3,hz,h4,h5⟩|⟨ps,Hl,largs,ob,h3,hz,ha,htl,h5⟩
    ·have hall:=List.all_eq_true.1 hok
     refine fin _ _ _ ⟨hd',hg,rfl,.inl ⟨r,.inl (.inr (.inr (.inl ⟨c,hop,f,first,cap,ht,h1,fun e he=>hall e ?_,fun x hx=>hall _ ?_,hz,fr,h3,?_⟩))),fun id hid=>absurd ((aT 0 r).1 (bC hz 0) id hid) (by omega),rfl,rfl,rfl⟩⟩ h5
     ·rcases List.mem_append.1 he with he|he
      ·exact List.mem_append_left _ (List.mem_append_left _ he)
      ·exact List.mem_append_right _ he
     ·exact List.mem_append_left _ (List.mem_append_right _ (List.mem_map.2 ⟨x,hx,rfl⟩))
     ·rcases h4 with h4|h4|h4
      ·exact .inl h4
      ·exact .inr (.inl h4)
      ·refine .inr (.inr fun x hx=>?_)
       have:=List.any_eq_false.1 h4 x hx
       simpa using this
    ·exact fin _ _ _ ⟨hd',hg,rfl,.inr (.inr ⟨ob,⟨c,f,first,cap,ps,Hl,largs,hop,ht,h1,h3,hz,ha,htl⟩,rfl,rfl,rfl⟩)⟩ h5
   ·exact h.elim
  split at h
  ·split at h
   ·rename_i p r H he
    obtain⟨hp,hf,hr,hw1,hw2,h⟩:=h
    obtain⟨upd,nw,rfl,hnl,hupd,hloc⟩:=xR he
    have hlen:(setU st.heap upd).length=st.heap.length:=eI _ _
    have hne:((setU st.heap upd++nw).length !=st.heap.length)= !nw.isEmpty:=by
     rw[List.length_append,hlen]
     cases nw with
     |nil=>simp
     |cons x xs=>simp
    rw[hne]at h hr
    refine fin _ _ _ ⟨hd',hg,rfl,.inr (.inl ⟨p,r,upd,nw,he,hp,hf,fun id hid=>?_,hnl,hloc,fun q hq=>⟨List.mem_append_left _ (hupd q hq).1,AA (hupd q hq).1,fun id hid=>?_⟩,fun c hc=>⟨List.mem_append_right _ ?_,fun id hid=>?_⟩,rfl,fun id hid=>?_,?_⟩)⟩ h
    ·rcases hr id hid with q|q|⟨q,q2⟩
     ·exact .inl q
     ·exact .inr (.inl q)
     ·exact .inr (.inr ⟨q,fun e=>by rw[e]at q2;cases q2⟩)
    ·refine hw1 q.1 (hupd q hq).1 id ?_
     rw[List.getD_eq_getElem?_getD,(hupd q hq).2]
     exact hid
    ·cases nw with
     |nil=>cases hc
     |cons _ _=>simp
    ·refine hw2 c ?_ id hid
     rw[←hlen,List.drop_left];exact hc
    ·rcases List.mem_append.1 hid with q|q
     ·exact .inl (AA q)
     ·cases nw with
      |nil=>simp at q
      |cons _ _=>simp at q;exact .inr ⟨q,rfl⟩
    ·congr 1
     unfold placeU
     rw[hne]
     match nw,hnl with
     | [],_=>simp
     | [x],_=>
       have e1:(setU st.heap upd++[x]).take st.heap.length=setU st.heap upd:=by rw[←hlen,List.take_left]
       have e2:(setU st.heap upd++[x]).getD st.heap.length .dead=x:=by
        rw[List.getD_eq_getElem?_getD,←hlen];simp
       rw[e1,e2]
       simp[lW,setU]
   ·exact h.elim
  ·rename_i hne
   split at h
   ·rename_i p r H he
    obtain⟨hp,hr,h⟩:=h
    refine fin _ _ _ ⟨hd',hg,rfl,.inl ⟨r,?_,hr,rfl,rfl,rfl⟩⟩ h
    rcases pU he hp with⟨e1,_,_⟩|e1|⟨_,e1,_⟩
    ·exact .inl e1
    ·have:=lX e1
     rw[hne]at this;cases this
    ·exact .inr e1
   ·exact h.elim
theorem iH{X:Ctx}{N:Nat}{Q:Exit→St→Prop}{st:St}{id:Nat}{ops:Array Oper}(G:List Nat)(K:Nat)(hX:X.n=N)(hm:P.follows .mixedOrders=true)
  (h:runU P N st.heap.length ops.toList true 0 [] (fun s ts=>(drawOK ops (meetU ts)&&okNum st.heap.length K ts)=true∧Q .normal (prune G s)) ⟨st.env,st.heap++List.replicate K .dead⟩):AWP P X (.region id ops true) Q st:=by
 obtain⟨ts,st',h0,h1,hd,h2⟩:=vS ops.toList 0 [] _ h
 rw[List.nil_append,Bool.and_eq_true]at hd
 intro a w hr
 refine wp_mono (xS (P:=P) (K:=K) (Q:=fun e s=>e=.normal∧s=st') ts hm hd.1 hd.2 (by rw[h0];simp) (by rw[hX];exact h1) ⟨rfl,rfl⟩ a w hr) fun e a' w' hh=>?_
 obtain⟨s,⟨rfl,rfl⟩,hr'⟩:=hh
 exact⟨_,h2,cK G a' w' hr'⟩
end
attribute [go_sem] runU placeU plc AV.effR tch
@[go_sem] theorem cellIds_row(o:Ob):cellIds (.row o)=bif zoneEs o.es then[]else(o.es.flatMap AV.flat).flatMap AV.ids:=rfl
@[go_sem] theorem cellIds_dead:cellIds .dead=[]:=rfl
@[go_sem] theorem cellIds_map(m:MOb):cellIds (.map m)=[]:=rfl
end Go.Ab
namespace Go.Ab
open Go.RowKit
end Go.Ab
namespace Go.Ab
open Go.RowKit
def okS1(HS:List Src)(H:List Cell):Src→Prop
 | .old id o=>okR HS H H[id]? o
 | .birth _ _=>True
 | .oldM id m=>H[id]? =some (.map m)
 | .gone id=>id<H.length
def okS0(HS:List Src)(H:List Cell):List Src→Prop
 | []=>True
 |s::l=>okS1 HS H s∧okS0 HS H l
def envOK(env:Nat→AV):List (Nat×AV)→Prop
 | []=>True
 |(s,v)::l=>env s=v∧envOK env l
attribute [go_sem] envOK okS0 okS1
end Go.Ab

