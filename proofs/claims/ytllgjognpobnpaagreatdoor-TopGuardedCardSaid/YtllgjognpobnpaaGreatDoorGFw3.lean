import Derived.Test.YtllgjognpobnpaaGreatDoorGFw2
import Derived.Lib.ConvBytes
set_option linter.all false
namespace Go.Ab
open Go.RowKit
def Means(fr:Bool)(P:Program)(f:FuncId)(args:List AV)(r:AV):Prop:=
 ∀(M:Nat→Prop) (w:World) (vs:Array Value),(∀b,M b→b<w.heap.size)→GlobW w M→vs.size=args.length→
  (∀(j:Nat) (x:Value) (e:AV),vs[j]? =some x→args[j]? =some e→RepZ w M x e)→
  Calls P f vs w fun e w'=>∃x,e=.returned x∧Below w.heap.size w w'∧RepZ w' (fun b=>b<w'.heap.size∧(w.heap.size≤b∨(fr=false∧M b))) x r
def callable(P:Program)(f:FuncId):Bool:=
 match P.funcs[f]? with
 |some fn=>fn.name != "runtime.NumGoroutine"&&fn.body.isSome
 |none=>false
def tgt(ρ:Operand→AV):Callee→Option (FuncId×List AV×List AV)
 | .value x=>match ρ x with
   | .v (.func (.func f) first cap)=>some (f,first.toList.map AV.v,cap.toList.map AV.v)
   | .fn f first cap=>some (f,first,cap)
   |_=>none
 |_=>none
def zoneEs(es:List AV):Bool:=es.all fun e=>e.flat.all AV.zone
def argB(H:List Cell):AV→AV
 | .ow id=>match H[id]? with
   |some (.row o)=>bif zoneEs o.es then .sl o.es else .bad
   |_=>.bad
 | .nil=>.sl []
 |x=>x
def argA(H:List Cell):AV→AV
 | .ow id=>match H[id]? with
   |some (.row o)=>bif zoneEs o.es then .sl o.es else .bad
   |_=>.bad
 | .wn id k lo n=>match H[id]? with
   |some (.row o)=>if k=o.k∧lo+n≤o.es.length∧zoneEs o.es=true then .sl ((o.es.drop lo).take n)else .bad
   |_=>.bad
 | .nil=>.sl []
 | .agg cs=>.agg (cs.map (argB H))
 |x=>x
def AV.isOw:AV→Bool
 | .ow _| .wn .. =>true
 | .agg cs=>cs.any fun c=> !c.zoneB
 |_=>false
def AV.argOK:AV→Bool
 | .el .. | .mb .. | .bad| .ow _| .wn .. | .fn .. | .tup _=>false
 | .agg cs=>cs.all AV.zoneB
 |_=>true
def CallA(P:Program)(H:List Cell)(ρ:Operand→AV)(c:Call)(r:AV):Prop:=
 ∃f first cap,tgt ρ c.callee=some (f,first,cap)∧callable P f=true∧(∀e∈first++cap,e.argOK=true)∧(∀x∈c.args.toList,(argA H (ρ x)).argOK=true)∧r.zone=true∧
  ∃fr,Means fr P f (first++c.args.toList.map (fun x=>argA H (ρ x))++cap) r∧(fr=true∨r.scal=true∨∀x∈c.args.toList,(ρ x).isOw=false)
def convB(P:Program)(ρ:Operand→AV):Op→Option (Prop×AV)
 | .convert src dst x=>match ρ x,tyk P dst,tyk P src with
   | .v (.string s),some ⟨.slice e,_,_,_⟩,some _=>match tyk P e with
     |some ⟨.int .u8,_,_,_⟩=>some (s.size≤maxLen,.sl (s.data.toList.map fun b=>.v (.int .u8 b.toNat)))
     |_=>none
   |_,_,_=>none
 |_=>none
def DoesP(P:Program)(H:List Cell)(ρ:Operand→AV)(op:Op)(r:AV):Prop:=
 (∃p,purA P H ρ op=some (p,r)∧p)∨(∃t parts p,op=.build t parts∧buildA P ρ t parts.toList=some (p,r)∧p)∨(∃c,op=.call c∧CallA P H ρ c r)∨(∃p,convB P ρ op=some (p,r)∧p)
def putE(env:Nat→AV):Option Nat→AV→Nat→AV
 |some d,r=>upd env d r
 |none,_=>env
def gvOf(ops:Array Oper)(env:Nat→AV)(j:Nat)(b:Bool):Option Bool:=
 match(ops[j]?).bind (fun o=>o.dst)with
 |some d=>match(if d<G0 then env d else .bad)with
  | .v (.bool g)=>some (bif b then g else !g)
  | .mb g0 (.v (.bool g))=>some (g0&&(bif b then g else !g))
  |_=>none
 |none=>none
def AV.un:AV→AV
 | .mb _ y=>y
 |y=>y
def AV.okU(g:Bool):AV→Prop
 | .mb g' _=>g=true→g'=true
 |_=>True
def tch(ρ:Operand→AV)(op:Op):List Nat:=op.operands.toList.flatMap fun x=>(ρ x).ids
def subIds(r:AV)(l:List Nat):Prop:=∀id∈r.ids,id∈l
theorem HO(e:AV):e.un.ids=e.ids:=by cases e<;>rfl
theorem eE{r:AV}{ρ:Operand→AV}{op:Op}{n:Nat}(h:subIds r (tch ρ op))(hl:∀x∈op.operands,(ρ x).idLt n):r.idLt n:=by
 rw[aT]
 intro id hid
 obtain⟨x,hx,hi⟩:=List.mem_flatMap.1 (h id hid)
 exact(aT n _).1 (hl x (by simpa using hx)) id hi
def evS(env:Nat→AV)(sel:Operand→Bool):Operand→AV:=fun x=>bif sel x then(ev env x).un else ev env x
def StepR(P:Program)(ops:Array Oper)(n:Nat)(o:Oper)(st st':St):Prop:=
 (∀d,o.dst=some d→d<n)∧
 match o.guard with
 |none=>(∃r,DoesP P st.heap (ev st.env) o.op r∧subIds r (tch (ev st.env) o.op)∧st'=⟨putE st.env o.dst r,st.heap⟩)∨(∃r H' p,effA P st.heap (ev st.env) o.op=some (p,r,H')∧p∧r.idLt H'.length∧st'=⟨putE st.env o.dst r,H'⟩)
 |some (j,b)=>∃gb r sel,gvOf ops st.env j b=some gb∧(∀x∈o.op.operands,sel x=true→(ev st.env x).okU gb)∧(gb=true→DoesP P st.heap (evS st.env sel) o.op r)∧subIds r (tch (ev st.env) o.op)∧st'=⟨putE st.env o.dst (.mb gb r),st.heap⟩
section
variable{P:Program}{w:World}{M:Nat→Prop}{loc:Nat→Value}
theorem dP{es:List AV}(h:zoneEs es=true){j:Nat}{e:AV}(he:(es.flatMap AV.flat)[j]? =some e):e.zone=true:=by
 obtain⟨n,hn,hn2⟩:=List.mem_flatMap.1 (List.mem_of_getElem? he)
 unfold zoneEs at h
 have:=List.all_eq_true.1 h n hn
 exact List.all_eq_true.1 this e hn2
theorem RR.frozenRow{X:Ctx}{st:St}{a:Act}(h:RR X M loc st a w){id:Nat}{o:Ob}(ho:st.heap[id]? =some (.row o))(hz:zoneEs o.es=true){M':Nat→Prop}(hM:∀b,M b→M' b)
  (hb:∀g,(loc id).ownBlock=some g→M' g):RepZ w M' (loc id) (.sl o.es):=by
 have hob:=h.obj id o ho
 obtain⟨xs,hown,hxs⟩:=hob.repL
 rcases hown.2 with⟨hn,h0⟩|⟨g,cap,cur,hn,hbg,hheap,hnc,hcm,hcs,htake⟩
 ·have hes:o.es=[]:=List.eq_nil_of_length_eq_zero h0
  rw[hn,hes]
  exact .sl none 0 o.k [] (fun _=>undef) (by simp) (by simp) (by simp) (by simp) (by simp) (by simp)
 ·have hcells:=hown.cells (g:=g) (by rw[hn];rfl)
  rw[hn]at hb
  have hb':=hb g rfl
  rw[hn]
  refine .sl _ cap o.k o.es (fun j=>xs.getD j undef) hob.flat (fun _=>⟨_,rfl,hb'⟩) (fun ad had j hj=>?_) (fun j e he=>?_) hnc hcm
  ·cases had
   have hx:xs[j]? =some (xs[j]'(by rw[hown.1];exact hj)):=List.getElem?_eq_getElem _
   rw[hcells j _ hx,List.getD_eq_getElem?_getD,hx];rfl
  ·obtain⟨x,hx,hr⟩:=hxs.own j e he
   have:xs.getD j undef=x:=by rw[List.getD_eq_getElem?_getD,hx];rfl
   rw[this]
   exact(hr.1.repZ (dP hz he)).mono (fun _ _=>rfl) hM
theorem fL{X:Ctx}{st:St}{a:Act}(h:RR X M loc st a w){M':Nat→Prop}(hM:∀b,M b→M' b){v:Value}{e:AV}(hv:Rep w M loc v e)(hok:(argA st.heap e).argOK=true)
  (how:∀id o,id∈e.ids→st.heap[id]? =some (.row o)→∀g,(loc id).ownBlock=some g→M' g):RepZ w M' v (argA st.heap e):=by
 cases e with
 |ow id=>
  simp only[argA]at hok⊢
  split at hok
  ·rename_i o ho
   cases hz:zoneEs o.es with
   |false=>rw[hz]at hok;simp[AV.argOK]at hok
   |true=>
    have hv':v=loc id:=hv
    subst hv'
    exact h.frozenRow ho hz hM (how id o (by simp[AV.ids]) ho)
  ·simp[AV.argOK]at hok
 |wn id k lo n=>
  simp only[argA]at hok⊢
  split at hok
  ·rename_i o ho
   split at hok
   ·rename_i hc
    obtain⟨rfl,hln,hz⟩:=hc
    rw[if_pos ⟨rfl,hln,hz⟩]
    have hf:=h.frozenRow ho hz hM (how id o (by simp[AV.ids]) ho)
    obtain⟨A,c,rfl,hnc,hcm,hA⟩:=hv
    have hlen:((o.es.drop lo).take n).length=n:=by simp;omega
    by_cases h0:n=0
    ·subst h0
     have:=RepZ.sl (w:=w) (M:=M') A c o.k [] (fun _=>undef) (by simp) (by simp) (by simp) (by simp) (by simp) hcm
     simpa using this
    ·obtain⟨g,m2,d,hn,rfl⟩:=hA.1 (by omega)
     obtain⟨A',cap,k',f,e1,hk,hA',hcc,hr,hcap,hmax⟩:=hf.sl_inv
     rw[hn]at e1
     simp only[Value.slice.injEq]at e1
     obtain⟨rfl,rfl,rfl⟩:=e1
     have hne:o.es≠[]:=by intro e;rw[e]at hln;simp at hln;omega
     have hkk:k'=o.k:=by
      obtain⟨e,he⟩:=List.exists_mem_of_ne_nil _ hne
      rw[←hk e he,(h.obj id o ho).flat e he]
     generalize hok:o.k=ko at*
     subst hkk
     obtain⟨ad,had,hMb⟩:=hA' hne
     cases had
     have:=RepZ.sl (w:=w) (M:=M') (some ⟨g,lo*k',none⟩) c k' ((o.es.drop lo).take n) (fun j=>f (lo*k'+j)) (fun e he=>hk e (List.mem_of_mem_drop (List.mem_of_mem_take he))) (fun _=>⟨_,rfl,hMb⟩)
      (fun ad had j hj=>by
       cases had
       have h1:(lo+n)*k'≤o.es.length*k':=Nat.mul_le_mul_right _ hln
       rw[hlen]at hj
       have:=hcc _ rfl (lo*k'+j) (by rw[Nat.add_mul]at h1;omega)
       rw[dJ,Nat.zero_add]at this
       rw[dJ];exact this)
      (fun j e he=>by
       have hd:=fM hk lo
       obtain⟨r,hr2⟩:=eQ (o.es.drop lo) n
       refine hr _ e ?_
       rw[←List.getElem?_drop,←hd,hr2]
       rw[List.getElem?_append_left (List.getElem?_eq_some_iff.1 he).1]
       exact he) (by rw[hlen];exact hnc) hcm
     rw[hlen]at this
     exact this
   ·simp[AV.argOK]at hok
  ·simp[AV.argOK]at hok
 |agg cs=>
  simp only[argA,AV.argOK]at hok⊢
  obtain⟨ca,rfl,hl,hc⟩:=hv.agg_inv
  refine .agg _ _ (by simpa using hl) fun j c e h1 h2=>?_
  rw[List.getElem?_map,Option.map_eq_some_iff]at h2
  obtain⟨d,hd,rfl⟩:=h2
  have hz:(argB st.heap d).zoneB=true:=by
   rw[List.all_eq_true]at hok
   exact hok _ (List.mem_map.2 ⟨d,List.mem_of_getElem? hd,rfl⟩)
  have hcd:=hc j c d h1 hd
  have hmem:∀id∈d.idB,id∈(AV.agg cs).ids:=fun id hid=>by
   simp only[AV.ids,List.mem_flatMap];exact⟨d,List.mem_of_getElem? hd,hid⟩
  cases d with
  |ow id=>
   simp only[argB]at hz⊢
   split at hz
   ·rename_i o ho
    cases hzz:zoneEs o.es with
    |true=>
     have hv':c=loc id:=by rcases hcd with h3|h3;exact h3.no_ow.elim;exact h3
     subst hv'
     exact h.frozenRow ho hzz hM (how id o (hmem id (by simp[AV.idB])) ho)
    |false=>exact .bad _
   ·exact .bad _
  |nil=>
   have:=hcd.rep.nil_inv
   subst this
   exact .sl none 0 0 [] (fun _=>undef) (by simp) (by simp) (by simp) (by simp) (by simp) (by simp)
  |el a b c d=>simp[argB,AV.zoneB]at hz
  |wn a b c d=>simp[argB,AV.zoneB]at hz
  |_=>exact(hcd.repZ' rfl).mono (fun _ _=>rfl) hM
 |nil=>
  have:=hv.nil_inv
  subst this
  exact .sl none 0 0 [] (fun _=>undef) (by simp) (by simp) (by simp) (by simp) (by simp) (by simp)
 |bad=>simp[argA,AV.argOK]at hok
 |el a b c d=>simp[argA,AV.argOK]at hok
 |mb g y=>simp[argA,AV.argOK]at hok
 |fn a b c=>simp[argA,AV.argOK]at hok
 |tup a=>simp[argA,AV.argOK]at hok
 |_=>exact RepZ.mono (fun _ _=>rfl) hM hv
theorem RR.world{X:Ctx}{st:St}{a:Act}(h:RR X M loc st a w){w':World}(hb:Below w.heap.size w w'){M':Nat→Prop}(hM:∀b,M b→M' b)
  (hM':∀b,M' b→M b∨(w.heap.size≤b∧b<w'.heap.size)):RR X M' loc st a w':=by
 have hg:w.grownBy w' none:=⟨hb.os,hb.tape,hb.output,hb.size,fun k hk _=>hb.block k hk⟩
 have hbk:∀b,M b→w'.heap[b]? =w.heap[b]? :=fun b hb'=>hb.block b (h.zone b hb').1
 refine⟨fun s=>Rep.mono (n:=st.heap.length) hbk hM (fun _ _=>rfl) (h.env s) (h.ids s),h.nle,h.size,h.defers,fun id o ho=>?_,h.sep,fun id m hm=>?_,h.msep,⟨hb.os.trans h.below.os,hb.tape.trans h.below.tape,hb.output.trans h.below.output,Nat.le_trans h.below.size hb.size,fun k hk hT=>by
  rw[hb.block k (Nat.lt_of_lt_of_le hk h.below.size)];exact h.below.block k hk hT⟩,fun b hb'=>?_,fun b hb'=>hM b (h.zin b hb'),h.zlt,h.one,h.ids⟩
 ·have hk:=(h.obj id o ho).kept hg (by cases(loc id).ownBlock<;>simp) (fun g e=>by cases e) (fun b hb=>(h.zone b hb).1) (fun _ _=>rfl) (Nat.le_refl _)
  obtain⟨xs,h1,h2⟩:=hk.own
  refine⟨⟨xs,h1,fun j e he=>?_⟩,hk.flat,fun g hg' hm=>?_,hk.mine⟩
  ·obtain⟨x,hx,hr⟩:=h2 j e he
   exact⟨x,hx,hr.mono (fun _ _=>rfl) hM (fun _ _=>rfl) (Nat.le_refl _)⟩
  ·rcases hM' g hm with hm|hm
   ·exact hk.away g hg' hm
   ·obtain⟨xs0,hown0,_⟩:=(h.obj id o ho).own
    have:=(hown0.lt g hg').2
    omega
 ·obtain⟨g,es,clock,h1,h2,h3,h4,h5⟩:=(h.mobj id m hm).own
  have hgl:g<w.heap.size:=(Array.getElem?_eq_some_iff.1 h4).1
  refine⟨g,es,clock,h1,h2,fun hg'=>?_,by rw[hb.block g hgl];exact h4,h5.mono hbk hM⟩
  rcases hM' g hg' with hm|hm
  ·exact h3 hm
  ·omega
 ·rcases hM' b hb' with hm|hm
  ·exact⟨Nat.lt_of_lt_of_le (h.zone b hm).1 hb.size,(h.zone b hm).2⟩
  ·exact⟨hm.2,.inr (.inl (Nat.le_trans h.below.size hm.1))⟩
theorem BK{X:Ctx}{st:St}{o:Oper}{a:Act}{ρ:Operand→AV}(h:RR X M loc st a w){c:Call}(ho:o.op=.call c)(hρ:∀x∈o.op.operands,Rep w M loc (a.eval x) (ρ x)){r:AV}(hc:CallA P st.heap ρ c r):
  ∃f vs,(execOp a.eval o).run P w=.ok (.enter f vs) w∧Calls P f vs w fun e w'=>∃x M',e=.returned x∧RR X M' loc st a w'∧Rep w' M' loc x r:=by
 obtain⟨f,first,cap,ht,hcall,hcl,hargs,hz,fr,hm,hown⟩:=hc
 obtain⟨dst,op,ty,pos,after,guard⟩:=o
 simp only[]at ho hρ
 subst ho
 obtain⟨callee,args,ats⟩:=c
 simp only[]at ht hargs hm hown
 cases callee with
 |invoke x m=>simp[tgt]at ht
 |builtin b=>simp[tgt]at ht
 |value x=>
  have hx:=hρ x (by simp[Op.operands,Call.operands])
  have hclo:∃fi ca,a.eval x=.func (.func f) fi ca∧fi.size=first.length∧ca.size=cap.length∧
    (∀(j:Nat) (c:Value) (e:AV),fi[j]? =some c→first[j]? =some e→RepZ w M c e)∧(∀(j:Nat) (c:Value) (e:AV),ca[j]? =some c→cap[j]? =some e→RepZ w M c e):=by
   simp only[tgt]at ht
   split at ht
   ·rename_i f' fi ca e1
    rw[e1]at hx
    simp only[Option.some.injEq,Prod.mk.injEq]at ht
    obtain⟨rfl,rfl,rfl⟩:=ht
    have hv:∀(l:Array Value) (j:Nat) (c:Value) (e:AV),l[j]? =some c→(l.toList.map AV.v)[j]? =some e→RepZ w M c e:=by
     intro l j c e h1 h2
     rw[List.getElem?_map,Array.getElem?_toList,h1]at h2
     cases h2
     exact .v c
    exact⟨fi,ca,hx.v_inv,by simp,by simp,hv fi,hv ca⟩
   ·rename_i f' fi ca e1
    rw[e1]at hx
    simp only[Option.some.injEq,Prod.mk.injEq]at ht
    obtain⟨rfl,rfl,rfl⟩:=ht
    obtain⟨fs,cs,h1,h2,h3,h4,h5⟩:=hx
    have hz:∀e:AV,e.argOK=true→e.zone=true:=fun e he=>by cases e<;>first|rfl|exact he|cases he
    exact⟨fs,cs,h1,h2,h3,fun j c e hc he=>(h4 j c e hc he).repZ (hz e (hcl e (List.mem_append_left _ (List.mem_of_getElem? he)))),fun j c e hc he=>(h5 j c e hc he).repZ (hz e (hcl e (List.mem_append_right _ (List.mem_of_getElem? he))))⟩
   ·cases ht
  obtain⟨fi,ca,hfx,hl1,hl2,hr1,hr2⟩:=hclo
  refine⟨f,fi++args.map a.eval++ca,?_,?_⟩
  ·unfold callable at hcall
   split at hcall
   ·rename_i fn hfn
    simp only[Bool.and_eq_true,bne_iff_ne,ne_eq]at hcall
    have h1:¬(fn.name== "runtime.NumGoroutine")=true:=by simpa using hcall.1
    have h2:fn.body.isNone=false:=by have:=hcall.2;cases hb:fn.body<;>simp[hb]at this⊢
    simp only[execOp,resolve,hfx,Deferred.ofValue,Sem.run_bind,Sem.run_pure,Result.andThen_ok,invoke,callFunc,run_program,hfn,if_neg h1,h2,Bool.false_eq_true,if_false]
   ·cases hcall
  ·have:True:=trivial
   let M1:Nat→Prop:=fun b=>M b∨∃x∈args.toList,∃id o,id∈(ρ x).ids∧(ρ x).isOw=true∧st.heap[id]? =some (.row o)∧(loc id).ownBlock=some b
   have hM1:∀b,M1 b→b<w.heap.size:=by
    rintro b (hb|⟨x,_,id,o,_,_,ho,hb⟩)
    ·exact(h.zone b hb).1
    ·obtain⟨xs,hown,_⟩:=(h.obj id o ho).own
     exact(hown.lt b hb).2
   have hrep:∀(j:Nat) (x:Value) (e:AV),(fi++args.map a.eval++ca)[j]? =some x→(first++args.toList.map (fun x=>argA st.heap (ρ x))++cap)[j]? =some e→RepZ w M1 x e:=by
    intro j x e h1 h2
    rw[←Array.getElem?_toList]at h1
    simp only[Array.toList_append,Array.toList_map]at h1
    have key:∀(as:List Value) (es:List AV) (bs:List Value) (fs:List AV),as.length=es.length→(∀(j:Nat) (x:Value) (e:AV),as[j]? =some x→es[j]? =some e→RepZ w M1 x e)→(∀(j:Nat) (x:Value) (e:AV),bs[j]? =some x→fs[j]? =some e→RepZ w M1 x e)→
      ∀(j:Nat) (x:Value) (e:AV),(as++bs)[j]? =some x→(es++fs)[j]? =some e→RepZ w M1 x e:=by
     intro as es bs fs hl p q j x e h1 h2
     by_cases hj:j<as.length
     ·rw[List.getElem?_append_left hj]at h1
      rw[List.getElem?_append_left (by rw[←hl];exact hj)]at h2
      exact p j x e h1 h2
     ·rw[List.getElem?_append_right (by omega)]at h1
      rw[List.getElem?_append_right (by rw[←hl];omega),←hl]at h2
      exact q _ x e h1 h2
    refine key _ _ _ _ (by simp[hl1]) (key _ _ _ _ (by simpa using hl1) (fun j c e hc he=>(hr1 j c e (by simpa using hc) he).mono (fun _ _=>rfl) (fun b hb=>.inl hb)) ?_) (fun j c e hc he=>(hr2 j c e (by simpa using hc) he).mono (fun _ _=>rfl) (fun b hb=>.inl hb)) j x e h1 h2
    intro j x e h1 h2
    rw[List.getElem?_map]at h1 h2
    cases hy:args.toList[j]? with
    |none=>rw[hy]at h1;cases h1
    |some y=>
     rw[hy]at h1 h2
     cases h1;cases h2
     have hmem:=List.mem_of_getElem? hy
     refine fL h (fun b hb=>.inl hb) (hρ y ?_) (hargs y hmem) (fun id o e1 e2 g hg=>.inr ⟨y,hmem,id,o,e1,?_,e2,hg⟩)
     ·simp only[Op.operands,Call.operands,Array.mem_append]
      right;simpa using hmem
     ·have hok:=hargs y hmem
      cases hyy:ρ y with
      |agg cs=>
       rw[hyy]at e1
       simp only[AV.ids,List.mem_flatMap]at e1
       obtain⟨d,hd,hi⟩:=e1
       simp only[AV.isOw,List.any_eq_true]
       exact⟨d,hd,by cases d<;>simp[AV.idB]at hi<;>rfl⟩
      |_=>rw[hyy]at e1 hok;simp[AV.ids,AV.isOw,argA,AV.argOK]at*
   refine(hm M1 w _ hM1 (h.globW fun b hb=>.inl hb) (by simp[Nat.add_assoc,hl1,hl2]) hrep).mono fun e w' hh=>?_
   obtain⟨y,rfl,hbel,hy⟩:=hh
   by_cases hsc:r.scal=true
   ·exact⟨y,M,rfl,h.world hbel (fun _ hb=>hb) (fun b hb=>.inl hb),(hy.of_scal hsc).rep⟩
   ·refine⟨y,fun b=>M b∨(w.heap.size≤b∧b<w'.heap.size),rfl,h.world hbel (fun b hb=>.inl hb) (fun b hb=>hb),(hy.mono (fun _ _=>rfl) ?_).rep⟩
    rintro b ⟨hb1,hb2|⟨hfr,hb2⟩⟩
    ·exact .inr ⟨hb2,hb1⟩
    ·rcases hown with hfr'|hsc'|hno
     ·rw[hfr]at hfr';cases hfr'
     ·exact absurd hsc' hsc
     ·rcases hb2 with hb2|⟨x,hx,id,o,e1,e2,_⟩
      ·exact .inl hb2
      ·have:=hno x hx
       rw[e2]at this
       cases this
def killH(H:List Cell):List Nat→List Cell
 | []=>H
 |i::l=>killH (H.set i .dead) l
theorem dK:∀(l:List Nat) (H:List Cell),(killH H l).length=H.length
 | [],_=>rfl
 |i::l,H=>by rw[killH,dK l];simp
theorem cO:∀(l:List Nat) (H:List Cell) (id:Nat) (c:Cell),(killH H l)[id]? =some c→c≠.dead→H[id]? =some c∧id∉l
 | [],_,_,_,h,_=>⟨h,by simp⟩
 |i::l,H,id,c,h,hc=>by
  obtain⟨h1,h2⟩:=cO l _ id c h hc
  rw[List.getElem?_set]at h1
  split at h1
  ·split at h1
   ·cases h1;exact absurd rfl hc
   ·cases h1
  ·rename_i hne
   exact⟨h1,by simp only[List.mem_cons,not_or];exact⟨fun e=>hne e.symm,h2⟩⟩
theorem RR.kill{X:Ctx}{st:St}{a:Act}(h:RR X M loc st a w)(l:List Nat):RR X (fun b=>M b∨∃id∈l,∃o,st.heap[id]? =some (.row o)∧(loc id).ownBlock=some b) loc ⟨st.env,killH st.heap l⟩ a w:=by
 have hrow:∀id o,st.heap[id]? =some (.row o)→∀b,(loc id).ownBlock=some b→b<w.heap.size∧X.own b∧∃cs t fr,w.heap[b]? =some (.cells cs t fr):=fun id o ho b hb=>by
  have hob:=h.obj id o ho
  obtain⟨xs,hown,_⟩:=hob.own
  exact⟨(hown.lt b hb).2,hob.mine b hb,bG hown b hb⟩
 refine⟨fun s=>Rep.mono (n:=st.heap.length) (fun _ _=>rfl) (fun b hb=>.inl hb) (fun _ _=>rfl) (h.env s) (h.ids s),h.nle,h.size,h.defers,fun id o ho=>?_,fun i j oi oj hij hi hj=>?_,fun id m hm=>?_,fun i j mi mj hij hi hj=>?_,h.below,fun b hb=>?_,fun b hb=>.inl (h.zin b hb),h.zlt,fun id hid=>?_,fun s=>?_⟩
 ·obtain⟨h1,h2⟩:=cO l _ id _ ho (by intro e;cases e)
  have hob:=h.obj id o h1
  obtain⟨xs,g1,g2⟩:=hob.own
  refine⟨⟨xs,g1,fun j e he=>?_⟩,hob.flat,fun g hg hm=>?_,hob.mine⟩
  ·obtain⟨x,hx,hr⟩:=g2 j e he
   exact⟨x,hx,hr.mono (fun _ _=>rfl) (fun b hb=>.inl hb) (fun _ _=>rfl) (by simp only[dK];exact Nat.le_refl _)⟩
  ·rcases hm with hm|⟨i,hi,o2,ho2,hb⟩
   ·exact hob.away g hg hm
   ·have hne:id≠i:=fun e=>h2 (e▸hi)
    rcases h.sep id i o o2 hne h1 ho2 with hs|hs
    ·rw[hs]at hg;cases hg
    ·exact hs (by rw[hg,hb])
 ·exact h.sep i j oi oj hij (cO l _ i _ hi (by intro e;cases e)).1 (cO l _ j _ hj (by intro e;cases e)).1
 ·obtain⟨h1,h2⟩:=cO l _ id _ hm (by intro e;cases e)
  obtain⟨g,es,clock,e1,e2,e3,e4,e5⟩:=(h.mobj id m h1).own
  refine⟨g,es,clock,e1,e2,fun hm=>?_,e4,e5.mono (fun _ _=>rfl) (fun b hb=>.inl hb)⟩
  rcases hm with hm|⟨i,hi,o2,ho2,hb⟩
  ·exact e3 hm
  ·obtain⟨cs,t,fr,hc⟩:=(hrow i o2 ho2 g hb).2.2
   rw[e4]at hc;cases hc
 ·exact h.msep i j mi mj hij (cO l _ i _ hi (by intro e;cases e)).1 (cO l _ j _ hj (by intro e;cases e)).1
 ·rcases hb with hb|⟨i,hi,o2,ho2,hb⟩
  ·exact h.zone b hb
  ·obtain⟨g1,g2,_⟩:=hrow i o2 ho2 b hb
   exact⟨g1,.inr g2⟩
 ·exact h.one id (by simpa only[dK]using hid)
 ·show(st.env s).idLt (killH st.heap l).length
  rw[dK];exact h.ids s
def CallAk(P:Program)(H:List Cell)(ρ:Operand→AV)(c:Call)(r:AV):Prop:=
 ∃f first cap,tgt ρ c.callee=some (f,first,cap)∧callable P f=true∧(∀e∈first++cap,e.argOK=true)∧(∀x∈c.args.toList,(argA H (ρ x)).argOK=true)∧r.zone=true∧
  Means false P f (first++c.args.toList.map (fun x=>argA H (ρ x))++cap) r
theorem oK{X:Ctx}{st:St}{o:Oper}{a:Act}{ρ:Operand→AV}(h:RR X M loc st a w){c:Call}(ho:o.op=.call c)(hρ:∀x∈o.op.operands,Rep w M loc (a.eval x) (ρ x)){r:AV}(hc:CallAk P st.heap ρ c r):
  ∃f vs,(execOp a.eval o).run P w=.ok (.enter f vs) w∧Calls P f vs w fun e w'=>∃x M',e=.returned x∧RR X M' loc ⟨st.env,killH st.heap ((c.args.toList.map ρ).flatMap AV.ids)⟩ a w'∧Rep w' M' loc x r:=by
 obtain⟨f,first,cap,ht,hcall,hcl,hargs,hz,hm⟩:=hc
 obtain⟨dst,op,ty,pos,after,guard⟩:=o
 simp only[]at ho hρ
 subst ho
 obtain⟨callee,args,ats⟩:=c
 simp only[]at ht hargs hm
 cases callee with
 |invoke x m=>simp[tgt]at ht
 |builtin b=>simp[tgt]at ht
 |value x=>
  have hx:=hρ x (by simp[Op.operands,Call.operands])
  have hclo:∃fi ca,a.eval x=.func (.func f) fi ca∧fi.size=first.length∧ca.size=cap.length∧
    (∀(j:Nat) (c:Value) (e:AV),fi[j]? =some c→first[j]? =some e→RepZ w M c e)∧(∀(j:Nat) (c:Value) (e:AV),ca[j]? =some c→cap[j]? =some e→RepZ w M c e):=by
   simp only[tgt]at ht
   split at ht
   ·rename_i f' fi ca e1
    rw[e1]at hx
    simp only[Option.some.injEq,Prod.mk.injEq]at ht
    obtain⟨rfl,rfl,rfl⟩:=ht
    have hv:∀(l:Array Value) (j:Nat) (c:Value) (e:AV),l[j]? =some c→(l.toList.map AV.v)[j]? =some e→RepZ w M c e:=by
     intro l j c e h1 h2
     rw[List.getElem?_map,Array.getElem?_toList,h1]at h2
     cases h2
     exact .v c
    exact⟨fi,ca,hx.v_inv,by simp,by simp,hv fi,hv ca⟩
   ·rename_i f' fi ca e1
    rw[e1]at hx
    simp only[Option.some.injEq,Prod.mk.injEq]at ht
    obtain⟨rfl,rfl,rfl⟩:=ht
    obtain⟨fs,cs,h1,h2,h3,h4,h5⟩:=hx
    have hz:∀e:AV,e.argOK=true→e.zone=true:=fun e he=>by cases e<;>first|rfl|exact he|cases he
    exact⟨fs,cs,h1,h2,h3,fun j c e hc he=>(h4 j c e hc he).repZ (hz e (hcl e (List.mem_append_left _ (List.mem_of_getElem? he)))),fun j c e hc he=>(h5 j c e hc he).repZ (hz e (hcl e (List.mem_append_right _ (List.mem_of_getElem? he))))⟩
   ·cases ht
  obtain⟨fi,ca,hfx,hl1,hl2,hr1,hr2⟩:=hclo
  refine⟨f,fi++args.map a.eval++ca,?_,?_⟩
  ·unfold callable at hcall
   split at hcall
   ·rename_i fn hfn
    simp only[Bool.and_eq_true,bne_iff_ne,ne_eq]at hcall
    have h1:¬(fn.name== "runtime.NumGoroutine")=true:=by simpa using hcall.1
    have h2:fn.body.isNone=false:=by have:=hcall.2;cases hb:fn.body<;>simp[hb]at this⊢
    simp only[execOp,resolve,hfx,Deferred.ofValue,Sem.run_bind,Sem.run_pure,Result.andThen_ok,invoke,callFunc,run_program,hfn,if_neg h1,h2,Bool.false_eq_true,if_false]
   ·cases hcall
  ·have:True:=trivial
   let M1:Nat→Prop:=fun b=>M b∨∃x∈args.toList,∃id o,id∈(ρ x).ids∧(ρ x).isOw=true∧st.heap[id]? =some (.row o)∧(loc id).ownBlock=some b
   have hM1:∀b,M1 b→b<w.heap.size:=by
    rintro b (hb|⟨x,_,id,o,_,_,ho,hb⟩)
    ·exact(h.zone b hb).1
    ·obtain⟨xs,hown,_⟩:=(h.obj id o ho).own
     exact(hown.lt b hb).2
   have hrep:∀(j:Nat) (x:Value) (e:AV),(fi++args.map a.eval++ca)[j]? =some x→(first++args.toList.map (fun x=>argA st.heap (ρ x))++cap)[j]? =some e→RepZ w M1 x e:=by
    intro j x e h1 h2
    rw[←Array.getElem?_toList]at h1
    simp only[Array.toList_append,Array.toList_map]at h1
    have key:∀(as:List Value) (es:List AV) (bs:List Value) (fs:List AV),as.length=es.length→(∀(j:Nat) (x:Value) (e:AV),as[j]? =some x→es[j]? =some e→RepZ w M1 x e)→(∀(j:Nat) (x:Value) (e:AV),bs[j]? =some x→fs[j]? =some e→RepZ w M1 x e)→
      ∀(j:Nat) (x:Value) (e:AV),(as++bs)[j]? =some x→(es++fs)[j]? =some e→RepZ w M1 x e:=by
     intro as es bs fs hl p q j x e h1 h2
     by_cases hj:j<as.length
     ·rw[List.getElem?_append_left hj]at h1
      rw[List.getElem?_append_left (by rw[←hl];exact hj)]at h2
      exact p j x e h1 h2
     ·rw[List.getElem?_append_right (by omega)]at h1
      rw[List.getElem?_append_right (by rw[←hl];omega),←hl]at h2
      exact q _ x e h1 h2
    refine key _ _ _ _ (by simp[hl1]) (key _ _ _ _ (by simpa using hl1) (fun j c e hc he=>(hr1 j c e (by simpa using hc) he).mono (fun _ _=>rfl) (fun b hb=>.inl hb)) ?_) (fun j c e hc he=>(hr2 j c e (by simpa using hc) he).mono (fun _ _=>rfl) (fun b hb=>.inl hb)) j x e h1 h2
    intro j x e h1 h2
    rw[List.getElem?_map]at h1 h2
    cases hy:args.toList[j]? with
    |none=>rw[hy]at h1;cases h1
    |some y=>
     rw[hy]at h1 h2
     cases h1;cases h2
     have hmem:=List.mem_of_getElem? hy
     refine fL h (fun b hb=>.inl hb) (hρ y ?_) (hargs y hmem) (fun id o e1 e2 g hg=>.inr ⟨y,hmem,id,o,e1,?_,e2,hg⟩)
     ·simp only[Op.operands,Call.operands,Array.mem_append]
      right;simpa using hmem
     ·have hok:=hargs y hmem
      cases hyy:ρ y with
      |agg cs=>
       rw[hyy]at e1
       simp only[AV.ids,List.mem_flatMap]at e1
       obtain⟨d,hd,hi⟩:=e1
       simp only[AV.isOw,List.any_eq_true]
       exact⟨d,hd,by cases d<;>simp[AV.idB]at hi<;>rfl⟩
      |_=>rw[hyy]at e1 hok;simp[AV.ids,AV.isOw,argA,AV.argOK]at*
   refine(hm M1 w _ hM1 (h.globW fun b hb=>.inl hb) (by simp[Nat.add_assoc,hl1,hl2]) hrep).mono fun e w' hh=>?_
   obtain⟨y,rfl,hbel,hy⟩:=hh
   have hk:=h.kill (((args.toList.map ρ).flatMap AV.ids))
   let M2:Nat→Prop:=fun b=>M b∨∃id∈((args.toList.map ρ).flatMap AV.ids),∃o,st.heap[id]? =some (.row o)∧(loc id).ownBlock=some b
   have h12:∀b,M1 b→M2 b:=by
    rintro b (hb|⟨x,hx,id,o,e1,_,ho,hb⟩)
    ·exact .inl hb
    ·exact .inr ⟨id,List.mem_flatMap.2 ⟨ρ x,List.mem_map.2 ⟨x,hx,rfl⟩,e1⟩,o,ho,hb⟩
   refine⟨y,fun b=>M2 b∨(w.heap.size≤b∧b<w'.heap.size),rfl,hk.world hbel (fun b hb=>.inl hb) (fun b hb=>hb),(hy.mono (fun _ _=>rfl) ?_).rep⟩
   rintro b ⟨hb1,hb2|⟨_,hb2⟩⟩
   ·exact .inr ⟨hb2,hb1⟩
   ·exact .inl (h12 b hb2)
theorem RR.putO{X:Ctx}{st:St}{a:Act}(h:RR X M loc st a w){d:Option Nat}(hd:∀k,d=some k→k<X.n){x:Value}{e:AV}
  (hr:Rep w M loc x e) (hi:e.idLt st.heap.length):RR X M loc ⟨putE st.env d e,st.heap⟩ (a.put d x) w:=by
 cases d with
 |none=>exact h
 |some k=>exact h.put (hd k rfl) hr hi
theorem BL{X:Ctx}{st:St}{o:Oper}{a:Act}{ρ:Operand→AV}(h:RR X M loc st a w)(hρ:∀x∈o.op.operands,Rep w M loc (a.eval x) (ρ x)){p:Prop}{r:AV}(he:convB P ρ o.op=some (p,r))(hp:p):
  ∃v w' M',(execOp a.eval o).run P w=.ok (.value v) w'∧RR X M' loc st a w'∧Rep w' M' loc v r:=by
 obtain⟨dst,op,ty,pos,after,guard⟩:=o
 cases op<;>simp only[convB,reduceCtorEq]at he
 case convert src d x=>
  have hx:Rep w M loc (a.eval x) (ρ x):=hρ x (by simp[Op.operands])
  split at he
  ·rename_i s e c1 b1 z1 T2 e1 hT1 hT2
   rw[e1]at hx
   split at he
   ·rename_i c3 b3 z3 hT3
    simp only[Option.some.injEq,Prod.mk.injEq]at he
    obtain⟨rfl,rfl⟩:=he
    obtain⟨i1,d1,y1,f1,f2,f3,f4⟩:=aH hT1
    obtain⟨i2,d2,y2,g1,g2,g3,g4⟩:=aH hT2
    obtain⟨i3,d3,y3,k1,k2,k3,k4⟩:=aH hT3
    have:=bY (d:=d1) (e:=e) (by have:=congrArg TK.k f4;exact this.symm)
    subst this
    have:=jB (d:=d3) (k:=.u8) (by have:=congrArg TK.k k4;exact this.symm)
    subst this
    have hrun:=Lib.run_convert_string_bytes (P:=P) w src d e s g2 f2 k2
    have hbel:Below w.heap.size w (Lib.bytesWorld w e s):=⟨rfl,rfl,rfl,by rw[Lib.bytesWorld_size];omega,fun k hk=>Lib.bytesWorld_at_old w e s k hk⟩
    refine⟨.slice (some ⟨w.heap.size,0,none⟩) s.size (grownCap w s.size 0 e),Lib.bytesWorld w e s,fun b=>M b∨(w.heap.size≤b∧b<(Lib.bytesWorld w e s).heap.size),?_,h.world hbel (fun b hb=>.inl hb) (fun b hb=>hb),?_⟩
    ·simp only[execOp,Sem.run_bind]
     rw[hx.v_inv,hrun]
     rfl
    ·have hlen:(s.data.toList.map fun b=>AV.v (.int .u8 b.toNat)).length=s.size:=by rw[List.length_map,Array.length_toList];rfl
     have hflat:(s.data.toList.map fun b=>AV.v (.int .u8 b.toNat)).flatMap AV.flat=s.data.toList.map fun b=>AV.v (.int .u8 b.toNat):=by
      have:∀l:List UInt8,(l.map fun b=>AV.v (.int .u8 b.toNat)).flatMap AV.flat=l.map fun b=>AV.v (.int .u8 b.toNat):=by
       intro l
       induction l with
       |nil=>rfl
       |cons b l ih=>simp only[List.map_cons,List.flatMap_cons,AV.flat_v,ih];rfl
      exact this _
     have:=RepZ.sl (w:=Lib.bytesWorld w e s) (M:=fun b=>M b∨(w.heap.size≤b∧b<(Lib.bytesWorld w e s).heap.size)) (some ⟨w.heap.size,0,none⟩) (grownCap w s.size 0 e) 1 (s.data.toList.map fun b=>AV.v (.int .u8 b.toNat))
      (fun j=>.int .u8 (s.data.toList.getD j 0).toNat) (fun x hx=>by obtain⟨b,_,rfl⟩:=List.mem_map.1 hx;rfl) (fun _=>⟨_,rfl,.inr ⟨Nat.le_refl _,by rw[Lib.bytesWorld_size];exact Nat.lt_succ_self _⟩⟩)
      (fun ad had j hj=>by
       cases had
       rw[hlen,Nat.mul_one]at hj
       rw[dJ,Nat.zero_add]
       exact Lib.bytesWorld_cell w e s j hj)
      (fun j x hj=>by
       rw[hflat,List.getElem?_map,Option.map_eq_some_iff]at hj
       obtain⟨b,hb,rfl⟩:=hj
       rw[List.getD_eq_getElem?_getD,hb]
       exact .v _) (by rw[hlen];exact grownCap_ge w s.size 0 e) (grownCap_le_maxLen w s.size 0 e hp)
     rw[hlen]at this
     exact this.rep
   ·cases he
  ·cases he
theorem jD{X:Ctx}{st:St}{o:Oper}{a:Act}{ρ:Operand→AV}{K:Act→World→Prop}{Q:Exit→Act→World→Prop}(h:RR X M loc st a w)(hρ:∀x∈o.op.operands,Rep w M loc (a.eval x) (ρ x))(hlt:∀x∈o.op.operands,(ρ x).idLt st.heap.length){r:AV}
  (hd:DoesP P st.heap ρ o.op r) (hk:∀v w' M',RR X M' loc st a w'→Rep w' M' loc v r→K (a.put o.dst v) w'):o.wp P a w K Q:=by
 rcases hd with⟨p,he,hp⟩|⟨t,parts,p,ho,he,hp⟩|⟨c,ho,hc⟩|⟨p,he,hp⟩
 ·obtain⟨v,h1,h2⟩:=ES h hρ he hp
  unfold Oper.wp
  rw[h1]
  exact hk v w M h h2
 ·have hρ':∀x∈parts.toList,Rep w M loc (a.eval x.2) (ρ x.2)∧(ρ x.2).idLt st.heap.length:=by
   intro x hx
   suffices hm:x.2∈o.op.operands from⟨hρ _ hm,hlt _ hm⟩
   rw[ho]
   simp only[Op.operands]
   simpa using⟨x.1,by simpa using hx⟩
  obtain⟨v,h1,h2⟩:=yR h hρ' he hp
  unfold Oper.wp
  have:(execOp a.eval o).run P w=.ok (.value v) w:=by
   obtain⟨dst,op,ty,pos,after,guard⟩:=o
   simp only[]at ho
   subst ho
   simp only[execOp,Sem.run_bind,h1,Result.andThen_ok,Sem.run_pure]
  rw[this]
  exact hk v w M h h2
 ·obtain⟨f,vs,h1,h2⟩:=BK h ho hρ hc
  unfold Oper.wp
  rw[h1]
  refine h2.mono fun e w' hh=>?_
  obtain⟨x,M',rfl,h3,h4⟩:=hh
  exact hk x w' M' h3 h4
 ·obtain⟨v,w',M',h1,h2,h3⟩:=BL h hρ he hp
  unfold Oper.wp
  rw[h1]
  exact hk v w' M' h2 h3
theorem jE{X:Ctx}{st:St}{a:Act}(h:RR X M loc st a w){ops:Array Oper}{o:Oper}{j:Nat}{b gb:Bool}(hg:o.guard=some (j,b))(hv:gvOf ops st.env j b=some gb):
  Region.wanted o (yielded ops a.tmps)=gb:=by
 unfold Region.wanted yielded
 unfold gvOf at hv
 rw[hg]
 simp only[]
 cases hd:(ops[j]?).bind (fun o=>o.dst)with
 |none=>simp[hd]at hv
 |some d=>
  simp only[hd]at hv
  have hr:Rep w M loc (a.tmps.getD d undef) (if d<G0 then st.env d else .bad):=h.ev (.tmp d)
  have hget:∀g,a.tmps.getD d undef=.bool g→a.tmps[d]? =some (.bool g):=by
   intro g hg
   rw[Array.getD_eq_getD_getElem?]at hg
   cases ht:a.tmps[d]? with
   |none=>rw[ht]at hg;cases hg
   |some v=>rw[ht]at hg;simp at hg;rw[hg]
  split at hv
  ·rename_i g he
   rw[he]at hr
   obtain rfl:=Option.some.inj hv
   have:=hget g hr.v_inv
   simp only[Option.bind_some,this]
   cases g<;>cases b<;>rfl
  ·rename_i g0 g he
   rw[he]at hr
   obtain rfl:=Option.some.inj hv
   cases g0
   ·have h0:=hr.1 rfl
    simp only[Option.bind_some]
    cases ht:a.tmps[d]? with
    |none=>simp
    |some v=>
     rw[Array.getD_eq_getD_getElem?,ht]at h0
     simp at h0
     rw[h0]
     simp[undef]
   ·have:=hget g (hr.2 rfl).v_inv
    simp only[Option.bind_some,this]
    cases g<;>cases b<;>rfl
  ·cases hv
theorem HP{x:Value}{e:AV}{gb:Bool}(h:Rep w M loc x e)(hg:gb=true)(hok:e.okU gb):Rep w M loc x e.un:=by
 cases e with
 |mb g y=>exact h.2 (hok hg)
 |_=>exact h
theorem qD{x:Value}{env:Nat→AV}{sel:Operand→Bool}{y:Operand}{gb:Bool}(h:Rep w M loc x (ev env y))(hg:gb=true)(hok:sel y=true→(ev env y).okU gb):Rep w M loc x (evS env sel y):=by
 unfold evS
 cases hs:sel y with
 |true=>exact HP h hg (hok hs)
 |false=>exact h
theorem BM{env:Nat→AV}{sel:Operand→Bool}{y:Operand}{n:Nat}(h:(ev env y).idLt n):(evS env sel y).idLt n:=by
 unfold evS
 cases sel y with
 |true=>show((ev env y).un).idLt n;revert h;cases ev env y<;>exact id
 |false=>exact h
theorem wB{X:Ctx}{st st':St}{ops:Array Oper}{o:Oper}{a:Act}{K:Act→World→Prop}{Q:Exit→Act→World→Prop}(hs:StepR P ops X.n o st st')(hr:R X st a w)(hk:∀a' w',R X st' a' w'→K a' w'):
  if Region.wanted o (yielded ops a.tmps)=true then o.wp P a w K Q else K (a.put o.dst undef) w:=by
 obtain⟨M,loc,h⟩:=hr
 obtain⟨hd,hs⟩:=hs
 split at hs
 ·rename_i hg
  have hw:Region.wanted o (yielded ops a.tmps)=true:=by simp[Region.wanted,hg]
  rw[if_pos hw]
  rcases hs with⟨r,hdo,hi,rfl⟩|⟨r,H',p,he,hp,hi,rfl⟩
  ·exact jD h (fun x _=>h.ev x) (fun x _=>h.evLt x) hdo fun v w' M' h1 h2=>hk _ _ ⟨M',loc,h1.putO hd h2 (eE hi fun x _=>h.evLt x)⟩
  ·obtain⟨nx,w',loc',v,h1,h2,h3,h4,h5⟩:=pT h he hp
   unfold Oper.wp
   rw[h1]
   have hfin:K (a.put o.dst v) w':=hk _ _ ⟨M,loc',h3.putO hd h4 h5⟩
   rcases h2 with rfl|⟨rfl,rfl⟩
   ·exact hfin
   ·exact hfin
 ·rename_i j b hg
  obtain⟨gb,r,sel,hv,hok,hdo,hi,rfl⟩:=hs
  have hw:=jE h hg hv
  rw[hw]
  cases gb with
  |true=>
   rw[if_pos rfl]
   exact jD h (fun x hx=>qD (h.ev x) rfl (hok x hx)) (fun x _=>BM (h.evLt x)) (hdo rfl) fun v w' M' h1 h2=>hk _ _ ⟨M',loc,h1.putO hd ⟨(fun e=>by cases e),fun _=>h2⟩ (eE (r:=r) hi fun x _=>h.evLt x)⟩
  |false=>
   rw[if_neg (by simp)]
   exact hk _ _ ⟨M,loc,h.putO hd ⟨fun _=>rfl,fun e=>by cases e⟩ (eE (r:=r) hi fun x _=>h.evLt x)⟩
def RunR(P:Program)(ops:Array Oper)(n:Nat):List Oper→St→St→Prop
 | [],st,st'=>st'=st
 |o::l,st,st'=>∃st1,StepR P ops n o st st1∧RunR P ops n l st1 st'
end
end Go.Ab
namespace Go.Ab
open Go.RowKit
def AWP(P:Program)(X:Ctx)(c:Code)(Q:Exit→St→Prop)(st:St):Prop:=
 ∀a w,R X st a w→c.wp P (fun e a' w'=>∃st',Q e st'∧R X st' a' w') a w
def thenQ(P:Program)(X:Ctx)(y:Code)(Q:Exit→St→Prop):Exit→St→Prop
 | .normal,st=>AWP P X y Q st
 |e,st=>Q e st
def blkQ(id:Nat)(Q:Exit→St→Prop):Exit→St→Prop
 | .exit i,st=>if i=id then Q .normal st else Q (.exit i) st
 |e,st=>Q e st
def Sub(X:Ctx)(st0 st:St):Prop:=∀a w,R X st a w→R X st0 a w
def loopQ{α:Type}(X:Ctx)(S:α→St)(I:α→Prop)(μ:α→Nat)(x:α)(Q:Exit→St→Prop):Exit→St→Prop
 | .normal,st=>∃x',I x'∧μ x'<μ x∧Sub X (S x') st
 |e,st=>Q e st
section
variable{P:Program}{X:Ctx}{Q:Exit→St→Prop}{st:St}
theorem bB{c:Code}{st0:St}(hs:Sub X st0 st)(h:AWP P X c Q st0):AWP P X c Q st:=fun a w hr=>h a w (hs a w hr)
theorem aJ(h:Q .normal st):AWP P X .skip Q st:=fun a w hr=>wp_skip ⟨st,h,hr⟩
theorem aR{id:Nat}(h:Q (.exit id) st):AWP P X (.exit id) Q st:=fun a w hr=>wp_exit ⟨st,h,hr⟩
theorem aB(h:Q .ret st):AWP P X .ret Q st:=fun a w hr=>wp_ret ⟨st,h,hr⟩
theorem aS{x y:Code}(h:AWP P X x (thenQ P X y Q) st):AWP P X (.seq x y) Q st:=fun a w hr=>
 wp_seq (wp_mono (h a w hr) fun e a' w' ⟨st',h1,h2⟩=>by
  cases e with
  |normal=>exact h1 a' w' h2
  |_=>exact⟨st',h1,h2⟩)
theorem aP{id:Nat}{c:Code}(h:AWP P X c (blkQ id Q) st):AWP P X (.block id c) Q st:=fun a w hr=>
 wp_block (wp_mono (h a w hr) fun e a' w' ⟨st',h1,h2⟩=>by
  cases e with
  |exit i=>
   simp only[blkQ]at h1
   simp only[Exit.inBlock]
   split at h1
   ·rename_i hi;rw[if_pos hi];exact⟨st',h1,h2⟩
   ·rename_i hi;rw[if_neg hi];exact⟨st',h1,h2⟩
  |_=>exact⟨st',h1,h2⟩)
theorem f9{c:Operand}{x y:Code}{b:Bool}(hc:ev st.env c=.v (.bool b))(h1:b=true→AWP P X x Q st)(h2:b=false→AWP P X y Q st):AWP P X (.cond c x y) Q st:=by
 intro a w hr
 obtain⟨M,loc,h⟩:=hr
 have hv:=h.ev c
 rw[hc]at hv
 exact wp_cond_split hv.v_inv (fun hb=>h1 hb a w ⟨M,loc,h⟩) (fun hb=>h2 hb a w ⟨M,loc,h⟩)
theorem jF{p:Nat→Prop}(h:∃k,p k):∃k,p k∧∀m,p m→k≤m:=by
 obtain⟨n,hn⟩:=h
 induction n using Nat.strongRecOn with
 |_ n ih=>
  by_cases hm:∃m,p m∧m<n
  ·obtain⟨m,h1,h2⟩:=hm
   exact ih m h2 h1
  ·exact⟨n,hn,fun m h1=>Nat.le_of_not_lt fun h2=>hm ⟨m,h1,h2⟩⟩
theorem aG{α:Type}{c:Code}(S:α→St)(I:α→Prop)(μ:α→Nat)(x0:α)(h0:Sub X (S x0) st)(hi:I x0)
  (round:∀x,I x→AWP P X c (loopQ X S I μ x Q) (S x)):AWP P X (.loop c) Q st:=by
 intro a w hr
 have hr0:=h0 a w hr
 classical
 let J:Act→World→Prop:=fun a w=>∃x,I x∧R X (S x) a w
 let m:Act→World→Nat:=fun a w=>if h:∃k x,I x∧R X (S x) a w∧μ x=k then Classical.choose (jF h)else 0
 refine wp_loop J m ⟨x0,hi,hr0⟩ fun a w hJ=>?_
 have hex:∃k x,I x∧R X (S x) a w∧μ x=k:=by
  obtain⟨x,h1,h2⟩:=hJ
  exact⟨μ x,x,h1,h2,rfl⟩
 have hm:m a w=Classical.choose (jF hex):=dif_pos hex
 obtain⟨x,hx1,hx2,hx3⟩:=(Classical.choose_spec (jF hex)).1
 refine wp_mono (round x hx1 a w hx2) fun e a' w' ⟨st',h1,h2⟩=>?_
 cases e with
 |normal=>
  obtain⟨x',h3,h4,h5⟩:=h1
  have hr':=h5 a' w' h2
  refine⟨⟨x',h3,hr'⟩,?_⟩
  have hex':∃k x,I x∧R X (S x) a' w'∧μ x=k:=⟨μ x',x',h3,hr',rfl⟩
  have hm':m a' w'=Classical.choose (jF hex'):=dif_pos hex'
  rw[hm,hm']
  have:=(Classical.choose_spec (jF hex')).2 (μ x') ⟨x',h3,hr',rfl⟩
  omega
 |_=>exact⟨st',h1,h2⟩
theorem Sub.refl:Sub X st st:=fun _ _ h=>h
theorem Sub.trans{a b c:St}(h:Sub X a b)(k:Sub X b c):Sub X a c:=fun x w hr=>h x w (k x w hr)
end
def mkE:List (Nat×AV)→Nat→AV
 | []=>fun _=>.bad
 |(s,v)::l=>upd (mkE l) s v
inductive Src where
 |old (id:Nat) (o:Ob)
 |birth (E k:Nat)
 |oldM (id:Nat) (m:MOb)
 |gone (id:Nat)
def Src.cell:Src→Cell
 | .old _ o=>.row o
 | .birth E k=>.row ⟨E,k,[]⟩
 | .oldM _ m=>.map m
 | .gone _=>.dead
def Src.isOld(id:Nat):Src→Bool
 | .old i _=>i==id
 | .birth .. =>false
 | .oldM i _=>i==id
 | .gone _=>false
def okB(HS:List Src)(H:List Cell)(old new:AV):Prop:=
 match new with
 | .bad=>True
 | .ow j=>match HS[j]? with
   |some (.old id _)=>old=.ow id
   |some (.birth _ _)=>old=.nil
   |some (.oldM id _)=>old=.ow id
   |some (.gone id)=>old=.ow id
   |none=>False
 | .el j k i off=>match HS[j]? with
   |some (.old id _)=>old=.el id k i off
   |_=>False
 | .wn j k lo n=>match HS[j]? with
   |some (.old id _)=>old=.wn id k lo n
   |_=>False
 | .sl es=>old=.sl es∨(old=.nil∧es=[])∨(∃id o,old=.ow id∧H[id]? =some (.row o)∧o.es=es∧zoneEs es=true∧HS.any (Src.isOld id)=false)∨
   ∃id k lo n o,old=.wn id k lo n∧H[id]? =some (.row o)∧(k=o.k∧lo+n≤o.es.length)∧(o.es.drop lo).take n=es∧zoneEs o.es=true∧HS.any (Src.isOld id)=false
 | .mb _ _=>False
 | .fn _ _ _=>False
 | .tup _=>False
 | .agg cs=>old=.agg cs∧cs.all AV.zoneB=true
 |x=>old=x
def okC(HS:List Src)(H:List Cell):List AV→List AV→Prop
 | [],[]=>True
 |a::as,b::bs=>okB HS H a b∧okC HS H as bs
 |_,_=>False
def okF(HS:List Src)(H:List Cell):AV→AV→Prop
 | .agg as,.agg bs=>okC HS H as bs
 | .agg _,_=>False
 |_,.agg _=>False
 |a,b=>okB HS H a b
def okEs(HS:List Src)(H:List Cell):List AV→List AV→Prop
 | [],[]=>True
 |a::as,b::bs=>okF HS H a b∧okEs HS H as bs
 |_,_=>False
def okE(HS:List Src)(H:List Cell)(old new:AV):Prop:=
 match new with
 | .fn f first cap=>match old with
   | .fn f' first' cap'=>f'=f∧okC HS H first' first∧okC HS H cap' cap
   |_=>False
 | .agg bs=>match old with
   | .agg as=>(as=bs∧bs.all AV.zoneB=true)∨okC HS H as bs
   |_=>False
 |x=>okB HS H old x
def okR(HS:List Src)(H:List Cell)(c:Option Cell)(o:Ob):Prop:=
 match c with
 |some (.row o0)=>(o0.E=o.E∧o0.k=o.k)∧((o0.es=o.es∧zoneEs o.es=true)∨okEs HS H o0.es o.es)
 |_=>False
def okS(HS:List Src)(H:List Cell):List Src→Prop
 | []=>True
 | .old id o::l=>okR HS H H[id]? o∧l.any (Src.isOld id)=false∧okS HS H l
 | .birth _ _::l=>okS HS H l
 | .oldM id m::l=>H[id]? =some (.map m)∧l.any (Src.isOld id)=false∧okS HS H l
 | .gone id::l=>id<H.length∧okS HS H l
def okL(HS:List Src)(st:St):List (Nat×AV)→Prop
 | []=>True
 |(s,v)::l=>okE HS st.heap (st.env s) v∧okL HS st l
theorem jG{HS:List Src}{H:List Cell}{s:Src}{l:List Src}(h:okS HS H (s::l)):okS HS H l:=by
 cases s with
 |old id o=>exact h.2.2
 |birth E k=>exact h
 |oldM id m=>exact h.2.2
 |gone id=>exact h.2
theorem s7{HS0:List Src}{H:List Cell}:∀{HS:List Src} {j id:Nat},okS HS0 H HS→HS[j]? =some (.gone id)→id<H.length
 | [],j,id,h,hj=>by simp at hj
 |s::l,0,id,h,hj=>by
  simp at hj;subst hj;exact h.1
 |s::l,j+1,id,h,hj=>s7 (jG h) (by simpa using hj)
theorem jH{HS0:List Src}{H:List Cell}:∀{HS:List Src} {j id:Nat} {o:Ob},okS HS0 H HS→HS[j]? =some (.old id o)→okR HS0 H H[id]? o
 | [],j,id,o,h,hj=>by simp at hj
 |s::l,0,id,o,h,hj=>by
  simp at hj;subst hj;exact h.1
 |s::l,j+1,id,o,h,hj=>jH (jG h) (by simpa using hj)
theorem lI{HS:List Src}{H:List Cell}{c:Option Cell}{o:Ob}(h:okR HS H c o):∃o0,c=some (.row o0)∧(o0.E=o.E∧o0.k=o.k)∧((o0.es=o.es∧zoneEs o.es=true)∨okEs HS H o0.es o.es):=by
 unfold okR at h
 split at h
 ·exact⟨_,rfl,h⟩
 ·exact h.elim
theorem mH{HS0:List Src}{H:List Cell}:∀{HS:List Src} {j id:Nat} {o:MOb},okS HS0 H HS→HS[j]? =some (.oldM id o)→H[id]? =some (.map o)
 | [],j,id,o,h,hj=>by simp at hj
 |s::l,0,id,o,h,hj=>by
  simp at hj;subst hj;exact h.1
 |s::l,j+1,id,o,h,hj=>mH (jG h) (by simpa using hj)
theorem wC{HS0:List Src}{H:List Cell}:∀{HS:List Src} {i j id:Nat} {a b:Src},okS HS0 H HS→HS[i]? =some a→HS[j]? =some b→a.isOld id=true→b.isOld id=true→i=j:=by
 have any_of:∀{l:List Src} {i id:Nat} {a:Src},l[i]? =some a→a.isOld id=true→l.any (Src.isOld id)=true:=by
  intro l i id a h h2
  exact List.any_eq_true.2 ⟨_,List.mem_of_getElem? h,h2⟩
 have hd:∀{s:Src} {l:List Src} {id:Nat},okS HS0 H (s::l)→s.isOld id=true→l.any (Src.isOld id)=false:=by
  intro s l id h h2
  cases s with
  |old id' o=>simp[Src.isOld]at h2;subst h2;exact h.2.1
  |birth E k=>simp[Src.isOld]at h2
  |oldM id' o=>simp[Src.isOld]at h2;subst h2;exact h.2.1
  |gone id'=>simp[Src.isOld]at h2
 intro HS
 induction HS with
 |nil=>intro i j id a b _ h;simp at h
 |cons s l ih=>
  intro i j id a b h hi hj ha hb
  cases i with
  |zero=>
   cases j with
   |zero=>rfl
   |succ j=>
    simp at hi
    subst hi
    have:=any_of (l:=l) (i:=j) (by simpa using hj) hb
    rw[hd h ha]at this;cases this
  |succ i=>
   cases j with
   |zero=>
    simp at hj
    subst hj
    have:=any_of (l:=l) (i:=i) (by simpa using hi) ha
    rw[hd h hb]at this;cases this
   |succ j=>rw[ih (i:=i) (j:=j) (jG h) (by simpa using hi) (by simpa using hj) ha hb]
theorem s8{HS:List Src}{H:List Cell}{a b:AV}(h:okF HS H a b):okC HS H a.flat b.flat:=by
 cases a<;>cases b<;>first|exact h|exact h.elim|exact⟨h,trivial⟩
theorem qE{HS:List Src}{H:List Cell}:∀{as bs:List AV} {j:Nat} {e:AV},okC HS H as bs→bs[j]? =some e→∃d,as[j]? =some d∧okB HS H d e
 | [],[],j,e,_,he=>by simp at he
 |a::as,b::bs,0,e,h,he=>by simp at he;subst he;exact⟨a,rfl,h.1⟩
 |a::as,b::bs,j+1,e,h,he=>by
  obtain⟨d,h1,h2⟩:=qE h.2 (j:=j) (by simpa using he)
  exact⟨d,by simpa using h1,h2⟩
 | [],_::_,_,_,h,_=>h.elim
 |_::_,[],_,_,h,_=>h.elim
theorem jI{HS:List Src}{H:List Cell}:∀{as bs:List AV},okC HS H as bs→as.length=bs.length
 | [],[],_=>rfl
 |a::as,b::bs,h=>by simp[jI h.2]
 | [],_::_,h=>h.elim
 |_::_,[],h=>h.elim
theorem wD{HS:List Src}{H:List Cell}:∀{as bs cs ds:List AV},okC HS H as bs→okC HS H cs ds→okC HS H (as++cs) (bs++ds)
 | [],[],cs,ds,_,h=>h
 |a::as,b::bs,cs,ds,h,h'=>⟨h.1,wD h.2 h'⟩
 | [],_::_,_,_,h,_=>h.elim
 |_::_,[],_,_,h,_=>h.elim
theorem oL{HS:List Src}{H:List Cell}:∀{as bs:List AV},okEs HS H as bs→okC HS H (as.flatMap AV.flat) (bs.flatMap AV.flat)
 | [],[],_=>trivial
 |a::as,b::bs,h=>wD (s8 h.1) (oL h.2)
 | [],_::_,h=>h.elim
 |_::_,[],h=>h.elim
theorem s9{HS:List Src}{H:List Cell}:∀{as bs:List AV},okEs HS H as bs→as.length=bs.length
 | [],[],_=>rfl
 |a::as,b::bs,h=>by simp[s9 h.2]
 | [],_::_,h=>h.elim
 |_::_,[],h=>h.elim
theorem jJ{HS:List Src}{H:List Cell}:∀{as bs:List AV} {k:Nat},okEs HS H as bs→(∀e∈as,e.flat.length=k)→∀e∈bs,e.flat.length=k
 | [],[],_,_,_=>by simp
 |a::as,b::bs,k,h,hk=>by
  intro e he
  rcases List.mem_cons.1 he with rfl|he
  ·rw[←jI (s8 h.1)];exact hk a (by simp)
  ·exact jJ h.2 (fun e he=>hk e (by simp[he])) e he
 | [],_::_,_,h,_=>h.elim
 |_::_,[],_,h,_=>h.elim
def subM(HS:List Src)(H:List Cell)(M:Nat→Prop)(loc:Nat→Value):Nat→Prop:=fun b=>M b∨∃id o,H[id]? =some (.row o)∧HS.any (Src.isOld id)=false∧(loc id).ownBlock=some b
def subLoc(HS:List Src)(loc:Nat→Value):Nat→Value:=fun j=>match HS[j]? with
    |some (.old id _)=>loc id
    |some (.oldM id _)=>loc id
    |some (.gone id)=>loc id
    |_=>.slice none 0 0
theorem uE{X:Ctx}{M:Nat→Prop}{loc:Nat→Value}{st:St}{a:Act}{w:World}(h:RR X M loc st a w){HS:List Src}{x:Value}{old new:AV}(he:okB HS st.heap old new)(hr:Rep w M loc x old)(hi:old.idLt st.heap.length):
  RepC w (subM HS st.heap M loc) (subLoc HS loc) HS.length x new:=by
 have hMM:∀b,M b→subM HS st.heap M loc b:=fun b hb=>.inl hb
 cases new with
 |bad=>exact⟨.inl (RepZ.bad _),trivial,rfl⟩
 |ow j=>
  simp only[okB]at he
  split at he
  ·rename_i id o hj
   rw[he]at hr
   refine⟨.inr ?_,(List.getElem?_eq_some_iff.1 hj).1,rfl⟩
   show _=subLoc HS loc j
   simp only[subLoc,hj]
   exact hr
  ·rename_i E k hj
   rw[he]at hr
   refine⟨.inr ?_,(List.getElem?_eq_some_iff.1 hj).1,rfl⟩
   show _=subLoc HS loc j
   simp only[subLoc,hj]
   exact hr.nil_inv
  ·rename_i id o hj
   rw[he]at hr
   refine⟨.inr ?_,(List.getElem?_eq_some_iff.1 hj).1,rfl⟩
   show _=subLoc HS loc j
   simp only[subLoc,hj]
   exact hr
  ·rename_i id hj
   rw[he]at hr
   refine⟨.inr ?_,(List.getElem?_eq_some_iff.1 hj).1,rfl⟩
   show _=subLoc HS loc j
   simp only[subLoc,hj]
   exact hr
  ·exact he.elim
 |el j k i off=>
  simp only[okB]at he
  split at he
  ·rename_i id o hj
   rw[he]at hr
   refine⟨.inr ?_,(List.getElem?_eq_some_iff.1 hj).1,rfl⟩
   obtain⟨g,n,c,h1,h2⟩:=hr
   refine⟨g,n,c,?_,h2⟩
   simp only[subLoc,hj]
   exact h1
  ·exact he.elim
 |wn j k lo n=>
  simp only[okB]at he
  split at he
  ·rename_i id o hj
   rw[he]at hr
   refine⟨.inr ?_,(List.getElem?_eq_some_iff.1 hj).1,rfl⟩
   obtain⟨A,c,h1,h2,h3,h4⟩:=hr
   refine⟨A,c,h1,h2,h3,?_⟩
   simp only[subLoc,hj]
   exact h4
  ·exact he.elim
 |sl es=>
  simp only[okB]at he
  refine⟨.inl ?_,trivial,rfl⟩
  rcases he with he|⟨he,rfl⟩|⟨id,o,he,ho,rfl,hz,hn⟩|⟨id,k,lo,n,o,he,ho,hkl,rfl,hz,hn⟩
  ·rw[he]at hr
   exact RepZ.mono (fun _ _=>rfl) hMM (Rep.repZ hr rfl)
  ·rw[he]at hr
   rw[hr.nil_inv]
   exact RepZ.sl none 0 0 [] (fun _=>undef) (by simp) (by simp) (by simp) (by simp) (by simp) (by simp)
  ·rw[he]at hr
   have hr':x=loc id:=hr
   rw[hr']
   exact h.frozenRow ho hz hMM (fun g hg=>.inr ⟨id,o,ho,hn,hg⟩)
  ·have hA:argA st.heap old=.sl ((o.es.drop lo).take n):=by
    rw[he];simp only[argA,ho];rw[if_pos ⟨hkl.1,hkl.2,hz⟩]
   have:=fL h (M':=subM HS st.heap M loc) hMM hr (by rw[hA];rfl) (fun id' o' h1 h2 g hg=>by
    rw[he]at h1
    simp[AV.ids]at h1
    subst h1
    exact .inr ⟨_,o',h2,hn,hg⟩)
   rw[hA]at this
   exact this
 |mb g y=>exact he.elim
 |fn a b c=>exact he.elim
 |tup a=>exact he.elim
 |agg cs=>
  simp only[okB]at he
  obtain⟨he,hz⟩:=he
  rw[he]at hr
  exact⟨.inl (RepZ.mono (fun _ _=>rfl) hMM (Rep.repZ hr hz)),bC (e:=.agg cs) hz _,hz⟩
 |_=>
  simp only[okB]at he
  rw[he]at hr
  exact⟨.inl (RepZ.mono (fun _ _=>rfl) hMM (Rep.repZ hr rfl)),trivial,rfl⟩
theorem ET{HS:List Src}{H:List Cell}{old new:AV}{n:Nat}(he:okB HS H old new)(hi:∀id∈old.idB,id<n)(hb:new≠.bad):old.idLt n:=by
 cases new with
 |bad=>exact(hb rfl).elim
 |ow j=>
  simp only[okB]at he
  split at he
  all_goals first|exact he.elim|(subst he;first|trivial|exact hi _ (by simp[AV.idB]))
 |el j k i off=>
  simp only[okB]at he
  split at he
  all_goals first|exact he.elim|(subst he;first|trivial|exact hi _ (by simp[AV.idB]))
 |wn j k i off=>
  simp only[okB]at he
  split at he
  all_goals first|exact he.elim|(subst he;first|trivial|exact hi _ (by simp[AV.idB]))
 |sl es=>
  simp only[okB]at he
  rcases he with he|⟨he,rfl⟩|⟨id,o,he,_⟩|⟨id,k,lo,n,o,he,_⟩
  all_goals(subst he;first|trivial|exact hi _ (by simp[AV.idB]))
 |mb g y=>exact he.elim
 |fn a b c=>exact he.elim
 |agg cs=>simp only[okB]at he;obtain⟨he,hz⟩:=he;subst he;exact bC (e:=.agg cs) hz _
 |tup a=>exact he.elim
 |_=>simp only[okB]at he;subst he;trivial
theorem wE{X:Ctx}{st:St}(L:List (Nat×AV))(HS:List Src)(hS:okS HS st.heap HS)(hL:okL HS st L){a:Act}{w:World}{M:Nat→Prop}{loc:Nat→Value}(h:RR X M loc st a w):
  ∃M' loc',(∀b,M b→M' b)∧RR X M' loc' ⟨mkE L,HS.map Src.cell⟩ a w:=by
 let M':Nat→Prop:=subM HS st.heap M loc
 let loc':Nat→Value:=subLoc HS loc
 have hMM:∀b,M b→M' b:=fun b hb=>.inl hb
 have get:∀(j:Nat) (o:Cell),(HS.map Src.cell)[j]? =some o→∃s,HS[j]? =some s∧s.cell=o:=by
  intro j o hj
  rw[List.getElem?_map]at hj
  cases hs:HS[j]? with
  |none=>rw[hs]at hj;cases hj
  |some s=>rw[hs]at hj;simp at hj;exact⟨s,rfl,hj⟩
 have lst:∀(as bs:List AV) (cs:Array Value),okC HS st.heap as bs→(∀(j:Nat) (c:Value) (e:AV),cs[j]? =some c→as[j]? =some e→RepB w M loc c e)→(∀e∈as,∀id∈e.idB,id<st.heap.length)→
   (∀(j:Nat) (c:Value) (e:AV),cs[j]? =some c→bs[j]? =some e→RepB w M' loc' c e)∧∀e∈bs,∀id∈e.idB,id<HS.length:=by
  intro as bs cs hc hr hi
  have one:∀(j:Nat) (e:AV),bs[j]? =some e→e=.bad∨∃d,as[j]? =some d∧okB HS st.heap d e∧d.idLt st.heap.length:=by
   intro j e he
   obtain⟨d,h1,h2⟩:=qE hc he
   by_cases hb:e=.bad
   ·exact .inl hb
   ·exact .inr ⟨d,h1,h2,ET h2 (hi d (List.mem_of_getElem? h1)) hb⟩
  refine⟨fun j c e hcj he=>?_,fun e he id hid=>?_⟩
  ·rcases one j e he with rfl|⟨d,h1,h2,h3⟩
   ·exact .inl (RepZ.bad _)
   ·exact(uE h h2 (hr j c d hcj h1).rep h3).1
  ·obtain⟨j,hj,rfl⟩:=List.getElem_of_mem he
   rcases one j _ (List.getElem?_eq_getElem hj)with hb|⟨d,h1,h2,h3⟩
   ·rw[hb]at hid;simp[AV.idB]at hid
   ·
    have hB:(bs[j]).idLt HS.length:=by
     cases hn:bs[j]with
     |ow q=>rw[hn]at h2;simp only[okB]at h2;split at h2<;>first|exact(List.getElem?_eq_some_iff.1 (by assumption)).1|exact h2.elim
     |el q _ _ _=>rw[hn]at h2;simp only[okB]at h2;split at h2<;>first|exact(List.getElem?_eq_some_iff.1 (by assumption)).1|exact h2.elim
     |wn q _ _ _=>rw[hn]at h2;simp only[okB]at h2;split at h2<;>first|exact(List.getElem?_eq_some_iff.1 (by assumption)).1|exact h2.elim
     |mb g y=>rw[hn]at h2;exact h2.elim
     |fn a b c=>rw[hn]at h2;exact h2.elim
     |tup a=>rw[hn]at h2;exact h2.elim
     |agg cs=>rw[hn]at h2;exact bC (e:=.agg cs) h2.2 _
     |_=>trivial
    refine(aT _ _).1 hB id ?_
    revert hid
    cases bs[j]<;>simp[AV.idB,AV.ids]
 have env:∀(L:List (Nat×AV)),okL HS st L→∀s,Rep w M' loc' (if s<G0 then a.tmps.getD s undef else X.gh (s-G0)) (mkE L s)∧(mkE L s).idLt HS.length:=by
  intro L
  induction L with
  |nil=>intro _ s;exact⟨(RepZ.bad _).rep,trivial⟩
  |cons p l ih=>
   obtain⟨t,v⟩:=p
   intro hl s
   simp only[mkE,upd]
   by_cases hst:s=t
   ·rw[if_pos hst]
    subst hst
    have he:=hl.1
    have hr:=h.env s
    have hi:=h.ids s
    revert hr hi he
    generalize st.env s=old
    generalize(if s<G0 then a.tmps.getD s undef else X.gh (s-G0))=x
    intro he hr hi
    cases v with
    |fn f first cap=>
     cases old with
     |fn f' first' cap'=>
      simp only[okE]at he
      obtain⟨rfl,h1,h2⟩:=he
      obtain⟨fs,cs,e1,e2,e3,e4,e5⟩:=hr
      obtain⟨q1,q2⟩:=lst first' first fs h1 e4 (fun e he=>hi e (List.mem_append_left _ he))
      obtain⟨q3,q4⟩:=lst cap' cap cs h2 e5 (fun e he=>hi e (List.mem_append_right _ he))
      refine⟨⟨fs,cs,e1,by rw[e2,jI h1],by rw[e3,jI h2],q1,q3⟩,fun e he=>?_⟩
      rcases List.mem_append.1 he with he|he
      ·exact q2 e he
      ·exact q4 e he
     |_=>exact he.elim
    |agg bs=>
     cases old with
     |agg as=>
      simp only[okE]at he
      obtain⟨ca,e1,e2,e3⟩:=hr
      rcases he with⟨rfl,hz⟩|hc
      ·have hzz:=(show Rep w M loc x (.agg as) from⟨ca,e1,e2,e3⟩).repZ hz
       exact⟨(hzz.mono (fun _ _=>rfl) hMM).rep,bC (e:=.agg as) hz _⟩
      ·obtain⟨q1,q2⟩:=lst as bs ca hc e3 hi
       exact⟨⟨ca,e1,by rw[e2,jI hc],q1⟩,q2⟩
     |_=>exact he.elim
    |_=>
     simp only[okE]at he
     have:=uE h (HS:=HS) he hr hi
     exact⟨this.1.rep,this.2.1⟩
   ·rw[if_neg hst];exact ih hl.2 s
 have mloc:∀j m,(HS.map Src.cell)[j]? =some (.map m)→∃id,HS[j]? =some (.oldM id m)∧loc' j=loc id∧st.heap[id]? =some (.map m):=by
  intro j m hj
  obtain⟨s,hs,hc⟩:=get j _ hj
  cases s with
  |old id o=>cases hc
  |birth E k=>cases hc
  |gone id=>cases hc
  |oldM id m'=>
   cases hc
   exact⟨id,hs,by simp only[loc',subLoc,hs],mH hS hs⟩
 refine⟨M',loc',hMM,fun s=>(env L hL s).1,h.nle,h.size,h.defers,fun j o hj=>?_,fun i j oi oj hij hi hj=>?_,fun j m hj=>?_,fun i j mi mj hij hi hj=>?_,h.below,fun b hb=>?_,fun b hb=>.inl (h.zin b hb),h.zlt,fun j hj=>?_,fun s=>by rw[List.length_map];exact(env L hL s).2⟩
 ·obtain⟨s,hs,hc⟩:=get j _ hj
  rw[List.length_map]
  cases s with
  |oldM id m=>cases hc
  |gone id=>cases hc
  |birth E k=>
   cases hc
   have hl:loc' j=.slice none 0 0:=by simp only[loc',subLoc,hs]
   rw[hl]
   exact⟨⟨[],World.ownsRow_nil w _ _ _,by simp⟩,by simp,fun g hg=>by simp[Value.ownBlock]at hg,fun g hg=>by simp[Value.ownBlock]at hg⟩
  |old id o=>
   cases hc
   have hl:loc' j=loc id:=by simp only[loc',subLoc,hs]
   rw[hl]
   obtain⟨o0,ho,⟨hE,hk⟩,hcon⟩:=lI (jH hS hs)
   have hob:=h.obj id o0 ho
   obtain⟨xs,h1,h2⟩:=hob.own
   have hlen:o0.es.length=o.es.length:=by
    rcases hcon with⟨e,_⟩|e
    ·rw[e]
    ·exact s9 e
   refine⟨⟨xs,by rw[←hE,←hk,←hlen];exact h1,fun j e he=>?_⟩,fun e he=>?_,fun g hg hm=>?_,hob.mine⟩
   ·rcases hcon with⟨e1,hz⟩|hc
    ·obtain⟨x,hx,hr⟩:=h2 j e (by rw[e1];exact he)
     have hze:=dP hz he
     exact⟨x,hx,.inl ((hr.1.repZ hze).mono (fun _ _=>rfl) hMM),bC hze _,hr.2.2⟩
    ·obtain⟨d,hd,hdb⟩:=qE (oL hc) he
     obtain⟨x,hx,hr⟩:=h2 j d hd
     exact⟨x,hx,uE h hdb hr.1.rep hr.2.1⟩
   ·rcases hcon with⟨e1,_⟩|hc
    ·rw[←hk];exact hob.flat e (by rw[e1];exact he)
    ·rw[←hk];exact jJ hc hob.flat e he
   ·rcases hm with hm|⟨id2,o2,ho2,hn,hb⟩
    ·exact hob.away g hg hm
    ·have hne:id2≠id:=by
      rintro rfl
      have:HS.any (Src.isOld id2)=true:=List.any_eq_true.2 ⟨_,List.mem_of_getElem? hs,by simp[Src.isOld]⟩
      rw[hn]at this;cases this
     rcases h.sep id2 id o2 o0 hne ho2 ho with h3|h3
     ·rw[hb]at h3;cases h3
     ·exact h3 (by rw[hb,hg])
 ·obtain⟨si,hsi,hci⟩:=get i _ hi
  obtain⟨sj,hsj,hcj⟩:=get j _ hj
  cases si with
  |oldM id m=>cases hci
  |gone id=>cases hci
  |birth E k=>
   left
   have hl:loc' i=.slice none 0 0:=by simp only[loc',subLoc,hsi]
   rw[hl];rfl
  |old id o=>
   have hl:loc' i=loc id:=by simp only[loc',subLoc,hsi]
   cases sj with
   |oldM id m=>cases hcj
   |gone id=>cases hcj
   |birth E k=>
    have hl2:loc' j=.slice none 0 0:=by simp only[loc',subLoc,hsj]
    rw[hl,hl2]
    cases hb:(loc id).ownBlock with
    |none=>exact .inl rfl
    |some b=>right;intro e;simp[Value.ownBlock]at e
   |old id2 o2=>
    have hl2:loc' j=loc id2:=by simp only[loc',subLoc,hsj]
    rw[hl,hl2]
    obtain⟨o0,ho,_⟩:=lI (jH hS hsi)
    obtain⟨o02,ho2,_⟩:=lI (jH hS hsj)
    refine h.sep id id2 _ _ ?_ ho ho2
    rintro rfl
    exact hij (wC (id:=id) hS hsi hsj (by simp[Src.isOld]) (by simp[Src.isOld]))
 ·obtain⟨id,hs,hl,hm⟩:=mloc j m hj
  rw[hl]
  obtain⟨g,es,clock,h1,h2,h3,h4,h5⟩:=(h.mobj id m hm).own
  refine⟨g,es,clock,h1,h2,fun hg=>?_,h4,h5.mono (fun _ _=>rfl) hMM⟩
  rcases hg with hg|⟨id2,o2,ho2,_,hb⟩
  ·exact h3 hg
  ·obtain⟨cs,t,fr,hcells⟩:=bG (h.obj id2 o2 ho2).own.choose_spec.1 g hb
   rw[h4]at hcells;cases hcells
 ·obtain⟨id,hs,hl,hm⟩:=mloc i mi hi
  obtain⟨id2,hs2,hl2,hm2⟩:=mloc j mj hj
  rw[hl,hl2]
  refine h.msep id id2 mi mj ?_ hm hm2
  rintro rfl
  exact hij (wC (id:=id) hS hs hs2 (by simp[Src.isOld]) (by simp[Src.isOld]))
 ·rcases hb with hb|⟨id,o,ho,_,hb⟩
  ·exact h.zone b hb
  ·have hob:=h.obj id o ho
   obtain⟨xs,hown,_⟩:=hob.own
   exact⟨(hown.lt b hb).2,.inr (hob.mine b hb)⟩
 ·rw[List.length_map]at hj
  simp only[loc',subLoc]
  cases hs:HS[j]? with
  |none=>rfl
  |some s=>
   cases s with
   |birth E k=>rfl
   |old id o=>
    obtain⟨o0,ho,_⟩:=lI (jH hS hs)
    exact h.one id (List.getElem?_eq_some_iff.1 ho).1
   |oldM id m=>exact h.one id (List.getElem?_eq_some_iff.1 (mH hS hs)).1
   |gone id=>exact h.one id (s7 hS hs)
theorem HR{X:Ctx}{st:St}(L:List (Nat×AV))(HS:List Src)(hS:okS HS st.heap HS)(hL:okL HS st L):Sub X ⟨mkE L,HS.map Src.cell⟩ st:=by
 rintro a w ⟨M,loc,h⟩
 obtain⟨M',loc',_,h'⟩:=wE L HS hS hL h
 exact⟨M',loc',h'⟩
end Go.Ab
namespace Go.Ab
open Go.RowKit
def resA(P:Program)(st:St):ResultVar→Option (Prop×AV)
 | .tmp t=>some ((argA st.heap (ev st.env (.tmp t))).argOK=true,argA st.heap (ev st.env (.tmp t)))
 | .cell t T=>match tyk P T with
   |some K=>match ev st.env (.tmp t)with
    | .el id k i off=>(loadA K st.heap (.el id k i off)).map fun(p,r)=>(p∧(argA st.heap r).argOK=true,argA st.heap r)
    |_=>none
   |none=>none
def freshA(st:St):ResultVar→Bool
 | .tmp t=>match ev st.env (.tmp t)with
   | .ow id=>match st.heap[id]? with
     |some (.row o)=>o.es.all AV.scal
     |_=>false
   | .wn id _ _ _=>match st.heap[id]? with
     |some (.row o)=>o.es.all AV.scal
     |_=>false
   |x=>x.scal
 | .cell _ _=>false
def resL(P:Program)(st:St):List ResultVar→Option (Prop×List AV)
 | []=>some (True,[])
 |r::l=>match resA P st r,resL P st l with
  |some (p,v),some (q,vs)=>some (p∧q,v::vs)
  |_,_=>none
def packA:List AV→AV
 | [v]=>v
 |vs=>.tup vs
def retQ(P:Program)(rs:List ResultVar)(fr:Bool)(R0:AV→Prop):Exit→St→Prop
 | .normal,st| .ret,st=>match resL P st rs with
   |some (p,vs)=>p∧R0 (packA vs)∧(fr=true→(packA vs).scal=true∨(rs.all (fun r=>freshA st r)=true))
   |none=>False
 |_,_=>False
def argE:Nat→List AV→Nat→AV
 |_,[]=>fun _=>.bad
 |i,a::l=>upd (argE (i+1) l) i a
section
variable{P:Program}{w:World}{M:Nat→Prop}{loc:Nat→Value}
theorem gA(i s:Nat)(l:List AV)(h:i≤s):argE i l s=l.getD (s-i) .bad:=by
 induction l generalizing i with
 |nil=>simp[argE]
 |cons a l ih=>
  simp only[argE,upd]
  split
  ·rename_i e;subst e;simp
  ·rw[ih (i+1) (by omega)]
   have:s-i=(s-(i+1))+1:=by omega
   rw[this,List.getD_cons_succ]
def resS(tmps:Array Value):ResultVar→Sem Value
 | .tmp t=>pure (tmps.getD t undef)
 | .cell c t=>do loadVar t (←asAddr (tmps.getD c undef))
theorem fN(fn:Func)(tmps:Array Value):results fn tmps=(do let vs←fn.results.mapM (resS tmps);pure (if h:vs.size=1 then vs[0]else .tuple vs)):=by
 have:(fun rv:ResultVar=>match rv with| .tmp t=>pure (tmps.getD t undef)| .cell c t=>do loadVar t (←asAddr (tmps.getD c undef)):ResultVar→Sem Value)=resS tmps:=by
  funext rv;cases rv<;>rfl
 rw[←this]
 rfl
theorem yU{H:List Cell}{e:AV}(h:e.scal=true):(argB H e).scal=true:=by
 cases e<;>first|rfl|exact h|simp[AV.scal]at h
theorem yV{H:List Cell}{e:AV}(h:e.scal=true):(argA H e).scal=true:=by
 cases e with
 |agg cs=>
  simp only[AV.scal]at h
  simp only[argA,AV.scal]
  induction cs with
  |nil=>rfl
  |cons c cs ih=>
   simp only[AV.scalAll,Bool.and_eq_true]at h
   simp only[List.map_cons,AV.scalAll,Bool.and_eq_true]
   exact⟨yU h.1,ih h.2⟩
 |_=>first|rfl|exact h|simp[AV.scal]at h
theorem BN{e:AV}(h:e.scal=true):e.ids=[]:=by
 have lst:∀cs:List AV,AV.scalAll cs=true→cs.flatMap AV.idB=[]:=by
  intro cs h
  rw[List.flatMap_eq_nil_iff]
  intro c hc
  obtain⟨j,hj,rfl⟩:=List.getElem_of_mem hc
  have:=AV.scalAll_mem h (List.getElem?_eq_getElem hj)
  revert this
  cases cs[j]<;>simp[AV.idB,AV.scal]
 cases e with
 |agg cs=>exact lst cs h
 |tup cs=>exact lst cs h
 |_=>first|rfl|simp[AV.scal]at h
theorem EU{X:Ctx}{st:St}{a:Act}(h:RR X M loc st a w){rv:ResultVar}{p:Prop}{v:AV}(he:resA P st rv=some (p,v))(hp:p):
  ∃x,(resS a.tmps rv).run P w=.ok x w∧
   RepZ w (fun b=>b<w.heap.size∧(X.own b∨X.Z b)) x v∧(freshA st rv=true→RepZ w (fun b=>b<w.heap.size∧X.own b) x v):=by
 have hM:∀b,M b→b<w.heap.size∧(X.own b∨X.Z b):=fun b hb=>⟨(h.zone b hb).1,(h.zone b hb).2.symm⟩
 cases rv with
 |tmp t=>
  simp only[resA,Option.some.injEq,Prod.mk.injEq]at he
  obtain⟨rfl,rfl⟩:=he
  have hr:Rep w M loc (a.tmps.getD t undef) (ev st.env (.tmp t)):=h.ev (.tmp t)
  refine⟨a.tmps.getD t undef,rfl,fL h hM hr hp (fun id o e1 e2 g hg=>?_),fun hf=>?_⟩
  ·have hob:=h.obj id o e2
   obtain⟨xs,hown,_⟩:=hob.own
   exact⟨(hown.lt g hg).2,.inl (hob.mine g hg)⟩
  ·simp only[freshA]at hf
   split at hf
   ·rename_i id he
    split at hf
    ·rename_i o ho
     have hr':a.tmps.getD t undef=loc id:=by rw[he]at hr;exact hr
     have hze:zoneEs o.es=true:=by
      cases hz:zoneEs o.es with
      |true=>rfl
      |false=>rw[he]at hp;simp[argA,ho,hz,AV.argOK]at hp
     have hzz:=h.frozenRow ho hze (M':=fun b=>M b∨(loc id).ownBlock=some b) (fun b hb=>.inl hb) (fun g hg=>.inr hg)
     rw[hr',he]
     simp only[argA,ho,hze,cond_true]
     obtain⟨A,cap,k,f,e1,hk,hA,hc,hrr,hcap,hmax⟩:=hzz.sl_inv
     have hob:=h.obj id o ho
     obtain⟨xs,hown,_⟩:=hob.own
     have hmine:=hob.mine
     rw[e1]at hown hmine⊢
     refine .sl A cap k o.es f hk (fun hne=>?_) hc (fun j e hj=>?_) hcap hmax
     ·obtain⟨ad,rfl,_⟩:=hA hne
      have:=hown.lt ad.block rfl
      exact⟨ad,rfl,this.2,hmine ad.block rfl⟩
     ·refine(hrr j e hj).of_scal ?_
      obtain⟨n,hn,hn2⟩:=List.mem_flatMap.1 (List.mem_of_getElem? hj)
      have hs:=List.all_eq_true.1 hf n hn
      obtain⟨q,hq,rfl⟩:=List.getElem_of_mem hn2
      cases n with
      |agg cs=>exact AV.scalAll_mem hs (List.getElem?_eq_getElem hq)
      |_=>simp only[AV.flat]at hq⊢;simp at hq;subst hq;exact hs
    ·cases hf
   ·rename_i id kk lo m he
    split at hf
    ·rename_i o ho
     rw[he]at hr hp⊢
     have hA:argA st.heap (.wn id kk lo m)=.sl ((o.es.drop lo).take m):=by
      simp only[argA,ho]at hp⊢
      split
      ·rfl
      ·rename_i hc;rw[if_neg hc]at hp;simp[AV.argOK]at hp
     have hzz:=fL h (M':=fun b=>M b∨(loc id).ownBlock=some b) (fun b hb=>.inl hb) hr hp (fun id' o' h1 _ g hg=>by
      simp[AV.ids]at h1
      subst h1
      exact .inr hg)
     rw[hA]at hzz⊢
     obtain⟨A,cap,k,f,e1,hk,hAA,hc,hrr,hcap,hmax⟩:=hzz.sl_inv
     have hob:=h.obj id o ho
     obtain⟨xs,hown,_⟩:=hob.own
     obtain⟨A',c',e2,_,_,hA1,_⟩:=(show RepO loc (a.tmps.getD t undef) (.wn id kk lo m) from hr)
     rw[e1]
     refine .sl A cap k _ f hk (fun hne=>?_) hc (fun j e hj=>?_) hcap hmax
     ·obtain⟨ad,rfl,_⟩:=hAA hne
      rw[e1]at e2
      simp only[Value.slice.injEq]at e2
      obtain⟨e3,e4,_⟩:=e2
      have hm:0<m:=by
       have:=List.length_pos_iff.2 hne
       omega
      obtain⟨g,m2,d,h1,rfl⟩:=hA1 hm
      obtain rfl:=Option.some.inj e3
      have hg:(loc id).ownBlock=some g:=by rw[h1];rfl
      exact⟨_,rfl,(hown.lt g hg).2,hob.mine g hg⟩
     ·refine(hrr j e hj).of_scal ?_
      obtain⟨n,hn,hn2⟩:=List.mem_flatMap.1 (List.mem_of_getElem? hj)
      have hs:=List.all_eq_true.1 hf n (List.mem_of_mem_drop (List.mem_of_mem_take hn))
      obtain⟨q,hq,rfl⟩:=List.getElem_of_mem hn2
      cases n with
      |agg cs=>exact AV.scalAll_mem hs (List.getElem?_eq_getElem hq)
      |_=>simp only[AV.flat]at hq⊢;simp at hq;subst hq;exact hs
    ·cases hf
   ·rename_i hno hno2
    have hsc:(argA st.heap (ev st.env (.tmp t))).scal=true∧RepZ w (fun b=>b<w.heap.size∧(X.own b∨X.Z b)) (a.tmps.getD t undef) (argA st.heap (ev st.env (.tmp t)))∨argA st.heap (ev st.env (.tmp t))=.sl []∧a.tmps.getD t undef=.slice none 0 0:=by
     cases he:ev st.env (.tmp t)with
     |ow id=>exact(hno id he).elim
     |wn a b c d=>exact(hno2 _ _ _ _ he).elim
     |el a b c d=>rw[he]at hf;simp[AV.scal]at hf
     |fn a b c=>rw[he]at hf;simp[AV.scal]at hf
     |mb a b=>rw[he]at hf;simp[AV.scal]at hf
     |nil=>
      right
      rw[he]at hr
      exact⟨rfl,hr.nil_inv⟩
     |_=>
      left
      rw[he]at hf hr hp
      exact⟨yV hf,fL h hM hr hp (fun id o e1 e2 g hg=>by rw[BN hf]at e1;cases e1)⟩
    rcases hsc with⟨h1,h2⟩|⟨h1,h2⟩
    ·exact h2.of_scal h1
    ·rw[h1,h2]
     exact .sl none 0 0 [] (fun _=>undef) (by simp) (by simp) (by simp) (by simp) (by simp) (by simp)
 |cell c t=>
  simp only[resA]at he
  split at he
  ·rename_i K hK
   split at he
   ·rename_i id k i off hc
    cases hl:loadA K st.heap (.el id k i off)with
    |none=>simp[hl]at he
    |some pr=>
     obtain⟨p',r⟩:=pr
     simp only[hl,Option.map_some,Option.some.injEq,Prod.mk.injEq]at he
     obtain⟨rfl,rfl⟩:=he
     have hr:Rep w M loc (a.tmps.getD c undef) (ev st.env (.tmp c)):=h.ev (.tmp c)
     rw[hc]at hr
     obtain⟨x,h1,h2⟩:=mI (P:=P) (X:=X) (fun id o ho=>h.obj id o ho) hK hr hl hp.1
     obtain⟨g,n,cc,_,hv⟩:=hr
     refine⟨x,?_,fL h hM h2 hp.2 (fun id o e1 e2 g hg=>by
      have hob:=h.obj id o e2
      obtain⟨xs,hown,_⟩:=hob.own
      exact⟨(hown.lt g hg).2,.inl (hob.mine g hg)⟩),fun hf=>by cases hf⟩
     rw[hv]at h1
     simp only[Instr.loadAt,Instr.sureAddr,Sem.run_bind,Sem.run_pure,Result.andThen_ok]at h1
     simp only[resS,hv,asAddr,Sem.run_bind,Sem.run_pure,Result.andThen_ok,h1]
   ·cases he
  ·cases he
theorem qF{X:Ctx}{st:St}{a:Act}(h:RR X M loc st a w):∀(rs:List ResultVar) (p:Prop) (vs:List AV),resL P st rs=some (p,vs)→p→
  ∃xs:List Value,(rs.mapM (resS a.tmps)).run P w=.ok xs w∧xs.length=vs.length∧
   (∀(j:Nat) (x:Value) (v:AV),xs[j]? =some x→vs[j]? =some v→RepZ w (fun b=>b<w.heap.size∧(X.own b∨X.Z b)) x v)∧
   (rs.all (fun r=>freshA st r)=true→∀(j:Nat) (x:Value) (v:AV),xs[j]? =some x→vs[j]? =some v→RepZ w (fun b=>b<w.heap.size∧X.own b) x v)
 | [],p,vs,he,_=>by
   simp only[resL,Option.some.injEq,Prod.mk.injEq]at he
   obtain⟨-,rfl⟩:=he
   exact⟨[],by simp,rfl,by simp,by simp⟩
 |r::rs,p,vs,he,hp=>by
  simp only[resL]at he
  split at he
  ·rename_i p1 v1 q1 vs1 h1 h2
   simp only[Option.some.injEq,Prod.mk.injEq]at he
   obtain⟨rfl,rfl⟩:=he
   obtain⟨x,e1,e2,e3⟩:=EU (P:=P) h h1 hp.1
   obtain⟨xs,f1,f2,f3,f4⟩:=qF h rs q1 vs1 h2 hp.2
   refine⟨x::xs,?_,by simp[f2],fun j y v hy hv=>?_,fun hf j y v hy hv=>?_⟩
   ·rw[List.mapM_cons]
    simp only[Sem.run_bind,e1,Result.andThen_ok,f1,Sem.run_pure]
   ·cases j with
    |zero=>simp at hy hv;subst hy;subst hv;exact e2
    |succ j=>exact f3 j y v (by simpa using hy) (by simpa using hv)
   ·simp only[List.all_cons,Bool.and_eq_true]at hf
    cases j with
    |zero=>simp at hy hv;subst hy;subst hv;exact e3 hf.1
    |succ j=>exact f4 hf.2 j y v (by simpa using hy) (by simpa using hv)
  ·cases he
theorem k9{N:Nat}{w:World}{M:Nat→Prop}{loc:Nat→Value}{vs:Array Value}{args:List AV}(hl:vs.size=args.length)(hn:args.length≤N)(hvs:∀(j:Nat) (x:Value) (e:AV),vs[j]? =some x→args[j]? =some e→Rep w M loc x e)(s:Nat):
  Rep w M loc ((vs++Array.replicate (N-vs.size) undef).getD s undef) (argE 0 args s):=by
 rw[gA 0 s args (by omega),List.getD_eq_getElem?_getD,Nat.sub_zero]
 cases hs:args[s]? with
 |none=>exact(RepZ.bad _).rep
 |some e=>
  have hsl:s<args.length:=(List.getElem?_eq_some_iff.1 hs).1
  have hv:vs[s]? =some (vs[s]'(by omega)):=Array.getElem?_eq_getElem _
  have hg:(vs++Array.replicate (N-vs.size) undef).getD s undef=vs[s]'(by omega):=by
   rw[Array.getD_eq_getD_getElem?,Array.getElem?_append_left (by omega),hv];rfl
  rw[hg]
  exact hvs s _ e hv hs
theorem jK{args:List AV}{s:Nat}(h:args.length≤s):argE 0 args s=.bad:=by
 rw[gA 0 s args (by omega),List.getD_eq_getElem?_getD,List.getElem?_eq_none (by omega)];rfl
theorem BO{f:FuncId}{fn:Func}{c:Code}{args:List AV}{r:AV}(fr:Bool)(hf:P.funcs[f]? =some fn)(hb:fn.body=some c)(hn:args.length≤fn.ntmps)(hG:fn.ntmps≤G0)(hz:args.all AV.zone=true)
  (h:∀X:Ctx,X.n=fn.ntmps→AWP P X c (retQ P fn.results.toList fr (fun v=>v=r)) ⟨argE 0 args,[]⟩):Means fr P f args r:=by
 intro Z w vs hZ hgl hl hvs
 refine calls_of_wp hf hb ?_
 let X:Ctx:=⟨w,Z,fn.ntmps,fun _=>False,fun _=>undef,⟨hgl,fun _ _ h=>h,fun _ _ h=>h⟩,[]⟩
 have hown:∀b,X.own b↔w.heap.size≤b:=fun b=>⟨fun h=>h.elim id False.elim,.inl⟩
 let a0:Act:={tmps:=vs++Array.replicate (fn.ntmps-vs.size) undef,defers:=[]}
 have hrr:RR X Z (fun _=>undef) ⟨argE 0 args,[]⟩ a0 w:=by
  have hzz:∀s,(argE 0 args s).zone=true:=by
   intro s
   rw[gA 0 s args (by omega),List.getD_eq_getElem?_getD]
   cases hs:args[s-0]? with
   |none=>rfl
   |some e=>exact List.all_eq_true.1 hz e (List.mem_of_getElem? hs)
  refine⟨fun s=>?_,hG,by simp[a0,X];omega,rfl,fun id o ho=>by simp at ho,fun i j oi oj _ hi=>by simp at hi,fun id m hm=>by simp at hm,fun i j mi mj _ hi=>by simp at hi,⟨rfl,rfl,rfl,Nat.le_refl _,fun _ _ _=>rfl⟩,fun b hb=>⟨hZ b hb,.inl hb⟩,fun b hb=>hb,fun b hb=>hZ b hb,fun id hid=>by simp at hid,fun s=>bC (hzz s) _⟩
  show Rep w Z _ _ (argE 0 args s)
  by_cases hs:s<G0
  ·rw[if_pos hs]
   exact k9 hl hn (fun j x e h1 h2=>(hvs j x e h1 h2).rep) s
  ·rw[jK (by omega)];exact(RepZ.bad _).rep
 refine wp_mono (h X rfl a0 w ⟨Z,_,hrr⟩) fun e a' w' ⟨st',hq,hr⟩=>?_
 obtain⟨M,loc,hr⟩:=hr
 have key:(match resL P st' fn.results.toList with
  |some (p,vs)=>p∧packA vs=r∧(fr=true→(packA vs).scal=true∨(fn.results.toList.all (fun r=>freshA st' r)=true))
  |none=>False)→
   a'.defers=[]∧∃v,(results fn a'.tmps).run P w'=.ok v w'∧∃x,Ending.returned v=.returned x∧Below w.heap.size w w'∧RepZ w' (fun b=>b<w'.heap.size∧(w.heap.size≤b∨(fr=false∧Z b))) x r:=by
  intro hq
  split at hq
  case h_2=>exact hq.elim
  rename_i p rvs h1
  obtain⟨h2,rfl,h3⟩:=hq
  obtain⟨xs,e1,e2,e3,e4⟩:=qF (P:=P) hr fn.results.toList p rvs h1 h2
  refine⟨hr.defers,(if h:xs.toArray.size=1 then xs.toArray[0]else .tuple xs.toArray),?_,_,rfl,⟨hr.below.os,hr.below.tape,hr.below.output,hr.below.size,fun k hk=>hr.below.block k hk (fun h=>h)⟩,?_⟩
  ·rw[fN,Array.mapM_eq_mapM_toList]
   simp only[Sem.run_map,Sem.run_bind,e1,Result.andThen_ok,Sem.run_pure]
  ·have pack:∀(N:Nat→Prop),(∀(j:Nat) (x:Value) (v:AV),xs[j]? =some x→rvs[j]? =some v→RepZ w' N x v)→RepZ w' N (if h:xs.toArray.size=1 then xs.toArray[0]else .tuple xs.toArray) (packA rvs):=by
    intro N hN
    match xs,rvs,e2 with
    | [],[],_=>exact .tup #[] [] rfl (by simp)
    | [x],[v],_=>exact hN 0 x v rfl rfl
    |x::y::xs,v::u::vs,hl=>
     have hne:¬(x::y::xs).toArray.size=1:=by simp
     rw[dif_neg hne]
     exact .tup _ _ (by simpa using hl) (fun j c e hc he=>hN j c e (by simpa using hc) he)
   cases fr with
   |false=>exact(pack _ e3).mono (fun _ _=>rfl) (fun b hb=>⟨hb.1,hb.2.imp (hown b).1 fun hz=>⟨rfl,hz⟩⟩)
   |true=>
    rcases h3 rfl with h3|h3
    ·exact(pack _ e3).of_scal h3
    ·exact(pack _ (e4 h3)).mono (fun _ _=>rfl) (fun b hb=>⟨hb.1,.inl ((hown b).1 hb.2)⟩)
 cases e with
 |normal=>exact key hq
 |ret=>exact key hq
 |exit i=>exact hq.elim
 |goto l=>exact hq.elim
 |panic c=>exact hq.elim
 |outgrown=>exact hq.elim
end
end Go.Ab
namespace Go.Ab
open Go.RowKit
def blks(H:List Cell)(loc:Nat→Value)(b:Nat):Prop:=
 (∃id o,H[id]? =some (.row o)∧(loc id).ownBlock=some b)∨∃id m,H[id]? =some (.map m)∧loc id=.map (some b)
structure HeapS(own:Nat→Prop)(M:Nat→Prop)(loc:Nat→Value)(H:List Cell)(w:World):Prop where
 obj:∀id o,H[id]? =some (.row o)→ObjOK own w M loc H.length (loc id) o
 sep:∀i j oi oj,i≠j→H[i]? =some (.row oi)→H[j]? =some (.row oj)→(loc i).ownBlock=none∨(loc i).ownBlock≠(loc j).ownBlock
 mobj:∀id m,H[id]? =some (.map m)→MapOK own w M (loc id) m
 msep:∀i j mi mj,i≠j→H[i]? =some (.map mi)→H[j]? =some (.map mj)→loc i≠loc j
 one:∀id,id<H.length→(loc id).oneCell'=true
def MeansH(P:Program)(f:FuncId)(H:List Cell)(args:List AV)(r:AV)(H':List Cell):Prop:=
 ∀(w:World) (M:Nat→Prop) (loc:Nat→Value) (vs:Array Value),(∀b,M b→b<w.heap.size)→GlobW w M→HeapS (blks H loc) M loc H w→vs.size=args.length→
  (∀(j:Nat) (x:Value) (e:AV),vs[j]? =some x→args[j]? =some e→Rep w M loc x e∧e.idLt H.length)→
  Calls P f vs w fun e w'=>∃x M' loc',e=.returned x∧HeapS (fun b=>w.heap.size≤b∨blks H loc b) M' loc' H' w'∧BelowT (blks H loc) w w'∧(∀b,M b→M' b)∧
   (∀b,M' b→b<w'.heap.size∧(M b∨w.heap.size≤b∨blks H loc b))∧(∀id,id<H.length→loc' id=loc id)∧Rep w' M' loc' x r∧r.idLt H'.length∧H.length≤H'.length
theorem eF{H:List Cell}{loc:Nat→Value}{own M:Nat→Prop}{w:World}(h:HeapS own M loc H w){b:Nat}(hb:blks H loc b):¬M b:=by
 rcases hb with⟨id,o,ho,hg⟩|⟨id,m,hm,hg⟩
 ·exact(h.obj id o ho).away b hg
 ·obtain⟨g,es,c,h1,_,h3,_⟩:=(h.mobj id m hm).own
  rw[hg]at h1;cases h1;exact h3
theorem ObjOK.imp{own own':Nat→Prop}{w:World}{M:Nat→Prop}{loc:Nat→Value}{n:Nat}{sv:Value}{o:Ob}(h:ObjOK own w M loc n sv o)(hi:∀b,own b→own' b):ObjOK own' w M loc n sv o:=
 ⟨h.own,h.flat,h.away,fun g hg=>hi g (h.mine g hg)⟩
theorem MapOK.imp{own own':Nat→Prop}{w:World}{M:Nat→Prop}{sv:Value}{m:MOb}(h:MapOK own w M sv m)(hi:∀b,own b→own' b):MapOK own' w M sv m:=by
 obtain⟨g,es,c,h1,h2,h3⟩:=h.own
 exact⟨g,es,c,h1,hi g h2,h3⟩
def ghE:Nat→(Nat→AV)→Nat→AV
 |0,f=>f
 |m+1,f=>upd (ghE m f) (G0+m) (.ow m)
theorem BP{m s:Nat}{f:Nat→AV}(h:s<G0):ghE m f s=f s:=by
 induction m with
 |zero=>rfl
 |succ m ih=>simp only[ghE,upd];rw[if_neg (by omega)];exact ih
theorem BQ{m i:Nat}{f:Nat→AV}(h:i<m):ghE m f (G0+i)=.ow i:=by
 induction m with
 |zero=>omega
 |succ m ih=>
  simp only[ghE,upd]
  by_cases hi:i=m
  ·subst hi;rw[if_pos rfl]
  ·rw[if_neg (by omega)];exact ih (by omega)
theorem wF{m i:Nat}{f:Nat→AV}(h:m≤i):ghE m f (G0+i)=f (G0+i):=by
 induction m with
 |zero=>rfl
 |succ m ih=>simp only[ghE,upd];rw[if_neg (by omega)];exact ih (by omega)
def resH(P:Program)(st:St):ResultVar→Option (Prop×AV)
 | .tmp t=>some ((ev st.env (.tmp t)).flatB=true,ev st.env (.tmp t))
 | .cell t T=>match tyk P T with
   |some K=>match ev st.env (.tmp t)with
    | .el id k i off=>(loadA K st.heap (.el id k i off)).map fun(p,r)=>(p∧r.flatB=true,r)
    |_=>none
   |none=>none
def resHL(P:Program)(st:St):List ResultVar→Option (Prop×List AV)
 | []=>some (True,[])
 |r::l=>match resH P st r,resHL P st l with
  |some (p,v),some (q,vs)=>some (p∧q,v::vs)
  |_,_=>none
def okG(L:List (Nat×AV)):Nat→Prop
 |0=>True
 |m+1=>mkE L (G0+m)=.ow m∧okG L m
def retH(P:Program)(rs:List ResultVar)(m:Nat)(r:AV)(H':List Cell):Exit→St→Prop
 | .normal,st| .ret,st=>∃L HS,okS HS st.heap HS∧okL HS st L∧HS.map Src.cell=H'∧m≤HS.length∧okG L m∧((match resHL P ⟨mkE L,HS.map Src.cell⟩ rs with
   |some (p,vs)=>p∧packA vs=r
   |none=>False)∨(match resHL P st rs with
   |some (p,vs)=>p∧(packA vs).zone=true∧packA vs=r
   |none=>False))
 |_,_=>False
section
variable{P:Program}{w:World}{M:Nat→Prop}{loc:Nat→Value}
theorem wG{L:List (Nat×AV)}:∀{m i:Nat},okG L m→i<m→mkE L (G0+i)=.ow i
 |m+1,i,h,hi=>by
  by_cases he:i=m
  ·subst he;exact h.1
  ·exact wG h.2 (by omega)
theorem EV{X:Ctx}{st:St}{a:Act}(h:RR X M loc st a w){rv:ResultVar}{p:Prop}{v:AV}(he:resH P st rv=some (p,v))(hp:p):
  ∃x,(resS a.tmps rv).run P w=.ok x w∧RepB w M loc x v∧v.idLt st.heap.length∧v.flatB=true:=by
 cases rv with
 |tmp t=>
  simp only[resH,Option.some.injEq,Prod.mk.injEq]at he
  obtain⟨rfl,rfl⟩:=he
  have hr:Rep w M loc (a.tmps.getD t undef) (ev st.env (.tmp t)):=h.ev (.tmp t)
  exact⟨a.tmps.getD t undef,rfl,hr.repB hp,h.evLt (.tmp t),hp⟩
 |cell c t=>
  simp only[resH]at he
  split at he
  ·rename_i K hK
   split at he
   ·rename_i id k i off hc
    cases hl:loadA K st.heap (.el id k i off)with
    |none=>simp[hl]at he
    |some pr=>
     obtain⟨p',r⟩:=pr
     simp only[hl,Option.map_some,Option.some.injEq,Prod.mk.injEq]at he
     obtain⟨rfl,rfl⟩:=he
     have hr:Rep w M loc (a.tmps.getD c undef) (ev st.env (.tmp c)):=h.ev (.tmp c)
     rw[hc]at hr
     obtain⟨x,h1,h2⟩:=mI (P:=P) (X:=X) (fun id o ho=>h.obj id o ho) hK hr hl hp.1
     obtain⟨g,n,cc,_,hv⟩:=hr
     refine⟨x,?_,h2.repB hp.2,BR (fun id o ho=>h.obj id o ho) hl hp.1,hp.2⟩
     rw[hv]at h1
     simp only[Instr.loadAt,Instr.sureAddr,Sem.run_bind,Sem.run_pure,Result.andThen_ok]at h1
     simp only[resS,hv,asAddr,Sem.run_bind,Sem.run_pure,Result.andThen_ok,h1]
   ·cases he
  ·cases he
theorem mJ{X:Ctx}{st:St}{a:Act}(h:RR X M loc st a w):∀(rs:List ResultVar) (p:Prop) (vs:List AV),resHL P st rs=some (p,vs)→p→
  ∃xs:List Value,(rs.mapM (resS a.tmps)).run P w=.ok xs w∧xs.length=vs.length∧
   (∀(j:Nat) (x:Value) (v:AV),xs[j]? =some x→vs[j]? =some v→RepB w M loc x v)∧∀v∈vs,v.idLt st.heap.length∧v.flatB=true
 | [],p,vs,he,_=>by
   simp only[resHL,Option.some.injEq,Prod.mk.injEq]at he
   obtain⟨-,rfl⟩:=he
   exact⟨[],by simp,rfl,by simp,by simp⟩
 |r::rs,p,vs,he,hp=>by
  simp only[resHL]at he
  split at he
  ·rename_i p1 v1 q1 vs1 h1 h2
   simp only[Option.some.injEq,Prod.mk.injEq]at he
   obtain⟨rfl,rfl⟩:=he
   obtain⟨x,e1,e2,e3⟩:=EV (P:=P) h h1 hp.1
   obtain⟨xs,f1,f2,f3,f4⟩:=mJ h rs q1 vs1 h2 hp.2
   refine⟨x::xs,?_,by simp[f2],fun j y v hy hv=>?_,fun v hv=>?_⟩
   ·rw[List.mapM_cons]
    simp only[Sem.run_bind,e1,Result.andThen_ok,f1,Sem.run_pure]
   ·cases j with
    |zero=>simp at hy hv;subst hy;subst hv;exact e2
    |succ j=>exact f3 j y v (by simpa using hy) (by simpa using hv)
   ·rcases List.mem_cons.1 hv with rfl|hv
    ·exact e3
    ·exact f4 v hv
  ·cases he
structure TopX(X:Ctx)(w:World)(M:Nat→Prop)(loc:Nat→Value)(H:List Cell):Prop where
 w0:X.w0=w
 Z:X.Z=M
 T:X.T=blks H loc
 gh:∀i,i<H.length→X.gh i=loc i
theorem kD{fn:Func}{H:List Cell}{args:List AV}{w:World}{M:Nat→Prop}{loc:Nat→Value}{vs:Array Value}(hn:args.length≤fn.ntmps)(hG:fn.ntmps≤G0)(hM:∀b,M b→b<w.heap.size)(hgl:GlobW w M)(hH:HeapS (blks H loc) M loc H w)(hl:vs.size=args.length)
  (hvs:∀(j:Nat) (x:Value) (e:AV),vs[j]? =some x→args[j]? =some e→Rep w M loc x e∧e.idLt H.length):
  ∃X:Ctx,TopX X w M loc H∧X.n=fn.ntmps∧X.dl=[]∧R X ⟨ghE H.length (argE 0 args),H⟩ {tmps:=vs++Array.replicate (fn.ntmps-vs.size) undef,defers:=[]} w:=by
 let X:Ctx:=⟨w,M,fn.ntmps,blks H loc,loc,⟨hgl,fun p hp hb=>eF hH hb (hgl.1 p hp).1,fun g hg hb=>eF hH hb (hgl.2 g hg).1⟩,[]⟩
 let a0:Act:={tmps:=vs++Array.replicate (fn.ntmps-vs.size) undef,defers:=[]}
 have hrr:RR X M loc ⟨ghE H.length (argE 0 args),H⟩ a0 w:=by
  refine⟨fun s=>?_,hG,by simp[a0,X];omega,rfl,fun id o ho=>(hH.obj id o ho).imp fun b hb=>.inr hb,hH.sep,fun id m hm=>(hH.mobj id m hm).imp fun b hb=>.inr hb,hH.msep,⟨rfl,rfl,rfl,Nat.le_refl _,fun _ _ _=>rfl⟩,fun b hb=>⟨hM b hb,.inl hb⟩,fun b hb=>hb,fun b hb=>hM b hb,hH.one,fun s=>?_⟩
  ·show Rep w M loc (if s<G0 then a0.tmps.getD s undef else X.gh (s-G0)) (ghE H.length (argE 0 args) s)
   by_cases hs:s<G0
   ·rw[if_pos hs,BP hs]
    exact k9 hl hn (fun j x e h1 h2=>(hvs j x e h1 h2).1) s
   ·rw[if_neg hs]
    obtain⟨i,rfl⟩:∃i,s=G0+i:=⟨s-G0,by omega⟩
    by_cases hi:i<H.length
    ·rw[BQ hi,Nat.add_sub_cancel_left]
     exact RepO.rep (e:=.ow i) rfl
    ·rw[wF (by omega),jK (by omega)]
     exact(RepZ.bad _).rep
  ·show(ghE H.length (argE 0 args) s).idLt H.length
   by_cases hs:s<G0
   ·rw[BP hs,gA 0 s args (by omega),List.getD_eq_getElem?_getD,Nat.sub_zero]
    cases hs:args[s]? with
    |none=>trivial
    |some e=>
     have hsl:s<args.length:=(List.getElem?_eq_some_iff.1 hs).1
     exact(hvs s _ e (Array.getElem?_eq_getElem (by omega)) hs).2
   ·obtain⟨i,rfl⟩:∃i,s=G0+i:=⟨s-G0,by omega⟩
    by_cases hi:i<H.length
    ·rw[BQ hi];exact hi
    ·rw[wF (by omega),jK (by omega)];trivial
 exact⟨X,⟨rfl,rfl,rfl,fun _ _=>rfl⟩,rfl,rfl,M,loc,hrr⟩
def PostH(w:World)(M:Nat→Prop)(loc:Nat→Value)(H:List Cell)(r:AV)(H':List Cell)(e:Ending)(w':World):Prop:=
 ∃x M' loc',e=.returned x∧HeapS (fun b=>w.heap.size≤b∨blks H loc b) M' loc' H' w'∧BelowT (blks H loc) w w'∧(∀b,M b→M' b)∧
  (∀b,M' b→b<w'.heap.size∧(M b∨w.heap.size≤b∨blks H loc b))∧(∀id,id<H.length→loc' id=loc id)∧Rep w' M' loc' x r∧r.idLt H'.length∧H.length≤H'.length
theorem dC{X:Ctx}{fn:Func}{w w':World}{M:Nat→Prop}{loc:Nat→Value}{H H':List Cell}{r:AV}{st':St}{a':Act}(t:TopX X w M loc H)(hr:R X st' a' w')(hq:retH P fn.results.toList H.length r H' .ret st'):
  ∃v,(results fn a'.tmps).run P w'=.ok v w'∧PostH w M loc H r H' (.returned v) w':=by
 obtain⟨wx,Zx,n,Tx,gh,gl,dl⟩:=X
 obtain⟨h0,h1,h2,hgh⟩:=t
 obtain rfl:w=wx:=h0.symm
 obtain rfl:M=Zx:=h1.symm
 obtain rfl:blks H loc=Tx:=h2.symm
 obtain⟨L,HS,hS,hL,rfl,hlen,hg,hres⟩:=hq
 obtain⟨M0,loc0,hr0⟩:=hr
 obtain⟨M',loc',hMM,hr'⟩:=wE L HS hS hL hr0
 have fin:∀(v:Value),(results fn a'.tmps).run P w'=.ok v w'→Rep w' M' loc' v r→r.idLt (HS.map Src.cell).length→∃v,(results fn a'.tmps).run P w'=.ok v w'∧(∃x M' loc',Ending.returned v=.returned x∧HeapS (fun b=>w.heap.size≤b∨blks H loc b) M' loc' (HS.map Src.cell) w'∧BelowT (blks H loc) w w'∧(∀b,M b→M' b)∧
  (∀b,M' b→b<w'.heap.size∧(M b∨w.heap.size≤b∨blks H loc b))∧(∀id,id<H.length→loc' id=loc id)∧Rep w' M' loc' x r∧r.idLt (HS.map Src.cell).length∧H.length≤(HS.map Src.cell).length):=by
  intro v hv hrv hrl
  refine⟨v,hv,_,M',loc',rfl,⟨hr'.obj,hr'.sep,hr'.mobj,hr'.msep,hr'.one⟩,hr'.below,hr'.zin,hr'.zone,fun id hid=>?_,hrv,hrl,by simpa using hlen⟩
  have:=hr'.env (G0+id)
  rw[Nat.add_sub_cancel_left,if_neg (by omega)]at this
  have e0:mkE L (G0+id)=.ow id:=wG hg hid
  have e2:Rep w' M' loc' (gh id) (.ow id):=by rw[←e0];exact this
  have e3:gh id=loc' id:=e2
  rw[←e3];exact hgh id hid
 have pack:∀(N:Nat) (M:Nat→Prop) (loc:Nat→Value) (xs:List Value) (rvs:List AV),xs.length=rvs.length→(∀(j:Nat) (x:Value) (v:AV),xs[j]? =some x→rvs[j]? =some v→RepB w' M loc x v)→(∀v∈rvs,v.idLt N∧v.flatB=true)→
   Rep w' M loc (if h:xs.toArray.size=1 then xs.toArray[0]else .tuple xs.toArray) (packA rvs)∧(packA rvs).idLt N:=by
  intro N M loc xs rvs e2 e3 e4
  refine⟨?_,?_⟩
  ·match xs,rvs,e2 with
   | [],[],_=>exact RepZ.rep (.tup #[] [] rfl (by simp))
   | [x],[v],_=>exact(e3 0 x v rfl rfl).rep
   |x::y::xs,v::u::vs,hl=>
    have hne:¬(x::y::xs).toArray.size=1:=by simp
    rw[dif_neg hne]
    exact⟨_,rfl,by simpa using hl,fun j c e hc he=>e3 j c e (by simpa using hc) he⟩
  ·match rvs with
   | []=>exact fun e he=>by cases he
   | [v]=>exact(e4 v (by simp)).1
   |v::u::vs=>
    intro e he id hid
    have:=e4 e he
    rw[AV.idB_ids this.2]at hid
    exact(aT _ _).1 this.1 id hid
 rcases hres with hres|hres
 ·split at hres
  case h_2=>exact hres.elim
  rename_i p rvs h1
  obtain⟨h2,rfl⟩:=hres
  obtain⟨xs,e1,e2,e3,e4⟩:=mJ (P:=P) hr' fn.results.toList p rvs h1 h2
  obtain⟨p1,p2⟩:=pack _ M' loc' xs rvs e2 e3 e4
  refine fin _ ?_ p1 p2
  rw[fN,Array.mapM_eq_mapM_toList]
  simp only[Sem.run_map,Sem.run_bind,e1,Result.andThen_ok,Sem.run_pure]
 ·split at hres
  case h_2=>exact hres.elim
  rename_i p rvs h1
  obtain⟨h2,hz,rfl⟩:=hres
  obtain⟨xs,e1,e2,e3,e4⟩:=mJ (P:=P) hr0 fn.results.toList p rvs h1 h2
  obtain⟨p1,_⟩:=pack _ M0 loc0 xs rvs e2 e3 e4
  refine fin _ ?_ ((p1.repZ hz).mono (fun _ _=>rfl) hMM).rep (bC hz _)
  rw[fN,Array.mapM_eq_mapM_toList]
  simp only[Sem.run_map,Sem.run_bind,e1,Result.andThen_ok,Sem.run_pure]
theorem kE{f:FuncId}{fn:Func}{c:Code}{H H':List Cell}{args:List AV}{r:AV}(hf:P.funcs[f]? =some fn)(hb:fn.body=some c)(hn:args.length≤fn.ntmps)(hG:fn.ntmps≤G0)
  (h:∀X:Ctx,X.n=fn.ntmps→AWP P X c (retH P fn.results.toList H.length r H') ⟨ghE H.length (argE 0 args),H⟩):MeansH P f H args r H':=by
 intro w M loc vs hM hgl hH hl hvs
 refine calls_of_wp hf hb ?_
 obtain⟨X,t,hXn,hd,hrr⟩:=kD hn hG hM hgl hH hl hvs
 refine wp_mono (h X hXn _ w hrr) fun e a' w' ⟨st',hq,hr⟩=>?_
 have hdf:a'.defers=[]:=by obtain⟨_,_,h1⟩:=hr;rw[h1.defers,hd]
 cases e with
 |normal=>exact⟨hdf,dC t hr hq⟩
 |ret=>exact⟨hdf,dC t hr hq⟩
 |exit i=>exact hq.elim
 |goto l=>exact hq.elim
 |panic c=>exact hq.elim
 |outgrown=>exact hq.elim
end
end Go.Ab
namespace Go.Ab
open Go.RowKit
def renB(u:Nat→Nat):AV→AV
 | .ow i=>.ow (u i)
 | .el i k a b=>.el (u i) k a b
 | .wn i k a b=>.wn (u i) k a b
 |e=>e
def ren(u:Nat→Nat):AV→AV
 | .mb g y=>.mb g (ren u y)
 | .fn f a b=>.fn f (a.map (renB u)) (b.map (renB u))
 | .tup es=>.tup (es.map (renB u))
 | .agg es=>.agg (es.map (renB u))
 | .ow i=>.ow (u i)
 | .el i k a b=>.el (u i) k a b
 | .wn i k a b=>.wn (u i) k a b
 |e=>e
def renF(u:Nat→Nat):AV→AV
 | .agg cs=>.agg (cs.map (renB u))
 |e=>renB u e
def renEs(u:Nat→Nat)(es:List AV):List AV:=bif zoneEs es then es else es.map (renF u)
def renCell(u:Nat→Nat):Cell→Cell
 | .row o=>.row ⟨o.E,o.k,renEs u o.es⟩
 |c=>c
def upN(ps:List Nat)(n:Nat)(i:Nat):Nat:=if i<ps.length then ps.getD i 0 else n+(i-ps.length)
def setAll(H:List Cell):List Nat→List Cell→List Cell
 |p::ps,c::cs=>setAll (H.set p c) ps cs
 |_,_=>H
def heapAfter(H:List Cell)(ps:List Nat)(H':List Cell):List Cell:=
 setAll H ps (H'.map (renCell (upN ps H.length)))++(H'.drop ps.length).map (renCell (upN ps H.length))
def okIds(m:Nat)(H:List Cell):Prop:=∀(i:Nat) (o:Ob),H[i]? =some (.row o)→∀e∈o.es.flatMap AV.flat,e.idLt m
section
variable{P:Program}{w w':World}{M:Nat→Prop}{loc:Nat→Value}
theorem yW{u:Nat→Nat}{e:AV}(h:e.zone=true):renB u e=e:=by
 cases e<;>first|rfl|simp[AV.zone]at h
theorem oM(u:Nat→Nat)(e:AV):(renF u e).flat=e.flat.map (renB u):=by
 cases e<;>rfl
theorem eH(u:Nat→Nat)(es:List AV):(renEs u es).flatMap AV.flat=(es.flatMap AV.flat).map (renB u):=by
 unfold renEs
 cases hz:zoneEs es with
 |true=>
  simp only[cond_true]
  symm
  calc (es.flatMap AV.flat).map (renB u)=(es.flatMap AV.flat).map id:=List.map_congr_left fun e he=>by
        obtain⟨j,hj,rfl⟩:=List.getElem_of_mem he
        exact yW (dP hz (List.getElem?_eq_getElem hj))
   _=es.flatMap AV.flat:=List.map_id _
 |false=>
  simp only[cond_false]
  induction es with
  |nil=>rfl
  |cons e es ih=>
   have:∀l:List AV,(l.map (renF u)).flatMap AV.flat=(l.flatMap AV.flat).map (renB u):=by
    intro l
    induction l with
    |nil=>rfl
    |cons a l ih=>simp only[List.map_cons,List.flatMap_cons,List.map_append,oM,ih]
   exact this _
theorem eX(u:Nat→Nat)(es:List AV):(renEs u es).length=es.length:=by
 unfold renEs;cases zoneEs es<;>simp
theorem iS{u:Nat→Nat}{es:List AV}{k:Nat}:(∀e∈renEs u es,e.flat.length=k)↔∀e∈es,e.flat.length=k:=by
 unfold renEs
 cases zoneEs es with
 |true=>rfl
 |false=>
  simp only[cond_false,List.mem_map,forall_exists_index,and_imp,forall_apply_eq_imp_iff₂,oM,List.length_map]
theorem RepO.up{locL locU:Nat→Value}{n:Nat}{u:Nat→Nat}(hl:∀i,i<n→locU (u i)=locL i){x:Value}{e:AV}(hi:e.idLt n):RepO locL x e↔RepO locU x (renB u e):=by
 cases e with
 |ow i=>simp only[RepO,renB];rw[hl i hi]
 |el i k a b=>simp only[RepO,renB];rw[hl i hi]
 |wn i k a b=>simp only[RepO,renB];rw[hl i hi]
 |_=>exact Iff.rfl
theorem RepB.up{locL locU:Nat→Value}{n:Nat}{u:Nat→Nat}(hl:∀i,i<n→locU (u i)=locL i){x:Value}{e:AV}(hi:∀id∈e.idB,id<n):RepB w M locL x e↔RepB w M locU x (renB u e):=by
 have h1:RepZ w M x e↔RepZ w M x (renB u e):=by
  cases e with
  |ow i=>exact⟨fun h=>(h.no_ow).elim,fun h=>(h.no_ow).elim⟩
  |el i k a b=>exact⟨fun h=>(h.no_el).elim,fun h=>(h.no_el).elim⟩
  |wn i k a b=>exact⟨fun h=>(by cases h),fun h=>(by cases h)⟩
  |_=>exact Iff.rfl
 unfold RepB
 rw[h1]
 by_cases hf:e.flatB=true
 ·rw[RepO.up hl (mK hi hf)]
 ·cases e<;>simp[AV.flatB]at hf<;>exact Iff.rfl
theorem sA{u:Nat→Nat}{n m:Nat}(hu:∀i,i<n→u i<m){e:AV}(hi:∀id∈e.idB,id<n):∀id∈(renB u e).idB,id<m:=by
 cases e<;>simp[renB,AV.idB]at* <;>exact hu _ hi
theorem RepC.up{locL locU:Nat→Value}{n m:Nat}{u:Nat→Nat}(hl:∀i,i<n→locU (u i)=locL i)(hu:∀i,i<n→u i<m){x:Value}{e:AV}(h:RepC w M locL n x e):RepC w M locU m x (renB u e):=by
 have hi:∀id∈e.idB,id<n:=by rw[AV.idB_ids h.2.2];exact(aT n e).1 h.2.1
 have hf:(renB u e).flatB=true:=by have:=h.2.2;cases e<;>first|rfl|exact this|cases this
 exact⟨(RepB.up hl hi).1 h.1,mK (sA hu hi) hf,hf⟩
theorem RepC.down{locL locU:Nat→Value}{n m:Nat}{u:Nat→Nat}(hl:∀i,i<n→locU (u i)=locL i){x:Value}{e:AV}(h:RepC w M locU m x (renB u e))(hi:e.idLt n)(hf:e.flatB=true):RepC w M locL n x e:=
 ⟨(RepB.up hl (by rw[AV.idB_ids hf];exact(aT n e).1 hi)).2 h.1,hi,hf⟩
theorem Rep.up{locL locU:Nat→Value}{n:Nat}{u:Nat→Nat}(hl:∀i,i<n→locU (u i)=locL i){x:Value}{e:AV}(hi:e.idLt n):Rep w M locL x e↔Rep w M locU x (ren u e):=by
 have lst:∀(cs:Array Value) (es:List AV),(∀e∈es,∀id∈e.idB,id<n)→((∀(j:Nat) (c:Value) (e:AV),cs[j]? =some c→es[j]? =some e→RepB w M locL c e)↔∀(j:Nat) (c:Value) (e:AV),cs[j]? =some c→(es.map (renB u))[j]? =some e→RepB w M locU c e):=by
  intro cs es hb
  refine⟨fun h j c e hc he=>?_,fun h j c e hc he=>?_⟩
  ·rw[List.getElem?_map,Option.map_eq_some_iff]at he
   obtain⟨d,hd,rfl⟩:=he
   exact(RepB.up hl (hb d (List.mem_of_getElem? hd))).1 (h j c d hc hd)
  ·exact(RepB.up hl (hb e (List.mem_of_getElem? he))).2 (h j c _ hc (by rw[List.getElem?_map,he];rfl))
 induction e using AV.zone.induct with
 |case1 id=>exact RepO.up hl (e:=.ow id) hi
 |case2 a b c d=>exact RepO.up hl (e:=.el a b c d) hi
 |case3 a b c d=>exact RepO.up hl (e:=.wn a b c d) hi
 |case4 f first cap=>
  have h1:=fun fs=>lst fs first (fun e he=>hi e (List.mem_append_left _ he))
  have h2:=fun fs=>lst fs cap (fun e he=>hi e (List.mem_append_right _ he))
  refine⟨fun⟨fs,cs,e1,e2,e3,e4,e5⟩=>⟨fs,cs,e1,by rw[List.length_map];exact e2,by rw[List.length_map];exact e3,(h1 fs).1 e4,(h2 cs).1 e5⟩,
   fun⟨fs,cs,e1,e2,e3,e4,e5⟩=>⟨fs,cs,e1,by rw[List.length_map]at e2;exact e2,by rw[List.length_map]at e3;exact e3,(h1 fs).2 e4,(h2 cs).2 e5⟩⟩
 |case5 g y ih=>
  have:=ih hi
  exact⟨fun h=>⟨h.1,fun hg=>this.1 (h.2 hg)⟩,fun h=>⟨h.1,fun hg=>this.2 (h.2 hg)⟩⟩
 |case6 es=>
  have h1:=fun fs=>lst fs es hi
  exact⟨fun⟨cs,e1,e2,e3⟩=>⟨cs,e1,by rw[List.length_map];exact e2,(h1 cs).1 e3⟩,fun⟨cs,e1,e2,e3⟩=>⟨cs,e1,by rw[List.length_map]at e2;exact e2,(h1 cs).2 e3⟩⟩
 |case7 es=>
  have h1:=fun fs=>lst fs es hi
  exact⟨fun⟨cs,e1,e2,e3⟩=>⟨cs,e1,by rw[List.length_map];exact e2,(h1 cs).1 e3⟩,fun⟨cs,e1,e2,e3⟩=>⟨cs,e1,by rw[List.length_map]at e2;exact e2,(h1 cs).2 e3⟩⟩
 |case8 e h1 h2 h3 h4 h5 h6 h7=>
  cases e with
  |ow id=>exact(h1 _ rfl).elim
  |el a b c d=>exact(h2 _ _ _ _ rfl).elim
  |wn a b c d=>exact(h3 _ _ _ _ rfl).elim
  |fn a b c=>exact(h4 _ _ _ rfl).elim
  |mb g y=>exact(h5 _ _ rfl).elim
  |tup es=>exact(h6 _ rfl).elim
  |agg es=>exact(h7 _ rfl).elim
  |_=>exact Iff.rfl
theorem pS{n m:Nat}{u:Nat→Nat}(hu:∀i,i<n→u i<m){e:AV}(hi:e.idLt n):(ren u e).idLt m:=by
 have lst:∀(es:List AV),(∀e∈es,∀id∈e.idB,id<n)→∀e∈es.map (renB u),∀id∈e.idB,id<m:=by
  intro es hb e he
  obtain⟨d,hd,rfl⟩:=List.mem_map.1 he
  exact sA hu (hb d hd)
 induction e using AV.zone.induct with
 |case1 id=>exact hu _ hi
 |case2 a b c d=>exact hu _ hi
 |case3 a b c d=>exact hu _ hi
 |case4 f first cap=>
  intro e he
  rw[←List.map_append]at he
  exact lst _ hi e he
 |case5 g y ih=>exact ih hi
 |case6 es=>exact lst es hi
 |case7 es=>exact lst es hi
 |case8 e h1 h2 h3 h4 h5 h6 h7=>
  cases e with
  |ow id=>exact(h1 _ rfl).elim
  |el a b c d=>exact(h2 _ _ _ _ rfl).elim
  |wn a b c d=>exact(h3 _ _ _ _ rfl).elim
  |fn a b c=>exact(h4 _ _ _ rfl).elim
  |mb g y=>exact(h5 _ _ rfl).elim
  |tup es=>exact(h6 _ rfl).elim
  |agg es=>exact(h7 _ rfl).elim
  |_=>trivial
theorem cH:∀(H:List Cell) (ps:List Nat) (cs:List Cell),(setAll H ps cs).length=H.length
 |H,[],_=>by simp[setAll]
 |H,_::_,[]=>by simp[setAll]
 |H,p::ps,c::cs=>by simp only[setAll];rw[cH];simp
theorem fP:∀(H:List Cell) (ps:List Nat) (cs:List Cell) (i:Nat),i∉ps→(setAll H ps cs)[i]? =H[i]?
 |H,[],_,_,_=>by simp[setAll]
 |H,_::_,[],_,_=>by simp[setAll]
 |H,p::ps,c::cs,i,h=>by
  simp only[List.mem_cons,not_or]at h
  simp only[setAll]
  rw[fP _ ps cs i h.2,List.getElem?_set_ne (fun e=>h.1 e.symm)]
theorem oO:∀(H:List Cell) (ps:List Nat) (cs:List Cell) (j p:Nat) (c:Cell),ps.Nodup→ps[j]? =some p→cs[j]? =some c→p<H.length→(setAll H ps cs)[p]? =some c
 |H,[],_,j,p,c,_,h,_,_=>by simp at h
 |H,_::_,[],j,p,c,_,_,h,_=>by simp at h
 |H,q::ps,d::cs,0,p,c,hn,h1,h2,hp=>by
  simp at h1 h2
  subst h1;subst h2
  simp only[setAll]
  rw[fP _ ps cs q (List.nodup_cons.1 hn).1,List.getElem?_set_self hp]
 |H,q::ps,d::cs,j+1,p,c,hn,h1,h2,hp=>by
  simp only[setAll]
  exact oO _ ps cs j p c (List.nodup_cons.1 hn).2 (by simpa using h1) (by simpa using h2) (by simpa using hp)
end
end Go.Ab
namespace Go.Ab
open Go.RowKit
section
variable{P:Program}{w w':World}{M:Nat→Prop}{loc:Nat→Value}
theorem bV{ps:List Nat}{n i p:Nat}(h:ps[i]? =some p):upN ps n i=p:=by
 have hi:=(List.getElem?_eq_some_iff.1 h).1
 unfold upN
 rw[if_pos hi,List.getD_eq_getElem?_getD,h];rfl
theorem dO{ps:List Nat}{n i:Nat}(h:ps.length≤i):upN ps n i=n+(i-ps.length):=by
 unfold upN;rw[if_neg (by omega)]
theorem yX{Hc:List Cell}{ps:List Nat}{H':List Cell}(hnd:ps.Nodup)(hlt:∀c∈ps,c<Hc.length)(hlen:ps.length≤H'.length){k:Nat}{c:Cell}(hk:H'[k]? =some c):
  (heapAfter Hc ps H')[upN ps Hc.length k]? =some (renCell (upN ps Hc.length) c):=by
 unfold heapAfter
 by_cases h:k<ps.length
 ·have hp:ps[k]? =some ps[k]:=List.getElem?_eq_getElem h
  have hpl:=hlt ps[k] (List.getElem_mem h)
  rw[bV hp,List.getElem?_append_left (by rw[cH];exact hpl)]
  exact oO _ _ _ k _ _ hnd hp (by rw[List.getElem?_map,hk];rfl) hpl
 ·rw[dO (by omega),List.getElem?_append_right (by rw[cH];omega),cH,List.getElem?_map,List.getElem?_drop]
  have:ps.length+(Hc.length+(k-ps.length)-Hc.length)=k:=by omega
  rw[this,hk];rfl
theorem fA{Hc:List Cell}{ps:List Nat}{H':List Cell}(hnd:ps.Nodup)(hlt:∀c∈ps,c<Hc.length)(hlen:ps.length≤H'.length){id:Nat}{c:Cell}(h:(heapAfter Hc ps H')[id]? =some c):
  (∃k c0,id=upN ps Hc.length k∧H'[k]? =some c0∧c=renCell (upN ps Hc.length) c0)∨(id<Hc.length∧id∉ps∧Hc[id]? =some c):=by
 by_cases hp:id∈ps
 ·left
  obtain⟨k,hk,rfl⟩:=List.getElem_of_mem hp
  have hk':k<H'.length:=by omega
  have:=yX hnd hlt hlen (List.getElem?_eq_getElem hk')
  rw[bV (List.getElem?_eq_getElem hk)]at this
  rw[this]at h
  exact⟨k,_,(bV (List.getElem?_eq_getElem hk)).symm,List.getElem?_eq_getElem hk',(Option.some.inj h).symm⟩
 ·by_cases hid:id<Hc.length
  ·right
   refine⟨hid,hp,?_⟩
   unfold heapAfter at h
   rw[List.getElem?_append_left (by rw[cH];exact hid),fP _ _ _ _ hp]at h
   exact h
  ·left
   have h0:=h
   unfold heapAfter at h
   rw[List.getElem?_append_right (by rw[cH];omega),cH,List.getElem?_map,List.getElem?_drop,Option.map_eq_some_iff]at h
   obtain⟨c0,h1,h2⟩:=h
   refine⟨ps.length+(id-Hc.length),c0,?_,h1,h2.symm⟩
   rw[dO (by omega)];omega
theorem dL(Hc:List Cell)(ps:List Nat)(H':List Cell):(heapAfter Hc ps H').length=Hc.length+(H'.length-ps.length):=by
 unfold heapAfter;simp[cH]
theorem BS{Hc:List Cell}{ps:List Nat}{H':List Cell}(hlt:∀c∈ps,c<Hc.length)(hlen:ps.length≤H'.length){k:Nat}(hk:k<H'.length):upN ps Hc.length k<(heapAfter Hc ps H').length:=by
 rw[dL]
 by_cases h:k<ps.length
 ·rw[bV (List.getElem?_eq_getElem h)]
  have:=hlt _ (List.getElem_mem h)
  omega
 ·rw[dO (by omega)];omega
theorem lJ{ps:List Nat}{n:Nat}(hnd:ps.Nodup)(hlt:∀c∈ps,c<n){i j:Nat}(h:upN ps n i=upN ps n j):i=j:=by
 by_cases hi:i<ps.length<;>by_cases hj:j<ps.length
 ·rw[bV (List.getElem?_eq_getElem hi),bV (List.getElem?_eq_getElem hj)]at h
  exact(List.getElem_inj hnd).1 h
 ·rw[bV (List.getElem?_eq_getElem hi),dO (by omega)]at h
  have:=hlt _ (List.getElem_mem hi);omega
 ·rw[dO (by omega),bV (List.getElem?_eq_getElem hj)]at h
  have:=hlt _ (List.getElem_mem hj);omega
 ·rw[dO (by omega),dO (by omega)]at h;omega
theorem ObjOK.frame{own own':Nat→Prop}{M':Nat→Prop}{loc':Nat→Value}{n n':Nat}{sv:Value}{o:Ob}(h:ObjOK own w M loc n sv o)(hs:∀g,sv.ownBlock=some g→w'.heap[g]? =w.heap[g]?)(hb:∀b,M b→w'.heap[b]? =w.heap[b]?)(hM:∀b,M b→M' b)
  (hl:∀id,id<n→loc' id=loc id) (hn:n≤n') (ha:∀g,sv.ownBlock=some g→¬M' g) (ho:∀b,own b→own' b):ObjOK own' w' M' loc' n' sv o:=by
 obtain⟨xs,hown,h2⟩:=h.own
 refine⟨⟨xs,⟨hown.1,?_⟩,fun j e he=>?_⟩,h.flat,ha,fun g hg=>ho g (h.mine g hg)⟩
 ·rcases hown.2 with h1|⟨g,cap,cur,hn,hbg,hheap,hr⟩
  ·exact .inl h1
  ·exact .inr ⟨g,cap,cur,hn,hbg,by rw[hs g (by rw[hn];rfl)];exact hheap,hr⟩
 ·obtain⟨x,hx,hr⟩:=h2 j e he
  exact⟨x,hx,hr.mono hb hM hl hn⟩
theorem oP{C:(Ending→World→Prop)→Prop}(hC:∀R R':Ending→World→Prop,(∀e w',R e w'→R' e w')→C R→C R'){X:Ctx}{st:St}{a:Act}(h:RR X M loc st a w){E:Ending→Value→Prop}{H:List Cell}{args:List AV}{S:AV→List Cell→Prop}{vs:Array Value}
  (hm:∀loc:Nat→Value,HeapS (blks H loc) M loc H w→(∀(j:Nat) (x:Value) (e:AV),vs[j]? =some x→args[j]? =some e→Rep w M loc x e∧e.idLt H.length)→
   C fun e w'=>∃r H',S r H'∧∃x M' loc',E e x∧HeapS (fun b=>w.heap.size≤b∨blks H loc b) M' loc' H' w'∧BelowT (blks H loc) w w'∧(∀b,M b→M' b)∧
     (∀b,M' b→b<w'.heap.size∧(M b∨w.heap.size≤b∨blks H loc b))∧(∀id,id<H.length→loc' id=loc id)∧Rep w' M' loc' x r∧r.idLt H'.length∧H.length≤H'.length)
  (ps:List Nat) (hnd:ps.Nodup) (hlen:H.length=ps.length) (hlt:∀c∈ps,c<st.heap.length)
  (hcell:∀i,i<ps.length→st.heap[upN ps st.heap.length i]? =H[i]?.map (renCell (upN ps st.heap.length))) (hids:okIds H.length H)
  (hargs:∀(j:Nat) (x:Value) (e:AV),vs[j]? =some x→args[j]? =some e→Rep w M loc x (ren (upN ps st.heap.length) e)∧e.idLt H.length):
  C fun e w'=>∃r H',S r H'∧∃x M' loc',E e x∧RR X M' loc' ⟨st.env,heapAfter st.heap ps H'⟩ a w'∧Rep w' M' loc' x (ren (upN ps st.heap.length) r)∧(ren (upN ps st.heap.length) r).idLt (heapAfter st.heap ps H').length:=by
 let u:=upN ps st.heap.length
 let locL:Nat→Value:=fun i=>loc (u i)
 have hulN:∀i,i<ps.length→u i<st.heap.length:=fun i hi=>by
  show upN ps st.heap.length i<_
  rw[bV (List.getElem?_eq_getElem hi)];exact hlt _ (List.getElem_mem hi)
 have hup:∀i (c:Cell),H[i]? =some c→st.heap[u i]? =some (renCell u c):=fun i c hc=>by
  have hi:=(List.getElem?_eq_some_iff.1 hc).1
  rw[hcell i (by omega),hc];rfl
 have hrow:∀i o,H[i]? =some (.row o)→st.heap[u i]? =some (.row ⟨o.E,o.k,renEs u o.es⟩):=fun i o hc=>hup i _ hc
 have hmap:∀i m,H[i]? =some (.map m)→st.heap[u i]? =some (.map m):=fun i m hc=>hup i _ hc
 have hblk:∀b,blks H locL b→X.own b∧b<w.heap.size∧¬M b:=by
  rintro b (⟨i,o,hi,hb⟩|⟨i,m,hi,hb⟩)
  ·have hob:=h.obj _ _ (hrow i o hi)
   obtain⟨xs,hown,_⟩:=hob.own
   exact⟨hob.mine b hb,(hown.lt b hb).2,hob.away b hb⟩
  ·obtain⟨g,es,c,h1,h2,h3,h4,_⟩:=(h.mobj _ _ (hmap i m hi)).own
   have hb':loc (u i)=.map (some b):=hb
   rw[hb']at h1
   cases h1
   exact⟨h2,(Array.getElem?_eq_some_iff.1 h4).1,h3⟩
 have hHS:HeapS (blks H locL) M locL H w:=by
  refine⟨fun i o hi=>?_,fun i j oi oj hij hi hj=>?_,fun i m hi=>?_,fun i j mi mj hij hi hj=>?_,fun i hi=>h.one _ (hulN i (by omega))⟩
  ·have hob:=h.obj _ _ (hrow i o hi)
   obtain⟨xs,hown,hr⟩:=hob.own
   refine⟨⟨xs,by rw[eX]at hown;exact hown,fun j e he=>?_⟩,iS.1 hob.flat,hob.away,fun g hg=>.inl ⟨i,o,hi,hg⟩⟩
   have he':((renEs u o.es).flatMap AV.flat)[j]? =some (renB u e):=by rw[eH,List.getElem?_map,he];rfl
   obtain⟨x,hx,hrc⟩:=hr j _ he'
   exact⟨x,hx,hrc.down (fun _ _=>rfl) (hids i o hi e (List.mem_of_getElem? he)) (by have:=hrc.2.2;cases e<;>first|rfl|exact this|cases this)⟩
  ·have hne:u i≠u j:=fun e=>hij (lJ hnd hlt e)
   exact h.sep _ _ _ _ hne (hrow i oi hi) (hrow j oj hj)
  ·have hmo:=h.mobj _ _ (hmap i m hi)
   obtain⟨g,es,c,h1,h2,h3⟩:=hmo.own
   exact⟨g,es,c,h1,.inr ⟨i,m,hi,h1⟩,h3⟩
  ·have hne:u i≠u j:=fun e=>hij (lJ hnd hlt e)
   exact h.msep _ _ _ _ hne (hmap i mi hi) (hmap j mj hj)
 refine hC _ _ (fun e w' hh=>?_) (hm locL hHS (fun j x e hx he=>?_))
 rotate_left
 ·obtain⟨h1,h2⟩:=hargs j x e hx he
  exact⟨(Rep.up (n:=H.length) (u:=u) (fun _ _=>rfl) h2).2 h1,h2⟩
 obtain⟨r,H',hSr,x,M',loc',hE,hS',hbel,hMM,hzone,hloc,hr,hrl,hlen'⟩:=hh
 have hps:ps.length≤H'.length:=by omega
 let locU:Nat→Value:=fun id=>if id<st.heap.length then loc id else loc' (ps.length+(id-st.heap.length))
 have hlU:∀k,k<H'.length→locU (u k)=loc' k:=by
  intro k hk
  by_cases hkp:k<ps.length
  ·have:=hulN k hkp
   simp only[locU,if_pos this]
   exact(hloc k (by omega)).symm
  ·have e1:u k=st.heap.length+(k-ps.length):=dO (by omega)
   simp only[locU]
   rw[if_neg (by omega),e1]
   congr 1;omega
 have hlO:∀id,id<st.heap.length→locU id=loc id:=fun id hid=>if_pos hid
 have hbk:∀b,M b→w'.heap[b]? =w.heap[b]? :=fun b hb=>hbel.block b (h.zone b hb).1 (fun hk=>(hblk b hk).2.2 hb)
 have hlt':st.heap.length≤(heapAfter st.heap ps H').length:=by rw[dL];omega
 have hu':∀k,k<H'.length→u k<(heapAfter st.heap ps H').length:=fun k hk=>BS hlt hps hk
 have hown':∀b,w.heap.size≤b∨blks H locL b→X.own b:=fun b hb=>hb.elim (fun hb=>.inl (Nat.le_trans h.below.size hb)) (fun hb=>(hblk b hb).1)
 have hfr:∀id o,id∉ps→st.heap[id]? =some (.row o)→∀g,(loc id).ownBlock=some g→g<w.heap.size∧¬blks H locL g:=by
  intro id o hid ho g hg
  have hob:=h.obj id o ho
  obtain⟨xs,hown,_⟩:=hob.own
  refine⟨(hown.lt g hg).2,?_⟩
  rintro(⟨i,oi,hi,hb⟩|⟨i,m,hi,hb⟩)
  ·have hip:i<ps.length:=by have:=(List.getElem?_eq_some_iff.1 hi).1;omega
   have hne:id≠u i:=by
    rintro rfl
    exact hid (by rw[show u i=ps[i] from bV (List.getElem?_eq_getElem hip)];exact List.getElem_mem hip)
   rcases h.sep id (u i) _ _ hne ho (hrow i oi hi)with h1|h1
   ·rw[hg]at h1;cases h1
   ·exact h1 (by rw[hg];exact hb.symm)
  ·obtain⟨g2,es,c,h1,h2,h3,h4,_⟩:=(h.mobj _ _ (hmap i m hi)).own
   have hb':loc (u i)=.map (some g):=hb
   rw[hb']at h1
   cases h1
   obtain⟨cs,t,fr,hcells⟩:=bG hown g hg
   rw[h4]at hcells;cases hcells
 have hfm:∀id m,id∉ps→st.heap[id]? =some (.map m)→∀g,loc id=.map (some g)→g<w.heap.size∧¬blks H locL g:=by
  intro id m hid ho g hg
  obtain⟨g2,es,c,h1,h2,h3,h4,_⟩:=(h.mobj id m ho).own
  rw[hg]at h1
  cases h1
  refine⟨(Array.getElem?_eq_some_iff.1 h4).1,?_⟩
  rintro(⟨i,oi,hi,hb⟩|⟨i,m2,hi,hb⟩)
  ·have hob:=h.obj _ _ (hrow i oi hi)
   obtain⟨xs,hown,_⟩:=hob.own
   obtain⟨cs,t,fr,hcells⟩:=bG hown g hb
   rw[h4]at hcells;cases hcells
  ·have hip:i<ps.length:=by have:=(List.getElem?_eq_some_iff.1 hi).1;omega
   have hne:id≠u i:=by
    rintro rfl
    exact hid (by rw[show u i=ps[i] from bV (List.getElem?_eq_getElem hip)];exact List.getElem_mem hip)
   exact h.msep id (u i) _ _ hne ho (hmap i m2 hi) (by rw[hg];exact hb.symm)
 have hnotM:∀g,g<w.heap.size→¬blks H locL g→¬M g→¬M' g:=by
  intro g h1 h2 h3 h4
  rcases(hzone g h4).2 with h5|h5|h5
  ·exact h3 h5
  ·omega
  ·exact h2 h5
 have inv:∀id o,(heapAfter st.heap ps H')[id]? =some (.row o)→(∃k o0,k<H'.length∧id=u k∧H'[k]? =some (.row o0)∧o=⟨o0.E,o0.k,renEs u o0.es⟩)∨(id<st.heap.length∧id∉ps∧st.heap[id]? =some (.row o)):=by
  intro id o ho
  rcases fA hnd hlt hps ho with⟨k,c0,h1,h2,h3⟩|h1
  ·left
   cases c0 with
   |row o0=>simp only[renCell,Cell.row.injEq]at h3;exact⟨k,o0,(List.getElem?_eq_some_iff.1 h2).1,h1,h2,h3⟩
   |dead=>cases h3
   |map m=>cases h3
  ·exact .inr h1
 have invm:∀id m,(heapAfter st.heap ps H')[id]? =some (.map m)→(∃k,k<H'.length∧id=u k∧H'[k]? =some (.map m))∨(id<st.heap.length∧id∉ps∧st.heap[id]? =some (.map m)):=by
  intro id o ho
  rcases fA hnd hlt hps ho with⟨k,c0,h1,h2,h3⟩|h1
  ·left
   cases c0 with
   |row o0=>cases h3
   |dead=>cases h3
   |map m=>simp only[renCell,Cell.map.injEq]at h3;subst h3;exact⟨k,(List.getElem?_eq_some_iff.1 h2).1,h1,h2⟩
  ·exact .inr h1
 have apart:∀k o0 g,H'[k]? =some (.row o0)→(loc' k).ownBlock=some g→w.heap.size≤g∨blks H locL g:=fun k o0 g hk hg=>(hS'.obj k o0 hk).mine g hg
 refine⟨r,H',hSr,x,M',locU,hE,?_,(Rep.up hlU hrl).1 hr,pS hu' hrl⟩
 refine⟨fun s=>Rep.mono (n:=st.heap.length) hbk hMM hlO (h.env s) (h.ids s),h.nle,h.size,h.defers,fun id o ho=>?_,fun i j oi oj hij hi hj=>?_,fun id m hm'=>?_,fun i j mi mj hij hi hj=>?_,?_,fun b hb=>?_,fun b hb=>hMM b (h.zin b hb),h.zlt,fun id hid=>?_,fun s=>AV.idLt_up hlt' (h.ids s)⟩
 ·rcases inv id o ho with⟨k,o0,hk,rfl,h2,rfl⟩|⟨h1,h2,h3⟩
  ·have hob:=hS'.obj k o0 h2
   show ObjOK X.own w' M' locU (heapAfter st.heap ps H').length (locU (u k)) _
   rw[hlU k hk]
   obtain⟨xs,hown,hrc⟩:=hob.own
   refine⟨⟨xs,by rw[eX];exact hown,fun j e he=>?_⟩,iS.2 hob.flat,hob.away,fun g hg=>hown' g (hob.mine g hg)⟩
   simp only[eH,List.getElem?_map,Option.map_eq_some_iff]at he
   obtain⟨d,hd,rfl⟩:=he
   obtain⟨y,hy,hyr⟩:=hrc j d hd
   exact⟨y,hy,hyr.up hlU hu'⟩
  ·show ObjOK X.own w' M' locU (heapAfter st.heap ps H').length (locU id) o
   rw[hlO id h1]
   have hf:=hfr id o h2 h3
   have hob:=h.obj id o h3
   exact hob.frame (fun g hg=>hbel.block g (hf g hg).1 (hf g hg).2) hbk hMM hlO hlt' (fun g hg=>hnotM g (hf g hg).1 (hf g hg).2 (hob.away g hg)) (fun _ hb=>hb)
 ·show(locU i).ownBlock=none∨(locU i).ownBlock≠(locU j).ownBlock
  rcases inv i oi hi with⟨k,o0,hk,rfl,h2,rfl⟩|⟨h1,h2,h3⟩
  ·rw[hlU k hk]
   rcases inv j oj hj with⟨q,o1,hq,rfl,g2,rfl⟩|⟨g1,g2,g3⟩
   ·rw[hlU q hq]
    exact hS'.sep k q _ _ (fun e=>hij (by rw[e])) h2 g2
   ·rw[hlO j g1]
    cases hb:(loc' k).ownBlock with
    |none=>exact .inl rfl
    |some b=>
     right
     intro e
     have hf:=hfr j oj g2 g3 b e.symm
     rcases apart k o0 b h2 hb with h5|h5
     ·omega
     ·exact hf.2 h5
  ·rw[hlO i h1]
   rcases inv j oj hj with⟨q,o1,hq,rfl,g2,rfl⟩|⟨g1,g2,g3⟩
   ·rw[hlU q hq]
    cases hb:(loc i).ownBlock with
    |none=>exact .inl rfl
    |some b=>
     right
     intro e
     have hf:=hfr i oi h2 h3 b hb
     rcases apart q o1 b g2 e.symm with h5|h5
     ·omega
     ·exact hf.2 h5
   ·rw[hlO j g1]
    exact h.sep i j _ _ hij h3 g3
 ·show MapOK X.own w' M' (locU id) m
  rcases invm id m hm' with⟨k,hk,rfl,h2⟩|⟨h1,h2,h3⟩
  ·rw[hlU k hk]
   exact(hS'.mobj k m h2).imp hown'
  ·rw[hlO id h1]
   obtain⟨g,es,c,q1,q2,q3,q4,q5⟩:=(h.mobj id m h3).own
   have hf:=hfm id m h2 h3 g q1
   exact⟨g,es,c,q1,q2,hnotM g hf.1 hf.2 q3,by rw[hbel.block g hf.1 hf.2];exact q4,q5.mono hbk hMM⟩
 ·show locU i≠locU j
  rcases invm i mi hi with⟨k,hk,rfl,h2⟩|⟨h1,h2,h3⟩
  ·rw[hlU k hk]
   rcases invm j mj hj with⟨q,hq,rfl,g2⟩|⟨g1,g2,g3⟩
   ·rw[hlU q hq]
    exact hS'.msep k q _ _ (fun e=>hij (by rw[e])) h2 g2
   ·rw[hlO j g1]
    intro e
    obtain⟨g,es,c,q1,q2,_⟩:=(hS'.mobj k mi h2).own
    have hf:=hfm j mj g2 g3 g (by rw[←e];exact q1)
    rcases q2 with q2|q2
    ·omega
    ·exact hf.2 q2
  ·rw[hlO i h1]
   rcases invm j mj hj with⟨q,hq,rfl,g2⟩|⟨g1,g2,g3⟩
   ·rw[hlU q hq]
    intro e
    obtain⟨g,es,c,q1,q2,_⟩:=(hS'.mobj q mj g2).own
    have hf:=hfm i mi h2 h3 g (by rw[e];exact q1)
    rcases q2 with q2|q2
    ·omega
    ·exact hf.2 q2
   ·rw[hlO j g1]
    exact h.msep i j _ _ hij h3 g3
 ·exact⟨hbel.os.trans h.below.os,hbel.tape.trans h.below.tape,hbel.output.trans h.below.output,Nat.le_trans h.below.size hbel.size,fun k hk hT=>by
   rw[hbel.block k (Nat.lt_of_lt_of_le hk h.below.size) (fun hb=>by
    rcases(hblk k hb).1 with h1|h1
    ·omega
    ·exact hT h1)]
   exact h.below.block k hk hT⟩
 ·refine⟨(hzone b hb).1,?_⟩
  rcases(hzone b hb).2 with h1|h1
  ·exact(h.zone b h1).2
  ·exact .inr (hown' b h1)
 ·show(locU id).oneCell'=true
  by_cases hi:id<st.heap.length
  ·rw[hlO id hi];exact h.one id hi
  ·have hid':id<st.heap.length+(H'.length-ps.length):=by rw[←dL];exact hid
   simp only[locU,if_neg hi]
   exact hS'.one _ (by omega)
theorem jL{C:(Ending→World→Prop)→Prop}(hC:∀R R':Ending→World→Prop,(∀e w',R e w'→R' e w')→C R→C R'){X:Ctx}{st:St}{a:Act}(h:RR X M loc st a w){E:Ending→Value→Prop}{H:List Cell}{args:List AV}{r:AV}{H':List Cell}{vs:Array Value}
  (hm:∀loc:Nat→Value,HeapS (blks H loc) M loc H w→(∀(j:Nat) (x:Value) (e:AV),vs[j]? =some x→args[j]? =some e→Rep w M loc x e∧e.idLt H.length)→
   C fun e w'=>∃x M' loc',E e x∧HeapS (fun b=>w.heap.size≤b∨blks H loc b) M' loc' H' w'∧BelowT (blks H loc) w w'∧(∀b,M b→M' b)∧
     (∀b,M' b→b<w'.heap.size∧(M b∨w.heap.size≤b∨blks H loc b))∧(∀id,id<H.length→loc' id=loc id)∧Rep w' M' loc' x r∧r.idLt H'.length∧H.length≤H'.length)
  (ps:List Nat) (hnd:ps.Nodup) (hlen:H.length=ps.length) (hlt:∀c∈ps,c<st.heap.length)
  (hcell:∀i,i<ps.length→st.heap[upN ps st.heap.length i]? =H[i]?.map (renCell (upN ps st.heap.length))) (hids:okIds H.length H)
  (hargs:∀(j:Nat) (x:Value) (e:AV),vs[j]? =some x→args[j]? =some e→Rep w M loc x (ren (upN ps st.heap.length) e)∧e.idLt H.length):
  C fun e w'=>∃x M' loc',E e x∧RR X M' loc' ⟨st.env,heapAfter st.heap ps H'⟩ a w'∧Rep w' M' loc' x (ren (upN ps st.heap.length) r)∧(ren (upN ps st.heap.length) r).idLt (heapAfter st.heap ps H').length:=by
 refine hC _ _ (fun e w' hh=>?_) (oP (S:=fun r0 H0=>r0=r∧H0=H') hC h (fun loc h1 h2=>hC _ _ (fun e w' hh=>⟨r,H',⟨rfl,rfl⟩,hh⟩) (hm loc h1 h2)) ps hnd hlen hlt hcell hids hargs)
 obtain⟨r0,H0,⟨rfl,rfl⟩,hh⟩:=hh
 exact hh
theorem BT{X:Ctx}{st:St}{a:Act}(h:RR X M loc st a w){f:FuncId}{H:List Cell}{args:List AV}{r:AV}{H':List Cell}(hm:MeansH P f H args r H')(ps:List Nat)(hnd:ps.Nodup)(hlen:H.length=ps.length)(hlt:∀c∈ps,c<st.heap.length)
  (hcell:∀i,i<ps.length→st.heap[upN ps st.heap.length i]? =H[i]?.map (renCell (upN ps st.heap.length))) (hids:okIds H.length H)
  {vs:Array Value} (hvs:vs.size=args.length) (hargs:∀(j:Nat) (x:Value) (e:AV),vs[j]? =some x→args[j]? =some e→Rep w M loc x (ren (upN ps st.heap.length) e)∧e.idLt H.length):
  Calls P f vs w fun e w'=>∃x M' loc',e=.returned x∧RR X M' loc' ⟨st.env,heapAfter st.heap ps H'⟩ a w'∧Rep w' M' loc' x (ren (upN ps st.heap.length) r)∧(ren (upN ps st.heap.length) r).idLt (heapAfter st.heap ps H').length:=
 jL (C:=Calls P f vs w) (E:=fun e x=>e=.returned x) (fun _ _ hi hc=>hc.mono hi) h (fun loc hS ha=>hm w M loc vs (fun b hb=>(h.zone b hb).1) (h.globW fun _ hb=>hb) hS hvs ha) ps hnd hlen hlt hcell hids hargs
end
end Go.Ab
namespace Go.Ab
open Go.RowKit
def MeansX(P:Program)(f:FuncId)(m:Nat)(H:List Cell)(args:List AV)(r:AV)(H':List Cell):Prop:=
 ∀(w:World) (M:Nat→Prop) (loc:Nat→Value) (vs:Array Value),(∀b,M b→b<w.heap.size)→GlobW w M→HeapS (blks H loc) M loc H w→vs.size=args.length→
  (∀(j:Nat) (x:Value) (e:AV),vs[j]? =some x→args[j]? =some e→Rep w M loc x e∧e.idLt H.length)→
  Calls P f vs w fun e w'=>∃x M' loc',e=.returned x∧HeapS (fun b=>w.heap.size≤b∨blks H loc b) M' loc' H' w'∧BelowT (blks H loc) w w'∧(∀b,M b→M' b)∧
   (∀b,M' b→b<w'.heap.size∧(M b∨w.heap.size≤b∨blks H loc b))∧(∀id,id<m→loc' id=loc id)∧Rep w' M' loc' x r∧r.idLt H'.length∧m≤H'.length
section
variable{P:Program}{w w':World}{M:Nat→Prop}{loc:Nat→Value}
theorem BU{X:Ctx}{st:St}{a:Act}(h:RR X M loc st a w){f:FuncId}{H:List Cell}{args:List AV}{r:AV}{H':List Cell}(ps qs:List Nat)(hm:MeansX P f ps.length H args r H')(hnd1:(ps++qs).Nodup)(hlen:H.length=(ps++qs).length)(hlt1:∀c∈ps++qs,c<st.heap.length)
  (hcell:∀i,i<(ps++qs).length→st.heap[upN (ps++qs) st.heap.length i]? =H[i]?.map (renCell (upN (ps++qs) st.heap.length))) (hids:okIds H.length H)
  {vs:Array Value} (hvs:vs.size=args.length) (hargs:∀(j:Nat) (x:Value) (e:AV),vs[j]? =some x→args[j]? =some e→Rep w M loc x (ren (upN (ps++qs) st.heap.length) e)∧e.idLt H.length):
  Calls P f vs w fun e w'=>∃x M' loc',e=.returned x∧RR X M' loc' ⟨st.env,heapAfter (killH st.heap qs) ps H'⟩ a w'∧Rep w' M' loc' x (ren (upN ps st.heap.length) r)∧(ren (upN ps st.heap.length) r).idLt (heapAfter (killH st.heap qs) ps H').length:=by
 let u:=upN (ps++qs) st.heap.length
 let locL:Nat→Value:=fun i=>loc (u i)
 have hulN:∀i,i<(ps++qs).length→u i<st.heap.length:=fun i hi=>by
  show upN (ps++qs) st.heap.length i<_
  rw[bV (List.getElem?_eq_getElem hi)];exact hlt1 _ (List.getElem_mem hi)
 have hup:∀i (c:Cell),H[i]? =some c→st.heap[u i]? =some (renCell u c):=fun i c hc=>by
  have hi:=(List.getElem?_eq_some_iff.1 hc).1
  rw[hcell i (by omega),hc];rfl
 have hrow:∀i o,H[i]? =some (.row o)→st.heap[u i]? =some (.row ⟨o.E,o.k,renEs u o.es⟩):=fun i o hc=>hup i _ hc
 have hmap:∀i m,H[i]? =some (.map m)→st.heap[u i]? =some (.map m):=fun i m hc=>hup i _ hc
 have hblk:∀b,blks H locL b→X.own b∧b<w.heap.size∧¬M b:=by
  rintro b (⟨i,o,hi,hb⟩|⟨i,m,hi,hb⟩)
  ·have hob:=h.obj _ _ (hrow i o hi)
   obtain⟨xs,hown,_⟩:=hob.own
   exact⟨hob.mine b hb,(hown.lt b hb).2,hob.away b hb⟩
  ·obtain⟨g,es,c,h1,h2,h3,h4,_⟩:=(h.mobj _ _ (hmap i m hi)).own
   have hb':loc (u i)=.map (some b):=hb
   rw[hb']at h1
   cases h1
   exact⟨h2,(Array.getElem?_eq_some_iff.1 h4).1,h3⟩
 have hHS:HeapS (blks H locL) M locL H w:=by
  refine⟨fun i o hi=>?_,fun i j oi oj hij hi hj=>?_,fun i m hi=>?_,fun i j mi mj hij hi hj=>?_,fun i hi=>h.one _ (hulN i (by omega))⟩
  ·have hob:=h.obj _ _ (hrow i o hi)
   obtain⟨xs,hown,hr⟩:=hob.own
   refine⟨⟨xs,by rw[eX]at hown;exact hown,fun j e he=>?_⟩,iS.1 hob.flat,hob.away,fun g hg=>.inl ⟨i,o,hi,hg⟩⟩
   have he':((renEs u o.es).flatMap AV.flat)[j]? =some (renB u e):=by rw[eH,List.getElem?_map,he];rfl
   obtain⟨x,hx,hrc⟩:=hr j _ he'
   exact⟨x,hx,hrc.down (fun _ _=>rfl) (hids i o hi e (List.mem_of_getElem? he)) (by have:=hrc.2.2;cases e<;>first|rfl|exact this|cases this)⟩
  ·have hne:u i≠u j:=fun e=>hij (lJ hnd1 hlt1 e)
   exact h.sep _ _ _ _ hne (hrow i oi hi) (hrow j oj hj)
  ·have hmo:=h.mobj _ _ (hmap i m hi)
   obtain⟨g,es,c,h1,h2,h3⟩:=hmo.own
   exact⟨g,es,c,h1,.inr ⟨i,m,hi,h1⟩,h3⟩
  ·have hne:u i≠u j:=fun e=>hij (lJ hnd1 hlt1 e)
   exact h.msep _ _ _ _ hne (hmap i mi hi) (hmap j mj hj)
 refine(hm w M locL vs (fun b hb=>(h.zone b hb).1) (h.globW fun _ hb=>hb) hHS hvs (fun j x e hx he=>?_)).mono fun e w' hh=>?_
 ·obtain⟨h1,h2⟩:=hargs j x e hx he
  exact⟨(Rep.up (n:=H.length) (u:=u) (fun _ _=>rfl) h2).2 h1,h2⟩
 obtain⟨x,M',loc',rfl,hS',hbel,hMM,hzone,hloc,hr,hrl,hlen'⟩:=hh
 have hps:ps.length≤H'.length:=hlen'
 have hnd:ps.Nodup:=(List.nodup_append.1 hnd1).1
 have hlt:∀c∈ps,c<(killH st.heap qs).length:=fun c hc=>by rw[dK];exact hlt1 c (List.mem_append_left _ hc)
 have hkl:(killH st.heap qs).length=st.heap.length:=dK _ _
 have hu12:∀k,k<ps.length→u k=upN ps st.heap.length k:=fun k hk=>by
  have e1:(ps++qs)[k]? =some ps[k]:=by rw[List.getElem?_append_left hk];exact List.getElem?_eq_getElem hk
  rw[show u k=ps[k] from bV e1,bV (List.getElem?_eq_getElem hk)]
 let u2:=upN ps st.heap.length
 let locU:Nat→Value:=fun id=>if id<st.heap.length then loc id else loc' (ps.length+(id-st.heap.length))
 have hlU:∀k,k<H'.length→locU (u2 k)=loc' k:=by
  intro k hk
  by_cases hkp:k<ps.length
  ·have:=hulN k (by rw[List.length_append];omega)
   rw[hu12 k hkp]at this
   simp only[locU]
   rw[if_pos this,hloc k hkp]
   exact congrArg loc (hu12 k hkp).symm
  ·have e1:u2 k=st.heap.length+(k-ps.length):=dO (by omega)
   simp only[locU]
   rw[if_neg (by omega),e1]
   congr 1;omega
 have hlO:∀id,id<st.heap.length→locU id=loc id:=fun id hid=>if_pos hid
 have hbk:∀b,M b→w'.heap[b]? =w.heap[b]? :=fun b hb=>hbel.block b (h.zone b hb).1 (fun hk=>(hblk b hk).2.2 hb)
 have hlt':st.heap.length≤(heapAfter (killH st.heap qs) ps H').length:=by rw[dL,hkl];omega
 have hu':∀k,k<H'.length→u2 k<(heapAfter (killH st.heap qs) ps H').length:=fun k hk=>by
  have:=BS (Hc:=killH st.heap qs) hlt hps hk
  rw[hkl]at this;exact this
 have hown':∀b,w.heap.size≤b∨blks H locL b→X.own b:=fun b hb=>hb.elim (fun hb=>.inl (Nat.le_trans h.below.size hb)) (fun hb=>(hblk b hb).1)
 have hfr:∀id o,id∉ps++qs→st.heap[id]? =some (.row o)→∀g,(loc id).ownBlock=some g→g<w.heap.size∧¬blks H locL g:=by
  intro id o hid ho g hg
  have hob:=h.obj id o ho
  obtain⟨xs,hown,_⟩:=hob.own
  refine⟨(hown.lt g hg).2,?_⟩
  rintro(⟨i,oi,hi,hb⟩|⟨i,m,hi,hb⟩)
  ·have hip:i<(ps++qs).length:=by have:=(List.getElem?_eq_some_iff.1 hi).1;omega
   have hne:id≠u i:=by
    rintro rfl
    exact hid (by rw[show u i=(ps++qs)[i] from bV (List.getElem?_eq_getElem hip)];exact List.getElem_mem hip)
   rcases h.sep id (u i) _ _ hne ho (hrow i oi hi)with h1|h1
   ·rw[hg]at h1;cases h1
   ·exact h1 (by rw[hg];exact hb.symm)
  ·obtain⟨g2,es,c,h1,h2,h3,h4,_⟩:=(h.mobj _ _ (hmap i m hi)).own
   have hb':loc (u i)=.map (some g):=hb
   rw[hb']at h1
   cases h1
   obtain⟨cs,t,fr,hcells⟩:=bG hown g hg
   rw[h4]at hcells;cases hcells
 have hfm:∀id m,id∉ps++qs→st.heap[id]? =some (.map m)→∀g,loc id=.map (some g)→g<w.heap.size∧¬blks H locL g:=by
  intro id m hid ho g hg
  obtain⟨g2,es,c,h1,h2,h3,h4,_⟩:=(h.mobj id m ho).own
  rw[hg]at h1
  cases h1
  refine⟨(Array.getElem?_eq_some_iff.1 h4).1,?_⟩
  rintro(⟨i,oi,hi,hb⟩|⟨i,m2,hi,hb⟩)
  ·have hob:=h.obj _ _ (hrow i oi hi)
   obtain⟨xs,hown,_⟩:=hob.own
   obtain⟨cs,t,fr,hcells⟩:=bG hown g hb
   rw[h4]at hcells;cases hcells
  ·have hip:i<(ps++qs).length:=by have:=(List.getElem?_eq_some_iff.1 hi).1;omega
   have hne:id≠u i:=by
    rintro rfl
    exact hid (by rw[show u i=(ps++qs)[i] from bV (List.getElem?_eq_getElem hip)];exact List.getElem_mem hip)
   exact h.msep id (u i) _ _ hne ho (hmap i m2 hi) (by rw[hg];exact hb.symm)
 have hnotM:∀g,g<w.heap.size→¬blks H locL g→¬M g→¬M' g:=by
  intro g h1 h2 h3 h4
  rcases(hzone g h4).2 with h5|h5|h5
  ·exact h3 h5
  ·omega
  ·exact h2 h5
 have inv:∀id o,(heapAfter (killH st.heap qs) ps H')[id]? =some (.row o)→(∃k o0,k<H'.length∧id=u2 k∧H'[k]? =some (.row o0)∧o=⟨o0.E,o0.k,renEs u2 o0.es⟩)∨(id<st.heap.length∧id∉ps++qs∧st.heap[id]? =some (.row o)):=by
  intro id o ho
  have hai:=fA hnd hlt hps ho
  rw[hkl]at hai
  rcases hai with⟨k,c0,h1,h2,h3⟩|h1
  ·left
   cases c0 with
   |row o0=>simp only[renCell,Cell.row.injEq]at h3;exact⟨k,o0,(List.getElem?_eq_some_iff.1 h2).1,h1,h2,h3⟩
   |dead=>cases h3
   |map m=>cases h3
  ·obtain⟨g1,g2,g3⟩:=h1
   obtain⟨g4,g5⟩:=cO qs _ id _ g3 (by intro e;cases e)
   exact .inr ⟨by omega,fun hm=>(List.mem_append.1 hm).elim g2 g5,g4⟩
 have invm:∀id m,(heapAfter (killH st.heap qs) ps H')[id]? =some (.map m)→(∃k,k<H'.length∧id=u2 k∧H'[k]? =some (.map m))∨(id<st.heap.length∧id∉ps++qs∧st.heap[id]? =some (.map m)):=by
  intro id o ho
  have hai:=fA hnd hlt hps ho
  rw[hkl]at hai
  rcases hai with⟨k,c0,h1,h2,h3⟩|h1
  ·left
   cases c0 with
   |row o0=>cases h3
   |dead=>cases h3
   |map m=>simp only[renCell,Cell.map.injEq]at h3;subst h3;exact⟨k,(List.getElem?_eq_some_iff.1 h2).1,h1,h2⟩
  ·obtain⟨g1,g2,g3⟩:=h1
   obtain⟨g4,g5⟩:=cO qs _ id _ g3 (by intro e;cases e)
   exact .inr ⟨by omega,fun hm=>(List.mem_append.1 hm).elim g2 g5,g4⟩
 have apart:∀k o0 g,H'[k]? =some (.row o0)→(loc' k).ownBlock=some g→w.heap.size≤g∨blks H locL g:=fun k o0 g hk hg=>(hS'.obj k o0 hk).mine g hg
 refine⟨x,M',locU,rfl,?_,(Rep.up hlU hrl).1 hr,pS hu' hrl⟩
 refine⟨fun s=>Rep.mono (n:=st.heap.length) hbk hMM hlO (h.env s) (h.ids s),h.nle,h.size,h.defers,fun id o ho=>?_,fun i j oi oj hij hi hj=>?_,fun id m hm'=>?_,fun i j mi mj hij hi hj=>?_,?_,fun b hb=>?_,fun b hb=>hMM b (h.zin b hb),h.zlt,fun id hid=>?_,fun s=>AV.idLt_up hlt' (h.ids s)⟩
 ·rcases inv id o ho with⟨k,o0,hk,rfl,h2,rfl⟩|⟨h1,h2,h3⟩
  ·have hob:=hS'.obj k o0 h2
   show ObjOK X.own w' M' locU (heapAfter (killH st.heap qs) ps H').length (locU (u2 k)) _
   rw[hlU k hk]
   obtain⟨xs,hown,hrc⟩:=hob.own
   refine⟨⟨xs,by rw[eX];exact hown,fun j e he=>?_⟩,iS.2 hob.flat,hob.away,fun g hg=>hown' g (hob.mine g hg)⟩
   simp only[eH,List.getElem?_map,Option.map_eq_some_iff]at he
   obtain⟨d,hd,rfl⟩:=he
   obtain⟨y,hy,hyr⟩:=hrc j d hd
   exact⟨y,hy,hyr.up hlU hu'⟩
  ·show ObjOK X.own w' M' locU (heapAfter (killH st.heap qs) ps H').length (locU id) o
   rw[hlO id h1]
   have hf:=hfr id o h2 h3
   have hob:=h.obj id o h3
   exact hob.frame (fun g hg=>hbel.block g (hf g hg).1 (hf g hg).2) hbk hMM hlO hlt' (fun g hg=>hnotM g (hf g hg).1 (hf g hg).2 (hob.away g hg)) (fun _ hb=>hb)
 ·show(locU i).ownBlock=none∨(locU i).ownBlock≠(locU j).ownBlock
  rcases inv i oi hi with⟨k,o0,hk,rfl,h2,rfl⟩|⟨h1,h2,h3⟩
  ·rw[hlU k hk]
   rcases inv j oj hj with⟨q,o1,hq,rfl,g2,rfl⟩|⟨g1,g2,g3⟩
   ·rw[hlU q hq]
    exact hS'.sep k q _ _ (fun e=>hij (by rw[e])) h2 g2
   ·rw[hlO j g1]
    cases hb:(loc' k).ownBlock with
    |none=>exact .inl rfl
    |some b=>
     right
     intro e
     have hf:=hfr j oj g2 g3 b e.symm
     rcases apart k o0 b h2 hb with h5|h5
     ·omega
     ·exact hf.2 h5
  ·rw[hlO i h1]
   rcases inv j oj hj with⟨q,o1,hq,rfl,g2,rfl⟩|⟨g1,g2,g3⟩
   ·rw[hlU q hq]
    cases hb:(loc i).ownBlock with
    |none=>exact .inl rfl
    |some b=>
     right
     intro e
     have hf:=hfr i oi h2 h3 b hb
     rcases apart q o1 b g2 e.symm with h5|h5
     ·omega
     ·exact hf.2 h5
   ·rw[hlO j g1]
    exact h.sep i j _ _ hij h3 g3
 ·show MapOK X.own w' M' (locU id) m
  rcases invm id m hm' with⟨k,hk,rfl,h2⟩|⟨h1,h2,h3⟩
  ·rw[hlU k hk]
   exact(hS'.mobj k m h2).imp hown'
  ·rw[hlO id h1]
   obtain⟨g,es,c,q1,q2,q3,q4,q5⟩:=(h.mobj id m h3).own
   have hf:=hfm id m h2 h3 g q1
   exact⟨g,es,c,q1,q2,hnotM g hf.1 hf.2 q3,by rw[hbel.block g hf.1 hf.2];exact q4,q5.mono hbk hMM⟩
 ·show locU i≠locU j
  rcases invm i mi hi with⟨k,hk,rfl,h2⟩|⟨h1,h2,h3⟩
  ·rw[hlU k hk]
   rcases invm j mj hj with⟨q,hq,rfl,g2⟩|⟨g1,g2,g3⟩
   ·rw[hlU q hq]
    exact hS'.msep k q _ _ (fun e=>hij (by rw[e])) h2 g2
   ·rw[hlO j g1]
    intro e
    obtain⟨g,es,c,q1,q2,_⟩:=(hS'.mobj k mi h2).own
    have hf:=hfm j mj g2 g3 g (by rw[←e];exact q1)
    rcases q2 with q2|q2
    ·omega
    ·exact hf.2 q2
  ·rw[hlO i h1]
   rcases invm j mj hj with⟨q,hq,rfl,g2⟩|⟨g1,g2,g3⟩
   ·rw[hlU q hq]
    intro e
    obtain⟨g,es,c,q1,q2,_⟩:=(hS'.mobj q mj g2).own
    have hf:=hfm i mi h2 h3 g (by rw[e];exact q1)
    rcases q2 with q2|q2
    ·omega
    ·exact hf.2 q2
   ·rw[hlO j g1]
    exact h.msep i j _ _ hij h3 g3
 ·exact⟨hbel.os.trans h.below.os,hbel.tape.trans h.below.tape,hbel.output.trans h.below.output,Nat.le_trans h.below.size hbel.size,fun k hk hT=>by
   rw[hbel.block k (Nat.lt_of_lt_of_le hk h.below.size) (fun hb=>by
    rcases(hblk k hb).1 with h1|h1
    ·omega
    ·exact hT h1)]
   exact h.below.block k hk hT⟩
 ·refine⟨(hzone b hb).1,?_⟩
  rcases(hzone b hb).2 with h1|h1
  ·exact(h.zone b h1).2
  ·exact .inr (hown' b h1)
 ·show(locU id).oneCell'=true
  by_cases hi:id<st.heap.length
  ·rw[hlO id hi];exact h.one id hi
  ·have hid':id<st.heap.length+(H'.length-ps.length):=by have:=hid;rw[dL,hkl]at this;exact this
   simp only[locU,if_neg hi]
   exact hS'.one _ (by omega)
def frzF(H:List Cell):AV→AV
 | .agg cs=>.agg (cs.map (argB H))
 |e=>argB H e
def nestIds(o:Ob):List Nat:=(o.es.flatMap AV.flat).flatMap AV.idB
def frzRow(H:List Cell)(id:Nat):List Cell:=match H[id]? with
 |some (.row o)=>(killH H (nestIds o)).set id (.row ⟨o.E,o.k,o.es.map (frzF H)⟩)
 |_=>H
def frzRows:List Cell→List Nat→List Cell
 |H,[]=>H
 |H,i::l=>frzRows (frzRow H i) l
def frzOK:List Cell→List Nat→Prop
 |_,[]=>True
 |H,i::l=>(match H[i]? with
  |some (.row o)=>i∉nestIds o
  |_=>True)∧frzOK (frzRow H i) l
theorem oQ:∀(l:List Nat) (H:List Cell) (id:Nat),id∉l→(killH H l)[id]? =H[id]?
 | [],_,_,_=>rfl
 |i::l,H,id,h=>by
  simp only[List.mem_cons,not_or]at h
  rw[killH,oQ l _ id h.2,List.getElem?_set_ne (fun e=>h.1 e.symm)]
theorem oS(H:List Cell)(e:AV):(frzF H e).flat=e.flat.map (argB H):=by
 cases e with
 |ow id=>
  have:(argB H (.ow id)).flat=[argB H (.ow id)]:=by
   simp only[argB]
   split
   ·rename_i o _
    cases zoneEs o.es<;>rfl
   ·rfl
  exact this
 |_=>rfl
theorem mM(H:List Cell):∀l:List AV,(l.map (frzF H)).flatMap AV.flat=(l.flatMap AV.flat).map (argB H)
 | []=>rfl
 |e::l=>by simp only[List.map_cons,List.flatMap_cons,List.map_append,oS,mM H l]
theorem RR.frzRow{X:Ctx}{st:St}{a:Act}(h:RR X M loc st a w)(id:Nat)(hn:match st.heap[id]? with|some (.row o)=>id∉nestIds o|_=>True):∃M',(∀b,M b→M' b)∧RR X M' loc ⟨st.env,frzRow st.heap id⟩ a w:=by
 unfold Ab.frzRow
 split at hn
 case h_2 hne=>exact⟨M,fun _ h=>h,h⟩
 rename_i o ho
 have hk:=h.kill (nestIds o)
 have hid:(killH st.heap (nestIds o))[id]? =some (.row o):=by rw[oQ _ _ _ hn,ho]
 have hidl:id<(killH st.heap (nestIds o)).length:=(List.getElem?_eq_some_iff.1 hid).1
 have hkl:(killH st.heap (nestIds o)).length=st.heap.length:=dK _ _
 have hback:∀i c,((killH st.heap (nestIds o)).set id (Cell.row ⟨o.E,o.k,o.es.map (frzF st.heap)⟩))[i]? =some c→(i=id∧c=.row ⟨o.E,o.k,o.es.map (frzF st.heap)⟩)∨(i≠id∧(killH st.heap (nestIds o))[i]? =some c):=fun i c hc=>by
  by_cases hi:i=id
  ·subst hi
   rw[List.getElem?_set_self hidl]at hc
   exact .inl ⟨rfl,(Option.some.inj hc).symm⟩
  ·rw[List.getElem?_set_ne (fun e=>hi e.symm)]at hc
   exact .inr ⟨hi,hc⟩
 have hsome:∀i oi,((killH st.heap (nestIds o)).set id (Cell.row ⟨o.E,o.k,o.es.map (frzF st.heap)⟩))[i]? =some (Cell.row oi)→∃oj,(killH st.heap (nestIds o))[i]? =some (Cell.row oj):=fun i oi hi=>by
  rcases hback i _ hi with⟨rfl,_⟩|⟨_,h2⟩
  ·exact⟨_,hid⟩
  ·exact⟨_,h2⟩
 have hmap:∀i m,((killH st.heap (nestIds o)).set id (Cell.row ⟨o.E,o.k,o.es.map (frzF st.heap)⟩))[i]? =some (Cell.map m)→(killH st.heap (nestIds o))[i]? =some (Cell.map m):=fun i m hi=>by
  rcases hback i _ hi with⟨_,h2⟩|⟨_,h2⟩
  ·cases h2
  ·exact h2
 have hlen:((killH st.heap (nestIds o)).set id (Cell.row ⟨o.E,o.k,o.es.map (frzF st.heap)⟩)).length=(killH st.heap (nestIds o)).length:=List.length_set
 refine⟨_,fun b hb=>.inl hb,⟨hk.env,hk.nle,hk.size,hk.defers,fun i oi hi=>?_,fun i j oi oj hij hi hj=>?_,fun i m hi=>?_,fun i j mi mj hij hi hj=>?_,hk.below,hk.zone,hk.zin,hk.zlt,fun i hi=>hk.one i (by rw[←hlen];exact hi),fun s=>?_⟩⟩
 ·rcases hback i _ hi with⟨rfl,he⟩|⟨_,h2⟩
  ·cases he
   have hob:=h.obj i o ho
   have hob2:=hk.obj i o hid
   obtain⟨xs,hown,hxs⟩:=hob.own
   refine⟨⟨xs,by simpa using hown,fun j e he=>?_⟩,fun e he=>?_,hob2.away,hob2.mine⟩
   ·simp only[mM,List.getElem?_map,Option.map_eq_some_iff]at he
    obtain⟨d,hd,rfl⟩:=he
    obtain⟨x,hx,hr,hi2,hf⟩:=hxs j d hd
    refine⟨x,hx,?_⟩
    have hmem:∀q∈d.idB,q∈nestIds o:=fun q hq=>List.mem_flatMap.2 ⟨d,List.mem_of_getElem? hd,hq⟩
    have hle:st.heap.length≤((killH st.heap (nestIds o)).set i (Cell.row ⟨o.E,o.k,o.es.map (Ab.frzF st.heap)⟩)).length:=by rw[hlen,hkl];exact Nat.le_refl _
    have hsame:RepC w (fun b=>M b∨∃id∈nestIds o,∃o2,st.heap[id]? =some (.row o2)∧(loc id).ownBlock=some b) loc ((killH st.heap (nestIds o)).set i (Cell.row ⟨o.E,o.k,o.es.map (Ab.frzF st.heap)⟩)).length x d:=
     (show RepC w M loc st.heap.length x d from⟨hr,hi2,hf⟩).mono (fun _ _=>rfl) (fun b hb=>.inl hb) (fun _ _=>rfl) hle
    cases d with
    |ow q=>
     simp only[argB]
     split
     ·rename_i o2 ho2
      cases hz:zoneEs o2.es with
      |false=>exact⟨.inl (.bad _),trivial,rfl⟩
      |true=>
       have hx':x=loc q:=by rcases hr with h3|h3;exact h3.no_ow.elim;exact h3
       subst hx'
       exact⟨.inl (h.frozenRow ho2 hz (fun b hb=>.inl hb) (fun g hg=>.inr ⟨q,hmem q (by simp[AV.idB]),o2,ho2,hg⟩)),trivial,rfl⟩
     ·exact⟨.inl (.bad _),trivial,rfl⟩
    |nil=>
     have:=hr.rep.nil_inv
     subst this
     exact⟨.inl (.sl none 0 0 [] (fun _=>undef) (by simp) (by simp) (by simp) (by simp) (by simp) (by simp)),trivial,rfl⟩
    |_=>exact hsame
   ·obtain⟨d,hd,rfl⟩:=List.mem_map.1 he
    rw[oS,List.length_map]
    exact hob.flat d hd
  ·have:=hk.obj i oi h2
   exact this.frame (fun _ _=>rfl) (fun _ _=>rfl) (fun _ h=>h) (fun _ _=>rfl) (by simp only[hlen];exact Nat.le_refl _) this.away (fun _ h=>h)
 ·obtain⟨pi,h1⟩:=hsome i oi hi
  obtain⟨pj,h2⟩:=hsome j oj hj
  exact hk.sep i j pi pj hij h1 h2
 ·exact hk.mobj i m (hmap i m hi)
 ·exact hk.msep i j mi mj hij (hmap i mi hi) (hmap j mj hj)
 ·show(st.env s).idLt ((killH st.heap (nestIds o)).set id _).length
  rw[hlen]
  exact hk.ids s
theorem RR.frzRows{X:Ctx}{a:Act}:∀(l:List Nat) {M:Nat→Prop} {st:St},RR X M loc st a w→frzOK st.heap l→∃M',(∀b,M b→M' b)∧RR X M' loc ⟨st.env,frzRows st.heap l⟩ a w
 | [],M,st,h,_=>⟨M,fun _ h=>h,h⟩
 |i::l,M,st,h,hf=>by
  obtain⟨M1,h1,h2⟩:=h.frzRow i hf.1
  obtain⟨M2,h3,h4⟩:=RR.frzRows l h2 hf.2
  exact⟨M2,fun b hb=>h3 b (h1 b hb),h4⟩
end
end Go.Ab

