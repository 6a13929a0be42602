import Derived.Test.YtllgjognpobnpaaGreatDoorGFw3
set_option linter.all false
namespace Go.Ab
open Go.RowKit
def okCells(u:Nat→Nat)(H:List Cell):List Nat→List Cell→Prop
 | [],[]=>True
 |p::ps,c::cs=>H[p]? =some (renCell u c)∧okCells u H ps cs
 |_,_=>False
def okRowIds(m:Nat):List Cell→Prop
 | []=>True
 | .row o::l=>(zoneEs o.es=true∨∀e∈o.es.flatMap AV.flat,e.idLt m)∧okRowIds m l
 |_::l=>okRowIds m l
def okArg(u:Nat→Nat)(m:Nat)(a e:AV):Prop:=(a=ren u e∨a=.nil∧e=.sl [])∧e.idLt m
def okArgs(u:Nat→Nat)(m:Nat):List AV→List AV→Prop
 | [],[]=>True
 |a::as,e::es=>okArg u m a e∧okArgs u m as es
 |_,_=>False
def CallHC(H:List Cell)(raw:List AV)(ps:List Nat)(Hl:List Cell)(largs:List AV):Prop:=
 ps.Nodup∧(∀c∈ps,c<H.length)∧okCells (upN ps H.length) H ps Hl∧okRowIds Hl.length Hl∧okArgs (upN ps H.length) Hl.length raw largs
def CallHA(P:Program)(H:List Cell)(ρ:Operand→AV)(c:Call)(r:AV)(H2:List Cell):Prop:=
 ∃f first cap ps Hl largs r0 H',tgt ρ c.callee=some (f,first,cap)∧callable P f=true∧MeansH P f Hl largs r0 H'∧CallHC H (first++c.args.toList.map ρ++cap) ps Hl largs∧
  r=ren (upN ps H.length) r0∧H2=heapAfter H ps H'
def CallXA(P:Program)(H:List Cell)(ρ:Operand→AV)(c:Call)(r:AV)(H2:List Cell):Prop:=
 ∃f first cap ps qs Hl largs r0 H',tgt ρ c.callee=some (f,first,cap)∧callable P f=true∧MeansX P f ps.length Hl largs r0 H'∧CallHC H (first++c.args.toList.map ρ++cap) (ps++qs) Hl largs∧
  r=ren (upN ps H.length) r0∧H2=heapAfter (killH H qs) ps H'
section
variable{P:Program}{w:World}{M:Nat→Prop}{loc:Nat→Value}
theorem cM{u:Nat→Nat}{H:List Cell}:∀{ps:List Nat} {cs:List Cell} {i p:Nat},okCells u H ps cs→ps[i]? =some p→H[p]? =cs[i]?.map (renCell u)
 | [],[],i,p,_,h=>by simp at h
 |q::ps,c::cs,0,p,h,hp=>by simp at hp;subst hp;exact h.1
 |q::ps,c::cs,i+1,p,h,hp=>by
  have:=cM h.2 (i:=i) (p:=p) (by simpa using hp)
  simpa using this
 | [],_::_,_,_,h,_=>h.elim
 |_::_,[],_,_,h,_=>h.elim
theorem bO{u:Nat→Nat}{H:List Cell}:∀{ps:List Nat} {cs:List Cell},okCells u H ps cs→cs.length=ps.length
 | [],[],_=>rfl
 |q::ps,c::cs,h=>by simp[bO h.2]
 | [],_::_,h=>h.elim
 |_::_,[],h=>h.elim
theorem cP{m:Nat}:∀{H:List Cell},okRowIds m H→okIds m H
 | [],_,i,o,h=>by simp at h
 |c::H,hc,0,o,h=>by
  simp at h
  subst h
  intro e he
  rcases hc.1 with hz|hz
  ·obtain⟨j,hj,rfl⟩:=List.getElem_of_mem he
   exact bC (dP hz (List.getElem?_eq_getElem hj)) m
  ·exact hz e he
 |c::H,hc,i+1,o,h=>by
  refine cP (m:=m) (H:=H) ?_ i o (by simpa using h)
  cases c with
  |row o=>exact hc.2
  |dead=>exact hc
  |map m=>exact hc
theorem iM{u:Nat→Nat}{m:Nat}:∀{as es:List AV},okArgs u m as es→as.length=es.length
 | [],[],_=>rfl
 |a::as,e::es,h=>by simp[iM h.2]
 | [],_::_,h=>h.elim
 |_::_,[],h=>h.elim
theorem iO{u:Nat→Nat}{m:Nat}:∀{as es:List AV} {j:Nat} {e:AV},okArgs u m as es→es[j]? =some e→∃a,as[j]? =some a∧okArg u m a e
 | [],[],j,e,_,h=>by simp at h
 |a::as,d::es,0,e,h,he=>by simp at he;subst he;exact⟨a,rfl,h.1⟩
 |a::as,d::es,j+1,e,h,he=>by
  obtain⟨b,h1,h2⟩:=iO h.2 (j:=j) (by simpa using he)
  exact⟨b,by simpa using h1,h2⟩
 | [],_::_,_,_,h,_=>h.elim
 |_::_,[],_,_,h,_=>h.elim
theorem dU{X:Ctx}{st:St}{o:Oper}{a:Act}{ρ:Operand→AV}(h:RR X M loc st a w){c:Call}(ho:o.op=.call c)(hρ:∀x∈o.op.operands,Rep w M loc (a.eval x) (ρ x)){f:FuncId}{first cap largs:List AV}{u:Nat→Nat}{m:Nat}
  (ht:tgt ρ c.callee=some (f,first,cap)) (hcall:callable P f=true) (hargs:okArgs u m (first++c.args.toList.map ρ++cap) largs):
  ∃vs,(execOp a.eval o).run P w=.ok (.enter f vs) w∧vs.size=largs.length∧∀(j:Nat) (x:Value) (e:AV),vs[j]? =some x→largs[j]? =some e→Rep w M loc x (ren u e)∧e.idLt m:=by
 obtain⟨dst,op,ty,pos,after,guard⟩:=o
 simp only[]at ho hρ
 subst ho
 obtain⟨callee,args,ats⟩:=c
 simp only[]at ht hargs
 cases callee with
 |invoke x m=>simp[tgt]at ht
 |builtin b=>simp[tgt]at ht
 |value x=>
  have hx:=hρ x (by simp[Op.operands,Call.operands])
  have hclo:∃fi ca,a.eval x=.func (.func f) fi ca∧fi.size=first.length∧ca.size=cap.length∧
    (∀(j:Nat) (c:Value) (e:AV),fi[j]? =some c→first[j]? =some e→Rep w M loc c e)∧(∀(j:Nat) (c:Value) (e:AV),ca[j]? =some c→cap[j]? =some e→Rep w M loc c e):=by
   simp only[tgt]at ht
   split at ht
   ·rename_i f' fi ca e1
    rw[e1]at hx
    simp only[Option.some.injEq,Prod.mk.injEq]at ht
    obtain⟨rfl,rfl,rfl⟩:=ht
    have hv:∀(l:Array Value) (j:Nat) (c:Value) (e:AV),l[j]? =some c→(l.toList.map AV.v)[j]? =some e→Rep w M loc c e:=by
     intro l j c e h1 h2
     rw[List.getElem?_map,Array.getElem?_toList,h1]at h2
     cases h2
     exact(RepZ.v c).rep
    exact⟨fi,ca,hx.v_inv,by simp,by simp,hv fi,hv ca⟩
   ·rename_i f' fi ca e1
    rw[e1]at hx
    simp only[Option.some.injEq,Prod.mk.injEq]at ht
    obtain⟨rfl,rfl,rfl⟩:=ht
    obtain⟨fs,cs,h1,h2,h3,h4,h5⟩:=hx
    exact⟨fs,cs,h1,h2,h3,fun j c e hc he=>(h4 j c e hc he).rep,fun j c e hc he=>(h5 j c e hc he).rep⟩
   ·cases ht
  obtain⟨fi,ca,hfx,hl1,hl2,hr1,hr2⟩:=hclo
  refine⟨fi++args.map a.eval++ca,?_,?_⟩
  ·unfold callable at hcall
   split at hcall
   ·rename_i fn hfn
    simp only[Bool.and_eq_true,bne_iff_ne,ne_eq]at hcall
    have h1:¬(fn.name== "runtime.NumGoroutine")=true:=by simpa using hcall.1
    have h2:fn.body.isNone=false:=by have:=hcall.2;cases hb:fn.body<;>simp[hb]at this⊢
    simp only[execOp,resolve,hfx,Deferred.ofValue,Sem.run_bind,Sem.run_pure,Result.andThen_ok,invoke,callFunc,run_program,hfn,if_neg h1,h2,Bool.false_eq_true,if_false]
   ·cases hcall
  ·have hraw:∀(j:Nat) (x:Value) (e:AV),(fi++args.map a.eval++ca)[j]? =some x→(first++args.toList.map ρ++cap)[j]? =some e→Rep w M loc x e:=by
    intro j x e h1 h2
    rw[←Array.getElem?_toList]at h1
    simp only[Array.toList_append,Array.toList_map]at h1
    have key:∀(as:List Value) (es:List AV) (bs:List Value) (fs:List AV),as.length=es.length→(∀(j:Nat) (x:Value) (e:AV),as[j]? =some x→es[j]? =some e→Rep w M loc x e)→(∀(j:Nat) (x:Value) (e:AV),bs[j]? =some x→fs[j]? =some e→Rep w M loc x e)→
      ∀(j:Nat) (x:Value) (e:AV),(as++bs)[j]? =some x→(es++fs)[j]? =some e→Rep w M loc x e:=by
     intro as es bs fs hl p q j x e h1 h2
     by_cases hj:j<as.length
     ·rw[List.getElem?_append_left hj]at h1
      rw[List.getElem?_append_left (by rw[←hl];exact hj)]at h2
      exact p j x e h1 h2
     ·rw[List.getElem?_append_right (by omega)]at h1
      rw[List.getElem?_append_right (by rw[←hl];omega),←hl]at h2
      exact q _ x e h1 h2
    refine key _ _ _ _ (by simp[hl1]) (key _ _ _ _ (by simpa using hl1) (fun j c e hc he=>hr1 j c e (by simpa using hc) he) ?_) (fun j c e hc he=>hr2 j c e (by simpa using hc) he) j x e h1 h2
    intro j x e h1 h2
    rw[List.getElem?_map]at h1 h2
    cases hy:args.toList[j]? with
    |none=>rw[hy]at h1;cases h1
    |some y=>
     rw[hy]at h1 h2
     cases h1;cases h2
     have hmem:=List.mem_of_getElem? hy
     refine hρ y ?_
     simp only[Op.operands,Call.operands,Array.mem_append]
     right;simpa using hmem
   have hlen:=iM hargs
   refine⟨by rw[←hlen];simp[hl1,hl2,Nat.add_assoc],fun j x e hx he=>?_⟩
   obtain⟨b,hb,hba,hlt⟩:=iO hargs he
   have hr:=hraw j x b hx hb
   refine⟨?_,hlt⟩
   rcases hba with rfl|⟨rfl,rfl⟩
   ·exact hr
   ·rw[hr.nil_inv]
    exact RepZ.rep (.sl none 0 0 [] (fun _=>undef) (by simp) (by simp) (by simp) (by simp) (by simp) (by simp))
theorem jZ{X:Ctx}{st:St}{o:Oper}{a:Act}{ρ:Operand→AV}(h:RR X M loc st a w){c:Call}(ho:o.op=.call c)(hρ:∀x∈o.op.operands,Rep w M loc (a.eval x) (ρ x)){r:AV}{H2:List Cell}(hc:CallHA P st.heap ρ c r H2):
  ∃f vs,(execOp a.eval o).run P w=.ok (.enter f vs) w∧Calls P f vs w fun e w'=>∃x M' loc',e=.returned x∧RR X M' loc' ⟨st.env,H2⟩ a w'∧Rep w' M' loc' x r∧r.idLt H2.length:=by
 obtain⟨f,first,cap,ps,Hl,largs,r0,H',ht,hcall,hm,⟨hnd,hlt,hcells,hids,hargs⟩,rfl,rfl⟩:=hc
 obtain⟨vs,h1,h2,h3⟩:=dU h ho hρ ht hcall hargs
 refine⟨f,vs,h1,BT h hm ps hnd (bO hcells) hlt (fun i hi=>?_) (cP hids) h2 h3⟩
 have hp:ps[i]? =some ps[i]:=List.getElem?_eq_getElem hi
 rw[bV hp]
 exact cM hcells hp
theorem zL{X:Ctx}{st:St}{o:Oper}{a:Act}{ρ:Operand→AV}(h:RR X M loc st a w){c:Call}(ho:o.op=.call c)(hρ:∀x∈o.op.operands,Rep w M loc (a.eval x) (ρ x)){r:AV}{H2:List Cell}(hc:CallXA P st.heap ρ c r H2):
  ∃f vs,(execOp a.eval o).run P w=.ok (.enter f vs) w∧Calls P f vs w fun e w'=>∃x M' loc',e=.returned x∧RR X M' loc' ⟨st.env,H2⟩ a w'∧Rep w' M' loc' x r∧r.idLt H2.length:=by
 obtain⟨f,first,cap,ps,qs,Hl,largs,r0,H',ht,hcall,hm,⟨hnd,hlt,hcells,hids,hargs⟩,rfl,rfl⟩:=hc
 obtain⟨vs,h1,h2,h3⟩:=dU h ho hρ ht hcall hargs
 refine⟨f,vs,h1,BU h ps qs hm hnd (bO hcells) hlt (fun i hi=>?_) (cP hids) h2 h3⟩
 have hp:(ps++qs)[i]? =some (ps++qs)[i]:=List.getElem?_eq_getElem hi
 rw[bV hp]
 exact cM hcells hp
theorem iF{H:List Cell}{ps:List Nat}{Hl:List Cell}(hnd:ps.Nodup)(hlt:∀c∈ps,c<H.length)(hcells:okCells (upN ps H.length) H ps Hl):heapAfter H ps Hl=H:=by
 have hlen:=bO hcells
 apply List.ext_getElem?
 intro id
 cases hc:(heapAfter H ps Hl)[id]? with
 |none=>
  symm
  rw[List.getElem?_eq_none_iff]at hc⊢
  rw[dL]at hc;omega
 |some c=>
  rcases fA hnd hlt (by omega) hc with⟨k,c0,h1,h2,h3⟩|h1
  ·have hk:k<ps.length:=by have:=(List.getElem?_eq_some_iff.1 h2).1;omega
   have hp:ps[k]? =some ps[k]:=List.getElem?_eq_getElem hk
   rw[h1,bV hp,cM hcells hp,h2,h3];rfl
  ·exact h1.2.2.symm
def DoesX(P:Program)(H:List Cell)(ρ:Operand→AV)(op:Op)(r:AV):Prop:=DoesP P H ρ op r∨∃p,sliceX P H ρ op=some (p,r)∧p
theorem rK{X:Ctx}{st:St}{o:Oper}{a:Act}{ρ:Operand→AV}{K:Act→World→Prop}{Q:Exit→Act→World→Prop}(h:RR X M loc st a w)(hρ:∀x∈o.op.operands,Rep w M loc (a.eval x) (ρ x))(hlt:∀x∈o.op.operands,(ρ x).idLt st.heap.length){r:AV}
  (hd:DoesX P st.heap ρ o.op r) (hk:∀v w' M',RR X M' loc st a w'→Rep w' M' loc v r→K (a.put o.dst v) w'):o.wp P a w K Q:=by
 rcases hd with hd|⟨p,he,hp⟩
 ·exact jD h hρ hlt hd hk
 ·obtain⟨v,h1,h2⟩:=yZ (fun id o ho=>h.obj id o ho) hρ he hp
  unfold Oper.wp
  rw[h1]
  exact hk v w M h h2
def AV.un0:AV→AV
 | .mb true y=>y
 |y=>y
def unE(env:Nat→AV):Nat→AV:=fun s=>(env s).un0
theorem FI{x:Value}{e:AV}(h:Rep w M loc x e):Rep w M loc x e.un0:=by
 cases e with
 |mb g y=>
  cases g with
  |true=>exact h.2 rfl
  |false=>exact h
 |_=>exact h
theorem I2{e:AV}{n:Nat}(h:e.idLt n):e.un0.idLt n:=by
 cases e with
 |mb g y=>cases g<;>exact h
 |_=>exact h
theorem RR.unE{X:Ctx}{st:St}{a:Act}(h:RR X M loc st a w):RR X M loc ⟨Ab.unE st.env,st.heap⟩ a w:=
 {h with env:=fun s=>FI (h.env s),ids:=fun s=>I2 (h.ids s)}
def StepX(P:Program)(ops:Array Oper)(n:Nat)(o:Oper)(st st':St):Prop:=
 (∀d,o.dst=some d→d<n)∧
 match o.guard with
 |none=>(∃r,DoesX P st.heap (ev st.env) o.op r∧r.idLt st.heap.length∧st'=⟨putE st.env o.dst r,st.heap⟩)∨(∃c r H',o.op=.call c∧CallHA P st.heap (ev st.env) c r H'∧st'=⟨putE st.env o.dst r,H'⟩)∨
   (∃c r,o.op=.call c∧CallAk P st.heap (ev st.env) c r∧st'=⟨putE st.env o.dst r,killH st.heap ((c.args.toList.map (ev st.env)).flatMap AV.ids)⟩)∨
   (∃c r H',o.op=.call c∧CallXA P st.heap (ev st.env) c r H'∧st'=⟨putE st.env o.dst r,H'⟩)∨
   ∃c r l,o.op=.call c∧frzOK st.heap l∧CallAk P (frzRows st.heap l) (ev st.env) c r∧st'=⟨putE st.env o.dst r,killH (frzRows st.heap l) ((c.args.toList.map (ev st.env)).flatMap AV.ids)⟩
 |some (j,b)=>(∃gb r sel,gvOf ops st.env j b=some gb∧(∀x∈o.op.operands,sel x=true→(ev st.env x).okU gb)∧r.idLt st.heap.length∧
   (gb=true→DoesP P st.heap (evS st.env sel) o.op r∨∃c,o.op=.call c∧CallHA P st.heap (evS st.env sel) c r st.heap)∧st'=⟨putE st.env o.dst (.mb gb r),st.heap⟩)∨
   (gvOf ops st.env j b=some true∧∃p r H',effA P st.heap (ev (unE st.env)) o.op=some (p,r,H')∧p∧r.idLt H'.length∧st'=⟨putE (unE st.env) o.dst r,H'⟩)∨
   (gvOf ops st.env j b=some true∧∃c r H',o.op=.call c∧CallHA P st.heap (ev (unE st.env)) c r H'∧st'=⟨putE (unE st.env) o.dst r,H'⟩)
theorem gE{X:Ctx}{st st':St}{ops:Array Oper}{o:Oper}{a:Act}{K:Act→World→Prop}{Q:Exit→Act→World→Prop}(hs:StepX P ops X.n o st st')(hr:R X st a w)(hk:∀a' w',R X st' a' w'→K a' w'):
  if Region.wanted o (yielded ops a.tmps)=true then o.wp P a w K Q else K (a.put o.dst undef) w:=by
 obtain⟨M,loc,h⟩:=hr
 obtain⟨hd,hs⟩:=hs
 have callCase:∀{c:Call} {ρ:Operand→AV} {r:AV} {H':List Cell} {K:Act→World→Prop},o.op=.call c→(∀x∈o.op.operands,Rep w M loc (a.eval x) (ρ x))→CallHA P st.heap ρ c r H'→
   (∀v w' M' loc',RR X M' loc' ⟨st.env,H'⟩ a w'→Rep w' M' loc' v r→r.idLt H'.length→K (a.put o.dst v) w')→o.wp P a w K Q:=by
  intro c ρ r H' K hop hρ hc hk
  obtain⟨f,vs,h1,h2⟩:=jZ h hop hρ hc
  unfold Oper.wp
  rw[h1]
  refine h2.mono fun e w' hh=>?_
  obtain⟨x,M',loc',rfl,h3,h4,h5⟩:=hh
  exact hk x w' M' loc' h3 h4 h5
 split at hs
 ·rename_i hg
  have hw:Region.wanted o (yielded ops a.tmps)=true:=by simp[Region.wanted,hg]
  rw[if_pos hw]
  rcases hs with⟨r,hdo,hi,rfl⟩|⟨c,r,H',hop,hc,rfl⟩|⟨c,r,hop,hc,rfl⟩|⟨c,r,H',hop,hc,rfl⟩|⟨c,r,l,hop,hf,hc,rfl⟩
  ·exact rK h (fun x _=>h.ev x) (fun x _=>h.evLt x) hdo fun v w' M' h1 h2=>hk _ _ ⟨M',loc,h1.putO hd h2 hi⟩
  ·exact callCase hop (fun x _=>h.ev x) hc fun v w' M' loc' h1 h2 h3=>hk _ _ ⟨M',loc',h1.putO hd h2 h3⟩
  ·have hzr:r.zone=true:=by obtain⟨_,_,_,_,_,_,_,hz,_⟩:=hc;exact hz
   obtain⟨f,vs,h1,h2⟩:=oK h hop (fun x _=>h.ev x) hc
   unfold Oper.wp
   rw[h1]
   refine h2.mono fun e w' hh=>?_
   obtain⟨x,M',rfl,h3,h4⟩:=hh
   exact hk _ _ ⟨M',loc,h3.putO hd h4 (bC hzr _)⟩
  ·obtain⟨f,vs,h1,h2⟩:=zL h hop (fun x _=>h.ev x) hc
   unfold Oper.wp
   rw[h1]
   refine h2.mono fun e w' hh=>?_
   obtain⟨x,M',loc',rfl,h3,h4,h5⟩:=hh
   exact hk _ _ ⟨M',loc',h3.putO hd h4 h5⟩
  ·have hzr:r.zone=true:=by obtain⟨_,_,_,_,_,_,_,hz,_⟩:=hc;exact hz
   obtain⟨M1,_,hr1⟩:=h.frzRows l hf
   obtain⟨f,vs,h1,h2⟩:=oK hr1 hop (fun x _=>hr1.ev x) hc
   unfold Oper.wp
   rw[h1]
   refine h2.mono fun e w' hh=>?_
   obtain⟨x,M',rfl,h3,h4⟩:=hh
   exact hk _ _ ⟨M',loc,h3.putO hd h4 (bC hzr _)⟩
 ·rename_i j b hg
  rcases hs with⟨gb,r,sel,hv,hok,hi,hdo,rfl⟩|⟨hv,p,r,H',he,hp,hi,rfl⟩|⟨hv,c,r,H',hop,hc,rfl⟩
  rotate_right
  ·have hw:=jE h hg hv
   rw[hw,if_pos rfl]
   obtain⟨f,vs,h1,h2⟩:=jZ h.unE hop (fun x _=>h.unE.ev x) hc
   unfold Oper.wp
   rw[h1]
   refine h2.mono fun e w' hh=>?_
   obtain⟨x,M',loc',rfl,h3,h4,h5⟩:=hh
   exact hk _ _ ⟨M',loc',h3.putO hd h4 h5⟩
  rotate_left
  ·have hw:=jE h hg hv
   rw[hw,if_pos rfl]
   obtain⟨nx,w',loc',v,h1,h2,h3,h4,h5⟩:=pT (o:=o) h.unE he hp
   unfold Oper.wp
   rw[h1]
   have hfin:K (a.put o.dst v) w':=hk _ _ ⟨M,loc',h3.putO hd h4 h5⟩
   rcases h2 with rfl|⟨rfl,rfl⟩
   ·exact hfin
   ·exact hfin
  have hw:=jE h hg hv
  rw[hw]
  cases gb with
  |true=>
   rw[if_pos rfl]
   rcases hdo rfl with hdo|⟨c,hop,hc⟩
   ·exact jD h (fun x hx=>qD (h.ev x) rfl (hok x hx)) (fun x _=>BM (h.evLt x)) hdo fun v w' M' h1 h2=>hk _ _ ⟨M',loc,h1.putO hd ⟨(fun e=>by cases e),fun _=>h2⟩ hi⟩
   ·exact callCase hop (fun x hx=>qD (h.ev x) rfl (hok x hx)) hc fun v w' M' loc' h1 h2 h3=>hk _ _ ⟨M',loc',h1.putO hd ⟨(fun e=>by cases e),fun _=>h2⟩ hi⟩
  |false=>
   rw[if_neg (by simp)]
   exact hk _ _ ⟨M,loc,h.putO hd ⟨fun _=>rfl,fun e=>by cases e⟩ hi⟩
def StepN(P:Program)(ops:Array Oper)(n:Nat)(dr:Bool)(o:Oper)(st st':St):Prop:=StepR P ops n o st st'∨(dr=false∧StepX P ops n o st st')
def RunN(P:Program)(ops:Array Oper)(n:Nat)(dr:Bool):List Oper→St→St→Prop
 | [],st,st'=>st'=st
 |o::l,st,st'=>∃st1,StepN P ops n dr o st st1∧RunN P ops n dr l st1 st'
theorem RunN.drawn{ops:Array Oper}{n:Nat}:∀{l:List Oper} {st st':St},RunN P ops n true l st st'→RunR P ops n l st st'
 | [],_,_,h=>h
 |o::l,st,st',⟨st1,h1,h2⟩=>⟨st1,h1.elim id (fun h=>by cases h.1),RunN.drawn h2⟩
end
end Go.Ab
namespace Go.Ab
open Go.RowKit
variable{P:Program}
def PanicH(P:Program)(f:FuncId)(H:List Cell)(args:List AV)(pv:Value):Prop:=
 ∀(w:World) (M:Nat→Prop) (loc:Nat→Value) (vs:Array Value),(∀b,M b→b<w.heap.size)→GlobW w M→HeapS (blks H loc) M loc H w→vs.size=args.length→
  (∀(j:Nat) (x:Value) (e:AV),vs[j]? =some x→args[j]? =some e→Rep w M loc x e∧e.idLt H.length)→
  Calls P f vs w fun e w'=>e=.panicked [{v:=pv,recovered:=false}]∧BelowT (blks H loc) w w'
def panQ(pv:Value):Exit→St→Prop
 | .panic ch,_=>ch=[{v:=pv,recovered:=false}]
 |_,_=>False
theorem pB{f:FuncId}{fn:Func}{c:Code}{H:List Cell}{args:List AV}{pv:Value}(hf:P.funcs[f]? =some fn)(hb:fn.body=some c)(hn:args.length≤fn.ntmps)(hG:fn.ntmps≤G0)
  (h:∀X:Ctx,X.n=fn.ntmps→AWP P X c (panQ pv) ⟨ghE H.length (argE 0 args),H⟩):PanicH P f H args pv:=by
 intro w M loc vs hM hgl hH hl hvs
 refine calls_of_wp hf hb ?_
 obtain⟨X,t,hXn,hd,hrr⟩:=kD hn hG hM hgl hH hl hvs
 refine wp_mono (h X hXn _ w hrr) fun e a' w' ⟨st',hq,hr⟩=>?_
 obtain⟨M',loc',hr'⟩:=hr
 cases e with
 |panic ch=>
  have hq:ch=[{v:=pv,recovered:=false}]:=hq
  subst hq
  have hb:=hr'.below
  rw[t.w0,t.T]at hb
  exact⟨by rw[hr'.defers,hd],rfl,hb⟩
 |_=>exact hq.elim
theorem yD{f:FuncId}{fn:Func}{c:Code}{H:List Cell}{args:List AV}{pv:Value}(m N:Nat)(hf:P.funcs[f]? =some fn)(hb:fn.body=some c)(hN:fn.ntmps=N)(hn:args.length≤N)(hG:N≤G0)(hm:H.length=m)
  (h:∀X:Ctx,X.n=N→AWP P X c (panQ pv) ⟨ghE m (argE 0 args),H⟩):PanicH P f H args pv:=by
 subst hN;subst hm
 exact pB hf hb hn hG h
def OutH(P:Program)(f:FuncId)(H:List Cell)(args:List AV):Value ⊕ AV×List Cell→Prop
 | .inl v=>PanicH P f H args v
 | .inr (r,H')=>MeansH P f H args r H'
def outQ(P:Program)(rs:List ResultVar)(m:Nat):Value ⊕ AV×List Cell→Exit→St→Prop
 | .inl v=>panQ v
 | .inr (r,H')=>retH P rs m r H'
theorem cN{f:FuncId}{fn:Func}{c:Code}{H:List Cell}{args:List AV}{o:Value ⊕ AV×List Cell}(m N:Nat)(rs:List ResultVar)(hf:P.funcs[f]? =some fn)(hb:fn.body=some c)(hN:fn.ntmps=N)(hrs:fn.results.toList=rs)(hn:args.length≤N)(hG:N≤G0)(hm:H.length=m)
  (h:∀X:Ctx,X.n=N→AWP P X c (outQ P rs m o) ⟨ghE m (argE 0 args),H⟩):OutH P f H args o:=by
 subst hN;subst hrs;subst hm
 cases o with
 |inl v=>exact pB hf hb hn hG h
 |inr p=>exact kE hf hb hn hG h
def panCh(v:Value):Exit:=.panic [{v:=v,recovered:=false}]
def deadAll(H:List Cell):List Cell:=H.map fun _=>.dead
def PanicX(P:Program)(f:FuncId)(H:List Cell)(args:List AV)(pv:Value)(H':List Cell):Prop:=
 ∀(w:World) (M:Nat→Prop) (loc:Nat→Value) (vs:Array Value),(∀b,M b→b<w.heap.size)→GlobW w M→HeapS (blks H loc) M loc H w→vs.size=args.length→
  (∀(j:Nat) (x:Value) (e:AV),vs[j]? =some x→args[j]? =some e→Rep w M loc x e∧e.idLt H.length)→
  Calls P f vs w fun e w'=>e=.panicked [{v:=pv,recovered:=false}]∧PostH w M loc H .bad H' (.returned undef) w'
theorem PanicH.x{f:FuncId}{H:List Cell}{args:List AV}{pv:Value}(h:PanicH P f H args pv):PanicX P f H args pv (deadAll H):=by
 intro w M loc vs hM hgl hS hvs ha
 have dead:∀{id:Nat} {c:Cell},(deadAll H)[id]? =some c→c=.dead:=fun{id c} hc=>by
  unfold deadAll at hc
  rw[List.getElem?_map]at hc
  cases hh:H[id]? with
  |none=>rw[hh]at hc;cases hc
  |some q=>rw[hh]at hc;cases hc;rfl
 refine(h w M loc vs hM hgl hS hvs ha).mono fun e w' ⟨he,hb⟩=>⟨he,undef,M,loc,rfl,⟨fun i o ho=>?_,fun i j oi oj _ hi=>?_,fun i m hm=>?_,fun i j mi mj _ hi=>?_,fun i hi=>hS.one i (by simpa[deadAll]using hi)⟩,hb,fun _ h=>h,
  fun b hb'=>⟨Nat.lt_of_lt_of_le (hM b hb') hb.size,.inl hb'⟩,fun _ _=>rfl,(RepZ.bad _).rep,trivial,by simp[deadAll]⟩
 ·cases dead ho
 ·cases dead hi
 ·cases dead hm
 ·cases dead hi
theorem CT{w:World}{M:Nat→Prop}{loc:Nat→Value}{X:Ctx}{st:St}{a:Act}(h:RR X M loc st a w){f:FuncId}{H:List Cell}{args:List AV}{pv:Value}{H':List Cell}(hm:PanicX P f H args pv H')(ps:List Nat)(hnd:ps.Nodup)(hlen:H.length=ps.length)(hlt:∀c∈ps,c<st.heap.length)
  (hcell:∀i,i<ps.length→st.heap[upN ps st.heap.length i]? =H[i]?.map (renCell (upN ps st.heap.length))) (hids:okIds H.length H)
  {vs:Array Value} (hvs:vs.size=args.length) (hargs:∀(j:Nat) (x:Value) (e:AV),vs[j]? =some x→args[j]? =some e→Rep w M loc x (ren (upN ps st.heap.length) e)∧e.idLt H.length):
  Calls P f vs w fun e w'=>e=.panicked [{v:=pv,recovered:=false}]∧R X ⟨st.env,heapAfter st.heap ps H'⟩ a w':=by
 refine(jL (C:=Calls P f vs w) (E:=fun e _=>e=.panicked [{v:=pv,recovered:=false}]) (r:=.bad) (H':=H') (fun _ _ hi hc=>hc.mono hi) h (fun loc hS ha=>?_) ps hnd hlen hlt hcell hids hargs).mono fun e w' ⟨_,M',loc',h1,h2,_⟩=>⟨h1,M',loc',h2⟩
 exact(hm w M loc vs (fun b hb=>(h.zone b hb).1) (h.globW fun _ hb=>hb) hS hvs ha).mono fun e w' ⟨he,x,M',loc',_,hr⟩=>⟨x,M',loc',he,hr⟩
def CallPA(P:Program)(H:List Cell)(ρ:Operand→AV)(c:Call)(pv:Value)(H2:List Cell):Prop:=
 ∃f first cap ps Hl largs Hp,tgt ρ c.callee=some (f,first,cap)∧callable P f=true∧PanicX P f Hl largs pv Hp∧CallHC H (first++c.args.toList.map ρ++cap) ps Hl largs∧H2=heapAfter H ps Hp
theorem kJ{w:World}{M:Nat→Prop}{loc:Nat→Value}{X:Ctx}{st:St}{o:Oper}{a:Act}{ρ:Operand→AV}(h:RR X M loc st a w){c:Call}(ho:o.op=.call c)(hρ:∀x∈o.op.operands,Rep w M loc (a.eval x) (ρ x)){pv:Value}{H2:List Cell}(hc:CallPA P st.heap ρ c pv H2):
  ∃f vs,(execOp a.eval o).run P w=.ok (.enter f vs) w∧Calls P f vs w fun e w'=>e=.panicked [{v:=pv,recovered:=false}]∧R X ⟨st.env,H2⟩ a w':=by
 obtain⟨f,first,cap,ps,Hl,largs,Hp,ht,hcall,hm,⟨hnd,hlt,hcells,hids,hargs⟩,rfl⟩:=hc
 obtain⟨vs,h1,h2,h3⟩:=dU h ho hρ ht hcall hargs
 refine⟨f,vs,h1,CT h hm ps hnd (bO hcells) hlt (fun i hi=>?_) (cP hids) h2 h3⟩
 have hp:ps[i]? =some ps[i]:=List.getElem?_eq_getElem hi
 rw[bV hp]
 exact cM hcells hp
def panX(P:Program)(m:Nat)(pv:Value)(H':List Cell):Exit→St→Prop
 | .panic ch,st=>ch=[{v:=pv,recovered:=false}]∧retH P [] m (.tup []) H' .ret st
 |_,_=>False
theorem pC{f:FuncId}{fn:Func}{c:Code}{H H':List Cell}{args:List AV}{pv:Value}(hf:P.funcs[f]? =some fn)(hb:fn.body=some c)(hn:args.length≤fn.ntmps)(hG:fn.ntmps≤G0)
  (h:∀X:Ctx,X.n=fn.ntmps→AWP P X c (panX P H.length pv H') ⟨ghE H.length (argE 0 args),H⟩):PanicX P f H args pv H':=by
 intro w M loc vs hM hgl hH hl hvs
 refine calls_of_wp hf hb ?_
 obtain⟨X,t,hXn,hd,hrr⟩:=kD hn hG hM hgl hH hl hvs
 refine wp_mono (h X hXn _ w hrr) fun e a' w' ⟨st',hq,hr⟩=>?_
 have hdf:a'.defers=[]:=by obtain⟨_,_,h1⟩:=hr;rw[h1.defers,hd]
 cases e with
 |panic ch=>
  obtain⟨hq,hq2⟩:ch=_∧_:=hq
  subst hq
  obtain⟨v,_,x,M',loc',_,hr1,hr2,hr3,hr4,hr5,_,_,hr8⟩:=dC (fn:={fn with results:= #[]}) t hr hq2
  exact⟨hdf,rfl,undef,M',loc',rfl,hr1,hr2,hr3,hr4,hr5,(RepZ.bad _).rep,trivial,hr8⟩
 |_=>exact hq.elim
def OutX(P:Program)(f:FuncId)(H:List Cell)(args:List AV):Value ⊕ AV→List Cell→Prop
 | .inl v,H'=>PanicX P f H args v H'
 | .inr r,H'=>MeansH P f H args r H'
def outX(P:Program)(rs:List ResultVar)(m:Nat):Value ⊕ AV→List Cell→Exit→St→Prop
 | .inl v,H'=>panX P m v H'
 | .inr r,H'=>retH P rs m r H'
theorem aN{f:FuncId}{fn:Func}{c:Code}{H:List Cell}{args:List AV}{o:Value ⊕ AV}{H':List Cell}(m N:Nat)(rs:List ResultVar)(hf:P.funcs[f]? =some fn)(hb:fn.body=some c)(hN:fn.ntmps=N)(hrs:fn.results.toList=rs)(hn:args.length≤N)(hG:N≤G0)(hm:H.length=m)
  (h:∀X:Ctx,X.n=N→AWP P X c (outX P rs m o H') ⟨ghE m (argE 0 args),H⟩):OutX P f H args o H':=by
 subst hN;subst hrs;subst hm
 cases o with
 |inl v=>exact pC hf hb hn hG h
 |inr p=>exact kE hf hb hn hG h
theorem kK{f:FuncId}{fn:Func}{c:Code}{H H':List Cell}{args:List AV}{pv:Value}(m N:Nat)(hf:P.funcs[f]? =some fn)(hb:fn.body=some c)(hN:fn.ntmps=N)(hn:args.length≤N)(hG:N≤G0)(hm:H.length=m)
  (h:∀X:Ctx,X.n=N→AWP P X c (panX P m pv H') ⟨ghE m (argE 0 args),H⟩):PanicX P f H args pv H':=by
 subst hN;subst hm
 exact pC hf hb hn hG h
theorem aZ{m:Nat}{pv:Value}{H':List Cell}{st:St}(L:List (Nat×AV))(HS:List Src)(h:okS HS st.heap HS∧okL HS st L∧HS.map Src.cell=H'∧m≤HS.length∧okG L m):panX P m pv H' (panCh pv) st:=
 ⟨rfl,L,HS,h.1,h.2.1,h.2.2.1,h.2.2.2.1,h.2.2.2.2,.inl (by simp[resHL,packA])⟩
def MeansE(P:Program)(f:FuncId)(H:List Cell)(args:List AV)(S:AV→List Cell→Prop):Prop:=
 ∀(w:World) (M:Nat→Prop) (loc:Nat→Value) (vs:Array Value),(∀b,M b→b<w.heap.size)→GlobW w M→HeapS (blks H loc) M loc H w→vs.size=args.length→
  (∀(j:Nat) (x:Value) (e:AV),vs[j]? =some x→args[j]? =some e→Rep w M loc x e∧e.idLt H.length)→
  Calls P f vs w fun e w'=>∃r H',S r H'∧PostH w M loc H r H' e w'
theorem MeansH.e{f:FuncId}{H:List Cell}{args:List AV}{r:AV}{H':List Cell}{S:AV→List Cell→Prop}(h:MeansH P f H args r H')(hS:S r H'):MeansE P f H args S:=
 fun w M loc vs hM hgl hH hl hvs=>(h w M loc vs hM hgl hH hl hvs).mono fun _ _ hp=>⟨r,H',hS,hp⟩
theorem MeansE.imp{f:FuncId}{H:List Cell}{args:List AV}{S S':AV→List Cell→Prop}(h:MeansE P f H args S)(hS:∀r H',S r H'→S' r H'):MeansE P f H args S':=
 fun w M loc vs hM hgl hH hl hvs=>(h w M loc vs hM hgl hH hl hvs).mono fun _ _ ⟨r,H',h1,hp⟩=>⟨r,H',hS r H' h1,hp⟩
def CallEA(P:Program)(H:List Cell)(ρ:Operand→AV)(c:Call)(K:AV→List Cell→Prop):Prop:=
 ∃f first cap ps Hl largs S,tgt ρ c.callee=some (f,first,cap)∧callable P f=true∧MeansE P f Hl largs S∧CallHC H (first++c.args.toList.map ρ++cap) ps Hl largs∧∀r0 H',S r0 H'→K (ren (upN ps H.length) r0) (heapAfter H ps H')
theorem zM{w:World}{M:Nat→Prop}{loc:Nat→Value}{X:Ctx}{st:St}{o:Oper}{a:Act}{ρ:Operand→AV}(h:RR X M loc st a w){c:Call}(ho:o.op=.call c)(hρ:∀x∈o.op.operands,Rep w M loc (a.eval x) (ρ x)){K:AV→List Cell→Prop}(hc:CallEA P st.heap ρ c K):
  ∃f vs,(execOp a.eval o).run P w=.ok (.enter f vs) w∧Calls P f vs w fun e w'=>∃r H2,K r H2∧∃x M' loc',e=.returned x∧RR X M' loc' ⟨st.env,H2⟩ a w'∧Rep w' M' loc' x r∧r.idLt H2.length:=by
 obtain⟨f,first,cap,ps,Hl,largs,S,ht,hcall,hm,⟨hnd,hlt,hcells,hids,hargs⟩,hK⟩:=hc
 obtain⟨vs,h1,h2,h3⟩:=dU h ho hρ ht hcall hargs
 refine⟨f,vs,h1,?_⟩
 have hcell:∀i,i<ps.length→st.heap[upN ps st.heap.length i]? =Hl[i]?.map (renCell (upN ps st.heap.length)):=fun i hi=>by
  have hp:ps[i]? =some ps[i]:=List.getElem?_eq_getElem hi
  rw[bV hp]
  exact cM hcells hp
 refine(oP (C:=Calls P f vs w) (E:=fun e x=>e=.returned x) (S:=S) (fun _ _ hi hc=>hc.mono hi) h (fun loc hS ha=>(hm w M loc vs (fun b hb=>(h.zone b hb).1) (h.globW fun _ hb=>hb) hS h2 ha).mono fun _ _ hp=>hp) ps hnd (bO hcells) hlt hcell (cP hids) h3).mono fun e w' ⟨r,H',hS,x,M',loc',hh⟩=>⟨_,_,hK r H' hS,x,M',loc',hh⟩
def panV(ρ:Operand→AV):Op→Option Value
 | .panic x=>match ρ x with
   | .v (.iface t v)=>some (.iface t v)
   |_=>none
 |_=>none
theorem FJ{w:World}{M:Nat→Prop}{loc:Nat→Value}{X:Ctx}{st:St}{o:Oper}{a:Act}(h:RR X M loc st a w){pv:Value}(hp:panV (ev st.env) o.op=some pv):(execOp a.eval o).run P w=.halt (.panic pv) w:=by
 obtain⟨dst,op,ty,pos,after,guard⟩:=o
 simp only[]at hp
 cases op<;>simp only[panV,reduceCtorEq]at hp
 case panic x=>
  split at hp
  ·rename_i t v e1
   have hx:=h.ev x
   rw[e1]at hx
   cases hp
   have hv:=hx.v_inv
   simp only[execOp,hv,Instr.panic,goPanic]
   rfl
  ·cases hp
end Go.Ab
namespace Go.Ab
open Go.RowKit
def evU(env:Nat→AV):Operand→AV:=fun x=>(ev env x).un
def CallK(P:Program)(f:FuncId)(args:List AV)(b ok:Bool)(H:List Cell)(raw:List AV)(dr s:Bool)(qp:Value→List Cell→Prop)(k:Bool→AV→List Cell→Prop):Prop:=
 (ok=true∧∃fr r,Means fr P f args r∧r.zone=true∧(fr=true∨r.scal=true∨b=false)∧k true r H)∨
 (dr=false∧∃ps Hl largs r0 H',MeansH P f Hl largs r0 H'∧CallHC H raw ps Hl largs∧k true (ren (upN ps H.length) r0) (heapAfter H ps H'))∨
 (dr=false∧ok=true∧∃r,Means false P f args r∧r.zone=true∧k true r (killH H (raw.flatMap AV.ids)))∨
 (dr=false∧∃ps qs Hl largs r0 H',MeansX P f ps.length Hl largs r0 H'∧CallHC H raw (ps++qs) Hl largs∧k true (ren (upN ps H.length) r0) (heapAfter (killH H qs) ps H'))∨
 (dr=false∧s=true∧∃l r,frzOK H l∧(raw.map (argA (frzRows H l))).all AV.argOK=true∧Means false P f (raw.map (argA (frzRows H l))) r∧r.zone=true∧k true r (killH (frzRows H l) (raw.flatMap AV.ids)))∨
 (dr=false∧∃pv ps Hl largs Hp,PanicX P f Hl largs pv Hp∧CallHC H raw ps Hl largs∧qp pv (heapAfter H ps Hp))∨
 (dr=false∧∃ps Hl largs S,MeansE P f Hl largs S∧CallHC H raw ps Hl largs∧∀r0 H',S r0 H'→k true (ren (upN ps H.length) r0) (heapAfter H ps H'))
def CallG(P:Program)(f:FuncId)(args:List AV)(b gb ok:Bool)(H:List Cell)(raw:List AV)(dr:Bool)(k:Bool→AV→Prop)(kk:Bool→AV→List Cell→Prop)(qp:Value→List Cell→Prop):Prop:=
 (ok=true∧∃r,(gb=true→∃fr,Means fr P f args r∧(fr=true∨r.scal=true∨b=false))∧r.zone=true∧k true r)∨
 (dr=false∧∃ps Hl largs r0,(gb=true→MeansH P f Hl largs r0 Hl)∧CallHC H raw ps Hl largs∧r0.idLt Hl.length∧k true (ren (upN ps H.length) r0))∨
 (gb=false∧k true .bad)∨
 (gb=true∧dr=false∧∃ps Hl largs r0 H',MeansH P f Hl largs r0 H'∧CallHC H raw ps Hl largs∧kk true (ren (upN ps H.length) r0) (heapAfter H ps H'))∨
 (gb=true∧dr=false∧∃pv ps Hl largs Hp,PanicX P f Hl largs pv Hp∧CallHC H raw ps Hl largs∧qp pv (heapAfter H ps Hp))
theorem sN{P:Program}{f:FuncId}{args args':List AV}{b b' ok ok':Bool}{H H':List Cell}{raw raw':List AV}{dr s s':Bool}{qp:Value→List Cell→Prop}{k:Bool→AV→List Cell→Prop}(h:args=args')(hb:b=b')(ho:ok=ok')(hH:H=H')(hr:raw=raw')(hs:s=s'):CallK P f args b ok H raw dr s qp k=CallK P f args' b' ok' H' raw' dr s' qp k:=by rw[h,hb,ho,hH,hr,hs]
theorem sO{P:Program}{f:FuncId}{args args':List AV}{b b' gb gb' ok ok':Bool}{H H':List Cell}{raw raw':List AV}{dr:Bool}{k:Bool→AV→Prop}{kk:Bool→AV→List Cell→Prop}{qp:Value→List Cell→Prop}(h:args=args')(hb:b=b')(hg:gb=gb')(ho:ok=ok')(hH:H=H')(hr:raw=raw'):CallG P f args b gb ok H raw dr k kk qp=CallG P f args' b' gb' ok' H' raw' dr k kk qp:=by rw[h,hb,hg,ho,hH,hr]
theorem zN{P:Program}{X:Ctx}{c:Code}{Q:Exit→St→Prop}{st st':St}(h:st=st'):AWP P X c Q st=AWP P X c Q st':=by rw[h]
attribute [congr] sN sO zN
def doF(P:Program)(dr:Bool)(H:List Cell)(ρ:Operand→AV):Op→Option (Prop×AV×List Cell)
 | .alloc e=>eff P H ρ (.alloc e)
 | .box e x=>eff P H ρ (.box e x)
 | .buildSlice t n ps=>eff P H ρ (.buildSlice t n ps)
 | .makeSlice t l c=>eff P H ρ (.makeSlice t l c)
 | .store t d x=>eff P H ρ (.store t d x)
 | .makeMap t r=>mapEff P H ρ (.makeMap t r)
 | .mapUpdate t m k x=>mapEff P H ρ (.mapUpdate t m k x)
 | .lookup t m k ok=>(mapPur P H ρ (.lookup t m k ok)).map fun(p,r)=>(p∧(dr=true→subIds r (tch ρ (.lookup t m k ok))),r,H)
 | .build t ps=>(buildA P ρ t ps.toList).map fun(p,r)=>(p∧(dr=true→subIds r (tch ρ (.build t ps))),r,H)
 | .call c=>match c.callee with
   | .builtin .append=>eff P H ρ (.call c)
   | .builtin .clear=>eff P H ρ (.call c)
   | .builtin .copy=>eff P H ρ (.call c)
   | .builtin _=>(pur P H ρ (.call c)).map fun(p,r)=>(p∧(dr=true→subIds r (tch ρ (.call c))),r,H)
   |_=>none
 | .slice t x lo hi mx=>match ρ x with
   | .ow _=>bif dr then none else(sliceX P H ρ (.slice t x lo hi mx)).map fun(p,r)=>(p,r,H)
   |_=>(pur P H ρ (.slice t x lo hi mx)).map fun(p,r)=>(p∧(dr=true→subIds r (tch ρ (.slice t x lo hi mx))),r,H)
 | .convert s d x=>match convB P ρ (.convert s d x)with
   |some (p,r)=>some (p∧(dr=true→subIds r (tch ρ (.convert s d x))),r,H)
   |none=>(pur P H ρ (.convert s d x)).map fun(p,r)=>(p∧(dr=true→subIds r (tch ρ (.convert s d x))),r,H)
 |op=>(pur P H ρ op).map fun(p,r)=>(p∧(dr=true→subIds r (tch ρ op)),r,H)
def doG(P:Program)(H:List Cell)(ρ:Operand→AV):Op→Option (Prop×AV)
 | .build t ps=>buildA P ρ t ps.toList
 | .call c=>match c.callee with
   | .builtin _=>pur P H ρ (.call c)
   |_=>none
 | .lookup t m k ok=>mapPur P H ρ (.lookup t m k ok)
 | .makeMap .. =>none
 | .mapUpdate .. =>none
 |op=>pur P H ρ op
def dOK(n:Nat):Option Nat→Prop
 |some d=>d<n
 |none=>True
def okUL(g:Bool)(env:Nat→AV):List Operand→Prop
 | []=>True
 |x::l=>(ev env x).okU g∧okUL g env l
def selOf:Op→Operand→Bool
 | .pick c _ _=>fun x=>match x,c with
   | .tmp a,.tmp b=>a==b
   |_,_=>true
 |_=>fun _=>true
def okUS(g:Bool)(env:Nat→AV)(sel:Operand→Bool):List Operand→Prop
 | []=>True
 |x::l=>(sel x=true→(ev env x).okU g)∧okUS g env sel l
def isCall:Op→Bool
 | .call c=>match c.callee with
   | .value _=>true
   |_=>false
 |_=>false
def argsOf:Op→Callee×List Operand
 | .call c=>(c.callee,c.args.toList)
 |_=>(.builtin .len,[])
def sliceEs(H:List Cell):AV→Option (List AV)
 | .sl es=>some es
 | .ow id=>match H[id]? with
   |some (.row o)=>some o.es
   |_=>none
 |_=>none
def nilC(P:Program)(H:List Cell)(ρ:Operand→AV):Op→Option (List AV×Bool)
 | .binOp op t x y _=>match tyk P t,sliceEs H (ρ x),ρ y,op with
   |some ⟨.slice _,_,_,_⟩,some es,.nil,.eql=>some (es,true)
   |some ⟨.slice _,_,_,_⟩,some es,.nil,.neq=>some (es,false)
   |_,_,_,_=>none
 |_=>none
def runK(P:Program)(ops:Array Oper)(n:Nat)(dr:Bool)(qp:Value→St→Prop):List Oper→Bool→(St→Prop)→St→Prop
 | [],_,K,st=>K st
 |_::_,false,_,_=>False
 |o::l,true,K,st=>dOK n o.dst∧
  match o.guard with
  |none=>
   if isCall o.op then
    match tgt (ev st.env) (argsOf o.op).1 with
    |some (f,first,cap)=>callable P f=true∧
      CallK P f (first++(argsOf o.op).2.map (fun x=>argA st.heap (ev st.env x))++cap) ((argsOf o.op).2.any fun x=>(ev st.env x).isOw) ((first++(argsOf o.op).2.map (fun x=>argA st.heap (ev st.env x))++cap).all AV.argOK)
       st.heap (first++(argsOf o.op).2.map (ev st.env)++cap) dr (first++cap).isEmpty (fun v H=>qp v ⟨st.env,H⟩)
       (fun z r H=>runK P ops n dr qp l z K ⟨putE st.env o.dst r,H⟩)
    |none=>False
   else match nilC P st.heap (ev st.env) o.op with
    |some (es,y)=>∀v:Bool,(es≠[]→v= !y)→runK P ops n dr qp l true K ⟨putE st.env o.dst (.v (.bool v)),st.heap⟩
    |none=>match doF P dr st.heap (ev st.env) o.op with
     |some (p,r,H)=>p∧r.idLt H.length∧runK P ops n dr qp l true K ⟨putE st.env o.dst r,H⟩
     |none=>match panV (ev st.env) o.op with
      |some pv=>qp pv st
      |none=>False
  |some (j,b)=>
   match gvOf ops st.env j b with
   |some gb=>okUS gb st.env (selOf o.op) o.op.operands.toList∧
    if isCall o.op then
     match tgt (evU st.env) (argsOf o.op).1 with
     |some (f,first,cap)=>callable P f=true∧
       CallG P f (first++(argsOf o.op).2.map (fun x=>argA st.heap (evU st.env x))++cap) ((argsOf o.op).2.any fun x=>(evU st.env x).isOw) gb ((first++(argsOf o.op).2.map (fun x=>argA st.heap (evU st.env x))++cap).all AV.argOK)
        st.heap (first++(argsOf o.op).2.map (evU st.env)++cap) dr
        (fun z r=>runK P ops n dr qp l z K ⟨putE st.env o.dst (.mb gb r),st.heap⟩)
        (fun z r H=>runK P ops n dr qp l z K ⟨putE (unE st.env) o.dst r,H⟩) (fun v H=>qp v ⟨unE st.env,H⟩)
     |none=>False
    else match doG P st.heap (evS st.env (selOf o.op)) o.op with
     |some (p,r)=>(gb=true→p)∧(dr=true→subIds r (tch (ev st.env) o.op))∧r.idLt st.heap.length∧runK P ops n dr qp l true K ⟨putE st.env o.dst (.mb gb r),st.heap⟩
     |none=>match gb with
      |true=>(match dr with
       |false=>(match effA P st.heap (ev (unE st.env)) o.op with
        |some (p,r,H)=>p∧r.idLt H.length∧runK P ops n false qp l true K ⟨putE (unE st.env) o.dst r,H⟩
        |none=>False)
       |true=>False)
      |false=>runK P ops n dr qp l true K ⟨putE st.env o.dst (.mb false .bad),st.heap⟩
   |none=>False
section
variable{P:Program}
theorem pU{dr:Bool}{H:List Cell}{ρ:Operand→AV}{op:Op}{p:Prop}{r:AV}{H':List Cell}(h:doF P dr H ρ op=some (p,r,H'))(hp:p):
  (DoesP P H ρ op r∧(dr=true→subIds r (tch ρ op))∧H'=H)∨(effA P H ρ op=some (p,r,H'))∨(dr=false∧(∃q,sliceX P H ρ op=some (q,r)∧q)∧H'=H):=by
 have viaP:(purA P H ρ op).map (fun(p,r)=>(p∧(dr=true→subIds r (tch ρ op)),r,H))=some (p,r,H')→(DoesP P H ρ op r∧(dr=true→subIds r (tch ρ op))∧H'=H)∨(effA P H ρ op=some (p,r,H'))∨(dr=false∧(∃q,sliceX P H ρ op=some (q,r)∧q)∧H'=H):=by
  intro h
  cases hq:purA P H ρ op with
  |none=>rw[hq]at h;cases h
  |some pr=>
   obtain⟨p',r'⟩:=pr
   rw[hq]at h
   simp only[Option.map_some,Option.some.injEq,Prod.mk.injEq]at h
   obtain⟨rfl,rfl,rfl⟩:=h
   exact .inl ⟨.inl ⟨_,hq,hp.1⟩,hp.2,rfl⟩
 have viaE:effA P H ρ op=some (p,r,H')→(DoesP P H ρ op r∧(dr=true→subIds r (tch ρ op))∧H'=H)∨(effA P H ρ op=some (p,r,H'))∨(dr=false∧(∃q,sliceX P H ρ op=some (q,r)∧q)∧H'=H):=fun h=>.inr (.inl h)
 cases op<;>first|exact viaP h|exact viaE h|skip
 case build t ps=>
  simp only[doF]at h
  cases hq:buildA P ρ t ps.toList with
  |none=>rw[hq]at h;cases h
  |some pr=>
   obtain⟨p',r'⟩:=pr
   rw[hq]at h
   simp only[Option.map_some,Option.some.injEq,Prod.mk.injEq]at h
   obtain⟨rfl,rfl,rfl⟩:=h
   exact .inl ⟨.inr (.inl ⟨t,ps,_,rfl,hq,hp.1⟩),hp.2,rfl⟩
 case convert s d x=>
  simp only[doF]at h
  split at h
  ·rename_i p' r' hq
   simp only[Option.some.injEq,Prod.mk.injEq]at h
   obtain⟨rfl,rfl,rfl⟩:=h
   exact .inl ⟨.inr (.inr (.inr ⟨_,hq,hp.1⟩)),hp.2,rfl⟩
  ·exact viaP h
 case slice t x lo hi mx=>
  simp only[doF]at h
  split at h
  ·cases dr with
   |true=>simp at h
   |false=>
    simp only[cond_false]at h
    cases hq:sliceX P H ρ (.slice t x lo hi mx)with
    |none=>rw[hq]at h;cases h
    |some pr=>
     obtain⟨p',r'⟩:=pr
     rw[hq]at h
     simp only[Option.map_some,Option.some.injEq,Prod.mk.injEq]at h
     obtain⟨rfl,rfl,rfl⟩:=h
     exact .inr (.inr ⟨rfl,⟨_,rfl,hp⟩,rfl⟩)
  ·exact viaP h
 case call c=>
  simp only[doF]at h
  split at h
  ·exact viaE h
  ·exact viaE h
  ·exact viaE h
  ·exact viaP h
  ·cases h
theorem uW{H:List Cell}{ρ:Operand→AV}{op:Op}{p:Prop}{r:AV}(h:doG P H ρ op=some (p,r))(hp:p):DoesP P H ρ op r:=by
 cases op<;>first|exact .inl ⟨_,h,hp⟩|(cases h;done)|skip
 case build t ps=>exact .inr (.inl ⟨t,ps,_,rfl,h,hp⟩)
 case call c=>
  simp only[doG]at h
  split at h
  ·exact .inl ⟨_,h,hp⟩
  ·cases h
theorem sP{g:Bool}{env:Nat→AV}{sel:Operand→Bool}{l:List Operand}(h:okUS g env sel l):∀x∈l,sel x=true→(ev env x).okU g:=by
 induction l with
 |nil=>intro x hx;cases hx
 |cons y l ih=>
  intro x hx
  rcases List.mem_cons.1 hx with rfl|hx
  ·exact h.1
  ·exact ih h.2 x hx
theorem iX{op:Op}(h:isCall op=true):∃c,op=.call c∧argsOf op=(c.callee,c.args.toList):=by
 cases op<;>simp[isCall]at h
 exact⟨_,rfl,rfl⟩
theorem mW{r:AV}(h:r.zone=true)(l:List Nat):subIds r l:=fun id hid=>absurd ((aT 0 r).1 (bC h 0) id hid) (by omega)
theorem x9{env:Nat→AV}{x:Operand}(h:(ev env x).okU true):evU env x=ev (unE env) x:=by
 cases x with
 |tmp t=>
  simp only[evU,ev]at h⊢
  split
  ·rename_i ht
   rw[if_pos ht]at h
   simp only[unE]
   cases he:env t with
   |mb g y=>
    rw[he]at h
    have:g=true:=h rfl
    subst this
    rfl
   |_=>rfl
  ·rfl
 |const v=>
  simp only[evU,ev]
  unfold ofV
  split<;>rfl
 |global g=>
  simp only[evU,ev,globV]
  split<;>rfl
 |func f=>rfl
theorem mX{ρ ρ':Operand→AV}{c:Call}(hρ:∀x∈(Op.call c).operands,ρ' x=ρ x):tgt ρ' c.callee=tgt ρ c.callee:=by
 cases hc:c.callee with
 |value x=>simp only[tgt];rw[hρ x (by simp[Op.operands,Call.operands,hc])]
 |_=>rfl
theorem kU{ρ ρ':Operand→AV}{c:Call}(hρ:∀x∈(Op.call c).operands,ρ' x=ρ x):c.args.toList.map ρ'=c.args.toList.map ρ:=
 List.map_congr_left fun x hx=>hρ x (by simp only[Op.operands,Call.operands,Array.mem_append];right;simpa using hx)
theorem zO{ops:Array Oper}{n:Nat}{dr:Bool}{qp:Value→St→Prop}{K:St→Prop}{o:Oper}{l:List Oper}{st:St}(h:runK P ops n dr qp (o::l) true K st):(∃st1,StepN P ops n dr o st st1∧runK P ops n dr qp l true K st1)∨
  (o.guard=none∧(∀d,o.dst=some d→d<n)∧∃es y,nilC P st.heap (ev st.env) o.op=some (es,y)∧∀v:Bool,(es≠[]→v= !y)→runK P ops n dr qp l true K ⟨putE st.env o.dst (.v (.bool v)),st.heap⟩)∨
  (o.guard=none∧∃pv st',qp pv st'∧((∃c,o.op=.call c∧st'.env=st.env∧CallPA P st.heap (ev st.env) c pv st'.heap)∨(panV (ev st.env) o.op=some pv∧st'=st)))∨
  (∃j b,o.guard=some (j,b)∧gvOf ops st.env j b=some true∧∃pv H2 c,qp pv ⟨unE st.env,H2⟩∧o.op=.call c∧CallPA P st.heap (ev (unE st.env)) c pv H2)∨
  (o.guard=none∧(∀d,o.dst=some d→d<n)∧∃c,o.op=.call c∧CallEA P st.heap (ev st.env) c fun r H=>runK P ops n dr qp l true K ⟨putE st.env o.dst r,H⟩):=by
  obtain⟨hd,h⟩:=h
  have hd':∀d,o.dst=some d→d<n:=by intro d e;rw[e]at hd;exact hd
  have go:∀st1,StepN P ops n dr o st st1→runK P ops n dr qp l true K st1→(∃st1,StepN P ops n dr o st st1∧runK P ops n dr qp l true K st1)∨
    (o.guard=none∧(∀d,o.dst=some d→d<n)∧∃es y,nilC P st.heap (ev st.env) o.op=some (es,y)∧∀v:Bool,(es≠[]→v= !y)→runK P ops n dr qp l true K ⟨putE st.env o.dst (.v (.bool v)),st.heap⟩)∨
  (o.guard=none∧∃pv st',qp pv st'∧((∃c,o.op=.call c∧st'.env=st.env∧CallPA P st.heap (ev st.env) c pv st'.heap)∨(panV (ev st.env) o.op=some pv∧st'=st)))∨
  (∃j b,o.guard=some (j,b)∧gvOf ops st.env j b=some true∧∃pv H2 c,qp pv ⟨unE st.env,H2⟩∧o.op=.call c∧CallPA P st.heap (ev (unE st.env)) c pv H2)∨
  (o.guard=none∧(∀d,o.dst=some d→d<n)∧∃c,o.op=.call c∧CallEA P st.heap (ev st.env) c fun r H=>runK P ops n dr qp l true K ⟨putE st.env o.dst r,H⟩):=by
   intro st1 h1 h2
   exact .inl ⟨st1,h1,h2⟩
  split at h
  ·rename_i hg
   split at h
   ·rename_i hc
    obtain⟨c,hop,hargs⟩:=iX hc
    rw[hargs]at h
    simp only[]at h
    split at h
    ·rename_i f first cap ht
     obtain⟨h1,h2⟩:=h
     rcases h2 with⟨hok,fr,r,h3,hz,h4,h5⟩|⟨hdr,ps,Hl,largs,r0,H',h3,h4,h5⟩|⟨hdr,hok,r,h3,hz,h5⟩|⟨hdr,ps,qs,Hl,largs,r0,H',h3,h4,h5⟩|⟨hdr,hs,l,r,hf,hok,h3,hz,h5⟩|⟨hdr,pv,ps,Hl,largs,Hp,h3,h4,h5⟩|⟨hdr,ps,Hl,largs,S,h3,h4,h5⟩
     rotate_right
     ·exact .inr (.inr (.inr (.inr ⟨hg,hd',c,hop,f,first,cap,ps,Hl,largs,S,ht,h1,h3,h4,h5⟩)))
     ·refine go _ (.inl ⟨hd',?_⟩) h5
      rw[hg]
      have hall:=List.all_eq_true.1 hok
      refine .inl ⟨r,.inr (.inr (.inl ⟨c,hop,f,first,cap,ht,h1,fun e he=>hall e ?_,fun x hx=>hall _ ?_,hz,fr,h3,?_⟩)),mW hz _,rfl⟩
      ·rcases List.mem_append.1 he with he|he
       ·exact List.mem_append_left _ (List.mem_append_left _ he)
       ·exact List.mem_append_right _ he
      ·exact List.mem_append_left _ (List.mem_append_right _ (List.mem_map.2 ⟨x,hx,rfl⟩))
      ·rcases h4 with h4|h4|h4
       ·exact .inl h4
       ·exact .inr (.inl h4)
       ·refine .inr (.inr fun x hx=>?_)
        have:=List.any_eq_false.1 h4 x hx
        simpa using this
     ·refine go _ (.inr ⟨hdr,hd',?_⟩) h5
      rw[hg]
      exact .inr (.inl ⟨c,_,_,hop,⟨f,first,cap,ps,Hl,largs,r0,H',ht,h1,h3,h4,rfl,rfl⟩,rfl⟩)
     ·have hall:=List.all_eq_true.1 hok
      have hcl:∀e∈first++cap,e.argOK=true:=fun e he=>hall e (by
       rcases List.mem_append.1 he with he|he
       ·exact List.mem_append_left _ (List.mem_append_left _ he)
       ·exact List.mem_append_right _ he)
      have hno:∀e∈first++cap,e.ids=[]:=fun e he=>by
       have:=hcl e he
       cases e with
       |agg cs=>
        simp only[AV.argOK,List.all_eq_true]at this
        simp only[AV.ids,List.flatMap_eq_nil_iff]
        intro c hc
        have:=this c hc
        cases c<;>simp[AV.zoneB,AV.idB]at*
       |_=>first|rfl|simp[AV.argOK]at this
      refine go ⟨putE st.env o.dst r,killH st.heap ((c.args.toList.map (ev st.env)).flatMap AV.ids)⟩ (.inr ⟨hdr,hd',?_⟩) ?_
      ·rw[hg]
       exact .inr (.inr (.inl ⟨c,r,hop,⟨f,first,cap,ht,h1,hcl,fun x hx=>hall _ (List.mem_append_left _ (List.mem_append_right _ (List.mem_map.2 ⟨x,hx,rfl⟩))),hz,h3⟩,rfl⟩))
      ·have e1:first.flatMap AV.ids=[]:=List.flatMap_eq_nil_iff.2 fun e he=>hno e (List.mem_append_left _ he)
       have e2:cap.flatMap AV.ids=[]:=List.flatMap_eq_nil_iff.2 fun e he=>hno e (List.mem_append_right _ he)
       rw[List.flatMap_append,List.flatMap_append,e1,e2,List.nil_append,List.append_nil]at h5
       exact h5
     ·refine go _ (.inr ⟨hdr,hd',?_⟩) h5
      rw[hg]
      exact .inr (.inr (.inr (.inl ⟨c,_,_,hop,⟨f,first,cap,ps,qs,Hl,largs,r0,H',ht,h1,h3,h4,rfl,rfl⟩,rfl⟩)))
     ·have he:first=[]∧cap=[]:=by
       rw[List.isEmpty_iff]at hs
       exact List.append_eq_nil_iff.1 hs
      obtain⟨rfl,rfl⟩:=he
      simp only[List.nil_append,List.append_nil,List.map_map]at hok h3 h5
      have hall:=List.all_eq_true.1 hok
      refine go ⟨putE st.env o.dst r,killH (frzRows st.heap l) ((c.args.toList.map (ev st.env)).flatMap AV.ids)⟩ (.inr ⟨hdr,hd',?_⟩) h5
      rw[hg]
      refine .inr (.inr (.inr (.inr ⟨c,r,l,hop,hf,⟨f,[],[],ht,h1,fun e he=>(by cases he),fun x hx=>hall _ (List.mem_map.2 ⟨x,hx,rfl⟩),hz,?_⟩,rfl⟩)))
      simpa[Function.comp_def]using h3
     ·exact .inr (.inr (.inl ⟨hg,pv,_,h5,.inl ⟨c,hop,rfl,f,first,cap,ps,Hl,largs,Hp,ht,h1,h3,h4,rfl⟩⟩))
    ·exact h.elim
   ·split at h
    ·rename_i es y hn
     exact .inr (.inl ⟨hg,hd',es,y,hn,h⟩)
    split at h
    ·rename_i p r H he
     obtain⟨h1,h2,h3⟩:=h
     refine go _ ?_ h3
     rcases pU he h1 with⟨e1,e2,rfl⟩|e1|⟨rfl,e1,rfl⟩
     ·cases dr with
      |true=>
       refine .inl ⟨hd',?_⟩
       rw[hg]
       exact .inl ⟨r,e1,e2 rfl,rfl⟩
      |false=>
       refine .inr ⟨rfl,hd',?_⟩
       rw[hg]
       exact .inl ⟨r,.inl e1,h2,rfl⟩
     ·refine .inl ⟨hd',?_⟩
      rw[hg]
      exact .inr ⟨r,H,p,e1,h1,h2,rfl⟩
     ·refine .inr ⟨rfl,hd',?_⟩
      rw[hg]
      exact .inl ⟨r,.inr e1,h2,rfl⟩
    ·split at h
     ·rename_i pv hpv
      exact .inr (.inr (.inl ⟨hg,pv,st,h,.inr ⟨hpv,rfl⟩⟩))
     ·exact h.elim
  ·rename_i j b hg
   split at h
   ·rename_i gb hgv
    obtain⟨hu,h⟩:=h
    have hu':∀x∈o.op.operands,selOf o.op x=true→(ev st.env x).okU gb:=fun x hx=>sP hu x (by simpa using hx)
    split at h
    ·rename_i hc
     obtain⟨c,hop,hargs⟩:=iX hc
     rw[hargs]at h
     simp only[]at h
     split at h
     ·rename_i f first cap ht
      obtain⟨h1,h2⟩:=h
      rcases h2 with⟨hok,r,h3,hz,h5⟩|⟨hdr,ps,Hl,largs,r0,h3,h4,hr0,h5⟩|⟨hgb0,h5⟩|⟨hgb1,hdr,ps,Hl,largs,r0,H',h3,h4,h5⟩|⟨hgb1,hdr,pv,ps,Hl,largs,Hp,h3,h4,h5⟩
      rotate_right
      ·subst hgb1
       have he:∀x∈(Op.call c).operands,evU st.env x=ev (unE st.env) x:=fun x hx=>x9 (hu' x (by rw[hop];exact hx) (by rw[hop];rfl))
       refine .inr (.inr (.inr (.inl ⟨j,b,hg,hgv,pv,_,c,h5,hop,f,first,cap,ps,Hl,largs,Hp,?_,h1,h3,?_,rfl⟩)))
       ·rw[←mX he];exact ht
       ·rw[←kU he];exact h4
      rotate_right
      ·subst hgb1
       refine go _ (.inr ⟨hdr,hd',?_⟩) h5
       rw[hg]
       have he:∀x∈(Op.call c).operands,evU st.env x=ev (unE st.env) x:=fun x hx=>x9 (hu' x (by rw[hop];exact hx) (by rw[hop];rfl))
       refine .inr (.inr ⟨hgv,c,_,_,hop,⟨f,first,cap,ps,Hl,largs,r0,H',?_,h1,h3,?_,rfl,rfl⟩,rfl⟩)
       ·rw[←mX he];exact ht
       ·rw[←kU he];exact h4
      rotate_right
      ·refine go _ (.inl ⟨hd',?_⟩) h5
       rw[hg]
       exact⟨gb,.bad,fun _=>true,hgv,fun x hx _=>hu' x hx (by rw[hop];rfl),fun hgb=>(by rw[hgb0]at hgb;cases hgb),fun id hid=>(by cases hid),rfl⟩
      ·refine go _ (.inl ⟨hd',?_⟩) h5
       rw[hg]
       have hall:=List.all_eq_true.1 hok
       refine⟨gb,r,fun _=>true,hgv,fun x hx _=>hu' x hx (by rw[hop];rfl),fun hgb=>?_,mW hz _,rfl⟩
       obtain⟨fr,h3,h4⟩:=h3 hgb
       refine .inr (.inr (.inl ⟨c,hop,f,first,cap,ht,h1,fun e he=>hall e ?_,fun x hx=>hall _ ?_,hz,fr,h3,?_⟩))
       ·rcases List.mem_append.1 he with he|he
        ·exact List.mem_append_left _ (List.mem_append_left _ he)
        ·exact List.mem_append_right _ he
       ·exact List.mem_append_left _ (List.mem_append_right _ (List.mem_map.2 ⟨x,hx,rfl⟩))
       ·rcases h4 with h4|h4|h4
        ·exact .inl h4
        ·exact .inr (.inl h4)
        ·refine .inr (.inr fun x hx=>?_)
         have:=List.any_eq_false.1 h4 x hx
         show(evU st.env x).isOw=false
         simpa using this
      ·refine go _ (.inr ⟨hdr,hd',?_⟩) h5
       rw[hg]
       obtain⟨hnd,hlt,hcells,hids,hargs'⟩:=h4
       have hlen:=bO hcells
       refine .inl ⟨gb,_,fun _=>true,hgv,fun x hx _=>hu' x hx (by rw[hop];rfl),?_,fun hgb=>.inr ⟨c,hop,f,first,cap,ps,Hl,largs,r0,Hl,ht,h1,h3 hgb,⟨hnd,hlt,hcells,hids,hargs'⟩,rfl,(iF hnd hlt hcells).symm⟩,rfl⟩
       refine pS (fun i hi=>?_) hr0
       rw[bV (List.getElem?_eq_getElem (by omega))]
       exact hlt _ (List.getElem_mem (by omega))
     ·exact h.elim
    ·split at h
     ·rename_i p r he
      obtain⟨h1,h2,hi,h3⟩:=h
      refine go _ ?_ h3
      cases dr with
      |true=>
       refine .inl ⟨hd',?_⟩
       rw[hg]
       exact⟨gb,r,_,hgv,hu',fun hgb=>uW he (h1 hgb),h2 rfl,rfl⟩
      |false=>
       refine .inr ⟨rfl,hd',?_⟩
       rw[hg]
       exact .inl ⟨gb,r,_,hgv,hu',hi,fun hgb=>.inl (uW he (h1 hgb)),rfl⟩
     ·cases gb with
      |true=>
       cases dr with
       |true=>exact h.elim
       |false=>
        simp only[]at h
        split at h
        ·rename_i p r H he
         obtain⟨h1,h2,h3⟩:=h
         refine go _ (.inr ⟨rfl,hd',?_⟩) h3
         rw[hg]
         exact .inr (.inl ⟨hgv,p,r,H,he,h1,h2,rfl⟩)
        ·exact h.elim
      |false=>
       refine go _ ?_ h
       cases dr with
       |true=>
        refine .inl ⟨hd',?_⟩
        rw[hg]
        exact⟨false,.bad,_,hgv,hu',fun hgb=>(by cases hgb),fun id hid=>(by cases hid),rfl⟩
       |false=>
        refine .inr ⟨rfl,hd',?_⟩
        rw[hg]
        exact .inl ⟨false,.bad,_,hgv,hu',trivial,fun hgb=>(by cases hgb),rfl⟩
   ·exact h.elim
theorem uX{w:World}{M:Nat→Prop}{loc:Nat→Value}{X:Ctx}{st:St}{a:Act}(h:RR X M loc st a w){x:Value}{e:AV}{es:List AV}(hx:Rep w M loc x e)(he:sliceEs st.heap e=some es):
  ∃A n cap,x=.slice A n cap∧(es≠[]→∃ad,A=some ad):=by
 cases e<;>simp only[sliceEs,reduceCtorEq]at he
 case sl es'=>
  cases he
  obtain⟨A,cap,k,f,hv,hk,hA,_⟩:=hx.sl_inv
  exact⟨A,_,cap,hv,fun hne=>by obtain⟨ad,h,_⟩:=hA hne;exact⟨ad,h⟩⟩
 case ow id=>
  split at he
  ·rename_i o ho
   cases he
   have hx':x=loc id:=hx
   obtain⟨xs,⟨_,hown⟩,_⟩:=(h.obj id o ho).own
   rcases hown with⟨h1,h2⟩|⟨g,cap,cur,h1,_⟩
   ·exact⟨none,0,0,by rw[hx',h1],fun hne=>by
     exfalso;exact hne (List.eq_nil_of_length_eq_zero h2)⟩
   ·exact⟨_,_,cap,by rw[hx',h1],fun _=>⟨_,rfl⟩⟩
  ·cases he
theorem FK{w:World}{M:Nat→Prop}{loc:Nat→Value}{X:Ctx}{st:St}{a:Act}(h:RR X M loc st a w){o:Oper}{es:List AV}{y:Bool}(hn:nilC P st.heap (ev st.env) o.op=some (es,y)):
  ∃v:Bool,(es≠[]→v= !y)∧(execOp a.eval o).run P w=.ok (.value (.bool v)) w:=by
 obtain⟨dst,op,ty,pos,after,guard⟩:=o
 simp only[]at hn
 cases op<;>simp only[nilC,reduceCtorEq]at hn
 case binOp op t x z t'=>
  have hx:=h.ev x
  have hz:=h.ev z
  split at hn
  all_goals first|(cases hn;done)|skip
  all_goals
   rename_i hT e1 e2
   rw[e2]at hz
   simp only[Option.some.injEq,Prod.mk.injEq]at hn
   obtain⟨rfl,rfl⟩:=hn
   obtain⟨i,d',z',h1,h2,h3,h4⟩:=aH hT
   have:=bY (d:=d') (by have:=congrArg TK.k h4;exact this.symm)
   subst this
   obtain⟨A,n,cap,hv,hA⟩:=uX h hx e1
   have hzn:=hz.nil_inv
   have hg:∀bo n,(eqGuard bo t x z (.slice A n cap) (.slice none 0 0)).run P w=.ok () w:=fun bo n=>by unfold eqGuard;split<;>rfl
  ·refine⟨A.isNone,fun hne=>?_,?_⟩
   ·obtain⟨ad,rfl⟩:=hA hne;rfl
   ·simp only[execOp,hv,hzn,Sem.run_bind,hg,Result.andThen_ok,binOp,fU h2,Sem.run_pure]
  ·refine⟨!A.isNone,fun hne=>?_,?_⟩
   ·obtain⟨ad,rfl⟩:=hA hne;rfl
   ·simp only[execOp,hv,hzn,Sem.run_bind,hg,Result.andThen_ok,binOp,fU h2,Sem.run_pure]
theorem dF{X:Ctx}{ops:Array Oper}{Q:Exit→Act→World→Prop}{dr:Bool}{qp:Value→St→Prop}{K:St→Prop}{W:List Oper→Act→World→Prop}(hcons:∀o l a w,(if Region.wanted o (yielded ops a.tmps)=true then o.wp P a w (W l) Q else W l (a.put o.dst undef) w)→W (o::l) a w)(hq:∀st a w,K st→R X st a w→W [] a w)(hp:∀pv st a w,qp pv st→R X st a w→Q (panCh pv) a w):∀(l:List Oper) (st:St) (a:Act) (w:World),runK P ops X.n dr qp l true K st→R X st a w→W l a w
 | [],st,a,w,h,hr=>hq st a w h hr
 |o::l,st,a,w,h,hr=>by
  have:if Region.wanted o (yielded ops a.tmps)=true then o.wp P a w (W l) Q else W l (a.put o.dst undef) w:=by
   rcases zO h with⟨st1,h1,h2⟩|⟨hg,hd,es,y,hn,h2⟩|⟨hg,pv,st2,hqp,hc⟩|⟨j,b,hg,hgv,pv,H2,c,hqp,hop,hc⟩|⟨hg,hd,c,hop,hc⟩
   ·rcases h1 with h1|h1
    ·exact wB (Q:=Q) (K:=W l) h1 hr (fun a' w' hr'=>dF hcons hq hp l st1 a' w' h2 hr')
    ·exact gE (Q:=Q) (K:=W l) h1.2 hr (fun a' w' hr'=>dF hcons hq hp l st1 a' w' h2 hr')
   ·have hw:Region.wanted o (yielded ops a.tmps)=true:=by simp[Region.wanted,hg]
    rw[if_pos hw]
    obtain⟨M,loc,hrr⟩:=hr
    obtain⟨v,hv,hrun⟩:=FK hrr hn
    unfold Oper.wp
    rw[hrun]
    exact dF hcons hq hp l _ _ _ (h2 v hv) ⟨M,loc,hrr.putO hd (RepZ.v _).rep trivial⟩
   ·have hw:Region.wanted o (yielded ops a.tmps)=true:=by simp[Region.wanted,hg]
    rw[if_pos hw]
    obtain⟨M,loc,hrr⟩:=hr
    obtain⟨env2,H2⟩:=st2
    rcases hc with⟨c,hop,he,hc⟩|⟨hv,he⟩
    ·obtain⟨f,vs,h1,h2⟩:=kJ hrr hop (fun x _=>hrr.ev x) hc
     unfold Oper.wp
     rw[h1]
     refine h2.mono fun e w' hh=>?_
     obtain⟨rfl,hl⟩:=hh
     subst he
     exact hp pv _ a w' hqp hl
    ·unfold Oper.wp
     rw[FJ hrr hv]
     rw[he]at hqp
     exact hp pv _ a w hqp ⟨M,loc,hrr⟩
   ·obtain⟨M,loc,hrr⟩:=hr
    have hw:=jE hrr hg hgv
    rw[hw,if_pos rfl]
    obtain⟨f,vs,h1,h2⟩:=kJ hrr.unE hop (fun x _=>hrr.unE.ev x) hc
    unfold Oper.wp
    rw[h1]
    refine h2.mono fun e w' hh=>?_
    obtain⟨rfl,hl⟩:=hh
    exact hp pv _ a w' hqp hl
   ·have hw:Region.wanted o (yielded ops a.tmps)=true:=by simp[Region.wanted,hg]
    rw[if_pos hw]
    obtain⟨M,loc,hrr⟩:=hr
    obtain⟨f,vs,h1,h2⟩:=zM hrr hop (fun x _=>hrr.ev x) hc
    unfold Oper.wp
    rw[h1]
    refine h2.mono fun e w' hh=>?_
    obtain⟨r,H2,hk,x,M',loc',rfl,h3,h4,h5⟩:=hh
    exact dF hcons hq hp l _ _ _ hk ⟨M',loc',h3.putO hd h4 h5⟩
  exact hcons o l a w this
theorem wY{X:Ctx}{ops:Array Oper}{Q:Exit→Act→World→Prop}{dr:Bool}{qp:Value→St→Prop}{K:St→Prop}(hq:∀st a w,K st→R X st a w→Q .normal a w)(hp:∀pv st a w,qp pv st→R X st a w→Q (panCh pv) a w)(l:List Oper)(st:St)(a:Act)(w:World)(h:runK P ops X.n dr qp l true K st)(hr:R X st a w):wpList P ops Q l a w:=by
 refine dF (W:=wpList P ops Q) (fun o l a w this=>?_) hq hp l st a w h hr
 unfold wpList
 split
 ·rename_i hw
  rw[if_pos hw]at this
  exact .inl this
 ·rename_i hw
  rw[if_neg hw]at this
  exact this
theorem sQ{f:FuncId}{args:List AV}{b ok:Bool}{H:List Cell}{raw:List AV}{dr s:Bool}{qp:Value→List Cell→Prop}{k:Bool→AV→List Cell→Prop}{fr:Bool}{r:AV}(h:Means fr P f args r)(hz:r.zone=true)(hb:fr=true∨r.scal=true∨b=false)(ho:ok=true)(hk:k true r H):CallK P f args b ok H raw dr s qp k:=
 .inl ⟨ho,fr,r,h,hz,hb,hk⟩
theorem sR{f:FuncId}{args:List AV}{b gb ok:Bool}{H:List Cell}{raw:List AV}{dr:Bool}{k:Bool→AV→Prop}{kk:Bool→AV→List Cell→Prop}{qp:Value→List Cell→Prop}{fr:Bool}{r:AV}(h:gb=true→Means fr P f args r)(hz:r.zone=true)(hb:fr=true∨r.scal=true∨b=false)(ho:ok=true)(hk:k true r):CallG P f args b gb ok H raw dr k kk qp:=
 .inl ⟨ho,r,fun g=>⟨fr,h g,hb⟩,hz,hk⟩
theorem aV{f:FuncId}{args:List AV}{b ok:Bool}{H:List Cell}{raw:List AV}{s:Bool}{qp:Value→List Cell→Prop}{k:Bool→AV→List Cell→Prop}(ps:List Nat){Hl:List Cell}{largs:List AV}{r0:AV}{H':List Cell}(h:MeansH P f Hl largs r0 H')(hc:CallHC H raw ps Hl largs)(hk:k true (ren (upN ps H.length) r0) (heapAfter H ps H')):CallK P f args b ok H raw false s qp k:=
 .inr (.inl ⟨rfl,ps,Hl,largs,r0,H',h,hc,hk⟩)
theorem jT{f:FuncId}{args:List AV}{b ok:Bool}{H:List Cell}{raw:List AV}{s:Bool}{qp:Value→List Cell→Prop}{k:Bool→AV→List Cell→Prop}{r:AV}(h:Means false P f args r)(hz:r.zone=true)(ho:ok=true)(hk:k true r (killH H (raw.flatMap AV.ids))):CallK P f args b ok H raw false s qp k:=
 .inr (.inr (.inl ⟨rfl,ho,r,h,hz,hk⟩))
theorem aF{f:FuncId}{args:List AV}{b ok:Bool}{H:List Cell}{raw:List AV}{s:Bool}{qp:Value→List Cell→Prop}{k:Bool→AV→List Cell→Prop}(ps:List Nat){Hl:List Cell}{largs:List AV}{pv:Value}(h:PanicH P f Hl largs pv)(hc:CallHC H raw ps Hl largs)(hk:qp pv (heapAfter H ps (deadAll Hl))):CallK P f args b ok H raw false s qp k:=
 .inr (.inr (.inr (.inr (.inr (.inl ⟨rfl,pv,ps,Hl,largs,_,h.x,hc,hk⟩)))))
theorem aO{f:FuncId}{args:List AV}{b ok:Bool}{H:List Cell}{raw:List AV}{s:Bool}{qp:Value→List Cell→Prop}{k:Bool→AV→List Cell→Prop}(ps:List Nat){Hl:List Cell}{largs:List AV}{pv:Value}{Hp:List Cell}(h:PanicX P f Hl largs pv Hp)(hc:CallHC H raw ps Hl largs)(hk:qp pv (heapAfter H ps Hp)):CallK P f args b ok H raw false s qp k:=
 .inr (.inr (.inr (.inr (.inr (.inl ⟨rfl,pv,ps,Hl,largs,Hp,h,hc,hk⟩)))))
theorem sL{f:FuncId}{args:List AV}{b ok:Bool}{H:List Cell}{raw:List AV}{s:Bool}{qp:Value→List Cell→Prop}{k:Bool→AV→List Cell→Prop}(ps:List Nat){Hl:List Cell}{largs:List AV}{S:AV→List Cell→Prop}(h:MeansE P f Hl largs S)(hc:CallHC H raw ps Hl largs)(hk:∀r0 H',S r0 H'→k true (ren (upN ps H.length) r0) (heapAfter H ps H')):CallK P f args b ok H raw false s qp k:=
 .inr (.inr (.inr (.inr (.inr (.inr ⟨rfl,ps,Hl,largs,S,h,hc,hk⟩)))))
theorem aW{f:FuncId}{args:List AV}{b gb ok:Bool}{H:List Cell}{raw:List AV}{k:Bool→AV→Prop}{kk:Bool→AV→List Cell→Prop}{qp:Value→List Cell→Prop}(ps:List Nat){Hl:List Cell}{largs:List AV}{r0:AV}(h:gb=true→MeansH P f Hl largs r0 Hl)(hc:CallHC H raw ps Hl largs)(hl:r0.idLt Hl.length)(hk:k true (ren (upN ps H.length) r0)):CallG P f args b gb ok H raw false k kk qp:=
 .inr (.inl ⟨rfl,ps,Hl,largs,r0,h,hc,hl,hk⟩)
theorem eC{f:FuncId}{args:List AV}{b gb ok:Bool}{H:List Cell}{raw:List AV}{k:Bool→AV→Prop}{kk:Bool→AV→List Cell→Prop}{qp:Value→List Cell→Prop}(ps:List Nat){Hl:List Cell}{largs:List AV}{r0:AV}{H':List Cell}(hg:gb=true)(h:MeansH P f Hl largs r0 H')(hc:CallHC H raw ps Hl largs)(hk:kk true (ren (upN ps H.length) r0) (heapAfter H ps H')):CallG P f args b gb ok H raw false k kk qp:=
 .inr (.inr (.inr (.inl ⟨hg,rfl,ps,Hl,largs,r0,H',h,hc,hk⟩)))
theorem jO{f:FuncId}{args:List AV}{b gb ok:Bool}{H:List Cell}{raw:List AV}{k:Bool→AV→Prop}{kk:Bool→AV→List Cell→Prop}{qp:Value→List Cell→Prop}(ps:List Nat){Hl:List Cell}{largs:List AV}{pv:Value}{Hp:List Cell}(hg:gb=true)(h:PanicX P f Hl largs pv Hp)(hc:CallHC H raw ps Hl largs)(hk:qp pv (heapAfter H ps Hp)):CallG P f args b gb ok H raw false k kk qp:=
 .inr (.inr (.inr (.inr ⟨hg,rfl,pv,ps,Hl,largs,Hp,h,hc,hk⟩)))
theorem bT{f:FuncId}{args:List AV}{b gb ok:Bool}{H:List Cell}{raw:List AV}{dr:Bool}{k:Bool→AV→Prop}{kk:Bool→AV→List Cell→Prop}{qp:Value→List Cell→Prop}(h:gb=false)(hk:k true .bad):CallG P f args b gb ok H raw dr k kk qp:=.inr (.inr (.inl ⟨h,hk⟩))
theorem CP{f:FuncId}{fn:Func}{c:Code}{args:List AV}{r:AV}(fr:Bool)(N:Nat)(rs:List ResultVar)(hf:P.funcs[f]? =some fn)(hb:fn.body=some c)(hN:fn.ntmps=N)(hrs:fn.results.toList=rs)(hn:args.length≤N)(hG:N≤G0)(hz:args.all AV.zone=true)
  (h:∀X:Ctx,X.n=N→AWP P X c (retQ P rs fr (fun v=>v=r)) ⟨argE 0 args,[]⟩):Means fr P f args r:=by
 subst hN;subst hrs
 exact BO fr hf hb hn hG hz h
theorem zK{f:FuncId}{fn:Func}{c:Code}{H H':List Cell}{args:List AV}{r:AV}(m:Nat)(N:Nat)(rs:List ResultVar)(hf:P.funcs[f]? =some fn)(hb:fn.body=some c)(hN:fn.ntmps=N)(hrs:fn.results.toList=rs)(hn:args.length≤N)(hG:N≤G0)(hm:H.length=m)
  (h:∀X:Ctx,X.n=N→AWP P X c (retH P rs m r H') ⟨ghE m (argE 0 args),H⟩):MeansH P f H args r H':=by
 subst hN;subst hrs;subst hm
 exact kE hf hb hn hG h
end
end Go.Ab
namespace Go.Ab
open Go.RowKit
def wrOf(ρ:Operand→AV):Op→List Nat
 | .store _ d _=>(ρ d).ids
 | .call c=>match c.callee,c.args.toList with
   | .builtin .append,s::_=>(ρ s).ids
   | .builtin .clear,s::_=>(ρ s).ids
   | .builtin .copy,s::_=>(ρ s).ids
   |_,_=>[]
 | .mapUpdate _ m _ _=>(ρ m).ids
 |_=>[]
def rdOf(ρ:Operand→AV):Op→List Nat
 | .load _ x=>(ρ x).ids
 | .indexAddr _ x _=>(ρ x).ids
 | .lookup _ m _ _=>(ρ m).ids
 | .call c=>tch ρ (.call c)
 |_=>[]
def isEff:Op→Bool
 | .alloc _| .box .. | .buildSlice .. | .makeSlice .. | .store .. | .makeMap .. | .mapUpdate .. =>true
 | .call c=>match c.callee with
   | .builtin .append=>true
   | .builtin .clear=>true
   | .builtin .copy=>true
   |_=>false
 |_=>false
section
variable{P:Program}
theorem bM{ρ:Operand→AV}{op:Op}{x:Operand}(hx:x∈op.operands){id:Nat}(hi:id∈(ρ x).ids):id∈tch ρ op:=List.mem_flatMap.2 ⟨x,by simpa using hx,hi⟩
theorem oA{H:List Cell}{s:AV}{id lo n:Nat}{o:Ob}{p:Prop}(hw:winOf H s=some (id,lo,n,o,p)):s.ids=[id]∧H[id]? =some (.row o):=by
 unfold winOf at hw
 split at hw
 ·split at hw
  ·rename_i ho
   simp only[Option.some.injEq,Prod.mk.injEq]at hw
   obtain⟨rfl,rfl,rfl,rfl,rfl⟩:=hw
   exact⟨rfl,ho⟩
  ·cases hw
 ·split at hw
  ·rename_i ho
   simp only[Option.some.injEq,Prod.mk.injEq]at hw
   obtain⟨rfl,rfl,rfl,rfl,rfl⟩:=hw
   exact⟨rfl,ho⟩
  ·cases hw
 ·cases hw
theorem rI{H H':List Cell}{x:AV}(h:∀id∈x.ids,H'[id]? =H[id]?):winOf H' x=winOf H x:=by
 unfold winOf
 split
 ·rename_i id;rw[h id (by simp[AV.ids])]
 ·rename_i id k lo n;rw[h id (by simp[AV.ids])]
 ·rfl
theorem sS{T:TK}{H H':List Cell}{x:AV}(h:∀id∈x.ids,H'[id]? =H[id]?):loadA T H' x=loadA T H x:=by
 unfold loadA
 split
 ·rfl
 ·rename_i id k i off;rw[h id (by simp[AV.ids])]
 ·rfl
theorem uY{k:K}{H H':List Cell}{x:AV}(h:∀id∈x.ids,H'[id]? =H[id]?):lenA k H' x=lenA k H x:=by
 unfold lenA
 split
 ·rfl
 ·rfl
 ·rfl
 ·rename_i id;rw[h id (by simp[AV.ids])]
 ·rfl
 ·rfl
theorem uZ{H H':List Cell}{x:AV}(h:∀id∈x.ids,H'[id]? =H[id]?):argA H' x=argA H x:=by
 unfold argA
 split
 ·rename_i id;rw[h id (by simp[AV.ids])]
 ·rename_i id k lo n;rw[h id (by simp[AV.ids])]
 ·rfl
 ·rename_i cs
  congr 1
  refine List.map_congr_left fun c hc=>?_
  unfold argB
  split
  ·rename_i id;rw[h id (by simp only[AV.ids,List.mem_flatMap];exact⟨_,hc,by simp[AV.idB]⟩)]
  ·rfl
  ·rfl
 ·rfl
theorem zP{H H':List Cell}{ρ ρ':Operand→AV}{op:Op}(hρ:∀x∈op.operands,ρ' x=ρ x)(hH:∀id∈rdOf ρ op,H'[id]? =H[id]?):pur P H' ρ' op=pur P H ρ op:=by
 cases op<;>simp only[pur]
 case move x=>rw[hρ x (by simp[Op.operands])]
 case assign x=>rw[hρ x (by simp[Op.operands])]
 case pick c x y=>rw[hρ c (by simp[Op.operands]),hρ x (by simp[Op.operands]),hρ y (by simp[Op.operands])]
 case load t x=>
  rw[hρ x (by simp[Op.operands])]
  split
  ·exact sS hH
  ·rfl
 case nilCheck x=>rw[hρ x (by simp[Op.operands])]
 case makeInterface t x=>rw[hρ x (by simp[Op.operands])]
 case typeAssert x a b c=>rw[hρ x (by simp[Op.operands])]
 case binOp op t x y t'=>rw[hρ x (by simp[Op.operands]),hρ y (by simp[Op.operands])]
 case unOp op t x=>rw[hρ x (by simp[Op.operands])]
 case convert s d x=>rw[hρ x (by simp[Op.operands])]
 case extract x i=>rw[hρ x (by simp[Op.operands])]
 case fieldAddr s x f=>rw[hρ x (by simp[Op.operands])]
 case field s x f=>rw[hρ x (by simp[Op.operands])]
 case indexAddr t x i=>
  rw[hρ x (by simp[Op.operands]),hρ i (by simp[Op.operands])]
  have:∀id∈(ρ x).ids,H'[id]? =H[id]? :=hH
  split
  ·rfl
  ·rename_i e _ _ _ id k n hT e1 e2
   rw[e1]at this
   rw[this id (by simp[AV.ids])]
  ·rfl
  ·rfl
  ·rfl
  ·rfl
 case index t x i=>rw[hρ x (by simp[Op.operands]),hρ i (by simp[Op.operands])]
 case slice t x lo hi mx=>
  cases mx with
  |some m=>rfl
  |none=>
   simp only[]
   have h1:lo.map ρ'=lo.map ρ:=by cases lo with|none=>rfl|some l=>simp only[Option.map_some];rw[hρ l (by simp[Op.operands])]
   have h2:hi.map ρ'=hi.map ρ:=by cases hi with|none=>rfl|some l=>simp only[Option.map_some];rw[hρ l (by simp[Op.operands])]
   rw[hρ x (by simp[Op.operands]),h1,h2]
 case makeFunc f first cap=>
  have h1:∀x,x∈first∨x∈cap→ρ' x=ρ x:=fun x hx=>hρ x (by simp[Op.operands];exact hx)
  have a1:(first.all fun x=>(ρ' x).isV)=(first.all fun x=>(ρ x).isV):=by
   rw[Bool.eq_iff_iff];simp only[Array.all_eq_true_iff_forall_mem]
   exact⟨fun h x hx=>by rw[←h1 x (.inl hx)];exact h x hx,fun h x hx=>by rw[h1 x (.inl hx)];exact h x hx⟩
  have a2:(cap.all fun x=>(ρ' x).isV)=(cap.all fun x=>(ρ x).isV):=by
   rw[Bool.eq_iff_iff];simp only[Array.all_eq_true_iff_forall_mem]
   exact⟨fun h x hx=>by rw[←h1 x (.inr hx)];exact h x hx,fun h x hx=>by rw[h1 x (.inr hx)];exact h x hx⟩
  have b1:(first.map fun x=>(ρ' x).getV)=first.map fun x=>(ρ x).getV:=Array.map_congr_left fun x hx=>by rw[h1 x (.inl hx)]
  have b2:(cap.map fun x=>(ρ' x).getV)=cap.map fun x=>(ρ x).getV:=Array.map_congr_left fun x hx=>by rw[h1 x (.inr hx)]
  have c1:(first.all fun x=>(ρ' x).flatB)=(first.all fun x=>(ρ x).flatB):=by
   rw[Bool.eq_iff_iff];simp only[Array.all_eq_true_iff_forall_mem]
   exact⟨fun h x hx=>by rw[←h1 x (.inl hx)];exact h x hx,fun h x hx=>by rw[h1 x (.inl hx)];exact h x hx⟩
  have c2:(cap.all fun x=>(ρ' x).flatB)=(cap.all fun x=>(ρ x).flatB):=by
   rw[Bool.eq_iff_iff];simp only[Array.all_eq_true_iff_forall_mem]
   exact⟨fun h x hx=>by rw[←h1 x (.inr hx)];exact h x hx,fun h x hx=>by rw[h1 x (.inr hx)];exact h x hx⟩
  have d1:first.toList.map ρ'=first.toList.map ρ:=List.map_congr_left fun x hx=>h1 x (.inl (by simpa using hx))
  have d2:cap.toList.map ρ'=cap.toList.map ρ:=List.map_congr_left fun x hx=>h1 x (.inr (by simpa using hx))
  rw[a1,a2,b1,b2,c1,c2,d1,d2]
 case call c=>
  obtain⟨callee,args,ats⟩:=c
  obtain⟨args⟩:=args
  obtain⟨ats⟩:=ats
  have hm:∀x∈args,x∈(Op.call ⟨callee,⟨args⟩,⟨ats⟩⟩).operands:=fun x hx=>by
   simp only[Op.operands,Call.operands,Array.mem_append];right;simpa using hx
  simp only[]
  split
  ·rename_i x t
   rw[hρ x (hm x (by simp))]
   split
   ·rw[uY (fun id hi=>hH id (bM (hm x (by simp)) hi))]
   ·rfl
  ·rename_i ts x y
   rw[hρ x (hm x (by simp)),hρ y (hm y (by simp))]
  ·rename_i x t
   rw[hρ x (hm x (by simp))]
  ·rename_i ts x y
   rw[hρ x (hm x (by simp)),hρ y (hm y (by simp))]
  ·rename_i ts x y z
   rw[hρ x (hm x (by simp)),hρ y (hm y (by simp)),hρ z (hm z (by simp))]
  ·rename_i ts x y z
   rw[hρ x (hm x (by simp)),hρ y (hm y (by simp)),hρ z (hm z (by simp))]
  ·rfl
theorem v8{H H':List Cell}{ρ ρ':Operand→AV}{op:Op}(hρ:∀x∈op.operands,ρ' x=ρ x)(hH:∀id∈rdOf ρ op,H'[id]? =H[id]?):purA P H' ρ' op=purA P H ρ op:=by
 unfold purA
 split
 ·rename_i t m k ok
  simp only[mapPur]
  rw[hρ m (by simp[Op.operands]),hρ k (by simp[Op.operands])]
  have:∀id∈(ρ m).ids,H'[id]? =H[id]? :=hH
  split
  ·rename_i K V _ _ _ id hT e1
   rw[e1]at this
   rw[this id (by simp[AV.ids])]
  ·rfl
 ·exact zP hρ hH
theorem kV{fs:List (Nat×Nat)}{ρ ρ':Operand→AV}:∀{parts:List (Nat×Operand)} {cells:List AV},(∀p∈parts,ρ' p.2=ρ p.2)→fillA P fs ρ' parts cells=fillA P fs ρ parts cells
 | [],_,_=>rfl
 |(i,x)::r,cells,h=>by
  simp only[fillA]
  rw[h (i,x) (by simp)]
  split
  ·split
   ·rw[kV fun p hp=>h p (by simp[hp])]
   ·rfl
  ·rfl
theorem qT{ρ ρ':Operand→AV}{t:Nat}{parts:List (Nat×Operand)}(h:∀p∈parts,ρ' p.2=ρ p.2):buildA P ρ' t parts=buildA P ρ t parts:=by
 unfold buildA
 have hm:parts.map (fun p=>ρ' p.2)=parts.map fun p=>ρ p.2:=List.map_congr_left h
 split
 ·rw[kV h]
 ·rw[hm]
 ·rfl
theorem zQ{t:Nat}{parts:Array (Nat×Operand)}:∀p∈parts.toList,p.2∈(Op.build t parts).operands:=by
 intro p hp
 simp only[Op.operands]
 simpa using⟨p.1,by simpa using hp⟩
theorem kW{H H':List Cell}{ρ ρ':Operand→AV}{op:Op}{r:AV}(hρ:∀x∈op.operands,ρ' x=ρ x)(hH:∀id∈rdOf ρ op,H'[id]? =H[id]?)(h:DoesP P H ρ op r):DoesP P H' ρ' op r:=by
 rcases h with⟨p,h1,h2⟩|⟨t,parts,p,rfl,h1,h2⟩|⟨c,rfl,f,first,cap,h1,h2,h2',h3,h4,fr,h5,h6⟩|⟨p,h1,h2⟩
 ·exact .inl ⟨p,by rw[v8 hρ hH];exact h1,h2⟩
 ·exact .inr (.inl ⟨t,parts,p,rfl,by rw[qT fun p hp=>hρ _ (zQ p hp)];exact h1,h2⟩)
 ·refine .inr (.inr (.inl ⟨c,rfl,f,first,cap,?_,h2,h2',?_,h4,fr,?_,?_⟩))
  ·rw[←h1]
   cases hc:c.callee with
   |value x=>simp only[tgt];rw[hρ x (by simp[Op.operands,Call.operands,hc])]
   |_=>rfl
  all_goals
   have ha:∀x∈c.args.toList,x∈(Op.call c).operands:=fun x hx=>by
    simp only[Op.operands,Call.operands,Array.mem_append];right;simpa using hx
   have hb:∀x∈c.args.toList,argA H' (ρ' x)=argA H (ρ x):=fun x hx=>by
    rw[hρ x (ha x hx)];exact uZ fun id hi=>hH id (bM (ha x hx) hi)
  ·intro x hx;rw[hb x hx];exact h3 x hx
  ·rw[List.map_congr_left hb];exact h5
  ·rcases h6 with h6|h6|h6
   ·exact .inl h6
   ·exact .inr (.inl h6)
   ·exact .inr (.inr fun x hx=>by rw[hρ x (ha x hx)];exact h6 x hx)
 ·refine .inr (.inr (.inr ⟨p,?_,h2⟩))
  rw[←h1]
  cases op<;>first|rfl|skip
  case convert s d x=>simp only[convB];rw[hρ x (by simp[Op.operands])]
theorem zR{H:List Cell}{ρ ρ':Operand→AV}{op:Op}(hρ:∀x∈op.operands,ρ' x=ρ x):eff P H ρ' op=eff P H ρ op:=by
 cases op<;>simp only[eff]
 case box e x=>rw[hρ x (by simp[Op.operands])]
 case buildSlice t n parts=>
  have hb:∀p∈parts.toList,ρ' p.2=ρ p.2:=fun p hp=>hρ _ (by
   simp only[Op.operands]
   simpa using⟨p.1,by simpa using hp⟩)
  have:(parts.toList.map fun p=>ρ' p.2)=parts.toList.map fun p=>ρ p.2:=List.map_congr_left hb
  rw[this]
 case makeSlice t l c=>rw[hρ l (by simp[Op.operands]),hρ c (by simp[Op.operands])]
 case store t d x=>rw[hρ d (by simp[Op.operands]),hρ x (by simp[Op.operands])]
 case call c=>
  obtain⟨callee,args,ats⟩:=c
  obtain⟨args⟩:=args
  obtain⟨ats⟩:=ats
  simp only[]
  split
  ·rename_i s x t t'
   rw[hρ s (by simp[Op.operands,Call.operands]),hρ x (by simp[Op.operands,Call.operands])]
  ·rename_i s t
   rw[hρ s (by simp[Op.operands,Call.operands])]
  ·rename_i s x t t'
   rw[hρ s (by simp[Op.operands,Call.operands]),hρ x (by simp[Op.operands,Call.operands])]
  ·rfl
theorem zS{H H':List Cell}{ρ:Operand→AV}{op:Op}{p:Prop}{r:AV}(h:eff P H ρ op=some (p,r,H')):isEff op=true∧∀id,id<H.length→id∉wrOf ρ op→H'[id]? =H[id]? :=by
 have app:∀(o:Cell) id,id<H.length→(H++[o])[id]? =H[id]? :=fun o id hid=>List.getElem?_append_left hid
 cases op<;>simp only[eff,reduceCtorEq]at h
 case alloc e=>
  refine⟨rfl,?_⟩
  split at h
  ·simp only[Option.some.injEq,Prod.mk.injEq]at h
   obtain⟨-,-,rfl⟩:=h
   exact fun id hid _=>app _ id hid
  ·cases h
 case box e x=>
  refine⟨rfl,?_⟩
  split at h
  ·simp only[Option.some.injEq,Prod.mk.injEq]at h
   obtain⟨-,-,rfl⟩:=h
   exact fun id hid _=>app _ id hid
  ·cases h
 case buildSlice t n parts=>
  refine⟨rfl,?_⟩
  split at h
  ·split at h
   ·split at h
    ·simp only[Option.some.injEq,Prod.mk.injEq]at h
     obtain⟨-,-,rfl⟩:=h
     exact fun id hid _=>app _ id hid
    ·cases h
   ·cases h
  ·cases h
 case makeSlice t l c=>
  refine⟨rfl,?_⟩
  split at h
  ·split at h
   ·simp only[Option.some.injEq,Prod.mk.injEq]at h
    obtain⟨-,-,rfl⟩:=h
    exact fun id hid _=>app _ id hid
   ·cases h
  ·cases h
 case store t d x=>
  refine⟨rfl,?_⟩
  split at h
  ·rename_i T id k i off hT e1
   split at h
   ·simp only[Option.some.injEq,Prod.mk.injEq]at h
    obtain⟨-,-,rfl⟩:=h
    intro id2 _ hn
    simp only[wrOf,e1,AV.ids,List.mem_singleton]at hn
    rw[List.getElem?_set_ne (fun e=>hn e.symm)]
   ·cases h
  ·cases h
 case call c=>
  obtain⟨callee,args,ats⟩:=c
  obtain⟨args⟩:=args
  obtain⟨ats⟩:=ats
  simp only[]at h
  split at h
  ·rename_i s x t t'
   refine⟨rfl,?_⟩
   split at h
   ·unfold appA at h
    split at h
    ·split at h
     ·split at h
      ·simp only[Option.some.injEq,Prod.mk.injEq]at h
       obtain⟨-,-,rfl⟩:=h
       exact fun id hid _=>app _ id hid
      ·rename_i id e1
       split at h
       ·simp only[Option.some.injEq,Prod.mk.injEq]at h
        obtain⟨-,-,rfl⟩:=h
        intro id2 hlt hn
        simp only[wrOf,e1,AV.ids,List.mem_singleton]at hn
        rw[List.getElem?_append_left (by simpa using hlt),List.getElem?_set_ne (fun e=>hn e.symm)]
       ·cases h
      ·rename_i id k lo n e1
       split at h
       ·split at h
        ·simp only[Option.some.injEq,Prod.mk.injEq]at h
         obtain⟨-,-,rfl⟩:=h
         intro id2 hlt hn
         simp only[wrOf,e1,AV.ids,List.mem_singleton]at hn
         rw[List.getElem?_append_left (by simpa using hlt),List.getElem?_set_ne (fun e=>hn e.symm)]
        ·cases h
       ·cases h
      ·cases h
     ·cases h
    ·cases h
   ·unfold growA at h
    split at h
    ·split at h
     ·simp only[Option.some.injEq,Prod.mk.injEq]at h
      obtain⟨-,-,rfl⟩:=h
      exact fun id hid _=>app _ id hid
     ·cases h
    ·cases h
  ·rename_i s t
   refine⟨rfl,?_⟩
   unfold clrA at h
   split at h
   ·rename_i e1
    split at h
    ·simp only[Option.some.injEq,Prod.mk.injEq]at h
     obtain⟨-,-,rfl⟩:=h
     intro id2 _ hn
     simp only[wrOf,e1,AV.ids,List.mem_singleton]at hn
     rw[List.getElem?_set_ne (fun e=>hn e.symm)]
    ·cases h
   ·cases h
  ·rename_i s x t t'
   refine⟨rfl,?_⟩
   unfold cpyA at h
   split at h
   ·split at h
    ·rename_i hw hs
     simp only[Option.some.injEq,Prod.mk.injEq]at h
     obtain⟨-,-,rfl⟩:=h
     intro id2 _ hn
     rw[show wrOf ρ (Op.call ⟨.builtin .copy,⟨[s,x]⟩,⟨[t,t']⟩⟩)=(ρ s).ids from rfl,(oA hw).1]at hn
     simp only[List.mem_singleton]at hn
     rw[List.getElem?_set_ne (fun e=>hn e.symm)]
    ·cases h
   ·cases h
  ·cases h
theorem iG{H:List Cell}{ρ ρ':Operand→AV}{op:Op}(hρ:∀x∈op.operands,ρ' x=ρ x):effA P H ρ' op=effA P H ρ op:=by
 unfold effA
 split
 ·rename_i t r
  cases r<;>rfl
 ·rename_i t m k x
  simp only[mapEff]
  rw[hρ m (by simp[Op.operands]),hρ k (by simp[Op.operands]),hρ x (by simp[Op.operands])]
 ·exact zR hρ
theorem mY{H H':List Cell}{ρ:Operand→AV}{op:Op}{p:Prop}{r:AV}(h:effA P H ρ op=some (p,r,H')):isEff op=true∧∀id,id<H.length→id∉wrOf ρ op→H'[id]? =H[id]? :=by
 unfold effA at h
 split at h
 ·rename_i t rs
  refine⟨rfl,?_⟩
  cases rs with
  |some x=>simp only[mapEff,reduceCtorEq]at h
  |none=>
   simp only[mapEff]at h
   split at h
   ·simp only[Option.some.injEq,Prod.mk.injEq]at h
    obtain⟨-,-,rfl⟩:=h
    exact fun id hid _=>List.getElem?_append_left hid
   ·cases h
 ·rename_i t m k x
  refine⟨rfl,?_⟩
  simp only[mapEff]at h
  split at h
  ·rename_i K V _ _ _ id hT e1
   split at h
   ·rename_i mo ho
    cases hu:updA P K (ρ k) (ρ x) mo.es with
    |none=>simp[hu]at h
    |some es=>
     simp only[hu,Option.map_some,Option.some.injEq,Prod.mk.injEq]at h
     obtain⟨-,-,rfl⟩:=h
     intro id2 _ hn
     simp only[wrOf,e1,AV.ids,List.mem_singleton]at hn
     rw[List.getElem?_set_ne (fun e=>hn e.symm)]
   ·cases h
  ·cases h
 ·exact zS h
theorem qU{H:List Cell}{ρ:Operand→AV}{op:Op}{r:AV}(h:DoesP P H ρ op r):isEff op=false:=by
 rcases h with⟨p,h1,h2⟩|⟨t,parts,p,rfl,h1,h2⟩|⟨c,rfl,f,first,cap,h1,_⟩|⟨p,h1,h2⟩
 ·cases op<;>first|rfl|(simp only[purA,pur,reduceCtorEq]at h1;done)|skip
  case call c=>
   obtain⟨callee,args,ats⟩:=c
   simp only[purA,pur]at h1
   split at h1
   ·rfl
   ·rfl
   ·rfl
   ·rfl
   ·rfl
   ·rfl
   ·cases h1
 ·rfl
 ·cases hc:c.callee with
  |value x=>simp[isEff,hc]
  |_=>rw[hc]at h1;simp[tgt]at h1
 ·cases op<;>first|rfl|(simp only[convB,reduceCtorEq]at h1;done)
structure Tag where
 t:List Nat
 w:List Nat
def Bnd(st:St):Prop:=∀s,(st.env s).idLt st.heap.length
theorem Bnd.ev{st:St}(h:Bnd st)(x:Operand):(Ab.ev st.env x).idLt st.heap.length:=by
 cases x with
 |tmp t=>
  simp only[Ab.ev]
  split
  ·exact h t
  ·trivial
 |const x=>exact fV _ x
 |global g=>
  simp only[Ab.ev,globV]
  split<;>trivial
 |func f=>trivial
theorem Bnd.put{st:St}(h:Bnd st){d:Option Nat}{e:AV}{H:List Cell}(hl:st.heap.length≤H.length)(he:e.idLt H.length):Bnd ⟨putE st.env d e,H⟩:=by
 have up:∀s,(st.env s).idLt H.length:=fun s=>(aT _ _).2 fun id hid=>Nat.lt_of_lt_of_le ((aT _ _).1 (h s) id hid) hl
 intro s
 cases d with
 |none=>exact up s
 |some d=>
  simp only[putE,upd]
  split
  ·exact he
  ·exact up s
theorem FL{H H':List Cell}{ρ:Operand→AV}{op:Op}{p:Prop}{r:AV}(h:eff P H ρ op=some (p,r,H')):H.length≤H'.length:=by
 cases op<;>simp only[eff,reduceCtorEq]at h
 case call c=>
  split at h
  ·split at h
   ·unfold appA at h
    split at h
    ·split at h
     ·split at h
      ·simp only[Option.some.injEq,Prod.mk.injEq]at h;obtain⟨-,-,rfl⟩:=h;simp
      ·split at h
       ·simp only[Option.some.injEq,Prod.mk.injEq]at h;obtain⟨-,-,rfl⟩:=h;simp
       ·cases h
      ·split at h
       ·split at h
        ·simp only[Option.some.injEq,Prod.mk.injEq]at h;obtain⟨-,-,rfl⟩:=h;simp
        ·cases h
       ·cases h
      ·cases h
     ·cases h
    ·cases h
   ·unfold growA at h
    split at h
    ·split at h
     ·simp only[Option.some.injEq,Prod.mk.injEq]at h;obtain⟨-,-,rfl⟩:=h;simp
     ·cases h
    ·cases h
  ·unfold clrA at h
   split at h
   ·split at h
    ·simp only[Option.some.injEq,Prod.mk.injEq]at h;obtain⟨-,-,rfl⟩:=h;simp
    ·cases h
   ·cases h
  ·unfold cpyA at h
   split at h
   ·split at h
    ·simp only[Option.some.injEq,Prod.mk.injEq]at h;obtain⟨-,-,rfl⟩:=h;simp
    ·cases h
   ·cases h
  ·cases h
 all_goals(repeat' split at h)<;>first|(cases h;done)|(simp only[Option.some.injEq,Prod.mk.injEq]at h;obtain⟨-,-,rfl⟩:=h;simp)
theorem mZ{H H':List Cell}{ρ:Operand→AV}{op:Op}{p:Prop}{r:AV}(h:effA P H ρ op=some (p,r,H')):H.length≤H'.length:=by
 unfold effA at h
 split at h
 ·rename_i t rs
  cases rs with
  |some x=>simp only[mapEff,reduceCtorEq]at h
  |none=>
   simp only[mapEff]at h
   split at h
   ·simp only[Option.some.injEq,Prod.mk.injEq]at h;obtain⟨-,-,rfl⟩:=h;simp
   ·cases h
 ·rename_i t m k x
  simp only[mapEff]at h
  split at h
  ·rename_i K V _ _ _ id _ _
   split at h
   ·rename_i mo ho
    cases hu:updA P K (ρ k) (ρ x) mo.es with
    |none=>simp[hu]at h
    |some es=>
     simp only[hu,Option.map_some,Option.some.injEq,Prod.mk.injEq]at h
     obtain⟨-,-,rfl⟩:=h;simp
   ·cases h
  ·cases h
 ·exact FL h
theorem StepR.bnd{ops:Array Oper}{n:Nat}{o:Oper}{st st':St}(h:StepR P ops n o st st')(hb:Bnd st):Bnd st':=by
 obtain⟨hd,h⟩:=h
 split at h
 ·rcases h with⟨r,_,hi,rfl⟩|⟨r,H',p,he,_,hi,rfl⟩
  ·exact hb.put (Nat.le_refl _) (eE hi fun x _=>hb.ev x)
  ·exact hb.put (mZ he) hi
 ·obtain⟨gb,r,_,_,_,_,hi,rfl⟩:=h
  exact hb.put (Nat.le_refl _) (eE (r:=r) hi fun x _=>hb.ev x)
theorem xA{env:Nat→AV}{d:Option Nat}{r:AV}{t:Nat}(h:∀k,d=some k→k≠t):putE env d r t=env t:=by
 cases d with
 |none=>rfl
 |some k=>exact aX _ _ _ (fun e=>h k rfl e.symm)
theorem fW{ops:Array Oper}{o:Oper}{env:Nat→AV}{d:Option Nat}{r:AV}(h:∀k,d=some k→k∉o.looksAt ops):∀x∈o.op.operands,ev (putE env d r) x=ev env x:=by
 intro x hx
 cases x with
 |tmp t=>
  simp only[ev]
  congr 1
  refine xA fun k hk e=>h k hk ?_
  subst e
  unfold Oper.looksAt
  exact List.mem_append_left _ (List.mem_filterMap.2 ⟨.tmp k,by simpa using hx,rfl⟩)
 |_=>rfl
theorem qV{ops:Array Oper}{o:Oper}{env:Nat→AV}{d:Option Nat}{r:AV}(h:∀k,d=some k→k∉o.looksAt ops){j:Nat}{b:Bool}(hg:o.guard=some (j,b)):gvOf ops (putE env d r) j b=gvOf ops env j b:=by
 unfold gvOf
 cases hd:(ops[j]?).bind (fun o=>o.dst)with
 |none=>rfl
 |some k=>
  simp only[]
  rw[xA]
  intro q hq e
  subst e
  refine h q hq ?_
  unfold Oper.looksAt
  refine List.mem_append_right _ ?_
  rw[hg]
  simp only[]
  rw[hd];simp
theorem dH{ρ ρ':Operand→AV}{op:Op}(h:∀x∈op.operands,ρ' x=ρ x):tch ρ' op=tch ρ op:=by
 unfold tch
 simp only[List.flatMap_def]
 congr 1
 exact List.map_congr_left fun x hx=>by rw[h x (by simpa using hx)]
theorem vA{ρ ρ':Operand→AV}{op:Op}(h:∀x∈op.operands,ρ' x=ρ x):wrOf ρ' op=wrOf ρ op:=by
 cases op<;>simp only[wrOf]
 case store t d x=>rw[h d (by simp[Op.operands])]
 case mapUpdate t m k x=>rw[h m (by simp[Op.operands])]
 case call c=>
  split
  ·rename_i s l e1 e2
   rw[h s (by simp only[Op.operands,Call.operands,Array.mem_append];right;have:s∈c.args.toList:=by rw[e2];simp
              simpa using this)]
  ·rename_i s l e1 e2
   rw[h s (by simp only[Op.operands,Call.operands,Array.mem_append];right;have:s∈c.args.toList:=by rw[e2];simp
              simpa using this)]
  ·rename_i s l e1 e2
   rw[h s (by simp only[Op.operands,Call.operands,Array.mem_append];right;have:s∈c.args.toList:=by rw[e2];simp
              simpa using this)]
  ·rfl
theorem xB{env:Nat→AV}{sel:Operand→Bool}(x:Operand):(evS env sel x).ids=(ev env x).ids:=by
 unfold evS
 cases sel x with
 |true=>exact HO _
 |false=>rfl
theorem I3{env:Nat→AV}{sel:Operand→Bool}{op:Op}:tch (evS env sel) op=tch (ev env) op:=by
 unfold tch
 congr 1
 funext x
 exact xB _
theorem J7{env:Nat→AV}{sel:Operand→Bool}{op:Op}:rdOf (evS env sel) op=rdOf (ev env) op:=by
 cases op<;>simp only[rdOf,xB]
 exact I3
theorem gM{env:Nat→AV}{d e:Option Nat}{r q:AV}(h:∀k,d=some k→e≠some k):putE (putE env d r) e q=putE (putE env e q) d r:=by
 cases d with
 |none=>rfl
 |some k=>
  cases e with
  |none=>rfl
  |some l=>
   have hne:l≠k:=fun e=>h k rfl (by rw[e])
   funext t
   simp only[putE,upd]
   by_cases h1:t=l
   ·subst h1;rw[if_pos rfl,if_neg hne,if_pos rfl]
   ·rw[if_neg h1]
    by_cases h2:t=k
    ·rw[if_pos h2,if_pos h2]
    ·rw[if_neg h2,if_neg h2,if_neg h1]
theorem I4{st:St}(hb:Bnd st){op:Op}{id:Nat}(h:id∈tch (ev st.env) op):id<st.heap.length:=by
 obtain⟨x,_,hx2⟩:=List.mem_flatMap.1 h
 exact(aT _ _).1 (hb.ev x) id hx2
inductive Reach(ops:Array Oper)(i:Nat):Nat→Prop
 |here (j:Nat) (o:Oper) (e:Edge) (ho:ops[j]? =some o) (he:e∈o.after) (hb:Region.binds .any e=true) (hi:e.on=i):Reach ops i j
 |far (j:Nat) (o:Oper) (e:Edge) (ho:ops[j]? =some o) (he:e∈o.after) (hb:Region.binds .any e=true) (hr:Reach ops i e.on):Reach ops i j
def maskOf(acc:List Nat)(o:Oper):Nat:=o.after.toList.foldl (fun s e=>if Region.binds .any e then s|||2^e.on|||acc.getD e.on 0 else s) 0
def masks:List Oper→List Nat→List Nat
 | [],acc=>acc
 |o::l,acc=>masks l (acc++[maskOf acc o])
theorem nA(acc:List Nat)(i:Nat):∀(es:List Edge) (s:Nat),(es.foldl (fun s e=>if Region.binds .any e then s|||2^e.on|||acc.getD e.on 0 else s) s).testBit i=true→
  s.testBit i=true∨∃e∈es,Region.binds .any e=true∧(e.on=i∨(acc.getD e.on 0).testBit i=true)
 | [],s,h=>.inl h
 |e::es,s,h=>by
  simp only[List.foldl_cons]at h
  rcases nA acc i es _ h with h|⟨e',he',h'⟩
  ·split at h
   ·rename_i hb
    simp only[Nat.testBit_or,Bool.or_eq_true,Nat.testBit_two_pow,decide_eq_true_eq]at h
    rcases h with(h|h)|h
    ·exact .inl h
    ·exact .inr ⟨e,by simp,hb,.inl h⟩
    ·exact .inr ⟨e,by simp,hb,.inr h⟩
   ·exact .inl h
  ·exact .inr ⟨e',by simp[he'],h'⟩
theorem gF{ops:Array Oper}{i:Nat}:∀(l:List Oper) (acc:List Nat),(∀k,(acc.length≤k→ops[k]? =l[k-acc.length]?))→(∀j,(acc.getD j 0).testBit i=true→Reach ops i j)→
  ∀j,((masks l acc).getD j 0).testBit i=true→Reach ops i j
 | [],acc,_,h,j,hj=>h j hj
 |o::l,acc,hl,h,j,hj=>by
  refine gF l (acc++[maskOf acc o]) (fun k hk=>?_) (fun k hk=>?_) j hj
  ·simp only[List.length_append,List.length_cons,List.length_nil]at hk⊢
   rw[hl k (by omega)]
   have:k-acc.length=(k-(acc.length+(0+1)))+1:=by omega
   rw[this];rfl
  ·by_cases h1:k<acc.length
   ·rw[List.getD_eq_getElem?_getD,List.getElem?_append_left h1,←List.getD_eq_getElem?_getD]at hk
    exact h k hk
   ·by_cases h2:k=acc.length
    ·subst h2
     rw[List.getD_eq_getElem?_getD,List.getElem?_append_right (Nat.le_refl _),Nat.sub_self]at hk
     simp only[List.getElem?_cons_zero,Option.getD_some]at hk
     have ho:ops[acc.length]? =some o:=by rw[hl acc.length (Nat.le_refl _),Nat.sub_self];rfl
     rcases nA acc i o.after.toList 0 hk with h0|⟨e,he,hb,h3⟩
     ·simp at h0
     ·rcases h3 with h3|h3
      ·exact .here _ o e ho (by simpa using he) hb h3
      ·exact .far _ o e ho (by simpa using he) hb (h _ h3)
    ·rw[List.getD_eq_getElem?_getD,List.getElem?_eq_none (by simp;omega)]at hk
     simp at hk
def drawOK(ops:Array Oper)(meet:Nat→Oper→Nat→Oper→Bool):Bool:=
 let ms:=masks ops.toList []
 ops.toList.zipIdx.all fun(oj,j)=>(oj.after.all fun e=> !Region.binds .any e||e.on<j)&&
  ops.toList.zipIdx.all fun(oi,i)=> !(i<j)||(ms.getD j 0).testBit i||(oi.apart ops oj&&meet i oi j oj)
theorem fX{ops:Array Oper}{meet:Nat→Oper→Nat→Oper→Bool}(h:drawOK ops meet=true):
  (∀j oj,ops[j]? =some oj→∀e∈oj.after,Region.binds .any e=true→e.on<j)∧
  ∀i j oi oj,ops[i]? =some oi→ops[j]? =some oj→i<j→Reach ops i j∨(oi.apart ops oj=true∧meet i oi j oj=true):=by
 unfold drawOK at h
 simp only[List.all_eq_true]at h
 have mem:∀i oi,ops[i]? =some oi→(oi,i)∈ops.toList.zipIdx:=fun i oi hi=>by
  rw[List.mem_zipIdx_iff_getElem?];simpa using hi
 refine⟨fun j oj hj e he hb=>?_,fun i j oi oj hi hj hij=>?_⟩
 ·have:=h (oj,j) (mem j oj hj)
  simp only[Bool.and_eq_true,Array.all_eq_true_iff_forall_mem]at this
  have:=this.1 e he
  simpa[hb]using this
 ·have:=h (oj,j) (mem j oj hj)
  simp only[Bool.and_eq_true,List.all_eq_true]at this
  have:=this.2 (oi,i) (mem i oi hi)
  simp only[hij,decide_true,Bool.not_true,Bool.false_or,Bool.or_eq_true,Bool.and_eq_true]at this
  rcases this with h1|h1
  ·left
   exact gF ops.toList [] (fun k _=>by simp) (fun j hj=>by simp at hj) j h1
  ·exact .inr h1
theorem fH{ops:Array Oper}{listed:Array Bool}(hcl:∀j o,ops[j]? =some o→listed.getD j false=true→∀e∈o.after,Region.binds .any e=true→listed.getD e.on false=true){i:Nat}:
  ∀{j:Nat},Reach ops i j→(∀o,ops[j]? =some o→∀e∈o.after,Region.binds .any e=true→listed.getD e.on false=true)→listed.getD i false=true:=by
 intro j h
 induction h with
 |here j o e ho he hb hi=>intro h;rw[←hi];exact h o ho e he hb
 |far j o e ho he hb hr ih=>intro h;exact ih fun o' ho'=>hcl e.on o' ho' (h o ho e he hb)
end
end Go.Ab
namespace Go.Ab
open Go.RowKit
section
variable{P:Program}
def leftL(ops:Array Oper)(listed:Array Bool):List Nat:=(List.range ops.size).filter fun i=> !listed.getD i true
theorem cF{ops:Array Oper}{listed:Array Bool}{i:Nat}:i∈Region.ready .any ops listed↔i∈leftL ops listed∧∀o,ops[i]? =some o→∀e∈o.after,Region.binds .any e=true→listed.getD e.on false=true:=by
 unfold Region.ready leftL
 simp only[List.mem_filter,List.mem_range,Bool.and_eq_true]
 constructor
 ·rintro⟨h1,h2,h3⟩
  refine⟨⟨h1,h2⟩,fun o ho e he hb=>?_⟩
  rw[ho]at h3
  simp only[Option.map_some,Option.getD_some,Array.all_eq_true_iff_forall_mem]at h3
  have:=h3 e he
  simpa[hb]using this
 ·rintro⟨⟨h1,h2⟩,h3⟩
  refine⟨h1,h2,?_⟩
  rw[Array.getElem?_eq_getElem h1]
  simp only[Option.map_some,Option.getD_some,Array.all_eq_true_iff_forall_mem]
  intro e he
  have:=h3 _ (Array.getElem?_eq_getElem h1) e he
  cases hb:Region.binds .any e
  ·simp
  ·simp[this hb]
theorem eJ{ops:Array Oper}{listed:Array Bool}{i:Nat}(hs:listed.size=ops.size)(hi:i∈leftL ops listed):leftL ops (listed.setIfInBounds i true)=(leftL ops listed).filter (· !=i):=by
 unfold leftL
 rw[List.filter_filter]
 refine List.filter_congr fun k hk=>?_
 simp only[List.mem_range]at hk
 by_cases h:k=i
 ·subst h
  have:(listed.setIfInBounds k true).getD k true=true:=by
   rw[Array.getD_eq_getD_getElem?,Array.getElem?_setIfInBounds_self_of_lt (by omega)];rfl
  simp[this]
 ·have:(listed.setIfInBounds i true).getD k true=listed.getD k true:=by
   rw[Array.getD_eq_getD_getElem?,Array.getElem?_setIfInBounds_ne (by omega),←Array.getD_eq_getD_getElem?]
  simp[this,h]
theorem bZ(ops:Array Oper)(listed:Array Bool):(leftL ops listed).Pairwise (· < ·):=(List.pairwise_lt_range).filter _
theorem iU{L:List Nat}(hL:L.Pairwise (· < ·)){i:Nat}(hi:i∈L):∃A B,L=A++i::B∧(∀a∈A,a<i)∧L.filter (· !=i)=A++B:=by
 obtain⟨A,B,rfl⟩:=List.append_of_mem hi
 refine⟨A,B,rfl,fun a ha=>?_,?_⟩
 ·exact(List.pairwise_append.1 hL).2.2 a ha i (by simp)
 ·have h1:∀a∈A,a≠i:=fun a ha=>by have:=(List.pairwise_append.1 hL).2.2 a ha i (by simp);omega
  have h2:∀b∈B,b≠i:=fun b hb=>by have:=(List.pairwise_cons.1 (List.pairwise_append.1 hL).2.1).1 b hb;omega
  rw[List.filter_append,List.filter_cons,List.filter_eq_self.2 (fun a ha=>by simpa using h1 a ha),List.filter_eq_self.2 (fun b hb=>by simpa using h2 b hb)]
  simp
theorem R.drew{X:Ctx}{st:St}{a:Act}{w:World}(h:R X st a w):R X st a {w with drawn:=w.drawn+1}:=by
 obtain⟨M,loc,h⟩:=h
 have hb:Below w.heap.size w {w with drawn:=w.drawn+1}:=⟨rfl,rfl,rfl,Nat.le_refl _,fun _ _=>rfl⟩
 exact⟨M,loc,h.world hb (fun _ hb=>hb) (fun b hb=>.inl hb)⟩
end
end Go.Ab
namespace Go.Ab
open Go.RowKit
structure TagT where
 t:List Nat
 w:List Nat
 e:Bool
 deriving Inhabited
def rdX(ρ:Operand→AV):Op→List Nat
 | .load _ x=>(ρ x).ids
 | .indexAddr _ x _=>(ρ x).ids
 | .lookup _ m _ _=>(ρ m).ids
 | .slice _ x _ _ _=>(ρ x).ids
 | .call c=>tch ρ (.call c)
 |_=>[]
def uP(ps:List Nat)(i:Nat):Nat:=ps.getD i 0
def HQ(H:List Cell)(raw:List AV)(ps:List Nat)(Hl:List Cell)(largs:List AV):Prop:=
 ps.Nodup∧okCells (uP ps) H ps Hl∧okRowIds Hl.length Hl∧okArgs (uP ps) Hl.length raw largs
def CallHQ(P:Program)(H:List Cell)(ρ:Operand→AV)(c:Call)(r:AV)(ps:List Nat):Prop:=
 ∃f first cap Hl largs r0,tgt ρ c.callee=some (f,first,cap)∧callable P f=true∧MeansH P f Hl largs r0 Hl∧HQ H (first++c.args.toList.map ρ++cap) ps Hl largs∧r0.idLt Hl.length∧r=ren (uP ps) r0
def CallHE(P:Program)(H:List Cell)(ρ:Operand→AV)(c:Call)(r:AV)(ps:List Nat)(H2:List Cell):Prop:=
 ∃f first cap Hl largs r0 H',tgt ρ c.callee=some (f,first,cap)∧callable P f=true∧MeansH P f Hl largs r0 H'∧CallHC H (first++c.args.toList.map ρ++cap) ps Hl largs∧ps.length≤H'.length∧
  r=ren (upN ps H.length) r0∧H2=heapAfter H ps H'
section
variable{P:Program}
theorem nB{u v:Nat→Nat}{m:Nat}(h:∀i,i<m→u i=v i){e:AV}(hi:∀id∈e.idB,id<m):renB u e=renB v e:=by
 cases e<;>simp[renB,AV.idB]at* <;>exact h _ hi
theorem pD{u v:Nat→Nat}{m:Nat}(h:∀i,i<m→u i=v i){e:AV}(hi:e.idLt m):ren u e=ren v e:=by
 have lst:∀(es:List AV),(∀e∈es,∀id∈e.idB,id<m)→es.map (renB u)=es.map (renB v):=fun es hb=>List.map_congr_left fun e he=>nB h (hb e he)
 induction e using AV.zone.induct with
 |case1 id=>simp only[ren];rw[h id hi]
 |case2 a b c d=>simp only[ren];rw[h a hi]
 |case3 a b c d=>simp only[ren];rw[h a hi]
 |case4 f first cap=>simp only[ren];rw[lst first (fun e he=>hi e (List.mem_append_left _ he)),lst cap (fun e he=>hi e (List.mem_append_right _ he))]
 |case5 g y ih=>simp only[ren];rw[ih hi]
 |case6 es=>simp only[ren];rw[lst es hi]
 |case7 es=>simp only[ren];rw[lst es hi]
 |case8 e h1 h2 h3 h4 h5 h6 h7=>
  cases e with
  |ow id=>exact(h1 _ rfl).elim
  |el a b c d=>exact(h2 _ _ _ _ rfl).elim
  |wn a b c d=>exact(h3 _ _ _ _ rfl).elim
  |fn a b c=>exact(h4 _ _ _ rfl).elim
  |mb g y=>exact(h5 _ _ rfl).elim
  |tup es=>exact(h6 _ rfl).elim
  |agg es=>exact(h7 _ rfl).elim
  |_=>rfl
theorem vB{u v:Nat→Nat}{m:Nat}(h:∀i,i<m→u i=v i){e:AV}(hi:∀c∈e.flat,c.idLt m):renF u e=renF v e:=by
 have one:∀c:AV,c.idLt m→renB u c=renB v c:=fun c hc=>nB h fun id hid=>(aT m c).1 hc id (by cases c<;>first|exact hid|simp[AV.idB]at hid)
 cases e with
 |agg cs=>simp only[renF];congr 1;exact List.map_congr_left fun c hc=>one c (hi c hc)
 |_=>exact one _ (hi _ (List.mem_singleton.2 rfl))
theorem o7{u v:Nat→Nat}{m:Nat}(h:∀i,i<m→u i=v i):∀{c:Cell},okRowIds m [c]→renCell u c=renCell v c
 | .dead,_=>rfl
 | .map _,_=>rfl
 | .row o,hc=>by
   simp only[renCell,renEs]
   cases hz:zoneEs o.es with
   |true=>rfl
   |false=>
    simp only[cond_false]
    rcases hc.1 with h1|h1
    ·rw[hz]at h1;cases h1
    ·congr 2
     refine List.map_congr_left fun e he=>vB h fun c hc=>h1 c ?_
     exact List.mem_flatMap.2 ⟨e,he,hc⟩
theorem o8{m:Nat}{c:Cell}{cs:List Cell}(h:okRowIds m (c::cs)):okRowIds m [c]∧okRowIds m cs:=by
 cases c with
 |row o=>exact⟨⟨h.1,trivial⟩,h.2⟩
 |dead=>exact⟨trivial,h⟩
 |map m=>exact⟨trivial,h⟩
theorem iD{u v:Nat→Nat}{m:Nat}(h:∀i,i<m→u i=v i){H:List Cell}:∀{ps:List Nat} {cs:List Cell},okRowIds m cs→okCells u H ps cs→okCells v H ps cs
 | [],[],_,h1=>h1
 |p::ps,c::cs,hr,h1=>by
  obtain⟨r1,r2⟩:=o8 hr
  exact⟨by rw[←o7 h r1];exact h1.1,iD h r2 h1.2⟩
 | [],_::_,_,h1=>h1.elim
 |_::_,[],_,h1=>h1.elim
theorem jU{u v:Nat→Nat}{m:Nat}(h:∀i,i<m→u i=v i):∀{as es:List AV},okArgs u m as es→okArgs v m as es
 | [],[],h1=>h1
 |a::as,e::es,h1=>⟨⟨by rw[←pD h h1.1.2];exact h1.1.1,h1.1.2⟩,jU h h1.2⟩
 | [],_::_,h1=>h1.elim
 |_::_,[],h1=>h1.elim
theorem I5(ps:List Nat)(n i:Nat)(h:i<ps.length):uP ps i=upN ps n i:=by unfold uP upN;rw[if_pos h]
theorem CallHQ.toA{H:List Cell}{ρ:Operand→AV}{c:Call}{r:AV}{ps:List Nat}(h:CallHQ P H ρ c r ps)(hlt:∀p∈ps,p<H.length):CallHA P H ρ c r H:=by
 obtain⟨f,first,cap,Hl,largs,r0,h1,h2,h3,⟨h4,h5,h6,h7⟩,h8,h9⟩:=h
 have hlen:=bO h5
 have hc:∀i,i<Hl.length→uP ps i=upN ps H.length i:=fun i hi=>I5 ps _ i (by omega)
 have h5':=iD hc h6 h5
 exact⟨f,first,cap,ps,Hl,largs,r0,Hl,h1,h2,h3,⟨h4,hlt,h5',h6,jU hc h7⟩,by rw[h9];exact pD hc h8,(iF h4 hlt h5').symm⟩
theorem CallHE.toA{H:List Cell}{ρ:Operand→AV}{c:Call}{r:AV}{ps:List Nat}{H2:List Cell}(h:CallHE P H ρ c r ps H2):CallHA P H ρ c r H2:=by
 obtain⟨f,first,cap,Hl,largs,r0,H',h1,h2,h3,h4,h5,h6,h7⟩:=h
 exact⟨f,first,cap,ps,Hl,largs,r0,H',h1,h2,h3,h4,h6,h7⟩
def newIds(a b:Nat):List Nat:=List.range' a (b-a)
theorem xC{a b i:Nat}(h:a≤i)(h2:i<b):i∈newIds a b:=by
 unfold newIds;rw[List.mem_range'];exact⟨i-a,by omega,by omega⟩
def StepT(P:Program)(ops:Array Oper)(n L0:Nat)(o:Oper)(t:TagT)(st st':St):Prop:=
 (∀d,o.dst=some d→d<n)∧
 match o.guard with
 |none=>
  (∃r,DoesX P st.heap (ev st.env) o.op r∧(subIds r (tch (ev st.env) o.op)∨r.idLt L0)∧st'=⟨putE st.env o.dst r,st.heap⟩∧t=⟨rdX (ev st.env) o.op,[],false⟩)∨
  (∃r H' p,effA P st.heap (ev st.env) o.op=some (p,r,H')∧p∧r.idLt H'.length∧st'=⟨putE st.env o.dst r,H'⟩∧t=⟨rdX (ev st.env) o.op,wrOf (ev st.env) o.op++newIds st.heap.length H'.length,true⟩)∨
  (∃c r ps,o.op=.call c∧CallHQ P st.heap (ev st.env) c r ps∧(∀p∈ps,p<st.heap.length)∧r.idLt L0∧st'=⟨putE st.env o.dst r,st.heap⟩∧t=⟨ps,[],false⟩)∨
  (∃c r ps H',o.op=.call c∧CallHE P st.heap (ev st.env) c r ps H'∧r.idLt H'.length∧(∀p∈ps,p<st.heap.length)∧st'=⟨putE st.env o.dst r,H'⟩∧t=⟨ps,ps++newIds st.heap.length H'.length,true⟩)
 |some (j,b)=>∃gb r sel,gvOf ops st.env j b=some gb∧(∀x∈o.op.operands,sel x=true→(ev st.env x).okU gb)∧(subIds r (tch (ev st.env) o.op)∨r.idLt L0)∧
   ((t=⟨rdX (ev st.env) o.op,[],false⟩∧(gb=true→DoesP P st.heap (evS st.env sel) o.op r))∨∃c ps,o.op=.call c∧(gb=true→CallHQ P st.heap (evS st.env sel) c r ps)∧(∀p∈ps,p<st.heap.length)∧t=⟨ps,[],false⟩)∧st'=⟨putE st.env o.dst (.mb gb r),st.heap⟩
def BndT(L0:Nat)(st:St):Prop:=Bnd st∧L0≤st.heap.length
theorem jV{r:AV}{ρ:Operand→AV}{op:Op}{n L0:Nat}(h:subIds r (tch ρ op)∨r.idLt L0)(hl:∀x∈op.operands,(ρ x).idLt n)(hn:L0≤n):r.idLt n:=
 h.elim (fun h=>eE h hl) (fun h=>AV.idLt_up hn h)
theorem StepT.bnd{ops:Array Oper}{n L0:Nat}{o:Oper}{t:TagT}{st st':St}(h:StepT P ops n L0 o t st st')(hb:BndT L0 st):BndT L0 st':=by
 obtain⟨hd,h⟩:=h
 obtain⟨hb,hL⟩:=hb
 split at h
 ·rcases h with⟨r,_,hi,rfl,_⟩|⟨r,H',p,he,_,hi,rfl,_⟩|⟨c,r,ps,_,hc,hps,hrl,rfl,_⟩|⟨c,r,ps,H',_,hc,hrl,hps,rfl,_⟩
  ·exact⟨hb.put (Nat.le_refl _) (jV hi (fun x _=>hb.ev x) hL),hL⟩
  ·exact⟨hb.put (mZ he) hi,Nat.le_trans hL (mZ he)⟩
  ·exact⟨hb.put (Nat.le_refl _) (AV.idLt_up hL hrl),hL⟩
  ·obtain⟨f,first,cap,Hl,largs,r0,H2,_,_,h3,_,_,_,rfl⟩:=hc
   have hle:st.heap.length≤(heapAfter st.heap ps H2).length:=by rw[dL];omega
   exact⟨hb.put hle hrl,Nat.le_trans hL hle⟩
 ·obtain⟨gb,r,sel,_,_,hi,_,rfl⟩:=h
  exact⟨hb.put (Nat.le_refl _) (jV (r:=r) hi (fun x _=>hb.ev x) hL),hL⟩
theorem sT{w:World}{X:Ctx}{L0:Nat}{st st':St}{ops:Array Oper}{o:Oper}{t:TagT}{a:Act}{K:Act→World→Prop}{Q:Exit→Act→World→Prop}(hs:StepT P ops X.n L0 o t st st')(hL:L0≤st.heap.length)(hr:R X st a w)(hk:∀a' w',R X st' a' w'→K a' w'):
  if Region.wanted o (yielded ops a.tmps)=true then o.wp P a w K Q else K (a.put o.dst undef) w:=by
 have hb:Bnd st:=by obtain⟨M,loc,h⟩:=hr;exact h.ids
 obtain⟨hd,h⟩:=hs
 split at h
 ·rename_i hg
  rcases h with⟨r,h1,hi,rfl,_⟩|⟨r,H',p,he,hp,hi,rfl,_⟩|⟨c,r,ps,hop,hc,hps,hrl,rfl,_⟩|⟨c,r,ps,H',hop,hc,hrl,hps,rfl,_⟩
  ·refine gE (st':=⟨putE st.env o.dst r,st.heap⟩) ⟨hd,?_⟩ hr hk
   rw[hg];exact .inl ⟨r,h1,jV hi (fun x _=>hb.ev x) hL,rfl⟩
  ·refine wB (st':=⟨putE st.env o.dst r,H'⟩) ⟨hd,?_⟩ hr hk
   rw[hg];exact .inr ⟨r,H',p,he,hp,hi,rfl⟩
  ·refine gE (st':=⟨putE st.env o.dst r,st.heap⟩) ⟨hd,?_⟩ hr hk
   rw[hg];exact .inr (.inl ⟨c,r,_,hop,hc.toA hps,rfl⟩)
  ·refine gE (st':=⟨putE st.env o.dst r,H'⟩) ⟨hd,?_⟩ hr hk
   rw[hg];exact .inr (.inl ⟨c,r,_,hop,hc.toA,rfl⟩)
 ·rename_i j b hg
  obtain⟨gb,r,sel,hv,hok,hi,hdo,rfl⟩:=h
  refine gE (st':=⟨putE st.env o.dst (.mb gb r),st.heap⟩) ⟨hd,?_⟩ hr hk
  rw[hg]
  refine .inl ⟨gb,r,sel,hv,hok,jV hi (fun x _=>hb.ev x) hL,fun hgb=>?_,rfl⟩
  rcases hdo with⟨_,hdo⟩|⟨c,ps,hop,hc,hps,_⟩
  ·exact .inl (hdo hgb)
  ·exact .inr ⟨c,hop,(hc hgb).toA hps⟩
theorem CU{ρ:Operand→AV}{op:Op}{id:Nat}(h:id∈rdOf ρ op):id∈rdX ρ op:=by
 cases op<;>simp only[rdOf]at h<;>first|exact h|cases h
theorem vQ{ρ:Operand→AV}{op:Op}{id:Nat}(h:id∈rdX ρ op):id∈tch ρ op:=by
 cases op<;>simp only[rdX]at h
 case load t x=>exact bM (by simp[Op.operands]) h
 case indexAddr t x i=>exact bM (x:=x) (by simp[Op.operands]) h
 case lookup t m k ok=>exact bM (x:=m) (by simp[Op.operands]) h
 case slice t x lo hi mx=>exact bM (x:=x) (by simp[Op.operands]) h
 case call c=>exact h
 all_goals cases h
theorem kL{ρ ρ':Operand→AV}{op:Op}(h:∀x∈op.operands,ρ' x=ρ x):rdX ρ' op=rdX ρ op:=by
 cases op<;>simp only[rdX]
 case load t x=>rw[h x (by simp[Op.operands])]
 case indexAddr t x i=>rw[h x (by simp[Op.operands])]
 case lookup t m k ok=>rw[h m (by simp[Op.operands])]
 case slice t x lo hi mx=>rw[h x (by simp[Op.operands])]
 case call c=>exact dH h
theorem qW{H H':List Cell}{ρ ρ':Operand→AV}{op:Op}(hρ:∀x∈op.operands,ρ' x=ρ x)(hH:∀id∈rdX ρ op,H'[id]? =H[id]?):sliceX P H' ρ' op=sliceX P H ρ op:=by
 cases op<;>simp only[sliceX]
 case slice t x lo hi mx=>
  cases mx with
  |some m=>rfl
  |none=>
   simp only[]
   have h1:lo.map ρ'=lo.map ρ:=by cases lo with|none=>rfl|some l=>simp only[Option.map_some];rw[hρ l (by simp[Op.operands])]
   have h2:hi.map ρ'=hi.map ρ:=by cases hi with|none=>rfl|some l=>simp only[Option.map_some];rw[hρ l (by simp[Op.operands])]
   rw[hρ x (by simp[Op.operands]),h1,h2]
   have:∀id∈(ρ x).ids,H'[id]? =H[id]? :=hH
   split
   ·rename_i e _ _ _ id hT e1
    rw[e1]at this
    rw[this id (by simp[AV.ids])]
   ·rfl
theorem kQ{H H':List Cell}{ρ ρ':Operand→AV}{op:Op}{r:AV}(hρ:∀x∈op.operands,ρ' x=ρ x)(hH:∀id∈rdX ρ op,H'[id]? =H[id]?)(h:DoesX P H ρ op r):DoesX P H' ρ' op r:=by
 rcases h with h|⟨p,h1,h2⟩
 ·exact .inl (kW hρ (fun id hid=>hH id (CU hid)) h)
 ·exact .inr ⟨p,by rw[qW hρ hH];exact h1,h2⟩
theorem gL{ρ ρ':Operand→AV}{c:Call}(hρ:∀x∈(Op.call c).operands,ρ' x=ρ x):tgt ρ' c.callee=tgt ρ c.callee:=by
 cases hc:c.callee with
 |value x=>simp only[tgt];rw[hρ x (by simp[Op.operands,Call.operands,hc])]
 |_=>rfl
theorem fF{ρ ρ':Operand→AV}{c:Call}(hρ:∀x∈(Op.call c).operands,ρ' x=ρ x):c.args.toList.map ρ'=c.args.toList.map ρ:=
 List.map_congr_left fun x hx=>hρ x (by simp only[Op.operands,Call.operands,Array.mem_append];right;simpa using hx)
theorem fG{u:Nat→Nat}{H H':List Cell}:∀{ps:List Nat} {cs:List Cell},(∀p∈ps,H'[p]? =H[p]?)→okCells u H ps cs→okCells u H' ps cs
 | [],[],_,h=>h
 |p::ps,c::cs,hH,h=>⟨by rw[hH p (by simp)];exact h.1,fG (fun q hq=>hH q (by simp[hq])) h.2⟩
 | [],_::_,_,h=>h.elim
 |_::_,[],_,h=>h.elim
theorem jW{H H':List Cell}{ρ ρ':Operand→AV}{c:Call}{r:AV}{ps:List Nat}(hρ:∀x∈(Op.call c).operands,ρ' x=ρ x)(hH:∀p∈ps,H'[p]? =H[p]?)(h:CallHQ P H ρ c r ps):CallHQ P H' ρ' c r ps:=by
 obtain⟨f,first,cap,Hl,largs,r0,h1,h2,h3,⟨h4,h5,h6,h7⟩,h8,h9⟩:=h
 exact⟨f,first,cap,Hl,largs,r0,by rw[gL hρ];exact h1,h2,h3,⟨h4,fG hH h5,h6,by rw[fF hρ];exact h7⟩,h8,h9⟩
theorem qX{H:List Cell}{ρ ρ':Operand→AV}{c:Call}{r:AV}{ps:List Nat}{H2:List Cell}(hρ:∀x∈(Op.call c).operands,ρ' x=ρ x)(h:CallHE P H ρ c r ps H2):CallHE P H ρ' c r ps H2:=by
 obtain⟨f,first,cap,Hl,largs,r0,H',h1,h2,h3,h4,h5,h6,h7⟩:=h
 exact⟨f,first,cap,Hl,largs,r0,H',by rw[gL hρ];exact h1,h2,h3,by rw[fF hρ];exact h4,h5,h6,h7⟩
theorem pE{H H':List Cell}{p:Nat}(h:H'[p]? =H[p]?)(hp:p<H.length):p<H'.length:=by
 rw[List.getElem?_eq_getElem hp]at h
 exact(List.getElem?_eq_some_iff.1 h).1
theorem dW{ops:Array Oper}{n L0:Nat}{o:Oper}{t:TagT}{st st':St}(h:StepT P ops n L0 o t st st')(hq:t.e=false):
  ∃r,st'=⟨putE st.env o.dst r,st.heap⟩∧∀(env':Nat→AV) (H:List Cell),(∀x∈o.op.operands,ev env' x=ev st.env x)→(∀j b,o.guard=some (j,b)→gvOf ops env' j b=gvOf ops st.env j b)→
   (∀id∈t.t,H[id]? =st.heap[id]?)→StepT P ops n L0 o t ⟨env',H⟩ ⟨putE env' o.dst r,H⟩:=by
 obtain⟨hd,h⟩:=h
 split at h
 ·rename_i hg
  rcases h with⟨r,h1,hi,rfl,rfl⟩|⟨r,H',p,he,_,hi,rfl,rfl⟩|⟨c,r,ps,hop,hc,hps,hrl,rfl,rfl⟩|⟨c,r,ps,H',hop,hc,hrl,hps,rfl,rfl⟩
  ·refine⟨r,rfl,fun env' H hl _ hH=>⟨hd,?_⟩⟩
   rw[hg]
   exact .inl ⟨r,kQ hl hH h1,by rw[dH hl];exact hi,rfl,by rw[kL hl]⟩
  ·cases hq
  ·refine⟨r,rfl,fun env' H hl _ hH=>⟨hd,?_⟩⟩
   rw[hg]
   exact .inr (.inr (.inl ⟨c,r,ps,hop,jW (by rw[←hop];exact hl) hH hc,fun p hp=>pE (hH p hp) (hps p hp),hrl,rfl,rfl⟩))
  ·cases hq
 ·rename_i j b hg
  obtain⟨gb,r,sel,hv,hok,hi,hdo,rfl⟩:=h
  refine⟨.mb gb r,rfl,fun env' H hl hgv hH=>⟨hd,?_⟩⟩
  rw[hg]
  have hlS:∀x∈o.op.operands,evS env' sel x=evS st.env sel x:=fun x hx=>by unfold evS;rw[hl x hx]
  refine⟨gb,r,sel,by rw[hgv j b hg];exact hv,fun x hx=>by rw[hl x hx];exact hok x hx,by rw[dH hl];exact hi,?_,rfl⟩
  rcases hdo with⟨rfl,hdo⟩|⟨c,ps,hop,hc,hps,rfl⟩
  ·exact .inl ⟨by rw[kL hl],fun hgb=>kW hlS (fun id hid=>hH id (by rw[J7]at hid;exact CU hid)) (hdo hgb)⟩
  ·exact .inr ⟨c,ps,hop,fun hgb=>jW (by rw[←hop];exact hlS) hH (hc hgb),fun p hp=>pE (hH p hp) (hps p hp),rfl⟩
theorem pF{ops:Array Oper}{n L0:Nat}{o:Oper}{t:TagT}{st st':St}(h:StepT P ops n L0 o t st st')(hq:t.e=true):
  ∃r H',st'=⟨putE st.env o.dst r,H'⟩∧(∀id,id<st.heap.length→id∉t.w→H'[id]? =st.heap[id]?)∧(∀id,st.heap.length≤id→id<H'.length→id∈t.w)∧
   ∀(env':Nat→AV),(∀x∈o.op.operands,ev env' x=ev st.env x)→StepT P ops n L0 o t ⟨env',st.heap⟩ ⟨putE env' o.dst r,H'⟩:=by
 obtain⟨hd,h⟩:=h
 split at h
 ·rename_i hg
  rcases h with⟨r,h1,hi,rfl,rfl⟩|⟨r,H',p,he,hp,hi,rfl,rfl⟩|⟨c,r,ps,hop,hc,hps,hrl,rfl,rfl⟩|⟨c,r,ps,H',hop,hc,hrl,hps,rfl,rfl⟩
  ·cases hq
  ·refine⟨r,H',rfl,fun id hid hn=>(mY he).2 id hid (fun hw=>hn (List.mem_append_left _ hw)),fun id h1 h2=>List.mem_append_right _ (xC h1 h2),fun env' hl=>⟨hd,?_⟩⟩
   rw[hg]
   exact .inr (.inl ⟨r,H',p,by rw[←he];exact iG hl,hp,hi,rfl,by rw[kL hl,vA hl]⟩)
  ·cases hq
  ·refine⟨r,H',rfl,fun id hid hn=>?_,fun id h1 h2=>List.mem_append_right _ (xC h1 h2),fun env' hl=>⟨hd,?_⟩⟩
   ·obtain⟨f,first,cap,Hl,largs,r0,H2,_,_,_,_,_,_,rfl⟩:=hc
    unfold heapAfter
    rw[List.getElem?_append_left (by rw[cH];exact hid),fP _ _ _ _ (fun hw=>hn (List.mem_append_left _ hw))]
   ·rw[hg]
    exact .inr (.inr (.inr ⟨c,r,ps,H',hop,qX (by rw[←hop];exact hl) hc,hrl,hps,rfl,rfl⟩))
 ·obtain⟨gb,r,sel,hv,hok,hi,hdo,rfl⟩:=h
  rcases hdo with⟨rfl,hdo⟩|⟨c,ps,hop,hc,hps,rfl⟩<;>cases hq
theorem xD{ops:Array Oper}{n L0:Nat}{o:Oper}{t:TagT}{st st':St}(h:StepT P ops n L0 o t st st')(hb:BndT L0 st){id:Nat}(hid:id∈t.t):id<st.heap.length:=by
 obtain⟨hb,hL⟩:=hb
 obtain⟨hd,h⟩:=h
 have hx:id∈rdX (ev st.env) o.op→id<st.heap.length:=fun h=>I4 hb (vQ h)
 split at h
 ·rcases h with⟨r,h1,hi,rfl,rfl⟩|⟨r,H',p,he,hp,hi,rfl,rfl⟩|⟨c,r,ps,hop,hc,hps,hrl,rfl,rfl⟩|⟨c,r,ps,H',hop,hc,hrl,hps,rfl,rfl⟩
  ·exact hx hid
  ·exact hx hid
  ·exact hps id hid
  ·exact hps id hid
 ·obtain⟨gb,r,sel,hv,hok,hi,hdo,rfl⟩:=h
  rcases hdo with⟨rfl,hdo⟩|⟨c,ps,hop,hc,hps,rfl⟩
  ·exact hx hid
  ·exact hps id hid
def noMeetT(ti tj:TagT):Bool:= !(ti.e&&tj.e)&&(ti.w.all fun id=> !tj.t.contains id)&&(tj.w.all fun id=> !ti.t.contains id)
theorem J8{ops:Array Oper}{n L0:Nat}{oi oj:Oper}{ti tj:TagT}{st st1 st2:St}(hb:BndT L0 st)(hi:StepT P ops n L0 oi ti st st1)(hj:StepT P ops n L0 oj tj st1 st2)(hap:oi.apart ops oj=true)(hm:noMeetT ti tj=true):
  ∃st1',StepT P ops n L0 oj tj st st1'∧StepT P ops n L0 oi ti st1' st2:=by
 obtain⟨a1,a2,a3⟩:=Oper.apart_spec hap
 simp only[noMeetT,Bool.and_eq_true,Bool.not_eq_true',List.all_eq_true]at hm
 obtain⟨⟨m1,m2⟩,m3⟩:=hm
 cases hei:ti.e with
 |false=>
  have hlt:=fun id=>xD hi hb (id:=id)
  obtain⟨ri,rfl,qi⟩:=dW hi hei
  have hl:∀x∈oj.op.operands,ev st.env x=ev (putE st.env oi.dst ri) x:=fun x hx=>(fW a1 x hx).symm
  cases hej:tj.e with
  |false=>
   obtain⟨rj,rfl,qj⟩:=dW hj hej
   refine⟨_,qj st.env st.heap hl (fun j b hg=>(qV a1 hg).symm) (fun _ _=>rfl),?_⟩
   have:=qi (putE st.env oj.dst rj) st.heap (fW a3) (fun j b hg=>qV a3 hg) (fun _ _=>rfl)
   rw[←gM a2]at this
   exact this
  |true=>
   obtain⟨rj,H',rfl,hfr,_,qj⟩:=pF hj hej
   refine⟨_,qj st.env hl,?_⟩
   have:=qi (putE st.env oj.dst rj) H' (fW a3) (fun j b hg=>qV a3 hg) (fun id hid=>by
    refine hfr id (hlt id hid) fun hw=>?_
    have:=m3 id hw
    simp at this
    exact this hid)
   rw[←gM a2]at this
   exact this
 |true=>
  have hej:tj.e=false:=by simpa[hei]using m1
  have hb1:=hi.bnd hb
  have hltj:=fun id=>xD hj hb1 (id:=id)
  obtain⟨ri,H1,rfl,hfr,hnew,qi⟩:=pF hi hei
  have hl:∀x∈oj.op.operands,ev st.env x=ev (putE st.env oi.dst ri) x:=fun x hx=>(fW a1 x hx).symm
  have hsame:∀id∈tj.t,st.heap[id]? =H1[id]? :=by
   intro id hid
   by_cases hin:id<st.heap.length
   ·refine(hfr id hin fun hw=>?_).symm
    have:=m2 id hw
    simp at this
    exact this hid
   ·exfalso
    have:=m2 id (hnew id (by omega) (hltj id hid))
    simp at this
    exact this hid
  obtain⟨rj,rfl,qj⟩:=dW hj hej
  refine⟨_,qj st.env st.heap hl (fun j b hg=>(qV a1 hg).symm) hsame,?_⟩
  have:=qi (putE st.env oj.dst rj) (fW a3)
  rw[←gM a2]at this
  exact this
def RunTX(P:Program)(ops:Array Oper)(n L0:Nat):List (Oper×TagT)→St→St→Prop
 | [],st,st'=>st'=st
 |(o,t)::l,st,st'=>∃st1,StepT P ops n L0 o t st st1∧RunTX P ops n L0 l st1 st'
theorem qY{ops:Array Oper}{n L0:Nat}{x:Oper×TagT}{B:List (Oper×TagT)}{sf:St}:∀(A:List (Oper×TagT)) (st:St),RunTX P ops n L0 (A++x::B) st sf→BndT L0 st→
  (∀a∈A,a.1.apart ops x.1=true∧noMeetT a.2 x.2=true)→RunTX P ops n L0 (x::(A++B)) st sf
 | [],st,h,_,_=>h
 |a::A,st,h,hb,hA=>by
  obtain⟨st1,h1,h2⟩:=h
  obtain⟨st2,g1,g2⟩:=qY A st1 h2 (h1.bnd hb) (fun b hb=>hA b (by simp[hb]))
  obtain⟨p1,p2⟩:=hA a (by simp)
  obtain⟨st1',q1,q2⟩:=J8 hb h1 g1 p1 p2
  exact⟨st1',q1,st2,q2,g2⟩
theorem CV{X:Ctx}{ops:Array Oper}{L0:Nat}{Q:Exit→Act→World→Prop}{T:Nat→TagT}{sf:St}(hq:∀a w,R X sf a w→Q .normal a w){meet:Nat→Oper→Nat→Oper→Bool}
  (hback:∀j oj,ops[j]? =some oj→∀e∈oj.after,Region.binds .any e=true→e.on<j)
  (hind:∀i j oi oj,ops[i]? =some oi→ops[j]? =some oj→i<j→Reach ops i j∨(oi.apart ops oj=true∧meet i oi j oj=true))
  (hmeet:∀i j oi oj,ops[i]? =some oi→ops[j]? =some oj→i<j→meet i oi j oj=true→noMeetT (T i) (T j)=true):
  ∀(fuel:Nat) (listed:Array Bool) (st:St) (a:Act) (w:World),listed.size=ops.size→(leftL ops listed).length=fuel→L0≤st.heap.length→
   (∀j o,ops[j]? =some o→listed.getD j false=true→∀e∈o.after,Region.binds .any e=true→listed.getD e.on false=true)→
   RunTX P ops X.n L0 ((leftL ops listed).map fun i=>(ops.getD i default,T i)) st sf→R X st a w→wpAny P .any ops Q fuel listed a w:=by
 have hsome:∀{listed:Array Bool} {i},i∈leftL ops listed→ops[i]? =some (ops.getD i default)∧listed.getD i true=false:=by
  intro listed i hi
  simp only[leftL,List.mem_filter,List.mem_range,Bool.not_eq_true']at hi
  exact⟨by rw[Array.getD_eq_getD_getElem?,Array.getElem?_eq_getElem hi.1];rfl,hi.2⟩
 intro fuel
 induction fuel with
 |zero=>
  intro listed st a w hs hl hL0 _ hr hR
  have h0:leftL ops listed=[]:=List.eq_nil_of_length_eq_zero hl
  rw[h0]at hr
  simp only[List.map_nil,RunTX]at hr
  subst hr
  refine⟨?_,hq a w hR⟩
  refine List.eq_nil_iff_forall_not_mem.2 fun i hi=>?_
  have:=(cF.1 hi).1
  rw[h0]at this;cases this
 |succ fuel ih=>
  intro listed st a w hs hl hL0 hcl hr hR
  obtain⟨M,loc,hRR⟩:=hR
  have hb:BndT L0 st:=⟨hRR.ids,hL0⟩
  refine⟨fun h0=>?_,fun i hi=>?_⟩
  ·exfalso
   cases hL:leftL ops listed with
   |nil=>rw[hL]at hl;simp at hl
   |cons k L=>
    have hk:k∈leftL ops listed:=by rw[hL];simp
    have:k∈Region.ready .any ops listed:=by
     refine cF.2 ⟨hk,fun o ho e he hbn=>?_⟩
     have hlt:=hback k o ho e he hbn
     have hkk:k<ops.size:=(Array.getElem?_eq_some_iff.1 ho).1
     cases hg:listed.getD e.on false with
     |true=>rfl
     |false=>
      exfalso
      have hsz:e.on<listed.size:=by omega
      have hmem:e.on∈leftL ops listed:=by
       simp only[leftL,List.mem_filter,List.mem_range,Bool.not_eq_true']
       refine⟨by omega,?_⟩
       rw[Array.getD_eq_getD_getElem?,Array.getElem?_eq_getElem hsz]at hg⊢
       exact hg
      have hsort:=bZ ops listed
      rw[hL]at hsort hmem
      rcases List.mem_cons.1 hmem with h|h
      ·omega
      ·have:=(List.pairwise_cons.1 hsort).1 _ h;omega
    rw[h0]at this;cases this
  ·obtain⟨hil,hip⟩:=cF.1 hi
   obtain⟨hoi,hli⟩:=hsome hil
   obtain⟨A,B,hAB,hA,hf⟩:=iU (bZ ops listed) hil
   rw[hAB,List.map_append,List.map_cons]at hr
   have hbub:=qY (A.map fun i=>(ops.getD i default,T i)) st hr hb (fun x hx=>by
    obtain⟨k,hk,rfl⟩:=List.mem_map.1 hx
    have hkl:k∈leftL ops listed:=by rw[hAB];simp[hk]
    obtain⟨hok,hlk⟩:=hsome hkl
    rcases hind k i _ _ hok hoi (hA k hk)with h1|⟨h1,h2⟩
    ·exfalso
     have:=fH hcl h1 hip
     have hk2:k<listed.size:=by
      simp only[leftL,List.mem_filter,List.mem_range]at hkl;omega
     rw[Array.getD_eq_getD_getElem?,Array.getElem?_eq_getElem hk2]at this hlk
     simp at this hlk
     rw[hlk]at this;cases this
    ·exact⟨h1,hmeet k i _ _ hok hoi (hA k hk) h2⟩)
   obtain⟨st1,h1,h2⟩:=hbub
   have hL1:=(h1.bnd hb).2
   unfold wpOp
   rw[hoi]
   simp only[]
   have hstep:=sT (Q:=Q) (K:=wpAny P .any ops Q fuel (listed.setIfInBounds i true)) h1 hL0 ⟨M,loc,hRR⟩ (fun a' w' hR'=>by
    refine ih (listed.setIfInBounds i true) st1 a' w' (by simpa using hs) ?_ hL1 ?_ ?_ hR'
    ·rw[eJ hs hil,hf]
     rw[hAB]at hl
     simp at hl⊢;omega
    ·intro j o hj hlj e he hbn
     have hset:∀q,listed.getD q false=true→(listed.setIfInBounds i true).getD q false=true:=fun q hq=>by
      by_cases hqi:q=i
      ·subst hqi
       have hqs:q<listed.size:=by
        simp only[leftL,List.mem_filter,List.mem_range]at hil;omega
       rw[Array.getD_eq_getD_getElem?,Array.getElem?_setIfInBounds_self_of_lt hqs];rfl
      ·rw[Array.getD_eq_getD_getElem?,Array.getElem?_setIfInBounds_ne (by omega),←Array.getD_eq_getD_getElem?];exact hq
     by_cases hji:j=i
     ·subst hji
      exact hset _ (hip o hj e he hbn)
     ·rw[Array.getD_eq_getD_getElem?,Array.getElem?_setIfInBounds_ne (by omega),←Array.getD_eq_getD_getElem?]at hlj
      exact hset _ (hcl j o hj hlj e he hbn)
    ·rw[eJ hs hil,hf,List.map_append];exact h2)
   split
   ·rename_i hw
    rw[if_pos hw]at hstep
    exact .inl hstep
   ·rename_i hw
    rw[if_neg hw]at hstep
    exact hstep
def meetT(ts:List TagT)(i:Nat)(_:Oper)(j:Nat)(_:Oper):Bool:=noMeetT (ts.getD i default) (ts.getD j default)
theorem zU{X:Ctx}{Q:Exit→St→Prop}{st st':St}{id:Nat}{ops:Array Oper}{L0:Nat}(ts:List TagT)(hm:P.follows .mixedOrders=true)(hd:drawOK ops (meetT ts)=true)(hlen:ts.length=ops.size)(hL:L0≤st.heap.length)
  (h:RunTX P ops X.n L0 (ops.toList.zip ts) st st') (hq:Q .normal st'):AWP P X (.region id ops true) Q st:=by
 intro a w hr
 refine wp_region_any hm ?_
 obtain⟨hback,hind⟩:=fX hd
 have hall:leftL ops (Array.replicate ops.size false)=List.range ops.size:=by
  unfold leftL
  refine List.filter_eq_self.2 fun i hi=>?_
  simp only[List.mem_range]at hi
  rw[Array.getD_eq_getD_getElem?]
  simp[hi]
 refine CV (T:=fun i=>ts.getD i default) (sf:=st') (L0:=L0) (fun a' w' hr'=>⟨st',hq,hr'⟩) hback hind (fun i j oi oj hi hj _ hmt=>hmt) ops.size _ st a _ (by simp) ?_ hL ?_ ?_ hr.drew
 ·rw[hall];simp
 ·intro j o hj hl
  rw[Array.getD_eq_getD_getElem?]at hl
  simp[Array.getElem?_replicate]at hl
  split at hl<;>simp at hl
 ·rw[hall]
  have:((List.range ops.size).map fun i=>(ops.getD i default,ts.getD i default))=ops.toList.zip ts:=by
   apply List.ext_getElem?
   intro k
   by_cases hk:k<ops.size
   ·have hkt:k<ts.length:=by rw[hlen];exact hk
    simp[List.getElem?_range hk,List.getElem?_zip_eq_some,hk,hkt,Array.getD_eq_getD_getElem?,List.getD_eq_getElem?_getD,List.getElem?_zipWith,List.zip]
   ·have hkt:¬k<ts.length:=by rw[hlen];exact hk
    simp[hk,List.zip,List.getElem?_zipWith]
  rw[this];exact h
def CallT(P:Program)(f:FuncId)(args:List AV)(b ok:Bool)(H:List Cell)(raw:List AV)(L0:Nat)(rd:List Nat)(k:Bool→AV→List Cell→TagT→Prop):Prop:=
 (ok=true∧∃fr r,Means fr P f args r∧r.zone=true∧(fr=true∨r.scal=true∨b=false)∧k true r H ⟨rd,[],false⟩)∨
 (∃ps Hl largs r0,MeansH P f Hl largs r0 Hl∧HQ H raw ps Hl largs∧r0.idLt Hl.length∧((∀p∈ps,p<H.length)∧(ren (uP ps) r0).idLt L0)∧k true (ren (uP ps) r0) H ⟨ps,[],false⟩)∨
 (∃ps Hl largs r0 H',MeansH P f Hl largs r0 H'∧CallHC H raw ps Hl largs∧ps.length≤H'.length∧(ren (upN ps H.length) r0).idLt (heapAfter H ps H').length∧(∀p∈ps,p<H.length)∧k true (ren (upN ps H.length) r0) (heapAfter H ps H') ⟨ps,ps++newIds H.length (heapAfter H ps H').length,true⟩)
def CallGT(P:Program)(f:FuncId)(args:List AV)(b gb ok:Bool)(H:List Cell)(raw:List AV)(L0:Nat)(rd:List Nat)(k:Bool→AV→TagT→Prop):Prop:=
 (ok=true∧∃r,(gb=true→∃fr,Means fr P f args r∧(fr=true∨r.scal=true∨b=false))∧r.zone=true∧k true r ⟨rd,[],false⟩)∨
 (∃ps Hl largs r0,(gb=true→MeansH P f Hl largs r0 Hl)∧HQ H raw ps Hl largs∧r0.idLt Hl.length∧(∀p∈ps,p<H.length)∧k true (ren (uP ps) r0) ⟨ps,[],false⟩)∨
 (gb=false∧k true .bad ⟨rd,[],false⟩)
theorem sU{P:Program}{f:FuncId}{args args':List AV}{b b' ok ok':Bool}{H H':List Cell}{raw raw':List AV}{L0:Nat}{rd rd':List Nat}{k:Bool→AV→List Cell→TagT→Prop}(h:args=args')(hb:b=b')(ho:ok=ok')(hH:H=H')(hr:raw=raw')(hd:rd=rd'):CallT P f args b ok H raw L0 rd k=CallT P f args' b' ok' H' raw' L0 rd' k:=by rw[h,hb,ho,hH,hr,hd]
theorem qZ{P:Program}{f:FuncId}{args args':List AV}{b b' gb gb' ok ok':Bool}{H H':List Cell}{raw raw':List AV}{L0:Nat}{rd rd':List Nat}{k:Bool→AV→TagT→Prop}(h:args=args')(hb:b=b')(hg:gb=gb')(ho:ok=ok')(hH:H=H')(hr:raw=raw')(hd:rd=rd'):CallGT P f args b gb ok H raw L0 rd k=CallGT P f args' b' gb' ok' H' raw' L0 rd' k:=by rw[h,hb,hg,ho,hH,hr,hd]
attribute [congr] sU qZ
def orIds(r:AV)(l:List Nat)(L0:Nat):Prop:=subIds r l∨r.idLt L0
def runT(P:Program)(ops:Array Oper)(n L0:Nat):List Oper→Bool→List TagT→(St→List TagT→Prop)→St→Prop
 | [],_,acc,K,st=>K st acc
 |_::_,false,_,_,_=>False
 |o::l,true,acc,K,st=>dOK n o.dst∧
  match o.guard with
  |none=>
   if isCall o.op then
    match tgt (ev st.env) (argsOf o.op).1 with
    |some (f,first,cap)=>callable P f=true∧
      CallT P f (first++(argsOf o.op).2.map (fun x=>argA st.heap (ev st.env x))++cap) ((argsOf o.op).2.any fun x=>(ev st.env x).isOw) ((first++(argsOf o.op).2.map (fun x=>argA st.heap (ev st.env x))++cap).all AV.argOK)
       st.heap (first++(argsOf o.op).2.map (ev st.env)++cap) L0 (rdX (ev st.env) o.op)
       (fun z r H t=>runT P ops n L0 l z (acc++[t]) K ⟨putE st.env o.dst r,H⟩)
    |none=>False
   else if isEff o.op then
    match doF P true st.heap (ev st.env) o.op with
    |some (p,r,H)=>p∧r.idLt H.length∧runT P ops n L0 l true (acc++[⟨rdX (ev st.env) o.op,wrOf (ev st.env) o.op++newIds st.heap.length H.length,true⟩]) K ⟨putE st.env o.dst r,H⟩
    |none=>False
   else match doF P false st.heap (ev st.env) o.op with
    |some (p,r,_)=>p∧orIds r (tch (ev st.env) o.op) L0∧runT P ops n L0 l true (acc++[⟨rdX (ev st.env) o.op,[],false⟩]) K ⟨putE st.env o.dst r,st.heap⟩
    |none=>False
  |some (j,b)=>
   match gvOf ops st.env j b with
   |some gb=>okUS gb st.env (selOf o.op) o.op.operands.toList∧
    if isCall o.op then
     match tgt (evU st.env) (argsOf o.op).1 with
     |some (f,first,cap)=>callable P f=true∧
       CallGT P f (first++(argsOf o.op).2.map (fun x=>argA st.heap (evU st.env x))++cap) ((argsOf o.op).2.any fun x=>(evU st.env x).isOw) gb ((first++(argsOf o.op).2.map (fun x=>argA st.heap (evU st.env x))++cap).all AV.argOK)
        st.heap (first++(argsOf o.op).2.map (evU st.env)++cap) L0 (rdX (ev st.env) o.op)
        (fun z r t=>orIds r (tch (ev st.env) o.op) L0∧runT P ops n L0 l z (acc++[t]) K ⟨putE st.env o.dst (.mb gb r),st.heap⟩)
     |none=>False
    else match doG P st.heap (evS st.env (selOf o.op)) o.op with
     |some (p,r)=>(gb=true→p)∧orIds r (tch (ev st.env) o.op) L0∧runT P ops n L0 l true (acc++[⟨rdX (ev st.env) o.op,[],false⟩]) K ⟨putE st.env o.dst (.mb gb r),st.heap⟩
     |none=>gb=false∧runT P ops n L0 l true (acc++[⟨rdX (ev st.env) o.op,[],false⟩]) K ⟨putE st.env o.dst (.mb gb .bad),st.heap⟩
   |none=>False
theorem lX{H H':List Cell}{ρ:Operand→AV}{op:Op}{p:Prop}{r:AV}(h:effA P H ρ op=some (p,r,H')):isEff op=true:=(mY h).1
theorem r4{ops:Array Oper}{n L0:Nat}{K:St→List TagT→Prop}:∀(l:List Oper) (acc:List TagT) (st:St),runT P ops n L0 l true acc K st→∃ts st',ts.length=l.length∧RunTX P ops n L0 (l.zip ts) st st'∧K st' (acc++ts)
 | [],acc,st,h=>⟨[],st,rfl,rfl,by rw[List.append_nil];exact h⟩
 |o::l,acc,st,h=>by
  obtain⟨hd,h⟩:=h
  have hd':∀d,o.dst=some d→d<n:=by intro d e;rw[e]at hd;exact hd
  have go:∀st1 t,StepT P ops n L0 o t st st1→runT P ops n L0 l true (acc++[t]) K st1→∃ts st',ts.length=(o::l).length∧RunTX P ops n L0 ((o::l).zip ts) st st'∧K st' (acc++ts):=by
   intro st1 t h1 h2
   obtain⟨ts,st',h3,h4,h5⟩:=r4 l _ st1 h2
   exact⟨t::ts,st',by simp[h3],⟨st1,h1,h4⟩,by simpa using h5⟩
  split at h
  ·rename_i hg
   split at h
   ·rename_i hc
    obtain⟨c,hop,hargs⟩:=iX hc
    rw[hargs]at h
    simp only[]at h
    split at h
    ·rename_i f first cap ht
     obtain⟨h1,h2⟩:=h
     rcases h2 with⟨hok,fr,r,h3,hz,h4,h5⟩|⟨ps,Hl,largs,r0,h3,h4,hr0,hps,h5⟩|⟨ps,Hl,largs,r0,H',h3,h4,hle,hrl,hps,h5⟩
     ·refine go _ _ ⟨hd',?_⟩ h5
      rw[hg]
      have hall:=List.all_eq_true.1 hok
      refine .inl ⟨r,.inl (.inr (.inr (.inl ⟨c,hop,f,first,cap,ht,h1,fun e he=>hall e ?_,fun x hx=>hall _ ?_,hz,fr,h3,?_⟩))),.inl (mW hz _),rfl,rfl⟩
      ·rcases List.mem_append.1 he with he|he
       ·exact List.mem_append_left _ (List.mem_append_left _ he)
       ·exact List.mem_append_right _ he
      ·exact List.mem_append_left _ (List.mem_append_right _ (List.mem_map.2 ⟨x,hx,rfl⟩))
      ·rcases h4 with h4|h4|h4
       ·exact .inl h4
       ·exact .inr (.inl h4)
       ·refine .inr (.inr fun x hx=>?_)
        have:=List.any_eq_false.1 h4 x hx
        simpa using this
     ·refine go _ _ ⟨hd',?_⟩ h5
      rw[hg]
      exact .inr (.inr (.inl ⟨c,_,ps,hop,⟨f,first,cap,Hl,largs,r0,ht,h1,h3,h4,hr0,rfl⟩,hps.1,hps.2,rfl,rfl⟩))
     ·refine go _ _ ⟨hd',?_⟩ h5
      rw[hg]
      exact .inr (.inr (.inr ⟨c,_,ps,_,hop,⟨f,first,cap,Hl,largs,r0,H',ht,h1,h3,h4,hle,rfl,rfl⟩,hrl,hps,rfl,rfl⟩))
    ·exact h.elim
   ·split at h
    ·rename_i he
     split at h
     ·rename_i p r H hdo
      obtain⟨h1,h2,h3⟩:=h
      refine go _ _ ⟨hd',?_⟩ h3
      rw[hg]
      rcases pU hdo h1 with⟨e1,e2,rfl⟩|e1|⟨e0,_⟩
      ·have:=qU e1
       rw[he]at this;cases this
      ·exact .inr (.inl ⟨r,H,p,e1,h1,h2,rfl,rfl⟩)
      ·cases e0
     ·exact h.elim
    ·rename_i he
     split at h
     ·rename_i p r H hdo
      obtain⟨h1,h2,h3⟩:=h
      refine go _ _ ⟨hd',?_⟩ h3
      rw[hg]
      rcases pU hdo h1 with⟨e1,e2,rfl⟩|e1|⟨e0,e1,rfl⟩
      ·exact .inl ⟨r,.inl e1,h2,rfl,rfl⟩
      ·have:=lX e1
       exact absurd this he
      ·exact .inl ⟨r,.inr e1,h2,rfl,rfl⟩
     ·exact h.elim
  ·rename_i j b hg
   split at h
   ·rename_i gb hgv
    obtain⟨hu,h⟩:=h
    have hu':∀x∈o.op.operands,selOf o.op x=true→(ev st.env x).okU gb:=fun x hx=>sP hu x (by simpa using hx)
    split at h
    ·rename_i hc
     obtain⟨c,hop,hargs⟩:=iX hc
     rw[hargs]at h
     simp only[]at h
     split at h
     ·rename_i f first cap ht
      obtain⟨h1,h2⟩:=h
      rcases h2 with⟨hok,r,h3,hz,hi,h5⟩|⟨ps,Hl,largs,r0,h3,h4,hr0,hps,hi,h5⟩|⟨hgb0,h5⟩
      ·refine go _ _ ⟨hd',?_⟩ h5
       rw[hg]
       have hall:=List.all_eq_true.1 hok
       refine⟨gb,r,fun _=>true,hgv,fun x hx _=>hu' x hx (by rw[hop];rfl),hi,.inl ⟨rfl,fun hgb=>?_⟩,rfl⟩
       obtain⟨fr,h3,h4⟩:=h3 hgb
       refine .inr (.inr (.inl ⟨c,hop,f,first,cap,ht,h1,fun e he=>hall e ?_,fun x hx=>hall _ ?_,hz,fr,h3,?_⟩))
       ·rcases List.mem_append.1 he with he|he
        ·exact List.mem_append_left _ (List.mem_append_left _ he)
        ·exact List.mem_append_right _ he
       ·exact List.mem_append_left _ (List.mem_append_right _ (List.mem_map.2 ⟨x,hx,rfl⟩))
       ·rcases h4 with h4|h4|h4
        ·exact .inl h4
        ·exact .inr (.inl h4)
        ·refine .inr (.inr fun x hx=>?_)
         have:=List.any_eq_false.1 h4 x hx
         show(evU st.env x).isOw=false
         simpa using this
      ·refine go _ _ ⟨hd',?_⟩ h5
       rw[hg]
       exact⟨gb,_,fun _=>true,hgv,fun x hx _=>hu' x hx (by rw[hop];rfl),hi,.inr ⟨c,ps,hop,fun hgb=>⟨f,first,cap,Hl,largs,r0,ht,h1,h3 hgb,h4,hr0,rfl⟩,hps,rfl⟩,rfl⟩
      ·refine go _ _ ⟨hd',?_⟩ h5.2
       rw[hg]
       exact⟨gb,.bad,fun _=>true,hgv,fun x hx _=>hu' x hx (by rw[hop];rfl),.inl (fun id hid=>by cases hid),.inl ⟨rfl,fun hgb=>(by rw[hgb0]at hgb;cases hgb)⟩,rfl⟩
     ·exact h.elim
    ·split at h
     ·rename_i p r he
      obtain⟨h1,hi,h3⟩:=h
      refine go _ _ ⟨hd',?_⟩ h3
      rw[hg]
      exact⟨gb,r,_,hgv,hu',hi,.inl ⟨rfl,fun hgb=>uW he (h1 hgb)⟩,rfl⟩
     ·obtain⟨h1,h3⟩:=h
      refine go _ _ ⟨hd',?_⟩ h3
      rw[hg]
      exact⟨gb,.bad,_,hgv,hu',.inl (fun id hid=>by cases hid),.inl ⟨rfl,fun hgb=>(by rw[h1]at hgb;cases hgb)⟩,rfl⟩
   ·exact h.elim
theorem sV{f:FuncId}{args:List AV}{b ok:Bool}{H:List Cell}{raw:List AV}{L0:Nat}{rd:List Nat}{k:Bool→AV→List Cell→TagT→Prop}{fr:Bool}{r:AV}(h:Means fr P f args r)(hz:r.zone=true)(hb:fr=true∨r.scal=true∨b=false)(ho:ok=true)(hk:k true r H ⟨rd,[],false⟩):CallT P f args b ok H raw L0 rd k:=
 .inl ⟨ho,fr,r,h,hz,hb,hk⟩
theorem r6{f:FuncId}{args:List AV}{b gb ok:Bool}{H:List Cell}{raw:List AV}{L0:Nat}{rd:List Nat}{k:Bool→AV→TagT→Prop}{fr:Bool}{r:AV}(h:gb=true→Means fr P f args r)(hz:r.zone=true)(hb:fr=true∨r.scal=true∨b=false)(ho:ok=true)(hk:k true r ⟨rd,[],false⟩):CallGT P f args b gb ok H raw L0 rd k:=
 .inl ⟨ho,r,fun g=>⟨fr,h g,hb⟩,hz,hk⟩
theorem bN{f:FuncId}{args:List AV}{b ok:Bool}{H:List Cell}{raw:List AV}{L0:Nat}{rd:List Nat}{k:Bool→AV→List Cell→TagT→Prop}(ps:List Nat){Hl:List Cell}{largs:List AV}{r0:AV}(h:MeansH P f Hl largs r0 Hl)(hc:HQ H raw ps Hl largs∧r0.idLt Hl.length∧(∀p∈ps,p<H.length)∧(ren (uP ps) r0).idLt L0)(hk:k true (ren (uP ps) r0) H ⟨ps,[],false⟩):CallT P f args b ok H raw L0 rd k:=
 .inr (.inl ⟨ps,Hl,largs,r0,h,hc.1,hc.2.1,hc.2.2,hk⟩)
theorem dB{f:FuncId}{args:List AV}{b ok:Bool}{H:List Cell}{raw:List AV}{L0:Nat}{rd:List Nat}{k:Bool→AV→List Cell→TagT→Prop}(ps:List Nat){Hl:List Cell}{largs:List AV}{r0:AV}{H':List Cell}(h:MeansH P f Hl largs r0 H')(hc:CallHC H raw ps Hl largs∧ps.length≤H'.length∧(ren (upN ps H.length) r0).idLt (heapAfter H ps H').length∧(∀p∈ps,p<H.length))(hk:k true (ren (upN ps H.length) r0) (heapAfter H ps H') ⟨ps,ps++newIds H.length (heapAfter H ps H').length,true⟩):CallT P f args b ok H raw L0 rd k:=
 .inr (.inr ⟨ps,Hl,largs,r0,H',h,hc.1,hc.2.1,hc.2.2.1,hc.2.2.2,hk⟩)
theorem dQ{f:FuncId}{args:List AV}{b gb ok:Bool}{H:List Cell}{raw:List AV}{L0:Nat}{rd:List Nat}{k:Bool→AV→TagT→Prop}(h:gb=false)(hk:k true .bad ⟨rd,[],false⟩):CallGT P f args b gb ok H raw L0 rd k:=.inr (.inr ⟨h,hk⟩)
end
end Go.Ab
namespace Go.Ab
open Go.RowKit
def prune(G:List Nat)(st:St):St:=⟨mkE (G.map fun s=>(s,st.env s)),st.heap⟩
theorem lS(env:Nat→AV):∀(G:List Nat) (s:Nat),mkE (G.map fun s=>(s,env s)) s=env s∨mkE (G.map fun s=>(s,env s)) s=.bad
 | [],s=>.inr rfl
 |g::G,s=>by
  simp only[List.map_cons,mkE,upd]
  split
  ·rename_i h;subst h;exact .inl rfl
  ·exact lS env G s
theorem cK{X:Ctx}{st:St}(G:List Nat):Sub X (prune G st) st:=by
 rintro a w ⟨M,loc,h⟩
 refine⟨M,loc,fun s=>?_,h.nle,h.size,h.defers,h.obj,h.sep,h.mobj,h.msep,h.below,h.zone,h.zin,h.zlt,h.one,fun s=>?_⟩
 ·rcases lS st.env G s with e|e
  ·show Rep w M loc _ (mkE (G.map fun s=>(s,st.env s)) s)
   rw[e];exact h.env s
  ·show Rep w M loc _ (mkE (G.map fun s=>(s,st.env s)) s)
   rw[e];exact(RepZ.bad _).rep
 ·show(mkE (G.map fun s=>(s,st.env s)) s).idLt st.heap.length
  rcases lS st.env G s with e|e
  ·rw[e];exact h.ids s
  ·rw[e];trivial
section
variable{P:Program}{X:Ctx}{N:Nat}{Q:Exit→St→Prop}{st:St}{id:Nat}{ops:Array Oper}
theorem aQ(G:List Nat)(hX:X.n=N)(h:runK P ops N false (fun v s=>Q (panCh v) (prune G s)) ops.toList true (fun s=>Q .normal (prune G s)) st):AWP P X (.region id ops false) Q st:=by
 intro a w hr
 refine wp_region_list (wY (K:=fun s=>Q .normal (prune G s)) (qp:=fun v s=>Q (panCh v) (prune G s)) (Q:=fun e a' w'=>∃st',Q e st'∧R X st' a' w') (fun st' a' w' hk hr'=>⟨_,hk,cK G a' w' hr'⟩) (fun pv st' a' w' hk hr'=>⟨_,hk,cK G a' w' hr'⟩) ops.toList st a w (by rw[hX];exact h) hr)
theorem aK(G:List Nat)(hX:X.n=N)(hm:P.follows .mixedOrders=true)(h:runT P ops N st.heap.length ops.toList true [] (fun s ts=>drawOK ops (meetT ts)=true∧Q .normal (prune G s)) st):AWP P X (.region id ops true) Q st:=by
 obtain⟨ts,st',h0,h1,hd,h2⟩:=r4 ops.toList [] st h
 rw[List.nil_append]at hd
 intro a w hr
 refine wp_mono (zU (P:=P) (L0:=st.heap.length) (Q:=fun e s=>e=.normal∧s=st') ts hm hd (by rw[h0];simp) (Nat.le_refl _) (by rw[hX];exact h1) ⟨rfl,rfl⟩ a w hr) fun e a' w' hh=>?_
 obtain⟨s,⟨rfl,rfl⟩,hr'⟩:=hh
 exact⟨_,h2,cK G a' w' hr'⟩
end
attribute [go_sem] frzF nestIds frzRow frzRows frzOK convB effA killH runK panV panCh panQ deadAll AV.known K.conc nilC sliceEs runT rdX wrOf orIds HQ uP isEff dOK doF doG pur sliceX eff mapPur mapEff foundA putE isCall argsOf tgt gvOf okUL okUS selOf evS bin binI binS cut loadA lenA thenQ blkQ loopQ retQ resL resA packA freshA AV.scalAll Op.operands Call.operands argE ghE G0 buildA fillA splice srcA appA clrA winOf cpyA growA setE okS okR okEs okF okC okB okL okE okG Src.cell Src.isOld subIds tch eqFs eqV Value.oneCell' prune keyEq resH resHL CallHC okCells okRowIds okArg okArgs upN renCell renEs renF renB ren setAll heapAfter sC sD AV.flat_v AV.flat_agg AV.flat_nil AV.flat_sl
@[go_sem] theorem c_flat_bad  :AV.flat .bad=[.bad]:=rfl
@[go_sem] theorem c_flat_ro(cs:List AV):AV.flat (.ro cs)=[(.ro cs)]:=rfl
@[go_sem] theorem c_flat_tup(cs:List AV):AV.flat (.tup cs)=[(.tup cs)]:=rfl
@[go_sem] theorem c_flat_el(id k i off:Nat):AV.flat (.el id k i off)=[(.el id k i off)]:=rfl
@[go_sem] theorem c_flat_ow(id:Nat):AV.flat (.ow id)=[(.ow id)]:=rfl
@[go_sem] theorem c_flat_mb(g:Bool)(y:AV):AV.flat (.mb g y)=[(.mb g y)]:=rfl
@[go_sem] theorem c_flat_wn(id k lo n:Nat):AV.flat (.wn id k lo n)=[(.wn id k lo n)]:=rfl
@[go_sem] theorem c_flat_fn(f:FuncId)(a b:List AV):AV.flat (.fn f a b)=[(.fn f a b)]:=rfl
@[go_sem] theorem c_argOK_bad  :AV.argOK .bad=false:=rfl
@[go_sem] theorem c_argOK_v(x:Value):AV.argOK (.v x)=true:=rfl
@[go_sem] theorem c_argOK_nil  :AV.argOK .nil=true:=rfl
@[go_sem] theorem c_argOK_sl(es:List AV):AV.argOK (.sl es)=true:=rfl
@[go_sem] theorem c_argOK_ro(cs:List AV):AV.argOK (.ro cs)=true:=rfl
@[go_sem] theorem c_argOK_agg(cs:List AV):AV.argOK (.agg cs)=cs.all AV.zoneB:=rfl
@[go_sem] theorem c_argOK_tup(cs:List AV):AV.argOK (.tup cs)=false:=rfl
@[go_sem] theorem c_argOK_el(id k i off:Nat):AV.argOK (.el id k i off)=false:=rfl
@[go_sem] theorem c_argOK_ow(id:Nat):AV.argOK (.ow id)=false:=rfl
@[go_sem] theorem c_argOK_mb(g:Bool)(y:AV):AV.argOK (.mb g y)=false:=rfl
@[go_sem] theorem c_argOK_wn(id k lo n:Nat):AV.argOK (.wn id k lo n)=false:=rfl
@[go_sem] theorem c_argOK_fn(f:FuncId)(a b:List AV):AV.argOK (.fn f a b)=false:=rfl
@[go_sem] theorem c_isOw_bad  :AV.isOw .bad=false:=rfl
@[go_sem] theorem c_isOw_v(x:Value):AV.isOw (.v x)=false:=rfl
@[go_sem] theorem c_isOw_nil  :AV.isOw .nil=false:=rfl
@[go_sem] theorem c_isOw_sl(es:List AV):AV.isOw (.sl es)=false:=rfl
@[go_sem] theorem c_isOw_ro(cs:List AV):AV.isOw (.ro cs)=false:=rfl
@[go_sem] theorem c_isOw_agg(cs:List AV):AV.isOw (.agg cs)=cs.any fun c=> !c.zoneB:=rfl
@[go_sem] theorem c_isOw_tup(cs:List AV):AV.isOw (.tup cs)=false:=rfl
@[go_sem] theorem c_isOw_el(id k i off:Nat):AV.isOw (.el id k i off)=false:=rfl
@[go_sem] theorem c_isOw_ow(id:Nat):AV.isOw (.ow id)=true:=rfl
@[go_sem] theorem c_isOw_mb(g:Bool)(y:AV):AV.isOw (.mb g y)=false:=rfl
@[go_sem] theorem c_isOw_wn(id k lo n:Nat):AV.isOw (.wn id k lo n)=true:=rfl
@[go_sem] theorem c_isOw_fn(f:FuncId)(a b:List AV):AV.isOw (.fn f a b)=false:=rfl
@[go_sem] theorem c_un_bad  :AV.un .bad=.bad:=rfl
@[go_sem] theorem c_un_v(x:Value):AV.un (.v x)=(.v x):=rfl
@[go_sem] theorem c_un_nil  :AV.un .nil=.nil:=rfl
@[go_sem] theorem c_un_sl(es:List AV):AV.un (.sl es)=(.sl es):=rfl
@[go_sem] theorem c_un_ro(cs:List AV):AV.un (.ro cs)=(.ro cs):=rfl
@[go_sem] theorem c_un_agg(cs:List AV):AV.un (.agg cs)=(.agg cs):=rfl
@[go_sem] theorem c_un_tup(cs:List AV):AV.un (.tup cs)=(.tup cs):=rfl
@[go_sem] theorem c_un_el(id k i off:Nat):AV.un (.el id k i off)=(.el id k i off):=rfl
@[go_sem] theorem c_un_ow(id:Nat):AV.un (.ow id)=(.ow id):=rfl
@[go_sem] theorem c_un_mb(g:Bool)(y:AV):AV.un (.mb g y)=y:=rfl
@[go_sem] theorem c_un_wn(id k lo n:Nat):AV.un (.wn id k lo n)=(.wn id k lo n):=rfl
@[go_sem] theorem c_un_fn(f:FuncId)(a b:List AV):AV.un (.fn f a b)=(.fn f a b):=rfl
@[go_sem] theorem c_un0_bad  :AV.un0 .bad=.bad:=rfl
@[go_sem] theorem c_un0_v(x:Value):AV.un0 (.v x)=(.v x):=rfl
@[go_sem] theorem c_un0_nil  :AV.un0 .nil=.nil:=rfl
@[go_sem] theorem c_un0_sl(es:List AV):AV.un0 (.sl es)=(.sl es):=rfl
@[go_sem] theorem c_un0_ro(cs:List AV):AV.un0 (.ro cs)=(.ro cs):=rfl
@[go_sem] theorem c_un0_agg(cs:List AV):AV.un0 (.agg cs)=(.agg cs):=rfl
@[go_sem] theorem c_un0_tup(cs:List AV):AV.un0 (.tup cs)=(.tup cs):=rfl
@[go_sem] theorem c_un0_el(id k i off:Nat):AV.un0 (.el id k i off)=(.el id k i off):=rfl
@[go_sem] theorem c_un0_ow(id:Nat):AV.un0 (.ow id)=(.ow id):=rfl
@[go_sem] theorem c_un0_wn(id k lo n:Nat):AV.un0 (.wn id k lo n)=(.wn id k lo n):=rfl
@[go_sem] theorem c_un0_fn(f:FuncId)(a b:List AV):AV.un0 (.fn f a b)=(.fn f a b):=rfl
@[go_sem] theorem c_un0_mt(y:AV):AV.un0 (.mb true y)=y:=rfl
@[go_sem] theorem c_un0_mf(y:AV):AV.un0 (.mb false y)=.mb false y:=rfl
def unL(l:List (Nat×AV)):List (Nat×AV):=l.map fun p=>(p.1,p.2.un0)
@[go_sem] theorem unL_nil:unL []=[]:=rfl
@[go_sem] theorem unL_cons(s:Nat)(x:AV)(l:List (Nat×AV)):unL ((s,x)::l)=(s,x.un0)::unL l:=rfl
@[go_sem] theorem FM:∀l:List (Nat×AV),unE (mkE l)=mkE (unL l)
  | []=>rfl
  |(s,x)::l=>by
   funext t
   have ih:=congrFun (FM l) t
   show(upd (mkE l) s x t).un0=upd (mkE (unL l)) s x.un0 t
   unfold upd
   split
   ·rfl
   ·exact ih
@[go_sem] theorem unE_upd(f:Nat→AV)(s:Nat)(x:AV):unE (upd f s x)=upd (unE f) s x.un0:=by
  funext t
  show(upd f s x t).un0=upd (unE f) s x.un0 t
  unfold upd
  split<;>rfl
@[go_sem] theorem c_ids_bad  :AV.ids .bad=[]:=rfl
@[go_sem] theorem c_ids_v(x:Value):AV.ids (.v x)=[]:=rfl
@[go_sem] theorem c_ids_nil  :AV.ids .nil=[]:=rfl
@[go_sem] theorem c_ids_sl(es:List AV):AV.ids (.sl es)=[]:=rfl
@[go_sem] theorem c_ids_ro(cs:List AV):AV.ids (.ro cs)=[]:=rfl
@[go_sem] theorem c_ids_agg(cs:List AV):AV.ids (.agg cs)=cs.flatMap AV.idB:=rfl
@[go_sem] theorem c_ids_tup(cs:List AV):AV.ids (.tup cs)=cs.flatMap AV.idB:=rfl
@[go_sem] theorem c_ids_el(id k i off:Nat):AV.ids (.el id k i off)=[id]:=rfl
@[go_sem] theorem c_ids_ow(id:Nat):AV.ids (.ow id)=[id]:=rfl
@[go_sem] theorem c_ids_mb(g:Bool)(y:AV):AV.ids (.mb g y)=y.ids:=rfl
@[go_sem] theorem c_ids_wn(id k lo n:Nat):AV.ids (.wn id k lo n)=[id]:=rfl
@[go_sem] theorem c_ids_fn(f:FuncId)(a b:List AV):AV.ids (.fn f a b)=(a++b).flatMap AV.idB:=rfl
@[go_sem] theorem c_idB_bad  :AV.idB .bad=[]:=rfl
@[go_sem] theorem c_idB_v(x:Value):AV.idB (.v x)=[]:=rfl
@[go_sem] theorem c_idB_nil  :AV.idB .nil=[]:=rfl
@[go_sem] theorem c_idB_sl(es:List AV):AV.idB (.sl es)=[]:=rfl
@[go_sem] theorem c_idB_ro(cs:List AV):AV.idB (.ro cs)=[]:=rfl
@[go_sem] theorem c_idB_agg(cs:List AV):AV.idB (.agg cs)=[]:=rfl
@[go_sem] theorem c_idB_tup(cs:List AV):AV.idB (.tup cs)=[]:=rfl
@[go_sem] theorem c_idB_el(id k i off:Nat):AV.idB (.el id k i off)=[id]:=rfl
@[go_sem] theorem c_idB_ow(id:Nat):AV.idB (.ow id)=[id]:=rfl
@[go_sem] theorem c_idB_mb(g:Bool)(y:AV):AV.idB (.mb g y)=[]:=rfl
@[go_sem] theorem c_idB_wn(id k lo n:Nat):AV.idB (.wn id k lo n)=[id]:=rfl
@[go_sem] theorem c_idB_fn(f:FuncId)(a b:List AV):AV.idB (.fn f a b)=[]:=rfl
@[go_sem] theorem c_scal_bad  :AV.scal .bad=true:=rfl
@[go_sem] theorem c_scal_v(x:Value):AV.scal (.v x)=true:=rfl
@[go_sem] theorem c_scal_nil  :AV.scal .nil=true:=rfl
@[go_sem] theorem c_scal_sl(es:List AV):AV.scal (.sl es)=es.isEmpty:=rfl
@[go_sem] theorem c_scal_ro(cs:List AV):AV.scal (.ro cs)=false:=rfl
@[go_sem] theorem c_scal_agg(cs:List AV):AV.scal (.agg cs)=AV.scalAll cs:=rfl
@[go_sem] theorem c_scal_tup(cs:List AV):AV.scal (.tup cs)=AV.scalAll cs:=rfl
@[go_sem] theorem c_scal_el(id k i off:Nat):AV.scal (.el id k i off)=false:=rfl
@[go_sem] theorem c_scal_ow(id:Nat):AV.scal (.ow id)=false:=rfl
@[go_sem] theorem c_scal_mb(g:Bool)(y:AV):AV.scal (.mb g y)=false:=rfl
@[go_sem] theorem c_scal_wn(id k lo n:Nat):AV.scal (.wn id k lo n)=false:=rfl
@[go_sem] theorem c_scal_fn(f:FuncId)(a b:List AV):AV.scal (.fn f a b)=false:=rfl
@[go_sem] theorem c_zone_bad  :AV.zone .bad=true:=rfl
@[go_sem] theorem c_zone_v(x:Value):AV.zone (.v x)=true:=rfl
@[go_sem] theorem c_zone_nil  :AV.zone .nil=true:=rfl
@[go_sem] theorem c_zone_sl(es:List AV):AV.zone (.sl es)=true:=rfl
@[go_sem] theorem c_zone_ro(cs:List AV):AV.zone (.ro cs)=true:=rfl
@[go_sem] theorem c_zone_agg(cs:List AV):AV.zone (.agg cs)=cs.all AV.zoneB:=rfl
@[go_sem] theorem c_zone_tup(cs:List AV):AV.zone (.tup cs)=cs.all AV.zoneB:=rfl
@[go_sem] theorem c_zone_el(id k i off:Nat):AV.zone (.el id k i off)=false:=rfl
@[go_sem] theorem c_zone_ow(id:Nat):AV.zone (.ow id)=false:=rfl
@[go_sem] theorem c_zone_mb(g:Bool)(y:AV):AV.zone (.mb g y)=y.zone:=rfl
@[go_sem] theorem c_zone_wn(id k lo n:Nat):AV.zone (.wn id k lo n)=false:=rfl
@[go_sem] theorem c_zone_fn(f:FuncId)(a b:List AV):AV.zone (.fn f a b)=false:=rfl
@[go_sem] theorem c_zoneB_bad  :AV.zoneB .bad=true:=rfl
@[go_sem] theorem c_zoneB_v(x:Value):AV.zoneB (.v x)=true:=rfl
@[go_sem] theorem c_zoneB_nil  :AV.zoneB .nil=true:=rfl
@[go_sem] theorem c_zoneB_sl(es:List AV):AV.zoneB (.sl es)=true:=rfl
@[go_sem] theorem c_zoneB_ro(cs:List AV):AV.zoneB (.ro cs)=true:=rfl
@[go_sem] theorem c_zoneB_agg(cs:List AV):AV.zoneB (.agg cs)=true:=rfl
@[go_sem] theorem c_zoneB_tup(cs:List AV):AV.zoneB (.tup cs)=true:=rfl
@[go_sem] theorem c_zoneB_el(id k i off:Nat):AV.zoneB (.el id k i off)=false:=rfl
@[go_sem] theorem c_zoneB_ow(id:Nat):AV.zoneB (.ow id)=false:=rfl
@[go_sem] theorem c_zoneB_mb(g:Bool)(y:AV):AV.zoneB (.mb g y)=true:=rfl
@[go_sem] theorem c_zoneB_wn(id k lo n:Nat):AV.zoneB (.wn id k lo n)=false:=rfl
@[go_sem] theorem c_zoneB_fn(f:FuncId)(a b:List AV):AV.zoneB (.fn f a b)=true:=rfl
@[go_sem] theorem c_flatB_bad  :AV.flatB .bad=true:=rfl
@[go_sem] theorem c_flatB_v(x:Value):AV.flatB (.v x)=true:=rfl
@[go_sem] theorem c_flatB_nil  :AV.flatB .nil=true:=rfl
@[go_sem] theorem c_flatB_sl(es:List AV):AV.flatB (.sl es)=true:=rfl
@[go_sem] theorem c_flatB_ro(cs:List AV):AV.flatB (.ro cs)=true:=rfl
@[go_sem] theorem c_flatB_agg(cs:List AV):AV.flatB (.agg cs)=cs.all AV.zoneB:=rfl
@[go_sem] theorem c_flatB_tup(cs:List AV):AV.flatB (.tup cs)=false:=rfl
@[go_sem] theorem c_flatB_el(id k i off:Nat):AV.flatB (.el id k i off)=true:=rfl
@[go_sem] theorem c_flatB_ow(id:Nat):AV.flatB (.ow id)=true:=rfl
@[go_sem] theorem c_flatB_mb(g:Bool)(y:AV):AV.flatB (.mb g y)=false:=rfl
@[go_sem] theorem c_flatB_wn(id k lo n:Nat):AV.flatB (.wn id k lo n)=true:=rfl
@[go_sem] theorem c_flatB_fn(f:FuncId)(a b:List AV):AV.flatB (.fn f a b)=false:=rfl
@[go_sem] theorem c_aggZ_bad  :AV.aggZ .bad=true:=rfl
@[go_sem] theorem c_aggZ_v(x:Value):AV.aggZ (.v x)=true:=rfl
@[go_sem] theorem c_aggZ_nil  :AV.aggZ .nil=true:=rfl
@[go_sem] theorem c_aggZ_sl(es:List AV):AV.aggZ (.sl es)=true:=rfl
@[go_sem] theorem c_aggZ_ro(cs:List AV):AV.aggZ (.ro cs)=true:=rfl
@[go_sem] theorem c_aggZ_agg(cs:List AV):AV.aggZ (.agg cs)=true:=rfl
@[go_sem] theorem c_aggZ_tup(cs:List AV):AV.aggZ (.tup cs)=true:=rfl
@[go_sem] theorem c_aggZ_el(id k i off:Nat):AV.aggZ (.el id k i off)=true:=rfl
@[go_sem] theorem c_aggZ_ow(id:Nat):AV.aggZ (.ow id)=true:=rfl
@[go_sem] theorem c_aggZ_mb(g:Bool)(y:AV):AV.aggZ (.mb g y)=true:=rfl
@[go_sem] theorem c_aggZ_wn(id k lo n:Nat):AV.aggZ (.wn id k lo n)=true:=rfl
@[go_sem] theorem c_aggZ_fn(f:FuncId)(a b:List AV):AV.aggZ (.fn f a b)=true:=rfl
@[go_sem] theorem c_one_bad  :AV.one .bad=false:=rfl
@[go_sem] theorem c_one_v(x:Value):AV.one (.v x)=x.oneCell':=rfl
@[go_sem] theorem c_one_nil  :AV.one .nil=true:=rfl
@[go_sem] theorem c_one_sl(es:List AV):AV.one (.sl es)=true:=rfl
@[go_sem] theorem c_one_ro(cs:List AV):AV.one (.ro cs)=true:=rfl
@[go_sem] theorem c_one_agg(cs:List AV):AV.one (.agg cs)=false:=rfl
@[go_sem] theorem c_one_tup(cs:List AV):AV.one (.tup cs)=false:=rfl
@[go_sem] theorem c_one_el(id k i off:Nat):AV.one (.el id k i off)=true:=rfl
@[go_sem] theorem c_one_ow(id:Nat):AV.one (.ow id)=true:=rfl
@[go_sem] theorem c_one_mb(g:Bool)(y:AV):AV.one (.mb g y)=false:=rfl
@[go_sem] theorem c_one_wn(id k lo n:Nat):AV.one (.wn id k lo n)=true:=rfl
@[go_sem] theorem c_one_fn(f:FuncId)(a b:List AV):AV.one (.fn f a b)=false:=rfl
@[go_sem] theorem c_plain_bad  :AV.plain .bad=false:=rfl
@[go_sem] theorem c_plain_v(x:Value):AV.plain (.v x)=x.oneCell':=rfl
@[go_sem] theorem c_plain_nil  :AV.plain .nil=true:=rfl
@[go_sem] theorem c_plain_sl(es:List AV):AV.plain (.sl es)=true:=rfl
@[go_sem] theorem c_plain_ro(cs:List AV):AV.plain (.ro cs)=true:=rfl
@[go_sem] theorem c_plain_agg(cs:List AV):AV.plain (.agg cs)=cs.all AV.one:=rfl
@[go_sem] theorem c_plain_tup(cs:List AV):AV.plain (.tup cs)=false:=rfl
@[go_sem] theorem c_plain_el(id k i off:Nat):AV.plain (.el id k i off)=true:=rfl
@[go_sem] theorem c_plain_ow(id:Nat):AV.plain (.ow id)=true:=rfl
@[go_sem] theorem c_plain_mb(g:Bool)(y:AV):AV.plain (.mb g y)=false:=rfl
@[go_sem] theorem c_plain_wn(id k lo n:Nat):AV.plain (.wn id k lo n)=true:=rfl
@[go_sem] theorem c_plain_fn(f:FuncId)(a b:List AV):AV.plain (.fn f a b)=false:=rfl
@[go_sem] theorem c_isAgg_bad  :AV.isAgg .bad=false:=rfl
@[go_sem] theorem c_isAgg_v(x:Value):AV.isAgg (.v x)=false:=rfl
@[go_sem] theorem c_isAgg_nil  :AV.isAgg .nil=false:=rfl
@[go_sem] theorem c_isAgg_sl(es:List AV):AV.isAgg (.sl es)=false:=rfl
@[go_sem] theorem c_isAgg_ro(cs:List AV):AV.isAgg (.ro cs)=false:=rfl
@[go_sem] theorem c_isAgg_agg(cs:List AV):AV.isAgg (.agg cs)=true:=rfl
@[go_sem] theorem c_isAgg_tup(cs:List AV):AV.isAgg (.tup cs)=false:=rfl
@[go_sem] theorem c_isAgg_el(id k i off:Nat):AV.isAgg (.el id k i off)=false:=rfl
@[go_sem] theorem c_isAgg_ow(id:Nat):AV.isAgg (.ow id)=false:=rfl
@[go_sem] theorem c_isAgg_mb(g:Bool)(y:AV):AV.isAgg (.mb g y)=false:=rfl
@[go_sem] theorem c_isAgg_wn(id k lo n:Nat):AV.isAgg (.wn id k lo n)=false:=rfl
@[go_sem] theorem c_isAgg_fn(f:FuncId)(a b:List AV):AV.isAgg (.fn f a b)=false:=rfl
@[go_sem] theorem c_isV_bad  :AV.isV .bad=false:=rfl
@[go_sem] theorem c_isV_v(x:Value):AV.isV (.v x)=true:=rfl
@[go_sem] theorem c_isV_nil  :AV.isV .nil=false:=rfl
@[go_sem] theorem c_isV_sl(es:List AV):AV.isV (.sl es)=false:=rfl
@[go_sem] theorem c_isV_ro(cs:List AV):AV.isV (.ro cs)=false:=rfl
@[go_sem] theorem c_isV_agg(cs:List AV):AV.isV (.agg cs)=false:=rfl
@[go_sem] theorem c_isV_tup(cs:List AV):AV.isV (.tup cs)=false:=rfl
@[go_sem] theorem c_isV_el(id k i off:Nat):AV.isV (.el id k i off)=false:=rfl
@[go_sem] theorem c_isV_ow(id:Nat):AV.isV (.ow id)=false:=rfl
@[go_sem] theorem c_isV_mb(g:Bool)(y:AV):AV.isV (.mb g y)=false:=rfl
@[go_sem] theorem c_isV_wn(id k lo n:Nat):AV.isV (.wn id k lo n)=false:=rfl
@[go_sem] theorem c_isV_fn(f:FuncId)(a b:List AV):AV.isV (.fn f a b)=false:=rfl
@[go_sem] theorem c_getV_bad  :AV.getV .bad=undef:=rfl
@[go_sem] theorem c_getV_v(x:Value):AV.getV (.v x)=x:=rfl
@[go_sem] theorem c_getV_nil  :AV.getV .nil=undef:=rfl
@[go_sem] theorem c_getV_sl(es:List AV):AV.getV (.sl es)=undef:=rfl
@[go_sem] theorem c_getV_ro(cs:List AV):AV.getV (.ro cs)=undef:=rfl
@[go_sem] theorem c_getV_agg(cs:List AV):AV.getV (.agg cs)=undef:=rfl
@[go_sem] theorem c_getV_tup(cs:List AV):AV.getV (.tup cs)=undef:=rfl
@[go_sem] theorem c_getV_el(id k i off:Nat):AV.getV (.el id k i off)=undef:=rfl
@[go_sem] theorem c_getV_ow(id:Nat):AV.getV (.ow id)=undef:=rfl
@[go_sem] theorem c_getV_mb(g:Bool)(y:AV):AV.getV (.mb g y)=undef:=rfl
@[go_sem] theorem c_getV_wn(id k lo n:Nat):AV.getV (.wn id k lo n)=undef:=rfl
@[go_sem] theorem c_getV_fn(f:FuncId)(a b:List AV):AV.getV (.fn f a b)=undef:=rfl
@[go_sem] theorem c_okU_bad(h:Bool)  :AV.okU h .bad=(True):=rfl
@[go_sem] theorem c_idLt_bad(n:Nat)  :AV.idLt n .bad=(True):=rfl
@[go_sem] theorem c_argA_bad(H:List Cell)  :argA H .bad=.bad:=rfl
@[go_sem] theorem c_okU_v(h:Bool)(x:Value):AV.okU h (.v x)=(True):=rfl
@[go_sem] theorem c_idLt_v(n:Nat)(x:Value):AV.idLt n (.v x)=(True):=rfl
@[go_sem] theorem c_argA_v(H:List Cell)(x:Value):argA H (.v x)=(.v x):=rfl
@[go_sem] theorem c_okU_nil(h:Bool)  :AV.okU h .nil=(True):=rfl
@[go_sem] theorem c_idLt_nil(n:Nat)  :AV.idLt n .nil=(True):=rfl
@[go_sem] theorem c_argA_nil(H:List Cell)  :argA H .nil=.sl []:=rfl
@[go_sem] theorem c_okU_sl(h:Bool)(es:List AV):AV.okU h (.sl es)=(True):=rfl
@[go_sem] theorem c_idLt_sl(n:Nat)(es:List AV):AV.idLt n (.sl es)=(True):=rfl
@[go_sem] theorem c_argA_sl(H:List Cell)(es:List AV):argA H (.sl es)=(.sl es):=rfl
@[go_sem] theorem c_okU_ro(h:Bool)(cs:List AV):AV.okU h (.ro cs)=(True):=rfl
@[go_sem] theorem c_idLt_ro(n:Nat)(cs:List AV):AV.idLt n (.ro cs)=(True):=rfl
@[go_sem] theorem c_argA_ro(H:List Cell)(cs:List AV):argA H (.ro cs)=(.ro cs):=rfl
@[go_sem] theorem c_okU_agg(h:Bool)(cs:List AV):AV.okU h (.agg cs)=(True):=rfl
@[go_sem] theorem c_idLt_agg(n:Nat)(cs:List AV):AV.idLt n (.agg cs)=(∀e∈cs,∀id∈e.idB,id<n):=rfl
@[go_sem] theorem c_argA_agg(H:List Cell)(cs:List AV):argA H (.agg cs)=(.agg (cs.map (argB H))):=rfl
@[go_sem] theorem c_okU_tup(h:Bool)(cs:List AV):AV.okU h (.tup cs)=(True):=rfl
@[go_sem] theorem c_idLt_tup(n:Nat)(cs:List AV):AV.idLt n (.tup cs)=(∀e∈cs,∀id∈e.idB,id<n):=rfl
@[go_sem] theorem c_argA_tup(H:List Cell)(cs:List AV):argA H (.tup cs)=(.tup cs):=rfl
@[go_sem] theorem c_okU_el(h:Bool)(id k i off:Nat):AV.okU h (.el id k i off)=(True):=rfl
@[go_sem] theorem c_idLt_el(n:Nat)(id k i off:Nat):AV.idLt n (.el id k i off)=(id<n):=rfl
@[go_sem] theorem c_argA_el(H:List Cell)(id k i off:Nat):argA H (.el id k i off)=(.el id k i off):=rfl
@[go_sem] theorem c_okU_ow(h:Bool)(id:Nat):AV.okU h (.ow id)=(True):=rfl
@[go_sem] theorem c_idLt_ow(n:Nat)(id:Nat):AV.idLt n (.ow id)=(id<n):=rfl
@[go_sem] theorem c_argA_ow(H:List Cell)(id:Nat):argA H (.ow id)=(match H[id]? with|some (.row o)=>bif zoneEs o.es then .sl o.es else .bad|_=>.bad):=rfl
@[go_sem] theorem c_okU_mb(h:Bool)(g:Bool)(y:AV):AV.okU h (.mb g y)=(h=true→g=true):=rfl
@[go_sem] theorem c_idLt_mb(n:Nat)(g:Bool)(y:AV):AV.idLt n (.mb g y)=(y.idLt n):=rfl
@[go_sem] theorem c_argA_mb(H:List Cell)(g:Bool)(y:AV):argA H (.mb g y)=(.mb g y):=rfl
@[go_sem] theorem c_okU_wn(h:Bool)(id k lo n:Nat):AV.okU h (.wn id k lo n)=(True):=rfl
@[go_sem] theorem c_idLt_wn(q:Nat)(id k lo n:Nat):AV.idLt q (.wn id k lo n)=(id<q):=rfl
@[go_sem] theorem c_argA_wn(H:List Cell)(id k lo n:Nat):argA H (.wn id k lo n)=(match H[id]? with|some (.row o)=>if k=o.k∧lo+n≤o.es.length∧zoneEs o.es=true then .sl ((o.es.drop lo).take n)else .bad|_=>.bad):=rfl
@[go_sem] theorem c_okU_fn(h:Bool)(f:FuncId)(a b:List AV):AV.okU h (.fn f a b)=(True):=rfl
@[go_sem] theorem c_idLt_fn(n:Nat)(f:FuncId)(a b:List AV):AV.idLt n (.fn f a b)=(∀e∈a++b,∀id∈e.idB,id<n):=rfl
@[go_sem] theorem c_argA_fn(H:List Cell)(f:FuncId)(a b:List AV):argA H (.fn f a b)=(.fn f a b):=rfl
@[go_sem] theorem c_argB_bad(H:List Cell)  :argB H .bad=.bad:=rfl
@[go_sem] theorem c_argB_v(H:List Cell)(x:Value):argB H (.v x)=(.v x):=rfl
@[go_sem] theorem c_argB_nil(H:List Cell)  :argB H .nil=.sl []:=rfl
@[go_sem] theorem c_argB_sl(H:List Cell)(es:List AV):argB H (.sl es)=(.sl es):=rfl
@[go_sem] theorem c_argB_ro(H:List Cell)(cs:List AV):argB H (.ro cs)=(.ro cs):=rfl
@[go_sem] theorem c_argB_agg(H:List Cell)(cs:List AV):argB H (.agg cs)=(.agg cs):=rfl
@[go_sem] theorem c_argB_el(H:List Cell)(id k i off:Nat):argB H (.el id k i off)=(.el id k i off):=rfl
@[go_sem] theorem c_argB_ow(H:List Cell)(id:Nat):argB H (.ow id)=(match H[id]? with|some (.row o)=>bif zoneEs o.es then .sl o.es else .bad|_=>.bad):=rfl
@[go_sem] theorem c_argB_wn(H:List Cell)(id k lo n:Nat):argB H (.wn id k lo n)=(.wn id k lo n):=rfl
@[go_sem] theorem CW(env:Nat→AV)(t:Nat)(h:t<1000000):ev env (.tmp t)=env t:=if_pos h
@[go_sem] theorem c_ev_const(env:Nat→AV)(x:Value):ev env (.const x)=ofV x:=rfl
@[go_sem] theorem c_ev_func(env:Nat→AV)(f:Nat):ev env (.func f)=.v (.func (.func f) #[] #[]):=rfl
@[go_sem] theorem c_ev_global(env:Nat→AV)(f:Nat):ev env (.global f)=globV f:=rfl
@[go_sem] theorem c_evU_tmp(env:Nat→AV)(t:Nat)(h:t<1000000):evU env (.tmp t)=(env t).un:=by unfold evU;rw[CW env t h]
@[go_sem] theorem c_evU_const(env:Nat→AV)(x:Value):evU env (.const x)=(ofV x).un:=rfl
@[go_sem] theorem c_evU_func(env:Nat→AV)(f:Nat):evU env (.func f)=.v (.func (.func f) #[] #[]):=rfl
@[go_sem] theorem zoneEs_nil:zoneEs []=true:=rfl
@[go_sem] theorem zoneEs_cons(e:AV)(es:List AV):zoneEs (e::es)=(e.flat.all AV.zone&&zoneEs es):=rfl
@[go_sem] theorem zoneEs_app(a b:List AV):zoneEs (a++b)=(zoneEs a&&zoneEs b):=by unfold zoneEs;exact List.all_append
theorem eS(es:List AV):zoneEs es=true↔∀e∈es,e.flat.all AV.zone=true:=List.all_eq_true
@[go_sem] theorem dI{α:Type}(f:α→AV)(l:List α)(h:∀x,(f x).flat.all AV.zone=true):zoneEs (l.map f)=true:=by
  rw[eS];intro e he;obtain⟨x,_,rfl⟩:=List.mem_map.1 he;exact h x
@[go_sem] theorem zoneEs_rep(n:Nat)(e:AV)(h:e.flat.all AV.zone=true):zoneEs (List.replicate n e)=true:=by
  rw[eS];intro x hx;rw[List.eq_of_mem_replicate hx];exact h
@[go_sem] theorem zoneEs_take(n:Nat)(es:List AV)(h:zoneEs es=true):zoneEs (es.take n)=true:=by
  rw[eS]at*;exact fun e he=>h e (List.mem_of_mem_take he)
@[go_sem] theorem zoneEs_drop(n:Nat)(es:List AV)(h:zoneEs es=true):zoneEs (es.drop n)=true:=by
  rw[eS]at*;exact fun e he=>h e (List.mem_of_mem_drop he)
@[go_sem] theorem zoneEs_set(es:List AV)(i:Nat)(x:AV)(h:zoneEs es=true)(hx:x.flat.all AV.zone=true):zoneEs (es.set i x)=true:=by
  rw[eS]at*;intro e he;rcases List.mem_or_eq_of_mem_set he with he|rfl
  ·exact h e he
  ·exact hx
@[go_sem] theorem c_ofV_int(k:IntKind)(n:Int):ofV (.int k n)=.v (.int k n):=rfl
@[go_sem] theorem c_ofV_bool(b:Bool):ofV (.bool b)=.v (.bool b):=rfl
@[go_sem] theorem c_ofV_string(s:ByteArray):ofV (.string s)=.v (.string s):=rfl
@[go_sem] theorem c_ofV_nil:ofV (.slice none 0 0)=.nil:=rfl
@[go_sem] theorem c_ofV_func(f:Fn)(a b:Array Value):ofV (.func f a b)=.v (.func f a b):=rfl
@[go_sem] theorem c_ofV_ptr(a:Option Addr):ofV (.pointer a)=.v (.pointer a):=rfl
@[go_sem] theorem c_agg_ptr  :K.agg (.ptr)=false:=rfl
@[go_sem] theorem c_agg_one  :K.agg (.one)=false:=rfl
@[go_sem] theorem c_agg_str  :K.agg (.str)=false:=rfl
@[go_sem] theorem c_agg_bool  :K.agg (.bool)=false:=rfl
@[go_sem] theorem c_agg_int(k:IntKind):K.agg (.int k)=false:=rfl
@[go_sem] theorem c_agg_slice(e:Nat):K.agg (.slice e)=false:=rfl
@[go_sem] theorem c_agg_struct(fs:List (Nat×Nat)):K.agg (.struct fs)=true:=rfl
@[go_sem] theorem c_agg_arr(n:Nat)(e:Nat):K.agg (.arr n e)=true:=rfl
@[go_sem] theorem c_agg_map(a:Nat)(b:Nat):K.agg (.map a b)=false:=rfl
@[go_sem] theorem upd_get(f:Nat→AV)(s:Nat)(x:AV)(t:Nat):upd f s x t=if t=s then x else f t:=rfl
@[go_sem] theorem mkE_cons(s:Nat)(x:AV)(l:List (Nat×AV))(t:Nat):mkE ((s,x)::l) t=if t=s then x else mkE l t:=rfl
@[go_sem] theorem mkE_nil(t:Nat):mkE [] t=.bad:=rfl
theorem td{a b:Int}(h:0≤a):a.tdiv b=a/b:=Int.tdiv_eq_ediv_of_nonneg h
theorem tm{a b:Int}(h:0≤a):a.tmod b=a%b:=Int.tmod_eq_emod_of_nonneg h
theorem w64{x:Int}(h1: -9223372036854775808≤x)(h2:x≤9223372036854775807):IntKind.i64.wrap x=x:=IntWalk.i64_in x ⟨h1,h2⟩
theorem aA{P:Program}{rs:List ResultVar}{m:Nat}{r:AV}{H':List Cell}{st:St}(L:List (Nat×AV))(HS:List Src)
  (h:okS HS st.heap HS∧okL HS st L∧HS.map Src.cell=H'∧m≤HS.length∧okG L m∧((match resHL P ⟨mkE L,HS.map Src.cell⟩ rs with
  |some (p,vs)=>p∧packA vs=r
  |none=>False)∨(match resHL P st rs with
  |some (p,vs)=>p∧(packA vs).zone=true∧packA vs=r
  |none=>False))):retH P rs m r H' .ret st:=⟨L,HS,h⟩
theorem cC{P:Program}{rs:List ResultVar}{m:Nat}{r:AV}{H':List Cell}{st:St}(L:List (Nat×AV))(HS:List Src)
  (h:okS HS st.heap HS∧okL HS st L∧HS.map Src.cell=H'∧m≤HS.length∧okG L m∧((match resHL P ⟨mkE L,HS.map Src.cell⟩ rs with
  |some (p,vs)=>p∧packA vs=r
  |none=>False)∨(match resHL P st rs with
  |some (p,vs)=>p∧(packA vs).zone=true∧packA vs=r
  |none=>False))):retH P rs m r H' .normal st:=⟨L,HS,h⟩
end Go.Ab
namespace Go.Ab
open Go.RowKit
def isStepH:Code→Bool
 | .seq _ _=>true
 | .block _ _=>true
 | .region _ _ _=>true
 | .skip=>true
 | .exit _=>true
 |_=>false
def isStep:Code→Bool
 | .ret=>true
 |c=>isStepH c
def stepG(P:Program)(X:Ctx)(N:Nat)(G:List Nat)(Q:Exit→St→Prop)(st:St):Code→Prop
 | .seq x y=>AWP P X x (thenQ P X y Q) st
 | .block id c=>AWP P X c (blkQ id Q) st
 | .region _ ops false=>runK P ops N false (fun v s=>Q (panCh v) (prune G s)) ops.toList true (fun s=>Q .normal (prune G s)) st
 | .region _ ops true=>runT P ops N st.heap.length ops.toList true [] (fun s ts=>drawOK ops (meetT ts)=true∧Q .normal (prune G s)) st
 | .skip=>Q .normal st
 | .ret=>Q .ret st
 | .exit id=>Q (.exit id) st
 |_=>False
theorem aU{P:Program}{X:Ctx}{N:Nat}{Q:Exit→St→Prop}{st:St}{c:Code}(G:List Nat)(hX:X.n=N)(hm:P.follows .mixedOrders=true)(_hc:isStep c=true)(h:stepG P X N G Q st c):AWP P X c Q st:=by
 cases c with
 |seq x y=>exact aS h
 |block id c=>exact aP h
 |region id ops b=>
  cases b with
  |false=>exact aQ G hX h
  |true=>exact aK G hX hm h
 |skip=>exact aJ h
 |ret=>exact aB h
 |exit id=>exact aR h
 |_=>exact h.elim
theorem a7{P:Program}{X:Ctx}{N:Nat}{Q:Exit→St→Prop}{st:St}{c:Code}(G:List Nat)(hX:X.n=N)(hm:P.follows .mixedOrders=true)(hc:isStepH c=true)(h:stepG P X N G Q st c):AWP P X c Q st:=
 aU G hX hm (by cases c<;>first|rfl|exact hc|cases hc) h
theorem aD{P:Program}{f:FuncId}{args:List AV}{b ok:Bool}{H:List Cell}{raw:List AV}{dr s:Bool}{qp:Value→List Cell→Prop}{k:Bool→AV→List Cell→Prop}{fr:Bool}{r:AV}(h:Means fr P f args r)(hk:k true r H)(hz:r.zone=true:=by exact rfl)(hb:fr=true∨r.scal=true∨b=false:=by simp[go_sem])(ho:ok=true:=by exact rfl):CallK P f args b ok H raw dr s qp k:=sQ h hz hb ho hk
theorem bH{P:Program}{f:FuncId}{args:List AV}{b ok:Bool}{H:List Cell}{raw:List AV}{L0:Nat}{rd:List Nat}{k:Bool→AV→List Cell→TagT→Prop}{fr:Bool}{r:AV}(h:Means fr P f args r)(hk:k true r H ⟨rd,[],false⟩)(hz:r.zone=true:=by exact rfl)(hb:fr=true∨r.scal=true∨b=false:=by simp[go_sem])(ho:ok=true:=by exact rfl):CallT P f args b ok H raw L0 rd k:=sV h hz hb ho hk
theorem aI{P:Program}{f:FuncId}{args:List AV}{b gb ok:Bool}{H:List Cell}{raw:List AV}{dr:Bool}{k:Bool→AV→Prop}{kk:Bool→AV→List Cell→Prop}{qp:Value→List Cell→Prop}{fr:Bool}{r:AV}(h:gb=true→Means fr P f args r)(hk:k true r)(hz:r.zone=true:=by exact rfl)(hb:fr=true∨r.scal=true∨b=false:=by simp[go_sem])(ho:ok=true:=by exact rfl):CallG P f args b gb ok H raw dr k kk qp:=sR h hz hb ho hk
theorem eT{P:Program}{f:FuncId}{args:List AV}{b gb ok:Bool}{H:List Cell}{raw:List AV}{L0:Nat}{rd:List Nat}{k:Bool→AV→TagT→Prop}{fr:Bool}{r:AV}(h:gb=true→Means fr P f args r)(hk:k true r ⟨rd,[],false⟩)(hz:r.zone=true:=by exact rfl)(hb:fr=true∨r.scal=true∨b=false:=by simp[go_sem])(ho:ok=true:=by exact rfl):CallGT P f args b gb ok H raw L0 rd k:=r6 h hz hb ho hk
theorem a8{P:Program}{X:Ctx}{Q:Exit→St→Prop}{st:St}{c:Operand}{x y:Code}(hc:ev st.env c=.v (.bool false))(h:AWP P X y Q st):AWP P X (.cond c x y) Q st:=f9 hc (fun h=>by cases h) (fun _=>h)
theorem aC{P:Program}{X:Ctx}{Q:Exit→St→Prop}{st:St}{c:Operand}{x y:Code}(hc:ev st.env c=.v (.bool true))(h:AWP P X x Q st):AWP P X (.cond c x y) Q st:=f9 hc (fun _=>h) (fun h=>by cases h)
theorem sW{P:Program}{X:Ctx}{N:Nat}{G:List Nat}{Q:Exit→St→Prop}{st:St}{c:Code}:stepG P X N G Q st c=stepG P X N G Q st c:=rfl
attribute [congr] sW
attribute [go_sem] stepG
end Go.Ab

