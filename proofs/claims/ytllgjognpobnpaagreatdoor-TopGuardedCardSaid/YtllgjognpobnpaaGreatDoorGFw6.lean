import Derived.Test.YtllgjognpobnpaaGreatDoorGFw5
import Derived.Recover
set_option linter.all false
namespace Go.Ab
open Go.RowKit
theorem tK(a:Nat):newIds a a=[]:=by unfold newIds;rw[Nat.sub_self];rfl
theorem vJ(a:Nat):newIds a (a+1)=[a]:=by unfold newIds;rw[Nat.add_sub_cancel_left];rfl
attribute [go_sem] vJ tK
end Go.Ab
namespace Go.Ab
open Go.RowKit
variable{P:Program}
def DefH(P:Program)(f:FuncId)(H:List Cell)(args:List AV)(u u2:FrameMode)(H':List Cell):Prop:=
 ∀(w:World) (M:Nat→Prop) (loc:Nat→Value) (vs:Array Value),(∀b,M b→b<w.heap.size)→GlobW w M→HeapS (blks H loc) M loc H w→vs.size=args.length→
  (∀(j:Nat) (x:Value) (e:AV),vs[j]? =some x→args[j]? =some e→Rep w M loc x e∧e.idLt H.length)→
  CallsD P f vs u w fun e u' w'=>u'=u2∧PostH w M loc H (.tup []) H' e w'
theorem DP{w:World}{M:Nat→Prop}{loc:Nat→Value}{X:Ctx}{st:St}{a:Act}(h:RR X M loc st a w){f:FuncId}{H:List Cell}{args:List AV}{u u2:FrameMode}{H':List Cell}(hm:DefH P f H args u u2 H')(ps:List Nat)(hnd:ps.Nodup)(hlen:H.length=ps.length)(hlt:∀c∈ps,c<st.heap.length)
  (hcell:∀i,i<ps.length→st.heap[upN ps st.heap.length i]? =H[i]?.map (renCell (upN ps st.heap.length))) (hids:okIds H.length H)
  {vs:Array Value} (hvs:vs.size=args.length) (hargs:∀(j:Nat) (x:Value) (e:AV),vs[j]? =some x→args[j]? =some e→Rep w M loc x (ren (upN ps st.heap.length) e)∧e.idLt H.length):
  CallsD P f vs u w fun e u' w'=>u'=u2∧∃x,e=.returned x∧R X ⟨st.env,heapAfter st.heap ps H'⟩ a w':=by
 have:=jL (C:=fun R=>CallsD P f vs u w fun e u' w'=>u'=u2∧R e w') (E:=fun e x=>e=.returned x) (fun _ _ hi hc=>hc.mono fun e u' w' ⟨h1,h2⟩=>⟨h1,hi e w' h2⟩) h
  (fun loc hS ha=>hm w M loc vs (fun b hb=>(h.zone b hb).1) (h.globW fun _ hb=>hb) hS hvs ha) ps hnd hlen hlt hcell hids hargs
 exact this.mono fun e u' w' ⟨h1,x,M',loc',h2,h3,_⟩=>⟨h1,x,h2,M',loc',h3⟩
inductive Rcv:FrameMode→FrameMode→Value→Prop
 |idle:Rcv .returning .returning .nilIface
 |got (v:Value):Rcv (.panicking [{v:=v,recovered:=false}]) (.panicking [{v:=v,recovered:=true}]) v
theorem DQ{o:Oper}{a:Act}{next next':Act→World→Prop}{Q Q':Exit→Act→World→Prop}(h1:∀a w,next a w→next' a w)(h2:∀e a w,Q e a w→Q' e a w):∀{r:Result Next},o.upon P a next Q r→o.upon P a next' Q' r:=by
 intro r h
 unfold Oper.upon at h⊢
 split at h<;>first|exact h1 _ _ h|exact h2 _ _ _ h|exact h.elim|skip
 ·refine h.mono fun e w' hh=>?_
  cases e with
  |returned v=>exact h1 _ _ hh
  |panicked c=>exact h2 _ _ _ hh
  |outgrown=>obtain⟨a,w,hh⟩:=hh;exact⟨a,w,h2 _ _ _ hh⟩
 ·exact Rows.mono h fun v w' hh=>h1 _ _ hh
theorem tL{ops:Array Oper}{Q:Exit→Act→List Frame→World→Prop}{cs:List Frame}{X:Ctx}{qp:Value→St→Prop}{K:St→Prop}(hq:∀st a w,K st→R X st a w→Q .normal a cs w)(hp:∀pv st a w,qp pv st→R X st a w→Q (panCh pv) a cs w)
  (l:List Oper) (st:St) (a:Act) (w:World) (h:runK P ops X.n false qp l true K st) (hr:R X st a w) (k:Nat) (hk:∀j,l[j]? =ops[k+j]?):wpOpsS P ops Q (List.range' k l.length) a cs w:=by
 refine dF (W:=fun l a w=>∀k,(∀j,l[j]? =ops[k+j]?)→wpOpsS P ops Q (List.range' k l.length) a cs w) (Q:=fun e a w=>Q e a cs w) (fun o l a w this k hk=>?_) (fun st a w h1 h2 k _=>hq st a w h1 h2) hp l st a w h hr k hk
 have h0:ops[k]? =some o:=by simpa using(hk 0).symm
 have ih:∀a w,(∀k,(∀j,l[j]? =ops[k+j]?)→wpOpsS P ops Q (List.range' k l.length) a cs w)→wpOpsS P ops Q (List.range' (k+1) l.length) a cs w:=fun a w hh=>hh (k+1) fun j=>by have:=hk (j+1);simpa[Nat.add_assoc,Nat.add_comm 1 j]using this
 simp only[List.length_cons,List.range'_succ,wpOpsS,h0]
 split
 ·rename_i hw
  rw[if_pos hw]at this
  unfold Oper.wp at this
  split
  ·rename_i w' hr
   rw[hr]at this
   exact this.elim
  ·exact DQ ih (fun _ _ _ h=>h) this
 ·rename_i hw
  rw[if_neg hw]at this
  exact ih _ _ this
theorem lD{f:FuncId}{fn:Func}{id:Nat}{ops:Array Oper}{y:Code}{H H':List Cell}{args:List AV}{u u2:FrameMode}{rv:Value}{oR:Oper}{l:List Oper}(m N d:Nat)(G:List Nat)(rs:List ResultVar)(hu:Rcv u u2 rv)(hf:P.funcs[f]? =some fn)(hb:fn.body=some (.seq (.region id ops false) y))(hN:fn.ntmps=N)(hrs:fn.results.toList=rs)(hn:args.length≤N)(hG:N≤G0)(hm:H.length=m)
  (hops:ops.toList=oR::l) (hrec:oR.op=.call ⟨.builtin .recover,#[],#[]⟩) (hg:oR.guard=none) (hd:oR.dst=some d) (hdN:d<N)
  (h:∀X:Ctx,X.n=N→runK P ops N false (fun _ _=>False) l true (fun s=>AWP P X y (retH P rs m (.tup []) H') (prune G s)) ⟨upd (ghE m (argE 0 args)) d (.v rv),H⟩):DefH P f H args u u2 H':=by
 subst hN;subst hrs;subst hm
 intro w M loc vs hM hgl hH hl hvs
 refine callsD_of_wpS hf hb fun c₀ cs hc=>?_
 obtain⟨X,t,hXn,hdl,hrr⟩:=kD hn hG hM hgl hH hl hvs
 have hfin:∀cs',(∃u',cs'={c₀ with mode:=u'}::cs∧u'=u2)→∀(a:Act) (w':World),R X ⟨upd (ghE H.length (argE 0 args)) d (.v rv),H⟩ a w'→
   wpOpsS P ops (Exit.thenS (y.wpS P (bodyPostS P fn c₀ cs fun e u' w'=>u'=u2∧PostH w M loc H (.tup []) H' e w')) (bodyPostS P fn c₀ cs fun e u' w'=>u'=u2∧PostH w M loc H (.tup []) H' e w')) (List.range' 1 l.length) a cs' w':=by
  rintro cs' ⟨u',rfl,rfl⟩ a w' hr
  refine tL (X:=X) (qp:=fun _ _=>False) (K:=fun s=>AWP P X y (retH P fn.results.toList H.length (.tup []) H') (prune G s)) (fun st a w1 hK hr=>?_) (fun _ _ _ _ hh=>hh.elim) l _ a w' (by rw[hXn];exact h X hXn) hr 1 (fun j=>by rw[←Array.getElem?_toList,hops,Nat.add_comm,List.getElem?_cons_succ])
  refine wpS_of_wp (wp_mono (hK a w1 (cK G a w1 hr)) fun e a' w2 ⟨st',hq,hr⟩=>?_)
  have hdf:a'.defers=[]:=by obtain⟨_,_,h1⟩:=hr;rw[h1.defers,hdl]
  cases e with
  |normal=>
   obtain⟨v,h1,h2⟩:=dC t hr hq
   exact⟨hdf,_,rfl,v,h1,rfl,h2⟩
  |ret=>
   obtain⟨v,h1,h2⟩:=dC t hr hq
   exact⟨hdf,_,rfl,v,h1,rfl,h2⟩
  |_=>exact hq.elim
 refine wpS_seq (wpS_region ?_)
 have hsz:ops.size=l.length+1:=by rw[←Array.length_toList,hops];rfl
 have h0:ops[0]? =some oR:=by rw[←Array.getElem?_toList,hops];rfl
 rw[List.range_eq_range',hsz,List.range'_succ]
 simp only[wpOpsS,h0]
 have hw:∀t,Region.wanted oR (yielded ops t)=true:=fun t=>by simp[Region.wanted,hg]
 have hrun:∀ρ:Operand→Value,(execOp ρ oR).run P w=.ok .recover w:=fun ρ=>by
  unfold execOp
  rw[hrec]
  rfl
 rw[if_pos (hw _),hrun]
 simp only[]
 have put:∀a,R X ⟨ghE H.length (argE 0 args),H⟩ a w→R X ⟨upd (ghE H.length (argE 0 args)) d (.v rv),H⟩ (a.put oR.dst rv) w:=fun a hr=>by
  obtain⟨M,loc,hrr⟩:=hr
  rw[hd]
  exact⟨M,loc,hrr.putO (d:=some d) (fun k hk=>by cases hk;rw[hXn];exact hdN) (RepZ.v _).rep trivial⟩
 cases hu with
 |idle=>
  have:recoverD (c₀::cs)=none:=by unfold recoverD;simp only[hc]
  rw[this]
  simp only[]
  exact hfin _ ⟨_,by rw[←hc],rfl⟩ _ _ (put _ hrr)
 |got v=>
  have:recoverD (c₀::cs)=some (rv,{c₀ with mode:=.panicking [{v:=rv,recovered:=true}]}::cs):=by unfold recoverD;simp only[hc]
  rw[this]
  simp only[]
  exact hfin _ ⟨_,rfl,rfl⟩ _ _ (put _ hrr)
def ghD:Nat→List AV→(Nat→AV)→Nat→AV
 |_,[],f=>f
 |k,c::l,f=>upd (ghD (k+1) l f) (G0+k) c
theorem vK{s:Nat}{f:Nat→AV}(h:s<G0):∀(l:List AV) (k:Nat),ghD k l f s=f s
 | [],k=>rfl
 |c::l,k=>by simp only[ghD,upd];rw[if_neg (by omega)];exact vK h l (k+1)
theorem vL{f:Nat→AV}:∀(l:List AV) (k i:Nat) (c:AV),l[i]? =some c→ghD k l f (G0+(k+i))=c
 | [],k,i,c,h=>by simp at h
 |d::l,k,0,c,h=>by simp at h;subst h;simp[ghD,upd]
 |d::l,k,i+1,c,h=>by
  simp only[ghD,upd]
  rw[if_neg (by omega),show k+(i+1)=(k+1)+i by omega]
  exact vL l (k+1) i c (by simpa using h)
theorem rC{f:Nat→AV}:∀(l:List AV) (k i:Nat),(i<k∨k+l.length≤i)→ghD k l f (G0+i)=f (G0+i)
 | [],k,i,h=>rfl
 |d::l,k,i,h=>by
  simp only[ghD,upd,List.length_cons]at h⊢
  rw[if_neg (by omega)]
  exact rC l (k+1) i (by omega)
def closeQ(P:Program)(rs:List ResultVar)(m:Nat)(r:AV)(H':List Cell)(q:Nat)(f:FuncId)(u:FrameMode)(st:St):Prop:=
 ∃ps Hl largs u2 H2,DefH P f Hl largs u u2 H2∧settle u2=.returning∧CallHC st.heap ((List.range q).map fun j=>st.env (G0+(m+j))) ps Hl largs∧retH P rs m r H' .ret ⟨st.env,heapAfter st.heap ps H2⟩
def doorQ(P:Program)(rs:List ResultVar)(m:Nat)(r:AV)(H':List Cell)(q:Nat)(f:FuncId):Exit→St→Prop
 | .normal,st| .ret,st=>closeQ P rs m r H' q f .returning st
 | .panic ch,st=>closeQ P rs m r H' q f (.panicking ch) st
 |_,_=>False
def Door(P:Program)(X:Ctx)(rs:List ResultVar)(m:Nat)(r:AV)(H':List Cell)(c:Code)(st:St):Prop:=
 ∀(fn:Func) (w0:World) (M0:Nat→Prop) (loc0:Nat→Value) (H:List Cell),fn.results.toList=rs→H.length=m→TopX X w0 M0 loc0 H→X.dl=[]→
  ∀a w,R X st a w→c.wp P (bodyPostD P fn (PostH w0 M0 loc0 H r H')) a w
def doorN(P:Program)(X:Ctx)(rs:List ResultVar)(m:Nat)(r:AV)(H':List Cell)(y:Code):Exit→St→Prop
 | .normal,st=>Door P X rs m r H' y st
 | .ret,st=>retH P rs m r H' .ret st
 |_,_=>False
theorem vM{fn:Func}{X:Ctx}{w0 w:World}{M0:Nat→Prop}{loc0:Nat→Value}{H H':List Cell}{r:AV}{st:St}{a:Act}(t:TopX X w0 M0 loc0 H)(hr:R X st a w)(hd:a.defers=[])(h:retH P fn.results.toList H.length r H' .ret st):
  Leaves P fn a.tmps (PostH w0 M0 loc0 H r H') a.defers .returning w:=by
 rw[hd]
 exact dC t hr h
theorem cX{X:Ctx}{rs:List ResultVar}{m:Nat}{r:AV}{H':List Cell}{x y:Code}{st:St}(h:AWP P X x (doorN P X rs m r H' y) st):Door P X rs m r H' (.seq x y) st:=by
 rintro fn w0 M0 loc0 H rfl rfl t hd a w hr
 refine wp_seq (wp_mono (h a w hr) fun e a' w' ⟨st',hq,hr'⟩=>?_)
 have hdf:a'.defers=[]:=by obtain⟨_,_,h1⟩:=hr';rw[h1.defers,hd]
 cases e with
 |normal=>exact hq fn w0 M0 loc0 H rfl rfl t hd a' w' hr'
 |ret=>exact vM t hr' hdf hq
 |_=>exact hq.elim
theorem gG{fn:Func}{X:Ctx}{w0 w:World}{M0:Nat→Prop}{loc0:Nat→Value}{H H':List Cell}{r:AV}{st:St}{a:Act}{f:FuncId}{capv:Array Value}{u:FrameMode}(t:TopX X w0 M0 loc0 H)(hr:R X st a w)(hd:a.defers=[{target:=.fn (.func f) capv,args:= #[]}])(hcall:callable P f=true)(hu:u≠.run)
  (hgh:∀j,j<capv.size→X.gh (H.length+j)=capv.getD j undef) (h:closeQ P fn.results.toList H.length r H' capv.size f u st):Leaves P fn a.tmps (PostH w0 M0 loc0 H r H') a.defers u w:=by
 rw[hd]
 obtain⟨ps,Hl,largs,u2,H2,hdef,hset,⟨hnd,hlt,hcells,hids,hargs⟩,hret⟩:=h
 obtain⟨M,loc,hrr⟩:=hr
 refine leaves_cons (f:=f) (args:= #[]++capv) hu ?_ ?_
 ·unfold callable at hcall
  split at hcall
  ·rename_i fn' hfn
   simp only[Bool.and_eq_true,bne_iff_ne,ne_eq]at hcall
   have h1:¬(fn'.name== "runtime.NumGoroutine")=true:=by simpa using hcall.1
   have h2:fn'.body.isNone=false:=by have:=hcall.2;cases hb:fn'.body<;>simp[hb]at this⊢
   simp only[Sem.run_bind,Sem.run_pure,Result.andThen_ok,invoke,callFunc,run_program,hfn,if_neg h1,h2,Bool.false_eq_true,if_false]
  ·cases hcall
 ·have hlen:=iM hargs
  simp only[List.length_map,List.length_range]at hlen
  refine(DP hrr hdef ps hnd (bO hcells) hlt (fun i hi=>?_) (cP hids) (vs:= #[]++capv) (by simpa using hlen) (fun j x e hx he=>?_)).mono fun e u' w' ⟨h1,x,h2,h3⟩=>?_
  ·have hp:ps[i]? =some ps[i]:=List.getElem?_eq_getElem hi
   rw[bV hp]
   exact cM hcells hp
  ·obtain⟨b,hb,hba,hltb⟩:=iO hargs he
   have hx':capv[j]? =some x:=by simpa using hx
   have hj:j<capv.size:=(Array.getElem?_eq_some_iff.1 hx').1
   rw[List.getElem?_map,List.getElem?_range hj]at hb
   simp only[Option.map_some,Option.some.injEq]at hb
   have hrep:=hrr.env (G0+(H.length+j))
   rw[if_neg (by omega),Nat.add_sub_cancel_left,hgh j hj,hb,Array.getD_eq_getD_getElem?,hx']at hrep
   have hrep:Rep w M loc x b:=hrep
   refine⟨?_,hltb⟩
   rcases hba with hba|⟨hba,rfl⟩
   ·rw[←hba];exact hrep
   ·rw[hba]at hrep
    rw[hrep.nil_inv]
    exact RepZ.rep (.sl none 0 0 [] (fun _=>undef) (by simp) (by simp) (by simp) (by simp) (by simp) (by simp))
  ·subst h2
   subst h1
   show Leaves P fn a.tmps _ [] (settle u') w'
   rw[hset]
   exact dC t h3 hret
theorem fI{X:Ctx}{rs:List ResultVar}{m N:Nat}{r:AV}{H':List Cell}{id:Nat}{ops:Array Oper}{y:Code}{st:St}{l:List Oper}{oD:Oper}{x:Operand}(G:List Nat)(hX:X.n=N)(hops:ops.toList=l++[oD])(hD:oD.op=.defer ⟨.value x,#[],#[]⟩)(hg:oD.guard=none)(hdst:oD.dst=none)
  (h:runK P ops N false (fun _ _=>False) l true (fun s=>∃f cap,ev s.env x=.fn f [] cap∧callable P f=true∧cap.all AV.flatB=true∧∀X':Ctx,X'.n=N→AWP P X' y (doorQ P rs m r H' cap.length f) ⟨ghD m cap (prune G s).env,s.heap⟩) st):
  Door P X rs m r H' (.seq (.region id ops false) y) st:=by
 rintro fn w0 M0 loc0 H rfl rfl t hd a w hr
 refine wp_seq (wp_region_list ?_)
 rw[hops]
 have go:∀Q:Exit→Act→World→Prop,(∀a w,y.wp P (bodyPostD P fn (PostH w0 M0 loc0 H r H')) a w→Q .normal a w)→wpList P ops Q (l++[oD]) a w:=by
  intro Q hQ
  refine dF (Q:=Q) (W:=fun l a w=>wpList P ops Q (l++[oD]) a w) (qp:=fun _ _=>False) (fun o l a w this=>?_) (X:=X) (fun s a' w' hK hr'=>?_) (fun _ _ _ _ hh=>hh.elim) l st a w (by rw[hX];exact h) hr
  ·show wpList P ops Q (o::(l++[oD])) a w
   unfold wpList
   split
   ·rename_i hw
    rw[if_pos hw]at this
    exact .inl this
   ·rename_i hw
    rw[if_neg hw]at this
    exact this
  ·obtain⟨f,cap,hx,hcall,hfl,hy⟩:=hK
   obtain⟨M,loc,hrr⟩:=hr'
   have hv:=hrr.ev x
   have hid:=hrr.evLt x
   rw[hx]at hv hid
   obtain⟨fs,cs,hfx,hl1,hl2,_,hc2⟩:=hv
   have hfs:fs= #[]:=by simpa using hl1
   subst hfs
   have hw:Region.wanted oD (yielded ops a'.tmps)=true:=by simp[Region.wanted,hg]
   show wpList P ops Q [oD] a' w'
   unfold wpList
   rw[if_pos hw]
   refine .inl ?_
   have hrun:(execOp a'.eval oD).run P w'=.ok (.defer {target:=.fn (.func f) cs,args:= #[]}) w':=by
    unfold execOp
    rw[hD]
    simp only[resolve,hfx,Deferred.ofValue,Sem.run_bind,Sem.run_pure,Result.andThen_ok,Array.map_empty,Array.append_empty]
   unfold Oper.wp
   rw[hrun]
   show Q .normal ({a' with defers:={target:=.fn (.func f) cs,args:= #[]}::a'.defers}.put oD.dst undef) w'
   rw[hdst]
   refine hQ _ _ ?_
   show y.wp P _ {a' with defers:={target:=.fn (.func f) cs,args:= #[]}::a'.defers} w'
   let X':Ctx:=⟨X.w0,X.Z,X.n,X.T,fun i=>if H.length≤i∧i<H.length+cs.size then cs.getD (i-H.length) undef else X.gh i,X.glob,[{target:=.fn (.func f) cs,args:= #[]}]⟩
   have hdf:a'.defers=[]:=by rw[hrr.defers,hd]
   have t':TopX X' w0 M0 loc0 H:=⟨t.w0,t.Z,t.T,fun i hi=>by show(if _ then _ else _)=_;rw[if_neg (by omega)];exact t.gh i hi⟩
   have hpr:=cK (X:=X) (st:=s) G a' w' ⟨M,loc,hrr⟩
   obtain⟨Mp,locp,hp⟩:∃Mp locp,RR X Mp locp s a' w':=⟨M,loc,hrr⟩
   have hr2:R X' ⟨ghD H.length cap (prune G s).env,s.heap⟩ {a' with defers:={target:=.fn (.func f) cs,args:= #[]}::a'.defers} w':=by
    have hpe:∀k,(prune G s).env k=s.env k∨(prune G s).env k=.bad:=fun k=>lS s.env G k
    refine⟨M,loc,fun k=>?_,hrr.nle,hrr.size,by rw[hdf],hrr.obj,hrr.sep,hrr.mobj,hrr.msep,hrr.below,hrr.zone,hrr.zin,hrr.zlt,hrr.one,fun k=>?_⟩
    ·show Rep w' M loc (if k<G0 then a'.tmps.getD k undef else if H.length≤k-G0∧k-G0<H.length+cs.size then cs.getD (k-G0-H.length) undef else X.gh (k-G0)) (ghD H.length cap (prune G s).env k)
     have old:Rep w' M loc (if k<G0 then a'.tmps.getD k undef else X.gh (k-G0)) ((prune G s).env k):=by
      rcases hpe k with e|e
      ·rw[e];exact hrr.env k
      ·rw[e];exact(RepZ.bad _).rep
     by_cases hk:k<G0
     ·rw[if_pos hk,vK hk]
      rw[if_pos hk]at old
      exact old
     ·rw[if_neg hk]
      rw[if_neg hk]at old
      obtain⟨i,rfl⟩:∃i,k=G0+i:=⟨k-G0,by omega⟩
      rw[Nat.add_sub_cancel_left]at old⊢
      by_cases hi:H.length≤i∧i<H.length+cs.size
      ·rw[if_pos hi]
       obtain⟨j,rfl⟩:∃j,i=H.length+j:=⟨i-H.length,by omega⟩
       have hj:j<cap.length:=by omega
       have hjc:j<cs.size:=by omega
       rw[vL cap H.length j cap[j] (List.getElem?_eq_getElem hj),Nat.add_sub_cancel_left,Array.getD_eq_getD_getElem?,Array.getElem?_eq_getElem hjc]
       exact(hc2 j _ _ (Array.getElem?_eq_getElem hjc) (List.getElem?_eq_getElem hj)).rep
      ·rw[if_neg hi,rC cap _ _ (by omega)]
       exact old
    ·show(ghD H.length cap (prune G s).env k).idLt s.heap.length
     have old:((prune G s).env k).idLt s.heap.length:=by
      rcases hpe k with e|e
      ·rw[e];exact hrr.ids k
      ·rw[e];trivial
     by_cases hk:k<G0
     ·rw[vK hk];exact old
     ·obtain⟨i,rfl⟩:∃i,k=G0+i:=⟨k-G0,by omega⟩
      by_cases hi:H.length≤i∧i<H.length+cap.length
      ·obtain⟨j,rfl⟩:∃j,i=H.length+j:=⟨i-H.length,by omega⟩
       have hj:j<cap.length:=by omega
       rw[vL cap H.length j cap[j] (List.getElem?_eq_getElem hj)]
       exact mK (fun id hm=>hid cap[j] (List.mem_append_right _ (List.getElem_mem hj)) id hm) (List.all_eq_true.1 hfl _ (List.getElem_mem hj))
      ·rw[rC cap _ _ (by omega)];exact old
   have hgh:∀j,j<cs.size→X'.gh (H.length+j)=cs.getD j undef:=fun j hj=>by
    show(if _ then _ else _)=_
    rw[if_pos (by omega),Nat.add_sub_cancel_left]
   rw[hdf]
   rw[hdf]at hr2
   refine wp_mono (hy X' (by rw[←hX]) _ w' hr2) fun e a3 w3 ⟨st3,hq,hr3⟩=>?_
   have hd3:a3.defers=[{target:=.fn (.func f) cs,args:= #[]}]:=by obtain⟨_,_,h1⟩:=hr3;exact h1.defers
   rw[←hl2]at hq
   cases e with
   |normal=>exact gG t' hr3 hd3 hcall (by simp) hgh hq
   |ret=>exact gG t' hr3 hd3 hcall (by simp) hgh hq
   |panic ch=>exact gG t' hr3 hd3 hcall (by simp) hgh hq
   |_=>exact hq.elim
 exact go _ fun _ _ h=>h
theorem fY{f:FuncId}{fn:Func}{c:Code}{H H':List Cell}{args:List AV}{r:AV}(m N:Nat)(rs:List ResultVar)(hf:P.funcs[f]? =some fn)(hb:fn.body=some c)(hN:fn.ntmps=N)(hrs:fn.results.toList=rs)(hn:args.length≤N)(hG:N≤G0)(hm:H.length=m)
  (h:∀X:Ctx,X.n=N→Door P X rs m r H' c ⟨ghE m (argE 0 args),H⟩):MeansH P f H args r H':=by
 subst hN;subst hm
 intro w M loc vs hM hgl hH hl hvs
 obtain⟨X,t,hXn,hd,hrr⟩:=kD hn hG hM hgl hH hl hvs
 exact calls_of_wp_defers hf hb (h X hXn fn w M loc H hrs rfl t hd _ w hrr)
theorem cY{rs:List ResultVar}{m:Nat}{r:AV}{H':List Cell}{q:Nat}{f:FuncId}{u u2:FrameMode}{st:St}(ps:List Nat){Hl:List Cell}{largs:List AV}{H2:List Cell}(h:DefH P f Hl largs u u2 H2)(hs:settle u2=.returning)
  (hc:CallHC st.heap ((List.range q).map fun j=>st.env (G0+(m+j))) ps Hl largs) (hr:retH P rs m r H' .ret ⟨st.env,heapAfter st.heap ps H2⟩):closeQ P rs m r H' q f u st:=⟨ps,Hl,largs,u2,H2,h,hs,hc,hr⟩
attribute [go_sem] doorN doorQ ghD
end Go.Ab
namespace Go.Ab
open Go.RowKit
variable{P:Program}
def CallPK(P:Program)(f:FuncId)(H:List Cell)(raw:List AV)(qp:Value→List Cell→Prop):Prop:=
 ∃pv ps Hl largs Hp,PanicX P f Hl largs pv Hp∧CallHC H raw ps Hl largs∧qp pv (heapAfter H ps Hp)
theorem rD{P:Program}{f:FuncId}{H H':List Cell}{raw raw':List AV}{qp:Value→List Cell→Prop}(h:H=H')(hr:raw=raw'):CallPK P f H raw qp=CallPK P f H' raw' qp:=by rw[h,hr]
attribute [congr] rD
theorem eB{f:FuncId}{H:List Cell}{raw:List AV}{qp:Value→List Cell→Prop}(ps:List Nat){pv:Value}{Hl:List Cell}{largs:List AV}(h:PanicH P f Hl largs pv)(hc:CallHC H raw ps Hl largs)(hk:qp pv (heapAfter H ps (deadAll Hl))):CallPK P f H raw qp:=⟨pv,ps,Hl,largs,_,h.x,hc,hk⟩
theorem o4{f:FuncId}{H:List Cell}{raw:List AV}{qp:Value→List Cell→Prop}(ps:List Nat){pv:Value}{Hl Hp:List Cell}{largs:List AV}(h:PanicX P f Hl largs pv Hp)(hc:CallHC H raw ps Hl largs)(hk:qp pv (heapAfter H ps Hp)):CallPK P f H raw qp:=⟨pv,ps,Hl,largs,_,h,hc,hk⟩
def panK(P:Program)(qp:Value→List Cell→Prop)(s:St):List Oper→Prop
 |o::_=>o.guard=none∧isCall o.op=true∧match tgt (ev s.env) (argsOf o.op).1 with
  |some (f,first,cap)=>callable P f=true∧CallPK P f s.heap (first++(argsOf o.op).2.map (ev s.env)++cap) qp
  |none=>False
 | []=>False
def panB(ops:Array Oper)(p:Nat):Bool:=
 let ms:=masks ops.toList []
 (List.range ops.size).all fun j=> !(p<j)||(ms.getD j 0).testBit p
def quietT(ts:List TagT):Bool:=ts.all fun t=> !t.e&&t.w.isEmpty
theorem A2{ops:Array Oper}{p:Nat}(h:panB ops p=true){j:Nat}(hj:j<ops.size)(hp:p<j):Reach ops p j:=by
 unfold panB at h
 have:=List.all_eq_true.1 h j (List.mem_range.2 hj)
 simp only[hp,decide_true,Bool.not_true,Bool.false_or]at this
 exact gF ops.toList [] (fun k _=>by simp) (fun j hj=>by simp at hj) j this
def PanS(P:Program)(pv:Value)(H2:List Cell)(o:Oper)(s:St):Prop:=o.guard=none∧∃c,o.op=.call c∧CallPA P s.heap (ev s.env) c pv H2
theorem GB{pv:Value→List Cell→Prop}{s:St}{l:List Oper}(h:panK P pv s l):∃o l' v H2,l=o::l'∧pv v H2∧PanS P v H2 o s:=by
 cases l with
 |nil=>exact h.elim
 |cons o l'=>
  obtain⟨hg,hc,h⟩:=h
  split at h
  ·rename_i f first cap ht
   obtain⟨hcall,v,ps,Hl,largs,Hp,h1,h2,h3⟩:=h
   refine⟨o,l',v,_,rfl,h3,hg,?_⟩
   obtain⟨dst,op,ty,pos,after,guard⟩:=o
   cases op<;>simp only[isCall]at hc<;>first|cases hc|skip
   rename_i c
   exact⟨c,rfl,f,first,cap,ps,Hl,largs,Hp,ht,hcall,h1,h2,rfl⟩
  ·exact h.elim
theorem A3{ops:Array Oper}{n L0:Nat}{x o:Oper}{t:TagT}{st st1:St}{pv:Value}{H2:List Cell}(hx:StepT P ops n L0 x t st st1)(hq:t.e=false)(hap:x.apart ops o=true)(h:PanS P pv H2 o st1):PanS P pv H2 o st:=by
 obtain⟨a1,a2,a3⟩:=Oper.apart_spec hap
 obtain⟨r,rfl,_⟩:=dW hx hq
 obtain⟨hg,c,hop,f,first,cap,ps,Hl,largs,Hp,ht,hcall,h1,h2,h3⟩:=h
 have hl:∀x∈(Op.call c).operands,ev st.env x=ev (putE st.env _ r) x:=fun x hx=>(fW a1 x (by rw[hop];exact hx)).symm
 exact⟨hg,c,hop,f,first,cap,ps,Hl,largs,Hp,by rw[gL hl];exact ht,hcall,h1,by rw[fF hl];exact h2,h3⟩
theorem tM{ops:Array Oper}{n L0:Nat}{o:Oper}{sf:St}{pv:Value}{H2:List Cell}:∀(A:List (Oper×TagT)) (st:St),RunTX P ops n L0 A st sf→(∀a∈A,a.1.apart ops o=true∧a.2.e=false)→PanS P pv H2 o sf→PanS P pv H2 o st
 | [],st,h,_,hp=>by
   have h:sf=st:=h
   rw[←h];exact hp
 |a::A,st,h,hA,hp=>by
  obtain⟨st1,h1,h2⟩:=h
  obtain⟨p1,p2⟩:=hA a (by simp)
  exact A3 h1 p2 p1 (tM A st1 h2 (fun b hb=>hA b (by simp[hb])) hp)
theorem DR{X:Ctx}{ops:Array Oper}{L0:Nat}{Q:Exit→Act→World→Prop}{T:Nat→TagT}{sf:St}{p:Nat}{op:Oper}{pv:Value}{H2:List Cell}{E0:Nat→AV}(hq:∀s a w,s.heap=H2→(∀k,G0≤k→s.env k=E0 k)→R X s a w→Q (panCh pv) a w)(hp:ops[p]? =some op)(hpan:PanS P pv H2 op sf)(hT:∀i,i<p→(T i).e=false∧(T i).w=[])
  (hback:∀j oj,ops[j]? =some oj→∀e∈oj.after,Region.binds .any e=true→e.on<j)
  (hind:∀i j oi oj,ops[i]? =some oi→ops[j]? =some oj→i<j→Reach ops i j∨(oi.apart ops oj=true∧True))
  (hbh:∀j,j<ops.size→p<j→Reach ops p j):
  ∀(fuel:Nat) (listed:Array Bool) (st:St) (a:Act) (w:World),listed.size=ops.size→(leftL ops listed).length=fuel→L0≤st.heap.length→
   (∀j o,ops[j]? =some o→listed.getD j false=true→∀e∈o.after,Region.binds .any e=true→listed.getD e.on false=true)→p∈leftL ops listed→
   RunTX P ops X.n L0 (((leftL ops listed).filter (· <p)).map fun i=>(ops.getD i default,T i)) st sf→(∀k,G0≤k→st.env k=E0 k)→R X st a w→wpAny P .any ops Q fuel listed a w:=by
 have hsome:∀{listed:Array Bool} {i},i∈leftL ops listed→ops[i]? =some (ops.getD i default)∧listed.getD i true=false:=by
  intro listed i hi
  simp only[leftL,List.mem_filter,List.mem_range,Bool.not_eq_true']at hi
  exact⟨by rw[Array.getD_eq_getD_getElem?,Array.getElem?_eq_getElem hi.1];rfl,hi.2⟩
 intro fuel
 induction fuel with
 |zero=>
  intro listed st a w hs hl hL0 _ hpl hr _ hR
  have h0:leftL ops listed=[]:=List.eq_nil_of_length_eq_zero hl
  rw[h0]at hpl;cases hpl
 |succ fuel ih=>
  intro listed st a w hs hl hL0 hcl hpl hr hgh hR
  obtain⟨M,loc,hRR⟩:=hR
  have hb:BndT L0 st:=⟨hRR.ids,hL0⟩
  have unl:∀{i k},k∈leftL ops listed→Reach ops k i→(∀o,ops[i]? =some o→∀e∈o.after,Region.binds .any e=true→listed.getD e.on false=true)→False:=fun{i k} hkl h1 hip=>by
   obtain⟨hok,hlk⟩:=hsome hkl
   have:=fH hcl h1 hip
   have hk2:k<listed.size:=by
    simp only[leftL,List.mem_filter,List.mem_range]at hkl;omega
   rw[Array.getD_eq_getD_getElem?,Array.getElem?_eq_getElem hk2]at this hlk
   simp at this hlk
   rw[hlk]at this;cases this
  refine⟨fun h0=>?_,fun i hi=>?_⟩
  ·exfalso
   cases hL:leftL ops listed with
   |nil=>rw[hL]at hl;simp at hl
   |cons k L=>
    have hk:k∈leftL ops listed:=by rw[hL];simp
    have:k∈Region.ready .any ops listed:=by
     refine cF.2 ⟨hk,fun o ho e he hbn=>?_⟩
     have hlt:=hback k o ho e he hbn
     have hkk:k<ops.size:=(Array.getElem?_eq_some_iff.1 ho).1
     cases hg:listed.getD e.on false with
     |true=>rfl
     |false=>
      exfalso
      have hsz:e.on<listed.size:=by omega
      have hmem:e.on∈leftL ops listed:=by
       simp only[leftL,List.mem_filter,List.mem_range,Bool.not_eq_true']
       refine⟨by omega,?_⟩
       rw[Array.getD_eq_getD_getElem?,Array.getElem?_eq_getElem hsz]at hg⊢
       exact hg
      have hsort:=bZ ops listed
      rw[hL]at hsort hmem
      rcases List.mem_cons.1 hmem with h|h
      ·omega
      ·have:=(List.pairwise_cons.1 hsort).1 _ h;omega
    rw[h0]at this;cases this
  ·obtain⟨hil,hip⟩:=cF.1 hi
   obtain⟨hoi,hli⟩:=hsome hil
   have apart:∀k∈leftL ops listed,k<i→(ops.getD k default).apart ops (ops.getD i default)=true:=fun k hkl hki=>by
    obtain⟨hok,hlk⟩:=hsome hkl
    rcases hind k i _ _ hok hoi hki with h1|⟨h1,_⟩
    ·exact(unl hkl h1 hip).elim
    ·exact h1
   have hisz:i<ops.size:=(Array.getElem?_eq_some_iff.1 hoi).1
   by_cases hpi:i=p
   ·subst hpi
    have hop:op=ops.getD i default:=by rw[hp]at hoi;exact Option.some.inj hoi
    have hps:PanS P pv H2 (ops.getD i default) st:=by
     rw[←hop]
     refine tM _ st hr (fun x hx=>?_) hpan
     obtain⟨k,hk,rfl⟩:=List.mem_map.1 hx
     simp only[List.mem_filter,decide_eq_true_eq]at hk
     rw[hop]
     exact⟨apart k hk.1 hk.2,(hT k hk.2).1⟩
    obtain⟨hg,c,hopc,hc⟩:=hps
    unfold wpOp
    rw[hoi]
    simp only[]
    have hw:Region.wanted (ops.getD i default) (yielded ops a.tmps)=true:=by unfold Region.wanted;rw[hg]
    rw[if_pos hw]
    refine .inl ?_
    obtain⟨f,vs,h1,h2⟩:=kJ hRR hopc (fun x _=>hRR.ev x) hc
    unfold Oper.wp
    rw[h1]
    refine h2.mono fun e w' hh=>?_
    obtain⟨rfl,hl⟩:=hh
    exact hq ⟨st.env,H2⟩ a w' rfl hgh hl
   ·have hip2:i<p:=by
     rcases Nat.lt_or_ge i p with h|h
     ·exact h
     ·exact(unl hpl (hbh i hisz (by omega)) hip).elim
    obtain⟨A,B,hAB,hA,hf⟩:=iU (bZ ops listed) hil
    have hfA:A.filter (· <p)=A:=List.filter_eq_self.2 fun k hk=>by have:=hA k hk;simp;omega
    rw[hAB,List.filter_append,hfA,List.filter_cons_of_pos (by simpa using hip2),List.map_append,List.map_cons]at hr
    have hbub:=qY (A.map fun i=>(ops.getD i default,T i)) st hr hb (fun x hx=>by
     obtain⟨k,hk,rfl⟩:=List.mem_map.1 hx
     have hkl:k∈leftL ops listed:=by rw[hAB];simp[hk]
     refine⟨apart k hkl (hA k hk),?_⟩
     have e1:=hT k (by have:=hA k hk;omega)
     have e2:=hT i hip2
     simp[noMeetT,e1.1,e1.2,e2.2])
    obtain⟨st1,h1,h2⟩:=hbub
    have hL1:=(h1.bnd hb).2
    have hgh1:∀k,G0≤k→st1.env k=E0 k:=fun k hk=>by
     obtain⟨r,e,_⟩:=dW h1 (hT i hip2).1
     rw[e,←hgh k hk]
     cases hdst:(ops.getD i default).dst with
     |none=>rfl
     |some d=>
      have h3:d<X.n:=h1.1 d hdst
      have h4:X.n≤G0:=hRR.nle
      exact if_neg (show ¬k=d from fun e=>absurd (Nat.lt_of_lt_of_le h3 (Nat.le_trans h4 hk)) (e▸Nat.lt_irrefl _))
    unfold wpOp
    rw[hoi]
    simp only[]
    have hstep:=sT (Q:=Q) (K:=wpAny P .any ops Q fuel (listed.setIfInBounds i true)) h1 hL0 ⟨M,loc,hRR⟩ (fun a' w' hR'=>by
     refine ih (listed.setIfInBounds i true) st1 a' w' (by simpa using hs) ?_ hL1 ?_ ?_ ?_ hgh1 hR'
     ·rw[eJ hs hil,hf]
      rw[hAB]at hl
      simp at hl⊢;omega
     ·intro j o hj hlj e he hbn
      have hset:∀q,listed.getD q false=true→(listed.setIfInBounds i true).getD q false=true:=fun q hq=>by
       by_cases hqi:q=i
       ·subst hqi
        have hqs:q<listed.size:=by
         simp only[leftL,List.mem_filter,List.mem_range]at hil;omega
        rw[Array.getD_eq_getD_getElem?,Array.getElem?_setIfInBounds_self_of_lt hqs];rfl
       ·rw[Array.getD_eq_getD_getElem?,Array.getElem?_setIfInBounds_ne (by omega),←Array.getD_eq_getD_getElem?];exact hq
      by_cases hji:j=i
      ·subst hji
       exact hset _ (hip o hj e he hbn)
      ·rw[Array.getD_eq_getD_getElem?,Array.getElem?_setIfInBounds_ne (by omega),←Array.getD_eq_getD_getElem?]at hlj
       exact hset _ (hcl j o hj hlj e he hbn)
     ·rw[eJ hs hil]
      exact List.mem_filter.2 ⟨hpl,by simpa using fun h=>hpi h.symm⟩
     ·rw[eJ hs hil,hf,List.filter_append,hfA,List.map_append];exact h2)
    by_cases hw:Region.wanted (ops.getD i default) (yielded ops a.tmps)=true
    ·rw[if_pos hw]at hstep⊢
     exact .inl hstep
    ·rw[if_neg hw]at hstep⊢
     exact hstep
theorem nL(q:Value→List Cell→Prop){X:Ctx}{N:Nat}{Q:Exit→St→Prop}{st:St}{id:Nat}{ops:Array Oper}(p:Nat)(hqq:∀v H,q v H→∀s:St,s.heap=H→(∀k,G0≤k→s.env k=st.env k)→Q (panCh v) s)(hX:X.n=N)(hm:P.follows .mixedOrders=true)(hd:drawOK ops (fun _ _ _ _=>true)=true)(hb:panB ops p=true)
  (h:runT P ops N st.heap.length (ops.toList.take p) true [] (fun s ts=>quietT ts=true∧panK P q s (ops.toList.drop p)) st):AWP P X (.region id ops true) Q st:=by
 subst hX
 obtain⟨ts,sf,h0,h1,hqt,hk⟩:=r4 _ [] st h
 rw[List.nil_append]at hqt
 obtain⟨op,l',pv,H2,hdr,hqv,hpan⟩:=GB hk
 intro a w hr
 refine wp_region_any hm ?_
 obtain⟨hback,hind⟩:=fX hd
 have hpl:ops.toList[p]? =some op:=by rw[←List.head?_drop,hdr];rfl
 have hpo:ops[p]? =some op:=by simpa using hpl
 have hps:p<ops.size:=(Array.getElem?_eq_some_iff.1 hpo).1
 have hall:leftL ops (Array.replicate ops.size false)=List.range ops.size:=by
  unfold leftL
  refine List.filter_eq_self.2 fun i hi=>?_
  simp only[List.mem_range]at hi
  rw[Array.getD_eq_getD_getElem?]
  simp[hi]
 have htl:ts.length=p:=by rw[h0,List.length_take,Array.length_toList];omega
 refine DR (T:=fun i=>ts.getD i default) (sf:=sf) (L0:=st.heap.length) (p:=p) (op:=op) (pv:=pv) (E0:=st.env) (fun s a' w' h1 h2 hr'=>⟨s,hqq _ _ hqv s h1 h2,hr'⟩) hpo hpan (fun i hi=>?_) hback (fun i j oi oj hi hj hij=>(hind i j oi oj hi hj hij).imp (fun h=>h) fun h=>⟨h.1,trivial⟩) (fun j hj hpj=>A2 hb hj hpj) ops.size _ st a _ (by simp) ?_ (Nat.le_refl _) ?_ ?_ ?_ (fun _ _=>rfl) hr.drew
 ·have hit:i<ts.length:=by omega
  have:=List.all_eq_true.1 hqt ts[i] (List.getElem_mem hit)
  rw[List.getD_eq_getElem?_getD,List.getElem?_eq_getElem hit]
  simp only[Bool.and_eq_true,Bool.not_eq_true',List.isEmpty_iff]at this
  exact this
 ·rw[hall];simp
 ·intro j o hj hl
  rw[Array.getD_eq_getD_getElem?]at hl
  simp[Array.getElem?_replicate]at hl
  split at hl<;>simp at hl
 ·rw[hall];exact List.mem_range.2 hps
 ·rw[hall]
  have hfr:(List.range ops.size).filter (· <p)=List.range p:=by
   have:List.range ops.size=List.range p++List.range' p (ops.size-p):=by
    rw[List.range_eq_range',List.range_eq_range']
    have:=@List.range'_append_1 0 p (ops.size-p)
    rw[Nat.zero_add]at this
    rw[this];congr 1;omega
   rw[this,List.filter_append,List.filter_eq_self.2 fun k hk=>by simpa using hk,List.filter_eq_nil_iff.2 fun k hk=>by simp[List.mem_range']at hk⊢;omega,List.append_nil]
  rw[hfr]
  have:((List.range p).map fun i=>(ops.getD i default,ts.getD i default))=(ops.toList.take p).zip ts:=by
   apply List.ext_getElem?
   intro k
   by_cases hk:k<p
   ·have hkt:k<ts.length:=by omega
    have hko:k<ops.size:=by omega
    simp[List.getElem?_range hk,hk,hkt,hko,Array.getD_eq_getD_getElem?,List.getD_eq_getElem?_getD,List.getElem?_zipWith,List.zip,List.getElem?_take]
   ·have hkt:¬k<ts.length:=by omega
    simp[hk,List.zip,List.getElem?_zipWith,List.getElem?_take]
  rw[this];exact h1
theorem gT{X:Ctx}{N:Nat}{Q:Exit→St→Prop}{st:St}{id:Nat}{ops:Array Oper}(p:Nat)(hX:X.n=N)(hm:P.follows .mixedOrders=true)(hd:drawOK ops (fun _ _ _ _=>true)=true)(hb:panB ops p=true)
  (h:runT P ops N st.heap.length (ops.toList.take p) true [] (fun s ts=>quietT ts=true∧panK P (fun v _=>∀s,Q (panCh v) s) s (ops.toList.drop p)) st):AWP P X (.region id ops true) Q st:=
 nL (fun v _=>∀s,Q (panCh v) s) p (fun _ _ h s _ _=>h s) hX hm hd hb h
theorem uH{X:Ctx}{N:Nat}{Q:Exit→St→Prop}{st:St}{id:Nat}{ops:Array Oper}(p:Nat)(hX:X.n=N)(hm:P.follows .mixedOrders=true)(hd:drawOK ops (fun _ _ _ _=>true)=true)(hb:panB ops p=true)
  (h:runT P ops N st.heap.length (ops.toList.take p) true [] (fun s ts=>quietT ts=true∧panK P (fun v H=>∀s:St,s.heap=H→(∀k,G0≤k→s.env k=st.env k)→Q (panCh v) s) s (ops.toList.drop p)) st):AWP P X (.region id ops true) Q st:=
 nL _ p (fun _ _ h=>h) hX hm hd hb h
@[go_sem] theorem qL(P:Program)(rs:List ResultVar)(m:Nat)(v:Value)(H:List Cell):outX P rs m (.inl v) H=panX P m v H:=rfl
@[go_sem] theorem F2(P:Program)(rs:List ResultVar)(m:Nat)(r:AV)(H:List Cell):outX P rs m (.inr r) H=retH P rs m r H:=rfl
@[go_sem] theorem outQ_no(P:Program)(rs:List ResultVar)(m:Nat)(v:Value):outQ P rs m (.inl v)=panQ v:=rfl
@[go_sem] theorem outQ_ok(P:Program)(rs:List ResultVar)(m:Nat)(r:AV)(H:List Cell):outQ P rs m (.inr (r,H))=retH P rs m r H:=rfl
attribute [go_sem] panK quietT
end Go.Ab

