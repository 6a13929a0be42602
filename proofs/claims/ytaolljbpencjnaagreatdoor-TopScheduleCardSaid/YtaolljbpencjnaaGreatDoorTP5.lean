/-
  Lemmas for the statement at the top.
-/
import Derived.Test.YtaolljbpencjnaaGreatDoorTFw5
import Derived.Recover
import Derived.Test.YtaolljbpencjnaaGreatDoorTFw4
set_option linter.all false
namespace Go.Ab
open Go.RowKit
theorem qT (a : Nat) : newIds a a = [] :=by unfold newIds; rw [Nat.sub_self]; rfl
theorem sT (a : Nat) : newIds a (a + 1) = [a] :=by unfold newIds; rw [Nat.add_sub_cancel_left]; rfl
attribute [go_sem] sT qT
end Go.Ab
namespace Go.Ab
open Go.RowKit
variable {P : Program}
def DefH (P : Program) (f : FuncId) (H : List Cell) (args : List AV) (u u2 : FrameMode) (H' : List Cell) : Prop :=
 ∀ (w : World) (M : Nat → Prop) (loc : Nat → Value) (vs : Array Value),(∀ b,M b → b < w.heap.size) → GlobW w M → HeapS (blks H loc) M loc H w → vs.size = args.length →
   (∀ (j : Nat) (x : Value) (e : AV),vs[j]? = some x → args[j]? = some e → Rep w M loc x e ∧ e.idLt H.length) →
   CallsD P f vs u w fun e u' w' => u' = u2 ∧ PostH w M loc H (.tup []) H' e w'
theorem yY {w : World} {M : Nat → Prop} {loc : Nat → Value} {X : Ctx} {st : St} {a : Act} (h : RR X M loc st a w) {f : FuncId} {H : List Cell} {args : List AV} {u u2 : FrameMode} {H' : List Cell} (hm : DefH P f H args u u2 H') (ps : List Nat) (hnd : ps.Nodup) (hlen : H.length = ps.length) (hlt : ∀ c ∈ ps,c < st.heap.length)
  (hcell : ∀ i,i < ps.length → st.heap[upN ps st.heap.length i]? = H[i]?.map (renCell (upN ps st.heap.length))) (hids : okIds H.length H)
  {vs : Array Value} (hvs : vs.size = args.length) (hargs : ∀ (j : Nat) (x : Value) (e : AV),vs[j]? = some x → args[j]? = some e → Rep w M loc x (ren (upN ps st.heap.length) e) ∧ e.idLt H.length) :
  CallsD P f vs u w fun e u' w' => u' = u2 ∧ ∃ x,e = .returned x ∧ R X ⟨st.env,heapAfter st.heap ps H'⟩ a w' :=by
 have :=iD (C :=fun R => CallsD P f vs u w fun e u' w' => u' = u2 ∧ R e w') (E :=fun e x => e = .returned x) (fun _ _ hi hc => hc.mono fun e u' w' ⟨h1,h2⟩ => ⟨h1,hi e w' h2⟩) h
  (fun loc hS ha => hm w M loc vs (fun b hb => (h.zone b hb).1) (h.globW fun _ hb => hb) hS hvs ha) ps hnd hlen hlt hcell hids hargs
 exact this.mono fun e u' w' ⟨h1,x,M',loc',h2,h3,_⟩ => ⟨h1,x,h2,M',loc',h3⟩
inductive Rcv : FrameMode → FrameMode → Value → Prop
 | idle : Rcv .returning .returning .nilIface
 | got (v : Value) : Rcv (.panicking [{ v :=v,recovered :=false }]) (.panicking [{ v :=v,recovered :=true }]) v
theorem yZ {o : Oper} {a : Act} {next next' : Act → World → Prop} {Q Q' : Exit → Act → World → Prop} (h1 : ∀ a w,next a w → next' a w) (h2 : ∀ e a w,Q e a w → Q' e a w) : ∀ {r : Result Next},o.upon P a next Q r → o.upon P a next' Q' r :=by
 intro r h
 unfold Oper.upon at h ⊢
 split at h <;> first | exact h1 _ _ h | exact h2 _ _ _ h | exact h.elim | skip
 · refine h.mono fun e w' hh => ?_
   cases e with
   | returned v => exact h1 _ _ hh
   | panicked c => exact h2 _ _ _ hh
   | outgrown => obtain ⟨a,w,hh⟩ :=hh; exact ⟨a,w,h2 _ _ _ hh⟩
 · exact Rows.mono h fun v w' hh => h1 _ _ hh
theorem qU {ops : Array Oper} {Q : Exit → Act → List Frame → World → Prop} {cs : List Frame} {X : Ctx} {qp : Value → St → Prop} {K : St → Prop} (hq : ∀ st a w,K st → R X st a w → Q .normal a cs w) (hp : ∀ pv st a w,qp pv st → R X st a w → Q (panCh pv) a cs w)
  (l : List Oper) (st : St) (a : Act) (w : World) (h : runK P ops X.n false qp l true K st) (hr : R X st a w) (k : Nat) (hk : ∀ j,l[j]? = ops[k + j]?) : wpOpsS P ops Q (List.range' k l.length) a cs w :=by
 refine dQ (W :=fun l a w => ∀ k,(∀ j,l[j]? = ops[k + j]?) → wpOpsS P ops Q (List.range' k l.length) a cs w) (Q :=fun e a w => Q e a cs w) (fun o l a w this k hk => ?_) (fun st a w h1 h2 k _ => hq st a w h1 h2) hp l st a w h hr k hk
 have h0 : ops[k]? = some o :=by simpa using (hk 0).symm
 have ih : ∀ a w,(∀ k,(∀ j,l[j]? = ops[k + j]?) → wpOpsS P ops Q (List.range' k l.length) a cs w) → wpOpsS P ops Q (List.range' (k + 1) l.length) a cs w :=fun a w hh => hh (k + 1) fun j => by have :=hk (j + 1); simpa [Nat.add_assoc,Nat.add_comm 1 j] using this
 simp only [List.length_cons,List.range'_succ,wpOpsS,h0]
 split
 · rename_i hw
   rw [if_pos hw] at this
   unfold Oper.wp at this
   split
   · rename_i w' hr
     rw [hr] at this
     exact this.elim
   · exact yZ ih (fun _ _ _ h => h) this
 · rename_i hw
   rw [if_neg hw] at this
   exact ih _ _ this
theorem p9 {f : FuncId} {fn : Func} {id : Nat} {ops : Array Oper} {y : Code} {H H' : List Cell} {args : List AV} {u u2 : FrameMode} {rv : Value} {oR : Oper} {l : List Oper} (m N d : Nat) (G : List Nat) (rs : List ResultVar) (hu : Rcv u u2 rv) (hf : P.funcs[f]? = some fn) (hb : fn.body = some (.seq (.region id ops false) y)) (hN : fn.ntmps = N) (hrs : fn.results.toList = rs) (hn : args.length ≤ N) (hG : N ≤ G0) (hm : H.length = m)
  (hops : ops.toList = oR :: l) (hrec : oR.op = .call ⟨.builtin .recover,#[],#[]⟩) (hg : oR.guard = none) (hd : oR.dst = some d) (hdN : d < N)
  (h : ∀ X : Ctx,X.n = N → runK P ops N false (fun _ _ => False) l true (fun s => AWP P X y (retH P rs m (.tup []) H') (prune G s)) ⟨upd (ghE m (argE 0 args)) d (.v rv),H⟩) : DefH P f H args u u2 H' :=by
 subst hN; subst hrs; subst hm
 intro w M loc vs hM hgl hH hl hvs
 refine callsD_of_wpS hf hb fun c₀ cs hc => ?_
 obtain ⟨X,t,hXn,hdl,hrr⟩ :=kN hn hG hM hgl hH hl hvs
 have hfin : ∀ cs',(∃ u',cs' = { c₀ with mode :=u' } :: cs ∧ u' = u2) → ∀ (a : Act) (w' : World),R X ⟨upd (ghE H.length (argE 0 args)) d (.v rv),H⟩ a w' →
   wpOpsS P ops (Exit.thenS (y.wpS P (bodyPostS P fn c₀ cs fun e u' w' => u' = u2 ∧ PostH w M loc H (.tup []) H' e w')) (bodyPostS P fn c₀ cs fun e u' w' => u' = u2 ∧ PostH w M loc H (.tup []) H' e w')) (List.range' 1 l.length) a cs' w' :=by
  rintro cs' ⟨u',rfl,rfl⟩ a w' hr
  refine qU (X :=X) (qp :=fun _ _ => False) (K :=fun s => AWP P X y (retH P fn.results.toList H.length (.tup []) H') (prune G s)) (fun st a w1 hK hr => ?_) (fun _ _ _ _ hh => hh.elim) l _ a w' (by rw [hXn]; exact h X hXn) hr 1 (fun j => by rw [← Array.getElem?_toList,hops,Nat.add_comm,List.getElem?_cons_succ])
  refine wpS_of_wp (wp_mono (hK a w1 (cP G a w1 hr)) fun e a' w2 ⟨st',hq,hr⟩ => ?_)
  have hdf : a'.defers = [] :=by obtain ⟨_,_,h1⟩ :=hr; rw [h1.defers,hdl]
  cases e with
  | normal =>
    obtain ⟨v,h1,h2⟩ :=dS t hr hq
    exact ⟨hdf,_,rfl,v,h1,rfl,h2⟩
  | ret =>
    obtain ⟨v,h1,h2⟩ :=dS t hr hq
    exact ⟨hdf,_,rfl,v,h1,rfl,h2⟩
  | _ => exact hq.elim
 refine wpS_seq (wpS_region ?_)
 have hsz : ops.size = l.length + 1 :=by rw [← Array.length_toList,hops]; rfl
 have h0 : ops[0]? = some oR :=by rw [← Array.getElem?_toList,hops]; rfl
 rw [List.range_eq_range',hsz,List.range'_succ]
 simp only [wpOpsS,h0]
 have hw : ∀ t,Region.wanted oR (yielded ops t) = true :=fun t => by simp [Region.wanted,hg]
 have hrun : ∀ ρ : Operand → Value,(execOp ρ oR).run P w = .ok .recover w :=fun ρ => by
  unfold execOp
  rw [hrec]
  rfl
 rw [if_pos (hw _),hrun]
 simp only []
 have put : ∀ a,R X ⟨ghE H.length (argE 0 args),H⟩ a w → R X ⟨upd (ghE H.length (argE 0 args)) d (.v rv),H⟩ (a.put oR.dst rv) w :=fun a hr => by
  obtain ⟨M,loc,hrr⟩ :=hr
  rw [hd]
  exact ⟨M,loc,hrr.putO (d :=some d) (fun k hk => by cases hk; rw [hXn]; exact hdN) (RepZ.v _).rep trivial⟩
 cases hu with
 | idle =>
   have : recoverD (c₀ :: cs) = none :=by unfold recoverD; simp only [hc]
   rw [this]
   simp only []
   exact hfin _ ⟨_,by rw [← hc],rfl⟩ _ _ (put _ hrr)
 | got v =>
   have : recoverD (c₀ :: cs) = some (rv,{ c₀ with mode :=.panicking [{ v :=rv,recovered :=true }] } :: cs) :=by unfold recoverD; simp only [hc]
   rw [this]
   simp only []
   exact hfin _ ⟨_,rfl,rfl⟩ _ _ (put _ hrr)
def ghD : Nat → List AV → (Nat → AV) → Nat → AV
 | _,[],f => f
 | k,c :: l,f => upd (ghD (k + 1) l f) (G0 + k) c
theorem sU {s : Nat} {f : Nat → AV} (h : s < G0) : ∀ (l : List AV) (k : Nat),ghD k l f s = f s
 | [],k => rfl
 | c :: l,k => by simp only [ghD,upd]; rw [if_neg (by omega)]; exact sU h l (k + 1)
theorem sV {f : Nat → AV} : ∀ (l : List AV) (k i : Nat) (c : AV),l[i]? = some c → ghD k l f (G0 + (k + i)) = c
 | [],k,i,c,h => by simp at h
 | d :: l,k,0,c,h => by simp at h; subst h; simp [ghD,upd]
 | d :: l,k,i + 1,c,h => by
   simp only [ghD,upd]
   rw [if_neg (by omega),show k + (i + 1) = (k + 1) + i by omega]
   exact sV l (k + 1) i c (by simpa using h)
theorem pB {f : Nat → AV} : ∀ (l : List AV) (k i : Nat),(i < k ∨ k + l.length ≤ i) → ghD k l f (G0 + i) = f (G0 + i)
 | [],k,i,h => rfl
 | d :: l,k,i,h => by
   simp only [ghD,upd,List.length_cons] at h ⊢
   rw [if_neg (by omega)]
   exact pB l (k + 1) i (by omega)
def closeQ (P : Program) (rs : List ResultVar) (m : Nat) (r : AV) (H' : List Cell) (q : Nat) (f : FuncId) (u : FrameMode) (st : St) : Prop :=
 ∃ ps Hl largs u2 H2,DefH P f Hl largs u u2 H2 ∧ settle u2 = .returning ∧ CallHC st.heap ((List.range q).map fun j => st.env (G0 + (m + j))) ps Hl largs ∧ retH P rs m r H' .ret ⟨st.env,heapAfter st.heap ps H2⟩
def doorQ (P : Program) (rs : List ResultVar) (m : Nat) (r : AV) (H' : List Cell) (q : Nat) (f : FuncId) : Exit → St → Prop
 | .normal,st | .ret,st => closeQ P rs m r H' q f .returning st
 | .panic ch,st => closeQ P rs m r H' q f (.panicking ch) st
 | _,_ => False
def Door (P : Program) (X : Ctx) (rs : List ResultVar) (m : Nat) (r : AV) (H' : List Cell) (c : Code) (st : St) : Prop :=
 ∀ (fn : Func) (w0 : World) (M0 : Nat → Prop) (loc0 : Nat → Value) (H : List Cell),fn.results.toList = rs → H.length = m → TopX X w0 M0 loc0 H → X.dl = [] →
   ∀ a w,R X st a w → c.wp P (bodyPostD P fn (PostH w0 M0 loc0 H r H')) a w
def doorN (P : Program) (X : Ctx) (rs : List ResultVar) (m : Nat) (r : AV) (H' : List Cell) (y : Code) : Exit → St → Prop
 | .normal,st => Door P X rs m r H' y st
 | .ret,st => retH P rs m r H' .ret st
 | _,_ => False
theorem sW {fn : Func} {X : Ctx} {w0 w : World} {M0 : Nat → Prop} {loc0 : Nat → Value} {H H' : List Cell} {r : AV} {st : St} {a : Act} (t : TopX X w0 M0 loc0 H) (hr : R X st a w) (hd : a.defers = []) (h : retH P fn.results.toList H.length r H' .ret st) :
  Leaves P fn a.tmps (PostH w0 M0 loc0 H r H') a.defers .returning w :=by
 rw [hd]
 exact dS t hr h
theorem eP {X : Ctx} {rs : List ResultVar} {m : Nat} {r : AV} {H' : List Cell} {x y : Code} {st : St} (h : AWP P X x (doorN P X rs m r H' y) st) : Door P X rs m r H' (.seq x y) st :=by
 rintro fn w0 M0 loc0 H rfl rfl t hd a w hr
 refine wp_seq (wp_mono (h a w hr) fun e a' w' ⟨st',hq,hr'⟩ => ?_)
 have hdf : a'.defers = [] :=by obtain ⟨_,_,h1⟩ :=hr'; rw [h1.defers,hd]
 cases e with
 | normal => exact hq fn w0 M0 loc0 H rfl rfl t hd a' w' hr'
 | ret => exact sW t hr' hdf hq
 | _ => exact hq.elim
theorem g7 {fn : Func} {X : Ctx} {w0 w : World} {M0 : Nat → Prop} {loc0 : Nat → Value} {H H' : List Cell} {r : AV} {st : St} {a : Act} {f : FuncId} {capv : Array Value} {u : FrameMode} (t : TopX X w0 M0 loc0 H) (hr : R X st a w) (hd : a.defers = [{ target :=.fn (.func f) capv,args :=#[] }]) (hcall : callable P f = true) (hu : u ≠ .run)
  (hgh : ∀ j,j < capv.size → X.gh (H.length + j) = capv.getD j undef) (h : closeQ P fn.results.toList H.length r H' capv.size f u st) : Leaves P fn a.tmps (PostH w0 M0 loc0 H r H') a.defers u w :=by
 rw [hd]
 obtain ⟨ps,Hl,largs,u2,H2,hdef,hset,⟨hnd,hlt,hcells,hids,hargs⟩,hret⟩ :=h
 obtain ⟨M,loc,hrr⟩ :=hr
 refine leaves_cons (f :=f) (args :=#[] ++ capv) hu ?_ ?_
 · unfold callable at hcall
   split at hcall
   · rename_i fn' hfn
     simp only [Bool.and_eq_true,bne_iff_ne,ne_eq] at hcall
     have h1 : ¬ (fn'.name == "runtime.NumGoroutine") = true := by simpa using hcall.1
     have h2 : fn'.body.isNone = false :=by have :=hcall.2; cases hb : fn'.body <;> simp [hb] at this ⊢
     simp only [Sem.run_bind,Sem.run_pure,Result.andThen_ok,invoke,callFunc,run_program,hfn,if_neg h1,h2,Bool.false_eq_true,if_false]
   · cases hcall
 · have hlen :=gV hargs
   simp only [List.length_map,List.length_range] at hlen
   refine (yY hrr hdef ps hnd (cE hcells) hlt (fun i hi => ?_) (dB hids) (vs :=#[] ++ capv) (by simpa using hlen) (fun j x e hx he => ?_)).mono fun e u' w' ⟨h1,x,h2,h3⟩ => ?_
   · have hp : ps[i]? = some ps[i] :=List.getElem?_eq_getElem hi
     rw [bY hp]
     exact cZ hcells hp
   · obtain ⟨b,hb,hba,hltb⟩ :=gW hargs he
     have hx' : capv[j]? = some x :=by simpa using hx
     have hj : j < capv.size :=(Array.getElem?_eq_some_iff.1 hx').1
     rw [List.getElem?_map,List.getElem?_range hj] at hb
     simp only [Option.map_some,Option.some.injEq] at hb
     have hrep :=hrr.env (G0 + (H.length + j))
     rw [if_neg (by omega),Nat.add_sub_cancel_left,hgh j hj,hb,Array.getD_eq_getD_getElem?,hx'] at hrep
     have hrep : Rep w M loc x b :=hrep
     refine ⟨?_,hltb⟩
     rcases hba with hba | ⟨hba,rfl⟩
     · rw [← hba]; exact hrep
     · rw [hba] at hrep
       rw [hrep.nil_inv]
       exact RepZ.rep (.sl none 0 0 [] (fun _ => undef) (by simp) (by simp) (by simp) (by simp) (by simp) (by simp))
   · subst h2
     subst h1
     show Leaves P fn a.tmps _ [] (settle u') w'
     rw [hset]
     exact dS t h3 hret
theorem lQ {X : Ctx} {rs : List ResultVar} {m N : Nat} {r : AV} {H' : List Cell} {id : Nat} {ops : Array Oper} {y : Code} {st : St} {l : List Oper} {oD : Oper} {x : Operand} (G : List Nat) (hX : X.n = N) (hops : ops.toList = l ++ [oD]) (hD : oD.op = .defer ⟨.value x,#[],#[]⟩) (hg : oD.guard = none) (hdst : oD.dst = none)
  (h : runK P ops N false (fun _ _ => False) l true (fun s => ∃ f cap,ev s.env x = .fn f [] cap ∧ callable P f = true ∧ cap.all AV.flatB = true ∧ ∀ X' : Ctx,X'.n = N → AWP P X' y (doorQ P rs m r H' cap.length f) ⟨ghD m cap (prune G s).env,s.heap⟩) st) :
  Door P X rs m r H' (.seq (.region id ops false) y) st :=by
 rintro fn w0 M0 loc0 H rfl rfl t hd a w hr
 refine wp_seq (wp_region_list ?_)
 rw [hops]
 have go : ∀ Q : Exit → Act → World → Prop,(∀ a w,y.wp P (bodyPostD P fn (PostH w0 M0 loc0 H r H')) a w → Q .normal a w) → wpList P ops Q (l ++ [oD]) a w :=by
  intro Q hQ
  refine dQ (Q :=Q) (W :=fun l a w => wpList P ops Q (l ++ [oD]) a w) (qp :=fun _ _ => False) (fun o l a w this => ?_) (X :=X) (fun s a' w' hK hr' => ?_) (fun _ _ _ _ hh => hh.elim) l st a w (by rw [hX]; exact h) hr
  · show wpList P ops Q (o :: (l ++ [oD])) a w
    unfold wpList
    split
    · rename_i hw
      rw [if_pos hw] at this
      exact .inl this
    · rename_i hw
      rw [if_neg hw] at this
      exact this
  · obtain ⟨f,cap,hx,hcall,hfl,hy⟩ :=hK
    obtain ⟨M,loc,hrr⟩ :=hr'
    have hv :=hrr.ev x
    have hid :=hrr.evLt x
    rw [hx] at hv hid
    obtain ⟨fs,cs,hfx,hl1,hl2,_,hc2⟩ :=hv
    have hfs : fs = #[] :=by simpa using hl1
    subst hfs
    have hw : Region.wanted oD (yielded ops a'.tmps) = true :=by simp [Region.wanted,hg]
    show wpList P ops Q [oD] a' w'
    unfold wpList
    rw [if_pos hw]
    refine .inl ?_
    have hrun : (execOp a'.eval oD).run P w' = .ok (.defer { target :=.fn (.func f) cs,args :=#[] }) w' :=by
     unfold execOp
     rw [hD]
     simp only [resolve,hfx,Deferred.ofValue,Sem.run_bind,Sem.run_pure,Result.andThen_ok,Array.map_empty,Array.append_empty]
    unfold Oper.wp
    rw [hrun]
    show Q .normal ({ a' with defers :={ target :=.fn (.func f) cs,args :=#[] } :: a'.defers }.put oD.dst undef) w'
    rw [hdst]
    refine hQ _ _ ?_
    show y.wp P _ { a' with defers :={ target :=.fn (.func f) cs,args :=#[] } :: a'.defers } w'
    let X' : Ctx :=⟨X.w0,X.Z,X.n,X.T,fun i => if H.length ≤ i ∧ i < H.length + cs.size then cs.getD (i - H.length) undef else X.gh i,X.glob,[{ target :=.fn (.func f) cs,args :=#[] }]⟩
    have hdf : a'.defers = [] :=by rw [hrr.defers,hd]
    have t' : TopX X' w0 M0 loc0 H :=⟨t.w0,t.Z,t.T,fun i hi => by show (if _ then _ else _) = _; rw [if_neg (by omega)]; exact t.gh i hi⟩
    have hpr :=cP (X :=X) (st :=s) G a' w' ⟨M,loc,hrr⟩
    obtain ⟨Mp,locp,hp⟩ : ∃ Mp locp,RR X Mp locp s a' w' :=⟨M,loc,hrr⟩
    have hr2 : R X' ⟨ghD H.length cap (prune G s).env,s.heap⟩ { a' with defers :={ target :=.fn (.func f) cs,args :=#[] } :: a'.defers } w' :=by
     have hpe : ∀ k,(prune G s).env k = s.env k ∨ (prune G s).env k = .bad :=fun k => kC s.env G k
     refine ⟨M,loc,fun k => ?_,hrr.nle,hrr.size,by rw [hdf],hrr.obj,hrr.sep,hrr.mobj,hrr.msep,hrr.below,hrr.zone,hrr.zin,hrr.zlt,hrr.one,fun k => ?_⟩
     · show Rep w' M loc (if k < G0 then a'.tmps.getD k undef else if H.length ≤ k - G0 ∧ k - G0 < H.length + cs.size then cs.getD (k - G0 - H.length) undef else X.gh (k - G0)) (ghD H.length cap (prune G s).env k)
       have old : Rep w' M loc (if k < G0 then a'.tmps.getD k undef else X.gh (k - G0)) ((prune G s).env k) :=by
        rcases hpe k with e | e
        · rw [e]; exact hrr.env k
        · rw [e]; exact (RepZ.bad _).rep
       by_cases hk : k < G0
       · rw [if_pos hk,sU hk]
         rw [if_pos hk] at old
         exact old
       · rw [if_neg hk]
         rw [if_neg hk] at old
         obtain ⟨i,rfl⟩ : ∃ i,k = G0 + i :=⟨k - G0,by omega⟩
         rw [Nat.add_sub_cancel_left] at old ⊢
         by_cases hi : H.length ≤ i ∧ i < H.length + cs.size
         · rw [if_pos hi]
           obtain ⟨j,rfl⟩ : ∃ j,i = H.length + j :=⟨i - H.length,by omega⟩
           have hj : j < cap.length :=by omega
           have hjc : j < cs.size :=by omega
           rw [sV cap H.length j cap[j] (List.getElem?_eq_getElem hj),Nat.add_sub_cancel_left,Array.getD_eq_getD_getElem?,Array.getElem?_eq_getElem hjc]
           exact (hc2 j _ _ (Array.getElem?_eq_getElem hjc) (List.getElem?_eq_getElem hj)).rep
         · rw [if_neg hi,pB cap _ _ (by omega)]
           exact old
     · show (ghD H.length cap (prune G s).env k).idLt s.heap.length
       have old : ((prune G s).env k).idLt s.heap.length :=by
        rcases hpe k with e | e
        · rw [e]; exact hrr.ids k
        · rw [e]; trivial
       by_cases hk : k < G0
       · rw [sU hk]; exact old
       · obtain ⟨i,rfl⟩ : ∃ i,k = G0 + i :=⟨k - G0,by omega⟩
         by_cases hi : H.length ≤ i ∧ i < H.length + cap.length
         · obtain ⟨j,rfl⟩ : ∃ j,i = H.length + j :=⟨i - H.length,by omega⟩
           have hj : j < cap.length :=by omega
           rw [sV cap H.length j cap[j] (List.getElem?_eq_getElem hj)]
           exact l9 (fun id hm => hid cap[j] (List.mem_append_right _ (List.getElem_mem hj)) id hm) (List.all_eq_true.1 hfl _ (List.getElem_mem hj))
         · rw [pB cap _ _ (by omega)]; exact old
    have hgh : ∀ j,j < cs.size → X'.gh (H.length + j) = cs.getD j undef :=fun j hj => by
     show (if _ then _ else _) = _
     rw [if_pos (by omega),Nat.add_sub_cancel_left]
    rw [hdf]
    rw [hdf] at hr2
    refine wp_mono (hy X' (by rw [← hX]) _ w' hr2) fun e a3 w3 ⟨st3,hq,hr3⟩ => ?_
    have hd3 : a3.defers = [{ target :=.fn (.func f) cs,args :=#[] }] :=by obtain ⟨_,_,h1⟩ :=hr3; exact h1.defers
    rw [← hl2] at hq
    cases e with
    | normal => exact g7 t' hr3 hd3 hcall (by simp) hgh hq
    | ret => exact g7 t' hr3 hd3 hcall (by simp) hgh hq
    | panic ch => exact g7 t' hr3 hd3 hcall (by simp) hgh hq
    | _ => exact hq.elim
 exact go _ fun _ _ h => h
theorem lP {f : FuncId} {fn : Func} {c : Code} {H H' : List Cell} {args : List AV} {r : AV} (m N : Nat) (rs : List ResultVar) (hf : P.funcs[f]? = some fn) (hb : fn.body = some c) (hN : fn.ntmps = N) (hrs : fn.results.toList = rs) (hn : args.length ≤ N) (hG : N ≤ G0) (hm : H.length = m)
  (h : ∀ X : Ctx,X.n = N → Door P X rs m r H' c ⟨ghE m (argE 0 args),H⟩) : MeansH P f H args r H' :=by
 subst hN; subst hm
 intro w M loc vs hM hgl hH hl hvs
 obtain ⟨X,t,hXn,hd,hrr⟩ :=kN hn hG hM hgl hH hl hvs
 exact calls_of_wp_defers hf hb (h X hXn fn w M loc H hrs rfl t hd _ w hrr)
theorem fM {rs : List ResultVar} {m : Nat} {r : AV} {H' : List Cell} {q : Nat} {f : FuncId} {u u2 : FrameMode} {st : St} (ps : List Nat) {Hl : List Cell} {largs : List AV} {H2 : List Cell} (h : DefH P f Hl largs u u2 H2) (hs : settle u2 = .returning)
  (hc : CallHC st.heap ((List.range q).map fun j => st.env (G0 + (m + j))) ps Hl largs) (hr : retH P rs m r H' .ret ⟨st.env,heapAfter st.heap ps H2⟩) : closeQ P rs m r H' q f u st :=⟨ps,Hl,largs,u2,H2,h,hs,hc,hr⟩
attribute [go_sem] doorN doorQ ghD
end Go.Ab
namespace Go.Ab
open Go.RowKit
variable {P : Program}
def CallPK (P : Program) (f : FuncId) (H : List Cell) (raw : List AV) (qp : Value → Prop) : Prop :=
 ∃ pv ps Hl largs,PanicH P f Hl largs pv ∧ CallHC H raw ps Hl largs ∧ qp pv
theorem pC {P : Program} {f : FuncId} {H H' : List Cell} {raw raw' : List AV} {qp : Value → Prop} (h : H = H') (hr : raw = raw') : CallPK P f H raw qp = CallPK P f H' raw' qp :=by rw [h,hr]
attribute [congr] pC
theorem aL {f : FuncId} {H : List Cell} {raw : List AV} {qp : Value → Prop} (ps : List Nat) {pv : Value} {Hl : List Cell} {largs : List AV} (h : PanicH P f Hl largs pv) (hc : CallHC H raw ps Hl largs) (hk : qp pv) : CallPK P f H raw qp :=⟨pv,ps,Hl,largs,h,hc,hk⟩
def panK (P : Program) (qp : Value → Prop) (s : St) : List Oper → Prop
 | o :: _ => o.guard = none ∧ isCall o.op = true ∧ match tgt (ev s.env) (argsOf o.op).1 with
   | some (f,first,cap) => callable P f = true ∧ CallPK P f s.heap (first ++ (argsOf o.op).2.map (ev s.env) ++ cap) qp
   | none => False
 | [] => False
def panB (ops : Array Oper) (p : Nat) : Bool :=
 let ms :=masks ops.toList []
 (List.range ops.size).all fun j => !(p < j) || (ms.getD j 0).testBit p
def quietT (ts : List TagT) : Bool :=ts.all fun t => !t.e && t.w.isEmpty
theorem wC {ops : Array Oper} {p : Nat} (h : panB ops p = true) {j : Nat} (hj : j < ops.size) (hp : p < j) : Reach ops p j :=by
 unfold panB at h
 have :=List.all_eq_true.1 h j (List.mem_range.2 hj)
 simp only [hp,decide_true,Bool.not_true,Bool.false_or] at this
 exact fV ops.toList [] (fun k _ => by simp) (fun j hj => by simp at hj) j this
def PanS (P : Program) (pv : Value) (o : Oper) (s : St) : Prop :=o.guard = none ∧ ∃ c H2,o.op = .call c ∧ CallPA P s.heap (ev s.env) c pv H2
theorem BG {pv : Value → Prop} {s : St} {l : List Oper} (h : panK P pv s l) : ∃ o l' v,l = o :: l' ∧ pv v ∧ PanS P v o s :=by
 cases l with
 | nil => exact h.elim
 | cons o l' =>
   obtain ⟨hg,hc,h⟩ :=h
   split at h
   · rename_i f first cap ht
     obtain ⟨hcall,v,ps,Hl,largs,h1,h2,h3⟩ :=h
     refine ⟨o,l',v,rfl,h3,hg,?_⟩
     obtain ⟨dst,op,ty,pos,after,guard⟩ :=o
     cases op <;> simp only [isCall] at hc <;> first | cases hc | skip
     rename_i c
     exact ⟨c,_,rfl,f,first,cap,ps,Hl,largs,ht,hcall,h1,h2,rfl⟩
   · exact h.elim
theorem wD {ops : Array Oper} {n L0 : Nat} {x o : Oper} {t : TagT} {st st1 : St} {pv : Value} (hx : StepT P ops n L0 x t st st1) (hq : t.e = false) (hap : x.apart ops o = true) (h : PanS P pv o st1) : PanS P pv o st :=by
 obtain ⟨a1,a2,a3⟩ :=Oper.apart_spec hap
 obtain ⟨r,rfl,_⟩ :=eR hx hq
 obtain ⟨hg,c,H2,hop,f,first,cap,ps,Hl,largs,ht,hcall,h1,h2,h3⟩ :=h
 have hl : ∀ x ∈ (Op.call c).operands,ev st.env x = ev (putE st.env _ r) x :=fun x hx => (fU a1 x (by rw [hop]; exact hx)).symm
 exact ⟨hg,c,H2,hop,f,first,cap,ps,Hl,largs,by rw [gC hl]; exact ht,hcall,h1,by rw [fB hl]; exact h2,h3⟩
theorem qV {ops : Array Oper} {n L0 : Nat} {o : Oper} {sf : St} {pv : Value} : ∀ (A : List (Oper × TagT)) (st : St),RunTX P ops n L0 A st sf → (∀ a ∈ A,a.1.apart ops o = true ∧ a.2.e = false) → PanS P pv o sf → PanS P pv o st
 | [],st,h,_,hp => by
   have h : sf = st :=h
   rw [← h]; exact hp
 | a :: A,st,h,hA,hp => by
   obtain ⟨st1,h1,h2⟩ :=h
   obtain ⟨p1,p2⟩ :=hA a (by simp)
   exact wD h1 p2 p1 (qV A st1 h2 (fun b hb => hA b (by simp [hb])) hp)
theorem z6 {X : Ctx} {ops : Array Oper} {L0 : Nat} {Q : Exit → Act → World → Prop} {T : Nat → TagT} {sf : St} {p : Nat} {op : Oper} {pv : Value} (hq : ∀ s a w,R X s a w → Q (panCh pv) a w) (hp : ops[p]? = some op) (hpan : PanS P pv op sf) (hT : ∀ i,i < p → (T i).e = false ∧ (T i).w = [])
  (hback : ∀ j oj,ops[j]? = some oj → ∀ e ∈ oj.after,Region.binds .any e = true → e.on < j)
  (hind : ∀ i j oi oj,ops[i]? = some oi → ops[j]? = some oj → i < j → Reach ops i j ∨ (oi.apart ops oj = true ∧ True))
  (hbh : ∀ j,j < ops.size → p < j → Reach ops p j) :
  ∀ (fuel : Nat) (listed : Array Bool) (st : St) (a : Act) (w : World),listed.size = ops.size → (leftL ops listed).length = fuel → L0 ≤ st.heap.length →
    (∀ j o,ops[j]? = some o → listed.getD j false = true → ∀ e ∈ o.after,Region.binds .any e = true → listed.getD e.on false = true) → p ∈ leftL ops listed →
    RunTX P ops X.n L0 (((leftL ops listed).filter (· < p)).map fun i => (ops.getD i default,T i)) st sf → R X st a w → wpAny P .any ops Q fuel listed a w :=by
 have hsome : ∀ {listed : Array Bool} {i},i ∈ leftL ops listed → ops[i]? = some (ops.getD i default) ∧ listed.getD i true = false :=by
  intro listed i hi
  simp only [leftL,List.mem_filter,List.mem_range,Bool.not_eq_true'] at hi
  exact ⟨by rw [Array.getD_eq_getD_getElem?,Array.getElem?_eq_getElem hi.1]; rfl,hi.2⟩
 intro fuel
 induction fuel with
 | zero =>
   intro listed st a w hs hl hL0 _ hpl hr hR
   have h0 : leftL ops listed = [] :=List.eq_nil_of_length_eq_zero hl
   rw [h0] at hpl; cases hpl
 | succ fuel ih =>
   intro listed st a w hs hl hL0 hcl hpl hr hR
   obtain ⟨M,loc,hRR⟩ :=hR
   have hb : BndT L0 st :=⟨hRR.ids,hL0⟩
   have unl : ∀ {i k},k ∈ leftL ops listed → Reach ops k i → (∀ o,ops[i]? = some o → ∀ e ∈ o.after,Region.binds .any e = true → listed.getD e.on false = true) → False :=fun {i k} hkl h1 hip => by
    obtain ⟨hok,hlk⟩ :=hsome hkl
    have :=fA hcl h1 hip
    have hk2 : k < listed.size :=by
     simp only [leftL,List.mem_filter,List.mem_range] at hkl; omega
    rw [Array.getD_eq_getD_getElem?,Array.getElem?_eq_getElem hk2] at this hlk
    simp at this hlk
    rw [hlk] at this; cases this
   refine ⟨fun h0 => ?_,fun i hi => ?_⟩
   · exfalso
     cases hL : leftL ops listed with
     | nil => rw [hL] at hl; simp at hl
     | cons k L =>
       have hk : k ∈ leftL ops listed :=by rw [hL]; simp
       have : k ∈ Region.ready .any ops listed :=by
        refine cL.2 ⟨hk,fun o ho e he hbn => ?_⟩
        have hlt :=hback k o ho e he hbn
        have hkk : k < ops.size :=(Array.getElem?_eq_some_iff.1 ho).1
        cases hg : listed.getD e.on false with
        | true => rfl
        | false =>
          exfalso
          have hsz : e.on < listed.size :=by omega
          have hmem : e.on ∈ leftL ops listed :=by
           simp only [leftL,List.mem_filter,List.mem_range,Bool.not_eq_true']
           refine ⟨by omega,?_⟩
           rw [Array.getD_eq_getD_getElem?,Array.getElem?_eq_getElem hsz] at hg ⊢
           exact hg
          have hsort :=cF ops listed
          rw [hL] at hsort hmem
          rcases List.mem_cons.1 hmem with h | h
          · omega
          · have :=(List.pairwise_cons.1 hsort).1 _ h; omega
       rw [h0] at this; cases this
   · obtain ⟨hil,hip⟩ :=cL.1 hi
     obtain ⟨hoi,hli⟩ :=hsome hil
     have apart : ∀ k ∈ leftL ops listed,k < i → (ops.getD k default).apart ops (ops.getD i default) = true :=fun k hkl hki => by
      obtain ⟨hok,hlk⟩ :=hsome hkl
      rcases hind k i _ _ hok hoi hki with h1 | ⟨h1,_⟩
      · exact (unl hkl h1 hip).elim
      · exact h1
     have hisz : i < ops.size :=(Array.getElem?_eq_some_iff.1 hoi).1
     by_cases hpi : i = p
     · subst hpi
       have hop : op = ops.getD i default :=by rw [hp] at hoi; exact Option.some.inj hoi
       have hps : PanS P pv (ops.getD i default) st :=by
        rw [← hop]
        refine qV _ st hr (fun x hx => ?_) hpan
        obtain ⟨k,hk,rfl⟩ :=List.mem_map.1 hx
        simp only [List.mem_filter,decide_eq_true_eq] at hk
        rw [hop]
        exact ⟨apart k hk.1 hk.2,(hT k hk.2).1⟩
       obtain ⟨hg,c,H2,hopc,hc⟩ :=hps
       unfold wpOp
       rw [hoi]
       simp only []
       have hw : Region.wanted (ops.getD i default) (yielded ops a.tmps) = true :=by unfold Region.wanted; rw [hg]
       rw [if_pos hw]
       refine .inl ?_
       obtain ⟨f,vs,h1,h2⟩ :=mP hRR hopc (fun x _ => hRR.ev x) hc
       unfold Oper.wp
       rw [h1]
       refine h2.mono fun e w' hh => ?_
       obtain ⟨rfl,hl⟩ :=hh
       exact hq _ a w' hl
     · have hip2 : i < p :=by
        rcases Nat.lt_or_ge i p with h | h
        · exact h
        · exact (unl hpl (hbh i hisz (by omega)) hip).elim
       obtain ⟨A,B,hAB,hA,hf⟩ :=iG (cF ops listed) hil
       have hfA : A.filter (· < p) = A :=List.filter_eq_self.2 fun k hk => by have :=hA k hk; simp; omega
       rw [hAB,List.filter_append,hfA,List.filter_cons_of_pos (by simpa using hip2),List.map_append,List.map_cons] at hr
       have hbub :=oF (A.map fun i => (ops.getD i default,T i)) st hr hb (fun x hx => by
        obtain ⟨k,hk,rfl⟩ :=List.mem_map.1 hx
        have hkl : k ∈ leftL ops listed :=by rw [hAB]; simp [hk]
        refine ⟨apart k hkl (hA k hk),?_⟩
        have e1 :=hT k (by have :=hA k hk; omega)
        have e2 :=hT i hip2
        simp [noMeetT,e1.1,e1.2,e2.2])
       obtain ⟨st1,h1,h2⟩ :=hbub
       have hL1 :=(h1.bnd hb).2
       unfold wpOp
       rw [hoi]
       simp only []
       have hstep :=pO (Q :=Q) (K :=wpAny P .any ops Q fuel (listed.setIfInBounds i true)) h1 hL0 ⟨M,loc,hRR⟩ (fun a' w' hR' => by
        refine ih (listed.setIfInBounds i true) st1 a' w' (by simpa using hs) ?_ hL1 ?_ ?_ ?_ hR'
        · rw [eG hs hil,hf]
          rw [hAB] at hl
          simp at hl ⊢; omega
        · intro j o hj hlj e he hbn
          have hset : ∀ q,listed.getD q false = true → (listed.setIfInBounds i true).getD q false = true :=fun q hq => by
           by_cases hqi : q = i
           · subst hqi
             have hqs : q < listed.size :=by
              simp only [leftL,List.mem_filter,List.mem_range] at hil; omega
             rw [Array.getD_eq_getD_getElem?,Array.getElem?_setIfInBounds_self_of_lt hqs]; rfl
           · rw [Array.getD_eq_getD_getElem?,Array.getElem?_setIfInBounds_ne (by omega),← Array.getD_eq_getD_getElem?]; exact hq
          by_cases hji : j = i
          · subst hji
            exact hset _ (hip o hj e he hbn)
          · rw [Array.getD_eq_getD_getElem?,Array.getElem?_setIfInBounds_ne (by omega),← Array.getD_eq_getD_getElem?] at hlj
            exact hset _ (hcl j o hj hlj e he hbn)
        · rw [eG hs hil]
          exact List.mem_filter.2 ⟨hpl,by simpa using fun h => hpi h.symm⟩
        · rw [eG hs hil,hf,List.filter_append,hfA,List.map_append]; exact h2)
       by_cases hw : Region.wanted (ops.getD i default) (yielded ops a.tmps) = true
       · rw [if_pos hw] at hstep ⊢
         exact .inl hstep
       · rw [if_neg hw] at hstep ⊢
         exact hstep
theorem gM {X : Ctx} {N : Nat} {Q : Exit → St → Prop} {st : St} {id : Nat} {ops : Array Oper} (p : Nat) (hX : X.n = N) (hm : P.follows .mixedOrders = true) (hd : drawOK ops (fun _ _ _ _ => true) = true) (hb : panB ops p = true)
  (h : runT P ops N st.heap.length (ops.toList.take p) true [] (fun s ts => quietT ts = true ∧ panK P (fun v => ∀ s,Q (panCh v) s) s (ops.toList.drop p)) st) : AWP P X (.region id ops true) Q st :=by
 subst hX
 obtain ⟨ts,sf,h0,h1,hqt,hk⟩ :=oH _ [] st h
 rw [List.nil_append] at hqt
 obtain ⟨op,l',pv,hdr,hqv,hpan⟩ :=BG hk
 intro a w hr
 refine wp_region_any hm ?_
 obtain ⟨hback,hind⟩ :=fW hd
 have hpl : ops.toList[p]? = some op :=by rw [← List.head?_drop,hdr]; rfl
 have hpo : ops[p]? = some op :=by simpa using hpl
 have hps : p < ops.size :=(Array.getElem?_eq_some_iff.1 hpo).1
 have hall : leftL ops (Array.replicate ops.size false) = List.range ops.size :=by
  unfold leftL
  refine List.filter_eq_self.2 fun i hi => ?_
  simp only [List.mem_range] at hi
  rw [Array.getD_eq_getD_getElem?]
  simp [hi]
 have htl : ts.length = p :=by rw [h0,List.length_take,Array.length_toList]; omega
 refine z6 (T :=fun i => ts.getD i default) (sf :=sf) (L0 :=st.heap.length) (p :=p) (op :=op) (pv :=pv) (fun s a' w' hr' => ⟨s,hqv s,hr'⟩) hpo hpan (fun i hi => ?_) hback (fun i j oi oj hi hj hij => (hind i j oi oj hi hj hij).imp (fun h => h) fun h => ⟨h.1,trivial⟩) (fun j hj hpj => wC hb hj hpj) ops.size _ st a _ (by simp) ?_ (Nat.le_refl _) ?_ ?_ ?_ hr.drew
 · have hit : i < ts.length :=by omega
   have :=List.all_eq_true.1 hqt ts[i] (List.getElem_mem hit)
   rw [List.getD_eq_getElem?_getD,List.getElem?_eq_getElem hit]
   simp only [Bool.and_eq_true,Bool.not_eq_true',List.isEmpty_iff] at this
   exact this
 · rw [hall]; simp
 · intro j o hj hl
   rw [Array.getD_eq_getD_getElem?] at hl
   simp [Array.getElem?_replicate] at hl
   split at hl <;> simp at hl
 · rw [hall]; exact List.mem_range.2 hps
 · rw [hall]
   have hfr : (List.range ops.size).filter (· < p) = List.range p :=by
    have : List.range ops.size = List.range p ++ List.range' p (ops.size - p) :=by
     rw [List.range_eq_range',List.range_eq_range']
     have :=@List.range'_append_1 0 p (ops.size - p)
     rw [Nat.zero_add] at this
     rw [this]; congr 1; omega
    rw [this,List.filter_append,List.filter_eq_self.2 fun k hk => by simpa using hk,List.filter_eq_nil_iff.2 fun k hk => by simp [List.mem_range'] at hk ⊢; omega,List.append_nil]
   rw [hfr]
   have : ((List.range p).map fun i => (ops.getD i default,ts.getD i default)) = (ops.toList.take p).zip ts :=by
    apply List.ext_getElem?
    intro k
    by_cases hk : k < p
    · have hkt : k < ts.length :=by omega
      have hko : k < ops.size :=by omega
      simp [List.getElem?_range hk,hk,hkt,hko,Array.getD_eq_getD_getElem?,List.getD_eq_getElem?_getD,List.getElem?_zipWith,List.zip,List.getElem?_take]
    · have hkt : ¬ k < ts.length :=by omega
      simp [hk,List.zip,List.getElem?_zipWith,List.getElem?_take]
   rw [this]; exact h1
@[go_sem] theorem outQ_no (P : Program) (rs : List ResultVar) (m : Nat) (v : Value) : outQ P rs m (.inl v) = panQ v :=rfl
@[go_sem] theorem outQ_ok (P : Program) (rs : List ResultVar) (m : Nat) (r : AV) (H : List Cell) : outQ P rs m (.inr (r,H)) = retH P rs m r H :=rfl
attribute [go_sem] panK quietT
end Go.Ab

namespace Go.Proofs.YtaolljbpencjnaaGreatDoor
abbrev By :=List UInt8
def isBlank (c : UInt8) : Bool :=c == 32 || c == 9 || c == 10
def isLetter (c : UInt8) : Bool :=decide (97 ≤ c.toNat) && decide (c.toNat ≤ 122)
def isDigit (c : UInt8) : Bool :=decide (48 ≤ c.toNat) && decide (c.toNat ≤ 57)
def isAl (c : UInt8) : Bool :=isLetter c || isDigit c
def isSign1 (c : UInt8) : Bool :=[59,44,61,60,43,45,42,47,40,41].contains c
def isWord (l : By) : Bool :=match l with
 | [] => false
 | c :: _ => isLetter c && decide (l.length ≤ 20) && l.all isAl
def numVal (l : By) : Nat :=l.foldl (fun n c => 10 * n + (c.toNat - 48)) 0
def isNum (l : By) : Bool :=!l.isEmpty && l.all isDigit && (l.head? != some 48 || l == [48]) && decide (l.length ≤ 13) && decide (numVal l ≤ 1099511627776)
structure Tk where
 kind : Int
 text : By
 n : Int
 pos : Int
 deriving DecidableEq
inductive Tok where
 | err (e : Int)
 | ok (k : Int) (t : By) (n : Int)
 deriving DecidableEq
def tok (l : By) : Tok :=match l with
 | [] => .err 11
 | c :: r =>
   if isLetter c then (if ((c :: r).takeWhile isAl).length ≤ 20 then .ok 1 ((c :: r).takeWhile isAl) 0 else .err 13)
   else if isDigit c then (if isNum ((c :: r).takeWhile isDigit) then .ok 2 ((c :: r).takeWhile isDigit) (numVal ((c :: r).takeWhile isDigit)) else .err 3)
   else if c == 61 && r.head? == some 61 then .ok 3 [61,61] 0
   else if isSign1 c then .ok 3 [c] 0 else .err 11
inductive Lx where
 | err (at_ : Nat) (e : Int)
 | ok (l : List Tk)
 deriving DecidableEq
def Lx.cons (x : Tk) : Lx → Lx
 | .ok l => .ok (x :: l)
 | .err i e => .err i e
def lexF : Nat → By → Nat → Lx
 | _,[],p => .ok [⟨0,[],0,p⟩]
 | 0,_,p => .ok [⟨0,[],0,p⟩]
 | k + 1,c :: r,p => if isBlank c then lexF k r (p + 1) else match tok (c :: r) with
   | .err e => .err p e
   | .ok kd t n => Lx.cons ⟨kd,t,n,p⟩ (lexF k ((c :: r).drop t.length) (p + t.length))
def lexA (l : By) (p : Nat) : Lx :=lexF l.length l p
theorem iA (f : UInt8 → Bool) : ∀ l : By,l.takeWhile f = l.take (l.takeWhile f).length
 | [] => rfl
 | c :: l => by
   simp only [List.takeWhile_cons]
   split
   · simp only [List.length_cons,List.take_succ_cons]; rw [← iA f l]
   · rfl
theorem lR (f : UInt8 → Bool) (l : By) : (l.takeWhile f).length ≤ l.length :=by
 rw [iA,List.length_take]; exact Nat.min_le_right _ _
theorem uG (f : UInt8 → Bool) : ∀ (l : By) (m : Nat),(l.takeWhile f).length ≤ m → (l.take m).takeWhile f = l.takeWhile f
 | [],m,_ => by simp
 | c :: l,0,h => by
   simp only [List.takeWhile_cons] at h ⊢
   split at h
   · simp at h
   · rename_i hc; simp [hc]
 | c :: l,m + 1,h => by
   simp only [List.take_succ_cons,List.takeWhile_cons] at h ⊢
   split
   · rename_i hc
     rw [if_pos hc] at h
     rw [uG f l m (by simpa using h)]
   · rfl
theorem z7 (f : UInt8 → Bool) (l : By) (h : l.all f = true) : l.takeWhile f = l :=by
 induction l with
 | nil => rfl
 | cons c l ih =>
   simp only [List.all_cons,Bool.and_eq_true] at h
   simp only [List.takeWhile_cons,h.1,if_true]
   rw [ih h.2]
theorem z8 (f : UInt8 → Bool) (l : By) : (l.takeWhile f).all f = true :=by
 induction l with
 | nil => rfl
 | cons c l ih =>
   simp only [List.takeWhile_cons]
   split
   · rename_i h; simp only [List.all_cons,h,ih,Bool.and_self]
   · rfl
theorem dG {l : By} {k : Int} {t : By} {n : Int} (h : tok l = .ok k t n) : 0 < t.length ∧ t.length ≤ l.length ∧ t = l.take t.length :=by
 unfold tok at h
 split at h
 · cases h
 · rename_i c r
   split at h
   · rename_i hc
     split at h
     · simp only [Tok.ok.injEq] at h
       obtain ⟨rfl,rfl,rfl⟩ :=h
       refine ⟨?_,lR _ _,iA _ _⟩
       simp [List.takeWhile_cons,isAl,hc]
     · cases h
   · split at h
     · rename_i hc
       split at h
       · simp only [Tok.ok.injEq] at h
         obtain ⟨rfl,rfl,rfl⟩ :=h
         refine ⟨?_,lR _ _,iA _ _⟩
         simp [List.takeWhile_cons,hc]
       · cases h
     · split at h
       · rename_i h2
         simp only [Tok.ok.injEq] at h
         obtain ⟨rfl,rfl,rfl⟩ :=h
         simp only [Bool.and_eq_true,beq_iff_eq] at h2
         obtain ⟨rfl,h2⟩ :=h2
         cases r with
         | nil => simp at h2
         | cons d r => simp at h2; subst h2; simp
       · split at h
         · simp only [Tok.ok.injEq] at h
           obtain ⟨rfl,rfl,rfl⟩ :=h
           simp
         · cases h
theorem zA (k p : Nat) : lexF k [] p = .ok [⟨0,[],0,p⟩] :=by cases k <;> rfl
theorem gN : ∀ (k : Nat) (l : By) (p : Nat),l.length ≤ k → lexF k l p = lexA l p
 | k,[],p,_ => by rw [zA]; rfl
 | 0,c :: l,p,h => by simp at h
 | k + 1,c :: l,p,h => by
   simp only [List.length_cons,Nat.add_le_add_iff_right] at h
   show _ = lexF (l.length + 1) (c :: l) p
   simp only [lexF]
   split
   · rw [gN k l _ h]; rfl
   · split
     · rfl
     · rename_i kd t n ht
       obtain ⟨h1,h2,_⟩ :=dG ht
       simp only [List.length_cons] at h2
       rw [gN k _ _ (by simp; omega),gN l.length _ _ (by simp; omega)]
termination_by k => k
theorem eZ (p : Nat) : lexA [] p = .ok [⟨0,[],0,p⟩] :=rfl
theorem dN {c : UInt8} (h : isBlank c = true) (l : By) (p : Nat) : lexA (c :: l) p = lexA l (p + 1) :=by
 show lexF (l.length + 1) (c :: l) p = _
 simp only [lexF,h,if_true]; rfl
theorem f9 {c : UInt8} {l : By} (h : isBlank c = false) {e : Int} (ht : tok (c :: l) = .err e) (p : Nat) : lexA (c :: l) p = .err p e :=by
 show lexF (l.length + 1) (c :: l) p = _
 simp [lexF,h,ht]
theorem gO {c : UInt8} {l : By} (h : isBlank c = false) {k : Int} {t : By} {n : Int} (ht : tok (c :: l) = .ok k t n) (p : Nat) :
  lexA (c :: l) p = Lx.cons ⟨k,t,n,p⟩ (lexA ((c :: l).drop t.length) (p + t.length)) :=by
 show lexF (l.length + 1) (c :: l) p = _
 obtain ⟨h1,h2,_⟩ :=dG ht
 simp only [List.length_cons] at h2
 simp only [lexF,h,ht,Bool.false_eq_true,if_false]
 rw [gN _ _ _ (by simp; omega)]
theorem kJ {motive : By → Prop} (h0 : motive []) (h1 : ∀ c l,isBlank c = true → motive l → motive (c :: l)) (h2 : ∀ c l e,isBlank c = false → tok (c :: l) = .err e → motive (c :: l))
  (h3 : ∀ c l k t n,isBlank c = false → tok (c :: l) = .ok k t n → motive ((c :: l).drop t.length) → motive (c :: l)) (l : By) : motive l :=by
 have : ∀ n (l : By),l.length ≤ n → motive l :=by
  intro n
  induction n with
  | zero => intro l hl; cases l with
    | nil => exact h0
    | cons c l => simp at hl
  | succ n ih =>
    intro l hl
    cases l with
    | nil => exact h0
    | cons c l =>
      simp only [List.length_cons,Nat.add_le_add_iff_right] at hl
      cases hb : isBlank c with
      | true => exact h1 c l hb (ih l hl)
      | false =>
        cases ht : tok (c :: l) with
        | err e => exact h2 c l e hb ht
        | ok k t m =>
          obtain ⟨q1,q2,_⟩ :=dG ht
          simp only [List.length_cons] at q2
          exact h3 c l k t m hb ht (ih _ (by simp; omega))
 exact this _ l (Nat.le_refl _)
theorem qW {l : By} {k : Int} {t : By} {n : Int} (h : tok l = .ok k t n) {m : Nat} (hm : t.length ≤ m) : tok (l.take m) = .ok k t n :=by
 obtain ⟨q1,q2,q3⟩ :=dG h
 cases l with
 | nil => simp at q2; simp [q2] at q1
 | cons c r =>
   obtain ⟨m,rfl⟩ : ∃ j,m = j + 1 :=⟨m - 1,by omega⟩
   unfold tok at h ⊢
   simp only [List.take_succ_cons]
   have fix : ∀ f : UInt8 → Bool,((c :: r).takeWhile f).length ≤ m + 1 → (c :: r.take m).takeWhile f = (c :: r).takeWhile f :=fun f hf => by
    have :=uG f (c :: r) (m + 1) hf
    rwa [List.take_succ_cons] at this
   simp only [] at h
   by_cases hl : isLetter c = true
   · simp only [hl,if_true] at h ⊢
     split at h
     · simp only [Tok.ok.injEq] at h
       obtain ⟨rfl,rfl,rfl⟩ :=h
       rename_i h20
       rw [fix isAl hm,if_pos h20]
     · cases h
   · simp only [hl,Bool.false_eq_true,if_false] at h ⊢
     by_cases hd : isDigit c = true
     · simp only [hd,if_true] at h ⊢
       split at h
       · simp only [Tok.ok.injEq] at h
         obtain ⟨rfl,rfl,rfl⟩ :=h
         rename_i h20
         rw [fix isDigit hm,if_pos h20]
       · cases h
     · simp only [hd,Bool.false_eq_true,if_false] at h ⊢
       by_cases h2 : (c == 61 && r.head? == some 61) = true
       · simp only [h2,if_true,Tok.ok.injEq] at h ⊢
         obtain ⟨rfl,rfl,rfl⟩ :=h
         simp only [List.length_cons,List.length_nil] at hm
         obtain ⟨m,rfl⟩ : ∃ j,m = j + 1 :=⟨m - 1,by omega⟩
         simp only [Bool.and_eq_true,beq_iff_eq] at h2
         obtain ⟨rfl,h2⟩ :=h2
         cases r with
         | nil => simp at h2
         | cons d r => simp at h2; subst h2; simp
       · simp only [h2,Bool.false_eq_true,if_false] at h ⊢
         have h3 : ¬ (c == 61 && (r.take m).head? == some 61) = true :=by
          intro h3
          apply h2
          simp only [Bool.and_eq_true,beq_iff_eq] at h3 ⊢
          refine ⟨h3.1,?_⟩
          cases r with
          | nil => simpa using h3.2
          | cons d r =>
            cases m with
            | zero => simp at h3
            | succ m => simpa using h3.2
         rw [if_neg h3]
         exact h
theorem zB {l : By} {k : Int} {t : By} {n : Int} (h : tok l = .ok k t n) : tok t = .ok k t n :=by
 have :=qW h (Nat.le_refl _)
 rwa [← (dG h).2.2] at this
def Tk.shift (q : Nat) (x : Tk) : Tk :={ x with pos :=x.pos + q }
def Lx.shift (q : Nat) : Lx → Lx
 | .err i e => .err (i + q) e
 | .ok ts => .ok (ts.map (Tk.shift q))
theorem qX {c : UInt8} {l : By} {e : Int} (h : tok (c :: l) = .err e) : e = 11 ∨ e = 13 ∨ e = 3 :=by
 unfold tok at h
 simp only [] at h
 split at h
 · split at h <;> cases h; simp
 · split at h
   · split at h <;> cases h; simp
   · split at h
     · cases h
     · split at h <;> cases h; simp
theorem nM (l : By) : ∀ {p i : Nat} {e : Int},lexA l p = .err i e → p ≤ i ∧ i - p < l.length ∧ (e = 11 ∨ e = 13 ∨ e = 3) ∧ (∃ ts,lexA (l.take (i - p)) p = .ok ts) ∧ ∀ q,lexA (l.drop (i - p)) q = .err q e :=by
 induction l using kJ with
 | h0 => intro p i e h; rw [eZ] at h; cases h
 | h1 c l hb ih =>
   intro p i e h
   rw [dN hb] at h
   obtain ⟨h1,h2,h3,⟨ts,h4⟩,h5⟩ :=ih h
   refine ⟨by omega,by simp; omega,h3,⟨ts,?_⟩,?_⟩
   · rw [show i - p = (i - (p + 1)) + 1 by omega,List.take_succ_cons,dN hb]; exact h4
   · rw [show i - p = (i - (p + 1)) + 1 by omega,List.drop_succ_cons]; exact h5
 | h2 c l e hb ht =>
   intro p i e' h
   rw [f9 hb ht] at h
   simp only [Lx.err.injEq] at h
   obtain ⟨rfl,rfl⟩ :=h
   refine ⟨Nat.le_refl _,by simp,qX ht,⟨_,by rw [Nat.sub_self]; exact eZ _⟩,fun q => ?_⟩
   rw [Nat.sub_self]
   exact f9 hb ht q
 | h3 c l k t n hb ht ih =>
   intro p i e h
   obtain ⟨q1,q2,q3⟩ :=dG ht
   rw [gO hb ht] at h
   cases hx : lexA ((c :: l).drop t.length) (p + t.length) with
   | ok us => rw [hx] at h; cases h
   | err i' e' =>
     rw [hx] at h
     simp only [Lx.cons,Lx.err.injEq] at h
     obtain ⟨rfl,rfl⟩ :=h
     obtain ⟨h1,h2,h3,⟨ts,h4⟩,h5⟩ :=ih hx
     rw [List.length_drop] at h2
     refine ⟨by omega,by omega,h3,⟨Tk.mk k t n p :: ts,?_⟩,?_⟩
     · have e1 : i' - p = t.length + (i' - (p + t.length)) :=by omega
       have ht' :=qW ht (m :=i' - p) (by omega)
       obtain ⟨j,hj⟩ : ∃ j,i' - p = j + 1 :=⟨i' - p - 1,by omega⟩
       rw [hj,List.take_succ_cons] at ht' ⊢
       rw [gO hb ht',← List.take_succ_cons,← hj,List.drop_take,show i' - p - t.length = i' - (p + t.length) by omega,h4]
       rfl
     · intro q
       have :=h5 q
       rw [List.drop_drop] at this
       rwa [show t.length + (i' - (p + t.length)) = i' - p by omega] at this
theorem zC {c : UInt8} {l : By} {k : Int} {t : By} {n : Int} (h : tok (c :: l) = .ok k t n) : t.head? = some c :=by
 obtain ⟨q1,q2,q3⟩ :=dG h
 rw [q3]
 obtain ⟨j,hj⟩ : ∃ j,t.length = j + 1 :=⟨t.length - 1,by omega⟩
 rw [hj]; rfl
def Vt (x : Tk) : Prop :=tok x.text = .ok x.kind x.text x.n ∧ ∀ c,x.text.head? = some c → isBlank c = false
theorem BH (l : By) : ∀ {p : Nat} {ts : List Tk},lexA l p = .ok ts → ∃ us q,ts = us ++ [⟨0,[],0,q⟩] ∧ ∀ x ∈ us,Vt x :=by
 induction l using kJ with
 | h0 => intro p ts h; rw [eZ] at h; cases h; exact ⟨[],p,rfl,by simp⟩
 | h1 c l hb ih => intro p ts h; rw [dN hb] at h; exact ih h
 | h2 c l e hb ht => intro p ts h; rw [f9 hb ht] at h; cases h
 | h3 c l k t n hb ht ih =>
   intro p ts h; rw [gO hb ht] at h
   cases hx : lexA ((c :: l).drop t.length) (p + t.length) with
   | err i e => rw [hx] at h; cases h
   | ok vs =>
     rw [hx] at h; cases h
     obtain ⟨us,q,rfl,hu⟩ :=ih hx
     refine ⟨⟨k,t,n,p⟩ :: us,q,rfl,fun x hx => ?_⟩
     rcases List.mem_cons.1 hx with rfl | hx
     · refine ⟨zB ht,fun d hd => ?_⟩
       have : t.head? = some d :=hd
       rw [zC ht] at this
       cases this; exact hb
     · exact hu x hx
theorem BI {x : Tk} (h : Vt x) : x.kind ≠ 0 ∧ x.text ≠ [] ∧ (x.kind ≠ 2 → x.n = 0) ∧ (x.kind = 1 ∨ x.kind = 2 ∨ x.kind = 3) :=by
 obtain ⟨h1,h2⟩ :=h
 have hl :=(dG h1).1
 cases ht : x.text with
 | nil => rw [ht] at hl; simp at hl
 | cons c r =>
   rw [ht] at h1
   unfold tok at h1
   simp only [] at h1
   split at h1
   · split at h1
     · simp only [Tok.ok.injEq] at h1; obtain ⟨e1,_,e3⟩ :=h1; simp [← e1,← e3]
     · cases h1
   · split at h1
     · split at h1
       · simp only [Tok.ok.injEq] at h1; obtain ⟨e1,_,e3⟩ :=h1; simp [← e1]
       · cases h1
     · split at h1
       · simp only [Tok.ok.injEq] at h1; obtain ⟨e1,_,e3⟩ :=h1; simp [← e1,← e3]
       · split at h1
         · simp only [Tok.ok.injEq] at h1; obtain ⟨e1,_,e3⟩ :=h1; simp [← e1,← e3]
         · cases h1
structure Placed (s : By) (ts : List Tk) (e : Nat) : Prop where
 pos : ∀ (i : Nat) (x : Tk),ts[i]? = some x → ∃ a : Nat,x.pos = (a : Int) ∧ a + x.text.length ≤ s.length ∧ (s.drop a).take x.text.length = x.text ∧ (x.text = [] ↔ i + 1 = ts.length) ∧ (x.kind = 0 ↔ i + 1 = ts.length) ∧ (x.kind ≠ 2 → x.n = 0) ∧
  ∃ b : Nat,(match i with | 0 => b = e | i + 1 => ∃ y : Tk,ts[i]? = some y ∧ (b : Int) = y.pos + y.text.length) ∧ b ≤ a ∧ ∀ j,b ≤ j → j < a → ∃ c,s[j]? = some c ∧ isBlank c = true
 last : ∀ x : Tk,ts[ts.length - 1]? = some x → x.pos = (s.length : Int)
theorem BJ {l : By} {n : Int} (h : tok l = .ok 2 l n) : isNum l = true ∧ n = numVal l :=by
 cases l with
 | nil => simp [tok] at h
 | cons c r =>
   unfold tok at h
   simp only [] at h
   split at h
   · split at h <;> simp at h
   · split at h
     · split at h
       · rename_i hn
         simp only [Tok.ok.injEq] at h
         obtain ⟨_,h1,h2⟩ :=h
         rw [h1] at hn h2
         exact ⟨hn,h2.symm⟩
       · cases h
     · split at h
       · simp at h
       · split at h <;> simp at h
theorem sX (a : By) (c : UInt8) : numVal (a ++ [c]) = 10 * numVal a + (c.toNat - 48) :=by simp [numVal,List.foldl_append]
end Go.Proofs.YtaolljbpencjnaaGreatDoor

namespace Go.Proofs.YtaolljbpencjnaaGreatDoor
inductive E where
 | num (n u : Int)
 | nam (s : By)
 | un (a : E)
 | bin (op : Int) (a b : E)
 | ite (a b c : E)
 deriving DecidableEq
def E.lev : E → Nat
 | .num _ _ | .nam _ => 1
 | .un a => a.lev + 1
 | .bin _ a b => max a.lev b.lev + 1
 | .ite a b c => max (max a.lev b.lev) c.lev + 1
inductive Pr (α : Type) where
 | ok (x : α) (i : Nat)
 | no (p e : Int)
 deriving DecidableEq
def Pr.bind {α β : Type} (r : Pr α) (f : α → Nat → Pr β) : Pr β :=match r with
 | .ok x i => f x i
 | .no p e => .no p e
theorem Pr.bind_ok {α β : Type} (x : α) (i : Nat) (f : α → Nat → Pr β) : (Pr.ok x i).bind f = f x i :=rfl
theorem Pr.bind_no {α β : Type} (p e : Int) (f : α → Nat → Pr β) : (Pr.no p e).bind f = .no p e :=rfl
def endT : Tk :=⟨0,[],0,0⟩
def nx (ts : List Tk) (i : Nat) : Tk :=ts.getD i endT
def isT (ts : List Tk) (s : By) (i : Nat) : Bool :=decide ((nx ts i).kind ≠ 0) && decide ((nx ts i).text = s)
def chk {α : Type} (ts : List Tk) (b : Bool) (e : Int) (i : Nat) (r : Pr α) : Pr α :=if b then r else .no (nx ts i).pos e
structure OkT (ts : List Tk) : Prop where
 len : ts.length ≤ 5000
 last : ∀ i,i < ts.length → (nx ts i).kind ≠ 0 → i + 1 < ts.length
 txt : ∀ x ∈ ts,x.text.length ≤ 2000
 num : ∀ x ∈ ts,0 ≤ x.n ∧ x.n ≤ 1099511627776
theorem OkT.num' {ts : List Tk} (h : OkT ts) (i : Nat) : 0 ≤ (nx ts i).n ∧ (nx ts i).n ≤ 1099511627776 :=by
 unfold nx
 rw [List.getD_eq_getElem?_getD]
 cases hx : ts[i]? with
 | none => simp [endT]
 | some x => exact h.num x (List.mem_of_getElem? hx)
theorem OkT.txt' {ts : List Tk} (h : OkT ts) (i : Nat) : (nx ts i).text.length ≤ 2000 :=by
 unfold nx
 rw [List.getD_eq_getElem?_getD]
 cases hx : ts[i]? with
 | none => exact Nat.zero_le _
 | some x => exact h.txt x (List.mem_of_getElem? hx)
theorem OkT.has {ts : List Tk} (h : OkT ts) {s : By} {i : Nat} (hi : i < ts.length) (hs : isT ts s i = true) : i + 1 < ts.length :=by
 simp only [isT,Bool.and_eq_true,decide_eq_true_eq] at hs
 exact h.last i hi hs.1
def hasT (ts : List Tk) (s : By) (i : Nat) : Nat :=if isT ts s i then i + 1 else i
theorem u9 {ts : List Tk} (h : OkT ts) {s : By} {i : Nat} (hi : i < ts.length) : i ≤ hasT ts s i ∧ hasT ts s i < ts.length :=by
 unfold hasT
 split
 · rename_i hs; exact ⟨by omega,h.has hi hs⟩
 · exact ⟨Nat.le_refl _,hi⟩
def wantT (ts : List Tk) : List By → Nat → Pr Unit
 | [],i => .ok () i
 | s :: l,i => if isT ts s i then wantT ts l (i + 1) else .no (nx ts i).pos 12
theorem bG {ts : List Tk} (h : OkT ts) : ∀ {l : List By} {i j : Nat},i < ts.length → wantT ts l i = .ok () j → i + l.length = j ∧ j < ts.length
 | [],i,j,hi,hw => by simp only [wantT,Pr.ok.injEq] at hw; obtain ⟨_,rfl⟩ :=hw; exact ⟨rfl,hi⟩
 | s :: l,i,j,hi,hw => by
   unfold wantT at hw
   split at hw
   · rename_i hs
     have :=bG h (h.has hi hs) hw
     simp only [List.length_cons]; omega
   · cases hw
def numberT (ts : List Tk) (iO most : Int) (i : Nat) : Pr Int :=
 if (nx ts i).kind = 2 then (if iO ≤ (nx ts i).n ∧ (nx ts i).n ≤ most then .ok (nx ts i).n (i + 1) else .no (nx ts i).pos 3) else .no (nx ts i).pos 12
theorem lL {ts : List Tk} (h : OkT ts) {a b : Int} {i j : Nat} {n : Int} (hi : i < ts.length) (hw : numberT ts a b i = .ok n j) : j = i + 1 ∧ j < ts.length ∧ a ≤ n ∧ n ≤ b :=by
 unfold numberT at hw
 split at hw
 · rename_i hk
   split at hw
   · rename_i hn
     simp only [Pr.ok.injEq] at hw
     obtain ⟨rfl,rfl⟩ :=hw
     exact ⟨rfl,h.last i hi (by rw [hk]; decide),hn⟩
   · cases hw
 · cases hw
def partT (ts : List Tk) (word : By) (iO most : Int) (behind : List By) (i : Nat) : Pr Int :=
 if isT ts word i then (numberT ts iO most (i + 1)).bind fun n j => (wantT ts behind j).bind fun _ k => .ok n k else .ok 0 i
theorem dT {ts : List Tk} (h : OkT ts) {word : By} {a b : Int} {l : List By} {i j : Nat} {n : Int} (hi : i < ts.length) (hw : partT ts word a b l i = .ok n j) : i ≤ j ∧ j < ts.length ∧ (n = 0 ∧ isT ts word i = false ∨ a ≤ n ∧ n ≤ b) :=by
 unfold partT at hw
 split at hw
 · rename_i hs
   have h1 :=h.has hi hs
   cases hn : numberT ts a b (i + 1) with
   | no p e => rw [hn] at hw; cases hw
   | ok m k =>
     rw [hn,Pr.bind_ok] at hw
     obtain ⟨rfl,h2,h3⟩ :=lL h h1 hn
     cases hv : wantT ts l (i + 1 + 1) with
     | no p e => rw [hv] at hw; cases hw
     | ok u q =>
       rw [hv,Pr.bind_ok] at hw
       simp only [Pr.ok.injEq] at hw
       obtain ⟨rfl,rfl⟩ :=hw
       have :=bG h h2 hv
       exact ⟨by omega,this.2,.inr h3⟩
 · rename_i hs
   simp only [Pr.ok.injEq] at hw
   obtain ⟨rfl,rfl⟩ :=hw
   exact ⟨Nat.le_refl _,hi,.inl ⟨rfl,by simpa using hs⟩⟩
def unitT (ts : List Tk) (i : Nat) : Pr Int :=
 if isT ts [99,111,105,110,115] i then .ok 3 (i + 1) else if isT ts [100,97,121,115] i then .ok 2 (i + 1)
 else if isT ts [112,101,114] i then (wantT ts [[109,105,108,108,101]] (i + 1)).bind fun _ j => .ok 4 j else .ok 1 i
theorem qY {ts : List Tk} (h : OkT ts) {i j : Nat} {n : Int} (hi : i < ts.length) (hw : unitT ts i = .ok n j) : i ≤ j ∧ j < ts.length :=by
 unfold unitT at hw
 split at hw
 · rename_i hs; simp only [Pr.ok.injEq] at hw; obtain ⟨_,rfl⟩ :=hw; exact ⟨by omega,h.has hi hs⟩
 · split at hw
   · rename_i hs; simp only [Pr.ok.injEq] at hw; obtain ⟨_,rfl⟩ :=hw; exact ⟨by omega,h.has hi hs⟩
   · split at hw
     · rename_i hs
       cases hv : wantT ts [[109,105,108,108,101]] (i + 1) with
       | no p e => rw [hv] at hw; cases hw
       | ok u q =>
         rw [hv,Pr.bind_ok] at hw
         simp only [Pr.ok.injEq] at hw
         obtain ⟨rfl,rfl⟩ :=hw
         have :=bG h (h.has hi hs) hv
         exact ⟨by omega,this.2⟩
     · simp only [Pr.ok.injEq] at hw; obtain ⟨_,rfl⟩ :=hw; exact ⟨Nat.le_refl _,hi⟩
def reservedL : List By :=[[97,110,100],[98,97,99,107,115],[98,105,100,100,105,110,103],[99,105,114,99,108,101],[99,111,105,110,115],[99,111,118,101,114],[100,97,121,115],[100,114,97,119],[100,117,101],[101,108,115,101],[102,97,108,115,101],[102,105,110,101],[102,117,110,100],[103,114,97,99,101],[104,111,108,100],[105,102],[106,111,105,110],[106,117,114,121],[108,101,116],[109,97,120],[109,105,108,108,101],[109,105,110],[110,101,101,100],[110,111,116],[111,114],[111,114,100,101,114],[112,97,121],[112,101,114],[114,111,116,97,116,105,110,103],[115,97,118,105,110,103],[115,101,97,108,101,100],[116,104,101,110],[116,114,117,101],[118,111,105,99,101,115],[119,97,105,116]]
def nameOk (s : By) : Bool :=isWord s && !decide (s ∈ reservedL)
structure Opr where
 text : By
 op : Int
 form : Int
def opTab : List Opr :=[⟨[111,114],11,1⟩,⟨[97,110,100],10,2⟩,⟨[61,61],9,4⟩,⟨[60],8,4⟩,⟨[43],2,5⟩,⟨[45],3,5⟩,⟨[42],4,6⟩,⟨[47],5,6⟩]
def opAt (ts : List Tk) (i : Nat) : Option Opr :=opTab.find? fun o => isT ts o.text i
mutual
def expF : Nat → List Tk → Int → Nat → Pr E
 | 0,_,_,_ => .no 0 99
 | f + 1,ts,form,i => (prefixF f ts form i).bind fun x j => loopF f ts form x.1 x.2 j
def loopF : Nat → List Tk → Int → E → Int → Nat → Pr E
 | 0,_,_,_,_,_ => .no 0 99
 | f + 1,ts,form,e,own,i => match opAt ts i with
   | none => .ok e i
   | some o => if o.form < form ∨ own < o.form ∨ (own = 4 ∧ o.form = 4) then .ok e i else
     (expF f ts (o.form + 1) (i + 1)).bind fun x j => loopF f ts form (.bin o.op e x) o.form j
def prefixF : Nat → List Tk → Int → Nat → Pr (E × Int)
 | 0,_,_,_ => .no 0 99
 | f + 1,ts,form,i =>
   if form = 0 ∧ isT ts [105,102] i = true then
    (expF f ts 0 (i + 1)).bind fun a j => (wantT ts [[116,104,101,110]] j).bind fun _ j => (expF f ts 0 j).bind fun b j => (wantT ts [[101,108,115,101]] j).bind fun _ j => (expF f ts 0 j).bind fun c j => .ok (.ite a b c,0) j
   else if form ≤ 3 ∧ isT ts [110,111,116] i = true then (expF f ts 3 (i + 1)).bind fun a j => .ok (.un a,3) j
   else (primaryF f ts i).bind fun e j => .ok (e,7) j
def primaryF : Nat → List Tk → Nat → Pr E
 | 0,_,_ => .no 0 99
 | f + 1,ts,i =>
   if (nx ts i).kind = 2 then (unitT ts (i + 1)).bind fun u j => .ok (.num (nx ts i).n u) j
   else if isT ts [116,114,117,101] i then .ok (.num 1 0) (i + 1)
   else if isT ts [102,97,108,115,101] i then .ok (.num 0 0) (i + 1)
   else if isT ts [109,105,110] i || isT ts [109,97,120] i then
    (wantT ts [[40]] (i + 1)).bind fun _ j => (expF f ts 0 j).bind fun a j => (wantT ts [[44]] j).bind fun _ j => (expF f ts 0 j).bind fun b j => (wantT ts [[41]] j).bind fun _ j => .ok (.bin (if isT ts [109,97,120] i then 7 else 6) a b) j
   else if isT ts [40] i then (expF f ts 0 (i + 1)).bind fun e j => (wantT ts [[41]] j).bind fun _ j => .ok e j
   else if (nx ts i).kind = 1 ∧ nameOk (nx ts i).text = true then .ok (.nam (nx ts i).text) (i + 1)
   else .no (nx ts i).pos 12
end
theorem aR {α β : Type} {r : Pr α} {f : α → Nat → Pr β} {y : β} {k : Nat} (h : r.bind f = .ok y k) : ∃ x j,r = .ok x j ∧ f x j = .ok y k :=by
 cases r with
 | ok x j => exact ⟨x,j,rfl,h⟩
 | no p e => cases h
theorem uH {ts : List Tk} {i : Nat} {o : Opr} (h : opAt ts i = some o) : isT ts o.text i = true :=by
 unfold opAt at h
 have :=List.find?_some h
 exact this
theorem g6 {ts : List Tk} (h : OkT ts) : ∀ f : Nat,(∀ form i e j,i < ts.length → expF f ts form i = .ok e j → i < j ∧ j < ts.length) ∧ (∀ form e own i x j,i < ts.length → loopF f ts form e own i = .ok x j → i ≤ j ∧ j < ts.length) ∧
  (∀ form i x j,i < ts.length → prefixF f ts form i = .ok x j → i < j ∧ j < ts.length) ∧ (∀ i e j,i < ts.length → primaryF f ts i = .ok e j → i < j ∧ j < ts.length)
 | 0 => by refine ⟨?_,?_,?_,?_⟩ <;> intros <;> simp [expF,loopF,prefixF,primaryF] at *
 | f + 1 => by
   obtain ⟨hE,hL,hP,hQ⟩ :=g6 h f
   have one : ∀ {s : By} {i j : Nat},i < ts.length → wantT ts [s] i = .ok () j → i < j ∧ j < ts.length :=fun hi hw => by have :=bG h hi hw; simp at this; omega
   refine ⟨fun form i e j hi he => ?_,fun form e own i x j hi he => ?_,fun form i x j hi he => ?_,fun i e j hi he => ?_⟩
   · rw [expF] at he
     obtain ⟨x,k,h1,h2⟩ :=aR he
     have a1 :=hP _ _ _ _ hi h1
     have a2 :=hL _ _ _ _ _ _ a1.2 h2
     omega
   · rw [loopF] at he
     split at he
     · simp only [Pr.ok.injEq] at he; omega
     · rename_i o ho
       split at he
       · simp only [Pr.ok.injEq] at he; omega
       · obtain ⟨y,k,h1,h2⟩ :=aR he
         have a0 :=h.has hi (uH ho)
         have a1 :=hE _ _ _ _ a0 h1
         have a2 :=hL _ _ _ _ _ _ a1.2 h2
         omega
   · rw [prefixF] at he
     split at he
     · rename_i hs
       have a0 :=h.has hi hs.2
       obtain ⟨a,k1,h1,he⟩ :=aR he
       obtain ⟨_,k2,h2,he⟩ :=aR he
       obtain ⟨b,k3,h3,he⟩ :=aR he
       obtain ⟨_,k4,h4,he⟩ :=aR he
       obtain ⟨c,k5,h5,he⟩ :=aR he
       have a1 :=hE _ _ _ _ a0 h1
       have a2 :=one a1.2 h2
       have a3 :=hE _ _ _ _ a2.2 h3
       have a4 :=one a3.2 h4
       have a5 :=hE _ _ _ _ a4.2 h5
       simp only [Pr.ok.injEq] at he
       omega
     · split at he
       · rename_i hs
         obtain ⟨a,k1,h1,he⟩ :=aR he
         have a1 :=hE _ _ _ _ (h.has hi hs.2) h1
         simp only [Pr.ok.injEq] at he
         omega
       · obtain ⟨a,k1,h1,he⟩ :=aR he
         have a1 :=hQ _ _ _ hi h1
         simp only [Pr.ok.injEq] at he
         omega
   · rw [primaryF] at he
     split at he
     · rename_i hk
       have a0 :=h.last i hi (by rw [hk]; decide)
       obtain ⟨u,k1,h1,he⟩ :=aR he
       have a1 :=qY h a0 h1
       simp only [Pr.ok.injEq] at he
       omega
     · split at he
       · rename_i hs; have :=h.has hi hs; simp only [Pr.ok.injEq] at he; omega
       · split at he
         · rename_i hs; have :=h.has hi hs; simp only [Pr.ok.injEq] at he; omega
         · split at he
           · rename_i hs
             have a0 : i + 1 < ts.length :=by
              simp only [Bool.or_eq_true] at hs
              rcases hs with hs | hs
              · exact h.has hi hs
              · exact h.has hi hs
             obtain ⟨_,k1,h1,he⟩ :=aR he
             obtain ⟨a,k2,h2,he⟩ :=aR he
             obtain ⟨_,k3,h3,he⟩ :=aR he
             obtain ⟨b,k4,h4,he⟩ :=aR he
             obtain ⟨_,k5,h5,he⟩ :=aR he
             have a1 :=one a0 h1
             have a2 :=hE _ _ _ _ a1.2 h2
             have a3 :=one a2.2 h3
             have a4 :=hE _ _ _ _ a3.2 h4
             have a5 :=one a4.2 h5
             simp only [Pr.ok.injEq] at he
             omega
           · split at he
             · rename_i hs
               obtain ⟨a,k1,h1,he⟩ :=aR he
               obtain ⟨_,k2,h2,he⟩ :=aR he
               have a1 :=hE _ _ _ _ (h.has hi hs) h1
               have a2 :=one a1.2 h2
               simp only [Pr.ok.injEq] at he
               omega
             · split at he
               · rename_i hs
                 have :=h.last i hi (by rw [hs.1]; decide)
                 simp only [Pr.ok.injEq] at he; omega
               · cases he
theorem uD {ts : List Tk} (h : OkT ts) : ∀ f : Nat,(∀ form i e j,i < ts.length → expF f ts form i = .ok e j → e.lev ≤ j - i) ∧ (∀ form e own i x j,i < ts.length → loopF f ts form e own i = .ok x j → x.lev ≤ e.lev + (j - i)) ∧
  (∀ form i x j,i < ts.length → prefixF f ts form i = .ok x j → x.1.lev ≤ j - i) ∧ (∀ i e j,i < ts.length → primaryF f ts i = .ok e j → e.lev ≤ j - i)
 | 0 => by refine ⟨?_,?_,?_,?_⟩ <;> intros <;> simp [expF,loopF,prefixF,primaryF] at *
 | f + 1 => by
   obtain ⟨hE,hL,hP,hQ⟩ :=uD h f
   obtain ⟨bE,bL,bP,bQ⟩ :=g6 h f
   have one : ∀ {s : By} {i j : Nat},i < ts.length → wantT ts [s] i = .ok () j → i < j ∧ j < ts.length :=fun hi hw => by have :=bG h hi hw; simp at this; omega
   refine ⟨fun form i e j hi he => ?_,fun form e own i x j hi he => ?_,fun form i x j hi he => ?_,fun i e j hi he => ?_⟩
   · rw [expF] at he
     obtain ⟨x,k,h1,h2⟩ :=aR he
     have a1 :=bP _ _ _ _ hi h1
     have a2 :=bL _ _ _ _ _ _ a1.2 h2
     have b1 :=hP _ _ _ _ hi h1
     have b2 :=hL _ _ _ _ _ _ a1.2 h2
     omega
   · rw [loopF] at he
     split at he
     · simp only [Pr.ok.injEq] at he; obtain ⟨rfl,rfl⟩ :=he; omega
     · rename_i o ho
       split at he
       · simp only [Pr.ok.injEq] at he; obtain ⟨rfl,rfl⟩ :=he; omega
       · obtain ⟨y,k,h1,h2⟩ :=aR he
         have a0 :=h.has hi (uH ho)
         have a1 :=bE _ _ _ _ a0 h1
         have a2 :=bL _ _ _ _ _ _ a1.2 h2
         have b1 :=hE _ _ _ _ a0 h1
         have b2 :=hL _ _ _ _ _ _ a1.2 h2
         simp only [E.lev] at b2
         omega
   · rw [prefixF] at he
     split at he
     · rename_i hs
       have a0 :=h.has hi hs.2
       obtain ⟨a,k1,h1,he⟩ :=aR he
       obtain ⟨_,k2,h2,he⟩ :=aR he
       obtain ⟨b,k3,h3,he⟩ :=aR he
       obtain ⟨_,k4,h4,he⟩ :=aR he
       obtain ⟨c,k5,h5,he⟩ :=aR he
       have a1 :=bE _ _ _ _ a0 h1
       have a2 :=one a1.2 h2
       have a3 :=bE _ _ _ _ a2.2 h3
       have a4 :=one a3.2 h4
       have a5 :=bE _ _ _ _ a4.2 h5
       have b1 :=hE _ _ _ _ a0 h1
       have b3 :=hE _ _ _ _ a2.2 h3
       have b5 :=hE _ _ _ _ a4.2 h5
       simp only [Pr.ok.injEq] at he
       obtain ⟨rfl,rfl⟩ :=he
       simp only [E.lev]
       omega
     · split at he
       · rename_i hs
         obtain ⟨a,k1,h1,he⟩ :=aR he
         have a0 :=h.has hi hs.2
         have a1 :=bE _ _ _ _ a0 h1
         have b1 :=hE _ _ _ _ a0 h1
         simp only [Pr.ok.injEq] at he
         obtain ⟨rfl,rfl⟩ :=he
         simp only [E.lev]
         omega
       · obtain ⟨a,k1,h1,he⟩ :=aR he
         have b1 :=hQ _ _ _ hi h1
         simp only [Pr.ok.injEq] at he
         obtain ⟨rfl,rfl⟩ :=he
         exact b1
   · rw [primaryF] at he
     split at he
     · rename_i hk
       have a0 :=h.last i hi (by rw [hk]; decide)
       obtain ⟨u,k1,h1,he⟩ :=aR he
       have a1 :=qY h a0 h1
       simp only [Pr.ok.injEq] at he
       obtain ⟨rfl,rfl⟩ :=he
       simp only [E.lev]
       omega
     · split at he
       · simp only [Pr.ok.injEq] at he; obtain ⟨rfl,rfl⟩ :=he; simp only [E.lev]; omega
       · split at he
         · simp only [Pr.ok.injEq] at he; obtain ⟨rfl,rfl⟩ :=he; simp only [E.lev]; omega
         · split at he
           · rename_i hs
             have a0 : i + 1 < ts.length :=by
              simp only [Bool.or_eq_true] at hs
              rcases hs with hs | hs
              · exact h.has hi hs
              · exact h.has hi hs
             obtain ⟨_,k1,h1,he⟩ :=aR he
             obtain ⟨a,k2,h2,he⟩ :=aR he
             obtain ⟨_,k3,h3,he⟩ :=aR he
             obtain ⟨b,k4,h4,he⟩ :=aR he
             obtain ⟨_,k5,h5,he⟩ :=aR he
             have a1 :=one a0 h1
             have a2 :=bE _ _ _ _ a1.2 h2
             have a3 :=one a2.2 h3
             have a4 :=bE _ _ _ _ a3.2 h4
             have a5 :=one a4.2 h5
             have b2 :=hE _ _ _ _ a1.2 h2
             have b4 :=hE _ _ _ _ a3.2 h4
             simp only [Pr.ok.injEq] at he
             obtain ⟨rfl,rfl⟩ :=he
             simp only [E.lev]
             omega
           · split at he
             · rename_i hs
               obtain ⟨a,k1,h1,he⟩ :=aR he
               obtain ⟨_,k2,h2,he⟩ :=aR he
               have a1 :=bE _ _ _ _ (h.has hi hs) h1
               have a2 :=one a1.2 h2
               have b1 :=hE _ _ _ _ (h.has hi hs) h1
               simp only [Pr.ok.injEq] at he
               obtain ⟨rfl,rfl⟩ :=he
               omega
             · split at he
               · simp only [Pr.ok.injEq] at he; obtain ⟨rfl,rfl⟩ :=he; simp only [E.lev]; omega
               · cases he
def expT (ts : List Tk) (form : Int) (i : Nat) : Pr E :=expF (3 * ts.length + 5) ts form i
def wholeT (ts : List Tk) (i : Nat) : Pr E :=(expT ts 0 i).bind fun e j => if isT ts [59] j then (if e.lev ≤ 12 then .ok e (j + 1) else .no (nx ts j).pos 6) else .no (nx ts j).pos 12
theorem jJ {ts : List Tk} (h : OkT ts) {i j : Nat} {e : E} (hi : i < ts.length) (hw : wholeT ts i = .ok e j) : i < j ∧ j < ts.length ∧ e.lev ≤ 12 :=by
 obtain ⟨x,k,h1,h2⟩ :=aR hw
 have a1 :=(g6 h _).1 _ _ _ _ hi h1
 split at h2
 · rename_i hs
   have a2 :=h.has a1.2 hs
   split at h2
   · rename_i hl
     simp only [Pr.ok.injEq] at h2
     obtain ⟨rfl,rfl⟩ :=h2
     exact ⟨by omega,a2,hl⟩
   · cases h2
 · cases h2
def nothingE : E :=.num 0 3
def clauseT (ts : List Tk) (word : By) (i : Nat) : Pr E :=if isT ts word i then wholeT ts (i + 1) else .ok nothingE i
theorem fL {ts : List Tk} (h : OkT ts) {w : By} {i j : Nat} {e : E} (hi : i < ts.length) (hw : clauseT ts w i = .ok e j) : i ≤ j ∧ j < ts.length ∧ e.lev ≤ 12 :=by
 unfold clauseT at hw
 split at hw
 · rename_i hs
   have :=jJ h (h.has hi hs) hw
   exact ⟨by omega,this.2⟩
 · simp only [Pr.ok.injEq] at hw
   obtain ⟨rfl,rfl⟩ :=hw
   exact ⟨Nat.le_refl _,hi,by decide⟩
def kindT (ts : List Tk) (i : Nat) : Pr (Int × Bool) :=(wantT ts [[99,105,114,99,108,101]] i).bind fun _ i =>
 if isT ts [114,111,116,97,116,105,110,103] i then (wantT ts [[59]] (i + 1)).bind fun _ j => .ok (0,false) j
 else if isT ts [115,97,118,105,110,103] i then (wantT ts [[59]] (i + 1)).bind fun _ j => .ok (2,false) j
 else (wantT ts [[98,105,100,100,105,110,103]] i).bind fun _ j => (wantT ts [[59]] (hasT ts [115,101,97,108,101,100] j)).bind fun _ k => .ok (1,isT ts [115,101,97,108,101,100] j) k
theorem yP {ts : List Tk} (h : OkT ts) {i j : Nat} {x : Int × Bool} (hi : i < ts.length) (hw : kindT ts i = .ok x j) : i ≤ j ∧ j < ts.length :=by
 obtain ⟨_,k,h1,h2⟩ :=aR hw
 have a1 :=bG h hi h1
 split at h2
 · rename_i hs
   obtain ⟨_,k2,h3,h4⟩ :=aR h2
   have a2 :=bG h (h.has a1.2 hs) h3
   simp only [Pr.ok.injEq] at h4
   omega
 · split at h2
   · rename_i hs
     obtain ⟨_,k2,h3,h4⟩ :=aR h2
     have a2 :=bG h (h.has a1.2 hs) h3
     simp only [Pr.ok.injEq] at h4
     omega
   · obtain ⟨_,k2,h3,h4⟩ :=aR h2
     obtain ⟨_,k3,h5,h6⟩ :=aR h4
     have a2 :=bG h a1.2 h3
     have a3 :=u9 h (s :=[115,101,97,108,101,100]) a2.2
     have a4 :=bG h a3.2 h5
     simp only [Pr.ok.injEq] at h6
     omega
def ordersL : List By :=[[106,111,105,110],[100,114,97,119],[110,101,101,100]]
def orderT (ts : List Tk) (i : Nat) : Pr Int :=if isT ts [111,114,100,101,114] i then
 (match ordersL.findIdx? fun s => isT ts s (i + 1) with
  | some n => (wantT ts [[59]] (i + 1 + 1)).bind fun _ j => .ok (n : Int) j
  | none => .no (nx ts (i + 1)).pos 12) else .ok 0 i
theorem w7 {ts : List Tk} (h : OkT ts) {i j : Nat} {n : Int} (hi : i < ts.length) (hw : orderT ts i = .ok n j) : i ≤ j ∧ j < ts.length :=by
 unfold orderT at hw
 split at hw
 · rename_i hs
   have a0 :=h.has hi hs
   split at hw
   · rename_i m hm
     obtain ⟨x,hx⟩ : ∃ x,isT ts x (i + 1) = true :=by
      obtain ⟨hm1,hm2,_⟩ :=List.findIdx?_eq_some_iff_getElem.1 hm
      exact ⟨_,hm2⟩
     obtain ⟨_,k2,h3,h4⟩ :=aR hw
     have a2 :=bG h (h.has a0 hx) h3
     simp only [Pr.ok.injEq] at h4
     omega
   · cases hw
 · simp only [Pr.ok.injEq] at hw
   omega
structure Bl where
 kind : Int :=0
 period : Int :=0
 grace : Int :=0
 wait : Int :=0
 last : Int :=0
 order : Int :=0
 sld : Bool :=false
 backs : Int :=0
 voices : Int :=0
 jury : Int :=0
 fund : Int :=0
 lets : List (By × E) :=[]
 due : E :=.num 0 0
 fine : E :=.num 0 0
 pay : E :=.num 0 0
 cover : E :=.num 0 0
 hold : E :=.num 0 0
 deriving DecidableEq
def letsF : Nat → List Tk → List (By × E) → Nat → Pr (List (By × E))
 | 0,_,_,_ => .no 0 99
 | f + 1,ts,acc,i => if isT ts [108,101,116] i then
     (if acc.length < 20 then
      (if (nx ts (i + 1)).kind = 1 ∧ nameOk (nx ts (i + 1)).text = true then
       (if acc.any fun l => decide (l.1 = (nx ts (i + 1)).text) then .no (nx ts (i + 1)).pos 5
        else (wantT ts [[61]] (i + 1 + 1)).bind fun _ j => (wholeT ts j).bind fun e k => letsF f ts (acc ++ [((nx ts (i + 1)).text,e)]) k)
       else .no (nx ts (i + 1)).pos 12)
      else .no (nx ts i).pos 6)
   else .ok acc i
def letsT (ts : List Tk) (i : Nat) : Pr (List (By × E)) :=letsF (ts.length + 1) ts [] i
def bylawsT (ts : List Tk) : Pr Bl :=
 (kindT ts 0).bind fun k i =>
 chk ts (isT ts [112,101,114,105,111,100] i) 12 i <| (partT ts [112,101,114,105,111,100] 1 1000 [[100,97,121,115],[59]] i).bind fun period i =>
 chk ts (isT ts [108,97,115,116] i) 12 i <| (partT ts [108,97,115,116] 1 1000 [[59]] i).bind fun last i =>
 (partT ts [103,114,97,99,101] 0 1000 [[100,97,121,115],[59]] i).bind fun grace i =>
 (partT ts [119,97,105,116] 0 1000 [[100,97,121,115],[59]] i).bind fun wait i =>
 (orderT ts i).bind fun order i =>
 (partT ts [98,97,99,107,115] 0 60 [[59]] i).bind fun backs i =>
 (partT ts [118,111,105,99,101,115] 0 1000 [[112,101,114],[109,105,108,108,101],[59]] i).bind fun voices i =>
 (partT ts [106,117,114,121] 0 60 [[59]] i).bind fun jury i =>
 (partT ts [102,117,110,100] 0 1000 [[112,101,114],[109,105,108,108,101],[59]] i).bind fun fund i =>
 (letsT ts i).bind fun lets i =>
 (wantT ts [[100,117,101]] i).bind fun _ i =>
 (wholeT ts i).bind fun due i =>
 (clauseT ts [102,105,110,101] i).bind fun fine i =>
 (clauseT ts [112,97,121] i).bind fun pay i =>
 (clauseT ts [99,111,118,101,114] i).bind fun cover i =>
 (clauseT ts [104,111,108,100] i).bind fun hold i =>
 chk ts (decide ((nx ts i).kind = 0)) 12 i <| .ok ⟨k.1,period,grace,wait,last,order,k.2,backs,voices,jury,fund,lets,due,fine,pay,cover,hold⟩ i
def parseT (s : By) : Bl × Int × Int :=if 2000 < s.length then ({},0,6) else match lexA s 0 with
 | .err i e => ({},i,e)
 | .ok ts => match bylawsT ts with
   | .ok b _ => (b,0,0)
   | .no p e => ({},p,e)
theorem zD {l : By} : ∀ {p : Nat} {ts : List Tk},lexA l p = .ok ts → ts.length ≤ l.length + 1 :=by
 induction l using kJ with
 | h0 => intro p ts h; rw [eZ] at h; cases h; simp
 | h1 c l hb ih => intro p ts h; rw [dN hb] at h; have :=ih h; simp only [List.length_cons]; omega
 | h2 c l e hb ht => intro p ts h; rw [f9 hb ht] at h; cases h
 | h3 c l k t n hb ht ih =>
   intro p ts h; rw [gO hb ht] at h
   cases hx : lexA ((c :: l).drop t.length) (p + t.length) with
   | err i e => rw [hx] at h; cases h
   | ok us =>
     rw [hx] at h; cases h
     have h1 :=ih hx
     have h2 :=dG ht
     simp only [List.length_drop,List.length_cons] at h1 h2 ⊢
     omega
theorem zE {l : By} : ∀ {p : Nat} {ts : List Tk},lexA l p = .ok ts → ∀ x ∈ ts,x.text.length ≤ l.length :=by
 induction l using kJ with
 | h0 => intro p ts h x hx; rw [eZ] at h; cases h; simp at hx; subst hx; simp
 | h1 c l hb ih => intro p ts h x hx; rw [dN hb] at h; have :=ih h x hx; simp only [List.length_cons]; omega
 | h2 c l e hb ht => intro p ts h; rw [f9 hb ht] at h; cases h
 | h3 c l k t n hb ht ih =>
   intro p ts h x hx; rw [gO hb ht] at h
   have h2 :=dG ht
   cases hu : lexA ((c :: l).drop t.length) (p + t.length) with
   | err i e => rw [hu] at h; cases h
   | ok us =>
     rw [hu] at h; cases h
     rcases List.mem_cons.1 hx with rfl | hx
     · exact h2.2.1
     · have :=ih hu x hx
       simp only [List.length_drop] at this
       omega
theorem uE {s : By} {ts : List Tk} (hl : s.length ≤ 2000) (h : lexA s 0 = .ok ts) : OkT ts ∧ 0 < ts.length :=by
 obtain ⟨us,q,rfl,hv⟩ :=BH s h
 have h1 :=zD h
 refine ⟨⟨by omega,fun i hi hk => ?_,fun x hx => Nat.le_trans (zE h x hx) hl,fun x hx => ?_⟩,by simp⟩
 simp only [List.length_append,List.length_cons,List.length_nil] at hi ⊢
 by_cases he : i = us.length
 · subst he
   exfalso
   apply hk
   simp [nx]
 · omega
 · rcases List.mem_append.1 hx with hx | hx
   · have hv :=hv x hx
     obtain ⟨_,_,h3,_⟩ :=BI hv
     by_cases hk : x.kind = 2
     · have ht :=hv.1
       rw [hk] at ht
       obtain ⟨h5,h6⟩ :=BJ ht
       simp only [isNum,Bool.and_eq_true,decide_eq_true_eq] at h5
       omega
     · rw [h3 hk]; decide
   · simp only [List.mem_singleton] at hx
     subst hx; exact ⟨Int.le_refl _,by simp⟩
end Go.Proofs.YtaolljbpencjnaaGreatDoor

