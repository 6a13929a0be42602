/-
  Lemmas for the statement at the top.
-/
import Derived.Test.YtllgjognpobnpaaGreatDoorGFw6
import Derived.Maps.RangeRun
import Derived.LoopN
import Derived.Test.YtllgjognpobnpaaGreatDoorGFw4
set_option linter.all false
namespace Go.Ab
open Go.RowKit
section
variable{P:Program}{w w':World}{M:Nat→Prop}{loc:Nat→Value}
theorem RR.other{X:Ctx}{st:St}{a:Act}(h:RR X M loc st a w){r:Nat}(hg:w.grownBy w' (some r))(hM:¬M r)(hB:¬blks st.heap loc r)(hown:X.own r):RR X M loc st a w':=by
 have hb:∀b,M b→w'.heap[b]? =w.heap[b]? :=fun b hb=>hg.block b (h.zone b hb).1 (fun e=>by cases e;exact hM hb)
 refine⟨fun s=>Rep.mono (n:=st.heap.length) hb (fun _ h=>h) (fun _ _=>rfl) (h.env s) (h.ids s),h.nle,h.size,h.defers,fun id o ho=>?_,h.sep,fun id m hm=>?_,h.msep,?_,fun b hb=>⟨Nat.lt_of_lt_of_le (h.zone b hb).1 hg.size,(h.zone b hb).2⟩,h.zin,h.zlt,h.one,h.ids⟩
 ·refine(h.obj id o ho).kept hg ?_ (fun g e=>by cases e;exact hM) (fun b hb=>(h.zone b hb).1) (fun _ _=>rfl) (Nat.le_refl _)
  cases hb:(loc id).ownBlock with
  |none=>exact .inl rfl
  |some b=>exact .inr fun e=>by cases e;exact hB (.inl ⟨id,o,ho,hb⟩)
 ·obtain⟨g,es,c,h1,h2,h3,h4,h5⟩:=(h.mobj id m hm).own
  have hgr:g≠r:=fun e=>hB (.inr ⟨id,m,hm,by rw[h1,e]⟩)
  exact⟨g,es,c,h1,h2,h3,by rw[hg.block g (Array.getElem?_eq_some_iff.1 h4).1 (fun e=>hgr (by cases e;rfl))];exact h4,h5.mono hb (fun _ h=>h)⟩
 ·refine⟨hg.os.trans h.below.os,hg.tape.trans h.below.tape,hg.output.trans h.below.output,Nat.le_trans h.below.size hg.size,fun k hk hT=>?_⟩
  rw[hg.block k (Nat.lt_of_lt_of_le hk h.below.size) (fun e=>by
   cases e
   rcases hown with h1|h1
   ·omega
   ·exact hT h1)]
  exact h.below.block k hk hT
structure Same(X X':Ctx):Prop where
 n:X'.n=X.n
 gh:X'.gh=X.gh
 dl:X'.dl=X.dl
structure Base(X':Ctx)(w:World)(M:Nat→Prop)(T:Nat→Prop):Prop where
 w0:X'.w0=w
 Z:X'.Z=M
 T:X'.T=T
theorem RR.heapS{X:Ctx}{st:St}{a:Act}(h:RR X M loc st a w):HeapS X.own M loc st.heap w:=⟨h.obj,h.sep,h.mobj,h.msep,h.one⟩
theorem RR.blk_own{X:Ctx}{st:St}{a:Act}(h:RR X M loc st a w){b:Nat}(hb:blks st.heap loc b):X.own b:=by
 rcases hb with⟨id,o,ho,hg⟩|⟨id,m,hm,hg⟩
 ·exact(h.obj id o ho).mine b hg
 ·obtain⟨g,es,c,h1,h2,_⟩:=(h.mobj id m hm).own
  rw[hg]at h1;cases h1;exact h2
theorem RR.rebase{X:Ctx}{st:St}{a:Act}(h:RR X M loc st a w):∃X',Same X X'∧Base X' w M (blks st.heap loc)∧RR X' M loc st a w:=by
 have hH:=h.heapS
 have hgl:GlobW w M:=h.globW fun _ h=>h
 refine⟨⟨w,M,X.n,blks st.heap loc,X.gh,⟨hgl,fun p hp hb=>eF hH hb (hgl.1 p hp).1,fun g hg hb=>eF hH hb (hgl.2 g hg).1⟩,X.dl⟩,⟨rfl,rfl,rfl⟩,⟨rfl,rfl,rfl⟩,?_⟩
 refine⟨h.env,h.nle,h.size,h.defers,fun id o ho=>?_,h.sep,fun id m hm=>?_,h.msep,⟨rfl,rfl,rfl,Nat.le_refl _,fun _ _ _=>rfl⟩,fun b hb=>⟨(h.zone b hb).1,.inl hb⟩,fun b hb=>hb,fun b hb=>(h.zone b hb).1,h.one,h.ids⟩
 ·have ho2:=h.obj id o ho
  exact⟨ho2.own,ho2.flat,ho2.away,fun g hg=>.inr (.inl ⟨id,o,ho,hg⟩)⟩
 ·obtain⟨g,es,c,h1,h2,h3⟩:=(h.mobj id m hm).own
  exact⟨g,es,c,h1,.inr (.inr ⟨id,m,hm,h1⟩),h3⟩
theorem RR.unbase{X X':Ctx}{M0:Nat→Prop}{loc0:Nat→Value}{st0 st:St}{a0 a:Act}{w0:World}(h0:RR X M0 loc0 st0 a0 w0)(s:Same X X')(b:Base X' w0 M0 (blks st0.heap loc0))(h:RR X' M loc st a w):RR X M loc st a w:=by
 have hown:∀b,X'.own b→X.own b:=fun k hk=>by
  rcases hk with hk|hk
  ·rw[b.w0]at hk;exact .inl (Nat.le_trans h0.below.size hk)
  ·rw[b.T]at hk;exact h0.blk_own hk
 have hbel:=h.below
 rw[b.w0,b.T]at hbel
 refine⟨fun k=>?_,by rw[←s.n];exact h.nle,by rw[←s.n];exact h.size,by rw[←s.dl];exact h.defers,fun id o ho=>?_,h.sep,fun id m hm=>?_,h.msep,?_,fun k hk=>?_,fun k hk=>?_,h0.zlt,h.one,h.ids⟩
 ·have:=h.env k
  rwa [s.gh]at this
 ·have ho2:=h.obj id o ho
  exact⟨ho2.own,ho2.flat,ho2.away,fun g hg=>hown g (ho2.mine g hg)⟩
 ·obtain⟨g,es,c,h1,h2,h3⟩:=(h.mobj id m hm).own
  exact⟨g,es,c,h1,hown g h2,h3⟩
 ·refine⟨hbel.os.trans h0.below.os,hbel.tape.trans h0.below.tape,hbel.output.trans h0.below.output,Nat.le_trans h0.below.size hbel.size,fun k hk hT=>?_⟩
  rw[hbel.block k (Nat.lt_of_lt_of_le hk h0.below.size) (fun hb=>by
   rcases h0.blk_own hb with h1|h1
   ·omega
   ·exact hT h1)]
  exact h0.below.block k hk hT
 ·refine⟨(h.zone k hk).1,?_⟩
  rcases(h.zone k hk).2 with h1|h1
  ·rw[b.Z]at h1;exact(h0.zone k h1).2
  ·exact .inr (hown k h1)
 ·exact h.zin k (by rw[b.Z];exact h0.zin k hk)
structure Frozen(X:Ctx)(g:Nat)(l:List (AV×AV))(es:Array MapEntry)(c:Nat):Prop where
 lt:g<X.w0.heap.size
 nT:¬X.T g
 nZ:¬X.Z g
 zT:∀b,X.Z b→¬X.T b
 mem:X.w0.heap[g]? =some (.map es c)
 ent:EntOK X.w0 X.Z es c l
theorem Frozen.here{X:Ctx}{g:Nat}{l:List (AV×AV)}{es:Array MapEntry}{c:Nat}(f:Frozen X g l es c){st:St}{a:Act}(h:RR X M loc st a w):
  w.heap[g]? =some (.map es c)∧EntOK w M es c l∧¬M g∧¬X.own g:=by
 have hno:¬X.own g:=fun h=>by
  rcases h with h|h
  ·have:=f.lt;omega
  ·exact f.nT h
 refine⟨by rw[h.below.block g f.lt f.nT];exact f.mem,f.ent.mono (fun b hb=>h.below.block b (h.zlt b hb) (f.zT b hb)) h.zin,fun hM=>?_,hno⟩
 rcases(h.zone g hM).2 with h1|h1
 ·exact f.nZ h1
 ·exact hno h1
theorem Frozen.base{X X':Ctx}{g:Nat}{l:List (AV×AV)}{es:Array MapEntry}{c:Nat}(f:Frozen X g l es c){st:St}{a:Act}(h:RR X M loc st a w)(b:Base X' w M (blks st.heap loc)):Frozen X' g l es c:=by
 obtain⟨h1,h2,h3,h4⟩:=f.here h
 refine⟨by rw[b.w0];exact(Array.getElem?_eq_some_iff.1 h1).1,?_,by rw[b.Z];exact h3,?_,by rw[b.w0];exact h1,by rw[b.w0,b.Z];exact h2⟩
 ·rw[b.T];exact fun hb=>h4 (h.blk_own hb)
 ·rw[b.T,b.Z];exact fun k hk hb=>eF h.heapS hb hk
theorem eV{H:List Cell}{i id:Nat}{x:Cell}(hx:x≠.dead)(h:(H.set i .dead)[id]? =some x):id≠i∧H[id]? =some x:=by
 rw[List.getElem?_set]at h
 split at h
 ·split at h
  ·cases h;exact absurd rfl hx
  ·cases h
 ·rename_i hne;exact⟨fun e=>hne e.symm,h⟩
theorem RR.demap{X:Ctx}{st:St}{a:Act}(h:RR X M loc st a w){t mj:Nat}{m:MOb}(ht:st.env t=.ow mj)(hm:st.heap[mj]? =some (.map m)):
  ∃g es c,loc mj=.map (some g)∧RR X M loc ⟨upd st.env t (.v (.map (some g))),st.heap.set mj .dead⟩ a w∧w.heap[g]? =some (.map es c)∧EntOK w M es c m.es∧¬M g∧X.own g∧¬blks (st.heap.set mj .dead) loc g:=by
 obtain⟨g,es,c,h1,h2,h3,h4,h5⟩:=(h.mobj mj m hm).own
 refine⟨g,es,c,h1,⟨fun s=>?_,h.nle,h.size,h.defers,fun id o ho=>?_,fun i j oi oj hij hi hj=>?_,fun id mm hmm=>?_,fun i j mi mj2 hij hi hj=>?_,h.below,h.zone,h.zin,h.zlt,fun id hid=>h.one id (by simpa using hid),fun s=>?_⟩,h4,h5,h3,h2,?_⟩
 ·have hs:=h.env s
  show Rep w M loc _ (upd st.env t _ s)
  by_cases e:s=t
  ·subst e
   rw[bK]
   rw[ht]at hs
   have e2:(if s<G0 then a.tmps.getD s undef else X.gh (s-G0))=loc mj:=hs
   rw[e2,h1]
   exact(RepZ.v _).rep
  ·rw[aX _ _ _ e];exact hs
 ·have:=h.obj id o (eV (by simp) ho).2
  simpa using this
 ·exact h.sep i j oi oj hij (eV (by simp) hi).2 (eV (by simp) hj).2
 ·exact h.mobj id mm (eV (by simp) hmm).2
 ·exact h.msep i j mi mj2 hij (eV (by simp) hi).2 (eV (by simp) hj).2
 ·have:=h.ids s
  simp only[upd]
  split
  ·trivial
  ·simpa using this
 ·rintro(⟨id,o,ho,hb⟩|⟨id,m2,hm2,hb⟩)
  ·obtain⟨xs,hown,_⟩:=(h.obj id o (eV (by simp) ho).2).own
   obtain⟨cs,t,fr,hc⟩:=bG hown g hb
   rw[h4]at hc;cases hc
  ·obtain⟨hne,hm3⟩:=eV (by simp) hm2
   exact h.msep id mj m2 m hne hm3 hm (by rw[hb,h1])
theorem RR.remap{X:Ctx}{E:Nat→AV}{H:List Cell}{a:Act}{t g:Nat}{m:MOb}{es:Array MapEntry}{c:Nat}(h:RR X M loc ⟨upd E t (.v (.map (some g))),H⟩ a w)(h4:w.heap[g]? =some (.map es c))(h5:EntOK w M es c m.es)(h3:¬M g)(h2:X.own g)(hB:¬blks H loc g)  :
  RR X M (fun id=>if id=H.length then .map (some g)else loc id) ⟨upd E t (.ow H.length),H++[.map m]⟩ a w:=by
 have hl:∀id,id<H.length→(fun id=>if id=H.length then Value.map (some g)else loc id) id=loc id:=fun id hid=>if_neg (by omega)
 have hget:∀{id x},(H++[Cell.map m])[id]? =some x→(id<H.length∧H[id]? =some x)∨(id=H.length∧x=.map m):=by
  intro id x hx
  by_cases hid:id<H.length
  ·rw[List.getElem?_append_left hid]at hx;exact .inl ⟨hid,hx⟩
  ·rw[List.getElem?_append_right (by omega)]at hx
   have:id-H.length=0:=by
    have:=(List.getElem?_eq_some_iff.1 hx).1
    simp at this;omega
   rw[this]at hx
   simp at hx
   exact .inr ⟨by omega,hx.symm⟩
 refine⟨fun s=>?_,h.nle,h.size,h.defers,fun id o ho=>?_,fun i j oi oj hij hi hj=>?_,fun id mm hmm=>?_,fun i j mi mj hij hi hj=>?_,h.below,h.zone,h.zin,h.zlt,fun id hid=>?_,fun s=>?_⟩
 ·have hs:=h.env s
  show Rep w M _ _ (upd E t _ s)
  by_cases e:s=t
  ·subst e
   rw[show(⟨upd E s (AV.v (.map (some g))),H⟩:St).env s=.v (.map (some g)) from bK _ _ _]at hs
   rw[bK]
   have e2:=hs.v_inv
   rw[e2]
   refine RepO.rep (e:=.ow H.length) ?_
   show _=_
   simp
  ·rw[show(⟨upd E t (AV.v (.map (some g))),H⟩:St).env s=E s from aX _ _ _ e]at hs
   rw[aX _ _ _ e]
   refine Rep.mono (n:=H.length) (fun _ _=>rfl) (fun _ h=>h) hl hs ?_
   have:=h.ids s
   rw[show(⟨upd E t (AV.v (.map (some g))),H⟩:St).env s=E s from aX _ _ _ e]at this
   exact this
 ·rcases hget ho with⟨hid,ho⟩|⟨_,e⟩
  ·show ObjOK X.own w M _ _ (if id=H.length then _ else _) o
   rw[if_neg (by omega)]
   have hob:=h.obj id o ho
   obtain⟨xs,q1,q2⟩:=hob.own
   exact⟨⟨xs,q1,fun j e he=>by
    obtain⟨x,hx,hr⟩:=q2 j e he
    exact⟨x,hx,hr.mono (fun _ _=>rfl) (fun _ h=>h) hl (by simp)⟩⟩,hob.flat,hob.away,hob.mine⟩
  ·cases e
 ·rcases hget hi with⟨hil,hi⟩|⟨_,e⟩
  ·rcases hget hj with⟨hjl,hj⟩|⟨_,e⟩
   ·simp only[if_neg (show i≠H.length by omega),if_neg (show j≠H.length by omega)]
    exact h.sep i j oi oj hij hi hj
   ·cases e
  ·cases e
 ·rcases hget hmm with⟨hid,hmm⟩|⟨rfl,e⟩
  ·simp only[if_neg (show id≠H.length by omega)]
   exact h.mobj id mm hmm
  ·cases e
   simp only[if_pos]
   exact⟨g,es,c,rfl,h2,h3,h4,h5⟩
 ·rcases hget hi with⟨hil,hi⟩|⟨rfl,e⟩
  ·simp only[if_neg (show i≠H.length by omega)]
   rcases hget hj with⟨hjl,hj⟩|⟨rfl,e⟩
   ·simp only[if_neg (show j≠H.length by omega)]
    exact h.msep i j mi mj hij hi hj
   ·simp only[if_pos]
    exact fun e=>hB (.inr ⟨i,mi,hi,e⟩)
  ·rcases hget hj with⟨hjl,hj⟩|⟨rfl,e⟩
   ·simp only[if_pos,if_neg (show j≠H.length by omega)]
    exact fun e=>hB (.inr ⟨j,mj,hj,e.symm⟩)
   ·exact absurd rfl hij
 ·show Value.oneCell' (if id=H.length then _ else loc id)=true
  split
  ·rfl
  ·rename_i hne
   exact h.one id (by simp at hid;show id<H.length;omega)
 ·have:=h.ids s
  simp only[upd]at this⊢
  split
  ·show H.length<(H++[Cell.map m]).length;simp
  ·rename_i e
   rw[if_neg e]at this
   exact AV.idLt_up (by simp) this
def frzQ(X':Ctx)(E:Nat→AV)(t g:Nat)(H:List Cell)(d:Prop)(Q:Exit→St→Prop):Exit→St→Prop
 | .normal,st=>d∧Sub X' ⟨upd E t (.v (.map (some g))),H⟩ st
 |e,st=>Q e st
theorem tX{X:Ctx}{Q:Exit→St→Prop}{st:St}{c:Code}{t mj:Nat}{m:MOb}(d:Prop)(E:Nat→AV)(H:List Cell)(ht:st.env t=.ow mj)(hm:st.heap[mj]? =some (.map m))
  (h:∀X' g es cl,Same X X'→Frozen X' g m.es es cl→AWP P X' c (frzQ X' E t g H d Q) ⟨upd st.env t (.v (.map (some g))),st.heap.set mj .dead⟩)
  (hq:d→Q .normal ⟨upd E t (.ow H.length),H++[.map m]⟩):AWP P X c Q st:=by
 rintro a w ⟨M,loc,hr⟩
 obtain⟨g,es,cl,h1,h2,h3,h4,h5,h6,h7⟩:=hr.demap ht hm
 obtain⟨X',hs,hb,hr'⟩:=h2.rebase
 have hf:Frozen X' g m.es es cl:=by
  refine⟨by rw[hb.w0];exact(Array.getElem?_eq_some_iff.1 h3).1,by rw[hb.T];exact h7,by rw[hb.Z];exact h5,?_,by rw[hb.w0];exact h3,by rw[hb.w0,hb.Z];exact h4⟩
  rw[hb.Z,hb.T]
  exact fun b hz hbk=>eF h2.heapS hbk hz
 refine wp_mono (h X' g es cl hs hf a w ⟨M,loc,hr'⟩) fun e a' w' ⟨st',hq',hr2⟩=>?_
 have other:Q e st'→∃st',Q e st'∧R X st' a' w':=fun hq'=>by
  obtain⟨M2,loc2,hr2⟩:=hr2
  exact⟨st',hq',M2,loc2,h2.unbase hs hb hr2⟩
 cases e with
 |normal=>
  obtain⟨M2,loc2,hr3⟩:=hq'.2 a' w' hr2
  obtain⟨k1,k2,k3,k4⟩:=hf.here hr3
  exact⟨_,hq hq'.1,M2,_,(h2.unbase hs hb hr3).remap k1 k2 k3 h6 (fun hbk=>k4 (hr3.blk_own hbk))⟩
 |_=>exact other hq'
theorem bW{ops:Array Oper}{Q:Exit→Act→World→Prop}{o:Oper}{l:List Oper}{a:Act}{v:Value}(hg:o.guard=none)(hr:(execOp a.eval o).run P w=.ok (.value v) w')(h:wpList P ops Q l (a.put o.dst v) w'):wpList P ops Q (o::l) a w:=by
 unfold wpList
 rw[if_pos (by simp[Region.wanted,hg])]
 refine .inl ?_
 unfold Oper.wp
 rw[hr]
 exact h
theorem CN(f:Nat→AV)(s:Nat){x:AV}(h:f s=x):upd f s x=f:=by
 funext t
 simp only[upd]
 split
 ·rename_i e;rw[e,h]
 ·rfl
theorem RR.putB{X:Ctx}{st:St}{a:Act}(h:RR X M loc st a w){d:Nat}(hd:d<X.n)(hb:st.env d=.bad)(x:Value):RR X M loc st (a.put (some d) x) w:=by
 have:=h.put (d:=d) (e:=.bad) hd (x:=x) (RepZ.bad x).rep trivial
 rw[CN _ _ hb]at this
 exact this
theorem RR.evalAt{X:Ctx}{st:St}{a:Act}(h:RR X M loc st a w){d:Nat}(hd:d<X.n)(x:Value):(a.put (some d) x).eval (.tmp d)=x:=by
 have:(a.tmps.setIfInBounds d x).getD d undef=x:=by
  rw[Array.getD_eq_getD_getElem?,Array.getElem?_setIfInBounds_self_of_lt (by rw[h.size];exact hd)];rfl
 exact this
theorem zH{env:Nat→AV}{s:Nat}{x:Value}(hs:s<G0)(h:env s=.v x):Ab.ev env (.tmp s)=.v x:=by simp[Ab.ev,h,hs]
def rngQ(X':Ctx)(S:St)(d:Prop)(Q:Exit→St→Prop):Exit→St→Prop
 | .normal,st=>d∧Sub X' S st
 | .ret,st=>Q .ret st
 |_,_=>False
theorem y6{X:Ctx}{Q:Exit→St→Prop}{st:St}{rest:Code}{bk k3 i7 i8 i9 s d1 it nx ok en ev d9 T K V g c t1 t2 t3 t4 t5 t6 t7:Nat}{p1 p2 p3 p4 p5 p6 p7:String}{f1 f2 f3 f4 f5 f6 f7:Array Edge}{l:List (AV×AV)}{es:Array MapEntry}(D:Nat→Prop)
  (hT:P.underlying T=some (.map K V)) (f:Frozen X g l es c) (hs:st.env s=.v (.map (some g)))
  (hz:∀q∈l,q.2.zone=true) (hlt:s<X.n∧d1<X.n∧it<X.n∧nx<X.n∧ok<X.n∧en<X.n∧ev<X.n∧d9<X.n) (hne:d1≠it∧nx≠it∧ok≠it∧en≠it∧ev≠it∧d9≠it)
  (hb1:st.env d1=.bad) (hb3:st.env nx=.bad) (hb4:st.env ok=.bad) (hb5:st.env en=.bad) (hb6:st.env ev=.bad)
  (hbody:∀X' r j q,Same X X'→Frozen X' g l es c→l[j]? =some q→AWP P X' rest (rngQ X' ⟨upd st.env it (.v (.pointer (some ⟨r,0,none⟩))),st.heap⟩ (D j) Q) ⟨upd (upd st.env it (.v (.pointer (some ⟨r,0,none⟩)))) d9 q.2,st.heap⟩)
  (hend:(∀j,j<l.length→D j)→∀r,Q .normal ⟨upd st.env it (.v (.pointer (some ⟨r,0,none⟩))),st.heap⟩):
  AWP P X (.seq (.region i7 #[⟨some d1,.move (.tmp s),t1,p1,f1,none⟩,⟨some it,.range T (.tmp d1),t2,p2,f2,none⟩] false)
   (.block bk (.loop (.seq (.region i8 #[⟨some nx,.next (.tmp it) false,t3,p3,f3,none⟩,⟨some ok,.extract (.tmp nx) 0,t4,p4,f4,none⟩] false)
    (.seq (.cond (.tmp ok) .skip (.exit bk)) (.block k3 (.seq (.region i9 #[⟨some en,.entry (.tmp it),t5,p5,f5,none⟩,⟨some ev,.extract (.tmp en) 1,t6,p6,f6,none⟩,⟨some d9,.assign (.tmp ev),t7,p7,f7,none⟩] false) rest))))))) Q st:=by
 obtain⟨l0,l1,l2,l3,l4,l5,l6,l7⟩:=hlt
 obtain⟨n1,n3,n4,n5,n6,n7⟩:=hne
 rintro a w ⟨M,loc,hr⟩
 obtain⟨hg,hent,hgM,hgo⟩:=f.here hr
 have hev:a.eval (.tmp s)=.map (some g):=by
  have:=hr.ev (.tmp s)
  rw[show Ab.ev st.env (.tmp s)=.v (.map (some g)) from zH (Nat.lt_of_lt_of_le l0 hr.nle) hs]at this
  exact this.v_inv
 refine wp_seq (wp_region_list ?_)
 refine bW (v:=.map (some g)) (w':=w) rfl (by simp[execOp,hev]) ?_
 have h1:=hr.putB l1 hb1 (.map (some g))
 refine bW (v:=.pointer (some ⟨w.heap.size,0,none⟩)) (w':=w.alloc (.mapIter (some g) c #[] c)) rfl (by simp[execOp,hr.evalAt l1,run_range_map w T K V g es c hT hg]) ?_
 have hbel:Below w.heap.size w (w.alloc (.mapIter (some g) c #[] c)):=⟨rfl,rfl,rfl,by simp,fun k hk=>Below.heap_alloc w _ k hk⟩
 have h2:=h1.world hbel (fun _ hb=>hb) (fun b hb=>.inl hb)
 have h3:=h2.put (d:=it) (e:=.v (.pointer (some ⟨w.heap.size,0,none⟩))) l2 (RepZ.v _).rep trivial
 refine wp_block ?_
 let S:Nat→St:=fun r=>⟨upd st.env it (.v (.pointer (some ⟨r,0,none⟩))),st.heap⟩
 let I:Act→World→Prop:=fun a' w'=>∃M loc r seen,RR X M loc (S r) a' w'∧w'.heap[r]? =some (.mapIter (some g) c seen c)∧X.w0.heap.size≤r∧¬M r∧¬blks st.heap loc r∧∀j e,es[j]? =some e→seen.contains e.born=true→D j
 let μ:Act→World→Nat:=fun a w=>match a.eval (.tmp it)with
  | .pointer (some ⟨r,_,_⟩)=>match w.heap[r]? with
    |some (.mapIter _ _ seen _)=>(leftOf es seen).size
    |_=>0
  |_=>0
 refine wp_loop I μ ⟨M,loc,w.heap.size,#[],h3,heap_alloc_new w _,hr.below.size,fun hm=>?_,fun hb=>?_,fun j e _ h=>by simp at h⟩ fun a' w' hI=>?_
 ·have:=(hr.zone _ hm).1;omega
 ·rcases hb with⟨id,o,ho,hb⟩|⟨id,m,hm,hb⟩
  ·obtain⟨xs,hown,_⟩:=(hr.obj id o ho).own
   have:=(hown.lt _ hb).2;omega
  ·obtain⟨g2,es2,c2,q1,q2,q3,q4,_⟩:=(hr.mobj id m hm).own
   rw[hb]at q1
   cases q1
   have:=(Array.getElem?_eq_some_iff.1 q4).1;omega
 clear h1 h2 h3 hbel hev hg hent hgM hgo hr
 obtain⟨M,loc,r,seen,hR,hit,hr0,hrM,hrB,hD⟩:=hI
 obtain⟨hg,hent,hgM,hgo⟩:=f.here hR
 have hptr:a'.eval (.tmp it)=.pointer (some ⟨r,0,none⟩):=by
  have:=hR.ev (.tmp it)
  rw[show Ab.ev (S r).env (.tmp it)=.v (.pointer (some ⟨r,0,none⟩)) from zH (Nat.lt_of_lt_of_le l2 hR.nle) (bK _ _ _)]at this
  exact this.v_inv
 have bad:∀{d},d≠it→st.env d=.bad→(S r).env d=.bad:=fun h1 h2=>(aX _ _ _ h1).trans h2
 have hmem:∀x∈es.toList,∃j,es[j]? =some x:=fun x hx=>by
  obtain⟨j,hj⟩:=List.getElem?_of_mem hx
  exact⟨j,by simpa using hj⟩
 refine wp_seq (wp_region_list ?_)
 rcases run_next_at (P:=P) w' t3 r g c c seen es c hit hg (fun x hx=>by obtain⟨j,hj⟩:=hmem x hx;exact hent.old j x hj) (Nat.le_refl _)with⟨h0,hrun⟩|⟨e,he,w1,hw1,hrun⟩
 ·refine bW (v:=.tuple #[.bool false]) (w':=w') rfl (by simp[execOp,hptr,hrun]) ?_
  have k1:=hR.putB l3 (bad n3 hb3) (.tuple #[.bool false])
  refine bW (v:=.bool false) (w':=w') rfl (by simp[execOp,hR.evalAt l3,Instr.extract]) ?_
  have k2:=k1.putB l4 (bad n4 hb4) (.bool false)
  refine wp_seq (wp_cond_false (k1.evalAt l4 _) (wp_exit ?_))
  simp only[Exit.then,Exit.inBlock,if_true]
  exact⟨S r,hend (fun j hj=>by
   have hj2:j<es.size:=by rw[hent.sz];exact hj
   exact hD j _ (Array.getElem?_eq_getElem hj2) (all_seen es seen h0 _ (by simp))) r,M,loc,k2⟩
 ·obtain⟨hem,hes⟩:=mem_left he
  have hr1:w1.heap[r]? =some (.mapIter (some g) c seen c):=by rcases hw1 with rfl|rfl<;>exact hit
  have hset:(ChangeMaps.setBlock w1 r (.mapIter (some g) c (seen.push e.born) c)).heap[r]? =some (.mapIter (some g) c (seen.push e.born) c)∧∀r',r'≠r→(ChangeMaps.setBlock w1 r (.mapIter (some g) c (seen.push e.born) c)).heap[r']? =w1.heap[r']? :=MapKept.heap_set hr1
  have hgr:g≠r:=fun e=>by rw[e,hit]at hg;cases hg
  generalize hw2:ChangeMaps.setBlock w1 r (.mapIter (some g) c (seen.push e.born) c)=w2 at hrun hset
  have hgb:w'.grownBy w2 (some r):=by
   subst hw2
   rcases hw1 with rfl|rfl<;>exact⟨rfl,rfl,rfl,by simp[ChangeMaps.setBlock],fun i _ hi=>hset.2 i (fun e1=>hi (by rw[e1]))⟩
  have hR2:=hR.other hgb hrM hrB (.inl hr0)
  refine bW (v:=.tuple #[.bool true,e.key,e.val]) (w':=w2) rfl (by simp[execOp,hptr,hrun]) ?_
  have k1:=hR2.putB l3 (bad n3 hb3) (.tuple #[.bool true,e.key,e.val])
  refine bW (v:=.bool true) (w':=w2) rfl (by simp[execOp,hR2.evalAt l3,Instr.extract]) ?_
  have k2:=k1.putB l4 (bad n4 hb4) (.bool true)
  refine wp_seq (wp_cond_true (k1.evalAt l4 _) (wp_skip ?_))
  refine wp_block (wp_seq (wp_region_list ?_))
  have hg2:w2.heap[g]? =some (.map es c):=(hgb.block g (Array.getElem?_eq_some_iff.1 hg).1 (fun e=>hgr (by cases e;rfl))).trans hg
  have hptr2:((a'.put (some nx) (.tuple #[.bool true,e.key,e.val])).put (some ok) (.bool true)).eval (.tmp it)=.pointer (some ⟨r,0,none⟩):=by
   have:=k2.ev (.tmp it)
   rw[show Ab.ev (S r).env (.tmp it)=.v (.pointer (some ⟨r,0,none⟩)) from zH (Nat.lt_of_lt_of_le l2 hR.nle) (bK _ _ _)]at this
   exact this.v_inv
  have hnd:(es.toList.map (·.born)).Nodup:=by
   refine List.pairwise_iff_getElem.2 fun i j hi hj hij=>?_
   simp only[List.length_map,Array.length_toList]at hi hj
   simp only[List.getElem_map,Array.getElem_toList]
   have:=hent.age i j _ _ hij (Array.getElem?_eq_getElem hi) (Array.getElem?_eq_getElem hj)
   omega
  have hent2:=run_entry_at (P:=P) w2 r g c seen es c e hset.1 hg2 hem hnd
  refine bW (v:=.tuple #[e.key,e.val]) (w':=w2) rfl (by simp[execOp,hptr2,hent2]) ?_
  have k3:=k2.putB l5 (bad n5 hb5) (.tuple #[e.key,e.val])
  refine bW (v:=e.val) (w':=w2) rfl (by simp[execOp,k2.evalAt l5,Instr.extract]) ?_
  have k4:=k3.putB l6 (bad n6 hb6) e.val
  refine bW (v:=e.val) (w':=w2) rfl (by simp[execOp,k3.evalAt l6]) ?_
  obtain⟨j,hj⟩:=hmem e hem
  have hjl:j<l.length:=by have:=(Array.getElem?_eq_some_iff.1 hj).1;rw[hent.sz]at this;exact this
  obtain⟨q,hq⟩:∃q,l[j]? =some q:=⟨_,List.getElem?_eq_getElem hjl⟩
  have hval:=((f.here k4).2.1.rep j e q hj hq).2
  have k5:=k4.put (d:=d9) (e:=q.2) l7 hval.rep (bC (hz q (List.mem_of_getElem? hq)) _)
  obtain⟨X',hs',hb',hR'⟩:=k5.rebase
  refine wp_mono (hbody X' r j q hs' (f.base k5 hb') hq _ w2 ⟨M,loc,hR'⟩) fun ex a6 w6 ⟨st',hq',hr6⟩=>?_
  cases ex with
  |normal=>
   obtain⟨hDj,hsub⟩:=hq'
   obtain⟨M6,loc6,hR6⟩:=hsub a6 w6 hr6
   have hr2:r<w2.heap.size:=(Array.getElem?_eq_some_iff.1 hset.1).1
   have hno:¬X'.own r:=fun h=>by
    rcases h with h|h
    ·rw[hb'.w0]at h;omega
    ·rw[hb'.T]at h;exact hrB h
   have hit6:w6.heap[r]? =some (.mapIter (some g) c (seen.push e.born) c):=by
    rw[hR6.below.block r (by rw[hb'.w0];exact hr2) (by rw[hb'.T];exact hrB),hb'.w0]
    exact hset.1
   have hM6:¬M6 r:=fun h=>by
    rcases(hR6.zone r h).2 with h|h
    ·rw[hb'.Z]at h;exact hrM h
    ·exact hno h
   have hR7:=k5.unbase hs' hb' hR6
   refine⟨⟨M6,loc6,r,seen.push e.born,hR7,hit6,hr0,hM6,fun h=>hno (hR6.blk_own h),fun i x hx hc=>?_⟩,?_⟩
   ·rw[contains_push]at hc
    rcases Bool.or_eq_true _ _▸hc with hc|hc
    ·exact hD i x hx hc
    ·have hbe:x.born=e.born:=by simpa using hc
     have:i=j:=by
      rcases Nat.lt_trichotomy i j with hij|hij|hij
      ·have:=hent.age i j x e hij hx hj;omega
      ·exact hij
      ·have:=hent.age j i e x hij hj hx;omega
     rw[this];exact hDj
   ·have hptr6:a6.eval (.tmp it)=.pointer (some ⟨r,0,none⟩):=by
     have:=hR6.ev (.tmp it)
     rw[show Ab.ev (S r).env (.tmp it)=.v (.pointer (some ⟨r,0,none⟩)) from zH (Nat.lt_of_lt_of_le l2 hR.nle) (bK _ _ _)]at this
     exact this.v_inv
    show μ a6 w6<μ a' w'
    simp only[μ,hptr6,hptr,hit6,hit]
    exact left_shrinks es seen e he
  |ret=>
   obtain⟨M6,loc6,hR6⟩:=hr6
   exact⟨st',hq',M6,loc6,k5.unbase hs' hb' hR6⟩
  |_=>exact hq'.elim
def rndQ(P:Program)(X:Ctx)(c:Code)(Q:Exit→St→Prop):Nat→Exit→St→Prop
 |0,.normal,_=>False
 |n+1,.normal,s=>AWP P X c (rndQ P X c Q n) s
 |_,e,s=>Q e s
@[go_sem] theorem rndQ_more{X:Ctx}{c:Code}{Q:Exit→St→Prop}{n:Nat}{s:St}:rndQ P X c Q (n+1) .normal s=AWP P X c (rndQ P X c Q n) s:=by simp only[rndQ]
@[go_sem] theorem rndQ_ret{X:Ctx}{c:Code}{Q:Exit→St→Prop}{n:Nat}{s:St}:rndQ P X c Q n .ret s=Q .ret s:=by cases n<;>simp only[rndQ]
@[go_sem] theorem rndQ_exit{X:Ctx}{c:Code}{Q:Exit→St→Prop}{n i:Nat}{s:St}:rndQ P X c Q n (.exit i) s=Q (.exit i) s:=by cases n<;>simp only[rndQ]
theorem bU{X:Ctx}{c:Code}{Q:Exit→St→Prop}:∀(n:Nat) {st:St},AWP P X c (rndQ P X c Q n) st→AWP P X (.loop c) Q st:=by
 have key:∀(n:Nat) (st:St) (a:Act) (w:World),AWP P X c (rndQ P X c Q n) st→R X st a w→Code.rounds P c (fun e a' w'=>∃st',Q e st'∧R X st' a' w') (n+1) a w:=by
  intro n
  induction n with
  |zero=>
   intro st a w h hr
   refine wp_mono (h a w hr) fun e a' w' ⟨st',hq,hr'⟩=>?_
   cases e<;>first|exact hq.elim|exact⟨st',hq,hr'⟩
  |succ n ih=>
   intro st a w h hr
   refine wp_mono (h a w hr) fun e a' w' ⟨st',hq,hr'⟩=>?_
   cases e<;>first|exact ih st' a' w' hq hr'|exact⟨st',hq,hr'⟩
 intro n st h a w hr
 exact wp_loop_rounds (n+1) (key n st a w h hr)
theorem qS(w:World)(ty r pos c:Nat)(s:ByteArray)(hr:w.heap[r]? =some (.stringIter s pos))(hp:pos<s.size)(hd:Utf8.decode s pos=(c,1)):
  (Instr.next (.pointer (some ⟨r,0,none⟩)) true ty).run P w=.ok (.tuple #[.bool true,.int .i64 pos,.int .i32 c]) (ChangeMaps.setBlock w r (.stringIter s (pos+1))):=by
 simp only[Instr.next,getObj,Sem.run_bind,Sem.run,hr,Result.andThen,hp,if_true,hd,setObj,goInt]
 rfl
theorem o5(w:World)(ty r pos:Nat)(s:ByteArray)(hr:w.heap[r]? =some (.stringIter s pos))(hp:¬pos<s.size):
  (Instr.next (.pointer (some ⟨r,0,none⟩)) true ty).run P w=.ok (.tuple #[.bool false]) w:=by
 simp only[Instr.next,getObj,Sem.run_bind,Sem.run,hr,Result.andThen,hp,if_false]
 rfl
theorem o6(w:World)(T:Nat)(s:ByteArray)(hT:P.underlying T=some .string):
  (Instr.range T (.string s)).run P w=.ok (.pointer (some ⟨w.heap.size,0,none⟩)) (w.alloc (.stringIter s 0)):=by
 simp only[Instr.range,Sem.run_bind,run_underlying hT,Result.andThen_ok,Sem.run_pure]
 rfl
theorem RR.evalNe{X:Ctx}{st:St}{a:Act}(_h:RR X M loc st a w){d t:Nat}(hd:t≠d)(x:Value):(a.put (some d) x).eval (.tmp t)=a.eval (.tmp t):=by
 simp only[Act.eval,Act.put]
 rw[Array.getD_eq_getD_getElem?,Array.getD_eq_getD_getElem?,Array.getElem?_setIfInBounds_ne (Ne.symm hd)]
theorem tY{X:Ctx}{Q:Exit→St→Prop}{st:St}{rest:Code}{bk k3 i7 i8 i9 it nx ok e1 e2 d1 d2 T t2 t3 t4 t5 t6 t7 t8:Nat}{p2 p3 p4 p5 p6 p7 p8:String}{f2 f3 f4 f5 f6 f7 f8:Array Edge}{s:ByteArray}(c:Nat→Nat)(D:Nat→Prop)
  (hT:P.underlying T=some .string) (hdec:∀i,i<s.size→Utf8.decode s i=(c i,1))
  (hlt:it<X.n∧nx<X.n∧ok<X.n∧e1<X.n∧e2<X.n∧d1<X.n∧d2<X.n) (hne:nx≠it∧ok≠it∧e1≠it∧e2≠it∧d1≠it∧d2≠it) (hne2:nx≠ok∧nx≠e1∧e1≠e2∧e2≠d1)
  (hb3:st.env nx=.bad) (hb4:st.env ok=.bad) (hb5:st.env e1=.bad) (hb6:st.env e2=.bad)
  (hbody:∀X' r j,Same X X'→j<s.size→AWP P X' rest (rngQ X' ⟨upd st.env it (.v (.pointer (some ⟨r,0,none⟩))),st.heap⟩ (D j) Q) ⟨upd (upd (upd st.env it (.v (.pointer (some ⟨r,0,none⟩)))) d1 (.v (.int .i64 j))) d2 (.v (.int .i32 (c j))),st.heap⟩)
  (hend:(∀j,j<s.size→D j)→∀r,Q .normal ⟨upd st.env it (.v (.pointer (some ⟨r,0,none⟩))),st.heap⟩):
  AWP P X (.seq (.region i7 #[⟨some it,.range T (.const (.string s)),t2,p2,f2,none⟩] false)
   (.block bk (.loop (.seq (.region i8 #[⟨some nx,.next (.tmp it) true,t3,p3,f3,none⟩,⟨some ok,.extract (.tmp nx) 0,t4,p4,f4,none⟩] false)
    (.seq (.cond (.tmp ok) .skip (.exit bk)) (.block k3 (.seq (.region i9 #[⟨some e1,.extract (.tmp nx) 1,t5,p5,f5,none⟩,⟨some e2,.extract (.tmp nx) 2,t6,p6,f6,none⟩,⟨some d1,.assign (.tmp e1),t7,p7,f7,none⟩,⟨some d2,.assign (.tmp e2),t8,p8,f8,none⟩] false) rest))))))) Q st:=by
 obtain⟨l2,l3,l4,l5,l6,l7,l8⟩:=hlt
 obtain⟨n3,n4,n5,n6,n7,n8⟩:=hne
 obtain⟨m1,m2,m3,m4⟩:=hne2
 rintro a w ⟨M,loc,hr⟩
 refine wp_seq (wp_region_list ?_)
 refine bW (v:=.pointer (some ⟨w.heap.size,0,none⟩)) (w':=w.alloc (.stringIter s 0)) rfl (by simp[execOp,Act.eval,o6 w T s hT]) ?_
 have hbel:Below w.heap.size w (w.alloc (.stringIter s 0)):=⟨rfl,rfl,rfl,by simp,fun k hk=>Below.heap_alloc w _ k hk⟩
 have h2:=hr.world hbel (fun _ hb=>hb) (fun b hb=>.inl hb)
 have h3:=h2.put (d:=it) (e:=.v (.pointer (some ⟨w.heap.size,0,none⟩))) l2 (RepZ.v _).rep trivial
 refine wp_block ?_
 let S:Nat→St:=fun r=>⟨upd st.env it (.v (.pointer (some ⟨r,0,none⟩))),st.heap⟩
 let I:Act→World→Prop:=fun a' w'=>∃M loc r pos,RR X M loc (S r) a' w'∧w'.heap[r]? =some (.stringIter s pos)∧X.w0.heap.size≤r∧¬M r∧¬blks st.heap loc r∧pos≤s.size∧∀j,j<pos→D j
 let μ:Act→World→Nat:=fun a w=>match a.eval (.tmp it)with
  | .pointer (some ⟨r,_,_⟩)=>match w.heap[r]? with
    |some (.stringIter _ pos)=>s.size-pos
    |_=>0
  |_=>0
 refine wp_loop I μ ⟨M,loc,w.heap.size,0,h3,heap_alloc_new w _,hr.below.size,fun hm=>?_,fun hb=>?_,Nat.zero_le _,fun j h=>absurd h (Nat.not_lt_zero _)⟩ fun a' w' hI=>?_
 ·have:=(hr.zone _ hm).1;omega
 ·rcases hb with⟨id,o,ho,hb⟩|⟨id,m,hm,hb⟩
  ·obtain⟨xs,hown,_⟩:=(hr.obj id o ho).own
   have:=(hown.lt _ hb).2;omega
  ·obtain⟨g2,es2,c2,q1,q2,q3,q4,_⟩:=(hr.mobj id m hm).own
   rw[hb]at q1
   cases q1
   have:=(Array.getElem?_eq_some_iff.1 q4).1;omega
 clear h2 h3 hbel hr
 obtain⟨M,loc,r,pos,hR,hit,hr0,hrM,hrB,hps,hD⟩:=hI
 have hptr:a'.eval (.tmp it)=.pointer (some ⟨r,0,none⟩):=by
  have:=hR.ev (.tmp it)
  rw[show Ab.ev (S r).env (.tmp it)=.v (.pointer (some ⟨r,0,none⟩)) from zH (Nat.lt_of_lt_of_le l2 hR.nle) (bK _ _ _)]at this
  exact this.v_inv
 have bad:∀{d},d≠it→st.env d=.bad→(S r).env d=.bad:=fun h1 h2=>(aX _ _ _ h1).trans h2
 refine wp_seq (wp_region_list ?_)
 by_cases hp:pos<s.size
 ·have hrun:=qS (P:=P) w' t3 r pos (c pos) s hit hp (hdec pos hp)
  have hset:(ChangeMaps.setBlock w' r (.stringIter s (pos+1))).heap[r]? =some (.stringIter s (pos+1))∧∀r',r'≠r→(ChangeMaps.setBlock w' r (.stringIter s (pos+1))).heap[r']? =w'.heap[r']? :=MapKept.heap_set hit
  generalize hw2:ChangeMaps.setBlock w' r (.stringIter s (pos+1))=w2 at hrun hset
  have hgb:w'.grownBy w2 (some r):=by
   subst hw2
   exact⟨rfl,rfl,rfl,by simp[ChangeMaps.setBlock],fun i _ hi=>hset.2 i (fun e1=>hi (by rw[e1]))⟩
  have hR2:=hR.other hgb hrM hrB (.inl hr0)
  refine bW (v:=.tuple #[.bool true,.int .i64 pos,.int .i32 (c pos)]) (w':=w2) rfl (by simp[execOp,hptr,hrun]) ?_
  have k1:=hR2.putB l3 (bad n3 hb3) (.tuple #[.bool true,.int .i64 pos,.int .i32 (c pos)])
  refine bW (v:=.bool true) (w':=w2) rfl (by simp[execOp,hR2.evalAt l3,Instr.extract]) ?_
  have k2:=k1.putB l4 (bad n4 hb4) (.bool true)
  refine wp_seq (wp_cond_true (k1.evalAt l4 _) (wp_skip ?_))
  refine wp_block (wp_seq (wp_region_list ?_))
  have x1:=(k1.evalNe m1 (.bool true)).trans (hR2.evalAt l3 (.tuple #[.bool true,.int .i64 pos,.int .i32 (c pos)]))
  refine bW (v:=.int .i64 pos) (w':=w2) rfl (by simp[execOp,x1,Instr.extract]) ?_
  have k3:=k2.putB l5 (bad n5 hb5) (.int .i64 pos)
  have x2:=(k2.evalNe m2 (.int .i64 pos)).trans x1
  refine bW (v:=.int .i32 (c pos)) (w':=w2) rfl (by simp[execOp,x2,Instr.extract]) ?_
  have k4:=k3.putB l6 (bad n6 hb6) (.int .i32 (c pos))
  have x3:=(k3.evalNe m3 (.int .i32 (c pos))).trans (k2.evalAt l5 (.int .i64 pos))
  refine bW (v:=.int .i64 pos) (w':=w2) rfl (by simp[execOp,x3]) ?_
  have k5:=k4.put (d:=d1) (e:=.v (.int .i64 pos)) l7 (RepZ.v _).rep trivial
  have x4:=(k4.evalNe m4 (.int .i64 pos)).trans (k3.evalAt l6 (.int .i32 (c pos)))
  refine bW (v:=.int .i32 (c pos)) (w':=w2) rfl (by simp[execOp,x4]) ?_
  have k6:=k5.put (d:=d2) (e:=.v (.int .i32 (c pos))) l8 (RepZ.v _).rep trivial
  obtain⟨X',hs',hb',hR'⟩:=k6.rebase
  refine wp_mono (hbody X' r pos hs' hp _ w2 ⟨M,loc,hR'⟩) fun ex a6 w6 ⟨st',hq',hr6⟩=>?_
  cases ex with
  |normal=>
   obtain⟨hDj,hsub⟩:=hq'
   obtain⟨M6,loc6,hR6⟩:=hsub a6 w6 hr6
   have hr2:r<w2.heap.size:=(Array.getElem?_eq_some_iff.1 hset.1).1
   have hno:¬X'.own r:=fun h=>by
    rcases h with h|h
    ·rw[hb'.w0]at h;omega
    ·rw[hb'.T]at h;exact hrB h
   have hit6:w6.heap[r]? =some (.stringIter s (pos+1)):=by
    rw[hR6.below.block r (by rw[hb'.w0];exact hr2) (by rw[hb'.T];exact hrB),hb'.w0]
    exact hset.1
   have hM6:¬M6 r:=fun h=>by
    rcases(hR6.zone r h).2 with h|h
    ·rw[hb'.Z]at h;exact hrM h
    ·exact hno h
   have hR7:=k6.unbase hs' hb' hR6
   refine⟨⟨M6,loc6,r,pos+1,hR7,hit6,hr0,hM6,fun h=>hno (hR6.blk_own h),hp,fun i hi=>?_⟩,?_⟩
   ·by_cases e:i=pos
    ·subst e;exact hDj
    ·exact hD i (by omega)
   ·have hptr6:a6.eval (.tmp it)=.pointer (some ⟨r,0,none⟩):=by
     have:=hR6.ev (.tmp it)
     rw[show Ab.ev (S r).env (.tmp it)=.v (.pointer (some ⟨r,0,none⟩)) from zH (Nat.lt_of_lt_of_le l2 hR.nle) (bK _ _ _)]at this
     exact this.v_inv
    show μ a6 w6<μ a' w'
    simp only[μ,hptr6,hptr,hit6,hit]
    omega
  |ret=>
   obtain⟨M6,loc6,hR6⟩:=hr6
   exact⟨st',hq',M6,loc6,k6.unbase hs' hb' hR6⟩
  |_=>exact hq'.elim
 ·have hrun:=o5 (P:=P) w' t3 r pos s hit hp
  refine bW (v:=.tuple #[.bool false]) (w':=w') rfl (by simp[execOp,hptr,hrun]) ?_
  have k1:=hR.putB l3 (bad n3 hb3) (.tuple #[.bool false])
  refine bW (v:=.bool false) (w':=w') rfl (by simp[execOp,hR.evalAt l3,Instr.extract]) ?_
  have k2:=k1.putB l4 (bad n4 hb4) (.bool false)
  refine wp_seq (wp_cond_false (k1.evalAt l4 _) (wp_exit ?_))
  simp only[Exit.then,Exit.inBlock,if_true]
  exact⟨S r,hend (fun j hj=>hD j (by omega)) r,M,loc,k2⟩
theorem CO(loc:Nat→Value):blks [] loc=fun _=>False:=by
 funext b
 simp[blks]
def MeansS(P:Program)(f:FuncId)(r:AV)(S:List Cell→Prop):Prop:=
 ∀(w:World) (M:Nat→Prop),(∀b,M b→b<w.heap.size)→GlobW w M→Calls P f #[] w fun e w'=>∃H',S H'∧PostH w M (fun _=>undef) [] r H' e w'
theorem y4{f:FuncId}{fn:Func}{c:Code}{r:AV}{S:List Cell→Prop}(N:Nat)(rs:List ResultVar)(hf:P.funcs[f]? =some fn)(hb:fn.body=some c)(hN:fn.ntmps=N)(hrs:fn.results.toList=rs)(hG:N≤G0)
  (h:∀X:Ctx,X.n=N→AWP P X c (fun e st=>∃H',S H'∧retH P rs 0 r H' e st) ⟨argE 0 [],[]⟩):MeansS P f r S:=by
 subst hN;subst hrs
 intro w M hM hgl
 refine calls_of_wp hf hb ?_
 obtain⟨X,t,hXn,hd,hrr⟩:=kD (fn:=fn) (H:=[]) (args:=[]) (loc:=fun _=>undef) (vs:= #[]) (Nat.zero_le _) hG hM hgl ⟨by simp,by simp,by simp,by simp,by simp⟩ rfl (by simp)
 refine wp_mono (h X hXn _ w hrr) fun e a' w' ⟨st',hq,hr⟩=>?_
 have hdf:a'.defers=[]:=by obtain⟨_,_,h1⟩:=hr;rw[h1.defers,hd]
 obtain⟨H',hS,hq⟩:=hq
 cases e with
 |normal=>
  obtain⟨v,h1,h2⟩:=dC t hr hq
  exact⟨hdf,v,h1,H',hS,h2⟩
 |ret=>
  obtain⟨v,h1,h2⟩:=dC t hr hq
  exact⟨hdf,v,h1,H',hS,h2⟩
 |exit i=>exact hq.elim
 |goto l=>exact hq.elim
 |panic c=>exact hq.elim
 |outgrown=>exact hq.elim
theorem y5{X:Ctx}{Q:Exit→St→Prop}{st:St}{id N:Nat}{o:Oper}{l:List Oper}{c:Call}{f:FuncId}{r:AV}{S:List Cell→Prop}(G:List Nat)(hX:X.n=N)(hm:MeansS P f r S)(ho:o.op=.call c)(hg:o.guard=none)(hd:∀d,o.dst=some d→d<N)
  (ht:tgt (Ab.ev st.env) c.callee=some (f,[],[])) (ha:c.args= #[]) (hcall:callable P f=true)
  (h:∀H',S H'→runK P ⟨o::l⟩ N false (fun v s=>Q (panCh v) (prune G s)) l true (fun s=>Q .normal (prune G s)) ⟨putE st.env o.dst (ren (upN [] st.heap.length) r),heapAfter st.heap [] H'⟩):AWP P X (.region id ⟨o::l⟩ false) Q st:=by
 subst hX
 rintro a w ⟨M,loc,hr⟩
 refine wp_region_list ?_
 show wpList P _ _ (o::l) a w
 unfold wpList
 rw[if_pos (by simp[Region.wanted,hg])]
 refine .inl ?_
 unfold Oper.wp
 obtain⟨vs,h1,h2,h3⟩:=dU hr ho (fun x _=>hr.ev x) (u:=fun i=>i) (m:=0) (largs:=[]) ht hcall (by rw[ha];simp[okArgs])
 rw[h1]
 have hvs:vs= #[]:=Array.eq_empty_of_size_eq_zero h2
 subst hvs
 refine(hm w M (fun b hb=>(hr.zone b hb).1) (hr.globW fun _ h=>h)).mono fun e w' ⟨H',hS,hp⟩=>?_
 obtain⟨x,M',loc',rfl,q1,q2,q3⟩:=jL (C:=fun R=>R e w') (E:=fun e x=>e=.returned x) (fun _ _ hi hc=>hi _ _ hc) hr (H:=[]) (args:=[]) (vs:= #[]) (r:=r) (H':=H') (fun loc _ _=>by
  unfold PostH at hp
  rw[CO]at hp⊢
  simpa using hp) [] List.nodup_nil rfl (by simp) (by simp) (fun i o h=>by simp at h) (by simp)
 exact wY (K:=fun s=>Q .normal (prune G s)) (qp:=fun v s=>Q (panCh v) (prune G s)) (Q:=fun e a' w'=>∃st',Q e st'∧R X st' a' w') (fun st' a' w' hk hr'=>⟨_,hk,cK G a' w' hr'⟩) (fun pv st' a' w' hk hr'=>⟨_,hk,cK G a' w' hr'⟩) l _ _ _ (h H' hS) ⟨M',loc',q1.putO hd q2 q3⟩
def normO(o:Oper):Oper:=match o.op with
 | .insert t m k x=>{o with op:=.mapUpdate t m k x}
 |_=>o
theorem sK{o:Oper}{a:Act}{K:Act→World→Prop}{Q:Exit→Act→World→Prop}(h:(normO o).wp P a w K Q):o.wp P a w K Q:=by
 obtain⟨dst,op,ty,pos,after,guard⟩:=o
 cases op<;>exact h
theorem uV(o:Oper):(normO o).guard=o.guard∧(normO o).dst=o.dst:=by
 unfold normO
 split<;>exact⟨rfl,rfl⟩
theorem rO{X:Ctx}{Q:Exit→St→Prop}{st:St}{id N:Nat}{ops:Array Oper}(G:List Nat)(hX:X.n=N)(h:runK P ops N false (fun v s=>Q (panCh v) (prune G s)) (ops.toList.map normO) true (fun s=>Q .normal (prune G s)) st):AWP P X (.region id ops false) Q st:=by
 subst hX
 intro a w hr
 refine wp_region_list ?_
 refine dF (P:=P) (X:=X) (ops:=ops) (dr:=false) (qp:=fun v s=>Q (panCh v) (prune G s)) (K:=fun s=>Q .normal (prune G s)) (Q:=fun e a' w'=>∃st',Q e st'∧R X st' a' w') (W:=fun l a w=>∀l0,l=l0.map normO→wpList P ops (fun e a' w'=>∃st',Q e st'∧R X st' a' w') l0 a w)
  (fun o l a w this l0 hl=>?_) (fun st' a' w' hk hr' l0 hl=>?_) (fun pv st' a' w' hk hr'=>⟨_,hk,cK G a' w' hr'⟩) (ops.toList.map normO) st a w h hr _ rfl
 ·cases l0 with
  |nil=>simp at hl
  |cons o0 l1=>
   simp only[List.map_cons,List.cons.injEq]at hl
   obtain⟨rfl,rfl⟩:=hl
   obtain⟨h1,h2⟩:=uV o0
   have hw:Region.wanted (normO o0) (yielded ops a.tmps)=Region.wanted o0 (yielded ops a.tmps):=by simp only[Region.wanted,h1]
   rw[hw,h2]at this
   unfold wpList
   split
   ·rename_i hp
    rw[if_pos hp]at this
    exact .inl (sK (Oper.wp_mono (fun a w h=>h _ rfl) this))
   ·rename_i hp
    rw[if_neg hp]at this
    exact this _ rfl
 ·cases l0 with
  |nil=>exact⟨_,hk,cK G a' w' hr'⟩
  |cons o0 l1=>simp at hl
def wpL(P:Program)(ops:Array Oper)(Q:Exit→Act→World→Prop)(K:Act→World→Prop):List Oper→Act→World→Prop
 | [],a,w=>K a w
 |o::l,a,w=>if Region.wanted o (yielded ops a.tmps)=true then o.wp P a w (wpL P ops Q K l) Q else wpL P ops Q K l (a.put o.dst undef) w
def backOK(ops:Array Oper):Bool:=ops.toList.zipIdx.all fun(oj,j)=>oj.after.all fun e=> !Region.binds .any e||decide (e.on<j)
theorem oG{X:Ctx}{Q:Exit→St→Prop}{st:St}{id N:Nat}{ops:Array Oper}(hX:X.n=N)(hm:P.follows .mixedOrders=true)(J:(Nat→Bool)→St→Prop)(h0:J (fun _=>false) st)(hback:backOK ops=true)
  (hstep:∀i o D s,ops[i]? =some o→(∀e∈o.after,Region.binds .any e=true→D e.on=true)→D i=false→J D s→o.guard=none∧runK P ops N false (fun v s=>Q (panCh v) s) [normO o] true (fun s'=>∃s'',J (fun j=>D j||j==i) s''∧Sub X s'' s') s)
  (hq:∀D s,(∀i,i<ops.size→D i=true)→J D s→Q .normal s):AWP P X (.region id ops true) Q st:=by
 subst hX
 intro a w hr
 refine wp_region_any hm ?_
 have hbk:∀j o,ops[j]? =some o→∀e∈o.after,Region.binds .any e=true→e.on<j:=by
  intro j o hj e he hb
  simp only[backOK,List.all_eq_true]at hback
  have:=hback (o,j) (by rw[List.mem_zipIdx_iff_getElem?];simpa using hj)
  rw[Array.all_eq_true']at this
  have:=this e he
  simp only[hb,Bool.not_true,Bool.false_or,decide_eq_true_eq]at this
  exact this
 have key:∀(fuel:Nat) (listed:Array Bool) (s:St) (a:Act) (w:World),listed.size=ops.size→(leftL ops listed).length=fuel→J (fun i=>listed.getD i false) s→R X s a w→
   wpAny P .any ops (fun e a' w'=>∃st',Q e st'∧R X st' a' w') fuel listed a w:=by
  intro fuel
  induction fuel with
  |zero=>
   intro listed s a w hs hl hJ hR
   have h0:leftL ops listed=[]:=List.eq_nil_of_length_eq_zero hl
   refine⟨?_,s,hq _ s (fun i hi=>?_) hJ,hR⟩
   ·refine List.eq_nil_iff_forall_not_mem.2 fun i hi=>?_
    have:=(cF.1 hi).1
    rw[h0]at this;cases this
   ·cases hg:listed.getD i false with
    |true=>rfl
    |false=>
     exfalso
     have:i∈leftL ops listed:=by
      simp only[leftL,List.mem_filter,List.mem_range,Bool.not_eq_true']
      refine⟨hi,?_⟩
      have hil:i<listed.size:=by omega
      rw[Array.getD_eq_getD_getElem?,Array.getElem?_eq_getElem hil]at hg⊢
      exact hg
     rw[h0]at this;cases this
  |succ fuel ih=>
   intro listed s a w hs hl hJ hR
   refine⟨fun h0=>?_,fun i hi=>?_⟩
   ·exfalso
    cases hL:leftL ops listed with
    |nil=>rw[hL]at hl;simp at hl
    |cons k L=>
     have hk:k∈leftL ops listed:=by rw[hL];simp
     have:k∈Region.ready .any ops listed:=by
      refine cF.2 ⟨hk,fun o ho e he hbn=>?_⟩
      have hlt:=hbk k o ho e he hbn
      have hkk:k<ops.size:=(Array.getElem?_eq_some_iff.1 ho).1
      cases hg:listed.getD e.on false with
      |true=>rfl
      |false=>
       exfalso
       have hsz:e.on<listed.size:=by omega
       have hmem:e.on∈leftL ops listed:=by
        simp only[leftL,List.mem_filter,List.mem_range,Bool.not_eq_true']
        refine⟨by omega,?_⟩
        rw[Array.getD_eq_getD_getElem?,Array.getElem?_eq_getElem hsz]at hg⊢
        exact hg
       have hsort:=bZ ops listed
       rw[hL]at hsort hmem
       rcases List.mem_cons.1 hmem with h|h
       ·omega
       ·have:=(List.pairwise_cons.1 hsort).1 _ h;omega
     rw[h0]at this;cases this
   ·obtain⟨hil,hip⟩:=cF.1 hi
    have hil2:=hil
    simp only[leftL,List.mem_filter,List.mem_range,Bool.not_eq_true']at hil2
    have hoi:ops[i]? =some ops[i]:=Array.getElem?_eq_getElem hil2.1
    have hfi:listed.getD i false=false:=by
     have h2:=hil2.2
     have hsz:i<listed.size:=by omega
     rw[Array.getD_eq_getD_getElem?,Array.getElem?_eq_getElem hsz]at h2⊢
     exact h2
    obtain⟨hgd,hrun⟩:=hstep i _ _ s hoi (fun e he hb=>hip _ hoi e he hb) hfi hJ
    unfold wpOp
    rw[hoi]
    simp only[]
    have hw:Region.wanted ops[i] (yielded ops a.tmps)=true:=by simp[Region.wanted,hgd]
    rw[if_pos hw]
    refine .inl (sK ?_)
    have hwn:Region.wanted (normO ops[i]) (yielded ops a.tmps)=true:=by
     have:(normO ops[i]).guard=none:=by
      unfold normO
      split
      ·exact hgd
      ·exact hgd
     simp[Region.wanted,this]
    have:=dF (P:=P) (X:=X) (ops:=ops) (Q:=fun e a' w'=>∃st',Q e st'∧R X st' a' w') (dr:=false) (qp:=fun v s=>Q (panCh v) s) (W:=wpL P ops (fun e a' w'=>∃st',Q e st'∧R X st' a' w') (wpAny P .any ops (fun e a' w'=>∃st',Q e st'∧R X st' a' w') fuel (listed.setIfInBounds i true))) (fun o l a w h=>h)
     (K:=fun s'=>∃s'',J (fun j=>listed.getD j false||j==i) s''∧Sub X s'' s') (fun s' a' w' ⟨s'',hJ',hsub⟩ hr'=>by
      refine ih (listed.setIfInBounds i true) s'' a' w' (by simpa using hs) ?_ ?_ (hsub a' w' hr')
      ·obtain⟨A,B,hAB,hA,hf⟩:=iU (bZ ops listed) hil
       rw[eJ hs hil,hf]
       rw[hAB]at hl
       simp at hl⊢;omega
      ·have:(fun j=>(listed.setIfInBounds i true).getD j false)=fun j=>listed.getD j false||j==i:=by
        funext j
        by_cases hj:j=i
        ·subst hj
         rw[Array.getD_eq_getD_getElem?,Array.getElem?_setIfInBounds_self_of_lt (by omega)]
         simp
        ·rw[Array.getD_eq_getD_getElem?,Array.getElem?_setIfInBounds_ne (by omega),←Array.getD_eq_getD_getElem?]
         simp[hj]
       rw[this];exact hJ') (fun pv s' a' w' hq hr'=>⟨s',hq,hr'⟩) [normO ops[i]] s a w hrun hR
    unfold wpL at this
    rw[if_pos hwn]at this
    exact this
 refine key ops.size _ st a _ (by simp) ?_ ?_ hr.drew
 ·have hall:leftL ops (Array.replicate ops.size false)=List.range ops.size:=by
   unfold leftL
   refine List.filter_eq_self.2 fun i hi=>?_
   simp only[List.mem_range]at hi
   rw[Array.getD_eq_getD_getElem?]
   simp[hi]
  rw[hall];simp
 ·have:(fun i=>(Array.replicate ops.size false).getD i false)=fun _=>false:=by
   funext i
   rw[Array.getD_eq_getD_getElem?,Array.getElem?_replicate]
   split<;>rfl
  rw[this];exact h0
theorem j7{X:Ctx}{E:Nat→AV}{H:List Cell}{d:Nat}{o:Ob}(hd:d<G0)(hz:zoneEs o.es=true):Sub X ⟨upd E d (.sl o.es),H++[.dead]⟩ ⟨upd E d (.ow H.length),H++[.row o]⟩:=by
 rintro a w ⟨M,loc,h⟩
 have ho:(⟨upd E d (.ow H.length),H++[.row o]⟩:St).heap[H.length]? =some (.row o):=by simp
 have hk:=h.kill [H.length]
 have hf:=h.frozenRow ho hz (M':=fun b=>M b∨∃id∈[H.length],∃o2,(H++[Cell.row o])[id]? =some (.row o2)∧(loc id).ownBlock=some b) (fun b hb=>.inl hb) (fun g hg=>.inr ⟨_,by simp,o,ho,hg⟩)
 have hH:killH (H++[.row o]) [H.length]=H++[.dead]:=by simp[killH]
 simp only[hH]at hk
 refine⟨_,loc,fun s=>?_,hk.nle,hk.size,hk.defers,hk.obj,hk.sep,hk.mobj,hk.msep,hk.below,hk.zone,hk.zin,hk.zlt,hk.one,fun s=>?_⟩
 ·have hs:=hk.env s
  show Rep w _ loc _ (upd E d _ s)
  by_cases e:s=d
  ·subst e
   rw[show(⟨upd E s (.ow H.length),H++[Cell.dead]⟩:St).env s=.ow H.length from bK _ _ _]at hs
   rw[bK]
   have e2:(if s<G0 then a.tmps.getD s undef else X.gh (s-G0))=loc H.length:=hs
   rw[e2]
   exact hf.rep
  ·rw[show(⟨upd E d (.ow H.length),H++[Cell.dead]⟩:St).env s=E s from aX _ _ _ e]at hs
   rw[aX _ _ _ e]
   exact hs
 ·have:=hk.ids s
  show(upd E d _ s).idLt _
  by_cases e:s=d
  ·subst e
   rw[bK]
   exact bC (by simpa[AV.zone,zoneEs]using hz) _
  ·rw[show(⟨upd E d (.ow H.length),H++[Cell.dead]⟩:St).env s=E s from aX _ _ _ e]at this
   rw[aX _ _ _ e]
   exact this
end
end Go.Ab

namespace Go.Ab
open Go.RowKit
def MeansV(fr:Bool)(P:Program)(f:FuncId)(args:List AV)(R0:AV→Prop):Prop:=
 ∀(M:Nat→Prop) (w:World) (vs:Array Value),(∀b,M b→b<w.heap.size)→GlobW w M→vs.size=args.length→
  (∀(j:Nat) (x:Value) (e:AV),vs[j]? =some x→args[j]? =some e→RepZ w M x e)→
  Calls P f vs w fun e w'=>∃r,R0 r∧∃x,e=.returned x∧Below w.heap.size w w'∧RepZ w' (fun b=>b<w'.heap.size∧(w.heap.size≤b∨(fr=false∧M b))) x r
theorem zI{P:Program}{f:FuncId}{fn:Func}{c:Code}{args:List AV}{R0:AV→Prop}(fr:Bool)(hf:P.funcs[f]? =some fn)(hb:fn.body=some c)(hn:args.length≤fn.ntmps)(hG:fn.ntmps≤G0)(hz:args.all AV.zone=true)
  (h:∀X:Ctx,X.n=fn.ntmps→AWP P X c (retQ P fn.results.toList fr R0) ⟨argE 0 args,[]⟩):MeansV fr P f args R0:=by
 intro Z w vs hZ hgl hl hvs
 refine calls_of_wp hf hb ?_
 let X:Ctx:=⟨w,Z,fn.ntmps,fun _=>False,fun _=>undef,⟨hgl,fun _ _ h=>h,fun _ _ h=>h⟩,[]⟩
 have hown:∀b,X.own b↔w.heap.size≤b:=fun b=>⟨fun h=>h.elim id False.elim,.inl⟩
 let a0:Act:={tmps:=vs++Array.replicate (fn.ntmps-vs.size) undef,defers:=[]}
 have hrr:RR X Z (fun _=>undef) ⟨argE 0 args,[]⟩ a0 w:=by
  have hzz:∀s,(argE 0 args s).zone=true:=by
   intro s
   rw[gA 0 s args (by omega),List.getD_eq_getElem?_getD]
   cases hs:args[s-0]? with
   |none=>rfl
   |some e=>exact List.all_eq_true.1 hz e (List.mem_of_getElem? hs)
  refine⟨fun s=>?_,hG,by simp[a0,X];omega,rfl,fun id o ho=>by simp at ho,fun i j oi oj _ hi=>by simp at hi,fun id m hm=>by simp at hm,fun i j mi mj _ hi=>by simp at hi,⟨rfl,rfl,rfl,Nat.le_refl _,fun _ _ _=>rfl⟩,fun b hb=>⟨hZ b hb,.inl hb⟩,fun b hb=>hb,fun b hb=>hZ b hb,fun id hid=>by simp at hid,fun s=>bC (hzz s) _⟩
  show Rep w Z _ _ (argE 0 args s)
  by_cases hs:s<G0
  ·rw[if_pos hs]
   exact k9 hl hn (fun j x e h1 h2=>(hvs j x e h1 h2).rep) s
  ·rw[jK (by omega)];exact(RepZ.bad _).rep
 refine wp_mono (h X rfl a0 w ⟨Z,_,hrr⟩) fun e a' w' ⟨st',hq,hr⟩=>?_
 obtain⟨M,loc,hr⟩:=hr
 have key:(match resL P st' fn.results.toList with
  |some (p,vs)=>p∧R0 (packA vs)∧(fr=true→(packA vs).scal=true∨(fn.results.toList.all (fun r=>freshA st' r)=true))
  |none=>False)→
   a'.defers=[]∧∃v,(results fn a'.tmps).run P w'=.ok v w'∧∃r,R0 r∧∃x,Ending.returned v=.returned x∧Below w.heap.size w w'∧RepZ w' (fun b=>b<w'.heap.size∧(w.heap.size≤b∨(fr=false∧Z b))) x r:=by
  intro hq
  split at hq
  case h_2=>exact hq.elim
  rename_i p rvs h1
  obtain⟨h2,h3r,h3⟩:=hq
  obtain⟨xs,e1,e2,e3,e4⟩:=qF (P:=P) hr fn.results.toList p rvs h1 h2
  refine⟨hr.defers,(if h:xs.toArray.size=1 then xs.toArray[0]else .tuple xs.toArray),?_,_,h3r,_,rfl,⟨hr.below.os,hr.below.tape,hr.below.output,hr.below.size,fun k hk=>hr.below.block k hk (fun h=>h)⟩,?_⟩
  ·rw[fN,Array.mapM_eq_mapM_toList]
   simp only[Sem.run_map,Sem.run_bind,e1,Result.andThen_ok,Sem.run_pure]
  ·have pack:∀(N:Nat→Prop),(∀(j:Nat) (x:Value) (v:AV),xs[j]? =some x→rvs[j]? =some v→RepZ w' N x v)→RepZ w' N (if h:xs.toArray.size=1 then xs.toArray[0]else .tuple xs.toArray) (packA rvs):=by
    intro N hN
    match xs,rvs,e2 with
    | [],[],_=>exact .tup #[] [] rfl (by simp)
    | [x],[v],_=>exact hN 0 x v rfl rfl
    |x::y::xs,v::u::vs,hl=>
     have hne:¬(x::y::xs).toArray.size=1:=by simp
     rw[dif_neg hne]
     exact .tup _ _ (by simpa using hl) (fun j c e hc he=>hN j c e (by simpa using hc) he)
   cases fr with
   |false=>exact(pack _ e3).mono (fun _ _=>rfl) (fun b hb=>⟨hb.1,hb.2.imp (hown b).1 fun hz=>⟨rfl,hz⟩⟩)
   |true=>
    rcases h3 rfl with h3|h3
    ·exact(pack _ e3).of_scal h3
    ·exact(pack _ (e4 h3)).mono (fun _ _=>rfl) (fun b hb=>⟨hb.1,.inl ((hown b).1 hb.2)⟩)
 cases e with
 |normal=>exact key hq
 |ret=>exact key hq
 |exit i=>exact hq.elim
 |goto l=>exact hq.elim
 |panic c=>exact hq.elim
 |outgrown=>exact hq.elim
theorem zJ{P:Program}{f:FuncId}{fn:Func}{c:Code}{args:List AV}{R0:AV→Prop}(fr:Bool)(N:Nat)(rs:List ResultVar)(hf:P.funcs[f]? =some fn)(hb:fn.body=some c)(hN:fn.ntmps=N)(hrs:fn.results.toList=rs)(hn:args.length≤N)(hG:N≤G0)(hz:args.all AV.zone=true)
  (h:∀X:Ctx,X.n=N→AWP P X c (retQ P rs fr R0) ⟨argE 0 args,[]⟩):MeansV fr P f args R0:=by
 subst hN;subst hrs
 exact zI fr hf hb hn hG hz h
theorem MeansV.e{P:Program}{f:FuncId}{args:List AV}{fr:Bool}{R0:AV→Prop}(h:MeansV fr P f args R0)(hz:args.all AV.zone=true)(hr:∀r,R0 r→r.idLt 0):MeansE P f [] args fun r H=>R0 r∧H=[]:=by
 intro w M loc vs hM hg h0 hl hvs
 refine(h M w vs hM hg hl fun j x e h1 h2=>(hvs j x e h1 h2).1.repZ (List.all_eq_true.1 hz e (List.mem_of_getElem? h2))).mono fun e w' ⟨r,hr0,x,he,hb,hrep⟩=>?_
 refine⟨r,[],⟨hr0,rfl⟩,x,fun b=>b<w'.heap.size∧(w.heap.size≤b∨M b),loc,he,⟨by simp,by simp,by simp,by simp,by simp⟩,⟨hb.os,hb.tape,hb.output,hb.size,fun k hk _=>hb.block k hk⟩,fun b hb2=>⟨Nat.lt_of_lt_of_le (hM b hb2) hb.size,.inr hb2⟩,fun b hb2=>⟨hb2.1,hb2.2.elim (fun h=>.inr (.inl h)) .inl⟩,fun _ _=>rfl,(hrep.mono (fun _ _=>rfl) fun b hb2=>⟨hb2.1,hb2.2.imp id (·.2)⟩).rep,hr r hr0,Nat.le_refl _⟩
end Go.Ab

/-
  The rules of the walks with what they find by themselves.
-/
namespace Go.Ab
open Go.RowKit
/-- The number of slots, and which of them are looked at. -/
def HX(X:Ctx)(N:Nat)(_G:List Nat):Prop:=X.n=N
theorem yA{P:Program}{X:Ctx}{N:Nat}{Q:Exit→St→Prop}{st:St}{c:Code}{G:List Nat}(h:stepG P X N G Q st c)(hX:HX X N G:=by assumption)(hm:P.follows .mixedOrders=true:=by exact mixed)(hc:isStep c=true:=by rfl):AWP P X c Q st:=aU G hX hm hc h
theorem yB{P:Program}{X:Ctx}{N:Nat}{Q:Exit→St→Prop}{st:St}{c:Code}{G:List Nat}(h:stepG P X N G Q st c)(hX:HX X N G:=by assumption)(hm:P.follows .mixedOrders=true:=by exact mixed)(hc:isStepH c=true:=by rfl):AWP P X c Q st:=a7 G hX hm hc h
theorem yC{P:Program}{X:Ctx}{Q:Exit→St→Prop}{st:St}{c:Operand}{x y:Code}(b:Bool)(h1:b=true→AWP P X x Q st)(h2:b=false→AWP P X y Q st)(hc:ev st.env c=.v (.bool b):=by simp[go_sem]):AWP P X (.cond c x y) Q st:=f9 hc h1 h2
theorem yF{P:Program}{X:Ctx}{Q:Exit→St→Prop}{st:St}{c:Operand}{x y:Code}(h:AWP P X y Q st)(hc:ev st.env c=.v (.bool false):=by simp[go_sem]):AWP P X (.cond c x y) Q st:=a8 hc h
theorem yT{P:Program}{X:Ctx}{Q:Exit→St→Prop}{st:St}{c:Operand}{x y:Code}(h:AWP P X x Q st)(hc:ev st.env c=.v (.bool true):=by simp[go_sem]):AWP P X (.cond c x y) Q st:=aC hc h
theorem yS{X:Ctx}{st:St}(L:List (Nat×AV))(HS:List Src)(hL:okL HS st L)(hS:okS HS st.heap HS:=by simp[go_sem]):Sub X ⟨mkE L,HS.map Src.cell⟩ st:=HR L HS hS hL
theorem yM{P:Program}{f:FuncId}{fn:Func}{c:Code}{args:List AV}{r:AV}(fr:Bool)(N:Nat)(rs:List ResultVar)(G:List Nat)(hf:P.funcs[f]? =some fn)(h:∀X:Ctx,HX X N G→AWP P X c (retQ P rs fr (fun v=>v=r)) ⟨argE 0 args,[]⟩)(hb:fn.body=some c:=by rfl)(hN:fn.ntmps=N:=by rfl)(hrs:fn.results.toList=rs:=by rfl)(hn:args.length≤N:=by simp)(hG:N≤G0:=by decide)(hz:args.all AV.zone=true:=by rfl):Means fr P f args r:=CP fr N rs hf hb hN hrs hn hG hz h
theorem yN{P:Program}{f:FuncId}{fn:Func}{c:Code}{H H':List Cell}{args:List AV}{r:AV}(m:Nat)(N:Nat)(rs:List ResultVar)(G:List Nat)(hf:P.funcs[f]? =some fn)(h:∀X:Ctx,HX X N G→AWP P X c (retH P rs m r H') ⟨ghE m (argE 0 args),H⟩)(hb:fn.body=some c:=by rfl)(hN:fn.ntmps=N:=by rfl)(hrs:fn.results.toList=rs:=by rfl)(hn:args.length≤N:=by simp)(hG:N≤G0:=by decide)(hm:H.length=m:=by rfl):MeansH P f H args r H':=zK m N rs hf hb hN hrs hn hG hm h
theorem yH{P:Program}{f:FuncId}{args:List AV}{b ok:Bool}{H:List Cell}{raw:List AV}{s:Bool}{qp:Value→List Cell→Prop}{k:Bool→AV→List Cell→Prop}(ps:List Nat){Hl:List Cell}{largs:List AV}{r0:AV}{H':List Cell}(h:MeansH P f Hl largs r0 H')(hk:k true (ren (upN ps H.length) r0) (heapAfter H ps H'))(hc:CallHC H raw ps Hl largs:=by simp[go_sem]):CallK P f args b ok H raw false s qp k:=aV ps h hc hk
theorem yQ{P:Program}{f:FuncId}{args:List AV}{b ok:Bool}{H:List Cell}{raw:List AV}{s:Bool}{qp:Value→List Cell→Prop}{k:Bool→AV→List Cell→Prop}(ps:List Nat){Hl:List Cell}{largs:List AV}{S:AV→List Cell→Prop}(h:MeansE P f Hl largs S)(hk:∀r0 H',S r0 H'→k true (ren (upN ps H.length) r0) (heapAfter H ps H'))(hc:CallHC H raw ps Hl largs:=by simp[go_sem]):CallK P f args b ok H raw false s qp k:=sL ps h hc hk
theorem bA:maxLen=9223372036854775807:=rfl
end Go.Ab

namespace Go.Proofs.YtllgjognpobnpaaGreatDoor
abbrev By:=List UInt8
def isBlank(c:UInt8):Bool:=c==32||c==9||c==10
def isLetter(c:UInt8):Bool:=decide (97≤c.toNat)&&decide (c.toNat≤122)
def isDigit(c:UInt8):Bool:=decide (48≤c.toNat)&&decide (c.toNat≤57)
def isAl(c:UInt8):Bool:=isLetter c||isDigit c
def isSign1(c:UInt8):Bool:=[59,44,61,60,43,45,42,47,40,41].contains c
def isWord(l:By):Bool:=match l with
 | []=>false
 |c::_=>isLetter c&&decide (l.length≤20)&&l.all isAl
def numVal(l:By):Nat:=l.foldl (fun n c=>10*n+(c.toNat-48)) 0
def isNum(l:By):Bool:= !l.isEmpty&&l.all isDigit&&(l.head? !=some 48||l==[48])&&decide (l.length≤13)&&decide (numVal l≤1099511627776)
structure Tk where
 kind:Int
 text:By
 n:Int
 pos:Int
 deriving DecidableEq
inductive Tok where
 |err (e:Int)
 |ok (k:Int) (t:By) (n:Int)
 deriving DecidableEq
def tok(l:By):Tok:=match l with
 | []=>.err 11
 |c::r=>
  if isLetter c then(if((c::r).takeWhile isAl).length≤20 then .ok 1 ((c::r).takeWhile isAl) 0 else .err 13)
  else if isDigit c then(if isNum ((c::r).takeWhile isDigit)then .ok 2 ((c::r).takeWhile isDigit) (numVal ((c::r).takeWhile isDigit))else .err 3)
  else if c==61&&r.head? ==some 61 then .ok 3 [61,61] 0
  else if isSign1 c then .ok 3 [c] 0 else .err 11
inductive Lx where
 |err (at_:Nat) (e:Int)
 |ok (l:List Tk)
 deriving DecidableEq
def Lx.cons(x:Tk):Lx→Lx
 | .ok l=>.ok (x::l)
 | .err i e=>.err i e
def lexF:Nat→By→Nat→Lx
 |_,[],p=>.ok [⟨0,[],0,p⟩]
 |0,_,p=>.ok [⟨0,[],0,p⟩]
 |k+1,c::r,p=>if isBlank c then lexF k r (p+1)else match tok (c::r)with
  | .err e=>.err p e
  | .ok kd t n=>Lx.cons ⟨kd,t,n,p⟩ (lexF k ((c::r).drop t.length) (p+t.length))
def lexA(l:By)(p:Nat):Lx:=lexF l.length l p
theorem iL(f:UInt8→Bool):∀l:By,l.takeWhile f=l.take (l.takeWhile f).length
 | []=>rfl
 |c::l=>by
  simp only[List.takeWhile_cons]
  split
  ·simp only[List.length_cons,List.take_succ_cons];rw[←iL f l]
  ·rfl
theorem mT(f:UInt8→Bool)(l:By):(l.takeWhile f).length≤l.length:=by
 rw[iL,List.length_take];exact Nat.min_le_right _ _
theorem wZ(f:UInt8→Bool):∀(l:By) (m:Nat),(l.takeWhile f).length≤m→(l.take m).takeWhile f=l.takeWhile f
 | [],m,_=>by simp
 |c::l,0,h=>by
  simp only[List.takeWhile_cons]at h⊢
  split at h
  ·simp at h
  ·rename_i hc;simp[hc]
 |c::l,m+1,h=>by
  simp only[List.take_succ_cons,List.takeWhile_cons]at h⊢
  split
  ·rename_i hc
   rw[if_pos hc]at h
   rw[wZ f l m (by simpa using h)]
  ·rfl
theorem C4(f:UInt8→Bool)(l:By)(h:l.all f=true):l.takeWhile f=l:=by
 induction l with
 |nil=>rfl
 |cons c l ih=>
  simp only[List.all_cons,Bool.and_eq_true]at h
  simp only[List.takeWhile_cons,h.1,if_true]
  rw[ih h.2]
theorem C5(f:UInt8→Bool)(l:By):(l.takeWhile f).all f=true:=by
 induction l with
 |nil=>rfl
 |cons c l ih=>
  simp only[List.takeWhile_cons]
  split
  ·rename_i h;simp only[List.all_cons,h,ih,Bool.and_self]
  ·rfl
theorem dE{l:By}{k:Int}{t:By}{n:Int}(h:tok l=.ok k t n):0<t.length∧t.length≤l.length∧t=l.take t.length:=by
 unfold tok at h
 split at h
 ·cases h
 ·rename_i c r
  split at h
  ·rename_i hc
   split at h
   ·simp only[Tok.ok.injEq]at h
    obtain⟨rfl,rfl,rfl⟩:=h
    refine⟨?_,mT _ _,iL _ _⟩
    simp[List.takeWhile_cons,isAl,hc]
   ·cases h
  ·split at h
   ·rename_i hc
    split at h
    ·simp only[Tok.ok.injEq]at h
     obtain⟨rfl,rfl,rfl⟩:=h
     refine⟨?_,mT _ _,iL _ _⟩
     simp[List.takeWhile_cons,hc]
    ·cases h
   ·split at h
    ·rename_i h2
     simp only[Tok.ok.injEq]at h
     obtain⟨rfl,rfl,rfl⟩:=h
     simp only[Bool.and_eq_true,beq_iff_eq]at h2
     obtain⟨rfl,h2⟩:=h2
     cases r with
     |nil=>simp at h2
     |cons d r=>simp at h2;subst h2;simp
    ·split at h
     ·simp only[Tok.ok.injEq]at h
      obtain⟨rfl,rfl,rfl⟩:=h
      simp
     ·cases h
theorem CQ(k p:Nat):lexF k [] p=.ok [⟨0,[],0,p⟩]:=by cases k<;>rfl
theorem hO:∀(k:Nat) (l:By) (p:Nat),l.length≤k→lexF k l p=lexA l p
 |k,[],p,_=>by rw[CQ];rfl
 |0,c::l,p,h=>by simp at h
 |k+1,c::l,p,h=>by
  simp only[List.length_cons,Nat.add_le_add_iff_right]at h
  show _=lexF (l.length+1) (c::l) p
  simp only[lexF]
  split
  ·rw[hO k l _ h];rfl
  ·split
   ·rfl
   ·rename_i kd t n ht
    obtain⟨h1,h2,_⟩:=dE ht
    simp only[List.length_cons]at h2
    rw[hO k _ _ (by simp;omega),hO l.length _ _ (by simp;omega)]
termination_by k=>k
theorem fC(p:Nat):lexA [] p=.ok [⟨0,[],0,p⟩]:=rfl
theorem dN{c:UInt8}(h:isBlank c=true)(l:By)(p:Nat):lexA (c::l) p=lexA l (p+1):=by
 show lexF (l.length+1) (c::l) p=_
 simp only[lexF,h,if_true];rfl
theorem fD{c:UInt8}{l:By}(h:isBlank c=false){e:Int}(ht:tok (c::l)=.err e)(p:Nat):lexA (c::l) p=.err p e:=by
 show lexF (l.length+1) (c::l) p=_
 simp[lexF,h,ht]
theorem gW{c:UInt8}{l:By}(h:isBlank c=false){k:Int}{t:By}{n:Int}(ht:tok (c::l)=.ok k t n)(p:Nat):
  lexA (c::l) p=Lx.cons ⟨k,t,n,p⟩ (lexA ((c::l).drop t.length) (p+t.length)):=by
 show lexF (l.length+1) (c::l) p=_
 obtain⟨h1,h2,_⟩:=dE ht
 simp only[List.length_cons]at h2
 simp only[lexF,h,ht,Bool.false_eq_true,if_false]
 rw[hO _ _ _ (by simp;omega)]
theorem lL{motive:By→Prop}(h0:motive [])(h1:∀c l,isBlank c=true→motive l→motive (c::l))(h2:∀c l e,isBlank c=false→tok (c::l)=.err e→motive (c::l))
  (h3:∀c l k t n,isBlank c=false→tok (c::l)=.ok k t n→motive ((c::l).drop t.length)→motive (c::l)) (l:By):motive l:=by
 have:∀n (l:By),l.length≤n→motive l:=by
  intro n
  induction n with
  |zero=>intro l hl;cases l with
   |nil=>exact h0
   |cons c l=>simp at hl
  |succ n ih=>
   intro l hl
   cases l with
   |nil=>exact h0
   |cons c l=>
    simp only[List.length_cons,Nat.add_le_add_iff_right]at hl
    cases hb:isBlank c with
    |true=>exact h1 c l hb (ih l hl)
    |false=>
     cases ht:tok (c::l)with
     |err e=>exact h2 c l e hb ht
     |ok k t m=>
      obtain⟨q1,q2,_⟩:=dE ht
      simp only[List.length_cons]at q2
      exact h3 c l k t m hb ht (ih _ (by simp;omega))
 exact this _ l (Nat.le_refl _)
theorem sM{l:By}{k:Int}{t:By}{n:Int}(h:tok l=.ok k t n){m:Nat}(hm:t.length≤m):tok (l.take m)=.ok k t n:=by
 obtain⟨q1,q2,q3⟩:=dE h
 cases l with
 |nil=>simp at q2;simp[q2]at q1
 |cons c r=>
  obtain⟨m,rfl⟩:∃j,m=j+1:=⟨m-1,by omega⟩
  unfold tok at h⊢
  simp only[List.take_succ_cons]
  have fix:∀f:UInt8→Bool,((c::r).takeWhile f).length≤m+1→(c::r.take m).takeWhile f=(c::r).takeWhile f:=fun f hf=>by
   have:=wZ f (c::r) (m+1) hf
   rwa [List.take_succ_cons]at this
  simp only[]at h
  by_cases hl:isLetter c=true
  ·simp only[hl,if_true]at h⊢
   split at h
   ·simp only[Tok.ok.injEq]at h
    obtain⟨rfl,rfl,rfl⟩:=h
    rename_i h20
    rw[fix isAl hm,if_pos h20]
   ·cases h
  ·simp only[hl,Bool.false_eq_true,if_false]at h⊢
   by_cases hd:isDigit c=true
   ·simp only[hd,if_true]at h⊢
    split at h
    ·simp only[Tok.ok.injEq]at h
     obtain⟨rfl,rfl,rfl⟩:=h
     rename_i h20
     rw[fix isDigit hm,if_pos h20]
    ·cases h
   ·simp only[hd,Bool.false_eq_true,if_false]at h⊢
    by_cases h2:(c==61&&r.head? ==some 61)=true
    ·simp only[h2,if_true,Tok.ok.injEq]at h⊢
     obtain⟨rfl,rfl,rfl⟩:=h
     simp only[List.length_cons,List.length_nil]at hm
     obtain⟨m,rfl⟩:∃j,m=j+1:=⟨m-1,by omega⟩
     simp only[Bool.and_eq_true,beq_iff_eq]at h2
     obtain⟨rfl,h2⟩:=h2
     cases r with
     |nil=>simp at h2
     |cons d r=>simp at h2;subst h2;simp
    ·simp only[h2,Bool.false_eq_true,if_false]at h⊢
     have h3:¬(c==61&&(r.take m).head? ==some 61)=true:=by
      intro h3
      apply h2
      simp only[Bool.and_eq_true,beq_iff_eq]at h3⊢
      refine⟨h3.1,?_⟩
      cases r with
      |nil=>simpa using h3.2
      |cons d r=>
       cases m with
       |zero=>simp at h3
       |succ m=>simpa using h3.2
     rw[if_neg h3]
     exact h
theorem CR{l:By}{k:Int}{t:By}{n:Int}(h:tok l=.ok k t n):tok t=.ok k t n:=by
 have:=sM h (Nat.le_refl _)
 rwa [←(dE h).2.2]at this
def Tk.shift(q:Nat)(x:Tk):Tk:={x with pos:=x.pos+q}
def Lx.shift(q:Nat):Lx→Lx
 | .err i e=>.err (i+q) e
 | .ok ts=>.ok (ts.map (Tk.shift q))
theorem sF{c:UInt8}{l:By}{e:Int}(h:tok (c::l)=.err e):e=11∨e=13∨e=3:=by
 unfold tok at h
 simp only[]at h
 split at h
 ·split at h<;>cases h;simp
 ·split at h
  ·split at h<;>cases h;simp
  ·split at h
   ·cases h
   ·split at h<;>cases h;simp
theorem oZ(l:By):∀{p i:Nat} {e:Int},lexA l p=.err i e→p≤i∧i-p<l.length∧(e=11∨e=13∨e=3)∧(∃ts,lexA (l.take (i-p)) p=.ok ts)∧∀q,lexA (l.drop (i-p)) q=.err q e:=by
 induction l using lL with
 |h0=>intro p i e h;rw[fC]at h;cases h
 |h1 c l hb ih=>
  intro p i e h
  rw[dN hb]at h
  obtain⟨h1,h2,h3,⟨ts,h4⟩,h5⟩:=ih h
  refine⟨by omega,by simp;omega,h3,⟨ts,?_⟩,?_⟩
  ·rw[show i-p=(i-(p+1))+1 by omega,List.take_succ_cons,dN hb];exact h4
  ·rw[show i-p=(i-(p+1))+1 by omega,List.drop_succ_cons];exact h5
 |h2 c l e hb ht=>
  intro p i e' h
  rw[fD hb ht]at h
  simp only[Lx.err.injEq]at h
  obtain⟨rfl,rfl⟩:=h
  refine⟨Nat.le_refl _,by simp,sF ht,⟨_,by rw[Nat.sub_self];exact fC _⟩,fun q=>?_⟩
  rw[Nat.sub_self]
  exact fD hb ht q
 |h3 c l k t n hb ht ih=>
  intro p i e h
  obtain⟨q1,q2,q3⟩:=dE ht
  rw[gW hb ht]at h
  cases hx:lexA ((c::l).drop t.length) (p+t.length)with
  |ok us=>rw[hx]at h;cases h
  |err i' e'=>
   rw[hx]at h
   simp only[Lx.cons,Lx.err.injEq]at h
   obtain⟨rfl,rfl⟩:=h
   obtain⟨h1,h2,h3,⟨ts,h4⟩,h5⟩:=ih hx
   rw[List.length_drop]at h2
   refine⟨by omega,by omega,h3,⟨Tk.mk k t n p::ts,?_⟩,?_⟩
   ·have e1:i'-p=t.length+(i'-(p+t.length)):=by omega
    have ht':=sM ht (m:=i'-p) (by omega)
    obtain⟨j,hj⟩:∃j,i'-p=j+1:=⟨i'-p-1,by omega⟩
    rw[hj,List.take_succ_cons]at ht'⊢
    rw[gW hb ht',←List.take_succ_cons,←hj,List.drop_take,show i'-p-t.length=i'-(p+t.length) by omega,h4]
    rfl
   ·intro q
    have:=h5 q
    rw[List.drop_drop]at this
    rwa [show t.length+(i'-(p+t.length))=i'-p by omega]at this
theorem CS{c:UInt8}{l:By}{k:Int}{t:By}{n:Int}(h:tok (c::l)=.ok k t n):t.head? =some c:=by
 obtain⟨q1,q2,q3⟩:=dE h
 rw[q3]
 obtain⟨j,hj⟩:∃j,t.length=j+1:=⟨t.length-1,by omega⟩
 rw[hj];rfl
def Vt(x:Tk):Prop:=tok x.text=.ok x.kind x.text x.n∧∀c,x.text.head? =some c→isBlank c=false
theorem F4(l:By):∀{p:Nat} {ts:List Tk},lexA l p=.ok ts→∃us q,ts=us++[⟨0,[],0,q⟩]∧∀x∈us,Vt x:=by
 induction l using lL with
 |h0=>intro p ts h;rw[fC]at h;cases h;exact⟨[],p,rfl,by simp⟩
 |h1 c l hb ih=>intro p ts h;rw[dN hb]at h;exact ih h
 |h2 c l e hb ht=>intro p ts h;rw[fD hb ht]at h;cases h
 |h3 c l k t n hb ht ih=>
  intro p ts h;rw[gW hb ht]at h
  cases hx:lexA ((c::l).drop t.length) (p+t.length)with
  |err i e=>rw[hx]at h;cases h
  |ok vs=>
   rw[hx]at h;cases h
   obtain⟨us,q,rfl,hu⟩:=ih hx
   refine⟨⟨k,t,n,p⟩::us,q,rfl,fun x hx=>?_⟩
   rcases List.mem_cons.1 hx with rfl|hx
   ·refine⟨CR ht,fun d hd=>?_⟩
    have:t.head? =some d:=hd
    rw[CS ht]at this
    cases this;exact hb
   ·exact hu x hx
theorem F6{x:Tk}(h:Vt x):x.kind≠0∧x.text≠[]∧(x.kind≠2→x.n=0)∧(x.kind=1∨x.kind=2∨x.kind=3):=by
 obtain⟨h1,h2⟩:=h
 have hl:=(dE h1).1
 cases ht:x.text with
 |nil=>rw[ht]at hl;simp at hl
 |cons c r=>
  rw[ht]at h1
  unfold tok at h1
  simp only[]at h1
  split at h1
  ·split at h1
   ·simp only[Tok.ok.injEq]at h1;obtain⟨e1,_,e3⟩:=h1;simp[←e1,←e3]
   ·cases h1
  ·split at h1
   ·split at h1
    ·simp only[Tok.ok.injEq]at h1;obtain⟨e1,_,e3⟩:=h1;simp[←e1]
    ·cases h1
   ·split at h1
    ·simp only[Tok.ok.injEq]at h1;obtain⟨e1,_,e3⟩:=h1;simp[←e1,←e3]
    ·split at h1
     ·simp only[Tok.ok.injEq]at h1;obtain⟨e1,_,e3⟩:=h1;simp[←e1,←e3]
     ·cases h1
structure Placed(s:By)(ts:List Tk)(e:Nat):Prop where
 pos:∀(i:Nat) (x:Tk),ts[i]? =some x→∃a:Nat,x.pos=(a:Int)∧a+x.text.length≤s.length∧(s.drop a).take x.text.length=x.text∧(x.text=[]↔i+1=ts.length)∧(x.kind=0↔i+1=ts.length)∧(x.kind≠2→x.n=0)∧
  ∃b:Nat,(match i with|0=>b=e|i+1=>∃y:Tk,ts[i]? =some y∧(b:Int)=y.pos+y.text.length)∧b≤a∧∀j,b≤j→j<a→∃c,s[j]? =some c∧isBlank c=true
 last:∀x:Tk,ts[ts.length-1]? =some x→x.pos=(s.length:Int)
theorem F7{l:By}{n:Int}(h:tok l=.ok 2 l n):isNum l=true∧n=numVal l:=by
 cases l with
 |nil=>simp[tok]at h
 |cons c r=>
  unfold tok at h
  simp only[]at h
  split at h
  ·split at h<;>simp at h
  ·split at h
   ·split at h
    ·rename_i hn
     simp only[Tok.ok.injEq]at h
     obtain⟨_,h1,h2⟩:=h
     rw[h1]at hn h2
     exact⟨hn,h2.symm⟩
    ·cases h
   ·split at h
    ·simp at h
    ·split at h<;>simp at h
theorem uJ(a:By)(c:UInt8):numVal (a++[c])=10*numVal a+(c.toNat-48):=by simp[numVal,List.foldl_append]
end Go.Proofs.YtllgjognpobnpaaGreatDoor

