import Derived.Test.YthibhamepjhfjaaGreatDoorTeFw4
import Derived.ProofKit
import Derived.Deep.Slices
import Derived.Deep.DeepLaidRun
import Derived.LaidLaws
import Derived.Handed
import Derived.FnData
import Derived.OpenShut
import Derived.Lib.Join
import Derived.Laws.IdiomCopy
import Derived.Deep.Draws
set_option linter.all false
namespace Go.Ab
open Go.RowKit Go.ChangeShapes Go.WideShapes Go.Deep
section
variable {H : Type} {enc : TypeId × Value → H} {P : Program} {W : World} {base : Nat} {spare : Nat → Bool} {held : Bool}
theorem uY {es : List AV} {k : Nat} (hk : ∀ e ∈ es,e.flat.length = k) : ∀ {j : Nat} {y : AV},(es.flatMap AV.flat)[j]? = some y → ∃ (i r : Nat) (e : AV),j = i * k + r ∧ r < k ∧ es[i]? = some e ∧ e.flat[r]? = some y := by
 induction es with
 | nil => intro j y h; simp at h
 | cons e es ih =>
   intro j y h
   have hek := hk e (by simp)
   rw [List.flatMap_cons] at h
   by_cases hj : j < k
   · rw [List.getElem?_append_left (by omega)] at h
     exact ⟨0,j,e,by omega,hj,rfl,h⟩
   · rw [List.getElem?_append_right (by omega),hek] at h
     obtain ⟨i,r,e',h1,h2,h3,h4⟩ := ih (fun x hx => hk x (by simp [hx])) h
     refine ⟨i + 1,r,e',?_,h2,h3,h4⟩
     rw [Nat.succ_mul]; omega
theorem l8 {α : Type} (g : α → AV) (k : Nat) (hk : 0 < k) (hg : ∀ x,(g x).flat.length = k) {t e : TypeId} {fuel : Nat} {cs : List Value} {x : DataW H × List MemPlace} {M : Nat → Prop} (ht : P.underlying t = some (.slice e)) (hC : P.cellsOf e = k)
  (hM : ∀ b,b < W.heap.size → M b)
  (hel : ∀ n cs y,DataW.trod enc P W base spare held n e cs = some y → cs.length = k → ∃ x : α,∀ (j : Nat) (c : Value) (z : AV),cs[j]? = some c → (g x).flat[j]? = some z → RepZ W M c z)
  (h : DataW.trod enc P W base spare held fuel t cs = some x) : ∃ v,cs = [v] ∧ ∃ L : List α,L.length ≤ maxLen ∧ RepZ W M v (.sl (L.map g)) := by
 rcases open_slice ht h with ⟨rfl,_⟩ | ⟨a,len,cap,m,n,D,Pl,rfl,hb,hl,hm,hmm,hx,hi⟩
 · exact ⟨_,rfl,[],Nat.zero_le _,by
    have := RepZ.sl (w := W) (M := M) none 0 k [] (fun _ => undef) (by simp) (by simp) (by simp) (by simp) (Nat.le_refl _) (Nat.zero_le _)
    exact this⟩
 · refine ⟨_,rfl,?_⟩
   have hlm : len ≤ m := by rw [hmm]; split <;> omega
   have each : ∀ i : Fin len,∃ (x : α) (cs' : List Value),cs'.length = k ∧ (∀ j,j < k → W.cell? (a.add (i.1 * k + j)) = cs'[j]?) ∧ ∀ (j : Nat) (c : Value) (z : AV),cs'[j]? = some c → (g x).flat[j]? = some z → RepZ W M c z := by
    rintro ⟨i,hil⟩
    obtain ⟨cs',hc,ht'⟩ := hi i (by omega)
    rw [hC] at hc
    obtain ⟨_,hcl,hat⟩ := World.cells?_some hc
    obtain ⟨x,hx⟩ := hel n cs' _ ht' hcl
    exact ⟨x,cs',hcl,fun j hj => by rw [← n6]; exact hat j hj,hx⟩
   have hX := fun i => Classical.choose_spec (each i)
   refine ⟨List.ofFn fun i => Classical.choose (each i),by simp; omega,?_⟩
   have hlen : ((List.ofFn fun i => Classical.choose (each i)).map g).length = len := by simp
   have hfl : ∀ e ∈ (List.ofFn fun i => Classical.choose (each i)).map g,e.flat.length = k := by
    intro e he
    obtain ⟨x,_,rfl⟩ := List.mem_map.1 he
    exact hg x
   have hcell : ∀ j,j < len * k → ∃ v,W.cell? (a.add j) = some v := by
    intro j hj
    have hi' : j / k < len := Nat.div_lt_of_lt_mul (by rw [Nat.mul_comm]; exact hj)
    obtain ⟨cs',h1,h2,_⟩ := hX ⟨j / k,hi'⟩
    have hr : j % k < k := Nat.mod_lt _ hk
    have := h2 (j % k) hr
    rw [show j / k * k + j % k = j by rw [Nat.mul_comm]; exact Nat.div_add_mod j k] at this
    exact ⟨cs'[j % k]'(by omega),by rw [this]; exact List.getElem?_eq_getElem _⟩
   have := RepZ.sl (w := W) (M := M) (some a) cap k ((List.ofFn fun i => Classical.choose (each i)).map g) (fun j => (W.cell? (a.add j)).getD undef) hfl
    (fun hne => ⟨a,rfl,hM _ (by
     have : 0 < len := by
      rw [← hlen]; exact List.length_pos_iff.2 hne
     obtain ⟨v,hv⟩ := hcell 0 (Nat.mul_pos this hk)
     have := World.block_lt_of_cell? W _ hv
     rwa [eT] at this)⟩)
    (fun ad had j hj => by
     cases had
     rw [hlen] at hj
     obtain ⟨v,hv⟩ := hcell j hj
     rw [hv]; rfl)
    (fun j e he => by
     obtain ⟨i,r,e',rfl,hr,he',hy⟩ := uY hfl he
     rw [List.getElem?_map,List.getElem?_ofFn] at he'
     split at he'
     · rename_i hil
       simp only [Option.map_some,Option.some.injEq] at he'
       subst he'
       obtain ⟨cs',h1,h2,h3⟩ := hX ⟨i,hil⟩
       have h4 := h2 r hr
       have h5 : cs'[r]? = some (cs'[r]'(by omega)) := List.getElem?_eq_getElem _
       rw [h4,h5]
       exact h3 r _ e h5 hy
     · simp at he')
    (by rw [hlen]; exact hl) hm
   rw [hlen] at this
   exact this
theorem jT {α : Type} (g : α → AV) (k : Nat) (hk : 0 < k) (hg : ∀ x,(g x).flat.length = k) {t e : TypeId} {v : Value} {d : DataW H} {p : List MemPlace} {M : Nat → Prop} (ht : P.underlying t = some (.slice e)) (hC : P.cellsOf e = k)
  (hM : ∀ b,b < W.heap.size → M b)
  (hel : ∀ n cs y,DataW.trod enc P W base spare held n e cs = some y → cs.length = k → ∃ x : α,∀ (j : Nat) (c : Value) (z : AV),cs[j]? = some c → (g x).flat[j]? = some z → RepZ W M c z)
  {r : Go.Reach} {b0 : Nat} (hval : Value.okWide P W r b0 t v) (h : DataW.Trod enc P W base spare held t v d p) : ∃ L : List α,L.length ≤ maxLen ∧ RepZ W M v (.sl (L.map g)) := by
 obtain ⟨a,len,cap,rfl⟩ := okWide_slice ht hval
 obtain ⟨n,hn⟩ := h
 obtain ⟨v,hv,L,h1,h2⟩ := l8 g k hk hg ht hC hM hel hn
 have : v = .slice a len cap := by
  have : (Value.slice a len cap).cells.toList = [.slice a len cap] := rfl
  rw [this] at hv
  simpa using hv.symm
 subst this
 exact ⟨L,h1,h2⟩
theorem x7 {k : IntKind} {e : TypeId} {M : Nat → Prop} (he : P.underlying e = some (.int k)) : ∀ n cs y,DataW.trod enc P W base spare held n e cs = some y → cs.length = 1 → ∃ x : Int,∀ (j : Nat) (c : Value) (z : AV),cs[j]? = some c → (AV.v (.int k x)).flat[j]? = some z → RepZ W M c z := by
 intro n cs y h _
 obtain ⟨x,rfl,_,_⟩ := DataW.trod_int he h
 refine ⟨x,fun j c z h1 h2 => ?_⟩
 cases j with
 | zero =>
   simp only [List.getElem?_cons_zero,Option.some.injEq,AV.flat_v] at h1 h2
   subst h1; subst h2
   exact .v _
 | succ j => simp at h1
theorem s5 {e : TypeId} {n : Nat} {v : Value} {y : DataW H × List MemPlace} {k : IntKind} (he : P.underlying e = some (.int k)) (h : DataW.trod enc P W base spare held n e [v] = some y) : ∃ x,v = .int k x := by
 obtain ⟨x,h,_⟩ := DataW.trod_int he h
 exact ⟨x,by simpa using h⟩
theorem nV {e : TypeId} {fs : Array Field} {n : Nat} {cs : List Value} {y : DataW H × List MemPlace} (he : P.underlying e = some (.struct fs)) (h : DataW.trod enc P W base spare held n e cs = some y) {i : Nat} {f : Field} (hf : fs[i]? = some f) (hc : P.cellsOf f.type = 1) {c : Value} (hi : cs[f.offset]? = some c) :
  ∃ n' y',DataW.trod enc P W base spare held n' f.type [c] = some y' := by
 obtain ⟨ys,n',_,_,_,hyl,hff⟩ := DataW.trod_struct he h
 have h1 := hff i f hf
 rw [hc] at h1
 obtain ⟨hlt,hge⟩ := List.getElem?_eq_some_iff.1 hi
 rw [List.drop_eq_getElem_cons hlt,List.take_succ_cons,List.take_zero,hge] at h1
 have hjl : i < fs.size := (Array.getElem?_eq_some_iff.1 hf).1
 rw [List.getElem?_eq_getElem (by omega : i < ys.length)] at h1
 exact ⟨n',_,h1⟩
theorem jM (hl : laidOutB P = true) {W' : World} {sp' : Nat → Bool} : ∀ {ts : List TypeId} {vs : List Value} {ds : List (DataW H)} {ps : List MemPlace},ts.all (fun t => P.readableRec t && decide (t < P.types.size)) = true → DataW.TrodAll enc P W base (fun _ => true) true ts vs ds ps → (∀ p ∈ ps,W.sameAt W' p) → (∀ p ∈ ps,sp' p.block = true) → DataW.TrodAll enc P W' base sp' true ts vs ds ps
 | [],_,_,_,_,h,_,_ => by
   obtain ⟨rfl,rfl,rfl⟩ := trodAll_nil h
   rfl
 | _ :: _,_,_,_,hr,h,h1,h2 => by
   obtain ⟨v,vs,d,ds,p,q,rfl,rfl,rfl,ha,hb⟩ := trodAll_cons h
   simp only [List.all_cons,Bool.and_eq_true,decide_eq_true_eq] at hr
   exact ⟨p,q,WideElems.Trod_stays hl hr.1.1 hr.1.2 ha (fun x hx => h1 x (by simp [hx])) (fun x hx => h2 x (by simp [hx])),jM hl hr.2 hb (fun x hx => h1 x (by simp [hx])) (fun x hx => h2 x (by simp [hx])),rfl⟩
end
end Go.Ab
namespace Go.Ab
open Go.RowKit Go.ChangeShapes Go.WideShapes Go.Deep
theorem DQ {H : Type} {enc : TypeId × Value → H} {P : Program} {W W' : World} {f : Func} {s : ChangeSpec} {apart fresh handsOn again : Bool} {args : Array Value} {ds gs : List (DataW H)} {before : List MemPlace} {tb : TypeId}
  (hrt : f.resultTypes = #[tb]) (htb : P.underlying tb = some .bool) (hv0 : s.vars = [])
  (hds : s.fn H (ds ++ gs) = { results := [.lit (.bool true)],args := ds })
  (hl : laidOutB P = true) (hr : f.params.toList.all (fun t => P.readableRec t && decide (t < P.types.size)) = true)
  (hW : DataW.Whole enc P f.params.toList s.vars apart W args.toList ds gs before) (hb : Below W.heap.size W W') :
  s.post enc P f apart fresh handsOn again W args (.bool true) W' := by
 obtain ⟨p,q,hA,hV,hpq,hz,hn⟩ := hW
 have hV' := hV
 rw [hv0] at hV'
 obtain ⟨rfl,rfl⟩ := trodVars_none hV'
 simp only [List.append_nil] at hpq hds
 subst hpq
 have hlt : ∀ x ∈ before,x.block < W.heap.size := fun x hx => hA.lt x hx
 have hargs : ∀ sp : Nat → Bool,(∀ p ∈ before,sp p.block = true) → DataW.TrodAll enc P W' 0 sp true f.params.toList args.toList ds before :=
  fun sp hsp => jM hl hr hA (fun x hx => hb.same (hlt x hx)) hsp
 have hres : ∀ (b : Nat) (sp : Nat → Bool) (hd : Bool),DataW.TrodAll enc P W' b sp hd f.resultTypes.toList ((Value.bool true).resultList f.resultTypes.size) [.lit (.bool true)] [] := by
  intro b sp hd
  rw [hrt]
  exact trodAll_mk1 ⟨1,by simp [DataW.trod,Value.cells,htb]⟩
 have hvars : ∀ sp : Nat → Bool,DataW.TrodVars enc P W' sp s.vars (s.fn H ds).vars [] := by
  intro sp
  rw [hv0,hds]; rfl
 refine ⟨ds,[],before,[],before,[],⟨before,[],hA,hV,by simp,hz,hn⟩,by rw [List.append_nil,hds]; exact hres _ _ _,by rw [List.append_nil,hds]; exact hargs _ (fun x hx => by simpa using hlt x hx),by rw [List.append_nil]; exact hvars _,hb.frame _,fun _ => ?_⟩
 refine ⟨?_,_,[],([] ++ before) ++ [],⟨[] ++ before,[],trodAll_append (hargs _ (fun _ _ => rfl)) (hres _ _ _),by rw [hv0]; rfl,rfl,?_,?_⟩,?_⟩
 · intro j t r h1 h2
   rw [hrt] at h1 h2
   cases j with
   | zero =>
     simp [Value.resultList] at h1 h2
     subst h1; subst h2
     simp [Value.okWide,htb,Cell.okWide,Cell.ok]
   | succ j => simp at h1
 · intro b off hp
   rw [hb.frozen (hlt (.cell b off) (by simpa using hp))]
   exact hz b off (by simpa using hp)
 · intro ha
   simpa using hn ha
 · intro x hx _
   simpa using hx
end Go.Ab
namespace Go.Ab
open Go.RowKit Go.ChangeShapes Go.WideShapes
mutual
def cellsD : DataW Unit → List Value
 | .agg l => cellsDs l
 | .lit x => [x.value]
 | _ => []
def cellsDs : List (DataW Unit) → List Value
 | [] => []
 | d :: r => cellsD d ++ cellsDs r
end
def layG (w : World) (g : Nat) (d : DataW Unit) : World :=
 { w with heap := w.heap.modify g fun
     | .cells _ t frozen => .cells (cellsD d).toArray t frozen
     | o => o }
def layAll (P : Program) (w : World) : List (String × DataW Unit) → World
 | [] => w
 | (n,d) :: r => match P.globalNamed n with
   | some g => layG (layAll P w r) g d
   | none => layAll P w r
theorem uZ {P : Program} {W : World} {n : String} {d : DataW Unit} : ∀ {l : List (String × DataW Unit)} {ps : List MemPlace},DataW.LaidVars P W l ps → (n,d) ∈ l →
  ∃ g t cs fuel p,P.globalNamed n = some g ∧ (P.globals[g]?).map (·.type) = some t ∧ W.var? P n = some cs ∧ DataW.trod (fun _ => ()) P W 0 (fun _ => true) false fuel t cs.toList = some (d,p)
 | (n',d') :: r,ps,h,hm => by
   obtain ⟨g,t,cs,fuel,p,q,h1,h2,h3,h4,h5,_⟩ := h
   rcases List.mem_cons.1 hm with e | hm
   · cases e
     exact ⟨g,t,cs,fuel,p,h1,h2,h3,h4⟩
   · exact uZ h5 hm
theorem xS {P : Program} {W : World} {k : IntKind} {t e : TypeId} {len fuel : Nat} {cs : List Value} {zs : List Int} {p : List MemPlace} (hu : P.underlying t = some (.array len e)) (he : P.underlying e = some (.int k)) (hC : P.cellsOf e = 1) (hCt : P.cellsOf t = len)
  (h : DataW.trod (fun _ => ()) P W 0 (fun _ => true) false fuel t cs = some (.agg (zs.map fun z => .lit (.int k z)),p)) : cs = zs.map fun z => .int k z := by
 obtain ⟨xs,m,_,hx,hl,hxl,hi⟩ := DataW.trod_array hu h
 have hdat : xs.map (·.1) = zs.map fun z => .lit (.int k z) := by
  have := (Prod.mk.inj hx).1
  simpa using this.symm
 have hzl : zs.length = len := by
  have := congrArg List.length hdat
  simpa [hxl] using this.symm
 rw [hCt] at hl
 simp only [hC,Nat.mul_one] at hi
 refine List.ext_getElem (by rw [List.length_map]; omega) fun i h1 h2 => ?_
 have h3 := hi i (by omega)
 rw [List.drop_eq_getElem_cons h1,List.take_succ_cons,List.take_zero] at h3
 have hxi : i < xs.length := by omega
 rw [List.getElem?_eq_getElem hxi] at h3
 obtain ⟨z,e1,e2,_⟩ := DataW.trod_int he h3
 have e3 : cs[i] = .int k z := by simpa using e1
 have e4 : (xs.map (·.1))[i]'(by rw [List.length_map]; exact hxi) = .lit (.int k z) := by rw [List.getElem_map,e2]
 have e5 : (zs.map fun z => (DataW.lit (.int k z) : DataW Unit))[i]'(by rw [List.length_map]; omega) = .lit (.int k z) := by
  rw [← e4]
  simp only [hdat]
 rw [List.getElem_map] at e5
 have e6 : zs[i] = z := by simpa using e5
 rw [e3,List.getElem_map,e6]
theorem B5 {P : Program} {W : World} {l : List (String × DataW Unit)} (h : laidMet P l W) {n : String} {k : IntKind} {zs : List Int} (hm : (n,.agg (zs.map fun z => .lit (.int k z))) ∈ l) {g : Nat} {t e : TypeId} {len : Nat}
  (hg : P.globalNamed n = some g) (ht : (P.globals[g]?).map (·.type) = some t) (hu : P.underlying t = some (.array len e)) (he : P.underlying e = some (.int k)) (hC : P.cellsOf e = 1) (hCt : P.cellsOf t = len) :
  ∃ t f,W.heap[g]? = some (.cells (zs.map fun z => Value.int k z).toArray t f) := by
 obtain ⟨ps,hv,_⟩ := h
 obtain ⟨g',t',cs,fuel,p,h1,h2,h3,h4⟩ := uZ hv hm
 rw [hg] at h1
 cases h1
 rw [ht] at h2
 cases h2
 have hcs := xS hu he hC hCt h4
 simp only [World.var?,hg,Option.bind_some] at h3
 split at h3
 · rename_i cs' a b hh
   cases h3
   exact ⟨a,b,by rw [hh,← hcs]⟩
 · cases h3
theorem B4 {W : World} {g : Nat} {cs : List Value} (hgl : globs = [(g,cs)]) (h : ∃ t f,W.heap[g]? = some (.cells cs.toArray t f)) (hi : ∀ g ∈ globI,∃ m t f,W.heap[g]? = some (.cells #[.int .i64 m] t f)) : GlobW W (fun b => b < W.heap.size) := by
 refine ⟨fun p hp => ?_,fun g hg => by
  obtain ⟨m,t,f,hh⟩ := hi g hg
  exact ⟨(Array.getElem?_eq_some_iff.1 hh).1,m,t,f,hh⟩⟩
 rw [hgl,List.mem_singleton] at hp
 subst hp
 obtain ⟨t,f,hh⟩ := h
 refine ⟨(Array.getElem?_eq_some_iff.1 hh).1,fun j c hc => ?_,t,f,hh⟩
 simp only [] at hc
 simp [World.cell?,hh,hc]
end Go.Ab
namespace Go.Ab
open Go.RowKit
theorem m9 {own M : Nat → Prop} {loc : Nat → Value} {H : List Cell} {w w' : World} (hM : ∀ b,M b → b < w.heap.size) (h : HeapS own M loc H w) (hb : Below w.heap.size w w') :
  HeapS (fun b => w.heap.size ≤ b ∨ own b) M loc H w' := by
 refine ⟨fun id o ho => ?_,h.sep,fun id m hm => ?_,h.msep,h.one⟩
 · have hob := h.obj id o ho
   obtain ⟨xs,hown,_⟩ := hob.own
   exact hob.frame (fun g hg => hb.block g (hown.lt g hg).2) (fun b hb' => hb.block b (hM b hb')) (fun _ h => h) (fun _ _ => rfl) (Nat.le_refl _) hob.away (fun b h => .inr h)
 · obtain ⟨g,es,c,h1,h2,h3,h4,h5⟩ := (h.mobj id m hm).own
   have hgl : g < w.heap.size := (Array.getElem?_eq_some_iff.1 h4).1
   exact ⟨g,es,c,h1,.inr h2,h3,by rw [hb.block g hgl]; exact h4,h5.mono (fun b hb' => hb.block b (hM b hb')) (fun _ h => h)⟩
theorem mO {P : Program} {f : FuncId} {H : List Cell} {args : List AV} {r : Value}
  (h : ∀ (w : World) (M : Nat → Prop) (loc : Nat → Value) (vs : Array Value),(∀ b,M b → b < w.heap.size) → HeapS (blks H loc) M loc H w → vs.size = args.length →
   (∀ (j : Nat) (x : Value) (e : AV),vs[j]? = some x → args[j]? = some e → Rep w M loc x e ∧ e.idLt H.length) → Calls P f vs w fun e w' => e = .returned r ∧ Below w.heap.size w w') : MeansH P f H args (.v r) H := by
 intro w M loc vs hM _ hS hsz hargs
 refine (h w M loc vs hM hS hsz hargs).mono fun e w' ⟨he,hb⟩ => ?_
 exact ⟨r,M,loc,he,m9 hM hS hb,⟨hb.os,hb.tape,hb.output,hb.size,fun k hk _ => hb.block k hk⟩,fun _ h => h,fun b hb' => ⟨Nat.lt_of_lt_of_le (hM b hb') hb.size,.inl hb'⟩,fun _ _ => rfl,(RepZ.v r).rep,trivial,Nat.le_refl _⟩
theorem J2 {P : Program} {f : FuncId} {E : Nat}
  (hC : ∀ (bk o c : Nat) (xs : List ByteArray) (sep : ByteArray) (w : World),(∀ (j : Nat) x,xs[j]? = some x → w.cell? ⟨bk,o + j,none⟩ = some (.string x)) → bk < w.heap.size → xs.length ≤ 140737488355328 → xs.length ≤ c →
   (Lib.join (xs.map (·.data.toList)) sep.data.toList).length ≤ 140737488355328 →
   Calls P f #[.slice (some ⟨bk,o,none⟩) xs.length c,.string sep] w fun e w' => e = .returned (.string ⟨(Lib.join (xs.map (·.data.toList)) sep.data.toList).toArray⟩) ∧ Below w.heap.size w w')
  (hN : ∀ (a : Option Addr) (c : Nat) (sep : ByteArray) (w : World),Calls P f #[.slice a 0 c,.string sep] w fun e w' => e = .returned (.string ⟨#[]⟩) ∧ w' = w)
  (xs : List ByteArray) (sep : ByteArray) (hlen : (Lib.join (xs.map (·.data.toList)) sep.data.toList).length ≤ 140737488355328) (hx : xs.length ≤ 140737488355328) :
  MeansH P f [.row ⟨E,1,xs.map fun s => .v (.string s)⟩] [.ow 0,.v (.string sep)] (.v (.string ⟨(Lib.join (xs.map (·.data.toList)) sep.data.toList).toArray⟩)) [.row ⟨E,1,xs.map fun s => .v (.string s)⟩] := by
 refine mO fun w M loc vs hM hS hsz hargs => ?_
 obtain ⟨v,u,rfl⟩ : ∃ v u,vs = #[v,u] := by
  match vs,hsz with
  | ⟨[v,u]⟩,_ => exact ⟨v,u,rfl⟩
 have h0 : v = loc 0 := (hargs 0 v (.ow 0) rfl rfl).1
 have h1 : u = .string sep := (hargs 1 u (.v (.string sep)) rfl rfl).1.v_inv
 subst h0 h1
 obtain ⟨cs,hown,hcs⟩ := (hS.obj 0 _ rfl).own
 rcases hown.2 with ⟨hn,h0⟩ | ⟨g,cap,cur,hn,hbg,hheap,hnc,hcm,hcs2,htake⟩
 · have : xs = [] := by simpa using h0
   subst this
   rw [hn]
   refine (hN none 0 sep w).mono fun e w' ⟨he,hw⟩ => ⟨he,by rw [hw]; exact Below.refl _ _⟩
 · have hcells := hown.cells (g := g) (by rw [hn]; rfl)
   have hlt : g < w.heap.size := (hown.lt g (by rw [hn]; rfl)).2
   rw [hn]
   simp only [List.length_map] at hnc ⊢
   refine hC g 0 cap xs sep w (fun j x hj => ?_) hlt hx hnc hlen
   have he : ((xs.map fun s => (AV.v (.string s))).flatMap AV.flat)[j]? = some (.v (.string x)) := by
    have : (xs.map fun s => (AV.v (.string s))).flatMap AV.flat = xs.map fun s => AV.v (.string s) := by
     have : ∀ l : List ByteArray,(l.map fun s => (AV.v (.string s))).flatMap AV.flat = l.map fun s => AV.v (.string s) := by
      intro l
      induction l with
      | nil => rfl
      | cons a l ih => simp only [List.map_cons,List.flatMap_cons,AV.flat_v,ih]; rfl
     exact this xs
    rw [this,List.getElem?_map,hj]; rfl
   obtain ⟨y,hy,hr⟩ := hcs j _ he
   have hyv : y = .string x := hr.1.rep.v_inv
   rw [Nat.zero_add]
   subst hyv
   have := hcells j _ hy
   rwa [dO,Nat.zero_add] at this
end Go.Ab
namespace Go.Ab
open Go.RowKit
theorem xT {P : Program} {f : FuncId} {args : List AV} {r : AV} {H' : List Cell} (h : MeansH P f [] args r H') (hz : ∀ e ∈ args,e.idLt 0)
  (hok : (argA H' r).argOK = true) (hfr : freshA ⟨mkE [(0,r)],H'⟩ (.tmp 0) = true) : Means true P f args (argA H' r) := by
 intro M w vs hM hg hl hvs
 have h0 : HeapS (blks [] fun _ => undef) M (fun _ => undef) [] w := ⟨by simp,by simp,by simp,by simp,by simp⟩
 refine (h w M (fun _ => undef) vs hM hg h0 hl fun j x e h1 h2 => ⟨(hvs j x e h1 h2).rep,hz e (List.mem_of_getElem? h2)⟩).mono fun e w' hq => ?_
 obtain ⟨x,M',loc',rfl,hS,hb,hMM,hzone,_,hrep,hid,_⟩ := hq
 have hno : ∀ b,¬ blks [] (fun _ => undef) b := fun b hb => by
  rcases hb with ⟨id,o,ho,_⟩ | ⟨id,m,hm,_⟩
  · simp at ho
  · simp at hm
 have hz' : ∀ b,M b → b < w.heap.size := hM
 let X : Ctx := ⟨w,M,1,blks [] (fun _ => undef),fun _ => undef,hg,fun p hp hb => hno _ hb,fun g hg hb => hno _ hb⟩
 have hrr : RR X M' loc' ⟨mkE [(0,r)],H'⟩ { tmps := #[x],defers := [] } w' := by
  refine ⟨fun s => ?_,by show 1 ≤ G0; decide,rfl,rfl,fun id o ho => hS.obj id o ho,hS.sep,fun id m hm => hS.mobj id m hm,hS.msep,hb,fun b hb => ?_,hMM,fun b hb => hM b hb,hS.one,fun s => ?_⟩
  · by_cases hs : s = 0
    · subst hs
      exact hrep
    · have : mkE [(0,r)] s = .bad := by simp [mkE,upd,hs]
      show Rep w' M' loc' _ (mkE [(0,r)] s)
      rw [this]
      exact (RepZ.bad _).rep
  · obtain ⟨h1,h2⟩ := hzone b hb
    refine ⟨h1,?_⟩
    rcases h2 with h2 | h2
    · exact .inl h2
    · exact .inr h2
  · by_cases hs : s = 0
    · subst hs; exact hid
    · have : mkE [(0,r)] s = .bad := by simp [mkE,upd,hs]
      show (mkE [(0,r)] s).idLt _
      rw [this]; trivial
 have he : resA P ⟨mkE [(0,r)],H'⟩ (.tmp 0) = some ((argA H' r).argOK = true,argA H' r) := rfl
 obtain ⟨y,hy,hz1,hz2⟩ := z8 hrr he hok
 have hyx : y = x := by
  have : (resS #[x] (.tmp 0)).run P w' = .ok x w' := rfl
  rw [this] at hy
  cases hy; rfl
 subst hyx
 refine ⟨y,rfl,⟨hb.os,hb.tape,hb.output,hb.size,fun k hk => hb.block k hk (hno k)⟩,(hz2 hfr).mono (fun _ _ => rfl) fun b hb => ⟨hb.1,?_⟩⟩
 rcases hb.2 with h | h
 · exact .inl h
 · exact (hno b h).elim
end Go.Ab
namespace Go.Ab
open Go.RowKit
theorem oM {P : Program} {f : FuncId} {args : List Value} {x : Value} {r : AV} (hr : ∀ w M,RepZ w M x r)
  (h : ∀ w M,(∀ b,M b → b < w.heap.size) → GlobW w M → Calls P f args.toArray w fun e w' => e = .returned x ∧ Below w.heap.size w w') : Means true P f (args.map AV.v) r := by
 intro M w vs hM hg hl hvs
 have : vs = args.toArray := by
  apply Array.ext
  · simpa using hl
  · intro i h1 h2
    have hi : i < args.length := by simpa using h2
    have := hvs i vs[i] (.v args[i]) (Array.getElem?_eq_getElem h1) (by simp [hi])
    have hv := this.rep (loc := fun _ => undef) |>.v_inv
    simpa using hv
 subst this
 exact (h w M hM hg).mono fun e w' ⟨he,hw⟩ => ⟨x,he,hw,hr _ _⟩
theorem DR {w : World} {M : Nat → Prop} (h : GlobW w M) {P : Program} {n : String} {g : Nat} {cs : List Value} (hg : P.globalNamed n = some g) (hm : (g,cs) ∈ globs) : w.var? P n = some cs.toArray := by
 obtain ⟨_,_,t,f,hb⟩ := h.1 _ hm
 simp only [World.var?,hg,Option.bind_some]
 rw [hb]
theorem kG {g : Nat} {e : TypeId} {f : Nat × Nat} : ∀ (vs : List Value) (o : Nat) (w : World) (cur : Array Value),w.heap[g]? = some (.cells cur e f) → o + vs.length ≤ cur.size →
  ∃ cur' : Array Value,(w.setCells g o vs).heap[g]? = some (.cells cur' e f) ∧ cur'.size = cur.size ∧ cur'.toList = cur.toList.take o ++ vs ++ cur.toList.drop (o + vs.length)
 | [],o,w,cur,h,_ => ⟨cur,h,rfl,by simp⟩
 | v :: vs,o,w,cur,h,hl => by
   simp only [List.length_cons] at hl
   have hs : (w.setCell ⟨g,o,none⟩ v).heap[g]? = some (.cells (cur.setIfInBounds o v) e f) := by
    simp [World.setCell,Array.getElem?_modify,h]
   obtain ⟨cur',h1,h2,h3⟩ := kG vs (o + 1) (w.setCell ⟨g,o,none⟩ v) (cur.setIfInBounds o v) hs (by simp; omega)
   refine ⟨cur',h1,by simpa using h2,?_⟩
   rw [h3]
   have ho : o < cur.toList.length := by simp; omega
   have e1 : (cur.setIfInBounds o v).toList = cur.toList.set o v := by simp
   rw [e1,List.set_eq_take_append_cons_drop,if_pos ho]
   have ht : (cur.toList.take o).length = o := by rw [List.length_take]; omega
   have e2 : (cur.toList.take o ++ v :: cur.toList.drop (o + 1)).take (o + 1) = cur.toList.take o ++ [v] := by
    rw [List.take_append,ht,List.take_of_length_le (by omega),Nat.add_sub_cancel_left]; rfl
   have e3 : (cur.toList.take o ++ v :: cur.toList.drop (o + 1)).drop (o + 1 + vs.length) = cur.toList.drop (o + 1 + vs.length) := by
    rw [List.drop_append,ht,List.drop_of_length_le (by omega),List.nil_append,show o + 1 + vs.length - o = vs.length + 1 by omega,List.drop_succ_cons,List.drop_drop]
   rw [e2,e3,show o + (v :: vs).length = o + 1 + vs.length by simp; omega]
   simp
theorem iB {g k : Nat} (hk : k ≠ g) : ∀ (vs : List Value) (o : Nat) (w : World),(w.setCells g o vs).heap[k]? = w.heap[k]?
 | [],_,_ => rfl
 | v :: vs,o,w => by
   show ((w.setCell ⟨g,o,none⟩ v).setCells g (o + 1) vs).heap[k]? = _
   rw [iB hk vs]
   have hk2 : ¬ g = k := fun e => hk e.symm
   simp [World.setCell,Array.getElem?_modify,hk2]
theorem jN {g : Nat} : ∀ (vs : List Value) (o : Nat) (w : World),(w.setCells g o vs).os = w.os ∧ (w.setCells g o vs).tape = w.tape ∧ (w.setCells g o vs).output = w.output ∧ (w.setCells g o vs).heap.size = w.heap.size
 | [],_,_ => ⟨rfl,rfl,rfl,rfl⟩
 | v :: vs,o,w => by
   obtain ⟨h1,h2,h3,h4⟩ := jN (g := g) vs (o + 1) (w.setCell ⟨g,o,none⟩ v)
   exact ⟨h1,h2,h3,h4.trans (by simp [World.setCell])⟩
theorem flat_v (xs : List Value) : (xs.map AV.v).flatMap AV.flat = xs.map AV.v := by
 induction xs with
 | nil => rfl
 | cons a l ih => simp only [List.map_cons,List.flatMap_cons,AV.flat_v,ih]; rfl
theorem GH {P : Program} {f : FuncId} {E : Nat} {xs ys : List Value} (hlen : ys.length = xs.length) (hone : ∀ y ∈ ys,y.oneCell' = true)
  (hC : ∀ g c w,(∀ (j : Nat) x,xs[j]? = some x → w.cell? ⟨g,j,none⟩ = some x) → (∀ j,j < xs.length → w.frozen? ⟨g,j,none⟩ = false) → g < w.heap.size →
   Calls P f #[.slice (some ⟨g,0,none⟩) xs.length c] w fun e w' => e = .returned (.tuple #[]) ∧ ∃ q,w' = (w.drewN q).setCells g 0 ys)
  (hN : ∀ w,Calls P f #[.slice none 0 0] w fun e w' => e = .returned (.tuple #[]) ∧ w' = w) :
  MeansH P f [.row ⟨E,1,xs.map AV.v⟩] [.ow 0] (.tup []) [.row ⟨E,1,ys.map AV.v⟩] := by
 intro w M loc vs hM hg hS hsz hargs
 obtain ⟨v,rfl⟩ : ∃ v,vs = #[v] := by
  match vs,hsz with
  | ⟨[v]⟩,_ => exact ⟨v,rfl⟩
 have h0 : v = loc 0 := (hargs 0 v (.ow 0) rfl rfl).1
 subst h0
 have hob := hS.obj 0 _ rfl
 obtain ⟨cs,hown,hcs⟩ := hob.own
 have htup : ∀ w' M' loc',Rep w' M' loc' (.tuple #[]) (.tup []) := fun w' M' loc' => (RepZ.tup #[] [] rfl (by simp)).rep
 rcases hown.2 with ⟨hn,hz⟩ | ⟨g,cap,cur,hn,hbg,hheap,hnc,hcm,hcs2,htake⟩
 · have hx : xs = [] := by simpa using hz
   subst hx
   have hy : ys = [] := by simpa using hlen
   subst hy
   rw [hn]
   refine (hN w).mono fun e w' ⟨he,hw⟩ => ?_
   subst hw
   exact ⟨_,M,loc,he,⟨fun id o ho => (hS.obj id o ho).imp fun b hb => .inr hb,hS.sep,fun id m hm => (hS.mobj id m hm).imp fun b hb => .inr hb,hS.msep,hS.one⟩,⟨rfl,rfl,rfl,Nat.le_refl _,fun _ _ _ => rfl⟩,fun _ h => h,fun b hb => ⟨hM b hb,.inl hb⟩,fun _ _ => rfl,htup _ _ _,by simp [AV.idLt],Nat.le_refl _⟩
 · have hblk : (loc 0).ownBlock = some g := by rw [hn]; rfl
   have hlt : g < w.heap.size := (Array.getElem?_eq_some_iff.1 hheap).1
   have hcells := hown.cells (g := g) hblk
   simp only [List.length_map,Nat.mul_one] at hnc hcs2 htake
   rw [hn]
   simp only [List.length_map]
   refine (hC g cap w (fun j x hj => ?_) (fun j hj => ?_) hlt).mono fun e w' ⟨he,q,hw⟩ => ?_
   · have he : ((xs.map AV.v).flatMap AV.flat)[j]? = some (.v x) := by rw [flat_v,List.getElem?_map,hj]; rfl
     obtain ⟨y,hy,hr⟩ := hcs j _ he
     have hyv : y = x := hr.1.rep.v_inv
     subst hyv
     have := hcells j _ hy
     rwa [dO,Nat.zero_add] at this
   · have hj2 : j < cur.size := by omega
     show w.frozen? ⟨g,j,none⟩ = false
     simp [World.frozen?,hheap]
   · obtain ⟨cur',h1,h2,h3⟩ := kG ys 0 (w.drewN q) cur hheap (by omega)
     obtain ⟨r1,r2,r3,r4⟩ := jN (g := g) ys 0 (w.drewN q)
     rw [← hw] at h1 r1 r2 r3 r4
     have hoth : ∀ k,k ≠ g → w'.heap[k]? = w.heap[k]? := fun k hk => by rw [hw]; exact iB hk ys 0 (w.drewN q)
     have htk : cur'.toList.take ys.length = ys := by
      rw [h3,List.take_zero,List.nil_append,List.take_append_of_le_length (Nat.le_refl _),List.take_length]
     have hob' : ObjOK (fun b => w.heap.size ≤ b ∨ blks [.row ⟨E,1,xs.map AV.v⟩] loc b) w' M loc 1 (loc 0) ⟨E,1,ys.map AV.v⟩ := by
      refine ⟨⟨ys,⟨by simp,.inr ⟨g,cap,cur',by simp [hn,hlen],hbg,h1,by simp only [List.length_map]; omega,hcm,by show cur'.size = cap * 1; rw [h2]; omega,by simp only [List.length_map,Nat.mul_one]; exact htk⟩⟩,fun j e he => ?_⟩,fun e he => ?_,hob.away,fun g hg => .inr (hob.mine g hg)⟩
      · simp only [] at he
        rw [flat_v,List.getElem?_map,Option.map_eq_some_iff] at he
        obtain ⟨y,hy,rfl⟩ := he
        exact ⟨y,hy,(RepZ.v y).repC (hone y (List.mem_of_getElem? hy)) 1⟩
      · obtain ⟨y,_,rfl⟩ := List.mem_map.1 he
        rfl
     refine ⟨_,M,loc,he,⟨fun id o ho => ?_,fun i j oi oj hij hi hj => ?_,fun id m hm => ?_,fun i j mi mj hij hi hj => ?_,fun id hid => hS.one id (by simpa using hid)⟩,⟨r1,r2,r3,by rw [r4]; exact Nat.le_refl _,fun k hk hT => hoth k fun e => hT (e ▸ .inl ⟨0,_,rfl,hblk⟩)⟩,fun _ h => h,fun b hb => ⟨by rw [r4]; exact hM b hb,.inl hb⟩,fun _ _ => rfl,htup _ _ _,by simp [AV.idLt],Nat.le_refl _⟩
     · match id with
       | 0 =>
         simp at ho
         subst ho
         exact hob'
       | id + 1 => simp at ho
     · match i,j with
       | 0,0 => exact (hij rfl).elim
       | 0,j + 1 => simp at hj
       | i + 1,j => simp at hi
     · match id with
       | 0 => simp at hm
       | id + 1 => simp at hm
     · match i with
       | 0 => simp at hi
       | i + 1 => simp at hi
end Go.Ab
namespace Go.Ab
open Go.RowKit
end Go.Ab
namespace Go.Ab
open Go.RowKit
section
variable {P : Program}
theorem v6 {ops : Array Oper} {listed : Array Bool} {i : Nat} (hi : i ∈ leftL ops listed) : ops[i]? = some (ops.getD i default) ∧ listed.getD i true = false ∧ i < ops.size := by
 simp only [leftL,List.mem_filter,List.mem_range,Bool.not_eq_true'] at hi
 exact ⟨by rw [Array.getD_eq_getD_getElem?,Array.getElem?_eq_getElem hi.1]; rfl,hi.2,hi.1⟩
theorem DS {ops : Array Oper} {listed : Array Bool} {i k : Nat} (hcl : ∀ j o,ops[j]? = some o → listed.getD j false = true → ∀ e ∈ o.after,Region.binds .any e = true → listed.getD e.on false = true)
  (hip : ∀ o,ops[i]? = some o → ∀ e ∈ o.after,Region.binds .any e = true → listed.getD e.on false = true) (hs : listed.size = ops.size) (hk : k ∈ leftL ops listed) (h : Reach ops k i) : False := by
 have := gL hcl h hip
 obtain ⟨_,hlk,hk2⟩ := v6 hk
 rw [Array.getD_eq_getD_getElem?,Array.getElem?_eq_getElem (by omega)] at this hlk
 simp at this hlk
 rw [hlk] at this; cases this
def fO (ops : Array Oper) (i : Nat) : Oper := ops.getD i default
def lstA (ops : Array Oper) (c z : Nat) : List Oper := fO ops z :: fO ops c :: ((ops.toList.drop (c + 1)).take (z - c - 1) ++ ops.toList.drop (z + 1))
theorem DT {ops : Array Oper} {i j : Nat} (h : ((masks ops.toList []).getD j 0).testBit i = true) : Reach ops i j :=
 iC ops.toList [] (fun k _ => by simp) (fun j hj => by simp at hj) j h
def cutQ (X : Ctx) (S : St) : Exit → St → Prop
 | .normal,st => Sub X S st
 | _,_ => False
theorem j5 {X : Ctx} {c : Code} {Q : Exit → St → Prop} {st : St} (S : St) (h : AWP P X c (cutQ X S) st) (hq : Q .normal S) : AWP P X c Q st := by
 intro a w hr
 refine wp_mono (h a w hr) fun e a' w' ⟨st',h1,h2⟩ => ?_
 cases e with
 | normal => exact ⟨S,hq,h1 a' w' h2⟩
 | _ => exact h1.elim
attribute [go_sem] lstA fO cutQ
end
end Go.Ab
namespace Go.Ab
open Go.RowKit
theorem RR.ren {X : Ctx} {M : Nat → Prop} {loc : Nat → Value} {st : St} {a : Act} {w : World} (h : RR X M loc st a w) (u v : Nat → Nat) (hu : ∀ i,i < st.heap.length → u i < st.heap.length) (hv : ∀ i,i < st.heap.length → v i < st.heap.length) (huv : ∀ i,u (v i) = i) (hvu : ∀ i,v (u i) = i) {H' : List Cell} (hlen : H'.length = st.heap.length)
  (hH : ∀ i,i < st.heap.length → H'[u i]? = st.heap[i]?.map (renCell u)) : RR X M (fun i => loc (v i)) ⟨fun s => ren u (st.env s),H'⟩ a w := by
 have hl : ∀ i,i < st.heap.length → (fun i => loc (v i)) (u i) = loc i := fun i _ => by show loc (v (u i)) = loc i; rw [hvu]
 have back : ∀ id c,H'[id]? = some c → ∃ c0,st.heap[v id]? = some c0 ∧ c = renCell u c0 := by
  intro id c hc
  have hid : id < st.heap.length := by rw [← hlen]; exact (List.getElem?_eq_some_iff.1 hc).1
  have := hH (v id) (hv id hid)
  rw [huv,hc] at this
  cases hs : st.heap[v id]? with
  | none => rw [hs] at this; cases this
  | some c0 => rw [hs] at this; exact ⟨c0,rfl,by simpa using this⟩
 have inj : ∀ i j,i ≠ j → v i ≠ v j := fun i j hij e => hij (by rw [← huv i,e,huv])
 have row : ∀ {id o},H'[id]? = some (.row o) → ∃ o0,st.heap[v id]? = some (.row o0) ∧ o = ⟨o0.E,o0.k,renEs u o0.es⟩ := by
  intro id o hc
  obtain ⟨c0,h1,h2⟩ := back id _ hc
  cases c0 with
  | row o0 => exact ⟨o0,h1,by simpa [renCell] using h2⟩
  | dead => simp [renCell] at h2
  | map m => simp [renCell] at h2
 have mp : ∀ {id m},H'[id]? = some (.map m) → st.heap[v id]? = some (.map m) := by
  intro id m hc
  obtain ⟨c0,h1,h2⟩ := back id _ hc
  cases c0 with
  | map m0 => simp [renCell] at h2; rw [h1,h2]
  | dead => simp [renCell] at h2
  | row o => simp [renCell] at h2
 refine ⟨fun s => ?_,h.nle,h.size,h.defers,fun id o ho => ?_,fun i j oi oj hij hi hj => ?_,fun id m hm => ?_,fun i j mi mj hij hi hj => ?_,h.below,h.zone,h.zin,h.zlt,fun id hid => ?_,fun s => ?_⟩
 · exact (Rep.up (u := u) (locU := fun i => loc (v i)) hl (h.ids s)).1 (h.env s)
 · obtain ⟨o0,h1,rfl⟩ := row ho
   have hob := h.obj _ _ h1
   obtain ⟨xs,hown,hcs⟩ := hob.own
   refine ⟨⟨xs,by rw [fZ]; exact hown,fun j e he => ?_⟩,kH.2 hob.flat,hob.away,hob.mine⟩
   rw [f8,List.getElem?_map,Option.map_eq_some_iff] at he
   obtain ⟨e0,he0,rfl⟩ := he
   obtain ⟨x,hx,hr⟩ := hcs j e0 he0
   exact ⟨x,hx,by rw [hlen]; exact RepC.up (u := u) (locU := fun i => loc (v i)) hl hu hr⟩
 · obtain ⟨o1,h1,_⟩ := row hi
   obtain ⟨o2,h2,_⟩ := row hj
   exact h.sep _ _ _ _ (inj i j hij) h1 h2
 · exact h.mobj _ _ (mp hm)
 · exact h.msep _ _ _ _ (inj i j hij) (mp hi) (mp hj)
 · exact h.one _ (hv id (by rw [← hlen]; exact hid))
 · rw [hlen]; exact sN hu (h.ids s)
section
variable {P : Program}
structure AL where
 d : Nat
 o : Ob
def AL.put (st : St) (x : AL) : St := ⟨upd st.env x.d (.el st.heap.length x.o.k 0 0),st.heap ++ [.row x.o]⟩
def isAL (P : Program) (n : Nat) (o : Oper) (x : AL) : Prop := ∃ e T,o.op = .alloc e ∧ o.dst = some x.d ∧ o.guard = none ∧ x.d < n ∧ tyk P e = some T ∧ T.zero.flat.length = T.cells ∧ x.o = ⟨e,T.cells,[T.zero]⟩ ∧ zoneEs [T.zero] = true
def tagAL (st : St) : TagT := ⟨[],[st.heap.length],true⟩
theorem J3 {ops : Array Oper} {n L0 : Nat} {o : Oper} {x : AL} (st : St) (hx : isAL P n o x) : StepT P ops n L0 o (tagAL st) st (x.put st) := by
 obtain ⟨e,T,h1,h2,h3,h4,h5,h6,h7,h8⟩ := hx
 refine ⟨fun d hd => by rw [h2] at hd; cases hd; exact h4,?_⟩
 rw [h3]
 refine .inr (.inl ⟨.el st.heap.length T.cells 0 0,st.heap ++ [.row ⟨e,T.cells,[T.zero]⟩],_,by rw [h1]; simp only [effA,eff,h5],h6,by simp [AV.idLt],?_,?_⟩)
 · unfold AL.put putE
   rw [h2,h7]
 · unfold tagAL
   rw [h1]
   simp [rdX,wrOf,newIds]
def ext (st : St) : List AL → St
 | [] => st
 | x :: r => ext (x.put st) r
theorem v7 : ∀ (σ : List AL) (st : St) (x : AL),ext st (σ ++ [x]) = x.put (ext st σ)
 | [],_,_ => rfl
 | y :: σ,st,x => v7 σ (y.put st) x
theorem iD : ∀ (σ : List AL) (st : St),(ext st σ).heap = st.heap ++ σ.map fun x => .row x.o
 | [],st => by simp [ext]
 | y :: σ,st => by rw [ext,iD σ]; simp [AL.put]
theorem n9 : ∀ (σ : List AL) (st : St) (s : Nat),s ∉ σ.map AL.d → (ext st σ).env s = st.env s
 | [],_,_,_ => rfl
 | y :: σ,st,s,h => by
   simp only [List.map_cons,List.mem_cons,not_or] at h
   rw [ext,n9 σ _ s h.2]
   exact DU _ _ _ h.1
theorem xU : ∀ (σ : List AL) (st : St) (i : Nat) (x : AL),(σ.map AL.d).Nodup → σ[i]? = some x → (ext st σ).env x.d = .el (st.heap.length + i) x.o.k 0 0
 | y :: σ,st,0,x,hn,h => by
   simp at h; subst h
   simp only [List.map_cons,List.nodup_cons] at hn
   rw [ext,n9 σ _ _ hn.1]
   exact J4 _ _ _
 | y :: σ,st,i + 1,x,hn,h => by
   simp only [List.map_cons,List.nodup_cons] at hn
   rw [ext,xU σ _ i x hn.2 (by simpa using h)]
   simp [AL.put]; omega
 | [],_,_,_,_,h => by simp at h
def moveA (L : Nat) (σ τ : List AL) (i : Nat) : Nat := if L ≤ i ∧ i < L + σ.length then L + (τ.map AL.d).idxOf ((σ.map AL.d).getD (i - L) 0) else i
theorem v8 {L : Nat} {σ τ : List AL} (hp : σ.Perm τ) {i : Nat} (hi : i < L + σ.length) : moveA L σ τ i < L + σ.length := by
 unfold moveA
 split
 · rename_i h
   have hk : i - L < (σ.map AL.d).length := by simp; omega
   have : (σ.map AL.d).getD (i - L) 0 ∈ τ.map AL.d := by
    rw [List.getD_eq_getElem?_getD,List.getElem?_eq_getElem hk]
    exact (hp.map AL.d).mem_iff.1 (List.getElem_mem hk)
   have h3 := List.idxOf_lt_length_of_mem this
   rw [List.length_map] at h3
   have := hp.length_eq
   omega
 · exact hi
theorem oN {L : Nat} {σ τ : List AL} (hp : σ.Perm τ) (hn : (σ.map AL.d).Nodup) (i : Nat) : moveA L τ σ (moveA L σ τ i) = i := by
 have hlen := hp.length_eq
 by_cases h : L ≤ i ∧ i < L + σ.length
 · have hk : i - L < (σ.map AL.d).length := by simp; omega
   have hmem : (σ.map AL.d).getD (i - L) 0 ∈ τ.map AL.d := by
    rw [List.getD_eq_getElem?_getD,List.getElem?_eq_getElem hk]
    exact (hp.map AL.d).mem_iff.1 (List.getElem_mem hk)
   have hlt := List.idxOf_lt_length_of_mem hmem
   have e1 : moveA L σ τ i = L + (τ.map AL.d).idxOf ((σ.map AL.d).getD (i - L) 0) := by unfold moveA; rw [if_pos h]
   rw [e1]
   unfold moveA
   rw [if_pos (by have h3 := hlt; rw [List.length_map] at h3; omega),Nat.add_sub_cancel_left,List.getD_eq_getElem?_getD (l := τ.map AL.d),List.getElem?_eq_getElem hlt]
   simp only [Option.getD_some,List.getElem_idxOf]
   rw [List.getD_eq_getElem?_getD,List.getElem?_eq_getElem hk]
   simp only [Option.getD_some]
   rw [hn.idxOf_getElem]
   omega
 · have e1 : moveA L σ τ i = i := by unfold moveA; rw [if_neg h]
   rw [e1]
   unfold moveA
   rw [if_neg (by omega)]
theorem zA (e : AV) : renB (fun i => i) e = e := by cases e <;> rfl
theorem J5 (e : AV) : Ab.ren (fun i => i) e = e := by
 have lst : ∀ es : List AV,es.map (renB fun i => i) = es := fun es => by
  rw [show (renB fun i => i) = id from funext zA,List.map_id]
 induction e using AV.zone.induct with
 | case4 f first cap => simp only [Ab.ren,lst]
 | case5 g y ih => simp only [Ab.ren,ih]
 | case6 es => simp only [Ab.ren,lst]
 | case7 es => simp only [Ab.ren,lst]
 | case8 e h1 h2 h3 h4 h5 h6 h7 =>
   cases e with
   | ow id => exact (h1 _ rfl).elim
   | el a b c d => exact (h2 _ _ _ _ rfl).elim
   | wn a b c d => exact (h3 _ _ _ _ rfl).elim
   | fn a b c => exact (h4 _ _ _ rfl).elim
   | mb g y => exact (h5 _ _ rfl).elim
   | tup es => exact (h6 _ rfl).elim
   | agg es => exact (h7 _ rfl).elim
   | _ => rfl
 | _ => rfl
theorem GI (e : AV) : renF (fun i => i) e = e := by
 cases e with
 | agg cs => simp only [renF]; rw [show (renB fun i => i) = id from funext zA,List.map_id]
 | _ => rfl
theorem oO {τ : List AL} (hn : (τ.map AL.d).Nodup) {x : AL} (hx : x ∈ τ) : ∃ j,τ[j]? = some x ∧ (τ.map AL.d).idxOf x.d = j := by
 obtain ⟨j,hj,rfl⟩ := List.mem_iff_getElem.1 hx
 refine ⟨j,List.getElem?_eq_getElem hj,?_⟩
 have hj2 : j < (τ.map AL.d).length := by rw [List.length_map]; exact hj
 have := hn.idxOf_getElem j hj2
 rwa [List.getElem_map] at this
theorem vA {L : Nat} {σ τ : List AL} {k : Nat} {x : AL} (hk : σ[k]? = some x) : moveA L σ τ (L + k) = L + (τ.map AL.d).idxOf x.d := by
 have hlt : k < σ.length := (List.getElem?_eq_some_iff.1 hk).1
 unfold moveA
 rw [if_pos (by omega),Nat.add_sub_cancel_left,List.getD_eq_getElem?_getD,List.getElem?_map,hk]
 rfl
theorem J6 {X : Ctx} {st : St} {σ τ : List AL} {a : Act} {w : World} (hp : σ.Perm τ) (hn : (σ.map AL.d).Nodup) (hz : ∀ x ∈ σ,zoneEs x.o.es = true) (hb : ∀ s,(st.env s).idLt st.heap.length) (hH : okIds st.heap.length st.heap) (h : R X (ext st σ) a w) : R X (ext st τ) a w := by
 obtain ⟨M,loc,h⟩ := h
 have hlen := hp.length_eq
 have hnt : (τ.map AL.d).Nodup := (hp.map AL.d).nodup_iff.1 hn
 have hls : (ext st σ).heap.length = st.heap.length + σ.length := by rw [iD]; simp
 have hlt : (ext st τ).heap.length = st.heap.length + σ.length := by rw [iD]; simp [hlen]
 have low : ∀ i,i < st.heap.length → moveA st.heap.length σ τ i = i := fun i hi => by unfold moveA; rw [if_neg (by omega)]
 have renlow : ∀ e : AV,e.idLt st.heap.length → Ab.ren (moveA st.heap.length σ τ) e = e := fun e he => by
  rw [lG (v := fun i => i) low he]; exact J5 e
 have hr := h.ren (moveA st.heap.length σ τ) (moveA st.heap.length τ σ) (fun i hi => by rw [hls] at hi ⊢; exact v8 hp hi) (fun i hi => by
  rw [hls] at hi ⊢
  have := v8 (L := st.heap.length) hp.symm (i := i) (by omega)
  omega) (fun i => oN hp.symm hnt i) (fun i => oN hp hn i) (H' := (ext st τ).heap) (by rw [hlt,hls]) (fun i hi => by
  rw [iD,iD]
  by_cases hiL : i < st.heap.length
  · rw [low i hiL,List.getElem?_append_left hiL,List.getElem?_append_left hiL]
    cases hc : st.heap[i]? with
    | none => rfl
    | some c =>
      cases c with
      | row o =>
        simp only [Option.map_some,renCell,renEs]
        cases hzz : zoneEs o.es with
        | true => rfl
        | false =>
          have : o.es.map (renF (moveA st.heap.length σ τ)) = o.es := by
           conv => rhs; rw [← List.map_id o.es]
           refine List.map_congr_left fun e he => ?_
           rw [oP (v := fun i => i) low (fun c hcc => hH i o hc c (List.mem_flatMap.2 ⟨e,he,hcc⟩)),GI]; rfl
          simp [this]
      | dead => rfl
      | map m => rfl
  · obtain ⟨k,rfl⟩ : ∃ k,i = st.heap.length + k := ⟨i - st.heap.length,by omega⟩
    rw [hls] at hi
    have hk : k < σ.length := by omega
    have hx : σ[k]? = some σ[k] := List.getElem?_eq_getElem hk
    obtain ⟨j,hj1,hj2⟩ := oO hnt (hp.mem_iff.1 (List.getElem_mem hk))
    rw [vA hx,hj2,List.getElem?_append_right (by omega),List.getElem?_append_right (by omega),Nat.add_sub_cancel_left,Nat.add_sub_cancel_left,List.getElem?_map,List.getElem?_map,hj1,hx]
    simp only [Option.map_some,renCell,renEs,hz _ (List.getElem_mem hk),cond_true])
 have e : (fun s => Ab.ren (moveA st.heap.length σ τ) ((ext st σ).env s)) = (ext st τ).env := by
  funext s
  by_cases hs : s ∈ σ.map AL.d
  · obtain ⟨x,hx,rfl⟩ := List.mem_map.1 hs
    obtain ⟨k,hk1,hk2⟩ := oO hn hx
    obtain ⟨j,hj1,hj2⟩ := oO hnt (hp.mem_iff.1 hx)
    rw [xU σ st k x hn hk1,xU τ st j x hnt hj1]
    simp only [Ab.ren]
    rw [vA hk1,hj2]
  · rw [n9 σ st s hs,n9 τ st s fun h => hs ((hp.map AL.d).mem_iff.2 h)]
    exact renlow _ (hb s)
 rw [e] at hr
 exact ⟨M,_,hr⟩
theorem zB {L0 : Nat} {st : St} {x : AL} (h : BndT L0 st) : BndT L0 (x.put st) := by
 obtain ⟨hb,hL⟩ := h
 refine ⟨fun s => ?_,by simp [AL.put]; omega⟩
 have hlen : (x.put st).heap.length = st.heap.length + 1 := by simp [AL.put]
 rw [hlen]
 show (upd st.env x.d (.el st.heap.length x.o.k 0 0) s).idLt _
 unfold upd
 split
 · simp [AV.idLt]
 · exact AV.idLt_up (Nat.le_succ _) (hb s)
theorem lH {ops : Array Oper} {n L0 : Nat} {o : Oper} {t : TagT} (hq : t.e = false) : ∀ (σ : List AL) (st st1 : St),StepT P ops n L0 o t st st1 → BndT L0 st → (∀ x ∈ σ,x.d ∉ o.looksAt ops ∧ o.dst ≠ some x.d) → StepT P ops n L0 o t (ext st σ) (ext st1 σ)
 | [],_,_,h,_,_ => h
 | x :: σ,st,st1,h,hb,hσ => by
   obtain ⟨a1,a2⟩ := hσ x (by simp)
   have hlt := fun id => sP h hb (id := id)
   obtain ⟨r,rfl,q⟩ := eH h hq
   refine lH hq σ (x.put st) (x.put ⟨putE st.env o.dst r,st.heap⟩) ?_ (zB hb) fun y hy => hσ y (by simp [hy])
   have h1 := q (upd st.env x.d (.el st.heap.length x.o.k 0 0)) (st.heap ++ [.row x.o])
    (dX (d := some x.d) (fun k hk => by cases hk; exact a1)) (fun j b hg => gM (d := some x.d) (fun k hk => by cases hk; exact a1) hg) (fun id hid => List.getElem?_append_left (hlt id hid))
   have e : x.put ⟨putE st.env o.dst r,st.heap⟩ = ⟨putE (upd st.env x.d (.el st.heap.length x.o.k 0 0)) o.dst r,st.heap ++ [.row x.o]⟩ := by
    have := dY (env := st.env) (d := o.dst) (e := some x.d) (r := r) (q := .el st.heap.length x.o.k 0 0) (fun k hk => by rw [← hk]; exact fun e => a2 e.symm)
    unfold AL.put
    congr 1
   rw [e]
   exact h1
theorem qQ {ops : Array Oper} {n L0 : Nat} {σ : List AL} : ∀ (l : List (Oper × TagT)) (st st' : St),RunTX P ops n L0 l st st' → BndT L0 st → (∀ q ∈ l,q.2.e = false ∧ ∀ x ∈ σ,x.d ∉ q.1.looksAt ops ∧ q.1.dst ≠ some x.d) → RunTX P ops n L0 l (ext st σ) (ext st' σ)
 | [],_,_,h,_,_ => by rw [show _ = _ from h]; rfl
 | q :: l,st,st',h,hb,hl => by
   obtain ⟨st1,h1,h2⟩ := h
   obtain ⟨e1,e2⟩ := hl q (by simp)
   exact ⟨ext st1 σ,lH e1 σ st st1 h1 hb e2,qQ l st1 st' h2 (h1.bnd hb) fun r hr => hl r (by simp [hr])⟩
theorem nA {L0 : Nat} : ∀ (σ : List AL) (st : St),BndT L0 st → BndT L0 (ext st σ)
 | [],_,h => h
 | x :: σ,st,h => nA σ (x.put st) (zB h)
theorem qR {ops : Array Oper} {n L0 : Nat} : ∀ {l l' : List (Oper × TagT)} {st st1 st2 : St},RunTX P ops n L0 l st st1 → RunTX P ops n L0 l' st1 st2 → RunTX P ops n L0 (l ++ l') st st2
 | [],_,_,_,_,h,h' => by rw [show _ = _ from h] at h'; exact h'
 | _ :: _,_,_,_,_,⟨s,h1,h2⟩,h' => ⟨s,h1,qR h2 h'⟩
theorem xV {ops : Array Oper} {listed : Array Bool} {na nk : Nat} (hs : listed.size = ops.size) (hsz : na + nk ≤ ops.size) (hall : ∀ j,j < nk → listed.getD (na + j) false = true) (hno : ∀ j,na + nk ≤ j → listed.getD j false = false) :
  leftL ops listed = (leftL ops listed).filter (fun i => decide (i < na)) ++ List.range' (na + nk) (ops.size - (na + nk)) := by
 have hget : ∀ i,i < ops.size → listed.getD i true = listed.getD i false := fun i hi => by
  rw [Array.getD_eq_getD_getElem?,Array.getD_eq_getD_getElem?,Array.getElem?_eq_getElem (by omega)]; rfl
 have hr : List.range ops.size = List.range' 0 na ++ (List.range' na nk ++ List.range' (na + nk) (ops.size - (na + nk))) := by
  rw [List.range_eq_range',← Nat.zero_add na]
  have h1 := List.range'_append_1 (s := 0 + na) (m := nk) (n := ops.size - (na + nk))
  have h2 := List.range'_append_1 (s := 0) (m := na) (n := nk + (ops.size - (na + nk)))
  simp only [Nat.zero_add] at *
  rw [h1,h2]
  congr 1
  omega
 unfold leftL
 rw [hr]
 simp only [List.filter_append,List.filter_filter]
 have f2 : (List.range' na nk).filter (fun i => !listed.getD i true) = [] := by
  refine List.filter_eq_nil_iff.2 fun i hi => ?_
  obtain ⟨j,hj,rfl⟩ := List.mem_range'.1 hi
  rw [hget _ (by omega),Nat.one_mul,hall j hj]
  simp
 have f3 : (List.range' (na + nk) (ops.size - (na + nk))).filter (fun i => !listed.getD i true) = List.range' (na + nk) (ops.size - (na + nk)) := by
  refine List.filter_eq_self.2 fun i hi => ?_
  obtain ⟨j,hj,rfl⟩ := List.mem_range'.1 hi
  rw [hget _ (by omega),hno _ (by omega)]
  rfl
 have g2 : (List.range' na nk).filter (fun i => decide (i < na) && !listed.getD i true) = [] := by
  refine List.filter_eq_nil_iff.2 fun i hi => ?_
  obtain ⟨j,hj,rfl⟩ := List.mem_range'.1 hi
  simp
  intro h; omega
 have g3 : (List.range' (na + nk) (ops.size - (na + nk))).filter (fun i => decide (i < na) && !listed.getD i true) = [] := by
  refine List.filter_eq_nil_iff.2 fun i hi => ?_
  obtain ⟨j,hj,rfl⟩ := List.mem_range'.1 hi
  simp
  omega
 have g1 : (List.range' 0 na).filter (fun i => decide (i < na) && !listed.getD i true) = (List.range' 0 na).filter (fun i => !listed.getD i true) := by
  refine List.filter_congr fun i hi => ?_
  obtain ⟨j,hj,rfl⟩ := List.mem_range'.1 hi
  simp; omega
 rw [f2,f3,g1,g2,g3]
 simp
theorem DV {X : Ctx} {ops : Array Oper} {L0 : Nat} {Q : Exit → Act → World → Prop} {T : Nat → TagT} {sf : St} (al : List AL) (na : Nat)
  (hq : ∀ a w,R X sf a w → Q .normal a w)
  (hback : ∀ j oj,ops[j]? = some oj → ∀ e ∈ oj.after,Region.binds .any e = true → e.on < j)
  (hind : ∀ i j oi oj,ops[i]? = some oi → ops[j]? = some oj → i < j → Reach ops i j ∨ (oi.apart ops oj = true ∧ noMeetT (T i) (T j) = true))
  (hal : ∀ j x,al[j]? = some x → ∃ o,ops[na + j]? = some o ∧ isAL P X.n o x)
  (hnd : (al.map AL.d).Nodup)
  (hquiet : ∀ i,i < na → (T i).e = false ∧ ∀ o,ops[i]? = some o → ∀ x ∈ al,x.d ∉ o.looksAt ops ∧ o.dst ≠ some x.d)
  (hrest : ∀ j k,na + al.length ≤ j → j < ops.size → na ≤ k → k < na + al.length → Reach ops k j)
  (hsz : na + al.length ≤ ops.size) :
  ∀ (fuel : Nat) (listed : Array Bool) (st stQ : St) (σ : List AL) (a : Act) (w : World),listed.size = ops.size → (leftL ops listed).length = fuel → L0 = st.heap.length → okIds L0 st.heap → BndT L0 st →
    (∀ j o,ops[j]? = some o → listed.getD j false = true → ∀ e ∈ o.after,Region.binds .any e = true → listed.getD e.on false = true) →
    σ.Nodup → (∀ x,x ∈ σ ↔ ∃ j,al[j]? = some x ∧ listed.getD (na + j) false = true) → (∀ j,na + al.length ≤ j → listed.getD j false = false) →
    RunTX P ops X.n L0 (((leftL ops listed).filter (fun i => decide (i < na))).map fun i => (ops.getD i default,T i)) st stQ →
    RunTX P ops X.n L0 ((List.range' (na + al.length) (ops.size - (na + al.length))).map fun i => (ops.getD i default,T i)) (ext stQ al) sf →
    R X (ext st σ) a w → wpAny P .any ops Q fuel listed a w := by
 have fin : ∀ (fuel : Nat) (listed : Array Bool) (st stQ : St) (σ : List AL) (a : Act) (w : World),listed.size = ops.size → (leftL ops listed).length = fuel → L0 = st.heap.length → okIds L0 st.heap → BndT L0 st →
   (∀ j o,ops[j]? = some o → listed.getD j false = true → ∀ e ∈ o.after,Region.binds .any e = true → listed.getD e.on false = true) →
   σ.Nodup → (∀ x,x ∈ σ ↔ ∃ j,al[j]? = some x ∧ listed.getD (na + j) false = true) → (∀ j,na + al.length ≤ j → listed.getD j false = false) →
   RunTX P ops X.n L0 (((leftL ops listed).filter (fun i => decide (i < na))).map fun i => (ops.getD i default,T i)) st stQ →
   RunTX P ops X.n L0 ((List.range' (na + al.length) (ops.size - (na + al.length))).map fun i => (ops.getD i default,T i)) (ext stQ al) sf →
   R X (ext st σ) a w → (∀ j,j < al.length → listed.getD (na + j) false = true) → wpAny P .any ops Q fuel listed a w := by
  intro fuel listed st stQ σ a w hs hl hL hok hb hcl hσn hσ hno hrq hrr hR hall
  have haln : al.Nodup := List.Pairwise.of_map AL.d (fun _ _ apart same => apart (congrArg AL.d same)) hnd
  have hp : σ.Perm al := (List.perm_ext_iff_of_nodup hσn haln).2 fun x => by
   rw [hσ]
   constructor
   · rintro ⟨j,h1,_⟩; exact List.mem_of_getElem? h1
   · intro hx
     obtain ⟨j,hj,rfl⟩ := List.mem_iff_getElem.1 hx
     exact ⟨j,List.getElem?_eq_getElem hj,hall j hj⟩
  have hzone : ∀ x ∈ σ,zoneEs x.o.es = true := fun x hx => by
   obtain ⟨j,h1,_⟩ := (hσ x).1 hx
   obtain ⟨o,_,e,TT,_,_,_,_,_,_,h7,h8⟩ := hal j x h1
   rw [h7]; exact h8
  have hR2 := J6 hp ((hp.map AL.d).nodup_iff.2 hnd) hzone hb.1 (hL ▸ hok) hR
  have hrun := qQ (σ := al) _ st stQ hrq hb (fun q hq => by
   obtain ⟨i,hi,rfl⟩ := List.mem_map.1 hq
   obtain ⟨hi1,hi2⟩ := List.mem_filter.1 hi
   have hin : i < na := by simpa using hi2
   refine ⟨(hquiet i hin).1,(hquiet i hin).2 _ ?_⟩
   rw [Array.getD_eq_getD_getElem?,Array.getElem?_eq_getElem (by omega)]; rfl)
  refine vB (T := T) (sf := sf) (L0 := L0) (meet := fun i _ j _ => noMeetT (T i) (T j)) hq hback hind (fun i j oi oj _ _ _ h => h) fuel listed (ext st al) a w hs hl (nA al st hb).2 hcl ?_ hR2
  rw [xV hs hsz hall hno,List.map_append]
  exact qR hrun hrr
 intro fuel
 induction fuel with
 | zero =>
   intro listed st stQ σ a w hs hl hL hok hb hcl hσn hσ hno hrq hrr hR
   refine fin 0 listed st stQ σ a w hs hl hL hok hb hcl hσn hσ hno hrq hrr hR fun j hj => ?_
   have h0 : leftL ops listed = [] := List.eq_nil_of_length_eq_zero hl
   have : na + j ∉ leftL ops listed := by rw [h0]; simp
   simp only [leftL,List.mem_filter,List.mem_range,Bool.not_eq_true'] at this
   have h2 : listed.getD (na + j) true = true := by
    cases hg : listed.getD (na + j) true with
    | true => rfl
    | false => exact absurd ⟨by omega,hg⟩ this
   rw [Array.getD_eq_getD_getElem?,Array.getElem?_eq_getElem (by omega)] at h2 ⊢
   exact h2
 | succ fuel ih =>
   intro listed st stQ σ a w hs hl hL hok hb hcl hσn hσ hno hrq hrr hR
   by_cases hall : ∀ j,j < al.length → listed.getD (na + j) false = true
   · exact fin _ listed st stQ σ a w hs hl hL hok hb hcl hσn hσ hno hrq hrr hR hall
   · refine ⟨fun h0 => ?_,fun i hi => ?_⟩
     · exfalso
       cases hL2 : leftL ops listed with
       | nil => rw [hL2] at hl; simp at hl
       | cons k L =>
         have hk : k ∈ leftL ops listed := by rw [hL2]; simp
         have : k ∈ Region.ready .any ops listed := by
          refine g9.2 ⟨hk,fun o ho e he hbn => ?_⟩
          have hlt := hback k o ho e he hbn
          have hkk : k < ops.size := (Array.getElem?_eq_some_iff.1 ho).1
          cases hg : listed.getD e.on false with
          | true => rfl
          | false =>
            exfalso
            have hsz : e.on < listed.size := by omega
            have hmem : e.on ∈ leftL ops listed := by
             simp only [leftL,List.mem_filter,List.mem_range,Bool.not_eq_true']
             refine ⟨by omega,?_⟩
             rw [Array.getD_eq_getD_getElem?,Array.getElem?_eq_getElem hsz] at hg ⊢
             exact hg
            have hsort := eI ops listed
            rw [hL2] at hsort hmem
            rcases List.mem_cons.1 hmem with h | h
            · omega
            · have := (List.pairwise_cons.1 hsort).1 _ h; omega
         rw [h0] at this; cases this
     · obtain ⟨hil,hip⟩ := g9.1 hi
       have hil2 : i < ops.size ∧ listed.getD i true = false := by
        simpa only [leftL,List.mem_filter,List.mem_range,Bool.not_eq_true'] using hil
       have hoi : ops[i]? = some (ops.getD i default) := by rw [Array.getD_eq_getD_getElem?,Array.getElem?_eq_getElem hil2.1]; rfl
       have hset : ∀ q,listed.getD q false = true → (listed.setIfInBounds i true).getD q false = true := fun q hq => by
        by_cases hqi : q = i
        · subst hqi
          rw [Array.getD_eq_getD_getElem?,Array.getElem?_setIfInBounds_self_of_lt (by omega)]; rfl
        · rw [Array.getD_eq_getD_getElem?,Array.getElem?_setIfInBounds_ne (by omega),← Array.getD_eq_getD_getElem?]; exact hq
       have hne : ∀ q,q ≠ i → (listed.setIfInBounds i true).getD q false = listed.getD q false := fun q hq => by
        rw [Array.getD_eq_getD_getElem?,Array.getElem?_setIfInBounds_ne (by omega),← Array.getD_eq_getD_getElem?]
       have hcl2 : ∀ j o,ops[j]? = some o → (listed.setIfInBounds i true).getD j false = true → ∀ e ∈ o.after,Region.binds .any e = true → (listed.setIfInBounds i true).getD e.on false = true := by
        intro j o hj hlj e he hbn
        by_cases hji : j = i
        · subst hji; exact hset _ (hip o hj e he hbn)
        · rw [hne j hji] at hlj; exact hset _ (hcl j o hj hlj e he hbn)
       have hlen2 : (leftL ops (listed.setIfInBounds i true)).length = fuel := by
        obtain ⟨A,B,hAB,_,hf⟩ := oQ (eI ops listed) hil
        rw [iE hs hil,hf]
        rw [hAB] at hl
        simp at hl ⊢; omega
       unfold wpOp
       rw [hoi]
       simp only []
       suffices hstep : if Region.wanted (ops.getD i default) (yielded ops a.tmps) = true then (ops.getD i default).wp P a w (wpAny P .any ops Q fuel (listed.setIfInBounds i true)) Q else wpAny P .any ops Q fuel (listed.setIfInBounds i true) (a.put (ops.getD i default).dst undef) w by
        split
        · rename_i hw
          rw [if_pos hw] at hstep
          exact .inl hstep
        · rename_i hw
          rw [if_neg hw] at hstep
          exact hstep
       have hfil : ∀ L : List Nat,(L.filter (fun k => k != i)).filter (fun k => decide (k < na)) = (L.filter (fun k => decide (k < na))).filter (fun k => k != i) := fun L => by
        rw [List.filter_filter,List.filter_filter]
        exact List.filter_congr fun k _ => Bool.and_comm _ _
       by_cases h1 : i < na
       · obtain ⟨hq1,hq2⟩ := hquiet i h1
         have hif : i ∈ (leftL ops listed).filter (fun i => decide (i < na)) := List.mem_filter.2 ⟨hil,by simpa using h1⟩
         obtain ⟨A,B,hAB,hA,hf⟩ := oQ ((eI ops listed).filter _) hif
         rw [hAB,List.map_append,List.map_cons] at hrq
         obtain ⟨st1,g1,g2⟩ := sS (A.map fun i => (ops.getD i default,T i)) st hrq hb (fun x hx => by
          obtain ⟨k,hk,rfl⟩ := List.mem_map.1 hx
          have hkf : k ∈ (leftL ops listed).filter (fun i => decide (i < na)) := by rw [hAB]; simp [hk]
          have hkl := (List.mem_filter.1 hkf).1
          obtain ⟨hok',hlk,_⟩ := v6 hkl
          rcases hind k i _ _ hok' hoi (hA k hk) with h | ⟨h,h'⟩
          · exact (DS hcl hip hs hkl h).elim
          · exact ⟨h,h'⟩)
         have g3 := lH hq1 σ st st1 g1 hb (fun x hx => by
          obtain ⟨j,hj,_⟩ := (hσ x).1 hx
          exact hq2 _ hoi x (List.mem_of_getElem? hj))
         obtain ⟨r,hst1,_⟩ := eH g1 hq1
         have hH : st1.heap = st.heap := by rw [hst1]
         refine oR g3 (nA σ st hb).2 hR fun a' w' hR' => ih (listed.setIfInBounds i true) st1 stQ σ a' w' (by simpa using hs) hlen2 (by rw [hH]; exact hL) (by rw [hH]; exact hok) (g1.bnd hb) hcl2 hσn (fun x => ?_) (fun j hj => ?_) ?_ hrr hR'
         · rw [hσ]
           exact ⟨fun ⟨j,e1,e2⟩ => ⟨j,e1,hset _ e2⟩,fun ⟨j,e1,e2⟩ => ⟨j,e1,by rwa [hne _ (by omega)] at e2⟩⟩
         · rw [hne _ (by omega)]; exact hno j hj
         · rw [iE hs hil,hfil,hf,List.map_append]; exact g2
       · by_cases h2 : i < na + al.length
         · have hj : i - na < al.length := by omega
           have hji : na + (i - na) = i := by omega
           have hx := List.getElem?_eq_getElem hj
           generalize al[i - na] = x at hx
           obtain ⟨o,ho,hxo⟩ := hal _ _ hx
           rw [hji,hoi] at ho
           obtain rfl := Option.some.inj ho
           have haln : al.Nodup := List.Pairwise.of_map AL.d (fun _ _ apart same => apart (congrArg AL.d same)) hnd
           have hil3 : listed.getD i false = false := by
            have := hil2.2
            rw [Array.getD_eq_getD_getElem?,Array.getElem?_eq_getElem (by omega)] at this ⊢
            exact this
           have hself : (listed.setIfInBounds i true).getD i false = true := by
            rw [Array.getD_eq_getD_getElem?,Array.getElem?_setIfInBounds_self_of_lt (by omega)]; rfl
           refine oR (J3 (ops := ops) (L0 := L0) (ext st σ) hxo) (nA σ st hb).2 hR fun a' w' hR' => ih (listed.setIfInBounds i true) st stQ (σ ++ [x]) a' w' (by simpa using hs) hlen2 hL hok hb hcl2 ?_ (fun y => ?_) (fun j hj => ?_) ?_ hrr (by rw [v7]; exact hR')
           · rw [List.nodup_append]
             refine ⟨hσn,by simp,fun y hy z hz => ?_⟩
             rw [List.mem_singleton] at hz
             subst hz
             rintro rfl
             obtain ⟨j,e1,e2⟩ := (hσ y).1 hy
             have hj2 : j < al.length := (List.getElem?_eq_some_iff.1 e1).1
             have : j = i - na := (List.getElem?_inj hj2 haln).1 (by rw [e1,hx])
             rw [this,hji,hil3] at e2; cases e2
           · rw [List.mem_append,List.mem_singleton,hσ]
             constructor
             · rintro (⟨j,e1,e2⟩ | rfl)
               · exact ⟨j,e1,hset _ e2⟩
               · exact ⟨i - na,hx,by rw [hji]; exact hself⟩
             · rintro ⟨j,e1,e2⟩
               by_cases hjj : na + j = i
               · right
                 have : j = i - na := by omega
                 rw [this,hx] at e1
                 exact (Option.some.inj e1).symm
               · left
                 exact ⟨j,e1,by rwa [hne _ hjj] at e2⟩
           · rw [hne _ (by omega)]; exact hno j hj
           · rw [iE hs hil,hfil]
             rw [List.filter_eq_self.2 (fun k hk => by
              have : k < na := by simpa using (List.mem_filter.1 hk).2
              have : k ≠ i := by omega
              simpa using this)]
             exact hrq
         · exfalso
           refine hall fun j hj => ?_
           exact gL hcl (hrest i (na + j) (by omega) hil2.1 (by omega) (by omega)) hip
def runAL (P : Program) (n : Nat) : List Oper → (List AL → Prop) → Prop
 | [],K => K []
 | o :: l,K => match o.op,o.dst,o.guard with
   | .alloc e,some d,none => match tyk P e with
     | some T => d < n ∧ T.zero.flat.length = T.cells ∧ zoneEs [T.zero] = true ∧ runAL P n l (fun r => K (⟨d,⟨e,T.cells,[T.zero]⟩⟩ :: r))
     | none => False
   | _,_,_ => False
theorem vC {n : Nat} : ∀ (l : List Oper) (K : List AL → Prop),runAL P n l K → ∃ al : List AL,al.length = l.length ∧ (∀ (j : Nat) (x : AL),al[j]? = some x → ∃ o,l[j]? = some o ∧ isAL P n o x) ∧ K al
 | [],K,h => ⟨[],rfl,fun j x hx => by simp at hx,h⟩
 | o :: l,K,h => by
   simp only [runAL] at h
   split at h
   · rename_i e d h1 h2 h3
     split at h
     · rename_i T hT
       obtain ⟨g1,g2,g3,g4⟩ := h
       obtain ⟨al,e1,e2,e3⟩ := vC l _ g4
       refine ⟨_,by simp [e1],fun j x hx => ?_,e3⟩
       cases j with
       | zero =>
         simp at hx; subst hx
         exact ⟨o,rfl,e,T,h1,h2,h3,g1,hT,g2,rfl,g3⟩
       | succ j =>
         obtain ⟨o',ho',hx'⟩ := e2 j x (by simpa using hx)
         exact ⟨o',by simpa using ho',hx'⟩
     · exact h.elim
   · exact h.elim
def allocOK (ops : Array Oper) (na k : Nat) (ts : List TagT) : Bool :=
 let ms := masks ops.toList []
 decide (na + k ≤ ops.size) && ((List.range na).all fun i => !(ts.getD i default).e && (List.range k).all fun j => (ops.getD i default).apart ops (ops.getD (na + j) default)) &&
 ((List.range k).all fun i => (List.range k).all fun j => !(i < j) || (ops.getD (na + i) default).apart ops (ops.getD (na + j) default)) &&
 ((List.range ops.size).all fun j => decide (j < na + k) || (List.range k).all fun i => (ms.getD j 0).testBit (na + i))
def drawAOK (ops : Array Oper) (na k : Nat) (ts : List TagT) : Bool := drawOK ops (meetT ts) && allocOK ops na k ts
theorem DW {X : Ctx} {st : St} {a : Act} {w : World} (h : R X st a w) : BndT st.heap.length st ∧ okIds st.heap.length st.heap := by
 obtain ⟨M,loc,h⟩ := h
 refine ⟨⟨h.ids,Nat.le_refl _⟩,fun i o ho e he => ?_⟩
 obtain ⟨xs,_,h2⟩ := (h.obj i o ho).own
 obtain ⟨j,hj,rfl⟩ := List.mem_iff_getElem.1 he
 obtain ⟨x,_,h3⟩ := h2 j _ (List.getElem?_eq_getElem hj)
 exact h3.2.1
theorem lI {ops : Array Oper} {n L0 : Nat} {ts : List TagT} : ∀ (l : List Oper) (tl : List TagT) (b : Nat) (st st' : St),tl.length = l.length → (∀ i,i < l.length → l[i]? = some (ops.getD (b + i) default)) → (∀ i,i < l.length → tl[i]? = some (ts.getD (b + i) default)) →
  RunTX P ops n L0 (l.zip tl) st st' → RunTX P ops n L0 ((List.range' b l.length).map fun i => (ops.getD i default,ts.getD i default)) st st'
 | [],[],b,st,st',_,_,_,h => h
 | o :: l,t :: tl,b,st,st',hl,ho,ht,h => by
   obtain ⟨st1,h1,h2⟩ := h
   have e1 := ho 0 (by simp)
   have e2 := ht 0 (by simp)
   simp only [Nat.add_zero,List.getElem?_cons_zero,Option.some.injEq] at e1 e2
   rw [List.length_cons,List.range'_succ,List.map_cons]
   refine ⟨st1,by rw [← e1,← e2]; exact h1,?_⟩
   refine lI l tl (b + 1) st1 st' (by simpa using hl) (fun i hi => ?_) (fun i hi => ?_) h2
   · have := ho (i + 1) (by simp; omega)
     rw [show b + 1 + i = b + (i + 1) by omega]; simpa using this
   · have := ht (i + 1) (by simp; omega)
     rw [show b + 1 + i = b + (i + 1) by omega]; simpa using this
 | [],_ :: _,_,_,_,hl,_,_,_ => by simp at hl
 | _ :: _,[],_,_,_,hl,_,_,_ => by simp at hl
theorem xW {X : Ctx} {N : Nat} {Q : Exit → St → Prop} {st : St} {id : Nat} {ops : Array Oper} (G : List Nat) (na k : Nat) (hX : X.n = N) (hm : P.follows .mixedOrders = true)
  (h : runT P ops N st.heap.length (ops.toList.take na) true [] (fun sQ tq => runAL P N ((ops.toList.drop na).take k) (fun al =>
   runT P ops N st.heap.length (ops.toList.drop (na + k)) true (tq ++ List.replicate k default) (fun s ts => drawAOK ops na k ts = true ∧ Q .normal (prune G s)) (ext sQ al))) st) : AWP P X (.region id ops true) Q st := by
 subst hX
 obtain ⟨tq,sQ,lq,hq,h⟩ := nB _ [] st h
 rw [List.nil_append] at h
 obtain ⟨al,la,hal,h⟩ := vC _ _ h
 obtain ⟨tr,sR,lr,hr,h⟩ := nB _ _ _ h
 obtain ⟨hc,hQ⟩ := h
 simp only [drawAOK,Bool.and_eq_true] at hc
 obtain ⟨hd,hc⟩ := hc
 obtain ⟨hback,hind⟩ := mA hd
 generalize hts : tq ++ List.replicate k default ++ tr = ts at hc hind
 simp only [allocOK,Bool.and_eq_true,decide_eq_true_eq,List.all_eq_true,List.mem_range,Bool.or_eq_true,Bool.not_eq_true',decide_eq_false_iff_not] at hc
 obtain ⟨⟨⟨hsz,hc1⟩,hc2⟩,hc3⟩ := hc
 have hgo : ∀ i,i < ops.size → ops.toList[i]? = some (ops.getD i default) := fun i hi => by
  rw [Array.getElem?_toList,Array.getD_eq_getD_getElem?,Array.getElem?_eq_getElem hi]; rfl
 have hgo' : ∀ i,i < ops.size → ops[i]? = some (ops.getD i default) := fun i hi => by
  rw [Array.getD_eq_getD_getElem?,Array.getElem?_eq_getElem hi]; rfl
 have hsl : ops.toList.length = ops.size := Array.length_toList
 rw [List.length_take,hsl] at lq
 rw [List.length_take,List.length_drop,hsl] at la
 rw [List.length_drop,hsl] at lr
 have lq' : tq.length = na := by omega
 have la' : al.length = k := by omega
 intro a w hR
 obtain ⟨hb,hok⟩ := DW hR
 refine wp_region_any hm ?_
 have hall : leftL ops (Array.replicate ops.size false) = List.range ops.size := by
  unfold leftL
  refine List.filter_eq_self.2 fun i hi => ?_
  simp only [List.mem_range] at hi
  rw [Array.getD_eq_getD_getElem?]
  simp [hi]
 have hno : ∀ j,(Array.replicate ops.size false).getD j false = false := fun j => by
  rw [Array.getD_eq_getD_getElem?]
  cases hj : (Array.replicate ops.size false)[j]? with
  | none => rfl
  | some b =>
    obtain ⟨h1,h2⟩ := Array.getElem?_eq_some_iff.1 hj
    simp at h2
    exact h2
 have hal' : ∀ j x,al[j]? = some x → ∃ o,ops[na + j]? = some o ∧ isAL P X.n o x := fun j x hx => by
  obtain ⟨o,ho,hx'⟩ := hal j x hx
  have hj : j < k := by have := (List.getElem?_eq_some_iff.1 hx).1; omega
  rw [List.getElem?_take_of_lt hj,List.getElem?_drop] at ho
  exact ⟨o,by rwa [Array.getElem?_toList] at ho,hx'⟩
 have hdst : ∀ j x,al[j]? = some x → (ops.getD (na + j) default).dst = some x.d := fun j x hx => by
  obtain ⟨o,ho,_,_,_,h2,_⟩ := hal' j x hx
  have hj : j < k := by have := (List.getElem?_eq_some_iff.1 hx).1; omega
  rw [hgo' _ (by omega)] at ho
  cases ho
  exact h2
 refine DV (X := X) (Q := fun e a' w' => ∃ st',Q e st' ∧ R X st' a' w') (T := fun i => ts.getD i default) (sf := sR) (L0 := st.heap.length) al na
  (fun a' w' hR' => ⟨_,hQ,j6 G a' w' hR'⟩) hback (fun i j oi oj hi hj hij => hind i j oi oj hi hj hij) hal' ?_ (fun i hi => ⟨?_,fun o ho x hx => ?_⟩) (fun j i hj1 hj2 hi1 hi2 => ?_) (by omega) ops.size _ st sQ [] a _ (by simp) ?_ rfl hok hb ?_ List.nodup_nil (fun x => ?_) (fun j _ => hno j) ?_ ?_ hR.drew
 · refine List.pairwise_iff_getElem.2 fun i j hi hj hij => ?_
   rw [List.length_map] at hi hj
   rw [List.getElem_map,List.getElem_map]
   have h1 := hdst i _ (List.getElem?_eq_getElem hi)
   have h2 := hdst j _ (List.getElem?_eq_getElem hj)
   have := (hc2 i (by omega) j (by omega)).resolve_left (by omega)
   obtain ⟨_,a2,_⟩ := Oper.apart_spec this
   intro e
   exact a2 _ h1 (by rw [h2,e])
 · have := (hc1 i hi).1
   exact this
 · obtain ⟨j,hj,rfl⟩ := List.mem_iff_getElem.1 hx
   have h1 := hdst j _ (List.getElem?_eq_getElem hj)
   rw [hgo' i (by omega)] at ho
   cases ho
   obtain ⟨a1,a2,a3⟩ := Oper.apart_spec ((hc1 i hi).2 j (by omega))
   refine ⟨a3 _ h1,fun e => a2 _ e h1⟩
 · have := (hc3 j hj2).resolve_left (by omega)
   have := this (i - na) (by omega)
   rw [show na + (i - na) = i by omega] at this
   exact DT this
 · rw [hall]; simp
 · intro j o hj hl
   rw [hno j] at hl; cases hl
 · constructor
   · intro h; cases h
   · rintro ⟨j,_,h2⟩
     rw [hno] at h2; cases h2
 · rw [hall]
   have e1 : (List.range ops.size).filter (fun i => decide (i < na)) = List.range' 0 (ops.toList.take na).length := by
    rw [List.length_take,hsl,Nat.min_eq_left (by omega)]
    have : List.range ops.size = List.range' 0 na ++ List.range' na (ops.size - na) := by
     rw [List.range_eq_range']
     have := List.range'_append_1 (s := 0) (m := na) (n := ops.size - na)
     rw [Nat.zero_add] at this
     rw [this]
     congr 1; omega
    rw [this,List.filter_append,List.filter_eq_self.2 (fun i hi => by
     obtain ⟨q,hq,rfl⟩ := List.mem_range'.1 hi
     simp; omega),List.filter_eq_nil_iff.2 (fun i hi => by
     obtain ⟨q,hq,rfl⟩ := List.mem_range'.1 hi
     simp),List.append_nil]
   rw [e1]
   refine lI _ tq 0 st sQ (by rw [List.length_take,hsl]; omega) (fun i hi => ?_) (fun i hi => ?_) hq
   · rw [List.length_take,hsl] at hi
     rw [List.getElem?_take_of_lt (by omega),Nat.zero_add]
     exact hgo i (by omega)
   · rw [List.length_take,hsl] at hi
     have hit : i < tq.length := by omega
     rw [← hts,Nat.zero_add,List.getD_eq_getElem?_getD,List.append_assoc,List.getElem?_append_left hit,List.getElem?_eq_getElem hit]
     rfl
 · rw [la']
   have := lI (ts := ts) _ tr (na + k) (ext sQ al) sR (by rw [List.length_drop,hsl]; omega) (fun i hi => ?_) (fun i hi => ?_) hr
   · rw [List.length_drop,hsl] at this
     exact this
   · rw [List.length_drop,hsl] at hi
     rw [List.getElem?_drop]
     exact hgo _ (by omega)
   · rw [List.length_drop,hsl] at hi
     have hir : i < tr.length := by omega
     have hpl : (tq ++ List.replicate k (default : TagT)).length = na + k := by rw [List.length_append,List.length_replicate,lq']
     rw [← hts,List.getD_eq_getElem?_getD,List.getElem?_append_right (by omega),hpl,Nat.add_sub_cancel_left,List.getElem?_eq_getElem hir]
     rfl
attribute [go_sem] runAL ext AL.put
end
end Go.Ab
namespace Go.Ab
open Go.RowKit
def cellIds : Cell → List Nat
 | .row o => bif zoneEs o.es then [] else (o.es.flatMap AV.flat).flatMap AV.ids
 | _ => []
section
variable {P : Program}
variable {w : World} {M : Nat → Prop} {loc : Nat → Value}
theorem RepO.congr {loc loc' : Nat → Value} {x : Value} {e : AV} (hl : ∀ id ∈ e.idB,loc' id = loc id) (h : RepO loc x e) : RepO loc' x e := by
 cases e with
 | ow id => simp only [RepO] at h ⊢; rw [hl id (by simp [AV.idB])]; exact h
 | el a b c d => simp only [RepO] at h ⊢; rw [hl a (by simp [AV.idB])]; exact h
 | wn a b c d => simp only [RepO] at h ⊢; rw [hl a (by simp [AV.idB])]; exact h
 | _ => exact h
theorem RepB.congr {loc loc' : Nat → Value} {x : Value} {e : AV} (hl : ∀ id ∈ e.idB,loc' id = loc id) (h : RepB w M loc x e) : RepB w M loc' x e := h.imp id (RepO.congr hl)
theorem Rep.congr {loc loc' : Nat → Value} {x : Value} {e : AV} (hl : ∀ id ∈ e.ids,loc' id = loc id) (h : Rep w M loc x e) : Rep w M loc' x e := by
 induction e using AV.zone.induct with
 | case1 id => exact RepO.congr (e := .ow id) hl h
 | case2 a b c d => exact RepO.congr (e := .el a b c d) hl h
 | case3 a b c d => exact RepO.congr (e := .wn a b c d) hl h
 | case4 f first cap =>
   obtain ⟨fs,cs,h1,h2,h3,h4,h5⟩ := h
   exact ⟨fs,cs,h1,h2,h3,fun j c e hc he => (h4 j c e hc he).congr fun id hid => hl id (List.mem_flatMap.2 ⟨e,List.mem_append_left _ (List.mem_of_getElem? he),hid⟩),fun j c e hc he => (h5 j c e hc he).congr fun id hid => hl id (List.mem_flatMap.2 ⟨e,List.mem_append_right _ (List.mem_of_getElem? he),hid⟩)⟩
 | case5 g y ih =>
   have h' : (g = false → x = undef) ∧ (g = true → Rep w M loc x y) := h
   show (g = false → x = undef) ∧ (g = true → Rep w M loc' x y)
   exact ⟨h'.1,fun hg => ih hl (h'.2 hg)⟩
 | case6 es =>
   obtain ⟨cs,h1,h2,h3⟩ := h
   exact ⟨cs,h1,h2,fun j c e hc he => (h3 j c e hc he).congr fun id hid => hl id (List.mem_flatMap.2 ⟨e,List.mem_of_getElem? he,hid⟩)⟩
 | case7 es =>
   obtain ⟨cs,h1,h2,h3⟩ := h
   exact ⟨cs,h1,h2,fun j c e hc he => (h3 j c e hc he).congr fun id hid => hl id (List.mem_flatMap.2 ⟨e,List.mem_of_getElem? he,hid⟩)⟩
 | case8 e h1 h2 h3 h4 h5 h6 h7 =>
   cases e with
   | ow id => exact (h1 _ rfl).elim
   | el a b c d => exact (h2 _ _ _ _ rfl).elim
   | wn a b c d => exact (h3 _ _ _ _ rfl).elim
   | fn a b c => exact (h4 _ _ _ rfl).elim
   | mb g y => exact (h5 _ _ rfl).elim
   | tup es => exact (h6 _ rfl).elim
   | agg es => exact (h7 _ rfl).elim
   | _ => exact h
structure NmOK (L0 : Nat) (st : St) (C : Nat → Prop) : Prop where
 env : ∀ s,∀ id ∈ (st.env s).ids,id < st.heap.length ∧ ¬ C id
 row : ∀ (i : Nat) (o : Ob),st.heap[i]? = some (.row o) → ∀ e ∈ o.es.flatMap AV.flat,∀ id ∈ e.ids,id < st.heap.length ∧ ¬ C id
 dead : ∀ c,C c → st.heap[c]? = some .dead
 low : ∀ c,C c → L0 ≤ c
 len : L0 ≤ st.heap.length
theorem NmOK.ev {L0 : Nat} {st : St} {C : Nat → Prop} (h : NmOK L0 st C) (x : Operand) {id : Nat} (hid : id ∈ (Ab.ev st.env x).ids) : id < st.heap.length ∧ ¬ C id := by
 have none : ∀ e : AV,e.idLt 0 → id ∉ e.ids := fun e he hi => by have := (bK 0 e).1 he id hi; omega
 cases x with
 | tmp t =>
   simp only [Ab.ev] at hid
   split at hid
   · exact h.env t id hid
   · simp [AV.ids] at hid
 | const x => exact absurd hid (none _ (iF _ x))
 | global g =>
   simp only [Ab.ev,globV] at hid
   split at hid <;> simp [AV.ids] at hid
 | func f => simp [Ab.ev,AV.ids] at hid
theorem NmOK.tch {L0 : Nat} {st : St} {C : Nat → Prop} (h : NmOK L0 st C) {op : Op} {id : Nat} (hid : id ∈ Ab.tch (Ab.ev st.env) op) : id < st.heap.length ∧ ¬ C id := by
 obtain ⟨x,_,hx⟩ := List.mem_flatMap.1 hid
 exact h.ev x hx
theorem RR.move {X : Ctx} {env : Nat → AV} {G : List Cell} {x : Cell} {a : Act} {c : Nat} (h : RR X M loc ⟨env,G ++ [x]⟩ a w) (hc : G[c]? = some .dead)
  (henv : ∀ s,∀ id ∈ (env s).ids,id < G.length ∧ id ≠ c) (hrow : ∀ (i : Nat) (o : Ob),(G ++ [x])[i]? = some (.row o) → ∀ e ∈ o.es.flatMap AV.flat,∀ id ∈ e.ids,id < G.length ∧ id ≠ c) :
  RR X M (fun i => if i = c then loc G.length else loc i) ⟨env,G.set c x⟩ a w := by
 have hcl := (List.getElem?_eq_some_iff.1 hc).1
 have hx : (G ++ [x])[G.length]? = some x := by simp
 have back : ∀ (i : Nat) (y : Cell),(G.set c x)[i]? = some y → (i = c ∧ y = x) ∨ (i ≠ c ∧ i < G.length ∧ (G ++ [x])[i]? = some y) := fun i y hy => by
  by_cases hi : i = c
  · subst hi
    rw [List.getElem?_set_self hcl] at hy
    cases hy; exact .inl ⟨rfl,rfl⟩
  · rw [List.getElem?_set_ne (fun e => hi e.symm)] at hy
    have hl := (List.getElem?_eq_some_iff.1 hy).1
    exact .inr ⟨hi,hl,by rw [List.getElem?_append_left hl]; exact hy⟩
 let src : Nat → Nat := fun i => if i = c then G.length else i
 have hsrc : ∀ (i : Nat) (y : Cell),(G.set c x)[i]? = some y → (G ++ [x])[src i]? = some y := fun i y hy => by
  rcases back i y hy with ⟨rfl,rfl⟩ | ⟨h1,h2,h3⟩
  · show (G ++ [y])[if i = i then G.length else i]? = _
    rw [if_pos rfl]; exact hx
  · show (G ++ [x])[if i = c then G.length else i]? = _
    rw [if_neg h1]; exact h3
 have hinj : ∀ i j y z,(G.set c x)[i]? = some y → (G.set c x)[j]? = some z → i ≠ j → src i ≠ src j := fun i j y z hi hj hij e => by
  have h1 := (List.getElem?_eq_some_iff.1 hi).1
  have h2 := (List.getElem?_eq_some_iff.1 hj).1
  simp only [List.length_set] at h1 h2
  simp only [src] at e
  split at e <;> split at e <;> omega
 have hloc : ∀ i,(if i = c then loc G.length else loc i) = loc (src i) := fun i => by
  simp only [src]; split <;> rfl
 have hcong : ∀ id,id ≠ c → (if id = c then loc G.length else loc id) = loc id := fun id hid => if_neg hid
 have hlen : (G.set c x).length = G.length := by simp
 refine ⟨fun s => Rep.congr (fun id hid => hcong id (henv s id hid).2) (h.env s),h.nle,h.size,h.defers,fun id o ho => ?_,fun i j oi oj hij hi hj => ?_,fun id m hm => ?_,fun i j mi mj hij hi hj => ?_,h.below,h.zone,h.zin,h.zlt,fun id hid => ?_,fun s => (bK _ _).2 fun id hid => by simp only [hlen]; exact (henv s id hid).1⟩
 · have ho' := hsrc id _ ho
   have hob := h.obj _ _ ho'
   obtain ⟨xs,g1,g2⟩ := hob.own
   show ObjOK X.own w M (fun i => if i = c then loc G.length else loc i) (G.set c x).length (if id = c then loc G.length else loc id) o
   rw [hloc id]
   refine ⟨⟨xs,g1,fun j e he => ?_⟩,hob.flat,hob.away,hob.mine⟩
   obtain ⟨y,hy,hr⟩ := g2 j e he
   have hn := hrow _ _ ho' e (List.mem_of_getElem? he)
   refine ⟨y,hy,hr.1.congr fun id hid => hcong id ?_,(bK _ _).2 fun id hid => ?_,hr.2.2⟩
   · rw [AV.idB_ids hr.2.2] at hid
     exact (hn id hid).2
   · rw [hlen]; exact (hn id hid).1
 · show (if i = c then loc G.length else loc i).ownBlock = none ∨ (if i = c then loc G.length else loc i).ownBlock ≠ (if j = c then loc G.length else loc j).ownBlock
   rw [hloc i,hloc j]
   exact h.sep _ _ _ _ (hinj i j _ _ hi hj hij) (hsrc i _ hi) (hsrc j _ hj)
 · show MapOK X.own w M (if id = c then loc G.length else loc id) m
   rw [hloc id]
   exact h.mobj _ _ (hsrc id _ hm)
 · show (if i = c then loc G.length else loc i) ≠ (if j = c then loc G.length else loc j)
   rw [hloc i,hloc j]
   exact h.msep _ _ _ _ (hinj i j _ _ hi hj hij) (hsrc i _ hi) (hsrc j _ hj)
 · show Value.oneCell' (if id = c then loc G.length else loc id) = true
   rw [hloc id]
   refine h.one _ ?_
   simp only [List.length_append,List.length_singleton,src]
   simp only [hlen] at hid
   split <;> omega
structure TagU where
 t : List Nat
 w : List Nat
 c : Nat
 nw : Bool
 deriving Inhabited
def plc (L c : Nat) : AV → AV
 | .ow i => .ow (if i = L then c else i)
 | .el i k a b => .el (if i = L then c else i) k a b
 | e => e
def AV.effR : AV → Bool
 | .ow _ | .el .. => true
 | e => e.ids.isEmpty
def NewC (P : Program) (H : List Cell) (ρ : Operand → AV) (op : Op) (ob : Ob) : Prop :=
 ∃ c f first cap largs,op = .call c ∧ tgt ρ c.callee = some (f,first,cap) ∧ callable P f = true ∧ MeansH P f [] largs (.ow 0) [.row ob] ∧ zoneEs ob.es = true ∧ okArgs (upN [] H.length) 0 (first ++ c.args.toList.map ρ ++ cap) largs
theorem NewC.toA {H : List Cell} {ρ : Operand → AV} {op : Op} {ob : Ob} (h : NewC P H ρ op ob) : ∃ c,op = .call c ∧ CallHA P H ρ c (.ow H.length) (H ++ [.row ob]) := by
 obtain ⟨c,f,first,cap,largs,rfl,h1,h2,h3,h4,h5⟩ := h
 refine ⟨c,rfl,f,first,cap,[],[],largs,.ow 0,[.row ob],h1,h2,h3,⟨List.nodup_nil,by simp,trivial,trivial,h5⟩,by simp [ren,upN],?_⟩
 simp [heapAfter,setAll,renCell,renEs,h4]
theorem NmOK.mono {L0 : Nat} {st : St} {C C' : Nat → Prop} (h : NmOK L0 st C) (hc : ∀ c,C' c → C c) : NmOK L0 st C' :=
 ⟨fun s id hid => ⟨(h.env s id hid).1,fun e => (h.env s id hid).2 (hc _ e)⟩,fun i o ho e he id hid => ⟨(h.row i o ho e he id hid).1,fun q => (h.row i o ho e he id hid).2 (hc _ q)⟩,fun c e => h.dead c (hc _ e),fun c e => h.low c (hc _ e),h.len⟩
def placeU (L c : Nat) (H : List Cell) : List Cell := bif H.length != L then (H.take L).set c (H.getD L .dead) else H
def CallU (P : Program) (f : FuncId) (args : List AV) (b ok : Bool) (L : Nat) (raw : List AV) (k : Bool → AV → Prop) (kn : Bool → Ob → Prop) : Prop :=
 (ok = true ∧ ∃ fr r,Means fr P f args r ∧ r.zone = true ∧ (fr = true ∨ r.scal = true ∨ b = false) ∧ k true r) ∨
 ∃ largs ob,MeansH P f [] largs (.ow 0) [.row ob] ∧ zoneEs ob.es = true ∧ okArgs (upN [] L) 0 raw largs ∧ kn true ob
theorem vD {P : Program} {f : FuncId} {args args' : List AV} {b b' ok ok' : Bool} {L L' : Nat} {raw raw' : List AV} {k : Bool → AV → Prop} {kn : Bool → Ob → Prop} (h : args = args') (hb : b = b') (ho : ok = ok') (hL : L = L') (hr : raw = raw') : CallU P f args b ok L raw k kn = CallU P f args' b' ok' L' raw' k kn := by rw [h,hb,ho,hL,hr]
attribute [congr] vD
def runU (P : Program) (n L0 : Nat) : List Oper → Bool → Nat → List TagU → (St → List TagU → Prop) → St → Prop
 | [],_,_,acc,K,st => K st acc
 | _ :: _,false,_,_,_,_ => False
 | o :: l,true,k,acc,K,st => dOK n o.dst ∧ o.guard = none ∧
   match isCall o.op with
   | true => match tgt (ev st.env) (argsOf o.op).1 with
     | some (f,first,cap) => callable P f = true ∧
       CallU P f (first ++ (argsOf o.op).2.map (fun x => argA st.heap (ev st.env x)) ++ cap) ((argsOf o.op).2.any fun x => (ev st.env x).isOw) ((first ++ (argsOf o.op).2.map (fun x => argA st.heap (ev st.env x)) ++ cap).all AV.argOK)
        st.heap.length (first ++ (argsOf o.op).2.map (ev st.env) ++ cap)
        (fun z r => runU P n L0 l z k (acc ++ [⟨tch (ev st.env) o.op,[],L0 + k,false⟩]) K ⟨putE st.env o.dst r,st.heap⟩)
        (fun z ob => runU P n L0 l z (k + 1) (acc ++ [⟨tch (ev st.env) o.op,[L0 + k],L0 + k,true⟩]) K ⟨putE st.env o.dst (.ow (L0 + k)),st.heap.set (L0 + k) (.row ob)⟩)
     | none => False
   | false => match isEff o.op with
     | true => match effA P st.heap (ev st.env) o.op with
       | some (p,r,H) => p ∧ r.effR = true ∧ (∀ id ∈ r.ids,id ∈ tch (ev st.env) o.op ∨ id < L0 ∨ (id = st.heap.length ∧ (H.length != st.heap.length) = true)) ∧
         (∀ i ∈ wrOf (ev st.env) o.op,∀ id ∈ cellIds (H.getD i .dead),id ∈ tch (ev st.env) o.op ∨ id < L0) ∧ (∀ c ∈ H.drop st.heap.length,∀ id ∈ cellIds c,id ∈ tch (ev st.env) o.op ∨ id < L0) ∧
         runU P n L0 l true (bif H.length != st.heap.length then k + 1 else k) (acc ++ [⟨tch (ev st.env) o.op,wrOf (ev st.env) o.op ++ (bif H.length != st.heap.length then [L0 + k] else []),L0 + k,H.length != st.heap.length⟩]) K
          ⟨putE st.env o.dst (plc st.heap.length (L0 + k) r),placeU st.heap.length (L0 + k) H⟩
       | none => False
     | false => match doF P false st.heap (ev st.env) o.op with
       | some (p,r,_) => p ∧ (∀ id ∈ r.ids,id ∈ tch (ev st.env) o.op ∨ id < L0) ∧ runU P n L0 l true k (acc ++ [⟨tch (ev st.env) o.op,[],L0 + k,false⟩]) K ⟨putE st.env o.dst r,st.heap⟩
       | none => False
end
attribute [go_sem] runU placeU plc AV.effR tch
@[go_sem] theorem cellIds_row (o : Ob) : cellIds (.row o) = bif zoneEs o.es then [] else (o.es.flatMap AV.flat).flatMap AV.ids := rfl
@[go_sem] theorem cellIds_dead : cellIds .dead = [] := rfl
@[go_sem] theorem cellIds_map (m : MOb) : cellIds (.map m) = [] := rfl
end Go.Ab
namespace Go.Ab
open Go.RowKit
end Go.Ab
namespace Go.Ab
open Go.RowKit
def outN (b n : Nat) : List AV := (List.range n).map fun k => .ow (k + b)
def matC (E k : Nat) (M : List (List AV)) : List Cell := M.map fun es => .row ⟨E,k,es⟩
theorem b7 (b n : Nat) : (outN b n).length = n := by simp [outN]
theorem fX {b n k : Nat} (h : k < n) : nth (outN b n) k = .ow (k + b) := f6 (by simp [outN,h])
theorem b9 (E k : Nat) (M : List (List AV)) : (matC E k M).length = M.length := by simp [matC]
theorem bM {E k : Nat} {M : List (List AV)} {i : Nat} {es : List AV} (h : M[i]? = some es) : (matC E k M)[i]? = some (.row ⟨E,k,es⟩) := by simp [matC,h]
theorem kF (E k : Nat) (M : List (List AV)) (i : Nat) (es : List AV) : (matC E k M).set i (.row ⟨E,k,es⟩) = matC E k (M.set i es) := by simp [matC,List.map_set]
def Src.rid : Src → Option Nat
 | .old id _ => some id
 | .oldM id _ => some id
 | _ => none
def okS1 (HS : List Src) (H : List Cell) : Src → Prop
 | .old id o => okR HS H H[id]? o
 | .birth _ _ => True
 | .oldM id m => H[id]? = some (.map m)
 | .gone id => id < H.length
def okS0 (HS : List Src) (H : List Cell) : List Src → Prop
 | [] => True
 | s :: l => okS1 HS H s ∧ okS0 HS H l
theorem oF {HS : List Src} {H : List Cell} : ∀ {l : List Src},okS0 HS H l → ∀ s ∈ l,okS1 HS H s
 | [],_,s,hs => by cases hs
 | a :: l,h,s,hs => by
   rcases List.mem_cons.1 hs with rfl | hs
   · exact h.1
   · exact oF h.2 s hs
theorem zC {l : List Src} {id : Nat} (h : id ∉ l.filterMap Src.rid) : l.any (Src.isOld id) = false := by
 rw [List.any_eq_false]
 intro s hs he
 refine h (List.mem_filterMap.2 ⟨s,hs,?_⟩)
 cases s with
 | old i o => simp only [Src.isOld,beq_iff_eq] at he; simp [Src.rid,he]
 | oldM i o => simp only [Src.isOld,beq_iff_eq] at he; simp [Src.rid,he]
 | birth a b => simp [Src.isOld] at he
 | gone i => simp [Src.isOld] at he
theorem lC {HS : List Src} {H : List Cell} : ∀ {l : List Src},(∀ s ∈ l,okS1 HS H s) → (l.filterMap Src.rid).Nodup → okS HS H l
 | [],_,_ => trivial
 | .old id o :: l,h,hn => by
   have hn' : (id :: l.filterMap Src.rid).Nodup := hn
   rw [List.nodup_cons] at hn'
   exact ⟨h (.old id o) (by simp),zC hn'.1,lC (fun s hs => h s (List.mem_cons_of_mem _ hs)) hn'.2⟩
 | .oldM id o :: l,h,hn => by
   have hn' : (id :: l.filterMap Src.rid).Nodup := hn
   rw [List.nodup_cons] at hn'
   exact ⟨h (.oldM id o) (by simp),zC hn'.1,lC (fun s hs => h s (List.mem_cons_of_mem _ hs)) hn'.2⟩
 | .birth _ _ :: l,h,hn => lC (l := l) (fun s hs => h s (List.mem_cons_of_mem _ hs)) hn
 | .gone id :: l,h,hn => ⟨h (.gone id) (by simp),lC (l := l) (fun s hs => h s (List.mem_cons_of_mem _ hs)) hn⟩
def matS (f : Nat → Nat) (E k : Nat) : Nat → List (List AV) → List Src
 | _,[] => []
 | i,es :: M => .old (f i) ⟨E,k,es⟩ :: matS f E k (i + 1) M
theorem i8 (f : Nat → Nat) (E k : Nat) : ∀ (M : List (List AV)) (i j : Nat),(matS f E k i M)[j]? = M[j]?.map fun es => .old (f (i + j)) ⟨E,k,es⟩
 | [],i,j => by simp [matS]
 | es :: M,i,0 => by simp [matS]
 | es :: M,i,j + 1 => by
   simp only [matS,List.getElem?_cons_succ]
   rw [i8 f E k M (i + 1) j]
   have : i + 1 + j = i + (j + 1) := by omega
   rw [this]
theorem j7 (f : Nat → Nat) (E k : Nat) : ∀ (M : List (List AV)) (i : Nat),(matS f E k i M).map Src.cell = matC E k M
 | [],_ => rfl
 | es :: M,i => by simp only [matS,List.map_cons,matC,Src.cell]; rw [j7 f E k M (i + 1)]; rfl
theorem f5 (f : Nat → Nat) (E k : Nat) : ∀ (M : List (List AV)) (i : Nat),(matS f E k i M).length = M.length
 | [],_ => rfl
 | es :: M,i => by simp [matS,f5 f E k M (i + 1)]
theorem oG (f : Nat → Nat) (E k : Nat) : ∀ (M : List (List AV)) (i : Nat),(matS f E k i M).filterMap Src.rid = (List.range M.length).map fun j => f (i + j)
 | [],_ => rfl
 | es :: M,i => by
   simp only [matS,List.filterMap_cons,Src.rid]
   rw [oG f E k M (i + 1),List.length_cons,List.range_succ_eq_map,List.map_cons,List.map_map]
   congr 1
   exact List.map_congr_left fun j _ => by simp only [Function.comp_apply,Nat.succ_eq_add_one]; congr 1; omega
theorem jX {HS : List Src} {H : List Cell} (g h : Nat → Nat) : ∀ (l : List Nat),(∀ j ∈ l,∃ o,HS[h j]? = some (.old (g j) o)) → okEs HS H (l.map fun j => .ow (g j)) (l.map fun j => .ow (h j))
 | [],_ => trivial
 | j :: l,hh => by
   refine ⟨?_,jX g h l fun i hi => hh i (List.mem_cons_of_mem _ hi)⟩
   obtain ⟨o,ho⟩ := hh j (by simp)
   show okB HS H (.ow (g j)) (.ow (h j))
   simp only [okB,ho]
theorem gK {X : Ctx} {st : St} (L : List (Nat × AV)) (HS0 : List Src) (q : Nat) (f : Nat → Nat) {E1 E2 k2 : Nat} (M : List (List AV))
  (hq : st.heap[q]? = some (.row ⟨E1,1,(List.range M.length).map fun k => AV.ow (f k)⟩))
  (hf : ∀ j es,M[j]? = some es → st.heap[f j]? = some (.row ⟨E2,k2,es⟩) ∧ zoneEs es = true)
  (h0 : okS0 (HS0 ++ .old q ⟨E1,1,outN (HS0.length + 1) M.length⟩ :: matS f E2 k2 0 M) st.heap HS0)
  (hn : (HS0.filterMap Src.rid ++ q :: (List.range M.length).map f).Nodup)
  (hL : okL (HS0 ++ .old q ⟨E1,1,outN (HS0.length + 1) M.length⟩ :: matS f E2 k2 0 M) st L) :
  Sub X ⟨mkE L,HS0.map Src.cell ++ .row ⟨E1,1,outN (HS0.length + 1) M.length⟩ :: matC E2 k2 M⟩ st := by
 have hS : okS (HS0 ++ .old q ⟨E1,1,outN (HS0.length + 1) M.length⟩ :: matS f E2 k2 0 M) st.heap (HS0 ++ .old q ⟨E1,1,outN (HS0.length + 1) M.length⟩ :: matS f E2 k2 0 M) := by
  refine lC (fun s hs => ?_) ?_
  · rcases List.mem_append.1 hs with hs | hs
    · exact oF h0 s hs
    · rcases List.mem_cons.1 hs with rfl | hs
      · show okR _ _ _ _
        rw [hq]
        refine ⟨⟨rfl,rfl⟩,.inr ?_⟩
        refine jX f (fun k => k + (HS0.length + 1)) _ fun j hj => ?_
        have hj' : j < M.length := by simpa using hj
        refine ⟨⟨E2,k2,M[j]⟩,?_⟩
        rw [List.getElem?_append_right (by omega)]
        have : j + (HS0.length + 1) - HS0.length = j + 1 := by omega
        rw [this,List.getElem?_cons_succ,i8,List.getElem?_eq_getElem hj',Nat.zero_add]; rfl
      · obtain ⟨j,hj,rfl⟩ := List.getElem_of_mem hs
        rw [f5] at hj
        have hg : (matS f E2 k2 0 M)[j]? = some (.old (f j) ⟨E2,k2,M[j]⟩) := by rw [i8,List.getElem?_eq_getElem hj,Nat.zero_add]; rfl
        have he : (matS f E2 k2 0 M)[j]'(by rw [f5]; exact hj) = .old (f j) ⟨E2,k2,M[j]⟩ := by
         rw [List.getElem?_eq_getElem (by rw [f5]; exact hj)] at hg
         exact Option.some.inj hg
        rw [he]
        obtain ⟨h1,h2⟩ := hf j M[j] (List.getElem?_eq_getElem hj)
        show okR _ _ _ _
        rw [h1]
        exact ⟨⟨rfl,rfl⟩,.inl ⟨rfl,h2⟩⟩
  · rw [List.filterMap_append,List.filterMap_cons]
    simp only [Src.rid]
    rw [oG]
    simpa using hn
 have := aG (X := X) L _ hS hL
 simpa [j7,Src.cell] using this
def envOK (env : Nat → AV) : List (Nat × AV) → Prop
 | [] => True
 | (s,v) :: l => env s = v ∧ envOK env l
theorem bJ {X : Ctx} {st : St} (L : List (Nat × AV)) (H : List Cell) (hH : st.heap = H) (h : envOK st.env L) : Sub X ⟨mkE L,H⟩ st := by
 subst hH
 have : ∀ L,envOK st.env L → mkE L = mkE ((L.map (·.1)).map fun s => (s,st.env s)) := by
  intro L
  induction L with
  | nil => intro _; rfl
  | cons p l ih =>
    obtain ⟨s,v⟩ := p
    intro h
    simp only [List.map_cons,mkE]
    rw [← ih h.2,h.1]
 rw [this L h]
 exact j6 (L.map (·.1))
attribute [go_sem] envOK okS0 okS1
end Go.Ab

