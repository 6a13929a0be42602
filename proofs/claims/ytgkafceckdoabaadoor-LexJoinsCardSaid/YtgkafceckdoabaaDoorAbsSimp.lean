/-
  What simp writes out of a walk; the slots that a region's end may forget; small lemmas for the ends of walks.
-/
import Derived.Test.YtgkafceckdoabaaDoorAbsDrawT
set_option linter.all false
namespace Go.Ab
open Go.RowKit

/-- Of the slots, those of a list alone. -/
def prune (G : List Nat) (st : St) : St := ⟨mkE (G.map fun s => (s, st.env s)), st.heap⟩

theorem mkE_map (env : Nat → AV) : ∀ (G : List Nat) (s : Nat), mkE (G.map fun s => (s, env s)) s = env s ∨ mkE (G.map fun s => (s, env s)) s = .bad
  | [], s => .inr rfl
  | g :: G, s => by
    simp only [List.map_cons, mkE, upd]
    split
    · rename_i h; subst h; exact .inl rfl
    · exact mkE_map env G s

theorem prune_sub {X : Ctx} {st : St} (G : List Nat) : Sub X (prune G st) st := by
  rintro a w ⟨M, loc, h⟩
  refine ⟨M, loc, fun s => ?_, h.nle, h.size, h.defers, h.obj, h.sep, h.mobj, h.msep, h.below, h.zone, h.zin, h.zlt, h.one, fun s => ?_⟩
  · rcases mkE_map st.env G s with e | e
    · show Rep w M loc _ (mkE (G.map fun s => (s, st.env s)) s)
      rw [e]; exact h.env s
    · show Rep w M loc _ (mkE (G.map fun s => (s, st.env s)) s)
      rw [e]; exact (RepZ.bad _).rep
  · show (mkE (G.map fun s => (s, st.env s)) s).idLt st.heap.length
    rcases mkE_map st.env G s with e | e
    · rw [e]; exact h.ids s
    · rw [e]; trivial

section
variable {P : Program} {X : Ctx} {N : Nat} {Q : Exit → St → Prop} {st : St} {id : Nat} {ops : Array Oper}

theorem awp_runG (G : List Nat) (hX : X.n = N) (h : runK P ops N false ops.toList (fun s => Q .normal (prune G s)) st) : AWP P X (.region id ops false) Q st := by
  intro a w hr
  refine wp_region_list (runK_wp (K := fun s => Q .normal (prune G s)) (Q := fun e a' w' => ∃ st', Q e st' ∧ R X st' a' w') (fun st' a' w' hk hr' => ⟨_, hk, prune_sub G a' w' hr'⟩) ops.toList st a w (by rw [hX]; exact h) hr)

theorem awp_drawnG (G : List Nat) (hX : X.n = N) (hm : P.follows .mixedOrders = true) (h : runT P ops N st.heap.length ops.toList [] (fun s ts => drawOK ops (meetT ts) = true ∧ Q .normal (prune G s)) st) : AWP P X (.region id ops true) Q st := by
  obtain ⟨ts, st', h0, h1, hd, h2⟩ := runT_ok ops.toList [] st h
  rw [List.nil_append] at hd
  intro a w hr
  refine wp_mono (awp_drawT (P := P) (L0 := st.heap.length) (Q := fun e s => e = .normal ∧ s = st') ts hm hd (by rw [h0]; simp) (Nat.le_refl _) (by rw [hX]; exact h1) ⟨rfl, rfl⟩ a w hr) fun e a' w' hh => ?_
  obtain ⟨s, ⟨rfl, rfl⟩, hr'⟩ := hh
  exact ⟨_, h2, prune_sub G a' w' hr'⟩
end

attribute [go_sem] runK nilC sliceEs runT rdX wrOf orIds HQ uP isEff dOK doF doG pur sliceX eff mapPur mapEff foundA putE isCall argsOf tgt gvOf okUL okUS selOf evS bin binI binS cut loadA lenA thenQ blkQ loopQ retQ resL resA packA freshA AV.scalAll Op.operands Call.operands argE ghE G0 buildA fillA splice srcA appA setE okS okR okEs okF okC okB okL okE okG Src.cell Src.isOld subIds tch eqFs eqV Value.oneCell' prune keyEq resH resHL CallHC okCells okRowIds okArg okArgs upN renCell renEs renF renB ren setAll heapAfter nth_zero nth_succ AV.flat_v AV.flat_agg AV.flat_nil AV.flat_sl

@[go_sem] theorem c_flat_bad  : AV.flat .bad = [.bad] := rfl
@[go_sem] theorem c_flat_ro (cs : List AV) : AV.flat (.ro cs) = [(.ro cs)] := rfl
@[go_sem] theorem c_flat_tup (cs : List AV) : AV.flat (.tup cs) = [(.tup cs)] := rfl
@[go_sem] theorem c_flat_el (id k i off : Nat) : AV.flat (.el id k i off) = [(.el id k i off)] := rfl
@[go_sem] theorem c_flat_ow (id : Nat) : AV.flat (.ow id) = [(.ow id)] := rfl
@[go_sem] theorem c_flat_mb (g : Bool) (y : AV) : AV.flat (.mb g y) = [(.mb g y)] := rfl
@[go_sem] theorem c_flat_wn (id k lo n : Nat) : AV.flat (.wn id k lo n) = [(.wn id k lo n)] := rfl
@[go_sem] theorem c_flat_fn (f : FuncId) (a b : List AV) : AV.flat (.fn f a b) = [(.fn f a b)] := rfl
@[go_sem] theorem c_argOK_bad  : AV.argOK .bad = false := rfl
@[go_sem] theorem c_argOK_v (x : Value) : AV.argOK (.v x) = true := rfl
@[go_sem] theorem c_argOK_nil  : AV.argOK .nil = true := rfl
@[go_sem] theorem c_argOK_sl (es : List AV) : AV.argOK (.sl es) = true := rfl
@[go_sem] theorem c_argOK_ro (cs : List AV) : AV.argOK (.ro cs) = true := rfl
@[go_sem] theorem c_argOK_agg (cs : List AV) : AV.argOK (.agg cs) = cs.all AV.zoneB := rfl
@[go_sem] theorem c_argOK_tup (cs : List AV) : AV.argOK (.tup cs) = false := rfl
@[go_sem] theorem c_argOK_el (id k i off : Nat) : AV.argOK (.el id k i off) = false := rfl
@[go_sem] theorem c_argOK_ow (id : Nat) : AV.argOK (.ow id) = false := rfl
@[go_sem] theorem c_argOK_mb (g : Bool) (y : AV) : AV.argOK (.mb g y) = false := rfl
@[go_sem] theorem c_argOK_wn (id k lo n : Nat) : AV.argOK (.wn id k lo n) = false := rfl
@[go_sem] theorem c_argOK_fn (f : FuncId) (a b : List AV) : AV.argOK (.fn f a b) = false := rfl
@[go_sem] theorem c_isOw_bad  : AV.isOw .bad = false := rfl
@[go_sem] theorem c_isOw_v (x : Value) : AV.isOw (.v x) = false := rfl
@[go_sem] theorem c_isOw_nil  : AV.isOw .nil = false := rfl
@[go_sem] theorem c_isOw_sl (es : List AV) : AV.isOw (.sl es) = false := rfl
@[go_sem] theorem c_isOw_ro (cs : List AV) : AV.isOw (.ro cs) = false := rfl
@[go_sem] theorem c_isOw_agg (cs : List AV) : AV.isOw (.agg cs) = cs.any fun c => !c.zoneB := rfl
@[go_sem] theorem c_isOw_tup (cs : List AV) : AV.isOw (.tup cs) = false := rfl
@[go_sem] theorem c_isOw_el (id k i off : Nat) : AV.isOw (.el id k i off) = false := rfl
@[go_sem] theorem c_isOw_ow (id : Nat) : AV.isOw (.ow id) = true := rfl
@[go_sem] theorem c_isOw_mb (g : Bool) (y : AV) : AV.isOw (.mb g y) = false := rfl
@[go_sem] theorem c_isOw_wn (id k lo n : Nat) : AV.isOw (.wn id k lo n) = true := rfl
@[go_sem] theorem c_isOw_fn (f : FuncId) (a b : List AV) : AV.isOw (.fn f a b) = false := rfl
@[go_sem] theorem c_un_bad  : AV.un .bad = .bad := rfl
@[go_sem] theorem c_un_v (x : Value) : AV.un (.v x) = (.v x) := rfl
@[go_sem] theorem c_un_nil  : AV.un .nil = .nil := rfl
@[go_sem] theorem c_un_sl (es : List AV) : AV.un (.sl es) = (.sl es) := rfl
@[go_sem] theorem c_un_ro (cs : List AV) : AV.un (.ro cs) = (.ro cs) := rfl
@[go_sem] theorem c_un_agg (cs : List AV) : AV.un (.agg cs) = (.agg cs) := rfl
@[go_sem] theorem c_un_tup (cs : List AV) : AV.un (.tup cs) = (.tup cs) := rfl
@[go_sem] theorem c_un_el (id k i off : Nat) : AV.un (.el id k i off) = (.el id k i off) := rfl
@[go_sem] theorem c_un_ow (id : Nat) : AV.un (.ow id) = (.ow id) := rfl
@[go_sem] theorem c_un_mb (g : Bool) (y : AV) : AV.un (.mb g y) = y := rfl
@[go_sem] theorem c_un_wn (id k lo n : Nat) : AV.un (.wn id k lo n) = (.wn id k lo n) := rfl
@[go_sem] theorem c_un_fn (f : FuncId) (a b : List AV) : AV.un (.fn f a b) = (.fn f a b) := rfl
@[go_sem] theorem c_ids_bad  : AV.ids .bad = [] := rfl
@[go_sem] theorem c_ids_v (x : Value) : AV.ids (.v x) = [] := rfl
@[go_sem] theorem c_ids_nil  : AV.ids .nil = [] := rfl
@[go_sem] theorem c_ids_sl (es : List AV) : AV.ids (.sl es) = [] := rfl
@[go_sem] theorem c_ids_ro (cs : List AV) : AV.ids (.ro cs) = [] := rfl
@[go_sem] theorem c_ids_agg (cs : List AV) : AV.ids (.agg cs) = cs.flatMap AV.idB := rfl
@[go_sem] theorem c_ids_tup (cs : List AV) : AV.ids (.tup cs) = cs.flatMap AV.idB := rfl
@[go_sem] theorem c_ids_el (id k i off : Nat) : AV.ids (.el id k i off) = [id] := rfl
@[go_sem] theorem c_ids_ow (id : Nat) : AV.ids (.ow id) = [id] := rfl
@[go_sem] theorem c_ids_mb (g : Bool) (y : AV) : AV.ids (.mb g y) = y.ids := rfl
@[go_sem] theorem c_ids_wn (id k lo n : Nat) : AV.ids (.wn id k lo n) = [id] := rfl
@[go_sem] theorem c_ids_fn (f : FuncId) (a b : List AV) : AV.ids (.fn f a b) = (a ++ b).flatMap AV.idB := rfl
@[go_sem] theorem c_idB_bad  : AV.idB .bad = [] := rfl
@[go_sem] theorem c_idB_v (x : Value) : AV.idB (.v x) = [] := rfl
@[go_sem] theorem c_idB_nil  : AV.idB .nil = [] := rfl
@[go_sem] theorem c_idB_sl (es : List AV) : AV.idB (.sl es) = [] := rfl
@[go_sem] theorem c_idB_ro (cs : List AV) : AV.idB (.ro cs) = [] := rfl
@[go_sem] theorem c_idB_agg (cs : List AV) : AV.idB (.agg cs) = [] := rfl
@[go_sem] theorem c_idB_tup (cs : List AV) : AV.idB (.tup cs) = [] := rfl
@[go_sem] theorem c_idB_el (id k i off : Nat) : AV.idB (.el id k i off) = [id] := rfl
@[go_sem] theorem c_idB_ow (id : Nat) : AV.idB (.ow id) = [id] := rfl
@[go_sem] theorem c_idB_mb (g : Bool) (y : AV) : AV.idB (.mb g y) = [] := rfl
@[go_sem] theorem c_idB_wn (id k lo n : Nat) : AV.idB (.wn id k lo n) = [id] := rfl
@[go_sem] theorem c_idB_fn (f : FuncId) (a b : List AV) : AV.idB (.fn f a b) = [] := rfl
@[go_sem] theorem c_scal_bad  : AV.scal .bad = true := rfl
@[go_sem] theorem c_scal_v (x : Value) : AV.scal (.v x) = true := rfl
@[go_sem] theorem c_scal_nil  : AV.scal .nil = true := rfl
@[go_sem] theorem c_scal_sl (es : List AV) : AV.scal (.sl es) = es.isEmpty := rfl
@[go_sem] theorem c_scal_ro (cs : List AV) : AV.scal (.ro cs) = false := rfl
@[go_sem] theorem c_scal_agg (cs : List AV) : AV.scal (.agg cs) = AV.scalAll cs := rfl
@[go_sem] theorem c_scal_tup (cs : List AV) : AV.scal (.tup cs) = AV.scalAll cs := rfl
@[go_sem] theorem c_scal_el (id k i off : Nat) : AV.scal (.el id k i off) = false := rfl
@[go_sem] theorem c_scal_ow (id : Nat) : AV.scal (.ow id) = false := rfl
@[go_sem] theorem c_scal_mb (g : Bool) (y : AV) : AV.scal (.mb g y) = false := rfl
@[go_sem] theorem c_scal_wn (id k lo n : Nat) : AV.scal (.wn id k lo n) = false := rfl
@[go_sem] theorem c_scal_fn (f : FuncId) (a b : List AV) : AV.scal (.fn f a b) = false := rfl
@[go_sem] theorem c_zone_bad  : AV.zone .bad = true := rfl
@[go_sem] theorem c_zone_v (x : Value) : AV.zone (.v x) = true := rfl
@[go_sem] theorem c_zone_nil  : AV.zone .nil = true := rfl
@[go_sem] theorem c_zone_sl (es : List AV) : AV.zone (.sl es) = true := rfl
@[go_sem] theorem c_zone_ro (cs : List AV) : AV.zone (.ro cs) = true := rfl
@[go_sem] theorem c_zone_agg (cs : List AV) : AV.zone (.agg cs) = cs.all AV.zoneB := rfl
@[go_sem] theorem c_zone_tup (cs : List AV) : AV.zone (.tup cs) = cs.all AV.zoneB := rfl
@[go_sem] theorem c_zone_el (id k i off : Nat) : AV.zone (.el id k i off) = false := rfl
@[go_sem] theorem c_zone_ow (id : Nat) : AV.zone (.ow id) = false := rfl
@[go_sem] theorem c_zone_mb (g : Bool) (y : AV) : AV.zone (.mb g y) = y.zone := rfl
@[go_sem] theorem c_zone_wn (id k lo n : Nat) : AV.zone (.wn id k lo n) = false := rfl
@[go_sem] theorem c_zone_fn (f : FuncId) (a b : List AV) : AV.zone (.fn f a b) = false := rfl
@[go_sem] theorem c_zoneB_bad  : AV.zoneB .bad = true := rfl
@[go_sem] theorem c_zoneB_v (x : Value) : AV.zoneB (.v x) = true := rfl
@[go_sem] theorem c_zoneB_nil  : AV.zoneB .nil = true := rfl
@[go_sem] theorem c_zoneB_sl (es : List AV) : AV.zoneB (.sl es) = true := rfl
@[go_sem] theorem c_zoneB_ro (cs : List AV) : AV.zoneB (.ro cs) = true := rfl
@[go_sem] theorem c_zoneB_agg (cs : List AV) : AV.zoneB (.agg cs) = true := rfl
@[go_sem] theorem c_zoneB_tup (cs : List AV) : AV.zoneB (.tup cs) = true := rfl
@[go_sem] theorem c_zoneB_el (id k i off : Nat) : AV.zoneB (.el id k i off) = false := rfl
@[go_sem] theorem c_zoneB_ow (id : Nat) : AV.zoneB (.ow id) = false := rfl
@[go_sem] theorem c_zoneB_mb (g : Bool) (y : AV) : AV.zoneB (.mb g y) = true := rfl
@[go_sem] theorem c_zoneB_wn (id k lo n : Nat) : AV.zoneB (.wn id k lo n) = false := rfl
@[go_sem] theorem c_zoneB_fn (f : FuncId) (a b : List AV) : AV.zoneB (.fn f a b) = true := rfl
@[go_sem] theorem c_flatB_bad  : AV.flatB .bad = true := rfl
@[go_sem] theorem c_flatB_v (x : Value) : AV.flatB (.v x) = true := rfl
@[go_sem] theorem c_flatB_nil  : AV.flatB .nil = true := rfl
@[go_sem] theorem c_flatB_sl (es : List AV) : AV.flatB (.sl es) = true := rfl
@[go_sem] theorem c_flatB_ro (cs : List AV) : AV.flatB (.ro cs) = true := rfl
@[go_sem] theorem c_flatB_agg (cs : List AV) : AV.flatB (.agg cs) = cs.all AV.zoneB := rfl
@[go_sem] theorem c_flatB_tup (cs : List AV) : AV.flatB (.tup cs) = false := rfl
@[go_sem] theorem c_flatB_el (id k i off : Nat) : AV.flatB (.el id k i off) = true := rfl
@[go_sem] theorem c_flatB_ow (id : Nat) : AV.flatB (.ow id) = true := rfl
@[go_sem] theorem c_flatB_mb (g : Bool) (y : AV) : AV.flatB (.mb g y) = false := rfl
@[go_sem] theorem c_flatB_wn (id k lo n : Nat) : AV.flatB (.wn id k lo n) = true := rfl
@[go_sem] theorem c_flatB_fn (f : FuncId) (a b : List AV) : AV.flatB (.fn f a b) = false := rfl
@[go_sem] theorem c_aggZ_bad  : AV.aggZ .bad = true := rfl
@[go_sem] theorem c_aggZ_v (x : Value) : AV.aggZ (.v x) = true := rfl
@[go_sem] theorem c_aggZ_nil  : AV.aggZ .nil = true := rfl
@[go_sem] theorem c_aggZ_sl (es : List AV) : AV.aggZ (.sl es) = true := rfl
@[go_sem] theorem c_aggZ_ro (cs : List AV) : AV.aggZ (.ro cs) = true := rfl
@[go_sem] theorem c_aggZ_agg (cs : List AV) : AV.aggZ (.agg cs) = true := rfl
@[go_sem] theorem c_aggZ_tup (cs : List AV) : AV.aggZ (.tup cs) = true := rfl
@[go_sem] theorem c_aggZ_el (id k i off : Nat) : AV.aggZ (.el id k i off) = true := rfl
@[go_sem] theorem c_aggZ_ow (id : Nat) : AV.aggZ (.ow id) = true := rfl
@[go_sem] theorem c_aggZ_mb (g : Bool) (y : AV) : AV.aggZ (.mb g y) = true := rfl
@[go_sem] theorem c_aggZ_wn (id k lo n : Nat) : AV.aggZ (.wn id k lo n) = true := rfl
@[go_sem] theorem c_aggZ_fn (f : FuncId) (a b : List AV) : AV.aggZ (.fn f a b) = true := rfl
@[go_sem] theorem c_one_bad  : AV.one .bad = false := rfl
@[go_sem] theorem c_one_v (x : Value) : AV.one (.v x) = x.oneCell' := rfl
@[go_sem] theorem c_one_nil  : AV.one .nil = true := rfl
@[go_sem] theorem c_one_sl (es : List AV) : AV.one (.sl es) = true := rfl
@[go_sem] theorem c_one_ro (cs : List AV) : AV.one (.ro cs) = true := rfl
@[go_sem] theorem c_one_agg (cs : List AV) : AV.one (.agg cs) = false := rfl
@[go_sem] theorem c_one_tup (cs : List AV) : AV.one (.tup cs) = false := rfl
@[go_sem] theorem c_one_el (id k i off : Nat) : AV.one (.el id k i off) = true := rfl
@[go_sem] theorem c_one_ow (id : Nat) : AV.one (.ow id) = true := rfl
@[go_sem] theorem c_one_mb (g : Bool) (y : AV) : AV.one (.mb g y) = false := rfl
@[go_sem] theorem c_one_wn (id k lo n : Nat) : AV.one (.wn id k lo n) = true := rfl
@[go_sem] theorem c_one_fn (f : FuncId) (a b : List AV) : AV.one (.fn f a b) = false := rfl
@[go_sem] theorem c_plain_bad  : AV.plain .bad = false := rfl
@[go_sem] theorem c_plain_v (x : Value) : AV.plain (.v x) = x.oneCell' := rfl
@[go_sem] theorem c_plain_nil  : AV.plain .nil = true := rfl
@[go_sem] theorem c_plain_sl (es : List AV) : AV.plain (.sl es) = true := rfl
@[go_sem] theorem c_plain_ro (cs : List AV) : AV.plain (.ro cs) = true := rfl
@[go_sem] theorem c_plain_agg (cs : List AV) : AV.plain (.agg cs) = cs.all AV.one := rfl
@[go_sem] theorem c_plain_tup (cs : List AV) : AV.plain (.tup cs) = false := rfl
@[go_sem] theorem c_plain_el (id k i off : Nat) : AV.plain (.el id k i off) = true := rfl
@[go_sem] theorem c_plain_ow (id : Nat) : AV.plain (.ow id) = true := rfl
@[go_sem] theorem c_plain_mb (g : Bool) (y : AV) : AV.plain (.mb g y) = false := rfl
@[go_sem] theorem c_plain_wn (id k lo n : Nat) : AV.plain (.wn id k lo n) = true := rfl
@[go_sem] theorem c_plain_fn (f : FuncId) (a b : List AV) : AV.plain (.fn f a b) = false := rfl
@[go_sem] theorem c_isAgg_bad  : AV.isAgg .bad = false := rfl
@[go_sem] theorem c_isAgg_v (x : Value) : AV.isAgg (.v x) = false := rfl
@[go_sem] theorem c_isAgg_nil  : AV.isAgg .nil = false := rfl
@[go_sem] theorem c_isAgg_sl (es : List AV) : AV.isAgg (.sl es) = false := rfl
@[go_sem] theorem c_isAgg_ro (cs : List AV) : AV.isAgg (.ro cs) = false := rfl
@[go_sem] theorem c_isAgg_agg (cs : List AV) : AV.isAgg (.agg cs) = true := rfl
@[go_sem] theorem c_isAgg_tup (cs : List AV) : AV.isAgg (.tup cs) = false := rfl
@[go_sem] theorem c_isAgg_el (id k i off : Nat) : AV.isAgg (.el id k i off) = false := rfl
@[go_sem] theorem c_isAgg_ow (id : Nat) : AV.isAgg (.ow id) = false := rfl
@[go_sem] theorem c_isAgg_mb (g : Bool) (y : AV) : AV.isAgg (.mb g y) = false := rfl
@[go_sem] theorem c_isAgg_wn (id k lo n : Nat) : AV.isAgg (.wn id k lo n) = false := rfl
@[go_sem] theorem c_isAgg_fn (f : FuncId) (a b : List AV) : AV.isAgg (.fn f a b) = false := rfl
@[go_sem] theorem c_isV_bad  : AV.isV .bad = false := rfl
@[go_sem] theorem c_isV_v (x : Value) : AV.isV (.v x) = true := rfl
@[go_sem] theorem c_isV_nil  : AV.isV .nil = false := rfl
@[go_sem] theorem c_isV_sl (es : List AV) : AV.isV (.sl es) = false := rfl
@[go_sem] theorem c_isV_ro (cs : List AV) : AV.isV (.ro cs) = false := rfl
@[go_sem] theorem c_isV_agg (cs : List AV) : AV.isV (.agg cs) = false := rfl
@[go_sem] theorem c_isV_tup (cs : List AV) : AV.isV (.tup cs) = false := rfl
@[go_sem] theorem c_isV_el (id k i off : Nat) : AV.isV (.el id k i off) = false := rfl
@[go_sem] theorem c_isV_ow (id : Nat) : AV.isV (.ow id) = false := rfl
@[go_sem] theorem c_isV_mb (g : Bool) (y : AV) : AV.isV (.mb g y) = false := rfl
@[go_sem] theorem c_isV_wn (id k lo n : Nat) : AV.isV (.wn id k lo n) = false := rfl
@[go_sem] theorem c_isV_fn (f : FuncId) (a b : List AV) : AV.isV (.fn f a b) = false := rfl
@[go_sem] theorem c_getV_bad  : AV.getV .bad = undef := rfl
@[go_sem] theorem c_getV_v (x : Value) : AV.getV (.v x) = x := rfl
@[go_sem] theorem c_getV_nil  : AV.getV .nil = undef := rfl
@[go_sem] theorem c_getV_sl (es : List AV) : AV.getV (.sl es) = undef := rfl
@[go_sem] theorem c_getV_ro (cs : List AV) : AV.getV (.ro cs) = undef := rfl
@[go_sem] theorem c_getV_agg (cs : List AV) : AV.getV (.agg cs) = undef := rfl
@[go_sem] theorem c_getV_tup (cs : List AV) : AV.getV (.tup cs) = undef := rfl
@[go_sem] theorem c_getV_el (id k i off : Nat) : AV.getV (.el id k i off) = undef := rfl
@[go_sem] theorem c_getV_ow (id : Nat) : AV.getV (.ow id) = undef := rfl
@[go_sem] theorem c_getV_mb (g : Bool) (y : AV) : AV.getV (.mb g y) = undef := rfl
@[go_sem] theorem c_getV_wn (id k lo n : Nat) : AV.getV (.wn id k lo n) = undef := rfl
@[go_sem] theorem c_getV_fn (f : FuncId) (a b : List AV) : AV.getV (.fn f a b) = undef := rfl
@[go_sem] theorem c_okU_bad (h : Bool)  : AV.okU h .bad = (True) := rfl
@[go_sem] theorem c_idLt_bad (n : Nat)  : AV.idLt n .bad = (True) := rfl
@[go_sem] theorem c_argA_bad (H : List Cell)  : argA H .bad = .bad := rfl
@[go_sem] theorem c_okU_v (h : Bool) (x : Value) : AV.okU h (.v x) = (True) := rfl
@[go_sem] theorem c_idLt_v (n : Nat) (x : Value) : AV.idLt n (.v x) = (True) := rfl
@[go_sem] theorem c_argA_v (H : List Cell) (x : Value) : argA H (.v x) = (.v x) := rfl
@[go_sem] theorem c_okU_nil (h : Bool)  : AV.okU h .nil = (True) := rfl
@[go_sem] theorem c_idLt_nil (n : Nat)  : AV.idLt n .nil = (True) := rfl
@[go_sem] theorem c_argA_nil (H : List Cell)  : argA H .nil = .sl [] := rfl
@[go_sem] theorem c_okU_sl (h : Bool) (es : List AV) : AV.okU h (.sl es) = (True) := rfl
@[go_sem] theorem c_idLt_sl (n : Nat) (es : List AV) : AV.idLt n (.sl es) = (True) := rfl
@[go_sem] theorem c_argA_sl (H : List Cell) (es : List AV) : argA H (.sl es) = (.sl es) := rfl
@[go_sem] theorem c_okU_ro (h : Bool) (cs : List AV) : AV.okU h (.ro cs) = (True) := rfl
@[go_sem] theorem c_idLt_ro (n : Nat) (cs : List AV) : AV.idLt n (.ro cs) = (True) := rfl
@[go_sem] theorem c_argA_ro (H : List Cell) (cs : List AV) : argA H (.ro cs) = (.ro cs) := rfl
@[go_sem] theorem c_okU_agg (h : Bool) (cs : List AV) : AV.okU h (.agg cs) = (True) := rfl
@[go_sem] theorem c_idLt_agg (n : Nat) (cs : List AV) : AV.idLt n (.agg cs) = (∀ e ∈ cs, ∀ id ∈ e.idB, id < n) := rfl
@[go_sem] theorem c_argA_agg (H : List Cell) (cs : List AV) : argA H (.agg cs) = (.agg (cs.map (argB H))) := rfl
@[go_sem] theorem c_okU_tup (h : Bool) (cs : List AV) : AV.okU h (.tup cs) = (True) := rfl
@[go_sem] theorem c_idLt_tup (n : Nat) (cs : List AV) : AV.idLt n (.tup cs) = (∀ e ∈ cs, ∀ id ∈ e.idB, id < n) := rfl
@[go_sem] theorem c_argA_tup (H : List Cell) (cs : List AV) : argA H (.tup cs) = (.tup cs) := rfl
@[go_sem] theorem c_okU_el (h : Bool) (id k i off : Nat) : AV.okU h (.el id k i off) = (True) := rfl
@[go_sem] theorem c_idLt_el (n : Nat) (id k i off : Nat) : AV.idLt n (.el id k i off) = (id < n) := rfl
@[go_sem] theorem c_argA_el (H : List Cell) (id k i off : Nat) : argA H (.el id k i off) = (.el id k i off) := rfl
@[go_sem] theorem c_okU_ow (h : Bool) (id : Nat) : AV.okU h (.ow id) = (True) := rfl
@[go_sem] theorem c_idLt_ow (n : Nat) (id : Nat) : AV.idLt n (.ow id) = (id < n) := rfl
@[go_sem] theorem c_argA_ow (H : List Cell) (id : Nat) : argA H (.ow id) = (match H[id]? with | some (.row o) => bif zoneEs o.es then .sl o.es else .bad | _ => .bad) := rfl
@[go_sem] theorem c_okU_mb (h : Bool) (g : Bool) (y : AV) : AV.okU h (.mb g y) = (h = true → g = true) := rfl
@[go_sem] theorem c_idLt_mb (n : Nat) (g : Bool) (y : AV) : AV.idLt n (.mb g y) = (y.idLt n) := rfl
@[go_sem] theorem c_argA_mb (H : List Cell) (g : Bool) (y : AV) : argA H (.mb g y) = (.mb g y) := rfl
@[go_sem] theorem c_okU_wn (h : Bool) (id k lo n : Nat) : AV.okU h (.wn id k lo n) = (True) := rfl
@[go_sem] theorem c_idLt_wn (q : Nat) (id k lo n : Nat) : AV.idLt q (.wn id k lo n) = (id < q) := rfl
@[go_sem] theorem c_argA_wn (H : List Cell) (id k lo n : Nat) : argA H (.wn id k lo n) = (match H[id]? with | some (.row o) => if k = o.k ∧ lo + n ≤ o.es.length ∧ zoneEs o.es = true then .sl ((o.es.drop lo).take n) else .bad | _ => .bad) := rfl
@[go_sem] theorem c_okU_fn (h : Bool) (f : FuncId) (a b : List AV) : AV.okU h (.fn f a b) = (True) := rfl
@[go_sem] theorem c_idLt_fn (n : Nat) (f : FuncId) (a b : List AV) : AV.idLt n (.fn f a b) = (∀ e ∈ a ++ b, ∀ id ∈ e.idB, id < n) := rfl
@[go_sem] theorem c_argA_fn (H : List Cell) (f : FuncId) (a b : List AV) : argA H (.fn f a b) = (.fn f a b) := rfl
@[go_sem] theorem c_argB_bad (H : List Cell)  : argB H .bad = .bad := rfl
@[go_sem] theorem c_argB_v (H : List Cell) (x : Value) : argB H (.v x) = (.v x) := rfl
@[go_sem] theorem c_argB_nil (H : List Cell)  : argB H .nil = .sl [] := rfl
@[go_sem] theorem c_argB_sl (H : List Cell) (es : List AV) : argB H (.sl es) = (.sl es) := rfl
@[go_sem] theorem c_argB_ro (H : List Cell) (cs : List AV) : argB H (.ro cs) = (.ro cs) := rfl
@[go_sem] theorem c_argB_agg (H : List Cell) (cs : List AV) : argB H (.agg cs) = (.agg cs) := rfl
@[go_sem] theorem c_argB_el (H : List Cell) (id k i off : Nat) : argB H (.el id k i off) = (.el id k i off) := rfl
@[go_sem] theorem c_argB_ow (H : List Cell) (id : Nat) : argB H (.ow id) = (match H[id]? with | some (.row o) => bif zoneEs o.es then .sl o.es else .bad | _ => .bad) := rfl
@[go_sem] theorem c_argB_wn (H : List Cell) (id k lo n : Nat) : argB H (.wn id k lo n) = (.wn id k lo n) := rfl
@[go_sem] theorem c_ev_tmp (env : Nat → AV) (t : Nat) (h : t < 1000000) : ev env (.tmp t) = env t := if_pos h
@[go_sem] theorem c_ev_const (env : Nat → AV) (x : Value) : ev env (.const x) = ofV x := rfl
@[go_sem] theorem c_ev_func (env : Nat → AV) (f : Nat) : ev env (.func f) = .v (.func (.func f) #[] #[]) := rfl
@[go_sem] theorem c_ev_global (env : Nat → AV) (f : Nat) : ev env (.global f) = globV f := rfl
@[go_sem] theorem c_evU_tmp (env : Nat → AV) (t : Nat) (h : t < 1000000) : evU env (.tmp t) = (env t).un := by unfold evU; rw [c_ev_tmp env t h]
@[go_sem] theorem c_evU_const (env : Nat → AV) (x : Value) : evU env (.const x) = (ofV x).un := rfl
@[go_sem] theorem c_evU_func (env : Nat → AV) (f : Nat) : evU env (.func f) = .v (.func (.func f) #[] #[]) := rfl
@[go_sem] theorem zoneEs_nil : zoneEs [] = true := rfl
@[go_sem] theorem zoneEs_cons (e : AV) (es : List AV) : zoneEs (e :: es) = (e.flat.all AV.zone && zoneEs es) := rfl
@[go_sem] theorem zoneEs_app (a b : List AV) : zoneEs (a ++ b) = (zoneEs a && zoneEs b) := by unfold zoneEs; exact List.all_append
theorem zoneEs_iff (es : List AV) : zoneEs es = true ↔ ∀ e ∈ es, e.flat.all AV.zone = true := List.all_eq_true
@[go_sem] theorem zoneEs_map {α : Type} (f : α → AV) (l : List α) (h : ∀ x, (f x).flat.all AV.zone = true) : zoneEs (l.map f) = true := by
  rw [zoneEs_iff]; intro e he; obtain ⟨x, _, rfl⟩ := List.mem_map.1 he; exact h x
@[go_sem] theorem zoneEs_rep (n : Nat) (e : AV) (h : e.flat.all AV.zone = true) : zoneEs (List.replicate n e) = true := by
  rw [zoneEs_iff]; intro x hx; rw [List.eq_of_mem_replicate hx]; exact h
@[go_sem] theorem zoneEs_take (n : Nat) (es : List AV) (h : zoneEs es = true) : zoneEs (es.take n) = true := by
  rw [zoneEs_iff] at *; exact fun e he => h e (List.mem_of_mem_take he)
@[go_sem] theorem zoneEs_drop (n : Nat) (es : List AV) (h : zoneEs es = true) : zoneEs (es.drop n) = true := by
  rw [zoneEs_iff] at *; exact fun e he => h e (List.mem_of_mem_drop he)
@[go_sem] theorem zoneEs_rev (es : List AV) : zoneEs es.reverse = zoneEs es := by unfold zoneEs; exact List.all_reverse
@[go_sem] theorem zoneEs_set (es : List AV) (i : Nat) (x : AV) (h : zoneEs es = true) (hx : x.flat.all AV.zone = true) : zoneEs (es.set i x) = true := by
  rw [zoneEs_iff] at *; intro e he; rcases List.mem_or_eq_of_mem_set he with he | rfl
  · exact h e he
  · exact hx
@[go_sem] theorem zoneEs_tail (es : List AV) (h : zoneEs es = true) : zoneEs es.tail = true := by
  rw [zoneEs_iff] at *; exact fun e he => h e (List.mem_of_mem_tail he)
@[go_sem] theorem c_ofV_int (k : IntKind) (n : Int) : ofV (.int k n) = .v (.int k n) := rfl
@[go_sem] theorem c_ofV_bool (b : Bool) : ofV (.bool b) = .v (.bool b) := rfl
@[go_sem] theorem c_ofV_string (s : ByteArray) : ofV (.string s) = .v (.string s) := rfl
@[go_sem] theorem c_ofV_nil : ofV (.slice none 0 0) = .nil := rfl
@[go_sem] theorem c_ofV_func (f : Fn) (a b : Array Value) : ofV (.func f a b) = .v (.func f a b) := rfl
@[go_sem] theorem c_ofV_ptr (a : Option Addr) : ofV (.pointer a) = .v (.pointer a) := rfl
@[go_sem] theorem c_agg_ptr  : K.agg (.ptr) = false := rfl
@[go_sem] theorem c_agg_one  : K.agg (.one) = false := rfl
@[go_sem] theorem c_agg_str  : K.agg (.str) = false := rfl
@[go_sem] theorem c_agg_bool  : K.agg (.bool) = false := rfl
@[go_sem] theorem c_agg_int (k : IntKind) : K.agg (.int k) = false := rfl
@[go_sem] theorem c_agg_slice (e : Nat) : K.agg (.slice e) = false := rfl
@[go_sem] theorem c_agg_struct (fs : List (Nat × Nat)) : K.agg (.struct fs) = true := rfl
@[go_sem] theorem c_agg_arr (n : Nat) (e : Nat) : K.agg (.arr n e) = true := rfl
@[go_sem] theorem c_agg_map (a : Nat) (b : Nat) : K.agg (.map a b) = false := rfl

@[go_sem] theorem upd_get (f : Nat → AV) (s : Nat) (x : AV) (t : Nat) : upd f s x t = if t = s then x else f t := rfl
@[go_sem] theorem mkE_cons (s : Nat) (x : AV) (l : List (Nat × AV)) (t : Nat) : mkE ((s, x) :: l) t = if t = s then x else mkE l t := rfl
@[go_sem] theorem mkE_nil (t : Nat) : mkE [] t = .bad := rfl

theorem td {a b : Int} (h : 0 ≤ a) : a.tdiv b = a / b := Int.tdiv_eq_ediv_of_nonneg h
theorem tm {a b : Int} (h : 0 ≤ a) : a.tmod b = a % b := Int.tmod_eq_emod_of_nonneg h

theorem w64 {x : Int} (h1 : -9223372036854775808 ≤ x) (h2 : x ≤ 9223372036854775807) : IntKind.i64.wrap x = x := IntWalk.i64_in x ⟨h1, h2⟩

theorem retH_ret {P : Program} {rs : List ResultVar} {m : Nat} {r : AV} {H' : List Cell} {st : St} (L : List (Nat × AV)) (HS : List Src)
    (h : okS HS st.heap HS ∧ okL HS st L ∧ HS.map Src.cell = H' ∧ m ≤ HS.length ∧ okG L m ∧ ((match resHL P ⟨mkE L, HS.map Src.cell⟩ rs with
    | some (p, vs) => p ∧ packA vs = r
    | none => False) ∨ (match resHL P st rs with
    | some (p, vs) => p ∧ (packA vs).zone = true ∧ packA vs = r
    | none => False))) : retH P rs m r H' .ret st := ⟨L, HS, h⟩
theorem retH_normal {P : Program} {rs : List ResultVar} {m : Nat} {r : AV} {H' : List Cell} {st : St} (L : List (Nat × AV)) (HS : List Src)
    (h : okS HS st.heap HS ∧ okL HS st L ∧ HS.map Src.cell = H' ∧ m ≤ HS.length ∧ okG L m ∧ ((match resHL P ⟨mkE L, HS.map Src.cell⟩ rs with
    | some (p, vs) => p ∧ packA vs = r
    | none => False) ∨ (match resHL P st rs with
    | some (p, vs) => p ∧ (packA vs).zone = true ∧ packA vs = r
    | none => False))) : retH P rs m r H' .normal st := ⟨L, HS, h⟩

end Go.Ab
