/-
  Drawn regions of two parts, of which the second one waits for the first: between them rows may be frozen, and names forgotten.
-/
import Derived.Test.YtgfgajofilcniaaFw6
set_option linter.all false
namespace Go.Ab
open Go.RowKit
section
variable {P : Program} {M : Nat → Prop} {loc : Nat → Value} {w : World}

theorem NmOK.none {X : Ctx} {st : St} {a : Act} {C : Nat → Prop} (h : R X st a w) (hC : ∀ c, ¬ C c) : NmOK st.heap.length st C := by
  obtain ⟨M, loc, hr⟩ := h
  refine ⟨fun s id hid => ⟨(idLt_iff _ _).1 (hr.ids s) id hid, hC _⟩, fun i o ho e he id hid => ?_, fun c hc => absurd hc (hC c), fun c hc => absurd hc (hC c), Nat.le_refl _⟩
  obtain ⟨xs, _, g2⟩ := (hr.obj i o ho).own
  obtain ⟨j, hj, rfl⟩ := List.getElem_of_mem he
  obtain ⟨x, _, hx⟩ := g2 j _ (List.getElem?_eq_getElem hj)
  exact ⟨(idLt_iff _ _).1 hx.2.1 id hid, hC _⟩


/-- A name that a cell may hold: of what is touched, of what was there, or of what a touched row holds. -/
def okId (H : List Cell) (T : List Nat) (L0 id : Nat) : Prop := id ∈ T ∨ id < L0 ∨ ∃ j ∈ T, ∃ o, H[j]? = some (.row o) ∧ id ∈ cellIds (.row o)
theorem okId.congr {H H1 : List Cell} {T : List Nat} {L0 id : Nat} (h : okId H T L0 id) (hh : ∀ i ∈ T, H1[i]? = H[i]?) : okId H1 T L0 id := by
  rcases h with h | h | ⟨j, hj, o, ho, h⟩
  · exact .inl h
  · exact .inr (.inl h)
  · exact .inr (.inr ⟨j, hj, o, (hh j hj).trans ho, h⟩)
theorem NmOK.okId {L0 : Nat} {st : St} {C : Nat → Prop} {T : List Nat} (h : NmOK L0 st C) (ht : ∀ {id}, id ∈ T → id < st.heap.length ∧ ¬ C id) {id : Nat} (hi : okId st.heap T L0 id) : id < st.heap.length ∧ ¬ C id := by
  rcases hi with hi | hi | ⟨j, _, o, ho, hi⟩
  · exact ht hi
  · exact ⟨Nat.lt_of_lt_of_le hi h.len, fun e => by have := h.low _ e; omega⟩
  · have hm : ∃ e ∈ o.es.flatMap AV.flat, id ∈ e.ids := by
      cases hz : zoneEs o.es with
      | true => rw [cellIds_zone hz] at hi; cases hi
      | false =>
        have hi2 : id ∈ (bif zoneEs o.es then [] else (o.es.flatMap AV.flat).flatMap AV.ids) := hi
        rw [hz] at hi2
        simpa using hi2
    obtain ⟨e, he, hid⟩ := hm
    exact h.row j o ho e he id hid

def StepV (P : Program) (n L0 : Nat) (o : Oper) (t : TagU) (st st' : St) : Prop :=
  (∀ d, o.dst = some d → d < n) ∧ o.guard = none ∧ t.t = tch (ev st.env) o.op ∧
  ((∃ r, DoesX P st.heap (ev st.env) o.op r ∧ (∀ id ∈ r.ids, id ∈ t.t ∨ id < L0) ∧ st' = ⟨putE st.env o.dst r, st.heap⟩ ∧ t.w = [] ∧ t.nw = false) ∨
   (∃ p r upd nw, effA P st.heap (ev st.env) o.op = some (p, r, setU st.heap upd ++ nw) ∧ p ∧ r.effR = true ∧ (∀ id ∈ r.ids, id ∈ t.t ∨ id < L0 ∨ (id = st.heap.length ∧ nw ≠ [])) ∧ nw.length ≤ 1 ∧
      (∀ H1 : List Cell, H1.length = st.heap.length → (∀ id ∈ t.t, H1[id]? = st.heap[id]?) → effA P H1 (ev st.env) o.op = some (p, r, setU H1 upd ++ nw)) ∧
      (∀ q ∈ upd, q.1 ∈ t.w ∧ q.1 ∈ t.t ∧ ∀ id ∈ cellIds q.2, okId st.heap t.t L0 id) ∧ (∀ c ∈ nw, t.c ∈ t.w ∧ ∀ id ∈ cellIds c, okId st.heap t.t L0 id) ∧ t.nw = !nw.isEmpty ∧ (∀ id ∈ t.w, id ∈ t.t ∨ (id = t.c ∧ t.nw = true)) ∧
      st' = ⟨putE st.env o.dst (plc st.heap.length t.c r), setU st.heap (upd ++ nw.map fun c => (t.c, c))⟩) ∨
   (∃ ob, NewC P st.heap (ev st.env) o.op ob ∧ t.w = [t.c] ∧ t.nw = true ∧ st' = ⟨putE st.env o.dst (.ow t.c), setU st.heap [(t.c, .row ob)]⟩))

theorem stepV_ok {X : Ctx} {L0 : Nat} {st st' : St} {ops : Array Oper} {o : Oper} {t : TagU} {a : Act} {K : Act → World → Prop} {Q : Exit → Act → World → Prop} {C : Nat → Prop} (hs : StepV P X.n L0 o t st st') (hn : NmOK L0 st C) (hC : t.nw = true → C t.c) (hr : R X st a w)
    (hk : ∀ a' w', R X st' a' w' → K a' w') : if Region.wanted o (yielded ops a.tmps) = true then o.wp P a w K Q else K (a.put o.dst undef) w := by
  obtain ⟨M, loc, h⟩ := hr
  obtain ⟨hd, hg, htt, hs⟩ := hs
  have hw : Region.wanted o (yielded ops a.tmps) = true := by simp [Region.wanted, hg]
  rw [if_pos hw]
  have htc : ∀ {id}, id ∈ t.t → id < st.heap.length ∧ ¬ C id := fun {id} hid => hn.tch (by rw [← htt]; exact hid)
  have htk : ∀ {id}, okId st.heap t.t L0 id → id < st.heap.length ∧ ¬ C id := fun {id} hid => hn.okId htc hid
  rcases hs with ⟨r, hdo, hi, rfl, _, _⟩ | ⟨p, r, upd, nw, he, hp, hf, hri, hnl, _, hupd, hnw, hnwb, _, rfl⟩ | ⟨ob, hnc, htw, hnwb, rfl⟩
  · have hlt : r.idLt st.heap.length := (idLt_iff _ _).2 fun id hid => by
      rcases hi id hid with h1 | h1
      · exact (htc h1).1
      · exact Nat.lt_of_lt_of_le h1 hn.len
    exact DoesX_ok h (fun x _ => h.ev x) (fun x _ => h.evLt x) hdo fun v w' M' h1 h2 => hk _ _ ⟨M', loc, h1.putO hd h2 hlt⟩
  · obtain ⟨nx, w', loc', v, h1, h2, h3, h4, h5⟩ := effA_ok h he hp
    unfold Oper.wp
    rw [h1]
    have hfin : K (a.put o.dst v) w' := by
      match nw, hnl with
      | [], _ =>
        have hne : ∀ id ∈ r.ids, id ≠ st.heap.length := fun id hid e => by
          rcases hri id hid with q | q | ⟨_, q⟩
          · have := (htc q).1; omega
          · have := hn.len; omega
          · exact q rfl
        rw [plc_same hne, List.map_nil, List.append_nil] at hk
        rw [List.append_nil] at h3 h5
        exact hk _ _ ⟨M, loc', h3.putO hd h4 h5⟩
      | [x], _ =>
        have hcC : C t.c := hC (by rw [hnwb]; rfl)
        have hlen : (setU st.heap upd).length = st.heap.length := setU_len _ _
        have hdead : (setU st.heap upd)[t.c]? = some .dead := by
          rw [setU_out _ _ _ fun q hq e => (htc (hupd q hq).2.1).2 (by rw [e]; exact hcC)]
          exact hn.dead _ hcC
        have hcl : t.c < st.heap.length := (List.getElem?_eq_some_iff.1 (hn.dead _ hcC)).1
        have hok : ∀ id, (id ∈ t.t ∨ id < L0) → id < (setU st.heap upd).length ∧ id ≠ t.c := fun id hid => by
          rw [hlen]
          rcases hid with q | q
          · exact ⟨(htc q).1, fun e => (htc q).2 (by rw [e]; exact hcC)⟩
          · have := hn.low _ hcC; have := hn.len; exact ⟨by omega, by omega⟩
        have hmv := RR.move (c := t.c) (G := setU st.heap upd) (x := x) (env := st.env) h3 hdead (fun s id hid => by
            obtain ⟨q1, q2⟩ := hn.env s id hid
            exact ⟨by rw [hlen]; exact q1, fun e => q2 (by rw [e]; exact hcC)⟩) (fun i ob hob e he id hid => by
          by_cases hil : i < (setU st.heap upd).length
          · rw [List.getElem?_append_left hil] at hob
            rcases setU_cell _ _ _ _ hob with q | ⟨q, hq, hq2⟩
            · obtain ⟨q1, q2⟩ := hn.row i ob q e he id hid
              exact ⟨by rw [hlen]; exact q1, fun e => q2 (by rw [e]; exact hcC)⟩
            · obtain ⟨q1, q2⟩ := htk ((hupd q hq).2.2 id (by rw [hq2]; exact cellIds_spec he hid))
              exact ⟨by rw [hlen]; exact q1, fun e => q2 (by rw [e]; exact hcC)⟩
          · rw [List.getElem?_append_right (by omega)] at hob
            have hz : i - (setU st.heap upd).length = 0 := by
              have := (List.getElem?_eq_some_iff.1 hob).1
              simp at this; omega
            rw [hz] at hob
            have hxo : x = .row ob := by simpa using hob
            obtain ⟨q1, q2⟩ := htk ((hnw x (by simp)).2 id (by rw [hxo]; exact cellIds_spec he hid))
            exact ⟨by rw [hlen]; exact q1, fun e => q2 (by rw [e]; exact hcC)⟩)
        have hrp := plc_rep (G := setU st.heap upd) (c := t.c) hf (fun id hid => by
          rcases hri id hid with q | q | ⟨q, _⟩
          · exact (hok id (.inl q)).2
          · exact (hok id (.inr q)).2
          · omega) h4
        rw [hlen] at hrp
        have hstate : setU st.heap (upd ++ [(t.c, x)]) = (setU st.heap upd).set t.c x := by rw [setU_app]; rfl
        refine hk (a.put o.dst v) w' ⟨M, fun i => if i = t.c then loc' st.heap.length else loc' i, ?_⟩
        rw [List.map_singleton, hstate]
        rw [hlen] at hmv
        refine hmv.putO hd hrp ((idLt_iff _ _).2 fun id hid => ?_)
        simp only [List.length_set, hlen]
        rcases plc_ids hf hid with q | ⟨q, qn⟩
        · omega
        · rcases hri id q with q | q | ⟨q, _⟩
          · exact (htc q).1
          · exact Nat.lt_of_lt_of_le q hn.len
          · exact absurd q qn
    rcases h2 with rfl | ⟨rfl, rfl⟩
    · exact hfin
    · exact hfin
  · have hz : zoneEs ob.es = true := by obtain ⟨_, _, _, _, _, _, _, _, _, h4, _⟩ := hnc; exact h4
    obtain ⟨c, hop, hca⟩ := hnc.toA
    obtain ⟨f, vs, h1, h2⟩ := CallHA_ok h hop (fun x _ => h.ev x) hca
    have hcC : C t.c := hC hnwb
    have hcl : t.c < st.heap.length := (List.getElem?_eq_some_iff.1 (hn.dead _ hcC)).1
    unfold Oper.wp
    rw [h1]
    refine h2.mono fun e w' hq => ?_
    obtain ⟨x, M', loc', rfl, h3, h4, _⟩ := hq
    have hmv := RR.move (c := t.c) (G := st.heap) (x := .row ob) (env := st.env) h3 (hn.dead _ hcC) (fun s id hid => by
        obtain ⟨q1, q2⟩ := hn.env s id hid
        exact ⟨q1, fun e => q2 (by rw [e]; exact hcC)⟩) (fun i o2 hob e he id hid => by
      by_cases hil : i < st.heap.length
      · rw [List.getElem?_append_left hil] at hob
        obtain ⟨q1, q2⟩ := hn.row i o2 hob e he id hid
        exact ⟨q1, fun e => q2 (by rw [e]; exact hcC)⟩
      · rw [List.getElem?_append_right (by omega)] at hob
        have hz0 : i - st.heap.length = 0 := by
          have := (List.getElem?_eq_some_iff.1 hob).1
          simp at this; omega
        rw [hz0] at hob
        have hxo : ob = o2 := by simpa using hob
        have := cellIds_spec (o := o2) he hid
        rw [← hxo, cellIds_zone hz] at this
        cases this)
    refine hk (a.put o.dst x) w' ⟨M', fun i => if i = t.c then loc' st.heap.length else loc' i, ?_⟩
    have hrp : Rep w' M' (fun i => if i = t.c then loc' st.heap.length else loc' i) x (.ow t.c) := by
      have h4' : x = loc' st.heap.length := h4
      show x = (if t.c = t.c then loc' st.heap.length else loc' t.c)
      rw [if_pos rfl]; exact h4'
    exact hmv.putO hd hrp (by show t.c < _; rw [List.length_set]; exact hcl)

theorem moveV {n L0 : Nat} {o : Oper} {t : TagU} {st st' : St} (h : StepV P n L0 o t st st') :
    ∃ r U, st' = ⟨putE st.env o.dst r, setU st.heap U⟩ ∧ (∀ q ∈ U, q.1 ∈ t.w) ∧ ∀ (env1 : Nat → AV) (H1 : List Cell), (∀ x ∈ o.op.operands, ev env1 x = ev st.env x) → H1.length = st.heap.length → (∀ id ∈ t.t, H1[id]? = st.heap[id]?) → StepV P n L0 o t ⟨env1, H1⟩ ⟨putE env1 o.dst r, setU H1 U⟩ := by
  obtain ⟨hd, hg, htt, hs⟩ := h
  rcases hs with ⟨r, hdo, hi, rfl, e1, e2⟩ | ⟨p, r, upd, nw, he, hp, hf, hri, hnl, hloc, hupd, hnw, hnwb, htw, rfl⟩ | ⟨ob, hnc, htw, hnwb, rfl⟩
  · refine ⟨r, [], rfl, by simp, fun env1 H1 h1 h2 h3 => ⟨hd, hg, by rw [tch_congr h1]; exact htt, .inl ⟨r, DoesX_congr h1 (fun id hid => h3 id ?_) hdo, hi, rfl, e1, e2⟩⟩⟩
    rw [htt]; exact rdX_tch hid
  · refine ⟨plc st.heap.length t.c r, upd ++ nw.map fun c => (t.c, c), rfl, fun q hq => ?_, fun env1 H1 h1 h2 h3 => ⟨hd, hg, by rw [tch_congr h1]; exact htt, .inr (.inl ⟨p, r, upd, nw, ?_, hp, hf, ?_, hnl, fun H2 g1 g2 => ?_, fun q hq => ⟨(hupd q hq).1, (hupd q hq).2.1, fun id hid => ((hupd q hq).2.2 id hid).congr h3⟩, fun c hc => ⟨(hnw c hc).1, fun id hid => ((hnw c hc).2 id hid).congr h3⟩, hnwb, htw, ?_⟩)⟩⟩
    · rcases List.mem_append.1 hq with hq | hq
      · exact (hupd q hq).1
      · obtain ⟨c, hc, rfl⟩ := List.mem_map.1 hq
        exact (hnw c hc).1
    · show effA P H1 (ev env1) o.op = _
      rw [effA_congr h1]; exact hloc H1 h2 h3
    · show ∀ id ∈ r.ids, id ∈ t.t ∨ id < L0 ∨ (id = H1.length ∧ nw ≠ [])
      rw [h2]; exact hri
    · rw [effA_congr h1]
      exact hloc H2 (by rw [g1]; exact h2) (fun id hid => (g2 id hid).trans (h3 id hid))
    · show _ = (⟨putE env1 o.dst (plc H1.length t.c r), _⟩ : St)
      rw [h2]
  · exact ⟨.ow t.c, [(t.c, .row ob)], rfl, fun q hq => by simp at hq; rw [hq, htw]; simp, fun env1 H1 h1 h2 h3 => ⟨hd, hg, by rw [tch_congr h1]; exact htt, .inr (.inr ⟨ob, NewC_congr h1 hnc, htw, hnwb, rfl⟩)⟩⟩

theorem swapV {ops : Array Oper} {n L0 : Nat} {oi oj : Oper} {ti tj : TagU} {st st1 st2 : St} (hi : StepV P n L0 oi ti st st1) (hj : StepV P n L0 oj tj st1 st2) (hap : oi.apart ops oj = true) (hm : noMeetU ti tj = true) :
    ∃ st1', StepV P n L0 oj tj st st1' ∧ StepV P n L0 oi ti st1' st2 := by
  obtain ⟨a1, a2, a3⟩ := Oper.apart_spec hap
  simp only [noMeetU, Bool.and_eq_true, List.all_eq_true, Bool.not_eq_true'] at hm
  obtain ⟨m1, m2⟩ := hm
  have m1t : ∀ id ∈ ti.w, id ∉ tj.t := fun id h1 h2 => by have := (m1 id h1).1; simp at this; exact this h2
  have m1w : ∀ id ∈ ti.w, id ∉ tj.w := fun id h1 h2 => by have := (m1 id h1).2; simp at this; exact this h2
  have m2t : ∀ id ∈ tj.w, id ∉ ti.t := fun id h1 h2 => by have := m2 id h1; simp at this; exact this h2
  obtain ⟨ri, Ui, rfl, ui, qi⟩ := moveV hi
  obtain ⟨rj, Uj, rfl, uj, qj⟩ := moveV hj
  refine ⟨_, qj st.env st.heap (fun x hx => (ev_put a1 x hx).symm) (setU_len _ _).symm (fun id hid => (setU_out _ _ _ fun q hq e => m1t _ (ui q hq) (by rw [e]; exact hid)).symm), ?_⟩
  have := qi (putE st.env oj.dst rj) (setU st.heap Uj) (ev_put a3) (setU_len _ _) (fun id hid => setU_out _ _ _ fun q hq e => m2t _ (uj q hq) (by rw [e]; exact hid))
  rw [← putE_comm a2, setU_comm Uj Ui _ (fun q hq p hp e => m1w _ (ui p hp) (by rw [e]; exact uj q hq))] at this
  exact this

theorem StepV.nm {n L0 : Nat} {o : Oper} {t : TagU} {st st' : St} {C : Nat → Prop} (h : StepV P n L0 o t st st') (hn : NmOK L0 st C) (hC : t.nw = true → C t.c) : NmOK L0 st' (fun c => C c ∧ (t.nw = true → c ≠ t.c)) := by
  obtain ⟨hd, hg, htt, hs⟩ := h
  have htc : ∀ {id}, id ∈ t.t → id < st.heap.length ∧ ¬ C id := fun {id} hid => hn.tch (by rw [← htt]; exact hid)
  have hok : ∀ id, (id ∈ t.t ∨ id < L0) → id < st.heap.length ∧ ¬ C id := fun id hid => by
    rcases hid with q | q
    · exact htc q
    · exact ⟨Nat.lt_of_lt_of_le q hn.len, fun e => by have := hn.low _ e; omega⟩
  have putEnv : ∀ (r : AV) (N : Nat), st.heap.length = N → (∀ id ∈ r.ids, id < st.heap.length ∧ ¬ (C id ∧ (t.nw = true → id ≠ t.c))) → ∀ s, ∀ id ∈ (putE st.env o.dst r s).ids, id < N ∧ ¬ (C id ∧ (t.nw = true → id ≠ t.c)) := fun r N hN hr s id hid => by
    have old : id ∈ (st.env s).ids → id < N ∧ ¬ (C id ∧ (t.nw = true → id ≠ t.c)) := fun hid => by
      obtain ⟨q1, q2⟩ := hn.env s id hid
      exact ⟨hN ▸ q1, fun e => q2 e.1⟩
    cases hdd : o.dst with
    | none => rw [hdd] at hid; exact old hid
    | some d =>
      rw [hdd] at hid
      simp only [putE, upd] at hid
      split at hid
      · obtain ⟨q1, q2⟩ := hr id hid
        exact ⟨hN ▸ q1, q2⟩
      · exact old hid
  rcases hs with ⟨r, hdo, hi, rfl, e1, e2⟩ | ⟨p, r, upd, nw, he, hp, hf, hri, hnl, hloc, hupd, hnw, hnwb, htw, rfl⟩ | ⟨ob, hnc, htw, hnwb, rfl⟩
  · refine ⟨putEnv r _ rfl fun id hid => ?_, fun i ob ho e he id hid => ⟨(hn.row i ob ho e he id hid).1, fun q => (hn.row i ob ho e he id hid).2 q.1⟩, fun c q => hn.dead c q.1, fun c q => hn.low c q.1, hn.len⟩
    obtain ⟨q1, q2⟩ := hok id (hi id hid)
    exact ⟨q1, fun e => q2 e.1⟩
  · have hlen : (setU st.heap (upd ++ nw.map fun c => (t.c, c))).length = st.heap.length := setU_len _ _
    refine ⟨putEnv _ _ hlen.symm fun id hid => ?_, fun i ob ho e he id hid => ?_, fun c q => ?_, fun c q => hn.low c q.1, by rw [hlen]; exact hn.len⟩
    · rcases plc_ids hf hid with q | ⟨q, qn⟩
      · cases hb : t.nw with
        | true =>
          have hcC := hC hb
          exact ⟨by rw [q]; exact (List.getElem?_eq_some_iff.1 (hn.dead _ hcC)).1, fun e => e.2 rfl q⟩
        | false =>
          have hne : nw = [] := by rw [hb] at hnwb; simpa using hnwb.symm
          by_cases hL : ∀ id ∈ r.ids, id ≠ st.heap.length
          · rw [plc_same hL] at hid
            rcases hri id hid with q2 | q2 | ⟨_, q2⟩
            · obtain ⟨g1, g2⟩ := hok id (.inl q2); exact ⟨g1, fun e => g2 e.1⟩
            · obtain ⟨g1, g2⟩ := hok id (.inr q2); exact ⟨g1, fun e => g2 e.1⟩
            · exact absurd hne q2
          · exfalso
            apply hL
            intro id2 h2 e2
            rcases hri id2 h2 with q2 | q2 | ⟨_, q2⟩
            · have := (htc q2).1; omega
            · have := hn.len; omega
            · exact q2 hne
      · rcases hri id q with q2 | q2 | ⟨q2, _⟩
        · obtain ⟨g1, g2⟩ := hok id (.inl q2); exact ⟨g1, fun e => g2 e.1⟩
        · obtain ⟨g1, g2⟩ := hok id (.inr q2); exact ⟨g1, fun e => g2 e.1⟩
        · exact absurd q2 qn
    · show id < (setU st.heap (upd ++ nw.map fun c => (t.c, c))).length ∧ _
      rw [hlen]
      rcases setU_cell _ _ _ _ ho with q | ⟨q, hq, hq2⟩
      · obtain ⟨g1, g2⟩ := hn.row i ob q e he id hid
        exact ⟨g1, fun e => g2 e.1⟩
      · have hid2 : id ∈ cellIds q.2 := by rw [hq2]; exact cellIds_spec he hid
        have : okId st.heap t.t L0 id := by
          rcases List.mem_append.1 hq with hq | hq
          · exact (hupd q hq).2.2 id hid2
          · obtain ⟨c, hc, rfl⟩ := List.mem_map.1 hq
            exact (hnw c hc).2 id hid2
        obtain ⟨g1, g2⟩ := hn.okId htc this
        exact ⟨g1, fun e => g2 e.1⟩
    · show (setU st.heap (upd ++ nw.map fun c => (t.c, c)))[c]? = some .dead
      rw [setU_out _ _ _ fun x hx e => ?_]
      · exact hn.dead c q.1
      · rcases List.mem_append.1 hx with hx | hx
        · exact (htc (hupd x hx).2.1).2 (by rw [e]; exact q.1)
        · obtain ⟨c2, hc2, rfl⟩ := List.mem_map.1 hx
          refine q.2 ?_ e.symm
          rw [hnwb]
          cases nw with
          | nil => cases hc2
          | cons _ _ => rfl
  · have hz : zoneEs ob.es = true := by obtain ⟨_, _, _, _, _, _, _, _, _, h4, _⟩ := hnc; exact h4
    have hcC := hC hnwb
    have hcl : t.c < st.heap.length := (List.getElem?_eq_some_iff.1 (hn.dead _ hcC)).1
    have hlen : (setU st.heap [(t.c, .row ob)]).length = st.heap.length := setU_len _ _
    refine ⟨putEnv _ _ hlen.symm fun id hid => ?_, fun i o2 ho e he id hid => ?_, fun c q => ?_, fun c q => hn.low c q.1, by rw [hlen]; exact hn.len⟩
    · simp only [AV.ids, List.mem_singleton] at hid
      rw [hid]
      exact ⟨hcl, fun e => e.2 hnwb rfl⟩
    · show id < (setU st.heap [(t.c, .row ob)]).length ∧ _
      rw [hlen]
      rcases setU_cell _ _ _ _ ho with q | ⟨q, hq, hq2⟩
      · obtain ⟨g1, g2⟩ := hn.row i o2 q e he id hid
        exact ⟨g1, fun e => g2 e.1⟩
      · simp at hq
        rw [hq] at hq2
        have hq3 : Cell.row ob = Cell.row o2 := hq2
        have hid2 : id ∈ cellIds (.row ob) := by rw [hq3]; exact cellIds_spec he hid
        rw [cellIds_zone hz] at hid2; cases hid2
    · show (setU st.heap [(t.c, .row ob)])[c]? = some .dead
      rw [setU_out _ _ _ fun x hx e => ?_]
      · exact hn.dead c q.1
      · simp at hx
        rw [hx] at e
        exact q.2 hnwb e.symm

def RunVX (P : Program) (n L0 : Nat) : List (Oper × TagU) → St → St → Prop
  | [], st, st' => st' = st
  | (o, t) :: l, st, st' => ∃ st1, StepV P n L0 o t st st1 ∧ RunVX P n L0 l st1 st'

theorem bubbleV {ops : Array Oper} {n L0 : Nat} {x : Oper × TagU} {B : List (Oper × TagU)} {sf : St} : ∀ (A : List (Oper × TagU)) (st : St), RunVX P n L0 (A ++ x :: B) st sf →
    (∀ a ∈ A, a.1.apart ops x.1 = true ∧ noMeetU a.2 x.2 = true) → RunVX P n L0 (x :: (A ++ B)) st sf
  | [], st, h, _ => h
  | a :: A, st, h, hA => by
    obtain ⟨st1, h1, h2⟩ := h
    obtain ⟨st2, g1, g2⟩ := bubbleV A st1 h2 (fun b hb => hA b (by simp [hb]))
    obtain ⟨p1, p2⟩ := hA a (by simp)
    obtain ⟨st1', q1, q2⟩ := swapV h1 g1 p1 p2
    exact ⟨st1', q1, st2, q2, g2⟩

def runV (P : Program) (n L0 : Nat) : List Oper → Bool → Nat → List TagU → (St → List TagU → Prop) → St → Prop
  | [], _, _, acc, K, st => K st acc
  | _ :: _, false, _, _, _, _ => False
  | o :: l, true, k, acc, K, st => dOK n o.dst ∧ o.guard = none ∧
    match isCall o.op with
    | true => match tgt (ev st.env) (argsOf o.op).1 with
      | some (f, first, cap) => callable P f = true ∧
          CallU P f (first ++ (argsOf o.op).2.map (fun x => argA st.heap (ev st.env x)) ++ cap) ((argsOf o.op).2.any fun x => (ev st.env x).isOw) ((first ++ (argsOf o.op).2.map (fun x => argA st.heap (ev st.env x)) ++ cap).all AV.argOK)
            st.heap.length (first ++ (argsOf o.op).2.map (ev st.env) ++ cap)
            (fun z r => runV P n L0 l z k (acc ++ [⟨tch (ev st.env) o.op, [], L0 + k, false⟩]) K ⟨putE st.env o.dst r, st.heap⟩)
            (fun z ob => runV P n L0 l z (k + 1) (acc ++ [⟨tch (ev st.env) o.op, [L0 + k], L0 + k, true⟩]) K ⟨putE st.env o.dst (.ow (L0 + k)), st.heap.set (L0 + k) (.row ob)⟩)
      | none => False
    | false => match isEff o.op with
      | true => match effA P st.heap (ev st.env) o.op with
        | some (p, r, H) => p ∧ r.effR = true ∧ (∀ id ∈ r.ids, id ∈ tch (ev st.env) o.op ∨ id < L0 ∨ (id = st.heap.length ∧ (H.length != st.heap.length) = true)) ∧
            (∀ i ∈ wrOf (ev st.env) o.op, ∀ id ∈ cellIds (H.getD i .dead), okId st.heap (tch (ev st.env) o.op) L0 id) ∧ (∀ c ∈ H.drop st.heap.length, ∀ id ∈ cellIds c, okId st.heap (tch (ev st.env) o.op) L0 id) ∧
            runV P n L0 l true (bif H.length != st.heap.length then k + 1 else k) (acc ++ [⟨tch (ev st.env) o.op, wrOf (ev st.env) o.op ++ (bif H.length != st.heap.length then [L0 + k] else []), L0 + k, H.length != st.heap.length⟩]) K
              ⟨putE st.env o.dst (plc st.heap.length (L0 + k) r), placeU st.heap.length (L0 + k) H⟩
        | none => False
      | false => match doF P false st.heap (ev st.env) o.op with
        | some (p, r, _) => p ∧ (∀ id ∈ r.ids, id ∈ tch (ev st.env) o.op ∨ id < L0) ∧ runV P n L0 l true k (acc ++ [⟨tch (ev st.env) o.op, [], L0 + k, false⟩]) K ⟨putE st.env o.dst r, st.heap⟩
        | none => False

theorem runV_ok {n L0 : Nat} {K : St → List TagU → Prop} : ∀ (l : List Oper) (k : Nat) (acc : List TagU) (st : St), runV P n L0 l true k acc K st → ∃ ts st', ts.length = l.length ∧ RunVX P n L0 (l.zip ts) st st' ∧ K st' (acc ++ ts)
  | [], k, acc, st, h => ⟨[], st, rfl, rfl, by rw [List.append_nil]; exact h⟩
  | o :: l, k, acc, st, h => by
    obtain ⟨hd, hg, h⟩ := h
    have hd' : ∀ d, o.dst = some d → d < n := by intro d e; rw [e] at hd; exact hd
    have fin : ∀ (t : TagU) (st1 : St) (k1 : Nat), StepV P n L0 o t st st1 → runV P n L0 l true k1 (acc ++ [t]) K st1 → ∃ ts st', ts.length = (o :: l).length ∧ RunVX P n L0 ((o :: l).zip ts) st st' ∧ K st' (acc ++ ts) := fun t st1 k1 h1 h2 => by
      obtain ⟨ts, st', e1, e2, e3⟩ := runV_ok l k1 (acc ++ [t]) st1 h2
      refine ⟨t :: ts, st', by simp [e1], ⟨st1, h1, e2⟩, ?_⟩
      rw [List.append_assoc] at e3
      exact e3
    split at h
    · rename_i hc
      obtain ⟨c, hop, hargs⟩ := call_of hc
      rw [hargs] at h
      simp only [] at h
      split at h
      · rename_i f first cap ht
        obtain ⟨h1, h⟩ := h
        rcases h with ⟨hok, fr, r, h3, hz, h4, h5⟩ | ⟨largs, ob, h3, hz, ha, h5⟩
        · have hall := List.all_eq_true.1 hok
          refine fin _ _ _ ⟨hd', hg, rfl, .inl ⟨r, .inl (.inr (.inr (.inl ⟨c, hop, f, first, cap, ht, h1, fun e he => hall e ?_, fun x hx => hall _ ?_, hz, fr, h3, ?_⟩))), fun id hid => absurd ((idLt_iff 0 r).1 (zone_idLt hz 0) id hid) (by omega), rfl, rfl, rfl⟩⟩ h5
          · rcases List.mem_append.1 he with he | he
            · exact List.mem_append_left _ (List.mem_append_left _ he)
            · exact List.mem_append_right _ he
          · exact List.mem_append_left _ (List.mem_append_right _ (List.mem_map.2 ⟨x, hx, rfl⟩))
          · rcases h4 with h4 | h4 | h4
            · exact .inl h4
            · exact .inr (.inl h4)
            · refine .inr (.inr fun x hx => ?_)
              have := List.any_eq_false.1 h4 x hx
              simpa using this
        · exact fin _ _ _ ⟨hd', hg, rfl, .inr (.inr ⟨ob, ⟨c, f, first, cap, largs, hop, ht, h1, h3, hz, ha⟩, rfl, rfl, rfl⟩)⟩ h5
      · exact h.elim
    split at h
    · split at h
      · rename_i p r H he
        obtain ⟨hp, hf, hr, hw1, hw2, h⟩ := h
        obtain ⟨upd, nw, rfl, hnl, hupd, hloc⟩ := eff_patch he
        have hlen : (setU st.heap upd).length = st.heap.length := setU_len _ _
        have hne : ((setU st.heap upd ++ nw).length != st.heap.length) = !nw.isEmpty := by
          rw [List.length_append, hlen]
          cases nw with
          | nil => simp
          | cons x xs => simp
        rw [hne] at h hr
        refine fin _ _ _ ⟨hd', hg, rfl, .inr (.inl ⟨p, r, upd, nw, he, hp, hf, fun id hid => ?_, hnl, hloc, fun q hq => ⟨List.mem_append_left _ (hupd q hq).1, wr_tch (hupd q hq).1, fun id hid => ?_⟩, fun c hc => ⟨List.mem_append_right _ ?_, fun id hid => ?_⟩, rfl, fun id hid => ?_, ?_⟩)⟩ h
        · rcases hr id hid with q | q | ⟨q, q2⟩
          · exact .inl q
          · exact .inr (.inl q)
          · exact .inr (.inr ⟨q, fun e => by rw [e] at q2; cases q2⟩)
        · refine hw1 q.1 (hupd q hq).1 id ?_
          rw [List.getD_eq_getElem?_getD, (hupd q hq).2]
          exact hid
        · cases nw with
          | nil => cases hc
          | cons _ _ => simp
        · refine hw2 c ?_ id hid
          rw [← hlen, List.drop_left]; exact hc
        · rcases List.mem_append.1 hid with q | q
          · exact .inl (wr_tch q)
          · cases nw with
            | nil => simp at q
            | cons _ _ => simp at q; exact .inr ⟨q, rfl⟩
        · congr 1
          unfold placeU
          rw [hne]
          match nw, hnl with
          | [], _ => simp
          | [x], _ =>
            have e1 : (setU st.heap upd ++ [x]).take st.heap.length = setU st.heap upd := by rw [← hlen, List.take_left]
            have e2 : (setU st.heap upd ++ [x]).getD st.heap.length .dead = x := by
              rw [List.getD_eq_getElem?_getD, ← hlen]; simp
            rw [e1, e2]
            simp [setU_app, setU]
      · exact h.elim
    · rename_i hne
      split at h
      · rename_i p r H he
        obtain ⟨hp, hr, h⟩ := h
        refine fin _ _ _ ⟨hd', hg, rfl, .inl ⟨r, ?_, hr, rfl, rfl, rfl⟩⟩ h
        rcases doF_ok he hp with ⟨e1, _, _⟩ | e1 | ⟨_, e1, _⟩
        · exact .inl e1
        · have := effA_isEff e1
          rw [hne] at this; cases this
        · exact .inr e1
      · exact h.elim

theorem any_runV {X : Ctx} {ops : Array Oper} {L0 : Nat} {Q : Exit → Act → World → Prop} {T : Nat → TagU} {sf : St} (hq : ∀ a w, R X sf a w → Q .normal a w) {meet : Nat → Oper → Nat → Oper → Bool}
    (hback : ∀ j oj, ops[j]? = some oj → ∀ e ∈ oj.after, Region.binds .any e = true → e.on < j)
    (hind : ∀ i j oi oj, ops[i]? = some oi → ops[j]? = some oj → i < j → Reach ops i j ∨ (oi.apart ops oj = true ∧ meet i oi j oj = true))
    (hmeet : ∀ i j oi oj, ops[i]? = some oi → ops[j]? = some oj → i < j → meet i oi j oj = true → noMeetU (T i) (T j) = true)
    (hdis : ∀ i j, i < ops.size → j < ops.size → i ≠ j → (T i).nw = true → (T j).nw = true → (T i).c ≠ (T j).c) :
    ∀ (fuel : Nat) (listed : Array Bool) (st : St) (a : Act) (w : World), listed.size = ops.size → (leftL ops listed).length = fuel → NmOK L0 st (CL T (leftL ops listed)) →
      (∀ j o, ops[j]? = some o → listed.getD j false = true → ∀ e ∈ o.after, Region.binds .any e = true → listed.getD e.on false = true) →
      RunVX P X.n L0 ((leftL ops listed).map fun i => (ops.getD i default, T i)) st sf → R X st a w → wpAny P .any ops Q fuel listed a w := by
  have hsome : ∀ {listed : Array Bool} {i}, i ∈ leftL ops listed → ops[i]? = some (ops.getD i default) ∧ listed.getD i true = false := by
    intro listed i hi
    simp only [leftL, List.mem_filter, List.mem_range, Bool.not_eq_true'] at hi
    exact ⟨by rw [Array.getD_eq_getD_getElem?, Array.getElem?_eq_getElem hi.1]; rfl, hi.2⟩
  intro fuel
  induction fuel with
  | zero =>
    intro listed st a w hs hl hN _ hr hR
    have h0 : leftL ops listed = [] := List.eq_nil_of_length_eq_zero hl
    rw [h0] at hr
    simp only [List.map_nil, RunVX] at hr
    subst hr
    refine ⟨?_, hq a w hR⟩
    refine List.eq_nil_iff_forall_not_mem.2 fun i hi => ?_
    have := (ready_iff.1 hi).1
    rw [h0] at this; cases this
  | succ fuel ih =>
    intro listed st a w hs hl hN hcl hr hR
    refine ⟨fun h0 => ?_, fun i hi => ?_⟩
    · exfalso
      cases hL : leftL ops listed with
      | nil => rw [hL] at hl; simp at hl
      | cons k L =>
        have hk : k ∈ leftL ops listed := by rw [hL]; simp
        have : k ∈ Region.ready .any ops listed := by
          refine ready_iff.2 ⟨hk, fun o ho e he hbn => ?_⟩
          have hlt := hback k o ho e he hbn
          have hkk : k < ops.size := (Array.getElem?_eq_some_iff.1 ho).1
          cases hg : listed.getD e.on false with
          | true => rfl
          | false =>
            exfalso
            have hsz : e.on < listed.size := by omega
            have hmem : e.on ∈ leftL ops listed := by
              simp only [leftL, List.mem_filter, List.mem_range, Bool.not_eq_true']
              refine ⟨by omega, ?_⟩
              rw [Array.getD_eq_getD_getElem?, Array.getElem?_eq_getElem hsz] at hg ⊢
              exact hg
            have hsort := left_sorted ops listed
            rw [hL] at hsort hmem
            rcases List.mem_cons.1 hmem with h | h
            · omega
            · have := (List.pairwise_cons.1 hsort).1 _ h; omega
        rw [h0] at this; cases this
    · obtain ⟨hil, hip⟩ := ready_iff.1 hi
      obtain ⟨hoi, hli⟩ := hsome hil
      obtain ⟨A, B, hAB, hA, hf⟩ := split_at (left_sorted ops listed) hil
      rw [hAB, List.map_append, List.map_cons] at hr
      have hbub := bubbleV (ops := ops) (A.map fun i => (ops.getD i default, T i)) st hr (fun x hx => by
        obtain ⟨k, hk, rfl⟩ := List.mem_map.1 hx
        have hkl : k ∈ leftL ops listed := by rw [hAB]; simp [hk]
        obtain ⟨hok, hlk⟩ := hsome hkl
        rcases hind k i _ _ hok hoi (hA k hk) with h1 | ⟨h1, h2⟩
        · exfalso
          have := reach_listed hcl h1 hip
          have hk2 : k < listed.size := by
            simp only [leftL, List.mem_filter, List.mem_range] at hkl; omega
          rw [Array.getD_eq_getD_getElem?, Array.getElem?_eq_getElem hk2] at this hlk
          simp at this hlk
          rw [hlk] at this; cases this
        · exact ⟨h1, hmeet k i _ _ hok hoi (hA k hk) h2⟩)
      obtain ⟨st1, h1, h2⟩ := hbub
      have hCi : (T i).nw = true → CL T (leftL ops listed) (T i).c := fun hb => ⟨i, hil, hb, rfl⟩
      have hlset : leftL ops (listed.setIfInBounds i true) = A ++ B := by rw [left_set hs hil, hf]
      have hN1 : NmOK L0 st1 (CL T (leftL ops (listed.setIfInBounds i true))) := by
        refine (h1.nm hN hCi).mono fun c hc => ?_
        obtain ⟨j, hj, hb, rfl⟩ := hc
        rw [hlset] at hj
        have hjl : j ∈ leftL ops listed := by
          rw [hAB]
          rcases List.mem_append.1 hj with h | h
          · exact List.mem_append_left _ h
          · exact List.mem_append_right _ (List.mem_cons_of_mem _ h)
        have hsj : j < ops.size := by simp only [leftL, List.mem_filter, List.mem_range] at hjl; exact hjl.1
        have hsi : i < ops.size := by simp only [leftL, List.mem_filter, List.mem_range] at hil; exact hil.1
        refine ⟨⟨j, hjl, hb, rfl⟩, fun hbi => hdis j i hsj hsi ?_ hb hbi⟩
        rintro rfl
        have hsort := left_sorted ops listed
        rw [hAB] at hsort
        rcases List.mem_append.1 hj with h | h
        · have := (List.pairwise_append.1 hsort).2.2 j h j (by simp); omega
        · have := (List.pairwise_cons.1 (List.pairwise_append.1 hsort).2.1).1 j h; omega
      unfold wpOp
      rw [hoi]
      simp only []
      have hstep := stepV_ok (ops := ops) (Q := Q) (K := wpAny P .any ops Q fuel (listed.setIfInBounds i true)) h1 hN hCi hR (fun a' w' hR' => by
        refine ih (listed.setIfInBounds i true) st1 a' w' (by simpa using hs) ?_ hN1 ?_ ?_ hR'
        · rw [hlset]
          rw [hAB] at hl
          simp at hl ⊢; omega
        · intro j o hj hlj e he hbn
          have hset : ∀ q, listed.getD q false = true → (listed.setIfInBounds i true).getD q false = true := fun q hq => by
            by_cases hqi : q = i
            · subst hqi
              have hqs : q < listed.size := by
                simp only [leftL, List.mem_filter, List.mem_range] at hil; omega
              rw [Array.getD_eq_getD_getElem?, Array.getElem?_setIfInBounds_self_of_lt hqs]; rfl
            · rw [Array.getD_eq_getD_getElem?, Array.getElem?_setIfInBounds_ne (by omega), ← Array.getD_eq_getD_getElem?]; exact hq
          by_cases hji : j = i
          · subst hji
            exact hset _ (hip o hj e he hbn)
          · rw [Array.getD_eq_getD_getElem?, Array.getElem?_setIfInBounds_ne (by omega), ← Array.getD_eq_getD_getElem?] at hlj
            exact hset _ (hcl j o hj hlj e he hbn)
        · rw [hlset, List.map_append]; exact h2)
      split
      · rename_i hw
        rw [if_pos hw] at hstep
        exact .inl hstep
      · rename_i hw
        rw [if_neg hw] at hstep
        exact hstep

/-- What is left of the first part, and of the second. -/
def loF (p : Nat) (l : List Nat) : List Nat := l.filter fun i => decide (i < p)
def hiF (p : Nat) (l : List Nat) : List Nat := l.filter fun i => decide (p ≤ i)
theorem loF_all {p : Nat} {l : List Nat} (h : ∀ i ∈ l, i < p) : loF p l = l := List.filter_eq_self.2 fun i hi => by simpa using h i hi
theorem hiF_none {p : Nat} {l : List Nat} (h : ∀ i ∈ l, i < p) : hiF p l = [] := List.filter_eq_nil_iff.2 fun i hi => by have := h i hi; simp; omega
theorem hiF_all {p : Nat} {l : List Nat} (h : loF p l = []) : hiF p l = l := List.filter_eq_self.2 fun i hi => by
  have := List.filter_eq_nil_iff.1 h i hi
  simp at this ⊢; omega

theorem any_runB {X : Ctx} {ops : Array Oper} {L0 p : Nat} {Q : Exit → Act → World → Prop} {T : Nat → TagU} {s1 s2 sf : St} (hq : ∀ a w, R X sf a w → Q .normal a w) {meet : Nat → Oper → Nat → Oper → Bool}
    (hback : ∀ j oj, ops[j]? = some oj → ∀ e ∈ oj.after, Region.binds .any e = true → e.on < j)
    (hind : ∀ i j oi oj, ops[i]? = some oi → ops[j]? = some oj → i < j → Reach ops i j ∨ (oi.apart ops oj = true ∧ meet i oi j oj = true))
    (hmeet : ∀ i j oi oj, ops[i]? = some oi → ops[j]? = some oj → i < j → meet i oi j oj = true → noMeetU (T i) (T j) = true)
    (hbar : ∀ i j oi oj, ops[i]? = some oi → ops[j]? = some oj → i < p → p ≤ j → Reach ops i j)
    (hdis : ∀ i j, i < ops.size → j < ops.size → i ≠ j → (T i).nw = true → (T j).nw = true → (T i).c ≠ (T j).c)
    {SUF : List Nat} (hold : ∀ i ∈ SUF, (T i).nw = false) (hsub : Sub X s2 s1)
    (hrun2 : RunVX P X.n s2.heap.length (SUF.map fun i => (ops.getD i default, T i)) s2 sf) :
    ∀ (fuel : Nat) (listed : Array Bool) (st : St) (a : Act) (w : World), listed.size = ops.size → (leftL ops listed).length = fuel → NmOK L0 st (CL T (loF p (leftL ops listed))) →
      (∀ j o, ops[j]? = some o → listed.getD j false = true → ∀ e ∈ o.after, Region.binds .any e = true → listed.getD e.on false = true) →
      hiF p (leftL ops listed) = SUF →
      RunVX P X.n L0 ((loF p (leftL ops listed)).map fun i => (ops.getD i default, T i)) st s1 → R X st a w → wpAny P .any ops Q fuel listed a w := by
  have hsome : ∀ {listed : Array Bool} {i}, i ∈ leftL ops listed → ops[i]? = some (ops.getD i default) ∧ listed.getD i true = false := by
    intro listed i hi
    simp only [leftL, List.mem_filter, List.mem_range, Bool.not_eq_true'] at hi
    exact ⟨by rw [Array.getD_eq_getD_getElem?, Array.getElem?_eq_getElem hi.1]; rfl, hi.2⟩
  intro fuel
  induction fuel with
  | zero =>
    intro listed st a w hs hl hN hcl hsuf hr hR
    have h0 : leftL ops listed = [] := List.eq_nil_of_length_eq_zero hl
    rw [h0] at hr hsuf
    have e1 : loF p [] = [] := rfl
    rw [e1] at hr
    simp only [List.map_nil, RunVX] at hr
    subst hr
    have hR2 := hsub a w hR
    refine any_runV hq hback hind hmeet hdis 0 listed s2 a w hs hl (NmOK.none hR2 fun c ⟨i, hi, _⟩ => by rw [h0] at hi; cases hi) hcl ?_ hR2
    rw [h0, show ([] : List Nat) = SUF from hsuf]
    exact hrun2
  | succ fuel ih =>
    intro listed st a w hs hl hN hcl hsuf hr hR
    by_cases hlo : loF p (leftL ops listed) = []
    · rw [hlo] at hr
      simp only [List.map_nil, RunVX] at hr
      subst hr
      have hall := hiF_all hlo
      rw [hsuf] at hall
      have hR2 := hsub a w hR
      refine any_runV hq hback hind hmeet hdis (fuel + 1) listed s2 a w hs hl (NmOK.none hR2 fun c ⟨i, hi, hb, _⟩ => ?_) hcl ?_ hR2
      · rw [← hall] at hi
        rw [hold i hi] at hb; cases hb
      · rw [← hall]; exact hrun2
    · refine ⟨fun h0 => ?_, fun i hi => ?_⟩
      · exfalso
        cases hL : leftL ops listed with
        | nil => rw [hL] at hl; simp at hl
        | cons k L =>
          have hk : k ∈ leftL ops listed := by rw [hL]; simp
          have : k ∈ Region.ready .any ops listed := by
            refine ready_iff.2 ⟨hk, fun o ho e he hbn => ?_⟩
            have hlt := hback k o ho e he hbn
            have hkk : k < ops.size := (Array.getElem?_eq_some_iff.1 ho).1
            cases hg : listed.getD e.on false with
            | true => rfl
            | false =>
              exfalso
              have hsz : e.on < listed.size := by omega
              have hmem : e.on ∈ leftL ops listed := by
                simp only [leftL, List.mem_filter, List.mem_range, Bool.not_eq_true']
                refine ⟨by omega, ?_⟩
                rw [Array.getD_eq_getD_getElem?, Array.getElem?_eq_getElem hsz] at hg ⊢
                exact hg
              have hsort := left_sorted ops listed
              rw [hL] at hsort hmem
              rcases List.mem_cons.1 hmem with h | h
              · omega
              · have := (List.pairwise_cons.1 hsort).1 _ h; omega
          rw [h0] at this; cases this
      · obtain ⟨hil, hip⟩ := ready_iff.1 hi
        obtain ⟨hoi, hli⟩ := hsome hil
        have notl : ∀ {k}, k ∈ leftL ops listed → Reach ops k i → False := fun {k} hkl h1 => by
          obtain ⟨_, hlk⟩ := hsome hkl
          have := reach_listed hcl h1 hip
          have hk2 : k < listed.size := by
            simp only [leftL, List.mem_filter, List.mem_range] at hkl; omega
          rw [Array.getD_eq_getD_getElem?, Array.getElem?_eq_getElem hk2] at this hlk
          simp at this hlk
          rw [hlk] at this; cases this
        have hi_lo : i < p := by
          refine Nat.lt_of_not_le fun hle => ?_
          cases hL : loF p (leftL ops listed) with
          | nil => exact hlo hL
          | cons k L =>
            have hk : k ∈ loF p (leftL ops listed) := by rw [hL]; simp
            simp only [loF, List.mem_filter, decide_eq_true_eq] at hk
            exact notl hk.1 (hbar k i _ _ (hsome hk.1).1 hoi hk.2 hle)
        obtain ⟨A, B, hAB, hA, hf⟩ := split_at (left_sorted ops listed) hil
        have hAp : ∀ k ∈ A, k < p := fun k hk => Nat.lt_trans (hA k hk) hi_lo
        have hloAB : loF p (leftL ops listed) = A ++ i :: loF p B := by
          rw [hAB]
          unfold loF
          rw [List.filter_append, List.filter_cons, if_pos (by simpa using hi_lo)]
          congr 1
          exact loF_all hAp
        rw [hloAB, List.map_append, List.map_cons] at hr
        have hbub := bubbleV (ops := ops) (A.map fun i => (ops.getD i default, T i)) st hr (fun x hx => by
          obtain ⟨k, hk, rfl⟩ := List.mem_map.1 hx
          have hkl : k ∈ leftL ops listed := by rw [hAB]; simp [hk]
          obtain ⟨hok, hlk⟩ := hsome hkl
          rcases hind k i _ _ hok hoi (hA k hk) with h1 | ⟨h1, h2⟩
          · exact (notl hkl h1).elim
          · exact ⟨h1, hmeet k i _ _ hok hoi (hA k hk) h2⟩)
        obtain ⟨st1, h1, h2⟩ := hbub
        have hilo : i ∈ loF p (leftL ops listed) := by rw [hloAB]; simp
        have hCi : (T i).nw = true → CL T (loF p (leftL ops listed)) (T i).c := fun hb => ⟨i, hilo, hb, rfl⟩
        have hlset : leftL ops (listed.setIfInBounds i true) = A ++ B := by rw [left_set hs hil, hf]
        have hloset : loF p (leftL ops (listed.setIfInBounds i true)) = A ++ loF p B := by
          rw [hlset]
          unfold loF
          rw [List.filter_append]
          congr 1
          exact loF_all hAp
        have hhiset : hiF p (leftL ops (listed.setIfInBounds i true)) = SUF := by
          rw [hlset, ← hsuf, hAB]
          unfold hiF
          rw [List.filter_append, List.filter_append, List.filter_cons, if_neg (by simp; omega)]
        have hsort := left_sorted ops listed
        rw [hAB] at hsort
        have hlomem : ∀ j ∈ A ++ loF p B, j ∈ loF p (leftL ops listed) ∧ j ≠ i := fun j hj => by
          rw [hloAB]
          rcases List.mem_append.1 hj with h | h
          · refine ⟨List.mem_append_left _ h, ?_⟩
            rintro rfl
            have := (List.pairwise_append.1 hsort).2.2 j h j (by simp); omega
          · refine ⟨List.mem_append_right _ (List.mem_cons_of_mem _ h), ?_⟩
            rintro rfl
            simp only [loF, List.mem_filter] at h
            have := (List.pairwise_cons.1 (List.pairwise_append.1 hsort).2.1).1 j h.1; omega
        have hN1 : NmOK L0 st1 (CL T (loF p (leftL ops (listed.setIfInBounds i true)))) := by
          refine (h1.nm hN hCi).mono fun c hc => ?_
          obtain ⟨j, hj, hb, rfl⟩ := hc
          rw [hloset] at hj
          obtain ⟨hjl, hne⟩ := hlomem j hj
          have hjl2 : j ∈ leftL ops listed := (List.mem_filter.1 hjl).1
          have hsj : j < ops.size := by simp only [leftL, List.mem_filter, List.mem_range] at hjl2; exact hjl2.1
          have hsi : i < ops.size := by simp only [leftL, List.mem_filter, List.mem_range] at hil; exact hil.1
          exact ⟨⟨j, hjl, hb, rfl⟩, fun hbi => hdis j i hsj hsi hne hb hbi⟩
        unfold wpOp
        rw [hoi]
        simp only []
        have hstep := stepV_ok (ops := ops) (Q := Q) (K := wpAny P .any ops Q fuel (listed.setIfInBounds i true)) h1 hN hCi hR (fun a' w' hR' => by
          refine ih (listed.setIfInBounds i true) st1 a' w' (by simpa using hs) ?_ hN1 ?_ hhiset ?_ hR'
          · rw [hlset]
            rw [hAB] at hl
            simp at hl ⊢; omega
          · intro j o hj hlj e he hbn
            have hset : ∀ q, listed.getD q false = true → (listed.setIfInBounds i true).getD q false = true := fun q hq => by
              by_cases hqi : q = i
              · subst hqi
                have hqs : q < listed.size := by
                  simp only [leftL, List.mem_filter, List.mem_range] at hil; omega
                rw [Array.getD_eq_getD_getElem?, Array.getElem?_setIfInBounds_self_of_lt hqs]; rfl
              · rw [Array.getD_eq_getD_getElem?, Array.getElem?_setIfInBounds_ne (by omega), ← Array.getD_eq_getD_getElem?]; exact hq
            by_cases hji : j = i
            · subst hji
              exact hset _ (hip o hj e he hbn)
            · rw [Array.getD_eq_getD_getElem?, Array.getElem?_setIfInBounds_ne (by omega), ← Array.getD_eq_getD_getElem?] at hlj
              exact hset _ (hcl j o hj hlj e he hbn)
          · rw [hloset, List.map_append]; exact h2)
        split
        · rename_i hw
          rw [if_pos hw] at hstep
          exact .inl hstep
        · rename_i hw
          rw [if_neg hw] at hstep
          exact hstep

/-- Steps of the two parts are never taken as apart. -/
def meetB (p : Nat) (ts : List TagU) (i : Nat) (_ : Oper) (j : Nat) (_ : Oper) : Bool := !(decide (i < p) && decide (p ≤ j)) && noMeetU (ts.getD i default) (ts.getD j default)
def okBar (L0 K p : Nat) (ops : Array Oper) (ts : List TagU) : Bool := decide (p ≤ ops.size) && drawOK ops (meetB p ts) && okNum L0 K ts && (ts.drop p).all fun t => !t.nw

theorem awp_drawB {X : Ctx} {Q : Exit → St → Prop} {st s1 s2 sf : St} {id : Nat} {ops : Array Oper} {K p : Nat} (ts : List TagU) (hm : P.follows .mixedOrders = true) (hb : okBar st.heap.length K p ops ts = true) (hlen : ts.length = ops.size)
    (h1 : RunVX P X.n st.heap.length ((ops.toList.take p).zip (ts.take p)) ⟨st.env, st.heap ++ List.replicate K .dead⟩ s1) (hs : Sub X s2 s1) (h2 : RunVX P X.n s2.heap.length ((ops.toList.drop p).zip (ts.drop p)) s2 sf) (hq : Q .normal sf) : AWP P X (.region id ops true) Q st := by
  intro a w hr
  refine wp_region_any hm ?_
  simp only [okBar, Bool.and_eq_true, decide_eq_true_eq] at hb
  obtain ⟨⟨⟨hp, hd⟩, hc⟩, hnw⟩ := hb
  obtain ⟨hback, hind⟩ := drawOK_spec hd
  have hall : leftL ops (Array.replicate ops.size false) = List.range ops.size := by
    unfold leftL
    refine List.filter_eq_self.2 fun i hi => ?_
    simp only [List.mem_range] at hi
    rw [Array.getD_eq_getD_getElem?]
    simp [hi]
  have hrange : List.range ops.size = List.range p ++ (List.range (ops.size - p)).map (p + ·) := by
    conv => lhs; rw [show ops.size = p + (ops.size - p) by omega, List.range_add]
  have hlo : loF p (List.range ops.size) = List.range p := by
    rw [hrange]
    unfold loF
    rw [List.filter_append, show ((List.range (ops.size - p)).map (p + ·)).filter (fun i => decide (i < p)) = [] from List.filter_eq_nil_iff.2 fun i hi => by
      obtain ⟨k, _, rfl⟩ := List.mem_map.1 hi
      simp, List.append_nil]
    exact loF_all fun i hi => by simpa using hi
  have hhi : hiF p (List.range ops.size) = (List.range (ops.size - p)).map (p + ·) := by
    rw [hrange]
    unfold hiF
    rw [List.filter_append, show (List.range p).filter (fun i => decide (p ≤ i)) = [] from hiF_none fun i hi => by simpa using hi, List.nil_append]
    exact List.filter_eq_self.2 fun i hi => by
      obtain ⟨k, _, rfl⟩ := List.mem_map.1 hi
      simp
  simp only [okNum, Bool.and_eq_true, List.all_eq_true, List.mem_range, Bool.or_eq_true, beq_iff_eq, Bool.not_eq_true', bne_iff_ne, decide_eq_true_eq] at hc
  obtain ⟨hc1, hc2⟩ := hc
  have hR := hr.drew
  obtain ⟨M, loc, hRR⟩ := hR
  have hA := hRR.aside K
  refine any_runB (T := fun i => ts.getD i default) (s1 := s1) (s2 := s2) (sf := sf) (p := p) (L0 := st.heap.length) (meet := meetB p ts) (SUF := (List.range (ops.size - p)).map (p + ·)) (fun a' w' hr' => ⟨sf, hq, hr'⟩) hback hind (fun i j oi oj hi hj _ hmt => ?_) (fun i j oi oj hi hj hip hpj => ?_) (fun i j hi hj hij h1 h2 => ?_) (fun i hi => ?_) hs ?_ ops.size _ ⟨st.env, st.heap ++ List.replicate K .dead⟩ a _ (by simp) ?_ ?_ ?_ ?_ ?_ ⟨M, _, hA⟩
  · unfold meetB at hmt
    rw [Bool.and_eq_true] at hmt
    exact hmt.2
  · rcases hind i j oi oj hi hj (by omega) with h | ⟨_, h⟩
    · exact h
    · unfold meetB at h
      simp [hip, hpj] at h
  · rcases hc1 i (by omega) j (by omega) with ((h | h) | h) | h
    · exact absurd h hij
    · rw [h1] at h; cases h
    · rw [h2] at h; cases h
    · exact h
  · obtain ⟨k, hk, rfl⟩ := List.mem_map.1 hi
    simp only [List.mem_range] at hk
    have hk2 : p + k < ts.length := by omega
    have := List.all_eq_true.1 hnw ts[p + k] (List.mem_iff_getElem.2 ⟨k, by rw [List.length_drop]; omega, by rw [List.getElem_drop]⟩)
    simp only [List.getD_eq_getElem?_getD, List.getElem?_eq_getElem hk2, Option.getD_some]
    simpa using this
  · have : (((List.range (ops.size - p)).map (p + ·)).map fun i => (ops.getD i default, ts.getD i default)) = (ops.toList.drop p).zip (ts.drop p) := by
      apply List.ext_getElem?
      intro k
      by_cases hk : p + k < ops.size
      · have hkt : p + k < ts.length := by rw [hlen]; exact hk
        have hk3 : k < ops.size - p := by omega
        simp [List.getElem?_range hk3, List.getElem?_zip_eq_some, hk, hkt, Array.getD_eq_getD_getElem?, List.getD_eq_getElem?_getD, List.getElem?_zipWith, List.zip, hk3]
      · have hkt : ¬ p + k < ts.length := by rw [hlen]; exact hk
        have hk3 : ¬ k < ops.size - p := by omega
        simp [hk, List.zip, List.getElem?_zipWith, hk3]
    rw [this]; exact h2
  · rw [hall]; simp
  · rw [hall, hlo]
    have hCl : ∀ c, CL (fun i => ts.getD i default) (List.range p) c → st.heap.length ≤ c ∧ c < st.heap.length + K := fun c ⟨i, hi, hb, e⟩ => by
      have hi2 : i < ts.length := by rw [List.mem_range] at hi; omega
      have hmem : ts.getD i default ∈ ts := by rw [List.getD_eq_getElem?_getD, List.getElem?_eq_getElem hi2]; exact List.getElem_mem hi2
      rcases hc2 _ hmem with h | h
      · rw [h] at hb; cases hb
      · rw [← e]; exact h
    refine ⟨fun s id hid => ?_, fun i o ho e he id hid => ?_, fun c hc => ?_, fun c hc => (hCl c hc).1, by simp⟩
    · have := (idLt_iff _ _).1 (hRR.ids s) id hid
      exact ⟨by simp; omega, fun e => by have := (hCl _ e).1; omega⟩
    · have hil : i < st.heap.length := by
        refine Nat.lt_of_not_le fun hle => ?_
        have ho2 := ho
        simp only [] at ho2
        rw [List.getElem?_append_right hle, List.getElem?_replicate] at ho2
        split at ho2 <;> cases ho2
      have ho2 : st.heap[i]? = some (.row o) := by
        have := ho
        simp only [] at this
        rwa [List.getElem?_append_left hil] at this
      obtain ⟨xs, _, g2⟩ := (hRR.obj i o ho2).own
      obtain ⟨j, hj, rfl⟩ := List.getElem_of_mem he
      obtain ⟨x, _, hx⟩ := g2 j _ (List.getElem?_eq_getElem hj)
      have := (idLt_iff _ _).1 hx.2.1 id hid
      exact ⟨by simp; omega, fun e => by have := (hCl _ e).1; omega⟩
    · obtain ⟨h1, h2⟩ := hCl c hc
      show (st.heap ++ List.replicate K Cell.dead)[c]? = some .dead
      rw [List.getElem?_append_right h1, List.getElem?_replicate, if_pos (by omega)]
  · intro j o hj hl
    rw [Array.getD_eq_getD_getElem?] at hl
    simp [Array.getElem?_replicate] at hl
    split at hl <;> simp at hl
  · rw [hall, hhi]
  · rw [hall, hlo]
    have : ((List.range p).map fun i => (ops.getD i default, ts.getD i default)) = (ops.toList.take p).zip (ts.take p) := by
      apply List.ext_getElem?
      intro k
      by_cases hk : k < p
      · have hkt : k < ts.length := by rw [hlen]; omega
        have hko : k < ops.size := by omega
        simp [List.getElem?_range hk, List.getElem?_zip_eq_some, hk, hkt, hko, Array.getD_eq_getD_getElem?, List.getD_eq_getElem?_getD, List.getElem?_zipWith, List.zip, List.getElem?_take]
      · simp [hk, List.zip, List.getElem?_zipWith, List.getElem?_take]
    rw [this]; exact h1

/-- Between the parts: the state is put in other words. -/
def BarK (P : Program) (X : Ctx) (N : Nat) (rest : List Oper) (K : St → List TagU → Prop) (s : St) (ts : List TagU) : Prop := ∃ s2 : St, Sub X s2 s ∧ runV P N s2.heap.length rest true 0 ts K s2
theorem BarK_congr {P : Program} {X : Ctx} {N : Nat} {rest : List Oper} {K : St → List TagU → Prop} {s s' : St} {ts ts' : List TagU} (h : s = s') (ht : ts = ts') : BarK P X N rest K s ts = BarK P X N rest K s' ts' := by rw [h, ht]
attribute [congr] BarK_congr

theorem awp_drawBG {X : Ctx} {N : Nat} {Q : Exit → St → Prop} {st : St} {id : Nat} {ops : Array Oper} (G : List Nat) (K p : Nat) (hX : X.n = N) (hm : P.follows .mixedOrders = true)
    (h : runV P N st.heap.length (ops.toList.take p) true 0 [] (BarK P X N (ops.toList.drop p) (fun s ts => okBar st.heap.length K p ops ts = true ∧ Q .normal (prune G s))) ⟨st.env, st.heap ++ List.replicate K .dead⟩) : AWP P X (.region id ops true) Q st := by
  obtain ⟨ts1, s1, h0, h1, s2, hs, h2⟩ := runV_ok (ops.toList.take p) 0 [] _ h
  rw [List.nil_append] at h2
  obtain ⟨ts2, sf, g0, g1, g2, g3⟩ := runV_ok (ops.toList.drop p) 0 ts1 _ h2
  have hp : p ≤ ops.size := by
    simp only [okBar, Bool.and_eq_true, decide_eq_true_eq] at g2
    exact g2.1.1.1
  have hl1 : ts1.length = p := by rw [h0, List.length_take]; simp; omega
  intro a w hr
  refine wp_mono (awp_drawB (P := P) (K := K) (p := p) (s1 := s1) (s2 := s2) (sf := sf) (Q := fun e s => e = .normal ∧ s = sf) (ts1 ++ ts2) hm g2 (by rw [List.length_append, hl1, g0, List.length_drop]; simp; omega) ?_ hs ?_ ⟨rfl, rfl⟩ a w hr) fun e a' w' hh => ?_
  · rw [hX, ← hl1, List.take_left]; rw [hl1]; exact h1
  · rw [hX, ← hl1, List.drop_left]; rw [hl1]; exact g1
  · obtain ⟨s, ⟨rfl, rfl⟩, hr'⟩ := hh
    exact ⟨_, g3, prune_sub G a' w' hr'⟩
end
attribute [go_sem] runV okId
end Go.Ab
