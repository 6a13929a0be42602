/-
  A call of a function whose contract speaks of rows: what it leaves.
-/
import Derived.Test.YtgkafceckdoabaaDoorAbsHeap2
set_option linter.all false
namespace Go.Ab
open Go.RowKit

section
variable {P : Program} {w w' : World} {M : Nat → Prop} {loc : Nat → Value}

theorem upN_in {ps : List Nat} {n i p : Nat} (h : ps[i]? = some p) : upN ps n i = p := by
  have hi := (List.getElem?_eq_some_iff.1 h).1
  unfold upN
  rw [if_pos hi, List.getD_eq_getElem?_getD, h]; rfl
theorem upN_out {ps : List Nat} {n i : Nat} (h : ps.length ≤ i) : upN ps n i = n + (i - ps.length) := by
  unfold upN; rw [if_neg (by omega)]

theorem after_get {Hc : List Cell} {ps : List Nat} {H' : List Cell} (hnd : ps.Nodup) (hlt : ∀ c ∈ ps, c < Hc.length) (hlen : ps.length ≤ H'.length) {k : Nat} {c : Cell} (hk : H'[k]? = some c) :
    (heapAfter Hc ps H')[upN ps Hc.length k]? = some (renCell (upN ps Hc.length) c) := by
  unfold heapAfter
  by_cases h : k < ps.length
  · have hp : ps[k]? = some ps[k] := List.getElem?_eq_getElem h
    have hpl := hlt ps[k] (List.getElem_mem h)
    rw [upN_in hp, List.getElem?_append_left (by rw [setAll_len]; exact hpl)]
    exact setAll_in _ _ _ k _ _ hnd hp (by rw [List.getElem?_map, hk]; rfl) hpl
  · rw [upN_out (by omega), List.getElem?_append_right (by rw [setAll_len]; omega), setAll_len, List.getElem?_map, List.getElem?_drop]
    have : ps.length + (Hc.length + (k - ps.length) - Hc.length) = k := by omega
    rw [this, hk]; rfl
theorem after_inv {Hc : List Cell} {ps : List Nat} {H' : List Cell} (hnd : ps.Nodup) (hlt : ∀ c ∈ ps, c < Hc.length) (hlen : ps.length ≤ H'.length) {id : Nat} {c : Cell} (h : (heapAfter Hc ps H')[id]? = some c) :
    (∃ k c0, id = upN ps Hc.length k ∧ H'[k]? = some c0 ∧ c = renCell (upN ps Hc.length) c0) ∨ (id < Hc.length ∧ id ∉ ps ∧ Hc[id]? = some c) := by
  by_cases hp : id ∈ ps
  · left
    obtain ⟨k, hk, rfl⟩ := List.getElem_of_mem hp
    have hk' : k < H'.length := by omega
    have := after_get hnd hlt hlen (List.getElem?_eq_getElem hk')
    rw [upN_in (List.getElem?_eq_getElem hk)] at this
    rw [this] at h
    exact ⟨k, _, (upN_in (List.getElem?_eq_getElem hk)).symm, List.getElem?_eq_getElem hk', (Option.some.inj h).symm⟩
  · by_cases hid : id < Hc.length
    · right
      refine ⟨hid, hp, ?_⟩
      unfold heapAfter at h
      rw [List.getElem?_append_left (by rw [setAll_len]; exact hid), setAll_out _ _ _ _ hp] at h
      exact h
    · left
      have h0 := h
      unfold heapAfter at h
      rw [List.getElem?_append_right (by rw [setAll_len]; omega), setAll_len, List.getElem?_map, List.getElem?_drop, Option.map_eq_some_iff] at h
      obtain ⟨c0, h1, h2⟩ := h
      refine ⟨ps.length + (id - Hc.length), c0, ?_, h1, h2.symm⟩
      rw [upN_out (by omega)]; omega
theorem after_len (Hc : List Cell) (ps : List Nat) (H' : List Cell) : (heapAfter Hc ps H').length = Hc.length + (H'.length - ps.length) := by
  unfold heapAfter; simp [setAll_len]
theorem upN_lt {Hc : List Cell} {ps : List Nat} {H' : List Cell} (hlt : ∀ c ∈ ps, c < Hc.length) (hlen : ps.length ≤ H'.length) {k : Nat} (hk : k < H'.length) : upN ps Hc.length k < (heapAfter Hc ps H').length := by
  rw [after_len]
  by_cases h : k < ps.length
  · rw [upN_in (List.getElem?_eq_getElem h)]
    have := hlt _ (List.getElem_mem h)
    omega
  · rw [upN_out (by omega)]; omega
theorem upN_inj {ps : List Nat} {n : Nat} (hnd : ps.Nodup) (hlt : ∀ c ∈ ps, c < n) {i j : Nat} (h : upN ps n i = upN ps n j) : i = j := by
  by_cases hi : i < ps.length <;> by_cases hj : j < ps.length
  · rw [upN_in (List.getElem?_eq_getElem hi), upN_in (List.getElem?_eq_getElem hj)] at h
    exact (List.getElem_inj hnd).1 h
  · rw [upN_in (List.getElem?_eq_getElem hi), upN_out (by omega)] at h
    have := hlt _ (List.getElem_mem hi); omega
  · rw [upN_out (by omega), upN_in (List.getElem?_eq_getElem hj)] at h
    have := hlt _ (List.getElem_mem hj); omega
  · rw [upN_out (by omega), upN_out (by omega)] at h; omega

theorem ObjOK.frame {own own' : Nat → Prop} {M' : Nat → Prop} {loc' : Nat → Value} {n n' : Nat} {sv : Value} {o : Ob} (h : ObjOK own w M loc n sv o) (hs : ∀ g, sv.ownBlock = some g → w'.heap[g]? = w.heap[g]?) (hb : ∀ b, M b → w'.heap[b]? = w.heap[b]?) (hM : ∀ b, M b → M' b)
    (hl : ∀ id, id < n → loc' id = loc id) (hn : n ≤ n') (ha : ∀ g, sv.ownBlock = some g → ¬ M' g) (ho : ∀ b, own b → own' b) : ObjOK own' w' M' loc' n' sv o := by
  obtain ⟨xs, hown, h2⟩ := h.own
  refine ⟨⟨xs, ⟨hown.1, ?_⟩, fun j e he => ?_⟩, h.flat, ha, fun g hg => ho g (h.mine g hg)⟩
  · rcases hown.2 with h1 | ⟨g, cap, cur, hn, hbg, hheap, hr⟩
    · exact .inl h1
    · exact .inr ⟨g, cap, cur, hn, hbg, by rw [hs g (by rw [hn]; rfl)]; exact hheap, hr⟩
  · obtain ⟨x, hx, hr⟩ := h2 j e he
    exact ⟨x, hx, hr.mono hb hM hl hn⟩

/-- A CALL OVER ROWS. -/
theorem callH_ok {X : Ctx} {st : St} {a : Act} (h : RR X M loc st a w) {f : FuncId} {H : List Cell} {args : List AV} {r : AV} {H' : List Cell} (hm : MeansH P f H args r H') (ps : List Nat) (hnd : ps.Nodup) (hlen : H.length = ps.length) (hlt : ∀ c ∈ ps, c < st.heap.length)
    (hcell : ∀ i, i < ps.length → st.heap[upN ps st.heap.length i]? = H[i]?.map (renCell (upN ps st.heap.length))) (hids : okIds H.length H)
    {vs : Array Value} (hvs : vs.size = args.length) (hargs : ∀ (j : Nat) (x : Value) (e : AV), vs[j]? = some x → args[j]? = some e → Rep w M loc x (ren (upN ps st.heap.length) e) ∧ e.idLt H.length) :
    Calls P f vs w fun e w' => ∃ x M' loc', e = .returned x ∧ RR X M' loc' ⟨st.env, heapAfter st.heap ps H'⟩ a w' ∧ Rep w' M' loc' x (ren (upN ps st.heap.length) r) ∧ (ren (upN ps st.heap.length) r).idLt (heapAfter st.heap ps H').length := by
  let u := upN ps st.heap.length
  let locL : Nat → Value := fun i => loc (u i)
  have hulN : ∀ i, i < ps.length → u i < st.heap.length := fun i hi => by
    show upN ps st.heap.length i < _
    rw [upN_in (List.getElem?_eq_getElem hi)]; exact hlt _ (List.getElem_mem hi)
  have hup : ∀ i (c : Cell), H[i]? = some c → st.heap[u i]? = some (renCell u c) := fun i c hc => by
    have hi := (List.getElem?_eq_some_iff.1 hc).1
    rw [hcell i (by omega), hc]; rfl
  have hrow : ∀ i o, H[i]? = some (.row o) → st.heap[u i]? = some (.row ⟨o.E, o.k, renEs u o.es⟩) := fun i o hc => hup i _ hc
  have hmap : ∀ i m, H[i]? = some (.map m) → st.heap[u i]? = some (.map m) := fun i m hc => hup i _ hc
  have hblk : ∀ b, blks H locL b → X.own b ∧ b < w.heap.size ∧ ¬ M b := by
    rintro b (⟨i, o, hi, hb⟩ | ⟨i, m, hi, hb⟩)
    · have hob := h.obj _ _ (hrow i o hi)
      obtain ⟨xs, hown, _⟩ := hob.own
      exact ⟨hob.mine b hb, (hown.lt b hb).2, hob.away b hb⟩
    · obtain ⟨g, es, c, h1, h2, h3, h4, _⟩ := (h.mobj _ _ (hmap i m hi)).own
      have hb' : loc (u i) = .map (some b) := hb
      rw [hb'] at h1
      cases h1
      exact ⟨h2, (Array.getElem?_eq_some_iff.1 h4).1, h3⟩
  have hHS : HeapS (blks H locL) M locL H w := by
    refine ⟨fun i o hi => ?_, fun i j oi oj hij hi hj => ?_, fun i m hi => ?_, fun i j mi mj hij hi hj => ?_, fun i hi => h.one _ (hulN i (by omega))⟩
    · have hob := h.obj _ _ (hrow i o hi)
      obtain ⟨xs, hown, hr⟩ := hob.own
      refine ⟨⟨xs, by rw [renEs_len] at hown; exact hown, fun j e he => ?_⟩, renEs_k.1 hob.flat, hob.away, fun g hg => .inl ⟨i, o, hi, hg⟩⟩
      have he' : ((renEs u o.es).flatMap AV.flat)[j]? = some (renB u e) := by rw [renEs_flat, List.getElem?_map, he]; rfl
      obtain ⟨x, hx, hrc⟩ := hr j _ he'
      exact ⟨x, hx, hrc.down (fun _ _ => rfl) (hids i o hi e (List.mem_of_getElem? he)) (by have := hrc.2.2; cases e <;> first | rfl | exact this | cases this)⟩
    · have hne : u i ≠ u j := fun e => hij (upN_inj hnd hlt e)
      exact h.sep _ _ _ _ hne (hrow i oi hi) (hrow j oj hj)
    · have hmo := h.mobj _ _ (hmap i m hi)
      obtain ⟨g, es, c, h1, h2, h3⟩ := hmo.own
      exact ⟨g, es, c, h1, .inr ⟨i, m, hi, h1⟩, h3⟩
    · have hne : u i ≠ u j := fun e => hij (upN_inj hnd hlt e)
      exact h.msep _ _ _ _ hne (hmap i mi hi) (hmap j mj hj)
  refine (hm w M locL vs (fun b hb => (h.zone b hb).1) (h.globW fun _ hb => hb) hHS hvs (fun j x e hx he => ?_)).mono fun e w' hh => ?_
  · obtain ⟨h1, h2⟩ := hargs j x e hx he
    exact ⟨(Rep.up (n := H.length) (u := u) (fun _ _ => rfl) h2).2 h1, h2⟩
  obtain ⟨x, M', loc', rfl, hS', hbel, hMM, hzone, hloc, hr, hrl, hlen'⟩ := hh
  have hps : ps.length ≤ H'.length := by omega
  let locU : Nat → Value := fun id => if id < st.heap.length then loc id else loc' (ps.length + (id - st.heap.length))
  have hlU : ∀ k, k < H'.length → locU (u k) = loc' k := by
    intro k hk
    by_cases hkp : k < ps.length
    · have := hulN k hkp
      simp only [locU, if_pos this]
      exact (hloc k (by omega)).symm
    · have e1 : u k = st.heap.length + (k - ps.length) := upN_out (by omega)
      simp only [locU]
      rw [if_neg (by omega), e1]
      congr 1; omega
  have hlO : ∀ id, id < st.heap.length → locU id = loc id := fun id hid => if_pos hid
  have hbk : ∀ b, M b → w'.heap[b]? = w.heap[b]? := fun b hb => hbel.block b (h.zone b hb).1 (fun hk => (hblk b hk).2.2 hb)
  have hlt' : st.heap.length ≤ (heapAfter st.heap ps H').length := by rw [after_len]; omega
  have hu' : ∀ k, k < H'.length → u k < (heapAfter st.heap ps H').length := fun k hk => upN_lt hlt hps hk
  have hown' : ∀ b, w.heap.size ≤ b ∨ blks H locL b → X.own b := fun b hb => hb.elim (fun hb => .inl (Nat.le_trans h.below.size hb)) (fun hb => (hblk b hb).1)
  -- rows that are not handed over
  have hfr : ∀ id o, id ∉ ps → st.heap[id]? = some (.row o) → ∀ g, (loc id).ownBlock = some g → g < w.heap.size ∧ ¬ blks H locL g := by
    intro id o hid ho g hg
    have hob := h.obj id o ho
    obtain ⟨xs, hown, _⟩ := hob.own
    refine ⟨(hown.lt g hg).2, ?_⟩
    rintro (⟨i, oi, hi, hb⟩ | ⟨i, m, hi, hb⟩)
    · have hip : i < ps.length := by have := (List.getElem?_eq_some_iff.1 hi).1; omega
      have hne : id ≠ u i := by
        rintro rfl
        exact hid (by rw [show u i = ps[i] from upN_in (List.getElem?_eq_getElem hip)]; exact List.getElem_mem hip)
      rcases h.sep id (u i) _ _ hne ho (hrow i oi hi) with h1 | h1
      · rw [hg] at h1; cases h1
      · exact h1 (by rw [hg]; exact hb.symm)
    · obtain ⟨g2, es, c, h1, h2, h3, h4, _⟩ := (h.mobj _ _ (hmap i m hi)).own
      have hb' : loc (u i) = .map (some g) := hb
      rw [hb'] at h1
      cases h1
      obtain ⟨cs, t, fr, hcells⟩ := ownsRow_cells hown g hg
      rw [h4] at hcells; cases hcells
  have hfm : ∀ id m, id ∉ ps → st.heap[id]? = some (.map m) → ∀ g, loc id = .map (some g) → g < w.heap.size ∧ ¬ blks H locL g := by
    intro id m hid ho g hg
    obtain ⟨g2, es, c, h1, h2, h3, h4, _⟩ := (h.mobj id m ho).own
    rw [hg] at h1
    cases h1
    refine ⟨(Array.getElem?_eq_some_iff.1 h4).1, ?_⟩
    rintro (⟨i, oi, hi, hb⟩ | ⟨i, m2, hi, hb⟩)
    · have hob := h.obj _ _ (hrow i oi hi)
      obtain ⟨xs, hown, _⟩ := hob.own
      obtain ⟨cs, t, fr, hcells⟩ := ownsRow_cells hown g hb
      rw [h4] at hcells; cases hcells
    · have hip : i < ps.length := by have := (List.getElem?_eq_some_iff.1 hi).1; omega
      have hne : id ≠ u i := by
        rintro rfl
        exact hid (by rw [show u i = ps[i] from upN_in (List.getElem?_eq_getElem hip)]; exact List.getElem_mem hip)
      exact h.msep id (u i) _ _ hne ho (hmap i m2 hi) (by rw [hg]; exact hb.symm)
  have hnotM : ∀ g, g < w.heap.size → ¬ blks H locL g → ¬ M g → ¬ M' g := by
    intro g h1 h2 h3 h4
    rcases (hzone g h4).2 with h5 | h5 | h5
    · exact h3 h5
    · omega
    · exact h2 h5
  -- a row or a map behind the call
  have inv : ∀ id o, (heapAfter st.heap ps H')[id]? = some (.row o) → (∃ k o0, k < H'.length ∧ id = u k ∧ H'[k]? = some (.row o0) ∧ o = ⟨o0.E, o0.k, renEs u o0.es⟩) ∨ (id < st.heap.length ∧ id ∉ ps ∧ st.heap[id]? = some (.row o)) := by
    intro id o ho
    rcases after_inv hnd hlt hps ho with ⟨k, c0, h1, h2, h3⟩ | h1
    · left
      cases c0 with
      | row o0 => simp only [renCell, Cell.row.injEq] at h3; exact ⟨k, o0, (List.getElem?_eq_some_iff.1 h2).1, h1, h2, h3⟩
      | dead => cases h3
      | map m => cases h3
    · exact .inr h1
  have invm : ∀ id m, (heapAfter st.heap ps H')[id]? = some (.map m) → (∃ k, k < H'.length ∧ id = u k ∧ H'[k]? = some (.map m)) ∨ (id < st.heap.length ∧ id ∉ ps ∧ st.heap[id]? = some (.map m)) := by
    intro id o ho
    rcases after_inv hnd hlt hps ho with ⟨k, c0, h1, h2, h3⟩ | h1
    · left
      cases c0 with
      | row o0 => cases h3
      | dead => cases h3
      | map m => simp only [renCell, Cell.map.injEq] at h3; subst h3; exact ⟨k, (List.getElem?_eq_some_iff.1 h2).1, h1, h2⟩
    · exact .inr h1
  -- a block behind the call that the callee may have touched, and one that it has not
  have apart : ∀ k o0 g, H'[k]? = some (.row o0) → (loc' k).ownBlock = some g → w.heap.size ≤ g ∨ blks H locL g := fun k o0 g hk hg => (hS'.obj k o0 hk).mine g hg
  refine ⟨x, M', locU, rfl, ?_, (Rep.up hlU hrl).1 hr, ren_lt hu' hrl⟩
  refine ⟨fun s => Rep.mono (n := st.heap.length) hbk hMM hlO (h.env s) (h.ids s), h.nle, h.size, h.defers, fun id o ho => ?_, fun i j oi oj hij hi hj => ?_, fun id m hm' => ?_, fun i j mi mj hij hi hj => ?_, ?_, fun b hb => ?_, fun b hb => hMM b (h.zin b hb), h.zlt, fun id hid => ?_, fun s => AV.idLt_up hlt' (h.ids s)⟩
  · rcases inv id o ho with ⟨k, o0, hk, rfl, h2, rfl⟩ | ⟨h1, h2, h3⟩
    · have hob := hS'.obj k o0 h2
      show ObjOK X.own w' M' locU (heapAfter st.heap ps H').length (locU (u k)) _
      rw [hlU k hk]
      obtain ⟨xs, hown, hrc⟩ := hob.own
      refine ⟨⟨xs, by rw [renEs_len]; exact hown, fun j e he => ?_⟩, renEs_k.2 hob.flat, hob.away, fun g hg => hown' g (hob.mine g hg)⟩
      simp only [renEs_flat, List.getElem?_map, Option.map_eq_some_iff] at he
      obtain ⟨d, hd, rfl⟩ := he
      obtain ⟨y, hy, hyr⟩ := hrc j d hd
      exact ⟨y, hy, hyr.up hlU hu'⟩
    · show ObjOK X.own w' M' locU (heapAfter st.heap ps H').length (locU id) o
      rw [hlO id h1]
      have hf := hfr id o h2 h3
      have hob := h.obj id o h3
      exact hob.frame (fun g hg => hbel.block g (hf g hg).1 (hf g hg).2) hbk hMM hlO hlt' (fun g hg => hnotM g (hf g hg).1 (hf g hg).2 (hob.away g hg)) (fun _ hb => hb)
  · show (locU i).ownBlock = none ∨ (locU i).ownBlock ≠ (locU j).ownBlock
    rcases inv i oi hi with ⟨k, o0, hk, rfl, h2, rfl⟩ | ⟨h1, h2, h3⟩
    · rw [hlU k hk]
      rcases inv j oj hj with ⟨q, o1, hq, rfl, g2, rfl⟩ | ⟨g1, g2, g3⟩
      · rw [hlU q hq]
        exact hS'.sep k q _ _ (fun e => hij (by rw [e])) h2 g2
      · rw [hlO j g1]
        cases hb : (loc' k).ownBlock with
        | none => exact .inl rfl
        | some b =>
          right
          intro e
          have hf := hfr j oj g2 g3 b e.symm
          rcases apart k o0 b h2 hb with h5 | h5
          · omega
          · exact hf.2 h5
    · rw [hlO i h1]
      rcases inv j oj hj with ⟨q, o1, hq, rfl, g2, rfl⟩ | ⟨g1, g2, g3⟩
      · rw [hlU q hq]
        cases hb : (loc i).ownBlock with
        | none => exact .inl rfl
        | some b =>
          right
          intro e
          have hf := hfr i oi h2 h3 b hb
          rcases apart q o1 b g2 e.symm with h5 | h5
          · omega
          · exact hf.2 h5
      · rw [hlO j g1]
        exact h.sep i j _ _ hij h3 g3
  · show MapOK X.own w' M' (locU id) m
    rcases invm id m hm' with ⟨k, hk, rfl, h2⟩ | ⟨h1, h2, h3⟩
    · rw [hlU k hk]
      exact (hS'.mobj k m h2).imp hown'
    · rw [hlO id h1]
      obtain ⟨g, es, c, q1, q2, q3, q4, q5⟩ := (h.mobj id m h3).own
      have hf := hfm id m h2 h3 g q1
      exact ⟨g, es, c, q1, q2, hnotM g hf.1 hf.2 q3, by rw [hbel.block g hf.1 hf.2]; exact q4, q5.mono hbk hMM⟩
  · show locU i ≠ locU j
    rcases invm i mi hi with ⟨k, hk, rfl, h2⟩ | ⟨h1, h2, h3⟩
    · rw [hlU k hk]
      rcases invm j mj hj with ⟨q, hq, rfl, g2⟩ | ⟨g1, g2, g3⟩
      · rw [hlU q hq]
        exact hS'.msep k q _ _ (fun e => hij (by rw [e])) h2 g2
      · rw [hlO j g1]
        intro e
        obtain ⟨g, es, c, q1, q2, _⟩ := (hS'.mobj k mi h2).own
        have hf := hfm j mj g2 g3 g (by rw [← e]; exact q1)
        rcases q2 with q2 | q2
        · omega
        · exact hf.2 q2
    · rw [hlO i h1]
      rcases invm j mj hj with ⟨q, hq, rfl, g2⟩ | ⟨g1, g2, g3⟩
      · rw [hlU q hq]
        intro e
        obtain ⟨g, es, c, q1, q2, _⟩ := (hS'.mobj q mj g2).own
        have hf := hfm i mi h2 h3 g (by rw [e]; exact q1)
        rcases q2 with q2 | q2
        · omega
        · exact hf.2 q2
      · rw [hlO j g1]
        exact h.msep i j _ _ hij h3 g3
  · exact ⟨hbel.os.trans h.below.os, hbel.tape.trans h.below.tape, hbel.output.trans h.below.output, Nat.le_trans h.below.size hbel.size, fun k hk hT => by
      rw [hbel.block k (Nat.lt_of_lt_of_le hk h.below.size) (fun hb => by
        rcases (hblk k hb).1 with h1 | h1
        · omega
        · exact hT h1)]
      exact h.below.block k hk hT⟩
  · refine ⟨(hzone b hb).1, ?_⟩
    rcases (hzone b hb).2 with h1 | h1
    · exact (h.zone b h1).2
    · exact .inr (hown' b h1)
  · show (locU id).oneCell' = true
    by_cases hi : id < st.heap.length
    · rw [hlO id hi]; exact h.one id hi
    · have hid' : id < st.heap.length + (H'.length - ps.length) := by rw [← after_len]; exact hid
      simp only [locU, if_neg hi]
      exact hS'.one _ (by omega)

end
end Go.Ab
