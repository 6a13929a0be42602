/-
  The operations that make or write memory of the call's own: what the abstract state says behind them holds.
-/
import Derived.Test.YtgkafceckdoabaaDoorAbsEff2
set_option linter.all false
namespace Go.Ab
open Go.RowKit

section
variable {P : Program} {w w' : World} {M : Nat → Prop} {loc : Nat → Value}

theorem plain_flat_one {n : AV} (h : n.plain = true) {j : Nat} {e : AV} (he : n.flat[j]? = some e) : e.one = true := by
  cases n with
  | agg cs => simp only [AV.plain, List.all_eq_true] at h; exact h e (List.mem_of_getElem? he)
  | _ =>
    simp only [AV.flat] at he
    cases j with
    | zero => simp at he; subst he; exact h
    | succ j => simp at he

theorem news_one {news : List AV} (hp : ∀ n ∈ news, n.plain = true) {j : Nat} {e : AV} (he : (news.flatMap AV.flat)[j]? = some e) : e.one = true := by
  have hm := List.mem_of_getElem? he
  obtain ⟨n, hn, he'⟩ := List.mem_flatMap.1 hm
  obtain ⟨i, hi, rfl⟩ := List.getElem_of_mem he'
  exact plain_flat_one (hp n hn) (List.getElem?_eq_getElem hi)

theorem srcA_ok {X : Ctx} {st : St} {a : Act} (h : RR X M loc st a w) {x : AV} {v : Value} (hv : Rep w M loc v x) {q : Prop} {news : List AV} (hs : srcA st.heap x = some (q, news)) (hq : q) {k : Nat} (hk : ∀ n ∈ news, n.plain = true ∧ n.flat.length = k) :
    ∃ A c cs, v = .slice A news.length c ∧ cs.length = news.length * k ∧ (A = none → news.length = 0) ∧ (∀ ad, A = some ad → ∀ (j : Nat) (u : Value), cs[j]? = some u → w.cell? (ad.add j) = some u) ∧ RepL (RepC w M loc st.heap.length) cs (news.flatMap AV.flat) := by
  have hk' := fun n hn => (hk n hn).2
  unfold srcA at hs
  split at hs
  · rename_i es
    simp only [Option.some.injEq, Prod.mk.injEq] at hs
    obtain ⟨rfl, rfl⟩ := hs
    obtain ⟨A, cap, k', f, rfl, hk'', hA, hc, hr, hcap, hmax⟩ := hv.sl_inv
    by_cases hne : es = []
    · subst hne
      exact ⟨A, cap, [], rfl, by simp, fun _ => rfl, by simp, by simp [RepL]⟩
    · obtain ⟨ad, rfl, hM⟩ := hA hne
      have hkk : k' = k := by
        cases es with
        | nil => exact (hne rfl).elim
        | cons e es => rw [← hk' e (by simp), hk'' e (by simp)]
      subst hkk
      refine ⟨some ad, cap, (List.range (es.length * k')).map f, rfl, by simp, (fun h => by cases h), fun ad' had j u hu => ?_, by simp [flat_length hk'], fun j c e hc' he => ?_⟩
      · cases had
        simp only [List.getElem?_map, Option.map_eq_some_iff] at hu
        obtain ⟨i, hi, rfl⟩ := hu
        have hj := (List.getElem?_eq_some_iff.1 hi).1
        simp only [List.length_range] at hj
        simp only [List.getElem?_range hj, Option.some.injEq] at hi
        subst hi
        exact hc ad rfl j hj
      · simp only [List.getElem?_map, Option.map_eq_some_iff] at hc'
        obtain ⟨i, hi, rfl⟩ := hc'
        have hj := (List.getElem?_eq_some_iff.1 hi).1
        simp only [List.length_range] at hj
        simp only [List.getElem?_range hj, Option.some.injEq] at hi
        subst hi
        exact (hr j e he).repC (news_one (fun n hn => (hk n hn).1) he) _
  · simp only [Option.some.injEq, Prod.mk.injEq] at hs
    obtain ⟨rfl, rfl⟩ := hs
    obtain rfl := hv.nil_inv
    exact ⟨none, 0, [], rfl, by simp, fun _ => rfl, by simp, by simp [RepL]⟩
  · rename_i id
    split at hs
    · rename_i o ho
      simp only [Option.some.injEq, Prod.mk.injEq] at hs
      obtain ⟨rfl, rfl⟩ := hs
      have hob := h.obj id o ho
      obtain ⟨xs, hown, hrep⟩ := hob.own
      have hv' : v = loc id := hv
      by_cases hne : o.es = []
      · rcases hown.2 with ⟨hn, h0⟩ | ⟨g, cap, cur, hn, _⟩
        · exact ⟨none, 0, [], by rw [hv', hn, hne]; rfl, by simp [hne], fun _ => by simp [hne], by simp, by simp [RepL, hne]⟩
        · exact ⟨some _, cap, [], by rw [hv', hn], by simp [hne], (fun h => by cases h), by simp, by simp [RepL, hne]⟩
      · have hok : o.k = k := by
          cases hes : o.es with
          | nil => exact (hne hes).elim
          | cons e es => rw [← hk' e (by rw [hes]; simp), hob.flat e (by rw [hes]; simp)]
        have hpos : 0 < o.es.length := List.length_pos_iff.2 hne
        rcases hown.2 with ⟨hn, h0⟩ | ⟨g, cap, cur, hn, _⟩
        · omega
        · have hcells := hown.cells (g := g) (by rw [hn]; rfl)
          refine ⟨some ⟨g, 0, none⟩, cap, xs, by rw [hv', hn], by rw [hown.1, hok], (fun h => by cases h), fun ad had j u hu => ?_, by rw [hown.1, flat_length hob.flat], fun j c e hc he => ?_⟩
          · cases had; exact hcells j u hu
          · obtain ⟨x, hx, hr⟩ := hrep j e he
            have : c = x := by rw [hx] at hc; exact (Option.some.inj hc).symm
            rw [this]; exact hr
    · cases hs
  · rename_i id kk lo m
    split at hs
    · rename_i o ho
      simp only [Option.some.injEq, Prod.mk.injEq] at hs
      obtain ⟨rfl, rfl⟩ := hs
      obtain ⟨rfl, hb⟩ := hq
      have hob := h.obj id o ho
      obtain ⟨xs, hown, hrep⟩ := hob.own
      obtain ⟨A, c, rfl, hmc, hcm, hA⟩ := hv
      have hlen : ((o.es.drop lo).take m).length = m := by simp; omega
      by_cases h0 : m = 0
      · subst h0
        refine ⟨A, c, [], by simp, by simp, fun _ => by simp, by simp, by simp [RepL]⟩
      · obtain ⟨g, m2, d, hn, rfl⟩ := hA (by omega)
        have hcells := hown.cells (g := g) (by rw [hn]; rfl)
        have hkk : o.k = k := by
          have hne : (o.es.drop lo).take m ≠ [] := by intro e; rw [e] at hlen; simp at hlen; omega
          obtain ⟨e, he⟩ := List.exists_mem_of_ne_nil _ hne
          rw [← hk' e he, hob.flat e (List.mem_of_mem_drop (List.mem_of_mem_take he))]
        have hxl : xs.length = o.es.length * o.k := hown.1
        have hfl := flat_length hob.flat
        have hb2 : lo * o.k + m * o.k ≤ o.es.length * o.k := by rw [← Nat.add_mul]; exact Nat.mul_le_mul_right _ hb
        have hfm : ((o.es.drop lo).take m).flatMap AV.flat = ((o.es.flatMap AV.flat).drop (lo * o.k)).take (m * o.k) := by
          have e1 := flatMap_take hob.flat lo
          have hd : ∀ e ∈ o.es.drop lo, e.flat.length = o.k := fun e he => hob.flat e (List.mem_of_mem_drop he)
          rw [← e1]
          have e2 : (o.es.drop lo).flatMap AV.flat = ((o.es.drop lo).take m).flatMap AV.flat ++ ((o.es.drop lo).drop m).flatMap AV.flat := by
            rw [← List.flatMap_append, List.take_append_drop]
          have hL : (((o.es.drop lo).take m).flatMap AV.flat).length = m * o.k := by rw [flat_length (k := o.k) (fun e he => hd e (List.mem_of_mem_take he)), hlen]
          rw [e2]
          exact (List.take_left' hL).symm
        refine ⟨some ⟨g, lo * o.k, none⟩, c, (xs.drop (lo * o.k)).take (m * o.k), by rw [hlen], ?_, (fun h => by cases h), fun ad had j u hu => ?_, ?_, fun j c' e hc' he => ?_⟩
        · rw [hlen, ← hkk]; simp [hxl]; omega
        · cases had
          rw [List.getElem?_take] at hu
          split at hu
          · rw [List.getElem?_drop] at hu
            have := hcells _ u hu
            rw [add_mk, Nat.zero_add] at this
            rw [add_mk]; exact this
          · cases hu
        · rw [hfm]; simp [hxl, hfl]
        · rw [hfm] at he
          rw [List.getElem?_take] at hc' he
          split at hc'
          · rename_i hj
            rw [if_pos hj, List.getElem?_drop] at he
            rw [List.getElem?_drop] at hc'
            obtain ⟨x, hx, hr⟩ := hrep _ e he
            have : c' = x := by rw [hx] at hc'; exact (Option.some.inj hc').symm
            rw [this]; exact hr
          · cases hc'
    · cases hs
  · cases hs

theorem append_run {X : Ctx} {st : St} {a : Act} (h : RR X M loc st a w) {t ty e : Nat} {i : TypeInfo} {z : Value} (ht : P.underlying t = some (.slice e)) (hi : P.info? e = some i) (hz : i.zero = some z) (hzs : z.cells.size = i.size) (hsz : 0 < i.size)
    {sv : Value} {n : Nat} {xs : List Value} (hown : w.ownsRow 0 e i.size sv n xs) {x : AV} {v : Value} (hv : Rep w M loc v x) {q : Prop} {news : List AV} (hs : srcA st.heap x = some (q, news)) (hq : q) (hk : ∀ m ∈ news, m.plain = true ∧ m.flat.length = i.size)
    (h63 : n + news.length ≤ maxLen) (hbytes : (n + news.length) * i.bytes ≤ 140737488355328) :
    ∃ v' w' cs, (Builtin.append_ #[t, t] ty #[sv, v]).run P w = .ok v' w' ∧ w'.ownsRow 0 e i.size v' (n + news.length) (xs ++ cs) ∧ w.grownBy w' sv.ownBlock ∧
      (v'.ownBlock = sv.ownBlock ∨ v'.ownBlock = some w.heap.size) ∧ RepL (RepC w M loc st.heap.length) cs (news.flatMap AV.flat) := by
  obtain ⟨A, c, cs, rfl, hl, hA, hc, hr⟩ := srcA_ok h hv hs hq hk
  cases A with
  | none =>
    have h0 : news.length = 0 := hA rfl
    have hcs : cs = [] := List.eq_nil_of_length_eq_zero (by rw [hl, h0]; simp)
    subst hcs
    refine ⟨sv, w, [], ?_, by rw [h0, List.append_nil]; exact hown, World.grownBy.refl w _, .inl rfl, hr⟩
    rw [h0]
    rcases hown.2 with ⟨rfl, rfl⟩ | ⟨g, cap, cur, rfl, _, _, hnc, _⟩
    · simp [Builtin.append_, run_underlying ht, sizeOf, typeInfo, hi, Builtin.lenOf, Builtin.firstCells]
    · simp [Builtin.append_, run_underlying ht, sizeOf, typeInfo, hi, Builtin.lenOf, Builtin.firstCells, hnc, storeCells]
  | some ad =>
    have hone : ∀ u ∈ cs, u.oneCell' = true := by
      intro u hu
      obtain ⟨j, hj, rfl⟩ := List.getElem_of_mem hu
      have hj' : j < (news.flatMap AV.flat).length := by rw [← hr.1]; exact hj
      have hcc := hr.2 j _ _ (List.getElem?_eq_getElem hj) (List.getElem?_eq_getElem hj')
      rcases hcc.1 with hcz | hco
      · exact hcz.one (news_one (fun n hn => (hk n hn).1) (List.getElem?_eq_getElem hj'))
      · exact hco.one h.one hcc.2.1
    obtain ⟨v', w', h1, h2, h3, _, h5⟩ := run_append_own_at (P := P) w 0 t ty e i z i.size i.bytes ht hi hz rfl rfl hzs hsz sv n xs hown ad news.length c cs hl (hc ad rfl) hone h63 hbytes (Nat.zero_le _)
    exact ⟨v', w', cs, h1, h2, h3, h5, hr⟩

theorem RepL.append {R : Value → AV → Prop} {as bs : List Value} {xs ys : List AV} (h : RepL R as xs) (h' : RepL R bs ys) : RepL R (as ++ bs) (xs ++ ys) := by
  refine ⟨by simp [h.1, h'.1], fun j c e hc he => ?_⟩
  by_cases hj : j < as.length
  · rw [List.getElem?_append_left hj] at hc
    rw [List.getElem?_append_left (by rw [← h.1]; exact hj)] at he
    exact h.2 j c e hc he
  · rw [List.getElem?_append_right (by omega)] at hc
    rw [List.getElem?_append_right (by rw [← h.1]; omega)] at he
    rw [← h.1] at he
    exact h'.2 _ c e hc he

theorem RepL.imp {R R' : Value → AV → Prop} {as : List Value} {xs : List AV} (hi : ∀ c e, R c e → R' c e) (h : RepL R as xs) : RepL R' as xs :=
  ⟨h.1, fun j c e hc he => hi _ _ (h.2 j c e hc he)⟩

theorem RepL.own {R : Value → AV → Prop} {as : List Value} {xs : List AV} (h : RepL R as xs) (j : Nat) (e : AV) (he : xs[j]? = some e) : ∃ x, as[j]? = some x ∧ R x e := by
  have hj : j < as.length := by rw [h.1]; exact (List.getElem?_eq_some_iff.1 he).1
  exact ⟨_, List.getElem?_eq_getElem hj, h.2 j _ e (List.getElem?_eq_getElem hj) he⟩

theorem ObjOK.repL {X : Ctx} {N : Nat} {sv : Value} {o : Ob} (h : ObjOK X.own w M loc N sv o) : ∃ xs, w.ownsRow 0 o.E o.k sv o.es.length xs ∧ RepL (RepC w M loc N) xs (o.es.flatMap AV.flat) := by
  obtain ⟨xs, h1, h2⟩ := h.own
  refine ⟨xs, h1, by rw [h1.1, flat_length h.flat], fun j c e hc he => ?_⟩
  obtain ⟨x, hx, hr⟩ := h2 j e he
  have : c = x := by rw [hx] at hc; exact (Option.some.inj hc).symm
  rw [this]; exact hr

theorem appA_ok {X : Ctx} {st : St} {a : Act} (h : RR X M loc st a w) {t ty : Nat} {s x : AV} {vs vx : Value} (hvs : Rep w M loc vs s) (hvx : Rep w M loc vx x) {p : Prop} {r : AV} {H' : List Cell}
    (he : appA P st.heap t s x = some (p, r, H')) (hp : p) : EffOK P X st a w M (do pure (Next.value (← Builtin.append_ #[t, t] ty #[vs, vx]))) r H' := by
  unfold appA at he
  split at he
  · rename_i e _ _ _ hT
    obtain ⟨i1, d, z1, g1, g2, g3, g4⟩ := tyk_spec hT
    have := kOf_slice (d := d) (e := e) (by have := congrArg TK.k g4; exact this.symm)
    subst this
    split at he
    · rename_i T q news hE hsrc
      obtain ⟨i, d', z, f1, f2, f3, rfl⟩ := tyk_spec hE
      split at he
      · simp only [Option.some.injEq, Prod.mk.injEq] at he
        obtain ⟨rfl, rfl, rfl⟩ := he
        obtain ⟨hq, ⟨hb, h63⟩, hz, h0, hn⟩ := hp
        obtain rfl := hvs.nil_inv
        have hzs : z.cells.size = i.size := by rw [← hz]; exact (zeroOf_cells (w := w) (M := M) (loc := loc) 0 z (fun _ => trivial)).1.symm
        obtain ⟨v', w', cs, h1, h2, h3, h4, h5⟩ := append_run (P := P) (ty := ty) h g2 f1 f3 hzs h0 (World.ownsRow_nil w 0 e i.size) hvx hsrc hq hn (by omega) (by rw [Nat.zero_add]; exact hb)
        have hM : ∀ b, M b → w'.heap[b]? = w.heap[b]? := fun b hb => h3.block b (h.zone b hb).1 (by simp [Value.ownBlock])
        have hrr := h.change h3 (fun g e => by simp [Value.ownBlock] at e) st.heap.length v' ⟨e, i.size, news⟩ (st.heap ++ [.row ⟨e, i.size, news⟩]) (fun id o hid ho => ?_) ?_ (by simp) (by simp) (fun h => absurd h (by omega)) (fun g e => by simp [Value.ownBlock] at e) (fun id m hm => map_old hm) (fun id hid hl => by simp at hl; omega)
        · refine EffOK.lift h1 hrr ?_ (by simp [AV.idLt])
          show v' = _
          simp
        · have hid' : id < st.heap.length := by
            have := (List.getElem?_eq_some_iff.1 ho).1
            simp at this; omega
          rw [List.getElem?_append_left hid'] at ho
          refine ⟨ho, (by cases hb : (loc id).ownBlock with | none => exact .inl rfl | some b => exact .inr (by intro e; cases e)), ?_⟩
          obtain ⟨xs, hown, _⟩ := (h.obj id o ho).own
          cases hb : (loc id).ownBlock with
          | none => exact .inl rfl
          | some b =>
            right
            have := (hown.lt b hb).2
            rcases h4 with h4 | h4
            · rw [h4]; simp [Value.ownBlock]
            · rw [h4]; simp; omega
        · refine ⟨⟨cs, by simpa using h2, fun j e he => (h5.imp fun c e hce => hce.mono hM (fun _ hb => hb) (fun i hi => if_neg (by omega)) (by simp)).own j e he⟩, fun e he => (hn e he).2, fun g hg hm => ?_, fun g hg => ?_⟩
          · have := (h.zone g hm).1
            rcases h4 with h4 | h4
            · rw [h4] at hg; simp [Value.ownBlock] at hg
            · rw [h4] at hg; simp at hg; omega
          · rcases h4 with h4 | h4
            · rw [h4] at hg; simp [Value.ownBlock] at hg
            · rw [h4] at hg; simp at hg; exact .inl (hg ▸ h.below.size)
      · rename_i id
        split at he
        · rename_i o ho
          simp only [Option.some.injEq, Prod.mk.injEq] at he
          obtain ⟨rfl, rfl, rfl⟩ := he
          obtain ⟨hq, ⟨⟨hb, h63⟩, hz, h0, hn⟩, hoE, hok⟩ := hp
          have hvs' : vs = loc id := hvs
          subst hvs'
          have hob := h.obj id o ho
          obtain ⟨xs, hown, hxs⟩ := hob.repL
          rw [hoE, hok] at hown
          have hzs : z.cells.size = i.size := by rw [← hz]; exact (zeroOf_cells (w := w) (M := M) (loc := loc) 0 z (fun _ => trivial)).1.symm
          obtain ⟨v', w', cs, h1, h2, h3, h4, h5⟩ := append_run (P := P) (ty := ty) h g2 f1 f3 hzs h0 hown hvx hsrc hq hn h63 hb
          have hrow : ∀ g, (loc id).ownBlock = some g → ¬ M g ∧ X.own g := fun g hg => ⟨hob.away g hg, hob.mine g hg⟩
          have hM : ∀ b, M b → w'.heap[b]? = w.heap[b]? := fun b hb => h3.block b (h.zone b hb).1 (fun e => hob.away b e.symm hb)
          have hidlt : id < st.heap.length := (List.getElem?_eq_some_iff.1 ho).1
          have hrr := h.change h3 hrow st.heap.length v' ⟨e, i.size, o.es ++ news⟩ (st.heap.set id .dead ++ [.row ⟨e, i.size, o.es ++ news⟩]) (fun id2 o2 hid ho2 => ?_) ?_ (by simp) (by simp) (fun h => absurd h (by omega)) (ownsRow_cells hown) (fun id m hm => map_set (fun m => by intro e; cases e) (map_old hm)) (fun id hid hl => by simp at hl; omega)
          · refine EffOK.lift h1 hrr ?_ (by simp [AV.idLt])
            show v' = _
            simp
          · have hid' : id2 < st.heap.length := by
              have := (List.getElem?_eq_some_iff.1 ho2).1
              simp at this; omega
            rw [List.getElem?_append_left (by simpa using hid'), List.getElem?_set] at ho2
            split at ho2
            · simp at ho2
            · rename_i hne
              have hsep := h.sep id2 id o2 o (fun e => hne e.symm) ho2 ho
              refine ⟨ho2, hsep, ?_⟩
              rcases h4 with h4 | h4
              · rw [h4]; exact hsep
              · obtain ⟨xs2, hown2, _⟩ := (h.obj id2 o2 ho2).own
                cases hb : (loc id2).ownBlock with
                | none => exact .inl rfl
                | some b =>
                  right
                  have := (hown2.lt b hb).2
                  rw [h4]; simp; omega
          · refine ⟨⟨xs ++ cs, by simpa using h2, fun j e he => ?_⟩, fun e he => ?_, fun g hg hm => ?_, fun g hg => ?_⟩
            · rw [List.flatMap_append] at he
              exact ((hxs.append h5).imp fun c e hce => hce.mono hM (fun _ hb => hb) (fun i hi => if_neg (by omega)) (by simp)).own j e he
            · rcases List.mem_append.1 he with he | he
              · rw [← hok]; exact hob.flat e he
              · exact (hn e he).2
            · rcases h4 with h4 | h4
              · rw [h4] at hg; exact hob.away g hg hm
              · have := (h.zone g hm).1
                rw [h4] at hg; simp at hg; omega
            · rcases h4 with h4 | h4
              · rw [h4] at hg; exact hob.mine g hg
              · rw [h4] at hg; simp at hg; exact .inl (hg ▸ h.below.size)
        · cases he
      · cases he
    · cases he
  · cases he

end
end Go.Ab
