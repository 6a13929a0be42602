/-
  The operations that make or write memory of the call's own: all together.
-/
import Derived.Test.YtgkafceckdoabaaDoorAbsEff3
set_option linter.all false
namespace Go.Ab
open Go.RowKit

section
variable {P : Program} {w w' : World} {M : Nat → Prop} {loc : Nat → Value}

theorem fill_seq {X : Ctx} {st : St} {a : Act} (h : RR X M loc st a w) (ρ : Operand → AV) (k : Nat) (cap : Nat) : ∀ (ps : List (Nat × Operand)) (s : Nat) (cs : Array Value), ps.map (fun p => p.1) = (List.range' s ps.length) → cs.size = cap * k → s + ps.length ≤ cap →
    (∀ p ∈ ps, Rep w M loc (a.eval p.2) (ρ p.2) ∧ (ρ p.2).idLt st.heap.length ∧ (ρ p.2).plain = true ∧ (ρ p.2).flat.length = k) →
    ∃ cs' vs, Instr.fill (fun i => some (i * k, k)) cs (ps.map fun (i, x) => (i, a.eval x)) = some cs' ∧ cs'.size = cs.size ∧ cs'.toList = cs.toList.take (s * k) ++ vs ++ cs.toList.drop ((s + ps.length) * k) ∧ RepL (RepC w M loc st.heap.length) vs ((ps.map fun p => ρ p.2).flatMap AV.flat)
  | [], s, cs, _, hcs, hcap, _ => ⟨cs, [], rfl, rfl, by simp, by simp [RepL]⟩
  | (i, x) :: ps, s, cs, hi, hcs, hcap, hp => by
    simp only [List.map_cons, List.length_cons, List.range'_succ, List.cons.injEq] at hi
    obtain ⟨rfl, hi⟩ := hi
    obtain ⟨hr, hil, hpl, hf⟩ := hp (i, x) (by simp)
    simp only [List.length_cons] at hcap
    have hcl := h.cellsC hr hil hpl
    obtain ⟨hs1, _, _⟩ := h.plain hr hil hpl
    have hsz : (a.eval x).cells.size = k := by rw [hs1]; exact hf
    have hbound : i * k + k ≤ cap * k := by
      have : (i + 1) * k ≤ cap * k := Nat.mul_le_mul_right _ (by omega)
      rw [Nat.succ_mul] at this; exact this
    obtain ⟨cs', vs, h1, h2, h3, h4⟩ := fill_seq h ρ k cap ps (i + 1) (cs.toList.take (i * k) ++ (a.eval x).cells.toList ++ cs.toList.drop (i * k + (a.eval x).cells.size)).toArray hi (by simp; omega) (by omega) (fun p hp' => hp p (by simp [hp']))
    have hl1 : (cs.toList.take (i * k)).length = i * k := by simp; omega
    have hl2 : (a.eval x).cells.toList.length = k := by simpa using hsz
    refine ⟨cs', (a.eval x).cells.toList ++ vs, ?_, ?_, ?_, ?_⟩
    · simp only [List.map_cons]
      rw [fill_cons (off := i * k) (by rw [hsz]) (by rw [hsz, hcs]; exact hbound)]
      exact h1
    · rw [h2]; simp; omega
    · simp only [List.toList_toArray] at h3
      rw [h3]
      have e1 : (i + 1) * k = i * k + k := by rw [Nat.succ_mul]
      have e2 : (i + 1 + ps.length) * k = (i * k + k) + ps.length * k := by rw [Nat.add_mul, e1]
      have e3 : (i + (ps.length + 1)) * k = (i * k + k) + ps.length * k := by rw [← e2]; congr 1; omega
      simp only [List.length_cons]
      rw [e1, e2, e3, hsz]
      have t1 : (cs.toList.take (i * k) ++ (a.eval x).cells.toList ++ cs.toList.drop (i * k + k)).take (i * k + k) = cs.toList.take (i * k) ++ (a.eval x).cells.toList := by
        rw [List.take_append_of_le_length (by simp only [List.length_append, hl1, hl2]; exact Nat.le_refl _)]
        exact List.take_of_length_le (by simp only [List.length_append, hl1, hl2]; exact Nat.le_refl _)
      have t2 : (cs.toList.take (i * k) ++ (a.eval x).cells.toList ++ cs.toList.drop (i * k + k)).drop (i * k + k + ps.length * k) = cs.toList.drop (i * k + k + ps.length * k) := by
        rw [List.drop_append, List.drop_eq_nil_of_le (by simp only [List.length_append, hl1, hl2]; omega), List.nil_append, List.drop_drop]
        congr 1
        simp only [List.length_append, hl1, hl2]
        omega
      rw [t1, t2]
      simp only [List.append_assoc]
    · simp only [List.map_cons, List.flatMap_cons]
      exact hcl.append h4

theorem splice_in (F E xs : List AV) (b k off : Nat) (hE : E.length = k) (hF : b + k ≤ F.length) (hx : off + xs.length ≤ k) (hq : ∀ q, q < k → F[b + q]? = E[q]?) :
    F.take b ++ splice E off xs ++ F.drop (b + k) = splice F (b + off) xs := by
  have hEE : E = (F.drop b).take k := by
    apply List.ext_getElem?
    intro q
    rw [List.getElem?_take]
    by_cases c : q < k
    · rw [if_pos c, List.getElem?_drop, hq q c]
    · rw [if_neg c, List.getElem?_eq_none (by omega)]
  subst hEE
  unfold splice
  rw [List.take_add, List.take_take, Nat.min_eq_left (by omega)]
  have h2 : F.drop (b + off + xs.length) = ((F.drop b).take k).drop (off + xs.length) ++ F.drop (b + k) := by
    have h3 : (F.drop b).drop (off + xs.length) = ((F.drop b).take k ++ (F.drop b).drop k).drop (off + xs.length) := by rw [List.take_append_drop]
    rw [List.drop_append_of_le_length (by rw [hE]; exact hx)] at h3
    rw [List.drop_drop, List.drop_drop] at h3
    rw [Nat.add_assoc]
    exact h3
  rw [h2]
  simp only [List.append_assoc]

theorem take_splice (cs vs : List Value) (N o s : Nat) (hv : vs.length = s) (hN : o + s ≤ N) (hl : N ≤ cs.length) :
    (cs.take N).take o ++ vs ++ (cs.take N).drop (o + s) = (cs.take o ++ vs ++ cs.drop (o + s)).take N := by
  rw [List.take_take, Nat.min_eq_left (by omega)]
  have h1 : (cs.take o ++ vs).length = o + s := by rw [List.length_append, List.length_take, hv]; omega
  have h2 : N = (cs.take o ++ vs).length + (N - (o + s)) := by omega
  conv => rhs; rw [h2]
  rw [List.take_length_add_append, List.drop_take]

theorem RepL.of_eq {R : Value → AV → Prop} {as bs : List Value} {xs : List AV} (h : RepL R as xs) (e : as = bs) : RepL R bs xs := e ▸ h

theorem eff_ok {X : Ctx} {st : St} {o : Oper} {a : Act} (h : RR X M loc st a w) {p : Prop} {r : AV} {H' : List Cell}
    (he : eff P st.heap (ev st.env) o.op = some (p, r, H')) (hp : p) : EffOK P X st a w M (execOp a.eval o) r H' := by
  obtain ⟨dst, op, ty, pos, after, guard⟩ := o
  simp only [] at he
  cases op <;> simp only [eff, reduceCtorEq] at he
  case alloc e =>
    split at he
    · rename_i T hT
      simp only [Option.some.injEq, Prod.mk.injEq] at he
      obtain ⟨rfl, rfl, rfl⟩ := he
      obtain ⟨i, d, z, f1, f2, f3, rfl⟩ := tyk_spec hT
      obtain ⟨hz1, hz2⟩ := zeroOf_cells (w := w) (M := M) (loc := loc) st.heap.length z (fun _ => trivial)
      simp only [] at hp
      refine h.newVar e i.size (zeroOf z) z.cells hp (by rw [← hp]; exact hz1.symm) hz2 ?_
      simp [Instr.alloc, zeroValue, typeInfo, f1, f3, newVar, Go.newRow]
    · cases he
  case box e x =>
    split at he
    · rename_i T hT
      simp only [Option.some.injEq, Prod.mk.injEq] at he
      obtain ⟨rfl, rfl, rfl⟩ := he
      obtain ⟨hpl, hf⟩ := hp
      obtain ⟨h1, h2, _⟩ := h.plain (h.ev x) (h.evLt x) hpl
      refine h.newVar e T.cells (ev st.env x) (a.eval x).cells hf (by rw [h1]; exact hf) h2 ?_
      simp [Instr.box, newVar, Go.newRow]
    · cases he
  case buildSlice t n parts =>
    split at he
    · rename_i e _ _ _ hT
      obtain ⟨i1, d, z1, g1, g2, g3, g4⟩ := tyk_spec hT
      have := kOf_slice (d := d) (e := e) (by have := congrArg TK.k g4; exact this.symm)
      subst this
      split at he
      · rename_i T hE
        split at he
        · rename_i hc
          obtain ⟨hc, hn24, hn25⟩ := hc
          simp only [Option.some.injEq, Prod.mk.injEq] at he
          obtain ⟨rfl, rfl, rfl⟩ := he
          obtain ⟨hz, hpp⟩ := hp
          obtain ⟨i, d', z, f1, f2, f3, rfl⟩ := tyk_spec hE
          simp only [] at hz hpp hn24
          have hlen : parts.toList.length = n := by have := congrArg List.length hc; simpa using this
          have hzc := (zeroOf_cells (w := w) (M := M) (loc := loc) 0 z (fun _ => trivial)).1
          obtain ⟨cs', vs, h1, h2, h3, h4⟩ := fill_seq h (ev st.env) i.size n parts.toList 0 (madeCells z.cells (n * i.size)) (by rw [hc, hlen, List.range_eq_range']) (by rw [size_madeCells]) (by omega)
            (fun p hp => by
              obtain ⟨q1, q2⟩ := hpp (ev st.env p.2) (List.mem_map.2 ⟨p, hp, rfl⟩)
              exact ⟨h.ev p.2, h.evLt p.2, q1, q2⟩)
          have hvs : cs'.toList = vs := by
            rw [h3]
            have : (madeCells z.cells (n * i.size)).toList.drop ((0 + parts.toList.length) * i.size) = [] := List.drop_eq_nil_of_le (by rw [Array.length_toList, size_madeCells, hlen, Nat.zero_add]; exact Nat.le_refl _)
            rw [this]; simp
          rw [← hvs] at h4
          have hes : (parts.toList.map fun p => ev st.env p.2).length = n := by rw [List.length_map]; exact hlen
          have hrr := h.newRow e i.size (parts.toList.map fun p => ev st.env p.2) cs' (fun x hx => (hpp x hx).2) (by rw [h2, size_madeCells, hes]) (fun j e he => by
            obtain ⟨x, hx, hr⟩ := h4.own j e he
            exact ⟨x, by simpa using hx, hr⟩) (by
              rw [hes]; unfold maxLen; omega)
          refine EffOK.lift (v := .slice (some ⟨w.heap.size, 0, none⟩) n n) ?_ hrr ?_ (by simp [AV.idLt])
          · have hn : ¬ n * i.size > 2 ^ 24 := by omega
            have hpl : (parts.map fun (i, x) => (i, a.eval x)).toList = parts.toList.map fun (i, x) => (i, a.eval x) := by simp
            by_cases h0 : n * i.size = 0
            · have hm : madeCells z.cells (n * i.size) = #[] := by rw [h0]; exact Array.eq_empty_of_size_eq_zero (size_madeCells _ _)
              rw [hm] at h1
              simp only [Instr.buildSlice, Sem.run_bind, run_underlying g2, Result.andThen_ok, sizeOf, typeInfo, run_program, f1, Sem.run_pure, if_neg hn, h0, if_true, Array.range_zero', Array.map_empty, hpl, h1, Go.newRow, run_newObj]
              rfl
            · have h1' := h1
              unfold madeCells at h1'
              simp only [Instr.buildSlice, Sem.run_bind, run_underlying g2, Result.andThen_ok, sizeOf, typeInfo, run_program, f1, Sem.run_pure, if_neg hn, if_neg h0, zeroValue, f3, hpl, h1', Go.newRow, run_newObj]
              rfl
          · show _ = _
            simp [hes]
        · cases he
      · cases he
    · cases he
  case makeSlice t l c =>
    have hl := h.ev l
    have hc := h.ev c
    split at he
    · rename_i e _ _ _ k1 n k2 m hT e1 e2
      rw [e1] at hl; rw [e2] at hc
      obtain ⟨i1, d, z1, g1, g2, g3, g4⟩ := tyk_spec hT
      have := kOf_slice (d := d) (e := e) (by have := congrArg TK.k g4; exact this.symm)
      subst this
      split at he
      · rename_i T hE
        simp only [Option.some.injEq, Prod.mk.injEq] at he
        obtain ⟨rfl, rfl, rfl⟩ := he
        obtain ⟨⟨rfl, hn0, hby, hn63⟩, hcells, hone⟩ := hp
        obtain ⟨i, d', z, f1, f2, f3, rfl⟩ := tyk_spec hE
        simp only [] at hby hcells hone
        obtain ⟨nn, rfl⟩ := Int.eq_ofNat_of_zero_le hn0
        have hzr := rep_zeroOf (w := w) (M := M) z
        have hzo := hzr.one hone
        have hzc : z.cells = #[z] := by cases z <;> simp [Value.cells, Value.oneCell'] at *
        have hzf : (zeroOf z).flat = [zeroOf z] := by
          cases hzz : zeroOf z <;> simp [hzz, AV.one, AV.flat] at *
        have hmk : (madeCells z.cells (nn * i.size)).toList = List.replicate nn z := by rw [hzc, hcells, Nat.mul_one]; exact toList_madeCells_one z nn
        have hrun := run_make (P := P) w t e i z g2 f1 f3 k1 k2 nn nn hn0 (Int.le_refl _) hby hn63
        simp only [Int.toNat_natCast] at hrun
        have hflat : (List.replicate nn (zeroOf z)).flatMap AV.flat = List.replicate nn (zeroOf z) := by
          induction nn with
          | zero => rfl
          | succ q ih => 
            clear ih hrun hmk hby hn63 hn0 hl hc
            have : ∀ q, (List.replicate q (zeroOf z)).flatMap AV.flat = List.replicate q (zeroOf z) := by
              intro q
              induction q with
              | zero => rfl
              | succ q ih => rw [List.replicate_succ, List.flatMap_cons, ih, hzf]; rfl
            exact this _
        have hrr := h.newRow e i.size (List.replicate nn (zeroOf z)) (madeCells z.cells (nn * i.size)) (fun x hx => by rw [List.eq_of_mem_replicate hx, hzf, hcells]; rfl) (by rw [size_madeCells, List.length_replicate])
          (fun j x hx => by
            rw [hflat] at hx
            have hj := (List.getElem?_eq_some_iff.1 hx).1
            rw [List.length_replicate] at hj
            refine ⟨z, ?_, ?_⟩
            · rw [← Array.getElem?_toList, hmk]; simp [hj]
            · simp [hj] at hx; rw [← hx]; exact hzr.repC hone _)
          (by rw [List.length_replicate]; unfold maxLen; omega)
        rw [List.length_replicate] at hrr
        refine EffOK.lift (v := .slice (some ⟨w.heap.size, 0, none⟩) nn nn) (by rw [hl.v_inv, hc.v_inv]; exact hrun) hrr ?_ (by simp [AV.idLt])
        show _ = _
        simp
      · cases he
    · cases he
  case store t d x =>
    have hd := h.ev d
    have hx := h.ev x
    split at he
    · rename_i T id k i off hT e1
      rw [e1] at hd
      split at he
      · rename_i ob ho
        simp only [Option.some.injEq, Prod.mk.injEq] at he
        obtain ⟨rfl, rfl, rfl⟩ := he
        obtain ⟨⟨hpl, hfl⟩, ⟨hk, hi, hoff⟩, hone⟩ := hp
        obtain ⟨g, n, c, hsv, hd'⟩ := hd
        have hob := h.obj id ob ho
        obtain ⟨xs, hown, hxs⟩ := hob.repL
        subst hk
        obtain ⟨inf, dd, z, f1, f2, f3, rfl⟩ := tyk_spec hT
        simp only [] at hfl hoff hone
        have hcl := h.cellsC hx (h.evLt x) hpl
        obtain ⟨hs1, _, hs3⟩ := h.plain hx (h.evLt x) hpl
        rcases hown.2 with ⟨hn, h0⟩ | ⟨g', cap, cur, hn, hbg, hheap, hnc, hcm, hcs, htake⟩
        · omega
        · rw [hn] at hsv
          simp only [Value.slice.injEq, Option.some.injEq, Addr.mk.injEq, and_true] at hsv
          obtain ⟨rfl, -, -⟩ := hsv
          have hbound : i * ob.k + ob.k ≤ ob.es.length * ob.k := by
            have : (i + 1) * ob.k ≤ ob.es.length * ob.k := Nat.mul_le_mul_right _ hi
            rw [Nat.succ_mul] at this; exact this
          have hbound2 : ob.es.length * ob.k ≤ cap * ob.k := Nat.mul_le_mul_right _ hnc
          have hvl : (a.eval x).cells.toList.length = inf.size := by rw [Array.length_toList, hs1, hfl]
          have hst := run_storeCells_at P g' (i * ob.k + off) ob.E (a.eval x).cells.toList 0 cur w hheap (by rw [hvl]; omega) hs3
          simp only [Nat.add_zero] at hst
          generalize hcur' : (cur.toList.take (i * ob.k + off) ++ (a.eval x).cells.toList ++ cur.toList.drop (i * ob.k + off + (a.eval x).cells.toList.length)).toArray = cur' at hst
          have hsz' : cur'.size = cur.size := by
            rw [← hcur']
            simp only [List.size_toArray, List.length_append, List.length_take, List.length_drop, Array.length_toList, hvl]
            simp only [Array.length_toList] at hvl
            omega
          have hg : w.grownBy (w.setRow g' cur') (some g') := ⟨rfl, rfl, rfl, by simp [World.setRow], fun k _ hk => setRow_other w g' k _ (fun e => hk (by rw [e]))⟩
          have hblk : (loc id).ownBlock = some g' := by rw [hn]; rfl
          -- the new element
          have hold := hob.flat (nth ob.es i) (getD_mem hi)
          have hnew : (setE (nth ob.es i) off (ev st.env x)).flat = splice (nth ob.es i).flat off (ev st.env x).flat := by
            unfold setE
            split
            · rename_i cs hcs
              rw [hcs]; rfl
            · rename_i hne
              obtain ⟨h0, h1⟩ : off = 0 ∧ inf.size = ob.k := hone.resolve_left (by
                cases hq : nth ob.es i <;> simp [AV.isAgg]
                exact hne _ hq)
              subst h0
              unfold splice
              rw [List.take_zero, List.nil_append, Nat.zero_add, List.drop_eq_nil_of_le (by rw [hold, hfl, h1]; exact Nat.le_refl _), List.append_nil]
          have hnl : (setE (nth ob.es i) off (ev st.env x)).flat.length = ob.k := by
            rw [hnew]; unfold splice
            simp only [List.length_append, List.length_take, List.length_drop, hold, hfl]; omega
          have hflat2 : ((ob.es.set i (setE (nth ob.es i) off (ev st.env x))).flatMap AV.flat) = splice (ob.es.flatMap AV.flat) (i * ob.k + off) (ev st.env x).flat := by
            rw [flatMap_set hob.flat hi hnl, hnew]
            exact splice_in _ _ _ _ _ _ hold (by rw [flat_length hob.flat]; exact hbound) (by rw [hfl]; exact hoff) (fun q hq => flat_getD hob.flat hi hq)
          have hmono : ∀ b, M b → (w.setRow g' cur').heap[b]? = w.heap[b]? := fun b hb => hg.block b (h.zone b hb).1 (fun e => hob.away g' hblk (by rw [Option.some.inj e] at hb; exact hb))
          have hnewL : RepL (RepC w M loc st.heap.length) (cur'.toList.take (ob.es.length * ob.k)) (splice (ob.es.flatMap AV.flat) (i * ob.k + off) (ev st.env x).flat) := by
            have := hxs.splice hcl (o := i * ob.k + off) (by rw [flat_length hob.flat, hfl]; omega)
            refine this.of_eq ?_
            rw [← htake, ← hcur']
            simp only [List.toList_toArray]
            rw [hvl]
            exact take_splice _ _ _ _ _ hvl (by omega) (by rw [Array.length_toList, hcs]; exact hbound2)
          have hrr := h.change hg (fun g e => by cases e; exact ⟨hob.away _ hblk, hob.mine _ hblk⟩) id (loc id) ⟨ob.E, ob.k, ob.es.set i (setE (nth ob.es i) off (ev st.env x))⟩
            (st.heap.set id (.row ⟨ob.E, ob.k, ob.es.set i (setE (nth ob.es i) off (ev st.env x))⟩)) (fun id2 o2 hid ho2 => ?_) ?_ ?_ (by simp) (fun _ => rfl) (fun g e => by cases e; exact ⟨_, _, _, hheap⟩) (fun id m hm => map_set (fun m => by intro e; cases e) hm) (fun id hid hl => by simpa using hl)
          · refine ⟨.skip, _, _, undef, ?_, .inr ⟨rfl, rfl⟩, hrr, (RepZ.bad _).rep, trivial⟩
            have hne : ¬ ((a.eval x).cells.size ≠ inf.size) := by simp only [Array.length_toList] at hvl; omega
            simp only [execOp, Instr.storeAt, hd', Instr.sureAddr, Sem.run_bind, Sem.run_pure, Result.andThen_ok, storeVar, sizeOf, typeInfo, run_program, f1, if_neg hne, hst]
          · rw [List.getElem?_set_ne (fun e => hid e.symm)] at ho2
            have hsep := h.sep id2 id o2 ob hid ho2 ho
            refine ⟨ho2, ?_, hsep⟩
            rw [hblk] at hsep
            exact hsep
          · refine ⟨⟨cur'.toList.take (ob.es.length * ob.k), ⟨?_, .inr ⟨g', cap, cur', by simp [hn], hbg, setRow_heap w g' cur _ ob.E _ hheap, by simpa using hnc, hcm, by rw [hsz']; exact hcs, by simp⟩⟩, fun j e he => ?_⟩, fun e he => ?_, ?_, hob.mine⟩
            · simp only [List.length_set, List.length_take, Array.length_toList, hsz', hcs]; omega
            · simp only [] at he
              rw [hflat2] at he
              exact (hnewL.imp fun c e hce => hce.mono hmono (fun _ hb => hb) (fun i hi => by show (if i = id then loc id else loc i) = loc i; split <;> simp_all) (by simp)).own j e he
            · rcases List.mem_or_eq_of_mem_set he with he | he
              · exact hob.flat e he
              · rw [he]; exact hnl
            · intro g hg
              exact hob.away g hg
          · rw [List.getElem?_set_self (List.getElem?_eq_some_iff.1 ho).1]
      · cases he
    · cases he
  case call c =>
    obtain ⟨callee, args, ats⟩ := c
    obtain ⟨args⟩ := args
    obtain ⟨ats⟩ := ats
    split at he
    · rename_i s x t t' e1 e2 e3
      simp only [] at e1 e2 e3
      subst e1; subst e2; subst e3
      split at he
      · rename_i htt
        subst htt
        have := appA_ok (P := P) (ty := ty) h (h.ev s) (h.ev x) he hp
        simpa [execOp, resolve, invoke, builtin] using this
      · cases he
    · cases he

end
end Go.Ab
