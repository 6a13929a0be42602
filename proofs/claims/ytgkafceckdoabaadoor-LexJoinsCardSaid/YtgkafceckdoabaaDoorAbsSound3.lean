/-
  The operations that leave memory alone: all of them together.
-/
import Derived.Test.YtgkafceckdoabaaDoorAbsSound2
set_option linter.all false
namespace Go.Ab
open Go.RowKit

section
variable {P : Program} {w : World} {M : Nat → Prop} {loc : Nat → Value}

theorem flatMap_take {es : List AV} {k : Nat} (hk : ∀ e ∈ es, e.flat.length = k) (l : Nat) : (es.drop l).flatMap AV.flat = (es.flatMap AV.flat).drop (l * k) := by
  induction l generalizing es with
  | zero => simp
  | succ l ih =>
    cases es with
    | nil => simp
    | cons e es =>
      simp only [List.drop_succ_cons, List.flatMap_cons]
      rw [ih (fun e he => hk e (by simp [he])), List.drop_append, hk e (by simp)]
      have : List.drop ((l + 1) * k) e.flat = [] := List.drop_eq_nil_of_le (by rw [hk e (by simp), Nat.succ_mul]; omega)
      rw [this, List.nil_append]
      congr 1
      rw [Nat.succ_mul]; omega

theorem flatMap_prefix (es : List AV) (h : Nat) : ∃ r, es.flatMap AV.flat = (es.take h).flatMap AV.flat ++ r := by
  refine ⟨(es.drop h).flatMap AV.flat, ?_⟩
  rw [← List.flatMap_append, List.take_append_drop]

theorem RepZ.sub {A : Option Addr} {len cap : Nat} {es : List AV} (hr : RepZ w M (.slice A len cap) (.sl es)) {k : Nat} (hk : ∀ e ∈ es, e.flat.length = k) {l h : Nat} (hlh : l ≤ h) (hh : h ≤ es.length) :
    RepZ w M (.slice (if cap = l then A else A.map (fun (a : Addr) => a.add (l * k))) (h - l) (cap - l)) (.sl ((es.take h).drop l)) := by
  obtain ⟨A', cap', k', f, hx, hk', hA, hc, hrr, hcap, hmax⟩ := hr.sl_inv
  simp only [Value.slice.injEq] at hx
  obtain ⟨rfl, rfl, rfl⟩ := hx
  have hlen : ((es.take h).drop l).length = h - l := by simp; omega
  rw [← hlen]
  by_cases hne : (es.take h).drop l = []
  · rw [hne]
    exact .sl _ _ k _ (fun _ => undef) (by simp) (by simp) (by simp) (by simp) (by simp) (by omega)
  · have hpos : 0 < h - l := by rw [← hlen]; exact List.length_pos_iff.2 hne
    have hes : es ≠ [] := by rintro rfl; simp at hne
    obtain ⟨ad, rfl, hM⟩ := hA hes
    have hkk : k' = k := by
      cases es with
      | nil => exact (hes rfl).elim
      | cons e es => rw [← hk e (by simp), hk' e (by simp)]
    subst hkk
    rw [if_neg (by omega)]
    refine .sl _ _ k' _ (fun j => f (l * k' + j)) ?_ ?_ ?_ ?_ ?_ (by omega)
    · intro e he
      exact hk e (List.mem_of_mem_take (List.mem_of_mem_drop he))
    · intro _; exact ⟨_, rfl, by rw [add_block]; exact hM⟩
    · intro ad' had j hj
      simp only [Option.map_some, Option.some.injEq] at had
      subst had
      rw [add_add]
      refine hc ad rfl _ ?_
      rw [hlen, Nat.sub_mul] at hj
      have h1 : h * k' ≤ es.length * k' := Nat.mul_le_mul_right _ hh
      omega
    · intro j e he
      refine hrr _ e ?_
      obtain ⟨r, hr⟩ := flatMap_prefix es h
      rw [flatMap_take (k := k') (fun e he => hk e (List.mem_of_mem_take he)), List.getElem?_drop] at he
      rw [hr, List.getElem?_append_left (List.getElem?_eq_some_iff.1 he).1]
      exact he
    · rw [hlen]; omega

theorem sliceWin {t e : Nat} {n b : Nat} {z : AV} (ht : tyk P t = some ⟨.slice e, n, b, z⟩) {E : TK} (hE : tyk P e = some E) {v : Value} {id k s m : Nat} (hw : RepO loc v (.wn id k s m)) (hk : k = E.cells) (lo hi : Option Value) (l h : Nat) (hhm : h ≤ m) (hlh : l ≤ h)
    (hl : lo = none ∧ l = 0 ∨ ∃ k i, lo = some (.int k i) ∧ 0 ≤ i ∧ i ≤ h ∧ l = i.toNat) (hh : hi = none ∧ h = m ∨ ∃ k i, hi = some (.int k i) ∧ 0 ≤ i ∧ i ≤ m ∧ h = i.toNat) :
    PurOK P w M loc (Instr.sliceAt t v lo hi none) (.wn id k (s + l) (h - l)) := by
  obtain ⟨A, c, rfl, hmc, hcm, hA⟩ := hw
  refine ⟨_, sliceSl_ok ht hE A m c hmc lo hi l h hl hh, ?_⟩
  refine ⟨_, _, rfl, by omega, by omega, fun hp => ?_⟩
  obtain ⟨g, m2, d, h1, rfl⟩ := hA (by omega)
  refine ⟨g, m2, d, h1, ?_⟩
  rw [if_neg (by omega), Option.map_some, add_mk, ← hk, Nat.add_mul]

theorem ObjOK.win {X : Ctx} {N : Nat} {id : Nat} {o : Ob} (h : ObjOK X.own w M loc N (loc id) o) : RepO loc (loc id) (.wn id o.k 0 o.es.length) := by
  obtain ⟨xs, hown, _⟩ := h.own
  rcases hown.2 with ⟨hn, h0⟩ | ⟨g, cap, cur, hn, _, _, hnc, hcm, _⟩
  · exact ⟨none, 0, by rw [hn, h0], by omega, by simp, fun h => by omega⟩
  · exact ⟨_, _, hn, hnc, hcm, fun _ => ⟨g, _, _, hn, by simp⟩⟩

theorem pur_ok {X : Ctx} {H : List Cell} (hH : HeapOK X w M loc H) {o : Oper} {a : Act} {ρ : Operand → AV} (hρ : ∀ x ∈ o.op.operands, Rep w M loc (a.eval x) (ρ x)) {p : Prop} {r : AV}
    (h : pur P H ρ o.op = some (p, r)) (hp : p) : ∃ v, (execOp a.eval o).run P w = .ok (.value v) w ∧ Rep w M loc v r := by
  obtain ⟨dst, op, ty, pos, after, guard⟩ := o
  have lift : ∀ {s : Sem Value}, PurOK P w M loc s r → ∃ v, (do pure (Next.value (← s)) : Sem Next).run P w = .ok (.value v) w ∧ Rep w M loc v r := by
    rintro s ⟨v, h1, h2⟩
    exact ⟨v, by simp only [Sem.run_bind, h1, Result.andThen_ok, Sem.run_pure], h2⟩
  simp only [] at h hρ
  cases op <;> simp only [pur, reduceCtorEq] at h
  case move x =>
    simp only [Option.some.injEq, Prod.mk.injEq] at h
    obtain ⟨-, rfl⟩ := h
    exact ⟨_, rfl, hρ x (by simp [Op.operands])⟩
  case assign x =>
    simp only [Option.some.injEq, Prod.mk.injEq] at h
    obtain ⟨-, rfl⟩ := h
    exact ⟨_, rfl, hρ x (by simp [Op.operands])⟩
  case pick c x y =>
    have hc := hρ c (by simp [Op.operands])
    have hx := hρ x (by simp [Op.operands])
    have hy := hρ y (by simp [Op.operands])
    split at h
    · rename_i b p1 q1 e1 e2 e3
      rw [e1] at hc; rw [e2] at hx; rw [e3] at hy
      simp only [Option.some.injEq, Prod.mk.injEq] at h
      obtain ⟨-, rfl⟩ := h
      refine ⟨_, ?_, (RepZ.v _).rep⟩
      simp only [execOp, hc.v_inv, hx.v_inv, hy.v_inv, asBool, Sem.run_bind, Sem.run_pure, Result.andThen_ok]
      cases b <;> rfl
    · rename_i b g p1 q1 e1 e2 e3
      rw [e1] at hc; rw [e2] at hx; rw [e3] at hy
      simp only [Option.some.injEq, Prod.mk.injEq] at h
      obtain ⟨rfl, rfl⟩ := h
      refine ⟨_, ?_, (RepZ.v _).rep⟩
      simp only [execOp, hc.v_inv, hy.v_inv, asBool, Sem.run_bind, Sem.run_pure, Result.andThen_ok]
      cases b
      · rfl
      · have hx' : g = true → Rep w M loc (a.eval x) (.v (.bool p1)) := hx.2
        simp only [if_true, (hx' (hp rfl)).v_inv]; rfl
    · rename_i b p1 g q1 e1 e2 e3
      rw [e1] at hc; rw [e2] at hx; rw [e3] at hy
      simp only [Option.some.injEq, Prod.mk.injEq] at h
      obtain ⟨rfl, rfl⟩ := h
      refine ⟨_, ?_, (RepZ.v _).rep⟩
      simp only [execOp, hc.v_inv, hx.v_inv, asBool, Sem.run_bind, Sem.run_pure, Result.andThen_ok]
      cases b
      · have hy' : g = true → Rep w M loc (a.eval y) (.v (.bool q1)) := hy.2
        simp only [Bool.false_eq_true, if_false, (hy' (hp rfl)).v_inv]; rfl
      · rfl
    · rename_i g q1 e1 e2 e3
      rw [e1] at hc; rw [e3] at hy
      simp only [Option.some.injEq, Prod.mk.injEq] at h
      obtain ⟨-, rfl⟩ := h
      refine ⟨_, ?_, (RepZ.v _).rep⟩
      simp only [execOp, hc.v_inv, hy.v_inv, asBool, Sem.run_bind, Sem.run_pure, Result.andThen_ok]
      rfl
    · rename_i p1 g e1 e2 e3
      rw [e1] at hc; rw [e2] at hx
      simp only [Option.some.injEq, Prod.mk.injEq] at h
      obtain ⟨-, rfl⟩ := h
      refine ⟨_, ?_, (RepZ.v _).rep⟩
      simp only [execOp, hc.v_inv, hx.v_inv, asBool, Sem.run_bind, Sem.run_pure, Result.andThen_ok]
      rfl
    · cases h
  case load t x =>
    have hx := hρ x (by simp [Op.operands])
    split at h
    · rename_i T hT
      exact lift (loadA_ok hH hT hx h hp)
    · cases h
  case nilCheck x =>
    have hx := hρ x (by simp [Op.operands])
    split at h
    · rename_i e1
      simp only [Option.some.injEq, Prod.mk.injEq] at h
      obtain ⟨-, rfl⟩ := h
      rw [e1] at hx
      have hx0 := hx
      obtain ⟨g, n, c, h1, h2⟩ := hx
      refine ⟨a.eval x, ?_, hx0⟩
      simp only [execOp, h2, Sem.run_pure]
    · rename_i e1
      simp only [Option.some.injEq, Prod.mk.injEq] at h
      obtain ⟨-, rfl⟩ := h
      rw [e1] at hx
      have hx0 := hx
      obtain ⟨ad, f, h2, _⟩ := hx.ro_inv
      refine ⟨a.eval x, ?_, hx0⟩
      simp only [execOp, h2, Sem.run_pure]
    · cases h
  case binOp op t x y t' =>
    exact lift (bin_ok h hp (hρ x (by simp [Op.operands])) (hρ y (by simp [Op.operands])) x y)
  case unOp op t x =>
    have hx := hρ x (by simp [Op.operands])
    split at h
    · rename_i b e1
      rw [e1] at hx
      simp only [Option.some.injEq, Prod.mk.injEq] at h
      obtain ⟨-, rfl⟩ := h
      refine lift ⟨_, ?_, (RepZ.v _).rep⟩
      rw [hx.v_inv]; rfl
    · rename_i k n e1
      rw [e1] at hx
      simp only [Option.some.injEq, Prod.mk.injEq] at h
      obtain ⟨-, rfl⟩ := h
      refine lift ⟨_, ?_, (RepZ.v _).rep⟩
      rw [hx.v_inv]; rfl
    · cases h
  case convert s d x =>
    have hx := hρ x (by simp [Op.operands])
    split at h
    · rename_i T1 k _ _ _ k1 n hT1 hT2 e1
      rw [e1] at hx
      simp only [Option.some.injEq, Prod.mk.injEq] at h
      obtain ⟨-, rfl⟩ := h
      obtain ⟨i1, d1, z1, g1, g2, g3, g4⟩ := tyk_spec hT1
      obtain ⟨i2, d2, z2, f1, f2, f3, f4⟩ := tyk_spec hT2
      have := kOf_int (d := d2) (k := k) (by have := congrArg TK.k f4; exact this.symm)
      subst this
      refine lift ⟨_, ?_, (RepZ.v _).rep⟩
      rw [hx.v_inv]
      simp only [Go.convert, Sem.run_bind, run_underlying g2, run_underlying f2, Result.andThen_ok, Conv.intToInt, Sem.run_pure]
    · cases h
  case extract x i =>
    have hx := hρ x (by simp [Op.operands])
    split at h
    · rename_i vs e1
      rw [e1] at hx
      cases hi : vs[i]? with
      | none => simp [hi] at h
      | some r' =>
        simp only [hi, Option.map_some, Option.some.injEq, Prod.mk.injEq] at h
        obtain ⟨-, rfl⟩ := h
        obtain ⟨cs, h2, hl, hr⟩ := hx.tup_inv
        have hi' : i < cs.size := by rw [hl]; exact (List.getElem?_eq_some_iff.1 hi).1
        have hci : cs[i]? = some cs[i] := Array.getElem?_eq_getElem hi'
        refine lift ⟨cs[i], ?_, (hr i _ _ hci hi).rep⟩
        rw [h2]
        simp only [Instr.extract, hci, Sem.run_pure]
    · cases h
  case fieldAddr s x f =>
    have hx := hρ x (by simp [Op.operands])
    split at h
    · rename_i fs _ _ _ hs
      split at h
      · rename_i o t hf
        split at h
        · rename_i T cs hT e1
          rw [e1] at hx
          simp only [Option.some.injEq, Prod.mk.injEq] at h
          obtain ⟨rfl, rfl⟩ := h
          obtain ⟨ad, g, h2, hM, hc, hr⟩ := hx.ro_inv
          refine lift ⟨_, by rw [h2]; exact fieldAt_ok hs hf hT hp ad, (RepZ.ro _ _ (fun j => g (o + j)) (by rw [add_block]; exact hM) (fun j hj => ?_) fun j e he => ?_).rep⟩
          · rw [add_add]; exact hc _ (by rw [List.length_drop] at hj; omega)
          · exact hr _ e (by rw [List.getElem?_drop] at he; exact he)
        · rename_i T id k i off hT e1
          rw [e1] at hx
          simp only [Option.some.injEq, Prod.mk.injEq] at h
          obtain ⟨rfl, rfl⟩ := h
          obtain ⟨g, n, c, h1, h2⟩ := hx
          refine lift ⟨_, by rw [h2]; exact fieldAt_ok hs hf hT hp _, ?_⟩
          exact ⟨g, n, c, h1, by rw [add_mk, Nat.add_assoc]⟩
        · cases h
      · cases h
    · cases h
  case field s x f =>
    have hx := hρ x (by simp [Op.operands])
    split at h
    · rename_i fs _ _ _ hs
      split at h
      · rename_i off t hf
        split at h
        · rename_i T cs hT e1
          rw [e1] at hx
          obtain ⟨ca, h2, hl, hr⟩ := hx.agg_inv
          obtain ⟨i, d, z', g1, g2, g3, g4⟩ := tyk_spec hs
          obtain ⟨i2, d2, z2, f1, f2, f3, rfl⟩ := tyk_spec hT
          obtain ⟨fa, rfl, hfs⟩ := kOf_struct (d := d) (by have := congrArg TK.k g4; exact this.symm)
          rw [hfs] at hf
          simp only [List.getElem?_map, Array.getElem?_toList] at hf
          cases hfa : fa[f]? with
          | none => simp [hfa] at hf
          | some fld =>
            simp only [hfa, Option.map_some, Option.some.injEq, Prod.mk.injEq] at hf
            obtain ⟨rfl, rfl⟩ := hf
            have hsz : (sizeOf fld.type).run P w = .ok i2.size w := by simp [sizeOf, typeInfo, f1]
            have hrun : (Instr.field s (a.eval x) f).run P w = (part fld.type ca fld.offset).run P w := by
              rw [h2]
              simp only [Instr.field, Sem.run_bind, run_underlying g2, Result.andThen_ok, hfa, asAgg, Sem.run_pure]
            split at h
            · rename_i hag
              simp only [Option.some.injEq, Prod.mk.injEq] at h
              obtain ⟨rfl, rfl⟩ := h
              simp only [] at hp hag
              refine lift ⟨.agg (ca.extract fld.offset (fld.offset + i2.size)), ?_, ⟨_, rfl, ?_, fun j c e h1 h2 => ?_⟩⟩
              · rw [hrun]
                simp only [part, Sem.run_bind, run_isAgg_of f2, Result.andThen_ok, hag, if_true, hsz, Sem.run_pure]
              · simp [hl]; omega
              · have hj : j < i2.size := by
                  have := (List.getElem?_eq_some_iff.1 h2).1
                  simp at this; omega
                rw [List.getElem?_take, if_pos hj, List.getElem?_drop] at h2
                refine hr (fld.offset + j) c e ?_ h2
                rw [Array.getElem?_extract] at h1
                split at h1
                · exact h1
                · cases h1
            · rename_i hag
              simp only [Option.some.injEq, Prod.mk.injEq] at h
              obtain ⟨rfl, rfl⟩ := h
              simp only [] at hag
              have hci : ca[fld.offset]? = some (ca[fld.offset]'(by rw [hl]; exact hp)) := Array.getElem?_eq_getElem _
              refine lift ⟨_, ?_, (hr _ _ _ hci (by rw [nth_lt hp]; exact List.getElem?_eq_getElem hp)).rep⟩
              rw [hrun]
              simp only [part, Sem.run_bind, run_isAgg_of f2, Result.andThen_ok, hag, Bool.false_eq_true, if_false, hci, Sem.run_pure]
        · cases h
      · cases h
    · cases h
  case indexAddr t x i =>
    have hx := hρ x (by simp [Op.operands])
    have hi := hρ i (by simp [Op.operands])
    split at h
    · rename_i e _ _ _ es k n hT e1 e2
      rw [e1] at hx; rw [e2] at hi
      split at h
      · rename_i E hE
        simp only [Option.some.injEq, Prod.mk.injEq] at h
        obtain ⟨rfl, rfl⟩ := h
        obtain ⟨⟨h0, hlt⟩, hfl⟩ := hp
        obtain ⟨A, cap, k', f, hx', hk, hA, hc, hr, hcap, hmax⟩ := hx.sl_inv
        have hin : n.toNat < es.length := by omega
        have hne : es ≠ [] := by rintro rfl; simp at hin
        obtain ⟨ad, rfl, hM⟩ := hA hne
        have hkk : k' = E.cells := by rw [← hfl]; exact (hk _ (getD_mem hin)).symm
        subst hkk
        refine lift ⟨_, by rw [hx', hi.v_inv]; exact indexAt_ok hT hE ad _ _ k n h0 hlt, (RepZ.ro _ _ (fun j => f (n.toNat * E.cells + j)) (by rw [add_block]; exact hM) (fun j hj => ?_) fun j e he => ?_).rep⟩
        · rw [add_add]
          refine hc ad rfl _ ?_
          rw [hfl] at hj
          have h1 : (n.toNat + 1) * E.cells ≤ es.length * E.cells := Nat.mul_le_mul_right _ hin
          rw [Nat.succ_mul] at h1
          omega
        · refine hr _ e ?_
          rw [flat_getD hk hin (by rw [← hfl]; exact (List.getElem?_eq_some_iff.1 he).1)]
          exact he
      · cases h
    · rename_i e _ _ _ id k n hT e1 e2
      rw [e1] at hx; rw [e2] at hi
      split at h
      · rename_i E ob hE ho
        simp only [Option.some.injEq, Prod.mk.injEq] at h
        obtain ⟨rfl, rfl⟩ := h
        obtain ⟨⟨h0, hlt⟩, hk⟩ := hp
        have hob := hH id ob ho
        obtain ⟨xs, hown, _⟩ := hob.own
        have ha' : a.eval x = loc id := hx
        rcases hown.2 with ⟨hn, hz⟩ | ⟨g, cap, cur, hn, _⟩
        · omega
        · refine lift ⟨_, by rw [ha', hn, hi.v_inv]; exact indexAt_ok hT hE _ _ _ k n h0 hlt, ?_⟩
          exact ⟨g, _, _, hn, by rw [add_mk, hk]; simp⟩
      · cases h
    · rename_i e _ _ _ id kk lo m k n hT e1 e2
      rw [e1] at hx; rw [e2] at hi
      split at h
      · rename_i E hE
        simp only [Option.some.injEq, Prod.mk.injEq] at h
        obtain ⟨rfl, rfl⟩ := h
        obtain ⟨⟨h0, hlt⟩, hk⟩ := hp
        obtain ⟨A, c, hxv, hnc, hcm, hA⟩ := hx
        obtain ⟨g, m2, d2, hn, rfl⟩ := hA (by omega)
        refine lift ⟨_, by rw [hxv, hi.v_inv]; exact indexAt_ok hT hE _ _ _ k n h0 hlt, ?_⟩
        exact ⟨g, _, _, hn, by rw [add_mk, hk, Nat.add_mul]; simp⟩
      · cases h
    · cases h
  case index t x i =>
    have hx := hρ x (by simp [Op.operands])
    have hi := hρ i (by simp [Op.operands])
    split at h
    · rename_i s k n hT e1 e2
      rw [e1] at hx; rw [e2] at hi
      simp only [Option.some.injEq, Prod.mk.injEq] at h
      obtain ⟨rfl, rfl⟩ := h
      obtain ⟨i1, d, z', g1, g2, g3, g4⟩ := tyk_spec hT
      have := kOf_str (d := d) (by have := congrArg TK.k g4; exact this.symm)
      subst this
      refine lift ⟨_, ?_, (RepZ.v _).rep⟩
      rw [hx.v_inv, hi.v_inv]
      have hlt : n.toNat < s.size := by omega
      have hs : s[n.toNat]? = some (s[n.toNat]'hlt) := by simp [hlt]
      have hd : s.data.getD n.toNat 0 = s[n.toNat]'hlt := by
        rw [Array.getD_eq_getD_getElem?, Array.getElem?_eq_getElem hlt]; rfl
      simp only [Instr.index, asIntOf, Sem.run_bind, Sem.run_pure, Result.andThen_ok, run_underlying g2, if_pos hp.1, hs, hd]
    · rename_i m e _ _ _ cs k n hT e1 e2
      rw [e1] at hx; rw [e2] at hi
      split at h
      · rename_i E hE
        split at h
        · cases h
        · rename_i hag
          simp only [Option.some.injEq, Prod.mk.injEq] at h
          obtain ⟨rfl, rfl⟩ := h
          obtain ⟨hnm, hE1, hnl⟩ := hp
          obtain ⟨ca, h2, hl, hr⟩ := hx.agg_inv
          obtain ⟨i1, d, z', g1, g2, g3, g4⟩ := tyk_spec hT
          obtain ⟨i2, d2, z2, f1, f2, f3, rfl⟩ := tyk_spec hE
          have := kOf_arr (d := d) (by have := congrArg TK.k g4; exact this.symm)
          subst this
          have hlt : n.toNat < cs.length := by omega
          have hci : ca[n.toNat]? = some (ca[n.toNat]'(by rw [hl]; exact hlt)) := Array.getElem?_eq_getElem _
          have hsz : (sizeOf e).run P w = .ok 1 w := by
            have hE1' : i2.size = 1 := hE1
            simp [sizeOf, typeInfo, f1, hE1']
          refine lift ⟨_, ?_, (hr _ _ _ hci (by rw [nth_lt hlt]; exact List.getElem?_eq_getElem hlt)).rep⟩
          rw [h2, hi.v_inv]
          simp only [Instr.index, asIntOf, Sem.run_bind, Sem.run_pure, Result.andThen_ok, run_underlying g2, if_pos hnm, hsz, Nat.mul_one]
          simp only [part, Sem.run_bind, run_isAgg_of f2, Result.andThen_ok, hag, Bool.false_eq_true, if_false, hci, Sem.run_pure]
      · cases h
    · cases h
  case slice t x lo hi mx =>
    cases mx with
    | some m => simp only [pur, reduceCtorEq] at h
    | none =>
    simp only [pur] at h
    have hx := hρ x (by simp [Op.operands])
    have hlo : ∀ l, lo = some l → Rep w M loc (a.eval l) (ρ l) := fun l hl => hρ l (by simp [Op.operands, hl])
    have hhi : ∀ l, hi = some l → Rep w M loc (a.eval l) (ρ l) := fun l hl => hρ l (by simp [Op.operands, hl])
    split at h
    · rename_i s hT e1
      rw [e1] at hx
      have hxv := hx.v_inv
      split at h
      all_goals first | (cases h; done) | skip
      all_goals
        simp only [Option.some.injEq, Prod.mk.injEq] at h
        obtain ⟨rfl, rfl⟩ := h
      · rename_i h1 h2
        simp only [Option.map_eq_none_iff] at h1 h2
        subst h1; subst h2
        refine lift ⟨_, by rw [hxv]; exact sliceStr_ok hT s none none 0 s.size (.inl ⟨rfl, rfl⟩) (.inl ⟨rfl, rfl⟩), ?_⟩
        have : s.extract 0 s.size = s := by simp
        rw [this]; exact (RepZ.v _).rep
      · rename_i k l h1 h2
        simp only [Option.map_eq_none_iff] at h2
        subst h2
        simp only [Option.map_eq_some_iff] at h1
        obtain ⟨lx, rfl, h1⟩ := h1
        have hl := hlo lx rfl
        rw [h1] at hl
        exact lift ⟨_, by rw [hxv]; exact sliceStr_ok hT s _ none l.toNat s.size (.inr ⟨k, l, by rw [Option.map_some, hl.v_inv], hp.1, hp.2, rfl⟩) (.inl ⟨rfl, rfl⟩), (RepZ.v _).rep⟩
      · rename_i k l h2 h1
        simp only [Option.map_eq_none_iff] at h2
        subst h2
        simp only [Option.map_eq_some_iff] at h1
        obtain ⟨lx, rfl, h1⟩ := h1
        have hl := hhi lx rfl
        rw [h1] at hl
        exact lift ⟨_, by rw [hxv]; exact sliceStr_ok hT s none _ 0 l.toNat (.inl ⟨rfl, rfl⟩) (.inr ⟨k, l, by rw [Option.map_some, hl.v_inv], hp.1, hp.2, rfl⟩), (RepZ.v _).rep⟩
      · rename_i k l k2 l2 h1 h2
        simp only [Option.map_eq_some_iff] at h1 h2
        obtain ⟨lx, rfl, h1⟩ := h1
        obtain ⟨rx, rfl, h2⟩ := h2
        have hl := hlo lx rfl
        have hr := hhi rx rfl
        rw [h1] at hl; rw [h2] at hr
        exact lift ⟨_, by rw [hxv]; exact sliceStr_ok hT s _ _ l.toNat l2.toNat (.inr ⟨k, l, by rw [Option.map_some, hl.v_inv], hp.1.1, by omega, rfl⟩) (.inr ⟨k2, l2, by rw [Option.map_some, hr.v_inv], by omega, hp.2, rfl⟩), (RepZ.v _).rep⟩
    · rename_i e _ _ _ es hT e1
      rw [e1] at hx
      obtain ⟨A, cap, k', f, hx', hk, hA, hc, hr, hcap, hmax⟩ := hx.sl_inv
      have hxz : RepZ w M (a.eval x) (.sl es) := hx
      rw [hx'] at hxz
      split at h
      all_goals first | (cases h; done) | skip
      all_goals
        simp only [Option.some.injEq, Prod.mk.injEq] at h
        obtain ⟨rfl, rfl⟩ := h
        obtain ⟨hp1, hfl⟩ := hp
      · rename_i E k l hE h1 h2
        simp only [Option.map_eq_none_iff] at h2
        subst h2
        simp only [Option.map_eq_some_iff] at h1
        obtain ⟨lx, rfl, h1⟩ := h1
        have hl := hlo lx rfl
        rw [h1] at hl
        refine lift ⟨_, by rw [hx']; exact sliceSl_ok hT hE A _ cap hcap _ none l.toNat es.length (.inr ⟨k, l, by rw [Option.map_some, hl.v_inv], hp1.1, hp1.2, rfl⟩) (.inl ⟨rfl, rfl⟩), ?_⟩
        have := (hxz.sub hfl (l := l.toNat) (h := es.length) (by omega) (Nat.le_refl _)).rep (loc := loc)
        rw [List.take_length] at this
        exact this
      · rename_i E k l hE h2 h1
        simp only [Option.map_eq_none_iff] at h2
        subst h2
        simp only [Option.map_eq_some_iff] at h1
        obtain ⟨lx, rfl, h1⟩ := h1
        have hl := hhi lx rfl
        rw [h1] at hl
        refine lift ⟨_, by rw [hx']; exact sliceSl_ok hT hE A _ cap hcap none _ 0 l.toNat (.inl ⟨rfl, rfl⟩) (.inr ⟨k, l, by rw [Option.map_some, hl.v_inv], hp1.1, hp1.2, rfl⟩), ?_⟩
        have := (hxz.sub hfl (l := 0) (h := l.toNat) (by omega) (by omega)).rep (loc := loc)
        rw [List.drop_zero] at this
        exact this
      · rename_i E k l k2 l2 hE h1 h2
        simp only [Option.map_eq_some_iff] at h1 h2
        obtain ⟨lx, rfl, h1⟩ := h1
        obtain ⟨rx, rfl, h2⟩ := h2
        have hl := hlo lx rfl
        have hr := hhi rx rfl
        rw [h1] at hl; rw [h2] at hr
        refine lift ⟨_, by rw [hx']; exact sliceSl_ok hT hE A _ cap hcap _ _ l.toNat l2.toNat (.inr ⟨k, l, by rw [Option.map_some, hl.v_inv], hp1.1.1, by omega, rfl⟩) (.inr ⟨k2, l2, by rw [Option.map_some, hr.v_inv], by omega, hp1.2, rfl⟩), ?_⟩
        exact (hxz.sub hfl (l := l.toNat) (h := l2.toNat) (by omega) (by omega)).rep
    · rename_i e _ _ _ id kk s m hT e1
      rw [e1] at hx
      have hw : RepO loc (a.eval x) (.wn id kk s m) := hx
      split at h
      all_goals first | (cases h; done) | skip
      all_goals
        simp only [Option.some.injEq, Prod.mk.injEq] at h
        obtain ⟨rfl, rfl⟩ := h
        obtain ⟨hp1, hk⟩ := hp
      · rename_i E k l hE h1 h2
        simp only [Option.map_eq_none_iff] at h2
        subst h2
        simp only [Option.map_eq_some_iff] at h1
        obtain ⟨lx, rfl, h1⟩ := h1
        have hl := hlo lx rfl
        rw [h1] at hl
        exact lift (by rw [Option.map_some, hl.v_inv]; exact sliceWin (w := w) (M := M) hT hE hw hk (some (.int k l)) none l.toNat m (Nat.le_refl _) (by omega) (.inr ⟨k, l, rfl, hp1.1, hp1.2, rfl⟩) (.inl ⟨rfl, rfl⟩))
      · rename_i E k l hE h2 h1
        simp only [Option.map_eq_none_iff] at h2
        subst h2
        simp only [Option.map_eq_some_iff] at h1
        obtain ⟨lx, rfl, h1⟩ := h1
        have hl := hhi lx rfl
        rw [h1] at hl
        have := sliceWin (w := w) (M := M) hT hE hw hk none (some (.int k l)) 0 l.toNat (by omega) (by omega) (.inl ⟨rfl, rfl⟩) (.inr ⟨k, l, rfl, hp1.1, hp1.2, rfl⟩)
        rw [Nat.add_zero, Nat.sub_zero] at this
        exact lift (by rw [Option.map_some, hl.v_inv]; exact this)
      · rename_i E k l k2 l2 hE h1 h2
        simp only [Option.map_eq_some_iff] at h1 h2
        obtain ⟨lx, rfl, h1⟩ := h1
        obtain ⟨rx, rfl, h2⟩ := h2
        have hl := hlo lx rfl
        have hr := hhi rx rfl
        rw [h1] at hl; rw [h2] at hr
        exact lift (by rw [Option.map_some, Option.map_some, hl.v_inv, hr.v_inv]; exact sliceWin (w := w) (M := M) hT hE hw hk (some (.int k l)) (some (.int k2 l2)) l.toNat l2.toNat (by omega) (by omega) (.inr ⟨k, l, rfl, hp1.1.1, by omega, rfl⟩) (.inr ⟨k2, l2, rfl, by omega, hp1.2, rfl⟩))
    · cases h
  case makeFunc f first cap =>
    split at h
    · rename_i hc
      simp only [Option.some.injEq, Prod.mk.injEq] at h
      obtain ⟨-, rfl⟩ := h
      simp only [Bool.and_eq_true, Array.all_eq_true_iff_forall_mem] at hc
      have hv : ∀ x, x ∈ first ∨ x ∈ cap → a.eval x = (ρ x).getV := by
        intro x hx
        have h1 := hρ x (by simp [Op.operands]; exact hx)
        have h2 : (ρ x).isV = true := by
          rcases hx with hx | hx
          · exact hc.1 x hx
          · exact hc.2 x hx
        cases hr : ρ x <;> simp [hr, AV.isV] at h2
        rw [hr] at h1
        exact h1.v_inv
      refine lift ⟨.func f (first.map a.eval) (cap.map a.eval), rfl, ?_⟩
      have e1 : first.map a.eval = first.map fun x => (ρ x).getV := Array.map_congr_left fun x hx => hv x (.inl hx)
      have e2 : cap.map a.eval = cap.map fun x => (ρ x).getV := Array.map_congr_left fun x hx => hv x (.inr hx)
      rw [e1, e2]
      exact (RepZ.v _).rep
    · split at h
      · rename_i f
        split at h
        · rename_i hc
          simp only [Option.some.injEq, Prod.mk.injEq] at h
          obtain ⟨-, rfl⟩ := h
          simp only [Bool.and_eq_true, Array.all_eq_true_iff_forall_mem] at hc
          have hv : ∀ (l : Array Operand), (∀ x ∈ l, x ∈ first ∨ x ∈ cap) → ∀ (j : Nat) (c : Value) (e : AV), (l.map a.eval)[j]? = some c → (l.toList.map ρ)[j]? = some e → RepB w M loc c e := by
            intro l hl j c e h1 h2
            simp only [Array.getElem?_map, List.getElem?_map, Array.getElem?_toList] at h1 h2
            cases hx : l[j]? with
            | none => rw [hx] at h1; cases h1
            | some x =>
              rw [hx] at h1 h2
              cases h1; cases h2
              have hm := hl x (Array.mem_of_getElem? hx)
              have hr := hρ x (by simp [Op.operands]; exact hm)
              refine hr.repB ?_
              rcases hm with hm | hm
              · exact hc.1 x hm
              · exact hc.2 x hm
          exact lift ⟨_, rfl, ⟨_, _, rfl, by simp, by simp, hv first (fun x hx => .inl hx), hv cap (fun x hx => .inr hx)⟩⟩
        · cases h
      · cases h
  case call c =>
    obtain ⟨callee, args, ats⟩ := c
    obtain ⟨args⟩ := args
    obtain ⟨ats⟩ := ats
    split at h
    · rename_i x t e1 e2 e3
      simp only [] at e1 e2 e3
      subst e1; subst e2; subst e3
      have hx := hρ x (by simp [Op.operands, Call.operands])
      split at h
      · rename_i T hT
        cases hl : lenA T.k H (ρ x) with
        | none => simp [hl] at h
        | some r' =>
          simp only [hl, Option.map_some, Option.some.injEq, Prod.mk.injEq] at h
          obtain ⟨-, rfl⟩ := h
          obtain ⟨v, h1, h2⟩ := lenA_ok (ty := ty) hH hT hx hl
          exact ⟨v, by simp [execOp, resolve, invoke, builtin, h1], h2⟩
      · cases h
    · rename_i ts x y e1 e2
      simp only [] at e1 e2
      subst e1; subst e2
      have hx := hρ x (by simp [Op.operands, Call.operands])
      have hy := hρ y (by simp [Op.operands, Call.operands])
      split at h
      · rename_i k p1 k2 q1 e1 e2
        rw [e1] at hx; rw [e2] at hy
        simp only [Option.some.injEq, Prod.mk.injEq] at h
        obtain ⟨-, rfl⟩ := h
        refine ⟨.int k (max p1 q1), ?_, (RepZ.v _).rep⟩
        simp only [execOp, resolve, invoke, builtin, Sem.run_bind, Sem.run_pure, Result.andThen_ok, List.map_toArray, List.map_cons, List.map_nil, hx.v_inv, hy.v_inv, Builtin.max_, List.foldlM, Builtin.max2]
        congr 3
        split <;> omega
      · cases h
    · rename_i ts x y e1 e2
      simp only [] at e1 e2
      subst e1; subst e2
      have hx := hρ x (by simp [Op.operands, Call.operands])
      have hy := hρ y (by simp [Op.operands, Call.operands])
      split at h
      · rename_i k p1 k2 q1 e1 e2
        rw [e1] at hx; rw [e2] at hy
        simp only [Option.some.injEq, Prod.mk.injEq] at h
        obtain ⟨-, rfl⟩ := h
        refine ⟨.int k (min p1 q1), ?_, (RepZ.v _).rep⟩
        simp only [execOp, resolve, invoke, builtin, Sem.run_bind, Sem.run_pure, Result.andThen_ok, List.map_toArray, List.map_cons, List.map_nil, hx.v_inv, hy.v_inv, Builtin.min_, List.foldlM, Builtin.min2]
        congr 3
        split <;> omega
      · cases h
    · cases h

theorem sliceX_ok {X : Ctx} {H : List Cell} (hH : HeapOK X w M loc H) {o : Oper} {a : Act} {ρ : Operand → AV} (hρ : ∀ x ∈ o.op.operands, Rep w M loc (a.eval x) (ρ x)) {p : Prop} {r : AV}
    (h : sliceX P H ρ o.op = some (p, r)) (hp : p) : ∃ v, (execOp a.eval o).run P w = .ok (.value v) w ∧ Rep w M loc v r := by
  obtain ⟨dst, op, ty, pos, after, guard⟩ := o
  have lift : ∀ {s : Sem Value}, PurOK P w M loc s r → ∃ v, (do pure (Next.value (← s)) : Sem Next).run P w = .ok (.value v) w ∧ Rep w M loc v r := by
    rintro s ⟨v, h1, h2⟩
    exact ⟨v, by simp only [Sem.run_bind, h1, Result.andThen_ok, Sem.run_pure], h2⟩
  simp only [] at h hρ
  cases op <;> simp only [sliceX, reduceCtorEq] at h
  case slice t x lo hi mx =>
    cases mx with
    | some m => simp only [reduceCtorEq] at h
    | none =>
    simp only [] at h
    have hx := hρ x (by simp [Op.operands])
    have hlo : ∀ l, lo = some l → Rep w M loc (a.eval l) (ρ l) := fun l hl => hρ l (by simp [Op.operands, hl])
    have hhi : ∀ l, hi = some l → Rep w M loc (a.eval l) (ρ l) := fun l hl => hρ l (by simp [Op.operands, hl])
    split at h
    · rename_i e _ _ _ id hT e1
      rw [e1] at hx
      split at h
      · rename_i o ho
        have hw := (hH id o ho).win
        have hx' : a.eval x = loc id := hx
        rw [← hx'] at hw
        split at h
        all_goals first | (cases h; done) | skip
        all_goals
          simp only [Option.some.injEq, Prod.mk.injEq] at h
          obtain ⟨rfl, rfl⟩ := h
          obtain ⟨hp1, hk⟩ := hp
        · rename_i E k l hE h1 h2
          simp only [Option.map_eq_none_iff] at h2
          subst h2
          simp only [Option.map_eq_some_iff] at h1
          obtain ⟨lx, rfl, h1⟩ := h1
          have hl := hlo lx rfl
          rw [h1] at hl
          have := sliceWin (w := w) (M := M) hT hE hw hk (some (.int k l)) none l.toNat o.es.length (Nat.le_refl _) (by omega) (.inr ⟨k, l, rfl, hp1.1, hp1.2, rfl⟩) (.inl ⟨rfl, rfl⟩)
          rw [Nat.zero_add] at this
          exact lift (by rw [Option.map_some, hl.v_inv]; exact this)
        · rename_i E k l hE h2 h1
          simp only [Option.map_eq_none_iff] at h2
          subst h2
          simp only [Option.map_eq_some_iff] at h1
          obtain ⟨lx, rfl, h1⟩ := h1
          have hl := hhi lx rfl
          rw [h1] at hl
          have := sliceWin (w := w) (M := M) hT hE hw hk none (some (.int k l)) 0 l.toNat (by omega) (by omega) (.inl ⟨rfl, rfl⟩) (.inr ⟨k, l, rfl, hp1.1, hp1.2, rfl⟩)
          rw [Nat.zero_add, Nat.sub_zero] at this
          exact lift (by rw [Option.map_some, hl.v_inv]; exact this)
        · rename_i E k l k2 l2 hE h1 h2
          simp only [Option.map_eq_some_iff] at h1 h2
          obtain ⟨lx, rfl, h1⟩ := h1
          obtain ⟨rx, rfl, h2⟩ := h2
          have hl := hlo lx rfl
          have hr := hhi rx rfl
          rw [h1] at hl; rw [h2] at hr
          have := sliceWin (w := w) (M := M) hT hE hw hk (some (.int k l)) (some (.int k2 l2)) l.toNat l2.toNat (by omega) (by omega) (.inr ⟨k, l, rfl, hp1.1.1, by omega, rfl⟩) (.inr ⟨k2, l2, rfl, by omega, hp1.2, rfl⟩)
          rw [Nat.zero_add] at this
          exact lift (by rw [Option.map_some, Option.map_some, hl.v_inv, hr.v_inv]; exact this)
      · cases h
    · cases h

end
end Go.Ab
