import Derived.Test.YthibhamepjhfjaaGreatDoorTeP20
set_option linter.all false
namespace Go.Proofs.YthibhamepjhfjaaGreatDoor
open Go.ChangeShapes Go.WideShapes Go.ChangeAt Go.RowKit Go.Ab
structure BA where
 s : Int
 L : List Int
 h : L.length ≤ 9223372036854775807
theorem CN {H : Type} {enc : TypeId × Value → H} {W : World} {base : Nat} {M : Nat → Prop} (hM : ∀ b,b < W.heap.size → M b) : ∀ n cs y,DataW.trod enc Tryz.prog W base (fun _ => true) true n 39 cs = some y → cs.length = 2 → ∃ x : BA,∀ (j : Nat) (c : Value) (z : AV),cs[j]? = some c → (big2 x.s x.L).flat[j]? = some z → RepZ W M c z :=by
 intro n cs y h hl
 match cs,hl with
 | [c0,c1],_ =>
   obtain ⟨n0,y0,h0⟩ :=nV (c :=c0) Tryz.underlying39 h (i :=0) rfl (by kernel_rfl) rfl
   obtain ⟨n1,y1,h1⟩ :=nV (c :=c1) Tryz.underlying39 h (i :=1) rfl (by kernel_rfl) rfl
   obtain ⟨a,rfl⟩ :=s5 Tryz.underlying3 h0
   obtain ⟨v,hv,L,hL,hr⟩ :=l8 (M :=M) ii 1 (by decide) (fun _ => rfl) Tryz.underlying22 (by kernel_rfl) hM (x7 Tryz.underlying3) h1
   have : v = c1 :=by simpa using hv.symm
   subst this
   refine ⟨⟨a,L,by have : maxLen = 9223372036854775807 :=rfl; omega⟩,fun j x z hx hz => ?_⟩
   match j with
   | 0 => simp [AV.flat_agg] at hx hz; subst hx; subst hz; exact .v _
   | 1 => simp [AV.flat_agg] at hx hz; subst hx; subst hz; exact hr
   | j + 2 => simp at hx
theorem lW {H : Type} {enc : TypeId × Value → H} {P : Program} {W : World} {base : Nat} {spare : Nat → Bool} {held : Bool} {e : TypeId} {fs : Array Field} {n : Nat} {cs : List Value} {y : DataW H × List MemPlace} (he : P.underlying e = some (.struct fs)) (h : DataW.trod enc P W base spare held n e cs = some y) {i : Nat} {f : Field} (hf : fs[i]? = some f) :
  ∃ n' y',DataW.trod enc P W base spare held n' f.type ((cs.drop f.offset).take (P.cellsOf f.type)) = some y' :=by
 obtain ⟨ys,n',_,_,_,hyl,hff⟩ :=DataW.trod_struct he h
 have h1 :=hff i f hf
 have hjl : i < fs.size :=(Array.getElem?_eq_some_iff.1 hf).1
 rw [List.getElem?_eq_getElem (by omega : i < ys.length)] at h1
 exact ⟨n',_,h1⟩
structure FA where
 s : Int
 L : List Int
 h : L.length ≤ 9223372036854775807
 t : Int
 K : List Int
 g : K.length ≤ 9223372036854775807
theorem FY {H : Type} {enc : TypeId × Value → H} {W : World} {base : Nat} {M : Nat → Prop} (hM : ∀ b,b < W.heap.size → M b) : ∀ n cs y,DataW.trod enc Tryz.prog W base (fun _ => true) true n 41 cs = some y → cs.length = 4 → ∃ x : FA,∀ (j : Nat) (c : Value) (z : AV),cs[j]? = some c → (frac4 x.s x.L x.t x.K).flat[j]? = some z → RepZ W M c z :=by
 intro n cs y h hl
 match cs,hl with
 | [c0,c1,c2,c3],_ =>
   obtain ⟨n0,y0,h0⟩ :=lW Tryz.underlying41 h (i :=0) rfl
   obtain ⟨n1,y1,h1⟩ :=lW Tryz.underlying41 h (i :=1) rfl
   have hC : Tryz.prog.cellsOf 39 = 2 :=by kernel_rfl
   have h0 : DataW.trod enc Tryz.prog W base (fun _ => true) true n0 39 (([c0,c1,c2,c3].drop 0).take (Tryz.prog.cellsOf 39)) = some y0 :=h0
   have h1 : DataW.trod enc Tryz.prog W base (fun _ => true) true n1 39 (([c0,c1,c2,c3].drop 2).take (Tryz.prog.cellsOf 39)) = some y1 :=h1
   rw [hC] at h0 h1
   obtain ⟨a,ha⟩ :=CN (M :=M) hM n0 [c0,c1] y0 h0 rfl
   obtain ⟨b,hb⟩ :=CN (M :=M) hM n1 [c2,c3] y1 h1 rfl
   refine ⟨⟨a.s,a.L,a.h,b.s,b.L,b.h⟩,fun j x z hx hz => ?_⟩
   match j with
   | 0 => exact ha 0 x z hx hz
   | 1 => exact ha 1 x z hx hz
   | 2 => exact hb 0 x z hx hz
   | 3 => exact hb 1 x z hx hz
   | j + 4 => simp at hx
def FA.fr (x : FA) : Fr :=⟨x.s,x.L,x.t,x.K⟩
set_option maxRecDepth 100000 in
theorem CO {H : Type} {enc : TypeId × Value → H} {W : World} {base : Nat} {v : Value} {d : DataW H} {p : List MemPlace} {M : Nat → Prop} {r : Go.Reach} {b0 : Nat} (hM : ∀ b,b < W.heap.size → M b)
  (hval : Value.okWide Tryz.prog W r b0 24 v) (h : DataW.Trod enc Tryz.prog W base (fun _ => true) true 24 v d p) : ∃ L : List Fr,(L.length ≤ 9223372036854775807 ∧ hgFr L) ∧ RepZ W M v (.sl (L.map fv)) :=by
 obtain ⟨L,hl,hr⟩ :=jT (fun x : FA => frac4 x.s x.L x.t x.K) 4 (by decide) (fun _ => rfl) Tryz.underlying24 (by kernel_rfl) hM (FY hM) hval h
 refine ⟨L.map FA.fr,⟨by rw [List.length_map]; exact hl,fun x hx => ?_⟩,?_⟩
 · obtain ⟨y,_,rfl⟩ :=List.mem_map.1 hx
   exact ⟨y.h,y.g⟩
 · rw [List.map_map]; exact hr
end Go.Proofs.YthibhamepjhfjaaGreatDoor

