/-
  Lemmas for the statement at the top.
-/
import Derived.Test.YtaolljbpencjnaaGreatDoorTP7
import Derived.Test.YtaolljbpencjnaaGreatDoorTP5
set_option linter.all false
namespace Go.Ab
def q15x0 : List Nat :=[0,2,3,4,56,1000000]
def q15x1 : List Nat :=[0,1,2,4,5,6,7,8,19,43,1000000]
def q15x2 : List Nat :=[0,1,2,6,7,8,19,21,1000000,1000001]
def q15x3 : List Nat :=[0,1,4,5,7,8,9,16,1000000,1000001]
def q15x4 : List Nat :=[0,2,3,4,5,13]
def q15x5 : List Nat :=[0,1,4,7,1000000]
attribute [go_sem] q15x0 q15x1 q15x2 q15x3 q15x4 q15x5
end Go.Ab
namespace Go.Proofs.YtaolljbpencjnaaGreatDoor
open Go.RowKit Go.Ab
attribute [local irreducible] AWP Go.Ab.Sub Means MeansH CallK CallG CallT CallGT PanicH
theorem vY {ts : List Tk} {i : Nat} (h : (opTab.findIdx? fun o => isT ts o.text i) = none) : opAt ts i = none :=by
 unfold opAt
 rw [List.find?_eq_none]
 intro o ho
 rw [List.findIdx?_eq_none_iff.1 h o ho]; simp
theorem vZ {ts : List Tk} {i n : Nat} (h : (opTab.findIdx? fun o => isT ts o.text i) = some n) : ∃ hn : n < opTab.length,opAt ts i = some opTab[n] ∧ isT ts opTab[n].text i = true :=by
 obtain ⟨h1,h2,h3⟩ :=List.findIdx?_eq_some_iff_getElem.1 h
 refine ⟨h1,?_,h2⟩
 unfold opAt
 rw [List.find?_eq_some_iff_getElem]
 exact ⟨h2,n,h1,rfl,fun j hj => by simpa using h3 j hj⟩
theorem BE {o : Opr} (h : o ∈ opTab) : 1 ≤ o.form ∧ o.form ≤ 6 :=by
 simp only [opTab,List.mem_cons,List.not_mem_nil,or_false] at h
 rcases h with rfl | rfl | rfl | rfl | rfl | rfl | rfl | rfl <;> decide
set_option maxHeartbeats 8000000 in
theorem yN {ts : List Tk} (hn : OkT ts) {f : Nat} (hE : ∀ g,g ≤ f → ExpC ts g) (hP : ∀ (form : Int) i,i < ts.length → 3 * (ts.length - i) + 2 ≤ f → OutH Tryz.prog 131 [pst ts i] [pp,ii form] (outP (prefixF f ts form i) (fun x => .tup [ex x.1,ii x.2]) ts [])) (form : Int) {i : Nat} (hi : i < ts.length) (hf : 3 * (ts.length - i) + 2 ≤ f) :
  OutH Tryz.prog 104 [pst ts i] [pp,ii form] (outP (expF (f + 1) ts form i) ex ts []) :=by
 have hlen :=hn.len
 have one : ∀ {s : By} {i j : Nat},i < ts.length → wantT ts [s] i = .ok () j → i < j ∧ j < ts.length :=fun hi hw => by have :=bG hn hi hw; simp at this; omega
 have c1 :=hP form i hi hf
 rw [expF]
 refine cR 1 64 [.cell 4 29] Tryz.func104 rfl rfl rfl (by simp) (by decide) rfl fun X hX => ?_
 (repeat (refine aB q15x1 hX mixed rfl ?_; (simp [go_sem]; try (refine ⟨by kernel_rfl,?_⟩))))
 cases e1 : prefixF f ts form i with
 | no p e =>
   first | refine aO [0] (aT c1 e1) (by simp [go_sem]) ?_ | refine aL [0] (aT c1 e1) (by simp [go_sem]) ?_
   simp [go_sem,Pr.bind_no]
 | ok x j0 =>
 rw [Pr.bind_ok]
 have b1 :=(g6 hn f).2.2.1 _ _ _ _ hi e1
 first | refine aF [0] (aN c1 e1) (by simp [go_sem]) ?_ | refine aD [0] (aN c1 e1) (by simp [go_sem]) ?_ | refine aE [0] (aN c1 e1) (by simp [go_sem]) ?_
 try (simp [go_sem]; try (refine ⟨by kernel_rfl,?_⟩))
 (repeat (refine aB q15x1 hX mixed rfl ?_; (simp [go_sem]; try (refine ⟨by kernel_rfl,?_⟩))))
 refine aV (fun (q : Nat × E × Int × Nat) => ⟨mkE [(1,ii form),(2,.el 1 1 0 0),(4,.el 2 5 0 0),(5,.el 3 5 0 0),(6,ii q.2.2.1),(1000000,.ow 0)],[pst ts q.2.2.2,pbox,.row ⟨29,5,[.agg [ii 0,ii 0,ii 0,ss [],.nil]]⟩,.row ⟨29,5,[ex q.2.1]⟩]⟩)
  (fun q => q.1 ≤ f ∧ q.2.2.2 < ts.length ∧ 3 * (ts.length - q.2.2.2) + 3 ≤ q.1 ∧ loopF f ts form x.1 x.2 j0 = loopF q.1 ts form q.2.1 q.2.2.1 q.2.2.2) (fun q => ts.length - q.2.2.2) (f,x.1,x.2,j0) ?_ ?_ ?_
 · refine aM _ [.old 0 ⟨119,2,[.agg [.sl (ts.map tk),ii (j0)]]⟩,.old 1 ⟨69,1,[.el 0 2 0 0]⟩,.old 2 ⟨29,5,[.agg [ii 0,ii 0,ii 0,ss [],.nil]]⟩,.old 3 ⟨29,5,[ex (x.1)]⟩] (by simp [go_sem]) ?_
   simp [go_sem]
 · refine ⟨Nat.le_refl _,b1.2,?_,rfl⟩
   show 3 * (ts.length - j0) + 3 ≤ f
   omega
 · rintro ⟨g,e,own,at_⟩ ⟨hg,hat,hm,hl⟩
   simp only [] at hg hat hm hl ⊢
   rw [hl]
   obtain ⟨g',rfl⟩ : ∃ g',g = g' + 1 :=⟨g - 1,by omega⟩
   rw [loopF]
   have d1 :=qO
   have d2 :=vV hn hat opTab (by decide) (by simp [go_sem])
   (repeat (refine aB q15x1 hX mixed rfl ?_; (simp [go_sem]; try (refine ⟨by kernel_rfl,?_⟩))))
   first | refine aP (d1) ?_ | refine aQ (d1) ?_
   try (simp [go_sem]; try (refine ⟨by kernel_rfl,?_⟩))
   first | refine aF [0,1] (d2) (by simp [go_sem]) ?_ | refine aD [0,1] (d2) (by simp [go_sem]) ?_ | refine aE [0,1] (d2) (by simp [go_sem]) ?_
   try (simp [go_sem]; try (refine ⟨by kernel_rfl,?_⟩))
   cases hx : opTab.findIdx? fun o => isT ts o.text at_ with
   | none =>
     rw [vY hx,bB]
     (repeat (refine aB q15x1 hX mixed rfl ?_; (simp [go_sem]; try (refine ⟨by kernel_rfl,?_⟩))))
     refine aC (b :=true) (by simp [go_sem]) (fun hb => ?_) (fun hb => by cases hb)
     (repeat (refine aB q15x1 hX mixed rfl ?_; (simp [go_sem]; try (refine ⟨by kernel_rfl,?_⟩))))
     refine aK ?_; (try simp only [thenQ,blkQ,loopQ]); refine aJ [(1000000,.ow 0)] [.old 0 ⟨119,2,[.agg [.sl (ts.map tk),ii (at_)]]⟩] ?_
     simp [go_sem]
   | some n =>
   obtain ⟨hn1,ho,hs⟩ :=vZ hx
   rw [ho]
   have hof :=BE (List.getElem_mem hn1)
   have hq :=yI hn1
   generalize opTab[n] = o at ho hs hof hq
   have hat1 :=hn.has hat hs
   have wk :=w64 (x :=(at_ : Int) + 1) (by omega) (by omega)
   have wf :=w64 (x :=o.form + 1) (by omega) (by omega)
   (repeat (refine aB q15x1 hX mixed rfl ?_; (simp [go_sem]; try (refine ⟨by kernel_rfl,?_⟩))))
   refine aC (b :=false) (by simp [go_sem]) (fun hb => by cases hb) (fun hb => ?_)
   (repeat (refine aB q15x1 hX mixed rfl ?_; (simp [go_sem]; try (refine ⟨by kernel_rfl,?_⟩))))
   first | refine aP (d1) ?_ | refine aQ (d1) ?_
   try (simp [go_sem,hn1,hq]; try (refine ⟨by kernel_rfl,?_⟩))
   (repeat (refine aB q15x1 hX mixed rfl ?_; (simp [go_sem,hn1,hq]; try (refine ⟨by kernel_rfl,?_⟩))))
   refine ⟨fun a b c => ⟨⟨a,b⟩,c⟩,?_⟩
   refine aC (b :=decide (o.form < form) || decide (own < o.form) || decide (own = 4) && decide (o.form = 4)) (by simp [go_sem]) (fun hc => ?_) (fun hc => ?_)
   · have hc' : o.form < form ∨ own < o.form ∨ (own = 4 ∧ o.form = 4) :=by simpa [or_assoc] using hc
     rw [if_pos hc',bB]
     (repeat (refine aB q15x1 hX mixed rfl ?_; (simp [go_sem]; try (refine ⟨by kernel_rfl,?_⟩))))
     refine aK ?_; (try simp only [thenQ,blkQ,loopQ]); refine aJ [(1000000,.ow 0)] [.old 0 ⟨119,2,[.agg [.sl (ts.map tk),ii (at_)]]⟩] ?_
     simp [go_sem]
   · have hc' : ¬ (o.form < form ∨ own < o.form ∨ (own = 4 ∧ o.form = 4)) :=by
      rintro h
      have : (decide (o.form < form) || decide (own < o.form) || decide (own = 4) && decide (o.form = 4)) = true :=by simpa [or_assoc] using h
      rw [this] at hc; cases hc
     rw [if_neg hc']
     have d3 :=(hE g' (by omega)).exp (o.form + 1) (at_ + 1) hat1 (by omega)
     have b2 :=(g6 hn g').1 (o.form + 1) (at_ + 1)
     cases e2 : expF g' ts (o.form + 1) (at_ + 1) with
     | no p q =>
       (repeat (first | refine bV ?_ | refine bS ?_))
       ((first | refine cG q15x1 hX ?_ | refine bT q15x1 hX mixed ?_ | refine aK ?_ | refine bF ?_ | refine cH ?_); (simp [go_sem]; try (refine ⟨by kernel_rfl,?_⟩)))
       (repeat (first | refine bV ?_ | refine bS ?_))
       ((first | refine cG q15x1 hX ?_ | refine bT q15x1 hX mixed ?_ | refine aK ?_ | refine bF ?_ | refine cH ?_); (simp [go_sem,wk]; try (refine ⟨by kernel_rfl,?_⟩)))
       (repeat (first | refine bV ?_ | refine bS ?_))
       refine gM 7 hX mixed (by kernel_rfl) (by kernel_rfl) ?_; (simp [go_sem,wf]; try (refine ⟨by kernel_rfl,?_⟩))
       first | refine aO [0] (aT d3 e2) (by simp [go_sem]) ?_ | refine aL [0] (aT d3 e2) (by simp [go_sem]) ?_
       simp [go_sem,Pr.bind_no]
     | ok y j =>
     rw [Pr.bind_ok]
     have b2 :=b2 y j hat1 e2
     (repeat (refine aB q15x1 hX mixed rfl ?_; (simp [go_sem,wk,wf]; try (refine ⟨by kernel_rfl,?_⟩))))
     first | refine aF [0] (aN d3 e2) (by simp [go_sem]) ?_ | refine aD [0] (aN d3 e2) (by simp [go_sem]) ?_ | refine aE [0] (aN d3 e2) (by simp [go_sem]) ?_
     try (simp [go_sem]; try (refine ⟨by kernel_rfl,?_⟩))
     (repeat (refine aB q15x1 hX mixed rfl ?_; (simp [go_sem]; try (refine ⟨by kernel_rfl,?_⟩))))
     refine ⟨g',.bin o.op e y,o.form,j,⟨by omega,b2.2,by omega,rfl⟩,by omega,?_⟩
     · refine aM _ [.old 0 ⟨119,2,[.agg [.sl (ts.map tk),ii (j)]]⟩,.old 1 ⟨69,1,[.el 0 2 0 0]⟩,.old 2 ⟨29,5,[.agg [ii 0,ii 0,ii 0,ss [],.nil]]⟩,.old 3 ⟨29,5,[ex (.bin o.op e y)]⟩] (by simp [go_sem]) ?_
       simp [go_sem]
theorem uC {ts : List Tk} (hn : OkT ts) : ∀ f : Nat,(∀ g,g ≤ f → ExpC ts g) ∧ (∀ (form : Int) i,i < ts.length → 3 * (ts.length - i) + 2 ≤ f → OutH Tryz.prog 131 [pst ts i] [pp,ii form] (outP (prefixF f ts form i) (fun x => .tup [ex x.1,ii x.2]) ts [])) ∧
  ∀ i,i < ts.length → 3 * (ts.length - i) + 1 ≤ f → OutH Tryz.prog 159 [pst ts i] [pp] (outP (primaryF f ts i) ex ts [])
 | 0 => ⟨fun g hg => ⟨fun form i hi h => by omega⟩,fun form i hi h => by omega,fun i hi h => by omega⟩
 | f + 1 => by
   obtain ⟨hE,hP,hQ⟩ :=uC hn f
   refine ⟨fun g hg => ?_,fun form i hi h => yJ hn (hE f (Nat.le_refl _)) hQ form hi (by omega),fun i hi h => vX hn (hE f (Nat.le_refl _)) hi (by omega)⟩
   by_cases hgf : g ≤ f
   · exact hE g hgf
   · have : g = f + 1 :=by omega
     subst this
     exact ⟨fun form i hi h => yN hn hE hP form hi (by omega)⟩
theorem DZ {ts : List Tk} (hn : OkT ts) (form : Int) {i : Nat} (hi : i < ts.length) : OutH Tryz.prog 104 [pst ts i] [pp,ii form] (outP (expT ts form i) ex ts []) :=
 ((uC hn (3 * ts.length + 5)).1 _ (Nat.le_refl _)).exp form i hi (by omega)
end Go.Proofs.YtaolljbpencjnaaGreatDoor

namespace Go.Proofs.YtaolljbpencjnaaGreatDoor
open Go.RowKit Go.Ab
attribute [local irreducible] AWP Go.Ab.Sub Means MeansH CallK CallG CallT CallGT PanicH
set_option maxHeartbeats 4000000 in
theorem oZ {ts : List Tk} (hn : OkT ts) {i : Nat} (hi : i < ts.length) :
  OutH Tryz.prog 63 [pst ts i] [pp] (outP (wholeT ts i) ex ts []) :=by
 have hlen :=hn.len
 have c1 :=DZ hn 0 hi
 unfold wholeT
 refine cR 1 23 [.cell 2 29] Tryz.func63 rfl rfl rfl (by simp) (by decide) rfl fun X hX => ?_
 (repeat (refine aB [0,2,3,1000000] hX mixed rfl ?_; (simp [go_sem]; try (refine ⟨by kernel_rfl,?_⟩))))
 cases e1 : expT ts 0 i with
 | no p e =>
   first | refine aO [0] (aT c1 e1) (by simp [go_sem]) ?_ | refine aL [0] (aT c1 e1) (by simp [go_sem]) ?_
   simp [go_sem,Pr.bind_no]
 | ok e j =>
 rw [Pr.bind_ok]
 have b1 :=(g6 hn _).1 _ _ _ _ hi e1
 have hlev : e.lev ≤ 5000 :=by
  have :=(uD hn _).1 _ _ _ _ hi e1
  omega
 first | refine aF [0] (aN c1 e1) (by simp [go_sem]) ?_ | refine aD [0] (aN c1 e1) (by simp [go_sem]) ?_ | refine aE [0] (aN c1 e1) (by simp [go_sem]) ?_
 try (simp [go_sem]; try (refine ⟨by kernel_rfl,?_⟩))
 have c2 :=qM hn b1.2 [59]
 have c4 :=qP 5000 e hlev (by omega)
 (repeat (refine aB [0,2,3,1000000] hX mixed rfl ?_; (simp [go_sem]; try (refine ⟨by kernel_rfl,?_⟩))))
 first | refine aF [0] (c2) (by simp [go_sem]) ?_ | refine aD [0] (c2) (by simp [go_sem]) ?_ | refine aE [0] (c2) (by simp [go_sem]) ?_
 try (simp [go_sem]; try (refine ⟨by kernel_rfl,?_⟩))
 cases s1 : isT ts [59] j with
 | false =>
   have c3 :=eN hn b1.2 12
   first | refine aO [0] (c3) (by simp [go_sem]) ?_ | refine aL [0] (c3) (by simp [go_sem]) ?_
   simp [go_sem]
 | true =>
 rw [if_pos rfl]
 have c3 :=eM hn b1.2 12
 have hj1 :=hn.has b1.2 s1
 have wk :=w64 (x :=(j : Int) + 1) (by omega) (by omega)
 first | refine aF [0] (c3) (by simp [go_sem]) ?_ | refine aD [0] (c3) (by simp [go_sem]) ?_ | refine aE [0] (c3) (by simp [go_sem]) ?_
 try (simp [go_sem]; try (refine ⟨by kernel_rfl,?_⟩))
 (repeat (refine aB [0,2,3,1000000] hX mixed rfl ?_; (simp [go_sem]; try (refine ⟨by kernel_rfl,?_⟩))))
 first | refine aP (c4) ?_ | refine aQ (c4) ?_
 try (simp [go_sem]; try (refine ⟨by kernel_rfl,?_⟩))
 by_cases hl : e.lev ≤ 12
 · rw [if_pos hl,bB]
   have c5 :=fJ hn b1.2 6 (b :=decide ((e.lev : Int) ≤ 12)) (by simp; omega)
   first | refine aF [0] (c5) (by simp [go_sem]) ?_ | refine aD [0] (c5) (by simp [go_sem]) ?_ | refine aE [0] (c5) (by simp [go_sem]) ?_
   try (simp [go_sem]; try (refine ⟨by kernel_rfl,?_⟩))
   (repeat (refine aB [0,2,3,1000000] hX mixed rfl ?_; (simp [go_sem,wk]; try (refine ⟨by kernel_rfl,?_⟩))))
   refine aK ?_; (try simp only [thenQ,blkQ,loopQ]); refine aJ [(1000000,.ow 0)] [.old 0 ⟨119,2,[.agg [.sl (ts.map tk),ii ((j + 1 : Nat))]]⟩] ?_
   simp [go_sem]
 · rw [if_neg hl]
   have c5 :=fK hn b1.2 6 (b :=decide ((e.lev : Int) ≤ 12)) (by simp; omega)
   first | refine aO [0] (c5) (by simp [go_sem]) ?_ | refine aL [0] (c5) (by simp [go_sem]) ?_
   simp [go_sem]
set_option maxHeartbeats 4000000 in
theorem j9 {ts : List Tk} (hn : OkT ts) {i : Nat} (hi : i < ts.length) (w : By) :
  OutH Tryz.prog 64 [pst ts i] [pp,ss w] (outP (clauseT ts w i) ex ts []) :=by
 have hlen :=hn.len
 have c1 :=dY hn hi w
 have c3 :=vW
 unfold clauseT
 refine cR 1 11 [.cell 4 29] Tryz.func64 rfl rfl rfl (by simp) (by decide) rfl fun X hX => ?_
 (repeat (refine aB q15x5 hX mixed rfl ?_; (simp [go_sem]; try (refine ⟨by kernel_rfl,?_⟩))))
 first | refine aF [0] (c1) (by simp [go_sem]) ?_ | refine aD [0] (c1) (by simp [go_sem]) ?_ | refine aE [0] (c1) (by simp [go_sem]) ?_
 try (simp [go_sem]; try (refine ⟨by kernel_rfl,?_⟩))
 cases s1 : isT ts w i with
 | true =>
   have hi1 :=hn.has hi s1
   rw [if_pos rfl,jI s1]
   have c2 :=oZ hn hi1
   refine aC (b :=true) (by simp [go_sem]) (fun hb => ?_) (fun hb => by cases hb)
   (repeat (refine aB q15x5 hX mixed rfl ?_; (simp [go_sem]; try (refine ⟨by kernel_rfl,?_⟩))))
   cases e1 : wholeT ts (i + 1) with
   | no p e =>
     first | refine aO [0] (aT c2 e1) (by simp [go_sem]) ?_ | refine aL [0] (aT c2 e1) (by simp [go_sem]) ?_
     simp [go_sem,Pr.bind_no]
   | ok e j =>
   rw [bB]
   first | refine aF [0] (aN c2 e1) (by simp [go_sem]) ?_ | refine aD [0] (aN c2 e1) (by simp [go_sem]) ?_ | refine aE [0] (aN c2 e1) (by simp [go_sem]) ?_
   try (simp [go_sem]; try (refine ⟨by kernel_rfl,?_⟩))
   (repeat (refine aB q15x5 hX mixed rfl ?_; (simp [go_sem]; try (refine ⟨by kernel_rfl,?_⟩))))
   refine aK ?_; (try simp only [thenQ,blkQ,loopQ]); refine aJ [(1000000,.ow 0)] [.old 0 ⟨119,2,[.agg [.sl (ts.map tk),ii (j)]]⟩] ?_
   simp [go_sem]
 | false =>
   rw [if_neg (by simp),jH s1,bB]
   refine aC (b :=false) (by simp [go_sem]) (fun hb => by cases hb) (fun hb => ?_)
   (repeat (refine aB q15x5 hX mixed rfl ?_; (simp [go_sem]; try (refine ⟨by kernel_rfl,?_⟩))))
   first | refine aP (c3) ?_ | refine aQ (c3) ?_
   try (simp [go_sem]; try (refine ⟨by kernel_rfl,?_⟩))
   (repeat (refine aB q15x5 hX mixed rfl ?_; (simp [go_sem]; try (refine ⟨by kernel_rfl,?_⟩))))
   refine aK ?_; (try simp only [thenQ,blkQ,loopQ]); refine aJ [(1000000,.ow 0)] [.old 0 ⟨119,2,[.agg [.sl (ts.map tk),ii (i)]]⟩] ?_
   simp [go_sem]
abbrev lt (l : By × E) : AV :=.agg [ss l.1,ii l.2.op,ii l.2.n,ii l.2.u,ss l.2.s,.sl l.2.args]
@[go_sem] theorem fF {L : List (By × E)} {k : Nat} (h : k < L.length) : nth (L.map lt) k = lt L[k] :=cX lt h
abbrev bl (b : Bl) : AV :=.agg [ii b.kind,ii b.period,ii b.grace,ii b.wait,ii b.last,ii b.order,bb b.sld,ii b.backs,ii b.voices,ii b.jury,ii b.fund,.sl (b.lets.map lt),
 ii b.due.op,ii b.due.n,ii b.due.u,ss b.due.s,.sl b.due.args,ii b.fine.op,ii b.fine.n,ii b.fine.u,ss b.fine.s,.sl b.fine.args,ii b.pay.op,ii b.pay.n,ii b.pay.u,ss b.pay.s,.sl b.pay.args,
 ii b.cover.op,ii b.cover.n,ii b.cover.u,ss b.cover.s,.sl b.cover.args,ii b.hold.op,ii b.hold.n,ii b.hold.u,ss b.hold.s,.sl b.hold.args]
abbrev sbox (s : By) : Cell :=.row ⟨9,1,[ss s]⟩
theorem D4 (s : By) (l : By × E) : MeansH Tryz.prog 61 [sbox s] [lt l,.el 0 1 0 0] (bb (decide (l.1 = s))) [sbox s] :=by
 refine aS 1 8 [.tmp 3] Tryz.func61 rfl rfl rfl (by simp) (by decide) rfl fun X hX => ?_
 (repeat (refine aB [0,1,2,3,1000000] hX mixed rfl ?_; (simp [go_sem]; try (refine ⟨by kernel_rfl,?_⟩))))
 refine aK ?_; (try simp only [thenQ,blkQ,loopQ]); refine aJ [(3,bb (decide (l.1 = s))),(1000000,.ow 0)] [.old 0 ⟨9,1,[ss s]⟩] ?_
 simp [go_sem]
abbrev lrow (L : List (By × E)) : Cell :=.row ⟨93,6,L.map lt⟩
set_option maxHeartbeats 4000000 in
theorem sK (s : By) (L : List (By × E)) (hl : L.length ≤ 1000) (hcall : callable Tryz.prog 61 = true) :
  MeansH Tryz.prog 103 [lrow L,sbox s] [.ow 0,.fn 61 [] [.el 1 1 0 0]] (ii (match L.findIdx? fun l => decide (l.1 = s) with | some n => (n : Int) | none => -1)) [lrow L,sbox s] :=by
 refine aS 2 19 [.tmp 4] Tryz.func103 rfl rfl rfl (by simp) (by decide) rfl fun X hX => ?_
 (repeat (refine aB q15x3 hX mixed rfl ?_; (simp [go_sem]; try (refine ⟨by kernel_rfl,?_⟩))))
 refine aV (fun n : Nat => ⟨mkE [(0,.ow 0),(1,.fn 61 [] [.el 1 1 0 0]),(7,ii L.length),(8,ii n),(1000000,.ow 0),(1000001,.ow 1)],[lrow L,sbox s]⟩) (fun n => n ≤ L.length ∧ ∀ k (h : k < L.length),k < n → ¬ L[k].1 = s) (fun n => L.length - n) 0 ?_ ?_ ?_
 · refine aM _ [.old 0 ⟨93,6,L.map lt⟩,.old 1 ⟨9,1,[ss s]⟩] (by simp [go_sem]) ?_
   simp [go_sem]
 · exact ⟨Nat.zero_le _,fun k h hk => absurd hk (by omega)⟩
 · rintro n ⟨h1,h2⟩
   (repeat (refine aB q15x3 hX mixed rfl ?_; (simp [go_sem]; try (refine ⟨by kernel_rfl,?_⟩))))
   refine aC (b :=decide (n < L.length)) (by simp [go_sem]) (fun hc => ?_) (fun hc => ?_)
   · simp at hc
     have hq :=fF hc
     have wk :=w64 (x :=(n : Int) + 1) (by omega) (by omega)
     have c1 :=D4 s L[n]
     (repeat (refine aB q15x3 hX mixed rfl ?_; (simp [go_sem,hc,hq,hcall]; try (refine ⟨by kernel_rfl,?_⟩))))
     first | refine aF [1] (c1) (by simp [go_sem]) ?_ | refine aD [1] (c1) (by simp [go_sem]) ?_ | refine aE [1] (c1) (by simp [go_sem]) ?_
     try (simp [go_sem]; try (refine ⟨by kernel_rfl,?_⟩))
     refine aC (b :=decide (L[n].1 = s)) (by simp [go_sem]) (fun hs => ?_) (fun hs => ?_)
     · simp at hs
       have e1 : L.findIdx? (fun l => decide (l.1 = s)) = some n :=by
        rw [List.findIdx?_eq_some_iff_getElem]
        exact ⟨hc,by simpa using hs,fun k hk => by simpa using h2 k (by omega) hk⟩
       rw [e1]
       (repeat (refine aB q15x3 hX mixed rfl ?_; (simp [go_sem]; try (refine ⟨by kernel_rfl,?_⟩))))
       refine aK ?_; (try simp only [thenQ,blkQ,loopQ]); refine aJ [(4,ii n),(1000000,.ow 0),(1000001,.ow 1)] [.old 0 ⟨93,6,L.map lt⟩,.old 1 ⟨9,1,[ss s]⟩] ?_
       simp [go_sem]
     · simp at hs
       (repeat (refine aB q15x3 hX mixed rfl ?_; (simp [go_sem,wk]; try (refine ⟨by kernel_rfl,?_⟩))))
       refine ⟨n + 1,⟨by omega,fun k h hk => ?_⟩,by omega,?_⟩
       · by_cases e : k = n
         · subst e; exact hs
         · exact h2 k h (by omega)
       · refine aM _ [.old 0 ⟨93,6,L.map lt⟩,.old 1 ⟨9,1,[ss s]⟩] (by simp [go_sem]) ?_
         simp [go_sem]
   · simp at hc
     have e1 : L.findIdx? (fun l => decide (l.1 = s)) = none :=by
      rw [List.findIdx?_eq_none_iff]
      intro x hx
      obtain ⟨k,hk,rfl⟩ :=List.getElem_of_mem hx
      simpa using h2 k hk (by omega)
     rw [e1]
     (repeat (refine aB q15x3 hX mixed rfl ?_; (simp [go_sem]; try (refine ⟨by kernel_rfl,?_⟩))))
     refine aK ?_; (try simp only [thenQ,blkQ,loopQ]); refine aJ [(4,ii (-1)),(1000000,.ow 0),(1000001,.ow 1)] [.old 0 ⟨93,6,L.map lt⟩,.old 1 ⟨9,1,[ss s]⟩] ?_
     simp [go_sem]
theorem mL (s : By) (L : List (By × E)) (hl : L.length ≤ 1000) :
  MeansH Tryz.prog 60 [lrow L,sbox s] [.ow 0,.fn 61 [] [.el 1 1 0 0]] (bb (L.any fun l => decide (l.1 = s))) [lrow L,sbox s] :=by
 have c1 :=sK s L hl (by simp [go_sem])
 refine aS 2 9 [.tmp 4] Tryz.func60 rfl rfl rfl (by simp) (by decide) rfl fun X hX => ?_
 (repeat (refine aB [0,1,4,1000000,1000001] hX mixed rfl ?_; (simp [go_sem]; try (refine ⟨by kernel_rfl,?_⟩))))
 first | refine aF [0,1] (c1) (by simp [go_sem]) ?_ | refine aD [0,1] (c1) (by simp [go_sem]) ?_ | refine aE [0,1] (c1) (by simp [go_sem]) ?_
 try (simp [go_sem]; try (refine ⟨by kernel_rfl,?_⟩))
 (repeat (refine aB [0,1,4,1000000,1000001] hX mixed rfl ?_; (simp [go_sem]; try (refine ⟨by kernel_rfl,?_⟩))))
 have e : bb (L.any fun l => decide (l.1 = s)) = bb (decide (0 ≤ (match L.findIdx? fun l => decide (l.1 = s) with | some n => (n : Int) | none => -1))) :=by
  cases hf : L.findIdx? fun l => decide (l.1 = s) with
  | none =>
    have : (L.any fun l => decide (l.1 = s)) = false :=by
     rw [List.any_eq_false]
     intro x hx
     simpa using List.findIdx?_eq_none_iff.1 hf x hx
    rw [this]; rfl
  | some n =>
    obtain ⟨h1,h2,_⟩ :=List.findIdx?_eq_some_iff_getElem.1 hf
    have : (L.any fun l => decide (l.1 = s)) = true :=List.any_eq_true.2 ⟨L[n],List.getElem_mem h1,h2⟩
    rw [this]
    simp
 rw [e]
 refine aK ?_; (try simp only [thenQ,blkQ,loopQ]); refine aJ [(4,bb (decide (0 ≤ (match L.findIdx? fun l => decide (l.1 = s) with | some n => (n : Int) | none => -1)))),(1000000,.ow 0),(1000001,.ow 1)] [.old 0 ⟨93,6,L.map lt⟩,.old 1 ⟨9,1,[ss s]⟩] ?_
 simp [go_sem]
end Go.Proofs.YtaolljbpencjnaaGreatDoor

namespace Go.Proofs.YtaolljbpencjnaaGreatDoor
open Go.RowKit Go.Ab
attribute [local irreducible] AWP Go.Ab.Sub Means MeansH CallK CallG CallT CallGT PanicH
theorem sL {f : Nat} {ts : List Tk} {acc : List (By × E)} {i : Nat} : letsF (f + 1) ts acc i = if isT ts [108,101,116] i then
   (if acc.length < 20 then
    (if (nx ts (i + 1)).kind = 1 ∧ nameOk (nx ts (i + 1)).text = true then
     (if acc.any fun l => decide (l.1 = (nx ts (i + 1)).text) then .no (nx ts (i + 1)).pos 5
      else (wantT ts [[61]] (i + 1 + 1)).bind fun _ j => (wholeT ts j).bind fun e k => letsF f ts (acc ++ [((nx ts (i + 1)).text,e)]) k)
     else .no (nx ts (i + 1)).pos 12)
    else .no (nx ts i).pos 6)
  else .ok acc i :=rfl
set_option maxHeartbeats 20000000 in
set_option maxRecDepth 20000 in
theorem yO {ts : List Tk} (hn : OkT ts) (hi : 0 < ts.length) :
  OutH Tryz.prog 26 [pst ts 0] [pp] (outP (bylawsT ts) bl ts []) :=by
 have hlen :=hn.len
 have c0 :=CV hn hi
 unfold bylawsT
 refine cR 1 134 [.cell 2 31] Tryz.func26 rfl rfl rfl (by simp) (by decide) rfl fun X hX => ?_
 (repeat (refine aB q15x0 hX mixed rfl ?_; (simp [go_sem]; try (refine ⟨by kernel_rfl,?_⟩))))
 cases e0 : kindT ts 0 with
 | no p e =>
   first | refine aO [0] (aT c0 e0) (by simp [go_sem]) ?_ | refine aL [0] (aT c0 e0) (by simp [go_sem]) ?_
   simp [go_sem,Pr.bind_no]
 | ok k i0 =>
 rw [Pr.bind_ok]
 first | refine aF [0] (aN c0 e0) (by simp [go_sem]) ?_ | refine aD [0] (aN c0 e0) (by simp [go_sem]) ?_ | refine aE [0] (aN c0 e0) (by simp [go_sem]) ?_
 try (simp [go_sem]; try (refine ⟨by kernel_rfl,?_⟩))
 have b0 :=(yP hn hi e0).2
 have q1 :=qM hn b0 [112,101,114,105,111,100]
 (repeat (refine aB q15x0 hX mixed rfl ?_; (simp [go_sem]; try (refine ⟨by kernel_rfl,?_⟩))))
 first | refine aF [0] (q1) (by simp [go_sem]) ?_ | refine aD [0] (q1) (by simp [go_sem]) ?_ | refine aE [0] (q1) (by simp [go_sem]) ?_
 try (simp [go_sem]; try (refine ⟨by kernel_rfl,?_⟩))
 try unfold chk
 cases s1 : isT ts [112,101,114,105,111,100] i0 with
 | false =>
   have c :=eN hn b0 12
   first | refine aO [0] (c) (by simp [go_sem]) ?_ | refine aL [0] (c) (by simp [go_sem]) ?_
   simp [go_sem]
 | true =>
 rw [if_pos rfl]
 have r1 :=eM hn b0 12
 first | refine aF [0] (r1) (by simp [go_sem]) ?_ | refine aD [0] (r1) (by simp [go_sem]) ?_ | refine aE [0] (r1) (by simp [go_sem]) ?_
 try (simp [go_sem]; try (refine ⟨by kernel_rfl,?_⟩))
 have c1 :=fZ hn b0 [112,101,114,105,111,100] 1 1000 [[100,97,121,115],[59]] (by simp)
 (repeat (refine aB q15x0 hX mixed rfl ?_; (simp [go_sem]; try (refine ⟨by kernel_rfl,?_⟩))))
 cases e1 : partT ts [112,101,114,105,111,100] 1 1000 [[100,97,121,115],[59]] i0 with
 | no p e =>
   first | refine aO [0,3] (aT c1 e1) (by simp [go_sem]) ?_ | refine aL [0,3] (aT c1 e1) (by simp [go_sem]) ?_
   simp [go_sem,Pr.bind_no]
 | ok period i1 =>
 rw [Pr.bind_ok]
 first | refine aF [0,3] (aN c1 e1) (by simp [go_sem]) ?_ | refine aD [0,3] (aN c1 e1) (by simp [go_sem]) ?_ | refine aE [0,3] (aN c1 e1) (by simp [go_sem]) ?_
 try (simp [go_sem]; try (refine ⟨by kernel_rfl,?_⟩))
 have b1 :=(dT hn b0 e1).2.1
 have q2 :=qM hn b1 [108,97,115,116]
 (repeat (refine aB q15x0 hX mixed rfl ?_; (simp [go_sem]; try (refine ⟨by kernel_rfl,?_⟩))))
 first | refine aF [0] (q2) (by simp [go_sem]) ?_ | refine aD [0] (q2) (by simp [go_sem]) ?_ | refine aE [0] (q2) (by simp [go_sem]) ?_
 try (simp [go_sem]; try (refine ⟨by kernel_rfl,?_⟩))
 try unfold chk
 cases s2 : isT ts [108,97,115,116] i1 with
 | false =>
   have c :=eN hn b1 12
   first | refine aO [0] (c) (by simp [go_sem]) ?_ | refine aL [0] (c) (by simp [go_sem]) ?_
   simp [go_sem]
 | true =>
 rw [if_pos rfl]
 have r2 :=eM hn b1 12
 first | refine aF [0] (r2) (by simp [go_sem]) ?_ | refine aD [0] (r2) (by simp [go_sem]) ?_ | refine aE [0] (r2) (by simp [go_sem]) ?_
 try (simp [go_sem]; try (refine ⟨by kernel_rfl,?_⟩))
 have c2 :=fZ hn b1 [108,97,115,116] 1 1000 [[59]] (by simp)
 (repeat (refine aB q15x0 hX mixed rfl ?_; (simp [go_sem]; try (refine ⟨by kernel_rfl,?_⟩))))
 cases e2 : partT ts [108,97,115,116] 1 1000 [[59]] i1 with
 | no p e =>
   first | refine aO [0,4] (aT c2 e2) (by simp [go_sem]) ?_ | refine aL [0,4] (aT c2 e2) (by simp [go_sem]) ?_
   simp [go_sem,Pr.bind_no]
 | ok last i2 =>
 rw [Pr.bind_ok]
 first | refine aF [0,4] (aN c2 e2) (by simp [go_sem]) ?_ | refine aD [0,4] (aN c2 e2) (by simp [go_sem]) ?_ | refine aE [0,4] (aN c2 e2) (by simp [go_sem]) ?_
 try (simp [go_sem]; try (refine ⟨by kernel_rfl,?_⟩))
 have b2 :=(dT hn b1 e2).2.1
 have c3 :=fZ hn b2 [103,114,97,99,101] 0 1000 [[100,97,121,115],[59]] (by simp)
 (repeat (refine aB q15x0 hX mixed rfl ?_; (simp [go_sem]; try (refine ⟨by kernel_rfl,?_⟩))))
 cases e3 : partT ts [103,114,97,99,101] 0 1000 [[100,97,121,115],[59]] i2 with
 | no p e =>
   first | refine aO [0,5] (aT c3 e3) (by simp [go_sem]) ?_ | refine aL [0,5] (aT c3 e3) (by simp [go_sem]) ?_
   simp [go_sem,Pr.bind_no]
 | ok grace i3 =>
 rw [Pr.bind_ok]
 first | refine aF [0,5] (aN c3 e3) (by simp [go_sem]) ?_ | refine aD [0,5] (aN c3 e3) (by simp [go_sem]) ?_ | refine aE [0,5] (aN c3 e3) (by simp [go_sem]) ?_
 try (simp [go_sem]; try (refine ⟨by kernel_rfl,?_⟩))
 have b3 :=(dT hn b2 e3).2.1
 have c4 :=fZ hn b3 [119,97,105,116] 0 1000 [[100,97,121,115],[59]] (by simp)
 (repeat (refine aB q15x0 hX mixed rfl ?_; (simp [go_sem]; try (refine ⟨by kernel_rfl,?_⟩))))
 cases e4 : partT ts [119,97,105,116] 0 1000 [[100,97,121,115],[59]] i3 with
 | no p e =>
   first | refine aO [0,6] (aT c4 e4) (by simp [go_sem]) ?_ | refine aL [0,6] (aT c4 e4) (by simp [go_sem]) ?_
   simp [go_sem,Pr.bind_no]
 | ok wait i4 =>
 rw [Pr.bind_ok]
 first | refine aF [0,6] (aN c4 e4) (by simp [go_sem]) ?_ | refine aD [0,6] (aN c4 e4) (by simp [go_sem]) ?_ | refine aE [0,6] (aN c4 e4) (by simp [go_sem]) ?_
 try (simp [go_sem]; try (refine ⟨by kernel_rfl,?_⟩))
 have b4 :=(dT hn b3 e4).2.1
 have c5 :=B1 hn b4
 (repeat (refine aB q15x0 hX mixed rfl ?_; (simp [go_sem]; try (refine ⟨by kernel_rfl,?_⟩))))
 cases e5 : orderT ts i4 with
 | no p e =>
   first | refine aO [0] (aT c5 e5) (by simp [go_sem]) ?_ | refine aL [0] (aT c5 e5) (by simp [go_sem]) ?_
   simp [go_sem,Pr.bind_no]
 | ok order i5 =>
 rw [Pr.bind_ok]
 first | refine aF [0] (aN c5 e5) (by simp [go_sem]) ?_ | refine aD [0] (aN c5 e5) (by simp [go_sem]) ?_ | refine aE [0] (aN c5 e5) (by simp [go_sem]) ?_
 try (simp [go_sem]; try (refine ⟨by kernel_rfl,?_⟩))
 have b5 :=(w7 hn b4 e5).2
 have c6 :=fZ hn b5 [98,97,99,107,115] 0 60 [[59]] (by simp)
 (repeat (refine aB q15x0 hX mixed rfl ?_; (simp [go_sem]; try (refine ⟨by kernel_rfl,?_⟩))))
 cases e6 : partT ts [98,97,99,107,115] 0 60 [[59]] i5 with
 | no p e =>
   first | refine aO [0,7] (aT c6 e6) (by simp [go_sem]) ?_ | refine aL [0,7] (aT c6 e6) (by simp [go_sem]) ?_
   simp [go_sem,Pr.bind_no]
 | ok backs i6 =>
 rw [Pr.bind_ok]
 first | refine aF [0,7] (aN c6 e6) (by simp [go_sem]) ?_ | refine aD [0,7] (aN c6 e6) (by simp [go_sem]) ?_ | refine aE [0,7] (aN c6 e6) (by simp [go_sem]) ?_
 try (simp [go_sem]; try (refine ⟨by kernel_rfl,?_⟩))
 have b6 :=(dT hn b5 e6).2.1
 have c7 :=fZ hn b6 [118,111,105,99,101,115] 0 1000 [[112,101,114],[109,105,108,108,101],[59]] (by simp)
 (repeat (refine aB q15x0 hX mixed rfl ?_; (simp [go_sem]; try (refine ⟨by kernel_rfl,?_⟩))))
 cases e7 : partT ts [118,111,105,99,101,115] 0 1000 [[112,101,114],[109,105,108,108,101],[59]] i6 with
 | no p e =>
   first | refine aO [0,8] (aT c7 e7) (by simp [go_sem]) ?_ | refine aL [0,8] (aT c7 e7) (by simp [go_sem]) ?_
   simp [go_sem,Pr.bind_no]
 | ok voices i7 =>
 rw [Pr.bind_ok]
 first | refine aF [0,8] (aN c7 e7) (by simp [go_sem]) ?_ | refine aD [0,8] (aN c7 e7) (by simp [go_sem]) ?_ | refine aE [0,8] (aN c7 e7) (by simp [go_sem]) ?_
 try (simp [go_sem]; try (refine ⟨by kernel_rfl,?_⟩))
 have b7 :=(dT hn b6 e7).2.1
 have c8 :=fZ hn b7 [106,117,114,121] 0 60 [[59]] (by simp)
 (repeat (refine aB q15x0 hX mixed rfl ?_; (simp [go_sem]; try (refine ⟨by kernel_rfl,?_⟩))))
 cases e8 : partT ts [106,117,114,121] 0 60 [[59]] i7 with
 | no p e =>
   first | refine aO [0,9] (aT c8 e8) (by simp [go_sem]) ?_ | refine aL [0,9] (aT c8 e8) (by simp [go_sem]) ?_
   simp [go_sem,Pr.bind_no]
 | ok jury i8 =>
 rw [Pr.bind_ok]
 first | refine aF [0,9] (aN c8 e8) (by simp [go_sem]) ?_ | refine aD [0,9] (aN c8 e8) (by simp [go_sem]) ?_ | refine aE [0,9] (aN c8 e8) (by simp [go_sem]) ?_
 try (simp [go_sem]; try (refine ⟨by kernel_rfl,?_⟩))
 have b8 :=(dT hn b7 e8).2.1
 have c9 :=fZ hn b8 [102,117,110,100] 0 1000 [[112,101,114],[109,105,108,108,101],[59]] (by simp)
 (repeat (refine aB q15x0 hX mixed rfl ?_; (simp [go_sem]; try (refine ⟨by kernel_rfl,?_⟩))))
 cases e9 : partT ts [102,117,110,100] 0 1000 [[112,101,114],[109,105,108,108,101],[59]] i8 with
 | no p e =>
   first | refine aO [0,10] (aT c9 e9) (by simp [go_sem]) ?_ | refine aL [0,10] (aT c9 e9) (by simp [go_sem]) ?_
   simp [go_sem,Pr.bind_no]
 | ok fund i9 =>
 rw [Pr.bind_ok]
 first | refine aF [0,10] (aN c9 e9) (by simp [go_sem]) ?_ | refine aD [0,10] (aN c9 e9) (by simp [go_sem]) ?_ | refine aE [0,10] (aN c9 e9) (by simp [go_sem]) ?_
 try (simp [go_sem]; try (refine ⟨by kernel_rfl,?_⟩))
 have b9 :=(dT hn b8 e9).2.1
 (repeat (refine aB q15x0 hX mixed rfl ?_; (simp [go_sem]; try (refine ⟨by kernel_rfl,?_⟩))))
 unfold letsT
 refine aV (fun (q : Nat × List (By × E) × Nat) => ⟨mkE [(0,pp),(2,.el 1 37 0 0),(3,.el 2 37 0 0),(1000000,.ow 0)],[pst ts q.2.2,.row ⟨31,37,[.agg [ii 0,ii 0,ii 0,ii 0,ii 0,ii 0,bb false,ii 0,ii 0,ii 0,ii 0,.nil,ii 0,ii 0,ii 0,ss [],.nil,ii 0,ii 0,ii 0,ss [],.nil,ii 0,ii 0,ii 0,ss [],.nil,ii 0,ii 0,ii 0,ss [],.nil,ii 0,ii 0,ii 0,ss [],.nil]]⟩,.row ⟨31,37,[.agg [ii k.1,ii period,ii grace,ii wait,ii last,ii order,bb k.2,ii backs,ii voices,ii jury,ii fund,.ow 3,ii 0,ii 0,ii 0,ss [],.nil,ii 0,ii 0,ii 0,ss [],.nil,ii 0,ii 0,ii 0,ss [],.nil,ii 0,ii 0,ii 0,ss [],.nil,ii 0,ii 0,ii 0,ss [],.nil]]⟩,lrow q.2.1]⟩)
  (fun q => q.2.2 < ts.length ∧ ts.length - q.2.2 + 1 ≤ q.1 ∧ q.2.1.length ≤ 20 ∧ letsF (ts.length + 1) ts [] i9 = letsF q.1 ts q.2.1 q.2.2) (fun q => ts.length - q.2.2) (ts.length + 1,[],i9) ?_ ?_ ?_
 · refine aM _ [.old 0 ⟨119,2,[.agg [.sl (ts.map tk),ii (i9)]]⟩,.old 1 ⟨31,37,[.agg [ii 0,ii 0,ii 0,ii 0,ii 0,ii 0,bb false,ii 0,ii 0,ii 0,ii 0,.nil,ii 0,ii 0,ii 0,ss [],.nil,ii 0,ii 0,ii 0,ss [],.nil,ii 0,ii 0,ii 0,ss [],.nil,ii 0,ii 0,ii 0,ss [],.nil,ii 0,ii 0,ii 0,ss [],.nil]]⟩,.old 2 ⟨31,37,[.agg [ii k.1,ii period,ii grace,ii wait,ii last,ii order,bb k.2,ii backs,ii voices,ii jury,ii fund,.ow 3,ii 0,ii 0,ii 0,ss [],.nil,ii 0,ii 0,ii 0,ss [],.nil,ii 0,ii 0,ii 0,ss [],.nil,ii 0,ii 0,ii 0,ss [],.nil,ii 0,ii 0,ii 0,ss [],.nil]]⟩,.birth 93 6] (by simp [go_sem]) ?_
   simp [go_sem]
 · refine ⟨b9,?_,by simp,rfl⟩
   show ts.length - i9 + 1 ≤ ts.length + 1
   omega
 rintro ⟨g,acc,at_⟩ ⟨hat,hm,hacc,hl⟩
 simp only [] at hat hm hacc hl ⊢
 rw [hl]
 obtain ⟨g',rfl⟩ : ∃ g',g = g' + 1 :=⟨g - 1,by omega⟩
 rw [sL]
 have l1 :=qM hn hat [108,101,116]
 (repeat (refine aB q15x0 hX mixed rfl ?_; (simp [go_sem]; try (refine ⟨by kernel_rfl,?_⟩))))
 first | refine aF [0] (l1) (by simp [go_sem]) ?_ | refine aD [0] (l1) (by simp [go_sem]) ?_ | refine aE [0] (l1) (by simp [go_sem]) ?_
 try (simp [go_sem]; try (refine ⟨by kernel_rfl,?_⟩))
 cases s1 : isT ts [108,101,116] at_ with
 | false =>
   rw [if_neg (by simp),Pr.bind_ok]
   refine aC (b :=false) (by simp [go_sem]) (fun hb => by cases hb) (fun hb => ?_)
   have m1 :=cW hn hat [[100,117,101]] (by simp)
   (repeat (refine aB q15x0 hX mixed rfl ?_; (simp [go_sem]; try (refine ⟨by kernel_rfl,?_⟩))))
   cases w1 : wantT ts [[100,117,101]] at_ with
   | no p e =>
     first | refine aO [0,4] (aT m1 w1) (by simp [go_sem]) ?_ | refine aL [0,4] (aT m1 w1) (by simp [go_sem]) ?_
     simp [go_sem,Pr.bind_no]
   | ok u a1 =>
   rw [Pr.bind_ok]
   first | refine aF [0,4] (aN m1 w1) (by simp [go_sem]) ?_ | refine aD [0,4] (aN m1 w1) (by simp [go_sem]) ?_ | refine aE [0,4] (aN m1 w1) (by simp [go_sem]) ?_
   try (simp [go_sem]; try (refine ⟨by kernel_rfl,?_⟩))
   have h1 :=(bG hn hat w1).2
   have m2 :=oZ hn h1
   (repeat (refine aB q15x0 hX mixed rfl ?_; (simp [go_sem]; try (refine ⟨by kernel_rfl,?_⟩))))
   cases w2 : wholeT ts a1 with
   | no p e =>
     first | refine aO [0] (aT m2 w2) (by simp [go_sem]) ?_ | refine aL [0] (aT m2 w2) (by simp [go_sem]) ?_
     simp [go_sem,Pr.bind_no]
   | ok due a2 =>
   rw [Pr.bind_ok]
   first | refine aF [0] (aN m2 w2) (by simp [go_sem]) ?_ | refine aD [0] (aN m2 w2) (by simp [go_sem]) ?_ | refine aE [0] (aN m2 w2) (by simp [go_sem]) ?_
   try (simp [go_sem]; try (refine ⟨by kernel_rfl,?_⟩))
   have h2 :=(jJ hn h1 w2).2.1
   (repeat (refine aB q15x0 hX mixed rfl ?_; (simp [go_sem]; try (refine ⟨by kernel_rfl,?_⟩))))
   have m3 :=j9 hn h2 [102,105,110,101]
   cases w3 : clauseT ts [102,105,110,101] a2 with
   | no p e =>
     first | refine aO [0] (aT m3 w3) (by simp [go_sem]) ?_ | refine aL [0] (aT m3 w3) (by simp [go_sem]) ?_
     simp [go_sem,Pr.bind_no]
   | ok fine a3 =>
   rw [Pr.bind_ok]
   first | refine aF [0] (aN m3 w3) (by simp [go_sem]) ?_ | refine aD [0] (aN m3 w3) (by simp [go_sem]) ?_ | refine aE [0] (aN m3 w3) (by simp [go_sem]) ?_
   try (simp [go_sem]; try (refine ⟨by kernel_rfl,?_⟩))
   have h3 :=(fL hn h2 w3).2.1
   have m4 :=j9 hn h3 [112,97,121]
   cases w4 : clauseT ts [112,97,121] a3 with
   | no p e =>
     first | refine aO [0] (aT m4 w4) (by simp [go_sem]) ?_ | refine aL [0] (aT m4 w4) (by simp [go_sem]) ?_
     simp [go_sem,Pr.bind_no]
   | ok pay a4 =>
   rw [Pr.bind_ok]
   first | refine aF [0] (aN m4 w4) (by simp [go_sem]) ?_ | refine aD [0] (aN m4 w4) (by simp [go_sem]) ?_ | refine aE [0] (aN m4 w4) (by simp [go_sem]) ?_
   try (simp [go_sem]; try (refine ⟨by kernel_rfl,?_⟩))
   have h4 :=(fL hn h3 w4).2.1
   have m5 :=j9 hn h4 [99,111,118,101,114]
   cases w5 : clauseT ts [99,111,118,101,114] a4 with
   | no p e =>
     first | refine aO [0] (aT m5 w5) (by simp [go_sem]) ?_ | refine aL [0] (aT m5 w5) (by simp [go_sem]) ?_
     simp [go_sem,Pr.bind_no]
   | ok cover a5 =>
   rw [Pr.bind_ok]
   first | refine aF [0] (aN m5 w5) (by simp [go_sem]) ?_ | refine aD [0] (aN m5 w5) (by simp [go_sem]) ?_ | refine aE [0] (aN m5 w5) (by simp [go_sem]) ?_
   try (simp [go_sem]; try (refine ⟨by kernel_rfl,?_⟩))
   have h5 :=(fL hn h4 w5).2.1
   have m6 :=j9 hn h5 [104,111,108,100]
   cases w6 : clauseT ts [104,111,108,100] a5 with
   | no p e =>
     first | refine aO [0] (aT m6 w6) (by simp [go_sem]) ?_ | refine aL [0] (aT m6 w6) (by simp [go_sem]) ?_
     simp [go_sem,Pr.bind_no]
   | ok hold a6 =>
   rw [Pr.bind_ok]
   first | refine aF [0] (aN m6 w6) (by simp [go_sem]) ?_ | refine aD [0] (aN m6 w6) (by simp [go_sem]) ?_ | refine aE [0] (aN m6 w6) (by simp [go_sem]) ?_
   try (simp [go_sem]; try (refine ⟨by kernel_rfl,?_⟩))
   have h6 :=(fL hn h5 w6).2.1
   have m7 :=gL hn h6
   (repeat (refine aB q15x0 hX mixed rfl ?_; (simp [go_sem]; try (refine ⟨by kernel_rfl,?_⟩))))
   first | refine aF [0] (m7) (by simp [go_sem]) ?_ | refine aD [0] (m7) (by simp [go_sem]) ?_ | refine aE [0] (m7) (by simp [go_sem]) ?_
   try (simp [go_sem]; try (refine ⟨by kernel_rfl,?_⟩))
   by_cases hk : (nx ts a6).kind = 0
   · have m8 :=fJ hn h6 12 (b :=decide ((nx ts a6).kind = 0)) (by simp [hk])
     rw [if_pos (by simp [hk]),bB]
     first | refine aF [0] (m8) (by simp [go_sem]) ?_ | refine aD [0] (m8) (by simp [go_sem]) ?_ | refine aE [0] (m8) (by simp [go_sem]) ?_
     try (simp [go_sem]; try (refine ⟨by kernel_rfl,?_⟩))
     (repeat (refine aB q15x0 hX mixed rfl ?_; (simp [go_sem]; try (refine ⟨by kernel_rfl,?_⟩))))
     refine bX (st0 :=⟨mkE [(2,.el 1 37 0 0),(1000000,.ow 0)],[pst ts a6,.row ⟨31,37,[.agg [ii k.1,ii period,ii grace,ii wait,ii last,ii order,bb k.2,ii backs,ii voices,ii jury,ii fund,.sl (acc.map lt),ii due.op,ii due.n,ii due.u,ss due.s,.sl due.args,ii fine.op,ii fine.n,ii fine.u,ss fine.s,.sl fine.args,ii pay.op,ii pay.n,ii pay.u,ss pay.s,.sl pay.args,ii cover.op,ii cover.n,ii cover.u,ss cover.s,.sl cover.args,ii hold.op,ii hold.n,ii hold.u,ss hold.s,.sl hold.args]]⟩]⟩) ?_ ?_
     · refine aM _ [.old 0 ⟨119,2,[.agg [.sl (ts.map tk),ii (a6)]]⟩,.old 1 ⟨31,37,[.agg [ii k.1,ii period,ii grace,ii wait,ii last,ii order,bb k.2,ii backs,ii voices,ii jury,ii fund,.sl (acc.map lt),ii due.op,ii due.n,ii due.u,ss due.s,.sl due.args,ii fine.op,ii fine.n,ii fine.u,ss fine.s,.sl fine.args,ii pay.op,ii pay.n,ii pay.u,ss pay.s,.sl pay.args,ii cover.op,ii cover.n,ii cover.u,ss cover.s,.sl cover.args,ii hold.op,ii hold.n,ii hold.u,ss hold.s,.sl hold.args]]⟩] (by simp [go_sem]) ?_
       simp [go_sem]
     · refine aK ?_; (try simp only [thenQ,blkQ,loopQ]); refine aJ [(1000000,.ow 0)] [.old 0 ⟨119,2,[.agg [.sl (ts.map tk),ii (a6)]]⟩] ?_
       simp [go_sem]
   · have m8 :=fK hn h6 12 (b :=decide ((nx ts a6).kind = 0)) (by simp [hk])
     rw [if_neg (by simp [hk])]
     first | refine aO [0] (m8) (by simp [go_sem]) ?_ | refine aL [0] (m8) (by simp [go_sem]) ?_
     simp [go_sem]
 | true =>
 rw [if_pos rfl]
 refine aC (b :=true) (by simp [go_sem]) (fun hb => ?_) (fun hb => by cases hb)
 have hat1 :=hn.has hat s1
 have wk :=w64 (x :=(at_ : Int) + 1) (by omega) (by omega)
 have wk2 :=w64 (x :=(at_ : Int) + 1 + 1) (by omega) (by omega)
 have htx :=hn.txt' (at_ + 1)
 by_cases hc : acc.length < 20
 rotate_right
 · have m1 :=fK hn hat 6 (b :=decide ((acc.length : Int) < 20)) (by simp; omega)
   rw [if_neg hc]
   (repeat (refine aB q15x0 hX mixed rfl ?_; (simp [go_sem]; try (refine ⟨by kernel_rfl,?_⟩))))
   first | refine aO [0] (m1) (by simp [go_sem]) ?_ | refine aL [0] (m1) (by simp [go_sem]) ?_
   simp [go_sem,Pr.bind_no]
 have m1 :=fJ hn hat 6 (b :=decide ((acc.length : Int) < 20)) (by simp; omega)
 have m2 :=gL hn hat1
 have m3 :=oW (nx ts (at_ + 1)).text (by omega)
 rw [if_pos hc]
 (repeat (refine aB q15x0 hX mixed rfl ?_; (simp [go_sem]; try (refine ⟨by kernel_rfl,?_⟩))))
 first | refine aF [0] (m1) (by simp [go_sem]) ?_ | refine aD [0] (m1) (by simp [go_sem]) ?_ | refine aE [0] (m1) (by simp [go_sem]) ?_
 try (simp [go_sem]; try (refine ⟨by kernel_rfl,?_⟩))
 (repeat (refine aB q15x0 hX mixed rfl ?_; (simp [go_sem,wk]; try (refine ⟨by kernel_rfl,?_⟩))))
 first | refine aF [0] (m2) (by simp [go_sem]) ?_ | refine aD [0] (m2) (by simp [go_sem]) ?_ | refine aE [0] (m2) (by simp [go_sem]) ?_
 try (simp [go_sem]; try (refine ⟨by kernel_rfl,?_⟩))
 (repeat (refine aB q15x0 hX mixed rfl ?_; (simp [go_sem]; try (refine ⟨by kernel_rfl,?_⟩))))
 first | refine aF [0] (m2) (by simp [go_sem]) ?_ | refine aD [0] (m2) (by simp [go_sem]) ?_ | refine aE [0] (m2) (by simp [go_sem]) ?_
 try (simp [go_sem]; try (refine ⟨by kernel_rfl,?_⟩))
 first | refine aX (fun hg => m3) ?_ | refine aW (fun hg => m3) ?_
 try (simp [go_sem]; try (refine ⟨by kernel_rfl,?_⟩))
 by_cases hk : (nx ts (at_ + 1)).kind = 1 ∧ nameOk (nx ts (at_ + 1)).text = true
 rotate_right
 · have m4 :=fK hn hat1 12 (b :=decide ((nx ts (at_ + 1)).kind = 1) && nameOk (nx ts (at_ + 1)).text) (by
    cases hq : nameOk (nx ts (at_ + 1)).text <;> simp_all)
   rw [if_neg hk]
   first | refine aO [0] (m4) (by simp [go_sem]) ?_ | refine aL [0] (m4) (by simp [go_sem]) ?_
   simp [go_sem,Pr.bind_no]
 have m4 :=fJ hn hat1 12 (b :=decide ((nx ts (at_ + 1)).kind = 1) && nameOk (nx ts (at_ + 1)).text) (by simp [hk])
 have hat2 :=hn.last (at_ + 1) hat1 (by rw [hk.1]; decide)
 rw [if_pos hk]
 first | refine aF [0] (m4) (by simp [go_sem]) ?_ | refine aD [0] (m4) (by simp [go_sem]) ?_ | refine aE [0] (m4) (by simp [go_sem]) ?_
 try (simp [go_sem]; try (refine ⟨by kernel_rfl,?_⟩))
 have m5 :=mL (nx ts (at_ + 1)).text acc (by omega)
 (repeat (refine aB q15x0 hX mixed rfl ?_; (simp [go_sem]; try (refine ⟨by kernel_rfl,?_⟩))))
 first | refine aF [3,4] (m5) (by simp [go_sem]) ?_ | refine aD [3,4] (m5) (by simp [go_sem]) ?_ | refine aE [3,4] (m5) (by simp [go_sem]) ?_
 try (simp [go_sem]; try (refine ⟨by kernel_rfl,?_⟩))
 cases hany : acc.any fun l => decide (l.1 = (nx ts (at_ + 1)).text) with
 | true =>
   have m6 :=eN hn hat1 5
   rw [if_pos rfl]
   first | refine aO [0] (m6) (by simp [go_sem]) ?_ | refine aL [0] (m6) (by simp [go_sem]) ?_
   simp [go_sem,Pr.bind_no]
 | false =>
 rw [if_neg (by simp)]
 have m6 :=eM hn hat1 5
 first | refine aF [0] (m6) (by simp [go_sem]) ?_ | refine aD [0] (m6) (by simp [go_sem]) ?_ | refine aE [0] (m6) (by simp [go_sem]) ?_
 try (simp [go_sem]; try (refine ⟨by kernel_rfl,?_⟩))
 have m7 :=cW hn hat2 [[61]] (by simp)
 (repeat (refine aB q15x0 hX mixed rfl ?_; (simp [go_sem,wk2]; try (refine ⟨by kernel_rfl,?_⟩))))
 cases w1 : wantT ts [[61]] (at_ + 1 + 1) with
 | no p e =>
   first | refine aO [0,5] (aT m7 w1) (by simp [go_sem]) ?_ | refine aL [0,5] (aT m7 w1) (by simp [go_sem]) ?_
   simp [go_sem,Pr.bind_no]
 | ok u a1 =>
 rw [Pr.bind_ok]
 first | refine aF [0,5] (aN m7 w1) (by simp [go_sem]) ?_ | refine aD [0,5] (aN m7 w1) (by simp [go_sem]) ?_ | refine aE [0,5] (aN m7 w1) (by simp [go_sem]) ?_
 try (simp [go_sem]; try (refine ⟨by kernel_rfl,?_⟩))
 have h1 :=bG hn hat2 w1
 have m8 :=oZ hn h1.2
 cases w2 : wholeT ts a1 with
 | no p e =>
   (repeat (first | refine bV ?_ | refine bS ?_))
   refine gM 4 hX mixed (by kernel_rfl) (by kernel_rfl) ?_; (simp [go_sem]; try (refine ⟨by kernel_rfl,?_⟩))
   first | refine aO [0] (aT m8 w2) (by simp [go_sem]) ?_ | refine aL [0] (aT m8 w2) (by simp [go_sem]) ?_
   simp [go_sem,Pr.bind_no]
 | ok x a2 =>
 rw [Pr.bind_ok]
 have h2 :=jJ hn h1.2 w2
 (repeat (refine aB q15x0 hX mixed rfl ?_; (simp [go_sem]; try (refine ⟨by kernel_rfl,?_⟩))))
 first | refine aF [0] (aN m8 w2) (by simp [go_sem]) ?_ | refine aD [0] (aN m8 w2) (by simp [go_sem]) ?_ | refine aE [0] (aN m8 w2) (by simp [go_sem]) ?_
 try (simp [go_sem]; try (refine ⟨by kernel_rfl,?_⟩))
 refine ⟨⟨by omega,by unfold maxLen; omega⟩,by kernel_rfl,?_⟩
 (repeat (refine aB q15x0 hX mixed rfl ?_; (simp [go_sem]; try (refine ⟨by kernel_rfl,?_⟩))))
 refine ⟨g',acc ++ [((nx ts (at_ + 1)).text,x)],a2,⟨h2.2.1,by omega,by simp; omega,rfl⟩,by omega,?_⟩
 refine aM _ [.old 0 ⟨119,2,[.agg [.sl (ts.map tk),ii (a2)]]⟩,.old 1 ⟨31,37,[.agg [ii 0,ii 0,ii 0,ii 0,ii 0,ii 0,bb false,ii 0,ii 0,ii 0,ii 0,.nil,ii 0,ii 0,ii 0,ss [],.nil,ii 0,ii 0,ii 0,ss [],.nil,ii 0,ii 0,ii 0,ss [],.nil,ii 0,ii 0,ii 0,ss [],.nil,ii 0,ii 0,ii 0,ss [],.nil]]⟩,.old 2 ⟨31,37,[.agg [ii k.1,ii period,ii grace,ii wait,ii last,ii order,bb k.2,ii backs,ii voices,ii jury,ii fund,.ow 3,ii 0,ii 0,ii 0,ss [],.nil,ii 0,ii 0,ii 0,ss [],.nil,ii 0,ii 0,ii 0,ss [],.nil,ii 0,ii 0,ii 0,ss [],.nil,ii 0,ii 0,ii 0,ss [],.nil]]⟩,.old 7 ⟨93,6,(acc ++ [((nx ts (at_ + 1)).text,x)]).map lt⟩] (by simp [go_sem]) ?_
 simp [go_sem]
end Go.Proofs.YtaolljbpencjnaaGreatDoor

namespace Go.Proofs.YtaolljbpencjnaaGreatDoor
open Go.RowKit Go.Ab
attribute [local irreducible] AWP Go.Ab.Sub Means MeansH CallK CallG CallT CallGT PanicH DefH
abbrev ir (n : Int) : Cell :=.row ⟨3,1,[ii n]⟩
abbrev er (n : Int) : Cell :=.row ⟨24,1,[ii n]⟩
abbrev br (b : Bl) : Cell :=.row ⟨31,37,[bl b]⟩
@[go_sem] theorem ofV_nilI : ofV Value.nilIface = .v .nilIface :=rfl
@[go_sem] theorem ofV_stop (p q : Int) : ofV (Value.agg #[.int .i64 p,.int .i64 q]) = .agg [ii p,ii q] :=rfl
theorem sM (p q a b : Int) : MeansH Tryz.prog 25 [ir a,er b] [.v (stopV p q),.el 0 1 0 0,.el 1 1 0 0] (bb true) [ir p,er q] :=by
 refine aS 2 31 [.tmp 6] Tryz.func25 rfl rfl rfl (by simp) (by decide) rfl fun X hX => ?_
 (repeat (refine aB q15x2 hX mixed rfl ?_; (simp [go_sem]; try (refine ⟨by kernel_rfl,?_⟩))))
 refine aC (b :=false) (by simp [go_sem]) (fun hb => by cases hb) (fun hb => ?_)
 (repeat (refine aB q15x2 hX mixed rfl ?_; (simp [go_sem]; try (refine ⟨by kernel_rfl,?_⟩))))
 refine aC (b :=true) (by simp [go_sem]) (fun hb => ?_) (fun hb => by cases hb)
 (repeat (refine aB q15x2 hX mixed rfl ?_; (simp [go_sem]; try (refine ⟨by kernel_rfl,?_⟩))))
 refine aK ?_; (try simp only [thenQ,blkQ,loopQ]); refine aJ [(6,bb true),(1000000,.ow 0),(1000001,.ow 1)] [.old 0 ⟨3,1,[ii p]⟩,.old 1 ⟨24,1,[ii q]⟩] ?_
 simp [go_sem]
theorem sN (a b : Int) : MeansH Tryz.prog 25 [ir a,er b] [.v .nilIface,.el 0 1 0 0,.el 1 1 0 0] (bb false) [ir a,er b] :=by
 refine aS 2 31 [.tmp 6] Tryz.func25 rfl rfl rfl (by simp) (by decide) rfl fun X hX => ?_
 (repeat (refine aB q15x2 hX mixed rfl ?_; (simp [go_sem]; try (refine ⟨by kernel_rfl,?_⟩))))
 refine aC (b :=false) (by simp [go_sem]) (fun hb => by cases hb) (fun hb => ?_)
 (repeat (refine aB q15x2 hX mixed rfl ?_; (simp [go_sem]; try (refine ⟨by kernel_rfl,?_⟩))))
 refine aC (b :=false) (by simp [go_sem]) (fun hb => by cases hb) (fun hb => ?_)
 (repeat (refine aB q15x2 hX mixed rfl ?_; (simp [go_sem]; try (refine ⟨by kernel_rfl,?_⟩))))
 refine aK ?_; (try simp only [thenQ,blkQ,loopQ]); refine aJ [(6,bb false),(1000000,.ow 0),(1000001,.ow 1)] [.old 0 ⟨3,1,[ii a]⟩,.old 1 ⟨24,1,[ii b]⟩] ?_
 simp [go_sem]
theorem yQ (p q a b : Int) (b0 : Bl) : DefH Tryz.prog 24 [ir a,er b,br b0] [.el 0 1 0 0,.el 1 1 0 0,.el 2 37 0 0] (.panicking [{ v :=stopV p q,recovered :=false }]) (.panicking [{ v :=stopV p q,recovered :=true }]) [ir p,er q,br {}] :=by
 have c1 :=sM p q a b
 refine p9 3 6 3 [0,1,2,3,4,5,1000000,1000001,1000002] [] (.got _) Tryz.func24 rfl rfl rfl (by simp) (by decide) rfl rfl rfl rfl rfl (by decide) fun X hX => ?_
 (simp [go_sem]; try (refine ⟨by kernel_rfl,?_⟩))
 first | refine aF [0,1] (c1) (by simp [go_sem]) ?_ | refine aD [0,1] (c1) (by simp [go_sem]) ?_ | refine aE [0,1] (c1) (by simp [go_sem]) ?_
 try (simp [go_sem]; try (refine ⟨by kernel_rfl,?_⟩))
 refine aC (b :=true) (by simp [go_sem]) (fun hb => ?_) (fun hb => by cases hb)
 (repeat (refine aB [0,1,2,3,4,5,1000000,1000001,1000002] hX mixed rfl ?_; (simp [go_sem]; try (refine ⟨by kernel_rfl,?_⟩))))
 (try refine aK ?_); (try simp only [thenQ,blkQ,loopQ]); refine cM [(1000000,.ow 0),(1000001,.ow 1),(1000002,.ow 2)] [.old 0 ⟨3,1,[ii p]⟩,.old 1 ⟨24,1,[ii q]⟩,.old 2 ⟨31,37,[bl {}]⟩] ?_
 simp [go_sem]
theorem w8 (a b : Int) (b0 : Bl) : DefH Tryz.prog 24 [ir a,er b,br b0] [.el 0 1 0 0,.el 1 1 0 0,.el 2 37 0 0] .returning .returning [ir a,er b,br b0] :=by
 have c1 :=sN a b
 refine p9 3 6 3 [0,1,2,3,4,5,1000000,1000001,1000002] [] .idle Tryz.func24 rfl rfl rfl (by simp) (by decide) rfl rfl rfl rfl rfl (by decide) fun X hX => ?_
 (simp [go_sem]; try (refine ⟨by kernel_rfl,?_⟩))
 first | refine aF [0,1] (c1) (by simp [go_sem]) ?_ | refine aD [0,1] (c1) (by simp [go_sem]) ?_ | refine aE [0,1] (c1) (by simp [go_sem]) ?_
 try (simp [go_sem]; try (refine ⟨by kernel_rfl,?_⟩))
 refine aC (b :=false) (by simp [go_sem]) (fun hb => by cases hb) (fun hb => ?_)
 (repeat (refine aB [0,1,2,3,4,5,1000000,1000001,1000002] hX mixed rfl ?_; (simp [go_sem]; try (refine ⟨by kernel_rfl,?_⟩))))
 (try refine aK ?_); (try simp only [thenQ,blkQ,loopQ]); refine cM [(1000000,.ow 0),(1000001,.ow 1),(1000002,.ow 2)] [.old 0 ⟨3,1,[ii a]⟩,.old 1 ⟨24,1,[ii b]⟩,.old 2 ⟨31,37,[bl b0]⟩] ?_
 simp [go_sem]
theorem yR (s : By) (L : List AV) (p e : Int) (h : lexAV s = .tup [.sl L,ii p,ii e]) : MeansH Tryz.prog 23 [] [ss s] (.tup [.el 0 2 0 0,ii p,ii e]) [.row ⟨119,2,[.agg [.sl L,ii 0]]⟩] :=by
 have c1 :=E2 s
 rw [h] at c1
 refine aS 0 19 [.tmp 2,.tmp 3,.tmp 4] Tryz.func23 rfl rfl rfl (by simp) (by decide) rfl fun X hX => ?_
 (repeat (refine aB [0,2,3,4,5,6,7] hX mixed rfl ?_; (simp [go_sem]; try (refine ⟨by kernel_rfl,?_⟩))))
 first | refine aP (c1) ?_ | refine aQ (c1) ?_
 try (simp [go_sem]; try (refine ⟨by kernel_rfl,?_⟩))
 (repeat (refine aB [0,2,3,4,5,6,7] hX mixed rfl ?_; (simp [go_sem]; try (refine ⟨by kernel_rfl,?_⟩))))
 refine aK ?_; (try simp only [thenQ,blkQ,loopQ]); refine aJ [(2,.el 0 2 0 0),(3,ii p),(4,ii e)] [.old 0 ⟨119,2,[.agg [.sl L,ii 0]]⟩] ?_
 simp [go_sem]
end Go.Proofs.YtaolljbpencjnaaGreatDoor

namespace Go.Proofs.YtaolljbpencjnaaGreatDoor
open Go.RowKit Go.Ab
theorem qQ {P : Program} {f : FuncId} {args : List AV} {r : AV} {H' : List Cell} (h : MeansH P f [] args r H') (hz : ∀ e ∈ args,e.idLt 0) (hr : r.zone = true) : Means false P f args r :=by
 intro M w vs hM hg hl hvs
 have h0 : HeapS (blks [] fun _ => undef) M (fun _ => undef) [] w :=⟨by simp,by simp,by simp,by simp,by simp⟩
 refine (h w M (fun _ => undef) vs hM hg h0 hl fun j x e h1 h2 => ⟨(hvs j x e h1 h2).rep,hz e (List.mem_of_getElem? h2)⟩).mono fun e w' hq => ?_
 obtain ⟨x,M',loc',rfl,hS,hb,hMM,hzone,_,hrep,hid,_⟩ :=hq
 have hno : ∀ b,¬ blks [] (fun _ => undef) b :=fun b hb => by
  rcases hb with ⟨id,o,ho,_⟩ | ⟨id,m,hm,_⟩
  · simp at ho
  · simp at hm
 refine ⟨x,rfl,⟨hb.os,hb.tape,hb.output,hb.size,fun k hk => hb.block k hk (hno k)⟩,(hrep.repZ hr).mono (fun _ _ => rfl) fun b hb => ?_⟩
 obtain ⟨h1,h2⟩ :=hzone b hb
 refine ⟨h1,?_⟩
 rcases h2 with h2 | h2 | h2
 · exact .inr ⟨rfl,h2⟩
 · exact .inl h2
 · exact (hno b h2).elim
attribute [local irreducible] AWP Go.Ab.Sub Means MeansH CallK CallG CallT CallGT PanicH DefH
set_option maxHeartbeats 4000000 in
theorem nL (s : By) (p e : Int) (h : lexAV s = .tup [.sl [],ii p,ii e]) (he : e ≠ 0) : MeansH Tryz.prog 7 [] [ss s] (.tup [bl {},ii p,ii e]) [] :=by
 have c1 :=yR s [] p e h
 refine lP 0 20 [.cell 2 31,.cell 3 3,.cell 4 24] Tryz.func7 rfl rfl rfl (by simp) (by decide) rfl fun X hX => ?_
 refine eP ?_
 ((first | refine cG q15x4 hX ?_ | refine bT q15x4 hX mixed ?_ | refine aK ?_ | refine bF ?_ | refine cH ?_); (simp [go_sem]; try (refine ⟨by kernel_rfl,?_⟩)))
 refine eP ?_
 ((first | refine cG q15x4 hX ?_ | refine bT q15x4 hX mixed ?_ | refine aK ?_ | refine bF ?_ | refine cH ?_); (simp [go_sem]; try (refine ⟨by kernel_rfl,?_⟩)))
 first | refine aF [] (c1) (by simp [go_sem]) ?_ | refine aD [] (c1) (by simp [go_sem]) ?_ | refine aE [] (c1) (by simp [go_sem]) ?_
 try (simp [go_sem]; try (refine ⟨by kernel_rfl,?_⟩))
 refine eP ?_
 (repeat (refine aB q15x4 hX mixed rfl ?_; (simp [go_sem]; try (refine ⟨by kernel_rfl,?_⟩))))
 refine aC (b :=true) (by simp [go_sem,he]) (fun hb => ?_) (fun hb => by cases hb)
 (repeat (refine aB q15x4 hX mixed rfl ?_; (simp [go_sem]; try (refine ⟨by kernel_rfl,?_⟩))))
 refine bX (st0 :=⟨mkE [(2,.el 0 37 0 0),(3,.el 1 1 0 0),(4,.el 2 1 0 0)],[br {},ir p,er e]⟩) ?_ ?_
 · refine aM _ [.old 0 ⟨31,37,[bl {}]⟩,.old 1 ⟨3,1,[ii p]⟩,.old 2 ⟨24,1,[ii e]⟩] (by simp [go_sem]) ?_
   simp [go_sem]
 · refine aK ?_
   simp only [doorN]
   refine aJ [] [] ?_
   simp [go_sem]
set_option maxHeartbeats 4000000 in
theorem yS (s : By) (ts : List Tk) (hn : OkT ts) (h0 : 0 < ts.length) (h : lexAV s = .tup [.sl (ts.map tk),ii 0,ii 0]) :
  MeansH Tryz.prog 7 [] [ss s] (match bylawsT ts with | .ok b _ => .tup [bl b,ii 0,ii 0] | .no p e => .tup [bl {},ii p,ii e]) [] :=by
 have c1 :=yR s (ts.map tk) 0 0 h
 have c2 :=yO hn h0
 generalize hr : (match bylawsT ts with | .ok b _ => AV.tup [bl b,ii 0,ii 0] | .no p e => AV.tup [bl {},ii p,ii e]) = r
 refine lP 0 20 [.cell 2 31,.cell 3 3,.cell 4 24] Tryz.func7 rfl rfl rfl (by simp) (by decide) rfl fun X hX => ?_
 refine eP ?_
 ((first | refine cG q15x4 hX ?_ | refine bT q15x4 hX mixed ?_ | refine aK ?_ | refine bF ?_ | refine cH ?_); (simp [go_sem]; try (refine ⟨by kernel_rfl,?_⟩)))
 refine eP ?_
 ((first | refine cG q15x4 hX ?_ | refine bT q15x4 hX mixed ?_ | refine aK ?_ | refine bF ?_ | refine cH ?_); (simp [go_sem]; try (refine ⟨by kernel_rfl,?_⟩)))
 first | refine aF [] (c1) (by simp [go_sem]) ?_ | refine aD [] (c1) (by simp [go_sem]) ?_ | refine aE [] (c1) (by simp [go_sem]) ?_
 try (simp [go_sem]; try (refine ⟨by kernel_rfl,?_⟩))
 refine eP ?_
 (repeat (refine aB q15x4 hX mixed rfl ?_; (simp [go_sem]; try (refine ⟨by kernel_rfl,?_⟩))))
 refine aC (b :=false) (by simp [go_sem]) (fun hb => by cases hb) (fun hb => ?_)
 (repeat (refine aB q15x4 hX mixed rfl ?_; (simp [go_sem]; try (refine ⟨by kernel_rfl,?_⟩))))
 refine lQ (l :=[_]) (oD :=_) [2,3,4,5] hX rfl rfl rfl rfl ?_
 (simp [go_sem]; try (refine ⟨by kernel_rfl,?_⟩))
 refine ⟨_,_,⟨rfl,rfl⟩,by simp [go_sem],by simp [go_sem],fun X hX => ?_⟩
 try (simp [go_sem]; try (refine ⟨by kernel_rfl,?_⟩))
 refine bX (st0 :=⟨mkE [(2,.el 0 37 0 0),(3,.el 1 1 0 0),(4,.el 2 1 0 0),(5,.el 3 2 0 0),(1000000,.el 1 1 0 0),(1000001,.el 2 1 0 0),(1000002,.el 0 37 0 0)],[br {},ir 0,er 0,pst ts 0]⟩) ?_ ?_
 · refine aM _ [.old 0 ⟨31,37,[bl {}]⟩,.old 1 ⟨3,1,[ii 0]⟩,.old 2 ⟨24,1,[ii 0]⟩,.old 3 ⟨119,2,[.agg [.sl (ts.map tk),ii 0]]⟩] (by simp [go_sem]) ?_
   simp [go_sem]
 (repeat (refine aB [2,3,4,5,1000000,1000001,1000002] hX mixed rfl ?_; (simp [go_sem]; try (refine ⟨by kernel_rfl,?_⟩))))
 cases e1 : bylawsT ts with
 | no p e =>
   rw [e1] at hr
   have hr : AV.tup [bl {},ii p,ii e] = r :=hr
   subst hr
   first | refine aO [3] (aT c2 e1) (by simp [go_sem]) ?_ | refine aL [3] (aT c2 e1) (by simp [go_sem]) ?_
   simp [go_sem]
   refine fM [1,2,0] (yQ p e 0 0 {}) rfl ?_ ?_
   · simp [go_sem]
   · refine aJ [] [] ?_
     simp [go_sem]
 | ok b j =>
   rw [e1] at hr
   have hr : AV.tup [bl b,ii 0,ii 0] = r :=hr
   subst hr
   first | refine aF [3] (aN c2 e1) (by simp [go_sem]) ?_ | refine aD [3] (aN c2 e1) (by simp [go_sem]) ?_ | refine aE [3] (aN c2 e1) (by simp [go_sem]) ?_
   try (simp [go_sem]; try (refine ⟨by kernel_rfl,?_⟩))
   refine aK ?_
   simp only [doorQ]
   refine fM [1,2,0] (w8 0 0 b) rfl ?_ ?_
   · simp [go_sem]
   · refine aJ [] [] ?_
     simp [go_sem]
theorem BF (s : By) : MeansH Tryz.prog 7 [] [ss s] (.tup [bl (parseT s).1,ii (parseT s).2.1,ii (parseT s).2.2]) [] :=by
 unfold parseT
 by_cases hl : 2000 < s.length
 · rw [if_pos hl]
   exact nL s 0 6 (by rw [lexAV,if_pos hl]) (by decide)
 · rw [if_neg hl]
   cases h : lexA s 0 with
   | err i e =>
     refine nL s i e (w9 (by omega) h) ?_
     obtain ⟨_,_,h3,_⟩ :=nM s h
     omega
   | ok ts =>
     obtain ⟨hn,h0⟩ :=uE (by omega) h
     have :=yS s ts hn h0 (yT (by omega) h)
     simp only []
     cases hb : bylawsT ts with
     | ok b j => rw [hb] at this; exact this
     | no p e => rw [hb] at this; exact this
theorem kI (s : By) : Means false Tryz.prog 7 [ss s] (.tup [bl (parseT s).1,ii (parseT s).2.1,ii (parseT s).2.2]) :=by
 exact qQ (BF s) (by simp [go_sem]) (by simp [go_sem])
end Go.Proofs.YtaolljbpencjnaaGreatDoor

namespace Go.Proofs.YtaolljbpencjnaaGreatDoor
def okE : E → Prop
 | .num n u => (0 ≤ n ∧ n ≤ 1099511627776) ∧ (0 ≤ u ∧ u ≤ 4) ∧ (u = 0 → n ≤ 1)
 | .nam s => nameOk s = true
 | .un a => okE a
 | .bin o a b => (2 ≤ o ∧ o ≤ 11) ∧ okE a ∧ okE b
 | .ite a b c => okE a ∧ okE b ∧ okE c
theorem wA {ts : List Tk} {i j : Nat} {u : Int} (h : unitT ts i = .ok u j) : 1 ≤ u ∧ u ≤ 4 :=by
 unfold unitT at h
 split at h
 · simp only [Pr.ok.injEq] at h; omega
 · split at h
   · simp only [Pr.ok.injEq] at h; omega
   · split at h
     · obtain ⟨_,k,_,h2⟩ :=aR h
       simp only [Pr.ok.injEq] at h2; omega
     · simp only [Pr.ok.injEq] at h; omega
theorem yU {ts : List Tk} {i : Nat} {o : Opr} (h : opAt ts i = some o) : 2 ≤ o.op ∧ o.op ≤ 11 :=by
 have :=List.mem_of_find?_eq_some h
 simp only [opTab,List.mem_cons,List.not_mem_nil,or_false] at this
 rcases this with rfl | rfl | rfl | rfl | rfl | rfl | rfl | rfl <;> decide
theorem uF {ts : List Tk} (h : OkT ts) : ∀ f : Nat,(∀ form i e j,expF f ts form i = .ok e j → okE e) ∧ (∀ form e own i x j,okE e → loopF f ts form e own i = .ok x j → okE x) ∧
  (∀ form i x j,prefixF f ts form i = .ok x j → okE x.1) ∧ (∀ i e j,primaryF f ts i = .ok e j → okE e)
 | 0 => by refine ⟨?_,?_,?_,?_⟩ <;> intros <;> simp [expF,loopF,prefixF,primaryF] at *
 | f + 1 => by
   obtain ⟨hE,hL,hP,hQ⟩ :=uF h f
   refine ⟨fun form i e j he => ?_,fun form e own i x j ho he => ?_,fun form i x j he => ?_,fun i e j he => ?_⟩
   · rw [expF] at he
     obtain ⟨x,k,h1,h2⟩ :=aR he
     exact hL _ _ _ _ _ _ (hP _ _ _ _ h1) h2
   · rw [loopF] at he
     split at he
     · simp only [Pr.ok.injEq] at he; obtain ⟨rfl,_⟩ :=he; exact ho
     · rename_i o hop
       split at he
       · simp only [Pr.ok.injEq] at he; obtain ⟨rfl,_⟩ :=he; exact ho
       · obtain ⟨y,k,h1,h2⟩ :=aR he
         have hb : okE (.bin o.op e y) :=⟨yU hop,ho,hE _ _ _ _ h1⟩
         exact hL _ _ _ _ _ _ hb h2
   · rw [prefixF] at he
     split at he
     · obtain ⟨a,k1,h1,he⟩ :=aR he
       obtain ⟨_,k2,h2,he⟩ :=aR he
       obtain ⟨b,k3,h3,he⟩ :=aR he
       obtain ⟨_,k4,h4,he⟩ :=aR he
       obtain ⟨c,k5,h5,he⟩ :=aR he
       simp only [Pr.ok.injEq] at he
       obtain ⟨rfl,_⟩ :=he
       exact ⟨hE _ _ _ _ h1,hE _ _ _ _ h3,hE _ _ _ _ h5⟩
     · split at he
       · obtain ⟨a,k1,h1,he⟩ :=aR he
         simp only [Pr.ok.injEq] at he
         obtain ⟨rfl,_⟩ :=he
         have :=hE _ _ _ _ h1
         exact this
       · obtain ⟨a,k1,h1,he⟩ :=aR he
         simp only [Pr.ok.injEq] at he
         obtain ⟨rfl,_⟩ :=he
         have :=hQ _ _ _ h1
         exact this
   · rw [primaryF] at he
     split at he
     · obtain ⟨u,k1,h1,he⟩ :=aR he
       have :=wA h1
       have hn :=h.num' i
       simp only [Pr.ok.injEq] at he
       obtain ⟨rfl,_⟩ :=he
       exact ⟨hn,⟨by omega,this.2⟩,fun e => by omega⟩
     · split at he
       · simp only [Pr.ok.injEq] at he; obtain ⟨rfl,_⟩ :=he; exact ⟨⟨by decide,by decide⟩,⟨by decide,by decide⟩,fun _ => by decide⟩
       · split at he
         · simp only [Pr.ok.injEq] at he; obtain ⟨rfl,_⟩ :=he; exact ⟨⟨by decide,by decide⟩,⟨by decide,by decide⟩,fun _ => by decide⟩
         · split at he
           · obtain ⟨_,k1,h1,he⟩ :=aR he
             obtain ⟨a,k2,h2,he⟩ :=aR he
             obtain ⟨_,k3,h3,he⟩ :=aR he
             obtain ⟨b,k4,h4,he⟩ :=aR he
             obtain ⟨_,k5,h5,he⟩ :=aR he
             simp only [Pr.ok.injEq] at he
             obtain ⟨rfl,_⟩ :=he
             refine ⟨?_,hE _ _ _ _ h2,hE _ _ _ _ h4⟩
             split <;> decide
           · split at he
             · obtain ⟨a,k1,h1,he⟩ :=aR he
               obtain ⟨_,k2,h2,he⟩ :=aR he
               simp only [Pr.ok.injEq] at he
               obtain ⟨rfl,_⟩ :=he
               exact hE _ _ _ _ h1
             · split at he
               · rename_i hs
                 simp only [Pr.ok.injEq] at he; obtain ⟨rfl,_⟩ :=he; exact hs.2
               · cases he
def OkE (e : E) : Prop :=okE e ∧ e.lev ≤ 12
theorem jK {ts : List Tk} (h : OkT ts) {i j : Nat} {e : E} (hw : wholeT ts i = .ok e j) : OkE e :=by
 obtain ⟨x,k,h1,h2⟩ :=aR hw
 split at h2
 · split at h2
   · rename_i hl
     simp only [Pr.ok.injEq] at h2
     obtain ⟨rfl,_⟩ :=h2
     exact ⟨(uF h _).1 _ _ _ _ h1,hl⟩
   · cases h2
 · cases h2
theorem fN {ts : List Tk} (h : OkT ts) {w : By} {i j : Nat} {e : E} (hw : clauseT ts w i = .ok e j) : OkE e :=by
 unfold clauseT at hw
 split at hw
 · exact jK h hw
 · simp only [Pr.ok.injEq] at hw
   obtain ⟨rfl,_⟩ :=hw
   exact ⟨⟨⟨by decide,by decide⟩,⟨by decide,by decide⟩,fun _ => by decide⟩,by decide⟩
structure OkL (l : List (By × E)) : Prop where
 len : l.length ≤ 20
 nam : ∀ x ∈ l,nameOk x.1 = true
 exp : ∀ x ∈ l,OkE x.2
 two : ∀ i j (hi : i < l.length) (hj : j < l.length),i < j → ¬ l[i].1 = l[j].1
theorem qR {ts : List Tk} (h : OkT ts) : ∀ (f : Nat) (acc : List (By × E)) (i : Nat) (l : List (By × E)) (j : Nat),OkL acc → letsF f ts acc i = .ok l j → OkL l
 | 0,_,_,_,_,_,he => by cases he
 | f + 1,acc,i,l,j,ha,he => by
   rw [letsF] at he
   split at he
   · split at he
     · rename_i hlt
       split at he
       · rename_i hk
         split at he
         · cases he
         · rename_i hany
           obtain ⟨_,k1,h1,he⟩ :=aR he
           obtain ⟨e,k2,h2,he⟩ :=aR he
           refine qR h f _ _ _ _ ⟨by simp; omega,fun x hx => ?_,fun x hx => ?_,fun a b hla hlb hab => ?_⟩ he
           · rcases List.mem_append.1 hx with hx | hx
             · exact ha.nam x hx
             · simp only [List.mem_singleton] at hx; subst hx; exact hk.2
           · rcases List.mem_append.1 hx with hx | hx
             · exact ha.exp x hx
             · simp only [List.mem_singleton] at hx; subst hx; exact jK h h2
           · simp only [List.length_append,List.length_cons,List.length_nil] at hla hlb
             rw [List.getElem_append_left (by omega)]
             by_cases hb : b < acc.length
             · rw [List.getElem_append_left hb]
               exact ha.two a b _ hb hab
             · have hb2 : b = acc.length :=by omega
               subst hb2
               rw [List.getElem_append_right (Nat.le_refl _)]
               intro heq
               apply hany
               refine List.any_eq_true.2 ⟨acc[a],List.getElem_mem _,?_⟩
               simpa using heq
       · cases he
     · cases he
   · simp only [Pr.ok.injEq] at he
     obtain ⟨rfl,_⟩ :=he
     exact ha
structure OkB (b : Bl) : Prop where
 kind : 0 ≤ b.kind ∧ b.kind ≤ 2
 sld : b.sld = true → b.kind = 1
 order : 0 ≤ b.order ∧ b.order ≤ 2
 period : 1 ≤ b.period ∧ b.period ≤ 1000
 last : 1 ≤ b.last ∧ b.last ≤ 1000
 grace : 0 ≤ b.grace ∧ b.grace ≤ 1000
 wait : 0 ≤ b.wait ∧ b.wait ≤ 1000
 voices : 0 ≤ b.voices ∧ b.voices ≤ 1000
 fund : 0 ≤ b.fund ∧ b.fund ≤ 1000
 backs : 0 ≤ b.backs ∧ b.backs ≤ 60
 jury : 0 ≤ b.jury ∧ b.jury ≤ 60
 lets : OkL b.lets
 due : OkE b.due
 fine : OkE b.fine
 pay : OkE b.pay
 cover : OkE b.cover
 hold : OkE b.hold
theorem nN {ts : List Tk} {i j : Nat} {x : Int × Bool} (h : kindT ts i = .ok x j) : (0 ≤ x.1 ∧ x.1 ≤ 2) ∧ (x.2 = true → x.1 = 1) :=by
 obtain ⟨_,k,_,h2⟩ :=aR h
 split at h2
 · obtain ⟨_,_,_,h3⟩ :=aR h2
   simp only [Pr.ok.injEq] at h3; obtain ⟨rfl,_⟩ :=h3; simp
 · split at h2
   · obtain ⟨_,_,_,h3⟩ :=aR h2
     simp only [Pr.ok.injEq] at h3; obtain ⟨rfl,_⟩ :=h3; simp
   · obtain ⟨_,_,_,h3⟩ :=aR h2
     obtain ⟨_,_,_,h4⟩ :=aR h3
     simp only [Pr.ok.injEq] at h4; obtain ⟨rfl,_⟩ :=h4; simp
theorem sO {ts : List Tk} {i j : Nat} {n : Int} (h : orderT ts i = .ok n j) : 0 ≤ n ∧ n ≤ 2 :=by
 unfold orderT at h
 split at h
 · split at h
   · rename_i m hm
     obtain ⟨_,_,_,h3⟩ :=aR h
     simp only [Pr.ok.injEq] at h3; obtain ⟨rfl,_⟩ :=h3
     obtain ⟨hm1,_⟩ :=List.findIdx?_eq_some_iff_getElem.1 hm
     simp only [ordersL,List.length_cons,List.length_nil] at hm1
     omega
   · cases h
 · simp only [Pr.ok.injEq] at h; omega
theorem pA {α : Type} {ts : List Tk} {b : Bool} {e : Int} {i j : Nat} {r : Pr α} {x : α} (h : chk ts b e i r = .ok x j) : b = true ∧ r = .ok x j :=by
 unfold chk at h
 split at h
 · rename_i hb; exact ⟨hb,h⟩
 · cases h
theorem dA {ts : List Tk} {word : By} {a b : Int} {l : List By} {i j : Nat} {n : Int} (hw : partT ts word a b l i = .ok n j) : (n = 0 ∧ isT ts word i = false) ∨ (a ≤ n ∧ n ≤ b) :=by
 unfold partT at hw
 split at hw
 · obtain ⟨m,k,h1,h2⟩ :=aR hw
   obtain ⟨_,q,h3,h4⟩ :=aR h2
   simp only [Pr.ok.injEq] at h4
   obtain ⟨rfl,_⟩ :=h4
   unfold numberT at h1
   split at h1
   · split at h1
     · rename_i hn
       simp only [Pr.ok.injEq] at h1
       obtain ⟨rfl,_⟩ :=h1
       exact .inr hn
     · cases h1
   · cases h1
 · rename_i hs
   simp only [Pr.ok.injEq] at hw
   exact .inl ⟨hw.1.symm,by simpa using hs⟩
theorem sP {ts : List Tk} (h : OkT ts) {b : Bl} {j : Nat} (hb : bylawsT ts = .ok b j) : OkB b :=by
 unfold bylawsT at hb
 obtain ⟨k,i0,h0,hb⟩ :=aR hb
 obtain ⟨s1,hb⟩ :=pA hb
 obtain ⟨period,i1,h1,hb⟩ :=aR hb
 obtain ⟨s2,hb⟩ :=pA hb
 obtain ⟨last,i2,h2,hb⟩ :=aR hb
 obtain ⟨grace,i3,h3,hb⟩ :=aR hb
 obtain ⟨wait,i4,h4,hb⟩ :=aR hb
 obtain ⟨order,i5,h5,hb⟩ :=aR hb
 obtain ⟨backs,i6,h6,hb⟩ :=aR hb
 obtain ⟨voices,i7,h7,hb⟩ :=aR hb
 obtain ⟨jury,i8,h8,hb⟩ :=aR hb
 obtain ⟨fund,i9,h9,hb⟩ :=aR hb
 obtain ⟨lets,i10,h10,hb⟩ :=aR hb
 obtain ⟨_,i11,h11,hb⟩ :=aR hb
 obtain ⟨due,i12,h12,hb⟩ :=aR hb
 obtain ⟨fine,i13,h13,hb⟩ :=aR hb
 obtain ⟨pay,i14,h14,hb⟩ :=aR hb
 obtain ⟨cover,i15,h15,hb⟩ :=aR hb
 obtain ⟨hold,i16,h16,hb⟩ :=aR hb
 obtain ⟨_,hb⟩ :=pA hb
 simp only [Pr.ok.injEq] at hb
 obtain ⟨rfl,_⟩ :=hb
 have z : ∀ {n a b : Int} {p : Prop},(n = 0 ∧ p) ∨ (a ≤ n ∧ n ≤ b) → a ≤ 0 → 0 ≤ b → a ≤ n ∧ n ≤ b :=fun h h1 h2 => by
  rcases h with h | h
  · rw [h.1]; exact ⟨h1,h2⟩
  · exact h
 refine ⟨(nN h0).1,(nN h0).2,sO h5,?_,?_,z (dA h3) (by decide) (by decide),z (dA h4) (by decide) (by decide),z (dA h7) (by decide) (by decide),z (dA h9) (by decide) (by decide),z (dA h6) (by decide) (by decide),z (dA h8) (by decide) (by decide),
  qR h _ _ _ _ _ ⟨by simp,by simp,by simp,by simp⟩ h10,jK h h12,fN h h13,fN h h14,fN h h15,fN h h16⟩
 · rcases dA h1 with h | h
   · rw [s1] at h; cases h.2
   · exact h
 · rcases dA h2 with h | h
   · rw [s2] at h; cases h.2
   · exact h
def Pr.ne {α : Type} (r : Pr α) : Prop :=∀ p e,r = .no p e → e ≠ 0
theorem aY {α β : Type} {r : Pr α} {f : α → Nat → Pr β} (h : r.ne) (hf : ∀ x i,(f x i).ne) : (r.bind f).ne :=by
 cases r with
 | ok x i => exact hf x i
 | no p e => intro q c hc; simp only [Pr.bind_no,Pr.no.injEq] at hc; obtain ⟨rfl,rfl⟩ :=hc; exact h _ _ rfl
theorem cK {α : Type} (x : α) (i : Nat) : (Pr.ok x i).ne :=fun _ _ h => by cases h
theorem dZ {α : Type} {p e : Int} (h : e ≠ 0) : (Pr.no p e : Pr α).ne :=fun _ _ hc => by cases hc; exact h
theorem bJ {α : Type} {c : Prop} [Decidable c] {x y : Pr α} (hx : x.ne) (hy : y.ne) : (if c then x else y).ne :=by split <;> assumption
theorem bM {ts : List Tk} : ∀ (l : List By) (i : Nat),(wantT ts l i).ne
 | [],i => cK _ _
 | s :: l,i => bJ (bM l _) (dZ (by decide))
theorem sQ {ts : List Tk} (a b : Int) (i : Nat) : (numberT ts a b i).ne :=bJ (bJ (cK _ _) (dZ (by decide))) (dZ (by decide))
theorem dU {ts : List Tk} (w : By) (a b : Int) (l : List By) (i : Nat) : (partT ts w a b l i).ne :=bJ (aY (sQ _ _ _) fun _ _ => aY (bM _ _) fun _ _ => cK _ _) (cK _ _)
theorem yV {ts : List Tk} (i : Nat) : (unitT ts i).ne :=bJ (cK _ _) (bJ (cK _ _) (bJ (aY (bM _ _) fun _ _ => cK _ _) (cK _ _)))
theorem yW {ts : List Tk} : ∀ f : Nat,(∀ form i,(expF f ts form i).ne) ∧ (∀ form e own i,(loopF f ts form e own i).ne) ∧ (∀ form i,(prefixF f ts form i).ne) ∧ (∀ i,(primaryF f ts i).ne)
 | 0 => ⟨fun _ _ => by rw [expF]; exact dZ (by decide),fun _ _ _ _ => by rw [loopF]; exact dZ (by decide),fun _ _ => by rw [prefixF]; exact dZ (by decide),fun _ => by rw [primaryF]; exact dZ (by decide)⟩
 | f + 1 => by
   obtain ⟨hE,hL,hP,hQ⟩ :=yW (ts :=ts) f
   refine ⟨fun form i => ?_,fun form e own i => ?_,fun form i => ?_,fun i => ?_⟩
   · rw [expF]; exact aY (hP _ _) fun _ _ => hL _ _ _ _
   · rw [loopF]
     split
     · exact cK _ _
     · exact bJ (cK _ _) (aY (hE _ _) fun _ _ => hL _ _ _ _)
   · rw [prefixF]
     exact bJ (aY (hE _ _) fun _ _ => aY (bM _ _) fun _ _ => aY (hE _ _) fun _ _ => aY (bM _ _) fun _ _ => aY (hE _ _) fun _ _ => cK _ _)
      (bJ (aY (hE _ _) fun _ _ => cK _ _) (aY (hQ _) fun _ _ => cK _ _))
   · rw [primaryF]
     exact bJ (aY (yV _) fun _ _ => cK _ _) (bJ (cK _ _) (bJ (cK _ _) (bJ
      (aY (bM _ _) fun _ _ => aY (hE _ _) fun _ _ => aY (bM _ _) fun _ _ => aY (hE _ _) fun _ _ => aY (bM _ _) fun _ _ => cK _ _)
      (bJ (aY (hE _ _) fun _ _ => aY (bM _ _) fun _ _ => cK _ _) (bJ (cK _ _) (dZ (by decide)))))))
theorem jL {ts : List Tk} (i : Nat) : (wholeT ts i).ne :=aY ((yW _).1 _ _) fun _ _ => bJ (bJ (cK _ _) (dZ (by decide))) (dZ (by decide))
theorem fP {ts : List Tk} (w : By) (i : Nat) : (clauseT ts w i).ne :=bJ (jL _) (cK _ _)
theorem yX {ts : List Tk} (i : Nat) : (kindT ts i).ne :=aY (bM _ _) fun _ _ => bJ (aY (bM _ _) fun _ _ => cK _ _) (bJ (aY (bM _ _) fun _ _ => cK _ _) (aY (bM _ _) fun _ _ => aY (bM _ _) fun _ _ => cK _ _))
theorem wB {ts : List Tk} (i : Nat) : (orderT ts i).ne :=by
 unfold orderT
 refine bJ ?_ (cK _ _)
 split
 · exact aY (bM _ _) fun _ _ => cK _ _
 · exact dZ (by decide)
theorem qS {ts : List Tk} : ∀ (f : Nat) (acc : List (By × E)) (i : Nat),(letsF f ts acc i).ne
 | 0,_,_ => dZ (by decide)
 | f + 1,acc,i => bJ (bJ (bJ (bJ (dZ (by decide)) (aY (bM _ _) fun _ _ => aY (jL _) fun _ _ => qS f _ _)) (dZ (by decide))) (dZ (by decide))) (cK _ _)
theorem sR {α : Type} {ts : List Tk} {b : Bool} {e : Int} {i : Nat} {r : Pr α} (he : e ≠ 0) (h : r.ne) : (chk ts b e i r).ne :=bJ h (dZ he)
theorem sS {ts : List Tk} : (bylawsT ts).ne :=
 aY (yX _) fun _ _ => sR (by decide) <| aY (dU _ _ _ _ _) fun _ _ => sR (by decide) <| aY (dU _ _ _ _ _) fun _ _ => aY (dU _ _ _ _ _) fun _ _ => aY (dU _ _ _ _ _) fun _ _ =>
 aY (wB _) fun _ _ => aY (dU _ _ _ _ _) fun _ _ => aY (dU _ _ _ _ _) fun _ _ => aY (dU _ _ _ _ _) fun _ _ => aY (dU _ _ _ _ _) fun _ _ => aY (qS _ _ _) fun _ _ =>
 aY (bM _ _) fun _ _ => aY (jL _) fun _ _ => aY (fP _ _) fun _ _ => aY (fP _ _) fun _ _ => aY (fP _ _) fun _ _ => aY (fP _ _) fun _ _ => sR (by decide) (cK _ _)
theorem gI {s : By} (h : (parseT s).2.2 = 0) : OkB (parseT s).1 :=by
 unfold parseT at h ⊢
 split
 · rename_i hl; rw [if_pos hl] at h; cases h
 · rename_i hl
   rw [if_neg hl] at h
   cases hx : lexA s 0 with
   | err i e =>
     rw [hx] at h
     simp only [] at h
     obtain ⟨_,_,h3,_⟩ :=nM s hx
     omega
   | ok ts =>
     rw [hx] at h
     simp only [] at h ⊢
     obtain ⟨hn,h0⟩ :=uE (by omega) hx
     cases hb : bylawsT ts with
     | ok b j => exact sP hn hb
     | no p e =>
       rw [hb] at h
       simp only [] at h
       exact (sS p e hb h).elim
end Go.Proofs.YtaolljbpencjnaaGreatDoor

