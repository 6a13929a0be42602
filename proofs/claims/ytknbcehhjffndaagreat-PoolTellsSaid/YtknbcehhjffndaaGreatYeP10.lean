/-
  Lemmas for the statement at the top.
-/
import Derived.Test.YtknbcehhjffndaaGreatYeFw5
import Derived.Test.YtknbcehhjffndaaGreatYeP9
set_option linter.all false
namespace Go.Ab
def q6x0 : List Nat :=[0,1,4,5,6,7,8,9,10,11,14,15,16,18,19,20,24,44,74,75,76,1000000]
def q6x1 : List Nat :=[0,1,4,5,6,7,8,22,23,24,25,26,59]
def q6x2 : List Nat :=[0,1,4,5,7,8,9,16]
def q6x3 : List Nat :=[0,2,3,5,6,7,8,9]
attribute [go_sem] q6x0 q6x1 q6x2 q6x3
end Go.Ab
namespace Go.Ab
open Go.RowKit
def mapT (φ : Nat → Nat) (t : TagT) : TagT :=⟨t.t.map φ,t.w.map φ,t.e⟩
theorem zA (φ : Nat → Nat) {a b : TagT} (h : noMeetT (mapT φ a) (mapT φ b) = true) : noMeetT a b = true :=by
 unfold noMeetT mapT at *
 simp only [Bool.and_eq_true,List.all_eq_true,List.mem_map,forall_exists_index,and_imp,forall_apply_eq_imp_iff₂,Bool.not_eq_true',List.contains_eq_mem,decide_eq_false_iff_not] at h ⊢
 exact ⟨⟨h.1.1,fun x hx hm => h.1.2 x hx ⟨x,hm,rfl⟩⟩,fun x hx hm => h.2 x hx ⟨x,hm,rfl⟩⟩
theorem zB {ops : Array Oper} {ts : List TagT} (φ : Nat → Nat) (ts' : List TagT) (h : ts.map (mapT φ) = ts') (hd : drawOK ops (meetT ts') = true) : drawOK ops (meetT ts) = true :=by
 subst h
 have hg : ∀ i,(ts.map (mapT φ)).getD i default = mapT φ (ts.getD i default) :=by
  intro i
  rw [List.getD_eq_getElem?_getD,List.getD_eq_getElem?_getD,List.getElem?_map]
  cases ts[i]? <;> rfl
 unfold drawOK at *
 simp only [List.all_eq_true,Bool.and_eq_true,Bool.or_eq_true] at hd ⊢
 intro p hp
 refine ⟨(hd p hp).1,fun q hq => ?_⟩
 rcases (hd p hp).2 q hq with h1 | h1
 · exact .inl h1
 · refine .inr ⟨h1.1,?_⟩
   have h2 :=h1.2
   unfold meetT at *
   rw [hg,hg] at h2
   exact zA φ h2
def phi (a b x : Nat) : Nat :=if x < a then x else if x < b then a else a + 1 + (x - b)
theorem c7 {ops : Array Oper} {ts : List TagT} (a b : Nat) (hd : drawOK ops (meetT (ts.map (mapT (phi a b)))) = true) : drawOK ops (meetT ts) = true :=zB (phi a b) _ rfl hd
theorem bN (a : Nat) : newIds a a = [] :=by unfold newIds; rw [Nat.sub_self]; rfl
theorem zC (a : Nat) : newIds a (a + 1) = [a] :=by unfold newIds; rw [Nat.add_sub_cancel_left]; rfl
theorem mI (n : Nat) : upN (List.range n) n = id :=by
 funext i
 unfold upN
 by_cases h : i < n
 · rw [if_pos (by simpa using h),List.getD_eq_getElem?_getD,List.getElem?_range h]; rfl
 · rw [if_neg (by simpa using h),List.length_range]
   show n + (i - n) = i
   omega
theorem FZ (e : AV) : renB id e = e :=by cases e <;> rfl
theorem o8 (l : List AV) : l.map (renB id) = l :=by rw [show renB id = id from funext FZ,List.map_id]
theorem BC (e : AV) : ren id e = e :=by
 induction e using AV.zone.induct with
 | case4 f a b => simp only [ren,o8]
 | case5 g y ih => simp only [ren,ih]
 | case6 es => simp only [ren,o8]
 | case7 es => simp only [ren,o8]
 | case1 i => rfl
 | case2 a b c d => rfl
 | case3 a b c d => rfl
 | case8 e h1 h2 h3 h4 h5 h6 h7 =>
   cases e <;> first | rfl | exact (h1 _ rfl).elim | exact (h2 _ _ _ _ rfl).elim | exact (h3 _ _ _ _ rfl).elim | exact (h4 _ _ _ rfl).elim | exact (h5 _ _ rfl).elim | exact (h6 _ rfl).elim | exact (h7 _ rfl).elim
theorem G1 (e : AV) : renF id e = e :=by
 cases e with
 | agg cs => simp only [renF,o8]
 | _ => rfl
theorem qF (c : Cell) : renCell id c = c :=by
 cases c with
 | row o =>
   have : renEs id o.es = o.es :=by
    unfold renEs
    rw [show renF id = id from funext G1,List.map_id]
    cases zoneEs o.es <;> rfl
   simp only [renCell,this]
 | _ => rfl
theorem lN : ∀ (H G : List Cell) (b : Nat),(∀ i c,H[i]? = some c → G[b + i]? = some c) → okCells id G ((List.range H.length).map (· + b)) H
 | [],G,b,_ => trivial
 | c :: H,G,b,h => by
   rw [List.length_cons,List.range_succ_eq_map,List.map_cons,List.map_map]
   refine ⟨by rw [qF]; simpa using h 0 c rfl,?_⟩
   have :=lN H G (b + 1) fun i d hi => by
    have :=h (i + 1) d (by simpa using hi)
    rw [← this]; congr 1; omega
   have e : List.map ((fun x => x + b) ∘ Nat.succ) (List.range H.length) = List.map (fun x => x + (b + 1)) (List.range H.length) :=List.map_congr_left fun x _ => by simp only [Function.comp_apply]; omega
   rw [e]; exact this
theorem r5 (H : List Cell) : okCells id H (List.range H.length) H :=by
 have :=lN H H 0 fun i c h => by rw [Nat.zero_add]; exact h
 simpa using this
theorem nF {m : Nat} : ∀ {al : List AV},(∀ e ∈ al,e.idLt m) → okArgs id m al al
 | [],_ => trivial
 | a :: al,h => ⟨⟨.inl (BC a).symm,h a (by simp)⟩,nF fun e he => h e (List.mem_cons_of_mem _ he)⟩
theorem nG {H : List Cell} {args : List AV} (ho : okRowIds H.length H) (ha : ∀ e ∈ args,e.idLt H.length) : CallHC H args (List.range H.length) H args :=by
 unfold CallHC
 rw [mI]
 exact ⟨List.nodup_range,fun c hc => by simpa using hc,r5 H,ho,nF ha⟩
theorem CY (H H' : List Cell) (hl : H.length ≤ H'.length) : heapAfter H (List.range H.length) H' = H' :=by
 have hlen : (heapAfter H (List.range H.length) H').length = H'.length :=by rw [dE,List.length_range]; omega
 apply List.ext_getElem?
 intro i
 by_cases hi : i < H'.length
 · have h1 :=sR (Hc :=H) (ps :=List.range H.length) (H' :=H') List.nodup_range (fun c hc => by simpa using hc) (by simpa using hl) (List.getElem?_eq_getElem hi)
   rw [mI,qF] at h1
   rw [List.getElem?_eq_getElem hi]; exact h1
 · rw [List.getElem?_eq_none (by omega),List.getElem?_eq_none (by omega)]
theorem CT {P : Program} {f : FuncId} {args : List AV} {b ok : Bool} {H : List Cell} {raw : List AV} {s : Bool} {k : Bool → AV → List Cell → Prop} {largs : List AV} {r : AV} {H' : List Cell} (h : MeansH P f H largs r H') (hr : raw = largs) (ho : okRowIds H.length H) (ha : ∀ e ∈ largs,e.idLt H.length) (hl : H.length ≤ H'.length) (hk : k true r H') : CallK P f args b ok H raw false s k :=by
 subst hr
 refine .inr (.inl ⟨rfl,List.range H.length,H,raw,r,H',h,nG ho ha,?_⟩)
 rw [mI,BC,CY H H' hl]; exact hk
theorem CU {P : Program} {f : FuncId} {args : List AV} {b ok : Bool} {c0 : Cell} {R : List Cell} {raw : List AV} {s : Bool} {k : Bool → AV → List Cell → Prop} {largs : List AV} {c0' : Cell} {o : Ob} (h : MeansX P f 1 (c0 :: R) largs (.ow 1) [c0',.row o]) (hr : raw = largs) (ho : okRowIds (R.length + 1) (c0 :: R)) (ha : ∀ e ∈ largs,e.idLt (R.length + 1)) (hz0 : renCell (upN [0] (R.length + 1)) c0' = c0') (hz : zoneEs o.es = true)
  (hk : ∀ D : List Cell,D.length = R.length → k true (.ow (R.length + 1)) (c0' :: (D ++ [.row o]))) : CallK P f args b ok (c0 :: R) raw false s k :=by
 subst hr
 have e0 : List.range (c0 :: R).length = [0] ++ (List.range R.length).map (· + 1) :=by rw [List.length_cons,List.range_succ_eq_map]; rfl
 have hc :=nG (H :=c0 :: R) (args :=raw) ho ha
 rw [e0] at hc
 refine .inr (.inr (.inr (.inl ⟨rfl,[0],(List.range R.length).map (· + 1),c0 :: R,raw,.ow 1,[c0',.row o],h,hc,?_⟩)))
 have e1 : ren (upN [0] (c0 :: R).length) (.ow 1) = .ow (R.length + 1) :=by
  simp only [ren,upN,List.length_cons,List.length_nil]
  rw [if_neg (by omega)]
 have e2 : ∀ D : List Cell,D.length = R.length + 1 → ∃ D',D'.length = R.length ∧ heapAfter D [0] [c0',.row o] = c0' :: (D' ++ [.row o]) :=by
  intro D hD
  match D,hD with
  | d :: D',hD =>
    refine ⟨D',by simpa using hD,?_⟩
    simp only [heapAfter,setAll,List.map_cons,List.map_nil,List.length_cons,List.length_nil,List.drop_succ_cons,List.drop_zero,List.set_cons_zero,List.cons_append]
    have hD2 : D'.length + 1 = R.length + 1 :=by simpa using hD
    rw [hD2,hz0]
    have : renCell (upN [0] (R.length + 1)) (.row o) = .row o :=by simp only [renCell,renEs,hz,cond_true]
    rw [this]
 obtain ⟨D',h1,h2⟩ :=e2 (killH (c0 :: R) ((List.range R.length).map (· + 1))) (by rw [dG]; rfl)
 rw [e1,h2]
 exact hk D' h1
theorem bQ {X : Ctx} {a b c : St} (h1 : Sub X a b) (h2 : Sub X b c) : Sub X a c :=fun t w hr => h1 t w (h2 t w hr)
theorem nC {l : List Nat} {q b n : Nat} (h1 : l.Nodup) (h2 : q ∉ l) (h3 : ∀ x ∈ l,x < b ∨ b + n ≤ x) (h4 : q < b ∨ b + n ≤ q) : (l ++ q :: (List.range n).map fun k => k + b).Nodup :=by
 rw [List.nodup_append]
 refine ⟨h1,?_,?_⟩
 · rw [List.nodup_cons]
   refine ⟨fun hm => ?_,?_⟩
   · obtain ⟨k,hk,e⟩ :=List.mem_map.1 hm
     have : k < n :=by simpa using hk
     omega
   · refine List.pairwise_map.2 (List.Pairwise.imp (fun {x y} (h : x ≠ y) (e : x + b = y + b) => h (by omega)) List.nodup_range)
 · intro a ha c hc e
   subst e
   rcases List.mem_cons.1 hc with rfl | hm
   · exact h2 ha
   · obtain ⟨k,hk,e⟩ :=List.mem_map.1 hm
     have : k < n :=by simpa using hk
     have :=h3 a ha
     omega
theorem IL {H : List Cell} (HS0 : List Src) (q : Nat) (f : Nat → Nat) {E1 E2 k2 : Nat} (M : List (List AV))
  (hq : H[q]? = some (.row ⟨E1,1,(List.range M.length).map fun k => AV.ow (f k)⟩))
  (hf : ∀ j es,M[j]? = some es → H[f j]? = some (.row ⟨E2,k2,es⟩) ∧ zoneEs es = true)
  (h0 : okS0 (HS0 ++ .old q ⟨E1,1,outN (HS0.length + 1) M.length⟩ :: matS f E2 k2 0 M) H HS0)
  (hn : (HS0.filterMap Src.rid ++ q :: (List.range M.length).map f).Nodup) :
  okS (HS0 ++ .old q ⟨E1,1,outN (HS0.length + 1) M.length⟩ :: matS f E2 k2 0 M) H (HS0 ++ .old q ⟨E1,1,outN (HS0.length + 1) M.length⟩ :: matS f E2 k2 0 M) :=by
 refine lU (fun s hs => ?_) ?_
 · rcases List.mem_append.1 hs with hs | hs
   · exact oX h0 s hs
   · rcases List.mem_cons.1 hs with rfl | hs
     · show okR _ _ _ _
       rw [hq]
       refine ⟨⟨rfl,rfl⟩,.inr ?_⟩
       refine kF f (fun k => k + (HS0.length + 1)) _ fun j hj => ?_
       have hj' : j < M.length :=by simpa using hj
       refine ⟨⟨E2,k2,M[j]⟩,?_⟩
       rw [List.getElem?_append_right (by omega)]
       have : j + (HS0.length + 1) - HS0.length = j + 1 :=by omega
       rw [this,List.getElem?_cons_succ,iK,List.getElem?_eq_getElem hj',Nat.zero_add]; rfl
     · obtain ⟨j,hj,rfl⟩ :=List.getElem_of_mem hs
       rw [f9] at hj
       have hg : (matS f E2 k2 0 M)[j]? = some (.old (f j) ⟨E2,k2,M[j]⟩) :=by rw [iK,List.getElem?_eq_getElem hj,Nat.zero_add]; rfl
       have he : (matS f E2 k2 0 M)[j]'(by rw [f9]; exact hj) = .old (f j) ⟨E2,k2,M[j]⟩ :=by
        rw [List.getElem?_eq_getElem (by rw [f9]; exact hj)] at hg
        exact Option.some.inj hg
       rw [he]
       obtain ⟨h1,h2⟩ :=hf j M[j] (List.getElem?_eq_getElem hj)
       show okR _ _ _ _
       rw [h1]
       exact ⟨⟨rfl,rfl⟩,.inl ⟨rfl,h2⟩⟩
 · rw [List.filterMap_append,List.filterMap_cons]
   simp only [Src.rid]
   rw [oY]
   simpa using hn
theorem mF {X : Ctx} {env : Nat → AV} (L : List (Nat × AV)) (s0 s1 : Src) (a b : Cell) {E1 E2 k2 : Nat} (M : List (List AV)) (T : List Cell) (n : Nat) (hn : M.length = n) (hz : ∀ es ∈ M,zoneEs es = true)
  (h0 : okS0 (s0 :: s1 :: .old 2 ⟨E1,1,outN 3 n⟩ :: matS (fun k => k + 3) E2 k2 0 M) (a :: b :: .row ⟨E1,1,outN 3 n⟩ :: (matC E2 k2 M ++ T)) [s0,s1])
  (hd : ([s0,s1].filterMap Src.rid).Nodup) (hi : ∀ x ∈ [s0,s1].filterMap Src.rid,x < 2 ∨ n + 3 ≤ x)
  (hL : okL (s0 :: s1 :: .old 2 ⟨E1,1,outN 3 n⟩ :: matS (fun k => k + 3) E2 k2 0 M) ⟨env,a :: b :: .row ⟨E1,1,outN 3 n⟩ :: (matC E2 k2 M ++ T)⟩ L) :
  Sub X ⟨mkE L,s0.cell :: s1.cell :: .row ⟨E1,1,outN 3 n⟩ :: matC E2 k2 M⟩ ⟨env,a :: b :: .row ⟨E1,1,outN 3 n⟩ :: (matC E2 k2 M ++ T)⟩ :=by
 subst hn
 exact gU (st :=⟨env,a :: b :: .row ⟨E1,1,outN 3 M.length⟩ :: (matC E2 k2 M ++ T)⟩) L [s0,s1] 2 (fun k => k + 3) M rfl (fun j es h => ⟨by
   show (matC E2 k2 M ++ T)[j]? = _
   rw [List.getElem?_append_left (by rw [aY]; exact (List.getElem?_eq_some_iff.1 h).1)]
   exact bG h,hz es (List.mem_of_getElem? h)⟩) h0
  (nC hd (fun h => by have :=hi _ h; omega) (fun x hx => by have :=hi x hx; omega) (by omega)) hL
theorem B6 {X : Ctx} {env : Nat → AV} (L : List (Nat × AV)) (s0 s1 : Src) (a b c : Cell) {E1 E2 k2 : Nat} (M : List (List AV)) (es : List AV) (c0 c1 : Cell) (n : Nat) (hn : M.length = n) (hz : ∀ es ∈ M,zoneEs es = true) (hz2 : zoneEs es = true)
  (h0 : okS0 (s0 :: s1 :: .old (n + 6) ⟨E1,1,outN 3 (n + 1)⟩ :: matS (fun k => if k < n then k + 3 else n + 4) E2 k2 0 (M ++ [es])) (a :: b :: c :: (matC E2 k2 M ++ [c0,.row ⟨E2,k2,es⟩,c1,.row ⟨E1,1,outN 3 n ++ [.ow (n + 4)]⟩])) [s0,s1])
  (hd : ([s0,s1].filterMap Src.rid).Nodup) (hi : ∀ x ∈ [s0,s1].filterMap Src.rid,x < 2)
  (hL : okL (s0 :: s1 :: .old (n + 6) ⟨E1,1,outN 3 (n + 1)⟩ :: matS (fun k => if k < n then k + 3 else n + 4) E2 k2 0 (M ++ [es])) ⟨env,a :: b :: c :: (matC E2 k2 M ++ [c0,.row ⟨E2,k2,es⟩,c1,.row ⟨E1,1,outN 3 n ++ [.ow (n + 4)]⟩])⟩ L) :
  Sub X ⟨mkE L,s0.cell :: s1.cell :: .row ⟨E1,1,outN 3 (n + 1)⟩ :: matC E2 k2 (M ++ [es])⟩ ⟨env,a :: b :: c :: (matC E2 k2 M ++ [c0,.row ⟨E2,k2,es⟩,c1,.row ⟨E1,1,outN 3 n ++ [.ow (n + 4)]⟩])⟩ :=by
 subst hn
 have hl : (M ++ [es]).length = M.length + 1 :=by simp
 have hr : (List.range (M.length + 1)).map (fun k => AV.ow (if k < M.length then k + 3 else M.length + 4)) = outN 3 M.length ++ [.ow (M.length + 4)] :=by
  rw [List.range_succ,List.map_append]
  congr 1
  · exact List.map_congr_left fun k hk => by
     have : k < M.length :=by simpa using hk
     rw [if_pos this]
  · simp
 have h :=gU (X :=X) (st :=⟨env,a :: b :: c :: (matC E2 k2 M ++ [c0,.row ⟨E2,k2,es⟩,c1,.row ⟨E1,1,outN 3 M.length ++ [.ow (M.length + 4)]⟩])⟩) (E1 :=E1) (E2 :=E2) (k2 :=k2) L [s0,s1] (M.length + 6) (fun k => if k < M.length then k + 3 else M.length + 4) (M ++ [es]) (by
   show (matC E2 k2 M ++ [c0,.row ⟨E2,k2,es⟩,c1,.row ⟨E1,1,outN 3 M.length ++ [.ow (M.length + 4)]⟩])[M.length + 3]? = _
   rw [List.getElem?_append_right (by rw [aY]; omega),aY,Nat.add_sub_cancel_left,hl,hr]
   rfl) (fun j es' hj => ?_) (by rw [hl]; exact h0) ?_ (by rw [hl]; exact hL)
 · rw [hl] at h; exact h
 · by_cases hjm : j < M.length
   · simp only [if_pos hjm]
     show (matC E2 k2 M ++ [c0,.row ⟨E2,k2,es⟩,c1,.row ⟨E1,1,outN 3 M.length ++ [.ow (M.length + 4)]⟩])[j]? = _ ∧ _
     rw [List.getElem?_append_left hjm] at hj
     rw [List.getElem?_append_left (by rw [aY]; exact hjm)]
     exact ⟨bG hj,hz es' (List.mem_of_getElem? hj)⟩
   · have hjl :=(List.getElem?_eq_some_iff.1 hj).1
     have : j = M.length :=by simp at hjl; omega
     subst this
     simp only [if_neg hjm]
     show (matC E2 k2 M ++ [c0,.row ⟨E2,k2,es⟩,c1,.row ⟨E1,1,outN 3 M.length ++ [.ow (M.length + 4)]⟩])[M.length + 1]? = _ ∧ _
     rw [List.getElem?_append_right (by omega),Nat.sub_self] at hj
     simp at hj
     subst hj
     rw [List.getElem?_append_right (by rw [aY]; omega),aY,Nat.add_sub_cancel_left]
     exact ⟨rfl,hz2⟩
 · rw [hl,List.nodup_append]
   refine ⟨hd,?_,?_⟩
   · rw [List.nodup_cons]
     refine ⟨fun hm => ?_,?_⟩
     · obtain ⟨k,hk,e⟩ :=List.mem_map.1 hm
       have : k < M.length + 1 :=by simpa using hk
       split at e <;> omega
     · refine List.pairwise_map.2 (List.Pairwise.imp_of_mem (fun {x y} hx hy (h : x ≠ y) e => ?_) List.nodup_range)
       have hx' : x < M.length + 1 :=by simpa using hx
       have hy' : y < M.length + 1 :=by simpa using hy
       split at e <;> split at e <;> omega
   · intro u hu v hv e
     subst e
     have :=hi u hu
     rcases List.mem_cons.1 hv with rfl | hm
     · omega
     · obtain ⟨k,hk,e⟩ :=List.mem_map.1 hm
       split at e <;> omega
attribute [go_sem] zC bN
end Go.Ab

namespace Go.Proofs.YtknbcehhjffndaaGreat
open Go.RowKit Go.Ab
attribute [local irreducible] AWP Go.Ab.Sub Means MeansH MeansX CallK CallG CallT CallGT CallU
theorem z9 {a b : Rat} (ha : rq a) (hb : rq b) (h : okMul a b) : MeansH Tryz.prog 31 [calC 0] [.el 0 1 0 0,frq a,frq b] (frq (a * b)) [calC 0] :=MF 0 (KC ha hb h)
theorem LI {a b : Rat} (ha : rq a) (hb : rq b) (h : okSub a b) : MeansH Tryz.prog 38 [calC 0] [.el 0 1 0 0,frq a,frq b] (frq (a - b)) [calC 0] :=JJ 0 (DU ha hb h)
theorem G2 {a b : Rat} (ha : rq a) (hb : rq b) (h0 : b ≠ 0) (h : okDiv a b) : MeansH Tryz.prog 63 [calC 0] [.el 0 1 0 0,frq a,frq b] (frq (a / b)) [calC 0] :=MG 0 (KD ha hb h0 h)
theorem K3 {p q : Int} (hp : -9223372036854775808 ≤ p ∧ p ≤ 9223372036854775807) (hq : -9223372036854775808 ≤ q ∧ q ≤ 9223372036854775807) (h0 : q ≠ 0) : MeansH Tryz.prog 32 [calC 0] [.el 0 1 0 0,ii p,ii q] (frq ((p : Rat) / (q : Rat))) [calC 0] :=ME 0 (MD p q hp hq h0)
def rowL (A : Mx) (n k : Nat) : List AV :=(List.range (n + 1)).map fun t => frq (A k t)
def mxL (A : Mx) (n : Nat) : List (List AV) :=(List.range n).map fun k => rowL A n k
theorem aS (A : Mx) (n k : Nat) : (rowL A n k).length = n + 1 :=by simp [rowL]
theorem aU (A : Mx) (n : Nat) : (mxL A n).length = n :=by simp [mxL]
theorem c6 {A : Mx} {n k t : Nat} (h : t ≤ n) : nth (rowL A n k) t = frq (A k t) :=f8 (by
 have : t < n + 1 :=by omega
 simp [rowL,this])
theorem cE {A : Mx} {n k : Nat} (h : k < n) : (mxL A n)[k]? = some (rowL A n k) :=by simp [mxL,h]
theorem qG {A B : Mx} {n k : Nat} (h : ∀ t,t ≤ n → A k t = B k t) : rowL A n k = rowL B n k :=List.map_congr_left fun t ht => by rw [h t (by simp at ht; omega)]
theorem k7 {A B : Mx} {n : Nat} (h : ∀ k t,k < n → t ≤ n → A k t = B k t) : mxL A n = mxL B n :=List.map_congr_left fun k hk => qG fun t ht => h k t (by simpa using hk) ht
theorem mH (A : Mx) (n k : Nat) : zoneEs (rowL A n k) = true :=by
 unfold zoneEs rowL
 rw [List.all_eq_true]
 intro e he
 obtain ⟨t,_,rfl⟩ :=List.mem_map.1 he
 rfl
def updM (A : Mx) (k j : Nat) (x : Rat) : Mx :=fun k' t => if k' = k ∧ t = j then x else A k' t
theorem nZ {A : Mx} {n k j : Nat} (x : Rat) (hk : k < n) (hj : j ≤ n) : (mxL A n).set k ((rowL A n k).set j (frq x)) = mxL (updM A k j x) n :=by
 apply List.ext_getElem?
 intro q
 rw [List.getElem?_set]
 by_cases hq : k = q
 · subst hq
   rw [if_pos rfl,if_pos (by rw [aU]; exact hk),cE hk]
   congr 1
   apply List.ext_getElem?
   intro t
   rw [List.getElem?_set]
   by_cases ht : j = t
   · subst ht
     rw [if_pos rfl,if_pos (by rw [aS]; omega)]
     have : j < n + 1 :=by omega
     simp [rowL,updM,this]
   · rw [if_neg ht]
     unfold rowL
     rw [List.getElem?_map,List.getElem?_map]
     cases h : (List.range (n + 1))[t]? with
     | none => rfl
     | some y =>
       have : y = t :=by
        have :=List.getElem?_eq_some_iff.1 h
        simpa using this.2.symm
       subst this
       simp only [Option.map_some,updM]
       rw [if_neg (by omega)]
 · rw [if_neg hq]
   unfold mxL
   rw [List.getElem?_map,List.getElem?_map]
   cases h : (List.range n)[q]? with
   | none => rfl
   | some y =>
     have : y = q :=by
      have :=List.getElem?_eq_some_iff.1 h
      simpa using this.2.symm
     subst this
     simp only [Option.map_some]
     congr 1
     exact qG fun t _ => by unfold updM; rw [if_neg (by omega)]
def elimJ (A : Mx) (i k j : Nat) : Mx :=fun k' t => if (k' ≠ i ∧ k' < k ∧ i ≤ t) ∨ (k' = k ∧ i ≤ t ∧ t < j) then A k' t - A k' i / A i i * A i t else A k' t
theorem IQ (A : Mx) (i k : Nat) : elimJ A i k i = elimP A i k :=by
 funext k' t
 unfold elimJ elimP
 by_cases h : k' ≠ i ∧ k' < k ∧ i ≤ t
 · rw [if_pos (.inl h),if_pos h]
 · rw [if_neg (by omega),if_neg h]
theorem zD (A : Mx) (i k j : Nat) (hij : i ≤ j) : updM (elimJ A i k j) k j (A k j - A k i / A i i * A i j) = elimJ A i k (j + 1) :=by
 funext k' t
 unfold updM elimJ
 by_cases h : k' = k ∧ t = j
 · obtain ⟨rfl,rfl⟩ :=h
   rw [if_pos ⟨rfl,rfl⟩,if_pos (.inr ⟨rfl,hij,by omega⟩)]
 · rw [if_neg h]
   by_cases h2 : (k' ≠ i ∧ k' < k ∧ i ≤ t) ∨ (k' = k ∧ i ≤ t ∧ t < j)
   · rw [if_pos h2,if_pos (by omega)]
   · rw [if_neg h2,if_neg (by omega)]
theorem CZ (A : Mx) (n i k : Nat) (hne : k ≠ i) : mxL (elimJ A i k (n + 1)) n = mxL (elimP A i (k + 1)) n :=k7 fun k' t hk ht => by
 unfold elimJ elimP
 by_cases h2 : (k' ≠ i ∧ k' < k ∧ i ≤ t) ∨ (k' = k ∧ i ≤ t ∧ t < n + 1)
 · rw [if_pos h2,if_pos (by omega)]
 · rw [if_neg h2,if_neg (by omega)]
theorem IR {A : Mx} {i k j t : Nat} (h : j ≤ t) : elimJ A i k j k t = A k t :=if_neg (by omega)
theorem IS {A : Mx} {i k j t : Nat} (h : k ≠ i) : elimJ A i k j i t = A i t :=if_neg (by omega)
theorem zE (A : Mx) (i : Nat) : elimP A i (i + 1) = elimP A i i :=by
 funext k' t
 unfold elimP
 by_cases h : k' ≠ i ∧ k' < i ∧ i ≤ t
 · rw [if_pos h,if_pos (by omega)]
 · rw [if_neg h,if_neg (by omega)]
theorem IT {A : Mx} {i k t : Nat} : elimP A i k k t = A k t :=if_neg (by omega)
theorem IU (A : Mx) (i : Nat) : elimP A i 0 = A :=by
 funext k' t
 exact if_neg (by omega)
abbrev mxC (A : Mx) (n : Nat) : List Cell :=matC 62 4 (mxL A n)
abbrev outC (b n : Nat) : Cell :=.row ⟨43,1,outN b n⟩
theorem cV {A : Mx} {n j : Nat} {es : List AV} (h : (mxL A n)[j]? = some es) : zoneEs es = true :=by
 obtain ⟨h1,rfl⟩ :=List.getElem?_eq_some_iff.1 h
 have : (mxL A n)[j] = rowL A n j :=by
  have h2 :=cE (A :=A) (n :=n) (k :=j) (by rw [aU] at h1; exact h1)
  rw [List.getElem?_eq_getElem h1] at h2
  exact Option.some.inj h2
 rw [this]; exact mH _ _ _
theorem jF {l : List Nat} {q b n : Nat} (h1 : l.Nodup) (h2 : q ∉ l) (h3 : ∀ x ∈ l,x < b ∨ b + n ≤ x) (h4 : q < b ∨ b + n ≤ q) : (l ++ q :: (List.range n).map fun k => k + b).Nodup :=by
 rw [List.nodup_append]
 refine ⟨h1,?_,?_⟩
 · rw [List.nodup_cons]
   refine ⟨fun hm => ?_,?_⟩
   · obtain ⟨k,hk,e⟩ :=List.mem_map.1 hm
     have : k < n :=by simpa using hk
     omega
   · refine List.pairwise_map.2 (List.Pairwise.imp (fun {x y} (h : x ≠ y) (e : x + b = y + b) => h (by omega)) List.nodup_range)
 · intro a ha c hc e
   subst e
   rcases List.mem_cons.1 hc with rfl | hm
   · exact h2 ha
   · obtain ⟨k,hk,e⟩ :=List.mem_map.1 hm
     have : k < n :=by simpa using hk
     have :=h3 a ha
     omega
theorem IV {X : Ctx} {env : Nat → AV} (L : List (Nat × AV)) (c1 : Cell) (B : Mx) (n : Nat)
  (hL : okL ([.old 0 ⟨55,1,[.agg [ii 0]]⟩,.gone 0] ++ .old 2 ⟨43,1,outN 3 n⟩ :: matS (fun k => k + 3) 62 4 0 (mxL B n)) ⟨env,calC 0 :: c1 :: outC 3 n :: mxC B n⟩ L) :
  Go.Ab.Sub X ⟨mkE L,calC 0 :: .dead :: outC 3 n :: mxC B n⟩ ⟨env,calC 0 :: c1 :: outC 3 n :: mxC B n⟩ :=by
 have :=gU (X :=X) (st :=⟨env,calC 0 :: c1 :: outC 3 n :: mxC B n⟩) L [.old 0 ⟨55,1,[.agg [ii 0]]⟩,.gone 0] 2 (fun k => k + 3) (E1 :=43) (E2 :=62) (k2 :=4) (mxL B n) (by simp [outN,aU]) (fun j es h => ⟨bG h,cV h⟩) (by simp [okS0,okS1,go_sem]) (jF (by simp [Src.rid,List.filterMap_cons]) (by simp [Src.rid,List.filterMap_cons]) (by simp [Src.rid,List.filterMap_cons]) (by simp)) (by simpa only [aU,List.length_cons,List.length_nil] using hL)
 simpa only [aU,List.length_cons,List.length_nil,List.map_cons,List.map_nil,Src.cell,List.cons_append,List.nil_append] using this
set_option maxHeartbeats 8000000 in
set_option maxRecDepth 20000 in
theorem LH (A : Mx) (n : Nat) (hn : n ≤ 1000) (hF : Fit A n) : MeansX Tryz.prog 29 1 (calC 0 :: outC 2 n :: mxC A n) [.el 0 1 0 0,.ow 1] (.ow 1) [calC 0,.row ⟨62,4,(List.range n).map fun k => frq (solx A n k)⟩] :=by
 refine CE 1 99 [.tmp 4] Tryz.func29 rfl rfl rfl (by simp) (by decide) (by simp) fun X hX => ?_
 refine eR (gU [(0,.el 0 1 0 0),(1,.ow 2),(1000000,.ow 0)] [.old 0 ⟨55,1,[.agg [ii 0]]⟩,.gone 0] 1 (fun k => k + 2) (E1 :=43) (E2 :=62) (k2 :=4) (mxL A n) (by simp [outN,aU]) (fun j es h => ⟨bG h,cV h⟩) (by simp [okS0,okS1,go_sem]) (jF (by simp [Src.rid,List.filterMap_cons]) (by simp [Src.rid,List.filterMap_cons]) (by simp [Src.rid,List.filterMap_cons]) (by simp)) (by simp [go_sem])) ?_
 simp only [aU,List.length_cons,List.length_nil,List.map_cons,List.map_nil,Src.cell,List.cons_append,List.nil_append]
 (repeat (refine aC q6x0 hX a7 rfl ?_; (simp [go_sem]; try (refine ⟨by kernel_rfl,?_⟩))))
 simp only [aX]
 refine aF (fun i : Nat => ⟨mkE [(0,.el 0 1 0 0),(1,.ow 2),(5,ii n),(14,ii n),(15,ii i),(1000000,.ow 0)],calC 0 :: .dead :: outC 3 n :: mxC (gj A n i) n⟩) (fun i => i ≤ n) (fun i => n - i) 0 ?_ ?_ ?_
 · exact b9 _ _ rfl (by simp [go_sem])
 · omega
 · intro i hi
   (repeat (refine aC q6x0 hX a7 rfl ?_; (simp [go_sem]; try (refine ⟨by kernel_rfl,?_⟩))))
   refine a8 (b :=decide (i < n)) (by simp [go_sem]) (fun hb => ?_) (fun hb => ?_)
   · simp at hb
     have wi :=w64 (x :=(i : Int) + 1) (by omega) (by omega)
     (repeat (refine aC q6x0 hX a7 rfl ?_; (simp [go_sem]; try (refine ⟨by kernel_rfl,?_⟩))))
     refine aF (fun k : Nat => ⟨mkE [(0,.el 0 1 0 0),(1,.ow 2),(5,ii n),(6,ii i),(14,ii n),(15,ii i),(18,ii n),(19,ii k),(1000000,.ow 0)],calC 0 :: .dead :: outC 3 n :: mxC (elimP (gj A n i) i k) n⟩) (fun k => k ≤ n) (fun k => n - k) 0 ?_ ?_ ?_
     · exact b9 _ _ (by rw [IU]) (by simp [go_sem])
     · omega
     · intro k hk
       (repeat (refine aC q6x0 hX a7 rfl ?_; (simp [go_sem]; try (refine ⟨by kernel_rfl,?_⟩))))
       refine a8 (b :=decide (k < n)) (by simp [go_sem]) (fun hc => ?_) (fun hc => ?_)
       · simp at hc
         have wk :=w64 (x :=(k : Int) + 1) (by omega) (by omega)
         (repeat (refine aC q6x0 hX a7 rfl ?_; (simp [go_sem]; try (refine ⟨by kernel_rfl,?_⟩))))
         refine a8 (b :=decide (k = i)) (by simp [go_sem]; try omega) (fun hd => ?_) (fun hd => ?_)
         · simp only [decide_eq_true_eq] at hd
           (repeat (refine aC q6x0 hX a7 rfl ?_; (simp [go_sem,wk]; try (refine ⟨by kernel_rfl,?_⟩))))
           refine ⟨k + 1,by omega,by omega,b9 _ _ (by rw [hd,zE]) (by simp [go_sem])⟩
         · simp only [decide_eq_false_iff_not] at hd
           have hF1 :=hF.div i k hb hc hd
           have hp :=hF.piv i hb
           have e1 :=hF.ent i k i hi hc hi
           have e2 :=hF.ent i i i hi hb hi
           have q1 :=gB (b :=3) hc
           have q2 :=gB (b :=3) hb
           have g1 :=bG (E :=62) (k :=4) (cE (A :=elimP (gj A n i) i k) hc)
           have g2 :=bG (E :=62) (k :=4) (cE (A :=elimP (gj A n i) i k) hb)
           have r1 :=c6 (A :=elimP (gj A n i) i k) (k :=k) hi
           have r2 :=c6 (A :=elimP (gj A n i) i k) (k :=i) hi
           rw [IT] at r1
           rw [eG] at r2
           have c1 :=G2 e1 e2 hp hF1
           have hin : i < n + 1 :=by omega
           have hBl : (mxC (elimP (gj A n i) i k) n).length = n :=by rw [aY,aU]
           (repeat (refine aC q6x0 hX a7 rfl ?_; (simp [go_sem,q1,q2,g1,g2,hb,hc,r1,r2,aX,aS,hin]; try (refine ⟨by kernel_rfl,?_⟩))))
           (repeat refine And.intro (by first | omega | (unfold maxLen; omega) | kernel_rfl | (refine ⟨by first | omega | (unfold maxLen; omega),by first | omega | (unfold maxLen; omega)⟩) | grind) ?_)
           first | refine aG [0] (c1) (by simp [go_sem]) ?_ | refine aQ [0] (c1) (by simp [go_sem]) ?_ | refine aO [0] (c1) (by simp [go_sem]) ?_
           (simp [go_sem])
           refine ⟨c7 3 (n + 3) (by rw [hBl]; simp [mapT,phi,bN,hb,hc]; kernel_rfl),?_⟩
           have hfb : ∀ x : Cell,(mxC (elimP (gj A n i) i k) n ++ [x])[n]? = some x :=fun x => by rw [List.getElem?_append_right (by omega),hBl,Nat.sub_self]; rfl
           refine eR (gU [(0,.el 0 1 0 0),(1,.ow 2),(5,ii n),(6,ii i),(7,ii k),(8,.el 1 4 0 0),(14,ii n),(15,ii i),(18,ii n),(19,ii k),(1000000,.ow 0)] [.old 0 ⟨55,1,[.agg [ii 0]]⟩,.old (n + 3) ⟨62,4,[frq (gj A n i k i / gj A n i i i)]⟩] 2 (fun k => k + 3) (E1 :=43) (E2 :=62) (k2 :=4) (mxL (elimP (gj A n i) i k) n) (by simp [outN,aU]) (fun j es h => ⟨?_,cV h⟩) (by simp [go_sem,hfb]) (jF (by simp [Src.rid,List.filterMap_cons]) (by simp [Src.rid,List.filterMap_cons]) (by simp [Src.rid,List.filterMap_cons,aU]; try omega) (by simp)) (by simp [go_sem,hBl])) ?_
           · show (mxC (elimP (gj A n i) i k) n ++ _)[j]? = _
             rw [List.getElem?_append_left (by have :=(List.getElem?_eq_some_iff.1 h).1; rw [aU] at this; omega)]
             exact bG h
           simp only [aU,List.length_cons,List.length_nil,List.map_cons,List.map_nil,Src.cell,List.cons_append,List.nil_append]
           clear hBl hfb r1 r2 g1 g2
           obtain ⟨f,hf⟩ : ∃ f,gj A n i k i / gj A n i i i = f :=⟨_,rfl⟩
           have hfq : rq f :=by rw [← hf]; exact yG hp hF1
           have hFm :=fun t h1 h2 => hF.mul i k t hb hc hd h1 h2
           have hFs :=fun t h1 h2 => hF.sub i k t hb hc hd h1 h2
           have hstep :=zD (gj A n i) i k
           rw [hf] at hFm hFs hstep ⊢
           rw [← IQ (gj A n i) i k]
           (repeat (refine aC q6x0 hX a7 rfl ?_; (simp [go_sem]; try (refine ⟨by kernel_rfl,?_⟩))))
           refine aF (fun j : Nat => ⟨mkE [(0,.el 0 1 0 0),(1,.ow 2),(5,ii n),(6,ii i),(7,ii k),(8,.el 1 4 0 0),(9,ii j),(14,ii n),(15,ii i),(18,ii n),(19,ii k),(1000000,.ow 0)],calC 0 :: .row ⟨62,4,[frq f]⟩ :: outC 3 n :: mxC (elimJ (gj A n i) i k j) n⟩) (fun j => i ≤ j ∧ j ≤ n + 1) (fun j => n + 1 - j) i ?_ ?_ ?_
           · exact b9 _ _ rfl (by simp [go_sem])
           · omega
           · rintro j ⟨hij,hj⟩
             have wj :=w64 (x :=(j : Int) + 1) (by omega) (by omega)
             (repeat (refine aC q6x0 hX a7 rfl ?_; (simp [go_sem]; try (refine ⟨by kernel_rfl,?_⟩))))
             refine a8 (b :=decide (j ≤ n)) (by simp [go_sem]) (fun he => ?_) (fun he => ?_)
             · simp only [decide_eq_true_eq] at he
               have g1 :=bG (E :=62) (k :=4) (cE (A :=elimJ (gj A n i) i k j) hc)
               have g2 :=bG (E :=62) (k :=4) (cE (A :=elimJ (gj A n i) i k j) hb)
               have r1 :=c6 (A :=elimJ (gj A n i) i k j) (k :=k) he
               have r2 :=c6 (A :=elimJ (gj A n i) i k j) (k :=i) he
               rw [IR (Nat.le_refl _)] at r1
               rw [IS hd] at r2
               have x1 :=hF.ent i k j hi hc he
               have x2 :=hF.ent i i j hi hb he
               have c2 :=z9 hfq x2 (hFm j hij he)
               have c3 :=LI x1 (DS (hFm j hij he)) (hFs j hij he)
               have hjn : j < n + 1 :=by omega
               have hBl : (mxC (elimJ (gj A n i) i k j) n).length = n :=by rw [aY,aU]
               have hset :=nZ (A :=elimJ (gj A n i) i k j) (n :=n) (gj A n i k j - f * gj A n i i j) hc he
               rw [hstep j hij] at hset
               (repeat (refine aC q6x0 hX a7 rfl ?_; (simp [go_sem,q1,q2,g1,g2,hb,hc,r1,r2,aX,aS,hjn]; try (refine ⟨by kernel_rfl,?_⟩))))
               (repeat refine And.intro (by first | omega | (unfold maxLen; omega) | kernel_rfl | (refine ⟨by first | omega | (unfold maxLen; omega),by first | omega | (unfold maxLen; omega)⟩) | grind) ?_)
               first | refine aG [0] (c2) (by simp [go_sem]) ?_ | refine aQ [0] (c2) (by simp [go_sem]) ?_ | refine aO [0] (c2) (by simp [go_sem]) ?_
               (simp [go_sem,q1,q2,g1,g2,hb,hc,r1,r2,aX,aS,hjn])
               (repeat refine And.intro (by first | omega | (unfold maxLen; omega) | kernel_rfl | (refine ⟨by first | omega | (unfold maxLen; omega),by first | omega | (unfold maxLen; omega)⟩) | grind) ?_)
               first | refine aG [0] (c3) (by simp [go_sem]) ?_ | refine aQ [0] (c3) (by simp [go_sem]) ?_ | refine aO [0] (c3) (by simp [go_sem]) ?_
               (simp [go_sem,q1,q2,g1,g2,hb,hc,r1,r2,aX,aS,hjn])
               (repeat refine And.intro (by first | omega | (unfold maxLen; omega) | (refine ⟨by omega,by omega⟩)) ?_)
               refine ⟨c7 3 (n + 3) (by simp [mapT,phi,bN,hb,hc,hBl]; kernel_rfl),?_⟩
               (repeat (refine aC q6x0 hX a7 rfl ?_; (simp [go_sem,wj]; try (refine ⟨by kernel_rfl,?_⟩))))
               refine ⟨j + 1,⟨by omega,by omega⟩,by omega,?_⟩
               exact b9 _ _ (by dsimp only [mxC]; rw [← hset,← kZ]) (by simp [go_sem])
             · simp only [decide_eq_false_iff_not] at he
               have hjn : j = n + 1 :=by omega
               subst hjn
               (repeat (refine aC q6x0 hX a7 rfl ?_; (simp [go_sem,wk]; try (refine ⟨by kernel_rfl,?_⟩))))
               refine ⟨k + 1,by omega,by omega,?_⟩
               rw [mxC,← CZ (gj A n i) n i k hd]
               exact IV _ _ _ _ (by simp [go_sem])
       · simp only [decide_eq_false_iff_not] at hc
         have hkn : k = n :=by omega
         subst hkn
         (repeat (refine aC q6x0 hX a7 rfl ?_; (simp [go_sem,wi]; try (refine ⟨by kernel_rfl,?_⟩))))
         exact ⟨i + 1,by omega,by omega,b9 _ _ rfl (by simp [go_sem])⟩
   · simp only [decide_eq_false_iff_not] at hb
     have hin : i = n :=by omega
     subst hin
     (repeat (refine aC q6x0 hX a7 rfl ?_; (simp [go_sem]; try (refine ⟨by kernel_rfl,?_⟩))))
     refine aF (fun k : Nat => ⟨mkE [(0,.el 0 1 0 0),(1,.ow 2),(5,ii i),(10,.ow 1),(74,ii i),(75,ii k),(1000000,.ow 0)],calC 0 :: .row ⟨62,4,(List.range k).map fun k => frq (solx A i k)⟩ :: outC 3 i :: mxC (gj A i i) i⟩) (fun k => k ≤ i) (fun k => i - k) 0 ?_ ?_ ?_
     · have :=gU (X :=X) (st :=⟨mkE [(0,AV.el 0 1 0 0),(1,AV.ow 2),(5,ii i),(10,.nil),(74,ii i),(75,ii 0),(1000000,AV.ow 0)],calC 0 :: .dead :: outC 3 i :: mxC (gj A i i) i⟩) [(0,.el 0 1 0 0),(1,.ow 2),(5,ii i),(10,.ow 1),(74,ii i),(75,ii 0),(1000000,.ow 0)] [.old 0 ⟨55,1,[.agg [ii 0]]⟩,.birth 62 4] 2 (fun k => k + 3) (E1 :=43) (E2 :=62) (k2 :=4) (mxL (gj A i i) i) (by simp [outN,aU]) (fun j es h => ⟨bG h,cV h⟩) (by simp [okS0,okS1,go_sem]) (jF (by simp [Src.rid,List.filterMap_cons]) (by simp [Src.rid,List.filterMap_cons]) (by simp [Src.rid,List.filterMap_cons]) (by simp)) (by simp [go_sem])
       simp only [aU,List.length_cons,List.length_nil,List.map_cons,List.map_nil,Src.cell,List.cons_append,List.nil_append] at this
       exact bQ this (b9 _ _ rfl (by simp [go_sem]))
     · omega
     · intro k hk
       (repeat (refine aC q6x0 hX a7 rfl ?_; (simp [go_sem]; try (refine ⟨by kernel_rfl,?_⟩))))
       refine a8 (b :=decide (k < i)) (by simp [go_sem]) (fun hc => ?_) (fun hc => ?_)
       · simp only [decide_eq_true_eq] at hc
         have q1 :=gB (b :=3) hc
         have g1 :=bG (E :=62) (k :=4) (cE (A :=gj A i i) hc)
         have r1 :=c6 (A :=gj A i i) (k :=k) (Nat.le_refl i)
         have r2 :=c6 (A :=gj A i i) (k :=k) (Nat.le_of_lt hc)
         have e1 :=hF.ent i k i (Nat.le_refl _) hc (Nat.le_refl _)
         have e2 :=hF.ent i k k (Nat.le_refl _) hc (Nat.le_of_lt hc)
         have c1 :=G2 e1 e2 (hF.dpos k hc) (hF.fin k hc)
         have hki : k < i + 1 :=by omega
         have hBl : (mxC (gj A i i) i).length = i :=by rw [aY,aU]
         have wk :=w64 (x :=(k : Int) + 1) (by omega) (by omega)
         (repeat (refine aC q6x0 hX a7 rfl ?_; (simp [go_sem,q1,g1,hc,r1,r2,aX,aS,hki]; try (refine ⟨by kernel_rfl,?_⟩))))
         (repeat refine And.intro (by first | omega | (unfold maxLen; omega) | kernel_rfl | (refine ⟨by first | omega | (unfold maxLen; omega),by first | omega | (unfold maxLen; omega)⟩) | grind) ?_)
         first | refine aG [0] (c1) (by simp [go_sem]) ?_ | refine aQ [0] (c1) (by simp [go_sem]) ?_ | refine aO [0] (c1) (by simp [go_sem]) ?_
         (simp [go_sem,q1,g1,hc,r1,r2,aX,aS,hki])
         (repeat refine And.intro (by first | omega | (unfold maxLen; omega) | (refine ⟨by omega,by omega⟩)) ?_)
         refine ⟨c7 3 (i + 3) (by simp [mapT,phi,bN,hc,hBl]; kernel_rfl),?_⟩
         (repeat (refine aC q6x0 hX a7 rfl ?_; (simp [go_sem,wk]; try (refine ⟨by kernel_rfl,?_⟩))))
         refine ⟨k + 1,by omega,by omega,?_⟩
         have hfb : ∀ x y : Cell,(mxC (gj A i i) i ++ [x,y])[i + 1]? = some y :=fun x y => by
          rw [List.getElem?_append_right (by omega),hBl,Nat.add_sub_cancel_left]; rfl
         have hsn : (List.range (k + 1)).map (fun k => frq (solx A i k)) = (List.range k).map (fun k => frq (solx A i k)) ++ [frq (solx A i k)] :=by rw [List.range_succ,List.map_append]; rfl
         have hsx : solx A i k = gj A i i k i / gj A i i k k :=rfl
         rw [hsn,hsx]
         refine bQ ?_ (b9 [(0,.el 0 1 0 0),(1,.ow 2),(5,ii i),(10,.ow (i + 4)),(74,ii i),(75,ii ((k + 1 : Nat) : Int)),(1000000,.ow 0)] _ rfl (by simp [go_sem,hBl]))
         have :=gU (X :=X) (st :=⟨mkE [(0,.el 0 1 0 0),(1,.ow 2),(5,ii i),(10,.ow (i + 4)),(74,ii i),(75,ii ((k + 1 : Nat) : Int)),(1000000,.ow 0)],calC 0 :: .dead :: outC 3 i :: (mxC (gj A i i) i ++ [.row ⟨62,4,[frq (gj A i i k i / gj A i i k k)]⟩,.row ⟨62,4,(List.range k).map (fun k => frq (solx A i k)) ++ [frq (gj A i i k i / gj A i i k k)]⟩])⟩) [(0,.el 0 1 0 0),(1,.ow 2),(5,ii i),(10,.ow 1),(74,ii i),(75,ii ((k + 1 : Nat) : Int)),(1000000,.ow 0)] [.old 0 ⟨55,1,[.agg [ii 0]]⟩,.old (i + 4) ⟨62,4,(List.range k).map (fun k => frq (solx A i k)) ++ [frq (gj A i i k i / gj A i i k k)]⟩] 2 (fun k => k + 3) (E1 :=43) (E2 :=62) (k2 :=4) (mxL (gj A i i) i) (by simp [outN,aU]) (fun j es h => ⟨by
          show (mxC (gj A i i) i ++ _)[j]? = _
          rw [List.getElem?_append_left (by have :=(List.getElem?_eq_some_iff.1 h).1; rw [aU] at this; omega)]
          exact bG h,cV h⟩) (by simp [go_sem,hfb]) (jF (by simp [Src.rid,List.filterMap_cons]) (by simp [Src.rid,List.filterMap_cons]) (by simp [Src.rid,List.filterMap_cons,aU]; try omega) (by simp)) (by simp [go_sem])
         simpa only [aU,List.length_cons,List.length_nil,List.map_cons,List.map_nil,Src.cell,List.cons_append,List.nil_append] using this
       · simp only [decide_eq_false_iff_not] at hc
         have hki : k = i :=by omega
         subst hki
         (repeat (refine aC q6x0 hX a7 rfl ?_; (simp [go_sem]; try (refine ⟨by kernel_rfl,?_⟩))))
         refine b8 ?_; (try simp only [thenQ,blkQ,loopQ]); refine bH [(4,.ow 1),(1000000,.ow 0)] [.old 0 ⟨55,1,[.agg [ii 0]]⟩,.old 1 ⟨62,4,(List.range k).map fun q => frq (solx A k q)⟩] ?_
         simp [go_sem]
end Go.Proofs.YtknbcehhjffndaaGreat

namespace Go.Proofs.YtknbcehhjffndaaGreat
def wO (own : List Int) (k : Nat) : Int :=own.getD k 0
def sO (S : List (List Int)) (i j : Nat) : Int :=(S.getD i []).getD j 0
def sumI : List Int → Int
 | [] => 0
 | x :: l => x + sumI l
theorem cG (l : List Int) (x : Int) : sumI (l ++ [x]) = sumI l + x :=by
 induction l with
 | nil => simp [sumI]
 | cons y l ih => simp only [List.cons_append,sumI,ih]; omega
structure PR (own : List Int) (S : List (List Int)) : Prop where
 pos : 0 < own.length
 most : own.length ≤ 12
 len : S.length = own.length
 w : ∀ k,k < own.length → 0 ≤ wO own k ∧ wO own k ≤ 1099511627776
 row : ∀ l ∈ S,l.length = own.length
 s : ∀ i j,i < own.length → j < own.length → 0 ≤ sO S i j ∧ sO S i j ≤ 1000
 d : ∀ i,i < own.length → sO S i i = 0
structure PV (own : List Int) (S : List (List Int)) : Prop extends PR own S where
 lt : ∀ l ∈ S,sumI l < 1000
def poolM (own : List Int) (S : List (List Int)) : Mx :=fun k t => if t = own.length then ((wO own k * 1000 : Int) : Rat) else if k = t then 1000 else ((-(sO S t k) : Int) : Rat)
theorem bF {l : List Int} {j : Nat} (h : j < l.length) : l.getD j 0 = l[j] :=by
 rw [List.getD_eq_getElem?_getD,List.getElem?_eq_getElem h]; rfl
theorem gG {f : Nat → Int} {l : List Int} (h : ∀ j,j < l.length → f j = l.getD j 0) : ∀ m,m ≤ l.length → sumR (fun j => ((f j : Int) : Rat)) m = ((sumI (l.take m) : Int) : Rat)
 | 0,_ => by simp [sumR,sumI]
 | m + 1,hm => by
   have hml : m < l.length :=by omega
   rw [List.take_succ_eq_append_getElem hml,cG,Rat.intCast_add,← gG h m (by omega)]
   simp only [sumR]
   rw [h m hml,bF hml]
theorem tZ {own : List Int} {S : List (List Int)} (h : PR own S) {t : Nat} (ht : t < own.length) : ∃ l,l ∈ S ∧ S[t]? = some l ∧ sumR (fun k => ((sO S t k : Int) : Rat)) own.length = ((sumI l : Int) : Rat) :=by
 have hS : t < S.length :=by rw [h.len]; exact ht
 refine ⟨S[t],List.getElem_mem hS,List.getElem?_eq_getElem hS,?_⟩
 have hl :=h.row S[t] (List.getElem_mem hS)
 have :=gG (f :=fun k => sO S t k) (l :=S[t]) (fun j _ => by
  unfold sO
  rw [List.getD_eq_getElem?_getD (l :=S),List.getElem?_eq_getElem hS]; rfl) S[t].length (Nat.le_refl _)
 rw [List.take_length,hl] at this
 exact this
theorem HN (own : List Int) : sumR (fun k => ((wO own k : Int) : Rat)) own.length = ((sumI own : Int) : Rat) :=by
 have :=gG (f :=fun k => wO own k) (l :=own) (fun j _ => rfl) own.length (Nat.le_refl _)
 rwa [List.take_length] at this
variable {own : List Int} {S : List (List Int)}
theorem o6 {k t : Nat} (ht : t < own.length) : poolM own S k t = if k = t then 1000 else ((-(sO S t k) : Int) : Rat) :=if_neg (by omega)
theorem jE (k : Nat) : poolM own S k own.length = ((wO own k * 1000 : Int) : Rat) :=if_pos rfl
theorem qH (h : PR own S) {k t : Nat} (ht : t < own.length) : poolM own S k t = 1 * (if k = t then 1000 else 0) + (-1) * ((sO S t k : Int) : Rat) :=by
 rw [o6 ht]
 by_cases hk : k = t
 · subst hk
   rw [if_pos rfl,if_pos rfl,h.d k ht]
   show (1000 : Rat) = 1 * 1000 + -1 * ((0 : Int) : Rat)
   have : ((0 : Int) : Rat) = 0 :=rfl
   rw [this]; grind
 · rw [if_neg hk,if_neg hk,Rat.intCast_neg]; grind
theorem xT (h : PV own S) {t : Nat} (ht : t < own.length) : 0 < sumR (fun k => poolM own S k t) own.length :=by
 obtain ⟨l,hl,_,hs⟩ :=tZ h.toPR ht
 have e : sumR (fun k => poolM own S k t) own.length = sumR (fun k => 1 * (if k = t then 1000 else 0) + (-1) * ((sO S t k : Int) : Rat)) own.length :=aR fun k _ => qH h.toPR ht
 rw [e,cN,hs,dL (i :=t) ht fun k _ hne => if_neg hne,if_pos rfl]
 have h1 :=h.lt l hl
 have h2 : ((sumI l : Int) : Rat) < ((1000 : Int) : Rat) :=Rat.intCast_lt_intCast.2 h1
 have h3 : ((1000 : Int) : Rat) = 1000 :=rfl
 grind
theorem xU (h : PR own S) {k t : Nat} (hk : k < own.length) (ht : t < own.length) (hne : k ≠ t) : poolM own S k t ≤ 0 :=by
 rw [o6 ht,if_neg hne]
 have :=(h.s t k ht hk).1
 have h2 : ((-(sO S t k) : Int) : Rat) ≤ ((0 : Int) : Rat) :=Rat.intCast_le_intCast.2 (by omega)
 exact h2
theorem l5 (h : PV own S) : Inv (poolM own S) own.length 0 :=by
 refine ⟨fun k t _ ht _ => by omega,fun k t hk _ ht hne => xU h.toPR hk ht hne,fun t _ ht => ?_,fun k hk => ?_,fun k hk _ => by omega⟩
 · have : sumR (fun k => if 0 ≤ k then poolM own S k t else 0) own.length = sumR (fun k => poolM own S k t) own.length :=aR fun k _ => if_pos (by omega)
   rw [this]; exact xT h ht
 · rw [jE]
   have :=(h.w k hk).1
   have h2 : ((0 : Int) : Rat) ≤ ((wO own k * 1000 : Int) : Rat) :=Rat.intCast_le_intCast.2 (by omega)
   exact h2
theorem IW (h : PV own S) : MM (poolM own S) own.length :=⟨fun k t hk ht hne => xU h.toPR hk ht hne,fun t ht => xT h ht⟩
theorem qI (h : PR own S) {k t : Nat} (hk : k < own.length) (ht : t < own.length) : intB 1000 (poolM own S k t) :=by
 rw [o6 ht]
 have :=h.s t k ht hk
 split
 · exact ⟨1000,rfl,by decide⟩
 · exact ⟨_,rfl,by omega⟩
theorem sX (h : PR own S) {k : Nat} (hk : k < own.length) : intB (2 ^ 50) (poolM own S k own.length) :=by
 rw [jE]
 have :=h.w k hk
 exact ⟨_,rfl,by
  have : (2 : Nat) ^ 50 = 1125899906842624 :=by decide
  omega⟩
theorem EO (h : PR own S) : Stg (poolM own S) own.length 0 10 50 :=by
 refine ⟨1,by decide,by decide,fun k hk => ⟨fun t ht => ?_,?_⟩⟩
 · have e : poolM own S k t * (((1 : Nat) : Int) : Rat) = poolM own S k t :=by
    have : (((1 : Nat) : Int) : Rat) = 1 :=rfl
    rw [this]; grind
   rw [e]
   exact cR (qI h hk ht) (by decide)
 · have e : poolM own S k own.length * (((1 : Nat) : Int) : Rat) = poolM own S k own.length :=by
    have : (((1 : Nat) : Int) : Rat) = 1 :=rfl
    rw [this]; grind
   rw [e]
   exact sX h hk
def allX (own : List Int) (S : List (List Int)) (k : Nat) : Rat :=solx (poolM own S) own.length k
theorem yN (h : PV own S) {k : Nat} (hk : k < own.length) : 0 ≤ allX own S k :=vW (l5 h) hk
theorem xV (x : Nat → Rat) (h : PR own S) {i : Nat} (hi : i < own.length) : sumR (fun t => poolM own S i t * x t) own.length = 1000 * x i - sumR (fun t => x t * ((sO S t i : Int) : Rat)) own.length :=by
 have e : sumR (fun t => poolM own S i t * x t) own.length = sumR (fun t => 1 * (if i = t then 1000 * x t else 0) + (-1) * (x t * ((sO S t i : Int) : Rat))) own.length :=aR fun t ht => by
  rw [qH h ht]
  by_cases hit : i = t
  · rw [if_pos hit,if_pos hit]; grind
  · rw [if_neg hit,if_neg hit]; grind
 rw [e,cN,dL (i :=i) hi fun k _ hne => if_neg (fun e => hne e.symm),if_pos rfl]
 grind
theorem D2 (x : Nat → Rat) (h : PR own S) : Sol (poolM own S) own.length x ↔ ∀ i,i < own.length → x i = ((wO own i : Int) : Rat) + sumR (fun t => x t * (((sO S t i : Int) : Rat) / 1000)) own.length :=by
 have key : ∀ i,sumR (fun t => x t * (((sO S t i : Int) : Rat) / 1000)) own.length = sumR (fun t => x t * ((sO S t i : Int) : Rat)) own.length / 1000 :=fun i => by
  have :=cN (fun t => x t * ((sO S t i : Int) : Rat)) (fun _ => 0) (1 / 1000) 0 own.length
  have e : (fun t => x t * (((sO S t i : Int) : Rat) / 1000)) = fun k => 1 / 1000 * (x k * ((sO S k i : Int) : Rat)) + 0 * 0 :=by funext t; grind
  rw [e,this]; grind
 constructor
 · intro hs i hi
   have :=hs i hi
   rw [xV x h hi,jE,Rat.intCast_mul] at this
   rw [key]
   have h3 : ((1000 : Int) : Rat) = 1000 :=rfl
   rw [h3] at this
   grind
 · intro hs i hi
   have :=hs i hi
   rw [key] at this
   rw [xV x h hi,jE,Rat.intCast_mul]
   have h3 : ((1000 : Int) : Rat) = 1000 :=rfl
   rw [h3]
   grind
theorem EP (h : PV own S) {i : Nat} (hi : i < own.length) : allX own S i = ((wO own i : Int) : Rat) + sumR (fun t => allX own S t * (((sO S t i : Int) : Rat) / 1000)) own.length :=
 (D2 _ h.toPR).1 (vX (l5 h)) i hi
theorem mJ {c : Nat} (hc : 1 ≤ c) : ∀ {n m : Nat},n ≤ m → detN n c ≤ detN m c
 | n,0,h => by have : n = 0 :=by omega
               subst this; exact Nat.le_refl _
 | n,m + 1,h => by
   by_cases he : n = m + 1
   · subst he; exact Nat.le_refl _
   · have h1 :=mJ hc (n :=n) (m :=m) (by omega)
     refine Nat.le_trans h1 ?_
     show detN m c ≤ (m + 1) * (c * detN m c)
     have h2 : 1 * detN m c ≤ c * detN m c :=Nat.mul_le_mul_right _ hc
     have h3 : 1 * (c * detN m c) ≤ (m + 1) * (c * detN m c) :=Nat.mul_le_mul_right _ (by omega)
     omega
theorem EL (h : PV own S) (h6 : own.length ≤ 6) {k : Nat} (hk : k < own.length) : bt 310 (allX own S k).num ∧ bt 70 (allX own S k).den :=by
 have hpos :=E7 (IW h)
 obtain ⟨z,hz,hzl⟩ :=tN (n :=own.length) (A :=poolM own S) (c :=1000) fun k t hk ht => qI h.toPR hk ht
 have hc :=KE (vX (l5 h)) hk
 have hb :=tN (n :=own.length) (A :=setCol (poolM own S) k fun i => poolM own S i own.length) (c :=2 ^ 50) fun i t hi ht => by
  unfold setCol
  split
  · exact sX h.toPR hi
  · exact cR (qI h.toPR hi ht) (by decide)
 rw [hc] at hb
 have hz0 : 0 < z :=by
  rw [hz] at hpos
  exact Rat.intCast_lt_intCast.1 (show ((0 : Int) : Rat) < (z : Rat) from hpos)
 have hzn : ((z.natAbs : Nat) : Int) = z :=by omega
 obtain ⟨h1,h2⟩ :=kG (D :=z.natAbs) (N :=detN own.length (2 ^ 50)) (r :=allX own S k) ⟨by omega,by rw [hzn,← hz]; exact hb⟩
 refine ⟨?_,?_⟩
 · exact Nat.le_trans h1 (Nat.le_trans (mJ (by decide) h6) (by decide +kernel))
 · unfold bt
   simp only [Int.natAbs_natCast]
   exact Nat.le_trans h2 (Nat.le_trans hzl (Nat.le_trans (mJ (by decide) h6) (by decide +kernel)))
end Go.Proofs.YtknbcehhjffndaaGreat

namespace Go.Proofs.YtknbcehhjffndaaGreat
open Go.RowKit Go.Ab
attribute [local irreducible] AWP Go.Ab.Sub Means MeansH MeansX CallK CallG CallT CallGT CallU
theorem LJ {L : List (Int)} {n : Nat} (h : n < L.length) : nth (L.map ii) n = ii L[n] :=eC _ h
theorem G3 (f : FuncId) (p : Int → Bool) (L : List (Int)) (hl : L.length ≤ 9223372036854775807)
  (hf : ∀ b ∈ L,Means false Tryz.prog f [ii b] (bb (p b))) (hcall : callable Tryz.prog f = true) :
  Means false Tryz.prog 117 [.sl (L.map ii),.v (.func (.func f) #[] #[])] (ii (if L.findIdx p < L.length then (L.findIdx p : Int) else -1)) :=by
 refine aB false 19 [.tmp 4] Tryz.func117 rfl rfl rfl (by simp) (by decide) rfl fun X hX => ?_
 (repeat (refine a6 q6x2 hX a7 rfl ?_; (simp [go_sem])))
 refine aF (fun n : Nat => ⟨mkE [(0,.sl (L.map ii)),(1,.v (.func (.func f) #[] #[])),(7,ii L.length),(8,ii n)],[]⟩) (fun n => n ≤ L.findIdx p ∧ n ≤ L.length) (fun n => L.length - n) 0 ?_ ?_ ?_
 · refine aA _ [] (by simp [go_sem]) ?_
   simp [go_sem]
 · omega
 · rintro n ⟨hn,hn2⟩
   (repeat (refine a6 q6x2 hX a7 rfl ?_; (simp [go_sem])))
   refine a8 (b :=decide (n < L.length)) (by simp [go_sem]) (fun hc => ?_) (fun hc => ?_)
   · simp at hc
     have hq :=LJ hc
     have wn :=w64 (x :=(n : Int) + 1) (by omega) (by omega)
     (repeat (refine a6 q6x2 hX a7 rfl ?_; (simp [go_sem,hc,hq,hcall])))
     refine a9 (hf L[n] (List.getElem_mem hc)) ?_
     try (simp [go_sem])
     refine a8 (b :=p L[n]) (by simp [go_sem]) (fun hd => ?_) (fun hd => ?_)
     · have e : L.findIdx p = n :=by
        have h1 : ¬ n < L.findIdx p :=fun h => by have :=List.not_of_lt_findIdx h; rw [hd] at this; simp at this
        omega
       (repeat (refine a6 q6x2 hX a7 rfl ?_; (simp [go_sem,e,hc])))
       try exact ⟨L[n],List.getElem_mem hc,hd⟩
     · have e : n + 1 ≤ L.findIdx p :=by
        by_cases h : L.findIdx p = n
        · have h2 : L.findIdx p < L.length :=by omega
          have :=List.findIdx_getElem (p :=p) (w :=h2)
          simp only [h] at this
          rw [hd] at this; cases this
        · omega
       (repeat (refine a6 q6x2 hX a7 rfl ?_; (simp [go_sem,wn])))
       refine ⟨n + 1,⟨e,by omega⟩,by omega,?_⟩
       refine aA _ [] (by simp [go_sem]) ?_
       simp [go_sem]
   · have e : ¬ L.findIdx p < L.length :=by simp at hc; omega
     (repeat (refine a6 q6x2 hX a7 rfl ?_; (simp [go_sem,e])))
     try simpa [List.findIdx_lt_length] using e
theorem D3 {p : Int → Bool} (L : List (Int)) : decide (L.findIdx p < L.length) = L.any p :=by
 rw [Bool.eq_iff_iff]
 simp [List.findIdx_lt_length]
theorem IX (f : FuncId) (p : Int → Bool) (L : List (Int)) (hl : L.length ≤ 9223372036854775807)
  (hf : ∀ b ∈ L,Means false Tryz.prog f [ii b] (bb (p b))) (hcall : callable Tryz.prog f = true) :
  Means false Tryz.prog 89 [.sl (L.map ii),.v (.func (.func f) #[] #[])] (bb (L.any p)) :=by
 have h :=G3 f p L hl hf hcall
 rw [← D3]
 generalize L.findIdx p = q at *
 refine aB false 9 [.tmp 4] Tryz.func89 rfl rfl rfl (by simp) (by decide) rfl fun X hX => ?_
 (repeat (refine a6 [0,1,4] hX a7 rfl ?_; (simp [go_sem])))
 refine a9 (h) ?_
 try (simp [go_sem])
 by_cases hq : q < L.length
 · (repeat (refine a6 [0,1,4] hX a7 rfl ?_; (simp [go_sem,hq])))
 · (repeat (refine a6 [0,1,4] hX a7 rfl ?_; (simp [go_sem,hq])))
theorem jC {L : List (List Int)} {n : Nat} (h : n < L.length) : nth (L.map il) n = il L[n] :=eC _ h
theorem G4 (f : FuncId) (p : List Int → Bool) (L : List (List Int)) (hl : L.length ≤ 9223372036854775807)
  (hf : ∀ b ∈ L,Means false Tryz.prog f [il b] (bb (p b))) (hcall : callable Tryz.prog f = true) :
  Means false Tryz.prog 90 [.sl (L.map il),.v (.func (.func f) #[] #[])] (ii (if L.findIdx p < L.length then (L.findIdx p : Int) else -1)) :=by
 refine aB false 19 [.tmp 4] Tryz.func90 rfl rfl rfl (by simp) (by decide) rfl fun X hX => ?_
 (repeat (refine a6 q6x2 hX a7 rfl ?_; (simp [go_sem])))
 refine aF (fun n : Nat => ⟨mkE [(0,.sl (L.map il)),(1,.v (.func (.func f) #[] #[])),(7,ii L.length),(8,ii n)],[]⟩) (fun n => n ≤ L.findIdx p ∧ n ≤ L.length) (fun n => L.length - n) 0 ?_ ?_ ?_
 · refine aA _ [] (by simp [go_sem]) ?_
   simp [go_sem]
 · omega
 · rintro n ⟨hn,hn2⟩
   (repeat (refine a6 q6x2 hX a7 rfl ?_; (simp [go_sem])))
   refine a8 (b :=decide (n < L.length)) (by simp [go_sem]) (fun hc => ?_) (fun hc => ?_)
   · simp at hc
     have hq :=jC hc
     have wn :=w64 (x :=(n : Int) + 1) (by omega) (by omega)
     (repeat (refine a6 q6x2 hX a7 rfl ?_; (simp [go_sem,hc,hq,hcall])))
     refine a9 (hf L[n] (List.getElem_mem hc)) ?_
     try (simp [go_sem])
     refine a8 (b :=p L[n]) (by simp [go_sem]) (fun hd => ?_) (fun hd => ?_)
     · have e : L.findIdx p = n :=by
        have h1 : ¬ n < L.findIdx p :=fun h => by have :=List.not_of_lt_findIdx h; rw [hd] at this; simp at this
        omega
       (repeat (refine a6 q6x2 hX a7 rfl ?_; (simp [go_sem,e,hc])))
       try exact ⟨L[n],List.getElem_mem hc,hd⟩
     · have e : n + 1 ≤ L.findIdx p :=by
        by_cases h : L.findIdx p = n
        · have h2 : L.findIdx p < L.length :=by omega
          have :=List.findIdx_getElem (p :=p) (w :=h2)
          simp only [h] at this
          rw [hd] at this; cases this
        · omega
       (repeat (refine a6 q6x2 hX a7 rfl ?_; (simp [go_sem,wn])))
       refine ⟨n + 1,⟨e,by omega⟩,by omega,?_⟩
       refine aA _ [] (by simp [go_sem]) ?_
       simp [go_sem]
   · have e : ¬ L.findIdx p < L.length :=by simp at hc; omega
     (repeat (refine a6 q6x2 hX a7 rfl ?_; (simp [go_sem,e])))
     try simpa [List.findIdx_lt_length] using e
theorem D4 {p : List Int → Bool} (L : List (List Int)) : decide (L.findIdx p < L.length) = L.any p :=by
 rw [Bool.eq_iff_iff]
 simp [List.findIdx_lt_length]
theorem IK (f : FuncId) (p : List Int → Bool) (L : List (List Int)) (hl : L.length ≤ 9223372036854775807)
  (hf : ∀ b ∈ L,Means false Tryz.prog f [il b] (bb (p b))) (hcall : callable Tryz.prog f = true) :
  Means false Tryz.prog 61 [.sl (L.map il),.v (.func (.func f) #[] #[])] (bb (L.any p)) :=by
 have h :=G4 f p L hl hf hcall
 rw [← D4]
 generalize L.findIdx p = q at *
 refine aB false 9 [.tmp 4] Tryz.func61 rfl rfl rfl (by simp) (by decide) rfl fun X hX => ?_
 (repeat (refine a6 [0,1,4] hX a7 rfl ?_; (simp [go_sem])))
 refine a9 (h) ?_
 try (simp [go_sem])
 by_cases hq : q < L.length
 · (repeat (refine a6 [0,1,4] hX a7 rfl ?_; (simp [go_sem,hq])))
 · (repeat (refine a6 [0,1,4] hX a7 rfl ?_; (simp [go_sem,hq])))
structure Fr where
 s1 : Int
 L1 : List Int
 s2 : Int
 L2 : List Int
abbrev fv (x : Fr) : AV :=frac4 x.s1 x.L1 x.s2 x.L2
def wrongS (s : Int) : Bool :=decide (s < 0) || decide (1000 < s)
theorem IY (s : Int) : Means false Tryz.prog 88 [ii s] (bb (wrongS s)) :=by
 refine aB false 9 [.tmp 2] Tryz.func88 rfl rfl rfl (by simp) (by decide) rfl fun X hX => ?_
 (repeat (refine a6 [0,2] hX a7 rfl ?_; (simp [go_sem])))
 simp [wrongS]
theorem D5 {l : List Int} : l.any wrongS = false ↔ ∀ x ∈ l,0 ≤ x ∧ x ≤ 1000 :=by
 rw [List.any_eq_false]
 constructor
 · intro h x hx
   have :=h x hx
   simp [wrongS] at this
   omega
 · intro h x hx
   have :=h x hx
   simp [wrongS]
   omega
theorem fQ : ∀ (l : List Int) (k : Nat),(∀ x ∈ l,0 ≤ x ∧ x ≤ 1000) → 0 ≤ sumI (l.take k) ∧ sumI (l.take k) ≤ 1000 * l.length
 | [],k,_ => by simp [sumI]
 | x :: l,0,_ => by simp [sumI]; omega
 | x :: l,k + 1,h => by
   have h1 :=fQ l k fun y hy => h y (List.mem_cons_of_mem _ hy)
   have h2 :=h x (by simp)
   simp only [List.take_succ_cons,sumI,List.length_cons]
   omega
theorem B7 (l : List Int) (hl : l.length ≤ 1000) (h : ∀ x ∈ l,0 ≤ x ∧ x ≤ 1000) : Means false Tryz.prog 33 [il l] (ii (sumI l)) :=by
 refine aB false 17 [.tmp 2] Tryz.func33 rfl rfl rfl (by simp) (by decide) rfl fun X hX => ?_
 (repeat (refine a6 q6x3 hX a7 rfl ?_; (simp [go_sem])))
 refine aF (fun k : Nat => ⟨mkE [(0,il l),(3,ii (sumI (l.take k))),(6,il l),(7,ii l.length),(8,ii k)],[]⟩) (fun k => k ≤ l.length) (fun k => l.length - k) 0 ?_ ?_ ?_
 · refine aA _ [] (by simp [go_sem]) ?_
   simp [go_sem,sumI]
 · omega
 · intro k hk
   (repeat (refine a6 q6x3 hX a7 rfl ?_; (simp [go_sem])))
   refine a8 (b :=decide (k < l.length)) (by simp [go_sem]) (fun hb => ?_) (fun hb => ?_)
   · simp only [decide_eq_true_eq] at hb
     have q1 :=eM hb
     have b1 :=fQ l k h
     have b2 :=fQ l (k + 1) h
     have e : sumI (l.take (k + 1)) = sumI (l.take k) + l[k] :=by rw [List.take_succ_eq_append_getElem hb,cG]
     rw [e] at b2
     have w1 :=w64 (x :=sumI (l.take k) + l[k]) (by omega) (by omega)
     have w2 :=w64 (x :=(k : Int) + 1) (by omega) (by omega)
     (repeat (refine a6 q6x3 hX a7 rfl ?_; (simp [go_sem,hb,q1,w1,w2])))
     refine ⟨k + 1,by omega,by omega,?_⟩
     rw [e]
     refine aA _ [] (by simp [go_sem]) ?_
     simp [go_sem]
   · simp only [decide_eq_false_iff_not] at hb
     have hk2 : k = l.length :=by omega
     subst hk2
     rw [List.take_length]
     (repeat (refine a6 q6x3 hX a7 rfl ?_; (simp [go_sem])))
def rowOk (own : List Int) (S : List (List Int)) (k : Nat) : Prop :=(0 ≤ wO own k ∧ wO own k ≤ 1099511627776) ∧ (S.getD k []).length = own.length ∧ (∀ x ∈ S.getD k [],0 ≤ x ∧ x ≤ 1000) ∧ sO S k k = 0
theorem jD (own : List Int) (S : List (List Int)) : PR own S ↔ (0 < own.length ∧ own.length ≤ 12 ∧ S.length = own.length) ∧ ∀ k,k < own.length → rowOk own S k :=by
 constructor
 · intro h
   refine ⟨⟨h.pos,h.most,h.len⟩,fun k hk => ?_⟩
   have hS : k < S.length :=by rw [h.len]; exact hk
   have hg : S.getD k [] = S[k] :=by rw [List.getD_eq_getElem?_getD,List.getElem?_eq_getElem hS]; rfl
   refine ⟨h.w k hk,by rw [hg]; exact h.row _ (List.getElem_mem hS),fun x hx => ?_,h.d k hk⟩
   obtain ⟨j,hj,rfl⟩ :=List.getElem_of_mem hx
   have hl :=h.row _ (List.getElem_mem hS)
   have hj' : j < own.length :=by rw [← hl,← hg]; exact hj
   have :=h.s k j hk hj'
   unfold sO at this
   rw [bF hj] at this
   exact this
 · rintro ⟨⟨h1,h2,h3⟩,h4⟩
   refine ⟨h1,h2,h3,fun k hk => (h4 k hk).1,fun l hl => ?_,fun i j hi hj => ?_,fun i hi => (h4 i hi).2.2.2⟩
   · obtain ⟨k,hk,rfl⟩ :=List.getElem_of_mem hl
     have hg : S.getD k [] = S[k] :=by rw [List.getD_eq_getElem?_getD,List.getElem?_eq_getElem hk]; rfl
     rw [← hg]
     exact (h4 k (by omega)).2.1
   · obtain ⟨_,h5,h6,_⟩ :=h4 i hi
     have hj' : j < (S.getD i []).length :=by omega
     unfold sO
     rw [bF hj']
     exact h6 _ (List.getElem_mem hj')
theorem IZ {l : List AV} {k : Nat} (h : ¬ k < l.length) : nth l k = .bad :=by
 unfold nth
 rw [List.getD_eq_getElem?_getD,List.getElem?_eq_none (by omega)]; rfl
noncomputable instance (own : List Int) (S : List (List Int)) (k : Nat) : Decidable (rowOk own S k) :=Classical.propDecidable _
noncomputable instance (own : List Int) (S : List (List Int)) : Decidable (PR own S) :=Classical.propDecidable _
noncomputable instance (own : List Int) (S : List (List Int)) : Decidable (PV own S) :=Classical.propDecidable _
abbrev ill (S : List (List Int)) : AV :=.sl (S.map il)
set_option maxHeartbeats 8000000 in
set_option maxRecDepth 20000 in
theorem IJ (own : List Int) (S : List (List Int)) (hl : own.length ≤ 9223372036854775807) (hS : S.length ≤ 9223372036854775807) (hr : ∀ l ∈ S,l.length ≤ 9223372036854775807) : Means false Tryz.prog 60 [il own,ill S] (bb (decide (PR own S))) :=by
 by_cases h0 : 0 < own.length ∧ own.length ≤ 12 ∧ S.length = own.length
 · refine aB false 61 [.tmp 4] Tryz.func60 rfl rfl rfl (by simp) (by decide) rfl fun X hX => ?_
   (repeat (refine a6 q6x1 hX a7 rfl ?_; (simp [go_sem])))
   have h12 : ¬ (12 : Int) < own.length :=by omega
   have hn0 : ¬ own = [] :=by intro e; rw [e] at h0; simp at h0
   refine a8 (b :=false) (by simp [go_sem,h0.2.2,h12,hn0]) (fun h => by cases h) (fun _ => ?_)
   (repeat (refine a6 q6x1 hX a7 rfl ?_; (simp [go_sem])))
   refine aF (fun k : Nat => ⟨mkE [(0,il own),(1,ill S),(5,ii own.length),(23,ill S),(24,ii own.length),(25,ii k)],[]⟩) (fun k => k ≤ own.length ∧ ∀ j,j < k → rowOk own S j) (fun k => own.length - k) 0 ?_ ?_ ?_
   · refine aA _ [] (by simp [go_sem]) ?_
     simp [go_sem,h0.2.2]
   · exact ⟨by omega,fun j hj => by omega⟩
   · rintro k ⟨hk,hp⟩
     (repeat (refine a6 q6x1 hX a7 rfl ?_; (simp [go_sem])))
     refine a8 (b :=decide (k < own.length)) (by simp [go_sem]) (fun hb => ?_) (fun hb => ?_)
     · simp only [decide_eq_true_eq] at hb
       have hkS : k < S.length :=by omega
       have q1 :=eM hb
       have q2 :=jC (L :=S) hkS
       have hlk :=hr S[k] (List.getElem_mem hkS)
       have hg : S.getD k [] = S[k] :=by rw [List.getD_eq_getElem?_getD,List.getElem?_eq_getElem hkS]; rfl
       have hro : rowOk own S k ↔ (0 ≤ own[k] ∧ own[k] ≤ 1099511627776) ∧ S[k].length = own.length ∧ S[k].any wrongS = false ∧ sO S k k = 0 :=by
        unfold rowOk
        rw [hg,D5,show wO own k = own[k] from bF hb]
       have hso : ∀ h : k < S[k].length,sO S k k = S[k][k] :=fun h => by unfold sO; rw [hg,bF h]
       have wk :=w64 (x :=(k : Int) + 1) (by omega) (by omega)
       by_cases hlen : S[k].length = own.length
       · have hk3 : k < S[k].length :=by omega
         have q3 :=eM hk3
         rw [hso hk3] at hro
         (repeat (refine a6 q6x1 hX a7 rfl ?_; (simp [go_sem,hb,hkS,q1,q2])))
         refine aJ (fun hg => IX 88 wrongS S[k] hlk (fun b _ => IY b) (by kernel_rfl)) ?_
         try (simp [go_sem,hb,hkS,q1,q2,hk3,q3])
         refine a8 (b :=!(decide (rowOk own S k))) (by simp [go_sem,hro,hlen]; grind) (fun hd => ?_) (fun hd => ?_)
         · have e : ¬ PR own S :=fun h => by
            have :=((jD own S).1 h).2 k hb
            simp [this] at hd
           (repeat (refine a6 q6x1 hX a7 rfl ?_; (simp [go_sem,e])))
         · simp only [Bool.not_eq_false',decide_eq_true_eq] at hd
           (repeat (refine a6 q6x1 hX a7 rfl ?_; (simp [go_sem,wk])))
           refine ⟨k + 1,⟨by omega,fun j hj => ?_⟩,by omega,?_⟩
           · by_cases hjk : j = k
             · subst hjk; exact hd
             · exact hp j (by omega)
           · refine aA _ [] (by simp [go_sem]) ?_
             simp [go_sem]
       · have hlen2 : ¬ ((S[k].length : Int) = own.length) :=by omega
         have e : ¬ PR own S :=fun h => by
          have :=((jD own S).1 h).2 k hb
          exact hlen (hro.1 this).2.1
         by_cases hk3 : k < S[k].length
         · have q3 :=eM hk3
           (repeat (refine a6 q6x1 hX a7 rfl ?_; (simp [go_sem,hb,hkS,q1,q2,q3,hlen2])))
           try first | refine cB rfl ?_ | refine bY rfl ?_
           try (simp [go_sem,hb,hkS,q1,q2,q3,hlen2])
           refine a8 (b :=true) (by simp [go_sem,hlen2]) (fun _ => ?_) (fun h => by cases h)
           (repeat (refine a6 q6x1 hX a7 rfl ?_; (simp [go_sem,e])))
         · have q3 : nth (S[k].map ii) k = .bad :=IZ (by simpa using hk3)
           (repeat (refine a6 q6x1 hX a7 rfl ?_; (simp [go_sem,hb,hkS,q1,q2,q3,hlen2])))
           try first | refine cB rfl ?_ | refine bY rfl ?_
           try (simp [go_sem,hb,hkS,q1,q2,q3,hlen2])
           refine a8 (b :=true) (by simp [go_sem,hlen2]) (fun _ => ?_) (fun h => by cases h)
           (repeat (refine a6 q6x1 hX a7 rfl ?_; (simp [go_sem,e])))
     · simp only [decide_eq_false_iff_not] at hb
       have hk2 : k = own.length :=by omega
       subst hk2
       have e : PR own S :=(jD own S).2 ⟨h0,hp⟩
       (repeat (refine a6 q6x1 hX a7 rfl ?_; (simp [go_sem,e])))
 · have e : ¬ PR own S :=fun h => h0 ((jD own S).1 h).1
   refine aB false 61 [.tmp 4] Tryz.func60 rfl rfl rfl (by simp) (by decide) rfl fun X hX => ?_
   (repeat (refine a6 q6x1 hX a7 rfl ?_; (simp [go_sem])))
   refine a8 (b :=decide (own = [] ∨ (12 : Int) < own.length ∨ ¬ (S.length : Int) = own.length)) (by simp [go_sem]; grind) (fun _ => ?_) (fun h => ?_)
   · (repeat (refine a6 q6x1 hX a7 rfl ?_; (simp [go_sem,e])))
   · exfalso
     simp at h
     have : 0 < own.length :=List.length_pos_iff.2 h.1
     omega
end Go.Proofs.YtknbcehhjffndaaGreat

