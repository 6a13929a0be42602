/-
  Lemmas for the statement at the top.
-/
import Derived.Test.YtaolljbpencjnaaGreatDoorTP13
import Derived.Test.YtaolljbpencjnaaGreatDoorTP11
import Derived.Test.YtaolljbpencjnaaGreatDoorTP12
import Derived.Test.YtaolljbpencjnaaGreatDoorTP10
set_option linter.all false
namespace Go.Ab
def q9x0 : List Nat :=[0,1,4,5,6,8,10,11,12,20,21,22,23,24,25,26,35,36,37,38,78,111,1000000,1000001,1000002,1000003]
def q9x1 : List Nat :=[0,1,4,5,7,9,10,11,13,16,22,30,38,42,43,44,45,65]
def q9x2 : List Nat :=[0,1,4,5,6,7,8,12,23,28,29,30]
def q9x3 : List Nat :=[0,1,2,6,7,8,14,1000000,1000001,1000002,1000003]
def q9x4 : List Nat :=[0,1,2,6,7,32]
def q9x5 : List Nat :=[0,2,3,5,8]
attribute [go_sem] q9x0 q9x1 q9x2 q9x3 q9x4 q9x5
end Go.Ab
namespace Go.Proofs.YtaolljbpencjnaaGreatDoor
open Go.RowKit Go.Ab
attribute [local irreducible] AWP Go.Ab.Sub Means MeansH CallK CallG CallT CallGT PanicH DefH CallU
theorem kH (L : List Int) (hl : L.length ≤ 100000) : Means true Tryz.prog 38 [il L] (il L) :=by
 refine aH true 8 [.tmp 2] Tryz.func38 rfl rfl rfl (by simp) (by decide) rfl fun X hX => ?_
 (repeat (refine aA [0,2,4] hX mixed rfl ?_; (simp [go_sem]; try (refine ⟨by kernel_rfl,?_⟩))))
 refine ⟨?_,fun hL => ?_⟩
 · refine aC (b :=false) (by simp [go_sem]) (fun hb => by cases hb) (fun _ => ?_)
   (repeat (refine aA [0,2,4] hX mixed rfl ?_; (simp [go_sem]; try (refine ⟨by kernel_rfl,?_⟩))))
   (repeat refine And.intro (by first | omega | (unfold maxLen; omega) | kernel_rfl | (refine ⟨by first | omega | (unfold maxLen; omega),by first | omega | (unfold maxLen; omega)⟩) | grind) ?_)
   (repeat (refine aA [0,2,4] hX mixed rfl ?_; (simp [go_sem]; try (refine ⟨by kernel_rfl,?_⟩))))
 · subst hL
   refine aC (b :=true) (by simp [go_sem]) (fun _ => ?_) (fun hb => by cases hb)
   (repeat (refine aA [0,2,4] hX mixed rfl ?_; (simp [go_sem]; try (refine ⟨by kernel_rfl,?_⟩))))
@[go_sem] theorem nth_il {L : List (List Int)} {k : Nat} (h : k < L.length) : nth (L.map il) k = il L[k] :=cX il h
theorem CN {C : List Cn} {V Y nx : List Int} {vn iN an : Nat} {b n : Int} (hi : iN < C.length) (hc : C[iN] = ⟨an,b,n⟩) (hv : vn < V.length) (ha : an < V.length) :
  rlx C vn (V,Y,nx) iN = if V[vn] + n < V[an] then (V.set an (V[vn] + n),Y.set an iN,nx ++ [(an : Int)]) else (V,Y,nx) :=by
 unfold rlx
 simp only [Int.toNat_natCast]
 rw [cD hi,hc]
 simp only [Int.toNat_natCast]
 rw [gD hv,gD ha]
theorem xV {k : Nat} (h : k < 5) : ([bb true,bb true,bb true,bb true,bb true] : List AV).set k (bb true) = [bb true,bb true,bb true,bb true,bb true] ∧ nth [bb true,bb true,bb true,bb true,bb true] k = bb true :=by
 have : k = 0 ∨ k = 1 ∨ k = 2 ∨ k = 3 ∨ k = 4 :=by omega
 rcases this with rfl | rfl | rfl | rfl | rfl <;> exact ⟨rfl,rfl⟩
theorem qB {Y : List Int} : ∀ {n : Nat},n ≤ Y.length → (ddN Y n).length = n → ddN Y n = Y.take n
 | 0,_,_ => by simp [ddN]
 | n + 1,hn,h => by
   have h1 :=xW Y n
   rw [ddN] at h ⊢
   split at h
   · omega
   · rename_i hc
     rw [if_neg hc]
     simp only [List.length_append,List.length_singleton,Nat.add_right_cancel_iff] at h
     rw [qB (by omega) h,List.take_succ_eq_append_getElem (by omega),gD (by omega)]
theorem AP (x : Int) : (AV.v (Value.int .i64 x)).zone = true :=rfl
set_option maxHeartbeats 16000000 in
set_option maxRecDepth 20000 in
theorem DT (C : List Cn) (F : List (List Int)) (hw : WF C F) (V0 Y0 todo0 : List Int) (hV : V0.length = 5) (hY : Y0.length = 5) (hz : ∀ x ∈ V0,x = 0) (ht0 : Todo todo0) (hne : todo0 ≠ []) :
  MeansH Tryz.prog 50 [.row ⟨113,5,[.agg [.sl (C.map cn),.sl (F.map il),.ow 1,.ow 2,.ow 3]]⟩,rowI V0,rowI Y0,.row ⟨4,1,[bb true,bb true,bb true,bb true,bb true]⟩] [.el 0 5 0 0,il todo0] (ii (runM C F 6 V0 Y0 todo0).1) [.row ⟨113,5,[.agg [.sl (C.map cn),.sl (F.map il),.ow 1,.ow 2,.ow 3]]⟩,rowI (runM C F 6 V0 Y0 todo0).2.1,rowI (runM C F 6 V0 Y0 todo0).2.2,.row ⟨4,1,[bb true,bb true,bb true,bb true,bb true]⟩] :=by
 have len5 : ∀ {l : List Int},Todo l → l.length ≤ 5 :=fun {l} h => by
  have : ∀ (l : List Int) (a : Int),0 ≤ a → l.Pairwise (· < ·) → (∀ v ∈ l,a ≤ v ∧ v < 5) → (l.length : Int) ≤ max 0 (5 - a) :=by
   intro l
   induction l with
   | nil => intro a _ _ _; simp; omega
   | cons x l ih =>
     intro a ha hp hr
     rw [List.pairwise_cons] at hp
     have hx :=hr x (by simp)
     have :=ih (x + 1) (by omega) hp.2 fun v hv => by have :=hp.1 v hv; have :=hr v (by simp [hv]); omega
     simp only [List.length_cons]; omega
  have :=this l 0 (by omega) h.1 h.2
  omega
 have c1 :=kH todo0 (by have :=len5 ht0; omega)
 generalize hR : runM C F 6 V0 Y0 todo0 = R
 have w6 : IntKind.i64.wrap 6 = 6 :=by decide
 refine aS 4 120 [.tmp 4] Tryz.func50 rfl rfl rfl (by simp) (by decide) rfl fun X hX => ?_
 (repeat (refine aB q9x0 hX mixed rfl ?_; (simp [go_sem]; try (refine ⟨by kernel_rfl,?_⟩))))
 first | refine aP (c1) ?_ | refine aQ (c1) ?_
 try (simp [go_sem]; try (refine ⟨by kernel_rfl,?_⟩))
 (repeat (refine aB q9x0 hX mixed rfl ?_; (simp [go_sem,hV,w6]; try (refine ⟨by kernel_rfl,?_⟩))))
 refine aV (fun (q : Nat × List Int × List Int × List Int) => ⟨mkE [(0,.el 0 5 0 0),(5,il q.2.2.2),(20,ii 6),(21,ii q.1),(1000000,.ow 0),(1000001,.ow 1),(1000002,.ow 2),(1000003,.ow 3)],[.row ⟨113,5,[.agg [.sl (C.map cn),.sl (F.map il),.ow 1,.ow 2,.ow 3]]⟩,rowI q.2.1,rowI q.2.2.1,.row ⟨4,1,[bb true,bb true,bb true,bb true,bb true]⟩]⟩)
  (fun q => q.1 ≤ 6 ∧ Gd (q.2.1,q.2.2.1,[]) (24000 * q.1) 0 ∧ Todo q.2.2.2 ∧ q.2.2.2 ≠ [] ∧ runM C F (6 - q.1) q.2.1 q.2.2.1 q.2.2.2 = R) (fun q => 6 - q.1) (0,V0,Y0,todo0) ?_ ?_ ?_
 · refine aM _ [.old 0 ⟨113,5,[.agg [.sl (C.map cn),.sl (F.map il),.ow 1,.ow 2,.ow 3]]⟩,.old 1 ⟨3,1,(V0).map ii⟩,.old 2 ⟨3,1,(Y0).map ii⟩,.old 3 ⟨4,1,[bb true,bb true,bb true,bb true,bb true]⟩] (by simp [go_sem]) ?_
   simp [go_sem,hV,w6]
 · refine ⟨Nat.zero_le _,⟨hV,hY,fun x hx => by rw [hz x hx]; simp,by simp,by simp⟩,ht0,hne,hR⟩
 rintro ⟨r,V,Y,todo⟩ ⟨hr,hG,hT,hne,hM⟩
 simp only [] at hr hG hT hne hM ⊢
 have hlv : V.length = 5 :=hG.lv
 have hly : Y.length = 5 :=hG.ly
 have wr :=w64 (x :=(r : Int) + 1) (by omega) (by omega)
 have hl5 :=len5 hT
 have htl : 0 < todo.length :=List.length_pos_iff.2 hne
 (repeat (refine aB q9x0 hX mixed rfl ?_; (simp [go_sem]; try (refine ⟨by kernel_rfl,?_⟩))))
 refine aC (b :=decide (r < 6)) (by simp [go_sem]; try omega) (fun hc => ?_) (fun hc => ?_)
 rotate_left
 · simp at hc
   have e : r = 6 :=by omega
   subst e
   have hM2 : (todo.getD 0 0,V,Y) = R :=hM
   rw [← hM2]
   have e0 : todo.getD 0 0 = todo[0] :=gD htl
   simp only []
   rw [e0]
   (repeat (refine aB q9x0 hX mixed rfl ?_; (simp [go_sem,htl]; try (refine ⟨by kernel_rfl,?_⟩))))
   refine aK ?_; (try simp only [thenQ,blkQ,loopQ]); refine aJ [(4,ii todo[0]),(1000000,.ow 0),(1000001,.ow 1),(1000002,.ow 2),(1000003,.ow 3)] [.old 0 ⟨113,5,[.agg [.sl (C.map cn),.sl (F.map il),.ow 1,.ow 2,.ow 3]]⟩,.old 1 ⟨3,1,(V).map ii⟩,.old 2 ⟨3,1,(Y).map ii⟩,.old 3 ⟨4,1,[bb true,bb true,bb true,bb true,bb true]⟩] ?_
   simp [go_sem]
 simp at hc
 obtain ⟨k6,hk6⟩ : ∃ k6,6 - r = k6 + 1 :=⟨5 - r,by omega⟩
 rw [hk6,runM] at hM
 (repeat (refine aB q9x0 hX mixed rfl ?_; (simp [go_sem]; try (refine ⟨by kernel_rfl,?_⟩))))
 refine aV (fun (p : Nat × List Int × List Int × List Int) => ⟨mkE [(0,.el 0 5 0 0),(6,.ow 4),(20,ii 6),(21,ii r),(23,il todo),(24,ii todo.length),(25,ii p.1),(1000000,.ow 0),(1000001,.ow 1),(1000002,.ow 2),(1000003,.ow 3)],[.row ⟨113,5,[.agg [.sl (C.map cn),.sl (F.map il),.ow 1,.ow 2,.ow 3]]⟩,rowI p.2.1,rowI p.2.2.1,.row ⟨4,1,[bb true,bb true,bb true,bb true,bb true]⟩,rowI p.2.2.2]⟩)
  (fun p => p.1 ≤ todo.length ∧ p.2 = rnd C F (V,Y,[]) (todo.take p.1) ∧ Gd p.2 (24000 * r + 2000 * cntF F (todo.take p.1)) (cntF F (todo.take p.1))) (fun p => todo.length - p.1) (0,V,Y,[]) ?_ ?_ ?_
 · refine aM _ [.old 0 ⟨113,5,[.agg [.sl (C.map cn),.sl (F.map il),.ow 1,.ow 2,.ow 3]]⟩,.old 1 ⟨3,1,(V).map ii⟩,.old 2 ⟨3,1,(Y).map ii⟩,.old 3 ⟨4,1,[bb true,bb true,bb true,bb true,bb true]⟩,.birth 3 1] (by simp [go_sem]) ?_
   simp [go_sem]
 · exact ⟨Nat.zero_le _,rfl,hG⟩
 rintro ⟨t,V1,Y1,N1⟩ ⟨i1,i2,i3⟩
 simp only [] at i1 i2 i3 ⊢
 have wt :=w64 (x :=(t : Int) + 1) (by omega) (by omega)
 have hlv1 : V1.length = 5 :=i3.lv
 have hly1 : Y1.length = 5 :=i3.ly
 have hct :=xX (F :=F) (todo :=todo) t
 have htt :=hw.tot todo hT
 (repeat (refine aB q9x0 hX mixed rfl ?_; (simp [go_sem]; try (refine ⟨by kernel_rfl,?_⟩))))
 refine aC (b :=decide (t < todo.length)) (by simp [go_sem]; try omega) (fun hd => ?_) (fun hd => ?_)
 rotate_left
 · simp at hd
   have e : todo.take t = todo :=List.take_of_length_le hd
   rw [e] at i2 i3
   rw [← i2] at hM
   have hn12 : N1.length ≤ 12 :=by have :=i3.ln; simp only [] at this; omega
   (repeat (refine aB q9x0 hX mixed rfl ?_; (simp [go_sem]; try (refine ⟨by kernel_rfl,?_⟩))))
   by_cases hN : N1 = []
   · subst hN
     have hM : (-1,V1,Y1) = R :=by simpa using hM
     rw [← hM]
     refine aC (b :=true) (by simp [go_sem]) (fun hb => ?_) (fun hb => by cases hb)
     (repeat (refine aB q9x0 hX mixed rfl ?_; (simp [go_sem]; try (refine ⟨by kernel_rfl,?_⟩))))
     refine aK ?_; (try simp only [thenQ,blkQ,loopQ]); refine aJ [(4,ii (-1)),(1000000,.ow 0),(1000001,.ow 1),(1000002,.ow 2),(1000003,.ow 3)] [.old 0 ⟨113,5,[.agg [.sl (C.map cn),.sl (F.map il),.ow 1,.ow 2,.ow 3]]⟩,.old 1 ⟨3,1,(V1).map ii⟩,.old 2 ⟨3,1,(Y1).map ii⟩,.old 3 ⟨4,1,[bb true,bb true,bb true,bb true,bb true]⟩] ?_
     simp [go_sem]
   · have hM : runM C F k6 V1 Y1 (ddL (sortS N1)) = R :=by simpa [hN] using hM
     refine aC (b :=false) (by simp [go_sem,hN]) (fun hb => by cases hb) (fun hb => ?_)
     have d1 :=CO N1 hn12
     have d2 :=vR (sortS N1) (by rw [nE]; omega)
     have hT2 :=nF i3.nx
     have hne2 : ddL (sortS N1) ≠ [] :=by
      obtain ⟨x,hx⟩ :=List.exists_mem_of_ne_nil _ hN
      have hx2 : x ∈ ddL (sortS N1) :=(gH (Nat.le_refl _) x).2 (by rw [List.take_length]; exact (eL N1).mem_iff.2 hx)
      exact List.ne_nil_of_mem hx2
     have hG2 : Gd (V1,Y1,[]) (24000 * (r + 1)) 0 :=⟨i3.lv,i3.ly,fun x hx => by have :=i3.bd x hx; omega,by simp,by simp⟩
     have hk2 : 6 - (r + 1) = k6 :=by omega
     (repeat (refine aB q9x0 hX mixed rfl ?_; (simp [go_sem]; try (refine ⟨by kernel_rfl,?_⟩))))
     first | refine aF [4] (d1) (by simp [go_sem]) ?_ | refine aD [4] (d1) (by simp [go_sem]) ?_ | refine aE [4] (d1) (by simp [go_sem]) ?_
     try (simp [go_sem]; try (refine ⟨by kernel_rfl,?_⟩))
     (repeat (refine aB q9x0 hX mixed rfl ?_; (simp [go_sem]; try (refine ⟨by kernel_rfl,?_⟩))))
     by_cases hcp : (ddN (sortS N1) (sortS N1).length).length = (sortS N1).length
     · have hdd : ddL (sortS N1) = sortS N1 :=by have :=qB (Nat.le_refl _) hcp; rwa [List.take_length] at this
       rw [cpR,cpL,if_pos hcp,if_pos hcp] at d2
       first | refine aF [4] (d2) (by simp [go_sem]) ?_ | refine aD [4] (d2) (by simp [go_sem]) ?_ | refine aE [4] (d2) (by simp [go_sem]) ?_
       try (simp [go_sem]; try (refine ⟨by kernel_rfl,?_⟩))
       (repeat (refine aB q9x0 hX mixed rfl ?_; (simp [go_sem,wr]; try (refine ⟨by kernel_rfl,?_⟩))))
       refine ⟨r + 1,V1,Y1,ddL (sortS N1),⟨by omega,hG2,hT2,hne2,by rw [hk2]; exact hM⟩,by omega,?_⟩
       rw [hdd]
       refine aM _ [.old 0 ⟨113,5,[.agg [.sl (C.map cn),.sl (F.map il),.ow 1,.ow 2,.ow 3]]⟩,.old 1 ⟨3,1,(V1).map ii⟩,.old 2 ⟨3,1,(Y1).map ii⟩,.old 3 ⟨4,1,[bb true,bb true,bb true,bb true,bb true]⟩] (by simp [go_sem]) ?_
       simp [go_sem]
     · rw [cpR,cpL,if_neg hcp,if_neg hcp] at d2
       first | refine aF [4] (d2) (by simp [go_sem]) ?_ | refine aD [4] (d2) (by simp [go_sem]) ?_ | refine aE [4] (d2) (by simp [go_sem]) ?_
       try (simp [go_sem]; try (refine ⟨by kernel_rfl,?_⟩))
       (repeat (refine aB q9x0 hX mixed rfl ?_; (simp [go_sem,wr]; try (refine ⟨by kernel_rfl,?_⟩))))
       refine ⟨r + 1,V1,Y1,ddL (sortS N1),⟨by omega,hG2,hT2,hne2,by rw [hk2]; exact hM⟩,by omega,?_⟩
       refine aM _ [.old 0 ⟨113,5,[.agg [.sl (C.map cn),.sl (F.map il),.ow 1,.ow 2,.ow 3]]⟩,.old 1 ⟨3,1,(V1).map ii⟩,.old 2 ⟨3,1,(Y1).map ii⟩,.old 3 ⟨4,1,[bb true,bb true,bb true,bb true,bb true]⟩] (by simp [go_sem]) ?_
       simp only [go_sem]
       try simp [ddL]
       refine ⟨4,1,0,_,⟨rfl,rfl,rfl,rfl⟩,_,rfl,⟨rfl,?_⟩,?_,?_,rfl,rfl,rfl,rfl⟩
       · simp
       · simp
       · simp [zoneEs,AP]
 simp at hd
 obtain ⟨vn,hvn⟩ : ∃ vn : Nat,todo[t] = (vn : Int) :=⟨todo[t].toNat,by have :=hT.2 _ (List.getElem_mem hd); omega⟩
 have hv5 : vn < 5 :=by have :=hT.2 _ (List.getElem_mem hd); omega
 have hF : vn < F.length :=by rw [hw.F5]; exact hv5
 have hstep :=xY (F :=F) hd
 have hrs :=xZ (C :=C) (F :=F) (s :=(V,Y,[])) hd
 have hct1 :=xX (F :=F) (todo :=todo) (t + 1)
 rw [hvn,Int.toNat_natCast] at hstep
 rw [hvn,← i2] at hrs
 have hFD : F.getD vn [] = F[vn] :=by rw [List.getD_eq_getElem?_getD,List.getElem?_eq_getElem hF]; rfl
 unfold rlxV at hrs
 rw [Int.toNat_natCast] at hrs
 rw [hFD] at hstep hrs
 obtain ⟨L,hL⟩ : ∃ L,F[vn] = L :=⟨_,rfl⟩
 have hLm : L ∈ F :=by rw [← hL]; exact List.getElem_mem hF
 rw [hL] at hstep hrs
 (repeat (refine aB q9x0 hX mixed rfl ?_; (simp [go_sem,hd,hvn,hF,hL]; try (refine ⟨by kernel_rfl,?_⟩))))
 refine aV (fun (p : Nat × List Int × List Int × List Int) => ⟨mkE [(0,.el 0 5 0 0),(6,.ow 4),(8,ii vn),(20,ii 6),(21,ii r),(23,il todo),(24,ii todo.length),(25,ii t),(35,il L),(36,ii L.length),(37,ii p.1),(1000000,.ow 0),(1000001,.ow 1),(1000002,.ow 2),(1000003,.ow 3)],[.row ⟨113,5,[.agg [.sl (C.map cn),.sl (F.map il),.ow 1,.ow 2,.ow 3]]⟩,rowI p.2.1,rowI p.2.2.1,.row ⟨4,1,[bb true,bb true,bb true,bb true,bb true]⟩,rowI p.2.2.2]⟩)
  (fun p => p.1 ≤ L.length ∧ p.2 = (L.take p.1).foldl (rlx C vn) (V1,Y1,N1) ∧ Gd p.2 (24000 * r + 2000 * cntF F (todo.take t) + 2000 * p.1) (cntF F (todo.take t) + p.1)) (fun p => L.length - p.1) (0,V1,Y1,N1) ?_ ?_ ?_
 · refine aM _ [.old 0 ⟨113,5,[.agg [.sl (C.map cn),.sl (F.map il),.ow 1,.ow 2,.ow 3]]⟩,.old 1 ⟨3,1,(V1).map ii⟩,.old 2 ⟨3,1,(Y1).map ii⟩,.old 3 ⟨4,1,[bb true,bb true,bb true,bb true,bb true]⟩,.old 4 ⟨3,1,(N1).map ii⟩] (by simp [go_sem]) ?_
   simp [go_sem]
 · exact ⟨Nat.zero_le _,rfl,i3⟩
 rintro ⟨q,V2,Y2,N2⟩ ⟨j1,j2,j3⟩
 simp only [] at j1 j2 j3 ⊢
 have hlv2 : V2.length = 5 :=j3.lv
 have hly2 : Y2.length = 5 :=j3.ly
 have wq :=w64 (x :=(q : Int) + 1) (by omega) (by omega)
 (repeat (refine aB q9x0 hX mixed rfl ?_; (simp [go_sem]; try (refine ⟨by kernel_rfl,?_⟩))))
 refine aC (b :=decide (q < L.length)) (by simp [go_sem]; try omega) (fun he => ?_) (fun he => ?_)
 rotate_left
 · simp at he
   have e : q = L.length :=by omega
   subst e
   rw [List.take_length] at j2
   (repeat (refine aB q9x0 hX mixed rfl ?_; (simp [go_sem,wt]; try (refine ⟨by kernel_rfl,?_⟩))))
   refine ⟨t + 1,V2,Y2,N2,⟨by omega,by rw [hrs]; exact j2,?_⟩,by omega,?_⟩
   · rw [hstep,Nat.mul_add]
     have :=j3
     rwa [← Nat.add_assoc]
   · refine aM _ [.old 0 ⟨113,5,[.agg [.sl (C.map cn),.sl (F.map il),.ow 1,.ow 2,.ow 3]]⟩,.old 1 ⟨3,1,(V2).map ii⟩,.old 2 ⟨3,1,(Y2).map ii⟩,.old 3 ⟨4,1,[bb true,bb true,bb true,bb true,bb true]⟩,.old 4 ⟨3,1,(N2).map ii⟩] (by simp [go_sem]) ?_
     simp [go_sem]
 simp at he
 have hLi :=hw.fi L hLm L[q] (List.getElem_mem he)
 obtain ⟨iN,hiN⟩ : ∃ iN : Nat,L[q] = (iN : Int) :=⟨L[q].toNat,by omega⟩
 have hi : iN < C.length :=by omega
 have hca :=hw.ca C[iN] (List.getElem_mem hi)
 have hcn :=hw.cn C[iN] (List.getElem_mem hi)
 have hgd :=CP hw j3 (v :=(vn : Int)) (i :=(iN : Int)) (by omega) (by omega)
 have hfs :=vS (C :=C) (v :=(vn : Int)) (s :=(V1,Y1,N1)) he
 rw [← j2,hiN] at hfs
 obtain ⟨⟨ca,cb,cc⟩,hc0⟩ : ∃ c,C[iN] = c :=⟨_,rfl⟩
 rw [hc0] at hca hcn
 simp only [] at hca hcn
 obtain ⟨an,rfl⟩ : ∃ an : Nat,ca = (an : Int) :=⟨ca.toNat,by omega⟩
 have ha5 : an < 5 :=by omega
 have hv2 : vn < V2.length :=by omega
 have ha2 : an < V2.length :=by omega
 have hay : an < Y2.length :=by omega
 have hrl :=CN (Y :=Y2) (nx :=N2) hi hc0 hv2 ha2
 have hbv :=j3.bd V2[vn] (List.getElem_mem hv2)
 have wn :=w64 (x :=V2[vn] + cc) (by omega) (by omega)
 obtain ⟨hn5,hg5⟩ :=xV ha5
 have hN2l : N2.length ≤ 24 :=by
  have :=j3.ln
  simp only [] at this
  have : cntF F (todo.take t) + q ≤ 12 :=by rw [hstep] at hct1; omega
  omega
 (repeat (refine aB q9x0 hX mixed rfl ?_; (simp [go_sem,he,hiN,hi,hc0,hv2,ha2,hay,wn,hn5,hg5]; try (refine ⟨by kernel_rfl,?_⟩))))
 refine ⟨by omega,by omega,by kernel_rfl,?_⟩
 refine aC (b :=decide (V2[vn] + cc < V2[an])) (by simp [go_sem]) (fun hc => ?_) (fun hc => ?_)
 · simp only [decide_eq_true_eq] at hc
   rw [if_pos hc] at hrl
   rw [hrl] at hfs
   rw [hrl] at hgd
   (repeat (refine aB q9x0 hX mixed rfl ?_; (simp [go_sem,he,hiN,hi,hc0,hv2,ha2,hay,wn,hn5,hg5,wq]; try (refine ⟨by kernel_rfl,?_⟩))))
   refine ⟨by omega,by omega,by kernel_rfl,?_⟩
   (repeat (refine aB q9x0 hX mixed rfl ?_; (simp [go_sem,he,hiN,hi,hc0,hv2,ha2,hay,wn,hn5,hg5,wq]; try (refine ⟨by kernel_rfl,?_⟩))))
   refine ⟨⟨by omega,by unfold maxLen; omega⟩,?_⟩
   (repeat (refine aB q9x0 hX mixed rfl ?_; (simp [go_sem,he,hiN,hi,hc0,hv2,ha2,hay,wn,hn5,hg5,wq]; try (refine ⟨by kernel_rfl,?_⟩))))
   refine ⟨q + 1,V2.set an (V2[vn] + cc),Y2.set an iN,N2 ++ [(an : Int)],⟨by omega,hfs.symm,by simpa [Nat.mul_add,Nat.add_assoc] using hgd⟩,by omega,?_⟩
   refine aM _ [.old 0 ⟨113,5,[.agg [.sl (C.map cn),.sl (F.map il),.ow 1,.ow 2,.ow 3]]⟩,.old 1 ⟨3,1,(V2.set an (V2[vn] + cc)).map ii⟩,.old 2 ⟨3,1,(Y2.set an iN).map ii⟩,.old 3 ⟨4,1,[bb true,bb true,bb true,bb true,bb true]⟩,.old 7 ⟨3,1,(N2 ++ [(an : Int)]).map ii⟩] (by simp [go_sem]) ?_
   simp [go_sem]
 · simp only [decide_eq_false_iff_not] at hc
   rw [if_neg hc] at hrl
   rw [hrl] at hfs hgd
   (repeat (refine aB q9x0 hX mixed rfl ?_; (simp [go_sem,he,hiN,hi,hc0,hv2,ha2,hay,wn,hn5,hg5,wq]; try (refine ⟨by kernel_rfl,?_⟩))))
   refine ⟨q + 1,V2,Y2,N2,⟨by omega,hfs.symm,by simpa [Nat.mul_add,Nat.add_assoc] using hgd⟩,by omega,?_⟩
   refine aM _ [.old 0 ⟨113,5,[.agg [.sl (C.map cn),.sl (F.map il),.ow 1,.ow 2,.ow 3]]⟩,.old 1 ⟨3,1,(V2).map ii⟩,.old 2 ⟨3,1,(Y2).map ii⟩,.old 3 ⟨4,1,[bb true,bb true,bb true,bb true,bb true]⟩,.old 4 ⟨3,1,(N2).map ii⟩] (by simp [go_sem]) ?_
   simp [go_sem]
end Go.Proofs.YtaolljbpencjnaaGreatDoor

namespace Go.Proofs.YtaolljbpencjnaaGreatDoor
def cI (C : List Cn) (i : Int) : Cn :=C.getD i.toNat ⟨0,0,0⟩
def vD (V : List Int) (x : Int) : Int :=V.getD x.toNat 0
def Sat (C : List Cn) (V : List Int) (i : Int) : Prop :=vD V (cI C i).a ≤ vD V (cI C i).b + (cI C i).n
structure WG (C : List Cn) (F : List (List Int)) : Prop where
 toWF : WF C F
 b5 : ∀ i : Int,0 ≤ i → i < C.length → 0 ≤ (cI C i).b ∧ (cI C i).b < 5
 fb : ∀ v,0 ≤ v → v < 5 → ∀ i ∈ F.getD v.toNat [],0 ≤ i ∧ i < C.length ∧ (cI C i).b = v
 bf : ∀ i : Int,0 ≤ i → i < C.length → i ∈ F.getD (cI C i).b.toNat []
theorem WG.a5 {C : List Cn} {F : List (List Int)} (h : WG C F) {i : Int} (h0 : 0 ≤ i) (h1 : i < C.length) : 0 ≤ (cI C i).a ∧ (cI C i).a < 5 :=by
 have hi : i.toNat < C.length :=by omega
 unfold cI
 rw [cD hi]
 exact h.toWF.ca _ (List.getElem_mem hi)
structure Why (C : List Cn) (s : RS) (L : Int → Nat) (k : Nat) (todo : List Int) : Prop where
 lv : s.1.length = 5
 ly : s.2.1.length = 5
 le : ∀ x,L x ≤ k
 why : ∀ x,0 ≤ x → x < 5 → 1 ≤ L x → 0 ≤ vD s.2.1 x ∧ vD s.2.1 x < C.length ∧ (cI C (vD s.2.1 x)).a = x ∧ L x ≤ L (cI C (vD s.2.1 x)).b + 1
 td : ∀ v ∈ todo,k ≤ L v + 1
 nx : ∀ x ∈ s.2.2,0 ≤ x ∧ x < 5 ∧ k ≤ L x
def Hold (C : List Cn) (s : RS) (rem : List Int) (v : Int) (ri : List Int) : Prop :=
 ∀ i : Int,0 ≤ i → i < C.length → Sat C s.1 i ∨ (cI C i).b ∈ s.2.2 ∨ (cI C i).b ∈ rem ∨ ((cI C i).b = v ∧ i ∈ ri)
theorem y0 {C : List Cn} {v i : Int} {s : RS} : rlx C v s i = if vD s.1 v + (cI C i).n < vD s.1 (cI C i).a then (s.1.set (cI C i).a.toNat (vD s.1 v + (cI C i).n),s.2.1.set (cI C i).a.toNat i,s.2.2 ++ [(cI C i).a]) else s :=rfl
theorem s8 {V : List Int} (hV : V.length = 5) {a x n : Int} (ha : 0 ≤ a ∧ a < 5) (hx : 0 ≤ x ∧ x < 5) : vD (V.set a.toNat n) x = if x = a then n else vD V x :=by
 unfold vD
 have h1 : x.toNat < (V.set a.toNat n).length :=by rw [List.length_set]; omega
 rw [gD h1,gD (by omega),List.getElem_set]
 by_cases h : x = a
 · subst h; rw [if_pos rfl,if_pos rfl]
 · rw [if_neg h,if_neg (by omega)]
theorem AQ {C : List Cn} {F : List (List Int)} (hw : WG C F) {s : RS} {L : Int → Nat} {k : Nat} {todo : List Int} (h : Why C s L k todo) (hk : 1 ≤ k) {v i : Int} (hv : v ∈ todo) (hv5 : 0 ≤ v ∧ v < 5) (hi : 0 ≤ i ∧ i < C.length) (hb : (cI C i).b = v) :
  ∃ L',Why C (rlx C v s i) L' k todo :=by
 rw [y0]
 have ha :=hw.a5 hi.1 hi.2
 split
 · refine ⟨fun x => if x = (cI C i).a then k else L x,⟨by simp [h.lv],by simp [h.ly],fun x => ?_,fun x x0 x5 hx => ?_,fun x hx => ?_,fun x hx => ?_⟩⟩
   · show (if _ then _ else _) ≤ k
     split
     · exact Nat.le_refl _
     · exact h.le x
   · simp only [] at hx ⊢
     rw [s8 h.ly ha ⟨x0,x5⟩]
     by_cases hxa : x = (cI C i).a
     · rw [if_pos hxa,if_pos hxa]
       refine ⟨hi.1,hi.2,hxa.symm,?_⟩
       rw [hb]
       have :=h.td v hv
       split <;> omega
     · rw [if_neg hxa] at hx ⊢
       rw [if_neg hxa]
       obtain ⟨w0,w1,w2,w3⟩ :=h.why x x0 x5 hx
       refine ⟨w0,w1,w2,?_⟩
       have :=h.le x
       split
       · omega
       · exact w3
   · have :=h.td x hx
     split <;> omega
   · rcases List.mem_append.1 hx with hx | hx
     · have :=h.nx x hx
       split <;> omega
     · simp only [List.mem_singleton] at hx
       subst hx
       simp only [if_pos]
       omega
 · exact ⟨L,h⟩
theorem y6 {C : List Cn} {F : List (List Int)} (hw : WG C F) {s : RS} (hs : s.1.length = 5) {v i : Int} {rem ri : List Int} (h : Hold C s rem v (i :: ri)) (hi : 0 ≤ i ∧ i < C.length) (hb : (cI C i).b = v) :
  Hold C (rlx C v s i) rem v ri :=by
 have ha :=hw.a5 hi.1 hi.2
 have hv :=hw.b5 i hi.1 hi.2
 intro j j0 j1
 have hja :=hw.a5 j0 j1
 have hjb :=hw.b5 j j0 j1
 have hj :=h j j0 j1
 rw [y0]
 split
 · rename_i hc
   show Sat C (s.1.set _ _) j ∨ _
   by_cases hjn : (cI C j).b = (cI C i).a
   · exact .inr (.inl (by simp [hjn]))
   · have hS : Sat C s.1 j ∨ j = i → Sat C (s.1.set (cI C i).a.toNat (vD s.1 v + (cI C i).n)) j :=by
      intro hS
      unfold Sat
      rw [s8 hs ha hja,s8 hs ha hjb,if_neg hjn]
      rcases hS with hS | rfl
      · unfold Sat at hS
        split
        · rename_i he; rw [he] at hS; omega
        · exact hS
      · rw [if_pos rfl,hb]; omega
     rcases hj with hj | hj | hj | ⟨hj,hj2⟩
     · exact .inl (hS (.inl hj))
     · exact .inr (.inl (by simp [hj]))
     · exact .inr (.inr (.inl hj))
     · rcases List.mem_cons.1 hj2 with rfl | hj2
       · exact .inl (hS (.inr rfl))
       · exact .inr (.inr (.inr ⟨hj,hj2⟩))
 · rename_i hc
   rcases hj with hj | hj | hj | ⟨hj,hj2⟩
   · exact .inl hj
   · exact .inr (.inl hj)
   · exact .inr (.inr (.inl hj))
   · rcases List.mem_cons.1 hj2 with rfl | hj2
     · refine .inl ?_
       unfold Sat
       rw [hb]; omega
     · exact .inr (.inr (.inr ⟨hj,hj2⟩))
theorem qC {C : List Cn} {F : List (List Int)} (hw : WG C F) {k : Nat} {todo rem : List Int} (hk : 1 ≤ k) {v : Int} (hv : v ∈ todo) (hv5 : 0 ≤ v ∧ v < 5) : ∀ (ri : List Int),(∀ i ∈ ri,0 ≤ i ∧ i < C.length ∧ (cI C i).b = v) → ∀ (s : RS) (L : Int → Nat),Why C s L k todo → Hold C s rem v ri →
  ∃ L',Why C (ri.foldl (rlx C v) s) L' k todo ∧ Hold C (ri.foldl (rlx C v) s) rem v []
 | [],_,s,L,h,hh => ⟨L,h,hh⟩
 | i :: ri,hr,s,L,h,hh => by
   obtain ⟨i0,i1,i2⟩ :=hr i (by simp)
   obtain ⟨L1,h1⟩ :=AQ hw h hk hv hv5 ⟨i0,i1⟩ i2
   exact qC hw hk hv hv5 ri (fun j hj => hr j (by simp [hj])) _ L1 h1 (y6 hw h.lv hh ⟨i0,i1⟩ i2)
theorem tW {C : List Cn} {F : List (List Int)} (hw : WG C F) {k : Nat} {todo : List Int} (hk : 1 ≤ k) : ∀ (rem : List Int),(∀ v ∈ rem,v ∈ todo ∧ 0 ≤ v ∧ v < 5) → ∀ (s : RS) (L : Int → Nat),Why C s L k todo → Hold C s rem 0 [] →
  ∃ L',Why C (rnd C F s rem) L' k todo ∧ Hold C (rnd C F s rem) [] 0 []
 | [],_,s,L,h,hh => ⟨L,h,hh⟩
 | v :: rem,hr,s,L,h,hh => by
   obtain ⟨v0,v1⟩ :=hr v (by simp)
   have hf :=hw.fb v v1.1 v1.2
   obtain ⟨L1,h1,hh1⟩ :=qC hw (rem :=rem) hk v0 v1 (F.getD v.toNat []) hf s L h (by
    intro i i0 i1
    rcases hh i i0 i1 with hi | hi | hi | hi
    · exact .inl hi
    · exact .inr (.inl hi)
    · rcases List.mem_cons.1 hi with hi | hi
      · exact .inr (.inr (.inr ⟨hi,by have :=hw.bf i i0 i1; rwa [hi] at this⟩))
      · exact .inr (.inr (.inl hi))
    · simp at hi)
   have hh2 : Hold C (rlxV C F s v) rem 0 [] :=fun i i0 i1 => by
    rcases hh1 i i0 i1 with hi | hi | hi | hi
    · exact .inl hi
    · exact .inr (.inl hi)
    · exact .inr (.inr (.inl hi))
    · simp at hi
   exact tW hw hk rem (fun w hw => hr w (by simp [hw])) _ L1 h1 hh2
theorem qD {C : List Cn} {F : List (List Int)} (hw : WG C F) : ∀ (n k : Nat) (V Y todo : List Int) (L : Int → Nat),1 ≤ k → Todo todo → todo ≠ [] → Why C (V,Y,[]) L k todo → Hold C (V,Y,[]) todo 0 [] →
  ((runM C F n V Y todo).1 = -1 ∧ (∀ i : Int,0 ≤ i → i < C.length → Sat C (runM C F n V Y todo).2.1 i)) ∨
  (0 ≤ (runM C F n V Y todo).1 ∧ (runM C F n V Y todo).1 < 5 ∧ ∃ L' td,Why C ((runM C F n V Y todo).2.1,(runM C F n V Y todo).2.2,[]) L' (n + k) td ∧ n + k ≤ L' (runM C F n V Y todo).1 + 1)
 | 0,k,V,Y,todo,L,hk,ht,hne,h,hh => by
   rw [runM]
   have hm : todo.getD 0 0 ∈ todo :=dF (List.length_pos_iff.2 hne)
   have :=ht.2 _ hm
   refine .inr ⟨this.1,this.2,L,todo,by rw [Nat.zero_add]; exact h,by rw [Nat.zero_add]; exact h.td _ hm⟩
 | n + 1,k,V,Y,todo,L,hk,ht,hne,h,hh => by
   obtain ⟨L1,h1,hh1⟩ :=tW hw hk todo (fun v hv => ⟨hv,ht.2 v hv⟩) (V,Y,[]) L h hh
   rw [runM]
   generalize rnd C F (V,Y,[]) todo = s at h1 hh1 ⊢
   obtain ⟨V1,Y1,N1⟩ :=s
   by_cases hN : N1 = []
   · subst hN
     refine .inl ⟨rfl,fun i i0 i1 => ?_⟩
     rcases hh1 i i0 i1 with hi | hi | hi | hi
     · exact hi
     · simp at hi
     · simp at hi
     · simp at hi
   · simp only [if_neg hN]
     have hmem : ∀ v ∈ ddL (sortS N1),v ∈ N1 :=fun v hv => by
      have hv :=(gH (Nat.le_refl _) v).1 hv
      rw [List.take_length] at hv
      exact (eL N1).mem_iff.1 hv
     have hmem2 : ∀ v ∈ N1,v ∈ ddL (sortS N1) :=fun v hv => (gH (Nat.le_refl _) v).2 (by rw [List.take_length]; exact (eL N1).mem_iff.2 hv)
     have hT2 : Todo (ddL (sortS N1)) :=nF fun x hx => ⟨(h1.nx x hx).1,(h1.nx x hx).2.1⟩
     have hne2 : ddL (sortS N1) ≠ [] :=by
      obtain ⟨x,hx⟩ :=List.exists_mem_of_ne_nil _ hN
      exact List.ne_nil_of_mem (hmem2 x hx)
     have :=qD hw n (k + 1) V1 Y1 (ddL (sortS N1)) L1 (by omega) hT2 hne2
      ⟨h1.lv,h1.ly,fun x => Nat.le_succ_of_le (h1.le x),h1.why,fun v hv => by have :=(h1.nx v (hmem v hv)).2.2; omega,by simp⟩
      (fun i i0 i1 => by
       rcases hh1 i i0 i1 with hi | hi | hi | hi
       · exact .inl hi
       · exact .inr (.inr (.inl (hmem2 _ hi)))
       · simp at hi
       · simp at hi)
     rw [show n + 1 + k = n + (k + 1) by omega]
     exact this
def par (C : List Cn) (Y : List Int) (v : Int) : Int :=(cI C (vD Y v)).b
def parN (C : List Cn) (Y : List Int) : Nat → Int → Int
 | 0,v => v
 | k + 1,v => par C Y (parN C Y k v)
theorem iZ {C : List Cn} {Y : List Int} (a b : Nat) (v : Int) : parN C Y (a + b) v = parN C Y a (parN C Y b v) :=by
 induction a with
 | zero => rw [Nat.zero_add]; rfl
 | succ a ih => rw [show a + 1 + b = (a + b) + 1 by omega]; show par C Y _ = par C Y _; rw [ih]
def Leads (C : List Cn) (Y : List Int) (v : Int) : Prop :=0 ≤ v ∧ v < 5 ∧ 0 ≤ vD Y v ∧ vD Y v < C.length ∧ 0 ≤ par C Y v ∧ par C Y v < 5
theorem pig : ∀ a b c d e f : Fin 5,a = b ∨ a = c ∨ a = d ∨ a = e ∨ a = f ∨ b = c ∨ b = d ∨ b = e ∨ b = f ∨ c = d ∨ c = e ∨ c = f ∨ d = e ∨ d = f ∨ e = f :=by decide +kernel
theorem EC {g : Nat → Int} (h : ∀ k,k ≤ 5 → 0 ≤ g k ∧ g k < 5) : ∃ i j,i < j ∧ j ≤ 5 ∧ g i = g j :=by
 have h0 :=h 0 (by omega)
 have h1 :=h 1 (by omega)
 have h2 :=h 2 (by omega)
 have h3 :=h 3 (by omega)
 have h4 :=h 4 (by omega)
 have h5 :=h 5 (by omega)
 have :=pig ⟨(g 0).toNat,by omega⟩ ⟨(g 1).toNat,by omega⟩ ⟨(g 2).toNat,by omega⟩ ⟨(g 3).toNat,by omega⟩ ⟨(g 4).toNat,by omega⟩ ⟨(g 5).toNat,by omega⟩
 simp only [Fin.mk.injEq] at this
 rcases this with h | h | h | h | h | h | h | h | h | h | h | h | h | h | h
 · exact ⟨0,1,by omega,by omega,by omega⟩
 · exact ⟨0,2,by omega,by omega,by omega⟩
 · exact ⟨0,3,by omega,by omega,by omega⟩
 · exact ⟨0,4,by omega,by omega,by omega⟩
 · exact ⟨0,5,by omega,by omega,by omega⟩
 · exact ⟨1,2,by omega,by omega,by omega⟩
 · exact ⟨1,3,by omega,by omega,by omega⟩
 · exact ⟨1,4,by omega,by omega,by omega⟩
 · exact ⟨1,5,by omega,by omega,by omega⟩
 · exact ⟨2,3,by omega,by omega,by omega⟩
 · exact ⟨2,4,by omega,by omega,by omega⟩
 · exact ⟨2,5,by omega,by omega,by omega⟩
 · exact ⟨3,4,by omega,by omega,by omega⟩
 · exact ⟨3,5,by omega,by omega,by omega⟩
 · exact ⟨4,5,by omega,by omega,by omega⟩
theorem y7 {C : List Cn} {F : List (List Int)} (hw : WG C F) {V Y : List Int} {L : Int → Nat} {k : Nat} {td : List Int} (h : Why C (V,Y,[]) L k td) {r : Int} (hr : 0 ≤ r ∧ r < 5) (hL : 6 ≤ L r) :
  (∀ j,j ≤ 5 → Leads C Y (parN C Y j r)) ∧ ∃ m,1 ≤ m ∧ m ≤ 5 ∧ parN C Y m (parN C Y 5 r) = parN C Y 5 r ∧ ∀ j,j < m → Leads C Y (parN C Y j (parN C Y 5 r)) :=by
 have step : ∀ x,0 ≤ x ∧ x < 5 → 1 ≤ L x → Leads C Y x ∧ L x ≤ L (par C Y x) + 1 :=fun x hx h1 => by
  obtain ⟨w0,w1,w2,w3⟩ :=h.why x hx.1 hx.2 h1
  have hb :=hw.b5 _ w0 w1
  exact ⟨⟨hx.1,hx.2,w0,w1,hb.1,hb.2⟩,w3⟩
 have all : ∀ j,j ≤ 5 → (0 ≤ parN C Y j r ∧ parN C Y j r < 5) ∧ 6 ≤ L (parN C Y j r) + j :=by
  intro j
  induction j with
  | zero => intro _; exact ⟨hr,hL⟩
  | succ j ih =>
    intro hj
    obtain ⟨i1,i2⟩ :=ih (by omega)
    obtain ⟨l1,l2⟩ :=step _ i1 (by omega)
    refine ⟨⟨l1.2.2.2.2.1,l1.2.2.2.2.2⟩,?_⟩
    show 6 ≤ L (par C Y (parN C Y j r)) + (j + 1)
    omega
 have ld : ∀ j,j ≤ 5 → Leads C Y (parN C Y j r) :=fun j hj => (step _ (all j hj).1 (by have :=(all j hj).2; omega)).1
 refine ⟨ld,?_⟩
 obtain ⟨i,j,hij,hj,he⟩ :=EC (g :=fun j => parN C Y j r) fun j hj => (all j hj).1
 have hm : parN C Y (5 - (j - i)) r = parN C Y 5 r :=by
  rw [show 5 - (j - i) = (5 - j) + i by omega,iZ,he,← iZ]
  congr 1; omega
 refine ⟨j - i,by omega,by omega,?_,fun q hq => ?_⟩
 · rw [← hm,← iZ,show j - i + (5 - (j - i)) = 5 by omega,hm]
 · rw [← hm,← iZ]
   exact ld _ (by omega)
def bkL (C : List Cn) (Y : List Int) (to : Int) : Nat → Int → List Int
 | 0,_ => []
 | f + 1,v => vD Y v :: if par C Y v = to then [] else bkL C Y to f (par C Y v)
theorem tX {C : List Cn} {Y : List Int} {to : Int} : ∀ f v,(bkL C Y to f v).length ≤ f
 | 0,_ => Nat.le_refl _
 | f + 1,v => by
   rw [bkL,List.length_cons]
   split
   · simp
   · exact Nat.succ_le_succ (tX f _)
end Go.Proofs.YtaolljbpencjnaaGreatDoor

namespace Go.Proofs.YtaolljbpencjnaaGreatDoor
open Go.RowKit Go.Ab
attribute [local irreducible] AWP Go.Ab.Sub Means MeansH CallK CallG CallT CallGT PanicH DefH CallU
def FF : List (List Int) :=[[0],[3,4],[1,2,5,7],[6],[8,9]]
def gS : Nat → Nat
 | 0 => 10
 | 1 => 9
 | 2 => 7
 | 3 => 3
 | 4 => 2
 | _ => 0
def revK (L : List Int) : Nat → List Int
 | 0 => L
 | k + 1 => ((revK L k).set k ((revK L k).getD (L.length - 1 - k) 0)).set (L.length - 1 - k) ((revK L k).getD k 0)
@[simp] theorem qE (L : List Int) : ∀ k,(revK L k).length = L.length
  | 0 => rfl
  | k + 1 => by simp [revK,qE L k]
theorem DU (L : List Int) (hl : L.length ≤ 100000) : MeansH Tryz.prog 92 [rowI L] [.ow 0] (.tup []) [rowI (revK L (L.length / 2))] :=by
 have w1 :=w64 (x :=(L.length : Int) - 1) (by omega) (by omega)
 refine aS 1 28 [] Tryz.func92 rfl rfl rfl (by simp) (by decide) rfl fun X hX => ?_
 (repeat (refine aB [0,2,3,9,1000000] hX mixed rfl ?_; (simp [go_sem,w1]; try (refine ⟨by kernel_rfl,?_⟩))))
 refine aV (fun k : Nat => ⟨mkE [(0,.ow 0),(2,ii k),(3,ii ((L.length : Int) - 1 - k)),(1000000,.ow 0)],[rowI (revK L k)]⟩) (fun k => k ≤ L.length / 2) (fun k => L.length - k) 0 ?_ ?_ ?_
 · refine aM _ [.old 0 ⟨3,1,(L).map ii⟩] (by simp [go_sem]) ?_
   simp [go_sem,revK]
 · exact Nat.zero_le _
 rintro k hk
 have wk :=w64 (x :=(k : Int) + 1) (by omega) (by omega)
 (repeat (refine aB [0,2,3,9,1000000] hX mixed rfl ?_; (simp [go_sem]; try (refine ⟨by kernel_rfl,?_⟩))))
 refine aC (b :=decide ((k : Int) < (L.length : Int) - 1 - k)) (by simp [go_sem]) (fun hc => ?_) (fun hc => ?_)
 rotate_left
 · simp only [decide_eq_false_iff_not] at hc
   have e : k = L.length / 2 :=by omega
   subst e
   (repeat (refine aB [0,2,3,9,1000000] hX mixed rfl ?_; (simp [go_sem]; try (refine ⟨by kernel_rfl,?_⟩))))
   (try refine aK ?_); (try simp only [thenQ,blkQ,loopQ]); refine cM [(1000000,.ow 0)] [.old 0 ⟨3,1,(revK L (L.length / 2)).map ii⟩] ?_
   simp [go_sem]
 simp only [decide_eq_true_eq] at hc
 obtain ⟨j,hj⟩ : ∃ j : Nat,L.length = j + 1 + k :=⟨L.length - 1 - k,by omega⟩
 have ej : (L.length : Int) - 1 - k = j :=by omega
 have ej2 : L.length - 1 - k = j :=by omega
 have wj :=w64 (x :=(j : Int) - 1) (by omega) (by omega)
 have hlen :=qE L k
 have hne : k ≠ j :=by omega
 have hnx : revK L (k + 1) = ((revK L k).set k ((revK L k).getD j 0)).set j ((revK L k).getD k 0) :=by rw [revK,ej2]
 rw [ej]
 generalize revK L k = D at hnx hlen ⊢
 have hp1 : k < D.length :=by omega
 have hp2 : j < D.length :=by omega
 rw [gD hp1,gD hp2] at hnx
 have hzs : zoneEs (((D.map ii).set k (ii D[j])).set j (ii D[k])) = true :=by
  rw [← List.map_set,← List.map_set]; exact fE _ _ (fun _ => rfl)
 have hns : nth ((D.map ii).set k (ii D[j])) j = ii D[j] :=by
  rw [← List.map_set,cX ii (by simpa using hp2),List.getElem_set_ne (by omega)]
 (repeat (refine aB [0,2,3,9,1000000] hX mixed rfl ?_; (simp [go_sem,hp1,hp2,hzs,hns,wk,wj]; try (refine ⟨by kernel_rfl,?_⟩))))
 refine ⟨k + 1,by omega,by omega,?_⟩
 rw [hnx]
 have ek : (L.length : Int) - 1 - ((k + 1 : Nat) : Int) = j - 1 :=by omega
 rw [ek]
 refine aM _ [.old 0 ⟨3,1,((D.set k D[j]).set j D[k]).map ii⟩] (by simp [go_sem]) ?_
 simp [go_sem]
set_option maxRecDepth 20000 in
theorem CQ (C : List Cn) (F : List (List Int)) (hC : C.length ≤ 2000) (V Y : List Int) (hY : Y.length = 5) (v : Int) (m : Nat) (hm1 : 1 ≤ m) (hm5 : m ≤ 5) (hm : parN C Y m v = v) (hld : ∀ j,j < m → Leads C Y (parN C Y j v)) :
  MeansH Tryz.prog 51 [.row ⟨113,5,[.agg [.sl (C.map cn),.sl (F.map il),.ow 1,.ow 2,.ow 3]]⟩,rowI V,rowI Y,.row ⟨4,1,[bb true,bb true,bb true,bb true,bb true]⟩] [.el 0 5 0 0,ii v,ii v] (il (revK (bkL C Y v m v) ((bkL C Y v m v).length / 2))) [.row ⟨113,5,[.agg [.sl (C.map cn),.sl (F.map il),.ow 1,.ow 2,.ow 3]]⟩,rowI V,rowI Y,.row ⟨4,1,[bb true,bb true,bb true,bb true,bb true]⟩] :=by
 have hle : (bkL C Y v m v).length ≤ 5 :=Nat.le_trans (tX m v) hm5
 generalize hB : bkL C Y v m v = B at hle ⊢
 have c1 :=DU B (by omega)
 refine aS 4 42 [.tmp 6] Tryz.func51 rfl rfl rfl (by simp) (by decide) rfl fun X hX => ?_
 (repeat (refine aB q9x3 hX mixed rfl ?_; (simp [go_sem]; try (refine ⟨by kernel_rfl,?_⟩))))
 refine aV (fun (q : Nat × List Int × Int) => ⟨mkE [(0,.el 0 5 0 0),(1,ii q.2.2),(2,ii v),(7,.ow 4),(8,bb (decide (q.1 = 0))),(1000000,.ow 0),(1000001,.ow 1),(1000002,.ow 2),(1000003,.ow 3)],[.row ⟨113,5,[.agg [.sl (C.map cn),.sl (F.map il),.ow 1,.ow 2,.ow 3]]⟩,rowI V,rowI Y,.row ⟨4,1,[bb true,bb true,bb true,bb true,bb true]⟩,rowI q.2.1]⟩)
  (fun q => q.1 ≤ m ∧ q.2.2 = parN C Y q.1 v ∧ q.2.1.length ≤ q.1 ∧ B = q.2.1 ++ (if q.1 ≠ 0 ∧ q.2.2 = v then [] else bkL C Y v (m - q.1) q.2.2)) (fun q => m - q.1) (0,[],v) ?_ ?_ ?_
 · refine aM _ [.old 0 ⟨113,5,[.agg [.sl (C.map cn),.sl (F.map il),.ow 1,.ow 2,.ow 3]]⟩,.old 1 ⟨3,1,(V).map ii⟩,.old 2 ⟨3,1,(Y).map ii⟩,.old 3 ⟨4,1,[bb true,bb true,bb true,bb true,bb true]⟩,.birth 3 1] (by simp [go_sem]) ?_
   simp [go_sem]
 · exact ⟨Nat.zero_le _,rfl,Nat.zero_le _,by simp [hB]⟩
 rintro ⟨k,O,x⟩ ⟨k1,k2,k3,k4⟩
 simp only [] at k1 k2 k3 k4 ⊢
 (repeat (refine aB q9x3 hX mixed rfl ?_; (simp [go_sem]; try (refine ⟨by kernel_rfl,?_⟩))))
 refine aC (b :=decide (k = 0 ∨ x ≠ v)) (by simp [go_sem]) (fun hc => ?_) (fun hc => ?_)
 rotate_left
 · simp at hc
   have hk4 : B = O :=by rw [k4,if_pos ⟨hc.1,hc.2⟩,List.append_nil]
   subst hk4
   (repeat (refine aB q9x3 hX mixed rfl ?_; (simp [go_sem]; try (refine ⟨by kernel_rfl,?_⟩))))
   first | refine aF [4] (c1) (by simp [go_sem]) ?_ | refine aD [4] (c1) (by simp [go_sem]) ?_ | refine aE [4] (c1) (by simp [go_sem]) ?_
   try (simp [go_sem]; try (refine ⟨by kernel_rfl,?_⟩))
   (repeat (refine aB q9x3 hX mixed rfl ?_; (simp [go_sem]; try (refine ⟨by kernel_rfl,?_⟩))))
   refine aK ?_; (try simp only [thenQ,blkQ,loopQ]); refine aJ [(6,il (revK B (B.length / 2))),(1000000,.ow 0),(1000001,.ow 1),(1000002,.ow 2),(1000003,.ow 3)] [.old 0 ⟨113,5,[.agg [.sl (C.map cn),.sl (F.map il),.ow 1,.ow 2,.ow 3]]⟩,.old 1 ⟨3,1,(V).map ii⟩,.old 2 ⟨3,1,(Y).map ii⟩,.old 3 ⟨4,1,[bb true,bb true,bb true,bb true,bb true]⟩] ?_
   simp [go_sem]
 simp only [decide_eq_true_eq] at hc
 have hkm : k < m :=by
  rcases Nat.lt_or_ge k m with h | h
  · exact h
  · have e : k = m :=by omega
    subst e
    rcases hc with h | h
    · omega
    · exact absurd (k2.trans hm) h
 obtain ⟨l1,l2,l3,l4,l5,l6⟩ :=hld k hkm
 rw [← k2] at l1 l2 l3 l4 l5 l6
 rw [if_neg (by omega),show m - k = (m - (k + 1)) + 1 by omega,bkL] at k4
 have k2' : par C Y x = parN C Y (k + 1) v :=by rw [k2]; rfl
 obtain ⟨xn,rfl⟩ : ∃ n : Nat,x = n :=⟨x.toNat,by omega⟩
 have hxn : xn < Y.length :=by omega
 have hvd : vD Y xn = Y[xn] :=by unfold vD; rw [Int.toNat_natCast,gD hxn]
 obtain ⟨iN,hiN⟩ : ∃ n : Nat,Y[xn] = n :=⟨Y[xn].toNat,by omega⟩
 rw [hvd,hiN] at l3 l4 k4
 have hi : iN < C.length :=by omega
 obtain ⟨⟨ca,cb,cc⟩,hc0⟩ : ∃ c,C[iN] = c :=⟨_,rfl⟩
 have hpar : par C Y xn = cb :=by unfold par cI; rw [hvd,hiN,Int.toNat_natCast,cD hi,hc0]
 rw [hpar] at k2' k4
 (repeat (refine aB q9x3 hX mixed rfl ?_; (simp [go_sem,hxn,hiN,hi,hc0]; try (refine ⟨by kernel_rfl,?_⟩))))
 refine ⟨⟨by omega,by unfold maxLen; omega⟩,?_⟩
 (repeat (refine aB q9x3 hX mixed rfl ?_; (simp [go_sem,hxn,hiN,hi,hc0]; try (refine ⟨by kernel_rfl,?_⟩))))
 (repeat refine And.intro (by first | omega | (unfold maxLen; omega) | kernel_rfl | (refine ⟨by first | omega | (unfold maxLen; omega),by first | omega | (unfold maxLen; omega)⟩) | grind) ?_)
 (repeat (refine aB q9x3 hX mixed rfl ?_; (simp [go_sem,hxn,hiN,hi,hc0]; try (refine ⟨by kernel_rfl,?_⟩))))
 refine ⟨k + 1,O ++ [(iN : Int)],cb,⟨by omega,k2',by simp; omega,?_⟩,by omega,?_⟩
 · rw [k4]; simp
 · refine aM _ [.old 0 ⟨113,5,[.agg [.sl (C.map cn),.sl (F.map il),.ow 1,.ow 2,.ow 3]]⟩,.old 1 ⟨3,1,(V).map ii⟩,.old 2 ⟨3,1,(Y).map ii⟩,.old 3 ⟨4,1,[bb true,bb true,bb true,bb true,bb true]⟩,.old 6 ⟨3,1,(O ++ [(iN : Int)]).map ii⟩] (by simp [go_sem]) ?_
   simp [go_sem]
theorem y8 : ∀ (l : List Int) (a : Nat),l.Pairwise (· < ·) → (∀ v ∈ l,(a : Int) ≤ v ∧ v < 5) → cntF FF l ≤ gS a
 | [],a,_,_ => Nat.zero_le _
 | x :: l,a,hp,hr => by
   rw [List.pairwise_cons] at hp
   have hx :=hr x (by simp)
   obtain ⟨xn,rfl⟩ : ∃ n : Nat,x = n :=⟨x.toNat,by omega⟩
   have ih :=y8 l (xn + 1) hp.2 fun v hv => by have :=hp.1 v hv; have :=hr v (by simp [hv]); omega
   have e : cntF FF ((xn : Int) :: l) = (FF.getD xn []).length + cntF FF l :=by unfold cntF; rw [List.map_cons,List.sum_cons,Int.toNat_natCast]
   rw [e]
   have h1 : (FF.getD xn []).length + gS (xn + 1) ≤ gS a :=by
    have hx5 : xn < 5 :=by omega
    have hax : a ≤ xn :=by omega
    revert hax
    revert a
    have : ∀ x < 5,∀ a,a ≤ x → (FF.getD x []).length + gS (x + 1) ≤ gS a :=by decide
    intro a _ _ h
    exact this xn hx5 a (by omega)
   omega
theorem tY (p w g : Int) (hp : 1 ≤ p ∧ p ≤ 1000) (hw : 0 ≤ w ∧ w ≤ 1000) (hg : 0 ≤ g ∧ g ≤ 1000) : WG (calL p w g) FF :=by
 have hi : ∀ i : Int,0 ≤ i → i < (calL p w g).length → i = 0 ∨ i = 1 ∨ i = 2 ∨ i = 3 ∨ i = 4 ∨ i = 5 ∨ i = 6 ∨ i = 7 ∨ i = 8 ∨ i = 9 :=fun i h0 h1 => by
  simp [calL] at h1; omega
 refine ⟨⟨rfl,by simp [calL],fun c hc => ?_,fun c hc => ?_,fun l hl i hi => ?_,fun l hl => ?_⟩,fun i h0 h1 => ?_,fun v h0 h1 i hiv => ?_,fun i h0 h1 => ?_⟩
 · simp [calL] at hc
   rcases hc with rfl | rfl | rfl | rfl | rfl | rfl | rfl | rfl | rfl | rfl <;> simp
 · simp [calL] at hc
   rcases hc with rfl | rfl | rfl | rfl | rfl | rfl | rfl | rfl | rfl | rfl <;> simp <;> omega
 · simp [FF] at hl
   have e : (calL p w g).length = 10 :=rfl
   rw [e]
   rcases hl with rfl | rfl | rfl | rfl | rfl <;> simp at hi <;> omega
 · have :=y8 l 0 hl.1 (fun v hv => hl.2 v hv)
   exact Nat.le_trans this (by decide)
 · rcases hi i h0 h1 with rfl | rfl | rfl | rfl | rfl | rfl | rfl | rfl | rfl | rfl <;> simp [cI,calL]
 · have e : (calL p w g).length = 10 :=rfl
   rw [e]
   have hv : v = 0 ∨ v = 1 ∨ v = 2 ∨ v = 3 ∨ v = 4 :=by omega
   rcases hv with rfl | rfl | rfl | rfl | rfl <;> simp [FF] at hiv <;> (try rcases hiv with rfl | rfl | rfl | rfl) <;> (try rcases hiv with rfl | rfl) <;> (try subst hiv) <;> simp [cI,calL]
 · rcases hi i h0 h1 with rfl | rfl | rfl | rfl | rfl | rfl | rfl | rfl | rfl | rfl <;> simp [cI,calL,FF]
theorem qF {C : List Cn} {F : List (List Int)} (hw : WG C F) : let R :=runM C F 6 [0,0,0,0,0] [-1,-1,-1,-1,-1] [0,1,2,3,4]
  (R.1 = -1 ∧ (∀ i : Int,0 ≤ i → i < C.length → Sat C R.2.1 i)) ∨
  (0 ≤ R.1 ∧ R.1 < 5 ∧ ∃ L' td,Why C (R.2.1,R.2.2,[]) L' 7 td ∧ 7 ≤ L' R.1 + 1) :=by
 refine qD hw 6 1 _ _ _ (fun _ => 0) (Nat.le_refl _) ⟨by decide,by decide⟩ (by decide) ⟨rfl,rfl,fun _ => by omega,fun x _ _ h => by simp at h,fun v _ => by omega,fun x h => by simp at h⟩ fun i h0 h1 => .inr (.inr (.inl ?_))
 have :=hw.b5 i h0 h1
 simp
 omega
def solvE (C : List Cn) (F : List (List Int)) : Int :=if (runM C F 6 [0,0,0,0,0] [-1,-1,-1,-1,-1] [0,1,2,3,4]).1 = -1 then 0 else 23
theorem AR {p w g : Int} (hp : 1 ≤ p ∧ p ≤ 1000) (hw : 0 ≤ w ∧ w ≤ 1000) (hg : 0 ≤ g ∧ g ≤ 1000) (h : solvE (calL p w g) FF = 0) : w ≤ p ∧ g ≤ p :=by
 have h0 :=qF (tY p w g hp hw hg)
 unfold solvE at h
 generalize runM (calL p w g) FF 6 [0,0,0,0,0] [-1,-1,-1,-1,-1] [0,1,2,3,4] = R at h h0
 simp only [] at h0
 rcases h0 with ⟨_,h0⟩ | ⟨h1,_⟩
 · have a1 :=h0 1 (by omega) (by simp [calL])
   have a2 :=h0 3 (by omega) (by simp [calL])
   have a3 :=h0 4 (by omega) (by simp [calL])
   have a4 :=h0 6 (by omega) (by simp [calL])
   have a5 :=h0 7 (by omega) (by simp [calL])
   have a6 :=h0 9 (by omega) (by simp [calL])
   have a0 :=h0 0 (by omega) (by simp [calL])
   have a7 :=h0 2 (by omega) (by simp [calL])
   have a8 :=h0 5 (by omega) (by simp [calL])
   have a9 :=h0 8 (by omega) (by simp [calL])
   simp only [Sat,cI,calL] at a0 a1 a2 a3 a4 a5 a6 a7 a8 a9
   simp at a0 a1 a2 a3 a4 a5 a6 a7 a8 a9
   omega
 · split at h <;> omega
set_option maxRecDepth 20000 in
theorem AS (C : List Cn) (F : List (List Int)) (hw : WG C F) (z y t : List Int) (hz : z = [0,0,0,0,0]) (hy : y = [-1,-1,-1,-1,-1]) (ht : t = [0,1,2,3,4])
  (c0 : Means true Tryz.prog 29 [.sl (C.map cn),ii 5] (bb true))
  (c2 : MeansH Tryz.prog 48 [] [.sl (C.map cn),ii 5,il t] (.el 0 5 0 0) [.row ⟨113,5,[.agg [.sl (C.map cn),.sl (F.map il),.ow 1,.ow 2,.ow 3]]⟩,rowI z,rowI y,.row ⟨4,1,[bb true,bb true,bb true,bb true,bb true]⟩]) :
  ∃ l1 l2 : List Int,Means false Tryz.prog 22 [.sl (C.map cn),ii 5] (.tup [il l1,il l2,ii (solvE C F)]) :=by
 have c1 :=AT 5 (by omega)
 have e5 : rngI 5 = t :=by rw [ht]; decide
 rw [e5] at c1
 have c1 : Means true Tryz.prog 49 [ii 5] (il t) :=c1
 have hC :=hw.toWF.C10
 have c3 :=DT C F hw.toWF z y t (by rw [hz]; rfl) (by rw [hy]; rfl) (by rw [hz]; simp) (by rw [ht]; exact ⟨by decide,by decide⟩) (by rw [ht]; decide)
 have hinv :=qF hw
 unfold solvE
 rw [← hz,← hy,← ht] at hinv ⊢
 generalize runM C F 6 z y t = R at c3 hinv ⊢
 obtain ⟨r,V,Y⟩ :=R
 simp only [] at c3 hinv ⊢
 rcases hinv with ⟨rfl,_⟩ | ⟨r0,r5,L',td,hW,hL⟩
 · refine ⟨V,[],?_⟩
   rw [if_pos rfl]
   refine aH false 47 [.tmp 4,.tmp 5,.tmp 6] Tryz.func22 rfl rfl rfl (by simp) (by decide) rfl fun X hX => ?_
   (repeat (refine aA q9x2 hX mixed rfl ?_; (simp [go_sem]; try (refine ⟨by kernel_rfl,?_⟩))))
   first | refine aP (c0) ?_ | refine aQ (c0) ?_
   try (simp [go_sem]; try (refine ⟨by kernel_rfl,?_⟩))
   refine aC (b :=false) (by simp [go_sem]) (fun hb => by cases hb) (fun _ => ?_)
   (repeat (refine aA q9x2 hX mixed rfl ?_; (simp [go_sem]; try (refine ⟨by kernel_rfl,?_⟩))))
   first | refine aP (c1) ?_ | refine aQ (c1) ?_
   try (simp [go_sem]; try (refine ⟨by kernel_rfl,?_⟩))
   first | refine aF [] (c2) (by simp [go_sem]) ?_ | refine aD [] (c2) (by simp [go_sem]) ?_ | refine aE [] (c2) (by simp [go_sem]) ?_
   try (simp [go_sem]; try (refine ⟨by kernel_rfl,?_⟩))
   (repeat (refine aA q9x2 hX mixed rfl ?_; (simp [go_sem]; try (refine ⟨by kernel_rfl,?_⟩))))
   first | refine aP (c1) ?_ | refine aQ (c1) ?_
   try (simp [go_sem]; try (refine ⟨by kernel_rfl,?_⟩))
   first | refine aF [0,1,2,3] (c3) (by simp [go_sem]) ?_ | refine aD [0,1,2,3] (c3) (by simp [go_sem]) ?_ | refine aE [0,1,2,3] (c3) (by simp [go_sem]) ?_
   try (simp [go_sem]; try (refine ⟨by kernel_rfl,?_⟩))
   (repeat (refine aA q9x2 hX mixed rfl ?_; (simp [go_sem]; try (refine ⟨by kernel_rfl,?_⟩))))
   refine aC (b :=true) (by simp [go_sem]) (fun _ => ?_) (fun hb => by cases hb)
   (repeat (refine aA q9x2 hX mixed rfl ?_; (simp [go_sem]; try (refine ⟨by kernel_rfl,?_⟩))))
 · have hly : Y.length = 5 :=hW.ly
   obtain ⟨ld,m,hm1,hm5,hmv,hml⟩ :=y7 hw hW ⟨r0,r5⟩ (by omega)
   have c4 :=CQ C F hC V Y hly (parN C Y 5 r) m hm1 hm5 hmv hml
   generalize revK (bkL C Y (parN C Y 5 r) m (parN C Y 5 r)) _ = B at c4
   refine ⟨[],B,?_⟩
   rw [if_neg (by omega)]
   refine aH false 47 [.tmp 4,.tmp 5,.tmp 6] Tryz.func22 rfl rfl rfl (by simp) (by decide) rfl fun X hX => ?_
   (repeat (refine aA q9x2 hX mixed rfl ?_; (simp [go_sem]; try (refine ⟨by kernel_rfl,?_⟩))))
   first | refine aP (c0) ?_ | refine aQ (c0) ?_
   try (simp [go_sem]; try (refine ⟨by kernel_rfl,?_⟩))
   refine aC (b :=false) (by simp [go_sem]) (fun hb => by cases hb) (fun _ => ?_)
   (repeat (refine aA q9x2 hX mixed rfl ?_; (simp [go_sem]; try (refine ⟨by kernel_rfl,?_⟩))))
   first | refine aP (c1) ?_ | refine aQ (c1) ?_
   try (simp [go_sem]; try (refine ⟨by kernel_rfl,?_⟩))
   first | refine aF [] (c2) (by simp [go_sem]) ?_ | refine aD [] (c2) (by simp [go_sem]) ?_ | refine aE [] (c2) (by simp [go_sem]) ?_
   try (simp [go_sem]; try (refine ⟨by kernel_rfl,?_⟩))
   (repeat (refine aA q9x2 hX mixed rfl ?_; (simp [go_sem]; try (refine ⟨by kernel_rfl,?_⟩))))
   first | refine aP (c1) ?_ | refine aQ (c1) ?_
   try (simp [go_sem]; try (refine ⟨by kernel_rfl,?_⟩))
   first | refine aF [0,1,2,3] (c3) (by simp [go_sem]) ?_ | refine aD [0,1,2,3] (c3) (by simp [go_sem]) ?_ | refine aE [0,1,2,3] (c3) (by simp [go_sem]) ?_
   try (simp [go_sem]; try (refine ⟨by kernel_rfl,?_⟩))
   (repeat (refine aA q9x2 hX mixed rfl ?_; (simp [go_sem]; try (refine ⟨by kernel_rfl,?_⟩))))
   refine aC (b :=false) (by simp [go_sem]; omega) (fun hb => by cases hb) (fun _ => ?_)
   (repeat (refine aA q9x2 hX mixed rfl ?_; (simp [go_sem]; try (refine ⟨by kernel_rfl,?_⟩))))
   refine aV (fun k : Nat => ⟨mkE [(0,.sl (C.map cn)),(7,.el 0 5 0 0),(8,ii (parN C Y k r)),(28,ii 5),(29,ii k)],[.row ⟨113,5,[.agg [.sl (C.map cn),.sl (F.map il),.ow 1,.ow 2,.ow 3]]⟩,rowI V,rowI Y,.row ⟨4,1,[bb true,bb true,bb true,bb true,bb true]⟩]⟩) (fun k => k ≤ 5) (fun k => 5 - k) 0 ?_ ?_ ?_
   · refine aM _ [.old 0 ⟨113,5,[.agg [.sl (C.map cn),.sl (F.map il),.ow 1,.ow 2,.ow 3]]⟩,.old 1 ⟨3,1,(V).map ii⟩,.old 2 ⟨3,1,(Y).map ii⟩,.old 3 ⟨4,1,[bb true,bb true,bb true,bb true,bb true]⟩] (by simp [go_sem]) ?_
     simp [go_sem,parN]
   · exact Nat.zero_le _
   intro k hk
   have wk :=w64 (x :=(k : Int) + 1) (by omega) (by omega)
   (repeat (refine aA q9x2 hX mixed rfl ?_; (simp [go_sem]; try (refine ⟨by kernel_rfl,?_⟩))))
   refine aC (b :=decide (k < 5)) (by simp [go_sem]; try omega) (fun hc => ?_) (fun hc => ?_)
   · simp only [decide_eq_true_eq] at hc
     obtain ⟨l1,l2,l3,l4,l5,l6⟩ :=ld k hk
     have hps : parN C Y (k + 1) r = par C Y (parN C Y k r) :=rfl
     generalize parN C Y k r = x at hps l1 l2 l3 l4 l5 l6 ⊢
     obtain ⟨xn,rfl⟩ : ∃ n : Nat,x = n :=⟨x.toNat,by omega⟩
     have hxn : xn < Y.length :=by omega
     have hvd : vD Y xn = Y[xn] :=by unfold vD; rw [Int.toNat_natCast,gD hxn]
     obtain ⟨iN,hiN⟩ : ∃ n : Nat,Y[xn] = n :=⟨Y[xn].toNat,by omega⟩
     rw [hvd,hiN] at l3 l4
     have hi : iN < C.length :=by omega
     obtain ⟨⟨ca,cb,cc⟩,hc0⟩ : ∃ c,C[iN] = c :=⟨_,rfl⟩
     have hpar : par C Y xn = cb :=by unfold par cI; rw [hvd,hiN,Int.toNat_natCast,cD hi,hc0]
     rw [hpar] at hps
     (repeat (refine aA q9x2 hX mixed rfl ?_; (simp [go_sem,hxn,hiN,hi,hc0,wk]; try (refine ⟨by kernel_rfl,?_⟩))))
     refine ⟨k + 1,by omega,by omega,?_⟩
     rw [hps]
     refine aM _ [.old 0 ⟨113,5,[.agg [.sl (C.map cn),.sl (F.map il),.ow 1,.ow 2,.ow 3]]⟩,.old 1 ⟨3,1,(V).map ii⟩,.old 2 ⟨3,1,(Y).map ii⟩,.old 3 ⟨4,1,[bb true,bb true,bb true,bb true,bb true]⟩] (by simp [go_sem]) ?_
     simp [go_sem]
   · simp only [decide_eq_false_iff_not] at hc
     have e : k = 5 :=by omega
     subst e
     (repeat (refine aA q9x2 hX mixed rfl ?_; (simp [go_sem]; try (refine ⟨by kernel_rfl,?_⟩))))
     first | refine aF [0,1,2,3] (c4) (by simp [go_sem]) ?_ | refine aD [0,1,2,3] (c4) (by simp [go_sem]) ?_ | refine aE [0,1,2,3] (c4) (by simp [go_sem]) ?_
     try (simp [go_sem]; try (refine ⟨by kernel_rfl,?_⟩))
     (repeat (refine aA q9x2 hX mixed rfl ?_; (simp [go_sem]; try (refine ⟨by kernel_rfl,?_⟩))))
set_option maxRecDepth 20000 in
theorem AU (p w g : Int) (hp : 1 ≤ p ∧ p ≤ 1000) (hw : 0 ≤ w ∧ w ≤ 1000) (hg : 0 ≤ g ∧ g ≤ 1000) :
  ∃ l1 l2 : List Int,Means false Tryz.prog 22 [.sl ((calL p w g).map cn),ii 5] (.tup [il l1,il l2,ii (solvE (calL p w g) FF)]) :=by
 refine AS (calL p w g) FF (tY p w g hp hw hg) _ _ _ rfl rfl rfl (qG _ 5 (by omega) (by simp [calL]) ?_) (qH (p - 1) (1 - p) (1 - w) (w - 1) 0 g (-g) p (-p) 0)
 intro c hc
 simp [calL] at hc
 rcases hc with rfl | rfl | rfl | rfl | rfl | rfl | rfl | rfl | rfl | rfl <;> simp [okC] <;> omega
end Go.Proofs.YtaolljbpencjnaaGreatDoor

namespace Go.Proofs.YtaolljbpencjnaaGreatDoor
open Go.RowKit Go.Ab
attribute [local irreducible] AWP Go.Ab.Sub Means MeansH CallK CallG CallT CallGT PanicH DefH CallU MeansS
def lightV (s : By) : Bool :=if 600 < s.length then false else if (parseT s).2.2 = 0 then fewL (parseT s).1.lets 1 else true
theorem AW (s : By) : Means true Tryz.prog 5 [ss s] (bb (lightV s)) :=by
 have c1 :=kI s
 have hok : (parseT s).2.2 = 0 → OkB (parseT s).1 :=gI
 have hv : lightV s = if 600 < s.length then false else if (parseT s).2.2 = 0 then fewL (parseT s).1.lets 1 else true :=rfl
 generalize lightV s = V at *
 generalize parseT s = R at *
 obtain ⟨b,p,e⟩ :=R
 simp only at *
 have hca : (600 : Int) < s.length ↔ 600 < s.length :=by omega
 refine aH true 22 [.tmp 2] Tryz.func5 rfl rfl rfl (by simp) (by decide) rfl fun X hX => ?_
 (repeat (refine aA q9x5 hX mixed rfl ?_; (simp [go_sem]; try (refine ⟨by kernel_rfl,?_⟩))))
 refine aC (b :=decide (600 < s.length)) (by simp [go_sem,hca]) (fun hd => ?_) (fun hd => ?_)
 · rw [if_pos (by simpa using hd)] at hv
   rw [hv]
   (repeat (refine aA q9x5 hX mixed rfl ?_; (simp [go_sem]; try (refine ⟨by kernel_rfl,?_⟩))))
 rw [if_neg (by simpa using hd)] at hv
 (repeat (refine aA q9x5 hX mixed rfl ?_; (simp [go_sem]; try (refine ⟨by kernel_rfl,?_⟩))))
 first | refine aP (c1) ?_ | refine aQ (c1) ?_
 try (simp [go_sem]; try (refine ⟨by kernel_rfl,?_⟩))
 by_cases he : e = 0
 · rw [if_pos he] at hv
   have c2 :=vT b.lets (hok he).lets
   (repeat (refine aA q9x5 hX mixed rfl ?_; (simp [go_sem,he]; try (refine ⟨by kernel_rfl,?_⟩))))
   first | refine aX (fun hg => c2) ?_ | refine aW (fun hg => c2) ?_
   try (simp [go_sem,he]; try (refine ⟨by kernel_rfl,?_⟩))
   rw [hv]
   (repeat (refine aA q9x5 hX mixed rfl ?_; (simp [go_sem]; try (refine ⟨by kernel_rfl,?_⟩))))
 · rw [if_neg he] at hv
   (repeat (refine aA q9x5 hX mixed rfl ?_; (simp [go_sem,he]; try (refine ⟨by kernel_rfl,?_⟩))))
   first | refine cJ rfl ?_ | refine bO rfl ?_
   try (simp [go_sem,he]; try (refine ⟨by kernel_rfl,?_⟩))
   rw [hv]
   (repeat (refine aA q9x5 hX mixed rfl ?_; (simp [go_sem]; try (refine ⟨by kernel_rfl,?_⟩))))
def rulesV (s : By) (n : Int) : Int :=
 if n < 1 ∨ 60 < n then 1 else if (parseT s).2.2 = 0 then (if (unitsU (parseT s).1).2 = 0 then (if solvE (calL (parseT s).1.period (parseT s).1.wait (parseT s).1.grace) FF = 0 then 0 else 23) else (unitsU (parseT s).1).2) else (parseT s).2.2
def mxN (k : Nat) : Int :=if k = 0 then 0 else if k ≤ 5 then 3 else if k ≤ 7 then 4 else 5
theorem CR (p w g : Int) {k : Nat} (h : k < 10) : ∃ a b n : Int,nth ((calL p w g).map cn) k = cn ⟨a,b,n⟩ ∧ (0 ≤ a ∧ a < 5) ∧ (0 ≤ b ∧ b < 5) ∧ max (max (mxN k) (a + 1)) (b + 1) = mxN (k + 1) :=by
 match k,h with
 | 0,_ => exact ⟨2,0,_,rfl,by decide,by decide,by decide⟩
 | 1,_ => exact ⟨0,2,_,rfl,by decide,by decide,by decide⟩
 | 2,_ => exact ⟨1,2,_,rfl,by decide,by decide,by decide⟩
 | 3,_ => exact ⟨2,1,_,rfl,by decide,by decide,by decide⟩
 | 4,_ => exact ⟨0,1,_,rfl,by decide,by decide,by decide⟩
 | 5,_ => exact ⟨3,2,_,rfl,by decide,by decide,by decide⟩
 | 6,_ => exact ⟨2,3,_,rfl,by decide,by decide,by decide⟩
 | 7,_ => exact ⟨4,2,_,rfl,by decide,by decide,by decide⟩
 | 8,_ => exact ⟨2,4,_,rfl,by decide,by decide,by decide⟩
 | 9,_ => exact ⟨3,4,_,rfl,by decide,by decide,by decide⟩
set_option maxHeartbeats 4000000 in
set_option maxRecDepth 20000 in
theorem qI (s : By) (n : Int) : Means true Tryz.prog 6 [ss s,ii n] (ii (rulesV s n)) :=by
 have c1 :=kI s
 have hok : (parseT s).2.2 = 0 → OkB (parseT s).1 :=gI
 have hv : rulesV s n = if n < 1 ∨ 60 < n then 1 else if (parseT s).2.2 = 0 then (if (unitsU (parseT s).1).2 = 0 then (if solvE (calL (parseT s).1.period (parseT s).1.wait (parseT s).1.grace) FF = 0 then 0 else 23) else (unitsU (parseT s).1).2) else (parseT s).2.2 :=rfl
 generalize rulesV s n = V at *
 generalize parseT s = R at *
 obtain ⟨b,p,e⟩ :=R
 simp only at *
 refine aH true 66 [.tmp 4] Tryz.func6 rfl rfl rfl (by simp) (by decide) rfl fun X hX => ?_
 (repeat (refine aA q9x1 hX mixed rfl ?_; (simp [go_sem]; try (refine ⟨by kernel_rfl,?_⟩))))
 refine aC (b :=decide (n < 1) || decide (60 < n)) (by simp [go_sem]) (fun hd => ?_) (fun hd => ?_)
 · rw [if_pos (by simpa using hd)] at hv
   rw [hv]
   (repeat (refine aA q9x1 hX mixed rfl ?_; (simp [go_sem]; try (refine ⟨by kernel_rfl,?_⟩))))
 have hd : ¬ (n < 1 ∨ 60 < n) :=by simpa using hd
 rw [if_neg hd] at hv
 (repeat (refine aA q9x1 hX mixed rfl ?_; (simp [go_sem]; try (refine ⟨by kernel_rfl,?_⟩))))
 first | refine aP (c1) ?_ | refine aQ (c1) ?_
 try (simp [go_sem]; try (refine ⟨by kernel_rfl,?_⟩))
 by_cases he : e = 0
 · rw [if_pos he] at hv
   have hb :=hok he
   have c2 :=y9 b hb
   have c3 :=lF b hb
   obtain ⟨r1,r2,c4⟩ :=AU b.period b.wait b.grace hb.period hb.wait hb.grace
   have hlen : (calL b.period b.wait b.grace).length = 10 :=rfl
   have hmx :=fun k h => CR b.period b.wait b.grace (k :=k) h
   generalize calL b.period b.wait b.grace = C at *
   generalize unitsU b = U at *
   (repeat (refine aA q9x1 hX mixed rfl ?_; (simp [go_sem,he]; try (refine ⟨by kernel_rfl,?_⟩))))
   refine aG (by simp [go_sem,he]) ?_
   (repeat (refine aA q9x1 hX mixed rfl ?_; (simp [go_sem]; try (refine ⟨by kernel_rfl,?_⟩))))
   first | refine aP (c2) ?_ | refine aQ (c2) ?_
   try (simp [go_sem]; try (refine ⟨by kernel_rfl,?_⟩))
   (repeat (refine aA q9x1 hX mixed rfl ?_; (simp [go_sem]; try (refine ⟨by kernel_rfl,?_⟩))))
   by_cases hu : U.2 = 0
   · rw [if_pos hu] at hv
     refine aG (by simp [go_sem,hu]) ?_
     (repeat (refine aA q9x1 hX mixed rfl ?_; (simp [go_sem]; try (refine ⟨by kernel_rfl,?_⟩))))
     first | refine aP (c3) ?_ | refine aQ (c3) ?_
     try (simp [go_sem]; try (refine ⟨by kernel_rfl,?_⟩))
     (repeat (refine aA q9x1 hX mixed rfl ?_; (simp [go_sem]; try (refine ⟨by kernel_rfl,?_⟩))))
     refine aV (fun k : Nat => ⟨mkE [(10,.sl (C.map cn)),(11,ii (mxN k)),(42,.sl (C.map cn)),(43,ii 10),(44,ii k)],[]⟩) (fun k => k ≤ 10) (fun k => 10 - k) 0 ?_ ?_ ?_
     · refine aM _ [] (by simp [go_sem,hlen]) ?_
       simp [go_sem,hlen,mxN]
     · exact Nat.zero_le _
     · rintro k hk
       (repeat (refine aA q9x1 hX mixed rfl ?_; (simp [go_sem]; try (refine ⟨by kernel_rfl,?_⟩))))
       refine aC (b :=decide (k < 10)) (by simp [go_sem]; omega) (fun hc => ?_) (fun hc => ?_)
       · simp at hc
         obtain ⟨ca,cb,cc,q1,q2,q3,q4⟩ :=hmx k hc
         have hc2 : k < C.length :=by omega
         have wk :=w64 (x :=(k : Int) + 1) (by omega) (by omega)
         have w1 :=w64 (x :=ca + 1) (by omega) (by omega)
         have w2 :=w64 (x :=cb + 1) (by omega) (by omega)
         have q5 : max (mxN k) (max ca cb + 1) = mxN (k + 1) :=by omega
         (repeat (refine aA q9x1 hX mixed rfl ?_; (simp [go_sem,hc2,q1,w1,w2,wk]; try (refine ⟨by kernel_rfl,?_⟩))))
         refine ⟨k + 1,by omega,by omega,?_⟩
         rw [← q5]
         refine aM _ [] (by simp [go_sem]) ?_
         simp [go_sem]
       · have hk : k = 10 :=by simp at hc; omega
         subst hk
         (repeat (refine aA q9x1 hX mixed rfl ?_; (simp [go_sem,mxN]; try (refine ⟨by kernel_rfl,?_⟩))))
         first | refine aP (c4) ?_ | refine aQ (c4) ?_
         try (simp [go_sem]; try (refine ⟨by kernel_rfl,?_⟩))
         (repeat (refine aA q9x1 hX mixed rfl ?_; (simp [go_sem]; try (refine ⟨by kernel_rfl,?_⟩))))
         by_cases hs : solvE C FF = 0
         · rw [if_pos hs] at hv
           refine aG (by simp [go_sem,hs]) ?_
           rw [hv]
           (repeat (refine aA q9x1 hX mixed rfl ?_; (simp [go_sem]; try (refine ⟨by kernel_rfl,?_⟩))))
         · rw [if_neg hs] at hv
           refine aI (by simp [go_sem,hs]) ?_
           rw [hv]
           (repeat (refine aA q9x1 hX mixed rfl ?_; (simp [go_sem]; try (refine ⟨by kernel_rfl,?_⟩))))
   · rw [if_neg hu] at hv
     refine aI (by simp [go_sem,hu]) ?_
     rw [hv]
     (repeat (refine aA q9x1 hX mixed rfl ?_; (simp [go_sem]; try (refine ⟨by kernel_rfl,?_⟩))))
 · rw [if_neg he] at hv
   (repeat (refine aA q9x1 hX mixed rfl ?_; (simp [go_sem,he]; try (refine ⟨by kernel_rfl,?_⟩))))
   refine aI (by simp [go_sem,he]) ?_
   rw [hv]
   (repeat (refine aA q9x1 hX mixed rfl ?_; (simp [go_sem]; try (refine ⟨by kernel_rfl,?_⟩))))
end Go.Proofs.YtaolljbpencjnaaGreatDoor

namespace Go.Proofs.YtaolljbpencjnaaGreatDoor
open Go.RowKit Go.Ab
attribute [local irreducible] AWP Go.Ab.Sub Means MeansH CallK CallG CallT CallGT PanicH DefH CallU
def small (n : Int) : Option Int :=if 0 ≤ n ∧ n ≤ 1000000 then some n else none
def evD (G : List (By × Int)) : E → Option Int
 | .num n _ => small n
 | .nam s => (G.lookup s).bind small
 | .bin o a b => match evD G a,evD G b with
   | some x,some y => if o = 4 then (if shareOf [] a = false ∧ shareOf [] b = false then small (x * y) else none) else if o = 5 then (if 0 < y then small (x / y) else none) else none
   | _,_ => none
 | _ => none
theorem d8 {n v : Int} (h : small n = some v) : v = n ∧ 0 ≤ n ∧ n ≤ 1000000 :=by
 unfold small at h
 split at h
 · simp only [Option.some.injEq] at h
   exact ⟨h.symm,by assumption⟩
 · cases h
theorem s9 {G : List (By × Int)} {e : E} {v : Int} (h : evD G e = some v) : 0 ≤ v ∧ v ≤ 1000000 :=by
 cases e with
 | num n u => obtain ⟨rfl,hq⟩ :=d8 h; exact hq
 | nam s =>
   obtain ⟨x,_,h⟩ :=Option.bind_eq_some_iff.1 h
   obtain ⟨rfl,hq⟩ :=d8 h; exact hq
 | un a => cases h
 | ite a b c => cases h
 | bin o a b =>
   simp only [evD] at h
   split at h
   · split at h
     · split at h
       · obtain ⟨rfl,hq⟩ :=d8 h; exact hq
       · cases h
     · split at h
       · split at h
         · obtain ⟨rfl,hq⟩ :=d8 h; exact hq
         · cases h
       · cases h
   · cases h
set_option maxRecDepth 20000 in
theorem oT (n : Int) (h : 0 ≤ n ∧ n ≤ 1000000) : Means true Tryz.prog 181 [ii n] (ii n) :=by
 have h1 : ¬ 1099511627776 < n :=by omega
 have h2 : ¬ n < -1099511627776 :=by omega
 refine aH true 12 [.tmp 2] Tryz.func181 rfl rfl rfl (by simp) (by decide) rfl fun X hX => ?_
 (repeat (refine aA [0,2,8] hX mixed rfl ?_; (simp [go_sem,h1,h2]; try (refine ⟨by kernel_rfl,?_⟩)))); (repeat (first | (refine aI ?_ ?_; (focus (simp [go_sem,h1,h2]; done)); (repeat (refine aA [0,2,8] hX mixed rfl ?_; (simp [go_sem,h1,h2]; try (refine ⟨by kernel_rfl,?_⟩))))) | (refine aG ?_ ?_; (focus (simp [go_sem,h1,h2]; done)); (repeat (refine aA [0,2,8] hX mixed rfl ?_; (simp [go_sem,h1,h2]; try (refine ⟨by kernel_rfl,?_⟩)))))))
set_option maxRecDepth 20000 in
theorem tZ (a b : Int) (ha : 0 ≤ a ∧ a ≤ 1000000000000) (hb : 0 < b) : Means true Tryz.prog 189 [ii a,ii b] (ii (a / b)) :=by
 have n1 : ¬ b = 0 :=by omega
 have n2 : ¬ a < 0 :=by omega
 have n3 : ¬ b < 0 :=by omega
 have hq :=td (a :=a) (b :=b) (by omega)
 have hdv : 0 ≤ a / b ∧ a / b ≤ a :=⟨Int.ediv_nonneg (by omega) (by omega),Int.ediv_le_self _ (by omega)⟩
 have w2 :=w64 (x :=a / b) (by omega) (by omega)
 refine aH true 24 [.tmp 4] Tryz.func189 rfl rfl rfl (by simp) (by decide) rfl fun X hX => ?_
 (repeat (refine aA [0,1,4,5,20] hX mixed rfl ?_; (simp [go_sem,n1,n2,n3,hq,w2]; try (refine ⟨by kernel_rfl,?_⟩)))); (repeat (first | (refine aI ?_ ?_; (focus (simp [go_sem,n1,n2,n3,hq,w2]; done)); (repeat (refine aA [0,1,4,5,20] hX mixed rfl ?_; (simp [go_sem,n1,n2,n3,hq,w2]; try (refine ⟨by kernel_rfl,?_⟩))))) | (refine aG ?_ ?_; (focus (simp [go_sem,n1,n2,n3,hq,w2]; done)); (repeat (refine aA [0,1,4,5,20] hX mixed rfl ?_; (simp [go_sem,n1,n2,n3,hq,w2]; try (refine ⟨by kernel_rfl,?_⟩)))))))
set_option maxRecDepth 20000 in
theorem vU (a b : Int) (ha : 0 ≤ a ∧ a ≤ 1000000) (hb : 0 ≤ b ∧ b ≤ 1000000) (hab : a * b ≤ 1000000) : Means true Tryz.prog 188 [ii a,ii b,ii 1] (ii (a * b)) :=by
 have hp : 0 ≤ a * b :=Int.mul_nonneg ha.1 hb.1
 have w1 :=w64 (x :=a * b) (by omega) (by omega)
 have c1 :=tZ (a * b) 1 (by omega) (by decide)
 rw [Int.ediv_one] at c1
 have c2 :=oT (a * b) (by omega)
 have w0 : IntKind.i64.wrap 1099511627777 = 1099511627777 :=by decide
 have w3 : IntKind.i64.wrap (-1099511627777) = -1099511627777 :=by decide
 have w4 :=w64 (x :=-a) (by omega) (by omega)
 by_cases h0 : a = 0
 · subst h0
   rw [Int.zero_mul] at c1 c2 ⊢
   have w1 : IntKind.i64.wrap 0 = 0 :=by decide
   refine aH true 41 [.tmp 6] Tryz.func188 rfl rfl rfl (by simp) (by decide) rfl fun X hX => ?_
   (repeat (refine aA q9x4 hX mixed rfl ?_; (simp [go_sem,w0,w1]; try (refine ⟨by kernel_rfl,?_⟩)))); (repeat (first | (refine aI ?_ ?_; (focus (simp [go_sem,w0,w1]; done)); (repeat (refine aA q9x4 hX mixed rfl ?_; (simp [go_sem,w0,w1]; try (refine ⟨by kernel_rfl,?_⟩))))) | (refine aG ?_ ?_; (focus (simp [go_sem,w0,w1]; done)); (repeat (refine aA q9x4 hX mixed rfl ?_; (simp [go_sem,w0,w1]; try (refine ⟨by kernel_rfl,?_⟩)))))))
   first | refine aP (c1) ?_ | refine aQ (c1) ?_
   try (simp [go_sem]; try (refine ⟨by kernel_rfl,?_⟩))
   first | refine aP (c2) ?_ | refine aQ (c2) ?_
   try (simp [go_sem]; try (refine ⟨by kernel_rfl,?_⟩))
   (repeat (refine aA q9x4 hX mixed rfl ?_; (simp [go_sem]; try (refine ⟨by kernel_rfl,?_⟩))))
 · have hm : max a (-a) = a :=by omega
   have hq :=td (a :=1099511627777) (b :=a) (by omega)
   have hq2 : Int.tdiv (-1099511627777) a = -(1099511627777 / a) :=by rw [Int.neg_tdiv,hq]
   have hge : 1000000 ≤ 1099511627777 / a :=by
    rw [Int.le_ediv_iff_mul_le (by omega)]
    omega
   have hle : 1099511627777 / a ≤ 1099511627777 :=Int.ediv_le_self _ (by omega)
   generalize 1099511627777 / a = q at *
   have n1 : ¬ q < b :=by omega
   have n2 : ¬ b < -q :=by omega
   have w5 :=w64 (x :=q) (by omega) (by omega)
   have w6 :=w64 (x :=-q) (by omega) (by omega)
   refine aH true 41 [.tmp 6] Tryz.func188 rfl rfl rfl (by simp) (by decide) rfl fun X hX => ?_
   (repeat (refine aA q9x4 hX mixed rfl ?_; (simp [go_sem,w0,w1,w3,w4,h0,hm,hq,hq2,n1,n2,w5,w6]; try (refine ⟨by kernel_rfl,?_⟩)))); (repeat (first | (refine aI ?_ ?_; (focus (simp [go_sem,w0,w1,w3,w4,h0,hm,hq,hq2,n1,n2,w5,w6]; done)); (repeat (refine aA q9x4 hX mixed rfl ?_; (simp [go_sem,w0,w1,w3,w4,h0,hm,hq,hq2,n1,n2,w5,w6]; try (refine ⟨by kernel_rfl,?_⟩))))) | (refine aG ?_ ?_; (focus (simp [go_sem,w0,w1,w3,w4,h0,hm,hq,hq2,n1,n2,w5,w6]; done)); (repeat (refine aA q9x4 hX mixed rfl ?_; (simp [go_sem,w0,w1,w3,w4,h0,hm,hq,hq2,n1,n2,w5,w6]; try (refine ⟨by kernel_rfl,?_⟩)))))))
   first | refine aP (c1) ?_ | refine aQ (c1) ?_
   try (simp [go_sem]; try (refine ⟨by kernel_rfl,?_⟩))
   first | refine aP (c2) ?_ | refine aQ (c2) ?_
   try (simp [go_sem]; try (refine ⟨by kernel_rfl,?_⟩))
   (repeat (refine aA q9x4 hX mixed rfl ?_; (simp [go_sem]; try (refine ⟨by kernel_rfl,?_⟩))))
end Go.Proofs.YtaolljbpencjnaaGreatDoor

