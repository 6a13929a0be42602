/-
  Lemmas for the statement at the top.
-/
import Derived.Test.YtaolljbpencjnaaGreatDoorTP6
set_option linter.all false
namespace Go.Ab
def q14x0 : List Nat :=[0,2,3,4,5,6,7,10,26,30,34,42,68,1000000]
def q14x1 : List Nat :=[0,1,4,5,6,7,13,35,1000000]
def q14x2 : List Nat :=[0,2,3,4,8,14,1000000]
def q14x3 : List Nat :=[0,1,4,5,7,8,9,16,1000000,1000001]
def q14x4 : List Nat :=[0,1,2,3,4,10,11,15,1000000,1000001]
def q14x5 : List Nat :=[0,1,4,5,7,8,9,16,1000000]
def q14x6 : List Nat :=[0,1,5,6,7,8,9,1000000,1000001]
def q14x7 : List Nat :=[0,2,3,6,9,1000000]
def q14x8 : List Nat :=[0,1,4,5,7,8,9,16]
def q14x9 : List Nat :=[0,2,3,6,1000000]
def q14x10 : List Nat :=[0,1,2,3,5,7,8,9,10]
attribute [go_sem] q14x0 q14x1 q14x2 q14x3 q14x4 q14x5 q14x6 q14x7 q14x8 q14x9 q14x10
end Go.Ab
namespace Go.Proofs.YtaolljbpencjnaaGreatDoor
open Go.RowKit Go.Ab
attribute [local irreducible] AWP Go.Ab.Sub Means MeansH CallK CallG CallT CallGT PanicH
theorem gL {ts : List Tk} (hn : OkT ts) {i : Nat} (hi : i < ts.length) : MeansH Tryz.prog 58 [pst ts i] [pp] (tk (nx ts i)) [pst ts i] :=by
 have hq :=CT hi
 have hl :=hn.len
 have hi2 : (i : Int) < ts.length :=by omega
 refine aS 1 13 [.cell 2 129] Tryz.func58 rfl rfl rfl (by simp) (by decide) rfl fun X hX => ?_
 (repeat (refine aB [0,2,1000000] hX mixed rfl ?_; (simp [go_sem,hq,hi,hi2]; try (refine ⟨by kernel_rfl,?_⟩))))
 refine aK ?_; (try simp only [thenQ,blkQ,loopQ]); refine aJ [(1000000,.ow 0)] [.old 0 ⟨119,2,[.agg [.sl (ts.map tk),ii i]]⟩] ?_
 simp [go_sem]
theorem qM {ts : List Tk} (hn : OkT ts) {i : Nat} (hi : i < ts.length) (s : By) : MeansH Tryz.prog 55 [pst ts i] [pp,ss s] (bb (isT ts s i)) [pst ts i] :=by
 have c :=gL hn hi
 refine aS 1 16 [.tmp 4] Tryz.func55 rfl rfl rfl (by simp) (by decide) rfl fun X hX => ?_
 (repeat (refine aB [0,1,4,1000000] hX mixed rfl ?_; (simp [go_sem]; try (refine ⟨by kernel_rfl,?_⟩))))
 first | refine aF [0] (c) (by simp [go_sem]) ?_ | refine aD [0] (c) (by simp [go_sem]) ?_ | refine aE [0] (c) (by simp [go_sem]) ?_
 try (simp [go_sem]; try (refine ⟨by kernel_rfl,?_⟩))
 first | refine bA [0] (fun hg => c) (by simp [go_sem]) (by simp [go_sem]) ?_ | refine bD [0] (by simp [go_sem]) (c) (by simp [go_sem]) ?_ | refine bC [0] (fun hg => c) (by simp [go_sem]) ?_
 try (simp [go_sem]; try (refine ⟨by kernel_rfl,?_⟩))
 (repeat (refine aB [0,1,4,1000000] hX mixed rfl ?_; (simp [go_sem]; try (refine ⟨by kernel_rfl,?_⟩))))
 refine aK ?_; (try simp only [thenQ,blkQ,loopQ]); refine aJ [(4,bb (isT ts s i)),(1000000,.ow 0)] [.old 0 ⟨119,2,[.agg [.sl (ts.map tk),ii i]]⟩] ?_
 simp [go_sem,isT]
theorem dY {ts : List Tk} (hn : OkT ts) {i : Nat} (hi : i < ts.length) (s : By) : MeansH Tryz.prog 96 [pst ts i] [pp,ss s] (bb (isT ts s i)) [pst ts (hasT ts s i)] :=by
 have c :=qM hn hi s
 have hl :=hn.len
 have wk :=w64 (x :=(i : Int) + 1) (by omega) (by omega)
 refine aS 1 16 [.tmp 4] Tryz.func96 rfl rfl rfl (by simp) (by decide) rfl fun X hX => ?_
 (repeat (refine aB [0,1,4,8,1000000] hX mixed rfl ?_; (simp [go_sem]; try (refine ⟨by kernel_rfl,?_⟩))))
 first | refine aF [0] (c) (by simp [go_sem]) ?_ | refine aD [0] (c) (by simp [go_sem]) ?_ | refine aE [0] (c) (by simp [go_sem]) ?_
 try (simp [go_sem]; try (refine ⟨by kernel_rfl,?_⟩))
 cases hs : isT ts s i with
 | false =>
   refine aC (b :=true) (by simp [go_sem,hs]) (fun hb => ?_) (fun hb => by cases hb)
   (repeat (refine aB [0,1,4,8,1000000] hX mixed rfl ?_; (simp [go_sem]; try (refine ⟨by kernel_rfl,?_⟩))))
   refine aK ?_; (try simp only [thenQ,blkQ,loopQ]); refine aJ [(4,bb false),(1000000,.ow 0)] [.old 0 ⟨119,2,[.agg [.sl (ts.map tk),ii i]]⟩] ?_
   simp [go_sem,hasT,hs]
 | true =>
   refine aC (b :=false) (by simp [go_sem,hs]) (fun hb => by cases hb) (fun hb => ?_)
   (repeat (refine aB [0,1,4,8,1000000] hX mixed rfl ?_; (simp [go_sem,wk]; try (refine ⟨by kernel_rfl,?_⟩))))
   refine aK ?_; (try simp only [thenQ,blkQ,loopQ]); refine aJ [(4,bb true),(1000000,.ow 0)] [.old 0 ⟨119,2,[.agg [.sl (ts.map tk),ii (i + 1)]]⟩] ?_
   simp [go_sem,hasT,hs]
theorem eM {ts : List Tk} (hn : OkT ts) {i : Nat} (hi : i < ts.length) (e : Int) : MeansH Tryz.prog 54 [pst ts i] [pp,bb true,ii e] (.tup []) [pst ts i] :=by
 refine aS 1 14 [] Tryz.func54 rfl rfl rfl (by simp) (by decide) rfl fun X hX => ?_
 (repeat (refine aB [0,1,2,7,1000000] hX mixed rfl ?_; (simp [go_sem]; try (refine ⟨by kernel_rfl,?_⟩))))
 refine aC (b :=false) (by simp [go_sem]) (fun hb => by cases hb) (fun hb => ?_)
 (repeat (refine aB [0,1,2,7,1000000] hX mixed rfl ?_; (simp [go_sem]; try (refine ⟨by kernel_rfl,?_⟩))))
 (try refine aK ?_); (try simp only [thenQ,blkQ,loopQ]); refine cM [(1000000,.ow 0)] [.old 0 ⟨119,2,[.agg [.sl (ts.map tk),ii i]]⟩] ?_
 simp [go_sem]
theorem eN {ts : List Tk} (hn : OkT ts) {i : Nat} (hi : i < ts.length) (e : Int) : PanicH Tryz.prog 54 [pst ts i] [pp,bb false,ii e] (stopV (nx ts i).pos e) :=by
 have c :=gL hn hi
 refine uU 1 14 Tryz.func54 rfl rfl (by simp) (by decide) rfl fun X hX => ?_
 (repeat (refine aB [0,1,2,7,1000000] hX mixed rfl ?_; (simp [go_sem]; try (refine ⟨by kernel_rfl,?_⟩))))
 refine aC (b :=true) (by simp [go_sem]) (fun hb => ?_) (fun hb => by cases hb)
 (repeat (refine aB [0,1,2,7,1000000] hX mixed rfl ?_; (simp [go_sem]; try (refine ⟨by kernel_rfl,?_⟩))))
 first | refine aF [0] (c) (by simp [go_sem]) ?_ | refine aD [0] (c) (by simp [go_sem]) ?_ | refine aE [0] (c) (by simp [go_sem]) ?_
 try (simp [go_sem]; try (refine ⟨by kernel_rfl,?_⟩))
theorem fJ {ts : List Tk} (hn : OkT ts) {i : Nat} (hi : i < ts.length) (e : Int) {b : Bool} (hb : b = true) : MeansH Tryz.prog 54 [pst ts i] [pp,bb b,ii e] (.tup []) [pst ts i] :=by subst hb; exact eM hn hi e
theorem fK {ts : List Tk} (hn : OkT ts) {i : Nat} (hi : i < ts.length) (e : Int) {b : Bool} (hb : b = false) : PanicH Tryz.prog 54 [pst ts i] [pp,bb b,ii e] (stopV (nx ts i).pos e) :=by subst hb; exact eN hn hi e
end Go.Proofs.YtaolljbpencjnaaGreatDoor

namespace Go.Proofs.YtaolljbpencjnaaGreatDoor
open Go.RowKit Go.Ab
attribute [local irreducible] AWP Go.Ab.Sub Means MeansH CallK CallG CallT CallGT PanicH
theorem sC {ts : List Tk} {l : List By} {n j : Nat} (h : n < l.length) : wantT ts (l.drop n) j = if isT ts l[n] j then wantT ts (l.drop (n + 1)) (j + 1) else .no (nx ts j).pos 12 :=by
 rw [List.drop_eq_getElem_cons h]; rfl
set_option maxHeartbeats 4000000 in
theorem cW {ts : List Tk} (hn : OkT ts) {i : Nat} (hi : i < ts.length) (l : List By) (hl : l.length ≤ 100) :
  OutH Tryz.prog 62 [pst ts i,.row ⟨9,1,l.map ss⟩] [pp,.ow 1] (outP (wantT ts l i) (fun _ => .tup []) ts [.row ⟨9,1,l.map ss⟩]) :=by
 have hlen :=hn.len
 refine cR 2 18 [] Tryz.func62 rfl rfl rfl (by simp) (by decide) rfl fun X hX => ?_
 (repeat (refine aB q14x6 hX mixed rfl ?_; (simp [go_sem]; try (refine ⟨by kernel_rfl,?_⟩))))
 refine aV (fun n : Nat => ⟨mkE [(0,pp),(6,.ow 1),(7,ii l.length),(8,ii n),(1000000,.ow 0),(1000001,.ow 1)],[pst ts (i + n),.row ⟨9,1,l.map ss⟩]⟩) (fun n => n ≤ l.length ∧ i + n < ts.length ∧ wantT ts l i = wantT ts (l.drop n) (i + n)) (fun n => l.length - n) 0 ?_ ?_ ?_
 · refine aM _ [.old 0 ⟨119,2,[.agg [.sl (ts.map tk),ii (i)]]⟩,.old 1 ⟨9,1,l.map ss⟩] (by simp [go_sem]) ?_
   simp [go_sem]
 · exact ⟨Nat.zero_le _,hi,by simp⟩
 · rintro n ⟨h1,h2,h3⟩
   (repeat (refine aB q14x6 hX mixed rfl ?_; (simp [go_sem]; try (refine ⟨by kernel_rfl,?_⟩))))
   refine aC (b :=decide (n < l.length)) (by simp [go_sem]) (fun hc => ?_) (fun hc => ?_)
   · simp at hc
     have hq : nth (l.map ss) n = ss l[n] :=sD hc
     have hd :=sC (ts :=ts) (j :=i + n) hc
     have wk :=w64 (x :=(n : Int) + 1) (by omega) (by omega)
     have c1 :=dY hn h2 l[n]
     (repeat (refine aB q14x6 hX mixed rfl ?_; (simp [go_sem,hc,hq]; try (refine ⟨by kernel_rfl,?_⟩))))
     first | refine aF [0] (c1) (by simp [go_sem]) ?_ | refine aD [0] (c1) (by simp [go_sem]) ?_ | refine aE [0] (c1) (by simp [go_sem]) ?_
     try (simp [go_sem]; try (refine ⟨by kernel_rfl,?_⟩))
     cases hs : isT ts l[n] (i + n) with
     | true =>
       have eh : hasT ts l[n] (i + n) = i + n + 1 :=by simp [hasT,hs]
       rw [eh]
       have h4 :=hn.has h2 hs
       have c2 :=eM hn h4 12
       first | refine aF [0] (c2) (by simp [go_sem]) ?_ | refine aD [0] (c2) (by simp [go_sem]) ?_ | refine aE [0] (c2) (by simp [go_sem]) ?_
       try (simp [go_sem]; try (refine ⟨by kernel_rfl,?_⟩))
       (repeat (refine aB q14x6 hX mixed rfl ?_; (simp [go_sem,wk]; try (refine ⟨by kernel_rfl,?_⟩))))
       refine ⟨n + 1,⟨by omega,by omega,?_⟩,by omega,?_⟩
       · rw [h3,hd,if_pos hs]; rfl
       · refine aM _ [.old 0 ⟨119,2,[.agg [.sl (ts.map tk),ii ((i + (n + 1) : Nat))]]⟩,.old 1 ⟨9,1,l.map ss⟩] (by simp [go_sem,Int.add_assoc]) ?_
         simp [go_sem]
         try omega
     | false =>
       have eh : hasT ts l[n] (i + n) = i + n :=by simp [hasT,hs]
       rw [eh]
       have c2 :=eN hn h2 12
       first | refine aO [0] (c2) (by simp [go_sem]) ?_ | refine aL [0] (c2) (by simp [go_sem]) ?_
       rw [h3,hd,hs]
       simp [go_sem]
   · simp at hc
     have e : n = l.length :=by omega
     have e2 : wantT ts l i = .ok () (i + n) :=by rw [h3,e,List.drop_length]; rfl
     rw [e2,bB]
     (repeat (refine aB q14x6 hX mixed rfl ?_; (simp [go_sem]; try (refine ⟨by kernel_rfl,?_⟩))))
     (try refine aK ?_); (try simp only [thenQ,blkQ,loopQ]); refine cM [(1000000,.ow 0),(1000001,.ow 1)] [.old 0 ⟨119,2,[.agg [.sl (ts.map tk),ii (i + n)]]⟩,.old 1 ⟨9,1,l.map ss⟩] ?_
     simp [go_sem]
set_option maxHeartbeats 4000000 in
theorem yF {ts : List Tk} (hn : OkT ts) {i : Nat} (hi : i < ts.length) (a b : Int) :
  OutH Tryz.prog 97 [pst ts i] [pp,ii a,ii b] (outP (numberT ts a b i) ii ts []) :=by
 have hlen :=hn.len
 have c1 :=gL hn hi
 have wk :=w64 (x :=(i : Int) + 1) (by omega) (by omega)
 refine cR 1 36 [.tmp 6] Tryz.func97 rfl rfl rfl (by simp) (by decide) rfl fun X hX => ?_
 (repeat (refine aB [0,1,2,6,7,1000000] hX mixed rfl ?_; (simp [go_sem]; try (refine ⟨by kernel_rfl,?_⟩))))
 first | refine aF [0] (c1) (by simp [go_sem]) ?_ | refine aD [0] (c1) (by simp [go_sem]) ?_ | refine aE [0] (c1) (by simp [go_sem]) ?_
 try (simp [go_sem]; try (refine ⟨by kernel_rfl,?_⟩))
 (repeat (refine aB [0,1,2,6,7,1000000] hX mixed rfl ?_; (simp [go_sem]; try (refine ⟨by kernel_rfl,?_⟩))))
 by_cases hk : (nx ts i).kind = 2
 · have c2 :=fJ hn hi 12 (b :=decide ((nx ts i).kind = 2)) (by simp [hk])
   first | refine aF [0] (c2) (by simp [go_sem]) ?_ | refine aD [0] (c2) (by simp [go_sem]) ?_ | refine aE [0] (c2) (by simp [go_sem]) ?_
   try (simp [go_sem]; try (refine ⟨by kernel_rfl,?_⟩))
   (repeat (refine aB [0,1,2,6,7,1000000] hX mixed rfl ?_; (simp [go_sem]; try (refine ⟨by kernel_rfl,?_⟩))))
   by_cases hr : a ≤ (nx ts i).n ∧ (nx ts i).n ≤ b
   · have c3 :=fJ hn hi 3 (b :=decide (a ≤ (nx ts i).n) && decide ((nx ts i).n ≤ b)) (by simp [hr])
     first | refine aF [0] (c3) (by simp [go_sem]) ?_ | refine aD [0] (c3) (by simp [go_sem]) ?_ | refine aE [0] (c3) (by simp [go_sem]) ?_
     try (simp [go_sem]; try (refine ⟨by kernel_rfl,?_⟩))
     (repeat (refine aB [0,1,2,6,7,1000000] hX mixed rfl ?_; (simp [go_sem,wk]; try (refine ⟨by kernel_rfl,?_⟩))))
     have e : numberT ts a b i = .ok (nx ts i).n (i + 1) :=by rw [numberT,if_pos hk,if_pos hr]
     rw [e,bB]
     refine aK ?_; (try simp only [thenQ,blkQ,loopQ]); refine aJ [(6,ii (nx ts i).n),(1000000,.ow 0)] [.old 0 ⟨119,2,[.agg [.sl (ts.map tk),ii ((i + 1 : Nat))]]⟩] ?_
     simp [go_sem]
   · have c3 :=fK hn hi 3 (b :=decide (a ≤ (nx ts i).n) && decide ((nx ts i).n ≤ b)) (by simp; omega)
     first | refine aO [0] (c3) (by simp [go_sem]) ?_ | refine aL [0] (c3) (by simp [go_sem]) ?_
     have e : numberT ts a b i = .no (nx ts i).pos 3 :=by rw [numberT,if_pos hk,if_neg hr]
     rw [e]
     simp [go_sem]
 · have c2 :=fK hn hi 12 (b :=decide ((nx ts i).kind = 2)) (by simp [hk])
   first | refine aO [0] (c2) (by simp [go_sem]) ?_ | refine aL [0] (c2) (by simp [go_sem]) ?_
   have e : numberT ts a b i = .no (nx ts i).pos 12 :=by rw [numberT,if_neg hk]
   rw [e]
   simp [go_sem]
set_option maxHeartbeats 4000000 in
theorem fZ {ts : List Tk} (hn : OkT ts) {i : Nat} (hi : i < ts.length) (word : By) (a b : Int) (l : List By) (hl : l.length ≤ 100) :
  OutH Tryz.prog 56 [pst ts i,.row ⟨9,1,l.map ss⟩] [pp,ss word,ii a,ii b,.ow 1] (outP (partT ts word a b l i) ii ts [.row ⟨9,1,l.map ss⟩]) :=by
 have hlen :=hn.len
 have c1 :=dY hn hi word
 refine cR 2 24 [.tmp 10] Tryz.func56 rfl rfl rfl (by simp) (by decide) rfl fun X hX => ?_
 (repeat (refine aB q14x4 hX mixed rfl ?_; (simp [go_sem]; try (refine ⟨by kernel_rfl,?_⟩))))
 first | refine aF [0] (c1) (by simp [go_sem]) ?_ | refine aD [0] (c1) (by simp [go_sem]) ?_ | refine aE [0] (c1) (by simp [go_sem]) ?_
 try (simp [go_sem]; try (refine ⟨by kernel_rfl,?_⟩))
 cases hs : isT ts word i with
 | false =>
   have e : partT ts word a b l i = .ok 0 i :=by rw [partT,hs]; rfl
   have eh : hasT ts word i = i :=by simp [hasT,hs]
   rw [e,bB,eh]
   refine aC (b :=true) (by simp [go_sem]) (fun hb => ?_) (fun hb => by cases hb)
   (repeat (refine aB q14x4 hX mixed rfl ?_; (simp [go_sem]; try (refine ⟨by kernel_rfl,?_⟩))))
   refine aK ?_; (try simp only [thenQ,blkQ,loopQ]); refine aJ [(10,ii 0),(1000000,.ow 0),(1000001,.ow 1)] [.old 0 ⟨119,2,[.agg [.sl (ts.map tk),ii (i)]]⟩,.old 1 ⟨9,1,l.map ss⟩] ?_
   simp [go_sem]
 | true =>
   have hi1 :=hn.has hi hs
   have eh : hasT ts word i = i + 1 :=by simp [hasT,hs]
   have e0 : partT ts word a b l i = (numberT ts a b (i + 1)).bind fun n j => (wantT ts l j).bind fun _ k => .ok n k :=by rw [partT,hs]; rfl
   rw [e0,eh]
   have c2 :=yF hn hi1 a b
   refine aC (b :=false) (by simp [go_sem]) (fun hb => by cases hb) (fun hb => ?_)
   (repeat (refine aB q14x4 hX mixed rfl ?_; (simp [go_sem]; try (refine ⟨by kernel_rfl,?_⟩))))
   cases hnum : numberT ts a b (i + 1) with
   | no p e =>
     first | refine aO [0] (aT c2 hnum) (by simp [go_sem]) ?_ | refine aL [0] (aT c2 hnum) (by simp [go_sem]) ?_
     simp [go_sem,Pr.bind_no]
   | ok n j =>
     rw [Pr.bind_ok]
     have hj :=(lL hn hi1 hnum).2.1
     first | refine aF [0] (aN c2 hnum) (by simp [go_sem]) ?_ | refine aD [0] (aN c2 hnum) (by simp [go_sem]) ?_ | refine aE [0] (aN c2 hnum) (by simp [go_sem]) ?_
     try (simp [go_sem]; try (refine ⟨by kernel_rfl,?_⟩))
     (repeat (refine aB q14x4 hX mixed rfl ?_; (simp [go_sem]; try (refine ⟨by kernel_rfl,?_⟩))))
     have c3 :=cW hn hj l hl
     cases hw : wantT ts l j with
     | no p e =>
       first | refine aO [0,1] (aT c3 hw) (by simp [go_sem]) ?_ | refine aL [0,1] (aT c3 hw) (by simp [go_sem]) ?_
       simp [go_sem,Pr.bind_no]
     | ok u k =>
       rw [Pr.bind_ok,bB]
       first | refine aF [0,1] (aN c3 hw) (by simp [go_sem]) ?_ | refine aD [0,1] (aN c3 hw) (by simp [go_sem]) ?_ | refine aE [0,1] (aN c3 hw) (by simp [go_sem]) ?_
       try (simp [go_sem]; try (refine ⟨by kernel_rfl,?_⟩))
       (repeat (refine aB q14x4 hX mixed rfl ?_; (simp [go_sem]; try (refine ⟨by kernel_rfl,?_⟩))))
       refine aK ?_; (try simp only [thenQ,blkQ,loopQ]); refine aJ [(10,ii n),(1000000,.ow 0),(1000001,.ow 1)] [.old 0 ⟨119,2,[.agg [.sl (ts.map tk),ii (k)]]⟩,.old 1 ⟨9,1,l.map ss⟩] ?_
       simp [go_sem]
set_option maxHeartbeats 4000000 in
theorem CU {ts : List Tk} (hn : OkT ts) {i : Nat} (hi : i < ts.length) :
  OutH Tryz.prog 174 [pst ts i] [pp] (outP (unitT ts i) ii ts []) :=by
 have hlen :=hn.len
 have c1 :=dY hn hi [99,111,105,110,115]
 have c2 :=dY hn hi [100,97,121,115]
 have c3 :=dY hn hi [112,101,114]
 refine cR 1 15 [.tmp 2] Tryz.func174 rfl rfl rfl (by simp) (by decide) rfl fun X hX => ?_
 (repeat (refine aB q14x7 hX mixed rfl ?_; (simp [go_sem]; try (refine ⟨by kernel_rfl,?_⟩))))
 first | refine aF [0] (c1) (by simp [go_sem]) ?_ | refine aD [0] (c1) (by simp [go_sem]) ?_ | refine aE [0] (c1) (by simp [go_sem]) ?_
 try (simp [go_sem]; try (refine ⟨by kernel_rfl,?_⟩))
 cases h1 : isT ts [99,111,105,110,115] i with
 | true =>
   have e : unitT ts i = .ok 3 (i + 1) :=by rw [unitT,h1]; rfl
   have eh : hasT ts [99,111,105,110,115] i = i + 1 :=by simp [hasT,h1]
   rw [e,bB,eh]
   refine aC (b :=true) (by simp [go_sem]) (fun hb => ?_) (fun hb => by cases hb)
   (repeat (refine aB q14x7 hX mixed rfl ?_; (simp [go_sem]; try (refine ⟨by kernel_rfl,?_⟩))))
   refine aK ?_; (try simp only [thenQ,blkQ,loopQ]); refine aJ [(2,ii 3),(1000000,.ow 0)] [.old 0 ⟨119,2,[.agg [.sl (ts.map tk),ii ((i + 1 : Nat))]]⟩] ?_
   simp [go_sem]
 | false =>
   have eh : hasT ts [99,111,105,110,115] i = i :=by simp [hasT,h1]
   rw [eh]
   refine aC (b :=false) (by simp [go_sem]) (fun hb => by cases hb) (fun hb => ?_)
   (repeat (refine aB q14x7 hX mixed rfl ?_; (simp [go_sem]; try (refine ⟨by kernel_rfl,?_⟩))))
   first | refine aF [0] (c2) (by simp [go_sem]) ?_ | refine aD [0] (c2) (by simp [go_sem]) ?_ | refine aE [0] (c2) (by simp [go_sem]) ?_
   try (simp [go_sem]; try (refine ⟨by kernel_rfl,?_⟩))
   cases h2 : isT ts [100,97,121,115] i with
   | true =>
     have e : unitT ts i = .ok 2 (i + 1) :=by rw [unitT,h1,h2]; rfl
     have eh : hasT ts [100,97,121,115] i = i + 1 :=by simp [hasT,h2]
     rw [e,bB,eh]
     refine aC (b :=true) (by simp [go_sem]) (fun hb => ?_) (fun hb => by cases hb)
     (repeat (refine aB q14x7 hX mixed rfl ?_; (simp [go_sem]; try (refine ⟨by kernel_rfl,?_⟩))))
     refine aK ?_; (try simp only [thenQ,blkQ,loopQ]); refine aJ [(2,ii 2),(1000000,.ow 0)] [.old 0 ⟨119,2,[.agg [.sl (ts.map tk),ii ((i + 1 : Nat))]]⟩] ?_
     simp [go_sem]
   | false =>
     have eh : hasT ts [100,97,121,115] i = i :=by simp [hasT,h2]
     rw [eh]
     refine aC (b :=false) (by simp [go_sem]) (fun hb => by cases hb) (fun hb => ?_)
     (repeat (refine aB q14x7 hX mixed rfl ?_; (simp [go_sem]; try (refine ⟨by kernel_rfl,?_⟩))))
     first | refine aF [0] (c3) (by simp [go_sem]) ?_ | refine aD [0] (c3) (by simp [go_sem]) ?_ | refine aE [0] (c3) (by simp [go_sem]) ?_
     try (simp [go_sem]; try (refine ⟨by kernel_rfl,?_⟩))
     cases h3 : isT ts [112,101,114] i with
     | false =>
       have e : unitT ts i = .ok 1 i :=by rw [unitT,h1,h2,h3]; rfl
       have eh : hasT ts [112,101,114] i = i :=by simp [hasT,h3]
       rw [e,bB,eh]
       refine aC (b :=false) (by simp [go_sem]) (fun hb => by cases hb) (fun hb => ?_)
       (repeat (refine aB q14x7 hX mixed rfl ?_; (simp [go_sem]; try (refine ⟨by kernel_rfl,?_⟩))))
       refine aK ?_; (try simp only [thenQ,blkQ,loopQ]); refine aJ [(2,ii 1),(1000000,.ow 0)] [.old 0 ⟨119,2,[.agg [.sl (ts.map tk),ii (i)]]⟩] ?_
       simp [go_sem]
     | true =>
       have hi1 :=hn.has hi h3
       have eh : hasT ts [112,101,114] i = i + 1 :=by simp [hasT,h3]
       have e0 : unitT ts i = (wantT ts [[109,105,108,108,101]] (i + 1)).bind fun _ j => .ok 4 j :=by rw [unitT,h1,h2,h3]; rfl
       have c4 :=cW hn hi1 [[109,105,108,108,101]] (by simp)
       rw [e0,eh]
       refine aC (b :=true) (by simp [go_sem]) (fun hb => ?_) (fun hb => by cases hb)
       (repeat (refine aB q14x7 hX mixed rfl ?_; (simp [go_sem]; try (refine ⟨by kernel_rfl,?_⟩))))
       cases hw : wantT ts [[109,105,108,108,101]] (i + 1) with
       | no p e =>
         first | refine aO [0,1] (aT c4 hw) (by simp [go_sem]) ?_ | refine aL [0,1] (aT c4 hw) (by simp [go_sem]) ?_
         simp [go_sem,Pr.bind_no]
       | ok u k =>
         rw [Pr.bind_ok,bB]
         first | refine aF [0,1] (aN c4 hw) (by simp [go_sem]) ?_ | refine aD [0,1] (aN c4 hw) (by simp [go_sem]) ?_ | refine aE [0,1] (aN c4 hw) (by simp [go_sem]) ?_
         try (simp [go_sem]; try (refine ⟨by kernel_rfl,?_⟩))
         (repeat (refine aB q14x7 hX mixed rfl ?_; (simp [go_sem]; try (refine ⟨by kernel_rfl,?_⟩))))
         refine aK ?_; (try simp only [thenQ,blkQ,loopQ]); refine aJ [(2,ii 4),(1000000,.ow 0)] [.old 0 ⟨119,2,[.agg [.sl (ts.map tk),ii (k)]]⟩] ?_
         simp [go_sem]
end Go.Proofs.YtaolljbpencjnaaGreatDoor

namespace Go.Proofs.YtaolljbpencjnaaGreatDoor
open Go.RowKit Go.Ab
attribute [local irreducible] AWP Go.Ab.Sub Means MeansH CallK CallG CallT CallGT PanicH
set_option maxHeartbeats 4000000 in
theorem CV {ts : List Tk} (hn : OkT ts) {i : Nat} (hi : i < ts.length) :
  OutH Tryz.prog 53 [pst ts i] [pp] (outP (kindT ts i) (fun x => .tup [ii x.1,bb x.2]) ts []) :=by
 have hlen :=hn.len
 have c1 :=cW hn hi [[99,105,114,99,108,101]] (by simp)
 refine cR 1 29 [.tmp 2,.tmp 3] Tryz.func53 rfl rfl rfl (by simp) (by decide) rfl fun X hX => ?_
 (repeat (refine aB q14x2 hX mixed rfl ?_; (simp [go_sem]; try (refine ⟨by kernel_rfl,?_⟩))))
 unfold kindT
 cases w1 : wantT ts [[99,105,114,99,108,101]] i with
 | no p e =>
   first | refine aO [0,1] (aT c1 w1) (by simp [go_sem]) ?_ | refine aL [0,1] (aT c1 w1) (by simp [go_sem]) ?_
   simp [go_sem,Pr.bind_no]
 | ok u i1 =>
   rw [Pr.bind_ok]
   first | refine aF [0,1] (aN c1 w1) (by simp [go_sem]) ?_ | refine aD [0,1] (aN c1 w1) (by simp [go_sem]) ?_ | refine aE [0,1] (aN c1 w1) (by simp [go_sem]) ?_
   try (simp [go_sem]; try (refine ⟨by kernel_rfl,?_⟩))
   have h1 :=(bG hn hi w1).2
   have c2 :=dY hn h1 [114,111,116,97,116,105,110,103]
   have c3 :=dY hn h1 [115,97,118,105,110,103]
   (repeat (refine aB q14x2 hX mixed rfl ?_; (simp [go_sem]; try (refine ⟨by kernel_rfl,?_⟩))))
   first | refine aF [0] (c2) (by simp [go_sem]) ?_ | refine aD [0] (c2) (by simp [go_sem]) ?_ | refine aE [0] (c2) (by simp [go_sem]) ?_
   try (simp [go_sem]; try (refine ⟨by kernel_rfl,?_⟩))
   cases s1 : isT ts [114,111,116,97,116,105,110,103] i1 with
   | true =>
     have eh : hasT ts [114,111,116,97,116,105,110,103] i1 = i1 + 1 :=by simp [hasT,s1]
     rw [eh,if_pos rfl]
     have c4 :=cW hn (hn.has h1 s1) [[59]] (by simp)
     refine aC (b :=true) (by simp [go_sem]) (fun hb => ?_) (fun hb => by cases hb)
     (repeat (refine aB q14x2 hX mixed rfl ?_; (simp [go_sem]; try (refine ⟨by kernel_rfl,?_⟩))))
     cases w2 : wantT ts [[59]] (i1 + 1) with
     | no p e =>
       first | refine aO [0,2] (aT c4 w2) (by simp [go_sem]) ?_ | refine aL [0,2] (aT c4 w2) (by simp [go_sem]) ?_
       simp [go_sem,Pr.bind_no]
     | ok u i2 =>
       rw [Pr.bind_ok,bB]
       first | refine aF [0,2] (aN c4 w2) (by simp [go_sem]) ?_ | refine aD [0,2] (aN c4 w2) (by simp [go_sem]) ?_ | refine aE [0,2] (aN c4 w2) (by simp [go_sem]) ?_
       try (simp [go_sem]; try (refine ⟨by kernel_rfl,?_⟩))
       (repeat (refine aB q14x2 hX mixed rfl ?_; (simp [go_sem]; try (refine ⟨by kernel_rfl,?_⟩))))
       refine aK ?_; (try simp only [thenQ,blkQ,loopQ]); refine aJ [(2,ii 0),(3,bb false),(1000000,.ow 0)] [.old 0 ⟨119,2,[.agg [.sl (ts.map tk),ii (i2)]]⟩] ?_
       simp [go_sem]
   | false =>
     have eh : hasT ts [114,111,116,97,116,105,110,103] i1 = i1 :=by simp [hasT,s1]
     rw [eh,if_neg (by simp)]
     refine aC (b :=false) (by simp [go_sem]) (fun hb => by cases hb) (fun hb => ?_)
     (repeat (refine aB q14x2 hX mixed rfl ?_; (simp [go_sem]; try (refine ⟨by kernel_rfl,?_⟩))))
     first | refine aF [0] (c3) (by simp [go_sem]) ?_ | refine aD [0] (c3) (by simp [go_sem]) ?_ | refine aE [0] (c3) (by simp [go_sem]) ?_
     try (simp [go_sem]; try (refine ⟨by kernel_rfl,?_⟩))
     cases s2 : isT ts [115,97,118,105,110,103] i1 with
     | true =>
       have eh : hasT ts [115,97,118,105,110,103] i1 = i1 + 1 :=by simp [hasT,s2]
       rw [eh,if_pos rfl]
       have c4 :=cW hn (hn.has h1 s2) [[59]] (by simp)
       refine aC (b :=true) (by simp [go_sem]) (fun hb => ?_) (fun hb => by cases hb)
       (repeat (refine aB q14x2 hX mixed rfl ?_; (simp [go_sem]; try (refine ⟨by kernel_rfl,?_⟩))))
       cases w2 : wantT ts [[59]] (i1 + 1) with
       | no p e =>
         first | refine aO [0,2] (aT c4 w2) (by simp [go_sem]) ?_ | refine aL [0,2] (aT c4 w2) (by simp [go_sem]) ?_
         simp [go_sem,Pr.bind_no]
       | ok u i2 =>
         rw [Pr.bind_ok,bB]
         first | refine aF [0,2] (aN c4 w2) (by simp [go_sem]) ?_ | refine aD [0,2] (aN c4 w2) (by simp [go_sem]) ?_ | refine aE [0,2] (aN c4 w2) (by simp [go_sem]) ?_
         try (simp [go_sem]; try (refine ⟨by kernel_rfl,?_⟩))
         (repeat (refine aB q14x2 hX mixed rfl ?_; (simp [go_sem]; try (refine ⟨by kernel_rfl,?_⟩))))
         refine aK ?_; (try simp only [thenQ,blkQ,loopQ]); refine aJ [(2,ii 2),(3,bb false),(1000000,.ow 0)] [.old 0 ⟨119,2,[.agg [.sl (ts.map tk),ii (i2)]]⟩] ?_
         simp [go_sem]
     | false =>
       have eh : hasT ts [115,97,118,105,110,103] i1 = i1 :=by simp [hasT,s2]
       rw [eh,if_neg (by simp)]
       refine aC (b :=false) (by simp [go_sem]) (fun hb => by cases hb) (fun hb => ?_)
       have c4 :=cW hn h1 [[98,105,100,100,105,110,103]] (by simp)
       (repeat (refine aB q14x2 hX mixed rfl ?_; (simp [go_sem]; try (refine ⟨by kernel_rfl,?_⟩))))
       cases w2 : wantT ts [[98,105,100,100,105,110,103]] i1 with
       | no p e =>
         first | refine aO [0,2] (aT c4 w2) (by simp [go_sem]) ?_ | refine aL [0,2] (aT c4 w2) (by simp [go_sem]) ?_
         simp [go_sem,Pr.bind_no]
       | ok u i2 =>
         rw [Pr.bind_ok]
         first | refine aF [0,2] (aN c4 w2) (by simp [go_sem]) ?_ | refine aD [0,2] (aN c4 w2) (by simp [go_sem]) ?_ | refine aE [0,2] (aN c4 w2) (by simp [go_sem]) ?_
         try (simp [go_sem]; try (refine ⟨by kernel_rfl,?_⟩))
         have h2 :=(bG hn h1 w2).2
         have c5 :=dY hn h2 [115,101,97,108,101,100]
         (repeat (refine aB q14x2 hX mixed rfl ?_; (simp [go_sem]; try (refine ⟨by kernel_rfl,?_⟩))))
         first | refine aF [0] (c5) (by simp [go_sem]) ?_ | refine aD [0] (c5) (by simp [go_sem]) ?_ | refine aE [0] (c5) (by simp [go_sem]) ?_
         try (simp [go_sem]; try (refine ⟨by kernel_rfl,?_⟩))
         have h3 :=(u9 hn (s :=[115,101,97,108,101,100]) h2).2
         have c6 :=cW hn h3 [[59]] (by simp)
         (repeat (refine aB q14x2 hX mixed rfl ?_; (simp [go_sem]; try (refine ⟨by kernel_rfl,?_⟩))))
         cases w3 : wantT ts [[59]] (hasT ts [115,101,97,108,101,100] i2) with
         | no p e =>
           first | refine aO [0,3] (aT c6 w3) (by simp [go_sem]) ?_ | refine aL [0,3] (aT c6 w3) (by simp [go_sem]) ?_
           simp [go_sem,Pr.bind_no]
         | ok u i3 =>
           rw [Pr.bind_ok,bB]
           first | refine aF [0,3] (aN c6 w3) (by simp [go_sem]) ?_ | refine aD [0,3] (aN c6 w3) (by simp [go_sem]) ?_ | refine aE [0,3] (aN c6 w3) (by simp [go_sem]) ?_
           try (simp [go_sem]; try (refine ⟨by kernel_rfl,?_⟩))
           (repeat (refine aB q14x2 hX mixed rfl ?_; (simp [go_sem]; try (refine ⟨by kernel_rfl,?_⟩))))
           refine aK ?_; (try simp only [thenQ,blkQ,loopQ]); refine aJ [(2,ii 1),(3,bb (isT ts [115,101,97,108,101,100] i2)),(1000000,.ow 0)] [.old 0 ⟨119,2,[.agg [.sl (ts.map tk),ii (i3)]]⟩] ?_
           simp [go_sem]
theorem yG : Means true Tryz.prog 99 [] (.sl (ordersL.map ss)) :=by
 refine aH true 2 [.tmp 0] Tryz.func99 rfl rfl rfl (by simp) (by decide) rfl fun X hX => ?_
 (repeat (refine aA [0] hX mixed rfl ?_; (simp [go_sem]; try (refine ⟨by kernel_rfl,?_⟩))))
 simp [ordersL]
def fdT (ts : List Tk) (l : List By) (i : Nat) : Nat :=if l.any (fun s => isT ts s i) then i + 1 else i
set_option maxHeartbeats 4000000 in
theorem sE {ts : List Tk} (hn : OkT ts) {i : Nat} (hi : i < ts.length) (l : List By) (hl : l.length ≤ 1000) (hcall : callable Tryz.prog 96 = true) :
  MeansH Tryz.prog 98 [pst ts i] [.sl (l.map ss),.fn 96 [pp] []] (ii (match l.findIdx? fun s => isT ts s i with | some n => (n : Int) | none => -1)) [pst ts (fdT ts l i)] :=by
 have hlen :=hn.len
 refine aS 1 19 [.tmp 4] Tryz.func98 rfl rfl rfl (by simp) (by decide) rfl fun X hX => ?_
 (repeat (refine aB q14x5 hX mixed rfl ?_; (simp [go_sem]; try (refine ⟨by kernel_rfl,?_⟩))))
 refine aV (fun n : Nat => ⟨mkE [(0,.sl (l.map ss)),(1,.fn 96 [pp] []),(7,ii l.length),(8,ii n),(1000000,.ow 0)],[pst ts i]⟩) (fun n => n ≤ l.length ∧ ∀ k (h : k < l.length),k < n → isT ts l[k] i = false) (fun n => l.length - n) 0 ?_ ?_ ?_
 · refine aM _ [.old 0 ⟨119,2,[.agg [.sl (ts.map tk),ii (i)]]⟩] (by simp [go_sem]) ?_
   simp [go_sem]
 · exact ⟨Nat.zero_le _,fun k h hk => absurd hk (by omega)⟩
 · rintro n ⟨h1,h2⟩
   (repeat (refine aB q14x5 hX mixed rfl ?_; (simp [go_sem]; try (refine ⟨by kernel_rfl,?_⟩))))
   refine aC (b :=decide (n < l.length)) (by simp [go_sem]) (fun hc => ?_) (fun hc => ?_)
   · simp at hc
     have hq : nth (l.map ss) n = ss l[n] :=sD hc
     have wk :=w64 (x :=(n : Int) + 1) (by omega) (by omega)
     have c1 :=dY hn hi l[n]
     (repeat (refine aB q14x5 hX mixed rfl ?_; (simp [go_sem,hc,hq,hcall]; try (refine ⟨by kernel_rfl,?_⟩))))
     first | refine aF [0] (c1) (by simp [go_sem]) ?_ | refine aD [0] (c1) (by simp [go_sem]) ?_ | refine aE [0] (c1) (by simp [go_sem]) ?_
     try (simp [go_sem]; try (refine ⟨by kernel_rfl,?_⟩))
     cases hs : isT ts l[n] i with
     | true =>
       have e1 : l.findIdx? (fun s => isT ts s i) = some n :=by
        rw [List.findIdx?_eq_some_iff_getElem]
        exact ⟨hc,hs,fun k hk => by rw [h2 k (by omega) hk]; simp⟩
       have e2 : fdT ts l i = i + 1 :=by
        unfold fdT
        rw [if_pos]
        exact List.any_eq_true.2 ⟨l[n],List.getElem_mem hc,hs⟩
       have eh : hasT ts l[n] i = i + 1 :=by simp [hasT,hs]
       rw [eh,e1,e2]
       refine aC (b :=true) (by simp [go_sem]) (fun hb => ?_) (fun hb => by cases hb)
       (repeat (refine aB q14x5 hX mixed rfl ?_; (simp [go_sem]; try (refine ⟨by kernel_rfl,?_⟩))))
       refine aK ?_; (try simp only [thenQ,blkQ,loopQ]); refine aJ [(4,ii n),(1000000,.ow 0)] [.old 0 ⟨119,2,[.agg [.sl (ts.map tk),ii ((i + 1 : Nat))]]⟩] ?_
       simp [go_sem]
     | false =>
       have eh : hasT ts l[n] i = i :=by simp [hasT,hs]
       rw [eh]
       refine aC (b :=false) (by simp [go_sem]) (fun hb => by cases hb) (fun hb => ?_)
       (repeat (refine aB q14x5 hX mixed rfl ?_; (simp [go_sem,wk]; try (refine ⟨by kernel_rfl,?_⟩))))
       refine ⟨n + 1,⟨by omega,fun k h hk => ?_⟩,by omega,?_⟩
       · by_cases e : k = n
         · subst e; exact hs
         · exact h2 k h (by omega)
       · refine aM _ [.old 0 ⟨119,2,[.agg [.sl (ts.map tk),ii (i)]]⟩] (by simp [go_sem]) ?_
         simp [go_sem]
   · simp at hc
     have all : ∀ s ∈ l,isT ts s i = false :=fun s hs => by
      obtain ⟨k,hk,rfl⟩ :=List.getElem_of_mem hs
      exact h2 k hk (by omega)
     have e1 : l.findIdx? (fun s => isT ts s i) = none :=by
      rw [List.findIdx?_eq_none_iff]
      exact all
     have e2 : fdT ts l i = i :=by
      unfold fdT
      rw [if_neg]
      simp only [List.any_eq_true,not_exists,not_and]
      intro s hs; rw [all s hs]; simp
     rw [e1,e2]
     (repeat (refine aB q14x5 hX mixed rfl ?_; (simp [go_sem]; try (refine ⟨by kernel_rfl,?_⟩))))
     refine aK ?_; (try simp only [thenQ,blkQ,loopQ]); refine aJ [(4,ii (-1)),(1000000,.ow 0)] [.old 0 ⟨119,2,[.agg [.sl (ts.map tk),ii (i)]]⟩] ?_
     simp [go_sem]
set_option maxHeartbeats 4000000 in
theorem B1 {ts : List Tk} (hn : OkT ts) {i : Nat} (hi : i < ts.length) :
  OutH Tryz.prog 57 [pst ts i] [pp] (outP (orderT ts i) ii ts []) :=by
 have hlen :=hn.len
 have c1 :=dY hn hi [111,114,100,101,114]
 have c2 :=yG
 refine cR 1 19 [.tmp 2] Tryz.func57 rfl rfl rfl (by simp) (by decide) rfl fun X hX => ?_
 (repeat (refine aB q14x9 hX mixed rfl ?_; (simp [go_sem]; try (refine ⟨by kernel_rfl,?_⟩))))
 first | refine aF [0] (c1) (by simp [go_sem]) ?_ | refine aD [0] (c1) (by simp [go_sem]) ?_ | refine aE [0] (c1) (by simp [go_sem]) ?_
 try (simp [go_sem]; try (refine ⟨by kernel_rfl,?_⟩))
 cases s1 : isT ts [111,114,100,101,114] i with
 | false =>
   have eh : hasT ts [111,114,100,101,114] i = i :=by simp [hasT,s1]
   have e : orderT ts i = .ok 0 i :=by rw [orderT,s1]; rfl
   rw [e,bB,eh]
   refine aC (b :=true) (by simp [go_sem]) (fun hb => ?_) (fun hb => by cases hb)
   (repeat (refine aB q14x9 hX mixed rfl ?_; (simp [go_sem]; try (refine ⟨by kernel_rfl,?_⟩))))
   refine aK ?_; (try simp only [thenQ,blkQ,loopQ]); refine aJ [(2,ii 0),(1000000,.ow 0)] [.old 0 ⟨119,2,[.agg [.sl (ts.map tk),ii (i)]]⟩] ?_
   simp [go_sem]
 | true =>
   have hi1 :=hn.has hi s1
   have eh : hasT ts [111,114,100,101,114] i = i + 1 :=by simp [hasT,s1]
   rw [eh]
   have c3 :=sE hn hi1 ordersL (by decide) (by simp [go_sem])
   refine aC (b :=false) (by simp [go_sem]) (fun hb => by cases hb) (fun hb => ?_)
   (repeat (refine aB q14x9 hX mixed rfl ?_; (simp [go_sem]; try (refine ⟨by kernel_rfl,?_⟩))))
   first | refine aP (c2) ?_ | refine aQ (c2) ?_
   try (simp [go_sem]; try (refine ⟨by kernel_rfl,?_⟩))
   first | refine aF [0] (c3) (by simp [go_sem]) ?_ | refine aD [0] (c3) (by simp [go_sem]) ?_ | refine aE [0] (c3) (by simp [go_sem]) ?_
   try (simp [go_sem]; try (refine ⟨by kernel_rfl,?_⟩))
   cases hf : ordersL.findIdx? fun s => isT ts s (i + 1) with
   | none =>
     have e : orderT ts i = .no (nx ts (i + 1)).pos 12 :=by rw [orderT,s1,hf]; rfl
     have e2 : fdT ts ordersL (i + 1) = i + 1 :=by
      unfold fdT
      rw [if_neg]
      simp only [List.any_eq_true,not_exists,not_and]
      intro s hs; rw [List.findIdx?_eq_none_iff.1 hf s hs]; simp
     rw [e,e2]
     have c4 :=eN hn hi1 12
     (repeat (refine aB q14x9 hX mixed rfl ?_; (simp [go_sem]; try (refine ⟨by kernel_rfl,?_⟩))))
     first | refine aO [0] (c4) (by simp [go_sem]) ?_ | refine aL [0] (c4) (by simp [go_sem]) ?_
     simp [go_sem]
   | some n =>
     obtain ⟨hm1,hm2,_⟩ :=List.findIdx?_eq_some_iff_getElem.1 hf
     have hi2 :=hn.has hi1 hm2
     have e : orderT ts i = (wantT ts [[59]] (i + 1 + 1)).bind fun _ j => .ok (n : Int) j :=by rw [orderT,s1,hf]; rfl
     have e2 : fdT ts ordersL (i + 1) = i + 1 + 1 :=by
      unfold fdT
      rw [if_pos]
      exact List.any_eq_true.2 ⟨ordersL[n],List.getElem_mem hm1,hm2⟩
     rw [e,e2]
     have c4 :=eM hn hi2 12
     have c5 :=cW hn hi2 [[59]] (by simp)
     (repeat (refine aB q14x9 hX mixed rfl ?_; (simp [go_sem]; try (refine ⟨by kernel_rfl,?_⟩))))
     first | refine aF [0] (c4) (by simp [go_sem]) ?_ | refine aD [0] (c4) (by simp [go_sem]) ?_ | refine aE [0] (c4) (by simp [go_sem]) ?_
     try (simp [go_sem]; try (refine ⟨by kernel_rfl,?_⟩))
     (repeat (refine aB q14x9 hX mixed rfl ?_; (simp [go_sem]; try (refine ⟨by kernel_rfl,?_⟩))))
     cases w2 : wantT ts [[59]] (i + 1 + 1) with
     | no p e =>
       first | refine aO [0,1] (aT c5 w2) (by simp [go_sem]) ?_ | refine aL [0,1] (aT c5 w2) (by simp [go_sem]) ?_
       simp [go_sem,Pr.bind_no]
     | ok u i2 =>
       rw [Pr.bind_ok,bB]
       first | refine aF [0,1] (aN c5 w2) (by simp [go_sem]) ?_ | refine aD [0,1] (aN c5 w2) (by simp [go_sem]) ?_ | refine aE [0,1] (aN c5 w2) (by simp [go_sem]) ?_
       try (simp [go_sem]; try (refine ⟨by kernel_rfl,?_⟩))
       (repeat (refine aB q14x9 hX mixed rfl ?_; (simp [go_sem]; try (refine ⟨by kernel_rfl,?_⟩))))
       refine aK ?_; (try simp only [thenQ,blkQ,loopQ]); refine aJ [(2,ii n),(1000000,.ow 0)] [.old 0 ⟨119,2,[.agg [.sl (ts.map tk),ii (i2)]]⟩] ?_
       simp [go_sem]
end Go.Proofs.YtaolljbpencjnaaGreatDoor

namespace Go.Proofs.YtaolljbpencjnaaGreatDoor
open Go.RowKit Go.Ab
attribute [local irreducible] AWP Go.Ab.Sub Means MeansH CallK CallG CallT CallGT PanicH
theorem yH (L : List By) (v : By) (hL : L.length ≤ 100000) : Means true Tryz.prog 130 [.sl (L.map ss),ss v] (ii (match L.findIdx? fun s => decide (v = s) with | some n => (n : Int) | none => -1)) :=by
 refine aH true 19 [.tmp 4] Tryz.func130 rfl rfl rfl (by simp) (by decide) rfl fun X hX => ?_
 (repeat (refine aA q14x8 hX mixed rfl ?_; (simp [go_sem]; try (refine ⟨by kernel_rfl,?_⟩))))
 refine aV (fun n : Nat => ⟨mkE [(0,.sl (L.map ss)),(1,ss v),(7,ii L.length),(8,ii n)],[]⟩) (fun n => n ≤ L.length ∧ ∀ k (h : k < L.length),k < n → ¬ v = L[k]) (fun n => L.length - n) 0 ?_ ?_ ?_
 · refine aM _ [] (by simp [go_sem]) ?_
   simp [go_sem]
 · exact ⟨Nat.zero_le _,fun k h hk => absurd hk (by omega)⟩
 · rintro n ⟨h1,h2⟩
   (repeat (refine aA q14x8 hX mixed rfl ?_; (simp [go_sem]; try (refine ⟨by kernel_rfl,?_⟩))))
   refine aC (b :=decide (n < L.length)) (by simp [go_sem]) (fun hc => ?_) (fun hc => ?_)
   · simp at hc
     have hq : nth (L.map ss) n = ss L[n] :=sD hc
     have wk :=w64 (x :=(n : Int) + 1) (by omega) (by omega)
     (repeat (refine aA q14x8 hX mixed rfl ?_; (simp [go_sem,hc,hq]; try (refine ⟨by kernel_rfl,?_⟩))))
     refine aC (b :=decide (v = L[n])) (by simp [go_sem]) (fun hs => ?_) (fun hs => ?_)
     · simp at hs
       have e1 : L.findIdx? (fun s => decide (v = s)) = some n :=by
        rw [List.findIdx?_eq_some_iff_getElem]
        exact ⟨hc,by simpa using hs,fun k hk => by simpa using h2 k (by omega) hk⟩
       (repeat (refine aA q14x8 hX mixed rfl ?_; (simp [go_sem]; try (refine ⟨by kernel_rfl,?_⟩))))
       simp [e1]
     · simp at hs
       (repeat (refine aA q14x8 hX mixed rfl ?_; (simp [go_sem,wk]; try (refine ⟨by kernel_rfl,?_⟩))))
       refine ⟨n + 1,⟨by omega,fun k h hk => ?_⟩,by omega,?_⟩
       · by_cases e : k = n
         · subst e; exact hs
         · exact h2 k h (by omega)
       · refine aM _ [] (by simp [go_sem]) ?_
         simp [go_sem]
   · simp at hc
     have e1 : L.findIdx? (fun s => decide (v = s)) = none :=by
      rw [List.findIdx?_eq_none_iff]
      intro s hs
      obtain ⟨k,hk,rfl⟩ :=List.getElem_of_mem hs
      simpa using h2 k hk (by omega)
     (repeat (refine aA q14x8 hX mixed rfl ?_; (simp [go_sem]; try (refine ⟨by kernel_rfl,?_⟩))))
     simp [e1]
theorem qN (L : List By) (v : By) (hL : L.length ≤ 100000) : Means true Tryz.prog 101 [.sl (L.map ss),ss v] (bb (decide (v ∈ L))) :=by
 have c1 :=yH L v hL
 refine aH true 9 [.tmp 4] Tryz.func101 rfl rfl rfl (by simp) (by decide) rfl fun X hX => ?_
 (repeat (refine aA [0,1,4] hX mixed rfl ?_; (simp [go_sem]; try (refine ⟨by kernel_rfl,?_⟩))))
 first | refine aP (c1) ?_ | refine aQ (c1) ?_
 try (simp [go_sem]; try (refine ⟨by kernel_rfl,?_⟩))
 (repeat (refine aA [0,1,4] hX mixed rfl ?_; (simp [go_sem]; try (refine ⟨by kernel_rfl,?_⟩))))
 cases hf : L.findIdx? fun s => decide (v = s) with
 | none =>
   have : ¬ v ∈ L :=fun hv => by have :=List.findIdx?_eq_none_iff.1 hf v hv; simp at this
   simp [this]
 | some n =>
   obtain ⟨h1,h2,_⟩ :=List.findIdx?_eq_some_iff_getElem.1 hf
   have : v ∈ L :=by
    have h2 : v = L[n] :=by simpa using h2
    rw [h2]; exact List.getElem_mem h1
   simp [this]
theorem sF : Means true Tryz.prog 102 [] (.sl (reservedL.map ss)) :=by
 refine aH true 2 [.tmp 0] Tryz.func102 rfl rfl rfl (by simp) (by decide) rfl fun X hX => ?_
 (repeat (refine aA [0] hX mixed rfl ?_; (simp [go_sem]; try (refine ⟨by kernel_rfl,?_⟩))))
 simp [reservedL]
theorem oW (s : By) (hs : s.length ≤ 100000) : Means true Tryz.prog 59 [ss s] (bb (nameOk s)) :=by
 have c1 :=sG s hs
 have c2 :=sF
 have c3 :=qN reservedL s (by decide)
 refine aH true 11 [.tmp 2] Tryz.func59 rfl rfl rfl (by simp) (by decide) rfl fun X hX => ?_
 (repeat (refine aA [0,2] hX mixed rfl ?_; (simp [go_sem]; try (refine ⟨by kernel_rfl,?_⟩))))
 first | refine aP (c1) ?_ | refine aQ (c1) ?_
 try (simp [go_sem]; try (refine ⟨by kernel_rfl,?_⟩))
 first | refine aX (fun hg => c2) ?_ | refine aW (fun hg => c2) ?_
 try (simp [go_sem]; try (refine ⟨by kernel_rfl,?_⟩))
 first | refine aX (fun hg => c3) ?_ | refine aW (fun hg => c3) ?_
 try (simp [go_sem]; try (refine ⟨by kernel_rfl,?_⟩))
 (repeat (refine aA [0,2] hX mixed rfl ?_; (simp [go_sem]; try (refine ⟨by kernel_rfl,?_⟩))))
 simp [nameOk]
abbrev opv (o : Opr) : AV :=.agg [ss o.text,ii o.op,ii o.form]
@[go_sem] theorem yI {L : List Opr} {k : Nat} (h : k < L.length) : nth (L.map opv) k = opv L[k] :=cX opv h
theorem qO : Means true Tryz.prog 133 [] (.sl (opTab.map opv)) :=by
 refine aH true 10 [.tmp 0] Tryz.func133 rfl rfl rfl (by simp) (by decide) rfl fun X hX => ?_
 (repeat (refine aA [0] hX mixed rfl ?_; (simp [go_sem]; try (refine ⟨by kernel_rfl,?_⟩))))
 simp [opTab]
abbrev pbox : Cell :=.row ⟨69,1,[.el 0 2 0 0]⟩
set_option maxHeartbeats 1000000 in
theorem CW {ts : List Tk} (hn : OkT ts) {i : Nat} (hi : i < ts.length) (o : Opr) : MeansH Tryz.prog 134 [pst ts i,pbox] [opv o,.el 1 1 0 0] (bb (isT ts o.text i)) [pst ts i,pbox] :=by
 have c1 :=qM hn hi o.text
 refine aS 2 8 [.tmp 3] Tryz.func134 rfl rfl rfl (by simp) (by decide) rfl fun X hX => ?_
 (repeat (refine aB [0,1,2,3,1000000,1000001] hX mixed rfl ?_; (simp [go_sem]; try (refine ⟨by kernel_rfl,?_⟩))))
 first | refine aF [0] (c1) (by simp [go_sem]) ?_ | refine aD [0] (c1) (by simp [go_sem]) ?_ | refine aE [0] (c1) (by simp [go_sem]) ?_
 try (simp [go_sem]; try (refine ⟨by kernel_rfl,?_⟩))
 (repeat (refine aB [0,1,2,3,1000000,1000001] hX mixed rfl ?_; (simp [go_sem]; try (refine ⟨by kernel_rfl,?_⟩))))
 refine aK ?_; (try simp only [thenQ,blkQ,loopQ]); refine aJ [(3,bb (isT ts o.text i)),(1000000,.ow 0),(1000001,.ow 1)] [.old 0 ⟨119,2,[.agg [.sl (ts.map tk),ii (i)]]⟩,.old 1 ⟨69,1,[.el 0 2 0 0]⟩] ?_
 simp [go_sem]
set_option maxHeartbeats 4000000 in
theorem vV {ts : List Tk} (hn : OkT ts) {i : Nat} (hi : i < ts.length) (L : List Opr) (hl : L.length ≤ 1000) (hcall : callable Tryz.prog 134 = true) :
  MeansH Tryz.prog 132 [pst ts i,pbox] [.sl (L.map opv),.fn 134 [] [.el 1 1 0 0]] (ii (match L.findIdx? fun o => isT ts o.text i with | some n => (n : Int) | none => -1)) [pst ts i,pbox] :=by
 refine aS 2 19 [.tmp 4] Tryz.func132 rfl rfl rfl (by simp) (by decide) rfl fun X hX => ?_
 (repeat (refine aB q14x3 hX mixed rfl ?_; (simp [go_sem]; try (refine ⟨by kernel_rfl,?_⟩))))
 refine aV (fun n : Nat => ⟨mkE [(0,.sl (L.map opv)),(1,.fn 134 [] [.el 1 1 0 0]),(7,ii L.length),(8,ii n),(1000000,.ow 0),(1000001,.ow 1)],[pst ts i,pbox]⟩) (fun n => n ≤ L.length ∧ ∀ k (h : k < L.length),k < n → isT ts L[k].text i = false) (fun n => L.length - n) 0 ?_ ?_ ?_
 · refine aM _ [.old 0 ⟨119,2,[.agg [.sl (ts.map tk),ii (i)]]⟩,.old 1 ⟨69,1,[.el 0 2 0 0]⟩] (by simp [go_sem]) ?_
   simp [go_sem]
 · exact ⟨Nat.zero_le _,fun k h hk => absurd hk (by omega)⟩
 · rintro n ⟨h1,h2⟩
   (repeat (refine aB q14x3 hX mixed rfl ?_; (simp [go_sem]; try (refine ⟨by kernel_rfl,?_⟩))))
   refine aC (b :=decide (n < L.length)) (by simp [go_sem]) (fun hc => ?_) (fun hc => ?_)
   · simp at hc
     have hq :=yI hc
     have wk :=w64 (x :=(n : Int) + 1) (by omega) (by omega)
     have c1 :=CW hn hi L[n]
     (repeat (refine aB q14x3 hX mixed rfl ?_; (simp [go_sem,hc,hq,hcall]; try (refine ⟨by kernel_rfl,?_⟩))))
     first | refine aF [0,1] (c1) (by simp [go_sem]) ?_ | refine aD [0,1] (c1) (by simp [go_sem]) ?_ | refine aE [0,1] (c1) (by simp [go_sem]) ?_
     try (simp [go_sem]; try (refine ⟨by kernel_rfl,?_⟩))
     cases hs : isT ts L[n].text i with
     | true =>
       have e1 : L.findIdx? (fun o => isT ts o.text i) = some n :=by
        rw [List.findIdx?_eq_some_iff_getElem]
        exact ⟨hc,hs,fun k hk => by rw [h2 k (by omega) hk]; simp⟩
       rw [e1]
       refine aC (b :=true) (by simp [go_sem]) (fun hb => ?_) (fun hb => by cases hb)
       (repeat (refine aB q14x3 hX mixed rfl ?_; (simp [go_sem]; try (refine ⟨by kernel_rfl,?_⟩))))
       refine aK ?_; (try simp only [thenQ,blkQ,loopQ]); refine aJ [(4,ii n),(1000000,.ow 0),(1000001,.ow 1)] [.old 0 ⟨119,2,[.agg [.sl (ts.map tk),ii (i)]]⟩,.old 1 ⟨69,1,[.el 0 2 0 0]⟩] ?_
       simp [go_sem]
     | false =>
       refine aC (b :=false) (by simp [go_sem]) (fun hb => by cases hb) (fun hb => ?_)
       (repeat (refine aB q14x3 hX mixed rfl ?_; (simp [go_sem,wk]; try (refine ⟨by kernel_rfl,?_⟩))))
       refine ⟨n + 1,⟨by omega,fun k h hk => ?_⟩,by omega,?_⟩
       · by_cases e : k = n
         · subst e; exact hs
         · exact h2 k h (by omega)
       · refine aM _ [.old 0 ⟨119,2,[.agg [.sl (ts.map tk),ii (i)]]⟩,.old 1 ⟨69,1,[.el 0 2 0 0]⟩] (by simp [go_sem]) ?_
         simp [go_sem]
   · simp at hc
     have e1 : L.findIdx? (fun o => isT ts o.text i) = none :=by
      rw [List.findIdx?_eq_none_iff]
      intro s hs
      obtain ⟨k,hk,rfl⟩ :=List.getElem_of_mem hs
      exact h2 k hk (by omega)
     rw [e1]
     (repeat (refine aB q14x3 hX mixed rfl ?_; (simp [go_sem]; try (refine ⟨by kernel_rfl,?_⟩))))
     refine aK ?_; (try simp only [thenQ,blkQ,loopQ]); refine aJ [(4,ii (-1)),(1000000,.ow 0),(1000001,.ow 1)] [.old 0 ⟨119,2,[.agg [.sl (ts.map tk),ii (i)]]⟩,.old 1 ⟨69,1,[.el 0 2 0 0]⟩] ?_
     simp [go_sem]
theorem vW : Means true Tryz.prog 106 [] (ex nothingE) :=by
 refine aH true 2 [.cell 0 29] Tryz.func106 rfl rfl rfl (by simp) (by decide) rfl fun X hX => ?_
 (repeat (refine aA [0] hX mixed rfl ?_; (simp [go_sem]; try (refine ⟨by kernel_rfl,?_⟩))))
 exact ⟨rfl,rfl,rfl,rfl⟩
theorem j7 {e x : E} (h : x ∈ e.kids) : x.lev < e.lev :=by
 cases e <;> simp only [E.kids,List.mem_cons,List.not_mem_nil,or_false] at h
 · subst h; simp only [E.lev]; omega
 · rcases h with rfl | rfl <;> simp only [E.lev] <;> omega
 · rcases h with rfl | rfl | rfl <;> simp only [E.lev] <;> omega
def mx (l : List E) : Nat :=l.foldl (fun m x => max m x.lev) 0
theorem sH (e : E) : e.lev = mx e.kids + 1 :=by cases e <;> simp [E.lev,mx,E.kids]
theorem B2 {l : List E} {n : Nat} (h : n < l.length) : mx (l.take (n + 1)) = max (mx (l.take n)) l[n].lev :=by
 unfold mx
 rw [List.take_succ_eq_append_getElem h,List.foldl_append]; rfl
@[go_sem] theorem lH {L : List E} {k : Nat} (h : k < L.length) : nth (L.map ex) k = ex L[k] :=cX ex h
set_option maxHeartbeats 4000000 in
theorem qP : ∀ (n : Nat) (e : E),e.lev ≤ n → n ≤ 1000000 → Means true Tryz.prog 105 [ex e] (ii e.lev)
 | 0,e,h,_ => by have :=sH e; omega
 | n + 1,e,h,hn => by
   have hk : e.kids.length ≤ 3 :=by cases e <;> simp [E.kids]
   have ih : ∀ x ∈ e.kids,Means true Tryz.prog 105 [ex x] (ii x.lev) :=fun x hx => qP n x (by have :=j7 hx; omega) (by omega)
   have hlev :=sH e
   refine aH true 20 [.tmp 2] Tryz.func105 rfl rfl rfl (by simp) (by decide) rfl fun X hX => ?_
   (repeat (refine aA q14x10 hX mixed rfl ?_; (simp [go_sem,gK]; try (refine ⟨by kernel_rfl,?_⟩))))
   refine aV (fun k : Nat => ⟨mkE [(3,ii (mx (e.kids.take k))),(7,.sl (e.kids.map ex)),(8,ii e.kids.length),(9,ii k)],[]⟩) (fun k => k ≤ e.kids.length) (fun k => e.kids.length - k) 0 ?_ ?_ ?_
   · refine aM _ [] (by simp [go_sem]) ?_
     simp [go_sem,mx]
   · exact Nat.zero_le _
   · intro k hk0
     (repeat (refine aA q14x10 hX mixed rfl ?_; (simp [go_sem]; try (refine ⟨by kernel_rfl,?_⟩))))
     refine aC (b :=decide (k < e.kids.length)) (by simp [go_sem]) (fun hc => ?_) (fun hc => ?_)
     · simp at hc
       have hq :=lH hc
       have c1 :=ih e.kids[k] (List.getElem_mem hc)
       have wk :=w64 (x :=(k : Int) + 1) (by omega) (by omega)
       have es :=B2 hc
       have em : max ((mx (e.kids.take k) : Nat) : Int) (e.kids[k].lev : Int) = ((mx (e.kids.take (k + 1)) : Nat) : Int) :=by rw [es]; omega
       (repeat (refine aA q14x10 hX mixed rfl ?_; (simp [go_sem,hc,hq]; try (refine ⟨by kernel_rfl,?_⟩))))
       first | refine aP (c1) ?_ | refine aQ (c1) ?_
       try (simp [go_sem]; try (refine ⟨by kernel_rfl,?_⟩))
       (repeat (refine aA q14x10 hX mixed rfl ?_; (simp [go_sem,wk,em]; try (refine ⟨by kernel_rfl,?_⟩))))
       refine ⟨k + 1,by omega,by omega,?_⟩
       refine aM _ [] (by simp [go_sem]) ?_
       simp [go_sem]
     · simp at hc
       have e1 : e.kids.take k = e.kids :=List.take_of_length_le hc
       have wk :=w64 (x :=(mx e.kids : Int) + 1) (by omega) (by omega)
       rw [hlev]
       (repeat (refine aA q14x10 hX mixed rfl ?_; (simp [go_sem,e1,wk]; try (refine ⟨by kernel_rfl,?_⟩))))
end Go.Proofs.YtaolljbpencjnaaGreatDoor

namespace Go.Proofs.YtaolljbpencjnaaGreatDoor
open Go.RowKit Go.Ab
attribute [local irreducible] AWP Go.Ab.Sub Means MeansH CallK CallG CallT CallGT PanicH
structure ExpC (ts : List Tk) (f : Nat) : Prop where
 exp : ∀ (form : Int) (i : Nat),i < ts.length → 3 * (ts.length - i) + 3 ≤ f → OutH Tryz.prog 104 [pst ts i] [pp,ii form] (outP (expF f ts form i) ex ts [])
theorem jH {ts : List Tk} {s : By} {i : Nat} (h : isT ts s i = false) : hasT ts s i = i :=by simp [hasT,h]
theorem jI {ts : List Tk} {s : By} {i : Nat} (h : isT ts s i = true) : hasT ts s i = i + 1 :=by simp [hasT,h]
set_option maxHeartbeats 8000000 in
theorem vX {ts : List Tk} (hn : OkT ts) {f : Nat} (hE : ExpC ts f) {i : Nat} (hi : i < ts.length) (hf : 3 * (ts.length - i) ≤ f) :
  OutH Tryz.prog 159 [pst ts i] [pp] (outP (primaryF (f + 1) ts i) ex ts []) :=by
 have hlen :=hn.len
 obtain ⟨bE,bL,bP,bQ⟩ :=g6 hn f
 have one : ∀ {s : By} {i j : Nat},i < ts.length → wantT ts [s] i = .ok () j → i < j ∧ j < ts.length :=fun hi hw => by have :=bG hn hi hw; simp at this; omega
 have c0 :=gL hn hi
 have wk :=w64 (x :=(i : Int) + 1) (by omega) (by omega)
 have htx :=hn.txt' i
 rw [primaryF]
 refine cR 1 97 [.cell 2 29] Tryz.func159 rfl rfl rfl (by simp) (by decide) rfl fun X hX => ?_
 (repeat (refine aB q14x0 hX mixed rfl ?_; (simp [go_sem]; try (refine ⟨by kernel_rfl,?_⟩))))
 first | refine aF [0] (c0) (by simp [go_sem]) ?_ | refine aD [0] (c0) (by simp [go_sem]) ?_ | refine aE [0] (c0) (by simp [go_sem]) ?_
 try (simp [go_sem]; try (refine ⟨by kernel_rfl,?_⟩))
 (repeat (refine aB q14x0 hX mixed rfl ?_; (simp [go_sem]; try (refine ⟨by kernel_rfl,?_⟩))))
 refine aC (b :=decide ((nx ts i).kind = 2)) (by simp [go_sem]) (fun hb => ?_) (fun hb => ?_)
 · simp at hb
   rw [if_pos hb]
   have hi1 :=hn.last i hi (by rw [hb]; decide)
   have c1 :=CU hn hi1
   cases hu : unitT ts (i + 1) with
   | no p e =>
     (repeat (first | refine bV ?_ | refine bS ?_))
     ((first | refine cG q14x0 hX ?_ | refine bT q14x0 hX mixed ?_ | refine aK ?_ | refine bF ?_ | refine cH ?_); (simp [go_sem,wk]; try (refine ⟨by kernel_rfl,?_⟩)))
     (repeat (first | refine bV ?_ | refine bS ?_))
     refine gM 3 hX mixed (by kernel_rfl) (by kernel_rfl) ?_; (simp [go_sem]; try (refine ⟨by kernel_rfl,?_⟩))
     first | refine aO [0] (aT c1 hu) (by simp [go_sem]) ?_ | refine aL [0] (aT c1 hu) (by simp [go_sem]) ?_
     simp [go_sem,Pr.bind_no]
   | ok u j =>
     rw [Pr.bind_ok,bB]
     (repeat (refine aB q14x0 hX mixed rfl ?_; (simp [go_sem,wk]; try (refine ⟨by kernel_rfl,?_⟩))))
     first | refine aF [0] (aN c1 hu) (by simp [go_sem]) ?_ | refine aD [0] (aN c1 hu) (by simp [go_sem]) ?_ | refine aE [0] (aN c1 hu) (by simp [go_sem]) ?_
     try (simp [go_sem]; try (refine ⟨by kernel_rfl,?_⟩))
     (repeat (refine aB q14x0 hX mixed rfl ?_; (simp [go_sem]; try (refine ⟨by kernel_rfl,?_⟩))))
     refine bX (st0 :=⟨mkE [(2,.el 1 5 0 0),(1000000,.ow 0)],[pst ts j,.row ⟨29,5,[ex (.num (nx ts i).n u)]⟩]⟩) ?_ ?_
     · refine aM _ [.old 0 ⟨119,2,[.agg [.sl (ts.map tk),ii (j)]]⟩,.old 1 ⟨29,5,[ex (.num (nx ts i).n u)]⟩] (by simp [go_sem]) ?_
       simp [go_sem]
     refine aK ?_; (try simp only [thenQ,blkQ,loopQ]); refine aJ [(1000000,.ow 0)] [.old 0 ⟨119,2,[.agg [.sl (ts.map tk),ii (j)]]⟩] ?_
     simp [go_sem]
 · simp at hb
   rw [if_neg hb]
   have c1 :=dY hn hi [116,114,117,101]
   have c2 :=dY hn hi [102,97,108,115,101]
   have c3 :=qM hn hi [109,105,110]
   have c4 :=qM hn hi [109,97,120]
   have c5 :=dY hn hi [40]
   (repeat (refine aB q14x0 hX mixed rfl ?_; (simp [go_sem]; try (refine ⟨by kernel_rfl,?_⟩))))
   first | refine aF [0] (c1) (by simp [go_sem]) ?_ | refine aD [0] (c1) (by simp [go_sem]) ?_ | refine aE [0] (c1) (by simp [go_sem]) ?_
   try (simp [go_sem]; try (refine ⟨by kernel_rfl,?_⟩))
   cases s1 : isT ts [116,114,117,101] i with
   | true =>
     rw [if_pos rfl,jI s1,bB]
     refine aC (b :=true) (by simp [go_sem]) (fun hb => ?_) (fun hb => by cases hb)
     (repeat (refine aB q14x0 hX mixed rfl ?_; (simp [go_sem]; try (refine ⟨by kernel_rfl,?_⟩))))
     refine bX (st0 :=⟨mkE [(2,.el 1 5 0 0),(1000000,.ow 0)],[pst ts (i + 1),.row ⟨29,5,[ex (.num 1 0)]⟩]⟩) ?_ ?_
     · refine aM _ [.old 0 ⟨119,2,[.agg [.sl (ts.map tk),ii ((i + 1 : Nat))]]⟩,.old 1 ⟨29,5,[ex (.num 1 0)]⟩] (by simp [go_sem]) ?_
       simp [go_sem]
     refine aK ?_; (try simp only [thenQ,blkQ,loopQ]); refine aJ [(1000000,.ow 0)] [.old 0 ⟨119,2,[.agg [.sl (ts.map tk),ii ((i + 1 : Nat))]]⟩] ?_
     simp [go_sem]
   | false =>
   rw [if_neg (by simp),jH s1]
   refine aC (b :=false) (by simp [go_sem]) (fun hb => by cases hb) (fun _ => ?_)
   (repeat (refine aB q14x0 hX mixed rfl ?_; (simp [go_sem]; try (refine ⟨by kernel_rfl,?_⟩))))
   first | refine aF [0] (c2) (by simp [go_sem]) ?_ | refine aD [0] (c2) (by simp [go_sem]) ?_ | refine aE [0] (c2) (by simp [go_sem]) ?_
   try (simp [go_sem]; try (refine ⟨by kernel_rfl,?_⟩))
   cases s2 : isT ts [102,97,108,115,101] i with
   | true =>
     rw [if_pos rfl,jI s2,bB]
     refine aC (b :=true) (by simp [go_sem]) (fun hb => ?_) (fun hb => by cases hb)
     (repeat (refine aB q14x0 hX mixed rfl ?_; (simp [go_sem]; try (refine ⟨by kernel_rfl,?_⟩))))
     refine bX (st0 :=⟨mkE [(2,.el 1 5 0 0),(1000000,.ow 0)],[pst ts (i + 1),.row ⟨29,5,[ex (.num 0 0)]⟩]⟩) ?_ ?_
     · refine aM _ [.old 0 ⟨119,2,[.agg [.sl (ts.map tk),ii ((i + 1 : Nat))]]⟩,.old 1 ⟨29,5,[ex (.num 0 0)]⟩] (by simp [go_sem]) ?_
       simp [go_sem]
     refine aK ?_; (try simp only [thenQ,blkQ,loopQ]); refine aJ [(1000000,.ow 0)] [.old 0 ⟨119,2,[.agg [.sl (ts.map tk),ii ((i + 1 : Nat))]]⟩] ?_
     simp [go_sem]
   | false =>
   rw [if_neg (by simp),jH s2]
   refine aC (b :=false) (by simp [go_sem]) (fun hb => by cases hb) (fun _ => ?_)
   (repeat (refine aB q14x0 hX mixed rfl ?_; (simp [go_sem]; try (refine ⟨by kernel_rfl,?_⟩))))
   first | refine aF [0] (c3) (by simp [go_sem]) ?_ | refine aD [0] (c3) (by simp [go_sem]) ?_ | refine aE [0] (c3) (by simp [go_sem]) ?_
   try (simp [go_sem]; try (refine ⟨by kernel_rfl,?_⟩))
   first | refine bA [0] (fun hg => c4) (by simp [go_sem]) (by simp [go_sem]) ?_ | refine bD [0] (by simp [go_sem]) (c4) (by simp [go_sem]) ?_ | refine bC [0] (fun hg => c4) (by simp [go_sem]) ?_
   try (simp [go_sem]; try (refine ⟨by kernel_rfl,?_⟩))
   refine aC (b :=isT ts [109,105,110] i || isT ts [109,97,120] i) (by simp [go_sem]) (fun hd => ?_) (fun hd => ?_)
   · rw [if_pos (by simpa using hd)]
     have hi1 : i + 1 < ts.length :=by
      rcases Bool.or_eq_true _ _ ▸ hd with hs | hs
      · exact hn.has hi hs
      · exact hn.has hi hs
     generalize hop : (if isT ts [109,97,120] i = true then (7 : Int) else 6) = op
     (repeat (first | refine bV ?_ | refine bS ?_))
     ((first | refine cG q14x0 hX ?_ | refine bT q14x0 hX mixed ?_ | refine aK ?_ | refine bF ?_ | refine cH ?_); (simp [go_sem]; try (refine ⟨by kernel_rfl,?_⟩)))
     refine bV ?_
     refine kF ⟨mkE [(0,pp),(2,.el 1 5 0 0),(4,ii op),(1000000,.ow 0)],[pst ts i,.row ⟨29,5,[.agg [ii 0,ii 0,ii 0,ss [],.nil]]⟩]⟩ ?_ ?_
     · (repeat (refine aB q14x0 hX mixed rfl ?_; (simp [go_sem]; try (refine ⟨by kernel_rfl,?_⟩))))
       first | refine aF [0] (c4) (by simp [go_sem]) ?_ | refine aD [0] (c4) (by simp [go_sem]) ?_ | refine aE [0] (c4) (by simp [go_sem]) ?_
       try (simp [go_sem]; try (refine ⟨by kernel_rfl,?_⟩))
       cases hx : isT ts [109,97,120] i with
       | true =>
         rw [hx] at hop
         have hop : (7 : Int) = op :=hop
         subst hop
         refine aC (b :=true) (by simp [go_sem]) (fun hb => ?_) (fun hb => by cases hb)
         (repeat (refine aB q14x0 hX mixed rfl ?_; (simp [go_sem]; try (refine ⟨by kernel_rfl,?_⟩))))
         refine aM _ [.old 0 ⟨119,2,[.agg [.sl (ts.map tk),ii (i)]]⟩,.old 1 ⟨29,5,[.agg [ii 0,ii 0,ii 0,ss [],.nil]]⟩] (by simp [go_sem]) ?_
         simp [go_sem]
       | false =>
         rw [hx] at hop
         have hop : (6 : Int) = op :=hop
         subst hop
         refine aC (b :=false) (by simp [go_sem]) (fun hb => by cases hb) (fun hb => ?_)
         (repeat (refine aB q14x0 hX mixed rfl ?_; (simp [go_sem]; try (refine ⟨by kernel_rfl,?_⟩))))
         refine aM _ [.old 0 ⟨119,2,[.agg [.sl (ts.map tk),ii (i)]]⟩,.old 1 ⟨29,5,[.agg [ii 0,ii 0,ii 0,ss [],.nil]]⟩] (by simp [go_sem]) ?_
         simp [go_sem]
     · (simp [go_sem]; try (refine ⟨by kernel_rfl,?_⟩))
       have d1 :=cW hn hi1 [[40]] (by simp)
       cases w1 : wantT ts [[40]] (i + 1) with
       | no p e =>
         (repeat (refine aB q14x0 hX mixed rfl ?_; (simp [go_sem,wk]; try (refine ⟨by kernel_rfl,?_⟩))))
         first | refine aO [0,2] (aT d1 w1) (by simp [go_sem]) ?_ | refine aL [0,2] (aT d1 w1) (by simp [go_sem]) ?_
         simp [go_sem,Pr.bind_no]
       | ok u j1 =>
       rw [Pr.bind_ok]
       have b1 :=one hi1 w1
       (repeat (refine aB q14x0 hX mixed rfl ?_; (simp [go_sem,wk]; try (refine ⟨by kernel_rfl,?_⟩))))
       first | refine aF [0,2] (aN d1 w1) (by simp [go_sem]) ?_ | refine aD [0,2] (aN d1 w1) (by simp [go_sem]) ?_ | refine aE [0,2] (aN d1 w1) (by simp [go_sem]) ?_
       try (simp [go_sem]; try (refine ⟨by kernel_rfl,?_⟩))
       have d2 :=hE.exp 0 j1 b1.2 (by omega)
       (repeat (refine aB q14x0 hX mixed rfl ?_; (simp [go_sem]; try (refine ⟨by kernel_rfl,?_⟩))))
       cases e1 : expF f ts 0 j1 with
       | no p e =>
         first | refine aO [0] (aT d2 e1) (by simp [go_sem]) ?_ | refine aL [0] (aT d2 e1) (by simp [go_sem]) ?_
         simp [go_sem,Pr.bind_no]
       | ok a j2 =>
       rw [Pr.bind_ok]
       have b2 :=bE _ _ _ _ b1.2 e1
       first | refine aF [0] (aN d2 e1) (by simp [go_sem]) ?_ | refine aD [0] (aN d2 e1) (by simp [go_sem]) ?_ | refine aE [0] (aN d2 e1) (by simp [go_sem]) ?_
       try (simp [go_sem]; try (refine ⟨by kernel_rfl,?_⟩))
       have d3 :=cW hn b2.2 [[44]] (by simp)
       (repeat (refine aB q14x0 hX mixed rfl ?_; (simp [go_sem]; try (refine ⟨by kernel_rfl,?_⟩))))
       cases w2 : wantT ts [[44]] j2 with
       | no p e =>
         first | refine aO [0,4] (aT d3 w2) (by simp [go_sem]) ?_ | refine aL [0,4] (aT d3 w2) (by simp [go_sem]) ?_
         simp [go_sem,Pr.bind_no]
       | ok u j3 =>
       rw [Pr.bind_ok]
       have b3 :=one b2.2 w2
       first | refine aF [0,4] (aN d3 w2) (by simp [go_sem]) ?_ | refine aD [0,4] (aN d3 w2) (by simp [go_sem]) ?_ | refine aE [0,4] (aN d3 w2) (by simp [go_sem]) ?_
       try (simp [go_sem]; try (refine ⟨by kernel_rfl,?_⟩))
       have d4 :=hE.exp 0 j3 b3.2 (by omega)
       (repeat (refine aB q14x0 hX mixed rfl ?_; (simp [go_sem]; try (refine ⟨by kernel_rfl,?_⟩))))
       cases e2 : expF f ts 0 j3 with
       | no p e =>
         first | refine aO [0] (aT d4 e2) (by simp [go_sem]) ?_ | refine aL [0] (aT d4 e2) (by simp [go_sem]) ?_
         simp [go_sem,Pr.bind_no]
       | ok b j4 =>
       rw [Pr.bind_ok]
       have b4 :=bE _ _ _ _ b3.2 e2
       first | refine aF [0] (aN d4 e2) (by simp [go_sem]) ?_ | refine aD [0] (aN d4 e2) (by simp [go_sem]) ?_ | refine aE [0] (aN d4 e2) (by simp [go_sem]) ?_
       try (simp [go_sem]; try (refine ⟨by kernel_rfl,?_⟩))
       have d5 :=cW hn b4.2 [[41]] (by simp)
       (repeat (refine aB q14x0 hX mixed rfl ?_; (simp [go_sem]; try (refine ⟨by kernel_rfl,?_⟩))))
       cases w3 : wantT ts [[41]] j4 with
       | no p e =>
         first | refine aO [0,6] (aT d5 w3) (by simp [go_sem]) ?_ | refine aL [0,6] (aT d5 w3) (by simp [go_sem]) ?_
         simp [go_sem,Pr.bind_no]
       | ok u j5 =>
       rw [Pr.bind_ok,bB]
       first | refine aF [0,6] (aN d5 w3) (by simp [go_sem]) ?_ | refine aD [0,6] (aN d5 w3) (by simp [go_sem]) ?_ | refine aE [0,6] (aN d5 w3) (by simp [go_sem]) ?_
       try (simp [go_sem]; try (refine ⟨by kernel_rfl,?_⟩))
       (repeat (refine aB q14x0 hX mixed rfl ?_; (simp [go_sem]; try (refine ⟨by kernel_rfl,?_⟩))))
       refine bX (st0 :=⟨mkE [(2,.el 1 5 0 0),(1000000,.ow 0)],[pst ts j5,.row ⟨29,5,[ex (.bin op a b)]⟩]⟩) ?_ ?_
       · refine aM _ [.old 0 ⟨119,2,[.agg [.sl (ts.map tk),ii (j5)]]⟩,.old 1 ⟨29,5,[ex (.bin op a b)]⟩] (by simp [go_sem]) ?_
         simp [go_sem]
       refine aK ?_; (try simp only [thenQ,blkQ,loopQ]); refine aJ [(1000000,.ow 0)] [.old 0 ⟨119,2,[.agg [.sl (ts.map tk),ii (j5)]]⟩] ?_
       simp [go_sem]
   · rw [if_neg (by simpa using hd)]
     (repeat (refine aB q14x0 hX mixed rfl ?_; (simp [go_sem]; try (refine ⟨by kernel_rfl,?_⟩))))
     first | refine aF [0] (c5) (by simp [go_sem]) ?_ | refine aD [0] (c5) (by simp [go_sem]) ?_ | refine aE [0] (c5) (by simp [go_sem]) ?_
     try (simp [go_sem]; try (refine ⟨by kernel_rfl,?_⟩))
     cases s5 : isT ts [40] i with
     | true =>
       rw [if_pos rfl,jI s5]
       have hi1 :=hn.has hi s5
       refine aC (b :=true) (by simp [go_sem]) (fun hb => ?_) (fun hb => by cases hb)
       have d1 :=hE.exp 0 (i + 1) hi1 (by omega)
       (repeat (refine aB q14x0 hX mixed rfl ?_; (simp [go_sem]; try (refine ⟨by kernel_rfl,?_⟩))))
       cases e1 : expF f ts 0 (i + 1) with
       | no p e =>
         first | refine aO [0] (aT d1 e1) (by simp [go_sem]) ?_ | refine aL [0] (aT d1 e1) (by simp [go_sem]) ?_
         simp [go_sem,Pr.bind_no]
       | ok a j1 =>
       rw [Pr.bind_ok]
       have b1 :=bE _ _ _ _ hi1 e1
       first | refine aF [0] (aN d1 e1) (by simp [go_sem]) ?_ | refine aD [0] (aN d1 e1) (by simp [go_sem]) ?_ | refine aE [0] (aN d1 e1) (by simp [go_sem]) ?_
       try (simp [go_sem]; try (refine ⟨by kernel_rfl,?_⟩))
       have d2 :=cW hn b1.2 [[41]] (by simp)
       (repeat (refine aB q14x0 hX mixed rfl ?_; (simp [go_sem]; try (refine ⟨by kernel_rfl,?_⟩))))
       cases w1 : wantT ts [[41]] j1 with
       | no p e =>
         first | refine aO [0,4] (aT d2 w1) (by simp [go_sem]) ?_ | refine aL [0,4] (aT d2 w1) (by simp [go_sem]) ?_
         simp [go_sem,Pr.bind_no]
       | ok u j2 =>
       rw [Pr.bind_ok,bB]
       first | refine aF [0,4] (aN d2 w1) (by simp [go_sem]) ?_ | refine aD [0,4] (aN d2 w1) (by simp [go_sem]) ?_ | refine aE [0,4] (aN d2 w1) (by simp [go_sem]) ?_
       try (simp [go_sem]; try (refine ⟨by kernel_rfl,?_⟩))
       (repeat (refine aB q14x0 hX mixed rfl ?_; (simp [go_sem]; try (refine ⟨by kernel_rfl,?_⟩))))
       refine aK ?_; (try simp only [thenQ,blkQ,loopQ]); refine aJ [(1000000,.ow 0)] [.old 0 ⟨119,2,[.agg [.sl (ts.map tk),ii (j2)]]⟩] ?_
       simp [go_sem]
     | false =>
       rw [if_neg (by simp),jH s5]
       refine aC (b :=false) (by simp [go_sem]) (fun hb => by cases hb) (fun _ => ?_)
       have c6 :=oW (nx ts i).text (by omega)
       (repeat (refine aB q14x0 hX mixed rfl ?_; (simp [go_sem]; try (refine ⟨by kernel_rfl,?_⟩))))
       first | refine aX (fun hg => c6) ?_ | refine aW (fun hg => c6) ?_
       try (simp [go_sem]; try (refine ⟨by kernel_rfl,?_⟩))
       by_cases hk : (nx ts i).kind = 1 ∧ nameOk (nx ts i).text = true
       · rw [if_pos hk,bB]
         have c7 :=fJ hn hi 12 (b :=decide ((nx ts i).kind = 1) && nameOk (nx ts i).text) (by simp [hk])
         first | refine aF [0] (c7) (by simp [go_sem]) ?_ | refine aD [0] (c7) (by simp [go_sem]) ?_ | refine aE [0] (c7) (by simp [go_sem]) ?_
         try (simp [go_sem]; try (refine ⟨by kernel_rfl,?_⟩))
         (repeat (refine aB q14x0 hX mixed rfl ?_; (simp [go_sem,wk]; try (refine ⟨by kernel_rfl,?_⟩))))
         refine bX (st0 :=⟨mkE [(2,.el 1 5 0 0),(1000000,.ow 0)],[pst ts (i + 1),.row ⟨29,5,[ex (.nam (nx ts i).text)]⟩]⟩) ?_ ?_
         · refine aM _ [.old 0 ⟨119,2,[.agg [.sl (ts.map tk),ii ((i + 1 : Nat))]]⟩,.old 1 ⟨29,5,[ex (.nam (nx ts i).text)]⟩] (by simp [go_sem]) ?_
           simp [go_sem]
         refine aK ?_; (try simp only [thenQ,blkQ,loopQ]); refine aJ [(1000000,.ow 0)] [.old 0 ⟨119,2,[.agg [.sl (ts.map tk),ii ((i + 1 : Nat))]]⟩] ?_
         simp [go_sem]
       · rw [if_neg hk]
         have c7 :=fK hn hi 12 (b :=decide ((nx ts i).kind = 1) && nameOk (nx ts i).text) (by
          cases hq : nameOk (nx ts i).text <;> simp_all)
         first | refine aO [0] (c7) (by simp [go_sem]) ?_ | refine aL [0] (c7) (by simp [go_sem]) ?_
         simp [go_sem]
set_option maxHeartbeats 8000000 in
theorem yJ {ts : List Tk} (hn : OkT ts) {f : Nat} (hE : ExpC ts f) (hP : ∀ i,i < ts.length → 3 * (ts.length - i) + 1 ≤ f → OutH Tryz.prog 159 [pst ts i] [pp] (outP (primaryF f ts i) ex ts [])) (form : Int) {i : Nat} (hi : i < ts.length) (hf : 3 * (ts.length - i) + 1 ≤ f) :
  OutH Tryz.prog 131 [pst ts i] [pp,ii form] (outP (prefixF (f + 1) ts form i) (fun x => .tup [ex x.1,ii x.2]) ts []) :=by
 have hlen :=hn.len
 obtain ⟨bE,bL,bP,bQ⟩ :=g6 hn f
 have one : ∀ {s : By} {i j : Nat},i < ts.length → wantT ts [s] i = .ok () j → i < j ∧ j < ts.length :=fun hi hw => by have :=bG hn hi hw; simp at this; omega
 have c1 :=dY hn hi [105,102]
 have c2 :=dY hn hi [110,111,116]
 have c3 :=hP i hi hf
 rw [prefixF]
 by_cases h1 : form = 0 ∧ isT ts [105,102] i = true
 · rw [if_pos h1]
   obtain ⟨rfl,s1⟩ :=h1
   have hi1 :=hn.has hi s1
   rw [jI s1,s1] at c1
   have d1 :=hE.exp 0 (i + 1) hi1 (by omega)
   refine cR 1 42 [.cell 4 29,.tmp 5] Tryz.func131 rfl rfl rfl (by simp) (by decide) rfl fun X hX => ?_
   (repeat (refine aB q14x1 hX mixed rfl ?_; (simp [go_sem]; try (refine ⟨by kernel_rfl,?_⟩))))
   first | refine bA [0] (fun hg => c1) (by simp [go_sem]) (by simp [go_sem]) ?_ | refine bD [0] (by simp [go_sem]) (c1) (by simp [go_sem]) ?_ | refine bC [0] (fun hg => c1) (by simp [go_sem]) ?_
   try (simp [go_sem]; try (refine ⟨by kernel_rfl,?_⟩))
   refine aC (b :=true) (by simp [go_sem]) (fun hb => ?_) (fun hb => by cases hb)
   (repeat (refine aB q14x1 hX mixed rfl ?_; (simp [go_sem]; try (refine ⟨by kernel_rfl,?_⟩))))
   cases e1 : expF f ts 0 (i + 1) with
   | no p e =>
     first | refine aO [0] (aT d1 e1) (by simp [go_sem]) ?_ | refine aL [0] (aT d1 e1) (by simp [go_sem]) ?_
     simp [go_sem,Pr.bind_no]
   | ok a j1 =>
   rw [Pr.bind_ok]
   first | refine aF [0] (aN d1 e1) (by simp [go_sem]) ?_ | refine aD [0] (aN d1 e1) (by simp [go_sem]) ?_ | refine aE [0] (aN d1 e1) (by simp [go_sem]) ?_
   try (simp [go_sem]; try (refine ⟨by kernel_rfl,?_⟩))
   have b1 :=bE _ _ _ _ hi1 e1
   have d2 :=cW hn b1.2 [[116,104,101,110]] (by simp)
   (repeat (refine aB q14x1 hX mixed rfl ?_; (simp [go_sem]; try (refine ⟨by kernel_rfl,?_⟩))))
   cases w1 : wantT ts [[116,104,101,110]] j1 with
   | no p e =>
     first | refine aO [0,3] (aT d2 w1) (by simp [go_sem]) ?_ | refine aL [0,3] (aT d2 w1) (by simp [go_sem]) ?_
     simp [go_sem,Pr.bind_no]
   | ok u j2 =>
   rw [Pr.bind_ok]
   first | refine aF [0,3] (aN d2 w1) (by simp [go_sem]) ?_ | refine aD [0,3] (aN d2 w1) (by simp [go_sem]) ?_ | refine aE [0,3] (aN d2 w1) (by simp [go_sem]) ?_
   try (simp [go_sem]; try (refine ⟨by kernel_rfl,?_⟩))
   have b2 :=one b1.2 w1
   have d3 :=hE.exp 0 j2 b2.2 (by omega)
   (repeat (refine aB q14x1 hX mixed rfl ?_; (simp [go_sem]; try (refine ⟨by kernel_rfl,?_⟩))))
   cases e2 : expF f ts 0 j2 with
   | no p e =>
     first | refine aO [0] (aT d3 e2) (by simp [go_sem]) ?_ | refine aL [0] (aT d3 e2) (by simp [go_sem]) ?_
     simp [go_sem,Pr.bind_no]
   | ok b j3 =>
   rw [Pr.bind_ok]
   first | refine aF [0] (aN d3 e2) (by simp [go_sem]) ?_ | refine aD [0] (aN d3 e2) (by simp [go_sem]) ?_ | refine aE [0] (aN d3 e2) (by simp [go_sem]) ?_
   try (simp [go_sem]; try (refine ⟨by kernel_rfl,?_⟩))
   have b3 :=bE _ _ _ _ b2.2 e2
   have d4 :=cW hn b3.2 [[101,108,115,101]] (by simp)
   (repeat (refine aB q14x1 hX mixed rfl ?_; (simp [go_sem]; try (refine ⟨by kernel_rfl,?_⟩))))
   cases w2 : wantT ts [[101,108,115,101]] j3 with
   | no p e =>
     first | refine aO [0,5] (aT d4 w2) (by simp [go_sem]) ?_ | refine aL [0,5] (aT d4 w2) (by simp [go_sem]) ?_
     simp [go_sem,Pr.bind_no]
   | ok u j4 =>
   rw [Pr.bind_ok]
   first | refine aF [0,5] (aN d4 w2) (by simp [go_sem]) ?_ | refine aD [0,5] (aN d4 w2) (by simp [go_sem]) ?_ | refine aE [0,5] (aN d4 w2) (by simp [go_sem]) ?_
   try (simp [go_sem]; try (refine ⟨by kernel_rfl,?_⟩))
   have b4 :=one b3.2 w2
   have d5 :=hE.exp 0 j4 b4.2 (by omega)
   cases e3 : expF f ts 0 j4 with
   | no p e =>
     (repeat (first | refine bV ?_ | refine bS ?_))
     refine gM 3 hX mixed (by kernel_rfl) (by kernel_rfl) ?_; (simp [go_sem]; try (refine ⟨by kernel_rfl,?_⟩))
     first | refine aO [0] (aT d5 e3) (by simp [go_sem]) ?_ | refine aL [0] (aT d5 e3) (by simp [go_sem]) ?_
     simp [go_sem,Pr.bind_no]
   | ok c j5 =>
   rw [Pr.bind_ok,bB]
   (repeat (refine aB q14x1 hX mixed rfl ?_; (simp [go_sem]; try (refine ⟨by kernel_rfl,?_⟩))))
   first | refine aF [0] (aN d5 e3) (by simp [go_sem]) ?_ | refine aD [0] (aN d5 e3) (by simp [go_sem]) ?_ | refine aE [0] (aN d5 e3) (by simp [go_sem]) ?_
   try (simp [go_sem]; try (refine ⟨by kernel_rfl,?_⟩))
   (repeat (refine aB q14x1 hX mixed rfl ?_; (simp [go_sem]; try (refine ⟨by kernel_rfl,?_⟩))))
   refine bX (st0 :=⟨mkE [(4,.el 1 5 0 0),(5,ii 0),(1000000,.ow 0)],[pst ts j5,.row ⟨29,5,[ex (.ite a b c)]⟩]⟩) ?_ ?_
   · refine aM _ [.old 0 ⟨119,2,[.agg [.sl (ts.map tk),ii (j5)]]⟩,.old 1 ⟨29,5,[ex (.ite a b c)]⟩] (by simp [go_sem]) ?_
     simp [go_sem]
   refine aK ?_; (try simp only [thenQ,blkQ,loopQ]); refine aJ [(5,ii 0),(1000000,.ow 0)] [.old 0 ⟨119,2,[.agg [.sl (ts.map tk),ii (j5)]]⟩] ?_
   simp [go_sem]
 · rw [if_neg h1]
   refine cR 1 42 [.cell 4 29,.tmp 5] Tryz.func131 rfl rfl rfl (by simp) (by decide) rfl fun X hX => ?_
   (repeat (first | refine bV ?_ | refine bS ?_))
   ((first | refine cG q14x1 hX ?_ | refine bT q14x1 hX mixed ?_ | refine aK ?_ | refine bF ?_ | refine cH ?_); (simp [go_sem]; try (refine ⟨by kernel_rfl,?_⟩)))
   refine bV ?_
   refine kF ⟨mkE [(0,pp),(1,ii form),(4,.el 1 5 0 0),(5,ii 0),(1000000,.ow 0)],[pst ts i,.row ⟨29,5,[.agg [ii 0,ii 0,ii 0,ss [],.nil]]⟩]⟩ ?_ ?_
   · by_cases hf0 : form = 0
     · have s1 : isT ts [105,102] i = false :=by
        cases hs : isT ts [105,102] i with
        | true => exact absurd ⟨hf0,hs⟩ h1
        | false => rfl
       subst hf0
       rw [jH s1,s1] at c1
       (repeat (refine aB q14x1 hX mixed rfl ?_; (simp [go_sem]; try (refine ⟨by kernel_rfl,?_⟩))))
       first | refine bA [0] (fun hg => c1) (by simp [go_sem]) (by simp [go_sem]) ?_ | refine bD [0] (by simp [go_sem]) (c1) (by simp [go_sem]) ?_ | refine bC [0] (fun hg => c1) (by simp [go_sem]) ?_
       try (simp [go_sem]; try (refine ⟨by kernel_rfl,?_⟩))
       refine aC (b :=false) (by simp [go_sem]) (fun hb => by cases hb) (fun hb => ?_)
       (repeat (refine aB q14x1 hX mixed rfl ?_; (simp [go_sem]; try (refine ⟨by kernel_rfl,?_⟩))))
       refine aM _ [.old 0 ⟨119,2,[.agg [.sl (ts.map tk),ii (i)]]⟩,.old 1 ⟨29,5,[.agg [ii 0,ii 0,ii 0,ss [],.nil]]⟩] (by simp [go_sem]) ?_
       simp [go_sem]
     · (repeat (refine aB q14x1 hX mixed rfl ?_; (simp [go_sem,hf0]; try (refine ⟨by kernel_rfl,?_⟩))))
       first | refine cJ rfl ?_ | refine bO rfl ?_
       try (simp [go_sem,hf0]; try (refine ⟨by kernel_rfl,?_⟩))
       refine aC (b :=false) (by simp [go_sem,hf0]) (fun hb => by cases hb) (fun hb => ?_)
       (repeat (refine aB q14x1 hX mixed rfl ?_; (simp [go_sem]; try (refine ⟨by kernel_rfl,?_⟩))))
       refine aM _ [.old 0 ⟨119,2,[.agg [.sl (ts.map tk),ii (i)]]⟩,.old 1 ⟨29,5,[.agg [ii 0,ii 0,ii 0,ss [],.nil]]⟩] (by simp [go_sem]) ?_
       simp [go_sem]
   (simp [go_sem]; try (refine ⟨by kernel_rfl,?_⟩))
   by_cases h2 : form ≤ 3 ∧ isT ts [110,111,116] i = true
   · rw [if_pos h2]
     obtain ⟨hf3,s2⟩ :=h2
     have hi1 :=hn.has hi s2
     rw [jI s2,s2] at c2
     have d1 :=hE.exp 3 (i + 1) hi1 (by omega)
     (repeat (refine aB q14x1 hX mixed rfl ?_; (simp [go_sem,hf3]; try (refine ⟨by kernel_rfl,?_⟩))))
     first | refine bA [0] (fun hg => c2) (by simp [go_sem]) (by simp [go_sem]) ?_ | refine bD [0] (by simp [go_sem]) (c2) (by simp [go_sem]) ?_ | refine bC [0] (fun hg => c2) (by simp [go_sem]) ?_
     try (simp [go_sem]; try (refine ⟨by kernel_rfl,?_⟩))
     refine aC (b :=true) (by simp [go_sem]) (fun hb => ?_) (fun hb => by cases hb)
     (repeat (refine aB q14x1 hX mixed rfl ?_; (simp [go_sem]; try (refine ⟨by kernel_rfl,?_⟩))))
     cases e1 : expF f ts 3 (i + 1) with
     | no p e =>
       first | refine aO [0] (aT d1 e1) (by simp [go_sem]) ?_ | refine aL [0] (aT d1 e1) (by simp [go_sem]) ?_
       simp [go_sem,Pr.bind_no]
     | ok a j =>
     rw [Pr.bind_ok,bB]
     first | refine aF [0] (aN d1 e1) (by simp [go_sem]) ?_ | refine aD [0] (aN d1 e1) (by simp [go_sem]) ?_ | refine aE [0] (aN d1 e1) (by simp [go_sem]) ?_
     try (simp [go_sem]; try (refine ⟨by kernel_rfl,?_⟩))
     (repeat (refine aB q14x1 hX mixed rfl ?_; (simp [go_sem]; try (refine ⟨by kernel_rfl,?_⟩))))
     refine bX (st0 :=⟨mkE [(4,.el 1 5 0 0),(5,ii 3),(1000000,.ow 0)],[pst ts j,.row ⟨29,5,[ex (.un a)]⟩]⟩) ?_ ?_
     · refine aM _ [.old 0 ⟨119,2,[.agg [.sl (ts.map tk),ii (j)]]⟩,.old 1 ⟨29,5,[ex (.un a)]⟩] (by simp [go_sem]) ?_
       simp [go_sem]
     refine aK ?_; (try simp only [thenQ,blkQ,loopQ]); refine aJ [(5,ii 3),(1000000,.ow 0)] [.old 0 ⟨119,2,[.agg [.sl (ts.map tk),ii (j)]]⟩] ?_
     simp [go_sem]
   · rw [if_neg h2]
     refine bV ?_
     refine kF ⟨mkE [(0,pp),(4,.el 1 5 0 0),(5,ii 0),(1000000,.ow 0)],[pst ts i,.row ⟨29,5,[.agg [ii 0,ii 0,ii 0,ss [],.nil]]⟩]⟩ ?_ ?_
     · by_cases hf3 : form ≤ 3
       · have s2 : isT ts [110,111,116] i = false :=by
          cases hs : isT ts [110,111,116] i with
          | true => exact absurd ⟨hf3,hs⟩ h2
          | false => rfl
         rw [jH s2,s2] at c2
         (repeat (refine aB q14x1 hX mixed rfl ?_; (simp [go_sem,hf3]; try (refine ⟨by kernel_rfl,?_⟩))))
         first | refine bA [0] (fun hg => c2) (by simp [go_sem]) (by simp [go_sem]) ?_ | refine bD [0] (by simp [go_sem]) (c2) (by simp [go_sem]) ?_ | refine bC [0] (fun hg => c2) (by simp [go_sem]) ?_
         try (simp [go_sem]; try (refine ⟨by kernel_rfl,?_⟩))
         refine aC (b :=false) (by simp [go_sem]) (fun hb => by cases hb) (fun hb => ?_)
         (repeat (refine aB q14x1 hX mixed rfl ?_; (simp [go_sem]; try (refine ⟨by kernel_rfl,?_⟩))))
         refine aM _ [.old 0 ⟨119,2,[.agg [.sl (ts.map tk),ii (i)]]⟩,.old 1 ⟨29,5,[.agg [ii 0,ii 0,ii 0,ss [],.nil]]⟩] (by simp [go_sem]) ?_
         simp [go_sem]
       · (repeat (refine aB q14x1 hX mixed rfl ?_; (simp [go_sem,hf3]; try (refine ⟨by kernel_rfl,?_⟩))))
         first | refine cJ rfl ?_ | refine bO rfl ?_
         try (simp [go_sem,hf3]; try (refine ⟨by kernel_rfl,?_⟩))
         refine aC (b :=false) (by simp [go_sem,hf3]) (fun hb => by cases hb) (fun hb => ?_)
         (repeat (refine aB q14x1 hX mixed rfl ?_; (simp [go_sem]; try (refine ⟨by kernel_rfl,?_⟩))))
         refine aM _ [.old 0 ⟨119,2,[.agg [.sl (ts.map tk),ii (i)]]⟩,.old 1 ⟨29,5,[.agg [ii 0,ii 0,ii 0,ss [],.nil]]⟩] (by simp [go_sem]) ?_
         simp [go_sem]
     (simp [go_sem]; try (refine ⟨by kernel_rfl,?_⟩))
     (repeat (refine aB q14x1 hX mixed rfl ?_; (simp [go_sem]; try (refine ⟨by kernel_rfl,?_⟩))))
     cases e1 : primaryF f ts i with
     | no p e =>
       first | refine aO [0] (aT c3 e1) (by simp [go_sem]) ?_ | refine aL [0] (aT c3 e1) (by simp [go_sem]) ?_
       simp [go_sem,Pr.bind_no]
     | ok a j =>
     rw [Pr.bind_ok,bB]
     first | refine aF [0] (aN c3 e1) (by simp [go_sem]) ?_ | refine aD [0] (aN c3 e1) (by simp [go_sem]) ?_ | refine aE [0] (aN c3 e1) (by simp [go_sem]) ?_
     try (simp [go_sem]; try (refine ⟨by kernel_rfl,?_⟩))
     (repeat (refine aB q14x1 hX mixed rfl ?_; (simp [go_sem]; try (refine ⟨by kernel_rfl,?_⟩))))
     refine aK ?_; (try simp only [thenQ,blkQ,loopQ]); refine aJ [(5,ii 7),(1000000,.ow 0)] [.old 0 ⟨119,2,[.agg [.sl (ts.map tk),ii (j)]]⟩] ?_
     simp [go_sem]
end Go.Proofs.YtaolljbpencjnaaGreatDoor

