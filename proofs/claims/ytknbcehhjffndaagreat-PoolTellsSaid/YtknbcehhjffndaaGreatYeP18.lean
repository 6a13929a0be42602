/-
  Lemmas for the statement at the top.
-/
import Derived.Test.YtknbcehhjffndaaGreatYeP17
import Derived.Test.YtknbcehhjffndaaGreatRows
import Derived.Test.YtknbcehhjffndaaGreatYeP14
import Derived.Test.YtknbcehhjffndaaGreatYeFw5
set_option linter.all false
namespace Go.Ab
def q14x0 : List Nat :=[0,2,3,4,5,6,7,8,9,10,11,12,13,14,15,16,17,18,19,20,21,22,29,34,82,101,106,116]
def q14x1 : List Nat :=[0,1,4,5,10,14,17,18,19,20,21,22,23,24,25,26,27,28,29,30,31,32,33,34,35,36,37,38,39,40,41,42,43,44,45,46,47,48,49,50,51,52,53,54,55,56,57,58,59,60,61,62,63,64,65,66,67,68,69,70,71,72,73,74,75,76,77,78,79,80,81]
def q14x2 : List Nat :=[0,2,3,4,5,6,7,8,9,10,11,12,13,17]
def q14x3 : List Nat :=[0,2,3,4,5,6,7,8,9,10,11,12,13,15,16,17,18,19,21,28,30,31,32,33,75,76,77,78,95,100,101,102,103,108,109,110,111]
attribute [go_sem] q14x0 q14x1 q14x2 q14x3
end Go.Ab
namespace Go.Proofs.YtknbcehhjffndaaGreat
open Go.RowKit Go.Ab
attribute [-simp] List.map_take
attribute [local irreducible] AWP Go.Ab.Sub Means MeansH CallK CallG CallT CallGT CallU
theorem GP {HS : List Src} {H : List Cell} (L : List Fd) (f : Fd) (hc : f.claims = []) {x : AV} (hx : okB HS H x (il f.cedes)) : okEs HS H (L.map fo ++ [.agg [ii f.holds,ii f.reserve,ii f.income,.nil,x]]) (L.map fo ++ [fo f]) :=
 gN (v8 L) ⟨⟨rfl,rfl,rfl,.inr (.inl ⟨rfl,by simp [awl,hc]⟩),hx,trivial⟩,trivial⟩
theorem J7 {HS : List Src} {H : List Cell} (L : List (List (Int × Int))) {x : AV} {l : List (Int × Int)} (hx : okB HS H x (awl l)) : okEs HS H (L.map awl ++ [x]) ((L ++ [l]).map awl) :=by
 rw [List.map_append]
 refine gN (oD (GD L)) ⟨?_,trivial⟩
 cases x with
 | agg cs =>
   exfalso
   rcases hx with h | ⟨h,_⟩ | ⟨_,_,h,_⟩ | ⟨_,_,_,_,_,h,_⟩ <;> cases h
 | _ => exact hx
theorem DC (F : List Fd) (hf : fewV F = true) (hr : rightV F = false) : Means false Tryz.prog 9 [.sl (F.map fo)] (.tup [.sl [],.sl [],ii 1]) :=by
 have c1 :=t7 F hf hr
 refine aB false 144 [.tmp 2,.tmp 3,.tmp 4] Tryz.func9 rfl rfl rfl (by simp) (by decide) rfl fun X hX => ?_
 (repeat (refine a6 q14x0 hX a7 rfl ?_; (simp [go_sem]; try (refine ⟨by kernel_rfl,?_⟩))))
 first | refine a9 (c1) ?_ | refine aE (c1) ?_
 try (simp [go_sem]; try (refine ⟨by kernel_rfl,?_⟩))
 (repeat (refine a6 q14x0 hX a7 rfl ?_; (simp [go_sem]; try (refine ⟨by kernel_rfl,?_⟩))))
 refine a8 (b :=true) (by simp [go_sem]) (fun _ => ?_) (fun h => by cases h)
 (repeat (refine a6 q14x0 hX a7 rfl ?_; (simp [go_sem]; try (refine ⟨by kernel_rfl,?_⟩))))
theorem GQ (F : List Fd) (hf : fewV F = true) (hr : rightV F = false) : Means false Tryz.prog 8 [.sl (F.map fo)] (.tup [.sl [],.sl [],ii 1]) :=by
 have c1 :=wZ F hf hr
 refine aB false 135 [.tmp 2,.tmp 3,.tmp 4] Tryz.func8 rfl rfl rfl (by simp) (by decide) rfl fun X hX => ?_
 (repeat (refine a6 q14x3 hX a7 rfl ?_; (simp [go_sem]; try (refine ⟨by kernel_rfl,?_⟩))))
 first | refine a9 (c1) ?_ | refine aE (c1) ?_
 try (simp [go_sem]; try (refine ⟨by kernel_rfl,?_⟩))
 (repeat (refine a6 q14x3 hX a7 rfl ?_; (simp [go_sem]; try (refine ⟨by kernel_rfl,?_⟩))))
 refine a8 (b :=true) (by simp [go_sem]) (fun _ => ?_) (fun h => by cases h)
 (repeat (refine a6 q14x3 hX a7 rfl ?_; (simp [go_sem]; try (refine ⟨by kernel_rfl,?_⟩))))
set_option maxHeartbeats 8000000 in
set_option maxRecDepth 20000 in
theorem J8 (F : List Fd) (hf : fewV F = true) (hr : rightV F = true) : Means false Tryz.prog 9 [.sl (F.map fo)] (.tup [.sl ((outK F (owedL F) F.length).map fo),.sl ((awAll F (gets F) F.length).map awl),ii 0]) :=by
 have h5 :=mS hf
 have hv :=s8 hr
 have c1 :=BK F hf hr
 have hY :=BL hf hr
 have hpb :=oF hv hY.ol fun x hx => (hY.ob x hx).1
 have hrc : rightC (asksK F F.length) (paidK F (owedL F) F.length) = true :=by
  have h1 :=hpb F.length (Nat.le_refl _)
  have h2 :=hY.al
  simp only [rightC,hY.ok,okH,Bool.true_and,Bool.and_eq_true,decide_eq_true_eq]
  omega
 have c2 :=GR (asksK F F.length) (by have :=hY.al; omega) (paidK F (owedL F) F.length)
 rw [if_pos hrc,if_pos hrc] at c2
 have hG : share (asksK F F.length) (paidK F (owedL F) F.length) = gets F :=rfl
 rw [hG] at c2
 have hol :=hY.ol
 have hob :=hY.ob
 have hGl :=hY.gl
 have hal :=hY.al
 clear hrc hG hY
 generalize gets F = G at *
 generalize owedL F = o at *
 refine aB false 144 [.tmp 2,.tmp 3,.tmp 4] Tryz.func9 rfl rfl rfl (by simp) (by decide) rfl fun X hX => ?_
 (repeat (refine a6 q14x0 hX a7 rfl ?_; (simp [go_sem]; try (refine ⟨by kernel_rfl,?_⟩))))
 first | refine a9 (c1) ?_ | refine aE (c1) ?_
 try (simp [go_sem]; try (refine ⟨by kernel_rfl,?_⟩))
 (repeat (refine a6 q14x0 hX a7 rfl ?_; (simp [go_sem]; try (refine ⟨by kernel_rfl,?_⟩))))
 refine a8 (b :=false) (by simp [go_sem]) (fun h => by cases h) (fun _ => ?_)
 (repeat (refine a6 q14x0 hX a7 rfl ?_; (simp [go_sem]; try (refine ⟨by kernel_rfl,?_⟩))))
 refine aF (fun k : Nat => ⟨mkE [(0,.sl (F.map fo)),(5,il o),(7,.ow 0),(8,.ow 1),(9,ii (paidK F o k)),(10,ii k)],[.row ⟨39,5,(outK F o k).map fo⟩,.row ⟨3,1,(asksK F k).map ii⟩]⟩) (fun k => k ≤ F.length) (fun k => F.length - k) 0 ?_ ?_ ?_
 · refine aA _ [.birth 39 5,.birth 3 1] (by simp [go_sem]) ?_
   simp [go_sem,outK,asksK,paidK,sumI]
 · omega
 · intro k hk
   have hpk :=hpb k hk
   have hakl :=vA hk
   (repeat (refine a6 q14x0 hX a7 rfl ?_; (simp [go_sem]; try (refine ⟨by kernel_rfl,?_⟩))))
   refine a8 (b :=decide (k < F.length)) (by simp [go_sem]) (fun hb => ?_) (fun hb => ?_)
   · simp at hb
     have hko : k < o.length :=by omega
     have hcl :=fG hf (List.getElem_mem hb)
     have hat :=hv.at' k hb
     have e1 :=s9 (o :=o) hb hko
     have e2 :=i6 (o :=o) hb hko
     have e3 :=d9 hb
     have e4 :=y7 hb
     have hakl2 :=vA (F :=F) (i :=k + 1) (by omega)
     have hpk1 :=hpb (k + 1) (by omega)
     have hq :=hob o[k] (List.getElem_mem hko)
     have dh :=LR F[k] (hv.am F[k] (List.getElem_mem hb))
     have h1 :=hat.hol
     have h2 :=hat.res
     have h3 :=hat.inc
     have hH : hasF F[k] = F[k].income + F[k].holds + F[k].reserve :=rfl
     rw [hH] at dh
     have hk4 :=pN F o k
     have hced :=hat.len
     have w1 :=w64 (x :=paidK F o k + min o[k] (F[k].income + F[k].holds + F[k].reserve)) (by omega) (by omega)
     have w2 :=w64 (x :=F[k].income + F[k].holds) (by omega) (by omega)
     have w3 :=w64 (x :=F[k].income + F[k].holds - min o[k] (F[k].income + F[k].holds + F[k].reserve)) (by omega) (by omega)
     have w4 :=w64 (x :=min o[k] (F[k].income + F[k].holds + F[k].reserve) - (F[k].income + F[k].holds)) (by omega) (by omega)
     have w5 :=w64 (x :=F[k].reserve - max 0 (min o[k] (F[k].income + F[k].holds + F[k].reserve) - (F[k].income + F[k].holds))) (by omega) (by omega)
     (repeat (refine a6 q14x0 hX a7 rfl ?_; (simp [go_sem,hb,hko]; try (refine ⟨by kernel_rfl,?_⟩))))
     first | refine a9 (dh) ?_ | refine aE (dh) ?_
     try (simp [go_sem,hko]; try (refine ⟨by kernel_rfl,?_⟩))
     have hF : outF F[k] o[k] = ⟨max 0 (F[k].income + F[k].holds - min o[k] (F[k].income + F[k].holds + F[k].reserve)),F[k].reserve - max 0 (min o[k] (F[k].income + F[k].holds + F[k].reserve) - (F[k].income + F[k].holds)),0,[],F[k].cedes⟩ :=by
      unfold outF
      simp only [freeV,Fd.mk.injEq,and_true]
      omega
     (repeat (refine a6 q14x0 hX a7 rfl ?_; (simp [go_sem,hb,hko,w1,w2,w3,w4,w5]; try (refine ⟨by kernel_rfl,?_⟩))))
     (repeat refine And.intro (by first | omega | (unfold maxLen; omega) | kernel_rfl | (refine ⟨by first | omega | (unfold maxLen; omega),by first | omega | (unfold maxLen; omega)⟩) | grind) ?_)
     (repeat (refine a6 q14x0 hX a7 rfl ?_; (simp [go_sem,hk4]; try (refine ⟨by kernel_rfl,?_⟩))))
     (repeat refine And.intro (by first | omega | (unfold maxLen; omega) | kernel_rfl | (refine ⟨by first | omega | (unfold maxLen; omega),by first | omega | (unfold maxLen; omega)⟩) | grind) ?_)
     (repeat (refine a6 q14x0 hX a7 rfl ?_; (simp [go_sem,hk4]; try (refine ⟨by kernel_rfl,?_⟩))))
     refine aF (fun j : Nat => ⟨mkE [(0,.sl (F.map fo)),(5,il o),(7,.ow 0),(8,.ow 1),(9,ii (paidK F o (k + 1))),(10,ii k),(11,.el 2 5 0 0),(15,ii j)],[.row ⟨39,5,(outK F o (k + 1)).map fo⟩,.row ⟨3,1,(asksJ F k j).map ii⟩,.row ⟨39,5,[fo F[k]]⟩]⟩) (fun j => j ≤ F[k].claims.length) (fun j => F[k].claims.length - j) 0 ?_ ?_ ?_
     · have za :=EV (asksK F k)
       have zc :=EV F[k].cedes
       rw [AO,e1]
       refine aA _ [.old 6 ⟨39,5,(outK F o k ++ [outF F[k] o[k]]).map fo⟩,.old 1 ⟨3,1,(asksK F k).map ii⟩,.old 2 ⟨39,5,[fo F[k]]⟩] ⟨⟨⟨rfl,rfl⟩,.inr ?_⟩,rfl,⟨⟨rfl,rfl⟩,.inl ⟨rfl,za⟩⟩,rfl,⟨⟨rfl,rfl⟩,.inl ⟨rfl,rfl⟩⟩,rfl,trivial⟩ ?_
       · rw [List.map_append,hF]
         exact GP (outK F o k) ⟨max 0 (F[k].income + F[k].holds - min o[k] (F[k].income + F[k].holds + F[k].reserve)),F[k].reserve - max 0 (min o[k] (F[k].income + F[k].holds + F[k].reserve) - (F[k].income + F[k].holds)),0,[],F[k].cedes⟩ rfl (.inr (.inr (.inl ⟨4,_,rfl,rfl,rfl,zc,rfl⟩)))
       · simp only [payV,freeV] at e2
         simp [go_sem,e2]
     · omega
     · intro j hj
       have lj :=sB hb hj
       (repeat (refine a6 q14x0 hX a7 rfl ?_; (simp [go_sem]; try (refine ⟨by kernel_rfl,?_⟩))))
       refine a8 (b :=decide (j < F[k].claims.length)) (by simp [go_sem]) (fun hc => ?_) (fun hc => ?_)
       · simp at hc
         have ej :=pM hb hc
         (repeat (refine a6 q14x0 hX a7 rfl ?_; (simp [go_sem,hc]; try (refine ⟨by kernel_rfl,?_⟩))))
         (repeat refine And.intro (by first | omega | (unfold maxLen; omega) | kernel_rfl | (refine ⟨by first | omega | (unfold maxLen; omega),by first | omega | (unfold maxLen; omega)⟩) | grind) ?_)
         (repeat (refine a6 q14x0 hX a7 rfl ?_; (simp [go_sem,hc,lj]; (try simp (disch :=omega) only [w64,td,tm]); try (refine ⟨by kernel_rfl,?_⟩))))
         (repeat refine And.intro (by first | omega | (unfold maxLen; omega) | kernel_rfl | (refine ⟨by first | omega | (unfold maxLen; omega),by first | omega | (unfold maxLen; omega)⟩) | grind) ?_)
         (repeat (refine a6 q14x0 hX a7 rfl ?_; (simp [go_sem,hc,lj]; (try simp (disch :=omega) only [w64,td,tm]); try (refine ⟨by kernel_rfl,?_⟩))))
         refine ⟨j + 1,by omega,by omega,?_⟩
         rw [ej]
         refine aA _ [.old 0 ⟨39,5,(outK F o (k + 1)).map fo⟩,.old 4 ⟨3,1,(asksJ F k j ++ [F[k].claims[j].2]).map ii⟩,.old 2 ⟨39,5,[fo F[k]]⟩] (by simp [go_sem,k9]) ?_
         simp [go_sem]
       · have hjl : j = F[k].claims.length :=by simp at hc; omega
         subst hjl
         rw [sA hb]
         (repeat (refine a6 q14x0 hX a7 rfl ?_; (simp [go_sem]; (try simp (disch :=omega) only [w64,td,tm]); try (refine ⟨by kernel_rfl,?_⟩))))
         refine ⟨k + 1,by omega,by omega,?_⟩
         refine aA _ [.old 0 ⟨39,5,(outK F o (k + 1)).map fo⟩,.old 1 ⟨3,1,(asksK F (k + 1)).map ii⟩] (by simp [go_sem,k9]) ?_
         simp [go_sem]
   · have hkl : k = F.length :=by simp at hb; omega
     subst hkl
     (repeat (refine a6 q14x0 hX a7 rfl ?_; (simp [go_sem]; try (refine ⟨by kernel_rfl,?_⟩))))
     first | refine a9 (c2) ?_ | refine aE (c2) ?_
     try (simp [go_sem]; try (refine ⟨by kernel_rfl,?_⟩))
     (repeat (refine a6 q14x0 hX a7 rfl ?_; (simp [go_sem]; try (refine ⟨by kernel_rfl,?_⟩))))
     refine a8 (b :=false) (by simp [go_sem]) (fun h => by cases h) (fun _ => ?_)
     (repeat (refine a6 q14x0 hX a7 rfl ?_; (simp [go_sem]; try (refine ⟨by kernel_rfl,?_⟩))))
     refine aF (fun i : Nat => ⟨mkE [(0,.sl (F.map fo)),(7,.sl ((outK F o F.length).map fo)),(16,il G),(18,ii (asksK F i).length),(19,.ow 0),(20,ii i)],[.row ⟨37,1,(awAll F G i).map awl⟩]⟩) (fun i => i ≤ F.length) (fun i => F.length - i) 0 ?_ ?_ ?_
     · have a0 : (asksK F 0).length = 0 :=by simp [asksK]
       have zo :=k9 (outK F o F.length)
       rw [a0]
       refine aA _ [.birth 37 1] (by simp [go_sem]) ?_
       simp [go_sem,zo,awAll]
     · omega
     · intro i hi
       have hoi :=vA hi
       have la :=sC F G i
       (repeat (refine a6 q14x0 hX a7 rfl ?_; (simp [go_sem]; try (refine ⟨by kernel_rfl,?_⟩))))
       refine a8 (b :=decide (i < F.length)) (by simp [go_sem]) (fun hb => ?_) (fun hb => ?_)
       · simp at hb
         have hcl :=fG hf (List.getElem_mem hb)
         have hnl :=y7 hb
         have hoi2 :=vA (F :=F) (i :=i + 1) (by omega)
         have n5 :=pO (G :=G) hb
         have zw :=qN (awAll F G i)
         (repeat (refine a6 q14x0 hX a7 rfl ?_; (simp [go_sem,hb]; try (refine ⟨by kernel_rfl,?_⟩))))
         refine aF (fun j : Nat => ⟨mkE [(0,.sl (F.map fo)),(7,.sl ((outK F o F.length).map fo)),(16,il G),(18,ii ((asksK F i).length + j : Nat)),(19,.ow 0),(20,ii i),(21,.ow 1),(22,ii j)],[.row ⟨37,1,(awAll F G i).map awl⟩,.row ⟨36,2,(awK F G i j).map cl⟩]⟩) (fun j => j ≤ F[i].claims.length) (fun j => F[i].claims.length - j) 0 ?_ ?_ ?_
         · refine aA _ [.old 0 ⟨37,1,(awAll F G i).map awl⟩,.birth 36 2] ⟨⟨⟨rfl,rfl⟩,.inl ⟨rfl,zw⟩⟩,rfl,trivial⟩ ?_
           simp [go_sem]
         · omega
         · intro j hj
           have hal2 :=uA F G i j
           (repeat (refine a6 q14x0 hX a7 rfl ?_; (simp [go_sem,hb]; try (refine ⟨by kernel_rfl,?_⟩))))
           refine a8 (b :=decide (j < F[i].claims.length)) (by simp [go_sem]) (fun hc => ?_) (fun hc => ?_)
           · simp at hc
             have hg : (asksK F i).length + j < G.length :=by omega
             have wg :=w64 (x :=(((asksK F i).length + j : Nat) : Int) + 1) (by omega) (by omega)
             have n6 :=wX (G :=G) hb hc hg
             (repeat (refine a6 q14x0 hX a7 rfl ?_; (simp [go_sem,hb,hc,hg,hal2]; try (refine ⟨by kernel_rfl,?_⟩))))
             (repeat refine And.intro (by first | omega | (unfold maxLen; omega) | kernel_rfl | (refine ⟨by first | omega | (unfold maxLen; omega),by first | omega | (unfold maxLen; omega)⟩) | grind) ?_)
             (repeat (refine a6 q14x0 hX a7 rfl ?_; (simp [go_sem,hb,hc,hg,hal2,wg]; (try simp (disch :=omega) only [w64,td,tm]); try (refine ⟨by kernel_rfl,?_⟩))))
             refine ⟨j + 1,by omega,by omega,?_⟩
             rw [n6]
             refine aA _ [.old 0 ⟨37,1,(awAll F G i).map awl⟩,.old 3 ⟨36,2,(awK F G i j ++ [(F[i].claims[j].1,G[(asksK F i).length + j])]).map cl⟩] ⟨⟨⟨rfl,rfl⟩,.inl ⟨rfl,zw⟩⟩,rfl,⟨⟨rfl,rfl⟩,.inl ⟨?_,oE _⟩⟩,rfl,trivial⟩ ?_
             · simp [go_sem]
             · simp [go_sem]
               try omega
           · have hjl : j = F[i].claims.length :=by simp at hc; omega
             subst hjl
             have zk :=oE (awK F G i F[i].claims.length)
             (repeat (refine a6 q14x0 hX a7 rfl ?_; (simp [go_sem,la]; try (refine ⟨by kernel_rfl,?_⟩))))
             (repeat refine And.intro (by first | omega | (unfold maxLen; omega) | kernel_rfl | (refine ⟨by first | omega | (unfold maxLen; omega),by first | omega | (unfold maxLen; omega)⟩) | grind) ?_)
             (repeat (refine a6 q14x0 hX a7 rfl ?_; (simp [go_sem,la]; (try simp (disch :=omega) only [w64,td,tm]); try (refine ⟨by kernel_rfl,?_⟩))))
             refine ⟨i + 1,by omega,by omega,?_⟩
             rw [n5]
             refine aA _ [.old 3 ⟨37,1,(awAll F G i ++ [awK F G i F[i].claims.length]).map awl⟩] ⟨⟨⟨rfl,rfl⟩,.inr ?_⟩,rfl,trivial⟩ ?_
             · exact J7 _ (.inr (.inr (.inl ⟨1,_,rfl,rfl,rfl,zk,rfl⟩)))
             · simp [go_sem,hnl]
       · have hin : i = F.length :=by simp at hb; omega
         subst hin
         have zw :=qN (awAll F G F.length)
         (repeat (refine a6 q14x0 hX a7 rfl ?_; (simp [go_sem,zw]; try (refine ⟨by kernel_rfl,?_⟩))))
         try rfl
end Go.Proofs.YtknbcehhjffndaaGreat

namespace Go.Proofs.YtknbcehhjffndaaGreat
open Go.RowKit Go.Ab
attribute [-simp] List.map_take
attribute [local irreducible] AWP Go.Ab.Sub Means MeansH CallK CallG CallT CallGT CallU
set_option maxHeartbeats 4000000 in
set_option maxRecDepth 20000 in
theorem qP (L : List Fd) (hl : L.length ≤ 100) (h : ∀ f ∈ L,f.claims.length ≤ 100 ∧ f.cedes.length ≤ 100) : Means true Tryz.prog 13 [.sl (L.map fo),.sl (L.map fo)] (bb true) :=by
 refine aB true 82 [.tmp 4] Tryz.func13 rfl rfl rfl (by simp) (by decide) rfl fun X hX => ?_
 (repeat (refine a6 q14x1 hX a7 rfl ?_; (simp [go_sem]; try (refine ⟨by kernel_rfl,?_⟩))))
 refine a8 (b :=false) (by simp [go_sem]) (fun h => by cases h) (fun _ => ?_)
 (repeat (refine a6 q14x1 hX a7 rfl ?_; (simp [go_sem]; try (refine ⟨by kernel_rfl,?_⟩))))
 refine aF (fun k : Nat => ⟨mkE [(0,.sl (L.map fo)),(1,.sl (L.map fo)),(4,bb false),(5,ii k)],[]⟩) (fun k => k ≤ L.length) (fun k => L.length - k) 0 ?_ ?_ ?_
 · refine aA _ [] (by simp [go_sem]) ?_
   simp [go_sem]
 · omega
 · intro k hk
   (repeat (refine a6 q14x1 hX a7 rfl ?_; (simp [go_sem]; try (refine ⟨by kernel_rfl,?_⟩))))
   refine a8 (b :=decide (k < L.length)) (by simp [go_sem]) (fun hb => ?_) (fun hb => ?_)
   · simp at hb
     obtain ⟨h1,h2⟩ :=h L[k] (List.getElem_mem hb)
     have c1 :=GI L[k].claims L[k].claims (by omega)
     have c2 :=oG L[k].cedes L[k].cedes (by omega) (by omega)
     rw [decide_eq_true rfl] at c1 c2
     (repeat (refine a6 q14x1 hX a7 rfl ?_; (simp [go_sem,hb]; try (refine ⟨by kernel_rfl,?_⟩))))
     first | refine aJ (fun hg => c1) ?_ | refine aZ (fun hg => c1) ?_
     try (simp [go_sem,hb]; try (refine ⟨by kernel_rfl,?_⟩))
     first | refine aJ (fun hg => c2) ?_ | refine aZ (fun hg => c2) ?_
     try (simp [go_sem,hb]; try (refine ⟨by kernel_rfl,?_⟩))
     refine a8 (b :=false) (by simp [go_sem]) (fun h => by cases h) (fun _ => ?_)
     (repeat (refine a6 q14x1 hX a7 rfl ?_; (simp [go_sem]; (try simp (disch :=omega) only [w64,td,tm]); try (refine ⟨by kernel_rfl,?_⟩))))
     refine ⟨k + 1,by omega,by omega,?_⟩
     refine aA _ [] (by simp [go_sem]) ?_
     simp [go_sem]
   · (repeat (refine a6 q14x1 hX a7 rfl ?_; (simp [go_sem]; try (refine ⟨by kernel_rfl,?_⟩))))
     try rfl
set_option maxHeartbeats 8000000 in
set_option maxRecDepth 20000 in
theorem vO (F : List Fd) (hl0 : F.length ≤ maxLen) : Means false Tryz.prog 3 [.sl (F.map fo)] (bb true) :=by
 have hl : F.length ≤ 9223372036854775807 :=by unfold maxLen at hl0; omega
 have c0 :=GK
 have c1 :=LQ F hl
 refine aB false 74 [.tmp 2] Tryz.func3 rfl rfl rfl (by simp) (by decide) rfl fun X hX => ?_
 (repeat (refine a6 q14x2 hX a7 rfl ?_; (simp [go_sem])))
 refine a9 (c0) ?_
 try (simp [go_sem])
 (repeat (refine a6 q14x2 hX a7 rfl ?_; (simp [go_sem])))
 refine a9 (c1) ?_
 try (simp [go_sem])
 refine a8 (b :=!fewV F) (by simp [go_sem]) (fun hb => ?_) (fun hb => ?_)
 · (repeat (refine a6 q14x2 hX a7 rfl ?_; (simp [go_sem])))
 · have hf : fewV F = true :=by simpa using hb
   have h5 :=mS hf
   have p1 :=l9 F hf
   have p2 :=mK F hf
   cases hr : rightV F with
   | false =>
     rw [hr] at p1 p2
     have q1 :=wZ F hf hr
     have q2 :=t7 F hf hr
     have q3 :=GQ F hf hr
     have q4 :=DC F hf hr
     have r1 :=oG [] [] (by decide) (by decide)
     have r2 :=qP [] (by decide) (by simp)
     have r3 :=jG [] [] (by decide) (by simp)
     rw [decide_eq_true rfl] at r1 r3
     simp only [List.map_nil] at r1 r2 r3
     (repeat (refine a6 q14x2 hX a7 rfl ?_; (simp [go_sem])))
     refine a9 (q1) ?_
     try (simp [go_sem])
     (repeat (refine a6 q14x2 hX a7 rfl ?_; (simp [go_sem])))
     refine a9 (q2) ?_
     try (simp [go_sem])
     (repeat (refine a6 q14x2 hX a7 rfl ?_; (simp [go_sem])))
     refine a9 (q3) ?_
     try (simp [go_sem])
     (repeat (refine a6 q14x2 hX a7 rfl ?_; (simp [go_sem])))
     refine a9 (q4) ?_
     try (simp [go_sem])
     (repeat (refine a6 q14x2 hX a7 rfl ?_; (simp [go_sem])))
     refine aJ (fun hg => p1) ?_
     try (simp [go_sem])
     refine aJ (fun hg => p2) ?_
     try (simp [go_sem])
     refine aJ (fun hg => r1) ?_
     try (simp [go_sem])
     refine aJ (fun hg => r2) ?_
     try (simp [go_sem])
     refine aJ (fun hg => r3) ?_
     try (simp [go_sem])
     (repeat (refine a6 q14x2 hX a7 rfl ?_; (simp [go_sem])))
   | true =>
     rw [hr] at p1 p2
     have hv :=s8 hr
     have hY :=BL hf hr
     have q1 :=yR F hf hr
     have q2 :=BK F hf hr
     have q3 :=v9 F hf hr
     have q4 :=J8 F hf hr
     have hol :=hY.ol
     have l1 :=pN F (owedL F) F.length
     have l2 :=sC F (gets F) F.length
     have r1 :=oG (owedL F) (owedL F) (by omega) (by omega)
     have r2 :=qP (outK F (owedL F) F.length) (by omega) fun f hm => by
      obtain ⟨i,hi,rfl⟩ :=List.mem_map.1 hm
      have hi : i < F.length :=by simpa using hi
      rw [u9 hi]
      have :=(fG hf (List.getElem_mem hi)).2
      exact ⟨by simp [outF],by simp only [outF]; omega⟩
     have r3 :=jG (awAll F (gets F) F.length) (awAll F (gets F) F.length) (by omega) fun l hm => by
      obtain ⟨i,hi,rfl⟩ :=List.mem_map.1 hm
      have hi : i < F.length :=by simpa using hi
      rw [uA,u9 hi]
      have :=(fG hf (List.getElem_mem hi)).1
      omega
     rw [decide_eq_true rfl] at r1 r3
     generalize owedL F = o at *
     generalize gets F = G at *
     (repeat (refine a6 q14x2 hX a7 rfl ?_; (simp [go_sem])))
     refine a9 (q1) ?_
     try (simp [go_sem])
     (repeat (refine a6 q14x2 hX a7 rfl ?_; (simp [go_sem])))
     refine a9 (q2) ?_
     try (simp [go_sem])
     (repeat (refine a6 q14x2 hX a7 rfl ?_; (simp [go_sem])))
     refine a9 (q3) ?_
     try (simp [go_sem])
     (repeat (refine a6 q14x2 hX a7 rfl ?_; (simp [go_sem])))
     refine a9 (q4) ?_
     try (simp [go_sem])
     (repeat (refine a6 q14x2 hX a7 rfl ?_; (simp [go_sem])))
     refine aJ (fun hg => p1) ?_
     try (simp [go_sem])
     refine aJ (fun hg => p2) ?_
     try (simp [go_sem])
     refine aJ (fun hg => r1) ?_
     try (simp [go_sem])
     refine aJ (fun hg => r2) ?_
     try (simp [go_sem])
     refine aJ (fun hg => r3) ?_
     try (simp [go_sem])
     (repeat (refine a6 q14x2 hX a7 rfl ?_; (simp [go_sem])))
end Go.Proofs.YtknbcehhjffndaaGreat

namespace Go.Proofs.YtknbcehhjffndaaGreat
open Go.ChangeShapes Go.WideShapes Go.ChangeAt Go.RowKit Go.Ab
theorem Tryz.own : ownKnob Tryz.prog.godebug = none :=by kernel_rfl
theorem Tryz.laidOut : laidOutB Tryz.prog = true :=by kernel_rfl
theorem N7 {H : Type} {enc : TypeId × Value → H} {W : World} {base : Nat} {M : Nat → Prop} : ∀ n cs y,DataW.trod enc Tryz.prog W base (fun _ => true) true n 36 cs = some y → cs.length = 2 → ∃ x : Int × Int,∀ (j : Nat) (c : Value) (z : AV),cs[j]? = some c → (cl x).flat[j]? = some z → RepZ W M c z :=by
 intro n cs y h hl
 match cs,hl with
 | [c0,c1],_ =>
   obtain ⟨n0,y0,h0⟩ :=cZ (c :=c0) Tryz.underlying36 h (i :=0) rfl (by kernel_rfl) rfl
   obtain ⟨n1,y1,h1⟩ :=cZ (c :=c1) Tryz.underlying36 h (i :=1) rfl (by kernel_rfl) rfl
   obtain ⟨a,rfl⟩ :=dI Tryz.underlying3 h0
   obtain ⟨b,rfl⟩ :=dI Tryz.underlying3 h1
   refine ⟨(a,b),fun j x z hx hz => ?_⟩
   match j with
   | 0 => simp [AV.flat_agg] at hx hz; subst hx; subst hz; exact .v _
   | 1 => simp [AV.flat_agg] at hx hz; subst hx; subst hz; exact .v _
   | j + 2 => simp at hx
set_option maxRecDepth 100000 in
theorem N8 {H : Type} {enc : TypeId × Value → H} {W : World} {base : Nat} {M : Nat → Prop} (hM : ∀ b,b < W.heap.size → M b) : ∀ n cs y,DataW.trod enc Tryz.prog W base (fun _ => true) true n 39 cs = some y → cs.length = 5 → ∃ x : Fd,∀ (j : Nat) (c : Value) (z : AV),cs[j]? = some c → (fo x).flat[j]? = some z → RepZ W M c z :=by
 intro n cs y h hl
 match cs,hl with
 | [c0,c1,c2,c3,c4],_ =>
   obtain ⟨n0,y0,h0⟩ :=cZ (c :=c0) Tryz.underlying39 h (i :=0) rfl (by kernel_rfl) rfl
   obtain ⟨n1,y1,h1⟩ :=cZ (c :=c1) Tryz.underlying39 h (i :=1) rfl (by kernel_rfl) rfl
   obtain ⟨n2,y2,h2⟩ :=cZ (c :=c2) Tryz.underlying39 h (i :=2) rfl (by kernel_rfl) rfl
   obtain ⟨n3,y3,h3⟩ :=cZ (c :=c3) Tryz.underlying39 h (i :=3) rfl (by kernel_rfl) rfl
   obtain ⟨n4,y4,h4⟩ :=cZ (c :=c4) Tryz.underlying39 h (i :=4) rfl (by kernel_rfl) rfl
   obtain ⟨a,rfl⟩ :=dI Tryz.underlying3 h0
   obtain ⟨b,rfl⟩ :=dI Tryz.underlying3 h1
   obtain ⟨c,rfl⟩ :=dI Tryz.underlying3 h2
   obtain ⟨v3,hv3,C,_,hr3⟩ :=lR (M :=M) cl 2 (by decide) (fun _ => rfl) Tryz.underlying37 (by kernel_rfl) hM N7 h3
   obtain ⟨v4,hv4,S,_,hr4⟩ :=lR (M :=M) ii 1 (by decide) (fun _ => rfl) Tryz.underlying25 (by kernel_rfl) hM (K8 Tryz.underlying3) h4
   have e3 : v3 = c3 :=by simpa using hv3.symm
   have e4 : v4 = c4 :=by simpa using hv4.symm
   subst e3; subst e4
   refine ⟨⟨a,b,c,C,S⟩,fun j x z hx hz => ?_⟩
   match j with
   | 0 => simp [AV.flat_agg] at hx hz; subst hx; subst hz; exact .v _
   | 1 => simp [AV.flat_agg] at hx hz; subst hx; subst hz; exact .v _
   | 2 => simp [AV.flat_agg] at hx hz; subst hx; subst hz; exact .v _
   | 3 => simp [AV.flat_agg] at hx hz; subst hx; subst hz; exact hr3
   | 4 => simp [AV.flat_agg] at hx hz; subst hx; subst hz; exact hr4
   | j + 5 => simp at hx
set_option maxRecDepth 100000 in
theorem H6 {H : Type} {enc : TypeId × Value → H} {W : World} {base : Nat} {v : Value} {d : DataW H} {p : List MemPlace} {M : Nat → Prop} {r : Go.Reach} {b0 : Nat} (hM : ∀ b,b < W.heap.size → M b)
  (hval : Value.okWide Tryz.prog W r b0 22 v) (h : DataW.Trod enc Tryz.prog W base (fun _ => true) true 22 v d p) : ∃ L : List Fd,L.length ≤ maxLen ∧ RepZ W M v (.sl (L.map fo)) :=
 yC fo 5 (by decide) (fun _ => rfl) Tryz.underlying22 (by kernel_rfl) hM (N8 hM) hval h
end Go.Proofs.YtknbcehhjffndaaGreat

