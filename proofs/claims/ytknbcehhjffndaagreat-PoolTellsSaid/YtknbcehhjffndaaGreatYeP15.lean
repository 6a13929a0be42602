/-
  Lemmas for the statement at the top.
-/
import Derived.Test.YtknbcehhjffndaaGreatYeP14
import Derived.Test.YtknbcehhjffndaaGreatYeFw5
set_option linter.all false
namespace Go.Ab
def q11x0 : List Nat :=[0,2,3,4,5,6,7,8,9,10,11,12,13,15,16,17,18,19,21,28,30,31,32,33,75,76,77,78,95,100,101,102,103,108,109,110,111]
def q11x1 : List Nat :=[0,1,2,3,4,5,6,7,8,9,10,11,12,13,14,82]
def q11x2 : List Nat :=[0,2,3,4,5,6,7,11,46,51,80,89]
def q11x3 : List Nat :=[0,1,4,5,10,14,25]
def q11x4 : List Nat :=[0,1,4,5,10,14,26]
def q11x5 : List Nat :=[0,1,2,3,4,9,30]
def q11x6 : List Nat :=[0,2,3,11,29]
attribute [go_sem] q11x0 q11x1 q11x2 q11x3 q11x4 q11x5 q11x6
end Go.Ab
namespace Go.Proofs.YtknbcehhjffndaaGreat
open Go.RowKit Go.Ab
theorem gN {HS : List Src} {H : List Cell} : ∀ {A B C D : List AV},okEs HS H A B → okEs HS H C D → okEs HS H (A ++ C) (B ++ D)
 | [],[],_,_,_,h' => h'
 | [],_ :: _,_,_,h,_ => h.elim
 | _ :: _,[],_,_,h,_ => h.elim
 | _ :: _,_ :: _,_,_,h,h' => ⟨h.1,gN h.2 h'⟩
def slN (X : List AV) : Prop :=∀ e ∈ X,(∃ es,e = .sl es) ∨ e = .nil
theorem oD {HS : List Src} {H : List Cell} : ∀ {X : List AV},slN X → okEs HS H X X
 | [],_ => trivial
 | e :: X,h => by
   refine ⟨?_,oD fun x hx => h x (by simp [hx])⟩
   rcases h e (by simp) with ⟨es,rfl⟩ | rfl
   · exact .inl rfl
   · rfl
theorem v8 {HS : List Src} {H : List Cell} : ∀ (L : List Fd),okEs HS H (L.map fo) (L.map fo)
 | [] => trivial
 | f :: L => ⟨⟨rfl,rfl,rfl,.inl rfl,.inl rfl,trivial⟩,v8 L⟩
theorem G9 {HS : List Src} {H : List Cell} (L : List Fd) (f : Fd) (hc : f.claims = []) : okEs HS H (L.map fo ++ [.agg [ii f.holds,ii f.reserve,ii f.income,.nil,il f.cedes]]) (L.map fo ++ [fo f]) :=
 gN (v8 L) ⟨⟨rfl,rfl,rfl,.inr (.inl ⟨rfl,by simp [awl,hc]⟩),.inl rfl,trivial⟩,trivial⟩
def rowA (F : List Fd) (G : List Int) (n i : Nat) (x : AV) : List AV :=(awAll F G i).map awl ++ x :: List.replicate (n - i - 1) .nil
def rowB (F : List Fd) (G : List Int) (n i : Nat) : List AV :=(awAll F G i).map awl ++ List.replicate (n - i) .nil
variable {F : List Fd} {G : List Int} {n i : Nat}
theorem GA (x : AV) (h : i < n) : (rowA F G n i x).length = n :=by simp [rowA]; omega
theorem GB (x : AV) : nth (rowA F G n i x) i = x :=oC (by simp)
theorem GC (x y : AV) : (rowA F G n i x).set i y = rowA F G n i y :=by
 unfold rowA
 rw [List.set_append_right _ _ (by simp)]
 simp
theorem LM (h : i < n) : rowB F G n i = rowA F G n i .nil :=by
 unfold rowB rowA
 rw [show n - i = (n - i - 1) + 1 by omega,List.replicate_succ]; rfl
theorem LN (h : i < F.length) : rowA F G n i (awl (awK F G i F[i].claims.length)) = rowB F G n (i + 1) :=by
 unfold rowB rowA
 rw [pO h,List.map_append,List.map_cons,List.map_nil,List.append_assoc,show n - (i + 1) = n - i - 1 by omega]; rfl
theorem LO : rowB F G n 0 = List.replicate n .nil :=by simp [rowB,awAll]
theorem LP : rowB F G n n = (awAll F G n).map awl :=by simp [rowB]
theorem GD (L : List (List (Int × Int))) : slN (L.map awl) :=fun e he => by
 obtain ⟨l,_,rfl⟩ :=List.mem_map.1 he
 exact .inl ⟨_,rfl⟩
theorem J2 (k : Nat) : slN (List.replicate k .nil) :=fun e he => .inr (List.eq_of_mem_replicate he)
theorem zH {HS : List Src} {H : List Cell} {x y : AV} (h : okF HS H x y) : okEs HS H (rowA F G n i x) (rowA F G n i y) :=
 gN (oD (GD _)) ⟨h,oD (J2 _)⟩
theorem qN (L : List (List (Int × Int))) : zoneEs (L.map awl) = true :=e8 _ _ fun _ => rfl
theorem oE (L : List (Int × Int)) : zoneEs (L.map cl) = true :=e8 _ _ fun _ => rfl
theorem k9 (L : List Fd) : zoneEs (L.map fo) = true :=e8 _ _ fun _ => rfl
def restG (G : List Int) (m : Nat) : List Int :=G.drop m
theorem J3 (G : List Int) : restG G 0 = G :=rfl
theorem D8 (G : List Int) (m : Nat) : (restG G m).length = G.length - m :=by simp [restG]
theorem GE {m : Nat} (h : m < G.length) : nth ((restG G m).map ii) 0 = ii G[m] :=by
 unfold restG; rw [List.drop_eq_getElem_cons h]; rfl
theorem GF (G : List Int) (m : Nat) : ((restG G m).map ii).tail = (restG G (m + 1)).map ii :=by
 unfold restG; rw [← List.map_tail,List.tail_drop]
theorem GG {f : Fd} {q : Int} (h1 : 0 ≤ f.holds ∧ f.holds ≤ 1099511627776) (h2 : 0 ≤ f.reserve ∧ f.reserve ≤ 1099511627776) (h3 : 0 ≤ f.income ∧ f.income ≤ 1099511627776) (hq : 0 ≤ q) : 0 ≤ payV f q ∧ payV f q ≤ 3298534883328 ∧ payV f q ≤ q :=by
 simp only [payV,freeV]; omega
theorem oF {o : List Int} (hv : RV F) (ho : o.length = F.length) (hq : ∀ x ∈ o,0 ≤ x) : ∀ k,k ≤ F.length → 0 ≤ paidK F o k ∧ paidK F o k ≤ 3298534883328 * k
 | 0,_ => by simp [paidK,sumI]
 | k + 1,hk => by
   have hk' : k < F.length :=by omega
   rw [i6 hk' (by omega)]
   have :=oF hv ho hq k (by omega)
   have h :=hv.at' k hk'
   have :=GG h.hol h.res h.inc (hq o[k] (List.getElem_mem (by omega)))
   omega
theorem GH (hv : RV F) {x : Int} {k : Nat} (hx : x ∈ asksK F k) : 0 ≤ x ∧ x ≤ 1099511627776 :=by
 obtain ⟨f,hf,h⟩ :=List.mem_flatMap.1 hx
 obtain ⟨i,hi,rfl⟩ :=List.getElem_of_mem (List.mem_of_mem_take hf)
 exact pL (hv.at' i hi).cla h
theorem BG (hv : RV F) (k : Nat) : okC' (asksK F k) = true :=List.all_eq_true.2 fun x hx => by
 have :=GH hv hx
 simp [inC,this.1,this.2]
noncomputable def gets (F : List Fd) : List Int :=share (asksK F F.length) (paidK F (owedL F) F.length)
attribute [-simp] List.map_take
attribute [local irreducible] AWP Go.Ab.Sub Means MeansH CallK CallG CallT CallGT CallU
set_option maxHeartbeats 8000000 in
set_option maxRecDepth 20000 in
theorem v9 (F : List Fd) (hf : fewV F = true) (hr : rightV F = true) : Means false Tryz.prog 8 [.sl (F.map fo)] (.tup [.sl ((outK F (owedL F) F.length).map fo),.sl ((awAll F (gets F) F.length).map awl),ii 0]) :=by
 have h5 :=mS hf
 have hv :=s8 hr
 have c1 :=yR F hf hr
 have hc :=JT hv h5
 have hoL :=bK F
 have hol : (owedL F).length = F.length :=by have :=hc.len; unfold owedL; omega
 have hob : ∀ x ∈ owedL F,0 ≤ x ∧ x ≤ 6597069766657 :=hc.bd
 have hpb :=oF hv hol fun x hx => (hob x hx).1
 have ham :=jW hf F.length (Nat.le_refl _)
 have hal : (asksK F F.length).length ≤ 40 :=by rw [jV F F.length (Nat.le_refl _)]; omega
 have hpn :=hpb F.length (Nat.le_refl _)
 have hok : okC' (asksK F F.length) = true :=BG hv _
 have hrc : rightC (asksK F F.length) (paidK F (owedL F) F.length) = true :=by
  simp only [rightC,hok,okH,Bool.true_and,Bool.and_eq_true,decide_eq_true_eq]
  omega
 have c2 :=HP (asksK F F.length) (by omega) (paidK F (owedL F) F.length)
 rw [if_pos hrc,if_pos hrc] at c2
 have hGl : (gets F).length = (asksK F F.length).length :=rY hok hpn.1
 have hG : share (asksK F F.length) (paidK F (owedL F) F.length) = gets F :=rfl
 rw [hG] at c2
 generalize gets F = G at *
 generalize owedL F = o at *
 have hak :=jV F
 refine aB false 135 [.tmp 2,.tmp 3,.tmp 4] Tryz.func8 rfl rfl rfl (by simp) (by decide) rfl fun X hX => ?_
 (repeat (refine a6 q11x0 hX a7 rfl ?_; (simp [go_sem]; try (refine ⟨by kernel_rfl,?_⟩))))
 first | refine a9 (c1) ?_ | refine aE (c1) ?_
 try (simp [go_sem]; try (refine ⟨by kernel_rfl,?_⟩))
 (repeat (refine a6 q11x0 hX a7 rfl ?_; (simp [go_sem]; try (refine ⟨by kernel_rfl,?_⟩))))
 refine a8 (b :=false) (by simp [go_sem]) (fun h => by cases h) (fun _ => ?_)
 (repeat (refine a6 q11x0 hX a7 rfl ?_; (simp [go_sem]; try (refine ⟨by kernel_rfl,?_⟩))))
 refine aF (fun k : Nat => ⟨mkE [(0,.sl (F.map fo)),(5,il o),(7,.ow 0),(8,.ow 1),(9,ii (paidK F o k)),(30,.sl (F.map fo)),(31,ii F.length),(32,ii k)],[.row ⟨39,5,(outK F o k).map fo⟩,.row ⟨3,1,(asksK F k).map ii⟩]⟩) (fun k => k ≤ F.length) (fun k => F.length - k) 0 ?_ ?_ ?_
 · refine aA _ [.birth 39 5,.birth 3 1] (by simp [go_sem]) ?_
   simp [go_sem,outK,asksK,paidK,sumI]
 · omega
 · intro k hk
   have hpk :=hpb k hk
   have hmk :=jW hf k hk
   have hakl :=hak k hk
   (repeat (refine a6 q11x0 hX a7 rfl ?_; (simp [go_sem]; try (refine ⟨by kernel_rfl,?_⟩))))
   refine a8 (b :=decide (k < F.length)) (by simp [go_sem]) (fun hb => ?_) (fun hb => ?_)
   · simp at hb
     have hko : k < o.length :=by omega
     have hcl :=fG hf (List.getElem_mem hb)
     have hat :=hv.at' k hb
     have e1 :=s9 (o :=o) hb hko
     have e2 :=i6 (o :=o) hb hko
     have e3 :=d9 hb
     have hpk1 :=hpb (k + 1) (by omega)
     have hq :=hob o[k] (List.getElem_mem hko)
     have hpp :=GG hat.hol hat.res hat.inc hq.1
     have hw1 :=w64 (x :=F[k].income + F[k].holds) (by have :=hat.inc; have :=hat.hol; omega) (by have :=hat.inc; have :=hat.hol; omega)
     have hw2 :=w64 (x :=F[k].income + F[k].holds + F[k].reserve) (by have :=hat.inc; have :=hat.hol; have :=hat.res; omega) (by have :=hat.inc; have :=hat.hol; have :=hat.res; omega)
     simp only [payV,freeV] at hpp e2
     have hw3 :=w64 (x :=paidK F o k + min o[k] (F[k].income + F[k].holds + F[k].reserve)) (by omega) (by omega)
     have hw4 :=w64 (x :=F[k].income + F[k].holds - min o[k] (min (F[k].income + F[k].holds + F[k].reserve) (F[k].income + F[k].holds))) (by have :=hat.inc; have :=hat.hol; have :=hat.res; omega) (by have :=hat.inc; have :=hat.hol; have :=hat.res; omega)
     have hw5 :=w64 (x :=min o[k] (F[k].income + F[k].holds + F[k].reserve) - min o[k] (min (F[k].income + F[k].holds + F[k].reserve) (F[k].income + F[k].holds))) (by have :=hat.inc; have :=hat.hol; have :=hat.res; omega) (by have :=hat.inc; have :=hat.hol; have :=hat.res; omega)
     have hw6 :=w64 (x :=F[k].reserve - (min o[k] (F[k].income + F[k].holds + F[k].reserve) - min o[k] (min (F[k].income + F[k].holds + F[k].reserve) (F[k].income + F[k].holds)))) (by have :=hat.inc; have :=hat.hol; have :=hat.res; omega) (by have :=hat.inc; have :=hat.hol; have :=hat.res; omega)
     have hk4 :=pN F o k
     have hcla :=hat.cla
     have hced :=hat.len
     (repeat (refine a6 q11x0 hX a7 rfl ?_; (simp [go_sem,hb,hko,hw1,hw2,hw3]; try (refine ⟨by kernel_rfl,?_⟩))))
     first | refine a9 (gZ F[k].cedes (by omega)) ?_ | refine aE (gZ F[k].cedes (by omega)) ?_
     try (simp [go_sem,hw4,hw5,hw6,hk4]; try (refine ⟨by kernel_rfl,?_⟩))
     (repeat refine And.intro (by first | omega | (unfold maxLen; omega) | kernel_rfl | (refine ⟨by first | omega | (unfold maxLen; omega),by first | omega | (unfold maxLen; omega)⟩) | grind) ?_)
     (repeat (refine a6 q11x0 hX a7 rfl ?_; (simp [go_sem,hw4,hw5,hw6,hk4]; try (refine ⟨by kernel_rfl,?_⟩))))
     refine aF (fun j : Nat => ⟨mkE [(0,.sl (F.map fo)),(5,il o),(7,.ow 0),(8,.ow 1),(9,ii (paidK F o (k + 1))),(30,.sl (F.map fo)),(31,ii F.length),(32,ii k),(75,awl F[k].claims),(76,ii F[k].claims.length),(77,ii j)],[.row ⟨39,5,(outK F o (k + 1)).map fo⟩,.row ⟨3,1,(asksJ F k j).map ii⟩]⟩) (fun j => j ≤ F[k].claims.length) (fun j => F[k].claims.length - j) 0 ?_ ?_ ?_
     · have za :=EV (asksK F k)
       rw [AO,e1]
       refine aA _ [.old 4 ⟨39,5,(outK F o k ++ [outF F[k] o[k]]).map fo⟩,.old 1 ⟨3,1,(asksK F k).map ii⟩] ⟨⟨⟨rfl,rfl⟩,.inr ?_⟩,rfl,⟨⟨rfl,rfl⟩,.inl ⟨rfl,za⟩⟩,rfl,trivial⟩ ?_
       · rw [List.map_append]; exact G9 (outK F o k) (outF F[k] o[k]) rfl
       · simp [go_sem,e2]
     · omega
     · intro j hj
       have lj :=sB hb hj
       (repeat (refine a6 q11x0 hX a7 rfl ?_; (simp [go_sem]; try (refine ⟨by kernel_rfl,?_⟩))))
       refine a8 (b :=decide (j < F[k].claims.length)) (by simp [go_sem]) (fun hc => ?_) (fun hc => ?_)
       · simp at hc
         have ej :=pM hb hc
         (repeat (refine a6 q11x0 hX a7 rfl ?_; (simp [go_sem,hc]; try (refine ⟨by kernel_rfl,?_⟩))))
         (repeat refine And.intro (by first | omega | (unfold maxLen; omega) | kernel_rfl | (refine ⟨by first | omega | (unfold maxLen; omega),by first | omega | (unfold maxLen; omega)⟩) | grind) ?_)
         (repeat (refine a6 q11x0 hX a7 rfl ?_; (simp [go_sem,hc,lj]; (try simp (disch :=omega) only [w64,td,tm]); try (refine ⟨by kernel_rfl,?_⟩))))
         (repeat refine And.intro (by first | omega | (unfold maxLen; omega) | kernel_rfl | (refine ⟨by first | omega | (unfold maxLen; omega),by first | omega | (unfold maxLen; omega)⟩) | grind) ?_)
         (repeat (refine a6 q11x0 hX a7 rfl ?_; (simp [go_sem,hc,lj]; (try simp (disch :=omega) only [w64,td,tm]); try (refine ⟨by kernel_rfl,?_⟩))))
         refine ⟨j + 1,by omega,by omega,?_⟩
         rw [ej]
         refine aA _ [.old 0 ⟨39,5,(outK F o (k + 1)).map fo⟩,.old 4 ⟨3,1,(asksJ F k j ++ [F[k].claims[j].2]).map ii⟩] (by simp [go_sem,k9]) ?_
         simp [go_sem]
       · have hjl : j = F[k].claims.length :=by simp at hc; omega
         subst hjl
         rw [sA hb]
         (repeat (refine a6 q11x0 hX a7 rfl ?_; (simp [go_sem]; (try simp (disch :=omega) only [w64,td,tm]); try (refine ⟨by kernel_rfl,?_⟩))))
         refine ⟨k + 1,by omega,by omega,?_⟩
         refine aA _ [.old 0 ⟨39,5,(outK F o (k + 1)).map fo⟩,.old 1 ⟨3,1,(asksK F (k + 1)).map ii⟩] (by simp [go_sem,k9]) ?_
         simp [go_sem]
   · have hkl : k = F.length :=by simp at hb; omega
     subst hkl
     (repeat (refine a6 q11x0 hX a7 rfl ?_; (simp [go_sem]; try (refine ⟨by kernel_rfl,?_⟩))))
     first | refine a9 (c2) ?_ | refine aE (c2) ?_
     try (simp [go_sem]; try (refine ⟨by kernel_rfl,?_⟩))
     (repeat (refine a6 q11x0 hX a7 rfl ?_; (simp [go_sem]; try (refine ⟨by kernel_rfl,?_⟩))))
     refine a8 (b :=false) (by simp [go_sem]) (fun h => by cases h) (fun _ => ?_)
     (repeat (refine a6 q11x0 hX a7 rfl ?_; (simp [go_sem]; try (refine ⟨by kernel_rfl,?_⟩))))
     (repeat refine And.intro (by first | omega | (unfold maxLen; omega) | kernel_rfl | (refine ⟨by first | omega | (unfold maxLen; omega),by first | omega | (unfold maxLen; omega)⟩) | grind) ?_)
     (repeat (refine a6 q11x0 hX a7 rfl ?_; (simp [go_sem]; try (refine ⟨by kernel_rfl,?_⟩))))
     refine aF (fun i : Nat => ⟨mkE [(7,.sl ((outK F o F.length).map fo)),(16,il (restG G (asksK F i).length)),(17,.ow 0),(100,.sl (F.map fo)),(101,ii F.length),(102,ii i)],[.row ⟨37,1,rowB F G F.length i⟩]⟩) (fun i => i ≤ F.length) (fun i => F.length - i) 0 ?_ ?_ ?_
     · have a0 : (asksK F 0).length = 0 :=by simp [asksK]
       have zo :=k9 (outK F o F.length)
       rw [LO,a0,J3]
       refine aA _ [.old 2 ⟨37,1,List.replicate F.length .nil⟩] (by simp [go_sem]) ?_
       simp [go_sem,zo]
     · omega
     · intro i hi
       (repeat (refine a6 q11x0 hX a7 rfl ?_; (simp [go_sem]; try (refine ⟨by kernel_rfl,?_⟩))))
       refine a8 (b :=decide (i < F.length)) (by simp [go_sem]) (fun hb => ?_) (fun hb => ?_)
       · simp at hb
         have hcl :=fG hf (List.getElem_mem hb)
         have hmn :=hak (i + 1) (by omega)
         have hmi :=hak i hi
         have hma :=hak F.length (Nat.le_refl _)
         have hle : (asksK F (i + 1)).length ≤ (asksK F F.length).length :=by
          have : asksK F F.length = asksK F (i + 1) ++ (F.drop (i + 1)).flatMap fun f => nums f.claims :=by
           unfold asksK; rw [← List.flatMap_append,List.take_append_drop,List.take_length]
          rw [this,List.length_append]; omega
         have hne :=d9 hb
         have hnl : (asksK F (i + 1)).length = (asksK F i).length + F[i].claims.length :=by rw [hne,List.length_append,l8]
         (repeat (refine a6 q11x0 hX a7 rfl ?_; (simp [go_sem,hb]; try (refine ⟨by kernel_rfl,?_⟩))))
         refine aF (fun j : Nat => ⟨mkE [(7,.sl ((outK F o F.length).map fo)),(16,il (restG G ((asksK F i).length + j))),(17,.ow 0),(18,ii i),(100,.sl (F.map fo)),(101,ii F.length),(102,ii i),(108,awl F[i].claims),(109,ii F[i].claims.length),(110,ii j)],[.row ⟨37,1,rowA F G F.length i (.ow 1)⟩,.row ⟨36,2,(awK F G i j).map cl⟩]⟩) (fun j => j ≤ F[i].claims.length) (fun j => F[i].claims.length - j) 0 ?_ ?_ ?_
         · rw [LM hb]
           refine aA _ [.old 0 ⟨37,1,rowA F G F.length i (.ow 1)⟩,.birth 36 2] ⟨⟨⟨rfl,rfl⟩,.inr (zH rfl)⟩,rfl,trivial⟩ ?_
           simp [go_sem]
         · omega
         · intro j hj
           have hal :=uA F G i j
           (repeat (refine a6 q11x0 hX a7 rfl ?_; (simp [go_sem]; try (refine ⟨by kernel_rfl,?_⟩))))
           refine a8 (b :=decide (j < F[i].claims.length)) (by simp [go_sem]) (fun hc => ?_) (fun hc => ?_)
           · simp at hc
             have hg : (asksK F i).length + j < G.length :=by omega
             have hrl :=D8 G ((asksK F i).length + j)
             have hrh :=GE hg
             have hrt :=GF G ((asksK F i).length + j)
             have hrn :=GB (F :=F) (G :=G) (n :=F.length) (i :=i) (.ow 1)
             have hrL :=GA (F :=F) (G :=G) (.ow 1) hb
             have hrs :=fun y => GC (F :=F) (G :=G) (n :=F.length) (i :=i) (.ow 1) y
             have hr0 : 0 < G.length - ((asksK F i).length + j) :=by omega
             (repeat (refine a6 q11x0 hX a7 rfl ?_; (simp [go_sem,hc,hb,hrl,hrh,hrn,hrL,hal,hr0,hrs,hrt]; try (refine ⟨by kernel_rfl,?_⟩))))
             (repeat refine And.intro (by first | omega | (unfold maxLen; omega) | kernel_rfl | (refine ⟨by first | omega | (unfold maxLen; omega),by first | omega | (unfold maxLen; omega)⟩) | grind) ?_)
             (repeat (refine a6 q11x0 hX a7 rfl ?_; (simp [go_sem]; (try simp (disch :=omega) only [w64,td,tm]); try (refine ⟨by kernel_rfl,?_⟩))))
             refine ⟨j + 1,by omega,by omega,?_⟩
             rw [wX hb hc hg,← Nat.add_assoc]
             refine aA _ [.old 0 ⟨37,1,rowA F G F.length i (.ow 1)⟩,.old 4 ⟨36,2,(awK F G i j ++ [(F[i].claims[j].1,G[(asksK F i).length + j])]).map cl⟩] ⟨⟨⟨rfl,rfl⟩,.inr (zH rfl)⟩,rfl,⟨⟨rfl,rfl⟩,.inl ⟨?_,oE _⟩⟩,rfl,trivial⟩ ?_
             · simp [go_sem]
             · simp [go_sem]
           · have hjl : j = F[i].claims.length :=by simp at hc; omega
             subst hjl
             (repeat (refine a6 q11x0 hX a7 rfl ?_; (simp [go_sem]; (try simp (disch :=omega) only [w64,td,tm]); try (refine ⟨by kernel_rfl,?_⟩))))
             refine ⟨i + 1,by omega,by omega,?_⟩
             rw [← LN hb,hnl]
             refine aA _ [.old 0 ⟨37,1,rowA F G F.length i (awl (awK F G i F[i].claims.length))⟩] ⟨⟨⟨rfl,rfl⟩,.inr (zH (.inr (.inr (.inl ⟨1,_,rfl,rfl,rfl,oE _,rfl⟩))))⟩,rfl,trivial⟩ ?_
             simp [go_sem]
       · have hin : i = F.length :=by simp at hb; omega
         subst hin
         rw [LP]
         have zw :=qN (awAll F G F.length)
         (repeat (refine a6 q11x0 hX a7 rfl ?_; (simp [go_sem,zw]; try (refine ⟨by kernel_rfl,?_⟩))))
         try rfl
end Go.Proofs.YtknbcehhjffndaaGreat

namespace Go.Proofs.YtknbcehhjffndaaGreat
open Go.RowKit Go.Ab
def fewF (f : Fd) : Bool :=decide (f.claims.length ≤ 8) && decide (f.cedes.length ≤ 14)
def allF (F : List Fd) : Bool :=F.all fewF
theorem BH (F : List Fd) : fewV F = (allF F && decide (F.length ≤ 5)) :=rfl
def hasF (f : Fd) : Int :=f.income + f.holds + f.reserve
structure AmF (f : Fd) : Prop where
 h : 0 ≤ f.holds ∧ f.holds ≤ 3298534883328
 r : 0 ≤ f.reserve ∧ f.reserve ≤ 3298534883328
 i : 0 ≤ f.income ∧ f.income ≤ 3298534883328
theorem AmF.bd {f : Fd} (h : AmF f) : 0 ≤ hasF f ∧ hasF f ≤ 9895604649984 :=by
 have :=h.h; have :=h.r; have :=h.i; unfold hasF; omega
theorem RV.am {F : List Fd} (h : RV F) : ∀ f ∈ F,AmF f :=fun f hf => by
 obtain ⟨i,hi,rfl⟩ :=List.getElem_of_mem hf
 have :=h.at' i hi
 have h1 :=this.hol; have h2 :=this.res; have h3 :=this.inc
 exact ⟨by omega,by omega,by omega⟩
attribute [-simp] List.map_take
attribute [local irreducible] AWP Go.Ab.Sub Means MeansH CallK CallG CallT CallGT CallU
set_option maxRecDepth 20000 in
theorem LQ (F : List Fd) (hl : F.length ≤ 9223372036854775807) : Means true Tryz.prog 5 [.sl (F.map fo)] (bb (fewV F)) :=by
 refine aB true 33 [.tmp 2] Tryz.func5 rfl rfl rfl (by simp) (by decide) rfl fun X hX => ?_
 (repeat (refine a6 q11x6 hX a7 rfl ?_; (simp [go_sem])))
 refine aF (fun k : Nat => ⟨mkE [(0,.sl (F.map fo)),(2,bb false),(3,ii k)],[]⟩) (fun k => (k ≤ F.length ∧ k ≤ 6) ∧ allF (F.take k) = true) (fun k => F.length - k) 0 ?_ ?_ ?_
 · refine aA _ [] (by simp [go_sem]) ?_
   simp [go_sem]
 · exact ⟨by omega,rfl⟩
 · rintro k ⟨⟨hk,hk6⟩,ha⟩
   (repeat (refine a6 q11x6 hX a7 rfl ?_; (simp [go_sem])))
   refine a8 (b :=decide (k < F.length) && decide ((k : Int) < 6)) (by simp [go_sem]) (fun hb => ?_) (fun hb => ?_)
   · simp only [Bool.and_eq_true,decide_eq_true_eq] at hb
     obtain ⟨hb,hb6⟩ :=hb
     (repeat (refine a6 q11x6 hX a7 rfl ?_; (simp [go_sem,hb])))
     cases hf : fewF F[k] with
     | true =>
       have h2 : F[k].claims.length ≤ 8 ∧ F[k].cedes.length ≤ 14 :=by simpa [fewF] using hf
       refine a8 (b :=false) (by simp [go_sem]; omega) (fun h => by cases h) (fun _ => ?_)
       (repeat (refine a6 q11x6 hX a7 rfl ?_; (simp [go_sem,hb]; (try simp (disch :=omega) only [w64,td,tm]))))
       refine ⟨k + 1,⟨by omega,?_⟩,by omega,?_⟩
       · unfold allF at *; rw [List.take_succ_eq_append_getElem hb,List.all_append,ha]; simp [hf]
       · refine aA _ [] (by simp [go_sem]) ?_
         simp [go_sem]
     | false =>
       have h2 : 8 < F[k].claims.length ∨ 14 < F[k].cedes.length :=by
        simp only [fewF,Bool.and_eq_false_iff,decide_eq_false_iff_not] at hf
        omega
       have hF : fewV F = false :=by
        have : allF F = false :=List.all_eq_false.2 ⟨F[k],List.getElem_mem hb,by simp [hf]⟩
        rw [BH,this]; rfl
       refine a8 (b :=true) (by simp [go_sem]; omega) (fun _ => ?_) (fun h => by cases h)
       rw [hF]
       (repeat (refine a6 q11x6 hX a7 rfl ?_; (simp [go_sem])))
   · simp only [Bool.and_eq_false_iff,decide_eq_false_iff_not] at hb
     (repeat (refine a6 q11x6 hX a7 rfl ?_; (simp [go_sem])))
     rw [BH]
     by_cases h5 : F.length ≤ 5
     · have hkl : k = F.length :=by omega
       subst hkl
       rw [List.take_length] at ha
       simp [ha]; omega
     · simp [h5]; omega
theorem oG (a b : List Int) (hla : a.length ≤ 9223372036854775807) (hlb : b.length ≤ 9223372036854775807) : Means true Tryz.prog 12 [il a,il b] (bb (decide (a = b))) :=by
 refine aB true 26 [.tmp 4] Tryz.func12 rfl rfl rfl (by simp) (by decide) rfl fun X hX => ?_
 by_cases hl : a.length = b.length
 · (repeat (refine a6 q11x3 hX a7 rfl ?_; (simp [go_sem,hl]; try (refine ⟨by kernel_rfl,?_⟩))))
   refine a8 (b :=false) (by simp [go_sem,hl]) (fun hb => by cases hb) (fun _ => ?_)
   (repeat (refine a6 q11x3 hX a7 rfl ?_; (simp [go_sem]; try (refine ⟨by kernel_rfl,?_⟩))))
   refine aF (fun n : Nat => ⟨mkE [(0,il a),(1,il b),(5,ii n)],[]⟩) (fun n => n ≤ a.length ∧ a.take n = b.take n) (fun n => a.length - n) 0 ?_ ?_ ?_
   · refine aA _ [] (by simp [go_sem]) ?_
     simp [go_sem]
   · exact ⟨Nat.zero_le _,by simp⟩
   · rintro n ⟨hn,he⟩
     (repeat (refine a6 q11x3 hX a7 rfl ?_; (simp [go_sem]; try (refine ⟨by kernel_rfl,?_⟩))))
     refine a8 (b :=decide (n < a.length)) (by simp [go_sem]) (fun hd2 => ?_) (fun hd2 => ?_)
     · simp at hd2
       have h2 : n < b.length :=by omega
       (repeat (refine a6 q11x3 hX a7 rfl ?_; (simp [go_sem,hd2,h2]; (try simp (disch :=omega) only [w64,td,tm]); try (refine ⟨by kernel_rfl,?_⟩))))
       (repeat refine And.intro (by first | omega | (unfold maxLen; omega) | kernel_rfl | (refine ⟨by first | omega | (unfold maxLen; omega),by first | omega | (unfold maxLen; omega)⟩) | grind) ?_)
       try (simp [go_sem,hd2,h2]; try (refine ⟨by kernel_rfl,?_⟩))
       refine a8 (b :=decide (a[n] ≠ b[n])) (by simp [go_sem,hd2,h2]; try omega) (fun hc => ?_) (fun hc => ?_)
       · simp only [decide_eq_true_eq] at hc
         have hne : ¬ a = b :=fun e => hc (by simp only [e])
         (repeat (refine a6 q11x3 hX a7 rfl ?_; (simp [go_sem,hne]; try (refine ⟨by kernel_rfl,?_⟩))))
       · simp at hc
         (repeat (refine a6 q11x3 hX a7 rfl ?_; (simp [go_sem]; (try simp (disch :=omega) only [w64,td,tm]); try (refine ⟨by kernel_rfl,?_⟩))))
         refine ⟨n + 1,⟨by omega,?_⟩,by omega,?_⟩
         · rw [List.take_succ_eq_append_getElem hd2,List.take_succ_eq_append_getElem h2,he,hc]
         · refine aA _ [] (by simp [go_sem]) ?_
           simp [go_sem]
     · have hnl : n = a.length :=by simp at hd2; omega
       subst hnl
       have hab : a = b :=by rwa [List.take_length,hl,List.take_length] at he
       (repeat (refine a6 q11x3 hX a7 rfl ?_; (simp [go_sem,hab]; try (refine ⟨by kernel_rfl,?_⟩))))
 · have hne : ¬ a = b :=fun e => hl (by rw [e])
   (repeat (refine a6 q11x3 hX a7 rfl ?_; (simp [go_sem,hl]; try (refine ⟨by kernel_rfl,?_⟩))))
   refine a8 (b :=true) (by simp [go_sem,hl]; try omega) (fun _ => ?_) (fun hb => by cases hb)
   (repeat (refine a6 q11x3 hX a7 rfl ?_; (simp [go_sem,hne]; try (refine ⟨by kernel_rfl,?_⟩))))
theorem N5 (a b : Int × Int) : a = b ↔ a.1 = b.1 ∧ a.2 = b.2 :=Prod.ext_iff
set_option maxRecDepth 20000 in
theorem GI (a b : List (Int × Int)) (hla : a.length ≤ 9223372036854775807) : Means true Tryz.prog 27 [awl a,awl b] (bb (decide (a = b))) :=by
 refine aB true 26 [.tmp 4] Tryz.func27 rfl rfl rfl (by simp) (by decide) rfl fun X hX => ?_
 (repeat (refine a6 q11x3 hX a7 rfl ?_; (simp [go_sem]; try (refine ⟨by kernel_rfl,?_⟩))))
 refine a8 (b :=!decide ((a.length : Int) = b.length)) (by simp [go_sem]) (fun hb => ?_) (fun hb => ?_)
 · simp at hb
   (repeat (refine a6 q11x3 hX a7 rfl ?_; (simp [go_sem]; try (refine ⟨by kernel_rfl,?_⟩))))
   have : a ≠ b :=by rintro rfl; exact hb rfl
   simp [this]
 · simp at hb
   have hb : a.length = b.length :=by omega
   (repeat (refine a6 q11x3 hX a7 rfl ?_; (simp [go_sem]; try (refine ⟨by kernel_rfl,?_⟩))))
   refine aF (fun k : Nat => ⟨mkE [(0,awl a),(1,awl b),(4,bb false),(5,ii k)],[]⟩) (fun k => k ≤ a.length ∧ a.take k = b.take k) (fun k => a.length - k) 0 ?_ ?_ ?_
   · refine aA _ [] (by simp [go_sem]) ?_
     simp [go_sem]
   · simp
   · rintro k ⟨hk,hn⟩
     (repeat (refine a6 q11x3 hX a7 rfl ?_; (simp [go_sem]; try (refine ⟨by kernel_rfl,?_⟩))))
     refine a8 (b :=decide (k < a.length)) (by simp [go_sem]) (fun hc => ?_) (fun hc => ?_)
     · simp at hc
       have hc' : k < b.length :=by omega
       (repeat (refine a6 q11x3 hX a7 rfl ?_; (simp [go_sem,hc,hc']; try (refine ⟨by kernel_rfl,?_⟩))))
       refine a8 (b :=!decide (a[k] = b[k])) (by simp [go_sem,N5]) (fun hd => ?_) (fun hd => ?_)
       · simp at hd
         (repeat (refine a6 q11x3 hX a7 rfl ?_; (simp [go_sem]; try (refine ⟨by kernel_rfl,?_⟩))))
         have : a ≠ b :=by rintro rfl; exact hd rfl
         simp [this]
       · simp at hd
         (repeat (refine a6 q11x3 hX a7 rfl ?_; (simp [go_sem]; (try simp (disch :=omega) only [w64,td,tm]); try (refine ⟨by kernel_rfl,?_⟩))))
         refine ⟨k + 1,⟨by omega,by rw [List.take_succ_eq_append_getElem hc,List.take_succ_eq_append_getElem hc',hn,hd]⟩,by omega,?_⟩
         refine aA _ [] (by simp [go_sem]) ?_
         simp [go_sem]
     · simp at hc
       (repeat (refine a6 q11x3 hX a7 rfl ?_; (simp [go_sem]; try (refine ⟨by kernel_rfl,?_⟩))))
       have : k = a.length :=by omega
       subst this
       rw [List.take_length,hb,List.take_length] at hn
       simp [hn]
set_option maxRecDepth 20000 in
theorem jG (a b : List (List (Int × Int))) (hla : a.length ≤ 9223372036854775807) (hl : ∀ l ∈ a,l.length ≤ 9223372036854775807) : Means true Tryz.prog 14 [.sl (a.map awl),.sl (b.map awl)] (bb (decide (a = b))) :=by
 refine aB true 27 [.tmp 4] Tryz.func14 rfl rfl rfl (by simp) (by decide) rfl fun X hX => ?_
 (repeat (refine a6 q11x4 hX a7 rfl ?_; (simp [go_sem]; try (refine ⟨by kernel_rfl,?_⟩))))
 refine a8 (b :=!decide ((a.length : Int) = b.length)) (by simp [go_sem]) (fun hb => ?_) (fun hb => ?_)
 · simp at hb
   (repeat (refine a6 q11x4 hX a7 rfl ?_; (simp [go_sem]; try (refine ⟨by kernel_rfl,?_⟩))))
   have : a ≠ b :=by rintro rfl; exact hb rfl
   simp [this]
 · simp at hb
   have hb : a.length = b.length :=by omega
   (repeat (refine a6 q11x4 hX a7 rfl ?_; (simp [go_sem]; try (refine ⟨by kernel_rfl,?_⟩))))
   refine aF (fun k : Nat => ⟨mkE [(0,.sl (a.map awl)),(1,.sl (b.map awl)),(4,bb false),(5,ii k)],[]⟩) (fun k => k ≤ a.length ∧ a.take k = b.take k) (fun k => a.length - k) 0 ?_ ?_ ?_
   · refine aA _ [] (by simp [go_sem]) ?_
     simp [go_sem]
   · simp
   · rintro k ⟨hk,hn⟩
     (repeat (refine a6 q11x4 hX a7 rfl ?_; (simp [go_sem]; try (refine ⟨by kernel_rfl,?_⟩))))
     refine a8 (b :=decide (k < a.length)) (by simp [go_sem]) (fun hc => ?_) (fun hc => ?_)
     · simp at hc
       have hc' : k < b.length :=by omega
       have c1 :=GI a[k] b[k] (hl _ (List.getElem_mem hc))
       (repeat (refine a6 q11x4 hX a7 rfl ?_; (simp [go_sem,hc,hc']; try (refine ⟨by kernel_rfl,?_⟩))))
       first | refine a9 (c1) ?_ | refine aE (c1) ?_
       try (simp [go_sem]; try (refine ⟨by kernel_rfl,?_⟩))
       refine a8 (b :=!decide (a[k] = b[k])) (by simp [go_sem]) (fun hd => ?_) (fun hd => ?_)
       · simp at hd
         (repeat (refine a6 q11x4 hX a7 rfl ?_; (simp [go_sem]; try (refine ⟨by kernel_rfl,?_⟩))))
         have : a ≠ b :=by rintro rfl; exact hd rfl
         simp [this]
       · simp at hd
         (repeat (refine a6 q11x4 hX a7 rfl ?_; (simp [go_sem]; (try simp (disch :=omega) only [w64,td,tm]); try (refine ⟨by kernel_rfl,?_⟩))))
         refine ⟨k + 1,⟨by omega,by rw [List.take_succ_eq_append_getElem hc,List.take_succ_eq_append_getElem hc',hn,hd]⟩,by omega,?_⟩
         refine aA _ [] (by simp [go_sem]) ?_
         simp [go_sem]
     · simp at hc
       (repeat (refine a6 q11x4 hX a7 rfl ?_; (simp [go_sem]; try (refine ⟨by kernel_rfl,?_⟩))))
       have : k = a.length :=by omega
       subst this
       rw [List.take_length,hb,List.take_length] at hn
       simp [hn]
theorem LR (f : Fd) (h : AmF f) : Means true Tryz.prog 23 [fo f] (ii (hasF f)) :=by
 have h1 :=h.h; have h2 :=h.r; have h3 :=h.i
 have w1 :=w64 (x :=f.income + f.holds) (by omega) (by omega)
 have w2 :=w64 (x :=f.income + f.holds + f.reserve) (by omega) (by omega)
 refine aB true 11 [.tmp 2] Tryz.func23 rfl rfl rfl (by simp) (by decide) rfl fun X hX => ?_
 (repeat (refine a6 [0,1,2] hX a7 rfl ?_; (simp [go_sem,w1,w2])))
 try rfl
end Go.Proofs.YtknbcehhjffndaaGreat

namespace Go.Proofs.YtknbcehhjffndaaGreat
open Go.RowKit Go.Ab
attribute [-simp] List.map_take
attribute [local irreducible] AWP Go.Ab.Sub Means MeansH CallK CallG CallT CallGT CallU
theorem lO (n : Int) : Means true Tryz.prog 26 [ii n] (bb (amt n)) :=by
 refine aB true 9 [.tmp 2] Tryz.func26 rfl rfl rfl (by simp) (by decide) rfl fun X hX => ?_
 (repeat (refine a6 [0,2] hX a7 rfl ?_; (simp [go_sem])))
 try simp [amt]
set_option maxHeartbeats 2000000 in
set_option maxRecDepth 20000 in
theorem GJ (f : Fd) (hl : f.claims.length ≤ 9223372036854775807) : Means true Tryz.prog 18 [fo f] (ii (if okCl f.claims then sumI (nums f.claims) else -1)) :=by
 obtain ⟨h,r,i,C,S⟩ :=f
 simp only at hl ⊢
 refine aB true 40 [.tmp 2] Tryz.func18 rfl rfl rfl (by simp) (by decide) rfl fun X hX => ?_
 (repeat (refine a6 q11x5 hX a7 rfl ?_; (simp [go_sem])))
 refine aF (fun k : Nat => ⟨mkE [(1,.el 0 5 0 0),(2,ii 0),(3,ii (sumI (nums (C.take k)))),(4,ii k)],[.row ⟨39,5,[fo ⟨h,r,i,C,S⟩]⟩]⟩) (fun k => k ≤ C.length ∧ okCl (C.take k) = true) (fun k => C.length - k) 0 ?_ ?_ ?_
 · refine aA _ [.old 0 ⟨39,5,[fo ⟨h,r,i,C,S⟩]⟩] (by simp [go_sem]) ?_
   simp [go_sem,nums,sumI]
 · exact ⟨Nat.zero_le _,by simp [okCl,nums,sumI]⟩
 · rintro k ⟨hk,hok⟩
   (repeat (refine a6 q11x5 hX a7 rfl ?_; (simp [go_sem])))
   refine a8 (b :=decide (k < C.length)) (by simp [go_sem]) (fun hb => ?_) (fun hb => ?_)
   · simp at hb
     have hn :=jU hok
     have wm :=w64 (x :=1099511627776 - sumI (nums (C.take k))) (by omega) (by omega)
     by_cases ha : amt C[k].2 = true
     · have hc :=i4 ha
       have hw :=w64 (x :=sumI (nums (C.take k)) + C[k].2) (by omega) (by omega)
       (repeat (refine a6 q11x5 hX a7 rfl ?_; (simp [go_sem,hb,wm])))
       refine a9 (lO C[k].2) ?_
       try (simp [go_sem,ha,hb,wm])
       (repeat refine And.intro (by first | omega | (unfold maxLen; omega) | kernel_rfl | (refine ⟨by first | omega | (unfold maxLen; omega),by first | omega | (unfold maxLen; omega)⟩) | grind) ?_)
       by_cases ha2 : amt (sumI (nums (C.take k)) + C[k].2) = true
       · have ha3 :=i4 ha2
         refine a8 (b :=false) (by simp [go_sem,ha]; omega) (fun h => by cases h) (fun _ => ?_)
         (repeat (refine a6 q11x5 hX a7 rfl ?_; (simp [go_sem,hb,hw]; (try simp (disch :=omega) only [w64,td,tm]))))
         refine ⟨k + 1,⟨by omega,rZ hb hok ha ha2⟩,by omega,?_⟩
         refine aA _ [.old 0 ⟨39,5,[fo ⟨h,r,i,C,S⟩]⟩] (by simp [go_sem]) ?_
         simp [go_sem,gI hb,cG,hw]
       · have ha2 : amt (sumI (nums (C.take k)) + C[k].2) = false :=by simpa using ha2
         have ha3 : ¬ sumI (nums (C.take k)) + C[k].2 ≤ 1099511627776 :=by
          intro hh
          rw [amt] at ha2
          simp at ha2
          omega
         refine a8 (b :=true) (by simp [go_sem,ha]; omega) (fun _ => ?_) (fun h => by cases h)
         (repeat (refine a6 q11x5 hX a7 rfl ?_; (simp [go_sem])))
         simp [wV hb hok ha ha2]
     · have ha : amt C[k].2 = false :=by simpa using ha
       (repeat (refine a6 q11x5 hX a7 rfl ?_; (simp [go_sem,hb,wm])))
       refine a9 (lO C[k].2) ?_
       try (simp [go_sem,ha,hb,wm])
       (repeat refine And.intro (by first | omega | (unfold maxLen; omega) | kernel_rfl | (refine ⟨by first | omega | (unfold maxLen; omega),by first | omega | (unfold maxLen; omega)⟩) | grind) ?_)
       refine a8 (b :=true) (by simp [go_sem,ha]) (fun _ => ?_) (fun h => by cases h)
       (repeat (refine a6 q11x5 hX a7 rfl ?_; (simp [go_sem])))
       simp [wU hb ha]
   · have hkl : k = C.length :=by simp at hb; omega
     subst hkl
     rw [List.take_length] at hok ⊢
     (repeat (refine a6 q11x5 hX a7 rfl ?_; (simp [go_sem])))
     simp [hok]
end Go.Proofs.YtknbcehhjffndaaGreat

namespace Go.Proofs.YtknbcehhjffndaaGreat
open Go.RowKit Go.Ab
theorem y5 {P : Program} {f : FuncId} {fr : Bool} {H : List Cell} {largs args2 : List AV} {rv : Value} (l : List Nat) (h : Means fr P f args2 (.v rv)) (hf : frzOK H l) (ha : largs.map (argA (frzRows H l)) = args2) (ho : args2.all AV.argOK = true) : MeansH P f H largs (.v rv) H :=by
 subst ha
 intro w M loc vs hM hgl hH hl hvs
 let X : Ctx :=⟨w,M,0,blks H loc,loc,hgl,fun p hp hb => f0 hH hb (hgl.1 p hp).1,fun g hg hb => f0 hH hb (hgl.2 g hg).1⟩
 let a0 : Act :={ tmps :=#[],defers :=[] }
 have hrr : RR X M loc ⟨argE 0 [],H⟩ a0 w :=by
  refine ⟨fun s => ?_,Nat.zero_le _,rfl,rfl,fun id o ho => (hH.obj id o ho).imp fun b hb => .inr hb,hH.sep,fun id m hm => (hH.mobj id m hm).imp fun b hb => .inr hb,hH.msep,⟨rfl,rfl,rfl,Nat.le_refl _,fun _ _ _ => rfl⟩,fun b hb => ⟨hM b hb,.inl hb⟩,fun b hb => hb,fun b hb => hM b hb,hH.one,fun s => ?_⟩
  · show Rep w M loc _ (argE 0 [] s)
    rw [fJ (Nat.zero_le _)]
    exact (RepZ.bad _).rep
  · show (argE 0 [] s).idLt H.length
    rw [fJ (Nat.zero_le _)]; trivial
 obtain ⟨M1,hM1,hr1⟩ :=RR.frzRows l hrr hf
 have hM2 : ∀ b,M1 b → b < w.heap.size :=fun b hb => (hr1.zone b hb).1
 have hz : ∀ (j : Nat) (x : Value) (e : AV),vs[j]? = some x → (largs.map (argA (frzRows H l)))[j]? = some e → RepZ w (fun b => b < w.heap.size) x e :=fun j x e h1 h2 => by
  rw [List.getElem?_map] at h2
  cases h3 : largs[j]? with
  | none => rw [h3] at h2; cases h2
  | some e0 =>
    rw [h3] at h2
    obtain rfl : argA (frzRows H l) e0 = e :=by simpa using h2
    obtain ⟨h4,h5⟩ :=hvs j x e0 h1 h3
    have h6 : Rep w M1 loc x e0 :=Rep.mono (n :=H.length) (fun _ _ => rfl) hM1 (fun _ _ => rfl) h4 h5
    refine fU hr1 hM2 h6 (List.all_eq_true.1 ho _ (List.mem_map.2 ⟨e0,List.mem_of_getElem? h3,rfl⟩)) fun id o _ e2 g hg => ?_
    obtain ⟨xs,hown,_⟩ :=(hr1.obj id o e2).own
    exact (hown.lt g hg).2
 refine (h (fun b => b < w.heap.size) w vs (fun _ h => h) (hgl.mono (fun _ _ => rfl) fun b hb => hM2 b (hM1 b hb)) (by simp [hl]) hz).mono fun e w' ⟨x,he,hb,hx⟩ => ?_
 have hxr : x = rv :=(RepZ.rep (loc :=loc) hx).v_inv
 subst hxr
 exact ⟨x,M,loc,he,vH hM hH hb,⟨hb.os,hb.tape,hb.output,hb.size,fun k hk _ => hb.block k hk⟩,fun _ h => h,fun b hb' => ⟨Nat.lt_of_lt_of_le (hM b hb') hb.size,.inl hb'⟩,fun _ _ => rfl,(RepZ.v x).rep,trivial,Nat.le_refl _⟩
end Go.Proofs.YtknbcehhjffndaaGreat

namespace Go.Proofs.YtknbcehhjffndaaGreat
open Go.RowKit Go.Ab
abbrev xA : List (Int × Int) :=[(1,8),(2,4)]
abbrev x1 : List Fd :=[⟨10,0,5,xA,[0]⟩]
abbrev x2 : List Fd :=[⟨5,2,0,xA,[0]⟩]
abbrev x3 : List Fd :=[⟨10,0,0,[(7,8)],[0,500]⟩,⟨10,0,0,[],[0,0]⟩]
theorem xr1 : fewV x1 = true ∧ rightV x1 = true :=by decide
theorem xr2 : fewV x2 = true ∧ rightV x2 = true :=by decide
theorem xr3 : fewV x3 = true ∧ rightV x3 = true :=by decide
theorem xo1 : owedL x1 = [12] :=by decide +kernel
theorem xo2 : owedL x2 = [12] :=by decide +kernel
theorem xo3 : owedL x3 = [4,4] :=by decide +kernel
theorem xs1 : share [8,4] 12 = [8,4] :=by
 rcases dC (C :=[8,4]) (h :=12) (by decide) (by decide) with ⟨_,h⟩ | ⟨h,_⟩
 · exact h
 · exact absurd (by decide) h
theorem xs3 : share [8] 8 = [8] :=by
 rcases dC (C :=[8]) (h :=8) (by decide) (by decide) with ⟨_,h⟩ | ⟨h,_⟩
 · exact h
 · exact absurd (by decide) h
theorem xs2 : share [8,4] 7 = [4,3] :=by
 rcases dC (C :=[8,4]) (h :=7) (by decide) (by decide) with ⟨h,_⟩ | ⟨_,l,h,e⟩
 · exact absurd h (by decide)
 · have : l = 3 :=mC h (by constructor <;> decide)
   subst this
   rw [e]; decide
theorem xg1 : gets x1 = [8,4] :=by
 unfold gets; rw [xo1,show asksK x1 x1.length = [8,4] from rfl,show paidK x1 [12] x1.length = 12 from rfl,xs1]
theorem xg2 : gets x2 = [4,3] :=by
 unfold gets; rw [xo2,show asksK x2 x2.length = [8,4] from rfl,show paidK x2 [12] x2.length = 7 from rfl,xs2]
theorem xg3 : gets x3 = [8] :=by
 unfold gets; rw [xo3,show asksK x3 x3.length = [8] from rfl,show paidK x3 [4,4] x3.length = 8 from rfl,xs3]
theorem xy1 : Means false Tryz.prog 8 [.sl (x1.map fo)] (.tup [.sl (([⟨3,0,0,[],[0]⟩] : List Fd).map fo),.sl ([xA].map awl),ii 0]) :=by
 have h :=v9 x1 xr1.1 xr1.2
 rwa [xo1,xg1,show outK x1 [12] x1.length = [⟨3,0,0,[],[0]⟩] from rfl,show awAll x1 [8,4] x1.length = [xA] from rfl] at h
theorem xy2 : Means false Tryz.prog 8 [.sl (x2.map fo)] (.tup [.sl (([⟨0,0,0,[],[0]⟩] : List Fd).map fo),.sl ([[(1,4),(2,3)]].map awl),ii 0]) :=by
 have h :=v9 x2 xr2.1 xr2.2
 rwa [xo2,xg2,show outK x2 [12] x2.length = [⟨0,0,0,[],[0]⟩] from rfl,show awAll x2 [4,3] x2.length = [[(1,4),(2,3)]] from rfl] at h
theorem xy3 : Means false Tryz.prog 8 [.sl (x3.map fo)] (.tup [.sl (([⟨6,0,0,[],[0,500]⟩,⟨6,0,0,[],[0,0]⟩] : List Fd).map fo),.sl ([[(7,8)],[]].map awl),ii 0]) :=by
 have h :=v9 x3 xr3.1 xr3.2
 rwa [xo3,xg3,show outK x3 [4,4] x3.length = [⟨6,0,0,[],[0,500]⟩,⟨6,0,0,[],[0,0]⟩] from rfl,show awAll x3 [8] x3.length = [[(7,8)],[]] from rfl] at h
theorem xw3 : Means false Tryz.prog 6 [.sl (x3.map fo)] (.tup [il [4,4],ii 0]) :=by
 have h :=yR x3 xr3.1 xr3.2
 rwa [xo3] at h
attribute [local irreducible] AWP Go.Ab.Sub Means MeansH CallK CallG CallT CallGT CallU
set_option maxHeartbeats 8000000 in
set_option maxRecDepth 20000 in
theorem GK : Means false Tryz.prog 4 [] (bb true) :=by
 have c1 :=xy1
 have c2 :=xy2
 have c3 :=xy3
 have c4 :=xw3
 have i1 :=oG [4,4] [4,4] (by decide) (by decide)
 have s1 :=jG [xA] [xA] (by decide) (by decide)
 have s2 :=jG [[(1,4),(2,3)]] [[(1,4),(2,3)]] (by decide) (by decide)
 have s3 :=jG [[(7,8)],[]] [[(7,8)],[]] (by decide) (by decide)
 have r0 :=l9 [] (by decide)
 rw [decide_eq_true rfl] at i1 s1 s2 s3
 rw [show rightV [] = false by decide] at r0
 simp only [List.map_cons,List.map_nil] at c1 c2 c3 c4 s1 s2 s3 r0 i1
 have s2h : MeansH Tryz.prog 14 [.row ⟨36,2,[cl (1,4),cl (2,3)]⟩,.row ⟨37,1,[.ow 0]⟩] [.sl [awl [(1,4),(2,3)]],.ow 1] (bb true) [.row ⟨36,2,[cl (1,4),cl (2,3)]⟩,.row ⟨37,1,[.ow 0]⟩] :=
  y5 [1] s2 (by simp [frzOK,nestIds,AV.flat,AV.idB]) rfl (by rfl)
 have s3h : MeansH Tryz.prog 14 [.row ⟨36,2,[cl (7,8)]⟩,.row ⟨37,1,[.ow 0,.nil]⟩] [.sl [awl [(7,8)],awl []],.ow 1] (bb true) [.row ⟨36,2,[cl (7,8)]⟩,.row ⟨37,1,[.ow 0,.nil]⟩] :=
  y5 [1] s3 (by simp [frzOK,nestIds,AV.flat,AV.idB]) rfl (by rfl)
 refine aB false 147 [.tmp 0] Tryz.func4 rfl rfl rfl (by simp) (by decide) rfl fun X hX => ?_
 (repeat (first | refine eA ?_ | refine eV ?_))
 ((first | refine gC q11x1 hX ?_ | refine iC q11x1 hX a7 ?_ | refine b8 ?_ | refine gD ?_ | refine gE ?_); (simp [go_sem]))
 (repeat (first | refine eA ?_ | refine eV ?_))
 refine gS ⟨mkE [(0,bb false),(1,awl xA)],[]⟩ ?_ ?_
 · ((first | refine gC q11x1 hX ?_ | refine iC q11x1 hX a7 ?_ | refine b8 ?_ | refine gD ?_ | refine gE ?_); (simp [go_sem]))
   refine aA _ [] (by simp [go_sem]) ?_
   simp [go_sem]
 (simp [go_sem])
 (repeat (refine a6 q11x1 hX a7 rfl ?_; (simp [go_sem])))
 refine mU [1] c1 (by simp [go_sem]) (by simp [go_sem]) (by simp [go_sem]) (by simp [go_sem]) ?_
 try (simp [go_sem])
 (repeat (refine a6 q11x1 hX a7 rfl ?_; (simp [go_sem])))
 refine mU [3] c2 (by simp [go_sem]) (by simp [go_sem]) (by simp [go_sem]) (by simp [go_sem]) ?_
 try (simp [go_sem])
 (repeat (first | refine eA ?_ | refine eV ?_))
 refine gS ⟨mkE [(0,bb false),(1,awl xA),(2,.sl [fo ⟨3,0,0,[],[0]⟩]),(3,.sl [awl xA]),(4,ii 0),(5,.sl [fo ⟨0,0,0,[],[0]⟩]),(6,.sl [awl [(1,4),(2,3)]]),(7,ii 0),(8,.sl [fo ⟨10,0,0,[(7,8)],[0,500]⟩,fo ⟨10,0,0,[],[0,0]⟩])],[]⟩ ?_ ?_
 · ((first | refine gC q11x1 hX ?_ | refine iC q11x1 hX a7 ?_ | refine b8 ?_ | refine gD ?_ | refine gE ?_); (simp [go_sem]))
   refine bQ (b :=⟨mkE [(0,bb false),(1,awl xA),(2,.sl [fo ⟨3,0,0,[],[0]⟩]),(3,.sl [awl xA]),(4,ii 0),(5,.sl [fo ⟨0,0,0,[],[0]⟩]),(6,.sl [awl [(1,4),(2,3)]]),(7,ii 0),(8,.ow 0)],[.row ⟨39,5,[fo ⟨10,0,0,[(7,8)],[0,500]⟩,fo ⟨10,0,0,[],[0,0]⟩]⟩]⟩) ?_ ?_
   · refine aA _ [] (by simp [go_sem]) ?_
     simp [go_sem]
   · refine aA _ [.old 7 ⟨39,5,[fo ⟨10,0,0,[(7,8)],[0,500]⟩,fo ⟨10,0,0,[],[0,0]⟩]⟩] (by simp [go_sem]) ?_
     simp [go_sem]
 (simp [go_sem])
 (repeat (refine a6 q11x1 hX a7 rfl ?_; (simp [go_sem])))
 refine a9 (c4) ?_
 try (simp [go_sem])
 (repeat (refine a6 q11x1 hX a7 rfl ?_; (simp [go_sem])))
 refine a9 (c3) ?_
 try (simp [go_sem])
 (repeat (refine a6 q11x1 hX a7 rfl ?_; (simp [go_sem])))
 refine a8 (b :=false) (by simp [go_sem]) (fun h => by cases h) (fun _ => ?_)
 (repeat (refine a6 q11x1 hX a7 rfl ?_; (simp [go_sem])))
 refine aJ (fun hg => s1) ?_
 try (simp [go_sem])
 first | refine i9 [1,2] (fun hg => s2h) (by simp [go_sem]) (by simp [go_sem]) ?_ | refine fY [1,2] (fun hg => s2h) (by simp [go_sem]) ?_
 try (simp [go_sem])
 (repeat (refine a6 q11x1 hX a7 rfl ?_; (simp [go_sem])))
 refine aJ (fun hg => i1) ?_
 try (simp [go_sem])
 first | refine i9 [4,5] (fun hg => s3h) (by simp [go_sem]) (by simp [go_sem]) ?_ | refine fY [4,5] (fun hg => s3h) (by simp [go_sem]) ?_
 try (simp [go_sem])
 refine aJ (fun hg => r0) ?_
 try (simp [go_sem])
 (repeat (refine a6 q11x1 hX a7 rfl ?_; (simp [go_sem])))
end Go.Proofs.YtknbcehhjffndaaGreat

namespace Go.Proofs.YtknbcehhjffndaaGreat
open Go.RowKit Go.Ab
attribute [-simp] List.map_take
attribute [local irreducible] AWP Go.Ab.Sub Means MeansH CallK CallG CallT CallGT CallU
def cellsK (S : List Int) (i j : Nat) : Prop :=∀ t (h : t < S.length),t < j → (0 ≤ S[t] ∧ S[t] ≤ 1000) ∧ (t = i → S[t] = 0)
theorem y6 {S : List Int} {i j : Nat} (hj : j < S.length) (h : cellsK S i j) (h1 : (0 ≤ S[j] ∧ S[j] ≤ 1000) ∧ (j = i → S[j] = 0)) : cellsK S i (j + 1) :=fun t ht htj => by
 by_cases e : t = j
 · subst e; exact h1
 · exact h t ht (by omega)
theorem qO {S : List Int} {i : Nat} : ∀ k,k ≤ S.length → cellsK S i k → 0 ≤ sumI (S.take k) ∧ sumI (S.take k) ≤ 1000 * k
 | 0,_,_ => by simp [sumI]
 | k + 1,hk,h => by
   rw [jT (show k < S.length by omega)]
   have :=qO k (by omega) fun t ht htk => h t ht (by omega)
   have :=(h k (by omega) (by omega)).1
   omega
theorem J4 {l : List Int} (h : ∀ x ∈ l,0 ≤ x) {x : Int} (hx : x ∈ l) : x ≤ sumI l :=by
 induction l with
 | nil => simp at hx
 | cons y l ih =>
   have h1 :=u6 (l :=l) fun z hz => h z (by simp [hz])
   have h2 :=h y (by simp)
   simp only [sumI]
   rcases List.mem_cons.1 hx with rfl | hx
   · omega
   · have :=ih (fun z hz => h z (by simp [hz])) hx; omega
theorem zI {S : List Int} {i : Nat} (hi : i < S.length) : (okS1 S = true ∧ S.getD i 0 = 0 ∧ sumI S < 1000) ↔ (cellsK S i S.length ∧ sumI S < 1000) :=by
 constructor
 · rintro ⟨h1,h2,h3⟩
   refine ⟨fun t ht _ => ?_,h3⟩
   have :=u7 (List.all_eq_true.1 h1 S[t] (List.getElem_mem ht))
   refine ⟨by omega,fun e => ?_⟩
   subst e; rwa [bF ht] at h2
 · rintro ⟨h1,h3⟩
   have hnn : ∀ x ∈ S,0 ≤ x :=fun x hx => by
    obtain ⟨t,ht,rfl⟩ :=List.getElem_of_mem hx
    exact (h1 t ht ht).1.1
   refine ⟨List.all_eq_true.2 fun x hx => ?_,?_,h3⟩
   · have :=J4 hnn hx
     have :=hnn x hx
     simp [inS]; omega
   · rw [bF hi]; exact (h1 i hi hi).2 rfl
set_option maxHeartbeats 8000000 in
set_option maxRecDepth 20000 in
theorem mK (F : List Fd) (hf : fewV F = true) : Means true Tryz.prog 11 [.sl (F.map fo)] (bb (rightV F)) :=by
 have h5 :=mS hf
 refine aB true 107 [.tmp 2] Tryz.func11 rfl rfl rfl (by simp) (by decide) rfl fun X hX => ?_
 (repeat (refine a6 q11x2 hX a7 rfl ?_; (simp [go_sem])))
 refine aF (fun k : Nat => ⟨mkE [(0,.sl (F.map fo)),(2,bb false),(3,ii (manyC (F.take k))),(4,ii k)],[]⟩) (fun k => k ≤ F.length ∧ okUp F k) (fun k => F.length - k) 0 ?_ ?_ ?_
 · refine aA _ [] (by simp [go_sem]) ?_
   simp [go_sem,manyC]
 · exact ⟨Nat.zero_le _,fun i _ h => absurd h (Nat.not_lt_zero _)⟩
 · rintro k ⟨hk,hok⟩
   have hm :=jW hf k hk
   (repeat (refine a6 q11x2 hX a7 rfl ?_; (simp [go_sem])))
   refine a8 (b :=decide (k < F.length)) (by simp [go_sem]) (fun hb => ?_) (fun hb => ?_)
   · simp at hb
     obtain ⟨hcl,hce⟩ :=fG hf (List.getElem_mem hb)
     have hon :=GJ F[k] (by omega)
     have hmk :=i5 hb
     have hno :=fun h1 => wW (k :=k) hb h1
     have hye :=fun h1 => s6 (k :=k) hb hok h1
     rw [okP] at hno hye
     (repeat (refine a6 q11x2 hX a7 rfl ?_; (simp [go_sem,hb])))
     generalize F[k] = f at *
     obtain ⟨h,r,i,C,S⟩ :=f
     simp only at hcl hce hno hye hmk hon ⊢
     obtain ⟨v,hv⟩ : ∃ v,(if okCl C = true then sumI (nums C) else -1) = v :=⟨_,rfl⟩
     have hv0 : decide (v < 0) = !okCl C :=by
      rw [← hv]
      cases hC : okCl C with
      | true => have :=(jU hC).1; simp; omega
      | false => simp
     rw [hv] at hon
     refine a9 (lO h) ?_
     try (simp [go_sem])
     refine aJ (fun hg => lO r) ?_
     try (simp [go_sem])
     refine aJ (fun hg => lO i) ?_
     try (simp [go_sem])
     refine aJ (fun hg => hon) ?_
     try (simp [go_sem])
     have e1 : decide ((S.length : Int) = F.length) = decide (S.length = F.length) :=by rw [decide_eq_decide]; omega
     cases hA : (okCl C && amt h && amt r && amt i && decide (S.length = F.length)) with
     | false =>
       have hB : (!amt h || !amt r || !amt i || !decide ((S.length : Int) = F.length) || decide (v < 0)) = true :=by
        rw [e1,hv0]
        revert hA
        cases okCl C <;> cases amt h <;> cases amt r <;> cases amt i <;> cases decide (S.length = F.length) <;> simp
       refine a8 (b :=true) (by simp [go_sem]; simpa using hB) (fun _ => ?_) (fun h => by cases h)
       rw [hno (by
        revert hA
        cases okCl C <;> cases amt h <;> cases amt r <;> cases amt i <;> cases decide (S.length = F.length) <;> simp)]
       (repeat (refine a6 q11x2 hX a7 rfl ?_; (simp [go_sem])))
     | true =>
       have hB : (!amt h || !amt r || !amt i || !decide ((S.length : Int) = F.length) || decide (v < 0)) = false :=by
        rw [e1,hv0]
        revert hA
        cases okCl C <;> cases amt h <;> cases amt r <;> cases amt i <;> cases decide (S.length = F.length) <;> simp
       simp only [Bool.and_eq_true,decide_eq_true_eq] at hA
       obtain ⟨⟨⟨⟨a1,a2⟩,a3⟩,a4⟩,a5⟩ :=hA
       have hkS : k < S.length :=by omega
       have hiff :=zI hkS
       simp only [a1,a2,a3,a4,a5,Bool.and_true,Bool.true_and,decide_true] at hno hye
       refine a8 (b :=false) (by simp [go_sem]; simpa using hB) (fun h => by cases h) (fun _ => ?_)
       (repeat (refine a6 q11x2 hX a7 rfl ?_; (simp [go_sem])))
       refine aF (fun j : Nat => ⟨mkE [(0,.sl (F.map fo)),(2,bb false),(3,ii (manyC (F.take k))),(4,ii k),(5,.el 0 5 0 0),(6,ii (sumI (S.take j))),(7,ii j)],[.row ⟨39,5,[fo ⟨h,r,i,C,S⟩]⟩]⟩) (fun j => j ≤ S.length ∧ cellsK S k j) (fun j => S.length - j) 0 ?_ ?_ ?_
       · refine aA _ [.old 0 ⟨39,5,[fo ⟨h,r,i,C,S⟩]⟩] (by simp [go_sem]) ?_
         simp [go_sem,sumI]
       · exact ⟨Nat.zero_le _,fun t _ h => absurd h (Nat.not_lt_zero _)⟩
       · rintro j ⟨hj,hcs⟩
         have hsb :=qO j hj hcs
         (repeat (refine a6 q11x2 hX a7 rfl ?_; (simp [go_sem])))
         refine a8 (b :=decide (j < S.length)) (by simp [go_sem]) (fun hc => ?_) (fun hc => ?_)
         · simp at hc
           (repeat (refine a6 q11x2 hX a7 rfl ?_; (simp [go_sem,hc])))
           (repeat refine And.intro (by first | omega | (unfold maxLen; omega) | kernel_rfl | (refine ⟨by first | omega | (unfold maxLen; omega),by first | omega | (unfold maxLen; omega)⟩) | grind) ?_)
           by_cases hs : (0 ≤ S[j] ∧ S[j] ≤ 1000) ∧ (j = k → S[j] = 0)
           · have hw :=w64 (x :=sumI (S.take j) + S[j]) (by omega) (by omega)
             obtain ⟨⟨s1,s2⟩,s3⟩ :=hs
             have s4 : ¬ S[j] < 0 :=by omega
             have s5 : ¬ 1000 < S[j] :=by omega
             refine a8 (b :=false) (by simp [go_sem,s4,s5]; intro e; exact s3 (by omega)) (fun h => by cases h) (fun _ => ?_)
             (repeat (refine a6 q11x2 hX a7 rfl ?_; (simp [go_sem,hc,hw]; (try simp (disch :=omega) only [w64,td,tm]))))
             refine ⟨j + 1,⟨by omega,y6 hc hcs ⟨⟨s1,s2⟩,s3⟩⟩,by omega,?_⟩
             refine aA _ [.old 0 ⟨39,5,[fo ⟨h,r,i,C,S⟩]⟩] (by simp [go_sem]) ?_
             simp [go_sem,jT hc,hw]
           · have hbad : ¬ (cellsK S k S.length ∧ sumI S < 1000) :=fun hh => hs (hh.1 j hc hc)
             have hR :=hno (by
              cases q1 : okS1 S with
              | false => rfl
              | true =>
                cases q2 : decide (S.getD k 0 = 0) with
                | false => rfl
                | true =>
                  cases q3 : decide (sumI S < 1000) with
                  | false => rfl
                  | true => exact absurd (hiff.1 ⟨q1,by simpa using q2,by simpa using q3⟩) hbad)
             rw [hR]
             refine a8 (b :=true) ?_ (fun _ => ?_) (fun h => by cases h)
             · simp [go_sem]
               by_cases s1 : S[j] < 0
               · exact .inl (.inl s1)
               · by_cases s2 : 1000 < S[j]
                 · exact .inl (.inr s2)
                 · refine .inr ⟨?_,fun e => hs ⟨⟨by omega,by omega⟩,fun _ => e⟩⟩
                   refine Decidable.byContradiction fun e => hs ⟨⟨by omega,by omega⟩,fun e2 => absurd (by omega) e⟩
             · (repeat (refine a6 q11x2 hX a7 rfl ?_; (simp [go_sem])))
         · have hjl : j = S.length :=by simp at hc; omega
           subst hjl
           rw [List.take_length] at hsb ⊢
           (repeat (refine a6 q11x2 hX a7 rfl ?_; (simp [go_sem])))
           by_cases h1000 : sumI S < 1000
           · obtain ⟨k1,k2,k3⟩ :=hiff.2 ⟨hcs,h1000⟩
             have hw :=w64 (x :=(manyC (F.take k) : Int) + C.length) (by omega) (by omega)
             refine a8 (b :=false) (by simp [go_sem]; omega) (fun h => by cases h) (fun _ => ?_)
             (repeat (refine a6 q11x2 hX a7 rfl ?_; (simp [go_sem,hw]; (try simp (disch :=omega) only [w64,td,tm]))))
             refine ⟨k + 1,⟨by omega,hye (by rw [k1,decide_eq_true k2,decide_eq_true k3]; rfl)⟩,by omega,?_⟩
             refine aA _ [] (by simp [go_sem]) ?_
             simp [go_sem,hmk,hw]
           · have hR :=hno (by simp [h1000])
             rw [hR]
             refine a8 (b :=true) (by simp [go_sem]; omega) (fun _ => ?_) (fun h => by cases h)
             (repeat (refine a6 q11x2 hX a7 rfl ?_; (simp [go_sem])))
   · have hkl : k = F.length :=by simp at hb; omega
     subst hkl
     rw [List.take_length] at hm ⊢
     (repeat (refine a6 q11x2 hX a7 rfl ?_; (simp [go_sem])))
     rw [s7 hok]
     have a0 : decide ((1 : Int) ≤ F.length) = decide (0 < F.length) :=by rw [decide_eq_decide]; omega
     have a1 : decide ((F.length : Int) ≤ 12) = decide (F.length ≤ 12) :=by rw [decide_eq_decide]; omega
     have a2 : decide ((manyC F : Int) ≤ 400) = decide (manyC F ≤ 400) :=by rw [decide_eq_decide]; omega
     try rw [a0]
     rw [a1,a2]
end Go.Proofs.YtknbcehhjffndaaGreat

namespace Go.Proofs.YtknbcehhjffndaaGreat
open Go.RowKit Go.Ab
variable {own : List Int} {S : List (List Int)}
theorem LS (h : PV own S) {k : Nat} (hk : k < own.length) : sumR (fun j => ((sO S k j : Int) : Rat)) own.length < 1000 :=by
 obtain ⟨l,hl,_,hs⟩ :=tZ h.toPR hk
 rw [hs]
 have :=h.lt l hl
 have : ((sumI l : Int) : Rat) < ((1000 : Int) : Rat) :=Rat.intCast_lt_intCast.2 this
 exact this
end Go.Proofs.YtknbcehhjffndaaGreat

namespace Go.Proofs.YtknbcehhjffndaaGreat
open Go.RowKit Go.Ab
def rM (own : List Int) (S : List (List Int)) : Mx :=fun k t => if t = own.length then ((wO own k : Int) : Rat) else (((sO S t k : Int) : Rat) / ((1000 : Int) : Rat))
def rO (T : Mx) (i t : Nat) : Rat :=if t = i then 0 else T i t
def rR (T : Mx) (i t : Nat) : Rat :=rO T i t / (1 - T i i)
def rStep (T : Mx) (i : Nat) : Mx :=fun j t => if j = i then rR T i t else (if t = i then 0 else T j t) + T j i * rR T i t
def gR (T : Mx) : Nat → Mx
 | 0 => T
 | i + 1 => rStep (gR T i) i
def rD (T : Mx) (i k : Nat) : Mx :=fun j t => if j = i then (if t < k then rR T i t else rO T i t) else T j t
def rJ (T : Mx) (i j k : Nat) : Mx :=fun j' t => if j' = i then rR T i t else if j' < j ∨ (j' = j ∧ t < k) then rStep T i j' t else T j' t
theorem IC (T : Mx) (i k : Nat) : updM (rD T i k) i k (rR T i k) = rD T i (k + 1) :=by
 funext j t
 unfold updM rD
 by_cases h : j = i
 · subst h
   by_cases h2 : t = k
   · subst h2; simp
   · rw [if_neg (by omega),if_pos rfl,if_pos rfl]
     by_cases h3 : t < k
     · rw [if_pos h3,if_pos (by omega)]
     · rw [if_neg h3,if_neg (by omega)]
 · rw [if_neg (by omega),if_neg h,if_neg h]
theorem IB (T : Mx) (i : Nat) : updM T i i 0 = rD T i 0 :=by
 funext j t
 unfold updM rD rO
 by_cases h : j = i
 · subst h
   by_cases h2 : t = j
   · subst h2; simp
   · rw [if_neg (by omega),if_pos rfl,if_neg (by omega),if_neg h2]
 · rw [if_neg (by omega),if_neg h]
theorem MW (T : Mx) (i k : Nat) : rD T i k i k = rO T i k :=by
 unfold rD
 rw [if_pos rfl,if_neg (by omega)]
theorem FR (T : Mx) (n i : Nat) : mxL (rD T i (n + 1)) n = mxL (rJ T i 0 0) n :=k7 fun j t hj ht => by
 unfold rD rJ
 by_cases h : j = i
 · rw [if_pos h,if_pos h,if_pos (by omega)]
 · rw [if_neg h,if_neg h,if_neg (by omega)]
theorem ID (T : Mx) (i j k : Nat) (h : j ≠ i) : updM (rJ T i j k) j k (rStep T i j k) = rJ T i j (k + 1) :=by
 funext j' t
 unfold updM rJ
 by_cases h1 : j' = j ∧ t = k
 · obtain ⟨rfl,rfl⟩ :=h1
   rw [if_pos ⟨rfl,rfl⟩,if_neg h,if_pos (.inr ⟨rfl,by omega⟩)]
 · rw [if_neg h1]
   by_cases h2 : j' = i
   · rw [if_pos h2,if_pos h2]
   · rw [if_neg h2,if_neg h2]
     by_cases h3 : j' < j ∨ (j' = j ∧ t < k)
     · rw [if_pos h3,if_pos (by omega)]
     · rw [if_neg h3,if_neg (by omega)]
theorem LE (T : Mx) (n i j : Nat) : mxL (rJ T i j (n + 1)) n = mxL (rJ T i (j + 1) 0) n :=k7 fun j' t hj ht => by
 unfold rJ
 by_cases h2 : j' = i
 · rw [if_pos h2,if_pos h2]
 · rw [if_neg h2,if_neg h2]
   by_cases h3 : j' < j ∨ (j' = j ∧ t < n + 1)
   · rw [if_pos h3,if_pos (by omega)]
   · rw [if_neg h3,if_neg (by omega)]
theorem IE (T : Mx) (i : Nat) : rJ T i i 0 = rJ T i (i + 1) 0 :=by
 funext j' t
 unfold rJ
 by_cases h2 : j' = i
 · rw [if_pos h2,if_pos h2]
 · rw [if_neg h2,if_neg h2]
   by_cases h3 : j' < i ∨ (j' = i ∧ t < 0)
   · rw [if_pos h3,if_pos (by omega)]
   · rw [if_neg h3,if_neg (by omega)]
theorem IF (T : Mx) (n i : Nat) : mxL (rJ T i n 0) n = mxL (rStep T i) n :=k7 fun j t hj ht => by
 unfold rJ
 by_cases h2 : j = i
 · rw [if_pos h2]; unfold rStep; rw [if_pos h2]
 · rw [if_neg h2,if_pos (.inl hj)]
theorem FS {T : Mx} {i j k t : Nat} (h : j ≠ i) (ht : k ≤ t) : rJ T i j k j t = T j t :=by
 unfold rJ
 rw [if_neg h,if_neg (by omega)]
theorem LD (T : Mx) (i j k t : Nat) : rJ T i j k i t = rR T i t :=if_pos rfl
theorem gM {T : Mx} {i j : Nat} (h : j ≠ i) (t : Nat) : rStep T i j t = (if t = i then 0 else T j t) + T j i * rR T i t :=if_neg h
structure InvR (T : Mx) (n i : Nat) : Prop where
 nn : ∀ j t,j < n → t < n → 0 ≤ T j t
 col : ∀ t,i ≤ t → t < n → sumR (fun j => if i ≤ j then T j t else 0) n < 1
 zero : ∀ j t,j < n → t < i → t < n → T j t = 0
theorem gO {T : Mx} {n i : Nat} (h : InvR T n i) (hi : i < n) : 0 < 1 - T i i :=by
 have h1 :=h.col i (Nat.le_refl _) hi
 have h2 : (if i ≤ i then T i i else 0) ≤ sumR (fun j => if i ≤ j then T j i else 0) n :=m6 (f :=fun j => if i ≤ j then T j i else 0) hi fun j hj => by
  show 0 ≤ (if i ≤ j then T j i else 0)
  split
  · exact h.nn j i hj hi
  · exact Rat.le_refl
 rw [if_pos (Nat.le_refl _)] at h2
 grind
theorem GL {a b : Rat} (ha : 0 ≤ a) (hb : 0 < b) : 0 ≤ a / b :=by
 have : a / b * b = a :=by grind
 refine Rat.not_lt.1 fun hlt => ?_
 have :=Rat.mul_pos (show 0 < -(a / b) by grind) hb
 grind
theorem GM {T : Mx} {n i t : Nat} (h : InvR T n i) (hi : i < n) (ht : t < n) : 0 ≤ rR T i t :=by
 unfold rR rO
 refine GL ?_ (gO h hi)
 split
 · exact Rat.le_refl
 · exact h.nn i t hi ht
theorem J5 {T : Mx} {n i t : Nat} (h : InvR T n i) (hi : i < n) (ht : t < n) (hti : t ≤ i) : rR T i t = 0 :=by
 unfold rR rO
 have hz : (if t = i then 0 else T i t) = 0 :=by
  split
  · rfl
  · exact h.zero i t hi (by omega) ht
 rw [hz]; grind
theorem D9 {T : Mx} {n i : Nat} (h : InvR T n i) (hi : i < n) : InvR (rStep T i) n (i + 1) :=by
 have hl :=gO h hi
 refine ⟨fun j t hj ht => ?_,fun t hit ht => ?_,fun j t hj hti ht => ?_⟩
 · unfold rStep
   split
   · exact GM h hi ht
   · have h1 :=GM h hi ht
     have h2 :=Rat.mul_nonneg (h.nn j i hj hi) h1
     split
     · grind
     · have :=h.nn j t hj ht; grind
 ·
  have e1 : sumR (fun j => if i + 1 ≤ j then rStep T i j t else 0) n = sumR (fun j => (if i ≤ j then T j t else 0) + (if i ≤ j then T j i else 0) * rR T i t) n - (T i t + T i i * rR T i t) :=by
   have : sumR (fun j => (if i ≤ j then T j t else 0) + (if i ≤ j then T j i else 0) * rR T i t) n = sumR (fun j => (if i + 1 ≤ j then rStep T i j t else 0) + (if j = i then T i t + T i i * rR T i t else 0)) n :=aR fun j hj => by
    by_cases h1 : j = i
    · subst h1
      rw [if_pos (Nat.le_refl _),if_pos (Nat.le_refl _),if_neg (by omega),if_pos rfl]; grind
    · by_cases h2 : i + 1 ≤ j
      · rw [if_pos (by omega),if_pos (by omega),if_pos h2,if_neg h1,gM h1,if_neg (by omega)]; grind
      · rw [if_neg (by omega),if_neg (by omega),if_neg h2,if_neg h1]; grind
   rw [this,fD,dL (f :=fun j => if j = i then T i t + T i i * rR T i t else 0) hi fun j _ hne => if_neg hne,if_pos rfl]
   grind
  have e2 : sumR (fun j => (if i ≤ j then T j t else 0) + (if i ≤ j then T j i else 0) * rR T i t) n = sumR (fun j => if i ≤ j then T j t else 0) n + rR T i t * sumR (fun j => if i ≤ j then T j i else 0) n :=by
   rw [fD,← fE]
   congr 1
   exact aR fun j _ => by grind
  have h1 :=h.col t (by omega) ht
  have h2 :=h.col i (Nat.le_refl _) hi
  have h3 :=GM h hi ht
  have h4 : rR T i t * (1 - T i i) = T i t :=by
   unfold rR rO
   rw [if_neg (by omega)]
   grind
  rw [e1,e2]
  generalize sumR (fun j => if i ≤ j then T j t else 0) n = S1 at *
  generalize sumR (fun j => if i ≤ j then T j i else 0) n = S2 at *
  generalize rR T i t = r at *
  have h5 : r * S2 ≤ r * 1 :=Rat.mul_le_mul_of_nonneg_left (Rat.le_of_lt h2) h3
  grind
 · have hz :=J5 h hi ht (by omega)
   unfold rStep
   split
   · exact hz
   · rw [hz]
     split
     · grind
     · rw [h.zero j t hj (by omega) ht]; grind
theorem mL {T : Mx} {n : Nat} (h : InvR T n 0) : ∀ i,i ≤ n → InvR (gR T i) n i
 | 0,_ => h
 | i + 1,hi => D9 (mL h i (by omega)) (by omega)
def SolR (T : Mx) (n : Nat) (x : Nat → Rat) : Prop :=∀ j,j < n → x j = sumR (fun t => T j t * x t) n + T j n
theorem t5 {f : Nat → Rat} {n i : Nat} (hi : i < n) : sumR (fun t => if t = i then 0 else f t) n = sumR f n - f i :=by
 have : sumR f n = sumR (fun t => (if t = i then 0 else f t) + (if t = i then f i else 0)) n :=aR fun t _ => by
  split
  · rename_i e; subst e; grind
  · grind
 rw [this,fD,dL (f :=fun t => if t = i then f i else 0) hi fun j _ hne => if_neg hne,if_pos rfl]
 grind
theorem DB {T : Mx} {n i : Nat} {x : Nat → Rat} (h : InvR T n i) (hi : i < n) (hs : SolR T n x) : SolR (rStep T i) n x :=by
 have hl :=gO h hi
 have hxi : x i = sumR (fun t => rR T i t * x t) n + rR T i n :=by
  have h1 :=hs i hi
  have e1 : sumR (fun t => rR T i t * x t) n * (1 - T i i) = sumR (fun t => T i t * x t) n - T i i * x i :=by
   rw [← t5 (f :=fun t => T i t * x t) hi,Rat.mul_comm,← fE]
   refine aR fun t _ => ?_
   unfold rR rO
   split
   · grind
   · grind
  have e2 : rR T i n * (1 - T i i) = T i n :=by
   unfold rR rO
   rw [if_neg (by omega)]; grind
  grind
 intro j hj
 by_cases hji : j = i
 · subst hji
   have e : sumR (fun t => rStep T j j t * x t) n = sumR (fun t => rR T j t * x t) n :=aR fun t _ => by unfold rStep; rw [if_pos rfl]
   rw [e]
   show x j = _ + rStep T j j n
   unfold rStep; rw [if_pos rfl]; exact hxi
 · have h1 :=hs j hj
   have e : sumR (fun t => rStep T i j t * x t) n = (sumR (fun t => T j t * x t) n - T j i * x i) + T j i * sumR (fun t => rR T i t * x t) n :=by
    rw [← t5 (f :=fun t => T j t * x t) hi,← fE,← fD]
    refine aR fun t _ => ?_
    show rStep T i j t * x t = (if t = i then 0 else T j t * x t) + T j i * (rR T i t * x t)
    rw [gM hji]
    split
    · grind
    · grind
   rw [e,gM hji,if_neg (by omega)]
   grind
theorem BI {T : Mx} {n : Nat} {x : Nat → Rat} (h : InvR T n 0) (hs : SolR T n x) : ∀ i,i ≤ n → SolR (gR T i) n x
 | 0,_ => hs
 | i + 1,hi => DB (mL h i (by omega)) (by omega) (BI h hs i (by omega))
theorem GN {T : Mx} {n : Nat} {x : Nat → Rat} (h : InvR T n 0) (hs : SolR T n x) {j : Nat} (hj : j < n) : gR T n j n = x j :=by
 have h1 :=BI h hs n (Nat.le_refl _) j hj
 rw [jM (f :=fun t => gR T n j t * x t) fun t ht => by
  rw [(mL h n (Nat.le_refl _)).zero j t hj ht ht]; grind] at h1
 grind
theorem t6 {T : Mx} {n i d a c : Nat} (hv : InvR T n i) (h : Stg T n d a c) (hda : d ≤ a) (hi : i < n) : Stg (rStep T i) n (d + d) (2 * a + 1) (a + c + 1) ∧ (a ≤ c → ∀ t,t ≤ n → bt c (rR T i t).num ∧ bt d (rR T i t).den) ∧ bt d (1 - T i i).num ∧ bt d (1 - T i i).den :=by
 obtain ⟨D,hD,hDl,hs⟩ :=h
 have hl :=gO hv hi
 have hnn :=hv.nn i i hi hi
 obtain ⟨q,hqz,hql⟩ :=(hs i hi).1 i hi
 have hDR : (0 : Rat) < ((D : Int) : Rat) :=by
  have : ((0 : Int) : Rat) < ((D : Int) : Rat) :=Rat.intCast_lt_intCast.2 (by omega)
  exact this
 have hpz : (1 - T i i) * ((D : Int) : Rat) = (((D : Int) - q : Int) : Rat) :=by
  rw [Rat.intCast_sub,← hqz]; grind
 have hq0 : 0 ≤ q :=by
  have : ((0 : Int) : Rat) ≤ (q : Rat) :=by rw [← hqz]; exact Rat.mul_nonneg hnn (Rat.le_of_lt hDR)
  exact Rat.intCast_le_intCast.1 this
 have hp0 : 0 < (D : Int) - q :=by
  have : ((0 : Int) : Rat) < (((D : Int) - q : Int) : Rat) :=by rw [← hpz]; exact Rat.mul_pos hl hDR
  exact Rat.intCast_lt_intCast.1 this
 obtain ⟨p,hp⟩ : ∃ p : Nat,(D : Int) - q = (p : Int) :=⟨((D : Int) - q).toNat,by omega⟩
 rw [hp] at hpz
 have hpl : p ≤ D :=by omega
 have hpp : 0 < p :=by omega
 have hcast : (((D * p : Nat) : Int) : Rat) = ((D : Int) : Rat) * ((1 - T i i) * ((D : Int) : Rat)) :=by
  rw [hpz,Int.natCast_mul,Rat.intCast_mul]
 have hpi : intB (2 ^ d) ((1 - T i i) * ((D : Int) : Rat)) :=⟨p,hpz,by simp; omega⟩
 have pr : ∀ {x : Rat} {N : Nat},intB (2 ^ N) (x * ((D : Int) : Rat)) → intB (2 ^ (d + N)) (x * (((D * p : Nat) : Int) : Rat)) :=by
  intro x N hx
  rw [hcast,Nat.pow_add]
  have e : x * (((D : Int) : Rat) * ((1 - T i i) * ((D : Int) : Rat))) = (1 - T i i) * ((D : Int) : Rat) * (x * ((D : Int) : Rat)) :=by grind
  rw [e]; exact eH hpi hx
 have rN : ∀ {x : Rat},x / (1 - T i i) * (((D * p : Nat) : Int) : Rat) = (x * ((D : Int) : Rat)) * ((D : Int) : Rat) :=by
  intro x
  rw [hcast]; grind
 have hDi : intB (2 ^ d) ((D : Int) : Rat) :=⟨D,rfl,by simpa using hDl⟩
 have rP : ∀ {x : Rat} {N : Nat},intB (2 ^ N) (x * ((D : Int) : Rat)) → intB (2 ^ (N + d)) (x / (1 - T i i) * (((D * p : Nat) : Int) : Rat)) :=by
  intro x N hx
  rw [rN,Nat.pow_add]
  exact eH hx hDi
 have two : ∀ {x y z : Rat} {N : Nat},a ≤ N ∨ d ≤ a → intB (2 ^ N) (x * ((D : Int) : Rat)) → intB (2 ^ a) (y * ((D : Int) : Rat)) → intB (2 ^ N) (z * ((D : Int) : Rat)) → intB (2 ^ (a + N + 1)) ((x + y * (z / (1 - T i i))) * (((D * p : Nat) : Int) : Rat)) :=by
  intro x y z N _ hx hy hz
  have h1 :=cR (pr hx) (Nat.pow_le_pow_right (show 0 < 2 by decide) (show d + N ≤ a + N by omega))
  have h2 :=eH hy hz
  rw [← Nat.pow_add] at h2
  have h3 :=p8 h1 h2
  rw [← Nat.two_mul,Nat.mul_comm,← Nat.pow_succ] at h3
  have e : (x + y * (z / (1 - T i i))) * (((D * p : Nat) : Int) : Rat) = x * (((D * p : Nat) : Int) : Rat) + (y * ((D : Int) : Rat)) * (z * ((D : Int) : Rat)) :=by
   rw [hcast]; grind
  rw [e]; exact h3
 have i0 : ∀ N : Nat,intB (2 ^ N) (0 * ((D : Int) : Rat)) :=fun N => ⟨0,by grind,by simp⟩
 have hO : ∀ t,t < n → intB (2 ^ a) (rO T i t * ((D : Int) : Rat)) :=fun t ht => by
  unfold rO
  split
  · exact i0 a
  · exact (hs i hi).1 t ht
 have hOn : intB (2 ^ c) (rO T i n * ((D : Int) : Rat)) :=by
  unfold rO
  rw [if_neg (by omega)]
  exact (hs i hi).2
 refine ⟨⟨D * p,Nat.mul_pos hD hpp,by rw [Nat.pow_add]; exact Nat.mul_le_mul hDl (by omega),fun j hj => ⟨fun t ht => ?_,?_⟩⟩,fun hac t ht => ?_,?_⟩
 · by_cases h : j = i
   · have e : rStep T i j t = rO T i t / (1 - T i i) :=by unfold rStep; rw [if_pos h]; rfl
     rw [e]
     exact cR (rP (hO t ht)) (Nat.pow_le_pow_right (by decide) (by omega))
   · rw [gM h]
     have e1 : a + a + 1 = 2 * a + 1 :=by omega
     rw [← e1]
     refine two (.inr hda) ?_ ((hs j hj).1 i hi) (hO t ht)
     split
     · exact i0 a
     · exact (hs j hj).1 t ht
 · by_cases h : j = i
   · have e : rStep T i j n = rO T i n / (1 - T i i) :=by unfold rStep; rw [if_pos h]; rfl
     rw [e]
     exact cR (rP hOn) (Nat.pow_le_pow_right (by decide) (by omega))
   · rw [gM h,if_neg (by omega)]
     exact two (.inr hda) (hs j hj).2 ((hs j hj).1 i hi) hOn
 · have hz : intB (2 ^ c) (rO T i t * ((D : Int) : Rat)) :=by
    by_cases htn : t < n
    · exact cR (hO t htn) (Nat.pow_le_pow_right (by decide) hac)
    · have : t = n :=by omega
      subst this; exact hOn
   have e : rR T i t * ((p : Int) : Rat) = rO T i t * ((D : Int) : Rat) :=by
    rw [← hpz]; unfold rR; grind
   obtain ⟨h1,h2⟩ :=kG (D :=p) (N :=2 ^ c) (r :=rR T i t) ⟨hpp,by rw [e]; exact hz⟩
   exact ⟨h1,by unfold bt; simp only [Int.natAbs_natCast]; omega⟩
 · obtain ⟨h1,h2⟩ :=kG (D :=D) (N :=2 ^ d) (r :=1 - T i i) ⟨hD,hpi⟩
   exact ⟨h1,by unfold bt; simp only [Int.natAbs_natCast]; omega⟩
def bE : Nat → Nat
 | 0 => 10
 | i + 1 => bE i + bE i
theorem r6 : (∀ i,i ≤ 5 → bE i ≤ 320 ∧ bE i ≤ bA 10 i ∧ bA 10 i ≤ 351 ∧ bC 10 50 i ≤ 391 ∧ bA 10 i ≤ bC 10 50 i) ∧ bE 6 ≤ 640 ∧ bA 10 6 ≤ 703 ∧ bC 10 50 6 ≤ 743 ∧ bA 10 6 ≤ bC 10 50 6 :=by decide
theorem BJ {T : Mx} {n : Nat} (hv : InvR T n 0) (h6 : n ≤ 6) (h : Stg T n 10 10 50) : ∀ i,i ≤ n → Stg (gR T i) n (bE i) (bA 10 i) (bC 10 50 i)
 | 0,_ => h
 | i + 1,hi => by
   have hb :=r6.1 i (by omega)
   have h1 :=(t6 (mL hv i (by omega)) (BJ hv h6 h i (by omega)) hb.2.1 (by omega)).1
   rw [A3]
   exact h1
structure FitR (T : Mx) (n : Nat) : Prop where
 ent : ∀ i j t,i ≤ n → j < n → t ≤ n → rq (gR T i j t)
 piv : ∀ i,i < n → 1 - gR T i i i ≠ 0
 less : ∀ i,i < n → okSub 1 (gR T i i i)
 div : ∀ i t,i < n → t ≤ n → okDiv (rO (gR T i) i t) (1 - gR T i i i)
 mul : ∀ i j t,i < n → j < n → j ≠ i → t ≤ n → okMul (gR T i j i) (rR (gR T i) i t)
 add : ∀ i j t,i < n → j < n → j ≠ i → t ≤ n → okAdd (if t = i then 0 else gR T i j t) (gR T i j i * rR (gR T i) i t)
theorem N6 {k m : Nat} : bt k ((0 : Rat)).num ∧ bt m ((0 : Rat)).den :=⟨nO k,cI tO (Nat.zero_le m)⟩
theorem NE {k m : Nat} : bt k ((1 : Rat)).num ∧ bt m ((1 : Rat)).den :=⟨cI (k :=0) (by show (1 : Nat) ≤ 2 ^ 0; decide) (Nat.zero_le k),cI (k :=0) (by show (1 : Nat) ≤ 2 ^ 0; decide) (Nat.zero_le m)⟩
theorem J6 {T : Mx} {n : Nat} (hv : InvR T n 0) (h6 : n ≤ 6) (h : Stg T n 10 10 50) : FitR T n :=by
 have hst :=BJ hv h6 h
 have sz : ∀ i,i ≤ n → ∀ j t,j < n → t ≤ n → bt (bC 10 50 i) (gR T i j t).num ∧ bt (bE i) (gR T i j t).den ∧ (t < n → bt (bA 10 i) (gR T i j t).num) :=fun i hi j t hj ht => by
  refine gW (hst i hi) ?_ hj ht
  by_cases h5 : i ≤ 5
  · exact (r6.1 i h5).2.2.2.2
  · have : i = 6 :=by omega
    subst this; exact r6.2.2.2.2
 have lo : ∀ i,i < n → (∀ t,t ≤ n → bt (bC 10 50 i) (rR (gR T i) i t).num ∧ bt (bE i) (rR (gR T i) i t).den) ∧ bt (bE i) (1 - gR T i i i).num ∧ bt (bE i) (1 - gR T i i i).den :=fun i hi => by
  have hb :=r6.1 i (by omega)
  have h1 :=t6 (mL hv i (by omega)) (hst i (by omega)) hb.2.1 hi
  exact ⟨h1.2.1 hb.2.2.2.2,h1.2.2⟩
 refine ⟨fun i j t hi hj ht => ?_,fun i hi => ?_,fun i hi => ?_,fun i t hi ht => ?_,fun i j t hi hj hne ht => ?_,fun i j t hi hj hne ht => ?_⟩
 · obtain ⟨h1,h2,_⟩ :=sz i hi j t hj ht
   by_cases h5 : i ≤ 5
   · have hb :=r6.1 i h5
     exact A4 h1 h2 (by omega) (by omega)
   · have : i = 6 :=by omega
     subst this
     have hb :=r6.2
     exact A4 h1 h2 (by omega) (by omega)
 · have :=gO (mL hv i (by omega)) hi
   intro e; rw [e] at this; exact absurd this (by decide)
 · have hb :=r6.1 i (by omega)
   obtain ⟨h1,h2,h3⟩ :=sz i (by omega) i i hi (by omega)
   have h0 :=NE (k :=0) (m :=0)
   exact p9 h0.1 h0.2 (h3 hi) h2 (by omega) (by omega) (by omega)
 · have hb :=r6.1 i (by omega)
   obtain ⟨_,h3,h4⟩ :=lo i hi
   have h1 : bt (bC 10 50 i) (rO (gR T i) i t).num ∧ bt (bE i) (rO (gR T i) i t).den :=by
    unfold rO
    split
    · exact N6
    · have :=sz i (by omega) i t hi ht
      exact ⟨this.1,this.2.1⟩
   exact iQ h1.1 h1.2 h3 h4 (by omega) (by omega)
 · have hb :=r6.1 i (by omega)
   obtain ⟨h1,h2,h3⟩ :=sz i (by omega) j i hj (by omega)
   obtain ⟨h4,h5⟩ :=(lo i hi).1 t ht
   exact iP (h3 hi) h2 h4 h5 (by omega) (by omega)
 · have hb :=r6.1 i (by omega)
   obtain ⟨h1,h2,h3⟩ :=sz i (by omega) j i hj (by omega)
   obtain ⟨h4,h5⟩ :=(lo i hi).1 t ht
   have hm :=EM (h3 hi) h2 h4 h5
   have ho : bt (bC 10 50 i) (if t = i then 0 else gR T i j t).num ∧ bt (bE i) (if t = i then 0 else gR T i j t).den :=by
    split
    · exact N6
    · have :=sz i (by omega) j t hj ht
      exact ⟨this.1,this.2.1⟩
   exact wA ho.1 ho.2 hm.1 hm.2 (by omega) (by omega) (by omega)
variable {own : List Int} {S : List (List Int)}
theorem xQ {k t : Nat} (ht : t < own.length) : rM own S k t = (((sO S t k : Int) : Rat) / ((1000 : Int) : Rat)) :=if_neg (by omega)
theorem z7 (k : Nat) : rM own S k own.length = ((wO own k : Int) : Rat) :=if_pos rfl
theorem GO (h : PV own S) : InvR (rM own S) own.length 0 :=by
 have hc : ((1000 : Int) : Rat) = 1000 :=rfl
 refine ⟨fun j t hj ht => ?_,fun t _ ht => ?_,fun j t hj h0 => by omega⟩
 · rw [xQ ht]
   have h1 :=(h.s t j ht hj).1
   have h2 : (0 : Rat) ≤ ((sO S t j : Int) : Rat) :=Rat.intCast_le_intCast.2 h1
   exact GL h2 (by decide)
 · have e : sumR (fun j => if 0 ≤ j then rM own S j t else 0) own.length = (1 / 1000) * sumR (fun j => ((sO S t j : Int) : Rat)) own.length :=by
    rw [← fE]
    refine aR fun j _ => ?_
    rw [if_pos (by omega),xQ ht,hc]; grind
   have :=LS h ht
   rw [e]; grind
theorem LT (h : PV own S) : SolR (rM own S) own.length (allX own S) :=fun j hj => by
 rw [z7,EP h hj]
 have hc : ((1000 : Int) : Rat) = 1000 :=rfl
 have e : sumR (fun t => rM own S j t * allX own S t) own.length = sumR (fun t => allX own S t * (((sO S t j : Int) : Rat) / 1000)) own.length :=aR fun t ht => by
  rw [xQ ht,hc]; grind
 rw [e]; grind
theorem LU (h : PR own S) : Stg (rM own S) own.length 10 10 50 :=by
 have hc : (((1000 : Nat) : Int) : Rat) = 1000 :=rfl
 have hc2 : ((1000 : Int) : Rat) = 1000 :=rfl
 refine ⟨1000,by decide,by decide,fun k hk => ⟨fun t ht => ?_,?_⟩⟩
 · rw [xQ ht]
   have h1 :=h.s t k ht hk
   refine ⟨sO S t k,by rw [hc,hc2]; grind,?_⟩
   have : (2 : Nat) ^ 10 = 1024 :=by decide
   omega
 · rw [z7]
   have h1 :=h.w k hk
   refine ⟨wO own k * 1000,by rw [hc,Rat.intCast_mul]; rfl,?_⟩
   have : (2 : Nat) ^ 50 = 1125899906842624 :=by decide
   omega
theorem LB (h : PV own S) (h6 : own.length ≤ 6) : FitR (rM own S) own.length :=J6 (GO h) h6 (LU h.toPR)
theorem LC (h : PV own S) {j : Nat} (hj : j < own.length) : gR (rM own S) own.length j own.length = allX own S j :=GN (GO h) (LT h) hj
end Go.Proofs.YtknbcehhjffndaaGreat

