/-
  Lemmas for the statement at the top.
-/
import Derived.Test.YtndiamkmcoghdaaYdP12
import Derived.Test.YtndiamkmcoghdaaYdFw5
import Derived.Test.YtndiamkmcoghdaaYdP11
import Derived.Test.YtndiamkmcoghdaaYdP8
set_option linter.all false
namespace Go.Proofs.Ytndiamkmcoghdaa
open Go.RowKit Go.Ab
theorem okEs_app2 {HS : List Src} {H : List Cell} : ∀ {A B C D : List AV},okEs HS H A B → okEs HS H C D → okEs HS H (A ++ C) (B ++ D)
 | [],[],_,_,_,h' => h'
 | [],_ :: _,_,_,h,_ => h.elim
 | _ :: _,[],_,_,h,_ => h.elim
 | _ :: _,_ :: _,_,_,h,h' => ⟨h.1,okEs_app2 h.2 h'⟩
def slN (X : List AV) : Prop :=∀ e ∈ X,(∃ es,e = .sl es) ∨ e = .nil
theorem okEs_id {HS : List Src} {H : List Cell} : ∀ {X : List AV},slN X → okEs HS H X X
 | [],_ => trivial
 | e :: X,h => by
   refine ⟨?_,okEs_id fun x hx => h x (by simp [hx])⟩
   rcases h e (by simp) with ⟨es,rfl⟩ | rfl
   · exact .inl rfl
   · rfl
theorem okEs_fo {HS : List Src} {H : List Cell} : ∀ (L : List Fd),okEs HS H (L.map fo) (L.map fo)
 | [] => trivial
 | f :: L => ⟨⟨rfl,rfl,rfl,.inl rfl,.inl rfl,trivial⟩,okEs_fo L⟩
theorem okEs_out {HS : List Src} {H : List Cell} (L : List Fd) (f : Fd) (hc : f.claims = []) : okEs HS H (L.map fo ++ [.agg [ii f.holds,ii f.reserve,ii f.income,.nil,il f.cedes]]) (L.map fo ++ [fo f]) :=
 okEs_app2 (okEs_fo L) ⟨⟨rfl,rfl,rfl,.inr (.inl ⟨rfl,by simp [awl,hc]⟩),.inl rfl,trivial⟩,trivial⟩
def rowA (F : List Fd) (G : List Int) (n i : Nat) (x : AV) : List AV :=(awAll F G i).map awl ++ x :: List.replicate (n - i - 1) .nil
def rowB (F : List Fd) (G : List Int) (n i : Nat) : List AV :=(awAll F G i).map awl ++ List.replicate (n - i) .nil
variable {F : List Fd} {G : List Int} {n i : Nat}
theorem rowA_len (x : AV) (h : i < n) : (rowA F G n i x).length = n :=by simp [rowA]; omega
theorem rowA_nth (x : AV) : nth (rowA F G n i x) i = x :=nth_end (by simp)
theorem rowA_set (x y : AV) : (rowA F G n i x).set i y = rowA F G n i y :=by
 unfold rowA
 rw [List.set_append_right _ _ (by simp)]
 simp
theorem rowB_A (h : i < n) : rowB F G n i = rowA F G n i .nil :=by
 unfold rowB rowA
 rw [show n - i = (n - i - 1) + 1 by omega,List.replicate_succ]; rfl
theorem rowA_B (h : i < F.length) : rowA F G n i (awl (awK F G i F[i].claims.length)) = rowB F G n (i + 1) :=by
 unfold rowB rowA
 rw [awAll_next h,List.map_append,List.map_cons,List.map_nil,List.append_assoc,show n - (i + 1) = n - i - 1 by omega]; rfl
theorem rowB_0 : rowB F G n 0 = List.replicate n .nil :=by simp [rowB,awAll]
theorem rowB_n : rowB F G n n = (awAll F G n).map awl :=by simp [rowB]
theorem slN_aw (L : List (List (Int × Int))) : slN (L.map awl) :=fun e he => by
 obtain ⟨l,_,rfl⟩ :=List.mem_map.1 he
 exact .inl ⟨_,rfl⟩
theorem slN_nil (k : Nat) : slN (List.replicate k .nil) :=fun e he => .inr (List.eq_of_mem_replicate he)
theorem okEs_A {HS : List Src} {H : List Cell} {x y : AV} (h : okF HS H x y) : okEs HS H (rowA F G n i x) (rowA F G n i y) :=
 okEs_app2 (okEs_id (slN_aw _)) ⟨h,okEs_id (slN_nil _)⟩
theorem zone_awl (L : List (List (Int × Int))) : zoneEs (L.map awl) = true :=zoneEs_map _ _ fun _ => rfl
theorem zone_cl (L : List (Int × Int)) : zoneEs (L.map cl) = true :=zoneEs_map _ _ fun _ => rfl
theorem zone_fo (L : List Fd) : zoneEs (L.map fo) = true :=zoneEs_map _ _ fun _ => rfl
def restG (G : List Int) (m : Nat) : List Int :=G.drop m
theorem restG_0 (G : List Int) : restG G 0 = G :=rfl
theorem restG_len (G : List Int) (m : Nat) : (restG G m).length = G.length - m :=by simp [restG]
theorem restG_hd {m : Nat} (h : m < G.length) : nth ((restG G m).map ii) 0 = ii G[m] :=by
 unfold restG; rw [List.drop_eq_getElem_cons h]; rfl
theorem restG_tl (G : List Int) (m : Nat) : ((restG G m).map ii).tail = (restG G (m + 1)).map ii :=by
 unfold restG; rw [← List.map_tail,List.tail_drop]
theorem pay_bd {f : Fd} {q : Int} (h1 : 0 ≤ f.holds ∧ f.holds ≤ 1099511627776) (h2 : 0 ≤ f.reserve ∧ f.reserve ≤ 1099511627776) (h3 : 0 ≤ f.income ∧ f.income ≤ 1099511627776) (hq : 0 ≤ q) : 0 ≤ payV f q ∧ payV f q ≤ 3298534883328 ∧ payV f q ≤ q :=by
 simp only [payV,freeV]; omega
theorem paid_bd {o : List Int} (hv : RV F) (ho : o.length = F.length) (hq : ∀ x ∈ o,0 ≤ x) : ∀ k,k ≤ F.length → 0 ≤ paidK F o k ∧ paidK F o k ≤ 3298534883328 * k
 | 0,_ => by simp [paidK,sumI]
 | k + 1,hk => by
   have hk' : k < F.length :=by omega
   rw [paidK_next hk' (by omega)]
   have :=paid_bd hv ho hq k (by omega)
   have h :=hv.at' k hk'
   have :=pay_bd h.hol h.res h.inc (hq o[k] (List.getElem_mem (by omega)))
   omega
theorem asks_mem (hv : RV F) {x : Int} {k : Nat} (hx : x ∈ asksK F k) : 0 ≤ x ∧ x ≤ 1099511627776 :=by
 obtain ⟨f,hf,h⟩ :=List.mem_flatMap.1 hx
 obtain ⟨i,hi,rfl⟩ :=List.getElem_of_mem (List.mem_of_mem_take hf)
 exact okCl_mem (hv.at' i hi).cla h
theorem asks_ok (hv : RV F) (k : Nat) : okC' (asksK F k) = true :=List.all_eq_true.2 fun x hx => by
 have :=asks_mem hv hx
 simp [inC,this.1,this.2]
noncomputable def gets (F : List Fd) : List Int :=share (asksK F F.length) (paidK F (owedL F) F.length)
attribute [-simp] List.map_take
attribute [local irreducible] AWP Go.Ab.Sub Means MeansH CallK CallG CallT CallGT CallU
set_option maxHeartbeats 8000000 in
set_option maxRecDepth 20000 in
theorem year_m (F : List Fd) (hf : fewV F = true) (hr : rightV F = true) : Means false Try.prog 11 [.sl (F.map fo)] (.tup [.sl ((outK F (owedL F) F.length).map fo),.sl ((awAll F (gets F) F.length).map awl),ii 0]) :=by
 have h5 :=few_5 hf
 have hv :=rv_of hr
 have c1 :=owed_m F hf hr
 have hc :=owned hv h5
 have hoL :=ownL_len F
 have hol : (owedL F).length = F.length :=by have :=hc.len; unfold owedL; omega
 have hob : ∀ x ∈ owedL F,0 ≤ x ∧ x ≤ 6597069766657 :=hc.bd
 have hpb :=paid_bd hv hol fun x hx => (hob x hx).1
 have ham :=many_bd hf F.length (Nat.le_refl _)
 have hal : (asksK F F.length).length ≤ 40 :=by rw [asksK_len F F.length (Nat.le_refl _)]; omega
 have hpn :=hpb F.length (Nat.le_refl _)
 have hok : okC' (asksK F F.length) = true :=asks_ok hv _
 have hrc : rightC (asksK F F.length) (paidK F (owedL F) F.length) = true :=by
  simp only [rightC,hok,okH,Bool.true_and,Bool.and_eq_true,decide_eq_true_eq]
  omega
 have c2 :=share_m (asksK F F.length) (by omega) (paidK F (owedL F) F.length)
 rw [if_pos hrc,if_pos hrc] at c2
 have hGl : (gets F).length = (asksK F F.length).length :=share_len hok hpn.1
 have hG : share (asksK F F.length) (paidK F (owedL F) F.length) = gets F :=rfl
 rw [hG] at c2
 generalize gets F = G at *
 generalize owedL F = o at *
 have hak :=asksK_len F
 refine means_fn false 135 [.tmp 2,.tmp 3,.tmp 4] Try.func11 rfl rfl rfl (by simp) (by decide) rfl fun X hX => ?_
 (repeat (refine awp_stepG [0,2,3,4,5,6,7,8,9,10,11,12,13,15,16,17,18,19,21,28,30,31,32,33,75,76,77,78,95,100,101,102,103,108,109,110,111] hX mixed rfl ?_; (simp [go_sem]; try (refine ⟨by kernel_rfl,?_⟩))))
 first | refine callKa (c1) ?_ | refine callTa (c1) ?_
 try (simp [go_sem]; try (refine ⟨by kernel_rfl,?_⟩))
 (repeat (refine awp_stepG [0,2,3,4,5,6,7,8,9,10,11,12,13,15,16,17,18,19,21,28,30,31,32,33,75,76,77,78,95,100,101,102,103,108,109,110,111] hX mixed rfl ?_; (simp [go_sem]; try (refine ⟨by kernel_rfl,?_⟩))))
 refine awp_cond (b :=false) (by simp [go_sem]) (fun h => by cases h) (fun _ => ?_)
 (repeat (refine awp_stepG [0,2,3,4,5,6,7,8,9,10,11,12,13,15,16,17,18,19,21,28,30,31,32,33,75,76,77,78,95,100,101,102,103,108,109,110,111] hX mixed rfl ?_; (simp [go_sem]; try (refine ⟨by kernel_rfl,?_⟩))))
 refine awp_loop (fun k : Nat => ⟨mkE [(0,.sl (F.map fo)),(5,il o),(7,.ow 0),(8,.ow 1),(9,ii (paidK F o k)),(30,.sl (F.map fo)),(31,ii F.length),(32,ii k)],[.row ⟨36,5,(outK F o k).map fo⟩,.row ⟨3,1,(asksK F k).map ii⟩]⟩) (fun k => k ≤ F.length) (fun k => F.length - k) 0 ?_ ?_ ?_
 · refine sub_of _ [.birth 36 5,.birth 3 1] (by simp [go_sem]) ?_
   simp [go_sem,outK,asksK,paidK,sumI]
 · omega
 · intro k hk
   have hpk :=hpb k hk
   have hmk :=many_bd hf k hk
   have hakl :=hak k hk
   (repeat (refine awp_stepG [0,2,3,4,5,6,7,8,9,10,11,12,13,15,16,17,18,19,21,28,30,31,32,33,75,76,77,78,95,100,101,102,103,108,109,110,111] hX mixed rfl ?_; (simp [go_sem]; try (refine ⟨by kernel_rfl,?_⟩))))
   refine awp_cond (b :=decide (k < F.length)) (by simp [go_sem]) (fun hb => ?_) (fun hb => ?_)
   · simp at hb
     have hko : k < o.length :=by omega
     have hcl :=few_at hf (List.getElem_mem hb)
     have hat :=hv.at' k hb
     have e1 :=outK_next (o :=o) hb hko
     have e2 :=paidK_next (o :=o) hb hko
     have e3 :=asksK_next hb
     have hpk1 :=hpb (k + 1) (by omega)
     have hq :=hob o[k] (List.getElem_mem hko)
     have hpp :=pay_bd hat.hol hat.res hat.inc hq.1
     have hw1 :=w64 (x :=F[k].income + F[k].holds) (by have :=hat.inc; have :=hat.hol; omega) (by have :=hat.inc; have :=hat.hol; omega)
     have hw2 :=w64 (x :=F[k].income + F[k].holds + F[k].reserve) (by have :=hat.inc; have :=hat.hol; have :=hat.res; omega) (by have :=hat.inc; have :=hat.hol; have :=hat.res; omega)
     simp only [payV,freeV] at hpp e2
     have hw3 :=w64 (x :=paidK F o k + min o[k] (F[k].income + F[k].holds + F[k].reserve)) (by omega) (by omega)
     have hw4 :=w64 (x :=F[k].income + F[k].holds - min o[k] (min (F[k].income + F[k].holds + F[k].reserve) (F[k].income + F[k].holds))) (by have :=hat.inc; have :=hat.hol; have :=hat.res; omega) (by have :=hat.inc; have :=hat.hol; have :=hat.res; omega)
     have hw5 :=w64 (x :=min o[k] (F[k].income + F[k].holds + F[k].reserve) - min o[k] (min (F[k].income + F[k].holds + F[k].reserve) (F[k].income + F[k].holds))) (by have :=hat.inc; have :=hat.hol; have :=hat.res; omega) (by have :=hat.inc; have :=hat.hol; have :=hat.res; omega)
     have hw6 :=w64 (x :=F[k].reserve - (min o[k] (F[k].income + F[k].holds + F[k].reserve) - min o[k] (min (F[k].income + F[k].holds + F[k].reserve) (F[k].income + F[k].holds)))) (by have :=hat.inc; have :=hat.hol; have :=hat.res; omega) (by have :=hat.inc; have :=hat.hol; have :=hat.res; omega)
     have hk4 :=outK_len F o k
     have hcla :=hat.cla
     have hced :=hat.len
     (repeat (refine awp_stepG [0,2,3,4,5,6,7,8,9,10,11,12,13,15,16,17,18,19,21,28,30,31,32,33,75,76,77,78,95,100,101,102,103,108,109,110,111] hX mixed rfl ?_; (simp [go_sem,hb,hko,hw1,hw2,hw3]; try (refine ⟨by kernel_rfl,?_⟩))))
     first | refine callKa (clone_m F[k].cedes (by omega)) ?_ | refine callTa (clone_m F[k].cedes (by omega)) ?_
     try (simp [go_sem,hw4,hw5,hw6,hk4]; try (refine ⟨by kernel_rfl,?_⟩))
     (repeat refine And.intro (by first | omega | (unfold maxLen; omega) | kernel_rfl | (refine ⟨by first | omega | (unfold maxLen; omega),by first | omega | (unfold maxLen; omega)⟩) | grind) ?_)
     (repeat (refine awp_stepG [0,2,3,4,5,6,7,8,9,10,11,12,13,15,16,17,18,19,21,28,30,31,32,33,75,76,77,78,95,100,101,102,103,108,109,110,111] hX mixed rfl ?_; (simp [go_sem,hw4,hw5,hw6,hk4]; try (refine ⟨by kernel_rfl,?_⟩))))
     refine awp_loop (fun j : Nat => ⟨mkE [(0,.sl (F.map fo)),(5,il o),(7,.ow 0),(8,.ow 1),(9,ii (paidK F o (k + 1))),(30,.sl (F.map fo)),(31,ii F.length),(32,ii k),(75,awl F[k].claims),(76,ii F[k].claims.length),(77,ii j)],[.row ⟨36,5,(outK F o (k + 1)).map fo⟩,.row ⟨3,1,(asksJ F k j).map ii⟩]⟩) (fun j => j ≤ F[k].claims.length) (fun j => F[k].claims.length - j) 0 ?_ ?_ ?_
     · have za :=zoneI (asksK F k)
       rw [asksJ_0,e1]
       refine sub_of _ [.old 4 ⟨36,5,(outK F o k ++ [outF F[k] o[k]]).map fo⟩,.old 1 ⟨3,1,(asksK F k).map ii⟩] ⟨⟨⟨rfl,rfl⟩,.inr ?_⟩,rfl,⟨⟨rfl,rfl⟩,.inl ⟨rfl,za⟩⟩,rfl,trivial⟩ ?_
       · rw [List.map_append]; exact okEs_out (outK F o k) (outF F[k] o[k]) rfl
       · simp [go_sem,e2]
     · omega
     · intro j hj
       have lj :=asksJ_len hb hj
       (repeat (refine awp_stepG [0,2,3,4,5,6,7,8,9,10,11,12,13,15,16,17,18,19,21,28,30,31,32,33,75,76,77,78,95,100,101,102,103,108,109,110,111] hX mixed rfl ?_; (simp [go_sem]; try (refine ⟨by kernel_rfl,?_⟩))))
       refine awp_cond (b :=decide (j < F[k].claims.length)) (by simp [go_sem]) (fun hc => ?_) (fun hc => ?_)
       · simp at hc
         have ej :=asksJ_next hb hc
         (repeat (refine awp_stepG [0,2,3,4,5,6,7,8,9,10,11,12,13,15,16,17,18,19,21,28,30,31,32,33,75,76,77,78,95,100,101,102,103,108,109,110,111] hX mixed rfl ?_; (simp [go_sem,hc]; try (refine ⟨by kernel_rfl,?_⟩))))
         (repeat refine And.intro (by first | omega | (unfold maxLen; omega) | kernel_rfl | (refine ⟨by first | omega | (unfold maxLen; omega),by first | omega | (unfold maxLen; omega)⟩) | grind) ?_)
         (repeat (refine awp_stepG [0,2,3,4,5,6,7,8,9,10,11,12,13,15,16,17,18,19,21,28,30,31,32,33,75,76,77,78,95,100,101,102,103,108,109,110,111] hX mixed rfl ?_; (simp [go_sem,hc,lj]; (try simp (disch :=omega) only [w64,td,tm]); try (refine ⟨by kernel_rfl,?_⟩))))
         (repeat refine And.intro (by first | omega | (unfold maxLen; omega) | kernel_rfl | (refine ⟨by first | omega | (unfold maxLen; omega),by first | omega | (unfold maxLen; omega)⟩) | grind) ?_)
         (repeat (refine awp_stepG [0,2,3,4,5,6,7,8,9,10,11,12,13,15,16,17,18,19,21,28,30,31,32,33,75,76,77,78,95,100,101,102,103,108,109,110,111] hX mixed rfl ?_; (simp [go_sem,hc,lj]; (try simp (disch :=omega) only [w64,td,tm]); try (refine ⟨by kernel_rfl,?_⟩))))
         refine ⟨j + 1,by omega,by omega,?_⟩
         rw [ej]
         refine sub_of _ [.old 0 ⟨36,5,(outK F o (k + 1)).map fo⟩,.old 4 ⟨3,1,(asksJ F k j ++ [F[k].claims[j].2]).map ii⟩] (by simp [go_sem,zone_fo]) ?_
         simp [go_sem]
       · have hjl : j = F[k].claims.length :=by simp at hc; omega
         subst hjl
         rw [asksJ_all hb]
         (repeat (refine awp_stepG [0,2,3,4,5,6,7,8,9,10,11,12,13,15,16,17,18,19,21,28,30,31,32,33,75,76,77,78,95,100,101,102,103,108,109,110,111] hX mixed rfl ?_; (simp [go_sem]; (try simp (disch :=omega) only [w64,td,tm]); try (refine ⟨by kernel_rfl,?_⟩))))
         refine ⟨k + 1,by omega,by omega,?_⟩
         refine sub_of _ [.old 0 ⟨36,5,(outK F o (k + 1)).map fo⟩,.old 1 ⟨3,1,(asksK F (k + 1)).map ii⟩] (by simp [go_sem,zone_fo]) ?_
         simp [go_sem]
   · have hkl : k = F.length :=by simp at hb; omega
     subst hkl
     (repeat (refine awp_stepG [0,2,3,4,5,6,7,8,9,10,11,12,13,15,16,17,18,19,21,28,30,31,32,33,75,76,77,78,95,100,101,102,103,108,109,110,111] hX mixed rfl ?_; (simp [go_sem]; try (refine ⟨by kernel_rfl,?_⟩))))
     first | refine callKa (c2) ?_ | refine callTa (c2) ?_
     try (simp [go_sem]; try (refine ⟨by kernel_rfl,?_⟩))
     (repeat (refine awp_stepG [0,2,3,4,5,6,7,8,9,10,11,12,13,15,16,17,18,19,21,28,30,31,32,33,75,76,77,78,95,100,101,102,103,108,109,110,111] hX mixed rfl ?_; (simp [go_sem]; try (refine ⟨by kernel_rfl,?_⟩))))
     refine awp_cond (b :=false) (by simp [go_sem]) (fun h => by cases h) (fun _ => ?_)
     (repeat (refine awp_stepG [0,2,3,4,5,6,7,8,9,10,11,12,13,15,16,17,18,19,21,28,30,31,32,33,75,76,77,78,95,100,101,102,103,108,109,110,111] hX mixed rfl ?_; (simp [go_sem]; try (refine ⟨by kernel_rfl,?_⟩))))
     (repeat refine And.intro (by first | omega | (unfold maxLen; omega) | kernel_rfl | (refine ⟨by first | omega | (unfold maxLen; omega),by first | omega | (unfold maxLen; omega)⟩) | grind) ?_)
     (repeat (refine awp_stepG [0,2,3,4,5,6,7,8,9,10,11,12,13,15,16,17,18,19,21,28,30,31,32,33,75,76,77,78,95,100,101,102,103,108,109,110,111] hX mixed rfl ?_; (simp [go_sem]; try (refine ⟨by kernel_rfl,?_⟩))))
     refine awp_loop (fun i : Nat => ⟨mkE [(7,.sl ((outK F o F.length).map fo)),(16,il (restG G (asksK F i).length)),(17,.ow 0),(100,.sl (F.map fo)),(101,ii F.length),(102,ii i)],[.row ⟨34,1,rowB F G F.length i⟩]⟩) (fun i => i ≤ F.length) (fun i => F.length - i) 0 ?_ ?_ ?_
     · have a0 : (asksK F 0).length = 0 :=by simp [asksK]
       have zo :=zone_fo (outK F o F.length)
       rw [rowB_0,a0,restG_0]
       refine sub_of _ [.old 2 ⟨34,1,List.replicate F.length .nil⟩] (by simp [go_sem]) ?_
       simp [go_sem,zo]
     · omega
     · intro i hi
       (repeat (refine awp_stepG [0,2,3,4,5,6,7,8,9,10,11,12,13,15,16,17,18,19,21,28,30,31,32,33,75,76,77,78,95,100,101,102,103,108,109,110,111] hX mixed rfl ?_; (simp [go_sem]; try (refine ⟨by kernel_rfl,?_⟩))))
       refine awp_cond (b :=decide (i < F.length)) (by simp [go_sem]) (fun hb => ?_) (fun hb => ?_)
       · simp at hb
         have hcl :=few_at hf (List.getElem_mem hb)
         have hmn :=hak (i + 1) (by omega)
         have hmi :=hak i hi
         have hma :=hak F.length (Nat.le_refl _)
         have hle : (asksK F (i + 1)).length ≤ (asksK F F.length).length :=by
          have : asksK F F.length = asksK F (i + 1) ++ (F.drop (i + 1)).flatMap fun f => nums f.claims :=by
           unfold asksK; rw [← List.flatMap_append,List.take_append_drop,List.take_length]
          rw [this,List.length_append]; omega
         have hne :=asksK_next hb
         have hnl : (asksK F (i + 1)).length = (asksK F i).length + F[i].claims.length :=by rw [hne,List.length_append,nums_len]
         (repeat (refine awp_stepG [0,2,3,4,5,6,7,8,9,10,11,12,13,15,16,17,18,19,21,28,30,31,32,33,75,76,77,78,95,100,101,102,103,108,109,110,111] hX mixed rfl ?_; (simp [go_sem,hb]; try (refine ⟨by kernel_rfl,?_⟩))))
         refine awp_loop (fun j : Nat => ⟨mkE [(7,.sl ((outK F o F.length).map fo)),(16,il (restG G ((asksK F i).length + j))),(17,.ow 0),(18,ii i),(100,.sl (F.map fo)),(101,ii F.length),(102,ii i),(108,awl F[i].claims),(109,ii F[i].claims.length),(110,ii j)],[.row ⟨34,1,rowA F G F.length i (.ow 1)⟩,.row ⟨38,2,(awK F G i j).map cl⟩]⟩) (fun j => j ≤ F[i].claims.length) (fun j => F[i].claims.length - j) 0 ?_ ?_ ?_
         · rw [rowB_A hb]
           refine sub_of _ [.old 0 ⟨34,1,rowA F G F.length i (.ow 1)⟩,.birth 38 2] ⟨⟨⟨rfl,rfl⟩,.inr (okEs_A rfl)⟩,rfl,trivial⟩ ?_
           simp [go_sem]
         · omega
         · intro j hj
           have hal :=awK_len F G i j
           (repeat (refine awp_stepG [0,2,3,4,5,6,7,8,9,10,11,12,13,15,16,17,18,19,21,28,30,31,32,33,75,76,77,78,95,100,101,102,103,108,109,110,111] hX mixed rfl ?_; (simp [go_sem]; try (refine ⟨by kernel_rfl,?_⟩))))
           refine awp_cond (b :=decide (j < F[i].claims.length)) (by simp [go_sem]) (fun hc => ?_) (fun hc => ?_)
           · simp at hc
             have hg : (asksK F i).length + j < G.length :=by omega
             have hrl :=restG_len G ((asksK F i).length + j)
             have hrh :=restG_hd hg
             have hrt :=restG_tl G ((asksK F i).length + j)
             have hrn :=rowA_nth (F :=F) (G :=G) (n :=F.length) (i :=i) (.ow 1)
             have hrL :=rowA_len (F :=F) (G :=G) (.ow 1) hb
             have hrs :=fun y => rowA_set (F :=F) (G :=G) (n :=F.length) (i :=i) (.ow 1) y
             have hr0 : 0 < G.length - ((asksK F i).length + j) :=by omega
             (repeat (refine awp_stepG [0,2,3,4,5,6,7,8,9,10,11,12,13,15,16,17,18,19,21,28,30,31,32,33,75,76,77,78,95,100,101,102,103,108,109,110,111] hX mixed rfl ?_; (simp [go_sem,hc,hb,hrl,hrh,hrn,hrL,hal,hr0,hrs,hrt]; try (refine ⟨by kernel_rfl,?_⟩))))
             (repeat refine And.intro (by first | omega | (unfold maxLen; omega) | kernel_rfl | (refine ⟨by first | omega | (unfold maxLen; omega),by first | omega | (unfold maxLen; omega)⟩) | grind) ?_)
             (repeat (refine awp_stepG [0,2,3,4,5,6,7,8,9,10,11,12,13,15,16,17,18,19,21,28,30,31,32,33,75,76,77,78,95,100,101,102,103,108,109,110,111] hX mixed rfl ?_; (simp [go_sem]; (try simp (disch :=omega) only [w64,td,tm]); try (refine ⟨by kernel_rfl,?_⟩))))
             refine ⟨j + 1,by omega,by omega,?_⟩
             rw [awK_next hb hc hg,← Nat.add_assoc]
             refine sub_of _ [.old 0 ⟨34,1,rowA F G F.length i (.ow 1)⟩,.old 4 ⟨38,2,(awK F G i j ++ [(F[i].claims[j].1,G[(asksK F i).length + j])]).map cl⟩] ⟨⟨⟨rfl,rfl⟩,.inr (okEs_A rfl)⟩,rfl,⟨⟨rfl,rfl⟩,.inl ⟨?_,zone_cl _⟩⟩,rfl,trivial⟩ ?_
             · simp [go_sem]
             · simp [go_sem]
           · have hjl : j = F[i].claims.length :=by simp at hc; omega
             subst hjl
             (repeat (refine awp_stepG [0,2,3,4,5,6,7,8,9,10,11,12,13,15,16,17,18,19,21,28,30,31,32,33,75,76,77,78,95,100,101,102,103,108,109,110,111] hX mixed rfl ?_; (simp [go_sem]; (try simp (disch :=omega) only [w64,td,tm]); try (refine ⟨by kernel_rfl,?_⟩))))
             refine ⟨i + 1,by omega,by omega,?_⟩
             rw [← rowA_B hb,hnl]
             refine sub_of _ [.old 0 ⟨34,1,rowA F G F.length i (awl (awK F G i F[i].claims.length))⟩] ⟨⟨⟨rfl,rfl⟩,.inr (okEs_A (.inr (.inr (.inl ⟨1,_,rfl,rfl,rfl,zone_cl _,rfl⟩))))⟩,rfl,trivial⟩ ?_
             simp [go_sem]
       · have hin : i = F.length :=by simp at hb; omega
         subst hin
         rw [rowB_n]
         have zw :=zone_awl (awAll F G F.length)
         (repeat (refine awp_stepG [0,2,3,4,5,6,7,8,9,10,11,12,13,15,16,17,18,19,21,28,30,31,32,33,75,76,77,78,95,100,101,102,103,108,109,110,111] hX mixed rfl ?_; (simp [go_sem,zw]; try (refine ⟨by kernel_rfl,?_⟩))))
         try rfl
end Go.Proofs.Ytndiamkmcoghdaa

namespace Go.Proofs.Ytndiamkmcoghdaa
open Go.RowKit Go.Ab
def fewF (f : Fd) : Bool :=decide (f.claims.length ≤ 8) && decide (f.cedes.length ≤ 14)
def allF (F : List Fd) : Bool :=F.all fewF
theorem fewV_eq (F : List Fd) : fewV F = (allF F && decide (F.length ≤ 5)) :=rfl
def hasF (f : Fd) : Int :=f.income + f.holds + f.reserve
def hasV (F : List Fd) : Int :=sumI (F.map hasF)
structure AmF (f : Fd) : Prop where
 h : 0 ≤ f.holds ∧ f.holds ≤ 3298534883328
 r : 0 ≤ f.reserve ∧ f.reserve ≤ 3298534883328
 i : 0 ≤ f.income ∧ f.income ≤ 3298534883328
theorem AmF.bd {f : Fd} (h : AmF f) : 0 ≤ hasF f ∧ hasF f ≤ 9895604649984 :=by
 have :=h.h; have :=h.r; have :=h.i; unfold hasF; omega
theorem has_bd {F : List Fd} (h : ∀ f ∈ F,AmF f) : ∀ k,k ≤ F.length → 0 ≤ sumI ((F.map hasF).take k) ∧ sumI ((F.map hasF).take k) ≤ 9895604649984 * k
 | 0,_ => by simp [sumI]
 | k + 1,hk => by
   have hk2 : k < (F.map hasF).length :=by rw [List.length_map]; omega
   rw [sumI_next hk2]
   have :=has_bd h k (by omega)
   have :=(h F[k] (List.getElem_mem (by omega))).bd
   rw [List.getElem_map]
   omega
theorem RV.am {F : List Fd} (h : RV F) : ∀ f ∈ F,AmF f :=fun f hf => by
 obtain ⟨i,hi,rfl⟩ :=List.getElem_of_mem hf
 have :=h.at' i hi
 have h1 :=this.hol; have h2 :=this.res; have h3 :=this.inc
 exact ⟨by omega,by omega,by omega⟩
theorem out_am {f : Fd} (hh : 0 ≤ f.holds ∧ f.holds ≤ 1099511627776) (hr : 0 ≤ f.reserve ∧ f.reserve ≤ 1099511627776) (hi : 0 ≤ f.income ∧ f.income ≤ 1099511627776) {q : Int} (hq : 0 ≤ q) : AmF (outF f q) :=by
 unfold outF
 refine ⟨?_,?_,?_⟩ <;> simp only [freeV] <;> omega
theorem has_out (f : Fd) (q : Int) : hasF (outF f q) = hasF f - payV f q :=by
 unfold hasF outF; simp only [freeV,payV]; omega
theorem out_get {F : List Fd} {o : List Int} {n i : Nat} (hn : i < n) (hi : i < F.length) (ho : i < o.length) (h' : i < (outK F o n).length) : (outK F o n)[i] = outF F[i] o[i] :=by
 simp only [outK,List.getElem_map,List.getElem_range,getF hi,getD_at ho]
theorem aw_get {F : List Fd} {G : List Int} {n i : Nat} (hn : i < n) (hi : i < F.length) (h' : i < (awAll F G n).length) : (awAll F G n)[i] = awK F G i F[i].claims.length :=by
 simp only [awAll,List.getElem_map,List.getElem_range,getF hi]
theorem awK_get {F : List Fd} {G : List Int} {i j m : Nat} (hi : i < F.length) (hj : j < m) (hc : j < F[i].claims.length) (hg : (asksK F i).length + j < G.length) (h' : j < (awK F G i m).length) : (awK F G i m)[j] = (F[i].claims[j].1,G[(asksK F i).length + j]) :=by
 simp only [awK,List.getElem_map,List.getElem_range,getF hi,getD_at hg]
 congr 2
 rw [List.getD_eq_getElem?_getD,List.getElem?_eq_getElem hc]; rfl
attribute [-simp] List.map_take
attribute [local irreducible] AWP Go.Ab.Sub Means MeansH CallK CallG CallT CallGT CallU
set_option maxRecDepth 20000 in
theorem pfew_m (F : List Fd) (hl : F.length ≤ 9223372036854775807) : Means true Try.prog 8 [.sl (F.map fo)] (bb (fewV F)) :=by
 refine means_fn true 33 [.tmp 2] Try.func8 rfl rfl rfl (by simp) (by decide) rfl fun X hX => ?_
 (repeat (refine awp_stepG [0,2,3,11,29] hX mixed rfl ?_; (simp [go_sem]; try (refine ⟨by kernel_rfl,?_⟩))))
 refine awp_loop (fun k : Nat => ⟨mkE [(0,.sl (F.map fo)),(2,bb false),(3,ii k)],[]⟩) (fun k => (k ≤ F.length ∧ k ≤ 6) ∧ allF (F.take k) = true) (fun k => F.length - k) 0 ?_ ?_ ?_
 · refine sub_of _ [] (by simp [go_sem]) ?_
   simp [go_sem]
 · exact ⟨by omega,rfl⟩
 · rintro k ⟨⟨hk,hk6⟩,ha⟩
   (repeat (refine awp_stepG [0,2,3,11,29] hX mixed rfl ?_; (simp [go_sem]; try (refine ⟨by kernel_rfl,?_⟩))))
   refine awp_cond (b :=decide (k < F.length) && decide ((k : Int) < 6)) (by simp [go_sem]) (fun hb => ?_) (fun hb => ?_)
   · simp only [Bool.and_eq_true,decide_eq_true_eq] at hb
     obtain ⟨hb,hb6⟩ :=hb
     (repeat (refine awp_stepG [0,2,3,11,29] hX mixed rfl ?_; (simp [go_sem,hb]; try (refine ⟨by kernel_rfl,?_⟩))))
     cases hf : fewF F[k] with
     | true =>
       have h2 : F[k].claims.length ≤ 8 ∧ F[k].cedes.length ≤ 14 :=by simpa [fewF] using hf
       refine awp_cond (b :=false) (by simp [go_sem]; omega) (fun h => by cases h) (fun _ => ?_)
       (repeat (refine awp_stepG [0,2,3,11,29] hX mixed rfl ?_; (simp [go_sem,hb]; (try simp (disch :=omega) only [w64,td,tm]); try (refine ⟨by kernel_rfl,?_⟩))))
       refine ⟨k + 1,⟨by omega,?_⟩,by omega,?_⟩
       · unfold allF at *; rw [List.take_succ_eq_append_getElem hb,List.all_append,ha]; simp [hf]
       · refine sub_of _ [] (by simp [go_sem]) ?_
         simp [go_sem]
     | false =>
       have h2 : 8 < F[k].claims.length ∨ 14 < F[k].cedes.length :=by
        simp only [fewF,Bool.and_eq_false_iff,decide_eq_false_iff_not] at hf
        omega
       have hF : fewV F = false :=by
        have : allF F = false :=List.all_eq_false.2 ⟨F[k],List.getElem_mem hb,by simp [hf]⟩
        rw [fewV_eq,this]; rfl
       refine awp_cond (b :=true) (by simp [go_sem]; omega) (fun _ => ?_) (fun h => by cases h)
       rw [hF]
       (repeat (refine awp_stepG [0,2,3,11,29] hX mixed rfl ?_; (simp [go_sem]; try (refine ⟨by kernel_rfl,?_⟩))))
   · simp only [Bool.and_eq_false_iff,decide_eq_false_iff_not] at hb
     (repeat (refine awp_stepG [0,2,3,11,29] hX mixed rfl ?_; (simp [go_sem]; try (refine ⟨by kernel_rfl,?_⟩))))
     rw [fewV_eq]
     by_cases h5 : F.length ≤ 5
     · have hkl : k = F.length :=by omega
       subst hkl
       rw [List.take_length] at ha
       simp [ha]; omega
     · simp [h5]; omega
theorem pints_m (a b : List Int) (hla : a.length ≤ 9223372036854775807) (hlb : b.length ≤ 9223372036854775807) : Means true Try.prog 21 [il a,il b] (bb (decide (a = b))) :=by
 refine means_fn true 26 [.tmp 4] Try.func21 rfl rfl rfl (by simp) (by decide) rfl fun X hX => ?_
 by_cases hl : a.length = b.length
 · (repeat (refine awp_stepG [0,1,4,5,10,14,25] hX mixed rfl ?_; (simp [go_sem,hl]; try (refine ⟨by kernel_rfl,?_⟩))))
   refine awp_cond (b :=false) (by simp [go_sem,hl]) (fun hb => by cases hb) (fun _ => ?_)
   (repeat (refine awp_stepG [0,1,4,5,10,14,25] hX mixed rfl ?_; (simp [go_sem]; try (refine ⟨by kernel_rfl,?_⟩))))
   refine awp_loop (fun n : Nat => ⟨mkE [(0,il a),(1,il b),(5,ii n)],[]⟩) (fun n => n ≤ a.length ∧ a.take n = b.take n) (fun n => a.length - n) 0 ?_ ?_ ?_
   · refine sub_of _ [] (by simp [go_sem]) ?_
     simp [go_sem]
   · exact ⟨Nat.zero_le _,by simp⟩
   · rintro n ⟨hn,he⟩
     (repeat (refine awp_stepG [0,1,4,5,10,14,25] hX mixed rfl ?_; (simp [go_sem]; try (refine ⟨by kernel_rfl,?_⟩))))
     refine awp_cond (b :=decide (n < a.length)) (by simp [go_sem]) (fun hd2 => ?_) (fun hd2 => ?_)
     · simp at hd2
       have h2 : n < b.length :=by omega
       (repeat (refine awp_stepG [0,1,4,5,10,14,25] hX mixed rfl ?_; (simp [go_sem,hd2,h2]; (try simp (disch :=omega) only [w64,td,tm]); try (refine ⟨by kernel_rfl,?_⟩))))
       (repeat refine And.intro (by first | omega | (unfold maxLen; omega) | kernel_rfl | (refine ⟨by first | omega | (unfold maxLen; omega),by first | omega | (unfold maxLen; omega)⟩) | grind) ?_)
       try (simp [go_sem,hd2,h2]; try (refine ⟨by kernel_rfl,?_⟩))
       refine awp_cond (b :=decide (a[n] ≠ b[n])) (by simp [go_sem,hd2,h2]; try omega) (fun hc => ?_) (fun hc => ?_)
       · simp only [decide_eq_true_eq] at hc
         have hne : ¬ a = b :=fun e => hc (by simp only [e])
         (repeat (refine awp_stepG [0,1,4,5,10,14,25] hX mixed rfl ?_; (simp [go_sem,hne]; try (refine ⟨by kernel_rfl,?_⟩))))
       · simp at hc
         (repeat (refine awp_stepG [0,1,4,5,10,14,25] hX mixed rfl ?_; (simp [go_sem]; (try simp (disch :=omega) only [w64,td,tm]); try (refine ⟨by kernel_rfl,?_⟩))))
         refine ⟨n + 1,⟨by omega,?_⟩,by omega,?_⟩
         · rw [List.take_succ_eq_append_getElem hd2,List.take_succ_eq_append_getElem h2,he,hc]
         · refine sub_of _ [] (by simp [go_sem]) ?_
           simp [go_sem]
     · have hnl : n = a.length :=by simp at hd2; omega
       subst hnl
       have hab : a = b :=by rwa [List.take_length,hl,List.take_length] at he
       (repeat (refine awp_stepG [0,1,4,5,10,14,25] hX mixed rfl ?_; (simp [go_sem,hab]; try (refine ⟨by kernel_rfl,?_⟩))))
 · have hne : ¬ a = b :=fun e => hl (by rw [e])
   (repeat (refine awp_stepG [0,1,4,5,10,14,25] hX mixed rfl ?_; (simp [go_sem,hl]; try (refine ⟨by kernel_rfl,?_⟩))))
   refine awp_cond (b :=true) (by simp [go_sem,hl]; try omega) (fun _ => ?_) (fun hb => by cases hb)
   (repeat (refine awp_stepG [0,1,4,5,10,14,25] hX mixed rfl ?_; (simp [go_sem,hne]; try (refine ⟨by kernel_rfl,?_⟩))))
theorem cl_eq (a b : Int × Int) : a = b ↔ a.1 = b.1 ∧ a.2 = b.2 :=Prod.ext_iff
set_option maxRecDepth 20000 in
theorem paws_m (a b : List (Int × Int)) (hla : a.length ≤ 9223372036854775807) : Means true Try.prog 48 [awl a,awl b] (bb (decide (a = b))) :=by
 refine means_fn true 26 [.tmp 4] Try.func48 rfl rfl rfl (by simp) (by decide) rfl fun X hX => ?_
 (repeat (refine awp_stepG [0,1,4,5,10,14,25] hX mixed rfl ?_; (simp [go_sem]; try (refine ⟨by kernel_rfl,?_⟩))))
 refine awp_cond (b :=!decide ((a.length : Int) = b.length)) (by simp [go_sem]) (fun hb => ?_) (fun hb => ?_)
 · simp at hb
   (repeat (refine awp_stepG [0,1,4,5,10,14,25] hX mixed rfl ?_; (simp [go_sem]; try (refine ⟨by kernel_rfl,?_⟩))))
   have : a ≠ b :=by rintro rfl; exact hb rfl
   simp [this]
 · simp at hb
   have hb : a.length = b.length :=by omega
   (repeat (refine awp_stepG [0,1,4,5,10,14,25] hX mixed rfl ?_; (simp [go_sem]; try (refine ⟨by kernel_rfl,?_⟩))))
   refine awp_loop (fun k : Nat => ⟨mkE [(0,awl a),(1,awl b),(4,bb false),(5,ii k)],[]⟩) (fun k => k ≤ a.length ∧ a.take k = b.take k) (fun k => a.length - k) 0 ?_ ?_ ?_
   · refine sub_of _ [] (by simp [go_sem]) ?_
     simp [go_sem]
   · simp
   · rintro k ⟨hk,hn⟩
     (repeat (refine awp_stepG [0,1,4,5,10,14,25] hX mixed rfl ?_; (simp [go_sem]; try (refine ⟨by kernel_rfl,?_⟩))))
     refine awp_cond (b :=decide (k < a.length)) (by simp [go_sem]) (fun hc => ?_) (fun hc => ?_)
     · simp at hc
       have hc' : k < b.length :=by omega
       (repeat (refine awp_stepG [0,1,4,5,10,14,25] hX mixed rfl ?_; (simp [go_sem,hc,hc']; try (refine ⟨by kernel_rfl,?_⟩))))
       refine awp_cond (b :=!decide (a[k] = b[k])) (by simp [go_sem,cl_eq]) (fun hd => ?_) (fun hd => ?_)
       · simp at hd
         (repeat (refine awp_stepG [0,1,4,5,10,14,25] hX mixed rfl ?_; (simp [go_sem]; try (refine ⟨by kernel_rfl,?_⟩))))
         have : a ≠ b :=by rintro rfl; exact hd rfl
         simp [this]
       · simp at hd
         (repeat (refine awp_stepG [0,1,4,5,10,14,25] hX mixed rfl ?_; (simp [go_sem]; (try simp (disch :=omega) only [w64,td,tm]); try (refine ⟨by kernel_rfl,?_⟩))))
         refine ⟨k + 1,⟨by omega,by rw [List.take_succ_eq_append_getElem hc,List.take_succ_eq_append_getElem hc',hn,hd]⟩,by omega,?_⟩
         refine sub_of _ [] (by simp [go_sem]) ?_
         simp [go_sem]
     · simp at hc
       (repeat (refine awp_stepG [0,1,4,5,10,14,25] hX mixed rfl ?_; (simp [go_sem]; try (refine ⟨by kernel_rfl,?_⟩))))
       have : k = a.length :=by omega
       subst this
       rw [List.take_length,hb,List.take_length] at hn
       simp [hn]
set_option maxRecDepth 20000 in
theorem plists_m (a b : List (List (Int × Int))) (hla : a.length ≤ 9223372036854775807) (hl : ∀ l ∈ a,l.length ≤ 9223372036854775807) : Means true Try.prog 23 [.sl (a.map awl),.sl (b.map awl)] (bb (decide (a = b))) :=by
 refine means_fn true 27 [.tmp 4] Try.func23 rfl rfl rfl (by simp) (by decide) rfl fun X hX => ?_
 (repeat (refine awp_stepG [0,1,4,5,10,14,26] hX mixed rfl ?_; (simp [go_sem]; try (refine ⟨by kernel_rfl,?_⟩))))
 refine awp_cond (b :=!decide ((a.length : Int) = b.length)) (by simp [go_sem]) (fun hb => ?_) (fun hb => ?_)
 · simp at hb
   (repeat (refine awp_stepG [0,1,4,5,10,14,26] hX mixed rfl ?_; (simp [go_sem]; try (refine ⟨by kernel_rfl,?_⟩))))
   have : a ≠ b :=by rintro rfl; exact hb rfl
   simp [this]
 · simp at hb
   have hb : a.length = b.length :=by omega
   (repeat (refine awp_stepG [0,1,4,5,10,14,26] hX mixed rfl ?_; (simp [go_sem]; try (refine ⟨by kernel_rfl,?_⟩))))
   refine awp_loop (fun k : Nat => ⟨mkE [(0,.sl (a.map awl)),(1,.sl (b.map awl)),(4,bb false),(5,ii k)],[]⟩) (fun k => k ≤ a.length ∧ a.take k = b.take k) (fun k => a.length - k) 0 ?_ ?_ ?_
   · refine sub_of _ [] (by simp [go_sem]) ?_
     simp [go_sem]
   · simp
   · rintro k ⟨hk,hn⟩
     (repeat (refine awp_stepG [0,1,4,5,10,14,26] hX mixed rfl ?_; (simp [go_sem]; try (refine ⟨by kernel_rfl,?_⟩))))
     refine awp_cond (b :=decide (k < a.length)) (by simp [go_sem]) (fun hc => ?_) (fun hc => ?_)
     · simp at hc
       have hc' : k < b.length :=by omega
       have c1 :=paws_m a[k] b[k] (hl _ (List.getElem_mem hc))
       (repeat (refine awp_stepG [0,1,4,5,10,14,26] hX mixed rfl ?_; (simp [go_sem,hc,hc']; try (refine ⟨by kernel_rfl,?_⟩))))
       first | refine callKa (c1) ?_ | refine callTa (c1) ?_
       try (simp [go_sem]; try (refine ⟨by kernel_rfl,?_⟩))
       refine awp_cond (b :=!decide (a[k] = b[k])) (by simp [go_sem]) (fun hd => ?_) (fun hd => ?_)
       · simp at hd
         (repeat (refine awp_stepG [0,1,4,5,10,14,26] hX mixed rfl ?_; (simp [go_sem]; try (refine ⟨by kernel_rfl,?_⟩))))
         have : a ≠ b :=by rintro rfl; exact hd rfl
         simp [this]
       · simp at hd
         (repeat (refine awp_stepG [0,1,4,5,10,14,26] hX mixed rfl ?_; (simp [go_sem]; (try simp (disch :=omega) only [w64,td,tm]); try (refine ⟨by kernel_rfl,?_⟩))))
         refine ⟨k + 1,⟨by omega,by rw [List.take_succ_eq_append_getElem hc,List.take_succ_eq_append_getElem hc',hn,hd]⟩,by omega,?_⟩
         refine sub_of _ [] (by simp [go_sem]) ?_
         simp [go_sem]
     · simp at hc
       (repeat (refine awp_stepG [0,1,4,5,10,14,26] hX mixed rfl ?_; (simp [go_sem]; try (refine ⟨by kernel_rfl,?_⟩))))
       have : k = a.length :=by omega
       subst this
       rw [List.take_length,hb,List.take_length] at hn
       simp [hn]
theorem phas_m (f : Fd) (h : AmF f) : Means true Try.prog 13 [fo f] (ii (hasF f)) :=by
 have h1 :=h.h; have h2 :=h.r; have h3 :=h.i
 have w1 :=w64 (x :=f.income + f.holds) (by omega) (by omega)
 have w2 :=w64 (x :=f.income + f.holds + f.reserve) (by omega) (by omega)
 refine means_fn true 11 [.tmp 2] Try.func13 rfl rfl rfl (by simp) (by decide) rfl fun X hX => ?_
 (repeat (refine awp_stepG [0,1,2] hX mixed rfl ?_; (simp [go_sem,w1,w2]; try (refine ⟨by kernel_rfl,?_⟩))))
 try rfl
set_option maxRecDepth 20000 in
theorem phasV_m (F : List Fd) (hl : F.length ≤ 12) (h : ∀ f ∈ F,AmF f) : Means true Try.prog 15 [.sl (F.map fo)] (ii (hasV F)) :=by
 refine means_fn true 19 [.tmp 2] Try.func15 rfl rfl rfl (by simp) (by decide) rfl fun X hX => ?_
 (repeat (refine awp_stepG [0,2,3,4,8] hX mixed rfl ?_; (simp [go_sem]; try (refine ⟨by kernel_rfl,?_⟩))))
 refine awp_loop (fun k : Nat => ⟨mkE [(0,.sl (F.map fo)),(3,ii (sumI ((F.map hasF).take k))),(4,ii k)],[]⟩) (fun k => k ≤ F.length) (fun k => F.length - k) 0 ?_ ?_ ?_
 · refine sub_of _ [] (by simp [go_sem]) ?_
   simp [go_sem,sumI]
 · omega
 · intro k hk
   (repeat (refine awp_stepG [0,2,3,4,8] hX mixed rfl ?_; (simp [go_sem]; try (refine ⟨by kernel_rfl,?_⟩))))
   refine awp_cond (b :=decide (k < F.length)) (by simp [go_sem]) (fun hb => ?_) (fun hb => ?_)
   · simp at hb
     have c1 :=phas_m F[k] (h _ (List.getElem_mem hb))
     have hn :=sumI_next (l :=F.map hasF) (k :=k) (by simpa using hb)
     rw [List.getElem_map] at hn
     have b1 :=has_bd h k hk
     have b2 :=(h F[k] (List.getElem_mem hb)).bd
     have w1 :=w64 (x :=sumI ((F.map hasF).take k) + hasF F[k]) (by omega) (by omega)
     (repeat (refine awp_stepG [0,2,3,4,8] hX mixed rfl ?_; (simp [go_sem,hb]; try (refine ⟨by kernel_rfl,?_⟩))))
     first | refine callKa (c1) ?_ | refine callTa (c1) ?_
     try (simp [go_sem,w1]; try (refine ⟨by kernel_rfl,?_⟩))
     (repeat (refine awp_stepG [0,2,3,4,8] hX mixed rfl ?_; (simp [go_sem,w1]; (try simp (disch :=omega) only [w64,td,tm]); try (refine ⟨by kernel_rfl,?_⟩))))
     refine ⟨k + 1,by omega,by omega,?_⟩
     refine sub_of _ [] (by simp [go_sem]) ?_
     simp [go_sem,hn]
   · have hkl : k = F.length :=by simp at hb; omega
     subst hkl
     have e : (F.map hasF).take F.length = F.map hasF :=List.take_of_length_le (by simp)
     rw [e]
     (repeat (refine awp_stepG [0,2,3,4,8] hX mixed rfl ?_; (simp [go_sem]; try (refine ⟨by kernel_rfl,?_⟩))))
     try rfl
end Go.Proofs.Ytndiamkmcoghdaa

namespace Go.Proofs.Ytndiamkmcoghdaa
open Go.RowKit Go.Ab
attribute [-simp] List.map_take
attribute [local irreducible] AWP Go.Ab.Sub Means MeansH CallK CallG CallT CallGT CallU
set_option maxHeartbeats 4000000 in
set_option maxRecDepth 20000 in
theorem formed_m (F : List Fd) (o G : List Int) (h5 : F.length ≤ 12) (hv : RV F) (ho : o.length = F.length) (hq : ∀ x ∈ o,0 ≤ x) : Means true Try.prog 12 [.sl (F.map fo),.sl ((outK F o F.length).map fo),.sl ((awAll F G F.length).map awl)] (bb true) :=by
 have l1 :=outK_len F o F.length
 have l2 :=awAll_len F G F.length
 refine means_fn true 85 [.tmp 6] Try.func12 rfl rfl rfl (by simp) (by decide) rfl fun X hX => ?_
 (repeat (refine awp_stepG [0,1,2,6,7,19,23,84] hX mixed rfl ?_; (simp [go_sem,l1,l2]; try (refine ⟨by kernel_rfl,?_⟩))))
 refine awp_cond (b :=false) (by simp [go_sem]) (fun h => by cases h) (fun _ => ?_)
 (repeat (refine awp_stepG [0,1,2,6,7,19,23,84] hX mixed rfl ?_; (simp [go_sem]; try (refine ⟨by kernel_rfl,?_⟩))))
 refine awp_loop (fun k : Nat => ⟨mkE [(0,.sl (F.map fo)),(1,.sl ((outK F o F.length).map fo)),(2,.sl ((awAll F G F.length).map awl)),(6,bb false),(7,ii k)],[]⟩) (fun k => k ≤ F.length) (fun k => F.length - k) 0 ?_ ?_ ?_
 · refine sub_of _ [] (by simp [go_sem]) ?_
   simp [go_sem]
 · omega
 · intro k hk
   (repeat (refine awp_stepG [0,1,2,6,7,19,23,84] hX mixed rfl ?_; (simp [go_sem]; try (refine ⟨by kernel_rfl,?_⟩))))
   refine awp_cond (b :=decide (k < F.length)) (by simp [go_sem]) (fun hb => ?_) (fun hb => ?_)
   · simp at hb
     have a1 : k < (outK F o F.length).length :=by omega
     have a2 : k < (awAll F G F.length).length :=by omega
     have e1 :=out_get (F :=F) (o :=o) hb hb (by omega) a1
     have e2 :=aw_get (F :=F) (G :=G) hb hb a2
     have hat :=hv.at' k hb
     have hqk :=hq o[k] (List.getElem_mem (by omega))
     have hh :=hat.hol
     have hr :=hat.res
     have hi :=hat.inc
     have ho :=out_am hh hr hi hqk
     have ho1 :=ho.h
     have ho2 :=ho.r
     have c1 :=pints_m (outF F[k] o[k]).cedes F[k].cedes (by have :=hat.len; simp only [outF]; omega) (by have :=hat.len; omega)
     rw [decide_eq_true (show (outF F[k] o[k]).cedes = F[k].cedes from rfl)] at c1
     have q1 : (outF F[k] o[k]).income = 0 :=rfl
     have q2 : (outF F[k] o[k]).claims = [] :=rfl
     have l3 :=awK_len F G k F[k].claims.length
     have ho3 : ¬ (outF F[k] o[k]).holds < 0 :=by omega
     have ho4 : ¬ (outF F[k] o[k]).reserve < 0 :=by omega
     (repeat (refine awp_stepG [0,1,2,6,7,19,23,84] hX mixed rfl ?_; (simp [go_sem,hb,a1,a2,e1,e2,q1,q2,l3,ho3,ho4]; try (refine ⟨by kernel_rfl,?_⟩))))
     (repeat refine And.intro (by first | omega | (unfold maxLen; omega) | kernel_rfl | (refine ⟨by first | omega | (unfold maxLen; omega),by first | omega | (unfold maxLen; omega)⟩) | grind) ?_)
     first | refine callGa (fun hg => c1) ?_ | refine callGTa (fun hg => c1) ?_
     try (simp [go_sem,hb,a1,a2,e1,e2,q1,q2,l3,ho3,ho4]; try (refine ⟨by kernel_rfl,?_⟩))
     (repeat refine And.intro (by first | omega | (unfold maxLen; omega) | kernel_rfl | (refine ⟨by first | omega | (unfold maxLen; omega),by first | omega | (unfold maxLen; omega)⟩) | grind) ?_)
     refine awp_cond (b :=false) (by simp [go_sem]) (fun h => by cases h) (fun _ => ?_)
     (repeat (refine awp_stepG [0,1,2,6,7,19,23,84] hX mixed rfl ?_; (simp [go_sem]; (try simp (disch :=omega) only [w64,td,tm]); try (refine ⟨by kernel_rfl,?_⟩))))
     refine ⟨k + 1,by omega,by omega,?_⟩
     refine sub_of _ [] (by simp [go_sem]) ?_
     simp [go_sem]
   · (repeat (refine awp_stepG [0,1,2,6,7,19,23,84] hX mixed rfl ?_; (simp [go_sem]; try (refine ⟨by kernel_rfl,?_⟩))))
     try rfl
end Go.Proofs.Ytndiamkmcoghdaa

namespace Go.Proofs.Ytndiamkmcoghdaa
open Go.RowKit Go.Ab
theorem meansZ_h {P : Program} {f : FuncId} {fr : Bool} {H : List Cell} {largs args2 : List AV} {rv : Value} (l : List Nat) (h : Means fr P f args2 (.v rv)) (hf : frzOK H l) (ha : largs.map (argA (frzRows H l)) = args2) (ho : args2.all AV.argOK = true) : MeansH P f H largs (.v rv) H :=by
 subst ha
 intro w M loc vs hM hgl hH hl hvs
 let X : Ctx :=⟨w,M,0,blks H loc,loc,hgl,fun p hp hb => blks_away hH hb (hgl.1 p hp).1,fun g hg hb => blks_away hH hb (hgl.2 g hg).1⟩
 let a0 : Act :={ tmps :=#[],defers :=[] }
 have hrr : RR X M loc ⟨argE 0 [],H⟩ a0 w :=by
  refine ⟨fun s => ?_,Nat.zero_le _,rfl,rfl,fun id o ho => (hH.obj id o ho).imp fun b hb => .inr hb,hH.sep,fun id m hm => (hH.mobj id m hm).imp fun b hb => .inr hb,hH.msep,⟨rfl,rfl,rfl,Nat.le_refl _,fun _ _ _ => rfl⟩,fun b hb => ⟨hM b hb,.inl hb⟩,fun b hb => hb,fun b hb => hM b hb,hH.one,fun s => ?_⟩
  · show Rep w M loc _ (argE 0 [] s)
    rw [argE_bad (Nat.zero_le _)]
    exact (RepZ.bad _).rep
  · show (argE 0 [] s).idLt H.length
    rw [argE_bad (Nat.zero_le _)]; trivial
 obtain ⟨M1,hM1,hr1⟩ :=RR.frzRows l hrr hf
 have hM2 : ∀ b,M1 b → b < w.heap.size :=fun b hb => (hr1.zone b hb).1
 have hz : ∀ (j : Nat) (x : Value) (e : AV),vs[j]? = some x → (largs.map (argA (frzRows H l)))[j]? = some e → RepZ w (fun b => b < w.heap.size) x e :=fun j x e h1 h2 => by
  rw [List.getElem?_map] at h2
  cases h3 : largs[j]? with
  | none => rw [h3] at h2; cases h2
  | some e0 =>
    rw [h3] at h2
    obtain rfl : argA (frzRows H l) e0 = e :=by simpa using h2
    obtain ⟨h4,h5⟩ :=hvs j x e0 h1 h3
    have h6 : Rep w M1 loc x e0 :=Rep.mono (n :=H.length) (fun _ _ => rfl) hM1 (fun _ _ => rfl) h4 h5
    refine argA_ok hr1 hM2 h6 (List.all_eq_true.1 ho _ (List.mem_map.2 ⟨e0,List.mem_of_getElem? h3,rfl⟩)) fun id o _ e2 g hg => ?_
    obtain ⟨xs,hown,_⟩ :=(hr1.obj id o e2).own
    exact (hown.lt g hg).2
 refine (h (fun b => b < w.heap.size) w vs (fun _ h => h) (hgl.mono (fun _ _ => rfl) fun b hb => hM2 b (hM1 b hb)) (by simp [hl]) hz).mono fun e w' ⟨x,he,hb,hx⟩ => ?_
 have hxr : x = rv :=(RepZ.rep (loc :=loc) hx).v_inv
 subst hxr
 exact ⟨x,M,loc,he,heapS_below hM hH hb,⟨hb.os,hb.tape,hb.output,hb.size,fun k hk _ => hb.block k hk⟩,fun _ h => h,fun b hb' => ⟨Nat.lt_of_lt_of_le (hM b hb') hb.size,.inl hb'⟩,fun _ _ => rfl,(RepZ.v x).rep,trivial,Nat.le_refl _⟩
end Go.Proofs.Ytndiamkmcoghdaa

namespace Go.Proofs.Ytndiamkmcoghdaa
open Go.RowKit Go.Ab
abbrev xA : List (Int × Int) :=[(1,8),(2,4)]
abbrev x1 : List Fd :=[⟨10,0,5,xA,[0]⟩]
abbrev x2 : List Fd :=[⟨5,2,0,xA,[0]⟩]
abbrev x3 : List Fd :=[⟨10,0,0,[(7,8)],[0,500]⟩,⟨10,0,0,[],[0,0]⟩]
theorem xr1 : fewV x1 = true ∧ rightV x1 = true :=by decide
theorem xr2 : fewV x2 = true ∧ rightV x2 = true :=by decide
theorem xr3 : fewV x3 = true ∧ rightV x3 = true :=by decide
theorem xo1 : owedL x1 = [12] :=by decide +kernel
theorem xo2 : owedL x2 = [12] :=by decide +kernel
theorem xo3 : owedL x3 = [4,4] :=by decide +kernel
theorem xs1 : share [8,4] 12 = [8,4] :=by
 rcases share_cases (C :=[8,4]) (h :=12) (by decide) (by decide) with ⟨_,h⟩ | ⟨h,_⟩
 · exact h
 · exact absurd (by decide) h
theorem xs3 : share [8] 8 = [8] :=by
 rcases share_cases (C :=[8]) (h :=8) (by decide) (by decide) with ⟨_,h⟩ | ⟨h,_⟩
 · exact h
 · exact absurd (by decide) h
theorem xs2 : share [8,4] 7 = [4,3] :=by
 rcases share_cases (C :=[8,4]) (h :=7) (by decide) (by decide) with ⟨h,_⟩ | ⟨_,l,h,e⟩
 · exact absurd h (by decide)
 · have : l = 3 :=isLv_uniq h (by constructor <;> decide)
   subst this
   rw [e]; decide
theorem xg1 : gets x1 = [8,4] :=by
 unfold gets; rw [xo1,show asksK x1 x1.length = [8,4] from rfl,show paidK x1 [12] x1.length = 12 from rfl,xs1]
theorem xg2 : gets x2 = [4,3] :=by
 unfold gets; rw [xo2,show asksK x2 x2.length = [8,4] from rfl,show paidK x2 [12] x2.length = 7 from rfl,xs2]
theorem xg3 : gets x3 = [8] :=by
 unfold gets; rw [xo3,show asksK x3 x3.length = [8] from rfl,show paidK x3 [4,4] x3.length = 8 from rfl,xs3]
theorem xy1 : Means false Try.prog 11 [.sl (x1.map fo)] (.tup [.sl (([⟨3,0,0,[],[0]⟩] : List Fd).map fo),.sl ([xA].map awl),ii 0]) :=by
 have h :=year_m x1 xr1.1 xr1.2
 rwa [xo1,xg1,show outK x1 [12] x1.length = [⟨3,0,0,[],[0]⟩] from rfl,show awAll x1 [8,4] x1.length = [xA] from rfl] at h
theorem xy2 : Means false Try.prog 11 [.sl (x2.map fo)] (.tup [.sl (([⟨0,0,0,[],[0]⟩] : List Fd).map fo),.sl ([[(1,4),(2,3)]].map awl),ii 0]) :=by
 have h :=year_m x2 xr2.1 xr2.2
 rwa [xo2,xg2,show outK x2 [12] x2.length = [⟨0,0,0,[],[0]⟩] from rfl,show awAll x2 [4,3] x2.length = [[(1,4),(2,3)]] from rfl] at h
theorem xy3 : Means false Try.prog 11 [.sl (x3.map fo)] (.tup [.sl (([⟨6,0,0,[],[0,500]⟩,⟨6,0,0,[],[0,0]⟩] : List Fd).map fo),.sl ([[(7,8)],[]].map awl),ii 0]) :=by
 have h :=year_m x3 xr3.1 xr3.2
 rwa [xo3,xg3,show outK x3 [4,4] x3.length = [⟨6,0,0,[],[0,500]⟩,⟨6,0,0,[],[0,0]⟩] from rfl,show awAll x3 [8] x3.length = [[(7,8)],[]] from rfl] at h
theorem xw3 : Means false Try.prog 10 [.sl (x3.map fo)] (.tup [il [4,4],ii 0]) :=by
 have h :=owed_m x3 xr3.1 xr3.2
 rwa [xo3] at h
attribute [local irreducible] AWP Go.Ab.Sub Means MeansH CallK CallG CallT CallGT CallU
set_option maxHeartbeats 8000000 in
set_option maxRecDepth 20000 in
theorem psmall_m : Means false Try.prog 7 [] (bb true) :=by
 have c1 :=xy1
 have c2 :=xy2
 have c3 :=xy3
 have c4 :=xw3
 have i1 :=pints_m [4,4] [4,4] (by decide) (by decide)
 have s1 :=plists_m [xA] [xA] (by decide) (by decide)
 have s2 :=plists_m [[(1,4),(2,3)]] [[(1,4),(2,3)]] (by decide) (by decide)
 have s3 :=plists_m [[(7,8)],[]] [[(7,8)],[]] (by decide) (by decide)
 have r0 :=pright_m [] (by decide)
 rw [decide_eq_true rfl] at i1 s1 s2 s3
 rw [show rightV [] = false by decide] at r0
 simp only [List.map_cons,List.map_nil] at c1 c2 c3 c4 s1 s2 s3 r0 i1
 have s2h : MeansH Try.prog 23 [.row ⟨38,2,[cl (1,4),cl (2,3)]⟩,.row ⟨34,1,[.ow 0]⟩] [.sl [awl [(1,4),(2,3)]],.ow 1] (bb true) [.row ⟨38,2,[cl (1,4),cl (2,3)]⟩,.row ⟨34,1,[.ow 0]⟩] :=
  meansZ_h [1] s2 (by simp [frzOK,nestIds,AV.flat,AV.idB]) rfl (by rfl)
 have s3h : MeansH Try.prog 23 [.row ⟨38,2,[cl (7,8)]⟩,.row ⟨34,1,[.ow 0,.nil]⟩] [.sl [awl [(7,8)],awl []],.ow 1] (bb true) [.row ⟨38,2,[cl (7,8)]⟩,.row ⟨34,1,[.ow 0,.nil]⟩] :=
  meansZ_h [1] s3 (by simp [frzOK,nestIds,AV.flat,AV.idB]) rfl (by rfl)
 refine means_fn false 147 [.tmp 0] Try.func7 rfl rfl rfl (by simp) (by decide) rfl fun X hX => ?_
 (repeat (first | refine awp_seq ?_ | refine awp_block ?_))
 ((first | refine awp_runG [0,1,2,3,4,5,6,7,8,9,10,11,12,13,14,82] hX ?_ | refine awp_drawnG [0,1,2,3,4,5,6,7,8,9,10,11,12,13,14,82] hX mixed ?_ | refine awp_ret ?_ | refine awp_skip ?_ | refine awp_exit ?_); (simp [go_sem]; try (refine ⟨by kernel_rfl,?_⟩)))
 (repeat (first | refine awp_seq ?_ | refine awp_block ?_))
 refine awp_cut ⟨mkE [(0,bb false),(1,awl xA)],[]⟩ ?_ ?_
 · ((first | refine awp_runG [0,1,2,3,4,5,6,7,8,9,10,11,12,13,14,82] hX ?_ | refine awp_drawnG [0,1,2,3,4,5,6,7,8,9,10,11,12,13,14,82] hX mixed ?_ | refine awp_ret ?_ | refine awp_skip ?_ | refine awp_exit ?_); (simp [go_sem]; try (refine ⟨by kernel_rfl,?_⟩)))
   refine sub_of _ [] (by simp [go_sem]) ?_
   simp [go_sem]
 (simp [go_sem]; try (refine ⟨by kernel_rfl,?_⟩))
 (repeat (refine awp_stepG [0,1,2,3,4,5,6,7,8,9,10,11,12,13,14,82] hX mixed rfl ?_; (simp [go_sem]; try (refine ⟨by kernel_rfl,?_⟩))))
 refine callZ_intro [1] c1 (by simp [go_sem]) (by simp [go_sem]) (by simp [go_sem]) (by simp [go_sem]) ?_
 try (simp [go_sem]; try (refine ⟨by kernel_rfl,?_⟩))
 (repeat (refine awp_stepG [0,1,2,3,4,5,6,7,8,9,10,11,12,13,14,82] hX mixed rfl ?_; (simp [go_sem]; try (refine ⟨by kernel_rfl,?_⟩))))
 refine callZ_intro [3] c2 (by simp [go_sem]) (by simp [go_sem]) (by simp [go_sem]) (by simp [go_sem]) ?_
 try (simp [go_sem]; try (refine ⟨by kernel_rfl,?_⟩))
 (repeat (first | refine awp_seq ?_ | refine awp_block ?_))
 refine awp_cut ⟨mkE [(0,bb false),(1,awl xA),(2,.sl [fo ⟨3,0,0,[],[0]⟩]),(3,.sl [awl xA]),(4,ii 0),(5,.sl [fo ⟨0,0,0,[],[0]⟩]),(6,.sl [awl [(1,4),(2,3)]]),(7,ii 0),(8,.sl [fo ⟨10,0,0,[(7,8)],[0,500]⟩,fo ⟨10,0,0,[],[0,0]⟩])],[]⟩ ?_ ?_
 · ((first | refine awp_runG [0,1,2,3,4,5,6,7,8,9,10,11,12,13,14,82] hX ?_ | refine awp_drawnG [0,1,2,3,4,5,6,7,8,9,10,11,12,13,14,82] hX mixed ?_ | refine awp_ret ?_ | refine awp_skip ?_ | refine awp_exit ?_); (simp [go_sem]; try (refine ⟨by kernel_rfl,?_⟩)))
   refine sub_trans (b :=⟨mkE [(0,bb false),(1,awl xA),(2,.sl [fo ⟨3,0,0,[],[0]⟩]),(3,.sl [awl xA]),(4,ii 0),(5,.sl [fo ⟨0,0,0,[],[0]⟩]),(6,.sl [awl [(1,4),(2,3)]]),(7,ii 0),(8,.ow 0)],[.row ⟨36,5,[fo ⟨10,0,0,[(7,8)],[0,500]⟩,fo ⟨10,0,0,[],[0,0]⟩]⟩]⟩) ?_ ?_
   · refine sub_of _ [] (by simp [go_sem]) ?_
     simp [go_sem]
   · refine sub_of _ [.old 7 ⟨36,5,[fo ⟨10,0,0,[(7,8)],[0,500]⟩,fo ⟨10,0,0,[],[0,0]⟩]⟩] (by simp [go_sem]) ?_
     simp [go_sem]
 (simp [go_sem]; try (refine ⟨by kernel_rfl,?_⟩))
 (repeat (refine awp_stepG [0,1,2,3,4,5,6,7,8,9,10,11,12,13,14,82] hX mixed rfl ?_; (simp [go_sem]; try (refine ⟨by kernel_rfl,?_⟩))))
 first | refine callKa (c4) ?_ | refine callTa (c4) ?_
 try (simp [go_sem]; try (refine ⟨by kernel_rfl,?_⟩))
 (repeat (refine awp_stepG [0,1,2,3,4,5,6,7,8,9,10,11,12,13,14,82] hX mixed rfl ?_; (simp [go_sem]; try (refine ⟨by kernel_rfl,?_⟩))))
 first | refine callKa (c3) ?_ | refine callTa (c3) ?_
 try (simp [go_sem]; try (refine ⟨by kernel_rfl,?_⟩))
 (repeat (refine awp_stepG [0,1,2,3,4,5,6,7,8,9,10,11,12,13,14,82] hX mixed rfl ?_; (simp [go_sem]; try (refine ⟨by kernel_rfl,?_⟩))))
 refine awp_cond (b :=false) (by simp [go_sem]) (fun h => by cases h) (fun _ => ?_)
 (repeat (refine awp_stepG [0,1,2,3,4,5,6,7,8,9,10,11,12,13,14,82] hX mixed rfl ?_; (simp [go_sem]; try (refine ⟨by kernel_rfl,?_⟩))))
 first | refine callGa (fun hg => s1) ?_ | refine callGTa (fun hg => s1) ?_
 try (simp [go_sem]; try (refine ⟨by kernel_rfl,?_⟩))
 first | refine callHG_intro [1,2] (fun hg => s2h) (by simp [go_sem]) (by simp [go_sem]) ?_ | refine callHGT_intro [1,2] (fun hg => s2h) (by simp [go_sem]) ?_
 try (simp [go_sem]; try (refine ⟨by kernel_rfl,?_⟩))
 (repeat (refine awp_stepG [0,1,2,3,4,5,6,7,8,9,10,11,12,13,14,82] hX mixed rfl ?_; (simp [go_sem]; try (refine ⟨by kernel_rfl,?_⟩))))
 first | refine callGa (fun hg => i1) ?_ | refine callGTa (fun hg => i1) ?_
 try (simp [go_sem]; try (refine ⟨by kernel_rfl,?_⟩))
 first | refine callHG_intro [4,5] (fun hg => s3h) (by simp [go_sem]) (by simp [go_sem]) ?_ | refine callHGT_intro [4,5] (fun hg => s3h) (by simp [go_sem]) ?_
 try (simp [go_sem]; try (refine ⟨by kernel_rfl,?_⟩))
 first | refine callGa (fun hg => r0) ?_ | refine callGTa (fun hg => r0) ?_
 try (simp [go_sem]; try (refine ⟨by kernel_rfl,?_⟩))
 (repeat (refine awp_stepG [0,1,2,3,4,5,6,7,8,9,10,11,12,13,14,82] hX mixed rfl ?_; (simp [go_sem]; try (refine ⟨by kernel_rfl,?_⟩))))
end Go.Proofs.Ytndiamkmcoghdaa

namespace Go.Proofs.Ytndiamkmcoghdaa
open Go.RowKit Go.Ab
structure YearOk (F : List Fd) (o G : List Int) : Prop where
 ol : o.length = F.length
 ob : ∀ x ∈ o,0 ≤ x ∧ x ≤ 6597069766657
 os : sumI o = sumI (ownL F)
 gl : G.length = (asksK F F.length).length
 al : (asksK F F.length).length ≤ 40
 ge : G = share (asksK F F.length) (paidK F o F.length)
 ok : okC' (asksK F F.length) = true
 pb : 0 ≤ paidK F o F.length
 gs : sumI G = paidK F o F.length
 gb : ∀ (t : Nat) (h : t < G.length) (h' : t < (asksK F F.length).length),0 ≤ G[t] ∧ G[t] ≤ (asksK F F.length)[t]
theorem asks_sum (F : List Fd) : ∀ k,k ≤ F.length → sumI (asksK F k) = sumI ((ownL F).take k)
 | 0,_ => by simp [asksK,sumI]
 | k + 1,h => by
   rw [asksK_next (by omega),sumI_app,asks_sum F k (by omega),ownL_next (show k < F.length by omega),sumI_snoc]
theorem paid_le {F : List Fd} {o : List Int} (ho : o.length = F.length) : ∀ k,k ≤ F.length → paidK F o k ≤ sumI (o.take k)
 | 0,_ => by simp [paidK,sumI]
 | k + 1,hk => by
   rw [paidK_next (by omega) (by omega),sumI_next (show k < o.length by omega)]
   have :=paid_le ho k (by omega)
   have : payV F[k] o[k] ≤ o[k] :=by simp only [payV]; omega
   omega
theorem year_ok {F : List Fd} (hf : fewV F = true) (hr : rightV F = true) : YearOk F (owedL F) (gets F) :=by
 have h5 :=few_5 hf
 have hv :=rv_of hr
 have hc :=owned hv h5
 have hoL :=ownL_len F
 have hol : (owedL F).length = F.length :=by have :=hc.len; unfold owedL; omega
 have hpb :=paid_bd hv hol fun x hx => (hc.bd x hx).1
 have ham :=many_bd hf F.length (Nat.le_refl _)
 have hal : (asksK F F.length).length ≤ 40 :=by rw [asksK_len F F.length (Nat.le_refl _)]; omega
 have hpn :=hpb F.length (Nat.le_refl _)
 have hok : okC' (asksK F F.length) = true :=asks_ok hv _
 have hgl : (gets F).length = (asksK F F.length).length :=share_len hok hpn.1
 have hle :=paid_le hol F.length (Nat.le_refl _)
 rw [List.take_of_length_le (by omega)] at hle
 have hs : sumI (owedL F) = sumI (ownL F) :=hc.sum
 have ha :=asks_sum F F.length (Nat.le_refl _)
 rw [List.take_of_length_le (by omega)] at ha
 refine ⟨hol,hc.bd,hs,hgl,hal,rfl,hok,hpn.1,?_,fun t h h' => share_in hok hpn.1 h' h⟩
 have :=share_sum hok hpn.1
 rw [sumI_L]
 show sumL (share _ _) = _
 rw [this,← sumI_L,ha]
 omega
theorem out_sum {F : List Fd} {o : List Int} (ho : o.length = F.length) : ∀ k,k ≤ F.length → sumI ((outK F o k).map hasF) = sumI ((F.map hasF).take k) - paidK F o k
 | 0,_ => by simp [outK,paidK,sumI]
 | k + 1,hk => by
   have hk1 : k < F.length :=by omega
   have hk2 : k < o.length :=by omega
   rw [outK_next hk1 hk2,List.map_append,List.map_cons,List.map_nil,sumI_snoc,out_sum ho k (by omega),paidK_next hk1 hk2,sumI_next (show k < (F.map hasF).length by simpa using hk1),List.getElem_map,has_out]
   omega
theorem has_left {F : List Fd} {o : List Int} (ho : o.length = F.length) : hasV (outK F o F.length) = hasV F - paidK F o F.length :=by
 unfold hasV
 rw [out_sum ho F.length (Nat.le_refl _),List.take_of_length_le (by simp)]
theorem outs_am {F : List Fd} {o : List Int} (hv : RV F) (ho : o.length = F.length) (hq : ∀ x ∈ o,0 ≤ x) : ∀ f ∈ outK F o F.length,AmF f :=fun f hf => by
 obtain ⟨i,hi,rfl⟩ :=List.mem_map.1 hf
 have hi : i < F.length :=by simpa using hi
 rw [getF hi,getD_at (show i < o.length by omega)]
 have h :=hv.at' i hi
 exact out_am h.hol h.res h.inc (hq _ (List.getElem_mem _))
theorem off_next {F : List Fd} {i : Nat} (h : i < F.length) : (asksK F (i + 1)).length = (asksK F i).length + F[i].claims.length :=by rw [asksK_next h,List.length_append,nums_len]
theorem off_le {F : List Fd} {i : Nat} (h : i ≤ F.length) : (asksK F i).length ≤ (asksK F F.length).length :=by
 have : asksK F F.length = asksK F i ++ (F.drop i).flatMap fun f => nums f.claims :=by
  unfold asksK; rw [← List.flatMap_append,List.take_append_drop,List.take_length]
 rw [this,List.length_append]; omega
theorem sum_bd40 {l : List Int} (h : ∀ x ∈ l,0 ≤ x ∧ x ≤ 6597069766657) : ∀ k,k ≤ l.length → 0 ≤ sumI (l.take k) ∧ sumI (l.take k) ≤ 6597069766657 * k
 | 0,_ => by simp [sumI]
 | k + 1,hk => by
   rw [sumI_next (show k < l.length by omega)]
   have :=sum_bd40 h k (by omega)
   have :=h l[k] (List.getElem_mem (by omega))
   omega
end Go.Proofs.Ytndiamkmcoghdaa

namespace Go.Proofs.Ytndiamkmcoghdaa
def inC7 (c : Int) : Bool :=decide (0 ≤ c) && decide (c ≤ 1000)
theorem inC7_iff {c : Int} : inC7 c = true ↔ 0 ≤ c ∧ c ≤ 1000 :=by simp [inC7]
def okB (C : List Int) (b : Int) : Bool :=decide (1 ≤ (C.length : Int)) && decide ((C.length : Int) ≤ 60) && decide (0 ≤ b) && decide (b ≤ 1099511627776 / C.length)
def rightP (C : List Int) (b : Int) : Bool :=okB C b && C.all inC7
def wts (C : List Int) : List Int :=C.map fun c => c + 1
theorem wts_len (C : List Int) : (wts C).length = C.length :=by simp [wts]
theorem wts_at {C : List Int} {i : Nat} (h : i < C.length) (h' : i < (wts C).length) : (wts C)[i] = C[i] + 1 :=by simp [wts]
theorem wts_succ {C : List Int} {k : Nat} (h : k < C.length) : wts (C.take (k + 1)) = wts (C.take k) ++ [C[k] + 1] :=by
 unfold wts; rw [List.take_succ_eq_append_getElem h,List.map_append]; rfl
theorem wts_bd : ∀ {C : List Int},C.all inC7 = true → (C.length : Int) ≤ sumL (wts C) ∧ sumL (wts C) ≤ C.length * 1001
 | [],_ => by simp [wts]
 | c :: C,h => by
   simp only [List.all_cons,Bool.and_eq_true] at h
   have ih :=wts_bd h.2
   have :=inC7_iff.1 h.1
   simp only [wts,List.map_cons,sumL_cons,List.length_cons] at ih ⊢; push_cast; omega
structure RP (C : List Int) (b : Int) : Prop where
 len : 1 ≤ C.length ∧ C.length ≤ 60
 base : 0 ≤ b ∧ b * C.length ≤ 1099511627776
 all : C.all inC7 = true
theorem right_RP {C : List Int} {b : Int} (h : rightP C b = true) : RP C b :=by
 simp only [rightP,okB,Bool.and_eq_true,decide_eq_true_eq] at h
 obtain ⟨⟨⟨⟨h1,h2⟩,h3⟩,h4⟩,h5⟩ :=h
 refine ⟨⟨by omega,by omega⟩,⟨h3,?_⟩,h5⟩
 have :=Int.mul_le_mul_of_nonneg_right h4 (show (0 : Int) ≤ C.length by omega)
 have :=Int.ediv_mul_le 1099511627776 (show (C.length : Int) ≠ 0 by omega)
 omega
theorem RP.mem {C : List Int} {b : Int} (h : RP C b) {i : Nat} (hi : i < C.length) : 0 ≤ C[i] ∧ C[i] ≤ 1000 :=inC7_iff.1 (List.all_eq_true.1 h.all _ (List.getElem_mem hi))
theorem RP.sum {C : List Int} {b : Int} (h : RP C b) : 1 ≤ sumL (wts C) ∧ sumL (wts C) ≤ 60060 :=by
 have :=wts_bd h.all
 have :=h.len
 omega
theorem RP.coin {C : List Int} {b : Int} (h : RP C b) : 0 ≤ b * C.length ∧ b * C.length ≤ 1099511627776 :=⟨Int.mul_nonneg h.base.1 (by omega),h.base.2⟩
def mnL : List Int → Int
 | [] => 0
 | x :: l => l.foldl min x
def mxLP : List Int → Int
 | [] => 0
 | x :: l => l.foldl max x
theorem mnL_succ {L : List Int} {k : Nat} (h : k < L.length) (h0 : 0 < k) : mnL (L.take (k + 1)) = min (mnL (L.take k)) L[k] :=by
 cases L with
 | nil => simp at h
 | cons x l =>
   cases k with
   | zero => omega
   | succ k =>
     have hk : k < l.length :=by simpa using h
     simp only [List.take_succ_cons,mnL,List.getElem_cons_succ]
     rw [List.take_succ_eq_append_getElem hk,List.foldl_append]; rfl
theorem mxLP_succ {L : List Int} {k : Nat} (h : k < L.length) (h0 : 0 < k) : mxLP (L.take (k + 1)) = max (mxLP (L.take k)) L[k] :=by
 cases L with
 | nil => simp at h
 | cons x l =>
   cases k with
   | zero => omega
   | succ k =>
     have hk : k < l.length :=by simpa using h
     simp only [List.take_succ_cons,mxLP,List.getElem_cons_succ]
     rw [List.take_succ_eq_append_getElem hk,List.foldl_append]; rfl
theorem foldl_min : ∀ (l : List Int) (x a : Int),a ≤ l.foldl min x ↔ a ≤ x ∧ ∀ y ∈ l,a ≤ y
 | [],x,a => by simp
 | y :: l,x,a => by
   rw [List.foldl_cons,foldl_min l]
   simp only [List.mem_cons,forall_eq_or_imp]
   exact ⟨fun ⟨h1,h2⟩ => ⟨by omega,by omega,h2⟩,fun ⟨h1,h2,h3⟩ => ⟨by omega,h3⟩⟩
theorem foldl_max : ∀ (l : List Int) (x a : Int),l.foldl max x ≤ a ↔ x ≤ a ∧ ∀ y ∈ l,y ≤ a
 | [],x,a => by simp
 | y :: l,x,a => by
   rw [List.foldl_cons,foldl_max l]
   simp only [List.mem_cons,forall_eq_or_imp]
   exact ⟨fun ⟨h1,h2⟩ => ⟨by omega,by omega,h2⟩,fun ⟨h1,h2,h3⟩ => ⟨by omega,h3⟩⟩
theorem all_mm {L : List Int} (h : 0 < L.length) : (decide (mnL L < 0) || decide (1000 < mxLP L)) = !L.all inC7 :=by
 cases L with
 | nil => simp at h
 | cons x l =>
   have h1 :=foldl_min l x 0
   have h2 :=foldl_max l x 1000
   have e1 : mnL (x :: l) = l.foldl min x :=rfl
   have e2 : mxLP (x :: l) = l.foldl max x :=rfl
   rw [e1,e2]
   by_cases q : 0 ≤ l.foldl min x ∧ l.foldl max x ≤ 1000
   · have g1 :=h1.1 q.1
     have g2 :=h2.1 q.2
     have : (x :: l).all inC7 = true :=List.all_eq_true.2 fun y hy => by
      rw [inC7_iff]
      rcases List.mem_cons.1 hy with r | r
      · subst r; exact ⟨g1.1,g2.1⟩
      · exact ⟨g1.2 y r,g2.2 y r⟩
     rw [this,decide_eq_false (by omega),decide_eq_false (by omega)]; rfl
   · have : (x :: l).all inC7 = false :=by
      rw [Bool.eq_false_iff]
      intro r
      rw [List.all_eq_true] at r
      refine q ⟨h1.2 ⟨(inC7_iff.1 (r x (by simp))).1,fun y hy => (inC7_iff.1 (r y (by simp [hy]))).1⟩,h2.2 ⟨(inC7_iff.1 (r x (by simp))).2,fun y hy => (inC7_iff.1 (r y (by simp [hy]))).2⟩⟩
     rw [this]
     by_cases q1 : l.foldl min x < 0
     · rw [decide_eq_true q1]; rfl
     · rw [decide_eq_false q1,decide_eq_true (by omega)]; rfl
end Go.Proofs.Ytndiamkmcoghdaa

namespace Go.Proofs.Ytndiamkmcoghdaa
open Go.RowKit Go.Ab
attribute [local irreducible] AWP Go.Ab.Sub Means MeansH CallK CallG CallT CallGT
def kf (R : List Int) (x : Int) : Int :=R.getD x.toNat 0
def okR (R : List Int) : Prop :=∀ r ∈ R,0 ≤ r ∧ r ≤ 4611686018427387904
def cmpC (R : List Int) (x y : Int) : Int :=cmpI (kf R y) (kf R x)
theorem cmp_neg (R : List Int) (x y : Int) : cmpC R x y < 0 ↔ kf R y < kf R x :=by unfold cmpC; exact cmpI_lt
end Go.Proofs.Ytndiamkmcoghdaa

namespace Go.Proofs.Ytndiamkmcoghdaa
def inW (w : Int) : Bool :=decide (0 ≤ w) && decide (w ≤ 1048576)
def okW (W : List Int) : Bool :=W.all inW && decide (W.length ≤ 60)
def wsum (W : List Int) : Int :=if okW W then sumL W else 0
def isAm (n : Int) : Bool :=decide (0 ≤ n) && decide (n ≤ 1099511627776)
theorem inW_iff {w : Int} : inW w = true ↔ 0 ≤ w ∧ w ≤ 1048576 :=by simp [inW]
theorem okW_mem {W : List Int} (h : okW W = true) {w : Int} (hw : w ∈ W) : 0 ≤ w ∧ w ≤ 1048576 :=by
 simp only [okW,Bool.and_eq_true,List.all_eq_true] at h
 exact inW_iff.1 (h.1 w hw)
theorem okW_len {W : List Int} (h : okW W = true) : W.length ≤ 60 :=by
 simp only [okW,Bool.and_eq_true,decide_eq_true_eq] at h
 exact h.2
theorem sumW_bd : ∀ {W : List Int},W.all inW = true → 0 ≤ sumL W ∧ sumL W ≤ W.length * 1048576
 | [],_ => by simp
 | w :: W,h => by
   simp only [List.all_cons,Bool.and_eq_true] at h
   have ih :=sumW_bd h.2
   have :=inW_iff.1 h.1
   simp only [sumL_cons,List.length_cons]; push_cast; omega
theorem okW_sum {W : List Int} (h : okW W = true) : 0 ≤ sumL W ∧ sumL W ≤ 62914560 :=by
 have h1 :=okW_len h
 simp only [okW,Bool.and_eq_true] at h
 have :=sumW_bd h.1
 omega
theorem wsum_pos {W : List Int} (h : wsum W ≠ 0) : okW W = true ∧ wsum W = sumL W ∧ 0 < sumL W :=by
 unfold wsum at *
 by_cases hk : okW W = true
 · rw [if_pos hk] at h ⊢
   have :=okW_sum hk
   exact ⟨hk,rfl,by omega⟩
 · rw [if_neg hk] at h; exact absurd rfl h
theorem all_succ {W : List Int} {k : Nat} (h : k < W.length) (h1 : (W.take k).all inW = true) (h2 : inW W[k] = true) : (W.take (k + 1)).all inW = true :=by
 rw [List.take_succ_eq_append_getElem h,List.all_append,h1]; simp [h2]
theorem okW_bad {W : List Int} {k : Nat} (h : k < W.length) (h2 : inW W[k] = false) : wsum W = 0 :=by
 unfold wsum
 rw [if_neg]
 intro hk
 simp only [okW,Bool.and_eq_true,List.all_eq_true] at hk
 have :=hk.1 W[k] (List.getElem_mem h)
 rw [h2] at this; cases this
theorem mem_sum {W : List Int} (h : ∀ w ∈ W,0 ≤ w) : ∀ {w : Int},w ∈ W → w ≤ sumL W :=by
 induction W with
 | nil => intro w hw; cases hw
 | cons a W ih =>
   intro w hw
   have h0 : 0 ≤ sumL W :=by
    clear ih hw
    induction W with
    | nil => simp
    | cons b W ih => have :=h b (by simp); have :=ih (fun x hx => h x (by rcases List.mem_cons.1 hx with q | q <;> simp [q])); simp only [sumL_cons]; omega
   have ha :=h a (by simp)
   rcases List.mem_cons.1 hw with q | q
   · subst q; simp only [sumL_cons]; omega
   · have :=ih (fun x hx => h x (List.mem_cons_of_mem _ hx)) q; simp only [sumL_cons]; omega
end Go.Proofs.Ytndiamkmcoghdaa

namespace Go.Proofs.Ytndiamkmcoghdaa
open Go.RowKit Go.Ab
attribute [local irreducible] AWP Go.Ab.Sub Means MeansH CallK CallG CallT CallGT CallU
theorem wsum_m (W : List Int) (hl : W.length ≤ 9223372036854775807) : Means true Try.prog 91 [il W] (ii (wsum W)) :=by
 refine means_fn true 28 [.tmp 2] Try.func91 rfl rfl rfl (by simp) (by decide) rfl fun X hX => ?_
 (repeat (refine awp_stepG [0,2,3,5,6,7,8,9,22] hX mixed rfl ?_; (simp [go_sem]; try (refine ⟨by kernel_rfl,?_⟩))))
 refine awp_loop (fun n : Nat => ⟨mkE [(0,il W),(3,ii (sumL (W.take n))),(6,il W),(7,ii W.length),(8,ii n)],[]⟩) (fun n => n ≤ W.length ∧ (W.take n).all inW = true ∧ (0 < n → W.length ≤ 60)) (fun n => W.length - n) 0 ?_ ?_ ?_
 · refine sub_of _ [] (by simp [go_sem]) ?_
   simp [go_sem]
 · simp
 · rintro n ⟨hn,hk,h60⟩
   have hsb :=sumW_bd hk
   have htl : (W.take n).length = n :=by rw [List.length_take]; omega
   rw [htl] at hsb
   (repeat (refine awp_stepG [0,2,3,5,6,7,8,9,22] hX mixed rfl ?_; (simp [go_sem]; try (refine ⟨by kernel_rfl,?_⟩))))
   refine awp_cond (b :=decide (n < W.length)) (by simp [go_sem]) (fun hc => ?_) (fun hc => ?_)
   · simp at hc
     (repeat (refine awp_stepG [0,2,3,5,6,7,8,9,22] hX mixed rfl ?_; (simp [go_sem,hc]; try (refine ⟨by kernel_rfl,?_⟩))))
     refine awp_cond (b :=!inW W[n] || decide (60 < W.length)) (by simp [go_sem,inW]; rw [Bool.eq_iff_iff]; simp; try omega) (fun hd => ?_) (fun hd => ?_)
     · have e : wsum W = 0 :=by
        simp at hd
        rcases hd with hd | hd
        · exact okW_bad hc hd
        · unfold wsum; rw [if_neg]; intro q; have :=okW_len q; omega
       rw [e]
       (repeat (refine awp_stepG [0,2,3,5,6,7,8,9,22] hX mixed rfl ?_; (simp [go_sem]; try (refine ⟨by kernel_rfl,?_⟩))))
     · simp at hd
       have hwb :=inW_iff.1 hd.1
       have e :=sumL_succ hc
       have hw :=w64 (x :=sumL (W.take n) + W[n]) (by omega) (by omega)
       (repeat (refine awp_stepG [0,2,3,5,6,7,8,9,22] hX mixed rfl ?_; (simp [go_sem,hw]; try (refine ⟨by kernel_rfl,?_⟩))))
       have hwn :=w64 (x :=(n : Int) + 1) (by omega) (by omega)
       try (simp [go_sem,hwn]; try (refine ⟨by kernel_rfl,?_⟩))
       refine ⟨n + 1,⟨by omega,List.all_eq_true.1 (all_succ hc hk hd.1),fun _ => hd.2⟩,by omega,?_⟩
       rw [e]
       refine sub_of _ [] (by simp [go_sem]) ?_
       simp [go_sem,hwn]
   · have : n = W.length :=by simp at hc; omega
     subst this
     rw [List.take_length] at hk ⊢
     have e : wsum W = sumL W :=by
      unfold wsum
      by_cases hl60 : W.length ≤ 60
      · rw [if_pos]; simp [okW,hk,hl60]
      · exfalso; have :=h60 (by omega); omega
     rw [e]
     (repeat (refine awp_stepG [0,2,3,5,6,7,8,9,22] hX mixed rfl ?_; (simp [go_sem]; try (refine ⟨by kernel_rfl,?_⟩))))
theorem amount_m (n : Int) : Means true Try.prog 77 [ii n] (bb (isAm n)) :=by
 refine means_fn true 9 [.tmp 2] Try.func77 rfl rfl rfl (by simp) (by decide) rfl fun X hX => ?_
 (repeat (refine awp_stepG [0,2] hX mixed rfl ?_; (simp [go_sem]; try (refine ⟨by kernel_rfl,?_⟩))))
 simp [isAm]
end Go.Proofs.Ytndiamkmcoghdaa

namespace Go.Proofs.Ytndiamkmcoghdaa
def sumN : Nat → (Nat → Int) → Int
 | 0,_ => 0
 | n + 1,f => sumN n f + f n
theorem sumN_le {f g : Nat → Int} : ∀ {n : Nat},(∀ i,i < n → f i ≤ g i) → sumN n f ≤ sumN n g
 | 0,_ => by simp [sumN]
 | n + 1,h => by
   have :=sumN_le (n :=n) fun i hi => h i (by omega)
   have :=h n (by omega)
   simp only [sumN]; omega
theorem sumN_congr {f g : Nat → Int} {n : Nat} (h : ∀ i,i < n → f i = g i) : sumN n f = sumN n g :=
 Int.le_antisymm (sumN_le fun i hi => Int.le_of_eq (h i hi)) (sumN_le fun i hi => Int.le_of_eq (h i hi).symm)
theorem sumN_mul (c : Int) (f : Nat → Int) : ∀ n : Nat,sumN n (fun i => c * f i) = c * sumN n f
 | 0 => by simp [sumN]
 | n + 1 => by simp only [sumN]; rw [sumN_mul c f n,Int.mul_add]
theorem sumN_upd {f g : Nat → Int} : ∀ {n k : Nat},k < n → (∀ i,i < n → i ≠ k → g i = f i) → sumN n g = sumN n f + (g k - f k)
 | n + 1,k,hk,h => by
   simp only [sumN]
   by_cases e : k = n
   · subst e
     rw [sumN_congr (f :=g) (g :=f) fun i hi => h i (by omega) (by omega)]; omega
   · rw [sumN_upd (n :=n) (k :=k) (by omega) fun i hi hne => h i (by omega) hne,h n (by omega) (fun q => e q.symm)]; omega
def gt (L : List Int) (i : Nat) : Int :=L.getD i 0
theorem gt_at {L : List Int} {i : Nat} (h : i < L.length) : gt L i = L[i] :=by unfold gt; rw [List.getD_eq_getElem?_getD,List.getElem?_eq_getElem h]; rfl
theorem gt_set {L : List Int} {i k : Nat} {v : Int} (hk : k < L.length) : gt (L.set k v) i = if i = k then v else gt L i :=by
 unfold gt
 rw [List.getD_eq_getElem?_getD,List.getD_eq_getElem?_getD,List.getElem?_set]
 by_cases e : k = i
 · rw [if_pos e,if_pos e.symm,if_pos hk]; rfl
 · rw [if_neg e,if_neg (fun q => e q.symm)]
theorem sumL_N : ∀ L : List Int,sumL L = sumN L.length (gt L) :=by
 intro L
 have : ∀ k,k ≤ L.length → sumL (L.take k) = sumN k (gt L) :=by
  intro k
  induction k with
  | zero => intro _; rfl
  | succ k ih => intro hk; rw [sumL_succ (by omega),ih (by omega),sumN,gt_at (by omega)]
 have h :=this L.length (Nat.le_refl _)
 rwa [List.take_length] at h
def bst (W H : List Int) (t s : Int) : Nat → Int
 | 0 => -1
 | k + 1 => if t * gt W k ≤ gt H k * s then bst W H t s k
   else if bst W H t s k < 0 ∨ gt W (bst W H t s k).toNat * (gt H k + 1) < gt W k * (gt H (bst W H t s k).toNat + 1) then k else bst W H t s k
theorem bst_lt (W H : List Int) (t s : Int) : ∀ k : Nat,-1 ≤ bst W H t s k ∧ bst W H t s k < k
 | 0 => by simp [bst]
 | k + 1 => by
   have :=bst_lt W H t s k
   simp only [bst]
   split
   · omega
   · split <;> omega
theorem cross {w a wb ab wk ak : Int} (ha : 0 ≤ a) (hab : 0 < ab) (hak : 0 ≤ ak) (h1 : w * ab ≤ wb * a) (h2 : wb * ak < wk * ab) : w * ak ≤ wk * a :=by
 have e1 : w * ab * ak ≤ wb * a * ak :=Int.mul_le_mul_of_nonneg_right h1 hak
 have e2 : wb * ak * a ≤ wk * ab * a :=Int.mul_le_mul_of_nonneg_right (Int.le_of_lt h2) ha
 have e3 : w * ak * ab ≤ wk * a * ab :=by
  have a1 : w * ak * ab = w * ab * ak :=by rw [Int.mul_assoc,Int.mul_comm ak ab,← Int.mul_assoc]
  have a2 : wb * a * ak = wb * ak * a :=by rw [Int.mul_assoc,Int.mul_comm a ak,← Int.mul_assoc]
  have a3 : wk * a * ab = wk * ab * a :=by rw [Int.mul_assoc,Int.mul_comm a ab,← Int.mul_assoc]
  rw [a1,a3]; omega
 exact Int.le_of_mul_le_mul_right e3 hab
theorem bst_best {W H : List Int} {t s : Int} (hH : ∀ i,0 ≤ gt H i) : ∀ k : Nat,
  (∀ i,i < k → gt H i * s < t * gt W i → 0 ≤ bst W H t s k) ∧
  (0 ≤ bst W H t s k → gt H (bst W H t s k).toNat * s < t * gt W (bst W H t s k).toNat ∧ ∀ i,i < k → gt H i * s < t * gt W i → gt W i * (gt H (bst W H t s k).toNat + 1) ≤ gt W (bst W H t s k).toNat * (gt H i + 1))
 | 0 => by simp [bst]
 | k + 1 => by
   obtain ⟨ih1,ih2⟩ :=bst_best hH k
   simp only [bst]
   by_cases h1 : t * gt W k ≤ gt H k * s
   · rw [if_pos h1]
     refine ⟨fun i hi he => ?_,fun h0 => ⟨(ih2 h0).1,fun i hi he => ?_⟩⟩
     · by_cases e : i = k
       · subst e; omega
       · exact ih1 i (by omega) he
     · by_cases e : i = k
       · subst e; omega
       · exact (ih2 h0).2 i (by omega) he
   · rw [if_neg h1]
     by_cases h2 : bst W H t s k < 0 ∨ gt W (bst W H t s k).toNat * (gt H k + 1) < gt W k * (gt H (bst W H t s k).toNat + 1)
     · rw [if_pos h2]
       refine ⟨fun _ _ _ => by omega,fun _ => ?_⟩
       rw [Int.toNat_natCast]
       refine ⟨by omega,fun i hi he => ?_⟩
       by_cases e : i = k
       · subst e; exact Int.le_refl _
       · have h0 :=ih1 i (by omega) he
         have hb :=(ih2 h0).2 i (by omega) he
         rcases h2 with h2 | h2
         · omega
         · have p1 :=hH i
           have p2 :=hH k
           have p3 :=hH (bst W H t s k).toNat
           exact cross (by omega) (by omega) (by omega) hb h2
     · rw [if_neg h2]
       have h0 : 0 ≤ bst W H t s k :=by omega
       refine ⟨fun _ _ _ => h0,fun _ => ⟨(ih2 h0).1,fun i hi he => ?_⟩⟩
       by_cases e : i = k
       · subst e; omega
       · exact (ih2 h0).2 i (by omega) he
def giv (W : List Int) : Nat → List Int
 | 0 => List.replicate W.length 0
 | t + 1 => (giv W t).set (bst W (giv W t) ((t : Int) + 1) (sumL W) W.length).toNat (gt (giv W t) (bst W (giv W t) ((t : Int) + 1) (sumL W) W.length).toNat + 1)
theorem giv_len (W : List Int) : ∀ t : Nat,(giv W t).length = W.length
 | 0 => by simp [giv]
 | t + 1 => by simp only [giv,List.length_set]; exact giv_len W t
theorem gt_zeros (n i : Nat) : gt (List.replicate n 0) i = 0 :=by
 unfold gt; rw [List.getD_eq_getElem?_getD,List.getElem?_replicate]; split <;> rfl
structure GivOK (W : List Int) (t : Nat) : Prop where
 nn : ∀ i,0 ≤ gt (giv W t) i
 sum : sumN W.length (gt (giv W t)) = t
 up : ∀ i,i < W.length → gt (giv W t) i * sumL W < t * gt W i + sumL W
theorem giv_next {W : List Int} (hs : 0 < sumL W) {t : Nat} (ok : GivOK W t) : ∃ b : Nat,b < W.length ∧ bst W (giv W t) ((t : Int) + 1) (sumL W) W.length = b :=by
 have hbl :=bst_lt W (giv W t) ((t : Int) + 1) (sumL W) W.length
 have hex : ∃ i,i < W.length ∧ gt (giv W t) i * sumL W < ((t : Int) + 1) * gt W i :=by
  refine Classical.byContradiction fun hn => ?_
  have hall : ∀ i,i < W.length → ((t : Int) + 1) * gt W i ≤ sumL W * gt (giv W t) i :=fun i hi => by
   rw [Int.mul_comm (sumL W)]
   exact Int.not_lt.1 fun q => hn ⟨i,hi,q⟩
  have :=sumN_le hall
  rw [sumN_mul,sumN_mul,ok.sum,← sumL_N,Int.add_mul,Int.one_mul,Int.mul_comm (sumL W)] at this
  omega
 obtain ⟨i,hi,he⟩ :=hex
 have h0 :=(bst_best (W :=W) (H :=giv W t) (t :=(t : Int) + 1) (s :=sumL W) ok.nn W.length).1 i hi he
 exact ⟨(bst W (giv W t) ((t : Int) + 1) (sumL W) W.length).toNat,by omega,by omega⟩
theorem giv_ok' {W : List Int} (hw : ∀ i,0 ≤ gt W i) (hs : 0 < sumL W) (t : Nat) : GivOK W t :=by
 induction t with
 | zero =>
   refine ⟨fun i => by rw [giv,gt_zeros]; omega,?_,fun i hi => ?_⟩
   · rw [giv,sumN_congr (g :=fun _ => 0) fun i _ => gt_zeros _ i]
     have : ∀ n,sumN n (fun _ => 0) = 0 :=fun n => by induction n with
      | zero => rfl
      | succ n ih => simp [sumN,ih]
     rw [this]; rfl
   · rw [giv,gt_zeros]; simp; exact hs
 | succ t ih =>
   obtain ⟨b,hb,he⟩ :=giv_next hs ih
   have hbl : b < (giv W t).length :=by rw [giv_len]; exact hb
   have hg : ∀ i,gt (giv W (t + 1)) i = if i = b then gt (giv W t) b + 1 else gt (giv W t) i :=fun i => by
    simp only [giv]; rw [he,Int.toNat_natCast]; exact gt_set hbl
   have hbest :=(bst_best (W :=W) (H :=giv W t) (t :=(t : Int) + 1) (s :=sumL W) ih.nn W.length).2 (by rw [he]; omega)
   rw [he,Int.toNat_natCast] at hbest
   refine ⟨fun i => ?_,?_,fun i hi => ?_⟩
   · rw [hg]; have :=ih.nn i; have :=ih.nn b; split <;> omega
   · rw [sumN_upd (f :=gt (giv W t)) hb fun i _ hne => by rw [hg,if_neg hne],hg,if_pos rfl,ih.sum]; push_cast; omega
   · rw [hg]
     have h1 :=ih.up i hi
     have h2 :=hw i
     have e : (((t + 1 : Nat) : Int)) * gt W i = t * gt W i + gt W i :=by push_cast; rw [Int.add_mul,Int.one_mul]
     split
     · rename_i hib
       subst hib
       have :=hbest.1
       rw [Int.add_mul,Int.one_mul] at this ⊢
       rw [e]; omega
     · rw [e]; omega
theorem giv_ok {W : List Int} (hw : ∀ i,0 ≤ gt W i) (hs : 0 < sumL W) (t : Nat) : GivOK W t ∧ ∃ b : Nat,b < W.length ∧ bst W (giv W t) ((t : Int) + 1) (sumL W) W.length = b :=
 ⟨giv_ok' hw hs t,giv_next hs (giv_ok' hw hs t)⟩
def given (W : List Int) (n : Int) : List Int :=List.zipWith (fun a w => a + n / sumL W * w) (giv W (n % sumL W).toNat) W
end Go.Proofs.Ytndiamkmcoghdaa

namespace Go.Proofs.Ytndiamkmcoghdaa
theorem gt_W {W : List Int} (hok : okW W = true) (i : Nat) : 0 ≤ gt W i :=by
 by_cases h : i < W.length
 · rw [gt_at h]; exact (okW_mem hok (List.getElem_mem h)).1
 · unfold gt; rw [List.getD_eq_getElem?_getD,List.getElem?_eq_none (by omega)]; exact Int.le_refl _
theorem W_le {W : List Int} (hok : okW W = true) {i : Nat} (h : i < W.length) : gt W i ≤ sumL W :=by
 rw [gt_at h]; exact mem_sum (fun x hx => (okW_mem hok hx).1) (List.getElem_mem h)
theorem giv_le {W : List Int} (hok : okW W = true) (hs : 0 < sumL W) (t : Nat) {i : Nat} (h : i < W.length) : 0 ≤ gt (giv W t) i ∧ gt (giv W t) i ≤ t :=by
 have ok :=(giv_ok (gt_W hok) hs t).1
 refine ⟨ok.nn i,?_⟩
 have h1 :=ok.up i h
 have h2 : (t : Int) * gt W i ≤ t * sumL W :=Int.mul_le_mul_of_nonneg_left (W_le hok h) (by omega)
 have h3 : gt (giv W t) i * sumL W < ((t : Int) + 1) * sumL W :=by rw [Int.add_mul,Int.one_mul]; omega
 have :=Int.lt_of_mul_lt_mul_right h3 (by omega)
 omega
theorem given_len (W : List Int) (n : Int) : (given W n).length = W.length :=by unfold given; rw [List.length_zipWith,giv_len]; omega
theorem given_at {W : List Int} {n : Int} {i : Nat} (h : i < W.length) (h' : i < (given W n).length) (h2 : i < (giv W (n % sumL W).toNat).length) : (given W n)[i] = (giv W (n % sumL W).toNat)[i] + n / sumL W * W[i] :=by
 simp [given]
theorem given_gt {W : List Int} {n : Int} {i : Nat} (h : i < W.length) : gt (given W n) i = gt (giv W (n % sumL W).toNat) i + n / sumL W * gt W i :=by
 rw [gt_at (by rw [given_len]; exact h),gt_at (by rw [giv_len]; exact h),gt_at h]; exact given_at h _ _
def mixL (A B : List Int) (k : Nat) : List Int :=A.take k ++ B.drop k
theorem mix_len {A B : List Int} (h : A.length = B.length) {k : Nat} (hk : k ≤ A.length) : (mixL A B k).length = A.length :=by simp [mixL]; omega
theorem mix_zero (A B : List Int) : mixL A B 0 = B :=by simp [mixL]
theorem mix_full {A B : List Int} (h : A.length = B.length) : mixL A B A.length = A :=by
 unfold mixL; rw [List.take_length,List.drop_of_length_le (by omega),List.append_nil]
theorem mix_at {A B : List Int} (h : A.length = B.length) {k : Nat} (hk : k < B.length) (hk' : k < (mixL A B k).length) : (mixL A B k)[k] = B[k] :=by
 have e : (mixL A B k)[k]? = B[k]? :=by
  unfold mixL
  rw [List.getElem?_append_right (by simp; omega),List.getElem?_drop,List.length_take]
  congr 1; omega
 rw [List.getElem?_eq_getElem hk',List.getElem?_eq_getElem hk] at e
 exact Option.some.inj e
theorem mix_set {A B : List Int} (h : A.length = B.length) {k : Nat} (hk : k < A.length) : (mixL A B k).set k A[k] = mixL A B (k + 1) :=by
 unfold mixL
 rw [List.set_append_right _ _ (by simp; omega),List.length_take,Nat.min_eq_left (by omega),Nat.sub_self,List.drop_eq_getElem_cons (by omega),List.set_cons_zero,
  List.take_succ_eq_append_getElem hk,List.append_assoc]
 rfl
def givenE (W : List Int) (n : Int) : Int :=if wsum W = 0 ∨ isAm n = false then 1 else if 65536 < wsum W then 6 else 0
theorem givenE_zero {W : List Int} {n : Int} (h : givenE W n = 0) : okW W = true ∧ wsum W = sumL W ∧ 0 < sumL W ∧ sumL W ≤ 65536 ∧ 0 ≤ n ∧ n ≤ 1099511627776 ∧ isAm n = true :=by
 unfold givenE at h
 split at h
 · cases h
 · rename_i h1
   split at h
   · cases h
   · rename_i h2
     obtain ⟨a,b,c⟩ :=wsum_pos (W :=W) (fun q => h1 (.inl q))
     have hn : isAm n = true :=by cases q : isAm n with
      | true => rfl
      | false => exact absurd (.inr q) h1
     have hn2 : 0 ≤ n ∧ n ≤ 1099511627776 :=by simpa [isAm] using hn
     exact ⟨a,b,c,by omega,hn2.1,hn2.2,hn⟩
theorem given_bd {W : List Int} {n : Int} (hok : okW W = true) (hs : 0 < sumL W) (hn : 0 ≤ n) {i : Nat} (h : i < W.length) : 0 ≤ gt (given W n) i ∧ gt (given W n) i ≤ n ∧ 0 ≤ n / sumL W * gt W i ∧ n / sumL W * gt W i ≤ n :=by
 rw [given_gt h]
 have h1 :=Int.emod_nonneg n (show sumL W ≠ 0 by omega)
 have h2 :=giv_le hok hs (n % sumL W).toNat h
 have h3 :=Int.ediv_nonneg hn (show 0 ≤ sumL W by omega)
 have h4 :=Int.mul_nonneg h3 (gt_W hok i)
 have h5 : n / sumL W * gt W i ≤ n / sumL W * sumL W :=Int.mul_le_mul_of_nonneg_left (W_le hok h) h3
 have h6 :=Int.mul_ediv_add_emod n (sumL W)
 rw [Int.mul_comm] at h6
 omega
def fairE (n : Int) (W : List Int) (b : Int) : Int :=if isAm n = false ∨ isAm b = false then 1 else if givenE W b ≠ 0 then givenE W b else givenE W (b + n)
def fair (n : Int) (W : List Int) (b : Int) : List Int :=List.zipWith (fun x y => x - y) (given W (b + n)) (given W b)
theorem fair_len (n : Int) (W : List Int) (b : Int) : (fair n W b).length = W.length :=by unfold fair; rw [List.length_zipWith,given_len,given_len]; omega
theorem fair_at {n : Int} {W : List Int} {b : Int} {i : Nat} (h : i < (fair n W b).length) (h1 : i < (given W (b + n)).length) (h2 : i < (given W b).length) : (fair n W b)[i] = (given W (b + n))[i] - (given W b)[i] :=by simp [fair]
end Go.Proofs.Ytndiamkmcoghdaa

