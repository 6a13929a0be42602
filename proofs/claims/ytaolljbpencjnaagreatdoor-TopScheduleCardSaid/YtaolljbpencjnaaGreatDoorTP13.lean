/-
  Lemmas for the statement at the top.
-/
import Derived.Test.YtaolljbpencjnaaGreatDoorTP12
set_option linter.all false
namespace Go.Ab
def q8x0 : List Nat :=[0,1,2,6,7,8,9,11,24,25,26,27,50,51,52,53]
def q8x1 : List Nat :=[0,2,3,4,5,6,7]
attribute [go_sem] q8x0 q8x1
end Go.Ab
namespace Go.Proofs.YtaolljbpencjnaaGreatDoor
open Go.RowKit Go.Ab
attribute [local irreducible] AWP Go.Ab.Sub Means MeansH CallK CallG CallT CallGT PanicH DefH CallU
def rngI (n : Nat) : List Int :=List.map (fun k : Nat => (k : Int)) (List.range n)
theorem nJ (n : Nat) : rngI (n + 1) = rngI n ++ [(n : Int)] :=by simp [rngI,List.range_succ]
theorem yD (n : Nat) : (rngI n).length = n :=by simp [rngI]
theorem AT (n : Nat) (hn : n ≤ 200) : Means true Tryz.prog 49 [ii n] (il (rngI n)) :=by
 refine aH true 15 [.tmp 2] Tryz.func49 rfl rfl rfl (by simp) (by decide) rfl fun X hX => ?_
 (repeat (refine aA q8x1 hX mixed rfl ?_; (simp [go_sem]; try (refine ⟨by kernel_rfl,?_⟩))))
 refine aV (fun k : Nat => ⟨mkE [(3,.ow 0),(5,ii n),(6,ii k)],[rowI (rngI k)]⟩) (fun k => k ≤ n) (fun k => n - k) 0 ?_ ?_ ?_
 · refine aM _ [.birth 3 1] (by simp [go_sem]) ?_
   simp [go_sem]
 · omega
 · intro k hk
   have wk :=w64 (x :=(k : Int) + 1) (by omega) (by omega)
   have hl :=yD k
   (repeat (refine aA q8x1 hX mixed rfl ?_; (simp [go_sem]; try (refine ⟨by kernel_rfl,?_⟩))))
   refine aC (b :=decide (k < n)) (by simp [go_sem]) (fun hc => ?_) (fun hc => ?_)
   · simp at hc
     (repeat (refine aA q8x1 hX mixed rfl ?_; (simp [go_sem,hl]; try (refine ⟨by kernel_rfl,?_⟩))))
     (repeat refine And.intro (by first | omega | (unfold maxLen; omega) | kernel_rfl | (refine ⟨by first | omega | (unfold maxLen; omega),by first | omega | (unfold maxLen; omega)⟩) | grind) ?_)
     (repeat (refine aA q8x1 hX mixed rfl ?_; (simp [go_sem,hl,wk]; try (refine ⟨by kernel_rfl,?_⟩))))
     refine ⟨k + 1,by omega,by omega,?_⟩
     refine aM _ [.old 2 ⟨3,1,(rngI (k + 1)).map ii⟩] (by simp [go_sem,nJ]) ?_
     simp [go_sem,nJ]
   · simp at hc
     have e : k = n :=by omega
     subst e
     (repeat (refine aA q8x1 hX mixed rfl ?_; (simp [go_sem]; try (refine ⟨by kernel_rfl,?_⟩))))
set_option maxHeartbeats 16000000 in
set_option maxRecDepth 20000 in
theorem qH (n0 n1 n2 n3 n4 n5 n6 n7 n8 n9 : Int) : MeansH Tryz.prog 48 [] [.sl (([⟨2,0,n0⟩,⟨0,2,n1⟩,⟨1,2,n2⟩,⟨2,1,n3⟩,⟨0,1,n4⟩,⟨3,2,n5⟩,⟨2,3,n6⟩,⟨4,2,n7⟩,⟨2,4,n8⟩,⟨3,4,n9⟩] : List Cn).map cn),ii 5,il [0,1,2,3,4]] (.el 0 5 0 0)
  [.row ⟨113,5,[.agg [.sl (([⟨2,0,n0⟩,⟨0,2,n1⟩,⟨1,2,n2⟩,⟨2,1,n3⟩,⟨0,1,n4⟩,⟨3,2,n5⟩,⟨2,3,n6⟩,⟨4,2,n7⟩,⟨2,4,n8⟩,⟨3,4,n9⟩] : List Cn).map cn),.sl [il [0],il [3,4],il [1,2,5,7],il [6],il [8,9]],.ow 1,.ow 2,.ow 3]]⟩,.row ⟨3,1,([0,0,0,0,0] : List Int).map ii⟩,.row ⟨3,1,([-1,-1,-1,-1,-1] : List Int).map ii⟩,.row ⟨4,1,[bb true,bb true,bb true,bb true,bb true]⟩] :=by
 have c1 :=yE 5 (by omega)
 have w1 : IntKind.i64.wrap 5 = 5 :=by decide
 refine aS 0 64 [.tmp 6] Tryz.func48 rfl rfl rfl (by simp) (by decide) rfl fun X hX => ?_
 (repeat (first | refine bV ?_ | refine bS ?_ | ((first | refine cG q8x0 hX ?_ | refine bF ?_ | refine cH ?_); (simp [go_sem]; try (refine ⟨by kernel_rfl,?_⟩)))))
 refine lC [0,1,2,6,7,8,9,11,24,25,26,27,50,51,52,53] 6 hX mixed ?_; (simp [go_sem,w1]; try (refine ⟨by kernel_rfl,?_⟩))
 refine oN [2] (c1) (by simp [go_sem]) (by simp [go_sem]) (by simp [go_sem]) ?_
 (simp [go_sem,w1]; try (refine ⟨by kernel_rfl,?_⟩))
 (repeat refine And.intro (by first | omega | (unfold maxLen; omega) | kernel_rfl | (refine ⟨by first | omega | (unfold maxLen; omega),by first | omega | (unfold maxLen; omega)⟩) | grind) ?_)
 refine ⟨⟨by kernel_rfl,by kernel_rfl⟩,?_⟩
 (repeat (refine aB q8x0 hX mixed rfl ?_; (simp [go_sem]; try (refine ⟨by kernel_rfl,?_⟩))))
 refine aV (fun k : Nat => match k with | 0 => ⟨mkE [(2,il [0,1,2,3,4]),(7,.el 0 5 0 0),(24,.sl [cn ⟨2,0,n0⟩,cn ⟨0,2,n1⟩,cn ⟨1,2,n2⟩,cn ⟨2,1,n3⟩,cn ⟨0,1,n4⟩,cn ⟨3,2,n5⟩,cn ⟨2,3,n6⟩,cn ⟨4,2,n7⟩,cn ⟨2,4,n8⟩,cn ⟨3,4,n9⟩]),(25,ii 10),(26,ii 0)],[.row ⟨113,5,[.agg [.sl [cn ⟨2,0,n0⟩,cn ⟨0,2,n1⟩,cn ⟨1,2,n2⟩,cn ⟨2,1,n3⟩,cn ⟨0,1,n4⟩,cn ⟨3,2,n5⟩,cn ⟨2,3,n6⟩,cn ⟨4,2,n7⟩,cn ⟨2,4,n8⟩,cn ⟨3,4,n9⟩],.ow 1,.ow 2,.ow 3,.ow 4]]⟩,.row ⟨40,1,[.nil,.nil,.nil,.nil,.nil]⟩,.row ⟨3,1,([0,0,0,0,0] : List Int).map ii⟩,.row ⟨3,1,([-1,-1,-1,-1,-1] : List Int).map ii⟩,.row ⟨4,1,[bb false,bb false,bb false,bb false,bb false]⟩]⟩ | 1 => ⟨mkE [(2,il [0,1,2,3,4]),(7,.el 0 5 0 0),(24,.sl [cn ⟨2,0,n0⟩,cn ⟨0,2,n1⟩,cn ⟨1,2,n2⟩,cn ⟨2,1,n3⟩,cn ⟨0,1,n4⟩,cn ⟨3,2,n5⟩,cn ⟨2,3,n6⟩,cn ⟨4,2,n7⟩,cn ⟨2,4,n8⟩,cn ⟨3,4,n9⟩]),(25,ii 10),(26,ii 1)],[.row ⟨113,5,[.agg [.sl [cn ⟨2,0,n0⟩,cn ⟨0,2,n1⟩,cn ⟨1,2,n2⟩,cn ⟨2,1,n3⟩,cn ⟨0,1,n4⟩,cn ⟨3,2,n5⟩,cn ⟨2,3,n6⟩,cn ⟨4,2,n7⟩,cn ⟨2,4,n8⟩,cn ⟨3,4,n9⟩],.ow 1,.ow 2,.ow 3,.ow 4]]⟩,.row ⟨40,1,[.ow 5,.nil,.nil,.nil,.nil]⟩,.row ⟨3,1,([0,0,0,0,0] : List Int).map ii⟩,.row ⟨3,1,([-1,-1,-1,-1,-1] : List Int).map ii⟩,.row ⟨4,1,[bb false,bb false,bb false,bb false,bb false]⟩,rowI [0]]⟩ | 2 => ⟨mkE [(2,il [0,1,2,3,4]),(7,.el 0 5 0 0),(24,.sl [cn ⟨2,0,n0⟩,cn ⟨0,2,n1⟩,cn ⟨1,2,n2⟩,cn ⟨2,1,n3⟩,cn ⟨0,1,n4⟩,cn ⟨3,2,n5⟩,cn ⟨2,3,n6⟩,cn ⟨4,2,n7⟩,cn ⟨2,4,n8⟩,cn ⟨3,4,n9⟩]),(25,ii 10),(26,ii 2)],[.row ⟨113,5,[.agg [.sl [cn ⟨2,0,n0⟩,cn ⟨0,2,n1⟩,cn ⟨1,2,n2⟩,cn ⟨2,1,n3⟩,cn ⟨0,1,n4⟩,cn ⟨3,2,n5⟩,cn ⟨2,3,n6⟩,cn ⟨4,2,n7⟩,cn ⟨2,4,n8⟩,cn ⟨3,4,n9⟩],.ow 1,.ow 2,.ow 3,.ow 4]]⟩,.row ⟨40,1,[.ow 5,.nil,.ow 6,.nil,.nil]⟩,.row ⟨3,1,([0,0,0,0,0] : List Int).map ii⟩,.row ⟨3,1,([-1,-1,-1,-1,-1] : List Int).map ii⟩,.row ⟨4,1,[bb false,bb false,bb false,bb false,bb false]⟩,rowI [0],rowI [1]]⟩ | 3 => ⟨mkE [(2,il [0,1,2,3,4]),(7,.el 0 5 0 0),(24,.sl [cn ⟨2,0,n0⟩,cn ⟨0,2,n1⟩,cn ⟨1,2,n2⟩,cn ⟨2,1,n3⟩,cn ⟨0,1,n4⟩,cn ⟨3,2,n5⟩,cn ⟨2,3,n6⟩,cn ⟨4,2,n7⟩,cn ⟨2,4,n8⟩,cn ⟨3,4,n9⟩]),(25,ii 10),(26,ii 3)],[.row ⟨113,5,[.agg [.sl [cn ⟨2,0,n0⟩,cn ⟨0,2,n1⟩,cn ⟨1,2,n2⟩,cn ⟨2,1,n3⟩,cn ⟨0,1,n4⟩,cn ⟨3,2,n5⟩,cn ⟨2,3,n6⟩,cn ⟨4,2,n7⟩,cn ⟨2,4,n8⟩,cn ⟨3,4,n9⟩],.ow 1,.ow 2,.ow 3,.ow 4]]⟩,.row ⟨40,1,[.ow 5,.nil,.ow 6,.nil,.nil]⟩,.row ⟨3,1,([0,0,0,0,0] : List Int).map ii⟩,.row ⟨3,1,([-1,-1,-1,-1,-1] : List Int).map ii⟩,.row ⟨4,1,[bb false,bb false,bb false,bb false,bb false]⟩,rowI [0],rowI [1,2]]⟩ | 4 => ⟨mkE [(2,il [0,1,2,3,4]),(7,.el 0 5 0 0),(24,.sl [cn ⟨2,0,n0⟩,cn ⟨0,2,n1⟩,cn ⟨1,2,n2⟩,cn ⟨2,1,n3⟩,cn ⟨0,1,n4⟩,cn ⟨3,2,n5⟩,cn ⟨2,3,n6⟩,cn ⟨4,2,n7⟩,cn ⟨2,4,n8⟩,cn ⟨3,4,n9⟩]),(25,ii 10),(26,ii 4)],[.row ⟨113,5,[.agg [.sl [cn ⟨2,0,n0⟩,cn ⟨0,2,n1⟩,cn ⟨1,2,n2⟩,cn ⟨2,1,n3⟩,cn ⟨0,1,n4⟩,cn ⟨3,2,n5⟩,cn ⟨2,3,n6⟩,cn ⟨4,2,n7⟩,cn ⟨2,4,n8⟩,cn ⟨3,4,n9⟩],.ow 1,.ow 2,.ow 3,.ow 4]]⟩,.row ⟨40,1,[.ow 5,.ow 7,.ow 6,.nil,.nil]⟩,.row ⟨3,1,([0,0,0,0,0] : List Int).map ii⟩,.row ⟨3,1,([-1,-1,-1,-1,-1] : List Int).map ii⟩,.row ⟨4,1,[bb false,bb false,bb false,bb false,bb false]⟩,rowI [0],rowI [1,2],rowI [3]]⟩ | 5 => ⟨mkE [(2,il [0,1,2,3,4]),(7,.el 0 5 0 0),(24,.sl [cn ⟨2,0,n0⟩,cn ⟨0,2,n1⟩,cn ⟨1,2,n2⟩,cn ⟨2,1,n3⟩,cn ⟨0,1,n4⟩,cn ⟨3,2,n5⟩,cn ⟨2,3,n6⟩,cn ⟨4,2,n7⟩,cn ⟨2,4,n8⟩,cn ⟨3,4,n9⟩]),(25,ii 10),(26,ii 5)],[.row ⟨113,5,[.agg [.sl [cn ⟨2,0,n0⟩,cn ⟨0,2,n1⟩,cn ⟨1,2,n2⟩,cn ⟨2,1,n3⟩,cn ⟨0,1,n4⟩,cn ⟨3,2,n5⟩,cn ⟨2,3,n6⟩,cn ⟨4,2,n7⟩,cn ⟨2,4,n8⟩,cn ⟨3,4,n9⟩],.ow 1,.ow 2,.ow 3,.ow 4]]⟩,.row ⟨40,1,[.ow 5,.ow 7,.ow 6,.nil,.nil]⟩,.row ⟨3,1,([0,0,0,0,0] : List Int).map ii⟩,.row ⟨3,1,([-1,-1,-1,-1,-1] : List Int).map ii⟩,.row ⟨4,1,[bb false,bb false,bb false,bb false,bb false]⟩,rowI [0],rowI [1,2],rowI [3,4]]⟩ | 6 => ⟨mkE [(2,il [0,1,2,3,4]),(7,.el 0 5 0 0),(24,.sl [cn ⟨2,0,n0⟩,cn ⟨0,2,n1⟩,cn ⟨1,2,n2⟩,cn ⟨2,1,n3⟩,cn ⟨0,1,n4⟩,cn ⟨3,2,n5⟩,cn ⟨2,3,n6⟩,cn ⟨4,2,n7⟩,cn ⟨2,4,n8⟩,cn ⟨3,4,n9⟩]),(25,ii 10),(26,ii 6)],[.row ⟨113,5,[.agg [.sl [cn ⟨2,0,n0⟩,cn ⟨0,2,n1⟩,cn ⟨1,2,n2⟩,cn ⟨2,1,n3⟩,cn ⟨0,1,n4⟩,cn ⟨3,2,n5⟩,cn ⟨2,3,n6⟩,cn ⟨4,2,n7⟩,cn ⟨2,4,n8⟩,cn ⟨3,4,n9⟩],.ow 1,.ow 2,.ow 3,.ow 4]]⟩,.row ⟨40,1,[.ow 5,.ow 7,.ow 6,.nil,.nil]⟩,.row ⟨3,1,([0,0,0,0,0] : List Int).map ii⟩,.row ⟨3,1,([-1,-1,-1,-1,-1] : List Int).map ii⟩,.row ⟨4,1,[bb false,bb false,bb false,bb false,bb false]⟩,rowI [0],rowI [1,2,5],rowI [3,4]]⟩ | 7 => ⟨mkE [(2,il [0,1,2,3,4]),(7,.el 0 5 0 0),(24,.sl [cn ⟨2,0,n0⟩,cn ⟨0,2,n1⟩,cn ⟨1,2,n2⟩,cn ⟨2,1,n3⟩,cn ⟨0,1,n4⟩,cn ⟨3,2,n5⟩,cn ⟨2,3,n6⟩,cn ⟨4,2,n7⟩,cn ⟨2,4,n8⟩,cn ⟨3,4,n9⟩]),(25,ii 10),(26,ii 7)],[.row ⟨113,5,[.agg [.sl [cn ⟨2,0,n0⟩,cn ⟨0,2,n1⟩,cn ⟨1,2,n2⟩,cn ⟨2,1,n3⟩,cn ⟨0,1,n4⟩,cn ⟨3,2,n5⟩,cn ⟨2,3,n6⟩,cn ⟨4,2,n7⟩,cn ⟨2,4,n8⟩,cn ⟨3,4,n9⟩],.ow 1,.ow 2,.ow 3,.ow 4]]⟩,.row ⟨40,1,[.ow 5,.ow 7,.ow 6,.ow 8,.nil]⟩,.row ⟨3,1,([0,0,0,0,0] : List Int).map ii⟩,.row ⟨3,1,([-1,-1,-1,-1,-1] : List Int).map ii⟩,.row ⟨4,1,[bb false,bb false,bb false,bb false,bb false]⟩,rowI [0],rowI [1,2,5],rowI [3,4],rowI [6]]⟩ | 8 => ⟨mkE [(2,il [0,1,2,3,4]),(7,.el 0 5 0 0),(24,.sl [cn ⟨2,0,n0⟩,cn ⟨0,2,n1⟩,cn ⟨1,2,n2⟩,cn ⟨2,1,n3⟩,cn ⟨0,1,n4⟩,cn ⟨3,2,n5⟩,cn ⟨2,3,n6⟩,cn ⟨4,2,n7⟩,cn ⟨2,4,n8⟩,cn ⟨3,4,n9⟩]),(25,ii 10),(26,ii 8)],[.row ⟨113,5,[.agg [.sl [cn ⟨2,0,n0⟩,cn ⟨0,2,n1⟩,cn ⟨1,2,n2⟩,cn ⟨2,1,n3⟩,cn ⟨0,1,n4⟩,cn ⟨3,2,n5⟩,cn ⟨2,3,n6⟩,cn ⟨4,2,n7⟩,cn ⟨2,4,n8⟩,cn ⟨3,4,n9⟩],.ow 1,.ow 2,.ow 3,.ow 4]]⟩,.row ⟨40,1,[.ow 5,.ow 7,.ow 6,.ow 8,.nil]⟩,.row ⟨3,1,([0,0,0,0,0] : List Int).map ii⟩,.row ⟨3,1,([-1,-1,-1,-1,-1] : List Int).map ii⟩,.row ⟨4,1,[bb false,bb false,bb false,bb false,bb false]⟩,rowI [0],rowI [1,2,5,7],rowI [3,4],rowI [6]]⟩ | 9 => ⟨mkE [(2,il [0,1,2,3,4]),(7,.el 0 5 0 0),(24,.sl [cn ⟨2,0,n0⟩,cn ⟨0,2,n1⟩,cn ⟨1,2,n2⟩,cn ⟨2,1,n3⟩,cn ⟨0,1,n4⟩,cn ⟨3,2,n5⟩,cn ⟨2,3,n6⟩,cn ⟨4,2,n7⟩,cn ⟨2,4,n8⟩,cn ⟨3,4,n9⟩]),(25,ii 10),(26,ii 9)],[.row ⟨113,5,[.agg [.sl [cn ⟨2,0,n0⟩,cn ⟨0,2,n1⟩,cn ⟨1,2,n2⟩,cn ⟨2,1,n3⟩,cn ⟨0,1,n4⟩,cn ⟨3,2,n5⟩,cn ⟨2,3,n6⟩,cn ⟨4,2,n7⟩,cn ⟨2,4,n8⟩,cn ⟨3,4,n9⟩],.ow 1,.ow 2,.ow 3,.ow 4]]⟩,.row ⟨40,1,[.ow 5,.ow 7,.ow 6,.ow 8,.ow 9]⟩,.row ⟨3,1,([0,0,0,0,0] : List Int).map ii⟩,.row ⟨3,1,([-1,-1,-1,-1,-1] : List Int).map ii⟩,.row ⟨4,1,[bb false,bb false,bb false,bb false,bb false]⟩,rowI [0],rowI [1,2,5,7],rowI [3,4],rowI [6],rowI [8]]⟩ | _ => ⟨mkE [(2,il [0,1,2,3,4]),(7,.el 0 5 0 0),(24,.sl [cn ⟨2,0,n0⟩,cn ⟨0,2,n1⟩,cn ⟨1,2,n2⟩,cn ⟨2,1,n3⟩,cn ⟨0,1,n4⟩,cn ⟨3,2,n5⟩,cn ⟨2,3,n6⟩,cn ⟨4,2,n7⟩,cn ⟨2,4,n8⟩,cn ⟨3,4,n9⟩]),(25,ii 10),(26,ii 10)],[.row ⟨113,5,[.agg [.sl [cn ⟨2,0,n0⟩,cn ⟨0,2,n1⟩,cn ⟨1,2,n2⟩,cn ⟨2,1,n3⟩,cn ⟨0,1,n4⟩,cn ⟨3,2,n5⟩,cn ⟨2,3,n6⟩,cn ⟨4,2,n7⟩,cn ⟨2,4,n8⟩,cn ⟨3,4,n9⟩],.ow 1,.ow 2,.ow 3,.ow 4]]⟩,.row ⟨40,1,[.ow 5,.ow 7,.ow 6,.ow 8,.ow 9]⟩,.row ⟨3,1,([0,0,0,0,0] : List Int).map ii⟩,.row ⟨3,1,([-1,-1,-1,-1,-1] : List Int).map ii⟩,.row ⟨4,1,[bb false,bb false,bb false,bb false,bb false]⟩,rowI [0],rowI [1,2,5,7],rowI [3,4],rowI [6],rowI [8,9]]⟩) (fun k => k ≤ 10) (fun k => 10 - k) 0 ?_ ?_ ?_
 · show Ab.Sub X ⟨mkE [(2,il [0,1,2,3,4]),(7,.el 0 5 0 0),(24,.sl [cn ⟨2,0,n0⟩,cn ⟨0,2,n1⟩,cn ⟨1,2,n2⟩,cn ⟨2,1,n3⟩,cn ⟨0,1,n4⟩,cn ⟨3,2,n5⟩,cn ⟨2,3,n6⟩,cn ⟨4,2,n7⟩,cn ⟨2,4,n8⟩,cn ⟨3,4,n9⟩]),(25,ii 10),(26,ii 0)],[.row ⟨113,5,[.agg [.sl [cn ⟨2,0,n0⟩,cn ⟨0,2,n1⟩,cn ⟨1,2,n2⟩,cn ⟨2,1,n3⟩,cn ⟨0,1,n4⟩,cn ⟨3,2,n5⟩,cn ⟨2,3,n6⟩,cn ⟨4,2,n7⟩,cn ⟨2,4,n8⟩,cn ⟨3,4,n9⟩],.ow 1,.ow 2,.ow 3,.ow 4]]⟩,.row ⟨40,1,[.nil,.nil,.nil,.nil,.nil]⟩,.row ⟨3,1,([0,0,0,0,0] : List Int).map ii⟩,.row ⟨3,1,([-1,-1,-1,-1,-1] : List Int).map ii⟩,.row ⟨4,1,[bb false,bb false,bb false,bb false,bb false]⟩]⟩ _
   refine aM _ [.old 5 ⟨113,5,[.agg [.sl [cn ⟨2,0,n0⟩,cn ⟨0,2,n1⟩,cn ⟨1,2,n2⟩,cn ⟨2,1,n3⟩,cn ⟨0,1,n4⟩,cn ⟨3,2,n5⟩,cn ⟨2,3,n6⟩,cn ⟨4,2,n7⟩,cn ⟨2,4,n8⟩,cn ⟨3,4,n9⟩],.ow 1,.ow 2,.ow 3,.ow 4]]⟩,.old 0 ⟨40,1,[.nil,.nil,.nil,.nil,.nil]⟩,.old 1 ⟨3,1,([0,0,0,0,0] : List Int).map ii⟩,.old 3 ⟨3,1,([-1,-1,-1,-1,-1] : List Int).map ii⟩,.old 4 ⟨4,1,[bb false,bb false,bb false,bb false,bb false]⟩] (by simp [go_sem]) ?_
   simp [go_sem]
 · omega
 · intro k hk
   have hcs : k = 0 ∨ k = 1 ∨ k = 2 ∨ k = 3 ∨ k = 4 ∨ k = 5 ∨ k = 6 ∨ k = 7 ∨ k = 8 ∨ k = 9 ∨ k = 10 :=by omega
   rcases hcs with rfl | rfl | rfl | rfl | rfl | rfl | rfl | rfl | rfl | rfl | rfl
   · show AWP Tryz.prog X _ _ ⟨mkE [(2,il [0,1,2,3,4]),(7,.el 0 5 0 0),(24,.sl [cn ⟨2,0,n0⟩,cn ⟨0,2,n1⟩,cn ⟨1,2,n2⟩,cn ⟨2,1,n3⟩,cn ⟨0,1,n4⟩,cn ⟨3,2,n5⟩,cn ⟨2,3,n6⟩,cn ⟨4,2,n7⟩,cn ⟨2,4,n8⟩,cn ⟨3,4,n9⟩]),(25,ii 10),(26,ii 0)],[.row ⟨113,5,[.agg [.sl [cn ⟨2,0,n0⟩,cn ⟨0,2,n1⟩,cn ⟨1,2,n2⟩,cn ⟨2,1,n3⟩,cn ⟨0,1,n4⟩,cn ⟨3,2,n5⟩,cn ⟨2,3,n6⟩,cn ⟨4,2,n7⟩,cn ⟨2,4,n8⟩,cn ⟨3,4,n9⟩],.ow 1,.ow 2,.ow 3,.ow 4]]⟩,.row ⟨40,1,[.nil,.nil,.nil,.nil,.nil]⟩,.row ⟨3,1,([0,0,0,0,0] : List Int).map ii⟩,.row ⟨3,1,([-1,-1,-1,-1,-1] : List Int).map ii⟩,.row ⟨4,1,[bb false,bb false,bb false,bb false,bb false]⟩]⟩
     (repeat (refine aB q8x0 hX mixed rfl ?_; (simp [go_sem]; try (refine ⟨by kernel_rfl,?_⟩))))
     refine aC (b :=true) (by simp [go_sem]) (fun hb => ?_) (fun hb => by cases hb)
     (repeat (refine aB q8x0 hX mixed rfl ?_; (simp [go_sem]; try (refine ⟨by kernel_rfl,?_⟩))))
     (repeat refine And.intro (by first | omega | (unfold maxLen; omega) | kernel_rfl | (refine ⟨by first | omega | (unfold maxLen; omega),by first | omega | (unfold maxLen; omega)⟩) | grind) ?_)
     (repeat (refine aB q8x0 hX mixed rfl ?_; (simp [go_sem]; try (refine ⟨by kernel_rfl,?_⟩))))
     refine ⟨1,by omega,by omega,?_⟩
     show Ab.Sub X ⟨mkE [(2,il [0,1,2,3,4]),(7,.el 0 5 0 0),(24,.sl [cn ⟨2,0,n0⟩,cn ⟨0,2,n1⟩,cn ⟨1,2,n2⟩,cn ⟨2,1,n3⟩,cn ⟨0,1,n4⟩,cn ⟨3,2,n5⟩,cn ⟨2,3,n6⟩,cn ⟨4,2,n7⟩,cn ⟨2,4,n8⟩,cn ⟨3,4,n9⟩]),(25,ii 10),(26,ii 1)],[.row ⟨113,5,[.agg [.sl [cn ⟨2,0,n0⟩,cn ⟨0,2,n1⟩,cn ⟨1,2,n2⟩,cn ⟨2,1,n3⟩,cn ⟨0,1,n4⟩,cn ⟨3,2,n5⟩,cn ⟨2,3,n6⟩,cn ⟨4,2,n7⟩,cn ⟨2,4,n8⟩,cn ⟨3,4,n9⟩],.ow 1,.ow 2,.ow 3,.ow 4]]⟩,.row ⟨40,1,[.ow 5,.nil,.nil,.nil,.nil]⟩,.row ⟨3,1,([0,0,0,0,0] : List Int).map ii⟩,.row ⟨3,1,([-1,-1,-1,-1,-1] : List Int).map ii⟩,.row ⟨4,1,[bb false,bb false,bb false,bb false,bb false]⟩,rowI [0]]⟩ _
     refine aM _ [.old 0 ⟨113,5,[.agg [.sl [cn ⟨2,0,n0⟩,cn ⟨0,2,n1⟩,cn ⟨1,2,n2⟩,cn ⟨2,1,n3⟩,cn ⟨0,1,n4⟩,cn ⟨3,2,n5⟩,cn ⟨2,3,n6⟩,cn ⟨4,2,n7⟩,cn ⟨2,4,n8⟩,cn ⟨3,4,n9⟩],.ow 1,.ow 2,.ow 3,.ow 4]]⟩,.old 1 ⟨40,1,[.ow 5,.nil,.nil,.nil,.nil]⟩,.old 2 ⟨3,1,([0,0,0,0,0] : List Int).map ii⟩,.old 3 ⟨3,1,([-1,-1,-1,-1,-1] : List Int).map ii⟩,.old 4 ⟨4,1,[bb false,bb false,bb false,bb false,bb false]⟩,.old 7 ⟨3,1,([0] : List Int).map ii⟩] (by simp [go_sem]) ?_
     simp [go_sem]
     try decide
   · show AWP Tryz.prog X _ _ ⟨mkE [(2,il [0,1,2,3,4]),(7,.el 0 5 0 0),(24,.sl [cn ⟨2,0,n0⟩,cn ⟨0,2,n1⟩,cn ⟨1,2,n2⟩,cn ⟨2,1,n3⟩,cn ⟨0,1,n4⟩,cn ⟨3,2,n5⟩,cn ⟨2,3,n6⟩,cn ⟨4,2,n7⟩,cn ⟨2,4,n8⟩,cn ⟨3,4,n9⟩]),(25,ii 10),(26,ii 1)],[.row ⟨113,5,[.agg [.sl [cn ⟨2,0,n0⟩,cn ⟨0,2,n1⟩,cn ⟨1,2,n2⟩,cn ⟨2,1,n3⟩,cn ⟨0,1,n4⟩,cn ⟨3,2,n5⟩,cn ⟨2,3,n6⟩,cn ⟨4,2,n7⟩,cn ⟨2,4,n8⟩,cn ⟨3,4,n9⟩],.ow 1,.ow 2,.ow 3,.ow 4]]⟩,.row ⟨40,1,[.ow 5,.nil,.nil,.nil,.nil]⟩,.row ⟨3,1,([0,0,0,0,0] : List Int).map ii⟩,.row ⟨3,1,([-1,-1,-1,-1,-1] : List Int).map ii⟩,.row ⟨4,1,[bb false,bb false,bb false,bb false,bb false]⟩,rowI [0]]⟩
     (repeat (refine aB q8x0 hX mixed rfl ?_; (simp [go_sem]; try (refine ⟨by kernel_rfl,?_⟩))))
     refine aC (b :=true) (by simp [go_sem]) (fun hb => ?_) (fun hb => by cases hb)
     (repeat (refine aB q8x0 hX mixed rfl ?_; (simp [go_sem]; try (refine ⟨by kernel_rfl,?_⟩))))
     (repeat refine And.intro (by first | omega | (unfold maxLen; omega) | kernel_rfl | (refine ⟨by first | omega | (unfold maxLen; omega),by first | omega | (unfold maxLen; omega)⟩) | grind) ?_)
     (repeat (refine aB q8x0 hX mixed rfl ?_; (simp [go_sem]; try (refine ⟨by kernel_rfl,?_⟩))))
     refine ⟨2,by omega,by omega,?_⟩
     show Ab.Sub X ⟨mkE [(2,il [0,1,2,3,4]),(7,.el 0 5 0 0),(24,.sl [cn ⟨2,0,n0⟩,cn ⟨0,2,n1⟩,cn ⟨1,2,n2⟩,cn ⟨2,1,n3⟩,cn ⟨0,1,n4⟩,cn ⟨3,2,n5⟩,cn ⟨2,3,n6⟩,cn ⟨4,2,n7⟩,cn ⟨2,4,n8⟩,cn ⟨3,4,n9⟩]),(25,ii 10),(26,ii 2)],[.row ⟨113,5,[.agg [.sl [cn ⟨2,0,n0⟩,cn ⟨0,2,n1⟩,cn ⟨1,2,n2⟩,cn ⟨2,1,n3⟩,cn ⟨0,1,n4⟩,cn ⟨3,2,n5⟩,cn ⟨2,3,n6⟩,cn ⟨4,2,n7⟩,cn ⟨2,4,n8⟩,cn ⟨3,4,n9⟩],.ow 1,.ow 2,.ow 3,.ow 4]]⟩,.row ⟨40,1,[.ow 5,.nil,.ow 6,.nil,.nil]⟩,.row ⟨3,1,([0,0,0,0,0] : List Int).map ii⟩,.row ⟨3,1,([-1,-1,-1,-1,-1] : List Int).map ii⟩,.row ⟨4,1,[bb false,bb false,bb false,bb false,bb false]⟩,rowI [0],rowI [1]]⟩ _
     refine aM _ [.old 0 ⟨113,5,[.agg [.sl [cn ⟨2,0,n0⟩,cn ⟨0,2,n1⟩,cn ⟨1,2,n2⟩,cn ⟨2,1,n3⟩,cn ⟨0,1,n4⟩,cn ⟨3,2,n5⟩,cn ⟨2,3,n6⟩,cn ⟨4,2,n7⟩,cn ⟨2,4,n8⟩,cn ⟨3,4,n9⟩],.ow 1,.ow 2,.ow 3,.ow 4]]⟩,.old 1 ⟨40,1,[.ow 5,.nil,.ow 6,.nil,.nil]⟩,.old 2 ⟨3,1,([0,0,0,0,0] : List Int).map ii⟩,.old 3 ⟨3,1,([-1,-1,-1,-1,-1] : List Int).map ii⟩,.old 4 ⟨4,1,[bb false,bb false,bb false,bb false,bb false]⟩,.old 5 ⟨3,1,([0] : List Int).map ii⟩,.old 8 ⟨3,1,([1] : List Int).map ii⟩] (by simp [go_sem]) ?_
     simp [go_sem]
     try decide
   · show AWP Tryz.prog X _ _ ⟨mkE [(2,il [0,1,2,3,4]),(7,.el 0 5 0 0),(24,.sl [cn ⟨2,0,n0⟩,cn ⟨0,2,n1⟩,cn ⟨1,2,n2⟩,cn ⟨2,1,n3⟩,cn ⟨0,1,n4⟩,cn ⟨3,2,n5⟩,cn ⟨2,3,n6⟩,cn ⟨4,2,n7⟩,cn ⟨2,4,n8⟩,cn ⟨3,4,n9⟩]),(25,ii 10),(26,ii 2)],[.row ⟨113,5,[.agg [.sl [cn ⟨2,0,n0⟩,cn ⟨0,2,n1⟩,cn ⟨1,2,n2⟩,cn ⟨2,1,n3⟩,cn ⟨0,1,n4⟩,cn ⟨3,2,n5⟩,cn ⟨2,3,n6⟩,cn ⟨4,2,n7⟩,cn ⟨2,4,n8⟩,cn ⟨3,4,n9⟩],.ow 1,.ow 2,.ow 3,.ow 4]]⟩,.row ⟨40,1,[.ow 5,.nil,.ow 6,.nil,.nil]⟩,.row ⟨3,1,([0,0,0,0,0] : List Int).map ii⟩,.row ⟨3,1,([-1,-1,-1,-1,-1] : List Int).map ii⟩,.row ⟨4,1,[bb false,bb false,bb false,bb false,bb false]⟩,rowI [0],rowI [1]]⟩
     (repeat (refine aB q8x0 hX mixed rfl ?_; (simp [go_sem]; try (refine ⟨by kernel_rfl,?_⟩))))
     refine aC (b :=true) (by simp [go_sem]) (fun hb => ?_) (fun hb => by cases hb)
     (repeat (refine aB q8x0 hX mixed rfl ?_; (simp [go_sem]; try (refine ⟨by kernel_rfl,?_⟩))))
     (repeat refine And.intro (by first | omega | (unfold maxLen; omega) | kernel_rfl | (refine ⟨by first | omega | (unfold maxLen; omega),by first | omega | (unfold maxLen; omega)⟩) | grind) ?_)
     (repeat (refine aB q8x0 hX mixed rfl ?_; (simp [go_sem]; try (refine ⟨by kernel_rfl,?_⟩))))
     refine ⟨3,by omega,by omega,?_⟩
     show Ab.Sub X ⟨mkE [(2,il [0,1,2,3,4]),(7,.el 0 5 0 0),(24,.sl [cn ⟨2,0,n0⟩,cn ⟨0,2,n1⟩,cn ⟨1,2,n2⟩,cn ⟨2,1,n3⟩,cn ⟨0,1,n4⟩,cn ⟨3,2,n5⟩,cn ⟨2,3,n6⟩,cn ⟨4,2,n7⟩,cn ⟨2,4,n8⟩,cn ⟨3,4,n9⟩]),(25,ii 10),(26,ii 3)],[.row ⟨113,5,[.agg [.sl [cn ⟨2,0,n0⟩,cn ⟨0,2,n1⟩,cn ⟨1,2,n2⟩,cn ⟨2,1,n3⟩,cn ⟨0,1,n4⟩,cn ⟨3,2,n5⟩,cn ⟨2,3,n6⟩,cn ⟨4,2,n7⟩,cn ⟨2,4,n8⟩,cn ⟨3,4,n9⟩],.ow 1,.ow 2,.ow 3,.ow 4]]⟩,.row ⟨40,1,[.ow 5,.nil,.ow 6,.nil,.nil]⟩,.row ⟨3,1,([0,0,0,0,0] : List Int).map ii⟩,.row ⟨3,1,([-1,-1,-1,-1,-1] : List Int).map ii⟩,.row ⟨4,1,[bb false,bb false,bb false,bb false,bb false]⟩,rowI [0],rowI [1,2]]⟩ _
     refine aM _ [.old 0 ⟨113,5,[.agg [.sl [cn ⟨2,0,n0⟩,cn ⟨0,2,n1⟩,cn ⟨1,2,n2⟩,cn ⟨2,1,n3⟩,cn ⟨0,1,n4⟩,cn ⟨3,2,n5⟩,cn ⟨2,3,n6⟩,cn ⟨4,2,n7⟩,cn ⟨2,4,n8⟩,cn ⟨3,4,n9⟩],.ow 1,.ow 2,.ow 3,.ow 4]]⟩,.old 1 ⟨40,1,[.ow 5,.nil,.ow 6,.nil,.nil]⟩,.old 2 ⟨3,1,([0,0,0,0,0] : List Int).map ii⟩,.old 3 ⟨3,1,([-1,-1,-1,-1,-1] : List Int).map ii⟩,.old 4 ⟨4,1,[bb false,bb false,bb false,bb false,bb false]⟩,.old 5 ⟨3,1,([0] : List Int).map ii⟩,.old 9 ⟨3,1,([1,2] : List Int).map ii⟩] (by simp [go_sem]) ?_
     simp [go_sem]
     try decide
   · show AWP Tryz.prog X _ _ ⟨mkE [(2,il [0,1,2,3,4]),(7,.el 0 5 0 0),(24,.sl [cn ⟨2,0,n0⟩,cn ⟨0,2,n1⟩,cn ⟨1,2,n2⟩,cn ⟨2,1,n3⟩,cn ⟨0,1,n4⟩,cn ⟨3,2,n5⟩,cn ⟨2,3,n6⟩,cn ⟨4,2,n7⟩,cn ⟨2,4,n8⟩,cn ⟨3,4,n9⟩]),(25,ii 10),(26,ii 3)],[.row ⟨113,5,[.agg [.sl [cn ⟨2,0,n0⟩,cn ⟨0,2,n1⟩,cn ⟨1,2,n2⟩,cn ⟨2,1,n3⟩,cn ⟨0,1,n4⟩,cn ⟨3,2,n5⟩,cn ⟨2,3,n6⟩,cn ⟨4,2,n7⟩,cn ⟨2,4,n8⟩,cn ⟨3,4,n9⟩],.ow 1,.ow 2,.ow 3,.ow 4]]⟩,.row ⟨40,1,[.ow 5,.nil,.ow 6,.nil,.nil]⟩,.row ⟨3,1,([0,0,0,0,0] : List Int).map ii⟩,.row ⟨3,1,([-1,-1,-1,-1,-1] : List Int).map ii⟩,.row ⟨4,1,[bb false,bb false,bb false,bb false,bb false]⟩,rowI [0],rowI [1,2]]⟩
     (repeat (refine aB q8x0 hX mixed rfl ?_; (simp [go_sem]; try (refine ⟨by kernel_rfl,?_⟩))))
     refine aC (b :=true) (by simp [go_sem]) (fun hb => ?_) (fun hb => by cases hb)
     (repeat (refine aB q8x0 hX mixed rfl ?_; (simp [go_sem]; try (refine ⟨by kernel_rfl,?_⟩))))
     (repeat refine And.intro (by first | omega | (unfold maxLen; omega) | kernel_rfl | (refine ⟨by first | omega | (unfold maxLen; omega),by first | omega | (unfold maxLen; omega)⟩) | grind) ?_)
     (repeat (refine aB q8x0 hX mixed rfl ?_; (simp [go_sem]; try (refine ⟨by kernel_rfl,?_⟩))))
     refine ⟨4,by omega,by omega,?_⟩
     show Ab.Sub X ⟨mkE [(2,il [0,1,2,3,4]),(7,.el 0 5 0 0),(24,.sl [cn ⟨2,0,n0⟩,cn ⟨0,2,n1⟩,cn ⟨1,2,n2⟩,cn ⟨2,1,n3⟩,cn ⟨0,1,n4⟩,cn ⟨3,2,n5⟩,cn ⟨2,3,n6⟩,cn ⟨4,2,n7⟩,cn ⟨2,4,n8⟩,cn ⟨3,4,n9⟩]),(25,ii 10),(26,ii 4)],[.row ⟨113,5,[.agg [.sl [cn ⟨2,0,n0⟩,cn ⟨0,2,n1⟩,cn ⟨1,2,n2⟩,cn ⟨2,1,n3⟩,cn ⟨0,1,n4⟩,cn ⟨3,2,n5⟩,cn ⟨2,3,n6⟩,cn ⟨4,2,n7⟩,cn ⟨2,4,n8⟩,cn ⟨3,4,n9⟩],.ow 1,.ow 2,.ow 3,.ow 4]]⟩,.row ⟨40,1,[.ow 5,.ow 7,.ow 6,.nil,.nil]⟩,.row ⟨3,1,([0,0,0,0,0] : List Int).map ii⟩,.row ⟨3,1,([-1,-1,-1,-1,-1] : List Int).map ii⟩,.row ⟨4,1,[bb false,bb false,bb false,bb false,bb false]⟩,rowI [0],rowI [1,2],rowI [3]]⟩ _
     refine aM _ [.old 0 ⟨113,5,[.agg [.sl [cn ⟨2,0,n0⟩,cn ⟨0,2,n1⟩,cn ⟨1,2,n2⟩,cn ⟨2,1,n3⟩,cn ⟨0,1,n4⟩,cn ⟨3,2,n5⟩,cn ⟨2,3,n6⟩,cn ⟨4,2,n7⟩,cn ⟨2,4,n8⟩,cn ⟨3,4,n9⟩],.ow 1,.ow 2,.ow 3,.ow 4]]⟩,.old 1 ⟨40,1,[.ow 5,.ow 7,.ow 6,.nil,.nil]⟩,.old 2 ⟨3,1,([0,0,0,0,0] : List Int).map ii⟩,.old 3 ⟨3,1,([-1,-1,-1,-1,-1] : List Int).map ii⟩,.old 4 ⟨4,1,[bb false,bb false,bb false,bb false,bb false]⟩,.old 5 ⟨3,1,([0] : List Int).map ii⟩,.old 6 ⟨3,1,([1,2] : List Int).map ii⟩,.old 9 ⟨3,1,([3] : List Int).map ii⟩] (by simp [go_sem]) ?_
     simp [go_sem]
     try decide
   · show AWP Tryz.prog X _ _ ⟨mkE [(2,il [0,1,2,3,4]),(7,.el 0 5 0 0),(24,.sl [cn ⟨2,0,n0⟩,cn ⟨0,2,n1⟩,cn ⟨1,2,n2⟩,cn ⟨2,1,n3⟩,cn ⟨0,1,n4⟩,cn ⟨3,2,n5⟩,cn ⟨2,3,n6⟩,cn ⟨4,2,n7⟩,cn ⟨2,4,n8⟩,cn ⟨3,4,n9⟩]),(25,ii 10),(26,ii 4)],[.row ⟨113,5,[.agg [.sl [cn ⟨2,0,n0⟩,cn ⟨0,2,n1⟩,cn ⟨1,2,n2⟩,cn ⟨2,1,n3⟩,cn ⟨0,1,n4⟩,cn ⟨3,2,n5⟩,cn ⟨2,3,n6⟩,cn ⟨4,2,n7⟩,cn ⟨2,4,n8⟩,cn ⟨3,4,n9⟩],.ow 1,.ow 2,.ow 3,.ow 4]]⟩,.row ⟨40,1,[.ow 5,.ow 7,.ow 6,.nil,.nil]⟩,.row ⟨3,1,([0,0,0,0,0] : List Int).map ii⟩,.row ⟨3,1,([-1,-1,-1,-1,-1] : List Int).map ii⟩,.row ⟨4,1,[bb false,bb false,bb false,bb false,bb false]⟩,rowI [0],rowI [1,2],rowI [3]]⟩
     (repeat (refine aB q8x0 hX mixed rfl ?_; (simp [go_sem]; try (refine ⟨by kernel_rfl,?_⟩))))
     refine aC (b :=true) (by simp [go_sem]) (fun hb => ?_) (fun hb => by cases hb)
     (repeat (refine aB q8x0 hX mixed rfl ?_; (simp [go_sem]; try (refine ⟨by kernel_rfl,?_⟩))))
     (repeat refine And.intro (by first | omega | (unfold maxLen; omega) | kernel_rfl | (refine ⟨by first | omega | (unfold maxLen; omega),by first | omega | (unfold maxLen; omega)⟩) | grind) ?_)
     (repeat (refine aB q8x0 hX mixed rfl ?_; (simp [go_sem]; try (refine ⟨by kernel_rfl,?_⟩))))
     refine ⟨5,by omega,by omega,?_⟩
     show Ab.Sub X ⟨mkE [(2,il [0,1,2,3,4]),(7,.el 0 5 0 0),(24,.sl [cn ⟨2,0,n0⟩,cn ⟨0,2,n1⟩,cn ⟨1,2,n2⟩,cn ⟨2,1,n3⟩,cn ⟨0,1,n4⟩,cn ⟨3,2,n5⟩,cn ⟨2,3,n6⟩,cn ⟨4,2,n7⟩,cn ⟨2,4,n8⟩,cn ⟨3,4,n9⟩]),(25,ii 10),(26,ii 5)],[.row ⟨113,5,[.agg [.sl [cn ⟨2,0,n0⟩,cn ⟨0,2,n1⟩,cn ⟨1,2,n2⟩,cn ⟨2,1,n3⟩,cn ⟨0,1,n4⟩,cn ⟨3,2,n5⟩,cn ⟨2,3,n6⟩,cn ⟨4,2,n7⟩,cn ⟨2,4,n8⟩,cn ⟨3,4,n9⟩],.ow 1,.ow 2,.ow 3,.ow 4]]⟩,.row ⟨40,1,[.ow 5,.ow 7,.ow 6,.nil,.nil]⟩,.row ⟨3,1,([0,0,0,0,0] : List Int).map ii⟩,.row ⟨3,1,([-1,-1,-1,-1,-1] : List Int).map ii⟩,.row ⟨4,1,[bb false,bb false,bb false,bb false,bb false]⟩,rowI [0],rowI [1,2],rowI [3,4]]⟩ _
     refine aM _ [.old 0 ⟨113,5,[.agg [.sl [cn ⟨2,0,n0⟩,cn ⟨0,2,n1⟩,cn ⟨1,2,n2⟩,cn ⟨2,1,n3⟩,cn ⟨0,1,n4⟩,cn ⟨3,2,n5⟩,cn ⟨2,3,n6⟩,cn ⟨4,2,n7⟩,cn ⟨2,4,n8⟩,cn ⟨3,4,n9⟩],.ow 1,.ow 2,.ow 3,.ow 4]]⟩,.old 1 ⟨40,1,[.ow 5,.ow 7,.ow 6,.nil,.nil]⟩,.old 2 ⟨3,1,([0,0,0,0,0] : List Int).map ii⟩,.old 3 ⟨3,1,([-1,-1,-1,-1,-1] : List Int).map ii⟩,.old 4 ⟨4,1,[bb false,bb false,bb false,bb false,bb false]⟩,.old 5 ⟨3,1,([0] : List Int).map ii⟩,.old 6 ⟨3,1,([1,2] : List Int).map ii⟩,.old 10 ⟨3,1,([3,4] : List Int).map ii⟩] (by simp [go_sem]) ?_
     simp [go_sem]
     try decide
   · show AWP Tryz.prog X _ _ ⟨mkE [(2,il [0,1,2,3,4]),(7,.el 0 5 0 0),(24,.sl [cn ⟨2,0,n0⟩,cn ⟨0,2,n1⟩,cn ⟨1,2,n2⟩,cn ⟨2,1,n3⟩,cn ⟨0,1,n4⟩,cn ⟨3,2,n5⟩,cn ⟨2,3,n6⟩,cn ⟨4,2,n7⟩,cn ⟨2,4,n8⟩,cn ⟨3,4,n9⟩]),(25,ii 10),(26,ii 5)],[.row ⟨113,5,[.agg [.sl [cn ⟨2,0,n0⟩,cn ⟨0,2,n1⟩,cn ⟨1,2,n2⟩,cn ⟨2,1,n3⟩,cn ⟨0,1,n4⟩,cn ⟨3,2,n5⟩,cn ⟨2,3,n6⟩,cn ⟨4,2,n7⟩,cn ⟨2,4,n8⟩,cn ⟨3,4,n9⟩],.ow 1,.ow 2,.ow 3,.ow 4]]⟩,.row ⟨40,1,[.ow 5,.ow 7,.ow 6,.nil,.nil]⟩,.row ⟨3,1,([0,0,0,0,0] : List Int).map ii⟩,.row ⟨3,1,([-1,-1,-1,-1,-1] : List Int).map ii⟩,.row ⟨4,1,[bb false,bb false,bb false,bb false,bb false]⟩,rowI [0],rowI [1,2],rowI [3,4]]⟩
     (repeat (refine aB q8x0 hX mixed rfl ?_; (simp [go_sem]; try (refine ⟨by kernel_rfl,?_⟩))))
     refine aC (b :=true) (by simp [go_sem]) (fun hb => ?_) (fun hb => by cases hb)
     (repeat (refine aB q8x0 hX mixed rfl ?_; (simp [go_sem]; try (refine ⟨by kernel_rfl,?_⟩))))
     (repeat refine And.intro (by first | omega | (unfold maxLen; omega) | kernel_rfl | (refine ⟨by first | omega | (unfold maxLen; omega),by first | omega | (unfold maxLen; omega)⟩) | grind) ?_)
     (repeat (refine aB q8x0 hX mixed rfl ?_; (simp [go_sem]; try (refine ⟨by kernel_rfl,?_⟩))))
     refine ⟨6,by omega,by omega,?_⟩
     show Ab.Sub X ⟨mkE [(2,il [0,1,2,3,4]),(7,.el 0 5 0 0),(24,.sl [cn ⟨2,0,n0⟩,cn ⟨0,2,n1⟩,cn ⟨1,2,n2⟩,cn ⟨2,1,n3⟩,cn ⟨0,1,n4⟩,cn ⟨3,2,n5⟩,cn ⟨2,3,n6⟩,cn ⟨4,2,n7⟩,cn ⟨2,4,n8⟩,cn ⟨3,4,n9⟩]),(25,ii 10),(26,ii 6)],[.row ⟨113,5,[.agg [.sl [cn ⟨2,0,n0⟩,cn ⟨0,2,n1⟩,cn ⟨1,2,n2⟩,cn ⟨2,1,n3⟩,cn ⟨0,1,n4⟩,cn ⟨3,2,n5⟩,cn ⟨2,3,n6⟩,cn ⟨4,2,n7⟩,cn ⟨2,4,n8⟩,cn ⟨3,4,n9⟩],.ow 1,.ow 2,.ow 3,.ow 4]]⟩,.row ⟨40,1,[.ow 5,.ow 7,.ow 6,.nil,.nil]⟩,.row ⟨3,1,([0,0,0,0,0] : List Int).map ii⟩,.row ⟨3,1,([-1,-1,-1,-1,-1] : List Int).map ii⟩,.row ⟨4,1,[bb false,bb false,bb false,bb false,bb false]⟩,rowI [0],rowI [1,2,5],rowI [3,4]]⟩ _
     refine aM _ [.old 0 ⟨113,5,[.agg [.sl [cn ⟨2,0,n0⟩,cn ⟨0,2,n1⟩,cn ⟨1,2,n2⟩,cn ⟨2,1,n3⟩,cn ⟨0,1,n4⟩,cn ⟨3,2,n5⟩,cn ⟨2,3,n6⟩,cn ⟨4,2,n7⟩,cn ⟨2,4,n8⟩,cn ⟨3,4,n9⟩],.ow 1,.ow 2,.ow 3,.ow 4]]⟩,.old 1 ⟨40,1,[.ow 5,.ow 7,.ow 6,.nil,.nil]⟩,.old 2 ⟨3,1,([0,0,0,0,0] : List Int).map ii⟩,.old 3 ⟨3,1,([-1,-1,-1,-1,-1] : List Int).map ii⟩,.old 4 ⟨4,1,[bb false,bb false,bb false,bb false,bb false]⟩,.old 5 ⟨3,1,([0] : List Int).map ii⟩,.old 10 ⟨3,1,([1,2,5] : List Int).map ii⟩,.old 7 ⟨3,1,([3,4] : List Int).map ii⟩] (by simp [go_sem]) ?_
     simp [go_sem]
     try decide
   · show AWP Tryz.prog X _ _ ⟨mkE [(2,il [0,1,2,3,4]),(7,.el 0 5 0 0),(24,.sl [cn ⟨2,0,n0⟩,cn ⟨0,2,n1⟩,cn ⟨1,2,n2⟩,cn ⟨2,1,n3⟩,cn ⟨0,1,n4⟩,cn ⟨3,2,n5⟩,cn ⟨2,3,n6⟩,cn ⟨4,2,n7⟩,cn ⟨2,4,n8⟩,cn ⟨3,4,n9⟩]),(25,ii 10),(26,ii 6)],[.row ⟨113,5,[.agg [.sl [cn ⟨2,0,n0⟩,cn ⟨0,2,n1⟩,cn ⟨1,2,n2⟩,cn ⟨2,1,n3⟩,cn ⟨0,1,n4⟩,cn ⟨3,2,n5⟩,cn ⟨2,3,n6⟩,cn ⟨4,2,n7⟩,cn ⟨2,4,n8⟩,cn ⟨3,4,n9⟩],.ow 1,.ow 2,.ow 3,.ow 4]]⟩,.row ⟨40,1,[.ow 5,.ow 7,.ow 6,.nil,.nil]⟩,.row ⟨3,1,([0,0,0,0,0] : List Int).map ii⟩,.row ⟨3,1,([-1,-1,-1,-1,-1] : List Int).map ii⟩,.row ⟨4,1,[bb false,bb false,bb false,bb false,bb false]⟩,rowI [0],rowI [1,2,5],rowI [3,4]]⟩
     (repeat (refine aB q8x0 hX mixed rfl ?_; (simp [go_sem]; try (refine ⟨by kernel_rfl,?_⟩))))
     refine aC (b :=true) (by simp [go_sem]) (fun hb => ?_) (fun hb => by cases hb)
     (repeat (refine aB q8x0 hX mixed rfl ?_; (simp [go_sem]; try (refine ⟨by kernel_rfl,?_⟩))))
     (repeat refine And.intro (by first | omega | (unfold maxLen; omega) | kernel_rfl | (refine ⟨by first | omega | (unfold maxLen; omega),by first | omega | (unfold maxLen; omega)⟩) | grind) ?_)
     (repeat (refine aB q8x0 hX mixed rfl ?_; (simp [go_sem]; try (refine ⟨by kernel_rfl,?_⟩))))
     refine ⟨7,by omega,by omega,?_⟩
     show Ab.Sub X ⟨mkE [(2,il [0,1,2,3,4]),(7,.el 0 5 0 0),(24,.sl [cn ⟨2,0,n0⟩,cn ⟨0,2,n1⟩,cn ⟨1,2,n2⟩,cn ⟨2,1,n3⟩,cn ⟨0,1,n4⟩,cn ⟨3,2,n5⟩,cn ⟨2,3,n6⟩,cn ⟨4,2,n7⟩,cn ⟨2,4,n8⟩,cn ⟨3,4,n9⟩]),(25,ii 10),(26,ii 7)],[.row ⟨113,5,[.agg [.sl [cn ⟨2,0,n0⟩,cn ⟨0,2,n1⟩,cn ⟨1,2,n2⟩,cn ⟨2,1,n3⟩,cn ⟨0,1,n4⟩,cn ⟨3,2,n5⟩,cn ⟨2,3,n6⟩,cn ⟨4,2,n7⟩,cn ⟨2,4,n8⟩,cn ⟨3,4,n9⟩],.ow 1,.ow 2,.ow 3,.ow 4]]⟩,.row ⟨40,1,[.ow 5,.ow 7,.ow 6,.ow 8,.nil]⟩,.row ⟨3,1,([0,0,0,0,0] : List Int).map ii⟩,.row ⟨3,1,([-1,-1,-1,-1,-1] : List Int).map ii⟩,.row ⟨4,1,[bb false,bb false,bb false,bb false,bb false]⟩,rowI [0],rowI [1,2,5],rowI [3,4],rowI [6]]⟩ _
     refine aM _ [.old 0 ⟨113,5,[.agg [.sl [cn ⟨2,0,n0⟩,cn ⟨0,2,n1⟩,cn ⟨1,2,n2⟩,cn ⟨2,1,n3⟩,cn ⟨0,1,n4⟩,cn ⟨3,2,n5⟩,cn ⟨2,3,n6⟩,cn ⟨4,2,n7⟩,cn ⟨2,4,n8⟩,cn ⟨3,4,n9⟩],.ow 1,.ow 2,.ow 3,.ow 4]]⟩,.old 1 ⟨40,1,[.ow 5,.ow 7,.ow 6,.ow 8,.nil]⟩,.old 2 ⟨3,1,([0,0,0,0,0] : List Int).map ii⟩,.old 3 ⟨3,1,([-1,-1,-1,-1,-1] : List Int).map ii⟩,.old 4 ⟨4,1,[bb false,bb false,bb false,bb false,bb false]⟩,.old 5 ⟨3,1,([0] : List Int).map ii⟩,.old 6 ⟨3,1,([1,2,5] : List Int).map ii⟩,.old 7 ⟨3,1,([3,4] : List Int).map ii⟩,.old 10 ⟨3,1,([6] : List Int).map ii⟩] (by simp [go_sem]) ?_
     simp [go_sem]
     try decide
   · show AWP Tryz.prog X _ _ ⟨mkE [(2,il [0,1,2,3,4]),(7,.el 0 5 0 0),(24,.sl [cn ⟨2,0,n0⟩,cn ⟨0,2,n1⟩,cn ⟨1,2,n2⟩,cn ⟨2,1,n3⟩,cn ⟨0,1,n4⟩,cn ⟨3,2,n5⟩,cn ⟨2,3,n6⟩,cn ⟨4,2,n7⟩,cn ⟨2,4,n8⟩,cn ⟨3,4,n9⟩]),(25,ii 10),(26,ii 7)],[.row ⟨113,5,[.agg [.sl [cn ⟨2,0,n0⟩,cn ⟨0,2,n1⟩,cn ⟨1,2,n2⟩,cn ⟨2,1,n3⟩,cn ⟨0,1,n4⟩,cn ⟨3,2,n5⟩,cn ⟨2,3,n6⟩,cn ⟨4,2,n7⟩,cn ⟨2,4,n8⟩,cn ⟨3,4,n9⟩],.ow 1,.ow 2,.ow 3,.ow 4]]⟩,.row ⟨40,1,[.ow 5,.ow 7,.ow 6,.ow 8,.nil]⟩,.row ⟨3,1,([0,0,0,0,0] : List Int).map ii⟩,.row ⟨3,1,([-1,-1,-1,-1,-1] : List Int).map ii⟩,.row ⟨4,1,[bb false,bb false,bb false,bb false,bb false]⟩,rowI [0],rowI [1,2,5],rowI [3,4],rowI [6]]⟩
     (repeat (refine aB q8x0 hX mixed rfl ?_; (simp [go_sem]; try (refine ⟨by kernel_rfl,?_⟩))))
     refine aC (b :=true) (by simp [go_sem]) (fun hb => ?_) (fun hb => by cases hb)
     (repeat (refine aB q8x0 hX mixed rfl ?_; (simp [go_sem]; try (refine ⟨by kernel_rfl,?_⟩))))
     (repeat refine And.intro (by first | omega | (unfold maxLen; omega) | kernel_rfl | (refine ⟨by first | omega | (unfold maxLen; omega),by first | omega | (unfold maxLen; omega)⟩) | grind) ?_)
     (repeat (refine aB q8x0 hX mixed rfl ?_; (simp [go_sem]; try (refine ⟨by kernel_rfl,?_⟩))))
     refine ⟨8,by omega,by omega,?_⟩
     show Ab.Sub X ⟨mkE [(2,il [0,1,2,3,4]),(7,.el 0 5 0 0),(24,.sl [cn ⟨2,0,n0⟩,cn ⟨0,2,n1⟩,cn ⟨1,2,n2⟩,cn ⟨2,1,n3⟩,cn ⟨0,1,n4⟩,cn ⟨3,2,n5⟩,cn ⟨2,3,n6⟩,cn ⟨4,2,n7⟩,cn ⟨2,4,n8⟩,cn ⟨3,4,n9⟩]),(25,ii 10),(26,ii 8)],[.row ⟨113,5,[.agg [.sl [cn ⟨2,0,n0⟩,cn ⟨0,2,n1⟩,cn ⟨1,2,n2⟩,cn ⟨2,1,n3⟩,cn ⟨0,1,n4⟩,cn ⟨3,2,n5⟩,cn ⟨2,3,n6⟩,cn ⟨4,2,n7⟩,cn ⟨2,4,n8⟩,cn ⟨3,4,n9⟩],.ow 1,.ow 2,.ow 3,.ow 4]]⟩,.row ⟨40,1,[.ow 5,.ow 7,.ow 6,.ow 8,.nil]⟩,.row ⟨3,1,([0,0,0,0,0] : List Int).map ii⟩,.row ⟨3,1,([-1,-1,-1,-1,-1] : List Int).map ii⟩,.row ⟨4,1,[bb false,bb false,bb false,bb false,bb false]⟩,rowI [0],rowI [1,2,5,7],rowI [3,4],rowI [6]]⟩ _
     refine aM _ [.old 0 ⟨113,5,[.agg [.sl [cn ⟨2,0,n0⟩,cn ⟨0,2,n1⟩,cn ⟨1,2,n2⟩,cn ⟨2,1,n3⟩,cn ⟨0,1,n4⟩,cn ⟨3,2,n5⟩,cn ⟨2,3,n6⟩,cn ⟨4,2,n7⟩,cn ⟨2,4,n8⟩,cn ⟨3,4,n9⟩],.ow 1,.ow 2,.ow 3,.ow 4]]⟩,.old 1 ⟨40,1,[.ow 5,.ow 7,.ow 6,.ow 8,.nil]⟩,.old 2 ⟨3,1,([0,0,0,0,0] : List Int).map ii⟩,.old 3 ⟨3,1,([-1,-1,-1,-1,-1] : List Int).map ii⟩,.old 4 ⟨4,1,[bb false,bb false,bb false,bb false,bb false]⟩,.old 5 ⟨3,1,([0] : List Int).map ii⟩,.old 11 ⟨3,1,([1,2,5,7] : List Int).map ii⟩,.old 7 ⟨3,1,([3,4] : List Int).map ii⟩,.old 8 ⟨3,1,([6] : List Int).map ii⟩] (by simp [go_sem]) ?_
     simp [go_sem]
     try decide
   · show AWP Tryz.prog X _ _ ⟨mkE [(2,il [0,1,2,3,4]),(7,.el 0 5 0 0),(24,.sl [cn ⟨2,0,n0⟩,cn ⟨0,2,n1⟩,cn ⟨1,2,n2⟩,cn ⟨2,1,n3⟩,cn ⟨0,1,n4⟩,cn ⟨3,2,n5⟩,cn ⟨2,3,n6⟩,cn ⟨4,2,n7⟩,cn ⟨2,4,n8⟩,cn ⟨3,4,n9⟩]),(25,ii 10),(26,ii 8)],[.row ⟨113,5,[.agg [.sl [cn ⟨2,0,n0⟩,cn ⟨0,2,n1⟩,cn ⟨1,2,n2⟩,cn ⟨2,1,n3⟩,cn ⟨0,1,n4⟩,cn ⟨3,2,n5⟩,cn ⟨2,3,n6⟩,cn ⟨4,2,n7⟩,cn ⟨2,4,n8⟩,cn ⟨3,4,n9⟩],.ow 1,.ow 2,.ow 3,.ow 4]]⟩,.row ⟨40,1,[.ow 5,.ow 7,.ow 6,.ow 8,.nil]⟩,.row ⟨3,1,([0,0,0,0,0] : List Int).map ii⟩,.row ⟨3,1,([-1,-1,-1,-1,-1] : List Int).map ii⟩,.row ⟨4,1,[bb false,bb false,bb false,bb false,bb false]⟩,rowI [0],rowI [1,2,5,7],rowI [3,4],rowI [6]]⟩
     (repeat (refine aB q8x0 hX mixed rfl ?_; (simp [go_sem]; try (refine ⟨by kernel_rfl,?_⟩))))
     refine aC (b :=true) (by simp [go_sem]) (fun hb => ?_) (fun hb => by cases hb)
     (repeat (refine aB q8x0 hX mixed rfl ?_; (simp [go_sem]; try (refine ⟨by kernel_rfl,?_⟩))))
     (repeat refine And.intro (by first | omega | (unfold maxLen; omega) | kernel_rfl | (refine ⟨by first | omega | (unfold maxLen; omega),by first | omega | (unfold maxLen; omega)⟩) | grind) ?_)
     (repeat (refine aB q8x0 hX mixed rfl ?_; (simp [go_sem]; try (refine ⟨by kernel_rfl,?_⟩))))
     refine ⟨9,by omega,by omega,?_⟩
     show Ab.Sub X ⟨mkE [(2,il [0,1,2,3,4]),(7,.el 0 5 0 0),(24,.sl [cn ⟨2,0,n0⟩,cn ⟨0,2,n1⟩,cn ⟨1,2,n2⟩,cn ⟨2,1,n3⟩,cn ⟨0,1,n4⟩,cn ⟨3,2,n5⟩,cn ⟨2,3,n6⟩,cn ⟨4,2,n7⟩,cn ⟨2,4,n8⟩,cn ⟨3,4,n9⟩]),(25,ii 10),(26,ii 9)],[.row ⟨113,5,[.agg [.sl [cn ⟨2,0,n0⟩,cn ⟨0,2,n1⟩,cn ⟨1,2,n2⟩,cn ⟨2,1,n3⟩,cn ⟨0,1,n4⟩,cn ⟨3,2,n5⟩,cn ⟨2,3,n6⟩,cn ⟨4,2,n7⟩,cn ⟨2,4,n8⟩,cn ⟨3,4,n9⟩],.ow 1,.ow 2,.ow 3,.ow 4]]⟩,.row ⟨40,1,[.ow 5,.ow 7,.ow 6,.ow 8,.ow 9]⟩,.row ⟨3,1,([0,0,0,0,0] : List Int).map ii⟩,.row ⟨3,1,([-1,-1,-1,-1,-1] : List Int).map ii⟩,.row ⟨4,1,[bb false,bb false,bb false,bb false,bb false]⟩,rowI [0],rowI [1,2,5,7],rowI [3,4],rowI [6],rowI [8]]⟩ _
     refine aM _ [.old 0 ⟨113,5,[.agg [.sl [cn ⟨2,0,n0⟩,cn ⟨0,2,n1⟩,cn ⟨1,2,n2⟩,cn ⟨2,1,n3⟩,cn ⟨0,1,n4⟩,cn ⟨3,2,n5⟩,cn ⟨2,3,n6⟩,cn ⟨4,2,n7⟩,cn ⟨2,4,n8⟩,cn ⟨3,4,n9⟩],.ow 1,.ow 2,.ow 3,.ow 4]]⟩,.old 1 ⟨40,1,[.ow 5,.ow 7,.ow 6,.ow 8,.ow 9]⟩,.old 2 ⟨3,1,([0,0,0,0,0] : List Int).map ii⟩,.old 3 ⟨3,1,([-1,-1,-1,-1,-1] : List Int).map ii⟩,.old 4 ⟨4,1,[bb false,bb false,bb false,bb false,bb false]⟩,.old 5 ⟨3,1,([0] : List Int).map ii⟩,.old 6 ⟨3,1,([1,2,5,7] : List Int).map ii⟩,.old 7 ⟨3,1,([3,4] : List Int).map ii⟩,.old 8 ⟨3,1,([6] : List Int).map ii⟩,.old 11 ⟨3,1,([8] : List Int).map ii⟩] (by simp [go_sem]) ?_
     simp [go_sem]
     try decide
   · show AWP Tryz.prog X _ _ ⟨mkE [(2,il [0,1,2,3,4]),(7,.el 0 5 0 0),(24,.sl [cn ⟨2,0,n0⟩,cn ⟨0,2,n1⟩,cn ⟨1,2,n2⟩,cn ⟨2,1,n3⟩,cn ⟨0,1,n4⟩,cn ⟨3,2,n5⟩,cn ⟨2,3,n6⟩,cn ⟨4,2,n7⟩,cn ⟨2,4,n8⟩,cn ⟨3,4,n9⟩]),(25,ii 10),(26,ii 9)],[.row ⟨113,5,[.agg [.sl [cn ⟨2,0,n0⟩,cn ⟨0,2,n1⟩,cn ⟨1,2,n2⟩,cn ⟨2,1,n3⟩,cn ⟨0,1,n4⟩,cn ⟨3,2,n5⟩,cn ⟨2,3,n6⟩,cn ⟨4,2,n7⟩,cn ⟨2,4,n8⟩,cn ⟨3,4,n9⟩],.ow 1,.ow 2,.ow 3,.ow 4]]⟩,.row ⟨40,1,[.ow 5,.ow 7,.ow 6,.ow 8,.ow 9]⟩,.row ⟨3,1,([0,0,0,0,0] : List Int).map ii⟩,.row ⟨3,1,([-1,-1,-1,-1,-1] : List Int).map ii⟩,.row ⟨4,1,[bb false,bb false,bb false,bb false,bb false]⟩,rowI [0],rowI [1,2,5,7],rowI [3,4],rowI [6],rowI [8]]⟩
     (repeat (refine aB q8x0 hX mixed rfl ?_; (simp [go_sem]; try (refine ⟨by kernel_rfl,?_⟩))))
     refine aC (b :=true) (by simp [go_sem]) (fun hb => ?_) (fun hb => by cases hb)
     (repeat (refine aB q8x0 hX mixed rfl ?_; (simp [go_sem]; try (refine ⟨by kernel_rfl,?_⟩))))
     (repeat refine And.intro (by first | omega | (unfold maxLen; omega) | kernel_rfl | (refine ⟨by first | omega | (unfold maxLen; omega),by first | omega | (unfold maxLen; omega)⟩) | grind) ?_)
     (repeat (refine aB q8x0 hX mixed rfl ?_; (simp [go_sem]; try (refine ⟨by kernel_rfl,?_⟩))))
     refine ⟨10,by omega,by omega,?_⟩
     show Ab.Sub X ⟨mkE [(2,il [0,1,2,3,4]),(7,.el 0 5 0 0),(24,.sl [cn ⟨2,0,n0⟩,cn ⟨0,2,n1⟩,cn ⟨1,2,n2⟩,cn ⟨2,1,n3⟩,cn ⟨0,1,n4⟩,cn ⟨3,2,n5⟩,cn ⟨2,3,n6⟩,cn ⟨4,2,n7⟩,cn ⟨2,4,n8⟩,cn ⟨3,4,n9⟩]),(25,ii 10),(26,ii 10)],[.row ⟨113,5,[.agg [.sl [cn ⟨2,0,n0⟩,cn ⟨0,2,n1⟩,cn ⟨1,2,n2⟩,cn ⟨2,1,n3⟩,cn ⟨0,1,n4⟩,cn ⟨3,2,n5⟩,cn ⟨2,3,n6⟩,cn ⟨4,2,n7⟩,cn ⟨2,4,n8⟩,cn ⟨3,4,n9⟩],.ow 1,.ow 2,.ow 3,.ow 4]]⟩,.row ⟨40,1,[.ow 5,.ow 7,.ow 6,.ow 8,.ow 9]⟩,.row ⟨3,1,([0,0,0,0,0] : List Int).map ii⟩,.row ⟨3,1,([-1,-1,-1,-1,-1] : List Int).map ii⟩,.row ⟨4,1,[bb false,bb false,bb false,bb false,bb false]⟩,rowI [0],rowI [1,2,5,7],rowI [3,4],rowI [6],rowI [8,9]]⟩ _
     refine aM _ [.old 0 ⟨113,5,[.agg [.sl [cn ⟨2,0,n0⟩,cn ⟨0,2,n1⟩,cn ⟨1,2,n2⟩,cn ⟨2,1,n3⟩,cn ⟨0,1,n4⟩,cn ⟨3,2,n5⟩,cn ⟨2,3,n6⟩,cn ⟨4,2,n7⟩,cn ⟨2,4,n8⟩,cn ⟨3,4,n9⟩],.ow 1,.ow 2,.ow 3,.ow 4]]⟩,.old 1 ⟨40,1,[.ow 5,.ow 7,.ow 6,.ow 8,.ow 9]⟩,.old 2 ⟨3,1,([0,0,0,0,0] : List Int).map ii⟩,.old 3 ⟨3,1,([-1,-1,-1,-1,-1] : List Int).map ii⟩,.old 4 ⟨4,1,[bb false,bb false,bb false,bb false,bb false]⟩,.old 5 ⟨3,1,([0] : List Int).map ii⟩,.old 6 ⟨3,1,([1,2,5,7] : List Int).map ii⟩,.old 7 ⟨3,1,([3,4] : List Int).map ii⟩,.old 8 ⟨3,1,([6] : List Int).map ii⟩,.old 12 ⟨3,1,([8,9] : List Int).map ii⟩] (by simp [go_sem]) ?_
     simp [go_sem]
     try decide
   · show AWP Tryz.prog X _ _ ⟨mkE [(2,il [0,1,2,3,4]),(7,.el 0 5 0 0),(24,.sl [cn ⟨2,0,n0⟩,cn ⟨0,2,n1⟩,cn ⟨1,2,n2⟩,cn ⟨2,1,n3⟩,cn ⟨0,1,n4⟩,cn ⟨3,2,n5⟩,cn ⟨2,3,n6⟩,cn ⟨4,2,n7⟩,cn ⟨2,4,n8⟩,cn ⟨3,4,n9⟩]),(25,ii 10),(26,ii 10)],[.row ⟨113,5,[.agg [.sl [cn ⟨2,0,n0⟩,cn ⟨0,2,n1⟩,cn ⟨1,2,n2⟩,cn ⟨2,1,n3⟩,cn ⟨0,1,n4⟩,cn ⟨3,2,n5⟩,cn ⟨2,3,n6⟩,cn ⟨4,2,n7⟩,cn ⟨2,4,n8⟩,cn ⟨3,4,n9⟩],.ow 1,.ow 2,.ow 3,.ow 4]]⟩,.row ⟨40,1,[.ow 5,.ow 7,.ow 6,.ow 8,.ow 9]⟩,.row ⟨3,1,([0,0,0,0,0] : List Int).map ii⟩,.row ⟨3,1,([-1,-1,-1,-1,-1] : List Int).map ii⟩,.row ⟨4,1,[bb false,bb false,bb false,bb false,bb false]⟩,rowI [0],rowI [1,2,5,7],rowI [3,4],rowI [6],rowI [8,9]]⟩
     (repeat (refine aB q8x0 hX mixed rfl ?_; (simp [go_sem]; try (refine ⟨by kernel_rfl,?_⟩))))
     refine aC (b :=false) (by simp [go_sem]) (fun hb => by cases hb) (fun hb => ?_)
     (repeat (refine aB q8x0 hX mixed rfl ?_; (simp [go_sem]; try (refine ⟨by kernel_rfl,?_⟩))))
     refine aV (fun k : Nat => match k with | 0 => ⟨mkE [(7,.el 0 5 0 0),(50,il [0,1,2,3,4]),(51,ii 5),(52,ii 0)],[.row ⟨113,5,[.agg [.sl [cn ⟨2,0,n0⟩,cn ⟨0,2,n1⟩,cn ⟨1,2,n2⟩,cn ⟨2,1,n3⟩,cn ⟨0,1,n4⟩,cn ⟨3,2,n5⟩,cn ⟨2,3,n6⟩,cn ⟨4,2,n7⟩,cn ⟨2,4,n8⟩,cn ⟨3,4,n9⟩],.ow 1,.ow 2,.ow 3,.ow 4]]⟩,.row ⟨40,1,[.ow 5,.ow 7,.ow 6,.ow 8,.ow 9]⟩,.row ⟨3,1,([0,0,0,0,0] : List Int).map ii⟩,.row ⟨3,1,([-1,-1,-1,-1,-1] : List Int).map ii⟩,.row ⟨4,1,[bb false,bb false,bb false,bb false,bb false]⟩,rowI [0],rowI [1,2,5,7],rowI [3,4],rowI [6],rowI [8,9]]⟩ | 1 => ⟨mkE [(7,.el 0 5 0 0),(50,il [0,1,2,3,4]),(51,ii 5),(52,ii 1)],[.row ⟨113,5,[.agg [.sl [cn ⟨2,0,n0⟩,cn ⟨0,2,n1⟩,cn ⟨1,2,n2⟩,cn ⟨2,1,n3⟩,cn ⟨0,1,n4⟩,cn ⟨3,2,n5⟩,cn ⟨2,3,n6⟩,cn ⟨4,2,n7⟩,cn ⟨2,4,n8⟩,cn ⟨3,4,n9⟩],.ow 1,.ow 2,.ow 3,.ow 4]]⟩,.row ⟨40,1,[.ow 5,.ow 7,.ow 6,.ow 8,.ow 9]⟩,.row ⟨3,1,([0,0,0,0,0] : List Int).map ii⟩,.row ⟨3,1,([-1,-1,-1,-1,-1] : List Int).map ii⟩,.row ⟨4,1,[bb true,bb false,bb false,bb false,bb false]⟩,rowI [0],rowI [1,2,5,7],rowI [3,4],rowI [6],rowI [8,9]]⟩ | 2 => ⟨mkE [(7,.el 0 5 0 0),(50,il [0,1,2,3,4]),(51,ii 5),(52,ii 2)],[.row ⟨113,5,[.agg [.sl [cn ⟨2,0,n0⟩,cn ⟨0,2,n1⟩,cn ⟨1,2,n2⟩,cn ⟨2,1,n3⟩,cn ⟨0,1,n4⟩,cn ⟨3,2,n5⟩,cn ⟨2,3,n6⟩,cn ⟨4,2,n7⟩,cn ⟨2,4,n8⟩,cn ⟨3,4,n9⟩],.ow 1,.ow 2,.ow 3,.ow 4]]⟩,.row ⟨40,1,[.ow 5,.ow 7,.ow 6,.ow 8,.ow 9]⟩,.row ⟨3,1,([0,0,0,0,0] : List Int).map ii⟩,.row ⟨3,1,([-1,-1,-1,-1,-1] : List Int).map ii⟩,.row ⟨4,1,[bb true,bb true,bb false,bb false,bb false]⟩,rowI [0],rowI [1,2,5,7],rowI [3,4],rowI [6],rowI [8,9]]⟩ | 3 => ⟨mkE [(7,.el 0 5 0 0),(50,il [0,1,2,3,4]),(51,ii 5),(52,ii 3)],[.row ⟨113,5,[.agg [.sl [cn ⟨2,0,n0⟩,cn ⟨0,2,n1⟩,cn ⟨1,2,n2⟩,cn ⟨2,1,n3⟩,cn ⟨0,1,n4⟩,cn ⟨3,2,n5⟩,cn ⟨2,3,n6⟩,cn ⟨4,2,n7⟩,cn ⟨2,4,n8⟩,cn ⟨3,4,n9⟩],.ow 1,.ow 2,.ow 3,.ow 4]]⟩,.row ⟨40,1,[.ow 5,.ow 7,.ow 6,.ow 8,.ow 9]⟩,.row ⟨3,1,([0,0,0,0,0] : List Int).map ii⟩,.row ⟨3,1,([-1,-1,-1,-1,-1] : List Int).map ii⟩,.row ⟨4,1,[bb true,bb true,bb true,bb false,bb false]⟩,rowI [0],rowI [1,2,5,7],rowI [3,4],rowI [6],rowI [8,9]]⟩ | 4 => ⟨mkE [(7,.el 0 5 0 0),(50,il [0,1,2,3,4]),(51,ii 5),(52,ii 4)],[.row ⟨113,5,[.agg [.sl [cn ⟨2,0,n0⟩,cn ⟨0,2,n1⟩,cn ⟨1,2,n2⟩,cn ⟨2,1,n3⟩,cn ⟨0,1,n4⟩,cn ⟨3,2,n5⟩,cn ⟨2,3,n6⟩,cn ⟨4,2,n7⟩,cn ⟨2,4,n8⟩,cn ⟨3,4,n9⟩],.ow 1,.ow 2,.ow 3,.ow 4]]⟩,.row ⟨40,1,[.ow 5,.ow 7,.ow 6,.ow 8,.ow 9]⟩,.row ⟨3,1,([0,0,0,0,0] : List Int).map ii⟩,.row ⟨3,1,([-1,-1,-1,-1,-1] : List Int).map ii⟩,.row ⟨4,1,[bb true,bb true,bb true,bb true,bb false]⟩,rowI [0],rowI [1,2,5,7],rowI [3,4],rowI [6],rowI [8,9]]⟩ | _ => ⟨mkE [(7,.el 0 5 0 0),(50,il [0,1,2,3,4]),(51,ii 5),(52,ii 5)],[.row ⟨113,5,[.agg [.sl [cn ⟨2,0,n0⟩,cn ⟨0,2,n1⟩,cn ⟨1,2,n2⟩,cn ⟨2,1,n3⟩,cn ⟨0,1,n4⟩,cn ⟨3,2,n5⟩,cn ⟨2,3,n6⟩,cn ⟨4,2,n7⟩,cn ⟨2,4,n8⟩,cn ⟨3,4,n9⟩],.ow 1,.ow 2,.ow 3,.ow 4]]⟩,.row ⟨40,1,[.ow 5,.ow 7,.ow 6,.ow 8,.ow 9]⟩,.row ⟨3,1,([0,0,0,0,0] : List Int).map ii⟩,.row ⟨3,1,([-1,-1,-1,-1,-1] : List Int).map ii⟩,.row ⟨4,1,[bb true,bb true,bb true,bb true,bb true]⟩,rowI [0],rowI [1,2,5,7],rowI [3,4],rowI [6],rowI [8,9]]⟩) (fun k => k ≤ 5) (fun k => 5 - k) 0 ?_ ?_ ?_
     · show Ab.Sub X ⟨mkE [(7,.el 0 5 0 0),(50,il [0,1,2,3,4]),(51,ii 5),(52,ii 0)],[.row ⟨113,5,[.agg [.sl [cn ⟨2,0,n0⟩,cn ⟨0,2,n1⟩,cn ⟨1,2,n2⟩,cn ⟨2,1,n3⟩,cn ⟨0,1,n4⟩,cn ⟨3,2,n5⟩,cn ⟨2,3,n6⟩,cn ⟨4,2,n7⟩,cn ⟨2,4,n8⟩,cn ⟨3,4,n9⟩],.ow 1,.ow 2,.ow 3,.ow 4]]⟩,.row ⟨40,1,[.ow 5,.ow 7,.ow 6,.ow 8,.ow 9]⟩,.row ⟨3,1,([0,0,0,0,0] : List Int).map ii⟩,.row ⟨3,1,([-1,-1,-1,-1,-1] : List Int).map ii⟩,.row ⟨4,1,[bb false,bb false,bb false,bb false,bb false]⟩,rowI [0],rowI [1,2,5,7],rowI [3,4],rowI [6],rowI [8,9]]⟩ _
       refine aM _ [.old 0 ⟨113,5,[.agg [.sl [cn ⟨2,0,n0⟩,cn ⟨0,2,n1⟩,cn ⟨1,2,n2⟩,cn ⟨2,1,n3⟩,cn ⟨0,1,n4⟩,cn ⟨3,2,n5⟩,cn ⟨2,3,n6⟩,cn ⟨4,2,n7⟩,cn ⟨2,4,n8⟩,cn ⟨3,4,n9⟩],.ow 1,.ow 2,.ow 3,.ow 4]]⟩,.old 1 ⟨40,1,[.ow 5,.ow 7,.ow 6,.ow 8,.ow 9]⟩,.old 2 ⟨3,1,([0,0,0,0,0] : List Int).map ii⟩,.old 3 ⟨3,1,([-1,-1,-1,-1,-1] : List Int).map ii⟩,.old 4 ⟨4,1,[bb false,bb false,bb false,bb false,bb false]⟩,.old 5 ⟨3,1,([0] : List Int).map ii⟩,.old 6 ⟨3,1,([1,2,5,7] : List Int).map ii⟩,.old 7 ⟨3,1,([3,4] : List Int).map ii⟩,.old 8 ⟨3,1,([6] : List Int).map ii⟩,.old 9 ⟨3,1,([8,9] : List Int).map ii⟩] (by simp [go_sem]) ?_
       simp [go_sem]
     · omega
     · intro k hk
       have hcs : k = 0 ∨ k = 1 ∨ k = 2 ∨ k = 3 ∨ k = 4 ∨ k = 5 :=by omega
       rcases hcs with rfl | rfl | rfl | rfl | rfl | rfl
       · show AWP Tryz.prog X _ _ ⟨mkE [(7,.el 0 5 0 0),(50,il [0,1,2,3,4]),(51,ii 5),(52,ii 0)],[.row ⟨113,5,[.agg [.sl [cn ⟨2,0,n0⟩,cn ⟨0,2,n1⟩,cn ⟨1,2,n2⟩,cn ⟨2,1,n3⟩,cn ⟨0,1,n4⟩,cn ⟨3,2,n5⟩,cn ⟨2,3,n6⟩,cn ⟨4,2,n7⟩,cn ⟨2,4,n8⟩,cn ⟨3,4,n9⟩],.ow 1,.ow 2,.ow 3,.ow 4]]⟩,.row ⟨40,1,[.ow 5,.ow 7,.ow 6,.ow 8,.ow 9]⟩,.row ⟨3,1,([0,0,0,0,0] : List Int).map ii⟩,.row ⟨3,1,([-1,-1,-1,-1,-1] : List Int).map ii⟩,.row ⟨4,1,[bb false,bb false,bb false,bb false,bb false]⟩,rowI [0],rowI [1,2,5,7],rowI [3,4],rowI [6],rowI [8,9]]⟩
         (repeat (refine aB q8x0 hX mixed rfl ?_; (simp [go_sem]; try (refine ⟨by kernel_rfl,?_⟩))))
         refine aC (b :=true) (by simp [go_sem]) (fun hb => ?_) (fun hb => by cases hb)
         (repeat (refine aB q8x0 hX mixed rfl ?_; (simp [go_sem]; try (refine ⟨by kernel_rfl,?_⟩))))
         (repeat refine And.intro (by first | omega | (unfold maxLen; omega) | kernel_rfl | (refine ⟨by first | omega | (unfold maxLen; omega),by first | omega | (unfold maxLen; omega)⟩) | grind) ?_)
         (repeat (refine aB q8x0 hX mixed rfl ?_; (simp [go_sem]; try (refine ⟨by kernel_rfl,?_⟩))))
         refine ⟨1,by omega,by omega,?_⟩
         show Ab.Sub X ⟨mkE [(7,.el 0 5 0 0),(50,il [0,1,2,3,4]),(51,ii 5),(52,ii 1)],[.row ⟨113,5,[.agg [.sl [cn ⟨2,0,n0⟩,cn ⟨0,2,n1⟩,cn ⟨1,2,n2⟩,cn ⟨2,1,n3⟩,cn ⟨0,1,n4⟩,cn ⟨3,2,n5⟩,cn ⟨2,3,n6⟩,cn ⟨4,2,n7⟩,cn ⟨2,4,n8⟩,cn ⟨3,4,n9⟩],.ow 1,.ow 2,.ow 3,.ow 4]]⟩,.row ⟨40,1,[.ow 5,.ow 7,.ow 6,.ow 8,.ow 9]⟩,.row ⟨3,1,([0,0,0,0,0] : List Int).map ii⟩,.row ⟨3,1,([-1,-1,-1,-1,-1] : List Int).map ii⟩,.row ⟨4,1,[bb true,bb false,bb false,bb false,bb false]⟩,rowI [0],rowI [1,2,5,7],rowI [3,4],rowI [6],rowI [8,9]]⟩ _
         refine aM _ [.old 0 ⟨113,5,[.agg [.sl [cn ⟨2,0,n0⟩,cn ⟨0,2,n1⟩,cn ⟨1,2,n2⟩,cn ⟨2,1,n3⟩,cn ⟨0,1,n4⟩,cn ⟨3,2,n5⟩,cn ⟨2,3,n6⟩,cn ⟨4,2,n7⟩,cn ⟨2,4,n8⟩,cn ⟨3,4,n9⟩],.ow 1,.ow 2,.ow 3,.ow 4]]⟩,.old 1 ⟨40,1,[.ow 5,.ow 7,.ow 6,.ow 8,.ow 9]⟩,.old 2 ⟨3,1,([0,0,0,0,0] : List Int).map ii⟩,.old 3 ⟨3,1,([-1,-1,-1,-1,-1] : List Int).map ii⟩,.old 4 ⟨4,1,[bb true,bb false,bb false,bb false,bb false]⟩,.old 5 ⟨3,1,([0] : List Int).map ii⟩,.old 6 ⟨3,1,([1,2,5,7] : List Int).map ii⟩,.old 7 ⟨3,1,([3,4] : List Int).map ii⟩,.old 8 ⟨3,1,([6] : List Int).map ii⟩,.old 9 ⟨3,1,([8,9] : List Int).map ii⟩] (by simp [go_sem]) ?_
         simp [go_sem]
         try decide
       · show AWP Tryz.prog X _ _ ⟨mkE [(7,.el 0 5 0 0),(50,il [0,1,2,3,4]),(51,ii 5),(52,ii 1)],[.row ⟨113,5,[.agg [.sl [cn ⟨2,0,n0⟩,cn ⟨0,2,n1⟩,cn ⟨1,2,n2⟩,cn ⟨2,1,n3⟩,cn ⟨0,1,n4⟩,cn ⟨3,2,n5⟩,cn ⟨2,3,n6⟩,cn ⟨4,2,n7⟩,cn ⟨2,4,n8⟩,cn ⟨3,4,n9⟩],.ow 1,.ow 2,.ow 3,.ow 4]]⟩,.row ⟨40,1,[.ow 5,.ow 7,.ow 6,.ow 8,.ow 9]⟩,.row ⟨3,1,([0,0,0,0,0] : List Int).map ii⟩,.row ⟨3,1,([-1,-1,-1,-1,-1] : List Int).map ii⟩,.row ⟨4,1,[bb true,bb false,bb false,bb false,bb false]⟩,rowI [0],rowI [1,2,5,7],rowI [3,4],rowI [6],rowI [8,9]]⟩
         (repeat (refine aB q8x0 hX mixed rfl ?_; (simp [go_sem]; try (refine ⟨by kernel_rfl,?_⟩))))
         refine aC (b :=true) (by simp [go_sem]) (fun hb => ?_) (fun hb => by cases hb)
         (repeat (refine aB q8x0 hX mixed rfl ?_; (simp [go_sem]; try (refine ⟨by kernel_rfl,?_⟩))))
         (repeat refine And.intro (by first | omega | (unfold maxLen; omega) | kernel_rfl | (refine ⟨by first | omega | (unfold maxLen; omega),by first | omega | (unfold maxLen; omega)⟩) | grind) ?_)
         (repeat (refine aB q8x0 hX mixed rfl ?_; (simp [go_sem]; try (refine ⟨by kernel_rfl,?_⟩))))
         refine ⟨2,by omega,by omega,?_⟩
         show Ab.Sub X ⟨mkE [(7,.el 0 5 0 0),(50,il [0,1,2,3,4]),(51,ii 5),(52,ii 2)],[.row ⟨113,5,[.agg [.sl [cn ⟨2,0,n0⟩,cn ⟨0,2,n1⟩,cn ⟨1,2,n2⟩,cn ⟨2,1,n3⟩,cn ⟨0,1,n4⟩,cn ⟨3,2,n5⟩,cn ⟨2,3,n6⟩,cn ⟨4,2,n7⟩,cn ⟨2,4,n8⟩,cn ⟨3,4,n9⟩],.ow 1,.ow 2,.ow 3,.ow 4]]⟩,.row ⟨40,1,[.ow 5,.ow 7,.ow 6,.ow 8,.ow 9]⟩,.row ⟨3,1,([0,0,0,0,0] : List Int).map ii⟩,.row ⟨3,1,([-1,-1,-1,-1,-1] : List Int).map ii⟩,.row ⟨4,1,[bb true,bb true,bb false,bb false,bb false]⟩,rowI [0],rowI [1,2,5,7],rowI [3,4],rowI [6],rowI [8,9]]⟩ _
         refine aM _ [.old 0 ⟨113,5,[.agg [.sl [cn ⟨2,0,n0⟩,cn ⟨0,2,n1⟩,cn ⟨1,2,n2⟩,cn ⟨2,1,n3⟩,cn ⟨0,1,n4⟩,cn ⟨3,2,n5⟩,cn ⟨2,3,n6⟩,cn ⟨4,2,n7⟩,cn ⟨2,4,n8⟩,cn ⟨3,4,n9⟩],.ow 1,.ow 2,.ow 3,.ow 4]]⟩,.old 1 ⟨40,1,[.ow 5,.ow 7,.ow 6,.ow 8,.ow 9]⟩,.old 2 ⟨3,1,([0,0,0,0,0] : List Int).map ii⟩,.old 3 ⟨3,1,([-1,-1,-1,-1,-1] : List Int).map ii⟩,.old 4 ⟨4,1,[bb true,bb true,bb false,bb false,bb false]⟩,.old 5 ⟨3,1,([0] : List Int).map ii⟩,.old 6 ⟨3,1,([1,2,5,7] : List Int).map ii⟩,.old 7 ⟨3,1,([3,4] : List Int).map ii⟩,.old 8 ⟨3,1,([6] : List Int).map ii⟩,.old 9 ⟨3,1,([8,9] : List Int).map ii⟩] (by simp [go_sem]) ?_
         simp [go_sem]
         try decide
       · show AWP Tryz.prog X _ _ ⟨mkE [(7,.el 0 5 0 0),(50,il [0,1,2,3,4]),(51,ii 5),(52,ii 2)],[.row ⟨113,5,[.agg [.sl [cn ⟨2,0,n0⟩,cn ⟨0,2,n1⟩,cn ⟨1,2,n2⟩,cn ⟨2,1,n3⟩,cn ⟨0,1,n4⟩,cn ⟨3,2,n5⟩,cn ⟨2,3,n6⟩,cn ⟨4,2,n7⟩,cn ⟨2,4,n8⟩,cn ⟨3,4,n9⟩],.ow 1,.ow 2,.ow 3,.ow 4]]⟩,.row ⟨40,1,[.ow 5,.ow 7,.ow 6,.ow 8,.ow 9]⟩,.row ⟨3,1,([0,0,0,0,0] : List Int).map ii⟩,.row ⟨3,1,([-1,-1,-1,-1,-1] : List Int).map ii⟩,.row ⟨4,1,[bb true,bb true,bb false,bb false,bb false]⟩,rowI [0],rowI [1,2,5,7],rowI [3,4],rowI [6],rowI [8,9]]⟩
         (repeat (refine aB q8x0 hX mixed rfl ?_; (simp [go_sem]; try (refine ⟨by kernel_rfl,?_⟩))))
         refine aC (b :=true) (by simp [go_sem]) (fun hb => ?_) (fun hb => by cases hb)
         (repeat (refine aB q8x0 hX mixed rfl ?_; (simp [go_sem]; try (refine ⟨by kernel_rfl,?_⟩))))
         (repeat refine And.intro (by first | omega | (unfold maxLen; omega) | kernel_rfl | (refine ⟨by first | omega | (unfold maxLen; omega),by first | omega | (unfold maxLen; omega)⟩) | grind) ?_)
         (repeat (refine aB q8x0 hX mixed rfl ?_; (simp [go_sem]; try (refine ⟨by kernel_rfl,?_⟩))))
         refine ⟨3,by omega,by omega,?_⟩
         show Ab.Sub X ⟨mkE [(7,.el 0 5 0 0),(50,il [0,1,2,3,4]),(51,ii 5),(52,ii 3)],[.row ⟨113,5,[.agg [.sl [cn ⟨2,0,n0⟩,cn ⟨0,2,n1⟩,cn ⟨1,2,n2⟩,cn ⟨2,1,n3⟩,cn ⟨0,1,n4⟩,cn ⟨3,2,n5⟩,cn ⟨2,3,n6⟩,cn ⟨4,2,n7⟩,cn ⟨2,4,n8⟩,cn ⟨3,4,n9⟩],.ow 1,.ow 2,.ow 3,.ow 4]]⟩,.row ⟨40,1,[.ow 5,.ow 7,.ow 6,.ow 8,.ow 9]⟩,.row ⟨3,1,([0,0,0,0,0] : List Int).map ii⟩,.row ⟨3,1,([-1,-1,-1,-1,-1] : List Int).map ii⟩,.row ⟨4,1,[bb true,bb true,bb true,bb false,bb false]⟩,rowI [0],rowI [1,2,5,7],rowI [3,4],rowI [6],rowI [8,9]]⟩ _
         refine aM _ [.old 0 ⟨113,5,[.agg [.sl [cn ⟨2,0,n0⟩,cn ⟨0,2,n1⟩,cn ⟨1,2,n2⟩,cn ⟨2,1,n3⟩,cn ⟨0,1,n4⟩,cn ⟨3,2,n5⟩,cn ⟨2,3,n6⟩,cn ⟨4,2,n7⟩,cn ⟨2,4,n8⟩,cn ⟨3,4,n9⟩],.ow 1,.ow 2,.ow 3,.ow 4]]⟩,.old 1 ⟨40,1,[.ow 5,.ow 7,.ow 6,.ow 8,.ow 9]⟩,.old 2 ⟨3,1,([0,0,0,0,0] : List Int).map ii⟩,.old 3 ⟨3,1,([-1,-1,-1,-1,-1] : List Int).map ii⟩,.old 4 ⟨4,1,[bb true,bb true,bb true,bb false,bb false]⟩,.old 5 ⟨3,1,([0] : List Int).map ii⟩,.old 6 ⟨3,1,([1,2,5,7] : List Int).map ii⟩,.old 7 ⟨3,1,([3,4] : List Int).map ii⟩,.old 8 ⟨3,1,([6] : List Int).map ii⟩,.old 9 ⟨3,1,([8,9] : List Int).map ii⟩] (by simp [go_sem]) ?_
         simp [go_sem]
         try decide
       · show AWP Tryz.prog X _ _ ⟨mkE [(7,.el 0 5 0 0),(50,il [0,1,2,3,4]),(51,ii 5),(52,ii 3)],[.row ⟨113,5,[.agg [.sl [cn ⟨2,0,n0⟩,cn ⟨0,2,n1⟩,cn ⟨1,2,n2⟩,cn ⟨2,1,n3⟩,cn ⟨0,1,n4⟩,cn ⟨3,2,n5⟩,cn ⟨2,3,n6⟩,cn ⟨4,2,n7⟩,cn ⟨2,4,n8⟩,cn ⟨3,4,n9⟩],.ow 1,.ow 2,.ow 3,.ow 4]]⟩,.row ⟨40,1,[.ow 5,.ow 7,.ow 6,.ow 8,.ow 9]⟩,.row ⟨3,1,([0,0,0,0,0] : List Int).map ii⟩,.row ⟨3,1,([-1,-1,-1,-1,-1] : List Int).map ii⟩,.row ⟨4,1,[bb true,bb true,bb true,bb false,bb false]⟩,rowI [0],rowI [1,2,5,7],rowI [3,4],rowI [6],rowI [8,9]]⟩
         (repeat (refine aB q8x0 hX mixed rfl ?_; (simp [go_sem]; try (refine ⟨by kernel_rfl,?_⟩))))
         refine aC (b :=true) (by simp [go_sem]) (fun hb => ?_) (fun hb => by cases hb)
         (repeat (refine aB q8x0 hX mixed rfl ?_; (simp [go_sem]; try (refine ⟨by kernel_rfl,?_⟩))))
         (repeat refine And.intro (by first | omega | (unfold maxLen; omega) | kernel_rfl | (refine ⟨by first | omega | (unfold maxLen; omega),by first | omega | (unfold maxLen; omega)⟩) | grind) ?_)
         (repeat (refine aB q8x0 hX mixed rfl ?_; (simp [go_sem]; try (refine ⟨by kernel_rfl,?_⟩))))
         refine ⟨4,by omega,by omega,?_⟩
         show Ab.Sub X ⟨mkE [(7,.el 0 5 0 0),(50,il [0,1,2,3,4]),(51,ii 5),(52,ii 4)],[.row ⟨113,5,[.agg [.sl [cn ⟨2,0,n0⟩,cn ⟨0,2,n1⟩,cn ⟨1,2,n2⟩,cn ⟨2,1,n3⟩,cn ⟨0,1,n4⟩,cn ⟨3,2,n5⟩,cn ⟨2,3,n6⟩,cn ⟨4,2,n7⟩,cn ⟨2,4,n8⟩,cn ⟨3,4,n9⟩],.ow 1,.ow 2,.ow 3,.ow 4]]⟩,.row ⟨40,1,[.ow 5,.ow 7,.ow 6,.ow 8,.ow 9]⟩,.row ⟨3,1,([0,0,0,0,0] : List Int).map ii⟩,.row ⟨3,1,([-1,-1,-1,-1,-1] : List Int).map ii⟩,.row ⟨4,1,[bb true,bb true,bb true,bb true,bb false]⟩,rowI [0],rowI [1,2,5,7],rowI [3,4],rowI [6],rowI [8,9]]⟩ _
         refine aM _ [.old 0 ⟨113,5,[.agg [.sl [cn ⟨2,0,n0⟩,cn ⟨0,2,n1⟩,cn ⟨1,2,n2⟩,cn ⟨2,1,n3⟩,cn ⟨0,1,n4⟩,cn ⟨3,2,n5⟩,cn ⟨2,3,n6⟩,cn ⟨4,2,n7⟩,cn ⟨2,4,n8⟩,cn ⟨3,4,n9⟩],.ow 1,.ow 2,.ow 3,.ow 4]]⟩,.old 1 ⟨40,1,[.ow 5,.ow 7,.ow 6,.ow 8,.ow 9]⟩,.old 2 ⟨3,1,([0,0,0,0,0] : List Int).map ii⟩,.old 3 ⟨3,1,([-1,-1,-1,-1,-1] : List Int).map ii⟩,.old 4 ⟨4,1,[bb true,bb true,bb true,bb true,bb false]⟩,.old 5 ⟨3,1,([0] : List Int).map ii⟩,.old 6 ⟨3,1,([1,2,5,7] : List Int).map ii⟩,.old 7 ⟨3,1,([3,4] : List Int).map ii⟩,.old 8 ⟨3,1,([6] : List Int).map ii⟩,.old 9 ⟨3,1,([8,9] : List Int).map ii⟩] (by simp [go_sem]) ?_
         simp [go_sem]
         try decide
       · show AWP Tryz.prog X _ _ ⟨mkE [(7,.el 0 5 0 0),(50,il [0,1,2,3,4]),(51,ii 5),(52,ii 4)],[.row ⟨113,5,[.agg [.sl [cn ⟨2,0,n0⟩,cn ⟨0,2,n1⟩,cn ⟨1,2,n2⟩,cn ⟨2,1,n3⟩,cn ⟨0,1,n4⟩,cn ⟨3,2,n5⟩,cn ⟨2,3,n6⟩,cn ⟨4,2,n7⟩,cn ⟨2,4,n8⟩,cn ⟨3,4,n9⟩],.ow 1,.ow 2,.ow 3,.ow 4]]⟩,.row ⟨40,1,[.ow 5,.ow 7,.ow 6,.ow 8,.ow 9]⟩,.row ⟨3,1,([0,0,0,0,0] : List Int).map ii⟩,.row ⟨3,1,([-1,-1,-1,-1,-1] : List Int).map ii⟩,.row ⟨4,1,[bb true,bb true,bb true,bb true,bb false]⟩,rowI [0],rowI [1,2,5,7],rowI [3,4],rowI [6],rowI [8,9]]⟩
         (repeat (refine aB q8x0 hX mixed rfl ?_; (simp [go_sem]; try (refine ⟨by kernel_rfl,?_⟩))))
         refine aC (b :=true) (by simp [go_sem]) (fun hb => ?_) (fun hb => by cases hb)
         (repeat (refine aB q8x0 hX mixed rfl ?_; (simp [go_sem]; try (refine ⟨by kernel_rfl,?_⟩))))
         (repeat refine And.intro (by first | omega | (unfold maxLen; omega) | kernel_rfl | (refine ⟨by first | omega | (unfold maxLen; omega),by first | omega | (unfold maxLen; omega)⟩) | grind) ?_)
         (repeat (refine aB q8x0 hX mixed rfl ?_; (simp [go_sem]; try (refine ⟨by kernel_rfl,?_⟩))))
         refine ⟨5,by omega,by omega,?_⟩
         show Ab.Sub X ⟨mkE [(7,.el 0 5 0 0),(50,il [0,1,2,3,4]),(51,ii 5),(52,ii 5)],[.row ⟨113,5,[.agg [.sl [cn ⟨2,0,n0⟩,cn ⟨0,2,n1⟩,cn ⟨1,2,n2⟩,cn ⟨2,1,n3⟩,cn ⟨0,1,n4⟩,cn ⟨3,2,n5⟩,cn ⟨2,3,n6⟩,cn ⟨4,2,n7⟩,cn ⟨2,4,n8⟩,cn ⟨3,4,n9⟩],.ow 1,.ow 2,.ow 3,.ow 4]]⟩,.row ⟨40,1,[.ow 5,.ow 7,.ow 6,.ow 8,.ow 9]⟩,.row ⟨3,1,([0,0,0,0,0] : List Int).map ii⟩,.row ⟨3,1,([-1,-1,-1,-1,-1] : List Int).map ii⟩,.row ⟨4,1,[bb true,bb true,bb true,bb true,bb true]⟩,rowI [0],rowI [1,2,5,7],rowI [3,4],rowI [6],rowI [8,9]]⟩ _
         refine aM _ [.old 0 ⟨113,5,[.agg [.sl [cn ⟨2,0,n0⟩,cn ⟨0,2,n1⟩,cn ⟨1,2,n2⟩,cn ⟨2,1,n3⟩,cn ⟨0,1,n4⟩,cn ⟨3,2,n5⟩,cn ⟨2,3,n6⟩,cn ⟨4,2,n7⟩,cn ⟨2,4,n8⟩,cn ⟨3,4,n9⟩],.ow 1,.ow 2,.ow 3,.ow 4]]⟩,.old 1 ⟨40,1,[.ow 5,.ow 7,.ow 6,.ow 8,.ow 9]⟩,.old 2 ⟨3,1,([0,0,0,0,0] : List Int).map ii⟩,.old 3 ⟨3,1,([-1,-1,-1,-1,-1] : List Int).map ii⟩,.old 4 ⟨4,1,[bb true,bb true,bb true,bb true,bb true]⟩,.old 5 ⟨3,1,([0] : List Int).map ii⟩,.old 6 ⟨3,1,([1,2,5,7] : List Int).map ii⟩,.old 7 ⟨3,1,([3,4] : List Int).map ii⟩,.old 8 ⟨3,1,([6] : List Int).map ii⟩,.old 9 ⟨3,1,([8,9] : List Int).map ii⟩] (by simp [go_sem]) ?_
         simp [go_sem]
         try decide
       · show AWP Tryz.prog X _ _ ⟨mkE [(7,.el 0 5 0 0),(50,il [0,1,2,3,4]),(51,ii 5),(52,ii 5)],[.row ⟨113,5,[.agg [.sl [cn ⟨2,0,n0⟩,cn ⟨0,2,n1⟩,cn ⟨1,2,n2⟩,cn ⟨2,1,n3⟩,cn ⟨0,1,n4⟩,cn ⟨3,2,n5⟩,cn ⟨2,3,n6⟩,cn ⟨4,2,n7⟩,cn ⟨2,4,n8⟩,cn ⟨3,4,n9⟩],.ow 1,.ow 2,.ow 3,.ow 4]]⟩,.row ⟨40,1,[.ow 5,.ow 7,.ow 6,.ow 8,.ow 9]⟩,.row ⟨3,1,([0,0,0,0,0] : List Int).map ii⟩,.row ⟨3,1,([-1,-1,-1,-1,-1] : List Int).map ii⟩,.row ⟨4,1,[bb true,bb true,bb true,bb true,bb true]⟩,rowI [0],rowI [1,2,5,7],rowI [3,4],rowI [6],rowI [8,9]]⟩
         (repeat (refine aB q8x0 hX mixed rfl ?_; (simp [go_sem]; try (refine ⟨by kernel_rfl,?_⟩))))
         refine aC (b :=false) (by simp [go_sem]) (fun hb => by cases hb) (fun hb => ?_)
         (repeat (refine aB q8x0 hX mixed rfl ?_; (simp [go_sem]; try (refine ⟨by kernel_rfl,?_⟩))))
         refine bX (st0 :=⟨mkE [(6,.el 0 5 0 0)],[.row ⟨113,5,[.agg [.sl [cn ⟨2,0,n0⟩,cn ⟨0,2,n1⟩,cn ⟨1,2,n2⟩,cn ⟨2,1,n3⟩,cn ⟨0,1,n4⟩,cn ⟨3,2,n5⟩,cn ⟨2,3,n6⟩,cn ⟨4,2,n7⟩,cn ⟨2,4,n8⟩,cn ⟨3,4,n9⟩],.ow 1,.ow 2,.ow 3,.ow 4]]⟩,.row ⟨40,1,[il [0],il [3,4],il [1,2,5,7],il [6],il [8,9]]⟩,.row ⟨3,1,([0,0,0,0,0] : List Int).map ii⟩,.row ⟨3,1,([-1,-1,-1,-1,-1] : List Int).map ii⟩,.row ⟨4,1,[bb true,bb true,bb true,bb true,bb true]⟩]⟩) ?_ ?_
         · refine aM _ [.old 0 ⟨113,5,[.agg [.sl [cn ⟨2,0,n0⟩,cn ⟨0,2,n1⟩,cn ⟨1,2,n2⟩,cn ⟨2,1,n3⟩,cn ⟨0,1,n4⟩,cn ⟨3,2,n5⟩,cn ⟨2,3,n6⟩,cn ⟨4,2,n7⟩,cn ⟨2,4,n8⟩,cn ⟨3,4,n9⟩],.ow 1,.ow 2,.ow 3,.ow 4]]⟩,.old 1 ⟨40,1,[il [0],il [3,4],il [1,2,5,7],il [6],il [8,9]]⟩,.old 2 ⟨3,1,([0,0,0,0,0] : List Int).map ii⟩,.old 3 ⟨3,1,([-1,-1,-1,-1,-1] : List Int).map ii⟩,.old 4 ⟨4,1,[bb true,bb true,bb true,bb true,bb true]⟩] (by simp [go_sem]) ?_
           simp [go_sem]
         · refine aK ?_; (try simp only [thenQ,blkQ,loopQ]); refine aJ [(6,.el 0 5 0 0)] [.old 0 ⟨113,5,[.agg [.sl [cn ⟨2,0,n0⟩,cn ⟨0,2,n1⟩,cn ⟨1,2,n2⟩,cn ⟨2,1,n3⟩,cn ⟨0,1,n4⟩,cn ⟨3,2,n5⟩,cn ⟨2,3,n6⟩,cn ⟨4,2,n7⟩,cn ⟨2,4,n8⟩,cn ⟨3,4,n9⟩],.sl [il [0],il [3,4],il [1,2,5,7],il [6],il [8,9]],.ow 1,.ow 2,.ow 3]]⟩,.old 2 ⟨3,1,([0,0,0,0,0] : List Int).map ii⟩,.old 3 ⟨3,1,([-1,-1,-1,-1,-1] : List Int).map ii⟩,.old 4 ⟨4,1,[bb true,bb true,bb true,bb true,bb true]⟩] ?_
           simp [go_sem]
end Go.Proofs.YtaolljbpencjnaaGreatDoor

namespace Go.Proofs.YtaolljbpencjnaaGreatDoor
abbrev RS :=List Int × List Int × List Int
def rlx (C : List Cn) (v : Int) (s : RS) (i : Int) : RS :=
 if s.1.getD v.toNat 0 + (C.getD i.toNat ⟨0,0,0⟩).n < s.1.getD (C.getD i.toNat ⟨0,0,0⟩).a.toNat 0 then
  (s.1.set (C.getD i.toNat ⟨0,0,0⟩).a.toNat (s.1.getD v.toNat 0 + (C.getD i.toNat ⟨0,0,0⟩).n),s.2.1.set (C.getD i.toNat ⟨0,0,0⟩).a.toNat i,s.2.2 ++ [(C.getD i.toNat ⟨0,0,0⟩).a]) else s
def rlxV (C : List Cn) (F : List (List Int)) (s : RS) (v : Int) : RS :=(F.getD v.toNat []).foldl (rlx C v) s
def rnd (C : List Cn) (F : List (List Int)) (s : RS) (todo : List Int) : RS :=todo.foldl (rlxV C F) s
def ddL (Y : List Int) : List Int :=ddN Y Y.length
def runM (C : List Cn) (F : List (List Int)) : Nat → List Int → List Int → List Int → Int × List Int × List Int
 | 0,V,Y,todo => (todo.getD 0 0,V,Y)
 | k + 1,V,Y,todo => if (rnd C F (V,Y,[]) todo).2.2 = [] then (-1,(rnd C F (V,Y,[]) todo).1,(rnd C F (V,Y,[]) todo).2.1)
   else runM C F k (rnd C F (V,Y,[]) todo).1 (rnd C F (V,Y,[]) todo).2.1 (ddL (sortS (rnd C F (V,Y,[]) todo).2.2))
def cntF (F : List (List Int)) (todo : List Int) : Nat :=(todo.map fun v => (F.getD v.toNat []).length).sum
def Todo (l : List Int) : Prop :=l.Pairwise (· < ·) ∧ ∀ v ∈ l,0 ≤ v ∧ v < 5
structure WF (C : List Cn) (F : List (List Int)) : Prop where
 F5 : F.length = 5
 C10 : C.length ≤ 2000
 ca : ∀ c ∈ C,0 ≤ c.a ∧ c.a < 5
 cn : ∀ c ∈ C,-2000 ≤ c.n ∧ c.n ≤ 2000
 fi : ∀ l ∈ F,∀ i ∈ l,0 ≤ i ∧ i < C.length
 tot : ∀ l,Todo l → cntF F l ≤ 12
structure Gd (s : RS) (b m : Nat) : Prop where
 lv : s.1.length = 5
 ly : s.2.1.length = 5
 bd : ∀ x ∈ s.1,-(b : Int) ≤ x ∧ x ≤ 0
 ln : s.2.2.length ≤ m
 nx : ∀ x ∈ s.2.2,0 ≤ x ∧ x < 5
theorem dF {l : List Int} {n : Nat} (h : n < l.length) : l.getD n 0 ∈ l :=by rw [gD h]; exact List.getElem_mem h
theorem cD {C : List Cn} {n : Nat} (h : n < C.length) : C.getD n ⟨0,0,0⟩ = C[n] :=by rw [List.getD_eq_getElem?_getD,List.getElem?_eq_getElem h]; rfl
theorem CP {C : List Cn} {F : List (List Int)} (hw : WF C F) {s : RS} {b m : Nat} (h : Gd s b m) {v i : Int} (hv : 0 ≤ v ∧ v < 5) (hi : 0 ≤ i ∧ i < C.length) : Gd (rlx C v s i) (b + 2000) (m + 1) :=by
 have hil : i.toNat < C.length :=by omega
 have hc : C.getD i.toNat ⟨0,0,0⟩ ∈ C :=by rw [cD hil]; exact List.getElem_mem hil
 unfold rlx
 generalize C.getD i.toNat ⟨0,0,0⟩ = c at hc
 have h1 :=hw.ca c hc
 have h2 :=hw.cn c hc
 have hV :=h.bd _ (dF (l :=s.1) (n :=v.toNat) (by rw [h.lv]; omega))
 have hA :=h.bd _ (dF (l :=s.1) (n :=c.a.toNat) (by rw [h.lv]; omega))
 split
 · refine ⟨by simp [h.lv],by simp [h.ly],fun x hx => ?_,by simp; exact h.ln,fun x hx => ?_⟩
   · rcases List.mem_or_eq_of_mem_set hx with hx | rfl
     · have :=h.bd x hx; omega
     · omega
   · rcases List.mem_append.1 hx with hx | hx
     · exact h.nx x hx
     · simp only [List.mem_singleton] at hx; subst hx; exact h1
 · exact ⟨h.lv,h.ly,fun x hx => by have :=h.bd x hx; omega,by have :=h.ln; omega,h.nx⟩
theorem xY {F : List (List Int)} {todo : List Int} {t : Nat} (h : t < todo.length) : cntF F (todo.take (t + 1)) = cntF F (todo.take t) + (F.getD todo[t].toNat []).length :=by
 unfold cntF
 rw [List.take_succ_eq_append_getElem h,List.map_append,List.sum_append]
 simp
theorem xX {F : List (List Int)} {todo : List Int} (t : Nat) : cntF F (todo.take t) ≤ cntF F todo :=by
 unfold cntF
 conv => rhs; rw [← List.take_append_drop t todo]
 rw [List.map_append,List.sum_append]
 omega
theorem xZ {C : List Cn} {F : List (List Int)} {s : RS} {todo : List Int} {t : Nat} (h : t < todo.length) : rnd C F s (todo.take (t + 1)) = rlxV C F (rnd C F s (todo.take t)) todo[t] :=by
 unfold rnd
 rw [List.take_succ_eq_append_getElem h,List.foldl_append]; rfl
theorem vS {C : List Cn} {v : Int} {s : RS} {l : List Int} {q : Nat} (h : q < l.length) : (l.take (q + 1)).foldl (rlx C v) s = rlx C v ((l.take q).foldl (rlx C v) s) l[q] :=by
 rw [List.take_succ_eq_append_getElem h,List.foldl_append]; rfl
theorem nF {l : List Int} (h : ∀ x ∈ l,0 ≤ x ∧ x < 5) : Todo (ddL (sortS l)) :=by
 refine ⟨lK (j8 l) (Nat.le_refl _),fun v hv => ?_⟩
 have hv :=(gH (Nat.le_refl _) v).1 hv
 rw [List.take_length] at hv
 exact h v ((eL l).mem_iff.1 hv)
end Go.Proofs.YtaolljbpencjnaaGreatDoor

