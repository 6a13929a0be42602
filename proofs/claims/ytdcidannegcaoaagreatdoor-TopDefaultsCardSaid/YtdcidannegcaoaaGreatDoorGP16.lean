/-
  Lemmas for the statement at the top.
-/
import Derived.Test.YtdcidannegcaoaaGreatDoorGP6
import Derived.Test.YtdcidannegcaoaaGreatDoorGP9
import Derived.Test.YtdcidannegcaoaaGreatDoorGP15
import Derived.Test.YtdcidannegcaoaaGreatDoorGFw5
import Derived.Test.YtdcidannegcaoaaGreatDoorGP13
import Derived.Test.YtdcidannegcaoaaGreatDoorGP14
import Derived.Shelf.SlIterI.Collect
import Derived.Test.YtdcidannegcaoaaGreatDoorGP12
set_option linter.all false
namespace Go.Proofs.YtdcidannegcaoaaGreatDoor
open Go.RowKit Go.Ab
attribute [local irreducible] AWP Go.Ab.Sub Means MeansH CallK CallG CallT CallGT PanicH DefH CallU
def usesL:List By:=[[107,116],[99],[99],[99,119,110,109],[110,114],[119,115],[119,109,115],[99,119,109,114,115],[99,110,109,114],[110,114],[99,110,109,116],[114,116],[110,114],[114],[99,116],[119,110],[99,109],[99,107],[110,109,114],[110,109,114],[110,109,114]]
@[go_sem] theorem glU:globV 0=.ro (usesL.map ss):=by rfl
abbrev eA:AV:=.agg [ii 2,ii 0,ii 0,.sl [],ii 10,ii 0,ii 0,ii 9,ii 0,ii (-1),.sl [],.sl [],ss [104,97,105,108]]
theorem E9(n:Int)(h:0≤n∧n<200):Means true Tryz.prog 78 [ii n] (bb true):=by
 refine yM true 9 [.tmp 2] [0,2] Tryz.func78 fun X hX=>?_
 (repeat(refine yA ?_;(simp[go_sem,h.1,h.2])))
theorem EA(n:Int)(h:0≤n∧n≤1048576):Means true Tryz.prog 79 [ii n] (bb true):=by
 refine yM true 9 [.tmp 2] [0,2] Tryz.func79 fun X hX=>?_
 (repeat(refine yA ?_;(simp[go_sem,h.1,h.2])))
theorem H6(n:Int)(h:0≤n∧n≤1073741824):Means true Tryz.prog 82 [ii n] (bb true):=by
 refine yM true 9 [.tmp 2] [0,2] Tryz.func82 fun X hX=>?_
 (repeat(refine yA ?_;(simp[go_sem,h.1,h.2])))
theorem J5:Means true Tryz.prog 81 [.sl []] (bb true):=by
 refine yM true 20 [.tmp 2] [0,2,3,7,19] Tryz.func81 fun X hX=>?_
 (repeat(refine yA ?_;(simp[go_sem])))
 refine aE (fun n:Nat=>⟨mkE [(0,.sl []),(3,ii 1)],[]⟩) (fun n=>n=0) (fun n=>0) 0 ?_ ?_ ?_
 ·refine yS _ [] ?_
  simp[go_sem]
 ·rfl
 rintro n-
 (repeat(refine yA ?_;(simp[go_sem])))
 refine aA (by simp[go_sem]) ?_
 (repeat(refine yA ?_;(simp[go_sem])))
theorem J6(x:Int)(hx:x=110∨x=116):Means true Tryz.prog 123 [ss [99,110,109,116],.v (.int .i32 x)] (bb true):=by
 refine vL (args:=[.string (B [99,110,109,116]),.int .i32 x]) (r:=.bool true) fun w=>?_
 refine(Tryz.strings_ContainsRune_ascii (B [99,110,109,116]) x w (by omega) (by omega)).mono fun e w' ⟨he,hw⟩=>⟨?_,hw⟩
 rw[he]
 rcases hx with rfl|rfl<;>rfl
abbrev iR(x:Int):AV:=.v (.int .i32 x)
abbrev emV:AV:=.agg [bb true,bb true,bb false,bb true,bb true,bb true,bb true,bb false]
def chN(i:Nat):Nat:=([99,119,110,109,114,107,115,116]:List Nat).getD i 0
set_option maxHeartbeats 4000000 in
set_option maxRecDepth 20000 in
theorem H7:Means true Tryz.prog 80 [eA] (bb true):=by
 have u1:usesL.length=21:=rfl
 have u2:usesL[10]? =some [99,110,109,116]:=rfl
 have c1:=fun x h=>J6 x h
 refine yM true 53 [.tmp 2] [0,1,2,3,4,5,6,38,39,40,52] Tryz.func80 fun X hX=>?_
 (iterate 7 (refine yA ?_;(simp[go_sem,u1,u2])))
 refine bA (st0:=⟨mkE [(3,ss [99,110,109,116]),(4,.el 1 8 0 0)],[.row ⟨59,13,[eA]⟩,.row ⟨195,8,[emV]⟩]⟩) ?_ ?_
 ·refine yS _ [.old 0 ⟨59,13,[eA]⟩,.old 1 ⟨195,8,[emV]⟩] ?_
  simp[go_sem]
  rfl
 refine uG (c:=chN) (D:=fun _=>True) Tryz.underlying9 ?_ (by rw[hX];decide) (by decide) (by decide) rfl rfl rfl rfl ?_ ?_
 ·decide+kernel
 ·intro X' r j hs hj
  have hX:HX X' 53 [0,1,2,3,4,5,6,38,39,40,52]:=by rw[HX,hs.n];exact hX
  have hj:j<8:=hj
  show AWP _ _ _ _ ⟨mkE ((6,iR (chN j))::(5,ii j)::(38,.v (.pointer (some ⟨r,0,none⟩)))::[(3,ss [99,110,109,116]),(4,.el 1 8 0 0)]),[.row ⟨59,13,[eA]⟩,.row ⟨195,8,[emV]⟩]⟩
  have hfin:∀{Q:Exit→St→Prop} {E:Nat→AV} {H:List Cell},Go.Ab.Sub X' ⟨mkE ((38,.v (.pointer (some ⟨r,0,none⟩)))::[(3,ss [99,110,109,116]),(4,.el 1 8 0 0)]),[.row ⟨59,13,[eA]⟩,.row ⟨195,8,[emV]⟩]⟩ ⟨E,H⟩→rngQ X' ⟨mkE ((38,.v (.pointer (some ⟨r,0,none⟩)))::[(3,ss [99,110,109,116]),(4,.el 1 8 0 0)]),[.row ⟨59,13,[eA]⟩,.row ⟨195,8,[emV]⟩]⟩ True Q .normal ⟨E,H⟩:=fun h=>⟨trivial,h⟩
  have hjj:(j=0∨j=1∨j=3∨j=4∨j=5∨j=6)∨j=2∨j=7:=by omega
  rcases hjj with(rfl|rfl|rfl|rfl|rfl|rfl)|rfl|rfl
  iterate 6
   ·(repeat(refine yA ?_;(simp[go_sem])))
    refine bT rfl ?_
    simp[go_sem]
    refine aA (by simp[go_sem]) ?_
    refine aL (hfin ?_)
    refine yS _ [.old 0 ⟨59,13,[eA]⟩,.old 1 ⟨195,8,[emV]⟩] ?_
    simp[go_sem]
  ·(repeat(refine yA ?_;(simp[go_sem])))
   refine aK (fun hg=>c1 110 (.inl rfl)) ?_
   simp[go_sem]
   refine aA (by simp[go_sem]) ?_
   refine aL (hfin ?_)
   refine yS _ [.old 0 ⟨59,13,[eA]⟩,.old 1 ⟨195,8,[emV]⟩] ?_
   simp[go_sem]
  ·(repeat(refine yA ?_;(simp[go_sem])))
   refine aK (fun hg=>c1 116 (.inr rfl)) ?_
   simp[go_sem]
   refine aA (by simp[go_sem]) ?_
   refine aL (hfin ?_)
   refine yS _ [.old 0 ⟨59,13,[eA]⟩,.old 1 ⟨195,8,[emV]⟩] ?_
   simp[go_sem]
 ·intro _ r
  simp only[blkQ,thenQ]
  (repeat(refine yA ?_;(simp[go_sem])))
theorem J7:Means true Tryz.prog 83 [il [5,6,7],ii 10] (bb false):=by
 have c1:Means true Tryz.prog 124 [il [5,6,7],ii 10] (ii (-1)):=by
  have w1:IntKind.i64.wrap 1=1:=by decide
  have w2:IntKind.i64.wrap 2=2:=by decide
  have w3:IntKind.i64.wrap 3=3:=by decide
  refine yM true 19 [.tmp 4] [0,1,4,5,7,8,9,16] Tryz.func124 fun X hX=>?_
  (repeat(refine yA ?_;(simp[go_sem])))
  refine bU 3 ?_
  (repeat(refine yA ?_;(simp[go_sem,w1,w2,w3])));(repeat(first|(refine aD ?_ ?_;(focus(simp[go_sem,w1,w2,w3];done));(repeat(refine yA ?_;(simp[go_sem,w1,w2,w3]))))|(refine aA ?_ ?_;(focus(simp[go_sem,w1,w2,w3];done));(repeat(refine yA ?_;(simp[go_sem,w1,w2,w3]))))))
 refine yM true 9 [.tmp 4] [0,1,4] Tryz.func83 fun X hX=>?_
 (repeat(refine yA ?_;(simp[go_sem])))
 refine aC c1 ?_
 simp[go_sem]
 (repeat(refine yA ?_;(simp[go_sem])))
set_option maxHeartbeats 4000000 in
set_option maxRecDepth 20000 in
theorem J8:Means true Tryz.prog 86 [eA] (bb true):=by
 have c1:=EA 0 (by decide)
 refine yM true 189 [.tmp 2] [0,1,2,3,13,14,29,44,49,64,87,95,108,114,129,141,153,174] Tryz.func86 fun X hX=>?_
 (repeat(refine yA ?_;(simp[go_sem])));(repeat(first|(refine aD ?_ ?_;(focus(simp[go_sem];done));(repeat(refine yA ?_;(simp[go_sem]))))|(refine aA ?_ ?_;(focus(simp[go_sem];done));(repeat(refine yA ?_;(simp[go_sem]))))))
 refine aK (fun hg=>c1) ?_
 simp[go_sem]
 (repeat(refine yA ?_;(simp[go_sem])))
set_option maxHeartbeats 4000000 in
set_option maxRecDepth 20000 in
theorem EB:Means true Tryz.prog 36 [eA] (bb true):=by
 have c1:=E9 2 (by decide)
 have c2:=EA 0 (by decide)
 have c3:=H7
 have c4:=J5
 have c5:=J7
 have c6:=H6 0 (by decide)
 have c7:=E9 0 (by decide)
 have c8:=J8
 have hn0:nth ([]:List AV) 0=.bad:=rfl
 have w1:IntKind.i64.wrap (-1)= -1:=by decide
 refine yM true 132 [.tmp 2] [0,1,2,3,4,5,40,73,96,129] Tryz.func36 fun X hX=>?_
 (repeat(refine yA ?_;(simp[go_sem])))
 refine aC c1 ?_
 simp[go_sem]
 refine aK (fun hg=>c2) ?_
 simp[go_sem]
 refine aK (fun hg=>c3) ?_
 simp[go_sem]
 (repeat(refine aA ?_ ?_;(focus(simp[go_sem];done));(repeat(refine yA ?_;(simp[go_sem])))))
 refine aK (fun hg=>c4) ?_
 simp[go_sem,hn0]
 refine bB (Hl:=[]) (largs:=[.bad]) (r0:=bb true) [] (fun hg=>by cases hg) (by simp[go_sem]) (by simp[go_sem]) ?_
 simp[go_sem,hn0,w1]
 refine bB (Hl:=[]) (largs:=[.bad]) (r0:=bb true) [] (fun hg=>by cases hg) (by simp[go_sem]) (by simp[go_sem]) ?_
 simp[go_sem,hn0,w1]
 (repeat(refine aA ?_ ?_;(focus(simp[go_sem];done));(repeat(refine yA ?_;(simp[go_sem])))))
 refine aC c5 ?_
 simp[go_sem]
 (repeat(refine yA ?_;(simp[go_sem])))
 refine aK (r:=bb true) (fr:=true) (fun hg=>by cases hg) ?_
 simp[go_sem]
 (repeat(refine aA ?_ ?_;(focus(simp[go_sem];done));(repeat(refine yA ?_;(simp[go_sem])))))
 refine aK (r:=bb true) (fr:=true) (fun hg=>by cases hg) ?_
 simp[go_sem]
 refine aK (fun hg=>c6) ?_
 simp[go_sem]
 refine aK (fun hg=>c7) ?_
 simp[go_sem]
 (repeat(refine aA ?_ ?_;(focus(simp[go_sem];done));(repeat(refine yA ?_;(simp[go_sem])))))
 refine aC c8 ?_
 simp[go_sem]
 (repeat(refine yA ?_;(simp[go_sem])))
end Go.Proofs.YtdcidannegcaoaaGreatDoor

namespace Go.Proofs.YtdcidannegcaoaaGreatDoor
open Go.RowKit Go.Ab
attribute [local irreducible] AWP Go.Ab.Sub Means MeansH CallK CallG CallT CallGT PanicH DefH CallU
theorem w1':IntKind.i64.wrap 1=1:=by decide
theorem J9:Means true Tryz.prog 124 [il [],ii 1] (ii (-1)):=by
 refine yM true 19 [.tmp 4] [0,1,4,5,7,8,9,16] Tryz.func124 fun X hX=>?_
 (repeat(refine yA ?_;(simp[go_sem])))
 refine bU 0 ?_
 (repeat(refine yA ?_;(simp[go_sem,w1'])));(repeat(refine aA ?_ ?_;(focus(simp[go_sem,w1'];done));(repeat(refine yA ?_;(simp[go_sem,w1'])))))
theorem JA:Means true Tryz.prog 124 [il [1],ii 1] (ii 0):=by
 refine yM true 19 [.tmp 4] [0,1,4,5,7,8,9,16] Tryz.func124 fun X hX=>?_
 (repeat(refine yA ?_;(simp[go_sem])))
 refine bU 1 ?_
 (repeat(refine yA ?_;(simp[go_sem,w1'])));(repeat(refine aD ?_ ?_;(focus(simp[go_sem,w1'];done));(repeat(refine yA ?_;(simp[go_sem,w1'])))))
theorem EC:Means true Tryz.prog 83 [il [],ii 1] (bb false):=by
 refine yM true 9 [.tmp 4] [0,1,4] Tryz.func83 fun X hX=>?_
 (repeat(refine yA ?_;(simp[go_sem])))
 refine aC J9 ?_
 simp[go_sem]
 (repeat(refine yA ?_;(simp[go_sem])))
theorem JB:Means true Tryz.prog 83 [il [1],ii 1] (bb true):=by
 refine yM true 9 [.tmp 4] [0,1,4] Tryz.func83 fun X hX=>?_
 (repeat(refine yA ?_;(simp[go_sem])))
 refine aC JA ?_
 simp[go_sem]
 (repeat(refine yA ?_;(simp[go_sem])))
set_option maxHeartbeats 4000000 in
theorem ED:Means true Tryz.prog 126 [il [1]] (bb true):=by
 refine yM true 34 [.tmp 2] [0,2,3,4,12,13,14,15,16,32] Tryz.func126 fun X hX=>?_
 (repeat(refine yA ?_;(simp[go_sem,w1'])));(repeat(refine aA ?_ ?_;(focus(simp[go_sem,w1'];done));(repeat(refine yA ?_;(simp[go_sem,w1'])))))
 refine bU 1 ?_
 (repeat(refine yA ?_;(simp[go_sem,w1'])));(repeat(refine aD ?_ ?_;(focus(simp[go_sem,w1'];done));(repeat(refine yA ?_;(simp[go_sem,w1'])))))
 refine aK (fun hg=>EC) ?_
 simp[go_sem]
 (repeat(refine aA ?_ ?_;(focus(simp[go_sem,w1'];done));(repeat(refine yA ?_;(simp[go_sem,w1'])))))
set_option maxHeartbeats 4000000 in
theorem EE:Means true Tryz.prog 163 [il [1]] (bb true):=by
 refine yM true 34 [.tmp 2] [0,2,3,4,12,13,14,15,16,32] Tryz.func163 fun X hX=>?_
 (repeat(refine yA ?_;(simp[go_sem,w1'])));(repeat(refine aA ?_ ?_;(focus(simp[go_sem,w1'];done));(repeat(refine yA ?_;(simp[go_sem,w1'])))))
 refine bU 1 ?_
 (repeat(refine yA ?_;(simp[go_sem,w1'])));(repeat(refine aD ?_ ?_;(focus(simp[go_sem,w1'];done));(repeat(refine yA ?_;(simp[go_sem,w1'])))))
 refine aK (fun hg=>EC) ?_
 simp[go_sem]
 (repeat(refine aA ?_ ?_;(focus(simp[go_sem,w1'];done));(repeat(refine yA ?_;(simp[go_sem,w1'])))))
abbrev voE:AV:=.agg [ii 0,ii 1,bb true,ii 0]
@[go_sem] theorem tM(a b:Int):keyEq Tryz.prog 3 (ii a) (ii b)=some (decide (a=b)):=by
  simp only[keyEq,tk3,eqV,if_true]
  rw[K2]
@[go_sem] theorem look_no:lookA Tryz.prog 3 4 (ii 1) [] false=some (bb false):=by
  simp only[lookA,findA,tk4]
  rfl
set_option maxHeartbeats 4000000 in
theorem AN:Means true Tryz.prog 127 [il [1],.sl [voE],ii 0] (.sl [voE]):=by
 have hu:updA Tryz.prog 3 (ii 1) (bb true) []=some [(ii 1,bb true)]:=rfl
 refine yM true 47 [.tmp 6] [0,1,2,6,7,8,10,13,15,16,17,18,37] Tryz.func127 fun X hX=>?_
 (repeat(refine yA ?_;(simp[go_sem,w1'])))
 refine aC EE ?_
 simp[go_sem]
 (repeat(refine aA ?_ ?_;(focus(simp[go_sem,w1'];done));(repeat(refine yA ?_;(simp[go_sem,w1'])))))
 refine bU 1 ?_
 (repeat(refine yA ?_;(simp[go_sem,hu,w1'])));(repeat(refine aD ?_ ?_;(focus(simp[go_sem,hu,w1'];done));(repeat(refine yA ?_;(simp[go_sem,hu,w1'])))))
 refine aK (fun hg=>JB) ?_
 simp[go_sem]
 (repeat(refine aA ?_ ?_;(focus(simp[go_sem,hu,w1'];done));(repeat(refine yA ?_;(simp[go_sem,hu,w1'])))))
 refine⟨by unfold maxLen;omega,?_⟩
 (repeat(refine yA ?_;(simp[go_sem,w1'])));(repeat(refine aA ?_ ?_;(focus(simp[go_sem,w1'];done));(repeat(refine yA ?_;(simp[go_sem,w1'])))))
set_option maxHeartbeats 4000000 in
theorem vX:Means true Tryz.prog 87 [il [1],.sl [voE]] (.tup [ii 1,ii 0]):=by
 have w2:IntKind.i64.wrap 0=0:=by decide
 have m0:max (0:Int) 0=0:=by decide
 have q1:Int.tdiv 1 2=0:=by decide
 refine yM true 61 [.tmp 4,.tmp 5] [0,1,4,5,6,8,9,10,12,13,16,17,18,19,20,32,33,34,35,39,47,51] Tryz.func87 fun X hX=>?_
 (repeat(refine yA ?_;(simp[go_sem])))
 refine aC ED ?_
 simp[go_sem]
 (repeat(refine aA ?_ ?_;(focus(simp[go_sem];done));(repeat(refine yA ?_;(simp[go_sem])))))
 refine bU 1 ?_
 (repeat(refine yA ?_;(simp[go_sem,w1',m0])));(repeat(first|(refine aD ?_ ?_;(focus(simp[go_sem,w1',m0];done));(repeat(refine yA ?_;(simp[go_sem,w1',m0]))))|(refine aA ?_ ?_;(focus(simp[go_sem,w1',m0];done));(repeat(refine yA ?_;(simp[go_sem,w1',m0]))))))
 refine aC AN ?_
 simp[go_sem]
 (repeat(refine yA ?_;(simp[go_sem])))
 refine bU 1 ?_
 (repeat(refine yA ?_;(simp[go_sem,w1',w2,q1])));(repeat(first|(refine aD ?_ ?_;(focus(simp[go_sem,w1',w2,q1];done));(repeat(refine yA ?_;(simp[go_sem,w1',w2,q1]))))|(refine aA ?_ ?_;(focus(simp[go_sem,w1',w2,q1];done));(repeat(refine yA ?_;(simp[go_sem,w1',w2,q1]))))))
abbrev clV(pr st gr fr:Int):AV:=.agg [ii 5,ii 0,ii 2,ii 9,ii 0,ii 0,ii pr,il [1],il [],ii st,ii gr,ii fr]
theorem AO(pr st gr fr:Int):Means true Tryz.prog 39 [clV pr st gr fr,.sl [voE]] (ii 1):=by
 refine yM true 25 [.tmp 4] [0,1,2,4,5,6,7,13,23] Tryz.func39 fun X hX=>?_
 (repeat(refine yA ?_;(simp[go_sem])));(repeat(refine aA ?_ ?_;(focus(simp[go_sem];done));(repeat(refine yA ?_;(simp[go_sem])))))
 refine aC vX ?_
 simp[go_sem]
 (repeat(refine yA ?_;(simp[go_sem])));(repeat(refine aA ?_ ?_;(focus(simp[go_sem];done));(repeat(refine yA ?_;(simp[go_sem])))))
theorem tN(pr st gr fr:Int):Means false Tryz.prog 37 [clV pr st gr fr] (clV pr st gr fr):=by
 have c1:=lR [1] (by simp)
 have c2:=lR [] (by simp)
 refine yM false 12 [.cell 2 54] [0,1,2] Tryz.func37 fun X hX=>?_
 (repeat(refine yA ?_;(simp[go_sem])))
 refine fB c1 ?_
 simp[go_sem]
 refine fB c2 ?_
 (simp[go_sem];try(refine⟨by kernel_rfl,?_⟩))
 (repeat(refine yA ?_;(simp[go_sem])))
theorem H8:Means false Tryz.prog 16 [clV 0 0 0 0] (.tup [clV 1 0 0 0,ii 0]):=by
 have c1:=tN 0 0 0 0
 refine yM false 21 [.cell 2 54,.tmp 3] [0,1,2,3,6,11] Tryz.func16 fun X hX=>?_
 (repeat(refine yA ?_;(simp[go_sem])))
 refine aC c1 ?_
 simp[go_sem]
 (repeat(refine yA ?_;(simp[go_sem,w1'])));(repeat(refine aA ?_ ?_;(focus(simp[go_sem,w1'];done));(repeat(refine yA ?_;(simp[go_sem,w1'])))))
theorem JC(n:Int)(h:0≤n∧n≤1048576):Means true Tryz.prog 38 [ii n] (bb true):=by
 refine yM true 9 [.tmp 2] [0,2] Tryz.func38 fun X hX=>?_
 (repeat(refine yA ?_;(simp[go_sem,h.1,h.2])))
set_option maxHeartbeats 4000000 in
theorem JD(b:Bl)(h:OkB b)(hw:b.wait=0):Means false Tryz.prog 17 [clV 1 0 0 0,bl b,ii 4,.sl [voE],ii 0] (clV 1 2 4 1):=by
 have c1:=tN 1 0 0 0
 have c2:=eN b h
 have c3:=JC 0 (by decide)
 have c4:=AO 1 0 0 0
 have hp:=h.period
 refine yM false 88 [.cell 10 54] [0,1,2,3,4,5,6,10,11,12,22,26,35,56,85] Tryz.func17 fun X hX=>?_
 (repeat(refine yA ?_;(simp[go_sem])))
 refine aC c1 ?_
 simp[go_sem]
 (repeat(refine yA ?_;(simp[go_sem])))
 refine aC c2 ?_
 simp[go_sem]
 refine aK (fun hg=>c3) ?_
 simp[go_sem]
 (repeat(first|(refine aD ?_ ?_;(focus(simp[go_sem];done));(repeat(refine yA ?_;(simp[go_sem]))))|(refine aA ?_ ?_;(focus(simp[go_sem];done));(repeat(refine yA ?_;(simp[go_sem]))))))
 refine aC c4 ?_
 simp[go_sem]
 have m4:max (min (9:Int) 4) 0=4:=by decide
 (repeat(refine yA ?_;(simp[go_sem,hw,w1',m4])));(repeat(refine aD ?_ ?_;(focus(simp[go_sem,hw,w1',m4];done));(repeat(refine yA ?_;(simp[go_sem,hw,w1',m4];try(refine⟨by kernel_rfl,?_⟩))))))
set_option maxHeartbeats 4000000 in
theorem JE:Means false Tryz.prog 15 [eA,ii 5,il [1]] (.tup [clV 0 0 0 0,ii 0]):=by
 have c1:=EB
 have c2:=lR [1] (by simp)
 refine yM false 49 [.cell 6 54,.tmp 7] [0,1,2,3,6,7,8,26] Tryz.func15 fun X hX=>?_
 (repeat(refine yA ?_;(simp[go_sem])))
 refine aC c1 ?_
 simp[go_sem]
 (repeat(refine aA ?_ ?_;(focus(simp[go_sem];done));(repeat(refine yA ?_;(simp[go_sem])))))
 refine fB c2 ?_
 (simp[go_sem];try(refine⟨by kernel_rfl,?_⟩))
 (repeat(refine yA ?_;(simp[go_sem])))
end Go.Proofs.YtdcidannegcaoaaGreatDoor

namespace Go.Proofs.YtdcidannegcaoaaGreatDoor
open Go.RowKit Go.Ab
attribute [local irreducible] AWP Go.Ab.Sub Means MeansH CallK CallG CallT CallGT PanicH DefH CallU MeansS
def txt:By:=[99,105,114,99,108,101,32,114,111,116,97,116,105,110,103,32,59,32,112,101,114,105,111,100,32,55,32,100,97,121,115,32,59,32,108,97,115,116,32,51,32,59,32,103,114,97,99,101,32,50,32,100,97,121,115,32,59,32,106,117,114,121,32,49,32,59,32,102,117,110,100,32,49,48,48,32,112,101,114,32,109,105,108,108,101,32,59,32,100,117,101,32,49,48,32,99,111,105,110,115,32,42,32,109,101,109,98,101,114,115,32,59,32,102,105,110,101,32,49,32,99,111,105,110,115,32,42,32,40,32,108,97,116,101,32,47,32,49,32,100,97,121,115,32,41,32,59,32,99,111,118,101,114,32,112,97,105,100,32,59]
theorem H9:Means true Tryz.prog 14 [] (ss txt):=by
 refine yM true 1 [.tmp 0] [0] Tryz.func14 fun X hX=>?_
 (repeat(refine yA ?_;(simp[go_sem])))
 rfl
structure IsEx(b:Bl):Prop where
 ok:OkB b
 lets:b.lets=[]
 period:b.period=7
 grace:b.grace=2
 last:b.last=3
 wait:b.wait=0
 due:b.due=.bin 4 (.num 10 3) (.nam [109,101,109,98,101,114,115])
 fine:b.fine=.bin 4 (.num 1 3) (.bin 5 (.nam [108,97,116,101]) (.num 1 2))
def bEx:Bl:=⟨0,7,2,0,3,0,false,0,0,1,100,[],.bin 4 (.num 10 3) (.nam [109,101,109,98,101,114,115]),.bin 4 (.num 1 3) (.bin 5 (.nam [108,97,116,101]) (.num 1 2)),.num 0 3,.nam [112,97,105,100],.num 0 3⟩
theorem iF:parseT txt=(bEx,0,0):=by decide+kernel
theorem AP:rulesV txt 2=0:=by
 unfold rulesV
 rw[iF]
 have e1:(unitsU bEx).2=0:=by decide+kernel
 have e2:solvE (calL bEx.period bEx.wait bEx.grace) FF=0:=by decide+kernel
 simp only[e1,e2,if_true]
 rfl
theorem KP:IsEx bEx:=⟨by have:=gY (s:=txt) (by rw[iF]);rw[iF]at this;exact this,rfl,rfl,rfl,rfl,rfl,rfl,rfl⟩
set_option maxHeartbeats 8000000 in
set_option maxRecDepth 20000 in
theorem FB:Means true Tryz.prog 4 [] (bb true):=by
 have c0:=H9
 have c1:=lN txt
 rw[iF]at c1
 have c6:=rY txt 2
 rw[AP]at c6
 have hx:=KP
 simp only at c1
 generalize bEx=b at c1 hx
 generalize txt=T at*
 have c2:=IW b hx.ok hx.lets hx.period hx.grace hx.last hx.due hx.fine
 have c3:=JE
 have c4:=H8
 have c5:=JD b hx.ok hx.wait
 refine yM true 104 [.tmp 0] [0,1,3,4,5,6,7,8,55] Tryz.func4 fun X hX=>?_
 (repeat(refine yA ?_;(simp[go_sem])))
 refine aC c0 ?_
 simp[go_sem]
 refine aC c1 ?_
 simp[go_sem]
 (repeat(refine yA ?_;(simp[go_sem])))
 refine aC c2 ?_
 simp[go_sem]
 (repeat(refine yA ?_;(simp[go_sem])))
 refine jZ (c3) rfl rfl ?_
 simp[go_sem]
 (repeat(refine yA ?_;(simp[go_sem])))
 refine aC c4 ?_
 simp[go_sem]
 (repeat(refine yA ?_;(simp[go_sem])))
 refine jZ (c5) rfl rfl ?_
 simp[go_sem]
 (repeat(refine yA ?_;(simp[go_sem])));(repeat(refine aA ?_ ?_;(focus(simp[go_sem];done));(repeat(refine yA ?_;(simp[go_sem])))))
 refine aC c0 ?_
 simp[go_sem]
 refine aC c6 ?_
 simp[go_sem]
 (repeat(refine yA ?_;(simp[go_sem])))
end Go.Proofs.YtdcidannegcaoaaGreatDoor

namespace Go.Proofs.YtdcidannegcaoaaGreatDoor
open Go.RowKit Go.Ab
attribute [local irreducible] AWP Go.Ab.Sub Means MeansH MeansE CallK CallG CallT CallGT PanicH PanicX DefH CallU
def amt(x:Int):Bool:=decide (0≤x)&&decide (x≤1099511627776)
theorem tO(x:Int):Means true Tryz.prog 35 [ii x] (bb (amt x)):=by
 unfold amt
 refine yM true 9 [.tmp 2] [0,2] Tryz.func35 fun X hX=>?_
 (repeat(refine yA ?_;(simp[go_sem])))
def rowR(n:Int):List Int→List Int→Bool
 |_,[]=>true
 |S,g::l=>if g<0∨n≤g∨g∈S then false else rowR n (S++[g]) l
def itR(D:List Int)(G:List (List Int))(M:List Int)(i:Nat):Bool:=rowR D.length [(i:Int)] (G.getD i [])&&amt (D.getD i 0)&&amt (M.getD i 0)
def rightB(D:List Int)(G:List (List Int))(M:List Int):Bool:=decide (D.length≤60)&&decide (G.length=D.length)&&decide (M.length=D.length)&&(List.range D.length).all (itR D G M)
def seenN(l:List Int):List (AV×AV):=l.map fun x=>(ii x,bb true)
@[go_sem] theorem seenN_nil:seenN []=[]:=rfl
theorem vY(x:Int)(l:List Int):findA Tryz.prog 3 (ii x) (seenN l)=some (if x∈l then some (bb true)else none):=by
 induction l with
 |nil=>rfl
 |cons v l ih=>
  simp only[seenN]at ih
  simp only[seenN,List.map_cons,findA,tM]
  rw[ih]
  by_cases h:x=v
  ·simp[h]
  ·simp[h]
theorem tP(x:Int)(l:List Int):lookA Tryz.prog 3 4 (ii x) (seenN l) false=some (bb (decide (x∈l))):=by
 unfold lookA
 rw[vY,tk4]
 by_cases h:x∈l<;>simp only[h,if_true,if_false,foundA]<;>simp
theorem nI(x:Int):∀(l:List Int),x∉l→updA Tryz.prog 3 (ii x) (bb true) (seenN l)=some (seenN (l++[x]))
 | [],_=>rfl
 |v::l,h=>by
  simp only[List.mem_cons,not_or]at h
  have:=nI x l h.2
  simp only[seenN,List.map_cons,updA,tM,h.1,decide_false,List.cons_append]
  simp only[seenN]at this
  rw[this];rfl
set_option maxHeartbeats 8000000 in
set_option maxRecDepth 20000 in
theorem rV(D:List Int)(G:List (List Int))(M:List Int)(hG:∀l∈G,l.length≤8):Means true Tryz.prog 12 [il D,.sl (G.map il),il M] (bb (rightB D G M)):=by
 refine yM true 75 [.tmp 6] [0,1,2,6,7,8,9,10,12,28,29,30,31,32,39,40,41,42,56,73] Tryz.func12 fun X hX=>?_
 (repeat(refine yA ?_;(simp[go_sem])))
 refine yC (decide (60<D.length)|| !decide (G.length=D.length)|| !decide (M.length=D.length)) (fun hd=>?_) (fun hd=>?_) (by simp[go_sem];first|done|(rw[Bool.eq_iff_iff];simp;omega))
 ·have e:rightB D G M=false:=by
   unfold rightB
   simp only[Bool.or_eq_true,decide_eq_true_eq,Bool.not_eq_true',decide_eq_false_iff_not]at hd
   rcases hd with(hd|hd)|hd
   ·rw[decide_eq_false (show ¬D.length≤60 by omega)];rfl
   ·rw[decide_eq_false hd];simp
   ·rw[decide_eq_false hd];simp
  (repeat(refine yA ?_;(simp[go_sem,e])))
 simp only[Bool.or_eq_false_iff,decide_eq_false_iff_not,Bool.not_eq_false',decide_eq_true_eq]at hd
 obtain⟨⟨h60,hGl⟩,hMl⟩:=hd
 have e0:rightB D G M=(List.range D.length).all (itR D G M):=by
  unfold rightB
  rw[decide_eq_true (show D.length≤60 by omega),decide_eq_true hGl,decide_eq_true hMl];rfl
 rw[e0]
 (repeat(refine yA ?_;(simp[go_sem])))
 refine aE (fun k:Nat=>⟨mkE [(0,il D),(2,il M),(7,ii D.length),(29,.sl (G.map il)),(30,ii G.length),(31,ii k)],[]⟩) (fun k=>k≤D.length∧∀j,j<k→itR D G M j=true) (fun k=>D.length-k) 0 ?_ ?_ ?_
 ·refine yS _ [] ?_
  simp[go_sem]
 ·exact⟨Nat.zero_le _,fun j hj=>by omega⟩
 ·rintro i ⟨h1,h2⟩
  (repeat(refine yA ?_;(simp[go_sem])))
  refine yC (decide (i<G.length)) (fun hc=>?_) fun hc=>?_
  ·simp at hc
   have hq:=uK hc
   have hr:=hG _ (List.getElem_mem hc)
   have wi:=w64 (x:=(i:Int)+1) (by omega) (by omega)
   have hD:i<D.length:=by omega
   have hM:i<M.length:=by omega
   have e1:itR D G M i=(rowR D.length [(i:Int)] G[i]&&amt D[i]&&amt M[i]):=by
    unfold itR
    simp only[List.getD_eq_getElem?_getD,List.getElem?_eq_getElem hc,List.getElem?_eq_getElem hD,List.getElem?_eq_getElem hM,Option.getD_some]
   have c1:=tO D[i]
   have c2:=tO M[i]
   generalize hR:G[i]=R at*
   (iterate 5 (refine yA ?_;(simp[go_sem,hc,hq,hR])))
   refine aT ?_
   refine m9 [0,2,6,7,8,9,10,29,30,31] hX ?_
   simp[go_sem,normO,updA]
   refine bA (st0:=⟨mkE [(0,il D),(2,il M),(7,ii D.length),(8,ii i),(9,il R),(10,.ow 0),(29,.sl (G.map il)),(30,ii G.length),(31,ii i)],[.map ⟨3,4,seenN [(i:Int)]⟩]⟩) ?_ ?_
   ·refine yS _ [.oldM 0 ⟨3,4,seenN [(i:Int)]⟩] ?_ (by simp[go_sem,seenN])
    simp[go_sem,seenN]
   (repeat(refine yA ?_;(simp[go_sem])))
   have bad:rowR D.length [(i:Int)] R=false∨amt D[i]=false∨amt M[i]=false→(List.range D.length).all (itR D G M)=false:=fun h=>by
    rw[List.all_eq_false]
    refine⟨i,by simp;omega,?_⟩
    rw[e1]
    rcases h with h|h|h<;>simp[h]
   refine aE (fun k:Nat=>⟨mkE [(0,il D),(2,il M),(7,ii D.length),(8,ii i),(10,.ow 0),(29,.sl (G.map il)),(30,ii G.length),(31,ii i),(39,il R),(40,ii R.length),(41,ii k)],[.map ⟨3,4,seenN ((i:Int)::R.take k)⟩]⟩) (fun k=>k≤R.length∧rowR D.length ((i:Int)::R.take k) (R.drop k)=rowR D.length [(i:Int)] R) (fun k=>R.length-k) 0 ?_ ?_ ?_
   ·refine yS _ [.oldM 0 ⟨3,4,seenN [(i:Int)]⟩] ?_
    simp[go_sem]
   ·simp
   ·rintro k ⟨k1,k2⟩
    (repeat(refine yA ?_;(simp[go_sem])))
    refine yC (decide (k<R.length)) (fun hk=>?_) fun hk=>?_
    ·simp at hk
     have hq2:=cK hk
     have hlo:=tP R[k] ((i:Int)::R.take k)
     have hup:=nI R[k] ((i:Int)::R.take k)
     have htk:(i:Int)::R.take (k+1)=(i:Int)::R.take k++[R[k]]:=by rw[List.take_succ_eq_append_getElem hk];rfl
     have wk:=w64 (x:=(k:Int)+1) (by omega) (by omega)
     rw[List.drop_eq_getElem_cons hk,rowR]at k2
     rw[←htk]at k2 hup
     generalize R[k]=g at*
     (repeat(refine yA ?_;(simp[go_sem,hk,hq2,hlo])))
     refine yC (decide (g<0)||decide ((D.length:Int)≤g)||decide (g∈(i:Int)::R.take k)) (fun hd=>?_) fun hd=>?_
     ·have hd:g<0∨(D.length:Int)≤g∨g∈(i:Int)::R.take k:=by simpa[or_assoc]using hd
      rw[if_pos hd]at k2
      have e:=bad (.inl k2.symm)
      (repeat(refine yA ?_;(simp[go_sem,e])))
     ·have hd:¬(g<0∨(D.length:Int)≤g∨g∈(i:Int)::R.take k):=by simpa[or_assoc,and_assoc]using hd
      rw[if_neg hd]at k2
      have hu:=hup fun h=>hd (.inr (.inr h))
      (repeat(refine yA ?_;(simp[go_sem,hu,wk])))
      refine⟨k+1,⟨by omega,k2⟩,by omega,?_⟩
      refine yS _ [.oldM 0 ⟨3,4,seenN ((i:Int)::R.take (k+1))⟩] ?_
      simp[go_sem]
    ·have hnn:k=R.length:=by simp at hk;omega
     subst hnn
     have hrow:rowR D.length [(i:Int)] R=true:=by rw[←k2];simp[rowR]
     rw[hrow]at e1
     (repeat(refine yA ?_;(simp[go_sem,hD,hM])))
     refine aC c1 ?_
     simp[go_sem,hM]
     refine aK (fun hg=>c2) ?_
     simp[go_sem]
     refine yC (!amt D[i]|| !amt M[i]) (fun hd=>?_) fun hd=>?_
     ·have e:=bad (.inr (by simpa using hd))
      (repeat(refine yA ?_;(simp[go_sem,e])))
     ·simp only[Bool.or_eq_false_iff,Bool.not_eq_false']at hd
      (repeat(refine yA ?_;(simp[go_sem,wi])))
      refine⟨i+1,⟨by omega,fun j hj=>?_⟩,by omega,?_⟩
      ·rcases Nat.lt_succ_iff_lt_or_eq.1 hj with hj|rfl
       ·exact h2 j hj
       ·rw[e1,hd.1,hd.2];rfl
      refine yS _ [] ?_
      simp[go_sem]
  ·have e:(List.range D.length).all (itR D G M)=true:=by
    rw[List.all_eq_true]
    intro j hj
    exact h2 j (by simp at hc hj;omega)
   rw[e]
   (repeat(refine yA ?_;(simp[go_sem])))
end Go.Proofs.YtdcidannegcaoaaGreatDoor

namespace Go.Proofs.YtdcidannegcaoaaGreatDoor
open Go.RowKit Go.Shelf Go.Maps Go.Sort Go.Ab
def iRen:Ren:=⟨fun|11=>181|n=>n,fun|0=>0|24=>22|26=>3|28=>192|33=>100|n=>n,fun n=>n⟩
theorem KI:SlLaysZI.n11 Tryz.prog iRen:={
 mixed:=by kernel_rfl
 f11:=⟨ "slices.AppendSeq[[]int,int]",by decide,Tryz.func181.trans (congrArg some (by kernel_rfl))⟩
 t0:=Tryz.underlying0
 a0:=Tryz.isAgg0
 z0:=Tryz.sizeOf0
 v0:=Tryz.zeroValue0
 t24:=Tryz.underlying22
 a24:=Tryz.isAgg22
 z24:=Tryz.sizeOf22
 v24:=Tryz.zeroValue22
 t26:=Tryz.underlying3
 a26:=Tryz.isAgg3
 z26:=Tryz.sizeOf3
 v26:=Tryz.zeroValue3
 t28:=Tryz.underlying192
 a28:=Tryz.isAgg192
 z28:=Tryz.sizeOf192
 v28:=Tryz.zeroValue192
 i26:=by kernel_rfl}
set_option maxRecDepth 100000 in
set_option maxHeartbeats 2000000 in
theorem KJ(n l Bs b off cap:Nat)(hn:1≤n)(zs:List Int)(hreach:zs.length*8≤140737488351232)(J:List Int→World→Prop)
  (hY:∀pre x W,J pre W→pre.length<zs.length→YieldAt Fence.wide (n-1) Tryz.prog l #[.int .i64 x] W fun e W'=>e=.returned (.bool true)∧J (pre++[x]) W'∧KeepsWalks W W')
  (hc:∀pre W,J pre W→∀j (h:j<zs.length),W.cell? ⟨b,off+j,none⟩=some (.int .i64 zs[j]))
  (W:World) (hBs:W.cell? ⟨Bs,0,none⟩=some (.slice (some ⟨b,off,none⟩) zs.length cap)) (h0:J [] W):
  CallsIn Fence.wide n Tryz.prog 161 #[.func (.yield l) #[] #[],.pointer (some ⟨Bs,0,none⟩)] W fun e W'=>(∃v,e=.returned v)∧J zs W':=by
 refine callsIn_of_wp Tryz.func161 rfl trivial ?_ rfl
 simp only[Tryz.ntmps161,List.size_toArray,List.length_cons,List.length_nil,Nat.reduceAdd,Nat.reduceSub,Array.replicate_succ,Array.replicate_zero,List.push_toArray,List.append_toArray,List.nil_append,List.cons_append]
 obtain⟨len,hlen⟩:∃len,zs.length=len:=⟨_,rfl⟩
 rw[hlen]at hBs hreach
 gi_wp2
 gi_loopw [7] (fun i wr=>∃k:Nat,k≤len∧i=.int .i64 k∧J (zs.take k) wr)
  (fun i _=>len-(match i with| .int _ k=>k.toNat|_=>0))
 case atStart=>exact⟨0,Nat.zero_le _,rfl,h0⟩
 case round=>
  obtain⟨k,hk,rfl,hJs⟩:=hrel
  by_cases hlt:k<len
  ·have hkz:k<zs.length:=by omega
   obtain⟨fn,tmps,assign,body,hy,hR⟩:=hY _ zs[k] wr hJs (by simp;omega)
   have hcx':=hc _ _ hJs k hkz
   gi_wp2
   refine hR.mono ?_
   rintro e W3 ⟨rfl,hJ3,hk3⟩
   gi_wp2
   go_roundw
   case rel=>exact⟨k+1,by omega,by simp,by rw[List.take_succ_eq_append_getElem hkz];exact hJ3⟩
   case measure=>simp;omega
  ·obtain rfl:k=len:=by omega
   gi_wp2
   go_end0
   rw[List.take_of_length_le (by omega)]at hJs
   exact⟨⟨_,rfl⟩,hJs⟩
set_option maxRecDepth 100000 in
set_option maxHeartbeats 1000000 in
theorem AQ(n l Bs:Nat)(J:List Int→World→Prop)(W:World)(hBs:W.cell? ⟨Bs,0,none⟩=some (.slice none 0 0))(h0:J [] W):
  CallsIn Fence.wide n Tryz.prog 161 #[.func (.yield l) #[] #[],.pointer (some ⟨Bs,0,none⟩)] W fun e W'=>(∃v,e=.returned v)∧J [] W':=by
 refine callsIn_of_wp Tryz.func161 rfl trivial ?_ rfl
 simp only[Tryz.ntmps161,List.size_toArray,List.length_cons,List.length_nil,Nat.reduceAdd,Nat.reduceSub,Array.replicate_succ,Array.replicate_zero,List.push_toArray,List.append_toArray,List.nil_append,List.cons_append]
 gi_wp2
 gi_loopw [7] (fun i wr=>i=.int .i64 0∧J [] wr) (fun _ _=>0)
 case atStart=>exact⟨rfl,h0⟩
 case round=>
  obtain⟨rfl,hJs⟩:=hrel
  gi_wp2
  go_end0
  exact⟨⟨_,rfl⟩,hJs⟩
section
variable{P:Program}{ρ:Ren}
set_option maxRecDepth 100000 in
set_option maxHeartbeats 2000000 in
theorem JF(L:SlLaysZI.n11 P ρ)(F:Fence)(n:Nat)(h11:F.fn (ρ.f 11))(hro:F.round=none)(hn:2≤n)(g:Nat)(lb:Array Value)(hFg:F.fn g)(eg:∀args w,(callFunc g args).run P w=.ok (.enter g args) w)
  (S:List Int→Prop) (N:Nat) (hN:N≤maxLen) (hNb:N*8≤140737488355328) (w:World)
  (hseq:∀(l:Nat) (J:List Int→World→Prop) (W:World),(∀pre W',J pre W'→Below w.heap.size w W')→(∀pre x W1,J pre W1→pre.length<N→YieldAt F (n-1-1) P l #[encZ x] W1 fun e W'=>e=.returned (.bool true)∧J (pre++[x]) W'∧KeepsWalks W1 W')→
   J [] W→CallsIn F (n-1) P g (#[.func (.yield l) #[] #[]]++lb) W fun e W'=>(∃v,e=.returned v)∧∃xs,S xs∧J xs W'):
  CallsIn F n P (ρ.f 11) #[.slice none 0 0,.func (.func g) #[] lb] w fun e w'=>∃(v:Value) (ss:List Int),e=.returned v∧S ss∧w'.ownsRow w.heap.size (ρ.t 26) 1 v ss.length (ss.map encZ)∧Below w.heap.size w w':=by
 have h1:1≤n:=by omega
 have mixed:=L.mixed;have t0:=L.t0;have a0:=L.a0;have z0:=L.z0;have v0:=L.v0;have t24:=L.t24;have a24:=L.a24;have z24:=L.z24;have v24:=L.v24;have t26:=L.t26;have a26:=L.a26;have z26:=L.z26;have v26:=L.v26;have t28:=L.t28;have a28:=L.a28;have z28:=L.z28;have v28:=L.v28
 have hne:ρ.t 24≠ρ.t 26:=fun e=>by have h:=L.t24;rw[e,L.t26]at h;cases h
 have u0:=run_underlying L.t0;have u24:=run_underlying L.t24;have u26:=run_underlying L.t26;have u28:=run_underlying L.t28
 obtain⟨_,_,FG⟩:=L.f11
 refine callsIn_of_wp_marks FG rfl h11 ?_ hro
 simp only[SlBodyZ.n11_ntmps ρ,List.size_toArray,List.length_cons,List.length_nil,Nat.reduceAdd,Nat.reduceSub,Array.replicate_succ,Array.replicate_zero,List.push_toArray,List.append_toArray,List.nil_append,List.cons_append]
 gi_wp2
 refine wpIn_rangeFunc ?_
 intro fn hfn
 rw[hro]
 obtain⟨W0,hW0⟩:∃W0,w.alloc (.cells #[.slice none 0 0] (ρ.t 24))=W0:=⟨_,rfl⟩
 have hs0:W0.heap.size=w.heap.size+1:=by rw[←hW0];simp
 have hv0:W0.heap[w.heap.size]? =some (.cells #[.slice none 0 0] (ρ.t 24) (0,0)):=by rw[←hW0];exact World.alloc_heap_new w _
 have hb0:Below w.heap.size w W0:=by rw[←hW0];exact(Below.refl _ w).alloc (Nat.le_refl _) _
 rw[hW0]
 obtain⟨W1,hW1⟩:∃W1,(W0.alloc (.deferred (some []))).alloc (.loop (AnyZI.apRec ρ fn (.func (.func g) #[] lb) w.heap.size W0.heap.size .ready none))=W1:=⟨_,rfl⟩
 have hold:∀k,k<W0.heap.size→W1.heap[k]? =W0.heap[k]? :=fun k hk=>by
  rw[←hW1];exact(Below.heap_alloc _ _ k (by simp;omega)).trans (Below.heap_alloc _ _ k hk)
 have hb1:Below w.heap.size w W1:=by rw[←hW1];exact(hb0.alloc hb0.size _).alloc (by have:=hb0.size;simp;omega) _
 have hs1:W1.heap.size=W0.heap.size+2:=by rw[←hW1];simp
 have hM:AnyZI.ApAt ρ w fn (.func (.func g) #[] lb) w.heap.size (W0.heap.size+1) W0.heap.size [] W1:=
  ⟨⟨_,(hold w.heap.size (by omega)).trans hv0,⟨rfl,.inl ⟨rfl,rfl⟩⟩,by simp⟩,
   by rw[←hW1];have:=World.alloc_heap_new (W0.alloc (.deferred (some []))) (.loop (AnyZI.apRec ρ fn (.func (.func g) #[] lb) w.heap.size W0.heap.size .ready none));rwa [World.size_alloc]at this,
   by rw[←hW1];exact(Below.heap_alloc _ _ _ (by simp)).trans (World.alloc_heap_new W0 _),hb1⟩
 refine⟨W0.heap.size+1,[{target:=.collected W0.heap.size,args:= #[]}],W1,{target:=.fn (.func g) lb,args:= #[.func (.yield (W0.heap.size+1)) #[] #[]]},W1,g,
  #[.func (.yield (W0.heap.size+1)) #[] #[]]++lb,W1,?_,?_,?_,?_,fun _=>h1,?_⟩
 ·rw[←hW1];exact run_enterLoop_outer _ _ _ _ _
 ·simp[resolve,go_sem]
 ·intro f' hf';simp[Target.leads]at hf';subst hf';exact hFg
 ·simp[invoke,go_sem,eg]
 ·refine(hseq (W0.heap.size+1) (AnyZI.ApAt ρ w fn (.func (.func g) #[] lb) w.heap.size (W0.heap.size+1) W0.heap.size) W1 (fun pre W' h=>h.below)
   (fun pre x W hJ hl=>AnyZI.apYield {L with} F (n-1-1) w fn hfn _ w.heap.size (W0.heap.size+1) W0.heap.size (by omega) (by omega) (by omega) (Nat.le_refl _) (by omega) N hN hNb pre x W hJ hl) hM).mono ?_
  rintro e W2 ⟨⟨v0,rfl⟩,ss,hS,h2⟩
  obtain⟨v,hv,hrow,hnil⟩:=h2.box
  have hend:=run_endLoop (P:=P) h2.L (by simp[AnyZI.apRec])
  obtain⟨W3,hW3⟩:∃W3,W2.putObj (W0.heap.size+1) (.loop {AnyZI.apRec ρ fn (.func (.func g) #[] lb) w.heap.size W0.heap.size .ready none with state:=.exhausted})=W3:=⟨_,rfl⟩
  rw[hW3]at hend
  have hg3:W2.grownBy W3 (some (W0.heap.size+1)):=by rw[←hW3];exact grownBy_putObj_a _ _ _
  have hv3:W3.heap[w.heap.size]? =some (.cells #[v] (ρ.t 24) (0,0)):=by rw[←hW3];exact(World.putObj_heap_other (by omega)).trans hv
  have hK3:W3.heap[W0.heap.size]? =some (.deferred (some [])):=by rw[←hW3];exact(World.putObj_heap_other (by omega)).trans h2.K
  have hrow3:=hrow.kept hg3 (ownsRow_ne_a hrow h2.L (fun cur e=>by first|cases e|exact hne (Obj.cells.inj e).2.1))
  have hb3:Below w.heap.size w W3:=h2.below.grown hg3 h2.below.size (fun k e=>by cases e;omega)
  obtain⟨hc3,hf3⟩:=cell_of_box_a hv3
  clear hW3
  refine⟨none,W3,hend,?_⟩
  gi_wp2
  rw[←hs0]
  refine⟨by simp,.inl ⟨_,_,rfl,run_takeDeferred hK3,?_⟩⟩
  exact⟨_,results_tmp rfl _ _ _,v,ss,rfl,hS,hrow3.kept (grownBy_putObj_a _ _ _) (ownsRow_ne_a hrow3 hK3 (fun cur e=>by first|cases e|exact hne (Obj.cells.inj e).2.1)),hb3.grown (grownBy_putObj_a _ _ _) hb3.size (fun k e=>by cases e;omega)⟩
end
theorem pM{w w':World}{M:Nat→Prop}{loc:Nat→Value}{H:List Cell}{o:Ob}{v:Value}(hM:∀b,M b→b<w.heap.size)(hS:HeapS (blks H loc) M loc H w)(hbl:Below w.heap.size w w')(hmap:∀(id:Nat) (m:MOb),H[id]? ≠some (Cell.map m))
  (hv:∀g,v.ownBlock=some g→w.heap.size≤g) (h1:v.oneCell'=true) (ho:ObjOK (fun b=>w.heap.size≤b∨blks H loc b) w' M (fun id=>if id=H.length then v else loc id) (H.length+1) v o):
  HeapS (fun b=>w.heap.size≤b∨blks H loc b) M (fun id=>if id=H.length then v else loc id) (H++[.row o]) w':=by
 have hHS:=tB hM hS hbl
 have hold:∀id p,(H++[.row o])[id]? =some (.row p)→id<H.length∧H[id]? =some (.row p)∨id=H.length∧o=p:=fun id p hp=>by
  rcases Nat.lt_or_ge id H.length with h|h
  ·rw[List.getElem?_append_left h]at hp;exact .inl ⟨h,hp⟩
  ·rw[List.getElem?_append_right h]at hp
   obtain⟨hlt,he⟩:=List.getElem?_eq_some_iff.1 hp
   simp at hlt
   have:id=H.length:=by omega
   subst this
   simp at hp
   exact .inr ⟨rfl,hp⟩
 have hlo:∀id p,H[id]? =some (.row p)→∀g,(loc id).ownBlock=some g→g<w.heap.size:=fun id p hp g hg=>by
  obtain⟨xs,hown,_⟩:=(hS.obj id p hp).own
  exact(hown.lt g hg).2
 have hne:∀id p,H[id]? =some (.row p)→∀g,(loc id).ownBlock=some g→v.ownBlock≠some g:=fun id p hp g hg e=>by
  have h1:=hlo id p hp g hg
  have h2:=hv g e
  omega
 have hnm:∀(id:Nat) (m:MOb),(H++[Cell.row o])[id]? ≠some (Cell.map m):=fun id m hm=>by
  rcases Nat.lt_or_ge id H.length with h|h
  ·rw[List.getElem?_append_left h]at hm;exact hmap id m hm
  ·rw[List.getElem?_append_right h]at hm
   obtain⟨hlt,_⟩:=List.getElem?_eq_some_iff.1 hm
   simp at hlt
   rw[hlt]at hm
   simp at hm
 refine⟨fun id p hp=>?_,fun i j oi oj hij hi hj=>?_,fun id m hm=>absurd hm (hnm id m),fun i j mi mj _ hi _=>absurd hi (hnm i mi),fun id hid=>?_⟩
 ·rw[List.length_append,List.length_singleton]
  rcases hold id p hp with⟨hlt,hp⟩|⟨rfl,rfl⟩
  ·show ObjOK _ w' M _ (H.length+1) (if id=H.length then v else loc id) p
   rw[if_neg (by omega)]
   exact(hHS.obj id p hp).frame (fun g hg=>rfl) (fun b _=>rfl) (fun _ h=>h) (fun i hi=>if_neg (by omega)) (by omega) (hHS.obj id p hp).away (fun _ h=>h)
  ·show ObjOK _ w' M _ (H.length+1) (if H.length=H.length then v else _) o
   rw[if_pos rfl]
   exact ho
 ·show(if i=H.length then v else loc i).ownBlock=none∨(if i=H.length then v else loc i).ownBlock≠(if j=H.length then v else loc j).ownBlock
  rcases hold i oi hi with⟨hlt,hi⟩|⟨rfl,rfl⟩
  ·rw[if_neg (by omega)]
   rcases hold j oj hj with⟨hlt2,hj⟩|⟨rfl,rfl⟩
   ·rw[if_neg (by omega)];exact hS.sep i j oi oj hij hi hj
   ·rw[if_pos rfl]
    cases hb:(loc i).ownBlock with
    |none=>exact .inl rfl
    |some g=>exact .inr fun e=>hne i oi hi g hb e.symm
  ·rw[if_pos rfl]
   rcases hold j oj hj with⟨hlt2,hj⟩|⟨rfl,rfl⟩
   ·rw[if_neg (by omega)]
    cases hb:v.ownBlock with
    |none=>exact .inl rfl
    |some g=>exact .inr fun e=>hne j oj hj g e.symm hb
   ·exact absurd rfl hij
 ·rw[List.length_append,List.length_singleton]at hid
  show(if id=H.length then v else loc id).oneCell'=true
  split
  ·exact h1
  ·exact hS.one id (by omega)
abbrev boxN:Cell:=.row ⟨22,1,[.ow 0]⟩
set_option maxHeartbeats 2000000 in
theorem KK(L:List Int)(hl:L.length≤1000):MeansH Tryz.prog 181 [rowI L,boxN] [.nil,.fn 161 [] [.el 1 1 0 0]] (.ow 2) [rowI L,boxN,rowI L]:=by
 intro w M loc vs hM hg hS hsz hargs
 obtain⟨x,y,rfl⟩:∃x y,vs= #[x,y]:=by
  match vs,hsz with
  |⟨[x,y]⟩,_=>exact⟨x,y,rfl⟩
 have h0:x=.slice none 0 0:=by
  have:RepZ w M x .nil:=(hargs 0 x .nil rfl rfl).1
  cases this;rfl
 obtain⟨fs,cs,h1,hfs,hcs,_,hc1⟩:=(hargs 1 y _ rfl rfl).1
 have hfs0:fs= #[]:=Array.size_eq_zero_iff.1 (by simpa using hfs)
 obtain⟨c,rfl⟩:∃c,cs= #[c]:=by
  match cs,hcs with
  |⟨[c]⟩,_=>exact⟨c,rfl⟩
 subst h0 hfs0 h1
 have hB:=hc1 0 c (.el 1 1 0 0) rfl rfl
 rcases hB with hB|hB
 ·exact hB.no_el.elim
 obtain⟨g1,n1,c1,hl1,rfl⟩:=hB
 simp only[Nat.zero_mul,Nat.zero_add]
 have ho0:=hS.obj 0 _ rfl
 have ho1:=hS.obj 1 _ rfl
 obtain⟨xs0,hown0,hx0⟩:=ho0.own
 obtain⟨xs1,hown1,hx1⟩:=ho1.own
 have hfl:(L.map ii).flatMap AV.flat=L.map ii:=by
  have:=flat_v (L.map fun z=>Value.int .i64 z)
  rwa [List.map_map]at this
 rw[hfl]at hx0
 have hg1:g1<w.heap.size:=(hown1.lt g1 (by rw[hl1];rfl)).2
 have hbox:w.cell? ⟨g1,0,none⟩=some (loc 0):=by
  obtain⟨z,hz,hr⟩:=hx1 0 (.ow 0) rfl
  have hzl:z=loc 0:=by
   rcases hr.1 with h|h
   ·exact h.no_ow.elim
   ·exact h
  have:=hown1.cells (g:=g1) (by rw[hl1];rfl) 0 _ hz
  rw[hzl]at this
  rwa [cY,Nat.zero_add]at this
 have hseq:∀(l:Nat) (J:List Int→World→Prop) (W:World),(∀pre W',J pre W'→Below w.heap.size w W')→(∀pre x W1,J pre W1→pre.length<L.length→YieldAt Fence.wide (3-1-1) Tryz.prog l #[encZ x] W1 fun e W'=>e=.returned (.bool true)∧J (pre++[x]) W'∧KeepsWalks W1 W')→
   J [] W→CallsIn Fence.wide (3-1) Tryz.prog 161 (#[.func (.yield l) #[] #[]]++ #[.pointer (some ⟨g1,0,none⟩)]) W fun e W'=>(∃v,e=.returned v)∧∃xs,xs=L∧J xs W':=fun l J W hJB hY hJ=>by
  have hb1:=((hJB [] W hJ).cell (p:=⟨g1,0,none⟩) hg1).trans hbox
  rcases hown0.2 with⟨hn,hz⟩|⟨g,cap,cur,hn,hbg,hheap,hnc,hcm,hcs2,htake⟩
  ·have hL:L=[]:=by simpa using hz
   subst hL
   rw[hn]at hb1
   exact(AQ 2 l g1 J W hb1 hJ).mono fun e W' ⟨he,hj⟩=>⟨he,[],rfl,hj⟩
  ·have hlt:g<w.heap.size:=(hown0.lt g (by rw[hn];rfl)).2
   rw[hn,List.length_map]at hb1
   refine(KJ 2 l g1 g 0 cap (by omega) L (by omega) J hY (fun pre W' hj j hjl=>?_) W hb1 hJ).mono fun e W' ⟨he,hj⟩=>⟨he,L,rfl,hj⟩
   refine((hJB pre W' hj).cell (p:=⟨g,0+j,none⟩) hlt).trans ?_
   obtain⟨z,hz,hr⟩:=hx0 j (ii L[j]) (by rw[List.getElem?_map,List.getElem?_eq_getElem hjl];rfl)
   have hzv:z=.int .i64 L[j]:=hr.1.rep.v_inv
   have:=hown0.cells (g:=g) (by rw[hn];rfl) j _ hz
   rw[hzv]at this
   rwa [cY]at this
 refine(callsIn_wide.1 (JF KI Fence.wide 3 trivial rfl (by omega) 161 #[.pointer (some ⟨g1,0,none⟩)] trivial (enters_of Tryz.func161 (by kernel_rfl) rfl) (fun ss=>ss=L) L.length (by unfold maxLen;omega) (by omega) w hseq)).mono ?_
 rintro e w' ⟨v,ss,rfl,rfl,hrow,hbl⟩
 have hv1:v.oneCell'=true:=by
  rcases hrow.2 with⟨rfl,_⟩|⟨g,cap,cur,rfl,_⟩<;>rfl
 refine⟨v,M,_,rfl,pM hM hS hbl (fun id m hm=>?_) (fun g hg=>(hrow.lt g hg).1) hv1 ⟨⟨ss.map encZ,⟨by simp,?_⟩,fun j e he=>?_⟩,fun e he=>?_,fun g hg hm=>?_,fun g hg=>.inl (hrow.lt g hg).1⟩,⟨hbl.os,hbl.tape,hbl.output,hbl.size,fun k hk _=>hbl.block k hk⟩,fun _ h=>h,fun b hb=>⟨Nat.lt_of_lt_of_le (hM b hb) hbl.size,.inl hb⟩,fun id hid=>if_neg (by omega),rfl,by show 2<3;omega,by simp⟩
 ·have:=(List.getElem?_eq_some_iff.1 hm).1
  match id,hm with
  |0,hm=>simp at hm
  |1,hm=>simp at hm
  |2,hm=>simp at hm
 ·simp only[List.length_map]
  rcases hrow.2 with h|⟨g,cap,cur,h1,h2,h3⟩
  ·exact .inl h
  ·exact .inr ⟨g,cap,cur,h1,Nat.zero_le _,h3⟩
 ·simp only[hfl]at he
  rw[List.getElem?_map]at he
  cases hj:ss[j]? with
  |none=>rw[hj]at he;cases he
  |some z=>
   rw[hj]at he
   cases he
   exact⟨.int .i64 z,by rw[List.getElem?_map,hj];rfl,.inl (.v _),trivial,rfl⟩
 ·obtain⟨z,_,rfl⟩:=List.mem_map.1 he;rfl
 ·have h1:=hM g hm
  have h2:=(hrow.lt g hg).1
  omega
set_option maxRecDepth 100000 in
set_option maxHeartbeats 1000000 in
theorem EF(a:Option Addr)(len cap:Nat)(w:World):
  CallsIn Fence.wide 1 Tryz.prog 122 #[.slice a len cap] w fun e w'=>e=.returned (.func (.func 161) #[] #[.pointer (some ⟨w.heap.size,0,none⟩)])∧w'=w.alloc (.cells #[.slice a len cap] 22):=by
 refine callsIn_of_wp Tryz.func122 rfl trivial ?_ rfl
 simp only[Tryz.ntmps122,List.size_toArray,List.length_cons,List.length_nil,Nat.reduceAdd,Nat.reduceSub,Array.replicate_succ,Array.replicate_zero,List.push_toArray,List.append_toArray,List.nil_append,List.cons_append]
 gi_wp2
 go_ret
 exact⟨rfl,rfl⟩
theorem JI(L:List Int):MeansH Tryz.prog 122 [rowI L] [.ow 0] (.fn 161 [] [.el 1 1 0 0]) [rowI L,boxN]:=by
 intro w M loc vs hM hg hS hsz hargs
 obtain⟨x,rfl⟩:∃x,vs= #[x]:=by
  match vs,hsz with
  |⟨[x]⟩,_=>exact⟨x,rfl⟩
 have h0:x=loc 0:=(hargs 0 x (.ow 0) rfl rfl).1
 subst h0
 obtain⟨xs0,hown0,hx0⟩:=(hS.obj 0 _ rfl).own
 obtain⟨a,len,cap,hl⟩:∃a len cap,loc 0=.slice a len cap:=by
  rcases hown0.2 with⟨h,_⟩|⟨g,cap,cur,h,_⟩<;>exact⟨_,_,_,h⟩
 rw[hl]
 refine(callsIn_wide.1 (EF a len cap w)).mono fun e w' ⟨he,hw⟩=>?_
 have hbl:Below w.heap.size w w':=by rw[hw];exact(Below.refl _ w).alloc (Nat.le_refl _) _
 have hnew:w'.heap[w.heap.size]? =some (.cells #[.slice a len cap] 22 (0,0)):=by rw[hw];exact World.alloc_heap_new w _
 refine⟨_,M,_,he,pM hM hS hbl (fun id m hm=>?_) (v:=.slice (some ⟨w.heap.size,0,none⟩) 1 1) (fun g hg=>by cases hg;exact Nat.le_refl _) rfl ⟨⟨[.slice a len cap],⟨rfl,.inr ⟨w.heap.size,1,_,rfl,Nat.zero_le _,hnew,Nat.le_refl _,by unfold maxLen;omega,rfl,rfl⟩⟩,fun j e he=>?_⟩,fun e he=>?_,fun g hg hm=>?_,fun g hg=>by cases hg;exact .inl (Nat.le_refl _)⟩,⟨hbl.os,hbl.tape,hbl.output,hbl.size,fun k hk _=>hbl.block k hk⟩,fun _ h=>h,fun b hb=>⟨Nat.lt_of_lt_of_le (hM b hb) hbl.size,.inl hb⟩,fun id hid=>if_neg (by omega),?_,?_,by simp⟩
 ·have:=(List.getElem?_eq_some_iff.1 hm).1
  match id,hm with
  |0,hm=>simp at hm
  |1,hm=>simp at hm
 ·match j,he with
  |0,he=>
   cases he
   exact⟨_,rfl,.inr (by show _=if 0=1 then _ else loc 0;rw[if_neg (by omega)];exact hl.symm),by show 0<2;omega,rfl⟩
  |j+1,he=>simp[AV.flat]at he
 ·simp at he;subst he;rfl
 ·cases hg
  exact absurd (hM _ hm) (Nat.lt_irrefl _)
 ·refine⟨#[],#[_],rfl,rfl,rfl,fun j c e h1 h2=>by simp at h1,fun j c e h1 h2=>?_⟩
  match j,h1,h2 with
  |0,h1,h2=>
   cases h1;cases h2
   exact .inr ⟨w.heap.size,1,1,rfl,rfl⟩
  |j+1,h1,h2=>simp at h2
 ·intro e he id hid
  simp at he
  subst he
  simp[AV.idB]at hid
  subst hid
  show 1<2
  omega
end Go.Proofs.YtdcidannegcaoaaGreatDoor

namespace Go.Proofs.YtdcidannegcaoaaGreatDoor
open Go.RowKit Go.Ab
attribute [local irreducible] AWP Go.Ab.Sub Means MeansH MeansE CallK CallG CallT CallGT PanicH PanicX DefH CallU
abbrev valC:AV:=.fn 161 [] [.el 1 1 0 0]
theorem JJ(L:List Int)(hl:L.length≤1000):MeansH Tryz.prog 160 [rowI L,boxN] [valC] (.ow 2) [rowI L,boxN,rowI L]:=by
 refine yN 2 5 [.tmp 2] [0,2,1000000,1000001] Tryz.func160 fun X hX=>?_
 (repeat(refine yB ?_;(simp[go_sem])))
 refine yH [0,1] (KK L hl) ?_
 simp[go_sem]
 refine aB ?_;refine a8 [(2,.ow 2),(1000000,.ow 0),(1000001,.ow 1)] [.old 0 ⟨3,1,L.map ii⟩,.old 1 ⟨22,1,[.ow 0]⟩,.old 2 ⟨3,1,L.map ii⟩] ?_
 simp[go_sem]
theorem EG(L:List Int)(hl:L.length≤12):MeansH Tryz.prog 121 [rowI L,boxN] [valC] (.ow 2) [rowI L,boxN,rowI (sortS L)]:=by
 refine yN 2 9 [.tmp 2] [0,2,3,1000000,1000001] Tryz.func121 fun X hX=>?_
 (repeat(refine yB ?_;(simp[go_sem])))
 refine yH [0,1] (JJ L (by omega)) ?_
 simp[go_sem]
 (repeat(refine yB ?_;(simp[go_sem])))
 refine yH [2] (uL L hl) ?_
 simp[go_sem]
 (repeat(refine yB ?_;(simp[go_sem])))
 refine aB ?_;refine a8 [(2,.ow 2),(1000000,.ow 0),(1000001,.ow 1)] [.old 0 ⟨3,1,L.map ii⟩,.old 1 ⟨22,1,[.ow 0]⟩,.old 2 ⟨3,1,(sortS L).map ii⟩] ?_
 simp[go_sem]
def hgtV:List Int→Int→Int
 | [],_=>1099511627776
 |m::l,a=>if a/(l.length+1:Nat)<m then a/(l.length+1:Nat)else hgtV l (a-m)
def sumM(h:Int)(L:List Int):Int:=(L.map (min · h)).sum
theorem y9(h:Int):∀l:List Int,sumM h l≤l.length*h
 | []=>by simp[sumM]
 |m::l=>by
  have:=y9 h l
  unfold sumM at*
  simp only[List.map_cons,List.sum_cons,List.length_cons,Int.natCast_add,Int.add_mul]
  omega
theorem yD:∀(l:List Int) (a:Int),0≤a→(∀m∈l,0≤m)→0≤hgtV l a∧sumM (hgtV l a) l≤a
 | [],a,ha,_=>by simp[hgtV,sumM,ha]
 |m::l,a,ha,hm=>by
  have hn:(0:Int)<(l.length+1:Nat):=by omega
  have hq:0≤a/(l.length+1:Nat):=Int.ediv_nonneg ha (by omega)
  have hle:(l.length+1:Nat)*(a/(l.length+1:Nat))≤a:=Int.mul_ediv_self_le (by omega)
  rw[hgtV]
  split
  ·refine⟨hq,Int.le_trans (y9 _ _) ?_⟩
   simpa using hle
  ·rename_i hc
   have h1:a/(l.length+1:Nat)≤a:=Int.ediv_le_self _ ha
   have h0:=hm m (by simp)
   obtain⟨h2,h3⟩:=yD l (a-m) (by omega) fun x hx=>hm x (by simp[hx])
   refine⟨h2,?_⟩
   have:sumM (hgtV l (a-m)) (m::l)=min m (hgtV l (a-m))+sumM (hgtV l (a-m)) l:=by simp[sumM]
   omega
theorem AR{h:Int}{A B:List Int}(hp:A.Perm B):sumM h A=sumM h B:=by
 induction hp with
 |nil=>rfl
 |cons x _ ih=>unfold sumM at*;simp only[List.map_cons,List.sum_cons,ih]
 |swap x y l=>unfold sumM;simp only[List.map_cons,List.sum_cons];omega
 |trans _ _ h1 h2=>exact h1.trans h2
set_option maxHeartbeats 4000000 in
set_option maxRecDepth 20000 in
theorem EH(L:List Int)(a:Int)(hl:L.length≤12)(hm:∀m∈L,0≤m∧m≤1099511627776)(ha:0≤a∧a≤1099511627776):MeansH Tryz.prog 76 [rowI L] [.ow 0,ii a] (ii (hgtV (sortS L) a)) [rowI L]:=by
 have hS:∀m∈sortS L,0≤m∧m≤1099511627776:=fun m h=>hm m ((cH L).mem_iff.1 h)
 have hSl:=kR L
 have c2:=EG L hl
 generalize sortS L=S at*
 refine yN 1 33 [.tmp 4] [0,1,4,5,6,7,10,11,12,13,25,1000000] Tryz.func76 fun X hX=>?_
 (repeat(refine yB ?_;(simp[go_sem])))
 refine yH [0] (JI L) ?_
 simp[go_sem]
 refine yH [0,1] c2 ?_
 simp[go_sem]
 (repeat(refine yB ?_;(simp[go_sem])))
 refine aE (fun z:Nat×Int=>⟨mkE [(0,.ow 0),(1,ii z.2),(10,.ow 1),(11,ii S.length),(12,ii z.1),(1000000,.ow 0)],[rowI L,rowI S]⟩) (fun z=>z.1≤S.length∧(0≤z.2∧z.2≤1099511627776)∧hgtV (S.drop z.1) z.2=hgtV S a) (fun z=>S.length-z.1) (0,a) ?_ ?_ ?_
 ·refine yS _ [.old 0 ⟨3,1,L.map ii⟩,.old 2 ⟨3,1,S.map ii⟩] ?_
  simp[go_sem]
 ·exact⟨Nat.zero_le _,ha,rfl⟩
 ·rintro⟨i,b⟩ ⟨h1,h2,h3⟩
  simp only[]at h1 h2 h3
  (repeat(refine yB ?_;(simp[go_sem])))
  refine yC (decide (i<S.length)) (fun hc=>?_) fun hc=>?_
  ·simp at hc
   have hq:=cK hc
   have hx:=hS _ (List.getElem_mem hc)
   have wi:=w64 (x:=(i:Int)+1) (by omega) (by omega)
   obtain⟨r,hr⟩:∃r:Nat,r+i+1=S.length:=⟨S.length-i-1,by omega⟩
   have wr2:IntKind.i64.wrap ((L.length:Int)-i)=(r:Int)+1:=by rw[show(L.length:Int)-i=(r:Int)+1 by omega];exact w64 (by omega) (by omega)
   rw[List.drop_eq_getElem_cons hc,hgtV,show(S.drop (i+1)).length=r by simp;omega,show((r+1:Nat):Int)=(r:Int)+1 by omega]at h3
   generalize S[i]=m at*
   have hnz:¬(r:Int)+1=0:=by omega
   have hqb:0≤b/((r:Int)+1)∧b/((r:Int)+1)≤b:=⟨Int.ediv_nonneg h2.1 (by omega),Int.ediv_le_self _ h2.1⟩
   have e1:b.tdiv ((r:Int)+1)=b/((r:Int)+1):=td h2.1
   have wq:=w64 (x:=b/((r:Int)+1)) (by omega) (by omega)
   have wb:=w64 (x:=b-m) (by omega) (by omega)
   generalize hQ:b/((r:Int)+1)=Q at*
   (repeat(refine yB ?_;(simp[go_sem,hc,hq,wr2,hnz,e1,wq])))
   refine yC (decide (Q<m)) (fun hd=>?_) (fun hd=>?_) (by simp[go_sem,e1,wq])
   ·have hd:Q<m:=by simpa using hd
    rw[if_pos hd]at h3
    rw[←h3]
    (repeat(refine yB ?_;(simp[go_sem,hnz,e1,wq])))
    refine aB ?_;simp only[thenQ,blkQ,loopQ];refine a8 [(4,ii Q),(1000000,.ow 0)] [.old 0 ⟨3,1,L.map ii⟩] ?_
    simp[go_sem,e1,wq]
   ·have hd:¬Q<m:=by simpa using hd
    rw[if_neg hd]at h3
    (repeat(refine yB ?_;(simp[go_sem,wb,wi])))
    refine⟨i+1,b-m,⟨by omega,⟨by omega,by omega⟩,h3⟩,by omega,?_⟩
    refine yS _ [.old 0 ⟨3,1,L.map ii⟩,.old 1 ⟨3,1,S.map ii⟩] ?_
    simp[go_sem]
  ·have:i=S.length:=by simp at hc;omega
   subst this
   rw[List.drop_of_length_le (Nat.le_refl _),hgtV]at h3
   rw[←h3]
   (repeat(refine yB ?_;(simp[go_sem])))
   refine aB ?_;refine a8 [(1000000,.ow 0)] [.old 0 ⟨3,1,L.map ii⟩] ?_
   simp[go_sem]
end Go.Proofs.YtdcidannegcaoaaGreatDoor

namespace Go.Proofs.YtdcidannegcaoaaGreatDoor
open Go.RowKit Go.Ab
attribute [local irreducible] AWP Go.Ab.Sub Means MeansH MeansE CallK CallG CallT CallGT PanicH PanicX DefH CallU
abbrev mov(G:List (List Int)):Cell:=.row ⟨95,3,[.agg [.sl (G.map il),.ow 1,.ow 2]]⟩
def rws(n:Nat):List AV:=([.ow 3,.ow 4,.ow 5,.ow 6,.ow 7,.ow 8,.ow 9,.ow 10]:List AV).take n
abbrev h8(G:List (List Int))(M:List Int)(n:Nat)(R:Nat→List Int)(T:List Cell):List Cell:=
 mov G::rowI M::.row ⟨22,1,rws n⟩::rowI (R 0)::rowI (R 1)::rowI (R 2)::rowI (R 3)::rowI (R 4)::rowI (R 5)::rowI (R 6)::rowI (R 7)::T
def updR(R:Nat→List Int)(i:Nat)(l:List Int):Nat→List Int:=fun j=>if j=i then l else R j
theorem HA{n i:Nat}(h:i<n)(hn:n≤8):nth (rws n) i=.ow (i+3):=by
 refine gE ?_
 unfold rws
 rw[List.getElem?_take,if_pos h]
 have:i=0∨i=1∨i=2∨i=3∨i=4∨i=5∨i=6∨i=7:=by omega
 rcases this with rfl|rfl|rfl|rfl|rfl|rfl|rfl|rfl<;>rfl
theorem wS{n:Nat}(hn:n≤8):(rws n).length=n:=by simp[rws];omega
abbrev s8(G:List (List Int))(M:List Int)(n:Nat)(R:Nat→List Int)(T:List Src):List Src:=
 .old 0 ⟨95,3,[.agg [.sl (G.map il),.ow 1,.ow 2]]⟩::.old 1 ⟨3,1,M.map ii⟩::.old 2 ⟨22,1,rws n⟩::.old 3 ⟨3,1,(R 0).map ii⟩::.old 4 ⟨3,1,(R 1).map ii⟩::.old 5 ⟨3,1,(R 2).map ii⟩::.old 6 ⟨3,1,(R 3).map ii⟩::.old 7 ⟨3,1,(R 4).map ii⟩::.old 8 ⟨3,1,(R 5).map ii⟩::.old 9 ⟨3,1,(R 6).map ii⟩::.old 10 ⟨3,1,(R 7).map ii⟩::T
def isO(HS:List Src)(j:Nat):Bool:=match HS[j]? with
 |some (.old i _)=>i==j
 |_=>false
theorem JK{HS:List Src}{H:List Cell}{j:Nat}(h:isO HS j=true):okF HS H (.ow j) (.ow j):=by
 unfold isO at h
 split at h
 ·rename_i i o ho
  have:i=j:=by simpa using h
  subst this
  show okB HS H (.ow i) (.ow i)
  simp only[okB,ho]
 ·cases h
theorem pN{HS:List Src}{H:List Cell}:∀(l:List Nat) (n:Nat),l.all (isO HS)=true→okEs HS H ((l.map AV.ow).take n) ((l.map AV.ow).take n)
 | [],n,_=>by simp[okEs]
 |j::l,0,_=>trivial
 |j::l,n+1,h=>by
  simp only[List.all_cons,Bool.and_eq_true]at h
  exact⟨JK h.1,pN l n h.2⟩
@[go_sem] theorem okEs_rws{HS:List Src}{H:List Cell}{n:Nat}(h:[3,4,5,6,7,8,9,10].all (isO HS)=true):okEs HS H (rws n) (rws n):=pN [3,4,5,6,7,8,9,10] n h
theorem yG{n:Nat}{x:AV}(h:x∈rws n):∃j,(j=3∨j=4∨j=5∨j=6∨j=7∨j=8∨j=9∨j=10)∧x=.ow j:=by
 have:=List.mem_of_mem_take h
 simp only[List.mem_cons,List.not_mem_nil,or_false]at this
 rcases this with rfl|rfl|rfl|rfl|rfl|rfl|rfl|rfl<;>exact⟨_,by simp,rfl⟩
@[go_sem] theorem ren_rws{u:Nat→Nat}{n:Nat}(h:[3,4,5,6,7,8,9,10].all (fun j=>u j==j)=true):List.map (renF u) (rws n)=rws n:=by
  refine List.ext_getElem (by simp) fun i h1 h2=>?_
  rw[List.getElem_map]
  obtain⟨j,hj,e⟩:=yG (List.getElem_mem h2)
  rw[e]
  have:u j=j:=by
   have:=List.all_eq_true.1 h j (by simpa using hj)
   simpa using this
  show AV.ow (u j)=.ow j
  rw[this]
@[go_sem] theorem rws_lt{m n:Nat}(h:11≤m):(∀(e x:AV),x∈rws n→e∈x.flat→AV.idLt m e)=True:=by
  refine eq_true fun e x hx he=>?_
  obtain⟨j,hj,rfl⟩:=yG hx
  simp only[AV.flat,List.mem_singleton]at he
  subst he
  show j<m
  omega
abbrev mbx:Cell:=.row ⟨92,1,[.el 0 3 0 0]⟩
abbrev ibx(x:Int):Cell:=.row ⟨3,1,[ii x]⟩
set_option maxHeartbeats 16000000 in
set_option maxRecDepth 20000 in
theorem EI(G:List (List Int))(M:List Int)(n:Nat)(R:Nat→List Int)(i d:Nat)(x left a b:Int)(hi:i<n)(hd:d<n)(hn:n≤8)(hM:M.length=n)(hR:(R i).length=n)(ha:M[i]? =some a)(hb:(R i)[d]? =some b)
  (hx:0≤x∧x≤1099511627776) (ha2:0≤a∧a≤1099511627776) (hb2:0≤b∧b≤1099511627776) (hl:0≤left∧left≤1099511627776):
  MeansH Tryz.prog 77 (h8 G M n R [mbx,ibx d,ibx left]) [ii i,ii x,.el 11 1 0 0,.el 12 1 0 0,.el 13 1 0 0] (.tup []) (h8 G (M.set i (a-x)) n (updR R i ((R i).set d (b+x))) [mbx,ibx d,ibx (left-x)]):=by
 have hiM:i<M.length:=by omega
 have ha1:M[i]=a:=by rw[List.getElem?_eq_getElem hiM]at ha;exact Option.some.inj ha
 have hrw:=HA hi hn
 have hrl:=wS hn
 have hi2:i<(rws n).length:=by omega
 have w1:=w64 (x:=a-x) (by omega) (by omega)
 have w2:=w64 (x:=b+x) (by omega) (by omega)
 have w3:=w64 (x:=left-x) (by omega) (by omega)
 have hcs:i=0∨i=1∨i=2∨i=3∨i=4∨i=5∨i=6∨i=7:=by omega
 have hdR:d<(R i).length:=by omega
 have hb1:(R i)[d]=b:=by rw[List.getElem?_eq_getElem hdR]at hb;exact Option.some.inj hb
 have q1:(i:Int)<(M.length:Int):=by omega
 have q2:(i:Int)<((rws n).length:Int):=by omega
 obtain⟨M',hM'⟩:∃M',M'=M.set i (a-x):=⟨_,rfl⟩
 obtain⟨R',hR'⟩:∃R',R'=updR R i ((R i).set d (b+x)):=⟨_,rfl⟩
 rw[←hM',←hR']
 rcases hcs with rfl|rfl|rfl|rfl|rfl|rfl|rfl|rfl
 all_goals
  push_cast at q1 q2
  refine yN 14 33 [] [0,1,2,3,4,1000000,1000001,1000002,1000003,1000004,1000005,1000006,1000007,1000008,1000009,1000010,1000011,1000012,1000013] Tryz.func77 fun X hX=>?_
  (repeat(refine yB ?_;(simp[go_sem,q1,q2,hiM,ha1,hrw,hi2,w1,w2,w3,hdR,hb1];try(refine⟨by kernel_rfl,?_⟩))))
  try simp only[thenQ,blkQ,loopQ]
  refine aJ [(1000000,.ow 0),(1000001,.ow 1),(1000002,.ow 2),(1000003,.ow 3),(1000004,.ow 4),(1000005,.ow 5),(1000006,.ow 6),(1000007,.ow 7),(1000008,.ow 8),(1000009,.ow 9),(1000010,.ow 10),(1000011,.ow 11),(1000012,.ow 12),(1000013,.ow 13)] (s8 G M' n R' [.old 11 ⟨92,1,[.el 0 3 0 0]⟩,.old 12 ⟨3,1,[ii d]⟩,.old 13 ⟨3,1,[ii (left-x)]⟩]) ?_
  simp[go_sem,hM',hR',updR,isO]
end Go.Proofs.YtdcidannegcaoaaGreatDoor

namespace Go.Proofs.YtdcidannegcaoaaGreatDoor
open Go.RowKit Go.Ab
def colS(R:Nat→List Int)(n d:Nat):Int:=((List.range n).map fun i=>(R i).getD d 0).sum
structure InvM(n:Nat)(M:List Int)(R:Nat→List Int):Prop where
 ml:M.length=n
 rl:∀i,i<n→(R i).length=n
 m0:∀i,i<n→0≤M.getD i 0
 r0:∀i,i<n→∀y∈R i,0≤y
 tot:∀i,i<n→M.getD i 0+(R i).sum≤1099511627776
structure Pst(n:Nat)(M:List Int)(R:Nat→List Int)(M':List Int)(R':Nat→List Int)(d:Nat)(x:Int):Prop where
 inv:InvM n M' R'
 tot:∀i,i<n→M'.getD i 0+(R' i).sum=M.getD i 0+(R i).sum
 oth:∀i,i<n→∀j,j≠d→(R' i).getD j 0=(R i).getD j 0
 col:colS R' n d=colS R n d+x
theorem Pst.refl{n:Nat}{M:List Int}{R:Nat→List Int}(h:InvM n M R)(d:Nat):Pst n M R M R d 0:=⟨h,fun _ _=>rfl,fun _ _ _ _=>rfl,by omega⟩
theorem Pst.trans{n:Nat}{M M1 M2:List Int}{R R1 R2:Nat→List Int}{d:Nat}{x y:Int}(h1:Pst n M R M1 R1 d x)(h2:Pst n M1 R1 M2 R2 d y):Pst n M R M2 R2 d (x+y):=
 ⟨h2.inv,fun i hi=>(h2.tot i hi).trans (h1.tot i hi),fun i hi j hj=>(h2.oth i hi j hj).trans (h1.oth i hi j hj),by have:=h1.col;have:=h2.col;omega⟩
theorem tQ:∀(l:List Int) (d:Nat) (v:Int),d<l.length→(l.set d v).sum=l.sum-l.getD d 0+v
 | [],d,v,h=>by simp at h
 |a::l,0,v,_=>by simp;omega
 |a::l,d+1,v,h=>by
  have:=tQ l d v (by simpa using h)
  simp only[List.set_cons_succ,List.sum_cons,List.getD_cons_succ]
  omega
theorem yI(f g:Nat→Int)(i:Nat)(x:Int)(hi:g i=f i+x)(ho:∀j,j≠i→g j=f j):∀n,((List.range n).map g).sum=((List.range n).map f).sum+if i<n then x else 0
 |0=>by simp
 |n+1=>by
  have:=yI f g i x hi ho n
  simp only[List.range_succ,List.map_append,List.sum_append,List.map_cons,List.map_nil,List.sum_cons,List.sum_nil]
  by_cases h:i=n
  ·subst h
   rw[hi,if_pos (by omega)]
   rw[if_neg (by omega)]at this
   omega
  ·rw[ho n fun e=>h e.symm]
   by_cases h2:i<n
   ·rw[if_pos (by omega)];rw[if_pos h2]at this;omega
   ·rw[if_neg (by omega)];rw[if_neg h2]at this;omega
theorem dC(l:List Int)(i j:Nat)(v:Int)(h:i<l.length):(l.set i v).getD j 0=if j=i then v else l.getD j 0:=by
 simp only[List.getD_eq_getElem?_getD,List.getElem?_set]
 by_cases hj:j=i
 ·subst hj;simp[h]
 ·rw[if_neg fun e=>hj e.symm,if_neg hj]
theorem qG{l:List Int}(h:∀y∈l,0≤y):0≤l.sum∧∀y∈l,y≤l.sum:=by
 induction l with
 |nil=>simp
 |cons a l ih=>
  obtain⟨h1,h2⟩:=ih fun y hy=>h y (by simp[hy])
  have h0:=h a (by simp)
  refine⟨by simp only[List.sum_cons];omega,fun y hy=>?_⟩
  simp only[List.sum_cons]
  rcases List.mem_cons.1 hy with rfl|hy
  ·omega
  ·have:=h2 y hy;omega
theorem yJ{l:List Int}(h:∀y∈l,0≤y)(d:Nat):0≤l.getD d 0∧l.getD d 0≤l.sum:=by
 rw[List.getD_eq_getElem?_getD]
 cases hd:l[d]? with
 |none=>exact⟨by simp,by simpa using(qG h).1⟩
 |some y=>exact⟨h y (List.mem_of_getElem? hd),(qG h).2 y (List.mem_of_getElem? hd)⟩
theorem InvM.bd{n:Nat}{M:List Int}{R:Nat→List Int}(h:InvM n M R){i:Nat}(hi:i<n)(d:Nat):(0≤M.getD i 0∧M.getD i 0≤1099511627776)∧0≤(R i).getD d 0∧(R i).getD d 0≤1099511627776:=by
 have h1:=h.m0 i hi
 have h2:=yJ (h.r0 i hi) d
 have h3:=h.tot i hi
 omega
theorem Pst.step{n:Nat}{M:List Int}{R:Nat→List Int}(h:InvM n M R){i d:Nat}{x:Int}(hi:i<n)(hd:d<n)(hx:0≤x∧x≤M.getD i 0):
  Pst n M R (M.set i (M.getD i 0-x)) (updR R i ((R i).set d ((R i).getD d 0+x))) d x:=by
 have hiM:i<M.length:=by rw[h.ml];exact hi
 have hdR:d<(R i).length:=by rw[h.rl i hi];exact hd
 have hs:=tQ (R i) d ((R i).getD d 0+x) hdR
 have ht:∀j,j<n→(M.set i (M.getD i 0-x)).getD j 0+(updR R i ((R i).set d ((R i).getD d 0+x)) j).sum=M.getD j 0+(R j).sum:=fun j hj=>by
  rw[dC _ _ _ _ hiM]
  unfold updR
  by_cases e:j=i
  ·subst e
   rw[if_pos rfl,if_pos rfl,hs];omega
  ·rw[if_neg e,if_neg e]
 have hg:=yJ (h.r0 i hi) d
 refine⟨⟨by simpa using h.ml,fun j hj=>?_,fun j hj=>?_,fun j hj y hy=>?_,fun j hj=>by rw[ht j hj];exact h.tot j hj⟩,ht,fun j hj k hk=>?_,?_⟩
 ·unfold updR
  split
  ·rw[List.length_set];exact h.rl i hi
  ·exact h.rl j hj
 ·rw[dC _ _ _ _ hiM]
  split
  ·omega
  ·exact h.m0 j hj
 ·unfold updR at hy
  split at hy
  ·rcases List.mem_or_eq_of_mem_set hy with hy|rfl
   ·exact h.r0 i hi y hy
   ·omega
  ·exact h.r0 j hj y hy
 ·unfold updR
  split
  ·rename_i e
   subst e
   rw[dC _ _ _ _ hdR,if_neg hk]
  ·rfl
 ·have:=yI (fun j=>(R j).getD d 0) (fun j=>(updR R i ((R i).set d ((R i).getD d 0+x)) j).getD d 0) i x (by
   simp only[updR,if_true]
   rw[dC _ _ _ _ hdR,if_pos rfl]) (fun j hj=>by simp only[updR,if_neg hj]) n
  rw[if_pos hi]at this
  exact this
end Go.Proofs.YtdcidannegcaoaaGreatDoor

namespace Go.Proofs.YtdcidannegcaoaaGreatDoor
open Go.RowKit Go.Ab
attribute [local irreducible] AWP Go.Ab.Sub Means MeansH MeansE CallK CallG CallT CallGT PanicH PanicX DefH CallU
abbrev payC:AV:=.fn 77 [] [.el 12 1 0 0,.el 14 1 0 0,.el 13 1 0 0]
def wL(M:List Int)(L:List Nat):List Int:=L.map fun q=>M.getD q 0
theorem EJ(M:List Int)(L:List Nat):(wL M L).length=L.length:=by simp[wL]
theorem HB(M:List Int){L:List Nat}{k:Nat}(h:k<L.length):wL M (L.take (k+1))=wL M (L.take k)++[M.getD L[k] 0]:=by
 unfold wL
 rw[List.take_succ_eq_append_getElem h,List.map_append];rfl
theorem JL{M:List Int}{L:List Nat}{k:Nat}(h:k<L.length)(h':k<(wL M L).length):(wL M L)[k]=M.getD L[k] 0:=by simp[wL]
theorem tR(h:Int)(A B:List Int):sumM h (A++B)=sumM h A+sumM h B:=by unfold sumM;rw[List.map_append,List.sum_append]
theorem AS(h:Int){W:List Int}{k:Nat}(hk:k<W.length):sumM h (W.take (k+1))=sumM h (W.take k)+min W[k] h:=by
 rw[List.take_succ_eq_append_getElem hk,tR];simp[sumM]
theorem f9{h:Int}(hh:0≤h):∀{l:List Int},(∀m∈l,0≤m)→0≤sumM h l
 | [],_=>by simp[sumM]
 |a::l,hl=>by
  have:=f9 hh (l:=l) fun m hm=>hl m (by simp[hm])
  have h0:=hl a (by simp)
  unfold sumM at*
  simp only[List.map_cons,List.sum_cons];omega
theorem tS{h:Int}{W:List Int}{k:Nat}(hh:0≤h)(hW:∀m∈W,0≤m):sumM h (W.take k)≤sumM h W:=by
 have e:=tR h (W.take k) (W.drop k)
 rw[List.take_append_drop]at e
 have:=f9 (h:=h) (l:=W.drop k) hh fun m hm=>hW m (List.mem_of_mem_drop hm)
 omega
abbrev iq(q:Nat):AV:=ii (q:Int)
theorem qC{L:List Nat}{k:Nat}(h:k<L.length):nth (L.map iq) k=iq L[k]:=bF iq h
abbrev rowQ(L:List Nat):Cell:=.row ⟨3,1,L.map iq⟩
abbrev payS(G:List (List Int))(n:Nat)(M:List Int)(R:Nat→List Int)(L:List Nat)(d:Nat)(left:Int):AV→List Cell→Prop:=
 fun r H=>∃x M' R',r=ii (left-x)∧(0≤x∧x≤left)∧Pst n M R M' R' d x∧H=h8 G M' n R' [rowQ L]
set_option maxHeartbeats 16000000 in
set_option maxRecDepth 20000 in
theorem JT(G:List (List Int))(n:Nat)(M:List Int)(R:Nat→List Int)(L:List Nat)(d:Nat)(left:Int)(hn:n≤8)(hI:InvM n M R)(hd:d<n)(hL:∀q∈L,q<n)(hLl:L.length≤8)(hnd:L.Nodup)(hl:0≤left∧left≤1099511627776):
  MeansE Tryz.prog 34 (h8 G M n R [rowQ L]) [.el 0 3 0 0,ii left,.ow 11,ii d] (payS G n M R L d left):=by
 have hML:=hI.ml
 refine yE 12 78 [.tmp 8] [0,1,2,3,4,5,7,8,9,11,12,13,14,15,16,17,18,19,20,21,39,40,41,42,56,57,58,59,72,1000000,1000001,1000002,1000003,1000004,1000005,1000006,1000007,1000008,1000009,1000010,1000011] Tryz.func34 fun X hX=>?_
 (repeat(refine yB ?_;(simp[go_sem])))
 refine aE (fun k:Nat=>⟨mkE [(2,.ow 11),(4,.el 12 1 0 0),(5,.el 13 1 0 0),(7,.el 14 1 0 0),(9,.ow 15),(18,.ow 11),(19,ii L.length),(20,ii k),(1000000,.ow 0),(1000001,.ow 1),(1000002,.ow 2),(1000003,.ow 3),(1000004,.ow 4),(1000005,.ow 5),(1000006,.ow 6),(1000007,.ow 7),(1000008,.ow 8),(1000009,.ow 9),(1000010,.ow 10),(1000011,.ow 11)],h8 G M n R [rowQ L,mbx,ibx left,ibx d,rowI (wL M (L.take k))]⟩) (fun k=>k≤L.length) (fun k=>L.length-k) 0 ?_ ?_ ?_
 ·refine yS _ (s8 G M n R [.old 11 ⟨3,1,L.map iq⟩,.old 12 ⟨92,1,[.el 0 3 0 0]⟩,.old 13 ⟨3,1,[ii left]⟩,.old 14 ⟨3,1,[ii d]⟩,.birth 3 1]) ?_ (by simp[go_sem,isO,wL])
  simp[go_sem,wL]
 ·exact Nat.zero_le _
 ·intro k hk
  (repeat(refine yB ?_;(simp[go_sem])))
  refine yC (decide (k<L.length)) (fun hc=>?_) fun hc=>?_
  ·simp at hc
   have hq:=qC hc
   have hqn:=hL _ (List.getElem_mem hc)
   have e1:=HB M hc
   have wk:=w64 (x:=(k:Int)+1) (by omega) (by omega)
   have hwl:=EJ M (L.take k)
   have htk:(L.take k).length≤8:=by simp;omega
   generalize L[k]=q at*
   have hqM:q<M.length:=by omega
   have hm:=cK hqM
   have hmv:M[q]=M.getD q 0:=by simp[hqM]
   rw[hmv]at hm
   (repeat(refine yB ?_;(simp[go_sem,hc,hq,hqM,hm])))
   (repeat refine⟨by first|omega|(rw[bH];omega)|kernel_rfl|grind,?_⟩)
   (repeat(refine yB ?_;(simp[go_sem,wk,hmv];(try simp(disch:=omega) only[w64,td,tm]))))
   refine⟨k+1,by omega,by omega,?_⟩
   refine yS _ (s8 G M n R [.old 11 ⟨3,1,L.map iq⟩,.old 12 ⟨92,1,[.el 0 3 0 0]⟩,.old 13 ⟨3,1,[ii left]⟩,.old 14 ⟨3,1,[ii d]⟩,.old 17 ⟨3,1,(wL M (L.take (k+1))).map ii⟩]) ?_ (by simp[go_sem,isO,e1,hmv])
   simp[go_sem]
  ·have:k=L.length:=by simp at hc;omega
   subst this
   rw[List.take_of_length_le (Nat.le_refl _)]
   have hWl:=EJ M L
   have hWg:=fun(t:Nat) (h:t<L.length) (h':t<(wL M L).length)=>JL (M:=M) h h'
   have hWm:∀m∈wL M L,0≤m∧m≤1099511627776:=fun m hm=>by
    obtain⟨q,hq,rfl⟩:=List.mem_map.1 hm
    exact(hI.bd (hL q hq) 0).1
   have ch:=EH (wL M L) left (by omega) hWm hl
   obtain⟨hh0,hh1⟩:=yD (sortS (wL M L)) left hl.1 fun m hm=>(hWm m ((cH _).mem_iff.1 hm)).1
   rw[AR (cH (wL M L))]at hh1
   generalize hgtV (sortS (wL M L)) left=h at*
   generalize wL M L=W at*
   (repeat(refine yB ?_;(simp[go_sem])))
   refine yH [15] ch ?_
   simp[go_sem]
   (repeat(refine yB ?_;(simp[go_sem])))
   refine aE (fun z:Nat×Int×List Int×(Nat→List Int)=>⟨mkE [(2,.ow 11),(5,.el 13 1 0 0),(9,.ow 15),(12,ii h),(13,payC),(39,.ow 11),(40,ii L.length),(41,ii z.1),(1000000,.ow 0),(1000001,.ow 1),(1000002,.ow 2),(1000003,.ow 3),(1000004,.ow 4),(1000005,.ow 5),(1000006,.ow 6),(1000007,.ow 7),(1000008,.ow 8),(1000009,.ow 9),(1000010,.ow 10),(1000011,.ow 11)],h8 G z.2.2.1 n z.2.2.2 [rowQ L,mbx,ibx (left-z.2.1),ibx d,rowI W]⟩)
    (fun z=>z.1≤L.length∧Pst n M R z.2.2.1 z.2.2.2 d z.2.1∧z.2.1=sumM h (W.take z.1)∧∀t (ht:t<L.length),z.2.2.1.getD L[t] 0=if t<z.1 then W[t]-min W[t] h else W[t]) (fun z=>L.length-z.1) (0,0,M,R) ?_ ?_ ?_
   ·refine yS _ (s8 G M n R [.old 11 ⟨3,1,L.map iq⟩,.old 12 ⟨92,1,[.el 0 3 0 0]⟩,.old 13 ⟨3,1,[ii (left-0)]⟩,.old 14 ⟨3,1,[ii d]⟩,.old 15 ⟨3,1,W.map ii⟩]) ?_ (by simp[go_sem,isO])
    simp[go_sem]
   ·exact⟨Nat.zero_le _,Pst.refl hI d,rfl,fun t ht=>by rw[if_neg (by simp)];exact(hWg t ht (by omega)).symm⟩
   ·rintro⟨k,x,M1,R1⟩ ⟨k1,k2,k3,k4⟩
    simp only[]at k1 k2 k3 k4
    (repeat(refine yB ?_;(simp[go_sem])))
    refine yC (decide (k<L.length)) (fun hc=>?_) fun hc=>?_
    ·simp at hc
     have hq:=qC hc
     have hqn:=hL _ (List.getElem_mem hc)
     have hkW:k<W.length:=by omega
     have hw:=cK hkW
     have hwb:=hWm _ (List.getElem_mem hkW)
     have wk:=w64 (x:=(k:Int)+1) (by omega) (by omega)
     have hbd:=k2.inv.bd hqn d
     have hne:∀t (ht:t<L.length),t≠k→L[t]≠L[k]:=fun t ht h e=>h ((List.getElem_inj hnd).1 e)
     have hqM:L[k]<M1.length:=by rw[k2.inv.ml];exact hqn
     have hqR:(R1 L[k]).length=n:=k2.inv.rl _ hqn
     have h4:=k4 k hc
     rw[if_neg (Nat.lt_irrefl k)]at h4
     have hst:=AS h hkW
     have hsl:=tS (h:=h) (W:=W) (k:=k+1) hh0 fun m hm=>(hWm m hm).1
     rw[hst]at hsl
     have hs0:=f9 (h:=h) (l:=W.take k) hh0 fun m hm=>(hWm m (List.mem_of_mem_take hm)).1
     have hp:=Pst.step k2.inv hqn hd (x:=min W[k] h) (by omega)
     have cp:=EI G M1 n R1 L[k] d (min W[k] h) (left-x) (M1.getD L[k] 0) ((R1 L[k]).getD d 0) hqn hd hn k2.inv.ml hqR (by simp[hqM]) (by simp[hqR,hd]) (by omega) hbd.1 hbd.2 (by omega)
     have h5:∀t (ht:t<L.length),(M1.set L[k] (M1.getD L[k] 0-min W[k] h)).getD L[t] 0=if t<k+1 then W[t]-min W[t] h else W[t]:=fun t ht=>by
      rw[dC _ _ _ _ hqM]
      by_cases e:t=k
      ·subst e
       rw[if_pos rfl,if_pos (by omega),h4]
      ·rw[if_neg (hne t ht e),k4 t ht]
       by_cases e2:t<k
       ·rw[if_pos e2,if_pos (by omega)]
       ·rw[if_neg e2,if_neg (by omega)]
     generalize M1.set L[k] (M1.getD L[k] 0-min W[k] h)=M2 at*
     generalize updR R1 L[k] ((R1 L[k]).set d ((R1 L[k]).getD d 0+min W[k] h))=R2 at*
     have hp:=k2.trans hp
     (repeat(refine yB ?_;(simp[go_sem,hc,hq,hkW,hw])))
     refine yH [0,1,2,3,4,5,6,7,8,9,10,12,14,13] cp ?_
     simp[go_sem]
     (repeat(refine yB ?_;(simp[go_sem,wk])))
     refine⟨k+1,x+min W[k] h,M2,R2,⟨by omega,hp,by rw[hst,k3],h5⟩,by omega,?_⟩
     refine yS _ (s8 G M2 n R2 [.old 11 ⟨3,1,L.map iq⟩,.old 12 ⟨92,1,[.el 0 3 0 0]⟩,.old 13 ⟨3,1,[ii (left-(x+min W[k] h))]⟩,.old 14 ⟨3,1,[ii d]⟩,.old 15 ⟨3,1,W.map ii⟩]) ?_ (by simp[go_sem,isO];try omega)
     simp[go_sem]
    have:k=L.length:=by simp at hc;omega
    subst this
    have hx:0≤x∧x≤left:=by
     rw[List.take_of_length_le (by omega)]at k3
     have hs0:=f9 (h:=h) (l:=W) hh0 fun m hm=>(hWm m hm).1
     omega
    have k5:∀t (ht:t<L.length),M1.getD L[t] 0=W[t]-min W[t] h:=fun t ht=>by rw[k4 t ht,if_pos ht]
    clear k4 k3 k1 hc
    (repeat(refine yB ?_;(simp[go_sem])))
    refine aE (fun z:Nat×Int×List Int×(Nat→List Int)=>⟨mkE [(2,.ow 11),(5,.el 13 1 0 0),(9,.ow 15),(12,ii h),(13,payC),(56,.ow 11),(57,ii L.length),(58,ii z.1),(1000000,.ow 0),(1000001,.ow 1),(1000002,.ow 2),(1000003,.ow 3),(1000004,.ow 4),(1000005,.ow 5),(1000006,.ow 6),(1000007,.ow 7),(1000008,.ow 8),(1000009,.ow 9),(1000010,.ow 10),(1000011,.ow 11)],h8 G z.2.2.1 n z.2.2.2 [rowQ L,mbx,ibx (left-z.2.1),ibx d,rowI W]⟩)
     (fun z=>z.1≤L.length∧Pst n M R z.2.2.1 z.2.2.2 d z.2.1∧(0≤z.2.1∧z.2.1≤left)∧∀t (ht:t<L.length),z.1≤t→z.2.2.1.getD L[t] 0=W[t]-min W[t] h) (fun z=>L.length-z.1) (0,x,M1,R1) ?_ ?_ ?_
    ·refine yS _ (s8 G M1 n R1 [.old 11 ⟨3,1,L.map iq⟩,.old 12 ⟨92,1,[.el 0 3 0 0]⟩,.old 13 ⟨3,1,[ii (left-x)]⟩,.old 14 ⟨3,1,[ii d]⟩,.old 15 ⟨3,1,W.map ii⟩]) ?_ (by simp[go_sem,isO])
     simp[go_sem]
    ·exact⟨Nat.zero_le _,k2,hx,fun t ht _=>k5 t ht⟩
    clear k2 k5 hx
    rintro⟨k,x,M1,R1⟩ ⟨k1,k2,k3,k4⟩
    simp only[]at k1 k2 k3 k4
    (repeat(refine yB ?_;(simp[go_sem])))
    refine yC (decide (k<L.length)) (fun hc=>?_) fun hc=>?_
    ·simp at hc
     have hq:=qC hc
     have hqn:=hL _ (List.getElem_mem hc)
     have hkW:k<W.length:=by omega
     have hw:=cK hkW
     have hwb:=hWm _ (List.getElem_mem hkW)
     have wk:=w64 (x:=(k:Int)+1) (by omega) (by omega)
     have hbd:=k2.inv.bd hqn d
     have hne:∀t (ht:t<L.length),t≠k→L[t]≠L[k]:=fun t ht h e=>h ((List.getElem_inj hnd).1 e)
     have hqM:L[k]<M1.length:=by rw[k2.inv.ml];exact hqn
     have hqR:(R1 L[k]).length=n:=k2.inv.rl _ hqn
     have h4:=k4 k hc (Nat.le_refl _)
     (repeat(refine yB ?_;(simp[go_sem,hc,hq,hkW,hw])))
     refine yC (decide (h<W[k])&&decide (0<left-x)) (fun hd2=>?_) (fun hd2=>?_) (by simp[go_sem];try omega)
     ·simp only[Bool.and_eq_true,decide_eq_true_eq]at hd2
      have hp:=Pst.step k2.inv hqn hd (x:=1) (by omega)
      have cp:=EI G M1 n R1 L[k] d 1 (left-x) (M1.getD L[k] 0) ((R1 L[k]).getD d 0) hqn hd hn k2.inv.ml hqR (by simp[hqM]) (by simp[hqR,hd]) (by omega) hbd.1 hbd.2 (by omega)
      have h5:∀t (ht:t<L.length),k+1≤t→(M1.set L[k] (M1.getD L[k] 0-1)).getD L[t] 0=W[t]-min W[t] h:=fun t ht hkt=>by
       rw[dC _ _ _ _ hqM,if_neg (hne t ht (by omega)),k4 t ht (by omega)]
      generalize M1.set L[k] (M1.getD L[k] 0-1)=M2 at*
      generalize updR R1 L[k] ((R1 L[k]).set d ((R1 L[k]).getD d 0+1))=R2 at*
      have hp:=k2.trans hp
      (repeat(refine yB ?_;(simp[go_sem])))
      refine yH [0,1,2,3,4,5,6,7,8,9,10,12,14,13] cp ?_
      simp[go_sem]
      (repeat(refine yB ?_;(simp[go_sem,wk])))
      refine⟨k+1,x+1,M2,R2,⟨by omega,hp,by omega,h5⟩,by omega,?_⟩
      refine yS _ (s8 G M2 n R2 [.old 11 ⟨3,1,L.map iq⟩,.old 12 ⟨92,1,[.el 0 3 0 0]⟩,.old 13 ⟨3,1,[ii (left-(x+1))]⟩,.old 14 ⟨3,1,[ii d]⟩,.old 15 ⟨3,1,W.map ii⟩]) ?_ (by simp[go_sem,isO];try omega)
      simp[go_sem]
     ·(repeat(refine yB ?_;(simp[go_sem,wk])))
      refine⟨k+1,x,M1,R1,⟨by omega,k2,k3,fun t ht hkt=>k4 t ht (by omega)⟩,by omega,?_⟩
      refine yS _ (s8 G M1 n R1 [.old 11 ⟨3,1,L.map iq⟩,.old 12 ⟨92,1,[.el 0 3 0 0]⟩,.old 13 ⟨3,1,[ii (left-x)]⟩,.old 14 ⟨3,1,[ii d]⟩,.old 15 ⟨3,1,W.map ii⟩]) ?_ (by simp[go_sem,isO])
      simp[go_sem]
    ·(repeat(refine yB ?_;(simp[go_sem])))
     refine aB ?_;refine⟨ii (left-x),h8 G M1 n R1 [rowQ L],⟨x,M1,R1,rfl,k3,k2,rfl⟩,?_⟩
     refine a8 [(8,ii (left-x)),(1000000,.ow 0),(1000001,.ow 1),(1000002,.ow 2),(1000003,.ow 3),(1000004,.ow 4),(1000005,.ow 5),(1000006,.ow 6),(1000007,.ow 7),(1000008,.ow 8),(1000009,.ow 9),(1000010,.ow 10),(1000011,.ow 11)] (s8 G M1 n R1 [.old 11 ⟨3,1,L.map iq⟩]) ?_
     simp[go_sem,isO]
end Go.Proofs.YtdcidannegcaoaaGreatDoor

