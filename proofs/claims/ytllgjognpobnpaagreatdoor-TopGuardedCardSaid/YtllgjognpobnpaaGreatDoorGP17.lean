/-
  Lemmas for the statement at the top.
-/
import Derived.Test.YtllgjognpobnpaaGreatDoorGP6
import Derived.Test.YtllgjognpobnpaaGreatDoorGP16
import Derived.Test.YtllgjognpobnpaaGreatDoorGP12
import Derived.Test.YtllgjognpobnpaaGreatDoorGP15
import Derived.Test.YtllgjognpobnpaaGreatDoorRows
import Derived.Test.YtllgjognpobnpaaGreatDoorGFw5
import Derived.Test.YtllgjognpobnpaaGreatDoorGP10
set_option linter.all false
namespace Go.Proofs.YtllgjognpobnpaaGreatDoor
open Go.RowKit Go.Ab
attribute [local irreducible] AWP Go.Ab.Sub Means MeansH CallK CallG CallT CallGT PanicH DefH CallU MeansS
def txt:By:=[99,105,114,99,108,101,32,114,111,116,97,116,105,110,103,32,59,32,112,101,114,105,111,100,32,55,32,100,97,121,115,32,59,32,108,97,115,116,32,51,32,59,32,103,114,97,99,101,32,50,32,100,97,121,115,32,59,32,106,117,114,121,32,49,32,59,32,102,117,110,100,32,49,48,48,32,112,101,114,32,109,105,108,108,101,32,59,32,100,117,101,32,49,48,32,99,111,105,110,115,32,42,32,109,101,109,98,101,114,115,32,59,32,102,105,110,101,32,49,32,99,111,105,110,115,32,42,32,40,32,108,97,116,101,32,47,32,49,32,100,97,121,115,32,41,32,59,32,99,111,118,101,114,32,112,97,105,100,32,59]
theorem FN:Means true Tryz.prog 14 [] (ss txt):=by
 refine yM true 1 [.tmp 0] [0] Tryz.func14 fun X hX=>?_
 (repeat(refine yA ?_;(simp[go_sem])))
 rfl
structure IsEx(b:Bl):Prop where
 ok:OkB b
 lets:b.lets=[]
 period:b.period=7
 grace:b.grace=2
 last:b.last=3
 wait:b.wait=0
 due:b.due=.bin 4 (.num 10 3) (.nam [109,101,109,98,101,114,115])
 fine:b.fine=.bin 4 (.num 1 3) (.bin 5 (.nam [108,97,116,101]) (.num 1 2))
def bEx:Bl:=⟨0,7,2,0,3,0,false,0,0,1,100,[],.bin 4 (.num 10 3) (.nam [109,101,109,98,101,114,115]),.bin 4 (.num 1 3) (.bin 5 (.nam [108,97,116,101]) (.num 1 2)),.num 0 3,.nam [112,97,105,100],.num 0 3⟩
theorem hU:parseT txt=(bEx,0,0):=by decide+kernel
theorem zW:rulesV txt 2=0:=by
 unfold rulesV
 rw[hU]
 have e1:(unitsU bEx).2=0:=by decide+kernel
 have e2:solvE (calL bEx.period bEx.wait bEx.grace) FF=0:=by decide+kernel
 simp only[e1,e2,if_true]
 rfl
theorem JE:IsEx bEx:=⟨by have:=f0 (s:=txt) (by rw[hU]);rw[hU]at this;exact this,rfl,rfl,rfl,rfl,rfl,rfl,rfl⟩
set_option maxHeartbeats 8000000 in
set_option maxRecDepth 20000 in
theorem FO:Means true Tryz.prog 4 [] (bb true):=by
 have c0:=FN
 have c1:=lF txt
 rw[hU]at c1
 have c6:=rW txt 2
 rw[zW]at c6
 have hx:=JE
 simp only at c1
 generalize bEx=b at c1 hx
 generalize txt=T at*
 have c2:=I6 b hx.ok hx.lets hx.period hx.grace hx.last hx.due hx.fine
 have c3:=HA
 have c4:=EH
 have c5:=H9 b hx.ok hx.wait
 refine yM true 104 [.tmp 0] [0,1,3,4,5,6,7,8,55] Tryz.func4 fun X hX=>?_
 (repeat(refine yA ?_;(simp[go_sem])))
 refine aD c0 ?_
 simp[go_sem]
 refine aD c1 ?_
 simp[go_sem]
 (repeat(refine yA ?_;(simp[go_sem])))
 refine aD c2 ?_
 simp[go_sem]
 (repeat(refine yA ?_;(simp[go_sem])))
 refine jT (c3) rfl rfl ?_
 simp[go_sem]
 (repeat(refine yA ?_;(simp[go_sem])))
 refine aD c4 ?_
 simp[go_sem]
 (repeat(refine yA ?_;(simp[go_sem])))
 refine jT (c5) rfl rfl ?_
 simp[go_sem]
 (repeat(refine yA ?_;(simp[go_sem])));(repeat(refine a8 ?_ ?_;(focus(simp[go_sem];done));(repeat(refine yA ?_;(simp[go_sem])))))
 refine aD c0 ?_
 simp[go_sem]
 refine aD c6 ?_
 simp[go_sem]
 (repeat(refine yA ?_;(simp[go_sem])))
end Go.Proofs.YtllgjognpobnpaaGreatDoor

namespace Go.Proofs.YtllgjognpobnpaaGreatDoor
open Go.RowKit Go.Ab
attribute [local irreducible] AWP Go.Ab.Sub Means MeansH MeansV MeansE CallK CallG CallT CallGT PanicH PanicX DefH CallU MeansS
theorem zX{s:By}{n:Int}(h:rulesV s n=0)(h8:n≤8)(hl:(parseT s).1.last≤12):(parseT s).2.2=0∧Fit (parseT s).1 n:=by
 unfold rulesV at h
 split at h
 ·cases h
 ·rename_i hn
  split at h
  ·rename_i he
   split at h
   ·split at h
    ·rename_i hs
     exact⟨he,f0 he,by omega,hl,hs⟩
    ·cases h
   ·rename_i hu;exact absurd h hu
  ·rename_i he;exact absurd h he
theorem FP{s:By}{n:Int}(h:rulesV s n=0):(parseT s).2.2=0:=by
 unfold rulesV at h
 split at h
 ·cases h
 ·split at h
  ·assumption
  ·rename_i he;exact absurd h he
set_option maxHeartbeats 16000000 in
set_option maxRecDepth 20000 in
theorem FQ(s:By)(n:Int)(C M:List Int):Means true Tryz.prog 3 [ss s,ii n,il C,il M] (bb true):=by
 have c1:=FO
 have c2:=EE s
 have c3:=rW s n
 have c4:=lF s
 have hri:=FP (s:=s) (n:=n)
 have hfit:=zX (s:=s) (n:=n)
 have hok:(parseT s).2.2=0→OkB (parseT s).1:=f0
 generalize lightV s=LV at*
 generalize rulesV s n=V at*
 generalize parseT s=R at*
 obtain⟨b,pp,e⟩:=R
 simp only at c4 hri hok hfit
 refine yM true 156 [.tmp 8] [0,1,2,3,8,9,10,13,14,15,16,17,18,19,21,22,23,42,53,64,84,137] Tryz.func3 fun X hX=>?_
 (repeat(refine yA ?_;(simp[go_sem])))
 refine aD c1 ?_
 simp[go_sem]
 (repeat(refine yA ?_;(simp[go_sem])))
 refine aD c2 ?_
 simp[go_sem]
 refine aI (fun hg=>c3) ?_
 simp[go_sem]
 refine yC (!LV||decide (8<n)||decide (3000<(M.length:Int))|| !decide (V=0)) (fun hd=>?_) fun hd=>?_
 ·(repeat(refine yA ?_;(simp[go_sem])))
 simp only[Bool.or_eq_false_iff,Bool.not_eq_false',decide_eq_true_eq,decide_eq_false_iff_not]at hd
 obtain⟨⟨⟨_,h8⟩,hM⟩,hV⟩:=hd
 have h8:n≤8:=by omega
 have hM:M.length≤3000:=by omega
 have he:=hri hV
 subst he
 have hb:=hok rfl
 have c5:=FR b hb C
 have hfit:=hfit hV h8
 clear hok hri c1 c2 c3
 (repeat(refine yA ?_;(simp[go_sem])))
 refine aD c4 ?_
 simp[go_sem]
 (repeat(refine yA ?_;(simp[go_sem])))
 refine aD c5 ?_
 simp[go_sem]
 refine yC (!few22 b C) (fun hd=>?_) fun hd=>?_
 ·(repeat(refine yA ?_;(simp[go_sem])))
 obtain⟨hl,hC⟩:=CX (b:=b) (C:=C) (by simpa using hd)
 obtain⟨_,hf⟩:=hfit hl
 clear hd c4 c5 hfit hV
 by_cases he:errG b n C=0
 ·have hcp:=CY b n hf C hC he
  have hgm:=CZ b n hf C hC
  rw[he,if_pos rfl]at hgm
  have hck:=D0 b n hf C hC he
  obtain⟨g1,g2,g3⟩:=iA he
  have hn:=hf.n
  obtain⟨hG,h0⟩:=nC hf g2 (by have:=eD C (-1) (by omega) g1;omega) g3
  have hex:=(I7 b n hf C he).e rfl (fun r hr=>by obtain⟨x,e,rfl,_⟩:=hr;simp[AV.idLt,AV.idB])
  generalize gml b n C.length=G at*
  have hbd:=lQ hG hG.pos
  have hpl:=fun W h=>FS G hG W h
  have hple:=fun W=>I8 hG W
  have hz:=bJ G
  have hGl:=hG.len
  have k1:=hck ((vals G).getD 0 0)
  have k2:=hck ((vals G).getD 0 0-1)
  rw[if_neg (by omega)]at k1
  rw[if_pos (by omega)]at k2
  clear hck
  rw[show cert G=.agg [il (vals G),il (chc G)] from rfl]at hcp k1 k2
  generalize(vals G).getD 0 0=v at*
  generalize vals G=Vs at*
  generalize chc G=Ch at*
  (repeat(refine yA ?_;(simp[go_sem])))
  refine aD hcp ?_
  simp[go_sem]
  (repeat(refine yA ?_;(simp[go_sem])))
  refine a8 (by simp[go_sem]) ?_
  (repeat(refine yA ?_;(simp[go_sem])))
  refine aD hgm ?_
  simp[go_sem]
  (repeat(refine yA ?_;(simp[go_sem])))
  (repeat refine And.intro (by first|omega|(rw[bA];omega)|kernel_rfl|grind) ?_)
  (repeat(refine yA ?_;(simp[go_sem])))
  refine aG (fun t:Nat=>⟨mkE [(1,ii n),(2,il C),(9,bb true),(10,.el 0 37 0 0),(13,.el 1 2 0 0),(14,ii v),(16,ndl G),(17,ii 0),(18,.ow 2)],[.row ⟨32,37,[bl b]⟩,.row ⟨37,2,[.agg [il Vs,il Ch]]⟩,rowI (M++List.replicate t 0)]⟩) (fun t=>t≤3000) (fun t=>3000-t) 0 ?_ ?_ ?_
  ·refine yS _ [.old 0 ⟨32,37,[bl b]⟩,.old 1 ⟨37,2,[.agg [il Vs,il Ch]]⟩,.old 3 ⟨3,1,(M++List.replicate 0 (0:Int)).map ii⟩] ?_
   simp[go_sem]
  ·exact Nat.zero_le _
  intro t ht
  have hWl:(M++List.replicate t (0:Int)).length=M.length+t:=by simp
  have hrep:M++List.replicate (t+1) (0:Int)=(M++List.replicate t 0)++[(0:Int)]:=by rw[List.replicate_succ',List.append_assoc]
  generalize M++List.replicate t (0:Int)=W at*
  (repeat(refine yA ?_;(simp[go_sem])))
  refine yC (decide (W.length<G.length)) (fun hc=>?_) fun hc=>?_
  ·have hc:W.length<G.length:=by simpa using hc
   (repeat(refine yA ?_;(simp[go_sem])))
   (repeat refine And.intro (by first|omega|(rw[bA];omega)|kernel_rfl|grind) ?_)
   refine⟨t+1,by omega,by omega,?_⟩
   rw[hrep]
   refine yS _ [.old 0 ⟨32,37,[bl b]⟩,.old 1 ⟨37,2,[.agg [il Vs,il Ch]]⟩,.old 4 ⟨3,1,(W++[(0:Int)]).map ii⟩] ?_
   simp[go_sem]
  ·have hc:¬W.length<G.length:=by simpa using hc
   refine bB (st0:=⟨mkE [(1,ii n),(2,il C),(9,bb true),(10,.el 0 37 0 0),(13,.el 1 2 0 0),(14,ii v),(16,ndl G),(17,ii 0),(18,il W)],[.row ⟨32,37,[bl b]⟩,.row ⟨37,2,[.agg [il Vs,il Ch]]⟩]⟩) ?_ ?_
   ·refine yS _ [.old 0 ⟨32,37,[bl b]⟩,.old 1 ⟨37,2,[.agg [il Vs,il Ch]]⟩] ?_
    simp[go_sem]
   have cpl:=hpl (W.take G.length) (by rw[List.length_take];omega)
   have hpv:=hple (W.take G.length)
   generalize ply G (W.take G.length) Ch=PL at*
   have hWG:G.length≤W.length:=by omega
   (repeat(refine yA ?_;(simp[go_sem,hWG])))
   rw[←List.map_take]
   refine bH cpl ?_
   (simp[go_sem];try(refine⟨by kernel_rfl,?_⟩))
   (repeat refine And.intro (by first|omega|(rw[bA];omega)|kernel_rfl|grind) ?_)
   (repeat(refine yA ?_;(simp[go_sem])))
   have wv:=w64 (x:=v-1) (by omega) (by omega)
   refine aI (fun hg=>k1) ?_
   simp[go_sem,wv]
   refine aI (fun hg=>k2) ?_
   simp[go_sem]
   refine⟨fun _ _=>⟨by omega,by omega⟩,?_⟩
   refine a8 (by simp[go_sem];omega) ?_
   (repeat(refine yA ?_;(simp[go_sem])))
   refine yQ [] hex ?_
   rintro _ _ ⟨⟨x,ee,rfl,hx⟩,rfl⟩
   (simp[go_sem];try(refine⟨by kernel_rfl,?_⟩))
   by_cases hee:ee=0
   ·have hvx:=hx hee
    (repeat(refine yA ?_;(simp[go_sem,hee,hvx])))
   ·(repeat(refine yA ?_;(simp[go_sem,hee])))
 ·have hcp:=D3 b n hf C hC he
  generalize errG b n C=e at*
  (repeat(refine yA ?_;(simp[go_sem])))
  refine aD hcp ?_
  simp[go_sem]
  (repeat(refine yA ?_;(simp[go_sem])))
  refine aC (by simp[go_sem,he]) ?_
  (repeat(refine yA ?_;(simp[go_sem])))
end Go.Proofs.YtllgjognpobnpaaGreatDoor

namespace Go.Proofs.YtllgjognpobnpaaGreatDoor
open Go.ChangeShapes Go.WideShapes Go.ChangeAt Go.RowKit Go.Ab
theorem Tryz.own:ownKnob Tryz.prog.godebug=none:=by kernel_rfl
theorem Tryz.laidOut:laidOutB Tryz.prog=true:=by kernel_rfl
set_option maxRecDepth 100000 in
theorem vC{H:Type}{enc:TypeId×Value→H}{W:World}{base:Nat}{v:Value}{d:DataW H}{p:List MemPlace}{M:Nat→Prop}{r:Go.Reach}{b0:Nat}(_hM:∀b,b<W.heap.size→M b)
  (hval:Value.okWide Tryz.prog W r b0 9 v) (h:DataW.Trod enc Tryz.prog W base (fun _=>true) true 9 v d p):∃l:By,l.length≤maxLen∧RepZ W M v (ss l):=by
 obtain⟨s,rfl,_,_,hs⟩:=Go.ChangeMaps.open_string Tryz.underlying9 hval h
 obtain⟨l,rfl⟩:=toB s
 exact⟨l,by simpa[ByteArray.size]using hs,.v _⟩
set_option maxRecDepth 100000 in
theorem D4{H:Type}{enc:TypeId×Value→H}{W:World}{base:Nat}{v:Value}{d:DataW H}{p:List MemPlace}{M:Nat→Prop}{r:Go.Reach}{b0:Nat}(hM:∀b,b<W.heap.size→M b)
  (hval:Value.okWide Tryz.prog W r b0 22 v) (h:DataW.Trod enc Tryz.prog W base (fun _=>true) true 22 v d p):∃L:List Int,L.length≤maxLen∧RepZ W M v (.sl (L.map ii)):=
 tS ii 1 (by decide) (fun _=>rfl) Tryz.underlying22 (by kernel_rfl) hM (GQ Tryz.underlying3) hval h
theorem vE{P:Program}{W:World}{t e:TypeId}{len fuel:Nat}{cs:List Value}{zs:List (List UInt8)}{p:List MemPlace}(hu:P.underlying t=some (.array len e))(he:P.underlying e=some .string)(hC:P.cellsOf e=1)(hCt:P.cellsOf t=len)
  (h:DataW.trod (fun _=>()) P W 0 (fun _=>true) false fuel t cs=some (.agg (zs.map fun z=>.lit (.string z)),p)):cs=zs.map fun z=>.string ⟨z.toArray⟩:=by
 obtain⟨xs,m,_,hx,hl,hxl,hi⟩:=DataW.trod_array hu h
 have hdat:xs.map (·.1)=zs.map fun z=>.lit (.string z):=by
  have:=(Prod.mk.inj hx).1
  simpa using this.symm
 have hzl:zs.length=len:=by
  have:=congrArg List.length hdat
  simpa[hxl]using this.symm
 rw[hCt]at hl
 simp only[hC,Nat.mul_one]at hi
 refine List.ext_getElem (by rw[List.length_map];omega) fun i h1 h2=>?_
 have h3:=hi i (by omega)
 rw[List.drop_eq_getElem_cons h1,List.take_succ_cons,List.take_zero]at h3
 have hxi:i<xs.length:=by omega
 rw[List.getElem?_eq_getElem hxi]at h3
 obtain⟨z,e1,e2,_⟩:=DataW.trod_string he h3
 have e3:cs[i]=.string z:=by simpa using e1
 have e4:(xs.map (·.1))[i]'(by rw[List.length_map];exact hxi)=.lit (.string z.data.toList):=by rw[List.getElem_map,e2]
 have e5:(zs.map fun z=>(DataW.lit (.string z):DataW Unit))[i]'(by rw[List.length_map];omega)=.lit (.string z.data.toList):=by
  rw[←e4]
  simp only[hdat]
 rw[List.getElem_map]at e5
 have e6:zs[i]=z.data.toList:=by simpa using e5
 rw[e3,List.getElem_map,e6]
theorem pG{P:Program}{W:World}{l:List (String×DataW Unit)}(h:laidMet P l W){n:String}{zs:List (List UInt8)}(hm:(n,.agg (zs.map fun z=>.lit (.string z)))∈l){g:Nat}{t e:TypeId}{len:Nat}
  (hg:P.globalNamed n=some g) (ht:(P.globals[g]?).map (·.type)=some t) (hu:P.underlying t=some (.array len e)) (he:P.underlying e=some .string) (hC:P.cellsOf e=1) (hCt:P.cellsOf t=len):
  ∃t f,W.heap[g]? =some (.cells (zs.map fun z=>Value.string ⟨z.toArray⟩).toArray t f):=by
 obtain⟨ps,hv,_⟩:=h
 obtain⟨g',t',cs,fuel,p,h1,h2,h3,h4⟩:=rG hv hm
 rw[hg]at h1
 cases h1
 rw[ht]at h2
 cases h2
 have hcs:=vE hu he hC hCt h4
 simp only[World.var?,hg,Option.bind_some]at h3
 split at h3
 ·rename_i cs' a b hh
  cases h3
  exact⟨a,b,by rw[hh,←hcs]⟩
 ·cases h3
theorem zY{W:World}(h:∀p∈globs,∃t f,W.heap[p.1]? =some (.cells p.2.toArray t f))(hi:∀g∈globI,∃m t f,W.heap[g]? =some (.cells #[.int .i64 m] t f)):GlobW W (fun b=>b<W.heap.size):=by
 refine⟨fun p hp=>?_,fun g hg=>by
  obtain⟨m,t,f,hh⟩:=hi g hg
  exact⟨(Array.getElem?_eq_some_iff.1 hh).1,m,t,f,hh⟩⟩
 obtain⟨t,f,hh⟩:=h p hp
 refine⟨(Array.getElem?_eq_some_iff.1 hh).1,fun j c hc=>?_,t,f,hh⟩
 simp[World.cell?,hh,hc]
theorem r7{W:World}(hSh:W.ShapedOpen Tryz.prog)(h:laidMet Tryz.prog Rows.topGuardedRow.laid W):GlobW W (fun b=>b<W.heap.size):=
 zY (fun p hp=>by
  have hp2:p=(0,usesL.map fun z=>Value.string ⟨z.toArray⟩)∨p=(1,signs.map fun z=>Value.string ⟨z.toArray⟩):=by
   rw[globs]at hp
   simpa[usesL,signs]using hp
  rcases hp2 with rfl|rfl
  ·exact pG (zs:=usesL) h (n:= "stokvel/entry.uses") (List.mem_of_getElem? (i:=1) (by kernel_rfl)) (len:=21) (by kernel_rfl) (by kernel_rfl) Tryz.underlying208 Tryz.underlying9 (by kernel_rfl) (by kernel_rfl)
  ·exact pG (zs:=signs) h (n:= "stokvel/lex.signs") (List.mem_of_getElem? (i:=0) (by kernel_rfl)) (len:=11) (by kernel_rfl) (by kernel_rfl) Tryz.underlying231 Tryz.underlying9 (by kernel_rfl) (by kernel_rfl))
  (fun g hg=>by
   have:g=2:=by rw[globI]at hg;simpa using hg
   subst this
   exact tT hSh (g:=2) (zero:= #[.int .i64 0]) (t:=3) (u:=3) (of_decide_eq_true (by kernel_rfl)) (by kernel_rfl) (by kernel_rfl) (by kernel_rfl) (by kernel_rfl) Tryz.underlying3)
noncomputable def laidWorld(os:Os):World:=layAll Tryz.prog (World.holding Tryz.prog os ⟨#[],#[],[]⟩) Rows.topGuardedRow.laid
theorem D5(os:Os)(args:Array Value):laidMet Tryz.prog Rows.topGuardedRow.laid ((laidWorld os).forCall (fun _ _=>0) ⟨#[],args,[]⟩).memory:=
 laidMet_of_run3 8 (by kernel_rfl) (by kernel_rfl) (by kernel_rfl)
end Go.Proofs.YtllgjognpobnpaaGreatDoor

