/-
  Lemmas for the statement at the top.
-/
import Derived.Test.YtllgjognpobnpaaGreatDoorGP6
import Derived.Test.YtllgjognpobnpaaGreatDoorGFw4
import Derived.Test.YtllgjognpobnpaaGreatDoorProg
import Derived.KernelRfl
import Derived.Test.YtllgjognpobnpaaGreatDoorGFw6
set_option linter.all false
namespace Go.Proofs.YtllgjognpobnpaaGreatDoor
inductive E where
 |num (n u:Int)
 |nam (s:By)
 |un (a:E)
 |bin (op:Int) (a b:E)
 |ite (a b c:E)
 deriving DecidableEq
def E.lev:E→Nat
 | .num _ _| .nam _=>1
 | .un a=>a.lev+1
 | .bin _ a b=>max a.lev b.lev+1
 | .ite a b c=>max (max a.lev b.lev) c.lev+1
inductive Pr(α:Type) where
 |ok (x:α) (i:Nat)
 |no (p e:Int)
 deriving DecidableEq
def Pr.bind{α β:Type}(r:Pr α)(f:α→Nat→Pr β):Pr β:=match r with
 | .ok x i=>f x i
 | .no p e=>.no p e
theorem Pr.bind_ok{α β:Type}(x:α)(i:Nat)(f:α→Nat→Pr β):(Pr.ok x i).bind f=f x i:=rfl
theorem Pr.bind_no{α β:Type}(p e:Int)(f:α→Nat→Pr β):(Pr.no p e).bind f=.no p e:=rfl
def endT:Tk:=⟨0,[],0,0⟩
def nx(ts:List Tk)(i:Nat):Tk:=ts.getD i endT
def isT(ts:List Tk)(s:By)(i:Nat):Bool:=decide ((nx ts i).kind≠0)&&decide ((nx ts i).text=s)
def chk{α:Type}(ts:List Tk)(b:Bool)(e:Int)(i:Nat)(r:Pr α):Pr α:=if b then r else .no (nx ts i).pos e
structure OkT(ts:List Tk):Prop where
 len:ts.length≤5000
 last:∀i,i<ts.length→(nx ts i).kind≠0→i+1<ts.length
 txt:∀x∈ts,x.text.length≤2000
 num:∀x∈ts,0≤x.n∧x.n≤1099511627776
theorem OkT.num'{ts:List Tk}(h:OkT ts)(i:Nat):0≤(nx ts i).n∧(nx ts i).n≤1099511627776:=by
 unfold nx
 rw[List.getD_eq_getElem?_getD]
 cases hx:ts[i]? with
 |none=>simp[endT]
 |some x=>exact h.num x (List.mem_of_getElem? hx)
theorem OkT.txt'{ts:List Tk}(h:OkT ts)(i:Nat):(nx ts i).text.length≤2000:=by
 unfold nx
 rw[List.getD_eq_getElem?_getD]
 cases hx:ts[i]? with
 |none=>exact Nat.zero_le _
 |some x=>exact h.txt x (List.mem_of_getElem? hx)
theorem OkT.has{ts:List Tk}(h:OkT ts){s:By}{i:Nat}(hi:i<ts.length)(hs:isT ts s i=true):i+1<ts.length:=by
 simp only[isT,Bool.and_eq_true,decide_eq_true_eq]at hs
 exact h.last i hi hs.1
def hasT(ts:List Tk)(s:By)(i:Nat):Nat:=if isT ts s i then i+1 else i
theorem vY{ts:List Tk}(h:OkT ts){s:By}{i:Nat}(hi:i<ts.length):i≤hasT ts s i∧hasT ts s i<ts.length:=by
 unfold hasT
 split
 ·rename_i hs;exact⟨by omega,h.has hi hs⟩
 ·exact⟨Nat.le_refl _,hi⟩
def wantT(ts:List Tk):List By→Nat→Pr Unit
 | [],i=>.ok () i
 |s::l,i=>if isT ts s i then wantT ts l (i+1)else .no (nx ts i).pos 12
theorem bD{ts:List Tk}(h:OkT ts):∀{l:List By} {i j:Nat},i<ts.length→wantT ts l i=.ok () j→i+l.length=j∧j<ts.length
 | [],i,j,hi,hw=>by simp only[wantT,Pr.ok.injEq]at hw;obtain⟨_,rfl⟩:=hw;exact⟨rfl,hi⟩
 |s::l,i,j,hi,hw=>by
  unfold wantT at hw
  split at hw
  ·rename_i hs
   have:=bD h (h.has hi hs) hw
   simp only[List.length_cons];omega
  ·cases hw
def numberT(ts:List Tk)(jF most:Int)(i:Nat):Pr Int:=
 if(nx ts i).kind=2 then(if jF≤(nx ts i).n∧(nx ts i).n≤most then .ok (nx ts i).n (i+1)else .no (nx ts i).pos 3)else .no (nx ts i).pos 12
theorem m9{ts:List Tk}(h:OkT ts){a b:Int}{i j:Nat}{n:Int}(hi:i<ts.length)(hw:numberT ts a b i=.ok n j):j=i+1∧j<ts.length∧a≤n∧n≤b:=by
 unfold numberT at hw
 split at hw
 ·rename_i hk
  split at hw
  ·rename_i hn
   simp only[Pr.ok.injEq]at hw
   obtain⟨rfl,rfl⟩:=hw
   exact⟨rfl,h.last i hi (by rw[hk];decide),hn⟩
  ·cases hw
 ·cases hw
def partT(ts:List Tk)(word:By)(jF most:Int)(behind:List By)(i:Nat):Pr Int:=
 if isT ts word i then(numberT ts jF most (i+1)).bind fun n j=>(wantT ts behind j).bind fun _ k=>.ok n k else .ok 0 i
theorem dS{ts:List Tk}(h:OkT ts){word:By}{a b:Int}{l:List By}{i j:Nat}{n:Int}(hi:i<ts.length)(hw:partT ts word a b l i=.ok n j):i≤j∧j<ts.length∧(n=0∧isT ts word i=false∨a≤n∧n≤b):=by
 unfold partT at hw
 split at hw
 ·rename_i hs
  have h1:=h.has hi hs
  cases hn:numberT ts a b (i+1)with
  |no p e=>rw[hn]at hw;cases hw
  |ok m k=>
   rw[hn,Pr.bind_ok]at hw
   obtain⟨rfl,h2,h3⟩:=m9 h h1 hn
   cases hv:wantT ts l (i+1+1)with
   |no p e=>rw[hv]at hw;cases hw
   |ok u q=>
    rw[hv,Pr.bind_ok]at hw
    simp only[Pr.ok.injEq]at hw
    obtain⟨rfl,rfl⟩:=hw
    have:=bD h h2 hv
    exact⟨by omega,this.2,.inr h3⟩
 ·rename_i hs
  simp only[Pr.ok.injEq]at hw
  obtain⟨rfl,rfl⟩:=hw
  exact⟨Nat.le_refl _,hi,.inl ⟨rfl,by simpa using hs⟩⟩
def unitT(ts:List Tk)(i:Nat):Pr Int:=
 if isT ts [99,111,105,110,115] i then .ok 3 (i+1)else if isT ts [100,97,121,115] i then .ok 2 (i+1)
 else if isT ts [112,101,114] i then(wantT ts [[109,105,108,108,101]] (i+1)).bind fun _ j=>.ok 4 j else .ok 1 i
theorem sE{ts:List Tk}(h:OkT ts){i j:Nat}{n:Int}(hi:i<ts.length)(hw:unitT ts i=.ok n j):i≤j∧j<ts.length:=by
 unfold unitT at hw
 split at hw
 ·rename_i hs;simp only[Pr.ok.injEq]at hw;obtain⟨_,rfl⟩:=hw;exact⟨by omega,h.has hi hs⟩
 ·split at hw
  ·rename_i hs;simp only[Pr.ok.injEq]at hw;obtain⟨_,rfl⟩:=hw;exact⟨by omega,h.has hi hs⟩
  ·split at hw
   ·rename_i hs
    cases hv:wantT ts [[109,105,108,108,101]] (i+1)with
    |no p e=>rw[hv]at hw;cases hw
    |ok u q=>
     rw[hv,Pr.bind_ok]at hw
     simp only[Pr.ok.injEq]at hw
     obtain⟨rfl,rfl⟩:=hw
     have:=bD h (h.has hi hs) hv
     exact⟨by omega,this.2⟩
   ·simp only[Pr.ok.injEq]at hw;obtain⟨_,rfl⟩:=hw;exact⟨Nat.le_refl _,hi⟩
def reservedL:List By:=[[97,110,100],[98,97,99,107,115],[98,105,100,100,105,110,103],[99,105,114,99,108,101],[99,111,105,110,115],[99,111,118,101,114],[100,97,121,115],[100,114,97,119],[100,117,101],[101,108,115,101],[102,97,108,115,101],[102,105,110,101],[102,117,110,100],[103,114,97,99,101],[104,111,108,100],[105,102],[106,111,105,110],[106,117,114,121],[108,101,116],[109,97,120],[109,105,108,108,101],[109,105,110],[110,101,101,100],[110,111,116],[111,114],[111,114,100,101,114],[112,97,121],[112,101,114],[114,111,116,97,116,105,110,103],[115,97,118,105,110,103],[115,101,97,108,101,100],[116,104,101,110],[116,114,117,101],[118,111,105,99,101,115],[119,97,105,116]]
def nameOk(s:By):Bool:=isWord s&& !decide (s∈reservedL)
structure Opr where
 text:By
 op:Int
 form:Int
def opTab:List Opr:=[⟨[111,114],11,1⟩,⟨[97,110,100],10,2⟩,⟨[61,61],9,4⟩,⟨[60],8,4⟩,⟨[43],2,5⟩,⟨[45],3,5⟩,⟨[42],4,6⟩,⟨[47],5,6⟩]
def opAt(ts:List Tk)(i:Nat):Option Opr:=opTab.find? fun o=>isT ts o.text i
mutual
def expF:Nat→List Tk→Int→Nat→Pr E
 |0,_,_,_=>.no 0 99
 |f+1,ts,form,i=>(prefixF f ts form i).bind fun x j=>loopF f ts form x.1 x.2 j
def loopF:Nat→List Tk→Int→E→Int→Nat→Pr E
 |0,_,_,_,_,_=>.no 0 99
 |f+1,ts,form,e,own,i=>match opAt ts i with
  |none=>.ok e i
  |some o=>if o.form<form∨own<o.form∨(own=4∧o.form=4)then .ok e i else
   (expF f ts (o.form+1) (i+1)).bind fun x j=>loopF f ts form (.bin o.op e x) o.form j
def prefixF:Nat→List Tk→Int→Nat→Pr (E×Int)
 |0,_,_,_=>.no 0 99
 |f+1,ts,form,i=>
  if form=0∧isT ts [105,102] i=true then
   (expF f ts 0 (i+1)).bind fun a j=>(wantT ts [[116,104,101,110]] j).bind fun _ j=>(expF f ts 0 j).bind fun b j=>(wantT ts [[101,108,115,101]] j).bind fun _ j=>(expF f ts 0 j).bind fun c j=>.ok (.ite a b c,0) j
  else if form≤3∧isT ts [110,111,116] i=true then(expF f ts 3 (i+1)).bind fun a j=>.ok (.un a,3) j
  else(primaryF f ts i).bind fun e j=>.ok (e,7) j
def primaryF:Nat→List Tk→Nat→Pr E
 |0,_,_=>.no 0 99
 |f+1,ts,i=>
  if(nx ts i).kind=2 then(unitT ts (i+1)).bind fun u j=>.ok (.num (nx ts i).n u) j
  else if isT ts [116,114,117,101] i then .ok (.num 1 0) (i+1)
  else if isT ts [102,97,108,115,101] i then .ok (.num 0 0) (i+1)
  else if isT ts [109,105,110] i||isT ts [109,97,120] i then
   (wantT ts [[40]] (i+1)).bind fun _ j=>(expF f ts 0 j).bind fun a j=>(wantT ts [[44]] j).bind fun _ j=>(expF f ts 0 j).bind fun b j=>(wantT ts [[41]] j).bind fun _ j=>.ok (.bin (if isT ts [109,97,120] i then 7 else 6) a b) j
  else if isT ts [40] i then(expF f ts 0 (i+1)).bind fun e j=>(wantT ts [[41]] j).bind fun _ j=>.ok e j
  else if(nx ts i).kind=1∧nameOk (nx ts i).text=true then .ok (.nam (nx ts i).text) (i+1)
  else .no (nx ts i).pos 12
end
theorem aE{α β:Type}{r:Pr α}{f:α→Nat→Pr β}{y:β}{k:Nat}(h:r.bind f=.ok y k):∃x j,r=.ok x j∧f x j=.ok y k:=by
 cases r with
 |ok x j=>exact⟨x,j,rfl,h⟩
 |no p e=>cases h
theorem wN{ts:List Tk}{i:Nat}{o:Opr}(h:opAt ts i=some o):isT ts o.text i=true:=by
 unfold opAt at h
 have:=List.find?_some h
 exact this
theorem g7{ts:List Tk}(h:OkT ts):∀f:Nat,(∀form i e j,i<ts.length→expF f ts form i=.ok e j→i<j∧j<ts.length)∧(∀form e own i x j,i<ts.length→loopF f ts form e own i=.ok x j→i≤j∧j<ts.length)∧
  (∀form i x j,i<ts.length→prefixF f ts form i=.ok x j→i<j∧j<ts.length)∧(∀i e j,i<ts.length→primaryF f ts i=.ok e j→i<j∧j<ts.length)
 |0=>by refine⟨?_,?_,?_,?_⟩<;>intros<;>simp[expF,loopF,prefixF,primaryF]at*
 |f+1=>by
  obtain⟨hE,hL,hP,hQ⟩:=g7 h f
  have one:∀{s:By} {i j:Nat},i<ts.length→wantT ts [s] i=.ok () j→i<j∧j<ts.length:=fun hi hw=>by have:=bD h hi hw;simp at this;omega
  refine⟨fun form i e j hi he=>?_,fun form e own i x j hi he=>?_,fun form i x j hi he=>?_,fun i e j hi he=>?_⟩
  ·rw[expF]at he
   obtain⟨x,k,h1,h2⟩:=aE he
   have a1:=hP _ _ _ _ hi h1
   have a2:=hL _ _ _ _ _ _ a1.2 h2
   omega
  ·rw[loopF]at he
   split at he
   ·simp only[Pr.ok.injEq]at he;omega
   ·rename_i o ho
    split at he
    ·simp only[Pr.ok.injEq]at he;omega
    ·obtain⟨y,k,h1,h2⟩:=aE he
     have a0:=h.has hi (wN ho)
     have a1:=hE _ _ _ _ a0 h1
     have a2:=hL _ _ _ _ _ _ a1.2 h2
     omega
  ·rw[prefixF]at he
   split at he
   ·rename_i hs
    have a0:=h.has hi hs.2
    obtain⟨a,k1,h1,he⟩:=aE he
    obtain⟨_,k2,h2,he⟩:=aE he
    obtain⟨b,k3,h3,he⟩:=aE he
    obtain⟨_,k4,h4,he⟩:=aE he
    obtain⟨c,k5,h5,he⟩:=aE he
    have a1:=hE _ _ _ _ a0 h1
    have a2:=one a1.2 h2
    have a3:=hE _ _ _ _ a2.2 h3
    have a4:=one a3.2 h4
    have a5:=hE _ _ _ _ a4.2 h5
    simp only[Pr.ok.injEq]at he
    omega
   ·split at he
    ·rename_i hs
     obtain⟨a,k1,h1,he⟩:=aE he
     have a1:=hE _ _ _ _ (h.has hi hs.2) h1
     simp only[Pr.ok.injEq]at he
     omega
    ·obtain⟨a,k1,h1,he⟩:=aE he
     have a1:=hQ _ _ _ hi h1
     simp only[Pr.ok.injEq]at he
     omega
  ·rw[primaryF]at he
   split at he
   ·rename_i hk
    have a0:=h.last i hi (by rw[hk];decide)
    obtain⟨u,k1,h1,he⟩:=aE he
    have a1:=sE h a0 h1
    simp only[Pr.ok.injEq]at he
    omega
   ·split at he
    ·rename_i hs;have:=h.has hi hs;simp only[Pr.ok.injEq]at he;omega
    ·split at he
     ·rename_i hs;have:=h.has hi hs;simp only[Pr.ok.injEq]at he;omega
     ·split at he
      ·rename_i hs
       have a0:i+1<ts.length:=by
        simp only[Bool.or_eq_true]at hs
        rcases hs with hs|hs
        ·exact h.has hi hs
        ·exact h.has hi hs
       obtain⟨_,k1,h1,he⟩:=aE he
       obtain⟨a,k2,h2,he⟩:=aE he
       obtain⟨_,k3,h3,he⟩:=aE he
       obtain⟨b,k4,h4,he⟩:=aE he
       obtain⟨_,k5,h5,he⟩:=aE he
       have a1:=one a0 h1
       have a2:=hE _ _ _ _ a1.2 h2
       have a3:=one a2.2 h3
       have a4:=hE _ _ _ _ a3.2 h4
       have a5:=one a4.2 h5
       simp only[Pr.ok.injEq]at he
       omega
      ·split at he
       ·rename_i hs
        obtain⟨a,k1,h1,he⟩:=aE he
        obtain⟨_,k2,h2,he⟩:=aE he
        have a1:=hE _ _ _ _ (h.has hi hs) h1
        have a2:=one a1.2 h2
        simp only[Pr.ok.injEq]at he
        omega
       ·split at he
        ·rename_i hs
         have:=h.last i hi (by rw[hs.1];decide)
         simp only[Pr.ok.injEq]at he;omega
        ·cases he
theorem w8{ts:List Tk}(h:OkT ts):∀f:Nat,(∀form i e j,i<ts.length→expF f ts form i=.ok e j→e.lev≤j-i)∧(∀form e own i x j,i<ts.length→loopF f ts form e own i=.ok x j→x.lev≤e.lev+(j-i))∧
  (∀form i x j,i<ts.length→prefixF f ts form i=.ok x j→x.1.lev≤j-i)∧(∀i e j,i<ts.length→primaryF f ts i=.ok e j→e.lev≤j-i)
 |0=>by refine⟨?_,?_,?_,?_⟩<;>intros<;>simp[expF,loopF,prefixF,primaryF]at*
 |f+1=>by
  obtain⟨hE,hL,hP,hQ⟩:=w8 h f
  obtain⟨bE,bL,bP,bQ⟩:=g7 h f
  have one:∀{s:By} {i j:Nat},i<ts.length→wantT ts [s] i=.ok () j→i<j∧j<ts.length:=fun hi hw=>by have:=bD h hi hw;simp at this;omega
  refine⟨fun form i e j hi he=>?_,fun form e own i x j hi he=>?_,fun form i x j hi he=>?_,fun i e j hi he=>?_⟩
  ·rw[expF]at he
   obtain⟨x,k,h1,h2⟩:=aE he
   have a1:=bP _ _ _ _ hi h1
   have a2:=bL _ _ _ _ _ _ a1.2 h2
   have b1:=hP _ _ _ _ hi h1
   have b2:=hL _ _ _ _ _ _ a1.2 h2
   omega
  ·rw[loopF]at he
   split at he
   ·simp only[Pr.ok.injEq]at he;obtain⟨rfl,rfl⟩:=he;omega
   ·rename_i o ho
    split at he
    ·simp only[Pr.ok.injEq]at he;obtain⟨rfl,rfl⟩:=he;omega
    ·obtain⟨y,k,h1,h2⟩:=aE he
     have a0:=h.has hi (wN ho)
     have a1:=bE _ _ _ _ a0 h1
     have a2:=bL _ _ _ _ _ _ a1.2 h2
     have b1:=hE _ _ _ _ a0 h1
     have b2:=hL _ _ _ _ _ _ a1.2 h2
     simp only[E.lev]at b2
     omega
  ·rw[prefixF]at he
   split at he
   ·rename_i hs
    have a0:=h.has hi hs.2
    obtain⟨a,k1,h1,he⟩:=aE he
    obtain⟨_,k2,h2,he⟩:=aE he
    obtain⟨b,k3,h3,he⟩:=aE he
    obtain⟨_,k4,h4,he⟩:=aE he
    obtain⟨c,k5,h5,he⟩:=aE he
    have a1:=bE _ _ _ _ a0 h1
    have a2:=one a1.2 h2
    have a3:=bE _ _ _ _ a2.2 h3
    have a4:=one a3.2 h4
    have a5:=bE _ _ _ _ a4.2 h5
    have b1:=hE _ _ _ _ a0 h1
    have b3:=hE _ _ _ _ a2.2 h3
    have b5:=hE _ _ _ _ a4.2 h5
    simp only[Pr.ok.injEq]at he
    obtain⟨rfl,rfl⟩:=he
    simp only[E.lev]
    omega
   ·split at he
    ·rename_i hs
     obtain⟨a,k1,h1,he⟩:=aE he
     have a0:=h.has hi hs.2
     have a1:=bE _ _ _ _ a0 h1
     have b1:=hE _ _ _ _ a0 h1
     simp only[Pr.ok.injEq]at he
     obtain⟨rfl,rfl⟩:=he
     simp only[E.lev]
     omega
    ·obtain⟨a,k1,h1,he⟩:=aE he
     have b1:=hQ _ _ _ hi h1
     simp only[Pr.ok.injEq]at he
     obtain⟨rfl,rfl⟩:=he
     exact b1
  ·rw[primaryF]at he
   split at he
   ·rename_i hk
    have a0:=h.last i hi (by rw[hk];decide)
    obtain⟨u,k1,h1,he⟩:=aE he
    have a1:=sE h a0 h1
    simp only[Pr.ok.injEq]at he
    obtain⟨rfl,rfl⟩:=he
    simp only[E.lev]
    omega
   ·split at he
    ·simp only[Pr.ok.injEq]at he;obtain⟨rfl,rfl⟩:=he;simp only[E.lev];omega
    ·split at he
     ·simp only[Pr.ok.injEq]at he;obtain⟨rfl,rfl⟩:=he;simp only[E.lev];omega
     ·split at he
      ·rename_i hs
       have a0:i+1<ts.length:=by
        simp only[Bool.or_eq_true]at hs
        rcases hs with hs|hs
        ·exact h.has hi hs
        ·exact h.has hi hs
       obtain⟨_,k1,h1,he⟩:=aE he
       obtain⟨a,k2,h2,he⟩:=aE he
       obtain⟨_,k3,h3,he⟩:=aE he
       obtain⟨b,k4,h4,he⟩:=aE he
       obtain⟨_,k5,h5,he⟩:=aE he
       have a1:=one a0 h1
       have a2:=bE _ _ _ _ a1.2 h2
       have a3:=one a2.2 h3
       have a4:=bE _ _ _ _ a3.2 h4
       have a5:=one a4.2 h5
       have b2:=hE _ _ _ _ a1.2 h2
       have b4:=hE _ _ _ _ a3.2 h4
       simp only[Pr.ok.injEq]at he
       obtain⟨rfl,rfl⟩:=he
       simp only[E.lev]
       omega
      ·split at he
       ·rename_i hs
        obtain⟨a,k1,h1,he⟩:=aE he
        obtain⟨_,k2,h2,he⟩:=aE he
        have a1:=bE _ _ _ _ (h.has hi hs) h1
        have a2:=one a1.2 h2
        have b1:=hE _ _ _ _ (h.has hi hs) h1
        simp only[Pr.ok.injEq]at he
        obtain⟨rfl,rfl⟩:=he
        omega
       ·split at he
        ·simp only[Pr.ok.injEq]at he;obtain⟨rfl,rfl⟩:=he;simp only[E.lev];omega
        ·cases he
def expT(ts:List Tk)(form:Int)(i:Nat):Pr E:=expF (3*ts.length+5) ts form i
def wholeT(ts:List Tk)(i:Nat):Pr E:=(expT ts 0 i).bind fun e j=>if isT ts [59] j then(if e.lev≤12 then .ok e (j+1)else .no (nx ts j).pos 6)else .no (nx ts j).pos 12
theorem kF{ts:List Tk}(h:OkT ts){i j:Nat}{e:E}(hi:i<ts.length)(hw:wholeT ts i=.ok e j):i<j∧j<ts.length∧e.lev≤12:=by
 obtain⟨x,k,h1,h2⟩:=aE hw
 have a1:=(g7 h _).1 _ _ _ _ hi h1
 split at h2
 ·rename_i hs
  have a2:=h.has a1.2 hs
  split at h2
  ·rename_i hl
   simp only[Pr.ok.injEq]at h2
   obtain⟨rfl,rfl⟩:=h2
   exact⟨by omega,a2,hl⟩
  ·cases h2
 ·cases h2
def nothingE:E:=.num 0 3
def clauseT(ts:List Tk)(word:By)(i:Nat):Pr E:=if isT ts word i then wholeT ts (i+1)else .ok nothingE i
theorem fR{ts:List Tk}(h:OkT ts){w:By}{i j:Nat}{e:E}(hi:i<ts.length)(hw:clauseT ts w i=.ok e j):i≤j∧j<ts.length∧e.lev≤12:=by
 unfold clauseT at hw
 split at hw
 ·rename_i hs
  have:=kF h (h.has hi hs) hw
  exact⟨by omega,this.2⟩
 ·simp only[Pr.ok.injEq]at hw
  obtain⟨rfl,rfl⟩:=hw
  exact⟨Nat.le_refl _,hi,by decide⟩
def kindT(ts:List Tk)(i:Nat):Pr (Int×Bool):=(wantT ts [[99,105,114,99,108,101]] i).bind fun _ i=>
 if isT ts [114,111,116,97,116,105,110,103] i then(wantT ts [[59]] (i+1)).bind fun _ j=>.ok (0,false) j
 else if isT ts [115,97,118,105,110,103] i then(wantT ts [[59]] (i+1)).bind fun _ j=>.ok (2,false) j
 else(wantT ts [[98,105,100,100,105,110,103]] i).bind fun _ j=>(wantT ts [[59]] (hasT ts [115,101,97,108,101,100] j)).bind fun _ k=>.ok (1,isT ts [115,101,97,108,101,100] j) k
theorem C0{ts:List Tk}(h:OkT ts){i j:Nat}{x:Int×Bool}(hi:i<ts.length)(hw:kindT ts i=.ok x j):i≤j∧j<ts.length:=by
 obtain⟨_,k,h1,h2⟩:=aE hw
 have a1:=bD h hi h1
 split at h2
 ·rename_i hs
  obtain⟨_,k2,h3,h4⟩:=aE h2
  have a2:=bD h (h.has a1.2 hs) h3
  simp only[Pr.ok.injEq]at h4
  omega
 ·split at h2
  ·rename_i hs
   obtain⟨_,k2,h3,h4⟩:=aE h2
   have a2:=bD h (h.has a1.2 hs) h3
   simp only[Pr.ok.injEq]at h4
   omega
  ·obtain⟨_,k2,h3,h4⟩:=aE h2
   obtain⟨_,k3,h5,h6⟩:=aE h4
   have a2:=bD h a1.2 h3
   have a3:=vY h (s:=[115,101,97,108,101,100]) a2.2
   have a4:=bD h a3.2 h5
   simp only[Pr.ok.injEq]at h6
   omega
def ordersL:List By:=[[106,111,105,110],[100,114,97,119],[110,101,101,100]]
def orderT(ts:List Tk)(i:Nat):Pr Int:=if isT ts [111,114,100,101,114] i then
 (match ordersL.findIdx? fun s=>isT ts s (i+1)with
  |some n=>(wantT ts [[59]] (i+1+1)).bind fun _ j=>.ok (n:Int) j
  |none=>.no (nx ts (i+1)).pos 12)else .ok 0 i
theorem zA{ts:List Tk}(h:OkT ts){i j:Nat}{n:Int}(hi:i<ts.length)(hw:orderT ts i=.ok n j):i≤j∧j<ts.length:=by
 unfold orderT at hw
 split at hw
 ·rename_i hs
  have a0:=h.has hi hs
  split at hw
  ·rename_i m hm
   obtain⟨x,hx⟩:∃x,isT ts x (i+1)=true:=by
    obtain⟨hm1,hm2,_⟩:=List.findIdx?_eq_some_iff_getElem.1 hm
    exact⟨_,hm2⟩
   obtain⟨_,k2,h3,h4⟩:=aE hw
   have a2:=bD h (h.has a0 hx) h3
   simp only[Pr.ok.injEq]at h4
   omega
  ·cases hw
 ·simp only[Pr.ok.injEq]at hw
  omega
structure Bl where
 kind:Int:=0
 period:Int:=0
 grace:Int:=0
 wait:Int:=0
 last:Int:=0
 order:Int:=0
 sld:Bool:=false
 backs:Int:=0
 voices:Int:=0
 jury:Int:=0
 fund:Int:=0
 lets:List (By×E):=[]
 due:E:=.num 0 0
 fine:E:=.num 0 0
 pay:E:=.num 0 0
 cover:E:=.num 0 0
 hold:E:=.num 0 0
 deriving DecidableEq
def letsF:Nat→List Tk→List (By×E)→Nat→Pr (List (By×E))
 |0,_,_,_=>.no 0 99
 |f+1,ts,acc,i=>if isT ts [108,101,116] i then
   (if acc.length<20 then
    (if(nx ts (i+1)).kind=1∧nameOk (nx ts (i+1)).text=true then
     (if acc.any fun l=>decide (l.1=(nx ts (i+1)).text)then .no (nx ts (i+1)).pos 5
      else(wantT ts [[61]] (i+1+1)).bind fun _ j=>(wholeT ts j).bind fun e k=>letsF f ts (acc++[((nx ts (i+1)).text,e)]) k)
     else .no (nx ts (i+1)).pos 12)
    else .no (nx ts i).pos 6)
  else .ok acc i
def letsT(ts:List Tk)(i:Nat):Pr (List (By×E)):=letsF (ts.length+1) ts [] i
def bylawsT(ts:List Tk):Pr Bl:=
 (kindT ts 0).bind fun k i=>
 chk ts (isT ts [112,101,114,105,111,100] i) 12 i<|(partT ts [112,101,114,105,111,100] 1 1000 [[100,97,121,115],[59]] i).bind fun period i=>
 chk ts (isT ts [108,97,115,116] i) 12 i<|(partT ts [108,97,115,116] 1 1000 [[59]] i).bind fun last i=>
 (partT ts [103,114,97,99,101] 0 1000 [[100,97,121,115],[59]] i).bind fun grace i=>
 (partT ts [119,97,105,116] 0 1000 [[100,97,121,115],[59]] i).bind fun wait i=>
 (orderT ts i).bind fun order i=>
 (partT ts [98,97,99,107,115] 0 60 [[59]] i).bind fun backs i=>
 (partT ts [118,111,105,99,101,115] 0 1000 [[112,101,114],[109,105,108,108,101],[59]] i).bind fun voices i=>
 (partT ts [106,117,114,121] 0 60 [[59]] i).bind fun jury i=>
 (partT ts [102,117,110,100] 0 1000 [[112,101,114],[109,105,108,108,101],[59]] i).bind fun fund i=>
 (letsT ts i).bind fun lets i=>
 (wantT ts [[100,117,101]] i).bind fun _ i=>
 (wholeT ts i).bind fun due i=>
 (clauseT ts [102,105,110,101] i).bind fun fine i=>
 (clauseT ts [112,97,121] i).bind fun pay i=>
 (clauseT ts [99,111,118,101,114] i).bind fun cover i=>
 (clauseT ts [104,111,108,100] i).bind fun hold i=>
 chk ts (decide ((nx ts i).kind=0)) 12 i<|.ok ⟨k.1,period,grace,wait,last,order,k.2,backs,voices,jury,fund,lets,due,fine,pay,cover,hold⟩ i
def parseT(s:By):Bl×Int×Int:=if 2000<s.length then({},0,6)else match lexA s 0 with
 | .err i e=>({},i,e)
 | .ok ts=>match bylawsT ts with
   | .ok b _=>(b,0,0)
   | .no p e=>({},p,e)
theorem C1{l:By}:∀{p:Nat} {ts:List Tk},lexA l p=.ok ts→ts.length≤l.length+1:=by
 induction l using lL with
 |h0=>intro p ts h;rw[fC]at h;cases h;simp
 |h1 c l hb ih=>intro p ts h;rw[dN hb]at h;have:=ih h;simp only[List.length_cons];omega
 |h2 c l e hb ht=>intro p ts h;rw[fD hb ht]at h;cases h
 |h3 c l k t n hb ht ih=>
  intro p ts h;rw[gW hb ht]at h
  cases hx:lexA ((c::l).drop t.length) (p+t.length)with
  |err i e=>rw[hx]at h;cases h
  |ok us=>
   rw[hx]at h;cases h
   have h1:=ih hx
   have h2:=dE ht
   simp only[List.length_drop,List.length_cons]at h1 h2⊢
   omega
theorem C2{l:By}:∀{p:Nat} {ts:List Tk},lexA l p=.ok ts→∀x∈ts,x.text.length≤l.length:=by
 induction l using lL with
 |h0=>intro p ts h x hx;rw[fC]at h;cases h;simp at hx;subst hx;simp
 |h1 c l hb ih=>intro p ts h x hx;rw[dN hb]at h;have:=ih h x hx;simp only[List.length_cons];omega
 |h2 c l e hb ht=>intro p ts h;rw[fD hb ht]at h;cases h
 |h3 c l k t n hb ht ih=>
  intro p ts h x hx;rw[gW hb ht]at h
  have h2:=dE ht
  cases hu:lexA ((c::l).drop t.length) (p+t.length)with
  |err i e=>rw[hu]at h;cases h
  |ok us=>
   rw[hu]at h;cases h
   rcases List.mem_cons.1 hx with rfl|hx
   ·exact h2.2.1
   ·have:=ih hu x hx
    simp only[List.length_drop]at this
    omega
theorem wO{s:By}{ts:List Tk}(hl:s.length≤2000)(h:lexA s 0=.ok ts):OkT ts∧0<ts.length:=by
 obtain⟨us,q,rfl,hv⟩:=F4 s h
 have h1:=C1 h
 refine⟨⟨by omega,fun i hi hk=>?_,fun x hx=>Nat.le_trans (C2 h x hx) hl,fun x hx=>?_⟩,by simp⟩
 simp only[List.length_append,List.length_cons,List.length_nil]at hi⊢
 by_cases he:i=us.length
 ·subst he
  exfalso
  apply hk
  simp[nx]
 ·omega
 ·rcases List.mem_append.1 hx with hx|hx
  ·have hv:=hv x hx
   obtain⟨_,_,h3,_⟩:=F6 hv
   by_cases hk:x.kind=2
   ·have ht:=hv.1
    rw[hk]at ht
    obtain⟨h5,h6⟩:=F7 ht
    simp only[isNum,Bool.and_eq_true,decide_eq_true_eq]at h5
    omega
   ·rw[h3 hk];decide
  ·simp only[List.mem_singleton]at hx
   subst hx;exact⟨Int.le_refl _,by simp⟩
end Go.Proofs.YtllgjognpobnpaaGreatDoor

namespace Go.Proofs.YtllgjognpobnpaaGreatDoor
open Go.Ab
@[go_sem] theorem tk3:tyk Tryz.prog 3=some ⟨.int .i64,1,8,.v (.int .i64 0)⟩:=by kernel_rfl
@[go_sem] theorem tk4:tyk Tryz.prog 4=some ⟨.bool,1,1,.v (.bool false)⟩:=by kernel_rfl
@[go_sem] theorem tk5:tyk Tryz.prog 5=some ⟨.int .u8,1,1,.v (.int .u8 0)⟩:=by kernel_rfl
@[go_sem] theorem tk9:tyk Tryz.prog 9=some ⟨.str,1,16,.v (.string ⟨#[]⟩)⟩:=by kernel_rfl
@[go_sem] theorem tk22:tyk Tryz.prog 22=some ⟨.slice 3,1,24,.nil⟩:=by kernel_rfl
@[go_sem] theorem tk25:tyk Tryz.prog 25=some ⟨.int .i64,1,8,.v (.int .i64 0)⟩:=by kernel_rfl
@[go_sem] theorem tk27:tyk Tryz.prog 27=some ⟨.slice 119,1,24,.nil⟩:=by kernel_rfl
@[go_sem] theorem tk28:tyk Tryz.prog 28=some ⟨.slice 30,1,24,.nil⟩:=by kernel_rfl
@[go_sem] theorem E2:tyk Tryz.prog 30=some ⟨.struct [(0,3),(1,3),(2,3),(3,9),(4,28)],5,64,.agg [.v (.int .i64 0),.v (.int .i64 0),.v (.int .i64 0),.v (.string ⟨#[]⟩),.nil]⟩:=by kernel_rfl
@[go_sem] theorem bk30:bldOK Tryz.prog 30=true:=by kernel_rfl
@[go_sem] theorem tk32:tyk Tryz.prog 32=some ⟨.struct [(0,3),(1,3),(2,3),(3,3),(4,3),(5,3),(6,4),(7,3),(8,3),(9,3),(10,3),(11,27),(12,30),(17,30),(22,30),(27,30),(32,30)],37,432,.agg [.v (.int .i64 0),.v (.int .i64 0),.v (.int .i64 0),.v (.int .i64 0),.v (.int .i64 0),.v (.int .i64 0),.v (.bool false),.v (.int .i64 0),.v (.int .i64 0),.v (.int .i64 0),.v (.int .i64 0),.nil,.v (.int .i64 0),.v (.int .i64 0),.v (.int .i64 0),.v (.string ⟨#[]⟩),.nil,.v (.int .i64 0),.v (.int .i64 0),.v (.int .i64 0),.v (.string ⟨#[]⟩),.nil,.v (.int .i64 0),.v (.int .i64 0),.v (.int .i64 0),.v (.string ⟨#[]⟩),.nil,.v (.int .i64 0),.v (.int .i64 0),.v (.int .i64 0),.v (.string ⟨#[]⟩),.nil,.v (.int .i64 0),.v (.int .i64 0),.v (.int .i64 0),.v (.string ⟨#[]⟩),.nil]⟩:=by kernel_rfl
@[go_sem] theorem bk32:bldOK Tryz.prog 32=true:=by kernel_rfl
@[go_sem] theorem tk37:tyk Tryz.prog 37=some ⟨.struct [(0,22),(1,22)],2,48,.agg [.nil,.nil]⟩:=by kernel_rfl
@[go_sem] theorem bk37:bldOK Tryz.prog 37=true:=by kernel_rfl
@[go_sem] theorem tk40:tyk Tryz.prog 40=some ⟨.slice 96,1,24,.nil⟩:=by kernel_rfl
@[go_sem] theorem tk50:tyk Tryz.prog 50=some ⟨.slice 68,1,24,.nil⟩:=by kernel_rfl
@[go_sem] theorem tk54:tyk Tryz.prog 54=some ⟨.struct [(0,3),(1,3),(2,22),(3,3),(4,3)],5,56,.agg [.v (.int .i64 0),.v (.int .i64 0),.nil,.v (.int .i64 0),.v (.int .i64 0)]⟩:=by kernel_rfl
@[go_sem] theorem bk54:bldOK Tryz.prog 54=true:=by kernel_rfl
@[go_sem] theorem tk56:tyk Tryz.prog 56=some ⟨.struct [(0,3),(1,3),(2,3),(3,3),(4,3),(5,3),(6,3),(7,22),(8,22),(9,3),(10,3),(11,3)],12,128,.agg [.v (.int .i64 0),.v (.int .i64 0),.v (.int .i64 0),.v (.int .i64 0),.v (.int .i64 0),.v (.int .i64 0),.v (.int .i64 0),.nil,.nil,.v (.int .i64 0),.v (.int .i64 0),.v (.int .i64 0)]⟩:=by kernel_rfl
@[go_sem] theorem bk56:bldOK Tryz.prog 56=true:=by kernel_rfl
@[go_sem] theorem tk59:tyk Tryz.prog 59=some ⟨.slice 213,1,24,.nil⟩:=by kernel_rfl
@[go_sem] theorem tk61:tyk Tryz.prog 61=some ⟨.struct [(0,3),(1,3),(2,3),(3,22),(4,3),(5,3),(6,3),(7,3),(8,3),(9,3),(10,22),(11,59),(12,9)],13,160,.agg [.v (.int .i64 0),.v (.int .i64 0),.v (.int .i64 0),.nil,.v (.int .i64 0),.v (.int .i64 0),.v (.int .i64 0),.v (.int .i64 0),.v (.int .i64 0),.v (.int .i64 0),.nil,.nil,.v (.string ⟨#[]⟩)]⟩:=by kernel_rfl
@[go_sem] theorem bk61:bldOK Tryz.prog 61=true:=by kernel_rfl
@[go_sem] theorem tk65:tyk Tryz.prog 65=some ⟨.struct [(0,3),(1,3),(2,4),(3,3)],4,32,.agg [.v (.int .i64 0),.v (.int .i64 0),.v (.bool false),.v (.int .i64 0)]⟩:=by kernel_rfl
@[go_sem] theorem bk65:bldOK Tryz.prog 65=true:=by kernel_rfl
@[go_sem] theorem tk66:tyk Tryz.prog 66=some ⟨.slice 65,1,24,.nil⟩:=by kernel_rfl
@[go_sem] theorem tk68:tyk Tryz.prog 68=some ⟨.struct [(0,3),(1,3),(2,3),(3,3),(4,3),(5,3)],6,48,.agg [.v (.int .i64 0),.v (.int .i64 0),.v (.int .i64 0),.v (.int .i64 0),.v (.int .i64 0),.v (.int .i64 0)]⟩:=by kernel_rfl
@[go_sem] theorem bk68:bldOK Tryz.prog 68=true:=by kernel_rfl
@[go_sem] theorem tk72:tyk Tryz.prog 72=some ⟨.slice 75,1,24,.nil⟩:=by kernel_rfl
@[go_sem] theorem tk75:tyk Tryz.prog 75=some ⟨.struct [(0,3),(1,3),(2,3)],3,24,.agg [.v (.int .i64 0),.v (.int .i64 0),.v (.int .i64 0)]⟩:=by kernel_rfl
@[go_sem] theorem bk75:bldOK Tryz.prog 75=true:=by kernel_rfl
@[go_sem] theorem tk78:tyk Tryz.prog 78=some ⟨.ptr,1,8,.v (.pointer none)⟩:=by kernel_rfl
@[go_sem] theorem tk90:tyk Tryz.prog 90=some ⟨.struct [(0,32),(37,3),(38,3)],39,448,.agg [.v (.int .i64 0),.v (.int .i64 0),.v (.int .i64 0),.v (.int .i64 0),.v (.int .i64 0),.v (.int .i64 0),.v (.bool false),.v (.int .i64 0),.v (.int .i64 0),.v (.int .i64 0),.v (.int .i64 0),.nil,.v (.int .i64 0),.v (.int .i64 0),.v (.int .i64 0),.v (.string ⟨#[]⟩),.nil,.v (.int .i64 0),.v (.int .i64 0),.v (.int .i64 0),.v (.string ⟨#[]⟩),.nil,.v (.int .i64 0),.v (.int .i64 0),.v (.int .i64 0),.v (.string ⟨#[]⟩),.nil,.v (.int .i64 0),.v (.int .i64 0),.v (.int .i64 0),.v (.string ⟨#[]⟩),.nil,.v (.int .i64 0),.v (.int .i64 0),.v (.int .i64 0),.v (.string ⟨#[]⟩),.nil,.v (.int .i64 0),.v (.int .i64 0)]⟩:=by kernel_rfl
@[go_sem] theorem bk90:bldOK Tryz.prog 90=true:=by kernel_rfl
@[go_sem] theorem tk94:tyk Tryz.prog 94=some ⟨.slice 99,1,24,.nil⟩:=by kernel_rfl
@[go_sem] theorem tk96:tyk Tryz.prog 96=some ⟨.struct [(0,4),(1,94)],2,32,.agg [.v (.bool false),.nil]⟩:=by kernel_rfl
@[go_sem] theorem bk96:bldOK Tryz.prog 96=true:=by kernel_rfl
@[go_sem] theorem tk99:tyk Tryz.prog 99=some ⟨.struct [(0,3),(1,3)],2,16,.agg [.v (.int .i64 0),.v (.int .i64 0)]⟩:=by kernel_rfl
@[go_sem] theorem bk99:bldOK Tryz.prog 99=true:=by kernel_rfl
@[go_sem] theorem tk103:tyk Tryz.prog 103=some ⟨.struct [(0,9),(1,3),(2,3)],3,32,.agg [.v (.string ⟨#[]⟩),.v (.int .i64 0),.v (.int .i64 0)]⟩:=by kernel_rfl
@[go_sem] theorem bk103:bldOK Tryz.prog 103=true:=by kernel_rfl
@[go_sem] theorem tk105:tyk Tryz.prog 105=some ⟨.slice 205,1,24,.nil⟩:=by kernel_rfl
@[go_sem] theorem tk109:tyk Tryz.prog 109=some ⟨.struct [(0,32),(37,3),(38,3),(39,54),(44,105),(45,3)],46,536,.agg [.v (.int .i64 0),.v (.int .i64 0),.v (.int .i64 0),.v (.int .i64 0),.v (.int .i64 0),.v (.int .i64 0),.v (.bool false),.v (.int .i64 0),.v (.int .i64 0),.v (.int .i64 0),.v (.int .i64 0),.nil,.v (.int .i64 0),.v (.int .i64 0),.v (.int .i64 0),.v (.string ⟨#[]⟩),.nil,.v (.int .i64 0),.v (.int .i64 0),.v (.int .i64 0),.v (.string ⟨#[]⟩),.nil,.v (.int .i64 0),.v (.int .i64 0),.v (.int .i64 0),.v (.string ⟨#[]⟩),.nil,.v (.int .i64 0),.v (.int .i64 0),.v (.int .i64 0),.v (.string ⟨#[]⟩),.nil,.v (.int .i64 0),.v (.int .i64 0),.v (.int .i64 0),.v (.string ⟨#[]⟩),.nil,.v (.int .i64 0),.v (.int .i64 0),.v (.int .i64 0),.v (.int .i64 0),.nil,.v (.int .i64 0),.v (.int .i64 0),.nil,.v (.int .i64 0)]⟩:=by kernel_rfl
@[go_sem] theorem bk109:bldOK Tryz.prog 109=true:=by kernel_rfl
@[go_sem] theorem tk119:tyk Tryz.prog 119=some ⟨.struct [(0,9),(1,30)],6,80,.agg [.v (.string ⟨#[]⟩),.v (.int .i64 0),.v (.int .i64 0),.v (.int .i64 0),.v (.string ⟨#[]⟩),.nil]⟩:=by kernel_rfl
@[go_sem] theorem bk119:bldOK Tryz.prog 119=true:=by kernel_rfl
@[go_sem] theorem tk121:tyk Tryz.prog 121=some ⟨.slice 9,1,24,.nil⟩:=by kernel_rfl
@[go_sem] theorem tk122:tyk Tryz.prog 122=some ⟨.map 9 125,1,8,.v (.map none)⟩:=by kernel_rfl
@[go_sem] theorem IU:tyk Tryz.prog 125=some ⟨.slice 103,1,24,.nil⟩:=by kernel_rfl
@[go_sem] theorem tk134:tyk Tryz.prog 134=some ⟨.slice 22,1,24,.nil⟩:=by kernel_rfl
@[go_sem] theorem tk135:tyk Tryz.prog 135=some ⟨.slice 4,1,24,.nil⟩:=by kernel_rfl
@[go_sem] theorem tk137:tyk Tryz.prog 137=some ⟨.struct [(0,72),(1,134),(2,22),(3,22),(4,135)],5,120,.agg [.nil,.nil,.nil,.nil,.nil]⟩:=by kernel_rfl
@[go_sem] theorem bk137:bldOK Tryz.prog 137=true:=by kernel_rfl
@[go_sem] theorem tk139:tyk Tryz.prog 139=some ⟨.slice 153,1,24,.nil⟩:=by kernel_rfl
@[go_sem] theorem tk143:tyk Tryz.prog 143=some ⟨.struct [(0,139),(1,3)],2,32,.agg [.nil,.v (.int .i64 0)]⟩:=by kernel_rfl
@[go_sem] theorem bk143:bldOK Tryz.prog 143=true:=by kernel_rfl
@[go_sem] theorem tk145:tyk Tryz.prog 145=some ⟨.struct [(0,3),(1,25)],2,16,.agg [.v (.int .i64 0),.v (.int .i64 0)]⟩:=by kernel_rfl
@[go_sem] theorem bk145:bldOK Tryz.prog 145=true:=by kernel_rfl
@[go_sem] theorem tk153:tyk Tryz.prog 153=some ⟨.struct [(0,3),(1,9),(2,3),(3,3)],4,40,.agg [.v (.int .i64 0),.v (.string ⟨#[]⟩),.v (.int .i64 0),.v (.int .i64 0)]⟩:=by kernel_rfl
@[go_sem] theorem bk153:bldOK Tryz.prog 153=true:=by kernel_rfl
@[go_sem] theorem tk200:tyk Tryz.prog 200=some ⟨.map 9 30,1,8,.v (.map none)⟩:=by kernel_rfl
@[go_sem] theorem tk208:tyk Tryz.prog 208=some ⟨.arr 21 9,21,336,.agg [.v (.string ⟨#[]⟩),.v (.string ⟨#[]⟩),.v (.string ⟨#[]⟩),.v (.string ⟨#[]⟩),.v (.string ⟨#[]⟩),.v (.string ⟨#[]⟩),.v (.string ⟨#[]⟩),.v (.string ⟨#[]⟩),.v (.string ⟨#[]⟩),.v (.string ⟨#[]⟩),.v (.string ⟨#[]⟩),.v (.string ⟨#[]⟩),.v (.string ⟨#[]⟩),.v (.string ⟨#[]⟩),.v (.string ⟨#[]⟩),.v (.string ⟨#[]⟩),.v (.string ⟨#[]⟩),.v (.string ⟨#[]⟩),.v (.string ⟨#[]⟩),.v (.string ⟨#[]⟩),.v (.string ⟨#[]⟩)]⟩:=by kernel_rfl
@[go_sem] theorem tk209:tyk Tryz.prog 209=some ⟨.arr 8 4,8,8,.agg [.v (.bool false),.v (.bool false),.v (.bool false),.v (.bool false),.v (.bool false),.v (.bool false),.v (.bool false),.v (.bool false)]⟩:=by kernel_rfl
@[go_sem] theorem tk216:tyk Tryz.prog 216=some ⟨.map 9 3,1,8,.v (.map none)⟩:=by kernel_rfl
@[go_sem] theorem tk217:tyk Tryz.prog 217=some ⟨.map 9 221,1,8,.v (.map none)⟩:=by kernel_rfl
@[go_sem] theorem tk219:tyk Tryz.prog 219=some ⟨.struct [(0,216),(1,217)],2,16,.agg [.v (.map none),.v (.map none)]⟩:=by kernel_rfl
@[go_sem] theorem bk219:bldOK Tryz.prog 219=true:=by kernel_rfl
@[go_sem] theorem GI:tyk Tryz.prog 221=some ⟨.struct [(0,3),(1,25),(2,4)],3,24,.agg [.v (.int .i64 0),.v (.int .i64 0),.v (.bool false)]⟩:=by kernel_rfl
@[go_sem] theorem bk221:bldOK Tryz.prog 221=true:=by kernel_rfl
@[go_sem] theorem tk225:tyk Tryz.prog 225=some ⟨.int .u64,1,8,.v (.int .u64 0)⟩:=by kernel_rfl
@[go_sem] theorem tk231:tyk Tryz.prog 231=some ⟨.arr 11 9,11,176,.agg [.v (.string ⟨#[]⟩),.v (.string ⟨#[]⟩),.v (.string ⟨#[]⟩),.v (.string ⟨#[]⟩),.v (.string ⟨#[]⟩),.v (.string ⟨#[]⟩),.v (.string ⟨#[]⟩),.v (.string ⟨#[]⟩),.v (.string ⟨#[]⟩),.v (.string ⟨#[]⟩),.v (.string ⟨#[]⟩)]⟩:=by kernel_rfl
@[go_sem] theorem tk237:tyk Tryz.prog 237=some ⟨.slice 239,1,24,.nil⟩:=by kernel_rfl
@[go_sem] theorem tk239:tyk Tryz.prog 239=some ⟨.struct [(0,9),(1,3),(2,3)],3,32,.agg [.v (.string ⟨#[]⟩),.v (.int .i64 0),.v (.int .i64 0)]⟩:=by kernel_rfl
@[go_sem] theorem bk239:bldOK Tryz.prog 239=true:=by kernel_rfl
@[go_sem] theorem tk242:tyk Tryz.prog 242=some ⟨.ptr,1,8,.v (.pointer none)⟩:=by kernel_rfl
@[go_sem] theorem tk243:tyk Tryz.prog 243=some ⟨.slice 291,1,24,.nil⟩:=by kernel_rfl
@[go_sem] theorem tk245:tyk Tryz.prog 245=some ⟨.struct [(0,27),(1,243),(2,216)],3,56,.agg [.nil,.nil,.v (.map none)]⟩:=by kernel_rfl
@[go_sem] theorem bk245:bldOK Tryz.prog 245=true:=by kernel_rfl
@[go_sem] theorem tk251:tyk Tryz.prog 251=some ⟨.map 3 4,1,8,.v (.map none)⟩:=by kernel_rfl
@[go_sem] theorem tk256:tyk Tryz.prog 256=some ⟨.int .u64,1,8,.v (.int .u64 0)⟩:=by kernel_rfl
@[go_sem] theorem tk270:tyk Tryz.prog 270=some ⟨.struct [(0,25)],1,8,.agg [.v (.int .i64 0)]⟩:=by kernel_rfl
@[go_sem] theorem bk270:bldOK Tryz.prog 270=true:=by kernel_rfl
@[go_sem] theorem tk291:tyk Tryz.prog 291=some ⟨.struct [(0,3),(1,25),(2,4)],3,24,.agg [.v (.int .i64 0),.v (.int .i64 0),.v (.bool false)]⟩:=by kernel_rfl
@[go_sem] theorem if20:ifcE Tryz.prog 20=true:=by kernel_rfl
@[go_sem] theorem cl4:callable Tryz.prog 4=true:=by kernel_rfl
@[go_sem] theorem cl5:callable Tryz.prog 5=true:=by kernel_rfl
@[go_sem] theorem cl6:callable Tryz.prog 6=true:=by kernel_rfl
@[go_sem] theorem cl7:callable Tryz.prog 7=true:=by kernel_rfl
@[go_sem] theorem cl8:callable Tryz.prog 8=true:=by kernel_rfl
@[go_sem] theorem cl9:callable Tryz.prog 9=true:=by kernel_rfl
@[go_sem] theorem cl10:callable Tryz.prog 10=true:=by kernel_rfl
@[go_sem] theorem cl11:callable Tryz.prog 11=true:=by kernel_rfl
@[go_sem] theorem cl12:callable Tryz.prog 12=true:=by kernel_rfl
@[go_sem] theorem cl13:callable Tryz.prog 13=true:=by kernel_rfl
@[go_sem] theorem cl14:callable Tryz.prog 14=true:=by kernel_rfl
@[go_sem] theorem cl15:callable Tryz.prog 15=true:=by kernel_rfl
@[go_sem] theorem cl16:callable Tryz.prog 16=true:=by kernel_rfl
@[go_sem] theorem cl17:callable Tryz.prog 17=true:=by kernel_rfl
@[go_sem] theorem cl18:callable Tryz.prog 18=true:=by kernel_rfl
@[go_sem] theorem cl19:callable Tryz.prog 19=true:=by kernel_rfl
@[go_sem] theorem cl20:callable Tryz.prog 20=true:=by kernel_rfl
@[go_sem] theorem cl21:callable Tryz.prog 21=true:=by kernel_rfl
@[go_sem] theorem cl22:callable Tryz.prog 22=true:=by kernel_rfl
@[go_sem] theorem cl23:callable Tryz.prog 23=true:=by kernel_rfl
@[go_sem] theorem cl24:callable Tryz.prog 24=true:=by kernel_rfl
@[go_sem] theorem cl25:callable Tryz.prog 25=true:=by kernel_rfl
@[go_sem] theorem cl26:callable Tryz.prog 26=true:=by kernel_rfl
@[go_sem] theorem cl27:callable Tryz.prog 27=true:=by kernel_rfl
@[go_sem] theorem cl28:callable Tryz.prog 28=true:=by kernel_rfl
@[go_sem] theorem cl29:callable Tryz.prog 29=true:=by kernel_rfl
@[go_sem] theorem cl30:callable Tryz.prog 30=true:=by kernel_rfl
@[go_sem] theorem cl31:callable Tryz.prog 31=true:=by kernel_rfl
@[go_sem] theorem cl32:callable Tryz.prog 32=true:=by kernel_rfl
@[go_sem] theorem cl33:callable Tryz.prog 33=true:=by kernel_rfl
@[go_sem] theorem cl34:callable Tryz.prog 34=true:=by kernel_rfl
@[go_sem] theorem cl35:callable Tryz.prog 35=true:=by kernel_rfl
@[go_sem] theorem cl36:callable Tryz.prog 36=true:=by kernel_rfl
@[go_sem] theorem cl37:callable Tryz.prog 37=true:=by kernel_rfl
@[go_sem] theorem cl38:callable Tryz.prog 38=true:=by kernel_rfl
@[go_sem] theorem cl39:callable Tryz.prog 39=true:=by kernel_rfl
@[go_sem] theorem cl40:callable Tryz.prog 40=true:=by kernel_rfl
@[go_sem] theorem cl41:callable Tryz.prog 41=true:=by kernel_rfl
@[go_sem] theorem cl42:callable Tryz.prog 42=true:=by kernel_rfl
@[go_sem] theorem cl43:callable Tryz.prog 43=true:=by kernel_rfl
@[go_sem] theorem cl44:callable Tryz.prog 44=true:=by kernel_rfl
@[go_sem] theorem cl45:callable Tryz.prog 45=true:=by kernel_rfl
@[go_sem] theorem cl46:callable Tryz.prog 46=true:=by kernel_rfl
@[go_sem] theorem cl47:callable Tryz.prog 47=true:=by kernel_rfl
@[go_sem] theorem cl49:callable Tryz.prog 49=true:=by kernel_rfl
@[go_sem] theorem cl50:callable Tryz.prog 50=true:=by kernel_rfl
@[go_sem] theorem cl51:callable Tryz.prog 51=true:=by kernel_rfl
@[go_sem] theorem cl52:callable Tryz.prog 52=true:=by kernel_rfl
@[go_sem] theorem cl53:callable Tryz.prog 53=true:=by kernel_rfl
@[go_sem] theorem cl54:callable Tryz.prog 54=true:=by kernel_rfl
@[go_sem] theorem cl55:callable Tryz.prog 55=true:=by kernel_rfl
@[go_sem] theorem cl56:callable Tryz.prog 56=true:=by kernel_rfl
@[go_sem] theorem cl57:callable Tryz.prog 57=true:=by kernel_rfl
@[go_sem] theorem cl58:callable Tryz.prog 58=true:=by kernel_rfl
@[go_sem] theorem cl59:callable Tryz.prog 59=true:=by kernel_rfl
@[go_sem] theorem cl60:callable Tryz.prog 60=true:=by kernel_rfl
@[go_sem] theorem cl61:callable Tryz.prog 61=true:=by kernel_rfl
@[go_sem] theorem cl62:callable Tryz.prog 62=true:=by kernel_rfl
@[go_sem] theorem cl63:callable Tryz.prog 63=true:=by kernel_rfl
@[go_sem] theorem cl64:callable Tryz.prog 64=true:=by kernel_rfl
@[go_sem] theorem cl65:callable Tryz.prog 65=true:=by kernel_rfl
@[go_sem] theorem cl66:callable Tryz.prog 66=true:=by kernel_rfl
@[go_sem] theorem cl67:callable Tryz.prog 67=true:=by kernel_rfl
@[go_sem] theorem cl68:callable Tryz.prog 68=true:=by kernel_rfl
@[go_sem] theorem cl69:callable Tryz.prog 69=true:=by kernel_rfl
@[go_sem] theorem cl70:callable Tryz.prog 70=true:=by kernel_rfl
@[go_sem] theorem cl71:callable Tryz.prog 71=true:=by kernel_rfl
@[go_sem] theorem cl72:callable Tryz.prog 72=true:=by kernel_rfl
@[go_sem] theorem cl73:callable Tryz.prog 73=true:=by kernel_rfl
@[go_sem] theorem cl74:callable Tryz.prog 74=true:=by kernel_rfl
@[go_sem] theorem cl75:callable Tryz.prog 75=true:=by kernel_rfl
@[go_sem] theorem cl76:callable Tryz.prog 76=true:=by kernel_rfl
@[go_sem] theorem cl77:callable Tryz.prog 77=true:=by kernel_rfl
@[go_sem] theorem cl78:callable Tryz.prog 78=true:=by kernel_rfl
@[go_sem] theorem cl79:callable Tryz.prog 79=true:=by kernel_rfl
@[go_sem] theorem cl80:callable Tryz.prog 80=true:=by kernel_rfl
@[go_sem] theorem cl81:callable Tryz.prog 81=true:=by kernel_rfl
@[go_sem] theorem cl82:callable Tryz.prog 82=true:=by kernel_rfl
@[go_sem] theorem cl83:callable Tryz.prog 83=true:=by kernel_rfl
@[go_sem] theorem cl84:callable Tryz.prog 84=true:=by kernel_rfl
@[go_sem] theorem cl85:callable Tryz.prog 85=true:=by kernel_rfl
@[go_sem] theorem cl86:callable Tryz.prog 86=true:=by kernel_rfl
@[go_sem] theorem cl87:callable Tryz.prog 87=true:=by kernel_rfl
@[go_sem] theorem cl88:callable Tryz.prog 88=true:=by kernel_rfl
@[go_sem] theorem cl89:callable Tryz.prog 89=true:=by kernel_rfl
@[go_sem] theorem cl90:callable Tryz.prog 90=true:=by kernel_rfl
@[go_sem] theorem cl91:callable Tryz.prog 91=true:=by kernel_rfl
@[go_sem] theorem cl92:callable Tryz.prog 92=true:=by kernel_rfl
@[go_sem] theorem cl93:callable Tryz.prog 93=true:=by kernel_rfl
@[go_sem] theorem cl94:callable Tryz.prog 94=true:=by kernel_rfl
@[go_sem] theorem cl95:callable Tryz.prog 95=true:=by kernel_rfl
@[go_sem] theorem cl96:callable Tryz.prog 96=true:=by kernel_rfl
@[go_sem] theorem cl97:callable Tryz.prog 97=true:=by kernel_rfl
@[go_sem] theorem cl98:callable Tryz.prog 98=true:=by kernel_rfl
@[go_sem] theorem cl99:callable Tryz.prog 99=true:=by kernel_rfl
@[go_sem] theorem cl100:callable Tryz.prog 100=true:=by kernel_rfl
@[go_sem] theorem cl101:callable Tryz.prog 101=true:=by kernel_rfl
@[go_sem] theorem cl102:callable Tryz.prog 102=true:=by kernel_rfl
@[go_sem] theorem cl103:callable Tryz.prog 103=true:=by kernel_rfl
@[go_sem] theorem cl104:callable Tryz.prog 104=true:=by kernel_rfl
@[go_sem] theorem cl105:callable Tryz.prog 105=true:=by kernel_rfl
@[go_sem] theorem cl106:callable Tryz.prog 106=true:=by kernel_rfl
@[go_sem] theorem cl107:callable Tryz.prog 107=true:=by kernel_rfl
@[go_sem] theorem cl108:callable Tryz.prog 108=true:=by kernel_rfl
@[go_sem] theorem cl109:callable Tryz.prog 109=true:=by kernel_rfl
@[go_sem] theorem cl110:callable Tryz.prog 110=true:=by kernel_rfl
@[go_sem] theorem cl111:callable Tryz.prog 111=true:=by kernel_rfl
@[go_sem] theorem cl112:callable Tryz.prog 112=true:=by kernel_rfl
@[go_sem] theorem cl113:callable Tryz.prog 113=true:=by kernel_rfl
@[go_sem] theorem cl114:callable Tryz.prog 114=true:=by kernel_rfl
@[go_sem] theorem cl115:callable Tryz.prog 115=true:=by kernel_rfl
@[go_sem] theorem cl116:callable Tryz.prog 116=true:=by kernel_rfl
@[go_sem] theorem cl117:callable Tryz.prog 117=true:=by kernel_rfl
@[go_sem] theorem cl118:callable Tryz.prog 118=true:=by kernel_rfl
@[go_sem] theorem cl119:callable Tryz.prog 119=true:=by kernel_rfl
@[go_sem] theorem cl120:callable Tryz.prog 120=true:=by kernel_rfl
@[go_sem] theorem cl121:callable Tryz.prog 121=true:=by kernel_rfl
@[go_sem] theorem cl122:callable Tryz.prog 122=true:=by kernel_rfl
@[go_sem] theorem cl123:callable Tryz.prog 123=true:=by kernel_rfl
@[go_sem] theorem cl124:callable Tryz.prog 124=true:=by kernel_rfl
@[go_sem] theorem cl125:callable Tryz.prog 125=true:=by kernel_rfl
@[go_sem] theorem cl126:callable Tryz.prog 126=true:=by kernel_rfl
@[go_sem] theorem cl127:callable Tryz.prog 127=true:=by kernel_rfl
@[go_sem] theorem cl128:callable Tryz.prog 128=true:=by kernel_rfl
@[go_sem] theorem cl129:callable Tryz.prog 129=true:=by kernel_rfl
@[go_sem] theorem cl130:callable Tryz.prog 130=true:=by kernel_rfl
@[go_sem] theorem cl132:callable Tryz.prog 132=true:=by kernel_rfl
@[go_sem] theorem cl133:callable Tryz.prog 133=true:=by kernel_rfl
@[go_sem] theorem cl135:callable Tryz.prog 135=true:=by kernel_rfl
@[go_sem] theorem cl136:callable Tryz.prog 136=true:=by kernel_rfl
@[go_sem] theorem cl137:callable Tryz.prog 137=true:=by kernel_rfl
@[go_sem] theorem cl138:callable Tryz.prog 138=true:=by kernel_rfl
@[go_sem] theorem cl139:callable Tryz.prog 139=true:=by kernel_rfl
@[go_sem] theorem cl140:callable Tryz.prog 140=true:=by kernel_rfl
@[go_sem] theorem cl141:callable Tryz.prog 141=true:=by kernel_rfl
@[go_sem] theorem cl142:callable Tryz.prog 142=true:=by kernel_rfl
@[go_sem] theorem cl143:callable Tryz.prog 143=true:=by kernel_rfl
@[go_sem] theorem cl144:callable Tryz.prog 144=true:=by kernel_rfl
@[go_sem] theorem cl145:callable Tryz.prog 145=true:=by kernel_rfl
@[go_sem] theorem cl146:callable Tryz.prog 146=true:=by kernel_rfl
@[go_sem] theorem cl147:callable Tryz.prog 147=true:=by kernel_rfl
@[go_sem] theorem cl148:callable Tryz.prog 148=true:=by kernel_rfl
@[go_sem] theorem cl149:callable Tryz.prog 149=true:=by kernel_rfl
@[go_sem] theorem cl150:callable Tryz.prog 150=true:=by kernel_rfl
@[go_sem] theorem cl151:callable Tryz.prog 151=true:=by kernel_rfl
@[go_sem] theorem cl152:callable Tryz.prog 152=true:=by kernel_rfl
@[go_sem] theorem cl153:callable Tryz.prog 153=true:=by kernel_rfl
@[go_sem] theorem cl154:callable Tryz.prog 154=true:=by kernel_rfl
@[go_sem] theorem cl155:callable Tryz.prog 155=true:=by kernel_rfl
@[go_sem] theorem cl156:callable Tryz.prog 156=true:=by kernel_rfl
@[go_sem] theorem cl157:callable Tryz.prog 157=true:=by kernel_rfl
@[go_sem] theorem cl158:callable Tryz.prog 158=true:=by kernel_rfl
@[go_sem] theorem cl159:callable Tryz.prog 159=true:=by kernel_rfl
@[go_sem] theorem cl161:callable Tryz.prog 161=true:=by kernel_rfl
@[go_sem] theorem cl162:callable Tryz.prog 162=true:=by kernel_rfl
@[go_sem] theorem cl163:callable Tryz.prog 163=true:=by kernel_rfl
@[go_sem] theorem cl164:callable Tryz.prog 164=true:=by kernel_rfl
@[go_sem] theorem cl166:callable Tryz.prog 166=true:=by kernel_rfl
@[go_sem] theorem cl167:callable Tryz.prog 167=true:=by kernel_rfl
@[go_sem] theorem cl173:callable Tryz.prog 173=true:=by kernel_rfl
@[go_sem] theorem cl177:callable Tryz.prog 177=true:=by kernel_rfl
@[go_sem] theorem cl178:callable Tryz.prog 178=true:=by kernel_rfl
@[go_sem] theorem cl179:callable Tryz.prog 179=true:=by kernel_rfl
@[go_sem] theorem cl180:callable Tryz.prog 180=true:=by kernel_rfl
@[go_sem] theorem cl181:callable Tryz.prog 181=true:=by kernel_rfl
@[go_sem] theorem cl182:callable Tryz.prog 182=true:=by kernel_rfl
@[go_sem] theorem cl183:callable Tryz.prog 183=true:=by kernel_rfl
@[go_sem] theorem cl194:callable Tryz.prog 194=true:=by kernel_rfl
@[go_sem] theorem cl195:callable Tryz.prog 195=true:=by kernel_rfl
@[go_sem] theorem cl196:callable Tryz.prog 196=true:=by kernel_rfl
@[go_sem] theorem cl197:callable Tryz.prog 197=true:=by kernel_rfl
@[go_sem] theorem cl198:callable Tryz.prog 198=true:=by kernel_rfl
@[go_sem] theorem cl199:callable Tryz.prog 199=true:=by kernel_rfl
@[go_sem] theorem cl200:callable Tryz.prog 200=true:=by kernel_rfl
@[go_sem] theorem cl204:callable Tryz.prog 204=true:=by kernel_rfl
@[go_sem] theorem cl205:callable Tryz.prog 205=true:=by kernel_rfl
@[go_sem] theorem cl206:callable Tryz.prog 206=true:=by kernel_rfl
end Go.Proofs.YtllgjognpobnpaaGreatDoor

namespace Go.Proofs.YtllgjognpobnpaaGreatDoor
open Go.RowKit Go.Ab
abbrev ii(n:Int):AV:=.v (.int .i64 n)
abbrev bb(b:Bool):AV:=.v (.bool b)
abbrev B(l:By):ByteArray:=⟨l.toArray⟩
abbrev ss(l:By):AV:=.v (.string (B l))
abbrev uu(c:UInt8):AV:=.v (.int .u8 c.toNat)
abbrev fv(f:Nat):AV:=.v (.func (.func f) #[] #[])
theorem mixed:Tryz.prog.follows .mixedOrders=true:=by kernel_rfl
abbrev tk(x:Tk):AV:=.agg [ii x.kind,ss x.text,ii x.n,ii x.pos]
@[go_sem] theorem nth_tk{L:List Tk}{k:Nat}(h:k<L.length):nth (L.map tk) k=tk L[k]:=cG tk h
@[go_sem] theorem u3{L:List By}{k:Nat}(h:k<L.length):nth (L.map ss) k=ss L[k]:=cG ss h
@[go_sem] theorem JD(a b:Int):(a==b)=decide (a=b):=by rw[Bool.eq_iff_iff];simp
theorem vW{a b:By}:B a=B b↔a=b:=by
 constructor
 ·intro h;have:=congrArg (fun s:ByteArray=>s.data.toList) h;simpa using this
 ·rintro rfl;rfl
@[go_sem] theorem IX(a b:By):(B a==B b)=decide (a=b):=by rw[Bool.eq_iff_iff,C3];simp[vW]
@[go_sem] theorem bneI(a b:Int):(a !=b)= !decide (a=b):=by rw[bne,JD]
@[go_sem] theorem bneS(a b:By):(B a !=B b)= !decide (a=b):=by rw[bne,IX]
theorem HZ(x y:ByteArray)(h:x.data=y.data):x=y:=by cases x;cases y;simp at h;rw[h]
@[go_sem] theorem extB(l:By)(a b:Nat):(B l).extract a b=B ((l.take b).drop a):=by
  apply HZ
  simp[List.drop_take]
theorem toB(s:ByteArray):∃l:By,s=B l:=⟨s.data.toList,by simp⟩
def signs:List By:=[[61,61],[59],[44],[61],[60],[43],[45],[42],[47],[40],[41]]
@[go_sem] theorem gl0:globV 1=.ro (signs.map ss):=by rfl
theorem J0(c d:UInt8):decide ((c.toNat:Int)=(d.toNat:Int))=(c==d):=by
 rw[Bool.eq_iff_iff];simp
 exact⟨fun h=>UInt8.toNat_inj.1 (by omega),fun h=>by rw[h]⟩
end Go.Proofs.YtllgjognpobnpaaGreatDoor

namespace Go.Proofs.YtllgjognpobnpaaGreatDoor
open Go.RowKit Go.Ab
attribute [local irreducible] AWP Go.Ab.Sub Means MeansH CallK CallG CallT CallGT
theorem zB(c:UInt8):isBlank c=(decide (c.toNat=32)||decide (c.toNat=9)||decide (c.toNat=10)):=by
 rw[Bool.eq_iff_iff];simp[isBlank,←UInt8.toNat_inj]
theorem F8(c:UInt8):Means true Tryz.prog 109 [uu c] (bb (isBlank c)):=by
 refine yM true 13 [.tmp 2] [0,2] Tryz.func109 fun X hX=>?_
 (repeat(refine yA ?_;(simp[go_sem])))
 rw[zB,Bool.eq_iff_iff];simp;omega
theorem jP(c:UInt8):Means true Tryz.prog 144 [uu c] (bb (isLetter c)):=by
 refine yM true 9 [.tmp 2] [0,2] Tryz.func144 fun X hX=>?_
 (repeat(refine yA ?_;(simp[go_sem])))
 rw[isLetter,Bool.eq_iff_iff];simp;try omega
theorem jQ(c:UInt8):Means true Tryz.prog 146 [uu c] (bb (isDigit c)):=by
 refine yM true 9 [.tmp 2] [0,2] Tryz.func146 fun X hX=>?_
 (repeat(refine yA ?_;(simp[go_sem])))
 rw[isDigit,Bool.eq_iff_iff];simp;try omega
theorem J1(c:UInt8):Means true Tryz.prog 149 [uu c] (bb (isAl c)):=by
 refine yM true 9 [.tmp 2] [0,2] Tryz.func149 fun X hX=>?_
 (repeat(refine yA ?_;(simp[go_sem])))
 refine aD (jP c) ?_
 simp[go_sem]
 refine aI (fun hg=>jQ c) ?_
 simp[go_sem]
 (repeat(refine yA ?_;(simp[go_sem])))
 cases h:isLetter c<;>simp[isAl,h]
theorem J2(c:UInt8):Means true Tryz.prog 145 [uu c] (bb (isAl c)):=by
 refine yM true 9 [.tmp 2] [0,2] Tryz.func145 fun X hX=>?_
 (repeat(refine yA ?_;(simp[go_sem])))
 refine aD (jP c) ?_
 simp[go_sem]
 refine aI (fun hg=>jQ c) ?_
 simp[go_sem]
 (repeat(refine yA ?_;(simp[go_sem])))
 cases h:isLetter c<;>simp[isAl,h]
theorem F9{f:UInt8→Bool}{l:By}{k:Nat}(hk:k<l.length)(h:(l.take k).all f=true):(f l[k]=true→(l.take (k+1)).all f=true)∧(f l[k]=false→l.takeWhile f=l.take k):=by
 refine⟨fun hf=>by rw[List.take_succ_eq_append_getElem hk,List.all_append,h];simp[hf],fun hf=>?_⟩
 induction l generalizing k with
 |nil=>simp at hk
 |cons c l ih=>
  cases k with
  |zero=>simp at hf;simp[hf]
  |succ k=>
   simp only[List.take_succ_cons,List.all_cons,Bool.and_eq_true]at h
   simp only[List.takeWhile_cons,h.1,if_true,List.take_succ_cons]
   rw[ih (by simpa using hk) h.2 (by simpa using hf)]
theorem I0{f:UInt8→Bool}{l:By}(h:(l.take l.length).all f=true):l.takeWhile f=l:=by rw[List.take_length]at h;exact C4 f l h
theorem mS(f:Nat)(p:UInt8→Bool)(hc:callable Tryz.prog f=true)(hf:∀c,Means true Tryz.prog f [uu c] (bb (p c)))(l:By)(hl:l.length≤100000):
  Means true Tryz.prog 108 [ss l,fv f] (ii (l.takeWhile p).length):=by
 refine yM true 20 [.tmp 4] [0,1,4,5,16] Tryz.func108 fun X hX=>?_
 (repeat(refine yA ?_;(simp[go_sem])))
 refine aG (fun k:Nat=>⟨mkE [(0,ss l),(1,fv f),(5,ii k)],[]⟩) (fun k=>k≤l.length∧(l.take k).all p=true) (fun k=>l.length-k) 0 ?_ ?_ ?_
 ·refine yS _ [] ?_
  simp[go_sem]
 ·simp
 ·rintro k ⟨hk,hn⟩
  by_cases hkl:k<l.length
  ·obtain⟨t1,t2⟩:=F9 hkl hn
   (repeat(refine yA ?_;(simp[go_sem,hc,hkl])))
   refine aI (fun hg=>hf l[k]) ?_
   simp[go_sem]
   refine yC (p l[k]) (fun hb=>?_) (fun hb=>?_) (by simp[go_sem,hkl])
   ·(repeat(refine yA ?_;(simp[go_sem,hc];(try simp(disch:=omega) only[w64,td,tm]))))
    refine⟨k+1,⟨by omega,by simpa using t1 hb⟩,by omega,?_⟩
    refine yS _ [] ?_
    simp[go_sem]
   ·(repeat(refine yA ?_;(simp[go_sem,hc])))
    rw[t2 hb];simp;omega
  ·have hkl:k=l.length:=by omega
   subst hkl
   (repeat(refine yA ?_;(simp[go_sem,hc])))
   refine aI (fun hg=>(show Means true Tryz.prog _ _ (bb false) by simp at hg)) ?_
   simp[go_sem]
   refine yF ?_
   (repeat(refine yA ?_;(simp[go_sem,hc])))
   rw[I0 hn]
end Go.Proofs.YtllgjognpobnpaaGreatDoor

namespace Go.Proofs.YtllgjognpobnpaaGreatDoor
open Go.RowKit Go.Ab
attribute [local irreducible] AWP Go.Ab.Sub Means MeansH CallK CallG CallT CallGT
theorem kG(f:UInt8→Bool)(l:By):(l.takeWhile f).length=l.length↔l.all f=true:=by
 constructor
 ·intro h
  have h1:=C5 f l
  have h2:=iL f l
  rw[h,List.take_length]at h2
  rwa [h2]at h1
 ·intro h;rw[C4 f l h]
theorem B6(l:By)(hl:l.length≤100000):Means true Tryz.prog 115 [ss l] (bb (isWord l)):=by
 refine yM true 21 [.tmp 2] [0,2,15] Tryz.func115 fun X hX=>?_
 cases l with
 |nil=>
  (repeat(refine yA ?_;(simp[go_sem])))
  refine aI (fun hg=>(show Means true Tryz.prog _ _ (bb false) by cases hg)) ?_
  simp[go_sem]
  refine yT ?_
  (repeat(refine yA ?_;(simp[go_sem])))
  simp[isWord]
 |cons c r=>
  (repeat(refine yA ?_;(simp[go_sem])))
  refine aI (fun hg=>jP c) ?_
  simp[go_sem]
  refine yC (!isLetter c||decide (20<(c::r).length)) (fun hb=>?_) (fun hb=>?_) (by simp[go_sem];cases isLetter c<;>simp;try omega)
  ·(repeat(refine yA ?_;(simp[go_sem])))
   have:isWord (c::r)=false:=by
    simp only[isWord]
    cases hc:isLetter c with
    |false=>rfl
    |true=>rw[hc]at hb;simp at hb;simp;intro h;omega
   rw[this]
  ·simp at hb
   (repeat(refine yA ?_;(simp[go_sem])))
   refine aD (mS 149 isAl (by simp[go_sem]) J1 (c::r) hl) ?_
   simp[go_sem]
   (repeat(refine yA ?_;(simp[go_sem])))
   rw[Bool.eq_iff_iff]
   simp only[isWord,Bool.and_eq_true,decide_eq_true_eq]
   have:=kG isAl (c::r)
   simp only[List.length_cons]at this⊢
   rw[←this]
   constructor
   ·intro h;exact⟨⟨hb.1,by omega⟩,by omega⟩
   ·intro h;omega
theorem kS{l:By}{k:Nat}(hk:k<l.length):numVal (l.take (k+1))=10*numVal (l.take k)+(l[k].toNat-48):=by
 rw[List.take_succ_eq_append_getElem hk,uJ]
theorem oV:∀{l:By},l.all isDigit=true→∀k,k≤l.length→numVal (l.take k)<10^k
 |l,h,0,_=>by simp[numVal]
 |l,h,k+1,hk=>by
  rw[kS (by omega)]
  have:=oV h k (by omega)
  have hd:isDigit l[k]=true:=List.all_eq_true.1 h _ (List.getElem_mem (by omega))
  simp only[isDigit,Bool.and_eq_true,decide_eq_true_eq]at hd
  rw[Nat.pow_succ];omega
theorem dig{c:UInt8}(h:isDigit c=true):48≤c.toNat∧c.toNat≤57:=by simpa[isDigit]using h
theorem J3{c:UInt8}(h:isDigit c=true):IntKind.u8.wrap ((c.toNat:Int)-48)=(c.toNat-48:Nat):=by
 obtain⟨h1,h2⟩:=dig h
 rw[show((c.toNat:Int)-48)=((c.toNat-48:Nat):Int) by omega]
 have hk:c.toNat-48<256:=by omega
 generalize c.toNat-48=k at hk
 revert k
 decide+kernel
theorem c48{c:UInt8}:(c.toNat:Int)=48↔c=48:=by
 have:=J0 c 48
 rw[Bool.eq_iff_iff]at this
 simpa using this
abbrev numAV(l:By):AV:=.tup [ii (if isNum l then(numVal l:Int)else 0),bb (isNum l)]
set_option maxHeartbeats 1000000 in
set_option maxRecDepth 20000 in
theorem C6(l:By)(hl:l.length≤100000):Means true Tryz.prog 147 [ss l] (numAV l):=by
 have hs:=mS 146 isDigit (by simp[go_sem]) jQ l hl
 refine yM true 46 [.tmp 2,.tmp 3] [0,2,3,4,5,28,30,31,32,44] Tryz.func147 fun X hX=>?_
 cases l with
 |nil=>
  (repeat(refine yA ?_;(simp[go_sem])))
  refine aI (fun hg=>(show Means true Tryz.prog _ _ (ii 0) by cases hg)) ?_
  simp[go_sem]
  refine yT ?_
  (repeat(refine yA ?_;(simp[go_sem])))
  simp[isNum]
 |cons c r=>
  by_cases hall:(c::r).all isDigit=true
  ·have hk:=(kG isDigit (c::r)).2 hall
   rw[hk]at hs
   (repeat(refine yA ?_;(simp[go_sem])))
   refine aI (fun hg=>hs) ?_
   simp[go_sem]
   (repeat refine⟨by first|omega|(rw[bA];omega)|kernel_rfl|grind,?_⟩)
   refine f9 (b:=(decide (c=48)&& !decide (c::r=[48]))||decide (13<(c::r).length)) ?_ (fun hb=>?_) (fun hb=>?_)
   ·simp[go_sem,c48]
    by_cases h48:c=48<;>by_cases hr:r=[]<;>simp[h48,hr]<;>omega
   ·(repeat(refine yA ?_;(simp[go_sem])))
    have:isNum (c::r)=false:=by
     cases h:isNum (c::r)with
     |false=>rfl
     |true=>
      simp only[isNum,Bool.and_eq_true,Bool.or_eq_true,decide_eq_true_eq,bne_iff_ne,beq_iff_eq,List.head?_cons,ne_eq,Option.some.injEq]at h
      simp only[Bool.or_eq_true,Bool.and_eq_true,decide_eq_true_eq,Bool.not_eq_true',decide_eq_false_iff_not]at hb
      rcases hb with hb|hb
      ·rcases h.1.1.2 with h2|h2
       ·exact(h2 hb.1).elim
       ·exact(hb.2 h2).elim
      ·omega
    rw[this];simp
   ·(repeat(refine yA ?_;(simp[go_sem])))
    simp only[Bool.or_eq_false_iff,decide_eq_false_iff_not,Nat.not_lt]at hb
    have h13:=hb.2
    have hb2:∀k,k≤(c::r).length→numVal ((c::r).take k)<10000000000000:=fun k hk2=>by
     have h1:=oV hall k hk2
     have h2:10^k≤10^13:=Nat.pow_le_pow_right (by decide) (by omega)
     omega
    have hd:∀k (h:k<(c::r).length),isDigit (c::r)[k]=true:=fun k h=>List.all_eq_true.1 hall _ (List.getElem_mem h)
    generalize hL:c::r=l at*
    refine aG (fun k:Nat=>⟨mkE [(0,ss l),(2,ii 0),(3,bb false),(4,ii (numVal (l.take k))),(30,ii l.length),(31,ii k)],[]⟩) (fun k=>k≤l.length) (fun k=>l.length-k) 0 ?_ ?_ ?_
    ·refine yS _ [] ?_
     subst hL
     simp[go_sem,numVal]
    ·simp
    ·intro k hk3
     (repeat(refine yA ?_;(simp[go_sem])))
     refine yC (decide (k<l.length)) (fun hc=>?_) fun hc=>?_
     ·simp at hc
      have q1:=J3 (hd k hc)
      have q2:=hb2 k hk3
      obtain⟨q3,q4⟩:=dig (hd k hc)
      (repeat(refine yA ?_;(simp[go_sem,hc,q1];(try simp(disch:=omega) only[w64,td,tm]))))
      refine⟨k+1,by omega,by omega,?_⟩
      refine yS _ [] ?_
      simp[go_sem]
      rw[kS hc]
      omega
     ·have hkl:k=l.length:=by simp at hc;omega
      subst hkl
      rw[List.take_length]
      (repeat(refine yA ?_;(simp[go_sem])))
      refine yC (decide (1099511627776<numVal l)) (fun hd2=>?_) (fun hd2=>?_) (by simp[go_sem];try omega)
      ·(repeat(refine yA ?_;(simp[go_sem])))
       have:isNum l=false:=by
        cases h:isNum l with
        |false=>rfl
        |true=>
         simp only[isNum,Bool.and_eq_true,decide_eq_true_eq]at h
         simp at hd2;omega
       rw[this];simp
      ·(repeat(refine yA ?_;(simp[go_sem])))
       have:isNum l=true:=by
        subst hL
        simp only[isNum,hall,Bool.and_eq_true,decide_eq_true_eq,List.isEmpty_cons,Bool.not_false,Bool.or_eq_true,bne_iff_ne,beq_iff_eq,List.head?_cons,ne_eq,Option.some.injEq,true_and,and_true]
        refine⟨⟨?_,by simpa using h13⟩,by simp at hd2;omega⟩
        have:=hb.1
        by_cases h48:c=48
        ·right;simp[h48]at this;simp[h48,this]
        ·exact .inl h48
       rw[this];simp
  ·have hk:¬((c::r).takeWhile isDigit).length=(c::r).length:=fun h=>hall ((kG isDigit (c::r)).1 h)
   have hne:¬(((c::r).takeWhile isDigit).length:Int)=((c::r).length:Int):=by omega
   have hl0:c::r≠[]:=by simp
   generalize hL:c::r=l at*
   (repeat(refine yA ?_;(simp[go_sem,hl0])))
   refine aI (fun hg=>hs) ?_
   simp[go_sem,hne]
   refine yT ?_ (by simp[go_sem,hne])
   (repeat(refine yA ?_;(simp[go_sem])))
   have:isNum l=false:=by
    have h2:l.all isDigit=false:=Bool.eq_false_iff.2 hall
    simp only[isNum,h2,Bool.and_false,Bool.false_and]
   rw[this];simp
end Go.Proofs.YtllgjognpobnpaaGreatDoor

namespace Go.Proofs.YtllgjognpobnpaaGreatDoor
open Go.RowKit Go.Ab
attribute [local irreducible] AWP Go.Ab.Sub Means MeansH CallK CallG CallT CallGT
theorem zC(s p:By)(hs:s.length≤100000):Means true Tryz.prog 178 [ss s,ss p] (bb (p.isPrefixOf s)):=by
 refine yM true 18 [.tmp 4] [0,1,4] Tryz.func178 fun X hX=>?_
 by_cases hp:p.length≤s.length
 ·have hd:decide ((p.length:Int)≤s.length)=true:=by simp only[decide_eq_true_eq];omega
  (repeat(refine yA ?_;(simp[go_sem,hd])))
  (repeat refine⟨by first|omega|(rw[bA];omega)|kernel_rfl|grind,?_⟩)
  rw[Bool.eq_iff_iff]
  simp[List.isPrefixOf_iff_prefix,List.prefix_iff_eq_take,hp]
  try(constructor<;>intro h<;>exact h.symm)
 ·have hd:decide ((p.length:Int)≤s.length)=false:=by simp only[decide_eq_false_iff_not];omega
  (repeat(refine yA ?_;(simp[go_sem,hd])))
  cases h:p.isPrefixOf s with
  |false=>simp;try omega
  |true=>
   rw[List.isPrefixOf_iff_prefix]at h
   exact(hp h.length_le).elim
theorem C7(s p:By)(hs:s.length≤100000):Means true Tryz.prog 148 [ss s,ss p] (bb (p.isPrefixOf s)):=by
 refine yM true 8 [.tmp 4] [0,1,4] Tryz.func148 fun X hX=>?_
 (repeat(refine yA ?_;(simp[go_sem])))
 refine aD (zC s p hs) ?_
 simp[go_sem]
 (repeat(refine yA ?_;(simp[go_sem])))
theorem oW(c:UInt8)(r:By)(hl:isLetter c=false)(hd:isDigit c=false):tok (c::r)=match signs.find? (·.isPrefixOf (c::r))with
  |some p=>.ok 3 p 0
  |none=>.err 11:=by
 simp only[tok,hl,hd,Bool.false_eq_true,if_false]
 by_cases h61:c=61
 ·subst h61
  cases r with
  |nil=>simp[signs,List.find?_cons,List.isPrefixOf,isSign1]
  |cons d r=>
   by_cases hd61:d=61
   ·subst hd61;simp[signs,List.find?_cons,List.isPrefixOf]
   ·have:((61:UInt8)==d)=false:=by simpa using fun h=>hd61 h.symm
    simp[signs,List.find?_cons,List.isPrefixOf,isSign1,hd61,this]
 ·have h0:(c==61)=false:=by simpa using h61
  have h0':((61:UInt8)==c)=false:=by simpa using fun h=>h61 h.symm
  simp only[h0,Bool.false_and,Bool.false_eq_true,if_false]
  by_cases h1:c=59
  ·subst h1;simp[signs,List.find?_cons,List.isPrefixOf,isSign1]
  by_cases h2:c=44
  ·subst h2;simp[signs,List.find?_cons,List.isPrefixOf,isSign1]
  by_cases h3:c=60
  ·subst h3;simp[signs,List.find?_cons,List.isPrefixOf,isSign1]
  by_cases h4:c=43
  ·subst h4;simp[signs,List.find?_cons,List.isPrefixOf,isSign1]
  by_cases h5:c=45
  ·subst h5;simp[signs,List.find?_cons,List.isPrefixOf,isSign1]
  by_cases h6:c=42
  ·subst h6;simp[signs,List.find?_cons,List.isPrefixOf,isSign1]
  by_cases h7:c=47
  ·subst h7;simp[signs,List.find?_cons,List.isPrefixOf,isSign1]
  by_cases h8:c=40
  ·subst h8;simp[signs,List.find?_cons,List.isPrefixOf,isSign1]
  by_cases h9:c=41
  ·subst h9;simp[signs,List.find?_cons,List.isPrefixOf,isSign1]
  have e:∀k:UInt8,c≠k→(k==c)=false:=fun k h=>by simpa using fun e=>h e.symm
  simp[signs,List.find?_cons,List.isPrefixOf,isSign1,h0',h61,h1,h2,h3,h4,h5,h6,h7,h8,h9,e _ h1,e _ h2,e _ h3,e _ h4,e _ h5,e _ h6,e _ h7,e _ h8,e _ h9]
def tokAV(p:Int)(x:Tok):AV:=match x with
 | .ok k t n=>.tup [tk ⟨k,t,n,p⟩,ii 0]
 | .err e=>.tup [tk ⟨0,[],0,0⟩,ii e]
theorem wP{c:UInt8}{r:By}(hl:isLetter c=true):isWord ((c::r).takeWhile isAl)=decide (((c::r).takeWhile isAl).length≤20):=by
 have h1:=C5 isAl (c::r)
 have h2:(c::r).takeWhile isAl=c::r.takeWhile isAl:=by simp[List.takeWhile_cons,isAl,hl]
 rw[h2]at h1⊢
 simp only[isWord,hl,h1,Bool.and_true,Bool.true_and]
set_option maxHeartbeats 2000000 in
set_option maxRecDepth 20000 in
theorem I1(c:UInt8)(r:By)(hlen:(c::r).length≤100000):Means true Tryz.prog 110 [ss (c::r)] (tokAV 0 (tok (c::r))):=by
 refine yM true 54 [.cell 2 153,.tmp 3] [0,2,3,4,5,6,7,9,10,20,24,38,43,44,45,49] Tryz.func110 fun X hX=>?_
 (repeat(refine yA ?_;(simp[go_sem])))
 refine aD (jP c) ?_
 simp[go_sem]
 refine yC (isLetter c) (fun hl=>?_) fun hl=>?_
 ·have hle:=mT isAl (c::r)
  have hpre:=iL isAl (c::r)
  (repeat(refine yA ?_;(simp[go_sem])))
  refine aD (mS 145 isAl (by simp[go_sem]) J2 (c::r) hlen) ?_
  simp[go_sem]
  (repeat refine⟨by first|omega|(rw[bA];omega)|kernel_rfl|grind,?_⟩)
  (repeat(refine yA ?_;(simp[go_sem])))
  rw[←hpre]
  refine aD (B6 ((c::r).takeWhile isAl) (by omega)) ?_
  simp[go_sem]
  refine yC (!isWord ((c::r).takeWhile isAl)) (fun hw=>?_) fun hw=>?_
  ·(repeat(refine yA ?_;(simp[go_sem])))
   rw[wP hl]at hw
   simp at hw
   simp[tok,hl,tokAV]
   rw[if_neg (by omega)]
  ·(repeat(refine yA ?_;(simp[go_sem])))
   rw[wP hl]at hw
   simp at hw
   simp[tok,hl,tokAV]
   rw[if_pos (by omega)]
 ·(repeat(refine yA ?_;(simp[go_sem])))
  refine aD (jQ c) ?_
  simp[go_sem]
  refine yC (isDigit c) (fun hd=>?_) fun hd=>?_
  ·have hle:=mT isDigit (c::r)
   have hpre:=iL isDigit (c::r)
   (repeat(refine yA ?_;(simp[go_sem])))
   refine aD (mS 146 isDigit (by simp[go_sem]) jQ (c::r) hlen) ?_
   simp[go_sem]
   (repeat refine⟨by first|omega|(rw[bA];omega)|kernel_rfl|grind,?_⟩)
   (repeat(refine yA ?_;(simp[go_sem])))
   rw[←hpre]
   refine aD (C6 ((c::r).takeWhile isDigit) (by omega)) ?_
   simp[go_sem]
   (repeat(refine yA ?_;(simp[go_sem])))
   refine yC (!isNum ((c::r).takeWhile isDigit)) (fun hw=>?_) fun hw=>?_
   ·(repeat(refine yA ?_;(simp[go_sem])))
    simp only[Bool.not_eq_true']at hw
    rw[show tok (c::r)=.err 3 by simp only[tok,hl,hd,hw,Bool.false_eq_true,if_false,if_true]]
    simp[tokAV]
   ·(repeat(refine yA ?_;(simp[go_sem])))
    simp only[Bool.not_eq_false']at hw
    rw[show tok (c::r)=.ok 2 ((c::r).takeWhile isDigit) (numVal ((c::r).takeWhile isDigit)) by simp only[tok,hl,hd,hw,Bool.false_eq_true,if_false,if_true]]
    simp only[hw,if_true,tokAV]
  ·(repeat(refine yA ?_;(simp[go_sem])))
   refine⟨by decide,fun e he id hid=>?_,?_⟩
   ·obtain⟨p,_,rfl⟩:=List.mem_map.1 (List.mem_of_mem_take he)
    simp[AV.idB]at hid
   (repeat(refine yA ?_;(simp[go_sem])))
   refine aG (fun k:Nat=>⟨mkE [(0,ss (c::r)),(2,.el 0 4 0 0),(3,ii 0),(43,.agg (signs.map ss)),(44,ii k)],[.row ⟨153,4,[tk ⟨0,[],0,0⟩]⟩]⟩) (fun k=>k≤11∧∀j (h:j<signs.length),j<k→signs[j].isPrefixOf (c::r)=false) (fun k=>11-k) 0 ?_ ?_ ?_
   ·refine yS _ [.old 0 ⟨153,4,[tk ⟨0,[],0,0⟩]⟩] ?_
    simp[go_sem,signs]
   ·simp
   ·rintro k ⟨hk,hn⟩
    (repeat(refine yA ?_;(simp[go_sem])))
    refine yC (decide (k<11)) (fun hb=>?_) (fun hb=>?_) (by simp[go_sem];try omega)
    ·simp at hb
     have hks:k<signs.length:=hb
     (repeat(refine yA ?_;(simp[go_sem,hks])))
     (repeat refine⟨by first|omega|(rw[bA];omega)|kernel_rfl|grind,?_⟩)
     (repeat(refine yA ?_;(simp[go_sem,hks])))
     refine aD (C7 (c::r) signs[k] hlen) ?_
     refine yC (signs[k].isPrefixOf (c::r)) (fun hp=>?_) fun hp=>?_
     ·(repeat(refine yA ?_;(simp[go_sem])))
      have:signs.find? (·.isPrefixOf (c::r))=some signs[k]:=List.find?_eq_some_iff_getElem.2 ⟨hp,k,hks,rfl,fun j hj=>by simp[hn j (by omega) hj]⟩
      rw[oW c r hl hd,this]
      simp[tokAV]
     ·(repeat(refine yA ?_;(simp[go_sem];(try simp(disch:=omega) only[w64,td,tm]))))
      refine⟨k+1,⟨by omega,fun j h1 h2=>?_⟩,by omega,?_⟩
      ·by_cases hjk:j=k
       ·subst hjk;exact hp
       ·exact hn j h1 (by omega)
      ·refine yS _ [.old 0 ⟨153,4,[tk ⟨0,[],0,0⟩]⟩] ?_
       simp[go_sem]
    ·have hk11:k=11:=by simp at hb;omega
     subst hk11
     (repeat(refine yA ?_;(simp[go_sem])))
     have:signs.find? (·.isPrefixOf (c::r))=none:=by
      rw[List.find?_eq_none]
      intro p hp
      obtain⟨j,hj,rfl⟩:=List.getElem_of_mem hp
      simp[hn j hj hj]
     rw[oW c r hl hd,this]
     simp[tokAV]
end Go.Proofs.YtllgjognpobnpaaGreatDoor

namespace Go.Proofs.YtllgjognpobnpaaGreatDoor
open Go.RowKit Go.Ab
attribute [local irreducible] AWP Go.Ab.Sub Means MeansH CallK CallG CallT CallGT
def Lx.pre(ts:List Tk):Lx→Lx
 | .ok us=>.ok (ts++us)
 | .err i e=>.err i e
theorem oX:∀(l:By) (p:Nat),lexA l p=lexA (l.drop (l.takeWhile isBlank).length) (p+(l.takeWhile isBlank).length)
 | [],p=>by simp
 |c::l,p=>by
  simp only[List.takeWhile_cons]
  split
  ·rename_i h
   rw[dN h,oX l]
   simp only[List.length_cons,List.drop_succ_cons]
   rw[show p+1+(l.takeWhile isBlank).length=p+((l.takeWhile isBlank).length+1) by omega]
  ·simp
theorem wQ(f:UInt8→Bool):∀(l:By) (c:UInt8) (r:By),l.drop (l.takeWhile f).length=c::r→f c=false
 | [],c,r,h=>by simp at h
 |d::l,c,r,h=>by
  simp only[List.takeWhile_cons]at h
  split at h
  ·simp only[List.length_cons,List.drop_succ_cons]at h
   exact wQ f l c r h
  ·rename_i hd
   simp at h
   rw[←h.1];simpa using hd
def lexAV(l:By):AV:=if 2000<l.length then .tup [.sl [],ii 0,ii 6]else match lexA l 0 with
 | .err i e=>.tup [.sl [],ii i,ii e]
 | .ok ts=>.tup [.sl (ts.map tk),ii 0,ii 0]
theorem zD{l:By}(hb:l.length≤2000){i:Nat}{e:Int}(h:lexA l 0=.err i e):lexAV l=.tup [.sl [],ii i,ii e]:=by rw[lexAV,if_neg (by omega),h]
theorem C8{l:By}(hb:l.length≤2000){ts:List Tk}(h:lexA l 0=.ok ts):lexAV l=.tup [.sl (ts.map tk),ii 0,ii 0]:=by rw[lexAV,if_neg (by omega),h]
set_option maxHeartbeats 2000000 in
set_option maxRecDepth 20000 in
theorem J4(l:By):Means true Tryz.prog 57 [ss l] (lexAV l):=by
 refine yM true 49 [.tmp 2,.tmp 3,.tmp 4] [0,2,3,4,5,6,7,8,11,21,35] Tryz.func57 fun X hX=>?_
 (repeat(refine yA ?_;(simp[go_sem])))
 refine yC (decide (2000<l.length)) (fun hb=>?_) (fun hb=>?_) (by simp[go_sem];try omega)
 ·(repeat(refine yA ?_;(simp[go_sem])))
  simp at hb
  simp[lexAV,hb]
 ·simp at hb
  have hav:lexAV l=match lexA l 0 with
   | .err i e=>.tup [.sl [],ii i,ii e]
   | .ok ts=>.tup [.sl (ts.map tk),ii 0,ii 0]:=by rw[lexAV,if_neg (by omega)]
  (repeat(refine yA ?_;(simp[go_sem])))
  refine aG (fun x:Nat×List Tk=>⟨mkE [(0,ss l),(5,.ow 0),(6,ii x.1)],[.row ⟨153,4,x.2.map tk⟩]⟩) (fun x=>x.1≤l.length∧x.2.length≤x.1∧lexA l 0=(lexA (l.drop x.1) x.1).pre x.2) (fun x=>l.length-x.1) (0,[]) ?_ ?_ ?_
  ·refine yS _ [.birth 153 4] ?_
   simp[go_sem]
  ·refine⟨by simp,by simp,?_⟩
   simp only[List.drop_zero]
   cases lexA l 0<;>simp[Lx.pre]
  ·rintro⟨p,ts⟩ ⟨hp,hts,hI⟩
   simp only[]at hp hts hI
   rw[oX (l.drop p)]at hI
   have hle:=mT isBlank (l.drop p)
   rw[List.length_drop]at hle
   have hbl:=wQ isBlank (l.drop p)
   rw[List.drop_drop]at hI hbl
   obtain⟨q,hq⟩:∃q,q=p+((l.drop p).takeWhile isBlank).length:=⟨_,rfl⟩
   have hcast:(p:Int)+(((l.drop p).takeWhile isBlank).length:Int)=(q:Int):=by omega
   rw[←hq]at hI hbl
   (repeat(refine yA ?_;(simp[go_sem])))
   (repeat refine⟨by first|omega|(rw[bA];omega)|kernel_rfl|grind,?_⟩)
   refine aD (mS 109 isBlank (by simp[go_sem]) F8 (l.drop p) (by rw[List.length_drop];omega)) ?_
   simp[go_sem]
   (repeat(refine yA ?_;(simp[go_sem,hcast];(try simp(disch:=omega) only[w64,td,tm]))))
   refine yC (decide (q=l.length)) (fun hc=>?_) (fun hc=>?_) (by simp[go_sem];try omega)
   ·simp at hc
    have hr:lexA l 0=.ok (ts++[⟨0,[],0,q⟩]):=by rw[hI,hc,List.drop_length,fC];rfl
    rw[hav,hr]
    (repeat(refine yA ?_;(simp[go_sem])))
    (repeat refine⟨by first|omega|(rw[bA];omega)|kernel_rfl|grind,?_⟩)
    (repeat(refine yA ?_;(simp[go_sem])))
   ·simp at hc
    have hql:q<l.length:=by omega
    obtain⟨c,r,hcr⟩:∃c r,l.drop q=c::r:=⟨l[q],l.drop (q+1),List.drop_eq_getElem_cons hql⟩
    have hbc:=hbl c r hcr
    have hlen:(c::r).length≤100000:=by rw[←hcr,List.length_drop];omega
    have hn:Means true Tryz.prog 110 [ss (l.drop q)] (tokAV 0 (tok (c::r))):=by rw[hcr];exact I1 c r hlen
    rw[hcr]at hI
    (repeat(refine yA ?_;(simp[go_sem])))
    (repeat refine⟨by first|omega|(rw[bA];omega)|kernel_rfl|grind,?_⟩)
    cases ht:tok (c::r)with
    |err e=>
     rw[ht]at hn
     have he:e≠0:=by rcases sF ht with h|h|h<;>omega
     have hr:lexA l 0=.err q e:=by rw[hI,fD hbc ht];rfl
     rw[hav,hr]
     refine aD hn ?_
     simp[go_sem,tokAV]
     (repeat(refine yA ?_;(simp[go_sem])))
     refine yT ?_ (by simp[go_sem,he])
     (repeat(refine yA ?_;(simp[go_sem])))
    |ok k t n=>
     rw[ht]at hn
     obtain⟨t1,t2,t3⟩:=dE ht
     rw[←hcr,List.length_drop]at t2
     rw[gW hbc ht,←hcr,List.drop_drop]at hI
     refine aD hn ?_
     simp[go_sem,tokAV]
     (repeat(refine yA ?_;(simp[go_sem])))
     refine yF ?_
     (repeat(refine yA ?_;(simp[go_sem])))
     (repeat refine⟨by first|omega|(rw[bA];omega)|kernel_rfl|grind,?_⟩)
     (repeat(refine yA ?_;(simp[go_sem];(try simp(disch:=omega) only[w64,td,tm]))))
     refine⟨q+t.length,ts++[⟨k,t,n,q⟩],⟨by omega,by simp;omega,?_⟩,by omega,?_⟩
     ·rw[hI]
      cases lexA (l.drop (q+t.length)) (q+t.length)<;>simp[Lx.cons,Lx.pre]
     ·refine yS _ [.old 3 ⟨153,4,(ts++[(⟨k,t,n,q⟩:Tk)]).map tk⟩] ?_
      simp[go_sem]
end Go.Proofs.YtllgjognpobnpaaGreatDoor

namespace Go.Proofs.YtllgjognpobnpaaGreatDoor
open Go.RowKit Go.Ab
def E.op:E→Int
 | .num _ _=>0
 | .nam _=>1
 | .un _=>12
 | .bin o _ _=>o
 | .ite _ _ _=>13
def E.n:E→Int
 | .num n _=>n
 |_=>0
def E.u:E→Int
 | .num _ u=>u
 |_=>0
def E.s:E→By
 | .nam s=>s
 |_=>[]
def E.kids:E→List E
 | .num _ _| .nam _=>[]
 | .un a=>[a]
 | .bin _ a b=>[a,b]
 | .ite a b c=>[a,b,c]
def E.args:E→List AV
 | .num _ _| .nam _=>[]
 | .un a=>[.agg [ii a.op,ii a.n,ii a.u,ss a.s,.sl a.args]]
 | .bin _ a b=>[.agg [ii a.op,ii a.n,ii a.u,ss a.s,.sl a.args],.agg [ii b.op,ii b.n,ii b.u,ss b.s,.sl b.args]]
 | .ite a b c=>[.agg [ii a.op,ii a.n,ii a.u,ss a.s,.sl a.args],.agg [ii b.op,ii b.n,ii b.u,ss b.s,.sl b.args],.agg [ii c.op,ii c.n,ii c.u,ss c.s,.sl c.args]]
@[go_sem] theorem E.op_num(n u:Int):E.op (.num n u)=0:=rfl
@[go_sem] theorem E.n_num(n u:Int):E.n (.num n u)=n:=rfl
@[go_sem] theorem E.u_num(n u:Int):E.u (.num n u)=u:=rfl
@[go_sem] theorem E.s_num(n u:Int):E.s (.num n u)=[]:=rfl
@[go_sem] theorem E.args_num(n u:Int):E.args (.num n u)=[]:=rfl
@[go_sem] theorem E.op_nam(s:By):E.op (.nam s)=1:=rfl
@[go_sem] theorem E.n_nam(s:By):E.n (.nam s)=0:=rfl
@[go_sem] theorem E.u_nam(s:By):E.u (.nam s)=0:=rfl
@[go_sem] theorem E.s_nam(s:By):E.s (.nam s)=s:=rfl
@[go_sem] theorem E.args_nam(s:By):E.args (.nam s)=[]:=rfl
@[go_sem] theorem E.op_un(a:E):E.op (.un a)=12:=rfl
@[go_sem] theorem E.n_un(a:E):E.n (.un a)=0:=rfl
@[go_sem] theorem E.u_un(a:E):E.u (.un a)=0:=rfl
@[go_sem] theorem E.s_un(a:E):E.s (.un a)=[]:=rfl
@[go_sem] theorem E.args_un(a:E):E.args (.un a)=[.agg [ii a.op,ii a.n,ii a.u,ss a.s,.sl a.args]]:=rfl
@[go_sem] theorem E.op_bin(o:Int)(a b:E):E.op (.bin o a b)=o:=rfl
@[go_sem] theorem E.n_bin(o:Int)(a b:E):E.n (.bin o a b)=0:=rfl
@[go_sem] theorem E.u_bin(o:Int)(a b:E):E.u (.bin o a b)=0:=rfl
@[go_sem] theorem E.s_bin(o:Int)(a b:E):E.s (.bin o a b)=[]:=rfl
@[go_sem] theorem E.args_bin(o:Int)(a b:E):E.args (.bin o a b)=[.agg [ii a.op,ii a.n,ii a.u,ss a.s,.sl a.args],.agg [ii b.op,ii b.n,ii b.u,ss b.s,.sl b.args]]:=rfl
@[go_sem] theorem E.op_ite(a b c:E):E.op (.ite a b c)=13:=rfl
@[go_sem] theorem E.n_ite(a b c:E):E.n (.ite a b c)=0:=rfl
@[go_sem] theorem E.u_ite(a b c:E):E.u (.ite a b c)=0:=rfl
@[go_sem] theorem E.s_ite(a b c:E):E.s (.ite a b c)=[]:=rfl
@[go_sem] theorem E.args_ite(a b c:E):E.args (.ite a b c)=[.agg [ii a.op,ii a.n,ii a.u,ss a.s,.sl a.args],.agg [ii b.op,ii b.n,ii b.u,ss b.s,.sl b.args],.agg [ii c.op,ii c.n,ii c.u,ss c.s,.sl c.args]]:=rfl
abbrev ex(e:E):AV:=.agg [ii e.op,ii e.n,ii e.u,ss e.s,.sl e.args]
theorem gQ(e:E):e.args=e.kids.map ex:=by cases e<;>rfl
abbrev pst(ts:List Tk)(i:Nat):Cell:=.row ⟨143,2,[.agg [.sl (ts.map tk),ii i]]⟩
abbrev pp:AV:=.el 0 2 0 0
abbrev stopV(p e:Int):Value:=.iface 145 (.agg #[.int .i64 p,.int .i64 e])
def outP{α:Type}(r:Pr α)(g:α→AV)(ts:List Tk)(R:List Cell):Value ⊕ AV×List Cell:=match r with
 | .ok x j=>.inr (g x,pst ts j::R)
 | .no p e=>.inl (stopV p e)
theorem aM{f:FuncId}{H:List Cell}{args:List AV}{α:Type}{r:Pr α}{g:α→AV}{ts:List Tk}{R:List Cell}(h:OutH Tryz.prog f H args (outP r g ts R)){x:α}{j:Nat}(e:r=.ok x j):MeansH Tryz.prog f H args (g x) (pst ts j::R):=by subst e;exact h
theorem aL{f:FuncId}{H:List Cell}{args:List AV}{α:Type}{r:Pr α}{g:α→AV}{ts:List Tk}{R:List Cell}(h:OutH Tryz.prog f H args (outP r g ts R)){p q:Int}(e:r=.no p q):PanicH Tryz.prog f H args (stopV p q):=by subst e;exact h
@[go_sem] theorem aY{rs:List ResultVar}{m:Nat}{α:Type}(x:α)(j:Nat)(g:α→AV)(ts:List Tk)(R:List Cell):outQ Tryz.prog rs m (outP (.ok x j) g ts R)=retH Tryz.prog rs m (g x) (pst ts j::R):=rfl
@[go_sem] theorem outQ_pn{rs:List ResultVar}{m:Nat}{α:Type}(p e:Int)(g:α→AV)(ts:List Tk)(R:List Cell):outQ Tryz.prog rs m (outP (.no p e) g ts R)=panQ (stopV p e):=rfl
theorem HB{ts:List Tk}{i:Nat}(hi:i<ts.length):ts[i]=nx ts i:=by simp[nx,List.getD_eq_getElem?_getD,hi]
end Go.Proofs.YtllgjognpobnpaaGreatDoor

