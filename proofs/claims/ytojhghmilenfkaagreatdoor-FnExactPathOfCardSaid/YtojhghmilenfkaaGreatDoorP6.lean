/- A part of the proof of the claim that the last text states: no condition of its own. -/
import Derived.Test.YtojhghmilenfkaaGreatDoorP5
import Derived.Laws.Cover3
import Derived.Lib.ItoaLen
import Derived.Lib.ItoaMem
set_option linter.unusedVariables false
set_option linter.unusedSimpArgs false
namespace Go.V
open Go Go.Proofs Go.Proofs.Tryz
inductive PrN:Nd→Prop where
 |mk (k:Int) (s:List UInt8) (m:Int) (ks:List Nd) (hs:s.length≤8) (h0:-9223372036854775808≤m) (h1:m≤9223372036854775807) (hk:∀x,x∈ks→PrN x):PrN (.mk k s m ks)
def Bz(n:Nd)(i:Nat):Nd:=n.kids.getD i Cg
theorem PrN.kid{n:Nd}(h:PrN n)(i:Nat):PrN (Bz n i):=by
 cases h with
 |mk k s m ks hs h0 h1 hk=>
  unfold Bz;cases hx:ks[i]? with
  |none=>simp[Nd.kids,List.getD,hx];exact .mk 0 [] 0 [] (by simp) (by omega) (by omega) (fun x hx=>by cases hx)
  |some x=>simp[Nd.kids,List.getD,hx];exact hk x (Bh hx)
theorem Ex{l:List Nd}{x:Nd}(h:x∈l):Ai x≤A3 l:=by
 induction l with
 |nil=>cases h
 |cons y l ih=>
  simp only[A3];rcases zzq13.1 h with rfl|h
  ·omega
  ·have:=ih h;omega
theorem Mq(n:Nd)(i:Nat):Bz n i∈n.kids∨Bz n i=Cg:=by
 unfold Bz;cases hx:n.kids[i]? with
 |none=>right;simp[List.getD,hx]
 |some x=>left;simp[List.getD,hx];exact Bh hx
theorem Ado(n:Nd)(i:Nat)(hi:i≤1000000000)(hl:n.kids.length≤4000000000):Pure X 297 [nd n,vi i] (nd (Bz n i)):=by
 by_cases h:i<n.kids.length
 ·obtain⟨x,hx⟩:=Ab n.kids h;have hk:Bz n i=x:=by simp[Bz,List.getD,hx]
  rw[hk];refine Pure.run func297 ?_;refine Ah ?_ (ht:=by simp[Ad];omega);refine B7 i (by omega) (Am hx) ?_;exact Au func297 rfl
 ·have hk:Bz n i=Cg:=by simp[Bz,List.getD,U3 (Nat.le_of_not_lt h)]
  rw[hk];refine Pure.run func297 ?_;refine A1 ?_ (ht:=by simp[Ad];omega);exact Au func297 rfl
abbrev Me:=List (List UInt8)
def eW(c:List (Int×Me))(i:Nat):Me:=(c.getD i (0,[])).2
def Pd(a b:Bool)(k:Int)(w:Me):Me:=if (a&&(k==6||k==7))||(b&&k==8)then[[40]]++w++[[41]]else w
def iW(c:List (Int×Me))(i:Nat)(a b:Bool):Me:=Pd a b (c.getD i (0,[])).1 (c.getD i (0,[])).2
def Ga(k:Int)(s:List UInt8)(m:Int)(c:List (Int×Me)):Me:=
 if k=1 then[Lib.itoa m]
 else if k=2 then[s]
 else if k=3 then[s,[91]]++eW c 0++[[93]]
 else if k=4 then[[108,101,110],[40],s,[41]]
 else if k=5 then[[32,45]]++iW c 0 true true
 else if k=6∨k=7 then eW c 0++[if k=6 then[43]else[45]]++iW c 1 true false
 else if k=8 then iW c 0 true false++[[42]]++iW c 1 true true
 else if 11≤k∧k≤16 then eW c 0++[Ut k]++eW c 1
 else[]
mutual
def A2:Nd→Me
 |.mk k s m ks=>Ga k s m (B4 ks)
def B4:List Nd→List (Int×Me)
 |[]=>[]
 |x::l=>(x.kind,A2 x)::B4 l
end
theorem Afe(l:List Nd):B4 l=l.map fun x=>(x.kind,A2 x):=by
 induction l with
 |nil=>rfl
 |cons x l ih=>simp[B4,ih]
theorem Ae3:A2 Cg=[]:=rfl
theorem Afd(n:Nd)(i:Nat):(B4 n.kids).getD i (0,[])=((Bz n i).kind,A2 (Bz n i)):=by
 rw[Afe];unfold Bz;cases hx:n.kids[i]? with
 |none=>simp[List.getD,hx,Ae3];rfl
 |some x=>simp[List.getD,hx]
theorem F5(n:Nd)(i:Nat):eW (B4 n.kids) i=A2 (Bz n i):=by rw[eW,Afd]
theorem Z6(n:Nd)(i:Nat)(a b:Bool):iW (B4 n.kids) i a b=Pd a b (Bz n i).kind (A2 (Bz n i)):=by rw[iW,Afd]
theorem Ac1(n:Nd):A2 n=Ga n.kind n.name n.num (B4 n.kids):=by cases n;rfl
theorem Ajb(ks:List Nd)(ih:∀x,x∈ks→(A2 x).length+2≤8*Ai x):(eW (B4 ks) 0).length+(eW (B4 ks) 1).length+4≤8*A3 ks+4∧∀a b c d,(iW (B4 ks) 0 a b).length+(iW (B4 ks) 1 c d).length≤8*A3 ks:=by
 have hin:∀a b k w,(Pd a b k w).length≤w.length+2:=fun a b k w=>by unfold Pd;split<;>simp
 cases ks with
 |nil=>refine⟨by simp[eW,B4],fun a b c d=>by simp[iW,Pd,B4]⟩
 |cons x l=>
  have hx:=ih x (by simp);cases l with
  |nil=>
   refine⟨by simp[eW,B4,A3];omega,fun a b c d=>?_⟩;have:=hin a b x.kind (A2 x);simp[iW,B4,A3];have h2:(Pd c d 0 []).length=0:=by simp[Pd]
   rw[h2];omega
  |cons y l=>
   have hy:=ih y (by simp);refine⟨by simp[eW,B4,A3];omega,fun a b c d=>?_⟩;have h1:=hin a b x.kind (A2 x);have h2:=hin c d y.kind (A2 y);simp[iW,B4,A3];omega
theorem Ae2(n:Nd):(A2 n).length+2≤8*Ai n:=by
 induction n using Nd.ind with
 |h n ih=>
 have hc:=Ck n;rw[Ac1];obtain⟨h1,h2⟩:=Ajb n.kids ih;have h3:=h2 true true true true;have h4:=h2 true false true true;have h5:(iW (B4 n.kids) 1 true false).length≤8*A3 n.kids-(eW (B4 n.kids) 0).length:=by
  have:=h2 false false true false;have e:iW (B4 n.kids) 0 false false=eW (B4 n.kids) 0:=by simp[iW,Pd,eW]
  rw[e]at this;omega
 unfold Ga
 repeat' split
 all_goals simp
 all_goals omega
abbrev PutC(r:List (List AV))(xs:Me):Prop:=∀(b:Bool)(s:List UInt8)(ws:Me)(h:Int),ws.length≤1000000000 →
 Hands X 294 [.ptr 0 0 0,.sl r .no] ⟨[[bP (Nm 312 0 b) s ws h]],[s.length,ws.length]⟩ (.tup []) ⟨[[bP (Nm 312 0 b) s (ws++xs) h]],[s.length,(ws++xs).length]⟩
theorem Jc(x:List UInt8):PutC [[str x]] [x]:=fun b s ws h hw=>Ai7 b s ws [x] h (by simp;omega) rfl
theorem Aql(x y:List UInt8):PutC [[str x],[str y]] [x,y]:=fun b s ws h hw=>Ai7 b s ws [x,y] h (by simp;omega) rfl
theorem A4r(x y z:List UInt8):PutC [[str x],[str y],[str z]] [x,y,z]:=fun b s ws h hw=>Ai7 b s ws [x,y,z] h (by simp;omega) rfl
theorem A4s(x y z u:List UInt8):PutC [[str x],[str y],[str z],[str u]] [x,y,z,u]:=fun b s ws h hw=>Ai7 b s ws [x,y,z,u] h (by simp;omega) rfl
theorem A3v(x y z u v:List UInt8):PutC [[str x],[str y],[str z],[str u],[str v]] [x,y,z,u,v]:=fun b s ws h hw=>Ai7 b s ws [x,y,z,u,v] h (by simp;omega) rfl
def HE(n:Nd):Prop:=∀(b:Bool)(s:List UInt8)(ws:Me)(h:Int),ws.length+(A2 n).length≤1000000 →
 Hands X 296 [.ptr 0 0 0,nd n] ⟨[[bP (Nm 312 0 b) s ws h]],[s.length,ws.length]⟩ (.tup []) ⟨[[bP (Nm 312 0 b) s (ws++A2 n) h]],[s.length,(ws++A2 n).length]⟩
theorem Uc(n:Nd)(he:HE n)(c b:Bool)(s:List UInt8)(ws:Me)(h:Int)(hw:ws.length+(Pd true c n.kind (A2 n)).length≤1000000) :
 Hands X 314 [.ptr 0 0 0,nd n,vb true,vb c] ⟨[[bP (Nm 312 0 b) s ws h]],[s.length,ws.length]⟩ (.tup []) ⟨[[bP (Nm 312 0 b) s (ws++Pd true c n.kind (A2 n)) h]],[s.length,(ws++Pd true c n.kind (A2 n)).length]⟩:=by
 refine Hands.run (n:=1) (m:=2) func314 ?_;refine Hh ?_;refine Db (fun h6=>?_) (fun h6=>?_)
 ·have h6':n.kind=6:=by simpa using h6
  refine Hh ?_;refine A1 ?_;have hI:Pd true c n.kind (A2 n)=[[40]]++A2 n++[[41]]:=by unfold Pd;rw[if_pos (by simp[h6'])]
  rw[hI]at hw⊢;simp at hw;refine Ae (τ':=[0,1]) [0] [0,1] (Jc [40] b s ws h (by omega)) ?_;refine Ae (τ':=[0,1]) [0] [0,1] (he b s (ws++[[40]]) h (by simp;omega)) ?_;refine Ae (τ':=[0,1]) [0] [0,1] (Jc [41] b s (ws++[[40]]++A2 n) h (by simp;omega)) ?_;rw[←Fi,←Fi];exact Br func314 rfl rfl
 have h6':n.kind≠6:=by simpa using h6
 refine Db (fun h7=>?_) (fun h7=>?_)
 ·have h7':n.kind=7:=by simpa using h7
  refine A1 ?_;have hI:Pd true c n.kind (A2 n)=[[40]]++A2 n++[[41]]:=by unfold Pd;rw[if_pos (by simp[h7'])]
  rw[hI]at hw⊢;simp at hw;refine Ae (τ':=[0,1]) [0] [0,1] (Jc [40] b s ws h (by omega)) ?_;refine Ae (τ':=[0,1]) [0] [0,1] (he b s (ws++[[40]]) h (by simp;omega)) ?_;refine Ae (τ':=[0,1]) [0] [0,1] (Jc [41] b s (ws++[[40]]++A2 n) h (by simp;omega)) ?_;rw[←Fi,←Fi];exact Br func314 rfl rfl
 have h7':n.kind≠7:=by simpa using h7
 cases c
 ·refine Ii ?_;refine Ah ?_;have hI:Pd true false n.kind (A2 n)=A2 n:=by unfold Pd;rw[if_neg (by simp[h6',h7'])]
  rw[hI]at hw⊢;refine Ae (τ':=[0,1]) [0] [0,1] (he b s ws h (by omega)) ?_;exact D6 func314 rfl rfl
 ·refine Hh ?_;refine Ag (fun h8=>?_) (fun h8=>?_)
  ·have h8':n.kind=8:=by simpa using h8
   have hI:Pd true true n.kind (A2 n)=[[40]]++A2 n++[[41]]:=by unfold Pd;rw[if_pos (by simp[h8'])]
   rw[hI]at hw⊢;simp at hw;refine Ae (τ':=[0,1]) [0] [0,1] (Jc [40] b s ws h (by omega)) ?_;refine Ae (τ':=[0,1]) [0] [0,1] (he b s (ws++[[40]]) h (by simp;omega)) ?_;refine Ae (τ':=[0,1]) [0] [0,1] (Jc [41] b s (ws++[[40]]++A2 n) h (by simp;omega)) ?_;rw[←Fi,←Fi];exact Br func314 rfl rfl
  ·have h8':n.kind≠8:=by simpa using h8
   have hI:Pd true true n.kind (A2 n)=A2 n:=by unfold Pd;rw[if_neg (by simp[h6',h7',h8'])]
   rw[hI]at hw⊢;refine Ae (τ':=[0,1]) [0] [0,1] (he b s ws h (by omega)) ?_;exact D6 func314 rfl rfl
theorem Asq(k:Int)(s:List UInt8)(m:Int)(c:List (Int×Me))(h:k≠1∧k≠2∧k≠3∧k≠4∧k≠5∧k≠6∧k≠7∧k≠8):Ga k s m c=if 11≤k∧k≤16 then eW c 0++[Ut k]++eW c 1 else[]:=by
 obtain⟨h1,h2,h3,h4,h5,h6,h7,h8⟩:=h;unfold Ga;rw[if_neg h1,if_neg h2,if_neg h3,if_neg h4,if_neg h5,if_neg (by simp[h6,h7]),if_neg h8]
theorem Acm{X:Cx}{S:St}{F:C3}{N:Nat}{ops:Array Oper}{i:Nat}{o:Oper}{t:TypeId}{ps:Array (Nat×Operand)}{vals:List (Nat×Value)}{cs:Array Value}(h:X.P.built t vals=some cs)(ho:ops[i]?=some o:=by rfl)(hw:A6 ops F o=some true:=by rfl)
 (hop:o.op=.build t ps:=by rfl)(hv:∀a:Act,ps.toList.map (fun x=>(x.1,a.eval x.2))=vals:=by intro a;rfl):Ndo X N ops i o F (.agg (cs.toList.map Ib)) S S:=by
 refine Df ho hw fun F' E w a hc hI hF=>?_;refine⟨.agg cs,?_,.agg _ _ (by simp) fun j v x hv hx=>?_⟩
 ·have hrun:=run_build (P:=X.P) w t (ps.map fun x=>(x.1,a.eval x.2)) cs (by rw[Array.toList_map,hv a];exact h);simp[execOp,hop,hrun]
 ·simp[hv]at hx;subst hx;exact Mu v
theorem Ais:X.P.built 337 [(0,.string ⟨#[43]⟩),(1,.string ⟨#[45]⟩)]=some #[.string ⟨#[43]⟩,.string ⟨#[45]⟩]:=by kernel_rfl
theorem Ans(n:Nd)(hp:PrN n)(hsz:Ai n≤100000)(ih:n.kind≠0→∀i,HE (Bz n i)):HE n:=by
 intro b s ws h hw;have hkl:n.kids.length≤4000000000:=by have:=Bn n.kids;have:=Ck n;omega
 have q0:=Ado n 0 (by omega) hkl;have q1:=Ado n 1 (by omega) hkl;have hE:A2 n=Ga n.kind n.name n.num (B4 n.kids):=Ac1 n;rw[hE]at hw⊢;have pn:n.name.length≤8∧-9223372036854775808≤n.num∧n.num≤9223372036854775807:=by cases hp with|mk k s m ks hs h0 h1 hk=>exact⟨hs,h0,h1⟩
 refine Hands.run (n:=1) (m:=2) func296 ?_;refine Ag (fun h1=>?_) (fun h1=>?_)
 ·have h1':n.kind=1:=by simpa using h1
  have hT:Ga n.kind n.name n.num (B4 n.kids)=[Lib.itoa n.num]:=by unfold Ga;rw[if_pos h1']
  rw[hT]at hw⊢;refine Al (Al5 n.num pn.2.1 pn.2.2) ?_;refine Ae (τ':=[0,1]) [0] [0,1] (Jc (Lib.itoa n.num) b s ws h (by omega)) ?_;exact D6 func296 rfl rfl
 have h1':n.kind≠1:=by simpa using h1
 refine Ag (fun h2=>?_) (fun h2=>?_)
 ·have h2':n.kind=2:=by simpa using h2
  have hT:Ga n.kind n.name n.num (B4 n.kids)=[n.name]:=by unfold Ga;rw[if_neg h1',if_pos h2']
  rw[hT]at hw⊢;refine Ae (τ':=[0,1]) [0] [0,1] (Jc n.name b s ws h (by omega)) ?_;exact D6 func296 rfl rfl
 have h2':n.kind≠2:=by simpa using h2
 refine Ag (fun h3=>?_) (fun h3=>?_)
 ·have h3':n.kind=3:=by simpa using h3
  have hT:Ga n.kind n.name n.num (B4 n.kids)=[n.name,[91]]++A2 (Bz n 0)++[[93]]:=by unfold Ga;rw[if_neg h1',if_neg h2',if_pos h3',F5]
  rw[hT]at hw⊢;simp at hw;have e0:=ih (by omega) 0;refine Ae (τ':=[0,1]) [0] [0,1] (Aql n.name [91] b s ws h (by omega)) ?_;refine Al q0 ?_;refine Ae (τ':=[0,1]) [0] [0,1] (e0 b s (ws++[n.name,[91]]) h (by simp;omega)) ?_;refine Ae (τ':=[0,1]) [0] [0,1] (Jc [93] b s (ws++[n.name,[91]]++A2 (Bz n 0)) h (by simp;omega)) ?_;rw[←Fi,←Fi];exact D6 func296 rfl rfl
 have h3':n.kind≠3:=by simpa using h3
 refine Ag (fun h4=>?_) (fun h4=>?_)
 ·have h4':n.kind=4:=by simpa using h4
  have hT:Ga n.kind n.name n.num (B4 n.kids)=[[108,101,110],[40],n.name,[41]]:=by unfold Ga;rw[if_neg h1',if_neg h2',if_neg h3',if_pos h4']
  rw[hT]at hw⊢;refine Ae (τ':=[0,1]) [0] [0,1] (A4s [108,101,110] [40] n.name [41] b s ws h (by omega)) ?_;exact D6 func296 rfl rfl
 have h4':n.kind≠4:=by simpa using h4
 refine Ag (fun h5=>?_) (fun h5=>?_)
 ·have h5':n.kind=5:=by simpa using h5
  have hT:Ga n.kind n.name n.num (B4 n.kids)=[[32,45]]++Pd true true (Bz n 0).kind (A2 (Bz n 0)):=by unfold Ga;rw[if_neg h1',if_neg h2',if_neg h3',if_neg h4',if_pos h5',Z6]
  rw[hT]at hw⊢;simp at hw;have e0:=ih (by omega) 0;refine Ae (τ':=[0,1]) [0] [0,1] (Jc [32,45] b s ws h (by omega)) ?_;refine Al q0 ?_;refine Ae (τ':=[0,1]) [0] [0,1] (Uc (Bz n 0) e0 true b s (ws++[[32,45]]) h (by simp;omega)) ?_;rw[←Fi];exact D6 func296 rfl rfl
 have h5':n.kind≠5:=by simpa using h5
 refine Ag (fun h6=>?_) (fun h6=>?_)
 ·have h6':n.kind=6:=by simpa using h6
  have hT:Ga n.kind n.name n.num (B4 n.kids)=A2 (Bz n 0)++[[43]]++Pd true false (Bz n 1).kind (A2 (Bz n 1)):=by
   unfold Ga;rw[if_neg h1',if_neg h2',if_neg h3',if_neg h4',if_neg h5',if_pos (by simp[h6']),F5,Z6];simp[h6']
  rw[hT]at hw⊢;simp at hw;have e0:=ih (by omega) 0;have e1:=ih (by omega) 1;refine Al q0 ?_;refine Ae (τ':=[0,1]) [0] [0,1] (e0 b s ws h (by omega)) ?_;refine Bm (Acm Ais) ?_;have hwk:IntKind.i64.wrap (n.kind-6)=0:=by rw[h6'];rfl
  refine Bm (W4 (n:=IntKind.i64.wrap (n.kind-6)) (x:=str [43]) rfl rfl rfl rfl rfl rfl rfl rfl rfl (by omega) (by omega) (by rw[hwk];rfl)) ?_;refine Ae (τ':=[0,1]) [0] [0,1] (Jc [43] b s (ws++A2 (Bz n 0)) h (by simp;omega)) ?_;refine Al q1 ?_;refine Ae (τ':=[0,1]) [0] [0,1] (Uc (Bz n 1) e1 false b s (ws++A2 (Bz n 0)++[[43]]) h (by simp;omega)) ?_;rw[←Fi,←Fi];exact D6 func296 rfl rfl
 have h6':n.kind≠6:=by simpa using h6
 refine Ag (fun h7=>?_) (fun h7=>?_)
 ·have h7':n.kind=7:=by simpa using h7
  have hT:Ga n.kind n.name n.num (B4 n.kids)=A2 (Bz n 0)++[[45]]++Pd true false (Bz n 1).kind (A2 (Bz n 1)):=by
   unfold Ga;rw[if_neg h1',if_neg h2',if_neg h3',if_neg h4',if_neg h5',if_pos (by simp[h7']),F5,Z6];simp[h7']
  rw[hT]at hw⊢;simp at hw;have e0:=ih (by omega) 0;have e1:=ih (by omega) 1;refine Al q0 ?_;refine Ae (τ':=[0,1]) [0] [0,1] (e0 b s ws h (by omega)) ?_;refine Bm (Acm Ais) ?_;have hwk:IntKind.i64.wrap (n.kind-6)=1:=by rw[h7'];rfl
  refine Bm (W4 (n:=IntKind.i64.wrap (n.kind-6)) (x:=str [45]) rfl rfl rfl rfl rfl rfl rfl rfl rfl (by omega) (by omega) (by rw[hwk];rfl)) ?_;refine Ae (τ':=[0,1]) [0] [0,1] (Jc [45] b s (ws++A2 (Bz n 0)) h (by simp;omega)) ?_;refine Al q1 ?_;refine Ae (τ':=[0,1]) [0] [0,1] (Uc (Bz n 1) e1 false b s (ws++A2 (Bz n 0)++[[45]]) h (by simp;omega)) ?_;rw[←Fi,←Fi];exact D6 func296 rfl rfl
 have h7':n.kind≠7:=by simpa using h7
 refine Ag (fun h8=>?_) (fun h8=>?_)
 ·have h8':n.kind=8:=by simpa using h8
  have hT:Ga n.kind n.name n.num (B4 n.kids)=Pd true false (Bz n 0).kind (A2 (Bz n 0))++[[42]]++Pd true true (Bz n 1).kind (A2 (Bz n 1)):=by
   unfold Ga;rw[if_neg h1',if_neg h2',if_neg h3',if_neg h4',if_neg h5',if_neg (by simp[h6',h7']),if_pos h8',Z6,Z6]
  rw[hT]at hw⊢;simp at hw;have e0:=ih (by omega) 0;have e1:=ih (by omega) 1;refine Al q0 ?_;refine Ae (τ':=[0,1]) [0] [0,1] (Uc (Bz n 0) e0 false b s ws h (by omega)) ?_;refine Ae (τ':=[0,1]) [0] [0,1] (Jc [42] b s (ws++Pd true false (Bz n 0).kind (A2 (Bz n 0))) h (by simp;omega)) ?_;refine Al q1 ?_;refine Ae (τ':=[0,1]) [0] [0,1] (Uc (Bz n 1) e1 true b s (ws++Pd true false (Bz n 0).kind (A2 (Bz n 0))++[[42]]) h (by simp;omega)) ?_;rw[←Fi,←Fi];exact D6 func296 rfl rfl
 have h8':n.kind≠8:=by simpa using h8
 have hlo:=Asq n.kind n.name n.num (B4 n.kids) ⟨h1',h2',h3',h4',h5',h6',h7',h8'⟩;refine Ag (fun h11=>?_) (fun h11=>?_)
 ·have hk:n.kind=11:=by simpa using h11
  have hT:Ga n.kind n.name n.num (B4 n.kids)=A2 (Bz n 0)++[[60]]++A2 (Bz n 1):=by
   rw[hlo,if_pos (by omega),F5,F5,hk];rfl
  rw[hT]at hw⊢;simp at hw;have e0:=ih (by omega) 0;have e1:=ih (by omega) 1;refine Al q0 ?_;refine Ae (τ':=[0,1]) [0] [0,1] (e0 b s ws h (by omega)) ?_;have hwk:IntKind.i64.wrap (n.kind-11)=0:=by rw[hk];rfl
  refine Bm (Mm (n:=IntKind.i64.wrap (n.kind-11)) (r:=str [60]::condG.drop 1) rfl rfl rfl rfl rfl rfl rfl rfl (by rw[hwk];omega) (by rw[hwk];omega) (by rw[hwk];decide) (by rw[hwk];rfl)) ?_;refine Ae (τ':=[0,1]) [0] [0,1] (Jc [60] b s (ws++A2 (Bz n 0)) h (by simp;omega)) ?_;refine Al q1 ?_;refine Ae (τ':=[0,1]) [0] [0,1] (e1 b s (ws++A2 (Bz n 0)++[[60]]) h (by simp;omega)) ?_;rw[←Fi,←Fi];exact D6 func296 rfl rfl
 have h11':n.kind≠11:=by simpa using h11
 refine Ag (fun h12=>?_) (fun h12=>?_)
 ·have hk:n.kind=12:=by simpa using h12
  have hT:Ga n.kind n.name n.num (B4 n.kids)=A2 (Bz n 0)++[[60,61]]++A2 (Bz n 1):=by
   rw[hlo,if_pos (by omega),F5,F5,hk];rfl
  rw[hT]at hw⊢;simp at hw;have e0:=ih (by omega) 0;have e1:=ih (by omega) 1;refine Al q0 ?_;refine Ae (τ':=[0,1]) [0] [0,1] (e0 b s ws h (by omega)) ?_;have hwk:IntKind.i64.wrap (n.kind-11)=1:=by rw[hk];rfl
  refine Bm (Mm (n:=IntKind.i64.wrap (n.kind-11)) (r:=str [60,61]::condG.drop 2) rfl rfl rfl rfl rfl rfl rfl rfl (by rw[hwk];omega) (by rw[hwk];omega) (by rw[hwk];decide) (by rw[hwk];rfl)) ?_;refine Ae (τ':=[0,1]) [0] [0,1] (Jc [60,61] b s (ws++A2 (Bz n 0)) h (by simp;omega)) ?_;refine Al q1 ?_;refine Ae (τ':=[0,1]) [0] [0,1] (e1 b s (ws++A2 (Bz n 0)++[[60,61]]) h (by simp;omega)) ?_;rw[←Fi,←Fi];exact D6 func296 rfl rfl
 have h12':n.kind≠12:=by simpa using h12
 refine Ag (fun h13=>?_) (fun h13=>?_)
 ·have hk:n.kind=13:=by simpa using h13
  have hT:Ga n.kind n.name n.num (B4 n.kids)=A2 (Bz n 0)++[[62]]++A2 (Bz n 1):=by
   rw[hlo,if_pos (by omega),F5,F5,hk];rfl
  rw[hT]at hw⊢;simp at hw;have e0:=ih (by omega) 0;have e1:=ih (by omega) 1;refine Al q0 ?_;refine Ae (τ':=[0,1]) [0] [0,1] (e0 b s ws h (by omega)) ?_;have hwk:IntKind.i64.wrap (n.kind-11)=2:=by rw[hk];rfl
  refine Bm (Mm (n:=IntKind.i64.wrap (n.kind-11)) (r:=str [62]::condG.drop 3) rfl rfl rfl rfl rfl rfl rfl rfl (by rw[hwk];omega) (by rw[hwk];omega) (by rw[hwk];decide) (by rw[hwk];rfl)) ?_;refine Ae (τ':=[0,1]) [0] [0,1] (Jc [62] b s (ws++A2 (Bz n 0)) h (by simp;omega)) ?_;refine Al q1 ?_;refine Ae (τ':=[0,1]) [0] [0,1] (e1 b s (ws++A2 (Bz n 0)++[[62]]) h (by simp;omega)) ?_;rw[←Fi,←Fi];exact D6 func296 rfl rfl
 have h13':n.kind≠13:=by simpa using h13
 refine Ag (fun h14=>?_) (fun h14=>?_)
 ·have hk:n.kind=14:=by simpa using h14
  have hT:Ga n.kind n.name n.num (B4 n.kids)=A2 (Bz n 0)++[[62,61]]++A2 (Bz n 1):=by
   rw[hlo,if_pos (by omega),F5,F5,hk];rfl
  rw[hT]at hw⊢;simp at hw;have e0:=ih (by omega) 0;have e1:=ih (by omega) 1;refine Al q0 ?_;refine Ae (τ':=[0,1]) [0] [0,1] (e0 b s ws h (by omega)) ?_;have hwk:IntKind.i64.wrap (n.kind-11)=3:=by rw[hk];rfl
  refine Bm (Mm (n:=IntKind.i64.wrap (n.kind-11)) (r:=str [62,61]::condG.drop 4) rfl rfl rfl rfl rfl rfl rfl rfl (by rw[hwk];omega) (by rw[hwk];omega) (by rw[hwk];decide) (by rw[hwk];rfl)) ?_;refine Ae (τ':=[0,1]) [0] [0,1] (Jc [62,61] b s (ws++A2 (Bz n 0)) h (by simp;omega)) ?_;refine Al q1 ?_;refine Ae (τ':=[0,1]) [0] [0,1] (e1 b s (ws++A2 (Bz n 0)++[[62,61]]) h (by simp;omega)) ?_;rw[←Fi,←Fi];exact D6 func296 rfl rfl
 have h14':n.kind≠14:=by simpa using h14
 refine Ag (fun h15=>?_) (fun h15=>?_)
 ·have hk:n.kind=15:=by simpa using h15
  have hT:Ga n.kind n.name n.num (B4 n.kids)=A2 (Bz n 0)++[[61,61]]++A2 (Bz n 1):=by
   rw[hlo,if_pos (by omega),F5,F5,hk];rfl
  rw[hT]at hw⊢;simp at hw;have e0:=ih (by omega) 0;have e1:=ih (by omega) 1;refine Al q0 ?_;refine Ae (τ':=[0,1]) [0] [0,1] (e0 b s ws h (by omega)) ?_;have hwk:IntKind.i64.wrap (n.kind-11)=4:=by rw[hk];rfl
  refine Bm (Mm (n:=IntKind.i64.wrap (n.kind-11)) (r:=str [61,61]::condG.drop 5) rfl rfl rfl rfl rfl rfl rfl rfl (by rw[hwk];omega) (by rw[hwk];omega) (by rw[hwk];decide) (by rw[hwk];rfl)) ?_;refine Ae (τ':=[0,1]) [0] [0,1] (Jc [61,61] b s (ws++A2 (Bz n 0)) h (by simp;omega)) ?_;refine Al q1 ?_;refine Ae (τ':=[0,1]) [0] [0,1] (e1 b s (ws++A2 (Bz n 0)++[[61,61]]) h (by simp;omega)) ?_;rw[←Fi,←Fi];exact D6 func296 rfl rfl
 have h15':n.kind≠15:=by simpa using h15
 refine Ag (fun h16=>?_) (fun h16=>?_)
 ·have hk:n.kind=16:=by simpa using h16
  have hT:Ga n.kind n.name n.num (B4 n.kids)=A2 (Bz n 0)++[[33,61]]++A2 (Bz n 1):=by
   rw[hlo,if_pos (by omega),F5,F5,hk];rfl
  rw[hT]at hw⊢;simp at hw;have e0:=ih (by omega) 0;have e1:=ih (by omega) 1;refine Al q0 ?_;refine Ae (τ':=[0,1]) [0] [0,1] (e0 b s ws h (by omega)) ?_;have hwk:IntKind.i64.wrap (n.kind-11)=5:=by rw[hk];rfl
  refine Bm (Mm (n:=IntKind.i64.wrap (n.kind-11)) (r:=str [33,61]::condG.drop 6) rfl rfl rfl rfl rfl rfl rfl rfl (by rw[hwk];omega) (by rw[hwk];omega) (by rw[hwk];decide) (by rw[hwk];rfl)) ?_;refine Ae (τ':=[0,1]) [0] [0,1] (Jc [33,61] b s (ws++A2 (Bz n 0)) h (by simp;omega)) ?_;refine Al q1 ?_;refine Ae (τ':=[0,1]) [0] [0,1] (e1 b s (ws++A2 (Bz n 0)++[[33,61]]) h (by simp;omega)) ?_;rw[←Fi,←Fi];exact D6 func296 rfl rfl
 have h16':n.kind≠16:=by simpa using h16
 have hT:Ga n.kind n.name n.num (B4 n.kids)=[]:=by rw[hlo,if_neg (by omega)]
 rw[hT,G4];exact D6 func296 rfl rfl
theorem A3d:HE Cg:=Ans Cg (.mk 0 [] 0 [] (by simp) (by omega) (by omega) (fun x hx=>by cases hx)) (by decide) fun h=>absurd rfl h
theorem Ahe(n:Nd)(hp:PrN n)(hsz:Ai n≤100000):HE n:=by
 induction n using Nd.ind with
 |h n ih=>
  refine Ans n hp hsz fun _ i=>?_;rcases Mq n i with h|h
  ·have hc:=Ex h;have:=Ck n;exact ih _ h (hp.kid i) (by omega)
  ·rw[h];exact A3d
def Sep:List UInt8→Prop
 |[]=>True
 |c::_=>(Eh c||digit c)=false
inductive Lex:List UInt8→List (List UInt8)→Prop where
 |nil:Lex [] []
 |blank (c:UInt8) (t:List UInt8) (ws:List (List UInt8)) (hc:c=32∨c=10) (h:Lex t ws):Lex (c::t) ws
 |wrd (w t:List UInt8) (ws:List (List UInt8)) (hk:Dd w≠0) (he:Li (w++t)=w.length) (h:Lex t ws):Lex (w++t) (w::ws)
theorem Vp:Dd []=0:=by decide
theorem Ac9{c:UInt8}{l:List UInt8}(h:Dd (c::l)≠0):c≠32∧c≠10∧c≠35:=by
 have key:∀d:UInt8,d=32∨d=10∨d=35→Dd (d::l)=0:=by
  intro d hd;have h1:has Ug (d::l)=false:=by rcases hd with rfl|rfl|rfl<;>simp[has,Ug]
  have h2:nameS (d::l)=false:=by
   have:Eh d=false:=by rcases hd with rfl|rfl|rfl<;>decide
   simp[nameS,this]
  have h3:¬Dn (d::l)≥0:=by
   have:digit d=false:=by rcases hd with rfl|rfl|rfl<;>decide
   have h48:(d==48)=false:=by rcases hd with rfl|rfl|rfl<;>decide
   simp only[Dn];split
   ·omega
   ·simp[h48,Qt,this]
  have h4:has J6 (d::l)=false:=by rcases hd with rfl|rfl|rfl<;>simp[has,J6]
  simp[Dd,h1,h2,h3,h4]
 refine⟨fun e=>h (key c (.inl e)),fun e=>h (key c (.inr (.inl e))),fun e=>h (key c (.inr (.inr e)))⟩
theorem Aq0{w t:List UInt8}(hk:Dd w≠0):Ce false (w++t)=0:=by
 cases w with
 |nil=>exact absurd Vp hk
 |cons c l=>
  obtain⟨h1,h2,h3⟩:=Ac9 hk;simp[Ce,h1,h2,h3]
theorem A1b{s:List UInt8}{ws:List (List UInt8)}(h:Lex s ws):∀(f a:Nat)(out:List Wd),(s.drop (Ce false s)).length<f→(Hg f a (s.drop (Ce false s)) out).2.1=0 →
 (Hg f a (s.drop (Ce false s)) out).1.map Wd.text=out.map Wd.text++ws:=by
 induction h with
 |nil=>
  intro f a out hf h0;cases f with
  |zero=>simp at hf
  |succ f=>simp[Ce,Hg]
 |blank c t ws hc h ih=>
  intro f a out hf h0;have e:(c::t).drop (Ce false (c::t))=t.drop (Ce false t):=by
   have:Ce false (c::t)=1+Ce false t:=by rcases hc with rfl|rfl<;>simp[Ce]
   rw[this,Nat.add_comm];rfl
  rw[e]at hf h0⊢;exact ih f a out hf h0
 |wrd w t ws hk he h ih=>
  intro f a out hf h0;rw[Aq0 hk,List.drop_zero]at hf h0⊢;cases f with
  |zero=>simp at hf
  |succ f=>
   cases w with
   |nil=>exact absurd Vp hk
   |cons c l=>
    have ht:((c::l)++t).take (Li ((c::l)++t))=c::l:=by rw[he];exact List.take_left
    have hd:((c::l)++t).drop (Li ((c::l)++t))=t:=by rw[he];exact List.drop_left
    have hd2:∀b,((c::l)++t).drop (Li ((c::l)++t)+b)=t.drop b:=fun b=>by rw[←Ad7,hd]
    rw[Pu]at ht hd hd2 hf h0⊢;simp only[Hg]at h0⊢;rw[ht,hd,hd2]at h0⊢;rw[if_neg (by simpa using hk)]at h0⊢;split at h0
    ·simp at h0
    ·rename_i hn;rw[if_neg hn];have:=ih f (a+Li (c::(l++t))+Ce false t) (out++[⟨Dd (c::l),c::l,a⟩]) (by simp at hf⊢;omega) h0;rw[this];simp
theorem Ap4{s:List UInt8}{ws:List (List UInt8)}(h:Lex s ws)(h0:(C4 s).2.1=0):(C4 s).1.map Wd.text=ws:=by
 unfold C4 at h0⊢;split at h0
 ·simp at h0
 ·rename_i h1;rw[if_neg h1];have:=A1b h (s.length+1) (Ce false s) [] (by simp;omega) h0;simpa using this
theorem Abh{t:List UInt8}(ht:Sep t):∀w:List UInt8,Q9 w=true→Gy (w++t)=w.length
 |[],_=>by
  cases t with
  |nil=>rfl
  |cons c t=>simp only[Sep]at ht;simp[Gy,ht]
 |c::l,h=>by
  simp only[Q9,Pv,Da]at h;simp only[Pu,Gy,h.1,if_true];rw[Abh ht l h.2];simp;omega
theorem Lex.al{w t:List UInt8}{ws:List (List UInt8)}(hw:Q9 w=true)(hk:Dd w≠0)(hs:Sep t)(h:Lex t ws):Lex (w++t) (w::ws):=by
 refine .wrd w t ws hk ?_ h;cases w with
 |nil=>exact absurd Vp hk
 |cons c l=>
  have hc:(Eh c||digit c)=true:=by simp only[Q9,Pv,Da]at hw;exact hw.1
  rw[←Abh hs (c::l) hw];simp only[Pu,Li,hc,if_true]
abbrev Xi:List UInt8:=[43,45,42,40,41,91,93,123,125,59,63]
theorem Hy{c:UInt8}{t:List UInt8}{ws:List (List UInt8)}(hc:c∈Xi)(h:Lex t ws):Lex (c::t) ([c]::ws):=by
 have h1:∀c:UInt8,c∈Xi→Dd [c]≠0∧(Eh c||digit c)=false:=by decide
 obtain⟨h2,h3⟩:=h1 c hc;refine .wrd [c] t ws h2 ?_ h;show Li (c::t)=1;cases t with
 |nil=>simp[Li,h3]
 |cons d l=>
  have:has J6 [c,d]=false:=by
   simp at hc;rcases hc with rfl|rfl|rfl|rfl|rfl|rfl|rfl|rfl|rfl|rfl|rfl<;>simp[has,J6]
  simp[Li,h3,this]
abbrev Oj:List (List UInt8):=[[60],[60,61],[62],[62,61],[61,61],[33,61],[61]]
theorem Aku{w t:List UInt8}{ws:List (List UInt8)}(hw:w∈Oj)(h:Lex t ws):Lex (w++32::t) (w::ws):=by
 have h1:∀w,w∈Oj→Dd w≠0:=by decide
 refine .wrd w (32::t) ws (h1 w hw) ?_ (.blank 32 t ws (.inl rfl) h);simp at hw;rcases hw with rfl|rfl|rfl|rfl|rfl|rfl|rfl<;>rfl
theorem Mt{s:List UInt8}(h:nameS s=true):Q9 s=true∧Dd s=1:=by
 cases s with
 |nil=>simp[nameS]at h
 |cons c l=>
  have h':=h;simp only[nameS,Da,J9,Mh]at h';refine⟨h'.2,?_⟩;simp[Dd,h'.1.2,h]
theorem Lex.name{s t:List UInt8}{ws:List (List UInt8)}(hn:nameS s=true)(hs:Sep t)(h:Lex t ws):Lex (s++t) (s::ws):=
 .al (Mt hn).1 (by rw[(Mt hn).2];decide) hs h
theorem Qi(n:Nat)(h:n≤1000000):Q9 (Mb n)=true∧Dd (Mb n)=2:=by
 have hd:=T7 n;have hp:=Agz n;have hN:=Pm n h;generalize Mb n=l at hd hp hN;cases l with
 |nil=>simp at hp
 |cons c l=>
  have hd':=hd;simp only[T6,Pv,Da,zzq50]at hd';have hdc:=K8 hd'.1;have hlc:Eh c=false:=by simp[Eh,Bl];omega
  refine⟨?_,?_⟩
  ·simp only[Q9,zzq50,O9];intro x hx
   right
   rcases zzq13.1 hx with rfl|hx
   ·exact hd'.1
   ·exact hd'.2 x hx
  ·have h1:has Ug (c::l)=false:=by
    simp only[has,List.any_eq_false];intro k hk he;have he:=zzq56.1 he;have:∀k,k∈Ug→∀d l',k=d::l'→97≤d.toNat:=by
     intro k hk d l' e;simp only[Ug,zzq13,Wv,or_false]at hk;rcases hk with rfl|rfl|rfl|rfl|rfl|rfl|rfl|rfl|rfl|rfl|rfl|rfl|rfl<;>(injection e with e1 e2;subst e1;decide)
    have:=this k hk c l he;omega
   have h2:nameS (c::l)=false:=by simp[nameS,hlc]
   simp[Dd,h1,h2,hN]
theorem Lex.num{n:Nat}{t:List UInt8}{ws:List (List UInt8)}(hn:n≤1000000)(hs:Sep t)(h:Lex t ws):Lex (Mb n++t) (Mb n::ws):=
 .al (Qi n hn).1 (by rw[(Qi n hn).2];decide) hs h
theorem Lex.key{s t:List UInt8}{ws:List (List UInt8)}(hn:s∈Ug)(hs:Sep t)(h:Lex t ws):Lex (s++t) (s::ws):=by
 have:∀s,s∈Ug→Q9 s=true∧Dd s≠0:=by decide
 exact .al (this s hn).1 (this s hn).2 hs h
theorem Lex.sp{t:List UInt8}{ws:List (List UInt8)}(h:Lex t ws):Lex (32::t) ws:=.blank 32 t ws (.inl rfl) h
theorem Tv{t:List UInt8}{ws:List (List UInt8)}(h:Lex t ws):Lex (10::t) ws:=.blank 10 t ws (.inr rfl) h
def Jm(l:Int)(k:Int)(w:List (List UInt8)):List (List UInt8):=if L5 k<l then[[40]]++w++[[41]]else w
def Dr:Nd→List (List UInt8)
 |.mk k s m []=>if k=1 then[Mb m.toNat]else if k=4 then[[108,101,110],[40],s,[41]]else[s]
 |.mk k s _ [a]=>if k=3 then[s,[91]]++Dr a++[[93]]else[[45]]++Jm 3 a.kind (Dr a)
 |.mk k _ _ (a::b::_)=>
  if k=6 then Jm 1 a.kind (Dr a)++[[43]]++Jm 2 b.kind (Dr b)
  else if k=7 then Jm 1 a.kind (Dr a)++[[45]]++Jm 2 b.kind (Dr b)
  else if k=8 then Jm 2 a.kind (Dr a)++[[42]]++Jm 3 b.kind (Dr b)
  else Dr a++[Ut k]++Dr b
def LexP(t:List UInt8)(ws:List (List UInt8)):Prop:=∀(u:List UInt8)(vs:List (List UInt8)),Sep u→Lex u vs→Lex (t++u) (ws++vs)
theorem LexP.par{l k:Int}{t:List UInt8}{ws:List (List UInt8)}(h:LexP t ws):LexP (Mc l k t) (Jm l k ws):=by
 unfold Mc Jm;split
 ·intro u vs hs hu;have:=h (41::u) ([41]::vs) (by simp only[Sep];decide) (Hy (by simp) hu);have:=Hy (c:=40) (by simp) this;simpa using this
 ·exact h
theorem Mg(t:List UInt8):Sep (32::t):=by simp only[Sep];decide
theorem Alt{n:Nd}(h:FE n):LexP (Bu n) (Dr n):=by
 induction h with
 |num m h0 h1=>intro u vs hs hu;simp only[Bu,Dr,if_true];exact Lex.num (by omega) hs hu
 |var s h=>intro u vs hs hu;simp only[Bu,Dr,if_true];exact Lex.name h hs hu
 |cell s a h ha ih=>
  intro u vs hs hu;have h1:=ih (93::u) ([93]::vs) (by simp only[Sep];decide) (Hy (by simp) hu);have h2:=Lex.name h (by simp only[Sep];decide) (Hy (c:=91) (by simp) h1);simpa[Bu,Dr]using h2
 |len s h=>
  intro u vs hs hu;have h1:=Lex.name h (by simp only[Sep];decide) (Hy (c:=41) (by simp) hu);have h2:=Lex.key (s:=[108,101,110]) (by decide) (by simp only[Sep];decide) (Hy (c:=40) (by simp) h1);simpa[Bu,Dr]using h2
 |neg a ha ih=>
  intro u vs hs hu;have h1:=Hy (c:=45) (by simp) ((ih.par (l:=3) (k:=a.kind)) u vs hs hu);simpa[Bu,Dr]using h1
 |two k a b hk ha hb iha ihb=>
  have go:∀(l l':Int) (c:UInt8),c∈Xi→LexP (Mc l a.kind (Bu a)++[32,c,32]++Mc l' b.kind (Bu b)) (Jm l a.kind (Dr a)++[[c]]++Jm l' b.kind (Dr b)):=by
   intro l l' c hc u vs hs hu;have h1:=(ihb.par (l:=l') (k:=b.kind)) u vs hs hu;have h2:=(iha.par (l:=l) (k:=a.kind)) _ _ (Mg _) (Lex.sp (Hy hc (Lex.sp h1)));simpa using h2
  rcases hk with rfl|rfl|rfl
  ·simpa[Bu,Dr]using go 1 2 43 (by simp)
  ·simpa[Bu,Dr]using go 1 2 45 (by simp)
  ·simpa[Bu,Dr]using go 2 3 42 (by simp)
theorem Aap(k:Int):Ut k∈Oj:=by
 unfold Ut;repeat' split
 all_goals simp
theorem A1a{n:Nd}(h:FC n):LexP (Bu n) (Dr n):=by
 cases h with
 |mk k a b h0 h1 ha hb=>
  intro u vs hs hu;have i1:=Alt hb u vs hs hu;have i2:=Alt ha _ _ (Mg _) (Lex.sp (Aku (Aap k) i1));have ne:¬k=6∧¬k=7∧¬k=8:=by omega
  simpa[Bu,Dr,ne.1,ne.2.1,ne.2.2]using i2
mutual
def Ih:Nd→List (List UInt8)
 |.mk k s m []=>
  if k=31 then[Nk,s,[59]]
  else if k=32 then[Ff,s,[91],if 0≤m then Mb m.toNat else[63],[93],[59]]
  else if k=23 then[Is,s,[59]]
  else if k=28 then[Ix,[59]]
  else[I4,[59]]
 |.mk k s _ [a]=>if k=21 then[s,[61]]++Dr a++[[59]]else[F7]++Dr a++[[59]]
 |.mk k s _ [a,.mk k' s' m' l]=>
  if k=22 then[s,[91]]++Dr a++[[93],[61]]++Dr (.mk k' s' m' l)++[[59]]
  else[Gp]++Dr a++[[123]]++I5 l++[[125]]
 |.mk k s _ (a::.mk k' s' m' l'::.mk _ _ _ l::_)=>
  if k=26 then[L8,s,Jl]++Dr a++[wTo]++Dr (.mk k' s' m' l')++[[123]]++I5 l++[[125]]
  else[V3]++Dr a++[[123]]++I5 l'++[[125]] ++
   (match l with
     |[]=>[]
     |_=>[Ir,[123]]++I5 l++[[125]])
def I5:List Nd→List (List UInt8)
 |[]=>[]
 |x::l=>Ih x++I5 l
end
theorem Lex.pad{t:List UInt8}{ws:List (List UInt8)}(h:Lex t ws):∀p:List UInt8,(∀c,c∈p→c=32)→Lex (p++t) ws
 |[],_=>h
 |c::p,hp=>by
  have:=hp c (by simp);subst this;exact .sp (Lex.pad h p fun c hc=>hp c (by simp[hc]))
def Avv(t:List UInt8)(ws:List (List UInt8)):Prop:=∀(u:List UInt8)(vs:List (List UInt8)),Lex u vs→Lex (t++u) (ws++vs)
theorem Oc{l:List Nd}{p:List UInt8}(h:∀x,x∈l→Avv (Cq x p) (Ih x)):Avv (Ij l p) (I5 l):=by
 induction l with
 |nil=>intro u vs hu;simpa[Ij,I5]using hu
 |cons x l ih=>
  intro u vs hu;have h1:=ih (fun y hy=>h y (by simp[hy])) u vs hu;have h2:=h x (by simp) _ _ h1;simpa[Ij,I5]using h2
theorem Adw(c:UInt8)(t:List UInt8)(h:(Eh c||digit c)=false:=by decide):Sep (c::t):=h
def padOk(p:List UInt8):Prop:=∀c,c∈p→c=32
theorem padOk.more{p:List UInt8}(h:padOk p):padOk (p++[32,32]):=by
 intro c hc;rcases zzq47.1 hc with hc|hc
 ·exact h c hc
 ·simp at hc;exact hc
theorem M6{u:List UInt8}{vs:List (List UInt8)}(h:Lex u vs):Lex (59::10::u) ([59]::vs):=Hy (by simp) (Tv h)
theorem A4m{x:Nd}(h:FV x)(p:List UInt8)(hp:padOk p):Avv (Cq x p) (Ih x):=by
 cases h with
 |var s h=>
  intro u vs hu;have h1:=Lex.name h (Adw _ _) (M6 hu);have h2:=(Lex.key (s:=Nk) (by decide) (Mg _) (Lex.sp h1)).pad p hp;simpa[Cq,Ih]using h2
 |arr s m h h0 h1=>
  intro u vs hu;have key:∀(t w:List UInt8),(∀u vs,Sep u→Lex u vs→Lex (t++u) (w::vs))→Lex (p++Ff++32::(s++91::(t++93::59::10::u))) (Ff::s::[91]::w::[93]::[59]::vs):=by
   intro t w ht;have h1:=ht _ _ (Adw _ _) (Hy (c:=93) (by simp) (M6 hu));have h2:=Lex.name h (Adw _ _) (Hy (c:=91) (by simp) h1);have h3:=(Lex.key (s:=Ff) (by decide) (Mg _) (Lex.sp h2)).pad p hp;simpa using h3
  by_cases g:0≤m
  ·have:=key (Mb m.toNat) (Mb m.toNat) (fun u vs hs hu=>Lex.num (by omega) hs hu);simpa[Cq,Ih,g]using this
  ·have:=key [63] [63] (fun u vs hs hu=>Hy (by simp) hu);simpa[Cq,Ih,g]using this
theorem A4l{x:Nd}(h:FS x):∀p:List UInt8,padOk p→Avv (Cq x p) (Ih x):=by
 induction h with
 |set s a h ha=>
  intro p hp u vs hu;have h1:=Alt ha _ _ (Adw _ _) (M6 hu);have h2:=(Lex.name h (Mg _) (Lex.sp (Aku (w:=[61]) (by simp) h1))).pad p hp;simpa[Cq,Ih]using h2
 |put s a b h ha hb=>
  intro p hp u vs hu;have h1:=Alt hb _ _ (Adw _ _) (M6 hu);have h2:=Alt ha _ _ (Adw _ _) (Hy (c:=93) (by simp) (Lex.sp (Aku (w:=[61]) (by simp) h1)));have h3:=(Lex.name h (Adw _ _) (Hy (c:=91) (by simp) h2)).pad p hp;obtain⟨k',s',m',l'⟩:=b;simpa[Cq,Ih]using h3
 |read s h=>
  intro p hp u vs hu;have h1:=Lex.name h (Adw _ _) (M6 hu);have h2:=(Lex.key (s:=Is) (by decide) (Mg _) (Lex.sp h1)).pad p hp;simpa[Cq,Ih]using h2
 |ifs c l l' hc hl hl' ihl ihl'=>
  intro p hp u vs hu;have fin:Lex (125::10::u) ([125]::vs):=Hy (by simp) (Tv hu);have go:∀(t:List UInt8) (w:List (List UInt8)),Lex t w→Lex (p++V3++32::(Bu c++32::123::10::(Ij l (p++[32,32])++(p++t)))) (V3::(Dr c++[123]::(I5 l++w))):=by
   intro t w ht;have h1:=Oc (fun x hx=>ihl x hx (p++[32,32]) hp.more) _ _ (ht.pad p hp);have h2:=A1a hc _ _ (Mg _) (Lex.sp (Hy (c:=123) (by simp) (Tv h1)));have h3:=(Lex.key (s:=V3) (by decide) (Mg _) (Lex.sp h2)).pad p hp;simpa using h3
  cases l' with
  |nil=>simpa[Cq,Ih]using go _ _ fin
  |cons y l'=>
   have h1:=Oc (fun x hx=>ihl' x hx (p++[32,32]) hp.more) _ _ (fin.pad p hp);have h2:=Hy (c:=125) (by simp) (Lex.sp (Lex.key (s:=Ir) (by decide) (Mg _) (Lex.sp (Hy (c:=123) (by simp) (Tv h1)))));simpa[Cq,Ih]using go _ _ h2
 |whil c l hc hl ihl=>
  intro p hp u vs hu;have fin:Lex (125::10::u) ([125]::vs):=Hy (by simp) (Tv hu);have h1:=Oc (fun x hx=>ihl x hx (p++[32,32]) hp.more) _ _ (fin.pad p hp);have h2:=A1a hc _ _ (Mg _) (Lex.sp (Hy (c:=123) (by simp) (Tv h1)));have h3:=(Lex.key (s:=Gp) (by decide) (Mg _) (Lex.sp h2)).pad p hp;simpa[Cq,Ih]using h3
 |for_ s a b l h ha hb hl ihl=>
  intro p hp u vs hu;have fin:Lex (125::10::u) ([125]::vs):=Hy (by simp) (Tv hu);have h1:=Oc (fun x hx=>ihl x hx (p++[32,32]) hp.more) _ _ (fin.pad p hp);have h2:=Alt hb _ _ (Mg _) (Lex.sp (Hy (c:=123) (by simp) (Tv h1)));have h3:=Alt ha _ _ (Mg _) (Lex.sp (Lex.key (s:=wTo) (by decide) (Mg _) (Lex.sp h2)));have h4:=Lex.name h (Mg _) (Lex.sp (Lex.key (s:=Jl) (by decide) (Mg _) (Lex.sp h3)));have h5:=(Lex.key (s:=L8) (by decide) (Mg _) (Lex.sp h4)).pad p hp;obtain⟨k',s',m',l'⟩:=b;simpa[Cq,Ih]using h5
 |check c hc=>
  intro p hp u vs hu;have h1:=A1a hc _ _ (Adw _ _) (M6 hu);have h2:=(Lex.key (s:=F7) (by decide) (Mg _) (Lex.sp h1)).pad p hp;simpa[Cq,Ih]using h2
 |skip=>
  intro p hp u vs hu;have h2:=(Lex.key (s:=Ix) (by decide) (Adw _ _) (M6 hu)).pad p hp;simpa[Cq,Ih]using h2
 |stop=>
  intro p hp u vs hu;have h2:=(Lex.key (s:=I4) (by decide) (Adw _ _) (M6 hu)).pad p hp;simpa[Cq,Ih]using h2
theorem A4k{ds l:List Nd}(hd:∀x,x∈ds→FV x)(hl:∀x,x∈l→FS x):Lex (Ij ds []++Ij l []) (I5 ds++I5 l):=by
 have h1:=Oc (p:=[]) (fun x hx=>A4l (hl x hx) [] (fun c hc=>by cases hc)) [] [] .nil;have h2:=Oc (p:=[]) (fun x hx=>A4m (hd x hx) [] (fun c hc=>by cases hc)) _ _ h1;simpa using h2
structure At (r:RS)(xs:List (List UInt8)):Prop where
 good:r.bad=false
 wk:r.wk
 ws:(r.ws.drop r.at_).map Wd.text=xs
def Ll(xs:List (List UInt8)):List UInt8:=xs.headD []
section
variable {r:RS}{x:List UInt8}{xs:List (List UInt8)}
theorem At.get(h:At r (x::xs)):∃w,r.ws[r.at_]?=some w∧w.text=x∧w.kind=Dd x:=by
 have h1:=congrArg (fun l:List (List UInt8)=>l[0]?) h.ws;simp at h1;obtain⟨w,hw,rfl⟩:=h1;exact⟨w,hw,rfl,h.wk w (Bh hw)⟩
theorem At.kind(h:At r (x::xs)):r.kind=Dd x:=by
 obtain⟨w,hw,_,hk⟩:=h.get;simp[RS.kind,hw,hk]
theorem At.lt(h:At r (x::xs)):r.at_<r.ws.length:=by
 obtain⟨w,hw,_⟩:=h.get;exact Aa hw
theorem At.ge(h:At r []):r.ws.length≤r.at_:=by
 have:=congrArg List.length h.ws;simp at this;omega
theorem At.text(h:At r xs):r.text=Ll xs:=by
 cases xs with
 |nil=>simp[RS.text,U3 h.ge,Ll]
 |cons x xs=>
  obtain⟨w,hw,ht,_⟩:=h.get;simp[RS.text,hw,ht,Ll]
theorem At.step(h:At r (x::xs)):At r.step xs:=by
 refine⟨h.good,h.wk,?_⟩;have:=congrArg List.tail h.ws;simp only[List.tail_cons]at this;rw[←this];simp[RS.step]
theorem At.takes(h:At r xs)(s:List UInt8):r.takes s=(Ll xs==s):=by simp[RS.takes,h.good,h.text]
theorem At.no(h:At r xs){s:List UInt8}(hs:Ll xs≠s):r.takes s=false:=by rw[h.takes];simpa using hs
theorem At.yes(h:At r (x::xs)):r.takes x=true:=by rw[h.takes];simp[Ll]
theorem At.need(h:At r (x::xs)):r.need x=r.step:=by simp[RS.need,h.yes]
theorem At.named(h:At r (x::xs))(hn:nameS x=true):r.named=true∧r.name=x∧r.nameR=r.step:=by
 have hk:r.kind=1:=by rw[h.kind,(Mt hn).2]
 have:r.named=true:=by simp[RS.named,h.good,hk]
 refine⟨this,?_,?_⟩
 ·simp[RS.name,this,h.text,Ll]
 ·simp[RS.nameR,this]
end
theorem kne{a b:List UInt8}(h:Dd a≠Dd b):a≠b:=fun e=>h (by rw[e])
theorem Ia{s:List UInt8}(h:nameS s=true)(b:List UInt8)(hb:Dd b≠1:=by decide):s≠b:=kne (by rw[(Mt h).2];exact fun e=>hb e.symm)
theorem A1g{m:Nat}(h:m≤1000000)(b:List UInt8)(hb:Dd b≠2:=by decide):Mb m≠b:=kne (by rw[(Qi m h).2];exact fun e=>hb e.symm)
def Q1(ws:List (List UInt8))(n:Nd)(B:Nat):Prop:=∀(f:Nat)(r:RS)(xs:List (List UInt8)),B≤f→At r (ws++xs)→Ll xs≠[91]→∃r',Fc f r=(n,r')∧At r' xs
def Q2(ws:List (List UInt8))(n:Nd)(B:Nat):Prop:=∀(f:Nat)(r:RS)(xs:List (List UInt8)),B≤f→At r (ws++xs)→Ll xs≠[91]→∃r' g,f≤g+Ai n∧Ed f r=Hv g n r'∧At r' xs
def Q3(ws:List (List UInt8))(n:Nd)(B:Nat):Prop:=∀(f:Nat)(r:RS)(xs:List (List UInt8)),B≤f→At r (ws++xs)→Ll xs≠[91]→Ll xs≠[42]→∃r' g,f≤g+Ai n∧Ev f r=G5 g n r'∧At r' xs
theorem Zv(n:Nd):1≤Ai n:=by rw[Ck];omega
theorem Q1.mono{ws:List (List UInt8)}{n:Nd}{B B':Nat}(h:Q1 ws n B)(hb:B≤B'):Q1 ws n B':=fun f r xs hf=>h f r xs (by omega)
theorem Q2.mono{ws:List (List UInt8)}{n:Nd}{B B':Nat}(h:Q2 ws n B)(hb:B≤B'):Q2 ws n B':=fun f r xs hf=>h f r xs (by omega)
theorem Q3.mono{ws:List (List UInt8)}{n:Nd}{B B':Nat}(h:Q3 ws n B)(hb:B≤B'):Q3 ws n B':=fun f r xs hf=>h f r xs (by omega)
theorem Af3{g:Nat}{n:Nd}{r:RS}{xs:List (List UInt8)}(h:At r xs)(hs:Ll xs≠[42]):Hv g n r=(n,r):=by
 cases g with
 |zero=>simp[Hv]
 |succ g=>simp[Hv,h.no hs]
theorem Zz{g:Nat}{n:Nd}{r:RS}{xs:List (List UInt8)}(h:At r xs)(hs:Ll xs≠[43])(hs':Ll xs≠[45]):G5 g n r=(n,r):=by
 cases g with
 |zero=>simp[G5]
 |succ g=>simp[G5,h.no hs,h.no hs']
theorem A2d{ws:List (List UInt8)}{n:Nd}{B:Nat}(h:Q1 ws n B):Q2 ws n (B+1):=by
 intro f r xs hf ha hs;obtain⟨g,rfl⟩:∃g,f=g+1:=⟨f-1,by omega⟩
 obtain⟨r',h1,h2⟩:=h g r xs (by omega) ha hs;refine⟨r',g,by have:=Zv n;omega,?_,h2⟩;simp[Ed,h1]
theorem A2e{ws:List (List UInt8)}{n:Nd}{B:Nat}(h:Q2 ws n B):Q3 ws n (B+1):=by
 intro f r xs hf ha hs hs';obtain⟨g,rfl⟩:∃g,f=g+1:=⟨f-1,by omega⟩
 obtain⟨r',g',h1,h2,h3⟩:=h g r xs (by omega) ha hs;refine⟨r',g,by have:=Zv n;omega,?_,h3⟩;rw[Af3 h3 hs']at h2;simp[Ev,h2]
theorem A2f{ws:List (List UInt8)}{n:Nd}{B:Nat}(h:Q3 ws n B):Q1 ([[40]]++ws++[[41]]) n (B+1):=by
 intro f r xs hf ha hs;obtain⟨g,rfl⟩:∃g,f=g+1:=⟨f-1,by omega⟩
 have ha':At r ([40]::(ws++[41]::xs)):=by simpa using ha
 obtain⟨r',g',h1,h2,h3⟩:=h g r.step ([41]::xs) (by omega) ha'.step (by simp[Ll]) (by simp[Ll]);rw[Zz h3 (by simp[Ll]) (by simp[Ll])]at h2;refine⟨r'.step,?_,h3.step⟩;have hk:¬(r.kind==2)=true:=by rw[ha'.kind];decide
 have h45:r.takes [45]=false:=ha'.no (by simp[Ll]);rw[Fc,if_neg (by simp[ha'.good]),if_neg (by simp[h45]),if_neg hk,if_pos ha'.yes,h2];simp[h3.need]
theorem Atl{m:Int}(h0:0≤m)(h1:m≤1000000):Q1 [Mb m.toNat] (.mk 1 [] m []) 1:=by
 intro f r xs hf ha hs;obtain⟨g,rfl⟩:∃g,f=g+1:=⟨f-1,by omega⟩
 have ha':At r (Mb m.toNat::xs):=ha;have hm:m.toNat≤1000000:=by omega
 refine⟨r.step,?_,ha'.step⟩;have hk:(r.kind==2)=true:=by rw[ha'.kind,(Qi _ hm).2];rfl
 have h45:r.takes [45]=false:=ha'.no (A1g hm [45]);rw[Fc,if_neg (by simp[ha'.good]),if_neg (by simp[h45]),if_pos hk,ha'.text];simp only[Ll,List.headD_cons];rw[Pm _ hm];congr 2;omega
theorem Afk{f:Nat}{r:RS}{s:List UInt8}{xs:List (List UInt8)}(hn:nameS s=true)(ha:At r (s::xs)) :
 Fc (f+1) r=if r.step.takes [91]then(.mk 3 s 0 [(Ev f r.step.step).1],(Ev f r.step.step).2.need [93])else(.mk 2 s 0 [],r.step):=by
 obtain⟨_,h2,h3⟩:=ha.named hn;have hk:¬(r.kind==2)=true:=by rw[ha.kind,(Mt hn).2];decide
 have h45:r.takes [45]=false:=ha.no (Ia hn [45]);have h40:r.takes [40]=false:=ha.no (Ia hn [40]);have hl:r.takes [108,101,110]=false:=ha.no (Ia hn _);rw[Fc,if_neg (by simp[ha.good]),if_neg (by simp[h45]),if_neg hk,if_neg (by simp[h40]),if_neg (by simp[hl]),h2,h3]
theorem A10{n:Nd}(h:FE n):Q1 (Jm 3 n.kind (Dr n)) n (3*Ai n)∧Q2 (Jm 2 n.kind (Dr n)) n (3*Ai n)∧Q3 (Dr n) n (3*Ai n):=by
 have t3:∀{n:Nd} {B:Nat},L5 n.kind=3→B+2≤3*Ai n→Q1 (Dr n) n B→Q1 (Jm 3 n.kind (Dr n)) n (3*Ai n)∧Q2 (Jm 2 n.kind (Dr n)) n (3*Ai n)∧Q3 (Dr n) n (3*Ai n):=by
  intro n B ht hB hq;have e3:Jm 3 n.kind (Dr n)=Dr n:=by unfold Jm;rw[ht,if_neg (by omega)]
  have e2:Jm 2 n.kind (Dr n)=Dr n:=by unfold Jm;rw[ht,if_neg (by omega)]
  rw[e3,e2];exact⟨hq.mono (by omega),(A2d hq).mono (by omega),(A2e (A2d hq)).mono (by omega)⟩
 induction h with
 |num m h0 h1=>
  refine t3 (B:=1) rfl (by simp[Ai,A3]) ?_;simpa[Dr]using Atl h0 h1
 |var s h=>
  refine t3 (B:=1) rfl (by simp[Ai,A3]) ?_;intro f r xs hf ha hs;obtain⟨g,rfl⟩:∃g,f=g+1:=⟨f-1,by omega⟩
  have ha':At r (s::xs):=by simpa[Dr]using ha
  refine⟨r.step,?_,ha'.step⟩;rw[Afk h ha',if_neg (by simp[ha'.step.no hs])]
 |cell s a h ha ih=>
  refine t3 (B:=3*Ai a+1) rfl (by simp[Ai,A3];omega) ?_;intro f r xs hf ha hs;obtain⟨g,rfl⟩:∃g,f=g+1:=⟨f-1,by omega⟩
  have ha':At r (s::[91]::(Dr a++[93]::xs)):=by simpa[Dr]using ha
  obtain⟨r',g',h1,h2,h3⟩:=ih.2.2 g r.step.step ([93]::xs) (by omega) ha'.step.step (by simp[Ll]) (by simp[Ll]);rw[Zz h3 (by simp[Ll]) (by simp[Ll])]at h2;refine⟨r'.step,?_,h3.step⟩;rw[Afk h ha',if_pos ha'.step.yes,h2];simp[h3.need]
 |len s h=>
  refine t3 (B:=1) rfl (by simp[Ai,A3]) ?_;intro f r xs hf ha hs;obtain⟨g,rfl⟩:∃g,f=g+1:=⟨f-1,by omega⟩
  have ha':At r ([108,101,110]::[40]::s::[41]::xs):=by simpa[Dr]using ha
  obtain⟨_,e2,e3⟩:=ha'.step.step.named h;refine⟨r.step.step.step.step,?_,ha'.step.step.step.step⟩;have hk:¬(r.kind==2)=true:=by rw[ha'.kind];decide
  have h45:r.takes [45]=false:=ha'.no (by simp[Ll]);have h40:r.takes [40]=false:=ha'.no (by simp[Ll]);rw[Fc,if_neg (by simp[ha'.good]),if_neg (by simp[h45]),if_neg hk,if_neg (by simp[h40]),if_pos ha'.yes,ha'.step.need,e2,e3,ha'.step.step.step.need]
 |neg a ha ih=>
  refine t3 (B:=3*Ai a+1) rfl (by simp[Ai,A3];omega) ?_;intro f r xs hf ha hs;obtain⟨g,rfl⟩:∃g,f=g+1:=⟨f-1,by omega⟩
  have ha':At r ([45]::(Jm 3 a.kind (Dr a)++xs)):=by simpa[Dr]using ha
  obtain⟨r',h1,h2⟩:=ih.1 g r.step xs (by omega) ha'.step hs;refine⟨r',?_,h2⟩;rw[Fc,if_neg (by simp[ha'.good]),if_pos ha'.yes,h1]
 |two k a b hk ha hb iha ihb=>
  have hc:Ai (Nd.mk k [] 0 [a,b])=1+(Ai a+Ai b):=by simp[Ai,A3]
  have sum:∀(kk:Int) (c:UInt8),(kk=6∧c=43)∨(kk=7∧c=45)→Q3 (Dr a++[[c]]++Jm 2 b.kind (Dr b)) (.mk kk [] 0 [a,b]) (3*Ai (Nd.mk k [] 0 [a,b])-2):=by
   intro kk c hkc f r xs hf ht hs hs';have hck:Ai (Nd.mk kk [] 0 [a,b])=1+(Ai a+Ai b):=by simp[Ai,A3]
   have ha':At r (Dr a++([c]::(Jm 2 b.kind (Dr b)++xs))):=by simpa using ht
   have c1:Ll ([c]::(Jm 2 b.kind (Dr b)++xs))≠[91]:=by rcases hkc with⟨_,rfl⟩|⟨_,rfl⟩<;>simp[Ll]
   have c2:Ll ([c]::(Jm 2 b.kind (Dr b)++xs))≠[42]:=by rcases hkc with⟨_,rfl⟩|⟨_,rfl⟩<;>simp[Ll]
   obtain⟨r1,g1,h1,h2,h3⟩:=iha.2.2 f r _ (by omega) ha' c1 c2;obtain⟨g,rfl⟩:∃g,g1=g+1:=⟨g1-1,by omega⟩
   obtain⟨r2,g2,j1,j2,j3⟩:=ihb.2.1 g r1.step xs (by omega) h3.step hs;rw[Af3 j3 hs']at j2;refine⟨r2,g,by omega,?_,j3⟩;rw[h2];rcases hkc with⟨rfl,rfl⟩|⟨rfl,rfl⟩
   ·rw[G5,if_pos h3.yes,j2]
   ·rw[G5,if_neg (by simp[h3.no (s:=[43]) (by simp[Ll])]),if_pos h3.yes,j2]
  have t1:∀{n:Nd} {B:Nat},L5 n.kind=1→B+2≤3*Ai n→Q3 (Dr n) n B→Q1 (Jm 3 n.kind (Dr n)) n (3*Ai n)∧Q2 (Jm 2 n.kind (Dr n)) n (3*Ai n)∧Q3 (Dr n) n (3*Ai n):=by
   intro n B ht hB hq;have e3:Jm 3 n.kind (Dr n)=[[40]]++Dr n++[[41]]:=by unfold Jm;rw[ht,if_pos (by omega)]
   have e2:Jm 2 n.kind (Dr n)=[[40]]++Dr n++[[41]]:=by unfold Jm;rw[ht,if_pos (by omega)]
   rw[e3,e2];exact⟨(A2f hq).mono (by omega),(A2d (A2f hq)).mono (by omega),hq.mono (by omega)⟩
  have p1:Jm 1 a.kind (Dr a)=Dr a:=by
   unfold Jm L5;rw[if_neg];split<;>(try split)<;>omega
  rcases hk with rfl|rfl|rfl
  ·refine t1 (B:=3*Ai (Nd.mk 6 [] 0 [a,b])-2) rfl (by omega) ?_;have:=sum 6 43 (.inl ⟨rfl,rfl⟩);simpa[Dr,p1]using this
  ·refine t1 (B:=3*Ai (Nd.mk 7 [] 0 [a,b])-2) rfl (by omega) ?_;have:=sum 7 45 (.inr ⟨rfl,rfl⟩);simpa[Dr,p1]using this
  ·have hq:Q2 (Dr (Nd.mk 8 [] 0 [a,b])) (Nd.mk 8 [] 0 [a,b]) (3*Ai (Nd.mk 8 [] 0 [a,b])-2):=by
    intro f r xs hf ht hs;have ha':At r (Jm 2 a.kind (Dr a)++([42]::(Jm 3 b.kind (Dr b)++xs))):=by simpa[Dr]using ht
    obtain⟨r1,g1,h1,h2,h3⟩:=iha.2.1 f r _ (by omega) ha' (by simp[Ll]);obtain⟨g,rfl⟩:∃g,g1=g+1:=⟨g1-1,by omega⟩
    obtain⟨r2,j2,j3⟩:=ihb.1 g r1.step xs (by omega) h3.step hs;refine⟨r2,g,by omega,?_,j3⟩;rw[h2,Hv,if_pos h3.yes,j2]
   have e3:Jm 3 (Nd.mk 8 [] 0 [a,b]).kind (Dr (Nd.mk 8 [] 0 [a,b]))=[[40]]++Dr (Nd.mk 8 [] 0 [a,b])++[[41]]:=by exact if_pos (show L5 8<3 by decide)
   have e2:Jm 2 (Nd.mk 8 [] 0 [a,b]).kind (Dr (Nd.mk 8 [] 0 [a,b]))=Dr (Nd.mk 8 [] 0 [a,b]):=by exact if_neg (show ¬L5 8<2 by decide)
   rw[e3,e2];exact⟨(A2f (A2e hq)).mono (by omega),hq.mono (by omega),(A2e hq).mono (by omega)⟩
def Stop(xs:List (List UInt8)):Prop:=Ll xs≠[91]∧Ll xs≠[42]∧Ll xs≠[43]∧Ll xs≠[45]
theorem Jp{n:Nd}(h:FE n)(hc:Ai n≤500){r:RS}{xs:List (List UInt8)}(ha:At r (Dr n++xs))(hs:Stop xs):∃r',B9 r=(n,r')∧At r' xs:=by
 obtain⟨r',g,h1,h2,h3⟩:=(A10 h).2.2 6010 r xs (by omega) ha hs.1 hs.2.1;rw[Zz h3 hs.2.2.1 hs.2.2.2]at h2;exact⟨r',h2,h3⟩
theorem Aqv{k:Int}(h0:11≤k)(h1:k≤16):relS (Ut k)=k:=by
 have:k=11∨k=12∨k=13∨k=14∨k=15∨k=16:=by omega
 rcases this with rfl|rfl|rfl|rfl|rfl|rfl<;>rfl
theorem Auz(k:Int)(xs:List (List UInt8)):Stop (Ut k::xs):=by
 have:∀w,w∈Oj→w≠[91]∧w≠[42]∧w≠[43]∧w≠[45]:=by decide
 exact this _ (Aap k)
theorem Ph{n:Nd}(h:FC n)(hc:Ai n≤500){r:RS}{xs:List (List UInt8)}(ha:At r (Dr n++xs))(hs:Stop xs):∃r',Dk r=(n,r')∧At r' xs:=by
 cases h with
 |mk k a b h0 h1 fa fb=>
  have ne:¬k=6∧¬k=7∧¬k=8:=by omega
  have hcc:Ai (Nd.mk k [] 0 [a,b])=1+(Ai a+Ai b):=by simp[Ai,A3]
  have ha':At r (Dr a++(Ut k::(Dr b++xs))):=by simpa[Dr,ne.1,ne.2.1,ne.2.2]using ha
  obtain⟨r1,e1,a1⟩:=Jp fa (by omega) ha' (Auz k _);obtain⟨r2,e2,a2⟩:=Jp fb (by omega) a1.step hs;refine⟨r2,?_,a2⟩;have ht:r1.text=Ut k:=by rw[a1.text];rfl
  unfold Dk;rw[e1];simp only[ht,Aqv h0 h1];rw[if_neg (by simp[a1.good];omega),e2]
def RdS(x:Nd):Prop:=∀(f:Nat)(r:RS)(xs:List (List UInt8)),3*Ai x≤f→Ai x≤500→At r (Ih x++xs)→Ll xs≠Ir→∃r',C9 f r=(x,r')∧At r' xs
def RdL(l:List Nd):Prop:=∀(f:Nat)(r:RS)(acc:List Nd)(xs:List (List UInt8)),3*A3 l+1≤f→A3 l≤500→At r (I5 l++xs)→(xs=[]∨Ll xs=[125])→∃r',D7 f acc r=(acc++l,r')∧At r' xs
def Ase(s:List UInt8):Prop:=nameS s=true∨s∈[V3,Gp,L8,F7,Is,Ix,I4]
theorem Zt{s:List UInt8}(h:Ase s):s≠[125]∧s≠Ir∧s≠Nk∧s≠Ff:=by
 rcases h with h|h
 ·exact⟨Ia h _,Ia h _,Ia h _,Ia h _⟩
 ·have:∀s,s∈[V3,Gp,L8,F7,Is,Ix,I4]→s≠[125]∧s≠Ir∧s≠Nk∧s≠Ff:=by decide
  exact this s h
theorem Xw{x:Nd}(h:FS x):∃s t,Ih x=s::t∧Ase s:=by
 cases h with
 |set s a h ha=>exact⟨s,_,by simp[Ih];rfl,.inl h⟩
 |put s a b h ha hb=>obtain⟨k',s',m',l'⟩:=b;exact⟨s,_,by simp[Ih];rfl,.inl h⟩
 |read s h=>exact⟨Is,_,by simp[Ih];rfl,.inr (by simp)⟩
 |ifs c l l' hc hl hl'=>exact⟨V3,_,by simp[Ih];rfl,.inr (by simp)⟩
 |whil c l hc hl=>exact⟨Gp,_,by simp[Ih];rfl,.inr (by simp)⟩
 |for_ s a b l h ha hb hl=>obtain⟨k',s',m',l'⟩:=b;exact⟨L8,_,by simp[Ih];rfl,.inr (by simp)⟩
 |check c hc=>exact⟨F7,_,by simp[Ih];rfl,.inr (by simp)⟩
 |skip=>exact⟨Ix,_,by simp[Ih];rfl,.inr (by simp)⟩
 |stop=>exact⟨I4,_,by simp[Ih];rfl,.inr (by simp)⟩
theorem Adr{l:List Nd}(hf:∀x,x∈l→FS x)(h:∀x,x∈l→RdS x):RdL l:=by
 induction l with
 |nil=>
  intro f r acc xs hf hc ha hx;have ha':At r xs:=by simpa[I5]using ha
  refine⟨r,?_,ha'⟩;cases f with
  |zero=>simp[D7]
  |succ f=>
   rw[D7,if_neg,G4];rcases hx with rfl|hx
   ·simp;intro _ h;have:=ha'.ge;omega
   ·rw[ha'.text,hx];simp
 |cons x l ih=>
  intro f r acc xs hfu hc ha hx;simp only[A3]at hfu hc;obtain⟨g,rfl⟩:∃g,f=g+1:=⟨f-1,by omega⟩
  have ha':At r (Ih x++(I5 l++xs)):=by simpa[I5]using ha
  have hne:Ll (I5 l++xs)≠Ir:=by
   cases l with
   |nil=>
    simp only[I5,U8];rcases hx with rfl|hx
    ·simp[Ll]
    ·rw[hx];decide
   |cons y l=>
    obtain⟨s,t,e,hb⟩:=Xw (hf y (by simp));simp only[I5,e,Ll];exact(Zt hb).2.1
  obtain⟨r1,e1,a1⟩:=h x (by simp) g r _ (by omega) (by omega) ha' hne;obtain⟨r2,e2,a2⟩:=ih (fun y hy=>hf y (by simp[hy])) (fun y hy=>h y (by simp[hy])) g r1 (acc++[x]) xs (by have:=Zv x;omega) (by omega) a1 hx;refine⟨r2,?_,a2⟩;obtain⟨s,t,e,hb⟩:=Xw (hf x (by simp));have has:At r (s::(t++(I5 l++xs))):=by rw[e]at ha';simpa using ha'
  rw[D7,if_pos,e1]
  ·simp only;rw[e2];simp
  ·have:=(Zt hb).1;rw[has.text];simp[has.good,has.lt,Ll,this]
theorem Adq{l:List Nd}(hl:RdL l){f:Nat}{r:RS}{xs:List (List UInt8)}(hf:3*A3 l+2≤f)(hc:A3 l≤500)(ha:At r ([123]::(I5 l++[125]::xs))):∃r',Cs f r=(.mk 30 [] 0 l,r')∧At r' xs:=by
 obtain⟨g,rfl⟩:∃g,f=g+1:=⟨f-1,by omega⟩
 obtain⟨r1,e1,a1⟩:=hl g r.step [] ([125]::xs) (by omega) hc ha.step (.inr rfl);refine⟨r1.step,?_,a1.step⟩;rw[Cs,ha.need,e1];simp[a1.need]
theorem Oa{s:List UInt8}{xs:List (List UInt8)}(h:s∈[[93],[59],[123],wTo]:=by decide):Stop (s::xs):=by
 have:∀s,s∈[[93],[59],[123],wTo]→s≠[91]∧s≠[42]∧s≠[43]∧s≠[45]:=by decide
 exact this s h
theorem Lh{f:Nat}{r:RS}{s:List UInt8}{xs:List (List UInt8)}(ha:At r (s::xs))(h1:s≠V3)(h2:s≠Gp)(h3:s≠L8):C9 (f+1) r=((C1 r).1,(C1 r).2.need [59]):=by
 rw[C9,if_neg (by simp[ha.no (s:=V3) h1]),if_neg (by simp[ha.no (s:=Gp) h2]),if_neg (by simp[ha.no (s:=L8) h3])]
theorem Ady{r:RS}{s:List UInt8}{xs:List (List UInt8)}(ha:At r (s::xs))(hn:nameS s=true):C1 r=Qz r:=by
 rw[C1,if_neg (by simp[ha.no (s:=F7) (Ia hn _)]),if_neg (by simp[ha.no (s:=Is) (Ia hn _)]),if_neg (by simp[ha.no (s:=Ix) (Ia hn _)]),if_neg (by simp[ha.no (s:=I4) (Ia hn _)])]
theorem A11{x:Nd}(h:FS x):RdS x:=by
 induction h with
 |set s a h fa=>
  intro f r xs hf hc ha _;have hcc:Ai (Nd.mk 21 s 0 [a])=1+Ai a:=by simp[Ai,A3]
  obtain⟨g,rfl⟩:∃g,f=g+1:=⟨f-1,by omega⟩
  have ha':At r (s::[61]::(Dr a++[59]::xs)):=by simpa[Ih]using ha
  obtain⟨_,n2,n3⟩:=ha'.named h;obtain⟨r1,e1,a1⟩:=Jp fa (by omega) ha'.step.step Oa;refine⟨r1.step,?_,a1.step⟩;rw[Lh ha' (Ia h _) (Ia h _) (Ia h _),Ady ha' h,Qz,n3,if_neg (by simp[ha'.step.no (s:=[91]) (by simp[Ll])]),ha'.step.need,e1,n2];simp[a1.need]
 |put s a b h fa fb=>
  intro f r xs hf hc ha _;have hcc:Ai (Nd.mk 22 s 0 [a,b])=1+(Ai a+Ai b):=by simp[Ai,A3]
  obtain⟨g,rfl⟩:∃g,f=g+1:=⟨f-1,by omega⟩
  have ha':At r (s::[91]::(Dr a++[93]::[61]::(Dr b++[59]::xs))):=by
   obtain⟨k',s',m',l'⟩:=b;simpa[Ih]using ha
  obtain⟨_,n2,n3⟩:=ha'.named h;obtain⟨r1,e1,a1⟩:=Jp fa (by omega) ha'.step.step Oa;obtain⟨r2,e2,a2⟩:=Jp fb (by omega) a1.step.step Oa;refine⟨r2.step,?_,a2.step⟩;rw[Lh ha' (Ia h _) (Ia h _) (Ia h _),Ady ha' h,Qz,n3,if_pos ha'.step.yes,e1];simp only;rw[a1.need,a1.step.need,e2,n2];simp[a2.need]
 |read s h=>
  intro f r xs hf hc ha _;have:=Zv (Nd.mk 23 s 0 []);obtain⟨g,rfl⟩:∃g,f=g+1:=⟨f-1,by omega⟩
  have ha':At r (Is::s::[59]::xs):=by simpa[Ih]using ha
  obtain⟨_,n2,n3⟩:=ha'.step.named h;refine⟨r.step.step.step,?_,ha'.step.step.step⟩;rw[Lh ha' (by decide) (by decide) (by decide),C1,if_neg (by simp[ha'.no (s:=F7) (by simp[Ll])]),if_pos ha'.yes,n2,n3];simp[ha'.step.step.need]
 |ifs c l l' hc hl hl' ihl ihl'=>
  intro f r xs hf hcn ha hx;have hcc:Ai (Nd.mk 24 [] 0 [c,.mk 30 [] 0 l,.mk 30 [] 0 l'])=1+(Ai c+(1+A3 l+(1+A3 l'))):=by simp[Ai,A3]
  obtain⟨g,rfl⟩:∃g,f=g+1:=⟨f-1,by omega⟩
  have L:=Adr hl ihl;have L':=Adr hl' ihl';cases l' with
  |nil=>
   have ha':At r (V3::(Dr c++([123]::(I5 l++[125]::xs)))):=by simpa[Ih]using ha
   obtain⟨r1,e1,a1⟩:=Ph hc (by omega) ha'.step Oa;obtain⟨r2,e2,a2⟩:=Adq L (f:=g) (by omega) (by omega) a1;refine⟨r2,?_,a2⟩;rw[C9,if_pos ha'.yes,e1];simp only;rw[e2];simp only;rw[if_neg (by simp[a2.no hx])]
  |cons y l'=>
   have ha':At r (V3::(Dr c++([123]::(I5 l++[125]::(Ir::[123]::(I5 (y::l')++[125]::xs)))))):=by simpa[Ih]using ha
   obtain⟨r1,e1,a1⟩:=Ph hc (by omega) ha'.step Oa;obtain⟨r2,e2,a2⟩:=Adq L (f:=g) (by omega) (by omega) a1;obtain⟨r3,e3,a3⟩:=Adq L' (f:=g) (by omega) (by omega) a2.step;refine⟨r3,?_,a3⟩;rw[C9,if_pos ha'.yes,e1];simp only;rw[e2];simp only;rw[if_pos a2.yes,e3]
 |whil c l hc hl ihl=>
  intro f r xs hf hcn ha hx;have hcc:Ai (Nd.mk 25 [] 0 [c,.mk 30 [] 0 l])=1+(Ai c+(1+A3 l)):=by simp[Ai,A3]
  obtain⟨g,rfl⟩:∃g,f=g+1:=⟨f-1,by omega⟩
  have ha':At r (Gp::(Dr c++([123]::(I5 l++[125]::xs)))):=by simpa[Ih]using ha
  obtain⟨r1,e1,a1⟩:=Ph hc (by omega) ha'.step Oa;obtain⟨r2,e2,a2⟩:=Adq (Adr hl ihl) (f:=g) (by omega) (by omega) a1;refine⟨r2,?_,a2⟩;rw[C9,if_neg (by simp[ha'.no (s:=V3) (by simp[Ll])]),if_pos ha'.yes,e1];simp only;rw[e2]
 |for_ s a b l h fa fb hl ihl=>
  intro f r xs hf hcn ha hx;have hcc:Ai (Nd.mk 26 s 0 [a,b,.mk 30 [] 0 l])=1+(Ai a+(Ai b+(1+A3 l))):=by simp[Ai,A3]
  obtain⟨g,rfl⟩:∃g,f=g+1:=⟨f-1,by omega⟩
  have ha':At r (L8::s::Jl::(Dr a++(wTo::(Dr b++([123]::(I5 l++[125]::xs)))))):=by
   obtain⟨k',s',m',l'⟩:=b;simpa[Ih]using ha
  obtain⟨_,n2,n3⟩:=ha'.step.named h;have eA:Yk r.step=r.step.step.step:=by rw[Yk,n3,ha'.step.step.need]
  obtain⟨r1,e1,a1⟩:=Jp fa (by omega) ha'.step.step.step Oa;have eB:Z3 r.step=r1.step:=by rw[Z3,eA,e1];exact a1.need
  obtain⟨r2,e2,a2⟩:=Jp fb (by omega) a1.step Oa;obtain⟨r3,e3,a3⟩:=Adq (Adr hl ihl) (f:=g) (by omega) (by omega) a2;refine⟨r3,?_,a3⟩;rw[C9,if_neg (by simp[ha'.no (s:=V3) (by simp[Ll])]),if_neg (by simp[ha'.no (s:=Gp) (by simp[Ll])]),if_pos ha'.yes,eA,eB,e1,e2,n2];simp only;rw[e3]
 |check c hc=>
  intro f r xs hf hcn ha _;have hcc:Ai (Nd.mk 27 [] 0 [c])=1+Ai c:=by simp[Ai,A3]
  obtain⟨g,rfl⟩:∃g,f=g+1:=⟨f-1,by omega⟩
  have ha':At r (F7::(Dr c++[59]::xs)):=by simpa[Ih]using ha
  obtain⟨r1,e1,a1⟩:=Ph hc (by omega) ha'.step Oa;refine⟨r1.step,?_,a1.step⟩;rw[Lh ha' (by decide) (by decide) (by decide),C1,if_pos ha'.yes,e1];simp[a1.need]
 |skip=>
  intro f r xs hf hcn ha _;have:=Zv (Nd.mk 28 [] 0 []);obtain⟨g,rfl⟩:∃g,f=g+1:=⟨f-1,by omega⟩
  have ha':At r (Ix::[59]::xs):=by simpa[Ih]using ha
  refine⟨r.step.step,?_,ha'.step.step⟩;rw[Lh ha' (by decide) (by decide) (by decide),C1,if_neg (by simp[ha'.no (s:=F7) (by simp[Ll])]),if_neg (by simp[ha'.no (s:=Is) (by simp[Ll])]),if_pos ha'.yes];simp[ha'.step.need]
 |stop=>
  intro f r xs hf hcn ha _;have:=Zv (Nd.mk 29 [] 0 []);obtain⟨g,rfl⟩:∃g,f=g+1:=⟨f-1,by omega⟩
  have ha':At r (I4::[59]::xs):=by simpa[Ih]using ha
  refine⟨r.step.step,?_,ha'.step.step⟩;rw[Lh ha' (by decide) (by decide) (by decide),C1,if_neg (by simp[ha'.no (s:=F7) (by simp[Ll])]),if_neg (by simp[ha'.no (s:=Is) (by simp[Ll])]),if_neg (by simp[ha'.no (s:=Ix) (by simp[Ll])]),if_pos ha'.yes];simp[ha'.step.need]
theorem Aiu{d:Nd}(h:FV d){r:RS}{xs:List (List UInt8)}(ha:At r (Ih d++xs)):Hn r=true∧(Jg r).1=d∧At ((Jg r).2.need [59]) xs:=by
 cases h with
 |var s h=>
  have ha':At r (Nk::s::[59]::xs):=by simpa[Ih]using ha
  obtain⟨_,n2,n3⟩:=ha'.step.named h;refine⟨by simp[Hn,ha'.yes],?_⟩;rw[Jg,if_pos ha'.yes,n2,n3];simp only;rw[ha'.step.step.need];refine⟨?_,ha'.step.step.step⟩
  first|trivial|rfl
 |arr s m h h0 h1=>
  have ha':At r (Ff::s::[91]::(if 0≤m then Mb m.toNat else[63])::[93]::[59]::xs):=by simpa[Ih]using ha
  obtain⟨_,n2,n3⟩:=ha'.step.named h;refine⟨by simp[Hn,ha'.yes],?_⟩;have hz:Iw r.step.step.step=(m,r.step.step.step.step):=by
   have a3:=ha'.step.step.step;unfold Iw;by_cases g:0≤m
   ·rw[if_pos g]at a3;have hm:m.toNat≤1000000:=by omega
    have hk:r.step.step.step.kind=2:=by rw[a3.kind,(Qi _ hm).2]
    rw[if_pos (by simp[a3.good,hk]),a3.text];simp only[Ll,List.headD_cons];rw[Pm _ hm];congr 1;omega
   ·rw[if_neg g]at a3;have hk:Dd [63]≠2:=by decide
    rw[if_neg (by simp[a3.kind,hk]),a3.need];congr 1;omega
  rw[Jg,if_neg (by simp[ha'.no (s:=Nk) (by simp[Ll])]),n2,n3,ha'.step.step.need,hz];simp only;rw[ha'.step.step.step.step.need,ha'.step.step.step.step.step.need];refine⟨?_,ha'.step.step.step.step.step.step⟩
  first|trivial|rfl
theorem Yd:∀(ds:List Nd)(f:Nat)(acc:List Nd)(r:RS)(xs:List (List UInt8)),(∀x,x∈ds→FV x)→ds.length≤f→At r (I5 ds++xs)→Ll xs≠Nk→Ll xs≠Ff→∃r',E6 f acc r=(acc++ds,r')∧At r' xs
 |[],f,acc,r,xs,hd,hf,ha,h1,h2=>by
  have ha':At r xs:=by simpa[I5]using ha
  refine⟨r,?_,ha'⟩;cases f with
  |zero=>simp[E6]
  |succ f=>rw[E6,if_neg (by simp[Hn,ha'.no h1,ha'.no h2]),G4]
 |d::ds,f,acc,r,xs,hd,hf,ha,h1,h2=>by
  simp at hf;obtain⟨g,rfl⟩:∃g,f=g+1:=⟨f-1,by omega⟩
  have ha':At r (Ih d++(I5 ds++xs)):=by simpa[I5]using ha
  obtain⟨e1,e2,a1⟩:=Aiu (hd d (by simp)) ha';obtain⟨r',e3,a2⟩:=Yd ds g (acc++[d]) _ xs (fun x hx=>hd x (by simp[hx])) (by omega) a1 h1 h2;refine⟨r',?_,a2⟩;rw[E6,if_pos e1,e2,e3];simp
theorem Ajt{ds l:List Nd}(hd:∀x,x∈ds→FV x)(hl:∀x,x∈l→FS x)(hc:A3 ds+A3 l≤500){r:RS}(ha:At r (I5 ds++I5 l)):(El r).1=.mk 40 [] 0 (ds++[.mk 30 [] 0 l])∧(El r).2.bad=false:=by
 have h12:Ll (I5 l)≠Nk∧Ll (I5 l)≠Ff:=by
  cases l with
  |nil=>simp[I5,Ll]
  |cons y l=>
   obtain⟨s,t,e,hb⟩:=Xw (hl y (by simp));simp only[I5,e,Ll];exact(Zt hb).2.2
 have hdl:=Bn ds;obtain⟨r1,e1,a1⟩:=Yd ds 2000 [] r (I5 l) hd (by omega) ha h12.1 h12.2;obtain⟨r2,e2,a2⟩:=Adr hl (fun x hx=>A11 (hl x hx)) 5000 r1 [] [] (by omega) (by omega) (by simpa using a1) (.inl rfl);have ee:r2.ends=r2:=by rw[RS.ends,if_neg (by have:=a2.ge;omega)]
 unfold El;rw[e1];simp only;rw[e2];simp only[U8];rw[ee];refine⟨?_,a2.good⟩
 first|trivial|rfl
theorem Al7{n:Nd}(h:FP n)(hc:Ai n≤500)(h0:(E8 (J5 n)).2.1=0):(E8 (J5 n)).1=n:=by
 cases h with
 |mk ds l hd hl=>
  have hcn:Ai (Nd.mk 40 [] 0 (ds++[.mk 30 [] 0 l]))=1+(A3 ds+(1+A3 l)):=by simp[Ai,M0,A3]
  have hw:(C4 (J5 (.mk 40 [] 0 (ds++[.mk 30 [] 0 l])))).2.1=0:=by
   unfold E8 at h0;split at h0
   ·assumption
   ·exact h0
  have hlex:=A4k hd hl;rw[Sg ds,←Adm ds l]at hlex;have hws:=Ap4 hlex hw;have hat:At (rs0 (J5 (.mk 40 [] 0 (ds++[.mk 30 [] 0 l])))) (I5 ds++I5 l):=⟨rfl,Ah8 _,by simp[rs0,hws]⟩
  obtain⟨e1,e2⟩:=Ajt hd hl (by omega) hat
  unfold E8 at h0⊢;rw[if_pos hw,if_neg (by simp[e2])]at h0⊢;split at h0
  ·simp at h0
  ·rename_i hg;rw[if_neg hg];exact e1
def Vw(k:Int)(s:List UInt8)(m:Int)(c:List (Int×Me)):Me:=
 if k=31 then[Nk,s]
 else if k=32 then[Ff,s,[91],if m=-1 then[63]else Lib.itoa m,[93]]
 else if k=21 then[s,[61]]++eW c 0
 else if k=22 then[s,[91]]++eW c 0++[[93],[61]]++eW c 1
 else if k=23 then[Is,s]
 else if k=27 then[F7]++eW c 0
 else if k=28 then[Ix]
 else[I4]
def bT(b:List (List UInt8×Bool))(i:Nat):List UInt8:=(b.getD i ([],false)).1
def bQ'(b:List (List UInt8×Bool))(i:Nat):Bool:=(b.getD i ([],false)).2
def Ns(k:Int):Bool:=k==31||k==32||k==21||k==22||k==23||k==27||k==28||k==29
def cpT(k:Int)(s:List UInt8)(c:List (Int×Me))(b:List (List UInt8×Bool))(h:Nat):List UInt8:=
 if k=24 then Em ([V3]++eW c 0++[[123]]) h++bT b 1++(if bQ' b 2 then Em [[125],Ir,[123]] h++bT b 2 else[])++Em [[125]] h
 else if k=25 then Em ([Gp]++eW c 0++[[123]]) h++bT b 1++Em [[125]] h
 else if k=26 then Em ([L8,s,Jl]++eW c 0++[wTo]++eW c 1++[[123]]) h++bT b 2++Em [[125]] h
 else Em [] h
def Wa(k:Int)(s:List UInt8)(m:Int)(c:List (Int×Me))(b:List (List UInt8×Bool))(h:Nat):List UInt8:=
 if Ns k then Em (Vw k s m c++[[59]]) h else cpT k s c b h
mutual
def Hp:Nd→Nat→List UInt8
 |.mk k s m ks,h=>Wa k s m (B4 ks) (Jj ks h) h
def Jj:List Nd→Nat→List (List UInt8×Bool)
 |[],_=>[]
 |x::l,h=>Aay x h::Jj l h
def Aay:Nd→Nat→List UInt8×Bool
 |.mk _ _ _ l,h=>(Kd l (h+1),!l.isEmpty)
def Kd:List Nd→Nat→List UInt8
 |[],_=>[]
 |x::l,h=>Hp x h++Kd l h
end
def Xk(n:Nd):List UInt8:=Kd n.kids.dropLast 0++Kd (n.kids.getLastD Cg).kids 0
def Xa(a:List UInt8):List UInt8:=if has L4 a then[]else[32]
theorem Ua{a:List UInt8}(h:has L4 a=false)(us:Me):Ha a us=Ha [] us:=by
 have h0:has L4 []=false:=by decide
 cases us with
 |nil=>rfl
 |cons b us=>simp[Ha,Tl,h,h0]
structure PW (b:List UInt8):Prop where
 c:has Lu b=false
 o:has L4 b=false
 t:J7 b [32]=b
theorem PW.flat{b:List UInt8}(h:PW b)(a:List UInt8)(us:Me):Ha a (b::us)=Xa a++(b++Ha [] us):=by
 simp only[Ha,Tl,h.c,h.t,Ua h.o,Xa,Bool.false_or];split<;>simp
theorem Aq5{c:UInt8}{l:List UInt8}(h:c≠32):J7 (c::l) [32]=c::l:=by
 have:Ahz (c::l) [32]=false:=by simp[Ahz,h]
 simp[J7,this]
theorem PW.of_kind{b:List UInt8}(h:Dd b=1∨Dd b=2):PW b:=by
 have no:∀l:List (List UInt8),(∀x,x∈l→Dd x≠1∧Dd x≠2)→has l b=false:=by
  intro l hl;simp only[has,List.any_eq_false];intro x hx he;have:=zzq56.1 he;subst this;have:=hl _ hx;omega
 refine⟨no _ (by decide),no _ (by decide),?_⟩;cases b with
 |nil=>simp[Vp]at h
 |cons c l=>exact Aq5 (Ac9 (by rcases h with h|h<;>rw[h]<;>decide)).1
theorem PW.name{s:List UInt8}(h:nameS s=true):PW s:=.of_kind (.inl (Mt h).2)
theorem PW.num{m:Nat}(h:m≤1000000):PW (Mb m):=.of_kind (.inr (Qi m h).2)
theorem PW.of{b:List UInt8}(h:b∈([[43],[45],[42],[61],[63],[123],[125],V3,Ir,Gp,L8,Jl,wTo,F7,Is,Ix,I4,Nk,Ff]:Me)++Oj):PW b:=by
 have:∀b,b∈([[43],[45],[42],[61],[63],[123],[125],V3,Ir,Gp,L8,Jl,wTo,F7,Is,Ix,I4,Nk,Ff]:Me)++Oj→has Lu b=false∧has L4 b=false∧J7 b [32]=b:=by decide
 obtain⟨h1,h2,h3⟩:=this b h;exact⟨h1,h2,h3⟩
theorem R4(a:List UInt8)(us:Me):Ha a ([59]::us)=59::Ha [] us:=by
 rw[Ha,Ua (by decide)];simp[Tl,show has Lu [59]=true by decide,show J7 [59] [32]=[59] by decide]
theorem Ag6(a:List UInt8)(us:Me):Ha a ([93]::us)=93::Ha [] us:=by
 rw[Ha,Ua (by decide)];simp[Tl,show has Lu [93]=true by decide,show J7 [93] [32]=[93] by decide]
theorem Asr(a:List UInt8)(us:Me):Ha a ([41]::us)=41::Ha [] us:=by
 rw[Ha,Ua (by decide)];simp[Tl,show has Lu [41]=true by decide,show J7 [41] [32]=[41] by decide]
theorem Ag5(a:List UInt8)(us:Me):Ha a ([91]::us)=91::Ha [91] us:=by
 rw[Ha];simp[Tl,show has Lu [91]=true by decide,show J7 [91] [32]=[91] by decide]
theorem Anm{b t:List UInt8}(h:has Lu b=false)(ht:J7 b [32]=t)(a:List UInt8)(us:Me):Ha a (b::us)=Xa a++(t++Ha b us):=by
 simp only[Ha,Tl,h,ht,Xa,Bool.false_or];split<;>simp
def FlatP(w:Me)(t:List UInt8):Prop:=∀(a:List UInt8)(us:Me),Ha a (w++us)=Xa a++(t++Ha [] us)
theorem FlatP.par{w:Me}{t:List UInt8}(h:FlatP w t):FlatP ([[40]]++w++[[41]]) ([40]++t++[41]):=by
 intro a us;have e:[[40]]++w++[[41]]++us=[40]::(w++([41]::us)):=by simp
 rw[e,Anm (t:=[40]) (by decide) (by decide),h,Asr,show Xa [40]=[] by decide];simp
theorem FlatP.in1{w:Me}{t:List UInt8}(h:FlatP w t)(k:Int):FlatP (Pd true false k w) (Mc 2 k t):=by
 by_cases hk:k=6∨k=7
 ·have e1:Pd true false k w=[[40]]++w++[[41]]:=by unfold Pd;rw[if_pos (by simpa using hk)]
  have e2:Mc 2 k t=[40]++t++[41]:=by unfold Mc L5;rw[if_pos (by simp[hk])]
  rw[e1,e2];exact h.par
 ·have e1:Pd true false k w=w:=by unfold Pd;rw[if_neg (by simpa using hk)]
  have e2:Mc 2 k t=t:=by unfold Mc L5;rw[if_neg (by rw[if_neg hk];split<;>omega)]
  rw[e1,e2];exact h
theorem FlatP.in2{w:Me}{t:List UInt8}(h:FlatP w t)(k:Int):FlatP (Pd true true k w) (Mc 3 k t):=by
 by_cases hk:(k=6∨k=7)∨k=8
 ·have e1:Pd true true k w=[[40]]++w++[[41]]:=by unfold Pd;rw[if_pos (by simpa using hk)]
  have e2:Mc 3 k t=[40]++t++[41]:=by
   unfold Mc L5;rw[if_pos];rcases hk with hk|hk
   ·rw[if_pos hk];omega
   ·rw[if_neg (by omega),if_pos hk];omega
  rw[e1,e2];exact h.par
 ·have e1:Pd true true k w=w:=by unfold Pd;rw[if_neg (by simpa using hk)]
  have e2:Mc 3 k t=t:=by unfold Mc L5;rw[if_neg (by rw[if_neg (by omega),if_neg (by omega)];omega)]
  rw[e1,e2];exact h
theorem FlatP.two{w w':Me}{t t':List UInt8}(h:FlatP w t)(h':FlatP w' t'){c:List UInt8}(hc:PW c):FlatP (w++[c]++w') (t++[32]++c++[32]++t'):=by
 intro a us;have e:w++[c]++w'++us=w++(c::(w'++us)):=by simp
 rw[e,h,hc.flat,h',show Xa []=[32] by decide];simp
theorem Ac2{n:Nd}(h:FE n):FlatP (A2 n) (Bu n):=by
 induction h with
 |num m h0 h1=>
  intro a us;have e:A2 (.mk 1 [] m [])=[Mb m.toNat]:=by
   have:Lib.itoa m=Mb m.toNat:=by
    obtain⟨u,rfl⟩:∃u:Nat,m=u:=⟨m.toNat,by omega⟩
    rw[Lib.itoa_nonneg,Agy];rfl
   simp[A2,Ga,this]
  rw[e];simp only[Bu,if_true,Pu,U8];exact(PW.num (by omega)).flat a us
 |var s h=>
  intro a us;have e:A2 (.mk 2 s 0 [])=[s]:=by simp[A2,Ga]
  rw[e];simp only[Bu,Pu,U8];exact(PW.name h).flat a us
 |cell s x h ha ih=>
  intro a us;have e:A2 (.mk 3 s 0 [x])++us=s::[91]::(A2 x++([93]::us)):=by simp[A2,Ga,B4,eW]
  rw[e,(PW.name h).flat,Ag5,ih,Ag6,show Xa [91]=[] by decide];simp[Bu]
 |len s h=>
  intro a us;have e:A2 (.mk 4 s 0 [])++us=[108,101,110]::[40]::s::[41]::us:=by simp[A2,Ga]
  rw[e,Anm (t:=[108,101,110]) (by decide) (by decide),Anm (t:=[40]) (by decide) (by decide),(PW.name h).flat,Asr,show Xa [40]=[] by decide,show Xa [108,101,110]=[] by decide];simp[Bu]
 |neg x ha ih=>
  intro a us;have e:A2 (.mk 5 [] 0 [x])++us=[32,45]::(Pd true true x.kind (A2 x)++us):=by simp[A2,Ga,B4,iW]
  rw[e,Anm (t:=[45]) (by decide) (by decide),ih.in2 x.kind,show Xa [32,45]=[] by decide];simp[Bu]
 |two k x y hk ha hb iha ihb=>
  have p1:Mc 1 x.kind (Bu x)=Bu x:=by
   unfold Mc L5;rw[if_neg];split<;>(try split)<;>omega
  rcases hk with rfl|rfl|rfl
  ·have e:A2 (.mk 6 [] 0 [x,y])=A2 x++[[43]]++Pd true false y.kind (A2 y):=by simp[A2,Ga,B4,iW,eW]
   have:=iha.two (ihb.in1 y.kind) (c:=[43]) (.of (by decide));rw[e];simpa[Bu,p1]using this
  ·have e:A2 (.mk 7 [] 0 [x,y])=A2 x++[[45]]++Pd true false y.kind (A2 y):=by simp[A2,Ga,B4,iW,eW]
   have:=iha.two (ihb.in1 y.kind) (c:=[45]) (.of (by decide));rw[e];simpa[Bu,p1]using this
  ·have e:A2 (.mk 8 [] 0 [x,y])=Pd true false x.kind (A2 x)++[[42]]++Pd true true y.kind (A2 y):=by simp[A2,Ga,B4,iW,eW]
   have:=(iha.in1 x.kind).two (ihb.in2 y.kind) (c:=[42]) (.of (by decide));rw[e];simpa[Bu]using this
theorem Ass{n:Nd}(h:FC n):FlatP (A2 n) (Bu n):=by
 cases h with
 |mk k x y h0 h1 ha hb=>
  have ne:¬k=1∧¬k=2∧¬k=3∧¬k=4∧¬k=5∧¬k=6∧¬k=7∧¬k=8:=by omega
  obtain⟨n1,n2,n3,n4,n5,n6,n7,n8⟩:=ne;have e:A2 (.mk k [] 0 [x,y])=A2 x++[Ut k]++A2 y:=by simp[A2,Ga,B4,eW,n1,n2,n3,n4,n5,n6,n7,n8,h0,h1]
  have:=(Ac2 ha).two (Ac2 hb) (c:=Ut k) (.of (Agf _ (Aap k)));rw[e];simpa[Bu,n6,n7,n8]using this
theorem Yy(h:Nat):List.replicate (2*h) (32:UInt8)++[32,32]=List.replicate (2*(h+1)) 32:=by
 rw[show 2*(h+1)=2*h+2 by omega,←List.replicate_append_replicate];rfl
theorem Oe{l:List Nd}{h:Nat}{p:List UInt8}(hx:∀x,x∈l→Hp x h=Cq x p):Kd l h=Ij l p:=by
 induction l with
 |nil=>simp[Kd,Ij]
 |cons x l ih=>simp[Kd,Ij,hx x (by simp),ih fun y hy=>hx y (by simp[hy])]
theorem Ast{b:List UInt8}(h:PW b)(us:Me):Pk (b::us)=b++Ha [] us:=by rw[Pk,h.t,Ua h.o]
theorem H6{a:List UInt8}:Ha a []=[]:=rfl
abbrev Aty(h:Nat):List UInt8:=List.replicate (2*h) 32
theorem H9{b:List UInt8}(h:PW b)(us:Me)(g:Nat):Em (b::us) g=Aty g++(b++(Ha [] us++[10])):=by rw[Em,Ast h];simp
theorem g0:Xa []=[32]:=by decide
theorem Aan(h:Nat):Em [[125]] h=Aty h++[125,10]:=by
 rw[H9 (.of (by decide)),H6];simp
theorem Atm(h:Nat):Em [[125],Ir,[123]] h=Aty h++([125,32]++Ir++[32,123,10]):=by
 rw[H9 (.of (by decide)),(PW.of (b:=Ir) (by decide)).flat,(PW.of (b:=[123]) (by decide)).flat,H6,g0];simp
theorem A4p{x:Nd}(hx:FV x)(h:Nat):Hp x h=Cq x (Aty h):=by
 cases hx with
 |var s hs=>
  have e:Hp (.mk 31 s 0 []) h=Em (Nk::s::[[59]]) h:=by simp[Hp,Wa,Ns,Vw]
  rw[e,H9 (.of (by decide)),(PW.name hs).flat,R4,H6,g0];simp[Cq]
 |arr s m hs h0 h1=>
  by_cases g:0≤m
  ·have em:¬m=-1:=by omega
   have ei:Lib.itoa m=Mb m.toNat:=by
    obtain⟨u,rfl⟩:∃u:Nat,m=u:=⟨m.toNat,by omega⟩
    rw[Lib.itoa_nonneg,Agy];rfl
   have e:Hp (.mk 32 s m []) h=Em (Ff::s::[91]::Mb m.toNat::[93]::[[59]]) h:=by simp[Hp,Wa,Ns,Vw,em,ei]
   rw[e,H9 (.of (by decide)),(PW.name hs).flat,Ag5,(PW.num (by omega)).flat,Ag6,R4,H6,g0,show Xa [91]=[] by decide];simp[Cq,g]
  ·have em:m=-1:=by omega
   have e:Hp (.mk 32 s m []) h=Em (Ff::s::[91]::[63]::[93]::[[59]]) h:=by simp[Hp,Wa,Ns,Vw,em]
   rw[e,H9 (.of (by decide)),(PW.name hs).flat,Ag5,(PW.of (b:=[63]) (by decide)).flat,Ag6,R4,H6,g0,show Xa [91]=[] by decide];simp[Cq,g]
theorem A3n{x:Nd}(hx:FS x):∀h:Nat,Hp x h=Cq x (Aty h):=by
 induction hx with
 |set s a hs ha=>
  intro h;have e:Hp (.mk 21 s 0 [a]) h=Em (s::[61]::(A2 a++[[59]])) h:=by simp[Hp,Wa,Ns,Vw,B4,eW]
  rw[e,H9 (.name hs),(PW.of (b:=[61]) (by decide)).flat,Ac2 ha,R4,H6,g0];simp[Cq]
 |put s a b hs ha hb=>
  intro h;have e:Hp (.mk 22 s 0 [a,b]) h=Em (s::[91]::(A2 a++([93]::[61]::(A2 b++[[59]])))) h:=by simp[Hp,Wa,Ns,Vw,B4,eW]
  rw[e,H9 (.name hs),Ag5,Ac2 ha,Ag6,(PW.of (b:=[61]) (by decide)).flat,Ac2 hb,R4,H6,g0,show Xa [91]=[] by decide];obtain⟨k',s',m',l'⟩:=b;simp[Cq]
 |read s hs=>
  intro h;have e:Hp (.mk 23 s 0 []) h=Em (Is::s::[[59]]) h:=by simp[Hp,Wa,Ns,Vw]
  rw[e,H9 (.of (by decide)),(PW.name hs).flat,R4,H6,g0];simp[Cq]
 |ifs c l l' hc hl hl' ihl ihl'=>
  intro h;have e:Hp (.mk 24 [] 0 [c,.mk 30 [] 0 l,.mk 30 [] 0 l']) h=Em (V3::(A2 c++[[123]])) h++Kd l (h+1)++(if !l'.isEmpty then Em [[125],Ir,[123]] h++Kd l' (h+1)else[])++Em [[125]] h:=by
   simp[Hp,Wa,Ns,cpT,B4,eW,Jj,Aay,bT,bQ']
  have h1:=Oe (l:=l) (h:=h+1) fun x hx=>ihl x hx (h+1);have h2:=Oe (l:=l') (h:=h+1) fun x hx=>ihl' x hx (h+1);rw[e,h1,h2,H9 (.of (by decide)),Ass hc,(PW.of (b:=[123]) (by decide)).flat,H6,g0,Aan,Atm];cases l' with
  |nil=>simp[Cq,Yy]
  |cons y l'=>simp[Cq,Yy]
 |whil c l hc hl ihl=>
  intro h;have e:Hp (.mk 25 [] 0 [c,.mk 30 [] 0 l]) h=Em (Gp::(A2 c++[[123]])) h++Kd l (h+1)++Em [[125]] h:=by
   simp[Hp,Wa,Ns,cpT,B4,eW,Jj,Aay,bT]
  have h1:=Oe (l:=l) (h:=h+1) fun x hx=>ihl x hx (h+1);rw[e,h1,H9 (.of (by decide)),Ass hc,(PW.of (b:=[123]) (by decide)).flat,H6,g0,Aan];simp[Cq,Yy]
 |for_ s a b l hs ha hb hl ihl=>
  intro h;have e:Hp (.mk 26 s 0 [a,b,.mk 30 [] 0 l]) h=Em (L8::s::Jl::(A2 a++(wTo::(A2 b++[[123]])))) h++Kd l (h+1)++Em [[125]] h:=by
   simp[Hp,Wa,Ns,cpT,B4,eW,Jj,Aay,bT]
  have h1:=Oe (l:=l) (h:=h+1) fun x hx=>ihl x hx (h+1);rw[e,h1,H9 (.of (by decide)),(PW.name hs).flat,(PW.of (b:=Jl) (by decide)).flat,Ac2 ha,(PW.of (b:=wTo) (by decide)).flat,Ac2 hb,(PW.of (b:=[123]) (by decide)).flat,H6,g0,Aan];obtain⟨k',s',m',l'⟩:=b;simp[Cq,Yy]
 |check c hc=>
  intro h;have e:Hp (.mk 27 [] 0 [c]) h=Em (F7::(A2 c++[[59]])) h:=by simp[Hp,Wa,Ns,Vw,B4,eW]
  rw[e,H9 (.of (by decide)),Ass hc,R4,H6,g0];simp[Cq]
 |skip=>
  intro h;have e:Hp (.mk 28 [] 0 []) h=Em (Ix::[[59]]) h:=by simp[Hp,Wa,Ns,Vw]
  rw[e,H9 (.of (by decide)),R4,H6];simp[Cq]
 |stop=>
  intro h;have e:Hp (.mk 29 [] 0 []) h=Em (I4::[[59]]) h:=by simp[Hp,Wa,Ns,Vw]
  rw[e,H9 (.of (by decide)),R4,H6];simp[Cq]
theorem Aju{n:Nd}(h:FP n):Xk n=J5 n:=by
 cases h with
 |mk ds l hd hl=>
  have h1:=Oe (l:=ds) (h:=0) (p:=[]) fun x hx=>A4p (hd x hx) 0;have h2:=Oe (l:=l) (h:=0) (p:=[]) fun x hx=>A3n (hl x hx) 0;have e1:(Nd.mk 40 [] 0 (ds++[.mk 30 [] 0 l])).kids.dropLast=ds:=by simp[Nd.kids]
  have e2:((Nd.mk 40 [] 0 (ds++[.mk 30 [] 0 l])).kids.getLastD Cg).kids=l:=by simp[Nd.kids]
  rw[Xk,e1,e2,h1,h2,Adm,Sg]
theorem W9{p:Nd}:∀{l:List Nd}{i:Nat},(∀(j:Nat)(x:Nd),l[j]?=some x→Kz p ((i+j:Nat):Int) x.kind=true∧Cp x=true)→Eo p i l=true
 |[],i,_=>by simp[Eo]
 |x::l,i,h=>by
  have h0:=h 0 x rfl;simp only[Pt]at h0;have h1:=W9 (p:=p) (l:=l) (i:=i+1) fun j y hj=>by
   have:=h (j+1) y (by simpa using hj);rwa[show i+(j+1)=i+1+j by omega]at this
  simp[Eo,h0.1,h0.2,h1]
theorem Ml{n:Nd}(h:FE n):Cp n=true:=by
 induction h with
 |num m h0 h1=>simp[Cp,H8,Bi,Fb,Bl,Eo,h0,h1]
 |var s h=>simp[Cp,H8,Bi,Fb,Eo,h,N9 h]
 |cell s a h ha ih=>
  have:=Cy ha;simp[Cp,H8,Bi,Fb,Eo,Kz,Kq,Cj,h,N9 h,ih];exact this
 |len s h=>simp[Cp,H8,Bi,Fb,Eo,h,N9 h]
 |neg a ha ih=>
  have:=Cy ha;simp[Cp,H8,Bi,Fb,Eo,Kz,Kq,Cj,ih];exact this
 |two k a b hk ha hb iha ihb=>
  have h1:=Cy ha;have h2:=Cy hb;rcases hk with rfl|rfl|rfl <;>
  ·simp[Cp,H8,Bi,Fb,Eo,Kz,Kq,Cj,iha,ihb];exact⟨h1,h2⟩
theorem Zo{n:Nd}(h:FC n):Cp n=true:=by
 cases h with
 |mk k a b h0 h1 ha hb=>
  have e1:=Cy ha;have e2:=Cy hb;have:k=11∨k=12∨k=13∨k=14∨k=15∨k=16:=by omega
  rcases this with rfl|rfl|rfl|rfl|rfl|rfl <;>
  ·simp[Cp,H8,Bi,Fb,Eo,Kz,Kq,Cj,Ml ha,Ml hb];exact⟨e1,e2⟩
theorem Lt{l:List Nd}(hl:∀x,x∈l→FS x)(h:∀x,x∈l→Cp x=true):Cp (.mk 30 [] 0 l)=true:=by
 have:=W9 (p:=.mk 30 [] 0 l) (l:=l) (i:=0) fun j x hx=>by
  have hm:=Bh hx;have:=Avr (hl x hm);refine⟨?_,h x hm⟩;simp[Kz,Yp,Cj];exact this
 simp[Cp,H8,Bi,Fb,this]
theorem Ao8{n:Nd}(h:FS n):Cp n=true:=by
 induction h with
 |set s a h ha=>
  have:=Cy ha;simp[Cp,H8,Bi,Fb,Eo,Kz,Kq,Cj,h,N9 h,Ml ha];exact this
 |put s a b h ha hb=>
  have h1:=Cy ha;have h2:=Cy hb;simp[Cp,H8,Bi,Fb,Eo,Kz,Kq,Cj,h,N9 h,Ml ha,Ml hb];exact⟨h1,h2⟩
 |read s h=>simp[Cp,H8,Bi,Fb,Eo,h,N9 h]
 |ifs c l l' hc hl hl' ihl ihl'=>
  have h1:=Jv hc;have b1:=Lt hl ihl;have b2:=Lt hl' ihl';rw[Cp];simp[H8,Bi,Fb,Eo,Kz,Sb,Cj,Zo hc,b1,b2];exact h1
 |whil c l hc hl ihl=>
  have h1:=Jv hc;have b1:=Lt hl ihl;rw[Cp];simp[H8,Bi,Fb,Eo,Kz,Sb,Cj,Zo hc,b1];exact h1
 |for_ s a b l h ha hb hl ihl=>
  have h1:=Cy ha;have h2:=Cy hb;have b1:=Lt hl ihl;rw[Cp];simp[H8,Bi,Fb,Eo,Kz,Kq,Cj,h,N9 h,Ml ha,Ml hb,b1];exact⟨h1,h2⟩
 |check c hc=>
  have h1:=Jv hc;simp[Cp,H8,Bi,Fb,Eo,Kz,Sb,Cj,Zo hc];exact h1
 |skip=>simp[Cp,H8,Bi,Fb,Eo]
 |stop=>simp[Cp,H8,Bi,Fb,Eo]
theorem Ao9{n:Nd}(h:FV n):Cp n=true:=by
 cases h with
 |var s h=>simp[Cp,H8,Bi,Fb,Eo,h,N9 h]
 |arr s m h h0 h1=>simp[Cp,H8,Bi,Fb,Eo,Bl,h,N9 h,h0,h1]
theorem Zp{n:Nd}(h:FP n):Cp n=true:=by
 cases h with
 |mk ds l hd hl=>
  have hb:=Lt hl fun x hx=>Ao8 (hl x hx);have:=W9 (p:=.mk 40 [] 0 (ds++[.mk 30 [] 0 l])) (l:=ds++[.mk 30 [] 0 l]) (i:=0) fun j x hx=>by
   rcases Gu j ds.length with hj|hj
   ·rw[Cr hj]at hx;have hm:=Bh hx;refine⟨?_,Ao9 (hd x hm)⟩;have hk:=Abu (hd x hm);have e:Kz (.mk 40 [] 0 (ds++[.mk 30 [] 0 l])) ((0+j:Nat):Int) x.kind=(x.kind==31||x.kind==32):=by
     rw[Ahl rfl,if_neg];simp[Nd.kids];omega
    rw[e];simpa using hk
   ·rw[Gj hj]at hx;have hj0:j=ds.length:=by
     have:=Aa hx;simp at this;omega
    subst hj0;simp at hx;subst hx;refine⟨?_,hb⟩;rw[Ahl rfl,if_pos]
    ·simp[Nd.kind]
    ·simp[Nd.kids]
  simp[Cp,H8,Bi,Fb,this]
mutual
def longN:Nd→Bool
 |.mk _ s _ ks=>decide (8<s.length)||longL ks
def longL:List Nd→Bool
 |[]=>false
 |x::l=>longN x||longL l
end
theorem Qs{l:List Nd}(h:∀x,x∈l→longN x=false):longL l=false:=by
 induction l with
 |nil=>rfl
 |cons x l ih=>simp[longL,h x (by simp),ih fun y hy=>h y (by simp[hy])]
theorem Oo{n:Nd}(h:FE n):longN n=false:=by
 induction h with
 |num m h0 h1=>simp[longN,longL]
 |var s h=>simp[longN,longL,I9 h]
 |cell s a h ha ih=>simp[longN,longL,I9 h,ih]
 |len s h=>simp[longN,longL,I9 h]
 |neg a ha ih=>simp[longN,longL,ih]
 |two k a b hk ha hb iha ihb=>simp[longN,longL,iha,ihb]
theorem Acf{n:Nd}(h:FC n):longN n=false:=by
 cases h with|mk k a b h0 h1 ha hb=>simp[longN,longL,Oo ha,Oo hb]
theorem Arq{n:Nd}(h:FS n):longN n=false:=by
 induction h with
 |set s a h ha=>simp[longN,longL,I9 h,Oo ha]
 |put s a b h ha hb=>simp[longN,longL,I9 h,Oo ha,Oo hb]
 |read s h=>simp[longN,longL,I9 h]
 |ifs c l l' hc hl hl' ihl ihl'=>simp[longN,longL,Acf hc,Qs ihl,Qs ihl']
 |whil c l hc hl ihl=>simp[longN,longL,Acf hc,Qs ihl]
 |for_ s a b l h ha hb hl ihl=>simp[longN,longL,I9 h,Oo ha,Oo hb,Qs ihl]
 |check c hc=>simp[longN,longL,Acf hc]
 |skip=>simp[longN,longL]
 |stop=>simp[longN,longL]
theorem Arr{n:Nd}(h:FV n):longN n=false:=by
 cases h with
 |var s h=>simp[longN,longL,I9 h]
 |arr s m h h0 h1=>simp[longN,longL,I9 h]
theorem Arp{n:Nd}(h:FP n):longN n=false:=by
 cases h with
 |mk ds l hd hl=>
  have hb:longN (.mk 30 [] 0 l)=false:=by simp[longN,Qs fun x hx=>Arq (hl x hx)]
  have:=Qs (l:=ds++[.mk 30 [] 0 l]) fun x hx=>by
   rcases zzq47.1 hx with h|h
   ·exact Arr (hd x h)
   ·simp at h;subst h;exact hb
  simp[longN,this]
noncomputable def Uu(a b:Nd):Bool:=@decide (a=b) (Classical.propDecidable _)
theorem Qy{a b:Nd}:Uu a b=true↔a=b:=by unfold Uu;exact @decide_eq_true_iff _ (Classical.propDecidable _)
noncomputable def Hb(n:Nd):List UInt8×Bool:=
 if Oy n||(n.kids.isEmpty||longN n)then([],false)
 else(Xk n,!(Xk n==[])&&((E8 (Xk n)).2.1==0&&Uu (E8 (Xk n)).1 n))
theorem Akf{s:List UInt8}(h:(E8 s).2.1=0):s.length≤4000:=by
 have hw:(C4 s).2.1=0:=by
  unfold E8 at h;split at h
  ·assumption
  ·exact h
 unfold C4 at hw;split at hw
 ·simp at hw
 ·omega
theorem Al9(n:Nd):(Hb n).2=Do n∧(Do n=true→(Hb n).1=J5 n):=by
 have key:Do n=true→Hb n=(J5 n,true):=by
  intro h;have hf:=Su h;obtain⟨fp,hc,hd⟩:=hf;have hp:=Aju fp;simp only[Do,Da,zzq56,Mh,J9]at h;obtain⟨_,⟨h1,h2⟩,h3⟩:=h;have hb:=Al7 fp hc h3;have hk:n.kids.isEmpty=false:=by cases fp with|mk ds l hd hl=>simp[Nd.kids]
  have hl:Oy n=false:=by simp[Oy];omega
  unfold Hb;rw[if_neg (by simp[hk,hl,Arp fp]),hp,hb,h1];simp[h3,Qy]
 refine⟨?_,fun h=>by rw[key h]⟩;cases hs:Do n with
 |true=>rw[key hs]
 |false=>
  cases hp:(Hb n).2 with
  |false=>rfl
  |true=>
   exfalso;unfold Hb at hp;split at hp
   ·simp at hp
   ·simp only[Da,zzq56,Mh,Qy]at hp;obtain⟨h1,h2,h3⟩:=hp;obtain⟨fp,hc,hd⟩:=Ajq h2;have hl:=Akf h2;rw[h3]at fp hc hd;rw[Aju fp]at h1 h2 hl;have hk:n.kind=40:=by cases fp;rfl
    have:Do n=true:=by simp[Do,hk,Td,hc,hd,Zp fp,h1,hl,h2]
    rw[this]at hs;cases hs
end Go.V
namespace Go.V
open Go
section
variable {X:Cx}{B:Bx}{E:Env}{S:St}{w:World}{F:C3}{R:AE→St→Prop}
theorem Inv.wkB(hI:Inv X E S w){b r j:Nat}{rows:List (List AV)}{cs:List AV}{x y:AV}(hb:S.boxes[b]?=some rows)(hr:rows[r]?=some cs)(hc:cs[j]?=some x)(hw:Ren true [] [] x y) :
 Inv X E ⟨S.boxes.set b (rows.set r (cs.set j y)),S.toks⟩ w:=by
 refine hI.recell hb (by simp) (fun q hq=>?_) fun blk sz arr te hB hh k q p z v hk hp hv=>?_
 ·rcases Wr hq with hq|rfl
  ·exact⟨q,hq,rfl⟩
  ·exact⟨cs,Bh hr,by simp⟩
 ·obtain⟨arr',e,hh',hs,hl,hrel⟩:=hI.box b blk sz rows hB hb;rw[hh]at hh';cases hh';rcases Ep hk with⟨rfl,rfl⟩|⟨_,hk⟩
  ·rcases Ep hp with⟨rfl,rfl⟩|⟨_,hp⟩
   ·exact hw.less (hrel _ cs _ x v hr hc hv)
   ·exact hrel _ cs p z v hr hp hv
  ·exact hrel k q p z v hk hp hv
theorem Rl{K:List Item}(b r j:Nat){rows:List (List AV)}{cs:List AV}{x:AV}(y:AV){bx:List (List (List AV))}(hk:AK X B K F ⟨bx,S.toks⟩ R)(hb:S.boxes[b]?=some rows:=by rfl)(hr:rows[r]?=some cs:=by rfl)(hc:cs[j]?=some x:=by rfl)
 (hbx:S.boxes.set b (rows.set r (cs.set j y))=bx:=by rfl) [hw:RinC [] [] x y]:AK X B K F S R:=by
 subst hbx;intro E w a b' cs' hI hF hn hm hb';exact hk E w a b' cs' (hI.wkB hb hr hc hw.s) hF (by simpa using hn) hm hb'
theorem Ace{K:List Item}(b n m:Nat){bx:List (List (List AV))}{tk:List Nat}(hb:S.boxes[b]?=some (List.replicate n [.sl [] .tight]))(hm:S.toks.length=m)
 (hbx:S.boxes.set b ((List.range n).map fun i=>[.sl [] (.tok (m+i))])=bx)(htk:S.toks++List.replicate n 0=tk)(hk:AK X B K F ⟨bx,tk⟩ R):AK X B K F S R:=by
 subst hm;subst hbx;subst htk;have rowsK:∀k,k≤n→((List.range k).map fun i=>[AV.sl [] (.tok (S.toks.length+i))]).length=k:=fun k _=>by simp
 have key:∀q k,q+k=n→AK X B K F ⟨S.boxes.set b (((List.range k).map fun i=>[AV.sl [] (.tok (S.toks.length+i))])++List.replicate q [.sl [] .tight]),S.toks++List.replicate k 0⟩ R:=by
  intro q
  induction q with
  |zero=>
   intro k hk';have:k=n:=by omega
   subst this;simpa using hk
  |succ q ih=>
   intro k hk';have hlt:b<S.boxes.length:=Aa hb;have h1:=ih (k+1) (by omega);refine Ej (m:=S.toks.length+k) b k 0 (rows:=((List.range k).map fun i=>[AV.sl [] (.tok (S.toks.length+i))])++List.replicate (q+1) [.sl [] .tight]) (cs:=[.sl [] .tight]) (sl:=[]) ?_ ?_ rfl ?_ ?_ ?_ h1
   ·simp[hlt]
   ·rw[Gj (by simp)];simp[Ao7]
   ·simp
   ·simp only[List.set_set];congr 1;rw[Gi _ _ (by simp),List.range_succ];simp[List.replicate_succ]
   ·simp[List.replicate_succ']
 have h0:=key n 0 (by omega);have e:S.boxes.set b (List.replicate n [.sl [] .tight])=S.boxes:=by
  apply Abo;intro i;by_cases hi:b=i
  ·subst hi;have:=Aa hb;rw[Et this,hb]
  ·rw[Fj hi]
 simp only[List.range_zero,List.map_nil,U8,List.replicate_zero,G4]at h0;rw[e]at h0;exact h0
instance(priority:=low){bx:List (List (List AV))}{tk:List Nat}{n m b:Nat}{cs cs':List AV} [h1:BoxC bx b [cs]] [h2:LeC n b] [h4:FzLC ⟨bx,tk⟩ n m cs cs']:FzC ⟨bx,tk⟩ n m (.ptr b 0 0) (.cptr cs'):=
 ⟨.ptr b 0 0 [cs] cs cs' h2.h h1.h rfl (by simpa using h4.s.get.1) (fun j x y hx hy=>h4.s.get.2 j x y (by simpa using hx) hy)⟩
end
end Go.V
namespace Go.V
open Go Go.Proofs Go.Proofs.Tryz
theorem Af5(s p:List UInt8):(J7 s p).length≤s.length:=by unfold J7;split<;>simp
theorem Asx(a b:List UInt8):(Tl a b).length≤1:=by unfold Tl;split<;>simp
theorem Ae4:∀(ws:Me)(a:List UInt8),(∀w,w∈ws→w.length≤21)→(Ha a ws).length≤22*ws.length
 |[],a,_=>by simp[Ha]
 |b::ws,a,h=>by
  have h1:=Ae4 ws b fun w hw=>h w (by simp[hw]);have h2:=Asx a b;have h3:=Af5 b [32];have h4:=h b (by simp);simp only[Ha,Es,Nl];omega
def Xh(ws:Me):Prop:=∀w,w∈ws→w.length≤21
theorem Apv(ws:Me)(h:Xh ws):(Pk ws).length≤22*ws.length:=by
 cases ws with
 |nil=>simp[Pk]
 |cons b ws=>
  have h1:=Ae4 ws b fun w hw=>h w (by simp[hw]);have h3:=Af5 b [32];have h4:=h b (by simp);simp only[Pk,Es,Nl];omega
theorem B2{a b:Me}(ha:Xh a)(hb:Xh b):Xh (a++b):=fun w hw=>(zzq47.1 hw).elim (ha w) (hb w)
theorem Bp{a:List UInt8}(h:a.length≤21):Xh [a]:=fun w hw=>by simp at hw;subst hw;exact h
theorem Ez{a:List UInt8}{l:Me}(h:a.length≤21)(hl:Xh l):Xh (a::l):=fun w hw=>by
 rcases zzq13.1 hw with rfl|hw
 ·exact h
 ·exact hl w hw
theorem Ahu:Xh []:=fun w hw=>by cases hw
theorem Gl(ws:Me)(h:Nat)(hw:Xh ws):(Em ws h).length≤2*h+22*ws.length+1:=by
 have:=Apv ws hw;simp[Em];omega
theorem PrN.get{n:Nd}(h:PrN n):n.name.length≤8∧-9223372036854775808≤n.num∧n.num≤9223372036854775807∧∀x,x∈n.kids→PrN x:=by
 cases h with|mk k s m ks hs h0 h1 hk=>exact⟨hs,h0,h1,hk⟩
theorem Anx{m:Int}(h0:-9223372036854775808≤m)(h1:m≤9223372036854775807):(Lib.itoa m).length≤21:=Lib.itoa_length_le m h0 h1
theorem Ayn(k:Int):(Ut k).length≤21:=by have:=Adt k;omega
theorem A04{a b:Bool}{k:Int}{w:Me}(h:Xh w):Xh (Pd a b k w):=by
 unfold Pd;split
 ·exact B2 (B2 (Bp (by simp)) h) (Bp (by simp))
 ·exact h
theorem Yi(n:Nd)(h:PrN n):Xh (A2 n):=by
 induction n using Nd.ind with
 |h n ih=>
  obtain⟨hs,h0,h1,hk⟩:=h.get;have K:∀i,Xh (A2 (Bz n i)):=fun i=>by
   rcases Mq n i with h|h
   ·exact ih _ h (hk _ h)
   ·rw[h,Ae3];exact Ahu
  have E:∀i,Xh (eW (B4 n.kids) i):=fun i=>by rw[F5];exact K i
  have I:∀i a b,Xh (iW (B4 n.kids) i a b):=fun i a b=>by rw[Z6];exact A04 (K i)
  rw[Ac1];unfold Ga
  repeat' split
  ·exact Bp (Anx h0 h1)
  ·exact Bp (by omega)
  ·exact B2 (B2 (Ez (by omega) (Bp (by simp))) (E 0)) (Bp (by simp))
  ·exact Ez (by simp) (Ez (by simp) (Ez (by omega) (Bp (by simp))))
  ·exact B2 (Bp (by simp)) (I 0 _ _)
  ·exact B2 (B2 (E 0) (Bp (by simp))) (I 1 _ _)
  ·exact B2 (B2 (E 0) (Bp (by simp))) (I 1 _ _)
  ·exact B2 (B2 (I 0 _ _) (Bp (by simp))) (I 1 _ _)
  ·exact B2 (B2 (E 0) (Bp (Ayn _))) (E 1)
  ·exact Ahu
theorem Afc(l:List Nd)(h:Nat):Jj l h=l.map fun x=>Aay x h:=by
 induction l with
 |nil=>simp[Jj]
 |cons x l ih=>simp[Jj,ih]
theorem Acu(n:Nd)(h:Nat):Aay n h=(Kd n.kids (h+1),!n.kids.isEmpty):=by cases n;simp[Aay,Nd.kids]
theorem Ana(n:Nd)(h i:Nat):bT (Jj n.kids h) i=Kd (Bz n i).kids (h+1)∧bQ' (Jj n.kids h) i=!(Bz n i).kids.isEmpty:=by
 have:(Jj n.kids h).getD i ([],false)=Aay (Bz n i) h:=by
  rw[Afc];unfold Bz;cases hx:n.kids[i]? with
  |none=>simp[List.getD,hx,Acu,Cg,Kd]
  |some x=>simp[List.getD,hx]
 rw[bT,bQ',this,Acu];exact⟨rfl,rfl⟩
theorem An8(n:Nd)(h:Nat):Hp n h=Wa n.kind n.name n.num (B4 n.kids) (Jj n.kids h) h:=by cases n;simp[Hp,Nd.kind,Nd.name,Nd.num,Nd.kids]
theorem Aux(n:Nd)(h:PrN n):Xh (Vw n.kind n.name n.num (B4 n.kids)):=by
 obtain⟨hs,h0,h1,hk⟩:=h.get;have E:∀i,Xh (eW (B4 n.kids) i):=fun i=>by rw[F5];exact Yi _ (h.kid i)
 unfold Vw
 repeat' split
 ·exact Ez (by simp) (Bp (by omega))
 ·exact Ez (by simp) (Ez (by omega) (Ez (by simp) (Ez (by simp) (Bp (by simp)))))
 ·exact Ez (by simp) (Ez (by omega) (Ez (by simp) (Ez (Anx h0 h1) (Bp (by simp)))))
 ·exact B2 (Ez (by omega) (Bp (by simp))) (E 0)
 ·exact B2 (B2 (B2 (Ez (by omega) (Bp (by simp))) (E 0)) (Ez (by simp) (Bp (by simp)))) (E 1)
 ·exact Ez (by simp) (Bp (by omega))
 ·exact B2 (Bp (by simp)) (E 0)
 ·exact Bp (by simp)
 ·exact Bp (by simp)
theorem Ag1(ks:List Nd):(eW (B4 ks) 0).length+(eW (B4 ks) 1).length≤8*A3 ks:=by
 have:=(Ajb ks fun x _=>Ae2 x).1;omega
theorem Ayy(n:Nd):(Vw n.kind n.name n.num (B4 n.kids)).length≤8*A3 n.kids+5:=by
 have:=Ag1 n.kids;unfold Vw
 repeat' split
 all_goals simp
 all_goals omega
theorem Ahv{l:List Nd}{h:Nat}(hx:∀x,x∈l→(Hp x h).length≤1000*Ai x):(Kd l h).length≤1000*A3 l:=by
 induction l with
 |nil=>simp[Kd]
 |cons x l ih=>
  have h1:=hx x (by simp);have h2:=ih fun y hy=>hx y (by simp[hy]);simp only[Kd,A3,Es];omega
def cK(ks:List Nd)(i:Nat):Nat:=match ks[i]? with
 |some x=>Ai x
 |none=>0
theorem A0f(ks:List Nd):cK ks 0+cK ks 1+cK ks 2≤A3 ks:=by
 match ks with
 |[]=>simp[cK]
 |[a]=>simp[cK,A3]
 |[a,b]=>simp[cK,A3]
 |a::b::c::l=>simp[cK,A3];omega
theorem Azg(ks:List Nd)(i:Nat):(eW (B4 ks) i).length≤8*cK ks i:=by
 rw[eW,Afe];unfold cK;cases hx:ks[i]? with
 |none=>simp[List.getD,hx]
 |some x=>have:=Ae2 x;simp[List.getD,hx];omega
theorem A27(ks:List Nd)(h i:Nat)(hx:∀y,y∈ks→∀x,x∈y.kids→(Hp x (h+1)).length≤1000*Ai x):(bT (Jj ks h) i).length≤1000*cK ks i:=by
 rw[bT,Afc];unfold cK;cases hy:ks[i]? with
 |none=>simp[List.getD,hy]
 |some y=>
  have:=Ahv (hx y (Bh hy));have:=Ck y;simp[List.getD,hy,Acu];omega
theorem An9(n:Nd):∀h:Nat,PrN n→h+Dc n≤60→(Hp n h).length≤1000*Ai n:=by
 have:∀n:Nd,(∀h:Nat,PrN n→h+Dc n≤60→(Hp n h).length≤1000*Ai n)∧∀y,y∈n.kids→∀h:Nat,PrN y→h+Dc y≤60→(Hp y h).length≤1000*Ai y:=by
  intro n
  induction n using Nd.ind with
  |h n ih=>
   refine⟨fun h hp hd=>?_,fun y hy=>(ih y hy).1⟩;have hdn:=Jy n;have hcn:=Ck n;have hb:=fun i=>A27 n.kids h i fun y hy x hx=>(ih y hy).2 x hx (h+1) ((hp.get.2.2.2 y hy).get.2.2.2 x hx) (by
    have h1:=Gw hy;have h2:=Gw hx;have h3:=Jy y;omega)
   have he:=Ag1 n.kids;have b1:=hb 1;have b2:=hb 2;have e0:=Azg n.kids 0;have e1:=Azg n.kids 1;have cs:=A0f n.kids;have E:∀i,Xh (eW (B4 n.kids) i):=fun i=>by rw[F5];exact Yi _ (hp.kid i)
   have hs:=hp.get.1;rw[An8];unfold Wa;split
   ·have h1:=Gl (Vw n.kind n.name n.num (B4 n.kids)++[[59]]) h (B2 (Aux n hp) (Bp (by simp)));have h2:=Ayy n;simp at h1;omega
   ·have l1:=Gl [[125]] h (Bp (by simp));have l2:=Gl [[125],Ir,[123]] h (Ez (by simp) (Ez (by simp) (Bp (by simp))));have l0:=Gl [] h Ahu;have a1:=Gl ([V3]++eW (B4 n.kids) 0++[[123]]) h (B2 (B2 (Bp (by simp)) (E 0)) (Bp (by simp)));have a2:=Gl ([Gp]++eW (B4 n.kids) 0++[[123]]) h (B2 (B2 (Bp (by simp)) (E 0)) (Bp (by simp)));have a3:=Gl ([L8,n.name,Jl]++eW (B4 n.kids) 0++[wTo]++eW (B4 n.kids) 1++[[123]]) h
     (B2 (B2 (B2 (B2 (Ez (by simp) (Ez (by omega) (Bp (by simp)))) (E 0)) (Bp (by simp))) (E 1)) (Bp (by simp)))
    simp at l1 l2 l0 a1 a2 a3;unfold cpT
    repeat' split
    all_goals simp
    all_goals omega
 exact(this n).1
abbrev bK(A:AV)(s:List UInt8)(ws:Me)(h:Int):List AV:=[A,.buf 5 s 0,.sl (Dj ws) (.tok 2),vi h]
def HS(x:Nd):Prop:=∀(b:Bool)(s:List UInt8)(h:Nat),h+Dc x≤60→s.length+(Hp x h).length≤1000000000 →
 Hands X 266 [.ptr 0 0 0,nd x] ⟨[[bN (Nm 312 0 b) s h]],[s.length]⟩ (.tup []) ⟨[[bN (.ptr 0 0 0) (s++Hp x h) h]],[(s++Hp x h).length]⟩
def N4(x:Nd)(ws:Me)(h:Nat):List UInt8:=Em (ws++[[123]]) h++Kd x.kids (h+1)
def HBk(x:Nd):Prop:=∀(b:Bool)(s:List UInt8)(ws:Me)(h:Nat),h+Dc x≤60→Xh ws→ws.length≤900000→s.length+(N4 x ws h).length≤1000000000 →
 Hands X 315 [.ptr 0 0 0,nd x] ⟨[[bP (Nm 312 0 b) s ws h]],[s.length,ws.length]⟩ (.tup [])
  ⟨[[bK (.ptr 0 0 0) (s++N4 x ws h) [[125]] h]],[(s++N4 x ws h).length,(ws++[[123]]).length,1]⟩
theorem PutC.f{r:List (List AV)}{xs:Me}(hp:PutC r xs)(s:List UInt8)(ws:Me)(h:Int)(hw:ws.length≤1000000000) :
 Hands X 294 [.ptr 0 0 0,.sl r .no] ⟨[[bP (.ptr 0 0 0) s ws h]],[s.length,ws.length]⟩ (.tup []) ⟨[[bP (.ptr 0 0 0) s (ws++xs) h]],[s.length,(ws++xs).length]⟩:=hp false s ws h hw
theorem PutC.n{r:List (List AV)}{xs:Me}(hp:PutC r xs)(b:Bool)(s:List UInt8)(h:Int) :
 Hands X 294 [.ptr 0 0 0,.sl r .no] ⟨[[[Nm 312 0 b,.buf 5 s 0,.sl [] (.tok 1),vi h]]],[s.length,0]⟩ (.tup []) ⟨[[bP (Nm 312 0 b) s xs h]],[s.length,xs.length]⟩:=hp b s [] h (by simp)
theorem PutC.m{r:List (List AV)}{xs:Me}(hp:PutC r xs)(s:List UInt8)(h:Int) :
 Hands X 294 [.ptr 0 0 0,.sl r .no] ⟨[[[.ptr 0 0 0,.buf 5 s 0,.sl [] (.tok 1),vi h]]],[s.length,0]⟩ (.tup []) ⟨[[bP (.ptr 0 0 0) s xs h]],[s.length,xs.length]⟩:=hp false s [] h (by simp)
theorem Azd(b:Bool)(s:List UInt8)(h:Int):RinB [0] [0] [[bN (Nm 312 0 b) s h]] [[bN (Nm 312 0 b) s h]]:=
 have h1:RinC [0] [0] (Nm 312 0 b) (Nm 312 0 b):=inferInstance;have h2:RinC [0] [0] (.buf 5 s 0) (.buf 5 s 0):=inferInstance;have h3:Ren true [0] [0] (.sl [] .tight) (.sl [] .tight):=Zq .nil (.inr (.inr (.inr (.inl ⟨rfl,rfl⟩))));have h4:RinC [0] [0] (vi h) (vi h):=inferInstance
 ⟨.cons (.cons (.cons h1.s (.cons h2.s (.cons h3 (.cons h4.s .nil)))) .nil) .nil⟩
theorem A26(s:List UInt8)(h:Int):RinB [0] [0] [[bN (.ptr 0 0 0) s h]] [[bN (.ptr 0 0 0) s h]]:=Azd false s h
theorem HS.f{x:Nd}(hx:HS x)(s:List UInt8)(h:Nat)(hd:h+Dc x≤60)(hl:s.length+(Hp x h).length≤1000000000) :
 Hands X 266 [.ptr 0 0 0,nd x] ⟨[[bN (.ptr 0 0 0) s h]],[s.length]⟩ (.tup []) ⟨[[bN (.ptr 0 0 0) (s++Hp x h) h]],[(s++Hp x h).length]⟩:=hx false s h hd hl
theorem HBk.f{x:Nd}(hx:HBk x)(s:List UInt8)(ws:Me)(h:Nat)(hd:h+Dc x≤60)(hw:Xh ws)(hwl:ws.length≤900000)(hl:s.length+(N4 x ws h).length≤1000000000) :
 Hands X 315 [.ptr 0 0 0,nd x] ⟨[[bP (.ptr 0 0 0) s ws h]],[s.length,ws.length]⟩ (.tup [])
  ⟨[[bK (.ptr 0 0 0) (s++N4 x ws h) [[125]] h]],[(s++N4 x ws h).length,(ws++[[123]]).length,1]⟩:=hx false s ws h hd hw hwl hl
theorem Ho(ws:Me)(h:Nat):(Em ws h).length=2*h+(Pk ws).length+1:=by simp[Em];omega
theorem Un{ws:Me}(h:Xh ws):∀x,x∈ws→x.length≤1000000:=fun x hx=>by have:=h x hx;omega
theorem Anr(x:Nd)(hy:∀y,y∈x.kids→HS y)(hl:x.kids.length≤100000):HBk x:=by
 intro b s ws h hd hw hwl hb;have dx:=Jy x;have e1:(N4 x ws h).length=(Em (ws++[[123]]) h).length+(Kd x.kids (h+1)).length:=by simp[N4]
 have e2:=Ho (ws++[[123]]) h;have hi1:IntKind.i64.wrap ((h:Int)+1)=((h+1:Nat):Int):=(Ac (by omega) (by omega)).trans (by omega);have hi2:IntKind.i64.wrap (((h+1:Nat):Int)-1)=(h:Int):=(Ac (by omega) (by omega)).trans (by omega);refine Hands.run (n:=1) (m:=2) func315 ?_;refine Ae (τ':=[0,1]) [0] [0,1] (Jc [123] b s ws h (by omega)) ?_;refine Ae (τ':=[0]) [0] [0] (Ow b s (ws++[[123]]) h (by omega) (by simp<;>omega) (by omega) (by omega) (Un (B2 hw (Bp (by simp))))) ?_;refine Ba ⟨[[bN (.ptr 0 0 0) (s++Em (ws++[[123]]) h) ((h+1:Nat):Int)],[Af x]],[(s++Em (ws++[[123]]) h).length,(ws++[[123]]).length]⟩ ?_ (by rw[←hi1]<;>rfl);refine Av (ι:=Nat×List UInt8) 2 2 (fun i=>i.1≤x.kids.length∧i.2++Kd (x.kids.drop i.1) (h+1)=s++N4 x ws h) (fun i=>[(21,vi i.1),(20,vi x.kids.length),(19,.sl (Ap x.kids) .no),(0,.ptr 0 0 0)])
  (fun i=>⟨[[bN (.ptr 0 0 0) i.2 ((h+1:Nat):Int)],[Af x]],[i.2.length,(ws++[[123]]).length]⟩) (fun i=>x.kids.length-i.1) ?_ (0,s++Em (ws++[[123]]) h) ⟨Cc _,by simp[N4]⟩ ⟨rfl,by rw[←Ad];rfl,rfl,rfl,trivial⟩ rfl rfl rfl rfl rfl
  (fun _=>inferInstance) (fun _=>inferInstance)
 rintro⟨i,out⟩ ⟨hi,hT⟩ IH;simp only at hi hT IH⊢;have hol:=congrArg List.length hT;simp only[Es]at hol;refine Dh (fun h1=>?_) (fun h1=>?_)
 ·have hlt:i<x.kids.length:=by have:=A7 h1;omega
  obtain⟨y,hyi⟩:=Ab x.kids hlt;have hmem:=Bh hyi;have hdr:=B5 hyi;rw[hdr]at hT hol;simp only[Kd,Es]at hT hol;refine B7 i (by omega) (Am hyi) ?_;refine Ae (hb:=A26 out ((h+1:Nat):Int)) (τ':=[0]) [0] [0] ((hy y hmem).f out (h+1) (by have:=Gw hmem;omega) (by omega)) ?_;exact IH (i+1,out++Hp y (h+1)) ⟨hlt,by simpa using hT⟩ (by simp only;omega) _ _ ⟨vsx (by omega),rfl,rfl,rfl,trivial⟩ rfl rfl rfl
 ·have hie:i=x.kids.length:=by have:=Bd h1;omega
  subst hie;rw[Ad9 (Bo _)]at hT;simp only[Kd,G4]at hT;subst hT;refine Ba ⟨[[bN (.ptr 0 0 0) (s++N4 x ws h) h],[Af x]],[(s++N4 x ws h).length,(ws++[[123]]).length]⟩ ?_ (by rw[←hi2]<;>rfl);refine Ej 0 0 2 (bx:=[[[.ptr 0 0 0,.buf 5 (s++N4 x ws h) 0,.sl [] (.tok 2),vi h]],[Af x]]) (tk:=[(s++N4 x ws h).length,(ws++[[123]]).length,0]) rfl rfl rfl rfl rfl rfl ?_;refine Ae (τ':=[0,2]) [0] [0,2] ((Jc [125]).m (s++N4 x ws h) h) ?_;exact D6 func315 rfl rfl
def cpP(k:Int)(s:List UInt8)(c:List (Int×Me))(b:List (List UInt8×Bool))(h:Nat):List UInt8:=
 if k=24 then Em ([V3]++eW c 0++[[123]]) h++bT b 1++(if bQ' b 2 then Em [[125],Ir,[123]] h++bT b 2 else[])
 else if k=25 then Em ([Gp]++eW c 0++[[123]]) h++bT b 1
 else if k=26 then Em ([L8,s,Jl]++eW c 0++[wTo]++eW c 1++[[123]]) h++bT b 2
 else[]
def cpW(k:Int):Me:=if k=24 then[[125]]else if k=25 then[[125]]else if k=26 then[[125]]else[]
def cpB(k:Int)(b:Bool):Bool:=if k=24 then false else if k=25 then false else if k=26 then false else b
theorem A0o(k:Int)(s:List UInt8)(c:List (Int×Me))(b:List (List UInt8×Bool))(h:Nat):cpT k s c b h=cpP k s c b h++Em (cpW k) h:=by
 unfold cpT cpP cpW
 repeat' split
 all_goals simp
theorem Agu(n:Nd)(h i:Nat):bT (Jj n.kids h) i=Kd (Bz n i).kids (h+1):=(Ana n h i).1
theorem Az9(n:Nd)(h i:Nat):bQ' (Jj n.kids h) i=!(Bz n i).kids.isEmpty:=(Ana n h i).2
theorem Afb(n:Nd)(i:Nat){h:Nat}(hd:h+Dc n≤60):h+Dc (Bz n i)≤60:=by
 have:=Jy n;rcases Mq n i with h|h
 ·have:=Gw h;omega
 ·rw[h];show _+1≤60;omega
set_option maxHeartbeats 2000000 in
theorem Alm(n:Nd)(hp:PrN n)(hsz:Ai n≤1000)(hk:∀i,HBk (Bz n i))(b:Bool)(s:List UInt8)(h:Nat)(hd:h+Dc n≤60)(hl:s.length+(cpP n.kind n.name (B4 n.kids) (Jj n.kids h) h).length≤1000000000) :
 Hands X 298 [.ptr 0 0 0,nd n] ⟨[[bN (Nm 312 0 b) s h]],[s.length]⟩ (.tup [])
  ⟨[[bQ (Nm 312 0 (cpB n.kind b)) (s++cpP n.kind n.name (B4 n.kids) (Jj n.kids h) h) (cpW n.kind) h]],[(s++cpP n.kind n.name (B4 n.kids) (Jj n.kids h) h).length]⟩:=by
 have hkl:n.kids.length≤4000000000:=by have:=Bn n.kids;have:=Ck n;omega
 have q0:=Ado n 0 (by omega) hkl;have q1:=Ado n 1 (by omega) hkl;have q2:=Ado n 2 (by omega) hkl;have e0:=Ahe (Bz n 0) (hp.kid 0);have e1:=Ahe (Bz n 1) (hp.kid 1);have w0:=Yi (Bz n 0) (hp.kid 0);have w1:=Yi (Bz n 1) (hp.kid 1);have he:=Ag1 n.kids;have hcn:=Ck n;rw[F5,F5]at he;have kc:∀i,Ai (Bz n i)≤1000:=fun i=>by
  rcases Mq n i with h|h
  ·have:=Ex h;omega
  ·rw[h];decide
 have c0:=kc 0;have c1:=kc 1;have d1:=Afb n 1 hd;have d2:=Afb n 2 hd;have hs8:=hp.get.1;refine Hands.run (n:=1) (m:=1) func298 ?_;refine Ag (fun h1=>?_) (fun h1=>?_)
 ·have h1':n.kind=24:=by simpa using h1
  have hB:cpB n.kind b=false:=by unfold cpB;rw[if_pos h1']
  have hW:cpW n.kind=[[125]]:=by unfold cpW;rw[if_pos h1']
  have hP:cpP n.kind n.name (B4 n.kids) (Jj n.kids h) h=N4 (Bz n 1) ([V3]++A2 (Bz n 0)) h++(if !(Bz n 2).kids.isEmpty then N4 (Bz n 2) ([[125]]++[Ir]) h else[]):=by
   unfold cpP;rw[if_pos h1',F5,Agu,Az9,Agu];simp[N4]
  rw[hB,hW];rw[hP]at hl⊢;simp only[Es]at hl;refine Ej 0 0 2 (bx:=[[[Nm 312 0 b,.buf 5 s 0,.sl [] (.tok 1),vi h]],[Af n]]) (tk:=[s.length,0]) rfl rfl rfl rfl rfl rfl ?_;refine Ae (τ':=[0,1]) [0] [0,1] ((Jc V3).n b s h) ?_;refine Al q0 ?_;refine Ae (τ':=[0,1]) [0] [0,1] (e0 (by omega) b s ([V3]) h (by simp<;>omega)) ?_;refine Al q1 ?_;refine Ae (τ':=[0,1,2]) [0] [0,1] (hk 1 b s ([V3]++A2 (Bz n 0)) h d1 (B2 ((Bp (by simp))) w0) (by simp<;>omega) (by omega)) ?_;refine Al q2 ?_;refine Ag (fun h2=>?_) (fun h2=>?_)
  ·have h2':(!(Bz n 2).kids.isEmpty)=true:=by
    have:=A7 h2;rw[Ad]at this;cases hh:(Bz n 2).kids with
    |nil=>rw[hh]at this;simp at this
    |cons y l=>rfl
   rw[if_pos h2']at hl⊢;rw[←Fi];refine Ae (τ':=[0,2]) [0] [0,2] ((Jc Ir).f (s++N4 (Bz n 1) ([V3]++A2 (Bz n 0)) h) [[125]] h (by simp)) ?_;refine Al q2 ?_;refine Ae (τ':=[0,2,3]) [0] [0,2] ((hk 2).f (s++N4 (Bz n 1) ([V3]++A2 (Bz n 0)) h) ([[125]]++[Ir]) h d2 (B2 (Bp (by simp)) (Bp (by simp))) (by simp) (by simp only[Es];omega)) ?_;refine Rl 0 0 2 (.sl (Dj [[125]]) .no) ?_;exact D6 func298 rfl rfl
  ·have h2':¬(!(Bz n 2).kids.isEmpty)=true:=by
    have:=Bd h2;rw[Ad]at this;cases hh:(Bz n 2).kids with
    |nil=>simp
    |cons y l=>rw[hh]at this;simp at this
   rw[if_neg h2',G4]at *;refine Rl 0 0 2 (.sl (Dj [[125]]) .no) ?_;exact D6 func298 rfl rfl
 have h1':n.kind≠24:=by simpa using h1
 refine Ag (fun h2=>?_) (fun h2=>?_)
 ·have h2':n.kind=25:=by simpa using h2
  have hB:cpB n.kind b=false:=by unfold cpB;rw[if_neg h1',if_pos h2']
  have hW:cpW n.kind=[[125]]:=by unfold cpW;rw[if_neg h1',if_pos h2']
  have hP:cpP n.kind n.name (B4 n.kids) (Jj n.kids h) h=N4 (Bz n 1) ([Gp]++A2 (Bz n 0)) h:=by
   unfold cpP;rw[if_neg h1',if_pos h2',F5,Agu];simp[N4]
  rw[hB,hW];rw[hP]at hl⊢;refine Ej 0 0 2 (bx:=[[[Nm 312 0 b,.buf 5 s 0,.sl [] (.tok 1),vi h]],[Af n]]) (tk:=[s.length,0]) rfl rfl rfl rfl rfl rfl ?_;refine Ae (τ':=[0,1]) [0] [0,1] ((Jc Gp).n b s h) ?_;refine Al q0 ?_;refine Ae (τ':=[0,1]) [0] [0,1] (e0 (by omega) b s ([Gp]) h (by simp<;>omega)) ?_;refine Al q1 ?_;refine Ae (τ':=[0,1,2]) [0] [0,1] (hk 1 b s ([Gp]++A2 (Bz n 0)) h d1 (B2 ((Bp (by simp))) w0) (by simp<;>omega) (by omega)) ?_;refine Rl 0 0 2 (.sl (Dj [[125]]) .no) ?_;exact D6 func298 rfl rfl
 have h2':n.kind≠25:=by simpa using h2
 refine Ag (fun h3=>?_) (fun h3=>?_)
 ·have h3':n.kind=26:=by simpa using h3
  have hB:cpB n.kind b=false:=by unfold cpB;rw[if_neg h1',if_neg h2',if_pos h3']
  have hW:cpW n.kind=[[125]]:=by unfold cpW;rw[if_neg h1',if_neg h2',if_pos h3']
  have hP:cpP n.kind n.name (B4 n.kids) (Jj n.kids h) h=N4 (Bz n 2) ([L8,n.name,Jl]++A2 (Bz n 0)++[wTo]++A2 (Bz n 1)) h:=by
   unfold cpP;rw[if_neg h1',if_neg h2',if_pos h3',F5,F5,Agu];simp[N4]
  rw[hB,hW];rw[hP]at hl⊢;refine Ej 0 0 2 (bx:=[[[Nm 312 0 b,.buf 5 s 0,.sl [] (.tok 1),vi h]],[Af n]]) (tk:=[s.length,0]) rfl rfl rfl rfl rfl rfl ?_;refine Ae (τ':=[0,1]) [0] [0,1] ((A4r L8 n.name Jl).n b s h) ?_;refine Al q0 ?_;refine Ae (τ':=[0,1]) [0] [0,1] (e0 (by omega) b s ([L8,n.name,Jl]) h (by simp<;>omega)) ?_;refine Ae (τ':=[0,1]) [0] [0,1] (Jc wTo b s ([L8,n.name,Jl]++A2 (Bz n 0)) h (by simp<;>omega)) ?_;refine Al q1 ?_;refine Ae (τ':=[0,1]) [0] [0,1] (e1 (by omega) b s ([L8,n.name,Jl]++A2 (Bz n 0)++[wTo]) h (by simp<;>omega)) ?_;refine Al q2 ?_;refine Ae (τ':=[0,1,2]) [0] [0,1] (hk 2 b s ([L8,n.name,Jl]++A2 (Bz n 0)++[wTo]++A2 (Bz n 1)) h d2
   (B2 (B2 (B2 (Ez (by simp) (Ez (by omega) (Bp (by simp)))) w0) (Bp (by simp))) w1) (by simp<;>omega) (by omega)) ?_
  refine Rl 0 0 2 (.sl (Dj [[125]]) .no) ?_;exact D6 func298 rfl rfl
 have h3':n.kind≠26:=by simpa using h3
 have hB:cpB n.kind b=b:=by unfold cpB;rw[if_neg h1',if_neg h2',if_neg h3']
 have hW:cpW n.kind=[]:=by unfold cpW;rw[if_neg h1',if_neg h2',if_neg h3']
 have hP:cpP n.kind n.name (B4 n.kids) (Jj n.kids h) h=[]:=by unfold cpP;rw[if_neg h1',if_neg h2',if_neg h3']
 rw[hB,hW,hP,G4];refine Rl 0 0 2 (.sl (Dj []) .no) ?_;exact D6 func298 rfl rfl
set_option maxHeartbeats 2000000 in
theorem A0u(n:Nd)(hp:PrN n)(hsz:Ai n≤1000)(hk:∀i,HBk (Bz n i)):HS n:=by
 intro b s h hd hl;have hkl:n.kids.length≤4000000000:=by have:=Bn n.kids;have:=Ck n;omega
 have q0:=Ado n 0 (by omega) hkl;have q1:=Ado n 1 (by omega) hkl;have e0:=Ahe (Bz n 0) (hp.kid 0);have e1:=Ahe (Bz n 1) (hp.kid 1);have he:=Ag1 n.kids;have hcn:=Ck n;rw[F5,F5]at he;have kc:∀i,Ai (Bz n i)≤1000:=fun i=>by
  rcases Mq n i with h|h
  ·have:=Ex h;omega
  ·rw[h];decide
 have c0:=kc 0;have c1:=kc 1;have hn:=hp.get;have hst:=Aux n hp;have hO:Hp n h=if Ns n.kind then Em (Vw n.kind n.name n.num (B4 n.kids)++[[59]]) h else cpP n.kind n.name (B4 n.kids) (Jj n.kids h) h++Em (cpW n.kind) h:=by
  rw[An8];unfold Wa;split
  ·rfl
  ·rw[A0o]
 refine Hands.run (n:=1) (m:=1) func266 ?_;refine Ag (fun h31=>?_) (fun h31=>?_)
 ·have h31':n.kind=31:=by simpa using h31
  have hT:Vw n.kind n.name n.num (B4 n.kids)=[Nk,n.name]:=by unfold Vw;rw[if_pos h31']<;>rfl
  rw[if_pos (by simp[Ns,h31']),hT]at hO;rw[hT]at hst;rw[hO]at hl⊢;have hfl:=Ho ([Nk,n.name]++[[59]]) h;have hwl:=Gl ([Nk,n.name]++[[59]]) h (B2 hst (Bp (by simp)));refine Ej 0 0 2 (bx:=[[[Nm 312 0 b,.buf 5 s 0,.sl [] (.tok 1),vi h]],[Af n]]) (tk:=[s.length,0]) rfl rfl rfl rfl rfl rfl ?_;refine Ae (τ':=[0,1]) [0] [0,1] ((Aql Nk n.name).n b s h) ?_;refine Ae (τ':=[0,1]) [0] [0,1] (Jc [59] b s ([Nk,n.name]) h (by simp<;>omega)) ?_;refine Ae (τ':=[0]) [0] [0] (Ow b s ([Nk,n.name]++[[59]]) h (by omega) (by simp<;>omega) (by omega) (by omega) (Un (B2 hst (Bp (by simp))))) ?_;exact D6 func266 rfl rfl
 have h31':n.kind≠31:=by simpa using h31
 refine Ag (fun h32=>?_) (fun h32=>?_)
 ·have h32':n.kind=32:=by simpa using h32
  refine Al (Al5 n.num hn.2.1 hn.2.2.1) ?_;refine Ag (fun hm=>?_) (fun hm=>?_)
  ·have hm':n.num=-1:=by simpa using hm
   have hT:Vw n.kind n.name n.num (B4 n.kids)=[Ff,n.name,[91],[63],[93]]:=by unfold Vw;rw[if_neg h31',if_pos h32',if_pos hm']<;>rfl
   rw[if_pos (by simp[Ns,h32']),hT]at hO;rw[hT]at hst;rw[hO]at hl⊢;have hfl:=Ho ([Ff,n.name,[91],[63],[93]]++[[59]]) h;have hwl:=Gl ([Ff,n.name,[91],[63],[93]]++[[59]]) h (B2 hst (Bp (by simp)));refine Ej 0 0 2 (bx:=[[[Nm 312 0 b,.buf 5 s 0,.sl [] (.tok 1),vi h]],[Af n]]) (tk:=[s.length,0]) rfl rfl rfl rfl rfl rfl ?_;refine Ae (τ':=[0,1]) [0] [0,1] ((A3v Ff n.name [91] [63] [93]).n b s h) ?_;refine Ae (τ':=[0,1]) [0] [0,1] (Jc [59] b s ([Ff,n.name,[91],[63],[93]]) h (by simp<;>omega)) ?_;refine Ae (τ':=[0]) [0] [0] (Ow b s ([Ff,n.name,[91],[63],[93]]++[[59]]) h (by omega) (by simp<;>omega) (by omega) (by omega) (Un (B2 hst (Bp (by simp))))) ?_;exact D6 func266 rfl rfl
  ·have hm':¬n.num=-1:=by simpa using hm
   have hT:Vw n.kind n.name n.num (B4 n.kids)=[Ff,n.name,[91],Lib.itoa n.num,[93]]:=by unfold Vw;rw[if_neg h31',if_pos h32',if_neg hm']<;>rfl
   rw[if_pos (by simp[Ns,h32']),hT]at hO;rw[hT]at hst;rw[hO]at hl⊢;have hfl:=Ho ([Ff,n.name,[91],Lib.itoa n.num,[93]]++[[59]]) h;have hwl:=Gl ([Ff,n.name,[91],Lib.itoa n.num,[93]]++[[59]]) h (B2 hst (Bp (by simp)));refine Ej 0 0 2 (bx:=[[[Nm 312 0 b,.buf 5 s 0,.sl [] (.tok 1),vi h]],[Af n]]) (tk:=[s.length,0]) rfl rfl rfl rfl rfl rfl ?_;refine Ae (τ':=[0,1]) [0] [0,1] ((A3v Ff n.name [91] (Lib.itoa n.num) [93]).n b s h) ?_;refine Ae (τ':=[0,1]) [0] [0,1] (Jc [59] b s ([Ff,n.name,[91],Lib.itoa n.num,[93]]) h (by simp<;>omega)) ?_;refine Ae (τ':=[0]) [0] [0] (Ow b s ([Ff,n.name,[91],Lib.itoa n.num,[93]]++[[59]]) h (by omega) (by simp<;>omega) (by omega) (by omega) (Un (B2 hst (Bp (by simp))))) ?_;exact D6 func266 rfl rfl
 have h32':n.kind≠32:=by simpa using h32
 refine Ag (fun h21=>?_) (fun h21=>?_)
 ·have h21':n.kind=21:=by simpa using h21
  have hT:Vw n.kind n.name n.num (B4 n.kids)=[n.name,[61]]++A2 (Bz n 0):=by unfold Vw;rw[if_neg h31',if_neg h32',if_pos h21',F5]<;>rfl
  rw[if_pos (by simp[Ns,h21']),hT]at hO;rw[hT]at hst;rw[hO]at hl⊢;have hfl:=Ho ([n.name,[61]]++A2 (Bz n 0)++[[59]]) h;have hwl:=Gl ([n.name,[61]]++A2 (Bz n 0)++[[59]]) h (B2 hst (Bp (by simp)));refine Ej 0 0 2 (bx:=[[[Nm 312 0 b,.buf 5 s 0,.sl [] (.tok 1),vi h]],[Af n]]) (tk:=[s.length,0]) rfl rfl rfl rfl rfl rfl ?_;refine Ae (τ':=[0,1]) [0] [0,1] ((Aql n.name [61]).n b s h) ?_;refine Al q0 ?_;refine Ae (τ':=[0,1]) [0] [0,1] (e0 (by omega) b s ([n.name,[61]]) h (by simp<;>omega)) ?_;refine Ae (τ':=[0,1]) [0] [0,1] (Jc [59] b s ([n.name,[61]]++A2 (Bz n 0)) h (by simp<;>omega)) ?_;refine Ae (τ':=[0]) [0] [0] (Ow b s ([n.name,[61]]++A2 (Bz n 0)++[[59]]) h (by omega) (by simp<;>omega) (by omega) (by omega) (Un (B2 hst (Bp (by simp))))) ?_;exact D6 func266 rfl rfl
 have h21':n.kind≠21:=by simpa using h21
 refine Ag (fun h22=>?_) (fun h22=>?_)
 ·have h22':n.kind=22:=by simpa using h22
  have hT:Vw n.kind n.name n.num (B4 n.kids)=[n.name,[91]]++A2 (Bz n 0)++[[93],[61]]++A2 (Bz n 1):=by unfold Vw;rw[if_neg h31',if_neg h32',if_neg h21',if_pos h22',F5,F5]<;>rfl
  rw[if_pos (by simp[Ns,h22']),hT]at hO;rw[hT]at hst;rw[hO]at hl⊢;have hfl:=Ho ([n.name,[91]]++A2 (Bz n 0)++[[93],[61]]++A2 (Bz n 1)++[[59]]) h;have hwl:=Gl ([n.name,[91]]++A2 (Bz n 0)++[[93],[61]]++A2 (Bz n 1)++[[59]]) h (B2 hst (Bp (by simp)));refine Ej 0 0 2 (bx:=[[[Nm 312 0 b,.buf 5 s 0,.sl [] (.tok 1),vi h]],[Af n]]) (tk:=[s.length,0]) rfl rfl rfl rfl rfl rfl ?_;refine Ae (τ':=[0,1]) [0] [0,1] ((Aql n.name [91]).n b s h) ?_;refine Al q0 ?_;refine Ae (τ':=[0,1]) [0] [0,1] (e0 (by omega) b s ([n.name,[91]]) h (by simp<;>omega)) ?_;refine Ae (τ':=[0,1]) [0] [0,1] (Aql [93] [61] b s ([n.name,[91]]++A2 (Bz n 0)) h (by simp<;>omega)) ?_;refine Al q1 ?_;refine Ae (τ':=[0,1]) [0] [0,1] (e1 (by omega) b s ([n.name,[91]]++A2 (Bz n 0)++[[93],[61]]) h (by simp<;>omega)) ?_;refine Ae (τ':=[0,1]) [0] [0,1] (Jc [59] b s ([n.name,[91]]++A2 (Bz n 0)++[[93],[61]]++A2 (Bz n 1)) h (by simp<;>omega)) ?_;refine Ae (τ':=[0]) [0] [0] (Ow b s ([n.name,[91]]++A2 (Bz n 0)++[[93],[61]]++A2 (Bz n 1)++[[59]]) h (by omega) (by simp<;>omega) (by omega) (by omega) (Un (B2 hst (Bp (by simp))))) ?_;exact D6 func266 rfl rfl
 have h22':n.kind≠22:=by simpa using h22
 refine Ag (fun h23=>?_) (fun h23=>?_)
 ·have h23':n.kind=23:=by simpa using h23
  have hT:Vw n.kind n.name n.num (B4 n.kids)=[Is,n.name]:=by unfold Vw;rw[if_neg h31',if_neg h32',if_neg h21',if_neg h22',if_pos h23']<;>rfl
  rw[if_pos (by simp[Ns,h23']),hT]at hO;rw[hT]at hst;rw[hO]at hl⊢;have hfl:=Ho ([Is,n.name]++[[59]]) h;have hwl:=Gl ([Is,n.name]++[[59]]) h (B2 hst (Bp (by simp)));refine Ej 0 0 2 (bx:=[[[Nm 312 0 b,.buf 5 s 0,.sl [] (.tok 1),vi h]],[Af n]]) (tk:=[s.length,0]) rfl rfl rfl rfl rfl rfl ?_;refine Ae (τ':=[0,1]) [0] [0,1] ((Aql Is n.name).n b s h) ?_;refine Ae (τ':=[0,1]) [0] [0,1] (Jc [59] b s ([Is,n.name]) h (by simp<;>omega)) ?_;refine Ae (τ':=[0]) [0] [0] (Ow b s ([Is,n.name]++[[59]]) h (by omega) (by simp<;>omega) (by omega) (by omega) (Un (B2 hst (Bp (by simp))))) ?_;exact D6 func266 rfl rfl
 have h23':n.kind≠23:=by simpa using h23
 refine Ag (fun h27=>?_) (fun h27=>?_)
 ·have h27':n.kind=27:=by simpa using h27
  have hT:Vw n.kind n.name n.num (B4 n.kids)=[F7]++A2 (Bz n 0):=by unfold Vw;rw[if_neg h31',if_neg h32',if_neg h21',if_neg h22',if_neg h23',if_pos h27',F5]<;>rfl
  rw[if_pos (by simp[Ns,h27']),hT]at hO;rw[hT]at hst;rw[hO]at hl⊢;have hfl:=Ho ([F7]++A2 (Bz n 0)++[[59]]) h;have hwl:=Gl ([F7]++A2 (Bz n 0)++[[59]]) h (B2 hst (Bp (by simp)));refine Ej 0 0 2 (bx:=[[[Nm 312 0 b,.buf 5 s 0,.sl [] (.tok 1),vi h]],[Af n]]) (tk:=[s.length,0]) rfl rfl rfl rfl rfl rfl ?_;refine Ae (τ':=[0,1]) [0] [0,1] ((Jc F7).n b s h) ?_;refine Al q0 ?_;refine Ae (τ':=[0,1]) [0] [0,1] (e0 (by omega) b s ([F7]) h (by simp<;>omega)) ?_;refine Ae (τ':=[0,1]) [0] [0,1] (Jc [59] b s ([F7]++A2 (Bz n 0)) h (by simp<;>omega)) ?_;refine Ae (τ':=[0]) [0] [0] (Ow b s ([F7]++A2 (Bz n 0)++[[59]]) h (by omega) (by simp<;>omega) (by omega) (by omega) (Un (B2 hst (Bp (by simp))))) ?_;exact D6 func266 rfl rfl
 have h27':n.kind≠27:=by simpa using h27
 refine Ag (fun h28=>?_) (fun h28=>?_)
 ·have h28':n.kind=28:=by simpa using h28
  have hT:Vw n.kind n.name n.num (B4 n.kids)=[Ix]:=by unfold Vw;rw[if_neg h31',if_neg h32',if_neg h21',if_neg h22',if_neg h23',if_neg h27',if_pos h28']<;>rfl
  rw[if_pos (by simp[Ns,h28']),hT]at hO;rw[hT]at hst;rw[hO]at hl⊢;have hfl:=Ho ([Ix]++[[59]]) h;have hwl:=Gl ([Ix]++[[59]]) h (B2 hst (Bp (by simp)));refine Ej 0 0 2 (bx:=[[[Nm 312 0 b,.buf 5 s 0,.sl [] (.tok 1),vi h]],[Af n]]) (tk:=[s.length,0]) rfl rfl rfl rfl rfl rfl ?_;refine Ae (τ':=[0,1]) [0] [0,1] ((Jc Ix).n b s h) ?_;refine Ae (τ':=[0,1]) [0] [0,1] (Jc [59] b s ([Ix]) h (by simp<;>omega)) ?_;refine Ae (τ':=[0]) [0] [0] (Ow b s ([Ix]++[[59]]) h (by omega) (by simp<;>omega) (by omega) (by omega) (Un (B2 hst (Bp (by simp))))) ?_;exact D6 func266 rfl rfl
 have h28':n.kind≠28:=by simpa using h28
 refine Ag (fun h29=>?_) (fun h29=>?_)
 ·have h29':n.kind=29:=by simpa using h29
  have hT:Vw n.kind n.name n.num (B4 n.kids)=[I4]:=by unfold Vw;rw[if_neg h31',if_neg h32',if_neg h21',if_neg h22',if_neg h23',if_neg h27',if_neg h28']<;>rfl
  rw[if_pos (by simp[Ns,h29']),hT]at hO;rw[hT]at hst;rw[hO]at hl⊢;have hfl:=Ho ([I4]++[[59]]) h;have hwl:=Gl ([I4]++[[59]]) h (B2 hst (Bp (by simp)));refine Ej 0 0 2 (bx:=[[[Nm 312 0 b,.buf 5 s 0,.sl [] (.tok 1),vi h]],[Af n]]) (tk:=[s.length,0]) rfl rfl rfl rfl rfl rfl ?_;refine Ae (τ':=[0,1]) [0] [0,1] ((Jc I4).n b s h) ?_;refine Ae (τ':=[0,1]) [0] [0,1] (Jc [59] b s ([I4]) h (by simp<;>omega)) ?_;refine Ae (τ':=[0]) [0] [0] (Ow b s ([I4]++[[59]]) h (by omega) (by simp<;>omega) (by omega) (by omega) (Un (B2 hst (Bp (by simp))))) ?_;exact D6 func266 rfl rfl
 have h29':n.kind≠29:=by simpa using h29
 have hno:Ns n.kind=false:=by simp[Ns,h31',h32',h21',h22',h23',h27',h28',h29']
 rw[if_neg (by simp[hno])]at hO;rw[hO]at hl⊢;simp only[Es]at hl;have hfl:=Ho (cpW n.kind) h;have hww:Xh (cpW n.kind)∧(cpW n.kind).length≤1:=by
  unfold cpW;repeat' split
  all_goals exact⟨fun w hw=>by simp at hw<;>(subst hw;simp),by simp⟩
 have hc:=Alm n hp hsz hk b s h hd (by omega);refine Ae (hb:=Azd b s h) (τ':=[0]) [0] [0] hc ?_;rw[←Fi];refine Ae (τ':=[0]) [0] [0] (Ow (cpB n.kind b) (s++cpP n.kind n.name (B4 n.kids) (Jj n.kids h) h) (cpW n.kind) h (by omega) (by omega) (by omega) (by simp only[Es];omega) (Un hww.1)) ?_;exact Br func266 rfl rfl
theorem Apn:HBk Cg:=Anr Cg (fun y hy=>by cases hy) (by decide)
theorem Ant(n:Nd)(hp:PrN n)(hsz:Ai n≤1000):HS n∧HBk n:=by
 induction n using Nd.ind with
 |h n ih=>
  have hcn:=Ck n;have hk:∀i,HBk (Bz n i):=fun i=>by
   rcases Mq n i with h|h
   ·exact(ih _ h (hp.kid i) (by have:=Ex h;omega)).2
   ·rw[h];exact Apn
  refine⟨A0u n hp hsz hk,Anr n (fun y hy=>(ih y hy (hp.get.2.2.2 y hy) (by have:=Ex hy;omega)).1) (by have:=Bn n.kids;omega)⟩
end Go.V
namespace Go.V
open Go
section
variable {X:Cx}{B:Bx}{E:Env}{S S':St}{w:World}{F:C3}{a:Act}{N:Nat}{R:AE→St→Prop}{ops:Array Oper}{i:Nat}{o:Oper}{p q:Operand}
theorem Ac5{sz:Nat}{c1 c2:Array Value}{r1 r2:List (List AV)}(h1:Qb E w sz c1 r1)(h2:Qb E w sz c2 r2):Qb E w sz (c1++c2) (r1++r2):=by
 obtain⟨s1,l1,e1⟩:=h1;obtain⟨s2,l2,e2⟩:=h2;refine⟨by simp[s1,s2,Rf],fun r hr=>(zzq47.1 hr).elim (l1 r) (l2 r),fun k r j x v hk hj hv=>?_⟩;rcases Gu k r1.length with h|h
 ·rw[Cr h]at hk;have hjs:j<sz:=by rw[←l1 r (Bh hk)];exact Aa hj
  have:=Ig h hjs;rw[Zd (by omega)]at hv;exact e1 k r j x v hk hj hv
 ·rw[Gj h]at hk;have hle:r1.length*sz≤k*sz:=Tp _ h;rw[Array.getElem?_append_right (by omega),s1]at hv;exact e2 (k-r1.length) r j x v hk hj (by rw[←hv];congr 1;rw[Nat.sub_mul];omega)
theorem Apy{sz:Nat}{c:Array Value}{rows:List (List AV)}(h:Qb E w sz c rows){n:Nat}(hn:n≤rows.length):Qb E w sz (c.toList.take (n*sz)).toArray (rows.take n):=by
 obtain⟨s,l,e⟩:=h;have hle:n*sz≤rows.length*sz:=Tp _ hn;refine⟨by simp[s],fun r hr=>l r (Agd hr),fun k r j x v hk hj hv=>?_⟩;rw[Ma]at hk;split at hk
 ·refine e k r j x v hk hj ?_;rw[Rc,Ma]at hv;split at hv
  ·simpa using hv
  ·cases hv
 ·cases hk
theorem Apx{sz:Nat}{c:Array Value}{rows:List (List AV)}(h:Qb E w sz c rows)(n:Nat):Qb E w sz (c.toList.drop (n*sz)).toArray (rows.drop n):=by
 obtain⟨s,l,e⟩:=h;refine⟨by simp[s,Nat.sub_mul],fun r hr=>l r (List.mem_of_mem_drop hr),fun k r j x v hk hj hv=>?_⟩;rw[Ny]at hk;refine e (n+k) r j x v hk hj ?_;rw[Rc,Ny]at hv;rw[Rf,Nx];simpa using hv
theorem Ac6{t:Nat}{y:Ty}(hy:X.ty t=some y)(hne:y.size≠0)(n:Nat):∃z,(zeroValue t).run X.P w=.ok z w∧(∃ti,X.P.info? t=some ti∧ti.zero=some z∧ti.size=y.size)∧(∀v,v∈(Builtin.zeroCells z.cells n).toList→v.oneCell'=true∨True) ∧
 (Builtin.zeroCells z.cells n).size=n*y.size∧∀(E:Env)(w:World),Qb E w y.size (Builtin.zeroCells z.cells n) (List.replicate n y.zero):=by
 obtain⟨z,hz,hzc,hzl,ti,hi,hiz,his,hib⟩:=I6 hy w;have hzs:z.cells.size=y.size:=by rw[←hzl,←hzc];simp
 refine⟨z,hz,⟨ti,hi,hiz,his⟩,fun v _=>.inr trivial,by simp[Builtin.zeroCells,hzs],fun E w=>?_⟩;refine Qm hzc hzl _ (by simp[Builtin.zeroCells,hzs]) (fun i hi=>?_);have hm:i%y.size<z.cells.size:=by rw[hzs];exact Ws _ (Zc hne)
 have hr0:(Array.range (n*y.size))[i]?=some i:=by simp[hi]
 simp only[Builtin.zeroCells];rw[Akg,hzs,hr0];simp only[Km];rw[getElem!_pos z.cells (i%y.size) hm,Agc hm]
theorem Ack{t:TypeId}{x:AV}{cs:List AV}(hc:cellsOf x=some cs:=by rfl)(ho:ops[i]?=some o:=by rfl)(hw:A6 ops F o=some true:=by rfl)(hop:o.op=.box t p:=by rfl)(hp:Dt X F p=some x:=by rfl):Ndo X N ops i o F (.cptr cs) S S:=by
 intro F' E w a hl hI hF;have hlo:=Gs hl;rw[hop]at hlo;have r1:=Ak hI hF ((Di (X:=X) (F:=F) (F':=F') (o:=p) fun s hs=>hlo s (by simp[Op.operands,hs])).trans hp);generalize hv:a.eval p=v at r1;obtain⟨h1,h2,_⟩:=Hi r1 hc;have ev:=Evol.push (E:=E) (w:=w) (w':=w.alloc (.cells v.cells t)) ⟨_,rfl⟩ rfl rfl rfl E.boxes.length E.toks.length;have hI':=hI.push (w':=w.alloc (.cells v.cells t)) ⟨_,rfl⟩ rfl rfl rfl;have hnew:(w.alloc (.cells v.cells t)).heap[w.heap.size]?=some (.cells v.cells t (0,0)):=by
  have:(w.alloc (.cells v.cells t)).heap=w.heap.push (.cells v.cells t (0,0)):=rfl;rw[this];simp
 refine Does.val ho (Cm hF (by rw[Cw hl];exact hw)) (v:=.pointer (some ⟨w.heap.size,0,none⟩)) (by simp[execOp,hop,Instr.box,hv,newVar,newRow]) (.inl rfl) ⟨E,hI',ev,?_⟩;refine .cptr cs w.heap.size 0 (fun j=>v.cells.getD j default) (fun j _=>Ai3 hI) (fun j hj=>?_) (fun j x hx=>?_)
 ·have:j<v.cells.size:=by omega
  rw[Jt];simp only[World.cell?,hnew];simp[this,Array.getD]
 ·have:j<v.cells.size:=by have:=Aa hx;omega
  exact(h2 j _ x (by simp[this,Array.getD]) hx).step ev
theorem Am1{l:List Nat}{k:List Item}{t t' e:TypeId}{rows:List (List AV)}{sp:Sp}(hd:X.P.underlying t=some (.slice e))(hk:∀c:Bool,(rows≠[]→c=false)→AK X B (.inRegion ops l::k) (putF o.dst (.val (.bool c)) F) S R)
 (ho:ops[i]?=some o:=by rfl)(hw:A6 ops F o=some true:=by rfl)(hop:o.op=.binOp .eql t p (.const (.slice none 0 0)) t':=by rfl)(hp:Dt X F p=some (.sl rows sp):=by rfl)(hdst:D1 B.fn.ntmps o.dst=true:=by rfl) :
 AK X B (.inRegion ops (i::l)::k) F S R:=by
 intro E w a b cs hI hF hn hm hb;have r1:=Ak hI hF hp;generalize hv:a.eval p=v at r1;have hrun:∃c:Bool,(rows≠[]→c=false)∧(execOp a.eval o).run X.P w=.ok (.value (.bool c)) w:=by
  cases r1 with
  |sl _ _ a' n cap b' o' sz vals hn' hx ha hsz hm hc hr hs hcap=>
   refine⟨a'.isNone,fun hne=>?_,by simp[execOp,hop,hv,show a.eval (.const (.slice none 0 0))=.slice none 0 0 from rfl,eqGuard,binOp,run_equal_slice_nil w t e a' n cap hd]⟩;rw[ha (by rw[←hn'];exact fun h=>hne (zzq96.1 h))];rfl
 obtain⟨c,hc,hrun⟩:=hrun;have hdo:Does X ops i a w fun v w'=>∃E',Inv X E' S w'∧Evol E w E' w' E.boxes.length E.toks.length∧Rel E' w' v (.val (.bool c)):=
  Does.val ho (Cm hF hw) hrun (.inl rfl) ⟨E,hI,Evol.refl _ _ _ _,.val _⟩
 have nt:E.toks.length=S.toks.length:=by rw[←hI.nt];simp
 obtain⟨v',w',⟨E',h1,h2,h3⟩,h4⟩:=hdo b k cs l;have hF':=(hF.step h2).putF hdst h3;have h4':=h4;rw[ho]at h4';exact Fin.from h4' (h2.weaken (by rw[hI.nb];exact hn) (by omega)) (hk c hc E' w' _ b cs h1 hF' hn hm hb)
theorem Zm{l:List Nat}{k:List Item}{c:Call}{tt tx e e':Nat}{y yx ye:Ty}{new:List (List AV)}{sp:Sp}(hk:∀cc:Nat,AK X B (.inRegion ops l::k) (putF o.dst (.bsl S.boxes.length new.length) F) ⟨S.boxes++[new++List.replicate cc ye.zero],S.toks⟩ R)
 (hl':∀r,r∈new→r.length=ye.size)(hc:∀r,r∈new→∀x,x∈r→Iy x=true)(hne:new≠[])(hb:new.length≤100000000000)
 (ho:ops[i]?=some o:=by rfl)(hw:A6 ops F o=some true:=by rfl)(hop:o.op=.call c:=by rfl)(hcal:c.callee=.builtin .append:=by rfl)(hargs:c.args.toList=[p,q]:=by rfl)(htys:c.argTypes.toList=[tt,tx]:=by rfl)
 (hp:Dt X F p=some (.sl [] .tight):=by rfl)(hq:Dt X F q=some (.sl new sp):=by rfl)(hy:X.ty tt=some y:=by rfl)(hyk:y.k=.slc e:=by rfl)(hye:X.ty e=some ye:=by rfl)(hyx:X.ty tx=some yx:=by rfl)(hyxk:yx.k=.slc e':=by rfl)
 (hdst:D1 B.fn.ntmps o.dst=true:=by rfl):AK X B (.inRegion ops (i::l)::k) F S R:=by
 intro E w a b cs hI hF hn hm hb';obtain⟨callee,args,argTypes⟩:=c;simp only at hcal hargs htys;subst hcal;have ha:args=#[p,q]:=by rw[←zzq34];exact hargs
 have ht:argTypes=#[tt,tx]:=by rw[←zzq34];exact htys
 subst ha;subst ht;have r1:=Ak hI hF hp;have r2:=Ak hI hF hq;obtain⟨d1,hd1,hk1⟩:=(X.ty_ok tt y hy).agg;simp only[hyk]at hk1;obtain⟨rfl,ye',hye',hne0⟩:=hk1;rw[hye]at hye';cases hye';obtain⟨d2,hd2,hk2⟩:=(X.ty_ok tx yx hyx).agg;simp only[hyxk]at hk2;obtain⟨rfl,_⟩:=hk2;obtain⟨ti,z,hi,hsz,hby,hzv,hzc,hzl,_⟩:=(X.ty_ok e ye hye).info;have hnew:0<new.length:=zzq67.2 hne;obtain⟨vals2,hsrc,hr2⟩:=Amp hd2 r2 hl' hc hne;rw[←hsz]at hsrc;generalize hu:a.eval p=u at r1;generalize hv:a.eval q=v at hsrc;have key:∃cc w',(Builtin.append_ #[tt,tx] o.type #[u,v]).run X.P w=.ok (.slice (some ⟨w.heap.size,0,none⟩) new.length cc) w'∧new.length≤cc ∧
  w'.heap=w.heap.push (.cells ((D2 new.length ti.size vals2).toArray++Builtin.zeroCells z.cells (cc-new.length)) e (0,0))∧w'.os=w.os∧w'.tape=w.tape∧w'.output=w.output:=by
  cases r1 with
  |sl _ _ a' n cap bb oo sz vals hn' hx ha hszr hm hcl hr hs hcap=>
   have hn0:n=0:=by simpa using hn'.symm
   subst hn0;have hcap0:cap=0:=hs;subst hcap0;have hold:(Builtin.firstCells ti.size 0 (.slice a' 0 0)).run X.P w.drew=.ok ([]:List Value).toArray w.drew:=by
    cases a' with
    |none=>exact run_firstCells_none _ _ _ _ _
    |some a0=>exact run_firstCells_some _ _ _ _ _ _ _ (by simp) (fun j v hj=>by simp at hj)
   have hby':(0+new.length)*ti.bytes≤140737488355328:=Nt (Nat.mul_le_mul_left _ hby) (by omega);have hrun:=run_append_grow_src w tt tx o.type e ti z hd1 hi hzv a' 0 0 [] hold v new.length _ hsrc (by omega) (by omega) (growslice_fits (by omega) hby');have hcc:=grownCap_ge w (0+new.length) 0 e;simp only[Jt,U8]at hrun hcc;exact⟨_,_,hrun,hcc,rfl,rfl,rfl,rfl⟩
 obtain⟨cc,w',hrun,hcc,hheap,hos,htp,hout⟩:=key;obtain⟨z',hz',⟨ti',hi',hiz',his'⟩,_,hzz,hgz⟩:=Ac6 (X:=X) (w:=w) hye hne0 (cc-new.length);rw[hi]at hi';cases hi';rw[hzv]at hiz';cases hiz';have hg1:Qb E w ye.size (D2 new.length ti.size vals2).toArray new:=by
  refine⟨by simp[Ee,hsz],hl',fun kk r j x v' hkk hj hv'=>?_⟩;have h1:=Aa hkk;have h2:j<ye.size:=by rw[←hl' r (Bh hkk)];exact Aa hj
  rw[Rc,hsz,La h1 h2]at hv';cases hv';exact hr2 kk j r x hkk hj
 have hg:=Ac5 hg1 (hgz E w);obtain⟨ev,hI'⟩:=hI.newBox (w':=w') hheap hos htp hout hg.1 hg.2.1 hg.2.2;have hnb:E.boxes.length=S.boxes.length:=hI.nb;have hrel:Rel (E.addBox w.heap.size ye.size) w' (.slice (some ⟨w.heap.size,0,none⟩) new.length cc) (.bsl S.boxes.length new.length):=
  .bsl _ _ ye.size _ _ (by rw[←hnb];exact getElem?_snoc_new _ _) hcc
 have hdo:Does X ops i a w fun v w'=>∃E',Inv X E' ⟨S.boxes++[new++List.replicate (cc-new.length) ye.zero],S.toks⟩ w'∧Evol E w E' w' E.boxes.length E.toks.length∧Rel E' w' v (.bsl S.boxes.length new.length):=
  Does.val ho (Cm hF hw) (by simp[execOp,hop,resolve,invoke,builtin,hu,hv,hrun]) (.inl rfl) ⟨_,hI',ev,hrel⟩
 have nt:E.toks.length=S.toks.length:=by rw[←hI.nt];simp
 obtain⟨v',w2,⟨E',h1,h2,h3⟩,h4⟩:=hdo b k cs l;have hF':=(hF.step h2).putF hdst h3;have h4':=h4;rw[ho]at h4';exact Fin.from h4' (h2.weaken (by rw[hI.nb];exact hn) (by omega)) (hk (cc-new.length) E' w2 _ b cs h1 hF' (by simp;omega) hm hb')
theorem Apa{t e b n:Nat}{hi:Option Operand}{h:Int}{y ye:Ty}(h0:0≤h)(h2:h≤(n:Int))(ho:ops[i]?=some o:=by rfl)(hw:A6 ops F o=some true:=by rfl)(hop:o.op=.slice t p none hi none:=by rfl)(hp:Dt X F p=some (.bsl b n):=by rfl)
 (hhi:Tj X F hi (n:Int)=some h:=by rfl)(hy:X.ty t=some y:=by rfl)(hyk:y.k=.slc e:=by rfl)(hye:X.ty e=some ye:=by rfl):Ndo X N ops i o F (.bsl b h.toNat) S S:=by
 refine Df ho hw fun F' E w a hc hI hF=>?_;rw[hop]at hc;have r1:=Ak hI hF ((hc p (by simp[Op.operands])).trans hp);have b2:=X9 hI hF (show Tj X F' hi (n:Int)=some h by rw[Qf fun x hx=>hc x (by subst hx;simp[Op.operands])];exact hhi);obtain⟨d,hdd,hd2⟩:=(X.ty_ok t y hy).agg;simp only[hyk]at hd2;obtain⟨rfl,ye',hye',hne0⟩:=hd2;rw[hye]at hye';cases hye';generalize hu:a.eval p=u at r1;cases r1 with
 |bsl _ blk sz _ cap hB hcap=>
  have hb:=Kr (X:=X) (isS:=true) (len:=n) (cap:=cap) (lo:=none) (hi:=hi.map a.eval) (l:=0) (h:=h) (.inl ⟨rfl,rfl⟩)
   (by rcases b2 with⟨rfl,rfl⟩|⟨x,k,rfl,hx⟩
       ·exact .inl ⟨rfl,rfl⟩
       ·exact .inr ⟨k,by simp[hx]⟩) (Int.le_refl 0) h0 h2 hcap w
  refine⟨.slice (some ⟨blk,0,none⟩) h.toNat cap,?_,.bsl b blk sz h.toNat cap hB (by omega)⟩;simp[execOp,hop,hu,Instr.sliceAt,Instr.slice,run_underlying hdd,hb,De hye,F9]
theorem Ape{t e b n:Nat}{lo:Operand}{ik:IntKind}{l:Nat}{y ye:Ty}(h2:l<n)(ho:ops[i]?=some o:=by rfl)(hw:A6 ops F o=some true:=by rfl)(hop:o.op=.slice t p (some lo) none none:=by rfl)(hp:Dt X F p=some (.bsl b n):=by rfl)
 (hlo:Dt X F lo=some (.val (.int ik l)):=by rfl)(hy:X.ty t=some y:=by rfl)(hyk:y.k=.slc e:=by rfl)(hye:X.ty e=some ye:=by rfl){rows:List (List AV)}(hS:S.boxes[b]?=some rows)(hrl:∀r,r∈rows→r.length=ye.size)(hne:rows≠[]):Ndo X N ops i o F (.bst b l (n-l)) S S:=by
 refine Df ho hw fun F' E w a hc hI hF=>?_;rw[hop]at hc;have r1:=Ak hI hF ((hc p (by simp[Op.operands])).trans hp);have r2:=Ak hI hF ((hc lo (by simp[Op.operands])).trans hlo);obtain⟨d,hdd,hd2⟩:=(X.ty_ok t y hy).agg;simp only[hyk]at hd2;obtain⟨rfl,ye',hye',hne0⟩:=hd2;rw[hye]at hye';cases hye';generalize hu:a.eval p=u at r1;generalize hv:a.eval lo=v at r2;cases r2;cases r1 with
 |bsl _ blk sz _ cap hB hcap=>
  obtain⟨arr,te,hh,hs,hlen,hrel⟩:=hI.box b blk sz rows hB hS;have hsz:sz=ye.size:=by
   cases rows with
   |nil=>exact absurd rfl hne
   |cons r rs=>rw[←hlen r (by simp),hrl r (by simp)]
  subst hsz;have hb:=Kr (X:=X) (isS:=true) (len:=n) (cap:=cap) (lo:=some (.int ik l)) (hi:=none) (l:=(l:Int)) (h:=(n:Int)) (.inr ⟨ik,rfl⟩) (.inl ⟨rfl,rfl⟩) (by omega) (by omega) (Int.le_refl _) hcap w;simp only[Hc]at hb;refine⟨.slice (some ⟨blk,l*ye.size,none⟩) (n-l) (cap-l),?_,.bst b blk ye.size l (n-l) (cap-l) hB⟩;have hcl:¬cap=l:=by omega
  simp[execOp,hop,hu,hv,Instr.sliceAt,Instr.slice,run_underlying hdd,hb,De hye,F9,hcl]
theorem Aky{c:Call}{tt e b s n:Nat}{y ye:Ty}{rows:List (List AV)}{bx:List (List (List AV))}(hn:0<n)(hS:S.boxes[b]?=some rows)(hin:s+n≤rows.length)(hrl:∀r,r∈rows→r.length=ye.size)
 (hbx:S.boxes.set b (rows.take s++(List.replicate n ye.zero++rows.drop (s+n)))=bx)(hz1:∀x,x∈ye.zero→Iy x=true)(ho:ops[i]?=some o:=by rfl)(hw:A6 ops F o=some true:=by rfl)(hop:o.op=.call c:=by rfl)(hcal:c.callee=.builtin .clear:=by rfl)(hargs:c.args=#[p]:=by rfl)
 (htys:c.argTypes=#[tt]:=by rfl)(hp:Dt X F p=some (.bst b s n):=by rfl)(hy:X.ty tt=some y:=by rfl)(hyk:y.k=.slc e:=by rfl)(hye:X.ty e=some ye:=by rfl):Ndo X N ops i o F (.val (.tuple #[])) S ⟨bx,S.toks⟩:=by
 subst hbx;intro F' E w a hlk hI hF;obtain⟨callee,args,argTypes⟩:=c;simp only at hcal hargs htys;subst hcal;subst hargs;subst htys;have hlo:=Gs hlk;rw[hop]at hlo;have r1:=Ak hI hF ((Di (X:=X) (F:=F) (F':=F') (o:=p) fun s hs=>hlo s (by simp[Op.operands,Call.operands,hs])).trans hp);obtain⟨d1,hd1,hk1⟩:=(X.ty_ok tt y hy).agg;simp only[hyk]at hk1;obtain⟨rfl,ye',hye',hne0⟩:=hk1;rw[hye]at hye';cases hye';generalize hu:a.eval p=u at r1;cases r1 with
 |bst _ blk sz _ _ cap hB=>
  obtain⟨arr,te,hh,hs,hlen,hrel⟩:=hI.box b blk sz rows hB hS;obtain⟨r0,hr0⟩:=Ab rows (i:=0) (by omega);have hsz:sz=ye.size:=by rw[←hlen r0 (Bh hr0),hrl r0 (Bh hr0)]
  subst hsz;obtain⟨z,hz,_,_,hzz,hgz⟩:=Ac6 (X:=X) (w:=w) hye hne0 n;have hg:Qb E w ye.size arr rows:=⟨hs,hlen,hrel⟩
  have hg2:=Ac5 (Apy hg (n:=s) (by omega)) (Ac5 (hgz E w) (Apx hg (s+n)));have hfit:s*ye.size+(Builtin.zeroCells z.cells n).toList.length≤arr.size:=by
   rw[Array.length_toList,hzz,←Rf,hs];exact Tp _ hin
  have hone:∀v,v∈(Builtin.zeroCells z.cells n).toList→v.oneCell'=true:=fun v hv=>by
   obtain⟨q,hq⟩:=Bw hv;have hq':(Builtin.zeroCells z.cells n)[q]?=some v:=by simpa using hq
   have hlt:q<n*ye.size:=by have:=Aa hq;rw[Array.length_toList,hzz]at this;exact this
   have hpos:0<ye.size:=Zc hne0;have hk:q/ye.size<n:=Nat.div_lt_of_lt_mul (by rw[Nat.mul_comm];exact hlt);have hzl:=hg2.2.1 ye.zero (Agf _ (List.mem_append_left _ (List.mem_replicate.2 ⟨by omega,rfl⟩)));obtain⟨x,hx⟩:=Ab ye.zero (i:=q%ye.size) (by rw[hzl];exact Ws _ hpos);have:=(hgz E w).2.2 (q/ye.size) ye.zero (q%ye.size) x v (by simp[hk]) hx (by rw[Nat.mul_comm,Nat.div_add_mod];exact hq');exact L3 this (hz1 x (Bh hx))
  have hst:=run_storeCells_at X.P blk (s*ye.size) te (Builtin.zeroCells z.cells n).toList 0 arr w hh (by simpa using hfit) hone;simp only[Pt]at hst;have hnn:¬n=0:=by omega
  have hrun:(Builtin.clear_ #[tt] o.type #[.slice (some ⟨blk,s*ye.size,none⟩) n cap]).run X.P w=.ok (.tuple #[]) (w.setRow blk (arr.toList.take (s*ye.size)++(Builtin.zeroCells z.cells n).toList++arr.toList.drop (s*ye.size+(Builtin.zeroCells z.cells n).toList.length)).toArray):=by
   obtain⟨m,rfl⟩:∃m,n=m+1:=⟨n-1,by omega⟩
   simp[Builtin.clear_,run_underlying hd1,hz,hst]
  have harr:(arr.toList.take (s*ye.size)++(Builtin.zeroCells z.cells n).toList++arr.toList.drop (s*ye.size+(Builtin.zeroCells z.cells n).toList.length)).toArray =
   (arr.toList.take (s*ye.size)).toArray++(Builtin.zeroCells z.cells n++(arr.toList.drop ((s+n)*ye.size)).toArray):=by
   rw[←zzq34];simp only[Wt,Fi];rw[Array.length_toList,hzz,←Rf]
  rw[harr]at hrun;obtain⟨ev,hI'⟩:=hI.setBox hB hS hh rfl hg2.1 hg2.2.1 hg2.2.2;exact Does.val ho (Cm hF (by rw[Cw hlk];exact hw)) (by simp[execOp,hop,resolve,invoke,builtin,hu,hrun]) (.inl rfl) ⟨E,hI',ev,.val _⟩
theorem Ajw{R:Type}:∀(l xs:List AV)(k:List AV→Option R),l.length=xs.length→Wb l 0 xs k=k xs
 |[],[],k,_=>by simp[Wb]
 |a::l,x::xs,k,h=>by simp only[Wb];exact Ajw l xs _ (by simpa using h)
 |[],_::_,k,h=>by simp at h
 |_::_,[],k,h=>by simp at h
theorem Sy{α R:Type}:∀(l:List α)(n:Nat)(x:α)(k:List α→Option R),n<l.length→Xq l n x k=k (l.set n x)
 |a::l,0,x,k,_=>by simp[Xq]
 |a::l,n+1,x,k,h=>by simp only[Xq];rw[Sy l n x _ (by simpa using h)];rfl
 |[],n,x,k,h=>by simp at h
theorem Xu{b r sz:Nat}{x:AV}{xs cs:List AV}{rows:List (List AV)}(hb:S.boxes[b]?=some rows)(hr:rows[r]?=some cs)(hc:cellsOf x=some xs)(hl:xs.length=sz)(hl':cs.length=sz) :
 Ux S sz (.ptr b r 0) x=some ⟨S.boxes.set b (rows.set r xs),S.toks⟩:=by
 obtain⟨bx,tk⟩:=S;simp only at hb;simp only[Ux,hc];rw[show Nat.beq xs.length sz=true by rw[hl];exact Nat.beq_refl sz];simp only[H7,hb,hr];rw[Ajw _ _ _ (by omega),Sy _ _ _ _ (Aa hr),Sy _ _ _ _ (Aa hb)]
theorem Af2{R:Type}:∀(l:List AV)(k:List AV→Option R),Ni l.length l k=k l
 |[],k=>by simp[Ni]
 |a::l,k=>by simp only[Nl,Ni];rw[Af2 l]
theorem Ap6{b r sz:Nat}{g:Bool}{cs:List AV}{rows:List (List AV)}(hb:S.boxes[b]?=some rows)(hr:rows[r]?=some cs)(hl:cs.length=sz):Tf S sz g (.ptr b r 0)=V6 g cs:=by
 subst hl;simp only[Tf,H7,hb,hr,Ou];rw[Af2]
theorem Qc{t b r:Nat}{y:Ty}{cs:List AV}{rows:List (List AV)}{x:AV}(hb:S.boxes[b]?=some rows)(hr:rows[r]?=some cs)(hl:cs.length=y.size)(ho:ops[i]?=some o:=by rfl)(hw:A6 ops F o=some true:=by rfl)(hop:o.op=.load t p:=by rfl)
 (hp:Dt X F p=some (.ptr b r 0):=by rfl)(hy:X.ty t=some y:=by rfl)(hx:V6 (Gd y.k) cs=some x:=by rfl):Ndo X N ops i o F x S S:=by
 refine Cn ho hw ?_;rw[hop];simp only[Ec,Q0,hy,hp];rw[Ap6 hb hr hl];exact hx
end
end Go.V
namespace Go.V
open Go Go.Proofs Go.Proofs.Tryz
def Kh(p:Nd→Bool):Nat→List Nd→Int
 |_,[]=>-1
 |i,x::l=>if p x then i else Kh p (i+1) l
theorem Yn(p:Nd→Bool):∀(l:List Nd)(i:Nat),decide (Kh p i l≥0)=l.any p
 |[],i=>by simp[Kh]
 |x::l,i=>by
  have hb:(x::l).any p=(p x||l.any p):=rfl;rw[hb,←Yn p l (i+1)];by_cases h:p x=true
  ·simp[Kh,h]
  ·have h':p x=false:=by simpa using h
   have:Kh p i (x::l)=Kh p (i+1) l:=by simp only[Kh];rw[if_neg h]
   rw[this,h'];rfl
theorem Adn(l:List Nd)(f:FuncId)(caps:List AV)(p:Nd→Bool)(hl:l.length≤1000000000) [hok:OKL 0 0 caps](hp:∀x,x∈l→Pure X f (nd x::caps) (vb (p x)))(hcat:∀xs,Kb xs caps=some (xs++caps)) :
 Pure X 225 [.sl (Ap l) .no,.fn f caps] (vi (Kh p 0 l)):=by
 refine Pure.run func225 ?_;refine Av (ι:=Nat) 0 0 (fun i=>i≤l.length∧Kh p 0 l=Kh p i (l.drop i)) (fun i=>[(8,vi i),(7,vi l.length),(0,.sl (Ap l) .no),(1,.fn f caps)]) (fun _=>⟨[],[]⟩) (fun i=>l.length-i) ?_ 0 ⟨Cc _,rfl⟩
  ⟨rfl,by rw[←Ad];rfl,rfl,rfl,trivial⟩
 intro i hi IH;refine Dh (fun h=>?_) (fun h=>?_)
 ·have hlt:i<l.length:=by have:=A7 h;omega
  obtain⟨x,hx⟩:=Ab l hlt;have hd:Kh p i (l.drop i)=if p x then(i:Int)else Kh p (i+1) (l.drop (i+1)):=by rw[B5 hx];rfl
  refine B7 i (by omega) (Am hx) ?_;refine Al (hp x (Bh hx)) ?_ (hzs:=hcat _);refine Ag (fun h2=>?_) (fun h2=>?_)
  ·refine Az func225 ?_;have h3:p x=true:=h2;rw[hi.2,hd,h3];rfl
  ·have h3:p x=false:=h2;exact IH (i+1) ⟨hlt,by rw[hi.2,hd,h3];rfl⟩ (by omega) _ _ ⟨vsx (by omega),rfl,rfl,rfl,trivial⟩ rfl rfl rfl
 ·have:i=l.length:=by have:=Bd h;omega
  refine Az func225 ?_;rw[hi.2,this,Hw];rfl
theorem Us(l:List Nd)(f:FuncId)(caps:List AV)(p:Nd→Bool)(hl:l.length≤1000000000) [hok:OKL 0 0 caps](hp:∀x,x∈l→Pure X f (nd x::caps) (vb (p x)))(hcat:∀xs,Kb xs caps=some (xs++caps)) :
 Pure X 164 [.sl (Ap l) .no,.fn f caps] (vb (l.any p)):=by
 refine Pure.run func164 ?_;refine Al (Adn l f caps p hl hp hcat) ?_;refine Az func164 ?_;rw[←Yn p l 0];rfl
theorem A0i(xs:List AV):Kb xs []=some (xs++[]):=by simp[Kb]
theorem Ash(x:AV)(xs:List AV):Kb xs [x]=some (xs++[x]):=by simp[Kb,Agx]
theorem Ajf(n:Nd):longN n=(decide (8<n.name.length)||n.kids.any longN):=by
 have:∀l:List Nd,longL l=l.any longN:=by
  intro l
  induction l with
  |nil=>rfl
  |cons x l ih=>simp[longL,ih]
 cases n;rw[longN,this];rfl
theorem A1p(n:Nd)(hn:Ai n≤1000000000):Pure X 265 [nd n] (vb (longN n)):=by
 induction n using Nd.ind with
 |h n ih=>
  have hc:=Ck n;have hll:=Bn n.kids;have hq:=Us n.kids 265 [] longN (by omega) (fun x hx=>ih x hx (by have:=Ex hx;omega)) A0i;rw[Ajf];refine Pure.run func265 ?_;refine Db (fun h=>?_) (fun h=>?_)
  ·have h':8<n.name.length:=by have:=A7 h;rw[F6]at this;omega
   refine Au func265 ?_;rw[Zg h'];rfl
  ·have h':¬8<n.name.length:=by have:=Bd h;rw[F6]at this;omega
   refine Al hq ?_;refine Au func265 ?_;rw[Kn h'];rfl
noncomputable def Abb(a b:List Nd):Bool:=@decide (a=b) (Classical.propDecidable _)
theorem Vv{a b:List Nd}:Abb a b=true↔a=b:=by unfold Abb;exact @decide_eq_true_iff _ (Classical.propDecidable _)
theorem Aur(a b:Nd):Uu a b=((a.kind==b.kind)&&((a.name==b.name)&&((a.num==b.num)&&Abb a.kids b.kids))):=by
 rw[Bool.eq_iff_iff];simp only[Qy,Da,zzq56,Vv];cases a;cases b;simp
theorem At9(a b:List Nd)(ha:a.length≤1000000000)(hb:b.length≤1000000000)(h:∀x,x∈a→∀y,y∈b→Pure X 180 [nd x,nd y] (vb (Uu x y))) :
 Pure X 239 [.sl (Ap a) .no,.sl (Ap b) .no,.fn 180 []] (vb (Abb a b)):=by
 refine Pure.run func239 ?_;refine Ag (fun h1=>?_) (fun h1=>?_)
 ·have h1':a.length≠b.length:=by
   rw[Ad,Ad]at h1;simp at h1;omega
  refine Au func239 ?_;have:Abb a b=false:=by
   cases h:Abb a b with
   |false=>rfl
   |true=>rw[Vv.1 h]at h1';exact absurd rfl h1'
  rw[this]
 have h1':a.length=b.length:=by
  rw[Ad,Ad]at h1;simp at h1;omega
 refine Av (ι:=Nat) 0 0 (fun i=>i≤a.length∧a.take i=b.take i) (fun i=>[(17,vi i),(16,vi a.length),(15,.sl (Ap a) .no),(0,.sl (Ap a) .no),(1,.sl (Ap b) .no),(2,.fn 180 [])]) (fun _=>⟨[],[]⟩) (fun i=>a.length-i) ?_ 0
  ⟨Cc _,by simp⟩ ⟨rfl,by rw[←Ad];rfl,rfl,rfl,rfl,rfl,trivial⟩
 intro i hi IH;refine Dh (fun h2=>?_) (fun h2=>?_)
 ·have hlt:i<a.length:=by have:=A7 h2;omega
  obtain⟨x,hx⟩:=Ab a hlt;obtain⟨y,hy⟩:=Ab b (i:=i) (by omega);refine B7 i (by omega) (Am hx) ?_;refine B7 i (by omega) (Am hy) ?_;refine Al (h x (Bh hx) y (Bh hy)) ?_;refine Ag (fun h3=>?_) (fun h3=>?_)
  ·have h3':Uu x y=false:=by have:(!Uu x y)=true:=h3;simpa using this
   refine Au func239 ?_;have:Abb a b=false:=by
    cases h:Abb a b with
    |false=>rfl
    |true=>
     have:=Vv.1 h;subst this;rw[hx]at hy;cases hy;rw[Qy.2 rfl]at h3';cases h3'
   rw[this]
  ·have h3':Uu x y=true:=by have:(!Uu x y)=false:=h3;simpa using this
   have:=Qy.1 h3';subst this;exact IH (i+1) ⟨hlt,by rw[G7,G7,hi.2,hx,hy]⟩ (by omega) _ _ ⟨vsx (by omega),rfl,rfl,rfl,rfl,rfl,trivial⟩ rfl rfl rfl
 ·have hie:i=a.length:=by have:=Bd h2;omega
  have he:=hi.2;rw[hie]at he;rw[I8,h1',I8]at he;refine Au func239 ?_;rw[Vv.2 he]
theorem A1s(a b:Nd)(ha:Ai a≤1000000000)(hb:Ai b≤1000000000):Pure X 180 [nd a,nd b] (vb (Uu a b)):=by
 induction a using Nd.ind generalizing b with
 |h a ih=>
  have hca:=Ck a;have hcb:=Ck b;have hla:=Bn a.kids;have hlb:=Bn b.kids;have hq:=At9 a.kids b.kids (by omega) (by omega) fun x hx y hy=>ih x hx y (by have:=Ex hx;omega) (by have:=Ex hy;omega);rw[Aur];refine Pure.run func180 ?_;refine Db (fun h1=>?_) (fun h1=>?_)
  ·have h1':(a.kind==b.kind)=true:=h1;rw[h1',Re];refine Db (fun h2=>?_) (fun h2=>?_)
   ·have h2':(a.name==b.name)=true:=h2;rw[h2',Re];refine Db (fun h3=>?_) (fun h3=>?_)
    ·have h3':(a.num==b.num)=true:=h3;rw[h3',Re];refine Al hq ?_;exact Au func180 rfl
    ·have h3':(a.num==b.num)=false:=h3;rw[h3'];exact Au func180 rfl
   ·have h2':(a.name==b.name)=false:=h2;rw[h2'];refine Ii ?_;exact Au func180 rfl
  ·have h1':(a.kind==b.kind)=false:=h1;rw[h1'];refine Ii ?_;refine Ii ?_;exact Au func180 rfl
theorem Ak6(b:Bool)(s:List UInt8)(h:Int):RinB [1] [0] [[bN (Nm 312 1 b) s h]] [[bN (Nm 312 0 b) s h]]:=
 have h1:RinC [1] [0] (Nm 312 1 b) (Nm 312 0 b):=inferInstance;have h2:RinC [1] [0] (.buf 5 s 0) (.buf 5 s 0):=inferInstance;have h3:Ren true [1] [0] (.sl [] .tight) (.sl [] .tight):=Zq .nil (.inr (.inr (.inr (.inl ⟨rfl,rfl⟩))));have h4:RinC [1] [0] (vi h) (vi h):=inferInstance
 ⟨.cons (.cons (.cons h1.s (.cons h2.s (.cons h3 (.cons h4.s .nil)))) .nil) .nil⟩
theorem Aqg{s:List UInt8}(h:(E8 s).2.1=0):(E8 s).2.2=0:=by
 unfold E8 at h⊢;split at h
 ·rename_i h0;rw[if_pos h0];split at h
  ·simp at h
  ·rename_i hb;rw[if_neg hb];split at h
   ·simp at h
   ·rename_i hl;rw[if_neg hl]
 ·rename_i h0;exact absurd h h0
theorem Ahx(s:List UInt8):Ai (E8 s).1≤500:=by
 unfold E8;split
 ·split
  ·show Ai Cg≤500;decide
  ·split
   ·show Ai Cg≤500;decide
   ·rename_i h;simp only;omega
 ·show Ai Cg≤500;decide
inductive PrI:Nd→Prop where
 |mk (k:Int) (s:List UInt8) (m:Int) (ks:List Nd) (h0:-9223372036854775808≤m) (h1:m≤9223372036854775807) (hk:∀x,x∈ks→PrI x):PrI (.mk k s m ks)
theorem PrI.short{n:Nd}(h:PrI n)(hl:longN n=false):PrN n:=by
 induction h with
 |mk k s m ks h0 h1 hk ih=>
  rw[Ajf,Pb]at hl;obtain⟨h2,h3⟩:=hl;simp only[List.any_eq_false]at h3;exact .mk k s m ks (by have:=Bd h2;simp at this;omega) h0 h1 fun x hx=>ih x hx (by have:=h3 x hx;simpa using this)
theorem Um(l:List Nd):((Ap l).take (l.length-1)).drop 0=Ap l.dropLast:=by
 rw[As,As,List.drop_zero,←List.map_take,Akj]
set_option maxHeartbeats 1000000 in
theorem Aqq(n:Nd)(hn:Ai n≤1000000000)(hnum:PrI n):Pure X 221 [nd n] (.tup [str (Hb n).1,vb (Hb n).2]):=by
 have hcn:=Ck n;have hll:=Bn n.kids;have hfl:R5 X.P 268=some [0,0]:=by kernel_rfl
 refine Pure.run func221 ?_;refine Al (Afm n (by omega)) ?_;refine Db (fun h1=>?_) (fun h1=>?_)
 ·have h1':Oy n=true:=h1;refine Hh ?_;refine A1 ?_;have hP:Hb n=([],false):=by unfold Hb;rw[if_pos (by simp[h1'])]
  rw[hP];exact Au func221 rfl
 have h1':Oy n=false:=h1;refine Db (fun h2=>?_) (fun h2=>?_)
 ·have h2':n.kids.isEmpty=true:=by
   rw[Ad]at h2;simp at h2;simp[h2]
  refine A1 ?_;have hP:Hb n=([],false):=by unfold Hb;rw[if_pos (by simp[h2'])]
  rw[hP];exact Au func221 rfl
 have h2':n.kids.isEmpty=false:=by
  rw[Ad]at h2;simp at h2;simpa using h2
 refine Al (A1p n hn) ?_;refine Ag (fun h3=>?_) (fun h3=>?_)
 ·have h3':longN n=true:=h3;have hP:Hb n=([],false):=by unfold Hb;rw[if_pos (by simp[h3'])]
  rw[hP];exact Au func221 rfl
 have h3':longN n=false:=h3;have hsm:Ai n≤500∧Dc n≤24:=by
  simp only[Oy,decide_eq_false_iff_not]at h1';omega
 have hp:PrN n:=hnum.short h3';have hkne:n.kids≠[]:=by intro e;rw[e]at h2';simp at h2'
 have hpos:0<n.kids.length:=zzq67.2 hkne;obtain⟨lst,hlst⟩:=Ab n.kids (i:=n.kids.length-1) (by omega);have hL:n.kids.getLastD Cg=lst:=by
  rw[Akk,List.getLast?_eq_getElem?,hlst];rfl
 have hlm:lst∈n.kids:=Bh hlst;have hlp:=hp.get.2.2.2 lst hlm;have hdn:=Jy n;have hlc:=Ex hlm;have hlcn:=Ck lst;have hw1:IntKind.i64.wrap (((Ap n.kids).length:Int)-1)=((n.kids.length-1:Nat):Int):=by rw[Ad];exact(Ac (by omega) (by omega)).trans (by omega)
 have hP:Hb n=(Xk n,!(Xk n==[])&&((E8 (Xk n)).2.1==0&&Uu (E8 (Xk n)).1 n)):=by unfold Hb;rw[if_neg (by simp[h1',h2',h3'])]
 have hT:Xk n=Kd n.kids.dropLast 0++Kd lst.kids 0:=by rw[Xk,hL]
 have hS1:∀x,x∈n.kids.dropLast→HS x∧0+Dc x≤60∧(Hp x 0).length≤1000*Ai x:=fun x hx=>by
  have hm:=(List.dropLast_sublist _).subset hx;have h1:=Ex hm;have h2:=Gw hm;have hx':=hp.get.2.2.2 x hm;exact⟨(Ant x hx' (by omega)).1,by omega,An9 x 0 hx' (by omega)⟩
 have hS2:∀x,x∈lst.kids→HS x∧0+Dc x≤60∧(Hp x 0).length≤1000*Ai x:=fun x hx=>by
  have h1:=Ex hx;have h2:=Gw hx;have h3:=Gw hlm;have h4:=Jy lst;have hx':=hlp.get.2.2.2 x hx;exact⟨(Ant x hx' (by omega)).1,by omega,An9 x 0 hx' (by omega)⟩
 have hcd:A3 n.kids.dropLast≤A3 n.kids:=by rw[Akj];exact Qh
 have hb1:=Ahv (l:=n.kids.dropLast) (h:=0) fun x hx=>(hS1 x hx).2.2;have hb2:=Ahv (l:=lst.kids) (h:=0) fun x hx=>(hS2 x hx).2.2;have hTl:(Xk n).length≤1000000:=by rw[hT];simp;omega
 have hdl:n.kids.dropLast.length≤1000:=by rw[List.length_dropLast];omega
 have hll2:=Bn lst.kids;rw[hP];refine Hu 2 0 ?_;refine Ek (fun S'=>Akx (cs:=[.pointer none,.slice none 0 0,.slice none 0 0,.int .i64 0]) rfl rfl rfl rfl rfl rfl) ?_;refine Ch (Ar2 5 rfl rfl rfl rfl rfl rfl rfl rfl) ?_;refine Ar ?_;refine P6 (An (Cn rfl rfl rfl) (An (Cn rfl rfl rfl) G0)) rfl ?_;refine Ar ?_;refine Ar ?_;refine Ar ?_;refine Ar ?_;refine B6 ?_;refine Ie 5 (vi (n.kids.length-1:Nat)) ?_ (Ct hw1);refine Ie 33 (vi (n.kids.length-1:Nat)) ?_ (Ct hw1);refine Bm (Abv (l:=0) (h:=((n.kids.length-1:Nat):Int)) (r:=Ap n.kids.dropLast) rfl rfl rfl rfl rfl rfl rfl rfl rfl (by omega) (by omega) (by rw[Ad];omega) (Er _) (by rw[Hc];exact Um _)) ?_;refine Av (ι:=Nat×List UInt8×Bool) 2 1 (fun i=>i.1≤n.kids.dropLast.length∧i.2.1++Kd (n.kids.dropLast.drop i.1) 0=Kd n.kids.dropLast 0)
  (fun i=>[(36,vi i.1),(35,vi n.kids.dropLast.length),(34,.sl (Ap n.kids.dropLast) .no),(4,.ptr 1 0 0),(1,.ptr 0 0 0),(5,vi (n.kids.length-1:Nat))])
  (fun i=>⟨[[Af n],[bN (Nm 312 1 i.2.2) i.2.1 0]],[i.2.1.length]⟩) (fun i=>n.kids.dropLast.length-i.1) ?_ (0,[],true) ⟨Cc _,rfl⟩ ⟨rfl,by rw[←Ad n.kids.dropLast];rfl,rfl,rfl,rfl,rfl,trivial⟩ rfl rfl rfl rfl rfl
  (fun _=>inferInstance) (fun _=>inferInstance)
 rintro⟨i,out,c⟩ ⟨hi,hO⟩ IH;simp only at hi hO IH⊢;have hol:=congrArg List.length hO;simp only[Es]at hol;refine Dh (fun g1=>?_) (fun g1=>?_)
 ·have hlt:i<n.kids.dropLast.length:=by have:=A7 g1;omega
  obtain⟨y,hy⟩:=Ab n.kids.dropLast hlt;obtain⟨hs1,hs2,hs3⟩:=hS1 y (Bh hy);rw[B5 hy]at hO hol;simp only[Kd,Es]at hO hol;refine B7 i (by omega) (Am hy) ?_;refine Ae (hb:=Ak6 c out 0) (τ':=[0]) [1] [0] (hs1 c out 0 hs2 (by omega)) ?_;exact IH (i+1,out++Hp y 0,false) ⟨hlt,by simpa using hO⟩ (by simp only;omega) _ _ ⟨vsx (by omega),rfl,rfl,rfl,rfl,rfl,trivial⟩ rfl rfl rfl
 have hie:i=n.kids.dropLast.length:=by have:=Bd g1;omega
 subst hie;rw[Ad9 (Bo _)]at hO;simp only[Kd,G4]at hO;subst hO;refine B7 ((n.kids.length-1:Nat):Int) (by omega) (by rw[Hc];exact Am hlst) ?_;refine Av (ι:=Nat×List UInt8×Bool) 2 1 (fun i=>i.1≤lst.kids.length∧i.2.1++Kd (lst.kids.drop i.1) 0=Xk n)
  (fun i=>[(51,vi i.1),(50,vi lst.kids.length),(49,.sl (Ap lst.kids) .no),(4,.ptr 1 0 0),(1,.ptr 0 0 0)])
  (fun i=>⟨[[Af n],[bN (Nm 312 1 i.2.2) i.2.1 0]],[i.2.1.length]⟩) (fun i=>lst.kids.length-i.1) ?_ (0,Kd n.kids.dropLast 0,c) ⟨Cc _,hT.symm⟩ ⟨rfl,by rw[←Ad lst.kids];rfl,rfl,rfl,rfl,trivial⟩ rfl rfl rfl rfl rfl
  (fun _=>inferInstance) (fun _=>inferInstance)
 rintro⟨i,out,c⟩ ⟨hi,hO⟩ IH;simp only at hi hO IH⊢;have hol:=congrArg List.length hO;simp only[Es]at hol;refine Dh (fun g1=>?_) (fun g1=>?_)
 ·have hlt:i<lst.kids.length:=by have:=A7 g1;omega
  obtain⟨y,hy⟩:=Ab lst.kids hlt;obtain⟨hs1,hs2,hs3⟩:=hS2 y (Bh hy);rw[B5 hy]at hO hol;simp only[Kd,Es]at hO hol;refine B7 i (by omega) (Am hy) ?_;refine Ae (hb:=Ak6 c out 0) (τ':=[0]) [1] [0] (hs1 c out 0 hs2 (by omega)) ?_;exact IH (i+1,out++Hp y 0,false) ⟨hlt,by simpa using hO⟩ (by simp only;omega) _ _ ⟨vsx (by omega),rfl,rfl,rfl,rfl,trivial⟩ rfl rfl rfl
 have hie:i=lst.kids.length:=by have:=Bd g1;omega
 subst hie;rw[Ad9 (Bo _)]at hO;simp only[Kd,G4]at hO;subst hO;generalize Xk n=out at *;have hpc:=Ahx out;have hpa:=Aqg (s:=out);refine Ae (hb:=Ak6 c out 0) (τ':=[0]) [1] [0] (sN c out 0 (by omega)) ?_;refine Al (Ax8 out (by omega)) ?_;generalize E8 out=T at hpc hpa⊢;obtain⟨m,cd,at_⟩:=T;simp only at hpc hpa⊢;refine Db (fun g1=>?_) (fun g1=>?_)
 ·have g1':(out==[])=false:=by have:(!(out==[]))=true:=g1;simpa using this
  rw[g1',Bool.not_false,Re];refine Bm (Vb (r:=((cd==0)&&((at_==0)&&true))) rfl rfl rfl rfl rfl hfl rfl (.inl ⟨rfl,rfl⟩)) ?_;refine Db (fun g2=>?_) (fun g2=>?_)
  ·have g2':cd=0:=by simp at g2;exact g2.1
   refine Al (A1s m n (by omega) hn) ?_;refine Au func221 ?_;simp[g2']
  ·have g2':¬cd=0:=by
    intro h0;have:=hpa h0;simp[h0,this]at g2
   refine Au func221 ?_;simp[g2']
 ·have g1':(out==[])=true:=by have:(!(out==[]))=false:=g1;simpa using this
  refine Ii ?_;refine Au func221 ?_;simp[g1']
theorem Aj2(n:Nd)(hn:Ai n≤1000000000)(hnum:PrI n):Pure X 161 [nd n] (vb (Do n)):=by
 refine Pure.run func161 ?_;refine Al (Aqq n hn hnum) ?_;refine Au func161 ?_;rw[(Al9 n).1]
end Go.V
