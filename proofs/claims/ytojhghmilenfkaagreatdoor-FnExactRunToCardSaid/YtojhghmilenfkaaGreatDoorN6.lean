/- A part of the proof of the claim that the last text states: no condition of its own. -/
import Derived.Test.YtojhghmilenfkaaGreatDoorN5
import Derived.Laws.Cover3
import Derived.Lib.ItoaLen
import Derived.Lib.ItoaMem
set_option linter.unusedVariables false
set_option linter.unusedSimpArgs false
namespace Go.V
open Go Go.Proofs Go.Proofs.Tryz
inductive PrN:Nd→Prop where
 |mk (k:Int) (s:List UInt8) (m:Int) (ks:List Nd) (hs:s.length≤8) (h0:-9223372036854775808≤m) (h1:m≤9223372036854775807) (hk:∀x,x∈ks→PrN x):PrN (.mk k s m ks)
def Bv(n:Nd)(i:Nat):Nd:=n.kids.getD i Cg
theorem PrN.kid{n:Nd}(h:PrN n)(i:Nat):PrN (Bv n i):=by
 cases h with
 |mk k s m ks hs h0 h1 hk=>
  unfold Bv;cases hx:ks[i]? with
  |none=>simp[Nd.kids,List.getD,hx];exact .mk 0 [] 0 [] (by simp) (by omega) (by omega) (fun x hx=>by cases hx)
  |some x=>simp[Nd.kids,List.getD,hx];exact hk x (Bh hx)
theorem E5{l:List Nd}{x:Nd}(h:x∈l):Ai x≤A3 l:=by
 induction l with
 |nil=>cases h
 |cons y l ih=>
  simp only[A3];rcases zzq13.1 h with rfl|h
  ·omega
  ·have:=ih h;omega
theorem Mt(n:Nd)(i:Nat):Bv n i∈n.kids∨Bv n i=Cg:=by
 unfold Bv;cases hx:n.kids[i]? with
 |none=>right;simp[List.getD,hx]
 |some x=>left;simp[List.getD,hx];exact Bh hx
theorem Ads(n:Nd)(i:Nat)(hi:i≤1000000000)(hl:n.kids.length≤4000000000):Pure X 297 [nd n,vi i] (nd (Bv n i)):=by
 by_cases h:i<n.kids.length
 ·obtain⟨x,hx⟩:=Ab n.kids h;have hk:Bv n i=x:=by simp[Bv,List.getD,hx]
  rw[hk];refine Pure.run func297 ?_;refine Ag ?_ (ht:=by simp[Ad];omega);refine B4 i (by omega) (Am hx) ?_;exact As func297 rfl
 ·have hk:Bv n i=Cg:=by simp[Bv,List.getD,U9 (Nat.le_of_not_lt h)]
  rw[hk];refine Pure.run func297 ?_;refine A0 ?_ (ht:=by simp[Ad];omega);exact As func297 rfl
abbrev Mg:=List (List UInt8)
def eW(c:List (Int×Mg))(i:Nat):Mg:=(c.getD i (0,[])).2
def Pf(a b:Bool)(k:Int)(w:Mg):Mg:=if (a&&(k==6||k==7))||(b&&k==8)then[[40]]++w++[[41]]else w
def iW(c:List (Int×Mg))(i:Nat)(a b:Bool):Mg:=Pf a b (c.getD i (0,[])).1 (c.getD i (0,[])).2
def Gf(k:Int)(s:List UInt8)(m:Int)(c:List (Int×Mg)):Mg:=
 if k=1 then[Lib.itoa m]
 else if k=2 then[s]
 else if k=3 then[s,[91]]++eW c 0++[[93]]
 else if k=4 then[[108,101,110],[40],s,[41]]
 else if k=5 then[[32,45]]++iW c 0 true true
 else if k=6∨k=7 then eW c 0++[if k=6 then[43]else[45]]++iW c 1 true false
 else if k=8 then iW c 0 true false++[[42]]++iW c 1 true true
 else if 11≤k∧k≤16 then eW c 0++[Ux k]++eW c 1
 else[]
mutual
def A1:Nd→Mg
 |.mk k s m ks=>Gf k s m (B5 ks)
def B5:List Nd→List (Int×Mg)
 |[]=>[]
 |x::l=>(x.kind,A1 x)::B5 l
end
theorem Afl(l:List Nd):B5 l=l.map fun x=>(x.kind,A1 x):=by
 induction l with
 |nil=>rfl
 |cons x l ih=>simp[B5,ih]
theorem Afa:A1 Cg=[]:=rfl
theorem Afk(n:Nd)(i:Nat):(B5 n.kids).getD i (0,[])=((Bv n i).kind,A1 (Bv n i)):=by
 rw[Afl];unfold Bv;cases hx:n.kids[i]? with
 |none=>simp[List.getD,hx,Afa];rfl
 |some x=>simp[List.getD,hx]
theorem F8(n:Nd)(i:Nat):eW (B5 n.kids) i=A1 (Bv n i):=by rw[eW,Afk]
theorem Z2(n:Nd)(i:Nat)(a b:Bool):iW (B5 n.kids) i a b=Pf a b (Bv n i).kind (A1 (Bv n i)):=by rw[iW,Afk]
theorem Ac4(n:Nd):A1 n=Gf n.kind n.name n.num (B5 n.kids):=by cases n;rfl
theorem Ajl(ks:List Nd)(ih:∀x,x∈ks→(A1 x).length+2≤8*Ai x):(eW (B5 ks) 0).length+(eW (B5 ks) 1).length+4≤8*A3 ks+4∧∀a b c d,(iW (B5 ks) 0 a b).length+(iW (B5 ks) 1 c d).length≤8*A3 ks:=by
 have hin:∀a b k w,(Pf a b k w).length≤w.length+2:=fun a b k w=>by unfold Pf;split<;>simp
 cases ks with
 |nil=>refine⟨by simp[eW,B5],fun a b c d=>by simp[iW,Pf,B5]⟩
 |cons x l=>
  have hx:=ih x (by simp);cases l with
  |nil=>
   refine⟨by simp[eW,B5,A3];omega,fun a b c d=>?_⟩;have:=hin a b x.kind (A1 x);simp[iW,B5,A3];have h2:(Pf c d 0 []).length=0:=by simp[Pf]
   rw[h2];omega
  |cons y l=>
   have hy:=ih y (by simp);refine⟨by simp[eW,B5,A3];omega,fun a b c d=>?_⟩;have h1:=hin a b x.kind (A1 x);have h2:=hin c d y.kind (A1 y);simp[iW,B5,A3];omega
theorem Ae9(n:Nd):(A1 n).length+2≤8*Ai n:=by
 induction n using Nd.ind with
 |h n ih=>
 have hc:=Cj n;rw[Ac4];obtain⟨h1,h2⟩:=Ajl n.kids ih;have h3:=h2 true true true true;have h4:=h2 true false true true;have h5:(iW (B5 n.kids) 1 true false).length≤8*A3 n.kids-(eW (B5 n.kids) 0).length:=by
  have:=h2 false false true false;have e:iW (B5 n.kids) 0 false false=eW (B5 n.kids) 0:=by simp[iW,Pf,eW]
  rw[e]at this;omega
 unfold Gf
 repeat' split
 all_goals simp
 all_goals omega
abbrev PutC(r:List (List AV))(xs:Mg):Prop:=∀(b:Bool)(s:List UInt8)(ws:Mg)(h:Int),ws.length≤1000000000 →
 Hands X 294 [.ptr 0 0 0,.sl r .no] ⟨[[bP (Np 312 0 b) s ws h]],[s.length,ws.length]⟩ (.tup []) ⟨[[bP (Np 312 0 b) s (ws++xs) h]],[s.length,(ws++xs).length]⟩
theorem Jf(x:List UInt8):PutC [[str x]] [x]:=fun b s ws h hw=>Ajh b s ws [x] h (by simp;omega) rfl
theorem Aqv(x y:List UInt8):PutC [[str x],[str y]] [x,y]:=fun b s ws h hw=>Ajh b s ws [x,y] h (by simp;omega) rfl
theorem A5c(x y z:List UInt8):PutC [[str x],[str y],[str z]] [x,y,z]:=fun b s ws h hw=>Ajh b s ws [x,y,z] h (by simp;omega) rfl
theorem A5d(x y z u:List UInt8):PutC [[str x],[str y],[str z],[str u]] [x,y,z,u]:=fun b s ws h hw=>Ajh b s ws [x,y,z,u] h (by simp;omega) rfl
theorem A4e(x y z u v:List UInt8):PutC [[str x],[str y],[str z],[str u],[str v]] [x,y,z,u,v]:=fun b s ws h hw=>Ajh b s ws [x,y,z,u,v] h (by simp;omega) rfl
def HE(n:Nd):Prop:=∀(b:Bool)(s:List UInt8)(ws:Mg)(h:Int),ws.length+(A1 n).length≤1000000 →
 Hands X 296 [.ptr 0 0 0,nd n] ⟨[[bP (Np 312 0 b) s ws h]],[s.length,ws.length]⟩ (.tup []) ⟨[[bP (Np 312 0 b) s (ws++A1 n) h]],[s.length,(ws++A1 n).length]⟩
theorem Ue(n:Nd)(he:HE n)(c b:Bool)(s:List UInt8)(ws:Mg)(h:Int)(hw:ws.length+(Pf true c n.kind (A1 n)).length≤1000000) :
 Hands X 314 [.ptr 0 0 0,nd n,vb true,vb c] ⟨[[bP (Np 312 0 b) s ws h]],[s.length,ws.length]⟩ (.tup []) ⟨[[bP (Np 312 0 b) s (ws++Pf true c n.kind (A1 n)) h]],[s.length,(ws++Pf true c n.kind (A1 n)).length]⟩:=by
 refine Hands.run (n:=1) (m:=2) func314 ?_;refine Hh ?_;refine Df (fun h6=>?_) (fun h6=>?_)
 ·have h6':n.kind=6:=by simpa using h6
  refine Hh ?_;refine A0 ?_;have hI:Pf true c n.kind (A1 n)=[[40]]++A1 n++[[41]]:=by unfold Pf;rw[if_pos (by simp[h6'])]
  rw[hI]at hw⊢;simp at hw;refine Ae (τ':=[0,1]) [0] [0,1] (Jf [40] b s ws h (by omega)) ?_;refine Ae (τ':=[0,1]) [0] [0,1] (he b s (ws++[[40]]) h (by simp;omega)) ?_;refine Ae (τ':=[0,1]) [0] [0,1] (Jf [41] b s (ws++[[40]]++A1 n) h (by simp;omega)) ?_;rw[←Fp,←Fp];exact Bq func314 rfl rfl
 have h6':n.kind≠6:=by simpa using h6
 refine Df (fun h7=>?_) (fun h7=>?_)
 ·have h7':n.kind=7:=by simpa using h7
  refine A0 ?_;have hI:Pf true c n.kind (A1 n)=[[40]]++A1 n++[[41]]:=by unfold Pf;rw[if_pos (by simp[h7'])]
  rw[hI]at hw⊢;simp at hw;refine Ae (τ':=[0,1]) [0] [0,1] (Jf [40] b s ws h (by omega)) ?_;refine Ae (τ':=[0,1]) [0] [0,1] (he b s (ws++[[40]]) h (by simp;omega)) ?_;refine Ae (τ':=[0,1]) [0] [0,1] (Jf [41] b s (ws++[[40]]++A1 n) h (by simp;omega)) ?_;rw[←Fp,←Fp];exact Bq func314 rfl rfl
 have h7':n.kind≠7:=by simpa using h7
 cases c
 ·refine Ii ?_;refine Ag ?_;have hI:Pf true false n.kind (A1 n)=A1 n:=by unfold Pf;rw[if_neg (by simp[h6',h7'])]
  rw[hI]at hw⊢;refine Ae (τ':=[0,1]) [0] [0,1] (he b s ws h (by omega)) ?_;exact Ec func314 rfl rfl
 ·refine Hh ?_;refine Ah (fun h8=>?_) (fun h8=>?_)
  ·have h8':n.kind=8:=by simpa using h8
   have hI:Pf true true n.kind (A1 n)=[[40]]++A1 n++[[41]]:=by unfold Pf;rw[if_pos (by simp[h8'])]
   rw[hI]at hw⊢;simp at hw;refine Ae (τ':=[0,1]) [0] [0,1] (Jf [40] b s ws h (by omega)) ?_;refine Ae (τ':=[0,1]) [0] [0,1] (he b s (ws++[[40]]) h (by simp;omega)) ?_;refine Ae (τ':=[0,1]) [0] [0,1] (Jf [41] b s (ws++[[40]]++A1 n) h (by simp;omega)) ?_;rw[←Fp,←Fp];exact Bq func314 rfl rfl
  ·have h8':n.kind≠8:=by simpa using h8
   have hI:Pf true true n.kind (A1 n)=A1 n:=by unfold Pf;rw[if_neg (by simp[h6',h7',h8'])]
   rw[hI]at hw⊢;refine Ae (τ':=[0,1]) [0] [0,1] (he b s ws h (by omega)) ?_;exact Ec func314 rfl rfl
theorem As1(k:Int)(s:List UInt8)(m:Int)(c:List (Int×Mg))(h:k≠1∧k≠2∧k≠3∧k≠4∧k≠5∧k≠6∧k≠7∧k≠8):Gf k s m c=if 11≤k∧k≤16 then eW c 0++[Ux k]++eW c 1 else[]:=by
 obtain⟨h1,h2,h3,h4,h5,h6,h7,h8⟩:=h;unfold Gf;rw[if_neg h1,if_neg h2,if_neg h3,if_neg h4,if_neg h5,if_neg (by simp[h6,h7]),if_neg h8]
theorem Acr{X:Cx}{S:St}{F:C5}{N:Nat}{ops:Array Oper}{i:Nat}{o:Oper}{t:TypeId}{ps:Array (Nat×Operand)}{vals:List (Nat×Value)}{cs:Array Value}(h:X.P.built t vals=some cs)(ho:ops[i]?=some o:=by rfl)(hw:A8 ops F o=some true:=by rfl)
 (hop:o.op=.build t ps:=by rfl)(hv:∀a:Act,ps.toList.map (fun x=>(x.1,a.eval x.2))=vals:=by intro a;rfl):Ndo X N ops i o F (.agg (cs.toList.map Ic)) S S:=by
 refine Dj ho hw fun F' E w a hc hI hF=>?_;refine⟨.agg cs,?_,.agg _ _ (by simp) fun j v x hv hx=>?_⟩
 ·have hrun:=run_build (P:=X.P) w t (ps.map fun x=>(x.1,a.eval x.2)) cs (by rw[Array.toList_map,hv a];exact h);simp[execOp,hop,hrun]
 ·simp[hv]at hx;subst hx;exact Mx v
theorem Ai2:X.P.built 337 [(0,.string ⟨#[43]⟩),(1,.string ⟨#[45]⟩)]=some #[.string ⟨#[43]⟩,.string ⟨#[45]⟩]:=by kernel_rfl
theorem An2(n:Nd)(hp:PrN n)(hsz:Ai n≤100000)(ih:n.kind≠0→∀i,HE (Bv n i)):HE n:=by
 intro b s ws h hw;have hkl:n.kids.length≤4000000000:=by have:=Bm n.kids;have:=Cj n;omega
 have q0:=Ads n 0 (by omega) hkl;have q1:=Ads n 1 (by omega) hkl;have hE:A1 n=Gf n.kind n.name n.num (B5 n.kids):=Ac4 n;rw[hE]at hw⊢;have pn:n.name.length≤8∧-9223372036854775808≤n.num∧n.num≤9223372036854775807:=by cases hp with|mk k s m ks hs h0 h1 hk=>exact⟨hs,h0,h1⟩
 refine Hands.run (n:=1) (m:=2) func296 ?_;refine Ah (fun h1=>?_) (fun h1=>?_)
 ·have h1':n.kind=1:=by simpa using h1
  have hT:Gf n.kind n.name n.num (B5 n.kids)=[Lib.itoa n.num]:=by unfold Gf;rw[if_pos h1']
  rw[hT]at hw⊢;refine Al (Amf n.num pn.2.1 pn.2.2) ?_;refine Ae (τ':=[0,1]) [0] [0,1] (Jf (Lib.itoa n.num) b s ws h (by omega)) ?_;exact Ec func296 rfl rfl
 have h1':n.kind≠1:=by simpa using h1
 refine Ah (fun h2=>?_) (fun h2=>?_)
 ·have h2':n.kind=2:=by simpa using h2
  have hT:Gf n.kind n.name n.num (B5 n.kids)=[n.name]:=by unfold Gf;rw[if_neg h1',if_pos h2']
  rw[hT]at hw⊢;refine Ae (τ':=[0,1]) [0] [0,1] (Jf n.name b s ws h (by omega)) ?_;exact Ec func296 rfl rfl
 have h2':n.kind≠2:=by simpa using h2
 refine Ah (fun h3=>?_) (fun h3=>?_)
 ·have h3':n.kind=3:=by simpa using h3
  have hT:Gf n.kind n.name n.num (B5 n.kids)=[n.name,[91]]++A1 (Bv n 0)++[[93]]:=by unfold Gf;rw[if_neg h1',if_neg h2',if_pos h3',F8]
  rw[hT]at hw⊢;simp at hw;have e0:=ih (by omega) 0;refine Ae (τ':=[0,1]) [0] [0,1] (Aqv n.name [91] b s ws h (by omega)) ?_;refine Al q0 ?_;refine Ae (τ':=[0,1]) [0] [0,1] (e0 b s (ws++[n.name,[91]]) h (by simp;omega)) ?_;refine Ae (τ':=[0,1]) [0] [0,1] (Jf [93] b s (ws++[n.name,[91]]++A1 (Bv n 0)) h (by simp;omega)) ?_;rw[←Fp,←Fp];exact Ec func296 rfl rfl
 have h3':n.kind≠3:=by simpa using h3
 refine Ah (fun h4=>?_) (fun h4=>?_)
 ·have h4':n.kind=4:=by simpa using h4
  have hT:Gf n.kind n.name n.num (B5 n.kids)=[[108,101,110],[40],n.name,[41]]:=by unfold Gf;rw[if_neg h1',if_neg h2',if_neg h3',if_pos h4']
  rw[hT]at hw⊢;refine Ae (τ':=[0,1]) [0] [0,1] (A5d [108,101,110] [40] n.name [41] b s ws h (by omega)) ?_;exact Ec func296 rfl rfl
 have h4':n.kind≠4:=by simpa using h4
 refine Ah (fun h5=>?_) (fun h5=>?_)
 ·have h5':n.kind=5:=by simpa using h5
  have hT:Gf n.kind n.name n.num (B5 n.kids)=[[32,45]]++Pf true true (Bv n 0).kind (A1 (Bv n 0)):=by unfold Gf;rw[if_neg h1',if_neg h2',if_neg h3',if_neg h4',if_pos h5',Z2]
  rw[hT]at hw⊢;simp at hw;have e0:=ih (by omega) 0;refine Ae (τ':=[0,1]) [0] [0,1] (Jf [32,45] b s ws h (by omega)) ?_;refine Al q0 ?_;refine Ae (τ':=[0,1]) [0] [0,1] (Ue (Bv n 0) e0 true b s (ws++[[32,45]]) h (by simp;omega)) ?_;rw[←Fp];exact Ec func296 rfl rfl
 have h5':n.kind≠5:=by simpa using h5
 refine Ah (fun h6=>?_) (fun h6=>?_)
 ·have h6':n.kind=6:=by simpa using h6
  have hT:Gf n.kind n.name n.num (B5 n.kids)=A1 (Bv n 0)++[[43]]++Pf true false (Bv n 1).kind (A1 (Bv n 1)):=by
   unfold Gf;rw[if_neg h1',if_neg h2',if_neg h3',if_neg h4',if_neg h5',if_pos (by simp[h6']),F8,Z2];simp[h6']
  rw[hT]at hw⊢;simp at hw;have e0:=ih (by omega) 0;have e1:=ih (by omega) 1;refine Al q0 ?_;refine Ae (τ':=[0,1]) [0] [0,1] (e0 b s ws h (by omega)) ?_;refine Bn (Acr Ai2) ?_;have hwk:IntKind.i64.wrap (n.kind-6)=0:=by rw[h6'];rfl
  refine Bn (W4 (n:=IntKind.i64.wrap (n.kind-6)) (x:=str [43]) rfl rfl rfl rfl rfl rfl rfl rfl rfl (by omega) (by omega) (by rw[hwk];rfl)) ?_;refine Ae (τ':=[0,1]) [0] [0,1] (Jf [43] b s (ws++A1 (Bv n 0)) h (by simp;omega)) ?_;refine Al q1 ?_;refine Ae (τ':=[0,1]) [0] [0,1] (Ue (Bv n 1) e1 false b s (ws++A1 (Bv n 0)++[[43]]) h (by simp;omega)) ?_;rw[←Fp,←Fp];exact Ec func296 rfl rfl
 have h6':n.kind≠6:=by simpa using h6
 refine Ah (fun h7=>?_) (fun h7=>?_)
 ·have h7':n.kind=7:=by simpa using h7
  have hT:Gf n.kind n.name n.num (B5 n.kids)=A1 (Bv n 0)++[[45]]++Pf true false (Bv n 1).kind (A1 (Bv n 1)):=by
   unfold Gf;rw[if_neg h1',if_neg h2',if_neg h3',if_neg h4',if_neg h5',if_pos (by simp[h7']),F8,Z2];simp[h7']
  rw[hT]at hw⊢;simp at hw;have e0:=ih (by omega) 0;have e1:=ih (by omega) 1;refine Al q0 ?_;refine Ae (τ':=[0,1]) [0] [0,1] (e0 b s ws h (by omega)) ?_;refine Bn (Acr Ai2) ?_;have hwk:IntKind.i64.wrap (n.kind-6)=1:=by rw[h7'];rfl
  refine Bn (W4 (n:=IntKind.i64.wrap (n.kind-6)) (x:=str [45]) rfl rfl rfl rfl rfl rfl rfl rfl rfl (by omega) (by omega) (by rw[hwk];rfl)) ?_;refine Ae (τ':=[0,1]) [0] [0,1] (Jf [45] b s (ws++A1 (Bv n 0)) h (by simp;omega)) ?_;refine Al q1 ?_;refine Ae (τ':=[0,1]) [0] [0,1] (Ue (Bv n 1) e1 false b s (ws++A1 (Bv n 0)++[[45]]) h (by simp;omega)) ?_;rw[←Fp,←Fp];exact Ec func296 rfl rfl
 have h7':n.kind≠7:=by simpa using h7
 refine Ah (fun h8=>?_) (fun h8=>?_)
 ·have h8':n.kind=8:=by simpa using h8
  have hT:Gf n.kind n.name n.num (B5 n.kids)=Pf true false (Bv n 0).kind (A1 (Bv n 0))++[[42]]++Pf true true (Bv n 1).kind (A1 (Bv n 1)):=by
   unfold Gf;rw[if_neg h1',if_neg h2',if_neg h3',if_neg h4',if_neg h5',if_neg (by simp[h6',h7']),if_pos h8',Z2,Z2]
  rw[hT]at hw⊢;simp at hw;have e0:=ih (by omega) 0;have e1:=ih (by omega) 1;refine Al q0 ?_;refine Ae (τ':=[0,1]) [0] [0,1] (Ue (Bv n 0) e0 false b s ws h (by omega)) ?_;refine Ae (τ':=[0,1]) [0] [0,1] (Jf [42] b s (ws++Pf true false (Bv n 0).kind (A1 (Bv n 0))) h (by simp;omega)) ?_;refine Al q1 ?_;refine Ae (τ':=[0,1]) [0] [0,1] (Ue (Bv n 1) e1 true b s (ws++Pf true false (Bv n 0).kind (A1 (Bv n 0))++[[42]]) h (by simp;omega)) ?_;rw[←Fp,←Fp];exact Ec func296 rfl rfl
 have h8':n.kind≠8:=by simpa using h8
 have hlo:=As1 n.kind n.name n.num (B5 n.kids) ⟨h1',h2',h3',h4',h5',h6',h7',h8'⟩;refine Ah (fun h11=>?_) (fun h11=>?_)
 ·have hk:n.kind=11:=by simpa using h11
  have hT:Gf n.kind n.name n.num (B5 n.kids)=A1 (Bv n 0)++[[60]]++A1 (Bv n 1):=by
   rw[hlo,if_pos (by omega),F8,F8,hk];rfl
  rw[hT]at hw⊢;simp at hw;have e0:=ih (by omega) 0;have e1:=ih (by omega) 1;refine Al q0 ?_;refine Ae (τ':=[0,1]) [0] [0,1] (e0 b s ws h (by omega)) ?_;have hwk:IntKind.i64.wrap (n.kind-11)=0:=by rw[hk];rfl
  refine Bn (Mp (n:=IntKind.i64.wrap (n.kind-11)) (r:=str [60]::condG.drop 1) rfl rfl rfl rfl rfl rfl rfl rfl (by rw[hwk];omega) (by rw[hwk];omega) (by rw[hwk];decide) (by rw[hwk];rfl)) ?_;refine Ae (τ':=[0,1]) [0] [0,1] (Jf [60] b s (ws++A1 (Bv n 0)) h (by simp;omega)) ?_;refine Al q1 ?_;refine Ae (τ':=[0,1]) [0] [0,1] (e1 b s (ws++A1 (Bv n 0)++[[60]]) h (by simp;omega)) ?_;rw[←Fp,←Fp];exact Ec func296 rfl rfl
 have h11':n.kind≠11:=by simpa using h11
 refine Ah (fun h12=>?_) (fun h12=>?_)
 ·have hk:n.kind=12:=by simpa using h12
  have hT:Gf n.kind n.name n.num (B5 n.kids)=A1 (Bv n 0)++[[60,61]]++A1 (Bv n 1):=by
   rw[hlo,if_pos (by omega),F8,F8,hk];rfl
  rw[hT]at hw⊢;simp at hw;have e0:=ih (by omega) 0;have e1:=ih (by omega) 1;refine Al q0 ?_;refine Ae (τ':=[0,1]) [0] [0,1] (e0 b s ws h (by omega)) ?_;have hwk:IntKind.i64.wrap (n.kind-11)=1:=by rw[hk];rfl
  refine Bn (Mp (n:=IntKind.i64.wrap (n.kind-11)) (r:=str [60,61]::condG.drop 2) rfl rfl rfl rfl rfl rfl rfl rfl (by rw[hwk];omega) (by rw[hwk];omega) (by rw[hwk];decide) (by rw[hwk];rfl)) ?_;refine Ae (τ':=[0,1]) [0] [0,1] (Jf [60,61] b s (ws++A1 (Bv n 0)) h (by simp;omega)) ?_;refine Al q1 ?_;refine Ae (τ':=[0,1]) [0] [0,1] (e1 b s (ws++A1 (Bv n 0)++[[60,61]]) h (by simp;omega)) ?_;rw[←Fp,←Fp];exact Ec func296 rfl rfl
 have h12':n.kind≠12:=by simpa using h12
 refine Ah (fun h13=>?_) (fun h13=>?_)
 ·have hk:n.kind=13:=by simpa using h13
  have hT:Gf n.kind n.name n.num (B5 n.kids)=A1 (Bv n 0)++[[62]]++A1 (Bv n 1):=by
   rw[hlo,if_pos (by omega),F8,F8,hk];rfl
  rw[hT]at hw⊢;simp at hw;have e0:=ih (by omega) 0;have e1:=ih (by omega) 1;refine Al q0 ?_;refine Ae (τ':=[0,1]) [0] [0,1] (e0 b s ws h (by omega)) ?_;have hwk:IntKind.i64.wrap (n.kind-11)=2:=by rw[hk];rfl
  refine Bn (Mp (n:=IntKind.i64.wrap (n.kind-11)) (r:=str [62]::condG.drop 3) rfl rfl rfl rfl rfl rfl rfl rfl (by rw[hwk];omega) (by rw[hwk];omega) (by rw[hwk];decide) (by rw[hwk];rfl)) ?_;refine Ae (τ':=[0,1]) [0] [0,1] (Jf [62] b s (ws++A1 (Bv n 0)) h (by simp;omega)) ?_;refine Al q1 ?_;refine Ae (τ':=[0,1]) [0] [0,1] (e1 b s (ws++A1 (Bv n 0)++[[62]]) h (by simp;omega)) ?_;rw[←Fp,←Fp];exact Ec func296 rfl rfl
 have h13':n.kind≠13:=by simpa using h13
 refine Ah (fun h14=>?_) (fun h14=>?_)
 ·have hk:n.kind=14:=by simpa using h14
  have hT:Gf n.kind n.name n.num (B5 n.kids)=A1 (Bv n 0)++[[62,61]]++A1 (Bv n 1):=by
   rw[hlo,if_pos (by omega),F8,F8,hk];rfl
  rw[hT]at hw⊢;simp at hw;have e0:=ih (by omega) 0;have e1:=ih (by omega) 1;refine Al q0 ?_;refine Ae (τ':=[0,1]) [0] [0,1] (e0 b s ws h (by omega)) ?_;have hwk:IntKind.i64.wrap (n.kind-11)=3:=by rw[hk];rfl
  refine Bn (Mp (n:=IntKind.i64.wrap (n.kind-11)) (r:=str [62,61]::condG.drop 4) rfl rfl rfl rfl rfl rfl rfl rfl (by rw[hwk];omega) (by rw[hwk];omega) (by rw[hwk];decide) (by rw[hwk];rfl)) ?_;refine Ae (τ':=[0,1]) [0] [0,1] (Jf [62,61] b s (ws++A1 (Bv n 0)) h (by simp;omega)) ?_;refine Al q1 ?_;refine Ae (τ':=[0,1]) [0] [0,1] (e1 b s (ws++A1 (Bv n 0)++[[62,61]]) h (by simp;omega)) ?_;rw[←Fp,←Fp];exact Ec func296 rfl rfl
 have h14':n.kind≠14:=by simpa using h14
 refine Ah (fun h15=>?_) (fun h15=>?_)
 ·have hk:n.kind=15:=by simpa using h15
  have hT:Gf n.kind n.name n.num (B5 n.kids)=A1 (Bv n 0)++[[61,61]]++A1 (Bv n 1):=by
   rw[hlo,if_pos (by omega),F8,F8,hk];rfl
  rw[hT]at hw⊢;simp at hw;have e0:=ih (by omega) 0;have e1:=ih (by omega) 1;refine Al q0 ?_;refine Ae (τ':=[0,1]) [0] [0,1] (e0 b s ws h (by omega)) ?_;have hwk:IntKind.i64.wrap (n.kind-11)=4:=by rw[hk];rfl
  refine Bn (Mp (n:=IntKind.i64.wrap (n.kind-11)) (r:=str [61,61]::condG.drop 5) rfl rfl rfl rfl rfl rfl rfl rfl (by rw[hwk];omega) (by rw[hwk];omega) (by rw[hwk];decide) (by rw[hwk];rfl)) ?_;refine Ae (τ':=[0,1]) [0] [0,1] (Jf [61,61] b s (ws++A1 (Bv n 0)) h (by simp;omega)) ?_;refine Al q1 ?_;refine Ae (τ':=[0,1]) [0] [0,1] (e1 b s (ws++A1 (Bv n 0)++[[61,61]]) h (by simp;omega)) ?_;rw[←Fp,←Fp];exact Ec func296 rfl rfl
 have h15':n.kind≠15:=by simpa using h15
 refine Ah (fun h16=>?_) (fun h16=>?_)
 ·have hk:n.kind=16:=by simpa using h16
  have hT:Gf n.kind n.name n.num (B5 n.kids)=A1 (Bv n 0)++[[33,61]]++A1 (Bv n 1):=by
   rw[hlo,if_pos (by omega),F8,F8,hk];rfl
  rw[hT]at hw⊢;simp at hw;have e0:=ih (by omega) 0;have e1:=ih (by omega) 1;refine Al q0 ?_;refine Ae (τ':=[0,1]) [0] [0,1] (e0 b s ws h (by omega)) ?_;have hwk:IntKind.i64.wrap (n.kind-11)=5:=by rw[hk];rfl
  refine Bn (Mp (n:=IntKind.i64.wrap (n.kind-11)) (r:=str [33,61]::condG.drop 6) rfl rfl rfl rfl rfl rfl rfl rfl (by rw[hwk];omega) (by rw[hwk];omega) (by rw[hwk];decide) (by rw[hwk];rfl)) ?_;refine Ae (τ':=[0,1]) [0] [0,1] (Jf [33,61] b s (ws++A1 (Bv n 0)) h (by simp;omega)) ?_;refine Al q1 ?_;refine Ae (τ':=[0,1]) [0] [0,1] (e1 b s (ws++A1 (Bv n 0)++[[33,61]]) h (by simp;omega)) ?_;rw[←Fp,←Fp];exact Ec func296 rfl rfl
 have h16':n.kind≠16:=by simpa using h16
 have hT:Gf n.kind n.name n.num (B5 n.kids)=[]:=by rw[hlo,if_neg (by omega)]
 rw[hT,H0];exact Ec func296 rfl rfl
theorem A3x:HE Cg:=An2 Cg (.mk 0 [] 0 [] (by simp) (by omega) (by omega) (fun x hx=>by cases hx)) (by decide) fun h=>absurd rfl h
theorem Ahn(n:Nd)(hp:PrN n)(hsz:Ai n≤100000):HE n:=by
 induction n using Nd.ind with
 |h n ih=>
  refine An2 n hp hsz fun _ i=>?_;rcases Mt n i with h|h
  ·have hc:=E5 h;have:=Cj n;exact ih _ h (hp.kid i) (by omega)
  ·rw[h];exact A3x
def Sep:List UInt8→Prop
 |[]=>True
 |c::_=>(Em c||digit c)=false
inductive Lex:List UInt8→List (List UInt8)→Prop where
 |nil:Lex [] []
 |blank (c:UInt8) (t:List UInt8) (ws:List (List UInt8)) (hc:c=32∨c=10) (h:Lex t ws):Lex (c::t) ws
 |wrd (w t:List UInt8) (ws:List (List UInt8)) (hk:Di w≠0) (he:Ll (w++t)=w.length) (h:Lex t ws):Lex (w++t) (w::ws)
theorem Vv:Di []=0:=by decide
theorem Adc{c:UInt8}{l:List UInt8}(h:Di (c::l)≠0):c≠32∧c≠10∧c≠35:=by
 have key:∀d:UInt8,d=32∨d=10∨d=35→Di (d::l)=0:=by
  intro d hd;have h1:has Ui (d::l)=false:=by rcases hd with rfl|rfl|rfl<;>simp[has,Ui]
  have h2:nameS (d::l)=false:=by
   have:Em d=false:=by rcases hd with rfl|rfl|rfl<;>decide
   simp[nameS,this]
  have h3:¬Dp (d::l)≥0:=by
   have:digit d=false:=by rcases hd with rfl|rfl|rfl<;>decide
   have h48:(d==48)=false:=by rcases hd with rfl|rfl|rfl<;>decide
   simp only[Dp];split
   ·omega
   ·simp[h48,Qt,this]
  have h4:has Kc (d::l)=false:=by rcases hd with rfl|rfl|rfl<;>simp[has,Kc]
  simp[Di,h1,h2,h3,h4]
 refine⟨fun e=>h (key c (.inl e)),fun e=>h (key c (.inr (.inl e))),fun e=>h (key c (.inr (.inr e)))⟩
theorem Arb{w t:List UInt8}(hk:Di w≠0):Cd false (w++t)=0:=by
 cases w with
 |nil=>exact absurd Vv hk
 |cons c l=>
  obtain⟨h1,h2,h3⟩:=Adc hk;simp[Cd,h1,h2,h3]
theorem A1v{s:List UInt8}{ws:List (List UInt8)}(h:Lex s ws):∀(f a:Nat)(out:List Wd),(s.drop (Cd false s)).length<f→(Hg f a (s.drop (Cd false s)) out).2.1=0 →
 (Hg f a (s.drop (Cd false s)) out).1.map Wd.text=out.map Wd.text++ws:=by
 induction h with
 |nil=>
  intro f a out hf h0;cases f with
  |zero=>simp at hf
  |succ f=>simp[Cd,Hg]
 |blank c t ws hc h ih=>
  intro f a out hf h0;have e:(c::t).drop (Cd false (c::t))=t.drop (Cd false t):=by
   have:Cd false (c::t)=1+Cd false t:=by rcases hc with rfl|rfl<;>simp[Cd]
   rw[this,Nat.add_comm];rfl
  rw[e]at hf h0⊢;exact ih f a out hf h0
 |wrd w t ws hk he h ih=>
  intro f a out hf h0;rw[Arb hk,List.drop_zero]at hf h0⊢;cases f with
  |zero=>simp at hf
  |succ f=>
   cases w with
   |nil=>exact absurd Vv hk
   |cons c l=>
    have ht:((c::l)++t).take (Ll ((c::l)++t))=c::l:=by rw[he];exact List.take_left
    have hd:((c::l)++t).drop (Ll ((c::l)++t))=t:=by rw[he];exact List.drop_left
    have hd2:∀b,((c::l)++t).drop (Ll ((c::l)++t)+b)=t.drop b:=fun b=>by rw[←Aed,hd]
    rw[Pz]at ht hd hd2 hf h0⊢;simp only[Hg]at h0⊢;rw[ht,hd,hd2]at h0⊢;rw[if_neg (by simpa using hk)]at h0⊢;split at h0
    ·simp at h0
    ·rename_i hn;rw[if_neg hn];have:=ih f (a+Ll (c::(l++t))+Cd false t) (out++[⟨Di (c::l),c::l,a⟩]) (by simp at hf⊢;omega) h0;rw[this];simp
theorem Aqd{s:List UInt8}{ws:List (List UInt8)}(h:Lex s ws)(h0:(C4 s).2.1=0):(C4 s).1.map Wd.text=ws:=by
 unfold C4 at h0⊢;split at h0
 ·simp at h0
 ·rename_i h1;rw[if_neg h1];have:=A1v h (s.length+1) (Cd false s) [] (by simp;omega) h0;simpa using this
theorem Abj{t:List UInt8}(ht:Sep t):∀w:List UInt8,Q9 w=true→Gx (w++t)=w.length
 |[],_=>by
  cases t with
  |nil=>rfl
  |cons c t=>simp only[Sep]at ht;simp[Gx,ht]
 |c::l,h=>by
  simp only[Q9,P0,Dd]at h;simp only[Pz,Gx,h.1,if_true];rw[Abj ht l h.2];simp;omega
theorem Lex.al{w t:List UInt8}{ws:List (List UInt8)}(hw:Q9 w=true)(hk:Di w≠0)(hs:Sep t)(h:Lex t ws):Lex (w++t) (w::ws):=by
 refine .wrd w t ws hk ?_ h;cases w with
 |nil=>exact absurd Vv hk
 |cons c l=>
  have hc:(Em c||digit c)=true:=by simp only[Q9,P0,Dd]at hw;exact hw.1
  rw[←Abj hs (c::l) hw];simp only[Pz,Ll,hc,if_true]
abbrev Xh:List UInt8:=[43,45,42,40,41,91,93,123,125,59,63]
theorem H1{c:UInt8}{t:List UInt8}{ws:List (List UInt8)}(hc:c∈Xh)(h:Lex t ws):Lex (c::t) ([c]::ws):=by
 have h1:∀c:UInt8,c∈Xh→Di [c]≠0∧(Em c||digit c)=false:=by decide
 obtain⟨h2,h3⟩:=h1 c hc;refine .wrd [c] t ws h2 ?_ h;show Ll (c::t)=1;cases t with
 |nil=>simp[Ll,h3]
 |cons d l=>
  have:has Kc [c,d]=false:=by
   simp at hc;rcases hc with rfl|rfl|rfl|rfl|rfl|rfl|rfl|rfl|rfl|rfl|rfl<;>simp[has,Kc]
  simp[Ll,h3,this]
abbrev Oi:List (List UInt8):=[[60],[60,61],[62],[62,61],[61,61],[33,61],[61]]
theorem Ak6{w t:List UInt8}{ws:List (List UInt8)}(hw:w∈Oi)(h:Lex t ws):Lex (w++32::t) (w::ws):=by
 have h1:∀w,w∈Oi→Di w≠0:=by decide
 refine .wrd w (32::t) ws (h1 w hw) ?_ (.blank 32 t ws (.inl rfl) h);simp at hw;rcases hw with rfl|rfl|rfl|rfl|rfl|rfl|rfl<;>rfl
theorem Mw{s:List UInt8}(h:nameS s=true):Q9 s=true∧Di s=1:=by
 cases s with
 |nil=>simp[nameS]at h
 |cons c l=>
  have h':=h;simp only[nameS,Dd,Ke,Ml]at h';refine⟨h'.2,?_⟩;simp[Di,h'.1.2,h]
theorem Lex.name{s t:List UInt8}{ws:List (List UInt8)}(hn:nameS s=true)(hs:Sep t)(h:Lex t ws):Lex (s++t) (s::ws):=
 .al (Mw hn).1 (by rw[(Mw hn).2];decide) hs h
theorem Qj(n:Nat)(h:n≤1000000):Q9 (Md n)=true∧Di (Md n)=2:=by
 have hd:=T9 n;have hp:=Ag8 n;have hN:=Pq n h;generalize Md n=l at hd hp hN;cases l with
 |nil=>simp at hp
 |cons c l=>
  have hd':=hd;simp only[T8,P0,Dd,zzq48]at hd';have hdc:=Lb hd'.1;have hlc:Em c=false:=by simp[Em,Bl];omega
  refine⟨?_,?_⟩
  ·simp only[Q9,zzq48,Pd];intro x hx
   right
   rcases zzq13.1 hx with rfl|hx
   ·exact hd'.1
   ·exact hd'.2 x hx
  ·have h1:has Ui (c::l)=false:=by
    simp only[has,List.any_eq_false];intro k hk he;have he:=zzq54.1 he;have:∀k,k∈Ui→∀d l',k=d::l'→97≤d.toNat:=by
     intro k hk d l' e;simp only[Ui,zzq13,Ww,or_false]at hk;rcases hk with rfl|rfl|rfl|rfl|rfl|rfl|rfl|rfl|rfl|rfl|rfl|rfl|rfl<;>(injection e with e1 e2;subst e1;decide)
    have:=this k hk c l he;omega
   have h2:nameS (c::l)=false:=by simp[nameS,hlc]
   simp[Di,h1,h2,hN]
theorem Lex.num{n:Nat}{t:List UInt8}{ws:List (List UInt8)}(hn:n≤1000000)(hs:Sep t)(h:Lex t ws):Lex (Md n++t) (Md n::ws):=
 .al (Qj n hn).1 (by rw[(Qj n hn).2];decide) hs h
theorem Lex.key{s t:List UInt8}{ws:List (List UInt8)}(hn:s∈Ui)(hs:Sep t)(h:Lex t ws):Lex (s++t) (s::ws):=by
 have:∀s,s∈Ui→Q9 s=true∧Di s≠0:=by decide
 exact .al (this s hn).1 (this s hn).2 hs h
theorem Lex.sp{t:List UInt8}{ws:List (List UInt8)}(h:Lex t ws):Lex (32::t) ws:=.blank 32 t ws (.inl rfl) h
theorem Tx{t:List UInt8}{ws:List (List UInt8)}(h:Lex t ws):Lex (10::t) ws:=.blank 10 t ws (.inr rfl) h
def Jp(l:Int)(k:Int)(w:List (List UInt8)):List (List UInt8):=if L8 k<l then[[40]]++w++[[41]]else w
def Dv:Nd→List (List UInt8)
 |.mk k s m []=>if k=1 then[Md m.toNat]else if k=4 then[[108,101,110],[40],s,[41]]else[s]
 |.mk k s _ [a]=>if k=3 then[s,[91]]++Dv a++[[93]]else[[45]]++Jp 3 a.kind (Dv a)
 |.mk k _ _ (a::b::_)=>
  if k=6 then Jp 1 a.kind (Dv a)++[[43]]++Jp 2 b.kind (Dv b)
  else if k=7 then Jp 1 a.kind (Dv a)++[[45]]++Jp 2 b.kind (Dv b)
  else if k=8 then Jp 2 a.kind (Dv a)++[[42]]++Jp 3 b.kind (Dv b)
  else Dv a++[Ux k]++Dv b
def LexP(t:List UInt8)(ws:List (List UInt8)):Prop:=∀(u:List UInt8)(vs:List (List UInt8)),Sep u→Lex u vs→Lex (t++u) (ws++vs)
theorem LexP.par{l k:Int}{t:List UInt8}{ws:List (List UInt8)}(h:LexP t ws):LexP (Me l k t) (Jp l k ws):=by
 unfold Me Jp;split
 ·intro u vs hs hu;have:=h (41::u) ([41]::vs) (by simp only[Sep];decide) (H1 (by simp) hu);have:=H1 (c:=40) (by simp) this;simpa using this
 ·exact h
theorem Mi(t:List UInt8):Sep (32::t):=by simp only[Sep];decide
theorem Al6{n:Nd}(h:FE n):LexP (Bt n) (Dv n):=by
 induction h with
 |num m h0 h1=>intro u vs hs hu;simp only[Bt,Dv,if_true];exact Lex.num (by omega) hs hu
 |var s h=>intro u vs hs hu;simp only[Bt,Dv,if_true];exact Lex.name h hs hu
 |cell s a h ha ih=>
  intro u vs hs hu;have h1:=ih (93::u) ([93]::vs) (by simp only[Sep];decide) (H1 (by simp) hu);have h2:=Lex.name h (by simp only[Sep];decide) (H1 (c:=91) (by simp) h1);simpa[Bt,Dv]using h2
 |len s h=>
  intro u vs hs hu;have h1:=Lex.name h (by simp only[Sep];decide) (H1 (c:=41) (by simp) hu);have h2:=Lex.key (s:=[108,101,110]) (by decide) (by simp only[Sep];decide) (H1 (c:=40) (by simp) h1);simpa[Bt,Dv]using h2
 |neg a ha ih=>
  intro u vs hs hu;have h1:=H1 (c:=45) (by simp) ((ih.par (l:=3) (k:=a.kind)) u vs hs hu);simpa[Bt,Dv]using h1
 |two k a b hk ha hb iha ihb=>
  have go:∀(l l':Int) (c:UInt8),c∈Xh→LexP (Me l a.kind (Bt a)++[32,c,32]++Me l' b.kind (Bt b)) (Jp l a.kind (Dv a)++[[c]]++Jp l' b.kind (Dv b)):=by
   intro l l' c hc u vs hs hu;have h1:=(ihb.par (l:=l') (k:=b.kind)) u vs hs hu;have h2:=(iha.par (l:=l) (k:=a.kind)) _ _ (Mi _) (Lex.sp (H1 hc (Lex.sp h1)));simpa using h2
  rcases hk with rfl|rfl|rfl
  ·simpa[Bt,Dv]using go 1 2 43 (by simp)
  ·simpa[Bt,Dv]using go 1 2 45 (by simp)
  ·simpa[Bt,Dv]using go 2 3 42 (by simp)
theorem Aam(k:Int):Ux k∈Oi:=by
 unfold Ux;repeat' split
 all_goals simp
theorem A1u{n:Nd}(h:FC n):LexP (Bt n) (Dv n):=by
 cases h with
 |mk k a b h0 h1 ha hb=>
  intro u vs hs hu;have i1:=Al6 hb u vs hs hu;have i2:=Al6 ha _ _ (Mi _) (Lex.sp (Ak6 (Aam k) i1));have ne:¬k=6∧¬k=7∧¬k=8:=by omega
  simpa[Bt,Dv,ne.1,ne.2.1,ne.2.2]using i2
mutual
def Ih:Nd→List (List UInt8)
 |.mk k s m []=>
  if k=31 then[Nm,s,[59]]
  else if k=32 then[Fj,s,[91],if 0≤m then Md m.toNat else[63],[93],[59]]
  else if k=23 then[Iv,s,[59]]
  else if k=28 then[I1,[59]]
  else[Jb,[59]]
 |.mk k s _ [a]=>if k=21 then[s,[61]]++Dv a++[[59]]else[Ga]++Dv a++[[59]]
 |.mk k s _ [a,.mk k' s' m' l]=>
  if k=22 then[s,[91]]++Dv a++[[93],[61]]++Dv (.mk k' s' m' l)++[[59]]
  else[Gp]++Dv a++[[123]]++Jc l++[[125]]
 |.mk k s _ (a::.mk k' s' m' l'::.mk _ _ _ l::_)=>
  if k=26 then[L9,s,Jn]++Dv a++[wTo]++Dv (.mk k' s' m' l')++[[123]]++Jc l++[[125]]
  else[V9]++Dv a++[[123]]++Jc l'++[[125]] ++
   (match l with
     |[]=>[]
     |_=>[Iu,[123]]++Jc l++[[125]])
def Jc:List Nd→List (List UInt8)
 |[]=>[]
 |x::l=>Ih x++Jc l
end
theorem Lex.pad{t:List UInt8}{ws:List (List UInt8)}(h:Lex t ws):∀p:List UInt8,(∀c,c∈p→c=32)→Lex (p++t) ws
 |[],_=>h
 |c::p,hp=>by
  have:=hp c (by simp);subst this;exact .sp (Lex.pad h p fun c hc=>hp c (by simp[hc]))
def Awa(t:List UInt8)(ws:List (List UInt8)):Prop:=∀(u:List UInt8)(vs:List (List UInt8)),Lex u vs→Lex (t++u) (ws++vs)
theorem Oc{l:List Nd}{p:List UInt8}(h:∀x,x∈l→Awa (Cp x p) (Ih x)):Awa (Ij l p) (Jc l):=by
 induction l with
 |nil=>intro u vs hu;simpa[Ij,Jc]using hu
 |cons x l ih=>
  intro u vs hu;have h1:=ih (fun y hy=>h y (by simp[hy])) u vs hu;have h2:=h x (by simp) _ _ h1;simpa[Ij,Jc]using h2
theorem Ad1(c:UInt8)(t:List UInt8)(h:(Em c||digit c)=false:=by decide):Sep (c::t):=h
def padOk(p:List UInt8):Prop:=∀c,c∈p→c=32
theorem padOk.more{p:List UInt8}(h:padOk p):padOk (p++[32,32]):=by
 intro c hc;rcases zzq45.1 hc with hc|hc
 ·exact h c hc
 ·simp at hc;exact hc
theorem Na{u:List UInt8}{vs:List (List UInt8)}(h:Lex u vs):Lex (59::10::u) ([59]::vs):=H1 (by simp) (Tx h)
theorem A47{x:Nd}(h:FV x)(p:List UInt8)(hp:padOk p):Awa (Cp x p) (Ih x):=by
 cases h with
 |var s h=>
  intro u vs hu;have h1:=Lex.name h (Ad1 _ _) (Na hu);have h2:=(Lex.key (s:=Nm) (by decide) (Mi _) (Lex.sp h1)).pad p hp;simpa[Cp,Ih]using h2
 |arr s m h h0 h1=>
  intro u vs hu;have key:∀(t w:List UInt8),(∀u vs,Sep u→Lex u vs→Lex (t++u) (w::vs))→Lex (p++Fj++32::(s++91::(t++93::59::10::u))) (Fj::s::[91]::w::[93]::[59]::vs):=by
   intro t w ht;have h1:=ht _ _ (Ad1 _ _) (H1 (c:=93) (by simp) (Na hu));have h2:=Lex.name h (Ad1 _ _) (H1 (c:=91) (by simp) h1);have h3:=(Lex.key (s:=Fj) (by decide) (Mi _) (Lex.sp h2)).pad p hp;simpa using h3
  by_cases g:0≤m
  ·have:=key (Md m.toNat) (Md m.toNat) (fun u vs hs hu=>Lex.num (by omega) hs hu);simpa[Cp,Ih,g]using this
  ·have:=key [63] [63] (fun u vs hs hu=>H1 (by simp) hu);simpa[Cp,Ih,g]using this
theorem A46{x:Nd}(h:FS x):∀p:List UInt8,padOk p→Awa (Cp x p) (Ih x):=by
 induction h with
 |set s a h ha=>
  intro p hp u vs hu;have h1:=Al6 ha _ _ (Ad1 _ _) (Na hu);have h2:=(Lex.name h (Mi _) (Lex.sp (Ak6 (w:=[61]) (by simp) h1))).pad p hp;simpa[Cp,Ih]using h2
 |put s a b h ha hb=>
  intro p hp u vs hu;have h1:=Al6 hb _ _ (Ad1 _ _) (Na hu);have h2:=Al6 ha _ _ (Ad1 _ _) (H1 (c:=93) (by simp) (Lex.sp (Ak6 (w:=[61]) (by simp) h1)));have h3:=(Lex.name h (Ad1 _ _) (H1 (c:=91) (by simp) h2)).pad p hp;obtain⟨k',s',m',l'⟩:=b;simpa[Cp,Ih]using h3
 |read s h=>
  intro p hp u vs hu;have h1:=Lex.name h (Ad1 _ _) (Na hu);have h2:=(Lex.key (s:=Iv) (by decide) (Mi _) (Lex.sp h1)).pad p hp;simpa[Cp,Ih]using h2
 |ifs c l l' hc hl hl' ihl ihl'=>
  intro p hp u vs hu;have fin:Lex (125::10::u) ([125]::vs):=H1 (by simp) (Tx hu);have go:∀(t:List UInt8) (w:List (List UInt8)),Lex t w→Lex (p++V9++32::(Bt c++32::123::10::(Ij l (p++[32,32])++(p++t)))) (V9::(Dv c++[123]::(Jc l++w))):=by
   intro t w ht;have h1:=Oc (fun x hx=>ihl x hx (p++[32,32]) hp.more) _ _ (ht.pad p hp);have h2:=A1u hc _ _ (Mi _) (Lex.sp (H1 (c:=123) (by simp) (Tx h1)));have h3:=(Lex.key (s:=V9) (by decide) (Mi _) (Lex.sp h2)).pad p hp;simpa using h3
  cases l' with
  |nil=>simpa[Cp,Ih]using go _ _ fin
  |cons y l'=>
   have h1:=Oc (fun x hx=>ihl' x hx (p++[32,32]) hp.more) _ _ (fin.pad p hp);have h2:=H1 (c:=125) (by simp) (Lex.sp (Lex.key (s:=Iu) (by decide) (Mi _) (Lex.sp (H1 (c:=123) (by simp) (Tx h1)))));simpa[Cp,Ih]using go _ _ h2
 |whil c l hc hl ihl=>
  intro p hp u vs hu;have fin:Lex (125::10::u) ([125]::vs):=H1 (by simp) (Tx hu);have h1:=Oc (fun x hx=>ihl x hx (p++[32,32]) hp.more) _ _ (fin.pad p hp);have h2:=A1u hc _ _ (Mi _) (Lex.sp (H1 (c:=123) (by simp) (Tx h1)));have h3:=(Lex.key (s:=Gp) (by decide) (Mi _) (Lex.sp h2)).pad p hp;simpa[Cp,Ih]using h3
 |for_ s a b l h ha hb hl ihl=>
  intro p hp u vs hu;have fin:Lex (125::10::u) ([125]::vs):=H1 (by simp) (Tx hu);have h1:=Oc (fun x hx=>ihl x hx (p++[32,32]) hp.more) _ _ (fin.pad p hp);have h2:=Al6 hb _ _ (Mi _) (Lex.sp (H1 (c:=123) (by simp) (Tx h1)));have h3:=Al6 ha _ _ (Mi _) (Lex.sp (Lex.key (s:=wTo) (by decide) (Mi _) (Lex.sp h2)));have h4:=Lex.name h (Mi _) (Lex.sp (Lex.key (s:=Jn) (by decide) (Mi _) (Lex.sp h3)));have h5:=(Lex.key (s:=L9) (by decide) (Mi _) (Lex.sp h4)).pad p hp;obtain⟨k',s',m',l'⟩:=b;simpa[Cp,Ih]using h5
 |check c hc=>
  intro p hp u vs hu;have h1:=A1u hc _ _ (Ad1 _ _) (Na hu);have h2:=(Lex.key (s:=Ga) (by decide) (Mi _) (Lex.sp h1)).pad p hp;simpa[Cp,Ih]using h2
 |skip=>
  intro p hp u vs hu;have h2:=(Lex.key (s:=I1) (by decide) (Ad1 _ _) (Na hu)).pad p hp;simpa[Cp,Ih]using h2
 |stop=>
  intro p hp u vs hu;have h2:=(Lex.key (s:=Jb) (by decide) (Ad1 _ _) (Na hu)).pad p hp;simpa[Cp,Ih]using h2
theorem A45{ds l:List Nd}(hd:∀x,x∈ds→FV x)(hl:∀x,x∈l→FS x):Lex (Ij ds []++Ij l []) (Jc ds++Jc l):=by
 have h1:=Oc (p:=[]) (fun x hx=>A46 (hl x hx) [] (fun c hc=>by cases hc)) [] [] .nil;have h2:=Oc (p:=[]) (fun x hx=>A47 (hd x hx) [] (fun c hc=>by cases hc)) _ _ h1;simpa using h2
structure At (r:RS)(xs:List (List UInt8)):Prop where
 good:r.bad=false
 wk:r.wk
 ws:(r.ws.drop r.at_).map Wd.text=xs
def Lo(xs:List (List UInt8)):List UInt8:=xs.headD []
section
variable {r:RS}{x:List UInt8}{xs:List (List UInt8)}
theorem At.get(h:At r (x::xs)):∃w,r.ws[r.at_]?=some w∧w.text=x∧w.kind=Di x:=by
 have h1:=congrArg (fun l:List (List UInt8)=>l[0]?) h.ws;simp at h1;obtain⟨w,hw,rfl⟩:=h1;exact⟨w,hw,rfl,h.wk w (Bh hw)⟩
theorem At.kind(h:At r (x::xs)):r.kind=Di x:=by
 obtain⟨w,hw,_,hk⟩:=h.get;simp[RS.kind,hw,hk]
theorem At.lt(h:At r (x::xs)):r.at_<r.ws.length:=by
 obtain⟨w,hw,_⟩:=h.get;exact Aa hw
theorem At.ge(h:At r []):r.ws.length≤r.at_:=by
 have:=congrArg List.length h.ws;simp at this;omega
theorem At.text(h:At r xs):r.text=Lo xs:=by
 cases xs with
 |nil=>simp[RS.text,U9 h.ge,Lo]
 |cons x xs=>
  obtain⟨w,hw,ht,_⟩:=h.get;simp[RS.text,hw,ht,Lo]
theorem At.step(h:At r (x::xs)):At r.step xs:=by
 refine⟨h.good,h.wk,?_⟩;have:=congrArg List.tail h.ws;simp only[List.tail_cons]at this;rw[←this];simp[RS.step]
theorem At.takes(h:At r xs)(s:List UInt8):r.takes s=(Lo xs==s):=by simp[RS.takes,h.good,h.text]
theorem At.no(h:At r xs){s:List UInt8}(hs:Lo xs≠s):r.takes s=false:=by rw[h.takes];simpa using hs
theorem At.yes(h:At r (x::xs)):r.takes x=true:=by rw[h.takes];simp[Lo]
theorem At.need(h:At r (x::xs)):r.need x=r.step:=by simp[RS.need,h.yes]
theorem At.named(h:At r (x::xs))(hn:nameS x=true):r.named=true∧r.name=x∧r.nameR=r.step:=by
 have hk:r.kind=1:=by rw[h.kind,(Mw hn).2]
 have:r.named=true:=by simp[RS.named,h.good,hk]
 refine⟨this,?_,?_⟩
 ·simp[RS.name,this,h.text,Lo]
 ·simp[RS.nameR,this]
end
theorem kne{a b:List UInt8}(h:Di a≠Di b):a≠b:=fun e=>h (by rw[e])
theorem Ib{s:List UInt8}(h:nameS s=true)(b:List UInt8)(hb:Di b≠1:=by decide):s≠b:=kne (by rw[(Mw h).2];exact fun e=>hb e.symm)
theorem A10{m:Nat}(h:m≤1000000)(b:List UInt8)(hb:Di b≠2:=by decide):Md m≠b:=kne (by rw[(Qj m h).2];exact fun e=>hb e.symm)
def Q1(ws:List (List UInt8))(n:Nd)(B:Nat):Prop:=∀(f:Nat)(r:RS)(xs:List (List UInt8)),B≤f→At r (ws++xs)→Lo xs≠[91]→∃r',Fi f r=(n,r')∧At r' xs
def Q2(ws:List (List UInt8))(n:Nd)(B:Nat):Prop:=∀(f:Nat)(r:RS)(xs:List (List UInt8)),B≤f→At r (ws++xs)→Lo xs≠[91]→∃r' g,f≤g+Ai n∧Ek f r=Hy g n r'∧At r' xs
def Q3(ws:List (List UInt8))(n:Nd)(B:Nat):Prop:=∀(f:Nat)(r:RS)(xs:List (List UInt8)),B≤f→At r (ws++xs)→Lo xs≠[91]→Lo xs≠[42]→∃r' g,f≤g+Ai n∧Ez f r=G6 g n r'∧At r' xs
theorem Zr(n:Nd):1≤Ai n:=by rw[Cj];omega
theorem Q1.mono{ws:List (List UInt8)}{n:Nd}{B B':Nat}(h:Q1 ws n B)(hb:B≤B'):Q1 ws n B':=fun f r xs hf=>h f r xs (by omega)
theorem Q2.mono{ws:List (List UInt8)}{n:Nd}{B B':Nat}(h:Q2 ws n B)(hb:B≤B'):Q2 ws n B':=fun f r xs hf=>h f r xs (by omega)
theorem Q3.mono{ws:List (List UInt8)}{n:Nd}{B B':Nat}(h:Q3 ws n B)(hb:B≤B'):Q3 ws n B':=fun f r xs hf=>h f r xs (by omega)
theorem Agd{g:Nat}{n:Nd}{r:RS}{xs:List (List UInt8)}(h:At r xs)(hs:Lo xs≠[42]):Hy g n r=(n,r):=by
 cases g with
 |zero=>simp[Hy]
 |succ g=>simp[Hy,h.no hs]
theorem Zv{g:Nat}{n:Nd}{r:RS}{xs:List (List UInt8)}(h:At r xs)(hs:Lo xs≠[43])(hs':Lo xs≠[45]):G6 g n r=(n,r):=by
 cases g with
 |zero=>simp[G6]
 |succ g=>simp[G6,h.no hs,h.no hs']
theorem A2y{ws:List (List UInt8)}{n:Nd}{B:Nat}(h:Q1 ws n B):Q2 ws n (B+1):=by
 intro f r xs hf ha hs;obtain⟨g,rfl⟩:∃g,f=g+1:=⟨f-1,by omega⟩
 obtain⟨r',h1,h2⟩:=h g r xs (by omega) ha hs;refine⟨r',g,by have:=Zr n;omega,?_,h2⟩;simp[Ek,h1]
theorem A2z{ws:List (List UInt8)}{n:Nd}{B:Nat}(h:Q2 ws n B):Q3 ws n (B+1):=by
 intro f r xs hf ha hs hs';obtain⟨g,rfl⟩:∃g,f=g+1:=⟨f-1,by omega⟩
 obtain⟨r',g',h1,h2,h3⟩:=h g r xs (by omega) ha hs;refine⟨r',g,by have:=Zr n;omega,?_,h3⟩;rw[Agd h3 hs']at h2;simp[Ez,h2]
theorem A20{ws:List (List UInt8)}{n:Nd}{B:Nat}(h:Q3 ws n B):Q1 ([[40]]++ws++[[41]]) n (B+1):=by
 intro f r xs hf ha hs;obtain⟨g,rfl⟩:∃g,f=g+1:=⟨f-1,by omega⟩
 have ha':At r ([40]::(ws++[41]::xs)):=by simpa using ha
 obtain⟨r',g',h1,h2,h3⟩:=h g r.step ([41]::xs) (by omega) ha'.step (by simp[Lo]) (by simp[Lo]);rw[Zv h3 (by simp[Lo]) (by simp[Lo])]at h2;refine⟨r'.step,?_,h3.step⟩;have hk:¬(r.kind==2)=true:=by rw[ha'.kind];decide
 have h45:r.takes [45]=false:=ha'.no (by simp[Lo]);rw[Fi,if_neg (by simp[ha'.good]),if_neg (by simp[h45]),if_neg hk,if_pos ha'.yes,h2];simp[h3.need]
theorem At0{m:Int}(h0:0≤m)(h1:m≤1000000):Q1 [Md m.toNat] (.mk 1 [] m []) 1:=by
 intro f r xs hf ha hs;obtain⟨g,rfl⟩:∃g,f=g+1:=⟨f-1,by omega⟩
 have ha':At r (Md m.toNat::xs):=ha;have hm:m.toNat≤1000000:=by omega
 refine⟨r.step,?_,ha'.step⟩;have hk:(r.kind==2)=true:=by rw[ha'.kind,(Qj _ hm).2];rfl
 have h45:r.takes [45]=false:=ha'.no (A10 hm [45]);rw[Fi,if_neg (by simp[ha'.good]),if_neg (by simp[h45]),if_pos hk,ha'.text];simp only[Lo,List.headD_cons];rw[Pq _ hm];congr 2;omega
theorem Afs{f:Nat}{r:RS}{s:List UInt8}{xs:List (List UInt8)}(hn:nameS s=true)(ha:At r (s::xs)) :
 Fi (f+1) r=if r.step.takes [91]then(.mk 3 s 0 [(Ez f r.step.step).1],(Ez f r.step.step).2.need [93])else(.mk 2 s 0 [],r.step):=by
 obtain⟨_,h2,h3⟩:=ha.named hn;have hk:¬(r.kind==2)=true:=by rw[ha.kind,(Mw hn).2];decide
 have h45:r.takes [45]=false:=ha.no (Ib hn [45]);have h40:r.takes [40]=false:=ha.no (Ib hn [40]);have hl:r.takes [108,101,110]=false:=ha.no (Ib hn _);rw[Fi,if_neg (by simp[ha.good]),if_neg (by simp[h45]),if_neg hk,if_neg (by simp[h40]),if_neg (by simp[hl]),h2,h3]
theorem A2i{n:Nd}(h:FE n):Q1 (Jp 3 n.kind (Dv n)) n (3*Ai n)∧Q2 (Jp 2 n.kind (Dv n)) n (3*Ai n)∧Q3 (Dv n) n (3*Ai n):=by
 have t3:∀{n:Nd} {B:Nat},L8 n.kind=3→B+2≤3*Ai n→Q1 (Dv n) n B→Q1 (Jp 3 n.kind (Dv n)) n (3*Ai n)∧Q2 (Jp 2 n.kind (Dv n)) n (3*Ai n)∧Q3 (Dv n) n (3*Ai n):=by
  intro n B ht hB hq;have e3:Jp 3 n.kind (Dv n)=Dv n:=by unfold Jp;rw[ht,if_neg (by omega)]
  have e2:Jp 2 n.kind (Dv n)=Dv n:=by unfold Jp;rw[ht,if_neg (by omega)]
  rw[e3,e2];exact⟨hq.mono (by omega),(A2y hq).mono (by omega),(A2z (A2y hq)).mono (by omega)⟩
 induction h with
 |num m h0 h1=>
  refine t3 (B:=1) rfl (by simp[Ai,A3]) ?_;simpa[Dv]using At0 h0 h1
 |var s h=>
  refine t3 (B:=1) rfl (by simp[Ai,A3]) ?_;intro f r xs hf ha hs;obtain⟨g,rfl⟩:∃g,f=g+1:=⟨f-1,by omega⟩
  have ha':At r (s::xs):=by simpa[Dv]using ha
  refine⟨r.step,?_,ha'.step⟩;rw[Afs h ha',if_neg (by simp[ha'.step.no hs])]
 |cell s a h ha ih=>
  refine t3 (B:=3*Ai a+1) rfl (by simp[Ai,A3];omega) ?_;intro f r xs hf ha hs;obtain⟨g,rfl⟩:∃g,f=g+1:=⟨f-1,by omega⟩
  have ha':At r (s::[91]::(Dv a++[93]::xs)):=by simpa[Dv]using ha
  obtain⟨r',g',h1,h2,h3⟩:=ih.2.2 g r.step.step ([93]::xs) (by omega) ha'.step.step (by simp[Lo]) (by simp[Lo]);rw[Zv h3 (by simp[Lo]) (by simp[Lo])]at h2;refine⟨r'.step,?_,h3.step⟩;rw[Afs h ha',if_pos ha'.step.yes,h2];simp[h3.need]
 |len s h=>
  refine t3 (B:=1) rfl (by simp[Ai,A3]) ?_;intro f r xs hf ha hs;obtain⟨g,rfl⟩:∃g,f=g+1:=⟨f-1,by omega⟩
  have ha':At r ([108,101,110]::[40]::s::[41]::xs):=by simpa[Dv]using ha
  obtain⟨_,e2,e3⟩:=ha'.step.step.named h;refine⟨r.step.step.step.step,?_,ha'.step.step.step.step⟩;have hk:¬(r.kind==2)=true:=by rw[ha'.kind];decide
  have h45:r.takes [45]=false:=ha'.no (by simp[Lo]);have h40:r.takes [40]=false:=ha'.no (by simp[Lo]);rw[Fi,if_neg (by simp[ha'.good]),if_neg (by simp[h45]),if_neg hk,if_neg (by simp[h40]),if_pos ha'.yes,ha'.step.need,e2,e3,ha'.step.step.step.need]
 |neg a ha ih=>
  refine t3 (B:=3*Ai a+1) rfl (by simp[Ai,A3];omega) ?_;intro f r xs hf ha hs;obtain⟨g,rfl⟩:∃g,f=g+1:=⟨f-1,by omega⟩
  have ha':At r ([45]::(Jp 3 a.kind (Dv a)++xs)):=by simpa[Dv]using ha
  obtain⟨r',h1,h2⟩:=ih.1 g r.step xs (by omega) ha'.step hs;refine⟨r',?_,h2⟩;rw[Fi,if_neg (by simp[ha'.good]),if_pos ha'.yes,h1]
 |two k a b hk ha hb iha ihb=>
  have hc:Ai (Nd.mk k [] 0 [a,b])=1+(Ai a+Ai b):=by simp[Ai,A3]
  have sum:∀(kk:Int) (c:UInt8),(kk=6∧c=43)∨(kk=7∧c=45)→Q3 (Dv a++[[c]]++Jp 2 b.kind (Dv b)) (.mk kk [] 0 [a,b]) (3*Ai (Nd.mk k [] 0 [a,b])-2):=by
   intro kk c hkc f r xs hf ht hs hs';have hck:Ai (Nd.mk kk [] 0 [a,b])=1+(Ai a+Ai b):=by simp[Ai,A3]
   have ha':At r (Dv a++([c]::(Jp 2 b.kind (Dv b)++xs))):=by simpa using ht
   have c1:Lo ([c]::(Jp 2 b.kind (Dv b)++xs))≠[91]:=by rcases hkc with⟨_,rfl⟩|⟨_,rfl⟩<;>simp[Lo]
   have c2:Lo ([c]::(Jp 2 b.kind (Dv b)++xs))≠[42]:=by rcases hkc with⟨_,rfl⟩|⟨_,rfl⟩<;>simp[Lo]
   obtain⟨r1,g1,h1,h2,h3⟩:=iha.2.2 f r _ (by omega) ha' c1 c2;obtain⟨g,rfl⟩:∃g,g1=g+1:=⟨g1-1,by omega⟩
   obtain⟨r2,g2,j1,j2,j3⟩:=ihb.2.1 g r1.step xs (by omega) h3.step hs;rw[Agd j3 hs']at j2;refine⟨r2,g,by omega,?_,j3⟩;rw[h2];rcases hkc with⟨rfl,rfl⟩|⟨rfl,rfl⟩
   ·rw[G6,if_pos h3.yes,j2]
   ·rw[G6,if_neg (by simp[h3.no (s:=[43]) (by simp[Lo])]),if_pos h3.yes,j2]
  have t1:∀{n:Nd} {B:Nat},L8 n.kind=1→B+2≤3*Ai n→Q3 (Dv n) n B→Q1 (Jp 3 n.kind (Dv n)) n (3*Ai n)∧Q2 (Jp 2 n.kind (Dv n)) n (3*Ai n)∧Q3 (Dv n) n (3*Ai n):=by
   intro n B ht hB hq;have e3:Jp 3 n.kind (Dv n)=[[40]]++Dv n++[[41]]:=by unfold Jp;rw[ht,if_pos (by omega)]
   have e2:Jp 2 n.kind (Dv n)=[[40]]++Dv n++[[41]]:=by unfold Jp;rw[ht,if_pos (by omega)]
   rw[e3,e2];exact⟨(A20 hq).mono (by omega),(A2y (A20 hq)).mono (by omega),hq.mono (by omega)⟩
  have p1:Jp 1 a.kind (Dv a)=Dv a:=by
   unfold Jp L8;rw[if_neg];split<;>(try split)<;>omega
  rcases hk with rfl|rfl|rfl
  ·refine t1 (B:=3*Ai (Nd.mk 6 [] 0 [a,b])-2) rfl (by omega) ?_;have:=sum 6 43 (.inl ⟨rfl,rfl⟩);simpa[Dv,p1]using this
  ·refine t1 (B:=3*Ai (Nd.mk 7 [] 0 [a,b])-2) rfl (by omega) ?_;have:=sum 7 45 (.inr ⟨rfl,rfl⟩);simpa[Dv,p1]using this
  ·have hq:Q2 (Dv (Nd.mk 8 [] 0 [a,b])) (Nd.mk 8 [] 0 [a,b]) (3*Ai (Nd.mk 8 [] 0 [a,b])-2):=by
    intro f r xs hf ht hs;have ha':At r (Jp 2 a.kind (Dv a)++([42]::(Jp 3 b.kind (Dv b)++xs))):=by simpa[Dv]using ht
    obtain⟨r1,g1,h1,h2,h3⟩:=iha.2.1 f r _ (by omega) ha' (by simp[Lo]);obtain⟨g,rfl⟩:∃g,g1=g+1:=⟨g1-1,by omega⟩
    obtain⟨r2,j2,j3⟩:=ihb.1 g r1.step xs (by omega) h3.step hs;refine⟨r2,g,by omega,?_,j3⟩;rw[h2,Hy,if_pos h3.yes,j2]
   have e3:Jp 3 (Nd.mk 8 [] 0 [a,b]).kind (Dv (Nd.mk 8 [] 0 [a,b]))=[[40]]++Dv (Nd.mk 8 [] 0 [a,b])++[[41]]:=by exact if_pos (show L8 8<3 by decide)
   have e2:Jp 2 (Nd.mk 8 [] 0 [a,b]).kind (Dv (Nd.mk 8 [] 0 [a,b]))=Dv (Nd.mk 8 [] 0 [a,b]):=by exact if_neg (show ¬L8 8<2 by decide)
   rw[e3,e2];exact⟨(A20 (A2z hq)).mono (by omega),hq.mono (by omega),(A2z hq).mono (by omega)⟩
def Stop(xs:List (List UInt8)):Prop:=Lo xs≠[91]∧Lo xs≠[42]∧Lo xs≠[43]∧Lo xs≠[45]
theorem Ju{n:Nd}(h:FE n)(hc:Ai n≤500){r:RS}{xs:List (List UInt8)}(ha:At r (Dv n++xs))(hs:Stop xs):∃r',B8 r=(n,r')∧At r' xs:=by
 obtain⟨r',g,h1,h2,h3⟩:=(A2i h).2.2 6010 r xs (by omega) ha hs.1 hs.2.1;rw[Zv h3 hs.2.2.1 hs.2.2.2]at h2;exact⟨r',h2,h3⟩
theorem Aq5{k:Int}(h0:11≤k)(h1:k≤16):relS (Ux k)=k:=by
 have:k=11∨k=12∨k=13∨k=14∨k=15∨k=16:=by omega
 rcases this with rfl|rfl|rfl|rfl|rfl|rfl<;>rfl
theorem Ava(k:Int)(xs:List (List UInt8)):Stop (Ux k::xs):=by
 have:∀w,w∈Oi→w≠[91]∧w≠[42]∧w≠[43]∧w≠[45]:=by decide
 exact this _ (Aam k)
theorem Pl{n:Nd}(h:FC n)(hc:Ai n≤500){r:RS}{xs:List (List UInt8)}(ha:At r (Dv n++xs))(hs:Stop xs):∃r',Dm r=(n,r')∧At r' xs:=by
 cases h with
 |mk k a b h0 h1 fa fb=>
  have ne:¬k=6∧¬k=7∧¬k=8:=by omega
  have hcc:Ai (Nd.mk k [] 0 [a,b])=1+(Ai a+Ai b):=by simp[Ai,A3]
  have ha':At r (Dv a++(Ux k::(Dv b++xs))):=by simpa[Dv,ne.1,ne.2.1,ne.2.2]using ha
  obtain⟨r1,e1,a1⟩:=Ju fa (by omega) ha' (Ava k _);obtain⟨r2,e2,a2⟩:=Ju fb (by omega) a1.step hs;refine⟨r2,?_,a2⟩;have ht:r1.text=Ux k:=by rw[a1.text];rfl
  unfold Dm;rw[e1];simp only[ht,Aq5 h0 h1];rw[if_neg (by simp[a1.good];omega),e2]
def RdS(x:Nd):Prop:=∀(f:Nat)(r:RS)(xs:List (List UInt8)),3*Ai x≤f→Ai x≤500→At r (Ih x++xs)→Lo xs≠Iu→∃r',Dc f r=(x,r')∧At r' xs
def RdL(l:List Nd):Prop:=∀(f:Nat)(r:RS)(acc:List Nd)(xs:List (List UInt8)),3*A3 l+1≤f→A3 l≤500→At r (Jc l++xs)→(xs=[]∨Lo xs=[125])→∃r',Ed f acc r=(acc++l,r')∧At r' xs
def Asq(s:List UInt8):Prop:=nameS s=true∨s∈[V9,Gp,L9,Ga,Iv,I1,Jb]
theorem Zp{s:List UInt8}(h:Asq s):s≠[125]∧s≠Iu∧s≠Nm∧s≠Fj:=by
 rcases h with h|h
 ·exact⟨Ib h _,Ib h _,Ib h _,Ib h _⟩
 ·have:∀s,s∈[V9,Gp,L9,Ga,Iv,I1,Jb]→s≠[125]∧s≠Iu∧s≠Nm∧s≠Fj:=by decide
  exact this s h
theorem Xt{x:Nd}(h:FS x):∃s t,Ih x=s::t∧Asq s:=by
 cases h with
 |set s a h ha=>exact⟨s,_,by simp[Ih];rfl,.inl h⟩
 |put s a b h ha hb=>obtain⟨k',s',m',l'⟩:=b;exact⟨s,_,by simp[Ih];rfl,.inl h⟩
 |read s h=>exact⟨Iv,_,by simp[Ih];rfl,.inr (by simp)⟩
 |ifs c l l' hc hl hl'=>exact⟨V9,_,by simp[Ih];rfl,.inr (by simp)⟩
 |whil c l hc hl=>exact⟨Gp,_,by simp[Ih];rfl,.inr (by simp)⟩
 |for_ s a b l h ha hb hl=>obtain⟨k',s',m',l'⟩:=b;exact⟨L9,_,by simp[Ih];rfl,.inr (by simp)⟩
 |check c hc=>exact⟨Ga,_,by simp[Ih];rfl,.inr (by simp)⟩
 |skip=>exact⟨I1,_,by simp[Ih];rfl,.inr (by simp)⟩
 |stop=>exact⟨Jb,_,by simp[Ih];rfl,.inr (by simp)⟩
theorem Adv{l:List Nd}(hf:∀x,x∈l→FS x)(h:∀x,x∈l→RdS x):RdL l:=by
 induction l with
 |nil=>
  intro f r acc xs hf hc ha hx;have ha':At r xs:=by simpa[Jc]using ha
  refine⟨r,?_,ha'⟩;cases f with
  |zero=>simp[Ed]
  |succ f=>
   rw[Ed,if_neg,H0];rcases hx with rfl|hx
   ·simp;intro _ h;have:=ha'.ge;omega
   ·rw[ha'.text,hx];simp
 |cons x l ih=>
  intro f r acc xs hfu hc ha hx;simp only[A3]at hfu hc;obtain⟨g,rfl⟩:∃g,f=g+1:=⟨f-1,by omega⟩
  have ha':At r (Ih x++(Jc l++xs)):=by simpa[Jc]using ha
  have hne:Lo (Jc l++xs)≠Iu:=by
   cases l with
   |nil=>
    simp only[Jc,Tj];rcases hx with rfl|hx
    ·simp[Lo]
    ·rw[hx];decide
   |cons y l=>
    obtain⟨s,t,e,hb⟩:=Xt (hf y (by simp));simp only[Jc,e,Lo];exact(Zp hb).2.1
  obtain⟨r1,e1,a1⟩:=h x (by simp) g r _ (by omega) (by omega) ha' hne;obtain⟨r2,e2,a2⟩:=ih (fun y hy=>hf y (by simp[hy])) (fun y hy=>h y (by simp[hy])) g r1 (acc++[x]) xs (by have:=Zr x;omega) (by omega) a1 hx;refine⟨r2,?_,a2⟩;obtain⟨s,t,e,hb⟩:=Xt (hf x (by simp));have has:At r (s::(t++(Jc l++xs))):=by rw[e]at ha';simpa using ha'
  rw[Ed,if_pos,e1]
  ·simp only;rw[e2];simp
  ·have:=(Zp hb).1;rw[has.text];simp[has.good,has.lt,Lo,this]
theorem Adu{l:List Nd}(hl:RdL l){f:Nat}{r:RS}{xs:List (List UInt8)}(hf:3*A3 l+2≤f)(hc:A3 l≤500)(ha:At r ([123]::(Jc l++[125]::xs))):∃r',Ct f r=(.mk 30 [] 0 l,r')∧At r' xs:=by
 obtain⟨g,rfl⟩:∃g,f=g+1:=⟨f-1,by omega⟩
 obtain⟨r1,e1,a1⟩:=hl g r.step [] ([125]::xs) (by omega) hc ha.step (.inr rfl);refine⟨r1.step,?_,a1.step⟩;rw[Ct,ha.need,e1];simp[a1.need]
theorem Oa{s:List UInt8}{xs:List (List UInt8)}(h:s∈[[93],[59],[123],wTo]:=by decide):Stop (s::xs):=by
 have:∀s,s∈[[93],[59],[123],wTo]→s≠[91]∧s≠[42]∧s≠[43]∧s≠[45]:=by decide
 exact this s h
theorem Lj{f:Nat}{r:RS}{s:List UInt8}{xs:List (List UInt8)}(ha:At r (s::xs))(h1:s≠V9)(h2:s≠Gp)(h3:s≠L9):Dc (f+1) r=((Cz r).1,(Cz r).2.need [59]):=by
 rw[Dc,if_neg (by simp[ha.no (s:=V9) h1]),if_neg (by simp[ha.no (s:=Gp) h2]),if_neg (by simp[ha.no (s:=L9) h3])]
theorem Ad3{r:RS}{s:List UInt8}{xs:List (List UInt8)}(ha:At r (s::xs))(hn:nameS s=true):Cz r=Qz r:=by
 rw[Cz,if_neg (by simp[ha.no (s:=Ga) (Ib hn _)]),if_neg (by simp[ha.no (s:=Iv) (Ib hn _)]),if_neg (by simp[ha.no (s:=I1) (Ib hn _)]),if_neg (by simp[ha.no (s:=Jb) (Ib hn _)])]
theorem A2j{x:Nd}(h:FS x):RdS x:=by
 induction h with
 |set s a h fa=>
  intro f r xs hf hc ha _;have hcc:Ai (Nd.mk 21 s 0 [a])=1+Ai a:=by simp[Ai,A3]
  obtain⟨g,rfl⟩:∃g,f=g+1:=⟨f-1,by omega⟩
  have ha':At r (s::[61]::(Dv a++[59]::xs)):=by simpa[Ih]using ha
  obtain⟨_,n2,n3⟩:=ha'.named h;obtain⟨r1,e1,a1⟩:=Ju fa (by omega) ha'.step.step Oa;refine⟨r1.step,?_,a1.step⟩;rw[Lj ha' (Ib h _) (Ib h _) (Ib h _),Ad3 ha' h,Qz,n3,if_neg (by simp[ha'.step.no (s:=[91]) (by simp[Lo])]),ha'.step.need,e1,n2];simp[a1.need]
 |put s a b h fa fb=>
  intro f r xs hf hc ha _;have hcc:Ai (Nd.mk 22 s 0 [a,b])=1+(Ai a+Ai b):=by simp[Ai,A3]
  obtain⟨g,rfl⟩:∃g,f=g+1:=⟨f-1,by omega⟩
  have ha':At r (s::[91]::(Dv a++[93]::[61]::(Dv b++[59]::xs))):=by
   obtain⟨k',s',m',l'⟩:=b;simpa[Ih]using ha
  obtain⟨_,n2,n3⟩:=ha'.named h;obtain⟨r1,e1,a1⟩:=Ju fa (by omega) ha'.step.step Oa;obtain⟨r2,e2,a2⟩:=Ju fb (by omega) a1.step.step Oa;refine⟨r2.step,?_,a2.step⟩;rw[Lj ha' (Ib h _) (Ib h _) (Ib h _),Ad3 ha' h,Qz,n3,if_pos ha'.step.yes,e1];simp only;rw[a1.need,a1.step.need,e2,n2];simp[a2.need]
 |read s h=>
  intro f r xs hf hc ha _;have:=Zr (Nd.mk 23 s 0 []);obtain⟨g,rfl⟩:∃g,f=g+1:=⟨f-1,by omega⟩
  have ha':At r (Iv::s::[59]::xs):=by simpa[Ih]using ha
  obtain⟨_,n2,n3⟩:=ha'.step.named h;refine⟨r.step.step.step,?_,ha'.step.step.step⟩;rw[Lj ha' (by decide) (by decide) (by decide),Cz,if_neg (by simp[ha'.no (s:=Ga) (by simp[Lo])]),if_pos ha'.yes,n2,n3];simp[ha'.step.step.need]
 |ifs c l l' hc hl hl' ihl ihl'=>
  intro f r xs hf hcn ha hx;have hcc:Ai (Nd.mk 24 [] 0 [c,.mk 30 [] 0 l,.mk 30 [] 0 l'])=1+(Ai c+(1+A3 l+(1+A3 l'))):=by simp[Ai,A3]
  obtain⟨g,rfl⟩:∃g,f=g+1:=⟨f-1,by omega⟩
  have L:=Adv hl ihl;have L':=Adv hl' ihl';cases l' with
  |nil=>
   have ha':At r (V9::(Dv c++([123]::(Jc l++[125]::xs)))):=by simpa[Ih]using ha
   obtain⟨r1,e1,a1⟩:=Pl hc (by omega) ha'.step Oa;obtain⟨r2,e2,a2⟩:=Adu L (f:=g) (by omega) (by omega) a1;refine⟨r2,?_,a2⟩;rw[Dc,if_pos ha'.yes,e1];simp only;rw[e2];simp only;rw[if_neg (by simp[a2.no hx])]
  |cons y l'=>
   have ha':At r (V9::(Dv c++([123]::(Jc l++[125]::(Iu::[123]::(Jc (y::l')++[125]::xs)))))):=by simpa[Ih]using ha
   obtain⟨r1,e1,a1⟩:=Pl hc (by omega) ha'.step Oa;obtain⟨r2,e2,a2⟩:=Adu L (f:=g) (by omega) (by omega) a1;obtain⟨r3,e3,a3⟩:=Adu L' (f:=g) (by omega) (by omega) a2.step;refine⟨r3,?_,a3⟩;rw[Dc,if_pos ha'.yes,e1];simp only;rw[e2];simp only;rw[if_pos a2.yes,e3]
 |whil c l hc hl ihl=>
  intro f r xs hf hcn ha hx;have hcc:Ai (Nd.mk 25 [] 0 [c,.mk 30 [] 0 l])=1+(Ai c+(1+A3 l)):=by simp[Ai,A3]
  obtain⟨g,rfl⟩:∃g,f=g+1:=⟨f-1,by omega⟩
  have ha':At r (Gp::(Dv c++([123]::(Jc l++[125]::xs)))):=by simpa[Ih]using ha
  obtain⟨r1,e1,a1⟩:=Pl hc (by omega) ha'.step Oa;obtain⟨r2,e2,a2⟩:=Adu (Adv hl ihl) (f:=g) (by omega) (by omega) a1;refine⟨r2,?_,a2⟩;rw[Dc,if_neg (by simp[ha'.no (s:=V9) (by simp[Lo])]),if_pos ha'.yes,e1];simp only;rw[e2]
 |for_ s a b l h fa fb hl ihl=>
  intro f r xs hf hcn ha hx;have hcc:Ai (Nd.mk 26 s 0 [a,b,.mk 30 [] 0 l])=1+(Ai a+(Ai b+(1+A3 l))):=by simp[Ai,A3]
  obtain⟨g,rfl⟩:∃g,f=g+1:=⟨f-1,by omega⟩
  have ha':At r (L9::s::Jn::(Dv a++(wTo::(Dv b++([123]::(Jc l++[125]::xs)))))):=by
   obtain⟨k',s',m',l'⟩:=b;simpa[Ih]using ha
  obtain⟨_,n2,n3⟩:=ha'.step.named h;have eA:Yh r.step=r.step.step.step:=by rw[Yh,n3,ha'.step.step.need]
  obtain⟨r1,e1,a1⟩:=Ju fa (by omega) ha'.step.step.step Oa;have eB:Zz r.step=r1.step:=by rw[Zz,eA,e1];exact a1.need
  obtain⟨r2,e2,a2⟩:=Ju fb (by omega) a1.step Oa;obtain⟨r3,e3,a3⟩:=Adu (Adv hl ihl) (f:=g) (by omega) (by omega) a2;refine⟨r3,?_,a3⟩;rw[Dc,if_neg (by simp[ha'.no (s:=V9) (by simp[Lo])]),if_neg (by simp[ha'.no (s:=Gp) (by simp[Lo])]),if_pos ha'.yes,eA,eB,e1,e2,n2];simp only;rw[e3]
 |check c hc=>
  intro f r xs hf hcn ha _;have hcc:Ai (Nd.mk 27 [] 0 [c])=1+Ai c:=by simp[Ai,A3]
  obtain⟨g,rfl⟩:∃g,f=g+1:=⟨f-1,by omega⟩
  have ha':At r (Ga::(Dv c++[59]::xs)):=by simpa[Ih]using ha
  obtain⟨r1,e1,a1⟩:=Pl hc (by omega) ha'.step Oa;refine⟨r1.step,?_,a1.step⟩;rw[Lj ha' (by decide) (by decide) (by decide),Cz,if_pos ha'.yes,e1];simp[a1.need]
 |skip=>
  intro f r xs hf hcn ha _;have:=Zr (Nd.mk 28 [] 0 []);obtain⟨g,rfl⟩:∃g,f=g+1:=⟨f-1,by omega⟩
  have ha':At r (I1::[59]::xs):=by simpa[Ih]using ha
  refine⟨r.step.step,?_,ha'.step.step⟩;rw[Lj ha' (by decide) (by decide) (by decide),Cz,if_neg (by simp[ha'.no (s:=Ga) (by simp[Lo])]),if_neg (by simp[ha'.no (s:=Iv) (by simp[Lo])]),if_pos ha'.yes];simp[ha'.step.need]
 |stop=>
  intro f r xs hf hcn ha _;have:=Zr (Nd.mk 29 [] 0 []);obtain⟨g,rfl⟩:∃g,f=g+1:=⟨f-1,by omega⟩
  have ha':At r (Jb::[59]::xs):=by simpa[Ih]using ha
  refine⟨r.step.step,?_,ha'.step.step⟩;rw[Lj ha' (by decide) (by decide) (by decide),Cz,if_neg (by simp[ha'.no (s:=Ga) (by simp[Lo])]),if_neg (by simp[ha'.no (s:=Iv) (by simp[Lo])]),if_neg (by simp[ha'.no (s:=I1) (by simp[Lo])]),if_pos ha'.yes];simp[ha'.step.need]
theorem Ai4{d:Nd}(h:FV d){r:RS}{xs:List (List UInt8)}(ha:At r (Ih d++xs)):Hq r=true∧(Ji r).1=d∧At ((Ji r).2.need [59]) xs:=by
 cases h with
 |var s h=>
  have ha':At r (Nm::s::[59]::xs):=by simpa[Ih]using ha
  obtain⟨_,n2,n3⟩:=ha'.step.named h;refine⟨by simp[Hq,ha'.yes],?_⟩;rw[Ji,if_pos ha'.yes,n2,n3];simp only;rw[ha'.step.step.need];refine⟨?_,ha'.step.step.step⟩
  first|trivial|rfl
 |arr s m h h0 h1=>
  have ha':At r (Fj::s::[91]::(if 0≤m then Md m.toNat else[63])::[93]::[59]::xs):=by simpa[Ih]using ha
  obtain⟨_,n2,n3⟩:=ha'.step.named h;refine⟨by simp[Hq,ha'.yes],?_⟩;have hz:I0 r.step.step.step=(m,r.step.step.step.step):=by
   have a3:=ha'.step.step.step;unfold I0;by_cases g:0≤m
   ·rw[if_pos g]at a3;have hm:m.toNat≤1000000:=by omega
    have hk:r.step.step.step.kind=2:=by rw[a3.kind,(Qj _ hm).2]
    rw[if_pos (by simp[a3.good,hk]),a3.text];simp only[Lo,List.headD_cons];rw[Pq _ hm];congr 1;omega
   ·rw[if_neg g]at a3;have hk:Di [63]≠2:=by decide
    rw[if_neg (by simp[a3.kind,hk]),a3.need];congr 1;omega
  rw[Ji,if_neg (by simp[ha'.no (s:=Nm) (by simp[Lo])]),n2,n3,ha'.step.step.need,hz];simp only;rw[ha'.step.step.step.step.need,ha'.step.step.step.step.step.need];refine⟨?_,ha'.step.step.step.step.step.step⟩
  first|trivial|rfl
theorem Ya:∀(ds:List Nd)(f:Nat)(acc:List Nd)(r:RS)(xs:List (List UInt8)),(∀x,x∈ds→FV x)→ds.length≤f→At r (Jc ds++xs)→Lo xs≠Nm→Lo xs≠Fj→∃r',E9 f acc r=(acc++ds,r')∧At r' xs
 |[],f,acc,r,xs,hd,hf,ha,h1,h2=>by
  have ha':At r xs:=by simpa[Jc]using ha
  refine⟨r,?_,ha'⟩;cases f with
  |zero=>simp[E9]
  |succ f=>rw[E9,if_neg (by simp[Hq,ha'.no h1,ha'.no h2]),H0]
 |d::ds,f,acc,r,xs,hd,hf,ha,h1,h2=>by
  simp at hf;obtain⟨g,rfl⟩:∃g,f=g+1:=⟨f-1,by omega⟩
  have ha':At r (Ih d++(Jc ds++xs)):=by simpa[Jc]using ha
  obtain⟨e1,e2,a1⟩:=Ai4 (hd d (by simp)) ha';obtain⟨r',e3,a2⟩:=Ya ds g (acc++[d]) _ xs (fun x hx=>hd x (by simp[hx])) (by omega) a1 h1 h2;refine⟨r',?_,a2⟩;rw[E9,if_pos e1,e2,e3];simp
theorem Aj4{ds l:List Nd}(hd:∀x,x∈ds→FV x)(hl:∀x,x∈l→FS x)(hc:A3 ds+A3 l≤500){r:RS}(ha:At r (Jc ds++Jc l)):(Ep r).1=.mk 40 [] 0 (ds++[.mk 30 [] 0 l])∧(Ep r).2.bad=false:=by
 have h12:Lo (Jc l)≠Nm∧Lo (Jc l)≠Fj:=by
  cases l with
  |nil=>simp[Jc,Lo]
  |cons y l=>
   obtain⟨s,t,e,hb⟩:=Xt (hl y (by simp));simp only[Jc,e,Lo];exact(Zp hb).2.2
 have hdl:=Bm ds;obtain⟨r1,e1,a1⟩:=Ya ds 2000 [] r (Jc l) hd (by omega) ha h12.1 h12.2;obtain⟨r2,e2,a2⟩:=Adv hl (fun x hx=>A2j (hl x hx)) 5000 r1 [] [] (by omega) (by omega) (by simpa using a1) (.inl rfl);have ee:r2.ends=r2:=by rw[RS.ends,if_neg (by have:=a2.ge;omega)]
 unfold Ep;rw[e1];simp only;rw[e2];simp only[Tj];rw[ee];refine⟨?_,a2.good⟩
 first|trivial|rfl
theorem Amh{n:Nd}(h:FP n)(hc:Ai n≤500)(h0:(Fb (Kb n)).2.1=0):(Fb (Kb n)).1=n:=by
 cases h with
 |mk ds l hd hl=>
  have hcn:Ai (Nd.mk 40 [] 0 (ds++[.mk 30 [] 0 l]))=1+(A3 ds+(1+A3 l)):=by simp[Ai,M3,A3]
  have hw:(C4 (Kb (.mk 40 [] 0 (ds++[.mk 30 [] 0 l])))).2.1=0:=by
   unfold Fb at h0;split at h0
   ·assumption
   ·exact h0
  have hlex:=A45 hd hl;rw[Sf ds,←Adq ds l]at hlex;have hws:=Aqd hlex hw;have hat:At (rs0 (Kb (.mk 40 [] 0 (ds++[.mk 30 [] 0 l])))) (Jc ds++Jc l):=⟨rfl,Aii _,by simp[rs0,hws]⟩
  obtain⟨e1,e2⟩:=Aj4 hd hl (by omega) hat
  unfold Fb at h0⊢;rw[if_pos hw,if_neg (by simp[e2])]at h0⊢;split at h0
  ·simp at h0
  ·rename_i hg;rw[if_neg hg];exact e1
def V6(k:Int)(s:List UInt8)(m:Int)(c:List (Int×Mg)):Mg:=
 if k=31 then[Nm,s]
 else if k=32 then[Fj,s,[91],if m=-1 then[63]else Lib.itoa m,[93]]
 else if k=21 then[s,[61]]++eW c 0
 else if k=22 then[s,[91]]++eW c 0++[[93],[61]]++eW c 1
 else if k=23 then[Iv,s]
 else if k=27 then[Ga]++eW c 0
 else if k=28 then[I1]
 else[Jb]
def bT(b:List (List UInt8×Bool))(i:Nat):List UInt8:=(b.getD i ([],false)).1
def bQ'(b:List (List UInt8×Bool))(i:Nat):Bool:=(b.getD i ([],false)).2
def Nt(k:Int):Bool:=k==31||k==32||k==21||k==22||k==23||k==27||k==28||k==29
def cpT(k:Int)(s:List UInt8)(c:List (Int×Mg))(b:List (List UInt8×Bool))(h:Nat):List UInt8:=
 if k=24 then Er ([V9]++eW c 0++[[123]]) h++bT b 1++(if bQ' b 2 then Er [[125],Iu,[123]] h++bT b 2 else[])++Er [[125]] h
 else if k=25 then Er ([Gp]++eW c 0++[[123]]) h++bT b 1++Er [[125]] h
 else if k=26 then Er ([L9,s,Jn]++eW c 0++[wTo]++eW c 1++[[123]]) h++bT b 2++Er [[125]] h
 else Er [] h
def Wh(k:Int)(s:List UInt8)(m:Int)(c:List (Int×Mg))(b:List (List UInt8×Bool))(h:Nat):List UInt8:=
 if Nt k then Er (V6 k s m c++[[59]]) h else cpT k s c b h
mutual
def Ht:Nd→Nat→List UInt8
 |.mk k s m ks,h=>Wh k s m (B5 ks) (Jl ks h) h
def Jl:List Nd→Nat→List (List UInt8×Bool)
 |[],_=>[]
 |x::l,h=>Aaz x h::Jl l h
def Aaz:Nd→Nat→List UInt8×Bool
 |.mk _ _ _ l,h=>(Ki l (h+1),!l.isEmpty)
def Ki:List Nd→Nat→List UInt8
 |[],_=>[]
 |x::l,h=>Ht x h++Ki l h
end
def Xj(n:Nd):List UInt8:=Ki n.kids.dropLast 0++Ki (n.kids.getLastD Cg).kids 0
def Xa(a:List UInt8):List UInt8:=if has L5 a then[]else[32]
theorem Uc{a:List UInt8}(h:has L5 a=false)(us:Mg):Ha a us=Ha [] us:=by
 have h0:has L5 []=false:=by decide
 cases us with
 |nil=>rfl
 |cons b us=>simp[Ha,Tm,h,h0]
structure PW (b:List UInt8):Prop where
 c:has Lw b=false
 o:has L5 b=false
 t:Kd b [32]=b
theorem PW.flat{b:List UInt8}(h:PW b)(a:List UInt8)(us:Mg):Ha a (b::us)=Xa a++(b++Ha [] us):=by
 simp only[Ha,Tm,h.c,h.t,Uc h.o,Xa,Bool.false_or];split<;>simp
theorem Arh{c:UInt8}{l:List UInt8}(h:c≠32):Kd (c::l) [32]=c::l:=by
 have:Ah9 (c::l) [32]=false:=by simp[Ah9,h]
 simp[Kd,this]
theorem PW.of_kind{b:List UInt8}(h:Di b=1∨Di b=2):PW b:=by
 have no:∀l:List (List UInt8),(∀x,x∈l→Di x≠1∧Di x≠2)→has l b=false:=by
  intro l hl;simp only[has,List.any_eq_false];intro x hx he;have:=zzq54.1 he;subst this;have:=hl _ hx;omega
 refine⟨no _ (by decide),no _ (by decide),?_⟩;cases b with
 |nil=>simp[Vv]at h
 |cons c l=>exact Arh (Adc (by rcases h with h|h<;>rw[h]<;>decide)).1
theorem PW.name{s:List UInt8}(h:nameS s=true):PW s:=.of_kind (.inl (Mw h).2)
theorem PW.num{m:Nat}(h:m≤1000000):PW (Md m):=.of_kind (.inr (Qj m h).2)
theorem PW.of{b:List UInt8}(h:b∈([[43],[45],[42],[61],[63],[123],[125],V9,Iu,Gp,L9,Jn,wTo,Ga,Iv,I1,Jb,Nm,Fj]:Mg)++Oi):PW b:=by
 have:∀b,b∈([[43],[45],[42],[61],[63],[123],[125],V9,Iu,Gp,L9,Jn,wTo,Ga,Iv,I1,Jb,Nm,Fj]:Mg)++Oi→has Lw b=false∧has L5 b=false∧Kd b [32]=b:=by decide
 obtain⟨h1,h2,h3⟩:=this b h;exact⟨h1,h2,h3⟩
theorem R5(a:List UInt8)(us:Mg):Ha a ([59]::us)=59::Ha [] us:=by
 rw[Ha,Uc (by decide)];simp[Tm,show has Lw [59]=true by decide,show Kd [59] [32]=[59] by decide]
theorem Ahf(a:List UInt8)(us:Mg):Ha a ([93]::us)=93::Ha [] us:=by
 rw[Ha,Uc (by decide)];simp[Tm,show has Lw [93]=true by decide,show Kd [93] [32]=[93] by decide]
theorem As2(a:List UInt8)(us:Mg):Ha a ([41]::us)=41::Ha [] us:=by
 rw[Ha,Uc (by decide)];simp[Tm,show has Lw [41]=true by decide,show Kd [41] [32]=[41] by decide]
theorem Ahe(a:List UInt8)(us:Mg):Ha a ([91]::us)=91::Ha [91] us:=by
 rw[Ha];simp[Tm,show has Lw [91]=true by decide,show Kd [91] [32]=[91] by decide]
theorem Anv{b t:List UInt8}(h:has Lw b=false)(ht:Kd b [32]=t)(a:List UInt8)(us:Mg):Ha a (b::us)=Xa a++(t++Ha b us):=by
 simp only[Ha,Tm,h,ht,Xa,Bool.false_or];split<;>simp
def FlatP(w:Mg)(t:List UInt8):Prop:=∀(a:List UInt8)(us:Mg),Ha a (w++us)=Xa a++(t++Ha [] us)
theorem FlatP.par{w:Mg}{t:List UInt8}(h:FlatP w t):FlatP ([[40]]++w++[[41]]) ([40]++t++[41]):=by
 intro a us;have e:[[40]]++w++[[41]]++us=[40]::(w++([41]::us)):=by simp
 rw[e,Anv (t:=[40]) (by decide) (by decide),h,As2,show Xa [40]=[] by decide];simp
theorem FlatP.in1{w:Mg}{t:List UInt8}(h:FlatP w t)(k:Int):FlatP (Pf true false k w) (Me 2 k t):=by
 by_cases hk:k=6∨k=7
 ·have e1:Pf true false k w=[[40]]++w++[[41]]:=by unfold Pf;rw[if_pos (by simpa using hk)]
  have e2:Me 2 k t=[40]++t++[41]:=by unfold Me L8;rw[if_pos (by simp[hk])]
  rw[e1,e2];exact h.par
 ·have e1:Pf true false k w=w:=by unfold Pf;rw[if_neg (by simpa using hk)]
  have e2:Me 2 k t=t:=by unfold Me L8;rw[if_neg (by rw[if_neg hk];split<;>omega)]
  rw[e1,e2];exact h
theorem FlatP.in2{w:Mg}{t:List UInt8}(h:FlatP w t)(k:Int):FlatP (Pf true true k w) (Me 3 k t):=by
 by_cases hk:(k=6∨k=7)∨k=8
 ·have e1:Pf true true k w=[[40]]++w++[[41]]:=by unfold Pf;rw[if_pos (by simpa using hk)]
  have e2:Me 3 k t=[40]++t++[41]:=by
   unfold Me L8;rw[if_pos];rcases hk with hk|hk
   ·rw[if_pos hk];omega
   ·rw[if_neg (by omega),if_pos hk];omega
  rw[e1,e2];exact h.par
 ·have e1:Pf true true k w=w:=by unfold Pf;rw[if_neg (by simpa using hk)]
  have e2:Me 3 k t=t:=by unfold Me L8;rw[if_neg (by rw[if_neg (by omega),if_neg (by omega)];omega)]
  rw[e1,e2];exact h
theorem FlatP.two{w w':Mg}{t t':List UInt8}(h:FlatP w t)(h':FlatP w' t'){c:List UInt8}(hc:PW c):FlatP (w++[c]++w') (t++[32]++c++[32]++t'):=by
 intro a us;have e:w++[c]++w'++us=w++(c::(w'++us)):=by simp
 rw[e,h,hc.flat,h',show Xa []=[32] by decide];simp
theorem Ac5{n:Nd}(h:FE n):FlatP (A1 n) (Bt n):=by
 induction h with
 |num m h0 h1=>
  intro a us;have e:A1 (.mk 1 [] m [])=[Md m.toNat]:=by
   have:Lib.itoa m=Md m.toNat:=by
    obtain⟨u,rfl⟩:∃u:Nat,m=u:=⟨m.toNat,by omega⟩
    rw[Lib.itoa_nonneg,Ag7];rfl
   simp[A1,Gf,this]
  rw[e];simp only[Bt,if_true,Pz,Tj];exact(PW.num (by omega)).flat a us
 |var s h=>
  intro a us;have e:A1 (.mk 2 s 0 [])=[s]:=by simp[A1,Gf]
  rw[e];simp only[Bt,Pz,Tj];exact(PW.name h).flat a us
 |cell s x h ha ih=>
  intro a us;have e:A1 (.mk 3 s 0 [x])++us=s::[91]::(A1 x++([93]::us)):=by simp[A1,Gf,B5,eW]
  rw[e,(PW.name h).flat,Ahe,ih,Ahf,show Xa [91]=[] by decide];simp[Bt]
 |len s h=>
  intro a us;have e:A1 (.mk 4 s 0 [])++us=[108,101,110]::[40]::s::[41]::us:=by simp[A1,Gf]
  rw[e,Anv (t:=[108,101,110]) (by decide) (by decide),Anv (t:=[40]) (by decide) (by decide),(PW.name h).flat,As2,show Xa [40]=[] by decide,show Xa [108,101,110]=[] by decide];simp[Bt]
 |neg x ha ih=>
  intro a us;have e:A1 (.mk 5 [] 0 [x])++us=[32,45]::(Pf true true x.kind (A1 x)++us):=by simp[A1,Gf,B5,iW]
  rw[e,Anv (t:=[45]) (by decide) (by decide),ih.in2 x.kind,show Xa [32,45]=[] by decide];simp[Bt]
 |two k x y hk ha hb iha ihb=>
  have p1:Me 1 x.kind (Bt x)=Bt x:=by
   unfold Me L8;rw[if_neg];split<;>(try split)<;>omega
  rcases hk with rfl|rfl|rfl
  ·have e:A1 (.mk 6 [] 0 [x,y])=A1 x++[[43]]++Pf true false y.kind (A1 y):=by simp[A1,Gf,B5,iW,eW]
   have:=iha.two (ihb.in1 y.kind) (c:=[43]) (.of (by decide));rw[e];simpa[Bt,p1]using this
  ·have e:A1 (.mk 7 [] 0 [x,y])=A1 x++[[45]]++Pf true false y.kind (A1 y):=by simp[A1,Gf,B5,iW,eW]
   have:=iha.two (ihb.in1 y.kind) (c:=[45]) (.of (by decide));rw[e];simpa[Bt,p1]using this
  ·have e:A1 (.mk 8 [] 0 [x,y])=Pf true false x.kind (A1 x)++[[42]]++Pf true true y.kind (A1 y):=by simp[A1,Gf,B5,iW,eW]
   have:=(iha.in1 x.kind).two (ihb.in2 y.kind) (c:=[42]) (.of (by decide));rw[e];simpa[Bt]using this
theorem As3{n:Nd}(h:FC n):FlatP (A1 n) (Bt n):=by
 cases h with
 |mk k x y h0 h1 ha hb=>
  have ne:¬k=1∧¬k=2∧¬k=3∧¬k=4∧¬k=5∧¬k=6∧¬k=7∧¬k=8:=by omega
  obtain⟨n1,n2,n3,n4,n5,n6,n7,n8⟩:=ne;have e:A1 (.mk k [] 0 [x,y])=A1 x++[Ux k]++A1 y:=by simp[A1,Gf,B5,eW,n1,n2,n3,n4,n5,n6,n7,n8,h0,h1]
  have:=(Ac5 ha).two (Ac5 hb) (c:=Ux k) (.of (Abq _ (Aam k)));rw[e];simpa[Bt,n6,n7,n8]using this
theorem Yw(h:Nat):List.replicate (2*h) (32:UInt8)++[32,32]=List.replicate (2*(h+1)) 32:=by
 rw[show 2*(h+1)=2*h+2 by omega,←List.replicate_append_replicate];rfl
theorem Oe{l:List Nd}{h:Nat}{p:List UInt8}(hx:∀x,x∈l→Ht x h=Cp x p):Ki l h=Ij l p:=by
 induction l with
 |nil=>simp[Ki,Ij]
 |cons x l ih=>simp[Ki,Ij,hx x (by simp),ih fun y hy=>hx y (by simp[hy])]
theorem As4{b:List UInt8}(h:PW b)(us:Mg):Po (b::us)=b++Ha [] us:=by rw[Po,h.t,Uc h.o]
theorem H7{a:List UInt8}:Ha a []=[]:=rfl
abbrev Auc(h:Nat):List UInt8:=List.replicate (2*h) 32
theorem Ia{b:List UInt8}(h:PW b)(us:Mg)(g:Nat):Er (b::us) g=Auc g++(b++(Ha [] us++[10])):=by rw[Er,As4 h];simp
theorem g0:Xa []=[32]:=by decide
theorem Aak(h:Nat):Er [[125]] h=Auc h++[125,10]:=by
 rw[Ia (.of (by decide)),H7];simp
theorem At1(h:Nat):Er [[125],Iu,[123]] h=Auc h++([125,32]++Iu++[32,123,10]):=by
 rw[Ia (.of (by decide)),(PW.of (b:=Iu) (by decide)).flat,(PW.of (b:=[123]) (by decide)).flat,H7,g0];simp
theorem A5a{x:Nd}(hx:FV x)(h:Nat):Ht x h=Cp x (Auc h):=by
 cases hx with
 |var s hs=>
  have e:Ht (.mk 31 s 0 []) h=Er (Nm::s::[[59]]) h:=by simp[Ht,Wh,Nt,V6]
  rw[e,Ia (.of (by decide)),(PW.name hs).flat,R5,H7,g0];simp[Cp]
 |arr s m hs h0 h1=>
  by_cases g:0≤m
  ·have em:¬m=-1:=by omega
   have ei:Lib.itoa m=Md m.toNat:=by
    obtain⟨u,rfl⟩:∃u:Nat,m=u:=⟨m.toNat,by omega⟩
    rw[Lib.itoa_nonneg,Ag7];rfl
   have e:Ht (.mk 32 s m []) h=Er (Fj::s::[91]::Md m.toNat::[93]::[[59]]) h:=by simp[Ht,Wh,Nt,V6,em,ei]
   rw[e,Ia (.of (by decide)),(PW.name hs).flat,Ahe,(PW.num (by omega)).flat,Ahf,R5,H7,g0,show Xa [91]=[] by decide];simp[Cp,g]
  ·have em:m=-1:=by omega
   have e:Ht (.mk 32 s m []) h=Er (Fj::s::[91]::[63]::[93]::[[59]]) h:=by simp[Ht,Wh,Nt,V6,em]
   rw[e,Ia (.of (by decide)),(PW.name hs).flat,Ahe,(PW.of (b:=[63]) (by decide)).flat,Ahf,R5,H7,g0,show Xa [91]=[] by decide];simp[Cp,g]
theorem A36{x:Nd}(hx:FS x):∀h:Nat,Ht x h=Cp x (Auc h):=by
 induction hx with
 |set s a hs ha=>
  intro h;have e:Ht (.mk 21 s 0 [a]) h=Er (s::[61]::(A1 a++[[59]])) h:=by simp[Ht,Wh,Nt,V6,B5,eW]
  rw[e,Ia (.name hs),(PW.of (b:=[61]) (by decide)).flat,Ac5 ha,R5,H7,g0];simp[Cp]
 |put s a b hs ha hb=>
  intro h;have e:Ht (.mk 22 s 0 [a,b]) h=Er (s::[91]::(A1 a++([93]::[61]::(A1 b++[[59]])))) h:=by simp[Ht,Wh,Nt,V6,B5,eW]
  rw[e,Ia (.name hs),Ahe,Ac5 ha,Ahf,(PW.of (b:=[61]) (by decide)).flat,Ac5 hb,R5,H7,g0,show Xa [91]=[] by decide];obtain⟨k',s',m',l'⟩:=b;simp[Cp]
 |read s hs=>
  intro h;have e:Ht (.mk 23 s 0 []) h=Er (Iv::s::[[59]]) h:=by simp[Ht,Wh,Nt,V6]
  rw[e,Ia (.of (by decide)),(PW.name hs).flat,R5,H7,g0];simp[Cp]
 |ifs c l l' hc hl hl' ihl ihl'=>
  intro h;have e:Ht (.mk 24 [] 0 [c,.mk 30 [] 0 l,.mk 30 [] 0 l']) h=Er (V9::(A1 c++[[123]])) h++Ki l (h+1)++(if !l'.isEmpty then Er [[125],Iu,[123]] h++Ki l' (h+1)else[])++Er [[125]] h:=by
   simp[Ht,Wh,Nt,cpT,B5,eW,Jl,Aaz,bT,bQ']
  have h1:=Oe (l:=l) (h:=h+1) fun x hx=>ihl x hx (h+1);have h2:=Oe (l:=l') (h:=h+1) fun x hx=>ihl' x hx (h+1);rw[e,h1,h2,Ia (.of (by decide)),As3 hc,(PW.of (b:=[123]) (by decide)).flat,H7,g0,Aak,At1];cases l' with
  |nil=>simp[Cp,Yw]
  |cons y l'=>simp[Cp,Yw]
 |whil c l hc hl ihl=>
  intro h;have e:Ht (.mk 25 [] 0 [c,.mk 30 [] 0 l]) h=Er (Gp::(A1 c++[[123]])) h++Ki l (h+1)++Er [[125]] h:=by
   simp[Ht,Wh,Nt,cpT,B5,eW,Jl,Aaz,bT]
  have h1:=Oe (l:=l) (h:=h+1) fun x hx=>ihl x hx (h+1);rw[e,h1,Ia (.of (by decide)),As3 hc,(PW.of (b:=[123]) (by decide)).flat,H7,g0,Aak];simp[Cp,Yw]
 |for_ s a b l hs ha hb hl ihl=>
  intro h;have e:Ht (.mk 26 s 0 [a,b,.mk 30 [] 0 l]) h=Er (L9::s::Jn::(A1 a++(wTo::(A1 b++[[123]])))) h++Ki l (h+1)++Er [[125]] h:=by
   simp[Ht,Wh,Nt,cpT,B5,eW,Jl,Aaz,bT]
  have h1:=Oe (l:=l) (h:=h+1) fun x hx=>ihl x hx (h+1);rw[e,h1,Ia (.of (by decide)),(PW.name hs).flat,(PW.of (b:=Jn) (by decide)).flat,Ac5 ha,(PW.of (b:=wTo) (by decide)).flat,Ac5 hb,(PW.of (b:=[123]) (by decide)).flat,H7,g0,Aak];obtain⟨k',s',m',l'⟩:=b;simp[Cp,Yw]
 |check c hc=>
  intro h;have e:Ht (.mk 27 [] 0 [c]) h=Er (Ga::(A1 c++[[59]])) h:=by simp[Ht,Wh,Nt,V6,B5,eW]
  rw[e,Ia (.of (by decide)),As3 hc,R5,H7,g0];simp[Cp]
 |skip=>
  intro h;have e:Ht (.mk 28 [] 0 []) h=Er (I1::[[59]]) h:=by simp[Ht,Wh,Nt,V6]
  rw[e,Ia (.of (by decide)),R5,H7];simp[Cp]
 |stop=>
  intro h;have e:Ht (.mk 29 [] 0 []) h=Er (Jb::[[59]]) h:=by simp[Ht,Wh,Nt,V6]
  rw[e,Ia (.of (by decide)),R5,H7];simp[Cp]
theorem Aj5{n:Nd}(h:FP n):Xj n=Kb n:=by
 cases h with
 |mk ds l hd hl=>
  have h1:=Oe (l:=ds) (h:=0) (p:=[]) fun x hx=>A5a (hd x hx) 0;have h2:=Oe (l:=l) (h:=0) (p:=[]) fun x hx=>A36 (hl x hx) 0;have e1:(Nd.mk 40 [] 0 (ds++[.mk 30 [] 0 l])).kids.dropLast=ds:=by simp[Nd.kids]
  have e2:((Nd.mk 40 [] 0 (ds++[.mk 30 [] 0 l])).kids.getLastD Cg).kids=l:=by simp[Nd.kids]
  rw[Xj,e1,e2,h1,h2,Adq,Sf]
theorem W9{p:Nd}:∀{l:List Nd}{i:Nat},(∀(j:Nat)(x:Nd),l[j]?=some x→K5 p ((i+j:Nat):Int) x.kind=true∧Co x=true)→Et p i l=true
 |[],i,_=>by simp[Et]
 |x::l,i,h=>by
  have h0:=h 0 x rfl;simp only[Px]at h0;have h1:=W9 (p:=p) (l:=l) (i:=i+1) fun j y hj=>by
   have:=h (j+1) y (by simpa using hj);rwa[show i+(j+1)=i+1+j by omega]at this
  simp[Et,h0.1,h0.2,h1]
theorem Mo{n:Nd}(h:FE n):Co n=true:=by
 induction h with
 |num m h0 h1=>simp[Co,H9,Bj,Fh,Bl,Et,h0,h1]
 |var s h=>simp[Co,H9,Bj,Fh,Et,h,N9 h]
 |cell s a h ha ih=>
  have:=Cy ha;simp[Co,H9,Bj,Fh,Et,K5,Kt,Cn,h,N9 h,ih];exact this
 |len s h=>simp[Co,H9,Bj,Fh,Et,h,N9 h]
 |neg a ha ih=>
  have:=Cy ha;simp[Co,H9,Bj,Fh,Et,K5,Kt,Cn,ih];exact this
 |two k a b hk ha hb iha ihb=>
  have h1:=Cy ha;have h2:=Cy hb;rcases hk with rfl|rfl|rfl <;>
  ·simp[Co,H9,Bj,Fh,Et,K5,Kt,Cn,iha,ihb];exact⟨h1,h2⟩
theorem Zk{n:Nd}(h:FC n):Co n=true:=by
 cases h with
 |mk k a b h0 h1 ha hb=>
  have e1:=Cy ha;have e2:=Cy hb;have:k=11∨k=12∨k=13∨k=14∨k=15∨k=16:=by omega
  rcases this with rfl|rfl|rfl|rfl|rfl|rfl <;>
  ·simp[Co,H9,Bj,Fh,Et,K5,Kt,Cn,Mo ha,Mo hb];exact⟨e1,e2⟩
theorem Lv{l:List Nd}(hl:∀x,x∈l→FS x)(h:∀x,x∈l→Co x=true):Co (.mk 30 [] 0 l)=true:=by
 have:=W9 (p:=.mk 30 [] 0 l) (l:=l) (i:=0) fun j x hx=>by
  have hm:=Bh hx;have:=Av6 (hl x hm);refine⟨?_,h x hm⟩;simp[K5,Ym,Cn];exact this
 simp[Co,H9,Bj,Fh,this]
theorem Aph{n:Nd}(h:FS n):Co n=true:=by
 induction h with
 |set s a h ha=>
  have:=Cy ha;simp[Co,H9,Bj,Fh,Et,K5,Kt,Cn,h,N9 h,Mo ha];exact this
 |put s a b h ha hb=>
  have h1:=Cy ha;have h2:=Cy hb;simp[Co,H9,Bj,Fh,Et,K5,Kt,Cn,h,N9 h,Mo ha,Mo hb];exact⟨h1,h2⟩
 |read s h=>simp[Co,H9,Bj,Fh,Et,h,N9 h]
 |ifs c l l' hc hl hl' ihl ihl'=>
  have h1:=J0 hc;have b1:=Lv hl ihl;have b2:=Lv hl' ihl';rw[Co];simp[H9,Bj,Fh,Et,K5,Sd,Cn,Zk hc,b1,b2];exact h1
 |whil c l hc hl ihl=>
  have h1:=J0 hc;have b1:=Lv hl ihl;rw[Co];simp[H9,Bj,Fh,Et,K5,Sd,Cn,Zk hc,b1];exact h1
 |for_ s a b l h ha hb hl ihl=>
  have h1:=Cy ha;have h2:=Cy hb;have b1:=Lv hl ihl;rw[Co];simp[H9,Bj,Fh,Et,K5,Kt,Cn,h,N9 h,Mo ha,Mo hb,b1];exact⟨h1,h2⟩
 |check c hc=>
  have h1:=J0 hc;simp[Co,H9,Bj,Fh,Et,K5,Sd,Cn,Zk hc];exact h1
 |skip=>simp[Co,H9,Bj,Fh,Et]
 |stop=>simp[Co,H9,Bj,Fh,Et]
theorem Api{n:Nd}(h:FV n):Co n=true:=by
 cases h with
 |var s h=>simp[Co,H9,Bj,Fh,Et,h,N9 h]
 |arr s m h h0 h1=>simp[Co,H9,Bj,Fh,Et,Bl,h,N9 h,h0,h1]
theorem Zl{n:Nd}(h:FP n):Co n=true:=by
 cases h with
 |mk ds l hd hl=>
  have hb:=Lv hl fun x hx=>Aph (hl x hx);have:=W9 (p:=.mk 40 [] 0 (ds++[.mk 30 [] 0 l])) (l:=ds++[.mk 30 [] 0 l]) (i:=0) fun j x hx=>by
   rcases Gs j ds.length with hj|hj
   ·rw[Cs hj]at hx;have hm:=Bh hx;refine⟨?_,Api (hd x hm)⟩;have hk:=Abx (hd x hm);have e:K5 (.mk 40 [] 0 (ds++[.mk 30 [] 0 l])) ((0+j:Nat):Int) x.kind=(x.kind==31||x.kind==32):=by
     rw[Ahu rfl,if_neg];simp[Nd.kids];omega
    rw[e];simpa using hk
   ·rw[Gk hj]at hx;have hj0:j=ds.length:=by
     have:=Aa hx;simp at this;omega
    subst hj0;simp at hx;subst hx;refine⟨?_,hb⟩;rw[Ahu rfl,if_pos]
    ·simp[Nd.kind]
    ·simp[Nd.kids]
  simp[Co,H9,Bj,Fh,this]
mutual
def longN:Nd→Bool
 |.mk _ s _ ks=>decide (8<s.length)||longL ks
def longL:List Nd→Bool
 |[]=>false
 |x::l=>longN x||longL l
end
theorem Qs{l:List Nd}(h:∀x,x∈l→longN x=false):longL l=false:=by
 induction l with
 |nil=>rfl
 |cons x l ih=>simp[longL,h x (by simp),ih fun y hy=>h y (by simp[hy])]
theorem Oo{n:Nd}(h:FE n):longN n=false:=by
 induction h with
 |num m h0 h1=>simp[longN,longL]
 |var s h=>simp[longN,longL,Jd h]
 |cell s a h ha ih=>simp[longN,longL,Jd h,ih]
 |len s h=>simp[longN,longL,Jd h]
 |neg a ha ih=>simp[longN,longL,ih]
 |two k a b hk ha hb iha ihb=>simp[longN,longL,iha,ihb]
theorem Acj{n:Nd}(h:FC n):longN n=false:=by
 cases h with|mk k a b h0 h1 ha hb=>simp[longN,longL,Oo ha,Oo hb]
theorem Ar1{n:Nd}(h:FS n):longN n=false:=by
 induction h with
 |set s a h ha=>simp[longN,longL,Jd h,Oo ha]
 |put s a b h ha hb=>simp[longN,longL,Jd h,Oo ha,Oo hb]
 |read s h=>simp[longN,longL,Jd h]
 |ifs c l l' hc hl hl' ihl ihl'=>simp[longN,longL,Acj hc,Qs ihl,Qs ihl']
 |whil c l hc hl ihl=>simp[longN,longL,Acj hc,Qs ihl]
 |for_ s a b l h ha hb hl ihl=>simp[longN,longL,Jd h,Oo ha,Oo hb,Qs ihl]
 |check c hc=>simp[longN,longL,Acj hc]
 |skip=>simp[longN,longL]
 |stop=>simp[longN,longL]
theorem Ar2{n:Nd}(h:FV n):longN n=false:=by
 cases h with
 |var s h=>simp[longN,longL,Jd h]
 |arr s m h h0 h1=>simp[longN,longL,Jd h]
theorem Ar0{n:Nd}(h:FP n):longN n=false:=by
 cases h with
 |mk ds l hd hl=>
  have hb:longN (.mk 30 [] 0 l)=false:=by simp[longN,Qs fun x hx=>Ar1 (hl x hx)]
  have:=Qs (l:=ds++[.mk 30 [] 0 l]) fun x hx=>by
   rcases zzq45.1 hx with h|h
   ·exact Ar2 (hd x h)
   ·simp at h;subst h;exact hb
  simp[longN,this]
noncomputable def Uz(a b:Nd):Bool:=@decide (a=b) (Classical.propDecidable _)
theorem Qy{a b:Nd}:Uz a b=true↔a=b:=by unfold Uz;exact @decide_eq_true_iff _ (Classical.propDecidable _)
noncomputable def Hb(n:Nd):List UInt8×Bool:=
 if O0 n||(n.kids.isEmpty||longN n)then([],false)
 else(Xj n,!(Xj n==[])&&((Fb (Xj n)).2.1==0&&Uz (Fb (Xj n)).1 n))
theorem Aks{s:List UInt8}(h:(Fb s).2.1=0):s.length≤4000:=by
 have hw:(C4 s).2.1=0:=by
  unfold Fb at h;split at h
  ·assumption
  ·exact h
 unfold C4 at hw;split at hw
 ·simp at hw
 ·omega
theorem Amj(n:Nd):(Hb n).2=Dq n∧(Dq n=true→(Hb n).1=Kb n):=by
 have key:Dq n=true→Hb n=(Kb n,true):=by
  intro h;have hf:=Ss h;obtain⟨fp,hc,hd⟩:=hf;have hp:=Aj5 fp;simp only[Dq,Dd,zzq54,Ml,Ke]at h;obtain⟨_,⟨h1,h2⟩,h3⟩:=h;have hb:=Amh fp hc h3;have hk:n.kids.isEmpty=false:=by cases fp with|mk ds l hd hl=>simp[Nd.kids]
  have hl:O0 n=false:=by simp[O0];omega
  unfold Hb;rw[if_neg (by simp[hk,hl,Ar0 fp]),hp,hb,h1];simp[h3,Qy]
 refine⟨?_,fun h=>by rw[key h]⟩;cases hs:Dq n with
 |true=>rw[key hs]
 |false=>
  cases hp:(Hb n).2 with
  |false=>rfl
  |true=>
   exfalso;unfold Hb at hp;split at hp
   ·simp at hp
   ·simp only[Dd,zzq54,Ml,Qy]at hp;obtain⟨h1,h2,h3⟩:=hp;obtain⟨fp,hc,hd⟩:=Aj2 h2;have hl:=Aks h2;rw[h3]at fp hc hd;rw[Aj5 fp]at h1 h2 hl;have hk:n.kind=40:=by cases fp;rfl
    have:Dq n=true:=by simp[Dq,hk,Tf,hc,hd,Zl fp,h1,hl,h2]
    rw[this]at hs;cases hs
end Go.V
namespace Go.V
open Go
section
variable {X:Cx}{B:Bx}{E:Env}{S:St}{w:World}{F:C5}{R:AE→St→Prop}
theorem Inv.wkB(hI:Inv X E S w){b r j:Nat}{rows:List (List AV)}{cs:List AV}{x y:AV}(hb:S.boxes[b]?=some rows)(hr:rows[r]?=some cs)(hc:cs[j]?=some x)(hw:Ren true [] [] x y) :
 Inv X E ⟨S.boxes.set b (rows.set r (cs.set j y)),S.toks⟩ w:=by
 refine hI.recell hb (by simp) (fun q hq=>?_) fun blk sz arr te hB hh k q p z v hk hp hv=>?_
 ·rcases Wt hq with hq|rfl
  ·exact⟨q,hq,rfl⟩
  ·exact⟨cs,Bh hr,by simp⟩
 ·obtain⟨arr',e,hh',hs,hl,hrel⟩:=hI.box b blk sz rows hB hb;rw[hh]at hh';cases hh';rcases Eu hk with⟨rfl,rfl⟩|⟨_,hk⟩
  ·rcases Eu hp with⟨rfl,rfl⟩|⟨_,hp⟩
   ·exact hw.less (hrel _ cs _ x v hr hc hv)
   ·exact hrel _ cs p z v hr hp hv
  ·exact hrel k q p z v hk hp hv
theorem Rk{K:List Item}(b r j:Nat){rows:List (List AV)}{cs:List AV}{x:AV}(y:AV){bx:List (List (List AV))}(hk:AK X B K F ⟨bx,S.toks⟩ R)(hb:S.boxes[b]?=some rows:=by rfl)(hr:rows[r]?=some cs:=by rfl)(hc:cs[j]?=some x:=by rfl)
 (hbx:S.boxes.set b (rows.set r (cs.set j y))=bx:=by rfl) [hw:RinC [] [] x y]:AK X B K F S R:=by
 subst hbx;intro E w a b' cs' hI hF hn hm hb';exact hk E w a b' cs' (hI.wkB hb hr hc hw.s) hF (by simpa using hn) hm hb'
theorem Aci{K:List Item}(b n m:Nat){bx:List (List (List AV))}{tk:List Nat}(hb:S.boxes[b]?=some (List.replicate n [.sl [] .tight]))(hm:S.toks.length=m)
 (hbx:S.boxes.set b ((List.range n).map fun i=>[.sl [] (.tok (m+i))])=bx)(htk:S.toks++List.replicate n 0=tk)(hk:AK X B K F ⟨bx,tk⟩ R):AK X B K F S R:=by
 subst hm;subst hbx;subst htk;have rowsK:∀k,k≤n→((List.range k).map fun i=>[AV.sl [] (.tok (S.toks.length+i))]).length=k:=fun k _=>by simp
 have key:∀q k,q+k=n→AK X B K F ⟨S.boxes.set b (((List.range k).map fun i=>[AV.sl [] (.tok (S.toks.length+i))])++List.replicate q [.sl [] .tight]),S.toks++List.replicate k 0⟩ R:=by
  intro q
  induction q with
  |zero=>
   intro k hk';have:k=n:=by omega
   subst this;simpa using hk
  |succ q ih=>
   intro k hk';have hlt:b<S.boxes.length:=Aa hb;have h1:=ih (k+1) (by omega);refine En (m:=S.toks.length+k) b k 0 (rows:=((List.range k).map fun i=>[AV.sl [] (.tok (S.toks.length+i))])++List.replicate (q+1) [.sl [] .tight]) (cs:=[.sl [] .tight]) (sl:=[]) ?_ ?_ rfl ?_ ?_ ?_ h1
   ·simp[hlt]
   ·rw[Gk (by simp)];simp[Apg]
   ·simp
   ·simp only[List.set_set];congr 1;rw[Iw _ _ (by simp),List.range_succ];simp[List.replicate_succ]
   ·simp[List.replicate_succ']
 have h0:=key n 0 (by omega);have e:S.boxes.set b (List.replicate n [.sl [] .tight])=S.boxes:=by
  apply Abp;intro i;by_cases hi:b=i
  ·subst hi;have:=Aa hb;rw[Eh this,hb]
  ·rw[Fq hi]
 simp only[List.range_zero,List.map_nil,Tj,List.replicate_zero,H0]at h0;rw[e]at h0;exact h0
instance(priority:=low){bx:List (List (List AV))}{tk:List Nat}{n m b:Nat}{cs cs':List AV} [h1:BoxC bx b [cs]] [h2:LeC n b] [h4:FzLC ⟨bx,tk⟩ n m cs cs']:FzC ⟨bx,tk⟩ n m (.ptr b 0 0) (.cptr cs'):=
 ⟨.ptr b 0 0 [cs] cs cs' h2.h h1.h rfl (by simpa using h4.s.get.1) (fun j x y hx hy=>h4.s.get.2 j x y (by simpa using hx) hy)⟩
end
end Go.V
namespace Go.V
open Go Go.Proofs Go.Proofs.Tryz
theorem Agf(s p:List UInt8):(Kd s p).length≤s.length:=by unfold Kd;split<;>simp
theorem As8(a b:List UInt8):(Tm a b).length≤1:=by unfold Tm;split<;>simp
theorem Afb:∀(ws:Mg)(a:List UInt8),(∀w,w∈ws→w.length≤21)→(Ha a ws).length≤22*ws.length
 |[],a,_=>by simp[Ha]
 |b::ws,a,h=>by
  have h1:=Afb ws b fun w hw=>h w (by simp[hw]);have h2:=As8 a b;have h3:=Agf b [32];have h4:=h b (by simp);simp only[Ha,Ex,Nn];omega
def okW(ws:Mg):Prop:=∀w,w∈ws→w.length≤21
theorem Ap4(ws:Mg)(h:okW ws):(Po ws).length≤22*ws.length:=by
 cases ws with
 |nil=>simp[Po]
 |cons b ws=>
  have h1:=Afb ws b fun w hw=>h w (by simp[hw]);have h3:=Agf b [32];have h4:=h b (by simp);simp only[Po,Ex,Nn];omega
theorem Bw{a b:Mg}(ha:okW a)(hb:okW b):okW (a++b):=fun w hw=>(zzq45.1 hw).elim (ha w) (hb w)
theorem Bp{a:List UInt8}(h:a.length≤21):okW [a]:=fun w hw=>by simp at hw;subst hw;exact h
theorem E7{a:List UInt8}{l:Mg}(h:a.length≤21)(hl:okW l):okW (a::l):=fun w hw=>by
 rcases zzq13.1 hw with rfl|hw
 ·exact h
 ·exact hl w hw
theorem Ah4:okW []:=fun w hw=>by cases hw
theorem Gn(ws:Mg)(h:Nat)(hw:okW ws):(Er ws h).length≤2*h+22*ws.length+1:=by
 have:=Ap4 ws hw;simp[Er];omega
theorem PrN.get{n:Nd}(h:PrN n):n.name.length≤8∧-9223372036854775808≤n.num∧n.num≤9223372036854775807∧∀x,x∈n.kids→PrN x:=by
 cases h with|mk k s m ks hs h0 h1 hk=>exact⟨hs,h0,h1,hk⟩
theorem An7{m:Int}(h0:-9223372036854775808≤m)(h1:m≤9223372036854775807):(Lib.itoa m).length≤21:=Lib.itoa_length_le m h0 h1
theorem Ay5(k:Int):(Ux k).length≤21:=by have:=Adx k;omega
theorem A1o{a b:Bool}{k:Int}{w:Mg}(h:okW w):okW (Pf a b k w):=by
 unfold Pf;split
 ·exact Bw (Bw (Bp (by simp)) h) (Bp (by simp))
 ·exact h
theorem Yf(n:Nd)(h:PrN n):okW (A1 n):=by
 induction n using Nd.ind with
 |h n ih=>
  obtain⟨hs,h0,h1,hk⟩:=h.get;have K:∀i,okW (A1 (Bv n i)):=fun i=>by
   rcases Mt n i with h|h
   ·exact ih _ h (hk _ h)
   ·rw[h,Afa];exact Ah4
  have E:∀i,okW (eW (B5 n.kids) i):=fun i=>by rw[F8];exact K i
  have I:∀i a b,okW (iW (B5 n.kids) i a b):=fun i a b=>by rw[Z2];exact A1o (K i)
  rw[Ac4];unfold Gf
  repeat' split
  ·exact Bp (An7 h0 h1)
  ·exact Bp (by omega)
  ·exact Bw (Bw (E7 (by omega) (Bp (by simp))) (E 0)) (Bp (by simp))
  ·exact E7 (by simp) (E7 (by simp) (E7 (by omega) (Bp (by simp))))
  ·exact Bw (Bp (by simp)) (I 0 _ _)
  ·exact Bw (Bw (E 0) (Bp (by simp))) (I 1 _ _)
  ·exact Bw (Bw (E 0) (Bp (by simp))) (I 1 _ _)
  ·exact Bw (Bw (I 0 _ _) (Bp (by simp))) (I 1 _ _)
  ·exact Bw (Bw (E 0) (Bp (Ay5 _))) (E 1)
  ·exact Ah4
theorem Afj(l:List Nd)(h:Nat):Jl l h=l.map fun x=>Aaz x h:=by
 induction l with
 |nil=>simp[Jl]
 |cons x l ih=>simp[Jl,ih]
theorem Acy(n:Nd)(h:Nat):Aaz n h=(Ki n.kids (h+1),!n.kids.isEmpty):=by cases n;simp[Aaz,Nd.kids]
theorem Ank(n:Nd)(h i:Nat):bT (Jl n.kids h) i=Ki (Bv n i).kids (h+1)∧bQ' (Jl n.kids h) i=!(Bv n i).kids.isEmpty:=by
 have:(Jl n.kids h).getD i ([],false)=Aaz (Bv n i) h:=by
  rw[Afj];unfold Bv;cases hx:n.kids[i]? with
  |none=>simp[List.getD,hx,Acy,Cg,Ki]
  |some x=>simp[List.getD,hx]
 rw[bT,bQ',this,Acy];exact⟨rfl,rfl⟩
theorem Aoj(n:Nd)(h:Nat):Ht n h=Wh n.kind n.name n.num (B5 n.kids) (Jl n.kids h) h:=by cases n;simp[Ht,Nd.kind,Nd.name,Nd.num,Nd.kids]
theorem Au8(n:Nd)(h:PrN n):okW (V6 n.kind n.name n.num (B5 n.kids)):=by
 obtain⟨hs,h0,h1,hk⟩:=h.get;have E:∀i,okW (eW (B5 n.kids) i):=fun i=>by rw[F8];exact Yf _ (h.kid i)
 unfold V6
 repeat' split
 ·exact E7 (by simp) (Bp (by omega))
 ·exact E7 (by simp) (E7 (by omega) (E7 (by simp) (E7 (by simp) (Bp (by simp)))))
 ·exact E7 (by simp) (E7 (by omega) (E7 (by simp) (E7 (An7 h0 h1) (Bp (by simp)))))
 ·exact Bw (E7 (by omega) (Bp (by simp))) (E 0)
 ·exact Bw (Bw (Bw (E7 (by omega) (Bp (by simp))) (E 0)) (E7 (by simp) (Bp (by simp)))) (E 1)
 ·exact E7 (by simp) (Bp (by omega))
 ·exact Bw (Bp (by simp)) (E 0)
 ·exact Bp (by simp)
 ·exact Bp (by simp)
theorem Aha(ks:List Nd):(eW (B5 ks) 0).length+(eW (B5 ks) 1).length≤8*A3 ks:=by
 have:=(Ajl ks fun x _=>Ae9 x).1;omega
theorem Aze(n:Nd):(V6 n.kind n.name n.num (B5 n.kids)).length≤8*A3 n.kids+5:=by
 have:=Aha n.kids;unfold V6
 repeat' split
 all_goals simp
 all_goals omega
theorem Ah5{l:List Nd}{h:Nat}(hx:∀x,x∈l→(Ht x h).length≤1000*Ai x):(Ki l h).length≤1000*A3 l:=by
 induction l with
 |nil=>simp[Ki]
 |cons x l ih=>
  have h1:=hx x (by simp);have h2:=ih fun y hy=>hx y (by simp[hy]);simp only[Ki,A3,Ex];omega
def cK(ks:List Nd)(i:Nat):Nat:=match ks[i]? with
 |some x=>Ai x
 |none=>0
theorem A0z(ks:List Nd):cK ks 0+cK ks 1+cK ks 2≤A3 ks:=by
 match ks with
 |[]=>simp[cK]
 |[a]=>simp[cK,A3]
 |[a,b]=>simp[cK,A3]
 |a::b::c::l=>simp[cK,A3];omega
theorem Az0(ks:List Nd)(i:Nat):(eW (B5 ks) i).length≤8*cK ks i:=by
 rw[eW,Afl];unfold cK;cases hx:ks[i]? with
 |none=>simp[List.getD,hx]
 |some x=>have:=Ae9 x;simp[List.getD,hx];omega
theorem A3r(ks:List Nd)(h i:Nat)(hx:∀y,y∈ks→∀x,x∈y.kids→(Ht x (h+1)).length≤1000*Ai x):(bT (Jl ks h) i).length≤1000*cK ks i:=by
 rw[bT,Afj];unfold cK;cases hy:ks[i]? with
 |none=>simp[List.getD,hy]
 |some y=>
  have:=Ah5 (hx y (Bh hy));have:=Cj y;simp[List.getD,hy,Acy];omega
theorem Aok(n:Nd):∀h:Nat,PrN n→h+Dh n≤60→(Ht n h).length≤1000*Ai n:=by
 have:∀n:Nd,(∀h:Nat,PrN n→h+Dh n≤60→(Ht n h).length≤1000*Ai n)∧∀y,y∈n.kids→∀h:Nat,PrN y→h+Dh y≤60→(Ht y h).length≤1000*Ai y:=by
  intro n
  induction n using Nd.ind with
  |h n ih=>
   refine⟨fun h hp hd=>?_,fun y hy=>(ih y hy).1⟩;have hdn:=J4 n;have hcn:=Cj n;have hb:=fun i=>A3r n.kids h i fun y hy x hx=>(ih y hy).2 x hx (h+1) ((hp.get.2.2.2 y hy).get.2.2.2 x hx) (by
    have h1:=Gv hy;have h2:=Gv hx;have h3:=J4 y;omega)
   have he:=Aha n.kids;have b1:=hb 1;have b2:=hb 2;have e0:=Az0 n.kids 0;have e1:=Az0 n.kids 1;have cs:=A0z n.kids;have E:∀i,okW (eW (B5 n.kids) i):=fun i=>by rw[F8];exact Yf _ (hp.kid i)
   have hs:=hp.get.1;rw[Aoj];unfold Wh;split
   ·have h1:=Gn (V6 n.kind n.name n.num (B5 n.kids)++[[59]]) h (Bw (Au8 n hp) (Bp (by simp)));have h2:=Aze n;simp at h1;omega
   ·have l1:=Gn [[125]] h (Bp (by simp));have l2:=Gn [[125],Iu,[123]] h (E7 (by simp) (E7 (by simp) (Bp (by simp))));have l0:=Gn [] h Ah4;have a1:=Gn ([V9]++eW (B5 n.kids) 0++[[123]]) h (Bw (Bw (Bp (by simp)) (E 0)) (Bp (by simp)));have a2:=Gn ([Gp]++eW (B5 n.kids) 0++[[123]]) h (Bw (Bw (Bp (by simp)) (E 0)) (Bp (by simp)));have a3:=Gn ([L9,n.name,Jn]++eW (B5 n.kids) 0++[wTo]++eW (B5 n.kids) 1++[[123]]) h
     (Bw (Bw (Bw (Bw (E7 (by simp) (E7 (by omega) (Bp (by simp)))) (E 0)) (Bp (by simp))) (E 1)) (Bp (by simp)))
    simp at l1 l2 l0 a1 a2 a3;unfold cpT
    repeat' split
    all_goals simp
    all_goals omega
 exact(this n).1
abbrev bK(A:AV)(s:List UInt8)(ws:Mg)(h:Int):List AV:=[A,.buf 5 s 0,.sl (Dl ws) (.tok 2),vi h]
def HS(x:Nd):Prop:=∀(b:Bool)(s:List UInt8)(h:Nat),h+Dh x≤60→s.length+(Ht x h).length≤1000000000 →
 Hands X 266 [.ptr 0 0 0,nd x] ⟨[[bN (Np 312 0 b) s h]],[s.length]⟩ (.tup []) ⟨[[bN (.ptr 0 0 0) (s++Ht x h) h]],[(s++Ht x h).length]⟩
def N5(x:Nd)(ws:Mg)(h:Nat):List UInt8:=Er (ws++[[123]]) h++Ki x.kids (h+1)
def HBk(x:Nd):Prop:=∀(b:Bool)(s:List UInt8)(ws:Mg)(h:Nat),h+Dh x≤60→okW ws→ws.length≤900000→s.length+(N5 x ws h).length≤1000000000 →
 Hands X 315 [.ptr 0 0 0,nd x] ⟨[[bP (Np 312 0 b) s ws h]],[s.length,ws.length]⟩ (.tup [])
  ⟨[[bK (.ptr 0 0 0) (s++N5 x ws h) [[125]] h]],[(s++N5 x ws h).length,(ws++[[123]]).length,1]⟩
theorem PutC.f{r:List (List AV)}{xs:Mg}(hp:PutC r xs)(s:List UInt8)(ws:Mg)(h:Int)(hw:ws.length≤1000000000) :
 Hands X 294 [.ptr 0 0 0,.sl r .no] ⟨[[bP (.ptr 0 0 0) s ws h]],[s.length,ws.length]⟩ (.tup []) ⟨[[bP (.ptr 0 0 0) s (ws++xs) h]],[s.length,(ws++xs).length]⟩:=hp false s ws h hw
theorem PutC.n{r:List (List AV)}{xs:Mg}(hp:PutC r xs)(b:Bool)(s:List UInt8)(h:Int) :
 Hands X 294 [.ptr 0 0 0,.sl r .no] ⟨[[[Np 312 0 b,.buf 5 s 0,.sl [] (.tok 1),vi h]]],[s.length,0]⟩ (.tup []) ⟨[[bP (Np 312 0 b) s xs h]],[s.length,xs.length]⟩:=hp b s [] h (by simp)
theorem PutC.m{r:List (List AV)}{xs:Mg}(hp:PutC r xs)(s:List UInt8)(h:Int) :
 Hands X 294 [.ptr 0 0 0,.sl r .no] ⟨[[[.ptr 0 0 0,.buf 5 s 0,.sl [] (.tok 1),vi h]]],[s.length,0]⟩ (.tup []) ⟨[[bP (.ptr 0 0 0) s xs h]],[s.length,xs.length]⟩:=hp false s [] h (by simp)
theorem Azx(b:Bool)(s:List UInt8)(h:Int):RinB [0] [0] [[bN (Np 312 0 b) s h]] [[bN (Np 312 0 b) s h]]:=
 have h1:RinC [0] [0] (Np 312 0 b) (Np 312 0 b):=inferInstance;have h2:RinC [0] [0] (.buf 5 s 0) (.buf 5 s 0):=inferInstance;have h3:Ren true [0] [0] (.sl [] .tight) (.sl [] .tight):=Zm .nil (.inr (.inr (.inr (.inl ⟨rfl,rfl⟩))));have h4:RinC [0] [0] (vi h) (vi h):=inferInstance
 ⟨.cons (.cons (.cons h1.s (.cons h2.s (.cons h3 (.cons h4.s .nil)))) .nil) .nil⟩
theorem A3q(s:List UInt8)(h:Int):RinB [0] [0] [[bN (.ptr 0 0 0) s h]] [[bN (.ptr 0 0 0) s h]]:=Azx false s h
theorem HS.f{x:Nd}(hx:HS x)(s:List UInt8)(h:Nat)(hd:h+Dh x≤60)(hl:s.length+(Ht x h).length≤1000000000) :
 Hands X 266 [.ptr 0 0 0,nd x] ⟨[[bN (.ptr 0 0 0) s h]],[s.length]⟩ (.tup []) ⟨[[bN (.ptr 0 0 0) (s++Ht x h) h]],[(s++Ht x h).length]⟩:=hx false s h hd hl
theorem HBk.f{x:Nd}(hx:HBk x)(s:List UInt8)(ws:Mg)(h:Nat)(hd:h+Dh x≤60)(hw:okW ws)(hwl:ws.length≤900000)(hl:s.length+(N5 x ws h).length≤1000000000) :
 Hands X 315 [.ptr 0 0 0,nd x] ⟨[[bP (.ptr 0 0 0) s ws h]],[s.length,ws.length]⟩ (.tup [])
  ⟨[[bK (.ptr 0 0 0) (s++N5 x ws h) [[125]] h]],[(s++N5 x ws h).length,(ws++[[123]]).length,1]⟩:=hx false s ws h hd hw hwl hl
theorem Hr(ws:Mg)(h:Nat):(Er ws h).length=2*h+(Po ws).length+1:=by simp[Er];omega
theorem Ur{ws:Mg}(h:okW ws):∀x,x∈ws→x.length≤1000000:=fun x hx=>by have:=h x hx;omega
theorem An1(x:Nd)(hy:∀y,y∈x.kids→HS y)(hl:x.kids.length≤100000):HBk x:=by
 intro b s ws h hd hw hwl hb;have dx:=J4 x;have e1:(N5 x ws h).length=(Er (ws++[[123]]) h).length+(Ki x.kids (h+1)).length:=by simp[N5]
 have e2:=Hr (ws++[[123]]) h;have hi1:IntKind.i64.wrap ((h:Int)+1)=((h+1:Nat):Int):=(Ac (by omega) (by omega)).trans (by omega);have hi2:IntKind.i64.wrap (((h+1:Nat):Int)-1)=(h:Int):=(Ac (by omega) (by omega)).trans (by omega);refine Hands.run (n:=1) (m:=2) func315 ?_;refine Ae (τ':=[0,1]) [0] [0,1] (Jf [123] b s ws h (by omega)) ?_;refine Ae (τ':=[0]) [0] [0] (Oy b s (ws++[[123]]) h (by omega) (by simp<;>omega) (by omega) (by omega) (Ur (Bw hw (Bp (by simp))))) ?_;refine Be ⟨[[bN (.ptr 0 0 0) (s++Er (ws++[[123]]) h) ((h+1:Nat):Int)],[Af x]],[(s++Er (ws++[[123]]) h).length,(ws++[[123]]).length]⟩ ?_ (by rw[←hi1]<;>rfl);refine Ar (ι:=Nat×List UInt8) 2 2 (fun i=>i.1≤x.kids.length∧i.2++Ki (x.kids.drop i.1) (h+1)=s++N5 x ws h) (fun i=>[(21,vi i.1),(20,vi x.kids.length),(19,.sl (Ap x.kids) .no),(0,.ptr 0 0 0)])
  (fun i=>⟨[[bN (.ptr 0 0 0) i.2 ((h+1:Nat):Int)],[Af x]],[i.2.length,(ws++[[123]]).length]⟩) (fun i=>x.kids.length-i.1) ?_ (0,s++Er (ws++[[123]]) h) ⟨B3 _,by simp[N5]⟩ ⟨rfl,by rw[←Ad];rfl,rfl,rfl,trivial⟩ rfl rfl rfl rfl rfl
  (fun _=>inferInstance) (fun _=>inferInstance)
 rintro⟨i,out⟩ ⟨hi,hT⟩ IH;simp only at hi hT IH⊢;have hol:=congrArg List.length hT;simp only[Ex]at hol;refine C7 (fun h1=>?_) (fun h1=>?_)
 ·have hlt:i<x.kids.length:=by have:=A5 h1;omega
  obtain⟨y,hyi⟩:=Ab x.kids hlt;have hmem:=Bh hyi;have hdr:=B6 hyi;rw[hdr]at hT hol;simp only[Ki,Ex]at hT hol;refine B4 i (by omega) (Am hyi) ?_;refine Ae (hb:=A3q out ((h+1:Nat):Int)) (τ':=[0]) [0] [0] ((hy y hmem).f out (h+1) (by have:=Gv hmem;omega) (by omega)) ?_;exact IH (i+1,out++Ht y (h+1)) ⟨hlt,by simpa using hT⟩ (by simp only;omega) _ _ ⟨vsx (by omega),rfl,rfl,rfl,trivial⟩ rfl rfl rfl
 ·have hie:i=x.kids.length:=by have:=Ba h1;omega
  subst hie;rw[Aef (Bo _)]at hT;simp only[Ki,H0]at hT;subst hT;refine Be ⟨[[bN (.ptr 0 0 0) (s++N5 x ws h) h],[Af x]],[(s++N5 x ws h).length,(ws++[[123]]).length]⟩ ?_ (by rw[←hi2]<;>rfl);refine En 0 0 2 (bx:=[[[.ptr 0 0 0,.buf 5 (s++N5 x ws h) 0,.sl [] (.tok 2),vi h]],[Af x]]) (tk:=[(s++N5 x ws h).length,(ws++[[123]]).length,0]) rfl rfl rfl rfl rfl rfl ?_;refine Ae (τ':=[0,2]) [0] [0,2] ((Jf [125]).m (s++N5 x ws h) h) ?_;exact Ec func315 rfl rfl
def cpP(k:Int)(s:List UInt8)(c:List (Int×Mg))(b:List (List UInt8×Bool))(h:Nat):List UInt8:=
 if k=24 then Er ([V9]++eW c 0++[[123]]) h++bT b 1++(if bQ' b 2 then Er [[125],Iu,[123]] h++bT b 2 else[])
 else if k=25 then Er ([Gp]++eW c 0++[[123]]) h++bT b 1
 else if k=26 then Er ([L9,s,Jn]++eW c 0++[wTo]++eW c 1++[[123]]) h++bT b 2
 else[]
def cpW(k:Int):Mg:=if k=24 then[[125]]else if k=25 then[[125]]else if k=26 then[[125]]else[]
def cpB(k:Int)(b:Bool):Bool:=if k=24 then false else if k=25 then false else if k=26 then false else b
theorem A08(k:Int)(s:List UInt8)(c:List (Int×Mg))(b:List (List UInt8×Bool))(h:Nat):cpT k s c b h=cpP k s c b h++Er (cpW k) h:=by
 unfold cpT cpP cpW
 repeat' split
 all_goals simp
theorem Ag3(n:Nd)(h i:Nat):bT (Jl n.kids h) i=Ki (Bv n i).kids (h+1):=(Ank n h i).1
theorem A0t(n:Nd)(h i:Nat):bQ' (Jl n.kids h) i=!(Bv n i).kids.isEmpty:=(Ank n h i).2
theorem Afi(n:Nd)(i:Nat){h:Nat}(hd:h+Dh n≤60):h+Dh (Bv n i)≤60:=by
 have:=J4 n;rcases Mt n i with h|h
 ·have:=Gv h;omega
 ·rw[h];show _+1≤60;omega
set_option maxHeartbeats 2000000 in
theorem Alz(n:Nd)(hp:PrN n)(hsz:Ai n≤1000)(hk:∀i,HBk (Bv n i))(b:Bool)(s:List UInt8)(h:Nat)(hd:h+Dh n≤60)(hl:s.length+(cpP n.kind n.name (B5 n.kids) (Jl n.kids h) h).length≤1000000000) :
 Hands X 298 [.ptr 0 0 0,nd n] ⟨[[bN (Np 312 0 b) s h]],[s.length]⟩ (.tup [])
  ⟨[[bQ (Np 312 0 (cpB n.kind b)) (s++cpP n.kind n.name (B5 n.kids) (Jl n.kids h) h) (cpW n.kind) h]],[(s++cpP n.kind n.name (B5 n.kids) (Jl n.kids h) h).length]⟩:=by
 have hkl:n.kids.length≤4000000000:=by have:=Bm n.kids;have:=Cj n;omega
 have q0:=Ads n 0 (by omega) hkl;have q1:=Ads n 1 (by omega) hkl;have q2:=Ads n 2 (by omega) hkl;have e0:=Ahn (Bv n 0) (hp.kid 0);have e1:=Ahn (Bv n 1) (hp.kid 1);have w0:=Yf (Bv n 0) (hp.kid 0);have w1:=Yf (Bv n 1) (hp.kid 1);have he:=Aha n.kids;have hcn:=Cj n;rw[F8,F8]at he;have kc:∀i,Ai (Bv n i)≤1000:=fun i=>by
  rcases Mt n i with h|h
  ·have:=E5 h;omega
  ·rw[h];decide
 have c0:=kc 0;have c1:=kc 1;have d1:=Afi n 1 hd;have d2:=Afi n 2 hd;have hs8:=hp.get.1;refine Hands.run (n:=1) (m:=1) func298 ?_;refine Ah (fun h1=>?_) (fun h1=>?_)
 ·have h1':n.kind=24:=by simpa using h1
  have hB:cpB n.kind b=false:=by unfold cpB;rw[if_pos h1']
  have hW:cpW n.kind=[[125]]:=by unfold cpW;rw[if_pos h1']
  have hP:cpP n.kind n.name (B5 n.kids) (Jl n.kids h) h=N5 (Bv n 1) ([V9]++A1 (Bv n 0)) h++(if !(Bv n 2).kids.isEmpty then N5 (Bv n 2) ([[125]]++[Iu]) h else[]):=by
   unfold cpP;rw[if_pos h1',F8,Ag3,A0t,Ag3];simp[N5]
  rw[hB,hW];rw[hP]at hl⊢;simp only[Ex]at hl;refine En 0 0 2 (bx:=[[[Np 312 0 b,.buf 5 s 0,.sl [] (.tok 1),vi h]],[Af n]]) (tk:=[s.length,0]) rfl rfl rfl rfl rfl rfl ?_;refine Ae (τ':=[0,1]) [0] [0,1] ((Jf V9).n b s h) ?_;refine Al q0 ?_;refine Ae (τ':=[0,1]) [0] [0,1] (e0 (by omega) b s ([V9]) h (by simp<;>omega)) ?_;refine Al q1 ?_;refine Ae (τ':=[0,1,2]) [0] [0,1] (hk 1 b s ([V9]++A1 (Bv n 0)) h d1 (Bw ((Bp (by simp))) w0) (by simp<;>omega) (by omega)) ?_;refine Al q2 ?_;refine Ah (fun h2=>?_) (fun h2=>?_)
  ·have h2':(!(Bv n 2).kids.isEmpty)=true:=by
    have:=A5 h2;rw[Ad]at this;cases hh:(Bv n 2).kids with
    |nil=>rw[hh]at this;simp at this
    |cons y l=>rfl
   rw[if_pos h2']at hl⊢;rw[←Fp];refine Ae (τ':=[0,2]) [0] [0,2] ((Jf Iu).f (s++N5 (Bv n 1) ([V9]++A1 (Bv n 0)) h) [[125]] h (by simp)) ?_;refine Al q2 ?_;refine Ae (τ':=[0,2,3]) [0] [0,2] ((hk 2).f (s++N5 (Bv n 1) ([V9]++A1 (Bv n 0)) h) ([[125]]++[Iu]) h d2 (Bw (Bp (by simp)) (Bp (by simp))) (by simp) (by simp only[Ex];omega)) ?_;refine Rk 0 0 2 (.sl (Dl [[125]]) .no) ?_;exact Ec func298 rfl rfl
  ·have h2':¬(!(Bv n 2).kids.isEmpty)=true:=by
    have:=Ba h2;rw[Ad]at this;cases hh:(Bv n 2).kids with
    |nil=>simp
    |cons y l=>rw[hh]at this;simp at this
   rw[if_neg h2',H0]at *;refine Rk 0 0 2 (.sl (Dl [[125]]) .no) ?_;exact Ec func298 rfl rfl
 have h1':n.kind≠24:=by simpa using h1
 refine Ah (fun h2=>?_) (fun h2=>?_)
 ·have h2':n.kind=25:=by simpa using h2
  have hB:cpB n.kind b=false:=by unfold cpB;rw[if_neg h1',if_pos h2']
  have hW:cpW n.kind=[[125]]:=by unfold cpW;rw[if_neg h1',if_pos h2']
  have hP:cpP n.kind n.name (B5 n.kids) (Jl n.kids h) h=N5 (Bv n 1) ([Gp]++A1 (Bv n 0)) h:=by
   unfold cpP;rw[if_neg h1',if_pos h2',F8,Ag3];simp[N5]
  rw[hB,hW];rw[hP]at hl⊢;refine En 0 0 2 (bx:=[[[Np 312 0 b,.buf 5 s 0,.sl [] (.tok 1),vi h]],[Af n]]) (tk:=[s.length,0]) rfl rfl rfl rfl rfl rfl ?_;refine Ae (τ':=[0,1]) [0] [0,1] ((Jf Gp).n b s h) ?_;refine Al q0 ?_;refine Ae (τ':=[0,1]) [0] [0,1] (e0 (by omega) b s ([Gp]) h (by simp<;>omega)) ?_;refine Al q1 ?_;refine Ae (τ':=[0,1,2]) [0] [0,1] (hk 1 b s ([Gp]++A1 (Bv n 0)) h d1 (Bw ((Bp (by simp))) w0) (by simp<;>omega) (by omega)) ?_;refine Rk 0 0 2 (.sl (Dl [[125]]) .no) ?_;exact Ec func298 rfl rfl
 have h2':n.kind≠25:=by simpa using h2
 refine Ah (fun h3=>?_) (fun h3=>?_)
 ·have h3':n.kind=26:=by simpa using h3
  have hB:cpB n.kind b=false:=by unfold cpB;rw[if_neg h1',if_neg h2',if_pos h3']
  have hW:cpW n.kind=[[125]]:=by unfold cpW;rw[if_neg h1',if_neg h2',if_pos h3']
  have hP:cpP n.kind n.name (B5 n.kids) (Jl n.kids h) h=N5 (Bv n 2) ([L9,n.name,Jn]++A1 (Bv n 0)++[wTo]++A1 (Bv n 1)) h:=by
   unfold cpP;rw[if_neg h1',if_neg h2',if_pos h3',F8,F8,Ag3];simp[N5]
  rw[hB,hW];rw[hP]at hl⊢;refine En 0 0 2 (bx:=[[[Np 312 0 b,.buf 5 s 0,.sl [] (.tok 1),vi h]],[Af n]]) (tk:=[s.length,0]) rfl rfl rfl rfl rfl rfl ?_;refine Ae (τ':=[0,1]) [0] [0,1] ((A5c L9 n.name Jn).n b s h) ?_;refine Al q0 ?_;refine Ae (τ':=[0,1]) [0] [0,1] (e0 (by omega) b s ([L9,n.name,Jn]) h (by simp<;>omega)) ?_;refine Ae (τ':=[0,1]) [0] [0,1] (Jf wTo b s ([L9,n.name,Jn]++A1 (Bv n 0)) h (by simp<;>omega)) ?_;refine Al q1 ?_;refine Ae (τ':=[0,1]) [0] [0,1] (e1 (by omega) b s ([L9,n.name,Jn]++A1 (Bv n 0)++[wTo]) h (by simp<;>omega)) ?_;refine Al q2 ?_;refine Ae (τ':=[0,1,2]) [0] [0,1] (hk 2 b s ([L9,n.name,Jn]++A1 (Bv n 0)++[wTo]++A1 (Bv n 1)) h d2
   (Bw (Bw (Bw (E7 (by simp) (E7 (by omega) (Bp (by simp)))) w0) (Bp (by simp))) w1) (by simp<;>omega) (by omega)) ?_
  refine Rk 0 0 2 (.sl (Dl [[125]]) .no) ?_;exact Ec func298 rfl rfl
 have h3':n.kind≠26:=by simpa using h3
 have hB:cpB n.kind b=b:=by unfold cpB;rw[if_neg h1',if_neg h2',if_neg h3']
 have hW:cpW n.kind=[]:=by unfold cpW;rw[if_neg h1',if_neg h2',if_neg h3']
 have hP:cpP n.kind n.name (B5 n.kids) (Jl n.kids h) h=[]:=by unfold cpP;rw[if_neg h1',if_neg h2',if_neg h3']
 rw[hB,hW,hP,H0];refine Rk 0 0 2 (.sl (Dl []) .no) ?_;exact Ec func298 rfl rfl
set_option maxHeartbeats 2000000 in
theorem A1e(n:Nd)(hp:PrN n)(hsz:Ai n≤1000)(hk:∀i,HBk (Bv n i)):HS n:=by
 intro b s h hd hl;have hkl:n.kids.length≤4000000000:=by have:=Bm n.kids;have:=Cj n;omega
 have q0:=Ads n 0 (by omega) hkl;have q1:=Ads n 1 (by omega) hkl;have e0:=Ahn (Bv n 0) (hp.kid 0);have e1:=Ahn (Bv n 1) (hp.kid 1);have he:=Aha n.kids;have hcn:=Cj n;rw[F8,F8]at he;have kc:∀i,Ai (Bv n i)≤1000:=fun i=>by
  rcases Mt n i with h|h
  ·have:=E5 h;omega
  ·rw[h];decide
 have c0:=kc 0;have c1:=kc 1;have hn:=hp.get;have hst:=Au8 n hp;have hO:Ht n h=if Nt n.kind then Er (V6 n.kind n.name n.num (B5 n.kids)++[[59]]) h else cpP n.kind n.name (B5 n.kids) (Jl n.kids h) h++Er (cpW n.kind) h:=by
  rw[Aoj];unfold Wh;split
  ·rfl
  ·rw[A08]
 refine Hands.run (n:=1) (m:=1) func266 ?_;refine Ah (fun h31=>?_) (fun h31=>?_)
 ·have h31':n.kind=31:=by simpa using h31
  have hT:V6 n.kind n.name n.num (B5 n.kids)=[Nm,n.name]:=by unfold V6;rw[if_pos h31']<;>rfl
  rw[if_pos (by simp[Nt,h31']),hT]at hO;rw[hT]at hst;rw[hO]at hl⊢;have hfl:=Hr ([Nm,n.name]++[[59]]) h;have hwl:=Gn ([Nm,n.name]++[[59]]) h (Bw hst (Bp (by simp)));refine En 0 0 2 (bx:=[[[Np 312 0 b,.buf 5 s 0,.sl [] (.tok 1),vi h]],[Af n]]) (tk:=[s.length,0]) rfl rfl rfl rfl rfl rfl ?_;refine Ae (τ':=[0,1]) [0] [0,1] ((Aqv Nm n.name).n b s h) ?_;refine Ae (τ':=[0,1]) [0] [0,1] (Jf [59] b s ([Nm,n.name]) h (by simp<;>omega)) ?_;refine Ae (τ':=[0]) [0] [0] (Oy b s ([Nm,n.name]++[[59]]) h (by omega) (by simp<;>omega) (by omega) (by omega) (Ur (Bw hst (Bp (by simp))))) ?_;exact Ec func266 rfl rfl
 have h31':n.kind≠31:=by simpa using h31
 refine Ah (fun h32=>?_) (fun h32=>?_)
 ·have h32':n.kind=32:=by simpa using h32
  refine Al (Amf n.num hn.2.1 hn.2.2.1) ?_;refine Ah (fun hm=>?_) (fun hm=>?_)
  ·have hm':n.num=-1:=by simpa using hm
   have hT:V6 n.kind n.name n.num (B5 n.kids)=[Fj,n.name,[91],[63],[93]]:=by unfold V6;rw[if_neg h31',if_pos h32',if_pos hm']<;>rfl
   rw[if_pos (by simp[Nt,h32']),hT]at hO;rw[hT]at hst;rw[hO]at hl⊢;have hfl:=Hr ([Fj,n.name,[91],[63],[93]]++[[59]]) h;have hwl:=Gn ([Fj,n.name,[91],[63],[93]]++[[59]]) h (Bw hst (Bp (by simp)));refine En 0 0 2 (bx:=[[[Np 312 0 b,.buf 5 s 0,.sl [] (.tok 1),vi h]],[Af n]]) (tk:=[s.length,0]) rfl rfl rfl rfl rfl rfl ?_;refine Ae (τ':=[0,1]) [0] [0,1] ((A4e Fj n.name [91] [63] [93]).n b s h) ?_;refine Ae (τ':=[0,1]) [0] [0,1] (Jf [59] b s ([Fj,n.name,[91],[63],[93]]) h (by simp<;>omega)) ?_;refine Ae (τ':=[0]) [0] [0] (Oy b s ([Fj,n.name,[91],[63],[93]]++[[59]]) h (by omega) (by simp<;>omega) (by omega) (by omega) (Ur (Bw hst (Bp (by simp))))) ?_;exact Ec func266 rfl rfl
  ·have hm':¬n.num=-1:=by simpa using hm
   have hT:V6 n.kind n.name n.num (B5 n.kids)=[Fj,n.name,[91],Lib.itoa n.num,[93]]:=by unfold V6;rw[if_neg h31',if_pos h32',if_neg hm']<;>rfl
   rw[if_pos (by simp[Nt,h32']),hT]at hO;rw[hT]at hst;rw[hO]at hl⊢;have hfl:=Hr ([Fj,n.name,[91],Lib.itoa n.num,[93]]++[[59]]) h;have hwl:=Gn ([Fj,n.name,[91],Lib.itoa n.num,[93]]++[[59]]) h (Bw hst (Bp (by simp)));refine En 0 0 2 (bx:=[[[Np 312 0 b,.buf 5 s 0,.sl [] (.tok 1),vi h]],[Af n]]) (tk:=[s.length,0]) rfl rfl rfl rfl rfl rfl ?_;refine Ae (τ':=[0,1]) [0] [0,1] ((A4e Fj n.name [91] (Lib.itoa n.num) [93]).n b s h) ?_;refine Ae (τ':=[0,1]) [0] [0,1] (Jf [59] b s ([Fj,n.name,[91],Lib.itoa n.num,[93]]) h (by simp<;>omega)) ?_;refine Ae (τ':=[0]) [0] [0] (Oy b s ([Fj,n.name,[91],Lib.itoa n.num,[93]]++[[59]]) h (by omega) (by simp<;>omega) (by omega) (by omega) (Ur (Bw hst (Bp (by simp))))) ?_;exact Ec func266 rfl rfl
 have h32':n.kind≠32:=by simpa using h32
 refine Ah (fun h21=>?_) (fun h21=>?_)
 ·have h21':n.kind=21:=by simpa using h21
  have hT:V6 n.kind n.name n.num (B5 n.kids)=[n.name,[61]]++A1 (Bv n 0):=by unfold V6;rw[if_neg h31',if_neg h32',if_pos h21',F8]<;>rfl
  rw[if_pos (by simp[Nt,h21']),hT]at hO;rw[hT]at hst;rw[hO]at hl⊢;have hfl:=Hr ([n.name,[61]]++A1 (Bv n 0)++[[59]]) h;have hwl:=Gn ([n.name,[61]]++A1 (Bv n 0)++[[59]]) h (Bw hst (Bp (by simp)));refine En 0 0 2 (bx:=[[[Np 312 0 b,.buf 5 s 0,.sl [] (.tok 1),vi h]],[Af n]]) (tk:=[s.length,0]) rfl rfl rfl rfl rfl rfl ?_;refine Ae (τ':=[0,1]) [0] [0,1] ((Aqv n.name [61]).n b s h) ?_;refine Al q0 ?_;refine Ae (τ':=[0,1]) [0] [0,1] (e0 (by omega) b s ([n.name,[61]]) h (by simp<;>omega)) ?_;refine Ae (τ':=[0,1]) [0] [0,1] (Jf [59] b s ([n.name,[61]]++A1 (Bv n 0)) h (by simp<;>omega)) ?_;refine Ae (τ':=[0]) [0] [0] (Oy b s ([n.name,[61]]++A1 (Bv n 0)++[[59]]) h (by omega) (by simp<;>omega) (by omega) (by omega) (Ur (Bw hst (Bp (by simp))))) ?_;exact Ec func266 rfl rfl
 have h21':n.kind≠21:=by simpa using h21
 refine Ah (fun h22=>?_) (fun h22=>?_)
 ·have h22':n.kind=22:=by simpa using h22
  have hT:V6 n.kind n.name n.num (B5 n.kids)=[n.name,[91]]++A1 (Bv n 0)++[[93],[61]]++A1 (Bv n 1):=by unfold V6;rw[if_neg h31',if_neg h32',if_neg h21',if_pos h22',F8,F8]<;>rfl
  rw[if_pos (by simp[Nt,h22']),hT]at hO;rw[hT]at hst;rw[hO]at hl⊢;have hfl:=Hr ([n.name,[91]]++A1 (Bv n 0)++[[93],[61]]++A1 (Bv n 1)++[[59]]) h;have hwl:=Gn ([n.name,[91]]++A1 (Bv n 0)++[[93],[61]]++A1 (Bv n 1)++[[59]]) h (Bw hst (Bp (by simp)));refine En 0 0 2 (bx:=[[[Np 312 0 b,.buf 5 s 0,.sl [] (.tok 1),vi h]],[Af n]]) (tk:=[s.length,0]) rfl rfl rfl rfl rfl rfl ?_;refine Ae (τ':=[0,1]) [0] [0,1] ((Aqv n.name [91]).n b s h) ?_;refine Al q0 ?_;refine Ae (τ':=[0,1]) [0] [0,1] (e0 (by omega) b s ([n.name,[91]]) h (by simp<;>omega)) ?_;refine Ae (τ':=[0,1]) [0] [0,1] (Aqv [93] [61] b s ([n.name,[91]]++A1 (Bv n 0)) h (by simp<;>omega)) ?_;refine Al q1 ?_;refine Ae (τ':=[0,1]) [0] [0,1] (e1 (by omega) b s ([n.name,[91]]++A1 (Bv n 0)++[[93],[61]]) h (by simp<;>omega)) ?_;refine Ae (τ':=[0,1]) [0] [0,1] (Jf [59] b s ([n.name,[91]]++A1 (Bv n 0)++[[93],[61]]++A1 (Bv n 1)) h (by simp<;>omega)) ?_;refine Ae (τ':=[0]) [0] [0] (Oy b s ([n.name,[91]]++A1 (Bv n 0)++[[93],[61]]++A1 (Bv n 1)++[[59]]) h (by omega) (by simp<;>omega) (by omega) (by omega) (Ur (Bw hst (Bp (by simp))))) ?_;exact Ec func266 rfl rfl
 have h22':n.kind≠22:=by simpa using h22
 refine Ah (fun h23=>?_) (fun h23=>?_)
 ·have h23':n.kind=23:=by simpa using h23
  have hT:V6 n.kind n.name n.num (B5 n.kids)=[Iv,n.name]:=by unfold V6;rw[if_neg h31',if_neg h32',if_neg h21',if_neg h22',if_pos h23']<;>rfl
  rw[if_pos (by simp[Nt,h23']),hT]at hO;rw[hT]at hst;rw[hO]at hl⊢;have hfl:=Hr ([Iv,n.name]++[[59]]) h;have hwl:=Gn ([Iv,n.name]++[[59]]) h (Bw hst (Bp (by simp)));refine En 0 0 2 (bx:=[[[Np 312 0 b,.buf 5 s 0,.sl [] (.tok 1),vi h]],[Af n]]) (tk:=[s.length,0]) rfl rfl rfl rfl rfl rfl ?_;refine Ae (τ':=[0,1]) [0] [0,1] ((Aqv Iv n.name).n b s h) ?_;refine Ae (τ':=[0,1]) [0] [0,1] (Jf [59] b s ([Iv,n.name]) h (by simp<;>omega)) ?_;refine Ae (τ':=[0]) [0] [0] (Oy b s ([Iv,n.name]++[[59]]) h (by omega) (by simp<;>omega) (by omega) (by omega) (Ur (Bw hst (Bp (by simp))))) ?_;exact Ec func266 rfl rfl
 have h23':n.kind≠23:=by simpa using h23
 refine Ah (fun h27=>?_) (fun h27=>?_)
 ·have h27':n.kind=27:=by simpa using h27
  have hT:V6 n.kind n.name n.num (B5 n.kids)=[Ga]++A1 (Bv n 0):=by unfold V6;rw[if_neg h31',if_neg h32',if_neg h21',if_neg h22',if_neg h23',if_pos h27',F8]<;>rfl
  rw[if_pos (by simp[Nt,h27']),hT]at hO;rw[hT]at hst;rw[hO]at hl⊢;have hfl:=Hr ([Ga]++A1 (Bv n 0)++[[59]]) h;have hwl:=Gn ([Ga]++A1 (Bv n 0)++[[59]]) h (Bw hst (Bp (by simp)));refine En 0 0 2 (bx:=[[[Np 312 0 b,.buf 5 s 0,.sl [] (.tok 1),vi h]],[Af n]]) (tk:=[s.length,0]) rfl rfl rfl rfl rfl rfl ?_;refine Ae (τ':=[0,1]) [0] [0,1] ((Jf Ga).n b s h) ?_;refine Al q0 ?_;refine Ae (τ':=[0,1]) [0] [0,1] (e0 (by omega) b s ([Ga]) h (by simp<;>omega)) ?_;refine Ae (τ':=[0,1]) [0] [0,1] (Jf [59] b s ([Ga]++A1 (Bv n 0)) h (by simp<;>omega)) ?_;refine Ae (τ':=[0]) [0] [0] (Oy b s ([Ga]++A1 (Bv n 0)++[[59]]) h (by omega) (by simp<;>omega) (by omega) (by omega) (Ur (Bw hst (Bp (by simp))))) ?_;exact Ec func266 rfl rfl
 have h27':n.kind≠27:=by simpa using h27
 refine Ah (fun h28=>?_) (fun h28=>?_)
 ·have h28':n.kind=28:=by simpa using h28
  have hT:V6 n.kind n.name n.num (B5 n.kids)=[I1]:=by unfold V6;rw[if_neg h31',if_neg h32',if_neg h21',if_neg h22',if_neg h23',if_neg h27',if_pos h28']<;>rfl
  rw[if_pos (by simp[Nt,h28']),hT]at hO;rw[hT]at hst;rw[hO]at hl⊢;have hfl:=Hr ([I1]++[[59]]) h;have hwl:=Gn ([I1]++[[59]]) h (Bw hst (Bp (by simp)));refine En 0 0 2 (bx:=[[[Np 312 0 b,.buf 5 s 0,.sl [] (.tok 1),vi h]],[Af n]]) (tk:=[s.length,0]) rfl rfl rfl rfl rfl rfl ?_;refine Ae (τ':=[0,1]) [0] [0,1] ((Jf I1).n b s h) ?_;refine Ae (τ':=[0,1]) [0] [0,1] (Jf [59] b s ([I1]) h (by simp<;>omega)) ?_;refine Ae (τ':=[0]) [0] [0] (Oy b s ([I1]++[[59]]) h (by omega) (by simp<;>omega) (by omega) (by omega) (Ur (Bw hst (Bp (by simp))))) ?_;exact Ec func266 rfl rfl
 have h28':n.kind≠28:=by simpa using h28
 refine Ah (fun h29=>?_) (fun h29=>?_)
 ·have h29':n.kind=29:=by simpa using h29
  have hT:V6 n.kind n.name n.num (B5 n.kids)=[Jb]:=by unfold V6;rw[if_neg h31',if_neg h32',if_neg h21',if_neg h22',if_neg h23',if_neg h27',if_neg h28']<;>rfl
  rw[if_pos (by simp[Nt,h29']),hT]at hO;rw[hT]at hst;rw[hO]at hl⊢;have hfl:=Hr ([Jb]++[[59]]) h;have hwl:=Gn ([Jb]++[[59]]) h (Bw hst (Bp (by simp)));refine En 0 0 2 (bx:=[[[Np 312 0 b,.buf 5 s 0,.sl [] (.tok 1),vi h]],[Af n]]) (tk:=[s.length,0]) rfl rfl rfl rfl rfl rfl ?_;refine Ae (τ':=[0,1]) [0] [0,1] ((Jf Jb).n b s h) ?_;refine Ae (τ':=[0,1]) [0] [0,1] (Jf [59] b s ([Jb]) h (by simp<;>omega)) ?_;refine Ae (τ':=[0]) [0] [0] (Oy b s ([Jb]++[[59]]) h (by omega) (by simp<;>omega) (by omega) (by omega) (Ur (Bw hst (Bp (by simp))))) ?_;exact Ec func266 rfl rfl
 have h29':n.kind≠29:=by simpa using h29
 have hno:Nt n.kind=false:=by simp[Nt,h31',h32',h21',h22',h23',h27',h28',h29']
 rw[if_neg (by simp[hno])]at hO;rw[hO]at hl⊢;simp only[Ex]at hl;have hfl:=Hr (cpW n.kind) h;have hww:okW (cpW n.kind)∧(cpW n.kind).length≤1:=by
  unfold cpW;repeat' split
  all_goals exact⟨fun w hw=>by simp at hw<;>(subst hw;simp),by simp⟩
 have hc:=Alz n hp hsz hk b s h hd (by omega);refine Ae (hb:=Azx b s h) (τ':=[0]) [0] [0] hc ?_;rw[←Fp];refine Ae (τ':=[0]) [0] [0] (Oy (cpB n.kind b) (s++cpP n.kind n.name (B5 n.kids) (Jl n.kids h) h) (cpW n.kind) h (by omega) (by omega) (by omega) (by simp only[Ex];omega) (Ur hww.1)) ?_;exact Bq func266 rfl rfl
theorem Apw:HBk Cg:=An1 Cg (fun y hy=>by cases hy) (by decide)
theorem An3(n:Nd)(hp:PrN n)(hsz:Ai n≤1000):HS n∧HBk n:=by
 induction n using Nd.ind with
 |h n ih=>
  have hcn:=Cj n;have hk:∀i,HBk (Bv n i):=fun i=>by
   rcases Mt n i with h|h
   ·exact(ih _ h (hp.kid i) (by have:=E5 h;omega)).2
   ·rw[h];exact Apw
  refine⟨A1e n hp hsz hk,An1 n (fun y hy=>(ih y hy (hp.get.2.2.2 y hy) (by have:=E5 hy;omega)).1) (by have:=Bm n.kids;omega)⟩
end Go.V
namespace Go.V
open Go
section
variable {X:Cx}{B:Bx}{E:Env}{S S':St}{w:World}{F:C5}{a:Act}{N:Nat}{R:AE→St→Prop}{ops:Array Oper}{i:Nat}{o:Oper}{p q:Operand}
theorem Ac8{sz:Nat}{c1 c2:Array Value}{r1 r2:List (List AV)}(h1:Rn E w sz c1 r1)(h2:Rn E w sz c2 r2):Rn E w sz (c1++c2) (r1++r2):=by
 obtain⟨s1,l1,e1⟩:=h1;obtain⟨s2,l2,e2⟩:=h2;refine⟨by simp[s1,s2,Rf],fun r hr=>(zzq45.1 hr).elim (l1 r) (l2 r),fun k r j x v hk hj hv=>?_⟩;rcases Gs k r1.length with h|h
 ·rw[Cs h]at hk;have hjs:j<sz:=by rw[←l1 r (Bh hk)];exact Aa hj
  have:=I6 h hjs;rw[Zb (by omega)]at hv;exact e1 k r j x v hk hj hv
 ·rw[Gk h]at hk;have hle:r1.length*sz≤k*sz:=Tq _ h;rw[Array.getElem?_append_right (by omega),s1]at hv;exact e2 (k-r1.length) r j x v hk hj (by rw[←hv];congr 1;rw[Nat.sub_mul];omega)
theorem Ap7{sz:Nat}{c:Array Value}{rows:List (List AV)}(h:Rn E w sz c rows){n:Nat}(hn:n≤rows.length):Rn E w sz (c.toList.take (n*sz)).toArray (rows.take n):=by
 obtain⟨s,l,e⟩:=h;have hle:n*sz≤rows.length*sz:=Tq _ hn;refine⟨by simp[s],fun r hr=>l r (Agn hr),fun k r j x v hk hj hv=>?_⟩;rw[Mb]at hk;split at hk
 ·refine e k r j x v hk hj ?_;rw[Rc,Mb]at hv;split at hv
  ·simpa using hv
  ·cases hv
 ·cases hk
theorem Ap6{sz:Nat}{c:Array Value}{rows:List (List AV)}(h:Rn E w sz c rows)(n:Nat):Rn E w sz (c.toList.drop (n*sz)).toArray (rows.drop n):=by
 obtain⟨s,l,e⟩:=h;refine⟨by simp[s,Nat.sub_mul],fun r hr=>l r (List.mem_of_mem_drop hr),fun k r j x v hk hj hv=>?_⟩;rw[Nz]at hk;refine e (n+k) r j x v hk hj ?_;rw[Rc,Nz]at hv;rw[Rf,Mj];simpa using hv
theorem Ac9{t:Nat}{y:Ty}(hy:X.ty t=some y)(hne:y.size≠0)(n:Nat):∃z,(zeroValue t).run X.P w=.ok z w∧(∃ti,X.P.info? t=some ti∧ti.zero=some z∧ti.size=y.size)∧(∀v,v∈(Builtin.zeroCells z.cells n).toList→v.oneCell'=true∨True) ∧
 (Builtin.zeroCells z.cells n).size=n*y.size∧∀(E:Env)(w:World),Rn E w y.size (Builtin.zeroCells z.cells n) (List.replicate n y.zero):=by
 obtain⟨z,hz,hzc,hzl,ti,hi,hiz,his,hib⟩:=Jx hy w;have hzs:z.cells.size=y.size:=by rw[←hzl,←hzc];simp
 refine⟨z,hz,⟨ti,hi,hiz,his⟩,fun v _=>.inr trivial,by simp[Builtin.zeroCells,hzs],fun E w=>?_⟩;refine Vt hzc hzl _ (by simp[Builtin.zeroCells,hzs]) (fun i hi=>?_);have hm:i%y.size<z.cells.size:=by rw[hzs];exact Nat.mod_lt _ (Aeb hne)
 have hr0:(Array.range (n*y.size))[i]?=some i:=by simp[hi]
 simp only[Builtin.zeroCells];rw[Array.getElem?_map,hzs,hr0];simp only[Lk];rw[getElem!_pos z.cells (i%y.size) hm,Akt hm]
theorem Aco{t:TypeId}{x:AV}{cs:List AV}(hc:cellsOf x=some cs:=by rfl)(ho:ops[i]?=some o:=by rfl)(hw:A8 ops F o=some true:=by rfl)(hop:o.op=.box t p:=by rfl)(hp:Dw X F p=some x:=by rfl):Ndo X N ops i o F (.cptr cs) S S:=by
 intro F' E w a hl hI hF;have hlo:=G0 hl;rw[hop]at hlo;have r1:=Ak hI hF ((Dk (X:=X) (F:=F) (F':=F') (o:=p) fun s hs=>hlo s (by simp[Op.operands,hs])).trans hp);generalize hv:a.eval p=v at r1;obtain⟨h1,h2,_⟩:=Hj r1 hc;have ev:=Evol.push (E:=E) (w:=w) (w':=w.alloc (.cells v.cells t)) ⟨_,rfl⟩ rfl rfl rfl E.boxes.length E.toks.length;have hI':=hI.push (w':=w.alloc (.cells v.cells t)) ⟨_,rfl⟩ rfl rfl rfl;have hnew:(w.alloc (.cells v.cells t)).heap[w.heap.size]?=some (.cells v.cells t (0,0)):=by
  have:(w.alloc (.cells v.cells t)).heap=w.heap.push (.cells v.cells t (0,0)):=rfl;rw[this];simp
 refine Does.val ho (Cr hF (by rw[C6 hl];exact hw)) (v:=.pointer (some ⟨w.heap.size,0,none⟩)) (by simp[execOp,hop,Instr.box,hv,newVar,newRow]) (.inl rfl) ⟨E,hI',ev,?_⟩;refine .cptr cs w.heap.size 0 (fun j=>v.cells.getD j default) (fun j _=>Ajd hI) (fun j hj=>?_) (fun j x hx=>?_)
 ·have:j<v.cells.size:=by omega
  rw[Jy];simp only[World.cell?,hnew];simp[this,Array.getD]
 ·have:j<v.cells.size:=by have:=Aa hx;omega
  exact(h2 j _ x (by simp[this,Array.getD]) hx).step ev
theorem Anb{l:List Nat}{k:List Item}{t t' e:TypeId}{rows:List (List AV)}{sp:Sp}(hd:X.P.underlying t=some (.slice e))(hk:∀c:Bool,(rows≠[]→c=false)→AK X B (.inRegion ops l::k) (putF o.dst (.val (.bool c)) F) S R)
 (ho:ops[i]?=some o:=by rfl)(hw:A8 ops F o=some true:=by rfl)(hop:o.op=.binOp .eql t p (.const (.slice none 0 0)) t':=by rfl)(hp:Dw X F p=some (.sl rows sp):=by rfl)(hdst:D3 B.fn.ntmps o.dst=true:=by rfl) :
 AK X B (.inRegion ops (i::l)::k) F S R:=by
 intro E w a b cs hI hF hn hm hb;have r1:=Ak hI hF hp;generalize hv:a.eval p=v at r1;have hrun:∃c:Bool,(rows≠[]→c=false)∧(execOp a.eval o).run X.P w=.ok (.value (.bool c)) w:=by
  cases r1 with
  |sl _ _ a' n cap b' o' sz vals hn' hx ha hsz hm hc hr hs hcap=>
   refine⟨a'.isNone,fun hne=>?_,by simp[execOp,hop,hv,show a.eval (.const (.slice none 0 0))=.slice none 0 0 from rfl,eqGuard,binOp,run_equal_slice_nil w t e a' n cap hd]⟩;rw[ha (by rw[←hn'];exact fun h=>hne (zzq94.1 h))];rfl
 obtain⟨c,hc,hrun⟩:=hrun;have hdo:Does X ops i a w fun v w'=>∃E',Inv X E' S w'∧Evol E w E' w' E.boxes.length E.toks.length∧Rel E' w' v (.val (.bool c)):=
  Does.val ho (Cr hF hw) hrun (.inl rfl) ⟨E,hI,Evol.refl _ _ _ _,.val _⟩
 have nt:E.toks.length=S.toks.length:=by rw[←hI.nt];simp
 obtain⟨v',w',⟨E',h1,h2,h3⟩,h4⟩:=hdo b k cs l;have hF':=(hF.step h2).putF hdst h3;have h4':=h4;rw[ho]at h4';exact Fin.from h4' (h2.weaken (by rw[hI.nb];exact hn) (by omega)) (hk c hc E' w' _ b cs h1 hF' hn hm hb)
theorem Zi{l:List Nat}{k:List Item}{c:Call}{tt tx e e':Nat}{y yx ye:Ty}{new:List (List AV)}{sp:Sp}(hk:∀cc:Nat,AK X B (.inRegion ops l::k) (putF o.dst (.bsl S.boxes.length new.length) F) ⟨S.boxes++[new++List.replicate cc ye.zero],S.toks⟩ R)
 (hl':∀r,r∈new→r.length=ye.size)(hc:∀r,r∈new→∀x,x∈r→I3 x=true)(hne:new≠[])(hb:new.length≤100000000000)
 (ho:ops[i]?=some o:=by rfl)(hw:A8 ops F o=some true:=by rfl)(hop:o.op=.call c:=by rfl)(hcal:c.callee=.builtin .append:=by rfl)(hargs:c.args.toList=[p,q]:=by rfl)(htys:c.argTypes.toList=[tt,tx]:=by rfl)
 (hp:Dw X F p=some (.sl [] .tight):=by rfl)(hq:Dw X F q=some (.sl new sp):=by rfl)(hy:X.ty tt=some y:=by rfl)(hyk:y.k=.slc e:=by rfl)(hye:X.ty e=some ye:=by rfl)(hyx:X.ty tx=some yx:=by rfl)(hyxk:yx.k=.slc e':=by rfl)
 (hdst:D3 B.fn.ntmps o.dst=true:=by rfl):AK X B (.inRegion ops (i::l)::k) F S R:=by
 intro E w a b cs hI hF hn hm hb';obtain⟨callee,args,argTypes⟩:=c;simp only at hcal hargs htys;subst hcal;have ha:args=#[p,q]:=by rw[←zzq34];exact hargs
 have ht:argTypes=#[tt,tx]:=by rw[←zzq34];exact htys
 subst ha;subst ht;have r1:=Ak hI hF hp;have r2:=Ak hI hF hq;obtain⟨d1,hd1,hk1⟩:=(X.ty_ok tt y hy).agg;simp only[hyk]at hk1;obtain⟨rfl,ye',hye',hne0⟩:=hk1;rw[hye]at hye';cases hye';obtain⟨d2,hd2,hk2⟩:=(X.ty_ok tx yx hyx).agg;simp only[hyxk]at hk2;obtain⟨rfl,_⟩:=hk2;obtain⟨ti,z,hi,hsz,hby,hzv,hzc,hzl,_⟩:=(X.ty_ok e ye hye).info;have hnew:0<new.length:=zzq65.2 hne;obtain⟨vals2,hsrc,hr2⟩:=Amy hd2 r2 hl' hc hne;rw[←hsz]at hsrc;generalize hu:a.eval p=u at r1;generalize hv:a.eval q=v at hsrc;have key:∃cc w',(Builtin.append_ #[tt,tx] o.type #[u,v]).run X.P w=.ok (.slice (some ⟨w.heap.size,0,none⟩) new.length cc) w'∧new.length≤cc ∧
  w'.heap=w.heap.push (.cells ((D4 new.length ti.size vals2).toArray++Builtin.zeroCells z.cells (cc-new.length)) e (0,0))∧w'.os=w.os∧w'.tape=w.tape∧w'.output=w.output:=by
  cases r1 with
  |sl _ _ a' n cap bb oo sz vals hn' hx ha hszr hm hcl hr hs hcap=>
   have hn0:n=0:=by simpa using hn'.symm
   subst hn0;have hcap0:cap=0:=hs;subst hcap0;have hold:(Builtin.firstCells ti.size 0 (.slice a' 0 0)).run X.P w.drew=.ok ([]:List Value).toArray w.drew:=by
    cases a' with
    |none=>exact run_firstCells_none _ _ _ _ _
    |some a0=>exact run_firstCells_some _ _ _ _ _ _ _ (by simp) (fun j v hj=>by simp at hj)
   have hby':(0+new.length)*ti.bytes≤140737488355328:=Pb (Nat.mul_le_mul_left _ hby) (by omega);have hrun:=run_append_grow_src w tt tx o.type e ti z hd1 hi hzv a' 0 0 [] hold v new.length _ hsrc (by omega) (by omega) (growslice_fits (by omega) hby');have hcc:=grownCap_ge w (0+new.length) 0 e;simp only[Jy,Tj]at hrun hcc;exact⟨_,_,hrun,hcc,rfl,rfl,rfl,rfl⟩
 obtain⟨cc,w',hrun,hcc,hheap,hos,htp,hout⟩:=key;obtain⟨z',hz',⟨ti',hi',hiz',his'⟩,_,hzz,hgz⟩:=Ac9 (X:=X) (w:=w) hye hne0 (cc-new.length);rw[hi]at hi';cases hi';rw[hzv]at hiz';cases hiz';have hg1:Rn E w ye.size (D4 new.length ti.size vals2).toArray new:=by
  refine⟨by simp[El,hsz],hl',fun kk r j x v' hkk hj hv'=>?_⟩;have h1:=Aa hkk;have h2:j<ye.size:=by rw[←hl' r (Bh hkk)];exact Aa hj
  rw[Rc,hsz,Ld h1 h2]at hv';cases hv';exact hr2 kk j r x hkk hj
 have hg:=Ac8 hg1 (hgz E w);obtain⟨ev,hI'⟩:=hI.newBox (w':=w') hheap hos htp hout hg.1 hg.2.1 hg.2.2;have hnb:E.boxes.length=S.boxes.length:=hI.nb;have hrel:Rel (E.addBox w.heap.size ye.size) w' (.slice (some ⟨w.heap.size,0,none⟩) new.length cc) (.bsl S.boxes.length new.length):=
  .bsl _ _ ye.size _ _ (by rw[←hnb];exact getElem?_snoc_new _ _) hcc
 have hdo:Does X ops i a w fun v w'=>∃E',Inv X E' ⟨S.boxes++[new++List.replicate (cc-new.length) ye.zero],S.toks⟩ w'∧Evol E w E' w' E.boxes.length E.toks.length∧Rel E' w' v (.bsl S.boxes.length new.length):=
  Does.val ho (Cr hF hw) (by simp[execOp,hop,resolve,invoke,builtin,hu,hv,hrun]) (.inl rfl) ⟨_,hI',ev,hrel⟩
 have nt:E.toks.length=S.toks.length:=by rw[←hI.nt];simp
 obtain⟨v',w2,⟨E',h1,h2,h3⟩,h4⟩:=hdo b k cs l;have hF':=(hF.step h2).putF hdst h3;have h4':=h4;rw[ho]at h4';exact Fin.from h4' (h2.weaken (by rw[hI.nb];exact hn) (by omega)) (hk (cc-new.length) E' w2 _ b cs h1 hF' (by simp;omega) hm hb')
theorem Apj{t e b n:Nat}{hi:Option Operand}{h:Int}{y ye:Ty}(h0:0≤h)(h2:h≤(n:Int))(ho:ops[i]?=some o:=by rfl)(hw:A8 ops F o=some true:=by rfl)(hop:o.op=.slice t p none hi none:=by rfl)(hp:Dw X F p=some (.bsl b n):=by rfl)
 (hhi:Tl X F hi (n:Int)=some h:=by rfl)(hy:X.ty t=some y:=by rfl)(hyk:y.k=.slc e:=by rfl)(hye:X.ty e=some ye:=by rfl):Ndo X N ops i o F (.bsl b h.toNat) S S:=by
 refine Dj ho hw fun F' E w a hc hI hF=>?_;rw[hop]at hc;have r1:=Ak hI hF ((hc p (by simp[Op.operands])).trans hp);have b2:=X6 hI hF (show Tl X F' hi (n:Int)=some h by rw[Qg fun x hx=>hc x (by subst hx;simp[Op.operands])];exact hhi);obtain⟨d,hdd,hd2⟩:=(X.ty_ok t y hy).agg;simp only[hyk]at hd2;obtain⟨rfl,ye',hye',hne0⟩:=hd2;rw[hye]at hye';cases hye';generalize hu:a.eval p=u at r1;cases r1 with
 |bsl _ blk sz _ cap hB hcap=>
  have hb:=Ku (X:=X) (isS:=true) (len:=n) (cap:=cap) (lo:=none) (hi:=hi.map a.eval) (l:=0) (h:=h) (.inl ⟨rfl,rfl⟩)
   (by rcases b2 with⟨rfl,rfl⟩|⟨x,k,rfl,hx⟩
       ·exact .inl ⟨rfl,rfl⟩
       ·exact .inr ⟨k,by simp[hx]⟩) (Int.le_refl 0) h0 h2 hcap w
  refine⟨.slice (some ⟨blk,0,none⟩) h.toNat cap,?_,.bsl b blk sz h.toNat cap hB (by omega)⟩;simp[execOp,hop,hu,Instr.sliceAt,Instr.slice,run_underlying hdd,hb,Dr hye,Ge]
theorem Apn{t e b n:Nat}{lo:Operand}{ik:IntKind}{l:Nat}{y ye:Ty}(h2:l<n)(ho:ops[i]?=some o:=by rfl)(hw:A8 ops F o=some true:=by rfl)(hop:o.op=.slice t p (some lo) none none:=by rfl)(hp:Dw X F p=some (.bsl b n):=by rfl)
 (hlo:Dw X F lo=some (.val (.int ik l)):=by rfl)(hy:X.ty t=some y:=by rfl)(hyk:y.k=.slc e:=by rfl)(hye:X.ty e=some ye:=by rfl){rows:List (List AV)}(hS:S.boxes[b]?=some rows)(hrl:∀r,r∈rows→r.length=ye.size)(hne:rows≠[]):Ndo X N ops i o F (.bst b l (n-l)) S S:=by
 refine Dj ho hw fun F' E w a hc hI hF=>?_;rw[hop]at hc;have r1:=Ak hI hF ((hc p (by simp[Op.operands])).trans hp);have r2:=Ak hI hF ((hc lo (by simp[Op.operands])).trans hlo);obtain⟨d,hdd,hd2⟩:=(X.ty_ok t y hy).agg;simp only[hyk]at hd2;obtain⟨rfl,ye',hye',hne0⟩:=hd2;rw[hye]at hye';cases hye';generalize hu:a.eval p=u at r1;generalize hv:a.eval lo=v at r2;cases r2;cases r1 with
 |bsl _ blk sz _ cap hB hcap=>
  obtain⟨arr,te,hh,hs,hlen,hrel⟩:=hI.box b blk sz rows hB hS;have hsz:sz=ye.size:=by
   cases rows with
   |nil=>exact absurd rfl hne
   |cons r rs=>rw[←hlen r (by simp),hrl r (by simp)]
  subst hsz;have hb:=Ku (X:=X) (isS:=true) (len:=n) (cap:=cap) (lo:=some (.int ik l)) (hi:=none) (l:=(l:Int)) (h:=(n:Int)) (.inr ⟨ik,rfl⟩) (.inl ⟨rfl,rfl⟩) (by omega) (by omega) (Int.le_refl _) hcap w;simp only[Hl]at hb;refine⟨.slice (some ⟨blk,l*ye.size,none⟩) (n-l) (cap-l),?_,.bst b blk ye.size l (n-l) (cap-l) hB⟩;have hcl:¬cap=l:=by omega
  simp[execOp,hop,hu,hv,Instr.sliceAt,Instr.slice,run_underlying hdd,hb,Dr hye,Ge,hcl]
theorem Ala{c:Call}{tt e b s n:Nat}{y ye:Ty}{rows:List (List AV)}{bx:List (List (List AV))}(hn:0<n)(hS:S.boxes[b]?=some rows)(hin:s+n≤rows.length)(hrl:∀r,r∈rows→r.length=ye.size)
 (hbx:S.boxes.set b (rows.take s++(List.replicate n ye.zero++rows.drop (s+n)))=bx)(hz1:∀x,x∈ye.zero→I3 x=true)(ho:ops[i]?=some o:=by rfl)(hw:A8 ops F o=some true:=by rfl)(hop:o.op=.call c:=by rfl)(hcal:c.callee=.builtin .clear:=by rfl)(hargs:c.args=#[p]:=by rfl)
 (htys:c.argTypes=#[tt]:=by rfl)(hp:Dw X F p=some (.bst b s n):=by rfl)(hy:X.ty tt=some y:=by rfl)(hyk:y.k=.slc e:=by rfl)(hye:X.ty e=some ye:=by rfl):Ndo X N ops i o F (.val (.tuple #[])) S ⟨bx,S.toks⟩:=by
 subst hbx;intro F' E w a hlk hI hF;obtain⟨callee,args,argTypes⟩:=c;simp only at hcal hargs htys;subst hcal;subst hargs;subst htys;have hlo:=G0 hlk;rw[hop]at hlo;have r1:=Ak hI hF ((Dk (X:=X) (F:=F) (F':=F') (o:=p) fun s hs=>hlo s (by simp[Op.operands,Call.operands,hs])).trans hp);obtain⟨d1,hd1,hk1⟩:=(X.ty_ok tt y hy).agg;simp only[hyk]at hk1;obtain⟨rfl,ye',hye',hne0⟩:=hk1;rw[hye]at hye';cases hye';generalize hu:a.eval p=u at r1;cases r1 with
 |bst _ blk sz _ _ cap hB=>
  obtain⟨arr,te,hh,hs,hlen,hrel⟩:=hI.box b blk sz rows hB hS;obtain⟨r0,hr0⟩:=Ab rows (i:=0) (by omega);have hsz:sz=ye.size:=by rw[←hlen r0 (Bh hr0),hrl r0 (Bh hr0)]
  subst hsz;obtain⟨z,hz,_,_,hzz,hgz⟩:=Ac9 (X:=X) (w:=w) hye hne0 n;have hg:Rn E w ye.size arr rows:=⟨hs,hlen,hrel⟩
  have hg2:=Ac8 (Ap7 hg (n:=s) (by omega)) (Ac8 (hgz E w) (Ap6 hg (s+n)));have hfit:s*ye.size+(Builtin.zeroCells z.cells n).toList.length≤arr.size:=by
   rw[Array.length_toList,hzz,←Rf,hs];exact Tq _ hin
  have hone:∀v,v∈(Builtin.zeroCells z.cells n).toList→v.oneCell'=true:=fun v hv=>by
   obtain⟨q,hq⟩:=Bs hv;have hq':(Builtin.zeroCells z.cells n)[q]?=some v:=by simpa using hq
   have hlt:q<n*ye.size:=by have:=Aa hq;rw[Array.length_toList,hzz]at this;exact this
   have hpos:0<ye.size:=Aeb hne0;have hk:q/ye.size<n:=Nat.div_lt_of_lt_mul (by rw[Nat.mul_comm];exact hlt);have hzl:=hg2.2.1 ye.zero (Abq _ (List.mem_append_left _ (List.mem_replicate.2 ⟨by omega,rfl⟩)));obtain⟨x,hx⟩:=Ab ye.zero (i:=q%ye.size) (by rw[hzl];exact Nat.mod_lt _ hpos);have:=(hgz E w).2.2 (q/ye.size) ye.zero (q%ye.size) x v (by simp[hk]) hx (by rw[Nat.mul_comm,Nat.div_add_mod];exact hq');exact L4 this (hz1 x (Bh hx))
  have hst:=run_storeCells_at X.P blk (s*ye.size) te (Builtin.zeroCells z.cells n).toList 0 arr w hh (by simpa using hfit) hone;simp only[Px]at hst;have hnn:¬n=0:=by omega
  have hrun:(Builtin.clear_ #[tt] o.type #[.slice (some ⟨blk,s*ye.size,none⟩) n cap]).run X.P w=.ok (.tuple #[]) (w.setRow blk (arr.toList.take (s*ye.size)++(Builtin.zeroCells z.cells n).toList++arr.toList.drop (s*ye.size+(Builtin.zeroCells z.cells n).toList.length)).toArray):=by
   obtain⟨m,rfl⟩:∃m,n=m+1:=⟨n-1,by omega⟩
   simp[Builtin.clear_,run_underlying hd1,hz,hst]
  have harr:(arr.toList.take (s*ye.size)++(Builtin.zeroCells z.cells n).toList++arr.toList.drop (s*ye.size+(Builtin.zeroCells z.cells n).toList.length)).toArray =
   (arr.toList.take (s*ye.size)).toArray++(Builtin.zeroCells z.cells n++(arr.toList.drop ((s+n)*ye.size)).toArray):=by
   rw[←zzq34];simp only[Wu,Fp];rw[Array.length_toList,hzz,←Rf]
  rw[harr]at hrun;obtain⟨ev,hI'⟩:=hI.setBox hB hS hh rfl hg2.1 hg2.2.1 hg2.2.2;exact Does.val ho (Cr hF (by rw[C6 hlk];exact hw)) (by simp[execOp,hop,resolve,invoke,builtin,hu,hrun]) (.inl rfl) ⟨E,hI',ev,.val _⟩
theorem Aj6{R:Type}:∀(l xs:List AV)(k:List AV→Option R),l.length=xs.length→Wi l 0 xs k=k xs
 |[],[],k,_=>by simp[Wi]
 |a::l,x::xs,k,h=>by simp only[Wi];exact Aj6 l xs _ (by simpa using h)
 |[],_::_,k,h=>by simp at h
 |_::_,[],k,h=>by simp at h
theorem Sx{α R:Type}:∀(l:List α)(n:Nat)(x:α)(k:List α→Option R),n<l.length→Xo l n x k=k (l.set n x)
 |a::l,0,x,k,_=>by simp[Xo]
 |a::l,n+1,x,k,h=>by simp only[Xo];rw[Sx l n x _ (by simpa using h)];rfl
 |[],n,x,k,h=>by simp at h
theorem Xr{b r sz:Nat}{x:AV}{xs cs:List AV}{rows:List (List AV)}(hb:S.boxes[b]?=some rows)(hr:rows[r]?=some cs)(hc:cellsOf x=some xs)(hl:xs.length=sz)(hl':cs.length=sz) :
 U5 S sz (.ptr b r 0) x=some ⟨S.boxes.set b (rows.set r xs),S.toks⟩:=by
 obtain⟨bx,tk⟩:=S;simp only at hb;simp only[U5,hc];rw[show Nat.beq xs.length sz=true by rw[hl];exact Nat.beq_refl sz];simp only[H8,hb,hr];rw[Aj6 _ _ _ (by omega),Sx _ _ _ _ (Aa hr),Sx _ _ _ _ (Aa hb)]
theorem Agc{R:Type}:∀(l:List AV)(k:List AV→Option R),Nl l.length l k=k l
 |[],k=>by simp[Nl]
 |a::l,k=>by simp only[Nn,Nl];rw[Agc l]
theorem Aqf{b r sz:Nat}{g:Bool}{cs:List AV}{rows:List (List AV)}(hb:S.boxes[b]?=some rows)(hr:rows[r]?=some cs)(hl:cs.length=sz):Ti S sz g (.ptr b r 0)=Wb g cs:=by
 subst hl;simp only[Ti,H8,hb,hr,Ow];rw[Agc]
theorem Qd{t b r:Nat}{y:Ty}{cs:List AV}{rows:List (List AV)}{x:AV}(hb:S.boxes[b]?=some rows)(hr:rows[r]?=some cs)(hl:cs.length=y.size)(ho:ops[i]?=some o:=by rfl)(hw:A8 ops F o=some true:=by rfl)(hop:o.op=.load t p:=by rfl)
 (hp:Dw X F p=some (.ptr b r 0):=by rfl)(hy:X.ty t=some y:=by rfl)(hx:Wb (Gg y.k) cs=some x:=by rfl):Ndo X N ops i o F x S S:=by
 refine Ck ho hw ?_;rw[hop];simp only[Ej,Q0,hy,hp];rw[Aqf hb hr hl];exact hx
end
end Go.V
namespace Go.V
open Go Go.Proofs Go.Proofs.Tryz
def Km(p:Nd→Bool):Nat→List Nd→Int
 |_,[]=>-1
 |i,x::l=>if p x then i else Km p (i+1) l
theorem Yk(p:Nd→Bool):∀(l:List Nd)(i:Nat),decide (Km p i l≥0)=l.any p
 |[],i=>by simp[Km]
 |x::l,i=>by
  have hb:(x::l).any p=(p x||l.any p):=rfl;rw[hb,←Yk p l (i+1)];by_cases h:p x=true
  ·simp[Km,h]
  ·have h':p x=false:=by simpa using h
   have:Km p i (x::l)=Km p (i+1) l:=by simp only[Km];rw[if_neg h]
   rw[this,h'];rfl
theorem Adr(l:List Nd)(f:FuncId)(caps:List AV)(p:Nd→Bool)(hl:l.length≤1000000000) [hok:OKL 0 0 caps](hp:∀x,x∈l→Pure X f (nd x::caps) (vb (p x)))(hcat:∀xs,Kg xs caps=some (xs++caps)) :
 Pure X 225 [.sl (Ap l) .no,.fn f caps] (vi (Km p 0 l)):=by
 refine Pure.run func225 ?_;refine Ar (ι:=Nat) 0 0 (fun i=>i≤l.length∧Km p 0 l=Km p i (l.drop i)) (fun i=>[(8,vi i),(7,vi l.length),(0,.sl (Ap l) .no),(1,.fn f caps)]) (fun _=>⟨[],[]⟩) (fun i=>l.length-i) ?_ 0 ⟨B3 _,rfl⟩
  ⟨rfl,by rw[←Ad];rfl,rfl,rfl,trivial⟩
 intro i hi IH;refine C7 (fun h=>?_) (fun h=>?_)
 ·have hlt:i<l.length:=by have:=A5 h;omega
  obtain⟨x,hx⟩:=Ab l hlt;have hd:Km p i (l.drop i)=if p x then(i:Int)else Km p (i+1) (l.drop (i+1)):=by rw[B6 hx];rfl
  refine B4 i (by omega) (Am hx) ?_;refine Al (hp x (Bh hx)) ?_ (hzs:=hcat _);refine Ah (fun h2=>?_) (fun h2=>?_)
  ·refine Az func225 ?_;have h3:p x=true:=h2;rw[hi.2,hd,h3];rfl
  ·have h3:p x=false:=h2;exact IH (i+1) ⟨hlt,by rw[hi.2,hd,h3];rfl⟩ (by omega) _ _ ⟨vsx (by omega),rfl,rfl,rfl,trivial⟩ rfl rfl rfl
 ·have:i=l.length:=by have:=Ba h;omega
  refine Az func225 ?_;rw[hi.2,this,Hz];rfl
theorem Uw(l:List Nd)(f:FuncId)(caps:List AV)(p:Nd→Bool)(hl:l.length≤1000000000) [hok:OKL 0 0 caps](hp:∀x,x∈l→Pure X f (nd x::caps) (vb (p x)))(hcat:∀xs,Kg xs caps=some (xs++caps)) :
 Pure X 164 [.sl (Ap l) .no,.fn f caps] (vb (l.any p)):=by
 refine Pure.run func164 ?_;refine Al (Adr l f caps p hl hp hcat) ?_;refine Az func164 ?_;rw[←Yk p l 0];rfl
theorem A02(xs:List AV):Kg xs []=some (xs++[]):=by simp[Kg]
theorem Ast(x:AV)(xs:List AV):Kg xs [x]=some (xs++[x]):=by simp[Kg,Ag6]
theorem Ajp(n:Nd):longN n=(decide (8<n.name.length)||n.kids.any longN):=by
 have:∀l:List Nd,longL l=l.any longN:=by
  intro l
  induction l with
  |nil=>rfl
  |cons x l ih=>simp[longL,ih]
 cases n;rw[longN,this];rfl
theorem A18(n:Nd)(hn:Ai n≤1000000000):Pure X 265 [nd n] (vb (longN n)):=by
 induction n using Nd.ind with
 |h n ih=>
  have hc:=Cj n;have hll:=Bm n.kids;have hq:=Uw n.kids 265 [] longN (by omega) (fun x hx=>ih x hx (by have:=E5 hx;omega)) A02;rw[Ajp];refine Pure.run func265 ?_;refine Df (fun h=>?_) (fun h=>?_)
  ·have h':8<n.name.length:=by have:=A5 h;rw[F9]at this;omega
   refine As func265 ?_;rw[Zd h'];rfl
  ·have h':¬8<n.name.length:=by have:=Ba h;rw[F9]at this;omega
   refine Al hq ?_;refine As func265 ?_;rw[Mc h'];rfl
noncomputable def Abe(a b:List Nd):Bool:=@decide (a=b) (Classical.propDecidable _)
theorem V5{a b:List Nd}:Abe a b=true↔a=b:=by unfold Abe;exact @decide_eq_true_iff _ (Classical.propDecidable _)
theorem Au3(a b:Nd):Uz a b=((a.kind==b.kind)&&((a.name==b.name)&&((a.num==b.num)&&Abe a.kids b.kids))):=by
 rw[Bool.eq_iff_iff];simp only[Qy,Dd,zzq54,V5];cases a;cases b;simp
theorem Auk(a b:List Nd)(ha:a.length≤1000000000)(hb:b.length≤1000000000)(h:∀x,x∈a→∀y,y∈b→Pure X 180 [nd x,nd y] (vb (Uz x y))) :
 Pure X 239 [.sl (Ap a) .no,.sl (Ap b) .no,.fn 180 []] (vb (Abe a b)):=by
 refine Pure.run func239 ?_;refine Ah (fun h1=>?_) (fun h1=>?_)
 ·have h1':a.length≠b.length:=by
   rw[Ad,Ad]at h1;simp at h1;omega
  refine As func239 ?_;have:Abe a b=false:=by
   cases h:Abe a b with
   |false=>rfl
   |true=>rw[V5.1 h]at h1';exact absurd rfl h1'
  rw[this]
 have h1':a.length=b.length:=by
  rw[Ad,Ad]at h1;simp at h1;omega
 refine Ar (ι:=Nat) 0 0 (fun i=>i≤a.length∧a.take i=b.take i) (fun i=>[(17,vi i),(16,vi a.length),(15,.sl (Ap a) .no),(0,.sl (Ap a) .no),(1,.sl (Ap b) .no),(2,.fn 180 [])]) (fun _=>⟨[],[]⟩) (fun i=>a.length-i) ?_ 0
  ⟨B3 _,by simp⟩ ⟨rfl,by rw[←Ad];rfl,rfl,rfl,rfl,rfl,trivial⟩
 intro i hi IH;refine C7 (fun h2=>?_) (fun h2=>?_)
 ·have hlt:i<a.length:=by have:=A5 h2;omega
  obtain⟨x,hx⟩:=Ab a hlt;obtain⟨y,hy⟩:=Ab b (i:=i) (by omega);refine B4 i (by omega) (Am hx) ?_;refine B4 i (by omega) (Am hy) ?_;refine Al (h x (Bh hx) y (Bh hy)) ?_;refine Ah (fun h3=>?_) (fun h3=>?_)
  ·have h3':Uz x y=false:=by have:(!Uz x y)=true:=h3;simpa using this
   refine As func239 ?_;have:Abe a b=false:=by
    cases h:Abe a b with
    |false=>rfl
    |true=>
     have:=V5.1 h;subst this;rw[hx]at hy;cases hy;rw[Qy.2 rfl]at h3';cases h3'
   rw[this]
  ·have h3':Uz x y=true:=by have:(!Uz x y)=false:=h3;simpa using this
   have:=Qy.1 h3';subst this;exact IH (i+1) ⟨hlt,by rw[G8,G8,hi.2,hx,hy]⟩ (by omega) _ _ ⟨vsx (by omega),rfl,rfl,rfl,rfl,rfl,trivial⟩ rfl rfl rfl
 ·have hie:i=a.length:=by have:=Ba h2;omega
  have he:=hi.2;rw[hie]at he;rw[I2,h1',I2]at he;refine As func239 ?_;rw[V5.2 he]
theorem A2a(a b:Nd)(ha:Ai a≤1000000000)(hb:Ai b≤1000000000):Pure X 180 [nd a,nd b] (vb (Uz a b)):=by
 induction a using Nd.ind generalizing b with
 |h a ih=>
  have hca:=Cj a;have hcb:=Cj b;have hla:=Bm a.kids;have hlb:=Bm b.kids;have hq:=Auk a.kids b.kids (by omega) (by omega) fun x hx y hy=>ih x hx y (by have:=E5 hx;omega) (by have:=E5 hy;omega);rw[Au3];refine Pure.run func180 ?_;refine Df (fun h1=>?_) (fun h1=>?_)
  ·have h1':(a.kind==b.kind)=true:=h1;rw[h1',Re];refine Df (fun h2=>?_) (fun h2=>?_)
   ·have h2':(a.name==b.name)=true:=h2;rw[h2',Re];refine Df (fun h3=>?_) (fun h3=>?_)
    ·have h3':(a.num==b.num)=true:=h3;rw[h3',Re];refine Al hq ?_;exact As func180 rfl
    ·have h3':(a.num==b.num)=false:=h3;rw[h3'];exact As func180 rfl
   ·have h2':(a.name==b.name)=false:=h2;rw[h2'];refine Ii ?_;exact As func180 rfl
  ·have h1':(a.kind==b.kind)=false:=h1;rw[h1'];refine Ii ?_;refine Ii ?_;exact As func180 rfl
theorem Ali(b:Bool)(s:List UInt8)(h:Int):RinB [1] [0] [[bN (Np 312 1 b) s h]] [[bN (Np 312 0 b) s h]]:=
 have h1:RinC [1] [0] (Np 312 1 b) (Np 312 0 b):=inferInstance;have h2:RinC [1] [0] (.buf 5 s 0) (.buf 5 s 0):=inferInstance;have h3:Ren true [1] [0] (.sl [] .tight) (.sl [] .tight):=Zm .nil (.inr (.inr (.inr (.inl ⟨rfl,rfl⟩))));have h4:RinC [1] [0] (vi h) (vi h):=inferInstance
 ⟨.cons (.cons (.cons h1.s (.cons h2.s (.cons h3 (.cons h4.s .nil)))) .nil) .nil⟩
theorem Aqq{s:List UInt8}(h:(Fb s).2.1=0):(Fb s).2.2=0:=by
 unfold Fb at h⊢;split at h
 ·rename_i h0;rw[if_pos h0];split at h
  ·simp at h
  ·rename_i hb;rw[if_neg hb];split at h
   ·simp at h
   ·rename_i hl;rw[if_neg hl]
 ·rename_i h0;exact absurd h h0
theorem Ah7(s:List UInt8):Ai (Fb s).1≤500:=by
 unfold Fb;split
 ·split
  ·show Ai Cg≤500;decide
  ·split
   ·show Ai Cg≤500;decide
   ·rename_i h;simp only;omega
 ·show Ai Cg≤500;decide
inductive PrI:Nd→Prop where
 |mk (k:Int) (s:List UInt8) (m:Int) (ks:List Nd) (h0:-9223372036854775808≤m) (h1:m≤9223372036854775807) (hk:∀x,x∈ks→PrI x):PrI (.mk k s m ks)
theorem PrI.short{n:Nd}(h:PrI n)(hl:longN n=false):PrN n:=by
 induction h with
 |mk k s m ks h0 h1 hk ih=>
  rw[Ajp,Pe]at hl;obtain⟨h2,h3⟩:=hl;simp only[List.any_eq_false]at h3;exact .mk k s m ks (by have:=Ba h2;simp at this;omega) h0 h1 fun x hx=>ih x hx (by have:=h3 x hx;simpa using this)
theorem Uq(l:List Nd):((Ap l).take (l.length-1)).drop 0=Ap l.dropLast:=by
 rw[Au,Au,List.drop_zero,←List.map_take,Akw]
set_option maxHeartbeats 1000000 in
theorem Aq0(n:Nd)(hn:Ai n≤1000000000)(hnum:PrI n):Pure X 221 [nd n] (.tup [str (Hb n).1,vb (Hb n).2]):=by
 have hcn:=Cj n;have hll:=Bm n.kids;have hfl:R6 X.P 268=some [0,0]:=by kernel_rfl
 refine Pure.run func221 ?_;refine Al (Afu n (by omega)) ?_;refine Df (fun h1=>?_) (fun h1=>?_)
 ·have h1':O0 n=true:=h1;refine Hh ?_;refine A0 ?_;have hP:Hb n=([],false):=by unfold Hb;rw[if_pos (by simp[h1'])]
  rw[hP];exact As func221 rfl
 have h1':O0 n=false:=h1;refine Df (fun h2=>?_) (fun h2=>?_)
 ·have h2':n.kids.isEmpty=true:=by
   rw[Ad]at h2;simp at h2;simp[h2]
  refine A0 ?_;have hP:Hb n=([],false):=by unfold Hb;rw[if_pos (by simp[h2'])]
  rw[hP];exact As func221 rfl
 have h2':n.kids.isEmpty=false:=by
  rw[Ad]at h2;simp at h2;simpa using h2
 refine Al (A18 n hn) ?_;refine Ah (fun h3=>?_) (fun h3=>?_)
 ·have h3':longN n=true:=h3;have hP:Hb n=([],false):=by unfold Hb;rw[if_pos (by simp[h3'])]
  rw[hP];exact As func221 rfl
 have h3':longN n=false:=h3;have hsm:Ai n≤500∧Dh n≤24:=by
  simp only[O0,decide_eq_false_iff_not]at h1';omega
 have hp:PrN n:=hnum.short h3';have hkne:n.kids≠[]:=by intro e;rw[e]at h2';simp at h2'
 have hpos:0<n.kids.length:=zzq65.2 hkne;obtain⟨lst,hlst⟩:=Ab n.kids (i:=n.kids.length-1) (by omega);have hL:n.kids.getLastD Cg=lst:=by
  rw[Akx,List.getLast?_eq_getElem?,hlst];rfl
 have hlm:lst∈n.kids:=Bh hlst;have hlp:=hp.get.2.2.2 lst hlm;have hdn:=J4 n;have hlc:=E5 hlm;have hlcn:=Cj lst;have hw1:IntKind.i64.wrap (((Ap n.kids).length:Int)-1)=((n.kids.length-1:Nat):Int):=by rw[Ad];exact(Ac (by omega) (by omega)).trans (by omega)
 have hP:Hb n=(Xj n,!(Xj n==[])&&((Fb (Xj n)).2.1==0&&Uz (Fb (Xj n)).1 n)):=by unfold Hb;rw[if_neg (by simp[h1',h2',h3'])]
 have hT:Xj n=Ki n.kids.dropLast 0++Ki lst.kids 0:=by rw[Xj,hL]
 have hS1:∀x,x∈n.kids.dropLast→HS x∧0+Dh x≤60∧(Ht x 0).length≤1000*Ai x:=fun x hx=>by
  have hm:=(List.dropLast_sublist _).subset hx;have h1:=E5 hm;have h2:=Gv hm;have hx':=hp.get.2.2.2 x hm;exact⟨(An3 x hx' (by omega)).1,by omega,Aok x 0 hx' (by omega)⟩
 have hS2:∀x,x∈lst.kids→HS x∧0+Dh x≤60∧(Ht x 0).length≤1000*Ai x:=fun x hx=>by
  have h1:=E5 hx;have h2:=Gv hx;have h3:=Gv hlm;have h4:=J4 lst;have hx':=hlp.get.2.2.2 x hx;exact⟨(An3 x hx' (by omega)).1,by omega,Aok x 0 hx' (by omega)⟩
 have hcd:A3 n.kids.dropLast≤A3 n.kids:=by rw[Akw];exact Qi
 have hb1:=Ah5 (l:=n.kids.dropLast) (h:=0) fun x hx=>(hS1 x hx).2.2;have hb2:=Ah5 (l:=lst.kids) (h:=0) fun x hx=>(hS2 x hx).2.2;have hTl:(Xj n).length≤1000000:=by rw[hT];simp;omega
 have hdl:n.kids.dropLast.length≤1000:=by rw[List.length_dropLast];omega
 have hll2:=Bm lst.kids;rw[hP];refine Hw 2 0 ?_;refine Eo (fun S'=>Ak9 (cs:=[.pointer none,.slice none 0 0,.slice none 0 0,.int .i64 0]) rfl rfl rfl rfl rfl rfl) ?_;refine Ch (Ase 5 rfl rfl rfl rfl rfl rfl rfl rfl) ?_;refine Av ?_;refine P8 (An (Ck rfl rfl rfl) (An (Ck rfl rfl rfl) Gy)) rfl ?_;refine Av ?_;refine Av ?_;refine Av ?_;refine Av ?_;refine B2 ?_;refine If 5 (vi (n.kids.length-1:Nat)) ?_ (Ci hw1);refine If 33 (vi (n.kids.length-1:Nat)) ?_ (Ci hw1);refine Bn (Aby (l:=0) (h:=((n.kids.length-1:Nat):Int)) (r:=Ap n.kids.dropLast) rfl rfl rfl rfl rfl rfl rfl rfl rfl (by omega) (by omega) (by rw[Ad];omega) (Ew _) (by rw[Hl];exact Uq _)) ?_;refine Ar (ι:=Nat×List UInt8×Bool) 2 1 (fun i=>i.1≤n.kids.dropLast.length∧i.2.1++Ki (n.kids.dropLast.drop i.1) 0=Ki n.kids.dropLast 0)
  (fun i=>[(36,vi i.1),(35,vi n.kids.dropLast.length),(34,.sl (Ap n.kids.dropLast) .no),(4,.ptr 1 0 0),(1,.ptr 0 0 0),(5,vi (n.kids.length-1:Nat))])
  (fun i=>⟨[[Af n],[bN (Np 312 1 i.2.2) i.2.1 0]],[i.2.1.length]⟩) (fun i=>n.kids.dropLast.length-i.1) ?_ (0,[],true) ⟨B3 _,rfl⟩ ⟨rfl,by rw[←Ad n.kids.dropLast];rfl,rfl,rfl,rfl,rfl,trivial⟩ rfl rfl rfl rfl rfl
  (fun _=>inferInstance) (fun _=>inferInstance)
 rintro⟨i,out,c⟩ ⟨hi,hO⟩ IH;simp only at hi hO IH⊢;have hol:=congrArg List.length hO;simp only[Ex]at hol;refine C7 (fun g1=>?_) (fun g1=>?_)
 ·have hlt:i<n.kids.dropLast.length:=by have:=A5 g1;omega
  obtain⟨y,hy⟩:=Ab n.kids.dropLast hlt;obtain⟨hs1,hs2,hs3⟩:=hS1 y (Bh hy);rw[B6 hy]at hO hol;simp only[Ki,Ex]at hO hol;refine B4 i (by omega) (Am hy) ?_;refine Ae (hb:=Ali c out 0) (τ':=[0]) [1] [0] (hs1 c out 0 hs2 (by omega)) ?_;exact IH (i+1,out++Ht y 0,false) ⟨hlt,by simpa using hO⟩ (by simp only;omega) _ _ ⟨vsx (by omega),rfl,rfl,rfl,rfl,rfl,trivial⟩ rfl rfl rfl
 have hie:i=n.kids.dropLast.length:=by have:=Ba g1;omega
 subst hie;rw[Aef (Bo _)]at hO;simp only[Ki,H0]at hO;subst hO;refine B4 ((n.kids.length-1:Nat):Int) (by omega) (by rw[Hl];exact Am hlst) ?_;refine Ar (ι:=Nat×List UInt8×Bool) 2 1 (fun i=>i.1≤lst.kids.length∧i.2.1++Ki (lst.kids.drop i.1) 0=Xj n)
  (fun i=>[(51,vi i.1),(50,vi lst.kids.length),(49,.sl (Ap lst.kids) .no),(4,.ptr 1 0 0),(1,.ptr 0 0 0)])
  (fun i=>⟨[[Af n],[bN (Np 312 1 i.2.2) i.2.1 0]],[i.2.1.length]⟩) (fun i=>lst.kids.length-i.1) ?_ (0,Ki n.kids.dropLast 0,c) ⟨B3 _,hT.symm⟩ ⟨rfl,by rw[←Ad lst.kids];rfl,rfl,rfl,rfl,trivial⟩ rfl rfl rfl rfl rfl
  (fun _=>inferInstance) (fun _=>inferInstance)
 rintro⟨i,out,c⟩ ⟨hi,hO⟩ IH;simp only at hi hO IH⊢;have hol:=congrArg List.length hO;simp only[Ex]at hol;refine C7 (fun g1=>?_) (fun g1=>?_)
 ·have hlt:i<lst.kids.length:=by have:=A5 g1;omega
  obtain⟨y,hy⟩:=Ab lst.kids hlt;obtain⟨hs1,hs2,hs3⟩:=hS2 y (Bh hy);rw[B6 hy]at hO hol;simp only[Ki,Ex]at hO hol;refine B4 i (by omega) (Am hy) ?_;refine Ae (hb:=Ali c out 0) (τ':=[0]) [1] [0] (hs1 c out 0 hs2 (by omega)) ?_;exact IH (i+1,out++Ht y 0,false) ⟨hlt,by simpa using hO⟩ (by simp only;omega) _ _ ⟨vsx (by omega),rfl,rfl,rfl,rfl,trivial⟩ rfl rfl rfl
 have hie:i=lst.kids.length:=by have:=Ba g1;omega
 subst hie;rw[Aef (Bo _)]at hO;simp only[Ki,H0]at hO;subst hO;generalize Xj n=out at *;have hpc:=Ah7 out;have hpa:=Aqq (s:=out);refine Ae (hb:=Ali c out 0) (τ':=[0]) [1] [0] (sN c out 0 (by omega)) ?_;refine Al (Ayq out (by omega)) ?_;generalize Fb out=T at hpc hpa⊢;obtain⟨m,cd,at_⟩:=T;simp only at hpc hpa⊢;refine Df (fun g1=>?_) (fun g1=>?_)
 ·have g1':(out==[])=false:=by have:(!(out==[]))=true:=g1;simpa using this
  rw[g1',Bool.not_false,Re];refine Bn (Vi (r:=((cd==0)&&((at_==0)&&true))) rfl rfl rfl rfl rfl hfl rfl (.inl ⟨rfl,rfl⟩)) ?_;refine Df (fun g2=>?_) (fun g2=>?_)
  ·have g2':cd=0:=by simp at g2;exact g2.1
   refine Al (A2a m n (by omega) hn) ?_;refine As func221 ?_;simp[g2']
  ·have g2':¬cd=0:=by
    intro h0;have:=hpa h0;simp[h0,this]at g2
   refine As func221 ?_;simp[g2']
 ·have g1':(out==[])=true:=by have:(!(out==[]))=false:=g1;simpa using this
  refine Ii ?_;refine As func221 ?_;simp[g1']
theorem Akc(n:Nd)(hn:Ai n≤1000000000)(hnum:PrI n):Pure X 161 [nd n] (vb (Dq n)):=by
 refine Pure.run func161 ?_;refine Al (Aq0 n hn hnum) ?_;refine As func161 ?_;rw[(Amj n).1]
end Go.V
