/- A part of the proof of the claim that the last text states: no condition of its own. -/
import Derived.Test.YtojhghmilenfkaaGreatDoorM5
import Derived.Laws.Cover3
import Derived.Lib.ItoaLen
import Derived.Lib.ItoaMem
set_option linter.unusedVariables false
set_option linter.unusedSimpArgs false
namespace Go.V
open Go Go.Proofs
inductive PrN:Nd→Prop where
 | mk (k:Int) (s:List UInt8) (m:Int) (ks:List Nd) (hs:s.length≤8) (h0:-9223372036854775808≤m) (h1:m≤9223372036854775807) (hk:∀ x,x∈ks→PrN x):PrN (.mk k s m ks)
def A5 (n:Nd)(i:Nat):Nd:=n.kids.getD i B2
theorem PrN.kid {n:Nd}(h:PrN n)(i:Nat):PrN (A5 n i):=by
 cases h with
 | mk k s m ks hs h0 h1 hk =>
   unfold A5
   cases hx:ks[i]? with
   | none=>simp [Nd.kids,List.getD,hx];exact .mk 0 [] 0 [] (by simp) (by omega) (by omega) (fun x hx=>by cases hx)
   | some x=>simp [Nd.kids,List.getD,hx];exact hk x (List.mem_of_getElem? hx)
theorem Cw {l:List Nd}{x:Nd}(h:x∈l):Af x≤An l:=by
 induction l with
 | nil=>cases h
 | cons y l ih =>
   simp only [An]
   rcases List.mem_cons.1 h with rfl | h
   ·omega
   ·have:=ih h;omega
theorem Ir (n:Nd)(i:Nat):A5 n i∈n.kids∨A5 n i=B2:=by
 unfold A5
 cases hx:n.kids[i]? with
 | none=>right;simp [List.getD,hx]
 | some x=>left;simp [List.getD,hx];exact List.mem_of_getElem? hx
theorem Wi (n:Nd)(i:Nat)(hi:i≤1000000000)(hl:n.kids.length≤4000000000):Pure X 297 [nd n,vi i] (nd (A5 n i)):=by
 by_cases h:i<n.kids.length
 ·obtain ⟨x,hx⟩:=Ab n.kids h
  have hk:A5 n i=x:=by simp [A5,List.getD,hx]
  rw [hk]
  refine Pure.run Tryz.func297 ?_
  refine AK.no ?_ (ht:=by simp [Ad];omega)
  refine AK.ix i (by omega) (Al hx) ?_
  exact AK.rz Tryz.func297 rfl
 ·have hk:A5 n i=B2:=by simp [A5,List.getD,List.getElem?_eq_none (Nat.le_of_not_lt h)]
  rw [hk]
  refine Pure.run Tryz.func297 ?_
  refine AK.yes ?_ (ht:=by simp [Ad];omega)
  exact AK.rz Tryz.func297 rfl
abbrev Ii:=List (List UInt8)
def eW (c:List (Int × Ii))(i:Nat):Ii:=(c.getD i (0,[])).2
def Kj (a b:Bool)(k:Int)(w:Ii):Ii:=if (a&&(k==6||k==7))||(b&&k==8) then [[40]]++w++[[41]] else w
def iW (c:List (Int × Ii))(i:Nat)(a b:Bool):Ii:=Kj a b (c.getD i (0,[])).1 (c.getD i (0,[])).2
def Dp (k:Int)(s:List UInt8)(m:Int)(c:List (Int × Ii)):Ii :=
 if k=1 then [Lib.itoa m]
 else if k=2 then [s]
 else if k=3 then [s,[91]]++eW c 0++[[93]]
 else if k=4 then [[108,101,110],[40],s,[41]]
 else if k=5 then [[32,45]]++iW c 0 true true
 else if k=6∨k=7 then eW c 0++[if k=6 then [43] else [45]]++iW c 1 true false
 else if k=8 then iW c 0 true false++[[42]]++iW c 1 true true
 else if 11≤k∧k≤16 then eW c 0++[Oq k]++eW c 1
 else []
mutual
def Am:Nd→Ii
 | .mk k s m ks=>Dp k s m (A7 ks)
def A7:List Nd→List (Int × Ii)
 | []=>[]
 | x::l=>(x.kind,Am x)::A7 l
end
theorem Xz (l:List Nd):A7 l=l.map fun x=>(x.kind,Am x):=by
 induction l with
 | nil=>rfl
 | cons x l ih=>simp [A7,ih]
theorem Xq:Am B2=[]:=rfl
theorem Xy (n:Nd)(i:Nat):(A7 n.kids).getD i (0,[])=((A5 n i).kind,Am (A5 n i)):=by
 rw [Xz]
 unfold A5
 cases hx:n.kids[i]? with
 | none=>simp [List.getD,hx,Xq];rfl
 | some x=>simp [List.getD,hx]
theorem Dl (n:Nd)(i:Nat):eW (A7 n.kids) i=Am (A5 n i):=by rw [eW,Xy]
theorem Se (n:Nd)(i:Nat)(a b:Bool):iW (A7 n.kids) i a b=Kj a b (A5 n i).kind (Am (A5 n i)):=by rw [iW,Xy]
theorem Vm (n:Nd):Am n=Dp n.kind n.name n.num (A7 n.kids):=by cases n;rfl
theorem Abe (ks:List Nd)(ih:∀ x,x∈ks→(Am x).length+2≤8*Af x):(eW (A7 ks) 0).length+(eW (A7 ks) 1).length+4≤8*An ks+4∧∀ a b c d,(iW (A7 ks) 0 a b).length+(iW (A7 ks) 1 c d).length≤8*An ks:=by
 have hin:∀ a b k w,(Kj a b k w).length≤w.length+2:=fun a b k w=>by unfold Kj;split<;>simp
 cases ks with
 | nil=>refine ⟨by simp [eW,A7],fun a b c d=>by simp [iW,Kj,A7]⟩
 | cons x l =>
   have hx:=ih x (by simp)
   cases l with
   | nil =>
     refine ⟨by simp [eW,A7,An];omega,fun a b c d=>?_⟩
     have:=hin a b x.kind (Am x)
     simp [iW,A7,An]
     have h2:(Kj c d 0 []).length=0:=by simp [Kj]
     rw [h2];omega
   | cons y l =>
     have hy:=ih y (by simp)
     refine ⟨by simp [eW,A7,An];omega,fun a b c d=>?_⟩
     have h1:=hin a b x.kind (Am x)
     have h2:=hin c d y.kind (Am y)
     simp [iW,A7,An]
     omega
theorem Xp (n:Nd):(Am n).length+2≤8*Af n:=by
 induction n using Nd.ind with
 | h n ih =>
 have hc:=Be n
 rw [Vm]
 obtain ⟨h1,h2⟩:=Abe n.kids ih
 have h3:=h2 true true true true
 have h4:=h2 true false true true
 have h5:(iW (A7 n.kids) 1 true false).length≤8*An n.kids-(eW (A7 n.kids) 0).length:=by
  have:=h2 false false true false
  have e:iW (A7 n.kids) 0 false false=eW (A7 n.kids) 0:=by simp [iW,Kj,eW]
  rw [e] at this;omega
 unfold Dp
 repeat' split
 all_goals simp
 all_goals omega
abbrev PutC (r:List (List AV))(xs:Ii):Prop:=∀ (b:Bool)(s:List UInt8)(ws:Ii)(h:Int),ws.length≤1000000000 →
 Hands X 294 [.ptr 0 0 0,.sl r .no] ⟨[[bP (Jg 312 0 b) s ws h]],[s.length,ws.length]⟩ (.tup []) ⟨[[bP (Jg 312 0 b) s (ws++xs) h]],[s.length,(ws++xs).length]⟩
theorem Fy (x:List UInt8):PutC [[str x]] [x]:=fun b s ws h hw=>Abb b s ws [x] h (by simp;omega) rfl
theorem Ahk (x y:List UInt8):PutC [[str x],[str y]] [x,y]:=fun b s ws h hw=>Abb b s ws [x,y] h (by simp;omega) rfl
theorem Ats (x y z:List UInt8):PutC [[str x],[str y],[str z]] [x,y,z]:=fun b s ws h hw=>Abb b s ws [x,y,z] h (by simp;omega) rfl
theorem Att (x y z u:List UInt8):PutC [[str x],[str y],[str z],[str u]] [x,y,z,u]:=fun b s ws h hw=>Abb b s ws [x,y,z,u] h (by simp;omega) rfl
theorem As1 (x y z u v:List UInt8):PutC [[str x],[str y],[str z],[str u],[str v]] [x,y,z,u,v]:=fun b s ws h hw=>Abb b s ws [x,y,z,u,v] h (by simp;omega) rfl
def HE (n:Nd):Prop:=∀ (b:Bool)(s:List UInt8)(ws:Ii)(h:Int),ws.length+(Am n).length≤1000000 →
 Hands X 296 [.ptr 0 0 0,nd n] ⟨[[bP (Jg 312 0 b) s ws h]],[s.length,ws.length]⟩ (.tup []) ⟨[[bP (Jg 312 0 b) s (ws++Am n) h]],[s.length,(ws++Am n).length]⟩
theorem N7 (n:Nd)(he:HE n)(c b:Bool)(s:List UInt8)(ws:Ii)(h:Int)(hw:ws.length+(Kj true c n.kind (Am n)).length≤1000000) :
 Hands X 314 [.ptr 0 0 0,nd n,vb true,vb c] ⟨[[bP (Jg 312 0 b) s ws h]],[s.length,ws.length]⟩ (.tup []) ⟨[[bP (Jg 312 0 b) s (ws++Kj true c n.kind (Am n)) h]],[s.length,(ws++Kj true c n.kind (Am n)).length]⟩:=by
 refine Hands.run (n:=1) (m:=2) Tryz.func314 ?_
 refine AK.gy ?_
 refine AK.gd (fun h6=>?_) (fun h6=>?_)
 ·have h6':n.kind=6:=by simpa using h6
  refine AK.gy ?_
  refine AK.yes ?_
  have hI:Kj true c n.kind (Am n)=[[40]]++Am n++[[41]]:=by unfold Kj;rw [if_pos (by simp [h6'])]
  rw [hI] at hw ⊢
  simp at hw
  refine AK.hc (τ':=[0,1]) [0] [0,1] (Fy [40] b s ws h (by omega)) ?_
  refine AK.hc (τ':=[0,1]) [0] [0,1] (he b s (ws++[[40]]) h (by simp;omega)) ?_
  refine AK.hc (τ':=[0,1]) [0] [0,1] (Fy [41] b s (ws++[[40]]++Am n) h (by simp;omega)) ?_
  rw [← List.append_assoc,← List.append_assoc]
  exact AK.rb Tryz.func314 rfl rfl
 have h6':n.kind≠6:=by simpa using h6
 refine AK.gd (fun h7=>?_) (fun h7=>?_)
 ·have h7':n.kind=7:=by simpa using h7
  refine AK.yes ?_
  have hI:Kj true c n.kind (Am n)=[[40]]++Am n++[[41]]:=by unfold Kj;rw [if_pos (by simp [h7'])]
  rw [hI] at hw ⊢
  simp at hw
  refine AK.hc (τ':=[0,1]) [0] [0,1] (Fy [40] b s ws h (by omega)) ?_
  refine AK.hc (τ':=[0,1]) [0] [0,1] (he b s (ws++[[40]]) h (by simp;omega)) ?_
  refine AK.hc (τ':=[0,1]) [0] [0,1] (Fy [41] b s (ws++[[40]]++Am n) h (by simp;omega)) ?_
  rw [← List.append_assoc,← List.append_assoc]
  exact AK.rb Tryz.func314 rfl rfl
 have h7':n.kind≠7:=by simpa using h7
 cases c
 ·refine AK.gn ?_
  refine AK.no ?_
  have hI:Kj true false n.kind (Am n)=Am n:=by unfold Kj;rw [if_neg (by simp [h6',h7'])]
  rw [hI] at hw ⊢
  refine AK.hc (τ':=[0,1]) [0] [0,1] (he b s ws h (by omega)) ?_
  exact AK.fb Tryz.func314 rfl rfl
 ·refine AK.gy ?_
  refine AK.if_ (fun h8=>?_) (fun h8=>?_)
  ·have h8':n.kind=8:=by simpa using h8
   have hI:Kj true true n.kind (Am n)=[[40]]++Am n++[[41]]:=by unfold Kj;rw [if_pos (by simp [h8'])]
   rw [hI] at hw ⊢
   simp at hw
   refine AK.hc (τ':=[0,1]) [0] [0,1] (Fy [40] b s ws h (by omega)) ?_
   refine AK.hc (τ':=[0,1]) [0] [0,1] (he b s (ws++[[40]]) h (by simp;omega)) ?_
   refine AK.hc (τ':=[0,1]) [0] [0,1] (Fy [41] b s (ws++[[40]]++Am n) h (by simp;omega)) ?_
   rw [← List.append_assoc,← List.append_assoc]
   exact AK.rb Tryz.func314 rfl rfl
  ·have h8':n.kind≠8:=by simpa using h8
   have hI:Kj true true n.kind (Am n)=Am n:=by unfold Kj;rw [if_neg (by simp [h6',h7',h8'])]
   rw [hI] at hw ⊢
   refine AK.hc (τ':=[0,1]) [0] [0,1] (he b s ws h (by omega)) ?_
   exact AK.fb Tryz.func314 rfl rfl
theorem Ajb (k:Int)(s:List UInt8)(m:Int)(c:List (Int × Ii))(h:k≠1∧k≠2∧k≠3∧k≠4∧k≠5∧k≠6∧k≠7∧k≠8):Dp k s m c=if 11≤k∧k≤16 then eW c 0++[Oq k]++eW c 1 else []:=by
 obtain ⟨h1,h2,h3,h4,h5,h6,h7,h8⟩:=h
 unfold Dp
 rw [if_neg h1,if_neg h2,if_neg h3,if_neg h4,if_neg h5,if_neg (by simp [h6,h7]),if_neg h8]
theorem Va {X:Cx}{S:St}{F:Bs}{N:Nat}{ops:Array Oper}{i:Nat}{o:Oper}{t:TypeId}{ps:Array (Nat × Operand)}{vals:List (Nat × Value)}{cs:Array Value}(h:X.P.built t vals=some cs)(ho:ops[i]?=some o:=by rfl)(hw:As ops F o=some true:=by rfl)
 (hop:o.op=.build t ps:=by rfl)(hv:∀ a:Act,ps.toList.map (fun x=>(x.1,a.eval x.2))=vals:=by intro a;rfl):Ndo X N ops i o F (.agg (cs.toList.map E4)) S S:=by
 refine Ndo.val ho hw fun F' E w a hc hI hF=>?_
 refine ⟨.agg cs,?_,.agg _ _ (by simp) fun j v x hv hx=>?_⟩
 ·have hrun:=run_build (P:=X.P) w t (ps.map fun x=>(x.1,a.eval x.2)) cs (by rw [Array.toList_map,hv a];exact h)
  simp [execOp,hop,hrun]
 ·simp [hv] at hx
  subst hx
  exact J2 v
theorem Aax:X.P.built 337 [(0,.string ⟨#[43]⟩),(1,.string ⟨#[45]⟩)]=some #[.string ⟨#[43]⟩,.string ⟨#[45]⟩]:=by kernel_rfl
theorem Ae3 (n:Nd)(hp:PrN n)(hsz:Af n≤100000)(ih:n.kind≠0→∀ i,HE (A5 n i)):HE n:=by
 intro b s ws h hw
 have hkl:n.kids.length≤4000000000:=by have:=Ax n.kids;have:=Be n;omega
 have q0:=Wi n 0 (by omega) hkl
 have q1:=Wi n 1 (by omega) hkl
 have hE:Am n=Dp n.kind n.name n.num (A7 n.kids):=Vm n
 rw [hE] at hw ⊢
 have pn:n.name.length≤8∧-9223372036854775808≤n.num∧n.num≤9223372036854775807:=by cases hp with | mk k s m ks hs h0 h1 hk=>exact ⟨hs,h0,h1⟩
 refine Hands.run (n:=1) (m:=2) Tryz.func296 ?_
 refine AK.if_ (fun h1=>?_) (fun h1=>?_)
 ·have h1':n.kind=1:=by simpa using h1
  have hT:Dp n.kind n.name n.num (A7 n.kids)=[Lib.itoa n.num]:=by unfold Dp;rw [if_pos h1']
  rw [hT] at hw ⊢
  refine AK.pc (Adq n.num pn.2.1 pn.2.2) ?_
  refine AK.hc (τ':=[0,1]) [0] [0,1] (Fy (Lib.itoa n.num) b s ws h (by omega)) ?_
  exact AK.fb Tryz.func296 rfl rfl
 have h1':n.kind≠1:=by simpa using h1
 refine AK.if_ (fun h2=>?_) (fun h2=>?_)
 ·have h2':n.kind=2:=by simpa using h2
  have hT:Dp n.kind n.name n.num (A7 n.kids)=[n.name]:=by unfold Dp;rw [if_neg h1',if_pos h2']
  rw [hT] at hw ⊢
  refine AK.hc (τ':=[0,1]) [0] [0,1] (Fy n.name b s ws h (by omega)) ?_
  exact AK.fb Tryz.func296 rfl rfl
 have h2':n.kind≠2:=by simpa using h2
 refine AK.if_ (fun h3=>?_) (fun h3=>?_)
 ·have h3':n.kind=3:=by simpa using h3
  have hT:Dp n.kind n.name n.num (A7 n.kids)=[n.name,[91]]++Am (A5 n 0)++[[93]]:=by unfold Dp;rw [if_neg h1',if_neg h2',if_pos h3',Dl]
  rw [hT] at hw ⊢
  simp at hw
  have e0:=ih (by omega) 0
  refine AK.hc (τ':=[0,1]) [0] [0,1] (Ahk n.name [91] b s ws h (by omega)) ?_
  refine AK.pc q0 ?_
  refine AK.hc (τ':=[0,1]) [0] [0,1] (e0 b s (ws++[n.name,[91]]) h (by simp;omega)) ?_
  refine AK.hc (τ':=[0,1]) [0] [0,1] (Fy [93] b s (ws++[n.name,[91]]++Am (A5 n 0)) h (by simp;omega)) ?_
  rw [← List.append_assoc,← List.append_assoc]
  exact AK.fb Tryz.func296 rfl rfl
 have h3':n.kind≠3:=by simpa using h3
 refine AK.if_ (fun h4=>?_) (fun h4=>?_)
 ·have h4':n.kind=4:=by simpa using h4
  have hT:Dp n.kind n.name n.num (A7 n.kids)=[[108,101,110],[40],n.name,[41]]:=by unfold Dp;rw [if_neg h1',if_neg h2',if_neg h3',if_pos h4']
  rw [hT] at hw ⊢
  refine AK.hc (τ':=[0,1]) [0] [0,1] (Att [108,101,110] [40] n.name [41] b s ws h (by omega)) ?_
  exact AK.fb Tryz.func296 rfl rfl
 have h4':n.kind≠4:=by simpa using h4
 refine AK.if_ (fun h5=>?_) (fun h5=>?_)
 ·have h5':n.kind=5:=by simpa using h5
  have hT:Dp n.kind n.name n.num (A7 n.kids)=[[32,45]]++Kj true true (A5 n 0).kind (Am (A5 n 0)):=by unfold Dp;rw [if_neg h1',if_neg h2',if_neg h3',if_neg h4',if_pos h5',Se]
  rw [hT] at hw ⊢
  simp at hw
  have e0:=ih (by omega) 0
  refine AK.hc (τ':=[0,1]) [0] [0,1] (Fy [32,45] b s ws h (by omega)) ?_
  refine AK.pc q0 ?_
  refine AK.hc (τ':=[0,1]) [0] [0,1] (N7 (A5 n 0) e0 true b s (ws++[[32,45]]) h (by simp;omega)) ?_
  rw [← List.append_assoc]
  exact AK.fb Tryz.func296 rfl rfl
 have h5':n.kind≠5:=by simpa using h5
 refine AK.if_ (fun h6=>?_) (fun h6=>?_)
 ·have h6':n.kind=6:=by simpa using h6
  have hT:Dp n.kind n.name n.num (A7 n.kids)=Am (A5 n 0)++[[43]]++Kj true false (A5 n 1).kind (Am (A5 n 1)):=by
   unfold Dp;rw [if_neg h1',if_neg h2',if_neg h3',if_neg h4',if_neg h5',if_pos (by simp [h6']),Dl,Se]
   simp [h6']
  rw [hT] at hw ⊢
  simp at hw
  have e0:=ih (by omega) 0
  have e1:=ih (by omega) 1
  refine AK.pc q0 ?_
  refine AK.hc (τ':=[0,1]) [0] [0,1] (e0 b s ws h (by omega)) ?_
  refine AK.op (Va Aax) ?_
  have hwk:IntKind.i64.wrap (n.kind-6)=0:=by rw [h6'];rfl
  refine AK.op (U7 (n:=IntKind.i64.wrap (n.kind-6)) (x:=str [43]) rfl rfl rfl rfl rfl rfl rfl rfl rfl (by omega) (by omega) (by rw [hwk];rfl)) ?_
  refine AK.hc (τ':=[0,1]) [0] [0,1] (Fy [43] b s (ws++Am (A5 n 0)) h (by simp;omega)) ?_
  refine AK.pc q1 ?_
  refine AK.hc (τ':=[0,1]) [0] [0,1] (N7 (A5 n 1) e1 false b s (ws++Am (A5 n 0)++[[43]]) h (by simp;omega)) ?_
  rw [← List.append_assoc,← List.append_assoc]
  exact AK.fb Tryz.func296 rfl rfl
 have h6':n.kind≠6:=by simpa using h6
 refine AK.if_ (fun h7=>?_) (fun h7=>?_)
 ·have h7':n.kind=7:=by simpa using h7
  have hT:Dp n.kind n.name n.num (A7 n.kids)=Am (A5 n 0)++[[45]]++Kj true false (A5 n 1).kind (Am (A5 n 1)):=by
   unfold Dp;rw [if_neg h1',if_neg h2',if_neg h3',if_neg h4',if_neg h5',if_pos (by simp [h7']),Dl,Se]
   simp [h7']
  rw [hT] at hw ⊢
  simp at hw
  have e0:=ih (by omega) 0
  have e1:=ih (by omega) 1
  refine AK.pc q0 ?_
  refine AK.hc (τ':=[0,1]) [0] [0,1] (e0 b s ws h (by omega)) ?_
  refine AK.op (Va Aax) ?_
  have hwk:IntKind.i64.wrap (n.kind-6)=1:=by rw [h7'];rfl
  refine AK.op (U7 (n:=IntKind.i64.wrap (n.kind-6)) (x:=str [45]) rfl rfl rfl rfl rfl rfl rfl rfl rfl (by omega) (by omega) (by rw [hwk];rfl)) ?_
  refine AK.hc (τ':=[0,1]) [0] [0,1] (Fy [45] b s (ws++Am (A5 n 0)) h (by simp;omega)) ?_
  refine AK.pc q1 ?_
  refine AK.hc (τ':=[0,1]) [0] [0,1] (N7 (A5 n 1) e1 false b s (ws++Am (A5 n 0)++[[45]]) h (by simp;omega)) ?_
  rw [← List.append_assoc,← List.append_assoc]
  exact AK.fb Tryz.func296 rfl rfl
 have h7':n.kind≠7:=by simpa using h7
 refine AK.if_ (fun h8=>?_) (fun h8=>?_)
 ·have h8':n.kind=8:=by simpa using h8
  have hT:Dp n.kind n.name n.num (A7 n.kids)=Kj true false (A5 n 0).kind (Am (A5 n 0))++[[42]]++Kj true true (A5 n 1).kind (Am (A5 n 1)):=by
   unfold Dp;rw [if_neg h1',if_neg h2',if_neg h3',if_neg h4',if_neg h5',if_neg (by simp [h6',h7']),if_pos h8',Se,Se]
  rw [hT] at hw ⊢
  simp at hw
  have e0:=ih (by omega) 0
  have e1:=ih (by omega) 1
  refine AK.pc q0 ?_
  refine AK.hc (τ':=[0,1]) [0] [0,1] (N7 (A5 n 0) e0 false b s ws h (by omega)) ?_
  refine AK.hc (τ':=[0,1]) [0] [0,1] (Fy [42] b s (ws++Kj true false (A5 n 0).kind (Am (A5 n 0))) h (by simp;omega)) ?_
  refine AK.pc q1 ?_
  refine AK.hc (τ':=[0,1]) [0] [0,1] (N7 (A5 n 1) e1 true b s (ws++Kj true false (A5 n 0).kind (Am (A5 n 0))++[[42]]) h (by simp;omega)) ?_
  rw [← List.append_assoc,← List.append_assoc]
  exact AK.fb Tryz.func296 rfl rfl
 have h8':n.kind≠8:=by simpa using h8
 have hlo:=Ajb n.kind n.name n.num (A7 n.kids) ⟨h1',h2',h3',h4',h5',h6',h7',h8'⟩
 refine AK.if_ (fun h11=>?_) (fun h11=>?_)
 ·have hk:n.kind=11:=by simpa using h11
  have hT:Dp n.kind n.name n.num (A7 n.kids)=Am (A5 n 0)++[[60]]++Am (A5 n 1):=by
   rw [hlo,if_pos (by omega),Dl,Dl,hk];rfl
  rw [hT] at hw ⊢
  simp at hw
  have e0:=ih (by omega) 0
  have e1:=ih (by omega) 1
  refine AK.pc q0 ?_
  refine AK.hc (τ':=[0,1]) [0] [0,1] (e0 b s ws h (by omega)) ?_
  have hwk:IntKind.i64.wrap (n.kind-11)=0:=by rw [hk];rfl
  refine AK.op (Il (n:=IntKind.i64.wrap (n.kind-11)) (r:=str [60]::condG.drop 1) rfl rfl rfl rfl rfl rfl rfl rfl (by rw [hwk];omega) (by rw [hwk];omega) (by rw [hwk];decide) (by rw [hwk];rfl)) ?_
  refine AK.hc (τ':=[0,1]) [0] [0,1] (Fy [60] b s (ws++Am (A5 n 0)) h (by simp;omega)) ?_
  refine AK.pc q1 ?_
  refine AK.hc (τ':=[0,1]) [0] [0,1] (e1 b s (ws++Am (A5 n 0)++[[60]]) h (by simp;omega)) ?_
  rw [← List.append_assoc,← List.append_assoc]
  exact AK.fb Tryz.func296 rfl rfl
 have h11':n.kind≠11:=by simpa using h11
 refine AK.if_ (fun h12=>?_) (fun h12=>?_)
 ·have hk:n.kind=12:=by simpa using h12
  have hT:Dp n.kind n.name n.num (A7 n.kids)=Am (A5 n 0)++[[60,61]]++Am (A5 n 1):=by
   rw [hlo,if_pos (by omega),Dl,Dl,hk];rfl
  rw [hT] at hw ⊢
  simp at hw
  have e0:=ih (by omega) 0
  have e1:=ih (by omega) 1
  refine AK.pc q0 ?_
  refine AK.hc (τ':=[0,1]) [0] [0,1] (e0 b s ws h (by omega)) ?_
  have hwk:IntKind.i64.wrap (n.kind-11)=1:=by rw [hk];rfl
  refine AK.op (Il (n:=IntKind.i64.wrap (n.kind-11)) (r:=str [60,61]::condG.drop 2) rfl rfl rfl rfl rfl rfl rfl rfl (by rw [hwk];omega) (by rw [hwk];omega) (by rw [hwk];decide) (by rw [hwk];rfl)) ?_
  refine AK.hc (τ':=[0,1]) [0] [0,1] (Fy [60,61] b s (ws++Am (A5 n 0)) h (by simp;omega)) ?_
  refine AK.pc q1 ?_
  refine AK.hc (τ':=[0,1]) [0] [0,1] (e1 b s (ws++Am (A5 n 0)++[[60,61]]) h (by simp;omega)) ?_
  rw [← List.append_assoc,← List.append_assoc]
  exact AK.fb Tryz.func296 rfl rfl
 have h12':n.kind≠12:=by simpa using h12
 refine AK.if_ (fun h13=>?_) (fun h13=>?_)
 ·have hk:n.kind=13:=by simpa using h13
  have hT:Dp n.kind n.name n.num (A7 n.kids)=Am (A5 n 0)++[[62]]++Am (A5 n 1):=by
   rw [hlo,if_pos (by omega),Dl,Dl,hk];rfl
  rw [hT] at hw ⊢
  simp at hw
  have e0:=ih (by omega) 0
  have e1:=ih (by omega) 1
  refine AK.pc q0 ?_
  refine AK.hc (τ':=[0,1]) [0] [0,1] (e0 b s ws h (by omega)) ?_
  have hwk:IntKind.i64.wrap (n.kind-11)=2:=by rw [hk];rfl
  refine AK.op (Il (n:=IntKind.i64.wrap (n.kind-11)) (r:=str [62]::condG.drop 3) rfl rfl rfl rfl rfl rfl rfl rfl (by rw [hwk];omega) (by rw [hwk];omega) (by rw [hwk];decide) (by rw [hwk];rfl)) ?_
  refine AK.hc (τ':=[0,1]) [0] [0,1] (Fy [62] b s (ws++Am (A5 n 0)) h (by simp;omega)) ?_
  refine AK.pc q1 ?_
  refine AK.hc (τ':=[0,1]) [0] [0,1] (e1 b s (ws++Am (A5 n 0)++[[62]]) h (by simp;omega)) ?_
  rw [← List.append_assoc,← List.append_assoc]
  exact AK.fb Tryz.func296 rfl rfl
 have h13':n.kind≠13:=by simpa using h13
 refine AK.if_ (fun h14=>?_) (fun h14=>?_)
 ·have hk:n.kind=14:=by simpa using h14
  have hT:Dp n.kind n.name n.num (A7 n.kids)=Am (A5 n 0)++[[62,61]]++Am (A5 n 1):=by
   rw [hlo,if_pos (by omega),Dl,Dl,hk];rfl
  rw [hT] at hw ⊢
  simp at hw
  have e0:=ih (by omega) 0
  have e1:=ih (by omega) 1
  refine AK.pc q0 ?_
  refine AK.hc (τ':=[0,1]) [0] [0,1] (e0 b s ws h (by omega)) ?_
  have hwk:IntKind.i64.wrap (n.kind-11)=3:=by rw [hk];rfl
  refine AK.op (Il (n:=IntKind.i64.wrap (n.kind-11)) (r:=str [62,61]::condG.drop 4) rfl rfl rfl rfl rfl rfl rfl rfl (by rw [hwk];omega) (by rw [hwk];omega) (by rw [hwk];decide) (by rw [hwk];rfl)) ?_
  refine AK.hc (τ':=[0,1]) [0] [0,1] (Fy [62,61] b s (ws++Am (A5 n 0)) h (by simp;omega)) ?_
  refine AK.pc q1 ?_
  refine AK.hc (τ':=[0,1]) [0] [0,1] (e1 b s (ws++Am (A5 n 0)++[[62,61]]) h (by simp;omega)) ?_
  rw [← List.append_assoc,← List.append_assoc]
  exact AK.fb Tryz.func296 rfl rfl
 have h14':n.kind≠14:=by simpa using h14
 refine AK.if_ (fun h15=>?_) (fun h15=>?_)
 ·have hk:n.kind=15:=by simpa using h15
  have hT:Dp n.kind n.name n.num (A7 n.kids)=Am (A5 n 0)++[[61,61]]++Am (A5 n 1):=by
   rw [hlo,if_pos (by omega),Dl,Dl,hk];rfl
  rw [hT] at hw ⊢
  simp at hw
  have e0:=ih (by omega) 0
  have e1:=ih (by omega) 1
  refine AK.pc q0 ?_
  refine AK.hc (τ':=[0,1]) [0] [0,1] (e0 b s ws h (by omega)) ?_
  have hwk:IntKind.i64.wrap (n.kind-11)=4:=by rw [hk];rfl
  refine AK.op (Il (n:=IntKind.i64.wrap (n.kind-11)) (r:=str [61,61]::condG.drop 5) rfl rfl rfl rfl rfl rfl rfl rfl (by rw [hwk];omega) (by rw [hwk];omega) (by rw [hwk];decide) (by rw [hwk];rfl)) ?_
  refine AK.hc (τ':=[0,1]) [0] [0,1] (Fy [61,61] b s (ws++Am (A5 n 0)) h (by simp;omega)) ?_
  refine AK.pc q1 ?_
  refine AK.hc (τ':=[0,1]) [0] [0,1] (e1 b s (ws++Am (A5 n 0)++[[61,61]]) h (by simp;omega)) ?_
  rw [← List.append_assoc,← List.append_assoc]
  exact AK.fb Tryz.func296 rfl rfl
 have h15':n.kind≠15:=by simpa using h15
 refine AK.if_ (fun h16=>?_) (fun h16=>?_)
 ·have hk:n.kind=16:=by simpa using h16
  have hT:Dp n.kind n.name n.num (A7 n.kids)=Am (A5 n 0)++[[33,61]]++Am (A5 n 1):=by
   rw [hlo,if_pos (by omega),Dl,Dl,hk];rfl
  rw [hT] at hw ⊢
  simp at hw
  have e0:=ih (by omega) 0
  have e1:=ih (by omega) 1
  refine AK.pc q0 ?_
  refine AK.hc (τ':=[0,1]) [0] [0,1] (e0 b s ws h (by omega)) ?_
  have hwk:IntKind.i64.wrap (n.kind-11)=5:=by rw [hk];rfl
  refine AK.op (Il (n:=IntKind.i64.wrap (n.kind-11)) (r:=str [33,61]::condG.drop 6) rfl rfl rfl rfl rfl rfl rfl rfl (by rw [hwk];omega) (by rw [hwk];omega) (by rw [hwk];decide) (by rw [hwk];rfl)) ?_
  refine AK.hc (τ':=[0,1]) [0] [0,1] (Fy [33,61] b s (ws++Am (A5 n 0)) h (by simp;omega)) ?_
  refine AK.pc q1 ?_
  refine AK.hc (τ':=[0,1]) [0] [0,1] (e1 b s (ws++Am (A5 n 0)++[[33,61]]) h (by simp;omega)) ?_
  rw [← List.append_assoc,← List.append_assoc]
  exact AK.fb Tryz.func296 rfl rfl
 have h16':n.kind≠16:=by simpa using h16
 have hT:Dp n.kind n.name n.num (A7 n.kids)=[]:=by rw [hlo,if_neg (by omega)]
 rw [hT,List.append_nil]
 exact AK.fb Tryz.func296 rfl rfl
theorem Asn:HE B2:=Ae3 B2 (.mk 0 [] 0 [] (by simp) (by omega) (by omega) (fun x hx=>by cases hx)) (by decide) fun h=>absurd rfl h
theorem Zq (n:Nd)(hp:PrN n)(hsz:Af n≤100000):HE n:=by
 induction n using Nd.ind with
 | h n ih =>
   refine Ae3 n hp hsz fun _ i=>?_
   rcases Ir n i with h | h
   ·have hc:=Cw h
    have:=Be n
    exact ih _ h (hp.kid i) (by omega)
   ·rw [h];exact Asn
def Sep:List UInt8→Prop
 | []=>True
 | c::_=>(Cm c||digit c)=false
inductive Lex:List UInt8→List (List UInt8)→Prop where
 | nil:Lex [] []
 | blank (c:UInt8) (t:List UInt8) (ws:List (List UInt8)) (hc:c=32∨c=10) (h:Lex t ws):Lex (c::t) ws
 | wrd (w t:List UInt8) (ws:List (List UInt8)) (hk:B1 w≠0) (he:H0 (w++t)=w.length) (h:Lex t ws):Lex (w++t) (w::ws)
theorem Pf:B1 []=0:=by decide
theorem Vu {c:UInt8}{l:List UInt8}(h:B1 (c::l)≠0):c≠32∧c≠10∧c≠35:=by
 have key:∀ d:UInt8,d=32∨d=10∨d=35→B1 (d::l)=0:=by
  intro d hd
  have h1:has Oa (d::l)=false:=by rcases hd with rfl | rfl | rfl<;>simp [has,Oa]
  have h2:nameS (d::l)=false:=by
   have:Cm d=false:=by rcases hd with rfl | rfl | rfl<;>decide
   simp [nameS,this]
  have h3:¬ B6 (d::l)≥0:=by
   have:digit d=false:=by rcases hd with rfl | rfl | rfl<;>decide
   have h48:(d==48)=false:=by rcases hd with rfl | rfl | rfl<;>decide
   simp only [B6]
   split
   ·omega
   ·simp [h48,Lu,this]
  have h4:has Gx (d::l)=false:=by rcases hd with rfl | rfl | rfl<;>simp [has,Gx]
  simp [B1,h1,h2,h3,h4]
 refine ⟨fun e=>h (key c (.inl e)),fun e=>h (key c (.inr (.inl e))),fun e=>h (key c (.inr (.inr e)))⟩
theorem Ahx {w t:List UInt8}(hk:B1 w≠0):Bd false (w++t)=0:=by
 cases w with
 | nil=>exact absurd Pf hk
 | cons c l =>
   obtain ⟨h1,h2,h3⟩:=Vu hk
   simp [Bd,h1,h2,h3]
theorem Aqs {s:List UInt8}{ws:List (List UInt8)}(h:Lex s ws):∀ (f a:Nat)(out:List Wd),(s.drop (Bd false s)).length<f→(Ef f a (s.drop (Bd false s)) out).2.1=0 →
 (Ef f a (s.drop (Bd false s)) out).1.map Wd.text=out.map Wd.text++ws:=by
 induction h with
 | nil =>
   intro f a out hf h0
   cases f with
   | zero=>simp at hf
   | succ f=>simp [Bd,Ef]
 | blank c t ws hc h ih =>
   intro f a out hf h0
   have e:(c::t).drop (Bd false (c::t))=t.drop (Bd false t):=by
    have:Bd false (c::t)=1+Bd false t:=by rcases hc with rfl | rfl<;>simp [Bd]
    rw [this,Nat.add_comm];rfl
   rw [e] at hf h0 ⊢
   exact ih f a out hf h0
 | wrd w t ws hk he h ih =>
   intro f a out hf h0
   rw [Ahx hk,List.drop_zero] at hf h0 ⊢
   cases f with
   | zero=>simp at hf
   | succ f =>
     cases w with
     | nil=>exact absurd Pf hk
     | cons c l =>
       have ht:((c::l)++t).take (H0 ((c::l)++t))=c::l:=by rw [he];exact List.take_left
       have hd:((c::l)++t).drop (H0 ((c::l)++t))=t:=by rw [he];exact List.drop_left
       have hd2:∀ b,((c::l)++t).drop (H0 ((c::l)++t)+b)=t.drop b:=fun b=>by rw [← List.drop_drop,hd]
       rw [List.cons_append] at ht hd hd2 hf h0 ⊢
       simp only [Ef] at h0 ⊢
       rw [ht,hd,hd2] at h0 ⊢
       rw [if_neg (by simpa using hk)] at h0 ⊢
       split at h0
       ·simp at h0
       ·rename_i hn
        rw [if_neg hn]
        have:=ih f (a+H0 (c::(l++t))+Bd false t) (out++[⟨B1 (c::l),c::l,a⟩]) (by simp at hf ⊢;omega) h0
        rw [this];simp
theorem Ag3 {s:List UInt8}{ws:List (List UInt8)}(h:Lex s ws)(h0:(Bq s).2.1=0):(Bq s).1.map Wd.text=ws:=by
 unfold Bq at h0 ⊢
 split at h0
 ·simp at h0
 ·rename_i h1
  rw [if_neg h1]
  have:=Aqs h (s.length+1) (Bd false s) [] (by simp;omega) h0
  simpa using this
theorem Uf {t:List UInt8}(ht:Sep t):∀ w:List UInt8,L5 w=true→D2 (w++t)=w.length
 | [],_=>by
   cases t with
   | nil=>rfl
   | cons c t=>simp only [Sep] at ht;simp [D2,ht]
 | c::l,h=>by
   simp only [L5,List.all_cons,Bool.and_eq_true] at h
   simp only [List.cons_append,D2,h.1,if_true]
   rw [Uf ht l h.2];simp;omega
theorem Lex.al {w t:List UInt8}{ws:List (List UInt8)}(hw:L5 w=true)(hk:B1 w≠0)(hs:Sep t)(h:Lex t ws):Lex (w++t) (w::ws):=by
 refine .wrd w t ws hk ?_ h
 cases w with
 | nil=>exact absurd Pf hk
 | cons c l =>
   have hc:(Cm c||digit c)=true:=by simp only [L5,List.all_cons,Bool.and_eq_true] at hw;exact hw.1
   rw [← Uf hs (c::l) hw]
   simp only [List.cons_append,H0,hc,if_true]
abbrev Qa:List UInt8:=[43,45,42,40,41,91,93,123,125,59,63]
theorem Es {c:UInt8}{t:List UInt8}{ws:List (List UInt8)}(hc:c∈Qa)(h:Lex t ws):Lex (c::t) ([c]::ws):=by
 have h1:∀ c:UInt8,c∈Qa→B1 [c]≠0∧(Cm c||digit c)=false:=by decide
 obtain ⟨h2,h3⟩:=h1 c hc
 refine .wrd [c] t ws h2 ?_ h
 show H0 (c::t)=1
 cases t with
 | nil=>simp [H0,h3]
 | cons d l =>
   have:has Gx [c,d]=false:=by
    simp at hc
    rcases hc with rfl | rfl | rfl | rfl | rfl | rfl | rfl | rfl | rfl | rfl | rfl<;>simp [has,Gx]
   simp [H0,h3,this]
abbrev J4:List (List UInt8):=[[60],[60,61],[62],[62,61],[61,61],[33,61],[61]]
theorem Acn {w t:List UInt8}{ws:List (List UInt8)}(hw:w∈J4)(h:Lex t ws):Lex (w++32::t) (w::ws):=by
 have h1:∀ w,w∈J4→B1 w≠0:=by decide
 refine .wrd w (32::t) ws (h1 w hw) ?_ (.blank 32 t ws (.inl rfl) h)
 simp at hw
 rcases hw with rfl | rfl | rfl | rfl | rfl | rfl | rfl<;>rfl
theorem Iv {s:List UInt8}(h:nameS s=true):L5 s=true∧B1 s=1:=by
 cases s with
 | nil=>simp [nameS] at h
 | cons c l =>
   have h':=h
   simp only [nameS,Bool.and_eq_true,decide_eq_true_eq,Bool.not_eq_true'] at h'
   refine ⟨h'.2,?_⟩
   simp [B1,h'.1.2,h]
theorem Lex.name {s t:List UInt8}{ws:List (List UInt8)}(hn:nameS s=true)(hs:Sep t)(h:Lex t ws):Lex (s++t) (s::ws) :=
 .al (Iv hn).1 (by rw [(Iv hn).2];decide) hs h
theorem Lk (n:Nat)(h:n≤1000000):L5 (Ig n)=true∧B1 (Ig n)=2:=by
 have hd:=N2 n
 have hp:=Y8 n
 have hN:=Kt n h
 generalize Ig n=l at hd hp hN
 cases l with
 | nil=>simp at hp
 | cons c l =>
   have hd':=hd
   simp only [N1,List.all_cons,Bool.and_eq_true,List.all_eq_true] at hd'
   have hdc:=Hq hd'.1
   have hlc:Cm c=false:=by simp [Cm,Bu];omega
   refine ⟨?_,?_⟩
   ·simp only [L5,List.all_eq_true,Bool.or_eq_true]
    intro x hx
    right
    rcases List.mem_cons.1 hx with rfl | hx
    ·exact hd'.1
    ·exact hd'.2 x hx
   ·have h1:has Oa (c::l)=false:=by
     simp only [has,List.any_eq_false]
     intro k hk he
     have he:=beq_iff_eq.1 he
     have:∀ k,k∈Oa→∀ d l',k=d::l'→97≤d.toNat:=by
      intro k hk d l' e
      simp only [Oa,List.mem_cons,List.not_mem_nil,or_false] at hk
      rcases hk with rfl | rfl | rfl | rfl | rfl | rfl | rfl | rfl | rfl | rfl | rfl | rfl | rfl<;>(injection e with e1 e2;subst e1;decide)
     have:=this k hk c l he
     omega
    have h2:nameS (c::l)=false:=by simp [nameS,hlc]
    simp [B1,h1,h2,hN]
theorem Lex.num {n:Nat}{t:List UInt8}{ws:List (List UInt8)}(hn:n≤1000000)(hs:Sep t)(h:Lex t ws):Lex (Ig n++t) (Ig n::ws) :=
 .al (Lk n hn).1 (by rw [(Lk n hn).2];decide) hs h
theorem Lex.key {s t:List UInt8}{ws:List (List UInt8)}(hn:s∈Oa)(hs:Sep t)(h:Lex t ws):Lex (s++t) (s::ws):=by
 have:∀ s,s∈Oa→L5 s=true∧B1 s≠0:=by decide
 exact .al (this s hn).1 (this s hn).2 hs h
theorem Lex.sp {t:List UInt8}{ws:List (List UInt8)}(h:Lex t ws):Lex (32::t) ws:=.blank 32 t ws (.inl rfl) h
theorem Nu {t:List UInt8}{ws:List (List UInt8)}(h:Lex t ws):Lex (10::t) ws:=.blank 10 t ws (.inr rfl) h
def Gd (l:Int)(k:Int)(w:List (List UInt8)):List (List UInt8):=if Ic k<l then [[40]]++w++[[41]] else w
def B9:Nd→List (List UInt8)
 | .mk k s m []=>if k=1 then [Ig m.toNat] else if k=4 then [[108,101,110],[40],s,[41]] else [s]
 | .mk k s _ [a]=>if k=3 then [s,[91]]++B9 a++[[93]] else [[45]]++Gd 3 a.kind (B9 a)
 | .mk k _ _ (a::b::_) =>
   if k=6 then Gd 1 a.kind (B9 a)++[[43]]++Gd 2 b.kind (B9 b)
   else if k=7 then Gd 1 a.kind (B9 a)++[[45]]++Gd 2 b.kind (B9 b)
   else if k=8 then Gd 2 a.kind (B9 a)++[[42]]++Gd 3 b.kind (B9 b)
   else B9 a++[Oq k]++B9 b
def LexP (t:List UInt8)(ws:List (List UInt8)):Prop:=∀ (u:List UInt8)(vs:List (List UInt8)),Sep u→Lex u vs→Lex (t++u) (ws++vs)
theorem LexP.par {l k:Int}{t:List UInt8}{ws:List (List UInt8)}(h:LexP t ws):LexP (Ih l k t) (Gd l k ws):=by
 unfold Ih Gd
 split
 ·intro u vs hs hu
  have:=h (41::u) ([41]::vs) (by simp only [Sep];decide) (Es (by simp) hu)
  have:=Es (c:=40) (by simp) this
  simpa using this
 ·exact h
theorem Ij (t:List UInt8):Sep (32::t):=by simp only [Sep];decide
theorem Adh {n:Nd}(h:FE n):LexP (A2 n) (B9 n):=by
 induction h with
 | num m h0 h1=>intro u vs hs hu;simp only [A2,B9,if_true];exact Lex.num (by omega) hs hu
 | var s h=>intro u vs hs hu;simp only [A2,B9,if_true];exact Lex.name h hs hu
 | cell s a h ha ih =>
   intro u vs hs hu
   have h1:=ih (93::u) ([93]::vs) (by simp only [Sep];decide) (Es (by simp) hu)
   have h2:=Lex.name h (by simp only [Sep];decide) (Es (c:=91) (by simp) h1)
   simpa [A2,B9] using h2
 | len s h =>
   intro u vs hs hu
   have h1:=Lex.name h (by simp only [Sep];decide) (Es (c:=41) (by simp) hu)
   have h2:=Lex.key (s:=[108,101,110]) (by decide) (by simp only [Sep];decide) (Es (c:=40) (by simp) h1)
   simpa [A2,B9] using h2
 | neg a ha ih =>
   intro u vs hs hu
   have h1:=Es (c:=45) (by simp) ((ih.par (l:=3) (k:=a.kind)) u vs hs hu)
   simpa [A2,B9] using h1
 | two k a b hk ha hb iha ihb =>
   have go:∀ (l l':Int) (c:UInt8),c∈Qa→LexP (Ih l a.kind (A2 a)++[32,c,32]++Ih l' b.kind (A2 b)) (Gd l a.kind (B9 a)++[[c]]++Gd l' b.kind (B9 b)):=by
    intro l l' c hc u vs hs hu
    have h1:=(ihb.par (l:=l') (k:=b.kind)) u vs hs hu
    have h2:=(iha.par (l:=l) (k:=a.kind)) _ _ (Ij _) (Lex.sp (Es hc (Lex.sp h1)))
    simpa using h2
   rcases hk with rfl | rfl | rfl
   ·simpa [A2,B9] using go 1 2 43 (by simp)
   ·simpa [A2,B9] using go 1 2 45 (by simp)
   ·simpa [A2,B9] using go 2 3 42 (by simp)
theorem Td (k:Int):Oq k∈J4:=by
 unfold Oq;repeat' split
 all_goals simp
theorem Aqr {n:Nd}(h:FC n):LexP (A2 n) (B9 n):=by
 cases h with
 | mk k a b h0 h1 ha hb =>
   intro u vs hs hu
   have i1:=Adh hb u vs hs hu
   have i2:=Adh ha _ _ (Ij _) (Lex.sp (Acn (Td k) i1))
   have ne:¬ k=6∧¬ k=7∧¬ k=8:=by omega
   simpa [A2,B9,ne.1,ne.2.1,ne.2.2] using i2
mutual
def E7:Nd→List (List UInt8)
 | .mk k s m [] =>
   if k=31 then [Je,s,[59]]
   else if k=32 then [Da,s,[91],if 0≤m then Ig m.toNat else [63],[93],[59]]
   else if k=23 then [Fe,s,[59]]
   else if k=28 then [Fg,[59]]
   else [Ft,[59]]
 | .mk k s _ [a]=>if k=21 then [s,[61]]++B9 a++[[59]] else [Dn]++B9 a++[[59]]
 | .mk k s _ [a,.mk k' s' m' l] =>
   if k=22 then [s,[91]]++B9 a++[[93],[61]]++B9 (.mk k' s' m' l)++[[59]]
   else [Dw]++B9 a++[[123]]++Fu l++[[125]]
 | .mk k s _ (a::.mk k' s' m' l'::.mk _ _ _ l::_) =>
   if k=26 then [Ie,s,Ga]++B9 a++[Ue]++B9 (.mk k' s' m' l')++[[123]]++Fu l++[[125]]
   else [Po]++B9 a++[[123]]++Fu l'++[[125]] ++
    (match l with
      | []=>[]
      | _=>[Fc,[123]]++Fu l++[[125]])
def Fu:List Nd→List (List UInt8)
 | []=>[]
 | x::l=>E7 x++Fu l
end
theorem Lex.pad {t:List UInt8}{ws:List (List UInt8)}(h:Lex t ws):∀ p:List UInt8,(∀ c,c∈p→c=32)→Lex (p++t) ws
 | [],_=>h
 | c::p,hp=>by
   have:=hp c (by simp)
   subst this
   exact .sp (Lex.pad h p fun c hc=>hp c (by simp [hc]))
def Aly (t:List UInt8)(ws:List (List UInt8)):Prop:=∀ (u:List UInt8)(vs:List (List UInt8)),Lex u vs→Lex (t++u) (ws++vs)
theorem Jx {l:List Nd}{p:List UInt8}(h:∀ x,x∈l→Aly (Bh x p) (E7 x)):Aly (E8 l p) (Fu l):=by
 induction l with
 | nil=>intro u vs hu;simpa [E8,Fu] using hu
 | cons x l ih =>
   intro u vs hu
   have h1:=ih (fun y hy=>h y (by simp [hy])) u vs hu
   have h2:=h x (by simp) _ _ h1
   simpa [E8,Fu] using h2
theorem Wq (c:UInt8)(t:List UInt8)(h:(Cm c||digit c)=false:=by decide):Sep (c::t):=h
def padOk (p:List UInt8):Prop:=∀ c,c∈p→c=32
theorem padOk.more {p:List UInt8}(h:padOk p):padOk (p++[32,32]):=by
 intro c hc
 rcases List.mem_append.1 hc with hc | hc
 ·exact h c hc
 ·simp at hc;exact hc
theorem I4 {u:List UInt8}{vs:List (List UInt8)}(h:Lex u vs):Lex (59::10::u) ([59]::vs):=Es (by simp) (Nu h)
theorem Atn {x:Nd}(h:FV x)(p:List UInt8)(hp:padOk p):Aly (Bh x p) (E7 x):=by
 cases h with
 | var s h =>
   intro u vs hu
   have h1:=Lex.name h (Wq _ _) (I4 hu)
   have h2:=(Lex.key (s:=Je) (by decide) (Ij _) (Lex.sp h1)).pad p hp
   simpa [Bh,E7] using h2
 | arr s m h h0 h1 =>
   intro u vs hu
   have key:∀ (t w:List UInt8),(∀ u vs,Sep u→Lex u vs→Lex (t++u) (w::vs))→Lex (p++Da++32::(s++91::(t++93::59::10::u))) (Da::s::[91]::w::[93]::[59]::vs):=by
    intro t w ht
    have h1:=ht _ _ (Wq _ _) (Es (c:=93) (by simp) (I4 hu))
    have h2:=Lex.name h (Wq _ _) (Es (c:=91) (by simp) h1)
    have h3:=(Lex.key (s:=Da) (by decide) (Ij _) (Lex.sp h2)).pad p hp
    simpa using h3
   by_cases g:0≤m
   ·have:=key (Ig m.toNat) (Ig m.toNat) (fun u vs hs hu=>Lex.num (by omega) hs hu)
    simpa [Bh,E7,g] using this
   ·have:=key [63] [63] (fun u vs hs hu=>Es (by simp) hu)
    simpa [Bh,E7,g] using this
theorem Atm {x:Nd}(h:FS x):∀ p:List UInt8,padOk p→Aly (Bh x p) (E7 x):=by
 induction h with
 | set s a h ha =>
   intro p hp u vs hu
   have h1:=Adh ha _ _ (Wq _ _) (I4 hu)
   have h2:=(Lex.name h (Ij _) (Lex.sp (Acn (w:=[61]) (by simp) h1))).pad p hp
   simpa [Bh,E7] using h2
 | put s a b h ha hb =>
   intro p hp u vs hu
   have h1:=Adh hb _ _ (Wq _ _) (I4 hu)
   have h2:=Adh ha _ _ (Wq _ _) (Es (c:=93) (by simp) (Lex.sp (Acn (w:=[61]) (by simp) h1)))
   have h3:=(Lex.name h (Wq _ _) (Es (c:=91) (by simp) h2)).pad p hp
   obtain ⟨k',s',m',l'⟩:=b
   simpa [Bh,E7] using h3
 | read s h =>
   intro p hp u vs hu
   have h1:=Lex.name h (Wq _ _) (I4 hu)
   have h2:=(Lex.key (s:=Fe) (by decide) (Ij _) (Lex.sp h1)).pad p hp
   simpa [Bh,E7] using h2
 | ifs c l l' hc hl hl' ihl ihl' =>
   intro p hp u vs hu
   have fin:Lex (125::10::u) ([125]::vs):=Es (by simp) (Nu hu)
   have go:∀ (t:List UInt8) (w:List (List UInt8)),Lex t w→Lex (p++Po++32::(A2 c++32::123::10::(E8 l (p++[32,32])++(p++t)))) (Po::(B9 c++[123]::(Fu l++w))):=by
    intro t w ht
    have h1:=Jx (fun x hx=>ihl x hx (p++[32,32]) hp.more) _ _ (ht.pad p hp)
    have h2:=Aqr hc _ _ (Ij _) (Lex.sp (Es (c:=123) (by simp) (Nu h1)))
    have h3:=(Lex.key (s:=Po) (by decide) (Ij _) (Lex.sp h2)).pad p hp
    simpa using h3
   cases l' with
   | nil=>simpa [Bh,E7] using go _ _ fin
   | cons y l' =>
     have h1:=Jx (fun x hx=>ihl' x hx (p++[32,32]) hp.more) _ _ (fin.pad p hp)
     have h2:=Es (c:=125) (by simp) (Lex.sp (Lex.key (s:=Fc) (by decide) (Ij _) (Lex.sp (Es (c:=123) (by simp) (Nu h1)))))
     simpa [Bh,E7] using go _ _ h2
 | whil c l hc hl ihl =>
   intro p hp u vs hu
   have fin:Lex (125::10::u) ([125]::vs):=Es (by simp) (Nu hu)
   have h1:=Jx (fun x hx=>ihl x hx (p++[32,32]) hp.more) _ _ (fin.pad p hp)
   have h2:=Aqr hc _ _ (Ij _) (Lex.sp (Es (c:=123) (by simp) (Nu h1)))
   have h3:=(Lex.key (s:=Dw) (by decide) (Ij _) (Lex.sp h2)).pad p hp
   simpa [Bh,E7] using h3
 | for_ s a b l h ha hb hl ihl =>
   intro p hp u vs hu
   have fin:Lex (125::10::u) ([125]::vs):=Es (by simp) (Nu hu)
   have h1:=Jx (fun x hx=>ihl x hx (p++[32,32]) hp.more) _ _ (fin.pad p hp)
   have h2:=Adh hb _ _ (Ij _) (Lex.sp (Es (c:=123) (by simp) (Nu h1)))
   have h3:=Adh ha _ _ (Ij _) (Lex.sp (Lex.key (s:=Ue) (by decide) (Ij _) (Lex.sp h2)))
   have h4:=Lex.name h (Ij _) (Lex.sp (Lex.key (s:=Ga) (by decide) (Ij _) (Lex.sp h3)))
   have h5:=(Lex.key (s:=Ie) (by decide) (Ij _) (Lex.sp h4)).pad p hp
   obtain ⟨k',s',m',l'⟩:=b
   simpa [Bh,E7] using h5
 | check c hc =>
   intro p hp u vs hu
   have h1:=Aqr hc _ _ (Wq _ _) (I4 hu)
   have h2:=(Lex.key (s:=Dn) (by decide) (Ij _) (Lex.sp h1)).pad p hp
   simpa [Bh,E7] using h2
 | skip =>
   intro p hp u vs hu
   have h2:=(Lex.key (s:=Fg) (by decide) (Wq _ _) (I4 hu)).pad p hp
   simpa [Bh,E7] using h2
 | stop =>
   intro p hp u vs hu
   have h2:=(Lex.key (s:=Ft) (by decide) (Wq _ _) (I4 hu)).pad p hp
   simpa [Bh,E7] using h2
theorem Atl {ds l:List Nd}(hd:∀ x,x∈ds→FV x)(hl:∀ x,x∈l→FS x):Lex (E8 ds []++E8 l []) (Fu ds++Fu l):=by
 have h1:=Jx (p:=[]) (fun x hx=>Atm (hl x hx) [] (fun c hc=>by cases hc)) [] [] .nil
 have h2:=Jx (p:=[]) (fun x hx=>Atn (hd x hx) [] (fun c hc=>by cases hc)) _ _ h1
 simpa using h2
structure At (r:RS)(xs:List (List UInt8)):Prop where
 good:r.bad=false
 wk:r.wk
 ws:(r.ws.drop r.at_).map Wd.text=xs
def H2 (xs:List (List UInt8)):List UInt8:=xs.headD []
section
variable {r:RS}{x:List UInt8}{xs:List (List UInt8)}
theorem At.get (h:At r (x::xs)):∃ w,r.ws[r.at_]?=some w∧w.text=x∧w.kind=B1 x:=by
 have h1:=congrArg (fun l:List (List UInt8)=>l[0]?) h.ws
 simp at h1
 obtain ⟨w,hw,rfl⟩:=h1
 exact ⟨w,hw,rfl,h.wk w (List.mem_of_getElem? hw)⟩
theorem At.kind (h:At r (x::xs)):r.kind=B1 x:=by
 obtain ⟨w,hw,_,hk⟩:=h.get
 simp [RS.kind,hw,hk]
theorem At.lt (h:At r (x::xs)):r.at_<r.ws.length:=by
 obtain ⟨w,hw,_⟩:=h.get
 exact Aa hw
theorem At.ge (h:At r []):r.ws.length≤r.at_:=by
 have:=congrArg List.length h.ws
 simp at this;omega
theorem At.text (h:At r xs):r.text=H2 xs:=by
 cases xs with
 | nil=>simp [RS.text,List.getElem?_eq_none h.ge,H2]
 | cons x xs =>
   obtain ⟨w,hw,ht,_⟩:=h.get
   simp [RS.text,hw,ht,H2]
theorem At.step (h:At r (x::xs)):At r.step xs:=by
 refine ⟨h.good,h.wk,?_⟩
 have:=congrArg List.tail h.ws
 simp only [List.tail_cons] at this
 rw [← this]
 simp [RS.step]
theorem At.takes (h:At r xs)(s:List UInt8):r.takes s=(H2 xs==s):=by simp [RS.takes,h.good,h.text]
theorem At.no (h:At r xs){s:List UInt8}(hs:H2 xs≠s):r.takes s=false:=by rw [h.takes];simpa using hs
theorem At.yes (h:At r (x::xs)):r.takes x=true:=by rw [h.takes];simp [H2]
theorem At.need (h:At r (x::xs)):r.need x=r.step:=by simp [RS.need,h.yes]
theorem At.named (h:At r (x::xs))(hn:nameS x=true):r.named=true∧r.name=x∧r.nameR=r.step:=by
 have hk:r.kind=1:=by rw [h.kind,(Iv hn).2]
 have:r.named=true:=by simp [RS.named,h.good,hk]
 refine ⟨this,?_,?_⟩
 ·simp [RS.name,this,h.text,H2]
 ·simp [RS.nameR,this]
end
theorem kne {a b:List UInt8}(h:B1 a≠B1 b):a≠b:=fun e=>h (by rw [e])
theorem Ez {s:List UInt8}(h:nameS s=true)(b:List UInt8)(hb:B1 b≠1:=by decide):s≠b:=kne (by rw [(Iv h).2];exact fun e=>hb e.symm)
theorem Aqx {m:Nat}(h:m≤1000000)(b:List UInt8)(hb:B1 b≠2:=by decide):Ig m≠b:=kne (by rw [(Lk m h).2];exact fun e=>hb e.symm)
def Q1 (ws:List (List UInt8))(n:Nd)(B:Nat):Prop:=∀ (f:Nat)(r:RS)(xs:List (List UInt8)),B≤f→At r (ws++xs)→H2 xs≠[91]→∃ r',C9 f r=(n,r')∧At r' xs
def Q2 (ws:List (List UInt8))(n:Nd)(B:Nat):Prop:=∀ (f:Nat)(r:RS)(xs:List (List UInt8)),B≤f→At r (ws++xs)→H2 xs≠[91]→∃ r' g,f≤g+Af n∧Ck f r=Er g n r'∧At r' xs
def Q3 (ws:List (List UInt8))(n:Nd)(B:Nat):Prop:=∀ (f:Nat)(r:RS)(xs:List (List UInt8)),B≤f→At r (ws++xs)→H2 xs≠[91]→H2 xs≠[42]→∃ r' g,f≤g+Af n∧Cu f r=D3 g n r'∧At r' xs
theorem R5 (n:Nd):1≤Af n:=by rw [Be];omega
theorem Q1.mono {ws:List (List UInt8)}{n:Nd}{B B':Nat}(h:Q1 ws n B)(hb:B≤B'):Q1 ws n B':=fun f r xs hf=>h f r xs (by omega)
theorem Q2.mono {ws:List (List UInt8)}{n:Nd}{B B':Nat}(h:Q2 ws n B)(hb:B≤B'):Q2 ws n B':=fun f r xs hf=>h f r xs (by omega)
theorem Q3.mono {ws:List (List UInt8)}{n:Nd}{B B':Nat}(h:Q3 ws n B)(hb:B≤B'):Q3 ws n B':=fun f r xs hf=>h f r xs (by omega)
theorem Yl {g:Nat}{n:Nd}{r:RS}{xs:List (List UInt8)}(h:At r xs)(hs:H2 xs≠[42]):Er g n r=(n,r):=by
 cases g with
 | zero=>simp [Er]
 | succ g=>simp [Er,h.no hs]
theorem R8 {g:Nat}{n:Nd}{r:RS}{xs:List (List UInt8)}(h:At r xs)(hs:H2 xs≠[43])(hs':H2 xs≠[45]):D3 g n r=(n,r):=by
 cases g with
 | zero=>simp [D3]
 | succ g=>simp [D3,h.no hs,h.no hs']
theorem Art {ws:List (List UInt8)}{n:Nd}{B:Nat}(h:Q1 ws n B):Q2 ws n (B+1):=by
 intro f r xs hf ha hs
 obtain ⟨g,rfl⟩:∃ g,f=g+1:=⟨f-1,by omega⟩
 obtain ⟨r',h1,h2⟩:=h g r xs (by omega) ha hs
 refine ⟨r',g,by have:=R5 n;omega,?_,h2⟩
 simp [Ck,h1]
theorem Aru {ws:List (List UInt8)}{n:Nd}{B:Nat}(h:Q2 ws n B):Q3 ws n (B+1):=by
 intro f r xs hf ha hs hs'
 obtain ⟨g,rfl⟩:∃ g,f=g+1:=⟨f-1,by omega⟩
 obtain ⟨r',g',h1,h2,h3⟩:=h g r xs (by omega) ha hs
 refine ⟨r',g,by have:=R5 n;omega,?_,h3⟩
 rw [Yl h3 hs'] at h2
 simp [Cu,h2]
theorem Arv {ws:List (List UInt8)}{n:Nd}{B:Nat}(h:Q3 ws n B):Q1 ([[40]]++ws++[[41]]) n (B+1):=by
 intro f r xs hf ha hs
 obtain ⟨g,rfl⟩:∃ g,f=g+1:=⟨f-1,by omega⟩
 have ha':At r ([40]::(ws++[41]::xs)):=by simpa using ha
 obtain ⟨r',g',h1,h2,h3⟩:=h g r.step ([41]::xs) (by omega) ha'.step (by simp [H2]) (by simp [H2])
 rw [R8 h3 (by simp [H2]) (by simp [H2])] at h2
 refine ⟨r'.step,?_,h3.step⟩
 have hk:¬ (r.kind==2)=true:=by rw [ha'.kind];decide
 have h45:r.takes [45]=false:=ha'.no (by simp [H2])
 rw [C9,if_neg (by simp [ha'.good]),if_neg (by simp [h45]),if_neg hk,if_pos ha'.yes,h2]
 simp [h3.need]
theorem Aj9 {m:Int}(h0:0≤m)(h1:m≤1000000):Q1 [Ig m.toNat] (.mk 1 [] m []) 1:=by
 intro f r xs hf ha hs
 obtain ⟨g,rfl⟩:∃ g,f=g+1:=⟨f-1,by omega⟩
 have ha':At r (Ig m.toNat::xs):=ha
 have hm:m.toNat≤1000000:=by omega
 refine ⟨r.step,?_,ha'.step⟩
 have hk:(r.kind==2)=true:=by rw [ha'.kind,(Lk _ hm).2];rfl
 have h45:r.takes [45]=false:=ha'.no (Aqx hm [45])
 rw [C9,if_neg (by simp [ha'.good]),if_neg (by simp [h45]),if_pos hk,ha'.text]
 simp only [H2,List.headD_cons]
 rw [Kt _ hm]
 congr 2
 omega
theorem X5 {f:Nat}{r:RS}{s:List UInt8}{xs:List (List UInt8)}(hn:nameS s=true)(ha:At r (s::xs)) :
 C9 (f+1) r=if r.step.takes [91] then (.mk 3 s 0 [(Cu f r.step.step).1],(Cu f r.step.step).2.need [93]) else (.mk 2 s 0 [],r.step):=by
 obtain ⟨_,h2,h3⟩:=ha.named hn
 have hk:¬ (r.kind==2)=true:=by rw [ha.kind,(Iv hn).2];decide
 have h45:r.takes [45]=false:=ha.no (Ez hn [45])
 have h40:r.takes [40]=false:=ha.no (Ez hn [40])
 have hl:r.takes [108,101,110]=false:=ha.no (Ez hn _)
 rw [C9,if_neg (by simp [ha.good]),if_neg (by simp [h45]),if_neg hk,if_neg (by simp [h40]),if_neg (by simp [hl]),h2,h3]
theorem Ard {n:Nd}(h:FE n):Q1 (Gd 3 n.kind (B9 n)) n (3*Af n)∧Q2 (Gd 2 n.kind (B9 n)) n (3*Af n)∧Q3 (B9 n) n (3*Af n):=by
 have t3:∀ {n:Nd} {B:Nat},Ic n.kind=3→B+2≤3*Af n→Q1 (B9 n) n B→Q1 (Gd 3 n.kind (B9 n)) n (3*Af n)∧Q2 (Gd 2 n.kind (B9 n)) n (3*Af n)∧Q3 (B9 n) n (3*Af n):=by
  intro n B ht hB hq
  have e3:Gd 3 n.kind (B9 n)=B9 n:=by unfold Gd;rw [ht,if_neg (by omega)]
  have e2:Gd 2 n.kind (B9 n)=B9 n:=by unfold Gd;rw [ht,if_neg (by omega)]
  rw [e3,e2]
  exact ⟨hq.mono (by omega),(Art hq).mono (by omega),(Aru (Art hq)).mono (by omega)⟩
 induction h with
 | num m h0 h1 =>
   refine t3 (B:=1) rfl (by simp [Af,An]) ?_
   simpa [B9] using Aj9 h0 h1
 | var s h =>
   refine t3 (B:=1) rfl (by simp [Af,An]) ?_
   intro f r xs hf ha hs
   obtain ⟨g,rfl⟩:∃ g,f=g+1:=⟨f-1,by omega⟩
   have ha':At r (s::xs):=by simpa [B9] using ha
   refine ⟨r.step,?_,ha'.step⟩
   rw [X5 h ha',if_neg (by simp [ha'.step.no hs])]
 | cell s a h ha ih =>
   refine t3 (B:=3*Af a+1) rfl (by simp [Af,An];omega) ?_
   intro f r xs hf ha hs
   obtain ⟨g,rfl⟩:∃ g,f=g+1:=⟨f-1,by omega⟩
   have ha':At r (s::[91]::(B9 a++[93]::xs)):=by simpa [B9] using ha
   obtain ⟨r',g',h1,h2,h3⟩:=ih.2.2 g r.step.step ([93]::xs) (by omega) ha'.step.step (by simp [H2]) (by simp [H2])
   rw [R8 h3 (by simp [H2]) (by simp [H2])] at h2
   refine ⟨r'.step,?_,h3.step⟩
   rw [X5 h ha',if_pos ha'.step.yes,h2]
   simp [h3.need]
 | len s h =>
   refine t3 (B:=1) rfl (by simp [Af,An]) ?_
   intro f r xs hf ha hs
   obtain ⟨g,rfl⟩:∃ g,f=g+1:=⟨f-1,by omega⟩
   have ha':At r ([108,101,110]::[40]::s::[41]::xs):=by simpa [B9] using ha
   obtain ⟨_,e2,e3⟩:=ha'.step.step.named h
   refine ⟨r.step.step.step.step,?_,ha'.step.step.step.step⟩
   have hk:¬ (r.kind==2)=true:=by rw [ha'.kind];decide
   have h45:r.takes [45]=false:=ha'.no (by simp [H2])
   have h40:r.takes [40]=false:=ha'.no (by simp [H2])
   rw [C9,if_neg (by simp [ha'.good]),if_neg (by simp [h45]),if_neg hk,if_neg (by simp [h40]),if_pos ha'.yes,ha'.step.need,e2,e3,ha'.step.step.step.need]
 | neg a ha ih =>
   refine t3 (B:=3*Af a+1) rfl (by simp [Af,An];omega) ?_
   intro f r xs hf ha hs
   obtain ⟨g,rfl⟩:∃ g,f=g+1:=⟨f-1,by omega⟩
   have ha':At r ([45]::(Gd 3 a.kind (B9 a)++xs)):=by simpa [B9] using ha
   obtain ⟨r',h1,h2⟩:=ih.1 g r.step xs (by omega) ha'.step hs
   refine ⟨r',?_,h2⟩
   rw [C9,if_neg (by simp [ha'.good]),if_pos ha'.yes,h1]
 | two k a b hk ha hb iha ihb =>
   have hc:Af (Nd.mk k [] 0 [a,b])=1+(Af a+Af b):=by simp [Af,An]
   have sum:∀ (kk:Int) (c:UInt8),(kk=6∧c=43)∨(kk=7∧c=45)→Q3 (B9 a++[[c]]++Gd 2 b.kind (B9 b)) (.mk kk [] 0 [a,b]) (3*Af (Nd.mk k [] 0 [a,b])-2):=by
    intro kk c hkc f r xs hf ht hs hs'
    have hck:Af (Nd.mk kk [] 0 [a,b])=1+(Af a+Af b):=by simp [Af,An]
    have ha':At r (B9 a++([c]::(Gd 2 b.kind (B9 b)++xs))):=by simpa using ht
    have c1:H2 ([c]::(Gd 2 b.kind (B9 b)++xs))≠[91]:=by rcases hkc with ⟨_,rfl⟩ | ⟨_,rfl⟩<;>simp [H2]
    have c2:H2 ([c]::(Gd 2 b.kind (B9 b)++xs))≠[42]:=by rcases hkc with ⟨_,rfl⟩ | ⟨_,rfl⟩<;>simp [H2]
    obtain ⟨r1,g1,h1,h2,h3⟩:=iha.2.2 f r _ (by omega) ha' c1 c2
    obtain ⟨g,rfl⟩:∃ g,g1=g+1:=⟨g1-1,by omega⟩
    obtain ⟨r2,g2,j1,j2,j3⟩:=ihb.2.1 g r1.step xs (by omega) h3.step hs
    rw [Yl j3 hs'] at j2
    refine ⟨r2,g,by omega,?_,j3⟩
    rw [h2]
    rcases hkc with ⟨rfl,rfl⟩ | ⟨rfl,rfl⟩
    ·rw [D3,if_pos h3.yes,j2]
    ·rw [D3,if_neg (by simp [h3.no (s:=[43]) (by simp [H2])]),if_pos h3.yes,j2]
   have t1:∀ {n:Nd} {B:Nat},Ic n.kind=1→B+2≤3*Af n→Q3 (B9 n) n B→Q1 (Gd 3 n.kind (B9 n)) n (3*Af n)∧Q2 (Gd 2 n.kind (B9 n)) n (3*Af n)∧Q3 (B9 n) n (3*Af n):=by
    intro n B ht hB hq
    have e3:Gd 3 n.kind (B9 n)=[[40]]++B9 n++[[41]]:=by unfold Gd;rw [ht,if_pos (by omega)]
    have e2:Gd 2 n.kind (B9 n)=[[40]]++B9 n++[[41]]:=by unfold Gd;rw [ht,if_pos (by omega)]
    rw [e3,e2]
    exact ⟨(Arv hq).mono (by omega),(Art (Arv hq)).mono (by omega),hq.mono (by omega)⟩
   have p1:Gd 1 a.kind (B9 a)=B9 a:=by
    unfold Gd Ic
    rw [if_neg]
    split<;>(try split)<;>omega
   rcases hk with rfl | rfl | rfl
   ·refine t1 (B:=3*Af (Nd.mk 6 [] 0 [a,b])-2) rfl (by omega) ?_
    have:=sum 6 43 (.inl ⟨rfl,rfl⟩)
    simpa [B9,p1] using this
   ·refine t1 (B:=3*Af (Nd.mk 7 [] 0 [a,b])-2) rfl (by omega) ?_
    have:=sum 7 45 (.inr ⟨rfl,rfl⟩)
    simpa [B9,p1] using this
   ·have hq:Q2 (B9 (Nd.mk 8 [] 0 [a,b])) (Nd.mk 8 [] 0 [a,b]) (3*Af (Nd.mk 8 [] 0 [a,b])-2):=by
     intro f r xs hf ht hs
     have ha':At r (Gd 2 a.kind (B9 a)++([42]::(Gd 3 b.kind (B9 b)++xs))):=by simpa [B9] using ht
     obtain ⟨r1,g1,h1,h2,h3⟩:=iha.2.1 f r _ (by omega) ha' (by simp [H2])
     obtain ⟨g,rfl⟩:∃ g,g1=g+1:=⟨g1-1,by omega⟩
     obtain ⟨r2,j2,j3⟩:=ihb.1 g r1.step xs (by omega) h3.step hs
     refine ⟨r2,g,by omega,?_,j3⟩
     rw [h2,Er,if_pos h3.yes,j2]
    have e3:Gd 3 (Nd.mk 8 [] 0 [a,b]).kind (B9 (Nd.mk 8 [] 0 [a,b]))=[[40]]++B9 (Nd.mk 8 [] 0 [a,b])++[[41]]:=by exact if_pos (show Ic 8<3 by decide)
    have e2:Gd 2 (Nd.mk 8 [] 0 [a,b]).kind (B9 (Nd.mk 8 [] 0 [a,b]))=B9 (Nd.mk 8 [] 0 [a,b]):=by exact if_neg (show ¬ Ic 8<2 by decide)
    rw [e3,e2]
    exact ⟨(Arv (Aru hq)).mono (by omega),hq.mono (by omega),(Aru hq).mono (by omega)⟩
def Stop (xs:List (List UInt8)):Prop:=H2 xs≠[91]∧H2 xs≠[42]∧H2 xs≠[43]∧H2 xs≠[45]
theorem Gg {n:Nd}(h:FE n)(hc:Af n≤500){r:RS}{xs:List (List UInt8)}(ha:At r (B9 n++xs))(hs:Stop xs):∃ r',A9 r=(n,r')∧At r' xs:=by
 obtain ⟨r',g,h1,h2,h3⟩:=(Ard h).2.2 6010 r xs (by omega) ha hs.1 hs.2.1
 rw [R8 h3 hs.2.2.1 hs.2.2.2] at h2
 exact ⟨r',h2,h3⟩
theorem Aht {k:Int}(h0:11≤k)(h1:k≤16):relS (Oq k)=k:=by
 have:k=11∨k=12∨k=13∨k=14∨k=15∨k=16:=by omega
 rcases this with rfl | rfl | rfl | rfl | rfl | rfl<;>rfl
theorem Ak9 (k:Int)(xs:List (List UInt8)):Stop (Oq k::xs):=by
 have:∀ w,w∈J4→w≠[91]∧w≠[42]∧w≠[43]∧w≠[45]:=by decide
 exact this _ (Td k)
theorem Kn {n:Nd}(h:FC n)(hc:Af n≤500){r:RS}{xs:List (List UInt8)}(ha:At r (B9 n++xs))(hs:Stop xs):∃ r',B5 r=(n,r')∧At r' xs:=by
 cases h with
 | mk k a b h0 h1 fa fb =>
   have ne:¬ k=6∧¬ k=7∧¬ k=8:=by omega
   have hcc:Af (Nd.mk k [] 0 [a,b])=1+(Af a+Af b):=by simp [Af,An]
   have ha':At r (B9 a++(Oq k::(B9 b++xs))):=by simpa [B9,ne.1,ne.2.1,ne.2.2] using ha
   obtain ⟨r1,e1,a1⟩:=Gg fa (by omega) ha' (Ak9 k _)
   obtain ⟨r2,e2,a2⟩:=Gg fb (by omega) a1.step hs
   refine ⟨r2,?_,a2⟩
   have ht:r1.text=Oq k:=by rw [a1.text];rfl
   unfold B5
   rw [e1]
   simp only [ht,Aht h0 h1]
   rw [if_neg (by simp [a1.good];omega),e2]
def RdS (x:Nd):Prop:=∀ (f:Nat)(r:RS)(xs:List (List UInt8)),3*Af x≤f→Af x≤500→At r (E7 x++xs)→H2 xs≠Fc→∃ r',Bz f r=(x,r')∧At r' xs
def RdL (l:List Nd):Prop:=∀ (f:Nat)(r:RS)(acc:List Nd)(xs:List (List UInt8)),3*An l+1≤f→An l≤500→At r (Fu l++xs)→(xs=[]∨H2 xs=[125])→∃ r',Ch f acc r=(acc++l,r')∧At r' xs
def Ai1 (s:List UInt8):Prop:=nameS s=true∨s∈[Po,Dw,Ie,Dn,Fe,Fg,Ft]
theorem R3 {s:List UInt8}(h:Ai1 s):s≠[125]∧s≠Fc∧s≠Je∧s≠Da:=by
 rcases h with h | h
 ·exact ⟨Ez h _,Ez h _,Ez h _,Ez h _⟩
 ·have:∀ s,s∈[Po,Dw,Ie,Dn,Fe,Fg,Ft]→s≠[125]∧s≠Fc∧s≠Je∧s≠Da:=by decide
  exact this s h
theorem Qn {x:Nd}(h:FS x):∃ s t,E7 x=s::t∧Ai1 s:=by
 cases h with
 | set s a h ha=>exact ⟨s,_,by simp [E7];rfl,.inl h⟩
 | put s a b h ha hb=>obtain ⟨k',s',m',l'⟩:=b;exact ⟨s,_,by simp [E7];rfl,.inl h⟩
 | read s h=>exact ⟨Fe,_,by simp [E7];rfl,.inr (by simp)⟩
 | ifs c l l' hc hl hl'=>exact ⟨Po,_,by simp [E7];rfl,.inr (by simp)⟩
 | whil c l hc hl=>exact ⟨Dw,_,by simp [E7];rfl,.inr (by simp)⟩
 | for_ s a b l h ha hb hl=>obtain ⟨k',s',m',l'⟩:=b;exact ⟨Ie,_,by simp [E7];rfl,.inr (by simp)⟩
 | check c hc=>exact ⟨Dn,_,by simp [E7];rfl,.inr (by simp)⟩
 | skip=>exact ⟨Fg,_,by simp [E7];rfl,.inr (by simp)⟩
 | stop=>exact ⟨Ft,_,by simp [E7];rfl,.inr (by simp)⟩
theorem Wl {l:List Nd}(hf:∀ x,x∈l→FS x)(h:∀ x,x∈l→RdS x):RdL l:=by
 induction l with
 | nil =>
   intro f r acc xs hf hc ha hx
   have ha':At r xs:=by simpa [Fu] using ha
   refine ⟨r,?_,ha'⟩
   cases f with
   | zero=>simp [Ch]
   | succ f =>
     rw [Ch,if_neg,List.append_nil]
     rcases hx with rfl | hx
     ·simp;intro _ h;have:=ha'.ge;omega
     ·rw [ha'.text,hx];simp
 | cons x l ih =>
   intro f r acc xs hfu hc ha hx
   simp only [An] at hfu hc
   obtain ⟨g,rfl⟩:∃ g,f=g+1:=⟨f-1,by omega⟩
   have ha':At r (E7 x++(Fu l++xs)):=by simpa [Fu] using ha
   have hne:H2 (Fu l++xs)≠Fc:=by
    cases l with
    | nil =>
      simp only [Fu,List.nil_append]
      rcases hx with rfl | hx
      ·simp [H2]
      ·rw [hx];decide
    | cons y l =>
      obtain ⟨s,t,e,hb⟩:=Qn (hf y (by simp))
      simp only [Fu,e,H2]
      exact (R3 hb).2.1
   obtain ⟨r1,e1,a1⟩:=h x (by simp) g r _ (by omega) (by omega) ha' hne
   obtain ⟨r2,e2,a2⟩:=ih (fun y hy=>hf y (by simp [hy])) (fun y hy=>h y (by simp [hy])) g r1 (acc++[x]) xs (by have:=R5 x;omega) (by omega) a1 hx
   refine ⟨r2,?_,a2⟩
   obtain ⟨s,t,e,hb⟩:=Qn (hf x (by simp))
   have has:At r (s::(t++(Fu l++xs))):=by rw [e] at ha';simpa using ha'
   rw [Ch,if_pos,e1]
   ·simp only;rw [e2];simp
   ·have:=(R3 hb).1
    rw [has.text]
    simp [has.good,has.lt,H2,this]
theorem Wk {l:List Nd}(hl:RdL l){f:Nat}{r:RS}{xs:List (List UInt8)}(hf:3*An l+2≤f)(hc:An l≤500)(ha:At r ([123]::(Fu l++[125]::xs))):∃ r',Bi f r=(.mk 30 [] 0 l,r')∧At r' xs:=by
 obtain ⟨g,rfl⟩:∃ g,f=g+1:=⟨f-1,by omega⟩
 obtain ⟨r1,e1,a1⟩:=hl g r.step [] ([125]::xs) (by omega) hc ha.step (.inr rfl)
 refine ⟨r1.step,?_,a1.step⟩
 rw [Bi,ha.need,e1]
 simp [a1.need]
theorem Jv {s:List UInt8}{xs:List (List UInt8)}(h:s∈[[93],[59],[123],Ue]:=by decide):Stop (s::xs):=by
 have:∀ s,s∈[[93],[59],[123],Ue]→s≠[91]∧s≠[42]∧s≠[43]∧s≠[45]:=by decide
 exact this s h
theorem Hz {f:Nat}{r:RS}{s:List UInt8}{xs:List (List UInt8)}(ha:At r (s::xs))(h1:s≠Po)(h2:s≠Dw)(h3:s≠Ie):Bz (f+1) r=((Bp r).1,(Bp r).2.need [59]):=by
 rw [Bz,if_neg (by simp [ha.no (s:=Po) h1]),if_neg (by simp [ha.no (s:=Dw) h2]),if_neg (by simp [ha.no (s:=Ie) h3])]
theorem Ws {r:RS}{s:List UInt8}{xs:List (List UInt8)}(ha:At r (s::xs))(hn:nameS s=true):Bp r=Ly r:=by
 rw [Bp,if_neg (by simp [ha.no (s:=Dn) (Ez hn _)]),if_neg (by simp [ha.no (s:=Fe) (Ez hn _)]),if_neg (by simp [ha.no (s:=Fg) (Ez hn _)]),if_neg (by simp [ha.no (s:=Ft) (Ez hn _)])]
theorem Are {x:Nd}(h:FS x):RdS x:=by
 induction h with
 | set s a h fa =>
   intro f r xs hf hc ha _
   have hcc:Af (Nd.mk 21 s 0 [a])=1+Af a:=by simp [Af,An]
   obtain ⟨g,rfl⟩:∃ g,f=g+1:=⟨f-1,by omega⟩
   have ha':At r (s::[61]::(B9 a++[59]::xs)):=by simpa [E7] using ha
   obtain ⟨_,n2,n3⟩:=ha'.named h
   obtain ⟨r1,e1,a1⟩:=Gg fa (by omega) ha'.step.step Jv
   refine ⟨r1.step,?_,a1.step⟩
   rw [Hz ha' (Ez h _) (Ez h _) (Ez h _),Ws ha' h,Ly,n3,if_neg (by simp [ha'.step.no (s:=[91]) (by simp [H2])]),ha'.step.need,e1,n2]
   simp [a1.need]
 | put s a b h fa fb =>
   intro f r xs hf hc ha _
   have hcc:Af (Nd.mk 22 s 0 [a,b])=1+(Af a+Af b):=by simp [Af,An]
   obtain ⟨g,rfl⟩:∃ g,f=g+1:=⟨f-1,by omega⟩
   have ha':At r (s::[91]::(B9 a++[93]::[61]::(B9 b++[59]::xs))):=by
    obtain ⟨k',s',m',l'⟩:=b
    simpa [E7] using ha
   obtain ⟨_,n2,n3⟩:=ha'.named h
   obtain ⟨r1,e1,a1⟩:=Gg fa (by omega) ha'.step.step Jv
   obtain ⟨r2,e2,a2⟩:=Gg fb (by omega) a1.step.step Jv
   refine ⟨r2.step,?_,a2.step⟩
   rw [Hz ha' (Ez h _) (Ez h _) (Ez h _),Ws ha' h,Ly,n3,if_pos ha'.step.yes,e1]
   simp only
   rw [a1.need,a1.step.need,e2,n2]
   simp [a2.need]
 | read s h =>
   intro f r xs hf hc ha _
   have:=R5 (Nd.mk 23 s 0 [])
   obtain ⟨g,rfl⟩:∃ g,f=g+1:=⟨f-1,by omega⟩
   have ha':At r (Fe::s::[59]::xs):=by simpa [E7] using ha
   obtain ⟨_,n2,n3⟩:=ha'.step.named h
   refine ⟨r.step.step.step,?_,ha'.step.step.step⟩
   rw [Hz ha' (by decide) (by decide) (by decide),Bp,if_neg (by simp [ha'.no (s:=Dn) (by simp [H2])]),if_pos ha'.yes,n2,n3]
   simp [ha'.step.step.need]
 | ifs c l l' hc hl hl' ihl ihl' =>
   intro f r xs hf hcn ha hx
   have hcc:Af (Nd.mk 24 [] 0 [c,.mk 30 [] 0 l,.mk 30 [] 0 l'])=1+(Af c+(1+An l+(1+An l'))):=by simp [Af,An]
   obtain ⟨g,rfl⟩:∃ g,f=g+1:=⟨f-1,by omega⟩
   have L:=Wl hl ihl
   have L':=Wl hl' ihl'
   cases l' with
   | nil =>
     have ha':At r (Po::(B9 c++([123]::(Fu l++[125]::xs)))):=by simpa [E7] using ha
     obtain ⟨r1,e1,a1⟩:=Kn hc (by omega) ha'.step Jv
     obtain ⟨r2,e2,a2⟩:=Wk L (f:=g) (by omega) (by omega) a1
     refine ⟨r2,?_,a2⟩
     rw [Bz,if_pos ha'.yes,e1]
     simp only
     rw [e2]
     simp only
     rw [if_neg (by simp [a2.no hx])]
   | cons y l' =>
     have ha':At r (Po::(B9 c++([123]::(Fu l++[125]::(Fc::[123]::(Fu (y::l')++[125]::xs)))))):=by simpa [E7] using ha
     obtain ⟨r1,e1,a1⟩:=Kn hc (by omega) ha'.step Jv
     obtain ⟨r2,e2,a2⟩:=Wk L (f:=g) (by omega) (by omega) a1
     obtain ⟨r3,e3,a3⟩:=Wk L' (f:=g) (by omega) (by omega) a2.step
     refine ⟨r3,?_,a3⟩
     rw [Bz,if_pos ha'.yes,e1]
     simp only
     rw [e2]
     simp only
     rw [if_pos a2.yes,e3]
 | whil c l hc hl ihl =>
   intro f r xs hf hcn ha hx
   have hcc:Af (Nd.mk 25 [] 0 [c,.mk 30 [] 0 l])=1+(Af c+(1+An l)):=by simp [Af,An]
   obtain ⟨g,rfl⟩:∃ g,f=g+1:=⟨f-1,by omega⟩
   have ha':At r (Dw::(B9 c++([123]::(Fu l++[125]::xs)))):=by simpa [E7] using ha
   obtain ⟨r1,e1,a1⟩:=Kn hc (by omega) ha'.step Jv
   obtain ⟨r2,e2,a2⟩:=Wk (Wl hl ihl) (f:=g) (by omega) (by omega) a1
   refine ⟨r2,?_,a2⟩
   rw [Bz,if_neg (by simp [ha'.no (s:=Po) (by simp [H2])]),if_pos ha'.yes,e1]
   simp only
   rw [e2]
 | for_ s a b l h fa fb hl ihl =>
   intro f r xs hf hcn ha hx
   have hcc:Af (Nd.mk 26 s 0 [a,b,.mk 30 [] 0 l])=1+(Af a+(Af b+(1+An l))):=by simp [Af,An]
   obtain ⟨g,rfl⟩:∃ g,f=g+1:=⟨f-1,by omega⟩
   have ha':At r (Ie::s::Ga::(B9 a++(Ue::(B9 b++([123]::(Fu l++[125]::xs)))))):=by
    obtain ⟨k',s',m',l'⟩:=b
    simpa [E7] using ha
   obtain ⟨_,n2,n3⟩:=ha'.step.named h
   have eA:Q4 r.step=r.step.step.step:=by rw [Q4,n3,ha'.step.step.need]
   obtain ⟨r1,e1,a1⟩:=Gg fa (by omega) ha'.step.step.step Jv
   have eB:Sd r.step=r1.step:=by rw [Sd,eA,e1];exact a1.need
   obtain ⟨r2,e2,a2⟩:=Gg fb (by omega) a1.step Jv
   obtain ⟨r3,e3,a3⟩:=Wk (Wl hl ihl) (f:=g) (by omega) (by omega) a2
   refine ⟨r3,?_,a3⟩
   rw [Bz,if_neg (by simp [ha'.no (s:=Po) (by simp [H2])]),if_neg (by simp [ha'.no (s:=Dw) (by simp [H2])]),if_pos ha'.yes,eA,eB,e1,e2,n2]
   simp only
   rw [e3]
 | check c hc =>
   intro f r xs hf hcn ha _
   have hcc:Af (Nd.mk 27 [] 0 [c])=1+Af c:=by simp [Af,An]
   obtain ⟨g,rfl⟩:∃ g,f=g+1:=⟨f-1,by omega⟩
   have ha':At r (Dn::(B9 c++[59]::xs)):=by simpa [E7] using ha
   obtain ⟨r1,e1,a1⟩:=Kn hc (by omega) ha'.step Jv
   refine ⟨r1.step,?_,a1.step⟩
   rw [Hz ha' (by decide) (by decide) (by decide),Bp,if_pos ha'.yes,e1]
   simp [a1.need]
 | skip =>
   intro f r xs hf hcn ha _
   have:=R5 (Nd.mk 28 [] 0 [])
   obtain ⟨g,rfl⟩:∃ g,f=g+1:=⟨f-1,by omega⟩
   have ha':At r (Fg::[59]::xs):=by simpa [E7] using ha
   refine ⟨r.step.step,?_,ha'.step.step⟩
   rw [Hz ha' (by decide) (by decide) (by decide),Bp,if_neg (by simp [ha'.no (s:=Dn) (by simp [H2])]),if_neg (by simp [ha'.no (s:=Fe) (by simp [H2])]),if_pos ha'.yes]
   simp [ha'.step.need]
 | stop =>
   intro f r xs hf hcn ha _
   have:=R5 (Nd.mk 29 [] 0 [])
   obtain ⟨g,rfl⟩:∃ g,f=g+1:=⟨f-1,by omega⟩
   have ha':At r (Ft::[59]::xs):=by simpa [E7] using ha
   refine ⟨r.step.step,?_,ha'.step.step⟩
   rw [Hz ha' (by decide) (by decide) (by decide),Bp,if_neg (by simp [ha'.no (s:=Dn) (by simp [H2])]),if_neg (by simp [ha'.no (s:=Fe) (by simp [H2])]),if_neg (by simp [ha'.no (s:=Fg) (by simp [H2])]),if_pos ha'.yes]
   simp [ha'.step.need]
theorem Aa0 {d:Nd}(h:FV d){r:RS}{xs:List (List UInt8)}(ha:At r (E7 d++xs)):Em r=true∧(F5 r).1=d∧At ((F5 r).2.need [59]) xs:=by
 cases h with
 | var s h =>
   have ha':At r (Je::s::[59]::xs):=by simpa [E7] using ha
   obtain ⟨_,n2,n3⟩:=ha'.step.named h
   refine ⟨by simp [Em,ha'.yes],?_⟩
   rw [F5,if_pos ha'.yes,n2,n3]
   simp only
   rw [ha'.step.step.need]
   refine ⟨?_,ha'.step.step.step⟩
   first | trivial | rfl
 | arr s m h h0 h1 =>
   have ha':At r (Da::s::[91]::(if 0≤m then Ig m.toNat else [63])::[93]::[59]::xs):=by simpa [E7] using ha
   obtain ⟨_,n2,n3⟩:=ha'.step.named h
   refine ⟨by simp [Em,ha'.yes],?_⟩
   have hz:Ff r.step.step.step=(m,r.step.step.step.step):=by
    have a3:=ha'.step.step.step
    unfold Ff
    by_cases g:0≤m
    ·rw [if_pos g] at a3
     have hm:m.toNat≤1000000:=by omega
     have hk:r.step.step.step.kind=2:=by rw [a3.kind,(Lk _ hm).2]
     rw [if_pos (by simp [a3.good,hk]),a3.text]
     simp only [H2,List.headD_cons]
     rw [Kt _ hm]
     congr 1;omega
    ·rw [if_neg g] at a3
     have hk:B1 [63]≠2:=by decide
     rw [if_neg (by simp [a3.kind,hk]),a3.need]
     congr 1;omega
   rw [F5,if_neg (by simp [ha'.no (s:=Je) (by simp [H2])]),n2,n3,ha'.step.step.need,hz]
   simp only
   rw [ha'.step.step.step.step.need,ha'.step.step.step.step.step.need]
   refine ⟨?_,ha'.step.step.step.step.step.step⟩
   first | trivial | rfl
theorem Qu:∀ (ds:List Nd)(f:Nat)(acc:List Nd)(r:RS)(xs:List (List UInt8)),(∀ x,x∈ds→FV x)→ds.length≤f→At r (Fu ds++xs)→H2 xs≠Je→H2 xs≠Da→∃ r',C0 f acc r=(acc++ds,r')∧At r' xs
 | [],f,acc,r,xs,hd,hf,ha,h1,h2=>by
   have ha':At r xs:=by simpa [Fu] using ha
   refine ⟨r,?_,ha'⟩
   cases f with
   | zero=>simp [C0]
   | succ f=>rw [C0,if_neg (by simp [Em,ha'.no h1,ha'.no h2]),List.append_nil]
 | d::ds,f,acc,r,xs,hd,hf,ha,h1,h2=>by
   simp at hf
   obtain ⟨g,rfl⟩:∃ g,f=g+1:=⟨f-1,by omega⟩
   have ha':At r (E7 d++(Fu ds++xs)):=by simpa [Fu] using ha
   obtain ⟨e1,e2,a1⟩:=Aa0 (hd d (by simp)) ha'
   obtain ⟨r',e3,a2⟩:=Qu ds g (acc++[d]) _ xs (fun x hx=>hd x (by simp [hx])) (by omega) a1 h1 h2
   refine ⟨r',?_,a2⟩
   rw [C0,if_pos e1,e2,e3];simp
theorem Abx {ds l:List Nd}(hd:∀ x,x∈ds→FV x)(hl:∀ x,x∈l→FS x)(hc:An ds+An l≤500){r:RS}(ha:At r (Fu ds++Fu l)):(Cn r).1=.mk 40 [] 0 (ds++[.mk 30 [] 0 l])∧(Cn r).2.bad=false:=by
 have h12:H2 (Fu l)≠Je∧H2 (Fu l)≠Da:=by
  cases l with
  | nil=>simp [Fu,H2]
  | cons y l =>
    obtain ⟨s,t,e,hb⟩:=Qn (hl y (by simp))
    simp only [Fu,e,H2]
    exact (R3 hb).2.2
 have hdl:=Ax ds
 obtain ⟨r1,e1,a1⟩:=Qu ds 2000 [] r (Fu l) hd (by omega) ha h12.1 h12.2
 obtain ⟨r2,e2,a2⟩:=Wl hl (fun x hx=>Are (hl x hx)) 5000 r1 [] [] (by omega) (by omega) (by simpa using a1) (.inl rfl)
 have ee:r2.ends=r2:=by rw [RS.ends,if_neg (by have:=a2.ge;omega)]
 unfold Cn
 rw [e1]
 simp only
 rw [e2]
 simp only [List.nil_append]
 rw [ee]
 refine ⟨?_,a2.good⟩
 first | trivial | rfl
theorem Ads {n:Nd}(h:FP n)(hc:Af n≤500)(h0:(C5 (Gw n)).2.1=0):(C5 (Gw n)).1=n:=by
 cases h with
 | mk ds l hd hl =>
   have hcn:Af (Nd.mk 40 [] 0 (ds++[.mk 30 [] 0 l]))=1+(An ds+(1+An l)):=by simp [Af,Iz,An]
   have hw:(Bq (Gw (.mk 40 [] 0 (ds++[.mk 30 [] 0 l])))).2.1=0:=by
    unfold C5 at h0
    split at h0
    ·assumption
    ·exact h0
   have hlex:=Atl hd hl
   rw [M2 ds,← Wg ds l] at hlex
   have hws:=Ag3 hlex hw
   have hat:At (rs0 (Gw (.mk 40 [] 0 (ds++[.mk 30 [] 0 l])))) (Fu ds++Fu l):=⟨rfl,Aaf _,by simp [rs0,hws]⟩
   obtain ⟨e1,e2⟩:=Abx hd hl (by omega) hat
   unfold C5 at h0 ⊢
   rw [if_pos hw,if_neg (by simp [e2])] at h0 ⊢
   split at h0
   ·simp at h0
   ·rename_i hg
    rw [if_neg hg]
    exact e1
def Pl (k:Int)(s:List UInt8)(m:Int)(c:List (Int × Ii)):Ii :=
 if k=31 then [Je,s]
 else if k=32 then [Da,s,[91],if m=-1 then [63] else Lib.itoa m,[93]]
 else if k=21 then [s,[61]]++eW c 0
 else if k=22 then [s,[91]]++eW c 0++[[93],[61]]++eW c 1
 else if k=23 then [Fe,s]
 else if k=27 then [Dn]++eW c 0
 else if k=28 then [Fg]
 else [Ft]
def bT (b:List (List UInt8 × Bool))(i:Nat):List UInt8:=(b.getD i ([],false)).1
def bQ' (b:List (List UInt8 × Bool))(i:Nat):Bool:=(b.getD i ([],false)).2
def Ji (k:Int):Bool:=k==31||k==32||k==21||k==22||k==23||k==27||k==28||k==29
def cpT (k:Int)(s:List UInt8)(c:List (Int × Ii))(b:List (List UInt8 × Bool))(h:Nat):List UInt8 :=
 if k=24 then Cp ([Po]++eW c 0++[[123]]) h++bT b 1++(if bQ' b 2 then Cp [[125],Fc,[123]] h++bT b 2 else [])++Cp [[125]] h
 else if k=25 then Cp ([Dw]++eW c 0++[[123]]) h++bT b 1++Cp [[125]] h
 else if k=26 then Cp ([Ie,s,Ga]++eW c 0++[Ue]++eW c 1++[[123]]) h++bT b 2++Cp [[125]] h
 else Cp [] h
def Pq (k:Int)(s:List UInt8)(m:Int)(c:List (Int × Ii))(b:List (List UInt8 × Bool))(h:Nat):List UInt8 :=
 if Ji k then Cp (Pl k s m c++[[59]]) h else cpT k s c b h
mutual
def Eo:Nd→Nat→List UInt8
 | .mk k s m ks,h=>Pq k s m (A7 ks) (F7 ks h) h
def F7:List Nd→Nat→List (List UInt8 × Bool)
 | [],_=>[]
 | x::l,h=>Ts x h::F7 l h
def Ts:Nd→Nat→List UInt8 × Bool
 | .mk _ _ _ l,h=>(G2 l (h+1),!l.isEmpty)
def G2:List Nd→Nat→List UInt8
 | [],_=>[]
 | x::l,h=>Eo x h++G2 l h
end
def Qc (n:Nd):List UInt8:=G2 n.kids.dropLast 0++G2 (n.kids.getLastD B2).kids 0
def P5 (a:List UInt8):List UInt8:=if has Ia a then [] else [32]
theorem N6 {a:List UInt8}(h:has Ia a=false)(us:Ii):D6 a us=D6 [] us:=by
 have h0:has Ia []=false:=by decide
 cases us with
 | nil=>rfl
 | cons b us=>simp [D6,Np,h,h0]
structure PW (b:List UInt8):Prop where
 c:has H5 b=false
 o:has Ia b=false
 t:Gy b [32]=b
theorem PW.flat {b:List UInt8}(h:PW b)(a:List UInt8)(us:Ii):D6 a (b::us)=P5 a++(b++D6 [] us):=by
 simp only [D6,Np,h.c,h.t,N6 h.o,P5,Bool.false_or]
 split<;>simp
theorem Ah2 {c:UInt8}{l:List UInt8}(h:c≠32):Gy (c::l) [32]=c::l:=by
 have:Z7 (c::l) [32]=false:=by simp [Z7,h]
 simp [Gy,this]
theorem PW.of_kind {b:List UInt8}(h:B1 b=1∨B1 b=2):PW b:=by
 have no:∀ l:List (List UInt8),(∀ x,x∈l→B1 x≠1∧B1 x≠2)→has l b=false:=by
  intro l hl
  simp only [has,List.any_eq_false]
  intro x hx he
  have:=beq_iff_eq.1 he
  subst this
  have:=hl _ hx
  omega
 refine ⟨no _ (by decide),no _ (by decide),?_⟩
 cases b with
 | nil=>simp [Pf] at h
 | cons c l=>exact Ah2 (Vu (by rcases h with h | h<;>rw [h]<;>decide)).1
theorem PW.name {s:List UInt8}(h:nameS s=true):PW s:=.of_kind (.inl (Iv h).2)
theorem PW.num {m:Nat}(h:m≤1000000):PW (Ig m):=.of_kind (.inr (Lk m h).2)
theorem PW.of {b:List UInt8}(h:b∈([[43],[45],[42],[61],[63],[123],[125],Po,Fc,Dw,Ie,Ga,Ue,Dn,Fe,Fg,Ft,Je,Da]:Ii)++J4):PW b:=by
 have:∀ b,b∈([[43],[45],[42],[61],[63],[123],[125],Po,Fc,Dw,Ie,Ga,Ue,Dn,Fe,Fg,Ft,Je,Da]:Ii)++J4→has H5 b=false∧has Ia b=false∧Gy b [32]=b:=by decide
 obtain ⟨h1,h2,h3⟩:=this b h
 exact ⟨h1,h2,h3⟩
theorem Mt (a:List UInt8)(us:Ii):D6 a ([59]::us)=59::D6 [] us:=by
 rw [D6,N6 (by decide)];simp [Np,show has H5 [59]=true by decide,show Gy [59] [32]=[59] by decide]
theorem Zf (a:List UInt8)(us:Ii):D6 a ([93]::us)=93::D6 [] us:=by
 rw [D6,N6 (by decide)];simp [Np,show has H5 [93]=true by decide,show Gy [93] [32]=[93] by decide]
theorem Ajc (a:List UInt8)(us:Ii):D6 a ([41]::us)=41::D6 [] us:=by
 rw [D6,N6 (by decide)];simp [Np,show has H5 [41]=true by decide,show Gy [41] [32]=[41] by decide]
theorem Ze (a:List UInt8)(us:Ii):D6 a ([91]::us)=91::D6 [91] us:=by
 rw [D6];simp [Np,show has H5 [91]=true by decide,show Gy [91] [32]=[91] by decide]
theorem Aev {b t:List UInt8}(h:has H5 b=false)(ht:Gy b [32]=t)(a:List UInt8)(us:Ii):D6 a (b::us)=P5 a++(t++D6 b us):=by
 simp only [D6,Np,h,ht,P5,Bool.false_or]
 split<;>simp
def FlatP (w:Ii)(t:List UInt8):Prop:=∀ (a:List UInt8)(us:Ii),D6 a (w++us)=P5 a++(t++D6 [] us)
theorem FlatP.par {w:Ii}{t:List UInt8}(h:FlatP w t):FlatP ([[40]]++w++[[41]]) ([40]++t++[41]):=by
 intro a us
 have e:[[40]]++w++[[41]]++us=[40]::(w++([41]::us)):=by simp
 rw [e,Aev (t:=[40]) (by decide) (by decide),h,Ajc,show P5 [40]=[] by decide]
 simp
theorem FlatP.in1 {w:Ii}{t:List UInt8}(h:FlatP w t)(k:Int):FlatP (Kj true false k w) (Ih 2 k t):=by
 by_cases hk:k=6∨k=7
 ·have e1:Kj true false k w=[[40]]++w++[[41]]:=by unfold Kj;rw [if_pos (by simpa using hk)]
  have e2:Ih 2 k t=[40]++t++[41]:=by unfold Ih Ic;rw [if_pos (by simp [hk])]
  rw [e1,e2];exact h.par
 ·have e1:Kj true false k w=w:=by unfold Kj;rw [if_neg (by simpa using hk)]
  have e2:Ih 2 k t=t:=by unfold Ih Ic;rw [if_neg (by rw [if_neg hk];split<;>omega)]
  rw [e1,e2];exact h
theorem FlatP.in2 {w:Ii}{t:List UInt8}(h:FlatP w t)(k:Int):FlatP (Kj true true k w) (Ih 3 k t):=by
 by_cases hk:(k=6∨k=7)∨k=8
 ·have e1:Kj true true k w=[[40]]++w++[[41]]:=by unfold Kj;rw [if_pos (by simpa using hk)]
  have e2:Ih 3 k t=[40]++t++[41]:=by
   unfold Ih Ic
   rw [if_pos]
   rcases hk with hk | hk
   ·rw [if_pos hk];omega
   ·rw [if_neg (by omega),if_pos hk];omega
  rw [e1,e2];exact h.par
 ·have e1:Kj true true k w=w:=by unfold Kj;rw [if_neg (by simpa using hk)]
  have e2:Ih 3 k t=t:=by unfold Ih Ic;rw [if_neg (by rw [if_neg (by omega),if_neg (by omega)];omega)]
  rw [e1,e2];exact h
theorem FlatP.two {w w':Ii}{t t':List UInt8}(h:FlatP w t)(h':FlatP w' t'){c:List UInt8}(hc:PW c):FlatP (w++[c]++w') (t++[32]++c++[32]++t'):=by
 intro a us
 have e:w++[c]++w'++us=w++(c::(w'++us)):=by simp
 rw [e,h,hc.flat,h',show P5 []=[32] by decide]
 simp
theorem Vn {n:Nd}(h:FE n):FlatP (Am n) (A2 n):=by
 induction h with
 | num m h0 h1 =>
   intro a us
   have e:Am (.mk 1 [] m [])=[Ig m.toNat]:=by
    have:Lib.itoa m=Ig m.toNat:=by
     obtain ⟨u,rfl⟩:∃ u:Nat,m=u:=⟨m.toNat,by omega⟩
     rw [Lib.itoa_nonneg,Y7];rfl
    simp [Am,Dp,this]
   rw [e]
   simp only [A2,if_true,List.cons_append,List.nil_append]
   exact (PW.num (by omega)).flat a us
 | var s h =>
   intro a us
   have e:Am (.mk 2 s 0 [])=[s]:=by simp [Am,Dp]
   rw [e]
   simp only [A2,List.cons_append,List.nil_append]
   exact (PW.name h).flat a us
 | cell s x h ha ih =>
   intro a us
   have e:Am (.mk 3 s 0 [x])++us=s::[91]::(Am x++([93]::us)):=by simp [Am,Dp,A7,eW]
   rw [e,(PW.name h).flat,Ze,ih,Zf,show P5 [91]=[] by decide]
   simp [A2]
 | len s h =>
   intro a us
   have e:Am (.mk 4 s 0 [])++us=[108,101,110]::[40]::s::[41]::us:=by simp [Am,Dp]
   rw [e,Aev (t:=[108,101,110]) (by decide) (by decide),Aev (t:=[40]) (by decide) (by decide),(PW.name h).flat,Ajc,show P5 [40]=[] by decide,show P5 [108,101,110]=[] by decide]
   simp [A2]
 | neg x ha ih =>
   intro a us
   have e:Am (.mk 5 [] 0 [x])++us=[32,45]::(Kj true true x.kind (Am x)++us):=by simp [Am,Dp,A7,iW]
   rw [e,Aev (t:=[45]) (by decide) (by decide),ih.in2 x.kind,show P5 [32,45]=[] by decide]
   simp [A2]
 | two k x y hk ha hb iha ihb =>
   have p1:Ih 1 x.kind (A2 x)=A2 x:=by
    unfold Ih Ic
    rw [if_neg]
    split<;>(try split)<;>omega
   rcases hk with rfl | rfl | rfl
   ·have e:Am (.mk 6 [] 0 [x,y])=Am x++[[43]]++Kj true false y.kind (Am y):=by simp [Am,Dp,A7,iW,eW]
    have:=iha.two (ihb.in1 y.kind) (c:=[43]) (.of (by decide))
    rw [e]
    simpa [A2,p1] using this
   ·have e:Am (.mk 7 [] 0 [x,y])=Am x++[[45]]++Kj true false y.kind (Am y):=by simp [Am,Dp,A7,iW,eW]
    have:=iha.two (ihb.in1 y.kind) (c:=[45]) (.of (by decide))
    rw [e]
    simpa [A2,p1] using this
   ·have e:Am (.mk 8 [] 0 [x,y])=Kj true false x.kind (Am x)++[[42]]++Kj true true y.kind (Am y):=by simp [Am,Dp,A7,iW,eW]
    have:=(iha.in1 x.kind).two (ihb.in2 y.kind) (c:=[42]) (.of (by decide))
    rw [e]
    simpa [A2] using this
theorem Ajd {n:Nd}(h:FC n):FlatP (Am n) (A2 n):=by
 cases h with
 | mk k x y h0 h1 ha hb =>
   have ne:¬ k=1∧¬ k=2∧¬ k=3∧¬ k=4∧¬ k=5∧¬ k=6∧¬ k=7∧¬ k=8:=by omega
   obtain ⟨n1,n2,n3,n4,n5,n6,n7,n8⟩:=ne
   have e:Am (.mk k [] 0 [x,y])=Am x++[Oq k]++Am y:=by simp [Am,Dp,A7,eW,n1,n2,n3,n4,n5,n6,n7,n8,h0,h1]
   have:=(Vn ha).two (Vn hb) (c:=Oq k) (.of (List.mem_append_right _ (Td k)))
   rw [e]
   simpa [A2,n6,n7,n8] using this
theorem Rl (h:Nat):List.replicate (2*h) (32:UInt8)++[32,32]=List.replicate (2*(h+1)) 32:=by
 rw [show 2*(h+1)=2*h+2 by omega,← List.replicate_append_replicate];rfl
theorem Jz {l:List Nd}{h:Nat}{p:List UInt8}(hx:∀ x,x∈l→Eo x h=Bh x p):G2 l h=E8 l p:=by
 induction l with
 | nil=>simp [G2,E8]
 | cons x l ih=>simp [G2,E8,hx x (by simp),ih fun y hy=>hx y (by simp [hy])]
theorem Aje {b:List UInt8}(h:PW b)(us:Ii):Kr (b::us)=b++D6 [] us:=by rw [Kr,h.t,N6 h.o]
theorem Ew {a:List UInt8}:D6 a []=[]:=rfl
abbrev Akk (h:Nat):List UInt8:=List.replicate (2*h) 32
theorem Ey {b:List UInt8}(h:PW b)(us:Ii)(g:Nat):Cp (b::us) g=Akk g++(b++(D6 [] us++[10])):=by rw [Cp,Aje h];simp
theorem g0:P5 []=[32]:=by decide
theorem Tb (h:Nat):Cp [[125]] h=Akk h++[125,10]:=by
 rw [Ey (.of (by decide)),Ew];simp
theorem Aka (h:Nat):Cp [[125],Fc,[123]] h=Akk h++([125,32]++Fc++[32,123,10]):=by
 rw [Ey (.of (by decide)),(PW.of (b:=Fc) (by decide)).flat,(PW.of (b:=[123]) (by decide)).flat,Ew,g0];simp
theorem Atq {x:Nd}(hx:FV x)(h:Nat):Eo x h=Bh x (Akk h):=by
 cases hx with
 | var s hs =>
   have e:Eo (.mk 31 s 0 []) h=Cp (Je::s::[[59]]) h:=by simp [Eo,Pq,Ji,Pl]
   rw [e,Ey (.of (by decide)),(PW.name hs).flat,Mt,Ew,g0]
   simp [Bh]
 | arr s m hs h0 h1 =>
   by_cases g:0≤m
   ·have em:¬ m=-1:=by omega
    have ei:Lib.itoa m=Ig m.toNat:=by
     obtain ⟨u,rfl⟩:∃ u:Nat,m=u:=⟨m.toNat,by omega⟩
     rw [Lib.itoa_nonneg,Y7];rfl
    have e:Eo (.mk 32 s m []) h=Cp (Da::s::[91]::Ig m.toNat::[93]::[[59]]) h:=by simp [Eo,Pq,Ji,Pl,em,ei]
    rw [e,Ey (.of (by decide)),(PW.name hs).flat,Ze,(PW.num (by omega)).flat,Zf,Mt,Ew,g0,show P5 [91]=[] by decide]
    simp [Bh,g]
   ·have em:m=-1:=by omega
    have e:Eo (.mk 32 s m []) h=Cp (Da::s::[91]::[63]::[93]::[[59]]) h:=by simp [Eo,Pq,Ji,Pl,em]
    rw [e,Ey (.of (by decide)),(PW.name hs).flat,Ze,(PW.of (b:=[63]) (by decide)).flat,Zf,Mt,Ew,g0,show P5 [91]=[] by decide]
    simp [Bh,g]
theorem Asw {x:Nd}(hx:FS x):∀ h:Nat,Eo x h=Bh x (Akk h):=by
 induction hx with
 | set s a hs ha =>
   intro h
   have e:Eo (.mk 21 s 0 [a]) h=Cp (s::[61]::(Am a++[[59]])) h:=by simp [Eo,Pq,Ji,Pl,A7,eW]
   rw [e,Ey (.name hs),(PW.of (b:=[61]) (by decide)).flat,Vn ha,Mt,Ew,g0]
   simp [Bh]
 | put s a b hs ha hb =>
   intro h
   have e:Eo (.mk 22 s 0 [a,b]) h=Cp (s::[91]::(Am a++([93]::[61]::(Am b++[[59]])))) h:=by simp [Eo,Pq,Ji,Pl,A7,eW]
   rw [e,Ey (.name hs),Ze,Vn ha,Zf,(PW.of (b:=[61]) (by decide)).flat,Vn hb,Mt,Ew,g0,show P5 [91]=[] by decide]
   obtain ⟨k',s',m',l'⟩:=b
   simp [Bh]
 | read s hs =>
   intro h
   have e:Eo (.mk 23 s 0 []) h=Cp (Fe::s::[[59]]) h:=by simp [Eo,Pq,Ji,Pl]
   rw [e,Ey (.of (by decide)),(PW.name hs).flat,Mt,Ew,g0]
   simp [Bh]
 | ifs c l l' hc hl hl' ihl ihl' =>
   intro h
   have e:Eo (.mk 24 [] 0 [c,.mk 30 [] 0 l,.mk 30 [] 0 l']) h=Cp (Po::(Am c++[[123]])) h++G2 l (h+1)++(if !l'.isEmpty then Cp [[125],Fc,[123]] h++G2 l' (h+1) else [])++Cp [[125]] h:=by
    simp [Eo,Pq,Ji,cpT,A7,eW,F7,Ts,bT,bQ']
   have h1:=Jz (l:=l) (h:=h+1) fun x hx=>ihl x hx (h+1)
   have h2:=Jz (l:=l') (h:=h+1) fun x hx=>ihl' x hx (h+1)
   rw [e,h1,h2,Ey (.of (by decide)),Ajd hc,(PW.of (b:=[123]) (by decide)).flat,Ew,g0,Tb,Aka]
   cases l' with
   | nil=>simp [Bh,Rl]
   | cons y l'=>simp [Bh,Rl]
 | whil c l hc hl ihl =>
   intro h
   have e:Eo (.mk 25 [] 0 [c,.mk 30 [] 0 l]) h=Cp (Dw::(Am c++[[123]])) h++G2 l (h+1)++Cp [[125]] h:=by
    simp [Eo,Pq,Ji,cpT,A7,eW,F7,Ts,bT]
   have h1:=Jz (l:=l) (h:=h+1) fun x hx=>ihl x hx (h+1)
   rw [e,h1,Ey (.of (by decide)),Ajd hc,(PW.of (b:=[123]) (by decide)).flat,Ew,g0,Tb]
   simp [Bh,Rl]
 | for_ s a b l hs ha hb hl ihl =>
   intro h
   have e:Eo (.mk 26 s 0 [a,b,.mk 30 [] 0 l]) h=Cp (Ie::s::Ga::(Am a++(Ue::(Am b++[[123]])))) h++G2 l (h+1)++Cp [[125]] h:=by
    simp [Eo,Pq,Ji,cpT,A7,eW,F7,Ts,bT]
   have h1:=Jz (l:=l) (h:=h+1) fun x hx=>ihl x hx (h+1)
   rw [e,h1,Ey (.of (by decide)),(PW.name hs).flat,(PW.of (b:=Ga) (by decide)).flat,Vn ha,(PW.of (b:=Ue) (by decide)).flat,Vn hb,(PW.of (b:=[123]) (by decide)).flat,Ew,g0,Tb]
   obtain ⟨k',s',m',l'⟩:=b
   simp [Bh,Rl]
 | check c hc =>
   intro h
   have e:Eo (.mk 27 [] 0 [c]) h=Cp (Dn::(Am c++[[59]])) h:=by simp [Eo,Pq,Ji,Pl,A7,eW]
   rw [e,Ey (.of (by decide)),Ajd hc,Mt,Ew,g0]
   simp [Bh]
 | skip =>
   intro h
   have e:Eo (.mk 28 [] 0 []) h=Cp (Fg::[[59]]) h:=by simp [Eo,Pq,Ji,Pl]
   rw [e,Ey (.of (by decide)),Mt,Ew]
   simp [Bh]
 | stop =>
   intro h
   have e:Eo (.mk 29 [] 0 []) h=Cp (Ft::[[59]]) h:=by simp [Eo,Pq,Ji,Pl]
   rw [e,Ey (.of (by decide)),Mt,Ew]
   simp [Bh]
theorem Aby {n:Nd}(h:FP n):Qc n=Gw n:=by
 cases h with
 | mk ds l hd hl =>
   have h1:=Jz (l:=ds) (h:=0) (p:=[]) fun x hx=>Atq (hd x hx) 0
   have h2:=Jz (l:=l) (h:=0) (p:=[]) fun x hx=>Asw (hl x hx) 0
   have e1:(Nd.mk 40 [] 0 (ds++[.mk 30 [] 0 l])).kids.dropLast=ds:=by simp [Nd.kids]
   have e2:((Nd.mk 40 [] 0 (ds++[.mk 30 [] 0 l])).kids.getLastD B2).kids=l:=by simp [Nd.kids]
   rw [Qc,e1,e2,h1,h2,Wg,M2]
theorem P4 {p:Nd}:∀ {l:List Nd}{i:Nat},(∀ (j:Nat)(x:Nd),l[j]?=some x→Hl p ((i+j:Nat):Int) x.kind=true∧Bg x=true)→Cr p i l=true
 | [],i,_=>by simp [Cr]
 | x::l,i,h=>by
   have h0:=h 0 x rfl
   simp only [Nat.add_zero] at h0
   have h1:=P4 (p:=p) (l:=l) (i:=i+1) fun j y hj=>by
    have:=h (j+1) y (by simpa using hj)
    rwa [show i+(j+1)=i+1+j by omega] at this
   simp [Cr,h0.1,h0.2,h1]
theorem Ik {n:Nd}(h:FE n):Bg n=true:=by
 induction h with
 | num m h0 h1=>simp [Bg,Ex,Aw,C8,Bu,Cr,h0,h1]
 | var s h=>simp [Bg,Ex,Aw,C8,Cr,h,Ju h]
 | cell s a h ha ih =>
   have:=Bo ha
   simp [Bg,Ex,Aw,C8,Cr,Hl,Hb,Co,h,Ju h,ih]
   exact this
 | len s h=>simp [Bg,Ex,Aw,C8,Cr,h,Ju h]
 | neg a ha ih =>
   have:=Bo ha
   simp [Bg,Ex,Aw,C8,Cr,Hl,Hb,Co,ih]
   exact this
 | two k a b hk ha hb iha ihb =>
   have h1:=Bo ha
   have h2:=Bo hb
   rcases hk with rfl | rfl | rfl <;>
   ·simp [Bg,Ex,Aw,C8,Cr,Hl,Hb,Co,iha,ihb]
    exact ⟨h1,h2⟩
theorem Ry {n:Nd}(h:FC n):Bg n=true:=by
 cases h with
 | mk k a b h0 h1 ha hb =>
   have e1:=Bo ha
   have e2:=Bo hb
   have:k=11∨k=12∨k=13∨k=14∨k=15∨k=16:=by omega
   rcases this with rfl | rfl | rfl | rfl | rfl | rfl <;>
   ·simp [Bg,Ex,Aw,C8,Cr,Hl,Hb,Co,Ik ha,Ik hb]
    exact ⟨e1,e2⟩
theorem H4 {l:List Nd}(hl:∀ x,x∈l→FS x)(h:∀ x,x∈l→Bg x=true):Bg (.mk 30 [] 0 l)=true:=by
 have:=P4 (p:=.mk 30 [] 0 l) (l:=l) (i:=0) fun j x hx=>by
  have hm:=List.mem_of_getElem? hx
  have:=Alv (hl x hm)
  refine ⟨?_,h x hm⟩
  simp [Hl,Q8,Co]
  exact this
 simp [Bg,Ex,Aw,C8,this]
theorem Agb {n:Nd}(h:FS n):Bg n=true:=by
 induction h with
 | set s a h ha =>
   have:=Bo ha
   simp [Bg,Ex,Aw,C8,Cr,Hl,Hb,Co,h,Ju h,Ik ha]
   exact this
 | put s a b h ha hb =>
   have h1:=Bo ha
   have h2:=Bo hb
   simp [Bg,Ex,Aw,C8,Cr,Hl,Hb,Co,h,Ju h,Ik ha,Ik hb]
   exact ⟨h1,h2⟩
 | read s h=>simp [Bg,Ex,Aw,C8,Cr,h,Ju h]
 | ifs c l l' hc hl hl' ihl ihl' =>
   have h1:=Gk hc
   have b1:=H4 hl ihl
   have b2:=H4 hl' ihl'
   rw [Bg]
   simp [Ex,Aw,C8,Cr,Hl,M0,Co,Ry hc,b1,b2]
   exact h1
 | whil c l hc hl ihl =>
   have h1:=Gk hc
   have b1:=H4 hl ihl
   rw [Bg]
   simp [Ex,Aw,C8,Cr,Hl,M0,Co,Ry hc,b1]
   exact h1
 | for_ s a b l h ha hb hl ihl =>
   have h1:=Bo ha
   have h2:=Bo hb
   have b1:=H4 hl ihl
   rw [Bg]
   simp [Ex,Aw,C8,Cr,Hl,Hb,Co,h,Ju h,Ik ha,Ik hb,b1]
   exact ⟨h1,h2⟩
 | check c hc =>
   have h1:=Gk hc
   simp [Bg,Ex,Aw,C8,Cr,Hl,M0,Co,Ry hc]
   exact h1
 | skip=>simp [Bg,Ex,Aw,C8,Cr]
 | stop=>simp [Bg,Ex,Aw,C8,Cr]
theorem Agc {n:Nd}(h:FV n):Bg n=true:=by
 cases h with
 | var s h=>simp [Bg,Ex,Aw,C8,Cr,h,Ju h]
 | arr s m h h0 h1=>simp [Bg,Ex,Aw,C8,Cr,Bu,h,Ju h,h0,h1]
theorem Rz {n:Nd}(h:FP n):Bg n=true:=by
 cases h with
 | mk ds l hd hl =>
   have hb:=H4 hl fun x hx=>Agb (hl x hx)
   have:=P4 (p:=.mk 40 [] 0 (ds++[.mk 30 [] 0 l])) (l:=ds++[.mk 30 [] 0 l]) (i:=0) fun j x hx=>by
    rcases Nat.lt_or_ge j ds.length with hj | hj
    ·rw [List.getElem?_append_left hj] at hx
     have hm:=List.mem_of_getElem? hx
     refine ⟨?_,Agc (hd x hm)⟩
     have hk:=Uk (hd x hm)
     have e:Hl (.mk 40 [] 0 (ds++[.mk 30 [] 0 l])) ((0+j:Nat):Int) x.kind=(x.kind==31||x.kind==32):=by
      rw [Zw rfl,if_neg]
      simp [Nd.kids];omega
     rw [e];simpa using hk
    ·rw [List.getElem?_append_right hj] at hx
     have hj0:j=ds.length:=by
      have:=Aa hx
      simp at this;omega
     subst hj0
     simp at hx
     subst hx
     refine ⟨?_,hb⟩
     rw [Zw rfl,if_pos]
     ·simp [Nd.kind]
     ·simp [Nd.kids]
   simp [Bg,Ex,Aw,C8,this]
mutual
def longN:Nd→Bool
 | .mk _ s _ ks=>decide (8<s.length)||longL ks
def longL:List Nd→Bool
 | []=>false
 | x::l=>longN x||longL l
end
theorem Lt {l:List Nd}(h:∀ x,x∈l→longN x=false):longL l=false:=by
 induction l with
 | nil=>rfl
 | cons x l ih=>simp [longL,h x (by simp),ih fun y hy=>h y (by simp [hy])]
theorem J6 {n:Nd}(h:FE n):longN n=false:=by
 induction h with
 | num m h0 h1=>simp [longN,longL]
 | var s h=>simp [longN,longL,Fv h]
 | cell s a h ha ih=>simp [longN,longL,Fv h,ih]
 | len s h=>simp [longN,longL,Fv h]
 | neg a ha ih=>simp [longN,longL,ih]
 | two k a b hk ha hb iha ihb=>simp [longN,longL,iha,ihb]
theorem U5 {n:Nd}(h:FC n):longN n=false:=by
 cases h with | mk k a b h0 h1 ha hb=>simp [longN,longL,J6 ha,J6 hb]
theorem Aif {n:Nd}(h:FS n):longN n=false:=by
 induction h with
 | set s a h ha=>simp [longN,longL,Fv h,J6 ha]
 | put s a b h ha hb=>simp [longN,longL,Fv h,J6 ha,J6 hb]
 | read s h=>simp [longN,longL,Fv h]
 | ifs c l l' hc hl hl' ihl ihl'=>simp [longN,longL,U5 hc,Lt ihl,Lt ihl']
 | whil c l hc hl ihl=>simp [longN,longL,U5 hc,Lt ihl]
 | for_ s a b l h ha hb hl ihl=>simp [longN,longL,Fv h,J6 ha,J6 hb,Lt ihl]
 | check c hc=>simp [longN,longL,U5 hc]
 | skip=>simp [longN,longL]
 | stop=>simp [longN,longL]
theorem Aig {n:Nd}(h:FV n):longN n=false:=by
 cases h with
 | var s h=>simp [longN,longL,Fv h]
 | arr s m h h0 h1=>simp [longN,longL,Fv h]
theorem Aie {n:Nd}(h:FP n):longN n=false:=by
 cases h with
 | mk ds l hd hl =>
   have hb:longN (.mk 30 [] 0 l)=false:=by simp [longN,Lt fun x hx=>Aif (hl x hx)]
   have:=Lt (l:=ds++[.mk 30 [] 0 l]) fun x hx=>by
    rcases List.mem_append.1 hx with h | h
    ·exact Aig (hd x h)
    ·simp at h;subst h;exact hb
   simp [longN,this]
noncomputable def Ot (a b:Nd):Bool:=@decide (a=b) (Classical.propDecidable _)
theorem Lx {a b:Nd}:Ot a b=true↔a=b:=by unfold Ot;exact @decide_eq_true_iff _ (Classical.propDecidable _)
noncomputable def D8 (n:Nd):List UInt8 × Bool :=
 if Kc n||(n.kids.isEmpty||longN n) then ([],false)
 else (Qc n,!(Qc n==[])&&((C5 (Qc n)).2.1==0&&Ot (C5 (Qc n)).1 n))
theorem Ach {s:List UInt8}(h:(C5 s).2.1=0):s.length≤4000:=by
 have hw:(Bq s).2.1=0:=by
  unfold C5 at h
  split at h
  ·assumption
  ·exact h
 unfold Bq at hw
 split at hw
 ·simp at hw
 ·omega
theorem Adu (n:Nd):(D8 n).2=B7 n∧(B7 n=true→(D8 n).1=Gw n):=by
 have key:B7 n=true→D8 n=(Gw n,true):=by
  intro h
  have hf:=Nc h
  obtain ⟨fp,hc,hd⟩:=hf
  have hp:=Aby fp
  simp only [B7,Bool.and_eq_true,beq_iff_eq,Bool.not_eq_true',decide_eq_true_eq] at h
  obtain ⟨_,⟨h1,h2⟩,h3⟩:=h
  have hb:=Ads fp hc h3
  have hk:n.kids.isEmpty=false:=by cases fp with | mk ds l hd hl=>simp [Nd.kids]
  have hl:Kc n=false:=by simp [Kc];omega
  unfold D8
  rw [if_neg (by simp [hk,hl,Aie fp]),hp,hb,h1]
  simp [h3,Lx]
 refine ⟨?_,fun h=>by rw [key h]⟩
 cases hs:B7 n with
 | true=>rw [key hs]
 | false =>
   cases hp:(D8 n).2 with
   | false=>rfl
   | true =>
     exfalso
     unfold D8 at hp
     split at hp
     ·simp at hp
     ·simp only [Bool.and_eq_true,beq_iff_eq,Bool.not_eq_true',Lx] at hp
      obtain ⟨h1,h2,h3⟩:=hp
      obtain ⟨fp,hc,hd⟩:=Abu h2
      have hl:=Ach h2
      rw [h3] at fp hc hd
      rw [Aby fp] at h1 h2 hl
      have hk:n.kind=40:=by cases fp;rfl
      have:B7 n=true:=by simp [B7,hk,Nk,hc,hd,Rz fp,h1,hl,h2]
      rw [this] at hs;cases hs
end Go.V
namespace Go.V
open Go
section
variable {X:Cx}{B:Bx}{E:Env}{S:St}{w:World}{F:Bs}{R:AE→St→Prop}
theorem Inv.wkB (hI:Inv X E S w){b r j:Nat}{rows:List (List AV)}{cs:List AV}{x y:AV}(hb:S.boxes[b]?=some rows)(hr:rows[r]?=some cs)(hc:cs[j]?=some x)(hw:Ren true [] [] x y) :
 Inv X E ⟨S.boxes.set b (rows.set r (cs.set j y)),S.toks⟩ w:=by
 refine hI.recell hb (by simp) (fun q hq=>?_) fun blk sz arr te hB hh k q p z v hk hp hv=>?_
 ·rcases List.mem_or_eq_of_mem_set hq with hq | rfl
  ·exact ⟨q,hq,rfl⟩
  ·exact ⟨cs,List.mem_of_getElem? hr,by simp⟩
 ·obtain ⟨arr',e,hh',hs,hl,hrel⟩:=hI.box b blk sz rows hB hb
  rw [hh] at hh';cases hh'
  rcases Cv hk with ⟨rfl,rfl⟩ | ⟨_,hk⟩
  ·rcases Cv hp with ⟨rfl,rfl⟩ | ⟨_,hp⟩
   ·exact hw.less (hrel _ cs _ x v hr hc hv)
   ·exact hrel _ cs p z v hr hp hv
  ·exact hrel k q p z v hk hp hv
theorem AK.wkB {K:List Item}(b r j:Nat){rows:List (List AV)}{cs:List AV}{x:AV}(y:AV){bx:List (List (List AV))}(hk:AK X B K F ⟨bx,S.toks⟩ R)(hb:S.boxes[b]?=some rows:=by rfl)(hr:rows[r]?=some cs:=by rfl)(hc:cs[j]?=some x:=by rfl)
 (hbx:S.boxes.set b (rows.set r (cs.set j y))=bx:=by rfl) [hw:RinC [] [] x y]:AK X B K F S R:=by
 subst hbx
 intro E w a b' cs' hI hF hn hm hb'
 exact hk E w a b' cs' (hI.wkB hb hr hc hw.s) hF (by simpa using hn) hm hb'
theorem AK.mintAll {K:List Item}(b n m:Nat){bx:List (List (List AV))}{tk:List Nat}(hb:S.boxes[b]?=some (List.replicate n [.sl [] .tight]))(hm:S.toks.length=m)
 (hbx:S.boxes.set b ((List.range n).map fun i=>[.sl [] (.tok (m+i))])=bx)(htk:S.toks++List.replicate n 0=tk)(hk:AK X B K F ⟨bx,tk⟩ R):AK X B K F S R:=by
 subst hm;subst hbx;subst htk
 have rowsK:∀ k,k≤n→((List.range k).map fun i=>[AV.sl [] (.tok (S.toks.length+i))]).length=k:=fun k _=>by simp
 have key:∀ q k,q+k=n→AK X B K F ⟨S.boxes.set b (((List.range k).map fun i=>[AV.sl [] (.tok (S.toks.length+i))])++List.replicate q [.sl [] .tight]),S.toks++List.replicate k 0⟩ R:=by
  intro q
  induction q with
  | zero =>
    intro k hk'
    have:k=n:=by omega
    subst this
    simpa using hk
  | succ q ih =>
    intro k hk'
    have hlt:b<S.boxes.length:=Aa hb
    have h1:=ih (k+1) (by omega)
    refine AK.mintB (m:=S.toks.length+k) b k 0 (rows:=((List.range k).map fun i=>[AV.sl [] (.tok (S.toks.length+i))])++List.replicate (q+1) [.sl [] .tight]) (cs:=[.sl [] .tight]) (sl:=[]) ?_ ?_ rfl ?_ ?_ ?_ h1
    ·simp [hlt]
    ·rw [List.getElem?_append_right (by simp)];simp [List.getElem?_replicate]
    ·simp
    ·simp only [List.set_set]
     congr 1
     rw [List.set_append_right _ _ (by simp),List.range_succ]
     simp [List.replicate_succ]
    ·simp [List.replicate_succ']
 have h0:=key n 0 (by omega)
 have e:S.boxes.set b (List.replicate n [.sl [] .tight])=S.boxes:=by
  apply List.ext_getElem?
  intro i
  by_cases hi:b=i
  ·subst hi
   have:=Aa hb
   rw [List.getElem?_set_self this,hb]
  ·rw [List.getElem?_set_ne hi]
 simp only [List.range_zero,List.map_nil,List.nil_append,List.replicate_zero,List.append_nil] at h0
 rw [e] at h0
 exact h0
instance (priority:=low){bx:List (List (List AV))}{tk:List Nat}{n m b:Nat}{cs cs':List AV} [h1:BoxC bx b [cs]] [h2:LeC n b] [h4:FzLC ⟨bx,tk⟩ n m cs cs']:FzC ⟨bx,tk⟩ n m (.ptr b 0 0) (.cptr cs') :=
 ⟨.ptr b 0 0 [cs] cs cs' h2.h h1.h rfl (by simpa using h4.s.get.1) (fun j x y hx hy=>h4.s.get.2 j x y (by simpa using hx) hy)⟩
end
end Go.V
namespace Go.V
open Go Go.Proofs
theorem Yn (s p:List UInt8):(Gy s p).length≤s.length:=by unfold Gy;split<;>simp
theorem Aji (a b:List UInt8):(Np a b).length≤1:=by unfold Np;split<;>simp
theorem Xr:∀ (ws:Ii)(a:List UInt8),(∀ w,w∈ws→w.length≤21)→(D6 a ws).length≤22*ws.length
 | [],a,_=>by simp [D6]
 | b::ws,a,h=>by
   have h1:=Xr ws b fun w hw=>h w (by simp [hw])
   have h2:=Aji a b
   have h3:=Yn b [32]
   have h4:=h b (by simp)
   simp only [D6,List.length_append,List.length_cons];omega
def T7 (ws:Ii):Prop:=∀ w,w∈ws→w.length≤21
theorem Agv (ws:Ii)(h:T7 ws):(Kr ws).length≤22*ws.length:=by
 cases ws with
 | nil=>simp [Kr]
 | cons b ws =>
   have h1:=Xr ws b fun w hw=>h w (by simp [hw])
   have h3:=Yn b [32]
   have h4:=h b (by simp)
   simp only [Kr,List.length_append,List.length_cons];omega
theorem A6 {a b:Ii}(ha:T7 a)(hb:T7 b):T7 (a++b):=fun w hw=>(List.mem_append.1 hw).elim (ha w) (hb w)
theorem A0 {a:List UInt8}(h:a.length≤21):T7 [a]:=fun w hw=>by simp at hw;subst hw;exact h
theorem Cy {a:List UInt8}{l:Ii}(h:a.length≤21)(hl:T7 l):T7 (a::l):=fun w hw=>by
 rcases List.mem_cons.1 hw with rfl | hw
 ·exact h
 ·exact hl w hw
theorem Z2:T7 []:=fun w hw=>by cases hw
theorem Du (ws:Ii)(h:Nat)(hw:T7 ws):(Cp ws h).length≤2*h+22*ws.length+1:=by
 have:=Agv ws hw
 simp [Cp];omega
theorem PrN.get {n:Nd}(h:PrN n):n.name.length≤8∧-9223372036854775808≤n.num∧n.num≤9223372036854775807∧∀ x,x∈n.kids→PrN x:=by
 cases h with | mk k s m ks hs h0 h1 hk=>exact ⟨hs,h0,h1,hk⟩
theorem Ae8 {m:Int}(h0:-9223372036854775808≤m)(h1:m≤9223372036854775807):(Lib.itoa m).length≤21:=Lib.itoa_length_le m h0 h1
theorem Aoh (k:Int):(Oq k).length≤21:=by have:=Wn k;omega
theorem Aqn {a b:Bool}{k:Int}{w:Ii}(h:T7 w):T7 (Kj a b k w):=by
 unfold Kj
 split
 ·exact A6 (A6 (A0 (by simp)) h) (A0 (by simp))
 ·exact h
theorem Qz (n:Nd)(h:PrN n):T7 (Am n):=by
 induction n using Nd.ind with
 | h n ih =>
   obtain ⟨hs,h0,h1,hk⟩:=h.get
   have K:∀ i,T7 (Am (A5 n i)):=fun i=>by
    rcases Ir n i with h | h
    ·exact ih _ h (hk _ h)
    ·rw [h,Xq];exact Z2
   have E:∀ i,T7 (eW (A7 n.kids) i):=fun i=>by rw [Dl];exact K i
   have I:∀ i a b,T7 (iW (A7 n.kids) i a b):=fun i a b=>by rw [Se];exact Aqn (K i)
   rw [Vm]
   unfold Dp
   repeat' split
   ·exact A0 (Ae8 h0 h1)
   ·exact A0 (by omega)
   ·exact A6 (A6 (Cy (by omega) (A0 (by simp))) (E 0)) (A0 (by simp))
   ·exact Cy (by simp) (Cy (by simp) (Cy (by omega) (A0 (by simp))))
   ·exact A6 (A0 (by simp)) (I 0 _ _)
   ·exact A6 (A6 (E 0) (A0 (by simp))) (I 1 _ _)
   ·exact A6 (A6 (E 0) (A0 (by simp))) (I 1 _ _)
   ·exact A6 (A6 (I 0 _ _) (A0 (by simp))) (I 1 _ _)
   ·exact A6 (A6 (E 0) (A0 (Aoh _))) (E 1)
   ·exact Z2
theorem Xx (l:List Nd)(h:Nat):F7 l h=l.map fun x=>Ts x h:=by
 induction l with
 | nil=>simp [F7]
 | cons x l ih=>simp [F7,ih]
theorem Vg (n:Nd)(h:Nat):Ts n h=(G2 n.kids (h+1),!n.kids.isEmpty):=by cases n;simp [Ts,Nd.kids]
theorem Aek (n:Nd)(h i:Nat):bT (F7 n.kids h) i=G2 (A5 n i).kids (h+1)∧bQ' (F7 n.kids h) i=!(A5 n i).kids.isEmpty:=by
 have:(F7 n.kids h).getD i ([],false)=Ts (A5 n i) h:=by
  rw [Xx]
  unfold A5
  cases hx:n.kids[i]? with
  | none=>simp [List.getD,hx,Vg,B2,G2]
  | some x=>simp [List.getD,hx]
 rw [bT,bQ',this,Vg];exact ⟨rfl,rfl⟩
theorem Afh (n:Nd)(h:Nat):Eo n h=Pq n.kind n.name n.num (A7 n.kids) (F7 n.kids h) h:=by cases n;simp [Eo,Nd.kind,Nd.name,Nd.num,Nd.kids]
theorem Ak8 (n:Nd)(h:PrN n):T7 (Pl n.kind n.name n.num (A7 n.kids)):=by
 obtain ⟨hs,h0,h1,hk⟩:=h.get
 have E:∀ i,T7 (eW (A7 n.kids) i):=fun i=>by rw [Dl];exact Qz _ (h.kid i)
 unfold Pl
 repeat' split
 ·exact Cy (by simp) (A0 (by omega))
 ·exact Cy (by simp) (Cy (by omega) (Cy (by simp) (Cy (by simp) (A0 (by simp)))))
 ·exact Cy (by simp) (Cy (by omega) (Cy (by simp) (Cy (Ae8 h0 h1) (A0 (by simp)))))
 ·exact A6 (Cy (by omega) (A0 (by simp))) (E 0)
 ·exact A6 (A6 (A6 (Cy (by omega) (A0 (by simp))) (E 0)) (Cy (by simp) (A0 (by simp)))) (E 1)
 ·exact Cy (by simp) (A0 (by omega))
 ·exact A6 (A0 (by simp)) (E 0)
 ·exact A0 (by simp)
 ·exact A0 (by simp)
theorem Za (ks:List Nd):(eW (A7 ks) 0).length+(eW (A7 ks) 1).length≤8*An ks:=by
 have:=(Abe ks fun x _=>Xp x).1
 omega
theorem Aoo (n:Nd):(Pl n.kind n.name n.num (A7 n.kids)).length≤8*An n.kids+5:=by
 have:=Za n.kids
 unfold Pl
 repeat' split
 all_goals simp
 all_goals omega
theorem Z3 {l:List Nd}{h:Nat}(hx:∀ x,x∈l→(Eo x h).length≤1000*Af x):(G2 l h).length≤1000*An l:=by
 induction l with
 | nil=>simp [G2]
 | cons x l ih =>
   have h1:=hx x (by simp)
   have h2:=ih fun y hy=>hx y (by simp [hy])
   simp only [G2,An,List.length_append];omega
def cK (ks:List Nd)(i:Nat):Nat:=match ks[i]? with
 | some x=>Af x
 | none=>0
theorem Apx (ks:List Nd):cK ks 0+cK ks 1+cK ks 2≤An ks:=by
 match ks with
 | []=>simp [cK]
 | [a]=>simp [cK,An]
 | [a,b]=>simp [cK,An]
 | a::b::c::l=>simp [cK,An];omega
theorem Ao8 (ks:List Nd)(i:Nat):(eW (A7 ks) i).length≤8*cK ks i:=by
 rw [eW,Xz]
 unfold cK
 cases hx:ks[i]? with
 | none=>simp [List.getD,hx]
 | some x=>have:=Xp x;simp [List.getD,hx];omega
theorem Ash (ks:List Nd)(h i:Nat)(hx:∀ y,y∈ks→∀ x,x∈y.kids→(Eo x (h+1)).length≤1000*Af x):(bT (F7 ks h) i).length≤1000*cK ks i:=by
 rw [bT,Xx]
 unfold cK
 cases hy:ks[i]? with
 | none=>simp [List.getD,hy]
 | some y =>
   have:=Z3 (hx y (List.mem_of_getElem? hy))
   have:=Be y
   simp [List.getD,hy,Vg];omega
theorem Afi (n:Nd):∀ h:Nat,PrN n→h+B0 n≤60→(Eo n h).length≤1000*Af n:=by
 have:∀ n:Nd,(∀ h:Nat,PrN n→h+B0 n≤60→(Eo n h).length≤1000*Af n)∧∀ y,y∈n.kids→∀ h:Nat,PrN y→h+B0 y≤60→(Eo y h).length≤1000*Af y:=by
  intro n
  induction n using Nd.ind with
  | h n ih =>
    refine ⟨fun h hp hd=>?_,fun y hy=>(ih y hy).1⟩
    have hdn:=Gn n
    have hcn:=Be n
    have hb:=fun i=>Ash n.kids h i fun y hy x hx=>(ih y hy).2 x hx (h+1) ((hp.get.2.2.2 y hy).get.2.2.2 x hx) (by
     have h1:=Dz hy
     have h2:=Dz hx
     have h3:=Gn y
     omega)
    have he:=Za n.kids
    have b1:=hb 1
    have b2:=hb 2
    have e0:=Ao8 n.kids 0
    have e1:=Ao8 n.kids 1
    have cs:=Apx n.kids
    have E:∀ i,T7 (eW (A7 n.kids) i):=fun i=>by rw [Dl];exact Qz _ (hp.kid i)
    have hs:=hp.get.1
    rw [Afh]
    unfold Pq
    split
    ·have h1:=Du (Pl n.kind n.name n.num (A7 n.kids)++[[59]]) h (A6 (Ak8 n hp) (A0 (by simp)))
     have h2:=Aoo n
     simp at h1;omega
    ·have l1:=Du [[125]] h (A0 (by simp))
     have l2:=Du [[125],Fc,[123]] h (Cy (by simp) (Cy (by simp) (A0 (by simp))))
     have l0:=Du [] h Z2
     have a1:=Du ([Po]++eW (A7 n.kids) 0++[[123]]) h (A6 (A6 (A0 (by simp)) (E 0)) (A0 (by simp)))
     have a2:=Du ([Dw]++eW (A7 n.kids) 0++[[123]]) h (A6 (A6 (A0 (by simp)) (E 0)) (A0 (by simp)))
     have a3:=Du ([Ie,n.name,Ga]++eW (A7 n.kids) 0++[Ue]++eW (A7 n.kids) 1++[[123]]) h
      (A6 (A6 (A6 (A6 (Cy (by simp) (Cy (by omega) (A0 (by simp)))) (E 0)) (A0 (by simp))) (E 1)) (A0 (by simp)))
     simp at l1 l2 l0 a1 a2 a3
     unfold cpT
     repeat' split
     all_goals simp
     all_goals omega
 exact (this n).1
abbrev bK (A:AV)(s:List UInt8)(ws:Ii)(h:Int):List AV:=[A,.buf 5 s 0,.sl (B4 ws) (.tok 2),vi h]
def HS (x:Nd):Prop:=∀ (b:Bool)(s:List UInt8)(h:Nat),h+B0 x≤60→s.length+(Eo x h).length≤1000000000 →
 Hands X 266 [.ptr 0 0 0,nd x] ⟨[[bN (Jg 312 0 b) s h]],[s.length]⟩ (.tup []) ⟨[[bN (.ptr 0 0 0) (s++Eo x h) h]],[(s++Eo x h).length]⟩
def Jm (x:Nd)(ws:Ii)(h:Nat):List UInt8:=Cp (ws++[[123]]) h++G2 x.kids (h+1)
def HBk (x:Nd):Prop:=∀ (b:Bool)(s:List UInt8)(ws:Ii)(h:Nat),h+B0 x≤60→T7 ws→ws.length≤900000→s.length+(Jm x ws h).length≤1000000000 →
 Hands X 315 [.ptr 0 0 0,nd x] ⟨[[bP (Jg 312 0 b) s ws h]],[s.length,ws.length]⟩ (.tup [])
  ⟨[[bK (.ptr 0 0 0) (s++Jm x ws h) [[125]] h]],[(s++Jm x ws h).length,(ws++[[123]]).length,1]⟩
theorem PutC.f {r:List (List AV)}{xs:Ii}(hp:PutC r xs)(s:List UInt8)(ws:Ii)(h:Int)(hw:ws.length≤1000000000) :
 Hands X 294 [.ptr 0 0 0,.sl r .no] ⟨[[bP (.ptr 0 0 0) s ws h]],[s.length,ws.length]⟩ (.tup []) ⟨[[bP (.ptr 0 0 0) s (ws++xs) h]],[s.length,(ws++xs).length]⟩:=hp false s ws h hw
theorem PutC.n {r:List (List AV)}{xs:Ii}(hp:PutC r xs)(b:Bool)(s:List UInt8)(h:Int) :
 Hands X 294 [.ptr 0 0 0,.sl r .no] ⟨[[[Jg 312 0 b,.buf 5 s 0,.sl [] (.tok 1),vi h]]],[s.length,0]⟩ (.tup []) ⟨[[bP (Jg 312 0 b) s xs h]],[s.length,xs.length]⟩:=hp b s [] h (by simp)
theorem PutC.m {r:List (List AV)}{xs:Ii}(hp:PutC r xs)(s:List UInt8)(h:Int) :
 Hands X 294 [.ptr 0 0 0,.sl r .no] ⟨[[[.ptr 0 0 0,.buf 5 s 0,.sl [] (.tok 1),vi h]]],[s.length,0]⟩ (.tup []) ⟨[[bP (.ptr 0 0 0) s xs h]],[s.length,xs.length]⟩:=hp false s [] h (by simp)
theorem Ao5 (b:Bool)(s:List UInt8)(h:Int):RinB [0] [0] [[bN (Jg 312 0 b) s h]] [[bN (Jg 312 0 b) s h]] :=
 have h1:RinC [0] [0] (Jg 312 0 b) (Jg 312 0 b):=inferInstance
 have h2:RinC [0] [0] (.buf 5 s 0) (.buf 5 s 0):=inferInstance
 have h3:Ren true [0] [0] (.sl [] .tight) (.sl [] .tight):=R0 .nil (.inr (.inr (.inr (.inl ⟨rfl,rfl⟩))))
 have h4:RinC [0] [0] (vi h) (vi h):=inferInstance
 ⟨.cons (.cons (.cons h1.s (.cons h2.s (.cons h3 (.cons h4.s .nil)))) .nil) .nil⟩
theorem Asg (s:List UInt8)(h:Int):RinB [0] [0] [[bN (.ptr 0 0 0) s h]] [[bN (.ptr 0 0 0) s h]]:=Ao5 false s h
theorem HS.f {x:Nd}(hx:HS x)(s:List UInt8)(h:Nat)(hd:h+B0 x≤60)(hl:s.length+(Eo x h).length≤1000000000) :
 Hands X 266 [.ptr 0 0 0,nd x] ⟨[[bN (.ptr 0 0 0) s h]],[s.length]⟩ (.tup []) ⟨[[bN (.ptr 0 0 0) (s++Eo x h) h]],[(s++Eo x h).length]⟩:=hx false s h hd hl
theorem HBk.f {x:Nd}(hx:HBk x)(s:List UInt8)(ws:Ii)(h:Nat)(hd:h+B0 x≤60)(hw:T7 ws)(hwl:ws.length≤900000)(hl:s.length+(Jm x ws h).length≤1000000000) :
 Hands X 315 [.ptr 0 0 0,nd x] ⟨[[bP (.ptr 0 0 0) s ws h]],[s.length,ws.length]⟩ (.tup [])
  ⟨[[bK (.ptr 0 0 0) (s++Jm x ws h) [[125]] h]],[(s++Jm x ws h).length,(ws++[[123]]).length,1]⟩:=hx false s ws h hd hw hwl hl
theorem En (ws:Ii)(h:Nat):(Cp ws h).length=2*h+(Kr ws).length+1:=by simp [Cp];omega
theorem Oi {ws:Ii}(h:T7 ws):∀ x,x∈ws→x.length≤1000000:=fun x hx=>by have:=h x hx;omega
theorem Ae2 (x:Nd)(hy:∀ y,y∈x.kids→HS y)(hl:x.kids.length≤100000):HBk x:=by
 intro b s ws h hd hw hwl hb
 have dx:=Gn x
 have e1:(Jm x ws h).length=(Cp (ws++[[123]]) h).length+(G2 x.kids (h+1)).length:=by simp [Jm]
 have e2:=En (ws++[[123]]) h
 have hi1:IntKind.i64.wrap ((h:Int)+1)=((h+1:Nat):Int):=(Ac (by omega) (by omega)).trans (by omega)
 have hi2:IntKind.i64.wrap (((h+1:Nat):Int)-1)=(h:Int):=(Ac (by omega) (by omega)).trans (by omega)
 refine Hands.run (n:=1) (m:=2) Tryz.func315 ?_
 refine AK.hc (τ':=[0,1]) [0] [0,1] (Fy [123] b s ws h (by omega)) ?_
 refine AK.hc (τ':=[0]) [0] [0] (Kb b s (ws++[[123]]) h (by omega) (by simp<;>omega) (by omega) (by omega) (Oi (A6 hw (A0 (by simp))))) ?_
 refine AK.sto ⟨[[bN (.ptr 0 0 0) (s++Cp (ws++[[123]]) h) ((h+1:Nat):Int)],[Ae x]],[(s++Cp (ws++[[123]]) h).length,(ws++[[123]]).length]⟩ ?_ (by rw [← hi1]<;>rfl)
 refine AK.while_ (ι:=Nat × List UInt8) 2 2 (fun i=>i.1≤x.kids.length∧i.2++G2 (x.kids.drop i.1) (h+1)=s++Jm x ws h) (fun i=>[(21,vi i.1),(20,vi x.kids.length),(19,.sl (Ai x.kids) .no),(0,.ptr 0 0 0)])
  (fun i=>⟨[[bN (.ptr 0 0 0) i.2 ((h+1:Nat):Int)],[Ae x]],[i.2.length,(ws++[[123]]).length]⟩) (fun i=>x.kids.length-i.1) ?_ (0,s++Cp (ws++[[123]]) h) ⟨Nat.zero_le _,by simp [Jm]⟩ ⟨rfl,by rw [← Ad];rfl,rfl,rfl,trivial⟩ rfl rfl rfl rfl rfl
  (fun _=>inferInstance) (fun _=>inferInstance)
 rintro ⟨i,out⟩ ⟨hi,hT⟩ IH
 simp only at hi hT IH ⊢
 have hol:=congrArg List.length hT
 simp only [List.length_append] at hol
 refine AK.ei (fun h1=>?_) (fun h1=>?_)
 ·have hlt:i<x.kids.length:=by have:=of_decide_eq_true h1;omega
  obtain ⟨y,hyi⟩:=Ab x.kids hlt
  have hmem:=List.mem_of_getElem? hyi
  have hdr:=Ba hyi
  rw [hdr] at hT hol
  simp only [G2,List.length_append] at hT hol
  refine AK.ix i (by omega) (Al hyi) ?_
  refine AK.hc (hb:=Asg out ((h+1:Nat):Int)) (τ':=[0]) [0] [0] ((hy y hmem).f out (h+1) (by have:=Dz hmem;omega) (by omega)) ?_
  exact IH (i+1,out++Eo y (h+1)) ⟨hlt,by simpa using hT⟩ (by simp only;omega) _ _ ⟨vsx (by omega),rfl,rfl,rfl,trivial⟩ rfl rfl rfl
 ·have hie:i=x.kids.length:=by have:=of_decide_eq_false h1;omega
  subst hie
  rw [List.drop_eq_nil_of_le (Nat.le_refl _)] at hT
  simp only [G2,List.append_nil] at hT
  subst hT
  refine AK.sto ⟨[[bN (.ptr 0 0 0) (s++Jm x ws h) h],[Ae x]],[(s++Jm x ws h).length,(ws++[[123]]).length]⟩ ?_ (by rw [← hi2]<;>rfl)
  refine AK.mintB 0 0 2 (bx:=[[[.ptr 0 0 0,.buf 5 (s++Jm x ws h) 0,.sl [] (.tok 2),vi h]],[Ae x]]) (tk:=[(s++Jm x ws h).length,(ws++[[123]]).length,0]) rfl rfl rfl rfl rfl rfl ?_
  refine AK.hc (τ':=[0,2]) [0] [0,2] ((Fy [125]).m (s++Jm x ws h) h) ?_
  exact AK.fb Tryz.func315 rfl rfl
def cpP (k:Int)(s:List UInt8)(c:List (Int × Ii))(b:List (List UInt8 × Bool))(h:Nat):List UInt8 :=
 if k=24 then Cp ([Po]++eW c 0++[[123]]) h++bT b 1++(if bQ' b 2 then Cp [[125],Fc,[123]] h++bT b 2 else [])
 else if k=25 then Cp ([Dw]++eW c 0++[[123]]) h++bT b 1
 else if k=26 then Cp ([Ie,s,Ga]++eW c 0++[Ue]++eW c 1++[[123]]) h++bT b 2
 else []
def cpW (k:Int):Ii:=if k=24 then [[125]] else if k=25 then [[125]] else if k=26 then [[125]] else []
def cpB (k:Int)(b:Bool):Bool:=if k=24 then false else if k=25 then false else if k=26 then false else b
theorem Ap6 (k:Int)(s:List UInt8)(c:List (Int × Ii))(b:List (List UInt8 × Bool))(h:Nat):cpT k s c b h=cpP k s c b h++Cp (cpW k) h:=by
 unfold cpT cpP cpW
 repeat' split
 all_goals simp
theorem Y4 (n:Nd)(h i:Nat):bT (F7 n.kids h) i=G2 (A5 n i).kids (h+1):=(Aek n h i).1
theorem Apr (n:Nd)(h i:Nat):bQ' (F7 n.kids h) i=!(A5 n i).kids.isEmpty:=(Aek n h i).2
theorem Xw (n:Nd)(i:Nat){h:Nat}(hd:h+B0 n≤60):h+B0 (A5 n i)≤60:=by
 have:=Gn n
 rcases Ir n i with h | h
 ·have:=Dz h;omega
 ·rw [h];show _+1≤60;omega
set_option maxHeartbeats 2000000 in
theorem Adb (n:Nd)(hp:PrN n)(hsz:Af n≤1000)(hk:∀ i,HBk (A5 n i))(b:Bool)(s:List UInt8)(h:Nat)(hd:h+B0 n≤60)(hl:s.length+(cpP n.kind n.name (A7 n.kids) (F7 n.kids h) h).length≤1000000000) :
 Hands X 298 [.ptr 0 0 0,nd n] ⟨[[bN (Jg 312 0 b) s h]],[s.length]⟩ (.tup [])
  ⟨[[bQ (Jg 312 0 (cpB n.kind b)) (s++cpP n.kind n.name (A7 n.kids) (F7 n.kids h) h) (cpW n.kind) h]],[(s++cpP n.kind n.name (A7 n.kids) (F7 n.kids h) h).length]⟩:=by
 have hkl:n.kids.length≤4000000000:=by have:=Ax n.kids;have:=Be n;omega
 have q0:=Wi n 0 (by omega) hkl
 have q1:=Wi n 1 (by omega) hkl
 have q2:=Wi n 2 (by omega) hkl
 have e0:=Zq (A5 n 0) (hp.kid 0)
 have e1:=Zq (A5 n 1) (hp.kid 1)
 have w0:=Qz (A5 n 0) (hp.kid 0)
 have w1:=Qz (A5 n 1) (hp.kid 1)
 have he:=Za n.kids
 have hcn:=Be n
 rw [Dl,Dl] at he
 have kc:∀ i,Af (A5 n i)≤1000:=fun i=>by
  rcases Ir n i with h | h
  ·have:=Cw h;omega
  ·rw [h];decide
 have c0:=kc 0
 have c1:=kc 1
 have d1:=Xw n 1 hd
 have d2:=Xw n 2 hd
 have hs8:=hp.get.1
 refine Hands.run (n:=1) (m:=1) Tryz.func298 ?_
 refine AK.if_ (fun h1=>?_) (fun h1=>?_)
 ·have h1':n.kind=24:=by simpa using h1
  have hB:cpB n.kind b=false:=by unfold cpB;rw [if_pos h1']
  have hW:cpW n.kind=[[125]]:=by unfold cpW;rw [if_pos h1']
  have hP:cpP n.kind n.name (A7 n.kids) (F7 n.kids h) h=Jm (A5 n 1) ([Po]++Am (A5 n 0)) h++(if !(A5 n 2).kids.isEmpty then Jm (A5 n 2) ([[125]]++[Fc]) h else []):=by
   unfold cpP;rw [if_pos h1',Dl,Y4,Apr,Y4];simp [Jm]
  rw [hB,hW]
  rw [hP] at hl ⊢
  simp only [List.length_append] at hl
  refine AK.mintB 0 0 2 (bx:=[[[Jg 312 0 b,.buf 5 s 0,.sl [] (.tok 1),vi h]],[Ae n]]) (tk:=[s.length,0]) rfl rfl rfl rfl rfl rfl ?_
  refine AK.hc (τ':=[0,1]) [0] [0,1] ((Fy Po).n b s h) ?_
  refine AK.pc q0 ?_
  refine AK.hc (τ':=[0,1]) [0] [0,1] (e0 (by omega) b s ([Po]) h (by simp<;>omega)) ?_
  refine AK.pc q1 ?_
  refine AK.hc (τ':=[0,1,2]) [0] [0,1] (hk 1 b s ([Po]++Am (A5 n 0)) h d1 (A6 ((A0 (by simp))) w0) (by simp<;>omega) (by omega)) ?_
  refine AK.pc q2 ?_
  refine AK.if_ (fun h2=>?_) (fun h2=>?_)
  ·have h2':(!(A5 n 2).kids.isEmpty)=true:=by
    have:=of_decide_eq_true h2
    rw [Ad] at this
    cases hh:(A5 n 2).kids with
    | nil=>rw [hh] at this;simp at this
    | cons y l=>rfl
   rw [if_pos h2'] at hl ⊢
   rw [← List.append_assoc]
   refine AK.hc (τ':=[0,2]) [0] [0,2] ((Fy Fc).f (s++Jm (A5 n 1) ([Po]++Am (A5 n 0)) h) [[125]] h (by simp)) ?_
   refine AK.pc q2 ?_
   refine AK.hc (τ':=[0,2,3]) [0] [0,2] ((hk 2).f (s++Jm (A5 n 1) ([Po]++Am (A5 n 0)) h) ([[125]]++[Fc]) h d2 (A6 (A0 (by simp)) (A0 (by simp))) (by simp) (by simp only [List.length_append];omega)) ?_
   refine AK.wkB 0 0 2 (.sl (B4 [[125]]) .no) ?_
   exact AK.fb Tryz.func298 rfl rfl
  ·have h2':¬ (!(A5 n 2).kids.isEmpty)=true:=by
    have:=of_decide_eq_false h2
    rw [Ad] at this
    cases hh:(A5 n 2).kids with
    | nil=>simp
    | cons y l=>rw [hh] at this;simp at this
   rw [if_neg h2',List.append_nil] at *
   refine AK.wkB 0 0 2 (.sl (B4 [[125]]) .no) ?_
   exact AK.fb Tryz.func298 rfl rfl
 have h1':n.kind≠24:=by simpa using h1
 refine AK.if_ (fun h2=>?_) (fun h2=>?_)
 ·have h2':n.kind=25:=by simpa using h2
  have hB:cpB n.kind b=false:=by unfold cpB;rw [if_neg h1',if_pos h2']
  have hW:cpW n.kind=[[125]]:=by unfold cpW;rw [if_neg h1',if_pos h2']
  have hP:cpP n.kind n.name (A7 n.kids) (F7 n.kids h) h=Jm (A5 n 1) ([Dw]++Am (A5 n 0)) h:=by
   unfold cpP;rw [if_neg h1',if_pos h2',Dl,Y4];simp [Jm]
  rw [hB,hW]
  rw [hP] at hl ⊢
  refine AK.mintB 0 0 2 (bx:=[[[Jg 312 0 b,.buf 5 s 0,.sl [] (.tok 1),vi h]],[Ae n]]) (tk:=[s.length,0]) rfl rfl rfl rfl rfl rfl ?_
  refine AK.hc (τ':=[0,1]) [0] [0,1] ((Fy Dw).n b s h) ?_
  refine AK.pc q0 ?_
  refine AK.hc (τ':=[0,1]) [0] [0,1] (e0 (by omega) b s ([Dw]) h (by simp<;>omega)) ?_
  refine AK.pc q1 ?_
  refine AK.hc (τ':=[0,1,2]) [0] [0,1] (hk 1 b s ([Dw]++Am (A5 n 0)) h d1 (A6 ((A0 (by simp))) w0) (by simp<;>omega) (by omega)) ?_
  refine AK.wkB 0 0 2 (.sl (B4 [[125]]) .no) ?_
  exact AK.fb Tryz.func298 rfl rfl
 have h2':n.kind≠25:=by simpa using h2
 refine AK.if_ (fun h3=>?_) (fun h3=>?_)
 ·have h3':n.kind=26:=by simpa using h3
  have hB:cpB n.kind b=false:=by unfold cpB;rw [if_neg h1',if_neg h2',if_pos h3']
  have hW:cpW n.kind=[[125]]:=by unfold cpW;rw [if_neg h1',if_neg h2',if_pos h3']
  have hP:cpP n.kind n.name (A7 n.kids) (F7 n.kids h) h=Jm (A5 n 2) ([Ie,n.name,Ga]++Am (A5 n 0)++[Ue]++Am (A5 n 1)) h:=by
   unfold cpP;rw [if_neg h1',if_neg h2',if_pos h3',Dl,Dl,Y4];simp [Jm]
  rw [hB,hW]
  rw [hP] at hl ⊢
  refine AK.mintB 0 0 2 (bx:=[[[Jg 312 0 b,.buf 5 s 0,.sl [] (.tok 1),vi h]],[Ae n]]) (tk:=[s.length,0]) rfl rfl rfl rfl rfl rfl ?_
  refine AK.hc (τ':=[0,1]) [0] [0,1] ((Ats Ie n.name Ga).n b s h) ?_
  refine AK.pc q0 ?_
  refine AK.hc (τ':=[0,1]) [0] [0,1] (e0 (by omega) b s ([Ie,n.name,Ga]) h (by simp<;>omega)) ?_
  refine AK.hc (τ':=[0,1]) [0] [0,1] (Fy Ue b s ([Ie,n.name,Ga]++Am (A5 n 0)) h (by simp<;>omega)) ?_
  refine AK.pc q1 ?_
  refine AK.hc (τ':=[0,1]) [0] [0,1] (e1 (by omega) b s ([Ie,n.name,Ga]++Am (A5 n 0)++[Ue]) h (by simp<;>omega)) ?_
  refine AK.pc q2 ?_
  refine AK.hc (τ':=[0,1,2]) [0] [0,1] (hk 2 b s ([Ie,n.name,Ga]++Am (A5 n 0)++[Ue]++Am (A5 n 1)) h d2
   (A6 (A6 (A6 (Cy (by simp) (Cy (by omega) (A0 (by simp)))) w0) (A0 (by simp))) w1) (by simp<;>omega) (by omega)) ?_
  refine AK.wkB 0 0 2 (.sl (B4 [[125]]) .no) ?_
  exact AK.fb Tryz.func298 rfl rfl
 have h3':n.kind≠26:=by simpa using h3
 have hB:cpB n.kind b=b:=by unfold cpB;rw [if_neg h1',if_neg h2',if_neg h3']
 have hW:cpW n.kind=[]:=by unfold cpW;rw [if_neg h1',if_neg h2',if_neg h3']
 have hP:cpP n.kind n.name (A7 n.kids) (F7 n.kids h) h=[]:=by unfold cpP;rw [if_neg h1',if_neg h2',if_neg h3']
 rw [hB,hW,hP,List.append_nil]
 refine AK.wkB 0 0 2 (.sl (B4 []) .no) ?_
 exact AK.fb Tryz.func298 rfl rfl
set_option maxHeartbeats 2000000 in
theorem Aqe (n:Nd)(hp:PrN n)(hsz:Af n≤1000)(hk:∀ i,HBk (A5 n i)):HS n:=by
 intro b s h hd hl
 have hkl:n.kids.length≤4000000000:=by have:=Ax n.kids;have:=Be n;omega
 have q0:=Wi n 0 (by omega) hkl
 have q1:=Wi n 1 (by omega) hkl
 have e0:=Zq (A5 n 0) (hp.kid 0)
 have e1:=Zq (A5 n 1) (hp.kid 1)
 have he:=Za n.kids
 have hcn:=Be n
 rw [Dl,Dl] at he
 have kc:∀ i,Af (A5 n i)≤1000:=fun i=>by
  rcases Ir n i with h | h
  ·have:=Cw h;omega
  ·rw [h];decide
 have c0:=kc 0
 have c1:=kc 1
 have hn:=hp.get
 have hst:=Ak8 n hp
 have hO:Eo n h=if Ji n.kind then Cp (Pl n.kind n.name n.num (A7 n.kids)++[[59]]) h else cpP n.kind n.name (A7 n.kids) (F7 n.kids h) h++Cp (cpW n.kind) h:=by
  rw [Afh];unfold Pq;split
  ·rfl
  ·rw [Ap6]
 refine Hands.run (n:=1) (m:=1) Tryz.func266 ?_
 refine AK.if_ (fun h31=>?_) (fun h31=>?_)
 ·have h31':n.kind=31:=by simpa using h31
  have hT:Pl n.kind n.name n.num (A7 n.kids)=[Je,n.name]:=by unfold Pl;rw [if_pos h31']<;>rfl
  rw [if_pos (by simp [Ji,h31']),hT] at hO
  rw [hT] at hst
  rw [hO] at hl ⊢
  have hfl:=En ([Je,n.name]++[[59]]) h
  have hwl:=Du ([Je,n.name]++[[59]]) h (A6 hst (A0 (by simp)))
  refine AK.mintB 0 0 2 (bx:=[[[Jg 312 0 b,.buf 5 s 0,.sl [] (.tok 1),vi h]],[Ae n]]) (tk:=[s.length,0]) rfl rfl rfl rfl rfl rfl ?_
  refine AK.hc (τ':=[0,1]) [0] [0,1] ((Ahk Je n.name).n b s h) ?_
  refine AK.hc (τ':=[0,1]) [0] [0,1] (Fy [59] b s ([Je,n.name]) h (by simp<;>omega)) ?_
  refine AK.hc (τ':=[0]) [0] [0] (Kb b s ([Je,n.name]++[[59]]) h (by omega) (by simp<;>omega) (by omega) (by omega) (Oi (A6 hst (A0 (by simp))))) ?_
  exact AK.fb Tryz.func266 rfl rfl
 have h31':n.kind≠31:=by simpa using h31
 refine AK.if_ (fun h32=>?_) (fun h32=>?_)
 ·have h32':n.kind=32:=by simpa using h32
  refine AK.pc (Adq n.num hn.2.1 hn.2.2.1) ?_
  refine AK.if_ (fun hm=>?_) (fun hm=>?_)
  ·have hm':n.num=-1:=by simpa using hm
   have hT:Pl n.kind n.name n.num (A7 n.kids)=[Da,n.name,[91],[63],[93]]:=by unfold Pl;rw [if_neg h31',if_pos h32',if_pos hm']<;>rfl
   rw [if_pos (by simp [Ji,h32']),hT] at hO
   rw [hT] at hst
   rw [hO] at hl ⊢
   have hfl:=En ([Da,n.name,[91],[63],[93]]++[[59]]) h
   have hwl:=Du ([Da,n.name,[91],[63],[93]]++[[59]]) h (A6 hst (A0 (by simp)))
   refine AK.mintB 0 0 2 (bx:=[[[Jg 312 0 b,.buf 5 s 0,.sl [] (.tok 1),vi h]],[Ae n]]) (tk:=[s.length,0]) rfl rfl rfl rfl rfl rfl ?_
   refine AK.hc (τ':=[0,1]) [0] [0,1] ((As1 Da n.name [91] [63] [93]).n b s h) ?_
   refine AK.hc (τ':=[0,1]) [0] [0,1] (Fy [59] b s ([Da,n.name,[91],[63],[93]]) h (by simp<;>omega)) ?_
   refine AK.hc (τ':=[0]) [0] [0] (Kb b s ([Da,n.name,[91],[63],[93]]++[[59]]) h (by omega) (by simp<;>omega) (by omega) (by omega) (Oi (A6 hst (A0 (by simp))))) ?_
   exact AK.fb Tryz.func266 rfl rfl
  ·have hm':¬ n.num=-1:=by simpa using hm
   have hT:Pl n.kind n.name n.num (A7 n.kids)=[Da,n.name,[91],Lib.itoa n.num,[93]]:=by unfold Pl;rw [if_neg h31',if_pos h32',if_neg hm']<;>rfl
   rw [if_pos (by simp [Ji,h32']),hT] at hO
   rw [hT] at hst
   rw [hO] at hl ⊢
   have hfl:=En ([Da,n.name,[91],Lib.itoa n.num,[93]]++[[59]]) h
   have hwl:=Du ([Da,n.name,[91],Lib.itoa n.num,[93]]++[[59]]) h (A6 hst (A0 (by simp)))
   refine AK.mintB 0 0 2 (bx:=[[[Jg 312 0 b,.buf 5 s 0,.sl [] (.tok 1),vi h]],[Ae n]]) (tk:=[s.length,0]) rfl rfl rfl rfl rfl rfl ?_
   refine AK.hc (τ':=[0,1]) [0] [0,1] ((As1 Da n.name [91] (Lib.itoa n.num) [93]).n b s h) ?_
   refine AK.hc (τ':=[0,1]) [0] [0,1] (Fy [59] b s ([Da,n.name,[91],Lib.itoa n.num,[93]]) h (by simp<;>omega)) ?_
   refine AK.hc (τ':=[0]) [0] [0] (Kb b s ([Da,n.name,[91],Lib.itoa n.num,[93]]++[[59]]) h (by omega) (by simp<;>omega) (by omega) (by omega) (Oi (A6 hst (A0 (by simp))))) ?_
   exact AK.fb Tryz.func266 rfl rfl
 have h32':n.kind≠32:=by simpa using h32
 refine AK.if_ (fun h21=>?_) (fun h21=>?_)
 ·have h21':n.kind=21:=by simpa using h21
  have hT:Pl n.kind n.name n.num (A7 n.kids)=[n.name,[61]]++Am (A5 n 0):=by unfold Pl;rw [if_neg h31',if_neg h32',if_pos h21',Dl]<;>rfl
  rw [if_pos (by simp [Ji,h21']),hT] at hO
  rw [hT] at hst
  rw [hO] at hl ⊢
  have hfl:=En ([n.name,[61]]++Am (A5 n 0)++[[59]]) h
  have hwl:=Du ([n.name,[61]]++Am (A5 n 0)++[[59]]) h (A6 hst (A0 (by simp)))
  refine AK.mintB 0 0 2 (bx:=[[[Jg 312 0 b,.buf 5 s 0,.sl [] (.tok 1),vi h]],[Ae n]]) (tk:=[s.length,0]) rfl rfl rfl rfl rfl rfl ?_
  refine AK.hc (τ':=[0,1]) [0] [0,1] ((Ahk n.name [61]).n b s h) ?_
  refine AK.pc q0 ?_
  refine AK.hc (τ':=[0,1]) [0] [0,1] (e0 (by omega) b s ([n.name,[61]]) h (by simp<;>omega)) ?_
  refine AK.hc (τ':=[0,1]) [0] [0,1] (Fy [59] b s ([n.name,[61]]++Am (A5 n 0)) h (by simp<;>omega)) ?_
  refine AK.hc (τ':=[0]) [0] [0] (Kb b s ([n.name,[61]]++Am (A5 n 0)++[[59]]) h (by omega) (by simp<;>omega) (by omega) (by omega) (Oi (A6 hst (A0 (by simp))))) ?_
  exact AK.fb Tryz.func266 rfl rfl
 have h21':n.kind≠21:=by simpa using h21
 refine AK.if_ (fun h22=>?_) (fun h22=>?_)
 ·have h22':n.kind=22:=by simpa using h22
  have hT:Pl n.kind n.name n.num (A7 n.kids)=[n.name,[91]]++Am (A5 n 0)++[[93],[61]]++Am (A5 n 1):=by unfold Pl;rw [if_neg h31',if_neg h32',if_neg h21',if_pos h22',Dl,Dl]<;>rfl
  rw [if_pos (by simp [Ji,h22']),hT] at hO
  rw [hT] at hst
  rw [hO] at hl ⊢
  have hfl:=En ([n.name,[91]]++Am (A5 n 0)++[[93],[61]]++Am (A5 n 1)++[[59]]) h
  have hwl:=Du ([n.name,[91]]++Am (A5 n 0)++[[93],[61]]++Am (A5 n 1)++[[59]]) h (A6 hst (A0 (by simp)))
  refine AK.mintB 0 0 2 (bx:=[[[Jg 312 0 b,.buf 5 s 0,.sl [] (.tok 1),vi h]],[Ae n]]) (tk:=[s.length,0]) rfl rfl rfl rfl rfl rfl ?_
  refine AK.hc (τ':=[0,1]) [0] [0,1] ((Ahk n.name [91]).n b s h) ?_
  refine AK.pc q0 ?_
  refine AK.hc (τ':=[0,1]) [0] [0,1] (e0 (by omega) b s ([n.name,[91]]) h (by simp<;>omega)) ?_
  refine AK.hc (τ':=[0,1]) [0] [0,1] (Ahk [93] [61] b s ([n.name,[91]]++Am (A5 n 0)) h (by simp<;>omega)) ?_
  refine AK.pc q1 ?_
  refine AK.hc (τ':=[0,1]) [0] [0,1] (e1 (by omega) b s ([n.name,[91]]++Am (A5 n 0)++[[93],[61]]) h (by simp<;>omega)) ?_
  refine AK.hc (τ':=[0,1]) [0] [0,1] (Fy [59] b s ([n.name,[91]]++Am (A5 n 0)++[[93],[61]]++Am (A5 n 1)) h (by simp<;>omega)) ?_
  refine AK.hc (τ':=[0]) [0] [0] (Kb b s ([n.name,[91]]++Am (A5 n 0)++[[93],[61]]++Am (A5 n 1)++[[59]]) h (by omega) (by simp<;>omega) (by omega) (by omega) (Oi (A6 hst (A0 (by simp))))) ?_
  exact AK.fb Tryz.func266 rfl rfl
 have h22':n.kind≠22:=by simpa using h22
 refine AK.if_ (fun h23=>?_) (fun h23=>?_)
 ·have h23':n.kind=23:=by simpa using h23
  have hT:Pl n.kind n.name n.num (A7 n.kids)=[Fe,n.name]:=by unfold Pl;rw [if_neg h31',if_neg h32',if_neg h21',if_neg h22',if_pos h23']<;>rfl
  rw [if_pos (by simp [Ji,h23']),hT] at hO
  rw [hT] at hst
  rw [hO] at hl ⊢
  have hfl:=En ([Fe,n.name]++[[59]]) h
  have hwl:=Du ([Fe,n.name]++[[59]]) h (A6 hst (A0 (by simp)))
  refine AK.mintB 0 0 2 (bx:=[[[Jg 312 0 b,.buf 5 s 0,.sl [] (.tok 1),vi h]],[Ae n]]) (tk:=[s.length,0]) rfl rfl rfl rfl rfl rfl ?_
  refine AK.hc (τ':=[0,1]) [0] [0,1] ((Ahk Fe n.name).n b s h) ?_
  refine AK.hc (τ':=[0,1]) [0] [0,1] (Fy [59] b s ([Fe,n.name]) h (by simp<;>omega)) ?_
  refine AK.hc (τ':=[0]) [0] [0] (Kb b s ([Fe,n.name]++[[59]]) h (by omega) (by simp<;>omega) (by omega) (by omega) (Oi (A6 hst (A0 (by simp))))) ?_
  exact AK.fb Tryz.func266 rfl rfl
 have h23':n.kind≠23:=by simpa using h23
 refine AK.if_ (fun h27=>?_) (fun h27=>?_)
 ·have h27':n.kind=27:=by simpa using h27
  have hT:Pl n.kind n.name n.num (A7 n.kids)=[Dn]++Am (A5 n 0):=by unfold Pl;rw [if_neg h31',if_neg h32',if_neg h21',if_neg h22',if_neg h23',if_pos h27',Dl]<;>rfl
  rw [if_pos (by simp [Ji,h27']),hT] at hO
  rw [hT] at hst
  rw [hO] at hl ⊢
  have hfl:=En ([Dn]++Am (A5 n 0)++[[59]]) h
  have hwl:=Du ([Dn]++Am (A5 n 0)++[[59]]) h (A6 hst (A0 (by simp)))
  refine AK.mintB 0 0 2 (bx:=[[[Jg 312 0 b,.buf 5 s 0,.sl [] (.tok 1),vi h]],[Ae n]]) (tk:=[s.length,0]) rfl rfl rfl rfl rfl rfl ?_
  refine AK.hc (τ':=[0,1]) [0] [0,1] ((Fy Dn).n b s h) ?_
  refine AK.pc q0 ?_
  refine AK.hc (τ':=[0,1]) [0] [0,1] (e0 (by omega) b s ([Dn]) h (by simp<;>omega)) ?_
  refine AK.hc (τ':=[0,1]) [0] [0,1] (Fy [59] b s ([Dn]++Am (A5 n 0)) h (by simp<;>omega)) ?_
  refine AK.hc (τ':=[0]) [0] [0] (Kb b s ([Dn]++Am (A5 n 0)++[[59]]) h (by omega) (by simp<;>omega) (by omega) (by omega) (Oi (A6 hst (A0 (by simp))))) ?_
  exact AK.fb Tryz.func266 rfl rfl
 have h27':n.kind≠27:=by simpa using h27
 refine AK.if_ (fun h28=>?_) (fun h28=>?_)
 ·have h28':n.kind=28:=by simpa using h28
  have hT:Pl n.kind n.name n.num (A7 n.kids)=[Fg]:=by unfold Pl;rw [if_neg h31',if_neg h32',if_neg h21',if_neg h22',if_neg h23',if_neg h27',if_pos h28']<;>rfl
  rw [if_pos (by simp [Ji,h28']),hT] at hO
  rw [hT] at hst
  rw [hO] at hl ⊢
  have hfl:=En ([Fg]++[[59]]) h
  have hwl:=Du ([Fg]++[[59]]) h (A6 hst (A0 (by simp)))
  refine AK.mintB 0 0 2 (bx:=[[[Jg 312 0 b,.buf 5 s 0,.sl [] (.tok 1),vi h]],[Ae n]]) (tk:=[s.length,0]) rfl rfl rfl rfl rfl rfl ?_
  refine AK.hc (τ':=[0,1]) [0] [0,1] ((Fy Fg).n b s h) ?_
  refine AK.hc (τ':=[0,1]) [0] [0,1] (Fy [59] b s ([Fg]) h (by simp<;>omega)) ?_
  refine AK.hc (τ':=[0]) [0] [0] (Kb b s ([Fg]++[[59]]) h (by omega) (by simp<;>omega) (by omega) (by omega) (Oi (A6 hst (A0 (by simp))))) ?_
  exact AK.fb Tryz.func266 rfl rfl
 have h28':n.kind≠28:=by simpa using h28
 refine AK.if_ (fun h29=>?_) (fun h29=>?_)
 ·have h29':n.kind=29:=by simpa using h29
  have hT:Pl n.kind n.name n.num (A7 n.kids)=[Ft]:=by unfold Pl;rw [if_neg h31',if_neg h32',if_neg h21',if_neg h22',if_neg h23',if_neg h27',if_neg h28']<;>rfl
  rw [if_pos (by simp [Ji,h29']),hT] at hO
  rw [hT] at hst
  rw [hO] at hl ⊢
  have hfl:=En ([Ft]++[[59]]) h
  have hwl:=Du ([Ft]++[[59]]) h (A6 hst (A0 (by simp)))
  refine AK.mintB 0 0 2 (bx:=[[[Jg 312 0 b,.buf 5 s 0,.sl [] (.tok 1),vi h]],[Ae n]]) (tk:=[s.length,0]) rfl rfl rfl rfl rfl rfl ?_
  refine AK.hc (τ':=[0,1]) [0] [0,1] ((Fy Ft).n b s h) ?_
  refine AK.hc (τ':=[0,1]) [0] [0,1] (Fy [59] b s ([Ft]) h (by simp<;>omega)) ?_
  refine AK.hc (τ':=[0]) [0] [0] (Kb b s ([Ft]++[[59]]) h (by omega) (by simp<;>omega) (by omega) (by omega) (Oi (A6 hst (A0 (by simp))))) ?_
  exact AK.fb Tryz.func266 rfl rfl
 have h29':n.kind≠29:=by simpa using h29
 have hno:Ji n.kind=false:=by simp [Ji,h31',h32',h21',h22',h23',h27',h28',h29']
 rw [if_neg (by simp [hno])] at hO
 rw [hO] at hl ⊢
 simp only [List.length_append] at hl
 have hfl:=En (cpW n.kind) h
 have hww:T7 (cpW n.kind)∧(cpW n.kind).length≤1:=by
  unfold cpW;repeat' split
  all_goals exact ⟨fun w hw=>by simp at hw<;>(subst hw;simp),by simp⟩
 have hc:=Adb n hp hsz hk b s h hd (by omega)
 refine AK.hc (hb:=Ao5 b s h) (τ':=[0]) [0] [0] hc ?_
 rw [← List.append_assoc]
 refine AK.hc (τ':=[0]) [0] [0] (Kb (cpB n.kind b) (s++cpP n.kind n.name (A7 n.kids) (F7 n.kids h) h) (cpW n.kind) h (by omega) (by omega) (by omega) (by simp only [List.length_append];omega) (Oi hww.1)) ?_
 exact AK.rb Tryz.func266 rfl rfl
theorem Agp:HBk B2:=Ae2 B2 (fun y hy=>by cases hy) (by decide)
theorem Ae4 (n:Nd)(hp:PrN n)(hsz:Af n≤1000):HS n∧HBk n:=by
 induction n using Nd.ind with
 | h n ih =>
   have hcn:=Be n
   have hk:∀ i,HBk (A5 n i):=fun i=>by
    rcases Ir n i with h | h
    ·exact (ih _ h (hp.kid i) (by have:=Cw h;omega)).2
    ·rw [h];exact Agp
   refine ⟨Aqe n hp hsz hk,Ae2 n (fun y hy=>(ih y hy (hp.get.2.2.2 y hy) (by have:=Cw hy;omega)).1) (by have:=Ax n.kids;omega)⟩
end Go.V
namespace Go.V
open Go
section
variable {X:Cx}{B:Bx}{E:Env}{S S':St}{w:World}{F:Bs}{a:Act}{N:Nat}{R:AE→St→Prop}{ops:Array Oper}{i:Nat}{o:Oper}{p q:Operand}
theorem Vq {sz:Nat}{c1 c2:Array Value}{r1 r2:List (List AV)}(h1:Md E w sz c1 r1)(h2:Md E w sz c2 r2):Md E w sz (c1++c2) (r1++r2):=by
 obtain ⟨s1,l1,e1⟩:=h1
 obtain ⟨s2,l2,e2⟩:=h2
 refine ⟨by simp [s1,s2,Nat.add_mul],fun r hr=>(List.mem_append.1 hr).elim (l1 r) (l2 r),fun k r j x v hk hj hv=>?_⟩
 rcases Nat.lt_or_ge k r1.length with h | h
 ·rw [List.getElem?_append_left h] at hk
  have hjs:j<sz:=by rw [← l1 r (List.mem_of_getElem? hk)];exact Aa hj
  have:=Fl h hjs
  rw [Array.getElem?_append_left (by omega)] at hv
  exact e1 k r j x v hk hj hv
 ·rw [List.getElem?_append_right h] at hk
  have hle:r1.length*sz≤k*sz:=Nat.mul_le_mul_right _ h
  rw [Array.getElem?_append_right (by omega),s1] at hv
  exact e2 (k-r1.length) r j x v hk hj (by rw [← hv];congr 1;rw [Nat.sub_mul];omega)
theorem Agy {sz:Nat}{c:Array Value}{rows:List (List AV)}(h:Md E w sz c rows){n:Nat}(hn:n≤rows.length):Md E w sz (c.toList.take (n*sz)).toArray (rows.take n):=by
 obtain ⟨s,l,e⟩:=h
 have hle:n*sz≤rows.length*sz:=Nat.mul_le_mul_right _ hn
 refine ⟨by simp [s],fun r hr=>l r (List.mem_of_mem_take hr),fun k r j x v hk hj hv=>?_⟩
 rw [List.getElem?_take] at hk
 split at hk
 ·refine e k r j x v hk hj ?_
  rw [List.getElem?_toArray,List.getElem?_take] at hv
  split at hv
  ·simpa using hv
  ·cases hv
 ·cases hk
theorem Agx {sz:Nat}{c:Array Value}{rows:List (List AV)}(h:Md E w sz c rows)(n:Nat):Md E w sz (c.toList.drop (n*sz)).toArray (rows.drop n):=by
 obtain ⟨s,l,e⟩:=h
 refine ⟨by simp [s,Nat.sub_mul],fun r hr=>l r (List.mem_of_mem_drop hr),fun k r j x v hk hj hv=>?_⟩
 rw [List.getElem?_drop] at hk
 refine e (n+k) r j x v hk hj ?_
 rw [List.getElem?_toArray,List.getElem?_drop] at hv
 rw [Nat.add_mul,Nat.add_assoc]
 simpa using hv
theorem Vr {t:Nat}{y:Ty}(hy:X.ty t=some y)(hne:y.size≠0)(n:Nat):∃ z,(zeroValue t).run X.P w=.ok z w∧(∃ ti,X.P.info? t=some ti∧ti.zero=some z∧ti.size=y.size)∧(∀ v,v∈(Builtin.zeroCells z.cells n).toList→v.oneCell'=true∨True) ∧
 (Builtin.zeroCells z.cells n).size=n*y.size∧∀ (E:Env)(w:World),Md E w y.size (Builtin.zeroCells z.cells n) (List.replicate n y.zero):=by
 obtain ⟨z,hz,hzc,hzl,ti,hi,hiz,his,hib⟩:=Jf hy w
 have hzs:z.cells.size=y.size:=by rw [← hzl,← hzc];simp
 refine ⟨z,hz,⟨ti,hi,hiz,his⟩,fun v _=>.inr trivial,by simp [Builtin.zeroCells,hzs],fun E w=>?_⟩
 refine Pd hzc hzl _ (by simp [Builtin.zeroCells,hzs]) (fun i hi=>?_)
 have hm:i % y.size<z.cells.size:=by rw [hzs];exact Nat.mod_lt _ (Nat.pos_of_ne_zero hne)
 have hr0:(Array.range (n*y.size))[i]?=some i:=by simp [hi]
 simp only [Builtin.zeroCells]
 rw [Array.getElem?_map,hzs,hr0]
 simp only [Option.map_some]
 rw [getElem!_pos z.cells (i % y.size) hm,Array.getElem?_eq_getElem hm]
theorem Ndo.boxC {t:TypeId}{x:AV}{cs:List AV}(hc:cellsOf x=some cs:=by rfl)(ho:ops[i]?=some o:=by rfl)(hw:As ops F o=some true:=by rfl)(hop:o.op=.box t p:=by rfl)(hp:Cg X F p=some x:=by rfl):Ndo X N ops i o F (.cptr cs) S S:=by
 intro F' E w a hl hI hF
 have hlo:=D7 hl
 rw [hop] at hlo
 have r1:=Ah hI hF ((B3 (X:=X) (F:=F) (F':=F') (o:=p) fun s hs=>hlo s (by simp [Op.operands,hs])).trans hp)
 generalize hv:a.eval p=v at r1
 obtain ⟨h1,h2,_⟩:=Eh r1 hc
 have ev:=Evol.push (E:=E) (w:=w) (w':=w.alloc (.cells v.cells t)) ⟨_,rfl⟩ rfl rfl rfl E.boxes.length E.toks.length
 have hI':=hI.push (w':=w.alloc (.cells v.cells t)) ⟨_,rfl⟩ rfl rfl rfl
 have hnew:(w.alloc (.cells v.cells t)).heap[w.heap.size]?=some (.cells v.cells t (0,0)):=by
  have:(w.alloc (.cells v.cells t)).heap=w.heap.push (.cells v.cells t (0,0)):=rfl
  rw [this];simp
 refine Does.val ho (Bj hF (by rw [Bw hl];exact hw)) (v:=.pointer (some ⟨w.heap.size,0,none⟩)) (by simp [execOp,hop,Instr.box,hv,newVar,newRow]) (.inl rfl) ⟨E,hI',ev,?_⟩
 refine .cptr cs w.heap.size 0 (fun j=>v.cells.getD j default) (fun j _=>Aa8 hI) (fun j hj=>?_) (fun j x hx=>?_)
 ·have:j<v.cells.size:=by omega
  rw [Nat.zero_add]
  simp only [World.cell?,hnew]
  simp [this,Array.getD]
 ·have:j<v.cells.size:=by have:=Aa hx;omega
  exact (h2 j _ x (by simp [this,Array.getD]) hx).step ev
theorem AK.nilS {l:List Nat}{k:List Item}{t t' e:TypeId}{rows:List (List AV)}{sp:Sp}(hd:X.P.underlying t=some (.slice e))(hk:∀ c:Bool,(rows≠[]→c=false)→AK X B (.inRegion ops l::k) (putF o.dst (.val (.bool c)) F) S R)
 (ho:ops[i]?=some o:=by rfl)(hw:As ops F o=some true:=by rfl)(hop:o.op=.binOp .eql t p (.const (.slice none 0 0)) t':=by rfl)(hp:Cg X F p=some (.sl rows sp):=by rfl)(hdst:Ci B.fn.ntmps o.dst=true:=by rfl) :
 AK X B (.inRegion ops (i::l)::k) F S R:=by
 intro E w a b cs hI hF hn hm hb
 have r1:=Ah hI hF hp
 generalize hv:a.eval p=v at r1
 have hrun:∃ c:Bool,(rows≠[]→c=false)∧(execOp a.eval o).run X.P w=.ok (.value (.bool c)) w:=by
  cases r1 with
  | sl _ _ a' n cap b' o' sz vals hn' hx ha hsz hm hc hr hs hcap =>
    refine ⟨a'.isNone,fun hne=>?_,by simp [execOp,hop,hv,show a.eval (.const (.slice none 0 0))=.slice none 0 0 from rfl,eqGuard,binOp,run_equal_slice_nil w t e a' n cap hd]⟩
    rw [ha (by rw [← hn'];exact fun h=>hne (List.length_eq_zero_iff.1 h))];rfl
 obtain ⟨c,hc,hrun⟩:=hrun
 have hdo:Does X ops i a w fun v w'=>∃ E',Inv X E' S w'∧Evol E w E' w' E.boxes.length E.toks.length∧Rel E' w' v (.val (.bool c)) :=
  Does.val ho (Bj hF hw) hrun (.inl rfl) ⟨E,hI,Evol.refl _ _ _ _,.val _⟩
 have nt:E.toks.length=S.toks.length:=by rw [← hI.nt];simp
 obtain ⟨v',w',⟨E',h1,h2,h3⟩,h4⟩:=hdo b k cs l
 have hF':=(hF.step h2).putF hdst h3
 have h4':=h4
 rw [ho] at h4'
 exact Fin.from h4' (h2.weaken (by rw [hI.nb];exact hn) (by omega)) (hk c hc E' w' _ b cs h1 hF' hn hm hb)
theorem AK.cloneB {l:List Nat}{k:List Item}{c:Call}{tt tx e e':Nat}{y yx ye:Ty}{new:List (List AV)}{sp:Sp}(hk:∀ cc:Nat,AK X B (.inRegion ops l::k) (putF o.dst (.bsl S.boxes.length new.length) F) ⟨S.boxes++[new++List.replicate cc ye.zero],S.toks⟩ R)
 (hl':∀ r,r∈new→r.length=ye.size)(hc:∀ r,r∈new→∀ x,x∈r→Fh x=true)(hne:new≠[])(hb:new.length≤100000000000)
 (ho:ops[i]?=some o:=by rfl)(hw:As ops F o=some true:=by rfl)(hop:o.op=.call c:=by rfl)(hcal:c.callee=.builtin .append:=by rfl)(hargs:c.args.toList=[p,q]:=by rfl)(htys:c.argTypes.toList=[tt,tx]:=by rfl)
 (hp:Cg X F p=some (.sl [] .tight):=by rfl)(hq:Cg X F q=some (.sl new sp):=by rfl)(hy:X.ty tt=some y:=by rfl)(hyk:y.k=.slc e:=by rfl)(hye:X.ty e=some ye:=by rfl)(hyx:X.ty tx=some yx:=by rfl)(hyxk:yx.k=.slc e':=by rfl)
 (hdst:Ci B.fn.ntmps o.dst=true:=by rfl):AK X B (.inRegion ops (i::l)::k) F S R:=by
 intro E w a b cs hI hF hn hm hb'
 obtain ⟨callee,args,argTypes⟩:=c
 simp only at hcal hargs htys
 subst hcal
 have ha:args=#[p,q]:=by rw [← Array.toList_inj];exact hargs
 have ht:argTypes=#[tt,tx]:=by rw [← Array.toList_inj];exact htys
 subst ha;subst ht
 have r1:=Ah hI hF hp
 have r2:=Ah hI hF hq
 obtain ⟨d1,hd1,hk1⟩:=(X.ty_ok tt y hy).agg
 simp only [hyk] at hk1
 obtain ⟨rfl,ye',hye',hne0⟩:=hk1
 rw [hye] at hye';cases hye'
 obtain ⟨d2,hd2,hk2⟩:=(X.ty_ok tx yx hyx).agg
 simp only [hyxk] at hk2
 obtain ⟨rfl,_⟩:=hk2
 obtain ⟨ti,z,hi,hsz,hby,hzv,hzc,hzl,_⟩:=(X.ty_ok e ye hye).info
 have hnew:0<new.length:=List.length_pos_iff.2 hne
 obtain ⟨vals2,hsrc,hr2⟩:=Ad6 hd2 r2 hl' hc hne
 rw [← hsz] at hsrc
 generalize hu:a.eval p=u at r1
 generalize hv:a.eval q=v at hsrc
 have key:∃ cc w',(Builtin.append_ #[tt,tx] o.type #[u,v]).run X.P w=.ok (.slice (some ⟨w.heap.size,0,none⟩) new.length cc) w'∧new.length≤cc ∧
  w'.heap=w.heap.push (.cells ((Cd new.length ti.size vals2).toArray++Builtin.zeroCells z.cells (cc-new.length)) e (0,0))∧w'.os=w.os∧w'.tape=w.tape∧w'.output=w.output:=by
  cases r1 with
  | sl _ _ a' n cap bb oo sz vals hn' hx ha hszr hm hcl hr hs hcap =>
    have hn0:n=0:=by simpa using hn'.symm
    subst hn0
    have hcap0:cap=0:=hs
    subst hcap0
    have hold:(Builtin.firstCells ti.size 0 (.slice a' 0 0)).run X.P w.drew=.ok ([]:List Value).toArray w.drew:=by
     cases a' with
     | none=>exact run_firstCells_none _ _ _ _ _
     | some a0=>exact run_firstCells_some _ _ _ _ _ _ _ (by simp) (fun j v hj=>by simp at hj)
    have hby':(0+new.length)*ti.bytes≤140737488355328:=Nat.le_trans (Nat.mul_le_mul_left _ hby) (by omega)
    have hrun:=run_append_grow_src w tt tx o.type e ti z hd1 hi hzv a' 0 0 [] hold v new.length _ hsrc (by omega) (by omega) (growslice_fits (by omega) hby')
    have hcc:=grownCap_ge w (0+new.length) 0 e
    simp only [Nat.zero_add,List.nil_append] at hrun hcc
    exact ⟨_,_,hrun,hcc,rfl,rfl,rfl,rfl⟩
 obtain ⟨cc,w',hrun,hcc,hheap,hos,htp,hout⟩:=key
 obtain ⟨z',hz',⟨ti',hi',hiz',his'⟩,_,hzz,hgz⟩:=Vr (X:=X) (w:=w) hye hne0 (cc-new.length)
 rw [hi] at hi';cases hi'
 rw [hzv] at hiz';cases hiz'
 have hg1:Md E w ye.size (Cd new.length ti.size vals2).toArray new:=by
  refine ⟨by simp [Cl,hsz],hl',fun kk r j x v' hkk hj hv'=>?_⟩
  have h1:=Aa hkk
  have h2:j<ye.size:=by rw [← hl' r (List.mem_of_getElem? hkk)];exact Aa hj
  rw [List.getElem?_toArray,hsz,Hu h1 h2] at hv'
  cases hv'
  exact hr2 kk j r x hkk hj
 have hg:=Vq hg1 (hgz E w)
 obtain ⟨ev,hI'⟩:=hI.newBox (w':=w') hheap hos htp hout hg.1 hg.2.1 hg.2.2
 have hnb:E.boxes.length=S.boxes.length:=hI.nb
 have hrel:Rel (E.addBox w.heap.size ye.size) w' (.slice (some ⟨w.heap.size,0,none⟩) new.length cc) (.bsl S.boxes.length new.length) :=
  .bsl _ _ ye.size _ _ (by rw [← hnb];exact getElem?_snoc_new _ _) hcc
 have hdo:Does X ops i a w fun v w'=>∃ E',Inv X E' ⟨S.boxes++[new++List.replicate (cc-new.length) ye.zero],S.toks⟩ w'∧Evol E w E' w' E.boxes.length E.toks.length∧Rel E' w' v (.bsl S.boxes.length new.length) :=
  Does.val ho (Bj hF hw) (by simp [execOp,hop,resolve,invoke,builtin,hu,hv,hrun]) (.inl rfl) ⟨_,hI',ev,hrel⟩
 have nt:E.toks.length=S.toks.length:=by rw [← hI.nt];simp
 obtain ⟨v',w2,⟨E',h1,h2,h3⟩,h4⟩:=hdo b k cs l
 have hF':=(hF.step h2).putF hdst h3
 have h4':=h4
 rw [ho] at h4'
 exact Fin.from h4' (h2.weaken (by rw [hI.nb];exact hn) (by omega)) (hk (cc-new.length) E' w2 _ b cs h1 hF' (by simp;omega) hm hb')
theorem Agd {t e b n:Nat}{hi:Option Operand}{h:Int}{y ye:Ty}(h0:0≤h)(h2:h≤(n:Int))(ho:ops[i]?=some o:=by rfl)(hw:As ops F o=some true:=by rfl)(hop:o.op=.slice t p none hi none:=by rfl)(hp:Cg X F p=some (.bsl b n):=by rfl)
 (hhi:Nn X F hi (n:Int)=some h:=by rfl)(hy:X.ty t=some y:=by rfl)(hyk:y.k=.slc e:=by rfl)(hye:X.ty e=some ye:=by rfl):Ndo X N ops i o F (.bsl b h.toNat) S S:=by
 refine Ndo.val ho hw fun F' E w a hc hI hF=>?_
 rw [hop] at hc
 have r1:=Ah hI hF ((hc p (by simp [Op.operands])).trans hp)
 have b2:=Qt hI hF (show Nn X F' hi (n:Int)=some h by rw [Lh fun x hx=>hc x (by subst hx;simp [Op.operands])];exact hhi)
 obtain ⟨d,hdd,hd2⟩:=(X.ty_ok t y hy).agg
 simp only [hyk] at hd2
 obtain ⟨rfl,ye',hye',hne0⟩:=hd2
 rw [hye] at hye';cases hye'
 generalize hu:a.eval p=u at r1
 cases r1 with
 | bsl _ blk sz _ cap hB hcap =>
   have hb:=Hd (X:=X) (isS:=true) (len:=n) (cap:=cap) (lo:=none) (hi:=hi.map a.eval) (l:=0) (h:=h) (.inl ⟨rfl,rfl⟩)
    (by rcases b2 with ⟨rfl,rfl⟩ | ⟨x,k,rfl,hx⟩
        ·exact .inl ⟨rfl,rfl⟩
        ·exact .inr ⟨k,by simp [hx]⟩) (Int.le_refl 0) h0 h2 hcap w
   refine ⟨.slice (some ⟨blk,0,none⟩) h.toNat cap,?_,.bsl b blk sz h.toNat cap hB (by omega)⟩
   simp [execOp,hop,hu,Instr.sliceAt,Instr.slice,run_underlying hdd,hb,Cb hye,Dx]
theorem Agg {t e b n:Nat}{lo:Operand}{ik:IntKind}{l:Nat}{y ye:Ty}(h2:l<n)(ho:ops[i]?=some o:=by rfl)(hw:As ops F o=some true:=by rfl)(hop:o.op=.slice t p (some lo) none none:=by rfl)(hp:Cg X F p=some (.bsl b n):=by rfl)
 (hlo:Cg X F lo=some (.val (.int ik l)):=by rfl)(hy:X.ty t=some y:=by rfl)(hyk:y.k=.slc e:=by rfl)(hye:X.ty e=some ye:=by rfl){rows:List (List AV)}(hS:S.boxes[b]?=some rows)(hrl:∀ r,r∈rows→r.length=ye.size)(hne:rows≠[]):Ndo X N ops i o F (.bst b l (n-l)) S S:=by
 refine Ndo.val ho hw fun F' E w a hc hI hF=>?_
 rw [hop] at hc
 have r1:=Ah hI hF ((hc p (by simp [Op.operands])).trans hp)
 have r2:=Ah hI hF ((hc lo (by simp [Op.operands])).trans hlo)
 obtain ⟨d,hdd,hd2⟩:=(X.ty_ok t y hy).agg
 simp only [hyk] at hd2
 obtain ⟨rfl,ye',hye',hne0⟩:=hd2
 rw [hye] at hye';cases hye'
 generalize hu:a.eval p=u at r1
 generalize hv:a.eval lo=v at r2
 cases r2
 cases r1 with
 | bsl _ blk sz _ cap hB hcap =>
   obtain ⟨arr,te,hh,hs,hlen,hrel⟩:=hI.box b blk sz rows hB hS
   have hsz:sz=ye.size:=by
    cases rows with
    | nil=>exact absurd rfl hne
    | cons r rs=>rw [← hlen r (by simp),hrl r (by simp)]
   subst hsz
   have hb:=Hd (X:=X) (isS:=true) (len:=n) (cap:=cap) (lo:=some (.int ik l)) (hi:=none) (l:=(l:Int)) (h:=(n:Int)) (.inr ⟨ik,rfl⟩) (.inl ⟨rfl,rfl⟩) (by omega) (by omega) (Int.le_refl _) hcap w
   simp only [Int.toNat_natCast] at hb
   refine ⟨.slice (some ⟨blk,l*ye.size,none⟩) (n-l) (cap-l),?_,.bst b blk ye.size l (n-l) (cap-l) hB⟩
   have hcl:¬ cap=l:=by omega
   simp [execOp,hop,hu,hv,Instr.sliceAt,Instr.slice,run_underlying hdd,hb,Cb hye,Dx,hcl]
theorem Ndo.clearB {c:Call}{tt e b s n:Nat}{y ye:Ty}{rows:List (List AV)}{bx:List (List (List AV))}(hn:0<n)(hS:S.boxes[b]?=some rows)(hin:s+n≤rows.length)(hrl:∀ r,r∈rows→r.length=ye.size)
 (hbx:S.boxes.set b (rows.take s++(List.replicate n ye.zero++rows.drop (s+n)))=bx)(hz1:∀ x,x∈ye.zero→Fh x=true)(ho:ops[i]?=some o:=by rfl)(hw:As ops F o=some true:=by rfl)(hop:o.op=.call c:=by rfl)(hcal:c.callee=.builtin .clear:=by rfl)(hargs:c.args=#[p]:=by rfl)
 (htys:c.argTypes=#[tt]:=by rfl)(hp:Cg X F p=some (.bst b s n):=by rfl)(hy:X.ty tt=some y:=by rfl)(hyk:y.k=.slc e:=by rfl)(hye:X.ty e=some ye:=by rfl):Ndo X N ops i o F (.val (.tuple #[])) S ⟨bx,S.toks⟩:=by
 subst hbx
 intro F' E w a hlk hI hF
 obtain ⟨callee,args,argTypes⟩:=c
 simp only at hcal hargs htys
 subst hcal;subst hargs;subst htys
 have hlo:=D7 hlk
 rw [hop] at hlo
 have r1:=Ah hI hF ((B3 (X:=X) (F:=F) (F':=F') (o:=p) fun s hs=>hlo s (by simp [Op.operands,Call.operands,hs])).trans hp)
 obtain ⟨d1,hd1,hk1⟩:=(X.ty_ok tt y hy).agg
 simp only [hyk] at hk1
 obtain ⟨rfl,ye',hye',hne0⟩:=hk1
 rw [hye] at hye';cases hye'
 generalize hu:a.eval p=u at r1
 cases r1 with
 | bst _ blk sz _ _ cap hB =>
   obtain ⟨arr,te,hh,hs,hlen,hrel⟩:=hI.box b blk sz rows hB hS
   obtain ⟨r0,hr0⟩:=Ab rows (i:=0) (by omega)
   have hsz:sz=ye.size:=by rw [← hlen r0 (List.mem_of_getElem? hr0),hrl r0 (List.mem_of_getElem? hr0)]
   subst hsz
   obtain ⟨z,hz,_,_,hzz,hgz⟩:=Vr (X:=X) (w:=w) hye hne0 n
   have hg:Md E w ye.size arr rows:=⟨hs,hlen,hrel⟩
   have hg2:=Vq (Agy hg (n:=s) (by omega)) (Vq (hgz E w) (Agx hg (s+n)))
   have hfit:s*ye.size+(Builtin.zeroCells z.cells n).toList.length≤arr.size:=by
    rw [Array.length_toList,hzz,← Nat.add_mul,hs];exact Nat.mul_le_mul_right _ hin
   have hone:∀ v,v∈(Builtin.zeroCells z.cells n).toList→v.oneCell'=true:=fun v hv=>by
    obtain ⟨q,hq⟩:=A3 hv
    have hq':(Builtin.zeroCells z.cells n)[q]?=some v:=by simpa using hq
    have hlt:q<n*ye.size:=by have:=Aa hq;rw [Array.length_toList,hzz] at this;exact this
    have hpos:0<ye.size:=Nat.pos_of_ne_zero hne0
    have hk:q / ye.size<n:=Nat.div_lt_of_lt_mul (by rw [Nat.mul_comm];exact hlt)
    have hzl:=hg2.2.1 ye.zero (List.mem_append_right _ (List.mem_append_left _ (List.mem_replicate.2 ⟨by omega,rfl⟩)))
    obtain ⟨x,hx⟩:=Ab ye.zero (i:=q % ye.size) (by rw [hzl];exact Nat.mod_lt _ hpos)
    have:=(hgz E w).2.2 (q / ye.size) ye.zero (q % ye.size) x v (by simp [hk]) hx (by rw [Nat.mul_comm,Nat.div_add_mod];exact hq')
    exact H9 this (hz1 x (List.mem_of_getElem? hx))
   have hst:=run_storeCells_at X.P blk (s*ye.size) te (Builtin.zeroCells z.cells n).toList 0 arr w hh (by simpa using hfit) hone
   simp only [Nat.add_zero] at hst
   have hnn:¬ n=0:=by omega
   have hrun:(Builtin.clear_ #[tt] o.type #[.slice (some ⟨blk,s*ye.size,none⟩) n cap]).run X.P w=.ok (.tuple #[]) (w.setRow blk (arr.toList.take (s*ye.size)++(Builtin.zeroCells z.cells n).toList++arr.toList.drop (s*ye.size+(Builtin.zeroCells z.cells n).toList.length)).toArray):=by
    obtain ⟨m,rfl⟩:∃ m,n=m+1:=⟨n-1,by omega⟩
    simp [Builtin.clear_,run_underlying hd1,hz,hst]
   have harr:(arr.toList.take (s*ye.size)++(Builtin.zeroCells z.cells n).toList++arr.toList.drop (s*ye.size+(Builtin.zeroCells z.cells n).toList.length)).toArray =
    (arr.toList.take (s*ye.size)).toArray++(Builtin.zeroCells z.cells n++(arr.toList.drop ((s+n)*ye.size)).toArray):=by
    rw [← Array.toList_inj]
    simp only [Array.toList_append,List.append_assoc]
    rw [Array.length_toList,hzz,← Nat.add_mul]
   rw [harr] at hrun
   obtain ⟨ev,hI'⟩:=hI.setBox hB hS hh rfl hg2.1 hg2.2.1 hg2.2.2
   exact Does.val ho (Bj hF (by rw [Bw hlk];exact hw)) (by simp [execOp,hop,resolve,invoke,builtin,hu,hrun]) (.inl rfl) ⟨E,hI',ev,.val _⟩
theorem Abz {R:Type}:∀ (l xs:List AV)(k:List AV→Option R),l.length=xs.length→Rm l 0 xs k=k xs
 | [],[],k,_=>by simp [Rm]
 | a::l,x::xs,k,h=>by simp only [Rm];exact Abz l xs _ (by simpa using h)
 | [],_::_,k,h=>by simp at h
 | _::_,[],k,h=>by simp at h
theorem Rn {α R:Type}:∀ (l:List α)(n:Nat)(x:α)(k:List α→Option R),n<l.length→Qf l n x k=k (l.set n x)
 | a::l,0,x,k,_=>by simp [Qf]
 | a::l,n+1,x,k,h=>by simp only [Qf];rw [Rn l n x _ (by simpa using h)];rfl
 | [],n,x,k,h=>by simp at h
theorem Ql {b r sz:Nat}{x:AV}{xs cs:List AV}{rows:List (List AV)}(hb:S.boxes[b]?=some rows)(hr:rows[r]?=some cs)(hc:cellsOf x=some xs)(hl:xs.length=sz)(hl':cs.length=sz) :
 Qk S sz (.ptr b r 0) x=some ⟨S.boxes.set b (rows.set r xs),S.toks⟩:=by
 obtain ⟨bx,tk⟩:=S
 simp only at hb
 simp only [Qk,hc]
 rw [show Nat.beq xs.length sz=true by rw [hl];exact Nat.beq_refl sz]
 simp only [Gp,hb,hr]
 rw [Abz _ _ _ (by omega),Rn _ _ _ _ (Aa hr),Rn _ _ _ _ (Aa hb)]
theorem Yk {R:Type}:∀ (l:List AV)(k:List AV→Option R),L1 l.length l k=k l
 | [],k=>by simp [L1]
 | a::l,k=>by simp only [List.length_cons,L1];rw [Yk l]
theorem Ag5 {b r sz:Nat}{g:Bool}{cs:List AV}{rows:List (List AV)}(hb:S.boxes[b]?=some rows)(hr:rows[r]?=some cs)(hl:cs.length=sz):T4 S sz g (.ptr b r 0)=Ui g cs:=by
 subst hl
 simp only [T4,Gp,hb,hr,N3]
 rw [Yk]
theorem Le {t b r:Nat}{y:Ty}{cs:List AV}{rows:List (List AV)}{x:AV}(hb:S.boxes[b]?=some rows)(hr:rows[r]?=some cs)(hl:cs.length=y.size)(ho:ops[i]?=some o:=by rfl)(hw:As ops F o=some true:=by rfl)(hop:o.op=.load t p:=by rfl)
 (hp:Cg X F p=some (.ptr b r 0):=by rfl)(hy:X.ty t=some y:=by rfl)(hx:Ui (El y.k) cs=some x:=by rfl):Ndo X N ops i o F x S S:=by
 refine Ndo.ev ho hw ?_
 rw [hop]
 simp only [Cj,Ou,hy,hp]
 rw [Ag5 hb hr hl];exact hx
end
end Go.V
namespace Go.V
open Go Go.Proofs
def G5 (p:Nd→Bool):Nat→List Nd→Int
 | _,[]=>-1
 | i,x::l=>if p x then i else G5 p (i+1) l
theorem Q7 (p:Nd→Bool):∀ (l:List Nd)(i:Nat),decide (G5 p i l≥0)=l.any p
 | [],i=>by simp [G5]
 | x::l,i=>by
   have hb:(x::l).any p=(p x||l.any p):=rfl
   rw [hb,← Q7 p l (i+1)]
   by_cases h:p x=true
   ·simp [G5,h]
   ·have h':p x=false:=by simpa using h
    have:G5 p i (x::l)=G5 p (i+1) l:=by simp only [G5];rw [if_neg h]
    rw [this,h'];rfl
theorem Wh (l:List Nd)(f:FuncId)(caps:List AV)(p:Nd→Bool)(hl:l.length≤1000000000) [hok:OKL 0 0 caps](hp:∀ x,x∈l→Pure X f (nd x::caps) (vb (p x)))(hcat:∀ xs,G0 xs caps=some (xs++caps)) :
 Pure X 225 [.sl (Ai l) .no,.fn f caps] (vi (G5 p 0 l)):=by
 refine Pure.run Tryz.func225 ?_
 refine AK.while_ (ι:=Nat) 0 0 (fun i=>i≤l.length∧G5 p 0 l=G5 p i (l.drop i)) (fun i=>[(8,vi i),(7,vi l.length),(0,.sl (Ai l) .no),(1,.fn f caps)]) (fun _=>⟨[],[]⟩) (fun i=>l.length-i) ?_ 0 ⟨Nat.zero_le _,rfl⟩
  ⟨rfl,by rw [← Ad];rfl,rfl,rfl,trivial⟩
 intro i hi IH
 refine AK.ei (fun h=>?_) (fun h=>?_)
 ·have hlt:i<l.length:=by have:=of_decide_eq_true h;omega
  obtain ⟨x,hx⟩:=Ab l hlt
  have hd:G5 p i (l.drop i)=if p x then (i:Int) else G5 p (i+1) (l.drop (i+1)):=by rw [Ba hx];rfl
  refine AK.ix i (by omega) (Al hx) ?_
  refine AK.pc (hp x (List.mem_of_getElem? hx)) ?_ (hzs:=hcat _)
  refine AK.if_ (fun h2=>?_) (fun h2=>?_)
  ·refine AK.rt Tryz.func225 ?_
   have h3:p x=true:=h2
   rw [hi.2,hd,h3];rfl
  ·have h3:p x=false:=h2
   exact IH (i+1) ⟨hlt,by rw [hi.2,hd,h3];rfl⟩ (by omega) _ _ ⟨vsx (by omega),rfl,rfl,rfl,trivial⟩ rfl rfl rfl
 ·have:i=l.length:=by have:=of_decide_eq_false h;omega
  refine AK.rt Tryz.func225 ?_
  rw [hi.2,this,List.drop_length];rfl
theorem Oo (l:List Nd)(f:FuncId)(caps:List AV)(p:Nd→Bool)(hl:l.length≤1000000000) [hok:OKL 0 0 caps](hp:∀ x,x∈l→Pure X f (nd x::caps) (vb (p x)))(hcat:∀ xs,G0 xs caps=some (xs++caps)) :
 Pure X 164 [.sl (Ai l) .no,.fn f caps] (vb (l.any p)):=by
 refine Pure.run Tryz.func164 ?_
 refine AK.pc (Wh l f caps p hl hp hcat) ?_
 refine AK.rt Tryz.func164 ?_
 rw [← Q7 p l 0];rfl
theorem Ap0 (xs:List AV):G0 xs []=some (xs++[]):=by simp [G0]
theorem Ai3 (x:AV)(xs:List AV):G0 xs [x]=some (xs++[x]):=by simp [G0,Y6]
theorem Abh (n:Nd):longN n=(decide (8<n.name.length)||n.kids.any longN):=by
 have:∀ l:List Nd,longL l=l.any longN:=by
  intro l
  induction l with
  | nil=>rfl
  | cons x l ih=>simp [longL,ih]
 cases n;rw [longN,this];rfl
theorem Aq4 (n:Nd)(hn:Af n≤1000000000):Pure X 265 [nd n] (vb (longN n)):=by
 induction n using Nd.ind with
 | h n ih =>
   have hc:=Be n
   have hll:=Ax n.kids
   have hq:=Oo n.kids 265 [] longN (by omega) (fun x hx=>ih x hx (by have:=Cw hx;omega)) Ap0
   rw [Abh]
   refine Pure.run Tryz.func265 ?_
   refine AK.gd (fun h=>?_) (fun h=>?_)
   ·have h':8<n.name.length:=by have:=of_decide_eq_true h;rw [Dm] at this;omega
    refine AK.rz Tryz.func265 ?_
    rw [decide_eq_true h'];rfl
   ·have h':¬ 8<n.name.length:=by have:=of_decide_eq_false h;rw [Dm] at this;omega
    refine AK.pc hq ?_
    refine AK.rz Tryz.func265 ?_
    rw [decide_eq_false h'];rfl
noncomputable def T9 (a b:List Nd):Bool:=@decide (a=b) (Classical.propDecidable _)
theorem Pk {a b:List Nd}:T9 a b=true↔a=b:=by unfold T9;exact @decide_eq_true_iff _ (Classical.propDecidable _)
theorem Ak5 (a b:Nd):Ot a b=((a.kind==b.kind)&&((a.name==b.name)&&((a.num==b.num)&&T9 a.kids b.kids))):=by
 rw [Bool.eq_iff_iff]
 simp only [Lx,Bool.and_eq_true,beq_iff_eq,Pk]
 cases a;cases b
 simp
theorem Aks (a b:List Nd)(ha:a.length≤1000000000)(hb:b.length≤1000000000)(h:∀ x,x∈a→∀ y,y∈b→Pure X 180 [nd x,nd y] (vb (Ot x y))) :
 Pure X 239 [.sl (Ai a) .no,.sl (Ai b) .no,.fn 180 []] (vb (T9 a b)):=by
 refine Pure.run Tryz.func239 ?_
 refine AK.if_ (fun h1=>?_) (fun h1=>?_)
 ·have h1':a.length≠b.length:=by
   rw [Ad,Ad] at h1
   simp at h1;omega
  refine AK.rz Tryz.func239 ?_
  have:T9 a b=false:=by
   cases h:T9 a b with
   | false=>rfl
   | true=>rw [Pk.1 h] at h1';exact absurd rfl h1'
  rw [this]
 have h1':a.length=b.length:=by
  rw [Ad,Ad] at h1
  simp at h1;omega
 refine AK.while_ (ι:=Nat) 0 0 (fun i=>i≤a.length∧a.take i=b.take i) (fun i=>[(17,vi i),(16,vi a.length),(15,.sl (Ai a) .no),(0,.sl (Ai a) .no),(1,.sl (Ai b) .no),(2,.fn 180 [])]) (fun _=>⟨[],[]⟩) (fun i=>a.length-i) ?_ 0
  ⟨Nat.zero_le _,by simp⟩ ⟨rfl,by rw [← Ad];rfl,rfl,rfl,rfl,rfl,trivial⟩
 intro i hi IH
 refine AK.ei (fun h2=>?_) (fun h2=>?_)
 ·have hlt:i<a.length:=by have:=of_decide_eq_true h2;omega
  obtain ⟨x,hx⟩:=Ab a hlt
  obtain ⟨y,hy⟩:=Ab b (i:=i) (by omega)
  refine AK.ix i (by omega) (Al hx) ?_
  refine AK.ix i (by omega) (Al hy) ?_
  refine AK.pc (h x (List.mem_of_getElem? hx) y (List.mem_of_getElem? hy)) ?_
  refine AK.if_ (fun h3=>?_) (fun h3=>?_)
  ·have h3':Ot x y=false:=by have:(!Ot x y)=true:=h3;simpa using this
   refine AK.rz Tryz.func239 ?_
   have:T9 a b=false:=by
    cases h:T9 a b with
    | false=>rfl
    | true =>
      have:=Pk.1 h
      subst this
      rw [hx] at hy;cases hy
      rw [Lx.2 rfl] at h3';cases h3'
   rw [this]
  ·have h3':Ot x y=true:=by have:(!Ot x y)=false:=h3;simpa using this
   have:=Lx.1 h3'
   subst this
   exact IH (i+1) ⟨hlt,by rw [List.take_add_one,List.take_add_one,hi.2,hx,hy]⟩ (by omega) _ _ ⟨vsx (by omega),rfl,rfl,rfl,rfl,rfl,trivial⟩ rfl rfl rfl
 ·have hie:i=a.length:=by have:=of_decide_eq_false h2;omega
  have he:=hi.2
  rw [hie] at he
  rw [List.take_length,h1',List.take_length] at he
  refine AK.rz Tryz.func239 ?_
  rw [Pk.2 he]
theorem Aq6 (a b:Nd)(ha:Af a≤1000000000)(hb:Af b≤1000000000):Pure X 180 [nd a,nd b] (vb (Ot a b)):=by
 induction a using Nd.ind generalizing b with
 | h a ih =>
   have hca:=Be a
   have hcb:=Be b
   have hla:=Ax a.kids
   have hlb:=Ax b.kids
   have hq:=Aks a.kids b.kids (by omega) (by omega) fun x hx y hy=>ih x hx y (by have:=Cw hx;omega) (by have:=Cw hy;omega)
   rw [Ak5]
   refine Pure.run Tryz.func180 ?_
   refine AK.gd (fun h1=>?_) (fun h1=>?_)
   ·have h1':(a.kind==b.kind)=true:=h1
    rw [h1',Bool.true_and]
    refine AK.gd (fun h2=>?_) (fun h2=>?_)
    ·have h2':(a.name==b.name)=true:=h2
     rw [h2',Bool.true_and]
     refine AK.gd (fun h3=>?_) (fun h3=>?_)
     ·have h3':(a.num==b.num)=true:=h3
      rw [h3',Bool.true_and]
      refine AK.pc hq ?_
      exact AK.rz Tryz.func180 rfl
     ·have h3':(a.num==b.num)=false:=h3
      rw [h3']
      exact AK.rz Tryz.func180 rfl
    ·have h2':(a.name==b.name)=false:=h2
     rw [h2']
     refine AK.gn ?_
     exact AK.rz Tryz.func180 rfl
   ·have h1':(a.kind==b.kind)=false:=h1
    rw [h1']
    refine AK.gn ?_
    refine AK.gn ?_
    exact AK.rz Tryz.func180 rfl
theorem Acw (b:Bool)(s:List UInt8)(h:Int):RinB [1] [0] [[bN (Jg 312 1 b) s h]] [[bN (Jg 312 0 b) s h]] :=
 have h1:RinC [1] [0] (Jg 312 1 b) (Jg 312 0 b):=inferInstance
 have h2:RinC [1] [0] (.buf 5 s 0) (.buf 5 s 0):=inferInstance
 have h3:Ren true [1] [0] (.sl [] .tight) (.sl [] .tight):=R0 .nil (.inr (.inr (.inr (.inl ⟨rfl,rfl⟩))))
 have h4:RinC [1] [0] (vi h) (vi h):=inferInstance
 ⟨.cons (.cons (.cons h1.s (.cons h2.s (.cons h3 (.cons h4.s .nil)))) .nil) .nil⟩
theorem Ahf {s:List UInt8}(h:(C5 s).2.1=0):(C5 s).2.2=0:=by
 unfold C5 at h ⊢
 split at h
 ·rename_i h0
  rw [if_pos h0]
  split at h
  ·simp at h
  ·rename_i hb
   rw [if_neg hb]
   split at h
   ·simp at h
   ·rename_i hl
    rw [if_neg hl]
 ·rename_i h0
  exact absurd h h0
theorem Z5 (s:List UInt8):Af (C5 s).1≤500:=by
 unfold C5
 split
 ·split
  ·show Af B2≤500;decide
  ·split
   ·show Af B2≤500;decide
   ·rename_i h;simp only;omega
 ·show Af B2≤500;decide
inductive PrI:Nd→Prop where
 | mk (k:Int) (s:List UInt8) (m:Int) (ks:List Nd) (h0:-9223372036854775808≤m) (h1:m≤9223372036854775807) (hk:∀ x,x∈ks→PrI x):PrI (.mk k s m ks)
theorem PrI.short {n:Nd}(h:PrI n)(hl:longN n=false):PrN n:=by
 induction h with
 | mk k s m ks h0 h1 hk ih =>
   rw [Abh,Bool.or_eq_false_iff] at hl
   obtain ⟨h2,h3⟩:=hl
   simp only [List.any_eq_false] at h3
   exact .mk k s m ks (by have:=of_decide_eq_false h2;simp at this;omega) h0 h1 fun x hx=>ih x hx (by have:=h3 x hx;simpa using this)
theorem Oh (l:List Nd):((Ai l).take (l.length-1)).drop 0=Ai l.dropLast:=by
 rw [Aj,Aj,List.drop_zero,← List.map_take,List.dropLast_eq_take]
set_option maxHeartbeats 1000000 in
theorem Ahp (n:Nd)(hn:Af n≤1000000000)(hnum:PrI n):Pure X 221 [nd n] (.tup [str (D8 n).1,vb (D8 n).2]):=by
 have hcn:=Be n
 have hll:=Ax n.kids
 have hfl:Mu X.P 268=some [0,0]:=by kernel_rfl
 refine Pure.run Tryz.func221 ?_
 refine AK.pc (X7 n (by omega)) ?_
 refine AK.gd (fun h1=>?_) (fun h1=>?_)
 ·have h1':Kc n=true:=h1
  refine AK.gy ?_
  refine AK.yes ?_
  have hP:D8 n=([],false):=by unfold D8;rw [if_pos (by simp [h1'])]
  rw [hP]
  exact AK.rz Tryz.func221 rfl
 have h1':Kc n=false:=h1
 refine AK.gd (fun h2=>?_) (fun h2=>?_)
 ·have h2':n.kids.isEmpty=true:=by
   rw [Ad] at h2
   simp at h2;simp [h2]
  refine AK.yes ?_
  have hP:D8 n=([],false):=by unfold D8;rw [if_pos (by simp [h2'])]
  rw [hP]
  exact AK.rz Tryz.func221 rfl
 have h2':n.kids.isEmpty=false:=by
  rw [Ad] at h2
  simp at h2;simpa using h2
 refine AK.pc (Aq4 n hn) ?_
 refine AK.if_ (fun h3=>?_) (fun h3=>?_)
 ·have h3':longN n=true:=h3
  have hP:D8 n=([],false):=by unfold D8;rw [if_pos (by simp [h3'])]
  rw [hP]
  exact AK.rz Tryz.func221 rfl
 have h3':longN n=false:=h3
 have hsm:Af n≤500∧B0 n≤24:=by
  simp only [Kc,decide_eq_false_iff_not] at h1'
  omega
 have hp:PrN n:=hnum.short h3'
 have hkne:n.kids≠[]:=by intro e;rw [e] at h2';simp at h2'
 have hpos:0<n.kids.length:=List.length_pos_iff.2 hkne
 obtain ⟨lst,hlst⟩:=Ab n.kids (i:=n.kids.length-1) (by omega)
 have hL:n.kids.getLastD B2=lst:=by
  rw [List.getLastD_eq_getLast?,List.getLast?_eq_getElem?,hlst];rfl
 have hlm:lst∈n.kids:=List.mem_of_getElem? hlst
 have hlp:=hp.get.2.2.2 lst hlm
 have hdn:=Gn n
 have hlc:=Cw hlm
 have hlcn:=Be lst
 have hw1:IntKind.i64.wrap (((Ai n.kids).length:Int)-1)=((n.kids.length-1:Nat):Int):=by rw [Ad];exact (Ac (by omega) (by omega)).trans (by omega)
 have hP:D8 n=(Qc n,!(Qc n==[])&&((C5 (Qc n)).2.1==0&&Ot (C5 (Qc n)).1 n)):=by unfold D8;rw [if_neg (by simp [h1',h2',h3'])]
 have hT:Qc n=G2 n.kids.dropLast 0++G2 lst.kids 0:=by rw [Qc,hL]
 have hS1:∀ x,x∈n.kids.dropLast→HS x∧0+B0 x≤60∧(Eo x 0).length≤1000*Af x:=fun x hx=>by
  have hm:=(List.dropLast_sublist _).subset hx
  have h1:=Cw hm
  have h2:=Dz hm
  have hx':=hp.get.2.2.2 x hm
  exact ⟨(Ae4 x hx' (by omega)).1,by omega,Afi x 0 hx' (by omega)⟩
 have hS2:∀ x,x∈lst.kids→HS x∧0+B0 x≤60∧(Eo x 0).length≤1000*Af x:=fun x hx=>by
  have h1:=Cw hx
  have h2:=Dz hx
  have h3:=Dz hlm
  have h4:=Gn lst
  have hx':=hlp.get.2.2.2 x hx
  exact ⟨(Ae4 x hx' (by omega)).1,by omega,Afi x 0 hx' (by omega)⟩
 have hcd:An n.kids.dropLast≤An n.kids:=by rw [List.dropLast_eq_take];exact Lj
 have hb1:=Z3 (l:=n.kids.dropLast) (h:=0) fun x hx=>(hS1 x hx).2.2
 have hb2:=Z3 (l:=lst.kids) (h:=0) fun x hx=>(hS2 x hx).2.2
 have hTl:(Qc n).length≤1000000:=by rw [hT];simp;omega
 have hdl:n.kids.dropLast.length≤1000:=by rw [List.length_dropLast];omega
 have hll2:=Ax lst.kids
 rw [hP]
 refine AK.dn 2 0 ?_
 refine Gz (fun S'=>Ndo.buildZ (cs:=[.pointer none,.slice none 0 0,.slice none 0 0,.int .i64 0]) rfl rfl rfl rfl rfl rfl) ?_
 refine Drv.w (Air 5 rfl rfl rfl rfl rfl rfl rfl rfl) ?_
 refine Drv.e ?_
 refine La (Aq (Ndo.ev rfl rfl rfl) (Aq (Ndo.ev rfl rfl rfl) Fp)) rfl ?_
 refine Drv.e ?_
 refine Drv.e ?_
 refine Drv.e ?_
 refine Drv.e ?_
 refine Drv.z ?_
 refine AK.as_ 5 (vi (n.kids.length-1:Nat)) ?_ (Bn hw1)
 refine AK.as_ 33 (vi (n.kids.length-1:Nat)) ?_ (Bn hw1)
 refine AK.op (Ul (l:=0) (h:=((n.kids.length-1:Nat):Int)) (r:=Ai n.kids.dropLast) rfl rfl rfl rfl rfl rfl rfl rfl rfl (by omega) (by omega) (by rw [Ad];omega) (Ct _) (by rw [Int.toNat_natCast];exact Oh _)) ?_
 refine AK.while_ (ι:=Nat × List UInt8 × Bool) 2 1 (fun i=>i.1≤n.kids.dropLast.length∧i.2.1++G2 (n.kids.dropLast.drop i.1) 0=G2 n.kids.dropLast 0)
  (fun i=>[(36,vi i.1),(35,vi n.kids.dropLast.length),(34,.sl (Ai n.kids.dropLast) .no),(4,.ptr 1 0 0),(1,.ptr 0 0 0),(5,vi (n.kids.length-1:Nat))])
  (fun i=>⟨[[Ae n],[bN (Jg 312 1 i.2.2) i.2.1 0]],[i.2.1.length]⟩) (fun i=>n.kids.dropLast.length-i.1) ?_ (0,[],true) ⟨Nat.zero_le _,rfl⟩ ⟨rfl,by rw [← Ad n.kids.dropLast];rfl,rfl,rfl,rfl,rfl,trivial⟩ rfl rfl rfl rfl rfl
  (fun _=>inferInstance) (fun _=>inferInstance)
 rintro ⟨i,out,c⟩ ⟨hi,hO⟩ IH
 simp only at hi hO IH ⊢
 have hol:=congrArg List.length hO
 simp only [List.length_append] at hol
 refine AK.ei (fun g1=>?_) (fun g1=>?_)
 ·have hlt:i<n.kids.dropLast.length:=by have:=of_decide_eq_true g1;omega
  obtain ⟨y,hy⟩:=Ab n.kids.dropLast hlt
  obtain ⟨hs1,hs2,hs3⟩:=hS1 y (List.mem_of_getElem? hy)
  rw [Ba hy] at hO hol
  simp only [G2,List.length_append] at hO hol
  refine AK.ix i (by omega) (Al hy) ?_
  refine AK.hc (hb:=Acw c out 0) (τ':=[0]) [1] [0] (hs1 c out 0 hs2 (by omega)) ?_
  exact IH (i+1,out++Eo y 0,false) ⟨hlt,by simpa using hO⟩ (by simp only;omega) _ _ ⟨vsx (by omega),rfl,rfl,rfl,rfl,rfl,trivial⟩ rfl rfl rfl
 have hie:i=n.kids.dropLast.length:=by have:=of_decide_eq_false g1;omega
 subst hie
 rw [List.drop_eq_nil_of_le (Nat.le_refl _)] at hO
 simp only [G2,List.append_nil] at hO
 subst hO
 refine AK.ix ((n.kids.length-1:Nat):Int) (by omega) (by rw [Int.toNat_natCast];exact Al hlst) ?_
 refine AK.while_ (ι:=Nat × List UInt8 × Bool) 2 1 (fun i=>i.1≤lst.kids.length∧i.2.1++G2 (lst.kids.drop i.1) 0=Qc n)
  (fun i=>[(51,vi i.1),(50,vi lst.kids.length),(49,.sl (Ai lst.kids) .no),(4,.ptr 1 0 0),(1,.ptr 0 0 0)])
  (fun i=>⟨[[Ae n],[bN (Jg 312 1 i.2.2) i.2.1 0]],[i.2.1.length]⟩) (fun i=>lst.kids.length-i.1) ?_ (0,G2 n.kids.dropLast 0,c) ⟨Nat.zero_le _,hT.symm⟩ ⟨rfl,by rw [← Ad lst.kids];rfl,rfl,rfl,rfl,trivial⟩ rfl rfl rfl rfl rfl
  (fun _=>inferInstance) (fun _=>inferInstance)
 rintro ⟨i,out,c⟩ ⟨hi,hO⟩ IH
 simp only at hi hO IH ⊢
 have hol:=congrArg List.length hO
 simp only [List.length_append] at hol
 refine AK.ei (fun g1=>?_) (fun g1=>?_)
 ·have hlt:i<lst.kids.length:=by have:=of_decide_eq_true g1;omega
  obtain ⟨y,hy⟩:=Ab lst.kids hlt
  obtain ⟨hs1,hs2,hs3⟩:=hS2 y (List.mem_of_getElem? hy)
  rw [Ba hy] at hO hol
  simp only [G2,List.length_append] at hO hol
  refine AK.ix i (by omega) (Al hy) ?_
  refine AK.hc (hb:=Acw c out 0) (τ':=[0]) [1] [0] (hs1 c out 0 hs2 (by omega)) ?_
  exact IH (i+1,out++Eo y 0,false) ⟨hlt,by simpa using hO⟩ (by simp only;omega) _ _ ⟨vsx (by omega),rfl,rfl,rfl,rfl,trivial⟩ rfl rfl rfl
 have hie:i=lst.kids.length:=by have:=of_decide_eq_false g1;omega
 subst hie
 rw [List.drop_eq_nil_of_le (Nat.le_refl _)] at hO
 simp only [G2,List.append_nil] at hO
 subst hO
 generalize Qc n=out at *
 have hpc:=Z5 out
 have hpa:=Ahf (s:=out)
 refine AK.hc (hb:=Acw c out 0) (τ':=[0]) [1] [0] (sN c out 0 (by omega)) ?_
 refine AK.pc (An9 out (by omega)) ?_
 generalize C5 out=T at hpc hpa ⊢
 obtain ⟨m,cd,at_⟩:=T
 simp only at hpc hpa ⊢
 refine AK.gd (fun g1=>?_) (fun g1=>?_)
 ·have g1':(out==[])=false:=by have:(!(out==[]))=true:=g1;simpa using this
  rw [g1',Bool.not_false,Bool.true_and]
  refine AK.op (O1 (r:=((cd==0)&&((at_==0)&&true))) rfl rfl rfl rfl rfl hfl rfl (.inl ⟨rfl,rfl⟩)) ?_
  refine AK.gd (fun g2=>?_) (fun g2=>?_)
  ·have g2':cd=0:=by simp at g2;exact g2.1
   refine AK.pc (Aq6 m n (by omega) hn) ?_
   refine AK.rz Tryz.func221 ?_
   simp [g2']
  ·have g2':¬ cd=0:=by
    intro h0
    have:=hpa h0
    simp [h0,this] at g2
   refine AK.rz Tryz.func221 ?_
   simp [g2']
 ·have g1':(out==[])=true:=by have:(!(out==[]))=false:=g1;simpa using this
  refine AK.gn ?_
  refine AK.rz Tryz.func221 ?_
  simp [g1']
theorem Ab5 (n:Nd)(hn:Af n≤1000000000)(hnum:PrI n):Pure X 161 [nd n] (vb (B7 n)):=by
 refine Pure.run Tryz.func161 ?_
 refine AK.pc (Ahp n hn hnum) ?_
 refine AK.rz Tryz.func161 ?_
 rw [(Adu n).1]
end Go.V
