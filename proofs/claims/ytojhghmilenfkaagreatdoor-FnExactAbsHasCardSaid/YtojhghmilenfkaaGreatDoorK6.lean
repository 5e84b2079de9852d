/- A part of the proof of the claim that the last text states: no condition of its own. -/
import Derived.Test.YtojhghmilenfkaaGreatDoorK5
import Derived.Laws.Cover3
import Derived.Lib.ItoaLen
import Derived.Lib.ItoaMem
set_option linter.unusedVariables false
set_option linter.unusedSimpArgs false
namespace Go.V
open Go Go.Proofs
inductive PrN:Nd→Prop where
 | mk (k:Int) (s:List UInt8) (m:Int) (ks:List Nd) (hs:s.length≤8) (h0:-9223372036854775808≤m) (h1:m≤9223372036854775807) (hk:∀ x,x∈ks→PrN x):PrN (.mk k s m ks)
def Bc (n:Nd)(i:Nat):Nd:=n.kids.getD i B8
theorem PrN.kid {n:Nd}(h:PrN n)(i:Nat):PrN (Bc n i):=by
 cases h with
 | mk k s m ks hs h0 h1 hk =>
   unfold Bc
   cases hx:ks[i]? with
   | none=>simp [Nd.kids,List.getD,hx];exact .mk 0 [] 0 [] (by simp) (by omega) (by omega) (fun x hx=>by cases hx)
   | some x=>simp [Nd.kids,List.getD,hx];exact hk x (List.mem_of_getElem? hx)
theorem Dm {l:List Nd}{x:Nd}(h:x∈l):Ai x≤Ar l:=by
 induction l with
 | nil=>cases h
 | cons y l ih =>
   simp only [Ar]
   rcases List.mem_cons.1 h with rfl | h
   ·omega
   ·have:=ih h;omega
theorem Jm (n:Nd)(i:Nat):Bc n i∈n.kids∨Bc n i=B8:=by
 unfold Bc
 cases hx:n.kids[i]? with
 | none=>right;simp [List.getD,hx]
 | some x=>left;simp [List.getD,hx];exact List.mem_of_getElem? hx
theorem Xx (n:Nd)(i:Nat)(hi:i≤1000000000)(hl:n.kids.length≤4000000000):Pure X 297 [nd n,vi i] (nd (Bc n i)):=by
 by_cases h:i<n.kids.length
 ·obtain ⟨x,hx⟩:=Aa n.kids h
  have hk:Bc n i=x:=by simp [Bc,List.getD,hx]
  rw [hk]
  refine Pure.run Tryz.func297 ?_
  refine AK.no ?_ (ht:=by simp [Ae];omega)
  refine AK.ix i (by omega) (Ao hx) ?_
  exact AK.rz Tryz.func297 rfl
 ·have hk:Bc n i=B8:=by simp [Bc,List.getD,List.getElem?_eq_none (Nat.le_of_not_lt h)]
  rw [hk]
  refine Pure.run Tryz.func297 ?_
  refine AK.yes ?_ (ht:=by simp [Ae];omega)
  exact AK.rz Tryz.func297 rfl
abbrev Jd:=List (List UInt8)
def eW (c:List (Int × Jd))(i:Nat):Jd:=(c.getD i (0,[])).2
def Ls (a b:Bool)(k:Int)(w:Jd):Jd:=if (a&&(k==6||k==7))||(b&&k==8) then [[40]]++w++[[41]] else w
def iW (c:List (Int × Jd))(i:Nat)(a b:Bool):Jd:=Ls a b (c.getD i (0,[])).1 (c.getD i (0,[])).2
def Dx (k:Int)(s:List UInt8)(m:Int)(c:List (Int × Jd)):Jd :=
 if k=1 then [Lib.itoa m]
 else if k=2 then [s]
 else if k=3 then [s,[91]]++eW c 0++[[93]]
 else if k=4 then [[108,101,110],[40],s,[41]]
 else if k=5 then [[32,45]]++iW c 0 true true
 else if k=6∨k=7 then eW c 0++[if k=6 then [43] else [45]]++iW c 1 true false
 else if k=8 then iW c 0 true false++[[42]]++iW c 1 true true
 else if 11≤k∧k≤16 then eW c 0++[P6 k]++eW c 1
 else []
mutual
def Ap:Nd→Jd
 | .mk k s m ks=>Dx k s m (Be ks)
def Be:List Nd→List (Int × Jd)
 | []=>[]
 | x::l=>(x.kind,Ap x)::Be l
end
theorem Zk (l:List Nd):Be l=l.map fun x=>(x.kind,Ap x):=by
 induction l with
 | nil=>rfl
 | cons x l ih=>simp [Be,ih]
theorem Za:Ap B8=[]:=rfl
theorem Zj (n:Nd)(i:Nat):(Be n.kids).getD i (0,[])=((Bc n i).kind,Ap (Bc n i)):=by
 rw [Zk]
 unfold Bc
 cases hx:n.kids[i]? with
 | none=>simp [List.getD,hx,Za];rfl
 | some x=>simp [List.getD,hx]
theorem Dt (n:Nd)(i:Nat):eW (Be n.kids) i=Ap (Bc n i):=by rw [eW,Zj]
theorem Uf (n:Nd)(i:Nat)(a b:Bool):iW (Be n.kids) i a b=Ls a b (Bc n i).kind (Ap (Bc n i)):=by rw [iW,Zj]
theorem W5 (n:Nd):Ap n=Dx n.kind n.name n.num (Be n.kids):=by cases n;rfl
theorem Ac9 (ks:List Nd)(ih:∀ x,x∈ks→(Ap x).length+2≤8*Ai x):(eW (Be ks) 0).length+(eW (Be ks) 1).length+4≤8*Ar ks+4∧∀ a b c d,(iW (Be ks) 0 a b).length+(iW (Be ks) 1 c d).length≤8*Ar ks:=by
 have hin:∀ a b k w,(Ls a b k w).length≤w.length+2:=fun a b k w=>by unfold Ls;split<;>simp
 cases ks with
 | nil=>refine ⟨by simp [eW,Be],fun a b c d=>by simp [iW,Ls,Be]⟩
 | cons x l =>
   have hx:=ih x (by simp)
   cases l with
   | nil =>
     refine ⟨by simp [eW,Be,Ar];omega,fun a b c d=>?_⟩
     have:=hin a b x.kind (Ap x)
     simp [iW,Be,Ar]
     have h2:(Ls c d 0 []).length=0:=by simp [Ls]
     rw [h2];omega
   | cons y l =>
     have hy:=ih y (by simp)
     refine ⟨by simp [eW,Be,Ar];omega,fun a b c d=>?_⟩
     have h1:=hin a b x.kind (Ap x)
     have h2:=hin c d y.kind (Ap y)
     simp [iW,Be,Ar]
     omega
theorem Y9 (n:Nd):(Ap n).length+2≤8*Ai n:=by
 induction n using Nd.ind with
 | h n ih =>
 have hc:=Bu n
 rw [W5]
 obtain ⟨h1,h2⟩:=Ac9 n.kids ih
 have h3:=h2 true true true true
 have h4:=h2 true false true true
 have h5:(iW (Be n.kids) 1 true false).length≤8*Ar n.kids-(eW (Be n.kids) 0).length:=by
  have:=h2 false false true false
  have e:iW (Be n.kids) 0 false false=eW (Be n.kids) 0:=by simp [iW,Ls,eW]
  rw [e] at this;omega
 unfold Dx
 repeat' split
 all_goals simp
 all_goals omega
abbrev PutC (r:List (List AV))(xs:Jd):Prop:=∀ (b:Bool)(s:List UInt8)(ws:Jd)(h:Int),ws.length≤1000000000 →
 Hands X 294 [.ptr 0 0 0,.sl r .no] ⟨[[bP (Kg 312 0 b) s ws h]],[s.length,ws.length]⟩ (.tup []) ⟨[[bP (Kg 312 0 b) s (ws++xs) h]],[s.length,(ws++xs).length]⟩
theorem Gm (x:List UInt8):PutC [[str x]] [x]:=fun b s ws h hw=>Ac7 b s ws [x] h (by simp;omega) rfl
theorem Ajq (x y:List UInt8):PutC [[str x],[str y]] [x,y]:=fun b s ws h hw=>Ac7 b s ws [x,y] h (by simp;omega) rfl
theorem Ayi (x y z:List UInt8):PutC [[str x],[str y],[str z]] [x,y,z]:=fun b s ws h hw=>Ac7 b s ws [x,y,z] h (by simp;omega) rfl
theorem Ayj (x y z u:List UInt8):PutC [[str x],[str y],[str z],[str u]] [x,y,z,u]:=fun b s ws h hw=>Ac7 b s ws [x,y,z,u] h (by simp;omega) rfl
theorem Axh (x y z u v:List UInt8):PutC [[str x],[str y],[str z],[str u],[str v]] [x,y,z,u,v]:=fun b s ws h hw=>Ac7 b s ws [x,y,z,u,v] h (by simp;omega) rfl
def HE (n:Nd):Prop:=∀ (b:Bool)(s:List UInt8)(ws:Jd)(h:Int),ws.length+(Ap n).length≤1000000 →
 Hands X 296 [.ptr 0 0 0,nd n] ⟨[[bP (Kg 312 0 b) s ws h]],[s.length,ws.length]⟩ (.tup []) ⟨[[bP (Kg 312 0 b) s (ws++Ap n) h]],[s.length,(ws++Ap n).length]⟩
theorem Pp (n:Nd)(he:HE n)(c b:Bool)(s:List UInt8)(ws:Jd)(h:Int)(hw:ws.length+(Ls true c n.kind (Ap n)).length≤1000000) :
 Hands X 314 [.ptr 0 0 0,nd n,vb true,vb c] ⟨[[bP (Kg 312 0 b) s ws h]],[s.length,ws.length]⟩ (.tup []) ⟨[[bP (Kg 312 0 b) s (ws++Ls true c n.kind (Ap n)) h]],[s.length,(ws++Ls true c n.kind (Ap n)).length]⟩:=by
 refine Hands.run (n:=1) (m:=2) Tryz.func314 ?_
 refine AK.gy ?_
 refine AK.gd (fun h6=>?_) (fun h6=>?_)
 ·have h6':n.kind=6:=by simpa using h6
  refine AK.gy ?_
  refine AK.yes ?_
  have hI:Ls true c n.kind (Ap n)=[[40]]++Ap n++[[41]]:=by unfold Ls;rw [if_pos (by simp [h6'])]
  rw [hI] at hw ⊢
  simp at hw
  refine AK.hc (τ':=[0,1]) [0] [0,1] (Gm [40] b s ws h (by omega)) ?_
  refine AK.hc (τ':=[0,1]) [0] [0,1] (he b s (ws++[[40]]) h (by simp;omega)) ?_
  refine AK.hc (τ':=[0,1]) [0] [0,1] (Gm [41] b s (ws++[[40]]++Ap n) h (by simp;omega)) ?_
  rw [← List.append_assoc,← List.append_assoc]
  exact AK.rb Tryz.func314 rfl rfl
 have h6':n.kind≠6:=by simpa using h6
 refine AK.gd (fun h7=>?_) (fun h7=>?_)
 ·have h7':n.kind=7:=by simpa using h7
  refine AK.yes ?_
  have hI:Ls true c n.kind (Ap n)=[[40]]++Ap n++[[41]]:=by unfold Ls;rw [if_pos (by simp [h7'])]
  rw [hI] at hw ⊢
  simp at hw
  refine AK.hc (τ':=[0,1]) [0] [0,1] (Gm [40] b s ws h (by omega)) ?_
  refine AK.hc (τ':=[0,1]) [0] [0,1] (he b s (ws++[[40]]) h (by simp;omega)) ?_
  refine AK.hc (τ':=[0,1]) [0] [0,1] (Gm [41] b s (ws++[[40]]++Ap n) h (by simp;omega)) ?_
  rw [← List.append_assoc,← List.append_assoc]
  exact AK.rb Tryz.func314 rfl rfl
 have h7':n.kind≠7:=by simpa using h7
 cases c
 ·refine AK.gn ?_
  refine AK.no ?_
  have hI:Ls true false n.kind (Ap n)=Ap n:=by unfold Ls;rw [if_neg (by simp [h6',h7'])]
  rw [hI] at hw ⊢
  refine AK.hc (τ':=[0,1]) [0] [0,1] (he b s ws h (by omega)) ?_
  exact AK.fb Tryz.func314 rfl rfl
 ·refine AK.gy ?_
  refine AK.if_ (fun h8=>?_) (fun h8=>?_)
  ·have h8':n.kind=8:=by simpa using h8
   have hI:Ls true true n.kind (Ap n)=[[40]]++Ap n++[[41]]:=by unfold Ls;rw [if_pos (by simp [h8'])]
   rw [hI] at hw ⊢
   simp at hw
   refine AK.hc (τ':=[0,1]) [0] [0,1] (Gm [40] b s ws h (by omega)) ?_
   refine AK.hc (τ':=[0,1]) [0] [0,1] (he b s (ws++[[40]]) h (by simp;omega)) ?_
   refine AK.hc (τ':=[0,1]) [0] [0,1] (Gm [41] b s (ws++[[40]]++Ap n) h (by simp;omega)) ?_
   rw [← List.append_assoc,← List.append_assoc]
   exact AK.rb Tryz.func314 rfl rfl
  ·have h8':n.kind≠8:=by simpa using h8
   have hI:Ls true true n.kind (Ap n)=Ap n:=by unfold Ls;rw [if_neg (by simp [h6',h7',h8'])]
   rw [hI] at hw ⊢
   refine AK.hc (τ':=[0,1]) [0] [0,1] (he b s ws h (by omega)) ?_
   exact AK.fb Tryz.func314 rfl rfl
theorem Alv (k:Int)(s:List UInt8)(m:Int)(c:List (Int × Jd))(h:k≠1∧k≠2∧k≠3∧k≠4∧k≠5∧k≠6∧k≠7∧k≠8):Dx k s m c=if 11≤k∧k≤16 then eW c 0++[P6 k]++eW c 1 else []:=by
 obtain ⟨h1,h2,h3,h4,h5,h6,h7,h8⟩:=h
 unfold Dx
 rw [if_neg h1,if_neg h2,if_neg h3,if_neg h4,if_neg h5,if_neg (by simp [h6,h7]),if_neg h8]
theorem Wr {X:Cx}{S:St}{F:B3}{N:Nat}{ops:Array Oper}{i:Nat}{o:Oper}{t:TypeId}{ps:Array (Nat × Operand)}{vals:List (Nat × Value)}{cs:Array Value}(h:X.P.built t vals=some cs)(ho:ops[i]?=some o:=by rfl)(hw:A2 ops F o=some true:=by rfl)
 (hop:o.op=.build t ps:=by rfl)(hv:∀ a:Act,ps.toList.map (fun x=>(x.1,a.eval x.2))=vals:=by intro a;rfl):Ndo X N ops i o F (.agg (cs.toList.map Ff)) S S:=by
 refine Ndo.val ho hw fun F' E w a hc hI hF=>?_
 refine ⟨.agg cs,?_,.agg _ _ (by simp) fun j v x hv hx=>?_⟩
 ·have hrun:=run_build (P:=X.P) w t (ps.map fun x=>(x.1,a.eval x.2)) cs (by rw [Array.toList_map,hv a];exact h)
  simp [execOp,hop,hrun]
 ·simp [hv] at hx
  subst hx
  exact K9 v
theorem Acu:X.P.built 337 [(0,.string ⟨#[43]⟩),(1,.string ⟨#[45]⟩)]=some #[.string ⟨#[43]⟩,.string ⟨#[45]⟩]:=by kernel_rfl
theorem Ag8 (n:Nd)(hp:PrN n)(hsz:Ai n≤100000)(ih:n.kind≠0→∀ i,HE (Bc n i)):HE n:=by
 intro b s ws h hw
 have hkl:n.kids.length≤4000000000:=by have:=A9 n.kids;have:=Bu n;omega
 have q0:=Xx n 0 (by omega) hkl
 have q1:=Xx n 1 (by omega) hkl
 have hE:Ap n=Dx n.kind n.name n.num (Be n.kids):=W5 n
 rw [hE] at hw ⊢
 have pn:n.name.length≤8∧-9223372036854775808≤n.num∧n.num≤9223372036854775807:=by cases hp with | mk k s m ks hs h0 h1 hk=>exact ⟨hs,h0,h1⟩
 refine Hands.run (n:=1) (m:=2) Tryz.func296 ?_
 refine AK.if_ (fun h1=>?_) (fun h1=>?_)
 ·have h1':n.kind=1:=by simpa using h1
  have hT:Dx n.kind n.name n.num (Be n.kids)=[Lib.itoa n.num]:=by unfold Dx;rw [if_pos h1']
  rw [hT] at hw ⊢
  refine AK.pc (Afs n.num pn.2.1 pn.2.2) ?_
  refine AK.hc (τ':=[0,1]) [0] [0,1] (Gm (Lib.itoa n.num) b s ws h (by omega)) ?_
  exact AK.fb Tryz.func296 rfl rfl
 have h1':n.kind≠1:=by simpa using h1
 refine AK.if_ (fun h2=>?_) (fun h2=>?_)
 ·have h2':n.kind=2:=by simpa using h2
  have hT:Dx n.kind n.name n.num (Be n.kids)=[n.name]:=by unfold Dx;rw [if_neg h1',if_pos h2']
  rw [hT] at hw ⊢
  refine AK.hc (τ':=[0,1]) [0] [0,1] (Gm n.name b s ws h (by omega)) ?_
  exact AK.fb Tryz.func296 rfl rfl
 have h2':n.kind≠2:=by simpa using h2
 refine AK.if_ (fun h3=>?_) (fun h3=>?_)
 ·have h3':n.kind=3:=by simpa using h3
  have hT:Dx n.kind n.name n.num (Be n.kids)=[n.name,[91]]++Ap (Bc n 0)++[[93]]:=by unfold Dx;rw [if_neg h1',if_neg h2',if_pos h3',Dt]
  rw [hT] at hw ⊢
  simp at hw
  have e0:=ih (by omega) 0
  refine AK.hc (τ':=[0,1]) [0] [0,1] (Ajq n.name [91] b s ws h (by omega)) ?_
  refine AK.pc q0 ?_
  refine AK.hc (τ':=[0,1]) [0] [0,1] (e0 b s (ws++[n.name,[91]]) h (by simp;omega)) ?_
  refine AK.hc (τ':=[0,1]) [0] [0,1] (Gm [93] b s (ws++[n.name,[91]]++Ap (Bc n 0)) h (by simp;omega)) ?_
  rw [← List.append_assoc,← List.append_assoc]
  exact AK.fb Tryz.func296 rfl rfl
 have h3':n.kind≠3:=by simpa using h3
 refine AK.if_ (fun h4=>?_) (fun h4=>?_)
 ·have h4':n.kind=4:=by simpa using h4
  have hT:Dx n.kind n.name n.num (Be n.kids)=[[108,101,110],[40],n.name,[41]]:=by unfold Dx;rw [if_neg h1',if_neg h2',if_neg h3',if_pos h4']
  rw [hT] at hw ⊢
  refine AK.hc (τ':=[0,1]) [0] [0,1] (Ayj [108,101,110] [40] n.name [41] b s ws h (by omega)) ?_
  exact AK.fb Tryz.func296 rfl rfl
 have h4':n.kind≠4:=by simpa using h4
 refine AK.if_ (fun h5=>?_) (fun h5=>?_)
 ·have h5':n.kind=5:=by simpa using h5
  have hT:Dx n.kind n.name n.num (Be n.kids)=[[32,45]]++Ls true true (Bc n 0).kind (Ap (Bc n 0)):=by unfold Dx;rw [if_neg h1',if_neg h2',if_neg h3',if_neg h4',if_pos h5',Uf]
  rw [hT] at hw ⊢
  simp at hw
  have e0:=ih (by omega) 0
  refine AK.hc (τ':=[0,1]) [0] [0,1] (Gm [32,45] b s ws h (by omega)) ?_
  refine AK.pc q0 ?_
  refine AK.hc (τ':=[0,1]) [0] [0,1] (Pp (Bc n 0) e0 true b s (ws++[[32,45]]) h (by simp;omega)) ?_
  rw [← List.append_assoc]
  exact AK.fb Tryz.func296 rfl rfl
 have h5':n.kind≠5:=by simpa using h5
 refine AK.if_ (fun h6=>?_) (fun h6=>?_)
 ·have h6':n.kind=6:=by simpa using h6
  have hT:Dx n.kind n.name n.num (Be n.kids)=Ap (Bc n 0)++[[43]]++Ls true false (Bc n 1).kind (Ap (Bc n 1)):=by
   unfold Dx;rw [if_neg h1',if_neg h2',if_neg h3',if_neg h4',if_neg h5',if_pos (by simp [h6']),Dt,Uf]
   simp [h6']
  rw [hT] at hw ⊢
  simp at hw
  have e0:=ih (by omega) 0
  have e1:=ih (by omega) 1
  refine AK.pc q0 ?_
  refine AK.hc (τ':=[0,1]) [0] [0,1] (e0 b s ws h (by omega)) ?_
  refine AK.op (Wr Acu) ?_
  have hwk:IntKind.i64.wrap (n.kind-6)=0:=by rw [h6'];rfl
  refine AK.op (Wo (n:=IntKind.i64.wrap (n.kind-6)) (x:=str [43]) rfl rfl rfl rfl rfl rfl rfl rfl rfl (by omega) (by omega) (by rw [hwk];rfl)) ?_
  refine AK.hc (τ':=[0,1]) [0] [0,1] (Gm [43] b s (ws++Ap (Bc n 0)) h (by simp;omega)) ?_
  refine AK.pc q1 ?_
  refine AK.hc (τ':=[0,1]) [0] [0,1] (Pp (Bc n 1) e1 false b s (ws++Ap (Bc n 0)++[[43]]) h (by simp;omega)) ?_
  rw [← List.append_assoc,← List.append_assoc]
  exact AK.fb Tryz.func296 rfl rfl
 have h6':n.kind≠6:=by simpa using h6
 refine AK.if_ (fun h7=>?_) (fun h7=>?_)
 ·have h7':n.kind=7:=by simpa using h7
  have hT:Dx n.kind n.name n.num (Be n.kids)=Ap (Bc n 0)++[[45]]++Ls true false (Bc n 1).kind (Ap (Bc n 1)):=by
   unfold Dx;rw [if_neg h1',if_neg h2',if_neg h3',if_neg h4',if_neg h5',if_pos (by simp [h7']),Dt,Uf]
   simp [h7']
  rw [hT] at hw ⊢
  simp at hw
  have e0:=ih (by omega) 0
  have e1:=ih (by omega) 1
  refine AK.pc q0 ?_
  refine AK.hc (τ':=[0,1]) [0] [0,1] (e0 b s ws h (by omega)) ?_
  refine AK.op (Wr Acu) ?_
  have hwk:IntKind.i64.wrap (n.kind-6)=1:=by rw [h7'];rfl
  refine AK.op (Wo (n:=IntKind.i64.wrap (n.kind-6)) (x:=str [45]) rfl rfl rfl rfl rfl rfl rfl rfl rfl (by omega) (by omega) (by rw [hwk];rfl)) ?_
  refine AK.hc (τ':=[0,1]) [0] [0,1] (Gm [45] b s (ws++Ap (Bc n 0)) h (by simp;omega)) ?_
  refine AK.pc q1 ?_
  refine AK.hc (τ':=[0,1]) [0] [0,1] (Pp (Bc n 1) e1 false b s (ws++Ap (Bc n 0)++[[45]]) h (by simp;omega)) ?_
  rw [← List.append_assoc,← List.append_assoc]
  exact AK.fb Tryz.func296 rfl rfl
 have h7':n.kind≠7:=by simpa using h7
 refine AK.if_ (fun h8=>?_) (fun h8=>?_)
 ·have h8':n.kind=8:=by simpa using h8
  have hT:Dx n.kind n.name n.num (Be n.kids)=Ls true false (Bc n 0).kind (Ap (Bc n 0))++[[42]]++Ls true true (Bc n 1).kind (Ap (Bc n 1)):=by
   unfold Dx;rw [if_neg h1',if_neg h2',if_neg h3',if_neg h4',if_neg h5',if_neg (by simp [h6',h7']),if_pos h8',Uf,Uf]
  rw [hT] at hw ⊢
  simp at hw
  have e0:=ih (by omega) 0
  have e1:=ih (by omega) 1
  refine AK.pc q0 ?_
  refine AK.hc (τ':=[0,1]) [0] [0,1] (Pp (Bc n 0) e0 false b s ws h (by omega)) ?_
  refine AK.hc (τ':=[0,1]) [0] [0,1] (Gm [42] b s (ws++Ls true false (Bc n 0).kind (Ap (Bc n 0))) h (by simp;omega)) ?_
  refine AK.pc q1 ?_
  refine AK.hc (τ':=[0,1]) [0] [0,1] (Pp (Bc n 1) e1 true b s (ws++Ls true false (Bc n 0).kind (Ap (Bc n 0))++[[42]]) h (by simp;omega)) ?_
  rw [← List.append_assoc,← List.append_assoc]
  exact AK.fb Tryz.func296 rfl rfl
 have h8':n.kind≠8:=by simpa using h8
 have hlo:=Alv n.kind n.name n.num (Be n.kids) ⟨h1',h2',h3',h4',h5',h6',h7',h8'⟩
 refine AK.if_ (fun h11=>?_) (fun h11=>?_)
 ·have hk:n.kind=11:=by simpa using h11
  have hT:Dx n.kind n.name n.num (Be n.kids)=Ap (Bc n 0)++[[60]]++Ap (Bc n 1):=by
   rw [hlo,if_pos (by omega),Dt,Dt,hk];rfl
  rw [hT] at hw ⊢
  simp at hw
  have e0:=ih (by omega) 0
  have e1:=ih (by omega) 1
  refine AK.pc q0 ?_
  refine AK.hc (τ':=[0,1]) [0] [0,1] (e0 b s ws h (by omega)) ?_
  have hwk:IntKind.i64.wrap (n.kind-11)=0:=by rw [hk];rfl
  refine AK.op (Ji (n:=IntKind.i64.wrap (n.kind-11)) (r:=str [60]::condG.drop 1) rfl rfl rfl rfl rfl rfl rfl rfl (by rw [hwk];omega) (by rw [hwk];omega) (by rw [hwk];decide) (by rw [hwk];rfl)) ?_
  refine AK.hc (τ':=[0,1]) [0] [0,1] (Gm [60] b s (ws++Ap (Bc n 0)) h (by simp;omega)) ?_
  refine AK.pc q1 ?_
  refine AK.hc (τ':=[0,1]) [0] [0,1] (e1 b s (ws++Ap (Bc n 0)++[[60]]) h (by simp;omega)) ?_
  rw [← List.append_assoc,← List.append_assoc]
  exact AK.fb Tryz.func296 rfl rfl
 have h11':n.kind≠11:=by simpa using h11
 refine AK.if_ (fun h12=>?_) (fun h12=>?_)
 ·have hk:n.kind=12:=by simpa using h12
  have hT:Dx n.kind n.name n.num (Be n.kids)=Ap (Bc n 0)++[[60,61]]++Ap (Bc n 1):=by
   rw [hlo,if_pos (by omega),Dt,Dt,hk];rfl
  rw [hT] at hw ⊢
  simp at hw
  have e0:=ih (by omega) 0
  have e1:=ih (by omega) 1
  refine AK.pc q0 ?_
  refine AK.hc (τ':=[0,1]) [0] [0,1] (e0 b s ws h (by omega)) ?_
  have hwk:IntKind.i64.wrap (n.kind-11)=1:=by rw [hk];rfl
  refine AK.op (Ji (n:=IntKind.i64.wrap (n.kind-11)) (r:=str [60,61]::condG.drop 2) rfl rfl rfl rfl rfl rfl rfl rfl (by rw [hwk];omega) (by rw [hwk];omega) (by rw [hwk];decide) (by rw [hwk];rfl)) ?_
  refine AK.hc (τ':=[0,1]) [0] [0,1] (Gm [60,61] b s (ws++Ap (Bc n 0)) h (by simp;omega)) ?_
  refine AK.pc q1 ?_
  refine AK.hc (τ':=[0,1]) [0] [0,1] (e1 b s (ws++Ap (Bc n 0)++[[60,61]]) h (by simp;omega)) ?_
  rw [← List.append_assoc,← List.append_assoc]
  exact AK.fb Tryz.func296 rfl rfl
 have h12':n.kind≠12:=by simpa using h12
 refine AK.if_ (fun h13=>?_) (fun h13=>?_)
 ·have hk:n.kind=13:=by simpa using h13
  have hT:Dx n.kind n.name n.num (Be n.kids)=Ap (Bc n 0)++[[62]]++Ap (Bc n 1):=by
   rw [hlo,if_pos (by omega),Dt,Dt,hk];rfl
  rw [hT] at hw ⊢
  simp at hw
  have e0:=ih (by omega) 0
  have e1:=ih (by omega) 1
  refine AK.pc q0 ?_
  refine AK.hc (τ':=[0,1]) [0] [0,1] (e0 b s ws h (by omega)) ?_
  have hwk:IntKind.i64.wrap (n.kind-11)=2:=by rw [hk];rfl
  refine AK.op (Ji (n:=IntKind.i64.wrap (n.kind-11)) (r:=str [62]::condG.drop 3) rfl rfl rfl rfl rfl rfl rfl rfl (by rw [hwk];omega) (by rw [hwk];omega) (by rw [hwk];decide) (by rw [hwk];rfl)) ?_
  refine AK.hc (τ':=[0,1]) [0] [0,1] (Gm [62] b s (ws++Ap (Bc n 0)) h (by simp;omega)) ?_
  refine AK.pc q1 ?_
  refine AK.hc (τ':=[0,1]) [0] [0,1] (e1 b s (ws++Ap (Bc n 0)++[[62]]) h (by simp;omega)) ?_
  rw [← List.append_assoc,← List.append_assoc]
  exact AK.fb Tryz.func296 rfl rfl
 have h13':n.kind≠13:=by simpa using h13
 refine AK.if_ (fun h14=>?_) (fun h14=>?_)
 ·have hk:n.kind=14:=by simpa using h14
  have hT:Dx n.kind n.name n.num (Be n.kids)=Ap (Bc n 0)++[[62,61]]++Ap (Bc n 1):=by
   rw [hlo,if_pos (by omega),Dt,Dt,hk];rfl
  rw [hT] at hw ⊢
  simp at hw
  have e0:=ih (by omega) 0
  have e1:=ih (by omega) 1
  refine AK.pc q0 ?_
  refine AK.hc (τ':=[0,1]) [0] [0,1] (e0 b s ws h (by omega)) ?_
  have hwk:IntKind.i64.wrap (n.kind-11)=3:=by rw [hk];rfl
  refine AK.op (Ji (n:=IntKind.i64.wrap (n.kind-11)) (r:=str [62,61]::condG.drop 4) rfl rfl rfl rfl rfl rfl rfl rfl (by rw [hwk];omega) (by rw [hwk];omega) (by rw [hwk];decide) (by rw [hwk];rfl)) ?_
  refine AK.hc (τ':=[0,1]) [0] [0,1] (Gm [62,61] b s (ws++Ap (Bc n 0)) h (by simp;omega)) ?_
  refine AK.pc q1 ?_
  refine AK.hc (τ':=[0,1]) [0] [0,1] (e1 b s (ws++Ap (Bc n 0)++[[62,61]]) h (by simp;omega)) ?_
  rw [← List.append_assoc,← List.append_assoc]
  exact AK.fb Tryz.func296 rfl rfl
 have h14':n.kind≠14:=by simpa using h14
 refine AK.if_ (fun h15=>?_) (fun h15=>?_)
 ·have hk:n.kind=15:=by simpa using h15
  have hT:Dx n.kind n.name n.num (Be n.kids)=Ap (Bc n 0)++[[61,61]]++Ap (Bc n 1):=by
   rw [hlo,if_pos (by omega),Dt,Dt,hk];rfl
  rw [hT] at hw ⊢
  simp at hw
  have e0:=ih (by omega) 0
  have e1:=ih (by omega) 1
  refine AK.pc q0 ?_
  refine AK.hc (τ':=[0,1]) [0] [0,1] (e0 b s ws h (by omega)) ?_
  have hwk:IntKind.i64.wrap (n.kind-11)=4:=by rw [hk];rfl
  refine AK.op (Ji (n:=IntKind.i64.wrap (n.kind-11)) (r:=str [61,61]::condG.drop 5) rfl rfl rfl rfl rfl rfl rfl rfl (by rw [hwk];omega) (by rw [hwk];omega) (by rw [hwk];decide) (by rw [hwk];rfl)) ?_
  refine AK.hc (τ':=[0,1]) [0] [0,1] (Gm [61,61] b s (ws++Ap (Bc n 0)) h (by simp;omega)) ?_
  refine AK.pc q1 ?_
  refine AK.hc (τ':=[0,1]) [0] [0,1] (e1 b s (ws++Ap (Bc n 0)++[[61,61]]) h (by simp;omega)) ?_
  rw [← List.append_assoc,← List.append_assoc]
  exact AK.fb Tryz.func296 rfl rfl
 have h15':n.kind≠15:=by simpa using h15
 refine AK.if_ (fun h16=>?_) (fun h16=>?_)
 ·have hk:n.kind=16:=by simpa using h16
  have hT:Dx n.kind n.name n.num (Be n.kids)=Ap (Bc n 0)++[[33,61]]++Ap (Bc n 1):=by
   rw [hlo,if_pos (by omega),Dt,Dt,hk];rfl
  rw [hT] at hw ⊢
  simp at hw
  have e0:=ih (by omega) 0
  have e1:=ih (by omega) 1
  refine AK.pc q0 ?_
  refine AK.hc (τ':=[0,1]) [0] [0,1] (e0 b s ws h (by omega)) ?_
  have hwk:IntKind.i64.wrap (n.kind-11)=5:=by rw [hk];rfl
  refine AK.op (Ji (n:=IntKind.i64.wrap (n.kind-11)) (r:=str [33,61]::condG.drop 6) rfl rfl rfl rfl rfl rfl rfl rfl (by rw [hwk];omega) (by rw [hwk];omega) (by rw [hwk];decide) (by rw [hwk];rfl)) ?_
  refine AK.hc (τ':=[0,1]) [0] [0,1] (Gm [33,61] b s (ws++Ap (Bc n 0)) h (by simp;omega)) ?_
  refine AK.pc q1 ?_
  refine AK.hc (τ':=[0,1]) [0] [0,1] (e1 b s (ws++Ap (Bc n 0)++[[33,61]]) h (by simp;omega)) ?_
  rw [← List.append_assoc,← List.append_assoc]
  exact AK.fb Tryz.func296 rfl rfl
 have h16':n.kind≠16:=by simpa using h16
 have hT:Dx n.kind n.name n.num (Be n.kids)=[]:=by rw [hlo,if_neg (by omega)]
 rw [hT,List.append_nil]
 exact AK.fb Tryz.func296 rfl rfl
theorem Aw1:HE B8:=Ag8 B8 (.mk 0 [] 0 [] (by simp) (by omega) (by omega) (fun x hx=>by cases hx)) (by decide) fun h=>absurd rfl h
theorem Abg (n:Nd)(hp:PrN n)(hsz:Ai n≤100000):HE n:=by
 induction n using Nd.ind with
 | h n ih =>
   refine Ag8 n hp hsz fun _ i=>?_
   rcases Jm n i with h | h
   ·have hc:=Dm h
    have:=Bu n
    exact ih _ h (hp.kid i) (by omega)
   ·rw [h];exact Aw1
def Sep:List UInt8→Prop
 | []=>True
 | c::_=>(Ct c||digit c)=false
inductive Lex:List UInt8→List (List UInt8)→Prop where
 | nil:Lex [] []
 | blank (c:UInt8) (t:List UInt8) (ws:List (List UInt8)) (hc:c=32∨c=10) (h:Lex t ws):Lex (c::t) ws
 | wrd (w t:List UInt8) (ws:List (List UInt8)) (hk:B6 w≠0) (he:Io (w++t)=w.length) (h:Lex t ws):Lex (w++t) (w::ws)
theorem Qu:B6 []=0:=by decide
theorem Xe {c:UInt8}{l:List UInt8}(h:B6 (c::l)≠0):c≠32∧c≠10∧c≠35:=by
 have key:∀ d:UInt8,d=32∨d=10∨d=35→B6 (d::l)=0:=by
  intro d hd
  have h1:has Ps (d::l)=false:=by rcases hd with rfl | rfl | rfl<;>simp [has,Ps]
  have h2:nameS (d::l)=false:=by
   have:Ct d=false:=by rcases hd with rfl | rfl | rfl<;>decide
   simp [nameS,this]
  have h3:¬ Cb (d::l)≥0:=by
   have:digit d=false:=by rcases hd with rfl | rfl | rfl<;>decide
   have h48:(d==48)=false:=by rcases hd with rfl | rfl | rfl<;>decide
   simp only [Cb]
   split
   ·omega
   ·simp [h48,Ni,this]
  have h4:has Hl (d::l)=false:=by rcases hd with rfl | rfl | rfl<;>simp [has,Hl]
  simp [B6,h1,h2,h3,h4]
 refine ⟨fun e=>h (key c (.inl e)),fun e=>h (key c (.inr (.inl e))),fun e=>h (key c (.inr (.inr e)))⟩
theorem Aj3 {w t:List UInt8}(hk:B6 w≠0):Bl false (w++t)=0:=by
 cases w with
 | nil=>exact absurd Qu hk
 | cons c l =>
   obtain ⟨h1,h2,h3⟩:=Xe hk
   simp [Bl,h1,h2,h3]
theorem Aum {s:List UInt8}{ws:List (List UInt8)}(h:Lex s ws):∀ (f a:Nat)(out:List Wd),(s.drop (Bl false s)).length<f→(Et f a (s.drop (Bl false s)) out).2.1=0 →
 (Et f a (s.drop (Bl false s)) out).1.map Wd.text=out.map Wd.text++ws:=by
 induction h with
 | nil =>
   intro f a out hf h0
   cases f with
   | zero=>simp at hf
   | succ f=>simp [Bl,Et]
 | blank c t ws hc h ih =>
   intro f a out hf h0
   have e:(c::t).drop (Bl false (c::t))=t.drop (Bl false t):=by
    have:Bl false (c::t)=1+Bl false t:=by rcases hc with rfl | rfl<;>simp [Bl]
    rw [this,Nat.add_comm];rfl
   rw [e] at hf h0 ⊢
   exact ih f a out hf h0
 | wrd w t ws hk he h ih =>
   intro f a out hf h0
   rw [Aj3 hk,List.drop_zero] at hf h0 ⊢
   cases f with
   | zero=>simp at hf
   | succ f =>
     cases w with
     | nil=>exact absurd Qu hk
     | cons c l =>
       have ht:((c::l)++t).take (Io ((c::l)++t))=c::l:=by rw [he];exact List.take_left
       have hd:((c::l)++t).drop (Io ((c::l)++t))=t:=by rw [he];exact List.drop_left
       have hd2:∀ b,((c::l)++t).drop (Io ((c::l)++t)+b)=t.drop b:=fun b=>by rw [← List.drop_drop,hd]
       rw [List.cons_append] at ht hd hd2 hf h0 ⊢
       simp only [Et] at h0 ⊢
       rw [ht,hd,hd2] at h0 ⊢
       rw [if_neg (by simpa using hk)] at h0 ⊢
       split at h0
       ·simp at h0
       ·rename_i hn
        rw [if_neg hn]
        have:=ih f (a+Io (c::(l++t))+Bl false t) (out++[⟨B6 (c::l),c::l,a⟩]) (by simp at hf ⊢;omega) h0
        rw [this];simp
theorem Ai8 {s:List UInt8}{ws:List (List UInt8)}(h:Lex s ws)(h0:(Bz s).2.1=0):(Bz s).1.map Wd.text=ws:=by
 unfold Bz at h0 ⊢
 split at h0
 ·simp at h0
 ·rename_i h1
  rw [if_neg h1]
  have:=Aum h (s.length+1) (Bl false s) [] (by simp;omega) h0
  simpa using this
theorem Vy {t:List UInt8}(ht:Sep t):∀ w:List UInt8,Nt w=true→Ed (w++t)=w.length
 | [],_=>by
   cases t with
   | nil=>rfl
   | cons c t=>simp only [Sep] at ht;simp [Ed,ht]
 | c::l,h=>by
   simp only [Nt,List.all_cons,Bool.and_eq_true] at h
   simp only [List.cons_append,Ed,h.1,if_true]
   rw [Vy ht l h.2];simp;omega
theorem Lex.al {w t:List UInt8}{ws:List (List UInt8)}(hw:Nt w=true)(hk:B6 w≠0)(hs:Sep t)(h:Lex t ws):Lex (w++t) (w::ws):=by
 refine .wrd w t ws hk ?_ h
 cases w with
 | nil=>exact absurd Qu hk
 | cons c l =>
   have hc:(Ct c||digit c)=true:=by simp only [Nt,List.all_cons,Bool.and_eq_true] at hw;exact hw.1
   rw [← Vy hs (c::l) hw]
   simp only [List.cons_append,Io,hc,if_true]
abbrev R5:List UInt8:=[43,45,42,40,41,91,93,123,125,59,63]
theorem Lex.sg {c:UInt8}{t:List UInt8}{ws:List (List UInt8)}(hc:c∈R5)(h:Lex t ws):Lex (c::t) ([c]::ws):=by
 have h1:∀ c:UInt8,c∈R5→B6 [c]≠0∧(Ct c||digit c)=false:=by decide
 obtain ⟨h2,h3⟩:=h1 c hc
 refine .wrd [c] t ws h2 ?_ h
 show Io (c::t)=1
 cases t with
 | nil=>simp [Io,h3]
 | cons d l =>
   have:has Hl [c,d]=false:=by
    simp at hc
    rcases hc with rfl | rfl | rfl | rfl | rfl | rfl | rfl | rfl | rfl | rfl | rfl<;>simp [has,Hl]
   simp [Io,h3,this]
abbrev Lb:List (List UInt8):=[[60],[60,61],[62],[62,61],[61,61],[33,61],[61]]
theorem Aeo {w t:List UInt8}{ws:List (List UInt8)}(hw:w∈Lb)(h:Lex t ws):Lex (w++32::t) (w::ws):=by
 have h1:∀ w,w∈Lb→B6 w≠0:=by decide
 refine .wrd w (32::t) ws (h1 w hw) ?_ (.blank 32 t ws (.inl rfl) h)
 simp at hw
 rcases hw with rfl | rfl | rfl | rfl | rfl | rfl | rfl<;>rfl
theorem Jq {s:List UInt8}(h:nameS s=true):Nt s=true∧B6 s=1:=by
 cases s with
 | nil=>simp [nameS] at h
 | cons c l =>
   have h':=h
   simp only [nameS,Bool.and_eq_true,decide_eq_true_eq,Bool.not_eq_true'] at h'
   refine ⟨h'.2,?_⟩
   simp [B6,h'.1.2,h]
theorem Lex.name {s t:List UInt8}{ws:List (List UInt8)}(hn:nameS s=true)(hs:Sep t)(h:Lex t ws):Lex (s++t) (s::ws) :=
 .al (Jq hn).1 (by rw [(Jq hn).2];decide) hs h
theorem M5 (n:Nat)(h:n≤1000000):Nt (Ja n)=true∧B6 (Ja n)=2:=by
 have hd:=Pl n
 have hp:=Aaz n
 have hN:=Md n h
 generalize Ja n=l at hd hp hN
 cases l with
 | nil=>simp at hp
 | cons c l =>
   have hd':=hd
   simp only [Pk,List.all_cons,Bool.and_eq_true,List.all_eq_true] at hd'
   have hdc:=Ih hd'.1
   have hlc:Ct c=false:=by simp [Ct,Aj];omega
   refine ⟨?_,?_⟩
   ·simp only [Nt,List.all_eq_true,Bool.or_eq_true]
    intro x hx
    right
    rcases List.mem_cons.1 hx with rfl | hx
    ·exact hd'.1
    ·exact hd'.2 x hx
   ·have h1:has Ps (c::l)=false:=by
     simp only [has,List.any_eq_false]
     intro k hk he
     have he:=beq_iff_eq.1 he
     have:∀ k,k∈Ps→∀ d l',k=d::l'→97≤d.toNat:=by
      intro k hk d l' e
      simp only [Ps,List.mem_cons,List.not_mem_nil,or_false] at hk
      rcases hk with rfl | rfl | rfl | rfl | rfl | rfl | rfl | rfl | rfl | rfl | rfl | rfl | rfl<;>(injection e with e1 e2;subst e1;decide)
     have:=this k hk c l he
     omega
    have h2:nameS (c::l)=false:=by simp [nameS,hlc]
    simp [B6,h1,h2,hN]
theorem Lex.num {n:Nat}{t:List UInt8}{ws:List (List UInt8)}(hn:n≤1000000)(hs:Sep t)(h:Lex t ws):Lex (Ja n++t) (Ja n::ws) :=
 .al (M5 n hn).1 (by rw [(M5 n hn).2];decide) hs h
theorem Lex.key {s t:List UInt8}{ws:List (List UInt8)}(hn:s∈Ps)(hs:Sep t)(h:Lex t ws):Lex (s++t) (s::ws):=by
 have:∀ s,s∈Ps→Nt s=true∧B6 s≠0:=by decide
 exact .al (this s hn).1 (this s hn).2 hs h
theorem Lex.sp {t:List UInt8}{ws:List (List UInt8)}(h:Lex t ws):Lex (32::t) ws:=.blank 32 t ws (.inl rfl) h
theorem Pd {t:List UInt8}{ws:List (List UInt8)}(h:Lex t ws):Lex (10::t) ws:=.blank 10 t ws (.inr rfl) h
def Gx (l:Int)(k:Int)(w:List (List UInt8)):List (List UInt8):=if I8 k<l then [[40]]++w++[[41]] else w
def Ce:Nd→List (List UInt8)
 | .mk k s m []=>if k=1 then [Ja m.toNat] else if k=4 then [[108,101,110],[40],s,[41]] else [s]
 | .mk k s _ [a]=>if k=3 then [s,[91]]++Ce a++[[93]] else [[45]]++Gx 3 a.kind (Ce a)
 | .mk k _ _ (a::b::_) =>
   if k=6 then Gx 1 a.kind (Ce a)++[[43]]++Gx 2 b.kind (Ce b)
   else if k=7 then Gx 1 a.kind (Ce a)++[[45]]++Gx 2 b.kind (Ce b)
   else if k=8 then Gx 2 a.kind (Ce a)++[[42]]++Gx 3 b.kind (Ce b)
   else Ce a++[P6 k]++Ce b
def LexP (t:List UInt8)(ws:List (List UInt8)):Prop:=∀ (u:List UInt8)(vs:List (List UInt8)),Sep u→Lex u vs→Lex (t++u) (ws++vs)
theorem LexP.par {l k:Int}{t:List UInt8}{ws:List (List UInt8)}(h:LexP t ws):LexP (Jb l k t) (Gx l k ws):=by
 unfold Jb Gx
 split
 ·intro u vs hs hu
  have:=h (41::u) ([41]::vs) (by simp only [Sep];decide) (Lex.sg (by simp) hu)
  have:=Lex.sg (c:=40) (by simp) this
  simpa using this
 ·exact h
theorem Jg (t:List UInt8):Sep (32::t):=by simp only [Sep];decide
theorem Afj {n:Nd}(h:FE n):LexP (Ba n) (Ce n):=by
 induction h with
 | num m h0 h1=>intro u vs hs hu;simp only [Ba,Ce,if_true];exact Lex.num (by omega) hs hu
 | var s h=>intro u vs hs hu;simp only [Ba,Ce,if_true];exact Lex.name h hs hu
 | cell s a h ha ih =>
   intro u vs hs hu
   have h1:=ih (93::u) ([93]::vs) (by simp only [Sep];decide) (Lex.sg (by simp) hu)
   have h2:=Lex.name h (by simp only [Sep];decide) (Lex.sg (c:=91) (by simp) h1)
   simpa [Ba,Ce] using h2
 | len s h =>
   intro u vs hs hu
   have h1:=Lex.name h (by simp only [Sep];decide) (Lex.sg (c:=41) (by simp) hu)
   have h2:=Lex.key (s:=[108,101,110]) (by decide) (by simp only [Sep];decide) (Lex.sg (c:=40) (by simp) h1)
   simpa [Ba,Ce] using h2
 | neg a ha ih =>
   intro u vs hs hu
   have h1:=Lex.sg (c:=45) (by simp) ((ih.par (l:=3) (k:=a.kind)) u vs hs hu)
   simpa [Ba,Ce] using h1
 | two k a b hk ha hb iha ihb =>
   have go:∀ (l l':Int) (c:UInt8),c∈R5→LexP (Jb l a.kind (Ba a)++[32,c,32]++Jb l' b.kind (Ba b)) (Gx l a.kind (Ce a)++[[c]]++Gx l' b.kind (Ce b)):=by
    intro l l' c hc u vs hs hu
    have h1:=(ihb.par (l:=l') (k:=b.kind)) u vs hs hu
    have h2:=(iha.par (l:=l) (k:=a.kind)) _ _ (Jg _) (Lex.sp (Lex.sg hc (Lex.sp h1)))
    simpa using h2
   rcases hk with rfl | rfl | rfl
   ·simpa [Ba,Ce] using go 1 2 43 (by simp)
   ·simpa [Ba,Ce] using go 1 2 45 (by simp)
   ·simpa [Ba,Ce] using go 2 3 42 (by simp)
theorem Uz (k:Int):P6 k∈Lb:=by
 unfold P6;repeat' split
 all_goals simp
theorem Aul {n:Nd}(h:FC n):LexP (Ba n) (Ce n):=by
 cases h with
 | mk k a b h0 h1 ha hb =>
   intro u vs hs hu
   have i1:=Afj hb u vs hs hu
   have i2:=Afj ha _ _ (Jg _) (Lex.sp (Aeo (Uz k) i1))
   have ne:¬ k=6∧¬ k=7∧¬ k=8:=by omega
   simpa [Ba,Ce,ne.1,ne.2.1,ne.2.2] using i2
mutual
def Fp:Nd→List (List UInt8)
 | .mk k s m [] =>
   if k=31 then [Ke,s,[59]]
   else if k=32 then [Dh,s,[91],if 0≤m then Ja m.toNat else [63],[93],[59]]
   else if k=23 then [Fx,s,[59]]
   else if k=28 then [F4,[59]]
   else [Gf,[59]]
 | .mk k s _ [a]=>if k=21 then [s,[61]]++Ce a++[[59]] else [Dv]++Ce a++[[59]]
 | .mk k s _ [a,.mk k' s' m' l] =>
   if k=22 then [s,[91]]++Ce a++[[93],[61]]++Ce (.mk k' s' m' l)++[[59]]
   else [D5]++Ce a++[[123]]++Gg l++[[125]]
 | .mk k s _ (a::.mk k' s' m' l'::.mk _ _ _ l::_) =>
   if k=26 then [I9,s,Gw]++Ce a++[Vx]++Ce (.mk k' s' m' l')++[[123]]++Gg l++[[125]]
   else [Q8]++Ce a++[[123]]++Gg l'++[[125]] ++
    (match l with
      | []=>[]
      | _=>[Fw,[123]]++Gg l++[[125]])
def Gg:List Nd→List (List UInt8)
 | []=>[]
 | x::l=>Fp x++Gg l
end
theorem Lex.pad {t:List UInt8}{ws:List (List UInt8)}(h:Lex t ws):∀ p:List UInt8,(∀ c,c∈p→c=32)→Lex (p++t) ws
 | [],_=>h
 | c::p,hp=>by
   have:=hp c (by simp)
   subst this
   exact .sp (Lex.pad h p fun c hc=>hp c (by simp [hc]))
def Ao3 (t:List UInt8)(ws:List (List UInt8)):Prop:=∀ (u:List UInt8)(vs:List (List UInt8)),Lex u vs→Lex (t++u) (ws++vs)
theorem K5 {l:List Nd}{p:List UInt8}(h:∀ x,x∈l→Ao3 (Bp x p) (Fp x)):Ao3 (Fs l p) (Gg l):=by
 induction l with
 | nil=>intro u vs hu;simpa [Fs,Gg] using hu
 | cons x l ih =>
   intro u vs hu
   have h1:=ih (fun y hy=>h y (by simp [hy])) u vs hu
   have h2:=h x (by simp) _ _ h1
   simpa [Fs,Gg] using h2
theorem X7 (c:UInt8)(t:List UInt8)(h:(Ct c||digit c)=false:=by decide):Sep (c::t):=h
def padOk (p:List UInt8):Prop:=∀ c,c∈p→c=32
theorem padOk.more {p:List UInt8}(h:padOk p):padOk (p++[32,32]):=by
 intro c hc
 rcases List.mem_append.1 hc with hc | hc
 ·exact h c hc
 ·simp at hc;exact hc
theorem J4 {u:List UInt8}{vs:List (List UInt8)}(h:Lex u vs):Lex (59::10::u) ([59]::vs):=Lex.sg (by simp) (Pd h)
theorem Ayc {x:Nd}(h:FV x)(p:List UInt8)(hp:padOk p):Ao3 (Bp x p) (Fp x):=by
 cases h with
 | var s h =>
   intro u vs hu
   have h1:=Lex.name h (X7 _ _) (J4 hu)
   have h2:=(Lex.key (s:=Ke) (by decide) (Jg _) (Lex.sp h1)).pad p hp
   simpa [Bp,Fp] using h2
 | arr s m h h0 h1 =>
   intro u vs hu
   have key:∀ (t w:List UInt8),(∀ u vs,Sep u→Lex u vs→Lex (t++u) (w::vs))→Lex (p++Dh++32::(s++91::(t++93::59::10::u))) (Dh::s::[91]::w::[93]::[59]::vs):=by
    intro t w ht
    have h1:=ht _ _ (X7 _ _) (Lex.sg (c:=93) (by simp) (J4 hu))
    have h2:=Lex.name h (X7 _ _) (Lex.sg (c:=91) (by simp) h1)
    have h3:=(Lex.key (s:=Dh) (by decide) (Jg _) (Lex.sp h2)).pad p hp
    simpa using h3
   by_cases g:0≤m
   ·have:=key (Ja m.toNat) (Ja m.toNat) (fun u vs hs hu=>Lex.num (by omega) hs hu)
    simpa [Bp,Fp,g] using this
   ·have:=key [63] [63] (fun u vs hs hu=>Lex.sg (by simp) hu)
    simpa [Bp,Fp,g] using this
theorem Ayb {x:Nd}(h:FS x):∀ p:List UInt8,padOk p→Ao3 (Bp x p) (Fp x):=by
 induction h with
 | set s a h ha =>
   intro p hp u vs hu
   have h1:=Afj ha _ _ (X7 _ _) (J4 hu)
   have h2:=(Lex.name h (Jg _) (Lex.sp (Aeo (w:=[61]) (by simp) h1))).pad p hp
   simpa [Bp,Fp] using h2
 | put s a b h ha hb =>
   intro p hp u vs hu
   have h1:=Afj hb _ _ (X7 _ _) (J4 hu)
   have h2:=Afj ha _ _ (X7 _ _) (Lex.sg (c:=93) (by simp) (Lex.sp (Aeo (w:=[61]) (by simp) h1)))
   have h3:=(Lex.name h (X7 _ _) (Lex.sg (c:=91) (by simp) h2)).pad p hp
   obtain ⟨k',s',m',l'⟩:=b
   simpa [Bp,Fp] using h3
 | read s h =>
   intro p hp u vs hu
   have h1:=Lex.name h (X7 _ _) (J4 hu)
   have h2:=(Lex.key (s:=Fx) (by decide) (Jg _) (Lex.sp h1)).pad p hp
   simpa [Bp,Fp] using h2
 | ifs c l l' hc hl hl' ihl ihl' =>
   intro p hp u vs hu
   have fin:Lex (125::10::u) ([125]::vs):=Lex.sg (by simp) (Pd hu)
   have go:∀ (t:List UInt8) (w:List (List UInt8)),Lex t w→Lex (p++Q8++32::(Ba c++32::123::10::(Fs l (p++[32,32])++(p++t)))) (Q8::(Ce c++[123]::(Gg l++w))):=by
    intro t w ht
    have h1:=K5 (fun x hx=>ihl x hx (p++[32,32]) hp.more) _ _ (ht.pad p hp)
    have h2:=Aul hc _ _ (Jg _) (Lex.sp (Lex.sg (c:=123) (by simp) (Pd h1)))
    have h3:=(Lex.key (s:=Q8) (by decide) (Jg _) (Lex.sp h2)).pad p hp
    simpa using h3
   cases l' with
   | nil=>simpa [Bp,Fp] using go _ _ fin
   | cons y l' =>
     have h1:=K5 (fun x hx=>ihl' x hx (p++[32,32]) hp.more) _ _ (fin.pad p hp)
     have h2:=Lex.sg (c:=125) (by simp) (Lex.sp (Lex.key (s:=Fw) (by decide) (Jg _) (Lex.sp (Lex.sg (c:=123) (by simp) (Pd h1)))))
     simpa [Bp,Fp] using go _ _ h2
 | whil c l hc hl ihl =>
   intro p hp u vs hu
   have fin:Lex (125::10::u) ([125]::vs):=Lex.sg (by simp) (Pd hu)
   have h1:=K5 (fun x hx=>ihl x hx (p++[32,32]) hp.more) _ _ (fin.pad p hp)
   have h2:=Aul hc _ _ (Jg _) (Lex.sp (Lex.sg (c:=123) (by simp) (Pd h1)))
   have h3:=(Lex.key (s:=D5) (by decide) (Jg _) (Lex.sp h2)).pad p hp
   simpa [Bp,Fp] using h3
 | for_ s a b l h ha hb hl ihl =>
   intro p hp u vs hu
   have fin:Lex (125::10::u) ([125]::vs):=Lex.sg (by simp) (Pd hu)
   have h1:=K5 (fun x hx=>ihl x hx (p++[32,32]) hp.more) _ _ (fin.pad p hp)
   have h2:=Afj hb _ _ (Jg _) (Lex.sp (Lex.sg (c:=123) (by simp) (Pd h1)))
   have h3:=Afj ha _ _ (Jg _) (Lex.sp (Lex.key (s:=Vx) (by decide) (Jg _) (Lex.sp h2)))
   have h4:=Lex.name h (Jg _) (Lex.sp (Lex.key (s:=Gw) (by decide) (Jg _) (Lex.sp h3)))
   have h5:=(Lex.key (s:=I9) (by decide) (Jg _) (Lex.sp h4)).pad p hp
   obtain ⟨k',s',m',l'⟩:=b
   simpa [Bp,Fp] using h5
 | check c hc =>
   intro p hp u vs hu
   have h1:=Aul hc _ _ (X7 _ _) (J4 hu)
   have h2:=(Lex.key (s:=Dv) (by decide) (Jg _) (Lex.sp h1)).pad p hp
   simpa [Bp,Fp] using h2
 | skip =>
   intro p hp u vs hu
   have h2:=(Lex.key (s:=F4) (by decide) (X7 _ _) (J4 hu)).pad p hp
   simpa [Bp,Fp] using h2
 | stop =>
   intro p hp u vs hu
   have h2:=(Lex.key (s:=Gf) (by decide) (X7 _ _) (J4 hu)).pad p hp
   simpa [Bp,Fp] using h2
theorem Aya {ds l:List Nd}(hd:∀ x,x∈ds→FV x)(hl:∀ x,x∈l→FS x):Lex (Fs ds []++Fs l []) (Gg ds++Gg l):=by
 have h1:=K5 (p:=[]) (fun x hx=>Ayb (hl x hx) [] (fun c hc=>by cases hc)) [] [] .nil
 have h2:=K5 (p:=[]) (fun x hx=>Ayc (hd x hx) [] (fun c hc=>by cases hc)) _ _ h1
 simpa using h2
structure At (r:RS)(xs:List (List UInt8)):Prop where
 good:r.bad=false
 wk:r.wk
 ws:(r.ws.drop r.at_).map Wd.text=xs
def Iq (xs:List (List UInt8)):List UInt8:=xs.headD []
section
variable {r:RS}{x:List UInt8}{xs:List (List UInt8)}
theorem At.get (h:At r (x::xs)):∃ w,r.ws[r.at_]?=some w∧w.text=x∧w.kind=B6 x:=by
 have h1:=congrArg (fun l:List (List UInt8)=>l[0]?) h.ws
 simp at h1
 obtain ⟨w,hw,rfl⟩:=h1
 exact ⟨w,hw,rfl,h.wk w (List.mem_of_getElem? hw)⟩
theorem At.kind (h:At r (x::xs)):r.kind=B6 x:=by
 obtain ⟨w,hw,_,hk⟩:=h.get
 simp [RS.kind,hw,hk]
theorem At.lt (h:At r (x::xs)):r.at_<r.ws.length:=by
 obtain ⟨w,hw,_⟩:=h.get
 exact Ad hw
theorem At.ge (h:At r []):r.ws.length≤r.at_:=by
 have:=congrArg List.length h.ws
 simp at this;omega
theorem At.text (h:At r xs):r.text=Iq xs:=by
 cases xs with
 | nil=>simp [RS.text,List.getElem?_eq_none h.ge,Iq]
 | cons x xs =>
   obtain ⟨w,hw,ht,_⟩:=h.get
   simp [RS.text,hw,ht,Iq]
theorem At.step (h:At r (x::xs)):At r.step xs:=by
 refine ⟨h.good,h.wk,?_⟩
 have:=congrArg List.tail h.ws
 simp only [List.tail_cons] at this
 rw [← this]
 simp [RS.step]
theorem At.takes (h:At r xs)(s:List UInt8):r.takes s=(Iq xs==s):=by simp [RS.takes,h.good,h.text]
theorem At.no (h:At r xs){s:List UInt8}(hs:Iq xs≠s):r.takes s=false:=by rw [h.takes];simpa using hs
theorem At.yes (h:At r (x::xs)):r.takes x=true:=by rw [h.takes];simp [Iq]
theorem At.need (h:At r (x::xs)):r.need x=r.step:=by simp [RS.need,h.yes]
theorem At.named (h:At r (x::xs))(hn:nameS x=true):r.named=true∧r.name=x∧r.nameR=r.step:=by
 have hk:r.kind=1:=by rw [h.kind,(Jq hn).2]
 have:r.named=true:=by simp [RS.named,h.good,hk]
 refine ⟨this,?_,?_⟩
 ·simp [RS.name,this,h.text,Iq]
 ·simp [RS.nameR,this]
end
theorem kne {a b:List UInt8}(h:B6 a≠B6 b):a≠b:=fun e=>h (by rw [e])
theorem Fe {s:List UInt8}(h:nameS s=true)(b:List UInt8)(hb:B6 b≠1:=by decide):s≠b:=kne (by rw [(Jq h).2];exact fun e=>hb e.symm)
theorem Aut {m:Nat}(h:m≤1000000)(b:List UInt8)(hb:B6 b≠2:=by decide):Ja m≠b:=kne (by rw [(M5 m h).2];exact fun e=>hb e.symm)
def Q1 (ws:List (List UInt8))(n:Nd)(B:Nat):Prop:=∀ (f:Nat)(r:RS)(xs:List (List UInt8)),B≤f→At r (ws++xs)→Iq xs≠[91]→∃ r',Df f r=(n,r')∧At r' xs
def Q2 (ws:List (List UInt8))(n:Nd)(B:Nat):Prop:=∀ (f:Nat)(r:RS)(xs:List (List UInt8)),B≤f→At r (ws++xs)→Iq xs≠[91]→∃ r' g,f≤g+Ai n∧Cp f r=E5 g n r'∧At r' xs
def Q3 (ws:List (List UInt8))(n:Nd)(B:Nat):Prop:=∀ (f:Nat)(r:RS)(xs:List (List UInt8)),B≤f→At r (ws++xs)→Iq xs≠[91]→Iq xs≠[42]→∃ r' g,f≤g+Ai n∧C4 f r=Eh g n r'∧At r' xs
theorem T8 (n:Nd):1≤Ai n:=by rw [Bu];omega
theorem Q1.mono {ws:List (List UInt8)}{n:Nd}{B B':Nat}(h:Q1 ws n B)(hb:B≤B'):Q1 ws n B':=fun f r xs hf=>h f r xs (by omega)
theorem Q2.mono {ws:List (List UInt8)}{n:Nd}{B B':Nat}(h:Q2 ws n B)(hb:B≤B'):Q2 ws n B':=fun f r xs hf=>h f r xs (by omega)
theorem Q3.mono {ws:List (List UInt8)}{n:Nd}{B B':Nat}(h:Q3 ws n B)(hb:B≤B'):Q3 ws n B':=fun f r xs hf=>h f r xs (by omega)
theorem Aaa {g:Nat}{n:Nd}{r:RS}{xs:List (List UInt8)}(h:At r xs)(hs:Iq xs≠[42]):E5 g n r=(n,r):=by
 cases g with
 | zero=>simp [E5]
 | succ g=>simp [E5,h.no hs]
theorem Ua {g:Nat}{n:Nd}{r:RS}{xs:List (List UInt8)}(h:At r xs)(hs:Iq xs≠[43])(hs':Iq xs≠[45]):Eh g n r=(n,r):=by
 cases g with
 | zero=>simp [Eh]
 | succ g=>simp [Eh,h.no hs,h.no hs']
theorem Awb {ws:List (List UInt8)}{n:Nd}{B:Nat}(h:Q1 ws n B):Q2 ws n (B+1):=by
 intro f r xs hf ha hs
 obtain ⟨g,rfl⟩:∃ g,f=g+1:=⟨f-1,by omega⟩
 obtain ⟨r',h1,h2⟩:=h g r xs (by omega) ha hs
 refine ⟨r',g,by have:=T8 n;omega,?_,h2⟩
 simp [Cp,h1]
theorem Awc {ws:List (List UInt8)}{n:Nd}{B:Nat}(h:Q2 ws n B):Q3 ws n (B+1):=by
 intro f r xs hf ha hs hs'
 obtain ⟨g,rfl⟩:∃ g,f=g+1:=⟨f-1,by omega⟩
 obtain ⟨r',g',h1,h2,h3⟩:=h g r xs (by omega) ha hs
 refine ⟨r',g,by have:=T8 n;omega,?_,h3⟩
 rw [Aaa h3 hs'] at h2
 simp [C4,h2]
theorem Awd {ws:List (List UInt8)}{n:Nd}{B:Nat}(h:Q3 ws n B):Q1 ([[40]]++ws++[[41]]) n (B+1):=by
 intro f r xs hf ha hs
 obtain ⟨g,rfl⟩:∃ g,f=g+1:=⟨f-1,by omega⟩
 have ha':At r ([40]::(ws++[41]::xs)):=by simpa using ha
 obtain ⟨r',g',h1,h2,h3⟩:=h g r.step ([41]::xs) (by omega) ha'.step (by simp [Iq]) (by simp [Iq])
 rw [Ua h3 (by simp [Iq]) (by simp [Iq])] at h2
 refine ⟨r'.step,?_,h3.step⟩
 have hk:¬ (r.kind==2)=true:=by rw [ha'.kind];decide
 have h45:r.takes [45]=false:=ha'.no (by simp [Iq])
 rw [Df,if_neg (by simp [ha'.good]),if_neg (by simp [h45]),if_neg hk,if_pos ha'.yes,h2]
 simp [h3.need]
theorem Amv {m:Int}(h0:0≤m)(h1:m≤1000000):Q1 [Ja m.toNat] (.mk 1 [] m []) 1:=by
 intro f r xs hf ha hs
 obtain ⟨g,rfl⟩:∃ g,f=g+1:=⟨f-1,by omega⟩
 have ha':At r (Ja m.toNat::xs):=ha
 have hm:m.toNat≤1000000:=by omega
 refine ⟨r.step,?_,ha'.step⟩
 have hk:(r.kind==2)=true:=by rw [ha'.kind,(M5 _ hm).2];rfl
 have h45:r.takes [45]=false:=ha'.no (Aut hm [45])
 rw [Df,if_neg (by simp [ha'.good]),if_neg (by simp [h45]),if_pos hk,ha'.text]
 simp only [Iq,List.headD_cons]
 rw [Md _ hm]
 congr 2
 omega
theorem Zq {f:Nat}{r:RS}{s:List UInt8}{xs:List (List UInt8)}(hn:nameS s=true)(ha:At r (s::xs)) :
 Df (f+1) r=if r.step.takes [91] then (.mk 3 s 0 [(C4 f r.step.step).1],(C4 f r.step.step).2.need [93]) else (.mk 2 s 0 [],r.step):=by
 obtain ⟨_,h2,h3⟩:=ha.named hn
 have hk:¬ (r.kind==2)=true:=by rw [ha.kind,(Jq hn).2];decide
 have h45:r.takes [45]=false:=ha.no (Fe hn [45])
 have h40:r.takes [40]=false:=ha.no (Fe hn [40])
 have hl:r.takes [108,101,110]=false:=ha.no (Fe hn _)
 rw [Df,if_neg (by simp [ha.good]),if_neg (by simp [h45]),if_neg hk,if_neg (by simp [h40]),if_neg (by simp [hl]),h2,h3]
theorem Avk {n:Nd}(h:FE n):Q1 (Gx 3 n.kind (Ce n)) n (3*Ai n)∧Q2 (Gx 2 n.kind (Ce n)) n (3*Ai n)∧Q3 (Ce n) n (3*Ai n):=by
 have t3:∀ {n:Nd} {B:Nat},I8 n.kind=3→B+2≤3*Ai n→Q1 (Ce n) n B→Q1 (Gx 3 n.kind (Ce n)) n (3*Ai n)∧Q2 (Gx 2 n.kind (Ce n)) n (3*Ai n)∧Q3 (Ce n) n (3*Ai n):=by
  intro n B ht hB hq
  have e3:Gx 3 n.kind (Ce n)=Ce n:=by unfold Gx;rw [ht,if_neg (by omega)]
  have e2:Gx 2 n.kind (Ce n)=Ce n:=by unfold Gx;rw [ht,if_neg (by omega)]
  rw [e3,e2]
  exact ⟨hq.mono (by omega),(Awb hq).mono (by omega),(Awc (Awb hq)).mono (by omega)⟩
 induction h with
 | num m h0 h1 =>
   refine t3 (B:=1) rfl (by simp [Ai,Ar]) ?_
   simpa [Ce] using Amv h0 h1
 | var s h =>
   refine t3 (B:=1) rfl (by simp [Ai,Ar]) ?_
   intro f r xs hf ha hs
   obtain ⟨g,rfl⟩:∃ g,f=g+1:=⟨f-1,by omega⟩
   have ha':At r (s::xs):=by simpa [Ce] using ha
   refine ⟨r.step,?_,ha'.step⟩
   rw [Zq h ha',if_neg (by simp [ha'.step.no hs])]
 | cell s a h ha ih =>
   refine t3 (B:=3*Ai a+1) rfl (by simp [Ai,Ar];omega) ?_
   intro f r xs hf ha hs
   obtain ⟨g,rfl⟩:∃ g,f=g+1:=⟨f-1,by omega⟩
   have ha':At r (s::[91]::(Ce a++[93]::xs)):=by simpa [Ce] using ha
   obtain ⟨r',g',h1,h2,h3⟩:=ih.2.2 g r.step.step ([93]::xs) (by omega) ha'.step.step (by simp [Iq]) (by simp [Iq])
   rw [Ua h3 (by simp [Iq]) (by simp [Iq])] at h2
   refine ⟨r'.step,?_,h3.step⟩
   rw [Zq h ha',if_pos ha'.step.yes,h2]
   simp [h3.need]
 | len s h =>
   refine t3 (B:=1) rfl (by simp [Ai,Ar]) ?_
   intro f r xs hf ha hs
   obtain ⟨g,rfl⟩:∃ g,f=g+1:=⟨f-1,by omega⟩
   have ha':At r ([108,101,110]::[40]::s::[41]::xs):=by simpa [Ce] using ha
   obtain ⟨_,e2,e3⟩:=ha'.step.step.named h
   refine ⟨r.step.step.step.step,?_,ha'.step.step.step.step⟩
   have hk:¬ (r.kind==2)=true:=by rw [ha'.kind];decide
   have h45:r.takes [45]=false:=ha'.no (by simp [Iq])
   have h40:r.takes [40]=false:=ha'.no (by simp [Iq])
   rw [Df,if_neg (by simp [ha'.good]),if_neg (by simp [h45]),if_neg hk,if_neg (by simp [h40]),if_pos ha'.yes,ha'.step.need,e2,e3,ha'.step.step.step.need]
 | neg a ha ih =>
   refine t3 (B:=3*Ai a+1) rfl (by simp [Ai,Ar];omega) ?_
   intro f r xs hf ha hs
   obtain ⟨g,rfl⟩:∃ g,f=g+1:=⟨f-1,by omega⟩
   have ha':At r ([45]::(Gx 3 a.kind (Ce a)++xs)):=by simpa [Ce] using ha
   obtain ⟨r',h1,h2⟩:=ih.1 g r.step xs (by omega) ha'.step hs
   refine ⟨r',?_,h2⟩
   rw [Df,if_neg (by simp [ha'.good]),if_pos ha'.yes,h1]
 | two k a b hk ha hb iha ihb =>
   have hc:Ai (Nd.mk k [] 0 [a,b])=1+(Ai a+Ai b):=by simp [Ai,Ar]
   have sum:∀ (kk:Int) (c:UInt8),(kk=6∧c=43)∨(kk=7∧c=45)→Q3 (Ce a++[[c]]++Gx 2 b.kind (Ce b)) (.mk kk [] 0 [a,b]) (3*Ai (Nd.mk k [] 0 [a,b])-2):=by
    intro kk c hkc f r xs hf ht hs hs'
    have hck:Ai (Nd.mk kk [] 0 [a,b])=1+(Ai a+Ai b):=by simp [Ai,Ar]
    have ha':At r (Ce a++([c]::(Gx 2 b.kind (Ce b)++xs))):=by simpa using ht
    have c1:Iq ([c]::(Gx 2 b.kind (Ce b)++xs))≠[91]:=by rcases hkc with ⟨_,rfl⟩ | ⟨_,rfl⟩<;>simp [Iq]
    have c2:Iq ([c]::(Gx 2 b.kind (Ce b)++xs))≠[42]:=by rcases hkc with ⟨_,rfl⟩ | ⟨_,rfl⟩<;>simp [Iq]
    obtain ⟨r1,g1,h1,h2,h3⟩:=iha.2.2 f r _ (by omega) ha' c1 c2
    obtain ⟨g,rfl⟩:∃ g,g1=g+1:=⟨g1-1,by omega⟩
    obtain ⟨r2,g2,j1,j2,j3⟩:=ihb.2.1 g r1.step xs (by omega) h3.step hs
    rw [Aaa j3 hs'] at j2
    refine ⟨r2,g,by omega,?_,j3⟩
    rw [h2]
    rcases hkc with ⟨rfl,rfl⟩ | ⟨rfl,rfl⟩
    ·rw [Eh,if_pos h3.yes,j2]
    ·rw [Eh,if_neg (by simp [h3.no (s:=[43]) (by simp [Iq])]),if_pos h3.yes,j2]
   have t1:∀ {n:Nd} {B:Nat},I8 n.kind=1→B+2≤3*Ai n→Q3 (Ce n) n B→Q1 (Gx 3 n.kind (Ce n)) n (3*Ai n)∧Q2 (Gx 2 n.kind (Ce n)) n (3*Ai n)∧Q3 (Ce n) n (3*Ai n):=by
    intro n B ht hB hq
    have e3:Gx 3 n.kind (Ce n)=[[40]]++Ce n++[[41]]:=by unfold Gx;rw [ht,if_pos (by omega)]
    have e2:Gx 2 n.kind (Ce n)=[[40]]++Ce n++[[41]]:=by unfold Gx;rw [ht,if_pos (by omega)]
    rw [e3,e2]
    exact ⟨(Awd hq).mono (by omega),(Awb (Awd hq)).mono (by omega),hq.mono (by omega)⟩
   have p1:Gx 1 a.kind (Ce a)=Ce a:=by
    unfold Gx I8
    rw [if_neg]
    split<;>(try split)<;>omega
   rcases hk with rfl | rfl | rfl
   ·refine t1 (B:=3*Ai (Nd.mk 6 [] 0 [a,b])-2) rfl (by omega) ?_
    have:=sum 6 43 (.inl ⟨rfl,rfl⟩)
    simpa [Ce,p1] using this
   ·refine t1 (B:=3*Ai (Nd.mk 7 [] 0 [a,b])-2) rfl (by omega) ?_
    have:=sum 7 45 (.inr ⟨rfl,rfl⟩)
    simpa [Ce,p1] using this
   ·have hq:Q2 (Ce (Nd.mk 8 [] 0 [a,b])) (Nd.mk 8 [] 0 [a,b]) (3*Ai (Nd.mk 8 [] 0 [a,b])-2):=by
     intro f r xs hf ht hs
     have ha':At r (Gx 2 a.kind (Ce a)++([42]::(Gx 3 b.kind (Ce b)++xs))):=by simpa [Ce] using ht
     obtain ⟨r1,g1,h1,h2,h3⟩:=iha.2.1 f r _ (by omega) ha' (by simp [Iq])
     obtain ⟨g,rfl⟩:∃ g,g1=g+1:=⟨g1-1,by omega⟩
     obtain ⟨r2,j2,j3⟩:=ihb.1 g r1.step xs (by omega) h3.step hs
     refine ⟨r2,g,by omega,?_,j3⟩
     rw [h2,E5,if_pos h3.yes,j2]
    have e3:Gx 3 (Nd.mk 8 [] 0 [a,b]).kind (Ce (Nd.mk 8 [] 0 [a,b]))=[[40]]++Ce (Nd.mk 8 [] 0 [a,b])++[[41]]:=by exact if_pos (show I8 8<3 by decide)
    have e2:Gx 2 (Nd.mk 8 [] 0 [a,b]).kind (Ce (Nd.mk 8 [] 0 [a,b]))=Ce (Nd.mk 8 [] 0 [a,b]):=by exact if_neg (show ¬ I8 8<2 by decide)
    rw [e3,e2]
    exact ⟨(Awd (Awc hq)).mono (by omega),hq.mono (by omega),(Awc hq).mono (by omega)⟩
def Stop (xs:List (List UInt8)):Prop:=Iq xs≠[91]∧Iq xs≠[42]∧Iq xs≠[43]∧Iq xs≠[45]
theorem G1 {n:Nd}(h:FE n)(hc:Ai n≤500){r:RS}{xs:List (List UInt8)}(ha:At r (Ce n++xs))(hs:Stop xs):∃ r',Bg r=(n,r')∧At r' xs:=by
 obtain ⟨r',g,h1,h2,h3⟩:=(Avk h).2.2 6010 r xs (by omega) ha hs.1 hs.2.1
 rw [Ua h3 hs.2.2.1 hs.2.2.2] at h2
 exact ⟨r',h2,h3⟩
theorem Ajz {k:Int}(h0:11≤k)(h1:k≤16):relS (P6 k)=k:=by
 have:k=11∨k=12∨k=13∨k=14∨k=15∨k=16:=by omega
 rcases this with rfl | rfl | rfl | rfl | rfl | rfl<;>rfl
theorem Aoc (k:Int)(xs:List (List UInt8)):Stop (P6 k::xs):=by
 have:∀ w,w∈Lb→w≠[91]∧w≠[42]∧w≠[43]∧w≠[45]:=by decide
 exact this _ (Uz k)
theorem Lx {n:Nd}(h:FC n)(hc:Ai n≤500){r:RS}{xs:List (List UInt8)}(ha:At r (Ce n++xs))(hs:Stop xs):∃ r',Ca r=(n,r')∧At r' xs:=by
 cases h with
 | mk k a b h0 h1 fa fb =>
   have ne:¬ k=6∧¬ k=7∧¬ k=8:=by omega
   have hcc:Ai (Nd.mk k [] 0 [a,b])=1+(Ai a+Ai b):=by simp [Ai,Ar]
   have ha':At r (Ce a++(P6 k::(Ce b++xs))):=by simpa [Ce,ne.1,ne.2.1,ne.2.2] using ha
   obtain ⟨r1,e1,a1⟩:=G1 fa (by omega) ha' (Aoc k _)
   obtain ⟨r2,e2,a2⟩:=G1 fb (by omega) a1.step hs
   refine ⟨r2,?_,a2⟩
   have ht:r1.text=P6 k:=by rw [a1.text];rfl
   unfold Ca
   rw [e1]
   simp only [ht,Ajz h0 h1]
   rw [if_neg (by simp [a1.good];omega),e2]
def RdS (x:Nd):Prop:=∀ (f:Nat)(r:RS)(xs:List (List UInt8)),3*Ai x≤f→Ai x≤500→At r (Fp x++xs)→Iq xs≠Fw→∃ r',B4 f r=(x,r')∧At r' xs
def RdL (l:List Nd):Prop:=∀ (f:Nat)(r:RS)(acc:List Nd)(xs:List (List UInt8)),3*Ar l+1≤f→Ar l≤500→At r (Gg l++xs)→(xs=[]∨Iq xs=[125])→∃ r',Cn f acc r=(acc++l,r')∧At r' xs
def Alf (s:List UInt8):Prop:=nameS s=true∨s∈[Q8,D5,I9,Dv,Fx,F4,Gf]
theorem T6 {s:List UInt8}(h:Alf s):s≠[125]∧s≠Fw∧s≠Ke∧s≠Dh:=by
 rcases h with h | h
 ·exact ⟨Fe h _,Fe h _,Fe h _,Fe h _⟩
 ·have:∀ s,s∈[Q8,D5,I9,Dv,Fx,F4,Gf]→s≠[125]∧s≠Fw∧s≠Ke∧s≠Dh:=by decide
  exact this s h
theorem Sf {x:Nd}(h:FS x):∃ s t,Fp x=s::t∧Alf s:=by
 cases h with
 | set s a h ha=>exact ⟨s,_,by simp [Fp];rfl,.inl h⟩
 | put s a b h ha hb=>obtain ⟨k',s',m',l'⟩:=b;exact ⟨s,_,by simp [Fp];rfl,.inl h⟩
 | read s h=>exact ⟨Fx,_,by simp [Fp];rfl,.inr (by simp)⟩
 | ifs c l l' hc hl hl'=>exact ⟨Q8,_,by simp [Fp];rfl,.inr (by simp)⟩
 | whil c l hc hl=>exact ⟨D5,_,by simp [Fp];rfl,.inr (by simp)⟩
 | for_ s a b l h ha hb hl=>obtain ⟨k',s',m',l'⟩:=b;exact ⟨I9,_,by simp [Fp];rfl,.inr (by simp)⟩
 | check c hc=>exact ⟨Dv,_,by simp [Fp];rfl,.inr (by simp)⟩
 | skip=>exact ⟨F4,_,by simp [Fp];rfl,.inr (by simp)⟩
 | stop=>exact ⟨Gf,_,by simp [Fp];rfl,.inr (by simp)⟩
theorem X0 {l:List Nd}(hf:∀ x,x∈l→FS x)(h:∀ x,x∈l→RdS x):RdL l:=by
 induction l with
 | nil =>
   intro f r acc xs hf hc ha hx
   have ha':At r xs:=by simpa [Gg] using ha
   refine ⟨r,?_,ha'⟩
   cases f with
   | zero=>simp [Cn]
   | succ f =>
     rw [Cn,if_neg,List.append_nil]
     rcases hx with rfl | hx
     ·simp;intro _ h;have:=ha'.ge;omega
     ·rw [ha'.text,hx];simp
 | cons x l ih =>
   intro f r acc xs hfu hc ha hx
   simp only [Ar] at hfu hc
   obtain ⟨g,rfl⟩:∃ g,f=g+1:=⟨f-1,by omega⟩
   have ha':At r (Fp x++(Gg l++xs)):=by simpa [Gg] using ha
   have hne:Iq (Gg l++xs)≠Fw:=by
    cases l with
    | nil =>
      simp only [Gg,List.nil_append]
      rcases hx with rfl | hx
      ·simp [Iq]
      ·rw [hx];decide
    | cons y l =>
      obtain ⟨s,t,e,hb⟩:=Sf (hf y (by simp))
      simp only [Gg,e,Iq]
      exact (T6 hb).2.1
   obtain ⟨r1,e1,a1⟩:=h x (by simp) g r _ (by omega) (by omega) ha' hne
   obtain ⟨r2,e2,a2⟩:=ih (fun y hy=>hf y (by simp [hy])) (fun y hy=>h y (by simp [hy])) g r1 (acc++[x]) xs (by have:=T8 x;omega) (by omega) a1 hx
   refine ⟨r2,?_,a2⟩
   obtain ⟨s,t,e,hb⟩:=Sf (hf x (by simp))
   have has:At r (s::(t++(Gg l++xs))):=by rw [e] at ha';simpa using ha'
   rw [Cn,if_pos,e1]
   ·simp only;rw [e2];simp
   ·have:=(T6 hb).1
    rw [has.text]
    simp [has.good,has.lt,Iq,this]
theorem Xz {l:List Nd}(hl:RdL l){f:Nat}{r:RS}{xs:List (List UInt8)}(hf:3*Ar l+2≤f)(hc:Ar l≤500)(ha:At r ([123]::(Gg l++[125]::xs))):∃ r',Bq f r=(.mk 30 [] 0 l,r')∧At r' xs:=by
 obtain ⟨g,rfl⟩:∃ g,f=g+1:=⟨f-1,by omega⟩
 obtain ⟨r1,e1,a1⟩:=hl g r.step [] ([125]::xs) (by omega) hc ha.step (.inr rfl)
 refine ⟨r1.step,?_,a1.step⟩
 rw [Bq,ha.need,e1]
 simp [a1.need]
theorem Kz {s:List UInt8}{xs:List (List UInt8)}(h:s∈[[93],[59],[123],Vx]:=by decide):Stop (s::xs):=by
 have:∀ s,s∈[[93],[59],[123],Vx]→s≠[91]∧s≠[42]∧s≠[43]∧s≠[45]:=by decide
 exact this s h
theorem Im {f:Nat}{r:RS}{s:List UInt8}{xs:List (List UInt8)}(ha:At r (s::xs))(h1:s≠Q8)(h2:s≠D5)(h3:s≠I9):B4 (f+1) r=((Bv r).1,(Bv r).2.need [59]):=by
 rw [B4,if_neg (by simp [ha.no (s:=Q8) h1]),if_neg (by simp [ha.no (s:=D5) h2]),if_neg (by simp [ha.no (s:=I9) h3])]
theorem X9 {r:RS}{s:List UInt8}{xs:List (List UInt8)}(ha:At r (s::xs))(hn:nameS s=true):Bv r=Np r:=by
 rw [Bv,if_neg (by simp [ha.no (s:=Dv) (Fe hn _)]),if_neg (by simp [ha.no (s:=Fx) (Fe hn _)]),if_neg (by simp [ha.no (s:=F4) (Fe hn _)]),if_neg (by simp [ha.no (s:=Gf) (Fe hn _)])]
theorem Avl {x:Nd}(h:FS x):RdS x:=by
 induction h with
 | set s a h fa =>
   intro f r xs hf hc ha _
   have hcc:Ai (Nd.mk 21 s 0 [a])=1+Ai a:=by simp [Ai,Ar]
   obtain ⟨g,rfl⟩:∃ g,f=g+1:=⟨f-1,by omega⟩
   have ha':At r (s::[61]::(Ce a++[59]::xs)):=by simpa [Fp] using ha
   obtain ⟨_,n2,n3⟩:=ha'.named h
   obtain ⟨r1,e1,a1⟩:=G1 fa (by omega) ha'.step.step Kz
   refine ⟨r1.step,?_,a1.step⟩
   rw [Im ha' (Fe h _) (Fe h _) (Fe h _),X9 ha' h,Np,n3,if_neg (by simp [ha'.step.no (s:=[91]) (by simp [Iq])]),ha'.step.need,e1,n2]
   simp [a1.need]
 | put s a b h fa fb =>
   intro f r xs hf hc ha _
   have hcc:Ai (Nd.mk 22 s 0 [a,b])=1+(Ai a+Ai b):=by simp [Ai,Ar]
   obtain ⟨g,rfl⟩:∃ g,f=g+1:=⟨f-1,by omega⟩
   have ha':At r (s::[91]::(Ce a++[93]::[61]::(Ce b++[59]::xs))):=by
    obtain ⟨k',s',m',l'⟩:=b
    simpa [Fp] using ha
   obtain ⟨_,n2,n3⟩:=ha'.named h
   obtain ⟨r1,e1,a1⟩:=G1 fa (by omega) ha'.step.step Kz
   obtain ⟨r2,e2,a2⟩:=G1 fb (by omega) a1.step.step Kz
   refine ⟨r2.step,?_,a2.step⟩
   rw [Im ha' (Fe h _) (Fe h _) (Fe h _),X9 ha' h,Np,n3,if_pos ha'.step.yes,e1]
   simp only
   rw [a1.need,a1.step.need,e2,n2]
   simp [a2.need]
 | read s h =>
   intro f r xs hf hc ha _
   have:=T8 (Nd.mk 23 s 0 [])
   obtain ⟨g,rfl⟩:∃ g,f=g+1:=⟨f-1,by omega⟩
   have ha':At r (Fx::s::[59]::xs):=by simpa [Fp] using ha
   obtain ⟨_,n2,n3⟩:=ha'.step.named h
   refine ⟨r.step.step.step,?_,ha'.step.step.step⟩
   rw [Im ha' (by decide) (by decide) (by decide),Bv,if_neg (by simp [ha'.no (s:=Dv) (by simp [Iq])]),if_pos ha'.yes,n2,n3]
   simp [ha'.step.step.need]
 | ifs c l l' hc hl hl' ihl ihl' =>
   intro f r xs hf hcn ha hx
   have hcc:Ai (Nd.mk 24 [] 0 [c,.mk 30 [] 0 l,.mk 30 [] 0 l'])=1+(Ai c+(1+Ar l+(1+Ar l'))):=by simp [Ai,Ar]
   obtain ⟨g,rfl⟩:∃ g,f=g+1:=⟨f-1,by omega⟩
   have L:=X0 hl ihl
   have L':=X0 hl' ihl'
   cases l' with
   | nil =>
     have ha':At r (Q8::(Ce c++([123]::(Gg l++[125]::xs)))):=by simpa [Fp] using ha
     obtain ⟨r1,e1,a1⟩:=Lx hc (by omega) ha'.step Kz
     obtain ⟨r2,e2,a2⟩:=Xz L (f:=g) (by omega) (by omega) a1
     refine ⟨r2,?_,a2⟩
     rw [B4,if_pos ha'.yes,e1]
     simp only
     rw [e2]
     simp only
     rw [if_neg (by simp [a2.no hx])]
   | cons y l' =>
     have ha':At r (Q8::(Ce c++([123]::(Gg l++[125]::(Fw::[123]::(Gg (y::l')++[125]::xs)))))):=by simpa [Fp] using ha
     obtain ⟨r1,e1,a1⟩:=Lx hc (by omega) ha'.step Kz
     obtain ⟨r2,e2,a2⟩:=Xz L (f:=g) (by omega) (by omega) a1
     obtain ⟨r3,e3,a3⟩:=Xz L' (f:=g) (by omega) (by omega) a2.step
     refine ⟨r3,?_,a3⟩
     rw [B4,if_pos ha'.yes,e1]
     simp only
     rw [e2]
     simp only
     rw [if_pos a2.yes,e3]
 | whil c l hc hl ihl =>
   intro f r xs hf hcn ha hx
   have hcc:Ai (Nd.mk 25 [] 0 [c,.mk 30 [] 0 l])=1+(Ai c+(1+Ar l)):=by simp [Ai,Ar]
   obtain ⟨g,rfl⟩:∃ g,f=g+1:=⟨f-1,by omega⟩
   have ha':At r (D5::(Ce c++([123]::(Gg l++[125]::xs)))):=by simpa [Fp] using ha
   obtain ⟨r1,e1,a1⟩:=Lx hc (by omega) ha'.step Kz
   obtain ⟨r2,e2,a2⟩:=Xz (X0 hl ihl) (f:=g) (by omega) (by omega) a1
   refine ⟨r2,?_,a2⟩
   rw [B4,if_neg (by simp [ha'.no (s:=Q8) (by simp [Iq])]),if_pos ha'.yes,e1]
   simp only
   rw [e2]
 | for_ s a b l h fa fb hl ihl =>
   intro f r xs hf hcn ha hx
   have hcc:Ai (Nd.mk 26 s 0 [a,b,.mk 30 [] 0 l])=1+(Ai a+(Ai b+(1+Ar l))):=by simp [Ai,Ar]
   obtain ⟨g,rfl⟩:∃ g,f=g+1:=⟨f-1,by omega⟩
   have ha':At r (I9::s::Gw::(Ce a++(Vx::(Ce b++([123]::(Gg l++[125]::xs)))))):=by
    obtain ⟨k',s',m',l'⟩:=b
    simpa [Fp] using ha
   obtain ⟨_,n2,n3⟩:=ha'.step.named h
   have eA:S8 r.step=r.step.step.step:=by rw [S8,n3,ha'.step.step.need]
   obtain ⟨r1,e1,a1⟩:=G1 fa (by omega) ha'.step.step.step Kz
   have eB:Ue r.step=r1.step:=by rw [Ue,eA,e1];exact a1.need
   obtain ⟨r2,e2,a2⟩:=G1 fb (by omega) a1.step Kz
   obtain ⟨r3,e3,a3⟩:=Xz (X0 hl ihl) (f:=g) (by omega) (by omega) a2
   refine ⟨r3,?_,a3⟩
   rw [B4,if_neg (by simp [ha'.no (s:=Q8) (by simp [Iq])]),if_neg (by simp [ha'.no (s:=D5) (by simp [Iq])]),if_pos ha'.yes,eA,eB,e1,e2,n2]
   simp only
   rw [e3]
 | check c hc =>
   intro f r xs hf hcn ha _
   have hcc:Ai (Nd.mk 27 [] 0 [c])=1+Ai c:=by simp [Ai,Ar]
   obtain ⟨g,rfl⟩:∃ g,f=g+1:=⟨f-1,by omega⟩
   have ha':At r (Dv::(Ce c++[59]::xs)):=by simpa [Fp] using ha
   obtain ⟨r1,e1,a1⟩:=Lx hc (by omega) ha'.step Kz
   refine ⟨r1.step,?_,a1.step⟩
   rw [Im ha' (by decide) (by decide) (by decide),Bv,if_pos ha'.yes,e1]
   simp [a1.need]
 | skip =>
   intro f r xs hf hcn ha _
   have:=T8 (Nd.mk 28 [] 0 [])
   obtain ⟨g,rfl⟩:∃ g,f=g+1:=⟨f-1,by omega⟩
   have ha':At r (F4::[59]::xs):=by simpa [Fp] using ha
   refine ⟨r.step.step,?_,ha'.step.step⟩
   rw [Im ha' (by decide) (by decide) (by decide),Bv,if_neg (by simp [ha'.no (s:=Dv) (by simp [Iq])]),if_neg (by simp [ha'.no (s:=Fx) (by simp [Iq])]),if_pos ha'.yes]
   simp [ha'.step.need]
 | stop =>
   intro f r xs hf hcn ha _
   have:=T8 (Nd.mk 29 [] 0 [])
   obtain ⟨g,rfl⟩:∃ g,f=g+1:=⟨f-1,by omega⟩
   have ha':At r (Gf::[59]::xs):=by simpa [Fp] using ha
   refine ⟨r.step.step,?_,ha'.step.step⟩
   rw [Im ha' (by decide) (by decide) (by decide),Bv,if_neg (by simp [ha'.no (s:=Dv) (by simp [Iq])]),if_neg (by simp [ha'.no (s:=Fx) (by simp [Iq])]),if_neg (by simp [ha'.no (s:=F4) (by simp [Iq])]),if_pos ha'.yes]
   simp [ha'.step.need]
theorem Acx {d:Nd}(h:FV d){r:RS}{xs:List (List UInt8)}(ha:At r (Fp d++xs)):Ex r=true∧(Gs r).1=d∧At ((Gs r).2.need [59]) xs:=by
 cases h with
 | var s h =>
   have ha':At r (Ke::s::[59]::xs):=by simpa [Fp] using ha
   obtain ⟨_,n2,n3⟩:=ha'.step.named h
   refine ⟨by simp [Ex,ha'.yes],?_⟩
   rw [Gs,if_pos ha'.yes,n2,n3]
   simp only
   rw [ha'.step.step.need]
   refine ⟨?_,ha'.step.step.step⟩
   first | trivial | rfl
 | arr s m h h0 h1 =>
   have ha':At r (Dh::s::[91]::(if 0≤m then Ja m.toNat else [63])::[93]::[59]::xs):=by simpa [Fp] using ha
   obtain ⟨_,n2,n3⟩:=ha'.step.named h
   refine ⟨by simp [Ex,ha'.yes],?_⟩
   have hz:F3 r.step.step.step=(m,r.step.step.step.step):=by
    have a3:=ha'.step.step.step
    unfold F3
    by_cases g:0≤m
    ·rw [if_pos g] at a3
     have hm:m.toNat≤1000000:=by omega
     have hk:r.step.step.step.kind=2:=by rw [a3.kind,(M5 _ hm).2]
     rw [if_pos (by simp [a3.good,hk]),a3.text]
     simp only [Iq,List.headD_cons]
     rw [Md _ hm]
     congr 1;omega
    ·rw [if_neg g] at a3
     have hk:B6 [63]≠2:=by decide
     rw [if_neg (by simp [a3.kind,hk]),a3.need]
     congr 1;omega
   rw [Gs,if_neg (by simp [ha'.no (s:=Ke) (by simp [Iq])]),n2,n3,ha'.step.step.need,hz]
   simp only
   rw [ha'.step.step.step.step.need,ha'.step.step.step.step.step.need]
   refine ⟨?_,ha'.step.step.step.step.step.step⟩
   first | trivial | rfl
theorem Sw:∀ (ds:List Nd)(f:Nat)(acc:List Nd)(r:RS)(xs:List (List UInt8)),(∀ x,x∈ds→FV x)→ds.length≤f→At r (Gg ds++xs)→Iq xs≠Ke→Iq xs≠Dh→∃ r',C8 f acc r=(acc++ds,r')∧At r' xs
 | [],f,acc,r,xs,hd,hf,ha,h1,h2=>by
   have ha':At r xs:=by simpa [Gg] using ha
   refine ⟨r,?_,ha'⟩
   cases f with
   | zero=>simp [C8]
   | succ f=>rw [C8,if_neg (by simp [Ex,ha'.no h1,ha'.no h2]),List.append_nil]
 | d::ds,f,acc,r,xs,hd,hf,ha,h1,h2=>by
   simp at hf
   obtain ⟨g,rfl⟩:∃ g,f=g+1:=⟨f-1,by omega⟩
   have ha':At r (Fp d++(Gg ds++xs)):=by simpa [Gg] using ha
   obtain ⟨e1,e2,a1⟩:=Acx (hd d (by simp)) ha'
   obtain ⟨r',e3,a2⟩:=Sw ds g (acc++[d]) _ xs (fun x hx=>hd x (by simp [hx])) (by omega) a1 h1 h2
   refine ⟨r',?_,a2⟩
   rw [C8,if_pos e1,e2,e3];simp
theorem Adq {ds l:List Nd}(hd:∀ x,x∈ds→FV x)(hl:∀ x,x∈l→FS x)(hc:Ar ds+Ar l≤500){r:RS}(ha:At r (Gg ds++Gg l)):(Cw r).1=.mk 40 [] 0 (ds++[.mk 30 [] 0 l])∧(Cw r).2.bad=false:=by
 have h12:Iq (Gg l)≠Ke∧Iq (Gg l)≠Dh:=by
  cases l with
  | nil=>simp [Gg,Iq]
  | cons y l =>
    obtain ⟨s,t,e,hb⟩:=Sf (hl y (by simp))
    simp only [Gg,e,Iq]
    exact (T6 hb).2.2
 have hdl:=A9 ds
 obtain ⟨r1,e1,a1⟩:=Sw ds 2000 [] r (Gg l) hd (by omega) ha h12.1 h12.2
 obtain ⟨r2,e2,a2⟩:=X0 hl (fun x hx=>Avl (hl x hx)) 5000 r1 [] [] (by omega) (by omega) (by simpa using a1) (.inl rfl)
 have ee:r2.ends=r2:=by rw [RS.ends,if_neg (by have:=a2.ge;omega)]
 unfold Cw
 rw [e1]
 simp only
 rw [e2]
 simp only [List.nil_append]
 rw [ee]
 refine ⟨?_,a2.good⟩
 first | trivial | rfl
theorem Afx {n:Nd}(h:FP n)(hc:Ai n≤500)(h0:(Da (Hk n)).2.1=0):(Da (Hk n)).1=n:=by
 cases h with
 | mk ds l hd hl =>
   have hcn:Ai (Nd.mk 40 [] 0 (ds++[.mk 30 [] 0 l]))=1+(Ar ds+(1+Ar l)):=by simp [Ai,Jw,Ar]
   have hw:(Bz (Hk (.mk 40 [] 0 (ds++[.mk 30 [] 0 l])))).2.1=0:=by
    unfold Da at h0
    split at h0
    ·assumption
    ·exact h0
   have hlex:=Aya hd hl
   rw [Og ds,← Xv ds l] at hlex
   have hws:=Ai8 hlex hw
   have hat:At (rs0 (Hk (.mk 40 [] 0 (ds++[.mk 30 [] 0 l])))) (Gg ds++Gg l):=⟨rfl,Ab7 _,by simp [rs0,hws]⟩
   obtain ⟨e1,e2⟩:=Adq hd hl (by omega) hat
   unfold Da at h0 ⊢
   rw [if_pos hw,if_neg (by simp [e2])] at h0 ⊢
   split at h0
   ·simp at h0
   ·rename_i hg
    rw [if_neg hg]
    exact e1
def Q4 (k:Int)(s:List UInt8)(m:Int)(c:List (Int × Jd)):Jd :=
 if k=31 then [Ke,s]
 else if k=32 then [Dh,s,[91],if m=-1 then [63] else Lib.itoa m,[93]]
 else if k=21 then [s,[61]]++eW c 0
 else if k=22 then [s,[91]]++eW c 0++[[93],[61]]++eW c 1
 else if k=23 then [Fx,s]
 else if k=27 then [Dv]++eW c 0
 else if k=28 then [F4]
 else [Gf]
def bT (b:List (List UInt8 × Bool))(i:Nat):List UInt8:=(b.getD i ([],false)).1
def bQ' (b:List (List UInt8 × Bool))(i:Nat):Bool:=(b.getD i ([],false)).2
def Kk (k:Int):Bool:=k==31||k==32||k==21||k==22||k==23||k==27||k==28||k==29
def cpT (k:Int)(s:List UInt8)(c:List (Int × Jd))(b:List (List UInt8 × Bool))(h:Nat):List UInt8 :=
 if k=24 then Cz ([Q8]++eW c 0++[[123]]) h++bT b 1++(if bQ' b 2 then Cz [[125],Fw,[123]] h++bT b 2 else [])++Cz [[125]] h
 else if k=25 then Cz ([D5]++eW c 0++[[123]]) h++bT b 1++Cz [[125]] h
 else if k=26 then Cz ([I9,s,Gw]++eW c 0++[Vx]++eW c 1++[[123]]) h++bT b 2++Cz [[125]] h
 else Cz [] h
def Rf (k:Int)(s:List UInt8)(m:Int)(c:List (Int × Jd))(b:List (List UInt8 × Bool))(h:Nat):List UInt8 :=
 if Kk k then Cz (Q4 k s m c++[[59]]) h else cpT k s c b h
mutual
def Ez:Nd→Nat→List UInt8
 | .mk k s m ks,h=>Rf k s m (Be ks) (Gu ks h) h
def Gu:List Nd→Nat→List (List UInt8 × Bool)
 | [],_=>[]
 | x::l,h=>Vb x h::Gu l h
def Vb:Nd→Nat→List UInt8 × Bool
 | .mk _ _ _ l,h=>(Hp l (h+1),!l.isEmpty)
def Hp:List Nd→Nat→List UInt8
 | [],_=>[]
 | x::l,h=>Ez x h++Hp l h
end
def R7 (n:Nd):List UInt8:=Hp n.kids.dropLast 0++Hp (n.kids.getLastD B8).kids 0
def Ry (a:List UInt8):List UInt8:=if has I5 a then [] else [32]
theorem Po {a:List UInt8}(h:has I5 a=false)(us:Jd):Ek a us=Ek [] us:=by
 have h0:has I5 []=false:=by decide
 cases us with
 | nil=>rfl
 | cons b us=>simp [Ek,O5,h,h0]
structure PW (b:List UInt8):Prop where
 c:has Ix b=false
 o:has I5 b=false
 t:Hm b [32]=b
theorem PW.flat {b:List UInt8}(h:PW b)(a:List UInt8)(us:Jd):Ek a (b::us)=Ry a++(b++Ek [] us):=by
 simp only [Ek,O5,h.c,h.t,Po h.o,Ry,Bool.false_or]
 split<;>simp
theorem Akc {c:UInt8}{l:List UInt8}(h:c≠32):Hm (c::l) [32]=c::l:=by
 have:Abw (c::l) [32]=false:=by simp [Abw,h]
 simp [Hm,this]
theorem PW.of_kind {b:List UInt8}(h:B6 b=1∨B6 b=2):PW b:=by
 have no:∀ l:List (List UInt8),(∀ x,x∈l→B6 x≠1∧B6 x≠2)→has l b=false:=by
  intro l hl
  simp only [has,List.any_eq_false]
  intro x hx he
  have:=beq_iff_eq.1 he
  subst this
  have:=hl _ hx
  omega
 refine ⟨no _ (by decide),no _ (by decide),?_⟩
 cases b with
 | nil=>simp [Qu] at h
 | cons c l=>exact Akc (Xe (by rcases h with h | h<;>rw [h]<;>decide)).1
theorem PW.name {s:List UInt8}(h:nameS s=true):PW s:=.of_kind (.inl (Jq h).2)
theorem PW.num {m:Nat}(h:m≤1000000):PW (Ja m):=.of_kind (.inr (M5 m h).2)
theorem PW.of {b:List UInt8}(h:b∈([[43],[45],[42],[61],[63],[123],[125],Q8,Fw,D5,I9,Gw,Vx,Dv,Fx,F4,Gf,Ke,Dh]:Jd)++Lb):PW b:=by
 have:∀ b,b∈([[43],[45],[42],[61],[63],[123],[125],Q8,Fw,D5,I9,Gw,Vx,Dv,Fx,F4,Gf,Ke,Dh]:Jd)++Lb→has Ix b=false∧has I5 b=false∧Hm b [32]=b:=by decide
 obtain ⟨h1,h2,h3⟩:=this b h
 exact ⟨h1,h2,h3⟩
theorem N7 (a:List UInt8)(us:Jd):Ek a ([59]::us)=59::Ek [] us:=by
 rw [Ek,Po (by decide)];simp [O5,show has Ix [59]=true by decide,show Hm [59] [32]=[59] by decide]
theorem Aa6 (a:List UInt8)(us:Jd):Ek a ([93]::us)=93::Ek [] us:=by
 rw [Ek,Po (by decide)];simp [O5,show has Ix [93]=true by decide,show Hm [93] [32]=[93] by decide]
theorem Alw (a:List UInt8)(us:Jd):Ek a ([41]::us)=41::Ek [] us:=by
 rw [Ek,Po (by decide)];simp [O5,show has Ix [41]=true by decide,show Hm [41] [32]=[41] by decide]
theorem Aa5 (a:List UInt8)(us:Jd):Ek a ([91]::us)=91::Ek [91] us:=by
 rw [Ek];simp [O5,show has Ix [91]=true by decide,show Hm [91] [32]=[91] by decide]
theorem Ag0 {b t:List UInt8}(h:has Ix b=false)(ht:Hm b [32]=t)(a:List UInt8)(us:Jd):Ek a (b::us)=Ry a++(t++Ek b us):=by
 simp only [Ek,O5,h,ht,Ry,Bool.false_or]
 split<;>simp
def FlatP (w:Jd)(t:List UInt8):Prop:=∀ (a:List UInt8)(us:Jd),Ek a (w++us)=Ry a++(t++Ek [] us)
theorem FlatP.par {w:Jd}{t:List UInt8}(h:FlatP w t):FlatP ([[40]]++w++[[41]]) ([40]++t++[41]):=by
 intro a us
 have e:[[40]]++w++[[41]]++us=[40]::(w++([41]::us)):=by simp
 rw [e,Ag0 (t:=[40]) (by decide) (by decide),h,Alw,show Ry [40]=[] by decide]
 simp
theorem FlatP.in1 {w:Jd}{t:List UInt8}(h:FlatP w t)(k:Int):FlatP (Ls true false k w) (Jb 2 k t):=by
 by_cases hk:k=6∨k=7
 ·have e1:Ls true false k w=[[40]]++w++[[41]]:=by unfold Ls;rw [if_pos (by simpa using hk)]
  have e2:Jb 2 k t=[40]++t++[41]:=by unfold Jb I8;rw [if_pos (by simp [hk])]
  rw [e1,e2];exact h.par
 ·have e1:Ls true false k w=w:=by unfold Ls;rw [if_neg (by simpa using hk)]
  have e2:Jb 2 k t=t:=by unfold Jb I8;rw [if_neg (by rw [if_neg hk];split<;>omega)]
  rw [e1,e2];exact h
theorem FlatP.in2 {w:Jd}{t:List UInt8}(h:FlatP w t)(k:Int):FlatP (Ls true true k w) (Jb 3 k t):=by
 by_cases hk:(k=6∨k=7)∨k=8
 ·have e1:Ls true true k w=[[40]]++w++[[41]]:=by unfold Ls;rw [if_pos (by simpa using hk)]
  have e2:Jb 3 k t=[40]++t++[41]:=by
   unfold Jb I8
   rw [if_pos]
   rcases hk with hk | hk
   ·rw [if_pos hk];omega
   ·rw [if_neg (by omega),if_pos hk];omega
  rw [e1,e2];exact h.par
 ·have e1:Ls true true k w=w:=by unfold Ls;rw [if_neg (by simpa using hk)]
  have e2:Jb 3 k t=t:=by unfold Jb I8;rw [if_neg (by rw [if_neg (by omega),if_neg (by omega)];omega)]
  rw [e1,e2];exact h
theorem FlatP.two {w w':Jd}{t t':List UInt8}(h:FlatP w t)(h':FlatP w' t'){c:List UInt8}(hc:PW c):FlatP (w++[c]++w') (t++[32]++c++[32]++t'):=by
 intro a us
 have e:w++[c]++w'++us=w++(c::(w'++us)):=by simp
 rw [e,h,hc.flat,h',show Ry []=[32] by decide]
 simp
theorem W6 {n:Nd}(h:FE n):FlatP (Ap n) (Ba n):=by
 induction h with
 | num m h0 h1 =>
   intro a us
   have e:Ap (.mk 1 [] m [])=[Ja m.toNat]:=by
    have:Lib.itoa m=Ja m.toNat:=by
     obtain ⟨u,rfl⟩:∃ u:Nat,m=u:=⟨m.toNat,by omega⟩
     rw [Lib.itoa_nonneg,Aay];rfl
    simp [Ap,Dx,this]
   rw [e]
   simp only [Ba,if_true,List.cons_append,List.nil_append]
   exact (PW.num (by omega)).flat a us
 | var s h =>
   intro a us
   have e:Ap (.mk 2 s 0 [])=[s]:=by simp [Ap,Dx]
   rw [e]
   simp only [Ba,List.cons_append,List.nil_append]
   exact (PW.name h).flat a us
 | cell s x h ha ih =>
   intro a us
   have e:Ap (.mk 3 s 0 [x])++us=s::[91]::(Ap x++([93]::us)):=by simp [Ap,Dx,Be,eW]
   rw [e,(PW.name h).flat,Aa5,ih,Aa6,show Ry [91]=[] by decide]
   simp [Ba]
 | len s h =>
   intro a us
   have e:Ap (.mk 4 s 0 [])++us=[108,101,110]::[40]::s::[41]::us:=by simp [Ap,Dx]
   rw [e,Ag0 (t:=[108,101,110]) (by decide) (by decide),Ag0 (t:=[40]) (by decide) (by decide),(PW.name h).flat,Alw,show Ry [40]=[] by decide,show Ry [108,101,110]=[] by decide]
   simp [Ba]
 | neg x ha ih =>
   intro a us
   have e:Ap (.mk 5 [] 0 [x])++us=[32,45]::(Ls true true x.kind (Ap x)++us):=by simp [Ap,Dx,Be,iW]
   rw [e,Ag0 (t:=[45]) (by decide) (by decide),ih.in2 x.kind,show Ry [32,45]=[] by decide]
   simp [Ba]
 | two k x y hk ha hb iha ihb =>
   have p1:Jb 1 x.kind (Ba x)=Ba x:=by
    unfold Jb I8
    rw [if_neg]
    split<;>(try split)<;>omega
   rcases hk with rfl | rfl | rfl
   ·have e:Ap (.mk 6 [] 0 [x,y])=Ap x++[[43]]++Ls true false y.kind (Ap y):=by simp [Ap,Dx,Be,iW,eW]
    have:=iha.two (ihb.in1 y.kind) (c:=[43]) (.of (by decide))
    rw [e]
    simpa [Ba,p1] using this
   ·have e:Ap (.mk 7 [] 0 [x,y])=Ap x++[[45]]++Ls true false y.kind (Ap y):=by simp [Ap,Dx,Be,iW,eW]
    have:=iha.two (ihb.in1 y.kind) (c:=[45]) (.of (by decide))
    rw [e]
    simpa [Ba,p1] using this
   ·have e:Ap (.mk 8 [] 0 [x,y])=Ls true false x.kind (Ap x)++[[42]]++Ls true true y.kind (Ap y):=by simp [Ap,Dx,Be,iW,eW]
    have:=(iha.in1 x.kind).two (ihb.in2 y.kind) (c:=[42]) (.of (by decide))
    rw [e]
    simpa [Ba] using this
theorem Alx {n:Nd}(h:FC n):FlatP (Ap n) (Ba n):=by
 cases h with
 | mk k x y h0 h1 ha hb =>
   have ne:¬ k=1∧¬ k=2∧¬ k=3∧¬ k=4∧¬ k=5∧¬ k=6∧¬ k=7∧¬ k=8:=by omega
   obtain ⟨n1,n2,n3,n4,n5,n6,n7,n8⟩:=ne
   have e:Ap (.mk k [] 0 [x,y])=Ap x++[P6 k]++Ap y:=by simp [Ap,Dx,Be,eW,n1,n2,n3,n4,n5,n6,n7,n8,h0,h1]
   have:=(W6 ha).two (W6 hb) (c:=P6 k) (.of (List.mem_append_right _ (Uz k)))
   rw [e]
   simpa [Ba,n6,n7,n8] using this
theorem To (h:Nat):List.replicate (2*h) (32:UInt8)++[32,32]=List.replicate (2*(h+1)) 32:=by
 rw [show 2*(h+1)=2*h+2 by omega,← List.replicate_append_replicate];rfl
theorem K7 {l:List Nd}{h:Nat}{p:List UInt8}(hx:∀ x,x∈l→Ez x h=Bp x p):Hp l h=Fs l p:=by
 induction l with
 | nil=>simp [Hp,Fs]
 | cons x l ih=>simp [Hp,Fs,hx x (by simp),ih fun y hy=>hx y (by simp [hy])]
theorem Aly {b:List UInt8}(h:PW b)(us:Jd):Mb (b::us)=b++Ek [] us:=by rw [Mb,h.t,Po h.o]
theorem Fa {a:List UInt8}:Ek a []=[]:=rfl
abbrev Anf (h:Nat):List UInt8:=List.replicate (2*h) 32
theorem Fc {b:List UInt8}(h:PW b)(us:Jd)(g:Nat):Cz (b::us) g=Anf g++(b++(Ek [] us++[10])):=by rw [Cz,Aly h];simp
theorem g0:Ry []=[32]:=by decide
theorem Uw (h:Nat):Cz [[125]] h=Anf h++[125,10]:=by
 rw [Fc (.of (by decide)),Fa];simp
theorem Amw (h:Nat):Cz [[125],Fw,[123]] h=Anf h++([125,32]++Fw++[32,123,10]):=by
 rw [Fc (.of (by decide)),(PW.of (b:=Fw) (by decide)).flat,(PW.of (b:=[123]) (by decide)).flat,Fa,g0];simp
theorem Ayg {x:Nd}(hx:FV x)(h:Nat):Ez x h=Bp x (Anf h):=by
 cases hx with
 | var s hs =>
   have e:Ez (.mk 31 s 0 []) h=Cz (Ke::s::[[59]]) h:=by simp [Ez,Rf,Kk,Q4]
   rw [e,Fc (.of (by decide)),(PW.name hs).flat,N7,Fa,g0]
   simp [Bp]
 | arr s m hs h0 h1 =>
   by_cases g:0≤m
   ·have em:¬ m=-1:=by omega
    have ei:Lib.itoa m=Ja m.toNat:=by
     obtain ⟨u,rfl⟩:∃ u:Nat,m=u:=⟨m.toNat,by omega⟩
     rw [Lib.itoa_nonneg,Aay];rfl
    have e:Ez (.mk 32 s m []) h=Cz (Dh::s::[91]::Ja m.toNat::[93]::[[59]]) h:=by simp [Ez,Rf,Kk,Q4,em,ei]
    rw [e,Fc (.of (by decide)),(PW.name hs).flat,Aa5,(PW.num (by omega)).flat,Aa6,N7,Fa,g0,show Ry [91]=[] by decide]
    simp [Bp,g]
   ·have em:m=-1:=by omega
    have e:Ez (.mk 32 s m []) h=Cz (Dh::s::[91]::[63]::[93]::[[59]]) h:=by simp [Ez,Rf,Kk,Q4,em]
    rw [e,Fc (.of (by decide)),(PW.name hs).flat,Aa5,(PW.of (b:=[63]) (by decide)).flat,Aa6,N7,Fa,g0,show Ry [91]=[] by decide]
    simp [Bp,g]
theorem Aw9 {x:Nd}(hx:FS x):∀ h:Nat,Ez x h=Bp x (Anf h):=by
 induction hx with
 | set s a hs ha =>
   intro h
   have e:Ez (.mk 21 s 0 [a]) h=Cz (s::[61]::(Ap a++[[59]])) h:=by simp [Ez,Rf,Kk,Q4,Be,eW]
   rw [e,Fc (.name hs),(PW.of (b:=[61]) (by decide)).flat,W6 ha,N7,Fa,g0]
   simp [Bp]
 | put s a b hs ha hb =>
   intro h
   have e:Ez (.mk 22 s 0 [a,b]) h=Cz (s::[91]::(Ap a++([93]::[61]::(Ap b++[[59]])))) h:=by simp [Ez,Rf,Kk,Q4,Be,eW]
   rw [e,Fc (.name hs),Aa5,W6 ha,Aa6,(PW.of (b:=[61]) (by decide)).flat,W6 hb,N7,Fa,g0,show Ry [91]=[] by decide]
   obtain ⟨k',s',m',l'⟩:=b
   simp [Bp]
 | read s hs =>
   intro h
   have e:Ez (.mk 23 s 0 []) h=Cz (Fx::s::[[59]]) h:=by simp [Ez,Rf,Kk,Q4]
   rw [e,Fc (.of (by decide)),(PW.name hs).flat,N7,Fa,g0]
   simp [Bp]
 | ifs c l l' hc hl hl' ihl ihl' =>
   intro h
   have e:Ez (.mk 24 [] 0 [c,.mk 30 [] 0 l,.mk 30 [] 0 l']) h=Cz (Q8::(Ap c++[[123]])) h++Hp l (h+1)++(if !l'.isEmpty then Cz [[125],Fw,[123]] h++Hp l' (h+1) else [])++Cz [[125]] h:=by
    simp [Ez,Rf,Kk,cpT,Be,eW,Gu,Vb,bT,bQ']
   have h1:=K7 (l:=l) (h:=h+1) fun x hx=>ihl x hx (h+1)
   have h2:=K7 (l:=l') (h:=h+1) fun x hx=>ihl' x hx (h+1)
   rw [e,h1,h2,Fc (.of (by decide)),Alx hc,(PW.of (b:=[123]) (by decide)).flat,Fa,g0,Uw,Amw]
   cases l' with
   | nil=>simp [Bp,To]
   | cons y l'=>simp [Bp,To]
 | whil c l hc hl ihl =>
   intro h
   have e:Ez (.mk 25 [] 0 [c,.mk 30 [] 0 l]) h=Cz (D5::(Ap c++[[123]])) h++Hp l (h+1)++Cz [[125]] h:=by
    simp [Ez,Rf,Kk,cpT,Be,eW,Gu,Vb,bT]
   have h1:=K7 (l:=l) (h:=h+1) fun x hx=>ihl x hx (h+1)
   rw [e,h1,Fc (.of (by decide)),Alx hc,(PW.of (b:=[123]) (by decide)).flat,Fa,g0,Uw]
   simp [Bp,To]
 | for_ s a b l hs ha hb hl ihl =>
   intro h
   have e:Ez (.mk 26 s 0 [a,b,.mk 30 [] 0 l]) h=Cz (I9::s::Gw::(Ap a++(Vx::(Ap b++[[123]])))) h++Hp l (h+1)++Cz [[125]] h:=by
    simp [Ez,Rf,Kk,cpT,Be,eW,Gu,Vb,bT]
   have h1:=K7 (l:=l) (h:=h+1) fun x hx=>ihl x hx (h+1)
   rw [e,h1,Fc (.of (by decide)),(PW.name hs).flat,(PW.of (b:=Gw) (by decide)).flat,W6 ha,(PW.of (b:=Vx) (by decide)).flat,W6 hb,(PW.of (b:=[123]) (by decide)).flat,Fa,g0,Uw]
   obtain ⟨k',s',m',l'⟩:=b
   simp [Bp,To]
 | check c hc =>
   intro h
   have e:Ez (.mk 27 [] 0 [c]) h=Cz (Dv::(Ap c++[[59]])) h:=by simp [Ez,Rf,Kk,Q4,Be,eW]
   rw [e,Fc (.of (by decide)),Alx hc,N7,Fa,g0]
   simp [Bp]
 | skip =>
   intro h
   have e:Ez (.mk 28 [] 0 []) h=Cz (F4::[[59]]) h:=by simp [Ez,Rf,Kk,Q4]
   rw [e,Fc (.of (by decide)),N7,Fa]
   simp [Bp]
 | stop =>
   intro h
   have e:Ez (.mk 29 [] 0 []) h=Cz (Gf::[[59]]) h:=by simp [Ez,Rf,Kk,Q4]
   rw [e,Fc (.of (by decide)),N7,Fa]
   simp [Bp]
theorem Adr {n:Nd}(h:FP n):R7 n=Hk n:=by
 cases h with
 | mk ds l hd hl =>
   have h1:=K7 (l:=ds) (h:=0) (p:=[]) fun x hx=>Ayg (hd x hx) 0
   have h2:=K7 (l:=l) (h:=0) (p:=[]) fun x hx=>Aw9 (hl x hx) 0
   have e1:(Nd.mk 40 [] 0 (ds++[.mk 30 [] 0 l])).kids.dropLast=ds:=by simp [Nd.kids]
   have e2:((Nd.mk 40 [] 0 (ds++[.mk 30 [] 0 l])).kids.getLastD B8).kids=l:=by simp [Nd.kids]
   rw [R7,e1,e2,h1,h2,Xv,Og]
theorem Rx {p:Nd}:∀ {l:List Nd}{i:Nat},(∀ (j:Nat)(x:Nd),l[j]?=some x→Ib p ((i+j:Nat):Int) x.kind=true∧Bo x=true)→C1 p i l=true
 | [],i,_=>by simp [C1]
 | x::l,i,h=>by
   have h0:=h 0 x rfl
   simp only [Nat.add_zero] at h0
   have h1:=Rx (p:=p) (l:=l) (i:=i+1) fun j y hj=>by
    have:=h (j+1) y (by simpa using hj)
    rwa [show i+(j+1)=i+1+j by omega] at this
   simp [C1,h0.1,h0.2,h1]
theorem Jh {n:Nd}(h:FE n):Bo n=true:=by
 induction h with
 | num m h0 h1=>simp [Bo,Fb,A4,De,Aj,C1,h0,h1]
 | var s h=>simp [Bo,Fb,A4,De,C1,h,Kx h]
 | cell s a h ha ih =>
   have:=Bt ha
   simp [Bo,Fb,A4,De,C1,Ib,H3,Av,h,Kx h,ih]
   exact this
 | len s h=>simp [Bo,Fb,A4,De,C1,h,Kx h]
 | neg a ha ih =>
   have:=Bt ha
   simp [Bo,Fb,A4,De,C1,Ib,H3,Av,ih]
   exact this
 | two k a b hk ha hb iha ihb =>
   have h1:=Bt ha
   have h2:=Bt hb
   rcases hk with rfl | rfl | rfl <;>
   ·simp [Bo,Fb,A4,De,C1,Ib,H3,Av,iha,ihb]
    exact ⟨h1,h2⟩
theorem T2 {n:Nd}(h:FC n):Bo n=true:=by
 cases h with
 | mk k a b h0 h1 ha hb =>
   have e1:=Bt ha
   have e2:=Bt hb
   have:k=11∨k=12∨k=13∨k=14∨k=15∨k=16:=by omega
   rcases this with rfl | rfl | rfl | rfl | rfl | rfl <;>
   ·simp [Bo,Fb,A4,De,C1,Ib,H3,Av,Jh ha,Jh hb]
    exact ⟨e1,e2⟩
theorem Iu {l:List Nd}(hl:∀ x,x∈l→FS x)(h:∀ x,x∈l→Bo x=true):Bo (.mk 30 [] 0 l)=true:=by
 have:=Rx (p:=.mk 30 [] 0 l) (l:=l) (i:=0) fun j x hx=>by
  have hm:=List.mem_of_getElem? hx
  have:=Ao0 (hl x hm)
  refine ⟨?_,h x hm⟩
  simp [Ib,Tc,Av]
  exact this
 simp [Bo,Fb,A4,De,this]
theorem Aii {n:Nd}(h:FS n):Bo n=true:=by
 induction h with
 | set s a h ha =>
   have:=Bt ha
   simp [Bo,Fb,A4,De,C1,Ib,H3,Av,h,Kx h,Jh ha]
   exact this
 | put s a b h ha hb =>
   have h1:=Bt ha
   have h2:=Bt hb
   simp [Bo,Fb,A4,De,C1,Ib,H3,Av,h,Kx h,Jh ha,Jh hb]
   exact ⟨h1,h2⟩
 | read s h=>simp [Bo,Fb,A4,De,C1,h,Kx h]
 | ifs c l l' hc hl hl' ihl ihl' =>
   have h1:=G7 hc
   have b1:=Iu hl ihl
   have b2:=Iu hl' ihl'
   rw [Bo]
   simp [Fb,A4,De,C1,Ib,Od,Av,T2 hc,b1,b2]
   exact h1
 | whil c l hc hl ihl =>
   have h1:=G7 hc
   have b1:=Iu hl ihl
   rw [Bo]
   simp [Fb,A4,De,C1,Ib,Od,Av,T2 hc,b1]
   exact h1
 | for_ s a b l h ha hb hl ihl =>
   have h1:=Bt ha
   have h2:=Bt hb
   have b1:=Iu hl ihl
   rw [Bo]
   simp [Fb,A4,De,C1,Ib,H3,Av,h,Kx h,Jh ha,Jh hb,b1]
   exact ⟨h1,h2⟩
 | check c hc =>
   have h1:=G7 hc
   simp [Bo,Fb,A4,De,C1,Ib,Od,Av,T2 hc]
   exact h1
 | skip=>simp [Bo,Fb,A4,De,C1]
 | stop=>simp [Bo,Fb,A4,De,C1]
theorem Aij {n:Nd}(h:FV n):Bo n=true:=by
 cases h with
 | var s h=>simp [Bo,Fb,A4,De,C1,h,Kx h]
 | arr s m h h0 h1=>simp [Bo,Fb,A4,De,C1,Aj,h,Kx h,h0,h1]
theorem T3 {n:Nd}(h:FP n):Bo n=true:=by
 cases h with
 | mk ds l hd hl =>
   have hb:=Iu hl fun x hx=>Aii (hl x hx)
   have:=Rx (p:=.mk 40 [] 0 (ds++[.mk 30 [] 0 l])) (l:=ds++[.mk 30 [] 0 l]) (i:=0) fun j x hx=>by
    rcases Nat.lt_or_ge j ds.length with hj | hj
    ·rw [List.getElem?_append_left hj] at hx
     have hm:=List.mem_of_getElem? hx
     refine ⟨?_,Aij (hd x hm)⟩
     have hk:=V1 (hd x hm)
     have e:Ib (.mk 40 [] 0 (ds++[.mk 30 [] 0 l])) ((0+j:Nat):Int) x.kind=(x.kind==31||x.kind==32):=by
      rw [Abm rfl,if_neg]
      simp [Nd.kids];omega
     rw [e];simpa using hk
    ·rw [List.getElem?_append_right hj] at hx
     have hj0:j=ds.length:=by
      have:=Ad hx
      simp at this;omega
     subst hj0
     simp at hx
     subst hx
     refine ⟨?_,hb⟩
     rw [Abm rfl,if_pos]
     ·simp [Nd.kind]
     ·simp [Nd.kids]
   simp [Bo,Fb,A4,De,this]
mutual
def longN:Nd→Bool
 | .mk _ s _ ks=>decide (8<s.length)||longL ks
def longL:List Nd→Bool
 | []=>false
 | x::l=>longN x||longL l
end
theorem Ng {l:List Nd}(h:∀ x,x∈l→longN x=false):longL l=false:=by
 induction l with
 | nil=>rfl
 | cons x l ih=>simp [longL,h x (by simp),ih fun y hy=>h y (by simp [hy])]
theorem Ld {n:Nd}(h:FE n):longN n=false:=by
 induction h with
 | num m h0 h1=>simp [longN,longL]
 | var s h=>simp [longN,longL,Gh h]
 | cell s a h ha ih=>simp [longN,longL,Gh h,ih]
 | len s h=>simp [longN,longL,Gh h]
 | neg a ha ih=>simp [longN,longL,ih]
 | two k a b hk ha hb iha ihb=>simp [longN,longL,iha,ihb]
theorem Wn {n:Nd}(h:FC n):longN n=false:=by
 cases h with | mk k a b h0 h1 ha hb=>simp [longN,longL,Ld ha,Ld hb]
theorem Akp {n:Nd}(h:FS n):longN n=false:=by
 induction h with
 | set s a h ha=>simp [longN,longL,Gh h,Ld ha]
 | put s a b h ha hb=>simp [longN,longL,Gh h,Ld ha,Ld hb]
 | read s h=>simp [longN,longL,Gh h]
 | ifs c l l' hc hl hl' ihl ihl'=>simp [longN,longL,Wn hc,Ng ihl,Ng ihl']
 | whil c l hc hl ihl=>simp [longN,longL,Wn hc,Ng ihl]
 | for_ s a b l h ha hb hl ihl=>simp [longN,longL,Gh h,Ld ha,Ld hb,Ng ihl]
 | check c hc=>simp [longN,longL,Wn hc]
 | skip=>simp [longN,longL]
 | stop=>simp [longN,longL]
theorem Akq {n:Nd}(h:FV n):longN n=false:=by
 cases h with
 | var s h=>simp [longN,longL,Gh h]
 | arr s m h h0 h1=>simp [longN,longL,Gh h]
theorem Ako {n:Nd}(h:FP n):longN n=false:=by
 cases h with
 | mk ds l hd hl =>
   have hb:longN (.mk 30 [] 0 l)=false:=by simp [longN,Ng fun x hx=>Akp (hl x hx)]
   have:=Ng (l:=ds++[.mk 30 [] 0 l]) fun x hx=>by
    rcases List.mem_append.1 hx with h | h
    ·exact Akq (hd x h)
    ·simp at h;subst h;exact hb
   simp [longN,this]
noncomputable def P9 (a b:Nd):Bool:=@decide (a=b) (Classical.propDecidable _)
theorem Nn {a b:Nd}:P9 a b=true↔a=b:=by unfold P9;exact @decide_eq_true_iff _ (Classical.propDecidable _)
noncomputable def Em (n:Nd):List UInt8 × Bool :=
 if Li n||(n.kids.isEmpty||longN n) then ([],false)
 else (R7 n,!(R7 n==[])&&((Da (R7 n)).2.1==0&&P9 (Da (R7 n)).1 n))
theorem Aeg {s:List UInt8}(h:(Da s).2.1=0):s.length≤4000:=by
 have hw:(Bz s).2.1=0:=by
  unfold Da at h
  split at h
  ·assumption
  ·exact h
 unfold Bz at hw
 split at hw
 ·simp at hw
 ·omega
theorem Afz (n:Nd):(Em n).2=Cc n∧(Cc n=true→(Em n).1=Hk n):=by
 have key:Cc n=true→Em n=(Hk n,true):=by
  intro h
  have hf:=Ot h
  obtain ⟨fp,hc,hd⟩:=hf
  have hp:=Adr fp
  simp only [Cc,Bool.and_eq_true,beq_iff_eq,Bool.not_eq_true',decide_eq_true_eq] at h
  obtain ⟨_,⟨h1,h2⟩,h3⟩:=h
  have hb:=Afx fp hc h3
  have hk:n.kids.isEmpty=false:=by cases fp with | mk ds l hd hl=>simp [Nd.kids]
  have hl:Li n=false:=by simp [Li];omega
  unfold Em
  rw [if_neg (by simp [hk,hl,Ako fp]),hp,hb,h1]
  simp [h3,Nn]
 refine ⟨?_,fun h=>by rw [key h]⟩
 cases hs:Cc n with
 | true=>rw [key hs]
 | false =>
   cases hp:(Em n).2 with
   | false=>rfl
   | true =>
     exfalso
     unfold Em at hp
     split at hp
     ·simp at hp
     ·simp only [Bool.and_eq_true,beq_iff_eq,Bool.not_eq_true',Nn] at hp
      obtain ⟨h1,h2,h3⟩:=hp
      obtain ⟨fp,hc,hd⟩:=Ado h2
      have hl:=Aeg h2
      rw [h3] at fp hc hd
      rw [Adr fp] at h1 h2 hl
      have hk:n.kind=40:=by cases fp;rfl
      have:Cc n=true:=by simp [Cc,hk,Oz,hc,hd,T3 fp,h1,hl,h2]
      rw [this] at hs;cases hs
end Go.V
namespace Go.V
open Go
section
variable {X:Cx}{B:Bx}{E:Env}{S:St}{w:World}{F:B3}{R:AE→St→Prop}
theorem Inv.wkB (hI:Inv X E S w){b r j:Nat}{rows:List (List AV)}{cs:List AV}{x y:AV}(hb:S.boxes[b]?=some rows)(hr:rows[r]?=some cs)(hc:cs[j]?=some x)(hw:Ren true [] [] x y) :
 Inv X E ⟨S.boxes.set b (rows.set r (cs.set j y)),S.toks⟩ w:=by
 refine hI.recell hb (by simp) (fun q hq=>?_) fun blk sz arr te hB hh k q p z v hk hp hv=>?_
 ·rcases List.mem_or_eq_of_mem_set hq with hq | rfl
  ·exact ⟨q,hq,rfl⟩
  ·exact ⟨cs,List.mem_of_getElem? hr,by simp⟩
 ·obtain ⟨arr',e,hh',hs,hl,hrel⟩:=hI.box b blk sz rows hB hb
  rw [hh] at hh';cases hh'
  rcases Ep hk with ⟨rfl,rfl⟩ | ⟨_,hk⟩
  ·rcases Ep hp with ⟨rfl,rfl⟩ | ⟨_,hp⟩
   ·exact hw.less (hrel _ cs _ x v hr hc hv)
   ·exact hrel _ cs p z v hr hp hv
  ·exact hrel k q p z v hk hp hv
theorem AK.wkB {K:List Item}(b r j:Nat){rows:List (List AV)}{cs:List AV}{x:AV}(y:AV){bx:List (List (List AV))}(hk:AK X B K F ⟨bx,S.toks⟩ R)(hb:S.boxes[b]?=some rows:=by rfl)(hr:rows[r]?=some cs:=by rfl)(hc:cs[j]?=some x:=by rfl)
 (hbx:S.boxes.set b (rows.set r (cs.set j y))=bx:=by rfl) [hw:RinC [] [] x y]:AK X B K F S R:=by
 subst hbx
 intro E w a b' cs' hI hF hn hm hb'
 exact hk E w a b' cs' (hI.wkB hb hr hc hw.s) hF (by simpa using hn) hm hb'
theorem AK.mintAll {K:List Item}(b n m:Nat){bx:List (List (List AV))}{tk:List Nat}(hb:S.boxes[b]?=some (List.replicate n [.sl [] .tight]))(hm:S.toks.length=m)
 (hbx:S.boxes.set b ((List.range n).map fun i=>[.sl [] (.tok (m+i))])=bx)(htk:S.toks++List.replicate n 0=tk)(hk:AK X B K F ⟨bx,tk⟩ R):AK X B K F S R:=by
 subst hm;subst hbx;subst htk
 have rowsK:∀ k,k≤n→((List.range k).map fun i=>[AV.sl [] (.tok (S.toks.length+i))]).length=k:=fun k _=>by simp
 have key:∀ q k,q+k=n→AK X B K F ⟨S.boxes.set b (((List.range k).map fun i=>[AV.sl [] (.tok (S.toks.length+i))])++List.replicate q [.sl [] .tight]),S.toks++List.replicate k 0⟩ R:=by
  intro q
  induction q with
  | zero =>
    intro k hk'
    have:k=n:=by omega
    subst this
    simpa using hk
  | succ q ih =>
    intro k hk'
    have hlt:b<S.boxes.length:=Ad hb
    have h1:=ih (k+1) (by omega)
    refine AK.mintB (m:=S.toks.length+k) b k 0 (rows:=((List.range k).map fun i=>[AV.sl [] (.tok (S.toks.length+i))])++List.replicate (q+1) [.sl [] .tight]) (cs:=[.sl [] .tight]) (sl:=[]) ?_ ?_ rfl ?_ ?_ ?_ h1
    ·simp [hlt]
    ·rw [List.getElem?_append_right (by simp)];simp [List.getElem?_replicate]
    ·simp
    ·simp only [List.set_set]
     congr 1
     rw [List.set_append_right _ _ (by simp),List.range_succ]
     simp [List.replicate_succ]
    ·simp [List.replicate_succ']
 have h0:=key n 0 (by omega)
 have e:S.boxes.set b (List.replicate n [.sl [] .tight])=S.boxes:=by
  apply List.ext_getElem?
  intro i
  by_cases hi:b=i
  ·subst hi
   have:=Ad hb
   rw [List.getElem?_set_self this,hb]
  ·rw [List.getElem?_set_ne hi]
 simp only [List.range_zero,List.map_nil,List.nil_append,List.replicate_zero,List.append_nil] at h0
 rw [e] at h0
 exact h0
instance (priority:=low){bx:List (List (List AV))}{tk:List Nat}{n m b:Nat}{cs cs':List AV} [h1:BoxC bx b [cs]] [h2:LeC n b] [h4:FzLC ⟨bx,tk⟩ n m cs cs']:FzC ⟨bx,tk⟩ n m (.ptr b 0 0) (.cptr cs') :=
 ⟨.ptr b 0 0 [cs] cs cs' h2.h h1.h rfl (by simpa using h4.s.get.1) (fun j x y hx hy=>h4.s.get.2 j x y (by simpa using hx) hy)⟩
end
end Go.V
namespace Go.V
open Go Go.Proofs
theorem Aac (s p:List UInt8):(Hm s p).length≤s.length:=by unfold Hm;split<;>simp
theorem Al2 (a b:List UInt8):(O5 a b).length≤1:=by unfold O5;split<;>simp
theorem Zb:∀ (ws:Jd)(a:List UInt8),(∀ w,w∈ws→w.length≤21)→(Ek a ws).length≤22*ws.length
 | [],a,_=>by simp [Ek]
 | b::ws,a,h=>by
   have h1:=Zb ws b fun w hw=>h w (by simp [hw])
   have h2:=Al2 a b
   have h3:=Aac b [32]
   have h4:=h b (by simp)
   simp only [Ek,List.length_append,List.length_cons];omega
def Yf (ws:Jd):Prop:=∀ w,w∈ws→w.length≤21
theorem Ai0 (ws:Jd)(h:Yf ws):(Mb ws).length≤22*ws.length:=by
 cases ws with
 | nil=>simp [Mb]
 | cons b ws =>
   have h1:=Zb ws b fun w hw=>h w (by simp [hw])
   have h3:=Aac b [32]
   have h4:=h b (by simp)
   simp only [Mb,List.length_append,List.length_cons];omega
theorem Bd {a b:Jd}(ha:Yf a)(hb:Yf b):Yf (a++b):=fun w hw=>(List.mem_append.1 hw).elim (ha w) (hb w)
theorem A7 {a:List UInt8}(h:a.length≤21):Yf [a]:=fun w hw=>by simp at hw;subst hw;exact h
theorem C5 {a:List UInt8}{l:Jd}(h:a.length≤21)(hl:Yf l):Yf (a::l):=fun w hw=>by
 rcases List.mem_cons.1 hw with rfl | hw
 ·exact h
 ·exact hl w hw
theorem Abq:Yf []:=fun w hw=>by cases hw
theorem D2 (ws:Jd)(h:Nat)(hw:Yf ws):(Cz ws h).length≤2*h+22*ws.length+1:=by
 have:=Ai0 ws hw
 simp [Cz];omega
theorem PrN.get {n:Nd}(h:PrN n):n.name.length≤8∧-9223372036854775808≤n.num∧n.num≤9223372036854775807∧∀ x,x∈n.kids→PrN x:=by
 cases h with | mk k s m ks hs h0 h1 hk=>exact ⟨hs,h0,h1,hk⟩
theorem Ahc {m:Int}(h0:-9223372036854775808≤m)(h1:m≤9223372036854775807):(Lib.itoa m).length≤21:=Lib.itoa_length_le m h0 h1
theorem Arn (k:Int):(P6 k).length≤21:=by have:=X2 k;omega
theorem Aug {a b:Bool}{k:Int}{w:Jd}(h:Yf w):Yf (Ls a b k w):=by
 unfold Ls
 split
 ·exact Bd (Bd (A7 (by simp)) h) (A7 (by simp))
 ·exact h
theorem S6 (n:Nd)(h:PrN n):Yf (Ap n):=by
 induction n using Nd.ind with
 | h n ih =>
   obtain ⟨hs,h0,h1,hk⟩:=h.get
   have K:∀ i,Yf (Ap (Bc n i)):=fun i=>by
    rcases Jm n i with h | h
    ·exact ih _ h (hk _ h)
    ·rw [h,Za];exact Abq
   have E:∀ i,Yf (eW (Be n.kids) i):=fun i=>by rw [Dt];exact K i
   have I:∀ i a b,Yf (iW (Be n.kids) i a b):=fun i a b=>by rw [Uf];exact Aug (K i)
   rw [W5]
   unfold Dx
   repeat' split
   ·exact A7 (Ahc h0 h1)
   ·exact A7 (by omega)
   ·exact Bd (Bd (C5 (by omega) (A7 (by simp))) (E 0)) (A7 (by simp))
   ·exact C5 (by simp) (C5 (by simp) (C5 (by omega) (A7 (by simp))))
   ·exact Bd (A7 (by simp)) (I 0 _ _)
   ·exact Bd (Bd (E 0) (A7 (by simp))) (I 1 _ _)
   ·exact Bd (Bd (E 0) (A7 (by simp))) (I 1 _ _)
   ·exact Bd (Bd (I 0 _ _) (A7 (by simp))) (I 1 _ _)
   ·exact Bd (Bd (E 0) (A7 (Arn _))) (E 1)
   ·exact Abq
theorem Zi (l:List Nd)(h:Nat):Gu l h=l.map fun x=>Vb x h:=by
 induction l with
 | nil=>simp [Gu]
 | cons x l ih=>simp [Gu,ih]
theorem Wv (n:Nd)(h:Nat):Vb n h=(Hp n.kids (h+1),!n.kids.isEmpty):=by cases n;simp [Vb,Nd.kids]
theorem Ags (n:Nd)(h i:Nat):bT (Gu n.kids h) i=Hp (Bc n i).kids (h+1)∧bQ' (Gu n.kids h) i=!(Bc n i).kids.isEmpty:=by
 have:(Gu n.kids h).getD i ([],false)=Vb (Bc n i) h:=by
  rw [Zi]
  unfold Bc
  cases hx:n.kids[i]? with
  | none=>simp [List.getD,hx,Wv,B8,Hp]
  | some x=>simp [List.getD,hx]
 rw [bT,bQ',this,Wv];exact ⟨rfl,rfl⟩
theorem Ahk (n:Nd)(h:Nat):Ez n h=Rf n.kind n.name n.num (Be n.kids) (Gu n.kids h) h:=by cases n;simp [Ez,Nd.kind,Nd.name,Nd.num,Nd.kids]
theorem Aob (n:Nd)(h:PrN n):Yf (Q4 n.kind n.name n.num (Be n.kids)):=by
 obtain ⟨hs,h0,h1,hk⟩:=h.get
 have E:∀ i,Yf (eW (Be n.kids) i):=fun i=>by rw [Dt];exact S6 _ (h.kid i)
 unfold Q4
 repeat' split
 ·exact C5 (by simp) (A7 (by omega))
 ·exact C5 (by simp) (C5 (by omega) (C5 (by simp) (C5 (by simp) (A7 (by simp)))))
 ·exact C5 (by simp) (C5 (by omega) (C5 (by simp) (C5 (Ahc h0 h1) (A7 (by simp)))))
 ·exact Bd (C5 (by omega) (A7 (by simp))) (E 0)
 ·exact Bd (Bd (Bd (C5 (by omega) (A7 (by simp))) (E 0)) (C5 (by simp) (A7 (by simp)))) (E 1)
 ·exact C5 (by simp) (A7 (by omega))
 ·exact Bd (A7 (by simp)) (E 0)
 ·exact A7 (by simp)
 ·exact A7 (by simp)
theorem Aa1 (ks:List Nd):(eW (Be ks) 0).length+(eW (Be ks) 1).length≤8*Ar ks:=by
 have:=(Ac9 ks fun x _=>Y9 x).1
 omega
theorem Art (n:Nd):(Q4 n.kind n.name n.num (Be n.kids)).length≤8*Ar n.kids+5:=by
 have:=Aa1 n.kids
 unfold Q4
 repeat' split
 all_goals simp
 all_goals omega
theorem Abr {l:List Nd}{h:Nat}(hx:∀ x,x∈l→(Ez x h).length≤1000*Ai x):(Hp l h).length≤1000*Ar l:=by
 induction l with
 | nil=>simp [Hp]
 | cons x l ih =>
   have h1:=hx x (by simp)
   have h2:=ih fun y hy=>hx y (by simp [hy])
   simp only [Hp,Ar,List.length_append];omega
def cK (ks:List Nd)(i:Nat):Nat:=match ks[i]? with
 | some x=>Ai x
 | none=>0
theorem Ato (ks:List Nd):cK ks 0+cK ks 1+cK ks 2≤Ar ks:=by
 match ks with
 | []=>simp [cK]
 | [a]=>simp [cK,Ar]
 | [a,b]=>simp [cK,Ar]
 | a::b::c::l=>simp [cK,Ar];omega
theorem Asr (ks:List Nd)(i:Nat):(eW (Be ks) i).length≤8*cK ks i:=by
 rw [eW,Zk]
 unfold cK
 cases hx:ks[i]? with
 | none=>simp [List.getD,hx]
 | some x=>have:=Y9 x;simp [List.getD,hx];omega
theorem Awx (ks:List Nd)(h i:Nat)(hx:∀ y,y∈ks→∀ x,x∈y.kids→(Ez x (h+1)).length≤1000*Ai x):(bT (Gu ks h) i).length≤1000*cK ks i:=by
 rw [bT,Zi]
 unfold cK
 cases hy:ks[i]? with
 | none=>simp [List.getD,hy]
 | some y =>
   have:=Abr (hx y (List.mem_of_getElem? hy))
   have:=Bu y
   simp [List.getD,hy,Wv];omega
theorem Ahl (n:Nd):∀ h:Nat,PrN n→h+B5 n≤60→(Ez n h).length≤1000*Ai n:=by
 have:∀ n:Nd,(∀ h:Nat,PrN n→h+B5 n≤60→(Ez n h).length≤1000*Ai n)∧∀ y,y∈n.kids→∀ h:Nat,PrN y→h+B5 y≤60→(Ez y h).length≤1000*Ai y:=by
  intro n
  induction n using Nd.ind with
  | h n ih =>
    refine ⟨fun h hp hd=>?_,fun y hy=>(ih y hy).1⟩
    have hdn:=Hb n
    have hcn:=Bu n
    have hb:=fun i=>Awx n.kids h i fun y hy x hx=>(ih y hy).2 x hx (h+1) ((hp.get.2.2.2 y hy).get.2.2.2 x hx) (by
     have h1:=D8 hy
     have h2:=D8 hx
     have h3:=Hb y
     omega)
    have he:=Aa1 n.kids
    have b1:=hb 1
    have b2:=hb 2
    have e0:=Asr n.kids 0
    have e1:=Asr n.kids 1
    have cs:=Ato n.kids
    have E:∀ i,Yf (eW (Be n.kids) i):=fun i=>by rw [Dt];exact S6 _ (hp.kid i)
    have hs:=hp.get.1
    rw [Ahk]
    unfold Rf
    split
    ·have h1:=D2 (Q4 n.kind n.name n.num (Be n.kids)++[[59]]) h (Bd (Aob n hp) (A7 (by simp)))
     have h2:=Art n
     simp at h1;omega
    ·have l1:=D2 [[125]] h (A7 (by simp))
     have l2:=D2 [[125],Fw,[123]] h (C5 (by simp) (C5 (by simp) (A7 (by simp))))
     have l0:=D2 [] h Abq
     have a1:=D2 ([Q8]++eW (Be n.kids) 0++[[123]]) h (Bd (Bd (A7 (by simp)) (E 0)) (A7 (by simp)))
     have a2:=D2 ([D5]++eW (Be n.kids) 0++[[123]]) h (Bd (Bd (A7 (by simp)) (E 0)) (A7 (by simp)))
     have a3:=D2 ([I9,n.name,Gw]++eW (Be n.kids) 0++[Vx]++eW (Be n.kids) 1++[[123]]) h
      (Bd (Bd (Bd (Bd (C5 (by simp) (C5 (by omega) (A7 (by simp)))) (E 0)) (A7 (by simp))) (E 1)) (A7 (by simp)))
     simp at l1 l2 l0 a1 a2 a3
     unfold cpT
     repeat' split
     all_goals simp
     all_goals omega
 exact (this n).1
abbrev bK (A:AV)(s:List UInt8)(ws:Jd)(h:Int):List AV:=[A,.buf 5 s 0,.sl (Ci ws) (.tok 2),vi h]
def HS (x:Nd):Prop:=∀ (b:Bool)(s:List UInt8)(h:Nat),h+B5 x≤60→s.length+(Ez x h).length≤1000000000 →
 Hands X 266 [.ptr 0 0 0,nd x] ⟨[[bN (Kg 312 0 b) s h]],[s.length]⟩ (.tup []) ⟨[[bN (.ptr 0 0 0) (s++Ez x h) h]],[(s++Ez x h).length]⟩
def Ks (x:Nd)(ws:Jd)(h:Nat):List UInt8:=Cz (ws++[[123]]) h++Hp x.kids (h+1)
def HBk (x:Nd):Prop:=∀ (b:Bool)(s:List UInt8)(ws:Jd)(h:Nat),h+B5 x≤60→Yf ws→ws.length≤900000→s.length+(Ks x ws h).length≤1000000000 →
 Hands X 315 [.ptr 0 0 0,nd x] ⟨[[bP (Kg 312 0 b) s ws h]],[s.length,ws.length]⟩ (.tup [])
  ⟨[[bK (.ptr 0 0 0) (s++Ks x ws h) [[125]] h]],[(s++Ks x ws h).length,(ws++[[123]]).length,1]⟩
theorem PutC.f {r:List (List AV)}{xs:Jd}(hp:PutC r xs)(s:List UInt8)(ws:Jd)(h:Int)(hw:ws.length≤1000000000) :
 Hands X 294 [.ptr 0 0 0,.sl r .no] ⟨[[bP (.ptr 0 0 0) s ws h]],[s.length,ws.length]⟩ (.tup []) ⟨[[bP (.ptr 0 0 0) s (ws++xs) h]],[s.length,(ws++xs).length]⟩:=hp false s ws h hw
theorem PutC.n {r:List (List AV)}{xs:Jd}(hp:PutC r xs)(b:Bool)(s:List UInt8)(h:Int) :
 Hands X 294 [.ptr 0 0 0,.sl r .no] ⟨[[[Kg 312 0 b,.buf 5 s 0,.sl [] (.tok 1),vi h]]],[s.length,0]⟩ (.tup []) ⟨[[bP (Kg 312 0 b) s xs h]],[s.length,xs.length]⟩:=hp b s [] h (by simp)
theorem PutC.m {r:List (List AV)}{xs:Jd}(hp:PutC r xs)(s:List UInt8)(h:Int) :
 Hands X 294 [.ptr 0 0 0,.sl r .no] ⟨[[[.ptr 0 0 0,.buf 5 s 0,.sl [] (.tok 1),vi h]]],[s.length,0]⟩ (.tup []) ⟨[[bP (.ptr 0 0 0) s xs h]],[s.length,xs.length]⟩:=hp false s [] h (by simp)
theorem Asp (b:Bool)(s:List UInt8)(h:Int):RinB [0] [0] [[bN (Kg 312 0 b) s h]] [[bN (Kg 312 0 b) s h]] :=
 have h1:RinC [0] [0] (Kg 312 0 b) (Kg 312 0 b):=inferInstance
 have h2:RinC [0] [0] (.buf 5 s 0) (.buf 5 s 0):=inferInstance
 have h3:Ren true [0] [0] (.sl [] .tight) (.sl [] .tight):=T5 .nil (.inr (.inr (.inr (.inl ⟨rfl,rfl⟩))))
 have h4:RinC [0] [0] (vi h) (vi h):=inferInstance
 ⟨.cons (.cons (.cons h1.s (.cons h2.s (.cons h3 (.cons h4.s .nil)))) .nil) .nil⟩
theorem Aww (s:List UInt8)(h:Int):RinB [0] [0] [[bN (.ptr 0 0 0) s h]] [[bN (.ptr 0 0 0) s h]]:=Asp false s h
theorem HS.f {x:Nd}(hx:HS x)(s:List UInt8)(h:Nat)(hd:h+B5 x≤60)(hl:s.length+(Ez x h).length≤1000000000) :
 Hands X 266 [.ptr 0 0 0,nd x] ⟨[[bN (.ptr 0 0 0) s h]],[s.length]⟩ (.tup []) ⟨[[bN (.ptr 0 0 0) (s++Ez x h) h]],[(s++Ez x h).length]⟩:=hx false s h hd hl
theorem HBk.f {x:Nd}(hx:HBk x)(s:List UInt8)(ws:Jd)(h:Nat)(hd:h+B5 x≤60)(hw:Yf ws)(hwl:ws.length≤900000)(hl:s.length+(Ks x ws h).length≤1000000000) :
 Hands X 315 [.ptr 0 0 0,nd x] ⟨[[bP (.ptr 0 0 0) s ws h]],[s.length,ws.length]⟩ (.tup [])
  ⟨[[bK (.ptr 0 0 0) (s++Ks x ws h) [[125]] h]],[(s++Ks x ws h).length,(ws++[[123]]).length,1]⟩:=hx false s ws h hd hw hwl hl
theorem Ey (ws:Jd)(h:Nat):(Cz ws h).length=2*h+(Mb ws).length+1:=by simp [Cz];omega
theorem P0 {ws:Jd}(h:Yf ws):∀ x,x∈ws→x.length≤1000000:=fun x hx=>by have:=h x hx;omega
theorem Ag7 (x:Nd)(hy:∀ y,y∈x.kids→HS y)(hl:x.kids.length≤100000):HBk x:=by
 intro b s ws h hd hw hwl hb
 have dx:=Hb x
 have e1:(Ks x ws h).length=(Cz (ws++[[123]]) h).length+(Hp x.kids (h+1)).length:=by simp [Ks]
 have e2:=Ey (ws++[[123]]) h
 have hi1:IntKind.i64.wrap ((h:Int)+1)=((h+1:Nat):Int):=(Ac (by omega) (by omega)).trans (by omega)
 have hi2:IntKind.i64.wrap (((h+1:Nat):Int)-1)=(h:Int):=(Ac (by omega) (by omega)).trans (by omega)
 refine Hands.run (n:=1) (m:=2) Tryz.func315 ?_
 refine AK.hc (τ':=[0,1]) [0] [0,1] (Gm [123] b s ws h (by omega)) ?_
 refine AK.hc (τ':=[0]) [0] [0] (Lh b s (ws++[[123]]) h (by omega) (by simp<;>omega) (by omega) (by omega) (P0 (Bd hw (A7 (by simp))))) ?_
 refine AK.sto ⟨[[bN (.ptr 0 0 0) (s++Cz (ws++[[123]]) h) ((h+1:Nat):Int)],[Af x]],[(s++Cz (ws++[[123]]) h).length,(ws++[[123]]).length]⟩ ?_ (by rw [← hi1]<;>rfl)
 refine AK.while_ (ι:=Nat × List UInt8) 2 2 (fun i=>i.1≤x.kids.length∧i.2++Hp (x.kids.drop i.1) (h+1)=s++Ks x ws h) (fun i=>[(21,vi i.1),(20,vi x.kids.length),(19,.sl (Ak x.kids) .no),(0,.ptr 0 0 0)])
  (fun i=>⟨[[bN (.ptr 0 0 0) i.2 ((h+1:Nat):Int)],[Af x]],[i.2.length,(ws++[[123]]).length]⟩) (fun i=>x.kids.length-i.1) ?_ (0,s++Cz (ws++[[123]]) h) ⟨Nat.zero_le _,by simp [Ks]⟩ ⟨rfl,by rw [← Ae];rfl,rfl,rfl,trivial⟩ rfl rfl rfl rfl rfl
  (fun _=>inferInstance) (fun _=>inferInstance)
 rintro ⟨i,out⟩ ⟨hi,hT⟩ IH
 simp only at hi hT IH ⊢
 have hol:=congrArg List.length hT
 simp only [List.length_append] at hol
 refine AK.ei (fun h1=>?_) (fun h1=>?_)
 ·have hlt:i<x.kids.length:=by have:=of_decide_eq_true h1;omega
  obtain ⟨y,hyi⟩:=Aa x.kids hlt
  have hmem:=List.mem_of_getElem? hyi
  have hdr:=An hyi
  rw [hdr] at hT hol
  simp only [Hp,List.length_append] at hT hol
  refine AK.ix i (by omega) (Ao hyi) ?_
  refine AK.hc (hb:=Aww out ((h+1:Nat):Int)) (τ':=[0]) [0] [0] ((hy y hmem).f out (h+1) (by have:=D8 hmem;omega) (by omega)) ?_
  exact IH (i+1,out++Ez y (h+1)) ⟨hlt,by simpa using hT⟩ (by simp only;omega) _ _ ⟨vsx (by omega),rfl,rfl,rfl,trivial⟩ rfl rfl rfl
 ·have hie:i=x.kids.length:=by have:=of_decide_eq_false h1;omega
  subst hie
  rw [List.drop_eq_nil_of_le (Nat.le_refl _)] at hT
  simp only [Hp,List.append_nil] at hT
  subst hT
  refine AK.sto ⟨[[bN (.ptr 0 0 0) (s++Ks x ws h) h],[Af x]],[(s++Ks x ws h).length,(ws++[[123]]).length]⟩ ?_ (by rw [← hi2]<;>rfl)
  refine AK.mintB 0 0 2 (bx:=[[[.ptr 0 0 0,.buf 5 (s++Ks x ws h) 0,.sl [] (.tok 2),vi h]],[Af x]]) (tk:=[(s++Ks x ws h).length,(ws++[[123]]).length,0]) rfl rfl rfl rfl rfl rfl ?_
  refine AK.hc (τ':=[0,2]) [0] [0,2] ((Gm [125]).m (s++Ks x ws h) h) ?_
  exact AK.fb Tryz.func315 rfl rfl
def cpP (k:Int)(s:List UInt8)(c:List (Int × Jd))(b:List (List UInt8 × Bool))(h:Nat):List UInt8 :=
 if k=24 then Cz ([Q8]++eW c 0++[[123]]) h++bT b 1++(if bQ' b 2 then Cz [[125],Fw,[123]] h++bT b 2 else [])
 else if k=25 then Cz ([D5]++eW c 0++[[123]]) h++bT b 1
 else if k=26 then Cz ([I9,s,Gw]++eW c 0++[Vx]++eW c 1++[[123]]) h++bT b 2
 else []
def cpW (k:Int):Jd:=if k=24 then [[125]] else if k=25 then [[125]] else if k=26 then [[125]] else []
def cpB (k:Int)(b:Bool):Bool:=if k=24 then false else if k=25 then false else if k=26 then false else b
theorem Atx (k:Int)(s:List UInt8)(c:List (Int × Jd))(b:List (List UInt8 × Bool))(h:Nat):cpT k s c b h=cpP k s c b h++Cz (cpW k) h:=by
 unfold cpT cpP cpW
 repeat' split
 all_goals simp
theorem Aav (n:Nd)(h i:Nat):bT (Gu n.kids h) i=Hp (Bc n i).kids (h+1):=(Ags n h i).1
theorem Atj (n:Nd)(h i:Nat):bQ' (Gu n.kids h) i=!(Bc n i).kids.isEmpty:=(Ags n h i).2
theorem Zh (n:Nd)(i:Nat){h:Nat}(hd:h+B5 n≤60):h+B5 (Bc n i)≤60:=by
 have:=Hb n
 rcases Jm n i with h | h
 ·have:=D8 h;omega
 ·rw [h];show _+1≤60;omega
set_option maxHeartbeats 2000000 in
theorem Afc (n:Nd)(hp:PrN n)(hsz:Ai n≤1000)(hk:∀ i,HBk (Bc n i))(b:Bool)(s:List UInt8)(h:Nat)(hd:h+B5 n≤60)(hl:s.length+(cpP n.kind n.name (Be n.kids) (Gu n.kids h) h).length≤1000000000) :
 Hands X 298 [.ptr 0 0 0,nd n] ⟨[[bN (Kg 312 0 b) s h]],[s.length]⟩ (.tup [])
  ⟨[[bQ (Kg 312 0 (cpB n.kind b)) (s++cpP n.kind n.name (Be n.kids) (Gu n.kids h) h) (cpW n.kind) h]],[(s++cpP n.kind n.name (Be n.kids) (Gu n.kids h) h).length]⟩:=by
 have hkl:n.kids.length≤4000000000:=by have:=A9 n.kids;have:=Bu n;omega
 have q0:=Xx n 0 (by omega) hkl
 have q1:=Xx n 1 (by omega) hkl
 have q2:=Xx n 2 (by omega) hkl
 have e0:=Abg (Bc n 0) (hp.kid 0)
 have e1:=Abg (Bc n 1) (hp.kid 1)
 have w0:=S6 (Bc n 0) (hp.kid 0)
 have w1:=S6 (Bc n 1) (hp.kid 1)
 have he:=Aa1 n.kids
 have hcn:=Bu n
 rw [Dt,Dt] at he
 have kc:∀ i,Ai (Bc n i)≤1000:=fun i=>by
  rcases Jm n i with h | h
  ·have:=Dm h;omega
  ·rw [h];decide
 have c0:=kc 0
 have c1:=kc 1
 have d1:=Zh n 1 hd
 have d2:=Zh n 2 hd
 have hs8:=hp.get.1
 refine Hands.run (n:=1) (m:=1) Tryz.func298 ?_
 refine AK.if_ (fun h1=>?_) (fun h1=>?_)
 ·have h1':n.kind=24:=by simpa using h1
  have hB:cpB n.kind b=false:=by unfold cpB;rw [if_pos h1']
  have hW:cpW n.kind=[[125]]:=by unfold cpW;rw [if_pos h1']
  have hP:cpP n.kind n.name (Be n.kids) (Gu n.kids h) h=Ks (Bc n 1) ([Q8]++Ap (Bc n 0)) h++(if !(Bc n 2).kids.isEmpty then Ks (Bc n 2) ([[125]]++[Fw]) h else []):=by
   unfold cpP;rw [if_pos h1',Dt,Aav,Atj,Aav];simp [Ks]
  rw [hB,hW]
  rw [hP] at hl ⊢
  simp only [List.length_append] at hl
  refine AK.mintB 0 0 2 (bx:=[[[Kg 312 0 b,.buf 5 s 0,.sl [] (.tok 1),vi h]],[Af n]]) (tk:=[s.length,0]) rfl rfl rfl rfl rfl rfl ?_
  refine AK.hc (τ':=[0,1]) [0] [0,1] ((Gm Q8).n b s h) ?_
  refine AK.pc q0 ?_
  refine AK.hc (τ':=[0,1]) [0] [0,1] (e0 (by omega) b s ([Q8]) h (by simp<;>omega)) ?_
  refine AK.pc q1 ?_
  refine AK.hc (τ':=[0,1,2]) [0] [0,1] (hk 1 b s ([Q8]++Ap (Bc n 0)) h d1 (Bd ((A7 (by simp))) w0) (by simp<;>omega) (by omega)) ?_
  refine AK.pc q2 ?_
  refine AK.if_ (fun h2=>?_) (fun h2=>?_)
  ·have h2':(!(Bc n 2).kids.isEmpty)=true:=by
    have:=of_decide_eq_true h2
    rw [Ae] at this
    cases hh:(Bc n 2).kids with
    | nil=>rw [hh] at this;simp at this
    | cons y l=>rfl
   rw [if_pos h2'] at hl ⊢
   rw [← List.append_assoc]
   refine AK.hc (τ':=[0,2]) [0] [0,2] ((Gm Fw).f (s++Ks (Bc n 1) ([Q8]++Ap (Bc n 0)) h) [[125]] h (by simp)) ?_
   refine AK.pc q2 ?_
   refine AK.hc (τ':=[0,2,3]) [0] [0,2] ((hk 2).f (s++Ks (Bc n 1) ([Q8]++Ap (Bc n 0)) h) ([[125]]++[Fw]) h d2 (Bd (A7 (by simp)) (A7 (by simp))) (by simp) (by simp only [List.length_append];omega)) ?_
   refine AK.wkB 0 0 2 (.sl (Ci [[125]]) .no) ?_
   exact AK.fb Tryz.func298 rfl rfl
  ·have h2':¬ (!(Bc n 2).kids.isEmpty)=true:=by
    have:=of_decide_eq_false h2
    rw [Ae] at this
    cases hh:(Bc n 2).kids with
    | nil=>simp
    | cons y l=>rw [hh] at this;simp at this
   rw [if_neg h2',List.append_nil] at *
   refine AK.wkB 0 0 2 (.sl (Ci [[125]]) .no) ?_
   exact AK.fb Tryz.func298 rfl rfl
 have h1':n.kind≠24:=by simpa using h1
 refine AK.if_ (fun h2=>?_) (fun h2=>?_)
 ·have h2':n.kind=25:=by simpa using h2
  have hB:cpB n.kind b=false:=by unfold cpB;rw [if_neg h1',if_pos h2']
  have hW:cpW n.kind=[[125]]:=by unfold cpW;rw [if_neg h1',if_pos h2']
  have hP:cpP n.kind n.name (Be n.kids) (Gu n.kids h) h=Ks (Bc n 1) ([D5]++Ap (Bc n 0)) h:=by
   unfold cpP;rw [if_neg h1',if_pos h2',Dt,Aav];simp [Ks]
  rw [hB,hW]
  rw [hP] at hl ⊢
  refine AK.mintB 0 0 2 (bx:=[[[Kg 312 0 b,.buf 5 s 0,.sl [] (.tok 1),vi h]],[Af n]]) (tk:=[s.length,0]) rfl rfl rfl rfl rfl rfl ?_
  refine AK.hc (τ':=[0,1]) [0] [0,1] ((Gm D5).n b s h) ?_
  refine AK.pc q0 ?_
  refine AK.hc (τ':=[0,1]) [0] [0,1] (e0 (by omega) b s ([D5]) h (by simp<;>omega)) ?_
  refine AK.pc q1 ?_
  refine AK.hc (τ':=[0,1,2]) [0] [0,1] (hk 1 b s ([D5]++Ap (Bc n 0)) h d1 (Bd ((A7 (by simp))) w0) (by simp<;>omega) (by omega)) ?_
  refine AK.wkB 0 0 2 (.sl (Ci [[125]]) .no) ?_
  exact AK.fb Tryz.func298 rfl rfl
 have h2':n.kind≠25:=by simpa using h2
 refine AK.if_ (fun h3=>?_) (fun h3=>?_)
 ·have h3':n.kind=26:=by simpa using h3
  have hB:cpB n.kind b=false:=by unfold cpB;rw [if_neg h1',if_neg h2',if_pos h3']
  have hW:cpW n.kind=[[125]]:=by unfold cpW;rw [if_neg h1',if_neg h2',if_pos h3']
  have hP:cpP n.kind n.name (Be n.kids) (Gu n.kids h) h=Ks (Bc n 2) ([I9,n.name,Gw]++Ap (Bc n 0)++[Vx]++Ap (Bc n 1)) h:=by
   unfold cpP;rw [if_neg h1',if_neg h2',if_pos h3',Dt,Dt,Aav];simp [Ks]
  rw [hB,hW]
  rw [hP] at hl ⊢
  refine AK.mintB 0 0 2 (bx:=[[[Kg 312 0 b,.buf 5 s 0,.sl [] (.tok 1),vi h]],[Af n]]) (tk:=[s.length,0]) rfl rfl rfl rfl rfl rfl ?_
  refine AK.hc (τ':=[0,1]) [0] [0,1] ((Ayi I9 n.name Gw).n b s h) ?_
  refine AK.pc q0 ?_
  refine AK.hc (τ':=[0,1]) [0] [0,1] (e0 (by omega) b s ([I9,n.name,Gw]) h (by simp<;>omega)) ?_
  refine AK.hc (τ':=[0,1]) [0] [0,1] (Gm Vx b s ([I9,n.name,Gw]++Ap (Bc n 0)) h (by simp<;>omega)) ?_
  refine AK.pc q1 ?_
  refine AK.hc (τ':=[0,1]) [0] [0,1] (e1 (by omega) b s ([I9,n.name,Gw]++Ap (Bc n 0)++[Vx]) h (by simp<;>omega)) ?_
  refine AK.pc q2 ?_
  refine AK.hc (τ':=[0,1,2]) [0] [0,1] (hk 2 b s ([I9,n.name,Gw]++Ap (Bc n 0)++[Vx]++Ap (Bc n 1)) h d2
   (Bd (Bd (Bd (C5 (by simp) (C5 (by omega) (A7 (by simp)))) w0) (A7 (by simp))) w1) (by simp<;>omega) (by omega)) ?_
  refine AK.wkB 0 0 2 (.sl (Ci [[125]]) .no) ?_
  exact AK.fb Tryz.func298 rfl rfl
 have h3':n.kind≠26:=by simpa using h3
 have hB:cpB n.kind b=b:=by unfold cpB;rw [if_neg h1',if_neg h2',if_neg h3']
 have hW:cpW n.kind=[]:=by unfold cpW;rw [if_neg h1',if_neg h2',if_neg h3']
 have hP:cpP n.kind n.name (Be n.kids) (Gu n.kids h) h=[]:=by unfold cpP;rw [if_neg h1',if_neg h2',if_neg h3']
 rw [hB,hW,hP,List.append_nil]
 refine AK.wkB 0 0 2 (.sl (Ci []) .no) ?_
 exact AK.fb Tryz.func298 rfl rfl
set_option maxHeartbeats 2000000 in
theorem At7 (n:Nd)(hp:PrN n)(hsz:Ai n≤1000)(hk:∀ i,HBk (Bc n i)):HS n:=by
 intro b s h hd hl
 have hkl:n.kids.length≤4000000000:=by have:=A9 n.kids;have:=Bu n;omega
 have q0:=Xx n 0 (by omega) hkl
 have q1:=Xx n 1 (by omega) hkl
 have e0:=Abg (Bc n 0) (hp.kid 0)
 have e1:=Abg (Bc n 1) (hp.kid 1)
 have he:=Aa1 n.kids
 have hcn:=Bu n
 rw [Dt,Dt] at he
 have kc:∀ i,Ai (Bc n i)≤1000:=fun i=>by
  rcases Jm n i with h | h
  ·have:=Dm h;omega
  ·rw [h];decide
 have c0:=kc 0
 have c1:=kc 1
 have hn:=hp.get
 have hst:=Aob n hp
 have hO:Ez n h=if Kk n.kind then Cz (Q4 n.kind n.name n.num (Be n.kids)++[[59]]) h else cpP n.kind n.name (Be n.kids) (Gu n.kids h) h++Cz (cpW n.kind) h:=by
  rw [Ahk];unfold Rf;split
  ·rfl
  ·rw [Atx]
 refine Hands.run (n:=1) (m:=1) Tryz.func266 ?_
 refine AK.if_ (fun h31=>?_) (fun h31=>?_)
 ·have h31':n.kind=31:=by simpa using h31
  have hT:Q4 n.kind n.name n.num (Be n.kids)=[Ke,n.name]:=by unfold Q4;rw [if_pos h31']<;>rfl
  rw [if_pos (by simp [Kk,h31']),hT] at hO
  rw [hT] at hst
  rw [hO] at hl ⊢
  have hfl:=Ey ([Ke,n.name]++[[59]]) h
  have hwl:=D2 ([Ke,n.name]++[[59]]) h (Bd hst (A7 (by simp)))
  refine AK.mintB 0 0 2 (bx:=[[[Kg 312 0 b,.buf 5 s 0,.sl [] (.tok 1),vi h]],[Af n]]) (tk:=[s.length,0]) rfl rfl rfl rfl rfl rfl ?_
  refine AK.hc (τ':=[0,1]) [0] [0,1] ((Ajq Ke n.name).n b s h) ?_
  refine AK.hc (τ':=[0,1]) [0] [0,1] (Gm [59] b s ([Ke,n.name]) h (by simp<;>omega)) ?_
  refine AK.hc (τ':=[0]) [0] [0] (Lh b s ([Ke,n.name]++[[59]]) h (by omega) (by simp<;>omega) (by omega) (by omega) (P0 (Bd hst (A7 (by simp))))) ?_
  exact AK.fb Tryz.func266 rfl rfl
 have h31':n.kind≠31:=by simpa using h31
 refine AK.if_ (fun h32=>?_) (fun h32=>?_)
 ·have h32':n.kind=32:=by simpa using h32
  refine AK.pc (Afs n.num hn.2.1 hn.2.2.1) ?_
  refine AK.if_ (fun hm=>?_) (fun hm=>?_)
  ·have hm':n.num=-1:=by simpa using hm
   have hT:Q4 n.kind n.name n.num (Be n.kids)=[Dh,n.name,[91],[63],[93]]:=by unfold Q4;rw [if_neg h31',if_pos h32',if_pos hm']<;>rfl
   rw [if_pos (by simp [Kk,h32']),hT] at hO
   rw [hT] at hst
   rw [hO] at hl ⊢
   have hfl:=Ey ([Dh,n.name,[91],[63],[93]]++[[59]]) h
   have hwl:=D2 ([Dh,n.name,[91],[63],[93]]++[[59]]) h (Bd hst (A7 (by simp)))
   refine AK.mintB 0 0 2 (bx:=[[[Kg 312 0 b,.buf 5 s 0,.sl [] (.tok 1),vi h]],[Af n]]) (tk:=[s.length,0]) rfl rfl rfl rfl rfl rfl ?_
   refine AK.hc (τ':=[0,1]) [0] [0,1] ((Axh Dh n.name [91] [63] [93]).n b s h) ?_
   refine AK.hc (τ':=[0,1]) [0] [0,1] (Gm [59] b s ([Dh,n.name,[91],[63],[93]]) h (by simp<;>omega)) ?_
   refine AK.hc (τ':=[0]) [0] [0] (Lh b s ([Dh,n.name,[91],[63],[93]]++[[59]]) h (by omega) (by simp<;>omega) (by omega) (by omega) (P0 (Bd hst (A7 (by simp))))) ?_
   exact AK.fb Tryz.func266 rfl rfl
  ·have hm':¬ n.num=-1:=by simpa using hm
   have hT:Q4 n.kind n.name n.num (Be n.kids)=[Dh,n.name,[91],Lib.itoa n.num,[93]]:=by unfold Q4;rw [if_neg h31',if_pos h32',if_neg hm']<;>rfl
   rw [if_pos (by simp [Kk,h32']),hT] at hO
   rw [hT] at hst
   rw [hO] at hl ⊢
   have hfl:=Ey ([Dh,n.name,[91],Lib.itoa n.num,[93]]++[[59]]) h
   have hwl:=D2 ([Dh,n.name,[91],Lib.itoa n.num,[93]]++[[59]]) h (Bd hst (A7 (by simp)))
   refine AK.mintB 0 0 2 (bx:=[[[Kg 312 0 b,.buf 5 s 0,.sl [] (.tok 1),vi h]],[Af n]]) (tk:=[s.length,0]) rfl rfl rfl rfl rfl rfl ?_
   refine AK.hc (τ':=[0,1]) [0] [0,1] ((Axh Dh n.name [91] (Lib.itoa n.num) [93]).n b s h) ?_
   refine AK.hc (τ':=[0,1]) [0] [0,1] (Gm [59] b s ([Dh,n.name,[91],Lib.itoa n.num,[93]]) h (by simp<;>omega)) ?_
   refine AK.hc (τ':=[0]) [0] [0] (Lh b s ([Dh,n.name,[91],Lib.itoa n.num,[93]]++[[59]]) h (by omega) (by simp<;>omega) (by omega) (by omega) (P0 (Bd hst (A7 (by simp))))) ?_
   exact AK.fb Tryz.func266 rfl rfl
 have h32':n.kind≠32:=by simpa using h32
 refine AK.if_ (fun h21=>?_) (fun h21=>?_)
 ·have h21':n.kind=21:=by simpa using h21
  have hT:Q4 n.kind n.name n.num (Be n.kids)=[n.name,[61]]++Ap (Bc n 0):=by unfold Q4;rw [if_neg h31',if_neg h32',if_pos h21',Dt]<;>rfl
  rw [if_pos (by simp [Kk,h21']),hT] at hO
  rw [hT] at hst
  rw [hO] at hl ⊢
  have hfl:=Ey ([n.name,[61]]++Ap (Bc n 0)++[[59]]) h
  have hwl:=D2 ([n.name,[61]]++Ap (Bc n 0)++[[59]]) h (Bd hst (A7 (by simp)))
  refine AK.mintB 0 0 2 (bx:=[[[Kg 312 0 b,.buf 5 s 0,.sl [] (.tok 1),vi h]],[Af n]]) (tk:=[s.length,0]) rfl rfl rfl rfl rfl rfl ?_
  refine AK.hc (τ':=[0,1]) [0] [0,1] ((Ajq n.name [61]).n b s h) ?_
  refine AK.pc q0 ?_
  refine AK.hc (τ':=[0,1]) [0] [0,1] (e0 (by omega) b s ([n.name,[61]]) h (by simp<;>omega)) ?_
  refine AK.hc (τ':=[0,1]) [0] [0,1] (Gm [59] b s ([n.name,[61]]++Ap (Bc n 0)) h (by simp<;>omega)) ?_
  refine AK.hc (τ':=[0]) [0] [0] (Lh b s ([n.name,[61]]++Ap (Bc n 0)++[[59]]) h (by omega) (by simp<;>omega) (by omega) (by omega) (P0 (Bd hst (A7 (by simp))))) ?_
  exact AK.fb Tryz.func266 rfl rfl
 have h21':n.kind≠21:=by simpa using h21
 refine AK.if_ (fun h22=>?_) (fun h22=>?_)
 ·have h22':n.kind=22:=by simpa using h22
  have hT:Q4 n.kind n.name n.num (Be n.kids)=[n.name,[91]]++Ap (Bc n 0)++[[93],[61]]++Ap (Bc n 1):=by unfold Q4;rw [if_neg h31',if_neg h32',if_neg h21',if_pos h22',Dt,Dt]<;>rfl
  rw [if_pos (by simp [Kk,h22']),hT] at hO
  rw [hT] at hst
  rw [hO] at hl ⊢
  have hfl:=Ey ([n.name,[91]]++Ap (Bc n 0)++[[93],[61]]++Ap (Bc n 1)++[[59]]) h
  have hwl:=D2 ([n.name,[91]]++Ap (Bc n 0)++[[93],[61]]++Ap (Bc n 1)++[[59]]) h (Bd hst (A7 (by simp)))
  refine AK.mintB 0 0 2 (bx:=[[[Kg 312 0 b,.buf 5 s 0,.sl [] (.tok 1),vi h]],[Af n]]) (tk:=[s.length,0]) rfl rfl rfl rfl rfl rfl ?_
  refine AK.hc (τ':=[0,1]) [0] [0,1] ((Ajq n.name [91]).n b s h) ?_
  refine AK.pc q0 ?_
  refine AK.hc (τ':=[0,1]) [0] [0,1] (e0 (by omega) b s ([n.name,[91]]) h (by simp<;>omega)) ?_
  refine AK.hc (τ':=[0,1]) [0] [0,1] (Ajq [93] [61] b s ([n.name,[91]]++Ap (Bc n 0)) h (by simp<;>omega)) ?_
  refine AK.pc q1 ?_
  refine AK.hc (τ':=[0,1]) [0] [0,1] (e1 (by omega) b s ([n.name,[91]]++Ap (Bc n 0)++[[93],[61]]) h (by simp<;>omega)) ?_
  refine AK.hc (τ':=[0,1]) [0] [0,1] (Gm [59] b s ([n.name,[91]]++Ap (Bc n 0)++[[93],[61]]++Ap (Bc n 1)) h (by simp<;>omega)) ?_
  refine AK.hc (τ':=[0]) [0] [0] (Lh b s ([n.name,[91]]++Ap (Bc n 0)++[[93],[61]]++Ap (Bc n 1)++[[59]]) h (by omega) (by simp<;>omega) (by omega) (by omega) (P0 (Bd hst (A7 (by simp))))) ?_
  exact AK.fb Tryz.func266 rfl rfl
 have h22':n.kind≠22:=by simpa using h22
 refine AK.if_ (fun h23=>?_) (fun h23=>?_)
 ·have h23':n.kind=23:=by simpa using h23
  have hT:Q4 n.kind n.name n.num (Be n.kids)=[Fx,n.name]:=by unfold Q4;rw [if_neg h31',if_neg h32',if_neg h21',if_neg h22',if_pos h23']<;>rfl
  rw [if_pos (by simp [Kk,h23']),hT] at hO
  rw [hT] at hst
  rw [hO] at hl ⊢
  have hfl:=Ey ([Fx,n.name]++[[59]]) h
  have hwl:=D2 ([Fx,n.name]++[[59]]) h (Bd hst (A7 (by simp)))
  refine AK.mintB 0 0 2 (bx:=[[[Kg 312 0 b,.buf 5 s 0,.sl [] (.tok 1),vi h]],[Af n]]) (tk:=[s.length,0]) rfl rfl rfl rfl rfl rfl ?_
  refine AK.hc (τ':=[0,1]) [0] [0,1] ((Ajq Fx n.name).n b s h) ?_
  refine AK.hc (τ':=[0,1]) [0] [0,1] (Gm [59] b s ([Fx,n.name]) h (by simp<;>omega)) ?_
  refine AK.hc (τ':=[0]) [0] [0] (Lh b s ([Fx,n.name]++[[59]]) h (by omega) (by simp<;>omega) (by omega) (by omega) (P0 (Bd hst (A7 (by simp))))) ?_
  exact AK.fb Tryz.func266 rfl rfl
 have h23':n.kind≠23:=by simpa using h23
 refine AK.if_ (fun h27=>?_) (fun h27=>?_)
 ·have h27':n.kind=27:=by simpa using h27
  have hT:Q4 n.kind n.name n.num (Be n.kids)=[Dv]++Ap (Bc n 0):=by unfold Q4;rw [if_neg h31',if_neg h32',if_neg h21',if_neg h22',if_neg h23',if_pos h27',Dt]<;>rfl
  rw [if_pos (by simp [Kk,h27']),hT] at hO
  rw [hT] at hst
  rw [hO] at hl ⊢
  have hfl:=Ey ([Dv]++Ap (Bc n 0)++[[59]]) h
  have hwl:=D2 ([Dv]++Ap (Bc n 0)++[[59]]) h (Bd hst (A7 (by simp)))
  refine AK.mintB 0 0 2 (bx:=[[[Kg 312 0 b,.buf 5 s 0,.sl [] (.tok 1),vi h]],[Af n]]) (tk:=[s.length,0]) rfl rfl rfl rfl rfl rfl ?_
  refine AK.hc (τ':=[0,1]) [0] [0,1] ((Gm Dv).n b s h) ?_
  refine AK.pc q0 ?_
  refine AK.hc (τ':=[0,1]) [0] [0,1] (e0 (by omega) b s ([Dv]) h (by simp<;>omega)) ?_
  refine AK.hc (τ':=[0,1]) [0] [0,1] (Gm [59] b s ([Dv]++Ap (Bc n 0)) h (by simp<;>omega)) ?_
  refine AK.hc (τ':=[0]) [0] [0] (Lh b s ([Dv]++Ap (Bc n 0)++[[59]]) h (by omega) (by simp<;>omega) (by omega) (by omega) (P0 (Bd hst (A7 (by simp))))) ?_
  exact AK.fb Tryz.func266 rfl rfl
 have h27':n.kind≠27:=by simpa using h27
 refine AK.if_ (fun h28=>?_) (fun h28=>?_)
 ·have h28':n.kind=28:=by simpa using h28
  have hT:Q4 n.kind n.name n.num (Be n.kids)=[F4]:=by unfold Q4;rw [if_neg h31',if_neg h32',if_neg h21',if_neg h22',if_neg h23',if_neg h27',if_pos h28']<;>rfl
  rw [if_pos (by simp [Kk,h28']),hT] at hO
  rw [hT] at hst
  rw [hO] at hl ⊢
  have hfl:=Ey ([F4]++[[59]]) h
  have hwl:=D2 ([F4]++[[59]]) h (Bd hst (A7 (by simp)))
  refine AK.mintB 0 0 2 (bx:=[[[Kg 312 0 b,.buf 5 s 0,.sl [] (.tok 1),vi h]],[Af n]]) (tk:=[s.length,0]) rfl rfl rfl rfl rfl rfl ?_
  refine AK.hc (τ':=[0,1]) [0] [0,1] ((Gm F4).n b s h) ?_
  refine AK.hc (τ':=[0,1]) [0] [0,1] (Gm [59] b s ([F4]) h (by simp<;>omega)) ?_
  refine AK.hc (τ':=[0]) [0] [0] (Lh b s ([F4]++[[59]]) h (by omega) (by simp<;>omega) (by omega) (by omega) (P0 (Bd hst (A7 (by simp))))) ?_
  exact AK.fb Tryz.func266 rfl rfl
 have h28':n.kind≠28:=by simpa using h28
 refine AK.if_ (fun h29=>?_) (fun h29=>?_)
 ·have h29':n.kind=29:=by simpa using h29
  have hT:Q4 n.kind n.name n.num (Be n.kids)=[Gf]:=by unfold Q4;rw [if_neg h31',if_neg h32',if_neg h21',if_neg h22',if_neg h23',if_neg h27',if_neg h28']<;>rfl
  rw [if_pos (by simp [Kk,h29']),hT] at hO
  rw [hT] at hst
  rw [hO] at hl ⊢
  have hfl:=Ey ([Gf]++[[59]]) h
  have hwl:=D2 ([Gf]++[[59]]) h (Bd hst (A7 (by simp)))
  refine AK.mintB 0 0 2 (bx:=[[[Kg 312 0 b,.buf 5 s 0,.sl [] (.tok 1),vi h]],[Af n]]) (tk:=[s.length,0]) rfl rfl rfl rfl rfl rfl ?_
  refine AK.hc (τ':=[0,1]) [0] [0,1] ((Gm Gf).n b s h) ?_
  refine AK.hc (τ':=[0,1]) [0] [0,1] (Gm [59] b s ([Gf]) h (by simp<;>omega)) ?_
  refine AK.hc (τ':=[0]) [0] [0] (Lh b s ([Gf]++[[59]]) h (by omega) (by simp<;>omega) (by omega) (by omega) (P0 (Bd hst (A7 (by simp))))) ?_
  exact AK.fb Tryz.func266 rfl rfl
 have h29':n.kind≠29:=by simpa using h29
 have hno:Kk n.kind=false:=by simp [Kk,h31',h32',h21',h22',h23',h27',h28',h29']
 rw [if_neg (by simp [hno])] at hO
 rw [hO] at hl ⊢
 simp only [List.length_append] at hl
 have hfl:=Ey (cpW n.kind) h
 have hww:Yf (cpW n.kind)∧(cpW n.kind).length≤1:=by
  unfold cpW;repeat' split
  all_goals exact ⟨fun w hw=>by simp at hw<;>(subst hw;simp),by simp⟩
 have hc:=Afc n hp hsz hk b s h hd (by omega)
 refine AK.hc (hb:=Asp b s h) (τ':=[0]) [0] [0] hc ?_
 rw [← List.append_assoc]
 refine AK.hc (τ':=[0]) [0] [0] (Lh (cpB n.kind b) (s++cpP n.kind n.name (Be n.kids) (Gu n.kids h) h) (cpW n.kind) h (by omega) (by omega) (by omega) (by simp only [List.length_append];omega) (P0 hww.1)) ?_
 exact AK.rb Tryz.func266 rfl rfl
theorem Aiu:HBk B8:=Ag7 B8 (fun y hy=>by cases hy) (by decide)
theorem Ag9 (n:Nd)(hp:PrN n)(hsz:Ai n≤1000):HS n∧HBk n:=by
 induction n using Nd.ind with
 | h n ih =>
   have hcn:=Bu n
   have hk:∀ i,HBk (Bc n i):=fun i=>by
    rcases Jm n i with h | h
    ·exact (ih _ h (hp.kid i) (by have:=Dm h;omega)).2
    ·rw [h];exact Aiu
   refine ⟨At7 n hp hsz hk,Ag7 n (fun y hy=>(ih y hy (hp.get.2.2.2 y hy) (by have:=Dm hy;omega)).1) (by have:=A9 n.kids;omega)⟩
end Go.V
namespace Go.V
open Go
section
variable {X:Cx}{B:Bx}{E:Env}{S S':St}{w:World}{F:B3}{a:Act}{N:Nat}{R:AE→St→Prop}{ops:Array Oper}{i:Nat}{o:Oper}{p q:Operand}
theorem W9 {sz:Nat}{c1 c2:Array Value}{r1 r2:List (List AV)}(h1:Nz E w sz c1 r1)(h2:Nz E w sz c2 r2):Nz E w sz (c1++c2) (r1++r2):=by
 obtain ⟨s1,l1,e1⟩:=h1
 obtain ⟨s2,l2,e2⟩:=h2
 refine ⟨by simp [s1,s2,Nat.add_mul],fun r hr=>(List.mem_append.1 hr).elim (l1 r) (l2 r),fun k r j x v hk hj hv=>?_⟩
 rcases Nat.lt_or_ge k r1.length with h | h
 ·rw [List.getElem?_append_left h] at hk
  have hjs:j<sz:=by rw [← l1 r (List.mem_of_getElem? hk)];exact Ad hj
  have:=Gn h hjs
  rw [Array.getElem?_append_left (by omega)] at hv
  exact e1 k r j x v hk hj hv
 ·rw [List.getElem?_append_right h] at hk
  have hle:r1.length*sz≤k*sz:=Nat.mul_le_mul_right _ h
  rw [Array.getElem?_append_right (by omega),s1] at hv
  exact e2 (k-r1.length) r j x v hk hj (by rw [← hv];congr 1;rw [Nat.sub_mul];omega)
theorem Ai3 {sz:Nat}{c:Array Value}{rows:List (List AV)}(h:Nz E w sz c rows){n:Nat}(hn:n≤rows.length):Nz E w sz (c.toList.take (n*sz)).toArray (rows.take n):=by
 obtain ⟨s,l,e⟩:=h
 have hle:n*sz≤rows.length*sz:=Nat.mul_le_mul_right _ hn
 refine ⟨by simp [s],fun r hr=>l r (List.mem_of_mem_take hr),fun k r j x v hk hj hv=>?_⟩
 rw [List.getElem?_take] at hk
 split at hk
 ·refine e k r j x v hk hj ?_
  rw [List.getElem?_toArray,List.getElem?_take] at hv
  split at hv
  ·simpa using hv
  ·cases hv
 ·cases hk
theorem Ai2 {sz:Nat}{c:Array Value}{rows:List (List AV)}(h:Nz E w sz c rows)(n:Nat):Nz E w sz (c.toList.drop (n*sz)).toArray (rows.drop n):=by
 obtain ⟨s,l,e⟩:=h
 refine ⟨by simp [s,Nat.sub_mul],fun r hr=>l r (List.mem_of_mem_drop hr),fun k r j x v hk hj hv=>?_⟩
 rw [List.getElem?_drop] at hk
 refine e (n+k) r j x v hk hj ?_
 rw [List.getElem?_toArray,List.getElem?_drop] at hv
 rw [Nat.add_mul,Nat.add_assoc]
 simpa using hv
theorem Xa {t:Nat}{y:Ty}(hy:X.ty t=some y)(hne:y.size≠0)(n:Nat):∃ z,(zeroValue t).run X.P w=.ok z w∧(∃ ti,X.P.info? t=some ti∧ti.zero=some z∧ti.size=y.size)∧(∀ v,v∈(Builtin.zeroCells z.cells n).toList→v.oneCell'=true∨True) ∧
 (Builtin.zeroCells z.cells n).size=n*y.size∧∀ (E:Env)(w:World),Nz E w y.size (Builtin.zeroCells z.cells n) (List.replicate n y.zero):=by
 obtain ⟨z,hz,hzc,hzl,ti,hi,hiz,his,hib⟩:=Kf hy w
 have hzs:z.cells.size=y.size:=by rw [← hzl,← hzc];simp
 refine ⟨z,hz,⟨ti,hi,hiz,his⟩,fun v _=>.inr trivial,by simp [Builtin.zeroCells,hzs],fun E w=>?_⟩
 refine Qs hzc hzl _ (by simp [Builtin.zeroCells,hzs]) (fun i hi=>?_)
 have hm:i % y.size<z.cells.size:=by rw [hzs];exact Nat.mod_lt _ (Nat.pos_of_ne_zero hne)
 have hr0:(Array.range (n*y.size))[i]?=some i:=by simp [hi]
 simp only [Builtin.zeroCells]
 rw [Array.getElem?_map,hzs,hr0]
 simp only [Option.map_some]
 rw [getElem!_pos z.cells (i % y.size) hm,Array.getElem?_eq_getElem hm]
theorem Ndo.boxC {t:TypeId}{x:AV}{cs:List AV}(hc:cellsOf x=some cs:=by rfl)(ho:ops[i]?=some o:=by rfl)(hw:A2 ops F o=some true:=by rfl)(hop:o.op=.box t p:=by rfl)(hp:Co X F p=some x:=by rfl):Ndo X N ops i o F (.cptr cs) S S:=by
 intro F' E w a hl hI hF
 have hlo:=El hl
 rw [hop] at hlo
 have r1:=Ah hI hF ((B9 (X:=X) (F:=F) (F':=F') (o:=p) fun s hs=>hlo s (by simp [Op.operands,hs])).trans hp)
 generalize hv:a.eval p=v at r1
 obtain ⟨h1,h2,_⟩:=Eu r1 hc
 have ev:=Evol.push (E:=E) (w:=w) (w':=w.alloc (.cells v.cells t)) ⟨_,rfl⟩ rfl rfl rfl E.boxes.length E.toks.length
 have hI':=hI.push (w':=w.alloc (.cells v.cells t)) ⟨_,rfl⟩ rfl rfl rfl
 have hnew:(w.alloc (.cells v.cells t)).heap[w.heap.size]?=some (.cells v.cells t (0,0)):=by
  have:(w.alloc (.cells v.cells t)).heap=w.heap.push (.cells v.cells t (0,0)):=rfl
  rw [this];simp
 refine Does.val ho (Bw hF (by rw [B2 hl];exact hw)) (v:=.pointer (some ⟨w.heap.size,0,none⟩)) (by simp [execOp,hop,Instr.box,hv,newVar,newRow]) (.inl rfl) ⟨E,hI',ev,?_⟩
 refine .cptr cs w.heap.size 0 (fun j=>v.cells.getD j default) (fun j _=>Ac5 hI) (fun j hj=>?_) (fun j x hx=>?_)
 ·have:j<v.cells.size:=by omega
  rw [Nat.zero_add]
  simp only [World.cell?,hnew]
  simp [this,Array.getD]
 ·have:j<v.cells.size:=by have:=Ad hx;omega
  exact (h2 j _ x (by simp [this,Array.getD]) hx).step ev
theorem AK.nilS {l:List Nat}{k:List Item}{t t' e:TypeId}{rows:List (List AV)}{sp:Sp}(hd:X.P.underlying t=some (.slice e))(hk:∀ c:Bool,(rows≠[]→c=false)→AK X B (.inRegion ops l::k) (putF o.dst (.val (.bool c)) F) S R)
 (ho:ops[i]?=some o:=by rfl)(hw:A2 ops F o=some true:=by rfl)(hop:o.op=.binOp .eql t p (.const (.slice none 0 0)) t':=by rfl)(hp:Co X F p=some (.sl rows sp):=by rfl)(hdst:C6 B.fn.ntmps o.dst=true:=by rfl) :
 AK X B (.inRegion ops (i::l)::k) F S R:=by
 intro E w a b cs hI hF hn hm hb
 have r1:=Ah hI hF hp
 generalize hv:a.eval p=v at r1
 have hrun:∃ c:Bool,(rows≠[]→c=false)∧(execOp a.eval o).run X.P w=.ok (.value (.bool c)) w:=by
  cases r1 with
  | sl _ _ a' n cap b' o' sz vals hn' hx ha hsz hm hc hr hs hcap =>
    refine ⟨a'.isNone,fun hne=>?_,by simp [execOp,hop,hv,show a.eval (.const (.slice none 0 0))=.slice none 0 0 from rfl,eqGuard,binOp,run_equal_slice_nil w t e a' n cap hd]⟩
    rw [ha (by rw [← hn'];exact fun h=>hne (List.length_eq_zero_iff.1 h))];rfl
 obtain ⟨c,hc,hrun⟩:=hrun
 have hdo:Does X ops i a w fun v w'=>∃ E',Inv X E' S w'∧Evol E w E' w' E.boxes.length E.toks.length∧Rel E' w' v (.val (.bool c)) :=
  Does.val ho (Bw hF hw) hrun (.inl rfl) ⟨E,hI,Evol.refl _ _ _ _,.val _⟩
 have nt:E.toks.length=S.toks.length:=by rw [← hI.nt];simp
 obtain ⟨v',w',⟨E',h1,h2,h3⟩,h4⟩:=hdo b k cs l
 have hF':=(hF.step h2).putF hdst h3
 have h4':=h4
 rw [ho] at h4'
 exact Fin.from h4' (h2.weaken (by rw [hI.nb];exact hn) (by omega)) (hk c hc E' w' _ b cs h1 hF' hn hm hb)
theorem AK.cloneB {l:List Nat}{k:List Item}{c:Call}{tt tx e e':Nat}{y yx ye:Ty}{new:List (List AV)}{sp:Sp}(hk:∀ cc:Nat,AK X B (.inRegion ops l::k) (putF o.dst (.bsl S.boxes.length new.length) F) ⟨S.boxes++[new++List.replicate cc ye.zero],S.toks⟩ R)
 (hl':∀ r,r∈new→r.length=ye.size)(hc:∀ r,r∈new→∀ x,x∈r→F6 x=true)(hne:new≠[])(hb:new.length≤100000000000)
 (ho:ops[i]?=some o:=by rfl)(hw:A2 ops F o=some true:=by rfl)(hop:o.op=.call c:=by rfl)(hcal:c.callee=.builtin .append:=by rfl)(hargs:c.args.toList=[p,q]:=by rfl)(htys:c.argTypes.toList=[tt,tx]:=by rfl)
 (hp:Co X F p=some (.sl [] .tight):=by rfl)(hq:Co X F q=some (.sl new sp):=by rfl)(hy:X.ty tt=some y:=by rfl)(hyk:y.k=.slc e:=by rfl)(hye:X.ty e=some ye:=by rfl)(hyx:X.ty tx=some yx:=by rfl)(hyxk:yx.k=.slc e':=by rfl)
 (hdst:C6 B.fn.ntmps o.dst=true:=by rfl):AK X B (.inRegion ops (i::l)::k) F S R:=by
 intro E w a b cs hI hF hn hm hb'
 obtain ⟨callee,args,argTypes⟩:=c
 simp only at hcal hargs htys
 subst hcal
 have ha:args=#[p,q]:=by rw [← Array.toList_inj];exact hargs
 have ht:argTypes=#[tt,tx]:=by rw [← Array.toList_inj];exact htys
 subst ha;subst ht
 have r1:=Ah hI hF hp
 have r2:=Ah hI hF hq
 obtain ⟨d1,hd1,hk1⟩:=(X.ty_ok tt y hy).agg
 simp only [hyk] at hk1
 obtain ⟨rfl,ye',hye',hne0⟩:=hk1
 rw [hye] at hye';cases hye'
 obtain ⟨d2,hd2,hk2⟩:=(X.ty_ok tx yx hyx).agg
 simp only [hyxk] at hk2
 obtain ⟨rfl,_⟩:=hk2
 obtain ⟨ti,z,hi,hsz,hby,hzv,hzc,hzl,_⟩:=(X.ty_ok e ye hye).info
 have hnew:0<new.length:=List.length_pos_iff.2 hne
 obtain ⟨vals2,hsrc,hr2⟩:=Agf hd2 r2 hl' hc hne
 rw [← hsz] at hsrc
 generalize hu:a.eval p=u at r1
 generalize hv:a.eval q=v at hsrc
 have key:∃ cc w',(Builtin.append_ #[tt,tx] o.type #[u,v]).run X.P w=.ok (.slice (some ⟨w.heap.size,0,none⟩) new.length cc) w'∧new.length≤cc ∧
  w'.heap=w.heap.push (.cells ((Cl new.length ti.size vals2).toArray++Builtin.zeroCells z.cells (cc-new.length)) e (0,0))∧w'.os=w.os∧w'.tape=w.tape∧w'.output=w.output:=by
  cases r1 with
  | sl _ _ a' n cap bb oo sz vals hn' hx ha hszr hm hcl hr hs hcap =>
    have hn0:n=0:=by simpa using hn'.symm
    subst hn0
    have hcap0:cap=0:=hs
    subst hcap0
    have hold:(Builtin.firstCells ti.size 0 (.slice a' 0 0)).run X.P w.drew=.ok ([]:List Value).toArray w.drew:=by
     cases a' with
     | none=>exact run_firstCells_none _ _ _ _ _
     | some a0=>exact run_firstCells_some _ _ _ _ _ _ _ (by simp) (fun j v hj=>by simp at hj)
    have hby':(0+new.length)*ti.bytes≤140737488355328:=Nat.le_trans (Nat.mul_le_mul_left _ hby) (by omega)
    have hrun:=run_append_grow_src w tt tx o.type e ti z hd1 hi hzv a' 0 0 [] hold v new.length _ hsrc (by omega) (by omega) (growslice_fits (by omega) hby')
    have hcc:=grownCap_ge w (0+new.length) 0 e
    simp only [Nat.zero_add,List.nil_append] at hrun hcc
    exact ⟨_,_,hrun,hcc,rfl,rfl,rfl,rfl⟩
 obtain ⟨cc,w',hrun,hcc,hheap,hos,htp,hout⟩:=key
 obtain ⟨z',hz',⟨ti',hi',hiz',his'⟩,_,hzz,hgz⟩:=Xa (X:=X) (w:=w) hye hne0 (cc-new.length)
 rw [hi] at hi';cases hi'
 rw [hzv] at hiz';cases hiz'
 have hg1:Nz E w ye.size (Cl new.length ti.size vals2).toArray new:=by
  refine ⟨by simp [Cq,hsz],hl',fun kk r j x v' hkk hj hv'=>?_⟩
  have h1:=Ad hkk
  have h2:j<ye.size:=by rw [← hl' r (List.mem_of_getElem? hkk)];exact Ad hj
  rw [List.getElem?_toArray,hsz,Ii h1 h2] at hv'
  cases hv'
  exact hr2 kk j r x hkk hj
 have hg:=W9 hg1 (hgz E w)
 obtain ⟨ev,hI'⟩:=hI.newBox (w':=w') hheap hos htp hout hg.1 hg.2.1 hg.2.2
 have hnb:E.boxes.length=S.boxes.length:=hI.nb
 have hrel:Rel (E.addBox w.heap.size ye.size) w' (.slice (some ⟨w.heap.size,0,none⟩) new.length cc) (.bsl S.boxes.length new.length) :=
  .bsl _ _ ye.size _ _ (by rw [← hnb];exact getElem?_snoc_new _ _) hcc
 have hdo:Does X ops i a w fun v w'=>∃ E',Inv X E' ⟨S.boxes++[new++List.replicate (cc-new.length) ye.zero],S.toks⟩ w'∧Evol E w E' w' E.boxes.length E.toks.length∧Rel E' w' v (.bsl S.boxes.length new.length) :=
  Does.val ho (Bw hF hw) (by simp [execOp,hop,resolve,invoke,builtin,hu,hv,hrun]) (.inl rfl) ⟨_,hI',ev,hrel⟩
 have nt:E.toks.length=S.toks.length:=by rw [← hI.nt];simp
 obtain ⟨v',w2,⟨E',h1,h2,h3⟩,h4⟩:=hdo b k cs l
 have hF':=(hF.step h2).putF hdst h3
 have h4':=h4
 rw [ho] at h4'
 exact Fin.from h4' (h2.weaken (by rw [hI.nb];exact hn) (by omega)) (hk (cc-new.length) E' w2 _ b cs h1 hF' (by simp;omega) hm hb')
theorem Aik {t e b n:Nat}{hi:Option Operand}{h:Int}{y ye:Ty}(h0:0≤h)(h2:h≤(n:Int))(ho:ops[i]?=some o:=by rfl)(hw:A2 ops F o=some true:=by rfl)(hop:o.op=.slice t p none hi none:=by rfl)(hp:Co X F p=some (.bsl b n):=by rfl)
 (hhi:O4 X F hi (n:Int)=some h:=by rfl)(hy:X.ty t=some y:=by rfl)(hyk:y.k=.slc e:=by rfl)(hye:X.ty e=some ye:=by rfl):Ndo X N ops i o F (.bsl b h.toNat) S S:=by
 refine Ndo.val ho hw fun F' E w a hc hI hF=>?_
 rw [hop] at hc
 have r1:=Ah hI hF ((hc p (by simp [Op.operands])).trans hp)
 have b2:=Su hI hF (show O4 X F' hi (n:Int)=some h by rw [M2 fun x hx=>hc x (by subst hx;simp [Op.operands])];exact hhi)
 obtain ⟨d,hdd,hd2⟩:=(X.ty_ok t y hy).agg
 simp only [hyk] at hd2
 obtain ⟨rfl,ye',hye',hne0⟩:=hd2
 rw [hye] at hye';cases hye'
 generalize hu:a.eval p=u at r1
 cases r1 with
 | bsl _ blk sz _ cap hB hcap =>
   have hb:=H4 (X:=X) (isS:=true) (len:=n) (cap:=cap) (lo:=none) (hi:=hi.map a.eval) (l:=0) (h:=h) (.inl ⟨rfl,rfl⟩)
    (by rcases b2 with ⟨rfl,rfl⟩ | ⟨x,k,rfl,hx⟩
        ·exact .inl ⟨rfl,rfl⟩
        ·exact .inr ⟨k,by simp [hx]⟩) (Int.le_refl 0) h0 h2 hcap w
   refine ⟨.slice (some ⟨blk,0,none⟩) h.toNat cap,?_,.bsl b blk sz h.toNat cap hB (by omega)⟩
   simp [execOp,hop,hu,Instr.sliceAt,Instr.slice,run_underlying hdd,hb,Ch hye,D6]
theorem Ndo.tailB {t e b n:Nat}{lo:Operand}{ik:IntKind}{l:Nat}{y ye:Ty}(h2:l<n)(ho:ops[i]?=some o:=by rfl)(hw:A2 ops F o=some true:=by rfl)(hop:o.op=.slice t p (some lo) none none:=by rfl)(hp:Co X F p=some (.bsl b n):=by rfl)
 (hlo:Co X F lo=some (.val (.int ik l)):=by rfl)(hy:X.ty t=some y:=by rfl)(hyk:y.k=.slc e:=by rfl)(hye:X.ty e=some ye:=by rfl){rows:List (List AV)}(hS:S.boxes[b]?=some rows)(hrl:∀ r,r∈rows→r.length=ye.size)(hne:rows≠[]):Ndo X N ops i o F (.bst b l (n-l)) S S:=by
 refine Ndo.val ho hw fun F' E w a hc hI hF=>?_
 rw [hop] at hc
 have r1:=Ah hI hF ((hc p (by simp [Op.operands])).trans hp)
 have r2:=Ah hI hF ((hc lo (by simp [Op.operands])).trans hlo)
 obtain ⟨d,hdd,hd2⟩:=(X.ty_ok t y hy).agg
 simp only [hyk] at hd2
 obtain ⟨rfl,ye',hye',hne0⟩:=hd2
 rw [hye] at hye';cases hye'
 generalize hu:a.eval p=u at r1
 generalize hv:a.eval lo=v at r2
 cases r2
 cases r1 with
 | bsl _ blk sz _ cap hB hcap =>
   obtain ⟨arr,te,hh,hs,hlen,hrel⟩:=hI.box b blk sz rows hB hS
   have hsz:sz=ye.size:=by
    cases rows with
    | nil=>exact absurd rfl hne
    | cons r rs=>rw [← hlen r (by simp),hrl r (by simp)]
   subst hsz
   have hb:=H4 (X:=X) (isS:=true) (len:=n) (cap:=cap) (lo:=some (.int ik l)) (hi:=none) (l:=(l:Int)) (h:=(n:Int)) (.inr ⟨ik,rfl⟩) (.inl ⟨rfl,rfl⟩) (by omega) (by omega) (Int.le_refl _) hcap w
   simp only [Int.toNat_natCast] at hb
   refine ⟨.slice (some ⟨blk,l*ye.size,none⟩) (n-l) (cap-l),?_,.bst b blk ye.size l (n-l) (cap-l) hB⟩
   have hcl:¬ cap=l:=by omega
   simp [execOp,hop,hu,hv,Instr.sliceAt,Instr.slice,run_underlying hdd,hb,Ch hye,D6,hcl]
theorem Ndo.clearB {c:Call}{tt e b s n:Nat}{y ye:Ty}{rows:List (List AV)}{bx:List (List (List AV))}(hn:0<n)(hS:S.boxes[b]?=some rows)(hin:s+n≤rows.length)(hrl:∀ r,r∈rows→r.length=ye.size)
 (hbx:S.boxes.set b (rows.take s++(List.replicate n ye.zero++rows.drop (s+n)))=bx)(hz1:∀ x,x∈ye.zero→F6 x=true)(ho:ops[i]?=some o:=by rfl)(hw:A2 ops F o=some true:=by rfl)(hop:o.op=.call c:=by rfl)(hcal:c.callee=.builtin .clear:=by rfl)(hargs:c.args=#[p]:=by rfl)
 (htys:c.argTypes=#[tt]:=by rfl)(hp:Co X F p=some (.bst b s n):=by rfl)(hy:X.ty tt=some y:=by rfl)(hyk:y.k=.slc e:=by rfl)(hye:X.ty e=some ye:=by rfl):Ndo X N ops i o F (.val (.tuple #[])) S ⟨bx,S.toks⟩:=by
 subst hbx
 intro F' E w a hlk hI hF
 obtain ⟨callee,args,argTypes⟩:=c
 simp only at hcal hargs htys
 subst hcal;subst hargs;subst htys
 have hlo:=El hlk
 rw [hop] at hlo
 have r1:=Ah hI hF ((B9 (X:=X) (F:=F) (F':=F') (o:=p) fun s hs=>hlo s (by simp [Op.operands,Call.operands,hs])).trans hp)
 obtain ⟨d1,hd1,hk1⟩:=(X.ty_ok tt y hy).agg
 simp only [hyk] at hk1
 obtain ⟨rfl,ye',hye',hne0⟩:=hk1
 rw [hye] at hye';cases hye'
 generalize hu:a.eval p=u at r1
 cases r1 with
 | bst _ blk sz _ _ cap hB =>
   obtain ⟨arr,te,hh,hs,hlen,hrel⟩:=hI.box b blk sz rows hB hS
   obtain ⟨r0,hr0⟩:=Aa rows (i:=0) (by omega)
   have hsz:sz=ye.size:=by rw [← hlen r0 (List.mem_of_getElem? hr0),hrl r0 (List.mem_of_getElem? hr0)]
   subst hsz
   obtain ⟨z,hz,_,_,hzz,hgz⟩:=Xa (X:=X) (w:=w) hye hne0 n
   have hg:Nz E w ye.size arr rows:=⟨hs,hlen,hrel⟩
   have hg2:=W9 (Ai3 hg (n:=s) (by omega)) (W9 (hgz E w) (Ai2 hg (s+n)))
   have hfit:s*ye.size+(Builtin.zeroCells z.cells n).toList.length≤arr.size:=by
    rw [Array.length_toList,hzz,← Nat.add_mul,hs];exact Nat.mul_le_mul_right _ hin
   have hone:∀ v,v∈(Builtin.zeroCells z.cells n).toList→v.oneCell'=true:=fun v hv=>by
    obtain ⟨q,hq⟩:=Bj hv
    have hq':(Builtin.zeroCells z.cells n)[q]?=some v:=by simpa using hq
    have hlt:q<n*ye.size:=by have:=Ad hq;rw [Array.length_toList,hzz] at this;exact this
    have hpos:0<ye.size:=Nat.pos_of_ne_zero hne0
    have hk:q / ye.size<n:=Nat.div_lt_of_lt_mul (by rw [Nat.mul_comm];exact hlt)
    have hzl:=hg2.2.1 ye.zero (List.mem_append_right _ (List.mem_append_left _ (List.mem_replicate.2 ⟨by omega,rfl⟩)))
    obtain ⟨x,hx⟩:=Aa ye.zero (i:=q % ye.size) (by rw [hzl];exact Nat.mod_lt _ hpos)
    have:=(hgz E w).2.2 (q / ye.size) ye.zero (q % ye.size) x v (by simp [hk]) hx (by rw [Nat.mul_comm,Nat.div_add_mod];exact hq')
    exact I4 this (hz1 x (List.mem_of_getElem? hx))
   have hst:=run_storeCells_at X.P blk (s*ye.size) te (Builtin.zeroCells z.cells n).toList 0 arr w hh (by simpa using hfit) hone
   simp only [Nat.add_zero] at hst
   have hnn:¬ n=0:=by omega
   have hrun:(Builtin.clear_ #[tt] o.type #[.slice (some ⟨blk,s*ye.size,none⟩) n cap]).run X.P w=.ok (.tuple #[]) (w.setRow blk (arr.toList.take (s*ye.size)++(Builtin.zeroCells z.cells n).toList++arr.toList.drop (s*ye.size+(Builtin.zeroCells z.cells n).toList.length)).toArray):=by
    obtain ⟨m,rfl⟩:∃ m,n=m+1:=⟨n-1,by omega⟩
    simp [Builtin.clear_,run_underlying hd1,hz,hst]
   have harr:(arr.toList.take (s*ye.size)++(Builtin.zeroCells z.cells n).toList++arr.toList.drop (s*ye.size+(Builtin.zeroCells z.cells n).toList.length)).toArray =
    (arr.toList.take (s*ye.size)).toArray++(Builtin.zeroCells z.cells n++(arr.toList.drop ((s+n)*ye.size)).toArray):=by
    rw [← Array.toList_inj]
    simp only [Array.toList_append,List.append_assoc]
    rw [Array.length_toList,hzz,← Nat.add_mul]
   rw [harr] at hrun
   obtain ⟨ev,hI'⟩:=hI.setBox hB hS hh rfl hg2.1 hg2.2.1 hg2.2.2
   exact Does.val ho (Bw hF (by rw [B2 hlk];exact hw)) (by simp [execOp,hop,resolve,invoke,builtin,hu,hrun]) (.inl rfl) ⟨E,hI',ev,.val _⟩
theorem Ads {R:Type}:∀ (l xs:List AV)(k:List AV→Option R),l.length=xs.length→Ux l 0 xs k=k xs
 | [],[],k,_=>by simp [Ux]
 | a::l,x::xs,k,h=>by simp only [Ux];exact Ads l xs _ (by simpa using h)
 | [],_::_,k,h=>by simp at h
 | _::_,[],k,h=>by simp at h
theorem Ab8 {α R:Type}:∀ (l:List α)(n:Nat)(x:α)(k:List α→Option R),n<l.length→Sa l n x k=k (l.set n x)
 | a::l,0,x,k,_=>by simp [Sa]
 | a::l,n+1,x,k,h=>by simp only [Sa];rw [Ab8 l n x _ (by simpa using h)];rfl
 | [],n,x,k,h=>by simp at h
theorem Sd {b r sz:Nat}{x:AV}{xs cs:List AV}{rows:List (List AV)}(hb:S.boxes[b]?=some rows)(hr:rows[r]?=some cs)(hc:cellsOf x=some xs)(hl:xs.length=sz)(hl':cs.length=sz) :
 U2 S sz (.ptr b r 0) x=some ⟨S.boxes.set b (rows.set r xs),S.toks⟩:=by
 obtain ⟨bx,tk⟩:=S
 simp only at hb
 simp only [U2,hc]
 rw [show Nat.beq xs.length sz=true by rw [hl];exact Nat.beq_refl sz]
 simp only [Jz,hb,hr]
 rw [Ads _ _ _ (by omega),Ab8 _ _ _ _ (Ad hr),Ab8 _ _ _ _ (Ad hb)]
theorem Z9 {R:Type}:∀ (l:List AV)(k:List AV→Option R),Qb l.length l k=k l
 | [],k=>by simp [Qb]
 | a::l,k=>by simp only [List.length_cons,Qb];rw [Z9 l]
theorem Aja {b r sz:Nat}{g:Bool}{cs:List AV}{rows:List (List AV)}(hb:S.boxes[b]?=some rows)(hr:rows[r]?=some cs)(hl:cs.length=sz):Zn S sz g (.ptr b r 0)=Yn g cs:=by
 subst hl
 simp only [Zn,Jz,hb,hr,Sx]
 rw [Z9]
theorem Mz {t b r:Nat}{y:Ty}{cs:List AV}{rows:List (List AV)}{x:AV}(hb:S.boxes[b]?=some rows)(hr:rows[r]?=some cs)(hl:cs.length=y.size)(ho:ops[i]?=some o:=by rfl)(hw:A2 ops F o=some true:=by rfl)(hop:o.op=.load t p:=by rfl)
 (hp:Co X F p=some (.ptr b r 0):=by rfl)(hy:X.ty t=some y:=by rfl)(hx:Yn (Fl y.k) cs=some x:=by rfl):Ndo X N ops i o F x S S:=by
 refine Ndo.ev ho hw ?_
 rw [hop]
 simp only [Cv,Tq,hy,hp]
 rw [Aja hb hr hl];exact hx
end
end Go.V
namespace Go.V
open Go Go.Proofs
def Hy (p:Nd→Bool):Nat→List Nd→Int
 | _,[]=>-1
 | i,x::l=>if p x then i else Hy p (i+1) l
theorem Tb (p:Nd→Bool):∀ (l:List Nd)(i:Nat),decide (Hy p i l≥0)=l.any p
 | [],i=>by simp [Hy]
 | x::l,i=>by
   have hb:(x::l).any p=(p x||l.any p):=rfl
   rw [hb,← Tb p l (i+1)]
   by_cases h:p x=true
   ·simp [Hy,h]
   ·have h':p x=false:=by simpa using h
    have:Hy p i (x::l)=Hy p (i+1) l:=by simp only [Hy];rw [if_neg h]
    rw [this,h'];rfl
theorem Xw (l:List Nd)(f:FuncId)(caps:List AV)(p:Nd→Bool)(hl:l.length≤1000000000) [hok:OKL 0 0 caps](hp:∀ x,x∈l→Pure X f (nd x::caps) (vb (p x)))(hcat:∀ xs,Iv xs caps=some (xs++caps)) :
 Pure X 225 [.sl (Ak l) .no,.fn f caps] (vi (Hy p 0 l)):=by
 refine Pure.run Tryz.func225 ?_
 refine AK.while_ (ι:=Nat) 0 0 (fun i=>i≤l.length∧Hy p 0 l=Hy p i (l.drop i)) (fun i=>[(8,vi i),(7,vi l.length),(0,.sl (Ak l) .no),(1,.fn f caps)]) (fun _=>⟨[],[]⟩) (fun i=>l.length-i) ?_ 0 ⟨Nat.zero_le _,rfl⟩
  ⟨rfl,by rw [← Ae];rfl,rfl,rfl,trivial⟩
 intro i hi IH
 refine AK.ei (fun h=>?_) (fun h=>?_)
 ·have hlt:i<l.length:=by have:=of_decide_eq_true h;omega
  obtain ⟨x,hx⟩:=Aa l hlt
  have hd:Hy p i (l.drop i)=if p x then (i:Int) else Hy p (i+1) (l.drop (i+1)):=by rw [An hx];rfl
  refine AK.ix i (by omega) (Ao hx) ?_
  refine AK.pc (hp x (List.mem_of_getElem? hx)) ?_ (hzs:=hcat _)
  refine AK.if_ (fun h2=>?_) (fun h2=>?_)
  ·refine AK.rt Tryz.func225 ?_
   have h3:p x=true:=h2
   rw [hi.2,hd,h3];rfl
  ·have h3:p x=false:=h2
   exact IH (i+1) ⟨hlt,by rw [hi.2,hd,h3];rfl⟩ (by omega) _ _ ⟨vsx (by omega),rfl,rfl,rfl,trivial⟩ rfl rfl rfl
 ·have:i=l.length:=by have:=of_decide_eq_false h;omega
  refine AK.rt Tryz.func225 ?_
  rw [hi.2,this,List.drop_length];rfl
theorem P5 (l:List Nd)(f:FuncId)(caps:List AV)(p:Nd→Bool)(hl:l.length≤1000000000) [hok:OKL 0 0 caps](hp:∀ x,x∈l→Pure X f (nd x::caps) (vb (p x)))(hcat:∀ xs,Iv xs caps=some (xs++caps)) :
 Pure X 164 [.sl (Ak l) .no,.fn f caps] (vb (l.any p)):=by
 refine Pure.run Tryz.func164 ?_
 refine AK.pc (Xw l f caps p hl hp hcat) ?_
 refine AK.rt Tryz.func164 ?_
 rw [← Tb p l 0];rfl
theorem Atr (xs:List AV):Iv xs []=some (xs++[]):=by simp [Iv]
theorem Alh (x:AV)(xs:List AV):Iv xs [x]=some (xs++[x]):=by simp [Iv,Aaw]
theorem Adc (n:Nd):longN n=(decide (8<n.name.length)||n.kids.any longN):=by
 have:∀ l:List Nd,longL l=l.any longN:=by
  intro l
  induction l with
  | nil=>rfl
  | cons x l ih=>simp [longL,ih]
 cases n;rw [longN,this];rfl
theorem Avb (n:Nd)(hn:Ai n≤1000000000):Pure X 265 [nd n] (vb (longN n)):=by
 induction n using Nd.ind with
 | h n ih =>
   have hc:=Bu n
   have hll:=A9 n.kids
   have hq:=P5 n.kids 265 [] longN (by omega) (fun x hx=>ih x hx (by have:=Dm hx;omega)) Atr
   rw [Adc]
   refine Pure.run Tryz.func265 ?_
   refine AK.gd (fun h=>?_) (fun h=>?_)
   ·have h':8<n.name.length:=by have:=of_decide_eq_true h;rw [Du] at this;omega
    refine AK.rz Tryz.func265 ?_
    rw [decide_eq_true h'];rfl
   ·have h':¬ 8<n.name.length:=by have:=of_decide_eq_false h;rw [Du] at this;omega
    refine AK.pc hq ?_
    refine AK.rz Tryz.func265 ?_
    rw [decide_eq_false h'];rfl
noncomputable def Vs (a b:List Nd):Bool:=@decide (a=b) (Classical.propDecidable _)
theorem Q0 {a b:List Nd}:Vs a b=true↔a=b:=by unfold Vs;exact @decide_eq_true_iff _ (Classical.propDecidable _)
theorem An8 (a b:Nd):P9 a b=((a.kind==b.kind)&&((a.name==b.name)&&((a.num==b.num)&&Vs a.kids b.kids))):=by
 rw [Bool.eq_iff_iff]
 simp only [Nn,Bool.and_eq_true,beq_iff_eq,Q0]
 cases a;cases b
 simp
theorem Anq (a b:List Nd)(ha:a.length≤1000000000)(hb:b.length≤1000000000)(h:∀ x,x∈a→∀ y,y∈b→Pure X 180 [nd x,nd y] (vb (P9 x y))) :
 Pure X 239 [.sl (Ak a) .no,.sl (Ak b) .no,.fn 180 []] (vb (Vs a b)):=by
 refine Pure.run Tryz.func239 ?_
 refine AK.if_ (fun h1=>?_) (fun h1=>?_)
 ·have h1':a.length≠b.length:=by
   rw [Ae,Ae] at h1
   simp at h1;omega
  refine AK.rz Tryz.func239 ?_
  have:Vs a b=false:=by
   cases h:Vs a b with
   | false=>rfl
   | true=>rw [Q0.1 h] at h1';exact absurd rfl h1'
  rw [this]
 have h1':a.length=b.length:=by
  rw [Ae,Ae] at h1
  simp at h1;omega
 refine AK.while_ (ι:=Nat) 0 0 (fun i=>i≤a.length∧a.take i=b.take i) (fun i=>[(17,vi i),(16,vi a.length),(15,.sl (Ak a) .no),(0,.sl (Ak a) .no),(1,.sl (Ak b) .no),(2,.fn 180 [])]) (fun _=>⟨[],[]⟩) (fun i=>a.length-i) ?_ 0
  ⟨Nat.zero_le _,by simp⟩ ⟨rfl,by rw [← Ae];rfl,rfl,rfl,rfl,rfl,trivial⟩
 intro i hi IH
 refine AK.ei (fun h2=>?_) (fun h2=>?_)
 ·have hlt:i<a.length:=by have:=of_decide_eq_true h2;omega
  obtain ⟨x,hx⟩:=Aa a hlt
  obtain ⟨y,hy⟩:=Aa b (i:=i) (by omega)
  refine AK.ix i (by omega) (Ao hx) ?_
  refine AK.ix i (by omega) (Ao hy) ?_
  refine AK.pc (h x (List.mem_of_getElem? hx) y (List.mem_of_getElem? hy)) ?_
  refine AK.if_ (fun h3=>?_) (fun h3=>?_)
  ·have h3':P9 x y=false:=by have:(!P9 x y)=true:=h3;simpa using this
   refine AK.rz Tryz.func239 ?_
   have:Vs a b=false:=by
    cases h:Vs a b with
    | false=>rfl
    | true =>
      have:=Q0.1 h
      subst this
      rw [hx] at hy;cases hy
      rw [Nn.2 rfl] at h3';cases h3'
   rw [this]
  ·have h3':P9 x y=true:=by have:(!P9 x y)=false:=h3;simpa using this
   have:=Nn.1 h3'
   subst this
   exact IH (i+1) ⟨hlt,by rw [List.take_add_one,List.take_add_one,hi.2,hx,hy]⟩ (by omega) _ _ ⟨vsx (by omega),rfl,rfl,rfl,rfl,rfl,trivial⟩ rfl rfl rfl
 ·have hie:i=a.length:=by have:=of_decide_eq_false h2;omega
  have he:=hi.2
  rw [hie] at he
  rw [List.take_length,h1',List.take_length] at he
  refine AK.rz Tryz.func239 ?_
  rw [Q0.2 he]
theorem Avd (a b:Nd)(ha:Ai a≤1000000000)(hb:Ai b≤1000000000):Pure X 180 [nd a,nd b] (vb (P9 a b)):=by
 induction a using Nd.ind generalizing b with
 | h a ih =>
   have hca:=Bu a
   have hcb:=Bu b
   have hla:=A9 a.kids
   have hlb:=A9 b.kids
   have hq:=Anq a.kids b.kids (by omega) (by omega) fun x hx y hy=>ih x hx y (by have:=Dm hx;omega) (by have:=Dm hy;omega)
   rw [An8]
   refine Pure.run Tryz.func180 ?_
   refine AK.gd (fun h1=>?_) (fun h1=>?_)
   ·have h1':(a.kind==b.kind)=true:=h1
    rw [h1',Bool.true_and]
    refine AK.gd (fun h2=>?_) (fun h2=>?_)
    ·have h2':(a.name==b.name)=true:=h2
     rw [h2',Bool.true_and]
     refine AK.gd (fun h3=>?_) (fun h3=>?_)
     ·have h3':(a.num==b.num)=true:=h3
      rw [h3',Bool.true_and]
      refine AK.pc hq ?_
      exact AK.rz Tryz.func180 rfl
     ·have h3':(a.num==b.num)=false:=h3
      rw [h3']
      exact AK.rz Tryz.func180 rfl
    ·have h2':(a.name==b.name)=false:=h2
     rw [h2']
     refine AK.gn ?_
     exact AK.rz Tryz.func180 rfl
   ·have h1':(a.kind==b.kind)=false:=h1
    rw [h1']
    refine AK.gn ?_
    refine AK.gn ?_
    exact AK.rz Tryz.func180 rfl
theorem Aex (b:Bool)(s:List UInt8)(h:Int):RinB [1] [0] [[bN (Kg 312 1 b) s h]] [[bN (Kg 312 0 b) s h]] :=
 have h1:RinC [1] [0] (Kg 312 1 b) (Kg 312 0 b):=inferInstance
 have h2:RinC [1] [0] (.buf 5 s 0) (.buf 5 s 0):=inferInstance
 have h3:Ren true [1] [0] (.sl [] .tight) (.sl [] .tight):=T5 .nil (.inr (.inr (.inr (.inl ⟨rfl,rfl⟩))))
 have h4:RinC [1] [0] (vi h) (vi h):=inferInstance
 ⟨.cons (.cons (.cons h1.s (.cons h2.s (.cons h3 (.cons h4.s .nil)))) .nil) .nil⟩
theorem Ajl {s:List UInt8}(h:(Da s).2.1=0):(Da s).2.2=0:=by
 unfold Da at h ⊢
 split at h
 ·rename_i h0
  rw [if_pos h0]
  split at h
  ·simp at h
  ·rename_i hb
   rw [if_neg hb]
   split at h
   ·simp at h
   ·rename_i hl
    rw [if_neg hl]
 ·rename_i h0
  exact absurd h h0
theorem Abu (s:List UInt8):Ai (Da s).1≤500:=by
 unfold Da
 split
 ·split
  ·show Ai B8≤500;decide
  ·split
   ·show Ai B8≤500;decide
   ·rename_i h;simp only;omega
 ·show Ai B8≤500;decide
inductive PrI:Nd→Prop where
 | mk (k:Int) (s:List UInt8) (m:Int) (ks:List Nd) (h0:-9223372036854775808≤m) (h1:m≤9223372036854775807) (hk:∀ x,x∈ks→PrI x):PrI (.mk k s m ks)
theorem PrI.short {n:Nd}(h:PrI n)(hl:longN n=false):PrN n:=by
 induction h with
 | mk k s m ks h0 h1 hk ih =>
   rw [Adc,Bool.or_eq_false_iff] at hl
   obtain ⟨h2,h3⟩:=hl
   simp only [List.any_eq_false] at h3
   exact .mk k s m ks (by have:=of_decide_eq_false h2;simp at this;omega) h0 h1 fun x hx=>ih x hx (by have:=h3 x hx;simpa using this)
theorem Py (l:List Nd):((Ak l).take (l.length-1)).drop 0=Ak l.dropLast:=by
 rw [Al,Al,List.drop_zero,← List.map_take,List.dropLast_eq_take]
set_option maxHeartbeats 1000000 in
theorem Ajv (n:Nd)(hn:Ai n≤1000000000)(hnum:PrI n):Pure X 221 [nd n] (.tup [str (Em n).1,vb (Em n).2]):=by
 have hcn:=Bu n
 have hll:=A9 n.kids
 have hfl:Kj X.P 268=some [0,0]:=by kernel_rfl
 refine Pure.run Tryz.func221 ?_
 refine AK.pc (Zs n (by omega)) ?_
 refine AK.gd (fun h1=>?_) (fun h1=>?_)
 ·have h1':Li n=true:=h1
  refine AK.gy ?_
  refine AK.yes ?_
  have hP:Em n=([],false):=by unfold Em;rw [if_pos (by simp [h1'])]
  rw [hP]
  exact AK.rz Tryz.func221 rfl
 have h1':Li n=false:=h1
 refine AK.gd (fun h2=>?_) (fun h2=>?_)
 ·have h2':n.kids.isEmpty=true:=by
   rw [Ae] at h2
   simp at h2;simp [h2]
  refine AK.yes ?_
  have hP:Em n=([],false):=by unfold Em;rw [if_pos (by simp [h2'])]
  rw [hP]
  exact AK.rz Tryz.func221 rfl
 have h2':n.kids.isEmpty=false:=by
  rw [Ae] at h2
  simp at h2;simpa using h2
 refine AK.pc (Avb n hn) ?_
 refine AK.if_ (fun h3=>?_) (fun h3=>?_)
 ·have h3':longN n=true:=h3
  have hP:Em n=([],false):=by unfold Em;rw [if_pos (by simp [h3'])]
  rw [hP]
  exact AK.rz Tryz.func221 rfl
 have h3':longN n=false:=h3
 have hsm:Ai n≤500∧B5 n≤24:=by
  simp only [Li,decide_eq_false_iff_not] at h1'
  omega
 have hp:PrN n:=hnum.short h3'
 have hkne:n.kids≠[]:=by intro e;rw [e] at h2';simp at h2'
 have hpos:0<n.kids.length:=List.length_pos_iff.2 hkne
 obtain ⟨lst,hlst⟩:=Aa n.kids (i:=n.kids.length-1) (by omega)
 have hL:n.kids.getLastD B8=lst:=by
  rw [List.getLastD_eq_getLast?,List.getLast?_eq_getElem?,hlst];rfl
 have hlm:lst∈n.kids:=List.mem_of_getElem? hlst
 have hlp:=hp.get.2.2.2 lst hlm
 have hdn:=Hb n
 have hlc:=Dm hlm
 have hlcn:=Bu lst
 have hw1:IntKind.i64.wrap (((Ak n.kids).length:Int)-1)=((n.kids.length-1:Nat):Int):=by rw [Ae];exact (Ac (by omega) (by omega)).trans (by omega)
 have hP:Em n=(R7 n,!(R7 n==[])&&((Da (R7 n)).2.1==0&&P9 (Da (R7 n)).1 n)):=by unfold Em;rw [if_neg (by simp [h1',h2',h3'])]
 have hT:R7 n=Hp n.kids.dropLast 0++Hp lst.kids 0:=by rw [R7,hL]
 have hS1:∀ x,x∈n.kids.dropLast→HS x∧0+B5 x≤60∧(Ez x 0).length≤1000*Ai x:=fun x hx=>by
  have hm:=(List.dropLast_sublist _).subset hx
  have h1:=Dm hm
  have h2:=D8 hm
  have hx':=hp.get.2.2.2 x hm
  exact ⟨(Ag9 x hx' (by omega)).1,by omega,Ahl x 0 hx' (by omega)⟩
 have hS2:∀ x,x∈lst.kids→HS x∧0+B5 x≤60∧(Ez x 0).length≤1000*Ai x:=fun x hx=>by
  have h1:=Dm hx
  have h2:=D8 hx
  have h3:=D8 hlm
  have h4:=Hb lst
  have hx':=hlp.get.2.2.2 x hx
  exact ⟨(Ag9 x hx' (by omega)).1,by omega,Ahl x 0 hx' (by omega)⟩
 have hcd:Ar n.kids.dropLast≤Ar n.kids:=by rw [List.dropLast_eq_take];exact M3
 have hb1:=Abr (l:=n.kids.dropLast) (h:=0) fun x hx=>(hS1 x hx).2.2
 have hb2:=Abr (l:=lst.kids) (h:=0) fun x hx=>(hS2 x hx).2.2
 have hTl:(R7 n).length≤1000000:=by rw [hT];simp;omega
 have hdl:n.kids.dropLast.length≤1000:=by rw [List.length_dropLast];omega
 have hll2:=A9 lst.kids
 rw [hP]
 refine AK.dn 2 0 ?_
 refine Cs (fun S'=>Ndo.buildZ (cs:=[.pointer none,.slice none 0 0,.slice none 0 0,.int .i64 0]) rfl rfl rfl rfl rfl rfl) ?_
 refine Drv.w (Ak1 5 rfl rfl rfl rfl rfl rfl rfl rfl) ?_
 refine Drv.e ?_
 refine Mv (A1 (Ndo.ev rfl rfl rfl) (A1 (Ndo.ev rfl rfl rfl) G8)) rfl ?_
 refine Drv.e ?_
 refine Drv.e ?_
 refine Drv.e ?_
 refine Drv.e ?_
 refine Drv.z ?_
 refine AK.as_ 5 (vi (n.kids.length-1:Nat)) ?_ (A3 hw1)
 refine AK.as_ 33 (vi (n.kids.length-1:Nat)) ?_ (A3 hw1)
 refine AK.op (Qi (l:=0) (h:=((n.kids.length-1:Nat):Int)) (r:=Ak n.kids.dropLast) rfl rfl rfl rfl rfl rfl rfl rfl rfl (by omega) (by omega) (by rw [Ae];omega) (C3 _) (by rw [Int.toNat_natCast];exact Py _)) ?_
 refine AK.while_ (ι:=Nat × List UInt8 × Bool) 2 1 (fun i=>i.1≤n.kids.dropLast.length∧i.2.1++Hp (n.kids.dropLast.drop i.1) 0=Hp n.kids.dropLast 0)
  (fun i=>[(36,vi i.1),(35,vi n.kids.dropLast.length),(34,.sl (Ak n.kids.dropLast) .no),(4,.ptr 1 0 0),(1,.ptr 0 0 0),(5,vi (n.kids.length-1:Nat))])
  (fun i=>⟨[[Af n],[bN (Kg 312 1 i.2.2) i.2.1 0]],[i.2.1.length]⟩) (fun i=>n.kids.dropLast.length-i.1) ?_ (0,[],true) ⟨Nat.zero_le _,rfl⟩ ⟨rfl,by rw [← Ae n.kids.dropLast];rfl,rfl,rfl,rfl,rfl,trivial⟩ rfl rfl rfl rfl rfl
  (fun _=>inferInstance) (fun _=>inferInstance)
 rintro ⟨i,out,c⟩ ⟨hi,hO⟩ IH
 simp only at hi hO IH ⊢
 have hol:=congrArg List.length hO
 simp only [List.length_append] at hol
 refine AK.ei (fun g1=>?_) (fun g1=>?_)
 ·have hlt:i<n.kids.dropLast.length:=by have:=of_decide_eq_true g1;omega
  obtain ⟨y,hy⟩:=Aa n.kids.dropLast hlt
  obtain ⟨hs1,hs2,hs3⟩:=hS1 y (List.mem_of_getElem? hy)
  rw [An hy] at hO hol
  simp only [Hp,List.length_append] at hO hol
  refine AK.ix i (by omega) (Ao hy) ?_
  refine AK.hc (hb:=Aex c out 0) (τ':=[0]) [1] [0] (hs1 c out 0 hs2 (by omega)) ?_
  exact IH (i+1,out++Ez y 0,false) ⟨hlt,by simpa using hO⟩ (by simp only;omega) _ _ ⟨vsx (by omega),rfl,rfl,rfl,rfl,rfl,trivial⟩ rfl rfl rfl
 have hie:i=n.kids.dropLast.length:=by have:=of_decide_eq_false g1;omega
 subst hie
 rw [List.drop_eq_nil_of_le (Nat.le_refl _)] at hO
 simp only [Hp,List.append_nil] at hO
 subst hO
 refine AK.ix ((n.kids.length-1:Nat):Int) (by omega) (by rw [Int.toNat_natCast];exact Ao hlst) ?_
 refine AK.while_ (ι:=Nat × List UInt8 × Bool) 2 1 (fun i=>i.1≤lst.kids.length∧i.2.1++Hp (lst.kids.drop i.1) 0=R7 n)
  (fun i=>[(51,vi i.1),(50,vi lst.kids.length),(49,.sl (Ak lst.kids) .no),(4,.ptr 1 0 0),(1,.ptr 0 0 0)])
  (fun i=>⟨[[Af n],[bN (Kg 312 1 i.2.2) i.2.1 0]],[i.2.1.length]⟩) (fun i=>lst.kids.length-i.1) ?_ (0,Hp n.kids.dropLast 0,c) ⟨Nat.zero_le _,hT.symm⟩ ⟨rfl,by rw [← Ae lst.kids];rfl,rfl,rfl,rfl,trivial⟩ rfl rfl rfl rfl rfl
  (fun _=>inferInstance) (fun _=>inferInstance)
 rintro ⟨i,out,c⟩ ⟨hi,hO⟩ IH
 simp only at hi hO IH ⊢
 have hol:=congrArg List.length hO
 simp only [List.length_append] at hol
 refine AK.ei (fun g1=>?_) (fun g1=>?_)
 ·have hlt:i<lst.kids.length:=by have:=of_decide_eq_true g1;omega
  obtain ⟨y,hy⟩:=Aa lst.kids hlt
  obtain ⟨hs1,hs2,hs3⟩:=hS2 y (List.mem_of_getElem? hy)
  rw [An hy] at hO hol
  simp only [Hp,List.length_append] at hO hol
  refine AK.ix i (by omega) (Ao hy) ?_
  refine AK.hc (hb:=Aex c out 0) (τ':=[0]) [1] [0] (hs1 c out 0 hs2 (by omega)) ?_
  exact IH (i+1,out++Ez y 0,false) ⟨hlt,by simpa using hO⟩ (by simp only;omega) _ _ ⟨vsx (by omega),rfl,rfl,rfl,rfl,trivial⟩ rfl rfl rfl
 have hie:i=lst.kids.length:=by have:=of_decide_eq_false g1;omega
 subst hie
 rw [List.drop_eq_nil_of_le (Nat.le_refl _)] at hO
 simp only [Hp,List.append_nil] at hO
 subst hO
 generalize R7 n=out at *
 have hpc:=Abu out
 have hpa:=Ajl (s:=out)
 refine AK.hc (hb:=Aex c out 0) (τ':=[0]) [1] [0] (sN c out 0 (by omega)) ?_
 refine AK.pc (Arb out (by omega)) ?_
 generalize Da out=T at hpc hpa ⊢
 obtain ⟨m,cd,at_⟩:=T
 simp only at hpc hpa ⊢
 refine AK.gd (fun g1=>?_) (fun g1=>?_)
 ·have g1':(out==[])=false:=by have:(!(out==[]))=true:=g1;simpa using this
  rw [g1',Bool.not_false,Bool.true_and]
  refine AK.op (Kr (r:=((cd==0)&&((at_==0)&&true))) rfl rfl rfl rfl rfl hfl rfl (.inl ⟨rfl,rfl⟩)) ?_
  refine AK.gd (fun g2=>?_) (fun g2=>?_)
  ·have g2':cd=0:=by simp at g2;exact g2.1
   refine AK.pc (Avd m n (by omega) hn) ?_
   refine AK.rz Tryz.func221 ?_
   simp [g2']
  ·have g2':¬ cd=0:=by
    intro h0
    have:=hpa h0
    simp [h0,this] at g2
   refine AK.rz Tryz.func221 ?_
   simp [g2']
 ·have g1':(out==[])=true:=by have:(!(out==[]))=false:=g1;simpa using this
  refine AK.gn ?_
  refine AK.rz Tryz.func221 ?_
  simp [g1']
theorem Ad0 (n:Nd)(hn:Ai n≤1000000000)(hnum:PrI n):Pure X 161 [nd n] (vb (Cc n)):=by
 refine Pure.run Tryz.func161 ?_
 refine AK.pc (Ajv n hn hnum) ?_
 refine AK.rz Tryz.func161 ?_
 rw [(Afz n).1]
end Go.V
