/- A part of the proof of the claim that the last text states: no condition of its own. -/
import Derived.Test.YtkbnfpldnpeliaaGreatDoorJ5
import Derived.Laws.Cover3
import Derived.Lib.ItoaLen
import Derived.Lib.ItoaMem
set_option linter.unusedVariables false
set_option linter.unusedSimpArgs false
namespace Go.V
open Go Go.Proofs
inductive PrN:Nd→Prop where
 | mk (k:Int) (s:List UInt8) (m:Int) (ks:List Nd) (hs:s.length≤8) (h0:-9223372036854775808≤m) (h1:m≤9223372036854775807) (hk:∀ x,x∈ks→PrN x):PrN (.mk k s m ks)
def Bf (n:Nd)(i:Nat):Nd:=n.kids.getD i Ca
theorem PrN.kid {n:Nd}(h:PrN n)(i:Nat):PrN (Bf n i):=by
 cases h with
 | mk k s m ks hs h0 h1 hk =>
   unfold Bf
   cases hx:ks[i]? with
   | none=>simp [Nd.kids,List.getD,hx];exact .mk 0 [] 0 [] (by simp) (by omega) (by omega) (fun x hx=>by cases hx)
   | some x=>simp [Nd.kids,List.getD,hx];exact hk x (List.mem_of_getElem? hx)
theorem Dk {l:List Nd}{x:Nd}(h:x∈l):Ai x≤Ar l:=by
 induction l with
 | nil=>cases h
 | cons y l ih =>
   simp only [Ar]
   rcases List.mem_cons.1 h with rfl | h
   ·omega
   ·have:=ih h;omega
theorem Jj (n:Nd)(i:Nat):Bf n i∈n.kids∨Bf n i=Ca:=by
 unfold Bf
 cases hx:n.kids[i]? with
 | none=>right;simp [List.getD,hx]
 | some x=>left;simp [List.getD,hx];exact List.mem_of_getElem? hx
theorem X4 (n:Nd)(i:Nat)(hi:i≤1000000000)(hl:n.kids.length≤4000000000):Pure X 264 [nd n,vi i] (nd (Bf n i)):=by
 by_cases h:i<n.kids.length
 ·obtain ⟨x,hx⟩:=Ac n.kids h
  have hk:Bf n i=x:=by simp [Bf,List.getD,hx]
  rw [hk]
  refine Pure.run Tryz.func264 ?_
  refine AK.no ?_ (ht:=by simp [Ae];omega)
  refine AK.ix i (by omega) (Ao hx) ?_
  exact AK.rz Tryz.func264 rfl
 ·have hk:Bf n i=Ca:=by simp [Bf,List.getD,List.getElem?_eq_none (Nat.le_of_not_lt h)]
  rw [hk]
  refine Pure.run Tryz.func264 ?_
  refine AK.yes ?_ (ht:=by simp [Ae];omega)
  exact AK.rz Tryz.func264 rfl
abbrev I7:=List (List UInt8)
def eW (c:List (Int × I7))(i:Nat):I7:=(c.getD i (0,[])).2
def Lu (a b:Bool)(k:Int)(w:I7):I7:=if (a&&(k==6||k==7))||(b&&k==8) then [[40]]++w++[[41]] else w
def iW (c:List (Int × I7))(i:Nat)(a b:Bool):I7:=Lu a b (c.getD i (0,[])).1 (c.getD i (0,[])).2
def Dr (k:Int)(s:List UInt8)(m:Int)(c:List (Int × I7)):I7 :=
 if k=1 then [Lib.itoa m]
 else if k=2 then [s]
 else if k=3 then [s,[91]]++eW c 0++[[93]]
 else if k=4 then [[108,101,110],[40],s,[41]]
 else if k=5 then [[32,45]]++iW c 0 true true
 else if k=6∨k=7 then eW c 0++[if k=6 then [43] else [45]]++iW c 1 true false
 else if k=8 then iW c 0 true false++[[42]]++iW c 1 true true
 else if 11≤k∧k≤16 then eW c 0++[P4 k]++eW c 1
 else []
mutual
def Ap:Nd→I7
 | .mk k s m ks=>Dr k s m (Bh ks)
def Bh:List Nd→List (Int × I7)
 | []=>[]
 | x::l=>(x.kind,Ap x)::Bh l
end
theorem Zr (l:List Nd):Bh l=l.map fun x=>(x.kind,Ap x):=by
 induction l with
 | nil=>rfl
 | cons x l ih=>simp [Bh,ih]
theorem Zg:Ap Ca=[]:=rfl
theorem Zq (n:Nd)(i:Nat):(Bh n.kids).getD i (0,[])=((Bf n i).kind,Ap (Bf n i)):=by
 rw [Zr]
 unfold Bf
 cases hx:n.kids[i]? with
 | none=>simp [List.getD,hx,Zg];rfl
 | some x=>simp [List.getD,hx]
theorem Do (n:Nd)(i:Nat):eW (Bh n.kids) i=Ap (Bf n i):=by rw [eW,Zq]
theorem Ui (n:Nd)(i:Nat)(a b:Bool):iW (Bh n.kids) i a b=Lu a b (Bf n i).kind (Ap (Bf n i)):=by rw [iW,Zq]
theorem Xa (n:Nd):Ap n=Dr n.kind n.name n.num (Bh n.kids):=by cases n;rfl
theorem Ac7 (ks:List Nd)(ih:∀ x,x∈ks→(Ap x).length+2≤8*Ai x):(eW (Bh ks) 0).length+(eW (Bh ks) 1).length+4≤8*Ar ks+4∧∀ a b c d,(iW (Bh ks) 0 a b).length+(iW (Bh ks) 1 c d).length≤8*Ar ks:=by
 have hin:∀ a b k w,(Lu a b k w).length≤w.length+2:=fun a b k w=>by unfold Lu;split<;>simp
 cases ks with
 | nil=>refine ⟨by simp [eW,Bh],fun a b c d=>by simp [iW,Lu,Bh]⟩
 | cons x l =>
   have hx:=ih x (by simp)
   cases l with
   | nil =>
     refine ⟨by simp [eW,Bh,Ar];omega,fun a b c d=>?_⟩
     have:=hin a b x.kind (Ap x)
     simp [iW,Bh,Ar]
     have h2:(Lu c d 0 []).length=0:=by simp [Lu]
     rw [h2];omega
   | cons y l =>
     have hy:=ih y (by simp)
     refine ⟨by simp [eW,Bh,Ar];omega,fun a b c d=>?_⟩
     have h1:=hin a b x.kind (Ap x)
     have h2:=hin c d y.kind (Ap y)
     simp [iW,Bh,Ar]
     omega
theorem Zf (n:Nd):(Ap n).length+2≤8*Ai n:=by
 induction n using Nd.ind with
 | h n ih =>
 have hc:=Bv n
 rw [Xa]
 obtain ⟨h1,h2⟩:=Ac7 n.kids ih
 have h3:=h2 true true true true
 have h4:=h2 true false true true
 have h5:(iW (Bh n.kids) 1 true false).length≤8*Ar n.kids-(eW (Bh n.kids) 0).length:=by
  have:=h2 false false true false
  have e:iW (Bh n.kids) 0 false false=eW (Bh n.kids) 0:=by simp [iW,Lu,eW]
  rw [e] at this;omega
 unfold Dr
 repeat' split
 all_goals simp
 all_goals omega
abbrev PutC (r:List (List AV))(xs:I7):Prop:=∀ (b:Bool)(s:List UInt8)(ws:I7)(h:Int),ws.length≤1000000000 →
 Hands X 262 [.ptr 0 0 0,.sl r .no] ⟨[[bP (Je 270 0 b) s ws h]],[s.length,ws.length]⟩ (.tup []) ⟨[[bP (Je 270 0 b) s (ws++xs) h]],[s.length,(ws++xs).length]⟩
theorem Gj (x:List UInt8):PutC [[str x]] [x]:=fun b s ws h hw=>Ac4 b s ws [x] h (by simp;omega) rfl
theorem Ajk (x y:List UInt8):PutC [[str x],[str y]] [x,y]:=fun b s ws h hw=>Ac4 b s ws [x,y] h (by simp;omega) rfl
theorem Axl (x y z:List UInt8):PutC [[str x],[str y],[str z]] [x,y,z]:=fun b s ws h hw=>Ac4 b s ws [x,y,z] h (by simp;omega) rfl
theorem Axm (x y z u:List UInt8):PutC [[str x],[str y],[str z],[str u]] [x,y,z,u]:=fun b s ws h hw=>Ac4 b s ws [x,y,z,u] h (by simp;omega) rfl
theorem Awl (x y z u v:List UInt8):PutC [[str x],[str y],[str z],[str u],[str v]] [x,y,z,u,v]:=fun b s ws h hw=>Ac4 b s ws [x,y,z,u,v] h (by simp;omega) rfl
def HE (n:Nd):Prop:=∀ (b:Bool)(s:List UInt8)(ws:I7)(h:Int),ws.length+(Ap n).length≤1000000 →
 Hands X 263 [.ptr 0 0 0,nd n] ⟨[[bP (Je 270 0 b) s ws h]],[s.length,ws.length]⟩ (.tup []) ⟨[[bP (Je 270 0 b) s (ws++Ap n) h]],[s.length,(ws++Ap n).length]⟩
theorem Pq (n:Nd)(he:HE n)(c b:Bool)(s:List UInt8)(ws:I7)(h:Int)(hw:ws.length+(Lu true c n.kind (Ap n)).length≤1000000) :
 Hands X 278 [.ptr 0 0 0,nd n,vb true,vb c] ⟨[[bP (Je 270 0 b) s ws h]],[s.length,ws.length]⟩ (.tup []) ⟨[[bP (Je 270 0 b) s (ws++Lu true c n.kind (Ap n)) h]],[s.length,(ws++Lu true c n.kind (Ap n)).length]⟩:=by
 refine Hands.run (n:=1) (m:=2) Tryz.func278 ?_
 refine AK.gy ?_
 refine AK.gd (fun h6=>?_) (fun h6=>?_)
 ·have h6':n.kind=6:=by simpa using h6
  refine AK.gy ?_
  refine AK.yes ?_
  have hI:Lu true c n.kind (Ap n)=[[40]]++Ap n++[[41]]:=by unfold Lu;rw [if_pos (by simp [h6'])]
  rw [hI] at hw ⊢
  simp at hw
  refine AK.hc (τ':=[0,1]) [0] [0,1] (Gj [40] b s ws h (by omega)) ?_
  refine AK.hc (τ':=[0,1]) [0] [0,1] (he b s (ws++[[40]]) h (by simp;omega)) ?_
  refine AK.hc (τ':=[0,1]) [0] [0,1] (Gj [41] b s (ws++[[40]]++Ap n) h (by simp;omega)) ?_
  rw [← List.append_assoc,← List.append_assoc]
  exact AK.rb Tryz.func278 rfl rfl
 have h6':n.kind≠6:=by simpa using h6
 refine AK.gd (fun h7=>?_) (fun h7=>?_)
 ·have h7':n.kind=7:=by simpa using h7
  refine AK.yes ?_
  have hI:Lu true c n.kind (Ap n)=[[40]]++Ap n++[[41]]:=by unfold Lu;rw [if_pos (by simp [h7'])]
  rw [hI] at hw ⊢
  simp at hw
  refine AK.hc (τ':=[0,1]) [0] [0,1] (Gj [40] b s ws h (by omega)) ?_
  refine AK.hc (τ':=[0,1]) [0] [0,1] (he b s (ws++[[40]]) h (by simp;omega)) ?_
  refine AK.hc (τ':=[0,1]) [0] [0,1] (Gj [41] b s (ws++[[40]]++Ap n) h (by simp;omega)) ?_
  rw [← List.append_assoc,← List.append_assoc]
  exact AK.rb Tryz.func278 rfl rfl
 have h7':n.kind≠7:=by simpa using h7
 cases c
 ·refine AK.gn ?_
  refine AK.no ?_
  have hI:Lu true false n.kind (Ap n)=Ap n:=by unfold Lu;rw [if_neg (by simp [h6',h7'])]
  rw [hI] at hw ⊢
  refine AK.hc (τ':=[0,1]) [0] [0,1] (he b s ws h (by omega)) ?_
  exact AK.fb Tryz.func278 rfl rfl
 ·refine AK.gy ?_
  refine AK.if_ (fun h8=>?_) (fun h8=>?_)
  ·have h8':n.kind=8:=by simpa using h8
   have hI:Lu true true n.kind (Ap n)=[[40]]++Ap n++[[41]]:=by unfold Lu;rw [if_pos (by simp [h8'])]
   rw [hI] at hw ⊢
   simp at hw
   refine AK.hc (τ':=[0,1]) [0] [0,1] (Gj [40] b s ws h (by omega)) ?_
   refine AK.hc (τ':=[0,1]) [0] [0,1] (he b s (ws++[[40]]) h (by simp;omega)) ?_
   refine AK.hc (τ':=[0,1]) [0] [0,1] (Gj [41] b s (ws++[[40]]++Ap n) h (by simp;omega)) ?_
   rw [← List.append_assoc,← List.append_assoc]
   exact AK.rb Tryz.func278 rfl rfl
  ·have h8':n.kind≠8:=by simpa using h8
   have hI:Lu true true n.kind (Ap n)=Ap n:=by unfold Lu;rw [if_neg (by simp [h6',h7',h8'])]
   rw [hI] at hw ⊢
   refine AK.hc (τ':=[0,1]) [0] [0,1] (he b s ws h (by omega)) ?_
   exact AK.fb Tryz.func278 rfl rfl
theorem Ali (k:Int)(s:List UInt8)(m:Int)(c:List (Int × I7))(h:k≠1∧k≠2∧k≠3∧k≠4∧k≠5∧k≠6∧k≠7∧k≠8):Dr k s m c=if 11≤k∧k≤16 then eW c 0++[P4 k]++eW c 1 else []:=by
 obtain ⟨h1,h2,h3,h4,h5,h6,h7,h8⟩:=h
 unfold Dr
 rw [if_neg h1,if_neg h2,if_neg h3,if_neg h4,if_neg h5,if_neg (by simp [h6,h7]),if_neg h8]
theorem Wv {X:Cx}{S:St}{F:B7}{N:Nat}{ops:Array Oper}{i:Nat}{o:Oper}{t:TypeId}{ps:Array (Nat × Operand)}{vals:List (Nat × Value)}{cs:Array Value}(h:X.P.built t vals=some cs)(ho:ops[i]?=some o:=by rfl)(hw:A6 ops F o=some true:=by rfl)
 (hop:o.op=.build t ps:=by rfl)(hv:∀ a:Act,ps.toList.map (fun x=>(x.1,a.eval x.2))=vals:=by intro a;rfl):Ndo X N ops i o F (.agg (cs.toList.map Fc)) S S:=by
 refine Ndo.val ho hw fun F' E w a hc hI hF=>?_
 refine ⟨.agg cs,?_,.agg _ _ (by simp) fun j v x hv hx=>?_⟩
 ·have hrun:=run_build (P:=X.P) w t (ps.map fun x=>(x.1,a.eval x.2)) cs (by rw [Array.toList_map,hv a];exact h)
  simp [execOp,hop,hrun]
 ·simp [hv] at hx
  subst hx
  exact K8 v
theorem Acr:X.P.built 290 [(0,.string ⟨#[43]⟩),(1,.string ⟨#[45]⟩)]=some #[.string ⟨#[43]⟩,.string ⟨#[45]⟩]:=by kernel_rfl
theorem Ags (n:Nd)(hp:PrN n)(hsz:Ai n≤100000)(ih:n.kind≠0→∀ i,HE (Bf n i)):HE n:=by
 intro b s ws h hw
 have hkl:n.kids.length≤4000000000:=by have:=Bc n.kids;have:=Bv n;omega
 have q0:=X4 n 0 (by omega) hkl
 have q1:=X4 n 1 (by omega) hkl
 have hE:Ap n=Dr n.kind n.name n.num (Bh n.kids):=Xa n
 rw [hE] at hw ⊢
 have pn:n.name.length≤8∧-9223372036854775808≤n.num∧n.num≤9223372036854775807:=by cases hp with | mk k s m ks hs h0 h1 hk=>exact ⟨hs,h0,h1⟩
 refine Hands.run (n:=1) (m:=2) Tryz.func263 ?_
 refine AK.if_ (fun h1=>?_) (fun h1=>?_)
 ·have h1':n.kind=1:=by simpa using h1
  have hT:Dr n.kind n.name n.num (Bh n.kids)=[Lib.itoa n.num]:=by unfold Dr;rw [if_pos h1']
  rw [hT] at hw ⊢
  refine AK.pc (Kl n.num pn.2.1 pn.2.2) ?_
  refine AK.hc (τ':=[0,1]) [0] [0,1] (Gj (Lib.itoa n.num) b s ws h (by omega)) ?_
  exact AK.fb Tryz.func263 rfl rfl
 have h1':n.kind≠1:=by simpa using h1
 refine AK.if_ (fun h2=>?_) (fun h2=>?_)
 ·have h2':n.kind=2:=by simpa using h2
  have hT:Dr n.kind n.name n.num (Bh n.kids)=[n.name]:=by unfold Dr;rw [if_neg h1',if_pos h2']
  rw [hT] at hw ⊢
  refine AK.hc (τ':=[0,1]) [0] [0,1] (Gj n.name b s ws h (by omega)) ?_
  exact AK.fb Tryz.func263 rfl rfl
 have h2':n.kind≠2:=by simpa using h2
 refine AK.if_ (fun h3=>?_) (fun h3=>?_)
 ·have h3':n.kind=3:=by simpa using h3
  have hT:Dr n.kind n.name n.num (Bh n.kids)=[n.name,[91]]++Ap (Bf n 0)++[[93]]:=by unfold Dr;rw [if_neg h1',if_neg h2',if_pos h3',Do]
  rw [hT] at hw ⊢
  simp at hw
  have e0:=ih (by omega) 0
  refine AK.hc (τ':=[0,1]) [0] [0,1] (Ajk n.name [91] b s ws h (by omega)) ?_
  refine AK.pc q0 ?_
  refine AK.hc (τ':=[0,1]) [0] [0,1] (e0 b s (ws++[n.name,[91]]) h (by simp;omega)) ?_
  refine AK.hc (τ':=[0,1]) [0] [0,1] (Gj [93] b s (ws++[n.name,[91]]++Ap (Bf n 0)) h (by simp;omega)) ?_
  rw [← List.append_assoc,← List.append_assoc]
  exact AK.fb Tryz.func263 rfl rfl
 have h3':n.kind≠3:=by simpa using h3
 refine AK.if_ (fun h4=>?_) (fun h4=>?_)
 ·have h4':n.kind=4:=by simpa using h4
  have hT:Dr n.kind n.name n.num (Bh n.kids)=[[108,101,110],[40],n.name,[41]]:=by unfold Dr;rw [if_neg h1',if_neg h2',if_neg h3',if_pos h4']
  rw [hT] at hw ⊢
  refine AK.hc (τ':=[0,1]) [0] [0,1] (Axm [108,101,110] [40] n.name [41] b s ws h (by omega)) ?_
  exact AK.fb Tryz.func263 rfl rfl
 have h4':n.kind≠4:=by simpa using h4
 refine AK.if_ (fun h5=>?_) (fun h5=>?_)
 ·have h5':n.kind=5:=by simpa using h5
  have hT:Dr n.kind n.name n.num (Bh n.kids)=[[32,45]]++Lu true true (Bf n 0).kind (Ap (Bf n 0)):=by unfold Dr;rw [if_neg h1',if_neg h2',if_neg h3',if_neg h4',if_pos h5',Ui]
  rw [hT] at hw ⊢
  simp at hw
  have e0:=ih (by omega) 0
  refine AK.hc (τ':=[0,1]) [0] [0,1] (Gj [32,45] b s ws h (by omega)) ?_
  refine AK.pc q0 ?_
  refine AK.hc (τ':=[0,1]) [0] [0,1] (Pq (Bf n 0) e0 true b s (ws++[[32,45]]) h (by simp;omega)) ?_
  rw [← List.append_assoc]
  exact AK.fb Tryz.func263 rfl rfl
 have h5':n.kind≠5:=by simpa using h5
 refine AK.if_ (fun h6=>?_) (fun h6=>?_)
 ·have h6':n.kind=6:=by simpa using h6
  have hT:Dr n.kind n.name n.num (Bh n.kids)=Ap (Bf n 0)++[[43]]++Lu true false (Bf n 1).kind (Ap (Bf n 1)):=by
   unfold Dr;rw [if_neg h1',if_neg h2',if_neg h3',if_neg h4',if_neg h5',if_pos (by simp [h6']),Do,Ui]
   simp [h6']
  rw [hT] at hw ⊢
  simp at hw
  have e0:=ih (by omega) 0
  have e1:=ih (by omega) 1
  refine AK.pc q0 ?_
  refine AK.hc (τ':=[0,1]) [0] [0,1] (e0 b s ws h (by omega)) ?_
  refine AK.op (Wv Acr) ?_
  have hwk:IntKind.i64.wrap (n.kind-6)=0:=by rw [h6'];rfl
  refine AK.op (Wr (n:=IntKind.i64.wrap (n.kind-6)) (x:=str [43]) rfl rfl rfl rfl rfl rfl rfl rfl rfl (by omega) (by omega) (by rw [hwk];rfl)) ?_
  refine AK.hc (τ':=[0,1]) [0] [0,1] (Gj [43] b s (ws++Ap (Bf n 0)) h (by simp;omega)) ?_
  refine AK.pc q1 ?_
  refine AK.hc (τ':=[0,1]) [0] [0,1] (Pq (Bf n 1) e1 false b s (ws++Ap (Bf n 0)++[[43]]) h (by simp;omega)) ?_
  rw [← List.append_assoc,← List.append_assoc]
  exact AK.fb Tryz.func263 rfl rfl
 have h6':n.kind≠6:=by simpa using h6
 refine AK.if_ (fun h7=>?_) (fun h7=>?_)
 ·have h7':n.kind=7:=by simpa using h7
  have hT:Dr n.kind n.name n.num (Bh n.kids)=Ap (Bf n 0)++[[45]]++Lu true false (Bf n 1).kind (Ap (Bf n 1)):=by
   unfold Dr;rw [if_neg h1',if_neg h2',if_neg h3',if_neg h4',if_neg h5',if_pos (by simp [h7']),Do,Ui]
   simp [h7']
  rw [hT] at hw ⊢
  simp at hw
  have e0:=ih (by omega) 0
  have e1:=ih (by omega) 1
  refine AK.pc q0 ?_
  refine AK.hc (τ':=[0,1]) [0] [0,1] (e0 b s ws h (by omega)) ?_
  refine AK.op (Wv Acr) ?_
  have hwk:IntKind.i64.wrap (n.kind-6)=1:=by rw [h7'];rfl
  refine AK.op (Wr (n:=IntKind.i64.wrap (n.kind-6)) (x:=str [45]) rfl rfl rfl rfl rfl rfl rfl rfl rfl (by omega) (by omega) (by rw [hwk];rfl)) ?_
  refine AK.hc (τ':=[0,1]) [0] [0,1] (Gj [45] b s (ws++Ap (Bf n 0)) h (by simp;omega)) ?_
  refine AK.pc q1 ?_
  refine AK.hc (τ':=[0,1]) [0] [0,1] (Pq (Bf n 1) e1 false b s (ws++Ap (Bf n 0)++[[45]]) h (by simp;omega)) ?_
  rw [← List.append_assoc,← List.append_assoc]
  exact AK.fb Tryz.func263 rfl rfl
 have h7':n.kind≠7:=by simpa using h7
 refine AK.if_ (fun h8=>?_) (fun h8=>?_)
 ·have h8':n.kind=8:=by simpa using h8
  have hT:Dr n.kind n.name n.num (Bh n.kids)=Lu true false (Bf n 0).kind (Ap (Bf n 0))++[[42]]++Lu true true (Bf n 1).kind (Ap (Bf n 1)):=by
   unfold Dr;rw [if_neg h1',if_neg h2',if_neg h3',if_neg h4',if_neg h5',if_neg (by simp [h6',h7']),if_pos h8',Ui,Ui]
  rw [hT] at hw ⊢
  simp at hw
  have e0:=ih (by omega) 0
  have e1:=ih (by omega) 1
  refine AK.pc q0 ?_
  refine AK.hc (τ':=[0,1]) [0] [0,1] (Pq (Bf n 0) e0 false b s ws h (by omega)) ?_
  refine AK.hc (τ':=[0,1]) [0] [0,1] (Gj [42] b s (ws++Lu true false (Bf n 0).kind (Ap (Bf n 0))) h (by simp;omega)) ?_
  refine AK.pc q1 ?_
  refine AK.hc (τ':=[0,1]) [0] [0,1] (Pq (Bf n 1) e1 true b s (ws++Lu true false (Bf n 0).kind (Ap (Bf n 0))++[[42]]) h (by simp;omega)) ?_
  rw [← List.append_assoc,← List.append_assoc]
  exact AK.fb Tryz.func263 rfl rfl
 have h8':n.kind≠8:=by simpa using h8
 have hlo:=Ali n.kind n.name n.num (Bh n.kids) ⟨h1',h2',h3',h4',h5',h6',h7',h8'⟩
 refine AK.if_ (fun h11=>?_) (fun h11=>?_)
 ·have hk:n.kind=11:=by simpa using h11
  have hT:Dr n.kind n.name n.num (Bh n.kids)=Ap (Bf n 0)++[[60]]++Ap (Bf n 1):=by
   rw [hlo,if_pos (by omega),Do,Do,hk];rfl
  rw [hT] at hw ⊢
  simp at hw
  have e0:=ih (by omega) 0
  have e1:=ih (by omega) 1
  refine AK.pc q0 ?_
  refine AK.hc (τ':=[0,1]) [0] [0,1] (e0 b s ws h (by omega)) ?_
  have hwk:IntKind.i64.wrap (n.kind-11)=0:=by rw [hk];rfl
  refine AK.op (Jd (n:=IntKind.i64.wrap (n.kind-11)) (r:=str [60]::condG.drop 1) rfl rfl rfl rfl rfl rfl rfl rfl (by rw [hwk];omega) (by rw [hwk];omega) (by rw [hwk];decide) (by rw [hwk];rfl)) ?_
  refine AK.hc (τ':=[0,1]) [0] [0,1] (Gj [60] b s (ws++Ap (Bf n 0)) h (by simp;omega)) ?_
  refine AK.pc q1 ?_
  refine AK.hc (τ':=[0,1]) [0] [0,1] (e1 b s (ws++Ap (Bf n 0)++[[60]]) h (by simp;omega)) ?_
  rw [← List.append_assoc,← List.append_assoc]
  exact AK.fb Tryz.func263 rfl rfl
 have h11':n.kind≠11:=by simpa using h11
 refine AK.if_ (fun h12=>?_) (fun h12=>?_)
 ·have hk:n.kind=12:=by simpa using h12
  have hT:Dr n.kind n.name n.num (Bh n.kids)=Ap (Bf n 0)++[[60,61]]++Ap (Bf n 1):=by
   rw [hlo,if_pos (by omega),Do,Do,hk];rfl
  rw [hT] at hw ⊢
  simp at hw
  have e0:=ih (by omega) 0
  have e1:=ih (by omega) 1
  refine AK.pc q0 ?_
  refine AK.hc (τ':=[0,1]) [0] [0,1] (e0 b s ws h (by omega)) ?_
  have hwk:IntKind.i64.wrap (n.kind-11)=1:=by rw [hk];rfl
  refine AK.op (Jd (n:=IntKind.i64.wrap (n.kind-11)) (r:=str [60,61]::condG.drop 2) rfl rfl rfl rfl rfl rfl rfl rfl (by rw [hwk];omega) (by rw [hwk];omega) (by rw [hwk];decide) (by rw [hwk];rfl)) ?_
  refine AK.hc (τ':=[0,1]) [0] [0,1] (Gj [60,61] b s (ws++Ap (Bf n 0)) h (by simp;omega)) ?_
  refine AK.pc q1 ?_
  refine AK.hc (τ':=[0,1]) [0] [0,1] (e1 b s (ws++Ap (Bf n 0)++[[60,61]]) h (by simp;omega)) ?_
  rw [← List.append_assoc,← List.append_assoc]
  exact AK.fb Tryz.func263 rfl rfl
 have h12':n.kind≠12:=by simpa using h12
 refine AK.if_ (fun h13=>?_) (fun h13=>?_)
 ·have hk:n.kind=13:=by simpa using h13
  have hT:Dr n.kind n.name n.num (Bh n.kids)=Ap (Bf n 0)++[[62]]++Ap (Bf n 1):=by
   rw [hlo,if_pos (by omega),Do,Do,hk];rfl
  rw [hT] at hw ⊢
  simp at hw
  have e0:=ih (by omega) 0
  have e1:=ih (by omega) 1
  refine AK.pc q0 ?_
  refine AK.hc (τ':=[0,1]) [0] [0,1] (e0 b s ws h (by omega)) ?_
  have hwk:IntKind.i64.wrap (n.kind-11)=2:=by rw [hk];rfl
  refine AK.op (Jd (n:=IntKind.i64.wrap (n.kind-11)) (r:=str [62]::condG.drop 3) rfl rfl rfl rfl rfl rfl rfl rfl (by rw [hwk];omega) (by rw [hwk];omega) (by rw [hwk];decide) (by rw [hwk];rfl)) ?_
  refine AK.hc (τ':=[0,1]) [0] [0,1] (Gj [62] b s (ws++Ap (Bf n 0)) h (by simp;omega)) ?_
  refine AK.pc q1 ?_
  refine AK.hc (τ':=[0,1]) [0] [0,1] (e1 b s (ws++Ap (Bf n 0)++[[62]]) h (by simp;omega)) ?_
  rw [← List.append_assoc,← List.append_assoc]
  exact AK.fb Tryz.func263 rfl rfl
 have h13':n.kind≠13:=by simpa using h13
 refine AK.if_ (fun h14=>?_) (fun h14=>?_)
 ·have hk:n.kind=14:=by simpa using h14
  have hT:Dr n.kind n.name n.num (Bh n.kids)=Ap (Bf n 0)++[[62,61]]++Ap (Bf n 1):=by
   rw [hlo,if_pos (by omega),Do,Do,hk];rfl
  rw [hT] at hw ⊢
  simp at hw
  have e0:=ih (by omega) 0
  have e1:=ih (by omega) 1
  refine AK.pc q0 ?_
  refine AK.hc (τ':=[0,1]) [0] [0,1] (e0 b s ws h (by omega)) ?_
  have hwk:IntKind.i64.wrap (n.kind-11)=3:=by rw [hk];rfl
  refine AK.op (Jd (n:=IntKind.i64.wrap (n.kind-11)) (r:=str [62,61]::condG.drop 4) rfl rfl rfl rfl rfl rfl rfl rfl (by rw [hwk];omega) (by rw [hwk];omega) (by rw [hwk];decide) (by rw [hwk];rfl)) ?_
  refine AK.hc (τ':=[0,1]) [0] [0,1] (Gj [62,61] b s (ws++Ap (Bf n 0)) h (by simp;omega)) ?_
  refine AK.pc q1 ?_
  refine AK.hc (τ':=[0,1]) [0] [0,1] (e1 b s (ws++Ap (Bf n 0)++[[62,61]]) h (by simp;omega)) ?_
  rw [← List.append_assoc,← List.append_assoc]
  exact AK.fb Tryz.func263 rfl rfl
 have h14':n.kind≠14:=by simpa using h14
 refine AK.if_ (fun h15=>?_) (fun h15=>?_)
 ·have hk:n.kind=15:=by simpa using h15
  have hT:Dr n.kind n.name n.num (Bh n.kids)=Ap (Bf n 0)++[[61,61]]++Ap (Bf n 1):=by
   rw [hlo,if_pos (by omega),Do,Do,hk];rfl
  rw [hT] at hw ⊢
  simp at hw
  have e0:=ih (by omega) 0
  have e1:=ih (by omega) 1
  refine AK.pc q0 ?_
  refine AK.hc (τ':=[0,1]) [0] [0,1] (e0 b s ws h (by omega)) ?_
  have hwk:IntKind.i64.wrap (n.kind-11)=4:=by rw [hk];rfl
  refine AK.op (Jd (n:=IntKind.i64.wrap (n.kind-11)) (r:=str [61,61]::condG.drop 5) rfl rfl rfl rfl rfl rfl rfl rfl (by rw [hwk];omega) (by rw [hwk];omega) (by rw [hwk];decide) (by rw [hwk];rfl)) ?_
  refine AK.hc (τ':=[0,1]) [0] [0,1] (Gj [61,61] b s (ws++Ap (Bf n 0)) h (by simp;omega)) ?_
  refine AK.pc q1 ?_
  refine AK.hc (τ':=[0,1]) [0] [0,1] (e1 b s (ws++Ap (Bf n 0)++[[61,61]]) h (by simp;omega)) ?_
  rw [← List.append_assoc,← List.append_assoc]
  exact AK.fb Tryz.func263 rfl rfl
 have h15':n.kind≠15:=by simpa using h15
 refine AK.if_ (fun h16=>?_) (fun h16=>?_)
 ·have hk:n.kind=16:=by simpa using h16
  have hT:Dr n.kind n.name n.num (Bh n.kids)=Ap (Bf n 0)++[[33,61]]++Ap (Bf n 1):=by
   rw [hlo,if_pos (by omega),Do,Do,hk];rfl
  rw [hT] at hw ⊢
  simp at hw
  have e0:=ih (by omega) 0
  have e1:=ih (by omega) 1
  refine AK.pc q0 ?_
  refine AK.hc (τ':=[0,1]) [0] [0,1] (e0 b s ws h (by omega)) ?_
  have hwk:IntKind.i64.wrap (n.kind-11)=5:=by rw [hk];rfl
  refine AK.op (Jd (n:=IntKind.i64.wrap (n.kind-11)) (r:=str [33,61]::condG.drop 6) rfl rfl rfl rfl rfl rfl rfl rfl (by rw [hwk];omega) (by rw [hwk];omega) (by rw [hwk];decide) (by rw [hwk];rfl)) ?_
  refine AK.hc (τ':=[0,1]) [0] [0,1] (Gj [33,61] b s (ws++Ap (Bf n 0)) h (by simp;omega)) ?_
  refine AK.pc q1 ?_
  refine AK.hc (τ':=[0,1]) [0] [0,1] (e1 b s (ws++Ap (Bf n 0)++[[33,61]]) h (by simp;omega)) ?_
  rw [← List.append_assoc,← List.append_assoc]
  exact AK.fb Tryz.func263 rfl rfl
 have h16':n.kind≠16:=by simpa using h16
 have hT:Dr n.kind n.name n.num (Bh n.kids)=[]:=by rw [hlo,if_neg (by omega)]
 rw [hT,List.append_nil]
 exact AK.fb Tryz.func263 rfl rfl
theorem Av8:HE Ca:=Ags Ca (.mk 0 [] 0 [] (by simp) (by omega) (by omega) (fun x hx=>by cases hx)) (by decide) fun h=>absurd rfl h
theorem Abj (n:Nd)(hp:PrN n)(hsz:Ai n≤100000):HE n:=by
 induction n using Nd.ind with
 | h n ih =>
   refine Ags n hp hsz fun _ i=>?_
   rcases Jj n i with h | h
   ·have hc:=Dk h
    have:=Bv n
    exact ih _ h (hp.kid i) (by omega)
   ·rw [h];exact Av8
def Sep:List UInt8→Prop
 | []=>True
 | c::_=>(Cq c||digit c)=false
inductive Lex:List UInt8→List (List UInt8)→Prop where
 | nil:Lex [] []
 | blank (c:UInt8) (t:List UInt8) (ws:List (List UInt8)) (hc:c=32∨c=10) (h:Lex t ws):Lex (c::t) ws
 | wrd (w t:List UInt8) (ws:List (List UInt8)) (hk:B9 w≠0) (he:Ik (w++t)=w.length) (h:Lex t ws):Lex (w++t) (w::ws)
theorem Qp:B9 []=0:=by decide
theorem Xl {c:UInt8}{l:List UInt8}(h:B9 (c::l)≠0):c≠32∧c≠10∧c≠35:=by
 have key:∀ d:UInt8,d=32∨d=10∨d=35→B9 (d::l)=0:=by
  intro d hd
  have h1:has Pt (d::l)=false:=by rcases hd with rfl | rfl | rfl<;>simp [has,Pt]
  have h2:nameS (d::l)=false:=by
   have:Cq d=false:=by rcases hd with rfl | rfl | rfl<;>decide
   simp [nameS,this]
  have h3:¬ Cc (d::l)≥0:=by
   have:digit d=false:=by rcases hd with rfl | rfl | rfl<;>decide
   have h48:(d==48)=false:=by rcases hd with rfl | rfl | rfl<;>decide
   simp only [Cc]
   split
   ·omega
   ·simp [h48,M5,this]
  have h4:has Hj (d::l)=false:=by rcases hd with rfl | rfl | rfl<;>simp [has,Hj]
  simp [B9,h1,h2,h3,h4]
 refine ⟨fun e=>h (key c (.inl e)),fun e=>h (key c (.inr (.inl e))),fun e=>h (key c (.inr (.inr e)))⟩
theorem Aj0 {w t:List UInt8}(hk:B9 w≠0):Bn false (w++t)=0:=by
 cases w with
 | nil=>exact absurd Qp hk
 | cons c l =>
   obtain ⟨h1,h2,h3⟩:=Xl hk
   simp [Bn,h1,h2,h3]
theorem Atu {s:List UInt8}{ws:List (List UInt8)}(h:Lex s ws):∀ (f a:Nat)(out:List Wd),(s.drop (Bn false s)).length<f→(Ek f a (s.drop (Bn false s)) out).2.1=0 →
 (Ek f a (s.drop (Bn false s)) out).1.map Wd.text=out.map Wd.text++ws:=by
 induction h with
 | nil =>
   intro f a out hf h0
   cases f with
   | zero=>simp at hf
   | succ f=>simp [Bn,Ek]
 | blank c t ws hc h ih =>
   intro f a out hf h0
   have e:(c::t).drop (Bn false (c::t))=t.drop (Bn false t):=by
    have:Bn false (c::t)=1+Bn false t:=by rcases hc with rfl | rfl<;>simp [Bn]
    rw [this,Nat.add_comm];rfl
   rw [e] at hf h0 ⊢
   exact ih f a out hf h0
 | wrd w t ws hk he h ih =>
   intro f a out hf h0
   rw [Aj0 hk,List.drop_zero] at hf h0 ⊢
   cases f with
   | zero=>simp at hf
   | succ f =>
     cases w with
     | nil=>exact absurd Qp hk
     | cons c l =>
       have ht:((c::l)++t).take (Ik ((c::l)++t))=c::l:=by rw [he];exact List.take_left
       have hd:((c::l)++t).drop (Ik ((c::l)++t))=t:=by rw [he];exact List.drop_left
       have hd2:∀ b,((c::l)++t).drop (Ik ((c::l)++t)+b)=t.drop b:=fun b=>by rw [← List.drop_drop,hd]
       rw [List.cons_append] at ht hd hd2 hf h0 ⊢
       simp only [Ek] at h0 ⊢
       rw [ht,hd,hd2] at h0 ⊢
       rw [if_neg (by simpa using hk)] at h0 ⊢
       split at h0
       ·simp at h0
       ·rename_i hn
        rw [if_neg hn]
        have:=ih f (a+Ik (c::(l++t))+Bn false t) (out++[⟨B9 (c::l),c::l,a⟩]) (by simp at hf ⊢;omega) h0
        rw [this];simp
theorem Ai3 {s:List UInt8}{ws:List (List UInt8)}(h:Lex s ws)(h0:(B0 s).2.1=0):(B0 s).1.map Wd.text=ws:=by
 unfold B0 at h0 ⊢
 split at h0
 ·simp at h0
 ·rename_i h1
  rw [if_neg h1]
  have:=Atu h (s.length+1) (Bn false s) [] (by simp;omega) h0
  simpa using this
theorem V3 {t:List UInt8}(ht:Sep t):∀ w:List UInt8,Ni w=true→D7 (w++t)=w.length
 | [],_=>by
   cases t with
   | nil=>rfl
   | cons c t=>simp only [Sep] at ht;simp [D7,ht]
 | c::l,h=>by
   simp only [Ni,List.all_cons,Bool.and_eq_true] at h
   simp only [List.cons_append,D7,h.1,if_true]
   rw [V3 ht l h.2];simp;omega
theorem Lex.al {w t:List UInt8}{ws:List (List UInt8)}(hw:Ni w=true)(hk:B9 w≠0)(hs:Sep t)(h:Lex t ws):Lex (w++t) (w::ws):=by
 refine .wrd w t ws hk ?_ h
 cases w with
 | nil=>exact absurd Qp hk
 | cons c l =>
   have hc:(Cq c||digit c)=true:=by simp only [Ni,List.all_cons,Bool.and_eq_true] at hw;exact hw.1
   rw [← V3 hs (c::l) hw]
   simp only [List.cons_append,Ik,hc,if_true]
abbrev R4:List UInt8:=[43,45,42,40,41,91,93,123,125,59,63]
theorem Lex.sg {c:UInt8}{t:List UInt8}{ws:List (List UInt8)}(hc:c∈R4)(h:Lex t ws):Lex (c::t) ([c]::ws):=by
 have h1:∀ c:UInt8,c∈R4→B9 [c]≠0∧(Cq c||digit c)=false:=by decide
 obtain ⟨h2,h3⟩:=h1 c hc
 refine .wrd [c] t ws h2 ?_ h
 show Ik (c::t)=1
 cases t with
 | nil=>simp [Ik,h3]
 | cons d l =>
   have:has Hj [c,d]=false:=by
    simp at hc
    rcases hc with rfl | rfl | rfl | rfl | rfl | rfl | rfl | rfl | rfl | rfl | rfl<;>simp [has,Hj]
   simp [Ik,h3,this]
abbrev La:List (List UInt8):=[[60],[60,61],[62],[62,61],[61,61],[33,61],[61]]
theorem Aeq {w t:List UInt8}{ws:List (List UInt8)}(hw:w∈La)(h:Lex t ws):Lex (w++32::t) (w::ws):=by
 have h1:∀ w,w∈La→B9 w≠0:=by decide
 refine .wrd w (32::t) ws (h1 w hw) ?_ (.blank 32 t ws (.inl rfl) h)
 simp at hw
 rcases hw with rfl | rfl | rfl | rfl | rfl | rfl | rfl<;>rfl
theorem G4 {s:List UInt8}(h:nameS s=true):Ni s=true∧B9 s=1:=by
 cases s with
 | nil=>simp [nameS] at h
 | cons c l =>
   have h':=h
   simp only [nameS,Bool.and_eq_true,decide_eq_true_eq,Bool.not_eq_true'] at h'
   refine ⟨h'.2,?_⟩
   simp [B9,h'.1.2,h]
theorem Lex.name {s t:List UInt8}{ws:List (List UInt8)}(hn:nameS s=true)(hs:Sep t)(h:Lex t ws):Lex (s++t) (s::ws) :=
 .al (G4 hn).1 (by rw [(G4 hn).2];decide) hs h
theorem Mv (n:Nat)(h:n≤1000000):Ni (Hh n)=true∧B9 (Hh n)=2:=by
 have hd:=Pm n
 have hp:=Aa0 n
 have hN:=L4 n h
 generalize Hh n=l at hd hp hN
 cases l with
 | nil=>simp at hp
 | cons c l =>
   have hd':=hd
   simp only [Pl,List.all_cons,Bool.and_eq_true,List.all_eq_true] at hd'
   have hdc:=Ie hd'.1
   have hlc:Cq c=false:=by simp [Cq,A0];omega
   refine ⟨?_,?_⟩
   ·simp only [Ni,List.all_eq_true,Bool.or_eq_true]
    intro x hx
    right
    rcases List.mem_cons.1 hx with rfl | hx
    ·exact hd'.1
    ·exact hd'.2 x hx
   ·have h1:has Pt (c::l)=false:=by
     simp only [has,List.any_eq_false]
     intro k hk he
     have he:=beq_iff_eq.1 he
     have:∀ k,k∈Pt→∀ d l',k=d::l'→97≤d.toNat:=by
      intro k hk d l' e
      simp only [Pt,List.mem_cons,List.not_mem_nil,or_false] at hk
      rcases hk with rfl | rfl | rfl | rfl | rfl | rfl | rfl | rfl | rfl | rfl | rfl | rfl | rfl<;>(injection e with e1 e2;subst e1;decide)
     have:=this k hk c l he
     omega
    have h2:nameS (c::l)=false:=by simp [nameS,hlc]
    simp [B9,h1,h2,hN]
theorem Lex.num {n:Nat}{t:List UInt8}{ws:List (List UInt8)}(hn:n≤1000000)(hs:Sep t)(h:Lex t ws):Lex (Hh n++t) (Hh n::ws) :=
 .al (Mv n hn).1 (by rw [(Mv n hn).2];decide) hs h
theorem Lex.key {s t:List UInt8}{ws:List (List UInt8)}(hn:s∈Pt)(hs:Sep t)(h:Lex t ws):Lex (s++t) (s::ws):=by
 have:∀ s,s∈Pt→Ni s=true∧B9 s≠0:=by decide
 exact .al (this s hn).1 (this s hn).2 hs h
theorem Lex.sp {t:List UInt8}{ws:List (List UInt8)}(h:Lex t ws):Lex (32::t) ws:=.blank 32 t ws (.inl rfl) h
theorem Pe {t:List UInt8}{ws:List (List UInt8)}(h:Lex t ws):Lex (10::t) ws:=.blank 10 t ws (.inr rfl) h
def Gx (l:Int)(k:Int)(w:List (List UInt8)):List (List UInt8):=if I3 k<l then [[40]]++w++[[41]] else w
def Cf:Nd→List (List UInt8)
 | .mk k s m []=>if k=1 then [Hh m.toNat] else if k=4 then [[108,101,110],[40],s,[41]] else [s]
 | .mk k s _ [a]=>if k=3 then [s,[91]]++Cf a++[[93]] else [[45]]++Gx 3 a.kind (Cf a)
 | .mk k _ _ (a::b::_) =>
   if k=6 then Gx 1 a.kind (Cf a)++[[43]]++Gx 2 b.kind (Cf b)
   else if k=7 then Gx 1 a.kind (Cf a)++[[45]]++Gx 2 b.kind (Cf b)
   else if k=8 then Gx 2 a.kind (Cf a)++[[42]]++Gx 3 b.kind (Cf b)
   else Cf a++[P4 k]++Cf b
def LexP (t:List UInt8)(ws:List (List UInt8)):Prop:=∀ (u:List UInt8)(vs:List (List UInt8)),Sep u→Lex u vs→Lex (t++u) (ws++vs)
theorem LexP.par {l k:Int}{t:List UInt8}{ws:List (List UInt8)}(h:LexP t ws):LexP (I5 l k t) (Gx l k ws):=by
 unfold I5 Gx
 split
 ·intro u vs hs hu
  have:=h (41::u) ([41]::vs) (by simp only [Sep];decide) (Lex.sg (by simp) hu)
  have:=Lex.sg (c:=40) (by simp) this
  simpa using this
 ·exact h
theorem Ja (t:List UInt8):Sep (32::t):=by simp only [Sep];decide
theorem Afe {n:Nd}(h:FE n):LexP (Bd n) (Cf n):=by
 induction h with
 | num m h0 h1=>intro u vs hs hu;simp only [Bd,Cf,if_true];exact Lex.num (by omega) hs hu
 | var s h=>intro u vs hs hu;simp only [Bd,Cf,if_true];exact Lex.name h hs hu
 | cell s a h ha ih =>
   intro u vs hs hu
   have h1:=ih (93::u) ([93]::vs) (by simp only [Sep];decide) (Lex.sg (by simp) hu)
   have h2:=Lex.name h (by simp only [Sep];decide) (Lex.sg (c:=91) (by simp) h1)
   simpa [Bd,Cf] using h2
 | len s h =>
   intro u vs hs hu
   have h1:=Lex.name h (by simp only [Sep];decide) (Lex.sg (c:=41) (by simp) hu)
   have h2:=Lex.key (s:=[108,101,110]) (by decide) (by simp only [Sep];decide) (Lex.sg (c:=40) (by simp) h1)
   simpa [Bd,Cf] using h2
 | neg a ha ih =>
   intro u vs hs hu
   have h1:=Lex.sg (c:=45) (by simp) ((ih.par (l:=3) (k:=a.kind)) u vs hs hu)
   simpa [Bd,Cf] using h1
 | two k a b hk ha hb iha ihb =>
   have go:∀ (l l':Int) (c:UInt8),c∈R4→LexP (I5 l a.kind (Bd a)++[32,c,32]++I5 l' b.kind (Bd b)) (Gx l a.kind (Cf a)++[[c]]++Gx l' b.kind (Cf b)):=by
    intro l l' c hc u vs hs hu
    have h1:=(ihb.par (l:=l') (k:=b.kind)) u vs hs hu
    have h2:=(iha.par (l:=l) (k:=a.kind)) _ _ (Ja _) (Lex.sp (Lex.sg hc (Lex.sp h1)))
    simpa using h2
   rcases hk with rfl | rfl | rfl
   ·simpa [Bd,Cf] using go 1 2 43 (by simp)
   ·simpa [Bd,Cf] using go 1 2 45 (by simp)
   ·simpa [Bd,Cf] using go 2 3 42 (by simp)
theorem U4 (k:Int):P4 k∈La:=by
 unfold P4;repeat' split
 all_goals simp
theorem Att {n:Nd}(h:FC n):LexP (Bd n) (Cf n):=by
 cases h with
 | mk k a b h0 h1 ha hb =>
   intro u vs hs hu
   have i1:=Afe hb u vs hs hu
   have i2:=Afe ha _ _ (Ja _) (Lex.sp (Aeq (U4 k) i1))
   have ne:¬ k=6∧¬ k=7∧¬ k=8:=by omega
   simpa [Bd,Cf,ne.1,ne.2.1,ne.2.2] using i2
mutual
def Fo:Nd→List (List UInt8)
 | .mk k s m [] =>
   if k=31 then [Kg,s,[59]]
   else if k=32 then [Dd,s,[91],if 0≤m then Hh m.toNat else [63],[93],[59]]
   else if k=23 then [Fx,s,[59]]
   else if k=28 then [F3,[59]]
   else [Gf,[59]]
 | .mk k s _ [a]=>if k=21 then [s,[61]]++Cf a++[[59]] else [Dp]++Cf a++[[59]]
 | .mk k s _ [a,.mk k' s' m' l] =>
   if k=22 then [s,[91]]++Cf a++[[93],[61]]++Cf (.mk k' s' m' l)++[[59]]
   else [Dx]++Cf a++[[123]]++Gg l++[[125]]
 | .mk k s _ (a::.mk k' s' m' l'::.mk _ _ _ l::_) =>
   if k=26 then [I4,s,Gw]++Cf a++[V2]++Cf (.mk k' s' m' l')++[[123]]++Gg l++[[125]]
   else [Q6]++Cf a++[[123]]++Gg l'++[[125]] ++
    (match l with
      | []=>[]
      | _=>[Fw,[123]]++Gg l++[[125]])
def Gg:List Nd→List (List UInt8)
 | []=>[]
 | x::l=>Fo x++Gg l
end
theorem Lex.pad {t:List UInt8}{ws:List (List UInt8)}(h:Lex t ws):∀ p:List UInt8,(∀ c,c∈p→c=32)→Lex (p++t) ws
 | [],_=>h
 | c::p,hp=>by
   have:=hp c (by simp)
   subst this
   exact .sp (Lex.pad h p fun c hc=>hp c (by simp [hc]))
def Aoq (t:List UInt8)(ws:List (List UInt8)):Prop:=∀ (u:List UInt8)(vs:List (List UInt8)),Lex u vs→Lex (t++u) (ws++vs)
theorem K4 {l:List Nd}{p:List UInt8}(h:∀ x,x∈l→Aoq (Br x p) (Fo x)):Aoq (Fp l p) (Gg l):=by
 induction l with
 | nil=>intro u vs hu;simpa [Fp,Gg] using hu
 | cons x l ih =>
   intro u vs hu
   have h1:=ih (fun y hy=>h y (by simp [hy])) u vs hu
   have h2:=h x (by simp) _ _ h1
   simpa [Fp,Gg] using h2
theorem Yg (c:UInt8)(t:List UInt8)(h:(Cq c||digit c)=false:=by decide):Sep (c::t):=h
def padOk (p:List UInt8):Prop:=∀ c,c∈p→c=32
theorem padOk.more {p:List UInt8}(h:padOk p):padOk (p++[32,32]):=by
 intro c hc
 rcases List.mem_append.1 hc with hc | hc
 ·exact h c hc
 ·simp at hc;exact hc
theorem J4 {u:List UInt8}{vs:List (List UInt8)}(h:Lex u vs):Lex (59::10::u) ([59]::vs):=Lex.sg (by simp) (Pe h)
theorem Axf {x:Nd}(h:FV x)(p:List UInt8)(hp:padOk p):Aoq (Br x p) (Fo x):=by
 cases h with
 | var s h =>
   intro u vs hu
   have h1:=Lex.name h (Yg _ _) (J4 hu)
   have h2:=(Lex.key (s:=Kg) (by decide) (Ja _) (Lex.sp h1)).pad p hp
   simpa [Br,Fo] using h2
 | arr s m h h0 h1 =>
   intro u vs hu
   have key:∀ (t w:List UInt8),(∀ u vs,Sep u→Lex u vs→Lex (t++u) (w::vs))→Lex (p++Dd++32::(s++91::(t++93::59::10::u))) (Dd::s::[91]::w::[93]::[59]::vs):=by
    intro t w ht
    have h1:=ht _ _ (Yg _ _) (Lex.sg (c:=93) (by simp) (J4 hu))
    have h2:=Lex.name h (Yg _ _) (Lex.sg (c:=91) (by simp) h1)
    have h3:=(Lex.key (s:=Dd) (by decide) (Ja _) (Lex.sp h2)).pad p hp
    simpa using h3
   by_cases g:0≤m
   ·have:=key (Hh m.toNat) (Hh m.toNat) (fun u vs hs hu=>Lex.num (by omega) hs hu)
    simpa [Br,Fo,g] using this
   ·have:=key [63] [63] (fun u vs hs hu=>Lex.sg (by simp) hu)
    simpa [Br,Fo,g] using this
theorem Axe {x:Nd}(h:FS x):∀ p:List UInt8,padOk p→Aoq (Br x p) (Fo x):=by
 induction h with
 | set s a h ha =>
   intro p hp u vs hu
   have h1:=Afe ha _ _ (Yg _ _) (J4 hu)
   have h2:=(Lex.name h (Ja _) (Lex.sp (Aeq (w:=[61]) (by simp) h1))).pad p hp
   simpa [Br,Fo] using h2
 | put s a b h ha hb =>
   intro p hp u vs hu
   have h1:=Afe hb _ _ (Yg _ _) (J4 hu)
   have h2:=Afe ha _ _ (Yg _ _) (Lex.sg (c:=93) (by simp) (Lex.sp (Aeq (w:=[61]) (by simp) h1)))
   have h3:=(Lex.name h (Yg _ _) (Lex.sg (c:=91) (by simp) h2)).pad p hp
   obtain ⟨k',s',m',l'⟩:=b
   simpa [Br,Fo] using h3
 | read s h =>
   intro p hp u vs hu
   have h1:=Lex.name h (Yg _ _) (J4 hu)
   have h2:=(Lex.key (s:=Fx) (by decide) (Ja _) (Lex.sp h1)).pad p hp
   simpa [Br,Fo] using h2
 | ifs c l l' hc hl hl' ihl ihl' =>
   intro p hp u vs hu
   have fin:Lex (125::10::u) ([125]::vs):=Lex.sg (by simp) (Pe hu)
   have go:∀ (t:List UInt8) (w:List (List UInt8)),Lex t w→Lex (p++Q6++32::(Bd c++32::123::10::(Fp l (p++[32,32])++(p++t)))) (Q6::(Cf c++[123]::(Gg l++w))):=by
    intro t w ht
    have h1:=K4 (fun x hx=>ihl x hx (p++[32,32]) hp.more) _ _ (ht.pad p hp)
    have h2:=Att hc _ _ (Ja _) (Lex.sp (Lex.sg (c:=123) (by simp) (Pe h1)))
    have h3:=(Lex.key (s:=Q6) (by decide) (Ja _) (Lex.sp h2)).pad p hp
    simpa using h3
   cases l' with
   | nil=>simpa [Br,Fo] using go _ _ fin
   | cons y l' =>
     have h1:=K4 (fun x hx=>ihl' x hx (p++[32,32]) hp.more) _ _ (fin.pad p hp)
     have h2:=Lex.sg (c:=125) (by simp) (Lex.sp (Lex.key (s:=Fw) (by decide) (Ja _) (Lex.sp (Lex.sg (c:=123) (by simp) (Pe h1)))))
     simpa [Br,Fo] using go _ _ h2
 | whil c l hc hl ihl =>
   intro p hp u vs hu
   have fin:Lex (125::10::u) ([125]::vs):=Lex.sg (by simp) (Pe hu)
   have h1:=K4 (fun x hx=>ihl x hx (p++[32,32]) hp.more) _ _ (fin.pad p hp)
   have h2:=Att hc _ _ (Ja _) (Lex.sp (Lex.sg (c:=123) (by simp) (Pe h1)))
   have h3:=(Lex.key (s:=Dx) (by decide) (Ja _) (Lex.sp h2)).pad p hp
   simpa [Br,Fo] using h3
 | for_ s a b l h ha hb hl ihl =>
   intro p hp u vs hu
   have fin:Lex (125::10::u) ([125]::vs):=Lex.sg (by simp) (Pe hu)
   have h1:=K4 (fun x hx=>ihl x hx (p++[32,32]) hp.more) _ _ (fin.pad p hp)
   have h2:=Afe hb _ _ (Ja _) (Lex.sp (Lex.sg (c:=123) (by simp) (Pe h1)))
   have h3:=Afe ha _ _ (Ja _) (Lex.sp (Lex.key (s:=V2) (by decide) (Ja _) (Lex.sp h2)))
   have h4:=Lex.name h (Ja _) (Lex.sp (Lex.key (s:=Gw) (by decide) (Ja _) (Lex.sp h3)))
   have h5:=(Lex.key (s:=I4) (by decide) (Ja _) (Lex.sp h4)).pad p hp
   obtain ⟨k',s',m',l'⟩:=b
   simpa [Br,Fo] using h5
 | check c hc =>
   intro p hp u vs hu
   have h1:=Att hc _ _ (Yg _ _) (J4 hu)
   have h2:=(Lex.key (s:=Dp) (by decide) (Ja _) (Lex.sp h1)).pad p hp
   simpa [Br,Fo] using h2
 | skip =>
   intro p hp u vs hu
   have h2:=(Lex.key (s:=F3) (by decide) (Yg _ _) (J4 hu)).pad p hp
   simpa [Br,Fo] using h2
 | stop =>
   intro p hp u vs hu
   have h2:=(Lex.key (s:=Gf) (by decide) (Yg _ _) (J4 hu)).pad p hp
   simpa [Br,Fo] using h2
theorem Axd {ds l:List Nd}(hd:∀ x,x∈ds→FV x)(hl:∀ x,x∈l→FS x):Lex (Fp ds []++Fp l []) (Gg ds++Gg l):=by
 have h1:=K4 (p:=[]) (fun x hx=>Axe (hl x hx) [] (fun c hc=>by cases hc)) [] [] .nil
 have h2:=K4 (p:=[]) (fun x hx=>Axf (hd x hx) [] (fun c hc=>by cases hc)) _ _ h1
 simpa using h2
structure At (r:RS)(xs:List (List UInt8)):Prop where
 good:r.bad=false
 wk:r.wk
 ws:(r.ws.drop r.at_).map Wd.text=xs
def Io (xs:List (List UInt8)):List UInt8:=xs.headD []
section
variable {r:RS}{x:List UInt8}{xs:List (List UInt8)}
theorem At.get (h:At r (x::xs)):∃ w,r.ws[r.at_]?=some w∧w.text=x∧w.kind=B9 x:=by
 have h1:=congrArg (fun l:List (List UInt8)=>l[0]?) h.ws
 simp at h1
 obtain ⟨w,hw,rfl⟩:=h1
 exact ⟨w,hw,rfl,h.wk w (List.mem_of_getElem? hw)⟩
theorem At.kind (h:At r (x::xs)):r.kind=B9 x:=by
 obtain ⟨w,hw,_,hk⟩:=h.get
 simp [RS.kind,hw,hk]
theorem At.lt (h:At r (x::xs)):r.at_<r.ws.length:=by
 obtain ⟨w,hw,_⟩:=h.get
 exact Ad hw
theorem At.ge (h:At r []):r.ws.length≤r.at_:=by
 have:=congrArg List.length h.ws
 simp at this;omega
theorem At.text (h:At r xs):r.text=Io xs:=by
 cases xs with
 | nil=>simp [RS.text,List.getElem?_eq_none h.ge,Io]
 | cons x xs =>
   obtain ⟨w,hw,ht,_⟩:=h.get
   simp [RS.text,hw,ht,Io]
theorem At.step (h:At r (x::xs)):At r.step xs:=by
 refine ⟨h.good,h.wk,?_⟩
 have:=congrArg List.tail h.ws
 simp only [List.tail_cons] at this
 rw [← this]
 simp [RS.step]
theorem At.takes (h:At r xs)(s:List UInt8):r.takes s=(Io xs==s):=by simp [RS.takes,h.good,h.text]
theorem At.no (h:At r xs){s:List UInt8}(hs:Io xs≠s):r.takes s=false:=by rw [h.takes];simpa using hs
theorem At.yes (h:At r (x::xs)):r.takes x=true:=by rw [h.takes];simp [Io]
theorem At.need (h:At r (x::xs)):r.need x=r.step:=by simp [RS.need,h.yes]
theorem At.named (h:At r (x::xs))(hn:nameS x=true):r.named=true∧r.name=x∧r.nameR=r.step:=by
 have hk:r.kind=1:=by rw [h.kind,(G4 hn).2]
 have:r.named=true:=by simp [RS.named,h.good,hk]
 refine ⟨this,?_,?_⟩
 ·simp [RS.name,this,h.text,Io]
 ·simp [RS.nameR,this]
end
theorem kne {a b:List UInt8}(h:B9 a≠B9 b):a≠b:=fun e=>h (by rw [e])
theorem Fb {s:List UInt8}(h:nameS s=true)(b:List UInt8)(hb:B9 b≠1:=by decide):s≠b:=kne (by rw [(G4 h).2];exact fun e=>hb e.symm)
theorem At0 {m:Nat}(h:m≤1000000)(b:List UInt8)(hb:B9 b≠2:=by decide):Hh m≠b:=kne (by rw [(Mv m h).2];exact fun e=>hb e.symm)
def Q1 (ws:List (List UInt8))(n:Nd)(B:Nat):Prop:=∀ (f:Nat)(r:RS)(xs:List (List UInt8)),B≤f→At r (ws++xs)→Io xs≠[91]→∃ r',Db f r=(n,r')∧At r' xs
def Q2 (ws:List (List UInt8))(n:Nd)(B:Nat):Prop:=∀ (f:Nat)(r:RS)(xs:List (List UInt8)),B≤f→At r (ws++xs)→Io xs≠[91]→∃ r' g,f≤g+Ai n∧Co f r=Ey g n r'∧At r' xs
def Q3 (ws:List (List UInt8))(n:Nd)(B:Nat):Prop:=∀ (f:Nat)(r:RS)(xs:List (List UInt8)),B≤f→At r (ws++xs)→Io xs≠[91]→Io xs≠[42]→∃ r' g,f≤g+Ai n∧C0 f r=Ec g n r'∧At r' xs
theorem T9 (n:Nd):1≤Ai n:=by rw [Bv];omega
theorem Q1.mono {ws:List (List UInt8)}{n:Nd}{B B':Nat}(h:Q1 ws n B)(hb:B≤B'):Q1 ws n B':=fun f r xs hf=>h f r xs (by omega)
theorem Q2.mono {ws:List (List UInt8)}{n:Nd}{B B':Nat}(h:Q2 ws n B)(hb:B≤B'):Q2 ws n B':=fun f r xs hf=>h f r xs (by omega)
theorem Q3.mono {ws:List (List UInt8)}{n:Nd}{B B':Nat}(h:Q3 ws n B)(hb:B≤B'):Q3 ws n B':=fun f r xs hf=>h f r xs (by omega)
theorem Aae {g:Nat}{n:Nd}{r:RS}{xs:List (List UInt8)}(h:At r xs)(hs:Io xs≠[42]):Ey g n r=(n,r):=by
 cases g with
 | zero=>simp [Ey]
 | succ g=>simp [Ey,h.no hs]
theorem Ud {g:Nat}{n:Nd}{r:RS}{xs:List (List UInt8)}(h:At r xs)(hs:Io xs≠[43])(hs':Io xs≠[45]):Ec g n r=(n,r):=by
 cases g with
 | zero=>simp [Ec]
 | succ g=>simp [Ec,h.no hs,h.no hs']
theorem Avi {ws:List (List UInt8)}{n:Nd}{B:Nat}(h:Q1 ws n B):Q2 ws n (B+1):=by
 intro f r xs hf ha hs
 obtain ⟨g,rfl⟩:∃ g,f=g+1:=⟨f-1,by omega⟩
 obtain ⟨r',h1,h2⟩:=h g r xs (by omega) ha hs
 refine ⟨r',g,by have:=T9 n;omega,?_,h2⟩
 simp [Co,h1]
theorem Avj {ws:List (List UInt8)}{n:Nd}{B:Nat}(h:Q2 ws n B):Q3 ws n (B+1):=by
 intro f r xs hf ha hs hs'
 obtain ⟨g,rfl⟩:∃ g,f=g+1:=⟨f-1,by omega⟩
 obtain ⟨r',g',h1,h2,h3⟩:=h g r xs (by omega) ha hs
 refine ⟨r',g,by have:=T9 n;omega,?_,h3⟩
 rw [Aae h3 hs'] at h2
 simp [C0,h2]
theorem Avk {ws:List (List UInt8)}{n:Nd}{B:Nat}(h:Q3 ws n B):Q1 ([[40]]++ws++[[41]]) n (B+1):=by
 intro f r xs hf ha hs
 obtain ⟨g,rfl⟩:∃ g,f=g+1:=⟨f-1,by omega⟩
 have ha':At r ([40]::(ws++[41]::xs)):=by simpa using ha
 obtain ⟨r',g',h1,h2,h3⟩:=h g r.step ([41]::xs) (by omega) ha'.step (by simp [Io]) (by simp [Io])
 rw [Ud h3 (by simp [Io]) (by simp [Io])] at h2
 refine ⟨r'.step,?_,h3.step⟩
 have hk:¬ (r.kind==2)=true:=by rw [ha'.kind];decide
 have h45:r.takes [45]=false:=ha'.no (by simp [Io])
 rw [Db,if_neg (by simp [ha'.good]),if_neg (by simp [h45]),if_neg hk,if_pos ha'.yes,h2]
 simp [h3.need]
theorem Amk {m:Int}(h0:0≤m)(h1:m≤1000000):Q1 [Hh m.toNat] (.mk 1 [] m []) 1:=by
 intro f r xs hf ha hs
 obtain ⟨g,rfl⟩:∃ g,f=g+1:=⟨f-1,by omega⟩
 have ha':At r (Hh m.toNat::xs):=ha
 have hm:m.toNat≤1000000:=by omega
 refine ⟨r.step,?_,ha'.step⟩
 have hk:(r.kind==2)=true:=by rw [ha'.kind,(Mv _ hm).2];rfl
 have h45:r.takes [45]=false:=ha'.no (At0 hm [45])
 rw [Db,if_neg (by simp [ha'.good]),if_neg (by simp [h45]),if_pos hk,ha'.text]
 simp only [Io,List.headD_cons]
 rw [L4 _ hm]
 congr 2
 omega
theorem Zz {f:Nat}{r:RS}{s:List UInt8}{xs:List (List UInt8)}(hn:nameS s=true)(ha:At r (s::xs)) :
 Db (f+1) r=if r.step.takes [91] then (.mk 3 s 0 [(C0 f r.step.step).1],(C0 f r.step.step).2.need [93]) else (.mk 2 s 0 [],r.step):=by
 obtain ⟨_,h2,h3⟩:=ha.named hn
 have hk:¬ (r.kind==2)=true:=by rw [ha.kind,(G4 hn).2];decide
 have h45:r.takes [45]=false:=ha.no (Fb hn [45])
 have h40:r.takes [40]=false:=ha.no (Fb hn [40])
 have hl:r.takes [108,101,110]=false:=ha.no (Fb hn _)
 rw [Db,if_neg (by simp [ha.good]),if_neg (by simp [h45]),if_neg hk,if_neg (by simp [h40]),if_neg (by simp [hl]),h2,h3]
theorem Auu {n:Nd}(h:FE n):Q1 (Gx 3 n.kind (Cf n)) n (3*Ai n)∧Q2 (Gx 2 n.kind (Cf n)) n (3*Ai n)∧Q3 (Cf n) n (3*Ai n):=by
 have t3:∀ {n:Nd} {B:Nat},I3 n.kind=3→B+2≤3*Ai n→Q1 (Cf n) n B→Q1 (Gx 3 n.kind (Cf n)) n (3*Ai n)∧Q2 (Gx 2 n.kind (Cf n)) n (3*Ai n)∧Q3 (Cf n) n (3*Ai n):=by
  intro n B ht hB hq
  have e3:Gx 3 n.kind (Cf n)=Cf n:=by unfold Gx;rw [ht,if_neg (by omega)]
  have e2:Gx 2 n.kind (Cf n)=Cf n:=by unfold Gx;rw [ht,if_neg (by omega)]
  rw [e3,e2]
  exact ⟨hq.mono (by omega),(Avi hq).mono (by omega),(Avj (Avi hq)).mono (by omega)⟩
 induction h with
 | num m h0 h1 =>
   refine t3 (B:=1) rfl (by simp [Ai,Ar]) ?_
   simpa [Cf] using Amk h0 h1
 | var s h =>
   refine t3 (B:=1) rfl (by simp [Ai,Ar]) ?_
   intro f r xs hf ha hs
   obtain ⟨g,rfl⟩:∃ g,f=g+1:=⟨f-1,by omega⟩
   have ha':At r (s::xs):=by simpa [Cf] using ha
   refine ⟨r.step,?_,ha'.step⟩
   rw [Zz h ha',if_neg (by simp [ha'.step.no hs])]
 | cell s a h ha ih =>
   refine t3 (B:=3*Ai a+1) rfl (by simp [Ai,Ar];omega) ?_
   intro f r xs hf ha hs
   obtain ⟨g,rfl⟩:∃ g,f=g+1:=⟨f-1,by omega⟩
   have ha':At r (s::[91]::(Cf a++[93]::xs)):=by simpa [Cf] using ha
   obtain ⟨r',g',h1,h2,h3⟩:=ih.2.2 g r.step.step ([93]::xs) (by omega) ha'.step.step (by simp [Io]) (by simp [Io])
   rw [Ud h3 (by simp [Io]) (by simp [Io])] at h2
   refine ⟨r'.step,?_,h3.step⟩
   rw [Zz h ha',if_pos ha'.step.yes,h2]
   simp [h3.need]
 | len s h =>
   refine t3 (B:=1) rfl (by simp [Ai,Ar]) ?_
   intro f r xs hf ha hs
   obtain ⟨g,rfl⟩:∃ g,f=g+1:=⟨f-1,by omega⟩
   have ha':At r ([108,101,110]::[40]::s::[41]::xs):=by simpa [Cf] using ha
   obtain ⟨_,e2,e3⟩:=ha'.step.step.named h
   refine ⟨r.step.step.step.step,?_,ha'.step.step.step.step⟩
   have hk:¬ (r.kind==2)=true:=by rw [ha'.kind];decide
   have h45:r.takes [45]=false:=ha'.no (by simp [Io])
   have h40:r.takes [40]=false:=ha'.no (by simp [Io])
   rw [Db,if_neg (by simp [ha'.good]),if_neg (by simp [h45]),if_neg hk,if_neg (by simp [h40]),if_pos ha'.yes,ha'.step.need,e2,e3,ha'.step.step.step.need]
 | neg a ha ih =>
   refine t3 (B:=3*Ai a+1) rfl (by simp [Ai,Ar];omega) ?_
   intro f r xs hf ha hs
   obtain ⟨g,rfl⟩:∃ g,f=g+1:=⟨f-1,by omega⟩
   have ha':At r ([45]::(Gx 3 a.kind (Cf a)++xs)):=by simpa [Cf] using ha
   obtain ⟨r',h1,h2⟩:=ih.1 g r.step xs (by omega) ha'.step hs
   refine ⟨r',?_,h2⟩
   rw [Db,if_neg (by simp [ha'.good]),if_pos ha'.yes,h1]
 | two k a b hk ha hb iha ihb =>
   have hc:Ai (Nd.mk k [] 0 [a,b])=1+(Ai a+Ai b):=by simp [Ai,Ar]
   have sum:∀ (kk:Int) (c:UInt8),(kk=6∧c=43)∨(kk=7∧c=45)→Q3 (Cf a++[[c]]++Gx 2 b.kind (Cf b)) (.mk kk [] 0 [a,b]) (3*Ai (Nd.mk k [] 0 [a,b])-2):=by
    intro kk c hkc f r xs hf ht hs hs'
    have hck:Ai (Nd.mk kk [] 0 [a,b])=1+(Ai a+Ai b):=by simp [Ai,Ar]
    have ha':At r (Cf a++([c]::(Gx 2 b.kind (Cf b)++xs))):=by simpa using ht
    have c1:Io ([c]::(Gx 2 b.kind (Cf b)++xs))≠[91]:=by rcases hkc with ⟨_,rfl⟩ | ⟨_,rfl⟩<;>simp [Io]
    have c2:Io ([c]::(Gx 2 b.kind (Cf b)++xs))≠[42]:=by rcases hkc with ⟨_,rfl⟩ | ⟨_,rfl⟩<;>simp [Io]
    obtain ⟨r1,g1,h1,h2,h3⟩:=iha.2.2 f r _ (by omega) ha' c1 c2
    obtain ⟨g,rfl⟩:∃ g,g1=g+1:=⟨g1-1,by omega⟩
    obtain ⟨r2,g2,j1,j2,j3⟩:=ihb.2.1 g r1.step xs (by omega) h3.step hs
    rw [Aae j3 hs'] at j2
    refine ⟨r2,g,by omega,?_,j3⟩
    rw [h2]
    rcases hkc with ⟨rfl,rfl⟩ | ⟨rfl,rfl⟩
    ·rw [Ec,if_pos h3.yes,j2]
    ·rw [Ec,if_neg (by simp [h3.no (s:=[43]) (by simp [Io])]),if_pos h3.yes,j2]
   have t1:∀ {n:Nd} {B:Nat},I3 n.kind=1→B+2≤3*Ai n→Q3 (Cf n) n B→Q1 (Gx 3 n.kind (Cf n)) n (3*Ai n)∧Q2 (Gx 2 n.kind (Cf n)) n (3*Ai n)∧Q3 (Cf n) n (3*Ai n):=by
    intro n B ht hB hq
    have e3:Gx 3 n.kind (Cf n)=[[40]]++Cf n++[[41]]:=by unfold Gx;rw [ht,if_pos (by omega)]
    have e2:Gx 2 n.kind (Cf n)=[[40]]++Cf n++[[41]]:=by unfold Gx;rw [ht,if_pos (by omega)]
    rw [e3,e2]
    exact ⟨(Avk hq).mono (by omega),(Avi (Avk hq)).mono (by omega),hq.mono (by omega)⟩
   have p1:Gx 1 a.kind (Cf a)=Cf a:=by
    unfold Gx I3
    rw [if_neg]
    split<;>(try split)<;>omega
   rcases hk with rfl | rfl | rfl
   ·refine t1 (B:=3*Ai (Nd.mk 6 [] 0 [a,b])-2) rfl (by omega) ?_
    have:=sum 6 43 (.inl ⟨rfl,rfl⟩)
    simpa [Cf,p1] using this
   ·refine t1 (B:=3*Ai (Nd.mk 7 [] 0 [a,b])-2) rfl (by omega) ?_
    have:=sum 7 45 (.inr ⟨rfl,rfl⟩)
    simpa [Cf,p1] using this
   ·have hq:Q2 (Cf (Nd.mk 8 [] 0 [a,b])) (Nd.mk 8 [] 0 [a,b]) (3*Ai (Nd.mk 8 [] 0 [a,b])-2):=by
     intro f r xs hf ht hs
     have ha':At r (Gx 2 a.kind (Cf a)++([42]::(Gx 3 b.kind (Cf b)++xs))):=by simpa [Cf] using ht
     obtain ⟨r1,g1,h1,h2,h3⟩:=iha.2.1 f r _ (by omega) ha' (by simp [Io])
     obtain ⟨g,rfl⟩:∃ g,g1=g+1:=⟨g1-1,by omega⟩
     obtain ⟨r2,j2,j3⟩:=ihb.1 g r1.step xs (by omega) h3.step hs
     refine ⟨r2,g,by omega,?_,j3⟩
     rw [h2,Ey,if_pos h3.yes,j2]
    have e3:Gx 3 (Nd.mk 8 [] 0 [a,b]).kind (Cf (Nd.mk 8 [] 0 [a,b]))=[[40]]++Cf (Nd.mk 8 [] 0 [a,b])++[[41]]:=by exact if_pos (show I3 8<3 by decide)
    have e2:Gx 2 (Nd.mk 8 [] 0 [a,b]).kind (Cf (Nd.mk 8 [] 0 [a,b]))=Cf (Nd.mk 8 [] 0 [a,b]):=by exact if_neg (show ¬ I3 8<2 by decide)
    rw [e3,e2]
    exact ⟨(Avk (Avj hq)).mono (by omega),hq.mono (by omega),(Avj hq).mono (by omega)⟩
def Stop (xs:List (List UInt8)):Prop:=Io xs≠[91]∧Io xs≠[42]∧Io xs≠[43]∧Io xs≠[45]
theorem G2 {n:Nd}(h:FE n)(hc:Ai n≤500){r:RS}{xs:List (List UInt8)}(ha:At r (Cf n++xs))(hs:Stop xs):∃ r',Bj r=(n,r')∧At r' xs:=by
 obtain ⟨r',g,h1,h2,h3⟩:=(Auu h).2.2 6010 r xs (by omega) ha hs.1 hs.2.1
 rw [Ud h3 hs.2.2.1 hs.2.2.2] at h2
 exact ⟨r',h2,h3⟩
theorem Ajw {k:Int}(h0:11≤k)(h1:k≤16):relS (P4 k)=k:=by
 have:k=11∨k=12∨k=13∨k=14∨k=15∨k=16:=by omega
 rcases this with rfl | rfl | rfl | rfl | rfl | rfl<;>rfl
theorem An0 (k:Int)(xs:List (List UInt8)):Stop (P4 k::xs):=by
 have:∀ w,w∈La→w≠[91]∧w≠[42]∧w≠[43]∧w≠[45]:=by decide
 exact this _ (U4 k)
theorem Lx {n:Nd}(h:FC n)(hc:Ai n≤500){r:RS}{xs:List (List UInt8)}(ha:At r (Cf n++xs))(hs:Stop xs):∃ r',Cb r=(n,r')∧At r' xs:=by
 cases h with
 | mk k a b h0 h1 fa fb =>
   have ne:¬ k=6∧¬ k=7∧¬ k=8:=by omega
   have hcc:Ai (Nd.mk k [] 0 [a,b])=1+(Ai a+Ai b):=by simp [Ai,Ar]
   have ha':At r (Cf a++(P4 k::(Cf b++xs))):=by simpa [Cf,ne.1,ne.2.1,ne.2.2] using ha
   obtain ⟨r1,e1,a1⟩:=G2 fa (by omega) ha' (An0 k _)
   obtain ⟨r2,e2,a2⟩:=G2 fb (by omega) a1.step hs
   refine ⟨r2,?_,a2⟩
   have ht:r1.text=P4 k:=by rw [a1.text];rfl
   unfold Cb
   rw [e1]
   simp only [ht,Ajw h0 h1]
   rw [if_neg (by simp [a1.good];omega),e2]
def RdS (x:Nd):Prop:=∀ (f:Nat)(r:RS)(xs:List (List UInt8)),3*Ai x≤f→Ai x≤500→At r (Fo x++xs)→Io xs≠Fw→∃ r',B6 f r=(x,r')∧At r' xs
def RdL (l:List Nd):Prop:=∀ (f:Nat)(r:RS)(acc:List Nd)(xs:List (List UInt8)),3*Ar l+1≤f→Ar l≤500→At r (Gg l++xs)→(xs=[]∨Io xs=[125])→∃ r',Cm f acc r=(acc++l,r')∧At r' xs
def Ak6 (s:List UInt8):Prop:=nameS s=true∨s∈[Q6,Dx,I4,Dp,Fx,F3,Gf]
theorem T7 {s:List UInt8}(h:Ak6 s):s≠[125]∧s≠Fw∧s≠Kg∧s≠Dd:=by
 rcases h with h | h
 ·exact ⟨Fb h _,Fb h _,Fb h _,Fb h _⟩
 ·have:∀ s,s∈[Q6,Dx,I4,Dp,Fx,F3,Gf]→s≠[125]∧s≠Fw∧s≠Kg∧s≠Dd:=by decide
  exact this s h
theorem Sf {x:Nd}(h:FS x):∃ s t,Fo x=s::t∧Ak6 s:=by
 cases h with
 | set s a h ha=>exact ⟨s,_,by simp [Fo];rfl,.inl h⟩
 | put s a b h ha hb=>obtain ⟨k',s',m',l'⟩:=b;exact ⟨s,_,by simp [Fo];rfl,.inl h⟩
 | read s h=>exact ⟨Fx,_,by simp [Fo];rfl,.inr (by simp)⟩
 | ifs c l l' hc hl hl'=>exact ⟨Q6,_,by simp [Fo];rfl,.inr (by simp)⟩
 | whil c l hc hl=>exact ⟨Dx,_,by simp [Fo];rfl,.inr (by simp)⟩
 | for_ s a b l h ha hb hl=>obtain ⟨k',s',m',l'⟩:=b;exact ⟨I4,_,by simp [Fo];rfl,.inr (by simp)⟩
 | check c hc=>exact ⟨Dp,_,by simp [Fo];rfl,.inr (by simp)⟩
 | skip=>exact ⟨F3,_,by simp [Fo];rfl,.inr (by simp)⟩
 | stop=>exact ⟨Gf,_,by simp [Fo];rfl,.inr (by simp)⟩
theorem X8 {l:List Nd}(hf:∀ x,x∈l→FS x)(h:∀ x,x∈l→RdS x):RdL l:=by
 induction l with
 | nil =>
   intro f r acc xs hf hc ha hx
   have ha':At r xs:=by simpa [Gg] using ha
   refine ⟨r,?_,ha'⟩
   cases f with
   | zero=>simp [Cm]
   | succ f =>
     rw [Cm,if_neg,List.append_nil]
     rcases hx with rfl | hx
     ·simp;intro _ h;have:=ha'.ge;omega
     ·rw [ha'.text,hx];simp
 | cons x l ih =>
   intro f r acc xs hfu hc ha hx
   simp only [Ar] at hfu hc
   obtain ⟨g,rfl⟩:∃ g,f=g+1:=⟨f-1,by omega⟩
   have ha':At r (Fo x++(Gg l++xs)):=by simpa [Gg] using ha
   have hne:Io (Gg l++xs)≠Fw:=by
    cases l with
    | nil =>
      simp only [Gg,List.nil_append]
      rcases hx with rfl | hx
      ·simp [Io]
      ·rw [hx];decide
    | cons y l =>
      obtain ⟨s,t,e,hb⟩:=Sf (hf y (by simp))
      simp only [Gg,e,Io]
      exact (T7 hb).2.1
   obtain ⟨r1,e1,a1⟩:=h x (by simp) g r _ (by omega) (by omega) ha' hne
   obtain ⟨r2,e2,a2⟩:=ih (fun y hy=>hf y (by simp [hy])) (fun y hy=>h y (by simp [hy])) g r1 (acc++[x]) xs (by have:=T9 x;omega) (by omega) a1 hx
   refine ⟨r2,?_,a2⟩
   obtain ⟨s,t,e,hb⟩:=Sf (hf x (by simp))
   have has:At r (s::(t++(Gg l++xs))):=by rw [e] at ha';simpa using ha'
   rw [Cm,if_pos,e1]
   ·simp only;rw [e2];simp
   ·have:=(T7 hb).1
    rw [has.text]
    simp [has.good,has.lt,Io,this]
theorem X7 {l:List Nd}(hl:RdL l){f:Nat}{r:RS}{xs:List (List UInt8)}(hf:3*Ar l+2≤f)(hc:Ar l≤500)(ha:At r ([123]::(Gg l++[125]::xs))):∃ r',Bs f r=(.mk 30 [] 0 l,r')∧At r' xs:=by
 obtain ⟨g,rfl⟩:∃ g,f=g+1:=⟨f-1,by omega⟩
 obtain ⟨r1,e1,a1⟩:=hl g r.step [] ([125]::xs) (by omega) hc ha.step (.inr rfl)
 refine ⟨r1.step,?_,a1.step⟩
 rw [Bs,ha.need,e1]
 simp [a1.need]
theorem Kz {s:List UInt8}{xs:List (List UInt8)}(h:s∈[[93],[59],[123],V2]:=by decide):Stop (s::xs):=by
 have:∀ s,s∈[[93],[59],[123],V2]→s≠[91]∧s≠[42]∧s≠[43]∧s≠[45]:=by decide
 exact this s h
theorem Ij {f:Nat}{r:RS}{s:List UInt8}{xs:List (List UInt8)}(ha:At r (s::xs))(h1:s≠Q6)(h2:s≠Dx)(h3:s≠I4):B6 (f+1) r=((Bw r).1,(Bw r).2.need [59]):=by
 rw [B6,if_neg (by simp [ha.no (s:=Q6) h1]),if_neg (by simp [ha.no (s:=Dx) h2]),if_neg (by simp [ha.no (s:=I4) h3])]
theorem Yi {r:RS}{s:List UInt8}{xs:List (List UInt8)}(ha:At r (s::xs))(hn:nameS s=true):Bw r=Nc r:=by
 rw [Bw,if_neg (by simp [ha.no (s:=Dp) (Fb hn _)]),if_neg (by simp [ha.no (s:=Fx) (Fb hn _)]),if_neg (by simp [ha.no (s:=F3) (Fb hn _)]),if_neg (by simp [ha.no (s:=Gf) (Fb hn _)])]
theorem Auv {x:Nd}(h:FS x):RdS x:=by
 induction h with
 | set s a h fa =>
   intro f r xs hf hc ha _
   have hcc:Ai (Nd.mk 21 s 0 [a])=1+Ai a:=by simp [Ai,Ar]
   obtain ⟨g,rfl⟩:∃ g,f=g+1:=⟨f-1,by omega⟩
   have ha':At r (s::[61]::(Cf a++[59]::xs)):=by simpa [Fo] using ha
   obtain ⟨_,n2,n3⟩:=ha'.named h
   obtain ⟨r1,e1,a1⟩:=G2 fa (by omega) ha'.step.step Kz
   refine ⟨r1.step,?_,a1.step⟩
   rw [Ij ha' (Fb h _) (Fb h _) (Fb h _),Yi ha' h,Nc,n3,if_neg (by simp [ha'.step.no (s:=[91]) (by simp [Io])]),ha'.step.need,e1,n2]
   simp [a1.need]
 | put s a b h fa fb =>
   intro f r xs hf hc ha _
   have hcc:Ai (Nd.mk 22 s 0 [a,b])=1+(Ai a+Ai b):=by simp [Ai,Ar]
   obtain ⟨g,rfl⟩:∃ g,f=g+1:=⟨f-1,by omega⟩
   have ha':At r (s::[91]::(Cf a++[93]::[61]::(Cf b++[59]::xs))):=by
    obtain ⟨k',s',m',l'⟩:=b
    simpa [Fo] using ha
   obtain ⟨_,n2,n3⟩:=ha'.named h
   obtain ⟨r1,e1,a1⟩:=G2 fa (by omega) ha'.step.step Kz
   obtain ⟨r2,e2,a2⟩:=G2 fb (by omega) a1.step.step Kz
   refine ⟨r2.step,?_,a2.step⟩
   rw [Ij ha' (Fb h _) (Fb h _) (Fb h _),Yi ha' h,Nc,n3,if_pos ha'.step.yes,e1]
   simp only
   rw [a1.need,a1.step.need,e2,n2]
   simp [a2.need]
 | read s h =>
   intro f r xs hf hc ha _
   have:=T9 (Nd.mk 23 s 0 [])
   obtain ⟨g,rfl⟩:∃ g,f=g+1:=⟨f-1,by omega⟩
   have ha':At r (Fx::s::[59]::xs):=by simpa [Fo] using ha
   obtain ⟨_,n2,n3⟩:=ha'.step.named h
   refine ⟨r.step.step.step,?_,ha'.step.step.step⟩
   rw [Ij ha' (by decide) (by decide) (by decide),Bw,if_neg (by simp [ha'.no (s:=Dp) (by simp [Io])]),if_pos ha'.yes,n2,n3]
   simp [ha'.step.step.need]
 | ifs c l l' hc hl hl' ihl ihl' =>
   intro f r xs hf hcn ha hx
   have hcc:Ai (Nd.mk 24 [] 0 [c,.mk 30 [] 0 l,.mk 30 [] 0 l'])=1+(Ai c+(1+Ar l+(1+Ar l'))):=by simp [Ai,Ar]
   obtain ⟨g,rfl⟩:∃ g,f=g+1:=⟨f-1,by omega⟩
   have L:=X8 hl ihl
   have L':=X8 hl' ihl'
   cases l' with
   | nil =>
     have ha':At r (Q6::(Cf c++([123]::(Gg l++[125]::xs)))):=by simpa [Fo] using ha
     obtain ⟨r1,e1,a1⟩:=Lx hc (by omega) ha'.step Kz
     obtain ⟨r2,e2,a2⟩:=X7 L (f:=g) (by omega) (by omega) a1
     refine ⟨r2,?_,a2⟩
     rw [B6,if_pos ha'.yes,e1]
     simp only
     rw [e2]
     simp only
     rw [if_neg (by simp [a2.no hx])]
   | cons y l' =>
     have ha':At r (Q6::(Cf c++([123]::(Gg l++[125]::(Fw::[123]::(Gg (y::l')++[125]::xs)))))):=by simpa [Fo] using ha
     obtain ⟨r1,e1,a1⟩:=Lx hc (by omega) ha'.step Kz
     obtain ⟨r2,e2,a2⟩:=X7 L (f:=g) (by omega) (by omega) a1
     obtain ⟨r3,e3,a3⟩:=X7 L' (f:=g) (by omega) (by omega) a2.step
     refine ⟨r3,?_,a3⟩
     rw [B6,if_pos ha'.yes,e1]
     simp only
     rw [e2]
     simp only
     rw [if_pos a2.yes,e3]
 | whil c l hc hl ihl =>
   intro f r xs hf hcn ha hx
   have hcc:Ai (Nd.mk 25 [] 0 [c,.mk 30 [] 0 l])=1+(Ai c+(1+Ar l)):=by simp [Ai,Ar]
   obtain ⟨g,rfl⟩:∃ g,f=g+1:=⟨f-1,by omega⟩
   have ha':At r (Dx::(Cf c++([123]::(Gg l++[125]::xs)))):=by simpa [Fo] using ha
   obtain ⟨r1,e1,a1⟩:=Lx hc (by omega) ha'.step Kz
   obtain ⟨r2,e2,a2⟩:=X7 (X8 hl ihl) (f:=g) (by omega) (by omega) a1
   refine ⟨r2,?_,a2⟩
   rw [B6,if_neg (by simp [ha'.no (s:=Q6) (by simp [Io])]),if_pos ha'.yes,e1]
   simp only
   rw [e2]
 | for_ s a b l h fa fb hl ihl =>
   intro f r xs hf hcn ha hx
   have hcc:Ai (Nd.mk 26 s 0 [a,b,.mk 30 [] 0 l])=1+(Ai a+(Ai b+(1+Ar l))):=by simp [Ai,Ar]
   obtain ⟨g,rfl⟩:∃ g,f=g+1:=⟨f-1,by omega⟩
   have ha':At r (I4::s::Gw::(Cf a++(V2::(Cf b++([123]::(Gg l++[125]::xs)))))):=by
    obtain ⟨k',s',m',l'⟩:=b
    simpa [Fo] using ha
   obtain ⟨_,n2,n3⟩:=ha'.step.named h
   have eA:S7 r.step=r.step.step.step:=by rw [S7,n3,ha'.step.step.need]
   obtain ⟨r1,e1,a1⟩:=G2 fa (by omega) ha'.step.step.step Kz
   have eB:Uh r.step=r1.step:=by rw [Uh,eA,e1];exact a1.need
   obtain ⟨r2,e2,a2⟩:=G2 fb (by omega) a1.step Kz
   obtain ⟨r3,e3,a3⟩:=X7 (X8 hl ihl) (f:=g) (by omega) (by omega) a2
   refine ⟨r3,?_,a3⟩
   rw [B6,if_neg (by simp [ha'.no (s:=Q6) (by simp [Io])]),if_neg (by simp [ha'.no (s:=Dx) (by simp [Io])]),if_pos ha'.yes,eA,eB,e1,e2,n2]
   simp only
   rw [e3]
 | check c hc =>
   intro f r xs hf hcn ha _
   have hcc:Ai (Nd.mk 27 [] 0 [c])=1+Ai c:=by simp [Ai,Ar]
   obtain ⟨g,rfl⟩:∃ g,f=g+1:=⟨f-1,by omega⟩
   have ha':At r (Dp::(Cf c++[59]::xs)):=by simpa [Fo] using ha
   obtain ⟨r1,e1,a1⟩:=Lx hc (by omega) ha'.step Kz
   refine ⟨r1.step,?_,a1.step⟩
   rw [Ij ha' (by decide) (by decide) (by decide),Bw,if_pos ha'.yes,e1]
   simp [a1.need]
 | skip =>
   intro f r xs hf hcn ha _
   have:=T9 (Nd.mk 28 [] 0 [])
   obtain ⟨g,rfl⟩:∃ g,f=g+1:=⟨f-1,by omega⟩
   have ha':At r (F3::[59]::xs):=by simpa [Fo] using ha
   refine ⟨r.step.step,?_,ha'.step.step⟩
   rw [Ij ha' (by decide) (by decide) (by decide),Bw,if_neg (by simp [ha'.no (s:=Dp) (by simp [Io])]),if_neg (by simp [ha'.no (s:=Fx) (by simp [Io])]),if_pos ha'.yes]
   simp [ha'.step.need]
 | stop =>
   intro f r xs hf hcn ha _
   have:=T9 (Nd.mk 29 [] 0 [])
   obtain ⟨g,rfl⟩:∃ g,f=g+1:=⟨f-1,by omega⟩
   have ha':At r (Gf::[59]::xs):=by simpa [Fo] using ha
   refine ⟨r.step.step,?_,ha'.step.step⟩
   rw [Ij ha' (by decide) (by decide) (by decide),Bw,if_neg (by simp [ha'.no (s:=Dp) (by simp [Io])]),if_neg (by simp [ha'.no (s:=Fx) (by simp [Io])]),if_neg (by simp [ha'.no (s:=F3) (by simp [Io])]),if_pos ha'.yes]
   simp [ha'.step.need]
theorem Acu {d:Nd}(h:FV d){r:RS}{xs:List (List UInt8)}(ha:At r (Fo d++xs)):Ep r=true∧(Gq r).1=d∧At ((Gq r).2.need [59]) xs:=by
 cases h with
 | var s h =>
   have ha':At r (Kg::s::[59]::xs):=by simpa [Fo] using ha
   obtain ⟨_,n2,n3⟩:=ha'.step.named h
   refine ⟨by simp [Ep,ha'.yes],?_⟩
   rw [Gq,if_pos ha'.yes,n2,n3]
   simp only
   rw [ha'.step.step.need]
   refine ⟨?_,ha'.step.step.step⟩
   first | trivial | rfl
 | arr s m h h0 h1 =>
   have ha':At r (Dd::s::[91]::(if 0≤m then Hh m.toNat else [63])::[93]::[59]::xs):=by simpa [Fo] using ha
   obtain ⟨_,n2,n3⟩:=ha'.step.named h
   refine ⟨by simp [Ep,ha'.yes],?_⟩
   have hz:Fy r.step.step.step=(m,r.step.step.step.step):=by
    have a3:=ha'.step.step.step
    unfold Fy
    by_cases g:0≤m
    ·rw [if_pos g] at a3
     have hm:m.toNat≤1000000:=by omega
     have hk:r.step.step.step.kind=2:=by rw [a3.kind,(Mv _ hm).2]
     rw [if_pos (by simp [a3.good,hk]),a3.text]
     simp only [Io,List.headD_cons]
     rw [L4 _ hm]
     congr 1;omega
    ·rw [if_neg g] at a3
     have hk:B9 [63]≠2:=by decide
     rw [if_neg (by simp [a3.kind,hk]),a3.need]
     congr 1;omega
   rw [Gq,if_neg (by simp [ha'.no (s:=Kg) (by simp [Io])]),n2,n3,ha'.step.step.need,hz]
   simp only
   rw [ha'.step.step.step.step.need,ha'.step.step.step.step.step.need]
   refine ⟨?_,ha'.step.step.step.step.step.step⟩
   first | trivial | rfl
theorem Sv:∀ (ds:List Nd)(f:Nat)(acc:List Nd)(r:RS)(xs:List (List UInt8)),(∀ x,x∈ds→FV x)→ds.length≤f→At r (Gg ds++xs)→Io xs≠Kg→Io xs≠Dd→∃ r',C4 f acc r=(acc++ds,r')∧At r' xs
 | [],f,acc,r,xs,hd,hf,ha,h1,h2=>by
   have ha':At r xs:=by simpa [Gg] using ha
   refine ⟨r,?_,ha'⟩
   cases f with
   | zero=>simp [C4]
   | succ f=>rw [C4,if_neg (by simp [Ep,ha'.no h1,ha'.no h2]),List.append_nil]
 | d::ds,f,acc,r,xs,hd,hf,ha,h1,h2=>by
   simp at hf
   obtain ⟨g,rfl⟩:∃ g,f=g+1:=⟨f-1,by omega⟩
   have ha':At r (Fo d++(Gg ds++xs)):=by simpa [Gg] using ha
   obtain ⟨e1,e2,a1⟩:=Acu (hd d (by simp)) ha'
   obtain ⟨r',e3,a2⟩:=Sv ds g (acc++[d]) _ xs (fun x hx=>hd x (by simp [hx])) (by omega) a1 h1 h2
   refine ⟨r',?_,a2⟩
   rw [C4,if_pos e1,e2,e3];simp
theorem Adq {ds l:List Nd}(hd:∀ x,x∈ds→FV x)(hl:∀ x,x∈l→FS x)(hc:Ar ds+Ar l≤500){r:RS}(ha:At r (Gg ds++Gg l)):(Ct r).1=.mk 40 [] 0 (ds++[.mk 30 [] 0 l])∧(Ct r).2.bad=false:=by
 have h12:Io (Gg l)≠Kg∧Io (Gg l)≠Dd:=by
  cases l with
  | nil=>simp [Gg,Io]
  | cons y l =>
    obtain ⟨s,t,e,hb⟩:=Sf (hl y (by simp))
    simp only [Gg,e,Io]
    exact (T7 hb).2.2
 have hdl:=Bc ds
 obtain ⟨r1,e1,a1⟩:=Sv ds 2000 [] r (Gg l) hd (by omega) ha h12.1 h12.2
 obtain ⟨r2,e2,a2⟩:=X8 hl (fun x hx=>Auv (hl x hx)) 5000 r1 [] [] (by omega) (by omega) (by simpa using a1) (.inl rfl)
 have ee:r2.ends=r2:=by rw [RS.ends,if_neg (by have:=a2.ge;omega)]
 unfold Ct
 rw [e1]
 simp only
 rw [e2]
 simp only [List.nil_append]
 rw [ee]
 refine ⟨?_,a2.good⟩
 first | trivial | rfl
theorem Afm {n:Nd}(h:FP n)(hc:Ai n≤500)(h0:(C6 (Hi n)).2.1=0):(C6 (Hi n)).1=n:=by
 cases h with
 | mk ds l hd hl =>
   have hcn:Ai (Nd.mk 40 [] 0 (ds++[.mk 30 [] 0 l]))=1+(Ar ds+(1+Ar l)):=by simp [Ai,Jv,Ar]
   have hw:(B0 (Hi (.mk 40 [] 0 (ds++[.mk 30 [] 0 l])))).2.1=0:=by
    unfold C6 at h0
    split at h0
    ·assumption
    ·exact h0
   have hlex:=Axd hd hl
   rw [Ob ds,← X2 ds l] at hlex
   have hws:=Ai3 hlex hw
   have hat:At (rs0 (Hi (.mk 40 [] 0 (ds++[.mk 30 [] 0 l])))) (Gg ds++Gg l):=⟨rfl,Aca _,by simp [rs0,hws]⟩
   obtain ⟨e1,e2⟩:=Adq hd hl (by omega) hat
   unfold C6 at h0 ⊢
   rw [if_pos hw,if_neg (by simp [e2])] at h0 ⊢
   split at h0
   ·simp at h0
   ·rename_i hg
    rw [if_neg hg]
    exact e1
def Qz (k:Int)(s:List UInt8)(m:Int)(c:List (Int × I7)):I7 :=
 if k=31 then [Kg,s]
 else if k=32 then [Dd,s,[91],if m=-1 then [63] else Lib.itoa m,[93]]
 else if k=21 then [s,[61]]++eW c 0
 else if k=22 then [s,[91]]++eW c 0++[[93],[61]]++eW c 1
 else if k=23 then [Fx,s]
 else if k=27 then [Dp]++eW c 0
 else if k=28 then [F3]
 else [Gf]
def bT (b:List (List UInt8 × Bool))(i:Nat):List UInt8:=(b.getD i ([],false)).1
def bQ' (b:List (List UInt8 × Bool))(i:Nat):Bool:=(b.getD i ([],false)).2
def Kk (k:Int):Bool:=k==31||k==32||k==21||k==22||k==23||k==27||k==28||k==29
def cpT (k:Int)(s:List UInt8)(c:List (Int × I7))(b:List (List UInt8 × Bool))(h:Nat):List UInt8 :=
 if k=24 then Cu ([Q6]++eW c 0++[[123]]) h++bT b 1++(if bQ' b 2 then Cu [[125],Fw,[123]] h++bT b 2 else [])++Cu [[125]] h
 else if k=25 then Cu ([Dx]++eW c 0++[[123]]) h++bT b 1++Cu [[125]] h
 else if k=26 then Cu ([I4,s,Gw]++eW c 0++[V2]++eW c 1++[[123]]) h++bT b 2++Cu [[125]] h
 else Cu [] h
def Ra (k:Int)(s:List UInt8)(m:Int)(c:List (Int × I7))(b:List (List UInt8 × Bool))(h:Nat):List UInt8 :=
 if Kk k then Cu (Qz k s m c++[[59]]) h else cpT k s c b h
mutual
def Es:Nd→Nat→List UInt8
 | .mk k s m ks,h=>Ra k s m (Bh ks) (Gt ks h) h
def Gt:List Nd→Nat→List (List UInt8 × Bool)
 | [],_=>[]
 | x::l,h=>Vi x h::Gt l h
def Vi:Nd→Nat→List UInt8 × Bool
 | .mk _ _ _ l,h=>(Hp l (h+1),!l.isEmpty)
def Hp:List Nd→Nat→List UInt8
 | [],_=>[]
 | x::l,h=>Es x h++Hp l h
end
def R6 (n:Nd):List UInt8:=Hp n.kids.dropLast 0++Hp (n.kids.getLastD Ca).kids 0
def Rz (a:List UInt8):List UInt8:=if has I1 a then [] else [32]
theorem Pp {a:List UInt8}(h:has I1 a=false)(us:I7):Ee a us=Ee [] us:=by
 have h0:has I1 []=false:=by decide
 cases us with
 | nil=>rfl
 | cons b us=>simp [Ee,O7,h,h0]
structure PW (b:List UInt8):Prop where
 c:has Iu b=false
 o:has I1 b=false
 t:Hk b [32]=b
theorem PW.flat {b:List UInt8}(h:PW b)(a:List UInt8)(us:I7):Ee a (b::us)=Rz a++(b++Ee [] us):=by
 simp only [Ee,O7,h.c,h.t,Pp h.o,Rz,Bool.false_or]
 split<;>simp
theorem Aj9 {c:UInt8}{l:List UInt8}(h:c≠32):Hk (c::l) [32]=c::l:=by
 have:M7 (c::l) [32]=false:=by simp [M7,h]
 simp [Hk,this]
theorem PW.of_kind {b:List UInt8}(h:B9 b=1∨B9 b=2):PW b:=by
 have no:∀ l:List (List UInt8),(∀ x,x∈l→B9 x≠1∧B9 x≠2)→has l b=false:=by
  intro l hl
  simp only [has,List.any_eq_false]
  intro x hx he
  have:=beq_iff_eq.1 he
  subst this
  have:=hl _ hx
  omega
 refine ⟨no _ (by decide),no _ (by decide),?_⟩
 cases b with
 | nil=>simp [Qp] at h
 | cons c l=>exact Aj9 (Xl (by rcases h with h | h<;>rw [h]<;>decide)).1
theorem PW.name {s:List UInt8}(h:nameS s=true):PW s:=.of_kind (.inl (G4 h).2)
theorem PW.num {m:Nat}(h:m≤1000000):PW (Hh m):=.of_kind (.inr (Mv m h).2)
theorem PW.of {b:List UInt8}(h:b∈([[43],[45],[42],[61],[63],[123],[125],Q6,Fw,Dx,I4,Gw,V2,Dp,Fx,F3,Gf,Kg,Dd]:I7)++La):PW b:=by
 have:∀ b,b∈([[43],[45],[42],[61],[63],[123],[125],Q6,Fw,Dx,I4,Gw,V2,Dp,Fx,F3,Gf,Kg,Dd]:I7)++La→has Iu b=false∧has I1 b=false∧Hk b [32]=b:=by decide
 obtain ⟨h1,h2,h3⟩:=this b h
 exact ⟨h1,h2,h3⟩
theorem N3 (a:List UInt8)(us:I7):Ee a ([59]::us)=59::Ee [] us:=by
 rw [Ee,Pp (by decide)];simp [O7,show has Iu [59]=true by decide,show Hk [59] [32]=[59] by decide]
theorem Aa8 (a:List UInt8)(us:I7):Ee a ([93]::us)=93::Ee [] us:=by
 rw [Ee,Pp (by decide)];simp [O7,show has Iu [93]=true by decide,show Hk [93] [32]=[93] by decide]
theorem Alj (a:List UInt8)(us:I7):Ee a ([41]::us)=41::Ee [] us:=by
 rw [Ee,Pp (by decide)];simp [O7,show has Iu [41]=true by decide,show Hk [41] [32]=[41] by decide]
theorem Aa7 (a:List UInt8)(us:I7):Ee a ([91]::us)=91::Ee [91] us:=by
 rw [Ee];simp [O7,show has Iu [91]=true by decide,show Hk [91] [32]=[91] by decide]
theorem Agk {b t:List UInt8}(h:has Iu b=false)(ht:Hk b [32]=t)(a:List UInt8)(us:I7):Ee a (b::us)=Rz a++(t++Ee b us):=by
 simp only [Ee,O7,h,ht,Rz,Bool.false_or]
 split<;>simp
def FlatP (w:I7)(t:List UInt8):Prop:=∀ (a:List UInt8)(us:I7),Ee a (w++us)=Rz a++(t++Ee [] us)
theorem FlatP.par {w:I7}{t:List UInt8}(h:FlatP w t):FlatP ([[40]]++w++[[41]]) ([40]++t++[41]):=by
 intro a us
 have e:[[40]]++w++[[41]]++us=[40]::(w++([41]::us)):=by simp
 rw [e,Agk (t:=[40]) (by decide) (by decide),h,Alj,show Rz [40]=[] by decide]
 simp
theorem FlatP.in1 {w:I7}{t:List UInt8}(h:FlatP w t)(k:Int):FlatP (Lu true false k w) (I5 2 k t):=by
 by_cases hk:k=6∨k=7
 ·have e1:Lu true false k w=[[40]]++w++[[41]]:=by unfold Lu;rw [if_pos (by simpa using hk)]
  have e2:I5 2 k t=[40]++t++[41]:=by unfold I5 I3;rw [if_pos (by simp [hk])]
  rw [e1,e2];exact h.par
 ·have e1:Lu true false k w=w:=by unfold Lu;rw [if_neg (by simpa using hk)]
  have e2:I5 2 k t=t:=by unfold I5 I3;rw [if_neg (by rw [if_neg hk];split<;>omega)]
  rw [e1,e2];exact h
theorem FlatP.in2 {w:I7}{t:List UInt8}(h:FlatP w t)(k:Int):FlatP (Lu true true k w) (I5 3 k t):=by
 by_cases hk:(k=6∨k=7)∨k=8
 ·have e1:Lu true true k w=[[40]]++w++[[41]]:=by unfold Lu;rw [if_pos (by simpa using hk)]
  have e2:I5 3 k t=[40]++t++[41]:=by
   unfold I5 I3
   rw [if_pos]
   rcases hk with hk | hk
   ·rw [if_pos hk];omega
   ·rw [if_neg (by omega),if_pos hk];omega
  rw [e1,e2];exact h.par
 ·have e1:Lu true true k w=w:=by unfold Lu;rw [if_neg (by simpa using hk)]
  have e2:I5 3 k t=t:=by unfold I5 I3;rw [if_neg (by rw [if_neg (by omega),if_neg (by omega)];omega)]
  rw [e1,e2];exact h
theorem FlatP.two {w w':I7}{t t':List UInt8}(h:FlatP w t)(h':FlatP w' t'){c:List UInt8}(hc:PW c):FlatP (w++[c]++w') (t++[32]++c++[32]++t'):=by
 intro a us
 have e:w++[c]++w'++us=w++(c::(w'++us)):=by simp
 rw [e,h,hc.flat,h',show Rz []=[32] by decide]
 simp
theorem Xc {n:Nd}(h:FE n):FlatP (Ap n) (Bd n):=by
 induction h with
 | num m h0 h1 =>
   intro a us
   have e:Ap (.mk 1 [] m [])=[Hh m.toNat]:=by
    have:Lib.itoa m=Hh m.toNat:=by
     obtain ⟨u,rfl⟩:∃ u:Nat,m=u:=⟨m.toNat,by omega⟩
     rw [Lib.itoa_nonneg,Ub];rfl
    simp [Ap,Dr,this]
   rw [e]
   simp only [Bd,if_true,List.cons_append,List.nil_append]
   exact (PW.num (by omega)).flat a us
 | var s h =>
   intro a us
   have e:Ap (.mk 2 s 0 [])=[s]:=by simp [Ap,Dr]
   rw [e]
   simp only [Bd,List.cons_append,List.nil_append]
   exact (PW.name h).flat a us
 | cell s x h ha ih =>
   intro a us
   have e:Ap (.mk 3 s 0 [x])++us=s::[91]::(Ap x++([93]::us)):=by simp [Ap,Dr,Bh,eW]
   rw [e,(PW.name h).flat,Aa7,ih,Aa8,show Rz [91]=[] by decide]
   simp [Bd]
 | len s h =>
   intro a us
   have e:Ap (.mk 4 s 0 [])++us=[108,101,110]::[40]::s::[41]::us:=by simp [Ap,Dr]
   rw [e,Agk (t:=[108,101,110]) (by decide) (by decide),Agk (t:=[40]) (by decide) (by decide),(PW.name h).flat,Alj,show Rz [40]=[] by decide,show Rz [108,101,110]=[] by decide]
   simp [Bd]
 | neg x ha ih =>
   intro a us
   have e:Ap (.mk 5 [] 0 [x])++us=[32,45]::(Lu true true x.kind (Ap x)++us):=by simp [Ap,Dr,Bh,iW]
   rw [e,Agk (t:=[45]) (by decide) (by decide),ih.in2 x.kind,show Rz [32,45]=[] by decide]
   simp [Bd]
 | two k x y hk ha hb iha ihb =>
   have p1:I5 1 x.kind (Bd x)=Bd x:=by
    unfold I5 I3
    rw [if_neg]
    split<;>(try split)<;>omega
   rcases hk with rfl | rfl | rfl
   ·have e:Ap (.mk 6 [] 0 [x,y])=Ap x++[[43]]++Lu true false y.kind (Ap y):=by simp [Ap,Dr,Bh,iW,eW]
    have:=iha.two (ihb.in1 y.kind) (c:=[43]) (.of (by decide))
    rw [e]
    simpa [Bd,p1] using this
   ·have e:Ap (.mk 7 [] 0 [x,y])=Ap x++[[45]]++Lu true false y.kind (Ap y):=by simp [Ap,Dr,Bh,iW,eW]
    have:=iha.two (ihb.in1 y.kind) (c:=[45]) (.of (by decide))
    rw [e]
    simpa [Bd,p1] using this
   ·have e:Ap (.mk 8 [] 0 [x,y])=Lu true false x.kind (Ap x)++[[42]]++Lu true true y.kind (Ap y):=by simp [Ap,Dr,Bh,iW,eW]
    have:=(iha.in1 x.kind).two (ihb.in2 y.kind) (c:=[42]) (.of (by decide))
    rw [e]
    simpa [Bd] using this
theorem Alk {n:Nd}(h:FC n):FlatP (Ap n) (Bd n):=by
 cases h with
 | mk k x y h0 h1 ha hb =>
   have ne:¬ k=1∧¬ k=2∧¬ k=3∧¬ k=4∧¬ k=5∧¬ k=6∧¬ k=7∧¬ k=8:=by omega
   obtain ⟨n1,n2,n3,n4,n5,n6,n7,n8⟩:=ne
   have e:Ap (.mk k [] 0 [x,y])=Ap x++[P4 k]++Ap y:=by simp [Ap,Dr,Bh,eW,n1,n2,n3,n4,n5,n6,n7,n8,h0,h1]
   have:=(Xc ha).two (Xc hb) (c:=P4 k) (.of (List.mem_append_right _ (U4 k)))
   rw [e]
   simpa [Bd,n6,n7,n8] using this
theorem Tn (h:Nat):List.replicate (2*h) (32:UInt8)++[32,32]=List.replicate (2*(h+1)) 32:=by
 rw [show 2*(h+1)=2*h+2 by omega,← List.replicate_append_replicate];rfl
theorem K6 {l:List Nd}{h:Nat}{p:List UInt8}(hx:∀ x,x∈l→Es x h=Br x p):Hp l h=Fp l p:=by
 induction l with
 | nil=>simp [Hp,Fp]
 | cons x l ih=>simp [Hp,Fp,hx x (by simp),ih fun y hy=>hx y (by simp [hy])]
theorem Alm {b:List UInt8}(h:PW b)(us:I7):L1 (b::us)=b++Ee [] us:=by rw [L1,h.t,Pp h.o]
theorem E8 {a:List UInt8}:Ee a []=[]:=rfl
abbrev Am1 (h:Nat):List UInt8:=List.replicate (2*h) 32
theorem Fa {b:List UInt8}(h:PW b)(us:I7)(g:Nat):Cu (b::us) g=Am1 g++(b++(Ee [] us++[10])):=by rw [Cu,Alm h];simp
theorem g0:Rz []=[32]:=by decide
theorem U0 (h:Nat):Cu [[125]] h=Am1 h++[125,10]:=by
 rw [Fa (.of (by decide)),E8];simp
theorem Aml (h:Nat):Cu [[125],Fw,[123]] h=Am1 h++([125,32]++Fw++[32,123,10]):=by
 rw [Fa (.of (by decide)),(PW.of (b:=Fw) (by decide)).flat,(PW.of (b:=[123]) (by decide)).flat,E8,g0];simp
theorem Axj {x:Nd}(hx:FV x)(h:Nat):Es x h=Br x (Am1 h):=by
 cases hx with
 | var s hs =>
   have e:Es (.mk 31 s 0 []) h=Cu (Kg::s::[[59]]) h:=by simp [Es,Ra,Kk,Qz]
   rw [e,Fa (.of (by decide)),(PW.name hs).flat,N3,E8,g0]
   simp [Br]
 | arr s m hs h0 h1 =>
   by_cases g:0≤m
   ·have em:¬ m=-1:=by omega
    have ei:Lib.itoa m=Hh m.toNat:=by
     obtain ⟨u,rfl⟩:∃ u:Nat,m=u:=⟨m.toNat,by omega⟩
     rw [Lib.itoa_nonneg,Ub];rfl
    have e:Es (.mk 32 s m []) h=Cu (Dd::s::[91]::Hh m.toNat::[93]::[[59]]) h:=by simp [Es,Ra,Kk,Qz,em,ei]
    rw [e,Fa (.of (by decide)),(PW.name hs).flat,Aa7,(PW.num (by omega)).flat,Aa8,N3,E8,g0,show Rz [91]=[] by decide]
    simp [Br,g]
   ·have em:m=-1:=by omega
    have e:Es (.mk 32 s m []) h=Cu (Dd::s::[91]::[63]::[93]::[[59]]) h:=by simp [Es,Ra,Kk,Qz,em]
    rw [e,Fa (.of (by decide)),(PW.name hs).flat,Aa7,(PW.of (b:=[63]) (by decide)).flat,Aa8,N3,E8,g0,show Rz [91]=[] by decide]
    simp [Br,g]
theorem Awf {x:Nd}(hx:FS x):∀ h:Nat,Es x h=Br x (Am1 h):=by
 induction hx with
 | set s a hs ha =>
   intro h
   have e:Es (.mk 21 s 0 [a]) h=Cu (s::[61]::(Ap a++[[59]])) h:=by simp [Es,Ra,Kk,Qz,Bh,eW]
   rw [e,Fa (.name hs),(PW.of (b:=[61]) (by decide)).flat,Xc ha,N3,E8,g0]
   simp [Br]
 | put s a b hs ha hb =>
   intro h
   have e:Es (.mk 22 s 0 [a,b]) h=Cu (s::[91]::(Ap a++([93]::[61]::(Ap b++[[59]])))) h:=by simp [Es,Ra,Kk,Qz,Bh,eW]
   rw [e,Fa (.name hs),Aa7,Xc ha,Aa8,(PW.of (b:=[61]) (by decide)).flat,Xc hb,N3,E8,g0,show Rz [91]=[] by decide]
   obtain ⟨k',s',m',l'⟩:=b
   simp [Br]
 | read s hs =>
   intro h
   have e:Es (.mk 23 s 0 []) h=Cu (Fx::s::[[59]]) h:=by simp [Es,Ra,Kk,Qz]
   rw [e,Fa (.of (by decide)),(PW.name hs).flat,N3,E8,g0]
   simp [Br]
 | ifs c l l' hc hl hl' ihl ihl' =>
   intro h
   have e:Es (.mk 24 [] 0 [c,.mk 30 [] 0 l,.mk 30 [] 0 l']) h=Cu (Q6::(Ap c++[[123]])) h++Hp l (h+1)++(if !l'.isEmpty then Cu [[125],Fw,[123]] h++Hp l' (h+1) else [])++Cu [[125]] h:=by
    simp [Es,Ra,Kk,cpT,Bh,eW,Gt,Vi,bT,bQ']
   have h1:=K6 (l:=l) (h:=h+1) fun x hx=>ihl x hx (h+1)
   have h2:=K6 (l:=l') (h:=h+1) fun x hx=>ihl' x hx (h+1)
   rw [e,h1,h2,Fa (.of (by decide)),Alk hc,(PW.of (b:=[123]) (by decide)).flat,E8,g0,U0,Aml]
   cases l' with
   | nil=>simp [Br,Tn]
   | cons y l'=>simp [Br,Tn]
 | whil c l hc hl ihl =>
   intro h
   have e:Es (.mk 25 [] 0 [c,.mk 30 [] 0 l]) h=Cu (Dx::(Ap c++[[123]])) h++Hp l (h+1)++Cu [[125]] h:=by
    simp [Es,Ra,Kk,cpT,Bh,eW,Gt,Vi,bT]
   have h1:=K6 (l:=l) (h:=h+1) fun x hx=>ihl x hx (h+1)
   rw [e,h1,Fa (.of (by decide)),Alk hc,(PW.of (b:=[123]) (by decide)).flat,E8,g0,U0]
   simp [Br,Tn]
 | for_ s a b l hs ha hb hl ihl =>
   intro h
   have e:Es (.mk 26 s 0 [a,b,.mk 30 [] 0 l]) h=Cu (I4::s::Gw::(Ap a++(V2::(Ap b++[[123]])))) h++Hp l (h+1)++Cu [[125]] h:=by
    simp [Es,Ra,Kk,cpT,Bh,eW,Gt,Vi,bT]
   have h1:=K6 (l:=l) (h:=h+1) fun x hx=>ihl x hx (h+1)
   rw [e,h1,Fa (.of (by decide)),(PW.name hs).flat,(PW.of (b:=Gw) (by decide)).flat,Xc ha,(PW.of (b:=V2) (by decide)).flat,Xc hb,(PW.of (b:=[123]) (by decide)).flat,E8,g0,U0]
   obtain ⟨k',s',m',l'⟩:=b
   simp [Br,Tn]
 | check c hc =>
   intro h
   have e:Es (.mk 27 [] 0 [c]) h=Cu (Dp::(Ap c++[[59]])) h:=by simp [Es,Ra,Kk,Qz,Bh,eW]
   rw [e,Fa (.of (by decide)),Alk hc,N3,E8,g0]
   simp [Br]
 | skip =>
   intro h
   have e:Es (.mk 28 [] 0 []) h=Cu (F3::[[59]]) h:=by simp [Es,Ra,Kk,Qz]
   rw [e,Fa (.of (by decide)),N3,E8]
   simp [Br]
 | stop =>
   intro h
   have e:Es (.mk 29 [] 0 []) h=Cu (Gf::[[59]]) h:=by simp [Es,Ra,Kk,Qz]
   rw [e,Fa (.of (by decide)),N3,E8]
   simp [Br]
theorem Adr {n:Nd}(h:FP n):R6 n=Hi n:=by
 cases h with
 | mk ds l hd hl =>
   have h1:=K6 (l:=ds) (h:=0) (p:=[]) fun x hx=>Axj (hd x hx) 0
   have h2:=K6 (l:=l) (h:=0) (p:=[]) fun x hx=>Awf (hl x hx) 0
   have e1:(Nd.mk 40 [] 0 (ds++[.mk 30 [] 0 l])).kids.dropLast=ds:=by simp [Nd.kids]
   have e2:((Nd.mk 40 [] 0 (ds++[.mk 30 [] 0 l])).kids.getLastD Ca).kids=l:=by simp [Nd.kids]
   rw [R6,e1,e2,h1,h2,X2,Ob]
theorem Ry {p:Nd}:∀ {l:List Nd}{i:Nat},(∀ (j:Nat)(x:Nd),l[j]?=some x→H9 p ((i+j:Nat):Int) x.kind=true∧Bq x=true)→Cw p i l=true
 | [],i,_=>by simp [Cw]
 | x::l,i,h=>by
   have h0:=h 0 x rfl
   simp only [Nat.add_zero] at h0
   have h1:=Ry (p:=p) (l:=l) (i:=i+1) fun j y hj=>by
    have:=h (j+1) y (by simpa using hj)
    rwa [show i+(j+1)=i+1+j by omega] at this
   simp [Cw,h0.1,h0.2,h1]
theorem Jc {n:Nd}(h:FE n):Bq n=true:=by
 induction h with
 | num m h0 h1=>simp [Bq,E9,A7,Da,A0,Cw,h0,h1]
 | var s h=>simp [Bq,E9,A7,Da,Cw,h,Kw h]
 | cell s a h ha ih =>
   have:=Bu ha
   simp [Bq,E9,A7,Da,Cw,H9,Hz,Az,h,Kw h,ih]
   exact this
 | len s h=>simp [Bq,E9,A7,Da,Cw,h,Kw h]
 | neg a ha ih =>
   have:=Bu ha
   simp [Bq,E9,A7,Da,Cw,H9,Hz,Az,ih]
   exact this
 | two k a b hk ha hb iha ihb =>
   have h1:=Bu ha
   have h2:=Bu hb
   rcases hk with rfl | rfl | rfl <;>
   ·simp [Bq,E9,A7,Da,Cw,H9,Hz,Az,iha,ihb]
    exact ⟨h1,h2⟩
theorem T2 {n:Nd}(h:FC n):Bq n=true:=by
 cases h with
 | mk k a b h0 h1 ha hb =>
   have e1:=Bu ha
   have e2:=Bu hb
   have:k=11∨k=12∨k=13∨k=14∨k=15∨k=16:=by omega
   rcases this with rfl | rfl | rfl | rfl | rfl | rfl <;>
   ·simp [Bq,E9,A7,Da,Cw,H9,Hz,Az,Jc ha,Jc hb]
    exact ⟨e1,e2⟩
theorem Is {l:List Nd}(hl:∀ x,x∈l→FS x)(h:∀ x,x∈l→Bq x=true):Bq (.mk 30 [] 0 l)=true:=by
 have:=Ry (p:=.mk 30 [] 0 l) (l:=l) (i:=0) fun j x hx=>by
  have hm:=List.mem_of_getElem? hx
  have:=Aon (hl x hm)
  refine ⟨?_,h x hm⟩
  simp [H9,Tc,Az]
  exact this
 simp [Bq,E9,A7,Da,this]
theorem Aia {n:Nd}(h:FS n):Bq n=true:=by
 induction h with
 | set s a h ha =>
   have:=Bu ha
   simp [Bq,E9,A7,Da,Cw,H9,Hz,Az,h,Kw h,Jc ha]
   exact this
 | put s a b h ha hb =>
   have h1:=Bu ha
   have h2:=Bu hb
   simp [Bq,E9,A7,Da,Cw,H9,Hz,Az,h,Kw h,Jc ha,Jc hb]
   exact ⟨h1,h2⟩
 | read s h=>simp [Bq,E9,A7,Da,Cw,h,Kw h]
 | ifs c l l' hc hl hl' ihl ihl' =>
   have h1:=G7 hc
   have b1:=Is hl ihl
   have b2:=Is hl' ihl'
   rw [Bq]
   simp [E9,A7,Da,Cw,H9,N9,Az,T2 hc,b1,b2]
   exact h1
 | whil c l hc hl ihl =>
   have h1:=G7 hc
   have b1:=Is hl ihl
   rw [Bq]
   simp [E9,A7,Da,Cw,H9,N9,Az,T2 hc,b1]
   exact h1
 | for_ s a b l h ha hb hl ihl =>
   have h1:=Bu ha
   have h2:=Bu hb
   have b1:=Is hl ihl
   rw [Bq]
   simp [E9,A7,Da,Cw,H9,Hz,Az,h,Kw h,Jc ha,Jc hb,b1]
   exact ⟨h1,h2⟩
 | check c hc =>
   have h1:=G7 hc
   simp [Bq,E9,A7,Da,Cw,H9,N9,Az,T2 hc]
   exact h1
 | skip=>simp [Bq,E9,A7,Da,Cw]
 | stop=>simp [Bq,E9,A7,Da,Cw]
theorem Aib {n:Nd}(h:FV n):Bq n=true:=by
 cases h with
 | var s h=>simp [Bq,E9,A7,Da,Cw,h,Kw h]
 | arr s m h h0 h1=>simp [Bq,E9,A7,Da,Cw,A0,h,Kw h,h0,h1]
theorem Qc {n:Nd}(h:FP n):Bq n=true:=by
 cases h with
 | mk ds l hd hl =>
   have hb:=Is hl fun x hx=>Aia (hl x hx)
   have:=Ry (p:=.mk 40 [] 0 (ds++[.mk 30 [] 0 l])) (l:=ds++[.mk 30 [] 0 l]) (i:=0) fun j x hx=>by
    rcases Nat.lt_or_ge j ds.length with hj | hj
    ·rw [List.getElem?_append_left hj] at hx
     have hm:=List.mem_of_getElem? hx
     refine ⟨?_,Aib (hd x hm)⟩
     have hk:=V6 (hd x hm)
     have e:H9 (.mk 40 [] 0 (ds++[.mk 30 [] 0 l])) ((0+j:Nat):Int) x.kind=(x.kind==31||x.kind==32):=by
      rw [Abp rfl,if_neg]
      simp [Nd.kids];omega
     rw [e];simpa using hk
    ·rw [List.getElem?_append_right hj] at hx
     have hj0:j=ds.length:=by
      have:=Ad hx
      simp at this;omega
     subst hj0
     simp at hx
     subst hx
     refine ⟨?_,hb⟩
     rw [Abp rfl,if_pos]
     ·simp [Nd.kind]
     ·simp [Nd.kids]
   simp [Bq,E9,A7,Da,this]
mutual
def longN:Nd→Bool
 | .mk _ s _ ks=>decide (8<s.length)||longL ks
def longL:List Nd→Bool
 | []=>false
 | x::l=>longN x||longL l
end
theorem M3 {l:List Nd}(h:∀ x,x∈l→longN x=false):longL l=false:=by
 induction l with
 | nil=>rfl
 | cons x l ih=>simp [longL,h x (by simp),ih fun y hy=>h y (by simp [hy])]
theorem Ld {n:Nd}(h:FE n):longN n=false:=by
 induction h with
 | num m h0 h1=>simp [longN,longL]
 | var s h=>simp [longN,longL,Gh h]
 | cell s a h ha ih=>simp [longN,longL,Gh h,ih]
 | len s h=>simp [longN,longL,Gh h]
 | neg a ha ih=>simp [longN,longL,ih]
 | two k a b hk ha hb iha ihb=>simp [longN,longL,iha,ihb]
theorem Wq {n:Nd}(h:FC n):longN n=false:=by
 cases h with | mk k a b h0 h1 ha hb=>simp [longN,longL,Ld ha,Ld hb]
theorem Akj {n:Nd}(h:FS n):longN n=false:=by
 induction h with
 | set s a h ha=>simp [longN,longL,Gh h,Ld ha]
 | put s a b h ha hb=>simp [longN,longL,Gh h,Ld ha,Ld hb]
 | read s h=>simp [longN,longL,Gh h]
 | ifs c l l' hc hl hl' ihl ihl'=>simp [longN,longL,Wq hc,M3 ihl,M3 ihl']
 | whil c l hc hl ihl=>simp [longN,longL,Wq hc,M3 ihl]
 | for_ s a b l h ha hb hl ihl=>simp [longN,longL,Gh h,Ld ha,Ld hb,M3 ihl]
 | check c hc=>simp [longN,longL,Wq hc]
 | skip=>simp [longN,longL]
 | stop=>simp [longN,longL]
theorem Akk {n:Nd}(h:FV n):longN n=false:=by
 cases h with
 | var s h=>simp [longN,longL,Gh h]
 | arr s m h h0 h1=>simp [longN,longL,Gh h]
theorem Aki {n:Nd}(h:FP n):longN n=false:=by
 cases h with
 | mk ds l hd hl =>
   have hb:longN (.mk 30 [] 0 l)=false:=by simp [longN,M3 fun x hx=>Akj (hl x hx)]
   have:=M3 (l:=ds++[.mk 30 [] 0 l]) fun x hx=>by
    rcases List.mem_append.1 hx with h | h
    ·exact Akk (hd x h)
    ·simp at h;subst h;exact hb
   simp [longN,this]
noncomputable def P6 (a b:Nd):Bool:=@decide (a=b) (Classical.propDecidable _)
theorem Nb {a b:Nd}:P6 a b=true↔a=b:=by unfold P6;exact @decide_eq_true_iff _ (Classical.propDecidable _)
noncomputable def Ef (n:Nd):List UInt8 × Bool :=
 if Lj n||(n.kids.isEmpty||longN n) then ([],false)
 else (R6 n,!(R6 n==[])&&((C6 (R6 n)).2.1==0&&P6 (C6 (R6 n)).1 n))
theorem Aej {s:List UInt8}(h:(C6 s).2.1=0):s.length≤4000:=by
 have hw:(B0 s).2.1=0:=by
  unfold C6 at h
  split at h
  ·assumption
  ·exact h
 unfold B0 at hw
 split at hw
 ·simp at hw
 ·omega
theorem Afo (n:Nd):(Ef n).2=Cd n∧(Cd n=true→(Ef n).1=Hi n):=by
 have key:Cd n=true→Ef n=(Hi n,true):=by
  intro h
  have hf:=Lq h
  obtain ⟨fp,hc,hd⟩:=hf
  have hp:=Adr fp
  simp only [Cd,Bool.and_eq_true,beq_iff_eq,Bool.not_eq_true',decide_eq_true_eq] at h
  obtain ⟨_,⟨h1,h2⟩,h3⟩:=h
  have hb:=Afm fp hc h3
  have hk:n.kids.isEmpty=false:=by cases fp with | mk ds l hd hl=>simp [Nd.kids]
  have hl:Lj n=false:=by simp [Lj];omega
  unfold Ef
  rw [if_neg (by simp [hk,hl,Aki fp]),hp,hb,h1]
  simp [h3,Nb]
 refine ⟨?_,fun h=>by rw [key h]⟩
 cases hs:Cd n with
 | true=>rw [key hs]
 | false =>
   cases hp:(Ef n).2 with
   | false=>rfl
   | true =>
     exfalso
     unfold Ef at hp
     split at hp
     ·simp at hp
     ·simp only [Bool.and_eq_true,beq_iff_eq,Bool.not_eq_true',Nb] at hp
      obtain ⟨h1,h2,h3⟩:=hp
      obtain ⟨fp,hc,hd⟩:=Ado h2
      have hl:=Aej h2
      rw [h3] at fp hc hd
      rw [Adr fp] at h1 h2 hl
      have hk:n.kind=40:=by cases fp;rfl
      have:Cd n=true:=by simp [Cd,hk,O1,hc,hd,Qc fp,h1,hl,h2]
      rw [this] at hs;cases hs
end Go.V
namespace Go.V
open Go
section
variable {X:Cx}{B:Bx}{E:Env}{S:St}{w:World}{F:B7}{R:AE→St→Prop}
theorem Inv.wkB (hI:Inv X E S w){b r j:Nat}{rows:List (List AV)}{cs:List AV}{x y:AV}(hb:S.boxes[b]?=some rows)(hr:rows[r]?=some cs)(hc:cs[j]?=some x)(hw:Ren true [] [] x y) :
 Inv X E ⟨S.boxes.set b (rows.set r (cs.set j y)),S.toks⟩ w:=by
 refine hI.recell hb (by simp) (fun q hq=>?_) fun blk sz arr te hB hh k q p z v hk hp hv=>?_
 ·rcases List.mem_or_eq_of_mem_set hq with hq | rfl
  ·exact ⟨q,hq,rfl⟩
  ·exact ⟨cs,List.mem_of_getElem? hr,by simp⟩
 ·obtain ⟨arr',e,hh',hs,hl,hrel⟩:=hI.box b blk sz rows hB hb
  rw [hh] at hh';cases hh'
  rcases Eh hk with ⟨rfl,rfl⟩ | ⟨_,hk⟩
  ·rcases Eh hp with ⟨rfl,rfl⟩ | ⟨_,hp⟩
   ·exact hw.less (hrel _ cs _ x v hr hc hv)
   ·exact hrel _ cs p z v hr hp hv
  ·exact hrel k q p z v hk hp hv
theorem AK.wkB {K:List Item}(b r j:Nat){rows:List (List AV)}{cs:List AV}{x:AV}(y:AV){bx:List (List (List AV))}(hk:AK X B K F ⟨bx,S.toks⟩ R)(hb:S.boxes[b]?=some rows:=by rfl)(hr:rows[r]?=some cs:=by rfl)(hc:cs[j]?=some x:=by rfl)
 (hbx:S.boxes.set b (rows.set r (cs.set j y))=bx:=by rfl) [hw:RinC [] [] x y]:AK X B K F S R:=by
 subst hbx
 intro E w a b' cs' hI hF hn hm hb'
 exact hk E w a b' cs' (hI.wkB hb hr hc hw.s) hF (by simpa using hn) hm hb'
theorem AK.mintAll {K:List Item}(b n m:Nat){bx:List (List (List AV))}{tk:List Nat}(hb:S.boxes[b]?=some (List.replicate n [.sl [] .tight]))(hm:S.toks.length=m)
 (hbx:S.boxes.set b ((List.range n).map fun i=>[.sl [] (.tok (m+i))])=bx)(htk:S.toks++List.replicate n 0=tk)(hk:AK X B K F ⟨bx,tk⟩ R):AK X B K F S R:=by
 subst hm;subst hbx;subst htk
 have rowsK:∀ k,k≤n→((List.range k).map fun i=>[AV.sl [] (.tok (S.toks.length+i))]).length=k:=fun k _=>by simp
 have key:∀ q k,q+k=n→AK X B K F ⟨S.boxes.set b (((List.range k).map fun i=>[AV.sl [] (.tok (S.toks.length+i))])++List.replicate q [.sl [] .tight]),S.toks++List.replicate k 0⟩ R:=by
  intro q
  induction q with
  | zero =>
    intro k hk'
    have:k=n:=by omega
    subst this
    simpa using hk
  | succ q ih =>
    intro k hk'
    have hlt:b<S.boxes.length:=Ad hb
    have h1:=ih (k+1) (by omega)
    refine AK.mintB (m:=S.toks.length+k) b k 0 (rows:=((List.range k).map fun i=>[AV.sl [] (.tok (S.toks.length+i))])++List.replicate (q+1) [.sl [] .tight]) (cs:=[.sl [] .tight]) (sl:=[]) ?_ ?_ rfl ?_ ?_ ?_ h1
    ·simp [hlt]
    ·rw [List.getElem?_append_right (by simp)];simp [List.getElem?_replicate]
    ·simp
    ·simp only [List.set_set]
     congr 1
     rw [List.set_append_right _ _ (by simp),List.range_succ]
     simp [List.replicate_succ]
    ·simp [List.replicate_succ']
 have h0:=key n 0 (by omega)
 have e:S.boxes.set b (List.replicate n [.sl [] .tight])=S.boxes:=by
  apply List.ext_getElem?
  intro i
  by_cases hi:b=i
  ·subst hi
   have:=Ad hb
   rw [List.getElem?_set_self this,hb]
  ·rw [List.getElem?_set_ne hi]
 simp only [List.range_zero,List.map_nil,List.nil_append,List.replicate_zero,List.append_nil] at h0
 rw [e] at h0
 exact h0
instance (priority:=low){bx:List (List (List AV))}{tk:List Nat}{n m b:Nat}{cs cs':List AV} [h1:BoxC bx b [cs]] [h2:LeC n b] [h4:FzLC ⟨bx,tk⟩ n m cs cs']:FzC ⟨bx,tk⟩ n m (.ptr b 0 0) (.cptr cs') :=
 ⟨.ptr b 0 0 [cs] cs cs' h2.h h1.h rfl (by simpa using h4.s.get.1) (fun j x y hx hy=>h4.s.get.2 j x y (by simpa using hx) hy)⟩
end
end Go.V
namespace Go.V
open Go Go.Proofs
theorem Aag (s p:List UInt8):(Hk s p).length≤s.length:=by unfold Hk;split<;>simp
theorem Alr (a b:List UInt8):(O7 a b).length≤1:=by unfold O7;split<;>simp
theorem Zi:∀ (ws:I7)(a:List UInt8),(∀ w,w∈ws→w.length≤21)→(Ee a ws).length≤22*ws.length
 | [],a,_=>by simp [Ee]
 | b::ws,a,h=>by
   have h1:=Zi ws b fun w hw=>h w (by simp [hw])
   have h2:=Alr a b
   have h3:=Aag b [32]
   have h4:=h b (by simp)
   simp only [Ee,List.length_append,List.length_cons];omega
def Yo (ws:I7):Prop:=∀ w,w∈ws→w.length≤21
theorem Aiu (ws:I7)(h:Yo ws):(L1 ws).length≤22*ws.length:=by
 cases ws with
 | nil=>simp [L1]
 | cons b ws =>
   have h1:=Zi ws b fun w hw=>h w (by simp [hw])
   have h3:=Aag b [32]
   have h4:=h b (by simp)
   simp only [L1,List.length_append,List.length_cons];omega
theorem Bg {a b:I7}(ha:Yo a)(hb:Yo b):Yo (a++b):=fun w hw=>(List.mem_append.1 hw).elim (ha w) (hb w)
theorem Ba {a:List UInt8}(h:a.length≤21):Yo [a]:=fun w hw=>by simp at hw;subst hw;exact h
theorem C1 {a:List UInt8}{l:I7}(h:a.length≤21)(hl:Yo l):Yo (a::l):=fun w hw=>by
 rcases List.mem_cons.1 hw with rfl | hw
 ·exact h
 ·exact hl w hw
theorem Abt:Yo []:=fun w hw=>by cases hw
theorem Dw (ws:I7)(h:Nat)(hw:Yo ws):(Cu ws h).length≤2*h+22*ws.length+1:=by
 have:=Aiu ws hw
 simp [Cu];omega
theorem PrN.get {n:Nd}(h:PrN n):n.name.length≤8∧-9223372036854775808≤n.num∧n.num≤9223372036854775807∧∀ x,x∈n.kids→PrN x:=by
 cases h with | mk k s m ks hs h0 h1 hk=>exact ⟨hs,h0,h1,hk⟩
theorem Agw {m:Int}(h0:-9223372036854775808≤m)(h1:m≤9223372036854775807):(Lib.itoa m).length≤21:=Lib.itoa_length_le m h0 h1
theorem Aq0 (k:Int):(P4 k).length≤21:=by have:=Ya k;omega
theorem Atp {a b:Bool}{k:Int}{w:I7}(h:Yo w):Yo (Lu a b k w):=by
 unfold Lu
 split
 ·exact Bg (Bg (Ba (by simp)) h) (Ba (by simp))
 ·exact h
theorem S5 (n:Nd)(h:PrN n):Yo (Ap n):=by
 induction n using Nd.ind with
 | h n ih =>
   obtain ⟨hs,h0,h1,hk⟩:=h.get
   have K:∀ i,Yo (Ap (Bf n i)):=fun i=>by
    rcases Jj n i with h | h
    ·exact ih _ h (hk _ h)
    ·rw [h,Zg];exact Abt
   have E:∀ i,Yo (eW (Bh n.kids) i):=fun i=>by rw [Do];exact K i
   have I:∀ i a b,Yo (iW (Bh n.kids) i a b):=fun i a b=>by rw [Ui];exact Atp (K i)
   rw [Xa]
   unfold Dr
   repeat' split
   ·exact Ba (Agw h0 h1)
   ·exact Ba (by omega)
   ·exact Bg (Bg (C1 (by omega) (Ba (by simp))) (E 0)) (Ba (by simp))
   ·exact C1 (by simp) (C1 (by simp) (C1 (by omega) (Ba (by simp))))
   ·exact Bg (Ba (by simp)) (I 0 _ _)
   ·exact Bg (Bg (E 0) (Ba (by simp))) (I 1 _ _)
   ·exact Bg (Bg (E 0) (Ba (by simp))) (I 1 _ _)
   ·exact Bg (Bg (I 0 _ _) (Ba (by simp))) (I 1 _ _)
   ·exact Bg (Bg (E 0) (Ba (Aq0 _))) (E 1)
   ·exact Abt
theorem Zp (l:List Nd)(h:Nat):Gt l h=l.map fun x=>Vi x h:=by
 induction l with
 | nil=>simp [Gt]
 | cons x l ih=>simp [Gt,ih]
theorem W4 (n:Nd)(h:Nat):Vi n h=(Hp n.kids (h+1),!n.kids.isEmpty):=by cases n;simp [Vi,Nd.kids]
theorem Agf (n:Nd)(h i:Nat):bT (Gt n.kids h) i=Hp (Bf n i).kids (h+1)∧bQ' (Gt n.kids h) i=!(Bf n i).kids.isEmpty:=by
 have:(Gt n.kids h).getD i ([],false)=Vi (Bf n i) h:=by
  rw [Zp]
  unfold Bf
  cases hx:n.kids[i]? with
  | none=>simp [List.getD,hx,W4,Ca,Hp]
  | some x=>simp [List.getD,hx]
 rw [bT,bQ',this,W4];exact ⟨rfl,rfl⟩
theorem Ag5 (n:Nd)(h:Nat):Es n h=Ra n.kind n.name n.num (Bh n.kids) (Gt n.kids h) h:=by cases n;simp [Es,Nd.kind,Nd.name,Nd.num,Nd.kids]
theorem Anz (n:Nd)(h:PrN n):Yo (Qz n.kind n.name n.num (Bh n.kids)):=by
 obtain ⟨hs,h0,h1,hk⟩:=h.get
 have E:∀ i,Yo (eW (Bh n.kids) i):=fun i=>by rw [Do];exact S5 _ (h.kid i)
 unfold Qz
 repeat' split
 ·exact C1 (by simp) (Ba (by omega))
 ·exact C1 (by simp) (C1 (by omega) (C1 (by simp) (C1 (by simp) (Ba (by simp)))))
 ·exact C1 (by simp) (C1 (by omega) (C1 (by simp) (C1 (Agw h0 h1) (Ba (by simp)))))
 ·exact Bg (C1 (by omega) (Ba (by simp))) (E 0)
 ·exact Bg (Bg (Bg (C1 (by omega) (Ba (by simp))) (E 0)) (C1 (by simp) (Ba (by simp)))) (E 1)
 ·exact C1 (by simp) (Ba (by omega))
 ·exact Bg (Ba (by simp)) (E 0)
 ·exact Ba (by simp)
 ·exact Ba (by simp)
theorem Aa2 (ks:List Nd):(eW (Bh ks) 0).length+(eW (Bh ks) 1).length≤8*Ar ks:=by
 have:=(Ac7 ks fun x _=>Zf x).1
 omega
theorem Aq5 (n:Nd):(Qz n.kind n.name n.num (Bh n.kids)).length≤8*Ar n.kids+5:=by
 have:=Aa2 n.kids
 unfold Qz
 repeat' split
 all_goals simp
 all_goals omega
theorem Abu {l:List Nd}{h:Nat}(hx:∀ x,x∈l→(Es x h).length≤1000*Ai x):(Hp l h).length≤1000*Ar l:=by
 induction l with
 | nil=>simp [Hp]
 | cons x l ih =>
   have h1:=hx x (by simp)
   have h2:=ih fun y hy=>hx y (by simp [hy])
   simp only [Hp,Ar,List.length_append];omega
def cK (ks:List Nd)(i:Nat):Nat:=match ks[i]? with
 | some x=>Ai x
 | none=>0
theorem Asy (ks:List Nd):cK ks 0+cK ks 1+cK ks 2≤Ar ks:=by
 match ks with
 | []=>simp [cK]
 | [a]=>simp [cK,Ar]
 | [a,b]=>simp [cK,Ar]
 | a::b::c::l=>simp [cK,Ar];omega
theorem Ar4 (ks:List Nd)(i:Nat):(eW (Bh ks) i).length≤8*cK ks i:=by
 rw [eW,Zr]
 unfold cK
 cases hx:ks[i]? with
 | none=>simp [List.getD,hx]
 | some x=>have:=Zf x;simp [List.getD,hx];omega
theorem Av3 (ks:List Nd)(h i:Nat)(hx:∀ y,y∈ks→∀ x,x∈y.kids→(Es x (h+1)).length≤1000*Ai x):(bT (Gt ks h) i).length≤1000*cK ks i:=by
 rw [bT,Zp]
 unfold cK
 cases hy:ks[i]? with
 | none=>simp [List.getD,hy]
 | some y =>
   have:=Abu (hx y (List.mem_of_getElem? hy))
   have:=Bv y
   simp [List.getD,hy,W4];omega
theorem Ag6 (n:Nd):∀ h:Nat,PrN n→h+B8 n≤60→(Es n h).length≤1000*Ai n:=by
 have:∀ n:Nd,(∀ h:Nat,PrN n→h+B8 n≤60→(Es n h).length≤1000*Ai n)∧∀ y,y∈n.kids→∀ h:Nat,PrN y→h+B8 y≤60→(Es y h).length≤1000*Ai y:=by
  intro n
  induction n using Nd.ind with
  | h n ih =>
    refine ⟨fun h hp hd=>?_,fun y hy=>(ih y hy).1⟩
    have hdn:=G9 n
    have hcn:=Bv n
    have hb:=fun i=>Av3 n.kids h i fun y hy x hx=>(ih y hy).2 x hx (h+1) ((hp.get.2.2.2 y hy).get.2.2.2 x hx) (by
     have h1:=D2 hy
     have h2:=D2 hx
     have h3:=G9 y
     omega)
    have he:=Aa2 n.kids
    have b1:=hb 1
    have b2:=hb 2
    have e0:=Ar4 n.kids 0
    have e1:=Ar4 n.kids 1
    have cs:=Asy n.kids
    have E:∀ i,Yo (eW (Bh n.kids) i):=fun i=>by rw [Do];exact S5 _ (hp.kid i)
    have hs:=hp.get.1
    rw [Ag5]
    unfold Ra
    split
    ·have h1:=Dw (Qz n.kind n.name n.num (Bh n.kids)++[[59]]) h (Bg (Anz n hp) (Ba (by simp)))
     have h2:=Aq5 n
     simp at h1;omega
    ·have l1:=Dw [[125]] h (Ba (by simp))
     have l2:=Dw [[125],Fw,[123]] h (C1 (by simp) (C1 (by simp) (Ba (by simp))))
     have l0:=Dw [] h Abt
     have a1:=Dw ([Q6]++eW (Bh n.kids) 0++[[123]]) h (Bg (Bg (Ba (by simp)) (E 0)) (Ba (by simp)))
     have a2:=Dw ([Dx]++eW (Bh n.kids) 0++[[123]]) h (Bg (Bg (Ba (by simp)) (E 0)) (Ba (by simp)))
     have a3:=Dw ([I4,n.name,Gw]++eW (Bh n.kids) 0++[V2]++eW (Bh n.kids) 1++[[123]]) h
      (Bg (Bg (Bg (Bg (C1 (by simp) (C1 (by omega) (Ba (by simp)))) (E 0)) (Ba (by simp))) (E 1)) (Ba (by simp)))
     simp at l1 l2 l0 a1 a2 a3
     unfold cpT
     repeat' split
     all_goals simp
     all_goals omega
 exact (this n).1
abbrev bK (A:AV)(s:List UInt8)(ws:I7)(h:Int):List AV:=[A,.buf 5 s 0,.sl (A3 ws) (.tok 2),vi h]
def HS (x:Nd):Prop:=∀ (b:Bool)(s:List UInt8)(h:Nat),h+B8 x≤60→s.length+(Es x h).length≤1000000000 →
 Hands X 237 [.ptr 0 0 0,nd x] ⟨[[bN (Je 270 0 b) s h]],[s.length]⟩ (.tup []) ⟨[[bN (.ptr 0 0 0) (s++Es x h) h]],[(s++Es x h).length]⟩
def Kq (x:Nd)(ws:I7)(h:Nat):List UInt8:=Cu (ws++[[123]]) h++Hp x.kids (h+1)
def HBk (x:Nd):Prop:=∀ (b:Bool)(s:List UInt8)(ws:I7)(h:Nat),h+B8 x≤60→Yo ws→ws.length≤900000→s.length+(Kq x ws h).length≤1000000000 →
 Hands X 279 [.ptr 0 0 0,nd x] ⟨[[bP (Je 270 0 b) s ws h]],[s.length,ws.length]⟩ (.tup [])
  ⟨[[bK (.ptr 0 0 0) (s++Kq x ws h) [[125]] h]],[(s++Kq x ws h).length,(ws++[[123]]).length,1]⟩
theorem PutC.f {r:List (List AV)}{xs:I7}(hp:PutC r xs)(s:List UInt8)(ws:I7)(h:Int)(hw:ws.length≤1000000000) :
 Hands X 262 [.ptr 0 0 0,.sl r .no] ⟨[[bP (.ptr 0 0 0) s ws h]],[s.length,ws.length]⟩ (.tup []) ⟨[[bP (.ptr 0 0 0) s (ws++xs) h]],[s.length,(ws++xs).length]⟩:=hp false s ws h hw
theorem PutC.n {r:List (List AV)}{xs:I7}(hp:PutC r xs)(b:Bool)(s:List UInt8)(h:Int) :
 Hands X 262 [.ptr 0 0 0,.sl r .no] ⟨[[[Je 270 0 b,.buf 5 s 0,.sl [] (.tok 1),vi h]]],[s.length,0]⟩ (.tup []) ⟨[[bP (Je 270 0 b) s xs h]],[s.length,xs.length]⟩:=hp b s [] h (by simp)
theorem PutC.m {r:List (List AV)}{xs:I7}(hp:PutC r xs)(s:List UInt8)(h:Int) :
 Hands X 262 [.ptr 0 0 0,.sl r .no] ⟨[[[.ptr 0 0 0,.buf 5 s 0,.sl [] (.tok 1),vi h]]],[s.length,0]⟩ (.tup []) ⟨[[bP (.ptr 0 0 0) s xs h]],[s.length,xs.length]⟩:=hp false s [] h (by simp)
theorem Ar2 (b:Bool)(s:List UInt8)(h:Int):RinB [0] [0] [[bN (Je 270 0 b) s h]] [[bN (Je 270 0 b) s h]] :=
 have h1:RinC [0] [0] (Je 270 0 b) (Je 270 0 b):=inferInstance
 have h2:RinC [0] [0] (.buf 5 s 0) (.buf 5 s 0):=inferInstance
 have h3:Ren true [0] [0] (.sl [] .tight) (.sl [] .tight):=T4 .nil (.inr (.inr (.inr (.inl ⟨rfl,rfl⟩))))
 have h4:RinC [0] [0] (vi h) (vi h):=inferInstance
 ⟨.cons (.cons (.cons h1.s (.cons h2.s (.cons h3 (.cons h4.s .nil)))) .nil) .nil⟩
theorem Av2 (s:List UInt8)(h:Int):RinB [0] [0] [[bN (.ptr 0 0 0) s h]] [[bN (.ptr 0 0 0) s h]]:=Ar2 false s h
theorem HS.f {x:Nd}(hx:HS x)(s:List UInt8)(h:Nat)(hd:h+B8 x≤60)(hl:s.length+(Es x h).length≤1000000000) :
 Hands X 237 [.ptr 0 0 0,nd x] ⟨[[bN (.ptr 0 0 0) s h]],[s.length]⟩ (.tup []) ⟨[[bN (.ptr 0 0 0) (s++Es x h) h]],[(s++Es x h).length]⟩:=hx false s h hd hl
theorem HBk.f {x:Nd}(hx:HBk x)(s:List UInt8)(ws:I7)(h:Nat)(hd:h+B8 x≤60)(hw:Yo ws)(hwl:ws.length≤900000)(hl:s.length+(Kq x ws h).length≤1000000000) :
 Hands X 279 [.ptr 0 0 0,nd x] ⟨[[bP (.ptr 0 0 0) s ws h]],[s.length,ws.length]⟩ (.tup [])
  ⟨[[bK (.ptr 0 0 0) (s++Kq x ws h) [[125]] h]],[(s++Kq x ws h).length,(ws++[[123]]).length,1]⟩:=hx false s ws h hd hw hwl hl
theorem Er (ws:I7)(h:Nat):(Cu ws h).length=2*h+(L1 ws).length+1:=by simp [Cu];omega
theorem Pz {ws:I7}(h:Yo ws):∀ x,x∈ws→x.length≤1000000:=fun x hx=>by have:=h x hx;omega
theorem Agr (x:Nd)(hy:∀ y,y∈x.kids→HS y)(hl:x.kids.length≤100000):HBk x:=by
 intro b s ws h hd hw hwl hb
 have dx:=G9 x
 have e1:(Kq x ws h).length=(Cu (ws++[[123]]) h).length+(Hp x.kids (h+1)).length:=by simp [Kq]
 have e2:=Er (ws++[[123]]) h
 have hi1:IntKind.i64.wrap ((h:Int)+1)=((h+1:Nat):Int):=(Aa (by omega) (by omega)).trans (by omega)
 have hi2:IntKind.i64.wrap (((h+1:Nat):Int)-1)=(h:Int):=(Aa (by omega) (by omega)).trans (by omega)
 refine Hands.run (n:=1) (m:=2) Tryz.func279 ?_
 refine AK.hc (τ':=[0,1]) [0] [0,1] (Gj [123] b s ws h (by omega)) ?_
 refine AK.hc (τ':=[0]) [0] [0] (Li b s (ws++[[123]]) h (by omega) (by simp<;>omega) (by omega) (by omega) (Pz (Bg hw (Ba (by simp))))) ?_
 refine AK.sto ⟨[[bN (.ptr 0 0 0) (s++Cu (ws++[[123]]) h) ((h+1:Nat):Int)],[Af x]],[(s++Cu (ws++[[123]]) h).length,(ws++[[123]]).length]⟩ ?_ (by rw [← hi1]<;>rfl)
 refine AK.while_ (ι:=Nat × List UInt8) 2 2 (fun i=>i.1≤x.kids.length∧i.2++Hp (x.kids.drop i.1) (h+1)=s++Kq x ws h) (fun i=>[(21,vi i.1),(20,vi x.kids.length),(19,.sl (Ak x.kids) .no),(0,.ptr 0 0 0)])
  (fun i=>⟨[[bN (.ptr 0 0 0) i.2 ((h+1:Nat):Int)],[Af x]],[i.2.length,(ws++[[123]]).length]⟩) (fun i=>x.kids.length-i.1) ?_ (0,s++Cu (ws++[[123]]) h) ⟨Nat.zero_le _,by simp [Kq]⟩ ⟨rfl,by rw [← Ae];rfl,rfl,rfl,trivial⟩ rfl rfl rfl rfl rfl
  (fun _=>inferInstance) (fun _=>inferInstance)
 rintro ⟨i,out⟩ ⟨hi,hT⟩ IH
 simp only at hi hT IH ⊢
 have hol:=congrArg List.length hT
 simp only [List.length_append] at hol
 refine AK.ei (fun h1=>?_) (fun h1=>?_)
 ·have hlt:i<x.kids.length:=by have:=of_decide_eq_true h1;omega
  obtain ⟨y,hyi⟩:=Ac x.kids hlt
  have hmem:=List.mem_of_getElem? hyi
  have hdr:=Av hyi
  rw [hdr] at hT hol
  simp only [Hp,List.length_append] at hT hol
  refine AK.ix i (by omega) (Ao hyi) ?_
  refine AK.hc (hb:=Av2 out ((h+1:Nat):Int)) (τ':=[0]) [0] [0] ((hy y hmem).f out (h+1) (by have:=D2 hmem;omega) (by omega)) ?_
  exact IH (i+1,out++Es y (h+1)) ⟨hlt,by simpa using hT⟩ (by simp only;omega) _ _ ⟨vsx (by omega),rfl,rfl,rfl,trivial⟩ rfl rfl rfl
 ·have hie:i=x.kids.length:=by have:=of_decide_eq_false h1;omega
  subst hie
  rw [List.drop_eq_nil_of_le (Nat.le_refl _)] at hT
  simp only [Hp,List.append_nil] at hT
  subst hT
  refine AK.sto ⟨[[bN (.ptr 0 0 0) (s++Kq x ws h) h],[Af x]],[(s++Kq x ws h).length,(ws++[[123]]).length]⟩ ?_ (by rw [← hi2]<;>rfl)
  refine AK.mintB 0 0 2 (bx:=[[[.ptr 0 0 0,.buf 5 (s++Kq x ws h) 0,.sl [] (.tok 2),vi h]],[Af x]]) (tk:=[(s++Kq x ws h).length,(ws++[[123]]).length,0]) rfl rfl rfl rfl rfl rfl ?_
  refine AK.hc (τ':=[0,2]) [0] [0,2] ((Gj [125]).m (s++Kq x ws h) h) ?_
  exact AK.fb Tryz.func279 rfl rfl
def cpP (k:Int)(s:List UInt8)(c:List (Int × I7))(b:List (List UInt8 × Bool))(h:Nat):List UInt8 :=
 if k=24 then Cu ([Q6]++eW c 0++[[123]]) h++bT b 1++(if bQ' b 2 then Cu [[125],Fw,[123]] h++bT b 2 else [])
 else if k=25 then Cu ([Dx]++eW c 0++[[123]]) h++bT b 1
 else if k=26 then Cu ([I4,s,Gw]++eW c 0++[V2]++eW c 1++[[123]]) h++bT b 2
 else []
def cpW (k:Int):I7:=if k=24 then [[125]] else if k=25 then [[125]] else if k=26 then [[125]] else []
def cpB (k:Int)(b:Bool):Bool:=if k=24 then false else if k=25 then false else if k=26 then false else b
theorem As7 (k:Int)(s:List UInt8)(c:List (Int × I7))(b:List (List UInt8 × Bool))(h:Nat):cpT k s c b h=cpP k s c b h++Cu (cpW k) h:=by
 unfold cpT cpP cpW
 repeat' split
 all_goals simp
theorem Aay (n:Nd)(h i:Nat):bT (Gt n.kids h) i=Hp (Bf n i).kids (h+1):=(Agf n h i).1
theorem Ass (n:Nd)(h i:Nat):bQ' (Gt n.kids h) i=!(Bf n i).kids.isEmpty:=(Agf n h i).2
theorem Zo (n:Nd)(i:Nat){h:Nat}(hd:h+B8 n≤60):h+B8 (Bf n i)≤60:=by
 have:=G9 n
 rcases Jj n i with h | h
 ·have:=D2 h;omega
 ·rw [h];show _+1≤60;omega
set_option maxHeartbeats 2000000 in
theorem Ae8 (n:Nd)(hp:PrN n)(hsz:Ai n≤1000)(hk:∀ i,HBk (Bf n i))(b:Bool)(s:List UInt8)(h:Nat)(hd:h+B8 n≤60)(hl:s.length+(cpP n.kind n.name (Bh n.kids) (Gt n.kids h) h).length≤1000000000) :
 Hands X 265 [.ptr 0 0 0,nd n] ⟨[[bN (Je 270 0 b) s h]],[s.length]⟩ (.tup [])
  ⟨[[bQ (Je 270 0 (cpB n.kind b)) (s++cpP n.kind n.name (Bh n.kids) (Gt n.kids h) h) (cpW n.kind) h]],[(s++cpP n.kind n.name (Bh n.kids) (Gt n.kids h) h).length]⟩:=by
 have hkl:n.kids.length≤4000000000:=by have:=Bc n.kids;have:=Bv n;omega
 have q0:=X4 n 0 (by omega) hkl
 have q1:=X4 n 1 (by omega) hkl
 have q2:=X4 n 2 (by omega) hkl
 have e0:=Abj (Bf n 0) (hp.kid 0)
 have e1:=Abj (Bf n 1) (hp.kid 1)
 have w0:=S5 (Bf n 0) (hp.kid 0)
 have w1:=S5 (Bf n 1) (hp.kid 1)
 have he:=Aa2 n.kids
 have hcn:=Bv n
 rw [Do,Do] at he
 have kc:∀ i,Ai (Bf n i)≤1000:=fun i=>by
  rcases Jj n i with h | h
  ·have:=Dk h;omega
  ·rw [h];decide
 have c0:=kc 0
 have c1:=kc 1
 have d1:=Zo n 1 hd
 have d2:=Zo n 2 hd
 have hs8:=hp.get.1
 refine Hands.run (n:=1) (m:=1) Tryz.func265 ?_
 refine AK.if_ (fun h1=>?_) (fun h1=>?_)
 ·have h1':n.kind=24:=by simpa using h1
  have hB:cpB n.kind b=false:=by unfold cpB;rw [if_pos h1']
  have hW:cpW n.kind=[[125]]:=by unfold cpW;rw [if_pos h1']
  have hP:cpP n.kind n.name (Bh n.kids) (Gt n.kids h) h=Kq (Bf n 1) ([Q6]++Ap (Bf n 0)) h++(if !(Bf n 2).kids.isEmpty then Kq (Bf n 2) ([[125]]++[Fw]) h else []):=by
   unfold cpP;rw [if_pos h1',Do,Aay,Ass,Aay];simp [Kq]
  rw [hB,hW]
  rw [hP] at hl ⊢
  simp only [List.length_append] at hl
  refine AK.mintB 0 0 2 (bx:=[[[Je 270 0 b,.buf 5 s 0,.sl [] (.tok 1),vi h]],[Af n]]) (tk:=[s.length,0]) rfl rfl rfl rfl rfl rfl ?_
  refine AK.hc (τ':=[0,1]) [0] [0,1] ((Gj Q6).n b s h) ?_
  refine AK.pc q0 ?_
  refine AK.hc (τ':=[0,1]) [0] [0,1] (e0 (by omega) b s ([Q6]) h (by simp<;>omega)) ?_
  refine AK.pc q1 ?_
  refine AK.hc (τ':=[0,1,2]) [0] [0,1] (hk 1 b s ([Q6]++Ap (Bf n 0)) h d1 (Bg ((Ba (by simp))) w0) (by simp<;>omega) (by omega)) ?_
  refine AK.pc q2 ?_
  refine AK.if_ (fun h2=>?_) (fun h2=>?_)
  ·have h2':(!(Bf n 2).kids.isEmpty)=true:=by
    have:=of_decide_eq_true h2
    rw [Ae] at this
    cases hh:(Bf n 2).kids with
    | nil=>rw [hh] at this;simp at this
    | cons y l=>rfl
   rw [if_pos h2'] at hl ⊢
   rw [← List.append_assoc]
   refine AK.hc (τ':=[0,2]) [0] [0,2] ((Gj Fw).f (s++Kq (Bf n 1) ([Q6]++Ap (Bf n 0)) h) [[125]] h (by simp)) ?_
   refine AK.pc q2 ?_
   refine AK.hc (τ':=[0,2,3]) [0] [0,2] ((hk 2).f (s++Kq (Bf n 1) ([Q6]++Ap (Bf n 0)) h) ([[125]]++[Fw]) h d2 (Bg (Ba (by simp)) (Ba (by simp))) (by simp) (by simp only [List.length_append];omega)) ?_
   refine AK.wkB 0 0 2 (.sl (A3 [[125]]) .no) ?_
   exact AK.fb Tryz.func265 rfl rfl
  ·have h2':¬ (!(Bf n 2).kids.isEmpty)=true:=by
    have:=of_decide_eq_false h2
    rw [Ae] at this
    cases hh:(Bf n 2).kids with
    | nil=>simp
    | cons y l=>rw [hh] at this;simp at this
   rw [if_neg h2',List.append_nil] at *
   refine AK.wkB 0 0 2 (.sl (A3 [[125]]) .no) ?_
   exact AK.fb Tryz.func265 rfl rfl
 have h1':n.kind≠24:=by simpa using h1
 refine AK.if_ (fun h2=>?_) (fun h2=>?_)
 ·have h2':n.kind=25:=by simpa using h2
  have hB:cpB n.kind b=false:=by unfold cpB;rw [if_neg h1',if_pos h2']
  have hW:cpW n.kind=[[125]]:=by unfold cpW;rw [if_neg h1',if_pos h2']
  have hP:cpP n.kind n.name (Bh n.kids) (Gt n.kids h) h=Kq (Bf n 1) ([Dx]++Ap (Bf n 0)) h:=by
   unfold cpP;rw [if_neg h1',if_pos h2',Do,Aay];simp [Kq]
  rw [hB,hW]
  rw [hP] at hl ⊢
  refine AK.mintB 0 0 2 (bx:=[[[Je 270 0 b,.buf 5 s 0,.sl [] (.tok 1),vi h]],[Af n]]) (tk:=[s.length,0]) rfl rfl rfl rfl rfl rfl ?_
  refine AK.hc (τ':=[0,1]) [0] [0,1] ((Gj Dx).n b s h) ?_
  refine AK.pc q0 ?_
  refine AK.hc (τ':=[0,1]) [0] [0,1] (e0 (by omega) b s ([Dx]) h (by simp<;>omega)) ?_
  refine AK.pc q1 ?_
  refine AK.hc (τ':=[0,1,2]) [0] [0,1] (hk 1 b s ([Dx]++Ap (Bf n 0)) h d1 (Bg ((Ba (by simp))) w0) (by simp<;>omega) (by omega)) ?_
  refine AK.wkB 0 0 2 (.sl (A3 [[125]]) .no) ?_
  exact AK.fb Tryz.func265 rfl rfl
 have h2':n.kind≠25:=by simpa using h2
 refine AK.if_ (fun h3=>?_) (fun h3=>?_)
 ·have h3':n.kind=26:=by simpa using h3
  have hB:cpB n.kind b=false:=by unfold cpB;rw [if_neg h1',if_neg h2',if_pos h3']
  have hW:cpW n.kind=[[125]]:=by unfold cpW;rw [if_neg h1',if_neg h2',if_pos h3']
  have hP:cpP n.kind n.name (Bh n.kids) (Gt n.kids h) h=Kq (Bf n 2) ([I4,n.name,Gw]++Ap (Bf n 0)++[V2]++Ap (Bf n 1)) h:=by
   unfold cpP;rw [if_neg h1',if_neg h2',if_pos h3',Do,Do,Aay];simp [Kq]
  rw [hB,hW]
  rw [hP] at hl ⊢
  refine AK.mintB 0 0 2 (bx:=[[[Je 270 0 b,.buf 5 s 0,.sl [] (.tok 1),vi h]],[Af n]]) (tk:=[s.length,0]) rfl rfl rfl rfl rfl rfl ?_
  refine AK.hc (τ':=[0,1]) [0] [0,1] ((Axl I4 n.name Gw).n b s h) ?_
  refine AK.pc q0 ?_
  refine AK.hc (τ':=[0,1]) [0] [0,1] (e0 (by omega) b s ([I4,n.name,Gw]) h (by simp<;>omega)) ?_
  refine AK.hc (τ':=[0,1]) [0] [0,1] (Gj V2 b s ([I4,n.name,Gw]++Ap (Bf n 0)) h (by simp<;>omega)) ?_
  refine AK.pc q1 ?_
  refine AK.hc (τ':=[0,1]) [0] [0,1] (e1 (by omega) b s ([I4,n.name,Gw]++Ap (Bf n 0)++[V2]) h (by simp<;>omega)) ?_
  refine AK.pc q2 ?_
  refine AK.hc (τ':=[0,1,2]) [0] [0,1] (hk 2 b s ([I4,n.name,Gw]++Ap (Bf n 0)++[V2]++Ap (Bf n 1)) h d2
   (Bg (Bg (Bg (C1 (by simp) (C1 (by omega) (Ba (by simp)))) w0) (Ba (by simp))) w1) (by simp<;>omega) (by omega)) ?_
  refine AK.wkB 0 0 2 (.sl (A3 [[125]]) .no) ?_
  exact AK.fb Tryz.func265 rfl rfl
 have h3':n.kind≠26:=by simpa using h3
 have hB:cpB n.kind b=b:=by unfold cpB;rw [if_neg h1',if_neg h2',if_neg h3']
 have hW:cpW n.kind=[]:=by unfold cpW;rw [if_neg h1',if_neg h2',if_neg h3']
 have hP:cpP n.kind n.name (Bh n.kids) (Gt n.kids h) h=[]:=by unfold cpP;rw [if_neg h1',if_neg h2',if_neg h3']
 rw [hB,hW,hP,List.append_nil]
 refine AK.wkB 0 0 2 (.sl (A3 []) .no) ?_
 exact AK.fb Tryz.func265 rfl rfl
set_option maxHeartbeats 2000000 in
theorem Atg (n:Nd)(hp:PrN n)(hsz:Ai n≤1000)(hk:∀ i,HBk (Bf n i)):HS n:=by
 intro b s h hd hl
 have hkl:n.kids.length≤4000000000:=by have:=Bc n.kids;have:=Bv n;omega
 have q0:=X4 n 0 (by omega) hkl
 have q1:=X4 n 1 (by omega) hkl
 have e0:=Abj (Bf n 0) (hp.kid 0)
 have e1:=Abj (Bf n 1) (hp.kid 1)
 have he:=Aa2 n.kids
 have hcn:=Bv n
 rw [Do,Do] at he
 have kc:∀ i,Ai (Bf n i)≤1000:=fun i=>by
  rcases Jj n i with h | h
  ·have:=Dk h;omega
  ·rw [h];decide
 have c0:=kc 0
 have c1:=kc 1
 have hn:=hp.get
 have hst:=Anz n hp
 have hO:Es n h=if Kk n.kind then Cu (Qz n.kind n.name n.num (Bh n.kids)++[[59]]) h else cpP n.kind n.name (Bh n.kids) (Gt n.kids h) h++Cu (cpW n.kind) h:=by
  rw [Ag5];unfold Ra;split
  ·rfl
  ·rw [As7]
 refine Hands.run (n:=1) (m:=1) Tryz.func237 ?_
 refine AK.if_ (fun h31=>?_) (fun h31=>?_)
 ·have h31':n.kind=31:=by simpa using h31
  have hT:Qz n.kind n.name n.num (Bh n.kids)=[Kg,n.name]:=by unfold Qz;rw [if_pos h31']<;>rfl
  rw [if_pos (by simp [Kk,h31']),hT] at hO
  rw [hT] at hst
  rw [hO] at hl ⊢
  have hfl:=Er ([Kg,n.name]++[[59]]) h
  have hwl:=Dw ([Kg,n.name]++[[59]]) h (Bg hst (Ba (by simp)))
  refine AK.mintB 0 0 2 (bx:=[[[Je 270 0 b,.buf 5 s 0,.sl [] (.tok 1),vi h]],[Af n]]) (tk:=[s.length,0]) rfl rfl rfl rfl rfl rfl ?_
  refine AK.hc (τ':=[0,1]) [0] [0,1] ((Ajk Kg n.name).n b s h) ?_
  refine AK.hc (τ':=[0,1]) [0] [0,1] (Gj [59] b s ([Kg,n.name]) h (by simp<;>omega)) ?_
  refine AK.hc (τ':=[0]) [0] [0] (Li b s ([Kg,n.name]++[[59]]) h (by omega) (by simp<;>omega) (by omega) (by omega) (Pz (Bg hst (Ba (by simp))))) ?_
  exact AK.fb Tryz.func237 rfl rfl
 have h31':n.kind≠31:=by simpa using h31
 refine AK.if_ (fun h32=>?_) (fun h32=>?_)
 ·have h32':n.kind=32:=by simpa using h32
  refine AK.pc (Kl n.num hn.2.1 hn.2.2.1) ?_
  refine AK.if_ (fun hm=>?_) (fun hm=>?_)
  ·have hm':n.num=-1:=by simpa using hm
   have hT:Qz n.kind n.name n.num (Bh n.kids)=[Dd,n.name,[91],[63],[93]]:=by unfold Qz;rw [if_neg h31',if_pos h32',if_pos hm']<;>rfl
   rw [if_pos (by simp [Kk,h32']),hT] at hO
   rw [hT] at hst
   rw [hO] at hl ⊢
   have hfl:=Er ([Dd,n.name,[91],[63],[93]]++[[59]]) h
   have hwl:=Dw ([Dd,n.name,[91],[63],[93]]++[[59]]) h (Bg hst (Ba (by simp)))
   refine AK.mintB 0 0 2 (bx:=[[[Je 270 0 b,.buf 5 s 0,.sl [] (.tok 1),vi h]],[Af n]]) (tk:=[s.length,0]) rfl rfl rfl rfl rfl rfl ?_
   refine AK.hc (τ':=[0,1]) [0] [0,1] ((Awl Dd n.name [91] [63] [93]).n b s h) ?_
   refine AK.hc (τ':=[0,1]) [0] [0,1] (Gj [59] b s ([Dd,n.name,[91],[63],[93]]) h (by simp<;>omega)) ?_
   refine AK.hc (τ':=[0]) [0] [0] (Li b s ([Dd,n.name,[91],[63],[93]]++[[59]]) h (by omega) (by simp<;>omega) (by omega) (by omega) (Pz (Bg hst (Ba (by simp))))) ?_
   exact AK.fb Tryz.func237 rfl rfl
  ·have hm':¬ n.num=-1:=by simpa using hm
   have hT:Qz n.kind n.name n.num (Bh n.kids)=[Dd,n.name,[91],Lib.itoa n.num,[93]]:=by unfold Qz;rw [if_neg h31',if_pos h32',if_neg hm']<;>rfl
   rw [if_pos (by simp [Kk,h32']),hT] at hO
   rw [hT] at hst
   rw [hO] at hl ⊢
   have hfl:=Er ([Dd,n.name,[91],Lib.itoa n.num,[93]]++[[59]]) h
   have hwl:=Dw ([Dd,n.name,[91],Lib.itoa n.num,[93]]++[[59]]) h (Bg hst (Ba (by simp)))
   refine AK.mintB 0 0 2 (bx:=[[[Je 270 0 b,.buf 5 s 0,.sl [] (.tok 1),vi h]],[Af n]]) (tk:=[s.length,0]) rfl rfl rfl rfl rfl rfl ?_
   refine AK.hc (τ':=[0,1]) [0] [0,1] ((Awl Dd n.name [91] (Lib.itoa n.num) [93]).n b s h) ?_
   refine AK.hc (τ':=[0,1]) [0] [0,1] (Gj [59] b s ([Dd,n.name,[91],Lib.itoa n.num,[93]]) h (by simp<;>omega)) ?_
   refine AK.hc (τ':=[0]) [0] [0] (Li b s ([Dd,n.name,[91],Lib.itoa n.num,[93]]++[[59]]) h (by omega) (by simp<;>omega) (by omega) (by omega) (Pz (Bg hst (Ba (by simp))))) ?_
   exact AK.fb Tryz.func237 rfl rfl
 have h32':n.kind≠32:=by simpa using h32
 refine AK.if_ (fun h21=>?_) (fun h21=>?_)
 ·have h21':n.kind=21:=by simpa using h21
  have hT:Qz n.kind n.name n.num (Bh n.kids)=[n.name,[61]]++Ap (Bf n 0):=by unfold Qz;rw [if_neg h31',if_neg h32',if_pos h21',Do]<;>rfl
  rw [if_pos (by simp [Kk,h21']),hT] at hO
  rw [hT] at hst
  rw [hO] at hl ⊢
  have hfl:=Er ([n.name,[61]]++Ap (Bf n 0)++[[59]]) h
  have hwl:=Dw ([n.name,[61]]++Ap (Bf n 0)++[[59]]) h (Bg hst (Ba (by simp)))
  refine AK.mintB 0 0 2 (bx:=[[[Je 270 0 b,.buf 5 s 0,.sl [] (.tok 1),vi h]],[Af n]]) (tk:=[s.length,0]) rfl rfl rfl rfl rfl rfl ?_
  refine AK.hc (τ':=[0,1]) [0] [0,1] ((Ajk n.name [61]).n b s h) ?_
  refine AK.pc q0 ?_
  refine AK.hc (τ':=[0,1]) [0] [0,1] (e0 (by omega) b s ([n.name,[61]]) h (by simp<;>omega)) ?_
  refine AK.hc (τ':=[0,1]) [0] [0,1] (Gj [59] b s ([n.name,[61]]++Ap (Bf n 0)) h (by simp<;>omega)) ?_
  refine AK.hc (τ':=[0]) [0] [0] (Li b s ([n.name,[61]]++Ap (Bf n 0)++[[59]]) h (by omega) (by simp<;>omega) (by omega) (by omega) (Pz (Bg hst (Ba (by simp))))) ?_
  exact AK.fb Tryz.func237 rfl rfl
 have h21':n.kind≠21:=by simpa using h21
 refine AK.if_ (fun h22=>?_) (fun h22=>?_)
 ·have h22':n.kind=22:=by simpa using h22
  have hT:Qz n.kind n.name n.num (Bh n.kids)=[n.name,[91]]++Ap (Bf n 0)++[[93],[61]]++Ap (Bf n 1):=by unfold Qz;rw [if_neg h31',if_neg h32',if_neg h21',if_pos h22',Do,Do]<;>rfl
  rw [if_pos (by simp [Kk,h22']),hT] at hO
  rw [hT] at hst
  rw [hO] at hl ⊢
  have hfl:=Er ([n.name,[91]]++Ap (Bf n 0)++[[93],[61]]++Ap (Bf n 1)++[[59]]) h
  have hwl:=Dw ([n.name,[91]]++Ap (Bf n 0)++[[93],[61]]++Ap (Bf n 1)++[[59]]) h (Bg hst (Ba (by simp)))
  refine AK.mintB 0 0 2 (bx:=[[[Je 270 0 b,.buf 5 s 0,.sl [] (.tok 1),vi h]],[Af n]]) (tk:=[s.length,0]) rfl rfl rfl rfl rfl rfl ?_
  refine AK.hc (τ':=[0,1]) [0] [0,1] ((Ajk n.name [91]).n b s h) ?_
  refine AK.pc q0 ?_
  refine AK.hc (τ':=[0,1]) [0] [0,1] (e0 (by omega) b s ([n.name,[91]]) h (by simp<;>omega)) ?_
  refine AK.hc (τ':=[0,1]) [0] [0,1] (Ajk [93] [61] b s ([n.name,[91]]++Ap (Bf n 0)) h (by simp<;>omega)) ?_
  refine AK.pc q1 ?_
  refine AK.hc (τ':=[0,1]) [0] [0,1] (e1 (by omega) b s ([n.name,[91]]++Ap (Bf n 0)++[[93],[61]]) h (by simp<;>omega)) ?_
  refine AK.hc (τ':=[0,1]) [0] [0,1] (Gj [59] b s ([n.name,[91]]++Ap (Bf n 0)++[[93],[61]]++Ap (Bf n 1)) h (by simp<;>omega)) ?_
  refine AK.hc (τ':=[0]) [0] [0] (Li b s ([n.name,[91]]++Ap (Bf n 0)++[[93],[61]]++Ap (Bf n 1)++[[59]]) h (by omega) (by simp<;>omega) (by omega) (by omega) (Pz (Bg hst (Ba (by simp))))) ?_
  exact AK.fb Tryz.func237 rfl rfl
 have h22':n.kind≠22:=by simpa using h22
 refine AK.if_ (fun h23=>?_) (fun h23=>?_)
 ·have h23':n.kind=23:=by simpa using h23
  have hT:Qz n.kind n.name n.num (Bh n.kids)=[Fx,n.name]:=by unfold Qz;rw [if_neg h31',if_neg h32',if_neg h21',if_neg h22',if_pos h23']<;>rfl
  rw [if_pos (by simp [Kk,h23']),hT] at hO
  rw [hT] at hst
  rw [hO] at hl ⊢
  have hfl:=Er ([Fx,n.name]++[[59]]) h
  have hwl:=Dw ([Fx,n.name]++[[59]]) h (Bg hst (Ba (by simp)))
  refine AK.mintB 0 0 2 (bx:=[[[Je 270 0 b,.buf 5 s 0,.sl [] (.tok 1),vi h]],[Af n]]) (tk:=[s.length,0]) rfl rfl rfl rfl rfl rfl ?_
  refine AK.hc (τ':=[0,1]) [0] [0,1] ((Ajk Fx n.name).n b s h) ?_
  refine AK.hc (τ':=[0,1]) [0] [0,1] (Gj [59] b s ([Fx,n.name]) h (by simp<;>omega)) ?_
  refine AK.hc (τ':=[0]) [0] [0] (Li b s ([Fx,n.name]++[[59]]) h (by omega) (by simp<;>omega) (by omega) (by omega) (Pz (Bg hst (Ba (by simp))))) ?_
  exact AK.fb Tryz.func237 rfl rfl
 have h23':n.kind≠23:=by simpa using h23
 refine AK.if_ (fun h27=>?_) (fun h27=>?_)
 ·have h27':n.kind=27:=by simpa using h27
  have hT:Qz n.kind n.name n.num (Bh n.kids)=[Dp]++Ap (Bf n 0):=by unfold Qz;rw [if_neg h31',if_neg h32',if_neg h21',if_neg h22',if_neg h23',if_pos h27',Do]<;>rfl
  rw [if_pos (by simp [Kk,h27']),hT] at hO
  rw [hT] at hst
  rw [hO] at hl ⊢
  have hfl:=Er ([Dp]++Ap (Bf n 0)++[[59]]) h
  have hwl:=Dw ([Dp]++Ap (Bf n 0)++[[59]]) h (Bg hst (Ba (by simp)))
  refine AK.mintB 0 0 2 (bx:=[[[Je 270 0 b,.buf 5 s 0,.sl [] (.tok 1),vi h]],[Af n]]) (tk:=[s.length,0]) rfl rfl rfl rfl rfl rfl ?_
  refine AK.hc (τ':=[0,1]) [0] [0,1] ((Gj Dp).n b s h) ?_
  refine AK.pc q0 ?_
  refine AK.hc (τ':=[0,1]) [0] [0,1] (e0 (by omega) b s ([Dp]) h (by simp<;>omega)) ?_
  refine AK.hc (τ':=[0,1]) [0] [0,1] (Gj [59] b s ([Dp]++Ap (Bf n 0)) h (by simp<;>omega)) ?_
  refine AK.hc (τ':=[0]) [0] [0] (Li b s ([Dp]++Ap (Bf n 0)++[[59]]) h (by omega) (by simp<;>omega) (by omega) (by omega) (Pz (Bg hst (Ba (by simp))))) ?_
  exact AK.fb Tryz.func237 rfl rfl
 have h27':n.kind≠27:=by simpa using h27
 refine AK.if_ (fun h28=>?_) (fun h28=>?_)
 ·have h28':n.kind=28:=by simpa using h28
  have hT:Qz n.kind n.name n.num (Bh n.kids)=[F3]:=by unfold Qz;rw [if_neg h31',if_neg h32',if_neg h21',if_neg h22',if_neg h23',if_neg h27',if_pos h28']<;>rfl
  rw [if_pos (by simp [Kk,h28']),hT] at hO
  rw [hT] at hst
  rw [hO] at hl ⊢
  have hfl:=Er ([F3]++[[59]]) h
  have hwl:=Dw ([F3]++[[59]]) h (Bg hst (Ba (by simp)))
  refine AK.mintB 0 0 2 (bx:=[[[Je 270 0 b,.buf 5 s 0,.sl [] (.tok 1),vi h]],[Af n]]) (tk:=[s.length,0]) rfl rfl rfl rfl rfl rfl ?_
  refine AK.hc (τ':=[0,1]) [0] [0,1] ((Gj F3).n b s h) ?_
  refine AK.hc (τ':=[0,1]) [0] [0,1] (Gj [59] b s ([F3]) h (by simp<;>omega)) ?_
  refine AK.hc (τ':=[0]) [0] [0] (Li b s ([F3]++[[59]]) h (by omega) (by simp<;>omega) (by omega) (by omega) (Pz (Bg hst (Ba (by simp))))) ?_
  exact AK.fb Tryz.func237 rfl rfl
 have h28':n.kind≠28:=by simpa using h28
 refine AK.if_ (fun h29=>?_) (fun h29=>?_)
 ·have h29':n.kind=29:=by simpa using h29
  have hT:Qz n.kind n.name n.num (Bh n.kids)=[Gf]:=by unfold Qz;rw [if_neg h31',if_neg h32',if_neg h21',if_neg h22',if_neg h23',if_neg h27',if_neg h28']<;>rfl
  rw [if_pos (by simp [Kk,h29']),hT] at hO
  rw [hT] at hst
  rw [hO] at hl ⊢
  have hfl:=Er ([Gf]++[[59]]) h
  have hwl:=Dw ([Gf]++[[59]]) h (Bg hst (Ba (by simp)))
  refine AK.mintB 0 0 2 (bx:=[[[Je 270 0 b,.buf 5 s 0,.sl [] (.tok 1),vi h]],[Af n]]) (tk:=[s.length,0]) rfl rfl rfl rfl rfl rfl ?_
  refine AK.hc (τ':=[0,1]) [0] [0,1] ((Gj Gf).n b s h) ?_
  refine AK.hc (τ':=[0,1]) [0] [0,1] (Gj [59] b s ([Gf]) h (by simp<;>omega)) ?_
  refine AK.hc (τ':=[0]) [0] [0] (Li b s ([Gf]++[[59]]) h (by omega) (by simp<;>omega) (by omega) (by omega) (Pz (Bg hst (Ba (by simp))))) ?_
  exact AK.fb Tryz.func237 rfl rfl
 have h29':n.kind≠29:=by simpa using h29
 have hno:Kk n.kind=false:=by simp [Kk,h31',h32',h21',h22',h23',h27',h28',h29']
 rw [if_neg (by simp [hno])] at hO
 rw [hO] at hl ⊢
 simp only [List.length_append] at hl
 have hfl:=Er (cpW n.kind) h
 have hww:Yo (cpW n.kind)∧(cpW n.kind).length≤1:=by
  unfold cpW;repeat' split
  all_goals exact ⟨fun w hw=>by simp at hw<;>(subst hw;simp),by simp⟩
 have hc:=Ae8 n hp hsz hk b s h hd (by omega)
 refine AK.hc (hb:=Ar2 b s h) (τ':=[0]) [0] [0] hc ?_
 rw [← List.append_assoc]
 refine AK.hc (τ':=[0]) [0] [0] (Li (cpB n.kind b) (s++cpP n.kind n.name (Bh n.kids) (Gt n.kids h) h) (cpW n.kind) h (by omega) (by omega) (by omega) (by simp only [List.length_append];omega) (Pz hww.1)) ?_
 exact AK.rb Tryz.func237 rfl rfl
theorem Aio:HBk Ca:=Agr Ca (fun y hy=>by cases hy) (by decide)
theorem Agt (n:Nd)(hp:PrN n)(hsz:Ai n≤1000):HS n∧HBk n:=by
 induction n using Nd.ind with
 | h n ih =>
   have hcn:=Bv n
   have hk:∀ i,HBk (Bf n i):=fun i=>by
    rcases Jj n i with h | h
    ·exact (ih _ h (hp.kid i) (by have:=Dk h;omega)).2
    ·rw [h];exact Aio
   refine ⟨Atg n hp hsz hk,Agr n (fun y hy=>(ih y hy (hp.get.2.2.2 y hy) (by have:=Dk hy;omega)).1) (by have:=Bc n.kids;omega)⟩
end Go.V
namespace Go.V
open Go
section
variable {X:Cx}{B:Bx}{E:Env}{S S':St}{w:World}{F:B7}{a:Act}{N:Nat}{R:AE→St→Prop}{ops:Array Oper}{i:Nat}{o:Oper}{p q:Operand}
theorem Xf {sz:Nat}{c1 c2:Array Value}{r1 r2:List (List AV)}(h1:Np E w sz c1 r1)(h2:Np E w sz c2 r2):Np E w sz (c1++c2) (r1++r2):=by
 obtain ⟨s1,l1,e1⟩:=h1
 obtain ⟨s2,l2,e2⟩:=h2
 refine ⟨by simp [s1,s2,Nat.add_mul],fun r hr=>(List.mem_append.1 hr).elim (l1 r) (l2 r),fun k r j x v hk hj hv=>?_⟩
 rcases Nat.lt_or_ge k r1.length with h | h
 ·rw [List.getElem?_append_left h] at hk
  have hjs:j<sz:=by rw [← l1 r (List.mem_of_getElem? hk)];exact Ad hj
  have:=Gl h hjs
  rw [Array.getElem?_append_left (by omega)] at hv
  exact e1 k r j x v hk hj hv
 ·rw [List.getElem?_append_right h] at hk
  have hle:r1.length*sz≤k*sz:=Nat.mul_le_mul_right _ h
  rw [Array.getElem?_append_right (by omega),s1] at hv
  exact e2 (k-r1.length) r j x v hk hj (by rw [← hv];congr 1;rw [Nat.sub_mul];omega)
theorem Aix {sz:Nat}{c:Array Value}{rows:List (List AV)}(h:Np E w sz c rows){n:Nat}(hn:n≤rows.length):Np E w sz (c.toList.take (n*sz)).toArray (rows.take n):=by
 obtain ⟨s,l,e⟩:=h
 have hle:n*sz≤rows.length*sz:=Nat.mul_le_mul_right _ hn
 refine ⟨by simp [s],fun r hr=>l r (List.mem_of_mem_take hr),fun k r j x v hk hj hv=>?_⟩
 rw [List.getElem?_take] at hk
 split at hk
 ·refine e k r j x v hk hj ?_
  rw [List.getElem?_toArray,List.getElem?_take] at hv
  split at hv
  ·simpa using hv
  ·cases hv
 ·cases hk
theorem Aiw {sz:Nat}{c:Array Value}{rows:List (List AV)}(h:Np E w sz c rows)(n:Nat):Np E w sz (c.toList.drop (n*sz)).toArray (rows.drop n):=by
 obtain ⟨s,l,e⟩:=h
 refine ⟨by simp [s,Nat.sub_mul],fun r hr=>l r (List.mem_of_mem_drop hr),fun k r j x v hk hj hv=>?_⟩
 rw [List.getElem?_drop] at hk
 refine e (n+k) r j x v hk hj ?_
 rw [List.getElem?_toArray,List.getElem?_drop] at hv
 rw [Nat.add_mul,Nat.add_assoc]
 simpa using hv
theorem Xg {t:Nat}{y:Ty}(hy:X.ty t=some y)(hne:y.size≠0)(n:Nat):∃ z,(zeroValue t).run X.P w=.ok z w∧(∃ ti,X.P.info? t=some ti∧ti.zero=some z∧ti.size=y.size)∧(∀ v,v∈(Builtin.zeroCells z.cells n).toList→v.oneCell'=true∨True) ∧
 (Builtin.zeroCells z.cells n).size=n*y.size∧∀ (E:Env)(w:World),Np E w y.size (Builtin.zeroCells z.cells n) (List.replicate n y.zero):=by
 obtain ⟨z,hz,hzc,hzl,ti,hi,hiz,his,hib⟩:=Kh hy w
 have hzs:z.cells.size=y.size:=by rw [← hzl,← hzc];simp
 refine ⟨z,hz,⟨ti,hi,hiz,his⟩,fun v _=>.inr trivial,by simp [Builtin.zeroCells,hzs],fun E w=>?_⟩
 refine Qn hzc hzl _ (by simp [Builtin.zeroCells,hzs]) (fun i hi=>?_)
 have hm:i % y.size<z.cells.size:=by rw [hzs];exact Nat.mod_lt _ (Nat.pos_of_ne_zero hne)
 have hr0:(Array.range (n*y.size))[i]?=some i:=by simp [hi]
 simp only [Builtin.zeroCells]
 rw [Array.getElem?_map,hzs,hr0]
 simp only [Option.map_some]
 rw [getElem!_pos z.cells (i % y.size) hm,Array.getElem?_eq_getElem hm]
theorem Ndo.boxC {t:TypeId}{x:AV}{cs:List AV}(hc:cellsOf x=some cs:=by rfl)(ho:ops[i]?=some o:=by rfl)(hw:A6 ops F o=some true:=by rfl)(hop:o.op=.box t p:=by rfl)(hp:Cr X F p=some x:=by rfl):Ndo X N ops i o F (.cptr cs) S S:=by
 intro F' E w a hl hI hF
 have hlo:=D8 hl
 rw [hop] at hlo
 have r1:=Ag hI hF ((B1 (X:=X) (F:=F) (F':=F') (o:=p) fun s hs=>hlo s (by simp [Op.operands,hs])).trans hp)
 generalize hv:a.eval p=v at r1
 obtain ⟨h1,h2,_⟩:=El r1 hc
 have ev:=Evol.push (E:=E) (w:=w) (w':=w.alloc (.cells v.cells t)) ⟨_,rfl⟩ rfl rfl rfl E.boxes.length E.toks.length
 have hI':=hI.push (w':=w.alloc (.cells v.cells t)) ⟨_,rfl⟩ rfl rfl rfl
 have hnew:(w.alloc (.cells v.cells t)).heap[w.heap.size]?=some (.cells v.cells t (0,0)):=by
  have:(w.alloc (.cells v.cells t)).heap=w.heap.push (.cells v.cells t (0,0)):=rfl
  rw [this];simp
 refine Does.val ho (Bz hF (by rw [B5 hl];exact hw)) (v:=.pointer (some ⟨w.heap.size,0,none⟩)) (by simp [execOp,hop,Instr.box,hv,newVar,newRow]) (.inl rfl) ⟨E,hI',ev,?_⟩
 refine .cptr cs w.heap.size 0 (fun j=>v.cells.getD j default) (fun j _=>Ac2 hI) (fun j hj=>?_) (fun j x hx=>?_)
 ·have:j<v.cells.size:=by omega
  rw [Nat.zero_add]
  simp only [World.cell?,hnew]
  simp [this,Array.getD]
 ·have:j<v.cells.size:=by have:=Ad hx;omega
  exact (h2 j _ x (by simp [this,Array.getD]) hx).step ev
theorem AK.nilS {l:List Nat}{k:List Item}{t t' e:TypeId}{rows:List (List AV)}{sp:Sp}(hd:X.P.underlying t=some (.slice e))(hk:∀ c:Bool,(rows≠[]→c=false)→AK X B (.inRegion ops l::k) (putF o.dst (.val (.bool c)) F) S R)
 (ho:ops[i]?=some o:=by rfl)(hw:A6 ops F o=some true:=by rfl)(hop:o.op=.binOp .eql t p (.const (.slice none 0 0)) t':=by rfl)(hp:Cr X F p=some (.sl rows sp):=by rfl)(hdst:C3 B.fn.ntmps o.dst=true:=by rfl) :
 AK X B (.inRegion ops (i::l)::k) F S R:=by
 intro E w a b cs hI hF hn hm hb
 have r1:=Ag hI hF hp
 generalize hv:a.eval p=v at r1
 have hrun:∃ c:Bool,(rows≠[]→c=false)∧(execOp a.eval o).run X.P w=.ok (.value (.bool c)) w:=by
  cases r1 with
  | sl _ _ a' n cap b' o' sz vals hn' hx ha hsz hm hc hr hs hcap =>
    refine ⟨a'.isNone,fun hne=>?_,by simp [execOp,hop,hv,show a.eval (.const (.slice none 0 0))=.slice none 0 0 from rfl,eqGuard,binOp,run_equal_slice_nil w t e a' n cap hd]⟩
    rw [ha (by rw [← hn'];exact fun h=>hne (List.length_eq_zero_iff.1 h))];rfl
 obtain ⟨c,hc,hrun⟩:=hrun
 have hdo:Does X ops i a w fun v w'=>∃ E',Inv X E' S w'∧Evol E w E' w' E.boxes.length E.toks.length∧Rel E' w' v (.val (.bool c)) :=
  Does.val ho (Bz hF hw) hrun (.inl rfl) ⟨E,hI,Evol.refl _ _ _ _,.val _⟩
 have nt:E.toks.length=S.toks.length:=by rw [← hI.nt];simp
 obtain ⟨v',w',⟨E',h1,h2,h3⟩,h4⟩:=hdo b k cs l
 have hF':=(hF.step h2).putF hdst h3
 have h4':=h4
 rw [ho] at h4'
 exact Fin.from h4' (h2.weaken (by rw [hI.nb];exact hn) (by omega)) (hk c hc E' w' _ b cs h1 hF' hn hm hb)
theorem AK.cloneB {l:List Nat}{k:List Item}{c:Call}{tt tx e e':Nat}{y yx ye:Ty}{new:List (List AV)}{sp:Sp}(hk:∀ cc:Nat,AK X B (.inRegion ops l::k) (putF o.dst (.bsl S.boxes.length new.length) F) ⟨S.boxes++[new++List.replicate cc ye.zero],S.toks⟩ R)
 (hl':∀ r,r∈new→r.length=ye.size)(hc:∀ r,r∈new→∀ x,x∈r→F5 x=true)(hne:new≠[])(hb:new.length≤100000000000)
 (ho:ops[i]?=some o:=by rfl)(hw:A6 ops F o=some true:=by rfl)(hop:o.op=.call c:=by rfl)(hcal:c.callee=.builtin .append:=by rfl)(hargs:c.args.toList=[p,q]:=by rfl)(htys:c.argTypes.toList=[tt,tx]:=by rfl)
 (hp:Cr X F p=some (.sl [] .tight):=by rfl)(hq:Cr X F q=some (.sl new sp):=by rfl)(hy:X.ty tt=some y:=by rfl)(hyk:y.k=.slc e:=by rfl)(hye:X.ty e=some ye:=by rfl)(hyx:X.ty tx=some yx:=by rfl)(hyxk:yx.k=.slc e':=by rfl)
 (hdst:C3 B.fn.ntmps o.dst=true:=by rfl):AK X B (.inRegion ops (i::l)::k) F S R:=by
 intro E w a b cs hI hF hn hm hb'
 obtain ⟨callee,args,argTypes⟩:=c
 simp only at hcal hargs htys
 subst hcal
 have ha:args=#[p,q]:=by rw [← Array.toList_inj];exact hargs
 have ht:argTypes=#[tt,tx]:=by rw [← Array.toList_inj];exact htys
 subst ha;subst ht
 have r1:=Ag hI hF hp
 have r2:=Ag hI hF hq
 obtain ⟨d1,hd1,hk1⟩:=(X.ty_ok tt y hy).agg
 simp only [hyk] at hk1
 obtain ⟨rfl,ye',hye',hne0⟩:=hk1
 rw [hye] at hye';cases hye'
 obtain ⟨d2,hd2,hk2⟩:=(X.ty_ok tx yx hyx).agg
 simp only [hyxk] at hk2
 obtain ⟨rfl,_⟩:=hk2
 obtain ⟨ti,z,hi,hsz,hby,hzv,hzc,hzl,_⟩:=(X.ty_ok e ye hye).info
 have hnew:0<new.length:=List.length_pos_iff.2 hne
 obtain ⟨vals2,hsrc,hr2⟩:=Af2 hd2 r2 hl' hc hne
 rw [← hsz] at hsrc
 generalize hu:a.eval p=u at r1
 generalize hv:a.eval q=v at hsrc
 have key:∃ cc w',(Builtin.append_ #[tt,tx] o.type #[u,v]).run X.P w=.ok (.slice (some ⟨w.heap.size,0,none⟩) new.length cc) w'∧new.length≤cc ∧
  w'.heap=w.heap.push (.cells ((Ch new.length ti.size vals2).toArray++Builtin.zeroCells z.cells (cc-new.length)) e (0,0))∧w'.os=w.os∧w'.tape=w.tape∧w'.output=w.output:=by
  cases r1 with
  | sl _ _ a' n cap bb oo sz vals hn' hx ha hszr hm hcl hr hs hcap =>
    have hn0:n=0:=by simpa using hn'.symm
    subst hn0
    have hcap0:cap=0:=hs
    subst hcap0
    have hold:(Builtin.firstCells ti.size 0 (.slice a' 0 0)).run X.P w.drew=.ok ([]:List Value).toArray w.drew:=by
     cases a' with
     | none=>exact run_firstCells_none _ _ _ _ _
     | some a0=>exact run_firstCells_some _ _ _ _ _ _ _ (by simp) (fun j v hj=>by simp at hj)
    have hby':(0+new.length)*ti.bytes≤140737488355328:=Nat.le_trans (Nat.mul_le_mul_left _ hby) (by omega)
    have hrun:=run_append_grow_src w tt tx o.type e ti z hd1 hi hzv a' 0 0 [] hold v new.length _ hsrc (by omega) (by omega) (growslice_fits (by omega) hby')
    have hcc:=grownCap_ge w (0+new.length) 0 e
    simp only [Nat.zero_add,List.nil_append] at hrun hcc
    exact ⟨_,_,hrun,hcc,rfl,rfl,rfl,rfl⟩
 obtain ⟨cc,w',hrun,hcc,hheap,hos,htp,hout⟩:=key
 obtain ⟨z',hz',⟨ti',hi',hiz',his'⟩,_,hzz,hgz⟩:=Xg (X:=X) (w:=w) hye hne0 (cc-new.length)
 rw [hi] at hi';cases hi'
 rw [hzv] at hiz';cases hiz'
 have hg1:Np E w ye.size (Ch new.length ti.size vals2).toArray new:=by
  refine ⟨by simp [Cl,hsz],hl',fun kk r j x v' hkk hj hv'=>?_⟩
  have h1:=Ad hkk
  have h2:j<ye.size:=by rw [← hl' r (List.mem_of_getElem? hkk)];exact Ad hj
  rw [List.getElem?_toArray,hsz,Ha h1 h2] at hv'
  cases hv'
  exact hr2 kk j r x hkk hj
 have hg:=Xf hg1 (hgz E w)
 obtain ⟨ev,hI'⟩:=hI.newBox (w':=w') hheap hos htp hout hg.1 hg.2.1 hg.2.2
 have hnb:E.boxes.length=S.boxes.length:=hI.nb
 have hrel:Rel (E.addBox w.heap.size ye.size) w' (.slice (some ⟨w.heap.size,0,none⟩) new.length cc) (.bsl S.boxes.length new.length) :=
  .bsl _ _ ye.size _ _ (by rw [← hnb];exact getElem?_snoc_new _ _) hcc
 have hdo:Does X ops i a w fun v w'=>∃ E',Inv X E' ⟨S.boxes++[new++List.replicate (cc-new.length) ye.zero],S.toks⟩ w'∧Evol E w E' w' E.boxes.length E.toks.length∧Rel E' w' v (.bsl S.boxes.length new.length) :=
  Does.val ho (Bz hF hw) (by simp [execOp,hop,resolve,invoke,builtin,hu,hv,hrun]) (.inl rfl) ⟨_,hI',ev,hrel⟩
 have nt:E.toks.length=S.toks.length:=by rw [← hI.nt];simp
 obtain ⟨v',w2,⟨E',h1,h2,h3⟩,h4⟩:=hdo b k cs l
 have hF':=(hF.step h2).putF hdst h3
 have h4':=h4
 rw [ho] at h4'
 exact Fin.from h4' (h2.weaken (by rw [hI.nb];exact hn) (by omega)) (hk (cc-new.length) E' w2 _ b cs h1 hF' (by simp;omega) hm hb')
theorem Aic {t e b n:Nat}{hi:Option Operand}{h:Int}{y ye:Ty}(h0:0≤h)(h2:h≤(n:Int))(ho:ops[i]?=some o:=by rfl)(hw:A6 ops F o=some true:=by rfl)(hop:o.op=.slice t p none hi none:=by rfl)(hp:Cr X F p=some (.bsl b n):=by rfl)
 (hhi:O6 X F hi (n:Int)=some h:=by rfl)(hy:X.ty t=some y:=by rfl)(hyk:y.k=.slc e:=by rfl)(hye:X.ty e=some ye:=by rfl):Ndo X N ops i o F (.bsl b h.toNat) S S:=by
 refine Ndo.val ho hw fun F' E w a hc hI hF=>?_
 rw [hop] at hc
 have r1:=Ag hI hF ((hc p (by simp [Op.operands])).trans hp)
 have b2:=Sr hI hF (show O6 X F' hi (n:Int)=some h by rw [Mt fun x hx=>hc x (by subst hx;simp [Op.operands])];exact hhi)
 obtain ⟨d,hdd,hd2⟩:=(X.ty_ok t y hy).agg
 simp only [hyk] at hd2
 obtain ⟨rfl,ye',hye',hne0⟩:=hd2
 rw [hye] at hye';cases hye'
 generalize hu:a.eval p=u at r1
 cases r1 with
 | bsl _ blk sz _ cap hB hcap =>
   have hb:=H0 (X:=X) (isS:=true) (len:=n) (cap:=cap) (lo:=none) (hi:=hi.map a.eval) (l:=0) (h:=h) (.inl ⟨rfl,rfl⟩)
    (by rcases b2 with ⟨rfl,rfl⟩ | ⟨x,k,rfl,hx⟩
        ·exact .inl ⟨rfl,rfl⟩
        ·exact .inr ⟨k,by simp [hx]⟩) (Int.le_refl 0) h0 h2 hcap w
   refine ⟨.slice (some ⟨blk,0,none⟩) h.toNat cap,?_,.bsl b blk sz h.toNat cap hB (by omega)⟩
   simp [execOp,hop,hu,Instr.sliceAt,Instr.slice,run_underlying hdd,hb,Ci hye,Dy]
theorem Aif {t e b n:Nat}{lo:Operand}{ik:IntKind}{l:Nat}{y ye:Ty}(h2:l<n)(ho:ops[i]?=some o:=by rfl)(hw:A6 ops F o=some true:=by rfl)(hop:o.op=.slice t p (some lo) none none:=by rfl)(hp:Cr X F p=some (.bsl b n):=by rfl)
 (hlo:Cr X F lo=some (.val (.int ik l)):=by rfl)(hy:X.ty t=some y:=by rfl)(hyk:y.k=.slc e:=by rfl)(hye:X.ty e=some ye:=by rfl){rows:List (List AV)}(hS:S.boxes[b]?=some rows)(hrl:∀ r,r∈rows→r.length=ye.size)(hne:rows≠[]):Ndo X N ops i o F (.bst b l (n-l)) S S:=by
 refine Ndo.val ho hw fun F' E w a hc hI hF=>?_
 rw [hop] at hc
 have r1:=Ag hI hF ((hc p (by simp [Op.operands])).trans hp)
 have r2:=Ag hI hF ((hc lo (by simp [Op.operands])).trans hlo)
 obtain ⟨d,hdd,hd2⟩:=(X.ty_ok t y hy).agg
 simp only [hyk] at hd2
 obtain ⟨rfl,ye',hye',hne0⟩:=hd2
 rw [hye] at hye';cases hye'
 generalize hu:a.eval p=u at r1
 generalize hv:a.eval lo=v at r2
 cases r2
 cases r1 with
 | bsl _ blk sz _ cap hB hcap =>
   obtain ⟨arr,te,hh,hs,hlen,hrel⟩:=hI.box b blk sz rows hB hS
   have hsz:sz=ye.size:=by
    cases rows with
    | nil=>exact absurd rfl hne
    | cons r rs=>rw [← hlen r (by simp),hrl r (by simp)]
   subst hsz
   have hb:=H0 (X:=X) (isS:=true) (len:=n) (cap:=cap) (lo:=some (.int ik l)) (hi:=none) (l:=(l:Int)) (h:=(n:Int)) (.inr ⟨ik,rfl⟩) (.inl ⟨rfl,rfl⟩) (by omega) (by omega) (Int.le_refl _) hcap w
   simp only [Int.toNat_natCast] at hb
   refine ⟨.slice (some ⟨blk,l*ye.size,none⟩) (n-l) (cap-l),?_,.bst b blk ye.size l (n-l) (cap-l) hB⟩
   have hcl:¬ cap=l:=by omega
   simp [execOp,hop,hu,hv,Instr.sliceAt,Instr.slice,run_underlying hdd,hb,Ci hye,Dy,hcl]
theorem Ndo.clearB {c:Call}{tt e b s n:Nat}{y ye:Ty}{rows:List (List AV)}{bx:List (List (List AV))}(hn:0<n)(hS:S.boxes[b]?=some rows)(hin:s+n≤rows.length)(hrl:∀ r,r∈rows→r.length=ye.size)
 (hbx:S.boxes.set b (rows.take s++(List.replicate n ye.zero++rows.drop (s+n)))=bx)(hz1:∀ x,x∈ye.zero→F5 x=true)(ho:ops[i]?=some o:=by rfl)(hw:A6 ops F o=some true:=by rfl)(hop:o.op=.call c:=by rfl)(hcal:c.callee=.builtin .clear:=by rfl)(hargs:c.args=#[p]:=by rfl)
 (htys:c.argTypes=#[tt]:=by rfl)(hp:Cr X F p=some (.bst b s n):=by rfl)(hy:X.ty tt=some y:=by rfl)(hyk:y.k=.slc e:=by rfl)(hye:X.ty e=some ye:=by rfl):Ndo X N ops i o F (.val (.tuple #[])) S ⟨bx,S.toks⟩:=by
 subst hbx
 intro F' E w a hlk hI hF
 obtain ⟨callee,args,argTypes⟩:=c
 simp only at hcal hargs htys
 subst hcal;subst hargs;subst htys
 have hlo:=D8 hlk
 rw [hop] at hlo
 have r1:=Ag hI hF ((B1 (X:=X) (F:=F) (F':=F') (o:=p) fun s hs=>hlo s (by simp [Op.operands,Call.operands,hs])).trans hp)
 obtain ⟨d1,hd1,hk1⟩:=(X.ty_ok tt y hy).agg
 simp only [hyk] at hk1
 obtain ⟨rfl,ye',hye',hne0⟩:=hk1
 rw [hye] at hye';cases hye'
 generalize hu:a.eval p=u at r1
 cases r1 with
 | bst _ blk sz _ _ cap hB =>
   obtain ⟨arr,te,hh,hs,hlen,hrel⟩:=hI.box b blk sz rows hB hS
   obtain ⟨r0,hr0⟩:=Ac rows (i:=0) (by omega)
   have hsz:sz=ye.size:=by rw [← hlen r0 (List.mem_of_getElem? hr0),hrl r0 (List.mem_of_getElem? hr0)]
   subst hsz
   obtain ⟨z,hz,_,_,hzz,hgz⟩:=Xg (X:=X) (w:=w) hye hne0 n
   have hg:Np E w ye.size arr rows:=⟨hs,hlen,hrel⟩
   have hg2:=Xf (Aix hg (n:=s) (by omega)) (Xf (hgz E w) (Aiw hg (s+n)))
   have hfit:s*ye.size+(Builtin.zeroCells z.cells n).toList.length≤arr.size:=by
    rw [Array.length_toList,hzz,← Nat.add_mul,hs];exact Nat.mul_le_mul_right _ hin
   have hone:∀ v,v∈(Builtin.zeroCells z.cells n).toList→v.oneCell'=true:=fun v hv=>by
    obtain ⟨q,hq⟩:=Bo hv
    have hq':(Builtin.zeroCells z.cells n)[q]?=some v:=by simpa using hq
    have hlt:q<n*ye.size:=by have:=Ad hq;rw [Array.length_toList,hzz] at this;exact this
    have hpos:0<ye.size:=Nat.pos_of_ne_zero hne0
    have hk:q / ye.size<n:=Nat.div_lt_of_lt_mul (by rw [Nat.mul_comm];exact hlt)
    have hzl:=hg2.2.1 ye.zero (List.mem_append_right _ (List.mem_append_left _ (List.mem_replicate.2 ⟨by omega,rfl⟩)))
    obtain ⟨x,hx⟩:=Ac ye.zero (i:=q % ye.size) (by rw [hzl];exact Nat.mod_lt _ hpos)
    have:=(hgz E w).2.2 (q / ye.size) ye.zero (q % ye.size) x v (by simp [hk]) hx (by rw [Nat.mul_comm,Nat.div_add_mod];exact hq')
    exact I0 this (hz1 x (List.mem_of_getElem? hx))
   have hst:=run_storeCells_at X.P blk (s*ye.size) te (Builtin.zeroCells z.cells n).toList 0 arr w hh (by simpa using hfit) hone
   simp only [Nat.add_zero] at hst
   have hnn:¬ n=0:=by omega
   have hrun:(Builtin.clear_ #[tt] o.type #[.slice (some ⟨blk,s*ye.size,none⟩) n cap]).run X.P w=.ok (.tuple #[]) (w.setRow blk (arr.toList.take (s*ye.size)++(Builtin.zeroCells z.cells n).toList++arr.toList.drop (s*ye.size+(Builtin.zeroCells z.cells n).toList.length)).toArray):=by
    obtain ⟨m,rfl⟩:∃ m,n=m+1:=⟨n-1,by omega⟩
    simp [Builtin.clear_,run_underlying hd1,hz,hst]
   have harr:(arr.toList.take (s*ye.size)++(Builtin.zeroCells z.cells n).toList++arr.toList.drop (s*ye.size+(Builtin.zeroCells z.cells n).toList.length)).toArray =
    (arr.toList.take (s*ye.size)).toArray++(Builtin.zeroCells z.cells n++(arr.toList.drop ((s+n)*ye.size)).toArray):=by
    rw [← Array.toList_inj]
    simp only [Array.toList_append,List.append_assoc]
    rw [Array.length_toList,hzz,← Nat.add_mul]
   rw [harr] at hrun
   obtain ⟨ev,hI'⟩:=hI.setBox hB hS hh rfl hg2.1 hg2.2.1 hg2.2.2
   exact Does.val ho (Bz hF (by rw [B5 hlk];exact hw)) (by simp [execOp,hop,resolve,invoke,builtin,hu,hrun]) (.inl rfl) ⟨E,hI',ev,.val _⟩
theorem Ads {R:Type}:∀ (l xs:List AV)(k:List AV→Option R),l.length=xs.length→U1 l 0 xs k=k xs
 | [],[],k,_=>by simp [U1]
 | a::l,x::xs,k,h=>by simp only [U1];exact Ads l xs _ (by simpa using h)
 | [],_::_,k,h=>by simp at h
 | _::_,[],k,h=>by simp at h
theorem Acb {α R:Type}:∀ (l:List α)(n:Nat)(x:α)(k:List α→Option R),n<l.length→Sa l n x k=k (l.set n x)
 | a::l,0,x,k,_=>by simp [Sa]
 | a::l,n+1,x,k,h=>by simp only [Sa];rw [Acb l n x _ (by simpa using h)];rfl
 | [],n,x,k,h=>by simp at h
theorem Sd {b r sz:Nat}{x:AV}{xs cs:List AV}{rows:List (List AV)}(hb:S.boxes[b]?=some rows)(hr:rows[r]?=some cs)(hc:cellsOf x=some xs)(hl:xs.length=sz)(hl':cs.length=sz) :
 U9 S sz (.ptr b r 0) x=some ⟨S.boxes.set b (rows.set r xs),S.toks⟩:=by
 obtain ⟨bx,tk⟩:=S
 simp only at hb
 simp only [U9,hc]
 rw [show Nat.beq xs.length sz=true by rw [hl];exact Nat.beq_refl sz]
 simp only [Jy,hb,hr]
 rw [Ads _ _ _ (by omega),Acb _ _ _ _ (Ad hr),Acb _ _ _ _ (Ad hb)]
theorem Aad {R:Type}:∀ (l:List AV)(k:List AV→Option R),Qa l.length l k=k l
 | [],k=>by simp [Qa]
 | a::l,k=>by simp only [List.length_cons,Qa];rw [Aad l]
theorem Ai5 {b r sz:Nat}{g:Bool}{cs:List AV}{rows:List (List AV)}(hb:S.boxes[b]?=some rows)(hr:rows[r]?=some cs)(hl:cs.length=sz):Zw S sz g (.ptr b r 0)=Yu g cs:=by
 subst hl
 simp only [Zw,Jy,hb,hr,Sw]
 rw [Aad]
theorem Mp {t b r:Nat}{y:Ty}{cs:List AV}{rows:List (List AV)}{x:AV}(hb:S.boxes[b]?=some rows)(hr:rows[r]?=some cs)(hl:cs.length=y.size)(ho:ops[i]?=some o:=by rfl)(hw:A6 ops F o=some true:=by rfl)(hop:o.op=.load t p:=by rfl)
 (hp:Cr X F p=some (.ptr b r 0):=by rfl)(hy:X.ty t=some y:=by rfl)(hx:Yu (Fi y.k) cs=some x:=by rfl):Ndo X N ops i o F x S S:=by
 refine Ndo.ev ho hw ?_
 rw [hop]
 simp only [Cs,Tp,hy,hp]
 rw [Ai5 hb hr hl];exact hx
end
end Go.V
namespace Go.V
open Go Go.Proofs
def Ht (p:Nd→Bool):Nat→List Nd→Int
 | _,[]=>-1
 | i,x::l=>if p x then i else Ht p (i+1) l
theorem Ta (p:Nd→Bool):∀ (l:List Nd)(i:Nat),decide (Ht p i l≥0)=l.any p
 | [],i=>by simp [Ht]
 | x::l,i=>by
   have hb:(x::l).any p=(p x||l.any p):=rfl
   rw [hb,← Ta p l (i+1)]
   by_cases h:p x=true
   ·simp [Ht,h]
   ·have h':p x=false:=by simpa using h
    have:Ht p i (x::l)=Ht p (i+1) l:=by simp only [Ht];rw [if_neg h]
    rw [this,h'];rfl
theorem X3 (l:List Nd)(f:FuncId)(caps:List AV)(p:Nd→Bool)(hl:l.length≤1000000000) [hok:OKL 0 0 caps](hp:∀ x,x∈l→Pure X f (nd x::caps) (vb (p x)))(hcat:∀ xs,J5 xs caps=some (xs++caps)) :
 Pure X 190 [.sl (Ak l) .no,.fn f caps] (vi (Ht p 0 l)):=by
 refine Pure.run Tryz.func190 ?_
 refine AK.while_ (ι:=Nat) 0 0 (fun i=>i≤l.length∧Ht p 0 l=Ht p i (l.drop i)) (fun i=>[(8,vi i),(7,vi l.length),(0,.sl (Ak l) .no),(1,.fn f caps)]) (fun _=>⟨[],[]⟩) (fun i=>l.length-i) ?_ 0 ⟨Nat.zero_le _,rfl⟩
  ⟨rfl,by rw [← Ae];rfl,rfl,rfl,trivial⟩
 intro i hi IH
 refine AK.ei (fun h=>?_) (fun h=>?_)
 ·have hlt:i<l.length:=by have:=of_decide_eq_true h;omega
  obtain ⟨x,hx⟩:=Ac l hlt
  have hd:Ht p i (l.drop i)=if p x then (i:Int) else Ht p (i+1) (l.drop (i+1)):=by rw [Av hx];rfl
  refine AK.ix i (by omega) (Ao hx) ?_
  refine AK.pc (hp x (List.mem_of_getElem? hx)) ?_ (hzs:=hcat _)
  refine AK.if_ (fun h2=>?_) (fun h2=>?_)
  ·refine AK.rt Tryz.func190 ?_
   have h3:p x=true:=h2
   rw [hi.2,hd,h3];rfl
  ·have h3:p x=false:=h2
   exact IH (i+1) ⟨hlt,by rw [hi.2,hd,h3];rfl⟩ (by omega) _ _ ⟨vsx (by omega),rfl,rfl,rfl,trivial⟩ rfl rfl rfl
 ·have:i=l.length:=by have:=of_decide_eq_false h;omega
  refine AK.rt Tryz.func190 ?_
  rw [hi.2,this,List.drop_length];rfl
theorem P3 (l:List Nd)(f:FuncId)(caps:List AV)(p:Nd→Bool)(hl:l.length≤1000000000) [hok:OKL 0 0 caps](hp:∀ x,x∈l→Pure X f (nd x::caps) (vb (p x)))(hcat:∀ xs,J5 xs caps=some (xs++caps)) :
 Pure X 140 [.sl (Ak l) .no,.fn f caps] (vb (l.any p)):=by
 refine Pure.run Tryz.func140 ?_
 refine AK.pc (X3 l f caps p hl hp hcat) ?_
 refine AK.rt Tryz.func140 ?_
 rw [← Ta p l 0];rfl
theorem As1 (xs:List AV):J5 xs []=some (xs++[]):=by simp [J5]
theorem Ak8 (x:AV)(xs:List AV):J5 xs [x]=some (xs++[x]):=by simp [J5,Aaz]
theorem Adb (n:Nd):longN n=(decide (8<n.name.length)||n.kids.any longN):=by
 have:∀ l:List Nd,longL l=l.any longN:=by
  intro l
  induction l with
  | nil=>rfl
  | cons x l ih=>simp [longL,ih]
 cases n;rw [longN,this];rfl
theorem Aui (n:Nd)(hn:Ai n≤1000000000):Pure X 236 [nd n] (vb (longN n)):=by
 induction n using Nd.ind with
 | h n ih =>
   have hc:=Bv n
   have hll:=Bc n.kids
   have hq:=P3 n.kids 236 [] longN (by omega) (fun x hx=>ih x hx (by have:=Dk hx;omega)) As1
   rw [Adb]
   refine Pure.run Tryz.func236 ?_
   refine AK.gd (fun h=>?_) (fun h=>?_)
   ·have h':8<n.name.length:=by have:=of_decide_eq_true h;rw [C7] at this;omega
    refine AK.rz Tryz.func236 ?_
    rw [decide_eq_true h'];rfl
   ·have h':¬ 8<n.name.length:=by have:=of_decide_eq_false h;rw [C7] at this;omega
    refine AK.pc hq ?_
    refine AK.rz Tryz.func236 ?_
    rw [decide_eq_false h'];rfl
noncomputable def Vy (a b:List Nd):Bool:=@decide (a=b) (Classical.propDecidable _)
theorem Qy {a b:List Nd}:Vy a b=true↔a=b:=by unfold Vy;exact @decide_eq_true_iff _ (Classical.propDecidable _)
theorem Anu (a b:Nd):P6 a b=((a.kind==b.kind)&&((a.name==b.name)&&((a.num==b.num)&&Vy a.kids b.kids))):=by
 rw [Bool.eq_iff_iff]
 simp only [Nb,Bool.and_eq_true,beq_iff_eq,Qy]
 cases a;cases b
 simp
theorem Ana (a b:List Nd)(ha:a.length≤1000000000)(hb:b.length≤1000000000)(h:∀ x,x∈a→∀ y,y∈b→Pure X 239 [nd x,nd y] (vb (P6 x y))) :
 Pure X 270 [.sl (Ak a) .no,.sl (Ak b) .no,.fn 239 []] (vb (Vy a b)):=by
 refine Pure.run Tryz.func270 ?_
 refine AK.if_ (fun h1=>?_) (fun h1=>?_)
 ·have h1':a.length≠b.length:=by
   rw [Ae,Ae] at h1
   simp at h1;omega
  refine AK.rz Tryz.func270 ?_
  have:Vy a b=false:=by
   cases h:Vy a b with
   | false=>rfl
   | true=>rw [Qy.1 h] at h1';exact absurd rfl h1'
  rw [this]
 have h1':a.length=b.length:=by
  rw [Ae,Ae] at h1
  simp at h1;omega
 refine AK.while_ (ι:=Nat) 0 0 (fun i=>i≤a.length∧a.take i=b.take i) (fun i=>[(17,vi i),(16,vi a.length),(15,.sl (Ak a) .no),(0,.sl (Ak a) .no),(1,.sl (Ak b) .no),(2,.fn 239 [])]) (fun _=>⟨[],[]⟩) (fun i=>a.length-i) ?_ 0
  ⟨Nat.zero_le _,by simp⟩ ⟨rfl,by rw [← Ae];rfl,rfl,rfl,rfl,rfl,trivial⟩
 intro i hi IH
 refine AK.ei (fun h2=>?_) (fun h2=>?_)
 ·have hlt:i<a.length:=by have:=of_decide_eq_true h2;omega
  obtain ⟨x,hx⟩:=Ac a hlt
  obtain ⟨y,hy⟩:=Ac b (i:=i) (by omega)
  refine AK.ix i (by omega) (Ao hx) ?_
  refine AK.ix i (by omega) (Ao hy) ?_
  refine AK.pc (h x (List.mem_of_getElem? hx) y (List.mem_of_getElem? hy)) ?_
  refine AK.if_ (fun h3=>?_) (fun h3=>?_)
  ·have h3':P6 x y=false:=by have:(!P6 x y)=true:=h3;simpa using this
   refine AK.rz Tryz.func270 ?_
   have:Vy a b=false:=by
    cases h:Vy a b with
    | false=>rfl
    | true =>
      have:=Qy.1 h
      subst this
      rw [hx] at hy;cases hy
      rw [Nb.2 rfl] at h3';cases h3'
   rw [this]
  ·have h3':P6 x y=true:=by have:(!P6 x y)=false:=h3;simpa using this
   have:=Nb.1 h3'
   subst this
   exact IH (i+1) ⟨hlt,by rw [List.take_add_one,List.take_add_one,hi.2,hx,hy]⟩ (by omega) _ _ ⟨vsx (by omega),rfl,rfl,rfl,rfl,rfl,trivial⟩ rfl rfl rfl
 ·have hie:i=a.length:=by have:=of_decide_eq_false h2;omega
  have he:=hi.2
  rw [hie] at he
  rw [List.take_length,h1',List.take_length] at he
  refine AK.rz Tryz.func270 ?_
  rw [Qy.2 he]
theorem Auk (a b:Nd)(ha:Ai a≤1000000000)(hb:Ai b≤1000000000):Pure X 239 [nd a,nd b] (vb (P6 a b)):=by
 induction a using Nd.ind generalizing b with
 | h a ih =>
   have hca:=Bv a
   have hcb:=Bv b
   have hla:=Bc a.kids
   have hlb:=Bc b.kids
   have hq:=Ana a.kids b.kids (by omega) (by omega) fun x hx y hy=>ih x hx y (by have:=Dk hx;omega) (by have:=Dk hy;omega)
   rw [Anu]
   refine Pure.run Tryz.func239 ?_
   refine AK.gd (fun h1=>?_) (fun h1=>?_)
   ·have h1':(a.kind==b.kind)=true:=h1
    rw [h1',Bool.true_and]
    refine AK.gd (fun h2=>?_) (fun h2=>?_)
    ·have h2':(a.name==b.name)=true:=h2
     rw [h2',Bool.true_and]
     refine AK.gd (fun h3=>?_) (fun h3=>?_)
     ·have h3':(a.num==b.num)=true:=h3
      rw [h3',Bool.true_and]
      refine AK.pc hq ?_
      exact AK.rz Tryz.func239 rfl
     ·have h3':(a.num==b.num)=false:=h3
      rw [h3']
      exact AK.rz Tryz.func239 rfl
    ·have h2':(a.name==b.name)=false:=h2
     rw [h2']
     refine AK.gn ?_
     exact AK.rz Tryz.func239 rfl
   ·have h1':(a.kind==b.kind)=false:=h1
    rw [h1']
    refine AK.gn ?_
    refine AK.gn ?_
    exact AK.rz Tryz.func239 rfl
theorem Aev (b:Bool)(s:List UInt8)(h:Int):RinB [1] [0] [[bN (Je 270 1 b) s h]] [[bN (Je 270 0 b) s h]] :=
 have h1:RinC [1] [0] (Je 270 1 b) (Je 270 0 b):=inferInstance
 have h2:RinC [1] [0] (.buf 5 s 0) (.buf 5 s 0):=inferInstance
 have h3:Ren true [1] [0] (.sl [] .tight) (.sl [] .tight):=T4 .nil (.inr (.inr (.inr (.inl ⟨rfl,rfl⟩))))
 have h4:RinC [1] [0] (vi h) (vi h):=inferInstance
 ⟨.cons (.cons (.cons h1.s (.cons h2.s (.cons h3 (.cons h4.s .nil)))) .nil) .nil⟩
theorem Ajf {s:List UInt8}(h:(C6 s).2.1=0):(C6 s).2.2=0:=by
 unfold C6 at h ⊢
 split at h
 ·rename_i h0
  rw [if_pos h0]
  split at h
  ·simp at h
  ·rename_i hb
   rw [if_neg hb]
   split at h
   ·simp at h
   ·rename_i hl
    rw [if_neg hl]
 ·rename_i h0
  exact absurd h h0
theorem Aby (s:List UInt8):Ai (C6 s).1≤500:=by
 unfold C6
 split
 ·split
  ·show Ai Ca≤500;decide
  ·split
   ·show Ai Ca≤500;decide
   ·rename_i h;simp only;omega
 ·show Ai Ca≤500;decide
inductive PrI:Nd→Prop where
 | mk (k:Int) (s:List UInt8) (m:Int) (ks:List Nd) (h0:-9223372036854775808≤m) (h1:m≤9223372036854775807) (hk:∀ x,x∈ks→PrI x):PrI (.mk k s m ks)
theorem PrI.short {n:Nd}(h:PrI n)(hl:longN n=false):PrN n:=by
 induction h with
 | mk k s m ks h0 h1 hk ih =>
   rw [Adb,Bool.or_eq_false_iff] at hl
   obtain ⟨h2,h3⟩:=hl
   simp only [List.any_eq_false] at h3
   exact .mk k s m ks (by have:=of_decide_eq_false h2;simp at this;omega) h0 h1 fun x hx=>ih x hx (by have:=h3 x hx;simpa using this)
theorem Py (l:List Nd):((Ak l).take (l.length-1)).drop 0=Ak l.dropLast:=by
 rw [Al,Al,List.drop_zero,← List.map_take,List.dropLast_eq_take]
set_option maxHeartbeats 1000000 in
theorem Ajr (n:Nd)(hn:Ai n≤1000000000)(hnum:PrI n):Pure X 186 [nd n] (.tup [str (Ef n).1,vb (Ef n).2]):=by
 have hcn:=Bv n
 have hll:=Bc n.kids
 have hfl:Jh X.P 182=some [0,0]:=by kernel_rfl
 refine Pure.run Tryz.func186 ?_
 refine AK.pc (Z0 n (by omega)) ?_
 refine AK.gd (fun h1=>?_) (fun h1=>?_)
 ·have h1':Lj n=true:=h1
  refine AK.gy ?_
  refine AK.yes ?_
  have hP:Ef n=([],false):=by unfold Ef;rw [if_pos (by simp [h1'])]
  rw [hP]
  exact AK.rz Tryz.func186 rfl
 have h1':Lj n=false:=h1
 refine AK.gd (fun h2=>?_) (fun h2=>?_)
 ·have h2':n.kids.isEmpty=true:=by
   rw [Ae] at h2
   simp at h2;simp [h2]
  refine AK.yes ?_
  have hP:Ef n=([],false):=by unfold Ef;rw [if_pos (by simp [h2'])]
  rw [hP]
  exact AK.rz Tryz.func186 rfl
 have h2':n.kids.isEmpty=false:=by
  rw [Ae] at h2
  simp at h2;simpa using h2
 refine AK.pc (Aui n hn) ?_
 refine AK.if_ (fun h3=>?_) (fun h3=>?_)
 ·have h3':longN n=true:=h3
  have hP:Ef n=([],false):=by unfold Ef;rw [if_pos (by simp [h3'])]
  rw [hP]
  exact AK.rz Tryz.func186 rfl
 have h3':longN n=false:=h3
 have hsm:Ai n≤500∧B8 n≤24:=by
  simp only [Lj,decide_eq_false_iff_not] at h1'
  omega
 have hp:PrN n:=hnum.short h3'
 have hkne:n.kids≠[]:=by intro e;rw [e] at h2';simp at h2'
 have hpos:0<n.kids.length:=List.length_pos_iff.2 hkne
 obtain ⟨lst,hlst⟩:=Ac n.kids (i:=n.kids.length-1) (by omega)
 have hL:n.kids.getLastD Ca=lst:=by
  rw [List.getLastD_eq_getLast?,List.getLast?_eq_getElem?,hlst];rfl
 have hlm:lst∈n.kids:=List.mem_of_getElem? hlst
 have hlp:=hp.get.2.2.2 lst hlm
 have hdn:=G9 n
 have hlc:=Dk hlm
 have hlcn:=Bv lst
 have hw1:IntKind.i64.wrap (((Ak n.kids).length:Int)-1)=((n.kids.length-1:Nat):Int):=by rw [Ae];exact (Aa (by omega) (by omega)).trans (by omega)
 have hP:Ef n=(R6 n,!(R6 n==[])&&((C6 (R6 n)).2.1==0&&P6 (C6 (R6 n)).1 n)):=by unfold Ef;rw [if_neg (by simp [h1',h2',h3'])]
 have hT:R6 n=Hp n.kids.dropLast 0++Hp lst.kids 0:=by rw [R6,hL]
 have hS1:∀ x,x∈n.kids.dropLast→HS x∧0+B8 x≤60∧(Es x 0).length≤1000*Ai x:=fun x hx=>by
  have hm:=(List.dropLast_sublist _).subset hx
  have h1:=Dk hm
  have h2:=D2 hm
  have hx':=hp.get.2.2.2 x hm
  exact ⟨(Agt x hx' (by omega)).1,by omega,Ag6 x 0 hx' (by omega)⟩
 have hS2:∀ x,x∈lst.kids→HS x∧0+B8 x≤60∧(Es x 0).length≤1000*Ai x:=fun x hx=>by
  have h1:=Dk hx
  have h2:=D2 hx
  have h3:=D2 hlm
  have h4:=G9 lst
  have hx':=hlp.get.2.2.2 x hx
  exact ⟨(Agt x hx' (by omega)).1,by omega,Ag6 x 0 hx' (by omega)⟩
 have hcd:Ar n.kids.dropLast≤Ar n.kids:=by rw [List.dropLast_eq_take];exact Mu
 have hb1:=Abu (l:=n.kids.dropLast) (h:=0) fun x hx=>(hS1 x hx).2.2
 have hb2:=Abu (l:=lst.kids) (h:=0) fun x hx=>(hS2 x hx).2.2
 have hTl:(R6 n).length≤1000000:=by rw [hT];simp;omega
 have hdl:n.kids.dropLast.length≤1000:=by rw [List.length_dropLast];omega
 have hll2:=Bc lst.kids
 rw [hP]
 refine AK.dn 2 0 ?_
 refine Ax (fun S'=>Ndo.buildZ (cs:=[.pointer none,.slice none 0 0,.slice none 0 0,.int .i64 0]) rfl rfl rfl rfl rfl rfl) ?_
 refine Drv.w (Akv 5 rfl rfl rfl rfl rfl rfl rfl rfl) ?_
 refine Drv.e ?_
 refine Ml (A4 (Ndo.ev rfl rfl rfl) (A4 (Ndo.ev rfl rfl rfl) G8)) rfl ?_
 refine Drv.e ?_
 refine Drv.e ?_
 refine Drv.e ?_
 refine Drv.e ?_
 refine Drv.z ?_
 refine AK.as_ 5 (vi (n.kids.length-1:Nat)) ?_ (A5 hw1)
 refine AK.as_ 33 (vi (n.kids.length-1:Nat)) ?_ (A5 hw1)
 refine AK.op (V7 (l:=0) (h:=((n.kids.length-1:Nat):Int)) (r:=Ak n.kids.dropLast) rfl rfl rfl rfl rfl rfl rfl rfl rfl (by omega) (by omega) (by rw [Ae];omega) (Cz _) (by rw [Int.toNat_natCast];exact Py _)) ?_
 refine AK.while_ (ι:=Nat × List UInt8 × Bool) 2 1 (fun i=>i.1≤n.kids.dropLast.length∧i.2.1++Hp (n.kids.dropLast.drop i.1) 0=Hp n.kids.dropLast 0)
  (fun i=>[(36,vi i.1),(35,vi n.kids.dropLast.length),(34,.sl (Ak n.kids.dropLast) .no),(4,.ptr 1 0 0),(1,.ptr 0 0 0),(5,vi (n.kids.length-1:Nat))])
  (fun i=>⟨[[Af n],[bN (Je 270 1 i.2.2) i.2.1 0]],[i.2.1.length]⟩) (fun i=>n.kids.dropLast.length-i.1) ?_ (0,[],true) ⟨Nat.zero_le _,rfl⟩ ⟨rfl,by rw [← Ae n.kids.dropLast];rfl,rfl,rfl,rfl,rfl,trivial⟩ rfl rfl rfl rfl rfl
  (fun _=>inferInstance) (fun _=>inferInstance)
 rintro ⟨i,out,c⟩ ⟨hi,hO⟩ IH
 simp only at hi hO IH ⊢
 have hol:=congrArg List.length hO
 simp only [List.length_append] at hol
 refine AK.ei (fun g1=>?_) (fun g1=>?_)
 ·have hlt:i<n.kids.dropLast.length:=by have:=of_decide_eq_true g1;omega
  obtain ⟨y,hy⟩:=Ac n.kids.dropLast hlt
  obtain ⟨hs1,hs2,hs3⟩:=hS1 y (List.mem_of_getElem? hy)
  rw [Av hy] at hO hol
  simp only [Hp,List.length_append] at hO hol
  refine AK.ix i (by omega) (Ao hy) ?_
  refine AK.hc (hb:=Aev c out 0) (τ':=[0]) [1] [0] (hs1 c out 0 hs2 (by omega)) ?_
  exact IH (i+1,out++Es y 0,false) ⟨hlt,by simpa using hO⟩ (by simp only;omega) _ _ ⟨vsx (by omega),rfl,rfl,rfl,rfl,rfl,trivial⟩ rfl rfl rfl
 have hie:i=n.kids.dropLast.length:=by have:=of_decide_eq_false g1;omega
 subst hie
 rw [List.drop_eq_nil_of_le (Nat.le_refl _)] at hO
 simp only [Hp,List.append_nil] at hO
 subst hO
 refine AK.ix ((n.kids.length-1:Nat):Int) (by omega) (by rw [Int.toNat_natCast];exact Ao hlst) ?_
 refine AK.while_ (ι:=Nat × List UInt8 × Bool) 2 1 (fun i=>i.1≤lst.kids.length∧i.2.1++Hp (lst.kids.drop i.1) 0=R6 n)
  (fun i=>[(51,vi i.1),(50,vi lst.kids.length),(49,.sl (Ak lst.kids) .no),(4,.ptr 1 0 0),(1,.ptr 0 0 0)])
  (fun i=>⟨[[Af n],[bN (Je 270 1 i.2.2) i.2.1 0]],[i.2.1.length]⟩) (fun i=>lst.kids.length-i.1) ?_ (0,Hp n.kids.dropLast 0,c) ⟨Nat.zero_le _,hT.symm⟩ ⟨rfl,by rw [← Ae lst.kids];rfl,rfl,rfl,rfl,trivial⟩ rfl rfl rfl rfl rfl
  (fun _=>inferInstance) (fun _=>inferInstance)
 rintro ⟨i,out,c⟩ ⟨hi,hO⟩ IH
 simp only at hi hO IH ⊢
 have hol:=congrArg List.length hO
 simp only [List.length_append] at hol
 refine AK.ei (fun g1=>?_) (fun g1=>?_)
 ·have hlt:i<lst.kids.length:=by have:=of_decide_eq_true g1;omega
  obtain ⟨y,hy⟩:=Ac lst.kids hlt
  obtain ⟨hs1,hs2,hs3⟩:=hS2 y (List.mem_of_getElem? hy)
  rw [Av hy] at hO hol
  simp only [Hp,List.length_append] at hO hol
  refine AK.ix i (by omega) (Ao hy) ?_
  refine AK.hc (hb:=Aev c out 0) (τ':=[0]) [1] [0] (hs1 c out 0 hs2 (by omega)) ?_
  exact IH (i+1,out++Es y 0,false) ⟨hlt,by simpa using hO⟩ (by simp only;omega) _ _ ⟨vsx (by omega),rfl,rfl,rfl,rfl,trivial⟩ rfl rfl rfl
 have hie:i=lst.kids.length:=by have:=of_decide_eq_false g1;omega
 subst hie
 rw [List.drop_eq_nil_of_le (Nat.le_refl _)] at hO
 simp only [Hp,List.append_nil] at hO
 subst hO
 generalize R6 n=out at *
 have hpc:=Aby out
 have hpa:=Ajf (s:=out)
 refine AK.hc (hb:=Aev c out 0) (τ':=[0]) [1] [0] (sN c out 0 (by omega)) ?_
 refine AK.pc (Aqp out (by omega)) ?_
 generalize C6 out=T at hpc hpa ⊢
 obtain ⟨m,cd,at_⟩:=T
 simp only at hpc hpa ⊢
 refine AK.gd (fun g1=>?_) (fun g1=>?_)
 ·have g1':(out==[])=false:=by have:(!(out==[]))=true:=g1;simpa using this
  rw [g1',Bool.not_false,Bool.true_and]
  refine AK.op (Jt (r:=((cd==0)&&((at_==0)&&true))) rfl rfl rfl rfl rfl hfl rfl (.inl ⟨rfl,rfl⟩)) ?_
  refine AK.gd (fun g2=>?_) (fun g2=>?_)
  ·have g2':cd=0:=by simp at g2;exact g2.1
   refine AK.pc (Auk m n (by omega) hn) ?_
   refine AK.rz Tryz.func186 ?_
   simp [g2']
  ·have g2':¬ cd=0:=by
    intro h0
    have:=hpa h0
    simp [h0,this] at g2
   refine AK.rz Tryz.func186 ?_
   simp [g2']
 ·have g1':(out==[])=true:=by have:(!(out==[]))=false:=g1;simpa using this
  refine AK.gn ?_
  refine AK.rz Tryz.func186 ?_
  simp [g1']
theorem Ad0 (n:Nd)(hn:Ai n≤1000000000)(hnum:PrI n):Pure X 137 [nd n] (vb (Cd n)):=by
 refine Pure.run Tryz.func137 ?_
 refine AK.pc (Ajr n hn hnum) ?_
 refine AK.rz Tryz.func137 ?_
 rw [(Afo n).1]
end Go.V
