/- A part of the proof of the claim that the last text states: no condition of its own. -/
import Derived.Test.YtojhghmilenfkaaGreatDoorN9
import Derived.Lib.ItoaMem
set_option linter.unusedVariables false
set_option linter.unusedSimpArgs false
namespace Go.V
open Go Go.Proofs Go.Proofs.Tryz
abbrev PutC(r:List (List AV))(xs:Mg):Prop:=∀(b:Bool)(s:List UInt8)(ws:Mg)(h:Int),ws.length≤1000000000 →
 Hands X 294 [.ptr 0 0 0,.sl r .no] ⟨[[bP (Np 312 0 b) s ws h]],[s.length,ws.length]⟩ (.tup []) ⟨[[bP (Np 312 0 b) s (ws++xs) h]],[s.length,(ws++xs).length]⟩
theorem Jf(x:List UInt8):PutC [[str x]] [x]:=fun b s ws h hw=>Aji b s ws [x] h (by simp;omega) rfl
theorem Aqw(x y:List UInt8):PutC [[str x],[str y]] [x,y]:=fun b s ws h hw=>Aji b s ws [x,y] h (by simp;omega) rfl
theorem A5c(x y z:List UInt8):PutC [[str x],[str y],[str z]] [x,y,z]:=fun b s ws h hw=>Aji b s ws [x,y,z] h (by simp;omega) rfl
theorem A5d(x y z u:List UInt8):PutC [[str x],[str y],[str z],[str u]] [x,y,z,u]:=fun b s ws h hw=>Aji b s ws [x,y,z,u] h (by simp;omega) rfl
theorem A4e(x y z u v:List UInt8):PutC [[str x],[str y],[str z],[str u],[str v]] [x,y,z,u,v]:=fun b s ws h hw=>Aji b s ws [x,y,z,u,v] h (by simp;omega) rfl
def HE(n:Nd):Prop:=∀(b:Bool)(s:List UInt8)(ws:Mg)(h:Int),ws.length+(A1 n).length≤1000000 →
 Hands X 296 [.ptr 0 0 0,nd n] ⟨[[bP (Np 312 0 b) s ws h]],[s.length,ws.length]⟩ (.tup []) ⟨[[bP (Np 312 0 b) s (ws++A1 n) h]],[s.length,(ws++A1 n).length]⟩
theorem Ue(n:Nd)(he:HE n)(c b:Bool)(s:List UInt8)(ws:Mg)(h:Int)(hw:ws.length+(Pf true c n.kind (A1 n)).length≤1000000) :
 Hands X 314 [.ptr 0 0 0,nd n,vb true,vb c] ⟨[[bP (Np 312 0 b) s ws h]],[s.length,ws.length]⟩ (.tup []) ⟨[[bP (Np 312 0 b) s (ws++Pf true c n.kind (A1 n)) h]],[s.length,(ws++Pf true c n.kind (A1 n)).length]⟩:=by
 refine Hands.run (n:=1) (m:=2) func314 ?_;refine Hh ?_;refine Df (fun h6=>?_) (fun h6=>?_)
 ·have h6':n.kind=6:=by simpa using h6
  refine Hh ?_;refine A0 ?_;have hI:Pf true c n.kind (A1 n)=[[40]]++A1 n++[[41]]:=by unfold Pf;rw[if_pos (by simp[h6'])]
  rw[hI]at hw⊢;simp at hw;refine Ae (τ':=[0,1]) [0] [0,1] (Jf [40] b s ws h (by omega)) ?_;refine Ae (τ':=[0,1]) [0] [0,1] (he b s (ws++[[40]]) h (by simp;omega)) ?_;refine Ae (τ':=[0,1]) [0] [0,1] (Jf [41] b s (ws++[[40]]++A1 n) h (by simp;omega)) ?_;rw[←Fp,←Fp];exact Bq func314 rfl rfl
 have h6':n.kind≠6:=by simpa using h6
 refine Df (fun h7=>?_) (fun h7=>?_)
 ·have h7':n.kind=7:=by simpa using h7
  refine A0 ?_;have hI:Pf true c n.kind (A1 n)=[[40]]++A1 n++[[41]]:=by unfold Pf;rw[if_pos (by simp[h7'])]
  rw[hI]at hw⊢;simp at hw;refine Ae (τ':=[0,1]) [0] [0,1] (Jf [40] b s ws h (by omega)) ?_;refine Ae (τ':=[0,1]) [0] [0,1] (he b s (ws++[[40]]) h (by simp;omega)) ?_;refine Ae (τ':=[0,1]) [0] [0,1] (Jf [41] b s (ws++[[40]]++A1 n) h (by simp;omega)) ?_;rw[←Fp,←Fp];exact Bq func314 rfl rfl
 have h7':n.kind≠7:=by simpa using h7
 cases c
 ·refine Ii ?_;refine Ag ?_;have hI:Pf true false n.kind (A1 n)=A1 n:=by unfold Pf;rw[if_neg (by simp[h6',h7'])]
  rw[hI]at hw⊢;refine Ae (τ':=[0,1]) [0] [0,1] (he b s ws h (by omega)) ?_;exact Ec func314 rfl rfl
 ·refine Hh ?_;refine Ah (fun h8=>?_) (fun h8=>?_)
  ·have h8':n.kind=8:=by simpa using h8
   have hI:Pf true true n.kind (A1 n)=[[40]]++A1 n++[[41]]:=by unfold Pf;rw[if_pos (by simp[h8'])]
   rw[hI]at hw⊢;simp at hw;refine Ae (τ':=[0,1]) [0] [0,1] (Jf [40] b s ws h (by omega)) ?_;refine Ae (τ':=[0,1]) [0] [0,1] (he b s (ws++[[40]]) h (by simp;omega)) ?_;refine Ae (τ':=[0,1]) [0] [0,1] (Jf [41] b s (ws++[[40]]++A1 n) h (by simp;omega)) ?_;rw[←Fp,←Fp];exact Bq func314 rfl rfl
  ·have h8':n.kind≠8:=by simpa using h8
   have hI:Pf true true n.kind (A1 n)=A1 n:=by unfold Pf;rw[if_neg (by simp[h6',h7',h8'])]
   rw[hI]at hw⊢;refine Ae (τ':=[0,1]) [0] [0,1] (he b s ws h (by omega)) ?_;exact Ec func314 rfl rfl
theorem As2(k:Int)(s:List UInt8)(m:Int)(c:List (Int×Mg))(h:k≠1∧k≠2∧k≠3∧k≠4∧k≠5∧k≠6∧k≠7∧k≠8):Gf k s m c=if 11≤k∧k≤16 then eW c 0++[Ux k]++eW c 1 else[]:=by
 obtain⟨h1,h2,h3,h4,h5,h6,h7,h8⟩:=h;unfold Gf;rw[if_neg h1,if_neg h2,if_neg h3,if_neg h4,if_neg h5,if_neg (by simp[h6,h7]),if_neg h8]
theorem Acr{X:Cx}{S:St}{F:C5}{N:Nat}{ops:Array Oper}{i:Nat}{o:Oper}{t:TypeId}{ps:Array (Nat×Operand)}{vals:List (Nat×Value)}{cs:Array Value}(h:X.P.built t vals=some cs)(ho:ops[i]?=some o:=by rfl)(hw:A8 ops F o=some true:=by rfl)
 (hop:o.op=.build t ps:=by rfl)(hv:∀a:Act,ps.toList.map (fun x=>(x.1,a.eval x.2))=vals:=by intro a;rfl):Ndo X N ops i o F (.agg (cs.toList.map Ic)) S S:=by
 refine Dj ho hw fun F' E w a hc hI hF=>?_;refine⟨.agg cs,?_,.agg _ _ (by simp) fun j v x hv hx=>?_⟩
 ·have hrun:=run_build (P:=X.P) w t (ps.map fun x=>(x.1,a.eval x.2)) cs (by rw[Array.toList_map,hv a];exact h);simp[execOp,hop,hrun]
 ·simp[hv]at hx;subst hx;exact Mx v
theorem Ai3:X.P.built 337 [(0,.string ⟨#[43]⟩),(1,.string ⟨#[45]⟩)]=some #[.string ⟨#[43]⟩,.string ⟨#[45]⟩]:=by kernel_rfl
theorem An3(n:Nd)(hp:PrN n)(hsz:Ai n≤100000)(ih:n.kind≠0→∀i,HE (Bv n i)):HE n:=by
 intro b s ws h hw;have hkl:n.kids.length≤4000000000:=by have:=Bm n.kids;have:=Cj n;omega
 have q0:=Ads n 0 (by omega) hkl;have q1:=Ads n 1 (by omega) hkl;have hE:A1 n=Gf n.kind n.name n.num (B5 n.kids):=Ac4 n;rw[hE]at hw⊢;have pn:n.name.length≤8∧-9223372036854775808≤n.num∧n.num≤9223372036854775807:=by cases hp with|mk k s m ks hs h0 h1 hk=>exact⟨hs,h0,h1⟩
 refine Hands.run (n:=1) (m:=2) func296 ?_;refine Ah (fun h1=>?_) (fun h1=>?_)
 ·have h1':n.kind=1:=by simpa using h1
  have hT:Gf n.kind n.name n.num (B5 n.kids)=[Lib.itoa n.num]:=by unfold Gf;rw[if_pos h1']
  rw[hT]at hw⊢;refine Al (Amg n.num pn.2.1 pn.2.2) ?_;refine Ae (τ':=[0,1]) [0] [0,1] (Jf (Lib.itoa n.num) b s ws h (by omega)) ?_;exact Ec func296 rfl rfl
 have h1':n.kind≠1:=by simpa using h1
 refine Ah (fun h2=>?_) (fun h2=>?_)
 ·have h2':n.kind=2:=by simpa using h2
  have hT:Gf n.kind n.name n.num (B5 n.kids)=[n.name]:=by unfold Gf;rw[if_neg h1',if_pos h2']
  rw[hT]at hw⊢;refine Ae (τ':=[0,1]) [0] [0,1] (Jf n.name b s ws h (by omega)) ?_;exact Ec func296 rfl rfl
 have h2':n.kind≠2:=by simpa using h2
 refine Ah (fun h3=>?_) (fun h3=>?_)
 ·have h3':n.kind=3:=by simpa using h3
  have hT:Gf n.kind n.name n.num (B5 n.kids)=[n.name,[91]]++A1 (Bv n 0)++[[93]]:=by unfold Gf;rw[if_neg h1',if_neg h2',if_pos h3',F8]
  rw[hT]at hw⊢;simp at hw;have e0:=ih (by omega) 0;refine Ae (τ':=[0,1]) [0] [0,1] (Aqw n.name [91] b s ws h (by omega)) ?_;refine Al q0 ?_;refine Ae (τ':=[0,1]) [0] [0,1] (e0 b s (ws++[n.name,[91]]) h (by simp;omega)) ?_;refine Ae (τ':=[0,1]) [0] [0,1] (Jf [93] b s (ws++[n.name,[91]]++A1 (Bv n 0)) h (by simp;omega)) ?_;rw[←Fp,←Fp];exact Ec func296 rfl rfl
 have h3':n.kind≠3:=by simpa using h3
 refine Ah (fun h4=>?_) (fun h4=>?_)
 ·have h4':n.kind=4:=by simpa using h4
  have hT:Gf n.kind n.name n.num (B5 n.kids)=[[108,101,110],[40],n.name,[41]]:=by unfold Gf;rw[if_neg h1',if_neg h2',if_neg h3',if_pos h4']
  rw[hT]at hw⊢;refine Ae (τ':=[0,1]) [0] [0,1] (A5d [108,101,110] [40] n.name [41] b s ws h (by omega)) ?_;exact Ec func296 rfl rfl
 have h4':n.kind≠4:=by simpa using h4
 refine Ah (fun h5=>?_) (fun h5=>?_)
 ·have h5':n.kind=5:=by simpa using h5
  have hT:Gf n.kind n.name n.num (B5 n.kids)=[[32,45]]++Pf true true (Bv n 0).kind (A1 (Bv n 0)):=by unfold Gf;rw[if_neg h1',if_neg h2',if_neg h3',if_neg h4',if_pos h5',Z2]
  rw[hT]at hw⊢;simp at hw;have e0:=ih (by omega) 0;refine Ae (τ':=[0,1]) [0] [0,1] (Jf [32,45] b s ws h (by omega)) ?_;refine Al q0 ?_;refine Ae (τ':=[0,1]) [0] [0,1] (Ue (Bv n 0) e0 true b s (ws++[[32,45]]) h (by simp;omega)) ?_;rw[←Fp];exact Ec func296 rfl rfl
 have h5':n.kind≠5:=by simpa using h5
 refine Ah (fun h6=>?_) (fun h6=>?_)
 ·have h6':n.kind=6:=by simpa using h6
  have hT:Gf n.kind n.name n.num (B5 n.kids)=A1 (Bv n 0)++[[43]]++Pf true false (Bv n 1).kind (A1 (Bv n 1)):=by
   unfold Gf;rw[if_neg h1',if_neg h2',if_neg h3',if_neg h4',if_neg h5',if_pos (by simp[h6']),F8,Z2];simp[h6']
  rw[hT]at hw⊢;simp at hw;have e0:=ih (by omega) 0;have e1:=ih (by omega) 1;refine Al q0 ?_;refine Ae (τ':=[0,1]) [0] [0,1] (e0 b s ws h (by omega)) ?_;refine Bn (Acr Ai3) ?_;have hwk:IntKind.i64.wrap (n.kind-6)=0:=by rw[h6'];rfl
  refine Bn (W4 (n:=IntKind.i64.wrap (n.kind-6)) (x:=str [43]) rfl rfl rfl rfl rfl rfl rfl rfl rfl (by omega) (by omega) (by rw[hwk];rfl)) ?_;refine Ae (τ':=[0,1]) [0] [0,1] (Jf [43] b s (ws++A1 (Bv n 0)) h (by simp;omega)) ?_;refine Al q1 ?_;refine Ae (τ':=[0,1]) [0] [0,1] (Ue (Bv n 1) e1 false b s (ws++A1 (Bv n 0)++[[43]]) h (by simp;omega)) ?_;rw[←Fp,←Fp];exact Ec func296 rfl rfl
 have h6':n.kind≠6:=by simpa using h6
 refine Ah (fun h7=>?_) (fun h7=>?_)
 ·have h7':n.kind=7:=by simpa using h7
  have hT:Gf n.kind n.name n.num (B5 n.kids)=A1 (Bv n 0)++[[45]]++Pf true false (Bv n 1).kind (A1 (Bv n 1)):=by
   unfold Gf;rw[if_neg h1',if_neg h2',if_neg h3',if_neg h4',if_neg h5',if_pos (by simp[h7']),F8,Z2];simp[h7']
  rw[hT]at hw⊢;simp at hw;have e0:=ih (by omega) 0;have e1:=ih (by omega) 1;refine Al q0 ?_;refine Ae (τ':=[0,1]) [0] [0,1] (e0 b s ws h (by omega)) ?_;refine Bn (Acr Ai3) ?_;have hwk:IntKind.i64.wrap (n.kind-6)=1:=by rw[h7'];rfl
  refine Bn (W4 (n:=IntKind.i64.wrap (n.kind-6)) (x:=str [45]) rfl rfl rfl rfl rfl rfl rfl rfl rfl (by omega) (by omega) (by rw[hwk];rfl)) ?_;refine Ae (τ':=[0,1]) [0] [0,1] (Jf [45] b s (ws++A1 (Bv n 0)) h (by simp;omega)) ?_;refine Al q1 ?_;refine Ae (τ':=[0,1]) [0] [0,1] (Ue (Bv n 1) e1 false b s (ws++A1 (Bv n 0)++[[45]]) h (by simp;omega)) ?_;rw[←Fp,←Fp];exact Ec func296 rfl rfl
 have h7':n.kind≠7:=by simpa using h7
 refine Ah (fun h8=>?_) (fun h8=>?_)
 ·have h8':n.kind=8:=by simpa using h8
  have hT:Gf n.kind n.name n.num (B5 n.kids)=Pf true false (Bv n 0).kind (A1 (Bv n 0))++[[42]]++Pf true true (Bv n 1).kind (A1 (Bv n 1)):=by
   unfold Gf;rw[if_neg h1',if_neg h2',if_neg h3',if_neg h4',if_neg h5',if_neg (by simp[h6',h7']),if_pos h8',Z2,Z2]
  rw[hT]at hw⊢;simp at hw;have e0:=ih (by omega) 0;have e1:=ih (by omega) 1;refine Al q0 ?_;refine Ae (τ':=[0,1]) [0] [0,1] (Ue (Bv n 0) e0 false b s ws h (by omega)) ?_;refine Ae (τ':=[0,1]) [0] [0,1] (Jf [42] b s (ws++Pf true false (Bv n 0).kind (A1 (Bv n 0))) h (by simp;omega)) ?_;refine Al q1 ?_;refine Ae (τ':=[0,1]) [0] [0,1] (Ue (Bv n 1) e1 true b s (ws++Pf true false (Bv n 0).kind (A1 (Bv n 0))++[[42]]) h (by simp;omega)) ?_;rw[←Fp,←Fp];exact Ec func296 rfl rfl
 have h8':n.kind≠8:=by simpa using h8
 have hlo:=As2 n.kind n.name n.num (B5 n.kids) ⟨h1',h2',h3',h4',h5',h6',h7',h8'⟩;refine Ah (fun h11=>?_) (fun h11=>?_)
 ·have hk:n.kind=11:=by simpa using h11
  have hT:Gf n.kind n.name n.num (B5 n.kids)=A1 (Bv n 0)++[[60]]++A1 (Bv n 1):=by
   rw[hlo,if_pos (by omega),F8,F8,hk];rfl
  rw[hT]at hw⊢;simp at hw;have e0:=ih (by omega) 0;have e1:=ih (by omega) 1;refine Al q0 ?_;refine Ae (τ':=[0,1]) [0] [0,1] (e0 b s ws h (by omega)) ?_;have hwk:IntKind.i64.wrap (n.kind-11)=0:=by rw[hk];rfl
  refine Bn (Mp (n:=IntKind.i64.wrap (n.kind-11)) (r:=str [60]::condG.drop 1) rfl rfl rfl rfl rfl rfl rfl rfl (by rw[hwk];omega) (by rw[hwk];omega) (by rw[hwk];decide) (by rw[hwk];rfl)) ?_;refine Ae (τ':=[0,1]) [0] [0,1] (Jf [60] b s (ws++A1 (Bv n 0)) h (by simp;omega)) ?_;refine Al q1 ?_;refine Ae (τ':=[0,1]) [0] [0,1] (e1 b s (ws++A1 (Bv n 0)++[[60]]) h (by simp;omega)) ?_;rw[←Fp,←Fp];exact Ec func296 rfl rfl
 have h11':n.kind≠11:=by simpa using h11
 refine Ah (fun h12=>?_) (fun h12=>?_)
 ·have hk:n.kind=12:=by simpa using h12
  have hT:Gf n.kind n.name n.num (B5 n.kids)=A1 (Bv n 0)++[[60,61]]++A1 (Bv n 1):=by
   rw[hlo,if_pos (by omega),F8,F8,hk];rfl
  rw[hT]at hw⊢;simp at hw;have e0:=ih (by omega) 0;have e1:=ih (by omega) 1;refine Al q0 ?_;refine Ae (τ':=[0,1]) [0] [0,1] (e0 b s ws h (by omega)) ?_;have hwk:IntKind.i64.wrap (n.kind-11)=1:=by rw[hk];rfl
  refine Bn (Mp (n:=IntKind.i64.wrap (n.kind-11)) (r:=str [60,61]::condG.drop 2) rfl rfl rfl rfl rfl rfl rfl rfl (by rw[hwk];omega) (by rw[hwk];omega) (by rw[hwk];decide) (by rw[hwk];rfl)) ?_;refine Ae (τ':=[0,1]) [0] [0,1] (Jf [60,61] b s (ws++A1 (Bv n 0)) h (by simp;omega)) ?_;refine Al q1 ?_;refine Ae (τ':=[0,1]) [0] [0,1] (e1 b s (ws++A1 (Bv n 0)++[[60,61]]) h (by simp;omega)) ?_;rw[←Fp,←Fp];exact Ec func296 rfl rfl
 have h12':n.kind≠12:=by simpa using h12
 refine Ah (fun h13=>?_) (fun h13=>?_)
 ·have hk:n.kind=13:=by simpa using h13
  have hT:Gf n.kind n.name n.num (B5 n.kids)=A1 (Bv n 0)++[[62]]++A1 (Bv n 1):=by
   rw[hlo,if_pos (by omega),F8,F8,hk];rfl
  rw[hT]at hw⊢;simp at hw;have e0:=ih (by omega) 0;have e1:=ih (by omega) 1;refine Al q0 ?_;refine Ae (τ':=[0,1]) [0] [0,1] (e0 b s ws h (by omega)) ?_;have hwk:IntKind.i64.wrap (n.kind-11)=2:=by rw[hk];rfl
  refine Bn (Mp (n:=IntKind.i64.wrap (n.kind-11)) (r:=str [62]::condG.drop 3) rfl rfl rfl rfl rfl rfl rfl rfl (by rw[hwk];omega) (by rw[hwk];omega) (by rw[hwk];decide) (by rw[hwk];rfl)) ?_;refine Ae (τ':=[0,1]) [0] [0,1] (Jf [62] b s (ws++A1 (Bv n 0)) h (by simp;omega)) ?_;refine Al q1 ?_;refine Ae (τ':=[0,1]) [0] [0,1] (e1 b s (ws++A1 (Bv n 0)++[[62]]) h (by simp;omega)) ?_;rw[←Fp,←Fp];exact Ec func296 rfl rfl
 have h13':n.kind≠13:=by simpa using h13
 refine Ah (fun h14=>?_) (fun h14=>?_)
 ·have hk:n.kind=14:=by simpa using h14
  have hT:Gf n.kind n.name n.num (B5 n.kids)=A1 (Bv n 0)++[[62,61]]++A1 (Bv n 1):=by
   rw[hlo,if_pos (by omega),F8,F8,hk];rfl
  rw[hT]at hw⊢;simp at hw;have e0:=ih (by omega) 0;have e1:=ih (by omega) 1;refine Al q0 ?_;refine Ae (τ':=[0,1]) [0] [0,1] (e0 b s ws h (by omega)) ?_;have hwk:IntKind.i64.wrap (n.kind-11)=3:=by rw[hk];rfl
  refine Bn (Mp (n:=IntKind.i64.wrap (n.kind-11)) (r:=str [62,61]::condG.drop 4) rfl rfl rfl rfl rfl rfl rfl rfl (by rw[hwk];omega) (by rw[hwk];omega) (by rw[hwk];decide) (by rw[hwk];rfl)) ?_;refine Ae (τ':=[0,1]) [0] [0,1] (Jf [62,61] b s (ws++A1 (Bv n 0)) h (by simp;omega)) ?_;refine Al q1 ?_;refine Ae (τ':=[0,1]) [0] [0,1] (e1 b s (ws++A1 (Bv n 0)++[[62,61]]) h (by simp;omega)) ?_;rw[←Fp,←Fp];exact Ec func296 rfl rfl
 have h14':n.kind≠14:=by simpa using h14
 refine Ah (fun h15=>?_) (fun h15=>?_)
 ·have hk:n.kind=15:=by simpa using h15
  have hT:Gf n.kind n.name n.num (B5 n.kids)=A1 (Bv n 0)++[[61,61]]++A1 (Bv n 1):=by
   rw[hlo,if_pos (by omega),F8,F8,hk];rfl
  rw[hT]at hw⊢;simp at hw;have e0:=ih (by omega) 0;have e1:=ih (by omega) 1;refine Al q0 ?_;refine Ae (τ':=[0,1]) [0] [0,1] (e0 b s ws h (by omega)) ?_;have hwk:IntKind.i64.wrap (n.kind-11)=4:=by rw[hk];rfl
  refine Bn (Mp (n:=IntKind.i64.wrap (n.kind-11)) (r:=str [61,61]::condG.drop 5) rfl rfl rfl rfl rfl rfl rfl rfl (by rw[hwk];omega) (by rw[hwk];omega) (by rw[hwk];decide) (by rw[hwk];rfl)) ?_;refine Ae (τ':=[0,1]) [0] [0,1] (Jf [61,61] b s (ws++A1 (Bv n 0)) h (by simp;omega)) ?_;refine Al q1 ?_;refine Ae (τ':=[0,1]) [0] [0,1] (e1 b s (ws++A1 (Bv n 0)++[[61,61]]) h (by simp;omega)) ?_;rw[←Fp,←Fp];exact Ec func296 rfl rfl
 have h15':n.kind≠15:=by simpa using h15
 refine Ah (fun h16=>?_) (fun h16=>?_)
 ·have hk:n.kind=16:=by simpa using h16
  have hT:Gf n.kind n.name n.num (B5 n.kids)=A1 (Bv n 0)++[[33,61]]++A1 (Bv n 1):=by
   rw[hlo,if_pos (by omega),F8,F8,hk];rfl
  rw[hT]at hw⊢;simp at hw;have e0:=ih (by omega) 0;have e1:=ih (by omega) 1;refine Al q0 ?_;refine Ae (τ':=[0,1]) [0] [0,1] (e0 b s ws h (by omega)) ?_;have hwk:IntKind.i64.wrap (n.kind-11)=5:=by rw[hk];rfl
  refine Bn (Mp (n:=IntKind.i64.wrap (n.kind-11)) (r:=str [33,61]::condG.drop 6) rfl rfl rfl rfl rfl rfl rfl rfl (by rw[hwk];omega) (by rw[hwk];omega) (by rw[hwk];decide) (by rw[hwk];rfl)) ?_;refine Ae (τ':=[0,1]) [0] [0,1] (Jf [33,61] b s (ws++A1 (Bv n 0)) h (by simp;omega)) ?_;refine Al q1 ?_;refine Ae (τ':=[0,1]) [0] [0,1] (e1 b s (ws++A1 (Bv n 0)++[[33,61]]) h (by simp;omega)) ?_;rw[←Fp,←Fp];exact Ec func296 rfl rfl
 have h16':n.kind≠16:=by simpa using h16
 have hT:Gf n.kind n.name n.num (B5 n.kids)=[]:=by rw[hlo,if_neg (by omega)]
 rw[hT,H0];exact Ec func296 rfl rfl
theorem A3x:HE Cg:=An3 Cg (.mk 0 [] 0 [] (by simp) (by omega) (by omega) (fun x hx=>by cases hx)) (by decide) fun h=>absurd rfl h
theorem Ahn(n:Nd)(hp:PrN n)(hsz:Ai n≤100000):HE n:=by
 induction n using Nd.ind with
 |h n ih=>
  refine An3 n hp hsz fun _ i=>?_;rcases Mt n i with h|h
  ·have hc:=E5 h;have:=Cj n;exact ih _ h (hp.kid i) (by omega)
  ·rw[h];exact A3x
def Sep:List UInt8→Prop
 |[]=>True
 |c::_=>(Em c||digit c)=false
inductive Lex:List UInt8→List (List UInt8)→Prop where
 |nil:Lex [] []
 |blank (c:UInt8) (t:List UInt8) (ws:List (List UInt8)) (hc:c=32∨c=10) (h:Lex t ws):Lex (c::t) ws
 |wrd (w t:List UInt8) (ws:List (List UInt8)) (hk:Di w≠0) (he:Ll (w++t)=w.length) (h:Lex t ws):Lex (w++t) (w::ws)
theorem Vv:Di []=0:=by decide
theorem Adc{c:UInt8}{l:List UInt8}(h:Di (c::l)≠0):c≠32∧c≠10∧c≠35:=by
 have key:∀d:UInt8,d=32∨d=10∨d=35→Di (d::l)=0:=by
  intro d hd;have h1:has Ui (d::l)=false:=by rcases hd with rfl|rfl|rfl<;>simp[has,Ui]
  have h2:nameS (d::l)=false:=by
   have:Em d=false:=by rcases hd with rfl|rfl|rfl<;>decide
   simp[nameS,this]
  have h3:¬Dp (d::l)≥0:=by
   have:digit d=false:=by rcases hd with rfl|rfl|rfl<;>decide
   have h48:(d==48)=false:=by rcases hd with rfl|rfl|rfl<;>decide
   simp only[Dp];split
   ·omega
   ·simp[h48,Qt,this]
  have h4:has Kc (d::l)=false:=by rcases hd with rfl|rfl|rfl<;>simp[has,Kc]
  simp[Di,h1,h2,h3,h4]
 refine⟨fun e=>h (key c (.inl e)),fun e=>h (key c (.inr (.inl e))),fun e=>h (key c (.inr (.inr e)))⟩
theorem Arc{w t:List UInt8}(hk:Di w≠0):Cd false (w++t)=0:=by
 cases w with
 |nil=>exact absurd Vv hk
 |cons c l=>
  obtain⟨h1,h2,h3⟩:=Adc hk;simp[Cd,h1,h2,h3]
theorem A1v{s:List UInt8}{ws:List (List UInt8)}(h:Lex s ws):∀(f a:Nat)(out:List Wd),(s.drop (Cd false s)).length<f→(Hg f a (s.drop (Cd false s)) out).2.1=0 →
 (Hg f a (s.drop (Cd false s)) out).1.map Wd.text=out.map Wd.text++ws:=by
 induction h with
 |nil=>
  intro f a out hf h0;cases f with
  |zero=>simp at hf
  |succ f=>simp[Cd,Hg]
 |blank c t ws hc h ih=>
  intro f a out hf h0;have e:(c::t).drop (Cd false (c::t))=t.drop (Cd false t):=by
   have:Cd false (c::t)=1+Cd false t:=by rcases hc with rfl|rfl<;>simp[Cd]
   rw[this,Nat.add_comm];rfl
  rw[e]at hf h0⊢;exact ih f a out hf h0
 |wrd w t ws hk he h ih=>
  intro f a out hf h0;rw[Arc hk,List.drop_zero]at hf h0⊢;cases f with
  |zero=>simp at hf
  |succ f=>
   cases w with
   |nil=>exact absurd Vv hk
   |cons c l=>
    have ht:((c::l)++t).take (Ll ((c::l)++t))=c::l:=by rw[he];exact List.take_left
    have hd:((c::l)++t).drop (Ll ((c::l)++t))=t:=by rw[he];exact List.drop_left
    have hd2:∀b,((c::l)++t).drop (Ll ((c::l)++t)+b)=t.drop b:=fun b=>by rw[←Aed,hd]
    rw[Pz]at ht hd hd2 hf h0⊢;simp only[Hg]at h0⊢;rw[ht,hd,hd2]at h0⊢;rw[if_neg (by simpa using hk)]at h0⊢;split at h0
    ·simp at h0
    ·rename_i hn;rw[if_neg hn];have:=ih f (a+Ll (c::(l++t))+Cd false t) (out++[⟨Di (c::l),c::l,a⟩]) (by simp at hf⊢;omega) h0;rw[this];simp
theorem Aqe{s:List UInt8}{ws:List (List UInt8)}(h:Lex s ws)(h0:(C4 s).2.1=0):(C4 s).1.map Wd.text=ws:=by
 unfold C4 at h0⊢;split at h0
 ·simp at h0
 ·rename_i h1;rw[if_neg h1];have:=A1v h (s.length+1) (Cd false s) [] (by simp;omega) h0;simpa using this
theorem Abj{t:List UInt8}(ht:Sep t):∀w:List UInt8,Q9 w=true→Gx (w++t)=w.length
 |[],_=>by
  cases t with
  |nil=>rfl
  |cons c t=>simp only[Sep]at ht;simp[Gx,ht]
 |c::l,h=>by
  simp only[Q9,P0,Dd]at h;simp only[Pz,Gx,h.1,if_true];rw[Abj ht l h.2];simp;omega
theorem Lex.al{w t:List UInt8}{ws:List (List UInt8)}(hw:Q9 w=true)(hk:Di w≠0)(hs:Sep t)(h:Lex t ws):Lex (w++t) (w::ws):=by
 refine .wrd w t ws hk ?_ h;cases w with
 |nil=>exact absurd Vv hk
 |cons c l=>
  have hc:(Em c||digit c)=true:=by simp only[Q9,P0,Dd]at hw;exact hw.1
  rw[←Abj hs (c::l) hw];simp only[Pz,Ll,hc,if_true]
abbrev Xh:List UInt8:=[43,45,42,40,41,91,93,123,125,59,63]
theorem H1{c:UInt8}{t:List UInt8}{ws:List (List UInt8)}(hc:c∈Xh)(h:Lex t ws):Lex (c::t) ([c]::ws):=by
 have h1:∀c:UInt8,c∈Xh→Di [c]≠0∧(Em c||digit c)=false:=by decide
 obtain⟨h2,h3⟩:=h1 c hc;refine .wrd [c] t ws h2 ?_ h;show Ll (c::t)=1;cases t with
 |nil=>simp[Ll,h3]
 |cons d l=>
  have:has Kc [c,d]=false:=by
   simp at hc;rcases hc with rfl|rfl|rfl|rfl|rfl|rfl|rfl|rfl|rfl|rfl|rfl<;>simp[has,Kc]
  simp[Ll,h3,this]
abbrev Oi:List (List UInt8):=[[60],[60,61],[62],[62,61],[61,61],[33,61],[61]]
theorem Ak7{w t:List UInt8}{ws:List (List UInt8)}(hw:w∈Oi)(h:Lex t ws):Lex (w++32::t) (w::ws):=by
 have h1:∀w,w∈Oi→Di w≠0:=by decide
 refine .wrd w (32::t) ws (h1 w hw) ?_ (.blank 32 t ws (.inl rfl) h);simp at hw;rcases hw with rfl|rfl|rfl|rfl|rfl|rfl|rfl<;>rfl
theorem Mw{s:List UInt8}(h:nameS s=true):Q9 s=true∧Di s=1:=by
 cases s with
 |nil=>simp[nameS]at h
 |cons c l=>
  have h':=h;simp only[nameS,Dd,Ke,Ml]at h';refine⟨h'.2,?_⟩;simp[Di,h'.1.2,h]
theorem Lex.name{s t:List UInt8}{ws:List (List UInt8)}(hn:nameS s=true)(hs:Sep t)(h:Lex t ws):Lex (s++t) (s::ws):=
 .al (Mw hn).1 (by rw[(Mw hn).2];decide) hs h
theorem Qj(n:Nat)(h:n≤1000000):Q9 (Md n)=true∧Di (Md n)=2:=by
 have hd:=T9 n;have hp:=Ag8 n;have hN:=Pq n h;generalize Md n=l at hd hp hN;cases l with
 |nil=>simp at hp
 |cons c l=>
  have hd':=hd;simp only[T8,P0,Dd,zzq48]at hd';have hdc:=Lb hd'.1;have hlc:Em c=false:=by simp[Em,Bl];omega
  refine⟨?_,?_⟩
  ·simp only[Q9,zzq48,Pd];intro x hx
   right
   rcases zzq13.1 hx with rfl|hx
   ·exact hd'.1
   ·exact hd'.2 x hx
  ·have h1:has Ui (c::l)=false:=by
    simp only[has,List.any_eq_false];intro k hk he;have he:=zzq54.1 he;have:∀k,k∈Ui→∀d l',k=d::l'→97≤d.toNat:=by
     intro k hk d l' e;simp only[Ui,zzq13,Ww,or_false]at hk;rcases hk with rfl|rfl|rfl|rfl|rfl|rfl|rfl|rfl|rfl|rfl|rfl|rfl|rfl<;>(injection e with e1 e2;subst e1;decide)
    have:=this k hk c l he;omega
   have h2:nameS (c::l)=false:=by simp[nameS,hlc]
   simp[Di,h1,h2,hN]
theorem Lex.num{n:Nat}{t:List UInt8}{ws:List (List UInt8)}(hn:n≤1000000)(hs:Sep t)(h:Lex t ws):Lex (Md n++t) (Md n::ws):=
 .al (Qj n hn).1 (by rw[(Qj n hn).2];decide) hs h
theorem Lex.key{s t:List UInt8}{ws:List (List UInt8)}(hn:s∈Ui)(hs:Sep t)(h:Lex t ws):Lex (s++t) (s::ws):=by
 have:∀s,s∈Ui→Q9 s=true∧Di s≠0:=by decide
 exact .al (this s hn).1 (this s hn).2 hs h
theorem Lex.sp{t:List UInt8}{ws:List (List UInt8)}(h:Lex t ws):Lex (32::t) ws:=.blank 32 t ws (.inl rfl) h
theorem Tx{t:List UInt8}{ws:List (List UInt8)}(h:Lex t ws):Lex (10::t) ws:=.blank 10 t ws (.inr rfl) h
def Jp(l:Int)(k:Int)(w:List (List UInt8)):List (List UInt8):=if L8 k<l then[[40]]++w++[[41]]else w
def Dv:Nd→List (List UInt8)
 |.mk k s m []=>if k=1 then[Md m.toNat]else if k=4 then[[108,101,110],[40],s,[41]]else[s]
 |.mk k s _ [a]=>if k=3 then[s,[91]]++Dv a++[[93]]else[[45]]++Jp 3 a.kind (Dv a)
 |.mk k _ _ (a::b::_)=>
  if k=6 then Jp 1 a.kind (Dv a)++[[43]]++Jp 2 b.kind (Dv b)
  else if k=7 then Jp 1 a.kind (Dv a)++[[45]]++Jp 2 b.kind (Dv b)
  else if k=8 then Jp 2 a.kind (Dv a)++[[42]]++Jp 3 b.kind (Dv b)
  else Dv a++[Ux k]++Dv b
def LexP(t:List UInt8)(ws:List (List UInt8)):Prop:=∀(u:List UInt8)(vs:List (List UInt8)),Sep u→Lex u vs→Lex (t++u) (ws++vs)
theorem LexP.par{l k:Int}{t:List UInt8}{ws:List (List UInt8)}(h:LexP t ws):LexP (Me l k t) (Jp l k ws):=by
 unfold Me Jp;split
 ·intro u vs hs hu;have:=h (41::u) ([41]::vs) (by simp only[Sep];decide) (H1 (by simp) hu);have:=H1 (c:=40) (by simp) this;simpa using this
 ·exact h
theorem Mi(t:List UInt8):Sep (32::t):=by simp only[Sep];decide
theorem Al7{n:Nd}(h:FE n):LexP (Bt n) (Dv n):=by
 induction h with
 |num m h0 h1=>intro u vs hs hu;simp only[Bt,Dv,if_true];exact Lex.num (by omega) hs hu
 |var s h=>intro u vs hs hu;simp only[Bt,Dv,if_true];exact Lex.name h hs hu
 |cell s a h ha ih=>
  intro u vs hs hu;have h1:=ih (93::u) ([93]::vs) (by simp only[Sep];decide) (H1 (by simp) hu);have h2:=Lex.name h (by simp only[Sep];decide) (H1 (c:=91) (by simp) h1);simpa[Bt,Dv]using h2
 |len s h=>
  intro u vs hs hu;have h1:=Lex.name h (by simp only[Sep];decide) (H1 (c:=41) (by simp) hu);have h2:=Lex.key (s:=[108,101,110]) (by decide) (by simp only[Sep];decide) (H1 (c:=40) (by simp) h1);simpa[Bt,Dv]using h2
 |neg a ha ih=>
  intro u vs hs hu;have h1:=H1 (c:=45) (by simp) ((ih.par (l:=3) (k:=a.kind)) u vs hs hu);simpa[Bt,Dv]using h1
 |two k a b hk ha hb iha ihb=>
  have go:∀(l l':Int) (c:UInt8),c∈Xh→LexP (Me l a.kind (Bt a)++[32,c,32]++Me l' b.kind (Bt b)) (Jp l a.kind (Dv a)++[[c]]++Jp l' b.kind (Dv b)):=by
   intro l l' c hc u vs hs hu;have h1:=(ihb.par (l:=l') (k:=b.kind)) u vs hs hu;have h2:=(iha.par (l:=l) (k:=a.kind)) _ _ (Mi _) (Lex.sp (H1 hc (Lex.sp h1)));simpa using h2
  rcases hk with rfl|rfl|rfl
  ·simpa[Bt,Dv]using go 1 2 43 (by simp)
  ·simpa[Bt,Dv]using go 1 2 45 (by simp)
  ·simpa[Bt,Dv]using go 2 3 42 (by simp)
theorem Aam(k:Int):Ux k∈Oi:=by
 unfold Ux;repeat' split
 all_goals simp
theorem A1u{n:Nd}(h:FC n):LexP (Bt n) (Dv n):=by
 cases h with
 |mk k a b h0 h1 ha hb=>
  intro u vs hs hu;have i1:=Al7 hb u vs hs hu;have i2:=Al7 ha _ _ (Mi _) (Lex.sp (Ak7 (Aam k) i1));have ne:¬k=6∧¬k=7∧¬k=8:=by omega
  simpa[Bt,Dv,ne.1,ne.2.1,ne.2.2]using i2
mutual
def Ih:Nd→List (List UInt8)
 |.mk k s m []=>
  if k=31 then[Nm,s,[59]]
  else if k=32 then[Fj,s,[91],if 0≤m then Md m.toNat else[63],[93],[59]]
  else if k=23 then[Iv,s,[59]]
  else if k=28 then[I1,[59]]
  else[Jb,[59]]
 |.mk k s _ [a]=>if k=21 then[s,[61]]++Dv a++[[59]]else[Ga]++Dv a++[[59]]
 |.mk k s _ [a,.mk k' s' m' l]=>
  if k=22 then[s,[91]]++Dv a++[[93],[61]]++Dv (.mk k' s' m' l)++[[59]]
  else[Gp]++Dv a++[[123]]++Jc l++[[125]]
 |.mk k s _ (a::.mk k' s' m' l'::.mk _ _ _ l::_)=>
  if k=26 then[L9,s,Jn]++Dv a++[wTo]++Dv (.mk k' s' m' l')++[[123]]++Jc l++[[125]]
  else[V9]++Dv a++[[123]]++Jc l'++[[125]] ++
   (match l with
     |[]=>[]
     |_=>[Iu,[123]]++Jc l++[[125]])
def Jc:List Nd→List (List UInt8)
 |[]=>[]
 |x::l=>Ih x++Jc l
end
theorem Lex.pad{t:List UInt8}{ws:List (List UInt8)}(h:Lex t ws):∀p:List UInt8,(∀c,c∈p→c=32)→Lex (p++t) ws
 |[],_=>h
 |c::p,hp=>by
  have:=hp c (by simp);subst this;exact .sp (Lex.pad h p fun c hc=>hp c (by simp[hc]))
def Awa(t:List UInt8)(ws:List (List UInt8)):Prop:=∀(u:List UInt8)(vs:List (List UInt8)),Lex u vs→Lex (t++u) (ws++vs)
theorem Oc{l:List Nd}{p:List UInt8}(h:∀x,x∈l→Awa (Cp x p) (Ih x)):Awa (Ij l p) (Jc l):=by
 induction l with
 |nil=>intro u vs hu;simpa[Ij,Jc]using hu
 |cons x l ih=>
  intro u vs hu;have h1:=ih (fun y hy=>h y (by simp[hy])) u vs hu;have h2:=h x (by simp) _ _ h1;simpa[Ij,Jc]using h2
theorem Ad1(c:UInt8)(t:List UInt8)(h:(Em c||digit c)=false:=by decide):Sep (c::t):=h
def padOk(p:List UInt8):Prop:=∀c,c∈p→c=32
theorem padOk.more{p:List UInt8}(h:padOk p):padOk (p++[32,32]):=by
 intro c hc;rcases zzq45.1 hc with hc|hc
 ·exact h c hc
 ·simp at hc;exact hc
theorem Na{u:List UInt8}{vs:List (List UInt8)}(h:Lex u vs):Lex (59::10::u) ([59]::vs):=H1 (by simp) (Tx h)
theorem A47{x:Nd}(h:FV x)(p:List UInt8)(hp:padOk p):Awa (Cp x p) (Ih x):=by
 cases h with
 |var s h=>
  intro u vs hu;have h1:=Lex.name h (Ad1 _ _) (Na hu);have h2:=(Lex.key (s:=Nm) (by decide) (Mi _) (Lex.sp h1)).pad p hp;simpa[Cp,Ih]using h2
 |arr s m h h0 h1=>
  intro u vs hu;have key:∀(t w:List UInt8),(∀u vs,Sep u→Lex u vs→Lex (t++u) (w::vs))→Lex (p++Fj++32::(s++91::(t++93::59::10::u))) (Fj::s::[91]::w::[93]::[59]::vs):=by
   intro t w ht;have h1:=ht _ _ (Ad1 _ _) (H1 (c:=93) (by simp) (Na hu));have h2:=Lex.name h (Ad1 _ _) (H1 (c:=91) (by simp) h1);have h3:=(Lex.key (s:=Fj) (by decide) (Mi _) (Lex.sp h2)).pad p hp;simpa using h3
  by_cases g:0≤m
  ·have:=key (Md m.toNat) (Md m.toNat) (fun u vs hs hu=>Lex.num (by omega) hs hu);simpa[Cp,Ih,g]using this
  ·have:=key [63] [63] (fun u vs hs hu=>H1 (by simp) hu);simpa[Cp,Ih,g]using this
theorem A46{x:Nd}(h:FS x):∀p:List UInt8,padOk p→Awa (Cp x p) (Ih x):=by
 induction h with
 |set s a h ha=>
  intro p hp u vs hu;have h1:=Al7 ha _ _ (Ad1 _ _) (Na hu);have h2:=(Lex.name h (Mi _) (Lex.sp (Ak7 (w:=[61]) (by simp) h1))).pad p hp;simpa[Cp,Ih]using h2
 |put s a b h ha hb=>
  intro p hp u vs hu;have h1:=Al7 hb _ _ (Ad1 _ _) (Na hu);have h2:=Al7 ha _ _ (Ad1 _ _) (H1 (c:=93) (by simp) (Lex.sp (Ak7 (w:=[61]) (by simp) h1)));have h3:=(Lex.name h (Ad1 _ _) (H1 (c:=91) (by simp) h2)).pad p hp;obtain⟨k',s',m',l'⟩:=b;simpa[Cp,Ih]using h3
 |read s h=>
  intro p hp u vs hu;have h1:=Lex.name h (Ad1 _ _) (Na hu);have h2:=(Lex.key (s:=Iv) (by decide) (Mi _) (Lex.sp h1)).pad p hp;simpa[Cp,Ih]using h2
 |ifs c l l' hc hl hl' ihl ihl'=>
  intro p hp u vs hu;have fin:Lex (125::10::u) ([125]::vs):=H1 (by simp) (Tx hu);have go:∀(t:List UInt8) (w:List (List UInt8)),Lex t w→Lex (p++V9++32::(Bt c++32::123::10::(Ij l (p++[32,32])++(p++t)))) (V9::(Dv c++[123]::(Jc l++w))):=by
   intro t w ht;have h1:=Oc (fun x hx=>ihl x hx (p++[32,32]) hp.more) _ _ (ht.pad p hp);have h2:=A1u hc _ _ (Mi _) (Lex.sp (H1 (c:=123) (by simp) (Tx h1)));have h3:=(Lex.key (s:=V9) (by decide) (Mi _) (Lex.sp h2)).pad p hp;simpa using h3
  cases l' with
  |nil=>simpa[Cp,Ih]using go _ _ fin
  |cons y l'=>
   have h1:=Oc (fun x hx=>ihl' x hx (p++[32,32]) hp.more) _ _ (fin.pad p hp);have h2:=H1 (c:=125) (by simp) (Lex.sp (Lex.key (s:=Iu) (by decide) (Mi _) (Lex.sp (H1 (c:=123) (by simp) (Tx h1)))));simpa[Cp,Ih]using go _ _ h2
 |whil c l hc hl ihl=>
  intro p hp u vs hu;have fin:Lex (125::10::u) ([125]::vs):=H1 (by simp) (Tx hu);have h1:=Oc (fun x hx=>ihl x hx (p++[32,32]) hp.more) _ _ (fin.pad p hp);have h2:=A1u hc _ _ (Mi _) (Lex.sp (H1 (c:=123) (by simp) (Tx h1)));have h3:=(Lex.key (s:=Gp) (by decide) (Mi _) (Lex.sp h2)).pad p hp;simpa[Cp,Ih]using h3
 |for_ s a b l h ha hb hl ihl=>
  intro p hp u vs hu;have fin:Lex (125::10::u) ([125]::vs):=H1 (by simp) (Tx hu);have h1:=Oc (fun x hx=>ihl x hx (p++[32,32]) hp.more) _ _ (fin.pad p hp);have h2:=Al7 hb _ _ (Mi _) (Lex.sp (H1 (c:=123) (by simp) (Tx h1)));have h3:=Al7 ha _ _ (Mi _) (Lex.sp (Lex.key (s:=wTo) (by decide) (Mi _) (Lex.sp h2)));have h4:=Lex.name h (Mi _) (Lex.sp (Lex.key (s:=Jn) (by decide) (Mi _) (Lex.sp h3)));have h5:=(Lex.key (s:=L9) (by decide) (Mi _) (Lex.sp h4)).pad p hp;obtain⟨k',s',m',l'⟩:=b;simpa[Cp,Ih]using h5
 |check c hc=>
  intro p hp u vs hu;have h1:=A1u hc _ _ (Ad1 _ _) (Na hu);have h2:=(Lex.key (s:=Ga) (by decide) (Mi _) (Lex.sp h1)).pad p hp;simpa[Cp,Ih]using h2
 |skip=>
  intro p hp u vs hu;have h2:=(Lex.key (s:=I1) (by decide) (Ad1 _ _) (Na hu)).pad p hp;simpa[Cp,Ih]using h2
 |stop=>
  intro p hp u vs hu;have h2:=(Lex.key (s:=Jb) (by decide) (Ad1 _ _) (Na hu)).pad p hp;simpa[Cp,Ih]using h2
theorem A45{ds l:List Nd}(hd:∀x,x∈ds→FV x)(hl:∀x,x∈l→FS x):Lex (Ij ds []++Ij l []) (Jc ds++Jc l):=by
 have h1:=Oc (p:=[]) (fun x hx=>A46 (hl x hx) [] (fun c hc=>by cases hc)) [] [] .nil;have h2:=Oc (p:=[]) (fun x hx=>A47 (hd x hx) [] (fun c hc=>by cases hc)) _ _ h1;simpa using h2
structure At (r:RS)(xs:List (List UInt8)):Prop where
 good:r.bad=false
 wk:r.wk
 ws:(r.ws.drop r.at_).map Wd.text=xs
def Lo(xs:List (List UInt8)):List UInt8:=xs.headD []
section
variable {r:RS}{x:List UInt8}{xs:List (List UInt8)}
theorem At.get(h:At r (x::xs)):∃w,r.ws[r.at_]?=some w∧w.text=x∧w.kind=Di x:=by
 have h1:=congrArg (fun l:List (List UInt8)=>l[0]?) h.ws;simp at h1;obtain⟨w,hw,rfl⟩:=h1;exact⟨w,hw,rfl,h.wk w (Bh hw)⟩
theorem At.kind(h:At r (x::xs)):r.kind=Di x:=by
 obtain⟨w,hw,_,hk⟩:=h.get;simp[RS.kind,hw,hk]
theorem At.lt(h:At r (x::xs)):r.at_<r.ws.length:=by
 obtain⟨w,hw,_⟩:=h.get;exact Aa hw
theorem At.ge(h:At r []):r.ws.length≤r.at_:=by
 have:=congrArg List.length h.ws;simp at this;omega
theorem At.text(h:At r xs):r.text=Lo xs:=by
 cases xs with
 |nil=>simp[RS.text,U9 h.ge,Lo]
 |cons x xs=>
  obtain⟨w,hw,ht,_⟩:=h.get;simp[RS.text,hw,ht,Lo]
theorem At.step(h:At r (x::xs)):At r.step xs:=by
 refine⟨h.good,h.wk,?_⟩;have:=congrArg List.tail h.ws;simp only[List.tail_cons]at this;rw[←this];simp[RS.step]
theorem At.takes(h:At r xs)(s:List UInt8):r.takes s=(Lo xs==s):=by simp[RS.takes,h.good,h.text]
theorem At.no(h:At r xs){s:List UInt8}(hs:Lo xs≠s):r.takes s=false:=by rw[h.takes];simpa using hs
theorem At.yes(h:At r (x::xs)):r.takes x=true:=by rw[h.takes];simp[Lo]
theorem At.need(h:At r (x::xs)):r.need x=r.step:=by simp[RS.need,h.yes]
theorem At.named(h:At r (x::xs))(hn:nameS x=true):r.named=true∧r.name=x∧r.nameR=r.step:=by
 have hk:r.kind=1:=by rw[h.kind,(Mw hn).2]
 have:r.named=true:=by simp[RS.named,h.good,hk]
 refine⟨this,?_,?_⟩
 ·simp[RS.name,this,h.text,Lo]
 ·simp[RS.nameR,this]
end
theorem kne{a b:List UInt8}(h:Di a≠Di b):a≠b:=fun e=>h (by rw[e])
theorem Ib{s:List UInt8}(h:nameS s=true)(b:List UInt8)(hb:Di b≠1:=by decide):s≠b:=kne (by rw[(Mw h).2];exact fun e=>hb e.symm)
theorem A10{m:Nat}(h:m≤1000000)(b:List UInt8)(hb:Di b≠2:=by decide):Md m≠b:=kne (by rw[(Qj m h).2];exact fun e=>hb e.symm)
def Q1(ws:List (List UInt8))(n:Nd)(B:Nat):Prop:=∀(f:Nat)(r:RS)(xs:List (List UInt8)),B≤f→At r (ws++xs)→Lo xs≠[91]→∃r',Fi f r=(n,r')∧At r' xs
def Q2(ws:List (List UInt8))(n:Nd)(B:Nat):Prop:=∀(f:Nat)(r:RS)(xs:List (List UInt8)),B≤f→At r (ws++xs)→Lo xs≠[91]→∃r' g,f≤g+Ai n∧Ek f r=Hy g n r'∧At r' xs
def Q3(ws:List (List UInt8))(n:Nd)(B:Nat):Prop:=∀(f:Nat)(r:RS)(xs:List (List UInt8)),B≤f→At r (ws++xs)→Lo xs≠[91]→Lo xs≠[42]→∃r' g,f≤g+Ai n∧Ez f r=G6 g n r'∧At r' xs
theorem Zr(n:Nd):1≤Ai n:=by rw[Cj];omega
theorem Q1.mono{ws:List (List UInt8)}{n:Nd}{B B':Nat}(h:Q1 ws n B)(hb:B≤B'):Q1 ws n B':=fun f r xs hf=>h f r xs (by omega)
theorem Q2.mono{ws:List (List UInt8)}{n:Nd}{B B':Nat}(h:Q2 ws n B)(hb:B≤B'):Q2 ws n B':=fun f r xs hf=>h f r xs (by omega)
theorem Q3.mono{ws:List (List UInt8)}{n:Nd}{B B':Nat}(h:Q3 ws n B)(hb:B≤B'):Q3 ws n B':=fun f r xs hf=>h f r xs (by omega)
theorem Agd{g:Nat}{n:Nd}{r:RS}{xs:List (List UInt8)}(h:At r xs)(hs:Lo xs≠[42]):Hy g n r=(n,r):=by
 cases g with
 |zero=>simp[Hy]
 |succ g=>simp[Hy,h.no hs]
theorem Zv{g:Nat}{n:Nd}{r:RS}{xs:List (List UInt8)}(h:At r xs)(hs:Lo xs≠[43])(hs':Lo xs≠[45]):G6 g n r=(n,r):=by
 cases g with
 |zero=>simp[G6]
 |succ g=>simp[G6,h.no hs,h.no hs']
theorem A2y{ws:List (List UInt8)}{n:Nd}{B:Nat}(h:Q1 ws n B):Q2 ws n (B+1):=by
 intro f r xs hf ha hs;obtain⟨g,rfl⟩:∃g,f=g+1:=⟨f-1,by omega⟩
 obtain⟨r',h1,h2⟩:=h g r xs (by omega) ha hs;refine⟨r',g,by have:=Zr n;omega,?_,h2⟩;simp[Ek,h1]
theorem A2z{ws:List (List UInt8)}{n:Nd}{B:Nat}(h:Q2 ws n B):Q3 ws n (B+1):=by
 intro f r xs hf ha hs hs';obtain⟨g,rfl⟩:∃g,f=g+1:=⟨f-1,by omega⟩
 obtain⟨r',g',h1,h2,h3⟩:=h g r xs (by omega) ha hs;refine⟨r',g,by have:=Zr n;omega,?_,h3⟩;rw[Agd h3 hs']at h2;simp[Ez,h2]
theorem A20{ws:List (List UInt8)}{n:Nd}{B:Nat}(h:Q3 ws n B):Q1 ([[40]]++ws++[[41]]) n (B+1):=by
 intro f r xs hf ha hs;obtain⟨g,rfl⟩:∃g,f=g+1:=⟨f-1,by omega⟩
 have ha':At r ([40]::(ws++[41]::xs)):=by simpa using ha
 obtain⟨r',g',h1,h2,h3⟩:=h g r.step ([41]::xs) (by omega) ha'.step (by simp[Lo]) (by simp[Lo]);rw[Zv h3 (by simp[Lo]) (by simp[Lo])]at h2;refine⟨r'.step,?_,h3.step⟩;have hk:¬(r.kind==2)=true:=by rw[ha'.kind];decide
 have h45:r.takes [45]=false:=ha'.no (by simp[Lo]);rw[Fi,if_neg (by simp[ha'.good]),if_neg (by simp[h45]),if_neg hk,if_pos ha'.yes,h2];simp[h3.need]
theorem At1{m:Int}(h0:0≤m)(h1:m≤1000000):Q1 [Md m.toNat] (.mk 1 [] m []) 1:=by
 intro f r xs hf ha hs;obtain⟨g,rfl⟩:∃g,f=g+1:=⟨f-1,by omega⟩
 have ha':At r (Md m.toNat::xs):=ha;have hm:m.toNat≤1000000:=by omega
 refine⟨r.step,?_,ha'.step⟩;have hk:(r.kind==2)=true:=by rw[ha'.kind,(Qj _ hm).2];rfl
 have h45:r.takes [45]=false:=ha'.no (A10 hm [45]);rw[Fi,if_neg (by simp[ha'.good]),if_neg (by simp[h45]),if_pos hk,ha'.text];simp only[Lo,List.headD_cons];rw[Pq _ hm];congr 2;omega
theorem Afs{f:Nat}{r:RS}{s:List UInt8}{xs:List (List UInt8)}(hn:nameS s=true)(ha:At r (s::xs)) :
 Fi (f+1) r=if r.step.takes [91]then(.mk 3 s 0 [(Ez f r.step.step).1],(Ez f r.step.step).2.need [93])else(.mk 2 s 0 [],r.step):=by
 obtain⟨_,h2,h3⟩:=ha.named hn;have hk:¬(r.kind==2)=true:=by rw[ha.kind,(Mw hn).2];decide
 have h45:r.takes [45]=false:=ha.no (Ib hn [45]);have h40:r.takes [40]=false:=ha.no (Ib hn [40]);have hl:r.takes [108,101,110]=false:=ha.no (Ib hn _);rw[Fi,if_neg (by simp[ha.good]),if_neg (by simp[h45]),if_neg hk,if_neg (by simp[h40]),if_neg (by simp[hl]),h2,h3]
theorem A2i{n:Nd}(h:FE n):Q1 (Jp 3 n.kind (Dv n)) n (3*Ai n)∧Q2 (Jp 2 n.kind (Dv n)) n (3*Ai n)∧Q3 (Dv n) n (3*Ai n):=by
 have t3:∀{n:Nd} {B:Nat},L8 n.kind=3→B+2≤3*Ai n→Q1 (Dv n) n B→Q1 (Jp 3 n.kind (Dv n)) n (3*Ai n)∧Q2 (Jp 2 n.kind (Dv n)) n (3*Ai n)∧Q3 (Dv n) n (3*Ai n):=by
  intro n B ht hB hq;have e3:Jp 3 n.kind (Dv n)=Dv n:=by unfold Jp;rw[ht,if_neg (by omega)]
  have e2:Jp 2 n.kind (Dv n)=Dv n:=by unfold Jp;rw[ht,if_neg (by omega)]
  rw[e3,e2];exact⟨hq.mono (by omega),(A2y hq).mono (by omega),(A2z (A2y hq)).mono (by omega)⟩
 induction h with
 |num m h0 h1=>
  refine t3 (B:=1) rfl (by simp[Ai,A3]) ?_;simpa[Dv]using At1 h0 h1
 |var s h=>
  refine t3 (B:=1) rfl (by simp[Ai,A3]) ?_;intro f r xs hf ha hs;obtain⟨g,rfl⟩:∃g,f=g+1:=⟨f-1,by omega⟩
  have ha':At r (s::xs):=by simpa[Dv]using ha
  refine⟨r.step,?_,ha'.step⟩;rw[Afs h ha',if_neg (by simp[ha'.step.no hs])]
 |cell s a h ha ih=>
  refine t3 (B:=3*Ai a+1) rfl (by simp[Ai,A3];omega) ?_;intro f r xs hf ha hs;obtain⟨g,rfl⟩:∃g,f=g+1:=⟨f-1,by omega⟩
  have ha':At r (s::[91]::(Dv a++[93]::xs)):=by simpa[Dv]using ha
  obtain⟨r',g',h1,h2,h3⟩:=ih.2.2 g r.step.step ([93]::xs) (by omega) ha'.step.step (by simp[Lo]) (by simp[Lo]);rw[Zv h3 (by simp[Lo]) (by simp[Lo])]at h2;refine⟨r'.step,?_,h3.step⟩;rw[Afs h ha',if_pos ha'.step.yes,h2];simp[h3.need]
 |len s h=>
  refine t3 (B:=1) rfl (by simp[Ai,A3]) ?_;intro f r xs hf ha hs;obtain⟨g,rfl⟩:∃g,f=g+1:=⟨f-1,by omega⟩
  have ha':At r ([108,101,110]::[40]::s::[41]::xs):=by simpa[Dv]using ha
  obtain⟨_,e2,e3⟩:=ha'.step.step.named h;refine⟨r.step.step.step.step,?_,ha'.step.step.step.step⟩;have hk:¬(r.kind==2)=true:=by rw[ha'.kind];decide
  have h45:r.takes [45]=false:=ha'.no (by simp[Lo]);have h40:r.takes [40]=false:=ha'.no (by simp[Lo]);rw[Fi,if_neg (by simp[ha'.good]),if_neg (by simp[h45]),if_neg hk,if_neg (by simp[h40]),if_pos ha'.yes,ha'.step.need,e2,e3,ha'.step.step.step.need]
 |neg a ha ih=>
  refine t3 (B:=3*Ai a+1) rfl (by simp[Ai,A3];omega) ?_;intro f r xs hf ha hs;obtain⟨g,rfl⟩:∃g,f=g+1:=⟨f-1,by omega⟩
  have ha':At r ([45]::(Jp 3 a.kind (Dv a)++xs)):=by simpa[Dv]using ha
  obtain⟨r',h1,h2⟩:=ih.1 g r.step xs (by omega) ha'.step hs;refine⟨r',?_,h2⟩;rw[Fi,if_neg (by simp[ha'.good]),if_pos ha'.yes,h1]
 |two k a b hk ha hb iha ihb=>
  have hc:Ai (Nd.mk k [] 0 [a,b])=1+(Ai a+Ai b):=by simp[Ai,A3]
  have sum:∀(kk:Int) (c:UInt8),(kk=6∧c=43)∨(kk=7∧c=45)→Q3 (Dv a++[[c]]++Jp 2 b.kind (Dv b)) (.mk kk [] 0 [a,b]) (3*Ai (Nd.mk k [] 0 [a,b])-2):=by
   intro kk c hkc f r xs hf ht hs hs';have hck:Ai (Nd.mk kk [] 0 [a,b])=1+(Ai a+Ai b):=by simp[Ai,A3]
   have ha':At r (Dv a++([c]::(Jp 2 b.kind (Dv b)++xs))):=by simpa using ht
   have c1:Lo ([c]::(Jp 2 b.kind (Dv b)++xs))≠[91]:=by rcases hkc with⟨_,rfl⟩|⟨_,rfl⟩<;>simp[Lo]
   have c2:Lo ([c]::(Jp 2 b.kind (Dv b)++xs))≠[42]:=by rcases hkc with⟨_,rfl⟩|⟨_,rfl⟩<;>simp[Lo]
   obtain⟨r1,g1,h1,h2,h3⟩:=iha.2.2 f r _ (by omega) ha' c1 c2;obtain⟨g,rfl⟩:∃g,g1=g+1:=⟨g1-1,by omega⟩
   obtain⟨r2,g2,j1,j2,j3⟩:=ihb.2.1 g r1.step xs (by omega) h3.step hs;rw[Agd j3 hs']at j2;refine⟨r2,g,by omega,?_,j3⟩;rw[h2];rcases hkc with⟨rfl,rfl⟩|⟨rfl,rfl⟩
   ·rw[G6,if_pos h3.yes,j2]
   ·rw[G6,if_neg (by simp[h3.no (s:=[43]) (by simp[Lo])]),if_pos h3.yes,j2]
  have t1:∀{n:Nd} {B:Nat},L8 n.kind=1→B+2≤3*Ai n→Q3 (Dv n) n B→Q1 (Jp 3 n.kind (Dv n)) n (3*Ai n)∧Q2 (Jp 2 n.kind (Dv n)) n (3*Ai n)∧Q3 (Dv n) n (3*Ai n):=by
   intro n B ht hB hq;have e3:Jp 3 n.kind (Dv n)=[[40]]++Dv n++[[41]]:=by unfold Jp;rw[ht,if_pos (by omega)]
   have e2:Jp 2 n.kind (Dv n)=[[40]]++Dv n++[[41]]:=by unfold Jp;rw[ht,if_pos (by omega)]
   rw[e3,e2];exact⟨(A20 hq).mono (by omega),(A2y (A20 hq)).mono (by omega),hq.mono (by omega)⟩
  have p1:Jp 1 a.kind (Dv a)=Dv a:=by
   unfold Jp L8;rw[if_neg];split<;>(try split)<;>omega
  rcases hk with rfl|rfl|rfl
  ·refine t1 (B:=3*Ai (Nd.mk 6 [] 0 [a,b])-2) rfl (by omega) ?_;have:=sum 6 43 (.inl ⟨rfl,rfl⟩);simpa[Dv,p1]using this
  ·refine t1 (B:=3*Ai (Nd.mk 7 [] 0 [a,b])-2) rfl (by omega) ?_;have:=sum 7 45 (.inr ⟨rfl,rfl⟩);simpa[Dv,p1]using this
  ·have hq:Q2 (Dv (Nd.mk 8 [] 0 [a,b])) (Nd.mk 8 [] 0 [a,b]) (3*Ai (Nd.mk 8 [] 0 [a,b])-2):=by
    intro f r xs hf ht hs;have ha':At r (Jp 2 a.kind (Dv a)++([42]::(Jp 3 b.kind (Dv b)++xs))):=by simpa[Dv]using ht
    obtain⟨r1,g1,h1,h2,h3⟩:=iha.2.1 f r _ (by omega) ha' (by simp[Lo]);obtain⟨g,rfl⟩:∃g,g1=g+1:=⟨g1-1,by omega⟩
    obtain⟨r2,j2,j3⟩:=ihb.1 g r1.step xs (by omega) h3.step hs;refine⟨r2,g,by omega,?_,j3⟩;rw[h2,Hy,if_pos h3.yes,j2]
   have e3:Jp 3 (Nd.mk 8 [] 0 [a,b]).kind (Dv (Nd.mk 8 [] 0 [a,b]))=[[40]]++Dv (Nd.mk 8 [] 0 [a,b])++[[41]]:=by exact if_pos (show L8 8<3 by decide)
   have e2:Jp 2 (Nd.mk 8 [] 0 [a,b]).kind (Dv (Nd.mk 8 [] 0 [a,b]))=Dv (Nd.mk 8 [] 0 [a,b]):=by exact if_neg (show ¬L8 8<2 by decide)
   rw[e3,e2];exact⟨(A20 (A2z hq)).mono (by omega),hq.mono (by omega),(A2z hq).mono (by omega)⟩
def Stop(xs:List (List UInt8)):Prop:=Lo xs≠[91]∧Lo xs≠[42]∧Lo xs≠[43]∧Lo xs≠[45]
theorem Ju{n:Nd}(h:FE n)(hc:Ai n≤500){r:RS}{xs:List (List UInt8)}(ha:At r (Dv n++xs))(hs:Stop xs):∃r',B8 r=(n,r')∧At r' xs:=by
 obtain⟨r',g,h1,h2,h3⟩:=(A2i h).2.2 6010 r xs (by omega) ha hs.1 hs.2.1;rw[Zv h3 hs.2.2.1 hs.2.2.2]at h2;exact⟨r',h2,h3⟩
theorem Aq6{k:Int}(h0:11≤k)(h1:k≤16):relS (Ux k)=k:=by
 have:k=11∨k=12∨k=13∨k=14∨k=15∨k=16:=by omega
 rcases this with rfl|rfl|rfl|rfl|rfl|rfl<;>rfl
theorem Avb(k:Int)(xs:List (List UInt8)):Stop (Ux k::xs):=by
 have:∀w,w∈Oi→w≠[91]∧w≠[42]∧w≠[43]∧w≠[45]:=by decide
 exact this _ (Aam k)
theorem Pl{n:Nd}(h:FC n)(hc:Ai n≤500){r:RS}{xs:List (List UInt8)}(ha:At r (Dv n++xs))(hs:Stop xs):∃r',Dm r=(n,r')∧At r' xs:=by
 cases h with
 |mk k a b h0 h1 fa fb=>
  have ne:¬k=6∧¬k=7∧¬k=8:=by omega
  have hcc:Ai (Nd.mk k [] 0 [a,b])=1+(Ai a+Ai b):=by simp[Ai,A3]
  have ha':At r (Dv a++(Ux k::(Dv b++xs))):=by simpa[Dv,ne.1,ne.2.1,ne.2.2]using ha
  obtain⟨r1,e1,a1⟩:=Ju fa (by omega) ha' (Avb k _);obtain⟨r2,e2,a2⟩:=Ju fb (by omega) a1.step hs;refine⟨r2,?_,a2⟩;have ht:r1.text=Ux k:=by rw[a1.text];rfl
  unfold Dm;rw[e1];simp only[ht,Aq6 h0 h1];rw[if_neg (by simp[a1.good];omega),e2]
def RdS(x:Nd):Prop:=∀(f:Nat)(r:RS)(xs:List (List UInt8)),3*Ai x≤f→Ai x≤500→At r (Ih x++xs)→Lo xs≠Iu→∃r',Dc f r=(x,r')∧At r' xs
def RdL(l:List Nd):Prop:=∀(f:Nat)(r:RS)(acc:List Nd)(xs:List (List UInt8)),3*A3 l+1≤f→A3 l≤500→At r (Jc l++xs)→(xs=[]∨Lo xs=[125])→∃r',Ed f acc r=(acc++l,r')∧At r' xs
def Asr(s:List UInt8):Prop:=nameS s=true∨s∈[V9,Gp,L9,Ga,Iv,I1,Jb]
theorem Zp{s:List UInt8}(h:Asr s):s≠[125]∧s≠Iu∧s≠Nm∧s≠Fj:=by
 rcases h with h|h
 ·exact⟨Ib h _,Ib h _,Ib h _,Ib h _⟩
 ·have:∀s,s∈[V9,Gp,L9,Ga,Iv,I1,Jb]→s≠[125]∧s≠Iu∧s≠Nm∧s≠Fj:=by decide
  exact this s h
theorem Xt{x:Nd}(h:FS x):∃s t,Ih x=s::t∧Asr s:=by
 cases h with
 |set s a h ha=>exact⟨s,_,by simp[Ih];rfl,.inl h⟩
 |put s a b h ha hb=>obtain⟨k',s',m',l'⟩:=b;exact⟨s,_,by simp[Ih];rfl,.inl h⟩
 |read s h=>exact⟨Iv,_,by simp[Ih];rfl,.inr (by simp)⟩
 |ifs c l l' hc hl hl'=>exact⟨V9,_,by simp[Ih];rfl,.inr (by simp)⟩
 |whil c l hc hl=>exact⟨Gp,_,by simp[Ih];rfl,.inr (by simp)⟩
 |for_ s a b l h ha hb hl=>obtain⟨k',s',m',l'⟩:=b;exact⟨L9,_,by simp[Ih];rfl,.inr (by simp)⟩
 |check c hc=>exact⟨Ga,_,by simp[Ih];rfl,.inr (by simp)⟩
 |skip=>exact⟨I1,_,by simp[Ih];rfl,.inr (by simp)⟩
 |stop=>exact⟨Jb,_,by simp[Ih];rfl,.inr (by simp)⟩
theorem Adv{l:List Nd}(hf:∀x,x∈l→FS x)(h:∀x,x∈l→RdS x):RdL l:=by
 induction l with
 |nil=>
  intro f r acc xs hf hc ha hx;have ha':At r xs:=by simpa[Jc]using ha
  refine⟨r,?_,ha'⟩;cases f with
  |zero=>simp[Ed]
  |succ f=>
   rw[Ed,if_neg,H0];rcases hx with rfl|hx
   ·simp;intro _ h;have:=ha'.ge;omega
   ·rw[ha'.text,hx];simp
 |cons x l ih=>
  intro f r acc xs hfu hc ha hx;simp only[A3]at hfu hc;obtain⟨g,rfl⟩:∃g,f=g+1:=⟨f-1,by omega⟩
  have ha':At r (Ih x++(Jc l++xs)):=by simpa[Jc]using ha
  have hne:Lo (Jc l++xs)≠Iu:=by
   cases l with
   |nil=>
    simp only[Jc,Tj];rcases hx with rfl|hx
    ·simp[Lo]
    ·rw[hx];decide
   |cons y l=>
    obtain⟨s,t,e,hb⟩:=Xt (hf y (by simp));simp only[Jc,e,Lo];exact(Zp hb).2.1
  obtain⟨r1,e1,a1⟩:=h x (by simp) g r _ (by omega) (by omega) ha' hne;obtain⟨r2,e2,a2⟩:=ih (fun y hy=>hf y (by simp[hy])) (fun y hy=>h y (by simp[hy])) g r1 (acc++[x]) xs (by have:=Zr x;omega) (by omega) a1 hx;refine⟨r2,?_,a2⟩;obtain⟨s,t,e,hb⟩:=Xt (hf x (by simp));have has:At r (s::(t++(Jc l++xs))):=by rw[e]at ha';simpa using ha'
  rw[Ed,if_pos,e1]
  ·simp only;rw[e2];simp
  ·have:=(Zp hb).1;rw[has.text];simp[has.good,has.lt,Lo,this]
theorem Adu{l:List Nd}(hl:RdL l){f:Nat}{r:RS}{xs:List (List UInt8)}(hf:3*A3 l+2≤f)(hc:A3 l≤500)(ha:At r ([123]::(Jc l++[125]::xs))):∃r',Ct f r=(.mk 30 [] 0 l,r')∧At r' xs:=by
 obtain⟨g,rfl⟩:∃g,f=g+1:=⟨f-1,by omega⟩
 obtain⟨r1,e1,a1⟩:=hl g r.step [] ([125]::xs) (by omega) hc ha.step (.inr rfl);refine⟨r1.step,?_,a1.step⟩;rw[Ct,ha.need,e1];simp[a1.need]
theorem Oa{s:List UInt8}{xs:List (List UInt8)}(h:s∈[[93],[59],[123],wTo]:=by decide):Stop (s::xs):=by
 have:∀s,s∈[[93],[59],[123],wTo]→s≠[91]∧s≠[42]∧s≠[43]∧s≠[45]:=by decide
 exact this s h
theorem Lj{f:Nat}{r:RS}{s:List UInt8}{xs:List (List UInt8)}(ha:At r (s::xs))(h1:s≠V9)(h2:s≠Gp)(h3:s≠L9):Dc (f+1) r=((Cz r).1,(Cz r).2.need [59]):=by
 rw[Dc,if_neg (by simp[ha.no (s:=V9) h1]),if_neg (by simp[ha.no (s:=Gp) h2]),if_neg (by simp[ha.no (s:=L9) h3])]
theorem Ad3{r:RS}{s:List UInt8}{xs:List (List UInt8)}(ha:At r (s::xs))(hn:nameS s=true):Cz r=Qz r:=by
 rw[Cz,if_neg (by simp[ha.no (s:=Ga) (Ib hn _)]),if_neg (by simp[ha.no (s:=Iv) (Ib hn _)]),if_neg (by simp[ha.no (s:=I1) (Ib hn _)]),if_neg (by simp[ha.no (s:=Jb) (Ib hn _)])]
theorem A2j{x:Nd}(h:FS x):RdS x:=by
 induction h with
 |set s a h fa=>
  intro f r xs hf hc ha _;have hcc:Ai (Nd.mk 21 s 0 [a])=1+Ai a:=by simp[Ai,A3]
  obtain⟨g,rfl⟩:∃g,f=g+1:=⟨f-1,by omega⟩
  have ha':At r (s::[61]::(Dv a++[59]::xs)):=by simpa[Ih]using ha
  obtain⟨_,n2,n3⟩:=ha'.named h;obtain⟨r1,e1,a1⟩:=Ju fa (by omega) ha'.step.step Oa;refine⟨r1.step,?_,a1.step⟩;rw[Lj ha' (Ib h _) (Ib h _) (Ib h _),Ad3 ha' h,Qz,n3,if_neg (by simp[ha'.step.no (s:=[91]) (by simp[Lo])]),ha'.step.need,e1,n2];simp[a1.need]
 |put s a b h fa fb=>
  intro f r xs hf hc ha _;have hcc:Ai (Nd.mk 22 s 0 [a,b])=1+(Ai a+Ai b):=by simp[Ai,A3]
  obtain⟨g,rfl⟩:∃g,f=g+1:=⟨f-1,by omega⟩
  have ha':At r (s::[91]::(Dv a++[93]::[61]::(Dv b++[59]::xs))):=by
   obtain⟨k',s',m',l'⟩:=b;simpa[Ih]using ha
  obtain⟨_,n2,n3⟩:=ha'.named h;obtain⟨r1,e1,a1⟩:=Ju fa (by omega) ha'.step.step Oa;obtain⟨r2,e2,a2⟩:=Ju fb (by omega) a1.step.step Oa;refine⟨r2.step,?_,a2.step⟩;rw[Lj ha' (Ib h _) (Ib h _) (Ib h _),Ad3 ha' h,Qz,n3,if_pos ha'.step.yes,e1];simp only;rw[a1.need,a1.step.need,e2,n2];simp[a2.need]
 |read s h=>
  intro f r xs hf hc ha _;have:=Zr (Nd.mk 23 s 0 []);obtain⟨g,rfl⟩:∃g,f=g+1:=⟨f-1,by omega⟩
  have ha':At r (Iv::s::[59]::xs):=by simpa[Ih]using ha
  obtain⟨_,n2,n3⟩:=ha'.step.named h;refine⟨r.step.step.step,?_,ha'.step.step.step⟩;rw[Lj ha' (by decide) (by decide) (by decide),Cz,if_neg (by simp[ha'.no (s:=Ga) (by simp[Lo])]),if_pos ha'.yes,n2,n3];simp[ha'.step.step.need]
 |ifs c l l' hc hl hl' ihl ihl'=>
  intro f r xs hf hcn ha hx;have hcc:Ai (Nd.mk 24 [] 0 [c,.mk 30 [] 0 l,.mk 30 [] 0 l'])=1+(Ai c+(1+A3 l+(1+A3 l'))):=by simp[Ai,A3]
  obtain⟨g,rfl⟩:∃g,f=g+1:=⟨f-1,by omega⟩
  have L:=Adv hl ihl;have L':=Adv hl' ihl';cases l' with
  |nil=>
   have ha':At r (V9::(Dv c++([123]::(Jc l++[125]::xs)))):=by simpa[Ih]using ha
   obtain⟨r1,e1,a1⟩:=Pl hc (by omega) ha'.step Oa;obtain⟨r2,e2,a2⟩:=Adu L (f:=g) (by omega) (by omega) a1;refine⟨r2,?_,a2⟩;rw[Dc,if_pos ha'.yes,e1];simp only;rw[e2];simp only;rw[if_neg (by simp[a2.no hx])]
  |cons y l'=>
   have ha':At r (V9::(Dv c++([123]::(Jc l++[125]::(Iu::[123]::(Jc (y::l')++[125]::xs)))))):=by simpa[Ih]using ha
   obtain⟨r1,e1,a1⟩:=Pl hc (by omega) ha'.step Oa;obtain⟨r2,e2,a2⟩:=Adu L (f:=g) (by omega) (by omega) a1;obtain⟨r3,e3,a3⟩:=Adu L' (f:=g) (by omega) (by omega) a2.step;refine⟨r3,?_,a3⟩;rw[Dc,if_pos ha'.yes,e1];simp only;rw[e2];simp only;rw[if_pos a2.yes,e3]
 |whil c l hc hl ihl=>
  intro f r xs hf hcn ha hx;have hcc:Ai (Nd.mk 25 [] 0 [c,.mk 30 [] 0 l])=1+(Ai c+(1+A3 l)):=by simp[Ai,A3]
  obtain⟨g,rfl⟩:∃g,f=g+1:=⟨f-1,by omega⟩
  have ha':At r (Gp::(Dv c++([123]::(Jc l++[125]::xs)))):=by simpa[Ih]using ha
  obtain⟨r1,e1,a1⟩:=Pl hc (by omega) ha'.step Oa;obtain⟨r2,e2,a2⟩:=Adu (Adv hl ihl) (f:=g) (by omega) (by omega) a1;refine⟨r2,?_,a2⟩;rw[Dc,if_neg (by simp[ha'.no (s:=V9) (by simp[Lo])]),if_pos ha'.yes,e1];simp only;rw[e2]
 |for_ s a b l h fa fb hl ihl=>
  intro f r xs hf hcn ha hx;have hcc:Ai (Nd.mk 26 s 0 [a,b,.mk 30 [] 0 l])=1+(Ai a+(Ai b+(1+A3 l))):=by simp[Ai,A3]
  obtain⟨g,rfl⟩:∃g,f=g+1:=⟨f-1,by omega⟩
  have ha':At r (L9::s::Jn::(Dv a++(wTo::(Dv b++([123]::(Jc l++[125]::xs)))))):=by
   obtain⟨k',s',m',l'⟩:=b;simpa[Ih]using ha
  obtain⟨_,n2,n3⟩:=ha'.step.named h;have eA:Yh r.step=r.step.step.step:=by rw[Yh,n3,ha'.step.step.need]
  obtain⟨r1,e1,a1⟩:=Ju fa (by omega) ha'.step.step.step Oa;have eB:Zz r.step=r1.step:=by rw[Zz,eA,e1];exact a1.need
  obtain⟨r2,e2,a2⟩:=Ju fb (by omega) a1.step Oa;obtain⟨r3,e3,a3⟩:=Adu (Adv hl ihl) (f:=g) (by omega) (by omega) a2;refine⟨r3,?_,a3⟩;rw[Dc,if_neg (by simp[ha'.no (s:=V9) (by simp[Lo])]),if_neg (by simp[ha'.no (s:=Gp) (by simp[Lo])]),if_pos ha'.yes,eA,eB,e1,e2,n2];simp only;rw[e3]
 |check c hc=>
  intro f r xs hf hcn ha _;have hcc:Ai (Nd.mk 27 [] 0 [c])=1+Ai c:=by simp[Ai,A3]
  obtain⟨g,rfl⟩:∃g,f=g+1:=⟨f-1,by omega⟩
  have ha':At r (Ga::(Dv c++[59]::xs)):=by simpa[Ih]using ha
  obtain⟨r1,e1,a1⟩:=Pl hc (by omega) ha'.step Oa;refine⟨r1.step,?_,a1.step⟩;rw[Lj ha' (by decide) (by decide) (by decide),Cz,if_pos ha'.yes,e1];simp[a1.need]
 |skip=>
  intro f r xs hf hcn ha _;have:=Zr (Nd.mk 28 [] 0 []);obtain⟨g,rfl⟩:∃g,f=g+1:=⟨f-1,by omega⟩
  have ha':At r (I1::[59]::xs):=by simpa[Ih]using ha
  refine⟨r.step.step,?_,ha'.step.step⟩;rw[Lj ha' (by decide) (by decide) (by decide),Cz,if_neg (by simp[ha'.no (s:=Ga) (by simp[Lo])]),if_neg (by simp[ha'.no (s:=Iv) (by simp[Lo])]),if_pos ha'.yes];simp[ha'.step.need]
 |stop=>
  intro f r xs hf hcn ha _;have:=Zr (Nd.mk 29 [] 0 []);obtain⟨g,rfl⟩:∃g,f=g+1:=⟨f-1,by omega⟩
  have ha':At r (Jb::[59]::xs):=by simpa[Ih]using ha
  refine⟨r.step.step,?_,ha'.step.step⟩;rw[Lj ha' (by decide) (by decide) (by decide),Cz,if_neg (by simp[ha'.no (s:=Ga) (by simp[Lo])]),if_neg (by simp[ha'.no (s:=Iv) (by simp[Lo])]),if_neg (by simp[ha'.no (s:=I1) (by simp[Lo])]),if_pos ha'.yes];simp[ha'.step.need]
theorem Ai5{d:Nd}(h:FV d){r:RS}{xs:List (List UInt8)}(ha:At r (Ih d++xs)):Hq r=true∧(Ji r).1=d∧At ((Ji r).2.need [59]) xs:=by
 cases h with
 |var s h=>
  have ha':At r (Nm::s::[59]::xs):=by simpa[Ih]using ha
  obtain⟨_,n2,n3⟩:=ha'.step.named h;refine⟨by simp[Hq,ha'.yes],?_⟩;rw[Ji,if_pos ha'.yes,n2,n3];simp only;rw[ha'.step.step.need];refine⟨?_,ha'.step.step.step⟩
  first|trivial|rfl
 |arr s m h h0 h1=>
  have ha':At r (Fj::s::[91]::(if 0≤m then Md m.toNat else[63])::[93]::[59]::xs):=by simpa[Ih]using ha
  obtain⟨_,n2,n3⟩:=ha'.step.named h;refine⟨by simp[Hq,ha'.yes],?_⟩;have hz:I0 r.step.step.step=(m,r.step.step.step.step):=by
   have a3:=ha'.step.step.step;unfold I0;by_cases g:0≤m
   ·rw[if_pos g]at a3;have hm:m.toNat≤1000000:=by omega
    have hk:r.step.step.step.kind=2:=by rw[a3.kind,(Qj _ hm).2]
    rw[if_pos (by simp[a3.good,hk]),a3.text];simp only[Lo,List.headD_cons];rw[Pq _ hm];congr 1;omega
   ·rw[if_neg g]at a3;have hk:Di [63]≠2:=by decide
    rw[if_neg (by simp[a3.kind,hk]),a3.need];congr 1;omega
  rw[Ji,if_neg (by simp[ha'.no (s:=Nm) (by simp[Lo])]),n2,n3,ha'.step.step.need,hz];simp only;rw[ha'.step.step.step.step.need,ha'.step.step.step.step.step.need];refine⟨?_,ha'.step.step.step.step.step.step⟩
  first|trivial|rfl
theorem Ya:∀(ds:List Nd)(f:Nat)(acc:List Nd)(r:RS)(xs:List (List UInt8)),(∀x,x∈ds→FV x)→ds.length≤f→At r (Jc ds++xs)→Lo xs≠Nm→Lo xs≠Fj→∃r',E9 f acc r=(acc++ds,r')∧At r' xs
 |[],f,acc,r,xs,hd,hf,ha,h1,h2=>by
  have ha':At r xs:=by simpa[Jc]using ha
  refine⟨r,?_,ha'⟩;cases f with
  |zero=>simp[E9]
  |succ f=>rw[E9,if_neg (by simp[Hq,ha'.no h1,ha'.no h2]),H0]
 |d::ds,f,acc,r,xs,hd,hf,ha,h1,h2=>by
  simp at hf;obtain⟨g,rfl⟩:∃g,f=g+1:=⟨f-1,by omega⟩
  have ha':At r (Ih d++(Jc ds++xs)):=by simpa[Jc]using ha
  obtain⟨e1,e2,a1⟩:=Ai5 (hd d (by simp)) ha';obtain⟨r',e3,a2⟩:=Ya ds g (acc++[d]) _ xs (fun x hx=>hd x (by simp[hx])) (by omega) a1 h1 h2;refine⟨r',?_,a2⟩;rw[E9,if_pos e1,e2,e3];simp
theorem Aj5{ds l:List Nd}(hd:∀x,x∈ds→FV x)(hl:∀x,x∈l→FS x)(hc:A3 ds+A3 l≤500){r:RS}(ha:At r (Jc ds++Jc l)):(Ep r).1=.mk 40 [] 0 (ds++[.mk 30 [] 0 l])∧(Ep r).2.bad=false:=by
 have h12:Lo (Jc l)≠Nm∧Lo (Jc l)≠Fj:=by
  cases l with
  |nil=>simp[Jc,Lo]
  |cons y l=>
   obtain⟨s,t,e,hb⟩:=Xt (hl y (by simp));simp only[Jc,e,Lo];exact(Zp hb).2.2
 have hdl:=Bm ds;obtain⟨r1,e1,a1⟩:=Ya ds 2000 [] r (Jc l) hd (by omega) ha h12.1 h12.2;obtain⟨r2,e2,a2⟩:=Adv hl (fun x hx=>A2j (hl x hx)) 5000 r1 [] [] (by omega) (by omega) (by simpa using a1) (.inl rfl);have ee:r2.ends=r2:=by rw[RS.ends,if_neg (by have:=a2.ge;omega)]
 unfold Ep;rw[e1];simp only;rw[e2];simp only[Tj];rw[ee];refine⟨?_,a2.good⟩
 first|trivial|rfl
theorem Ami{n:Nd}(h:FP n)(hc:Ai n≤500)(h0:(Fb (Kb n)).2.1=0):(Fb (Kb n)).1=n:=by
 cases h with
 |mk ds l hd hl=>
  have hcn:Ai (Nd.mk 40 [] 0 (ds++[.mk 30 [] 0 l]))=1+(A3 ds+(1+A3 l)):=by simp[Ai,M3,A3]
  have hw:(C4 (Kb (.mk 40 [] 0 (ds++[.mk 30 [] 0 l])))).2.1=0:=by
   unfold Fb at h0;split at h0
   ·assumption
   ·exact h0
  have hlex:=A45 hd hl;rw[Sf ds,←Adq ds l]at hlex;have hws:=Aqe hlex hw;have hat:At (rs0 (Kb (.mk 40 [] 0 (ds++[.mk 30 [] 0 l])))) (Jc ds++Jc l):=⟨rfl,Aii _,by simp[rs0,hws]⟩
  obtain⟨e1,e2⟩:=Aj5 hd hl (by omega) hat
  unfold Fb at h0⊢;rw[if_pos hw,if_neg (by simp[e2])]at h0⊢;split at h0
  ·simp at h0
  ·rename_i hg;rw[if_neg hg];exact e1
def V6(k:Int)(s:List UInt8)(m:Int)(c:List (Int×Mg)):Mg:=
 if k=31 then[Nm,s]
 else if k=32 then[Fj,s,[91],if m=-1 then[63]else Lib.itoa m,[93]]
 else if k=21 then[s,[61]]++eW c 0
 else if k=22 then[s,[91]]++eW c 0++[[93],[61]]++eW c 1
 else if k=23 then[Iv,s]
 else if k=27 then[Ga]++eW c 0
 else if k=28 then[I1]
 else[Jb]
def bT(b:List (List UInt8×Bool))(i:Nat):List UInt8:=(b.getD i ([],false)).1
def bQ'(b:List (List UInt8×Bool))(i:Nat):Bool:=(b.getD i ([],false)).2
def Nt(k:Int):Bool:=k==31||k==32||k==21||k==22||k==23||k==27||k==28||k==29
def cpT(k:Int)(s:List UInt8)(c:List (Int×Mg))(b:List (List UInt8×Bool))(h:Nat):List UInt8:=
 if k=24 then Er ([V9]++eW c 0++[[123]]) h++bT b 1++(if bQ' b 2 then Er [[125],Iu,[123]] h++bT b 2 else[])++Er [[125]] h
 else if k=25 then Er ([Gp]++eW c 0++[[123]]) h++bT b 1++Er [[125]] h
 else if k=26 then Er ([L9,s,Jn]++eW c 0++[wTo]++eW c 1++[[123]]) h++bT b 2++Er [[125]] h
 else Er [] h
def Wh(k:Int)(s:List UInt8)(m:Int)(c:List (Int×Mg))(b:List (List UInt8×Bool))(h:Nat):List UInt8:=
 if Nt k then Er (V6 k s m c++[[59]]) h else cpT k s c b h
mutual
def Ht:Nd→Nat→List UInt8
 |.mk k s m ks,h=>Wh k s m (B5 ks) (Jl ks h) h
def Jl:List Nd→Nat→List (List UInt8×Bool)
 |[],_=>[]
 |x::l,h=>Aaz x h::Jl l h
def Aaz:Nd→Nat→List UInt8×Bool
 |.mk _ _ _ l,h=>(Ki l (h+1),!l.isEmpty)
def Ki:List Nd→Nat→List UInt8
 |[],_=>[]
 |x::l,h=>Ht x h++Ki l h
end
def Xj(n:Nd):List UInt8:=Ki n.kids.dropLast 0++Ki (n.kids.getLastD Cg).kids 0
def Xa(a:List UInt8):List UInt8:=if has L5 a then[]else[32]
theorem Uc{a:List UInt8}(h:has L5 a=false)(us:Mg):Ha a us=Ha [] us:=by
 have h0:has L5 []=false:=by decide
 cases us with
 |nil=>rfl
 |cons b us=>simp[Ha,Tm,h,h0]
structure PW (b:List UInt8):Prop where
 c:has Lw b=false
 o:has L5 b=false
 t:Kd b [32]=b
theorem PW.flat{b:List UInt8}(h:PW b)(a:List UInt8)(us:Mg):Ha a (b::us)=Xa a++(b++Ha [] us):=by
 simp only[Ha,Tm,h.c,h.t,Uc h.o,Xa,Bool.false_or];split<;>simp
theorem Ari{c:UInt8}{l:List UInt8}(h:c≠32):Kd (c::l) [32]=c::l:=by
 have:Ah9 (c::l) [32]=false:=by simp[Ah9,h]
 simp[Kd,this]
theorem PW.of_kind{b:List UInt8}(h:Di b=1∨Di b=2):PW b:=by
 have no:∀l:List (List UInt8),(∀x,x∈l→Di x≠1∧Di x≠2)→has l b=false:=by
  intro l hl;simp only[has,List.any_eq_false];intro x hx he;have:=zzq54.1 he;subst this;have:=hl _ hx;omega
 refine⟨no _ (by decide),no _ (by decide),?_⟩;cases b with
 |nil=>simp[Vv]at h
 |cons c l=>exact Ari (Adc (by rcases h with h|h<;>rw[h]<;>decide)).1
theorem PW.name{s:List UInt8}(h:nameS s=true):PW s:=.of_kind (.inl (Mw h).2)
theorem PW.num{m:Nat}(h:m≤1000000):PW (Md m):=.of_kind (.inr (Qj m h).2)
theorem PW.of{b:List UInt8}(h:b∈([[43],[45],[42],[61],[63],[123],[125],V9,Iu,Gp,L9,Jn,wTo,Ga,Iv,I1,Jb,Nm,Fj]:Mg)++Oi):PW b:=by
 have:∀b,b∈([[43],[45],[42],[61],[63],[123],[125],V9,Iu,Gp,L9,Jn,wTo,Ga,Iv,I1,Jb,Nm,Fj]:Mg)++Oi→has Lw b=false∧has L5 b=false∧Kd b [32]=b:=by decide
 obtain⟨h1,h2,h3⟩:=this b h;exact⟨h1,h2,h3⟩
theorem R5(a:List UInt8)(us:Mg):Ha a ([59]::us)=59::Ha [] us:=by
 rw[Ha,Uc (by decide)];simp[Tm,show has Lw [59]=true by decide,show Kd [59] [32]=[59] by decide]
theorem Ahf(a:List UInt8)(us:Mg):Ha a ([93]::us)=93::Ha [] us:=by
 rw[Ha,Uc (by decide)];simp[Tm,show has Lw [93]=true by decide,show Kd [93] [32]=[93] by decide]
theorem As3(a:List UInt8)(us:Mg):Ha a ([41]::us)=41::Ha [] us:=by
 rw[Ha,Uc (by decide)];simp[Tm,show has Lw [41]=true by decide,show Kd [41] [32]=[41] by decide]
theorem Ahe(a:List UInt8)(us:Mg):Ha a ([91]::us)=91::Ha [91] us:=by
 rw[Ha];simp[Tm,show has Lw [91]=true by decide,show Kd [91] [32]=[91] by decide]
theorem Anw{b t:List UInt8}(h:has Lw b=false)(ht:Kd b [32]=t)(a:List UInt8)(us:Mg):Ha a (b::us)=Xa a++(t++Ha b us):=by
 simp only[Ha,Tm,h,ht,Xa,Bool.false_or];split<;>simp
def FlatP(w:Mg)(t:List UInt8):Prop:=∀(a:List UInt8)(us:Mg),Ha a (w++us)=Xa a++(t++Ha [] us)
theorem FlatP.par{w:Mg}{t:List UInt8}(h:FlatP w t):FlatP ([[40]]++w++[[41]]) ([40]++t++[41]):=by
 intro a us;have e:[[40]]++w++[[41]]++us=[40]::(w++([41]::us)):=by simp
 rw[e,Anw (t:=[40]) (by decide) (by decide),h,As3,show Xa [40]=[] by decide];simp
theorem FlatP.in1{w:Mg}{t:List UInt8}(h:FlatP w t)(k:Int):FlatP (Pf true false k w) (Me 2 k t):=by
 by_cases hk:k=6∨k=7
 ·have e1:Pf true false k w=[[40]]++w++[[41]]:=by unfold Pf;rw[if_pos (by simpa using hk)]
  have e2:Me 2 k t=[40]++t++[41]:=by unfold Me L8;rw[if_pos (by simp[hk])]
  rw[e1,e2];exact h.par
 ·have e1:Pf true false k w=w:=by unfold Pf;rw[if_neg (by simpa using hk)]
  have e2:Me 2 k t=t:=by unfold Me L8;rw[if_neg (by rw[if_neg hk];split<;>omega)]
  rw[e1,e2];exact h
theorem FlatP.in2{w:Mg}{t:List UInt8}(h:FlatP w t)(k:Int):FlatP (Pf true true k w) (Me 3 k t):=by
 by_cases hk:(k=6∨k=7)∨k=8
 ·have e1:Pf true true k w=[[40]]++w++[[41]]:=by unfold Pf;rw[if_pos (by simpa using hk)]
  have e2:Me 3 k t=[40]++t++[41]:=by
   unfold Me L8;rw[if_pos];rcases hk with hk|hk
   ·rw[if_pos hk];omega
   ·rw[if_neg (by omega),if_pos hk];omega
  rw[e1,e2];exact h.par
 ·have e1:Pf true true k w=w:=by unfold Pf;rw[if_neg (by simpa using hk)]
  have e2:Me 3 k t=t:=by unfold Me L8;rw[if_neg (by rw[if_neg (by omega),if_neg (by omega)];omega)]
  rw[e1,e2];exact h
theorem FlatP.two{w w':Mg}{t t':List UInt8}(h:FlatP w t)(h':FlatP w' t'){c:List UInt8}(hc:PW c):FlatP (w++[c]++w') (t++[32]++c++[32]++t'):=by
 intro a us;have e:w++[c]++w'++us=w++(c::(w'++us)):=by simp
 rw[e,h,hc.flat,h',show Xa []=[32] by decide];simp
theorem Ac5{n:Nd}(h:FE n):FlatP (A1 n) (Bt n):=by
 induction h with
 |num m h0 h1=>
  intro a us;have e:A1 (.mk 1 [] m [])=[Md m.toNat]:=by
   have:Lib.itoa m=Md m.toNat:=by
    obtain⟨u,rfl⟩:∃u:Nat,m=u:=⟨m.toNat,by omega⟩
    rw[Lib.itoa_nonneg,Ag7];rfl
   simp[A1,Gf,this]
  rw[e];simp only[Bt,if_true,Pz,Tj];exact(PW.num (by omega)).flat a us
 |var s h=>
  intro a us;have e:A1 (.mk 2 s 0 [])=[s]:=by simp[A1,Gf]
  rw[e];simp only[Bt,Pz,Tj];exact(PW.name h).flat a us
 |cell s x h ha ih=>
  intro a us;have e:A1 (.mk 3 s 0 [x])++us=s::[91]::(A1 x++([93]::us)):=by simp[A1,Gf,B5,eW]
  rw[e,(PW.name h).flat,Ahe,ih,Ahf,show Xa [91]=[] by decide];simp[Bt]
 |len s h=>
  intro a us;have e:A1 (.mk 4 s 0 [])++us=[108,101,110]::[40]::s::[41]::us:=by simp[A1,Gf]
  rw[e,Anw (t:=[108,101,110]) (by decide) (by decide),Anw (t:=[40]) (by decide) (by decide),(PW.name h).flat,As3,show Xa [40]=[] by decide,show Xa [108,101,110]=[] by decide];simp[Bt]
 |neg x ha ih=>
  intro a us;have e:A1 (.mk 5 [] 0 [x])++us=[32,45]::(Pf true true x.kind (A1 x)++us):=by simp[A1,Gf,B5,iW]
  rw[e,Anw (t:=[45]) (by decide) (by decide),ih.in2 x.kind,show Xa [32,45]=[] by decide];simp[Bt]
 |two k x y hk ha hb iha ihb=>
  have p1:Me 1 x.kind (Bt x)=Bt x:=by
   unfold Me L8;rw[if_neg];split<;>(try split)<;>omega
  rcases hk with rfl|rfl|rfl
  ·have e:A1 (.mk 6 [] 0 [x,y])=A1 x++[[43]]++Pf true false y.kind (A1 y):=by simp[A1,Gf,B5,iW,eW]
   have:=iha.two (ihb.in1 y.kind) (c:=[43]) (.of (by decide));rw[e];simpa[Bt,p1]using this
  ·have e:A1 (.mk 7 [] 0 [x,y])=A1 x++[[45]]++Pf true false y.kind (A1 y):=by simp[A1,Gf,B5,iW,eW]
   have:=iha.two (ihb.in1 y.kind) (c:=[45]) (.of (by decide));rw[e];simpa[Bt,p1]using this
  ·have e:A1 (.mk 8 [] 0 [x,y])=Pf true false x.kind (A1 x)++[[42]]++Pf true true y.kind (A1 y):=by simp[A1,Gf,B5,iW,eW]
   have:=(iha.in1 x.kind).two (ihb.in2 y.kind) (c:=[42]) (.of (by decide));rw[e];simpa[Bt]using this
theorem As4{n:Nd}(h:FC n):FlatP (A1 n) (Bt n):=by
 cases h with
 |mk k x y h0 h1 ha hb=>
  have ne:¬k=1∧¬k=2∧¬k=3∧¬k=4∧¬k=5∧¬k=6∧¬k=7∧¬k=8:=by omega
  obtain⟨n1,n2,n3,n4,n5,n6,n7,n8⟩:=ne;have e:A1 (.mk k [] 0 [x,y])=A1 x++[Ux k]++A1 y:=by simp[A1,Gf,B5,eW,n1,n2,n3,n4,n5,n6,n7,n8,h0,h1]
  have:=(Ac5 ha).two (Ac5 hb) (c:=Ux k) (.of (Abq _ (Aam k)));rw[e];simpa[Bt,n6,n7,n8]using this
theorem Yw(h:Nat):List.replicate (2*h) (32:UInt8)++[32,32]=List.replicate (2*(h+1)) 32:=by
 rw[show 2*(h+1)=2*h+2 by omega,←List.replicate_append_replicate];rfl
theorem Oe{l:List Nd}{h:Nat}{p:List UInt8}(hx:∀x,x∈l→Ht x h=Cp x p):Ki l h=Ij l p:=by
 induction l with
 |nil=>simp[Ki,Ij]
 |cons x l ih=>simp[Ki,Ij,hx x (by simp),ih fun y hy=>hx y (by simp[hy])]
theorem As5{b:List UInt8}(h:PW b)(us:Mg):Po (b::us)=b++Ha [] us:=by rw[Po,h.t,Uc h.o]
theorem H7{a:List UInt8}:Ha a []=[]:=rfl
abbrev Aud(h:Nat):List UInt8:=List.replicate (2*h) 32
theorem Ia{b:List UInt8}(h:PW b)(us:Mg)(g:Nat):Er (b::us) g=Aud g++(b++(Ha [] us++[10])):=by rw[Er,As5 h];simp
theorem g0:Xa []=[32]:=by decide
theorem Aak(h:Nat):Er [[125]] h=Aud h++[125,10]:=by
 rw[Ia (.of (by decide)),H7];simp
theorem At2(h:Nat):Er [[125],Iu,[123]] h=Aud h++([125,32]++Iu++[32,123,10]):=by
 rw[Ia (.of (by decide)),(PW.of (b:=Iu) (by decide)).flat,(PW.of (b:=[123]) (by decide)).flat,H7,g0];simp
theorem A5a{x:Nd}(hx:FV x)(h:Nat):Ht x h=Cp x (Aud h):=by
 cases hx with
 |var s hs=>
  have e:Ht (.mk 31 s 0 []) h=Er (Nm::s::[[59]]) h:=by simp[Ht,Wh,Nt,V6]
  rw[e,Ia (.of (by decide)),(PW.name hs).flat,R5,H7,g0];simp[Cp]
 |arr s m hs h0 h1=>
  by_cases g:0≤m
  ·have em:¬m=-1:=by omega
   have ei:Lib.itoa m=Md m.toNat:=by
    obtain⟨u,rfl⟩:∃u:Nat,m=u:=⟨m.toNat,by omega⟩
    rw[Lib.itoa_nonneg,Ag7];rfl
   have e:Ht (.mk 32 s m []) h=Er (Fj::s::[91]::Md m.toNat::[93]::[[59]]) h:=by simp[Ht,Wh,Nt,V6,em,ei]
   rw[e,Ia (.of (by decide)),(PW.name hs).flat,Ahe,(PW.num (by omega)).flat,Ahf,R5,H7,g0,show Xa [91]=[] by decide];simp[Cp,g]
  ·have em:m=-1:=by omega
   have e:Ht (.mk 32 s m []) h=Er (Fj::s::[91]::[63]::[93]::[[59]]) h:=by simp[Ht,Wh,Nt,V6,em]
   rw[e,Ia (.of (by decide)),(PW.name hs).flat,Ahe,(PW.of (b:=[63]) (by decide)).flat,Ahf,R5,H7,g0,show Xa [91]=[] by decide];simp[Cp,g]
theorem A36{x:Nd}(hx:FS x):∀h:Nat,Ht x h=Cp x (Aud h):=by
 induction hx with
 |set s a hs ha=>
  intro h;have e:Ht (.mk 21 s 0 [a]) h=Er (s::[61]::(A1 a++[[59]])) h:=by simp[Ht,Wh,Nt,V6,B5,eW]
  rw[e,Ia (.name hs),(PW.of (b:=[61]) (by decide)).flat,Ac5 ha,R5,H7,g0];simp[Cp]
 |put s a b hs ha hb=>
  intro h;have e:Ht (.mk 22 s 0 [a,b]) h=Er (s::[91]::(A1 a++([93]::[61]::(A1 b++[[59]])))) h:=by simp[Ht,Wh,Nt,V6,B5,eW]
  rw[e,Ia (.name hs),Ahe,Ac5 ha,Ahf,(PW.of (b:=[61]) (by decide)).flat,Ac5 hb,R5,H7,g0,show Xa [91]=[] by decide];obtain⟨k',s',m',l'⟩:=b;simp[Cp]
 |read s hs=>
  intro h;have e:Ht (.mk 23 s 0 []) h=Er (Iv::s::[[59]]) h:=by simp[Ht,Wh,Nt,V6]
  rw[e,Ia (.of (by decide)),(PW.name hs).flat,R5,H7,g0];simp[Cp]
 |ifs c l l' hc hl hl' ihl ihl'=>
  intro h;have e:Ht (.mk 24 [] 0 [c,.mk 30 [] 0 l,.mk 30 [] 0 l']) h=Er (V9::(A1 c++[[123]])) h++Ki l (h+1)++(if !l'.isEmpty then Er [[125],Iu,[123]] h++Ki l' (h+1)else[])++Er [[125]] h:=by
   simp[Ht,Wh,Nt,cpT,B5,eW,Jl,Aaz,bT,bQ']
  have h1:=Oe (l:=l) (h:=h+1) fun x hx=>ihl x hx (h+1);have h2:=Oe (l:=l') (h:=h+1) fun x hx=>ihl' x hx (h+1);rw[e,h1,h2,Ia (.of (by decide)),As4 hc,(PW.of (b:=[123]) (by decide)).flat,H7,g0,Aak,At2];cases l' with
  |nil=>simp[Cp,Yw]
  |cons y l'=>simp[Cp,Yw]
 |whil c l hc hl ihl=>
  intro h;have e:Ht (.mk 25 [] 0 [c,.mk 30 [] 0 l]) h=Er (Gp::(A1 c++[[123]])) h++Ki l (h+1)++Er [[125]] h:=by
   simp[Ht,Wh,Nt,cpT,B5,eW,Jl,Aaz,bT]
  have h1:=Oe (l:=l) (h:=h+1) fun x hx=>ihl x hx (h+1);rw[e,h1,Ia (.of (by decide)),As4 hc,(PW.of (b:=[123]) (by decide)).flat,H7,g0,Aak];simp[Cp,Yw]
 |for_ s a b l hs ha hb hl ihl=>
  intro h;have e:Ht (.mk 26 s 0 [a,b,.mk 30 [] 0 l]) h=Er (L9::s::Jn::(A1 a++(wTo::(A1 b++[[123]])))) h++Ki l (h+1)++Er [[125]] h:=by
   simp[Ht,Wh,Nt,cpT,B5,eW,Jl,Aaz,bT]
  have h1:=Oe (l:=l) (h:=h+1) fun x hx=>ihl x hx (h+1);rw[e,h1,Ia (.of (by decide)),(PW.name hs).flat,(PW.of (b:=Jn) (by decide)).flat,Ac5 ha,(PW.of (b:=wTo) (by decide)).flat,Ac5 hb,(PW.of (b:=[123]) (by decide)).flat,H7,g0,Aak];obtain⟨k',s',m',l'⟩:=b;simp[Cp,Yw]
 |check c hc=>
  intro h;have e:Ht (.mk 27 [] 0 [c]) h=Er (Ga::(A1 c++[[59]])) h:=by simp[Ht,Wh,Nt,V6,B5,eW]
  rw[e,Ia (.of (by decide)),As4 hc,R5,H7,g0];simp[Cp]
 |skip=>
  intro h;have e:Ht (.mk 28 [] 0 []) h=Er (I1::[[59]]) h:=by simp[Ht,Wh,Nt,V6]
  rw[e,Ia (.of (by decide)),R5,H7];simp[Cp]
 |stop=>
  intro h;have e:Ht (.mk 29 [] 0 []) h=Er (Jb::[[59]]) h:=by simp[Ht,Wh,Nt,V6]
  rw[e,Ia (.of (by decide)),R5,H7];simp[Cp]
theorem Aj6{n:Nd}(h:FP n):Xj n=Kb n:=by
 cases h with
 |mk ds l hd hl=>
  have h1:=Oe (l:=ds) (h:=0) (p:=[]) fun x hx=>A5a (hd x hx) 0;have h2:=Oe (l:=l) (h:=0) (p:=[]) fun x hx=>A36 (hl x hx) 0;have e1:(Nd.mk 40 [] 0 (ds++[.mk 30 [] 0 l])).kids.dropLast=ds:=by simp[Nd.kids]
  have e2:((Nd.mk 40 [] 0 (ds++[.mk 30 [] 0 l])).kids.getLastD Cg).kids=l:=by simp[Nd.kids]
  rw[Xj,e1,e2,h1,h2,Adq,Sf]
theorem W9{p:Nd}:∀{l:List Nd}{i:Nat},(∀(j:Nat)(x:Nd),l[j]?=some x→K5 p ((i+j:Nat):Int) x.kind=true∧Co x=true)→Et p i l=true
 |[],i,_=>by simp[Et]
 |x::l,i,h=>by
  have h0:=h 0 x rfl;simp only[Px]at h0;have h1:=W9 (p:=p) (l:=l) (i:=i+1) fun j y hj=>by
   have:=h (j+1) y (by simpa using hj);rwa[show i+(j+1)=i+1+j by omega]at this
  simp[Et,h0.1,h0.2,h1]
theorem Mo{n:Nd}(h:FE n):Co n=true:=by
 induction h with
 |num m h0 h1=>simp[Co,H9,Bj,Fh,Bl,Et,h0,h1]
 |var s h=>simp[Co,H9,Bj,Fh,Et,h,N9 h]
 |cell s a h ha ih=>
  have:=Cy ha;simp[Co,H9,Bj,Fh,Et,K5,Kt,Cn,h,N9 h,ih];exact this
 |len s h=>simp[Co,H9,Bj,Fh,Et,h,N9 h]
 |neg a ha ih=>
  have:=Cy ha;simp[Co,H9,Bj,Fh,Et,K5,Kt,Cn,ih];exact this
 |two k a b hk ha hb iha ihb=>
  have h1:=Cy ha;have h2:=Cy hb;rcases hk with rfl|rfl|rfl <;>
  ·simp[Co,H9,Bj,Fh,Et,K5,Kt,Cn,iha,ihb];exact⟨h1,h2⟩
theorem Zk{n:Nd}(h:FC n):Co n=true:=by
 cases h with
 |mk k a b h0 h1 ha hb=>
  have e1:=Cy ha;have e2:=Cy hb;have:k=11∨k=12∨k=13∨k=14∨k=15∨k=16:=by omega
  rcases this with rfl|rfl|rfl|rfl|rfl|rfl <;>
  ·simp[Co,H9,Bj,Fh,Et,K5,Kt,Cn,Mo ha,Mo hb];exact⟨e1,e2⟩
theorem Lv{l:List Nd}(hl:∀x,x∈l→FS x)(h:∀x,x∈l→Co x=true):Co (.mk 30 [] 0 l)=true:=by
 have:=W9 (p:=.mk 30 [] 0 l) (l:=l) (i:=0) fun j x hx=>by
  have hm:=Bh hx;have:=Av6 (hl x hm);refine⟨?_,h x hm⟩;simp[K5,Ym,Cn];exact this
 simp[Co,H9,Bj,Fh,this]
theorem Api{n:Nd}(h:FS n):Co n=true:=by
 induction h with
 |set s a h ha=>
  have:=Cy ha;simp[Co,H9,Bj,Fh,Et,K5,Kt,Cn,h,N9 h,Mo ha];exact this
 |put s a b h ha hb=>
  have h1:=Cy ha;have h2:=Cy hb;simp[Co,H9,Bj,Fh,Et,K5,Kt,Cn,h,N9 h,Mo ha,Mo hb];exact⟨h1,h2⟩
 |read s h=>simp[Co,H9,Bj,Fh,Et,h,N9 h]
 |ifs c l l' hc hl hl' ihl ihl'=>
  have h1:=J0 hc;have b1:=Lv hl ihl;have b2:=Lv hl' ihl';rw[Co];simp[H9,Bj,Fh,Et,K5,Sd,Cn,Zk hc,b1,b2];exact h1
 |whil c l hc hl ihl=>
  have h1:=J0 hc;have b1:=Lv hl ihl;rw[Co];simp[H9,Bj,Fh,Et,K5,Sd,Cn,Zk hc,b1];exact h1
 |for_ s a b l h ha hb hl ihl=>
  have h1:=Cy ha;have h2:=Cy hb;have b1:=Lv hl ihl;rw[Co];simp[H9,Bj,Fh,Et,K5,Kt,Cn,h,N9 h,Mo ha,Mo hb,b1];exact⟨h1,h2⟩
 |check c hc=>
  have h1:=J0 hc;simp[Co,H9,Bj,Fh,Et,K5,Sd,Cn,Zk hc];exact h1
 |skip=>simp[Co,H9,Bj,Fh,Et]
 |stop=>simp[Co,H9,Bj,Fh,Et]
theorem Apj{n:Nd}(h:FV n):Co n=true:=by
 cases h with
 |var s h=>simp[Co,H9,Bj,Fh,Et,h,N9 h]
 |arr s m h h0 h1=>simp[Co,H9,Bj,Fh,Et,Bl,h,N9 h,h0,h1]
theorem Zl{n:Nd}(h:FP n):Co n=true:=by
 cases h with
 |mk ds l hd hl=>
  have hb:=Lv hl fun x hx=>Api (hl x hx);have:=W9 (p:=.mk 40 [] 0 (ds++[.mk 30 [] 0 l])) (l:=ds++[.mk 30 [] 0 l]) (i:=0) fun j x hx=>by
   rcases Gs j ds.length with hj|hj
   ·rw[Cs hj]at hx;have hm:=Bh hx;refine⟨?_,Apj (hd x hm)⟩;have hk:=Abx (hd x hm);have e:K5 (.mk 40 [] 0 (ds++[.mk 30 [] 0 l])) ((0+j:Nat):Int) x.kind=(x.kind==31||x.kind==32):=by
     rw[Ahu rfl,if_neg];simp[Nd.kids];omega
    rw[e];simpa using hk
   ·rw[Gk hj]at hx;have hj0:j=ds.length:=by
     have:=Aa hx;simp at this;omega
    subst hj0;simp at hx;subst hx;refine⟨?_,hb⟩;rw[Ahu rfl,if_pos]
    ·simp[Nd.kind]
    ·simp[Nd.kids]
  simp[Co,H9,Bj,Fh,this]
mutual
def longN:Nd→Bool
 |.mk _ s _ ks=>decide (8<s.length)||longL ks
def longL:List Nd→Bool
 |[]=>false
 |x::l=>longN x||longL l
end
theorem Qs{l:List Nd}(h:∀x,x∈l→longN x=false):longL l=false:=by
 induction l with
 |nil=>rfl
 |cons x l ih=>simp[longL,h x (by simp),ih fun y hy=>h y (by simp[hy])]
theorem Oo{n:Nd}(h:FE n):longN n=false:=by
 induction h with
 |num m h0 h1=>simp[longN,longL]
 |var s h=>simp[longN,longL,Jd h]
 |cell s a h ha ih=>simp[longN,longL,Jd h,ih]
 |len s h=>simp[longN,longL,Jd h]
 |neg a ha ih=>simp[longN,longL,ih]
 |two k a b hk ha hb iha ihb=>simp[longN,longL,iha,ihb]
theorem Acj{n:Nd}(h:FC n):longN n=false:=by
 cases h with|mk k a b h0 h1 ha hb=>simp[longN,longL,Oo ha,Oo hb]
theorem Ar2{n:Nd}(h:FS n):longN n=false:=by
 induction h with
 |set s a h ha=>simp[longN,longL,Jd h,Oo ha]
 |put s a b h ha hb=>simp[longN,longL,Jd h,Oo ha,Oo hb]
 |read s h=>simp[longN,longL,Jd h]
 |ifs c l l' hc hl hl' ihl ihl'=>simp[longN,longL,Acj hc,Qs ihl,Qs ihl']
 |whil c l hc hl ihl=>simp[longN,longL,Acj hc,Qs ihl]
 |for_ s a b l h ha hb hl ihl=>simp[longN,longL,Jd h,Oo ha,Oo hb,Qs ihl]
 |check c hc=>simp[longN,longL,Acj hc]
 |skip=>simp[longN,longL]
 |stop=>simp[longN,longL]
theorem Ar3{n:Nd}(h:FV n):longN n=false:=by
 cases h with
 |var s h=>simp[longN,longL,Jd h]
 |arr s m h h0 h1=>simp[longN,longL,Jd h]
theorem Ar1{n:Nd}(h:FP n):longN n=false:=by
 cases h with
 |mk ds l hd hl=>
  have hb:longN (.mk 30 [] 0 l)=false:=by simp[longN,Qs fun x hx=>Ar2 (hl x hx)]
  have:=Qs (l:=ds++[.mk 30 [] 0 l]) fun x hx=>by
   rcases zzq45.1 hx with h|h
   ·exact Ar3 (hd x h)
   ·simp at h;subst h;exact hb
  simp[longN,this]
noncomputable def Uz(a b:Nd):Bool:=@decide (a=b) (Classical.propDecidable _)
theorem Qy{a b:Nd}:Uz a b=true↔a=b:=by unfold Uz;exact @decide_eq_true_iff _ (Classical.propDecidable _)
noncomputable def Hb(n:Nd):List UInt8×Bool:=
 if O0 n||(n.kids.isEmpty||longN n)then([],false)
 else(Xj n,!(Xj n==[])&&((Fb (Xj n)).2.1==0&&Uz (Fb (Xj n)).1 n))
theorem Akt{s:List UInt8}(h:(Fb s).2.1=0):s.length≤4000:=by
 have hw:(C4 s).2.1=0:=by
  unfold Fb at h;split at h
  ·assumption
  ·exact h
 unfold C4 at hw;split at hw
 ·simp at hw
 ·omega
theorem Amk(n:Nd):(Hb n).2=Dq n∧(Dq n=true→(Hb n).1=Kb n):=by
 have key:Dq n=true→Hb n=(Kb n,true):=by
  intro h;have hf:=Ss h;obtain⟨fp,hc,hd⟩:=hf;have hp:=Aj6 fp;simp only[Dq,Dd,zzq54,Ml,Ke]at h;obtain⟨_,⟨h1,h2⟩,h3⟩:=h;have hb:=Ami fp hc h3;have hk:n.kids.isEmpty=false:=by cases fp with|mk ds l hd hl=>simp[Nd.kids]
  have hl:O0 n=false:=by simp[O0];omega
  unfold Hb;rw[if_neg (by simp[hk,hl,Ar1 fp]),hp,hb,h1];simp[h3,Qy]
 refine⟨?_,fun h=>by rw[key h]⟩;cases hs:Dq n with
 |true=>rw[key hs]
 |false=>
  cases hp:(Hb n).2 with
  |false=>rfl
  |true=>
   exfalso;unfold Hb at hp;split at hp
   ·simp at hp
   ·simp only[Dd,zzq54,Ml,Qy]at hp;obtain⟨h1,h2,h3⟩:=hp;obtain⟨fp,hc,hd⟩:=Aj3 h2;have hl:=Akt h2;rw[h3]at fp hc hd;rw[Aj6 fp]at h1 h2 hl;have hk:n.kind=40:=by cases fp;rfl
    have:Dq n=true:=by simp[Dq,hk,Tf,hc,hd,Zl fp,h1,hl,h2]
    rw[this]at hs;cases hs
end Go.V
namespace Go.V
open Go
section
variable {X:Cx}{B:Bx}{E:Env}{S:St}{w:World}{F:C5}{R:AE→St→Prop}
theorem Inv.wkB(hI:Inv X E S w){b r j:Nat}{rows:List (List AV)}{cs:List AV}{x y:AV}(hb:S.boxes[b]?=some rows)(hr:rows[r]?=some cs)(hc:cs[j]?=some x)(hw:Ren true [] [] x y) :
 Inv X E ⟨S.boxes.set b (rows.set r (cs.set j y)),S.toks⟩ w:=by
 refine hI.recell hb (by simp) (fun q hq=>?_) fun blk sz arr te hB hh k q p z v hk hp hv=>?_
 ·rcases Wt hq with hq|rfl
  ·exact⟨q,hq,rfl⟩
  ·exact⟨cs,Bh hr,by simp⟩
 ·obtain⟨arr',e,hh',hs,hl,hrel⟩:=hI.box b blk sz rows hB hb;rw[hh]at hh';cases hh';rcases Eu hk with⟨rfl,rfl⟩|⟨_,hk⟩
  ·rcases Eu hp with⟨rfl,rfl⟩|⟨_,hp⟩
   ·exact hw.less (hrel _ cs _ x v hr hc hv)
   ·exact hrel _ cs p z v hr hp hv
  ·exact hrel k q p z v hk hp hv
theorem Rk{K:List Item}(b r j:Nat){rows:List (List AV)}{cs:List AV}{x:AV}(y:AV){bx:List (List (List AV))}(hk:AK X B K F ⟨bx,S.toks⟩ R)(hb:S.boxes[b]?=some rows:=by rfl)(hr:rows[r]?=some cs:=by rfl)(hc:cs[j]?=some x:=by rfl)
 (hbx:S.boxes.set b (rows.set r (cs.set j y))=bx:=by rfl) [hw:RinC [] [] x y]:AK X B K F S R:=by
 subst hbx;intro E w a b' cs' hI hF hn hm hb';exact hk E w a b' cs' (hI.wkB hb hr hc hw.s) hF (by simpa using hn) hm hb'
theorem Aci{K:List Item}(b n m:Nat){bx:List (List (List AV))}{tk:List Nat}(hb:S.boxes[b]?=some (List.replicate n [.sl [] .tight]))(hm:S.toks.length=m)
 (hbx:S.boxes.set b ((List.range n).map fun i=>[.sl [] (.tok (m+i))])=bx)(htk:S.toks++List.replicate n 0=tk)(hk:AK X B K F ⟨bx,tk⟩ R):AK X B K F S R:=by
 subst hm;subst hbx;subst htk;have rowsK:∀k,k≤n→((List.range k).map fun i=>[AV.sl [] (.tok (S.toks.length+i))]).length=k:=fun k _=>by simp
 have key:∀q k,q+k=n→AK X B K F ⟨S.boxes.set b (((List.range k).map fun i=>[AV.sl [] (.tok (S.toks.length+i))])++List.replicate q [.sl [] .tight]),S.toks++List.replicate k 0⟩ R:=by
  intro q
  induction q with
  |zero=>
   intro k hk';have:k=n:=by omega
   subst this;simpa using hk
  |succ q ih=>
   intro k hk';have hlt:b<S.boxes.length:=Aa hb;have h1:=ih (k+1) (by omega);refine En (m:=S.toks.length+k) b k 0 (rows:=((List.range k).map fun i=>[AV.sl [] (.tok (S.toks.length+i))])++List.replicate (q+1) [.sl [] .tight]) (cs:=[.sl [] .tight]) (sl:=[]) ?_ ?_ rfl ?_ ?_ ?_ h1
   ·simp[hlt]
   ·rw[Gk (by simp)];simp[Aph]
   ·simp
   ·simp only[List.set_set];congr 1;rw[Iw _ _ (by simp),List.range_succ];simp[List.replicate_succ]
   ·simp[List.replicate_succ']
 have h0:=key n 0 (by omega);have e:S.boxes.set b (List.replicate n [.sl [] .tight])=S.boxes:=by
  apply Abp;intro i;by_cases hi:b=i
  ·subst hi;have:=Aa hb;rw[Eh this,hb]
  ·rw[Fq hi]
 simp only[List.range_zero,List.map_nil,Tj,List.replicate_zero,H0]at h0;rw[e]at h0;exact h0
instance(priority:=low){bx:List (List (List AV))}{tk:List Nat}{n m b:Nat}{cs cs':List AV} [h1:BoxC bx b [cs]] [h2:LeC n b] [h4:FzLC ⟨bx,tk⟩ n m cs cs']:FzC ⟨bx,tk⟩ n m (.ptr b 0 0) (.cptr cs'):=
 ⟨.ptr b 0 0 [cs] cs cs' h2.h h1.h rfl (by simpa using h4.s.get.1) (fun j x y hx hy=>h4.s.get.2 j x y (by simpa using hx) hy)⟩
end
end Go.V
