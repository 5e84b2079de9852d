/- A part of the proof of the claim that the last text states: no condition of its own. -/
import Derived.Test.YtkbnfpldnpeliaaGreatDoorG9
import Derived.Lib.ItoaLen
set_option linter.unusedVariables false
set_option linter.unusedSimpArgs false
namespace Go.V
open Go Go.Proofs
abbrev closers:List (List UInt8):=[[59],[91],[93],[41]]
abbrev openers:List (List UInt8):=[[40],[91],[108,101,110],[32,45]]
def gapS (a b:List UInt8):List UInt8:=if has closers b||has openers a then [] else [32]
theorem q_gap (a b:List UInt8):Pure X 303 [str a,str b] (str (gapS a b)):=by
 have h1:Pure X 213 [.sl (strR closers) .no,str b] (vb (has closers b)):=q_contains closers b (by decide)
 have h2:Pure X 213 [.sl (strR openers) .no,str a] (vb (has openers a)):=q_contains openers a (by decide)
 refine Pure.run Tryz.func303 ?_
 refine AK.pc h1 ?_
 refine AK.gd (fun h=>?_) (fun h=>?_)
 ·refine AK.yes ?_
  refine AK.rz Tryz.func303 ?_
  rw [gapS,if_pos (by simp [h])]
 ·refine AK.pc h2 ?_
  refine AK.if_ (fun h3=>?_) (fun h3=>?_)
  ·have h3':has openers a=true:=h3
   refine AK.rz Tryz.func303 ?_
   rw [gapS,if_pos (by simp [h3'])]
  ·have h3':has openers a=false:=h3
   refine AK.rz Tryz.func303 ?_
   rw [gapS,if_neg (by simp [h,h3'])]
def flatT:List UInt8→List (List UInt8)→List UInt8
 | _,[]=>[]
 | a,b::ws=>gapS a b++trimS b [32]++flatT b ws
def flatS:List (List UInt8)→List UInt8
 | []=>[]
 | b::ws=>trimS b [32]++flatT b ws
def restF (ws:List (List UInt8)):Nat→List UInt8
 | 0=>flatS ws
 | i+1=>flatT (ws.getD i []) (ws.drop (i+1))
theorem restF_step {ws:List (List UInt8)}{i:Nat}{b:List UInt8}(h:ws[i]?=some b):restF ws i=(match i with | 0=>[] | j+1=>gapS (ws.getD j []) b)++(trimS b [32]++restF ws (i+1)):=by
 cases i with
 | zero =>
   cases ws with
   | nil=>simp at h
   | cons c ws=>simp at h;subst h;simp [restF,flatS]
 | succ i =>
   have hd:=drop_cons h
   simp only [restF]
   rw [hd]
   simp only [flatT]
   rw [show ws.getD (i+1) []=b by simp [List.getD,h]]
   simp
theorem restF_end (ws:List (List UInt8)):restF ws ws.length=[]:=by
 cases h:ws.length with
 | zero=>rw [List.length_eq_zero_iff.1 h];rfl
 | succ n=>simp only [restF];rw [List.drop_eq_nil_of_le (by omega)];rfl
theorem h_flat (b:Bool)(s:List UInt8)(ws:List (List UInt8))(h:Int)(hw:ws.length≤1000000)(hl:(flatS ws).length≤10000000000)(hwl:∀ x,x∈ws→x.length≤1000000) :
 Hands X 281 [.ptr 0 0 0] ⟨[[bQ (adr 270 0 b) s ws h]],[s.length]⟩ (str (flatS ws)) ⟨[[bQ (adr 270 0 b) s ws h]],[s.length]⟩:=by
 refine Hands.mk (n:=1) (m:=1) Tryz.func281 rfl rfl (by kernel_rfl) rfl rfl ?_
 refine AK.evj 1 100 rfl ?_
 refine AK.ev 1 rfl ?_
 refine AK.op (Ndo.allocB (y:=⟨2,.str [(0,1),(1,1)],[.val (.pointer none),.sl [] .tight],[false,false]⟩) (rest:=[]) 5 rfl rfl rfl rfl rfl rfl rfl rfl rfl) ?_
 refine AK.while_ (ι:=Nat × List UInt8 × Bool) 2 2 (fun i=>i.1≤ws.length∧i.2.1++restF ws i.1=flatS ws) (fun i=>[(11,vi i.1),(10,vi ws.length),(9,.sl (strR ws) .no),(3,.ptr 1 0 0),(0,.ptr 0 0 0)])
  (fun i=>⟨[[bQ (adr 270 0 b) s ws h],[[adr 93 1 i.2.2,.buf 5 i.2.1 1]]],[s.length,i.2.1.length]⟩) (fun i=>ws.length-i.1) ?_ (0,[],true) ⟨Nat.zero_le _,rfl⟩ ⟨rfl,by rw [← strR_len];rfl,rfl,rfl,rfl,trivial⟩ rfl rfl rfl rfl rfl (fun _=>inferInstance) (fun _=>inferInstance)
 rintro ⟨i,out,c⟩ ⟨hi,hT⟩ IH
 simp only at hi hT IH ⊢
 have hol:out.length≤10000000000:=by have:=congrArg List.length hT;simp at this;omega
 refine AK.ev 100 rfl ?_
 refine AK.if_ (fun h1=>?_) (fun h1=>?_)
 ·have hlt:i<ws.length:=by have:=of_decide_eq_true h1;omega
  obtain ⟨x,hx⟩:=lget_of_lt ws hlt
  have hst:=restF_step hx
  have hxl:=hwl x (List.mem_of_getElem? hx)
  refine AK.ix i (by omega) (strR_get hx) ?_
  refine AK.if_ (fun h2=>?_) (fun h2=>?_)
  ·obtain ⟨j,rfl⟩:∃ j,i=j+1:=⟨i-1,by have:=of_decide_eq_true h2;omega⟩
   obtain ⟨a,ha⟩:=lget_of_lt ws (i:=j) (by omega)
   have hga:ws.getD j []=a:=by simp [List.getD,ha]
   simp only [hga] at hst
   rw [hst] at hT
   have hl2:=congrArg List.length hT
   simp only [List.length_append] at hl2
   have hj:IntKind.i64.wrap (((j+1:Nat):Int)-1)=(j:Int):=(wrap_small (by omega) (by omega)).trans (by omega)
   refine AK.ix (IntKind.i64.wrap (((j+1:Nat):Int)-1)) (by rw [hj];omega) (by rw [hj];exact strR_get ha) ?_
   refine AK.pc (q_gap a x) ?_
   refine AK.hc (τ':=[1]) [1] [1] (wA c out (gapS a x) (by omega)) ?_
   refine AK.pc (q_trim x [32] (by omega) (by simp)) ?_
   refine AK.hc (τ':=[1]) [1] [1] (wA false (out++gapS a x) (trimS x [32]) (by simp;omega)) ?_
   exact IH (j+1+1,out++gapS a x++trimS x [32],false) ⟨hlt,by rw [← hT];simp⟩ (by simp only;omega) _ _ ⟨vint ((wrap_small (by omega) (by omega)).trans (by omega)),rfl,rfl,rfl,rfl,trivial⟩ rfl rfl rfl
  ·have hi0:i=0:=by have:=of_decide_eq_false h2;omega
   subst hi0
   simp only [List.nil_append] at hst
   rw [hst] at hT
   have hl2:=congrArg List.length hT
   simp only [List.length_append] at hl2
   refine AK.pc (q_trim x [32] (by omega) (by simp)) ?_
   refine AK.hc (τ':=[1]) [1] [1] (wA c out (trimS x [32]) (by omega)) ?_
   exact IH (0+1,out++trimS x [32],false) ⟨hlt,by rw [← hT];simp⟩ (by simp only;omega) _ _ ⟨vint ((wrap_small (by omega) (by omega)).trans (by omega)),rfl,rfl,rfl,rfl,trivial⟩ rfl rfl rfl
 ·have hie:i=ws.length:=by have:=of_decide_eq_false h1;omega
  subst hie
  rw [restF_end,List.append_nil] at hT
  subst hT
  refine AK.hc (τ':=[1]) [1] [1] (sA c (flatS ws) (by omega)) ?_
  exact AK.rb Tryz.func281 rfl rfl
def lineT (ws:List (List UInt8))(h:Nat):List UInt8:=List.replicate (2*h) 32++flatS ws++[10]
theorem h_line (b:Bool)(s:List UInt8)(ws:List (List UInt8))(h:Nat)(hh:h≤60)(hw:ws.length≤1000000)(hl:(flatS ws).length≤10000000000)(hs:s.length≤10000000000)(hwl:∀ x,x∈ws→x.length≤1000000) :
 Hands X 266 [.ptr 0 0 0] ⟨[[bQ (adr 270 0 b) s ws h]],[s.length]⟩ (.tup []) ⟨[[bN (.ptr 0 0 0) (s++lineT ws h) h]],[(s++lineT ws h).length]⟩:=by
 have hlen:(lineT ws h).length≤20000000000:=by simp [lineT];omega
 refine Hands.run (n:=1) (m:=1) Tryz.func266 ?_
 refine AK.dn 4096 7 ?_
 refine Drv.pc (q_repeat h hh) ?_
 refine Drv.go ?_ rfl
 refine Drv.lo (Ndo.hd (τ':=[0]) [0] [0] (h_flat b s ws h hw hl hwl)) ?_
 refine Drv.ru (fun S'=>Ndo.cat rfl rfl rfl rfl rfl (by simp;omega) rfl) ?_
 refine Drv.ru (fun S'=>Ndo.cat rfl rfl rfl rfl rfl (by simp;omega) rfl) ?_
 refine Drv.w (Ndo.hd (τ':=[0]) [0] [0] (wQ b s ws h (lineT ws h) (by omega))) ?_
 refine Drv.z ?_
 exact AK.fb Tryz.func266 rfl rfl
theorem strR_cell:∀ l:List (List UInt8),allCellR (strR l)=true
 | []=>rfl
 | s::l=>strR_cell l
theorem h_put (b:Bool)(s:List UInt8)(ws xs:List (List UInt8))(h:Int)(hw:ws.length+xs.length≤100000000000)(h0:Nat.ble 1 (strR xs).length=true) :
 Hands X 262 [.ptr 0 0 0,.sl (strR xs) .no] ⟨[[bP (adr 270 0 b) s ws h]],[s.length,ws.length]⟩ (.tup []) ⟨[[bP (adr 270 0 b) s (ws++xs) h]],[s.length,(ws++xs).length]⟩:=by
 refine Hands.run (n:=1) (m:=2) Tryz.func262 ?_
 refine AK.op (Ndo.append (res:=strR (ws++xs)) rfl rfl rfl rfl rfl rfl rfl rfl rfl rfl rfl rfl rfl rfl (strR_len _) (strR_al _) (strR_al _) (strR_cell _) h0 ?_ ?_ rfl) ?_
 ·rw [strR_len,strR_len];exact hw
 ·simp [strR]
 rw [strR_len,strR_len,List.length_append]
 exact AK.fb Tryz.func262 rfl rfl
inductive PrN:Nd→Prop where
 | mk (k:Int) (s:List UInt8) (m:Int) (ks:List Nd) (hs:s.length≤8) (h0:-9223372036854775808≤m) (h1:m≤9223372036854775807) (hk:∀ x,x∈ks→PrN x):PrN (.mk k s m ks)
def kidN (n:Nd)(i:Nat):Nd:=n.kids.getD i nd0
theorem PrN.kid {n:Nd}(h:PrN n)(i:Nat):PrN (kidN n i):=by
 cases h with
 | mk k s m ks hs h0 h1 hk =>
   unfold kidN
   cases hx:ks[i]? with
   | none=>simp [Nd.kids,List.getD,hx];exact .mk 0 [] 0 [] (by simp) (by omega) (by omega) (fun x hx=>by cases hx)
   | some x=>simp [Nd.kids,List.getD,hx];exact hk x (List.mem_of_getElem? hx)
theorem countL_mem {l:List Nd}{x:Nd}(h:x∈l):countN x≤countL l:=by
 induction l with
 | nil=>cases h
 | cons y l ih =>
   simp only [countL]
   rcases List.mem_cons.1 h with rfl | h
   ·omega
   ·have:=ih h;omega
theorem kidN_cases (n:Nd)(i:Nat):kidN n i∈n.kids∨kidN n i=nd0:=by
 unfold kidN
 cases hx:n.kids[i]? with
 | none=>right;simp [List.getD,hx]
 | some x=>left;simp [List.getD,hx];exact List.mem_of_getElem? hx
theorem q_kid (n:Nd)(i:Nat)(hi:i≤1000000000)(hl:n.kids.length≤4000000000):Pure X 264 [nd n,vi i] (nd (kidN n i)):=by
 by_cases h:i<n.kids.length
 ·obtain ⟨x,hx⟩:=lget_of_lt n.kids h
  have hk:kidN n i=x:=by simp [kidN,List.getD,hx]
  rw [hk]
  refine Pure.run Tryz.func264 ?_
  refine AK.no ?_ (ht:=by simp [nrows_len];omega)
  refine AK.ix i (by omega) (nrows_get hx) ?_
  exact AK.rz Tryz.func264 rfl
 ·have hk:kidN n i=nd0:=by simp [kidN,List.getD,List.getElem?_eq_none (Nat.le_of_not_lt h)]
  rw [hk]
  refine Pure.run Tryz.func264 ?_
  refine AK.yes ?_ (ht:=by simp [nrows_len];omega)
  exact AK.rz Tryz.func264 rfl
abbrev Wds:=List (List UInt8)
def eW (c:List (Int × Wds))(i:Nat):Wds:=(c.getD i (0,[])).2
def inW (a b:Bool)(k:Int)(w:Wds):Wds:=if (a&&(k==6||k==7))||(b&&k==8) then [[40]]++w++[[41]] else w
def iW (c:List (Int × Wds))(i:Nat)(a b:Bool):Wds:=inW a b (c.getD i (0,[])).1 (c.getD i (0,[])).2
def exprK (k:Int)(s:List UInt8)(m:Int)(c:List (Int × Wds)):Wds :=
 if k=1 then [Lib.itoa m]
 else if k=2 then [s]
 else if k=3 then [s,[91]]++eW c 0++[[93]]
 else if k=4 then [[108,101,110],[40],s,[41]]
 else if k=5 then [[32,45]]++iW c 0 true true
 else if k=6∨k=7 then eW c 0++[if k=6 then [43] else [45]]++iW c 1 true false
 else if k=8 then iW c 0 true false++[[42]]++iW c 1 true true
 else if 11≤k∧k≤16 then eW c 0++[relT k]++eW c 1
 else []
mutual
def exprW:Nd→Wds
 | .mk k s m ks=>exprK k s m (kidsW ks)
def kidsW:List Nd→List (Int × Wds)
 | []=>[]
 | x::l=>(x.kind,exprW x)::kidsW l
end
theorem kidsW_map (l:List Nd):kidsW l=l.map fun x=>(x.kind,exprW x):=by
 induction l with
 | nil=>rfl
 | cons x l ih=>simp [kidsW,ih]
theorem exprW_nd0:exprW nd0=[]:=rfl
theorem kidsW_get (n:Nd)(i:Nat):(kidsW n.kids).getD i (0,[])=((kidN n i).kind,exprW (kidN n i)):=by
 rw [kidsW_map]
 unfold kidN
 cases hx:n.kids[i]? with
 | none=>simp [List.getD,hx,exprW_nd0];rfl
 | some x=>simp [List.getD,hx]
theorem eW_kid (n:Nd)(i:Nat):eW (kidsW n.kids) i=exprW (kidN n i):=by rw [eW,kidsW_get]
theorem iW_kid (n:Nd)(i:Nat)(a b:Bool):iW (kidsW n.kids) i a b=inW a b (kidN n i).kind (exprW (kidN n i)):=by rw [iW,kidsW_get]
theorem exprW_eq (n:Nd):exprW n=exprK n.kind n.name n.num (kidsW n.kids):=by cases n;rfl
theorem kids_len (ks:List Nd)(ih:∀ x,x∈ks→(exprW x).length+2≤8*countN x):(eW (kidsW ks) 0).length+(eW (kidsW ks) 1).length+4≤8*countL ks+4∧∀ a b c d,(iW (kidsW ks) 0 a b).length+(iW (kidsW ks) 1 c d).length≤8*countL ks:=by
 have hin:∀ a b k w,(inW a b k w).length≤w.length+2:=fun a b k w=>by unfold inW;split<;>simp
 cases ks with
 | nil=>refine ⟨by simp [eW,kidsW],fun a b c d=>by simp [iW,inW,kidsW]⟩
 | cons x l =>
   have hx:=ih x (by simp)
   cases l with
   | nil =>
     refine ⟨by simp [eW,kidsW,countL];omega,fun a b c d=>?_⟩
     have:=hin a b x.kind (exprW x)
     simp [iW,kidsW,countL]
     have h2:(inW c d 0 []).length=0:=by simp [inW]
     rw [h2];omega
   | cons y l =>
     have hy:=ih y (by simp)
     refine ⟨by simp [eW,kidsW,countL];omega,fun a b c d=>?_⟩
     have h1:=hin a b x.kind (exprW x)
     have h2:=hin c d y.kind (exprW y)
     simp [iW,kidsW,countL]
     omega
theorem exprW_len (n:Nd):(exprW n).length+2≤8*countN n:=by
 induction n using Nd.ind with
 | h n ih =>
 have hc:=countN_eq n
 rw [exprW_eq]
 obtain ⟨h1,h2⟩:=kids_len n.kids ih
 have h3:=h2 true true true true
 have h4:=h2 true false true true
 have h5:(iW (kidsW n.kids) 1 true false).length≤8*countL n.kids-(eW (kidsW n.kids) 0).length:=by
  have:=h2 false false true false
  have e:iW (kidsW n.kids) 0 false false=eW (kidsW n.kids) 0:=by simp [iW,inW,eW]
  rw [e] at this;omega
 unfold exprK
 repeat' split
 all_goals simp
 all_goals omega
abbrev PutC (r:List (List AV))(xs:Wds):Prop:=∀ (b:Bool)(s:List UInt8)(ws:Wds)(h:Int),ws.length≤1000000000 →
 Hands X 262 [.ptr 0 0 0,.sl r .no] ⟨[[bP (adr 270 0 b) s ws h]],[s.length,ws.length]⟩ (.tup []) ⟨[[bP (adr 270 0 b) s (ws++xs) h]],[s.length,(ws++xs).length]⟩
theorem put1 (x:List UInt8):PutC [[str x]] [x]:=fun b s ws h hw=>h_put b s ws [x] h (by simp;omega) rfl
theorem put2 (x y:List UInt8):PutC [[str x],[str y]] [x,y]:=fun b s ws h hw=>h_put b s ws [x,y] h (by simp;omega) rfl
theorem put3 (x y z:List UInt8):PutC [[str x],[str y],[str z]] [x,y,z]:=fun b s ws h hw=>h_put b s ws [x,y,z] h (by simp;omega) rfl
theorem put4 (x y z u:List UInt8):PutC [[str x],[str y],[str z],[str u]] [x,y,z,u]:=fun b s ws h hw=>h_put b s ws [x,y,z,u] h (by simp;omega) rfl
theorem put5 (x y z u v:List UInt8):PutC [[str x],[str y],[str z],[str u],[str v]] [x,y,z,u,v]:=fun b s ws h hw=>h_put b s ws [x,y,z,u,v] h (by simp;omega) rfl
def HE (n:Nd):Prop:=∀ (b:Bool)(s:List UInt8)(ws:Wds)(h:Int),ws.length+(exprW n).length≤1000000 →
 Hands X 263 [.ptr 0 0 0,nd n] ⟨[[bP (adr 270 0 b) s ws h]],[s.length,ws.length]⟩ (.tup []) ⟨[[bP (adr 270 0 b) s (ws++exprW n) h]],[s.length,(ws++exprW n).length]⟩
theorem h_inside (n:Nd)(he:HE n)(c b:Bool)(s:List UInt8)(ws:Wds)(h:Int)(hw:ws.length+(inW true c n.kind (exprW n)).length≤1000000) :
 Hands X 278 [.ptr 0 0 0,nd n,vb true,vb c] ⟨[[bP (adr 270 0 b) s ws h]],[s.length,ws.length]⟩ (.tup []) ⟨[[bP (adr 270 0 b) s (ws++inW true c n.kind (exprW n)) h]],[s.length,(ws++inW true c n.kind (exprW n)).length]⟩:=by
 refine Hands.run (n:=1) (m:=2) Tryz.func278 ?_
 refine AK.gy ?_
 refine AK.gd (fun h6=>?_) (fun h6=>?_)
 ·have h6':n.kind=6:=by simpa using h6
  refine AK.gy ?_
  refine AK.yes ?_
  have hI:inW true c n.kind (exprW n)=[[40]]++exprW n++[[41]]:=by unfold inW;rw [if_pos (by simp [h6'])]
  rw [hI] at hw ⊢
  simp at hw
  refine AK.hc (τ':=[0,1]) [0] [0,1] (put1 [40] b s ws h (by omega)) ?_
  refine AK.hc (τ':=[0,1]) [0] [0,1] (he b s (ws++[[40]]) h (by simp;omega)) ?_
  refine AK.hc (τ':=[0,1]) [0] [0,1] (put1 [41] b s (ws++[[40]]++exprW n) h (by simp;omega)) ?_
  rw [← List.append_assoc,← List.append_assoc]
  exact AK.rb Tryz.func278 rfl rfl
 have h6':n.kind≠6:=by simpa using h6
 refine AK.gd (fun h7=>?_) (fun h7=>?_)
 ·have h7':n.kind=7:=by simpa using h7
  refine AK.yes ?_
  have hI:inW true c n.kind (exprW n)=[[40]]++exprW n++[[41]]:=by unfold inW;rw [if_pos (by simp [h7'])]
  rw [hI] at hw ⊢
  simp at hw
  refine AK.hc (τ':=[0,1]) [0] [0,1] (put1 [40] b s ws h (by omega)) ?_
  refine AK.hc (τ':=[0,1]) [0] [0,1] (he b s (ws++[[40]]) h (by simp;omega)) ?_
  refine AK.hc (τ':=[0,1]) [0] [0,1] (put1 [41] b s (ws++[[40]]++exprW n) h (by simp;omega)) ?_
  rw [← List.append_assoc,← List.append_assoc]
  exact AK.rb Tryz.func278 rfl rfl
 have h7':n.kind≠7:=by simpa using h7
 cases c
 ·refine AK.gn ?_
  refine AK.no ?_
  have hI:inW true false n.kind (exprW n)=exprW n:=by unfold inW;rw [if_neg (by simp [h6',h7'])]
  rw [hI] at hw ⊢
  refine AK.hc (τ':=[0,1]) [0] [0,1] (he b s ws h (by omega)) ?_
  exact AK.fb Tryz.func278 rfl rfl
 ·refine AK.gy ?_
  refine AK.if_ (fun h8=>?_) (fun h8=>?_)
  ·have h8':n.kind=8:=by simpa using h8
   have hI:inW true true n.kind (exprW n)=[[40]]++exprW n++[[41]]:=by unfold inW;rw [if_pos (by simp [h8'])]
   rw [hI] at hw ⊢
   simp at hw
   refine AK.hc (τ':=[0,1]) [0] [0,1] (put1 [40] b s ws h (by omega)) ?_
   refine AK.hc (τ':=[0,1]) [0] [0,1] (he b s (ws++[[40]]) h (by simp;omega)) ?_
   refine AK.hc (τ':=[0,1]) [0] [0,1] (put1 [41] b s (ws++[[40]]++exprW n) h (by simp;omega)) ?_
   rw [← List.append_assoc,← List.append_assoc]
   exact AK.rb Tryz.func278 rfl rfl
  ·have h8':n.kind≠8:=by simpa using h8
   have hI:inW true true n.kind (exprW n)=exprW n:=by unfold inW;rw [if_neg (by simp [h6',h7',h8'])]
   rw [hI] at hw ⊢
   refine AK.hc (τ':=[0,1]) [0] [0,1] (he b s ws h (by omega)) ?_
   exact AK.fb Tryz.func278 rfl rfl
theorem exprK_lo (k:Int)(s:List UInt8)(m:Int)(c:List (Int × Wds))(h:k≠1∧k≠2∧k≠3∧k≠4∧k≠5∧k≠6∧k≠7∧k≠8):exprK k s m c=if 11≤k∧k≤16 then eW c 0++[relT k]++eW c 1 else []:=by
 obtain ⟨h1,h2,h3,h4,h5,h6,h7,h8⟩:=h
 unfold exprK
 rw [if_neg h1,if_neg h2,if_neg h3,if_neg h4,if_neg h5,if_neg (by simp [h6,h7]),if_neg h8]
theorem Ndo.buildC {X:Cx}{S:St}{F:Frm}{N:Nat}{ops:Array Oper}{i:Nat}{o:Oper}{t:TypeId}{ps:Array (Nat × Operand)}{vals:List (Nat × Value)}{cs:Array Value}(h:X.P.built t vals=some cs)(ho:ops[i]?=some o:=by rfl)(hw:wantA ops F o=some true:=by rfl)
 (hop:o.op=.build t ps:=by rfl)(hv:∀ a:Act,ps.toList.map (fun x=>(x.1,a.eval x.2))=vals:=by intro a;rfl):Ndo X N ops i o F (.agg (cs.toList.map ofVal)) S S:=by
 refine Ndo.val ho hw fun F' E w a hc hI hF=>?_
 refine ⟨.agg cs,?_,.agg _ _ (by simp) fun j v x hv hx=>?_⟩
 ·have hrun:=run_build (P:=X.P) w t (ps.map fun x=>(x.1,a.eval x.2)) cs (by rw [Array.toList_map,hv a];exact h)
  simp [execOp,hop,hrun]
 ·simp [hv] at hx
  subst hx
  exact rel_ofVal v
theorem built265:X.P.built 290 [(0,.string ⟨#[43]⟩),(1,.string ⟨#[45]⟩)]=some #[.string ⟨#[43]⟩,.string ⟨#[45]⟩]:=by kernel_rfl
theorem h_expr0 (n:Nd)(hp:PrN n)(hsz:countN n≤100000)(ih:n.kind≠0→∀ i,HE (kidN n i)):HE n:=by
 intro b s ws h hw
 have hkl:n.kids.length≤4000000000:=by have:=length_le_countL n.kids;have:=countN_eq n;omega
 have q0:=q_kid n 0 (by omega) hkl
 have q1:=q_kid n 1 (by omega) hkl
 have hE:exprW n=exprK n.kind n.name n.num (kidsW n.kids):=exprW_eq n
 rw [hE] at hw ⊢
 have pn:n.name.length≤8∧-9223372036854775808≤n.num∧n.num≤9223372036854775807:=by cases hp with | mk k s m ks hs h0 h1 hk=>exact ⟨hs,h0,h1⟩
 refine Hands.run (n:=1) (m:=2) Tryz.func263 ?_
 refine AK.if_ (fun h1=>?_) (fun h1=>?_)
 ·have h1':n.kind=1:=by simpa using h1
  have hT:exprK n.kind n.name n.num (kidsW n.kids)=[Lib.itoa n.num]:=by unfold exprK;rw [if_pos h1']
  rw [hT] at hw ⊢
  refine AK.pc (p_itoa n.num pn.2.1 pn.2.2) ?_
  refine AK.hc (τ':=[0,1]) [0] [0,1] (put1 (Lib.itoa n.num) b s ws h (by omega)) ?_
  exact AK.fb Tryz.func263 rfl rfl
 have h1':n.kind≠1:=by simpa using h1
 refine AK.if_ (fun h2=>?_) (fun h2=>?_)
 ·have h2':n.kind=2:=by simpa using h2
  have hT:exprK n.kind n.name n.num (kidsW n.kids)=[n.name]:=by unfold exprK;rw [if_neg h1',if_pos h2']
  rw [hT] at hw ⊢
  refine AK.hc (τ':=[0,1]) [0] [0,1] (put1 n.name b s ws h (by omega)) ?_
  exact AK.fb Tryz.func263 rfl rfl
 have h2':n.kind≠2:=by simpa using h2
 refine AK.if_ (fun h3=>?_) (fun h3=>?_)
 ·have h3':n.kind=3:=by simpa using h3
  have hT:exprK n.kind n.name n.num (kidsW n.kids)=[n.name,[91]]++exprW (kidN n 0)++[[93]]:=by unfold exprK;rw [if_neg h1',if_neg h2',if_pos h3',eW_kid]
  rw [hT] at hw ⊢
  simp at hw
  have e0:=ih (by omega) 0
  refine AK.hc (τ':=[0,1]) [0] [0,1] (put2 n.name [91] b s ws h (by omega)) ?_
  refine AK.pc q0 ?_
  refine AK.hc (τ':=[0,1]) [0] [0,1] (e0 b s (ws++[n.name,[91]]) h (by simp;omega)) ?_
  refine AK.hc (τ':=[0,1]) [0] [0,1] (put1 [93] b s (ws++[n.name,[91]]++exprW (kidN n 0)) h (by simp;omega)) ?_
  rw [← List.append_assoc,← List.append_assoc]
  exact AK.fb Tryz.func263 rfl rfl
 have h3':n.kind≠3:=by simpa using h3
 refine AK.if_ (fun h4=>?_) (fun h4=>?_)
 ·have h4':n.kind=4:=by simpa using h4
  have hT:exprK n.kind n.name n.num (kidsW n.kids)=[[108,101,110],[40],n.name,[41]]:=by unfold exprK;rw [if_neg h1',if_neg h2',if_neg h3',if_pos h4']
  rw [hT] at hw ⊢
  refine AK.hc (τ':=[0,1]) [0] [0,1] (put4 [108,101,110] [40] n.name [41] b s ws h (by omega)) ?_
  exact AK.fb Tryz.func263 rfl rfl
 have h4':n.kind≠4:=by simpa using h4
 refine AK.if_ (fun h5=>?_) (fun h5=>?_)
 ·have h5':n.kind=5:=by simpa using h5
  have hT:exprK n.kind n.name n.num (kidsW n.kids)=[[32,45]]++inW true true (kidN n 0).kind (exprW (kidN n 0)):=by unfold exprK;rw [if_neg h1',if_neg h2',if_neg h3',if_neg h4',if_pos h5',iW_kid]
  rw [hT] at hw ⊢
  simp at hw
  have e0:=ih (by omega) 0
  refine AK.hc (τ':=[0,1]) [0] [0,1] (put1 [32,45] b s ws h (by omega)) ?_
  refine AK.pc q0 ?_
  refine AK.hc (τ':=[0,1]) [0] [0,1] (h_inside (kidN n 0) e0 true b s (ws++[[32,45]]) h (by simp;omega)) ?_
  rw [← List.append_assoc]
  exact AK.fb Tryz.func263 rfl rfl
 have h5':n.kind≠5:=by simpa using h5
 refine AK.if_ (fun h6=>?_) (fun h6=>?_)
 ·have h6':n.kind=6:=by simpa using h6
  have hT:exprK n.kind n.name n.num (kidsW n.kids)=exprW (kidN n 0)++[[43]]++inW true false (kidN n 1).kind (exprW (kidN n 1)):=by
   unfold exprK;rw [if_neg h1',if_neg h2',if_neg h3',if_neg h4',if_neg h5',if_pos (by simp [h6']),eW_kid,iW_kid]
   simp [h6']
  rw [hT] at hw ⊢
  simp at hw
  have e0:=ih (by omega) 0
  have e1:=ih (by omega) 1
  refine AK.pc q0 ?_
  refine AK.hc (τ':=[0,1]) [0] [0,1] (e0 b s ws h (by omega)) ?_
  refine AK.op (Ndo.buildC built265) ?_
  have hwk:IntKind.i64.wrap (n.kind-6)=0:=by rw [h6'];rfl
  refine AK.op (Ndo.aindex (n:=IntKind.i64.wrap (n.kind-6)) (x:=str [43]) rfl rfl rfl rfl rfl rfl rfl rfl rfl (by omega) (by omega) (by rw [hwk];rfl)) ?_
  refine AK.hc (τ':=[0,1]) [0] [0,1] (put1 [43] b s (ws++exprW (kidN n 0)) h (by simp;omega)) ?_
  refine AK.pc q1 ?_
  refine AK.hc (τ':=[0,1]) [0] [0,1] (h_inside (kidN n 1) e1 false b s (ws++exprW (kidN n 0)++[[43]]) h (by simp;omega)) ?_
  rw [← List.append_assoc,← List.append_assoc]
  exact AK.fb Tryz.func263 rfl rfl
 have h6':n.kind≠6:=by simpa using h6
 refine AK.if_ (fun h7=>?_) (fun h7=>?_)
 ·have h7':n.kind=7:=by simpa using h7
  have hT:exprK n.kind n.name n.num (kidsW n.kids)=exprW (kidN n 0)++[[45]]++inW true false (kidN n 1).kind (exprW (kidN n 1)):=by
   unfold exprK;rw [if_neg h1',if_neg h2',if_neg h3',if_neg h4',if_neg h5',if_pos (by simp [h7']),eW_kid,iW_kid]
   simp [h7']
  rw [hT] at hw ⊢
  simp at hw
  have e0:=ih (by omega) 0
  have e1:=ih (by omega) 1
  refine AK.pc q0 ?_
  refine AK.hc (τ':=[0,1]) [0] [0,1] (e0 b s ws h (by omega)) ?_
  refine AK.op (Ndo.buildC built265) ?_
  have hwk:IntKind.i64.wrap (n.kind-6)=1:=by rw [h7'];rfl
  refine AK.op (Ndo.aindex (n:=IntKind.i64.wrap (n.kind-6)) (x:=str [45]) rfl rfl rfl rfl rfl rfl rfl rfl rfl (by omega) (by omega) (by rw [hwk];rfl)) ?_
  refine AK.hc (τ':=[0,1]) [0] [0,1] (put1 [45] b s (ws++exprW (kidN n 0)) h (by simp;omega)) ?_
  refine AK.pc q1 ?_
  refine AK.hc (τ':=[0,1]) [0] [0,1] (h_inside (kidN n 1) e1 false b s (ws++exprW (kidN n 0)++[[45]]) h (by simp;omega)) ?_
  rw [← List.append_assoc,← List.append_assoc]
  exact AK.fb Tryz.func263 rfl rfl
 have h7':n.kind≠7:=by simpa using h7
 refine AK.if_ (fun h8=>?_) (fun h8=>?_)
 ·have h8':n.kind=8:=by simpa using h8
  have hT:exprK n.kind n.name n.num (kidsW n.kids)=inW true false (kidN n 0).kind (exprW (kidN n 0))++[[42]]++inW true true (kidN n 1).kind (exprW (kidN n 1)):=by
   unfold exprK;rw [if_neg h1',if_neg h2',if_neg h3',if_neg h4',if_neg h5',if_neg (by simp [h6',h7']),if_pos h8',iW_kid,iW_kid]
  rw [hT] at hw ⊢
  simp at hw
  have e0:=ih (by omega) 0
  have e1:=ih (by omega) 1
  refine AK.pc q0 ?_
  refine AK.hc (τ':=[0,1]) [0] [0,1] (h_inside (kidN n 0) e0 false b s ws h (by omega)) ?_
  refine AK.hc (τ':=[0,1]) [0] [0,1] (put1 [42] b s (ws++inW true false (kidN n 0).kind (exprW (kidN n 0))) h (by simp;omega)) ?_
  refine AK.pc q1 ?_
  refine AK.hc (τ':=[0,1]) [0] [0,1] (h_inside (kidN n 1) e1 true b s (ws++inW true false (kidN n 0).kind (exprW (kidN n 0))++[[42]]) h (by simp;omega)) ?_
  rw [← List.append_assoc,← List.append_assoc]
  exact AK.fb Tryz.func263 rfl rfl
 have h8':n.kind≠8:=by simpa using h8
 have hlo:=exprK_lo n.kind n.name n.num (kidsW n.kids) ⟨h1',h2',h3',h4',h5',h6',h7',h8'⟩
 refine AK.if_ (fun h11=>?_) (fun h11=>?_)
 ·have hk:n.kind=11:=by simpa using h11
  have hT:exprK n.kind n.name n.num (kidsW n.kids)=exprW (kidN n 0)++[[60]]++exprW (kidN n 1):=by
   rw [hlo,if_pos (by omega),eW_kid,eW_kid,hk];rfl
  rw [hT] at hw ⊢
  simp at hw
  have e0:=ih (by omega) 0
  have e1:=ih (by omega) 1
  refine AK.pc q0 ?_
  refine AK.hc (τ':=[0,1]) [0] [0,1] (e0 b s ws h (by omega)) ?_
  have hwk:IntKind.i64.wrap (n.kind-11)=0:=by rw [hk];rfl
  refine AK.op (Ndo.gindex (n:=IntKind.i64.wrap (n.kind-11)) (r:=str [60]::condG.drop 1) rfl rfl rfl rfl rfl rfl rfl rfl (by rw [hwk];omega) (by rw [hwk];omega) (by rw [hwk];decide) (by rw [hwk];rfl)) ?_
  refine AK.hc (τ':=[0,1]) [0] [0,1] (put1 [60] b s (ws++exprW (kidN n 0)) h (by simp;omega)) ?_
  refine AK.pc q1 ?_
  refine AK.hc (τ':=[0,1]) [0] [0,1] (e1 b s (ws++exprW (kidN n 0)++[[60]]) h (by simp;omega)) ?_
  rw [← List.append_assoc,← List.append_assoc]
  exact AK.fb Tryz.func263 rfl rfl
 have h11':n.kind≠11:=by simpa using h11
 refine AK.if_ (fun h12=>?_) (fun h12=>?_)
 ·have hk:n.kind=12:=by simpa using h12
  have hT:exprK n.kind n.name n.num (kidsW n.kids)=exprW (kidN n 0)++[[60,61]]++exprW (kidN n 1):=by
   rw [hlo,if_pos (by omega),eW_kid,eW_kid,hk];rfl
  rw [hT] at hw ⊢
  simp at hw
  have e0:=ih (by omega) 0
  have e1:=ih (by omega) 1
  refine AK.pc q0 ?_
  refine AK.hc (τ':=[0,1]) [0] [0,1] (e0 b s ws h (by omega)) ?_
  have hwk:IntKind.i64.wrap (n.kind-11)=1:=by rw [hk];rfl
  refine AK.op (Ndo.gindex (n:=IntKind.i64.wrap (n.kind-11)) (r:=str [60,61]::condG.drop 2) rfl rfl rfl rfl rfl rfl rfl rfl (by rw [hwk];omega) (by rw [hwk];omega) (by rw [hwk];decide) (by rw [hwk];rfl)) ?_
  refine AK.hc (τ':=[0,1]) [0] [0,1] (put1 [60,61] b s (ws++exprW (kidN n 0)) h (by simp;omega)) ?_
  refine AK.pc q1 ?_
  refine AK.hc (τ':=[0,1]) [0] [0,1] (e1 b s (ws++exprW (kidN n 0)++[[60,61]]) h (by simp;omega)) ?_
  rw [← List.append_assoc,← List.append_assoc]
  exact AK.fb Tryz.func263 rfl rfl
 have h12':n.kind≠12:=by simpa using h12
 refine AK.if_ (fun h13=>?_) (fun h13=>?_)
 ·have hk:n.kind=13:=by simpa using h13
  have hT:exprK n.kind n.name n.num (kidsW n.kids)=exprW (kidN n 0)++[[62]]++exprW (kidN n 1):=by
   rw [hlo,if_pos (by omega),eW_kid,eW_kid,hk];rfl
  rw [hT] at hw ⊢
  simp at hw
  have e0:=ih (by omega) 0
  have e1:=ih (by omega) 1
  refine AK.pc q0 ?_
  refine AK.hc (τ':=[0,1]) [0] [0,1] (e0 b s ws h (by omega)) ?_
  have hwk:IntKind.i64.wrap (n.kind-11)=2:=by rw [hk];rfl
  refine AK.op (Ndo.gindex (n:=IntKind.i64.wrap (n.kind-11)) (r:=str [62]::condG.drop 3) rfl rfl rfl rfl rfl rfl rfl rfl (by rw [hwk];omega) (by rw [hwk];omega) (by rw [hwk];decide) (by rw [hwk];rfl)) ?_
  refine AK.hc (τ':=[0,1]) [0] [0,1] (put1 [62] b s (ws++exprW (kidN n 0)) h (by simp;omega)) ?_
  refine AK.pc q1 ?_
  refine AK.hc (τ':=[0,1]) [0] [0,1] (e1 b s (ws++exprW (kidN n 0)++[[62]]) h (by simp;omega)) ?_
  rw [← List.append_assoc,← List.append_assoc]
  exact AK.fb Tryz.func263 rfl rfl
 have h13':n.kind≠13:=by simpa using h13
 refine AK.if_ (fun h14=>?_) (fun h14=>?_)
 ·have hk:n.kind=14:=by simpa using h14
  have hT:exprK n.kind n.name n.num (kidsW n.kids)=exprW (kidN n 0)++[[62,61]]++exprW (kidN n 1):=by
   rw [hlo,if_pos (by omega),eW_kid,eW_kid,hk];rfl
  rw [hT] at hw ⊢
  simp at hw
  have e0:=ih (by omega) 0
  have e1:=ih (by omega) 1
  refine AK.pc q0 ?_
  refine AK.hc (τ':=[0,1]) [0] [0,1] (e0 b s ws h (by omega)) ?_
  have hwk:IntKind.i64.wrap (n.kind-11)=3:=by rw [hk];rfl
  refine AK.op (Ndo.gindex (n:=IntKind.i64.wrap (n.kind-11)) (r:=str [62,61]::condG.drop 4) rfl rfl rfl rfl rfl rfl rfl rfl (by rw [hwk];omega) (by rw [hwk];omega) (by rw [hwk];decide) (by rw [hwk];rfl)) ?_
  refine AK.hc (τ':=[0,1]) [0] [0,1] (put1 [62,61] b s (ws++exprW (kidN n 0)) h (by simp;omega)) ?_
  refine AK.pc q1 ?_
  refine AK.hc (τ':=[0,1]) [0] [0,1] (e1 b s (ws++exprW (kidN n 0)++[[62,61]]) h (by simp;omega)) ?_
  rw [← List.append_assoc,← List.append_assoc]
  exact AK.fb Tryz.func263 rfl rfl
 have h14':n.kind≠14:=by simpa using h14
 refine AK.if_ (fun h15=>?_) (fun h15=>?_)
 ·have hk:n.kind=15:=by simpa using h15
  have hT:exprK n.kind n.name n.num (kidsW n.kids)=exprW (kidN n 0)++[[61,61]]++exprW (kidN n 1):=by
   rw [hlo,if_pos (by omega),eW_kid,eW_kid,hk];rfl
  rw [hT] at hw ⊢
  simp at hw
  have e0:=ih (by omega) 0
  have e1:=ih (by omega) 1
  refine AK.pc q0 ?_
  refine AK.hc (τ':=[0,1]) [0] [0,1] (e0 b s ws h (by omega)) ?_
  have hwk:IntKind.i64.wrap (n.kind-11)=4:=by rw [hk];rfl
  refine AK.op (Ndo.gindex (n:=IntKind.i64.wrap (n.kind-11)) (r:=str [61,61]::condG.drop 5) rfl rfl rfl rfl rfl rfl rfl rfl (by rw [hwk];omega) (by rw [hwk];omega) (by rw [hwk];decide) (by rw [hwk];rfl)) ?_
  refine AK.hc (τ':=[0,1]) [0] [0,1] (put1 [61,61] b s (ws++exprW (kidN n 0)) h (by simp;omega)) ?_
  refine AK.pc q1 ?_
  refine AK.hc (τ':=[0,1]) [0] [0,1] (e1 b s (ws++exprW (kidN n 0)++[[61,61]]) h (by simp;omega)) ?_
  rw [← List.append_assoc,← List.append_assoc]
  exact AK.fb Tryz.func263 rfl rfl
 have h15':n.kind≠15:=by simpa using h15
 refine AK.if_ (fun h16=>?_) (fun h16=>?_)
 ·have hk:n.kind=16:=by simpa using h16
  have hT:exprK n.kind n.name n.num (kidsW n.kids)=exprW (kidN n 0)++[[33,61]]++exprW (kidN n 1):=by
   rw [hlo,if_pos (by omega),eW_kid,eW_kid,hk];rfl
  rw [hT] at hw ⊢
  simp at hw
  have e0:=ih (by omega) 0
  have e1:=ih (by omega) 1
  refine AK.pc q0 ?_
  refine AK.hc (τ':=[0,1]) [0] [0,1] (e0 b s ws h (by omega)) ?_
  have hwk:IntKind.i64.wrap (n.kind-11)=5:=by rw [hk];rfl
  refine AK.op (Ndo.gindex (n:=IntKind.i64.wrap (n.kind-11)) (r:=str [33,61]::condG.drop 6) rfl rfl rfl rfl rfl rfl rfl rfl (by rw [hwk];omega) (by rw [hwk];omega) (by rw [hwk];decide) (by rw [hwk];rfl)) ?_
  refine AK.hc (τ':=[0,1]) [0] [0,1] (put1 [33,61] b s (ws++exprW (kidN n 0)) h (by simp;omega)) ?_
  refine AK.pc q1 ?_
  refine AK.hc (τ':=[0,1]) [0] [0,1] (e1 b s (ws++exprW (kidN n 0)++[[33,61]]) h (by simp;omega)) ?_
  rw [← List.append_assoc,← List.append_assoc]
  exact AK.fb Tryz.func263 rfl rfl
 have h16':n.kind≠16:=by simpa using h16
 have hT:exprK n.kind n.name n.num (kidsW n.kids)=[]:=by rw [hlo,if_neg (by omega)]
 rw [hT,List.append_nil]
 exact AK.fb Tryz.func263 rfl rfl
theorem h_nd0:HE nd0:=h_expr0 nd0 (.mk 0 [] 0 [] (by simp) (by omega) (by omega) (fun x hx=>by cases hx)) (by decide) fun h=>absurd rfl h
theorem h_expr (n:Nd)(hp:PrN n)(hsz:countN n≤100000):HE n:=by
 induction n using Nd.ind with
 | h n ih =>
   refine h_expr0 n hp hsz fun _ i=>?_
   rcases kidN_cases n i with h | h
   ·have hc:=countL_mem h
    have:=countN_eq n
    exact ih _ h (hp.kid i) (by omega)
   ·rw [h];exact h_nd0
def Sep:List UInt8→Prop
 | []=>True
 | c::_=>(letter c||digit c)=false
inductive Lex:List UInt8→List (List UInt8)→Prop where
 | nil:Lex [] []
 | blank (c:UInt8) (t:List UInt8) (ws:List (List UInt8)) (hc:c=32∨c=10) (h:Lex t ws):Lex (c::t) ws
 | wrd (w t:List UInt8) (ws:List (List UInt8)) (hk:kindS w≠0) (he:endN (w++t)=w.length) (h:Lex t ws):Lex (w++t) (w::ws)
theorem kindS_nil:kindS []=0:=by decide
theorem kindS_head {c:UInt8}{l:List UInt8}(h:kindS (c::l)≠0):c≠32∧c≠10∧c≠35:=by
 have key:∀ d:UInt8,d=32∨d=10∨d=35→kindS (d::l)=0:=by
  intro d hd
  have h1:has keys (d::l)=false:=by rcases hd with rfl | rfl | rfl<;>simp [has,keys]
  have h2:nameS (d::l)=false:=by
   have:letter d=false:=by rcases hd with rfl | rfl | rfl<;>decide
   simp [nameS,this]
  have h3:¬ numberS (d::l)≥0:=by
   have:digit d=false:=by rcases hd with rfl | rfl | rfl<;>decide
   have h48:(d==48)=false:=by rcases hd with rfl | rfl | rfl<;>decide
   simp only [numberS]
   split
   ·omega
   ·simp [h48,numGo,this]
  have h4:has signs (d::l)=false:=by rcases hd with rfl | rfl | rfl<;>simp [has,signs]
  simp [kindS,h1,h2,h3,h4]
 refine ⟨fun e=>h (key c (.inl e)),fun e=>h (key c (.inr (.inl e))),fun e=>h (key c (.inr (.inr e)))⟩
theorem skip_word {w t:List UInt8}(hk:kindS w≠0):skipG false (w++t)=0:=by
 cases w with
 | nil=>exact absurd kindS_nil hk
 | cons c l =>
   obtain ⟨h1,h2,h3⟩:=kindS_head hk
   simp [skipG,h1,h2,h3]
theorem lex_go {s:List UInt8}{ws:List (List UInt8)}(h:Lex s ws):∀ (f a:Nat)(out:List Wd),(s.drop (skipG false s)).length<f→(wordsG f a (s.drop (skipG false s)) out).2.1=0 →
 (wordsG f a (s.drop (skipG false s)) out).1.map Wd.text=out.map Wd.text++ws:=by
 induction h with
 | nil =>
   intro f a out hf h0
   cases f with
   | zero=>simp at hf
   | succ f=>simp [skipG,wordsG]
 | blank c t ws hc h ih =>
   intro f a out hf h0
   have e:(c::t).drop (skipG false (c::t))=t.drop (skipG false t):=by
    have:skipG false (c::t)=1+skipG false t:=by rcases hc with rfl | rfl<;>simp [skipG]
    rw [this,Nat.add_comm];rfl
   rw [e] at hf h0 ⊢
   exact ih f a out hf h0
 | wrd w t ws hk he h ih =>
   intro f a out hf h0
   rw [skip_word hk,List.drop_zero] at hf h0 ⊢
   cases f with
   | zero=>simp at hf
   | succ f =>
     cases w with
     | nil=>exact absurd kindS_nil hk
     | cons c l =>
       have ht:((c::l)++t).take (endN ((c::l)++t))=c::l:=by rw [he];exact List.take_left
       have hd:((c::l)++t).drop (endN ((c::l)++t))=t:=by rw [he];exact List.drop_left
       have hd2:∀ b,((c::l)++t).drop (endN ((c::l)++t)+b)=t.drop b:=fun b=>by rw [← List.drop_drop,hd]
       rw [List.cons_append] at ht hd hd2 hf h0 ⊢
       simp only [wordsG] at h0 ⊢
       rw [ht,hd,hd2] at h0 ⊢
       rw [if_neg (by simpa using hk)] at h0 ⊢
       split at h0
       ·simp at h0
       ·rename_i hn
        rw [if_neg hn]
        have:=ih f (a+endN (c::(l++t))+skipG false t) (out++[⟨kindS (c::l),c::l,a⟩]) (by simp at hf ⊢;omega) h0
        rw [this];simp
theorem lex_words {s:List UInt8}{ws:List (List UInt8)}(h:Lex s ws)(h0:(wordsS s).2.1=0):(wordsS s).1.map Wd.text=ws:=by
 unfold wordsS at h0 ⊢
 split at h0
 ·simp at h0
 ·rename_i h1
  rw [if_neg h1]
  have:=lex_go h (s.length+1) (skipG false s) [] (by simp;omega) h0
  simpa using this
theorem wordLen_app {t:List UInt8}(ht:Sep t):∀ w:List UInt8,word w=true→wordLen (w++t)=w.length
 | [],_=>by
   cases t with
   | nil=>rfl
   | cons c t=>simp only [Sep] at ht;simp [wordLen,ht]
 | c::l,h=>by
   simp only [word,List.all_cons,Bool.and_eq_true] at h
   simp only [List.cons_append,wordLen,h.1,if_true]
   rw [wordLen_app ht l h.2];simp;omega
theorem Lex.al {w t:List UInt8}{ws:List (List UInt8)}(hw:word w=true)(hk:kindS w≠0)(hs:Sep t)(h:Lex t ws):Lex (w++t) (w::ws):=by
 refine .wrd w t ws hk ?_ h
 cases w with
 | nil=>exact absurd kindS_nil hk
 | cons c l =>
   have hc:(letter c||digit c)=true:=by simp only [word,List.all_cons,Bool.and_eq_true] at hw;exact hw.1
   rw [← wordLen_app hs (c::l) hw]
   simp only [List.cons_append,endN,hc,if_true]
abbrev plainSigns:List UInt8:=[43,45,42,40,41,91,93,123,125,59,63]
theorem Lex.sg {c:UInt8}{t:List UInt8}{ws:List (List UInt8)}(hc:c∈plainSigns)(h:Lex t ws):Lex (c::t) ([c]::ws):=by
 have h1:∀ c:UInt8,c∈plainSigns→kindS [c]≠0∧(letter c||digit c)=false:=by decide
 obtain ⟨h2,h3⟩:=h1 c hc
 refine .wrd [c] t ws h2 ?_ h
 show endN (c::t)=1
 cases t with
 | nil=>simp [endN,h3]
 | cons d l =>
   have:has signs [c,d]=false:=by
    simp at hc
    rcases hc with rfl | rfl | rfl | rfl | rfl | rfl | rfl | rfl | rfl | rfl | rfl<;>simp [has,signs]
   simp [endN,h3,this]
abbrev wideSigns:List (List UInt8):=[[60],[60,61],[62],[62,61],[61,61],[33,61],[61]]
theorem Lex.rl {w t:List UInt8}{ws:List (List UInt8)}(hw:w∈wideSigns)(h:Lex t ws):Lex (w++32::t) (w::ws):=by
 have h1:∀ w,w∈wideSigns→kindS w≠0:=by decide
 refine .wrd w (32::t) ws (h1 w hw) ?_ (.blank 32 t ws (.inl rfl) h)
 simp at hw
 rcases hw with rfl | rfl | rfl | rfl | rfl | rfl | rfl<;>rfl
theorem nameS_word {s:List UInt8}(h:nameS s=true):word s=true∧kindS s=1:=by
 cases s with
 | nil=>simp [nameS] at h
 | cons c l =>
   have h':=h
   simp only [nameS,Bool.and_eq_true,decide_eq_true_eq,Bool.not_eq_true'] at h'
   refine ⟨h'.2,?_⟩
   simp [kindS,h'.1.2,h]
theorem Lex.name {s t:List UInt8}{ws:List (List UInt8)}(hn:nameS s=true)(hs:Sep t)(h:Lex t ws):Lex (s++t) (s::ws) :=
 .al (nameS_word hn).1 (by rw [(nameS_word hn).2];decide) hs h
theorem dec_word (n:Nat)(h:n≤1000000):word (dec n)=true∧kindS (dec n)=2:=by
 have hd:=digs_dec n
 have hp:=dec_pos n
 have hN:=numberS_dec n h
 generalize dec n=l at hd hp hN
 cases l with
 | nil=>simp at hp
 | cons c l =>
   have hd':=hd
   simp only [digs,List.all_cons,Bool.and_eq_true,List.all_eq_true] at hd'
   have hdc:=digit_nat hd'.1
   have hlc:letter c=false:=by simp [letter,between];omega
   refine ⟨?_,?_⟩
   ·simp only [word,List.all_eq_true,Bool.or_eq_true]
    intro x hx
    right
    rcases List.mem_cons.1 hx with rfl | hx
    ·exact hd'.1
    ·exact hd'.2 x hx
   ·have h1:has keys (c::l)=false:=by
     simp only [has,List.any_eq_false]
     intro k hk he
     have he:=beq_iff_eq.1 he
     have:∀ k,k∈keys→∀ d l',k=d::l'→97≤d.toNat:=by
      intro k hk d l' e
      simp only [keys,List.mem_cons,List.not_mem_nil,or_false] at hk
      rcases hk with rfl | rfl | rfl | rfl | rfl | rfl | rfl | rfl | rfl | rfl | rfl | rfl | rfl<;>(injection e with e1 e2;subst e1;decide)
     have:=this k hk c l he
     omega
    have h2:nameS (c::l)=false:=by simp [nameS,hlc]
    simp [kindS,h1,h2,hN]
theorem Lex.num {n:Nat}{t:List UInt8}{ws:List (List UInt8)}(hn:n≤1000000)(hs:Sep t)(h:Lex t ws):Lex (dec n++t) (dec n::ws) :=
 .al (dec_word n hn).1 (by rw [(dec_word n hn).2];decide) hs h
theorem Lex.key {s t:List UInt8}{ws:List (List UInt8)}(hn:s∈keys)(hs:Sep t)(h:Lex t ws):Lex (s++t) (s::ws):=by
 have:∀ s,s∈keys→word s=true∧kindS s≠0:=by decide
 exact .al (this s hn).1 (this s hn).2 hs h
theorem Lex.sp {t:List UInt8}{ws:List (List UInt8)}(h:Lex t ws):Lex (32::t) ws:=.blank 32 t ws (.inl rfl) h
theorem Lex.nl {t:List UInt8}{ws:List (List UInt8)}(h:Lex t ws):Lex (10::t) ws:=.blank 10 t ws (.inr rfl) h
def parW (l:Int)(k:Int)(w:List (List UInt8)):List (List UInt8):=if tightS k<l then [[40]]++w++[[41]] else w
def wdsN:Nd→List (List UInt8)
 | .mk k s m []=>if k=1 then [dec m.toNat] else if k=4 then [[108,101,110],[40],s,[41]] else [s]
 | .mk k s _ [a]=>if k=3 then [s,[91]]++wdsN a++[[93]] else [[45]]++parW 3 a.kind (wdsN a)
 | .mk k _ _ (a::b::_) =>
   if k=6 then parW 1 a.kind (wdsN a)++[[43]]++parW 2 b.kind (wdsN b)
   else if k=7 then parW 1 a.kind (wdsN a)++[[45]]++parW 2 b.kind (wdsN b)
   else if k=8 then parW 2 a.kind (wdsN a)++[[42]]++parW 3 b.kind (wdsN b)
   else wdsN a++[relT k]++wdsN b
def LexP (t:List UInt8)(ws:List (List UInt8)):Prop:=∀ (u:List UInt8)(vs:List (List UInt8)),Sep u→Lex u vs→Lex (t++u) (ws++vs)
theorem LexP.par {l k:Int}{t:List UInt8}{ws:List (List UInt8)}(h:LexP t ws):LexP (parT l k t) (parW l k ws):=by
 unfold parT parW
 split
 ·intro u vs hs hu
  have:=h (41::u) ([41]::vs) (by simp only [Sep];decide) (Lex.sg (by simp) hu)
  have:=Lex.sg (c:=40) (by simp) this
  simpa using this
 ·exact h
theorem sep32 (t:List UInt8):Sep (32::t):=by simp only [Sep];decide
theorem lexE {n:Nd}(h:FE n):LexP (textN n) (wdsN n):=by
 induction h with
 | num m h0 h1=>intro u vs hs hu;simp only [textN,wdsN,if_true];exact Lex.num (by omega) hs hu
 | var s h=>intro u vs hs hu;simp only [textN,wdsN,if_true];exact Lex.name h hs hu
 | cell s a h ha ih =>
   intro u vs hs hu
   have h1:=ih (93::u) ([93]::vs) (by simp only [Sep];decide) (Lex.sg (by simp) hu)
   have h2:=Lex.name h (by simp only [Sep];decide) (Lex.sg (c:=91) (by simp) h1)
   simpa [textN,wdsN] using h2
 | len s h =>
   intro u vs hs hu
   have h1:=Lex.name h (by simp only [Sep];decide) (Lex.sg (c:=41) (by simp) hu)
   have h2:=Lex.key (s:=[108,101,110]) (by decide) (by simp only [Sep];decide) (Lex.sg (c:=40) (by simp) h1)
   simpa [textN,wdsN] using h2
 | neg a ha ih =>
   intro u vs hs hu
   have h1:=Lex.sg (c:=45) (by simp) ((ih.par (l:=3) (k:=a.kind)) u vs hs hu)
   simpa [textN,wdsN] using h1
 | two k a b hk ha hb iha ihb =>
   have go:∀ (l l':Int) (c:UInt8),c∈plainSigns→LexP (parT l a.kind (textN a)++[32,c,32]++parT l' b.kind (textN b)) (parW l a.kind (wdsN a)++[[c]]++parW l' b.kind (wdsN b)):=by
    intro l l' c hc u vs hs hu
    have h1:=(ihb.par (l:=l') (k:=b.kind)) u vs hs hu
    have h2:=(iha.par (l:=l) (k:=a.kind)) _ _ (sep32 _) (Lex.sp (Lex.sg hc (Lex.sp h1)))
    simpa using h2
   rcases hk with rfl | rfl | rfl
   ·simpa [textN,wdsN] using go 1 2 43 (by simp)
   ·simpa [textN,wdsN] using go 1 2 45 (by simp)
   ·simpa [textN,wdsN] using go 2 3 42 (by simp)
theorem relT_wide (k:Int):relT k∈wideSigns:=by
 unfold relT;repeat' split
 all_goals simp
theorem lexC {n:Nd}(h:FC n):LexP (textN n) (wdsN n):=by
 cases h with
 | mk k a b h0 h1 ha hb =>
   intro u vs hs hu
   have i1:=lexE hb u vs hs hu
   have i2:=lexE ha _ _ (sep32 _) (Lex.sp (Lex.rl (relT_wide k) i1))
   have ne:¬ k=6∧¬ k=7∧¬ k=8:=by omega
   simpa [textN,wdsN,ne.1,ne.2.1,ne.2.2] using i2
mutual
def wdsS:Nd→List (List UInt8)
 | .mk k s m [] =>
   if k=31 then [wVar,s,[59]]
   else if k=32 then [wArray,s,[91],if 0≤m then dec m.toNat else [63],[93],[59]]
   else if k=23 then [wRead,s,[59]]
   else if k=28 then [wSkip,[59]]
   else [wStop,[59]]
 | .mk k s _ [a]=>if k=21 then [s,[61]]++wdsN a++[[59]] else [wCheck]++wdsN a++[[59]]
 | .mk k s _ [a,.mk k' s' m' l] =>
   if k=22 then [s,[91]]++wdsN a++[[93],[61]]++wdsN (.mk k' s' m' l)++[[59]]
   else [wWhile]++wdsN a++[[123]]++wdsL l++[[125]]
 | .mk k s _ (a::.mk k' s' m' l'::.mk _ _ _ l::_) =>
   if k=26 then [wFor,s,wFrom]++wdsN a++[wTo]++wdsN (.mk k' s' m' l')++[[123]]++wdsL l++[[125]]
   else [wIf]++wdsN a++[[123]]++wdsL l'++[[125]] ++
    (match l with
      | []=>[]
      | _=>[wElse,[123]]++wdsL l++[[125]])
def wdsL:List Nd→List (List UInt8)
 | []=>[]
 | x::l=>wdsS x++wdsL l
end
theorem Lex.pad {t:List UInt8}{ws:List (List UInt8)}(h:Lex t ws):∀ p:List UInt8,(∀ c,c∈p→c=32)→Lex (p++t) ws
 | [],_=>h
 | c::p,hp=>by
   have:=hp c (by simp)
   subst this
   exact .sp (Lex.pad h p fun c hc=>hp c (by simp [hc]))
def LexL (t:List UInt8)(ws:List (List UInt8)):Prop:=∀ (u:List UInt8)(vs:List (List UInt8)),Lex u vs→Lex (t++u) (ws++vs)
theorem lexL_list {l:List Nd}{p:List UInt8}(h:∀ x,x∈l→LexL (lineS x p) (wdsS x)):LexL (lineL l p) (wdsL l):=by
 induction l with
 | nil=>intro u vs hu;simpa [lineL,wdsL] using hu
 | cons x l ih =>
   intro u vs hu
   have h1:=ih (fun y hy=>h y (by simp [hy])) u vs hu
   have h2:=h x (by simp) _ _ h1
   simpa [lineL,wdsL] using h2
theorem sepc (c:UInt8)(t:List UInt8)(h:(letter c||digit c)=false:=by decide):Sep (c::t):=h
def padOk (p:List UInt8):Prop:=∀ c,c∈p→c=32
theorem padOk.more {p:List UInt8}(h:padOk p):padOk (p++[32,32]):=by
 intro c hc
 rcases List.mem_append.1 hc with hc | hc
 ·exact h c hc
 ·simp at hc;exact hc
theorem Lex.semi {u:List UInt8}{vs:List (List UInt8)}(h:Lex u vs):Lex (59::10::u) ([59]::vs):=Lex.sg (by simp) (Lex.nl h)
theorem lexV {x:Nd}(h:FV x)(p:List UInt8)(hp:padOk p):LexL (lineS x p) (wdsS x):=by
 cases h with
 | var s h =>
   intro u vs hu
   have h1:=Lex.name h (sepc _ _) (Lex.semi hu)
   have h2:=(Lex.key (s:=wVar) (by decide) (sep32 _) (Lex.sp h1)).pad p hp
   simpa [lineS,wdsS] using h2
 | arr s m h h0 h1 =>
   intro u vs hu
   have key:∀ (t w:List UInt8),(∀ u vs,Sep u→Lex u vs→Lex (t++u) (w::vs))→Lex (p++wArray++32::(s++91::(t++93::59::10::u))) (wArray::s::[91]::w::[93]::[59]::vs):=by
    intro t w ht
    have h1:=ht _ _ (sepc _ _) (Lex.sg (c:=93) (by simp) (Lex.semi hu))
    have h2:=Lex.name h (sepc _ _) (Lex.sg (c:=91) (by simp) h1)
    have h3:=(Lex.key (s:=wArray) (by decide) (sep32 _) (Lex.sp h2)).pad p hp
    simpa using h3
   by_cases g:0≤m
   ·have:=key (dec m.toNat) (dec m.toNat) (fun u vs hs hu=>Lex.num (by omega) hs hu)
    simpa [lineS,wdsS,g] using this
   ·have:=key [63] [63] (fun u vs hs hu=>Lex.sg (by simp) hu)
    simpa [lineS,wdsS,g] using this
theorem lexS {x:Nd}(h:FS x):∀ p:List UInt8,padOk p→LexL (lineS x p) (wdsS x):=by
 induction h with
 | set s a h ha =>
   intro p hp u vs hu
   have h1:=lexE ha _ _ (sepc _ _) (Lex.semi hu)
   have h2:=(Lex.name h (sep32 _) (Lex.sp (Lex.rl (w:=[61]) (by simp) h1))).pad p hp
   simpa [lineS,wdsS] using h2
 | put s a b h ha hb =>
   intro p hp u vs hu
   have h1:=lexE hb _ _ (sepc _ _) (Lex.semi hu)
   have h2:=lexE ha _ _ (sepc _ _) (Lex.sg (c:=93) (by simp) (Lex.sp (Lex.rl (w:=[61]) (by simp) h1)))
   have h3:=(Lex.name h (sepc _ _) (Lex.sg (c:=91) (by simp) h2)).pad p hp
   obtain ⟨k',s',m',l'⟩:=b
   simpa [lineS,wdsS] using h3
 | read s h =>
   intro p hp u vs hu
   have h1:=Lex.name h (sepc _ _) (Lex.semi hu)
   have h2:=(Lex.key (s:=wRead) (by decide) (sep32 _) (Lex.sp h1)).pad p hp
   simpa [lineS,wdsS] using h2
 | ifs c l l' hc hl hl' ihl ihl' =>
   intro p hp u vs hu
   have fin:Lex (125::10::u) ([125]::vs):=Lex.sg (by simp) (Lex.nl hu)
   have go:∀ (t:List UInt8) (w:List (List UInt8)),Lex t w→Lex (p++wIf++32::(textN c++32::123::10::(lineL l (p++[32,32])++(p++t)))) (wIf::(wdsN c++[123]::(wdsL l++w))):=by
    intro t w ht
    have h1:=lexL_list (fun x hx=>ihl x hx (p++[32,32]) hp.more) _ _ (ht.pad p hp)
    have h2:=lexC hc _ _ (sep32 _) (Lex.sp (Lex.sg (c:=123) (by simp) (Lex.nl h1)))
    have h3:=(Lex.key (s:=wIf) (by decide) (sep32 _) (Lex.sp h2)).pad p hp
    simpa using h3
   cases l' with
   | nil=>simpa [lineS,wdsS] using go _ _ fin
   | cons y l' =>
     have h1:=lexL_list (fun x hx=>ihl' x hx (p++[32,32]) hp.more) _ _ (fin.pad p hp)
     have h2:=Lex.sg (c:=125) (by simp) (Lex.sp (Lex.key (s:=wElse) (by decide) (sep32 _) (Lex.sp (Lex.sg (c:=123) (by simp) (Lex.nl h1)))))
     simpa [lineS,wdsS] using go _ _ h2
 | whil c l hc hl ihl =>
   intro p hp u vs hu
   have fin:Lex (125::10::u) ([125]::vs):=Lex.sg (by simp) (Lex.nl hu)
   have h1:=lexL_list (fun x hx=>ihl x hx (p++[32,32]) hp.more) _ _ (fin.pad p hp)
   have h2:=lexC hc _ _ (sep32 _) (Lex.sp (Lex.sg (c:=123) (by simp) (Lex.nl h1)))
   have h3:=(Lex.key (s:=wWhile) (by decide) (sep32 _) (Lex.sp h2)).pad p hp
   simpa [lineS,wdsS] using h3
 | for_ s a b l h ha hb hl ihl =>
   intro p hp u vs hu
   have fin:Lex (125::10::u) ([125]::vs):=Lex.sg (by simp) (Lex.nl hu)
   have h1:=lexL_list (fun x hx=>ihl x hx (p++[32,32]) hp.more) _ _ (fin.pad p hp)
   have h2:=lexE hb _ _ (sep32 _) (Lex.sp (Lex.sg (c:=123) (by simp) (Lex.nl h1)))
   have h3:=lexE ha _ _ (sep32 _) (Lex.sp (Lex.key (s:=wTo) (by decide) (sep32 _) (Lex.sp h2)))
   have h4:=Lex.name h (sep32 _) (Lex.sp (Lex.key (s:=wFrom) (by decide) (sep32 _) (Lex.sp h3)))
   have h5:=(Lex.key (s:=wFor) (by decide) (sep32 _) (Lex.sp h4)).pad p hp
   obtain ⟨k',s',m',l'⟩:=b
   simpa [lineS,wdsS] using h5
 | check c hc =>
   intro p hp u vs hu
   have h1:=lexC hc _ _ (sepc _ _) (Lex.semi hu)
   have h2:=(Lex.key (s:=wCheck) (by decide) (sep32 _) (Lex.sp h1)).pad p hp
   simpa [lineS,wdsS] using h2
 | skip =>
   intro p hp u vs hu
   have h2:=(Lex.key (s:=wSkip) (by decide) (sepc _ _) (Lex.semi hu)).pad p hp
   simpa [lineS,wdsS] using h2
 | stop =>
   intro p hp u vs hu
   have h2:=(Lex.key (s:=wStop) (by decide) (sepc _ _) (Lex.semi hu)).pad p hp
   simpa [lineS,wdsS] using h2
theorem lexP {ds l:List Nd}(hd:∀ x,x∈ds→FV x)(hl:∀ x,x∈l→FS x):Lex (lineL ds []++lineL l []) (wdsL ds++wdsL l):=by
 have h1:=lexL_list (p:=[]) (fun x hx=>lexS (hl x hx) [] (fun c hc=>by cases hc)) [] [] .nil
 have h2:=lexL_list (p:=[]) (fun x hx=>lexV (hd x hx) [] (fun c hc=>by cases hc)) _ _ h1
 simpa using h2
structure At (r:RS)(xs:List (List UInt8)):Prop where
 good:r.bad=false
 wk:r.wk
 ws:(r.ws.drop r.at_).map Wd.text=xs
def hdW (xs:List (List UInt8)):List UInt8:=xs.headD []
section
variable {r:RS}{x:List UInt8}{xs:List (List UInt8)}
theorem At.get (h:At r (x::xs)):∃ w,r.ws[r.at_]?=some w∧w.text=x∧w.kind=kindS x:=by
 have h1:=congrArg (fun l:List (List UInt8)=>l[0]?) h.ws
 simp at h1
 obtain ⟨w,hw,rfl⟩:=h1
 exact ⟨w,hw,rfl,h.wk w (List.mem_of_getElem? hw)⟩
theorem At.kind (h:At r (x::xs)):r.kind=kindS x:=by
 obtain ⟨w,hw,_,hk⟩:=h.get
 simp [RS.kind,hw,hk]
theorem At.lt (h:At r (x::xs)):r.at_<r.ws.length:=by
 obtain ⟨w,hw,_⟩:=h.get
 exact lt_of_get hw
theorem At.ge (h:At r []):r.ws.length≤r.at_:=by
 have:=congrArg List.length h.ws
 simp at this;omega
theorem At.text (h:At r xs):r.text=hdW xs:=by
 cases xs with
 | nil=>simp [RS.text,List.getElem?_eq_none h.ge,hdW]
 | cons x xs =>
   obtain ⟨w,hw,ht,_⟩:=h.get
   simp [RS.text,hw,ht,hdW]
theorem At.step (h:At r (x::xs)):At r.step xs:=by
 refine ⟨h.good,h.wk,?_⟩
 have:=congrArg List.tail h.ws
 simp only [List.tail_cons] at this
 rw [← this]
 simp [RS.step]
theorem At.takes (h:At r xs)(s:List UInt8):r.takes s=(hdW xs==s):=by simp [RS.takes,h.good,h.text]
theorem At.no (h:At r xs){s:List UInt8}(hs:hdW xs≠s):r.takes s=false:=by rw [h.takes];simpa using hs
theorem At.yes (h:At r (x::xs)):r.takes x=true:=by rw [h.takes];simp [hdW]
theorem At.need (h:At r (x::xs)):r.need x=r.step:=by simp [RS.need,h.yes]
theorem At.named (h:At r (x::xs))(hn:nameS x=true):r.named=true∧r.name=x∧r.nameR=r.step:=by
 have hk:r.kind=1:=by rw [h.kind,(nameS_word hn).2]
 have:r.named=true:=by simp [RS.named,h.good,hk]
 refine ⟨this,?_,?_⟩
 ·simp [RS.name,this,h.text,hdW]
 ·simp [RS.nameR,this]
end
theorem kne {a b:List UInt8}(h:kindS a≠kindS b):a≠b:=fun e=>h (by rw [e])
theorem name_no {s:List UInt8}(h:nameS s=true)(b:List UInt8)(hb:kindS b≠1:=by decide):s≠b:=kne (by rw [(nameS_word h).2];exact fun e=>hb e.symm)
theorem num_no {m:Nat}(h:m≤1000000)(b:List UInt8)(hb:kindS b≠2:=by decide):dec m≠b:=kne (by rw [(dec_word m h).2];exact fun e=>hb e.symm)
def Q1 (ws:List (List UInt8))(n:Nd)(B:Nat):Prop:=∀ (f:Nat)(r:RS)(xs:List (List UInt8)),B≤f→At r (ws++xs)→hdW xs≠[91]→∃ r',oneM f r=(n,r')∧At r' xs
def Q2 (ws:List (List UInt8))(n:Nd)(B:Nat):Prop:=∀ (f:Nat)(r:RS)(xs:List (List UInt8)),B≤f→At r (ws++xs)→hdW xs≠[91]→∃ r' g,f≤g+countN n∧termM f r=termL g n r'∧At r' xs
def Q3 (ws:List (List UInt8))(n:Nd)(B:Nat):Prop:=∀ (f:Nat)(r:RS)(xs:List (List UInt8)),B≤f→At r (ws++xs)→hdW xs≠[91]→hdW xs≠[42]→∃ r' g,f≤g+countN n∧exprM f r=exprL g n r'∧At r' xs
theorem cN_pos (n:Nd):1≤countN n:=by rw [countN_eq];omega
theorem Q1.mono {ws:List (List UInt8)}{n:Nd}{B B':Nat}(h:Q1 ws n B)(hb:B≤B'):Q1 ws n B':=fun f r xs hf=>h f r xs (by omega)
theorem Q2.mono {ws:List (List UInt8)}{n:Nd}{B B':Nat}(h:Q2 ws n B)(hb:B≤B'):Q2 ws n B':=fun f r xs hf=>h f r xs (by omega)
theorem Q3.mono {ws:List (List UInt8)}{n:Nd}{B B':Nat}(h:Q3 ws n B)(hb:B≤B'):Q3 ws n B':=fun f r xs hf=>h f r xs (by omega)
theorem termL_end {g:Nat}{n:Nd}{r:RS}{xs:List (List UInt8)}(h:At r xs)(hs:hdW xs≠[42]):termL g n r=(n,r):=by
 cases g with
 | zero=>simp [termL]
 | succ g=>simp [termL,h.no hs]
theorem exprL_end {g:Nat}{n:Nd}{r:RS}{xs:List (List UInt8)}(h:At r xs)(hs:hdW xs≠[43])(hs':hdW xs≠[45]):exprL g n r=(n,r):=by
 cases g with
 | zero=>simp [exprL]
 | succ g=>simp [exprL,h.no hs,h.no hs']
theorem up12 {ws:List (List UInt8)}{n:Nd}{B:Nat}(h:Q1 ws n B):Q2 ws n (B+1):=by
 intro f r xs hf ha hs
 obtain ⟨g,rfl⟩:∃ g,f=g+1:=⟨f-1,by omega⟩
 obtain ⟨r',h1,h2⟩:=h g r xs (by omega) ha hs
 refine ⟨r',g,by have:=cN_pos n;omega,?_,h2⟩
 simp [termM,h1]
theorem up23 {ws:List (List UInt8)}{n:Nd}{B:Nat}(h:Q2 ws n B):Q3 ws n (B+1):=by
 intro f r xs hf ha hs hs'
 obtain ⟨g,rfl⟩:∃ g,f=g+1:=⟨f-1,by omega⟩
 obtain ⟨r',g',h1,h2,h3⟩:=h g r xs (by omega) ha hs
 refine ⟨r',g,by have:=cN_pos n;omega,?_,h3⟩
 rw [termL_end h3 hs'] at h2
 simp [exprM,h2]
theorem up31 {ws:List (List UInt8)}{n:Nd}{B:Nat}(h:Q3 ws n B):Q1 ([[40]]++ws++[[41]]) n (B+1):=by
 intro f r xs hf ha hs
 obtain ⟨g,rfl⟩:∃ g,f=g+1:=⟨f-1,by omega⟩
 have ha':At r ([40]::(ws++[41]::xs)):=by simpa using ha
 obtain ⟨r',g',h1,h2,h3⟩:=h g r.step ([41]::xs) (by omega) ha'.step (by simp [hdW]) (by simp [hdW])
 rw [exprL_end h3 (by simp [hdW]) (by simp [hdW])] at h2
 refine ⟨r'.step,?_,h3.step⟩
 have hk:¬ (r.kind==2)=true:=by rw [ha'.kind];decide
 have h45:r.takes [45]=false:=ha'.no (by simp [hdW])
 rw [oneM,if_neg (by simp [ha'.good]),if_neg (by simp [h45]),if_neg hk,if_pos ha'.yes,h2]
 simp [h3.need]
theorem oneM_num {m:Int}(h0:0≤m)(h1:m≤1000000):Q1 [dec m.toNat] (.mk 1 [] m []) 1:=by
 intro f r xs hf ha hs
 obtain ⟨g,rfl⟩:∃ g,f=g+1:=⟨f-1,by omega⟩
 have ha':At r (dec m.toNat::xs):=ha
 have hm:m.toNat≤1000000:=by omega
 refine ⟨r.step,?_,ha'.step⟩
 have hk:(r.kind==2)=true:=by rw [ha'.kind,(dec_word _ hm).2];rfl
 have h45:r.takes [45]=false:=ha'.no (num_no hm [45])
 rw [oneM,if_neg (by simp [ha'.good]),if_neg (by simp [h45]),if_pos hk,ha'.text]
 simp only [hdW,List.headD_cons]
 rw [numberS_dec _ hm]
 congr 2
 omega
theorem oneM_name {f:Nat}{r:RS}{s:List UInt8}{xs:List (List UInt8)}(hn:nameS s=true)(ha:At r (s::xs)) :
 oneM (f+1) r=if r.step.takes [91] then (.mk 3 s 0 [(exprM f r.step.step).1],(exprM f r.step.step).2.need [93]) else (.mk 2 s 0 [],r.step):=by
 obtain ⟨_,h2,h3⟩:=ha.named hn
 have hk:¬ (r.kind==2)=true:=by rw [ha.kind,(nameS_word hn).2];decide
 have h45:r.takes [45]=false:=ha.no (name_no hn [45])
 have h40:r.takes [40]=false:=ha.no (name_no hn [40])
 have hl:r.takes [108,101,110]=false:=ha.no (name_no hn _)
 rw [oneM,if_neg (by simp [ha.good]),if_neg (by simp [h45]),if_neg hk,if_neg (by simp [h40]),if_neg (by simp [hl]),h2,h3]
theorem readsE {n:Nd}(h:FE n):Q1 (parW 3 n.kind (wdsN n)) n (3*countN n)∧Q2 (parW 2 n.kind (wdsN n)) n (3*countN n)∧Q3 (wdsN n) n (3*countN n):=by
 have t3:∀ {n:Nd} {B:Nat},tightS n.kind=3→B+2≤3*countN n→Q1 (wdsN n) n B→Q1 (parW 3 n.kind (wdsN n)) n (3*countN n)∧Q2 (parW 2 n.kind (wdsN n)) n (3*countN n)∧Q3 (wdsN n) n (3*countN n):=by
  intro n B ht hB hq
  have e3:parW 3 n.kind (wdsN n)=wdsN n:=by unfold parW;rw [ht,if_neg (by omega)]
  have e2:parW 2 n.kind (wdsN n)=wdsN n:=by unfold parW;rw [ht,if_neg (by omega)]
  rw [e3,e2]
  exact ⟨hq.mono (by omega),(up12 hq).mono (by omega),(up23 (up12 hq)).mono (by omega)⟩
 induction h with
 | num m h0 h1 =>
   refine t3 (B:=1) rfl (by simp [countN,countL]) ?_
   simpa [wdsN] using oneM_num h0 h1
 | var s h =>
   refine t3 (B:=1) rfl (by simp [countN,countL]) ?_
   intro f r xs hf ha hs
   obtain ⟨g,rfl⟩:∃ g,f=g+1:=⟨f-1,by omega⟩
   have ha':At r (s::xs):=by simpa [wdsN] using ha
   refine ⟨r.step,?_,ha'.step⟩
   rw [oneM_name h ha',if_neg (by simp [ha'.step.no hs])]
 | cell s a h ha ih =>
   refine t3 (B:=3*countN a+1) rfl (by simp [countN,countL];omega) ?_
   intro f r xs hf ha hs
   obtain ⟨g,rfl⟩:∃ g,f=g+1:=⟨f-1,by omega⟩
   have ha':At r (s::[91]::(wdsN a++[93]::xs)):=by simpa [wdsN] using ha
   obtain ⟨r',g',h1,h2,h3⟩:=ih.2.2 g r.step.step ([93]::xs) (by omega) ha'.step.step (by simp [hdW]) (by simp [hdW])
   rw [exprL_end h3 (by simp [hdW]) (by simp [hdW])] at h2
   refine ⟨r'.step,?_,h3.step⟩
   rw [oneM_name h ha',if_pos ha'.step.yes,h2]
   simp [h3.need]
 | len s h =>
   refine t3 (B:=1) rfl (by simp [countN,countL]) ?_
   intro f r xs hf ha hs
   obtain ⟨g,rfl⟩:∃ g,f=g+1:=⟨f-1,by omega⟩
   have ha':At r ([108,101,110]::[40]::s::[41]::xs):=by simpa [wdsN] using ha
   obtain ⟨_,e2,e3⟩:=ha'.step.step.named h
   refine ⟨r.step.step.step.step,?_,ha'.step.step.step.step⟩
   have hk:¬ (r.kind==2)=true:=by rw [ha'.kind];decide
   have h45:r.takes [45]=false:=ha'.no (by simp [hdW])
   have h40:r.takes [40]=false:=ha'.no (by simp [hdW])
   rw [oneM,if_neg (by simp [ha'.good]),if_neg (by simp [h45]),if_neg hk,if_neg (by simp [h40]),if_pos ha'.yes,ha'.step.need,e2,e3,ha'.step.step.step.need]
 | neg a ha ih =>
   refine t3 (B:=3*countN a+1) rfl (by simp [countN,countL];omega) ?_
   intro f r xs hf ha hs
   obtain ⟨g,rfl⟩:∃ g,f=g+1:=⟨f-1,by omega⟩
   have ha':At r ([45]::(parW 3 a.kind (wdsN a)++xs)):=by simpa [wdsN] using ha
   obtain ⟨r',h1,h2⟩:=ih.1 g r.step xs (by omega) ha'.step hs
   refine ⟨r',?_,h2⟩
   rw [oneM,if_neg (by simp [ha'.good]),if_pos ha'.yes,h1]
 | two k a b hk ha hb iha ihb =>
   have hc:countN (Nd.mk k [] 0 [a,b])=1+(countN a+countN b):=by simp [countN,countL]
   have sum:∀ (kk:Int) (c:UInt8),(kk=6∧c=43)∨(kk=7∧c=45)→Q3 (wdsN a++[[c]]++parW 2 b.kind (wdsN b)) (.mk kk [] 0 [a,b]) (3*countN (Nd.mk k [] 0 [a,b])-2):=by
    intro kk c hkc f r xs hf ht hs hs'
    have hck:countN (Nd.mk kk [] 0 [a,b])=1+(countN a+countN b):=by simp [countN,countL]
    have ha':At r (wdsN a++([c]::(parW 2 b.kind (wdsN b)++xs))):=by simpa using ht
    have c1:hdW ([c]::(parW 2 b.kind (wdsN b)++xs))≠[91]:=by rcases hkc with ⟨_,rfl⟩ | ⟨_,rfl⟩<;>simp [hdW]
    have c2:hdW ([c]::(parW 2 b.kind (wdsN b)++xs))≠[42]:=by rcases hkc with ⟨_,rfl⟩ | ⟨_,rfl⟩<;>simp [hdW]
    obtain ⟨r1,g1,h1,h2,h3⟩:=iha.2.2 f r _ (by omega) ha' c1 c2
    obtain ⟨g,rfl⟩:∃ g,g1=g+1:=⟨g1-1,by omega⟩
    obtain ⟨r2,g2,j1,j2,j3⟩:=ihb.2.1 g r1.step xs (by omega) h3.step hs
    rw [termL_end j3 hs'] at j2
    refine ⟨r2,g,by omega,?_,j3⟩
    rw [h2]
    rcases hkc with ⟨rfl,rfl⟩ | ⟨rfl,rfl⟩
    ·rw [exprL,if_pos h3.yes,j2]
    ·rw [exprL,if_neg (by simp [h3.no (s:=[43]) (by simp [hdW])]),if_pos h3.yes,j2]
   have t1:∀ {n:Nd} {B:Nat},tightS n.kind=1→B+2≤3*countN n→Q3 (wdsN n) n B→Q1 (parW 3 n.kind (wdsN n)) n (3*countN n)∧Q2 (parW 2 n.kind (wdsN n)) n (3*countN n)∧Q3 (wdsN n) n (3*countN n):=by
    intro n B ht hB hq
    have e3:parW 3 n.kind (wdsN n)=[[40]]++wdsN n++[[41]]:=by unfold parW;rw [ht,if_pos (by omega)]
    have e2:parW 2 n.kind (wdsN n)=[[40]]++wdsN n++[[41]]:=by unfold parW;rw [ht,if_pos (by omega)]
    rw [e3,e2]
    exact ⟨(up31 hq).mono (by omega),(up12 (up31 hq)).mono (by omega),hq.mono (by omega)⟩
   have p1:parW 1 a.kind (wdsN a)=wdsN a:=by
    unfold parW tightS
    rw [if_neg]
    split<;>(try split)<;>omega
   rcases hk with rfl | rfl | rfl
   ·refine t1 (B:=3*countN (Nd.mk 6 [] 0 [a,b])-2) rfl (by omega) ?_
    have:=sum 6 43 (.inl ⟨rfl,rfl⟩)
    simpa [wdsN,p1] using this
   ·refine t1 (B:=3*countN (Nd.mk 7 [] 0 [a,b])-2) rfl (by omega) ?_
    have:=sum 7 45 (.inr ⟨rfl,rfl⟩)
    simpa [wdsN,p1] using this
   ·have hq:Q2 (wdsN (Nd.mk 8 [] 0 [a,b])) (Nd.mk 8 [] 0 [a,b]) (3*countN (Nd.mk 8 [] 0 [a,b])-2):=by
     intro f r xs hf ht hs
     have ha':At r (parW 2 a.kind (wdsN a)++([42]::(parW 3 b.kind (wdsN b)++xs))):=by simpa [wdsN] using ht
     obtain ⟨r1,g1,h1,h2,h3⟩:=iha.2.1 f r _ (by omega) ha' (by simp [hdW])
     obtain ⟨g,rfl⟩:∃ g,g1=g+1:=⟨g1-1,by omega⟩
     obtain ⟨r2,j2,j3⟩:=ihb.1 g r1.step xs (by omega) h3.step hs
     refine ⟨r2,g,by omega,?_,j3⟩
     rw [h2,termL,if_pos h3.yes,j2]
    have e3:parW 3 (Nd.mk 8 [] 0 [a,b]).kind (wdsN (Nd.mk 8 [] 0 [a,b]))=[[40]]++wdsN (Nd.mk 8 [] 0 [a,b])++[[41]]:=by exact if_pos (show tightS 8<3 by decide)
    have e2:parW 2 (Nd.mk 8 [] 0 [a,b]).kind (wdsN (Nd.mk 8 [] 0 [a,b]))=wdsN (Nd.mk 8 [] 0 [a,b]):=by exact if_neg (show ¬ tightS 8<2 by decide)
    rw [e3,e2]
    exact ⟨(up31 (up23 hq)).mono (by omega),hq.mono (by omega),(up23 hq).mono (by omega)⟩
def Stop (xs:List (List UInt8)):Prop:=hdW xs≠[91]∧hdW xs≠[42]∧hdW xs≠[43]∧hdW xs≠[45]
theorem exprR_reads {n:Nd}(h:FE n)(hc:countN n≤500){r:RS}{xs:List (List UInt8)}(ha:At r (wdsN n++xs))(hs:Stop xs):∃ r',exprR r=(n,r')∧At r' xs:=by
 obtain ⟨r',g,h1,h2,h3⟩:=(readsE h).2.2 6010 r xs (by omega) ha hs.1 hs.2.1
 rw [exprL_end h3 hs.2.2.1 hs.2.2.2] at h2
 exact ⟨r',h2,h3⟩
theorem relS_relT {k:Int}(h0:11≤k)(h1:k≤16):relS (relT k)=k:=by
 have:k=11∨k=12∨k=13∨k=14∨k=15∨k=16:=by omega
 rcases this with rfl | rfl | rfl | rfl | rfl | rfl<;>rfl
theorem stop_rel (k:Int)(xs:List (List UInt8)):Stop (relT k::xs):=by
 have:∀ w,w∈wideSigns→w≠[91]∧w≠[42]∧w≠[43]∧w≠[45]:=by decide
 exact this _ (relT_wide k)
theorem condR_reads {n:Nd}(h:FC n)(hc:countN n≤500){r:RS}{xs:List (List UInt8)}(ha:At r (wdsN n++xs))(hs:Stop xs):∃ r',condR r=(n,r')∧At r' xs:=by
 cases h with
 | mk k a b h0 h1 fa fb =>
   have ne:¬ k=6∧¬ k=7∧¬ k=8:=by omega
   have hcc:countN (Nd.mk k [] 0 [a,b])=1+(countN a+countN b):=by simp [countN,countL]
   have ha':At r (wdsN a++(relT k::(wdsN b++xs))):=by simpa [wdsN,ne.1,ne.2.1,ne.2.2] using ha
   obtain ⟨r1,e1,a1⟩:=exprR_reads fa (by omega) ha' (stop_rel k _)
   obtain ⟨r2,e2,a2⟩:=exprR_reads fb (by omega) a1.step hs
   refine ⟨r2,?_,a2⟩
   have ht:r1.text=relT k:=by rw [a1.text];rfl
   unfold condR
   rw [e1]
   simp only [ht,relS_relT h0 h1]
   rw [if_neg (by simp [a1.good];omega),e2]
def RdS (x:Nd):Prop:=∀ (f:Nat)(r:RS)(xs:List (List UInt8)),3*countN x≤f→countN x≤500→At r (wdsS x++xs)→hdW xs≠wElse→∃ r',stmtM f r=(x,r')∧At r' xs
def RdL (l:List Nd):Prop:=∀ (f:Nat)(r:RS)(acc:List Nd)(xs:List (List UInt8)),3*countL l+1≤f→countL l≤500→At r (wdsL l++xs)→(xs=[]∨hdW xs=[125])→∃ r',listM f acc r=(acc++l,r')∧At r' xs
def begins (s:List UInt8):Prop:=nameS s=true∨s∈[wIf,wWhile,wFor,wCheck,wRead,wSkip,wStop]
theorem begins_no {s:List UInt8}(h:begins s):s≠[125]∧s≠wElse∧s≠wVar∧s≠wArray:=by
 rcases h with h | h
 ·exact ⟨name_no h _,name_no h _,name_no h _,name_no h _⟩
 ·have:∀ s,s∈[wIf,wWhile,wFor,wCheck,wRead,wSkip,wStop]→s≠[125]∧s≠wElse∧s≠wVar∧s≠wArray:=by decide
  exact this s h
theorem wdsS_begin {x:Nd}(h:FS x):∃ s t,wdsS x=s::t∧begins s:=by
 cases h with
 | set s a h ha=>exact ⟨s,_,by simp [wdsS];rfl,.inl h⟩
 | put s a b h ha hb=>obtain ⟨k',s',m',l'⟩:=b;exact ⟨s,_,by simp [wdsS];rfl,.inl h⟩
 | read s h=>exact ⟨wRead,_,by simp [wdsS];rfl,.inr (by simp)⟩
 | ifs c l l' hc hl hl'=>exact ⟨wIf,_,by simp [wdsS];rfl,.inr (by simp)⟩
 | whil c l hc hl=>exact ⟨wWhile,_,by simp [wdsS];rfl,.inr (by simp)⟩
 | for_ s a b l h ha hb hl=>obtain ⟨k',s',m',l'⟩:=b;exact ⟨wFor,_,by simp [wdsS];rfl,.inr (by simp)⟩
 | check c hc=>exact ⟨wCheck,_,by simp [wdsS];rfl,.inr (by simp)⟩
 | skip=>exact ⟨wSkip,_,by simp [wdsS];rfl,.inr (by simp)⟩
 | stop=>exact ⟨wStop,_,by simp [wdsS];rfl,.inr (by simp)⟩
theorem readsL {l:List Nd}(hf:∀ x,x∈l→FS x)(h:∀ x,x∈l→RdS x):RdL l:=by
 induction l with
 | nil =>
   intro f r acc xs hf hc ha hx
   have ha':At r xs:=by simpa [wdsL] using ha
   refine ⟨r,?_,ha'⟩
   cases f with
   | zero=>simp [listM]
   | succ f =>
     rw [listM,if_neg,List.append_nil]
     rcases hx with rfl | hx
     ·simp;intro _ h;have:=ha'.ge;omega
     ·rw [ha'.text,hx];simp
 | cons x l ih =>
   intro f r acc xs hfu hc ha hx
   simp only [countL] at hfu hc
   obtain ⟨g,rfl⟩:∃ g,f=g+1:=⟨f-1,by omega⟩
   have ha':At r (wdsS x++(wdsL l++xs)):=by simpa [wdsL] using ha
   have hne:hdW (wdsL l++xs)≠wElse:=by
    cases l with
    | nil =>
      simp only [wdsL,List.nil_append]
      rcases hx with rfl | hx
      ·simp [hdW]
      ·rw [hx];decide
    | cons y l =>
      obtain ⟨s,t,e,hb⟩:=wdsS_begin (hf y (by simp))
      simp only [wdsL,e,hdW]
      exact (begins_no hb).2.1
   obtain ⟨r1,e1,a1⟩:=h x (by simp) g r _ (by omega) (by omega) ha' hne
   obtain ⟨r2,e2,a2⟩:=ih (fun y hy=>hf y (by simp [hy])) (fun y hy=>h y (by simp [hy])) g r1 (acc++[x]) xs (by have:=cN_pos x;omega) (by omega) a1 hx
   refine ⟨r2,?_,a2⟩
   obtain ⟨s,t,e,hb⟩:=wdsS_begin (hf x (by simp))
   have has:At r (s::(t++(wdsL l++xs))):=by rw [e] at ha';simpa using ha'
   rw [listM,if_pos,e1]
   ·simp only;rw [e2];simp
   ·have:=(begins_no hb).1
    rw [has.text]
    simp [has.good,has.lt,hdW,this]
theorem readsB {l:List Nd}(hl:RdL l){f:Nat}{r:RS}{xs:List (List UInt8)}(hf:3*countL l+2≤f)(hc:countL l≤500)(ha:At r ([123]::(wdsL l++[125]::xs))):∃ r',blockM f r=(.mk 30 [] 0 l,r')∧At r' xs:=by
 obtain ⟨g,rfl⟩:∃ g,f=g+1:=⟨f-1,by omega⟩
 obtain ⟨r1,e1,a1⟩:=hl g r.step [] ([125]::xs) (by omega) hc ha.step (.inr rfl)
 refine ⟨r1.step,?_,a1.step⟩
 rw [blockM,ha.need,e1]
 simp [a1.need]
theorem stop_of {s:List UInt8}{xs:List (List UInt8)}(h:s∈[[93],[59],[123],wTo]:=by decide):Stop (s::xs):=by
 have:∀ s,s∈[[93],[59],[123],wTo]→s≠[91]∧s≠[42]∧s≠[43]∧s≠[45]:=by decide
 exact this s h
theorem stmt_simple {f:Nat}{r:RS}{s:List UInt8}{xs:List (List UInt8)}(ha:At r (s::xs))(h1:s≠wIf)(h2:s≠wWhile)(h3:s≠wFor):stmtM (f+1) r=((simpleR r).1,(simpleR r).2.need [59]):=by
 rw [stmtM,if_neg (by simp [ha.no (s:=wIf) h1]),if_neg (by simp [ha.no (s:=wWhile) h2]),if_neg (by simp [ha.no (s:=wFor) h3])]
theorem simple_set {r:RS}{s:List UInt8}{xs:List (List UInt8)}(ha:At r (s::xs))(hn:nameS s=true):simpleR r=setR r:=by
 rw [simpleR,if_neg (by simp [ha.no (s:=wCheck) (name_no hn _)]),if_neg (by simp [ha.no (s:=wRead) (name_no hn _)]),if_neg (by simp [ha.no (s:=wSkip) (name_no hn _)]),if_neg (by simp [ha.no (s:=wStop) (name_no hn _)])]
theorem readsS {x:Nd}(h:FS x):RdS x:=by
 induction h with
 | set s a h fa =>
   intro f r xs hf hc ha _
   have hcc:countN (Nd.mk 21 s 0 [a])=1+countN a:=by simp [countN,countL]
   obtain ⟨g,rfl⟩:∃ g,f=g+1:=⟨f-1,by omega⟩
   have ha':At r (s::[61]::(wdsN a++[59]::xs)):=by simpa [wdsS] using ha
   obtain ⟨_,n2,n3⟩:=ha'.named h
   obtain ⟨r1,e1,a1⟩:=exprR_reads fa (by omega) ha'.step.step stop_of
   refine ⟨r1.step,?_,a1.step⟩
   rw [stmt_simple ha' (name_no h _) (name_no h _) (name_no h _),simple_set ha' h,setR,n3,if_neg (by simp [ha'.step.no (s:=[91]) (by simp [hdW])]),ha'.step.need,e1,n2]
   simp [a1.need]
 | put s a b h fa fb =>
   intro f r xs hf hc ha _
   have hcc:countN (Nd.mk 22 s 0 [a,b])=1+(countN a+countN b):=by simp [countN,countL]
   obtain ⟨g,rfl⟩:∃ g,f=g+1:=⟨f-1,by omega⟩
   have ha':At r (s::[91]::(wdsN a++[93]::[61]::(wdsN b++[59]::xs))):=by
    obtain ⟨k',s',m',l'⟩:=b
    simpa [wdsS] using ha
   obtain ⟨_,n2,n3⟩:=ha'.named h
   obtain ⟨r1,e1,a1⟩:=exprR_reads fa (by omega) ha'.step.step stop_of
   obtain ⟨r2,e2,a2⟩:=exprR_reads fb (by omega) a1.step.step stop_of
   refine ⟨r2.step,?_,a2.step⟩
   rw [stmt_simple ha' (name_no h _) (name_no h _) (name_no h _),simple_set ha' h,setR,n3,if_pos ha'.step.yes,e1]
   simp only
   rw [a1.need,a1.step.need,e2,n2]
   simp [a2.need]
 | read s h =>
   intro f r xs hf hc ha _
   have:=cN_pos (Nd.mk 23 s 0 [])
   obtain ⟨g,rfl⟩:∃ g,f=g+1:=⟨f-1,by omega⟩
   have ha':At r (wRead::s::[59]::xs):=by simpa [wdsS] using ha
   obtain ⟨_,n2,n3⟩:=ha'.step.named h
   refine ⟨r.step.step.step,?_,ha'.step.step.step⟩
   rw [stmt_simple ha' (by decide) (by decide) (by decide),simpleR,if_neg (by simp [ha'.no (s:=wCheck) (by simp [hdW])]),if_pos ha'.yes,n2,n3]
   simp [ha'.step.step.need]
 | ifs c l l' hc hl hl' ihl ihl' =>
   intro f r xs hf hcn ha hx
   have hcc:countN (Nd.mk 24 [] 0 [c,.mk 30 [] 0 l,.mk 30 [] 0 l'])=1+(countN c+(1+countL l+(1+countL l'))):=by simp [countN,countL]
   obtain ⟨g,rfl⟩:∃ g,f=g+1:=⟨f-1,by omega⟩
   have L:=readsL hl ihl
   have L':=readsL hl' ihl'
   cases l' with
   | nil =>
     have ha':At r (wIf::(wdsN c++([123]::(wdsL l++[125]::xs)))):=by simpa [wdsS] using ha
     obtain ⟨r1,e1,a1⟩:=condR_reads hc (by omega) ha'.step stop_of
     obtain ⟨r2,e2,a2⟩:=readsB L (f:=g) (by omega) (by omega) a1
     refine ⟨r2,?_,a2⟩
     rw [stmtM,if_pos ha'.yes,e1]
     simp only
     rw [e2]
     simp only
     rw [if_neg (by simp [a2.no hx])]
   | cons y l' =>
     have ha':At r (wIf::(wdsN c++([123]::(wdsL l++[125]::(wElse::[123]::(wdsL (y::l')++[125]::xs)))))):=by simpa [wdsS] using ha
     obtain ⟨r1,e1,a1⟩:=condR_reads hc (by omega) ha'.step stop_of
     obtain ⟨r2,e2,a2⟩:=readsB L (f:=g) (by omega) (by omega) a1
     obtain ⟨r3,e3,a3⟩:=readsB L' (f:=g) (by omega) (by omega) a2.step
     refine ⟨r3,?_,a3⟩
     rw [stmtM,if_pos ha'.yes,e1]
     simp only
     rw [e2]
     simp only
     rw [if_pos a2.yes,e3]
 | whil c l hc hl ihl =>
   intro f r xs hf hcn ha hx
   have hcc:countN (Nd.mk 25 [] 0 [c,.mk 30 [] 0 l])=1+(countN c+(1+countL l)):=by simp [countN,countL]
   obtain ⟨g,rfl⟩:∃ g,f=g+1:=⟨f-1,by omega⟩
   have ha':At r (wWhile::(wdsN c++([123]::(wdsL l++[125]::xs)))):=by simpa [wdsS] using ha
   obtain ⟨r1,e1,a1⟩:=condR_reads hc (by omega) ha'.step stop_of
   obtain ⟨r2,e2,a2⟩:=readsB (readsL hl ihl) (f:=g) (by omega) (by omega) a1
   refine ⟨r2,?_,a2⟩
   rw [stmtM,if_neg (by simp [ha'.no (s:=wIf) (by simp [hdW])]),if_pos ha'.yes,e1]
   simp only
   rw [e2]
 | for_ s a b l h fa fb hl ihl =>
   intro f r xs hf hcn ha hx
   have hcc:countN (Nd.mk 26 s 0 [a,b,.mk 30 [] 0 l])=1+(countN a+(countN b+(1+countL l))):=by simp [countN,countL]
   obtain ⟨g,rfl⟩:∃ g,f=g+1:=⟨f-1,by omega⟩
   have ha':At r (wFor::s::wFrom::(wdsN a++(wTo::(wdsN b++([123]::(wdsL l++[125]::xs)))))):=by
    obtain ⟨k',s',m',l'⟩:=b
    simpa [wdsS] using ha
   obtain ⟨_,n2,n3⟩:=ha'.step.named h
   have eA:forA r.step=r.step.step.step:=by rw [forA,n3,ha'.step.step.need]
   obtain ⟨r1,e1,a1⟩:=exprR_reads fa (by omega) ha'.step.step.step stop_of
   have eB:forB r.step=r1.step:=by rw [forB,eA,e1];exact a1.need
   obtain ⟨r2,e2,a2⟩:=exprR_reads fb (by omega) a1.step stop_of
   obtain ⟨r3,e3,a3⟩:=readsB (readsL hl ihl) (f:=g) (by omega) (by omega) a2
   refine ⟨r3,?_,a3⟩
   rw [stmtM,if_neg (by simp [ha'.no (s:=wIf) (by simp [hdW])]),if_neg (by simp [ha'.no (s:=wWhile) (by simp [hdW])]),if_pos ha'.yes,eA,eB,e1,e2,n2]
   simp only
   rw [e3]
 | check c hc =>
   intro f r xs hf hcn ha _
   have hcc:countN (Nd.mk 27 [] 0 [c])=1+countN c:=by simp [countN,countL]
   obtain ⟨g,rfl⟩:∃ g,f=g+1:=⟨f-1,by omega⟩
   have ha':At r (wCheck::(wdsN c++[59]::xs)):=by simpa [wdsS] using ha
   obtain ⟨r1,e1,a1⟩:=condR_reads hc (by omega) ha'.step stop_of
   refine ⟨r1.step,?_,a1.step⟩
   rw [stmt_simple ha' (by decide) (by decide) (by decide),simpleR,if_pos ha'.yes,e1]
   simp [a1.need]
 | skip =>
   intro f r xs hf hcn ha _
   have:=cN_pos (Nd.mk 28 [] 0 [])
   obtain ⟨g,rfl⟩:∃ g,f=g+1:=⟨f-1,by omega⟩
   have ha':At r (wSkip::[59]::xs):=by simpa [wdsS] using ha
   refine ⟨r.step.step,?_,ha'.step.step⟩
   rw [stmt_simple ha' (by decide) (by decide) (by decide),simpleR,if_neg (by simp [ha'.no (s:=wCheck) (by simp [hdW])]),if_neg (by simp [ha'.no (s:=wRead) (by simp [hdW])]),if_pos ha'.yes]
   simp [ha'.step.need]
 | stop =>
   intro f r xs hf hcn ha _
   have:=cN_pos (Nd.mk 29 [] 0 [])
   obtain ⟨g,rfl⟩:∃ g,f=g+1:=⟨f-1,by omega⟩
   have ha':At r (wStop::[59]::xs):=by simpa [wdsS] using ha
   refine ⟨r.step.step,?_,ha'.step.step⟩
   rw [stmt_simple ha' (by decide) (by decide) (by decide),simpleR,if_neg (by simp [ha'.no (s:=wCheck) (by simp [hdW])]),if_neg (by simp [ha'.no (s:=wRead) (by simp [hdW])]),if_neg (by simp [ha'.no (s:=wSkip) (by simp [hdW])]),if_pos ha'.yes]
   simp [ha'.step.need]
theorem declR_reads {d:Nd}(h:FV d){r:RS}{xs:List (List UInt8)}(ha:At r (wdsS d++xs)):isDecl r=true∧(declR r).1=d∧At ((declR r).2.need [59]) xs:=by
 cases h with
 | var s h =>
   have ha':At r (wVar::s::[59]::xs):=by simpa [wdsS] using ha
   obtain ⟨_,n2,n3⟩:=ha'.step.named h
   refine ⟨by simp [isDecl,ha'.yes],?_⟩
   rw [declR,if_pos ha'.yes,n2,n3]
   simp only
   rw [ha'.step.step.need]
   refine ⟨?_,ha'.step.step.step⟩
   first | trivial | rfl
 | arr s m h h0 h1 =>
   have ha':At r (wArray::s::[91]::(if 0≤m then dec m.toNat else [63])::[93]::[59]::xs):=by simpa [wdsS] using ha
   obtain ⟨_,n2,n3⟩:=ha'.step.named h
   refine ⟨by simp [isDecl,ha'.yes],?_⟩
   have hz:sizeR r.step.step.step=(m,r.step.step.step.step):=by
    have a3:=ha'.step.step.step
    unfold sizeR
    by_cases g:0≤m
    ·rw [if_pos g] at a3
     have hm:m.toNat≤1000000:=by omega
     have hk:r.step.step.step.kind=2:=by rw [a3.kind,(dec_word _ hm).2]
     rw [if_pos (by simp [a3.good,hk]),a3.text]
     simp only [hdW,List.headD_cons]
     rw [numberS_dec _ hm]
     congr 1;omega
    ·rw [if_neg g] at a3
     have hk:kindS [63]≠2:=by decide
     rw [if_neg (by simp [a3.kind,hk]),a3.need]
     congr 1;omega
   rw [declR,if_neg (by simp [ha'.no (s:=wVar) (by simp [hdW])]),n2,n3,ha'.step.step.need,hz]
   simp only
   rw [ha'.step.step.step.step.need,ha'.step.step.step.step.step.need]
   refine ⟨?_,ha'.step.step.step.step.step.step⟩
   first | trivial | rfl
theorem declsM_reads:∀ (ds:List Nd)(f:Nat)(acc:List Nd)(r:RS)(xs:List (List UInt8)),(∀ x,x∈ds→FV x)→ds.length≤f→At r (wdsL ds++xs)→hdW xs≠wVar→hdW xs≠wArray→∃ r',declsM f acc r=(acc++ds,r')∧At r' xs
 | [],f,acc,r,xs,hd,hf,ha,h1,h2=>by
   have ha':At r xs:=by simpa [wdsL] using ha
   refine ⟨r,?_,ha'⟩
   cases f with
   | zero=>simp [declsM]
   | succ f=>rw [declsM,if_neg (by simp [isDecl,ha'.no h1,ha'.no h2]),List.append_nil]
 | d::ds,f,acc,r,xs,hd,hf,ha,h1,h2=>by
   simp at hf
   obtain ⟨g,rfl⟩:∃ g,f=g+1:=⟨f-1,by omega⟩
   have ha':At r (wdsS d++(wdsL ds++xs)):=by simpa [wdsL] using ha
   obtain ⟨e1,e2,a1⟩:=declR_reads (hd d (by simp)) ha'
   obtain ⟨r',e3,a2⟩:=declsM_reads ds g (acc++[d]) _ xs (fun x hx=>hd x (by simp [hx])) (by omega) a1 h1 h2
   refine ⟨r',?_,a2⟩
   rw [declsM,if_pos e1,e2,e3];simp
theorem progR_reads {ds l:List Nd}(hd:∀ x,x∈ds→FV x)(hl:∀ x,x∈l→FS x)(hc:countL ds+countL l≤500){r:RS}(ha:At r (wdsL ds++wdsL l)):(progR r).1=.mk 40 [] 0 (ds++[.mk 30 [] 0 l])∧(progR r).2.bad=false:=by
 have h12:hdW (wdsL l)≠wVar∧hdW (wdsL l)≠wArray:=by
  cases l with
  | nil=>simp [wdsL,hdW]
  | cons y l =>
    obtain ⟨s,t,e,hb⟩:=wdsS_begin (hl y (by simp))
    simp only [wdsL,e,hdW]
    exact (begins_no hb).2.2
 have hdl:=length_le_countL ds
 obtain ⟨r1,e1,a1⟩:=declsM_reads ds 2000 [] r (wdsL l) hd (by omega) ha h12.1 h12.2
 obtain ⟨r2,e2,a2⟩:=readsL hl (fun x hx=>readsS (hl x hx)) 5000 r1 [] [] (by omega) (by omega) (by simpa using a1) (.inl rfl)
 have ee:r2.ends=r2:=by rw [RS.ends,if_neg (by have:=a2.ge;omega)]
 unfold progR
 rw [e1]
 simp only
 rw [e2]
 simp only [List.nil_append]
 rw [ee]
 refine ⟨?_,a2.good⟩
 first | trivial | rfl
theorem parse_back {n:Nd}(h:FP n)(hc:countN n≤500)(h0:(parseS (progT n)).2.1=0):(parseS (progT n)).1=n:=by
 cases h with
 | mk ds l hd hl =>
   have hcn:countN (Nd.mk 40 [] 0 (ds++[.mk 30 [] 0 l]))=1+(countL ds+(1+countL l)):=by simp [countN,countL_append,countL]
   have hw:(wordsS (progT (.mk 40 [] 0 (ds++[.mk 30 [] 0 l])))).2.1=0:=by
    unfold parseS at h0
    split at h0
    ·assumption
    ·exact h0
   have hlex:=lexP hd hl
   rw [lineL_flat ds,← progT_mk ds l] at hlex
   have hws:=lex_words hlex hw
   have hat:At (rs0 (progT (.mk 40 [] 0 (ds++[.mk 30 [] 0 l])))) (wdsL ds++wdsL l):=⟨rfl,rs0_wk _,by simp [rs0,hws]⟩
   obtain ⟨e1,e2⟩:=progR_reads hd hl (by omega) hat
   unfold parseS at h0 ⊢
   rw [if_pos hw,if_neg (by simp [e2])] at h0 ⊢
   split at h0
   ·simp at h0
   ·rename_i hg
    rw [if_neg hg]
    exact e1
end Go.V
