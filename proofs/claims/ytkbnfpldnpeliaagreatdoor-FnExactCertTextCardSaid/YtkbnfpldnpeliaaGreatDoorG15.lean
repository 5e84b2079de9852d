/- A part of the proof of the claim that the last text states: no condition of its own. -/
import Derived.Test.YtkbnfpldnpeliaaGreatDoorG14
set_option linter.unusedVariables false
set_option linter.unusedSimpArgs false
namespace Go.V
open Go Go.Proofs Go.ChangeShapes Go.WideShapes Go.ChangeAt Go.RowKit
set_option maxRecDepth 100000
theorem node_of {H:Type}{enc:TypeId × Value→H}{W:World}{base:Nat}{v:Value}{d:DataW H}{ps:List MemPlace}(hv:Value.okWide Tryz.prog W .any base 24 v)(h:DataW.Trod enc Tryz.prog W 0 (fun _=>true) true 24 v d ps) :
 ∃ n:Nd,PrI n∧LnI n∧Rel E0 W v (nd n):=by
 unfold Value.okWide at hv
 rw [Tryz.underlying24] at hv
 obtain ⟨cs,rfl,_⟩:=hv
 obtain ⟨fuel,h⟩:=h
 obtain ⟨n,⟨h1,h2⟩,h3⟩:=trod_nd fuel _ _ h
 exact ⟨n,h1,h2,h3.agg⟩
noncomputable def low:Nat:=(World.holding Tryz.prog default ⟨#[],#[],[]⟩).heap.size
def litV:DataW Unit→Value
 | .lit (.int k n)=>.int k n
 | .lit (.string s)=>.string ⟨⟨s⟩⟩
 | _=>.nilIface
def aggV:DataW Unit→Array Value
 | .agg l=>(l.map litV).toArray
 | _=>#[]
def textV:DataW Unit→Value
 | .iface _ (.ptr (.agg [.lit (.string s)]))=>.string ⟨⟨s⟩⟩
 | _=>.nilIface
def putV (cs:Array Value):Obj→Obj
 | .cells _ t frozen=>.cells cs t frozen
 | o=>o
noncomputable def laidW (os:Os):World :=
 let w0:=World.holding Tryz.prog os ⟨#[.cells #[textV YtkbnfpldnpeliaaGreatDoor.Rows.laid_strconv_ErrSyntax] 322,.cells #[textV YtkbnfpldnpeliaaGreatDoor.Rows.laid_strconv_ErrRange] 322],#[],[]⟩
 let h0:=(((((w0.heap.modify 5 (putV (aggV YtkbnfpldnpeliaaGreatDoor.Rows.laid_loop_example_g00093_impl_condWords))).modify 6 (putV #[.iface 320 (.pointer (some ⟨low,0,none⟩))])).modify 7 (putV #[.iface 320 (.pointer (some ⟨low+1,0,none⟩))])).modify
  1 (putV (aggV YtkbnfpldnpeliaaGreatDoor.Rows.laid_internal_strconv_uint64pow10))).modify 3 (putV (aggV YtkbnfpldnpeliaaGreatDoor.Rows.laid_math_bits_deBruijn32tab))).modify 4 (putV (aggV YtkbnfpldnpeliaaGreatDoor.Rows.laid_math_bits_deBruijn64tab))
 { w0 with heap:=h0.modify 0 (putV (aggV YtkbnfpldnpeliaaGreatDoor.Rows.laid_loop_example_g00093_impl_none)) }
abbrev nd0V:Value:=.agg #[.int .i64 0,.string ⟨#[]⟩,.int .i64 0,.slice none 0 0]
theorem own0:ownKnob Tryz.prog.godebug=none:=by kernel_rfl
theorem laidOut0:laidOutB Tryz.prog=true:=by kernel_rfl
theorem condVar:Tryz.prog.globalNamed "loop.example/g00093/impl.condWords" = some 5:=by kernel_rfl
theorem condTy:(Tryz.prog.globals[5]?).map (·.type)=some 291:=by kernel_rfl
theorem condRd:Tryz.prog.readableRec 291=true:=by kernel_rfl
theorem condLt:291<Tryz.prog.types.size:=of_decide_eq_true (by kernel_rfl)
end Go.V
namespace Go.V
open Go Go.Proofs
def cpR {α:Type}(f:α→List AV)(z:List AV)(l:List α)(i:Nat):List (List AV):=(l.take i).map f++List.replicate (l.length-i) z
theorem cpR_get {α:Type}(f:α→List AV)(z:List AV){l:List α}{i:Nat}(h:i<l.length):(cpR f z l i)[i]?=some z:=by
 have:((l.take i).map f).length=i:=by simp;omega
 rw [cpR,List.getElem?_append_right (by omega),this,Nat.sub_self,List.getElem?_replicate,if_pos (by omega)]
theorem cpR_set {α:Type}(f:α→List AV)(z:List AV){l:List α}{i:Nat}{x:α}(h:l[i]?=some x):(cpR f z l i).set i (f x)=cpR f z l (i+1):=by
 have hi:=lt_of_get h
 obtain ⟨c,hc⟩:∃ c,l.length-i=c+1:=⟨l.length-i-1,by omega⟩
 have hc2:l.length-(i+1)=c:=by omega
 rw [cpR,cpR,hc,hc2,List.take_add_one,h,Option.toList_some,List.map_append,List.replicate_succ]
 have:((l.take i).map f).length=i:=by simp;omega
 rw [List.set_append_right _ _ (by omega),this,Nat.sub_self,List.set_cons_zero,List.append_assoc];rfl
theorem cpR_all {α:Type}(f:α→List AV)(z:List AV)(l:List α):cpR f z l l.length=l.map f:=by simp [cpR]
theorem cpR_nil {α:Type}(f:α→List AV)(z:List AV)(l:List α):cpR f z l 0=List.replicate (l.map f).length z:=by simp [cpR]
theorem AK.rbs {f:FuncId}{fn:Func}{F:Frm}{bx:List (List (List AV))}{b n:Nat}{rows:List (List AV)}{k:List Item}(hf:X.P.funcs[f]?=some fn)(hb:bx[b]?=some rows)(hn:rows.length=n)(hl:n≤1000000000) [hok:OKR 0 0 rows]
 (h:resF X F ⟨bx,[]⟩ fn.results.toList=some [.bsl b n]:=by rfl):AK X ⟨f,fn,0,0⟩ (.code .ret::k) F ⟨bx,[]⟩ fun e S'=>e=.ret (.sl rows .no)∧S'=⟨[],[]⟩:=by
 subst hn
 refine AK.retZ (B:=⟨f,fn,0,0⟩) hf h 0 (Nat.le_refl _) (r:=.sl rows .no) ?_ (fun rows hr=>by simp at hr) ⟨rfl,rfl⟩
 refine .bsl b rows.length rows rows (Nat.zero_le _) hb (Nat.le_refl _) (by unfold maxN;omega) rfl (fun i r r' h1 h2=>?_) (fun i j r r' x y h1 h2 h3 h4=>?_)
 ·rw [h1] at h2;cases h2;rfl
 ·rw [h1] at h2;cases h2
  rw [h3] at h4;cases h4
  exact .same x (hok.ok r (List.mem_of_getElem? h1) x (List.mem_of_getElem? h3))
theorem map_get {α:Type}{f:α→List AV}{l:List α}{i:Nat}{x:α}(h:l[i]?=some x):(l.map f)[i]?=some (f x):=by simp [h]
abbrev icell (n:Int):List AV:=[vi n]
instance {n m i:Nat}{l:List Int}:OKR n m (cpR icell [vi 0] l i):=⟨fun r hr x hx=>by
 rcases List.mem_append.1 hr with h | h
 ·exact (inferInstance:OKR n m (zrs (l.take i))).ok r h x hx
 ·rw [List.eq_of_mem_replicate h] at hx;simp at hx;subst hx;exact .val _⟩
theorem t_toI (l:List (Int))(hl:l.length≤1000000000)  : Pure X 59 [.sl (zrs l) .no] (.sl (zrs l) .no):=by
 have hlen:(zrs l).length=l.length:=by simp [zrs]
 refine Pure.run Tryz.func59 ?_
 refine AK.op (Ndo.mkS (n:=(zrs l).length) (b:=0) (by rw [hlen];exact hl) rfl rfl rfl rfl rfl rfl rfl rfl rfl rfl) ?_
 refine AK.while_ (ι:=Nat) 1 0 (fun i=>i≤l.length) (fun i=>[(4,vi i),(3,.bsl 0 l.length),(0,.sl (zrs l) .no)]) (fun i=>⟨[cpR icell [vi 0] l i],[]⟩) (fun i=>l.length-i) ?_ 0 (Nat.zero_le _)
  ⟨rfl,by rw [← hlen];rfl,rfl,trivial⟩ (congrArg (fun b=>St.mk [b] []) (cpR_nil icell [vi 0] l).symm) rfl rfl rfl rfl (fun _=>inferInstance) (fun _=>inferInstance)
 intro i hi IH
 refine AK.ev 100 rfl ?_
 refine AK.if_ (fun h=>?_) (fun h=>?_)
 ·have hlt:i<l.length:=by have:=of_decide_eq_true h;rw [hlen] at this;omega
  obtain ⟨x,hx⟩:=lget_of_lt l hlt
  have hr:=cpR_get icell [vi 0] hlt
  refine AK.ix i (by omega) (map_get (f:=icell) hx) ?_
  skip
  refine AK.atB i hlt hr ?_
  refine AK.stB hr ?_
  refine IH (i+1) hlt (by omega) _ _ ⟨vint ((wrap_small (by omega) (by omega)).trans (by omega)),rfl,rfl,trivial⟩ ?_ rfl rfl
  exact congrArg (fun b=>St.mk [b] []) (cpR_set icell [vi 0] hx)
 ·have:i=l.length:=by have:=of_decide_eq_false h;rw [hlen] at this;omega
  subst this
  refine AK.rbs Tryz.func59 (b:=0) ?_ hlen hl
  show some (cpR icell [vi 0] l l.length)=_
  rw [cpR_all];rfl
theorem t_eqI (l:List (Int))(hl:l.length≤1000000000)  : Pure X 63 [.sl (zrs l) .no,.sl (zrs l) .no] (vb true):=by
 have hlen:(zrs l).length=l.length:=by simp [zrs]
 refine Pure.run Tryz.func63 ?_
 refine AK.no ?_ (ht:=by simp)
 refine AK.while_ (ι:=Nat) 0 0 (fun i=>i≤l.length) (fun i=>[(5,vi i),(0,.sl (zrs l) .no),(1,.sl (zrs l) .no)]) (fun i=>⟨[],[]⟩) (fun i=>l.length-i) ?_ 0 (Nat.zero_le _)
  ⟨rfl,rfl,rfl,trivial⟩ rfl rfl rfl rfl rfl (fun _=>inferInstance) (fun _=>inferInstance)
 intro i hi IH
 refine AK.ev 100 rfl ?_
 refine AK.if_ (fun h=>?_) (fun h=>?_)
 ·have hlt:i<l.length:=by have:=of_decide_eq_true h;rw [hlen] at this;omega
  obtain ⟨x,hx⟩:=lget_of_lt l hlt
  refine AK.db 0 ?_
  refine Drv.ig i (by omega) (map_get (f:=icell) hx) ?_
  refine Drv.ig i (by omega) (map_get (f:=icell) hx) ?_
  skip
  refine Drv.z ?_
  refine AK.no ?_ (ht:=by simp)
  exact IH (i+1) hlt (by omega) _ _ ⟨vint ((wrap_small (by omega) (by omega)).trans (by omega)),rfl,rfl,trivial⟩ rfl rfl rfl
 ·exact AK.rz Tryz.func63 rfl
theorem t_szI (rows:List (List AV)) [h:OKR 0 0 rows](left:Int)(h0:0≤left)(h1:left≤1048576)(hl:rows.length≤9223372036854775807):Pure X 48 [.sl rows .no,vi left] (vi (szR rows.length left)):=by
 have hw:IntKind.i64.wrap (left-rows.length)=left-rows.length:=wrap_small (by omega) (by omega)
 have e0:szR rows.length left=if left-rows.length<0 then -1 else left-rows.length:=by unfold szR;split<;>split<;>omega
 rw [e0,← hw]
 refine Pure.run Tryz.func48 ?_
 refine AK.if_ (fun g=>?_) (fun g=>?_)
 ·refine AK.rz Tryz.func48 ?_
  rw [if_pos (of_decide_eq_true g)]
 ·refine AK.rz Tryz.func48 ?_
  rw [if_neg (of_decide_eq_false g)]
def isV (x:Int):Bool:=between x (-1000000) 1000000
theorem p_val (x:Int):Pure X 183 [vi x] (vb (isV x)):=by
 refine Pure.run Tryz.func183 ?_
 refine AK.pc (p_between x (-1000000) 1000000) ?_
 exact AK.rz Tryz.func183 rfl
structure Vl where
 lo:Int
 hi:Int
 m:Bool
structure Sg where
 tm:List (List (Int × Int))
 vs:List Vl
 ms:List Bool
structure Ab where
 n:Int
 d:List Int
 sg:List Sg
abbrev scell (c:Int × Int):List AV:=[vi c.1,vi c.2]
def sys (l:List (Int × Int)):List (List AV):=l.map scell
abbrev srow (l:List (Int × Int)):List AV:=[.sl (sys l) .no]
def syss (l:List (List (Int × Int))):List (List AV):=l.map srow
abbrev vcell (v:Vl):List AV:=[vi v.lo,vi v.hi,vb v.m]
def vls (l:List Vl):List (List AV):=l.map vcell
abbrev bcell (b:Bool):List AV:=[vb b]
def bls (l:List Bool):List (List AV):=l.map bcell
abbrev sgcell (s:Sg):List AV:=[.sl (syss s.tm) .no,.sl (vls s.vs) .no,.sl (bls s.ms) .no]
def sgs (l:List Sg):List (List AV):=l.map sgcell
abbrev abcells (a:Ab):List AV:=[vi a.n,.sl (zrs a.d) .no,.sl (sgs a.sg) .no]
abbrev ab (a:Ab):AV:=.agg (abcells a)
instance {n m:Nat}{l:List (Int × Int)}:OKR n m (sys l):=⟨fun r hr x hx=>by
 obtain ⟨e,_,rfl⟩:=List.mem_map.1 hr
 exact (inferInstance:OKL n m (scell e)).ok x hx⟩
instance {n m i:Nat}{l:List (Int × Int)}:OKR n m (cpR scell [vi 0,vi 0] l i):=⟨fun r hr x hx=>by
 rcases List.mem_append.1 hr with h | h
 ·exact (inferInstance:OKR n m (sys (l.take i))).ok r h x hx
 ·rw [List.eq_of_mem_replicate h] at hx
  exact (inferInstance:OKL n m [vi 0,vi 0]).ok x hx⟩
instance {n m:Nat}{l:List (List (Int × Int))}:OKR n m (syss l):=⟨fun r hr x hx=>by
 obtain ⟨e,_,rfl⟩:=List.mem_map.1 hr
 exact (inferInstance:OKL n m (srow e)).ok x hx⟩
instance {n m i:Nat}{l:List (List (Int × Int))}:OKR n m (cpR srow [.sl [] .tight] l i):=⟨fun r hr x hx=>by
 rcases List.mem_append.1 hr with h | h
 ·exact (inferInstance:OKR n m (syss (l.take i))).ok r h x hx
 ·rw [List.eq_of_mem_replicate h] at hx
  exact (inferInstance:OKL n m [.sl [] .tight]).ok x hx⟩
instance {n m:Nat}{l:List (Vl)}:OKR n m (vls l):=⟨fun r hr x hx=>by
 obtain ⟨e,_,rfl⟩:=List.mem_map.1 hr
 exact (inferInstance:OKL n m (vcell e)).ok x hx⟩
instance {n m i:Nat}{l:List (Vl)}:OKR n m (cpR vcell [vi 0,vi 0,vb false] l i):=⟨fun r hr x hx=>by
 rcases List.mem_append.1 hr with h | h
 ·exact (inferInstance:OKR n m (vls (l.take i))).ok r h x hx
 ·rw [List.eq_of_mem_replicate h] at hx
  exact (inferInstance:OKL n m [vi 0,vi 0,vb false]).ok x hx⟩
instance {n m:Nat}{l:List (Bool)}:OKR n m (bls l):=⟨fun r hr x hx=>by
 obtain ⟨e,_,rfl⟩:=List.mem_map.1 hr
 exact (inferInstance:OKL n m (bcell e)).ok x hx⟩
instance {n m i:Nat}{l:List (Bool)}:OKR n m (cpR bcell [vb false] l i):=⟨fun r hr x hx=>by
 rcases List.mem_append.1 hr with h | h
 ·exact (inferInstance:OKR n m (bls (l.take i))).ok r h x hx
 ·rw [List.eq_of_mem_replicate h] at hx
  exact (inferInstance:OKL n m [vb false]).ok x hx⟩
instance {n m:Nat}{l:List (Sg)}:OKR n m (sgs l):=⟨fun r hr x hx=>by
 obtain ⟨e,_,rfl⟩:=List.mem_map.1 hr
 exact (inferInstance:OKL n m (sgcell e)).ok x hx⟩
instance {n m i:Nat}{l:List (Sg)}:OKR n m (cpR sgcell [.sl [] .tight,.sl [] .tight,.sl [] .tight] l i):=⟨fun r hr x hx=>by
 rcases List.mem_append.1 hr with h | h
 ·exact (inferInstance:OKR n m (sgs (l.take i))).ok r h x hx
 ·rw [List.eq_of_mem_replicate h] at hx
  exact (inferInstance:OKL n m [.sl [] .tight,.sl [] .tight,.sl [] .tight]).ok x hx⟩
theorem t_toSymP (c:Int × Int):Pure X 184 [.agg (scell c)] (.agg (scell c)):=by
 refine Pure.run Tryz.func184 ?_
 exact AK.rz Tryz.func184 rfl
theorem t_toSy (l:List (Int × Int))(hl:l.length≤1000000000)  : Pure X 135 [.sl (sys l) .no] (.sl (sys l) .no):=by
 have hlen:(sys l).length=l.length:=by simp [sys]
 refine Pure.run Tryz.func135 ?_
 refine AK.op (Ndo.mkS (n:=(sys l).length) (b:=0) (by rw [hlen];exact hl) rfl rfl rfl rfl rfl rfl rfl rfl rfl rfl) ?_
 refine AK.while_ (ι:=Nat) 1 0 (fun i=>i≤l.length) (fun i=>[(4,vi i),(3,.bsl 0 l.length),(0,.sl (sys l) .no)]) (fun i=>⟨[cpR scell [vi 0,vi 0] l i],[]⟩) (fun i=>l.length-i) ?_ 0 (Nat.zero_le _)
  ⟨rfl,by rw [← hlen];rfl,rfl,trivial⟩ (congrArg (fun b=>St.mk [b] []) (cpR_nil scell [vi 0,vi 0] l).symm) rfl rfl rfl rfl (fun _=>inferInstance) (fun _=>inferInstance)
 intro i hi IH
 refine AK.ev 100 rfl ?_
 refine AK.if_ (fun h=>?_) (fun h=>?_)
 ·have hlt:i<l.length:=by have:=of_decide_eq_true h;rw [hlen] at this;omega
  obtain ⟨x,hx⟩:=lget_of_lt l hlt
  have hr:=cpR_get scell [vi 0,vi 0] hlt
  refine AK.ix i (by omega) (map_get (f:=scell) hx) ?_
  refine AK.pc (t_toSymP x) ?_
  refine AK.atB i hlt hr ?_
  refine AK.stB hr ?_
  refine IH (i+1) hlt (by omega) _ _ ⟨vint ((wrap_small (by omega) (by omega)).trans (by omega)),rfl,rfl,trivial⟩ ?_ rfl rfl
  exact congrArg (fun b=>St.mk [b] []) (cpR_set scell [vi 0,vi 0] hx)
 ·have:i=l.length:=by have:=of_decide_eq_false h;rw [hlen] at this;omega
  subst this
  refine AK.rbs Tryz.func135 (b:=0) ?_ hlen hl
  show some (cpR scell [vi 0,vi 0] l l.length)=_
  rw [cpR_all];rfl
theorem t_toSyS (l:List (List (Int × Int)))(hl:l.length≤1000000000)(h1:∀ x,x∈l→x.length≤1000000000):Pure X 96 [.sl (syss l) .no] (.sl (syss l) .no):=by
 have hlen:(syss l).length=l.length:=by simp [syss]
 refine Pure.run Tryz.func96 ?_
 refine AK.op (Ndo.mkS (n:=(syss l).length) (b:=0) (by rw [hlen];exact hl) rfl rfl rfl rfl rfl rfl rfl rfl rfl rfl) ?_
 refine AK.while_ (ι:=Nat) 1 0 (fun i=>i≤l.length) (fun i=>[(4,vi i),(3,.bsl 0 l.length),(0,.sl (syss l) .no)]) (fun i=>⟨[cpR srow [.sl [] .tight] l i],[]⟩) (fun i=>l.length-i) ?_ 0 (Nat.zero_le _)
  ⟨rfl,by rw [← hlen];rfl,rfl,trivial⟩ (congrArg (fun b=>St.mk [b] []) (cpR_nil srow [.sl [] .tight] l).symm) rfl rfl rfl rfl (fun _=>inferInstance) (fun _=>inferInstance)
 intro i hi IH
 refine AK.ev 100 rfl ?_
 refine AK.if_ (fun h=>?_) (fun h=>?_)
 ·have hlt:i<l.length:=by have:=of_decide_eq_true h;rw [hlen] at this;omega
  obtain ⟨x,hx⟩:=lget_of_lt l hlt
  have hr:=cpR_get srow [.sl [] .tight] hlt
  refine AK.ix i (by omega) (map_get (f:=srow) hx) ?_
  refine AK.pc (t_toSy x (h1 x (List.mem_of_getElem? hx))) ?_
  refine AK.atB i hlt hr ?_
  refine AK.stB hr ?_
  refine IH (i+1) hlt (by omega) _ _ ⟨vint ((wrap_small (by omega) (by omega)).trans (by omega)),rfl,rfl,trivial⟩ ?_ rfl rfl
  exact congrArg (fun b=>St.mk [b] []) (cpR_set srow [.sl [] .tight] hx)
 ·have:i=l.length:=by have:=of_decide_eq_false h;rw [hlen] at this;omega
  subst this
  refine AK.rbs Tryz.func96 (b:=0) ?_ hlen hl
  show some (cpR srow [.sl [] .tight] l l.length)=_
  rw [cpR_all];rfl
theorem t_toRange (a b:Int):Pure X 185 [.agg [vi a,vi b]] (.agg [vi a,vi b]):=by
 refine Pure.run Tryz.func185 ?_
 exact AK.rz Tryz.func185 rfl
theorem t_toVal (v:Vl):Pure X 136 [.agg (vcell v)] (.agg (vcell v)):=by
 refine Pure.run Tryz.func136 ?_
 refine AK.pc (t_toRange v.lo v.hi) ?_
 exact AK.rz Tryz.func136 rfl
theorem t_toVl (l:List (Vl))(hl:l.length≤1000000000)  : Pure X 97 [.sl (vls l) .no] (.sl (vls l) .no):=by
 have hlen:(vls l).length=l.length:=by simp [vls]
 refine Pure.run Tryz.func97 ?_
 refine AK.op (Ndo.mkS (n:=(vls l).length) (b:=0) (by rw [hlen];exact hl) rfl rfl rfl rfl rfl rfl rfl rfl rfl rfl) ?_
 refine AK.while_ (ι:=Nat) 1 0 (fun i=>i≤l.length) (fun i=>[(4,vi i),(3,.bsl 0 l.length),(0,.sl (vls l) .no)]) (fun i=>⟨[cpR vcell [vi 0,vi 0,vb false] l i],[]⟩) (fun i=>l.length-i) ?_ 0 (Nat.zero_le _)
  ⟨rfl,by rw [← hlen];rfl,rfl,trivial⟩ (congrArg (fun b=>St.mk [b] []) (cpR_nil vcell [vi 0,vi 0,vb false] l).symm) rfl rfl rfl rfl (fun _=>inferInstance) (fun _=>inferInstance)
 intro i hi IH
 refine AK.ev 100 rfl ?_
 refine AK.if_ (fun h=>?_) (fun h=>?_)
 ·have hlt:i<l.length:=by have:=of_decide_eq_true h;rw [hlen] at this;omega
  obtain ⟨x,hx⟩:=lget_of_lt l hlt
  have hr:=cpR_get vcell [vi 0,vi 0,vb false] hlt
  refine AK.ix i (by omega) (map_get (f:=vcell) hx) ?_
  refine AK.pc (t_toVal x) ?_
  refine AK.atB i hlt hr ?_
  refine AK.stB hr ?_
  refine IH (i+1) hlt (by omega) _ _ ⟨vint ((wrap_small (by omega) (by omega)).trans (by omega)),rfl,rfl,trivial⟩ ?_ rfl rfl
  exact congrArg (fun b=>St.mk [b] []) (cpR_set vcell [vi 0,vi 0,vb false] hx)
 ·have:i=l.length:=by have:=of_decide_eq_false h;rw [hlen] at this;omega
  subst this
  refine AK.rbs Tryz.func97 (b:=0) ?_ hlen hl
  show some (cpR vcell [vi 0,vi 0,vb false] l l.length)=_
  rw [cpR_all];rfl
theorem t_toB (l:List (Bool))(hl:l.length≤1000000000)  : Pure X 98 [.sl (bls l) .no] (.sl (bls l) .no):=by
 have hlen:(bls l).length=l.length:=by simp [bls]
 refine Pure.run Tryz.func98 ?_
 refine AK.op (Ndo.mkS (n:=(bls l).length) (b:=0) (by rw [hlen];exact hl) rfl rfl rfl rfl rfl rfl rfl rfl rfl rfl) ?_
 refine AK.while_ (ι:=Nat) 1 0 (fun i=>i≤l.length) (fun i=>[(4,vi i),(3,.bsl 0 l.length),(0,.sl (bls l) .no)]) (fun i=>⟨[cpR bcell [vb false] l i],[]⟩) (fun i=>l.length-i) ?_ 0 (Nat.zero_le _)
  ⟨rfl,by rw [← hlen];rfl,rfl,trivial⟩ (congrArg (fun b=>St.mk [b] []) (cpR_nil bcell [vb false] l).symm) rfl rfl rfl rfl (fun _=>inferInstance) (fun _=>inferInstance)
 intro i hi IH
 refine AK.ev 100 rfl ?_
 refine AK.if_ (fun h=>?_) (fun h=>?_)
 ·have hlt:i<l.length:=by have:=of_decide_eq_true h;rw [hlen] at this;omega
  obtain ⟨x,hx⟩:=lget_of_lt l hlt
  have hr:=cpR_get bcell [vb false] hlt
  refine AK.ix i (by omega) (map_get (f:=bcell) hx) ?_
  skip
  refine AK.atB i hlt hr ?_
  refine AK.stB hr ?_
  refine IH (i+1) hlt (by omega) _ _ ⟨vint ((wrap_small (by omega) (by omega)).trans (by omega)),rfl,rfl,trivial⟩ ?_ rfl rfl
  exact congrArg (fun b=>St.mk [b] []) (cpR_set bcell [vb false] hx)
 ·have:i=l.length:=by have:=of_decide_eq_false h;rw [hlen] at this;omega
  subst this
  refine AK.rbs Tryz.func98 (b:=0) ?_ hlen hl
  show some (cpR bcell [vb false] l l.length)=_
  rw [cpR_all];rfl
structure SgOk (s:Sg):Prop where
 tm:s.tm.length≤1000000000
 rows:∀ x,x∈s.tm→x.length≤1000000000
 vs:s.vs.length≤1000000000
 ms:s.ms.length≤1000000000
structure AbOk (a:Ab):Prop where
 d:a.d.length≤1000000000
 sg:a.sg.length≤1000000000
 rows:∀ x,x∈a.sg→SgOk x
theorem t_toSeg (s:Sg)(h:SgOk s):Pure X 60 [.agg (sgcell s)] (.agg (sgcell s)):=by
 refine Pure.run Tryz.func60 ?_
 refine AK.pc (t_toSyS s.tm h.tm h.rows) ?_
 refine AK.pc (t_toVl s.vs h.vs) ?_
 refine AK.pc (t_toB s.ms h.ms) ?_
 exact AK.rz Tryz.func60 rfl
theorem t_toSgS (l:List (Sg))(hl:l.length≤1000000000)(h1:∀ x,x∈l→SgOk x):Pure X 35 [.sl (sgs l) .no] (.sl (sgs l) .no):=by
 have hlen:(sgs l).length=l.length:=by simp [sgs]
 refine Pure.run Tryz.func35 ?_
 refine AK.op (Ndo.mkS (n:=(sgs l).length) (b:=0) (by rw [hlen];exact hl) rfl rfl rfl rfl rfl rfl rfl rfl rfl rfl) ?_
 refine AK.while_ (ι:=Nat) 1 0 (fun i=>i≤l.length) (fun i=>[(4,vi i),(3,.bsl 0 l.length),(0,.sl (sgs l) .no)]) (fun i=>⟨[cpR sgcell [.sl [] .tight,.sl [] .tight,.sl [] .tight] l i],[]⟩) (fun i=>l.length-i) ?_ 0 (Nat.zero_le _)
  ⟨rfl,by rw [← hlen];rfl,rfl,trivial⟩ (congrArg (fun b=>St.mk [b] []) (cpR_nil sgcell [.sl [] .tight,.sl [] .tight,.sl [] .tight] l).symm) rfl rfl rfl rfl (fun _=>inferInstance) (fun _=>inferInstance)
 intro i hi IH
 refine AK.ev 100 rfl ?_
 refine AK.if_ (fun h=>?_) (fun h=>?_)
 ·have hlt:i<l.length:=by have:=of_decide_eq_true h;rw [hlen] at this;omega
  obtain ⟨x,hx⟩:=lget_of_lt l hlt
  have hr:=cpR_get sgcell [.sl [] .tight,.sl [] .tight,.sl [] .tight] hlt
  refine AK.ix i (by omega) (map_get (f:=sgcell) hx) ?_
  refine AK.pc (t_toSeg x (h1 x (List.mem_of_getElem? hx))) ?_
  refine AK.atB i hlt hr ?_
  refine AK.stB hr ?_
  refine IH (i+1) hlt (by omega) _ _ ⟨vint ((wrap_small (by omega) (by omega)).trans (by omega)),rfl,rfl,trivial⟩ ?_ rfl rfl
  exact congrArg (fun b=>St.mk [b] []) (cpR_set sgcell [.sl [] .tight,.sl [] .tight,.sl [] .tight] hx)
 ·have:i=l.length:=by have:=of_decide_eq_false h;rw [hlen] at this;omega
  subst this
  refine AK.rbs Tryz.func35 (b:=0) ?_ hlen hl
  show some (cpR sgcell [.sl [] .tight,.sl [] .tight,.sl [] .tight] l l.length)=_
  rw [cpR_all];rfl
theorem t_toFacts (n:Int)(d:List Int)(h:d.length≤1000000000):Pure X 34 [.agg [vi n,.sl (zrs d) .no]] (.agg [vi n,.sl (zrs d) .no]):=by
 refine Pure.run Tryz.func34 ?_
 refine AK.pc (t_toI d h) ?_
 exact AK.rz Tryz.func34 rfl
theorem t_toAb (a:Ab)(h:AbOk a):Pure X 11 [ab a] (ab a):=by
 refine Pure.run Tryz.func11 ?_
 refine AK.pc (t_toFacts a.n a.d h.d) ?_
 refine AK.pc (t_toSgS a.sg h.sg h.rows) ?_
 exact AK.rz Tryz.func11 rfl
theorem t_eqSymP (c:Int × Int):Pure X 201 [.agg (scell c),.agg (scell c)] (vb true):=by
 refine Pure.run Tryz.func201 ?_
 refine AK.no ?_ (ht:=by simp)
 refine AK.no ?_ (ht:=by simp)
 exact AK.rz Tryz.func201 rfl
theorem t_eqSy (l:List (Int × Int))(hl:l.length≤1000000000)  : Pure X 156 [.sl (sys l) .no,.sl (sys l) .no] (vb true):=by
 have hlen:(sys l).length=l.length:=by simp [sys]
 refine Pure.run Tryz.func156 ?_
 refine AK.no ?_ (ht:=by simp)
 refine AK.while_ (ι:=Nat) 0 0 (fun i=>i≤l.length) (fun i=>[(5,vi i),(0,.sl (sys l) .no),(1,.sl (sys l) .no)]) (fun i=>⟨[],[]⟩) (fun i=>l.length-i) ?_ 0 (Nat.zero_le _)
  ⟨rfl,rfl,rfl,trivial⟩ rfl rfl rfl rfl rfl (fun _=>inferInstance) (fun _=>inferInstance)
 intro i hi IH
 refine AK.ev 100 rfl ?_
 refine AK.if_ (fun h=>?_) (fun h=>?_)
 ·have hlt:i<l.length:=by have:=of_decide_eq_true h;rw [hlen] at this;omega
  obtain ⟨x,hx⟩:=lget_of_lt l hlt
  refine AK.db 0 ?_
  refine Drv.ig i (by omega) (map_get (f:=scell) hx) ?_
  refine Drv.ig i (by omega) (map_get (f:=scell) hx) ?_
  refine Drv.pg (t_eqSymP x) ?_
  refine Drv.z ?_
  refine AK.no ?_ (ht:=by simp)
  exact IH (i+1) hlt (by omega) _ _ ⟨vint ((wrap_small (by omega) (by omega)).trans (by omega)),rfl,rfl,trivial⟩ rfl rfl rfl
 ·exact AK.rz Tryz.func156 rfl
theorem t_eqSyS (l:List (List (Int × Int)))(hl:l.length≤1000000000)(h1:∀ x,x∈l→x.length≤1000000000):Pure X 107 [.sl (syss l) .no,.sl (syss l) .no] (vb true):=by
 have hlen:(syss l).length=l.length:=by simp [syss]
 refine Pure.run Tryz.func107 ?_
 refine AK.no ?_ (ht:=by simp)
 refine AK.while_ (ι:=Nat) 0 0 (fun i=>i≤l.length) (fun i=>[(5,vi i),(0,.sl (syss l) .no),(1,.sl (syss l) .no)]) (fun i=>⟨[],[]⟩) (fun i=>l.length-i) ?_ 0 (Nat.zero_le _)
  ⟨rfl,rfl,rfl,trivial⟩ rfl rfl rfl rfl rfl (fun _=>inferInstance) (fun _=>inferInstance)
 intro i hi IH
 refine AK.ev 100 rfl ?_
 refine AK.if_ (fun h=>?_) (fun h=>?_)
 ·have hlt:i<l.length:=by have:=of_decide_eq_true h;rw [hlen] at this;omega
  obtain ⟨x,hx⟩:=lget_of_lt l hlt
  refine AK.db 0 ?_
  refine Drv.ig i (by omega) (map_get (f:=srow) hx) ?_
  refine Drv.ig i (by omega) (map_get (f:=srow) hx) ?_
  refine Drv.pg (t_eqSy x (h1 x (List.mem_of_getElem? hx))) ?_
  refine Drv.z ?_
  refine AK.no ?_ (ht:=by simp)
  exact IH (i+1) hlt (by omega) _ _ ⟨vint ((wrap_small (by omega) (by omega)).trans (by omega)),rfl,rfl,trivial⟩ rfl rfl rfl
 ·exact AK.rz Tryz.func107 rfl
theorem t_eqRange (a b:Int):Pure X 202 [.agg [vi a,vi b],.agg [vi a,vi b]] (vb true):=by
 refine Pure.run Tryz.func202 ?_
 refine AK.no ?_ (ht:=by simp)
 refine AK.no ?_ (ht:=by simp)
 exact AK.rz Tryz.func202 rfl
theorem t_eqVal (v:Vl):Pure X 157 [.agg (vcell v),.agg (vcell v)] (vb true):=by
 refine Pure.run Tryz.func157 ?_
 refine AK.pc (t_eqRange v.lo v.hi) ?_
 refine AK.no ?_
 refine AK.no ?_ (ht:=by simp)
 exact AK.rz Tryz.func157 rfl
theorem t_eqVl (l:List (Vl))(hl:l.length≤1000000000)  : Pure X 108 [.sl (vls l) .no,.sl (vls l) .no] (vb true):=by
 have hlen:(vls l).length=l.length:=by simp [vls]
 refine Pure.run Tryz.func108 ?_
 refine AK.no ?_ (ht:=by simp)
 refine AK.while_ (ι:=Nat) 0 0 (fun i=>i≤l.length) (fun i=>[(5,vi i),(0,.sl (vls l) .no),(1,.sl (vls l) .no)]) (fun i=>⟨[],[]⟩) (fun i=>l.length-i) ?_ 0 (Nat.zero_le _)
  ⟨rfl,rfl,rfl,trivial⟩ rfl rfl rfl rfl rfl (fun _=>inferInstance) (fun _=>inferInstance)
 intro i hi IH
 refine AK.ev 100 rfl ?_
 refine AK.if_ (fun h=>?_) (fun h=>?_)
 ·have hlt:i<l.length:=by have:=of_decide_eq_true h;rw [hlen] at this;omega
  obtain ⟨x,hx⟩:=lget_of_lt l hlt
  refine AK.db 0 ?_
  refine Drv.ig i (by omega) (map_get (f:=vcell) hx) ?_
  refine Drv.ig i (by omega) (map_get (f:=vcell) hx) ?_
  refine Drv.pg (t_eqVal x) ?_
  refine Drv.z ?_
  refine AK.no ?_ (ht:=by simp)
  exact IH (i+1) hlt (by omega) _ _ ⟨vint ((wrap_small (by omega) (by omega)).trans (by omega)),rfl,rfl,trivial⟩ rfl rfl rfl
 ·exact AK.rz Tryz.func108 rfl
theorem t_eqB (l:List (Bool))(hl:l.length≤1000000000)  : Pure X 109 [.sl (bls l) .no,.sl (bls l) .no] (vb true):=by
 have hlen:(bls l).length=l.length:=by simp [bls]
 refine Pure.run Tryz.func109 ?_
 refine AK.no ?_ (ht:=by simp)
 refine AK.while_ (ι:=Nat) 0 0 (fun i=>i≤l.length) (fun i=>[(5,vi i),(0,.sl (bls l) .no),(1,.sl (bls l) .no)]) (fun i=>⟨[],[]⟩) (fun i=>l.length-i) ?_ 0 (Nat.zero_le _)
  ⟨rfl,rfl,rfl,trivial⟩ rfl rfl rfl rfl rfl (fun _=>inferInstance) (fun _=>inferInstance)
 intro i hi IH
 refine AK.ev 100 rfl ?_
 refine AK.if_ (fun h=>?_) (fun h=>?_)
 ·have hlt:i<l.length:=by have:=of_decide_eq_true h;rw [hlen] at this;omega
  obtain ⟨x,hx⟩:=lget_of_lt l hlt
  refine AK.db 0 ?_
  refine Drv.ig i (by omega) (map_get (f:=bcell) hx) ?_
  refine Drv.ig i (by omega) (map_get (f:=bcell) hx) ?_
  skip
  refine Drv.z ?_
  refine AK.no ?_ (ht:=by simp)
  exact IH (i+1) hlt (by omega) _ _ ⟨vint ((wrap_small (by omega) (by omega)).trans (by omega)),rfl,rfl,trivial⟩ rfl rfl rfl
 ·exact AK.rz Tryz.func109 rfl
theorem t_eqSeg (s:Sg)(h:SgOk s):Pure X 64 [.agg (sgcell s),.agg (sgcell s)] (vb true):=by
 refine Pure.run Tryz.func64 ?_
 refine AK.pc (t_eqSyS s.tm h.tm h.rows) ?_
 refine AK.no ?_
 refine AK.pc (t_eqVl s.vs h.vs) ?_
 refine AK.no ?_
 refine AK.pc (t_eqB s.ms h.ms) ?_
 refine AK.no ?_
 exact AK.rz Tryz.func64 rfl
theorem t_eqSgS (l:List (Sg))(hl:l.length≤1000000000)(h1:∀ x,x∈l→SgOk x):Pure X 39 [.sl (sgs l) .no,.sl (sgs l) .no] (vb true):=by
 have hlen:(sgs l).length=l.length:=by simp [sgs]
 refine Pure.run Tryz.func39 ?_
 refine AK.no ?_ (ht:=by simp)
 refine AK.while_ (ι:=Nat) 0 0 (fun i=>i≤l.length) (fun i=>[(5,vi i),(0,.sl (sgs l) .no),(1,.sl (sgs l) .no)]) (fun i=>⟨[],[]⟩) (fun i=>l.length-i) ?_ 0 (Nat.zero_le _)
  ⟨rfl,rfl,rfl,trivial⟩ rfl rfl rfl rfl rfl (fun _=>inferInstance) (fun _=>inferInstance)
 intro i hi IH
 refine AK.ev 100 rfl ?_
 refine AK.if_ (fun h=>?_) (fun h=>?_)
 ·have hlt:i<l.length:=by have:=of_decide_eq_true h;rw [hlen] at this;omega
  obtain ⟨x,hx⟩:=lget_of_lt l hlt
  refine AK.db 0 ?_
  refine Drv.ig i (by omega) (map_get (f:=sgcell) hx) ?_
  refine Drv.ig i (by omega) (map_get (f:=sgcell) hx) ?_
  refine Drv.pg (t_eqSeg x (h1 x (List.mem_of_getElem? hx))) ?_
  refine Drv.z ?_
  refine AK.no ?_ (ht:=by simp)
  exact IH (i+1) hlt (by omega) _ _ ⟨vint ((wrap_small (by omega) (by omega)).trans (by omega)),rfl,rfl,trivial⟩ rfl rfl rfl
 ·exact AK.rz Tryz.func39 rfl
theorem t_eqFacts (n:Int)(d:List Int)(h:d.length≤1000000000):Pure X 38 [.agg [vi n,.sl (zrs d) .no],.agg [vi n,.sl (zrs d) .no]] (vb true):=by
 refine Pure.run Tryz.func38 ?_
 refine AK.no ?_ (ht:=by simp)
 refine AK.pc (t_eqI d h) ?_
 refine AK.no ?_
 exact AK.rz Tryz.func38 rfl
theorem t_eqAb (a:Ab)(h:AbOk a):Pure X 14 [ab a,ab a] (vb true):=by
 refine Pure.run Tryz.func14 ?_
 refine AK.pc (t_eqFacts a.n a.d h.d) ?_
 refine AK.no ?_
 refine AK.pc (t_eqSgS a.sg h.sg h.rows) ?_
 refine AK.no ?_
 exact AK.rz Tryz.func14 rfl
theorem t_szSy (rows:List (List AV)) [h:OKR 0 0 rows](left:Int)(h0:0≤left)(h1:left≤1048576)(hl:rows.length≤9223372036854775807):Pure X 124 [.sl rows .no,vi left] (vi (szR rows.length left)):=by
 have hw:IntKind.i64.wrap (left-rows.length)=left-rows.length:=wrap_small (by omega) (by omega)
 have e0:szR rows.length left=if left-rows.length<0 then -1 else left-rows.length:=by unfold szR;split<;>split<;>omega
 rw [e0,← hw]
 refine Pure.run Tryz.func124 ?_
 refine AK.if_ (fun g=>?_) (fun g=>?_)
 ·refine AK.rz Tryz.func124 ?_
  rw [if_pos (of_decide_eq_true g)]
 ·refine AK.rz Tryz.func124 ?_
  rw [if_neg (of_decide_eq_false g)]
theorem t_szVl (rows:List (List AV)) [h:OKR 0 0 rows](left:Int)(h0:0≤left)(h1:left≤1048576)(hl:rows.length≤9223372036854775807):Pure X 81 [.sl rows .no,vi left] (vi (szR rows.length left)):=by
 have hw:IntKind.i64.wrap (left-rows.length)=left-rows.length:=wrap_small (by omega) (by omega)
 have e0:szR rows.length left=if left-rows.length<0 then -1 else left-rows.length:=by unfold szR;split<;>split<;>omega
 rw [e0,← hw]
 refine Pure.run Tryz.func81 ?_
 refine AK.if_ (fun g=>?_) (fun g=>?_)
 ·refine AK.rz Tryz.func81 ?_
  rw [if_pos (of_decide_eq_true g)]
 ·refine AK.rz Tryz.func81 ?_
  rw [if_neg (of_decide_eq_false g)]
theorem t_szB (rows:List (List AV)) [h:OKR 0 0 rows](left:Int)(h0:0≤left)(h1:left≤1048576)(hl:rows.length≤9223372036854775807):Pure X 82 [.sl rows .no,vi left] (vi (szR rows.length left)):=by
 have hw:IntKind.i64.wrap (left-rows.length)=left-rows.length:=wrap_small (by omega) (by omega)
 have e0:szR rows.length left=if left-rows.length<0 then -1 else left-rows.length:=by unfold szR;split<;>split<;>omega
 rw [e0,← hw]
 refine Pure.run Tryz.func82 ?_
 refine AK.if_ (fun g=>?_) (fun g=>?_)
 ·refine AK.rz Tryz.func82 ?_
  rw [if_pos (of_decide_eq_true g)]
 ·refine AK.rz Tryz.func82 ?_
  rw [if_neg (of_decide_eq_false g)]
def swY:List (List (Int × Int))→Nat
 | []=>0
 | x::l=>x.length+swY l
structure SgLn (s:Sg):Prop where
 tm:s.tm.length≤9223372036854775807
 rows:∀ x,x∈s.tm→x.length≤9223372036854775807
 vs:s.vs.length≤9223372036854775807
 ms:s.ms.length≤9223372036854775807
def swSg (s:Sg):Nat:=s.tm.length+swY s.tm+(s.vs.length+s.ms.length)
def swSgL:List Sg→Nat
 | []=>0
 | x::l=>swSg x+swSgL l
structure AbLn (a:Ab):Prop where
 d:a.d.length≤9223372036854775807
 sg:a.sg.length≤9223372036854775807
 rows:∀ x,x∈a.sg→SgLn x
def swAb (a:Ab):Nat:=a.d.length+(a.sg.length+swSgL a.sg)
theorem t_szSy' (x:List (Int × Int))(lf:Int)(h0:0≤lf)(h1:lf≤1048576)(h:x.length≤9223372036854775807):Pure X 124 [.sl (sys x) .no,vi lf] (vi (szR x.length lf)):=by
 have hlen:(sys x).length=x.length:=by simp [sys]
 have:=t_szSy (sys x) lf h0 h1 (by rw [hlen];exact h)
 rwa [hlen] at this
theorem t_szSyS (l:List (List (Int × Int)))(left:Int)(h0:0≤left)(h1:left≤1048576)(hl:l.length≤9223372036854775807)(hx:∀ x,x∈l→x.length≤9223372036854775807) :
 Pure X 80 [.sl (syss l) .no,vi left] (vi (szR (l.length+swY l) left)):=by
 have hlen:(syss l).length=l.length:=by simp [syss]
 have hw:IntKind.i64.wrap (left-(syss l).length)=left-l.length:=by rw [hlen];exact wrap_small (by omega) (by omega)
 refine Pure.run Tryz.func80 ?_
 refine AK.if_ (fun g=>?_) (fun g=>?_)
 ·have g':=of_decide_eq_true g
  rw [hw] at g'
  refine AK.rz Tryz.func80 ?_
  rw [szR_lt (by omega)]
 have g':=of_decide_eq_false g
 rw [hw] at g'
 have e0:szR (l.length+swY l) left=szR (swY l) (IntKind.i64.wrap (left-(syss l).length)):=by rw [hw,szR_add (by omega)]
 rw [e0]
 have hb:0≤IntKind.i64.wrap (left-(syss l).length)∧IntKind.i64.wrap (left-(syss l).length)≤1048576:=by rw [hw];omega
 generalize IntKind.i64.wrap (left-(syss l).length)=lf0 at hb
 refine AK.while_ (ι:=Nat × Int) 0 0 (fun i=>i.1≤l.length∧0≤i.2∧i.2≤1048576∧szR (swY l) lf0=szR (swY (l.drop i.1)) i.2) (fun i=>[(5,vi i.1),(1,vi i.2),(0,.sl (syss l) .no)]) (fun _=>⟨[],[]⟩) (fun i=>l.length-i.1) ?_ (0,lf0) ⟨Nat.zero_le _,hb.1,hb.2,rfl⟩
  ⟨rfl,rfl,rfl,trivial⟩ rfl rfl rfl rfl rfl (fun _=>inferInstance) (fun _=>inferInstance)
 rintro ⟨i,lf⟩ ⟨hi,hp0,hp1,hT⟩ IH
 simp only at hi hp0 hp1 hT IH ⊢
 refine AK.ev 100 rfl ?_
 refine AK.if_ (fun h=>?_) (fun h=>?_)
 ·have hlt:i<l.length:=by have:=of_decide_eq_true h;rw [hlen] at this;omega
  obtain ⟨x,hx1⟩:=lget_of_lt l hlt
  rw [drop_cons hx1] at hT
  simp only [swY] at hT
  have hs:Pure X 124 [.sl (sys x) .no,vi lf] (vi (szR (x.length) lf)):=t_szSy' x lf hp0 hp1 (hx x (List.mem_of_getElem? hx1))
  refine AK.ix i (by omega) (map_get (f:=srow) hx1) ?_
  refine AK.pc hs ?_
  refine AK.if_ (fun g2=>?_) (fun g2=>?_)
  ·have g2':=szR_neg hp0 (of_decide_eq_true g2)
   refine AK.rz Tryz.func80 ?_
   rw [hT,szR_lt g2'.2]
  ·have g2':=szR_pos (show 0≤szR (x.length) lf by have:=of_decide_eq_false g2;omega)
   refine IH (i+1,szR (x.length) lf) ⟨hlt,?_,?_,?_⟩ (by simp only;omega) _ _ ⟨vint ((wrap_small (by omega) (by omega)).trans (by simp)),rfl,rfl,trivial⟩ rfl rfl rfl
   ·show 0≤szR (x.length) lf;omega
   ·show szR (x.length) lf≤_;omega
   ·rw [hT,szR_add g2'.2,g2'.1]
 ·have:i=l.length:=by have:=of_decide_eq_false h;rw [hlen] at this;omega
  subst this
  rw [List.drop_length] at hT
  refine AK.rz Tryz.func80 ?_
  rw [hT]
  unfold szR swY
  rw [if_pos (by simpa using hp0)];simp
theorem t_szSeg (s:Sg)(hs:SgLn s)(left:Int)(h0:0≤left)(h1:left≤1048576):Pure X 49 [.agg (sgcell s),vi left] (vi (szR (swSg s) left)):=by
 have lv:(vls s.vs).length=s.vs.length:=by simp [vls]
 have lm:(bls s.ms).length=s.ms.length:=by simp [bls]
 refine Pure.run Tryz.func49 ?_
 refine AK.pc (t_szSyS s.tm left h0 h1 hs.tm hs.rows) ?_
 unfold swSg
 refine AK.if_ (fun g=>?_) (fun g=>?_)
 ·have g':=szR_neg h0 (of_decide_eq_true g)
  refine AK.rz Tryz.func49 ?_
  rw [szR_lt g'.2]
 have k0:=szR_pos (show 0≤szR (s.tm.length+swY s.tm) left by have:=of_decide_eq_false g;omega)
 rw [szR_add k0.2,← k0.1]
 have b0:0≤szR (s.tm.length+swY s.tm) left∧szR (s.tm.length+swY s.tm) left≤1048576:=by omega
 generalize szR (s.tm.length+swY s.tm) left=l1 at b0
 have hv:=t_szVl (vls s.vs) l1 b0.1 b0.2 (by rw [lv];exact hs.vs)
 rw [lv] at hv
 refine AK.pc hv ?_
 refine AK.if_ (fun g=>?_) (fun g=>?_)
 ·have g':=szR_neg b0.1 (of_decide_eq_true g)
  refine AK.rz Tryz.func49 ?_
  rw [szR_lt g'.2]
 have k1:=szR_pos (show 0≤szR s.vs.length l1 by have:=of_decide_eq_false g;omega)
 rw [szR_add k1.2,← k1.1]
 have b1:0≤szR s.vs.length l1∧szR s.vs.length l1≤1048576:=by omega
 generalize szR s.vs.length l1=l2 at b1
 have hm:=t_szB (bls s.ms) l2 b1.1 b1.2 (by rw [lm];exact hs.ms)
 rw [lm] at hm
 refine AK.pc hm ?_
 refine AK.if_ (fun g=>?_) (fun g=>?_)
 ·have g':=szR_neg b1.1 (of_decide_eq_true g)
  refine AK.rz Tryz.func49 ?_
  rw [g'.1]
 ·exact AK.rz Tryz.func49 rfl
theorem t_szSgS (l:List (Sg))(left:Int)(h0:0≤left)(h1:left≤1048576)(hl:l.length≤9223372036854775807)(hx:∀ x,x∈l→SgLn x) :
 Pure X 29 [.sl (sgs l) .no,vi left] (vi (szR (l.length+swSgL l) left)):=by
 have hlen:(sgs l).length=l.length:=by simp [sgs]
 have hw:IntKind.i64.wrap (left-(sgs l).length)=left-l.length:=by rw [hlen];exact wrap_small (by omega) (by omega)
 refine Pure.run Tryz.func29 ?_
 refine AK.if_ (fun g=>?_) (fun g=>?_)
 ·have g':=of_decide_eq_true g
  rw [hw] at g'
  refine AK.rz Tryz.func29 ?_
  rw [szR_lt (by omega)]
 have g':=of_decide_eq_false g
 rw [hw] at g'
 have e0:szR (l.length+swSgL l) left=szR (swSgL l) (IntKind.i64.wrap (left-(sgs l).length)):=by rw [hw,szR_add (by omega)]
 rw [e0]
 have hb:0≤IntKind.i64.wrap (left-(sgs l).length)∧IntKind.i64.wrap (left-(sgs l).length)≤1048576:=by rw [hw];omega
 generalize IntKind.i64.wrap (left-(sgs l).length)=lf0 at hb
 refine AK.while_ (ι:=Nat × Int) 0 0 (fun i=>i.1≤l.length∧0≤i.2∧i.2≤1048576∧szR (swSgL l) lf0=szR (swSgL (l.drop i.1)) i.2) (fun i=>[(5,vi i.1),(1,vi i.2),(0,.sl (sgs l) .no)]) (fun _=>⟨[],[]⟩) (fun i=>l.length-i.1) ?_ (0,lf0) ⟨Nat.zero_le _,hb.1,hb.2,rfl⟩
  ⟨rfl,rfl,rfl,trivial⟩ rfl rfl rfl rfl rfl (fun _=>inferInstance) (fun _=>inferInstance)
 rintro ⟨i,lf⟩ ⟨hi,hp0,hp1,hT⟩ IH
 simp only at hi hp0 hp1 hT IH ⊢
 refine AK.ev 100 rfl ?_
 refine AK.if_ (fun h=>?_) (fun h=>?_)
 ·have hlt:i<l.length:=by have:=of_decide_eq_true h;rw [hlen] at this;omega
  obtain ⟨x,hx1⟩:=lget_of_lt l hlt
  rw [drop_cons hx1] at hT
  simp only [swSgL] at hT
  have hs:Pure X 49 [.agg (sgcell x),vi lf] (vi (szR (swSg x) lf)):=t_szSeg x (hx x (List.mem_of_getElem? hx1)) lf hp0 hp1
  refine AK.ix i (by omega) (map_get (f:=sgcell) hx1) ?_
  refine AK.pc hs ?_
  refine AK.if_ (fun g2=>?_) (fun g2=>?_)
  ·have g2':=szR_neg hp0 (of_decide_eq_true g2)
   refine AK.rz Tryz.func29 ?_
   rw [hT,szR_lt g2'.2]
  ·have g2':=szR_pos (show 0≤szR (swSg x) lf by have:=of_decide_eq_false g2;omega)
   refine IH (i+1,szR (swSg x) lf) ⟨hlt,?_,?_,?_⟩ (by simp only;omega) _ _ ⟨vint ((wrap_small (by omega) (by omega)).trans (by simp)),rfl,rfl,trivial⟩ rfl rfl rfl
   ·show 0≤szR (swSg x) lf;omega
   ·show szR (swSg x) lf≤_;omega
   ·rw [hT,szR_add g2'.2,g2'.1]
 ·have:i=l.length:=by have:=of_decide_eq_false h;rw [hlen] at this;omega
  subst this
  rw [List.drop_length] at hT
  refine AK.rz Tryz.func29 ?_
  rw [hT]
  unfold szR swSgL
  rw [if_pos (by simpa using hp0)];simp
theorem t_szFacts (n:Int)(d:List Int)(hd:d.length≤9223372036854775807)(left:Int)(h0:0≤left)(h1:left≤1048576):Pure X 28 [.agg [vi n,.sl (zrs d) .no],vi left] (vi (szR d.length left)):=by
 have l1:(zrs d).length=d.length:=zrs_len _
 have hI:=t_szI (zrs d) left h0 h1 (by rw [l1];exact hd)
 rw [l1] at hI
 refine Pure.run Tryz.func28 ?_
 refine AK.pc hI ?_
 refine AK.if_ (fun g=>?_) (fun g=>?_)
 ·have g':=szR_neg h0 (of_decide_eq_true g)
  refine AK.rz Tryz.func28 ?_
  rw [g'.1]
 ·exact AK.rz Tryz.func28 rfl
theorem t_szAb (a:Ab)(ha:AbLn a)(left:Int)(h0:0≤left)(h1:left≤1048576):Pure X 8 [ab a,vi left] (vi (szR (swAb a) left)):=by
 refine Pure.run Tryz.func8 ?_
 refine AK.pc (t_szFacts a.n a.d ha.d left h0 h1) ?_
 unfold swAb
 refine AK.if_ (fun g=>?_) (fun g=>?_)
 ·have g':=szR_neg h0 (of_decide_eq_true g)
  refine AK.rz Tryz.func8 ?_
  rw [szR_lt g'.2]
 have k1:=szR_pos (show 0≤szR a.d.length left by have:=of_decide_eq_false g;omega)
 rw [szR_add k1.2,← k1.1]
 have b1:0≤szR a.d.length left∧szR a.d.length left≤1048576:=by omega
 generalize szR a.d.length left=l2 at b1
 refine AK.pc (t_szSgS a.sg l2 b1.1 b1.2 ha.sg ha.rows) ?_
 refine AK.if_ (fun g=>?_) (fun g=>?_)
 ·have g':=szR_neg b1.1 (of_decide_eq_true g)
  refine AK.rz Tryz.func8 ?_
  rw [g'.1]
 ·exact AK.rz Tryz.func8 rfl
theorem Ndo.arith {X:Cx}{S:St}{F:Frm}{N:Nat}{ops:Array Oper}{i:Nat}{o:Oper}{p q:Operand}{t t':TypeId}{op:BinOp}{k:IntKind}{x y:Int}{v:Value}(h:intOp op k x y true=some v)(ho:ops[i]?=some o:=by rfl)(hw:wantA ops F o=some true:=by rfl)
 (hop:o.op=.binOp op t p q t':=by rfl)(hp:opr X F p=some (.val (.int k x)):=by rfl)(hq:opr X F q=some (.val (.int k y)):=by rfl):Ndo X N ops i o F (.val v) S S:=by
 refine Ndo.val ho hw fun F' E w a hc hI hF=>?_
 rw [hop] at hc
 have r1:=opr_sound hI hF ((hc p (by simp [Op.operands])).trans hp)
 have r2:=opr_sound hI hF ((hc q (by simp [Op.operands])).trans hq)
 generalize hx:a.eval p=vx at r1
 generalize hy:a.eval q=vy at r2
 cases r1
 cases r2
 exact ⟨v,by simp [execOp,hop,hx,hy,eqGuard,intOp_sound h t],.val _⟩
def capM (i j:Nat):Int:=if i=j then 0 else if i=0∨j=0 then 1000000 else 2000000
def okD (m k:Nat)(x:Int):Bool:=between x (-2000000) (capM (k / m) (k % m))&&(!(((k / m:Nat):Int)==(k % m:Nat))||(x==0))
def allD (m:Nat):Nat→List Int→Bool
 | _,[]=>true
 | k,x::l=>okD m k x&&allD m (k+1) l
def factB (n:Int)(d:List Int):Bool:=between n 1 13&&(((d.length:Int)==n*n)&&allD n.toNat 0 d)
abbrev fcells (n:Int)(d:List Int):List AV:=[vi n,.sl (zrs d) .no]
def noneB (n:Int)(d:List Int):Bool:=(n==0)&&((d.length:Int)==0)
theorem allD_get {m k:Nat}{d:List Int}{x:Int}(h:d[k]?=some x):allD m k (d.drop k)=(okD m k x&&allD m (k+1) (d.drop (k+1))):=by rw [drop_cons h];rfl
theorem q_capOf (i j:Nat):Pure X 117 [vi i,vi j] (vi (capM i j)):=by
 refine Pure.run Tryz.func117 ?_
 refine AK.if_ (fun g=>?_) (fun g=>?_)
 ·have g':i=j:=by have:((i:Int)==j)=true:=g;simp at this;omega
  refine AK.rz Tryz.func117 ?_
  unfold capM;rw [if_pos g']
 have g':¬ i=j:=by have:((i:Int)==j)=false:=g;simp at this;omega
 refine AK.gd (fun g2=>?_) (fun g2=>?_)
 ·have g2':i=0:=by have:((i:Int)==0)=true:=g2;simp at this;omega
  refine AK.yes ?_
  refine AK.rz Tryz.func117 ?_
  unfold capM;rw [if_neg g',if_pos (.inl g2')]
 have g2':¬ i=0:=by have:((i:Int)==0)=false:=g2;simp at this;omega
 refine AK.if_ (fun g3=>?_) (fun g3=>?_)
 ·have g3':j=0:=by have:((j:Int)==0)=true:=g3;simp at this;omega
  refine AK.rz Tryz.func117 ?_
  unfold capM;rw [if_neg g',if_pos (.inr g3')]
 ·have g3':¬ j=0:=by have:((j:Int)==0)=false:=g3;simp at this;omega
  refine AK.rz Tryz.func117 ?_
  unfold capM;rw [if_neg g',if_neg (by omega)]
theorem p_capOf (i j:Nat):Pure X 90 [vi i,vi j] (vi (capM i j)):=by
 refine Pure.run Tryz.func90 ?_
 refine AK.if_ (fun g=>?_) (fun g=>?_)
 ·have g':i=j:=by have:((i:Int)==j)=true:=g;simp at this;omega
  refine AK.rz Tryz.func90 ?_
  unfold capM;rw [if_pos g']
 have g':¬ i=j:=by have:((i:Int)==j)=false:=g;simp at this;omega
 refine AK.gd (fun g2=>?_) (fun g2=>?_)
 ·have g2':i=0:=by have:((i:Int)==0)=true:=g2;simp at this;omega
  refine AK.yes ?_
  refine AK.rz Tryz.func90 ?_
  unfold capM;rw [if_neg g',if_pos (.inl g2')]
 have g2':¬ i=0:=by have:((i:Int)==0)=false:=g2;simp at this;omega
 refine AK.if_ (fun g3=>?_) (fun g3=>?_)
 ·have g3':j=0:=by have:((j:Int)==0)=true:=g3;simp at this;omega
  refine AK.rz Tryz.func90 ?_
  unfold capM;rw [if_neg g',if_pos (.inr g3')]
 ·have g3':¬ j=0:=by have:((j:Int)==0)=false:=g3;simp at this;omega
  refine AK.rz Tryz.func90 ?_
  unfold capM;rw [if_neg g',if_neg (by omega)]
theorem q_noneF (n:Int)(d:List Int):Pure X 115 [.agg (fcells n d)] (vb (noneB n d)):=by
 refine Pure.run Tryz.func115 ?_
 refine AK.gd (fun g=>?_) (fun g=>?_)
 ·have g':(n==0)=true:=g
  refine AK.rz Tryz.func115 ?_
  unfold noneB;rw [g',zrs_len];rfl
 ·have g':(n==0)=false:=g
  refine AK.rz Tryz.func115 ?_
  unfold noneB;rw [g'];rfl
theorem p_noneF (n:Int)(d:List Int):Pure X 54 [.agg (fcells n d)] (vb (noneB n d)):=by
 refine Pure.run Tryz.func54 ?_
 refine AK.gd (fun g=>?_) (fun g=>?_)
 ·have g':(n==0)=true:=g
  refine AK.rz Tryz.func54 ?_
  unfold noneB;rw [g',zrs_len];rfl
 ·have g':(n==0)=false:=g
  refine AK.rz Tryz.func54 ?_
  unfold noneB;rw [g'];rfl
theorem q_facts (n:Int)(d:List Int):Pure X 103 [.agg (fcells n d)] (vb (factB n d)):=by
 have hlen:((zrs d).length:Int)=d.length:=by rw [zrs_len]
 refine Pure.run Tryz.func103 ?_
 refine AK.pc (q_inRange n 1 13) ?_
 unfold factB
 cases h1:between n 1 13 with
 | false =>
   refine AK.gy ?_
   refine AK.yes ?_
   exact AK.rz Tryz.func103 rfl
 | true =>
   have h1':=between_iff.1 h1
   obtain ⟨m,rfl⟩:∃ m:Nat,n=m:=⟨n.toNat,by omega⟩
   have hmm:(m:Int)*m≤13*13:=Int.mul_le_mul h1'.2 h1'.2 (by omega) (by omega)
   have hm0:0≤(m:Int)*m:=Int.mul_nonneg (by omega) (by omega)
   have hw:IntKind.i64.wrap ((m:Int)*m)=m*m:=wrap_small (by omega) (by omega)
   refine AK.gn ?_
   refine AK.if_ (fun g=>?_) (fun g=>?_)
   ·have g':((d.length:Int)==m*m)=false:=by
     have:(((zrs d).length:Int) != IntKind.i64.wrap ((m:Int)*m))=true:=g
     rw [hw,hlen] at this;simpa using this
    refine AK.rz Tryz.func103 ?_
    rw [g'];rfl
   have g':(d.length:Int)=m*m:=by
    have:(((zrs d).length:Int) != IntKind.i64.wrap ((m:Int)*m))=false:=g
    rw [hw,hlen] at this;simpa using this
   rw [beq_iff_eq.2 g',Int.toNat_natCast]
   refine AK.while_ (ι:=Nat) 1 0 (fun i=>i≤d.length∧allD m 0 d=allD m i (d.drop i)) (fun i=>[(25,vi i),(24,vi d.length),(23,.sl (zrs d) .no),(1,.ptr 0 0 0)]) (fun _=>⟨[[fcells m d]],[]⟩) (fun i=>d.length-i) ?_ 0 ⟨Nat.zero_le _,rfl⟩
    ⟨rfl,vint hlen,rfl,rfl,trivial⟩ rfl rfl rfl rfl rfl (fun _=>inferInstance) (fun _=>inferInstance)
   rintro k ⟨hk,hT⟩ IH
   refine AK.ev 100 rfl ?_
   refine AK.if_ (fun h=>?_) (fun h=>?_)
   ·have hlt:k<d.length:=by have:=of_decide_eq_true h;omega
    obtain ⟨x,hx⟩:=lget_of_lt d hlt
    rw [allD_get hx] at hT
    have hq:intOp .quo .i64 (k:Int) (m:Int) true=some (.int .i64 ((k / m:Nat):Int)):=by
     have e1:decide ((m:Int)=0)=false:=decide_eq_false (by omega)
     have e2:(k:Int).tdiv m=((k / m:Nat):Int):=rfl
     have e3:k / m≤k:=Nat.div_le_self _ _
     simp only [intOp,e1,e2]
     generalize k / m=z at e3 ⊢
     rw [wrap_small (by omega) (by omega)]
    have hr:intOp .rem .i64 (k:Int) (m:Int) true=some (.int .i64 ((k % m:Nat):Int)):=by
     have e1:decide ((m:Int)=0)=false:=decide_eq_false (by omega)
     have e2:(k:Int).tmod m=((k % m:Nat):Int):=rfl
     simp only [intOp,e1,e2]
    refine AK.ix k (by omega) (zrs_get hx) ?_
    refine AK.db 0 ?_
    refine Drv.ru (fun S'=>Ndo.arith hq) ?_
    refine Drv.go ?_
    refine Drv.ru (fun S'=>Ndo.arith hr) ?_
    refine Drv.go ?_
    refine Drv.z ?_
    refine AK.pc (q_capOf (k / m) (k % m)) ?_
    refine AK.pc (q_inRange x (-2000000) (capM (k / m) (k % m))) ?_
    cases h3:between x (-2000000) (capM (k / m) (k % m)) with
    | false =>
      refine AK.gy ?_
      refine AK.yes ?_
      refine AK.rz Tryz.func103 ?_
      rw [hT];unfold okD;rw [h3];rfl
    | true =>
      refine AK.gn ?_
      refine AK.gd (fun g4=>?_) (fun g4=>?_)
      ·have g4':(((k / m:Nat):Int)==(k % m:Nat))=true:=g4
       refine AK.if_ (fun g5=>?_) (fun g5=>?_)
       ·have g5':(x==0)=false:=by have:(x != 0)=true:=g5;simpa using this
        refine AK.rz Tryz.func103 ?_
        rw [hT];unfold okD;rw [h3,g4',g5'];rfl
       ·have g5':(x==0)=true:=by have:(x != 0)=false:=g5;simpa using this
        exact IH (k+1) ⟨hlt,by rw [hT];unfold okD;rw [h3,g4',g5'];rfl⟩ (by omega) _ _ ⟨vint ((wrap_small (by omega) (by omega)).trans (by omega)),rfl,rfl,rfl,trivial⟩ rfl rfl rfl
      ·have g4':(((k / m:Nat):Int)==(k % m:Nat))=false:=g4
       refine AK.no ?_
       exact IH (k+1) ⟨hlt,by rw [hT];unfold okD;rw [h3,g4'];rfl⟩ (by omega) _ _ ⟨vint ((wrap_small (by omega) (by omega)).trans (by omega)),rfl,rfl,rfl,trivial⟩ rfl rfl rfl
   ·have:k=d.length:=by have:=of_decide_eq_false h;omega
    subst this
    refine AK.rz Tryz.func103 ?_
    rw [hT,List.drop_length];rfl
theorem p_facts (n:Int)(d:List Int):Pure X 55 [.agg (fcells n d)] (vb (factB n d)):=by
 have hlen:((zrs d).length:Int)=d.length:=by rw [zrs_len]
 refine Pure.run Tryz.func55 ?_
 refine AK.pc (p_between n 1 13) ?_
 unfold factB
 cases h1:between n 1 13 with
 | false =>
   refine AK.gy ?_
   refine AK.yes ?_
   exact AK.rz Tryz.func55 rfl
 | true =>
   have h1':=between_iff.1 h1
   obtain ⟨m,rfl⟩:∃ m:Nat,n=m:=⟨n.toNat,by omega⟩
   have hmm:(m:Int)*m≤13*13:=Int.mul_le_mul h1'.2 h1'.2 (by omega) (by omega)
   have hm0:0≤(m:Int)*m:=Int.mul_nonneg (by omega) (by omega)
   have hw:IntKind.i64.wrap ((m:Int)*m)=m*m:=wrap_small (by omega) (by omega)
   refine AK.gn ?_
   refine AK.if_ (fun g=>?_) (fun g=>?_)
   ·have g':((d.length:Int)==m*m)=false:=by
     have:(((zrs d).length:Int) != IntKind.i64.wrap ((m:Int)*m))=true:=g
     rw [hw,hlen] at this;simpa using this
    refine AK.rz Tryz.func55 ?_
    rw [g'];rfl
   have g':(d.length:Int)=m*m:=by
    have:(((zrs d).length:Int) != IntKind.i64.wrap ((m:Int)*m))=false:=g
    rw [hw,hlen] at this;simpa using this
   have gn:d.length=m*m:=by have:((d.length:Nat):Int)=((m*m:Nat):Int):=by rw [g'];simp
                            omega
   rw [beq_iff_eq.2 g',Int.toNat_natCast]
   refine AK.while_ (ι:=Nat) 1 0 (fun i=>i≤m∧allD m 0 d=allD m (i*m) (d.drop (i*m))) (fun i=>[(3,vi i),(1,.ptr 0 0 0)]) (fun _=>⟨[[fcells m d]],[]⟩) (fun i=>m-i) ?_ 0 ⟨Nat.zero_le _,by simp⟩
    ⟨rfl,rfl,trivial⟩ rfl rfl rfl rfl rfl (fun _=>inferInstance) (fun _=>inferInstance)
   rintro i ⟨hi,hT⟩ IH
   refine AK.ev 100 rfl ?_
   refine AK.if_ (fun h=>?_) (fun h=>?_)
   ·have hlt:i<m:=by have:=of_decide_eq_true h;omega
    have him:i*m+m≤m*m:=by rw [← Nat.succ_mul];exact Nat.mul_le_mul_right _ hlt
    refine AK.while_ (ι:=Nat) 1 0 (fun j=>j≤m∧allD m 0 d=allD m (i*m+j) (d.drop (i*m+j))) (fun j=>[(4,vi j),(3,vi i),(1,.ptr 0 0 0)]) (fun _=>⟨[[fcells m d]],[]⟩) (fun j=>m-j) ?_ 0 ⟨Nat.zero_le _,by simpa using hT⟩
     ⟨rfl,rfl,rfl,trivial⟩ rfl rfl rfl rfl rfl (fun _=>inferInstance) (fun _=>inferInstance)
    rintro j ⟨hj,hU⟩ JH
    refine AK.ev 100 rfl ?_
    refine AK.if_ (fun g2=>?_) (fun g2=>?_)
    ·have hjl:j<m:=by have:=of_decide_eq_true g2;omega
     obtain ⟨x,hx⟩:=lget_of_lt d (i:=i*m+j) (by omega)
     rw [allD_get hx] at hU
     have e1:(i*m+j) / m=i:=by rw [Nat.mul_comm i m,Nat.mul_add_div (by omega),Nat.div_eq_of_lt hjl];rfl
     have e2:(i*m+j) % m=j:=by rw [Nat.mul_comm i m,Nat.mul_add_mod,Nat.mod_eq_of_lt hjl]
     have e3:okD m (i*m+j) x=(between x (-2000000) (capM i j)&&(!((i:Int)==j)||(x==0))):=by unfold okD;rw [e1,e2]
     have hsq:m*m≤169:=by omega
     have w1:IntKind.i64.wrap ((i:Int)*m)=((i*m:Nat):Int):=by
      have:((i:Int)*m)=((i*m:Nat):Int):=by simp
      rw [this];exact wrap_small (by omega) (by omega)
     have w2:IntKind.i64.wrap (IntKind.i64.wrap ((i:Int)*m)+j)=((i*m+j:Nat):Int):=by
      rw [w1];exact (wrap_small (by omega) (by omega)).trans (by omega)
     refine AK.as_ 40 (vi ((i*m+j:Nat):Int)) ?_ (vint w2)
     refine AK.ix (i*m+j) (by omega) (zrs_get hx) ?_
     refine AK.pc (p_capOf i j) ?_
     refine AK.pc (p_between x (-2000000) (capM i j)) ?_
     cases h3:between x (-2000000) (capM i j) with
     | false =>
       refine AK.gy ?_
       refine AK.yes ?_
       refine AK.rz Tryz.func55 ?_
       rw [hU,e3,h3];rfl
     | true =>
       refine AK.gn ?_
       refine AK.gd (fun g4=>?_) (fun g4=>?_)
       ·have g4':((i:Int)==j)=true:=g4
        refine AK.if_ (fun g5=>?_) (fun g5=>?_)
        ·have g5':(x==0)=false:=by have:(x != 0)=true:=g5;simpa using this
         refine AK.rz Tryz.func55 ?_
         rw [hU,e3,h3,g4',g5'];rfl
        ·have g5':(x==0)=true:=by have:(x != 0)=false:=g5;simpa using this
         exact JH (j+1) ⟨hjl,by rw [hU,e3,h3,g4',g5'];rfl⟩ (by omega) _ _ ⟨vint ((wrap_small (by omega) (by omega)).trans (by omega)),rfl,rfl,trivial⟩ rfl rfl rfl
       ·have g4':((i:Int)==j)=false:=g4
        refine AK.no ?_
        exact JH (j+1) ⟨hjl,by rw [hU,e3,h3,g4'];rfl⟩ (by omega) _ _ ⟨vint ((wrap_small (by omega) (by omega)).trans (by omega)),rfl,rfl,trivial⟩ rfl rfl rfl
    ·have hje:j=m:=by have:=of_decide_eq_false g2;omega
     subst hje
     exact IH (i+1) ⟨hlt,by rw [hU,Nat.succ_mul]⟩ (by omega) _ _ ⟨vint ((wrap_small (by omega) (by omega)).trans (by omega)),rfl,trivial⟩ rfl rfl rfl
   ·have hie:i=m:=by have:=of_decide_eq_false h;omega
    subst hie
    refine AK.rz Tryz.func55 ?_
    rw [hT,← gn,List.drop_length];rfl
def lessB (a b:Int × Int):Bool:=decide (a.1<b.1)||((a.1==b.1)&&decide (a.2<b.2))
theorem q_less (a b:Int × Int):Pure X 150 [.agg (scell a),.agg (scell b)] (vb (lessB a b)):=by
 refine Pure.run Tryz.func150 ?_
 refine AK.gd (fun g=>?_) (fun g=>?_)
 ·have g':decide (a.1<b.1)=true:=g
  refine AK.rz Tryz.func150 ?_
  unfold lessB;rw [g'];rfl
 have g':decide (a.1<b.1)=false:=g
 refine AK.gd (fun g2=>?_) (fun g2=>?_)
 ·have g2':(a.1==b.1)=true:=g2
  refine AK.rz Tryz.func150 ?_
  unfold lessB;rw [g',g2'];rfl
 ·have g2':(a.1==b.1)=false:=g2
  refine AK.rz Tryz.func150 ?_
  unfold lessB;rw [g',g2'];rfl
theorem p_less (a b:Int × Int):Pure X 93 [.agg (scell a),.agg (scell b)] (vb (lessB a b)):=by
 refine Pure.run Tryz.func93 ?_
 refine AK.gd (fun g=>?_) (fun g=>?_)
 ·have g':decide (a.1<b.1)=true:=g
  refine AK.rz Tryz.func93 ?_
  unfold lessB;rw [g'];rfl
 have g':decide (a.1<b.1)=false:=g
 refine AK.gd (fun g2=>?_) (fun g2=>?_)
 ·have g2':(a.1==b.1)=true:=g2
  refine AK.rz Tryz.func93 ?_
  unfold lessB;rw [g',g2'];rfl
 ·have g2':(a.1==b.1)=false:=g2
  refine AK.rz Tryz.func93 ?_
  unfold lessB;rw [g',g2'];rfl
def shapeB (size len:Int):Bool:=between size 2 13&&between len 1 (size-1)
theorem q_shp (size len:Int)(h0:-1000000≤size)(h1:size≤1000000):Pure X 148 [vi size,vi len] (vb (shapeB size len)):=by
 have hw:IntKind.i64.wrap (size-1)=size-1:=wrap_small (by omega) (by omega)
 have hb:=q_inRange len 1 (IntKind.i64.wrap (size-1))
 rw [hw] at hb
 refine Pure.run Tryz.func148 ?_
 refine AK.pc (q_inRange size 2 13) ?_
 refine AK.gd (fun g=>?_) (fun g=>?_)
 ·have g':between size 2 13=true:=g
  refine AK.pc (q_inRange len 1 (IntKind.i64.wrap (size-1))) ?_
  refine AK.rz Tryz.func148 ?_
  unfold shapeB;rw [g',hw];rfl
 ·have g':between size 2 13=false:=g
  refine AK.rz Tryz.func148 ?_
  unfold shapeB;rw [g'];rfl
theorem p_shp (size len:Int)(h0:-1000000≤size)(h1:size≤1000000):Pure X 91 [vi size,vi len] (vb (shapeB size len)):=by
 have hw:IntKind.i64.wrap (size-1)=size-1:=wrap_small (by omega) (by omega)
 have hb:=p_between len 1 (IntKind.i64.wrap (size-1))
 rw [hw] at hb
 refine Pure.run Tryz.func91 ?_
 refine AK.pc (p_between size 2 13) ?_
 refine AK.gd (fun g=>?_) (fun g=>?_)
 ·have g':between size 2 13=true:=g
  refine AK.pc (p_between len 1 (IntKind.i64.wrap (size-1))) ?_
  refine AK.rz Tryz.func91 ?_
  unfold shapeB;rw [g',hw];rfl
 ·have g':between size 2 13=false:=g
  refine AK.rz Tryz.func91 ?_
  unfold shapeB;rw [g'];rfl
def idxY:Nat→List (Int × Int)→Int × Int→Int
 | _,[],_=>-1
 | i,x::l,s=>if (x.1==s.1)&&(x.2==s.2) then i else idxY (i+1) l s
def hasY (l:List (Int × Int))(s:Int × Int):Bool:=decide (idxY 0 l s≥0)
theorem q_indexY (l:List (Int × Int))(s:Int × Int)(hl:l.length≤1000000000):Pure X 198 [.sl (sys l) .no,.agg (scell s)] (vi (idxY 0 l s)):=by
 have hlen:((sys l).length:Int)=l.length:=by simp [sys]
 have hfl:flatTy X.P 152=some [0,0]:=by kernel_rfl
 refine Pure.run Tryz.func198 ?_
 refine AK.while_ (ι:=Nat) 1 0 (fun i=>i≤l.length∧idxY 0 l s=idxY i (l.drop i) s) (fun i=>[(8,vi i),(7,vi l.length),(0,.sl (sys l) .no),(3,.ptr 0 0 0)]) (fun _=>⟨[[scell s]],[]⟩) (fun i=>l.length-i) ?_ 0 ⟨Nat.zero_le _,rfl⟩
  ⟨rfl,vint hlen,rfl,rfl,trivial⟩ rfl rfl rfl rfl rfl (fun _=>inferInstance) (fun _=>inferInstance)
 rintro i ⟨hi,hT⟩ IH
 refine AK.ev 100 rfl ?_
 refine AK.if_ (fun h=>?_) (fun h=>?_)
 ·have hlt:i<l.length:=by have:=of_decide_eq_true h;omega
  obtain ⟨x,hx⟩:=lget_of_lt l hlt
  have hd:idxY i (l.drop i) s=if (x.1==s.1)&&(x.2==s.2) then (i:Int) else idxY (i+1) (l.drop (i+1)) s:=by rw [drop_cons hx];rfl
  rw [hd] at hT
  refine AK.db 0 ?_
  refine Drv.ig i (by omega) (map_get (f:=scell) hx) ?_
  refine Drv.ru (fun S'=>Ndo.eqs (r:=(s.1==x.1)&&((s.2==x.2)&&true)) rfl rfl rfl rfl rfl hfl rfl (.inl ⟨rfl,rfl⟩)) ?_
  refine Drv.z ?_
  refine AK.if_ (fun g=>?_) (fun g=>?_)
  ·have g':((x.1==s.1)&&(x.2==s.2))=true:=by
    have:((s.1==x.1)&&((s.2==x.2)&&true))=true:=g
    simp at this;simp [this.1,this.2]
   refine AK.rz Tryz.func198 ?_
   rw [hT,if_pos g']
  ·have g':¬ ((x.1==s.1)&&(x.2==s.2))=true:=by
    have:((s.1==x.1)&&((s.2==x.2)&&true))=false:=g
    intro h2;simp at h2;rw [h2.1,h2.2] at this;simp at this
   rw [if_neg g'] at hT
   exact IH (i+1) ⟨hlt,hT⟩ (by omega) _ _ ⟨vint ((wrap_small (by omega) (by omega)).trans (by omega)),rfl,rfl,rfl,trivial⟩ rfl rfl rfl
 ·have:i=l.length:=by have:=of_decide_eq_false h;omega
  refine AK.rz Tryz.func198 ?_
  rw [hT,this,List.drop_length];rfl
theorem q_hasY (l:List (Int × Int))(s:Int × Int)(hl:l.length≤1000000000):Pure X 151 [.sl (sys l) .no,.agg (scell s)] (vb (hasY l s)):=by
 refine Pure.run Tryz.func151 ?_
 refine AK.pc (q_indexY l s hl) ?_
 exact AK.rz Tryz.func151 rfl
theorem p_findY (l:List (Int × Int))(s:Int × Int)(hl:l.length≤1000000000):Pure X 133 [.sl (sys l) .no,.agg (scell s)] (vi (idxY 0 l s)):=by
 have hlen:((sys l).length:Int)=l.length:=by simp [sys]
 have hfl:flatTy X.P 152=some [0,0]:=by kernel_rfl
 refine Pure.run Tryz.func133 ?_
 refine AK.while_ (ι:=Nat) 1 0 (fun i=>i≤l.length∧idxY 0 l s=idxY i (l.drop i) s) (fun i=>[(5,vi i),(0,.sl (sys l) .no),(3,.ptr 0 0 0)]) (fun _=>⟨[[scell s]],[]⟩) (fun i=>l.length-i) ?_ 0 ⟨Nat.zero_le _,rfl⟩
  ⟨rfl,rfl,rfl,trivial⟩ rfl rfl rfl rfl rfl (fun _=>inferInstance) (fun _=>inferInstance)
 rintro i ⟨hi,hT⟩ IH
 refine AK.ev 100 rfl ?_
 refine AK.if_ (fun h=>?_) (fun h=>?_)
 ·have hlt:i<l.length:=by have:=of_decide_eq_true h;rw [hlen] at this;omega
  obtain ⟨x,hx⟩:=lget_of_lt l hlt
  have hd:idxY i (l.drop i) s=if (x.1==s.1)&&(x.2==s.2) then (i:Int) else idxY (i+1) (l.drop (i+1)) s:=by rw [drop_cons hx];rfl
  rw [hd] at hT
  refine AK.db 0 ?_
  refine Drv.ig i (by omega) (map_get (f:=scell) hx) ?_
  refine Drv.ru (fun S'=>Ndo.eqs (r:=(x.1==s.1)&&((x.2==s.2)&&true)) rfl rfl rfl rfl rfl hfl rfl (.inl ⟨rfl,rfl⟩)) ?_
  refine Drv.z ?_
  refine AK.if_ (fun g=>?_) (fun g=>?_)
  ·have g':((x.1==s.1)&&(x.2==s.2))=true:=by
    have:((x.1==s.1)&&((x.2==s.2)&&true))=true:=g
    simpa using this
   refine AK.rz Tryz.func133 ?_
   rw [hT,if_pos g']
  ·have g':¬ ((x.1==s.1)&&(x.2==s.2))=true:=by
    have:((x.1==s.1)&&((x.2==s.2)&&true))=false:=g
    rw [Bool.and_true] at this;rw [this];simp
   rw [if_neg g'] at hT
   exact IH (i+1) ⟨hlt,hT⟩ (by omega) _ _ ⟨vint ((wrap_small (by omega) (by omega)).trans (by omega)),rfl,rfl,trivial⟩ rfl rfl rfl
 ·have:i=l.length:=by have:=of_decide_eq_false h;rw [hlen] at this;omega
  refine AK.rz Tryz.func133 ?_
  rw [hT,this,List.drop_length];rfl
def rowY:Nat→List (List (Int × Int))→Int × Int→Int
 | _,[],_=>-1
 | i,x::l,s=>if hasY x s then i else rowY (i+1) l s
theorem p_inY (g:Sg)(hg:SgOk g)(s:Int × Int):Pure X 94 [.agg (sgcell g),.agg (scell s)] (vi (rowY 0 g.tm s)):=by
 have hlen:((syss g.tm).length:Int)=g.tm.length:=by simp [syss]
 have htm:=hg.tm
 refine Pure.run Tryz.func94 ?_
 refine AK.while_ (ι:=Nat) 2 0 (fun i=>i≤g.tm.length∧rowY 0 g.tm s=rowY i (g.tm.drop i) s) (fun i=>[(5,vi i),(2,.ptr 0 0 0),(3,.ptr 1 0 0)]) (fun _=>⟨[[sgcell g],[scell s]],[]⟩) (fun i=>g.tm.length-i) ?_ 0 ⟨Nat.zero_le _,rfl⟩
  ⟨rfl,rfl,rfl,trivial⟩ rfl rfl rfl rfl rfl (fun _=>inferInstance) (fun _=>inferInstance)
 rintro i ⟨hi,hT⟩ IH
 refine AK.ev 100 rfl ?_
 refine AK.if_ (fun h=>?_) (fun h=>?_)
 ·have hlt:i<g.tm.length:=by have:=of_decide_eq_true h;rw [hlen] at this;omega
  obtain ⟨x,hx⟩:=lget_of_lt g.tm hlt
  have hd:rowY i (g.tm.drop i) s=if hasY x s then (i:Int) else rowY (i+1) (g.tm.drop (i+1)) s:=by rw [drop_cons hx];rfl
  rw [hd] at hT
  refine AK.db 0 ?_
  refine Drv.ig i (by omega) (map_get (f:=srow) hx) ?_
  refine Drv.pg (p_findY x s (hg.rows x (List.mem_of_getElem? hx))) ?_
  refine Drv.z ?_
  refine AK.if_ (fun g2=>?_) (fun g2=>?_)
  ·have g':hasY x s=true:=g2
   refine AK.rz Tryz.func94 ?_
   rw [hT,if_pos g']
  ·have g':¬ hasY x s=true:=by have:hasY x s=false:=g2;simp [this]
   rw [if_neg g'] at hT
   exact IH (i+1) ⟨hlt,hT⟩ (by omega) _ _ ⟨vint ((wrap_small (by omega) (by omega)).trans (by omega)),rfl,rfl,trivial⟩ rfl rfl rfl
 ·have:i=g.tm.length:=by have:=of_decide_eq_false h;rw [hlen] at this;omega
  refine AK.rz Tryz.func94 ?_
  rw [hT,this,List.drop_length];rfl
def prevB (p:Option (Int × Int))(s:Int × Int):Bool:=match p with | some q=>lessB q s | none=>true
def rowT (size:Int)(seen:List (Int × Int)):Option (Int × Int)→List (Int × Int)→Bool
 | _,[]=>true
 | p,s::l=>(symOkS size s.1 s.2&&(prevB p s&&!hasY seen s))&&rowT size seen (some s) l
def rowsT (size:Int):List (Int × Int)→List (List (Int × Int))→Bool
 | _,[]=>true
 | seen,x::l=>rowT size seen none x&&(!((x.length:Int)==0)&&(!decide (((seen++x).length:Int) > 40)&&rowsT size (seen++x) l))
def valB (v:Vl):Bool:=((v.lo==1)&&(v.hi==0))||(isV v.lo&&(isV v.hi&&decide (v.lo≤v.hi)))
def segB (size len:Int)(g:Sg):Bool :=
 shapeB size len&&(between g.tm.length 1 16&&(((g.vs.length:Int)==g.tm.length-1)&&(((g.ms.length:Int)==g.tm.length-1)&&(rowsT size [] g.tm&&(hasY (g.tm.getD 0 []) (0,0)&&(hasY (g.tm.getD (g.tm.length-1) []) (len,0)&&g.vs.all valB))))))
def prevO (x:List (Int × Int)):Nat→Option (Int × Int)
 | 0=>none
 | j+1=>x[j]?
theorem rowT_get {size:Int}{seen x:List (Int × Int)}{j:Nat}{s:Int × Int}(h:x[j]?=some s) :
 rowT size seen (prevO x j) (x.drop j)=((symOkS size s.1 s.2&&(prevB (prevO x j) s&&!hasY seen s))&&rowT size seen (prevO x (j+1)) (x.drop (j+1))):=by
 rw [drop_cons h]
 show _=(_&&rowT size seen (x[j]?) _)
 rw [h];rfl
theorem q_ends (len:Int):Pure X 152 [vi len] (.tup [.agg (scell (0,0)),.agg (scell (len,0))]):=by
 refine Pure.run Tryz.func152 ?_
 exact AK.rz Tryz.func152 rfl
abbrev F14 (g:Sg)(size len:Int)(i:Nat)(x seen:List (Int × Int)):Frm:=[(47,vi i),(46,vi g.tm.length),(45,.sl (syss g.tm) .no),(10,.sl (sys x) .no),(8,.sl (sys seen) (.tok 0)),(0,vi size),(1,vi len),(7,vi g.tm.length),(5,.ptr 0 0 0)]
theorem q_segRow (g:Sg)(size len:Int)(hs0:-1000000≤size)(hs1:size≤1000000)(i:Nat)(seen x:List (Int × Int))(hsl:seen.length≤1000000000)(hxl:x.length≤1000000000)(hx:g.tm[i]?=some x)(R:Bool)
 (h:rowT size seen none x=true→AK X ⟨105,Tryz.f105,0,0⟩ (locG false 14 Tryz.f105) (F14 g size len i x seen) ⟨[[sgcell g]],[seen.length]⟩ (fun e S=>e=.ret (vb R)∧S=⟨[],[]⟩))
 (hbad:rowT size seen none x=false→R=false) :
 AK X ⟨105,Tryz.f105,0,0⟩ (locG false 8 Tryz.f105) (F14 g size len i x seen) ⟨[[sgcell g]],[seen.length]⟩ (fun e S=>e=.ret (vb R)∧S=⟨[],[]⟩):=by
 have hlen:((sys x).length:Int)=x.length:=by simp [sys]
 refine AK.at_ ?_
 refine AK.ev 100 rfl ?_
 refine AK.while_ (ι:=Nat) 1 1 (fun j=>j≤x.length∧rowT size seen none x=rowT size seen (prevO x j) (x.drop j)) (fun j=>(53,vi j)::(52,vi x.length)::(51,.sl (sys x) .no)::F14 g size len i x seen) (fun _=>⟨[[sgcell g]],[seen.length]⟩) (fun j=>x.length-j) ?_ 0 ⟨Nat.zero_le _,rfl⟩
  ⟨rfl,vint hlen,rfl,rfl,rfl,rfl,rfl,rfl,rfl,rfl,rfl,rfl,trivial⟩ rfl rfl rfl rfl rfl (fun _=>inferInstance) (fun _=>inferInstance)
 rintro j ⟨hj,hT⟩ IH
 refine AK.ev 100 rfl ?_
 refine AK.ifj 0 14 (fun hh=>?_) (fun hh=>?_)
 ·have hlt:j<x.length:=by have:=of_decide_eq_true hh;omega
  obtain ⟨s,hs⟩:=lget_of_lt x hlt
  rw [rowT_get hs] at hT
  refine AK.ev 100 rfl ?_
  refine AK.ix j (by omega) (map_get (f:=scell) hs) ?_
  have step:(prevB (prevO x j) s&&!hasY seen s)=true→symOkS size s.1 s.2=true→(j+1≤x.length∧rowT size seen none x=rowT size seen (prevO x (j+1)) (x.drop (j+1))):=fun h1 h2=>⟨hlt,by rw [hT,h2,h1];rfl⟩
  refine AK.dn 0 2 ?_
  refine Drv.pc (q_symOk size s.1 s.2 hs0 hs1) ?_
  refine Drv.gon 1 ?_
  cases h2:symOkS size s.1 s.2 with
  | false =>
    rw [h2] at hT
    refine Drv.t true ?_
    refine Drv.gon 13 ?_
    refine Drv.t true ?_
    refine Drv.go ?_
    refine Drv.z ?_
    refine AK.yes ?_
    refine AK.rz Tryz.func105 ?_
    rw [hbad hT]
  | true =>
    refine Drv.t false ?_
    refine Drv.gon 2 ?_
    cases j with
    | zero =>
      have hp:prevB (prevO x 0) s=true:=rfl
      refine Drv.t false ?_
      refine Drv.gon 10 ?_
      refine Drv.t false ?_
      refine Drv.go ?_
      refine Drv.pg (q_hasY seen s hsl) ?_
      refine Drv.z ?_
      refine AK.if_ (fun g3=>?_) (fun g3=>?_)
      ·have g3':hasY seen s=true:=g3
       refine AK.rz Tryz.func105 ?_
       rw [hbad (by rw [hT,g3'];simp)]
      ·have g3':hasY seen s=false:=g3
       exact IH (0+1) (step (by rw [hp,g3'];rfl) h2) (by omega) _ _ ⟨vint ((wrap_small (by omega) (by omega)).trans (by omega)),rfl,rfl,rfl,rfl,rfl,rfl,rfl,rfl,rfl,rfl,rfl,trivial⟩ rfl rfl rfl
    | succ j =>
      obtain ⟨q,hq⟩:=lget_of_lt x (i:=j) (by omega)
      have hp:prevB (prevO x (j+1)) s=lessB q s:=by show prevB (x[j]?) s=_;rw [hq];rfl
      have hw:IntKind.i64.wrap (((j+1:Nat):Int)-1)=j:=(wrap_small (by omega) (by omega)).trans (by omega)
      refine Drv.t true ?_ (hb:=decide_eq_true (by omega))
      refine Drv.go ?_
      refine Drv.ru (fun S'=>Ndo.index rfl rfl rfl rfl rfl rfl rfl rfl rfl (by rw [hw];omega) (by rw [hw];exact map_get (f:=scell) hq)) ?_
      refine Drv.go ?_
      refine Drv.pc (q_less q s) ?_
      refine Drv.gon 3 ?_
      cases h3:lessB q s with
      | false =>
        refine Drv.t true ?_
        refine Drv.go ?_
        refine Drv.z ?_
        refine AK.yes ?_
        refine AK.rz Tryz.func105 ?_
        rw [hbad (by rw [hT,hp,h3];simp)]
      | true =>
        rw [h3] at hp
        refine Drv.t false ?_
        refine Drv.go ?_
        refine Drv.pg (q_hasY seen s hsl) ?_
        refine Drv.z ?_
        refine AK.if_ (fun g3=>?_) (fun g3=>?_)
        ·have g3':hasY seen s=true:=g3
         refine AK.rz Tryz.func105 ?_
         rw [hbad (by rw [hT,g3'];simp)]
        ·have g3':hasY seen s=false:=g3
         exact IH ((j+1)+1) (step (by rw [hp,g3'];rfl) h2) (by omega) _ _ ⟨vint ((wrap_small (by omega) (by omega)).trans (by omega)),rfl,rfl,rfl,rfl,rfl,rfl,rfl,rfl,rfl,rfl,rfl,trivial⟩ rfl rfl rfl
 ·have hje:j=x.length:=by have:=of_decide_eq_false hh;omega
  have ht:rowT size seen none x=true:=by rw [hT,hje,List.drop_length];rfl
  exact AK.back' 1 1 (h ht) ⟨rfl,rfl,rfl,rfl,rfl,rfl,rfl,rfl,rfl,trivial⟩ rfl rfl rfl rfl rfl
def idxV (p:Vl→Bool):Nat→List Vl→Int
 | _,[]=>-1
 | i,x::l=>if p x then i else idxV p (i+1) l
theorem idxV_any (p:Vl→Bool)(l:List Vl):∀ i:Nat,decide (idxV p i l≥0)=l.any p:=by
 induction l with
 | nil=>intro i;simp [idxV]
 | cons x l ih =>
   intro i
   rw [List.any_cons,← ih (i+1)]
   cases h:p x with
   | true=>simp [idxV,h]
   | false=>simp [idxV,h]
theorem q_indexV (l:List Vl)(f:FuncId)(p:Vl→Bool)(hl:l.length≤1000000000)(hp:∀ x,x∈l→Pure X f [.agg (vcell x)] (vb (p x))):Pure X 199 [.sl (vls l) .no,.fn f []] (vi (idxV p 0 l)):=by
 have hlen:((vls l).length:Int)=l.length:=by simp [vls]
 refine Pure.run Tryz.func199 ?_
 refine AK.while_ (ι:=Nat) 0 0 (fun i=>i≤l.length∧idxV p 0 l=idxV p i (l.drop i)) (fun i=>[(8,vi i),(7,vi l.length),(0,.sl (vls l) .no),(1,.fn f [])]) (fun _=>⟨[],[]⟩) (fun i=>l.length-i) ?_ 0 ⟨Nat.zero_le _,rfl⟩
  ⟨rfl,vint hlen,rfl,rfl,trivial⟩ rfl rfl rfl rfl rfl (fun _=>inferInstance) (fun _=>inferInstance)
 intro i hi IH
 refine AK.ev 100 rfl ?_
 refine AK.if_ (fun h=>?_) (fun h=>?_)
 ·have hlt:i<l.length:=by have:=of_decide_eq_true h;omega
  obtain ⟨x,hx⟩:=lget_of_lt l hlt
  have hd:idxV p i (l.drop i)=if p x then (i:Int) else idxV p (i+1) (l.drop (i+1)):=by rw [drop_cons hx];rfl
  refine AK.ix i (by omega) (map_get (f:=vcell) hx) ?_
  refine AK.pc (hp x (List.mem_of_getElem? hx)) ?_
  refine AK.if_ (fun h2=>?_) (fun h2=>?_)
  ·have h3:p x=true:=h2
   refine AK.rz Tryz.func199 ?_
   rw [hi.2,hd,h3];rfl
  ·have h3:p x=false:=h2
   exact IH (i+1) ⟨hlt,by rw [hi.2,hd,h3];rfl⟩ (by omega) _ _ ⟨vint ((wrap_small (by omega) (by omega)).trans (by omega)),rfl,rfl,rfl,trivial⟩ rfl rfl rfl
 ·have:i=l.length:=by have:=of_decide_eq_false h;omega
  refine AK.rz Tryz.func199 ?_
  rw [hi.2,this,List.drop_length];rfl
theorem q_containsV (l:List Vl)(f:FuncId)(p:Vl→Bool)(hl:l.length≤1000000000)(hp:∀ x,x∈l→Pure X f [.agg (vcell x)] (vb (p x))):Pure X 153 [.sl (vls l) .no,.fn f []] (vb (l.any p)):=by
 refine Pure.run Tryz.func153 ?_
 refine AK.pc (q_indexV l f p hl hp) ?_
 refine AK.rz Tryz.func153 ?_
 rw [← idxV_any p l 0]
theorem sys_al (l:List (Int × Int)):allLen 2 (sys l)=true:=allLen_map (f:=scell) (fun _=>rfl) l
theorem sys_ac (l:List (Int × Int)):allCellR (sys l)=true:=allCellR_eq.2 fun r hr x hx=>by
 obtain ⟨e,_,rfl⟩:=List.mem_map.1 hr
 simp at hx
 rcases hx with rfl | rfl<;>rfl
theorem sys_app (a b:List (Int × Int)):sys (a++b)=sys a++sys b:=by simp [sys]
theorem flat_take {l:List (List (Int × Int))}{i:Nat}{x:List (Int × Int)}(h:l[i]?=some x):(l.take (i+1)).flatten=(l.take i).flatten++x:=by
 rw [List.take_add_one,h];simp
theorem q_seg20 (g:Sg)(hg:SgOk g)(size len:Int)(hK:1≤g.tm.length)(hK2:g.tm.length≤16)(hv:∀ v,v∈g.vs→Pure X 155 [.agg (vcell v)] (vb (valB v))) :
 AK X ⟨105,Tryz.f105,0,0⟩ (locG false 20 Tryz.f105) [(0,vi size),(1,vi len),(7,vi g.tm.length),(5,.ptr 0 0 0)] ⟨[[sgcell g]],[]⟩
  (fun e S=>e=.ret (vb (hasY (g.tm.getD 0 []) (0,0)&&(hasY (g.tm.getD (g.tm.length-1) []) (len,0)&&g.vs.all valB)))∧S=⟨[],[]⟩):=by
 obtain ⟨x0,hx0⟩:=lget_of_lt g.tm (i:=0) (by omega)
 obtain ⟨x1,hx1⟩:=lget_of_lt g.tm (i:=g.tm.length-1) (by omega)
 have e0:g.tm.getD 0 []=x0:=by simp [List.getD,hx0]
 have e1:g.tm.getD (g.tm.length-1) []=x1:=by simp [List.getD,hx1]
 have hw:IntKind.i64.wrap ((g.tm.length:Int)-1)=(g.tm.length-1:Nat):=(wrap_small (by omega) (by omega)).trans (by omega)
 have hc:=q_containsV g.vs 154 (fun v=>!valB v) hg.vs (fun v hv1=>by
  refine Pure.run Tryz.func154 ?_
  refine AK.pc (hv v hv1) ?_
  exact AK.rz Tryz.func154 rfl)
 have ha:(!g.vs.any fun v=>!valB v)=g.vs.all valB:=by
  induction g.vs with
  | nil=>rfl
  | cons v l ih=>rw [List.any_cons,List.all_cons,← ih];cases valB v<;>simp
 rw [e0,e1]
 refine AK.at_ ?_
 refine AK.ev 100 rfl ?_
 refine AK.pc (q_ends len) ?_
 refine AK.dn 0 2 ?_
 refine Drv.ru (fun S'=>Ndo.index rfl rfl rfl rfl rfl rfl rfl rfl rfl (by omega) (map_get (f:=srow) hx0)) ?_
 refine Drv.go ?_
 refine Drv.pc (q_hasY x0 (0,0) (hg.rows x0 (List.mem_of_getElem? hx0))) ?_
 cases h0:hasY x0 (0,0) with
 | false =>
   refine Drv.t false ?_
   refine Drv.gon 9 ?_
   refine Drv.t false ?_
   refine Drv.go ?_
   refine Drv.z ?_
   exact AK.rz Tryz.func105 rfl
 | true =>
   refine Drv.t true ?_
   refine Drv.go ?_
   refine Drv.ru (fun S'=>Ndo.index rfl rfl rfl rfl rfl rfl rfl rfl rfl (by rw [hw];omega) (by rw [hw];exact map_get (f:=srow) hx1)) ?_
   refine Drv.go ?_
   refine Drv.pc (q_hasY x1 (len,0) (hg.rows x1 (List.mem_of_getElem? hx1))) ?_
   refine Drv.gon 1 ?_
   cases h1:hasY x1 (len,0) with
   | false =>
     refine Drv.t false ?_
     refine Drv.go ?_
     refine Drv.z ?_
     exact AK.rz Tryz.func105 rfl
   | true =>
     refine Drv.t true ?_
     refine Drv.go ?_
     refine Drv.pg hc ?_
     refine Drv.z ?_
     refine AK.rz Tryz.func105 ?_
     rw [← ha];rfl
theorem q_segOk (g:Sg)(hg:SgOk g)(size len:Int)(hs0:-1000000≤size)(hs1:size≤1000000)(hv:∀ v,v∈g.vs→Pure X 155 [.agg (vcell v)] (vb (valB v))):Pure X 105 [vi size,vi len,.agg (sgcell g)] (vb (segB size len g)):=by
 have l1:((syss g.tm).length:Int)=g.tm.length:=by simp [syss]
 have l2:((vls g.vs).length:Int)=g.vs.length:=by simp [vls]
 have l3:((bls g.ms).length:Int)=g.ms.length:=by simp [bls]
 have htm:=hg.tm
 have hvs:=hg.vs
 have hms:=hg.ms
 have hw:IntKind.i64.wrap ((g.tm.length:Int)-1)=g.tm.length-1:=wrap_small (by omega) (by omega)
 have hb:=q_inRange ((syss g.tm).length:Int) 1 16
 rw [l1] at hb
 unfold segB
 refine Pure.run Tryz.func105 ?_
 refine AK.pc (q_shp size len hs0 hs1) ?_
 cases h1:shapeB size len with
 | false =>
   refine AK.gy ?_
   refine AK.gy ?_
   refine AK.gy ?_
   refine AK.yes ?_
   refine AK.rz Tryz.func105 ?_
   rfl
 | true =>
   refine AK.gn ?_
   refine AK.pc (q_inRange ((syss g.tm).length:Int) 1 16) ?_
   rw [l1]
   cases h2:between (g.tm.length:Int) 1 16 with
   | false =>
     refine AK.gy ?_
     refine AK.gy ?_
     refine AK.yes ?_
     refine AK.rz Tryz.func105 ?_
     rfl
   | true =>
     have h2':=between_iff.1 h2
     refine AK.gn ?_
     refine AK.gd (fun g3=>?_) (fun g3=>?_)
     ·have g3':((g.vs.length:Int)==g.tm.length-1)=false:=by
       have:(((vls g.vs).length:Int) != IntKind.i64.wrap ((g.tm.length:Int)-1))=true:=g3
       rw [l2,hw] at this;simpa using this
      refine AK.yes ?_
      refine AK.rz Tryz.func105 ?_
      rw [g3'];rfl
     have g3':((g.vs.length:Int)==g.tm.length-1)=true:=by
      have:(((vls g.vs).length:Int) != IntKind.i64.wrap ((g.tm.length:Int)-1))=false:=g3
      rw [l2,hw] at this;simpa using this
     rw [g3']
     refine AK.if_ (fun g4=>?_) (fun g4=>?_)
     ·have g4':((g.ms.length:Int)==g.tm.length-1)=false:=by
       have:(((bls g.ms).length:Int) != IntKind.i64.wrap ((g.tm.length:Int)-1))=true:=g4
       rw [l3,hw] at this;simpa using this
      refine AK.rz Tryz.func105 ?_
      rw [g4'];rfl
     have g4':((g.ms.length:Int)==g.tm.length-1)=true:=by
      have:(((bls g.ms).length:Int) != IntKind.i64.wrap ((g.tm.length:Int)-1))=false:=g4
      rw [l3,hw] at this;simpa using this
     rw [g4']
     simp only [Bool.true_and]
     have L20:=q_seg20 g hg size len (by omega) (by omega) hv
     generalize (hasY (g.tm.getD 0 []) (0,0)&&(hasY (g.tm.getD (g.tm.length-1) []) (len,0)&&g.vs.all valB))=G at L20 ⊢
     refine AK.mint (d:=8) rfl rfl rfl ?_
     refine AK.while_ (ι:=Nat) 1 1 (fun i=>i≤g.tm.length∧((g.tm.take i).flatten.length≤40)∧rowsT size [] g.tm=rowsT size (g.tm.take i).flatten (g.tm.drop i)) (fun i=>[(47,vi i),(46,vi g.tm.length),(45,.sl (syss g.tm) .no),(8,.sl (sys (g.tm.take i).flatten) (.tok 0)),(0,vi size),(1,vi len),(7,vi g.tm.length),(5,.ptr 0 0 0)])
      (fun i=>⟨[[sgcell g]],[(g.tm.take i).flatten.length]⟩) (fun i=>g.tm.length-i) ?_ 0 ⟨Nat.zero_le _,by simp,rfl⟩ ⟨rfl,vint l1,rfl,rfl,rfl,rfl,rfl,rfl,trivial⟩ rfl rfl rfl rfl rfl (fun _=>inferInstance) (fun _=>inferInstance)
     rintro i ⟨hi,hse,hT⟩ IH
     refine AK.ev 100 rfl ?_
     refine AK.ifj 0 20 (fun h=>?_) (fun h=>?_)
     ·have hlt:i<g.tm.length:=by have:=of_decide_eq_true h;omega
      obtain ⟨x,hx⟩:=lget_of_lt g.tm hlt
      have hft:=flat_take hx
      rw [drop_cons hx] at hT
      simp only [rowsT] at hT
      have hxl:=hg.rows x (List.mem_of_getElem? hx)
      have lx:((sys x).length:Int)=x.length:=by simp [sys]
      generalize hse2:(g.tm.take i).flatten=seen at hse hT hft ⊢
      have L14:rowT size seen none x=true→AK X ⟨105,Tryz.f105,0,0⟩ (locG false 14 Tryz.f105) (F14 g size len i x seen) ⟨[[sgcell g]],[seen.length]⟩ (fun e S=>e=.ret (vb (rowsT size [] g.tm&&G))∧S=⟨[],[]⟩):=fun hrow=>by
       rw [hrow] at hT
       refine AK.at_ ?_
       refine AK.ev 100 rfl ?_
       refine AK.if_ (fun g5=>?_) (fun g5=>?_)
       ·have g5':((x.length:Int)==0)=true:=by have:(((sys x).length:Int)==0)=true:=g5;rwa [lx] at this
        refine AK.rz Tryz.func105 ?_
        rw [hT,g5'];rfl
       have g5':((x.length:Int)==0)=false:=by have:(((sys x).length:Int)==0)=false:=g5;rwa [lx] at this
       have hx0:1≤(sys x).length:=by have:(x.length:Int)≠0:=by simpa using g5'
                                     omega
       refine AK.op (Ndo.append (res:=sys (seen++x)) rfl rfl rfl rfl rfl rfl rfl rfl rfl rfl rfl rfl rfl rfl (by simp [sys]) (sys_al _) (sys_al _) (sys_ac x) (Nat.ble_eq_true_of_le hx0) ?_ ?_ rfl) ?_
       ·simp only [sys,List.length_map];omega
       ·rw [sys_app]
       refine AK.sto ⟨[[sgcell g]],[(seen++x).length]⟩ ?_ (by simp [sys])
       refine AK.if_ (fun g6=>?_) (fun g6=>?_)
       ·have g6':decide (((seen++x).length:Int) > 40)=true:=by have:decide (((sys (seen++x)).length:Int) > 40)=true:=g6;simpa [sys] using this
        refine AK.rz Tryz.func105 ?_
        rw [hT,g5',g6'];rfl
       have g6':decide (((seen++x).length:Int) > 40)=false:=by have:decide (((sys (seen++x)).length:Int) > 40)=false:=g6;simpa [sys] using this
       have g7:¬ (((seen++x).length:Int) > 40):=of_decide_eq_false g6'
       refine IH (i+1) ⟨hlt,by rw [hft];omega,by rw [hft,hT,g5',g6'];rfl⟩ (by omega) _ _ ⟨vint ((wrap_small (by omega) (by omega)).trans (by omega)),rfl,rfl,?_,rfl,rfl,rfl,rfl,trivial⟩ ?_ rfl rfl
       ·rw [hft];rfl
       ·rw [hft];rfl
      refine AK.ev 100 rfl ?_
      refine AK.opj 8 (Ndo.index rfl rfl rfl rfl rfl rfl rfl rfl rfl (by omega) (map_get (f:=srow) hx)) ?_
      refine AK.back' 1 1 (q_segRow g size len hs0 hs1 i seen x (by omega) hxl hx _ L14 (fun hb2=>by rw [hT,hb2];rfl)) ⟨rfl,rfl,rfl,rfl,rfl,rfl,rfl,rfl,rfl,trivial⟩ rfl rfl rfl rfl rfl
     ·have hie:i=g.tm.length:=by have:=of_decide_eq_false h;omega
      subst hie
      have ht:rowsT size [] g.tm=true:=by rw [hT,List.drop_length];rfl
      rw [ht,Bool.true_and]
      exact AK.back' 1 0 L20 ⟨rfl,rfl,rfl,rfl,trivial⟩ rfl rfl rfl rfl rfl
def eqY (s x:Int × Int):Bool:=(x.1==s.1)&&(x.2==s.2)
theorem idxY_any (s:Int × Int)(l:List (Int × Int)):∀ i:Nat,decide (idxY i l s≥0)=l.any (eqY s):=by
 induction l with
 | nil=>intro i;simp [idxY]
 | cons x l ih =>
   intro i
   rw [List.any_cons,← ih (i+1)]
   have e0:idxY i (x::l) s=if eqY s x=true then (i:Int) else idxY (i+1) l s:=rfl
   cases h:eqY s x with
   | true =>
     rw [h,if_pos rfl] at e0
     simp [e0]
   | false =>
     rw [h,if_neg (by simp)] at e0
     simp [e0]
theorem hasY_any (l:List (Int × Int))(s:Int × Int):hasY l s=l.any (eqY s):=idxY_any s l 0
theorem hasY_app (a b:List (Int × Int))(s:Int × Int):hasY (a++b) s=(hasY a s||hasY b s):=by simp only [hasY_any,List.any_append]
theorem eqY_self (s:Int × Int):eqY s s=true:=by simp [eqY]
theorem eqY_eq {s x:Int × Int}(h:eqY s x=true):x=s:=by
 simp only [eqY,Bool.and_eq_true,beq_iff_eq] at h
 exact Prod.ext h.1 h.2
theorem hasY_mem {l:List (Int × Int)}{s:Int × Int}(h:s∈l):hasY l s=true:=by
 rw [hasY_any,List.any_eq_true];exact ⟨s,h,eqY_self s⟩
theorem mem_hasY {l:List (Int × Int)}{s:Int × Int}(h:hasY l s=true):s∈l:=by
 rw [hasY_any,List.any_eq_true] at h
 obtain ⟨x,hx,he⟩:=h
 rw [← eqY_eq he];exact hx
theorem rowY_ge (s:Int × Int)(l:List (List (Int × Int))):∀ k:Nat,rowY k l s=-1∨rowY k l s≥k:=by
 induction l with
 | nil=>intro k;exact .inl rfl
 | cons x l ih =>
   intro k
   simp only [rowY]
   split
   ·exact .inr (Int.le_refl _)
   ·rcases ih (k+1) with h | h
    ·exact .inl h
    ·exact .inr (by omega)
theorem rowY_is {s:Int × Int}:∀ (tm:List (List (Int × Int)))(k i:Nat)(x:List (Int × Int)),tm[i]?=some x→hasY x s=true→(rowY k tm s != ((k+i:Nat):Int))=hasY (tm.take i).flatten s
 | [],k,i,x,h,_=>by simp at h
 | y::l,k,0,x,h,hs=>by
   simp at h;subst h
   simp only [rowY,hs,if_true,List.take_zero,List.flatten_nil,Nat.add_zero]
   simp;rfl
 | y::l,k,i+1,x,h,hs=>by
   have h':l[i]?=some x:=by simpa using h
   simp only [rowY,List.take_succ_cons,List.flatten_cons]
   rw [hasY_app]
   cases hy:hasY y s with
   | true =>
     rw [if_pos rfl,Bool.true_or]
     simp;omega
   | false =>
     rw [if_neg (by simp),Bool.false_or,← rowY_is l (k+1) i x h' hs]
     congr 1
     omega
theorem rowT_fresh {size:Int}{seen:List (Int × Int)}:∀ (l:List (Int × Int))(p:Option (Int × Int)),rowT size seen p l=true→∀ s,s∈l→hasY seen s=false
 | [],_,_=>fun s hs=>by cases hs
 | y::l,p,h=>fun s hs=>by
   simp only [rowT,Bool.and_eq_true,Bool.not_eq_true'] at h
   rcases List.mem_cons.1 hs with rfl | hs
   ·exact h.1.2.2
   ·exact rowT_fresh l _ h.2 s hs
theorem rowsT_fresh {size:Int}:∀ (tm:List (List (Int × Int)))(seen:List (Int × Int)),rowsT size seen tm=true→∀ (i:Nat)(x:List (Int × Int))(s:Int × Int),tm[i]?=some x→hasY x s=true→hasY (seen++(tm.take i).flatten) s=false
 | [],_,_=>fun i x s h=>by simp at h
 | y::l,seen,hT=>fun i x s h hs=>by
   simp only [rowsT,Bool.and_eq_true] at hT
   cases i with
   | zero =>
     simp at h;subst h
     simpa using rowT_fresh _ _ hT.1 s (mem_hasY hs)
   | succ i =>
     have h':l[i]?=some x:=by simpa using h
     have:=rowsT_fresh l (seen++y) hT.2.2.2 i x s h' hs
     simpa [List.append_assoc] using this
theorem rowY_at {size:Int}{tm:List (List (Int × Int))}(hT:rowsT size [] tm=true){i:Nat}{x:List (Int × Int)}(hx:tm[i]?=some x)(s:Int × Int):(rowY 0 tm s==(i:Int))=hasY x s:=by
 cases hs:hasY x s with
 | true =>
   have h1:=rowsT_fresh tm [] hT i x s hx hs
   have h2:=rowY_is tm 0 i x hx hs
   rw [List.nil_append] at h1
   rw [h1,Nat.zero_add] at h2
   simpa using h2
 | false =>
   have key:∀ (tm:List (List (Int × Int))) (k i:Nat),tm[i]?=some x→(rowY k tm s==((k+i:Nat):Int))=false:=by
    intro tm
    induction tm with
    | nil=>intro k i h;simp at h
    | cons y l ih =>
      intro k i h
      cases i with
      | zero =>
        simp at h;subst h
        simp only [rowY,hs]
        rcases rowY_ge s l (k+1) with h | h<;>simp<;>omega
      | succ i =>
        have h':l[i]?=some x:=by simpa using h
        simp only [rowY]
        split
        ·simp;omega
        ·have:=ih (k+1) i h'
         rw [← this];congr 1;omega
   have:=key tm 0 i hx
   simpa using this
abbrev G0 (g:Sg)(size len:Int):Frm:=[(0,vi size),(1,vi len),(7,vi g.tm.length),(5,.ptr 0 0 0)]
theorem p_seg17 (g:Sg)(hg:SgOk g)(size len:Int)(hT:rowsT size [] g.tm=true)(hK:1≤g.tm.length)(hK2:g.tm.length≤16)(hvl:g.vs.length=g.tm.length-1)(hv:∀ v,v∈g.vs→Pure X 95 [.agg (vcell v)] (vb (valB v))) :
 AK X ⟨57,Tryz.f57,0,0⟩ (locG false 17 Tryz.f57) (G0 g size len) ⟨[[sgcell g]],[]⟩
  (fun e S=>e=.ret (vb (hasY (g.tm.getD 0 []) (0,0)&&(hasY (g.tm.getD (g.tm.length-1) []) (len,0)&&g.vs.all valB)))∧S=⟨[],[]⟩):=by
 obtain ⟨x0,hx0⟩:=lget_of_lt g.tm (i:=0) (by omega)
 obtain ⟨x1,hx1⟩:=lget_of_lt g.tm (i:=g.tm.length-1) (by omega)
 have e0:g.tm.getD 0 []=x0:=by simp [List.getD,hx0]
 have e1:g.tm.getD (g.tm.length-1) []=x1:=by simp [List.getD,hx1]
 have hw:IntKind.i64.wrap ((g.tm.length:Int)-1)=(g.tm.length-1:Nat):=(wrap_small (by omega) (by omega)).trans (by omega)
 have r0:=rowY_at hT hx0 (0,0)
 have r1:=rowY_at hT hx1 (len,0)
 rw [e0,e1]
 refine AK.at_ ?_
 refine AK.ev 100 rfl ?_
 refine AK.while_ (ι:=Nat) 1 0 (fun i=>i≤g.vs.length∧g.vs.all valB=(g.vs.drop i).all valB) (fun i=>(12,vi i)::G0 g size len) (fun _=>⟨[[sgcell g]],[]⟩) (fun i=>g.vs.length-i) ?_ 0 ⟨Nat.zero_le _,rfl⟩
  ⟨rfl,rfl,rfl,rfl,rfl,trivial⟩ rfl rfl rfl rfl rfl (fun _=>inferInstance) (fun _=>inferInstance)
 rintro i ⟨hi,hU⟩ IH
 refine AK.ev 100 rfl ?_
 refine AK.if_ (fun h=>?_) (fun h=>?_)
 ·have hlt:i<g.vs.length:=by have:=of_decide_eq_true h;rw [hw] at this;omega
  obtain ⟨v,hv1⟩:=lget_of_lt g.vs hlt
  rw [drop_cons hv1,List.all_cons] at hU
  refine AK.ix i (by omega) (map_get (f:=vcell) hv1) ?_
  refine AK.pc (hv v (List.mem_of_getElem? hv1)) ?_
  refine AK.if_ (fun g2=>?_) (fun g2=>?_)
  ·have g':valB v=false:=by simpa using (show (!valB v)=true from g2)
   refine AK.rz Tryz.func57 ?_
   rw [hU,g'];simp
  ·have g':valB v=true:=by simpa using (show (!valB v)=false from g2)
   exact IH (i+1) ⟨hlt,by rw [hU,g'];rfl⟩ (by omega) _ _ ⟨vint ((wrap_small (by omega) (by omega)).trans (by omega)),rfl,rfl,rfl,rfl,trivial⟩ rfl rfl rfl
 ·have hie:i=g.vs.length:=by have:=of_decide_eq_false h;rw [hw] at this;omega
  have ha:g.vs.all valB=true:=by rw [hU,hie,List.drop_length];rfl
  rw [ha,Bool.and_true]
  refine AK.pc (p_inY g hg (0,0)) ?_
  refine AK.gd (fun g2=>?_) (fun g2=>?_)
  ·have g':hasY x0 (0,0)=true:=by rw [← r0];exact g2
   refine AK.pc (p_inY g hg (len,0)) ?_
   refine AK.rz Tryz.func57 ?_
   rw [hw,g',← r1];rfl
  ·have g':hasY x0 (0,0)=false:=by rw [← r0];exact g2
   refine AK.rz Tryz.func57 ?_
   rw [g'];rfl
theorem p_segRow (g:Sg)(hg:SgOk g)(size len:Int)(hs0:-1000000≤size)(hs1:size≤1000000)(i:Nat)(seen x:List (Int × Int))(cn:Nat)(hse:(g.tm.take i).flatten=seen)(hx:g.tm[i]?=some x)(R:Bool)
 (h:rowT size seen none x=true→AK X ⟨57,Tryz.f57,0,0⟩ (locG false 7 Tryz.f57) ((9,vi i)::(8,vi cn)::G0 g size len) ⟨[[sgcell g]],[]⟩ (fun e S=>e=.ret (vb R)∧S=⟨[],[]⟩))
 (hbad:rowT size seen none x=false→R=false) :
 AK X ⟨57,Tryz.f57,0,0⟩ (locG false 12 Tryz.f57) ((9,vi i)::(10,.sl (sys x) .no)::(8,vi cn)::G0 g size len) ⟨[[sgcell g]],[]⟩ (fun e S=>e=.ret (vb R)∧S=⟨[],[]⟩):=by
 have hlen:((sys x).length:Int)=x.length:=by simp [sys]
 have hxl:=hg.rows x (List.mem_of_getElem? hx)
 refine AK.at_ ?_
 refine AK.ev 100 rfl ?_
 refine AK.while_ (ι:=Nat) 1 0 (fun j=>j≤x.length∧rowT size seen none x=rowT size seen (prevO x j) (x.drop j)) (fun j=>(11,vi j)::(9,vi i)::(10,.sl (sys x) .no)::(8,vi cn)::G0 g size len) (fun _=>⟨[[sgcell g]],[]⟩) (fun j=>x.length-j) ?_ 0 ⟨Nat.zero_le _,rfl⟩
  ⟨rfl,rfl,rfl,rfl,rfl,rfl,rfl,rfl,trivial⟩ rfl rfl rfl rfl rfl (fun _=>inferInstance) (fun _=>inferInstance)
 rintro j ⟨hj,hT⟩ IH
 refine AK.ev 100 rfl ?_
 refine AK.ifj 0 7 (fun hh=>?_) (fun hh=>?_)
 ·have hlt:j<x.length:=by have:=of_decide_eq_true hh;omega
  obtain ⟨s,hs⟩:=lget_of_lt x hlt
  rw [rowT_get hs] at hT
  have hrow:(rowY 0 g.tm s != (i:Int))=hasY seen s:=by
   have:=rowY_is g.tm 0 i x hx (hasY_mem (List.mem_of_getElem? hs))
   rw [hse,Nat.zero_add] at this;exact this
  have step:(prevB (prevO x j) s&&!hasY seen s)=true→symOkS size s.1 s.2=true→(j+1≤x.length∧rowT size seen none x=rowT size seen (prevO x (j+1)) (x.drop (j+1))):=fun h1 h2=>⟨hlt,by rw [hT,h2,h1];rfl⟩
  refine AK.ev 100 rfl ?_
  refine AK.dn 0 3 ?_
  refine Drv.ru (fun S'=>Ndo.index rfl rfl rfl rfl rfl rfl rfl rfl rfl (by omega) (map_get (f:=scell) hs)) ?_
  refine Drv.gon 1 ?_
  refine Drv.pc (p_symOk size s.1 s.2 hs0 hs1) ?_
  refine Drv.gon 1 ?_
  cases h2:symOkS size s.1 s.2 with
  | false =>
    rw [h2] at hT
    refine Drv.t true ?_
    refine Drv.gon 16 ?_
    refine Drv.t true ?_
    refine Drv.go ?_
    refine Drv.z ?_
    refine AK.yes ?_
    refine AK.rz Tryz.func57 ?_
    rw [hbad hT]
  | true =>
    refine Drv.t false ?_
    refine Drv.gon 2 ?_
    cases j with
    | zero =>
      have hp:prevB (prevO x 0) s=true:=rfl
      refine Drv.t false ?_
      refine Drv.gon 13 ?_
      refine Drv.t false ?_
      refine Drv.go ?_
      refine Drv.ru (fun S'=>Ndo.index rfl rfl rfl rfl rfl rfl rfl rfl rfl (by omega) (map_get (f:=scell) hs)) ?_
      refine Drv.go ?_
      refine Drv.pg (p_inY g hg s) ?_
      refine Drv.z ?_
      refine AK.if_ (fun g3=>?_) (fun g3=>?_)
      ·have g3':hasY seen s=true:=by rw [← hrow];exact g3
       refine AK.rz Tryz.func57 ?_
       rw [hbad (by rw [hT,g3'];simp)]
      ·have g3':hasY seen s=false:=by rw [← hrow];exact g3
       exact IH (0+1) (step (by rw [hp,g3'];rfl) h2) (by omega) _ _ ⟨vint ((wrap_small (by omega) (by omega)).trans (by omega)),rfl,rfl,rfl,rfl,rfl,rfl,rfl,trivial⟩ rfl rfl rfl
    | succ j =>
      obtain ⟨q,hq⟩:=lget_of_lt x (i:=j) (by omega)
      have hp:prevB (prevO x (j+1)) s=lessB q s:=by show prevB (x[j]?) s=_;rw [hq];rfl
      have hw:IntKind.i64.wrap (((j+1:Nat):Int)-1)=j:=(wrap_small (by omega) (by omega)).trans (by omega)
      refine Drv.t true ?_ (hb:=decide_eq_true (by omega))
      refine Drv.go ?_
      refine Drv.ru (fun S'=>Ndo.index rfl rfl rfl rfl rfl rfl rfl rfl rfl (by rw [hw];omega) (by rw [hw];exact map_get (f:=scell) hq)) ?_
      refine Drv.go ?_
      refine Drv.ru (fun S'=>Ndo.index rfl rfl rfl rfl rfl rfl rfl rfl rfl (by omega) (map_get (f:=scell) hs)) ?_
      refine Drv.go ?_
      refine Drv.pc (p_less q s) ?_
      refine Drv.gon 3 ?_
      cases h3:lessB q s with
      | false =>
        refine Drv.t true ?_
        refine Drv.go ?_
        refine Drv.z ?_
        refine AK.yes ?_
        refine AK.rz Tryz.func57 ?_
        rw [hbad (by rw [hT,hp,h3];simp)]
      | true =>
        rw [h3] at hp
        refine Drv.t false ?_
        refine Drv.go ?_
        refine Drv.ru (fun S'=>Ndo.index rfl rfl rfl rfl rfl rfl rfl rfl rfl (by omega) (map_get (f:=scell) hs)) ?_
        refine Drv.go ?_
        refine Drv.pg (p_inY g hg s) ?_
        refine Drv.z ?_
        refine AK.if_ (fun g3=>?_) (fun g3=>?_)
        ·have g3':hasY seen s=true:=by rw [← hrow];exact g3
         refine AK.rz Tryz.func57 ?_
         rw [hbad (by rw [hT,g3'];simp)]
        ·have g3':hasY seen s=false:=by rw [← hrow];exact g3
         exact IH ((j+1)+1) (step (by rw [hp,g3'];rfl) h2) (by omega) _ _ ⟨vint ((wrap_small (by omega) (by omega)).trans (by omega)),rfl,rfl,rfl,rfl,rfl,rfl,rfl,trivial⟩ rfl rfl rfl
 ·have hje:j=x.length:=by have:=of_decide_eq_false hh;omega
  have ht:rowT size seen none x=true:=by rw [hT,hje,List.drop_length];rfl
  exact AK.back' 1 0 (h ht) ⟨rfl,rfl,rfl,rfl,rfl,rfl,trivial⟩ rfl rfl rfl rfl rfl
theorem p_segOk (g:Sg)(hg:SgOk g)(size len:Int)(hs0:-1000000≤size)(hs1:size≤1000000)(hv:∀ v,v∈g.vs→Pure X 95 [.agg (vcell v)] (vb (valB v))):Pure X 57 [vi size,vi len,.agg (sgcell g)] (vb (segB size len g)):=by
 have l1:((syss g.tm).length:Int)=g.tm.length:=by simp [syss]
 have l2:((vls g.vs).length:Int)=g.vs.length:=by simp [vls]
 have l3:((bls g.ms).length:Int)=g.ms.length:=by simp [bls]
 have htm:=hg.tm
 have hvs:=hg.vs
 have hms:=hg.ms
 have hw:IntKind.i64.wrap (((syss g.tm).length:Int)-1)=g.tm.length-1:=by rw [l1];exact wrap_small (by omega) (by omega)
 unfold segB
 refine Pure.run Tryz.func57 ?_
 refine AK.pc (p_shp size len hs0 hs1) ?_
 cases h1:shapeB size len with
 | false =>
   refine AK.gy ?_
   refine AK.gy ?_
   refine AK.gy ?_
   refine AK.gy ?_
   refine AK.yes ?_
   refine AK.rz Tryz.func57 ?_
   rfl
 | true =>
   refine AK.gn ?_
   refine AK.gd (fun a1=>?_) (fun a1=>?_)
   ·have a1':((syss g.tm).length:Int)<1:=of_decide_eq_true a1
    have h2:between (g.tm.length:Int) 1 16=false:=by
     cases h:between (g.tm.length:Int) 1 16 with
     | false=>rfl
     | true=>have:=between_iff.1 h;omega
    refine AK.gy ?_
    refine AK.gy ?_
    refine AK.yes ?_
    refine AK.rz Tryz.func57 ?_
    rw [h2];rfl
   have a1':¬ ((syss g.tm).length:Int)<1:=of_decide_eq_false a1
   refine AK.gd (fun a2=>?_) (fun a2=>?_)
   ·have a2':((syss g.tm).length:Int) > 16:=of_decide_eq_true a2
    have h2:between (g.tm.length:Int) 1 16=false:=by
     cases h:between (g.tm.length:Int) 1 16 with
     | false=>rfl
     | true=>have:=between_iff.1 h;omega
    refine AK.gy ?_
    refine AK.yes ?_
    refine AK.rz Tryz.func57 ?_
    rw [h2];rfl
   have a2':¬ ((syss g.tm).length:Int) > 16:=of_decide_eq_false a2
   have h2:between (g.tm.length:Int) 1 16=true:=between_iff.2 (by omega)
   rw [h2]
   refine AK.gd (fun g3=>?_) (fun g3=>?_)
   ·have g3':((g.vs.length:Int)==g.tm.length-1)=false:=by
     have:(((vls g.vs).length:Int) != IntKind.i64.wrap (((syss g.tm).length:Int)-1))=true:=g3
     rw [l2,hw] at this;simpa using this
    refine AK.yes ?_
    refine AK.rz Tryz.func57 ?_
    rw [g3'];rfl
   have g3':((g.vs.length:Int)==g.tm.length-1)=true:=by
    have:(((vls g.vs).length:Int) != IntKind.i64.wrap (((syss g.tm).length:Int)-1))=false:=g3
    rw [l2,hw] at this;simpa using this
   have g3q:(g.vs.length:Int)=g.tm.length-1:=by simpa using g3'
   rw [g3']
   refine AK.if_ (fun g4=>?_) (fun g4=>?_)
   ·have g4':((g.ms.length:Int)==g.tm.length-1)=false:=by
     have:(((bls g.ms).length:Int) != IntKind.i64.wrap (((syss g.tm).length:Int)-1))=true:=g4
     rw [l3,hw] at this;simpa using this
    refine AK.rz Tryz.func57 ?_
    rw [g4'];rfl
   have g4':((g.ms.length:Int)==g.tm.length-1)=true:=by
    have:(((bls g.ms).length:Int) != IntKind.i64.wrap (((syss g.tm).length:Int)-1))=false:=g4
    rw [l3,hw] at this;simpa using this
   rw [g4']
   simp only [Bool.true_and]
   have L17:=fun hT=>p_seg17 g hg size len hT (by omega) (by omega) (by omega) hv
   generalize (hasY (g.tm.getD 0 []) (0,0)&&(hasY (g.tm.getD (g.tm.length-1) []) (len,0)&&g.vs.all valB))=G at L17 ⊢
   refine AK.while_ (ι:=Nat) 1 0 (fun i=>i≤g.tm.length∧((g.tm.take i).flatten.length≤40)∧rowsT size [] g.tm=rowsT size (g.tm.take i).flatten (g.tm.drop i)) (fun i=>(9,vi i)::(8,vi (g.tm.take i).flatten.length)::G0 g size len)
    (fun i=>⟨[[sgcell g]],[]⟩) (fun i=>g.tm.length-i) ?_ 0 ⟨Nat.zero_le _,by simp,rfl⟩ ⟨rfl,rfl,rfl,rfl,vint l1,rfl,trivial⟩ rfl rfl rfl rfl rfl (fun _=>inferInstance) (fun _=>inferInstance)
   rintro i ⟨hi,hse,hT⟩ IH
   refine AK.ev 100 rfl ?_
   refine AK.ifj 0 17 (fun h=>?_) (fun h=>?_)
   ·have hlt:i<g.tm.length:=by have:=of_decide_eq_true h;omega
    obtain ⟨x,hx⟩:=lget_of_lt g.tm hlt
    have hft:=flat_take hx
    rw [drop_cons hx] at hT
    simp only [rowsT] at hT
    have hxl:=hg.rows x (List.mem_of_getElem? hx)
    have lx:((sys x).length:Int)=x.length:=by simp [sys]
    generalize hse2:(g.tm.take i).flatten=seen at hse hT hft ⊢
    have hcn:IntKind.i64.wrap ((seen.length:Int)+(sys x).length)=((seen++x).length:Nat):=by rw [List.length_append,lx];exact (wrap_small (by omega) (by omega)).trans (by omega)
    refine AK.ev 100 rfl ?_
    refine AK.ix i (by omega) (map_get (f:=srow) hx) ?_
    refine AK.as_ 8 (vi ((seen++x).length:Nat)) ?_ (vint hcn)
    refine AK.gd (fun g5=>?_) (fun g5=>?_)
    ·have g5':((x.length:Int)==0)=true:=by have:(((sys x).length:Int)==0)=true:=g5;rwa [lx] at this
     refine AK.yes ?_
     refine AK.rz Tryz.func57 ?_
     rw [hT,g5'];simp
    have g5':((x.length:Int)==0)=false:=by have:(((sys x).length:Int)==0)=false:=g5;rwa [lx] at this
    refine AK.ifj 0 12 (fun g6=>?_) (fun g6=>?_)
    ·have g6':decide (((seen++x).length:Int) > 40)=true:=g6
     refine AK.ev 100 rfl ?_
     refine AK.rz Tryz.func57 ?_
     rw [hT,g6'];simp
    have g6':decide (((seen++x).length:Int) > 40)=false:=g6
    have g7:¬ (((seen++x).length:Int) > 40):=of_decide_eq_false g6'
    refine AK.back' 1 0 (p_segRow g hg size len hs0 hs1 i seen x (seen++x).length hse2 hx _ (fun hrow=>?_) (fun hb2=>by rw [hT,hb2];rfl)) ⟨rfl,rfl,rfl,rfl,rfl,rfl,rfl,trivial⟩ rfl rfl rfl rfl rfl
    rw [hrow] at hT
    refine AK.at_ ?_
    refine AK.ev 100 rfl ?_
    refine IH (i+1) ⟨hlt,by rw [hft];omega,by rw [hft,hT,g5',g6'];rfl⟩ (by omega) _ _ ⟨vint ((wrap_small (by omega) (by omega)).trans (by omega)),?_,rfl,rfl,rfl,rfl,trivial⟩ rfl rfl rfl
    rw [hft];rfl
   ·have hie:i=g.tm.length:=by have:=of_decide_eq_false h;omega
    subst hie
    have ht:rowsT size [] g.tm=true:=by rw [hT,List.drop_length];rfl
    rw [ht,Bool.true_and]
    exact AK.back' 1 0 (L17 ht) ⟨rfl,rfl,rfl,rfl,trivial⟩ rfl rfl rfl rfl rfl
end Go.V
