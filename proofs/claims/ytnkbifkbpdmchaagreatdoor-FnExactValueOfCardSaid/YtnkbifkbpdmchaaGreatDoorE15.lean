/- A part of the proof of the claim that the last text states: no condition of its own. -/
import Derived.Test.YtnkbifkbpdmchaaGreatDoorE14
import Derived.Carry
import Derived.ChangeArms
import Derived.ChangeVars
import Derived.Deep.DeepHandedRow
import Derived.Lib.LaidTab
import Derived.Lib.LaidU8
import Derived.OpenShut
import Derived.ProofKit
import Derived.Test.YtnkbifkbpdmchaaGreatDoorCards
import Derived.Test.YtnkbifkbpdmchaaGreatDoorTie
import Derived.WalkKit
set_option linter.unusedVariables false
set_option linter.unusedSimpArgs false
namespace Go.V
open Go Go.Proofs
def E0:Env:=⟨[],[],fun _ _=>False,[]⟩
theorem E0_mt (b o:Nat):¬ E0.mt b o:=by
 rintro (h | ⟨i,sz,h⟩ | ⟨t,l,c,sz,h,_⟩)
 ·exact h
 ·simp [E0] at h
 ·simp [E0] at h
theorem list4 {α:Type}{l:List α}(h:l.length=4):∃ a b c d,l=[a,b,c,d]:=by
 rcases l with _ | ⟨a,_ | ⟨b,_ | ⟨c,_ | ⟨d,_ | ⟨e,l⟩⟩⟩⟩⟩<;>simp at h
 exact ⟨a,b,c,d,rfl⟩
def RelL (w:World)(cs:List Value)(l:List AV):Prop:=cs.length=l.length∧∀ (j:Nat)(v:Value)(x:AV),cs[j]?=some v→l[j]?=some x→Rel E0 w v x
theorem RelL.one {w:World}{v:Value}{x:AV}(h:Rel E0 w v x):RelL w [v] [x]:=⟨rfl,fun j v' x' h1 h2=>by
 cases j with
 | zero=>simp at h1 h2;subst h1;subst h2;exact h
 | succ j=>simp at h1⟩
theorem RelL.get1 {w:World}{v:Value}{x:AV}(h:RelL w [v] [x]):Rel E0 w v x:=h.2 0 v x rfl rfl
theorem RelL.nil {w:World}:RelL w [] []:=⟨rfl,fun j v x h=>by simp at h⟩
theorem RelL.cons {w:World}{v:Value}{x:AV}{cs:List Value}{l:List AV}(h:Rel E0 w v x)(t:RelL w cs l):RelL w (v::cs) (x::l) :=
 ⟨by simp [t.1],fun j v' x' h1 h2=>by
   cases j with
   | zero=>simp at h1 h2;subst h1;subst h2;exact h
   | succ j=>exact t.2 j v' x' (by simpa using h1) (by simpa using h2)⟩
theorem RelL.agg {w:World}{cs:Array Value}{l:List AV}(h:RelL w cs.toList l):Rel E0 w (.agg cs) (.agg l):=.agg cs l (by simpa using h.1) (fun j v x h1 h2=>h.2 j v x (by simpa using h1) h2)
theorem list_of {α:Type}{Q:Nat→α→Prop}:∀ n:Nat,(∀ i,i<n→∃ x,Q i x)→∃ l:List α,l.length=n∧∀ i x,l[i]?=some x→Q i x
 | 0,_=>⟨[],rfl,fun i x h=>by simp at h⟩
 | n+1,h=>by
   obtain ⟨l,hl,hq⟩:=list_of n (fun i hi=>h i (by omega))
   obtain ⟨x,hx⟩:=h n (by omega)
   refine ⟨l++[x],by simp [hl],fun i y hy=>?_⟩
   rcases Nat.lt_or_ge i n with hi | hi
   ·rw [List.getElem?_append_left (by omega)] at hy;exact hq i y hy
   ·rw [List.getElem?_append_right (by omega)] at hy
    have:i=n:=by
     have:=lt_of_get hy
     simp at this;omega
    subst this
    simp [hl] at hy;subst hy;exact hx
section
variable {H:Type}{enc:TypeId × Value→H}{P:Program}{w:World}{sp:Nat→Bool}{held:Bool}
theorem cells_get {a:Addr}{n:Nat}{cs:List Value}(h:w.cells? 0 a n=some cs):cs.length=n∧∀ (j:Nat)(v:Value),cs[j]?=some v→w.cell? (a.add j)=some v:=by
 unfold World.cells? at h
 rw [if_pos (Nat.zero_le _)] at h
 have key:∀ (l:List Nat) (cs:List Value),(l.mapM fun i=>w.cell? (a.add i))=some cs→cs.length=l.length∧∀ (j:Nat) (v:Value),cs[j]?=some v→∃ k:Nat,l[j]?=some k∧w.cell? (a.add k)=some v:=by
  intro l
  induction l with
  | nil=>intro cs h;simp at h;subst h;exact ⟨rfl,fun j v h=>by simp at h⟩
  | cons k l ih =>
    intro cs h
    simp only [List.mapM_cons,Option.bind_eq_bind,Option.bind_eq_some_iff,Option.pure_def,Option.some.injEq] at h
    obtain ⟨v,hv,cs',hcs,rfl⟩:=h
    obtain ⟨h1,h2⟩:=ih cs' hcs
    refine ⟨by simp [h1],fun j u hu=>?_⟩
    cases j with
    | zero=>simp at hu;subst hu;exact ⟨k,rfl,hv⟩
    | succ j=>simpa using h2 j u (by simpa using hu)
 obtain ⟨h1,h2⟩:=key _ _ h
 refine ⟨by simpa using h1,fun j v hv=>?_⟩
 obtain ⟨k,hk,hc⟩:=h2 j v hv
 have:j<(List.range n).length:=lt_of_get hk
 simp at this
 rw [List.getElem?_range this] at hk
 cases hk
 exact hc
theorem add_none {b o n:Nat}:(Addr.mk b o none).add n=⟨b,o+n,none⟩:=by
 unfold Addr.add
 split
 ·rename_i h;subst h;rfl
 ·rfl
theorem rel_slice {α:Type}{t e sz fuel:Nat}{cs:List Value}{x:DataW H × List MemPlace}(cells:α→List AV)(Q:α→Prop)(ht:P.underlying t=some (.slice e))(hc:P.cellsOf e=sz)(hsz:0<sz)(hcell:∀ y,(cells y).length=sz)
 (hel:∀ n,fuel=n+1→∀ (cs:List Value)(x:DataW H × List MemPlace),DataW.trod enc P w 0 sp held n e cs=some x→∃ y:α,Q y∧RelL w cs (cells y))(h:DataW.trod enc P w 0 sp held fuel t cs=some x) :
 ∃ l:List α,(∀ y,y∈l→Q y)∧l.length≤9223372036854775807∧RelL w cs [.sl (l.map cells) .no]:=by
 rcases DataW.trod_slice ht h with ⟨rfl,_⟩ | ⟨a,len,cap,elems,rest,n,hn,rfl,_,_,hcap,hmax,hlen,hall,_,_⟩
 ·refine ⟨[],(fun y hy=>by cases hy),by simp,RelL.one ?_⟩
  exact .sl [] .no none 0 0 0 0 0 (fun _ _=>default) rfl (Nat.zero_le _) (fun h=>absurd rfl h) (fun r hr=>by cases hr) (fun i j h=>by omega) (fun i j h=>by omega) (fun i j r x h=>by simp at h) trivial (Nat.le_refl _)
 ·have hml:maxLen=9223372036854775807:=by decide
  have hel':∀ i,i<len→∃ y:α,Q y∧∃ cs',w.cells? 0 (a.add (i*sz)) sz=some cs'∧RelL w cs' (cells y):=fun i hi=>by
   have h1:=hall i hi
   obtain ⟨z,hz⟩:=lget_of_lt elems (i:=i) (by omega)
   rw [hz,hc] at h1
   obtain ⟨cs',h2,h3⟩:=Option.bind_eq_some_iff.1 h1
   obtain ⟨y,hq,hr⟩:=hel n hn cs' z h3
   exact ⟨y,hq,cs',h2,hr⟩
  obtain ⟨l,hll,hl⟩:=list_of len hel'
  have hQ:∀ y,y∈l→Q y:=fun y hy=>by obtain ⟨i,hi⟩:=lget_of_mem hy;exact (hl i y hi).1
  refine ⟨l,hQ,by omega,RelL.one ?_⟩
  have ha:len≠0→a=⟨a.block,a.off,none⟩:=fun h0=>by
   obtain ⟨y,hy⟩:=lget_of_lt l (i:=0) (by omega)
   obtain ⟨_,cs',h1,h2⟩:=hl 0 y hy
   obtain ⟨h3,h4⟩:=cells_get h1
   obtain ⟨v,hv⟩:=lget_of_lt cs' (i:=0) (by omega)
   have h5:=h4 0 v hv
   have h6:(a.add (0*sz)).add 0=a:=by simp [Addr.add]
   rw [h6] at h5
   obtain ⟨b,o,s⟩:=a
   unfold World.cell? at h5
   simp only at h5
   split at h5
   ·split at h5
    ·cases h5
    ·rename_i hs
     cases s with
     | none=>rfl
     | some s=>simp at hs
   ·cases h5
  have hcl:∀ i j:Nat,i<len→j<sz→∃ v,w.cell? ⟨a.block,a.off+i*sz+j,none⟩=some v:=fun i j hi hj=>by
   obtain ⟨y,hy⟩:=lget_of_lt l (i:=i) (by omega)
   obtain ⟨_,cs',h1,h2⟩:=hl i y hy
   obtain ⟨h3,h4⟩:=cells_get h1
   obtain ⟨v,hv⟩:=lget_of_lt cs' (i:=j) (by omega)
   have h5:=h4 j v hv
   rw [ha (by omega),add_none,add_none] at h5
   exact ⟨v,h5⟩
  refine .sl _ .no (some a) len cap a.block a.off sz (fun i j=>(w.cell? ⟨a.block,a.off+i*sz+j,none⟩).getD default) (by simp [hll]) (by unfold maxN;omega) (fun h0=>congrArg some (ha h0)) (fun r hr=>?_) (fun i j _ _=>E0_mt _ _) (fun i j hi hj=>?_) (fun i j r z h1 h2=>?_) trivial hcap
  ·obtain ⟨y,_,rfl⟩:=List.mem_map.1 hr;exact hcell y
  ·obtain ⟨v,hv⟩:=hcl i j hi hj
   rw [hv];rfl
  ·simp only [List.getElem?_map,Option.map_eq_some_iff] at h1
   obtain ⟨y,hy,rfl⟩:=h1
   obtain ⟨_,cs',h3,h4⟩:=hl i y hy
   have hi:i<len:=by have:=lt_of_get hy;omega
   have hj:j<sz:=by have:=lt_of_get h2;rw [hcell] at this;exact this
   obtain ⟨h5,h6⟩:=cells_get h3
   obtain ⟨v,hv⟩:=lget_of_lt cs' (i:=j) (by omega)
   have h7:=h6 j v hv
   rw [ha (by omega),add_none,add_none] at h7
   show Rel E0 w ((w.cell? ⟨a.block,a.off+i*sz+j,none⟩).getD default) z
   rw [h7]
   exact h4.2 j v z hv h2
theorem trod_i {t fuel:Nat}{k:IntKind}{cs:List Value}{x:DataW H × List MemPlace}(ht:P.underlying t=some (.int k))(h:DataW.trod enc P w 0 sp held fuel t cs=some x):∃ n:Int,k.min≤n∧n≤k.max∧cs=[.int k n]:=by
 obtain ⟨n,rfl,_,h2⟩:=DataW.trod_int ht h
 simp only [Lit.wf,Bool.and_eq_true,decide_eq_true_eq] at h2
 exact ⟨n,h2.1,h2.2,rfl⟩
theorem trod_s {t fuel:Nat}{cs:List Value}{x:DataW H × List MemPlace}(ht:P.underlying t=some .string)(h:DataW.trod enc P w 0 sp held fuel t cs=some x):∃ s:List UInt8,s.length≤9223372036854775807∧cs=[.string ⟨⟨s⟩⟩]:=by
 obtain ⟨s,rfl,_,h2⟩:=DataW.trod_string ht h
 obtain ⟨⟨s⟩⟩:=s
 exact ⟨s,by have:maxLen=9223372036854775807:=by decide
             have h3:s.length≤maxLen:=h2
             omega,rfl⟩
end
theorem i64_rng {n:Int}(h0:IntKind.i64.min≤n)(h1:n≤IntKind.i64.max):-9223372036854775808≤n∧n≤9223372036854775807:=by
 have a:IntKind.i64.min=-9223372036854775808:=by decide
 have b:IntKind.i64.max=9223372036854775807:=by decide
 omega
section
variable {H:Type}{enc:TypeId × Value→H}{w:World}{sp:Nat→Bool}{held:Bool}
theorem trod_nd:∀ (fuel:Nat)(cs:List Value)(x:DataW H × List MemPlace),DataW.trod enc Tryz.prog w 0 sp held fuel 24 cs=some x→∃ n:Nd,(PrI n∧LnI n)∧RelL w cs (ncells n):=by
 intro fuel
 induction fuel using Nat.strongRecOn with
 | ind fuel ih =>
   intro cs x h
   obtain ⟨xs,n1,rfl,_,hl,hxs,hf⟩:=DataW.trod_struct Tryz.underlying24 h
   have hl4:cs.length=4:=hl.trans (by kernel_rfl)
   have hx4:xs.length=4:=hxs
   obtain ⟨c0,c1,c2,c3,rfl⟩:=list4 hl4
   obtain ⟨x0,hx0⟩:=lget_of_lt xs (i:=0) (by omega)
   obtain ⟨x1,hx1⟩:=lget_of_lt xs (i:=1) (by omega)
   obtain ⟨x2,hx2⟩:=lget_of_lt xs (i:=2) (by omega)
   obtain ⟨x3,hx3⟩:=lget_of_lt xs (i:=3) (by omega)
   have c3e:Tryz.prog.cellsOf 3=1:=by kernel_rfl
   have c9e:Tryz.prog.cellsOf 9=1:=by kernel_rfl
   have cse:Tryz.prog.cellsOf 22=1:=by kernel_rfl
   have f0:DataW.trod enc Tryz.prog w 0 sp held n1 3 (([c0,c1,c2,c3].drop 0).take (Tryz.prog.cellsOf 3))=some x0:=(hf 0 _ rfl).trans hx0
   have f1:DataW.trod enc Tryz.prog w 0 sp held n1 9 (([c0,c1,c2,c3].drop 1).take (Tryz.prog.cellsOf 9))=some x1:=(hf 1 _ rfl).trans hx1
   have f2:DataW.trod enc Tryz.prog w 0 sp held n1 3 (([c0,c1,c2,c3].drop 2).take (Tryz.prog.cellsOf 3))=some x2:=(hf 2 _ rfl).trans hx2
   have f3:DataW.trod enc Tryz.prog w 0 sp held n1 22 (([c0,c1,c2,c3].drop 3).take (Tryz.prog.cellsOf 22))=some x3:=(hf 3 _ rfl).trans hx3
   rw [c3e] at f0 f2
   rw [c9e] at f1
   rw [cse] at f3
   obtain ⟨k,k0,k1,e0⟩:=trod_i Tryz.underlying3 f0
   obtain ⟨s,s0,e1⟩:=trod_s Tryz.underlying9 f1
   obtain ⟨m,m0,m1,e2⟩:=trod_i Tryz.underlying3 f2
   obtain ⟨l,hq,hll,e3⟩:=rel_slice ncells (fun n=>PrI n∧LnI n) Tryz.underlying22 (show Tryz.prog.cellsOf 24=4 by kernel_rfl) (by decide) (fun y=>rfl) (fun n2 hn2 cs' x' hx'=>ih n2 (by omega) cs' x' hx') f3
   have e0':c0=.int .i64 k:=(List.cons.inj e0).1
   have e1':c1=.string ⟨⟨s⟩⟩:=(List.cons.inj e1).1
   have e2':c2=.int .i64 m:=(List.cons.inj e2).1
   have e3':RelL w [c3] [.sl (l.map ncells) .no]:=e3
   subst e0';subst e1';subst e2'
   obtain ⟨m0,m1⟩:=i64_rng m0 m1
   refine ⟨.mk k s m l,⟨.mk k s m l m0 m1 fun x hx=>(hq x hx).1,.mk k s m l s0 hll fun x hx=>(hq x hx).2⟩,?_⟩
   show RelL w _ [_,_,_,.sl (nrows l) .no]
   rw [nrows_map]
   exact .cons (.val _) (.cons (.val _) (.cons (.val _) e3'))
end
end Go.V
namespace Go.V
open Go Go.Proofs Go.ChangeShapes Go.WideShapes Go.ChangeAt Go.RowKit
section
variable {H:Type}{enc:TypeId × Value→H}{P:Program}{w:World}{sp:Nat→Bool}{held:Bool}
theorem trod_arr {t e n fuel:Nat}{cs:List Value}{d:DataW H}{ps:List MemPlace}(ht:P.underlying t=some (.array n e))(h:DataW.trod enc P w 0 sp held fuel t cs=some (d,ps)) :
 ∃ (xs:List (DataW H × List MemPlace)) (f:Nat),d=.agg (xs.map (·.1))∧cs.length=P.cellsOf t∧∀ i,i<n→DataW.trod enc P w 0 sp held f e ((cs.drop (i*P.cellsOf e)).take (P.cellsOf e))=xs[i]?:=by
 cases fuel with
 | zero=>simp [DataW.trod] at h
 | succ f =>
   unfold DataW.trod at h
   rw [ht] at h
   split at h<;>simp_all
   obtain ⟨hl,xs,hp,hd,_⟩:=h
   exact ⟨xs,hd.symm,f,fun i hi=>mapM_some_get hp i i (by simp [hi])⟩
theorem trod_ifc {t fuel:Nat}{ms:Array (String × TypeId)}{cs:List Value}{x:DataW H × List MemPlace}(ht:P.underlying t=some (.interface ms))(h:DataW.trod enc P w 0 sp held fuel t cs=some x):∃ v,cs=[v]∧(v=.nilIface∨∃ te pe,v=.iface te pe):=by
 cases fuel with
 | zero=>simp [DataW.trod] at h
 | succ f =>
   unfold DataW.trod at h
   rw [ht] at h
   split at h<;>simp_all
theorem trodAll_stays (hl:laidOutB P=true){W W':World}{sp':Nat→Bool}:∀ {ts:List TypeId}{vs:List Value}{ds:List (DataW H)}{ps:List MemPlace},(∀ t,t∈ts→P.readableRec t=true∧t<P.types.size) →
 DataW.TrodAll enc P W 0 (fun _=>true) true ts vs ds ps→(∀ p∈ps,W.sameAt W' p)→(∀ p∈ps,sp' p.block=true)→DataW.TrodAll enc P W' 0 sp' true ts vs ds ps
 | [],[],[],_,_,h,_,_=>h
 | t::ts,v::vs,d::ds,_,hr,⟨p,q,h1,h2,rfl⟩,hs,hb =>
   ⟨p,q,WideElems.Trod_stays hl (hr t (by simp)).1 (hr t (by simp)).2 h1 (fun x hx=>hs x (by simp [hx])) (fun x hx=>hb x (by simp [hx])),trodAll_stays hl (fun x hx=>hr x (by simp [hx])) h2 (fun x hx=>hs x (by simp [hx])) (fun x hx=>hb x (by simp [hx])),rfl⟩
 | [],_::_,_,_,_,h,_,_=>h.elim
 | [],[],_::_,_,_,h,_,_=>h.elim
 | _::_,[],_,_,_,h,_,_=>h.elim
 | _::_,_::_,[],_,_,h,_,_=>h.elim
theorem trodVar_stays (hl:laidOutB P=true){W W':World}{sp':Nat→Bool}{n:String}{gs:List (DataW H)}{ps:List MemPlace}{g t:Nat}(hg:P.globalNamed n=some g)(ht:(P.globals[g]?).map (·.type)=some t)(hr:P.readableRec t=true)(hlt:t<P.types.size)
 (hb:Below W.heap.size W W')(h:DataW.TrodVars enc P W (fun _=>true) [n] gs ps)(hs:∀ p∈ps,W.sameAt W' p)(hsp:∀ p∈ps,sp' p.block=true):DataW.TrodVars enc P W' sp' [n] gs ps:=by
 obtain ⟨g',t',cs,fuel,d,p,rfl,h1,h2,h3,h4,rfl⟩:=trodVars_one h
 obtain rfl:=Option.some.inj (hg.symm.trans h1)
 obtain rfl:=Option.some.inj (ht.symm.trans h2)
 have h5:DataW.Trod enc P W 0 (fun _=>true) true t (.agg cs) d p:=⟨fuel,h4⟩
 obtain ⟨fuel',h6⟩:=WideElems.Trod_stays (sp':=sp') hl hr hlt h5 (fun x hx=>hs x (by simp [hx])) (fun x hx=>hsp x (by simp [hx]))
 refine trodVars_mk1 hg ht ?_ h6
 unfold World.var? at h3 ⊢
 rw [hg] at h3 ⊢
 simp only [Option.bind_some] at h3 ⊢
 have hgl:g<W.heap.size:=by
  rcases Nat.lt_or_ge g W.heap.size with h' | h'
  ·exact h'
  ·simp [Array.getElem?_eq_none h'] at h3
 rw [hb.block g hgl];exact h3
end
def laidL:List (String × DataW Unit):=[("math/bits.deBruijn32tab",YtnkbifkbpdmchaaGreatDoor.Rows.laid_math_bits_deBruijn32tab),("math/bits.deBruijn64tab",YtnkbifkbpdmchaaGreatDoor.Rows.laid_math_bits_deBruijn64tab),("internal/strconv.uint64pow10",YtnkbifkbpdmchaaGreatDoor.Rows.laid_internal_strconv_uint64pow10),
 ("strconv.ErrRange",YtnkbifkbpdmchaaGreatDoor.Rows.laid_strconv_ErrRange),("strconv.ErrSyntax",YtnkbifkbpdmchaaGreatDoor.Rows.laid_strconv_ErrSyntax),("loop.example/g00093/impl.condWords",YtnkbifkbpdmchaaGreatDoor.Rows.laid_loop_example_g00093_impl_condWords)]
theorem laidL_met {W:World}(h:laidMetH Tryz.prog laidL W):laidMet Tryz.prog laidL W:=by
 have e:(laidL.filter fun x=>x.2.handleName?.isSome)=[]:=by kernel_rfl
 unfold laidMetH at h
 rw [e] at h
 exact h
def condB:List (List UInt8):=[[60],[60,61],[62],[62,61],[61,61],[33,61]]
theorem cond_bytes:condG=condB.map fun b=>.val (.string ⟨⟨b⟩⟩):=rfl
theorem cond_data:(YtnkbifkbpdmchaaGreatDoor.Rows.laid_loop_example_g00093_impl_condWords:DataW Unit)=.agg (condB.map fun b=>.lit (.string b)):=rfl
theorem ifc_of {W:World}{n:String}{d:DataW Unit}{g:Nat}(hg:Tryz.prog.globalNamed n=some g)(ht:(Tryz.prog.globals[g]?).map (·.type)=some 269)(h:Lib.VarReads Tryz.prog W n d):IfaceV W g:=by
 obtain ⟨g',t',cs,fuel,p,h1,h2,h3,h4⟩:=h
 obtain rfl:=Option.some.inj (hg.symm.trans h1)
 obtain rfl:=Option.some.inj (ht.symm.trans h2)
 obtain ⟨v,h5,h6⟩:=trod_ifc Tryz.underlying269 h4
 refine ⟨v,?_,h6⟩
 rw [World.var?_cell hg h3 0,← Array.getElem?_toList,h5];rfl
theorem gOk_of {W:World}(h:laidMetH Tryz.prog laidL W):gOk W:=by
 have hm:=laidL_met h
 constructor
 ·intro j x hx
  obtain ⟨g',t',cs,fuel,p,h1,h2,h3,h4⟩:=Lib.laidMet.reads hm (n := "loop.example/g00093/impl.condWords") (d:=YtnkbifkbpdmchaaGreatDoor.Rows.laid_loop_example_g00093_impl_condWords) (by unfold laidL;simp)
  have hg:Tryz.prog.globalNamed "loop.example/g00093/impl.condWords" = some 1:=by kernel_rfl
  have ht:(Tryz.prog.globals[1]?).map (·.type)=some 278:=by kernel_rfl
  obtain rfl:=Option.some.inj (hg.symm.trans h1)
  obtain rfl:=Option.some.inj (ht.symm.trans h2)
  obtain ⟨xs,f,hd,hl,hall⟩:=trod_arr Tryz.underlying278 h4
  have c9e:Tryz.prog.cellsOf 9=1:=by kernel_rfl
  have cae:Tryz.prog.cellsOf 278=6:=by kernel_rfl
  rw [cae] at hl
  rw [cond_data] at hd
  have hd':condB.map (fun b=>(DataW.lit (.string b):DataW Unit))=xs.map (·.1):=DataW.agg.inj hd
  rw [cond_bytes] at hx
  simp only [List.getElem?_map,Option.map_eq_some_iff] at hx
  obtain ⟨b,hb,rfl⟩:=hx
  have hj:j<6:=lt_of_get hb
  have h5:=hall j hj
  rw [c9e,Nat.mul_one] at h5
  have h6:=congrArg (fun l=>l[j]?) hd'
  simp only [List.getElem?_map,hb,Option.map_some] at h6
  cases hxj:xs[j]? with
  | none=>rw [hxj] at h6;cases h6
  | some z =>
    rw [hxj] at h5 h6
    obtain ⟨s,h7,h8,_⟩:=DataW.trod_string Tryz.underlying9 h5
    have h9:DataW.lit (.string b)=z.1:=Option.some.inj h6
    rw [h8] at h9
    have h10:b=s.data.toList:=Lit.string.inj (DataW.lit.inj h9)
    obtain ⟨v,hv⟩:=lget_of_lt cs.toList (i:=j) (by omega)
    have h11:cs.toList.drop j=v::cs.toList.drop (j+1):=drop_cons hv
    rw [h11] at h7
    have h12:v=.string s:=(List.cons.inj h7).1
    refine ⟨.string s,?_,?_⟩
    ·rw [World.var?_cell hg h3 j,← Array.getElem?_toList,hv,h12]
    ·rw [h10]
 ·obtain ⟨g',t',cs,fuel,p,h1,h2,h3,h4⟩:=Lib.laidMet.reads hm (n := "internal/strconv.uint64pow10") (d:=YtnkbifkbpdmchaaGreatDoor.Rows.laid_internal_strconv_uint64pow10) (by unfold laidL;simp)
  have hg:Tryz.prog.globalNamed "internal/strconv.uint64pow10" = some 5:=by kernel_rfl
  have ht:(Tryz.prog.globals[5]?).map (·.type)=some 321:=by kernel_rfl
  obtain rfl:=Option.some.inj (hg.symm.trans h1)
  obtain rfl:=Option.some.inj (ht.symm.trans h2)
  have hd:(YtnkbifkbpdmchaaGreatDoor.Rows.laid_internal_strconv_uint64pow10:DataW Unit)=Lib.tabData .u64 Lib.pow10Tab:=by kernel_rfl
  rw [hd] at h4
  have h5:=Lib.cells_of_tab Tryz.underlying321 Tryz.underlying301 (by kernel_rfl) (by kernel_rfl) h4
  unfold World.var? at h3
  rw [hg] at h3
  simp only [Option.bind_some] at h3
  split at h3
  ·rename_i c e z hh
   refine ⟨e,z,?_⟩
   rw [hh]
   cases h3
   rw [← Array.toArray_toList (xs:=cs),h5]
  ·cases h3
 ·exact ifc_of (by kernel_rfl) (by kernel_rfl) (Lib.laidMet.reads hm (n := "strconv.ErrSyntax") (d:=YtnkbifkbpdmchaaGreatDoor.Rows.laid_strconv_ErrSyntax) (by unfold laidL;simp))
 ·exact ifc_of (by kernel_rfl) (by kernel_rfl) (Lib.laidMet.reads hm (n := "strconv.ErrRange") (d:=YtnkbifkbpdmchaaGreatDoor.Rows.laid_strconv_ErrRange) (by unfold laidL;simp))
theorem gK_le {W:World}(h:W.ShapedOpen Tryz.prog):gK≤W.heap.size:=by
 obtain ⟨o,_,h1,_⟩:=h.2 Tryz.prog.globals.size (Nat.le_refl _) (of_decide_eq_true (by kernel_rfl))
 have:=heap_lt h1
 unfold gK
 omega
theorem inv0 {W:World}(h1:gK≤W.heap.size)(h2:gOk W):Inv X E0 ⟨[],[]⟩ W where
 nb:=rfl
 nt:=rfl
 np i h:=by simp [E0] at h
 box i b sz rows h:=by simp [E0] at h
 tok t l b c sz h:=by simp [E0] at h
 bb i j b s s' h:=by simp [E0] at h
 bt i t b s l c sz h:=by simp [E0] at h
 tt i j b l c s l' c' s' h:=by simp [E0] at h
 frlt b o h:=h.elim
 lo b h:=by
  rcases h with ⟨i,sz,h⟩ | ⟨t,l,c,sz,h⟩
  ·simp [E0] at h
  ·simp [E0] at h
 frlo b o h:=h.elim
 sz:=h1
 glob:=h2
theorem run_law {f:FuncId}{xs:List AV}{W:World}{args:Array Value}(hP:Pure X f xs (vb true))(hs:W.ShapedOpen Tryz.prog)(hL:laidMetH Tryz.prog laidL W)(hA:RelL W args.toList xs) :
 Calls Tryz.prog f args W fun e W'=>e=.returned (.bool true)∧Below W.heap.size W W':=by
 refine (hP.2 E0 W args rfl (inv0 (gK_le hs) (gOk_of hL)) (by simpa using hA.1) (fun j v x h1 h2=>hA.2 j v x (by simpa using h1) h2)).mono fun e W' he=>?_
 obtain ⟨E',S',h1,h2,h3⟩:=he
 have ho:∀ b,¬ E0.own b:=fun b h=>by
  rcases h with ⟨i,sz,h⟩ | ⟨t,l,c,sz,h⟩
  ·simp [E0] at h
  ·simp [E0] at h
 refine ⟨?_,⟨h2.os,h2.tape,h2.output,h2.size,fun k hk=>h2.block k hk (ho k)⟩⟩
 cases e with
 | returned v =>
   obtain ⟨r,h4,h5,_⟩:=h3
   injection h5 with h5
   subst h5
   cases h4;rfl
 | panicked ch=>exact absurd h3.1 (by intro h;cases h)
 | outgrown=>exact h3.elim
set_option maxRecDepth 100000
theorem post_pure {H:Type}{enc:TypeId × Value→H}{P:Program}{fn:Func}{s:ChangeSpec}{apart fresh handsOn:Bool}{W W':World}{args:Array Value}{ds gs:List (DataW H)}{before:List MemPlace}{n:String}{g t:Nat}
 (hl:laidOutB P=true)(hp:∀ t,t∈fn.params.toList→P.readableRec t=true∧t<P.types.size)(hn:s.vars=[n])(hg:P.globalNamed n=some g)(ht:(P.globals[g]?).map (·.type)=some t)(hr:P.readableRec t=true)(hlt:t<P.types.size)
 (hW:DataW.Whole enc P fn.params.toList s.vars apart W args.toList ds gs before)(hb:Below W.heap.size W W')
 (hargs:∀ g1,gs=[g1]→s.fn H (ds++gs)={ results:=[.lit (.bool true)],args:=ds,vars:=gs }){tb:Nat}(hres:fn.resultTypes=#[tb])(htb:P.underlying tb=some .bool) :
 s.post enc P fn apart fresh handsOn false W args (.bool true) W':=by
 have hW':=hW
 obtain ⟨p,q,hA,hV,rfl,hfz,hnd⟩:=hW
 have hlt':∀ x,x∈p++q→x.block<W.heap.size:=fun x hx=>hW'.lt x hx
 rw [hn] at hV
 have hgs:∃ g1,gs=[g1]:=by
  obtain ⟨_,_,_,_,d,_,h,_⟩:=trodVars_one hV
  exact ⟨d,h⟩
 obtain ⟨g1,hg1⟩:=hgs
 have e:=hargs g1 hg1
 refine ⟨ds,gs,p++q,[],p,q,hW',?_,?_,?_,hb.frame _,fun h=>by cases h⟩
 ·rw [e,hres];exact trodAll_cons_mk (shut_bool htb _) trodAll_mk0
 ·rw [e]
  exact trodAll_stays hl hp hA (fun x hx=>hb.same (hlt' x (by simp [hx]))) (fun x hx=>by simpa using hlt' x (by simp [hx]))
 ·rw [e,hn]
  exact trodVar_stays hl hg ht hr hlt hb hV (fun x hx=>hb.same (hlt' x (by simp [hx]))) (fun x hx=>by simpa using hlt' x (by simp [hx]))
theorem node_of {H:Type}{enc:TypeId × Value→H}{W:World}{base:Nat}{v:Value}{d:DataW H}{ps:List MemPlace}(hv:Value.okWide Tryz.prog W .any base 24 v)(h:DataW.Trod enc Tryz.prog W 0 (fun _=>true) true 24 v d ps) :
 ∃ n:Nd,PrI n∧LnI n∧Rel E0 W v (nd n):=by
 unfold Value.okWide at hv
 rw [Tryz.underlying24] at hv
 obtain ⟨cs,rfl,_⟩:=hv
 obtain ⟨fuel,h⟩:=h
 obtain ⟨n,⟨h1,h2⟩,h3⟩:=trod_nd fuel _ _ h
 exact ⟨n,h1,h2,h3.agg⟩
noncomputable def low:Nat:=(World.holding Tryz.prog default ⟨#[],#[],[]⟩).heap.size
def litV:DataW Unit→Value
 | .lit (.int k n)=>.int k n
 | .lit (.string s)=>.string ⟨⟨s⟩⟩
 | _=>.nilIface
def aggV:DataW Unit→Array Value
 | .agg l=>(l.map litV).toArray
 | _=>#[]
def textV:DataW Unit→Value
 | .iface _ (.ptr (.agg [.lit (.string s)]))=>.string ⟨⟨s⟩⟩
 | _=>.nilIface
def putV (cs:Array Value):Obj→Obj
 | .cells _ t frozen=>.cells cs t frozen
 | o=>o
noncomputable def laidW (os:Os):World :=
 let w0:=World.holding Tryz.prog os ⟨#[.cells #[textV YtnkbifkbpdmchaaGreatDoor.Rows.laid_strconv_ErrSyntax] 328,.cells #[textV YtnkbifkbpdmchaaGreatDoor.Rows.laid_strconv_ErrRange] 328],#[],[]⟩
 { w0 with heap:=(((((w0.heap.modify 1 (putV (aggV YtnkbifkbpdmchaaGreatDoor.Rows.laid_loop_example_g00093_impl_condWords))).modify 3 (putV #[.iface 326 (.pointer (some ⟨low,0,none⟩))])).modify 4 (putV #[.iface 326 (.pointer (some ⟨low+1,0,none⟩))])).modify
    5 (putV (aggV YtnkbifkbpdmchaaGreatDoor.Rows.laid_internal_strconv_uint64pow10))).modify 6 (putV (aggV YtnkbifkbpdmchaaGreatDoor.Rows.laid_math_bits_deBruijn32tab))).modify 7 (putV (aggV YtnkbifkbpdmchaaGreatDoor.Rows.laid_math_bits_deBruijn64tab)) }
abbrev nd0V:Value:=.agg #[.int .i64 0,.string ⟨#[]⟩,.int .i64 0,.slice none 0 0]
theorem own0:ownKnob Tryz.prog.godebug=none:=by kernel_rfl
theorem laidOut0:laidOutB Tryz.prog=true:=by kernel_rfl
theorem condVar:Tryz.prog.globalNamed "loop.example/g00093/impl.condWords" = some 1:=by kernel_rfl
theorem condTy:(Tryz.prog.globals[1]?).map (·.type)=some 278:=by kernel_rfl
theorem condRd:Tryz.prog.readableRec 278=true:=by kernel_rfl
theorem condLt:278<Tryz.prog.types.size:=of_decide_eq_true (by kernel_rfl)
end Go.V
namespace Go.V
open Go Go.Proofs
def cpR {α:Type}(f:α→List AV)(z:List AV)(l:List α)(i:Nat):List (List AV):=(l.take i).map f++List.replicate (l.length-i) z
theorem cpR_get {α:Type}(f:α→List AV)(z:List AV){l:List α}{i:Nat}(h:i<l.length):(cpR f z l i)[i]?=some z:=by
 have:((l.take i).map f).length=i:=by simp;omega
 rw [cpR,List.getElem?_append_right (by omega),this,Nat.sub_self,List.getElem?_replicate,if_pos (by omega)]
theorem cpR_set {α:Type}(f:α→List AV)(z:List AV){l:List α}{i:Nat}{x:α}(h:l[i]?=some x):(cpR f z l i).set i (f x)=cpR f z l (i+1):=by
 have hi:=lt_of_get h
 obtain ⟨c,hc⟩:∃ c,l.length-i=c+1:=⟨l.length-i-1,by omega⟩
 have hc2:l.length-(i+1)=c:=by omega
 rw [cpR,cpR,hc,hc2,List.take_add_one,h,Option.toList_some,List.map_append,List.replicate_succ]
 have:((l.take i).map f).length=i:=by simp;omega
 rw [List.set_append_right _ _ (by omega),this,Nat.sub_self,List.set_cons_zero,List.append_assoc];rfl
theorem cpR_all {α:Type}(f:α→List AV)(z:List AV)(l:List α):cpR f z l l.length=l.map f:=by simp [cpR]
theorem cpR_nil {α:Type}(f:α→List AV)(z:List AV)(l:List α):cpR f z l 0=List.replicate (l.map f).length z:=by simp [cpR]
theorem AK.rbs {f:FuncId}{fn:Func}{F:Frm}{bx:List (List (List AV))}{b n:Nat}{rows:List (List AV)}{k:List Item}(hf:X.P.funcs[f]?=some fn)(hb:bx[b]?=some rows)(hn:rows.length=n)(hl:n≤1000000000) [hok:OKR 0 0 rows]
 (h:resF X F ⟨bx,[]⟩ fn.results.toList=some [.bsl b n]:=by rfl):AK X ⟨f,fn,0,0⟩ (.code .ret::k) F ⟨bx,[]⟩ fun e S'=>e=.ret (.sl rows .no)∧S'=⟨[],[]⟩:=by
 subst hn
 refine AK.retZ (B:=⟨f,fn,0,0⟩) hf h 0 (Nat.le_refl _) (r:=.sl rows .no) ?_ (fun rows hr=>by simp at hr) ⟨rfl,rfl⟩
 refine .bsl b rows.length rows rows (Nat.zero_le _) hb (Nat.le_refl _) (by unfold maxN;omega) rfl (fun i r r' h1 h2=>?_) (fun i j r r' x y h1 h2 h3 h4=>?_)
 ·rw [h1] at h2;cases h2;rfl
 ·rw [h1] at h2;cases h2
  rw [h3] at h4;cases h4
  exact .same x (hok.ok r (List.mem_of_getElem? h1) x (List.mem_of_getElem? h3))
theorem map_get {α:Type}{f:α→List AV}{l:List α}{i:Nat}{x:α}(h:l[i]?=some x):(l.map f)[i]?=some (f x):=by simp [h]
structure Cf where
 pt:Int
 vars:List Int
 cells:List (List (Bool × Int))
 used:Int
 steps:Int
 trap:Int
 edge:Int
 acc:Int
abbrev icell (n:Int):List AV:=[vi n]
abbrev ccell (c:Bool × Int):List AV:=[vb c.1,vi c.2]
def crs (l:List (Bool × Int)):List (List AV):=l.map ccell
abbrev crow (l:List (Bool × Int)):List AV:=[.sl (crs l) .no]
def crss (l:List (List (Bool × Int))):List (List AV):=l.map crow
abbrev cfcells (c:Cf):List AV:=[vi c.pt,.sl (zrs c.vars) .no,.sl (crss c.cells) .no,vi c.used,vi c.steps,vi c.trap,vi c.edge,vi c.acc]
abbrev cf (c:Cf):AV:=.agg (cfcells c)
instance {n m:Nat}{l:List (Bool × Int)}:OKR n m (crs l):=⟨fun r hr x hx=>by
 obtain ⟨e,_,rfl⟩:=List.mem_map.1 hr
 simp at hx
 rcases hx with rfl | rfl<;>exact .val _⟩
instance {n m:Nat}{l:List (List (Bool × Int))}:OKR n m (crss l):=⟨fun r hr x hx=>by
 obtain ⟨e,_,rfl⟩:=List.mem_map.1 hr
 simp at hx;subst hx
 exact (inferInstance:OK n m (.sl (crs e) .no)).ok⟩
theorem crs_len (l:List (Bool × Int)):(crs l).length=l.length:=by simp [crs]
theorem crss_len (l:List (List (Bool × Int))):(crss l).length=l.length:=by simp [crss]
instance {n m i:Nat}{l:List Int}:OKR n m (cpR icell [vi 0] l i):=⟨fun r hr x hx=>by
 rcases List.mem_append.1 hr with h | h
 ·exact (inferInstance:OKR n m (zrs (l.take i))).ok r h x hx
 ·rw [List.eq_of_mem_replicate h] at hx;simp at hx;subst hx;exact .val _⟩
instance {n m i:Nat}{l:List (Bool × Int)}:OKR n m (cpR ccell [vb false,vi 0] l i):=⟨fun r hr x hx=>by
 rcases List.mem_append.1 hr with h | h
 ·exact (inferInstance:OKR n m (crs (l.take i))).ok r h x hx
 ·rw [List.eq_of_mem_replicate h] at hx;simp at hx;rcases hx with rfl | rfl<;>exact .val _⟩
instance {n m i:Nat}{l:List (List (Bool × Int))}:OKR n m (cpR crow [.sl [] .tight] l i):=⟨fun r hr x hx=>by
 rcases List.mem_append.1 hr with h | h
 ·exact (inferInstance:OKR n m (crss (l.take i))).ok r h x hx
 ·rw [List.eq_of_mem_replicate h] at hx;simp at hx;subst hx;exact (inferInstance:OK n m (.sl [] .tight)).ok⟩
theorem t_toI (l:List (Int))(hl:l.length≤1000000000)  : Pure X 27 [.sl (zrs l) .no] (.sl (zrs l) .no):=by
 have hlen:(zrs l).length=l.length:=by simp [zrs]
 refine Pure.run Tryz.func27 ?_
 refine AK.op (Ndo.mkS (n:=(zrs l).length) (b:=0) (by rw [hlen];exact hl) rfl rfl rfl rfl rfl rfl rfl rfl rfl rfl) ?_
 refine AK.while_ (ι:=Nat) 1 0 (fun i=>i≤l.length) (fun i=>[(4,vi i),(3,.bsl 0 l.length),(0,.sl (zrs l) .no)]) (fun i=>⟨[cpR icell [vi 0] l i],[]⟩) (fun i=>l.length-i) ?_ 0 (Nat.zero_le _)
  ⟨rfl,by rw [← hlen];rfl,rfl,trivial⟩ (congrArg (fun b=>St.mk [b] []) (cpR_nil icell [vi 0] l).symm) rfl rfl rfl rfl (fun _=>inferInstance) (fun _=>inferInstance)
 intro i hi IH
 refine AK.ev 100 rfl ?_
 refine AK.if_ (fun h=>?_) (fun h=>?_)
 ·have hlt:i<l.length:=by have:=of_decide_eq_true h;rw [hlen] at this;omega
  obtain ⟨x,hx⟩:=lget_of_lt l hlt
  have hr:=cpR_get icell [vi 0] hlt
  refine AK.ix i (by omega) (map_get (f:=icell) hx) ?_
  skip
  refine AK.atB i hlt hr ?_
  refine AK.stB hr ?_
  refine IH (i+1) hlt (by omega) _ _ ⟨vint ((wrap_small (by omega) (by omega)).trans (by omega)),rfl,rfl,trivial⟩ ?_ rfl rfl
  exact congrArg (fun b=>St.mk [b] []) (cpR_set icell [vi 0] hx)
 ·have:i=l.length:=by have:=of_decide_eq_false h;rw [hlen] at this;omega
  subst this
  refine AK.rbs Tryz.func27 (b:=0) ?_ hlen hl
  show some (cpR icell [vi 0] l l.length)=_
  rw [cpR_all];rfl
theorem t_toCell (c:Bool × Int):Pure X 98 [.agg (ccell c)] (.agg (ccell c)):=by
 refine Pure.run Tryz.func98 ?_
 exact AK.rz Tryz.func98 rfl
theorem t_toC (l:List (Bool × Int))(hl:l.length≤1000000000)  : Pure X 57 [.sl (crs l) .no] (.sl (crs l) .no):=by
 have hlen:(crs l).length=l.length:=by simp [crs]
 refine Pure.run Tryz.func57 ?_
 refine AK.op (Ndo.mkS (n:=(crs l).length) (b:=0) (by rw [hlen];exact hl) rfl rfl rfl rfl rfl rfl rfl rfl rfl rfl) ?_
 refine AK.while_ (ι:=Nat) 1 0 (fun i=>i≤l.length) (fun i=>[(4,vi i),(3,.bsl 0 l.length),(0,.sl (crs l) .no)]) (fun i=>⟨[cpR ccell [vb false,vi 0] l i],[]⟩) (fun i=>l.length-i) ?_ 0 (Nat.zero_le _)
  ⟨rfl,by rw [← hlen];rfl,rfl,trivial⟩ (congrArg (fun b=>St.mk [b] []) (cpR_nil ccell [vb false,vi 0] l).symm) rfl rfl rfl rfl (fun _=>inferInstance) (fun _=>inferInstance)
 intro i hi IH
 refine AK.ev 100 rfl ?_
 refine AK.if_ (fun h=>?_) (fun h=>?_)
 ·have hlt:i<l.length:=by have:=of_decide_eq_true h;rw [hlen] at this;omega
  obtain ⟨x,hx⟩:=lget_of_lt l hlt
  have hr:=cpR_get ccell [vb false,vi 0] hlt
  refine AK.ix i (by omega) (map_get (f:=ccell) hx) ?_
  refine AK.pc (t_toCell x) ?_
  refine AK.atB i hlt hr ?_
  refine AK.stB hr ?_
  refine IH (i+1) hlt (by omega) _ _ ⟨vint ((wrap_small (by omega) (by omega)).trans (by omega)),rfl,rfl,trivial⟩ ?_ rfl rfl
  exact congrArg (fun b=>St.mk [b] []) (cpR_set ccell [vb false,vi 0] hx)
 ·have:i=l.length:=by have:=of_decide_eq_false h;rw [hlen] at this;omega
  subst this
  refine AK.rbs Tryz.func57 (b:=0) ?_ hlen hl
  show some (cpR ccell [vb false,vi 0] l l.length)=_
  rw [cpR_all];rfl
theorem t_toCC (l:List (List (Bool × Int)))(hl:l.length≤1000000000)(h1:∀ x,x∈l→x.length≤1000000000):Pure X 28 [.sl (crss l) .no] (.sl (crss l) .no):=by
 have hlen:(crss l).length=l.length:=by simp [crss]
 refine Pure.run Tryz.func28 ?_
 refine AK.op (Ndo.mkS (n:=(crss l).length) (b:=0) (by rw [hlen];exact hl) rfl rfl rfl rfl rfl rfl rfl rfl rfl rfl) ?_
 refine AK.while_ (ι:=Nat) 1 0 (fun i=>i≤l.length) (fun i=>[(4,vi i),(3,.bsl 0 l.length),(0,.sl (crss l) .no)]) (fun i=>⟨[cpR crow [.sl [] .tight] l i],[]⟩) (fun i=>l.length-i) ?_ 0 (Nat.zero_le _)
  ⟨rfl,by rw [← hlen];rfl,rfl,trivial⟩ (congrArg (fun b=>St.mk [b] []) (cpR_nil crow [.sl [] .tight] l).symm) rfl rfl rfl rfl (fun _=>inferInstance) (fun _=>inferInstance)
 intro i hi IH
 refine AK.ev 100 rfl ?_
 refine AK.if_ (fun h=>?_) (fun h=>?_)
 ·have hlt:i<l.length:=by have:=of_decide_eq_true h;rw [hlen] at this;omega
  obtain ⟨x,hx⟩:=lget_of_lt l hlt
  have hr:=cpR_get crow [.sl [] .tight] hlt
  refine AK.ix i (by omega) (map_get (f:=crow) hx) ?_
  refine AK.pc (t_toC x (h1 x (List.mem_of_getElem? hx))) ?_
  refine AK.atB i hlt hr ?_
  refine AK.stB hr ?_
  refine IH (i+1) hlt (by omega) _ _ ⟨vint ((wrap_small (by omega) (by omega)).trans (by omega)),rfl,rfl,trivial⟩ ?_ rfl rfl
  exact congrArg (fun b=>St.mk [b] []) (cpR_set crow [.sl [] .tight] hx)
 ·have:i=l.length:=by have:=of_decide_eq_false h;rw [hlen] at this;omega
  subst this
  refine AK.rbs Tryz.func28 (b:=0) ?_ hlen hl
  show some (cpR crow [.sl [] .tight] l l.length)=_
  rw [cpR_all];rfl
theorem t_eqI (l:List (Int))(hl:l.length≤1000000000)  : Pure X 35 [.sl (zrs l) .no,.sl (zrs l) .no] (vb true):=by
 have hlen:(zrs l).length=l.length:=by simp [zrs]
 refine Pure.run Tryz.func35 ?_
 refine AK.no ?_ (ht:=by simp)
 refine AK.while_ (ι:=Nat) 0 0 (fun i=>i≤l.length) (fun i=>[(5,vi i),(0,.sl (zrs l) .no),(1,.sl (zrs l) .no)]) (fun i=>⟨[],[]⟩) (fun i=>l.length-i) ?_ 0 (Nat.zero_le _)
  ⟨rfl,rfl,rfl,trivial⟩ rfl rfl rfl rfl rfl (fun _=>inferInstance) (fun _=>inferInstance)
 intro i hi IH
 refine AK.ev 100 rfl ?_
 refine AK.if_ (fun h=>?_) (fun h=>?_)
 ·have hlt:i<l.length:=by have:=of_decide_eq_true h;rw [hlen] at this;omega
  obtain ⟨x,hx⟩:=lget_of_lt l hlt
  refine AK.db 0 ?_
  refine Drv.ig i (by omega) (map_get (f:=icell) hx) ?_
  refine Drv.ig i (by omega) (map_get (f:=icell) hx) ?_
  skip
  refine Drv.z ?_
  refine AK.no ?_ (ht:=by simp)
  exact IH (i+1) hlt (by omega) _ _ ⟨vint ((wrap_small (by omega) (by omega)).trans (by omega)),rfl,rfl,trivial⟩ rfl rfl rfl
 ·exact AK.rz Tryz.func35 rfl
theorem t_eqCell (c:Bool × Int):Pure X 117 [.agg (ccell c),.agg (ccell c)] (vb true):=by
 refine Pure.run Tryz.func117 ?_
 refine AK.no ?_ (ht:=by simp)
 refine AK.no ?_ (ht:=by simp)
 exact AK.rz Tryz.func117 rfl
theorem t_eqC (l:List (Bool × Int))(hl:l.length≤1000000000)  : Pure X 80 [.sl (crs l) .no,.sl (crs l) .no] (vb true):=by
 have hlen:(crs l).length=l.length:=by simp [crs]
 refine Pure.run Tryz.func80 ?_
 refine AK.no ?_ (ht:=by simp)
 refine AK.while_ (ι:=Nat) 0 0 (fun i=>i≤l.length) (fun i=>[(5,vi i),(0,.sl (crs l) .no),(1,.sl (crs l) .no)]) (fun i=>⟨[],[]⟩) (fun i=>l.length-i) ?_ 0 (Nat.zero_le _)
  ⟨rfl,rfl,rfl,trivial⟩ rfl rfl rfl rfl rfl (fun _=>inferInstance) (fun _=>inferInstance)
 intro i hi IH
 refine AK.ev 100 rfl ?_
 refine AK.if_ (fun h=>?_) (fun h=>?_)
 ·have hlt:i<l.length:=by have:=of_decide_eq_true h;rw [hlen] at this;omega
  obtain ⟨x,hx⟩:=lget_of_lt l hlt
  refine AK.db 0 ?_
  refine Drv.ig i (by omega) (map_get (f:=ccell) hx) ?_
  refine Drv.ig i (by omega) (map_get (f:=ccell) hx) ?_
  refine Drv.pg (t_eqCell x) ?_
  refine Drv.z ?_
  refine AK.no ?_ (ht:=by simp)
  exact IH (i+1) hlt (by omega) _ _ ⟨vint ((wrap_small (by omega) (by omega)).trans (by omega)),rfl,rfl,trivial⟩ rfl rfl rfl
 ·exact AK.rz Tryz.func80 rfl
theorem t_eqCC (l:List (List (Bool × Int)))(hl:l.length≤1000000000)(h1:∀ x,x∈l→x.length≤1000000000):Pure X 36 [.sl (crss l) .no,.sl (crss l) .no] (vb true):=by
 have hlen:(crss l).length=l.length:=by simp [crss]
 refine Pure.run Tryz.func36 ?_
 refine AK.no ?_ (ht:=by simp)
 refine AK.while_ (ι:=Nat) 0 0 (fun i=>i≤l.length) (fun i=>[(5,vi i),(0,.sl (crss l) .no),(1,.sl (crss l) .no)]) (fun i=>⟨[],[]⟩) (fun i=>l.length-i) ?_ 0 (Nat.zero_le _)
  ⟨rfl,rfl,rfl,trivial⟩ rfl rfl rfl rfl rfl (fun _=>inferInstance) (fun _=>inferInstance)
 intro i hi IH
 refine AK.ev 100 rfl ?_
 refine AK.if_ (fun h=>?_) (fun h=>?_)
 ·have hlt:i<l.length:=by have:=of_decide_eq_true h;rw [hlen] at this;omega
  obtain ⟨x,hx⟩:=lget_of_lt l hlt
  refine AK.db 0 ?_
  refine Drv.ig i (by omega) (map_get (f:=crow) hx) ?_
  refine Drv.ig i (by omega) (map_get (f:=crow) hx) ?_
  refine Drv.pg (t_eqC x (h1 x (List.mem_of_getElem? hx))) ?_
  refine Drv.z ?_
  refine AK.no ?_ (ht:=by simp)
  exact IH (i+1) hlt (by omega) _ _ ⟨vint ((wrap_small (by omega) (by omega)).trans (by omega)),rfl,rfl,trivial⟩ rfl rfl rfl
 ·exact AK.rz Tryz.func36 rfl
theorem t_szI (rows:List (List AV)) [h:OKR 0 0 rows](left:Int)(h0:0≤left)(h1:left≤1048576)(hl:rows.length≤9223372036854775807):Pure X 19 [.sl rows .no,vi left] (vi (szR rows.length left)):=by
 have hw:IntKind.i64.wrap (left-rows.length)=left-rows.length:=wrap_small (by omega) (by omega)
 have e0:szR rows.length left=if left-rows.length<0 then -1 else left-rows.length:=by unfold szR;split<;>split<;>omega
 rw [e0,← hw]
 refine Pure.run Tryz.func19 ?_
 refine AK.if_ (fun g=>?_) (fun g=>?_)
 ·refine AK.rz Tryz.func19 ?_
  rw [if_pos (of_decide_eq_true g)]
 ·refine AK.rz Tryz.func19 ?_
  rw [if_neg (of_decide_eq_false g)]
theorem t_szC (rows:List (List AV)) [h:OKR 0 0 rows](left:Int)(h0:0≤left)(h1:left≤1048576)(hl:rows.length≤9223372036854775807):Pure X 46 [.sl rows .no,vi left] (vi (szR rows.length left)):=by
 have hw:IntKind.i64.wrap (left-rows.length)=left-rows.length:=wrap_small (by omega) (by omega)
 have e0:szR rows.length left=if left-rows.length<0 then -1 else left-rows.length:=by unfold szR;split<;>split<;>omega
 rw [e0,← hw]
 refine Pure.run Tryz.func46 ?_
 refine AK.if_ (fun g=>?_) (fun g=>?_)
 ·refine AK.rz Tryz.func46 ?_
  rw [if_pos (of_decide_eq_true g)]
 ·refine AK.rz Tryz.func46 ?_
  rw [if_neg (of_decide_eq_false g)]
def swC:List (List (Bool × Int))→Nat
 | []=>0
 | x::l=>x.length+swC l
theorem t_szCC (l:List (List (Bool × Int)))(left:Int)(h0:0≤left)(h1:left≤1048576)(hl:l.length≤9223372036854775807)(hx:∀ x,x∈l→x.length≤9223372036854775807) :
 Pure X 20 [.sl (crss l) .no,vi left] (vi (szR (l.length+swC l) left)):=by
 have hlen:(crss l).length=l.length:=by simp [crss]
 have hw:IntKind.i64.wrap (left-(crss l).length)=left-l.length:=by rw [hlen];exact wrap_small (by omega) (by omega)
 refine Pure.run Tryz.func20 ?_
 refine AK.if_ (fun g=>?_) (fun g=>?_)
 ·have g':=of_decide_eq_true g
  rw [hw] at g'
  refine AK.rz Tryz.func20 ?_
  rw [szR_lt (by omega)]
 have g':=of_decide_eq_false g
 rw [hw] at g'
 have e0:szR (l.length+swC l) left=szR (swC l) (IntKind.i64.wrap (left-(crss l).length)):=by rw [hw,szR_add (by omega)]
 rw [e0]
 have hb:0≤IntKind.i64.wrap (left-(crss l).length)∧IntKind.i64.wrap (left-(crss l).length)≤1048576:=by rw [hw];omega
 generalize IntKind.i64.wrap (left-(crss l).length)=lf0 at hb
 refine AK.while_ (ι:=Nat × Int) 0 0 (fun i=>i.1≤l.length∧0≤i.2∧i.2≤1048576∧szR (swC l) lf0=szR (swC (l.drop i.1)) i.2) (fun i=>[(5,vi i.1),(1,vi i.2),(0,.sl (crss l) .no)]) (fun _=>⟨[],[]⟩) (fun i=>l.length-i.1) ?_ (0,lf0) ⟨Nat.zero_le _,hb.1,hb.2,rfl⟩
  ⟨rfl,rfl,rfl,trivial⟩ rfl rfl rfl rfl rfl (fun _=>inferInstance) (fun _=>inferInstance)
 rintro ⟨i,lf⟩ ⟨hi,hp0,hp1,hT⟩ IH
 simp only at hi hp0 hp1 hT IH ⊢
 refine AK.ev 100 rfl ?_
 refine AK.if_ (fun h=>?_) (fun h=>?_)
 ·have hlt:i<l.length:=by have:=of_decide_eq_true h;rw [hlen] at this;omega
  obtain ⟨x,hx1⟩:=lget_of_lt l hlt
  rw [drop_cons hx1] at hT
  simp only [swC] at hT
  have hs:=t_szC (crs x) lf hp0 hp1 (by rw [crs_len];exact hx x (List.mem_of_getElem? hx1))
  rw [crs_len] at hs
  refine AK.ix i (by omega) (map_get (f:=crow) hx1) ?_
  refine AK.pc hs ?_
  refine AK.if_ (fun g2=>?_) (fun g2=>?_)
  ·have g2':=szR_neg hp0 (of_decide_eq_true g2)
   refine AK.rz Tryz.func20 ?_
   rw [hT,szR_lt g2'.2]
  ·have g2':=szR_pos (show 0≤szR x.length lf by have:=of_decide_eq_false g2;omega)
   refine IH (i+1,szR x.length lf) ⟨hlt,?_,?_,?_⟩ (by simp only;omega) _ _ ⟨vint ((wrap_small (by omega) (by omega)).trans (by simp)),rfl,rfl,trivial⟩ rfl rfl rfl
   ·show 0≤szR x.length lf;omega
   ·show szR x.length lf≤_;omega
   ·rw [hT,szR_add g2'.2,g2'.1]
 ·have:i=l.length:=by have:=of_decide_eq_false h;rw [hlen] at this;omega
  subst this
  rw [List.drop_length] at hT
  refine AK.rz Tryz.func20 ?_
  rw [hT]
  unfold szR swC
  rw [if_pos (by simpa using hp0)];simp
def isV (x:Int):Bool:=between x (-1000000) 1000000
def cellB (c:Bool × Int):Bool:=isV c.2&&(c.1||(c.2==0))
def rowB (x:List (Bool × Int))(s:Int):Bool:=decide (x.length≤60)&&((!decide (s≥0)||((x.length:Int)==s))&&x.all cellB)
def rowsB:List (List (Bool × Int))→List Int→Bool
 | x::l,s::ss=>rowB x s&&rowsB l ss
 | _,_=>true
def tailB (es:List Eg)(c:Cf):Bool :=
 if c.trap=0 then (c.edge==0)&&(c.acc==0) else between c.edge 0 ((es.length:Int)-1)&&(((es.map Eg.f).getD c.edge.toNat (-1)==c.pt)&&between c.acc 0 500)
def confS (pts nv na:Nat)(ss:List Int)(es:List Eg)(c:Cf):Bool :=
 between c.pt 0 ((pts:Int)-1)&&((c.vars.length==nv)&&((c.cells.length==na)&&(between c.used 0 100&&(between c.steps 0 5000&&(between c.trap 0 5&&(c.vars.all isV&&(rowsB c.cells ss&&tailB es c)))))))
theorem p_val (x:Int):Pure X 56 [vi x] (vb (isV x)):=by
 refine Pure.run Tryz.func56 ?_
 refine AK.pc (p_between x (-1000000) 1000000) ?_
 exact AK.rz Tryz.func56 rfl
theorem q_cellOk (c:Bool × Int):Pure X 65 [.agg (ccell c)] (vb (cellB c)):=by
 obtain ⟨w,m⟩:=c
 refine Pure.run Tryz.func65 ?_
 cases w with
 | true =>
   refine AK.gy ?_
   refine AK.pc (q_isVal m) ?_
   refine AK.gd (fun g=>?_) (fun g=>?_)
   ·have g':isV m=true:=g
    refine AK.rz Tryz.func65 ?_
    simp [cellB,g']
   ·have g':isV m=false:=g
    refine AK.gn ?_
    refine AK.rz Tryz.func65 ?_
    simp [cellB,g']
 | false =>
   refine AK.gn ?_
   refine AK.gn ?_
   refine AK.gy ?_
   refine AK.rz Tryz.func65 ?_
   by_cases h:m=0
   ·subst h;rfl
   ·simp [cellB,h]
def idxG {α:Type}(p:α→Bool):Nat→List α→Int
 | _,[]=>-1
 | i,x::l=>if p x then i else idxG p (i+1) l
theorem idxG_any {α:Type}(p:α→Bool):∀ (l:List α)(i:Nat),decide (idxG p i l≥0)=l.any p
 | [],i=>by simp [idxG]
 | x::l,i=>by
   have hb:(x::l).any p=(p x||l.any p):=rfl
   rw [hb,← idxG_any p l (i+1)]
   by_cases h:p x=true
   ·simp [idxG,h]
   ·have h':p x=false:=by simpa using h
    have:idxG p i (x::l)=idxG p (i+1) l:=by simp only [idxG];rw [if_neg h]
    rw [this,h'];rfl
theorem q_cfC (c:Bool × Int):Pure X 64 [.agg (ccell c)] (vb (!cellB c)):=by
 refine Pure.run Tryz.func64 ?_
 refine AK.pc (q_cellOk c) ?_
 exact AK.rz Tryz.func64 rfl
theorem q_cfI (x:Int):Pure X 67 [vi x] (vb (!isV x)):=by
 refine Pure.run Tryz.func67 ?_
 refine AK.pc (q_isVal x) ?_
 exact AK.rz Tryz.func67 rfl
theorem q_idxC (l:List (Bool × Int))(hl:l.length≤1000000000)  : Pure X 108 [.sl (crs l) .no,.fn 64 []] (vi (idxG (fun x=>!cellB x) 0 l)):=by
 have hlen:(crs l).length=l.length:=by simp [crs]
 refine Pure.run Tryz.func108 ?_
 refine AK.while_ (ι:=Nat) 0 0 (fun i=>i≤l.length∧idxG (fun x=>!cellB x) 0 l=idxG (fun x=>!cellB x) i (l.drop i)) (fun i=>[(8,vi i),(7,vi l.length),(0,.sl (crs l) .no),(1,.fn 64 [])]) (fun _=>⟨[],[]⟩) (fun i=>l.length-i) ?_ 0 ⟨Nat.zero_le _,rfl⟩
  ⟨rfl,by rw [← hlen];rfl,rfl,rfl,trivial⟩ rfl rfl rfl rfl rfl (fun _=>inferInstance) (fun _=>inferInstance)
 intro i hi IH
 refine AK.ev 100 rfl ?_
 refine AK.if_ (fun h=>?_) (fun h=>?_)
 ·have hlt:i<l.length:=by have:=of_decide_eq_true h;omega
  obtain ⟨x,hx⟩:=lget_of_lt l hlt
  have hd:idxG (fun x=>!cellB x) i (l.drop i)=if ((fun x=>!cellB x)) x then (i:Int) else idxG (fun x=>!cellB x) (i+1) (l.drop (i+1)):=by rw [drop_cons hx];rfl
  refine AK.ix i (by omega) (map_get (f:=ccell) hx) ?_
  refine AK.pc (q_cfC x) ?_
  refine AK.if_ (fun h2=>?_) (fun h2=>?_)
  ·refine AK.rt Tryz.func108 ?_
   have h3:((fun x=>!cellB x)) x=true:=h2
   rw [hi.2,hd,h3];rfl
  ·have h3:((fun x=>!cellB x)) x=false:=h2
   exact IH (i+1) ⟨hlt,by rw [hi.2,hd,h3];rfl⟩ (by omega) _ _ ⟨vint ((wrap_small (by omega) (by omega)).trans (by omega)),rfl,rfl,rfl,trivial⟩ rfl rfl rfl
 ·have:i=l.length:=by have:=of_decide_eq_false h;omega
  refine AK.rt Tryz.func108 ?_
  rw [hi.2,this,List.drop_length];rfl
theorem q_idxIF (l:List (Int))(hl:l.length≤1000000000)  : Pure X 109 [.sl (zrs l) .no,.fn 67 []] (vi (idxG (fun x=>!isV x) 0 l)):=by
 have hlen:(zrs l).length=l.length:=by simp [zrs]
 refine Pure.run Tryz.func109 ?_
 refine AK.while_ (ι:=Nat) 0 0 (fun i=>i≤l.length∧idxG (fun x=>!isV x) 0 l=idxG (fun x=>!isV x) i (l.drop i)) (fun i=>[(8,vi i),(7,vi l.length),(0,.sl (zrs l) .no),(1,.fn 67 [])]) (fun _=>⟨[],[]⟩) (fun i=>l.length-i) ?_ 0 ⟨Nat.zero_le _,rfl⟩
  ⟨rfl,by rw [← hlen];rfl,rfl,rfl,trivial⟩ rfl rfl rfl rfl rfl (fun _=>inferInstance) (fun _=>inferInstance)
 intro i hi IH
 refine AK.ev 100 rfl ?_
 refine AK.if_ (fun h=>?_) (fun h=>?_)
 ·have hlt:i<l.length:=by have:=of_decide_eq_true h;omega
  obtain ⟨x,hx⟩:=lget_of_lt l hlt
  have hd:idxG (fun x=>!isV x) i (l.drop i)=if ((fun x=>!isV x)) x then (i:Int) else idxG (fun x=>!isV x) (i+1) (l.drop (i+1)):=by rw [drop_cons hx];rfl
  refine AK.ix i (by omega) (map_get (f:=icell) hx) ?_
  refine AK.pc (q_cfI x) ?_
  refine AK.if_ (fun h2=>?_) (fun h2=>?_)
  ·refine AK.rt Tryz.func109 ?_
   have h3:((fun x=>!isV x)) x=true:=h2
   rw [hi.2,hd,h3];rfl
  ·have h3:((fun x=>!isV x)) x=false:=h2
   exact IH (i+1) ⟨hlt,by rw [hi.2,hd,h3];rfl⟩ (by omega) _ _ ⟨vint ((wrap_small (by omega) (by omega)).trans (by omega)),rfl,rfl,rfl,trivial⟩ rfl rfl rfl
 ·have:i=l.length:=by have:=of_decide_eq_false h;omega
  refine AK.rt Tryz.func109 ?_
  rw [hi.2,this,List.drop_length];rfl
theorem q_idxI (l:List (Int))(hl:l.length≤1000000000)(v:Int):Pure X 110 [.sl (zrs l) .no,vi v] (vi (idxG (fun x=>v==x) 0 l)):=by
 have hlen:(zrs l).length=l.length:=by simp [zrs]
 refine Pure.run Tryz.func110 ?_
 refine AK.while_ (ι:=Nat) 0 0 (fun i=>i≤l.length∧idxG (fun x=>v==x) 0 l=idxG (fun x=>v==x) i (l.drop i)) (fun i=>[(8,vi i),(7,vi l.length),(0,.sl (zrs l) .no),(1,vi v)]) (fun _=>⟨[],[]⟩) (fun i=>l.length-i) ?_ 0 ⟨Nat.zero_le _,rfl⟩
  ⟨rfl,by rw [← hlen];rfl,rfl,rfl,trivial⟩ rfl rfl rfl rfl rfl (fun _=>inferInstance) (fun _=>inferInstance)
 intro i hi IH
 refine AK.ev 100 rfl ?_
 refine AK.if_ (fun h=>?_) (fun h=>?_)
 ·have hlt:i<l.length:=by have:=of_decide_eq_true h;omega
  obtain ⟨x,hx⟩:=lget_of_lt l hlt
  have hd:idxG (fun x=>v==x) i (l.drop i)=if ((fun x=>v==x)) x then (i:Int) else idxG (fun x=>v==x) (i+1) (l.drop (i+1)):=by rw [drop_cons hx];rfl
  refine AK.ix i (by omega) (map_get (f:=icell) hx) ?_
  skip
  refine AK.if_ (fun h2=>?_) (fun h2=>?_)
  ·refine AK.rt Tryz.func110 ?_
   have h3:((fun x=>v==x)) x=true:=h2
   rw [hi.2,hd,h3];rfl
  ·have h3:((fun x=>v==x)) x=false:=h2
   exact IH (i+1) ⟨hlt,by rw [hi.2,hd,h3];rfl⟩ (by omega) _ _ ⟨vint ((wrap_small (by omega) (by omega)).trans (by omega)),rfl,rfl,rfl,trivial⟩ rfl rfl rfl
 ·have:i=l.length:=by have:=of_decide_eq_false h;omega
  refine AK.rt Tryz.func110 ?_
  rw [hi.2,this,List.drop_length];rfl
theorem q_conC (l:List (Bool × Int))(hl:l.length≤1000000000):Pure X 63 [.sl (crs l) .no,.fn 64 []] (vb (!(l.all cellB))):=by
 have e:(!(l.all cellB))=l.any fun x=>!cellB x:=List.not_all_eq_any_not
 rw [e]
 refine Pure.run Tryz.func63 ?_
 refine AK.pc (q_idxC l hl) ?_
 refine AK.rt Tryz.func63 ?_
 rw [← idxG_any _ l 0];rfl
theorem q_conIF (l:List Int)(hl:l.length≤1000000000):Pure X 66 [.sl (zrs l) .no,.fn 67 []] (vb (!(l.all isV))):=by
 have e:(!(l.all isV))=l.any fun x=>!isV x:=List.not_all_eq_any_not
 rw [e]
 refine Pure.run Tryz.func66 ?_
 refine AK.pc (q_idxIF l hl) ?_
 refine AK.rt Tryz.func66 ?_
 rw [← idxG_any _ l 0];rfl
theorem q_conI (l:List Int)(hl:l.length≤1000000000)(v:Int):Pure X 70 [.sl (zrs l) .no,vi v] (vb (l.any fun x=>v==x)):=by
 refine Pure.run Tryz.func70 ?_
 refine AK.pc (q_idxI l hl v) ?_
 refine AK.rt Tryz.func70 ?_
 rw [← idxG_any _ l 0];rfl
theorem led_any (es:List Eg)(p:Nat)(v:Int):∀ k:Nat,((ledI Eg.f p k es).any fun x=>v==(x:Int))=(decide ((k:Int)≤v)&&(decide (v<(k:Int)+es.length)&&((es.map Eg.f).getD (v-k).toNat (-1)==p))):=by
 induction es with
 | nil=>intro k;simp [ledI]
 | cons e es ih =>
   intro k
   have hrec:=ih (k+1)
   by_cases hv:v=k
   ·subst hv
    have h0:((es.map Eg.f))=es.map Eg.f:=rfl
    simp only [ledI]
    by_cases he:e.f=p
    ·simp [he];omega
    ·rw [if_neg he,hrec]
     have a:decide (((k+1:Nat):Int)≤(k:Int))=false:=by simp;omega
     rw [a];simp [he]
   ·have hne:(v==(k:Int))=false:=by simpa using hv
    have hg:((e::es).map Eg.f).getD (v-k).toNat (-1)=if v<k then e.f else (es.map Eg.f).getD (v-(k+1:Nat)).toNat (-1):=by
     by_cases hlt:v<k
     ·rw [if_pos hlt,show (v-(k:Int)).toNat=0 by omega];rfl
     ·rw [if_neg hlt,show (v-(k:Int)).toNat=(v-((k+1:Nat):Int)).toNat+1 by omega];rfl
    have hstep:((ledI Eg.f p k (e::es)).any fun x=>v==(x:Int))=((ledI Eg.f p (k+1) es).any fun x=>v==(x:Int)):=by
     simp only [ledI]
     split
     ·simp [hne]
     ·rfl
    rw [hstep,hrec,hg]
    by_cases hlt:v<k
    ·have a:decide ((k:Int)≤v)=false:=by simpa using hlt
     have b:decide (((k+1:Nat):Int)≤v)=false:=by simp;omega
     rw [a,b];rfl
    ·have a:decide ((k:Int)≤v)=true:=by simp;omega
     have b:decide (((k+1:Nat):Int)≤v)=true:=by simp;omega
     have c:decide (v<(k:Int)+((e::es).length:Nat))=decide (v<((k+1:Nat):Int)+(es.length:Nat)):=by
      simp only [List.length_cons]
      exact decide_eq_decide.2 (by omega)
     rw [a,b,if_neg hlt,c]
theorem irs_zrs (l:List Nat):irs l=zrs (l.map fun (i:Nat)=>(i:Int)):=by simp [irs,zrs]
theorem ledR_get (f:Eg→Int)(l:List Eg){pts j:Nat}(h:j<pts):(ledR f l pts)[j]?=some [.sl (irs (ledL f l j)) .no]:=by simp [ledR,h]
theorem led_in (es:List Eg)(p:Nat)(v:Int):((ledL Eg.f es p).map fun (i:Nat)=>(i:Int)).any (fun x=>v==x)=(between v 0 ((es.length:Int)-1)&&((es.map Eg.f).getD v.toNat (-1)==p)):=by
 rw [List.any_map]
 have:=led_any es p v 0
 unfold ledL
 rw [show ((fun x=>v==x) ∘ fun (i:Nat)=>(i:Int))=fun (x:Nat)=>v==(x:Int) from rfl,this,← Bool.and_assoc]
 congr 1
 ·unfold between
  congr 1
  exact decide_eq_decide.2 (by omega)
 ·simp
abbrev confN (n:Nd)(c:Cf):Bool:=confS (gAll (planL n)).pts (declS n 31).length (declS n 32).length (sizesT n) (gEs (planL n)) c
structure CfOk (c:Cf):Prop where
 vars:c.vars.length≤1000000000
 cells:c.cells.length≤1000000000
 rows:∀ x,x∈c.cells→x.length≤1000000000
theorem sizesT_len (n:Nd):(sizesT n).length=(declS n 32).length:=by rw [declS_K,sizesT,List.length_map,List.length_map]
theorem es_len {n:Nd}(hr:rightS n=true):(gAll (planL n)).pts≤2000000∧(gEs (planL n)).length≤2000000:=by
 obtain ⟨fp,hc,hw,hne,hkl⟩:=right_facts hr
 obtain ⟨ds,hpl,_,hps,hwl⟩:=FP_plan fp
 have hpw:=(plain_w n).1
 have hps2:=PSL_le hps nd0 ⟨1,0,[],[],[],0⟩ (by decide)
 have hl:=leaf_le 6 nd0 hps2.pt
 have hA:=hps2.trans hl (Nat.le_refl _)
 obtain ⟨es,e1,e2,e3⟩:=hA.es
 have hpp:=hA.pts
 simp only [bG] at e2 hpp
 have hes:(gAll (planL n)).es=es:=by unfold gAll;rw [e1];rfl
 refine ⟨by show _≤_;unfold gAll;have:(1:Nat)=(⟨1,0,[],[],[],0⟩:Gr).pts:=rfl;omega,by unfold gEs;rw [hes,List.length_map];omega⟩
theorem q_cf13 (n:Nd)(c:Cf)(hE:(gEs (planL n)).length≤2000000)(h0:0≤c.pt)(h1:c.pt<(gAll (planL n)).pts)(ht:¬ c.trap=0)(h6:between c.trap 1 5=true) :
 AK X ⟨30,Tryz.f30,0,0⟩ (locG false 13 Tryz.f30) [(0,.cptr (progC n)),(3,.ptr 0 0 0)] ⟨[[cfcells c]],[]⟩ (fun e S=>e=.ret (vb (tailB (gEs (planL n)) c))∧S=⟨[],[]⟩):=by
 obtain ⟨j,hj⟩:=Int.eq_ofNat_of_zero_le h0
 have hl:=ledI_len Eg.f j (gEs (planL n)) 0
 have hc:=q_conI ((ledL Eg.f (gEs (planL n)) j).map fun (i:Nat)=>(i:Int)) (by rw [List.length_map];unfold ledL;omega) c.edge
 rw [← irs_zrs,led_in,← hj] at hc
 have hg:(ledR Eg.f (gEs (planL n)) (gAll (planL n)).pts)[c.pt.toNat]?=some [.sl (irs (ledL Eg.f (gEs (planL n)) j)) .no]:=by rw [hj];exact ledR_get Eg.f _ (by omega)
 have e0:tailB (gEs (planL n)) c=((between c.edge 0 (((gEs (planL n)).length:Int)-1)&&((((gEs (planL n))).map Eg.f).getD c.edge.toNat (-1)==c.pt))&&between c.acc 0 500):=by unfold tailB;rw [if_neg ht,Bool.and_assoc]
 rw [e0]
 refine AK.at_ ?_
 refine AK.dn 0 2 ?_
 refine Drv.pc (q_inRange c.trap 1 5) ?_
 rw [h6]
 refine Drv.t true ?_
 refine Drv.go ?_
 refine Drv.ru (fun S'=>Ndo.index rfl rfl rfl rfl rfl rfl rfl rfl rfl h0 hg) ?_
 refine Drv.go ?_
 refine Drv.pc hc ?_
 refine Drv.gon 1 ?_
 cases hb:(between c.edge 0 (((gEs (planL n)).length:Int)-1)&&((((gEs (planL n))).map Eg.f).getD c.edge.toNat (-1)==c.pt)) with
 | false =>
   refine Drv.t false ?_
   refine Drv.go ?_
   refine Drv.z ?_
   exact AK.rz Tryz.func30 rfl
 | true =>
   refine Drv.t true ?_
   refine Drv.go ?_
   refine Drv.pg (q_inRange c.acc 0 500) ?_
   refine Drv.z ?_
   exact AK.rz Tryz.func30 rfl
set_option maxHeartbeats 2000000 in
theorem q_cf9 (n:Nd)(c:Cf)(hc:CfOk c)(hE:(gEs (planL n)).length≤2000000)(h0:0≤c.pt)(h1:c.pt<(gAll (planL n)).pts) :
 AK X ⟨30,Tryz.f30,0,0⟩ (locG false 9 Tryz.f30) [(0,.cptr (progC n)),(3,.ptr 0 0 0)] ⟨[[cfcells c]],[]⟩
  (fun e S=>e=.ret (vb (between c.used 0 100&&(between c.steps 0 5000&&(between c.trap 0 5&&(c.vars.all isV&&tailB (gEs (planL n)) c)))))∧S=⟨[],[]⟩):=by
 refine AK.at_ ?_
 refine AK.ev 100 rfl ?_
 refine AK.pc (q_conIF c.vars hc.vars) ?_
 cases hv:c.vars.all isV with
 | false =>
   refine AK.gy ?_
   refine AK.gy ?_
   refine AK.yes ?_
   refine AK.rz Tryz.func30 ?_
   simp
 | true =>
   refine AK.gn ?_
   refine AK.pc (q_inRange c.used 0 100) ?_
   cases hu:between c.used 0 100 with
   | false =>
     refine AK.gy ?_
     refine AK.yes ?_
     refine AK.rz Tryz.func30 ?_
     simp
   | true =>
     refine AK.gn ?_
     refine AK.pc (q_inRange c.steps 0 5000) ?_
     cases hs:between c.steps 0 5000 with
     | false =>
       refine AK.yes ?_
       refine AK.rz Tryz.func30 ?_
       simp
     | true =>
       refine AK.no ?_
       refine AK.ifj 0 13 (fun ht=>?_) (fun ht=>?_)
       ·have ht':c.trap=0:=by simpa using (show (c.trap==0)=true from ht)
        have e0:tailB (gEs (planL n)) c=((c.edge==0)&&(c.acc==0)):=by unfold tailB;rw [if_pos ht']
        have e1:between c.trap 0 5=true:=by rw [ht'];rfl
        rw [e0,e1]
        refine AK.ev 100 rfl ?_
        refine AK.gd (fun g=>?_) (fun g=>?_)
        ·have g':(c.edge==0)=true:=g
         refine AK.rz Tryz.func30 ?_
         rw [g'];simp
        ·have g':(c.edge==0)=false:=g
         refine AK.rz Tryz.func30 ?_
         rw [g'];rfl
       ·have ht':¬ c.trap=0:=by simpa using (show (c.trap==0)=false from ht)
        cases h6:between c.trap 1 5 with
        | true =>
          have e1:between c.trap 0 5=true:=by rw [between_iff] at h6 ⊢;omega
          rw [e1]
          have:=q_cf13 n c hE h0 h1 ht' h6
          simp only [Bool.true_and]
          exact AK.back' 1 0 this ⟨rfl,rfl,trivial⟩ rfl rfl rfl rfl rfl
        | false =>
          have e1:between c.trap 0 5=false:=by
           cases h7:between c.trap 0 5 with
           | false=>rfl
           | true =>
             rw [between_iff] at h7
             rw [between_iff.2 (by omega)] at h6;cases h6
          rw [e1]
          refine AK.dn 0 2 ?_
          refine Drv.pc (q_inRange c.trap 1 5) ?_
          rw [h6]
          refine Drv.t false ?_
          refine Drv.gon 12 ?_
          refine Drv.t false ?_
          refine Drv.go ?_
          refine Drv.z ?_
          exact AK.rz Tryz.func30 rfl
theorem rowsB_drop {l:List (List (Bool × Int))}{ss:List Int}{i:Nat}{x:List (Bool × Int)}{s:Int}(hx:l[i]?=some x)(hs:ss[i]?=some s):rowsB (l.drop i) (ss.drop i)=(rowB x s&&rowsB (l.drop (i+1)) (ss.drop (i+1))):=by rw [drop_cons hx,drop_cons hs];rfl
theorem q_confOk (n:Nd)(hr:rightS n=true)(c:Cf)(hc:CfOk c):Pure X 30 [.cptr (progC n),cf c] (vb (confN n c)):=by
 obtain ⟨hP,hE⟩:=es_len hr
 obtain ⟨fp,_,hw,hne,hkl⟩:=right_facts hr
 have hd1:=declS_le n 31
 have hd2:=declS_le n 32
 have hsz:=sizesT_len n
 have l1:((zrs c.vars).length:Int)=c.vars.length:=by rw [zrs_len]
 have l2:((crss c.cells).length:Int)=c.cells.length:=by rw [crss_len]
 have l3:((strR (declS n 31)).length:Int)=(declS n 31).length:=by rw [strR_len]
 have l4:((strR (declS n 32)).length:Int)=(declS n 32).length:=by rw [strR_len]
 show Pure X _ _ (vb (confS _ _ _ _ _ _))
 unfold confS
 refine Pure.run Tryz.func30 ?_
 refine AK.dn 0 7 ?_
 refine Drv.pc (q_isPlace c.pt (gAll (planL n)).pts (by omega) (by omega)) ?_
 refine Drv.gon 1 ?_
 cases h1:between c.pt 0 (((gAll (planL n)).pts:Int)-1) with
 | false =>
   refine Drv.t true ?_
   refine Drv.gon 10 ?_
   refine Drv.t true ?_
   refine Drv.go ?_
   refine Drv.z ?_
   refine AK.yes ?_
   exact AK.rz Tryz.func30 rfl
 | true =>
   have h1':=between_iff.1 h1
   refine Drv.t false ?_
   refine Drv.gon 10 ?_
   cases h2:(c.vars.length==(declS n 31).length) with
   | false =>
     have h2':¬ c.vars.length=(declS n 31).length:=by simpa using h2
     refine Drv.t true ?_ (hb:=by rw [l1,l3];simp;omega)
     refine Drv.go ?_
     refine Drv.z ?_
     refine AK.yes ?_
     exact AK.rz Tryz.func30 rfl
   | true =>
     have h2':c.vars.length=(declS n 31).length:=by simpa using h2
     refine Drv.t false ?_ (hb:=by rw [l1,l3];simp;omega)
     refine Drv.go ?_
     refine Drv.z ?_
     cases h3:(c.cells.length==(declS n 32).length) with
     | false =>
       have h3':¬ c.cells.length=(declS n 32).length:=by simpa using h3
       refine AK.yes ?_ (ht:=by rw [l2,l4];simp;omega)
       exact AK.rz Tryz.func30 rfl
     | true =>
       have h3':c.cells.length=(declS n 32).length:=by simpa using h3
       refine AK.no ?_ (ht:=by rw [l2,l4];simp;omega)
       have L9:=q_cf9 n c hc hE h1'.1 (by omega)
       simp only [Bool.true_and]
       generalize hG:(between c.used 0 100&&(between c.steps 0 5000&&(between c.trap 0 5&&(c.vars.all isV&&tailB (gEs (planL n)) c))))=G at L9
       have hG2:(between c.used 0 100&&(between c.steps 0 5000&&(between c.trap 0 5&&(c.vars.all isV&&(rowsB c.cells (sizesT n)&&tailB (gEs (planL n)) c)))))=(rowsB c.cells (sizesT n)&&G):=by
        rw [← hG]
        cases rowsB c.cells (sizesT n)<;>simp
       rw [hG2]
       refine AK.while_ (ι:=Nat) 1 0 (fun i=>i≤c.cells.length∧rowsB c.cells (sizesT n)=rowsB (c.cells.drop i) ((sizesT n).drop i)) (fun i=>[(41,vi i),(40,vi c.cells.length),(39,.sl (crss c.cells) .no),(0,.cptr (progC n)),(3,.ptr 0 0 0)])
        (fun _=>⟨[[cfcells c]],[]⟩) (fun i=>c.cells.length-i) ?_ 0 ⟨Nat.zero_le _,rfl⟩ ⟨rfl,by rw [← l2];rfl,rfl,rfl,rfl,trivial⟩ rfl rfl rfl rfl rfl (fun _=>inferInstance) (fun _=>inferInstance)
       rintro i ⟨hi,hT⟩ IH
       refine AK.ev 100 rfl ?_
       refine AK.ifj 0 9 (fun h=>?_) (fun h=>?_)
       ·have hlt:i<c.cells.length:=by have:=of_decide_eq_true h;omega
        obtain ⟨x,hx⟩:=lget_of_lt c.cells hlt
        obtain ⟨s,hs⟩:=lget_of_lt (sizesT n) (i:=i) (by omega)
        rw [rowsB_drop hx hs] at hT
        have hxl:=hc.rows x (List.mem_of_getElem? hx)
        have l5:((crs x).length:Int)=x.length:=by rw [crs_len]
        have bad:rowB x s=false→(rowsB c.cells (sizesT n)&&G)=false:=fun hb=>by rw [hT,hb];rfl
        refine AK.ix i (by omega) (map_get (f:=crow) hx) ?_
        refine AK.ix i (by omega) (zrs_get hs) ?_
        refine AK.gd (fun g=>?_) (fun g=>?_)
        ·have g':=of_decide_eq_true g
         refine AK.ix i (by omega) (zrs_get hs) ?_
         refine AK.gd (fun g2=>?_) (fun g2=>?_)
         ·have g2':¬ (x.length:Int)=s:=by rw [l5] at g2;simpa using g2
          refine AK.gy ?_
          refine AK.yes ?_
          refine AK.rz Tryz.func30 ?_
          rw [bad (by simp [rowB,g2'];omega)]
         ·have g2':(x.length:Int)=s:=by rw [l5] at g2;simpa using g2
          have SZ:(!decide (s≥0)||((x.length:Int)==s))=true:=by simp [g2']
          refine AK.gd (fun g3=>?_) (fun g3=>?_)
          ·have g3':¬ x.length≤60:=by have:=of_decide_eq_true g3;rw [l5] at this;omega
           refine AK.yes ?_
           refine AK.rz Tryz.func30 ?_
           rw [bad (by simp [rowB,g3'])]
          ·have g3':x.length≤60:=by have:=of_decide_eq_false g3;rw [l5] at this;omega
           refine AK.pc (q_conC x hxl) ?_
           refine AK.if_ (fun g4=>?_) (fun g4=>?_)
           ·have g4':x.all cellB=false:=by simpa using (show (!x.all cellB)=true from g4)
            refine AK.rz Tryz.func30 ?_
            rw [bad (by unfold rowB;rw [g4'];simp)]
           ·have g4':x.all cellB=true:=by simpa using (show (!x.all cellB)=false from g4)
            have hrow:rowB x s=true:=by unfold rowB;rw [g4',SZ];simp [g3']
            refine IH (i+1) ⟨hlt,by rw [hT,hrow];rfl⟩ (by omega) _ _ ⟨vint ((wrap_small (by omega) (by omega)).trans (by omega)),rfl,rfl,rfl,rfl,trivial⟩ rfl rfl rfl
        ·have g':=of_decide_eq_false g
         have SZ:(!decide (s≥0)||((x.length:Int)==s))=true:=by rw [decide_eq_false (show ¬ s≥0 by omega)];rfl
         refine AK.gn ?_
         refine AK.gd (fun g3=>?_) (fun g3=>?_)
         ·have g3':¬ x.length≤60:=by have:=of_decide_eq_true g3;rw [l5] at this;omega
          refine AK.yes ?_
          refine AK.rz Tryz.func30 ?_
          rw [bad (by simp [rowB,g3'])]
         ·have g3':x.length≤60:=by have:=of_decide_eq_false g3;rw [l5] at this;omega
          refine AK.pc (q_conC x hxl) ?_
          refine AK.if_ (fun g4=>?_) (fun g4=>?_)
          ·have g4':x.all cellB=false:=by simpa using (show (!x.all cellB)=true from g4)
           refine AK.rz Tryz.func30 ?_
           rw [bad (by unfold rowB;rw [g4'];simp)]
          ·have g4':x.all cellB=true:=by simpa using (show (!x.all cellB)=false from g4)
           have hrow:rowB x s=true:=by unfold rowB;rw [g4',SZ];simp [g3']
           refine IH (i+1) ⟨hlt,by rw [hT,hrow];rfl⟩ (by omega) _ _ ⟨vint ((wrap_small (by omega) (by omega)).trans (by omega)),rfl,rfl,rfl,rfl,trivial⟩ rfl rfl rfl
       ·have hie:i=c.cells.length:=by have:=of_decide_eq_false h;omega
        have hr1:rowsB c.cells (sizesT n)=true:=by rw [hT,hie,List.drop_length];rfl
        rw [hr1,Bool.true_and]
        exact AK.back' 1 0 L9 ⟨rfl,rfl,trivial⟩ rfl rfl rfl rfl rfl
abbrev Fsp (n:Nd):Frm:=[(2,.ptr 0 0 0),(3,.ptr 1 0 0)]
abbrev Ssp (n:Nd)(c:Cf):St:=⟨[[takeC n],[cfcells c]],[]⟩
theorem p_cf21 (n:Nd)(c:Cf)(hE:(gEs (planL n)).length≤2000000)(ht:¬ c.trap=0) :
 AK X ⟨47,Tryz.f47,0,0⟩ (locG false 21 Tryz.f47) (Fsp n) (Ssp n c) (fun e S=>e=.ret (vb (tailB (gEs (planL n)) c))∧S=⟨[],[]⟩):=by
 have l1:((erows (gEs (planL n))).length:Int)=(gEs (planL n)).length:=by rw [erows_len]
 have hw:IntKind.i64.wrap ((erows (gEs (planL n))).length-1)=(gEs (planL n)).length-1:=by rw [l1];exact wrap_small (by omega) (by omega)
 have hb:=p_between c.edge 0 (IntKind.i64.wrap ((erows (gEs (planL n))).length-1))
 rw [hw] at hb
 have e0:tailB (gEs (planL n)) c=((between c.edge 0 (((gEs (planL n)).length:Int)-1)&&((((gEs (planL n))).map Eg.f).getD c.edge.toNat (-1)==c.pt))&&between c.acc 0 500):=by unfold tailB;rw [if_neg ht,Bool.and_assoc]
 rw [e0]
 refine AK.at_ ?_
 refine AK.dn 0 7 ?_
 refine Drv.pc (p_between c.edge 0 (IntKind.i64.wrap ((erows (gEs (planL n))).length-1))) ?_
 rw [hw]
 cases h1:between c.edge 0 (((gEs (planL n)).length:Int)-1) with
 | false =>
   refine Drv.t false ?_
   refine Drv.gon 12 ?_
   refine Drv.t false ?_
   refine Drv.go ?_
   refine Drv.z ?_
   exact AK.rz Tryz.func47 rfl
 | true =>
   have h1':=between_iff.1 h1
   obtain ⟨e,he⟩:=lget_of_lt (gEs (planL n)) (i:=c.edge.toNat) (by omega)
   have hg:((gEs (planL n)).map Eg.f).getD c.edge.toNat (-1)=e.f:=by simp [List.getD,he]
   rw [hg]
   refine Drv.t true ?_
   refine Drv.go ?_
   refine Drv.ru (fun S'=>Ndo.index rfl rfl rfl rfl rfl rfl rfl rfl rfl h1'.1 (erows_get he)) ?_
   refine Drv.gon 6 ?_
   cases h2:(e.f==c.pt) with
   | false =>
     refine Drv.t false ?_
     refine Drv.go ?_
     refine Drv.z ?_
     exact AK.rz Tryz.func47 rfl
   | true =>
     refine Drv.t true ?_
     refine Drv.go ?_
     refine Drv.pg (p_between c.acc 0 500) ?_
     refine Drv.z ?_
     exact AK.rz Tryz.func47 rfl
theorem p_cf19 (n:Nd)(c:Cf)(hE:(gEs (planL n)).length≤2000000) :
 AK X ⟨47,Tryz.f47,0,0⟩ (locG false 19 Tryz.f47) (Fsp n) (Ssp n c) (fun e S=>e=.ret (vb (tailB (gEs (planL n)) c))∧S=⟨[],[]⟩):=by
 refine AK.at_ ?_
 refine AK.ev 100 rfl ?_
 refine AK.ifj 0 21 (fun ht=>?_) (fun ht=>?_)
 ·have ht':c.trap=0:=by simpa using (show (c.trap==0)=true from ht)
  have e0:tailB (gEs (planL n)) c=((c.edge==0)&&(c.acc==0)):=by unfold tailB;rw [if_pos ht']
  rw [e0]
  refine AK.ev 100 rfl ?_
  refine AK.gd (fun g=>?_) (fun g=>?_)
  ·have g':(c.edge==0)=true:=g
   refine AK.rz Tryz.func47 ?_
   rw [g'];rfl
  ·have g':(c.edge==0)=false:=g
   refine AK.rz Tryz.func47 ?_
   rw [g'];rfl
 ·have ht':¬ c.trap=0:=by simpa using (show (c.trap==0)=false from ht)
  exact AK.back' 2 0 (p_cf21 n c hE ht') ⟨rfl,rfl,trivial⟩ rfl rfl rfl rfl rfl
theorem cellB_and (l:List (Bool × Int)){i:Nat}{x:Bool × Int}(h:l[i]?=some x):(l.drop i).all cellB=(cellB x&&(l.drop (i+1)).all cellB):=by rw [drop_cons h];rfl
theorem p_cf8 (n:Nd)(c:Cf)(hc:CfOk c)(hE:(gEs (planL n)).length≤2000000)(hss:(sizesT n).length=c.cells.length) :
 AK X ⟨47,Tryz.f47,0,0⟩ (locG false 8 Tryz.f47) (Fsp n) (Ssp n c) (fun e S=>e=.ret (vb (rowsB c.cells (sizesT n)&&tailB (gEs (planL n)) c))∧S=⟨[],[]⟩):=by
 have L19:=p_cf19 n c hE
 have hcc:=hc.cells
 generalize tailB (gEs (planL n)) c=G at L19 ⊢
 refine AK.at_ ?_
 refine AK.ev 100 rfl ?_
 refine AK.while_ (ι:=Nat) 2 0 (fun i=>i≤c.cells.length∧rowsB c.cells (sizesT n)=rowsB (c.cells.drop i) ((sizesT n).drop i)) (fun i=>[(6,vi i),(2,.ptr 0 0 0),(3,.ptr 1 0 0)])
  (fun _=>Ssp n c) (fun i=>c.cells.length-i) ?_ 0 ⟨Nat.zero_le _,rfl⟩ ⟨rfl,rfl,rfl,trivial⟩ rfl rfl rfl rfl rfl (fun _=>inferInstance) (fun _=>inferInstance)
 rintro i ⟨hi,hT⟩ IH
 refine AK.ev 100 rfl ?_
 refine AK.ifj 0 19 (fun h=>?_) (fun h=>?_)
 ·have hlt:i<c.cells.length:=by have:=of_decide_eq_true h;rw [crss_len] at this;omega
  obtain ⟨x,hx⟩:=lget_of_lt c.cells hlt
  obtain ⟨s,hs⟩:=lget_of_lt (sizesT n) (i:=i) (by omega)
  rw [rowsB_drop hx hs] at hT
  have hxl:=hc.rows x (List.mem_of_getElem? hx)
  have l5:((crs x).length:Int)=x.length:=by rw [crs_len]
  have bad:rowB x s=false→(rowsB c.cells (sizesT n)&&G)=false:=fun hb=>by rw [hT,hb];rfl
  have inner:x.length≤60→(!decide (s≥0)||((x.length:Int)==s))=true→AK X ⟨47,Tryz.f47,0,0⟩ (locG false 13 Tryz.f47) [(6,vi i),(2,.ptr 0 0 0),(3,.ptr 1 0 0)] (Ssp n c) (fun e S=>e=.ret (vb (rowsB c.cells (sizesT n)&&G))∧S=⟨[],[]⟩):=fun k1 k2=>by
   have hrow:rowB x s=x.all cellB:=by unfold rowB;rw [k2,decide_eq_true k1];rfl
   refine AK.at_ ?_
   refine AK.ev 100 rfl ?_
   refine AK.while_ (ι:=Nat) 2 0 (fun j=>j≤x.length∧x.all cellB=(x.drop j).all cellB) (fun j=>[(7,vi j),(6,vi i),(2,.ptr 0 0 0),(3,.ptr 1 0 0)])
    (fun _=>Ssp n c) (fun j=>x.length-j) ?_ 0 ⟨Nat.zero_le _,rfl⟩ ⟨rfl,rfl,rfl,rfl,trivial⟩ rfl rfl rfl rfl rfl (fun _=>inferInstance) (fun _=>inferInstance)
   rintro j ⟨hj,hU⟩ JH
   refine AK.ev 100 rfl ?_
   refine AK.ix i (by omega) (map_get (f:=crow) hx) ?_
   refine AK.if_ (fun g=>?_) (fun g=>?_)
   ·have hjl:j<x.length:=by have:=of_decide_eq_true g;rw [l5] at this;omega
    obtain ⟨y,hy⟩:=lget_of_lt x hjl
    rw [cellB_and x hy] at hU
    obtain ⟨w,m⟩:=y
    have bad2:cellB (w,m)=false→(rowsB c.cells (sizesT n)&&G)=false:=fun hb=>bad (by rw [hrow,hU,hb];rfl)
    refine AK.ix i (by omega) (map_get (f:=crow) hx) ?_
    refine AK.ix j (by omega) (map_get (f:=ccell) hy) ?_
    refine AK.pc (p_val m) ?_
    cases hm:isV m with
    | false =>
      refine AK.gy ?_
      refine AK.yes ?_
      refine AK.rz Tryz.func47 ?_
      rw [bad2 (by unfold cellB;rw [hm];rfl)]
    | true =>
      refine AK.gn ?_
      cases w with
      | true =>
        refine AK.gn ?_
        refine AK.no ?_
        exact JH (j+1) ⟨hjl,by rw [hU];simp [cellB,hm]⟩ (by omega) _ _ ⟨vint ((wrap_small (by omega) (by omega)).trans (by omega)),rfl,rfl,rfl,trivial⟩ rfl rfl rfl
      | false =>
        refine AK.gy ?_
        refine AK.if_ (fun g4=>?_) (fun g4=>?_)
        ·have g4':¬ m=0:=by simpa using (show (m != 0)=true from g4)
         refine AK.rz Tryz.func47 ?_
         rw [bad2 (by simp [cellB,g4'])]
        ·have g4':m=0:=by simpa using (show (m != 0)=false from g4)
         have h1:cellB (false,m)=true:=by unfold cellB;rw [hm,g4'];rfl
         exact JH (j+1) ⟨hjl,by rw [hU,h1];rfl⟩ (by omega) _ _ ⟨vint ((wrap_small (by omega) (by omega)).trans (by omega)),rfl,rfl,rfl,trivial⟩ rfl rfl rfl
   ·have hje:j=x.length:=by have:=of_decide_eq_false g;rw [l5] at this;omega
    have hxa:x.all cellB=true:=by rw [hU,hje,List.drop_length];rfl
    exact IH (i+1) ⟨hlt,by rw [hT,hrow,hxa];rfl⟩ (by omega) _ _ ⟨vint ((wrap_small (by omega) (by omega)).trans (by omega)),rfl,rfl,trivial⟩ rfl rfl rfl
  refine AK.dn 0 3 ?_
  refine Drv.ru (fun S'=>Ndo.index rfl rfl rfl rfl rfl rfl rfl rfl rfl (by omega) (map_get (f:=crow) hx)) ?_
  refine Drv.gon 3 ?_
  by_cases k1:x.length≤60
  ·refine Drv.t false ?_ (hb:=decide_eq_false (by rw [l5];omega))
   refine Drv.go ?_
   refine Drv.ru (fun S'=>Ndo.index rfl rfl rfl rfl rfl rfl rfl rfl rfl (by omega) (zrs_get hs)) ?_
   refine Drv.gon 2 ?_
   by_cases k2:s≥0
   ·refine Drv.t true ?_ (hb:=decide_eq_true k2)
    refine Drv.go ?_
    refine Drv.ru (fun S'=>Ndo.index rfl rfl rfl rfl rfl rfl rfl rfl rfl (by omega) (map_get (f:=crow) hx)) ?_
    refine Drv.go ?_
    refine Drv.ru (fun S'=>Ndo.index rfl rfl rfl rfl rfl rfl rfl rfl rfl (by omega) (zrs_get hs)) ?_
    refine Drv.go ?_
    refine Drv.z ?_
    refine AK.ifj 0 13 (fun g=>?_) (fun g=>?_)
    ·have g':¬ (x.length:Int)=s:=by rw [l5] at g;simpa using g
     refine AK.ev 100 rfl ?_
     refine AK.rz Tryz.func47 ?_
     rw [bad (by simp [rowB,g'];omega)]
    ·have g':(x.length:Int)=s:=by rw [l5] at g;simpa using g
     exact AK.back' 2 0 (inner k1 (by rw [beq_iff_eq.2 g',Bool.or_true])) ⟨rfl,rfl,rfl,trivial⟩ rfl rfl rfl rfl rfl
   ·refine Drv.t false ?_ (hb:=decide_eq_false k2)
    refine Drv.go ?_
    refine Drv.z ?_
    refine AK.ifj (e:=false) 0 13 (fun g=>nomatch g) (fun g=>?_)
    exact AK.back' 2 0 (inner k1 (by rw [decide_eq_false k2];rfl)) ⟨rfl,rfl,rfl,trivial⟩ rfl rfl rfl rfl rfl
  ·refine Drv.t true ?_ (hb:=decide_eq_true (by rw [l5];omega))
   refine Drv.go ?_
   refine Drv.z ?_
   refine AK.yes ?_
   refine AK.rz Tryz.func47 ?_
   rw [bad (by simp [rowB,k1])]
 ·have hie:i=c.cells.length:=by have:=of_decide_eq_false h;rw [crss_len] at this;omega
  have hr1:rowsB c.cells (sizesT n)=true:=by rw [hT,hie,List.drop_length];rfl
  rw [hr1,Bool.true_and]
  exact AK.back' 2 0 L19 ⟨rfl,rfl,trivial⟩ rfl rfl rfl rfl rfl
theorem p_confOk (n:Nd)(hr:rightS n=true)(c:Cf)(hc:CfOk c):Pure X 47 [.agg (takeC n),cf c] (vb (confN n c)):=by
 obtain ⟨hP,hE⟩:=es_len hr
 obtain ⟨fp,_,hw,hne,hkl⟩:=right_facts hr
 have hd1:=declS_le n 31
 have hd2:=declS_le n 32
 have hsz:=sizesT_len n
 have hcv:=hc.vars
 have l1:((zrs c.vars).length:Int)=c.vars.length:=by rw [zrs_len]
 have l2:((crss c.cells).length:Int)=c.cells.length:=by rw [crss_len]
 have l3:((strR (declS n 31)).length:Int)=(declS n 31).length:=by rw [strR_len]
 have l4:((strR (declS n 32)).length:Int)=(declS n 32).length:=by rw [strR_len]
 have hwp:IntKind.i64.wrap ((gAll (planL n)).pts-1)=(gAll (planL n)).pts-1:=wrap_small (by omega) (by omega)
 have hT:confN n c=confS (gAll (planL n)).pts (declS n 31).length (declS n 32).length (sizesT n) (gEs (planL n)) c:=rfl
 unfold confS at hT
 refine Pure.run Tryz.func47 ?_
 refine AK.pc (p_between c.pt 0 (IntKind.i64.wrap ((gAll (planL n)).pts-1))) ?_
 rw [hwp]
 cases h1:between c.pt 0 (((gAll (planL n)).pts:Int)-1) with
 | false =>
   rw [h1] at hT
   refine AK.gy ?_
   refine AK.gy ?_
   refine AK.gy ?_
   refine AK.gy ?_
   refine AK.gy ?_
   refine AK.yes ?_
   refine AK.rz Tryz.func47 ?_
   rw [hT];simp
 | true =>
   rw [h1] at hT
   refine AK.gn ?_
   cases h2:(c.vars.length==(declS n 31).length) with
   | false =>
     have h2':¬ c.vars.length=(declS n 31).length:=by simpa using h2
     rw [h2] at hT
     refine AK.gy ?_ (ht:=by rw [l1,l3];simp;omega)
     refine AK.gy ?_
     refine AK.gy ?_
     refine AK.gy ?_
     refine AK.yes ?_
     refine AK.rz Tryz.func47 ?_
     rw [hT];simp
   | true =>
     have h2':c.vars.length=(declS n 31).length:=by simpa using h2
     rw [h2] at hT
     refine AK.gn ?_ (ht:=by rw [l1,l3];simp;omega)
     cases h3:(c.cells.length==(declS n 32).length) with
     | false =>
       have h3':¬ c.cells.length=(declS n 32).length:=by simpa using h3
       rw [h3] at hT
       refine AK.gy ?_ (ht:=by rw [l2,l4];simp;omega)
       refine AK.gy ?_
       refine AK.gy ?_
       refine AK.yes ?_
       refine AK.rz Tryz.func47 ?_
       rw [hT];simp
     | true =>
       have h3':c.cells.length=(declS n 32).length:=by simpa using h3
       rw [h3] at hT
       refine AK.gn ?_ (ht:=by rw [l2,l4];simp;omega)
       refine AK.pc (p_between c.used 0 100) ?_
       cases h4:between c.used 0 100 with
       | false =>
         rw [h4] at hT
         refine AK.gy ?_
         refine AK.gy ?_
         refine AK.yes ?_
         refine AK.rz Tryz.func47 ?_
         rw [hT];simp
       | true =>
         rw [h4] at hT
         refine AK.gn ?_
         refine AK.pc (p_between c.steps 0 5000) ?_
         cases h5:between c.steps 0 5000 with
         | false =>
           rw [h5] at hT
           refine AK.gy ?_
           refine AK.yes ?_
           refine AK.rz Tryz.func47 ?_
           rw [hT];simp
         | true =>
           rw [h5] at hT
           refine AK.gn ?_
           refine AK.pc (p_between c.trap 0 5) ?_
           cases h6:between c.trap 0 5 with
           | false =>
             rw [h6] at hT
             refine AK.yes ?_
             refine AK.rz Tryz.func47 ?_
             rw [hT];simp
           | true =>
             rw [h6] at hT
             simp only [Bool.true_and] at hT
             rw [hT]
             refine AK.no ?_
             have L8:=p_cf8 n c hc hE (by omega)
             refine AK.while_ (ι:=Nat) 2 0 (fun i=>i≤c.vars.length∧c.vars.all isV=(c.vars.drop i).all isV) (fun i=>[(5,vi i),(2,.ptr 0 0 0),(3,.ptr 1 0 0)]) (fun _=>Ssp n c) (fun i=>c.vars.length-i) ?_ 0 ⟨Nat.zero_le _,rfl⟩
              ⟨rfl,rfl,rfl,trivial⟩ rfl rfl rfl rfl rfl (fun _=>inferInstance) (fun _=>inferInstance)
             rintro i ⟨hi,hV⟩ IH
             refine AK.ev 100 rfl ?_
             refine AK.ifj 0 8 (fun h=>?_) (fun h=>?_)
             ·have hlt:i<c.vars.length:=by have:=of_decide_eq_true h;rw [zrs_len] at this;omega
              obtain ⟨x,hx⟩:=lget_of_lt c.vars hlt
              rw [drop_cons hx,List.all_cons] at hV
              refine AK.ix i (by omega) (zrs_get hx) ?_
              refine AK.pc (p_val x) ?_
              refine AK.if_ (fun g=>?_) (fun g=>?_)
              ·have g':isV x=false:=by simpa using (show (!isV x)=true from g)
               refine AK.rz Tryz.func47 ?_
               rw [hV,g'];rfl
              ·have g':isV x=true:=by simpa using (show (!isV x)=false from g)
               exact IH (i+1) ⟨hlt,by rw [hV,g'];rfl⟩ (by omega) _ _ ⟨vint ((wrap_small (by omega) (by omega)).trans (by omega)),rfl,rfl,trivial⟩ rfl rfl rfl
             ·have hie:i=c.vars.length:=by have:=of_decide_eq_false h;rw [zrs_len] at this;omega
              have hv1:c.vars.all isV=true:=by rw [hV,hie,List.drop_length];rfl
              rw [hv1,Bool.true_and]
              exact AK.back' 2 0 L8 ⟨rfl,rfl,trivial⟩ rfl rfl rfl rfl rfl
def confOkM (n:Nd)(c:Cf):Bool:=rightS n&&confN n c
theorem p_confOkP (n:Nd)(hn:wN n≤100000000)(c:Cf)(hc:CfOk c):Pure X 21 [nd n,cf c] (vb (confOkM n c)):=by
 refine Pure.run Tryz.func21 ?_
 refine AK.dn 0 1 ?_
 refine Drv.pc (p_right n hn) ?_
 unfold confOkM
 cases hr:rightS n with
 | false =>
   refine Drv.t false ?_
   refine Drv.go ?_
   refine Drv.z ?_
   exact AK.rz Tryz.func21 rfl
 | true =>
   refine Drv.t true ?_
   refine Drv.go ?_
   refine Drv.pg (p_take n hr) ?_
   refine Drv.pg (p_confOk n hr c hc) ?_
   refine Drv.z ?_
   exact AK.rz Tryz.func21 rfl
structure CfLn (c:Cf):Prop where
 vars:c.vars.length≤9223372036854775807
 cells:c.cells.length≤9223372036854775807
 rows:∀ x,x∈c.cells→x.length≤9223372036854775807
def swCf (c:Cf):Nat:=c.vars.length+(c.cells.length+swC c.cells)
theorem swC_le {l:List (List (Bool × Int))}{x:List (Bool × Int)}(h:x∈l):x.length≤swC l:=by
 induction l with
 | nil=>cases h
 | cons y l ih =>
   simp only [swC]
   rcases List.mem_cons.1 h with rfl | h
   ·omega
   ·have:=ih h;omega
theorem t_szCf (c:Cf)(h:CfLn c)(left:Int)(h0:0≤left)(h1:left≤1048576):Pure X 6 [cf c,vi left] (vi (szR (swCf c) left)):=by
 have l1:(zrs c.vars).length=c.vars.length:=zrs_len _
 have hI:=t_szI (zrs c.vars) left h0 h1 (by rw [l1];exact h.vars)
 rw [l1] at hI
 refine Pure.run Tryz.func6 ?_
 refine AK.pc hI ?_
 refine AK.if_ (fun g=>?_) (fun g=>?_)
 ·have g':=szR_neg h0 (of_decide_eq_true g)
  refine AK.rz Tryz.func6 ?_
  unfold swCf
  rw [szR_lt g'.2]
 ·have g':=szR_pos (show 0≤szR c.vars.length left by have:=of_decide_eq_false g;omega)
  have e0:szR (swCf c) left=szR (c.cells.length+swC c.cells) (szR c.vars.length left):=by unfold swCf;rw [szR_add g'.2,g'.1]
  rw [e0]
  have hb:0≤szR c.vars.length left∧szR c.vars.length left≤1048576:=by omega
  generalize szR c.vars.length left=lf at hb ⊢
  refine AK.pc (t_szCC c.cells lf hb.1 hb.2 h.cells h.rows) ?_
  refine AK.if_ (fun g2=>?_) (fun g2=>?_)
  ·have g2':=szR_neg hb.1 (of_decide_eq_true g2)
   refine AK.rz Tryz.func6 ?_
   rw [g2'.1]
  ·exact AK.rz Tryz.func6 rfl
theorem t_toCf (c:Cf)(hc:CfOk c):Pure X 9 [cf c] (cf c):=by
 refine Pure.run Tryz.func9 ?_
 refine AK.pc (t_toI c.vars hc.vars) ?_
 refine AK.pc (t_toCC c.cells hc.cells hc.rows) ?_
 exact AK.rz Tryz.func9 rfl
theorem t_eqCf (c:Cf)(hc:CfOk c):Pure X 12 [cf c,cf c] (vb true):=by
 refine Pure.run Tryz.func12 ?_
 refine AK.no ?_ (ht:=by simp)
 refine AK.pc (t_eqI c.vars hc.vars) ?_
 refine AK.no ?_
 refine AK.pc (t_eqCC c.cells hc.cells hc.rows) ?_
 refine AK.no ?_
 refine AK.no ?_ (ht:=by simp)
 refine AK.no ?_ (ht:=by simp)
 refine AK.no ?_ (ht:=by simp)
 refine AK.no ?_ (ht:=by simp)
 refine AK.no ?_ (ht:=by simp)
 exact AK.rz Tryz.func12 rfl
set_option maxRecDepth 100000
section
variable {H:Type}{enc:TypeId × Value→H}{w:World}{sp:Nat→Bool}{held:Bool}
theorem trod_int1 (fuel:Nat)(cs:List Value)(x:DataW H × List MemPlace)(h:DataW.trod enc Tryz.prog w 0 sp held fuel 3 cs=some x):∃ n:Int,True∧RelL w cs (icell n):=by
 obtain ⟨n,_,_,rfl⟩:=trod_i Tryz.underlying3 h
 exact ⟨n,trivial,.one (.val _)⟩
theorem trod_ints (fuel:Nat)(cs:List Value)(x:DataW H × List MemPlace)(h:DataW.trod enc Tryz.prog w 0 sp held fuel 25 cs=some x):∃ l:List Int,l.length≤9223372036854775807∧RelL w cs [.sl (zrs l) .no]:=by
 obtain ⟨l,_,h1,h2⟩:=rel_slice icell (fun _=>True) Tryz.underlying25 (show Tryz.prog.cellsOf 3=1 by kernel_rfl) (by decide) (fun y=>rfl) (fun n _ cs' x' hx'=>trod_int1 n cs' x' hx') h
 exact ⟨l,h1,h2⟩
theorem trod_cell (fuel:Nat)(cs:List Value)(x:DataW H × List MemPlace)(h:DataW.trod enc Tryz.prog w 0 sp held fuel 155 cs=some x):∃ c:Bool × Int,True∧RelL w cs (ccell c):=by
 obtain ⟨xs,n1,rfl,_,hl,hxs,hf⟩:=DataW.trod_struct Tryz.underlying155 h
 have hl2:cs.length=2:=hl.trans (by kernel_rfl)
 have hx2:xs.length=2:=hxs
 obtain ⟨c0,c1,rfl⟩:∃ a b,cs=[a,b]:=by
  rcases cs with _ | ⟨a,_ | ⟨b,_ | ⟨c,l⟩⟩⟩<;>simp at hl2
  exact ⟨a,b,rfl⟩
 obtain ⟨x0,hx0⟩:=lget_of_lt xs (i:=0) (by omega)
 obtain ⟨x1,hx1⟩:=lget_of_lt xs (i:=1) (by omega)
 have c3e:Tryz.prog.cellsOf 3=1:=by kernel_rfl
 have c4e:Tryz.prog.cellsOf 4=1:=by kernel_rfl
 have f0:DataW.trod enc Tryz.prog w 0 sp held n1 4 (([c0,c1].drop 0).take (Tryz.prog.cellsOf 4))=some x0:=(hf 0 _ rfl).trans hx0
 have f1:DataW.trod enc Tryz.prog w 0 sp held n1 3 (([c0,c1].drop 1).take (Tryz.prog.cellsOf 3))=some x1:=(hf 1 _ rfl).trans hx1
 rw [c4e] at f0
 rw [c3e] at f1
 obtain ⟨b,e0,_⟩:=DataW.trod_bool Tryz.underlying4 f0
 obtain ⟨m,_,_,e1⟩:=trod_i Tryz.underlying3 f1
 have e0':c0=.bool b:=(List.cons.inj e0).1
 have e1':c1=.int .i64 m:=(List.cons.inj e1).1
 subst e0';subst e1'
 exact ⟨(b,m),trivial,.cons (.val _) (.one (.val _))⟩
theorem trod_cells (fuel:Nat)(cs:List Value)(x:DataW H × List MemPlace)(h:DataW.trod enc Tryz.prog w 0 sp held fuel 98 cs=some x):∃ l:List (Bool × Int),l.length≤9223372036854775807∧RelL w cs (crow l):=by
 obtain ⟨l,_,h1,h2⟩:=rel_slice ccell (fun _=>True) Tryz.underlying98 (show Tryz.prog.cellsOf 155=2 by kernel_rfl) (by decide) (fun y=>rfl) (fun n _ cs' x' hx'=>trod_cell n cs' x' hx') h
 exact ⟨l,h1,h2⟩
theorem trod_cellss (fuel:Nat)(cs:List Value)(x:DataW H × List MemPlace)(h:DataW.trod enc Tryz.prog w 0 sp held fuel 26 cs=some x):∃ l:List (List (Bool × Int)),(∀ y,y∈l→y.length≤9223372036854775807)∧l.length≤9223372036854775807∧RelL w cs [.sl (crss l) .no] :=
 rel_slice crow (fun y=>y.length≤9223372036854775807) Tryz.underlying26 (show Tryz.prog.cellsOf 98=1 by kernel_rfl) (by decide) (fun y=>rfl) (fun n _ cs' x' hx'=>trod_cells n cs' x' hx') h
theorem list8 {α:Type}{l:List α}(h:l.length=8):∃ a b c d e f g i,l=[a,b,c,d,e,f,g,i]:=by
 rcases l with _ | ⟨a,_ | ⟨b,_ | ⟨c,_ | ⟨d,_ | ⟨e,_ | ⟨f,_ | ⟨g,_ | ⟨i,_ | ⟨j,l⟩⟩⟩⟩⟩⟩⟩⟩⟩<;>simp at h
 exact ⟨a,b,c,d,e,f,g,i,rfl⟩
theorem trod_cf (fuel:Nat)(cs:List Value)(x:DataW H × List MemPlace)(h:DataW.trod enc Tryz.prog w 0 sp held fuel 28 cs=some x):∃ c:Cf,CfLn c∧RelL w cs (cfcells c):=by
 obtain ⟨xs,n1,rfl,_,hl,hxs,hf⟩:=DataW.trod_struct Tryz.underlying28 h
 have hl8:cs.length=8:=hl.trans (by kernel_rfl)
 have hx8:xs.length=8:=hxs
 obtain ⟨c0,c1,c2,c3,c4,c5,c6,c7,rfl⟩:=list8 hl8
 obtain ⟨x0,x1,x2,x3,x4,x5,x6,x7,rfl⟩:=list8 hx8
 have c3e:Tryz.prog.cellsOf 3=1:=by kernel_rfl
 have cie:Tryz.prog.cellsOf 25=1:=by kernel_rfl
 have cse:Tryz.prog.cellsOf 26=1:=by kernel_rfl
 have f0:DataW.trod enc Tryz.prog w 0 sp held n1 3 (([c0,c1,c2,c3,c4,c5,c6,c7].drop 0).take (Tryz.prog.cellsOf 3))=some x0:=hf 0 _ rfl
 rw [c3e] at f0
 obtain ⟨m0,_,_,e0⟩:=trod_i Tryz.underlying3 f0
 have e0':c0=.int .i64 m0:=(List.cons.inj e0).1
 have f3:DataW.trod enc Tryz.prog w 0 sp held n1 3 (([c0,c1,c2,c3,c4,c5,c6,c7].drop 3).take (Tryz.prog.cellsOf 3))=some x3:=hf 3 _ rfl
 rw [c3e] at f3
 obtain ⟨m3,_,_,e3⟩:=trod_i Tryz.underlying3 f3
 have e3':c3=.int .i64 m3:=(List.cons.inj e3).1
 have f4:DataW.trod enc Tryz.prog w 0 sp held n1 3 (([c0,c1,c2,c3,c4,c5,c6,c7].drop 4).take (Tryz.prog.cellsOf 3))=some x4:=hf 4 _ rfl
 rw [c3e] at f4
 obtain ⟨m4,_,_,e4⟩:=trod_i Tryz.underlying3 f4
 have e4':c4=.int .i64 m4:=(List.cons.inj e4).1
 have f5:DataW.trod enc Tryz.prog w 0 sp held n1 3 (([c0,c1,c2,c3,c4,c5,c6,c7].drop 5).take (Tryz.prog.cellsOf 3))=some x5:=hf 5 _ rfl
 rw [c3e] at f5
 obtain ⟨m5,_,_,e5⟩:=trod_i Tryz.underlying3 f5
 have e5':c5=.int .i64 m5:=(List.cons.inj e5).1
 have f6:DataW.trod enc Tryz.prog w 0 sp held n1 3 (([c0,c1,c2,c3,c4,c5,c6,c7].drop 6).take (Tryz.prog.cellsOf 3))=some x6:=hf 6 _ rfl
 rw [c3e] at f6
 obtain ⟨m6,_,_,e6⟩:=trod_i Tryz.underlying3 f6
 have e6':c6=.int .i64 m6:=(List.cons.inj e6).1
 have f7:DataW.trod enc Tryz.prog w 0 sp held n1 3 (([c0,c1,c2,c3,c4,c5,c6,c7].drop 7).take (Tryz.prog.cellsOf 3))=some x7:=hf 7 _ rfl
 rw [c3e] at f7
 obtain ⟨m7,_,_,e7⟩:=trod_i Tryz.underlying3 f7
 have e7':c7=.int .i64 m7:=(List.cons.inj e7).1
 have f1:DataW.trod enc Tryz.prog w 0 sp held n1 25 (([c0,c1,c2,c3,c4,c5,c6,c7].drop 1).take (Tryz.prog.cellsOf 25))=some x1:=hf 1 _ rfl
 rw [cie] at f1
 obtain ⟨vs,v1,v2⟩:=trod_ints n1 _ _ f1
 have v2':RelL w [c1] [.sl (zrs vs) .no]:=v2
 have f2:DataW.trod enc Tryz.prog w 0 sp held n1 26 (([c0,c1,c2,c3,c4,c5,c6,c7].drop 2).take (Tryz.prog.cellsOf 26))=some x2:=hf 2 _ rfl
 rw [cse] at f2
 obtain ⟨ls,l1,l2,l3⟩:=trod_cellss n1 _ _ f2
 have l3':RelL w [c2] [.sl (crss ls) .no]:=l3
 subst e0';subst e3';subst e4';subst e5';subst e6';subst e7'
 exact ⟨⟨m0,vs,ls,m3,m4,m5,m6,m7⟩,⟨v1,l2,l1⟩,.cons (.val _) (.cons v2'.get1 (.cons l3'.get1 (.cons (.val _) (.cons (.val _) (.cons (.val _) (.cons (.val _) (.one (.val _))))))))⟩
end
theorem conf_of {H:Type}{enc:TypeId × Value→H}{W:World}{base:Nat}{v:Value}{d:DataW H}{ps:List MemPlace}(hv:Value.okWide Tryz.prog W .any base 28 v)(h:DataW.Trod enc Tryz.prog W 0 (fun _=>true) true 28 v d ps) :
 ∃ c:Cf,CfLn c∧Rel E0 W v (cf c):=by
 unfold Value.okWide at hv
 rw [Tryz.underlying28] at hv
 obtain ⟨cs,rfl,_⟩:=hv
 obtain ⟨fuel,h⟩:=h
 obtain ⟨c,h1,h3⟩:=trod_cf fuel _ _ h
 exact ⟨c,h1,h3.agg⟩
abbrev cf0V:Value:=.agg #[.int .i64 0,.slice none 0 0,.slice none 0 0,.int .i64 0,.int .i64 0,.int .i64 0,.int .i64 0,.int .i64 0]
abbrev VR:=Int × Int × Int
def bndV (x d:Int):VR:=if isV x=true then (x,0,d) else (0,3,d)
def cellV (r:List (Bool × Int))(x d:Int):VR :=
 if between x 0 ((r.length:Int)-1)=true then (if (r.getD x.toNat (false,0)).1=true then ((r.getD x.toNat (false,0)).2,0,IntKind.i64.wrap (d+1)) else (0,2,d)) else (0,1,d)
def rowV (n:Nd)(c:Cf)(s:List UInt8):List (Bool × Int):=c.cells.getD (idxS 0 (declS n 32) s).toNat []
def valK (n:Nd)(c:Cf)(k:Int)(s:List UInt8)(m:Int)(q:List Int × Int × Int):VR :=
 if q.2.1=0 then
  match q.1 with
  | []=>(if k=1 then m else if k=2 then c.vars.getD (idxS 0 (declS n 31) s).toNat 0 else (rowV n c s).length,0,q.2.2)
  | [a]=>if k=3 then cellV (rowV n c s) a q.2.2 else bndV (IntKind.i64.wrap (-a)) q.2.2
  | a::b::_=>bndV (IntKind.i64.wrap (if k=6 then a+b else if k=7 then a-b else a*b)) q.2.2
 else (0,q.2.1,q.2.2)
mutual
def valM (n:Nd)(c:Cf):Nd→Int→VR
 | .mk k s m ks,d=>valK n c k s m (valL n c ks d)
def valL (n:Nd)(c:Cf):List Nd→Int→List Int × Int × Int
 | [],d=>([],0,d)
 | x::l,d=>if (valM n c x d).2.1=0 then ((valM n c x d).1::(valL n c l (valM n c x d).2.2).1,(valL n c l (valM n c x d).2.2).2) else ([],(valM n c x d).2)
end
theorem valM_mk (n:Nd)(c:Cf)(k:Int)(s:List UInt8)(m:Int)(ks:List Nd)(d:Int):valM n c (.mk k s m ks) d=valK n c k s m (valL n c ks d):=by rw [valM]
theorem valL1 (n:Nd)(c:Cf)(x:Nd)(d:Int):valL n c [x] d=if (valM n c x d).2.1=0 then ([(valM n c x d).1],0,(valM n c x d).2.2) else ([],(valM n c x d).2):=by
 rw [valL,valL]
theorem valM1 {n:Nd}{c:Cf}{k:Int}{s:List UInt8}{m:Int}{x:Nd}{d v t d1:Int}(hx:valM n c x d=(v,t,d1)):valM n c (.mk k s m [x]) d=if t=0 then valK n c k s m ([v],0,d1) else (0,t,d1):=by
 rw [valM_mk,valL1,hx]
 by_cases h:t=0
 ·rw [if_pos h,if_pos h]
 ·rw [if_neg h,if_neg h];unfold valK;rw [if_neg h]
theorem valM2 {n:Nd}{c:Cf}{k:Int}{s:List UInt8}{m:Int}{x y:Nd}{d v t d1 v2 t2 d2:Int}(hx:valM n c x d=(v,t,d1))(hy:valM n c y d1=(v2,t2,d2)) :
 valM n c (.mk k s m [x,y]) d=if t=0 then (if t2=0 then valK n c k s m ([v,v2],0,d2) else (0,t2,d2)) else (0,t,d1):=by
 rw [valM_mk,valL,hx]
 by_cases h:t=0
 ·simp only [h,if_true]
  rw [valL1,hy]
  by_cases h2:t2=0
  ·simp only [h2,if_true]
  ·simp only [h2,if_false];unfold valK;rw [if_neg h2]
 ·simp only [h,if_false];unfold valK;rw [if_neg h]
structure VOk (n:Nd)(c:Cf):Prop where
 kl:n.kids.length≤4500
 vars:c.vars.length=(declS n 31).length
 cells:c.cells.length=(declS n 32).length
 rows:∀ x,x∈c.cells→x.length≤60
theorem idxS_lt (l:List (List UInt8)):∀ (i:Nat)(s:List UInt8),idxS i l s≥0→∃ j:Nat,idxS i l s=(i+j:Nat)∧j<l.length:=by
 induction l with
 | nil=>intro i s h;simp [idxS] at h
 | cons x l ih =>
   intro i s h
   by_cases hx:(s==x)=true
   ·exact ⟨0,by simp [idxS,hx],by simp⟩
   ·have e:idxS i (x::l) s=idxS (i+1) l s:=by simp only [idxS];rw [if_neg hx]
    rw [e] at h ⊢
    obtain ⟨j,h1,h2⟩:=ih (i+1) s h
    exact ⟨j+1,by rw [h1];congr 1;omega,by simp;omega⟩
theorem VOk.var {n:Nd}{c:Cf}(h:VOk n c){s:List UInt8}(hk:idxS 0 (declS n 31) s≥0):∃ (i:Nat)(v:Int),idxS 0 (declS n 31) s=i∧c.vars[i]?=some v∧c.vars.getD (idxS 0 (declS n 31) s).toNat 0=v:=by
 obtain ⟨j,h1,h2⟩:=idxS_lt _ 0 s hk
 rw [Nat.zero_add] at h1
 obtain ⟨v,hv⟩:=lget_of_lt c.vars (i:=j) (by rw [h.vars];exact h2)
 exact ⟨j,v,h1,hv,by rw [h1];simp [List.getD,hv]⟩
theorem VOk.row {n:Nd}{c:Cf}(h:VOk n c){s:List UInt8}(hk:idxS 0 (declS n 32) s≥0):∃ (i:Nat)(r:List (Bool × Int)),idxS 0 (declS n 32) s=i∧c.cells[i]?=some r∧rowV n c s=r∧r.length≤60:=by
 obtain ⟨j,h1,h2⟩:=idxS_lt _ 0 s hk
 rw [Nat.zero_add] at h1
 obtain ⟨v,hv⟩:=lget_of_lt c.cells (i:=j) (by rw [h.cells];exact h2)
 exact ⟨j,v,h1,hv,by unfold rowV;rw [h1];simp [List.getD,hv],h.rows v (List.mem_of_getElem? hv)⟩
abbrev wk (n:Nd)(c:Cf)(d:Int):List AV:=[.cptr (progC n),.cptr (cfcells c),vi d]
abbrev Sv (n:Nd)(c:Cf)(e:Nd)(a b d:Int):St:=⟨[[wk n c d],[ncells e],[[vi a,vi b]]],[]⟩
abbrev Fv:Frm:=[(0,.ptr 0 0 0),(3,.ptr 1 0 0),(6,.ptr 2 0 0)]
abbrev vR (r:VR):AV:=.tup [vi r.1,vi r.2.1]
theorem q_bounded (x d:Int):Pure X 78 [vi x] (vR (bndV x d)):=by
 refine Pure.run Tryz.func78 ?_
 refine AK.pc (q_isVal x) ?_
 refine AK.if_ (fun g=>?_) (fun g=>?_)
 ·have g':isV x=false:=by simpa using (show (!isV x)=true from g)
  refine AK.rz Tryz.func78 ?_
  unfold bndV;rw [if_neg (by simp [g'])]
 ·have g':isV x=true:=by simpa using (show (!isV x)=false from g)
  refine AK.rz Tryz.func78 ?_
  unfold bndV;rw [if_pos g']
theorem q_place (n:Nd)(c:Cf)(d:Int){i:Nat}{r:List (Bool × Int)}(hr:c.cells[i]?=some r)(hl:r.length≤60)(x:Int) :
 Hands X 79 [.ptr 0 0 0,vi i,vi x] ⟨[[wk n c d]],[]⟩ (vi (if between x 0 ((r.length:Int)-1)=true then 0 else 1)) ⟨[[wk n c d]],[]⟩:=by
 have hlen:((crs r).length:Int)=r.length:=by rw [crs_len]
 have hp:=q_isPlace x ((crs r).length:Int) (by omega) (by omega)
 refine Hands.run Tryz.func79 ?_
 refine AK.ix i (by omega) (map_get (f:=crow) hr) ?_
 refine AK.pc hp ?_
 rw [hlen]
 refine AK.if_ (fun g=>?_) (fun g=>?_)
 ·have g':between x 0 ((r.length:Int)-1)=false:=by simpa using (show (!between x 0 ((r.length:Int)-1))=true from g)
  refine AK.rb Tryz.func79 ?_ rfl
  rw [if_neg (by simp [g'])]
 ·have g':between x 0 ((r.length:Int)-1)=true:=by simpa using (show (!between x 0 ((r.length:Int)-1))=false from g)
  refine AK.rb Tryz.func79 ?_ rfl
  rw [if_pos g']
theorem q_v_num (n:Nd)(c:Cf)(m d:Int):AK X ⟨33,Tryz.f33,1,0⟩ (locG false 10 Tryz.f33) Fv (Sv n c (.mk 1 [] m []) 0 0 d) (fun e S=>e=.ret (vR (m,0,d))∧S=⟨[[wk n c d]],[]⟩):=by
 refine AK.at_ ?_
 refine AK.ev 100 rfl ?_
 refine AK.yes ?_
 exact AK.rb Tryz.func33 rfl rfl
theorem q_v_var (n:Nd)(c:Cf)(hk:VOk n c)(s:List UInt8)(hs:idxS 0 (declS n 31) s≥0)(d:Int):AK X ⟨33,Tryz.f33,1,0⟩ (locG false 10 Tryz.f33) Fv (Sv n c (.mk 2 s 0 []) 0 0 d)
 (fun e S=>e=.ret (vR (c.vars.getD (idxS 0 (declS n 31) s).toNat 0,0,d))∧S=⟨[[wk n c d]],[]⟩):=by
 obtain ⟨i,v,h1,h2,h3⟩:=hk.var hs
 have kl:=hk.kl
 have hq:=q_variable n s (by omega)
 rw [h1] at hq
 rw [h3]
 refine AK.at_ ?_
 refine AK.ev 100 rfl ?_
 refine AK.no ?_
 refine AK.yes ?_
 refine AK.db 0 ?_
 refine Drv.pg hq ?_
 refine Drv.ru (fun S'=>Ndo.index rfl rfl rfl rfl rfl rfl rfl rfl rfl (by omega) (zrs_get h2)) ?_
 refine Drv.go ?_
 refine Drv.z ?_
 exact AK.rb Tryz.func33 rfl rfl
theorem q_v_len (n:Nd)(c:Cf)(hk:VOk n c)(s:List UInt8)(hs:idxS 0 (declS n 32) s≥0)(d:Int):AK X ⟨33,Tryz.f33,1,0⟩ (locG false 10 Tryz.f33) Fv (Sv n c (.mk 4 s 0 []) 0 0 d)
 (fun e S=>e=.ret (vR ((rowV n c s).length,0,d))∧S=⟨[[wk n c d]],[]⟩):=by
 obtain ⟨i,r,h1,h2,h3,h4⟩:=hk.row hs
 have kl:=hk.kl
 have hq:=q_array n s (by omega)
 rw [h1] at hq
 rw [h3]
 refine AK.at_ ?_
 refine AK.ev 100 rfl ?_
 refine AK.no ?_
 refine AK.no ?_
 refine AK.yes ?_
 refine AK.db 0 ?_
 refine Drv.pg hq ?_
 refine Drv.ru (fun S'=>Ndo.index rfl rfl rfl rfl rfl rfl rfl rfl rfl (by omega) (map_get (f:=crow) h2)) ?_
 refine Drv.go ?_
 refine Drv.z ?_
 refine AK.rb Tryz.func33 ?_ rfl
 rw [crs_len]
theorem q_v_neg (n:Nd)(c:Cf)(x:Nd)(a d:Int):AK X ⟨33,Tryz.f33,1,0⟩ (locG false 10 Tryz.f33) Fv (Sv n c (.mk 5 [] 0 [x]) a 0 d)
 (fun e S=>e=.ret (vR (bndV (IntKind.i64.wrap (-a)) d))∧S=⟨[[wk n c d]],[]⟩):=by
 refine AK.at_ ?_
 refine AK.ev 100 rfl ?_
 refine AK.no ?_
 refine AK.no ?_
 refine AK.no ?_
 refine AK.yes ?_
 refine AK.pc (q_bounded (IntKind.i64.wrap (-a)) d) ?_
 exact AK.rb Tryz.func33 rfl rfl
theorem q_v_add (n:Nd)(c:Cf)(x y:Nd)(a b d:Int):AK X ⟨33,Tryz.f33,1,0⟩ (locG false 10 Tryz.f33) Fv (Sv n c (.mk 6 [] 0 [x,y]) a b d)
 (fun e S=>e=.ret (vR (bndV (IntKind.i64.wrap (a+b)) d))∧S=⟨[[wk n c d]],[]⟩):=by
 refine AK.at_ ?_
 refine AK.ev 100 rfl ?_
 iterate 4 refine AK.no ?_
 refine AK.yes ?_
 refine AK.pc (q_bounded (IntKind.i64.wrap (a+b)) d) ?_
 exact AK.rb Tryz.func33 rfl rfl
theorem q_v_sub (n:Nd)(c:Cf)(x y:Nd)(a b d:Int):AK X ⟨33,Tryz.f33,1,0⟩ (locG false 10 Tryz.f33) Fv (Sv n c (.mk 7 [] 0 [x,y]) a b d)
 (fun e S=>e=.ret (vR (bndV (IntKind.i64.wrap (a-b)) d))∧S=⟨[[wk n c d]],[]⟩):=by
 refine AK.at_ ?_
 refine AK.ev 100 rfl ?_
 iterate 5 refine AK.no ?_
 refine AK.yes ?_
 refine AK.pc (q_bounded (IntKind.i64.wrap (a-b)) d) ?_
 exact AK.rb Tryz.func33 rfl rfl
theorem q_v_mul (n:Nd)(c:Cf)(x y:Nd)(a b d:Int):AK X ⟨33,Tryz.f33,1,0⟩ (locG false 10 Tryz.f33) Fv (Sv n c (.mk 8 [] 0 [x,y]) a b d)
 (fun e S=>e=.ret (vR (bndV (IntKind.i64.wrap (a*b)) d))∧S=⟨[[wk n c d]],[]⟩):=by
 refine AK.at_ ?_
 refine AK.ev 100 rfl ?_
 iterate 6 refine AK.no ?_
 refine AK.yes ?_
 refine AK.pc (q_bounded (IntKind.i64.wrap (a*b)) d) ?_
 exact AK.rb Tryz.func33 rfl rfl
theorem q_v_cell (n:Nd)(c:Cf)(hk:VOk n c)(s:List UInt8)(hs:idxS 0 (declS n 32) s≥0)(x:Nd)(a d:Int):AK X ⟨33,Tryz.f33,1,0⟩ (locG false 10 Tryz.f33) Fv (Sv n c (.mk 3 s 0 [x]) a 0 d)
 (fun e S=>e=.ret (vR (cellV (rowV n c s) a d))∧S=⟨[[wk n c (cellV (rowV n c s) a d).2.2]],[]⟩):=by
 obtain ⟨i,r,h1,h2,h3,h4⟩:=hk.row hs
 have kl:=hk.kl
 have hq:=q_array n s (by omega)
 rw [h1] at hq
 rw [h3]
 refine AK.at_ ?_
 refine AK.ev 100 rfl ?_
 iterate 7 refine AK.no ?_
 refine AK.db 0 ?_
 refine Drv.pg hq ?_
 refine Drv.z ?_
 refine AK.hc [0] [] (q_place n c d h2 h4 a) ?_
 refine AK.sto (Sv n c (.mk 3 s 0 [x]) a 0 d) ?_
 cases hb:between a 0 ((r.length:Int)-1) with
 | false =>
   rw [if_neg (by simp)]
   have e1:cellV r a d=(0,1,d):=by unfold cellV;rw [if_neg (by simp [hb])]
   rw [e1]
   refine AK.yes ?_
   exact AK.rb Tryz.func33 rfl rfl
 | true =>
   rw [if_pos rfl]
   have hb':=between_iff.1 hb
   obtain ⟨j,rfl⟩:∃ j:Nat,a=j:=⟨a.toNat,by omega⟩
   obtain ⟨y,hy⟩:=lget_of_lt r (i:=j) (by omega)
   obtain ⟨w,m⟩:=y
   have e1:cellV r j d=if w=true then (m,0,IntKind.i64.wrap (d+1)) else (0,2,d):=by unfold cellV;rw [if_pos hb];simp [List.getD,hy]
   rw [e1]
   refine AK.no ?_
   refine AK.db 49152 ?_
   refine Drv.ru (fun S'=>Ndo.index rfl rfl rfl rfl rfl rfl rfl rfl rfl (by omega) (map_get (f:=crow) h2)) ?_
   refine Drv.go ?_
   refine Drv.ru (fun S'=>Ndo.index rfl rfl rfl rfl rfl rfl rfl rfl rfl (by omega) (map_get (f:=ccell) hy)) ?_
   refine Drv.go ?_
   refine Drv.wl (Ndo.mem rfl rfl rfl) ?_ ?_
   ·repeat (first | exact allN | refine strip_eq (Ndo.ev rfl rfl rfl) ?_)
   refine Drv.w (Ndo.store rfl rfl rfl rfl rfl rfl rfl) ?_
   refine Drv.z ?_
   cases w with
   | false =>
     refine AK.yes ?_
     exact AK.rb Tryz.func33 rfl rfl
   | true =>
     refine AK.no ?_
     exact AK.rb Tryz.func33 rfl rfl
end Go.V
