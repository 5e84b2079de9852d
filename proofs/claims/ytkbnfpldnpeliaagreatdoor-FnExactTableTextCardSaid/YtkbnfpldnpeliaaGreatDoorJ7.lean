/- A part of the proof of the claim that the last text states: no condition of its own. -/
import Derived.Test.YtkbnfpldnpeliaaGreatDoorJ6
import Derived.Laws.MakeOwn
set_option linter.unusedVariables false
set_option linter.unusedSimpArgs false
namespace Go.V
open Go
section
variable {X:Cx}{B:Bx}{E E1:Env}{S S1:St}{w w':World}{F:B7}{a:Act}{N:Nat}{R:AE→St→Prop}{ops:Array Oper}{i:Nat}{o:Oper}
theorem AK.retK {k:List Item}{xs:List AV}(hf:X.P.funcs[B.f]?=some B.fn)(hR:R (.ret (B3 xs)) S)(h:Lv X F S B.fn.results.toList=some xs:=by rfl):AK X B (.code .ret::k) F S R:=by
 intro E w a b cs hI hF hn hm hb
 obtain ⟨v,h1,h2⟩:=Me hI hF h
 have nt:E.toks.length=S.toks.length:=by rw [← hI.nt];simp
 refine .inl ⟨.returned v,w,{ b.at a (.code .ret::k) with mode:=.returning },⟨E,S,hI,Evol.refl _ _ _ _,_,h2,hR⟩,.one step_ret,hb,⟨rfl,hF.nod,rfl,B.fn,by rw [← hf];exact congrArg (X.P.funcs[·]?) hb,h1⟩⟩
def Fresh (X:Cx)(f:FuncId)(args:List AV)(n:Nat)(P:List (List AV)→Prop):Prop :=
 Lc X.P f∧ACalls X f args ⟨[],[]⟩ fun e S'=>∃ rows,e=.ret (.bsl 0 n)∧S'=⟨[rows],[]⟩∧P rows
theorem Ak3 (hI:Inv X E S w){rows:List (List AV)}(hflat:Ez 0 0 rows)(hI1:Inv X E1 ⟨[rows],[]⟩ w')(ev:Evol (E.sub [] []) w E1 w' 0 0) :
 ∃ blk sz,E1.boxes[0]?=some (some (blk,sz))∧Evol E w (E.addBox blk sz) w' E.boxes.length E.toks.length∧Inv X (E.addBox blk sz) ⟨S.boxes++[rows],S.toks⟩ w':=by
 have hτl:∀ t,t∈([]:List Nat)→t<E.toks.length:=fun t h=>by cases h
 have nb1:E1.boxes.length=1:=hI1.nb
 obtain ⟨⟨blk,sz⟩,hB⟩:=hI1.np 0 (by omega)
 have nt1:E1.toks=[]:=by have:=hI1.nt;simpa using this
 have own1:∀ b,E1.own b→b=blk:=fun b h=>by
  rcases h with ⟨j,s,h⟩ | ⟨t,l,c,s,h⟩
  ·have:=Ad h
   have:j=0:=by omega
   subst this
   rw [hB] at h;cases h;rfl
  ·rw [nt1] at h;simp at h
 have ownb:E1.own blk:=.inl ⟨0,sz,hB⟩
 have nown:∀ b,¬ (E.sub [] []).own b:=fun b h=>by
  rcases (L9 hτl).1 h with ⟨j,s,hj,_⟩ | ⟨t,l,c,s,ht,_⟩
  ·cases hj
  ·cases ht
 have hge:w.heap.size≤blk:=by
  rcases Nat.lt_or_ge blk w.heap.size with h | h
  ·exact absurd (ev.own blk h ownb) (nown blk)
  ·exact h
 have hlt1:blk<w'.heap.size:=hI1.own_lt ownb
 have frE:∀ {b o:Nat},E.mt b o→E1.fr b o:=fun {b o} h=>by
  rw [ev.fr]
  refine ⟨h,fun ho=>?_⟩
  rcases ho with ⟨j,s,hj,_⟩ | ⟨t,l,c,s,ht,_⟩
  ·cases hj
  ·cases ht
 have hfar:∀ {b:Nat},b<w.heap.size→w'.heap[b]?=w.heap[b]?:=fun {b} h=>ev.block b h (nown b)
 have hmtx:∀ {b o:Nat},(E.addBox blk sz).mt b o→E.mt b o∨b=blk:=fun {b o} h=>by
  rcases h with h | ⟨j,s,h⟩ | h
  ·exact .inl (.inl h)
  ·rcases getElem?_snoc h with h | ⟨_,h⟩
   ·exact .inl (.inr (.inl ⟨j,s,h⟩))
   ·cases h;exact .inr rfl
  ·exact .inl (.inr (.inr h))
 have hownx:∀ {b:Nat},(E.addBox blk sz).own b→E.own b∨b=blk:=fun {b} h=>by
  rcases h with ⟨j,s,h⟩ | h
  ·rcases getElem?_snoc h with h | ⟨_,h⟩
   ·exact .inl (.inl ⟨j,s,h⟩)
   ·cases h;exact .inr rfl
  ·exact .inl (.inr h)
 have hne:∀ {b:Nat},E.own b→b≠blk:=fun {b} h e=>by have:=hI.own_lt h;omega
 have ev2:Evol E w (E.addBox blk sz) w' E.boxes.length E.toks.length:=by
  refine ⟨rfl,fun j hj hl=>⟨by simp [Env.addBox];omega,fun x hx=>getElem?_snoc_left hx⟩,fun t ht k hk=>⟨k,hk,.inl rfl⟩,ev.os,ev.tape,ev.output,ev.size,fun b hb _=>hfar hb,
   fun b o v hm hc=>ev.cell b o v (fun h=>hm (Ow hτl h)) hc,fun b o hb h=>?_,fun b hb h=>?_,rfl,ev.ty,fun _ _ _ b _ _ _ _ o ho=>by rw [hfar (Kt ho)];exact ho⟩
  ·rcases hmtx h with h | h
   ·exact h
   ·omega
  ·rcases hownx h with h | h
   ·exact h
   ·omega
 refine ⟨blk,sz,hB,ev2,?_⟩
 obtain ⟨cs1,e1,hh1,hs1,hl1,hr1⟩:=hI1.box 0 blk sz rows hB rfl
 have hmt1:∀ b o,(E.addBox blk sz).mt b o→E1.mt b o:=fun b o h=>by
  rcases hmtx h with h | rfl
  ·exact .inl (frE h)
  ·exact .inr (.inl ⟨0,sz,hB⟩)
 exact {
  nb:=by simp [Env.addBox,hI.nb]
  nt:=hI.nt
  np:=fun j hj=>by
   simp only [Env.addBox,List.length_append,List.length_singleton] at hj ⊢
   rcases Nat.lt_or_ge j E.boxes.length with h | h
   ·rw [List.getElem?_append_left h];exact hI.np j h
   ·have:j=E.boxes.length:=by omega
    subst this;exact ⟨_,getElem?_snoc_new _ _⟩
  box:=fun j b s rows' h1 h2=>by
   rcases getElem?_snoc h1 with h1 | ⟨hj,h1⟩
   ·have h2':S.boxes[j]?=some rows':=by
     rcases getElem?_snoc h2 with h2 | ⟨hj,_⟩
     ·exact h2
     ·have:=Ad h1;rw [hI.nb] at this;omega
    obtain ⟨cs',e',hh',hs',hl',hr'⟩:=hI.box j b s rows' h1 h2'
    exact ⟨cs',e',(hfar (hI.own_lt (.inl ⟨j,s,h1⟩))).trans hh',hs',hl',fun k r q x v h3 h4 h5=>(hr' k r q x v h3 h4 h5).step ev2⟩
   ·cases h1
    have h2':rows'=rows:=by
     rcases getElem?_snoc h2 with h2 | ⟨_,h2⟩
     ·have:=Ad h2;rw [← hI.nb] at this;omega
     ·exact h2
    subst h2'
    exact ⟨cs1,e1,hh1,hs1,hl1,fun k r q x v h3 h4 h5=>(hr1 k r q x v h3 h4 h5).env (hflat r (List.mem_of_getElem? h3) x (List.mem_of_getElem? h4)) hmt1⟩
  tok:=fun t l b c s h=>by
   obtain ⟨h1,h0,cs,e,hh,hs⟩:=hI.tok t l b c s h
   exact ⟨h1,h0,cs,e,(hfar (hI.own_lt (.inr ⟨t,l,c,s,h⟩))).trans hh,hs⟩
  bb:=fun i j b s s' h1 h2=>by
   rcases getElem?_snoc h1 with h1 | ⟨hi,h1⟩<;>rcases getElem?_snoc h2 with h2 | ⟨hj,h2⟩
   ·exact hI.bb i j b s s' h1 h2
   ·cases h2;exact absurd rfl (hne (.inl ⟨i,s,h1⟩))
   ·cases h1;exact absurd rfl (hne (.inl ⟨j,s',h2⟩))
   ·omega
  bt:=fun i t b s l c sz' h1 h2=>by
   rcases getElem?_snoc h1 with h1 | ⟨hi,h1⟩
   ·exact hI.bt i t b s l c sz' h1 h2
   ·cases h1;exact absurd rfl (hne (.inr ⟨t,l,c,sz',h2⟩))
  tt:=hI.tt
  frlt:=fun b o h=>⟨fun h'=>by
   rcases hownx h' with h' | h'
   ·exact (hI.frlt b o h).1 h'
   ·have:=(hI.frlt b o h).2;omega,Nat.lt_of_lt_of_le (hI.frlt b o h).2 ev.size⟩
  lo:=fun b h=>by
   rcases hownx h with h | h
   ·exact hI.lo b h
   ·rw [h];exact hI1.lo blk ownb
  frlo:=hI.frlo
  sz:=hI1.sz
  glob:=hI1.glob }
theorem AK.fr {l:List Nat}{k:List Item}{c:Call}{fo:Operand}{f:FuncId}{caps xs zs ys:List AV}{n:Nat}{P:List (List AV)→Prop}(hc:Fresh X f ys n P)(hflat:∀ rows,P rows→Ez 0 0 rows)
 (hk:∀ rows,P rows→AK X B (.inRegion ops l::k) (putF o.dst (.bsl S.boxes.length n) F) ⟨S.boxes++[rows],S.toks⟩ R)(ho:ops[i]?=some o:=by rfl)(hw:A6 ops F o=some true:=by rfl)(hop:o.op=.call c:=by rfl)
 (hcal:c.callee=.value fo:=by rfl)(hfo:Cr X F fo=some (.fn f caps):=by rfl)(hx:Fu X F c.args.toList=some xs:=by rfl)(hzs:J5 xs caps=some zs:=by rfl)(hd:C3 B.fn.ntmps o.dst=true:=by rfl) [ha:RinL [] [] zs ys] :
 AK X B (.inRegion ops (i::l)::k) F S R:=by
 intro E w a b cs hI hF hn hm hb
 have nt:E.toks.length=S.toks.length:=by rw [← hI.nt];simp
 have hτl:∀ t,t∈([]:List Nat)→t<E.toks.length:=fun t h=>by cases h
 have hz:=Su hzs
 obtain ⟨vs,h1,h2,h3⟩:=Ss hop hcal hc.1 hI hF hfo hx
 have hsub:Inv X (E.sub [] []) ⟨[],[]⟩ w:=hI.sub (σ:=[]) (τ:=[]) List.nodup_nil List.nodup_nil hτl (Sc:=⟨[],[]⟩) .nil (fun j h=>by cases h) rfl
 have hcalls:=hc.2 (E.sub [] []) w vs rfl hsub (by rw [h2,hz,ha.s.get.1]) (fun j v y hv hy=>by
  obtain ⟨x,hxj⟩:=Ac zs (i:=j) (by have:=Ad hy;rw [ha.s.get.1] at this;exact this)
  exact (ha.s.get.2 j x y hxj hy).fwd (fun b o=>Ow hτl) (fun i j q h1 h2=>F8.2 ⟨i,h1,h2⟩) (fun i j k h1 h2=>(He hτl).2 ⟨i,h1,h2⟩) (h3 j v x hv (by rw [hz];exact hxj)))
 have hdo:Does X ops i a w fun v w'=>∃ rows,P rows∧∃ E',Inv X E' ⟨S.boxes++[rows],S.toks⟩ w'∧Evol E w E' w' E.boxes.length E.toks.length∧Rel E' w' v (.bsl S.boxes.length n):=by
  refine Does.call ho (Bz hF hw) h1 (hcalls.mono fun e w' he=>?_)
  obtain ⟨E1,S1,d1,d2,d3⟩:=he
  cases e with
  | returned v =>
    obtain ⟨r',hr',rows,hre,rfl,hP⟩:=d3
    cases hre
    obtain ⟨blk,sz,hB,ev2,hI2⟩:=Ak3 hI (hflat rows hP) d1 d2
    refine ⟨v,rfl,rows,hP,_,hI2,ev2,?_⟩
    cases hr' with
    | bsl _ blk' sz' _ cap hB' hcap =>
      rw [hB] at hB';cases hB'
      exact .bsl _ blk sz n cap (by rw [← hI.nb];exact getElem?_snoc_new _ _) hcap
  | panicked ch=>obtain ⟨rows,h,_⟩:=d3;cases h
  | outgrown=>exact d3.elim
 obtain ⟨v',w2,⟨rows,hP,E',g1,g2,g3⟩,g4⟩:=hdo b k cs l
 have hF':=(hF.step g2).putF hd g3
 have g4':=g4
 rw [ho] at g4'
 exact Fin.from g4' (g2.weaken (by rw [hI.nb];exact hn) (by omega)) (hk rows hP E' w2 _ b cs g1 hF' (by simp;omega) hm hb)
theorem Fresh.mk {f:FuncId}{fn:Func}{c:Code}{args:List AV}{n:Nat}{P:List (List AV)→Prop}(hf:X.P.funcs[f]?=some fn)(hb:fn.body=some c)(hl:Nat.ble args.length fn.ntmps=true)(hnm:(fn.name == "runtime.NumGoroutine")=false)
 (h:AK X ⟨f,fn,0,0⟩ [.code c] (Ns 0 args) ⟨[],[]⟩ fun e S'=>∃ rows,e=.ret (.bsl 0 n)∧S'=⟨[rows],[]⟩∧P rows):Fresh X f args n P :=
 ⟨⟨fn,hf,hnm,by rw [hb];rfl⟩,Jb (n:=0) (m:=0) (hh:=fun C S' hx=>by obtain ⟨rows,hx,_⟩:=hx;cases hx) hf hb hl rfl rfl h⟩
theorem Ws {c:Call}{p q:Operand}{tt tx e e':Nat}{y yx ye:Ty}{rows:List (List AV)}{sp sp':Sp}(ho:ops[i]?=some o:=by rfl)(hw:A6 ops F o=some true:=by rfl)(hop:o.op=.call c:=by rfl)(hcal:c.callee=.builtin .append:=by rfl)
 (hargs:c.args.toList=[p,q]:=by rfl)(htys:c.argTypes.toList=[tt,tx]:=by rfl)(hp:Cr X F p=some (.sl rows sp):=by rfl)(hq:Cr X F q=some (.sl [] sp'):=by rfl)(hy:X.ty tt=some y:=by rfl)(hyk:y.k=.slc e:=by rfl)(hye:X.ty e=some ye:=by rfl)
 (hyx:X.ty tx=some yx:=by rfl)(hyxk:yx.k=.slc e':=by rfl):Ndo X N ops i o F (.sl rows sp) S S:=by
 refine Ndo.val ho hw fun F' E w a hc hI hF=>?_
 rw [hop] at hc
 obtain ⟨callee,args,argTypes⟩:=c
 simp only at hcal hargs htys
 subst hcal
 have ha:args=#[p,q]:=by rw [← Array.toList_inj];exact hargs
 have ht:argTypes=#[tt,tx]:=by rw [← Array.toList_inj];exact htys
 subst ha;subst ht
 have r1:=Ag hI hF ((hc p (by simp [Op.operands,Call.operands])).trans hp)
 have r2:=Ag hI hF ((hc q (by simp [Op.operands,Call.operands])).trans hq)
 obtain ⟨d1,hd1,hk1⟩:=(X.ty_ok tt y hy).agg
 simp only [hyk] at hk1
 obtain ⟨rfl,ye',hye',hne0⟩:=hk1
 rw [hye] at hye';cases hye'
 obtain ⟨d2,hd2,hk2⟩:=(X.ty_ok tx yx hyx).agg
 simp only [hyxk] at hk2
 obtain ⟨rfl,_⟩:=hk2
 generalize hu:a.eval p=u at r1
 generalize hv:a.eval q=v at r2
 have r1':=r1
 cases r2 with
 | sl _ _ a2 n2 cap2 b2 o2 sz2 vals2 hn2 hx2 ha2 hszr2 hm2 hcl2 hr2 hs2 hcap2 =>
   have h0:n2=0:=by simpa using hn2.symm
   subst h0
   cases r1 with
   | sl _ _ a1 n1 cap1 b1 o1 sz1 vals1 hn1 hx1 ha1 hszr1 hm1 hcl1 hr1 hs1 hcap1 =>
     refine ⟨.slice a1 n1 cap1,?_,r1'⟩
     have hf:(Builtin.firstCells ye.size 0 (.slice a2 0 cap2)).run X.P w=.ok ([]:List Value).toArray w:=by
      cases a2 with
      | none=>exact run_firstCells_none _ _ _ _ _
      | some a0=>exact run_firstCells_some _ _ _ _ _ _ _ (by simp) (fun j v hj=>by simp at hj)
     cases a1 with
     | none=>simp [execOp,hop,resolve,invoke,builtin,hu,hv,Builtin.append_,run_underlying hd1,run_underlying hd2,Ci hye,Builtin.lenOf,hcap1,hf]
     | some a0=>simp [execOp,hop,resolve,invoke,builtin,hu,hv,Builtin.append_,run_underlying hd1,run_underlying hd2,Ci hye,Builtin.lenOf,hcap1,hf,storeCells]
end
end Go.V
namespace Go.V
open Go Go.Proofs
instance {n m c:Nat}:OKR n m (List.replicate c zN):=⟨fun r hr x hx=>by
 rw [List.eq_of_mem_replicate hr] at hx
 exact (inferInstance:OKL n m zN).ok x hx⟩
abbrev rB (l:List Nd)(c:Nat):List (List AV):=Ak l++List.replicate c zN
theorem U3 {l:List Nd}{i c:Nat}{x:Nd}(h:l[i]?=some x):(rB l c)[i]?=some (Af x):=by
 rw [List.getElem?_append_left (by rw [Ae];exact Ad h)];exact Ao h
theorem Auo (l:List Nd)(c i:Nat)(x:Nd)(h:i<l.length):(rB l c).set i (Af x)=rB (l.set i x) c:=by
 rw [rB,rB,List.set_append_left _ _ (by rw [Ae];exact h),Al,Al,List.map_set]
theorem Afs (l:List Nd)(c:Nat):(rB l c).length=l.length+c:=by simp [Ae]
theorem Uw (a b:List Nd):Ak (a++b)=Ak a++Ak b:=by rw [Al,Al,Al,List.map_append]
theorem Asg (l:List Nd)(c:Nat):∀ r,r∈rB l c→r.length=4:=fun r hr=>by
 rcases List.mem_append.1 hr with h | h
 ·exact E6.1 (Cz l) r h
 ·rw [List.eq_of_mem_replicate h];rfl
section
variable {X:Cx}{B:Bx}{S:St}{F F':B7}{R:AE→St→Prop}{N:Nat}{ops:Array Oper}{i:Nat}{l:List Nat}{k K:List Item}{o:Oper}{p q:Operand}
theorem AK.ldB {t b r:Nat}{y:Ty}{cs:List AV}{rows:List (List AV)}{x:AV}{S2:St}(hr:rows[r]?=some cs)(hk:AK X B K F' S2 R)(ho:ops[i]?=some o:=by rfl)(hw:A6 ops F o=some true:=by rfl)(hop:o.op=.load t p:=by rfl)
 (hp:Cr X F p=some (.ptr b r 0):=by rfl)(hy:X.ty t=some y:=by rfl)(hb:S.boxes[b]?=some rows:=by rfl)(hl:cs.length=y.size:=by rfl)(hx:Yu (Fi y.k) cs=some x:=by rfl)(hd:C3 B.fn.ntmps o.dst=true:=by rfl)
 (he:Go.V.ev X B.fn.ntmps 200 (.inRegion ops l::k) (putF o.dst x F) S=(K,F',S2):=by rfl):AK X B (.inRegion ops (i::l)::k) F S R :=
 AK.op (Mp hb hr hl ho hw hop hp hy hx) hk ho hd he
theorem AK.atB {t e b n:Nat}{ik:IntKind}{y ye:Ty}{rows:List (List AV)}{r:List AV}(j:Nat)(hj:j<n)(hr:rows[j]?=some r)(hk:AK X B (.inRegion ops l::k) (putF o.dst (.ptr b j 0) F) S R)(ho:ops[i]?=some o:=by rfl)(hw:A6 ops F o=some true:=by rfl)
 (hop:o.op=.indexAddr t p q:=by rfl)(hp:Cr X F p=some (.bsl b n):=by rfl)(hq:Cr X F q=some (.val (.int ik j)):=by rfl)(hy:X.ty t=some y:=by rfl)(hyk:y.k=.slc e:=by rfl)(hye:X.ty e=some ye:=by rfl)(hb:S.boxes[b]?=some rows:=by rfl)(hl:r.length=ye.size:=by rfl)
 (hd:C3 B.fn.ntmps o.dst=true:=by rfl):AK X B (.inRegion ops (i::l)::k) F S R :=
 AK.nd (Iq (j:=j) ho hw hop hp hq hy hyk hye (by simpa [Nat.blt_eq] using hj) hb hr hl) ho hd hk
theorem AK.stB {t b r:Nat}{y:Ty}{x:AV}{xs cs:List AV}{rows:List (List AV)}{bx:List (List (List AV))}{S2:St}(hr:rows[r]?=some cs)(hk:AK X B K F' S2 R)(ho:ops[i]?=some o:=by rfl)(hw:A6 ops F o=some true:=by rfl)(hop:o.op=.store t p q:=by rfl)
 (hp:Cr X F p=some (.ptr b r 0):=by rfl)(hq:Cr X F q=some x:=by rfl)(hy:X.ty t=some y:=by rfl)(hb:S.boxes[b]?=some rows:=by rfl)(hc:cellsOf x=some xs:=by rfl)(hl:xs.length=y.size:=by rfl)(hl':cs.length=y.size:=by rfl)
 (hbx:S.boxes.set b (rows.set r xs)=bx:=by rfl)(hd:C3 B.fn.ntmps o.dst=true:=by rfl)(he:Go.V.ev X B.fn.ntmps 200 (.inRegion ops l::k) (putF o.dst .junk F) ⟨bx,S.toks⟩=(K,F',S2):=by rfl):AK X B (.inRegion ops (i::l)::k) F S R:=by
 subst hbx
 exact AK.op (Ndo.store ho hw hop hy hp hq (Sd hb hr hc hl hl')) hk ho hd he
end
theorem Aqi (l:List Nd)(hne:l≠[])(hl:l.length≤1000000000):Fresh X 188 [.sl (Ak l) .no] l.length fun rows=>∃ c,rows=rB l c:=by
 have hu:X.P.underlying 34=some (.slice 36):=by kernel_rfl
 refine Fresh.mk Tryz.func188 rfl rfl (by kernel_rfl) ?_
 refine AK.ev 100 rfl ?_
 refine AK.nilS hu (fun c hc=>?_)
 have hc':=hc (by rw [Al];simpa using hne)
 subst hc'
 refine AK.ev 100 rfl ?_
 refine AK.no ?_
 have hn:Ak l≠[]:=by rw [Al];simpa using hne
 refine AK.cloneB (fun cc=>?_) (E6.1 (Cz l)) (Gy.1 (Adh l)) hn (by rw [Ae];omega)
 refine AK.ev 100 rfl ?_
 refine AK.retK Tryz.func188 ?_
 exact ⟨rB l cc,by rw [Ae];rfl,rfl,cc,rfl⟩
theorem Am8:Pure X 188 [.sl [] .no] (.sl [] .no):=by
 have hu:X.P.underlying 34=some (.slice 36):=by kernel_rfl
 refine Pure.mk Tryz.func188 rfl rfl (by kernel_rfl) ?_
 refine AK.ev 100 rfl ?_
 refine AK.nilS hu (fun c hc=>?_)
 refine AK.ei (fun h=>?_) (fun h=>?_)
 ·refine AK.as_ 2 (.sl [] .tight) ?_
  exact AK.rz Tryz.func188 rfl
 ·refine AK.op Ws ?_
  exact AK.rz Tryz.func188 rfl
theorem Alt (l:List Nd)(c:Nat)(f:FuncId)(caps:List AV)(p:Nd→Bool)(hl:l.length≤1000000000) [hok:OKL 0 0 caps](hp:∀ x,x∈l→Pure X f (nd x::caps) (vb (p x)))(hcat:∀ xs,J5 xs caps=some (xs++caps)) :
 Hands X 190 [.bsl 0 l.length,.fn f caps] ⟨[rB l c],[]⟩ (vi (Ht p 0 l)) ⟨[rB l c],[]⟩:=by
 have:OKL 1 0 caps:=⟨fun x hx=>(hok.ok x hx).mono (by omega) (by omega)⟩
 refine Hands.run (n:=1) (m:=0) Tryz.func190 ?_
 refine AK.while_ (ι:=Nat) 1 0 (fun i=>i≤l.length∧Ht p 0 l=Ht p i (l.drop i)) (fun i=>[(8,vi i),(7,vi l.length),(0,.bsl 0 l.length),(1,.fn f caps)]) (fun _=>⟨[rB l c],[]⟩) (fun i=>l.length-i) ?_ 0 ⟨Nat.zero_le _,rfl⟩
  ⟨rfl,rfl,rfl,rfl,trivial⟩
 intro i hi IH
 refine AK.ei (fun h=>?_) (fun h=>?_)
 ·have hlt:i<l.length:=by have:=of_decide_eq_true h;omega
  obtain ⟨x,hx⟩:=Ac l hlt
  have hd:Ht p i (l.drop i)=if p x then (i:Int) else Ht p (i+1) (l.drop (i+1)):=by rw [Av hx];rfl
  refine AK.atB i hlt (U3 (c:=c) hx) ?_
  refine AK.ldB (U3 (c:=c) hx) ?_
  refine AK.pc (hp x (List.mem_of_getElem? hx)) ?_ (hzs:=hcat _)
  refine AK.if_ (fun h2=>?_) (fun h2=>?_)
  ·refine AK.rb Tryz.func190 ?_ rfl
   have h3:p x=true:=h2
   rw [hi.2,hd,h3];rfl
  ·have h3:p x=false:=h2
   exact IH (i+1) ⟨hlt,by rw [hi.2,hd,h3];rfl⟩ (by omega) _ _ ⟨vsx (by omega),rfl,rfl,rfl,trivial⟩ rfl rfl rfl
 ·have:i=l.length:=by have:=of_decide_eq_false h;omega
  refine AK.rb Tryz.func190 ?_ rfl
  rw [hi.2,this,List.drop_length];rfl
theorem Zn {p:Nd→Bool}:∀ {l:List Nd}{i:Nat},Ht p i l=-1→l.filter (fun x=>!p x)=l
 | [],i,_=>rfl
 | x::l,i,h=>by
   simp only [Ht] at h
   split at h
   ·omega
   ·rename_i hx
    have:=Zn h
    have hx':p x=false:=by simpa using hx
    rw [List.filter_cons,hx',Bool.not_false,if_pos rfl,this]
theorem Uk {p:Nd→Bool}:∀ {l:List Nd}{i:Nat},Ht p i l≠-1→∃ j x,Ht p i l=((i+j:Nat):Int)∧l[j]?=some x∧p x=true∧(l.take j).filter (fun x=>!p x)=l.take j
 | [],i,h=>by simp [Ht] at h
 | x::l,i,h=>by
   simp only [Ht] at h ⊢
   by_cases hx:p x=true
   ·rw [if_pos hx]
    exact ⟨0,x,by simp,rfl,hx,rfl⟩
   ·rw [if_neg hx] at h ⊢
    obtain ⟨j,y,h1,h2,h3,h4⟩:=Uk h
    have hx':p x=false:=by simpa using hx
    refine ⟨j+1,y,by rw [h1];omega,by simpa using h2,h3,?_⟩
    rw [List.take_succ_cons,List.filter_cons,hx',Bool.not_false,if_pos rfl,h4]
theorem Ala {l cur:List Nd}{q:Nd→Bool}{i j:Nat}{x:Nd}(hij:i<j)(hj:l[j]?=some x)(hlen:cur.length=l.length)(h1:cur.take i=(l.take j).filter q)(h2:cur.drop j=l.drop j) :
 cur[j]?=some x∧(q x=false→cur.take i=(l.take (j+1)).filter q∧cur.drop (j+1)=l.drop (j+1)) ∧
  (q x=true→(cur.set i x).take (i+1)=(l.take (j+1)).filter q∧(cur.set i x).drop (j+1)=l.drop (j+1)):=by
 have hjl:=Ad hj
 have hcj:cur[j]?=some x:=by
  have:=congrArg (fun t:List Nd=>t[0]?) h2
  simp only [List.getElem?_drop,Nat.add_zero] at this
  rw [this];exact hj
 have hd:cur.drop (j+1)=l.drop (j+1):=by
  have:=congrArg List.tail h2
  simpa [List.tail_drop] using this
 have ht:(l.take (j+1)).filter q=(l.take j).filter q++[x].filter q:=by rw [List.take_add_one,hj,List.filter_append];rfl
 refine ⟨hcj,fun hq=>⟨?_,hd⟩,fun hq=>⟨?_,?_⟩⟩
 ·rw [ht,h1];simp [hq]
 ·rw [ht,← h1]
  have hi:i<cur.length:=by omega
  rw [List.take_add_one,List.take_set_of_le (Nat.le_refl _)]
  simp [hi,hq]
 ·rw [List.drop_set_of_lt (by omega)];exact hd
theorem Aiy (l:List Nd)(c:Nat)(f:FuncId)(caps:List AV)(p:Nd→Bool)(hl:l.length≤1000000000) [hok:OKL 0 0 caps](hp:∀ x,x∈l→Pure X f (nd x::caps) (vb (p x)))(hcat:∀ xs,J5 xs caps=some (xs++caps)) :
 Hands X 187 [.bsl 0 l.length,.fn f caps] ⟨[rB l c],[]⟩ (.bsl 0 (l.filter fun x=>!p x).length)
  ⟨[rB (l.filter fun x=>!p x) (l.length-(l.filter fun x=>!p x).length+c)],[]⟩:=by
 have:OKL 1 0 caps:=⟨fun x hx=>(hok.ok x hx).mono (by omega) (by omega)⟩
 have hf:=Alt l c f caps p hl hp hcat
 refine Hands.run (n:=1) (m:=0) Tryz.func187 ?_
 refine AK.hc [0] [] hf ?_
 refine AK.if_ (fun h1=>?_) (fun h1=>?_)
 ·have h1':Ht p 0 l=-1:=by simpa using h1
  rw [Zn h1',Nat.sub_self,Nat.zero_add]
  exact AK.ret (n:=1) (tk:=[]) Tryz.func187 rfl rfl rfl rfl
 have h1':Ht p 0 l≠-1:=by simpa using h1
 obtain ⟨j0,x0,e0,e1,e2,e3⟩:=Uk h1'
 rw [Nat.zero_add] at e0
 have hj0:=Ad e1
 have hwj:IntKind.i64.wrap (Ht p 0 l+1)=((j0+1:Nat):Int):=by rw [e0];exact (Aa (by omega) (by omega)).trans (by omega)
 have hstart:l.take j0=(l.take (j0+1)).filter fun x=>!p x:=by
  rw [List.take_add_one,e1,List.filter_append,e3];simp [e2]
 refine AK.while_ (ι:=Nat × Nat × List Nd) 1 0 (fun s=>s.1<s.2.1∧s.2.1≤l.length∧s.2.2.length=l.length∧s.2.2.take s.1=(l.take s.2.1).filter (fun x=>!p x)∧s.2.2.drop s.2.1=l.drop s.2.1)
  (fun s=>[(6,vi s.2.1),(5,vi s.1),(0,.bsl 0 l.length),(1,.fn f caps)]) (fun s=>⟨[rB s.2.2 c],[]⟩) (fun s=>l.length-s.2.1) ?_ (j0,j0+1,l) ⟨Nat.lt_succ_self _,hj0,rfl,hstart,rfl⟩
  ⟨A5 hwj,A5 e0,rfl,rfl,trivial⟩
 rintro ⟨i,j,cur⟩ ⟨g1,g2,g3,g4,g5⟩ IH
 simp only at g1 g2 g3 g4 g5 IH ⊢
 refine AK.ei (fun h2=>?_) (fun h2=>?_)
 ·have hlt:j<l.length:=by have:=of_decide_eq_true h2;omega
  have hj1:IntKind.i64.wrap ((j:Int)+1)=((j+1:Nat):Int):=(Aa (by omega) (by omega)).trans (by omega)
  have hi1:IntKind.i64.wrap ((i:Int)+1)=((i+1:Nat):Int):=(Aa (by omega) (by omega)).trans (by omega)
  obtain ⟨x,hx⟩:=Ac l hlt
  obtain ⟨s1,s2,s3⟩:=Ala (q:=fun x=>!p x) g1 hx g3 g4 g5
  refine AK.atB j hlt (U3 (c:=c) s1) ?_
  refine AK.ldB (U3 (c:=c) s1) ?_
  refine AK.pc (hp x (List.mem_of_getElem? hx)) ?_ (hzs:=hcat _)
  refine AK.if_ (fun h3=>?_) (fun h3=>?_)
  ·have hpx:p x=false:=by have:(!p x)=true:=h3;simpa using this
   obtain ⟨t1,t2⟩:=s3 (by simp [hpx])
   have hil:i<cur.length:=by omega
   obtain ⟨y,hy⟩:=Ac cur hil
   refine AK.atB i (show i<l.length by omega) (U3 (c:=c) hy) ?_
   refine AK.stB (bx:=[rB (cur.set i x) c,[Af x]]) (U3 (c:=c) hy) ?_ (hbx:=by rw [← Auo _ _ _ _ hil];rfl)
   refine IH (i+1,j+1,cur.set i x) ⟨by simp only;omega,hlt,by simpa using g3,t1,t2⟩ (by simp only;omega) _ _ ⟨A5 hj1,A5 hi1,rfl,rfl,trivial⟩ rfl rfl rfl
  ·have hpx:p x=true:=by have:(!p x)=false:=h3;simpa using this
   obtain ⟨t1,t2⟩:=s2 (by simp [hpx])
   exact IH (i,j+1,cur) ⟨by simp only;omega,hlt,g3,t1,t2⟩ (by simp only;omega) _ _ ⟨A5 hj1,rfl,rfl,rfl,trivial⟩ rfl rfl rfl
 ·have hje:j=l.length:=by have:=of_decide_eq_false h2;omega
  subst hje
  rw [List.take_length] at g4
  have hfl:(l.filter fun x=>!p x).length=i:=by
   have:=congrArg List.length g4
   rw [List.length_take] at this
   omega
  have hrows:rB cur c≠[]:=by
   intro h
   have:cur.length+c=0:=by rw [← Afs,h];rfl
   omega
  have hz:(rB cur c).take i++(List.replicate (l.length-i) zN++(rB cur c).drop (i+(l.length-i)))=rB (cur.take i) (l.length-i+c):=by
   rw [show i+(l.length-i)=l.length by omega,rB,rB,List.take_append_of_le_length (by rw [Ae];omega),← g3,show cur.length=(Ak cur).length by rw [Ae],List.drop_left,Al,Al,← List.map_take,
    ← List.replicate_append_replicate,List.length_map]
  refine AK.op (Aif (l:=i) (rows:=rB cur c) g1 rfl rfl rfl rfl rfl rfl rfl rfl rfl (Asg _ _) hrows) ?_
  refine AK.op (Ndo.clearB (s:=i) (n:=l.length-i) (rows:=rB cur c) (by omega) rfl (by rw [Afs];omega) (Asg _ _) (by exact congrArg (fun r=>[r]) hz) (by intro x hx;simp at hx;rcases hx with rfl | rfl | rfl | rfl<;>rfl) rfl rfl rfl rfl rfl rfl rfl rfl rfl rfl) ?_
  refine AK.op (Aic (h:=(i:Int)) (by omega) (by omega) rfl rfl rfl rfl rfl rfl rfl rfl) ?_
  rw [hfl,← g4]
  exact AK.ret (n:=1) (tk:=[]) Tryz.func187 rfl rfl rfl rfl
theorem Ahn (n:Nd)(hne:n.kids≠[])(hl:n.kids.length≤1000000000):Pure X 138 [nd n] (.sl (Ak n.kids.dropLast) .no):=by
 have hpos:0<n.kids.length:=List.length_pos_iff.2 hne
 have hw1:IntKind.i64.wrap (((Ak n.kids).length:Int)-1)=((n.kids.length-1:Nat):Int):=by rw [Ae];exact (Aa (by omega) (by omega)).trans (by omega)
 refine Pure.run Tryz.func138 ?_
 refine AK.as_ 8 (vi (n.kids.length-1:Nat)) ?_ (A5 hw1)
 refine AK.op (V7 (l:=0) (h:=((n.kids.length-1:Nat):Int)) (r:=Ak n.kids.dropLast) rfl rfl rfl rfl rfl rfl rfl rfl rfl (by omega) (by omega) (by rw [Ae];omega) (Cz _) (by rw [Int.toNat_natCast];exact Py _)) ?_
 exact AK.rz Tryz.func138 rfl
theorem Am6 (n:Nd)(hne:n.kids≠[])(hl:n.kids.length≤1000000000):Pure X 144 [nd n] (nd (Ck n)):=by
 have hpos:0<n.kids.length:=List.length_pos_iff.2 hne
 have hw1:IntKind.i64.wrap (((Ak n.kids).length:Int)-1)=((n.kids.length-1:Nat):Int):=by rw [Ae];exact (Aa (by omega) (by omega)).trans (by omega)
 obtain ⟨lst,hlst⟩:=Ac n.kids (i:=n.kids.length-1) (by omega)
 have hL:Ck n=lst:=by rw [Ck,List.getLastD_eq_getLast?,List.getLast?_eq_getElem?,hlst];rfl
 rw [hL]
 refine Pure.run Tryz.func144 ?_
 refine AK.as_ 8 (vi (n.kids.length-1:Nat)) ?_ (A5 hw1)
 refine AK.ix ((n.kids.length-1:Nat):Int) (by omega) (by rw [Int.toNat_natCast];exact Ao hlst) ?_
 exact AK.rz Tryz.func144 rfl
theorem AK.rbsl {f:FuncId}{fn:Func}{F:B7}{bx:List (List (List AV))}{b c:Nat}{l:List Nd}{k:List Item}(hf:X.P.funcs[f]?=some fn)(hb:bx[b]?=some (rB l c))(hl:l.length≤1000000000)(h:Lv X F ⟨bx,[]⟩ fn.results.toList=some [.bsl b l.length]:=by rfl) :
 AK X ⟨f,fn,0,0⟩ (.code .ret::k) F ⟨bx,[]⟩ fun e S'=>e=.ret (.sl (Ak l) .no)∧S'=⟨[],[]⟩:=by
 refine AK.retZ (B:=⟨f,fn,0,0⟩) hf h 0 (Nat.le_refl _) (r:=.sl (Ak l) .no) ?_ (fun rows hr=>by simp at hr) ⟨rfl,rfl⟩
 have hget:∀ (i:Nat) (r:List AV),(Ak l)[i]?=some r→(rB l c)[i]?=some r:=fun i r h=>by rw [List.getElem?_append_left (Ad h)];exact h
 refine .bsl b l.length (rB l c) (Ak l) (Nat.zero_le _) hb (by rw [Afs];omega) (by unfold M4;omega) (Ae l) (fun i r r' h1 h2=>?_) (fun i j r r' x y h1 h2 h3 h4=>?_)
 ·rw [hget i r' h2] at h1;cases h1;rfl
 ·rw [hget i r' h2] at h1;cases h1
  rw [h3] at h4;cases h4
  refine .same x ((inferInstance:OKR 0 0 (Ak l)).ok r (List.mem_of_getElem? h2) x (List.mem_of_getElem? h3))
theorem Adx (x:Nd)(k:Int):Pure X 189 [nd x,.cptr [vi k]] (vb (!(x.kind==k))):=by
 refine Pure.run Tryz.func189 ?_
 exact AK.rz Tryz.func189 rfl
theorem Ajn (f:FuncId)(caps:List AV) [hok:OKL 0 0 caps](hcat:∀ xs,J5 xs caps=some (xs++caps)):Pure X 187 [.sl [] .no,.fn f caps] (.sl [] .no):=by
 have hi:Pure X 190 [.sl [] .no,.fn f caps] (vi (-1)):=X3 [] f caps (fun _=>true) (by simp) (fun x hx=>by cases hx) hcat
 refine Pure.run Tryz.func187 ?_
 refine AK.pc hi ?_
 refine AK.yes ?_
 exact AK.rz Tryz.func187 rfl
def J6 (n:Nd)(k:Int):List Nd:=n.kids.dropLast.filter fun x=>x.kind==k
theorem Oo (n:Nd)(k:Int)(hne:n.kids≠[])(hl:n.kids.length≤1000000000):Pure X 139 [nd n,vi k] (.sl (Ak (J6 n k)) .no):=by
 have hd:=Ahn n hne hl
 have hdl:n.kids.dropLast.length≤1000000000:=by rw [List.length_dropLast];omega
 refine Pure.mk Tryz.func139 rfl rfl (by kernel_rfl) ?_
 refine AK.evj 0 100 rfl ?_
 refine AK.ev 2 rfl ?_
 refine AK.op (Ndo.boxC (x:=vi k)) ?_
 refine AK.pc hd ?_
 by_cases h0:n.kids.dropLast=[]
 ·have hK:J6 n k=[]:=by rw [J6,h0];rfl
  rw [hK,h0]
  refine AK.pc Am8 ?_
  refine AK.pc (Ajn 189 [.cptr [vi k]] (Ak8 _)) ?_
  exact AK.rz Tryz.func139 rfl
 ·refine AK.fr (Aqi n.kids.dropLast h0 hdl) (fun rows ⟨c,hr⟩=>by subst hr;exact (inferInstance:OKR 0 0 (rB n.kids.dropLast c)).ok) (fun rows ⟨c,hr⟩=>?_)
  subst hr
  have hD:=Aiy n.kids.dropLast c 189 [.cptr [vi k]] (fun x=>!(x.kind==k)) hdl (fun x _=>Adx x k) (Ak8 _)
  have hfe:(n.kids.dropLast.filter fun x=>!(!(x.kind==k)))=J6 n k:=by simp only [Bool.not_not];rfl
  rw [hfe] at hD
  refine AK.ev 100 rfl ?_
  refine AK.hc [1] [] hD ?_
  refine AK.rbsl Tryz.func139 (b:=1) rfl (Nat.le_trans (List.length_filter_le _ _) hdl)
def Gn (k:Int):Int:=if k=2∨k=21∨k=23∨k=26 then 31 else if k=3∨k=4∨k=22 then 32 else 0
theorem Aqu (n:Nd):Pure X 240 [nd n] (vi (Gn n.kind)):=by
 refine Pure.run Tryz.func240 ?_
 repeat' (refine AK.if_ (fun _=>?_) (fun _=>?_))
 all_goals first | refine AK.rt Tryz.func240 ?_ | (refine AK.yes ?_;refine AK.rt Tryz.func240 ?_)
 all_goals (simp_all [Gn,B3])
theorem Adz (s:List UInt8):Pure X 142 [str s] (.fn 191 [.cptr [str s]]):=by
 refine Pure.mk Tryz.func142 rfl rfl (by kernel_rfl) ?_
 refine AK.evj 0 100 rfl ?_
 refine AK.ev 1 rfl ?_
 refine AK.op (Ndo.boxC (x:=str s)) ?_
 exact AK.rz Tryz.func142 rfl
theorem Z1 (x:Nd)(s:List UInt8):Pure X 191 [nd x,.cptr [str s]] (vb (x.name==s)):=by
 refine Pure.run Tryz.func191 ?_
 exact AK.rz Tryz.func191 rfl
def R1 (l:List Nd)(s:List UInt8):Int:=Ht (fun d=>d.name==s) 0 l
mutual
def J7 (hit:Nd→Bool):Nd→Option (List UInt8)
 | .mk k s m ks=>if hit (.mk k s m ks) then some s else Rx hit ks
def Rx (hit:Nd→Bool):List Nd→Option (List UInt8)
 | []=>none
 | x::l=>match J7 hit x with
   | some s=>some s
   | none=>Rx hit l
end
theorem Ql (hit:Nd→Bool)(n:Nd):J7 hit n=if hit n then some n.name else Rx hit n.kids:=by cases n;rw [J7];rfl
def trC (code:Int)(o:Option (List UInt8)):Int:=match o with
 | some _=>code
 | none=>0
abbrev trV (code:Int)(o:Option (List UInt8)):AV:=.agg [vi (trC code o),str (o.getD [])]
set_option maxHeartbeats 1000000 in
theorem Ahp (l:List Nd)(code:Int)(hc:code≠0)(g:FuncId)(caps:List AV)(hit:Nd→Bool)(Q:Nd→Prop)(hl:l.length≤1000000000) [hok:OKL 0 0 caps](hcat:∀ xs,J5 xs caps=some (xs++caps))
 (hQ:∀ x,Q x→(Gn x.kind=0→hit x=false)∧(Gn x.kind≠0→Pure X g (vi (Gn x.kind)::vi (R1 l x.name)::caps) (vb (hit x)))∧∀ k,k∈x.kids→hit x=false→Q k)(n:Nd)(hn:Ai n≤1000000000)(hq:Q n) :
 Pure X 192 [.sl (Ak l) .no,nd n,vi code,.fn g caps] (trV code (J7 hit n)):=by
 have hok2:OKL 2 0 caps:=⟨fun x hx=>(hok.ok x hx).mono (by omega) (by omega)⟩
 have hfl:Jh X.P 107=some [0,1]:=by kernel_rfl
 induction n using Nd.ind with
 | h n ih =>
   have hcn:=Bv n
   have hll:=Bc n.kids
   obtain ⟨hq0,hq1,hq2⟩:=hQ n hq
   have hloop:hit n=false→AK X ⟨192,Tryz.f192,0,0⟩ (Hn false 4 Tryz.f192) [(0,.sl (Ak l) .no),(2,vi code),(3,.fn g caps),(5,.ptr 0 0 0),(8,.ptr 1 0 0)] ⟨[[Af n],[[vi 0,str []]]],[]⟩
    (fun e S=>e=.ret (trV code (J7 hit n))∧S=⟨[],[]⟩):=fun hf=>by
    rw [Ql,if_neg (by simp [hf])]
    refine AK.at_ ?_
    refine AK.ev 100 rfl ?_
    refine AK.while_ (ι:=Nat) 2 0 (fun i=>i≤n.kids.length∧Rx hit n.kids=Rx hit (n.kids.drop i)) (fun i=>[(34,vi i),(33,vi n.kids.length),(32,.sl (Ak n.kids) .no),(0,.sl (Ak l) .no),(2,vi code),(3,.fn g caps),(5,.ptr 0 0 0),(8,.ptr 1 0 0)])
     (fun _=>⟨[[Af n],[[vi 0,str []]]],[]⟩) (fun i=>n.kids.length-i) ?_ 0 ⟨Nat.zero_le _,rfl⟩ ⟨rfl,by rw [← Ae n.kids];rfl,rfl,rfl,rfl,rfl,rfl,rfl,trivial⟩
    rintro i ⟨hi,hTi⟩ IH
    refine AK.ei (fun h=>?_) (fun h=>?_)
    ·have hlt:i<n.kids.length:=by have:=of_decide_eq_true h;omega
     obtain ⟨x,hx⟩:=Ac n.kids hlt
     have hm:=List.mem_of_getElem? hx
     rw [Av hx] at hTi
     simp only [Rx] at hTi
     refine AK.ix i (by omega) (Ao hx) ?_
     refine AK.pc (ih x hm (by have:=Dk hm;omega) (hq2 x hm hf)) ?_
     generalize J7 hit x=o at hTi ⊢
     refine AK.op (Jt (r:=!((trC code o==0)&&((o.getD []==[])&&true))) rfl rfl rfl rfl rfl hfl rfl (.inr ⟨rfl,rfl⟩)) ?_
     cases o with
     | some s =>
       simp only at hTi
       refine AK.yes ?_ (ht:=by simp [trC,hc])
       refine AK.rz Tryz.func192 ?_
       rw [hTi]
     | none =>
       simp only at hTi
       refine AK.no ?_
       exact IH (i+1) ⟨hlt,hTi⟩ (by omega) _ _ ⟨vsx (by omega),rfl,rfl,rfl,rfl,rfl,rfl,rfl,trivial⟩ rfl rfl rfl
    ·have hie:i=n.kids.length:=by have:=of_decide_eq_false h;omega
     rw [hie,List.drop_length] at hTi
     refine AK.rz Tryz.func192 ?_
     rw [hTi];rfl
   refine Pure.run Tryz.func192 ?_
   refine AK.pc (Aqu n) ?_
   refine AK.gd (fun h1=>?_) (fun h1=>?_)
   ·have h1':Gn n.kind≠0:=by have:(!(Gn n.kind==0))=true:=h1;simpa using this
    refine AK.pc (Adz n.name) ?_
    refine AK.pc (X3 l 191 [.cptr [str n.name]] (fun d=>d.name==n.name) hl (fun x _=>Z1 x n.name) (Ak8 _)) ?_
    refine AK.pc (hq1 h1') ?_ (hzs:=hcat _)
    refine AK.ifj 0 4 (fun h2=>?_) (fun h2=>?_)
    ·have h2':hit n=true:=h2
     rw [Ql,if_pos h2']
     exact AK.rz Tryz.func192 rfl
    ·exact AK.back' 2 0 (hloop h2) ⟨rfl,rfl,rfl,rfl,rfl,trivial⟩ rfl rfl rfl rfl rfl
   ·have h1':Gn n.kind=0:=by have:(!(Gn n.kind==0))=false:=h1;simpa using this
    refine AK.ifj (e:=false) 0 4 (fun h2=>nomatch h2) (fun _=>?_)
    exact AK.back' 2 0 (hloop (hq0 h1')) ⟨rfl,rfl,rfl,rfl,rfl,trivial⟩ rfl rfl rfl rfl rfl
def J8 (l:List Nd)(x:Nd):Bool:=!(Gn x.kind==0)&&decide (R1 l x.name<0)
def Q8 (l:List Nd)(x:Nd):Bool:=!(Gn x.kind==0)&&!((l.getD (R1 l x.name).toNat Ca).kind==Gn x.kind)
theorem Anj (a b:Int):Pure X 193 [vi a,vi b] (vb (decide (b<0))):=by
 refine Pure.run Tryz.func193 ?_
 exact AK.rz Tryz.func193 rfl
theorem Ank (l:List Nd)(a b:Int)(h0:0≤b)(h1:b<l.length):Pure X 194 [vi a,vi b,.cptr [.sl (Ak l) .no]] (vb (!((l.getD b.toNat Ca).kind==a))):=by
 obtain ⟨x,hx⟩:=Ac l (i:=b.toNat) (by omega)
 have:l.getD b.toNat Ca=x:=by simp [List.getD,hx]
 rw [this]
 refine Pure.run Tryz.func194 ?_
 refine AK.ix b h0 (Ao hx) ?_
 exact AK.rz Tryz.func194 rfl
theorem Agv {p:Nd→Bool}:∀ {l:List Nd}{i:Nat},Ht p i l<((i+l.length:Nat):Int)
 | [],i=>by simp only [Ht];omega
 | x::l,i=>by
   simp only [Ht,List.length_cons]
   split
   ·omega
   ·have:=Agv (p:=p) (l:=l) (i:=i+1)
    omega
def Xt (l:List Nd)(n:Nd):Int × List UInt8:=match J7 (J8 l) n with
 | some s=>(7,s)
 | none=>(trC 8 (J7 (Q8 l) n),(J7 (Q8 l) n).getD [])
theorem Uf {hit:Nd→Bool}:∀ {l:List Nd},Rx hit l=none→∀ x,x∈l→J7 hit x=none
 | [],_,x,hx=>by cases hx
 | y::l,h,x,hx=>by
   simp only [Rx] at h
   split at h
   ·cases h
   ·rename_i hy
    rcases List.mem_cons.1 hx with rfl | hx
    ·exact hy
    ·exact Uf h x hx
theorem Ab1 (l:List Nd)(n:Nd)(hl:l.length≤1000000000)(hn:Ai n≤1000000000):Pure X 143 [.sl (Ak l) .no,nd n] (.agg [vi (Xt l n).1,str (Xt l n).2]):=by
 have hfl:Jh X.P 107=some [0,1]:=by kernel_rfl
 have h7:=Ahp l 7 (by decide) 193 [] (J8 l) (fun _=>True) hl As1 (fun x _=>⟨fun h=>by simp [J8,h],fun h=>by
  have:J8 l x=decide (R1 l x.name<0):=by simp [J8,h]
  rw [this];exact Anj _ _,fun _ _ _=>trivial⟩) n hn trivial
 have h8:J7 (J8 l) n=none→Pure X 192 [.sl (Ak l) .no,nd n,vi 8,.fn 194 [.cptr [.sl (Ak l) .no]]] (trV 8 (J7 (Q8 l) n)):=fun h0 =>
  Ahp l 8 (by decide) 194 [.cptr [.sl (Ak l) .no]] (Q8 l) (fun x=>J7 (J8 l) x=none) hl (Ak8 _) (fun x hx=>by
   rw [Ql] at hx
   have hx7:J8 l x=false:=by
    cases h:J8 l x with
    | false=>rfl
    | true=>rw [h] at hx;simp at hx
   rw [hx7] at hx
   refine ⟨fun h=>by simp [Q8,h],fun h=>?_,fun k hk _=>Uf (by simpa using hx) k hk⟩
   have:Q8 l x=!((l.getD (R1 l x.name).toNat Ca).kind==Gn x.kind):=by simp [Q8,h]
   rw [this]
   have hlt:=Agv (p:=fun d=>d.name==x.name) (l:=l) (i:=0)
   have h0:¬ R1 l x.name<0:=by
    intro hh
    simp [J8,h,hh] at hx7
   exact Ank l _ _ (by omega) (by simpa [R1] using hlt)) n hn h0
 unfold Xt
 refine Pure.mk Tryz.func143 rfl rfl (by kernel_rfl) ?_
 refine AK.evj 0 100 rfl ?_
 refine AK.ev 1 rfl ?_
 refine AK.op (Ndo.boxC (x:=.sl (Ak l) .no)) ?_
 refine AK.pc h7 ?_
 generalize J7 (J8 l) n=o at h8 ⊢
 refine AK.op (Jt (r:=!((trC 7 o==0)&&((o.getD []==[])&&true))) rfl rfl rfl rfl rfl hfl rfl (.inr ⟨rfl,rfl⟩)) ?_
 cases o with
 | some s =>
   refine AK.yes ?_
   exact AK.rz Tryz.func143 rfl
 | none =>
   refine AK.no ?_
   refine AK.pc (h8 rfl) ?_
   exact AK.rz Tryz.func143 rfl
inductive PlO:Nd→Prop where
 | mk (k:Int) (s:List UInt8) (m:Int) (ks:List Nd) (hk:∀ x,x∈ks→PlO x)
    (hf:∀ x,x∈ks→x.kind=26→∃ a b k' s' m' l,x.kids=[a,b,.mk k' s' m' l]∧a.kind≠26∧b.kind≠26∧k'≠26):PlO (.mk k s m ks)
theorem PlO.kids {n:Nd}(h:PlO n):(∀ x,x∈n.kids→PlO x)∧∀ x,x∈n.kids→x.kind=26→∃ a b k' s' m' l,x.kids=[a,b,.mk k' s' m' l]∧a.kind≠26∧b.kind≠26∧k'≠26:=by
 cases h with | mk k s m ks hk hf=>exact ⟨hk,hf⟩
theorem PlO.leaf {k:Int}{s:List UInt8}{m:Int}:PlO (.mk k s m []):=.mk k s m [] (fun x h=>by cases h) (fun x h=>by cases h)
theorem Rq {n:Nd}(h:FE n):PlO n:=by
 induction h with
 | num m h0 h1=>exact .leaf
 | var s h=>exact .leaf
 | cell s a h ha ih=>exact .mk _ _ _ _ (fun x hx=>by simp at hx;subst hx;exact ih) (fun x hx h26=>by simp at hx;subst hx;have:=Bu ha;omega)
 | len s h=>exact .leaf
 | neg a ha ih=>exact .mk _ _ _ _ (fun x hx=>by simp at hx;subst hx;exact ih) (fun x hx h26=>by simp at hx;subst hx;have:=Bu ha;omega)
 | two k a b hk ha hb iha ihb =>
   exact .mk _ _ _ _ (fun x hx=>by simp at hx;rcases hx with rfl | rfl;exact iha;exact ihb) (fun x hx h26=>by
    simp at hx
    rcases hx with rfl | rfl
    ·have:=Bu ha;omega
    ·have:=Bu hb;omega)
theorem Pd {n:Nd}(h:FC n):PlO n:=by
 cases h with
 | mk k a b h0 h1 ha hb =>
   exact .mk _ _ _ _ (fun x hx=>by simp at hx;rcases hx with rfl | rfl;exact Rq ha;exact Rq hb) (fun x hx h26=>by
    simp at hx
    rcases hx with rfl | rfl
    ·have:=Bu ha;omega
    ·have:=Bu hb;omega)
theorem Ms {l:List Nd}(hl:∀ x,x∈l→FS x)(h:∀ x,x∈l→PlO x):PlO (.mk 30 [] 0 l) :=
 .mk _ _ _ _ h fun x hx h26=>by
  have:=hl x hx
  cases this with
  | for_ s a b l' hs ha hb hl'=>exact ⟨a,b,30,[],0,l',rfl,by have:=Bu ha;omega,by have:=Bu hb;omega,by omega⟩
  | _=>simp at h26
theorem Aaq {n:Nd}(h:FS n):PlO n:=by
 induction h with
 | set s a h ha=>exact .mk _ _ _ _ (fun x hx=>by simp at hx;subst hx;exact Rq ha) (fun x hx h26=>by simp at hx;subst hx;have:=Bu ha;omega)
 | put s a b h ha hb =>
   exact .mk _ _ _ _ (fun x hx=>by simp at hx;rcases hx with rfl | rfl;exact Rq ha;exact Rq hb) (fun x hx h26=>by
    simp at hx
    rcases hx with rfl | rfl
    ·have:=Bu ha;omega
    ·have:=Bu hb;omega)
 | read s h=>exact .leaf
 | ifs c l l' hc hl hl' ihl ihl' =>
   exact .mk _ _ _ _ (fun x hx=>by simp at hx;rcases hx with rfl | rfl | rfl;exact Pd hc;exact Ms hl ihl;exact Ms hl' ihl') (fun x hx h26=>by
    simp at hx
    rcases hx with rfl | rfl | rfl
    ·have:=G7 hc;omega
    ·simp at h26
    ·simp at h26)
 | whil c l hc hl ihl =>
   exact .mk _ _ _ _ (fun x hx=>by simp at hx;rcases hx with rfl | rfl;exact Pd hc;exact Ms hl ihl) (fun x hx h26=>by
    simp at hx
    rcases hx with rfl | rfl
    ·have:=G7 hc;omega
    ·simp at h26)
 | for_ s a b l h ha hb hl ihl =>
   exact .mk _ _ _ _ (fun x hx=>by simp at hx;rcases hx with rfl | rfl | rfl;exact Rq ha;exact Rq hb;exact Ms hl ihl) (fun x hx h26=>by
    simp at hx
    rcases hx with rfl | rfl | rfl
    ·have:=Bu ha;omega
    ·have:=Bu hb;omega
    ·simp at h26)
 | check c hc=>exact .mk _ _ _ _ (fun x hx=>by simp at hx;subst hx;exact Pd hc) (fun x hx h26=>by simp at hx;subst hx;have:=G7 hc;omega)
 | skip=>exact .leaf
 | stop=>exact .leaf
theorem Asp {n:Nd}(h:FP n):PlO n:=by
 cases h with
 | mk ds l hd hl =>
   refine .mk _ _ _ _ (fun x hx=>?_) (fun x hx h26=>?_)
   ·rcases List.mem_append.1 hx with h | h
    ·cases hd x h with
     | var s h=>exact .leaf
     | arr s m h h0 h1=>exact .leaf
    ·simp at h;subst h;exact Ms hl fun x hx=>Aaq (hl x hx)
   ·rcases List.mem_append.1 hx with h | h
    ·have:=V6 (hd x h);omega
    ·simp at h;subst h;simp at h26
abbrev Apl (s:List UInt8):Nd:=.mk 21 s 0 [.mk 6 [] 0 [.mk 2 s 0 [],.mk 1 [] 1 []]]
def HPl (n:Nd):Prop:=Hands X 145 [nd n] ⟨[],[]⟩ (.agg [vi n.kind,str n.name,vi n.num,.sl (Ak (Be n.kids)) (.tok 0)]) ⟨[],[(Be n.kids).length]⟩
theorem HPl.pure {n:Nd}(h:HPl n):Pure X 145 [nd n] (nd (Aw n)):=by
 have:=Hands.pure h
 obtain ⟨k,s,m,ks⟩:=n
 rw [A9]
 exact this
theorem Ant (xs:List UInt8)(a' b':Nd)(k':Int)(s':List UInt8)(m':Int)(l':List Nd):Ak [.mk 21 xs 0 [a'],.mk 25 [] 0 [.mk 11 [] 0 [.mk 2 xs 0 [],b'],.mk k' s' m' l']] =
 [[vi 21,str xs,vi 0,.sl [Af a'] .no],[vi 25,str [],vi 0,.sl [[vi 11,str [],vi 0,.sl [[vi 2,str xs,vi 0,.sl [] .no],Af b'] .no],[vi k',str s',vi m',.sl (Ak l') .no]] .no]]:=by
 have e1:Ak [a']=[Af a']:=Al _
 have e2:Ak [.mk 2 xs 0 [],b']=[Af (.mk 2 xs 0 []),Af b']:=Al _
 have e3:Ak [.mk 11 [] 0 [.mk 2 xs 0 [],b'],.mk k' s' m' l']=[Af (.mk 11 [] 0 [.mk 2 xs 0 [],b']),Af (.mk k' s' m' l')]:=Al _
 have e4:Ak [.mk 21 xs 0 [a'],.mk 25 [] 0 [.mk 11 [] 0 [.mk 2 xs 0 [],b'],.mk k' s' m' l']]=[Af (.mk 21 xs 0 [a']),Af (.mk 25 [] 0 [.mk 11 [] 0 [.mk 2 xs 0 [],b'],.mk k' s' m' l'])]:=Al _
 rw [e4]
 simp only [Af,Jz,Qs,Uy,D6,e1,e3,e2]
 rfl
set_option maxHeartbeats 2000000 in
theorem Alv (n:Nd)(ih:∀ x,x∈n.kids→PlO x→wN x≤1000000000→HPl x)(ih2:∀ x,x∈n.kids→∀ y,y∈x.kids→PlO y→wN y≤1000000000→HPl y)(hp:PlO n)(hw:wN n≤1000000000):HPl n:=by
 have hkl:=Ed n
 obtain ⟨hk,hf⟩:=hp.kids
 unfold HPl
 refine Hands.run Tryz.func145 ?_
 refine AK.mintB 2 0 3 rfl rfl rfl rfl rfl rfl ?_
 refine AK.while_ (ι:=Nat) 3 1 (fun i=>i≤n.kids.length) (fun i=>[(20,vi i),(19,vi n.kids.length),(18,.sl (Ak n.kids) .no),(1,.ptr 0 0 0),(2,.ptr 1 0 0),(3,.ptr 2 0 0)])
  (fun i=>⟨[[Af n],[zN],[[vi n.kind,str n.name,vi n.num,.sl (Ak (Be (n.kids.take i))) (.tok 0)]]],[(Be (n.kids.take i)).length]⟩) (fun i=>n.kids.length-i) ?_ 0
  (Nat.zero_le _) ⟨rfl,by rw [← Ae n.kids];rfl,rfl,rfl,rfl,rfl,trivial⟩ (by simp [A2];rfl)
 intro i hi IH
 refine AK.ei (fun h=>?_) (fun h=>?_)
 ·have hlt:i<n.kids.length:=by have:=of_decide_eq_true h;omega
  obtain ⟨x,hxg⟩:=Ac n.kids hlt
  have hm:=List.mem_of_getElem? hxg
  have hwx:wN x<wN n:=Gm hm
  have hsn:Be (n.kids.take (i+1))=Be (n.kids.take i)++Ei x:=by rw [List.take_add_one,hxg,P1];simp [Au,A2]
  have hl1:=Jl (Be (n.kids.take i))
  have hl2:=Qw (n.kids.take i)
  have hwk:wL n.kids≤wN n:=by rw [Rn];omega
  have hl3:wL (n.kids.take i)≤wL n.kids:=by
   have:=Oz (n.kids.take i) (n.kids.drop i)
   rw [List.take_append_drop] at this;omega
  refine AK.ix i (by omega) (Ao hxg) ?_
  refine AK.ifj 0 8 (fun h2=>?_) (fun h2=>?_)
  ·have h2':x.kind≠26:=by have:(!(x.kind==26))=true:=h2;simpa using this
   have hr:=(ih x hm (hk x hm) (by omega)).pure
   rw [Bb h2'] at hsn
   refine AK.dn 160 3 ?_
   refine As hr ?_
   refine Drv.w (Ndo.append (res:=Ak (Be (n.kids.take (i+1)))) rfl rfl rfl rfl rfl rfl rfl rfl rfl rfl rfl rfl rfl rfl (Ae _) (Cz _) rfl rfl rfl ?_ ?_ rfl) ?_
   ·rw [Ae];simp;omega
   ·rw [hsn,Al,Al,List.map_append];rfl
   refine Drv.e ?_
   refine Drv.w (Ndo.store rfl rfl rfl rfl rfl rfl rfl) ?_
   refine Drv.z ?_
   refine IH (i+1) hlt (by omega) _ _ ⟨vsx (by omega),rfl,rfl,rfl,rfl,rfl,trivial⟩ ?_ rfl rfl
   simp [St.drop,Ae,hsn]
  ·have h2':x.kind=26:=by have:(!(x.kind==26))=false:=h2;simpa using this
   obtain ⟨a,b,k',s',m',l,hkx,ha,hb,hc⟩:=hf x hm h2'
   obtain ⟨xk,xs,xm,xks⟩:=x
   simp only [Jz,D6] at h2' hkx
   subst h2';subst hkx
   have hpx:=hk _ hm
   have ma:a∈(Nd.mk 26 xs xm [a,b,.mk k' s' m' l]).kids:=by simp
   have mb:b∈(Nd.mk 26 xs xm [a,b,.mk k' s' m' l]).kids:=by simp
   have mc:Nd.mk k' s' m' l∈(Nd.mk 26 xs xm [a,b,.mk k' s' m' l]).kids:=by simp
   have wa:=Gm ma
   have wb:=Gm mb
   have wc:=Gm mc
   have ra:=(ih2 _ hm a ma (hpx.kids.1 a ma) (by omega)).pure
   have rb:=(ih2 _ hm b mb (hpx.kids.1 b mb) (by omega)).pure
   have rc:=ih2 _ hm _ mc (hpx.kids.1 _ mc) (by omega)
   have hlc:=Jl (Be l)
   have hlc2:=Qw l
   have hlc3:wL l≤1000000000:=by
    have:=Rn (Nd.mk k' s' m' l)
    simp only [D6] at this
    omega
   have hp1:Ei (.mk 26 xs xm [a,b,.mk k' s' m' l])=[.mk 21 xs 0 [Aw a],.mk 25 [] 0 [.mk 11 [] 0 [.mk 2 xs 0 [],Aw b],.mk k' s' m' (Be l++[Apl xs])]]:=by
    rw [Jn,Au,Au,Au,A2,Bb ha,Bb hb,Bb (x:=.mk k' s' m' l) hc,A9 k'];rfl
   rw [hp1] at hsn
   refine AK.wkB 4 0 3 (.sl [] .no) ?_
   refine AK.evj 9 100 rfl ?_
   refine AK.wkB 5 0 3 (.sl (Ak [.mk 2 xs 0 [],.mk 1 [] 1 []]) .no) ?_
   refine AK.ev 100 rfl ?_
   refine AK.ix 2 (by omega) (rows:=Ak [a,b,.mk k' s' m' l]) (r:=Af (.mk k' s' m' l)) rfl ?_
   refine AK.hc (τ':=[1]) [] [] rc ?_
   refine AK.wk 53 ?_
   refine AK.op (Ndo.append (res:=Ak (Be l++[Apl xs])) rfl rfl rfl rfl rfl rfl rfl rfl rfl rfl rfl rfl rfl rfl (Ae _) (Cz _) rfl rfl rfl ?_ ?_ rfl) ?_
   ·rw [Ae];simp;omega
   ·show Ak (Be l)++Ak [Apl xs]=_
    rw [Uw]
   refine AK.dn 768 3 ?_
   refine Drv.ig 1 (by omega) (Yy a b _) ?_
   refine As rb ?_
   refine Drv.wl (Lw rfl rfl rfl) ?_ ?_
   ·exact A4 (Ndo.ev rfl rfl rfl) (A4 (Ndo.ev rfl rfl rfl) (A4 (Ndo.ev rfl rfl rfl) G8))
   refine Drv.w (Ndo.store rfl rfl rfl rfl rfl rfl rfl) ?_
   refine Aen 12 ?_
   refine AK.wkB 7 0 3 (.sl [[vi 2,str xs,vi 0,.sl [] .no],Af (Aw b)] .no) ?_
   refine AK.dn 327680 6 ?_
   refine Drv.ig 0 (by omega) (Rb a _) ?_
   refine Drv.pc ra ?_
   refine Cp 6 ?_
   refine Ro ?_
   refine Drv.w (Ndo.append (res:=Ak (Be (n.kids.take (i+1)))) rfl rfl rfl rfl rfl rfl rfl rfl rfl rfl rfl rfl rfl rfl (Ae _) (Cz _) rfl rfl rfl ?_ ?_ rfl) ?_
   ·rw [Ae];simp;omega
   ·rw [hsn,Uw (Be (n.kids.take i)),Ant];rfl
   refine Drv.e ?_
   refine Drv.w (Ndo.store rfl rfl rfl rfl rfl rfl rfl) ?_
   refine Drv.z ?_
   refine IH (i+1) hlt (by omega) _ _ ⟨vsx (by omega),rfl,rfl,rfl,rfl,rfl,trivial⟩ ?_ rfl rfl
   show St.mk [[Af n],[zN],[[vi n.kind,str n.name,vi n.num,.sl (Ak (Be (n.kids.take (i+1)))) (.tok 0)]]] [(Ak (Be (n.kids.take i))).length+2]=_
   rw [Ae,hsn];simp
 ·have hie:i=n.kids.length:=by have:=of_decide_eq_false h;omega
  subst hie
  rw [List.take_length]
  exact AK.ret Tryz.func145 rfl rfl rfl rfl
theorem Alu (n:Nd)(hp:PlO n)(hw:wN n≤1000000000):HPl n:=by
 have:∀ n:Nd,(PlO n→wN n≤1000000000→HPl n)∧∀ y,y∈n.kids→PlO y→wN y≤1000000000→HPl y:=by
  intro n
  induction n using Nd.ind with
  | h n ih=>exact ⟨Alv n (fun x hx=>(ih x hx).1) (fun x hx y hy=>(ih x hx).2 y hy),fun y hy=>(ih y hy).1⟩
 exact (this n).1 hp hw
theorem Z4 (n:Nd)(hp:PlO n)(hw:wN n≤1000000000):Pure X 145 [nd n] (nd (Aw n)):=(Alu n hp hw).pure
theorem PrI.get {n:Nd}(h:PrI n):-9223372036854775808≤n.num∧n.num≤9223372036854775807∧∀ x,x∈n.kids→PrI x:=by
 cases h with | mk k s m ks h0 h1 hk=>exact ⟨h0,h1,hk⟩
theorem PrI.num1 {k:Int}{s:List UInt8}{m:Int}{ks:List Nd}(h0:0≤m)(h1:m≤1)(hk:∀ x,x∈ks→PrI x):PrI (.mk k s m ks):=.mk k s m ks (by omega) (by omega) hk
theorem Am3 {x:Nd}(h:PrI x):∀ y,y∈[x]→PrI y:=fun y hy=>by simp at hy;subst hy;exact h
theorem Abz {a b:Nd}(ha:PrI a)(hb:PrI b):∀ y,y∈[a,b]→PrI y:=fun y hy=>by
 simp at hy
 rcases hy with rfl | rfl
 ·exact ha
 ·exact hb
theorem Aud (s:List UInt8):PrI (Apl s):=.num1 (by omega) (by omega) (Am3 (.num1 (by omega) (by omega) (Abz (.num1 (by omega) (by omega) (fun x h=>by cases h)) (.num1 (by omega) (by omega) (fun x h=>by cases h)))))
theorem Aqe (s:List UInt8)(l:List Nd)(h:∀ x,x∈l→PrI x):∀ y,y∈Aa9 s l→PrI y:=by
 unfold Aa9
 split
 ·rename_i a b k' s' m' l'
  have ha:=h a (by simp)
  have hb:=h b (by simp)
  have hc:=(h (.mk k' s' m' l') (by simp)).get
  refine Abz (.num1 (by omega) (by omega) (Am3 ha)) (.num1 (by omega) (by omega) (Abz (.num1 (by omega) (by omega) (Abz (.num1 (by omega) (by omega) (fun x h=>by cases h)) hb)) (.mk k' s' m' _ hc.1 hc.2.1 fun x hx=>?_)))
  rcases List.mem_append.1 hx with hx | hx
  ·exact hc.2.2 x hx
  ·simp at hx;subst hx;exact Aud s
 ·intro y hy;cases hy
theorem Am4:(∀ n:Nd,PrI n→PrI (Aw n)∧∀ y,y∈Ei n→PrI y)∧∀ l:List Nd,(∀ x,x∈l→PrI x)→∀ y,y∈Be l→PrI y:=by
 refine Sj (fun k s m ks ih hp=>?_) (fun _ y hy=>by rw [A2] at hy;cases hy) (fun x l hx hl hp y hy=>?_)
 ·have hg:=hp.get
  have h1:PrI (Aw (.mk k s m ks)):=by rw [A9];exact .mk k s m _ hg.1 hg.2.1 (ih hg.2.2)
  refine ⟨h1,fun y hy=>?_⟩
  by_cases hk:k=26
  ·subst hk
   rw [Jn] at hy
   exact Aqe s _ (ih hg.2.2) y hy
  ·rw [Bb (x:=.mk k s m ks) hk] at hy
   simp at hy;subst hy;exact h1
 ·rw [Au] at hy
  rcases List.mem_append.1 hy with hy | hy
  ·exact (hx (hp x (by simp))).2 y hy
  ·exact hl (fun z hz=>hp z (by simp [hz])) y hy
theorem PrI.plain {n:Nd}(h:PrI n):PrI (Aw n):=(Am4.1 n h).1
theorem Aef:∀ {l:List Nd}{pre:List (List UInt8)},twG pre l=none→(∀ d,d∈l→has pre d.name=false)∧∀ x,x∈l→∀ y,y∈l→x.name=y.name→x=y
 | [],pre,_=>⟨fun d h=>(by cases h),fun x h _ _ _=>(by cases h)⟩
 | d::l,pre,h=>by
   simp only [twG] at h
   split at h
   ·cases h
   ·rename_i hd
    obtain ⟨h1,h2⟩:=Aef h
    have h3:∀ e,e∈l→has pre e.name=false∧d.name≠e.name:=fun e he=>by
     have:=h1 e he
     rw [Abk,Bool.or_eq_false_iff] at this
     refine ⟨this.1,fun hh=>?_⟩
     have:=this.2
     simp [has,hh] at this
    refine ⟨fun e he=>?_,fun x hx y hy hxy=>?_⟩
    ·rcases List.mem_cons.1 he with rfl | he
     ·simpa using hd
     ·exact (h3 e he).1
    ·rcases List.mem_cons.1 hx with rfl | hx<;>rcases List.mem_cons.1 hy with rfl | hy
     ·rfl
     ·exact absurd hxy (h3 y hy).2
     ·exact absurd hxy.symm (h3 x (by assumption)).2
     ·exact h2 x hx y hy hxy
theorem Qo (l:List Nd)(k:Int)(s:List UInt8):has (C5 l k) s=l.any fun d=>(d.kind==k)&&(d.name==s):=by
 induction l with
 | nil=>rfl
 | cons d l ih =>
   simp only [C5,has,List.filter_cons] at ih ⊢
   by_cases h:(d.kind==k)=true
   ·rw [if_pos h];simp only [List.map_cons,List.any_cons,h,Bool.true_and,ih]
   ·rw [if_neg h]
    have h':(d.kind==k)=false:=by simpa using h
    simp only [List.any_cons,h',Bool.false_and,Bool.false_or,ih]
theorem Ac5 (l:List Nd)(s:List UInt8):decide (R1 l s<0)=!(l.any fun d=>d.name==s):=by
 rw [← Ta _ l 0]
 show decide (R1 l s<0)=!decide (R1 l s≥0)
 by_cases h:R1 l s<0
 ·rw [decide_eq_true h,decide_eq_false (show ¬ R1 l s≥0 by omega)];rfl
 ·rw [decide_eq_false h,decide_eq_true (show R1 l s≥0 by omega)];rfl
theorem Se (k:Int):(Gn k=31∧Hq k=1)∨(Gn k=32∧Hq k=2)∨(Gn k=0∧Hq k=0):=by
 unfold Gn Hq
 repeat' split
 all_goals simp
theorem Aly {l:List Nd}(hk:∀ d,d∈l→d.kind=31∨d.kind=32)(s:List UInt8):(l.any fun d=>d.name==s)=(has (C5 l 31) s||has (C5 l 32) s):=by
 rw [Qo,Qo]
 induction l with
 | nil=>rfl
 | cons d l ih =>
   simp only [List.any_cons]
   rw [ih fun e he=>hk e (by simp [he])]
   rcases hk d (by simp) with h | h<;>simp [h]
   ·cases (d.name==s)<;>simp
   ·cases (d.name==s)<;>simp [Bool.or_comm,Bool.or_left_comm]
theorem Apa {l:List Nd}(hk:∀ d,d∈l→d.kind=31∨d.kind=32)(x:Nd):J8 l x=H1 (C5 l 31) (C5 l 32) 7 x.kind x.name:=by
 unfold J8 H1
 rw [Ac5,Aly hk,Ps,Ps]
 rcases Se x.kind with ⟨h1,h2⟩ | ⟨h1,h2⟩ | ⟨h1,h2⟩<;>simp [h1,h2]
theorem Apk {p:Nd→Bool}{l:List Nd}(h:(l.any p)=true):∃ d,d∈l∧p d=true∧l.getD (Ht p 0 l).toNat Ca=d:=by
 have h0:Ht p 0 l≠-1:=by
  intro e
  have:=Ta p l 0
  rw [h,e] at this
  simp at this
 obtain ⟨j,d,h1,h2,h3,_⟩:=Uk h0
 refine ⟨d,List.mem_of_getElem? h2,h3,?_⟩
 rw [h1]
 simp [List.getD,h2]
theorem Apb {l:List Nd}(hk:∀ d,d∈l→d.kind=31∨d.kind=32)(hu:∀ x,x∈l→∀ y,y∈l→x.name=y.name→x=y)(x:Nd)(h7:J8 l x=false):Q8 l x=H1 (C5 l 31) (C5 l 32) 8 x.kind x.name:=by
 unfold J8 at h7
 unfold Q8 H1
 rw [Ac5] at h7
 rw [Ps,Ps,Qo,Qo]
 by_cases hw:Gn x.kind=0
 ·rcases Se x.kind with ⟨h1,h2⟩ | ⟨h1,h2⟩ | ⟨h1,h2⟩<;>simp [h1,h2]<;>omega
 ·have ha:(l.any fun d=>d.name==x.name)=true:=by
   simp [hw] at h7
   simpa using h7
  obtain ⟨d,hd,hn,hg⟩:=Apk ha
  have hn':d.name=x.name:=by simpa using hn
  have one:∀ k:Int,(l.any fun e=>(e.kind==k)&&(e.name==x.name))=(d.kind==k):=fun k=>by
   cases hdk:(d.kind==k) with
   | true=>exact List.any_eq_true.2 ⟨d,hd,by simp [hdk,hn']⟩
   | false =>
     rw [List.any_eq_false]
     intro e he hh
     simp at hh
     have:=hu e he d hd (by rw [hh.2,hn'])
     subst this
     simp at hdk
     exact hdk hh.1
  have hgk:(l.getD (R1 l x.name).toNat Ca).kind=d.kind:=by rw [R1,hg]
  rw [one,one,hgk]
  rcases Se x.kind with ⟨h1,h2⟩ | ⟨h1,h2⟩ | ⟨h1,h2⟩<;>rcases hk d hd with h3 | h3<;>simp [h1,h2,h3]
def oV (o:Option (List UInt8)):List UInt8 × Bool:=match o with
 | some s=>(s,true)
 | none=>([],false)
theorem Avq {l:List Nd}(hk:∀ d,d∈l→d.kind=31∨d.kind=32):(∀ n:Nd,E4 (C5 l 31) (C5 l 32) 7 n=oV (J7 (J8 l) n))∧∀ ks:List Nd,Mj (C5 l 31) (C5 l 32) 7 ks=oV (Rx (J8 l) ks):=by
 refine Sj (fun k s m ks ih=>?_) rfl (fun x ks hx hl=>?_)
 ·rw [Vf,Ql,Apa hk]
  by_cases hh:H1 (C5 l 31) (C5 l 32) 7 (Nd.mk k s m ks).kind (Nd.mk k s m ks).name=true
  ·rw [if_pos hh,if_pos hh];rfl
  ·rw [if_neg hh,if_neg hh];exact ih
 ·simp only [Mj,Rx]
  rw [hx]
  cases J7 (J8 l) x with
  | some s=>rfl
  | none=>simp [oV];exact hl
theorem Avr {l:List Nd}(hk:∀ d,d∈l→d.kind=31∨d.kind=32)(hu:∀ x,x∈l→∀ y,y∈l→x.name=y.name→x=y) :
 (∀ n:Nd,J7 (J8 l) n=none→E4 (C5 l 31) (C5 l 32) 8 n=oV (J7 (Q8 l) n))∧∀ ks:List Nd,Rx (J8 l) ks=none→Mj (C5 l 31) (C5 l 32) 8 ks=oV (Rx (Q8 l) ks):=by
 refine Sj (fun k s m ks ih h0=>?_) (fun _=>rfl) (fun x ks hx hl h0=>?_)
 ·rw [Ql] at h0
  have h7:J8 l (.mk k s m ks)=false:=by
   cases h:J8 l (.mk k s m ks) with
   | false=>rfl
   | true=>rw [h] at h0;simp at h0
  rw [h7] at h0
  rw [Vf,Ql,Apb hk hu _ h7]
  by_cases hh:H1 (C5 l 31) (C5 l 32) 8 (Nd.mk k s m ks).kind (Nd.mk k s m ks).name=true
  ·rw [if_pos hh,if_pos hh];rfl
  ·rw [if_neg hh,if_neg hh];exact ih (by simpa using h0)
 ·have h1:=Uf h0 x (by simp)
  have h2:Rx (J8 l) ks=none:=by simp only [Rx,h1] at h0;exact h0
  simp only [Mj,Rx]
  rw [hx h1]
  cases J7 (Q8 l) x with
  | some s=>rfl
  | none=>simp [oV];exact hl h2
theorem Am7 (x:Nd):Pure X 141 [nd x] (vb (decide (60<x.num))):=by
 refine Pure.run Tryz.func141 ?_
 exact AK.rz Tryz.func141 rfl
theorem L0 (n:Nd)(k:Int):(J6 n k).length=(Aj n k).length:=by simp [J6,Aj,C5]
theorem Aex {n:Nd}(hd:∀ d,d∈n.kids.dropLast→FV d):((J6 n 32).any fun d=>decide (60<d.num))=bigS n.kids.dropLast:=by
 unfold J6 bigS
 rw [Bool.eq_iff_iff]
 simp only [List.any_eq_true,List.mem_filter,decide_eq_true_eq,beq_iff_eq]
 constructor
 ·rintro ⟨d,⟨h1,_⟩,h3⟩;exact ⟨d,h1,h3⟩
 ·rintro ⟨d,h1,h3⟩
  refine ⟨d,⟨h1,?_⟩,h3⟩
  have:=hd d h1
  cases this with
  | var s h=>simp at h3
  | arr s m h h0 h1=>rfl
theorem Akh {n:Nd}(h:FP n):n.kids≠[]∧∀ d,d∈n.kids.dropLast→FV d:=by
 cases h with
 | mk ds l hd hl=>exact ⟨by simp,by simpa using hd⟩
def P2 (n:Nd):Nd:=if (C9 n).1=0 then Aw n else Ca
set_option maxHeartbeats 1000000 in
theorem Aqh (n:Nd)(hn:Ai n≤1000000000)(hnum:PrI n):Pure X 99 [nd n] (.tup [nd (P2 n),.agg [vi (C9 n).1,str (C9 n).2]]):=by
 have hfl:Jh X.P 107=some [0,1]:=by kernel_rfl
 refine Pure.run Tryz.func99 ?_
 refine AK.pc (Ad0 n hn hnum) ?_
 refine AK.if_ (fun h1=>?_) (fun h1=>?_)
 ·have h1':Cd n=false:=by have:(!Cd n)=true:=h1;simpa using this
  have hC:C9 n=(4,[]):=by unfold C9;rw [if_neg (by simp [h1'])]
  unfold P2
  rw [hC]
  exact AK.rz Tryz.func99 rfl
 have h1':Cd n=true:=by have:(!Cd n)=false:=h1;simpa using this
 obtain ⟨fp,hc,hdp⟩:=Lq h1'
 obtain ⟨hkn,hFV⟩:=Akh fp
 have hw9:wN n≤4500:=by
  have:=Q7 n (Qc fp)
  omega
 have hcn:=Bv n
 have hll:=Bc n.kids
 have hdl:n.kids.dropLast.length≤1000:=by rw [List.length_dropLast];omega
 have hkind:∀ d,d∈n.kids.dropLast→d.kind=31∨d.kind=32:=fun d hd=>V6 (hFV d hd)
 have hfK:∀ k,(J6 n k).length≤1000:=fun k=>Nat.le_trans (List.length_filter_le _ _) hdl
 have e0:C9 n=C9 n:=rfl
 conv at e0=>rhs;rw [C9,if_pos h1']
 refine AK.dn 0 1 ?_
 refine As (Ahn n hkn (by omega)) ?_
 refine As (Oo n 32 hkn (by omega)) ?_
 refine Drv.z ?_
 refine AK.pc (Oo n 31 hkn (by omega)) ?_
 refine AK.gd (fun h2=>?_) (fun h2=>?_)
 ·have h2':8<(Aj n 31).length:=by have:=of_decide_eq_true h2;rw [Ae,L0] at this;omega
  have hC:C9 n=(3,[]):=by rw [e0,if_pos (by simp [Pw,h2'])]
  refine AK.gy ?_
  refine AK.yes ?_
  unfold P2
  rw [hC]
  exact AK.rz Tryz.func99 rfl
 have h2':¬ 8<(Aj n 31).length:=by have:=of_decide_eq_false h2;rw [Ae,L0] at this;omega
 refine AK.gd (fun h3=>?_) (fun h3=>?_)
 ·have h3':4<(Aj n 32).length:=by have:=of_decide_eq_true h3;rw [Ae,L0] at this;omega
  have hC:C9 n=(3,[]):=by rw [e0,if_pos (by simp [Pw,h3'])]
  refine AK.yes ?_
  unfold P2
  rw [hC]
  exact AK.rz Tryz.func99 rfl
 have h3':¬ 4<(Aj n 32).length:=by have:=of_decide_eq_false h3;rw [Ae,L0] at this;omega
 have hmany:¬ Pw n=true:=by simp [Pw]<;>omega
 rw [if_neg hmany] at e0
 have hbig:=P3 (J6 n 32) 141 [] (fun d=>decide (60<d.num)) (by have:=hfK 32;omega) (fun x _=>Am7 x) As1
 rw [Aex hFV] at hbig
 refine AK.pc hbig ?_
 refine AK.if_ (fun h4=>?_) (fun h4=>?_)
 ·have h4':bigS n.kids.dropLast=true:=h4
  have hC:C9 n=(3,[]):=by rw [e0,if_pos h4']
  unfold P2
  rw [hC]
  exact AK.rz Tryz.func99 rfl
 have h4':¬ bigS n.kids.dropLast=true:=by have:bigS n.kids.dropLast=false:=h4;simp [this]
 rw [if_neg h4'] at e0
 have htw:∀ i,twG ((n.kids.dropLast.take i).map Nd.name) (n.kids.dropLast.drop i)=twG [] n.kids.dropLast→True:=fun _ _=>trivial
 refine AK.while_ (ι:=Nat) 3 0 (fun i=>i≤n.kids.dropLast.length∧twG ((n.kids.dropLast.take i).map Nd.name) (n.kids.dropLast.drop i)=twG [] n.kids.dropLast)
  (fun i=>[(36,vi i),(35,vi n.kids.dropLast.length),(34,.sl (Ak n.kids.dropLast) .no),(4,.sl (Ak n.kids.dropLast) .no),(1,.ptr 0 0 0),(2,.ptr 1 0 0),(3,.ptr 2 0 0)])
  (fun i=>⟨[[Af n],[zN],[[vi 0,str []]]],[]⟩) (fun i=>n.kids.dropLast.length-i) ?_ 0 ⟨Nat.zero_le _,rfl⟩ ⟨rfl,by rw [← Ae n.kids.dropLast];rfl,rfl,rfl,rfl,rfl,rfl,trivial⟩ rfl rfl rfl rfl rfl
  (fun _=>inferInstance) (fun _=>inferInstance)
 rintro i ⟨hi,hT⟩ IH
 refine AK.ei (fun h5=>?_) (fun h5=>?_)
 ·have hlt:i<n.kids.dropLast.length:=by have:=of_decide_eq_true h5;omega
  obtain ⟨d,hd⟩:=Ac n.kids.dropLast hlt
  rw [Av hd] at hT
  simp only [twG] at hT
  have hin:((Ak n.kids.dropLast).take i).drop 0=Ak (n.kids.dropLast.take i):=by rw [Al,Al,List.drop_zero,List.map_take]
  have hany:((n.kids.dropLast.take i).any fun e=>e.name==d.name)=has ((n.kids.dropLast.take i).map Nd.name) d.name:=by rw [has,List.any_map];rfl
  refine AK.ix i (by omega) (Ao hd) ?_
  refine AK.dn 0 2 ?_
  refine Aem (fun S'=>V7 (l:=0) (h:=(i:Int)) (r:=Ak (n.kids.dropLast.take i)) rfl rfl rfl rfl rfl rfl rfl rfl rfl (by omega) (by omega) (by rw [Ae];omega) (Cz _) (by rw [Int.toNat_natCast];exact hin)) ?_
  refine As (Adz d.name) ?_
  refine As (P3 (n.kids.dropLast.take i) 191 [.cptr [str d.name]] (fun e=>e.name==d.name) (by rw [List.length_take];omega) (fun x _=>Z1 x d.name) (Ak8 _)) ?_
  refine Drv.z ?_
  refine AK.if_ (fun h6=>?_) (fun h6=>?_)
  ·have h6':has ((n.kids.dropLast.take i).map Nd.name) d.name=true:=by rw [← hany];exact h6
   rw [if_pos h6'] at hT
   have hC:C9 n=(6,d.name):=by rw [e0,← hT]
   refine AK.dn 48 4 ?_
   refine Drv.wl (Ndo.store rfl rfl rfl rfl rfl rfl rfl) ?_ ?_
   ·exact A4 (Ndo.ev rfl rfl rfl) G8
   refine Drv.w (Ndo.store rfl rfl rfl rfl rfl rfl rfl) ?_
   refine Drv.z ?_
   unfold P2
   rw [hC]
   exact AK.rz Tryz.func99 rfl
  ·have h6':¬ has ((n.kids.dropLast.take i).map Nd.name) d.name=true:=by rw [← hany];simp [show _=false from h6]
   rw [if_neg h6'] at hT
   exact IH (i+1) ⟨hlt,by rw [List.take_add_one,hd,List.map_append];exact hT⟩ (by omega) _ _ ⟨vsx (by omega),rfl,rfl,rfl,rfl,rfl,rfl,trivial⟩ rfl rfl rfl
 have hie:i=n.kids.dropLast.length:=by have:=of_decide_eq_false h5;omega
 rw [hie,List.drop_length] at hT
 have hT':twG [] n.kids.dropLast=none:=hT.symm
 rw [hT'] at e0
 simp only at e0
 obtain ⟨_,huq⟩:=Aef hT'
 have w7:=(Avq hkind).1 (Ck n)
 have w8:=(Avr hkind huq).1 (Ck n)
 have hdS:∀ k,Aj n k=C5 n.kids.dropLast k:=fun k=>rfl
 rw [hdS,hdS,w7] at e0
 have hlc:Ai (Ck n)≤1000:=by
  unfold Ck
  cases hg:n.kids.getLast? with
  | none=>rw [List.getLastD_eq_getLast?,hg];decide
  | some b =>
    rw [List.getLastD_eq_getLast?,hg]
    have:=Dk (List.mem_of_getLast? hg)
    simp only [Option.getD_some];omega
 refine AK.pc (Am6 n hkn (by omega)) ?_
 refine AK.pc (Ab1 n.kids.dropLast (Ck n) (by omega) (by omega)) ?_
 have hnt:Xt n.kids.dropLast (Ck n)=match J7 (J8 n.kids.dropLast) (Ck n) with
  | some s=>(7,s)
  | none=>(trC 8 (J7 (Q8 n.kids.dropLast) (Ck n)),(J7 (Q8 n.kids.dropLast) (Ck n)).getD []):=rfl
 generalize Xt n.kids.dropLast (Ck n)=T at hnt ⊢
 refine AK.op (Jt (r:=!((T.1==0)&&((T.2==[])&&true))) rfl rfl rfl rfl rfl hfl rfl (.inr ⟨rfl,rfl⟩)) ?_
 by_cases hz:J7 (J8 n.kids.dropLast) (Ck n)=none∧J7 (Q8 n.kids.dropLast) (Ck n)=none
 ·rw [hz.1,hz.2] at hnt
  rw [w8 hz.1,hz.1,hz.2] at e0
  simp only [oV,trC] at hnt e0
  subst hnt
  refine AK.no ?_
  refine AK.pc (Z4 n (Asp fp) (by omega)) ?_
  have hpw:=(Ol n).1
  have hpc:=Lg (Aw n)
  refine AK.pc (Ad0 (Aw n) (by omega) hnum.plain) ?_
  refine AK.if_ (fun h7=>?_) (fun h7=>?_)
  ·have h7':Cd (Aw n)=false:=by have:(!Cd (Aw n))=true:=h7;simpa using this
   have hC:C9 n=(5,[]):=by rw [e0];simp [h7']
   unfold P2
   rw [hC]
   exact AK.rz Tryz.func99 rfl
  ·have h7':Cd (Aw n)=true:=by have:(!Cd (Aw n))=false:=h7;simpa using this
   have hC:C9 n=(0,[]):=by rw [e0];simp [h7']
   unfold P2
   rw [hC]
   exact AK.rz Tryz.func99 rfl
 ·have hC:C9 n=T∧T.1≠0:=by
   cases h7:J7 (J8 n.kids.dropLast) (Ck n) with
   | some s =>
     rw [h7] at hnt e0
     simp only [oV] at e0
     rw [hnt,e0];simp
   | none =>
     rw [w8 h7] at e0
     rw [h7] at hnt e0
     cases h8:J7 (Q8 n.kids.dropLast) (Ck n) with
     | none=>exact absurd ⟨h7,h8⟩ hz
     | some s =>
       rw [h8] at hnt e0
       simp only [oV,trC] at e0 hnt
       rw [hnt,e0];simp
  obtain ⟨hC,hC0⟩:=hC
  refine AK.yes ?_ (ht:=by simp [hC0])
  refine AK.dn 12 2 ?_
  refine Drv.wl (Ndo.store rfl rfl rfl rfl rfl rfl rfl) ?_ ?_
  ·exact A4 (Ndo.ev rfl rfl rfl) G8
  refine Drv.w (Ndo.store rfl rfl rfl rfl rfl rfl rfl) ?_
  refine Drv.z ?_
  unfold P2
  rw [hC,if_neg hC0]
  exact AK.rz Tryz.func99 rfl
structure Eg where
 f:Int
 t:Int
 k:Int
 y:Bool
 n:Nd
structure Lp where
 a:Nd
 l:Nd
 h:Int
 x:Int
structure Gr where
 pts:Nat
 pt:Nat
 es:List Eg
 sts:List Nat
 lps:List Lp
 ver:Nat
def O3 (g:Gr):Gr:={ g with es:=g.es++[⟨g.pt,-1,7,false,Ca⟩],sts:=g.sts++[g.es.length],pts:=g.pts+1,pt:=g.pts }
def Cy (k:Int)(n:Nd)(g:Gr):Gr:={ g with es:=g.es++[⟨g.pt,g.pts,k,false,n⟩],pts:=g.pts+1,pt:=g.pts }
def Dq (p:Nat)(c:Nd)(y:Bool)(g:Gr):Gr:={ g with es:=g.es++[⟨p,g.pts,4,y,c⟩],pts:=g.pts+1,pt:=g.pts }
def Ix (f t:Nat)(g:Gr):Gr:={ g with es:=g.es++[⟨f,t,6,false,Ca⟩] }
def Mw (p:Nat)(g:Gr):Gr:={ Ix g.pt g.pts (Ix p g.pts g) with pts:=g.pts+1,pt:=g.pts }
def gIf (c:Nd)(f1 f2:Gr→Gr)(g:Gr):Gr:=Mw (f1 (Dq g.pt c true g)).pt (f2 (Dq g.pt c false (f1 (Dq g.pt c true g))))
def Ga (a n:Nd)(g:Gr):Gr:={ g with lps:=g.lps++[⟨a,n,g.pt,0⟩],ver:=g.ver+1 }
def Vs (i:Nat)(g:Gr):Gr:={ g with lps:=g.lps.modify i fun l=>{ l with x:=g.pt },ver:=g.ver+1 }
def Kn (h:Nat)(g:Gr):Gr:=Ix g.pt h g
def gWh (n a c:Nd)(f:Gr→Gr)(g:Gr):Gr :=
 Vs g.lps.length (Dq g.pts c false (Kn g.pts (f (Dq g.pts c true (Ga a n (Cy 6 Ca g))))))
def gKs (k:Int)(n:Nd)(ks:List Nd)(fs:List (Gr→Gr))(a:Nd)(g:Gr):Gr :=
 if k=21 then Cy 1 n g else if k=22 then Cy 2 n g else if k=23 then Cy 3 n g else if k=27 then Cy 5 (ks.headD Ca) g else if k=28 then Cy 6 Ca g
 else if k=29 then O3 g else if k=24 then gIf (ks.headD Ca) (fs.getD 1 id) (fs.getD 2 id) g else gWh n a (ks.headD Ca) (fs.getD 1 id) g
def goL:List (Nd × (Nd→Gr→Gr) × (Gr→Gr))→Nd→Gr→Gr
 | [],_,g=>g
 | (x,f,_)::l,a,g=>goL l x (f a g)
mutual
def gN:Nd→Nd × (Nd→Gr→Gr) × (Gr→Gr)
 | .mk k s m ks=>(.mk k s m ks,gKs k (.mk k s m ks) ks ((gNs ks).map fun x=>x.2.2),goL (gNs ks) Ca)
def gNs:List Nd→List (Nd × (Nd→Gr→Gr) × (Gr→Gr))
 | []=>[]
 | x::l=>gN x::gNs l
end
def gS (n a:Nd)(g:Gr):Gr:=(gN n).2.1 a g
def gL:List Nd→Nd→Gr→Gr
 | [],_,g=>g
 | x::l,a,g=>gL l x (gS x a g)
theorem O2 (k:Int)(s:List UInt8)(m:Int)(ks:List Nd):gN (.mk k s m ks)=(.mk k s m ks,gKs k (.mk k s m ks) ks ((gNs ks).map fun x=>x.2.2),goL (gNs ks) Ca):=by rw [gN]
theorem Ao8 (x:Nd):(gN x).1=x:=by obtain ⟨k,s,m,ks⟩:=x;rw [O2]
theorem Mx (x:Nd)(l:List Nd):gNs (x::l)=gN x::gNs l:=by rw [gNs]
theorem Abd:gNs []=[]:=by rw [gNs]
theorem Abi:∀ (l:List Nd)(a:Nd)(g:Gr),goL (gNs l) a g=gL l a g
 | [],a,g=>by rw [Abd];rfl
 | x::l,a,g=>by
   rw [Mx]
   have h:gN x=(x,(gN x).2):=Prod.ext (Ao8 x) rfl
   rw [h]
   simp only [goL,gL,gS]
   exact Abi l x _
theorem Abc (x:Nd)(l:List Nd)(a:Nd)(g:Gr):gL (x::l) a g=gL l x (gS x a g):=rfl
theorem Alo:∀ (l l':List Nd)(a:Nd)(g:Gr),gL (l++l') a g=gL l' (l.getLastD a) (gL l a g)
 | [],l',a,g=>rfl
 | x::l,l',a,g=>by simp only [List.cons_append,Abc];rw [Alo l l' x];cases l<;>simp [gL,List.getLastD]
theorem Abf (s:List UInt8)(ks:List Nd)(a:Nd)(g:Gr):gS (.mk 21 s 0 ks) a g=Cy 1 (.mk 21 s 0 ks) g:=by unfold gS;rw [O2];rfl
theorem Abe (s:List UInt8)(ks:List Nd)(a:Nd)(g:Gr):gS (.mk 22 s 0 ks) a g=Cy 2 (.mk 22 s 0 ks) g:=by unfold gS;rw [O2];rfl
theorem V9 (s:List UInt8)(ks:List Nd)(a:Nd)(g:Gr):gS (.mk 23 s 0 ks) a g=Cy 3 (.mk 23 s 0 ks) g:=by unfold gS;rw [O2];rfl
theorem S8 (c a:Nd)(g:Gr):gS (.mk 27 [] 0 [c]) a g=Cy 5 c g:=by unfold gS;rw [O2];rfl
theorem Wa (a:Nd)(g:Gr):gS (.mk 28 [] 0 []) a g=Cy 6 Ca g:=by unfold gS;rw [O2];rfl
theorem Wb (a:Nd)(g:Gr):gS (.mk 29 [] 0 []) a g=O3 g:=by unfold gS;rw [O2];rfl
theorem Agp (c a:Nd)(l l':List Nd)(g:Gr):gS (.mk 24 [] 0 [c,.mk 30 [] 0 l,.mk 30 [] 0 l']) a g=gIf c (gL l Ca) (gL l' Ca) g:=by
 unfold gS
 rw [O2,Mx,Mx,Mx,Abd,O2 30,O2 30,funext fun g=>Abi l Ca g,funext fun g=>Abi l' Ca g];rfl
theorem Agq (c a:Nd)(l:List Nd)(g:Gr):gS (.mk 25 [] 0 [c,.mk 30 [] 0 l]) a g=gWh (.mk 25 [] 0 [c,.mk 30 [] 0 l]) a c (gL l Ca) g:=by
 unfold gS
 rw [O2,Mx,Mx,Abd,O2 30,funext fun g=>Abi l Ca g];rfl
inductive PS:Nd→Prop
 | set (s:List UInt8) (a:Nd) (h:nameS s=true) (ha:FE a):PS (.mk 21 s 0 [a])
 | put (s:List UInt8) (a b:Nd) (h:nameS s=true) (ha:FE a) (hb:FE b):PS (.mk 22 s 0 [a,b])
 | read (s:List UInt8) (h:nameS s=true):PS (.mk 23 s 0 [])
 | ifs (c:Nd) (l l':List Nd) (hc:FC c) (hl:∀ x,x∈l→PS x) (hl':∀ x,x∈l'→PS x):PS (.mk 24 [] 0 [c,.mk 30 [] 0 l,.mk 30 [] 0 l'])
 | whil (c:Nd) (l:List Nd) (hc:FC c) (hl:∀ x,x∈l→PS x):PS (.mk 25 [] 0 [c,.mk 30 [] 0 l])
 | check (c:Nd) (hc:FC c):PS (.mk 27 [] 0 [c])
 | skip:PS (.mk 28 [] 0 [])
 | stop:PS (.mk 29 [] 0 [])
theorem Lo {l:List Nd}(h:∀ x,x∈l→∀ y,y∈Ei x→PS y):∀ y,y∈Be l→PS y:=by
 induction l with
 | nil=>intro y hy;rw [A2] at hy;cases hy
 | cons x l ih =>
   intro y hy
   rw [Au] at hy
   rcases List.mem_append.1 hy with hy | hy
   ·exact h x (by simp) y hy
   ·exact ih (fun z hz=>h z (by simp [hz])) y hy
theorem Qv (l:List Nd):Ei (.mk 30 [] 0 l)=[.mk 30 [] 0 (Be l)]:=by rw [Bb (by simp),A9]
theorem Kc {a:Nd}(h:FE a):Ei a=[a]:=by rw [Bb (by have:=Bu h;omega),P0 h]
theorem X1 {a:Nd}(h:FC a):Ei a=[a]:=by rw [Bb (by have:=G7 h;omega),Oj h]
theorem Avv {n:Nd}(h:FS n):∀ y,y∈Ei n→PS y:=by
 induction h with
 | set s a h ha=>intro y hy;rw [Bb (by simp),A9,Au,A2,Kc ha] at hy;simp at hy;subst hy;exact .set s a h ha
 | put s a b h ha hb=>intro y hy;rw [Bb (by simp),A9,Au,Au,A2,Kc ha,Kc hb] at hy;simp at hy;subst hy;exact .put s a b h ha hb
 | read s h=>intro y hy;rw [Bb (by simp),A9,A2] at hy;simp at hy;subst hy;exact .read s h
 | ifs c l l' hc hl hl' ihl ihl' =>
   intro y hy
   rw [Bb (by simp),A9,Au,Au,Au,A2,X1 hc,Qv,Qv] at hy;simp at hy;subst hy
   exact .ifs c _ _ hc (Lo ihl) (Lo ihl')
 | whil c l hc hl ihl =>
   intro y hy
   rw [Bb (by simp),A9,Au,Au,A2,X1 hc,Qv] at hy;simp at hy;subst hy
   exact .whil c _ hc (Lo ihl)
 | for_ s a b l h ha hb hl ihl =>
   intro y hy
   rw [Jn,Au,Au,Au,A2,Kc ha,Kc hb,Qv] at hy
   simp only [List.cons_append,List.nil_append,Aa9,List.mem_cons,List.not_mem_nil,or_false] at hy
   rcases hy with rfl | rfl
   ·exact .set s a h ha
   ·refine .whil _ _ (.mk 11 _ _ (by omega) (by omega) (.var s h) hb) fun y hy=>?_
    rcases List.mem_append.1 hy with hy | hy
    ·exact Lo ihl y hy
    ·simp at hy;subst hy
     exact .set s _ h (.two 6 _ _ (.inl rfl) (.var s h) (.num 1 (by omega) (by omega)))
 | check c hc=>intro y hy;rw [Bb (by simp),A9,Au,A2,X1 hc] at hy;simp at hy;subst hy;exact .check c hc
 | skip=>intro y hy;rw [Bb (by simp),A9,A2] at hy;simp at hy;subst hy;exact .skip
 | stop=>intro y hy;rw [Bb (by simp),A9,A2] at hy;simp at hy;subst hy;exact .stop
structure Gr.le (g g':Gr)(k:Nat):Prop where
 pts:g.pts≤g'.pts∧g'.pts≤g.pts+4*k
 pt:g'.pt<g'.pts
 es:∃ l,g'.es=g.es++l∧l.length≤4*k∧∀ e,e∈l→(0≤e.f∧e.f<g'.pts)∧(e.t=-1∨(0≤e.t∧e.t<g'.pts))
 lps:∃ l,g'.lps=g.lps++l∧l.length≤k
 ver:g.ver≤g'.ver∧g'.ver≤g.ver+2*k
 sts:∃ l,g'.sts=g.sts++l∧l.length≤k
theorem Gr.le.refl {g:Gr}(h:g.pt<g.pts):g.le g 0:=⟨by omega,h,⟨[],by simp,by simp,fun e he=>by cases he⟩,⟨[],by simp,by simp⟩,by omega,⟨[],by simp,by simp⟩⟩
theorem Gr.le.trans {a b c:Gr}{k l m:Nat}(h:a.le b k)(h':b.le c l)(hm:k+l≤m):a.le c m:=by
 obtain ⟨e1,h1,h2,h3⟩:=h.es
 obtain ⟨e2,h4,h5,h6⟩:=h'.es
 obtain ⟨l1,g1,g2⟩:=h.lps
 obtain ⟨l2,g3,g4⟩:=h'.lps
 obtain ⟨s1,g5,g6⟩:=h.sts
 obtain ⟨s2,g7,g8⟩:=h'.sts
 have:=h.pts
 have:=h'.pts
 have:=h.ver
 have:=h'.ver
 refine ⟨by omega,h'.pt,⟨e1++e2,by rw [h4,h1,List.append_assoc],by simp;omega,fun e he=>?_⟩,⟨l1++l2,by rw [g3,g1,List.append_assoc],by simp;omega⟩,by omega,⟨s1++s2,by rw [g7,g5,List.append_assoc],by simp;omega⟩⟩
 rcases List.mem_append.1 he with he | he
 ·obtain ⟨q1,q2⟩:=h3 e he
  refine ⟨by omega,?_⟩
  rcases q2 with q2 | q2
  ·exact .inl q2
  ·exact .inr (by omega)
 ·exact h6 e he
theorem Gr.le.up {a b:Gr}{k m:Nat}(h:a.le b k)(hm:k≤m):a.le b m:=h.trans (.refl h.pt) (by omega)
theorem J0 (k:Int)(n:Nd){g:Gr}(h:g.pt<g.pts):g.le (Cy k n g) 1 :=
 ⟨by simp [Cy],by simp [Cy],⟨_,rfl,by simp,fun e he=>by simp at he;subst he;simp [Cy];omega⟩,⟨[],by simp [Cy],by simp⟩,by simp [Cy],⟨[],by simp [Cy],by simp⟩⟩
theorem Aq6 {g:Gr}(h:g.pt<g.pts):g.le (O3 g) 1 :=
 ⟨by simp [O3],by simp [O3],⟨_,rfl,by simp,fun e he=>by simp at he;subst he;simp [O3];omega⟩,⟨[],by simp [O3],by simp⟩,by simp [O3],⟨_,rfl,by simp⟩⟩
theorem Mi (p:Nat)(c:Nd)(y:Bool){g:Gr}(h:p<g.pts):g.le (Dq p c y g) 1 :=
 ⟨by simp [Dq],by simp [Dq],⟨_,rfl,by simp,fun e he=>by simp at he;subst he;simp [Dq];omega⟩,⟨[],by simp [Dq],by simp⟩,by simp [Dq],⟨[],by simp [Dq],by simp⟩⟩
theorem Ao4 (t:Nat){g:Gr}(h:g.pt<g.pts)(ht:t<g.pts):g.le (Kn t g) 1 :=
 ⟨by simp [Kn,Ix],h,⟨_,rfl,by simp,fun e he=>by simp at he;subst he;simp [Kn,Ix];omega⟩,⟨[],by simp [Kn,Ix],by simp⟩,by simp [Kn,Ix],⟨[],by simp [Kn,Ix],by simp⟩⟩
theorem Apn (p:Nat){g:Gr}(h:g.pt<g.pts)(hp:p<g.pts):g.le (Mw p g) 1 :=
 ⟨by simp [Mw,Ix],by simp [Mw,Ix],⟨[⟨p,g.pts,6,false,Ca⟩,⟨g.pt,g.pts,6,false,Ca⟩],by simp [Mw,Ix],by simp,fun e he=>by simp at he;rcases he with rfl | rfl<;>simp [Mw,Ix]<;>omega⟩,⟨[],by simp [Mw,Ix],by simp⟩,by simp [Mw,Ix],⟨[],by simp [Mw,Ix],by simp⟩⟩
theorem Abr (a n:Nd){g:Gr}(h:g.pt<g.pts):g.le (Ga a n g) 1 :=
 ⟨by simp [Ga],h,⟨[],by simp [Ga],by simp,fun e he=>by cases he⟩,⟨_,rfl,by simp⟩,by simp [Ga],⟨[],by simp [Ga],by simp⟩⟩
theorem Xs {α:Type}(l l':List α)(f:α→α):(l++l').modify l.length f=l++l'.modify 0 f:=by
 apply List.ext_getElem?
 intro j
 rw [List.getElem?_modify]
 rcases Nat.lt_or_ge j l.length with h | h
 ·rw [List.getElem?_append_left h,List.getElem?_append_left h]
  simp [show l.length≠j by omega]
 ·rw [List.getElem?_append_right h,List.getElem?_append_right h,List.getElem?_modify]
  by_cases hj:l.length=j
  ·simp [hj]
  ·simp [hj,show ¬ 0=j-l.length by omega]
theorem Ao6 {g g':Gr}{k:Nat}(h:g.le g' k):g.le (Vs g.lps.length g') (k+1):=by
 obtain ⟨l,h1,h2⟩:=h.lps
 obtain ⟨e,h3,h4,h5⟩:=h.es
 obtain ⟨s,h6,h7⟩:=h.sts
 have:=h.pts
 have:=h.ver
 exact ⟨by simp only [Vs];omega,h.pt,⟨e,by simp only [Vs];exact h3,by omega,h5⟩,⟨l.modify 0 fun x=>{ x with x:=g'.pt },by simp only [Vs];rw [h1,Xs],by simp;omega⟩,by simp only [Vs];omega,⟨s,by simp only [Vs];exact h6,by omega⟩⟩
abbrev bG (k:Nat):Nat:=6*k
theorem Agn {l:List Nd}(h:∀ x,x∈l→∀ (a:Nd)(g:Gr),g.pt<g.pts→g.le (gS x a g) (bG (wN x))):∀ (a:Nd)(g:Gr),g.pt<g.pts→g.le (gL l a g) (bG (wL l)):=by
 induction l with
 | nil=>intro a g hp;exact (Gr.le.refl hp).up (by simp [wL])
 | cons x l ih =>
   intro a g hp
   rw [Abc]
   have h1:=h x (by simp) a g hp
   exact h1.trans (ih (fun y hy=>h y (by simp [hy])) x _ h1.pt) (by simp only [wL,bG];omega)
theorem Awb {c:Nd}{f1 f2:Gr→Gr}{k1 k2:Nat}(h1:∀ g:Gr,g.pt<g.pts→g.le (f1 g) k1)(h2:∀ g:Gr,g.pt<g.pts→g.le (f2 g) k2){g:Gr}(hp:g.pt<g.pts):g.le (gIf c f1 f2 g) (k1+k2+3):=by
 unfold gIf
 have a1:=Mi g.pt c true hp
 have a2:=h1 _ a1.pt
 have a12:=a1.trans a2 (Nat.le_refl _)
 have hp2:g.pt<(f1 (Dq g.pt c true g)).pts:=Nat.lt_of_lt_of_le hp a12.pts.1
 have a3:=Mi g.pt c false hp2
 have a4:=h2 _ a3.pt
 have a34:=a3.trans a4 (Nat.le_refl _)
 have hq:(f1 (Dq g.pt c true g)).pt<(f2 (Dq g.pt c false (f1 (Dq g.pt c true g)))).pts:=Nat.lt_of_lt_of_le a2.pt a34.pts.1
 exact (a12.trans a34 (Nat.le_refl _)).trans (Apn _ a4.pt hq) (by omega)
theorem Aw3 {n a c:Nd}{f:Gr→Gr}{k:Nat}(h1:∀ g:Gr,g.pt<g.pts→g.le (f g) k){g:Gr}(hp:g.pt<g.pts):g.le (gWh n a c f g) (k+6):=by
 unfold gWh
 have a1:=J0 6 Ca hp
 have a2:=Abr a n a1.pt
 have a12:=a1.trans a2 (Nat.le_refl _)
 have hh:g.pts<(Ga a n (Cy 6 Ca g)).pts:=by simp [Ga,Cy]
 have a3:=Mi g.pts c true hh
 have a4:=h1 _ a3.pt
 have a34:=a3.trans a4 (Nat.le_refl _)
 have hh2:=Nat.lt_of_lt_of_le hh a34.pts.1
 have a5:=Ao4 g.pts a4.pt hh2
 have hh3:=Nat.lt_of_lt_of_le hh2 a5.pts.1
 have a6:=Mi g.pts c false hh3
 exact (Ao6 ((a12.trans a34 (Nat.le_refl _)).trans (a5.trans a6 (Nat.le_refl _)) (Nat.le_refl _))).up (by omega)
theorem Avz {n:Nd}(h:PS n):∀ (a:Nd)(g:Gr),g.pt<g.pts→g.le (gS n a g) (bG (wN n)):=by
 induction h with
 | set s b h hb=>intro a g hp;rw [Abf];exact (J0 _ _ hp).up (by simp only [wN,bG];omega)
 | put s b c h hb hc=>intro a g hp;rw [Abe];exact (J0 _ _ hp).up (by simp only [wN,bG];omega)
 | read s h=>intro a g hp;rw [V9];exact (J0 _ _ hp).up (by simp only [wN,bG];omega)
 | ifs c l l' hc hl hl' ihl ihl'=>intro a g hp;rw [Agp];exact (Awb (Agn ihl Ca) (Agn ihl' Ca) hp).up (by simp only [wN,wL,bG,List.length_nil];omega)
 | whil c l hc hl ihl=>intro a g hp;rw [Agq];exact (Aw3 (Agn ihl Ca) hp).up (by simp only [wN,wL,bG,List.length_nil];omega)
 | check c hc=>intro a g hp;rw [S8];exact (J0 _ _ hp).up (by simp only [wN,bG];omega)
 | skip=>intro a g hp;rw [Wa];exact (J0 _ _ hp).up (by simp only [wN,wL,bG,List.length_nil];omega)
 | stop=>intro a g hp;rw [Wb];exact (Aq6 hp).up (by simp only [wN,wL,bG,List.length_nil];omega)
theorem Ki {l:List Nd}(h:∀ x,x∈l→PS x)(a:Nd)(g:Gr)(hp:g.pt<g.pts):g.le (gL l a g) (bG (wL l)):=Agn (fun x hx=>Avz (h x hx)) a g hp
end Go.V
namespace Go.V
open Go
section
variable {X:Cx}{B:Bx}{E E':Env}{S S':St}{w w':World}{F F':B7}{a:Act}{N:Nat}{R:AE→St→Prop}{ops:Array Oper}{i:Nat}{o:Oper}{p q:Operand}
theorem Wn (hI:Inv X E S w){t v:Nat}{k:Tk}(hk:E.toks[t]?=some k)(hS:S.toks[t]?=some v):v=k.len:=by
 have h1:=hI.nt
 have h2:(E.toks.map Tk.len)[t]?=some k.len:=by simp [hk]
 rw [h1,hS] at h2
 exact Option.some.inj h2
theorem Inv.setZ (hI:Inv X E S w){tk:List Nat}(h:Inv X E' ⟨S.boxes,tk⟩ w')(hbx:E'.boxes=E.boxes)(hsame:∀ (i b s:Nat),E.boxes[i]?=some (some (b,s))→w'.heap[b]?=w.heap[b]?){b r j:Nat}{rows:List (List AV)}{cs:List AV}{z z':AV}
 (hb:S.boxes[b]?=some rows)(hr:rows[r]?=some cs)(hc:cs[j]?=some z)(hz:∀ u,Rel E w u z→Rel E' w' u z'):Inv X E' ⟨S.boxes.set b (rows.set r (cs.set j z')),tk⟩ w' :=
 { h with
   nb:=by have:=h.nb;simpa using this
   box:=fun i blk sz rows' h1 h2=>by
    rcases Eh h2 with ⟨rfl,rfl⟩ | ⟨_,h2⟩
    ·have h1o:=h1
     rw [hbx] at h1o
     obtain ⟨arr,e,hh,hs,hl,hrel⟩:=hI.box i blk sz rows h1o hb
     obtain ⟨arr1,e1,hh1,hs1,hl1,hrel1⟩:=h.box i blk sz rows h1 hb
     have:=hsame _ _ _ h1o
     rw [hh,hh1] at this
     cases this
     refine ⟨arr,e,hh1,by simpa using hs,fun q hq=>?_,fun k q p x v hk hp hv=>?_⟩
     ·rcases List.mem_or_eq_of_mem_set hq with hq | rfl
      ·exact hl q hq
      ·simpa using hl cs (List.mem_of_getElem? hr)
     ·rcases Eh hk with ⟨rfl,rfl⟩ | ⟨_,hk⟩
      ·rcases Eh hp with ⟨rfl,rfl⟩ | ⟨_,hp⟩
       ·exact hz v (hrel k cs p _ v hr hc hv)
       ·exact hrel1 k cs p x v hr hp hv
      ·exact hrel1 k q p x v hk hp hv
    ·exact h.box i blk sz rows' h1 h2 }
theorem Aig (hI:Inv X E S w){v:Value}(h:Rel E w v (.sl [] .tight)):Rel (E.mint 0) w v (.psl [] S.toks.length 0):=by
 have hl:S.toks.length=E.toks.length:=by rw [← hI.nt];simp
 cases h with
 | sl _ _ a n cap b o sz vals hn hx ha hsz hm hc hr hs hcap =>
   subst hn
   exact .psl [] _ 0 a _ cap ⟨0,none⟩ sz vals rfl hx hcap (by rw [hl];exact getElem?_snoc_new _ _) (Nat.le_refl _) (fun r hr=>by cases hr) (fun _=>⟨rfl,hs⟩) (fun i j r x h=>by simp at h) (fun r hr=>by cases hr)
theorem AK.mintP {K:List Item}(b r j:Nat){m:Nat}{rows:List (List AV)}{cs:List AV}{bx:List (List (List AV))}{tk:List Nat}(hk:AK X B K F ⟨bx,tk⟩ R)(hb:S.boxes[b]?=some rows:=by rfl)(hr:rows[r]?=some cs:=by rfl)
 (hc:cs[j]?=some (.sl [] .tight):=by rfl)(hn:S.toks.length=m:=by rfl)(hbx:S.boxes.set b (rows.set r (cs.set j (.psl [] m 0)))=bx:=by rfl)(htk:S.toks++[0]=tk:=by rfl):AK X B K F S R:=by
 subst hn;subst hbx;subst htk
 intro E w a b' cs' hI hF hn hm hb'
 have ev:=Kv E w 0
 have nt:E.toks.length=S.toks.length:=by rw [← hI.nt];simp
 exact Fin.from (Steps.refl _ _) (ev.weaken (by rw [hI.nb];exact hn) (by omega)) (hk (E.mint 0) w a b' cs' (hI.setZ (hI.mint 0) rfl (fun _ _ _ _=>rfl) hb hr hc fun u hu=>Aig hI hu) (hF.mint 0) (by simpa using hn) (by simp;omega) hb')
theorem V8 {t e tk v n:Nat}{ik:IntKind}{y ye:Ty}{rows:List (List AV)}(hn:n<rows.length)(hS:S.toks[tk]?=some v)(hl:∀ r,r∈rows→r.length=ye.size)(ho:ops[i]?=some o:=by rfl)(hw:A6 ops F o=some true:=by rfl)
 (hop:o.op=.indexAddr t p q:=by rfl)(hp:Cr X F p=some (.psl rows tk v):=by rfl)(hq:Cr X F q=some (.val (.int ik n)):=by rfl)(hy:X.ty t=some y:=by rfl)(hyk:y.k=.slc e:=by rfl)(hye:X.ty e=some ye:=by rfl) :
 Ndo X N ops i o F (.pp rows tk v n 0) S S:=by
 refine Ndo.val ho hw fun F' E w a hc hI hF=>?_
 rw [hop] at hc
 have h1:=Ag hI hF ((hc p (by simp [Op.operands])).trans hp)
 have h2:=Ag hI hF ((hc q (by simp [Op.operands])).trans hq)
 obtain ⟨d,hdd,hd2⟩:=(X.ty_ok t y hy).agg
 simp only [hyk] at hd2
 obtain ⟨rfl,ye',hye',hne⟩:=hd2
 rw [hye] at hye';cases hye'
 cases hh2:a.eval q<;>rw [hh2] at h2<;>cases h2
 generalize hh1:a.eval p=u at h1
 have h1':=h1
 cases h1 with
 | psl _ _ _ ad m cap k sz vals hm hx hcap hk hv hsz hpv hr hf =>
   have hpv:=hpv (Wn hI hk hS)
   obtain ⟨kl,ksp⟩:=k
   cases ksp with
   | none=>obtain ⟨h,_⟩:=hpv;omega
   | some q' =>
     obtain ⟨b,c,s⟩:=q'
     obtain ⟨_,rfl,rfl,rfl,_⟩:=hpv
     refine ⟨.pointer (some ⟨b,n*ye.size,none⟩),?_,?_⟩
     ·have hin:(n:Int)<(m:Int):=by omega
      simp [execOp,hop,hh1,hh2,Instr.indexAt,asIntOf,run_underlying hdd,hin,Ci hye,Dy]
      intro h;omega
     ·have:=Rel.pp (E:=E) (w:=w) rows tk v n 0 b ye.size m c h1' hn hl
      simpa using this
theorem Aor {t tk v j o':Nat}{y:Ty}{r:List AV}{rows:List (List AV)}{x:AV}(hr:rows[j]?=some r)(hS:S.toks[tk]?=some v)(hl:o'+y.size≤r.length)(ho:ops[i]?=some o:=by rfl)(hw:A6 ops F o=some true:=by rfl)
 (hop:o.op=.load t p:=by rfl)(hp:Cr X F p=some (.pp rows tk v j o'):=by rfl)(hy:X.ty t=some y:=by rfl)(hx:Yu (Fi y.k) ((r.drop o').take y.size)=some x:=by rfl):Ndo X N ops i o F x S S:=by
 refine Ndo.val ho hw fun F' E w a hc hI hF=>?_
 rw [hop] at hc
 have h1:=Ag hI hF ((hc p (by simp [Op.operands])).trans hp)
 obtain ⟨b,sz,n,cap,hu,hrel,hi,hsz⟩:=h1.pp_inv
 generalize hU:Value.slice (some ⟨b,0,none⟩) n cap=U at hrel
 cases hrel with
 | psl _ _ _ a0 n0 cap0 k sz' vals hm hx hcap hk hv hsz' hpv hrr hf =>
   cases hU
   have hpv:=hpv (Wn hI hk hS)
   obtain ⟨kl,ksp⟩:=k
   cases ksp with
   | none=>obtain ⟨h,_⟩:=hpv;omega
   | some q' =>
     obtain ⟨b',c,s⟩:=q'
     obtain ⟨_,rfl,rfl,hab,arr,e,hh,hcs,hcl⟩:=hpv
     simp only [Option.some.injEq,Addr.mk.injEq,and_true] at hab
     subst hab
     have hrl:=hsz r (List.mem_of_getElem? hr)
     have:sz'=sz:=by rw [← hsz' r (List.mem_of_getElem? hr),hrl]
     subst this
     have hcell:∀ jj,jj<y.size→w.cell? ⟨b,j*sz'+o'+jj,none⟩=some (vals j (o'+jj)):=fun jj hjj=>by
      have:=hcl j (o'+jj) (by omega) (by omega)
      rw [← Nat.add_assoc] at this
      simp only [World.cell?,hh]
      exact this
     refine ⟨_,by simp [execOp,hop,hu,Instr.loadAt,Instr.sureAddr,Pv hy _ hcell],Aa6 (y:=y) (vals:=fun jj=>vals j (o'+jj)) (cs:=(r.drop o').take y.size) (by simp;omega) (fun jj x hx=>?_) ‹_›⟩
     have hj:jj<y.size:=by have:=Ad hx;simp at this;omega
     exact hrr j (o'+jj) r x hr (by simpa [List.getElem?_take,hj] using hx)
end
section
variable {X:Cx}{B:Bx}{E E':Env}{S S':St}{w w':World}{F F':B7}{a:Act}{N:Nat}{R:AE→St→Prop}{ops:Array Oper}{i:Nat}{o:Oper}{p q:Operand}
theorem Ndo.stP {t tk v j o' b r g:Nat}{y:Ty}{x:AV}{xs row cs:List AV}{rows brows:List (List AV)}{bx:List (List (List AV))}{tk':List Nat}(hS:S.toks[tk]?=some v)(hrow:rows[j]?=some row)(hl:o'+xs.length≤row.length)
 (hflat:∀ z,z∈xs→Flat z)(hb:S.boxes[b]?=some brows)(hr:brows[r]?=some cs)(hg:cs[g]?=some (.psl rows tk v))
 (hbx:S.boxes.set b (brows.set r (cs.set g (.psl (rows.set j (row.take o'++xs++row.drop (o'+xs.length))) tk (v+1))))=bx)(htk:S.toks.set tk (v+1)=tk')(ho:ops[i]?=some o)(hw:A6 ops F o=some true)
 (hop:o.op=.store t p q)(hp:Cr X F p=some (.pp rows tk v j o'))(hq:Cr X F q=some x)(hy:X.ty t=some y)(hxs:cellsOf x=some xs)(hxl:xs.length=y.size):Ndo X N ops i o F .junk S ⟨bx,tk'⟩:=by
 subst hbx;subst htk
 intro F' E w a hlk hI hF
 have hlo:=D8 hlk
 rw [hop] at hlo
 have r1:=Ag hI hF ((B1 (X:=X) (F:=F) (F':=F') (o:=p) fun s hs=>hlo s (by simp [Op.operands,hs])).trans hp)
 have r2:=Ag hI hF ((B1 (X:=X) (F:=F) (F':=F') (o:=q) fun s hs=>hlo s (by simp [Op.operands,hs])).trans hq)
 generalize hva:a.eval q=u2 at r2
 obtain ⟨blk,sz,n,cap,hu,hrel,hi,hsz⟩:=r1.pp_inv
 obtain ⟨hs,hrx,hone⟩:=El r2 hxs
 generalize hU:Value.slice (some ⟨blk,0,none⟩) n cap=U at hrel
 have hrel0:=hrel
 cases hrel with
 | psl _ _ _ a0 n0 cap0 k sz' vals hm hx hcap hk hv hsz' hpv hrr hf =>
   cases hU
   have hcur:=Wn hI hk hS
   have hpv:=hpv hcur
   obtain ⟨kl,ksp⟩:=k
   cases ksp with
   | none=>obtain ⟨h,_⟩:=hpv;omega
   | some q' =>
     obtain ⟨b',c,s⟩:=q'
     obtain ⟨hn0,rfl,rfl,hab,arr,e,hh,hcs,hcl⟩:=hpv
     simp only [Option.some.injEq,Addr.mk.injEq,and_true] at hab
     subst hab
     have hrl:=hsz row (List.mem_of_getElem? hrow)
     have:sz'=sz:=by rw [← hsz' row (List.mem_of_getElem? hrow),hrl]
     subst this
     simp only at hcur
     subst hcur
     have hjl:=Ad hrow
     have hvl:u2.cells.toList.length=xs.length:=by simpa using hs
     have hin:j*sz'+o'+xs.length≤arr.toList.length:=by
      have:(j+1)*sz'≤c*sz':=Nat.mul_le_mul_right sz' (by omega)
      rw [Nat.add_mul,Nat.one_mul] at this
      simp;omega
     have hst:=run_storeCells_at X.P blk (j*sz'+o') e u2.cells.toList 0 arr w hh (by simp at hin ⊢;omega) (fun u hu=>hone u (by simpa using hu))
     simp only [Nat.add_zero] at hst
     generalize harr:(arr.toList.take (j*sz'+o')++u2.cells.toList++arr.toList.drop (j*sz'+o'+u2.cells.toList.length)).toArray=arr' at hst
     have hasz:arr'.size=arr.size:=by
      subst harr
      have:=Ib arr.toList u2.cells.toList (j*sz'+o') (by omega)
      rw [List.size_toArray,this];simp
     have hat:=setRow_heap w blk arr arr' e _ hh
     have hoth:∀ q,q≠blk→(w.setRow blk arr').heap[q]?=w.heap[q]?:=fun q hq=>setRow_other w blk q _ (by omega)
     have hbw:blk<w.heap.size:=hI.own_lt (.inr ⟨tk,_,c,0,hk⟩)
     obtain ⟨ev,hI',_⟩:=Ls (w':=w.setRow blk arr') hI (t:=tk) (n:=v) (m:=v+1) (b:=blk) (c:=c) (sz:=0) hk rfl (by omega) (fun h=>absurd rfl h) rfl rfl rfl (by simp) (fun q _ hq=>hoth q hq) (.inr rfl) (by simpa using hbw)
      (fun o v ho h=>by omega) ⟨_,_,hat,fun h=>absurd rfl h⟩ (fun q e he=>Ma (fun h=>by subst h;exact ⟨_,_,_,_,hh,hat⟩) (hoth q) he)
     have hsz2:u2.cells.size=y.size:=by omega
     refine Does.val (v:=undef) ho (Bz hF (by rw [B5 hlk];exact hw)) (by simp [execOp,hop,hu,hva,Instr.storeAt,Instr.sureAddr,storeVar,Ci hy,hsz2,hst]) (.inr ⟨rfl,rfl⟩)
      ⟨E.setTok tk ⟨v+1,some (blk,c,0)⟩,?_,ev,.junk _⟩
     refine hI.setZ hI' rfl (fun i b s h=>hoth b fun hb'=>hI.bt i tk b s v c 0 h (hb'▸hk)) hb hr hg fun u0 hu0=>?_
     have hu0':=hu0
     cases hu0 with
     | psl _ _ _ a1 n1 cap1 k1 sz1 vals1 hm1 hx1 hcap1 hk1 hv1 hsz1 hpv1 hrr1 hf1 =>
       rw [hk] at hk1;cases hk1
       obtain ⟨_,_,rfl,rfl,arr1,e1,hh1,hcs1,hcl1⟩:=hpv1 rfl
       rw [hh] at hh1;cases hh1
       have:sz1=sz':=by rw [← hsz1 row (List.mem_of_getElem? hrow),hrl]
       subst this
       have hrowlen:(row.take o'++xs++row.drop (o'+xs.length)).length=sz1:=by rw [Ib row xs o' hl,hrl]
       have hget:∀ i' j',i'<n1→j'<sz1→i'*sz1+j'<arr'.size:=fun i' j' hi' hj'=>by
        have h1:=Gl (n:=n1) hi' hj'
        have h2:n1*sz1≤c*sz1:=Nat.mul_le_mul_right _ (by omega)
        omega
       refine .psl _ tk (v+1) _ n1 c ⟨v+1,some (blk,c,0)⟩ sz1 (fun i' j'=>arr'.getD (i'*sz1+j') default) (by simpa using hm1) hx1 hcap1 (by simp [Env.setTok,Ad hk]) (Nat.le_refl _) (fun r' hr'=>?_)
        (fun _=>⟨by omega,rfl,rfl,rfl,arr',e,hat,by rw [hasz];exact hcs,fun i' j' hi' hj'=>by simp [Array.getD,hget i' j' hi' hj']⟩) (fun i' j' r' x' hi' hj'=>?_) (fun r' hr' z hz=>?_)
       ·rcases List.mem_or_eq_of_mem_set hr' with h | rfl
        ·exact hsz1 r' h
        ·exact hrowlen
       ·have hil:i'<rows.length:=by have:=Ad hi';simpa using this
        have hjl':j'<sz1:=by
         have:=Ad hj'
         rcases Eh hi' with ⟨_,rfl⟩ | ⟨_,h⟩
         ·omega
         ·have:=hsz1 r' (List.mem_of_getElem? h);omega
        have hlt:=hget i' j' (by omega) hjl'
        have hval:arr'.getD (i'*sz1+j') default=arr'[i'*sz1+j']:=by simp [Array.getD,hlt]
        rw [hval]
        have hu':(arr.toList.take (j*sz1+o')++u2.cells.toList++arr.toList.drop (j*sz1+o'+u2.cells.toList.length))[i'*sz1+j']?=some arr'[i'*sz1+j']:=by
         rw [← List.getElem?_toArray,harr];simp [hlt]
        rw [Ia _ _ _ _ (by omega)] at hu'
        have hold:∀ (r0:List AV),rows[i']?=some r0→r0[j']?=some x'→arr.toList[i'*sz1+j']?=some arr'[i'*sz1+j']→Rel (E.setTok tk ⟨v+1,some (blk,c,0)⟩) (w.setRow blk arr') arr'[i'*sz1+j'] x':=fun r0 h1 h2 h3=>by
         have h4:=hcl1 i' j' (by omega) hjl'
         rw [Array.getElem?_toList,h4] at h3
         rw [← Option.some.inj h3]
         exact (hrr1 i' j' r0 x' h1 h2).step ev
        rcases Eh hi' with ⟨rfl,rfl⟩ | ⟨hne,h⟩
        ·rw [Ia _ _ _ _ hl] at hj'
         split at hj'
         ·rename_i hjj
          rw [if_pos (by omega),show i'*sz1+j'-(i'*sz1+o')=j'-o' by omega] at hu'
          exact (hrx (j'-o') _ x' (by simpa using hu') hj').step ev
         ·rename_i hjj
          rw [if_neg (by omega)] at hu'
          exact hold row hrow hj' hu'
        ·have:=U5 hjl' hne
         rw [if_neg (by omega)] at hu'
         exact hold r' h hj' hu'
       ·rcases List.mem_or_eq_of_mem_set hr' with h | rfl
        ·exact hf1 r' h z hz
        ·rcases List.mem_append.1 hz with hz | hz
         ·rcases List.mem_append.1 hz with hz | hz
          ·exact hf1 row (List.mem_of_getElem? hrow) z (List.mem_of_mem_take hz)
          ·exact hflat z hz
         ·exact hf1 row (List.mem_of_getElem? hrow) z (List.mem_of_mem_drop hz)
end
section
variable {X:Cx}{B:Bx}{E E':Env}{S S':St}{w w':World}{F F':B7}{a:Act}{N:Nat}{R:AE→St→Prop}{ops:Array Oper}{i:Nat}{o:Oper}{p q:Operand}
theorem Yq (hI:Inv X E S w){t ver:Nat}{tt tx ty e e':TypeId}{ye:Ty}(hu:X.P.underlying tt=some (.slice e))(hk:X.P.underlying tx=some (.slice e'))(hye:X.ty e=some ye)(hne0:ye.size≠0)
 {rows new:List (List AV)}{sp:Sp}{u v:Value}(hp:Rel E w u (.psl rows t ver))(hq:Rel E w v (.sl new sp))(hS:S.toks[t]?=some ver)(hflat:∀ r,r∈new→∀ x,x∈r→Flat x)
 (hz:∀ r,r∈rows→r.length=ye.size)(hz':∀ r,r∈new→r.length=ye.size)(hc:∀ r,r∈new→∀ x,x∈r→F5 x=true)(hne:new≠[])(hb:rows.length+new.length≤100000000000) :
 ∃ r E' w',(Builtin.append_ #[tt,tx] ty #[u,v]).run X.P w=.ok r w'∧Inv X E' ⟨S.boxes,S.toks.set t (ver+1)⟩ w'∧Evol E w E' w' E.boxes.length E.toks.length ∧
  Rel E' w' r (.psl (rows++new) t (ver+1)):=by
 obtain ⟨i,z,hi,hsz,hby,hzv,hzc,hzl,_⟩:=(X.ty_ok e ye hye).info
 have hnew:0<new.length:=List.length_pos_iff.2 hne
 obtain ⟨vals2,hsrc,hr2⟩:=Af2 hk hq hz' hc hne
 rw [← hsz] at hsrc
 generalize hR:rows=rows0 at hp
 cases hp with
 | psl _ _ _ a n cap k sz vals hn hx hcap hk1 hv hszr hpv hr hf =>
 subst hR
 subst hn
 have hcur:=Wn hI hk1 hS
 have hpv:=hpv hcur
 have hkt:=Ad hk1
 have hvals:∀ (vals':Nat→Nat→Value),(∀ i j,i<rows.length→vals' i j=vals i j)→(∀ i j,rows.length≤i→vals' i j=vals2 (i-rows.length) j)→∀ {E':Env} {w':World},Evol E w E' w' E.boxes.length E.toks.length →
  ∀ (i j:Nat) (r:List AV) (x:AV),(rows++new)[i]?=some r→r[j]?=some x→Rel E' w' (vals' i j) x:=fun vals' h1 h2 {E' w'} ev i j r x hi hj=>by
  rcases Nat.lt_or_ge i rows.length with h | h
  ·rw [List.getElem?_append_left h] at hi
   rw [h1 i j h];exact (hr i j r x hi hj).step ev
  ·rw [List.getElem?_append_right h] at hi
   rw [h2 i j h];exact (hr2 _ j r x hi hj).step ev
 have hall:∀ r,r∈rows++new→r.length=ye.size:=fun r h=>by
  rcases List.mem_append.1 h with h | h
  ·exact hz r h
  ·exact hz' r h
 have hfl':∀ r,r∈rows++new→∀ x,x∈r→Flat x:=fun r h x hx'=>by
  rcases List.mem_append.1 h with h | h
  ·exact hf r h x hx'
  ·exact hflat r h x hx'
 have hlen:(rows++new).length=rows.length+new.length:=by simp
 have hszeq:rows.length≠0→sz=i.size:=fun h=>by
  obtain ⟨r0,hr0⟩:=Ac rows (i:=0) (by omega)
  rw [← hszr r0 (List.mem_of_getElem? hr0),hz r0 (List.mem_of_getElem? hr0),hsz]
 have grow:cap<rows.length+new.length→∃ r E' w',(Builtin.append_ #[tt,tx] ty #[.slice a rows.length cap,v]).run X.P w=.ok r w'∧Inv X E' ⟨S.boxes,S.toks.set t (ver+1)⟩ w'∧Evol E w E' w' E.boxes.length E.toks.length ∧
  Rel E' w' r (.psl (rows++new) t (ver+1)):=fun hg=>by
  have hold:(Builtin.firstCells i.size rows.length (.slice a rows.length cap)).run X.P w.drew=.ok (Ch rows.length i.size vals).toArray w.drew:=by
   rcases Nat.eq_zero_or_pos rows.length with h0 | h0
   ·rw [h0]
    have:Ch 0 i.size vals=[]:=by simp [Ch]
    rw [this]
    cases a with
    | none=>exact run_firstCells_none _ _ _ _ _
    | some a0=>exact run_firstCells_some _ _ _ _ _ _ _ (by simp) (fun j v hj=>by simp at hj)
   ·have hs':=hszeq (by omega)
    subst hs'
    obtain ⟨kl,ksp⟩:=k
    cases ksp with
    | none=>obtain ⟨h,_⟩:=hpv;omega
    | some q' =>
      obtain ⟨b,c,s⟩:=q'
      obtain ⟨_,rfl,rfl,rfl,arr,e1,hh,hcs,hcl⟩:=hpv
      refine run_firstCells_some _ _ _ _ _ _ _ (Cl _ _ _) (fun q v hq=>?_)
      obtain ⟨i',j',hi',hj',rfl,he⟩:=S6 (vals:=vals) (by have:=Ad hq;rw [Cl] at this;exact this)
      rw [he] at hq;cases hq
      rw [Dy,Nat.zero_add]
      have:=hcl i' j' hi' hj'
      have hdr:w.drew.heap[b]?=w.heap[b]?:=rfl
      simp only [World.cell?,hdr,hh]
      exact this
  have hby':(rows.length+new.length)*i.bytes≤140737488355328:=Nat.le_trans (Nat.mul_le_mul_left _ hby) (by omega)
  have hrun:=run_append_grow_src w tt tx ty e i z hu hi hzv a rows.length cap _ hold v new.length _ hsrc hg (by omega) (growslice_fits hg hby')
  have hcc:=grownCap_ge w (rows.length+new.length) cap e
  generalize grownCap w (rows.length+new.length) cap e=cc at hrun hcc
  have hfl:∀ (i' j':Nat),i'<rows.length+new.length→j'<ye.size→(Ch rows.length i.size vals++Ch new.length i.size vals2)[i'*ye.size+j']?=some (if i'<rows.length then vals i' j' else vals2 (i'-rows.length) j'):=fun i' j' hi' hj'=>by
   rw [hsz]
   by_cases h:i'<rows.length
   ·have:=Gl h hj'
    rw [List.getElem?_append_left (by rw [Cl];exact this),if_pos h]
    exact Ha h hj'
   ·have hle:rows.length*ye.size≤i'*ye.size:=Nat.mul_le_mul_right _ (by omega)
    rw [List.getElem?_append_right (by rw [Cl];omega),if_neg h,Cl]
    rw [show i'*ye.size+j'-rows.length*ye.size=(i'-rows.length)*ye.size+j' by rw [Nat.sub_mul];omega]
    exact Ha (by omega) hj'
  have hcs:((Ch rows.length i.size vals++Ch new.length i.size vals2).toArray++Builtin.zeroCells z.cells (cc-(rows.length+new.length))).size=cc*ye.size:=by
   have hzs:z.cells.size=ye.size:=by rw [← hzl,← hzc];simp
   have:(Builtin.zeroCells z.cells (cc-(rows.length+new.length))).size=(cc-(rows.length+new.length))*ye.size:=by
    simp [Builtin.zeroCells,hzs]
   rw [Array.size_append,this,List.size_toArray,List.length_append,Cl,Cl,hsz,← Nat.add_mul,← Nat.add_mul]
   congr 1;omega
  have hpush:∀ o:Obj,(w.drew.alloc o).heap=w.heap.push o:=fun _=>rfl
  have hheap:(w.drew.alloc (.cells ((Ch rows.length i.size vals++Ch new.length i.size vals2).toArray++Builtin.zeroCells z.cells (cc-(rows.length+new.length))) e)).heap[w.heap.size]? =
   some (.cells ((Ch rows.length i.size vals++Ch new.length i.size vals2).toArray++Builtin.zeroCells z.cells (cc-(rows.length+new.length))) e (0,0)):=by rw [hpush];simp
  obtain ⟨ev,hI',_⟩:=Ls (w':=w.drew.alloc (.cells ((Ch rows.length i.size vals++Ch new.length i.size vals2).toArray++Builtin.zeroCells z.cells (cc-(rows.length+new.length))) e)) hI (t:=t) (n:=ver) (m:=ver+1)
   (b:=w.heap.size) (c:=cc) (sz:=0) hk1 hcur.symm (by omega) (fun h=>absurd rfl h) rfl rfl rfl (by rw [hpush];simp) (fun q hq _=>by rw [hpush,Array.getElem?_push_lt hq];simp [hq]) (.inl rfl) (by rw [hpush];simp)
   (fun o v _ h=>by have:=Gp h;omega) ⟨_,e,hheap,fun h=>absurd rfl h⟩ (Evol.push (E:=E) (w:=w) ⟨_,hpush _⟩ rfl rfl rfl 0 0).ty
  refine ⟨_,_,_,hrun,hI',ev,?_⟩
  refine .psl (rows++new) t (ver+1) _ _ cc ⟨ver+1,some (w.heap.size,cc,0)⟩ ye.size (fun i j=>if i<rows.length then vals i j else vals2 (i-rows.length) j) hlen (by unfold M4;omega) hcc (by simp [Env.setTok,hkt]) (Nat.le_refl _) hall
   (fun _=>⟨by omega,rfl,rfl,rfl,_,e,hheap,hcs,fun i' j' hi' hj'=>?_⟩) (hvals _ (fun i' j' h=>if_pos h) (fun i' j' h=>if_neg (by omega)) ev) hfl'
  have h:=hfl i' j' hi' hj'
  have hlt:=Ad h
  rw [Array.getElem?_append_left (by simpa using hlt),List.getElem?_toArray]
  exact h
 by_cases hg:cap<rows.length+new.length
 ·exact grow hg
 ·obtain ⟨kl,ksp⟩:=k
  cases ksp with
  | none=>obtain ⟨h1,h2⟩:=hpv;omega
  | some q =>
    obtain ⟨b',c',s'⟩:=q
    obtain ⟨hn0,rfl,rfl,rfl,cur,te,hh,hcs,hcl⟩:=hpv
    have hs':=hszeq hn0
    subst hs'
    simp only at hcur
    subst hcur
    have hsub:(rows.length+new.length)*i.size≤c'*i.size:=Nat.mul_le_mul_right _ (by omega)
    rw [Nat.add_mul] at hsub
    have hfit:rows.length*i.size+(Ch new.length i.size vals2).length≤cur.size:=by rw [Cl,hcs];exact hsub
    have hrun:=Mf tt tx ty e i hu hi b' rows.length c' v new.length _ hsrc (by omega) hh hfit
    have hfl:=Cl new.length i.size vals2
    have hat:=setRow_heap w b' cur (cur.toList.take (rows.length*i.size)++Ch new.length i.size vals2++cur.toList.drop (rows.length*i.size+(Ch new.length i.size vals2).length)).toArray te _ hh
    have hoth:∀ q,q≠b'→(w.setRow b' (cur.toList.take (rows.length*i.size)++Ch new.length i.size vals2++cur.toList.drop (rows.length*i.size+(Ch new.length i.size vals2).length)).toArray).heap[q]?=w.heap[q]? :=
     fun q hq=>setRow_other w b' q _ (by omega)
    have hspl:=fun q=>Ia cur.toList (Ch new.length i.size vals2) (rows.length*i.size) q (by simpa using hfit)
    have hbw:b'<w.heap.size:=hI.own_lt (.inr ⟨t,_,c',0,hk1⟩)
    obtain ⟨ev,hI',_⟩:=Ls (w':=w.setRow b' (cur.toList.take (rows.length*i.size)++Ch new.length i.size vals2++cur.toList.drop (rows.length*i.size+(Ch new.length i.size vals2).length)).toArray) hI (t:=t) (n:=ver) (m:=ver+1)
     (b:=b') (c:=c') (sz:=0) hk1 rfl (by omega) (fun h=>absurd rfl h) rfl rfl rfl (by simp) (fun q _ hq=>hoth q hq) (.inr rfl) (by simpa using hbw)
     (fun o v ho h=>by omega) ⟨_,_,hat,fun h=>absurd rfl h⟩ (fun q e he=>Ma (fun h=>by subst h;exact ⟨_,_,_,_,hh,hat⟩) (hoth q) he)
    refine ⟨_,_,_,hrun,hI',ev,?_⟩
    have hnm:∀ i' j',i'<rows.length+new.length→j'<i.size→i'*i.size+j'<(rows.length+new.length)*i.size:=fun i' j' hi' hj'=>Gl hi' hj'
    refine .psl (rows++new) t (ver+1) _ _ c' ⟨ver+1,some (b',c',0)⟩ i.size (fun i j=>if i<rows.length then vals i j else vals2 (i-rows.length) j) hlen (by unfold M4;omega) (by omega) (by simp [Env.setTok,hkt]) (Nat.le_refl _) (fun r hr=>by rw [hall r hr,hsz])
     (fun _=>⟨by omega,rfl,rfl,rfl,_,te,hat,by rw [List.size_toArray,Ib _ _ _ (by simpa using hfit)];simpa using hcs,fun i' j' hi' hj'=>?_⟩) (hvals _ (fun i' j' h=>if_pos h) (fun i' j' h=>if_neg (by omega)) ev) hfl'
    rw [List.getElem?_toArray,hspl]
    have h4:=hnm i' j' hi' hj'
    rw [Nat.add_mul] at h4
    by_cases h:i'<rows.length
    ·have h5:=Gl h hj'
     dsimp only
     rw [if_neg (by omega),if_pos h,Array.getElem?_toList]
     exact hcl i' j' h hj'
    ·have hle:rows.length*i.size≤i'*i.size:=Nat.mul_le_mul_right _ (by omega)
     dsimp only
     rw [if_pos ⟨by omega,by omega⟩,if_neg h]
     rw [show i'*i.size+j'-rows.length*i.size=(i'-rows.length)*i.size+j' by rw [Nat.sub_mul];omega]
     exact Ha (by omega) hj'
theorem Wt {c:Call}{t ver tt tx e e':Nat}{y yx ye:Ty}{rows new:List (List AV)}{sp:Sp}{res:List (List AV)}{tk:List Nat}(hS:S.toks[t]?=some ver)(hl:∀ r,r∈rows→r.length=ye.size)(hflat:∀ r,r∈new→∀ x,x∈r→Flat x)
 (hb:rows.length+new.length≤100000000000)(hres:rows++new=res)(htk:S.toks.set t (ver+1)=tk)(ho:ops[i]?=some o)(hw:A6 ops F o=some true)(hop:o.op=.call c)(hcal:c.callee=.builtin .append)(hargs:c.args.toList=[p,q])(htys:c.argTypes.toList=[tt,tx])
 (hp:Cr X F p=some (.psl rows t ver))(hq:Cr X F q=some (.sl new sp))(hy:X.ty tt=some y)(hyk:y.k=.slc e)(hye:X.ty e=some ye)(hyx:X.ty tx=some yx)(hyxk:yx.k=.slc e')
 (hl':G1 ye.size new=true)(hc:Ir new=true)(hne:Nat.ble 1 new.length=true):Ndo X N ops i o F (.psl res t (ver+1)) S ⟨S.boxes,tk⟩:=by
 subst hres;subst htk
 intro F' E w a hlk hI hF
 obtain ⟨callee,args,argTypes⟩:=c
 simp only at hcal hargs htys
 subst hcal
 have ha:args=#[p,q]:=by rw [← Array.toList_inj];exact hargs
 have ht:argTypes=#[tt,tx]:=by rw [← Array.toList_inj];exact htys
 subst ha;subst ht
 have hlo:=D8 hlk
 rw [hop] at hlo
 have r1:=Ag hI hF ((B1 (X:=X) (F:=F) (F':=F') (o:=p) fun s hs=>hlo s (by simp [Op.operands,Call.operands,hs])).trans hp)
 have r2:=Ag hI hF ((B1 (X:=X) (F:=F) (F':=F') (o:=q) fun s hs=>hlo s (by simp [Op.operands,Call.operands,hs])).trans hq)
 obtain ⟨d1,hd1,hk1⟩:=(X.ty_ok tt y hy).agg
 simp only [hyk] at hk1
 obtain ⟨rfl,ye',hye',hne0⟩:=hk1
 rw [hye] at hye';cases hye'
 obtain ⟨d2,hd2,hk2⟩:=(X.ty_ok tx yx hyx).agg
 simp only [hyxk] at hk2
 obtain ⟨rfl,_⟩:=hk2
 obtain ⟨v,E',w',h1,h2,h3,h4⟩:=Yq hI (ty:=o.type) hd1 hd2 hye hne0 r1 r2 hS hflat hl (E6.1 hl') (Gy.1 hc) (fun h=>by rw [h] at hne;simp at hne) hb
 exact Does.val ho (Bz hF (by rw [B5 hlk];exact hw)) (by simp [execOp,hop,resolve,invoke,builtin,h1]) (.inl rfl) ⟨E',h2,h3,h4⟩
class TokC (tk:List Nat)(t v:Nat):Prop where
 h:tk[t]?=some v
instance {v:Nat}{l:List Nat}:TokC (v::l) 0 v:=⟨rfl⟩
instance {x v t:Nat}{l:List Nat} [h:TokC l t v]:TokC (x::l) (t+1) v:=⟨by simpa using h.h⟩
instance {bx:List (List (List AV))}{tk:List Nat}{n m t v:Nat}{rows:List (List AV)} [h1:TokC tk t v] [h2:LeC m t]:FzC ⟨bx,tk⟩ n m (.psl rows t v) (.sl rows .no):=⟨.psl rows t v h2.h h1.h⟩
end
end Go.V
namespace Go.V
open Go Go.Proofs
def Lh (e:Eg):List AV:=vi e.f::vi e.t::vi e.k::vb e.y::Af e.n
def Dj (l:List Eg):List (List AV):=l.map Lh
theorem If (l:List Eg):(Dj l).length=l.length:=by simp [Dj]
theorem Pn (l:List Eg):∀ r,r∈Dj l→r.length=8:=fun r h=>by obtain ⟨e,_,rfl⟩:=List.mem_map.1 h;rfl
theorem W9 (l:List Eg)(e:Eg):Dj l++[Lh e]=Dj (l++[e]):=by simp [Dj]
theorem Px (n:Nd):∀ x,x∈Af n→Flat x:=fun x hx=>by
 have h:OKL 0 0 (Af n):=inferInstance
 exact (h.ok x hx).flat rfl rfl
theorem Zd (e:Eg):∀ x,x∈Lh e→Flat x:=fun x hx=>by
 simp only [Lh,List.mem_cons] at hx
 rcases hx with rfl | rfl | rfl | rfl | hx
 ·exact .val _
 ·exact .val _
 ·exact .val _
 ·exact .val _
 ·exact Px _ x hx
theorem W8 (e:Eg):∀ r,r∈[Lh e]→∀ x,x∈r→Flat x:=fun r hr x hx=>by simp at hr;subst hr;exact Zd e x hx
instance {n m:Nat}{l:List Eg}:OKR n m (Dj l):=⟨fun r hr x hx=>by obtain ⟨e,_,rfl⟩:=List.mem_map.1 hr;exact (Zd e x hx).ok⟩
abbrev mbx (p:Nat)(l:List Eg):List (List AV):=[[vi p,.psl (Dj l) 0 l.length]]
theorem Gs (p:Nat)(l:List Eg)(h:p≤1000000000000):Hands X 87 [.ptr 0 0 0] ⟨[mbx p l],[l.length]⟩ (vi p) ⟨[mbx (p+1) l],[l.length]⟩:=by
 refine Hands.run Tryz.func87 ?_
 have e1:IntKind.i64.wrap ((p:Int)+1)=((p+1:Nat):Int):=(Aa (by omega) (by omega)).trans (by omega)
 have e2:IntKind.i64.wrap (IntKind.i64.wrap ((p:Int)+1)-1)=(p:Int):=by rw [e1];exact (Aa (by omega) (by omega)).trans (by omega)
 refine AK.as_ 2 (vi p) ?_ (A5 e2)
 refine AK.sto ⟨[mbx (p+1) l],[l.length]⟩ ?_ (by rw [mbx,← e1])
 exact AK.rb Tryz.func87 rfl rfl
theorem Alq (p:Nat)(l:List Eg)(e:Eg)(hw:wN e.n≤1000000000)(hl:l.length≤1000000000) :
 Hands X 88 [.ptr 0 0 0,vi e.f,vi e.t,vi e.k,vb e.y,.agg (Af e.n)] ⟨[mbx p l],[l.length]⟩ (.tup []) ⟨[mbx p (l++[e])],[(l++[e]).length]⟩:=by
 refine Hands.run Tryz.func88 ?_
 refine AK.db 73728 ?_
 refine As (Xy e.n hw) ?_
 refine Drv.w (Wt (ver:=l.length) rfl (Pn l) (W8 e) ?_ (W9 l e) rfl rfl rfl rfl rfl rfl rfl rfl rfl rfl rfl rfl rfl rfl rfl rfl rfl) ?_
 ·rw [If];simp;omega
 refine Drv.e ?_
 refine Drv.e ?_
 refine Drv.w (Ndo.store rfl rfl rfl rfl rfl rfl rfl) ?_
 refine Drv.z ?_
 refine AK.sto ⟨[mbx p (l++[e]),[Af e.n]],[(l++[e]).length]⟩ ?_ (by simp)
 exact AK.fb Tryz.func88 rfl rfl
structure Gb (g:Gr)(k:Nat):Prop where
 pt:g.pt<g.pts
 pts:g.pts+24*k≤100000000000
 es:g.es.length+24*k≤1000000000
theorem Gb.step {g g':Gr}{j k m:Nat}(h:Gb g m)(hl:g.le g' (bG j))(hm:j+k≤m):Gb g' k:=by
 obtain ⟨l,h1,h2,_⟩:=hl.es
 have:=hl.pts
 have:=h.pts
 have:=h.es
 simp only [bG] at h2 this
 refine ⟨hl.pt,?_,?_⟩
 ·have:=hl.pts.2;simp only [bG] at this;omega
 ·rw [h1,List.length_append];omega
theorem Gb.step1 {g g':Gr}{j k m:Nat}(h:Gb g m)(hl:g.le g' j)(hj:j≤6*m)(hm:j+6*k≤6*m):Gb g' k:=by
 obtain ⟨l,h1,h2,_⟩:=hl.es
 have:=hl.pts
 have:=h.pts
 have:=h.es
 refine ⟨hl.pt,by omega,?_⟩
 rw [h1,List.length_append];omega
abbrev gSt (g:Gr):St:=⟨[mbx g.pts g.es],[g.es.length]⟩
def HSt (n:Nd):Prop:=∀ (a:Nd)(g:Gr),Gb g (wN n)→Hands X 132 [.ptr 0 0 0,nd n,vi g.pt] (gSt g) (vi (gS n a g).pt) (gSt (gS n a g))
def HLs (l:List Nd):Prop:=∀ (a:Nd)(g:Gr),Gb g (wL l)→Hands X 86 [.ptr 0 0 0,nd (.mk 30 [] 0 l),vi g.pt] (gSt g) (vi (gL l a g).pt) (gSt (gL l a g))
theorem Ago {l:List Nd}{i:Nat}{x:Nd}(hx:l[i]?=some x)(a:Nd)(g:Gr):gL (l.take (i+1)) a g=gS x ((l.take i).getLastD a) (gL (l.take i) a g):=by
 rw [List.take_add_one,hx]
 simp only [Option.toList_some]
 rw [Alo];rfl
theorem Ah9 {l:List Nd}{i:Nat}{x:Nd}(hx:l[i]?=some x):wL (l.take i)+wN x≤wL l:=by
 have h:l.take (i+1)=l.take i++[x]:=by rw [List.take_add_one,hx];rfl
 have h1:wL (l.take (i+1))+wL (l.drop (i+1))=wL l:=by rw [← Oz,List.take_append_drop]
 rw [h,Oz] at h1
 simp only [wL] at h1;omega
theorem Abg {l:List Nd}(hp:∀ x,x∈l→PS x)(hs:∀ x,x∈l→HSt x):HLs l:=by
 intro a g hb
 have hlw:=Jl l
 have hbe:=hb.es
 refine Hands.run Tryz.func86 ?_
 refine AK.while_ (ι:=Nat) 2 1 (fun i=>i≤l.length) (fun i=>[(7,vi i),(0,.ptr 0 0 0),(2,vi (gL (l.take i) a g).pt),(4,.ptr 1 0 0)])
  (fun i=>⟨[mbx (gL (l.take i) a g).pts (gL (l.take i) a g).es,[Af (.mk 30 [] 0 l)]],[(gL (l.take i) a g).es.length]⟩) (fun i=>l.length-i) ?_ 0
  (Nat.zero_le _) ⟨rfl,rfl,rfl,rfl,trivial⟩
 intro i hi IH
 have hgi:g.le (gL (l.take i) a g) (bG (wL (l.take i))):=Ki (fun x hx=>hp x (List.mem_of_mem_take hx)) a g hb.pt
 refine AK.ei (fun h=>?_) (fun h=>?_)
 ·have hlt:i<l.length:=by have:=of_decide_eq_true h;rw [Ae] at this;simp at this;omega
  obtain ⟨x,hx⟩:=Ac l hlt
  have hwt:=Ah9 hx
  have hbi:Gb (gL (l.take i) a g) (wN x):=hb.step hgi hwt
  refine AK.ix i (by omega) (Ao (l:=l) hx) ?_
  refine AK.hc (τ':=[0]) [0] [0] (hs x (List.mem_of_getElem? hx) ((l.take i).getLastD a) _ hbi) ?_
  rw [← Ago hx]
  exact IH (i+1) hlt (by omega) _ _ ⟨vsx (by omega),rfl,rfl,rfl,trivial⟩ rfl rfl rfl
 ·have:i=l.length:=by have:=of_decide_eq_false h;rw [Ae] at this;simp at this;omega
  subst this
  rw [List.take_length] at hgi ⊢
  exact AK.rb Tryz.func86 rfl rfl
theorem L3 (p:Nat)(l:List Eg)(f t k:Int)(y:Bool)(n:Nd)(hw:wN n≤1000000000)(hl:l.length≤1000000000) :
 Hands X 88 [.ptr 0 0 0,vi f,vi t,vi k,vb y,nd n] ⟨[mbx p l],[l.length]⟩ (.tup []) ⟨[mbx p (l++[⟨f,t,k,y,n⟩])],[(l++[(⟨f,t,k,y,n⟩:Eg)]).length]⟩:=Alq p l ⟨f,t,k,y,n⟩ hw hl
theorem N5 (p:Nat)(l:List Eg)(f t k:Int)(y:Bool)(hl:l.length≤1000000000) :
 Hands X 88 [.ptr 0 0 0,vi f,vi t,vi k,vb y,.agg [vi 0,str [],vi 0,.sl [] .no]] ⟨[mbx p l],[l.length]⟩ (.tup []) ⟨[mbx p (l++[⟨f,t,k,y,Ca⟩])],[(l++[(⟨f,t,k,y,Ca⟩:Eg)]).length]⟩:=Alq p l ⟨f,t,k,y,Ca⟩ (by show wN Ca≤1000000000;decide) hl
abbrev gS3 (p:Nat)(es:List Eg)(n:Nd):St:=⟨[mbx p es,[Af n],[zN]],[es.length]⟩
set_option maxHeartbeats 2000000 in
theorem Ate {n:Nd}(h:PS n):HSt n:=by
 induction h with
 | set s x h hx =>
   intro a g hb
   have b1:=hb.pts
   have b2:=hb.es
   refine Hands.run Tryz.func132 ?_
   rw [Abf]
   refine AK.no ?_
   refine AK.no ?_
   refine AK.no ?_
   refine AK.hc (τ':=[0]) [0] [0] (Gs g.pts g.es (by omega)) ?_
   refine AK.yes ?_
   refine AK.hc (τ':=[0]) [0] [0] (L3 (g.pts+1) g.es g.pt g.pts 1 false (.mk 21 s 0 [x]) (by omega) (by omega)) ?_
   exact AK.rb Tryz.func132 rfl rfl
 | put s x y h hx hy =>
   intro a g hb
   have b1:=hb.pts
   have b2:=hb.es
   refine Hands.run Tryz.func132 ?_
   rw [Abe]
   refine AK.no ?_
   refine AK.no ?_
   refine AK.no ?_
   refine AK.hc (τ':=[0]) [0] [0] (Gs g.pts g.es (by omega)) ?_
   refine AK.no ?_
   refine AK.yes ?_
   refine AK.hc (τ':=[0]) [0] [0] (L3 (g.pts+1) g.es g.pt g.pts 2 false (.mk 22 s 0 [x,y]) (by omega) (by omega)) ?_
   exact AK.rb Tryz.func132 rfl rfl
 | read s h =>
   intro a g hb
   have b1:=hb.pts
   have b2:=hb.es
   refine Hands.run Tryz.func132 ?_
   rw [V9]
   refine AK.no ?_
   refine AK.no ?_
   refine AK.no ?_
   refine AK.hc (τ':=[0]) [0] [0] (Gs g.pts g.es (by omega)) ?_
   refine AK.no ?_
   refine AK.no ?_
   refine AK.yes ?_
   refine AK.hc (τ':=[0]) [0] [0] (L3 (g.pts+1) g.es g.pt g.pts 3 false (.mk 23 s 0 []) (by omega) (by omega)) ?_
   exact AK.rb Tryz.func132 rfl rfl
 | ifs c l l' hc hl hl' ihl ihl' =>
   intro a g hb
   have b1:=hb.pts
   have b2:=hb.es
   refine Hands.run Tryz.func132 ?_
   have hwc:wN c<wN (.mk 24 [] 0 [c,.mk 30 [] 0 l,.mk 30 [] 0 l']):=Gm (n:=.mk 24 [] 0 [c,.mk 30 [] 0 l,.mk 30 [] 0 l']) (by simp)
   have hws:wN (.mk 24 [] 0 [c,.mk 30 [] 0 l,.mk 30 [] 0 l'])=3+wN c+wL l+wL l':=by simp only [wN,wL,List.length_nil];omega
   rw [Agp]
   unfold gIf
   refine AK.no ?_
   refine AK.yes ?_
   refine AK.hc (τ':=[0]) [0] [0] (Gs g.pts g.es (by omega)) ?_
   refine AK.sto (gS3 (g.pts+1) g.es (.mk 24 [] 0 [c,.mk 30 [] 0 l,.mk 30 [] 0 l'])) ?_
   refine AK.ix 0 (by omega) (Ao (l:=[c,.mk 30 [] 0 l,.mk 30 [] 0 l']) rfl) ?_
   refine AK.hc (τ':=[0]) [0] [0] (L3 (g.pts+1) g.es g.pt g.pts 4 true c (by omega) (by omega)) ?_
   refine AK.sto (gS3 (g.pts+1) (g.es++[⟨g.pt,g.pts,4,true,c⟩]) (.mk 24 [] 0 [c,.mk 30 [] 0 l,.mk 30 [] 0 l'])) ?_
   have l1:=Mi g.pt c true hb.pt
   have c1:Gb (Dq g.pt c true g) (wL l):=hb.step1 l1 (by omega) (by omega)
   have a2:=Ki hl Ca _ c1.pt
   have i1:Hands X 86 [.ptr 0 0 0,nd (.mk 30 [] 0 l),vi g.pts] ⟨[mbx (g.pts+1) (g.es++[⟨g.pt,g.pts,4,true,c⟩])],[(g.es++[(⟨g.pt,g.pts,4,true,c⟩:Eg)]).length]⟩ (vi (gL l Ca (Dq g.pt c true g)).pt) (gSt (gL l Ca (Dq g.pt c true g))):=Abg hl ihl Ca (Dq g.pt c true g) c1
   refine AK.ix 1 (by omega) (Ao (l:=[c,.mk 30 [] 0 l,.mk 30 [] 0 l']) rfl) ?_
   refine AK.hc (τ':=[0]) [0] [0] i1 ?_
   refine AK.sto (gS3 (gL l Ca (Dq g.pt c true g)).pts (gL l Ca (Dq g.pt c true g)).es (.mk 24 [] 0 [c,.mk 30 [] 0 l,.mk 30 [] 0 l'])) ?_
   have l12:=l1.trans a2 (Nat.le_refl _)
   generalize gL l Ca (Dq g.pt c true g)=g2 at *
   have c2:Gb g2 (wL l'+1):=hb.step1 l12 (by simp only [bG];omega) (by simp only [bG];omega)
   have b3:=c2.pts
   have b4:=c2.es
   refine AK.hc (τ':=[0]) [0] [0] (Gs g2.pts g2.es (by omega)) ?_
   refine AK.sto (gS3 (g2.pts+1) g2.es (.mk 24 [] 0 [c,.mk 30 [] 0 l,.mk 30 [] 0 l'])) ?_
   refine AK.ix 0 (by omega) (Ao (l:=[c,.mk 30 [] 0 l,.mk 30 [] 0 l']) rfl) ?_
   refine AK.hc (τ':=[0]) [0] [0] (L3 (g2.pts+1) g2.es g.pt g2.pts 4 false c (by omega) (by omega)) ?_
   refine AK.sto (gS3 (g2.pts+1) (g2.es++[⟨g.pt,g2.pts,4,false,c⟩]) (.mk 24 [] 0 [c,.mk 30 [] 0 l,.mk 30 [] 0 l'])) ?_
   have hp2:g.pt<g2.pts:=Nat.lt_of_lt_of_le hb.pt l12.pts.1
   have l3:=Mi g.pt c false hp2
   have c3:Gb (Dq g.pt c false g2) (wL l'):=c2.step1 l3 (by omega) (by omega)
   have a4:=Ki hl' Ca _ c3.pt
   have i3:Hands X 86 [.ptr 0 0 0,nd (.mk 30 [] 0 l'),vi g2.pts] ⟨[mbx (g2.pts+1) (g2.es++[⟨g.pt,g2.pts,4,false,c⟩])],[(g2.es++[(⟨g.pt,g2.pts,4,false,c⟩:Eg)]).length]⟩ (vi (gL l' Ca (Dq g.pt c false g2)).pt) (gSt (gL l' Ca (Dq g.pt c false g2))):=Abg hl' ihl' Ca (Dq g.pt c false g2) c3
   refine AK.ix 2 (by omega) (Ao (l:=[c,.mk 30 [] 0 l,.mk 30 [] 0 l']) rfl) ?_
   refine AK.hc (τ':=[0]) [0] [0] i3 ?_
   refine AK.sto (gS3 (gL l' Ca (Dq g.pt c false g2)).pts (gL l' Ca (Dq g.pt c false g2)).es (.mk 24 [] 0 [c,.mk 30 [] 0 l,.mk 30 [] 0 l'])) ?_
   have l34:=l3.trans a4 (Nat.le_refl _)
   generalize gL l' Ca (Dq g.pt c false g2)=g4 at *
   have c4:Gb g4 0:=c2.step1 l34 (by simp only [bG];omega) (by simp only [bG];omega)
   have b5:=c4.pts
   have b6:=c4.es
   have b7:=l34.es
   refine AK.hc (τ':=[0]) [0] [0] (Gs g4.pts g4.es (by omega)) ?_
   refine AK.sto (gS3 (g4.pts+1) g4.es (.mk 24 [] 0 [c,.mk 30 [] 0 l,.mk 30 [] 0 l'])) ?_
   refine AK.hc (τ':=[0]) [0] [0] (N5 (g4.pts+1) g4.es g2.pt g4.pts 6 false (by omega)) ?_
   refine AK.sto (gS3 (g4.pts+1) (g4.es++[⟨g2.pt,g4.pts,6,false,Ca⟩]) (.mk 24 [] 0 [c,.mk 30 [] 0 l,.mk 30 [] 0 l'])) ?_
   refine AK.hc (τ':=[0]) [0] [0] (N5 (g4.pts+1) (g4.es++[⟨g2.pt,g4.pts,6,false,Ca⟩]) g4.pt g4.pts 6 false ?_) ?_
   ·obtain ⟨e1,e2,e3,_⟩:=l34.es
    have:=c2.es
    simp only [bG] at e3
    rw [List.length_append,e2,List.length_append]
    simp only [List.length_singleton];omega
   exact AK.rb Tryz.func132 rfl rfl
 | whil c l hc hl ihl =>
   intro a g hb
   have b1:=hb.pts
   have b2:=hb.es
   refine Hands.run Tryz.func132 ?_
   have hwc:wN c<wN (.mk 25 [] 0 [c,.mk 30 [] 0 l]):=Gm (n:=.mk 25 [] 0 [c,.mk 30 [] 0 l]) (by simp)
   have hws:wN (.mk 25 [] 0 [c,.mk 30 [] 0 l])=2+wN c+wL l:=by simp only [wN,wL,List.length_nil];omega
   have hwn:=Rn c
   rw [Agq]
   unfold gWh
   refine AK.no ?_
   refine AK.no ?_
   refine AK.yes ?_
   refine AK.hc (τ':=[0]) [0] [0] (Gs g.pts g.es (by omega)) ?_
   refine AK.sto (gS3 (g.pts+1) g.es (.mk 25 [] 0 [c,.mk 30 [] 0 l])) ?_
   refine AK.hc (τ':=[0]) [0] [0] (N5 (g.pts+1) g.es g.pt g.pts 6 false (by omega)) ?_
   refine AK.sto (gS3 (g.pts+1) (g.es++[⟨g.pt,g.pts,6,false,Ca⟩]) (.mk 25 [] 0 [c,.mk 30 [] 0 l])) ?_
   refine AK.hc (τ':=[0]) [0] [0] (Gs (g.pts+1) _ (by omega)) ?_
   refine AK.sto (gS3 (g.pts+1+1) (g.es++[⟨g.pt,g.pts,6,false,Ca⟩]) (.mk 25 [] 0 [c,.mk 30 [] 0 l])) ?_
   refine AK.ix 0 (by omega) (Ao (l:=[c,.mk 30 [] 0 l]) rfl) ?_
   refine AK.hc (τ':=[0]) [0] [0] (L3 (g.pts+1+1) (g.es++[⟨g.pt,g.pts,6,false,Ca⟩]) g.pts (g.pts+1:Nat) 4 true c (by omega) (by simp;omega)) ?_
   refine AK.sto (gS3 (g.pts+1+1) (g.es++[⟨g.pt,g.pts,6,false,Ca⟩]++[⟨g.pts,(g.pts+1:Nat),4,true,c⟩]) (.mk 25 [] 0 [c,.mk 30 [] 0 l])) ?_
   have l1:=J0 6 Ca hb.pt
   have l2:=Abr a (.mk 25 [] 0 [c,.mk 30 [] 0 l]) l1.pt
   have l12:=l1.trans l2 (Nat.le_refl _)
   have hh:g.pts<(Ga a (.mk 25 [] 0 [c,.mk 30 [] 0 l]) (Cy 6 Ca g)).pts:=by simp [Ga,Cy]
   have l3:=Mi g.pts c true hh
   have l123:=l12.trans l3 (Nat.le_refl _)
   have c1:Gb (Dq g.pts c true (Ga a (.mk 25 [] 0 [c,.mk 30 [] 0 l]) (Cy 6 Ca g))) (wL l+1):=hb.step1 l123 (by omega) (by omega)
   have c1':Gb (Dq g.pts c true (Ga a (.mk 25 [] 0 [c,.mk 30 [] 0 l]) (Cy 6 Ca g))) (wL l):=⟨c1.pt,by have:=c1.pts;omega,by have:=c1.es;omega⟩
   have a2:=Ki hl Ca _ c1'.pt
   have i1:Hands X 86 [.ptr 0 0 0,nd (.mk 30 [] 0 l),vi (g.pts+1:Nat)] ⟨[mbx (g.pts+1+1) (g.es++[⟨g.pt,g.pts,6,false,Ca⟩]++[⟨g.pts,(g.pts+1:Nat),4,true,c⟩])],[(g.es++[(⟨g.pt,g.pts,6,false,Ca⟩:Eg)]++[(⟨g.pts,(g.pts+1:Nat),4,true,c⟩:Eg)]).length]⟩
    (vi (gL l Ca (Dq g.pts c true (Ga a (.mk 25 [] 0 [c,.mk 30 [] 0 l]) (Cy 6 Ca g)))).pt) (gSt (gL l Ca (Dq g.pts c true (Ga a (.mk 25 [] 0 [c,.mk 30 [] 0 l]) (Cy 6 Ca g))))):=Abg hl ihl Ca _ c1'
   refine AK.ix 1 (by omega) (Ao (l:=[c,.mk 30 [] 0 l]) rfl) ?_
   refine AK.hc (τ':=[0]) [0] [0] i1 ?_
   refine AK.sto (gS3 (gL l Ca (Dq g.pts c true (Ga a (.mk 25 [] 0 [c,.mk 30 [] 0 l]) (Cy 6 Ca g)))).pts (gL l Ca (Dq g.pts c true (Ga a (.mk 25 [] 0 [c,.mk 30 [] 0 l]) (Cy 6 Ca g)))).es (.mk 25 [] 0 [c,.mk 30 [] 0 l])) ?_
   have l1234:=l123.trans a2 (Nat.le_refl _)
   generalize gL l Ca (Dq g.pts c true (Ga a (.mk 25 [] 0 [c,.mk 30 [] 0 l]) (Cy 6 Ca g)))=g2 at *
   have c2:Gb g2 0:=c1.step1 a2 (by simp only [bG];omega) (by simp only [bG];omega)
   have b3:=c2.pts
   have b4:=c2.es
   have b5:g2.es.length+1≤1000000000:=by
    obtain ⟨e1,e2,e3,_⟩:=a2.es
    have:=c1.es
    simp only [bG] at e3
    rw [e2,List.length_append];omega
   refine AK.hc (τ':=[0]) [0] [0] (N5 g2.pts g2.es g2.pt g.pts 6 false (by omega)) ?_
   refine AK.sto (gS3 g2.pts (g2.es++[⟨g2.pt,g.pts,6,false,Ca⟩]) (.mk 25 [] 0 [c,.mk 30 [] 0 l])) ?_
   refine AK.hc (τ':=[0]) [0] [0] (Gs g2.pts _ (by omega)) ?_
   refine AK.sto (gS3 (g2.pts+1) (g2.es++[⟨g2.pt,g.pts,6,false,Ca⟩]) (.mk 25 [] 0 [c,.mk 30 [] 0 l])) ?_
   refine AK.ix 0 (by omega) (Ao (l:=[c,.mk 30 [] 0 l]) rfl) ?_
   refine AK.hc (τ':=[0]) [0] [0] (L3 (g2.pts+1) (g2.es++[⟨g2.pt,g.pts,6,false,Ca⟩]) g.pts g2.pts 4 false c (by omega) (by simp;omega)) ?_
   exact AK.rb Tryz.func132 rfl rfl
 | check c hc =>
   intro a g hb
   have b1:=hb.pts
   have b2:=hb.es
   refine Hands.run Tryz.func132 ?_
   have hwc:wN c<wN (.mk 27 [] 0 [c]):=Gm (n:=.mk 27 [] 0 [c]) (by simp)
   rw [S8]
   refine AK.no ?_
   refine AK.no ?_
   refine AK.no ?_
   refine AK.hc (τ':=[0]) [0] [0] (Gs g.pts g.es (by omega)) ?_
   refine AK.no ?_
   refine AK.no ?_
   refine AK.no ?_
   refine AK.yes ?_
   refine AK.ix 0 (by omega) (Ao (l:=[c]) rfl) ?_
   refine AK.hc (τ':=[0]) [0] [0] (L3 (g.pts+1) g.es g.pt g.pts 5 false c (by omega) (by omega)) ?_
   exact AK.rb Tryz.func132 rfl rfl
 | skip =>
   intro a g hb
   have b1:=hb.pts
   have b2:=hb.es
   refine Hands.run Tryz.func132 ?_
   rw [Wa]
   refine AK.no ?_
   refine AK.no ?_
   refine AK.no ?_
   refine AK.hc (τ':=[0]) [0] [0] (Gs g.pts g.es (by omega)) ?_
   refine AK.no ?_
   refine AK.no ?_
   refine AK.no ?_
   refine AK.no ?_
   refine AK.hc (τ':=[0]) [0] [0] (N5 (g.pts+1) g.es g.pt g.pts 6 false (by omega)) ?_
   exact AK.rb Tryz.func132 rfl rfl
 | stop =>
   intro a g hb
   have b1:=hb.pts
   have b2:=hb.es
   refine Hands.run Tryz.func132 ?_
   rw [Wb]
   refine AK.yes ?_
   refine AK.hc (τ':=[0]) [0] [0] (N5 g.pts g.es g.pt (-1) 7 false (by omega)) ?_
   refine AK.hc (τ':=[0]) [0] [0] (Gs g.pts _ (by omega)) ?_
   exact AK.rb Tryz.func132 rfl rfl
def Dl (x:Int)(e:Eg):Eg:=if e.t<0 then { e with t:=x } else e
def O9 (x:Int)(l:List Eg)(i:Nat):List Eg:=(l.take i).map (Dl x)++l.drop i
def Re (l:List Eg)(i:Nat):Nat:=l.length+((l.take i).filter fun e=>decide (e.t<0)).length
theorem Tf (x:Int)(l:List Eg)(i:Nat):(O9 x l i).length=l.length:=by simp [O9];omega
theorem Ai9 (x:Int)(l:List Eg):O9 x l 0=l:=by simp [O9]
theorem Amd (x:Int)(l:List Eg):O9 x l l.length=l.map (Dl x):=by simp [O9]
theorem Akc (l:List Eg):Re l 0=l.length:=by simp [Re]
theorem Ade {x:Int}{l:List Eg}{i:Nat}{e:Eg}(h:l[i]?=some e):(O9 x l i)[i]?=some e:=by
 have hi:=Ad h
 simp only [O9]
 rw [List.getElem?_append_right (by simp;omega),List.getElem?_drop]
 simp [show i+(i-min i l.length)=i by omega,h]
theorem Adf {x:Int}{l:List Eg}{i:Nat}{e:Eg}(h:l[i]?=some e):(O9 x l i).set i (Dl x e)=O9 x l (i+1):=by
 have hi:=Ad h
 simp only [O9]
 rw [List.set_append_right _ _ (by simp;omega),List.take_add_one,h,List.map_append,Av h]
 simp [show i-min i l.length=0 by omega]
theorem Ai8 {x:Int}{l:List Eg}{i:Nat}{e:Eg}(h:l[i]?=some e)(ht:¬ e.t<0):O9 x l (i+1)=O9 x l i:=by
 rw [← Adf h]
 have:Dl x e=e:=by simp [Dl,ht]
 rw [this]
 apply List.ext_getElem?
 intro j
 rw [List.getElem?_set]
 split
 ·rename_i hj;subst hj
  rw [Ade h];simp [Tf,Ad h]
 ·rfl
theorem Aei {l:List Eg}{i:Nat}{e:Eg}(h:l[i]?=some e)(ht:e.t<0):Re l (i+1)=Re l i+1:=by
 simp only [Re];rw [List.take_add_one,h];simp [ht];omega
theorem Aof {l:List Eg}{i:Nat}{e:Eg}(h:l[i]?=some e)(ht:¬ e.t<0):Re l (i+1)=Re l i:=by
 simp only [Re];rw [List.take_add_one,h];simp [ht]
def Ew (l:List Nd):Gr:=Cy 6 Ca (gL l Ca ⟨1,0,[],[],[],0⟩)
def gEs (l:List Nd):List Eg:=(Ew l).es.map (Dl (Ew l).pt)
def Cn (n:Nd):List Nd:=(Ck (Aw n)).kids
theorem Aap {n:Nd}(h:FP n):∃ ds,Aw n=.mk 40 [] 0 (ds++[.mk 30 [] 0 (Cn n)])∧n.kids.dropLast=ds∧(∀ x,x∈Cn n→PS x)∧wL (Cn n)≤10*wN n:=by
 have hw:=(Ol n).1
 cases h with
 | mk ds l hd hl =>
   have e1:Cn (.mk 40 [] 0 (ds++[.mk 30 [] 0 l]))=Be l:=by
    unfold Cn Ck
    rw [Wj hd,D6]
    simp [D6]
   rw [e1]
   refine ⟨ds,Wj hd,by rw [D6];simp,Lo fun x hx=>Avv (hl x hx),?_⟩
   rw [Wj hd] at hw
   simp only [wN,wL,Oz] at hw ⊢
   omega
theorem Alg (e:Eg)(x:Int)(h:e.t<0):(Lh e).take 1++[vi x]++(Lh e).drop (1+[vi x].length)=Lh (Dl x e):=by simp [Lh,Dl,h]
theorem Ze (l:List Eg)(i:Nat)(e:Eg):(Dj l).set i (Lh e)=Dj (l.set i e):=by simp [Dj,List.map_set]
theorem Uc {l:List Eg}{i:Nat}{e:Eg}(h:l[i]?=some e):(Dj l)[i]?=some (Lh e):=by simp [Dj,h]
abbrev gBx (n:Nd)(p:Nat)(rows:List (List AV))(v:Nat):List (List (List AV)):=[[Af n],[[vi 0,.sl [] .tight]],[Af (Aw n)],[[vi p,.psl rows 0 v]]]
theorem Ao9 (n:Nd)(h:FP n)(hw:wN n≤1000000):Pure X 53 [nd n] (.agg [vi (Ew (Cn n)).pts,.sl (Dj (gEs (Cn n))) .no]):=by
 obtain ⟨ds,hpl,_,hps,hwl⟩:=Aap h
 have hpw:=(Ol n).1
 have hdl:IntKind.i64.wrap (((Ak (Aw n).kids).length:Int)-1)=ds.length:=by
  have hkl:=Ed (Aw n)
  have e:(Ak (Aw n).kids).length=ds.length+1:=by rw [Ae,hpl,D6];simp
  rw [Ae] at e
  rw [Ae,Aa (by omega) (by omega)];omega
 have hlast:(Ak (Aw n).kids)[(IntKind.i64.wrap (((Ak (Aw n).kids).length:Int)-1)).toNat]?=some (Af (.mk 30 [] 0 (Cn n))):=by
  rw [hdl,hpl,D6]
  exact Ao (by simp)
 have h0:0≤IntKind.i64.wrap (((Ak (Aw n).kids).length:Int)-1):=by rw [hdl];omega
 refine Pure.run Tryz.func53 ?_
 refine AK.pc (Vv n h (by omega)) ?_
 refine AK.mintP (bx:=gBx n 0 [] 0) (tk:=[0]) 3 0 1 ?_
 refine AK.as_ 4 (.ptr 3 0 0) ?_
 refine AK.db 3072 ?_
 refine Drv.ig _ h0 hlast ?_
 refine Drv.wl (Ndo.hd (τ':=[0]) [3] [0] (Gs 0 [] (by omega))) ?_ ?_
 ·exact A4 (Ndo.ev rfl rfl rfl) (A4 (Ndo.ev rfl rfl rfl) (A4 (Ndo.ev rfl rfl rfl) G8))
 have c0:Gb ⟨1,0,[],[],[],0⟩ (wL (Cn n)):=⟨by decide,by show 1+_≤_;omega,by show 0+_≤_;omega⟩
 have l0:=Ki hps Ca _ c0.pt
 have i0:Hands X 86 [.ptr 0 0 0,nd (.mk 30 [] 0 (Cn n)),vi (0:Nat)] ⟨[mbx (0+1) []],[([]:List Eg).length]⟩ (vi (gL (Cn n) Ca ⟨1,0,[],[],[],0⟩).pt) (gSt (gL (Cn n) Ca ⟨1,0,[],[],[],0⟩)) :=
  Abg hps (fun x hx=>Ate (hps x hx)) Ca _ c0
 have c1:Gb (gL (Cn n) Ca ⟨1,0,[],[],[],0⟩) 0:=c0.step l0 (by omega)
 generalize hg:gL (Cn n) Ca ⟨1,0,[],[],[],0⟩=g at *
 refine Drv.w (Ndo.hd (τ':=[0]) [3] [0] i0) ?_
 refine Drv.e ?_
 refine Drv.z ?_
 have b1:=c1.pts
 have b2:=c1.es
 refine AK.hc (τ':=[0]) [3] [0] (Gs g.pts g.es (by omega)) ?_
 refine AK.hc (τ':=[0]) [3] [0] (N5 (g.pts+1) g.es g.pt g.pts 6 false (by omega)) ?_
 have hG:Ew (Cn n)=Cy 6 Ca g:=by unfold Ew;rw [hg]
 have hE:gEs (Cn n)=(g.es++[(⟨g.pt,g.pts,6,false,Ca⟩:Eg)]).map (Dl g.pts):=by unfold gEs;rw [hG];rfl
 rw [hE,hG]
 show AK X _ _ _ _ fun e S=>e=.ret (.agg [vi (g.pts+1:Nat),.sl (Dj ((g.es++[(⟨g.pt,g.pts,6,false,Ca⟩:Eg)]).map (Dl g.pts))) .no])∧S=⟨[],[]⟩
 have hel:(g.es++[(⟨g.pt,g.pts,6,false,Ca⟩:Eg)]).length≤1000000001:=by simp;omega
 generalize g.es++[(⟨g.pt,g.pts,6,false,Ca⟩:Eg)]=es at *
 refine AK.sto ⟨gBx n (g.pts+1) (Dj (O9 g.pts es 0)) (Re es 0),[Re es 0]⟩ ?_ (by rw [Ai9,Akc];rfl)
 refine AK.while_ (ι:=Nat) 4 1 (fun i=>i≤es.length) (fun i=>[(7,vi i),(4,.ptr 3 0 0),(6,vi g.pts),(2,.ptr 1 0 0)])
  (fun i=>⟨gBx n (g.pts+1) (Dj (O9 g.pts es i)) (Re es i),[Re es i]⟩) (fun i=>es.length-i) ?_ 0
  (Nat.zero_le _) ⟨rfl,rfl,rfl,rfl,trivial⟩
 intro i hi IH
 refine AK.ei (fun h=>?_) (fun h=>?_)
 ·have hlt:i<es.length:=by have:=of_decide_eq_true h;rw [If,Tf] at this;omega
  obtain ⟨e,he⟩:=Ac es hlt
  have hil:i<(Dj (O9 g.pts es i)).length:=by rw [If,Tf];exact hlt
  have hrow:=Uc (Ade (x:=g.pts) he)
  refine AK.op (V8 (n:=i) hil rfl (Pn _) rfl rfl rfl rfl rfl rfl rfl rfl) ?_
  refine AK.op (Aor (x:=vi e.t) hrow rfl (by show 1+1≤8;omega) rfl rfl rfl rfl rfl rfl) ?_
  refine AK.if_ (fun h2=>?_) (fun h2=>?_)
  ·have h2':e.t<0:=of_decide_eq_true h2
   refine AK.op (V8 (n:=i) hil rfl (Pn _) rfl rfl rfl rfl rfl rfl rfl rfl) ?_
   refine AK.op (Ndo.stP (b:=3) (r:=0) (g:=1) (xs:=[vi g.pts]) (bx:=gBx n (g.pts+1) (Dj (O9 g.pts es (i+1))) (Re es (i+1))) (tk':=[Re es (i+1)]) rfl hrow (by show 1+1≤8;omega) (fun z hz=>by simp at hz;subst hz;exact .val _) rfl rfl rfl
    ?_ ?_ rfl rfl rfl rfl rfl rfl rfl rfl) ?_
   ·show gBx n (g.pts+1) ((Dj (O9 g.pts es i)).set i ((Lh e).take 1++[vi g.pts]++(Lh e).drop (1+[vi g.pts].length))) (Re es i+1)=_
    rw [Alg e _ h2',Ze,Adf he,← Aei he h2']
   ·show [Re es i+1]=_
    rw [← Aei he h2']
   exact IH (i+1) hlt (by omega) _ _ ⟨vsx (by omega),rfl,rfl,rfl,trivial⟩ rfl rfl rfl
  ·have h2':¬ e.t<0:=of_decide_eq_false h2
   rw [← Ai8 (x:=g.pts) he h2',← Aof he h2']
   exact IH (i+1) hlt (by omega) _ _ ⟨vsx (by omega),rfl,rfl,rfl,trivial⟩ rfl rfl rfl
 ·have:i=es.length:=by have:=of_decide_eq_false h;rw [If,Tf] at this;omega
  subst this
  rw [Amd]
  refine AK.db 512 ?_
  refine Drv.w (Ndo.store rfl rfl rfl rfl rfl rfl rfl) ?_
  refine Drv.z ?_
  exact AK.rz Tryz.func53 rfl
def Rj (l:List Nat):List (List AV):=l.map fun (i:Nat)=>[vi i]
theorem Ku (l:List Nat):(Rj l).length=l.length:=by simp [Rj]
theorem Afb (l:List Nat):G1 1 (Rj l)=true:=H2 (f:=fun (i:Nat)=>[vi i]) (fun _=>rfl) l
theorem Xi (l:List Nat)(i:Nat):Rj l++[[vi i]]=Rj (l++[i]):=by simp [Rj]
instance {n m:Nat}{l:List Nat}:OKR n m (Rj l):=⟨fun r hr x hx=>by obtain ⟨e,_,rfl⟩:=List.mem_map.1 hr;simp at hx;subst hx;exact .val _⟩
def Uq (l:Lp):List AV:=Af l.a++Af l.l++[vi l.h,vi l.x]
def Hu (l:List Lp):List (List AV):=l.map Uq
theorem Ur (l:List Lp):(Hu l).length=l.length:=by simp [Hu]
theorem Adc (l:List Lp):∀ r,r∈Hu l→r.length=10:=fun r h=>by obtain ⟨e,_,rfl⟩:=List.mem_map.1 h;rfl
theorem Afi (l:List Lp)(e:Lp):Hu l++[Uq e]=Hu (l++[e]):=by simp [Hu]
theorem Zx (e:Lp):∀ x,x∈Uq e→Flat x:=fun x hx=>by
 simp only [Uq,List.mem_append,List.mem_cons,List.not_mem_nil,or_false] at hx
 rcases hx with (hx | hx) | rfl | rfl
 ·exact Px _ x hx
 ·exact Px _ x hx
 ·exact .val _
 ·exact .val _
theorem Afh (e:Lp):∀ r,r∈[Uq e]→∀ x,x∈r→Flat x:=fun r hr x hx=>by simp at hr;subst hr;exact Zx e x hx
instance {n m:Nat}{l:List Lp}:OKR n m (Hu l):=⟨fun r hr x hx=>by obtain ⟨e,_,rfl⟩:=List.mem_map.1 hr;exact (Zx e x hx).ok⟩
abbrev mx (p:Nat)(es:List Eg)(at_:Nat)(sts:List Nat)(lps:List Lp)(v:Nat):List (List AV):=[[vi p,.psl (Dj es) 0 es.length,vi at_,.sl (Rj sts) (.tok 1),.psl (Hu lps) 2 v]]
abbrev mS (p:Nat)(es:List Eg)(at_:Nat)(sts:List Nat)(lps:List Lp)(v:Nat):St:=⟨[mx p es at_ sts lps v],[es.length,sts.length,v]⟩
def iE (g:Gr):List Eg:=g.es.map (Dl 0)
abbrev gM (g:Gr):St:=mS g.pts (iE g) g.pt g.sts g.lps g.ver
theorem Pr (g:Gr):(iE g).length=g.es.length:=by simp [iE]
theorem Ape (k:Int)(n:Nd)(g:Gr):iE (Cy k n g)=iE g++[⟨g.pt,g.pts,k,false,n⟩]:=by simp [iE,Cy,Dl];intro h;omega
theorem Ath (p:Nat)(c:Nd)(y:Bool)(g:Gr):iE (Dq p c y g)=iE g++[⟨p,g.pts,4,y,c⟩]:=by simp [iE,Dq,Dl];intro h;omega
theorem Apf (g:Gr):iE (O3 g)=iE g++[⟨g.pt,0,7,false,Ca⟩]:=by simp [iE,O3,Dl]
theorem Apc (h:Nat)(g:Gr):iE (Kn h g)=iE g++[⟨g.pt,h,6,false,Ca⟩]:=by simp [iE,Kn,Ix,Dl];intro h;omega
theorem Apd (p:Nat)(g:Gr):iE (Mw p g)=iE g++[⟨p,g.pts,6,false,Ca⟩]++[⟨g.pt,g.pts,6,false,Ca⟩]:=by simp [iE,Mw,Ix,Dl];intro h;omega
section
variable (p:Nat)(es:List Eg)(a:Nat)(sts:List Nat)(lps:List Lp)(v:Nat)
theorem We (h:p≤1000000000000):Hands X 242 [.ptr 0 0 0] (mS p es a sts lps v) (vi p) (mS (p+1) es a sts lps v):=by
 refine Hands.run Tryz.func242 ?_
 have e1:IntKind.i64.wrap ((p:Int)+1)=((p+1:Nat):Int):=(Aa (by omega) (by omega)).trans (by omega)
 have e2:IntKind.i64.wrap (IntKind.i64.wrap ((p:Int)+1)-1)=(p:Int):=by rw [e1];exact (Aa (by omega) (by omega)).trans (by omega)
 refine AK.as_ 2 (vi p) ?_ (A5 e2)
 refine AK.sto (mS (p+1) es a sts lps v) ?_ (by rw [mS,mx,← e1])
 exact AK.rb Tryz.func242 rfl rfl
theorem Al4 (e:Eg)(hp:PlO e.n)(hpl:Aw e.n=e.n)(hw:wN e.n≤1000000000)(hl:es.length≤1000000000) :
 Hands X 243 [.ptr 0 0 0,vi e.f,vi e.t,vi e.k,vb e.y,nd e.n] (mS p es a sts lps v) (.tup []) (mS p (es++[e]) a sts lps v):=by
 have hq:=Z4 e.n hp hw
 rw [hpl] at hq
 refine Hands.run Tryz.func243 ?_
 refine AK.db 278528 ?_
 refine As hq ?_
 refine Drv.w (Wt (ver:=es.length) rfl (Pn es) (W8 e) ?_ (W9 es e) rfl rfl rfl rfl rfl rfl rfl rfl rfl rfl rfl rfl rfl rfl rfl rfl rfl) ?_
 ·rw [If];simp;omega
 refine Drv.e ?_
 refine Drv.e ?_
 refine Drv.e ?_
 refine Drv.w (Ndo.store rfl rfl rfl rfl rfl rfl rfl) ?_
 refine Drv.z ?_
 refine AK.sto ⟨[mx p (es++[e]) a sts lps v,[Af e.n]],[(es++[e]).length,sts.length,v]⟩ ?_ (by simp)
 exact AK.fb Tryz.func243 rfl rfl
theorem Agx (f t k:Int)(y:Bool)(n:Nd)(hp:PlO n)(hpl:Aw n=n)(hw:wN n≤1000000000)(hl:es.length≤1000000000) :
 Hands X 243 [.ptr 0 0 0,vi f,vi t,vi k,vb y,nd n] (mS p es a sts lps v) (.tup []) (mS p (es++[⟨f,t,k,y,n⟩]) a sts lps v):=Al4 p es a sts lps v ⟨f,t,k,y,n⟩ hp hpl hw hl
theorem Wc (f t k:Int)(y:Bool)(hl:es.length≤1000000000) :
 Hands X 243 [.ptr 0 0 0,vi f,vi t,vi k,vb y,.agg [vi 0,str [],vi 0,.sl [] .no]] (mS p es a sts lps v) (.tup []) (mS p (es++[⟨f,t,k,y,Ca⟩]) a sts lps v) :=
 Al4 p es a sts lps v ⟨f,t,k,y,Ca⟩ .leaf (by show Aw Ca=Ca;rw [Ca,A9,A2]) (by show wN Ca≤1000000000;decide) hl
end
theorem Xj (g:Gr)(k:Int)(n:Nd)(hp:PlO n)(hpl:Aw n=n)(hw:wN n≤1000000000)(h1:g.pts≤1000000000000)(hl:g.es.length≤1000000000) :
 Hands X 196 [.ptr 0 0 0,vi k,nd n] (gM g) (.tup []) (gM (Cy k n g)):=by
 refine Hands.run Tryz.func196 ?_
 refine AK.hc (τ':=[0,1,2]) [0] [0,1,2] (We g.pts (iE g) g.pt g.sts g.lps g.ver h1) ?_
 refine AK.db 256 ?_
 refine Drv.w (Ndo.hd (τ':=[0,1,2]) [0] [0,1,2] (Agx (g.pts+1) (iE g) g.pt g.sts g.lps g.ver g.pt g.pts k false n hp hpl hw (by rw [Pr];exact hl))) ?_
 refine Drv.z ?_
 rw [← Ape]
 exact AK.fb Tryz.func196 rfl rfl
theorem Agy (g:Gr)(q:Nat)(c:Nd)(y:Bool)(hp:PlO c)(hpl:Aw c=c)(hw:wN c≤1000000000)(h1:g.pts≤1000000000000)(hl:g.es.length≤1000000000) :
 Hands X 271 [.ptr 0 0 0,vi q,nd c,vb y] (gM g) (.tup []) (gM (Dq q c y g)):=by
 refine Hands.run Tryz.func271 ?_
 refine AK.hc (τ':=[0,1,2]) [0] [0,1,2] (We g.pts (iE g) g.pt g.sts g.lps g.ver h1) ?_
 refine AK.db 256 ?_
 refine Drv.w (Ndo.hd (τ':=[0,1,2]) [0] [0,1,2] (Agx (g.pts+1) (iE g) g.pts g.sts g.lps g.ver q g.pts 4 y c hp hpl hw (by rw [Pr];exact hl))) ?_
 refine Drv.z ?_
 rw [← Ath]
 exact AK.fb Tryz.func271 rfl rfl
structure Gc (g:Gr)(k:Nat):Prop where
 b:Gb g k
 lps:g.lps.length+24*k≤1000000000
 sts:g.sts.length+24*k≤1000000000
theorem Gc.step1 {g g':Gr}{j k m:Nat}(h:Gc g m)(hl:g.le g' j)(hj:j≤6*m)(hm:j+6*k≤6*m):Gc g' k:=by
 obtain ⟨l,h1,h2⟩:=hl.lps
 obtain ⟨s,h3,h4⟩:=hl.sts
 have:=h.lps
 have:=h.sts
 refine ⟨h.b.step1 hl hj hm,?_,?_⟩
 ·rw [h1,List.length_append];omega
 ·rw [h3,List.length_append];omega
def JSt (n:Nd):Prop:=∀ (a:Nd)(g:Gr),Gc g (wN n)→Hands X 241 [.ptr 0 0 0,nd n,nd a] (gM g) (.tup []) (gM (gS n a g))
def JLs (l:List Nd):Prop:=∀ (g:Gr),Gc g (wL l)→Hands X 195 [.ptr 0 0 0,.sl (Ak l) .no] (gM g) (.tup []) (gM (gL l Ca g))
theorem Abo {l:List Nd}(hp:∀ x,x∈l→PS x)(hs:∀ x,x∈l→JSt x):JLs l:=by
 intro g hb
 have hlw:=Jl l
 have hbe:=hb.b.es
 refine Hands.run Tryz.func195 ?_
 refine AK.wkB 1 0 3 (.sl [] .no) ?_
 refine AK.while_ (ι:=Nat) 2 3 (fun i=>i≤l.length) (fun i=>[(10,vi i),(9,vi l.length),(8,.sl (Ak l) .no),(0,.ptr 0 0 0),(4,.ptr 1 0 0)])
  (fun i=>⟨[mx (gL (l.take i) Ca g).pts (iE (gL (l.take i) Ca g)) (gL (l.take i) Ca g).pt (gL (l.take i) Ca g).sts (gL (l.take i) Ca g).lps (gL (l.take i) Ca g).ver,[Af ((l.take i).getLastD Ca)]],[(iE (gL (l.take i) Ca g)).length,(gL (l.take i) Ca g).sts.length,(gL (l.take i) Ca g).ver]⟩) (fun i=>l.length-i) ?_ 0
  (Nat.zero_le _) ⟨rfl,by rw [← Ae l];rfl,rfl,rfl,rfl,trivial⟩
 intro i hi IH
 have hgi:g.le (gL (l.take i) Ca g) (bG (wL (l.take i))):=Ki (fun x hx=>hp x (List.mem_of_mem_take hx)) Ca g hb.b.pt
 refine AK.ei (fun h=>?_) (fun h=>?_)
 ·have hlt:i<l.length:=by have:=of_decide_eq_true h;omega
  obtain ⟨x,hx⟩:=Ac l hlt
  have hwt:=Ah9 hx
  have hbi:Gc (gL (l.take i) Ca g) (wN x):=hb.step1 hgi (by simp only [bG];omega) (by simp only [bG];omega)
  refine AK.ix i (by omega) (Ao (l:=l) hx) ?_
  refine AK.hc (τ':=[0,1,2]) [0] [0,1,2] (hs x (List.mem_of_getElem? hx) ((l.take i).getLastD Ca) _ hbi) ?_
  rw [← Ago hx]
  have hla:(l.take (i+1)).getLastD Ca=x:=by rw [List.take_add_one,hx];simp
  refine IH (i+1) hlt (by omega) _ _ ⟨vsx (by omega),rfl,rfl,rfl,rfl,trivial⟩ ?_ rfl rfl
  simp only
  rw [hla];rfl
 ·have:i=l.length:=by have:=of_decide_eq_false h;omega
  subst this
  rw [List.take_length] at hgi ⊢
  exact AK.fb Tryz.func195 rfl rfl
theorem Abn (g:Gr)(h1:g.pts≤1000000000000)(hl:g.es.length≤1000000000) :
 Hands X 196 [.ptr 0 0 0,vi 6,.agg [vi 0,str [],vi 0,.sl [] .no]] (gM g) (.tup []) (gM (Cy 6 Ca g)) :=
 Xj g 6 Ca .leaf (by rw [Ca,A9,A2]) (by decide) h1 hl
theorem Ajh (s:List UInt8){a:Nd}(ha:FE a):Aw (.mk 21 s 0 [a])=.mk 21 s 0 [a]:=by rw [A9,Au,A2,Kc ha];rfl
theorem Ajg (s:List UInt8){a b:Nd}(ha:FE a)(hb:FE b):Aw (.mk 22 s 0 [a,b])=.mk 22 s 0 [a,b]:=by rw [A9,Au,Au,A2,Kc ha,Kc hb];rfl
theorem Afn (s:List UInt8):Aw (.mk 23 s 0 [])=.mk 23 s 0 []:=by rw [A9,A2]
theorem Amb (l:Lp)(x:Int):(Uq l).take 9++[vi x]++(Uq l).drop (9+[vi x].length)=Uq { l with x:=x }:=by simp [Uq,Af]
theorem Ai7 (l:List Lp)(i:Nat)(e:Lp):(Hu l).set i (Uq e)=Hu (l.set i e):=by simp [Hu,List.map_set]
theorem Ai6 {l:List Lp}{i:Nat}{e:Lp}(h:l[i]?=some e):(Hu l)[i]?=some (Uq e):=by simp [Hu,h]
theorem Aja {l:List Lp}{i:Nat}{e:Lp}(h:l[i]?=some e)(f:Lp→Lp):l.modify i f=l.set i (f e):=by
 apply List.ext_getElem?
 intro j
 rw [List.getElem?_modify,List.getElem?_set]
 by_cases hj:i=j
 ·subst hj;rw [h];simp [Ad h]
 ·simp [hj]
abbrev mS3 (p:Nat)(es:List Eg)(at_:Nat)(sts:List Nat)(lps:List Lp)(v:Nat)(n a:Nd):St:=⟨[mx p es at_ sts lps v,[Af n],[Af a]],[es.length,sts.length,v]⟩
abbrev gM3 (g:Gr)(n a:Nd):St:=mS3 g.pts (iE g) g.pt g.sts g.lps g.ver n a
set_option maxHeartbeats 4000000 in
theorem Atr {n:Nd}(h:PS n):JSt n:=by
 induction h with
 | set s x h hx =>
   intro a g hb
   have b1:=hb.b.pts
   have b2:=hb.b.es
   have b3:=hb.lps
   have b4:=hb.sts
   refine Hands.run Tryz.func241 ?_
   rw [Abf]
   refine AK.yes ?_
   refine AK.hc (τ':=[0,1,2]) [0] [0,1,2] (Xj g 1 (.mk 21 s 0 [x]) (Aaq (.set s x h hx)) (Ajh s hx) (by omega) (by omega) (by omega)) ?_
   exact AK.fb Tryz.func241 rfl rfl
 | put s x y h hx hy =>
   intro a g hb
   have b1:=hb.b.pts
   have b2:=hb.b.es
   have b3:=hb.lps
   have b4:=hb.sts
   refine Hands.run Tryz.func241 ?_
   rw [Abe]
   refine AK.no ?_
   refine AK.yes ?_
   refine AK.hc (τ':=[0,1,2]) [0] [0,1,2] (Xj g 2 (.mk 22 s 0 [x,y]) (Aaq (.put s x y h hx hy)) (Ajg s hx hy) (by omega) (by omega) (by omega)) ?_
   exact AK.fb Tryz.func241 rfl rfl
 | read s h =>
   intro a g hb
   have b1:=hb.b.pts
   have b2:=hb.b.es
   have b3:=hb.lps
   have b4:=hb.sts
   refine Hands.run Tryz.func241 ?_
   rw [V9]
   refine AK.no ?_
   refine AK.no ?_
   refine AK.yes ?_
   refine AK.hc (τ':=[0,1,2]) [0] [0,1,2] (Xj g 3 (.mk 23 s 0 []) (Aaq (.read s h)) (Afn s) (by omega) (by omega) (by omega)) ?_
   exact AK.fb Tryz.func241 rfl rfl
 | check c hc =>
   intro a g hb
   have b1:=hb.b.pts
   have b2:=hb.b.es
   have b3:=hb.lps
   have b4:=hb.sts
   refine Hands.run Tryz.func241 ?_
   have hwc:wN c<wN (.mk 27 [] 0 [c]):=Gm (n:=.mk 27 [] 0 [c]) (by simp)
   rw [S8]
   refine AK.no ?_
   refine AK.no ?_
   refine AK.no ?_
   refine AK.yes ?_
   refine AK.ix 0 (by omega) (Ao (l:=[c]) rfl) ?_
   refine AK.hc (τ':=[0,1,2]) [0] [0,1,2] (Xj g 5 c (Pd hc) (Oj hc) (by omega) (by omega) (by omega)) ?_
   exact AK.fb Tryz.func241 rfl rfl
 | skip =>
   intro a g hb
   have b1:=hb.b.pts
   have b2:=hb.b.es
   have b3:=hb.lps
   have b4:=hb.sts
   refine Hands.run Tryz.func241 ?_
   rw [Wa]
   refine AK.no ?_
   refine AK.no ?_
   refine AK.no ?_
   refine AK.no ?_
   refine AK.yes ?_
   refine AK.hc (τ':=[0,1,2]) [0] [0,1,2] (Abn g (by omega) (by omega)) ?_
   exact AK.fb Tryz.func241 rfl rfl
 | stop =>
   intro a g hb
   have b1:=hb.b.pts
   have b2:=hb.b.es
   have b3:=hb.lps
   have b4:=hb.sts
   refine Hands.run Tryz.func241 ?_
   rw [Wb]
   refine AK.no ?_
   refine AK.no ?_
   refine AK.no ?_
   refine AK.no ?_
   refine AK.no ?_
   refine AK.yes ?_
   refine AK.db 36864 ?_
   refine Drv.w (Ndo.append (res:=Rj (g.sts++[g.es.length])) rfl rfl rfl rfl rfl rfl rfl rfl rfl rfl rfl rfl rfl rfl (Ku _) (Afb _) rfl rfl rfl ?_ ?_ rfl) ?_
   ·rw [Ku];show g.sts.length+1≤_;omega
   ·show Rj g.sts++[[vi (Dj (iE g)).length]]=_;rw [If,Pr,Xi]
   refine Drv.e ?_
   refine Drv.e ?_
   refine Drv.w (Ndo.store rfl rfl rfl rfl rfl rfl rfl) ?_
   refine Drv.z ?_
   refine AK.sto ⟨[mx g.pts (iE g) g.pt (g.sts++[g.es.length]) g.lps g.ver,[Af (.mk 29 [] 0 [])],[Af a]],[(iE g).length,(g.sts++[g.es.length]).length,g.ver]⟩ ?_ (by simp [Rj])
   refine AK.hc (τ':=[0,1,2]) [0] [0,1,2] (Wc g.pts (iE g) g.pt (g.sts++[g.es.length]) g.lps g.ver g.pt 0 7 false (by rw [Pr];omega)) ?_
   refine AK.hc (τ':=[0,1,2]) [0] [0,1,2] (We g.pts _ g.pt (g.sts++[g.es.length]) g.lps g.ver (by omega)) ?_
   rw [← Apf]
   exact AK.fb Tryz.func241 rfl rfl
 | ifs c l l' hc hl hl' ihl ihl' =>
   intro a g hb
   have b1:=hb.b.pts
   have b2:=hb.b.es
   have b3:=hb.lps
   have b4:=hb.sts
   refine Hands.run Tryz.func241 ?_
   have hwc:wN c<wN (.mk 24 [] 0 [c,.mk 30 [] 0 l,.mk 30 [] 0 l']):=Gm (n:=.mk 24 [] 0 [c,.mk 30 [] 0 l,.mk 30 [] 0 l']) (by simp)
   have hws:wN (.mk 24 [] 0 [c,.mk 30 [] 0 l,.mk 30 [] 0 l'])=3+wN c+wL l+wL l':=by simp only [wN,wL,List.length_nil];omega
   rw [Agp]
   unfold gIf
   refine AK.no ?_
   refine AK.no ?_
   refine AK.no ?_
   refine AK.no ?_
   refine AK.no ?_
   refine AK.no ?_
   refine AK.yes ?_
   refine AK.ix 0 (by omega) (Ao (l:=[c,.mk 30 [] 0 l,.mk 30 [] 0 l']) rfl) ?_
   refine AK.hc (τ':=[0,1,2]) [0] [0,1,2] (Agy g g.pt c true (Pd hc) (Oj hc) (by omega) (by omega) (by omega)) ?_
   refine AK.sto (gM3 (Dq g.pt c true g) (.mk 24 [] 0 [c,.mk 30 [] 0 l,.mk 30 [] 0 l']) a) ?_
   have l1:=Mi g.pt c true hb.b.pt
   have c1:Gc (Dq g.pt c true g) (wL l):=hb.step1 l1 (by omega) (by omega)
   have a2:=Ki hl Ca _ c1.b.pt
   refine AK.ix 1 (by omega) (Ao (l:=[c,.mk 30 [] 0 l,.mk 30 [] 0 l']) rfl) ?_
   refine AK.hc (τ':=[0,1,2]) [0] [0,1,2] (Abo hl ihl (Dq g.pt c true g) c1) ?_
   refine AK.sto (gM3 (gL l Ca (Dq g.pt c true g)) (.mk 24 [] 0 [c,.mk 30 [] 0 l,.mk 30 [] 0 l']) a) ?_
   have l12:=l1.trans a2 (Nat.le_refl _)
   generalize gL l Ca (Dq g.pt c true g)=g2 at *
   have c2:Gc g2 (wL l'+1):=hb.step1 l12 (by simp only [bG];omega) (by simp only [bG];omega)
   have b5:=c2.b.pts
   have b6:=c2.b.es
   refine AK.ix 0 (by omega) (Ao (l:=[c,.mk 30 [] 0 l,.mk 30 [] 0 l']) rfl) ?_
   refine AK.hc (τ':=[0,1,2]) [0] [0,1,2] (Agy g2 g.pt c false (Pd hc) (Oj hc) (by omega) (by omega) (by omega)) ?_
   refine AK.sto (gM3 (Dq g.pt c false g2) (.mk 24 [] 0 [c,.mk 30 [] 0 l,.mk 30 [] 0 l']) a) ?_
   have hp2:g.pt<g2.pts:=Nat.lt_of_lt_of_le hb.b.pt l12.pts.1
   have l3:=Mi g.pt c false hp2
   have c3:Gc (Dq g.pt c false g2) (wL l'):=c2.step1 l3 (by omega) (by omega)
   have a4:=Ki hl' Ca _ c3.b.pt
   refine AK.ix 2 (by omega) (Ao (l:=[c,.mk 30 [] 0 l,.mk 30 [] 0 l']) rfl) ?_
   refine AK.hc (τ':=[0,1,2]) [0] [0,1,2] (Abo hl' ihl' (Dq g.pt c false g2) c3) ?_
   refine AK.sto (gM3 (gL l' Ca (Dq g.pt c false g2)) (.mk 24 [] 0 [c,.mk 30 [] 0 l,.mk 30 [] 0 l']) a) ?_
   have l34:=l3.trans a4 (Nat.le_refl _)
   generalize gL l' Ca (Dq g.pt c false g2)=g4 at *
   have c4:Gc g4 0:=c2.step1 l34 (by simp only [bG];omega) (by simp only [bG];omega)
   have b7:=c4.b.pts
   have b8:=c4.b.es
   refine AK.hc (τ':=[0,1,2]) [0] [0,1,2] (We g4.pts (iE g4) g4.pt g4.sts g4.lps g4.ver (by omega)) ?_
   refine AK.sto (mS3 (g4.pts+1) (iE g4) g4.pt g4.sts g4.lps g4.ver (.mk 24 [] 0 [c,.mk 30 [] 0 l,.mk 30 [] 0 l']) a) ?_
   refine AK.hc (τ':=[0,1,2]) [0] [0,1,2] (Wc (g4.pts+1) (iE g4) g4.pt g4.sts g4.lps g4.ver g2.pt g4.pts 6 false (by rw [Pr];omega)) ?_
   refine AK.sto (mS3 (g4.pts+1) (iE g4++[⟨g2.pt,g4.pts,6,false,Ca⟩]) g4.pt g4.sts g4.lps g4.ver (.mk 24 [] 0 [c,.mk 30 [] 0 l,.mk 30 [] 0 l']) a) ?_
   refine AK.hc (τ':=[0,1,2]) [0] [0,1,2] (Wc (g4.pts+1) (iE g4++[⟨g2.pt,g4.pts,6,false,Ca⟩]) g4.pt g4.sts g4.lps g4.ver g4.pt g4.pts 6 false ?_) ?_
   ·obtain ⟨e1,e2,e3,_⟩:=l34.es
    have:=c2.b.es
    simp only [bG] at e3
    rw [List.length_append,Pr,e2,List.length_append]
    simp only [List.length_singleton];omega
   rw [← Apd]
   exact AK.fb Tryz.func241 rfl rfl
 | whil c l hc hl ihl =>
   intro a g hb
   have b1:=hb.b.pts
   have b2:=hb.b.es
   have b3:=hb.lps
   have b4:=hb.sts
   refine Hands.run Tryz.func241 ?_
   have hwc:wN c<wN (.mk 25 [] 0 [c,.mk 30 [] 0 l]):=Gm (n:=.mk 25 [] 0 [c,.mk 30 [] 0 l]) (by simp)
   have hws:wN (.mk 25 [] 0 [c,.mk 30 [] 0 l])=2+wN c+wL l:=by simp only [wN,wL,List.length_nil];omega
   have hwn:=Rn c
   rw [Agq]
   unfold gWh
   refine AK.no ?_
   refine AK.no ?_
   refine AK.no ?_
   refine AK.no ?_
   refine AK.no ?_
   refine AK.no ?_
   refine AK.no ?_
   refine AK.yes ?_
   refine AK.hc (τ':=[0,1,2]) [0] [0,1,2] (Abn g (by omega) (by omega)) ?_
   refine AK.sto (gM3 (Cy 6 Ca g) (.mk 25 [] 0 [c,.mk 30 [] 0 l]) a) ?_
   refine AK.dr ?_
   refine AK.db 9216 ?_
   refine Drv.w (Wt (ver:=g.ver) rfl (Adc g.lps) (Afh ⟨a,(.mk 25 [] 0 [c,.mk 30 [] 0 l]),g.pts,0⟩) ?_ (Afi g.lps ⟨a,(.mk 25 [] 0 [c,.mk 30 [] 0 l]),g.pts,0⟩) rfl rfl rfl rfl rfl rfl rfl rfl rfl rfl rfl rfl rfl rfl rfl rfl rfl) ?_
   ·rw [Ur];simp;omega
   refine Drv.e ?_
   refine Drv.e ?_
   refine Drv.w (Ndo.store rfl rfl rfl rfl rfl rfl rfl) ?_
   refine Drv.z ?_
   have l1:=J0 6 Ca hb.b.pt
   have l2:=Abr a (.mk 25 [] 0 [c,.mk 30 [] 0 l]) l1.pt
   have l12:=l1.trans l2 (Nat.le_refl _)
   have c0:Gc (Ga a (.mk 25 [] 0 [c,.mk 30 [] 0 l]) (Cy 6 Ca g)) (wL l+1):=hb.step1 l12 (by omega) (by omega)
   refine AK.sto (gM3 (Ga a (.mk 25 [] 0 [c,.mk 30 [] 0 l]) (Cy 6 Ca g)) (.mk 25 [] 0 [c,.mk 30 [] 0 l]) a) ?_
   refine AK.as_ 9 (vi g.pts) ?_
   refine AK.as_ 10 (vi g.lps.length) ?_ (by show lk _ 10=_;rw [← Ur];rfl)
   refine AK.ix 0 (by omega) (Ao (l:=[c,.mk 30 [] 0 l]) rfl) ?_
   have hh:g.pts<(Ga a (.mk 25 [] 0 [c,.mk 30 [] 0 l]) (Cy 6 Ca g)).pts:=by simp [Ga,Cy]
   have hlk:(Ga a (.mk 25 [] 0 [c,.mk 30 [] 0 l]) (Cy 6 Ca g)).lps[g.lps.length]?=some ⟨a,(.mk 25 [] 0 [c,.mk 30 [] 0 l]),g.pts,0⟩:=by simp [Ga,Cy]
   generalize Ga a (.mk 25 [] 0 [c,.mk 30 [] 0 l]) (Cy 6 Ca g)=g1 at *
   have b5:=c0.b.pts
   have b6:=c0.b.es
   refine AK.hc (τ':=[0,1,2]) [0] [0,1,2] (Agy g1 g.pts c true (Pd hc) (Oj hc) (by omega) (by omega) (by omega)) ?_
   refine AK.sto (gM3 (Dq g.pts c true g1) (.mk 25 [] 0 [c,.mk 30 [] 0 l]) a) ?_
   have l3:=Mi g.pts c true hh
   have c1:Gc (Dq g.pts c true g1) (wL l):=c0.step1 l3 (by omega) (by omega)
   have a2:=Ki hl Ca _ c1.b.pt
   refine AK.ix 1 (by omega) (Ao (l:=[c,.mk 30 [] 0 l]) rfl) ?_
   refine AK.hc (τ':=[0,1,2]) [0] [0,1,2] (Abo hl ihl (Dq g.pts c true g1) c1) ?_
   refine AK.sto (gM3 (gL l Ca (Dq g.pts c true g1)) (.mk 25 [] 0 [c,.mk 30 [] 0 l]) a) ?_
   have l34:=l3.trans a2 (Nat.le_refl _)
   have hh2:=Nat.lt_of_lt_of_le hh l34.pts.1
   obtain ⟨lx,hlx,_⟩:=l34.lps
   have hlk2:(gL l Ca (Dq g.pts c true g1)).lps[g.lps.length]?=some ⟨a,(.mk 25 [] 0 [c,.mk 30 [] 0 l]),g.pts,0⟩:=by rw [hlx,List.getElem?_append_left (Ad hlk)];exact hlk
   generalize gL l Ca (Dq g.pts c true g1)=g2 at *
   have c2:Gc g2 0:=c0.step1 l34 (by simp only [bG];omega) (by simp only [bG];omega)
   have b7:=c2.b.pts
   have b8:=c2.b.es
   have b9:g2.es.length+1≤1000000000:=by
    obtain ⟨e1,e2,e3,_⟩:=l34.es
    have:=c0.b.es
    simp only [bG] at e3
    rw [e2,List.length_append];omega
   refine AK.hc (τ':=[0,1,2]) [0] [0,1,2] (Wc g2.pts (iE g2) g2.pt g2.sts g2.lps g2.ver g2.pt g.pts 6 false (by rw [Pr];omega)) ?_
   rw [← Apc]
   refine AK.sto (gM3 (Kn g.pts g2) (.mk 25 [] 0 [c,.mk 30 [] 0 l]) a) ?_
   refine AK.ix 0 (by omega) (Ao (l:=[c,.mk 30 [] 0 l]) rfl) ?_
   refine AK.hc (τ':=[0,1,2]) [0] [0,1,2] (Agy (Kn g.pts g2) g.pts c false (Pd hc) (Oj hc) (by omega) (by show g2.pts≤_;omega) (by simp only [Kn,Ix];rw [List.length_append];simp;omega)) ?_
   refine AK.sto (gM3 (Dq g.pts c false (Kn g.pts g2)) (.mk 25 [] 0 [c,.mk 30 [] 0 l]) a) ?_
   have hlk3:(Dq g.pts c false (Kn g.pts g2)).lps[g.lps.length]?=some ⟨a,(.mk 25 [] 0 [c,.mk 30 [] 0 l]),g.pts,0⟩:=hlk2
   generalize Dq g.pts c false (Kn g.pts g2)=g3 at *
   have hll:g.lps.length<(Hu g3.lps).length:=by rw [Ur];exact Ad hlk3
   have hlr:=Ai6 hlk3
   have hmod:=Aja hlk3 fun l=>{ l with x:=g3.pt }
   refine AK.db 2048 ?_
   refine Drv.lo (V8 (n:=g.lps.length) hll rfl (Adc _) rfl rfl rfl rfl rfl rfl rfl rfl) ?_
   refine Drv.e ?_
   refine Drv.w (Ndo.stP (b:=0) (r:=0) (g:=4) (xs:=[vi g3.pt]) (bx:=[mx g3.pts (iE g3) g3.pt g3.sts (g3.lps.modify g.lps.length fun l=>{ l with x:=g3.pt }) (g3.ver+1),[Af (.mk 25 [] 0 [c,.mk 30 [] 0 l])],[Af a]]) (tk':=[(iE g3).length,g3.sts.length,g3.ver+1])
    rfl hlr (by show 9+1≤10;omega) (fun z hz=>by simp at hz;subst hz;exact .val _) rfl rfl rfl ?_ rfl rfl rfl rfl rfl rfl rfl rfl rfl) ?_
   ·show [[[vi g3.pts,.psl (Dj (iE g3)) 0 (iE g3).length,vi g3.pt,.sl (Rj g3.sts) (.tok 1),.psl ((Hu g3.lps).set g.lps.length ((Uq ⟨a,(.mk 25 [] 0 [c,.mk 30 [] 0 l]),g.pts,0⟩).take 9++[vi g3.pt]++(Uq ⟨a,(.mk 25 [] 0 [c,.mk 30 [] 0 l]),g.pts,0⟩).drop (9+[vi g3.pt].length))) 2 (g3.ver+1)]],[Af (.mk 25 [] 0 [c,.mk 30 [] 0 l])],[Af a]]=_
    rw [Amb,Ai7,hmod]
   refine Drv.z ?_
   exact AK.fb Tryz.func241 rfl rfl
def stI (k:Nat):List Eg→List Nat
 | []=>[]
 | e::l=>if e.t<0 then k::stI (k+1) l else stI (k+1) l
theorem Acd:∀ (l l':List Eg)(k:Nat),stI k (l++l')=stI k l++stI (k+l.length) l'
 | [],l',k=>by simp [stI]
 | e::l,l',k=>by
   simp only [List.cons_append,stI,List.length_cons]
   rw [Acd l l' (k+1),show k+1+l.length=k+(l.length+1) by omega]
   split<;>simp
theorem Anx {l:List Eg}(h:∀ e,e∈l→0≤e.t)(k:Nat):stI k l=[]:=by
 induction l generalizing k with
 | nil=>rfl
 | cons e l ih =>
   have:=h e (by simp)
   simp only [stI];rw [if_neg (by omega)]
   exact ih (fun x hx=>h x (by simp [hx])) (k+1)
theorem Af3:∀ (l:List Eg)(k i:Nat),i∈stI k l→i<k+l.length
 | [],k,i,h=>by simp [stI] at h
 | e::l,k,i,h=>by
   simp only [stI] at h
   simp only [List.length_cons]
   split at h
   ·rcases List.mem_cons.1 h with rfl | h
    ·omega
    ·have:=Af3 l (k+1) i h;omega
   ·have:=Af3 l (k+1) i h;omega
theorem Ahz:∀ (l:List Eg)(k:Nat),(stI k l).length≤l.length
 | [],k=>by simp [stI]
 | e::l,k=>by
   simp only [stI,List.length_cons]
   have:=Ahz l (k+1)
   split<;>simp<;>omega
def SI (g:Gr):Prop:=g.sts=stI 0 g.es
theorem Aar {g g':Gr}(h:SI g)(l:List Eg)(he:g'.es=g.es++l)(hl:∀ e,e∈l→0≤e.t)(hs:g'.sts=g.sts):SI g':=by
 unfold SI at h ⊢
 rw [he,hs,h,Acd,Anx hl];simp
theorem Nq {g:Gr}(k:Int)(n:Nd)(h:SI g):SI (Cy k n g):=Aar h _ rfl (fun e he=>by simp at he;subst he;simp) rfl
theorem Aas {g:Gr}(p:Nat)(c:Nd)(y:Bool)(h:SI g):SI (Dq p c y g):=Aar h _ rfl (fun e he=>by simp at he;subst he;simp) rfl
theorem Aot {g:Gr}(p:Nat)(h:SI g):SI (Kn p g):=Aar h _ rfl (fun e he=>by simp at he;subst he;simp) rfl
theorem Aov {g:Gr}(p:Nat)(h:SI g):SI (Mw p g):=Aar h [⟨p,g.pts,6,false,Ca⟩,⟨g.pt,g.pts,6,false,Ca⟩] (by simp [Mw,Ix]) (fun e he=>by simp at he;rcases he with rfl | rfl<;>simp) rfl
theorem Aox {g:Gr}(h:SI g):SI (O3 g):=by
 unfold SI at h ⊢
 simp only [O3]
 rw [h,Acd]
 simp [stI]
theorem Aow {g:Gr}(a n:Nd)(h:SI g):SI (Ga a n g):=h
theorem Aou {g:Gr}(i:Nat)(h:SI g):SI (Vs i g):=h
theorem Aos {l:List Nd}(h:∀ x,x∈l→∀ (a:Nd)(g:Gr),SI g→SI (gS x a g)):∀ (a:Nd)(g:Gr),SI g→SI (gL l a g):=by
 induction l with
 | nil=>intro a g hg;exact hg
 | cons x l ih=>intro a g hg;rw [Abc];exact ih (fun y hy=>h y (by simp [hy])) x _ (h x (by simp) a g hg)
theorem Avy {n:Nd}(h:PS n):∀ (a:Nd)(g:Gr),SI g→SI (gS n a g):=by
 induction h with
 | set s b h hb=>intro a g hg;rw [Abf];exact Nq _ _ hg
 | put s b c h hb hc=>intro a g hg;rw [Abe];exact Nq _ _ hg
 | read s h=>intro a g hg;rw [V9];exact Nq _ _ hg
 | ifs c l l' hc hl hl' ihl ihl'=>intro a g hg;rw [Agp];unfold gIf;exact Aov _ (Aos ihl' _ _ (Aas _ _ _ (Aos ihl _ _ (Aas _ _ _ hg))))
 | whil c l hc hl ihl=>intro a g hg;rw [Agq];unfold gWh;exact Aou _ (Aas _ _ _ (Aot _ (Aos ihl _ _ (Aas _ _ _ (Aow _ _ (Nq 6 Ca hg))))))
 | check c hc=>intro a g hg;rw [S8];exact Nq _ _ hg
 | skip=>intro a g hg;rw [Wa];exact Nq _ _ hg
 | stop=>intro a g hg;rw [Wb];exact Aox hg
def Kf (x:Int):List Eg→List Nat→List Eg
 | l,[]=>l
 | l,i::s=>Kf x (l.modify i fun e=>{ e with t:=x }) s
theorem Yh (x:Int):∀ (l:List Eg)(s:List Nat)(i:Nat),Kf x l (s++[i])=(Kf x l s).modify i fun e=>{ e with t:=x }
 | l,[],i=>rfl
 | l,j::s,i=>Yh x _ s i
theorem U8 (x:Int):∀ (l:List Eg)(s:List Nat),(Kf x l s).length=l.length
 | l,[]=>rfl
 | l,j::s=>by simp only [Kf];rw [U8];simp
theorem Z7 (x:Int):∀ (l pre:List Eg),Kf x (pre++l.map (Dl 0)) (stI pre.length l)=pre++l.map (Dl x)
 | [],pre=>by simp [stI,Kf]
 | e::l,pre=>by
   simp only [stI,List.map_cons]
   have ih:=Z7 x l (pre++[Dl x e])
   have e1:(pre++[Dl x e]).length=pre.length+1:=by simp
   rw [e1] at ih
   split
   ·rename_i ht
    simp only [Kf]
    rw [Xs]
    have:(Dl 0 e::l.map (Dl 0)).modify 0 (fun e=>{ e with t:=x })=Dl x e::l.map (Dl 0):=by simp [Dl,ht]
    rw [this]
    simpa using ih
   ·rename_i ht
    have:Dl 0 e=Dl x e:=by simp [Dl,ht]
    rw [this]
    simpa using ih
theorem Ais (e:Eg)(x:Int):(Lh e).take 1++[vi x]++(Lh e).drop (1+[vi x].length)=Lh { e with t:=x }:=by simp [Lh]
theorem Afj {l:List Eg}{i:Nat}{e:Eg}(h:l[i]?=some e)(f:Eg→Eg):l.modify i f=l.set i (f e):=by
 apply List.ext_getElem?
 intro j
 rw [List.getElem?_modify,List.getElem?_set]
 by_cases hj:i=j
 ·subst hj;rw [h];simp [Ad h]
 ·simp [hj]
abbrev Awe (l:List Nd):List AV:=[vi (Ew l).pts,.sl (Dj (gEs l)) .no,vi (Ew l).pt,.sl (Rj (Ew l).sts) .no,.sl (Hu (Ew l).lps) .no]
theorem Atq (P:Nd)(hne:P.kids≠[])(hps:∀ x,x∈(Ck P).kids→PS x)(hw:wL (Ck P).kids≤10000000)(hk:P.kids.length≤1000000000) :
 Pure X 146 [nd P] (.cptr (Awe (Ck P).kids)):=by
 show Pure X 146 [nd P] (.cptr [vi (Ew (Ck P).kids).pts,.sl (Dj ((Ew (Ck P).kids).es.map (Dl (Ew (Ck P).kids).pt))) .no,vi (Ew (Ck P).kids).pt,.sl (Rj (Ew (Ck P).kids).sts) .no,.sl (Hu (Ew (Ck P).kids).lps) .no])
 refine Pure.run Tryz.func146 ?_
 refine AK.mintP (bx:=[[Af P],[[vi 1,.psl [] 0 0,vi 0,.sl [] .tight,.sl [] .tight]]]) (tk:=[0]) 1 0 1 ?_
 refine AK.mintB (bx:=[[Af P],[[vi 1,.psl [] 0 0,vi 0,.sl [] (.tok 1),.sl [] .tight]]]) (tk:=[0,0]) 1 0 3 rfl rfl rfl rfl rfl rfl ?_
 refine AK.mintP (bx:=[[Af P],mx 1 (iE ⟨1,0,[],[],[],0⟩) 0 [] [] 0]) (tk:=[0,0,0]) 1 0 4 ?_
 refine AK.as_ 3 (.ptr 1 0 0) ?_
 refine AK.as_ 9 (.ptr 1 0 0) ?_
 have c0:Gc ⟨1,0,[],[],[],0⟩ (wL (Ck P).kids):=⟨⟨by decide,by show 1+_≤_;omega,by show 0+_≤_;omega⟩,by show 0+_≤_;omega,by show 0+_≤_;omega⟩
 have l0:=Ki hps Ca _ c0.b.pt
 have s0:SI (gL (Ck P).kids Ca ⟨1,0,[],[],[],0⟩):=Aos (fun x hx=>Avy (hps x hx)) _ _ rfl
 refine AK.pc (Am6 P hne hk) ?_
 refine AK.hc (τ':=[0,1,2]) [1] [0,1,2] (Abo hps (fun x hx=>Atr (hps x hx)) _ c0) ?_
 have c1:Gc (gL (Ck P).kids Ca ⟨1,0,[],[],[],0⟩) 0:=c0.step1 l0 (by simp only [bG];omega) (by simp only [bG];omega)
 have hA:Ew (Ck P).kids=Cy 6 Ca (gL (Ck P).kids Ca ⟨1,0,[],[],[],0⟩):=rfl
 rw [hA]
 generalize gL (Ck P).kids Ca ⟨1,0,[],[],[],0⟩=g at *
 have b1:=c1.b.pts
 have b2:=c1.b.es
 refine AK.sto ⟨[[Af P],mx g.pts (iE g) g.pt g.sts g.lps g.ver],[(iE g).length,g.sts.length,g.ver]⟩ ?_
 refine AK.hc (τ':=[0,1,2]) [1] [0,1,2] (Abn g (by omega) (by omega)) ?_
 have s1:SI (Cy 6 Ca g):=Nq 6 Ca s0
 have b3:(Cy 6 Ca g).es.length≤1000000001:=by simp [Cy];omega
 generalize Cy 6 Ca g=h at *
 have hst:Kf h.pt (iE h) h.sts=h.es.map (Dl h.pt):=by
  rw [s1];exact Z7 h.pt h.es []
 have hsl:h.sts.length≤h.es.length:=by rw [s1];exact Ahz _ _
 have hslt:∀ i,i∈h.sts→i<(iE h).length:=fun i hi=>by
  rw [s1] at hi
  have:=Af3 _ _ _ hi
  rw [Pr];omega
 refine AK.sto ⟨[[Af P],[[vi h.pts,.psl (Dj (Kf h.pt (iE h) (h.sts.take 0))) 0 ((iE h).length+0),vi h.pt,.sl (Rj h.sts) (.tok 1),.psl (Hu h.lps) 2 h.ver]]],[(iE h).length+0,h.sts.length,h.ver]⟩ ?_
 refine AK.while_ (ι:=Nat) 2 3 (fun i=>i≤h.sts.length) (fun i=>[(22,vi i),(21,vi h.sts.length),(20,.sl (Rj h.sts) (.tok 1)),(3,.ptr 1 0 0)])
  (fun i=>⟨[[Af P],[[vi h.pts,.psl (Dj (Kf h.pt (iE h) (h.sts.take i))) 0 ((iE h).length+i),vi h.pt,.sl (Rj h.sts) (.tok 1),.psl (Hu h.lps) 2 h.ver]]],[(iE h).length+i,h.sts.length,h.ver]⟩) (fun i=>h.sts.length-i) ?_ 0
  (Nat.zero_le _) ⟨rfl,by rw [← Ku h.sts];rfl,rfl,rfl,trivial⟩
 intro i hi IH
 refine AK.ei (fun h2=>?_) (fun h2=>?_)
 ·have hlt:i<h.sts.length:=by have:=of_decide_eq_true h2;omega
  obtain ⟨k,hk⟩:=Ac h.sts hlt
  have hkl:=hslt k (List.mem_of_getElem? hk)
  have hgk:(Rj h.sts)[i]?=some [vi k]:=by simp [Rj,hk]
  have hkr:k<(Dj (Kf h.pt (iE h) (h.sts.take i))).length:=by rw [If,U8];exact hkl
  obtain ⟨e,he⟩:=Ac (Kf h.pt (iE h) (h.sts.take i)) (i:=k) (by rw [U8];exact hkl)
  have hrow:=Uc he
  have hsn:Kf h.pt (iE h) (h.sts.take (i+1))=(Kf h.pt (iE h) (h.sts.take i)).modify k fun e=>{ e with t:=h.pt }:=by
   rw [List.take_add_one,hk];exact Yh _ _ _ _
  refine AK.ix i (by omega) hgk ?_
  refine AK.db 4096 ?_
  refine Drv.lo (V8 (n:=k) hkr rfl (Pn _) rfl rfl rfl rfl rfl rfl rfl rfl) ?_
  refine Drv.e ?_
  refine Drv.w (Ndo.stP (b:=1) (r:=0) (g:=1) (xs:=[vi h.pt]) (bx:=[[Af P],[[vi h.pts,.psl (Dj (Kf h.pt (iE h) (h.sts.take (i+1)))) 0 ((iE h).length+(i+1)),vi h.pt,.sl (Rj h.sts) (.tok 1),.psl (Hu h.lps) 2 h.ver]]]) (tk':=[(iE h).length+(i+1),h.sts.length,h.ver])
   rfl hrow (by show 1+1≤8;omega) (fun z hz=>by simp at hz;subst hz;exact .val _) rfl rfl rfl ?_ rfl rfl rfl rfl rfl rfl rfl rfl rfl) ?_
  ·show [[Af P],[[vi h.pts,.psl ((Dj (Kf h.pt (iE h) (h.sts.take i))).set k ((Lh e).take 1++[vi h.pt]++(Lh e).drop (1+[vi h.pt].length))) 0 ((iE h).length+i+1),vi h.pt,.sl (Rj h.sts) (.tok 1),.psl (Hu h.lps) 2 h.ver]]]=_
   rw [Ais,Ze,hsn,Afj he];rfl
  refine Drv.z ?_
  exact IH (i+1) hlt (by omega) _ _ ⟨vsx (by omega),rfl,rfl,rfl,trivial⟩ rfl rfl rfl
 ·have:i=h.sts.length:=by have:=of_decide_eq_false h2;omega
  subst this
  rw [List.take_length,hst]
  exact AK.rz Tryz.func146 rfl
theorem Ai0 (P:Nd)(hne:P.kids≠[])(hps:∀ x,x∈(Ck P).kids→PS x)(hw:wL (Ck P).kids≤10000000)(hk:P.kids.length≤1000000000) :
 Pure X 100 [nd P] (.agg [vi (Ew (Ck P).kids).pts,.sl (Dj (gEs (Ck P).kids)) .no]):=by
 refine Pure.run Tryz.func100 ?_
 refine AK.pc (Atq P hne hps hw hk) ?_
 exact AK.rz Tryz.func100 rfl
end Go.V
namespace Go.V
open Go
section
variable {X:Cx}{E:Env}{S:St}{w:World}{F:B7}{N:Nat}{ops:Array Oper}{i:Nat}{o:Oper}{p q:Operand}
theorem Ndo.mkS {t e n b:Nat}{ik ik':IntKind}{y ye:Ty}{bx:List (List (List AV))}(hn:n≤1000000000)(hb:S.boxes.length=b)(hbx:S.boxes++[List.replicate n ye.zero]=bx)(ho:ops[i]?=some o)(hw:A6 ops F o=some true)(hop:o.op=.makeSlice t p q)
 (hp:Cr X F p=some (.val (.int ik n)))(hq:Cr X F q=some (.val (.int ik' n)))(hy:X.ty t=some y)(hk:y.k=.slc e)(hye:X.ty e=some ye):Ndo X N ops i o F (.bsl b n) S ⟨bx,S.toks⟩:=by
 subst hbx;subst hb
 intro F' E w a hl hI hF
 have hlo:=D8 hl
 rw [hop] at hlo
 have r1:=Ag hI hF ((B1 (X:=X) (F:=F) (F':=F') (o:=p) fun s hs=>hlo s (by simp [Op.operands,hs])).trans hp)
 have r2:=Ag hI hF ((B1 (X:=X) (F:=F) (F':=F') (o:=q) fun s hs=>hlo s (by simp [Op.operands,hs])).trans hq)
 cases hh1:a.eval p<;>rw [hh1] at r1<;>cases r1
 cases hh2:a.eval q<;>rw [hh2] at r2<;>cases r2
 obtain ⟨d,hd,hdd⟩:=(X.ty_ok t y hy).agg
 simp only [hk] at hdd
 obtain ⟨rfl,ye',hye',hne⟩:=hdd
 rw [hye] at hye';cases hye'
 obtain ⟨z,hz,hzc,hzl,i',hi,hiz,his,hib⟩:=Kh hye w
 have hzs:z.cells.size=ye.size:=by rw [← hzl,← hzc];simp
 have hbn:i'.bytes*n≤1024*n:=Nat.mul_le_mul_right _ hib
 have hrun:=run_make (P:=X.P) w t e i' z hd hi hiz ik ik' (n:Int) (n:Int) (by omega) (Int.le_refl _) (by
  have:((i'.bytes*n:Nat):Int)≤281474976710656:=by omega
  rwa [Int.natCast_mul] at this) (by omega)
 simp only [Int.toNat_natCast] at hrun
 have hg0:Np E w ye.size (madeCells z.cells (n*i'.size)) (List.replicate n ye.zero):=by
  refine Qn hzc hzl _ (by rw [size_madeCells,his]) (fun j hj=>?_)
  have hm:j % ye.size<z.cells.size:=by rw [hzs];exact Nat.mod_lt _ (Nat.pos_of_ne_zero hne)
  unfold madeCells
  rw [his]
  have hr0:(Array.range (n*ye.size))[j]?=some j:=by simp [hj]
  rw [Array.getElem?_map,hr0]
  simp only [Option.map_some]
  rw [hzs,getElem!_pos z.cells (j % ye.size) hm,Array.getElem?_eq_getElem hm]
 obtain ⟨ev,hI'⟩:=hI.newBox (w':=w.alloc (.cells (madeCells z.cells (n*i'.size)) e)) (cs:=madeCells z.cells (n*i'.size)) (e:=e) (sz:=ye.size) (rows:=List.replicate n ye.zero) rfl rfl rfl rfl hg0.1 hg0.2.1 hg0.2.2
 refine Does.val ho (Bz hF (by rw [B5 hl];exact hw)) (v:=.slice (some ⟨w.heap.size,0,none⟩) n n) (by simp [execOp,hop,hh1,hh2,hrun]) (.inl rfl) ⟨_,hI',ev,?_⟩
 exact .bsl S.boxes.length w.heap.size ye.size n n (by rw [← hI.nb];exact getElem?_snoc_new _ _) (Nat.le_refl _)
end
end Go.V
