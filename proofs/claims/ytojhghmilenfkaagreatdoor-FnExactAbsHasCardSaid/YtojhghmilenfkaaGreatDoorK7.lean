/- A part of the proof of the claim that the last text states: no condition of its own. -/
import Derived.Test.YtojhghmilenfkaaGreatDoorK6
import Derived.Laws.MakeOwn
set_option linter.unusedVariables false
set_option linter.unusedSimpArgs false
namespace Go.V
open Go
section
variable {X:Cx}{B:Bx}{E E1:Env}{S S1:St}{w w':World}{F:B3}{a:Act}{N:Nat}{R:AE→St→Prop}{ops:Array Oper}{i:Nat}{o:Oper}
theorem AK.retK {k:List Item}{xs:List AV}(hf:X.P.funcs[B.f]?=some B.fn)(hR:R (.ret (B1 xs)) S)(h:Lu X F S B.fn.results.toList=some xs:=by rfl):AK X B (.code .ret::k) F S R:=by
 intro E w a b cs hI hF hn hm hb
 obtain ⟨v,h1,h2⟩:=Mp hI hF h
 have nt:E.toks.length=S.toks.length:=by rw [← hI.nt];simp
 refine .inl ⟨.returned v,w,{ b.at a (.code .ret::k) with mode:=.returning },⟨E,S,hI,Evol.refl _ _ _ _,_,h2,hR⟩,.one step_ret,hb,⟨rfl,hF.nod,rfl,B.fn,by rw [← hf];exact congrArg (X.P.funcs[·]?) hb,h1⟩⟩
def Fresh (X:Cx)(f:FuncId)(args:List AV)(n:Nat)(P:List (List AV)→Prop):Prop :=
 Kh X.P f∧ACalls X f args ⟨[],[]⟩ fun e S'=>∃ rows,e=.ret (.bsl 0 n)∧S'=⟨[rows],[]⟩∧P rows
theorem Alc (hI:Inv X E S w){rows:List (List AV)}(hflat:Eo 0 0 rows)(hI1:Inv X E1 ⟨[rows],[]⟩ w')(ev:Evol (E.sub [] []) w E1 w' 0 0) :
 ∃ blk sz,E1.boxes[0]?=some (some (blk,sz))∧Evol E w (E.addBox blk sz) w' E.boxes.length E.toks.length∧Inv X (E.addBox blk sz) ⟨S.boxes++[rows],S.toks⟩ w':=by
 have hτl:∀ t,t∈([]:List Nat)→t<E.toks.length:=fun t h=>by cases h
 have nb1:E1.boxes.length=1:=hI1.nb
 obtain ⟨⟨blk,sz⟩,hB⟩:=hI1.np 0 (by omega)
 have nt1:E1.toks=[]:=by have:=hI1.nt;simpa using this
 have own1:∀ b,E1.own b→b=blk:=fun b h=>by
  rcases h with ⟨j,s,h⟩ | ⟨t,l,c,s,h⟩
  ·have:=Ad h
   have:j=0:=by omega
   subst this
   rw [hB] at h;cases h;rfl
  ·rw [nt1] at h;simp at h
 have ownb:E1.own blk:=.inl ⟨0,sz,hB⟩
 have nown:∀ b,¬ (E.sub [] []).own b:=fun b h=>by
  rcases (Mi hτl).1 h with ⟨j,s,hj,_⟩ | ⟨t,l,c,s,ht,_⟩
  ·cases hj
  ·cases ht
 have hge:w.heap.size≤blk:=by
  rcases Nat.lt_or_ge blk w.heap.size with h | h
  ·exact absurd (ev.own blk h ownb) (nown blk)
  ·exact h
 have hlt1:blk<w'.heap.size:=hI1.own_lt ownb
 have frE:∀ {b o:Nat},E.mt b o→E1.fr b o:=fun {b o} h=>by
  rw [ev.fr]
  refine ⟨h,fun ho=>?_⟩
  rcases ho with ⟨j,s,hj,_⟩ | ⟨t,l,c,s,ht,_⟩
  ·cases hj
  ·cases ht
 have hfar:∀ {b:Nat},b<w.heap.size→w'.heap[b]?=w.heap[b]?:=fun {b} h=>ev.block b h (nown b)
 have hmtx:∀ {b o:Nat},(E.addBox blk sz).mt b o→E.mt b o∨b=blk:=fun {b o} h=>by
  rcases h with h | ⟨j,s,h⟩ | h
  ·exact .inl (.inl h)
  ·rcases getElem?_snoc h with h | ⟨_,h⟩
   ·exact .inl (.inr (.inl ⟨j,s,h⟩))
   ·cases h;exact .inr rfl
  ·exact .inl (.inr (.inr h))
 have hownx:∀ {b:Nat},(E.addBox blk sz).own b→E.own b∨b=blk:=fun {b} h=>by
  rcases h with ⟨j,s,h⟩ | h
  ·rcases getElem?_snoc h with h | ⟨_,h⟩
   ·exact .inl (.inl ⟨j,s,h⟩)
   ·cases h;exact .inr rfl
  ·exact .inl (.inr h)
 have hne:∀ {b:Nat},E.own b→b≠blk:=fun {b} h e=>by have:=hI.own_lt h;omega
 have ev2:Evol E w (E.addBox blk sz) w' E.boxes.length E.toks.length:=by
  refine ⟨rfl,fun j hj hl=>⟨by simp [Env.addBox];omega,fun x hx=>getElem?_snoc_left hx⟩,fun t ht k hk=>⟨k,hk,.inl rfl⟩,ev.os,ev.tape,ev.output,ev.size,fun b hb _=>hfar hb,
   fun b o v hm hc=>ev.cell b o v (fun h=>hm (Ox hτl h)) hc,fun b o hb h=>?_,fun b hb h=>?_,rfl,ev.ty,fun _ _ _ b _ _ _ _ o ho=>by rw [hfar (Ku ho)];exact ho⟩
  ·rcases hmtx h with h | h
   ·exact h
   ·omega
  ·rcases hownx h with h | h
   ·exact h
   ·omega
 refine ⟨blk,sz,hB,ev2,?_⟩
 obtain ⟨cs1,e1,hh1,hs1,hl1,hr1⟩:=hI1.box 0 blk sz rows hB rfl
 have hmt1:∀ b o,(E.addBox blk sz).mt b o→E1.mt b o:=fun b o h=>by
  rcases hmtx h with h | rfl
  ·exact .inl (frE h)
  ·exact .inr (.inl ⟨0,sz,hB⟩)
 exact {
  nb:=by simp [Env.addBox,hI.nb]
  nt:=hI.nt
  np:=fun j hj=>by
   simp only [Env.addBox,List.length_append,List.length_singleton] at hj ⊢
   rcases Nat.lt_or_ge j E.boxes.length with h | h
   ·rw [List.getElem?_append_left h];exact hI.np j h
   ·have:j=E.boxes.length:=by omega
    subst this;exact ⟨_,getElem?_snoc_new _ _⟩
  box:=fun j b s rows' h1 h2=>by
   rcases getElem?_snoc h1 with h1 | ⟨hj,h1⟩
   ·have h2':S.boxes[j]?=some rows':=by
     rcases getElem?_snoc h2 with h2 | ⟨hj,_⟩
     ·exact h2
     ·have:=Ad h1;rw [hI.nb] at this;omega
    obtain ⟨cs',e',hh',hs',hl',hr'⟩:=hI.box j b s rows' h1 h2'
    exact ⟨cs',e',(hfar (hI.own_lt (.inl ⟨j,s,h1⟩))).trans hh',hs',hl',fun k r q x v h3 h4 h5=>(hr' k r q x v h3 h4 h5).step ev2⟩
   ·cases h1
    have h2':rows'=rows:=by
     rcases getElem?_snoc h2 with h2 | ⟨_,h2⟩
     ·have:=Ad h2;rw [← hI.nb] at this;omega
     ·exact h2
    subst h2'
    exact ⟨cs1,e1,hh1,hs1,hl1,fun k r q x v h3 h4 h5=>(hr1 k r q x v h3 h4 h5).env (hflat r (List.mem_of_getElem? h3) x (List.mem_of_getElem? h4)) hmt1⟩
  tok:=fun t l b c s h=>by
   obtain ⟨h1,h0,cs,e,hh,hs⟩:=hI.tok t l b c s h
   exact ⟨h1,h0,cs,e,(hfar (hI.own_lt (.inr ⟨t,l,c,s,h⟩))).trans hh,hs⟩
  bb:=fun i j b s s' h1 h2=>by
   rcases getElem?_snoc h1 with h1 | ⟨hi,h1⟩<;>rcases getElem?_snoc h2 with h2 | ⟨hj,h2⟩
   ·exact hI.bb i j b s s' h1 h2
   ·cases h2;exact absurd rfl (hne (.inl ⟨i,s,h1⟩))
   ·cases h1;exact absurd rfl (hne (.inl ⟨j,s',h2⟩))
   ·omega
  bt:=fun i t b s l c sz' h1 h2=>by
   rcases getElem?_snoc h1 with h1 | ⟨hi,h1⟩
   ·exact hI.bt i t b s l c sz' h1 h2
   ·cases h1;exact absurd rfl (hne (.inr ⟨t,l,c,sz',h2⟩))
  tt:=hI.tt
  frlt:=fun b o h=>⟨fun h'=>by
   rcases hownx h' with h' | h'
   ·exact (hI.frlt b o h).1 h'
   ·have:=(hI.frlt b o h).2;omega,Nat.lt_of_lt_of_le (hI.frlt b o h).2 ev.size⟩
  lo:=fun b h=>by
   rcases hownx h with h | h
   ·exact hI.lo b h
   ·rw [h];exact hI1.lo blk ownb
  frlo:=hI.frlo
  sz:=hI1.sz
  glob:=hI1.glob }
theorem AK.fr {l:List Nat}{k:List Item}{c:Call}{fo:Operand}{f:FuncId}{caps xs zs ys:List AV}{n:Nat}{P:List (List AV)→Prop}(hc:Fresh X f ys n P)(hflat:∀ rows,P rows→Eo 0 0 rows)
 (hk:∀ rows,P rows→AK X B (.inRegion ops l::k) (putF o.dst (.bsl S.boxes.length n) F) ⟨S.boxes++[rows],S.toks⟩ R)(ho:ops[i]?=some o:=by rfl)(hw:A2 ops F o=some true:=by rfl)(hop:o.op=.call c:=by rfl)
 (hcal:c.callee=.value fo:=by rfl)(hfo:Co X F fo=some (.fn f caps):=by rfl)(hx:Fg X F c.args.toList=some xs:=by rfl)(hzs:Iv xs caps=some zs:=by rfl)(hd:C6 B.fn.ntmps o.dst=true:=by rfl) [ha:RinL [] [] zs ys] :
 AK X B (.inRegion ops (i::l)::k) F S R:=by
 intro E w a b cs hI hF hn hm hb
 have nt:E.toks.length=S.toks.length:=by rw [← hI.nt];simp
 have hτl:∀ t,t∈([]:List Nat)→t<E.toks.length:=fun t h=>by cases h
 have hz:=Ql hzs
 obtain ⟨vs,h1,h2,h3⟩:=Ph hop hcal hc.1 hI hF hfo hx
 have hsub:Inv X (E.sub [] []) ⟨[],[]⟩ w:=hI.sub (σ:=[]) (τ:=[]) List.nodup_nil List.nodup_nil hτl (Sc:=⟨[],[]⟩) .nil (fun j h=>by cases h) rfl
 have hcalls:=hc.2 (E.sub [] []) w vs rfl hsub (by rw [h2,hz,ha.s.get.1]) (fun j v y hv hy=>by
  obtain ⟨x,hxj⟩:=Aa zs (i:=j) (by have:=Ad hy;rw [ha.s.get.1] at this;exact this)
  exact (ha.s.get.2 j x y hxj hy).fwd (fun b o=>Ox hτl) (fun i j q h1 h2=>F9.2 ⟨i,h1,h2⟩) (fun i j k h1 h2=>(Hf hτl).2 ⟨i,h1,h2⟩) (h3 j v x hv (by rw [hz];exact hxj)))
 have hdo:Does X ops i a w fun v w'=>∃ rows,P rows∧∃ E',Inv X E' ⟨S.boxes++[rows],S.toks⟩ w'∧Evol E w E' w' E.boxes.length E.toks.length∧Rel E' w' v (.bsl S.boxes.length n):=by
  refine Does.call ho (Bw hF hw) h1 (hcalls.mono fun e w' he=>?_)
  obtain ⟨E1,S1,d1,d2,d3⟩:=he
  cases e with
  | returned v =>
    obtain ⟨r',hr',rows,hre,rfl,hP⟩:=d3
    cases hre
    obtain ⟨blk,sz,hB,ev2,hI2⟩:=Alc hI (hflat rows hP) d1 d2
    refine ⟨v,rfl,rows,hP,_,hI2,ev2,?_⟩
    cases hr' with
    | bsl _ blk' sz' _ cap hB' hcap =>
      rw [hB] at hB';cases hB'
      exact .bsl _ blk sz n cap (by rw [← hI.nb];exact getElem?_snoc_new _ _) hcap
  | panicked ch=>obtain ⟨rows,h,_⟩:=d3;cases h
  | outgrown=>exact d3.elim
 obtain ⟨v',w2,⟨rows,hP,E',g1,g2,g3⟩,g4⟩:=hdo b k cs l
 have hF':=(hF.step g2).putF hd g3
 have g4':=g4
 rw [ho] at g4'
 exact Fin.from g4' (g2.weaken (by rw [hI.nb];exact hn) (by omega)) (hk rows hP E' w2 _ b cs g1 hF' (by simp;omega) hm hb)
theorem Fresh.mk {f:FuncId}{fn:Func}{c:Code}{args:List AV}{n:Nat}{P:List (List AV)→Prop}(hf:X.P.funcs[f]?=some fn)(hb:fn.body=some c)(hl:Nat.ble args.length fn.ntmps=true)(hnm:(fn.name == "runtime.NumGoroutine")=false)
 (h:AK X ⟨f,fn,0,0⟩ [.code c] (Mn 0 args) ⟨[],[]⟩ fun e S'=>∃ rows,e=.ret (.bsl 0 n)∧S'=⟨[rows],[]⟩∧P rows):Fresh X f args n P :=
 ⟨⟨fn,hf,hnm,by rw [hb];rfl⟩,Gy (n:=0) (m:=0) (hh:=fun C S' hx=>by obtain ⟨rows,hx,_⟩:=hx;cases hx) hf hb hl rfl rfl h⟩
theorem Ach {c:Call}{p q:Operand}{tt tx e e':Nat}{y yx ye:Ty}{rows:List (List AV)}{sp sp':Sp}(ho:ops[i]?=some o:=by rfl)(hw:A2 ops F o=some true:=by rfl)(hop:o.op=.call c:=by rfl)(hcal:c.callee=.builtin .append:=by rfl)
 (hargs:c.args.toList=[p,q]:=by rfl)(htys:c.argTypes.toList=[tt,tx]:=by rfl)(hp:Co X F p=some (.sl rows sp):=by rfl)(hq:Co X F q=some (.sl [] sp'):=by rfl)(hy:X.ty tt=some y:=by rfl)(hyk:y.k=.slc e:=by rfl)(hye:X.ty e=some ye:=by rfl)
 (hyx:X.ty tx=some yx:=by rfl)(hyxk:yx.k=.slc e':=by rfl):Ndo X N ops i o F (.sl rows sp) S S:=by
 refine Ndo.val ho hw fun F' E w a hc hI hF=>?_
 rw [hop] at hc
 obtain ⟨callee,args,argTypes⟩:=c
 simp only at hcal hargs htys
 subst hcal
 have ha:args=#[p,q]:=by rw [← Array.toList_inj];exact hargs
 have ht:argTypes=#[tt,tx]:=by rw [← Array.toList_inj];exact htys
 subst ha;subst ht
 have r1:=Ah hI hF ((hc p (by simp [Op.operands,Call.operands])).trans hp)
 have r2:=Ah hI hF ((hc q (by simp [Op.operands,Call.operands])).trans hq)
 obtain ⟨d1,hd1,hk1⟩:=(X.ty_ok tt y hy).agg
 simp only [hyk] at hk1
 obtain ⟨rfl,ye',hye',hne0⟩:=hk1
 rw [hye] at hye';cases hye'
 obtain ⟨d2,hd2,hk2⟩:=(X.ty_ok tx yx hyx).agg
 simp only [hyxk] at hk2
 obtain ⟨rfl,_⟩:=hk2
 generalize hu:a.eval p=u at r1
 generalize hv:a.eval q=v at r2
 have r1':=r1
 cases r2 with
 | sl _ _ a2 n2 cap2 b2 o2 sz2 vals2 hn2 hx2 ha2 hszr2 hm2 hcl2 hr2 hs2 hcap2 =>
   have h0:n2=0:=by simpa using hn2.symm
   subst h0
   cases r1 with
   | sl _ _ a1 n1 cap1 b1 o1 sz1 vals1 hn1 hx1 ha1 hszr1 hm1 hcl1 hr1 hs1 hcap1 =>
     refine ⟨.slice a1 n1 cap1,?_,r1'⟩
     have hf:(Builtin.firstCells ye.size 0 (.slice a2 0 cap2)).run X.P w=.ok ([]:List Value).toArray w:=by
      cases a2 with
      | none=>exact run_firstCells_none _ _ _ _ _
      | some a0=>exact run_firstCells_some _ _ _ _ _ _ _ (by simp) (fun j v hj=>by simp at hj)
     cases a1 with
     | none=>simp [execOp,hop,resolve,invoke,builtin,hu,hv,Builtin.append_,run_underlying hd1,run_underlying hd2,Ch hye,Builtin.lenOf,hcap1,hf]
     | some a0=>simp [execOp,hop,resolve,invoke,builtin,hu,hv,Builtin.append_,run_underlying hd1,run_underlying hd2,Ch hye,Builtin.lenOf,hcap1,hf,storeCells]
end
end Go.V
namespace Go.V
open Go Go.Proofs
instance {n m c:Nat}:OKR n m (List.replicate c zN):=⟨fun r hr x hx=>by
 rw [List.eq_of_mem_replicate hr] at hx
 exact (inferInstance:OKL n m zN).ok x hx⟩
abbrev rB (l:List Nd)(c:Nat):List (List AV):=Ak l++List.replicate c zN
theorem Uy {l:List Nd}{i c:Nat}{x:Nd}(h:l[i]?=some x):(rB l c)[i]?=some (Af x):=by
 rw [List.getElem?_append_left (by rw [Ae];exact Ad h)];exact Ao h
theorem Ave (l:List Nd)(c i:Nat)(x:Nd)(h:i<l.length):(rB l c).set i (Af x)=rB (l.set i x) c:=by
 rw [rB,rB,List.set_append_left _ _ (by rw [Ae];exact h),Al,Al,List.map_set]
theorem Af5 (l:List Nd)(c:Nat):(rB l c).length=l.length+c:=by simp [Ae]
theorem Us (a b:List Nd):Ak (a++b)=Ak a++Ak b:=by rw [Al,Al,Al,List.map_append]
theorem As4 (l:List Nd)(c:Nat):∀ r,r∈rB l c→r.length=4:=fun r hr=>by
 rcases List.mem_append.1 hr with h | h
 ·exact Fu.1 (C3 l) r h
 ·rw [List.eq_of_mem_replicate h];rfl
section
variable {X:Cx}{B:Bx}{S:St}{F F':B3}{R:AE→St→Prop}{N:Nat}{ops:Array Oper}{i:Nat}{l:List Nat}{k K:List Item}{o:Oper}{p q:Operand}
theorem AK.ldB {t b r:Nat}{y:Ty}{cs:List AV}{rows:List (List AV)}{x:AV}{S2:St}(hr:rows[r]?=some cs)(hk:AK X B K F' S2 R)(ho:ops[i]?=some o:=by rfl)(hw:A2 ops F o=some true:=by rfl)(hop:o.op=.load t p:=by rfl)
 (hp:Co X F p=some (.ptr b r 0):=by rfl)(hy:X.ty t=some y:=by rfl)(hb:S.boxes[b]?=some rows:=by rfl)(hl:cs.length=y.size:=by rfl)(hx:Yn (Fl y.k) cs=some x:=by rfl)(hd:C6 B.fn.ntmps o.dst=true:=by rfl)
 (he:Go.V.ev X B.fn.ntmps 200 (.inRegion ops l::k) (putF o.dst x F) S=(K,F',S2):=by rfl):AK X B (.inRegion ops (i::l)::k) F S R :=
 AK.op (Mz hb hr hl ho hw hop hp hy hx) hk ho hd he
theorem AK.atB {t e b n:Nat}{ik:IntKind}{y ye:Ty}{rows:List (List AV)}{r:List AV}(j:Nat)(hj:j<n)(hr:rows[j]?=some r)(hk:AK X B (.inRegion ops l::k) (putF o.dst (.ptr b j 0) F) S R)(ho:ops[i]?=some o:=by rfl)(hw:A2 ops F o=some true:=by rfl)
 (hop:o.op=.indexAddr t p q:=by rfl)(hp:Co X F p=some (.bsl b n):=by rfl)(hq:Co X F q=some (.val (.int ik j)):=by rfl)(hy:X.ty t=some y:=by rfl)(hyk:y.k=.slc e:=by rfl)(hye:X.ty e=some ye:=by rfl)(hb:S.boxes[b]?=some rows:=by rfl)(hl:r.length=ye.size:=by rfl)
 (hd:C6 B.fn.ntmps o.dst=true:=by rfl):AK X B (.inRegion ops (i::l)::k) F S R :=
 AK.nd (Is (j:=j) ho hw hop hp hq hy hyk hye (by simpa [Nat.blt_eq] using hj) hb hr hl) ho hd hk
theorem AK.stB {t b r:Nat}{y:Ty}{x:AV}{xs cs:List AV}{rows:List (List AV)}{bx:List (List (List AV))}{S2:St}(hr:rows[r]?=some cs)(hk:AK X B K F' S2 R)(ho:ops[i]?=some o:=by rfl)(hw:A2 ops F o=some true:=by rfl)(hop:o.op=.store t p q:=by rfl)
 (hp:Co X F p=some (.ptr b r 0):=by rfl)(hq:Co X F q=some x:=by rfl)(hy:X.ty t=some y:=by rfl)(hb:S.boxes[b]?=some rows:=by rfl)(hc:cellsOf x=some xs:=by rfl)(hl:xs.length=y.size:=by rfl)(hl':cs.length=y.size:=by rfl)
 (hbx:S.boxes.set b (rows.set r xs)=bx:=by rfl)(hd:C6 B.fn.ntmps o.dst=true:=by rfl)(he:Go.V.ev X B.fn.ntmps 200 (.inRegion ops l::k) (putF o.dst .junk F) ⟨bx,S.toks⟩=(K,F',S2):=by rfl):AK X B (.inRegion ops (i::l)::k) F S R:=by
 subst hbx
 exact AK.op (Ndo.store ho hw hop hy hp hq (Sd hb hr hc hl hl')) hk ho hd he
end
theorem Aq0 (l:List Nd)(hne:l≠[])(hl:l.length≤1000000000):Fresh X 223 [.sl (Ak l) .no] l.length fun rows=>∃ c,rows=rB l c:=by
 have hu:X.P.underlying 28=some (.slice 30):=by kernel_rfl
 refine Fresh.mk Tryz.func223 rfl rfl (by kernel_rfl) ?_
 refine AK.ev 100 rfl ?_
 refine AK.nilS hu (fun c hc=>?_)
 have hc':=hc (by rw [Al];simpa using hne)
 subst hc'
 refine AK.ev 100 rfl ?_
 refine AK.no ?_
 have hn:Ak l≠[]:=by rw [Al];simpa using hne
 refine AK.cloneB (fun cc=>?_) (Fu.1 (C3 l)) (Fy.1 (Adh l)) hn (by rw [Ae];omega)
 refine AK.ev 100 rfl ?_
 refine AK.retK Tryz.func223 ?_
 exact ⟨rB l cc,by rw [Ae];rfl,rfl,cc,rfl⟩
theorem Ann:Pure X 223 [.sl [] .no] (.sl [] .no):=by
 have hu:X.P.underlying 28=some (.slice 30):=by kernel_rfl
 refine Pure.mk Tryz.func223 rfl rfl (by kernel_rfl) ?_
 refine AK.ev 100 rfl ?_
 refine AK.nilS hu (fun c hc=>?_)
 refine AK.ei (fun h=>?_) (fun h=>?_)
 ·refine AK.as_ 2 (.sl [] .tight) ?_
  exact AK.rz Tryz.func223 rfl
 ·refine AK.op Ach ?_
  exact AK.rz Tryz.func223 rfl
theorem Al4 (l:List Nd)(c:Nat)(f:FuncId)(caps:List AV)(p:Nd→Bool)(hl:l.length≤1000000000) [hok:OKL 0 0 caps](hp:∀ x,x∈l→Pure X f (nd x::caps) (vb (p x)))(hcat:∀ xs,Iv xs caps=some (xs++caps)) :
 Hands X 225 [.bsl 0 l.length,.fn f caps] ⟨[rB l c],[]⟩ (vi (Hy p 0 l)) ⟨[rB l c],[]⟩:=by
 have:OKL 1 0 caps:=⟨fun x hx=>(hok.ok x hx).mono (by omega) (by omega)⟩
 refine Hands.run (n:=1) (m:=0) Tryz.func225 ?_
 refine AK.while_ (ι:=Nat) 1 0 (fun i=>i≤l.length∧Hy p 0 l=Hy p i (l.drop i)) (fun i=>[(8,vi i),(7,vi l.length),(0,.bsl 0 l.length),(1,.fn f caps)]) (fun _=>⟨[rB l c],[]⟩) (fun i=>l.length-i) ?_ 0 ⟨Nat.zero_le _,rfl⟩
  ⟨rfl,rfl,rfl,rfl,trivial⟩
 intro i hi IH
 refine AK.ei (fun h=>?_) (fun h=>?_)
 ·have hlt:i<l.length:=by have:=of_decide_eq_true h;omega
  obtain ⟨x,hx⟩:=Aa l hlt
  have hd:Hy p i (l.drop i)=if p x then (i:Int) else Hy p (i+1) (l.drop (i+1)):=by rw [An hx];rfl
  refine AK.atB i hlt (Uy (c:=c) hx) ?_
  refine AK.ldB (Uy (c:=c) hx) ?_
  refine AK.pc (hp x (List.mem_of_getElem? hx)) ?_ (hzs:=hcat _)
  refine AK.if_ (fun h2=>?_) (fun h2=>?_)
  ·refine AK.rb Tryz.func225 ?_ rfl
   have h3:p x=true:=h2
   rw [hi.2,hd,h3];rfl
  ·have h3:p x=false:=h2
   exact IH (i+1) ⟨hlt,by rw [hi.2,hd,h3];rfl⟩ (by omega) _ _ ⟨vsx (by omega),rfl,rfl,rfl,trivial⟩ rfl rfl rfl
 ·have:i=l.length:=by have:=of_decide_eq_false h;omega
  refine AK.rb Tryz.func225 ?_ rfl
  rw [hi.2,this,List.drop_length];rfl
theorem Zg {p:Nd→Bool}:∀ {l:List Nd}{i:Nat},Hy p i l=-1→l.filter (fun x=>!p x)=l
 | [],i,_=>rfl
 | x::l,i,h=>by
   simp only [Hy] at h
   split at h
   ·omega
   ·rename_i hx
    have:=Zg h
    have hx':p x=false:=by simpa using hx
    rw [List.filter_cons,hx',Bool.not_false,if_pos rfl,this]
theorem Uh {p:Nd→Bool}:∀ {l:List Nd}{i:Nat},Hy p i l≠-1→∃ j x,Hy p i l=((i+j:Nat):Int)∧l[j]?=some x∧p x=true∧(l.take j).filter (fun x=>!p x)=l.take j
 | [],i,h=>by simp [Hy] at h
 | x::l,i,h=>by
   simp only [Hy] at h ⊢
   by_cases hx:p x=true
   ·rw [if_pos hx]
    exact ⟨0,x,by simp,rfl,hx,rfl⟩
   ·rw [if_neg hx] at h ⊢
    obtain ⟨j,y,h1,h2,h3,h4⟩:=Uh h
    have hx':p x=false:=by simpa using hx
    refine ⟨j+1,y,by rw [h1];omega,by simpa using h2,h3,?_⟩
    rw [List.take_succ_cons,List.filter_cons,hx',Bool.not_false,if_pos rfl,h4]
theorem Alk {l cur:List Nd}{q:Nd→Bool}{i j:Nat}{x:Nd}(hij:i<j)(hj:l[j]?=some x)(hlen:cur.length=l.length)(h1:cur.take i=(l.take j).filter q)(h2:cur.drop j=l.drop j) :
 cur[j]?=some x∧(q x=false→cur.take i=(l.take (j+1)).filter q∧cur.drop (j+1)=l.drop (j+1)) ∧
  (q x=true→(cur.set i x).take (i+1)=(l.take (j+1)).filter q∧(cur.set i x).drop (j+1)=l.drop (j+1)):=by
 have hjl:=Ad hj
 have hcj:cur[j]?=some x:=by
  have:=congrArg (fun t:List Nd=>t[0]?) h2
  simp only [List.getElem?_drop,Nat.add_zero] at this
  rw [this];exact hj
 have hd:cur.drop (j+1)=l.drop (j+1):=by
  have:=congrArg List.tail h2
  simpa [List.tail_drop] using this
 have ht:(l.take (j+1)).filter q=(l.take j).filter q++[x].filter q:=by rw [List.take_add_one,hj,List.filter_append];rfl
 refine ⟨hcj,fun hq=>⟨?_,hd⟩,fun hq=>⟨?_,?_⟩⟩
 ·rw [ht,h1];simp [hq]
 ·rw [ht,← h1]
  have hi:i<cur.length:=by omega
  rw [List.take_add_one,List.take_set_of_le (Nat.le_refl _)]
  simp [hi,hq]
 ·rw [List.drop_set_of_lt (by omega)];exact hd
theorem Ai4 (l:List Nd)(c:Nat)(f:FuncId)(caps:List AV)(p:Nd→Bool)(hl:l.length≤1000000000) [hok:OKL 0 0 caps](hp:∀ x,x∈l→Pure X f (nd x::caps) (vb (p x)))(hcat:∀ xs,Iv xs caps=some (xs++caps)) :
 Hands X 222 [.bsl 0 l.length,.fn f caps] ⟨[rB l c],[]⟩ (.bsl 0 (l.filter fun x=>!p x).length)
  ⟨[rB (l.filter fun x=>!p x) (l.length-(l.filter fun x=>!p x).length+c)],[]⟩:=by
 have:OKL 1 0 caps:=⟨fun x hx=>(hok.ok x hx).mono (by omega) (by omega)⟩
 have hf:=Al4 l c f caps p hl hp hcat
 refine Hands.run (n:=1) (m:=0) Tryz.func222 ?_
 refine AK.hc [0] [] hf ?_
 refine AK.if_ (fun h1=>?_) (fun h1=>?_)
 ·have h1':Hy p 0 l=-1:=by simpa using h1
  rw [Zg h1',Nat.sub_self,Nat.zero_add]
  exact AK.ret (n:=1) (tk:=[]) Tryz.func222 rfl rfl rfl rfl
 have h1':Hy p 0 l≠-1:=by simpa using h1
 obtain ⟨j0,x0,e0,e1,e2,e3⟩:=Uh h1'
 rw [Nat.zero_add] at e0
 have hj0:=Ad e1
 have hwj:IntKind.i64.wrap (Hy p 0 l+1)=((j0+1:Nat):Int):=by rw [e0];exact (Ac (by omega) (by omega)).trans (by omega)
 have hstart:l.take j0=(l.take (j0+1)).filter fun x=>!p x:=by
  rw [List.take_add_one,e1,List.filter_append,e3];simp [e2]
 refine AK.while_ (ι:=Nat × Nat × List Nd) 1 0 (fun s=>s.1<s.2.1∧s.2.1≤l.length∧s.2.2.length=l.length∧s.2.2.take s.1=(l.take s.2.1).filter (fun x=>!p x)∧s.2.2.drop s.2.1=l.drop s.2.1)
  (fun s=>[(6,vi s.2.1),(5,vi s.1),(0,.bsl 0 l.length),(1,.fn f caps)]) (fun s=>⟨[rB s.2.2 c],[]⟩) (fun s=>l.length-s.2.1) ?_ (j0,j0+1,l) ⟨Nat.lt_succ_self _,hj0,rfl,hstart,rfl⟩
  ⟨A3 hwj,A3 e0,rfl,rfl,trivial⟩
 rintro ⟨i,j,cur⟩ ⟨g1,g2,g3,g4,g5⟩ IH
 simp only at g1 g2 g3 g4 g5 IH ⊢
 refine AK.ei (fun h2=>?_) (fun h2=>?_)
 ·have hlt:j<l.length:=by have:=of_decide_eq_true h2;omega
  have hj1:IntKind.i64.wrap ((j:Int)+1)=((j+1:Nat):Int):=(Ac (by omega) (by omega)).trans (by omega)
  have hi1:IntKind.i64.wrap ((i:Int)+1)=((i+1:Nat):Int):=(Ac (by omega) (by omega)).trans (by omega)
  obtain ⟨x,hx⟩:=Aa l hlt
  obtain ⟨s1,s2,s3⟩:=Alk (q:=fun x=>!p x) g1 hx g3 g4 g5
  refine AK.atB j hlt (Uy (c:=c) s1) ?_
  refine AK.ldB (Uy (c:=c) s1) ?_
  refine AK.pc (hp x (List.mem_of_getElem? hx)) ?_ (hzs:=hcat _)
  refine AK.if_ (fun h3=>?_) (fun h3=>?_)
  ·have hpx:p x=false:=by have:(!p x)=true:=h3;simpa using this
   obtain ⟨t1,t2⟩:=s3 (by simp [hpx])
   have hil:i<cur.length:=by omega
   obtain ⟨y,hy⟩:=Aa cur hil
   refine AK.atB i (show i<l.length by omega) (Uy (c:=c) hy) ?_
   refine AK.stB (bx:=[rB (cur.set i x) c,[Af x]]) (Uy (c:=c) hy) ?_ (hbx:=by rw [← Ave _ _ _ _ hil];rfl)
   refine IH (i+1,j+1,cur.set i x) ⟨by simp only;omega,hlt,by simpa using g3,t1,t2⟩ (by simp only;omega) _ _ ⟨A3 hj1,A3 hi1,rfl,rfl,trivial⟩ rfl rfl rfl
  ·have hpx:p x=true:=by have:(!p x)=false:=h3;simpa using this
   obtain ⟨t1,t2⟩:=s2 (by simp [hpx])
   exact IH (i,j+1,cur) ⟨by simp only;omega,hlt,g3,t1,t2⟩ (by simp only;omega) _ _ ⟨A3 hj1,rfl,rfl,rfl,trivial⟩ rfl rfl rfl
 ·have hje:j=l.length:=by have:=of_decide_eq_false h2;omega
  subst hje
  rw [List.take_length] at g4
  have hfl:(l.filter fun x=>!p x).length=i:=by
   have:=congrArg List.length g4
   rw [List.length_take] at this
   omega
  have hrows:rB cur c≠[]:=by
   intro h
   have:cur.length+c=0:=by rw [← Af5,h];rfl
   omega
  have hz:(rB cur c).take i++(List.replicate (l.length-i) zN++(rB cur c).drop (i+(l.length-i)))=rB (cur.take i) (l.length-i+c):=by
   rw [show i+(l.length-i)=l.length by omega,rB,rB,List.take_append_of_le_length (by rw [Ae];omega),← g3,show cur.length=(Ak cur).length by rw [Ae],List.drop_left,Al,Al,← List.map_take,
    ← List.replicate_append_replicate,List.length_map]
  refine AK.op (Ndo.tailB (l:=i) (rows:=rB cur c) g1 rfl rfl rfl rfl rfl rfl rfl rfl rfl (As4 _ _) hrows) ?_
  refine AK.op (Ndo.clearB (s:=i) (n:=l.length-i) (rows:=rB cur c) (by omega) rfl (by rw [Af5];omega) (As4 _ _) (by exact congrArg (fun r=>[r]) hz) (by intro x hx;simp at hx;rcases hx with rfl | rfl | rfl | rfl<;>rfl) rfl rfl rfl rfl rfl rfl rfl rfl rfl rfl) ?_
  refine AK.op (Aik (h:=(i:Int)) (by omega) (by omega) rfl rfl rfl rfl rfl rfl rfl rfl) ?_
  rw [hfl,← g4]
  exact AK.ret (n:=1) (tk:=[]) Tryz.func222 rfl rfl rfl rfl
theorem Ah0 (n:Nd)(hne:n.kids≠[])(hl:n.kids.length≤1000000000):Pure X 162 [nd n] (.sl (Ak n.kids.dropLast) .no):=by
 have hpos:0<n.kids.length:=List.length_pos_iff.2 hne
 have hw1:IntKind.i64.wrap (((Ak n.kids).length:Int)-1)=((n.kids.length-1:Nat):Int):=by rw [Ae];exact (Ac (by omega) (by omega)).trans (by omega)
 refine Pure.run Tryz.func162 ?_
 refine AK.as_ 8 (vi (n.kids.length-1:Nat)) ?_ (A3 hw1)
 refine AK.op (Qi (l:=0) (h:=((n.kids.length-1:Nat):Int)) (r:=Ak n.kids.dropLast) rfl rfl rfl rfl rfl rfl rfl rfl rfl (by omega) (by omega) (by rw [Ae];omega) (C3 _) (by rw [Int.toNat_natCast];exact Py _)) ?_
 exact AK.rz Tryz.func162 rfl
theorem Ank (n:Nd)(hne:n.kids≠[])(hl:n.kids.length≤1000000000):Pure X 168 [nd n] (nd (Cm n)):=by
 have hpos:0<n.kids.length:=List.length_pos_iff.2 hne
 have hw1:IntKind.i64.wrap (((Ak n.kids).length:Int)-1)=((n.kids.length-1:Nat):Int):=by rw [Ae];exact (Ac (by omega) (by omega)).trans (by omega)
 obtain ⟨lst,hlst⟩:=Aa n.kids (i:=n.kids.length-1) (by omega)
 have hL:Cm n=lst:=by rw [Cm,List.getLastD_eq_getLast?,List.getLast?_eq_getElem?,hlst];rfl
 rw [hL]
 refine Pure.run Tryz.func168 ?_
 refine AK.as_ 8 (vi (n.kids.length-1:Nat)) ?_ (A3 hw1)
 refine AK.ix ((n.kids.length-1:Nat):Int) (by omega) (by rw [Int.toNat_natCast];exact Ao hlst) ?_
 exact AK.rz Tryz.func168 rfl
theorem AK.rbsl {f:FuncId}{fn:Func}{F:B3}{bx:List (List (List AV))}{b c:Nat}{l:List Nd}{k:List Item}(hf:X.P.funcs[f]?=some fn)(hb:bx[b]?=some (rB l c))(hl:l.length≤1000000000)(h:Lu X F ⟨bx,[]⟩ fn.results.toList=some [.bsl b l.length]:=by rfl) :
 AK X ⟨f,fn,0,0⟩ (.code .ret::k) F ⟨bx,[]⟩ fun e S'=>e=.ret (.sl (Ak l) .no)∧S'=⟨[],[]⟩:=by
 refine AK.retZ (B:=⟨f,fn,0,0⟩) hf h 0 (Nat.le_refl _) (r:=.sl (Ak l) .no) ?_ (fun rows hr=>by simp at hr) ⟨rfl,rfl⟩
 have hget:∀ (i:Nat) (r:List AV),(Ak l)[i]?=some r→(rB l c)[i]?=some r:=fun i r h=>by rw [List.getElem?_append_left (Ad h)];exact h
 refine .bsl b l.length (rB l c) (Ak l) (Nat.zero_le _) hb (by rw [Af5];omega) (by unfold Nh;omega) (Ae l) (fun i r r' h1 h2=>?_) (fun i j r r' x y h1 h2 h3 h4=>?_)
 ·rw [hget i r' h2] at h1;cases h1;rfl
 ·rw [hget i r' h2] at h1;cases h1
  rw [h3] at h4;cases h4
  refine .same x ((inferInstance:OKR 0 0 (Ak l)).ok r (List.mem_of_getElem? h2) x (List.mem_of_getElem? h3))
theorem Adv (x:Nd)(k:Int):Pure X 224 [nd x,.cptr [vi k]] (vb (!(x.kind==k))):=by
 refine Pure.run Tryz.func224 ?_
 exact AK.rz Tryz.func224 rfl
theorem Ajr (f:FuncId)(caps:List AV) [hok:OKL 0 0 caps](hcat:∀ xs,Iv xs caps=some (xs++caps)):Pure X 222 [.sl [] .no,.fn f caps] (.sl [] .no):=by
 have hi:Pure X 225 [.sl [] .no,.fn f caps] (vi (-1)):=Xw [] f caps (fun _=>true) (by simp) (fun x hx=>by cases hx) hcat
 refine Pure.run Tryz.func222 ?_
 refine AK.pc hi ?_
 refine AK.yes ?_
 exact AK.rz Tryz.func222 rfl
def J5 (n:Nd)(k:Int):List Nd:=n.kids.dropLast.filter fun x=>x.kind==k
theorem Ov (n:Nd)(k:Int)(hne:n.kids≠[])(hl:n.kids.length≤1000000000):Pure X 163 [nd n,vi k] (.sl (Ak (J5 n k)) .no):=by
 have hd:=Ah0 n hne hl
 have hdl:n.kids.dropLast.length≤1000000000:=by rw [List.length_dropLast];omega
 refine Pure.mk Tryz.func163 rfl rfl (by kernel_rfl) ?_
 refine AK.evj 0 100 rfl ?_
 refine AK.ev 2 rfl ?_
 refine AK.op (Ndo.boxC (x:=vi k)) ?_
 refine AK.pc hd ?_
 by_cases h0:n.kids.dropLast=[]
 ·have hK:J5 n k=[]:=by rw [J5,h0];rfl
  rw [hK,h0]
  refine AK.pc Ann ?_
  refine AK.pc (Ajr 224 [.cptr [vi k]] (Alh _)) ?_
  exact AK.rz Tryz.func163 rfl
 ·refine AK.fr (Aq0 n.kids.dropLast h0 hdl) (fun rows ⟨c,hr⟩=>by subst hr;exact (inferInstance:OKR 0 0 (rB n.kids.dropLast c)).ok) (fun rows ⟨c,hr⟩=>?_)
  subst hr
  have hD:=Ai4 n.kids.dropLast c 224 [.cptr [vi k]] (fun x=>!(x.kind==k)) hdl (fun x _=>Adv x k) (Alh _)
  have hfe:(n.kids.dropLast.filter fun x=>!(!(x.kind==k)))=J5 n k:=by simp only [Bool.not_not];rfl
  rw [hfe] at hD
  refine AK.ev 100 rfl ?_
  refine AK.hc [1] [] hD ?_
  refine AK.rbsl Tryz.func163 (b:=1) rfl (Nat.le_trans (List.length_filter_le _ _) hdl)
def Gq (k:Int):Int:=if k=2∨k=21∨k=23∨k=26 then 31 else if k=3∨k=4∨k=22 then 32 else 0
theorem Arh (n:Nd):Pure X 269 [nd n] (vi (Gq n.kind)):=by
 refine Pure.run Tryz.func269 ?_
 repeat' (refine AK.if_ (fun _=>?_) (fun _=>?_))
 all_goals first | refine AK.rt Tryz.func269 ?_ | (refine AK.yes ?_;refine AK.rt Tryz.func269 ?_)
 all_goals (simp_all [Gq,B1])
theorem Adx (s:List UInt8):Pure X 166 [str s] (.fn 226 [.cptr [str s]]):=by
 refine Pure.mk Tryz.func166 rfl rfl (by kernel_rfl) ?_
 refine AK.evj 0 100 rfl ?_
 refine AK.ev 1 rfl ?_
 refine AK.op (Ndo.boxC (x:=str s)) ?_
 exact AK.rz Tryz.func166 rfl
theorem Zt (x:Nd)(s:List UInt8):Pure X 226 [nd x,.cptr [str s]] (vb (x.name==s)):=by
 refine Pure.run Tryz.func226 ?_
 exact AK.rz Tryz.func226 rfl
def R1 (l:List Nd)(s:List UInt8):Int:=Hy (fun d=>d.name==s) 0 l
mutual
def J6 (hit:Nd→Bool):Nd→Option (List UInt8)
 | .mk k s m ks=>if hit (.mk k s m ks) then some s else Rw hit ks
def Rw (hit:Nd→Bool):List Nd→Option (List UInt8)
 | []=>none
 | x::l=>match J6 hit x with
   | some s=>some s
   | none=>Rw hit l
end
theorem Qq (hit:Nd→Bool)(n:Nd):J6 hit n=if hit n then some n.name else Rw hit n.kids:=by cases n;rw [J6];rfl
def trC (code:Int)(o:Option (List UInt8)):Int:=match o with
 | some _=>code
 | none=>0
abbrev trV (code:Int)(o:Option (List UInt8)):AV:=.agg [vi (trC code o),str (o.getD [])]
set_option maxHeartbeats 1000000 in
theorem Ah2 (l:List Nd)(code:Int)(hc:code≠0)(g:FuncId)(caps:List AV)(hit:Nd→Bool)(Q:Nd→Prop)(hl:l.length≤1000000000) [hok:OKL 0 0 caps](hcat:∀ xs,Iv xs caps=some (xs++caps))
 (hQ:∀ x,Q x→(Gq x.kind=0→hit x=false)∧(Gq x.kind≠0→Pure X g (vi (Gq x.kind)::vi (R1 l x.name)::caps) (vb (hit x)))∧∀ k,k∈x.kids→hit x=false→Q k)(n:Nd)(hn:Ai n≤1000000000)(hq:Q n) :
 Pure X 227 [.sl (Ak l) .no,nd n,vi code,.fn g caps] (trV code (J6 hit n)):=by
 have hok2:OKL 2 0 caps:=⟨fun x hx=>(hok.ok x hx).mono (by omega) (by omega)⟩
 have hfl:Kj X.P 150=some [0,1]:=by kernel_rfl
 induction n using Nd.ind with
 | h n ih =>
   have hcn:=Bu n
   have hll:=A9 n.kids
   obtain ⟨hq0,hq1,hq2⟩:=hQ n hq
   have hloop:hit n=false→AK X ⟨227,Tryz.f227,0,0⟩ (Gl false 4 Tryz.f227) [(0,.sl (Ak l) .no),(2,vi code),(3,.fn g caps),(5,.ptr 0 0 0),(8,.ptr 1 0 0)] ⟨[[Af n],[[vi 0,str []]]],[]⟩
    (fun e S=>e=.ret (trV code (J6 hit n))∧S=⟨[],[]⟩):=fun hf=>by
    rw [Qq,if_neg (by simp [hf])]
    refine AK.at_ ?_
    refine AK.ev 100 rfl ?_
    refine AK.while_ (ι:=Nat) 2 0 (fun i=>i≤n.kids.length∧Rw hit n.kids=Rw hit (n.kids.drop i)) (fun i=>[(34,vi i),(33,vi n.kids.length),(32,.sl (Ak n.kids) .no),(0,.sl (Ak l) .no),(2,vi code),(3,.fn g caps),(5,.ptr 0 0 0),(8,.ptr 1 0 0)])
     (fun _=>⟨[[Af n],[[vi 0,str []]]],[]⟩) (fun i=>n.kids.length-i) ?_ 0 ⟨Nat.zero_le _,rfl⟩ ⟨rfl,by rw [← Ae n.kids];rfl,rfl,rfl,rfl,rfl,rfl,rfl,trivial⟩
    rintro i ⟨hi,hTi⟩ IH
    refine AK.ei (fun h=>?_) (fun h=>?_)
    ·have hlt:i<n.kids.length:=by have:=of_decide_eq_true h;omega
     obtain ⟨x,hx⟩:=Aa n.kids hlt
     have hm:=List.mem_of_getElem? hx
     rw [An hx] at hTi
     simp only [Rw] at hTi
     refine AK.ix i (by omega) (Ao hx) ?_
     refine AK.pc (ih x hm (by have:=Dm hm;omega) (hq2 x hm hf)) ?_
     generalize J6 hit x=o at hTi ⊢
     refine AK.op (Kr (r:=!((trC code o==0)&&((o.getD []==[])&&true))) rfl rfl rfl rfl rfl hfl rfl (.inr ⟨rfl,rfl⟩)) ?_
     cases o with
     | some s =>
       simp only at hTi
       refine AK.yes ?_ (ht:=by simp [trC,hc])
       refine AK.rz Tryz.func227 ?_
       rw [hTi]
     | none =>
       simp only at hTi
       refine AK.no ?_
       exact IH (i+1) ⟨hlt,hTi⟩ (by omega) _ _ ⟨vsx (by omega),rfl,rfl,rfl,rfl,rfl,rfl,rfl,trivial⟩ rfl rfl rfl
    ·have hie:i=n.kids.length:=by have:=of_decide_eq_false h;omega
     rw [hie,List.drop_length] at hTi
     refine AK.rz Tryz.func227 ?_
     rw [hTi];rfl
   refine Pure.run Tryz.func227 ?_
   refine AK.pc (Arh n) ?_
   refine AK.gd (fun h1=>?_) (fun h1=>?_)
   ·have h1':Gq n.kind≠0:=by have:(!(Gq n.kind==0))=true:=h1;simpa using this
    refine AK.pc (Adx n.name) ?_
    refine AK.pc (Xw l 226 [.cptr [str n.name]] (fun d=>d.name==n.name) hl (fun x _=>Zt x n.name) (Alh _)) ?_
    refine AK.pc (hq1 h1') ?_ (hzs:=hcat _)
    refine AK.ifj 0 4 (fun h2=>?_) (fun h2=>?_)
    ·have h2':hit n=true:=h2
     rw [Qq,if_pos h2']
     exact AK.rz Tryz.func227 rfl
    ·exact AK.back' 2 0 (hloop h2) ⟨rfl,rfl,rfl,rfl,rfl,trivial⟩ rfl rfl rfl rfl rfl
   ·have h1':Gq n.kind=0:=by have:(!(Gq n.kind==0))=false:=h1;simpa using this
    refine AK.ifj (e:=false) 0 4 (fun h2=>nomatch h2) (fun _=>?_)
    exact AK.back' 2 0 (hloop (hq0 h1')) ⟨rfl,rfl,rfl,rfl,rfl,trivial⟩ rfl rfl rfl rfl rfl
def J7 (l:List Nd)(x:Nd):Bool:=!(Gq x.kind==0)&&decide (R1 l x.name<0)
def Ra (l:List Nd)(x:Nd):Bool:=!(Gq x.kind==0)&&!((l.getD (R1 l x.name).toNat B8).kind==Gq x.kind)
theorem Anv (a b:Int):Pure X 228 [vi a,vi b] (vb (decide (b<0))):=by
 refine Pure.run Tryz.func228 ?_
 exact AK.rz Tryz.func228 rfl
theorem Anw (l:List Nd)(a b:Int)(h0:0≤b)(h1:b<l.length):Pure X 229 [vi a,vi b,.cptr [.sl (Ak l) .no]] (vb (!((l.getD b.toNat B8).kind==a))):=by
 obtain ⟨x,hx⟩:=Aa l (i:=b.toNat) (by omega)
 have:l.getD b.toNat B8=x:=by simp [List.getD,hx]
 rw [this]
 refine Pure.run Tryz.func229 ?_
 refine AK.ix b h0 (Ao hx) ?_
 exact AK.rz Tryz.func229 rfl
theorem Ahb {p:Nd→Bool}:∀ {l:List Nd}{i:Nat},Hy p i l<((i+l.length:Nat):Int)
 | [],i=>by simp only [Hy];omega
 | x::l,i=>by
   simp only [Hy,List.length_cons]
   split
   ·omega
   ·have:=Ahb (p:=p) (l:=l) (i:=i+1)
    omega
def Xm (l:List Nd)(n:Nd):Int × List UInt8:=match J6 (J7 l) n with
 | some s=>(7,s)
 | none=>(trC 8 (J6 (Ra l) n),(J6 (Ra l) n).getD [])
theorem Uc {hit:Nd→Bool}:∀ {l:List Nd},Rw hit l=none→∀ x,x∈l→J6 hit x=none
 | [],_,x,hx=>by cases hx
 | y::l,h,x,hx=>by
   simp only [Rw] at h
   split at h
   ·cases h
   ·rename_i hy
    rcases List.mem_cons.1 hx with rfl | hx
    ·exact hy
    ·exact Uc h x hx
theorem Abx (l:List Nd)(n:Nd)(hl:l.length≤1000000000)(hn:Ai n≤1000000000):Pure X 167 [.sl (Ak l) .no,nd n] (.agg [vi (Xm l n).1,str (Xm l n).2]):=by
 have hfl:Kj X.P 150=some [0,1]:=by kernel_rfl
 have h7:=Ah2 l 7 (by decide) 228 [] (J7 l) (fun _=>True) hl Atr (fun x _=>⟨fun h=>by simp [J7,h],fun h=>by
  have:J7 l x=decide (R1 l x.name<0):=by simp [J7,h]
  rw [this];exact Anv _ _,fun _ _ _=>trivial⟩) n hn trivial
 have h8:J6 (J7 l) n=none→Pure X 227 [.sl (Ak l) .no,nd n,vi 8,.fn 229 [.cptr [.sl (Ak l) .no]]] (trV 8 (J6 (Ra l) n)):=fun h0 =>
  Ah2 l 8 (by decide) 229 [.cptr [.sl (Ak l) .no]] (Ra l) (fun x=>J6 (J7 l) x=none) hl (Alh _) (fun x hx=>by
   rw [Qq] at hx
   have hx7:J7 l x=false:=by
    cases h:J7 l x with
    | false=>rfl
    | true=>rw [h] at hx;simp at hx
   rw [hx7] at hx
   refine ⟨fun h=>by simp [Ra,h],fun h=>?_,fun k hk _=>Uc (by simpa using hx) k hk⟩
   have:Ra l x=!((l.getD (R1 l x.name).toNat B8).kind==Gq x.kind):=by simp [Ra,h]
   rw [this]
   have hlt:=Ahb (p:=fun d=>d.name==x.name) (l:=l) (i:=0)
   have h0:¬ R1 l x.name<0:=by
    intro hh
    simp [J7,h,hh] at hx7
   exact Anw l _ _ (by omega) (by simpa [R1] using hlt)) n hn h0
 unfold Xm
 refine Pure.mk Tryz.func167 rfl rfl (by kernel_rfl) ?_
 refine AK.evj 0 100 rfl ?_
 refine AK.ev 1 rfl ?_
 refine AK.op (Ndo.boxC (x:=.sl (Ak l) .no)) ?_
 refine AK.pc h7 ?_
 generalize J6 (J7 l) n=o at h8 ⊢
 refine AK.op (Kr (r:=!((trC 7 o==0)&&((o.getD []==[])&&true))) rfl rfl rfl rfl rfl hfl rfl (.inr ⟨rfl,rfl⟩)) ?_
 cases o with
 | some s =>
   refine AK.yes ?_
   exact AK.rz Tryz.func167 rfl
 | none =>
   refine AK.no ?_
   refine AK.pc (h8 rfl) ?_
   exact AK.rz Tryz.func167 rfl
inductive PlO:Nd→Prop where
 | mk (k:Int) (s:List UInt8) (m:Int) (ks:List Nd) (hk:∀ x,x∈ks→PlO x)
    (hf:∀ x,x∈ks→x.kind=26→∃ a b k' s' m' l,x.kids=[a,b,.mk k' s' m' l]∧a.kind≠26∧b.kind≠26∧k'≠26):PlO (.mk k s m ks)
theorem PlO.kids {n:Nd}(h:PlO n):(∀ x,x∈n.kids→PlO x)∧∀ x,x∈n.kids→x.kind=26→∃ a b k' s' m' l,x.kids=[a,b,.mk k' s' m' l]∧a.kind≠26∧b.kind≠26∧k'≠26:=by
 cases h with | mk k s m ks hk hf=>exact ⟨hk,hf⟩
theorem PlO.leaf {k:Int}{s:List UInt8}{m:Int}:PlO (.mk k s m []):=.mk k s m [] (fun x h=>by cases h) (fun x h=>by cases h)
theorem Rt {n:Nd}(h:FE n):PlO n:=by
 induction h with
 | num m h0 h1=>exact .leaf
 | var s h=>exact .leaf
 | cell s a h ha ih=>exact .mk _ _ _ _ (fun x hx=>by simp at hx;subst hx;exact ih) (fun x hx h26=>by simp at hx;subst hx;have:=Bt ha;omega)
 | len s h=>exact .leaf
 | neg a ha ih=>exact .mk _ _ _ _ (fun x hx=>by simp at hx;subst hx;exact ih) (fun x hx h26=>by simp at hx;subst hx;have:=Bt ha;omega)
 | two k a b hk ha hb iha ihb =>
   exact .mk _ _ _ _ (fun x hx=>by simp at hx;rcases hx with rfl | rfl;exact iha;exact ihb) (fun x hx h26=>by
    simp at hx
    rcases hx with rfl | rfl
    ·have:=Bt ha;omega
    ·have:=Bt hb;omega)
theorem Pb {n:Nd}(h:FC n):PlO n:=by
 cases h with
 | mk k a b h0 h1 ha hb =>
   exact .mk _ _ _ _ (fun x hx=>by simp at hx;rcases hx with rfl | rfl;exact Rt ha;exact Rt hb) (fun x hx h26=>by
    simp at hx
    rcases hx with rfl | rfl
    ·have:=Bt ha;omega
    ·have:=Bt hb;omega)
theorem M1 {l:List Nd}(hl:∀ x,x∈l→FS x)(h:∀ x,x∈l→PlO x):PlO (.mk 30 [] 0 l) :=
 .mk _ _ _ _ h fun x hx h26=>by
  have:=hl x hx
  cases this with
  | for_ s a b l' hs ha hb hl'=>exact ⟨a,b,30,[],0,l',rfl,by have:=Bt ha;omega,by have:=Bt hb;omega,by omega⟩
  | _=>simp at h26
theorem Aan {n:Nd}(h:FS n):PlO n:=by
 induction h with
 | set s a h ha=>exact .mk _ _ _ _ (fun x hx=>by simp at hx;subst hx;exact Rt ha) (fun x hx h26=>by simp at hx;subst hx;have:=Bt ha;omega)
 | put s a b h ha hb =>
   exact .mk _ _ _ _ (fun x hx=>by simp at hx;rcases hx with rfl | rfl;exact Rt ha;exact Rt hb) (fun x hx h26=>by
    simp at hx
    rcases hx with rfl | rfl
    ·have:=Bt ha;omega
    ·have:=Bt hb;omega)
 | read s h=>exact .leaf
 | ifs c l l' hc hl hl' ihl ihl' =>
   exact .mk _ _ _ _ (fun x hx=>by simp at hx;rcases hx with rfl | rfl | rfl;exact Pb hc;exact M1 hl ihl;exact M1 hl' ihl') (fun x hx h26=>by
    simp at hx
    rcases hx with rfl | rfl | rfl
    ·have:=G7 hc;omega
    ·simp at h26
    ·simp at h26)
 | whil c l hc hl ihl =>
   exact .mk _ _ _ _ (fun x hx=>by simp at hx;rcases hx with rfl | rfl;exact Pb hc;exact M1 hl ihl) (fun x hx h26=>by
    simp at hx
    rcases hx with rfl | rfl
    ·have:=G7 hc;omega
    ·simp at h26)
 | for_ s a b l h ha hb hl ihl =>
   exact .mk _ _ _ _ (fun x hx=>by simp at hx;rcases hx with rfl | rfl | rfl;exact Rt ha;exact Rt hb;exact M1 hl ihl) (fun x hx h26=>by
    simp at hx
    rcases hx with rfl | rfl | rfl
    ·have:=Bt ha;omega
    ·have:=Bt hb;omega
    ·simp at h26)
 | check c hc=>exact .mk _ _ _ _ (fun x hx=>by simp at hx;subst hx;exact Pb hc) (fun x hx h26=>by simp at hx;subst hx;have:=G7 hc;omega)
 | skip=>exact .leaf
 | stop=>exact .leaf
theorem Ate {n:Nd}(h:FP n):PlO n:=by
 cases h with
 | mk ds l hd hl =>
   refine .mk _ _ _ _ (fun x hx=>?_) (fun x hx h26=>?_)
   ·rcases List.mem_append.1 hx with h | h
    ·cases hd x h with
     | var s h=>exact .leaf
     | arr s m h h0 h1=>exact .leaf
    ·simp at h;subst h;exact M1 hl fun x hx=>Aan (hl x hx)
   ·rcases List.mem_append.1 hx with h | h
    ·have:=V1 (hd x h);omega
    ·simp at h;subst h;simp at h26
abbrev Ap1 (s:List UInt8):Nd:=.mk 21 s 0 [.mk 6 [] 0 [.mk 2 s 0 [],.mk 1 [] 1 []]]
def HPl (n:Nd):Prop:=Hands X 56 [nd n] ⟨[],[]⟩ (.agg [vi n.kind,str n.name,vi n.num,.sl (Ak (Bb n.kids)) (.tok 0)]) ⟨[],[(Bb n.kids).length]⟩
theorem HPl.pure {n:Nd}(h:HPl n):Pure X 56 [nd n] (nd (Aw n)):=by
 have:=Hands.pure h
 obtain ⟨k,s,m,ks⟩:=n
 rw [A6]
 exact this
theorem An7 (xs:List UInt8)(a' b':Nd)(k':Int)(s':List UInt8)(m':Int)(l':List Nd):Ak [.mk 21 xs 0 [a'],.mk 25 [] 0 [.mk 11 [] 0 [.mk 2 xs 0 [],b'],.mk k' s' m' l']] =
 [[vi 21,str xs,vi 0,.sl [Af a'] .no],[vi 25,str [],vi 0,.sl [[vi 11,str [],vi 0,.sl [[vi 2,str xs,vi 0,.sl [] .no],Af b'] .no],[vi k',str s',vi m',.sl (Ak l') .no]] .no]]:=by
 have e1:Ak [a']=[Af a']:=Al _
 have e2:Ak [.mk 2 xs 0 [],b']=[Af (.mk 2 xs 0 []),Af b']:=Al _
 have e3:Ak [.mk 11 [] 0 [.mk 2 xs 0 [],b'],.mk k' s' m' l']=[Af (.mk 11 [] 0 [.mk 2 xs 0 [],b']),Af (.mk k' s' m' l')]:=Al _
 have e4:Ak [.mk 21 xs 0 [a'],.mk 25 [] 0 [.mk 11 [] 0 [.mk 2 xs 0 [],b'],.mk k' s' m' l']]=[Af (.mk 21 xs 0 [a']),Af (.mk 25 [] 0 [.mk 11 [] 0 [.mk 2 xs 0 [],b'],.mk k' s' m' l'])]:=Al _
 rw [e4]
 simp only [Af,J0,Qv,Uu,Ec,e1,e3,e2]
 rfl
set_option maxHeartbeats 2000000 in
theorem Al6 (n:Nd)(ih:∀ x,x∈n.kids→PlO x→wN x≤1000000000→HPl x)(ih2:∀ x,x∈n.kids→∀ y,y∈x.kids→PlO y→wN y≤1000000000→HPl y)(hp:PlO n)(hw:wN n≤1000000000):HPl n:=by
 have hkl:=Ei n
 obtain ⟨hk,hf⟩:=hp.kids
 unfold HPl
 refine Hands.run Tryz.func56 ?_
 refine AK.mintB 2 0 3 rfl rfl rfl rfl rfl rfl ?_
 refine AK.while_ (ι:=Nat) 3 1 (fun i=>i≤n.kids.length) (fun i=>[(20,vi i),(19,vi n.kids.length),(18,.sl (Ak n.kids) .no),(1,.ptr 0 0 0),(2,.ptr 1 0 0),(3,.ptr 2 0 0)])
  (fun i=>⟨[[Af n],[zN],[[vi n.kind,str n.name,vi n.num,.sl (Ak (Bb (n.kids.take i))) (.tok 0)]]],[(Bb (n.kids.take i)).length]⟩) (fun i=>n.kids.length-i) ?_ 0
  (Nat.zero_le _) ⟨rfl,by rw [← Ae n.kids];rfl,rfl,rfl,rfl,rfl,trivial⟩ (by simp [A0];rfl)
 intro i hi IH
 refine AK.ei (fun h=>?_) (fun h=>?_)
 ·have hlt:i<n.kids.length:=by have:=of_decide_eq_true h;omega
  obtain ⟨x,hxg⟩:=Aa n.kids hlt
  have hm:=List.mem_of_getElem? hxg
  have hwx:wN x<wN n:=Gp hm
  have hsn:Bb (n.kids.take (i+1))=Bb (n.kids.take i)++Er x:=by rw [List.take_add_one,hxg,P3];simp [Au,A0]
  have hl1:=Jo (Bb (n.kids.take i))
  have hl2:=Qy (n.kids.take i)
  have hwk:wL n.kids≤wN n:=by rw [Rr];omega
  have hl3:wL (n.kids.take i)≤wL n.kids:=by
   have:=Qd (n.kids.take i) (n.kids.drop i)
   rw [List.take_append_drop] at this;omega
  refine AK.ix i (by omega) (Ao hxg) ?_
  refine AK.ifj 0 8 (fun h2=>?_) (fun h2=>?_)
  ·have h2':x.kind≠26:=by have:(!(x.kind==26))=true:=h2;simpa using this
   have hr:=(ih x hm (hk x hm) (by omega)).pure
   rw [A8 h2'] at hsn
   refine AK.dn 160 3 ?_
   refine Ax hr ?_
   refine Drv.w (Ndo.append (res:=Ak (Bb (n.kids.take (i+1)))) rfl rfl rfl rfl rfl rfl rfl rfl rfl rfl rfl rfl rfl rfl (Ae _) (C3 _) rfl rfl rfl ?_ ?_ rfl) ?_
   ·rw [Ae];simp;omega
   ·rw [hsn,Al,Al,List.map_append];rfl
   refine Drv.e ?_
   refine Drv.w (Ndo.store rfl rfl rfl rfl rfl rfl rfl) ?_
   refine Drv.z ?_
   refine IH (i+1) hlt (by omega) _ _ ⟨vsx (by omega),rfl,rfl,rfl,rfl,rfl,trivial⟩ ?_ rfl rfl
   simp [St.drop,Ae,hsn]
  ·have h2':x.kind=26:=by have:(!(x.kind==26))=false:=h2;simpa using this
   obtain ⟨a,b,k',s',m',l,hkx,ha,hb,hc⟩:=hf x hm h2'
   obtain ⟨xk,xs,xm,xks⟩:=x
   simp only [J0,Ec] at h2' hkx
   subst h2';subst hkx
   have hpx:=hk _ hm
   have ma:a∈(Nd.mk 26 xs xm [a,b,.mk k' s' m' l]).kids:=by simp
   have mb:b∈(Nd.mk 26 xs xm [a,b,.mk k' s' m' l]).kids:=by simp
   have mc:Nd.mk k' s' m' l∈(Nd.mk 26 xs xm [a,b,.mk k' s' m' l]).kids:=by simp
   have wa:=Gp ma
   have wb:=Gp mb
   have wc:=Gp mc
   have ra:=(ih2 _ hm a ma (hpx.kids.1 a ma) (by omega)).pure
   have rb:=(ih2 _ hm b mb (hpx.kids.1 b mb) (by omega)).pure
   have rc:=ih2 _ hm _ mc (hpx.kids.1 _ mc) (by omega)
   have hlc:=Jo (Bb l)
   have hlc2:=Qy l
   have hlc3:wL l≤1000000000:=by
    have:=Rr (Nd.mk k' s' m' l)
    simp only [Ec] at this
    omega
   have hp1:Er (.mk 26 xs xm [a,b,.mk k' s' m' l])=[.mk 21 xs 0 [Aw a],.mk 25 [] 0 [.mk 11 [] 0 [.mk 2 xs 0 [],Aw b],.mk k' s' m' (Bb l++[Ap1 xs])]]:=by
    rw [Jr,Au,Au,Au,A0,A8 ha,A8 hb,A8 (x:=.mk k' s' m' l) hc,A6 k'];rfl
   rw [hp1] at hsn
   refine AK.wkB 4 0 3 (.sl [] .no) ?_
   refine AK.evj 9 100 rfl ?_
   refine AK.wkB 5 0 3 (.sl (Ak [.mk 2 xs 0 [],.mk 1 [] 1 []]) .no) ?_
   refine AK.ev 100 rfl ?_
   refine AK.ix 2 (by omega) (rows:=Ak [a,b,.mk k' s' m' l]) (r:=Af (.mk k' s' m' l)) rfl ?_
   refine AK.hc (τ':=[1]) [] [] rc ?_
   refine AK.wk 53 ?_
   refine AK.op (Ndo.append (res:=Ak (Bb l++[Ap1 xs])) rfl rfl rfl rfl rfl rfl rfl rfl rfl rfl rfl rfl rfl rfl (Ae _) (C3 _) rfl rfl rfl ?_ ?_ rfl) ?_
   ·rw [Ae];simp;omega
   ·show Ak (Bb l)++Ak [Ap1 xs]=_
    rw [Us]
   refine AK.dn 768 3 ?_
   refine Drv.ig 1 (by omega) (Yq a b _) ?_
   refine Ax rb ?_
   refine En (Lw rfl rfl rfl) ?_ ?_
   ·exact A1 (Ndo.ev rfl rfl rfl) (A1 (Ndo.ev rfl rfl rfl) (A1 (Ndo.ev rfl rfl rfl) G8))
   refine Drv.w (Ndo.store rfl rfl rfl rfl rfl rfl rfl) ?_
   refine Aek 12 ?_
   refine AK.wkB 7 0 3 (.sl [[vi 2,str xs,vi 0,.sl [] .no],Af (Aw b)] .no) ?_
   refine AK.dn 327680 6 ?_
   refine Drv.ig 0 (by omega) (Rh a _) ?_
   refine Drv.pc ra ?_
   refine Bm 6 ?_
   refine Rs ?_
   refine Drv.w (Ndo.append (res:=Ak (Bb (n.kids.take (i+1)))) rfl rfl rfl rfl rfl rfl rfl rfl rfl rfl rfl rfl rfl rfl (Ae _) (C3 _) rfl rfl rfl ?_ ?_ rfl) ?_
   ·rw [Ae];simp;omega
   ·rw [hsn,Us (Bb (n.kids.take i)),An7];rfl
   refine Drv.e ?_
   refine Drv.w (Ndo.store rfl rfl rfl rfl rfl rfl rfl) ?_
   refine Drv.z ?_
   refine IH (i+1) hlt (by omega) _ _ ⟨vsx (by omega),rfl,rfl,rfl,rfl,rfl,trivial⟩ ?_ rfl rfl
   show St.mk [[Af n],[zN],[[vi n.kind,str n.name,vi n.num,.sl (Ak (Bb (n.kids.take (i+1)))) (.tok 0)]]] [(Ak (Bb (n.kids.take i))).length+2]=_
   rw [Ae,hsn];simp
 ·have hie:i=n.kids.length:=by have:=of_decide_eq_false h;omega
  subst hie
  rw [List.take_length]
  exact AK.ret Tryz.func56 rfl rfl rfl rfl
theorem Al5 (n:Nd)(hp:PlO n)(hw:wN n≤1000000000):HPl n:=by
 have:∀ n:Nd,(PlO n→wN n≤1000000000→HPl n)∧∀ y,y∈n.kids→PlO y→wN y≤1000000000→HPl y:=by
  intro n
  induction n using Nd.ind with
  | h n ih=>exact ⟨Al6 n (fun x hx=>(ih x hx).1) (fun x hx y hy=>(ih x hx).2 y hy),fun y hy=>(ih y hy).1⟩
 exact (this n).1 hp hw
theorem Zx (n:Nd)(hp:PlO n)(hw:wN n≤1000000000):Pure X 56 [nd n] (nd (Aw n)):=(Al5 n hp hw).pure
theorem PrI.get {n:Nd}(h:PrI n):-9223372036854775808≤n.num∧n.num≤9223372036854775807∧∀ x,x∈n.kids→PrI x:=by
 cases h with | mk k s m ks h0 h1 hk=>exact ⟨h0,h1,hk⟩
theorem PrI.num1 {k:Int}{s:List UInt8}{m:Int}{ks:List Nd}(h0:0≤m)(h1:m≤1)(hk:∀ x,x∈ks→PrI x):PrI (.mk k s m ks):=.mk k s m ks (by omega) (by omega) hk
theorem Anh {x:Nd}(h:PrI x):∀ y,y∈[x]→PrI y:=fun y hy=>by simp at hy;subst hy;exact h
theorem Abv {a b:Nd}(ha:PrI a)(hb:PrI b):∀ y,y∈[a,b]→PrI y:=fun y hy=>by
 simp at hy
 rcases hy with rfl | rfl
 ·exact ha
 ·exact hb
theorem Au3 (s:List UInt8):PrI (Ap1 s):=.num1 (by omega) (by omega) (Anh (.num1 (by omega) (by omega) (Abv (.num1 (by omega) (by omega) (fun x h=>by cases h)) (.num1 (by omega) (by omega) (fun x h=>by cases h)))))
theorem Aqw (s:List UInt8)(l:List Nd)(h:∀ x,x∈l→PrI x):∀ y,y∈Aa7 s l→PrI y:=by
 unfold Aa7
 split
 ·rename_i a b k' s' m' l'
  have ha:=h a (by simp)
  have hb:=h b (by simp)
  have hc:=(h (.mk k' s' m' l') (by simp)).get
  refine Abv (.num1 (by omega) (by omega) (Anh ha)) (.num1 (by omega) (by omega) (Abv (.num1 (by omega) (by omega) (Abv (.num1 (by omega) (by omega) (fun x h=>by cases h)) hb)) (.mk k' s' m' _ hc.1 hc.2.1 fun x hx=>?_)))
  rcases List.mem_append.1 hx with hx | hx
  ·exact hc.2.2 x hx
  ·simp at hx;subst hx;exact Au3 s
 ·intro y hy;cases hy
theorem Ani:(∀ n:Nd,PrI n→PrI (Aw n)∧∀ y,y∈Er n→PrI y)∧∀ l:List Nd,(∀ x,x∈l→PrI x)→∀ y,y∈Bb l→PrI y:=by
 refine Sj (fun k s m ks ih hp=>?_) (fun _ y hy=>by rw [A0] at hy;cases hy) (fun x l hx hl hp y hy=>?_)
 ·have hg:=hp.get
  have h1:PrI (Aw (.mk k s m ks)):=by rw [A6];exact .mk k s m _ hg.1 hg.2.1 (ih hg.2.2)
  refine ⟨h1,fun y hy=>?_⟩
  by_cases hk:k=26
  ·subst hk
   rw [Jr] at hy
   exact Aqw s _ (ih hg.2.2) y hy
  ·rw [A8 (x:=.mk k s m ks) hk] at hy
   simp at hy;subst hy;exact h1
 ·rw [Au] at hy
  rcases List.mem_append.1 hy with hy | hy
  ·exact (hx (hp x (by simp))).2 y hy
  ·exact hl (fun z hz=>hp z (by simp [hz])) y hy
theorem PrI.plain {n:Nd}(h:PrI n):PrI (Aw n):=(Ani.1 n h).1
theorem Aed:∀ {l:List Nd}{pre:List (List UInt8)},twG pre l=none→(∀ d,d∈l→has pre d.name=false)∧∀ x,x∈l→∀ y,y∈l→x.name=y.name→x=y
 | [],pre,_=>⟨fun d h=>(by cases h),fun x h _ _ _=>(by cases h)⟩
 | d::l,pre,h=>by
   simp only [twG] at h
   split at h
   ·cases h
   ·rename_i hd
    obtain ⟨h1,h2⟩:=Aed h
    have h3:∀ e,e∈l→has pre e.name=false∧d.name≠e.name:=fun e he=>by
     have:=h1 e he
     rw [Abh,Bool.or_eq_false_iff] at this
     refine ⟨this.1,fun hh=>?_⟩
     have:=this.2
     simp [has,hh] at this
    refine ⟨fun e he=>?_,fun x hx y hy hxy=>?_⟩
    ·rcases List.mem_cons.1 he with rfl | he
     ·simpa using hd
     ·exact (h3 e he).1
    ·rcases List.mem_cons.1 hx with rfl | hx<;>rcases List.mem_cons.1 hy with rfl | hy
     ·rfl
     ·exact absurd hxy (h3 y hy).2
     ·exact absurd hxy.symm (h3 x (by assumption)).2
     ·exact h2 x hx y hy hxy
theorem Qt (l:List Nd)(k:Int)(s:List UInt8):has (C9 l k) s=l.any fun d=>(d.kind==k)&&(d.name==s):=by
 induction l with
 | nil=>rfl
 | cons d l ih =>
   simp only [C9,has,List.filter_cons] at ih ⊢
   by_cases h:(d.kind==k)=true
   ·rw [if_pos h];simp only [List.map_cons,List.any_cons,h,Bool.true_and,ih]
   ·rw [if_neg h]
    have h':(d.kind==k)=false:=by simpa using h
    simp only [List.any_cons,h',Bool.false_and,Bool.false_or,ih]
theorem Ac8 (l:List Nd)(s:List UInt8):decide (R1 l s<0)=!(l.any fun d=>d.name==s):=by
 rw [← Tb _ l 0]
 show decide (R1 l s<0)=!decide (R1 l s≥0)
 by_cases h:R1 l s<0
 ·rw [decide_eq_true h,decide_eq_false (show ¬ R1 l s≥0 by omega)];rfl
 ·rw [decide_eq_false h,decide_eq_true (show R1 l s≥0 by omega)];rfl
theorem Se (k:Int):(Gq k=31∧Hr k=1)∨(Gq k=32∧Hr k=2)∨(Gq k=0∧Hr k=0):=by
 unfold Gq Hr
 repeat' split
 all_goals simp
theorem Al9 {l:List Nd}(hk:∀ d,d∈l→d.kind=31∨d.kind=32)(s:List UInt8):(l.any fun d=>d.name==s)=(has (C9 l 31) s||has (C9 l 32) s):=by
 rw [Qt,Qt]
 induction l with
 | nil=>rfl
 | cons d l ih =>
   simp only [List.any_cons]
   rw [ih fun e he=>hk e (by simp [he])]
   rcases hk d (by simp) with h | h<;>simp [h]
   ·cases (d.name==s)<;>simp
   ·cases (d.name==s)<;>simp [Bool.or_comm,Bool.or_left_comm]
theorem Apq {l:List Nd}(hk:∀ d,d∈l→d.kind=31∨d.kind=32)(x:Nd):J7 l x=H5 (C9 l 31) (C9 l 32) 7 x.kind x.name:=by
 unfold J7 H5
 rw [Ac8,Al9 hk,Pr,Pr]
 rcases Se x.kind with ⟨h1,h2⟩ | ⟨h1,h2⟩ | ⟨h1,h2⟩<;>simp [h1,h2]
theorem Ap0 {p:Nd→Bool}{l:List Nd}(h:(l.any p)=true):∃ d,d∈l∧p d=true∧l.getD (Hy p 0 l).toNat B8=d:=by
 have h0:Hy p 0 l≠-1:=by
  intro e
  have:=Tb p l 0
  rw [h,e] at this
  simp at this
 obtain ⟨j,d,h1,h2,h3,_⟩:=Uh h0
 refine ⟨d,List.mem_of_getElem? h2,h3,?_⟩
 rw [h1]
 simp [List.getD,h2]
theorem Apr {l:List Nd}(hk:∀ d,d∈l→d.kind=31∨d.kind=32)(hu:∀ x,x∈l→∀ y,y∈l→x.name=y.name→x=y)(x:Nd)(h7:J7 l x=false):Ra l x=H5 (C9 l 31) (C9 l 32) 8 x.kind x.name:=by
 unfold J7 at h7
 unfold Ra H5
 rw [Ac8] at h7
 rw [Pr,Pr,Qt,Qt]
 by_cases hw:Gq x.kind=0
 ·rcases Se x.kind with ⟨h1,h2⟩ | ⟨h1,h2⟩ | ⟨h1,h2⟩<;>simp [h1,h2]<;>omega
 ·have ha:(l.any fun d=>d.name==x.name)=true:=by
   simp [hw] at h7
   simpa using h7
  obtain ⟨d,hd,hn,hg⟩:=Ap0 ha
  have hn':d.name=x.name:=by simpa using hn
  have one:∀ k:Int,(l.any fun e=>(e.kind==k)&&(e.name==x.name))=(d.kind==k):=fun k=>by
   cases hdk:(d.kind==k) with
   | true=>exact List.any_eq_true.2 ⟨d,hd,by simp [hdk,hn']⟩
   | false =>
     rw [List.any_eq_false]
     intro e he hh
     simp at hh
     have:=hu e he d hd (by rw [hh.2,hn'])
     subst this
     simp at hdk
     exact hdk hh.1
  have hgk:(l.getD (R1 l x.name).toNat B8).kind=d.kind:=by rw [R1,hg]
  rw [one,one,hgk]
  rcases Se x.kind with ⟨h1,h2⟩ | ⟨h1,h2⟩ | ⟨h1,h2⟩<;>rcases hk d hd with h3 | h3<;>simp [h1,h2,h3]
def oV (o:Option (List UInt8)):List UInt8 × Bool:=match o with
 | some s=>(s,true)
 | none=>([],false)
theorem Awj {l:List Nd}(hk:∀ d,d∈l→d.kind=31∨d.kind=32):(∀ n:Nd,E7 (C9 l 31) (C9 l 32) 7 n=oV (J6 (J7 l) n))∧∀ ks:List Nd,Mu (C9 l 31) (C9 l 32) 7 ks=oV (Rw (J7 l) ks):=by
 refine Sj (fun k s m ks ih=>?_) rfl (fun x ks hx hl=>?_)
 ·rw [U8,Qq,Apq hk]
  by_cases hh:H5 (C9 l 31) (C9 l 32) 7 (Nd.mk k s m ks).kind (Nd.mk k s m ks).name=true
  ·rw [if_pos hh,if_pos hh];rfl
  ·rw [if_neg hh,if_neg hh];exact ih
 ·simp only [Mu,Rw]
  rw [hx]
  cases J6 (J7 l) x with
  | some s=>rfl
  | none=>simp [oV];exact hl
theorem Awk {l:List Nd}(hk:∀ d,d∈l→d.kind=31∨d.kind=32)(hu:∀ x,x∈l→∀ y,y∈l→x.name=y.name→x=y) :
 (∀ n:Nd,J6 (J7 l) n=none→E7 (C9 l 31) (C9 l 32) 8 n=oV (J6 (Ra l) n))∧∀ ks:List Nd,Rw (J7 l) ks=none→Mu (C9 l 31) (C9 l 32) 8 ks=oV (Rw (Ra l) ks):=by
 refine Sj (fun k s m ks ih h0=>?_) (fun _=>rfl) (fun x ks hx hl h0=>?_)
 ·rw [Qq] at h0
  have h7:J7 l (.mk k s m ks)=false:=by
   cases h:J7 l (.mk k s m ks) with
   | false=>rfl
   | true=>rw [h] at h0;simp at h0
  rw [h7] at h0
  rw [U8,Qq,Apr hk hu _ h7]
  by_cases hh:H5 (C9 l 31) (C9 l 32) 8 (Nd.mk k s m ks).kind (Nd.mk k s m ks).name=true
  ·rw [if_pos hh,if_pos hh];rfl
  ·rw [if_neg hh,if_neg hh];exact ih (by simpa using h0)
 ·have h1:=Uc h0 x (by simp)
  have h2:Rw (J7 l) ks=none:=by simp only [Rw,h1] at h0;exact h0
  simp only [Mu,Rw]
  rw [hx h1]
  cases J6 (Ra l) x with
  | some s=>rfl
  | none=>simp [oV];exact hl h2
theorem Anm (x:Nd):Pure X 165 [nd x] (vb (decide (60<x.num))):=by
 refine Pure.run Tryz.func165 ?_
 exact AK.rz Tryz.func165 rfl
theorem L5 (n:Nd)(k:Int):(J5 n k).length=(Aq n k).length:=by simp [J5,Aq,C9]
theorem Aez {n:Nd}(hd:∀ d,d∈n.kids.dropLast→FV d):((J5 n 32).any fun d=>decide (60<d.num))=bigS n.kids.dropLast:=by
 unfold J5 bigS
 rw [Bool.eq_iff_iff]
 simp only [List.any_eq_true,List.mem_filter,decide_eq_true_eq,beq_iff_eq]
 constructor
 ·rintro ⟨d,⟨h1,_⟩,h3⟩;exact ⟨d,h1,h3⟩
 ·rintro ⟨d,h1,h3⟩
  refine ⟨d,⟨h1,?_⟩,h3⟩
  have:=hd d h1
  cases this with
  | var s h=>simp at h3
  | arr s m h h0 h1=>rfl
theorem Akn {n:Nd}(h:FP n):n.kids≠[]∧∀ d,d∈n.kids.dropLast→FV d:=by
 cases h with
 | mk ds l hd hl=>exact ⟨by simp,by simpa using hd⟩
def P4 (n:Nd):Nd:=if (Dd n).1=0 then Aw n else B8
set_option maxHeartbeats 1000000 in
theorem Aqz (n:Nd)(hn:Ai n≤1000000000)(hnum:PrI n):Pure X 104 [nd n] (.tup [nd (P4 n),.agg [vi (Dd n).1,str (Dd n).2]]):=by
 have hfl:Kj X.P 150=some [0,1]:=by kernel_rfl
 refine Pure.run Tryz.func104 ?_
 refine AK.pc (Ad0 n hn hnum) ?_
 refine AK.if_ (fun h1=>?_) (fun h1=>?_)
 ·have h1':Cc n=false:=by have:(!Cc n)=true:=h1;simpa using this
  have hC:Dd n=(4,[]):=by unfold Dd;rw [if_neg (by simp [h1'])]
  unfold P4
  rw [hC]
  exact AK.rz Tryz.func104 rfl
 have h1':Cc n=true:=by have:(!Cc n)=false:=h1;simpa using this
 obtain ⟨fp,hc,hdp⟩:=Ot h1'
 obtain ⟨hkn,hFV⟩:=Akn fp
 have hw9:wN n≤4500:=by
  have:=U7 n (T3 fp)
  omega
 have hcn:=Bu n
 have hll:=A9 n.kids
 have hdl:n.kids.dropLast.length≤1000:=by rw [List.length_dropLast];omega
 have hkind:∀ d,d∈n.kids.dropLast→d.kind=31∨d.kind=32:=fun d hd=>V1 (hFV d hd)
 have hfK:∀ k,(J5 n k).length≤1000:=fun k=>Nat.le_trans (List.length_filter_le _ _) hdl
 have e0:Dd n=Dd n:=rfl
 conv at e0=>rhs;rw [Dd,if_pos h1']
 refine AK.dn 0 1 ?_
 refine Ax (Ah0 n hkn (by omega)) ?_
 refine Ax (Ov n 32 hkn (by omega)) ?_
 refine Drv.z ?_
 refine AK.pc (Ov n 31 hkn (by omega)) ?_
 refine AK.gd (fun h2=>?_) (fun h2=>?_)
 ·have h2':8<(Aq n 31).length:=by have:=of_decide_eq_true h2;rw [Ae,L5] at this;omega
  have hC:Dd n=(3,[]):=by rw [e0,if_pos (by simp [Pw,h2'])]
  refine AK.gy ?_
  refine AK.yes ?_
  unfold P4
  rw [hC]
  exact AK.rz Tryz.func104 rfl
 have h2':¬ 8<(Aq n 31).length:=by have:=of_decide_eq_false h2;rw [Ae,L5] at this;omega
 refine AK.gd (fun h3=>?_) (fun h3=>?_)
 ·have h3':4<(Aq n 32).length:=by have:=of_decide_eq_true h3;rw [Ae,L5] at this;omega
  have hC:Dd n=(3,[]):=by rw [e0,if_pos (by simp [Pw,h3'])]
  refine AK.yes ?_
  unfold P4
  rw [hC]
  exact AK.rz Tryz.func104 rfl
 have h3':¬ 4<(Aq n 32).length:=by have:=of_decide_eq_false h3;rw [Ae,L5] at this;omega
 have hmany:¬ Pw n=true:=by simp [Pw]<;>omega
 rw [if_neg hmany] at e0
 have hbig:=P5 (J5 n 32) 165 [] (fun d=>decide (60<d.num)) (by have:=hfK 32;omega) (fun x _=>Anm x) Atr
 rw [Aez hFV] at hbig
 refine AK.pc hbig ?_
 refine AK.if_ (fun h4=>?_) (fun h4=>?_)
 ·have h4':bigS n.kids.dropLast=true:=h4
  have hC:Dd n=(3,[]):=by rw [e0,if_pos h4']
  unfold P4
  rw [hC]
  exact AK.rz Tryz.func104 rfl
 have h4':¬ bigS n.kids.dropLast=true:=by have:bigS n.kids.dropLast=false:=h4;simp [this]
 rw [if_neg h4'] at e0
 have htw:∀ i,twG ((n.kids.dropLast.take i).map Nd.name) (n.kids.dropLast.drop i)=twG [] n.kids.dropLast→True:=fun _ _=>trivial
 refine AK.while_ (ι:=Nat) 3 0 (fun i=>i≤n.kids.dropLast.length∧twG ((n.kids.dropLast.take i).map Nd.name) (n.kids.dropLast.drop i)=twG [] n.kids.dropLast)
  (fun i=>[(36,vi i),(35,vi n.kids.dropLast.length),(34,.sl (Ak n.kids.dropLast) .no),(4,.sl (Ak n.kids.dropLast) .no),(1,.ptr 0 0 0),(2,.ptr 1 0 0),(3,.ptr 2 0 0)])
  (fun i=>⟨[[Af n],[zN],[[vi 0,str []]]],[]⟩) (fun i=>n.kids.dropLast.length-i) ?_ 0 ⟨Nat.zero_le _,rfl⟩ ⟨rfl,by rw [← Ae n.kids.dropLast];rfl,rfl,rfl,rfl,rfl,rfl,trivial⟩ rfl rfl rfl rfl rfl
  (fun _=>inferInstance) (fun _=>inferInstance)
 rintro i ⟨hi,hT⟩ IH
 refine AK.ei (fun h5=>?_) (fun h5=>?_)
 ·have hlt:i<n.kids.dropLast.length:=by have:=of_decide_eq_true h5;omega
  obtain ⟨d,hd⟩:=Aa n.kids.dropLast hlt
  rw [An hd] at hT
  simp only [twG] at hT
  have hin:((Ak n.kids.dropLast).take i).drop 0=Ak (n.kids.dropLast.take i):=by rw [Al,Al,List.drop_zero,List.map_take]
  have hany:((n.kids.dropLast.take i).any fun e=>e.name==d.name)=has ((n.kids.dropLast.take i).map Nd.name) d.name:=by rw [has,List.any_map];rfl
  refine AK.ix i (by omega) (Ao hd) ?_
  refine AK.dn 0 2 ?_
  refine Aej (fun S'=>Qi (l:=0) (h:=(i:Int)) (r:=Ak (n.kids.dropLast.take i)) rfl rfl rfl rfl rfl rfl rfl rfl rfl (by omega) (by omega) (by rw [Ae];omega) (C3 _) (by rw [Int.toNat_natCast];exact hin)) ?_
  refine Ax (Adx d.name) ?_
  refine Ax (P5 (n.kids.dropLast.take i) 226 [.cptr [str d.name]] (fun e=>e.name==d.name) (by rw [List.length_take];omega) (fun x _=>Zt x d.name) (Alh _)) ?_
  refine Drv.z ?_
  refine AK.if_ (fun h6=>?_) (fun h6=>?_)
  ·have h6':has ((n.kids.dropLast.take i).map Nd.name) d.name=true:=by rw [← hany];exact h6
   rw [if_pos h6'] at hT
   have hC:Dd n=(6,d.name):=by rw [e0,← hT]
   refine AK.dn 48 4 ?_
   refine En (Ndo.store rfl rfl rfl rfl rfl rfl rfl) ?_ ?_
   ·exact A1 (Ndo.ev rfl rfl rfl) G8
   refine Drv.w (Ndo.store rfl rfl rfl rfl rfl rfl rfl) ?_
   refine Drv.z ?_
   unfold P4
   rw [hC]
   exact AK.rz Tryz.func104 rfl
  ·have h6':¬ has ((n.kids.dropLast.take i).map Nd.name) d.name=true:=by rw [← hany];simp [show _=false from h6]
   rw [if_neg h6'] at hT
   exact IH (i+1) ⟨hlt,by rw [List.take_add_one,hd,List.map_append];exact hT⟩ (by omega) _ _ ⟨vsx (by omega),rfl,rfl,rfl,rfl,rfl,rfl,trivial⟩ rfl rfl rfl
 have hie:i=n.kids.dropLast.length:=by have:=of_decide_eq_false h5;omega
 rw [hie,List.drop_length] at hT
 have hT':twG [] n.kids.dropLast=none:=hT.symm
 rw [hT'] at e0
 simp only at e0
 obtain ⟨_,huq⟩:=Aed hT'
 have w7:=(Awj hkind).1 (Cm n)
 have w8:=(Awk hkind huq).1 (Cm n)
 have hdS:∀ k,Aq n k=C9 n.kids.dropLast k:=fun k=>rfl
 rw [hdS,hdS,w7] at e0
 have hlc:Ai (Cm n)≤1000:=by
  unfold Cm
  cases hg:n.kids.getLast? with
  | none=>rw [List.getLastD_eq_getLast?,hg];decide
  | some b =>
    rw [List.getLastD_eq_getLast?,hg]
    have:=Dm (List.mem_of_getLast? hg)
    simp only [Option.getD_some];omega
 refine AK.pc (Ank n hkn (by omega)) ?_
 refine AK.pc (Abx n.kids.dropLast (Cm n) (by omega) (by omega)) ?_
 have hnt:Xm n.kids.dropLast (Cm n)=match J6 (J7 n.kids.dropLast) (Cm n) with
  | some s=>(7,s)
  | none=>(trC 8 (J6 (Ra n.kids.dropLast) (Cm n)),(J6 (Ra n.kids.dropLast) (Cm n)).getD []):=rfl
 generalize Xm n.kids.dropLast (Cm n)=T at hnt ⊢
 refine AK.op (Kr (r:=!((T.1==0)&&((T.2==[])&&true))) rfl rfl rfl rfl rfl hfl rfl (.inr ⟨rfl,rfl⟩)) ?_
 by_cases hz:J6 (J7 n.kids.dropLast) (Cm n)=none∧J6 (Ra n.kids.dropLast) (Cm n)=none
 ·rw [hz.1,hz.2] at hnt
  rw [w8 hz.1,hz.1,hz.2] at e0
  simp only [oV,trC] at hnt e0
  subst hnt
  refine AK.no ?_
  refine AK.pc (Zx n (Ate fp) (by omega)) ?_
  have hpw:=(Mf n).1
  have hpc:=Lf (Aw n)
  refine AK.pc (Ad0 (Aw n) (by omega) hnum.plain) ?_
  refine AK.if_ (fun h7=>?_) (fun h7=>?_)
  ·have h7':Cc (Aw n)=false:=by have:(!Cc (Aw n))=true:=h7;simpa using this
   have hC:Dd n=(5,[]):=by rw [e0];simp [h7']
   unfold P4
   rw [hC]
   exact AK.rz Tryz.func104 rfl
  ·have h7':Cc (Aw n)=true:=by have:(!Cc (Aw n))=false:=h7;simpa using this
   have hC:Dd n=(0,[]):=by rw [e0];simp [h7']
   unfold P4
   rw [hC]
   exact AK.rz Tryz.func104 rfl
 ·have hC:Dd n=T∧T.1≠0:=by
   cases h7:J6 (J7 n.kids.dropLast) (Cm n) with
   | some s =>
     rw [h7] at hnt e0
     simp only [oV] at e0
     rw [hnt,e0];simp
   | none =>
     rw [w8 h7] at e0
     rw [h7] at hnt e0
     cases h8:J6 (Ra n.kids.dropLast) (Cm n) with
     | none=>exact absurd ⟨h7,h8⟩ hz
     | some s =>
       rw [h8] at hnt e0
       simp only [oV,trC] at e0 hnt
       rw [hnt,e0];simp
  obtain ⟨hC,hC0⟩:=hC
  refine AK.yes ?_ (ht:=by simp [hC0])
  refine AK.dn 12 2 ?_
  refine En (Ndo.store rfl rfl rfl rfl rfl rfl rfl) ?_ ?_
  ·exact A1 (Ndo.ev rfl rfl rfl) G8
  refine Drv.w (Ndo.store rfl rfl rfl rfl rfl rfl rfl) ?_
  refine Drv.z ?_
  unfold P4
  rw [hC,if_neg hC0]
  exact AK.rz Tryz.func104 rfl
structure Eg where
 f:Int
 t:Int
 k:Int
 y:Bool
 n:Nd
structure Lp where
 a:Nd
 l:Nd
 h:Int
 x:Int
structure Gr where
 pts:Nat
 pt:Nat
 es:List Eg
 sts:List Nat
 lps:List Lp
 ver:Nat
def O1 (g:Gr):Gr:={ g with es:=g.es++[⟨g.pt,-1,7,false,B8⟩],sts:=g.sts++[g.es.length],pts:=g.pts+1,pt:=g.pts }
def C2 (k:Int)(n:Nd)(g:Gr):Gr:={ g with es:=g.es++[⟨g.pt,g.pts,k,false,n⟩],pts:=g.pts+1,pt:=g.pts }
def Dw (p:Nat)(c:Nd)(y:Bool)(g:Gr):Gr:={ g with es:=g.es++[⟨p,g.pts,4,y,c⟩],pts:=g.pts+1,pt:=g.pts }
def I0 (f t:Nat)(g:Gr):Gr:={ g with es:=g.es++[⟨f,t,6,false,B8⟩] }
def M6 (p:Nat)(g:Gr):Gr:={ I0 g.pt g.pts (I0 p g.pts g) with pts:=g.pts+1,pt:=g.pts }
def gIf (c:Nd)(f1 f2:Gr→Gr)(g:Gr):Gr:=M6 (f1 (Dw g.pt c true g)).pt (f2 (Dw g.pt c false (f1 (Dw g.pt c true g))))
def Gd (a n:Nd)(g:Gr):Gr:={ g with lps:=g.lps++[⟨a,n,g.pt,0⟩],ver:=g.ver+1 }
def Vm (i:Nat)(g:Gr):Gr:={ g with lps:=g.lps.modify i fun l=>{ l with x:=g.pt },ver:=g.ver+1 }
def Ko (h:Nat)(g:Gr):Gr:=I0 g.pt h g
def gWh (n a c:Nd)(f:Gr→Gr)(g:Gr):Gr :=
 Vm g.lps.length (Dw g.pts c false (Ko g.pts (f (Dw g.pts c true (Gd a n (C2 6 B8 g))))))
def gKs (k:Int)(n:Nd)(ks:List Nd)(fs:List (Gr→Gr))(a:Nd)(g:Gr):Gr :=
 if k=21 then C2 1 n g else if k=22 then C2 2 n g else if k=23 then C2 3 n g else if k=27 then C2 5 (ks.headD B8) g else if k=28 then C2 6 B8 g
 else if k=29 then O1 g else if k=24 then gIf (ks.headD B8) (fs.getD 1 id) (fs.getD 2 id) g else gWh n a (ks.headD B8) (fs.getD 1 id) g
def goL:List (Nd × (Nd→Gr→Gr) × (Gr→Gr))→Nd→Gr→Gr
 | [],_,g=>g
 | (x,f,_)::l,a,g=>goL l x (f a g)
mutual
def gN:Nd→Nd × (Nd→Gr→Gr) × (Gr→Gr)
 | .mk k s m ks=>(.mk k s m ks,gKs k (.mk k s m ks) ks ((gNs ks).map fun x=>x.2.2),goL (gNs ks) B8)
def gNs:List Nd→List (Nd × (Nd→Gr→Gr) × (Gr→Gr))
 | []=>[]
 | x::l=>gN x::gNs l
end
def gS (n a:Nd)(g:Gr):Gr:=(gN n).2.1 a g
def gL:List Nd→Nd→Gr→Gr
 | [],_,g=>g
 | x::l,a,g=>gL l x (gS x a g)
theorem O0 (k:Int)(s:List UInt8)(m:Int)(ks:List Nd):gN (.mk k s m ks)=(.mk k s m ks,gKs k (.mk k s m ks) ks ((gNs ks).map fun x=>x.2.2),goL (gNs ks) B8):=by rw [gN]
theorem Apn (x:Nd):(gN x).1=x:=by obtain ⟨k,s,m,ks⟩:=x;rw [O0]
theorem M7 (x:Nd)(l:List Nd):gNs (x::l)=gN x::gNs l:=by rw [gNs]
theorem Aba:gNs []=[]:=by rw [gNs]
theorem Abf:∀ (l:List Nd)(a:Nd)(g:Gr),goL (gNs l) a g=gL l a g
 | [],a,g=>by rw [Aba];rfl
 | x::l,a,g=>by
   rw [M7]
   have h:gN x=(x,(gN x).2):=Prod.ext (Apn x) rfl
   rw [h]
   simp only [goL,gL,gS]
   exact Abf l x _
theorem Aa9 (x:Nd)(l:List Nd)(a:Nd)(g:Gr):gL (x::l) a g=gL l x (gS x a g):=rfl
theorem Alz:∀ (l l':List Nd)(a:Nd)(g:Gr),gL (l++l') a g=gL l' (l.getLastD a) (gL l a g)
 | [],l',a,g=>rfl
 | x::l,l',a,g=>by simp only [List.cons_append,Aa9];rw [Alz l l' x];cases l<;>simp [gL,List.getLastD]
theorem Abc (s:List UInt8)(ks:List Nd)(a:Nd)(g:Gr):gS (.mk 21 s 0 ks) a g=C2 1 (.mk 21 s 0 ks) g:=by unfold gS;rw [O0];rfl
theorem Abb (s:List UInt8)(ks:List Nd)(a:Nd)(g:Gr):gS (.mk 22 s 0 ks) a g=C2 2 (.mk 22 s 0 ks) g:=by unfold gS;rw [O0];rfl
theorem V5 (s:List UInt8)(ks:List Nd)(a:Nd)(g:Gr):gS (.mk 23 s 0 ks) a g=C2 3 (.mk 23 s 0 ks) g:=by unfold gS;rw [O0];rfl
theorem S9 (c a:Nd)(g:Gr):gS (.mk 27 [] 0 [c]) a g=C2 5 c g:=by unfold gS;rw [O0];rfl
theorem V6 (a:Nd)(g:Gr):gS (.mk 28 [] 0 []) a g=C2 6 B8 g:=by unfold gS;rw [O0];rfl
theorem V7 (a:Nd)(g:Gr):gS (.mk 29 [] 0 []) a g=O1 g:=by unfold gS;rw [O0];rfl
theorem Ag5 (c a:Nd)(l l':List Nd)(g:Gr):gS (.mk 24 [] 0 [c,.mk 30 [] 0 l,.mk 30 [] 0 l']) a g=gIf c (gL l B8) (gL l' B8) g:=by
 unfold gS
 rw [O0,M7,M7,M7,Aba,O0 30,O0 30,funext fun g=>Abf l B8 g,funext fun g=>Abf l' B8 g];rfl
theorem Ag6 (c a:Nd)(l:List Nd)(g:Gr):gS (.mk 25 [] 0 [c,.mk 30 [] 0 l]) a g=gWh (.mk 25 [] 0 [c,.mk 30 [] 0 l]) a c (gL l B8) g:=by
 unfold gS
 rw [O0,M7,M7,Aba,O0 30,funext fun g=>Abf l B8 g];rfl
inductive PS:Nd→Prop
 | set (s:List UInt8) (a:Nd) (h:nameS s=true) (ha:FE a):PS (.mk 21 s 0 [a])
 | put (s:List UInt8) (a b:Nd) (h:nameS s=true) (ha:FE a) (hb:FE b):PS (.mk 22 s 0 [a,b])
 | read (s:List UInt8) (h:nameS s=true):PS (.mk 23 s 0 [])
 | ifs (c:Nd) (l l':List Nd) (hc:FC c) (hl:∀ x,x∈l→PS x) (hl':∀ x,x∈l'→PS x):PS (.mk 24 [] 0 [c,.mk 30 [] 0 l,.mk 30 [] 0 l'])
 | whil (c:Nd) (l:List Nd) (hc:FC c) (hl:∀ x,x∈l→PS x):PS (.mk 25 [] 0 [c,.mk 30 [] 0 l])
 | check (c:Nd) (hc:FC c):PS (.mk 27 [] 0 [c])
 | skip:PS (.mk 28 [] 0 [])
 | stop:PS (.mk 29 [] 0 [])
theorem Lm {l:List Nd}(h:∀ x,x∈l→∀ y,y∈Er x→PS y):∀ y,y∈Bb l→PS y:=by
 induction l with
 | nil=>intro y hy;rw [A0] at hy;cases hy
 | cons x l ih =>
   intro y hy
   rw [Au] at hy
   rcases List.mem_append.1 hy with hy | hy
   ·exact h x (by simp) y hy
   ·exact ih (fun z hz=>h z (by simp [hz])) y hy
theorem Qx (l:List Nd):Er (.mk 30 [] 0 l)=[.mk 30 [] 0 (Bb l)]:=by rw [A8 (by simp),A6]
theorem Ka {a:Nd}(h:FE a):Er a=[a]:=by rw [A8 (by have:=Bt h;omega),P2 h]
theorem Xu {a:Nd}(h:FC a):Er a=[a]:=by rw [A8 (by have:=G7 h;omega),Oq h]
theorem Awp {n:Nd}(h:FS n):∀ y,y∈Er n→PS y:=by
 induction h with
 | set s a h ha=>intro y hy;rw [A8 (by simp),A6,Au,A0,Ka ha] at hy;simp at hy;subst hy;exact .set s a h ha
 | put s a b h ha hb=>intro y hy;rw [A8 (by simp),A6,Au,Au,A0,Ka ha,Ka hb] at hy;simp at hy;subst hy;exact .put s a b h ha hb
 | read s h=>intro y hy;rw [A8 (by simp),A6,A0] at hy;simp at hy;subst hy;exact .read s h
 | ifs c l l' hc hl hl' ihl ihl' =>
   intro y hy
   rw [A8 (by simp),A6,Au,Au,Au,A0,Xu hc,Qx,Qx] at hy;simp at hy;subst hy
   exact .ifs c _ _ hc (Lm ihl) (Lm ihl')
 | whil c l hc hl ihl =>
   intro y hy
   rw [A8 (by simp),A6,Au,Au,A0,Xu hc,Qx] at hy;simp at hy;subst hy
   exact .whil c _ hc (Lm ihl)
 | for_ s a b l h ha hb hl ihl =>
   intro y hy
   rw [Jr,Au,Au,Au,A0,Ka ha,Ka hb,Qx] at hy
   simp only [List.cons_append,List.nil_append,Aa7,List.mem_cons,List.not_mem_nil,or_false] at hy
   rcases hy with rfl | rfl
   ·exact .set s a h ha
   ·refine .whil _ _ (.mk 11 _ _ (by omega) (by omega) (.var s h) hb) fun y hy=>?_
    rcases List.mem_append.1 hy with hy | hy
    ·exact Lm ihl y hy
    ·simp at hy;subst hy
     exact .set s _ h (.two 6 _ _ (.inl rfl) (.var s h) (.num 1 (by omega) (by omega)))
 | check c hc=>intro y hy;rw [A8 (by simp),A6,Au,A0,Xu hc] at hy;simp at hy;subst hy;exact .check c hc
 | skip=>intro y hy;rw [A8 (by simp),A6,A0] at hy;simp at hy;subst hy;exact .skip
 | stop=>intro y hy;rw [A8 (by simp),A6,A0] at hy;simp at hy;subst hy;exact .stop
structure Gr.le (g g':Gr)(k:Nat):Prop where
 pts:g.pts≤g'.pts∧g'.pts≤g.pts+4*k
 pt:g'.pt<g'.pts
 es:∃ l,g'.es=g.es++l∧l.length≤4*k∧∀ e,e∈l→(0≤e.f∧e.f<g'.pts)∧(e.t=-1∨(0≤e.t∧e.t<g'.pts))
 lps:∃ l,g'.lps=g.lps++l∧l.length≤k
 ver:g.ver≤g'.ver∧g'.ver≤g.ver+2*k
 sts:∃ l,g'.sts=g.sts++l∧l.length≤k
theorem Gr.le.refl {g:Gr}(h:g.pt<g.pts):g.le g 0:=⟨by omega,h,⟨[],by simp,by simp,fun e he=>by cases he⟩,⟨[],by simp,by simp⟩,by omega,⟨[],by simp,by simp⟩⟩
theorem Gr.le.trans {a b c:Gr}{k l m:Nat}(h:a.le b k)(h':b.le c l)(hm:k+l≤m):a.le c m:=by
 obtain ⟨e1,h1,h2,h3⟩:=h.es
 obtain ⟨e2,h4,h5,h6⟩:=h'.es
 obtain ⟨l1,g1,g2⟩:=h.lps
 obtain ⟨l2,g3,g4⟩:=h'.lps
 obtain ⟨s1,g5,g6⟩:=h.sts
 obtain ⟨s2,g7,g8⟩:=h'.sts
 have:=h.pts
 have:=h'.pts
 have:=h.ver
 have:=h'.ver
 refine ⟨by omega,h'.pt,⟨e1++e2,by rw [h4,h1,List.append_assoc],by simp;omega,fun e he=>?_⟩,⟨l1++l2,by rw [g3,g1,List.append_assoc],by simp;omega⟩,by omega,⟨s1++s2,by rw [g7,g5,List.append_assoc],by simp;omega⟩⟩
 rcases List.mem_append.1 he with he | he
 ·obtain ⟨q1,q2⟩:=h3 e he
  refine ⟨by omega,?_⟩
  rcases q2 with q2 | q2
  ·exact .inl q2
  ·exact .inr (by omega)
 ·exact h6 e he
theorem Gr.le.up {a b:Gr}{k m:Nat}(h:a.le b k)(hm:k≤m):a.le b m:=h.trans (.refl h.pt) (by omega)
theorem J1 (k:Int)(n:Nd){g:Gr}(h:g.pt<g.pts):g.le (C2 k n g) 1 :=
 ⟨by simp [C2],by simp [C2],⟨_,rfl,by simp,fun e he=>by simp at he;subst he;simp [C2];omega⟩,⟨[],by simp [C2],by simp⟩,by simp [C2],⟨[],by simp [C2],by simp⟩⟩
theorem Aru {g:Gr}(h:g.pt<g.pts):g.le (O1 g) 1 :=
 ⟨by simp [O1],by simp [O1],⟨_,rfl,by simp,fun e he=>by simp at he;subst he;simp [O1];omega⟩,⟨[],by simp [O1],by simp⟩,by simp [O1],⟨_,rfl,by simp⟩⟩
theorem Mt (p:Nat)(c:Nd)(y:Bool){g:Gr}(h:p<g.pts):g.le (Dw p c y g) 1 :=
 ⟨by simp [Dw],by simp [Dw],⟨_,rfl,by simp,fun e he=>by simp at he;subst he;simp [Dw];omega⟩,⟨[],by simp [Dw],by simp⟩,by simp [Dw],⟨[],by simp [Dw],by simp⟩⟩
theorem Apj (t:Nat){g:Gr}(h:g.pt<g.pts)(ht:t<g.pts):g.le (Ko t g) 1 :=
 ⟨by simp [Ko,I0],h,⟨_,rfl,by simp,fun e he=>by simp at he;subst he;simp [Ko,I0];omega⟩,⟨[],by simp [Ko,I0],by simp⟩,by simp [Ko,I0],⟨[],by simp [Ko,I0],by simp⟩⟩
theorem Ap4 (p:Nat){g:Gr}(h:g.pt<g.pts)(hp:p<g.pts):g.le (M6 p g) 1 :=
 ⟨by simp [M6,I0],by simp [M6,I0],⟨[⟨p,g.pts,6,false,B8⟩,⟨g.pt,g.pts,6,false,B8⟩],by simp [M6,I0],by simp,fun e he=>by simp at he;rcases he with rfl | rfl<;>simp [M6,I0]<;>omega⟩,⟨[],by simp [M6,I0],by simp⟩,by simp [M6,I0],⟨[],by simp [M6,I0],by simp⟩⟩
theorem Abo (a n:Nd){g:Gr}(h:g.pt<g.pts):g.le (Gd a n g) 1 :=
 ⟨by simp [Gd],h,⟨[],by simp [Gd],by simp,fun e he=>by cases he⟩,⟨_,rfl,by simp⟩,by simp [Gd],⟨[],by simp [Gd],by simp⟩⟩
theorem Xl {α:Type}(l l':List α)(f:α→α):(l++l').modify l.length f=l++l'.modify 0 f:=by
 apply List.ext_getElem?
 intro j
 rw [List.getElem?_modify]
 rcases Nat.lt_or_ge j l.length with h | h
 ·rw [List.getElem?_append_left h,List.getElem?_append_left h]
  simp [show l.length≠j by omega]
 ·rw [List.getElem?_append_right h,List.getElem?_append_right h,List.getElem?_modify]
  by_cases hj:l.length=j
  ·simp [hj]
  ·simp [hj,show ¬ 0=j-l.length by omega]
theorem Apl {g g':Gr}{k:Nat}(h:g.le g' k):g.le (Vm g.lps.length g') (k+1):=by
 obtain ⟨l,h1,h2⟩:=h.lps
 obtain ⟨e,h3,h4,h5⟩:=h.es
 obtain ⟨s,h6,h7⟩:=h.sts
 have:=h.pts
 have:=h.ver
 exact ⟨by simp only [Vm];omega,h.pt,⟨e,by simp only [Vm];exact h3,by omega,h5⟩,⟨l.modify 0 fun x=>{ x with x:=g'.pt },by simp only [Vm];rw [h1,Xl],by simp;omega⟩,by simp only [Vm];omega,⟨s,by simp only [Vm];exact h6,by omega⟩⟩
abbrev bG (k:Nat):Nat:=6*k
theorem Ag3 {l:List Nd}(h:∀ x,x∈l→∀ (a:Nd)(g:Gr),g.pt<g.pts→g.le (gS x a g) (bG (wN x))):∀ (a:Nd)(g:Gr),g.pt<g.pts→g.le (gL l a g) (bG (wL l)):=by
 induction l with
 | nil=>intro a g hp;exact (Gr.le.refl hp).up (by simp [wL])
 | cons x l ih =>
   intro a g hp
   rw [Aa9]
   have h1:=h x (by simp) a g hp
   exact h1.trans (ih (fun y hy=>h y (by simp [hy])) x _ h1.pt) (by simp only [wL,bG];omega)
theorem Aw4 {c:Nd}{f1 f2:Gr→Gr}{k1 k2:Nat}(h1:∀ g:Gr,g.pt<g.pts→g.le (f1 g) k1)(h2:∀ g:Gr,g.pt<g.pts→g.le (f2 g) k2){g:Gr}(hp:g.pt<g.pts):g.le (gIf c f1 f2 g) (k1+k2+3):=by
 unfold gIf
 have a1:=Mt g.pt c true hp
 have a2:=h1 _ a1.pt
 have a12:=a1.trans a2 (Nat.le_refl _)
 have hp2:g.pt<(f1 (Dw g.pt c true g)).pts:=Nat.lt_of_lt_of_le hp a12.pts.1
 have a3:=Mt g.pt c false hp2
 have a4:=h2 _ a3.pt
 have a34:=a3.trans a4 (Nat.le_refl _)
 have hq:(f1 (Dw g.pt c true g)).pt<(f2 (Dw g.pt c false (f1 (Dw g.pt c true g)))).pts:=Nat.lt_of_lt_of_le a2.pt a34.pts.1
 exact (a12.trans a34 (Nat.le_refl _)).trans (Ap4 _ a4.pt hq) (by omega)
theorem Ax0 {n a c:Nd}{f:Gr→Gr}{k:Nat}(h1:∀ g:Gr,g.pt<g.pts→g.le (f g) k){g:Gr}(hp:g.pt<g.pts):g.le (gWh n a c f g) (k+6):=by
 unfold gWh
 have a1:=J1 6 B8 hp
 have a2:=Abo a n a1.pt
 have a12:=a1.trans a2 (Nat.le_refl _)
 have hh:g.pts<(Gd a n (C2 6 B8 g)).pts:=by simp [Gd,C2]
 have a3:=Mt g.pts c true hh
 have a4:=h1 _ a3.pt
 have a34:=a3.trans a4 (Nat.le_refl _)
 have hh2:=Nat.lt_of_lt_of_le hh a34.pts.1
 have a5:=Apj g.pts a4.pt hh2
 have hh3:=Nat.lt_of_lt_of_le hh2 a5.pts.1
 have a6:=Mt g.pts c false hh3
 exact (Apl ((a12.trans a34 (Nat.le_refl _)).trans (a5.trans a6 (Nat.le_refl _)) (Nat.le_refl _))).up (by omega)
theorem Awt {n:Nd}(h:PS n):∀ (a:Nd)(g:Gr),g.pt<g.pts→g.le (gS n a g) (bG (wN n)):=by
 induction h with
 | set s b h hb=>intro a g hp;rw [Abc];exact (J1 _ _ hp).up (by simp only [wN,bG];omega)
 | put s b c h hb hc=>intro a g hp;rw [Abb];exact (J1 _ _ hp).up (by simp only [wN,bG];omega)
 | read s h=>intro a g hp;rw [V5];exact (J1 _ _ hp).up (by simp only [wN,bG];omega)
 | ifs c l l' hc hl hl' ihl ihl'=>intro a g hp;rw [Ag5];exact (Aw4 (Ag3 ihl B8) (Ag3 ihl' B8) hp).up (by simp only [wN,wL,bG,List.length_nil];omega)
 | whil c l hc hl ihl=>intro a g hp;rw [Ag6];exact (Ax0 (Ag3 ihl B8) hp).up (by simp only [wN,wL,bG,List.length_nil];omega)
 | check c hc=>intro a g hp;rw [S9];exact (J1 _ _ hp).up (by simp only [wN,bG];omega)
 | skip=>intro a g hp;rw [V6];exact (J1 _ _ hp).up (by simp only [wN,wL,bG,List.length_nil];omega)
 | stop=>intro a g hp;rw [V7];exact (Aru hp).up (by simp only [wN,wL,bG,List.length_nil];omega)
theorem Ki {l:List Nd}(h:∀ x,x∈l→PS x)(a:Nd)(g:Gr)(hp:g.pt<g.pts):g.le (gL l a g) (bG (wL l)):=Ag3 (fun x hx=>Awt (h x hx)) a g hp
end Go.V
namespace Go.V
open Go
section
variable {X:Cx}{B:Bx}{E E':Env}{S S':St}{w w':World}{F F':B3}{a:Act}{N:Nat}{R:AE→St→Prop}{ops:Array Oper}{i:Nat}{o:Oper}{p q:Operand}
theorem Wl (hI:Inv X E S w){t v:Nat}{k:Tk}(hk:E.toks[t]?=some k)(hS:S.toks[t]?=some v):v=k.len:=by
 have h1:=hI.nt
 have h2:(E.toks.map Tk.len)[t]?=some k.len:=by simp [hk]
 rw [h1,hS] at h2
 exact Option.some.inj h2
theorem Inv.setZ (hI:Inv X E S w){tk:List Nat}(h:Inv X E' ⟨S.boxes,tk⟩ w')(hbx:E'.boxes=E.boxes)(hsame:∀ (i b s:Nat),E.boxes[i]?=some (some (b,s))→w'.heap[b]?=w.heap[b]?){b r j:Nat}{rows:List (List AV)}{cs:List AV}{z z':AV}
 (hb:S.boxes[b]?=some rows)(hr:rows[r]?=some cs)(hc:cs[j]?=some z)(hz:∀ u,Rel E w u z→Rel E' w' u z'):Inv X E' ⟨S.boxes.set b (rows.set r (cs.set j z')),tk⟩ w' :=
 { h with
   nb:=by have:=h.nb;simpa using this
   box:=fun i blk sz rows' h1 h2=>by
    rcases Ep h2 with ⟨rfl,rfl⟩ | ⟨_,h2⟩
    ·have h1o:=h1
     rw [hbx] at h1o
     obtain ⟨arr,e,hh,hs,hl,hrel⟩:=hI.box i blk sz rows h1o hb
     obtain ⟨arr1,e1,hh1,hs1,hl1,hrel1⟩:=h.box i blk sz rows h1 hb
     have:=hsame _ _ _ h1o
     rw [hh,hh1] at this
     cases this
     refine ⟨arr,e,hh1,by simpa using hs,fun q hq=>?_,fun k q p x v hk hp hv=>?_⟩
     ·rcases List.mem_or_eq_of_mem_set hq with hq | rfl
      ·exact hl q hq
      ·simpa using hl cs (List.mem_of_getElem? hr)
     ·rcases Ep hk with ⟨rfl,rfl⟩ | ⟨_,hk⟩
      ·rcases Ep hp with ⟨rfl,rfl⟩ | ⟨_,hp⟩
       ·exact hz v (hrel k cs p _ v hr hc hv)
       ·exact hrel1 k cs p x v hr hp hv
      ·exact hrel1 k q p x v hk hp hv
    ·exact h.box i blk sz rows' h1 h2 }
theorem Ain (hI:Inv X E S w){v:Value}(h:Rel E w v (.sl [] .tight)):Rel (E.mint 0) w v (.psl [] S.toks.length 0):=by
 have hl:S.toks.length=E.toks.length:=by rw [← hI.nt];simp
 cases h with
 | sl _ _ a n cap b o sz vals hn hx ha hsz hm hc hr hs hcap =>
   subst hn
   exact .psl [] _ 0 a _ cap ⟨0,none⟩ sz vals rfl hx hcap (by rw [hl];exact getElem?_snoc_new _ _) (Nat.le_refl _) (fun r hr=>by cases hr) (fun _=>⟨rfl,hs⟩) (fun i j r x h=>by simp at h) (fun r hr=>by cases hr)
theorem AK.mintP {K:List Item}(b r j:Nat){m:Nat}{rows:List (List AV)}{cs:List AV}{bx:List (List (List AV))}{tk:List Nat}(hk:AK X B K F ⟨bx,tk⟩ R)(hb:S.boxes[b]?=some rows:=by rfl)(hr:rows[r]?=some cs:=by rfl)
 (hc:cs[j]?=some (.sl [] .tight):=by rfl)(hn:S.toks.length=m:=by rfl)(hbx:S.boxes.set b (rows.set r (cs.set j (.psl [] m 0)))=bx:=by rfl)(htk:S.toks++[0]=tk:=by rfl):AK X B K F S R:=by
 subst hn;subst hbx;subst htk
 intro E w a b' cs' hI hF hn hm hb'
 have ev:=Kw E w 0
 have nt:E.toks.length=S.toks.length:=by rw [← hI.nt];simp
 exact Fin.from (Steps.refl _ _) (ev.weaken (by rw [hI.nb];exact hn) (by omega)) (hk (E.mint 0) w a b' cs' (hI.setZ (hI.mint 0) rfl (fun _ _ _ _=>rfl) hb hr hc fun u hu=>Ain hI hu) (hF.mint 0) (by simpa using hn) (by simp;omega) hb')
theorem V2 {t e tk v n:Nat}{ik:IntKind}{y ye:Ty}{rows:List (List AV)}(hn:n<rows.length)(hS:S.toks[tk]?=some v)(hl:∀ r,r∈rows→r.length=ye.size)(ho:ops[i]?=some o:=by rfl)(hw:A2 ops F o=some true:=by rfl)
 (hop:o.op=.indexAddr t p q:=by rfl)(hp:Co X F p=some (.psl rows tk v):=by rfl)(hq:Co X F q=some (.val (.int ik n)):=by rfl)(hy:X.ty t=some y:=by rfl)(hyk:y.k=.slc e:=by rfl)(hye:X.ty e=some ye:=by rfl) :
 Ndo X N ops i o F (.pp rows tk v n 0) S S:=by
 refine Ndo.val ho hw fun F' E w a hc hI hF=>?_
 rw [hop] at hc
 have h1:=Ah hI hF ((hc p (by simp [Op.operands])).trans hp)
 have h2:=Ah hI hF ((hc q (by simp [Op.operands])).trans hq)
 obtain ⟨d,hdd,hd2⟩:=(X.ty_ok t y hy).agg
 simp only [hyk] at hd2
 obtain ⟨rfl,ye',hye',hne⟩:=hd2
 rw [hye] at hye';cases hye'
 cases hh2:a.eval q<;>rw [hh2] at h2<;>cases h2
 generalize hh1:a.eval p=u at h1
 have h1':=h1
 cases h1 with
 | psl _ _ _ ad m cap k sz vals hm hx hcap hk hv hsz hpv hr hf =>
   have hpv:=hpv (Wl hI hk hS)
   obtain ⟨kl,ksp⟩:=k
   cases ksp with
   | none=>obtain ⟨h,_⟩:=hpv;omega
   | some q' =>
     obtain ⟨b,c,s⟩:=q'
     obtain ⟨_,rfl,rfl,rfl,_⟩:=hpv
     refine ⟨.pointer (some ⟨b,n*ye.size,none⟩),?_,?_⟩
     ·have hin:(n:Int)<(m:Int):=by omega
      simp [execOp,hop,hh1,hh2,Instr.indexAt,asIntOf,run_underlying hdd,hin,Ch hye,D6]
      intro h;omega
     ·have:=Rel.pp (E:=E) (w:=w) rows tk v n 0 b ye.size m c h1' hn hl
      simpa using this
theorem Ao4 {t tk v j o':Nat}{y:Ty}{r:List AV}{rows:List (List AV)}{x:AV}(hr:rows[j]?=some r)(hS:S.toks[tk]?=some v)(hl:o'+y.size≤r.length)(ho:ops[i]?=some o:=by rfl)(hw:A2 ops F o=some true:=by rfl)
 (hop:o.op=.load t p:=by rfl)(hp:Co X F p=some (.pp rows tk v j o'):=by rfl)(hy:X.ty t=some y:=by rfl)(hx:Yn (Fl y.k) ((r.drop o').take y.size)=some x:=by rfl):Ndo X N ops i o F x S S:=by
 refine Ndo.val ho hw fun F' E w a hc hI hF=>?_
 rw [hop] at hc
 have h1:=Ah hI hF ((hc p (by simp [Op.operands])).trans hp)
 obtain ⟨b,sz,n,cap,hu,hrel,hi,hsz⟩:=h1.pp_inv
 generalize hU:Value.slice (some ⟨b,0,none⟩) n cap=U at hrel
 cases hrel with
 | psl _ _ _ a0 n0 cap0 k sz' vals hm hx hcap hk hv hsz' hpv hrr hf =>
   cases hU
   have hpv:=hpv (Wl hI hk hS)
   obtain ⟨kl,ksp⟩:=k
   cases ksp with
   | none=>obtain ⟨h,_⟩:=hpv;omega
   | some q' =>
     obtain ⟨b',c,s⟩:=q'
     obtain ⟨_,rfl,rfl,hab,arr,e,hh,hcs,hcl⟩:=hpv
     simp only [Option.some.injEq,Addr.mk.injEq,and_true] at hab
     subst hab
     have hrl:=hsz r (List.mem_of_getElem? hr)
     have:sz'=sz:=by rw [← hsz' r (List.mem_of_getElem? hr),hrl]
     subst this
     have hcell:∀ jj,jj<y.size→w.cell? ⟨b,j*sz'+o'+jj,none⟩=some (vals j (o'+jj)):=fun jj hjj=>by
      have:=hcl j (o'+jj) (by omega) (by omega)
      rw [← Nat.add_assoc] at this
      simp only [World.cell?,hh]
      exact this
     refine ⟨_,by simp [execOp,hop,hu,Instr.loadAt,Instr.sureAddr,Pv hy _ hcell],Aa4 (y:=y) (vals:=fun jj=>vals j (o'+jj)) (cs:=(r.drop o').take y.size) (by simp;omega) (fun jj x hx=>?_) ‹_›⟩
     have hj:jj<y.size:=by have:=Ad hx;simp at this;omega
     exact hrr j (o'+jj) r x hr (by simpa [List.getElem?_take,hj] using hx)
end
section
variable {X:Cx}{B:Bx}{E E':Env}{S S':St}{w w':World}{F F':B3}{a:Act}{N:Nat}{R:AE→St→Prop}{ops:Array Oper}{i:Nat}{o:Oper}{p q:Operand}
theorem Ndo.stP {t tk v j o' b r g:Nat}{y:Ty}{x:AV}{xs row cs:List AV}{rows brows:List (List AV)}{bx:List (List (List AV))}{tk':List Nat}(hS:S.toks[tk]?=some v)(hrow:rows[j]?=some row)(hl:o'+xs.length≤row.length)
 (hflat:∀ z,z∈xs→NoT z)(hb:S.boxes[b]?=some brows)(hr:brows[r]?=some cs)(hg:cs[g]?=some (.psl rows tk v))
 (hbx:S.boxes.set b (brows.set r (cs.set g (.psl (rows.set j (row.take o'++xs++row.drop (o'+xs.length))) tk (v+1))))=bx)(htk:S.toks.set tk (v+1)=tk')(ho:ops[i]?=some o)(hw:A2 ops F o=some true)
 (hop:o.op=.store t p q)(hp:Co X F p=some (.pp rows tk v j o'))(hq:Co X F q=some x)(hy:X.ty t=some y)(hxs:cellsOf x=some xs)(hxl:xs.length=y.size):Ndo X N ops i o F .junk S ⟨bx,tk'⟩:=by
 subst hbx;subst htk
 intro F' E w a hlk hI hF
 have hlo:=El hlk
 rw [hop] at hlo
 have r1:=Ah hI hF ((B9 (X:=X) (F:=F) (F':=F') (o:=p) fun s hs=>hlo s (by simp [Op.operands,hs])).trans hp)
 have r2:=Ah hI hF ((B9 (X:=X) (F:=F) (F':=F') (o:=q) fun s hs=>hlo s (by simp [Op.operands,hs])).trans hq)
 generalize hva:a.eval q=u2 at r2
 obtain ⟨blk,sz,n,cap,hu,hrel,hi,hsz⟩:=r1.pp_inv
 obtain ⟨hs,hrx,hone⟩:=Eu r2 hxs
 generalize hU:Value.slice (some ⟨blk,0,none⟩) n cap=U at hrel
 have hrel0:=hrel
 cases hrel with
 | psl _ _ _ a0 n0 cap0 k sz' vals hm hx hcap hk hv hsz' hpv hrr hf =>
   cases hU
   have hcur:=Wl hI hk hS
   have hpv:=hpv hcur
   obtain ⟨kl,ksp⟩:=k
   cases ksp with
   | none=>obtain ⟨h,_⟩:=hpv;omega
   | some q' =>
     obtain ⟨b',c,s⟩:=q'
     obtain ⟨hn0,rfl,rfl,hab,arr,e,hh,hcs,hcl⟩:=hpv
     simp only [Option.some.injEq,Addr.mk.injEq,and_true] at hab
     subst hab
     have hrl:=hsz row (List.mem_of_getElem? hrow)
     have:sz'=sz:=by rw [← hsz' row (List.mem_of_getElem? hrow),hrl]
     subst this
     simp only at hcur
     subst hcur
     have hjl:=Ad hrow
     have hvl:u2.cells.toList.length=xs.length:=by simpa using hs
     have hin:j*sz'+o'+xs.length≤arr.toList.length:=by
      have:(j+1)*sz'≤c*sz':=Nat.mul_le_mul_right sz' (by omega)
      rw [Nat.add_mul,Nat.one_mul] at this
      simp;omega
     have hst:=run_storeCells_at X.P blk (j*sz'+o') e u2.cells.toList 0 arr w hh (by simp at hin ⊢;omega) (fun u hu=>hone u (by simpa using hu))
     simp only [Nat.add_zero] at hst
     generalize harr:(arr.toList.take (j*sz'+o')++u2.cells.toList++arr.toList.drop (j*sz'+o'+u2.cells.toList.length)).toArray=arr' at hst
     have hasz:arr'.size=arr.size:=by
      subst harr
      have:=If arr.toList u2.cells.toList (j*sz'+o') (by omega)
      rw [List.size_toArray,this];simp
     have hat:=setRow_heap w blk arr arr' e _ hh
     have hoth:∀ q,q≠blk→(w.setRow blk arr').heap[q]?=w.heap[q]?:=fun q hq=>setRow_other w blk q _ (by omega)
     have hbw:blk<w.heap.size:=hI.own_lt (.inr ⟨tk,_,c,0,hk⟩)
     obtain ⟨ev,hI',_⟩:=Ln (w':=w.setRow blk arr') hI (t:=tk) (n:=v) (m:=v+1) (b:=blk) (c:=c) (sz:=0) hk rfl (by omega) (fun h=>absurd rfl h) rfl rfl rfl (by simp) (fun q _ hq=>hoth q hq) (.inr rfl) (by simpa using hbw)
      (fun o v ho h=>by omega) ⟨_,_,hat,fun h=>absurd rfl h⟩ (fun q e he=>Mj (fun h=>by subst h;exact ⟨_,_,_,_,hh,hat⟩) (hoth q) he)
     have hsz2:u2.cells.size=y.size:=by omega
     refine Does.val (v:=undef) ho (Bw hF (by rw [B2 hlk];exact hw)) (by simp [execOp,hop,hu,hva,Instr.storeAt,Instr.sureAddr,storeVar,Ch hy,hsz2,hst]) (.inr ⟨rfl,rfl⟩)
      ⟨E.setTok tk ⟨v+1,some (blk,c,0)⟩,?_,ev,.junk _⟩
     refine hI.setZ hI' rfl (fun i b s h=>hoth b fun hb'=>hI.bt i tk b s v c 0 h (hb'▸hk)) hb hr hg fun u0 hu0=>?_
     have hu0':=hu0
     cases hu0 with
     | psl _ _ _ a1 n1 cap1 k1 sz1 vals1 hm1 hx1 hcap1 hk1 hv1 hsz1 hpv1 hrr1 hf1 =>
       rw [hk] at hk1;cases hk1
       obtain ⟨_,_,rfl,rfl,arr1,e1,hh1,hcs1,hcl1⟩:=hpv1 rfl
       rw [hh] at hh1;cases hh1
       have:sz1=sz':=by rw [← hsz1 row (List.mem_of_getElem? hrow),hrl]
       subst this
       have hrowlen:(row.take o'++xs++row.drop (o'+xs.length)).length=sz1:=by rw [If row xs o' hl,hrl]
       have hget:∀ i' j',i'<n1→j'<sz1→i'*sz1+j'<arr'.size:=fun i' j' hi' hj'=>by
        have h1:=Gn (n:=n1) hi' hj'
        have h2:n1*sz1≤c*sz1:=Nat.mul_le_mul_right _ (by omega)
        omega
       refine .psl _ tk (v+1) _ n1 c ⟨v+1,some (blk,c,0)⟩ sz1 (fun i' j'=>arr'.getD (i'*sz1+j') default) (by simpa using hm1) hx1 hcap1 (by simp [Env.setTok,Ad hk]) (Nat.le_refl _) (fun r' hr'=>?_)
        (fun _=>⟨by omega,rfl,rfl,rfl,arr',e,hat,by rw [hasz];exact hcs,fun i' j' hi' hj'=>by simp [Array.getD,hget i' j' hi' hj']⟩) (fun i' j' r' x' hi' hj'=>?_) (fun r' hr' z hz=>?_)
       ·rcases List.mem_or_eq_of_mem_set hr' with h | rfl
        ·exact hsz1 r' h
        ·exact hrowlen
       ·have hil:i'<rows.length:=by have:=Ad hi';simpa using this
        have hjl':j'<sz1:=by
         have:=Ad hj'
         rcases Ep hi' with ⟨_,rfl⟩ | ⟨_,h⟩
         ·omega
         ·have:=hsz1 r' (List.mem_of_getElem? h);omega
        have hlt:=hget i' j' (by omega) hjl'
        have hval:arr'.getD (i'*sz1+j') default=arr'[i'*sz1+j']:=by simp [Array.getD,hlt]
        rw [hval]
        have hu':(arr.toList.take (j*sz1+o')++u2.cells.toList++arr.toList.drop (j*sz1+o'+u2.cells.toList.length))[i'*sz1+j']?=some arr'[i'*sz1+j']:=by
         rw [← List.getElem?_toArray,harr];simp [hlt]
        rw [Ie _ _ _ _ (by omega)] at hu'
        have hold:∀ (r0:List AV),rows[i']?=some r0→r0[j']?=some x'→arr.toList[i'*sz1+j']?=some arr'[i'*sz1+j']→Rel (E.setTok tk ⟨v+1,some (blk,c,0)⟩) (w.setRow blk arr') arr'[i'*sz1+j'] x':=fun r0 h1 h2 h3=>by
         have h4:=hcl1 i' j' (by omega) hjl'
         rw [Array.getElem?_toList,h4] at h3
         rw [← Option.some.inj h3]
         exact (hrr1 i' j' r0 x' h1 h2).step ev
        rcases Ep hi' with ⟨rfl,rfl⟩ | ⟨hne,h⟩
        ·rw [Ie _ _ _ _ hl] at hj'
         split at hj'
         ·rename_i hjj
          rw [if_pos (by omega),show i'*sz1+j'-(i'*sz1+o')=j'-o' by omega] at hu'
          exact (hrx (j'-o') _ x' (by simpa using hu') hj').step ev
         ·rename_i hjj
          rw [if_neg (by omega)] at hu'
          exact hold row hrow hj' hu'
        ·have:=U0 hjl' hne
         rw [if_neg (by omega)] at hu'
         exact hold r' h hj' hu'
       ·rcases List.mem_or_eq_of_mem_set hr' with h | rfl
        ·exact hf1 r' h z hz
        ·rcases List.mem_append.1 hz with hz | hz
         ·rcases List.mem_append.1 hz with hz | hz
          ·exact hf1 row (List.mem_of_getElem? hrow) z (List.mem_of_mem_take hz)
          ·exact hflat z hz
         ·exact hf1 row (List.mem_of_getElem? hrow) z (List.mem_of_mem_drop hz)
end
section
variable {X:Cx}{B:Bx}{E E':Env}{S S':St}{w w':World}{F F':B3}{a:Act}{N:Nat}{R:AE→St→Prop}{ops:Array Oper}{i:Nat}{o:Oper}{p q:Operand}
theorem Yj (hI:Inv X E S w){t ver:Nat}{tt tx ty e e':TypeId}{ye:Ty}(hu:X.P.underlying tt=some (.slice e))(hk:X.P.underlying tx=some (.slice e'))(hye:X.ty e=some ye)(hne0:ye.size≠0)
 {rows new:List (List AV)}{sp:Sp}{u v:Value}(hp:Rel E w u (.psl rows t ver))(hq:Rel E w v (.sl new sp))(hS:S.toks[t]?=some ver)(hflat:∀ r,r∈new→∀ x,x∈r→NoT x)
 (hz:∀ r,r∈rows→r.length=ye.size)(hz':∀ r,r∈new→r.length=ye.size)(hc:∀ r,r∈new→∀ x,x∈r→F6 x=true)(hne:new≠[])(hb:rows.length+new.length≤100000000000) :
 ∃ r E' w',(Builtin.append_ #[tt,tx] ty #[u,v]).run X.P w=.ok r w'∧Inv X E' ⟨S.boxes,S.toks.set t (ver+1)⟩ w'∧Evol E w E' w' E.boxes.length E.toks.length ∧
  Rel E' w' r (.psl (rows++new) t (ver+1)):=by
 obtain ⟨i,z,hi,hsz,hby,hzv,hzc,hzl,_⟩:=(X.ty_ok e ye hye).info
 have hnew:0<new.length:=List.length_pos_iff.2 hne
 obtain ⟨vals2,hsrc,hr2⟩:=Agf hk hq hz' hc hne
 rw [← hsz] at hsrc
 generalize hR:rows=rows0 at hp
 cases hp with
 | psl _ _ _ a n cap k sz vals hn hx hcap hk1 hv hszr hpv hr hf =>
 subst hR
 subst hn
 have hcur:=Wl hI hk1 hS
 have hpv:=hpv hcur
 have hkt:=Ad hk1
 have hvals:∀ (vals':Nat→Nat→Value),(∀ i j,i<rows.length→vals' i j=vals i j)→(∀ i j,rows.length≤i→vals' i j=vals2 (i-rows.length) j)→∀ {E':Env} {w':World},Evol E w E' w' E.boxes.length E.toks.length →
  ∀ (i j:Nat) (r:List AV) (x:AV),(rows++new)[i]?=some r→r[j]?=some x→Rel E' w' (vals' i j) x:=fun vals' h1 h2 {E' w'} ev i j r x hi hj=>by
  rcases Nat.lt_or_ge i rows.length with h | h
  ·rw [List.getElem?_append_left h] at hi
   rw [h1 i j h];exact (hr i j r x hi hj).step ev
  ·rw [List.getElem?_append_right h] at hi
   rw [h2 i j h];exact (hr2 _ j r x hi hj).step ev
 have hall:∀ r,r∈rows++new→r.length=ye.size:=fun r h=>by
  rcases List.mem_append.1 h with h | h
  ·exact hz r h
  ·exact hz' r h
 have hfl':∀ r,r∈rows++new→∀ x,x∈r→NoT x:=fun r h x hx'=>by
  rcases List.mem_append.1 h with h | h
  ·exact hf r h x hx'
  ·exact hflat r h x hx'
 have hlen:(rows++new).length=rows.length+new.length:=by simp
 have hszeq:rows.length≠0→sz=i.size:=fun h=>by
  obtain ⟨r0,hr0⟩:=Aa rows (i:=0) (by omega)
  rw [← hszr r0 (List.mem_of_getElem? hr0),hz r0 (List.mem_of_getElem? hr0),hsz]
 have grow:cap<rows.length+new.length→∃ r E' w',(Builtin.append_ #[tt,tx] ty #[.slice a rows.length cap,v]).run X.P w=.ok r w'∧Inv X E' ⟨S.boxes,S.toks.set t (ver+1)⟩ w'∧Evol E w E' w' E.boxes.length E.toks.length ∧
  Rel E' w' r (.psl (rows++new) t (ver+1)):=fun hg=>by
  have hold:(Builtin.firstCells i.size rows.length (.slice a rows.length cap)).run X.P w.drew=.ok (Cl rows.length i.size vals).toArray w.drew:=by
   rcases Nat.eq_zero_or_pos rows.length with h0 | h0
   ·rw [h0]
    have:Cl 0 i.size vals=[]:=by simp [Cl]
    rw [this]
    cases a with
    | none=>exact run_firstCells_none _ _ _ _ _
    | some a0=>exact run_firstCells_some _ _ _ _ _ _ _ (by simp) (fun j v hj=>by simp at hj)
   ·have hs':=hszeq (by omega)
    subst hs'
    obtain ⟨kl,ksp⟩:=k
    cases ksp with
    | none=>obtain ⟨h,_⟩:=hpv;omega
    | some q' =>
      obtain ⟨b,c,s⟩:=q'
      obtain ⟨_,rfl,rfl,rfl,arr,e1,hh,hcs,hcl⟩:=hpv
      refine run_firstCells_some _ _ _ _ _ _ _ (Cq _ _ _) (fun q v hq=>?_)
      obtain ⟨i',j',hi',hj',rfl,he⟩:=S7 (vals:=vals) (by have:=Ad hq;rw [Cq] at this;exact this)
      rw [he] at hq;cases hq
      rw [D6,Nat.zero_add]
      have:=hcl i' j' hi' hj'
      have hdr:w.drew.heap[b]?=w.heap[b]?:=rfl
      simp only [World.cell?,hdr,hh]
      exact this
  have hby':(rows.length+new.length)*i.bytes≤140737488355328:=Nat.le_trans (Nat.mul_le_mul_left _ hby) (by omega)
  have hrun:=run_append_grow_src w tt tx ty e i z hu hi hzv a rows.length cap _ hold v new.length _ hsrc hg (by omega) (growslice_fits hg hby')
  have hcc:=grownCap_ge w (rows.length+new.length) cap e
  generalize grownCap w (rows.length+new.length) cap e=cc at hrun hcc
  have hfl:∀ (i' j':Nat),i'<rows.length+new.length→j'<ye.size→(Cl rows.length i.size vals++Cl new.length i.size vals2)[i'*ye.size+j']?=some (if i'<rows.length then vals i' j' else vals2 (i'-rows.length) j'):=fun i' j' hi' hj'=>by
   rw [hsz]
   by_cases h:i'<rows.length
   ·have:=Gn h hj'
    rw [List.getElem?_append_left (by rw [Cq];exact this),if_pos h]
    exact Ii h hj'
   ·have hle:rows.length*ye.size≤i'*ye.size:=Nat.mul_le_mul_right _ (by omega)
    rw [List.getElem?_append_right (by rw [Cq];omega),if_neg h,Cq]
    rw [show i'*ye.size+j'-rows.length*ye.size=(i'-rows.length)*ye.size+j' by rw [Nat.sub_mul];omega]
    exact Ii (by omega) hj'
  have hcs:((Cl rows.length i.size vals++Cl new.length i.size vals2).toArray++Builtin.zeroCells z.cells (cc-(rows.length+new.length))).size=cc*ye.size:=by
   have hzs:z.cells.size=ye.size:=by rw [← hzl,← hzc];simp
   have:(Builtin.zeroCells z.cells (cc-(rows.length+new.length))).size=(cc-(rows.length+new.length))*ye.size:=by
    simp [Builtin.zeroCells,hzs]
   rw [Array.size_append,this,List.size_toArray,List.length_append,Cq,Cq,hsz,← Nat.add_mul,← Nat.add_mul]
   congr 1;omega
  have hpush:∀ o:Obj,(w.drew.alloc o).heap=w.heap.push o:=fun _=>rfl
  have hheap:(w.drew.alloc (.cells ((Cl rows.length i.size vals++Cl new.length i.size vals2).toArray++Builtin.zeroCells z.cells (cc-(rows.length+new.length))) e)).heap[w.heap.size]? =
   some (.cells ((Cl rows.length i.size vals++Cl new.length i.size vals2).toArray++Builtin.zeroCells z.cells (cc-(rows.length+new.length))) e (0,0)):=by rw [hpush];simp
  obtain ⟨ev,hI',_⟩:=Ln (w':=w.drew.alloc (.cells ((Cl rows.length i.size vals++Cl new.length i.size vals2).toArray++Builtin.zeroCells z.cells (cc-(rows.length+new.length))) e)) hI (t:=t) (n:=ver) (m:=ver+1)
   (b:=w.heap.size) (c:=cc) (sz:=0) hk1 hcur.symm (by omega) (fun h=>absurd rfl h) rfl rfl rfl (by rw [hpush];simp) (fun q hq _=>by rw [hpush,Array.getElem?_push_lt hq];simp [hq]) (.inl rfl) (by rw [hpush];simp)
   (fun o v _ h=>by have:=G9 h;omega) ⟨_,e,hheap,fun h=>absurd rfl h⟩ (Evol.push (E:=E) (w:=w) ⟨_,hpush _⟩ rfl rfl rfl 0 0).ty
  refine ⟨_,_,_,hrun,hI',ev,?_⟩
  refine .psl (rows++new) t (ver+1) _ _ cc ⟨ver+1,some (w.heap.size,cc,0)⟩ ye.size (fun i j=>if i<rows.length then vals i j else vals2 (i-rows.length) j) hlen (by unfold Nh;omega) hcc (by simp [Env.setTok,hkt]) (Nat.le_refl _) hall
   (fun _=>⟨by omega,rfl,rfl,rfl,_,e,hheap,hcs,fun i' j' hi' hj'=>?_⟩) (hvals _ (fun i' j' h=>if_pos h) (fun i' j' h=>if_neg (by omega)) ev) hfl'
  have h:=hfl i' j' hi' hj'
  have hlt:=Ad h
  rw [Array.getElem?_append_left (by simpa using hlt),List.getElem?_toArray]
  exact h
 by_cases hg:cap<rows.length+new.length
 ·exact grow hg
 ·obtain ⟨kl,ksp⟩:=k
  cases ksp with
  | none=>obtain ⟨h1,h2⟩:=hpv;omega
  | some q =>
    obtain ⟨b',c',s'⟩:=q
    obtain ⟨hn0,rfl,rfl,rfl,cur,te,hh,hcs,hcl⟩:=hpv
    have hs':=hszeq hn0
    subst hs'
    simp only at hcur
    subst hcur
    have hsub:(rows.length+new.length)*i.size≤c'*i.size:=Nat.mul_le_mul_right _ (by omega)
    rw [Nat.add_mul] at hsub
    have hfit:rows.length*i.size+(Cl new.length i.size vals2).length≤cur.size:=by rw [Cq,hcs];exact hsub
    have hrun:=Mq tt tx ty e i hu hi b' rows.length c' v new.length _ hsrc (by omega) hh hfit
    have hfl:=Cq new.length i.size vals2
    have hat:=setRow_heap w b' cur (cur.toList.take (rows.length*i.size)++Cl new.length i.size vals2++cur.toList.drop (rows.length*i.size+(Cl new.length i.size vals2).length)).toArray te _ hh
    have hoth:∀ q,q≠b'→(w.setRow b' (cur.toList.take (rows.length*i.size)++Cl new.length i.size vals2++cur.toList.drop (rows.length*i.size+(Cl new.length i.size vals2).length)).toArray).heap[q]?=w.heap[q]? :=
     fun q hq=>setRow_other w b' q _ (by omega)
    have hspl:=fun q=>Ie cur.toList (Cl new.length i.size vals2) (rows.length*i.size) q (by simpa using hfit)
    have hbw:b'<w.heap.size:=hI.own_lt (.inr ⟨t,_,c',0,hk1⟩)
    obtain ⟨ev,hI',_⟩:=Ln (w':=w.setRow b' (cur.toList.take (rows.length*i.size)++Cl new.length i.size vals2++cur.toList.drop (rows.length*i.size+(Cl new.length i.size vals2).length)).toArray) hI (t:=t) (n:=ver) (m:=ver+1)
     (b:=b') (c:=c') (sz:=0) hk1 rfl (by omega) (fun h=>absurd rfl h) rfl rfl rfl (by simp) (fun q _ hq=>hoth q hq) (.inr rfl) (by simpa using hbw)
     (fun o v ho h=>by omega) ⟨_,_,hat,fun h=>absurd rfl h⟩ (fun q e he=>Mj (fun h=>by subst h;exact ⟨_,_,_,_,hh,hat⟩) (hoth q) he)
    refine ⟨_,_,_,hrun,hI',ev,?_⟩
    have hnm:∀ i' j',i'<rows.length+new.length→j'<i.size→i'*i.size+j'<(rows.length+new.length)*i.size:=fun i' j' hi' hj'=>Gn hi' hj'
    refine .psl (rows++new) t (ver+1) _ _ c' ⟨ver+1,some (b',c',0)⟩ i.size (fun i j=>if i<rows.length then vals i j else vals2 (i-rows.length) j) hlen (by unfold Nh;omega) (by omega) (by simp [Env.setTok,hkt]) (Nat.le_refl _) (fun r hr=>by rw [hall r hr,hsz])
     (fun _=>⟨by omega,rfl,rfl,rfl,_,te,hat,by rw [List.size_toArray,If _ _ _ (by simpa using hfit)];simpa using hcs,fun i' j' hi' hj'=>?_⟩) (hvals _ (fun i' j' h=>if_pos h) (fun i' j' h=>if_neg (by omega)) ev) hfl'
    rw [List.getElem?_toArray,hspl]
    have h4:=hnm i' j' hi' hj'
    rw [Nat.add_mul] at h4
    by_cases h:i'<rows.length
    ·have h5:=Gn h hj'
     dsimp only
     rw [if_neg (by omega),if_pos h,Array.getElem?_toList]
     exact hcl i' j' h hj'
    ·have hle:rows.length*i.size≤i'*i.size:=Nat.mul_le_mul_right _ (by omega)
     dsimp only
     rw [if_pos ⟨by omega,by omega⟩,if_neg h]
     rw [show i'*i.size+j'-rows.length*i.size=(i'-rows.length)*i.size+j' by rw [Nat.sub_mul];omega]
     exact Ii (by omega) hj'
theorem Wp {c:Call}{t ver tt tx e e':Nat}{y yx ye:Ty}{rows new:List (List AV)}{sp:Sp}{res:List (List AV)}{tk:List Nat}(hS:S.toks[t]?=some ver)(hl:∀ r,r∈rows→r.length=ye.size)(hflat:∀ r,r∈new→∀ x,x∈r→NoT x)
 (hb:rows.length+new.length≤100000000000)(hres:rows++new=res)(htk:S.toks.set t (ver+1)=tk)(ho:ops[i]?=some o)(hw:A2 ops F o=some true)(hop:o.op=.call c)(hcal:c.callee=.builtin .append)(hargs:c.args.toList=[p,q])(htys:c.argTypes.toList=[tt,tx])
 (hp:Co X F p=some (.psl rows t ver))(hq:Co X F q=some (.sl new sp))(hy:X.ty tt=some y)(hyk:y.k=.slc e)(hye:X.ty e=some ye)(hyx:X.ty tx=some yx)(hyxk:yx.k=.slc e')
 (hl':Gj ye.size new=true)(hc:Ga new=true)(hne:Nat.ble 1 new.length=true):Ndo X N ops i o F (.psl res t (ver+1)) S ⟨S.boxes,tk⟩:=by
 subst hres;subst htk
 intro F' E w a hlk hI hF
 obtain ⟨callee,args,argTypes⟩:=c
 simp only at hcal hargs htys
 subst hcal
 have ha:args=#[p,q]:=by rw [← Array.toList_inj];exact hargs
 have ht:argTypes=#[tt,tx]:=by rw [← Array.toList_inj];exact htys
 subst ha;subst ht
 have hlo:=El hlk
 rw [hop] at hlo
 have r1:=Ah hI hF ((B9 (X:=X) (F:=F) (F':=F') (o:=p) fun s hs=>hlo s (by simp [Op.operands,Call.operands,hs])).trans hp)
 have r2:=Ah hI hF ((B9 (X:=X) (F:=F) (F':=F') (o:=q) fun s hs=>hlo s (by simp [Op.operands,Call.operands,hs])).trans hq)
 obtain ⟨d1,hd1,hk1⟩:=(X.ty_ok tt y hy).agg
 simp only [hyk] at hk1
 obtain ⟨rfl,ye',hye',hne0⟩:=hk1
 rw [hye] at hye';cases hye'
 obtain ⟨d2,hd2,hk2⟩:=(X.ty_ok tx yx hyx).agg
 simp only [hyxk] at hk2
 obtain ⟨rfl,_⟩:=hk2
 obtain ⟨v,E',w',h1,h2,h3,h4⟩:=Yj hI (ty:=o.type) hd1 hd2 hye hne0 r1 r2 hS hflat hl (Fu.1 hl') (Fy.1 hc) (fun h=>by rw [h] at hne;simp at hne) hb
 exact Does.val ho (Bw hF (by rw [B2 hlk];exact hw)) (by simp [execOp,hop,resolve,invoke,builtin,h1]) (.inl rfl) ⟨E',h2,h3,h4⟩
class TokC (tk:List Nat)(t v:Nat):Prop where
 h:tk[t]?=some v
instance {v:Nat}{l:List Nat}:TokC (v::l) 0 v:=⟨rfl⟩
instance {x v t:Nat}{l:List Nat} [h:TokC l t v]:TokC (x::l) (t+1) v:=⟨by simpa using h.h⟩
instance {bx:List (List (List AV))}{tk:List Nat}{n m t v:Nat}{rows:List (List AV)} [h1:TokC tk t v] [h2:LeC m t] [h3:OKR n m rows]:FzC ⟨bx,tk⟩ n m (.psl rows t v) (.sl rows .no):=⟨.psl rows t v h2.h h1.h h3.ok⟩
end
end Go.V
namespace Go.V
open Go Go.Proofs
def Lg (e:Eg):List AV:=vi e.f::vi e.t::vi e.k::vb e.y::Af e.n
def C7 (l:List Eg):List (List AV):=l.map Lg
theorem Hc (l:List Eg):(C7 l).length=l.length:=by simp [C7]
theorem Pm (l:List Eg):∀ r,r∈C7 l→r.length=8:=fun r h=>by obtain ⟨e,_,rfl⟩:=List.mem_map.1 h;rfl
theorem W4 (l:List Eg)(e:Eg):C7 l++[Lg e]=C7 (l++[e]):=by simp [C7]
theorem Px (n:Nd):∀ x,x∈Af n→Flat x:=fun x hx=>by
 have h:OKL 0 0 (Af n):=inferInstance
 exact (h.ok x hx).flat rfl rfl
theorem Y7 (e:Eg):∀ x,x∈Lg e→Flat x:=fun x hx=>by
 simp only [Lg,List.mem_cons] at hx
 rcases hx with rfl | rfl | rfl | rfl | hx
 ·exact .val _
 ·exact .val _
 ·exact .val _
 ·exact .val _
 ·exact Px _ x hx
theorem W2 (e:Eg):∀ r,r∈[Lg e]→∀ x,x∈r→NoT x:=fun r hr x hx=>by simp at hr;subst hr;exact (Y7 e x hx).noT
instance {n m:Nat}{l:List Eg}:OKR n m (C7 l):=⟨fun r hr x hx=>by obtain ⟨e,_,rfl⟩:=List.mem_map.1 hr;exact (Y7 e x hx).ok⟩
abbrev mbx (p:Nat)(l:List Eg):List (List AV):=[[vi p,.psl (C7 l) 0 l.length]]
theorem Gt (p:Nat)(l:List Eg)(h:p≤1000000000000):Hands X 159 [.ptr 0 0 0] ⟨[mbx p l],[l.length]⟩ (vi p) ⟨[mbx (p+1) l],[l.length]⟩:=by
 refine Hands.run Tryz.func159 ?_
 have e1:IntKind.i64.wrap ((p:Int)+1)=((p+1:Nat):Int):=(Ac (by omega) (by omega)).trans (by omega)
 have e2:IntKind.i64.wrap (IntKind.i64.wrap ((p:Int)+1)-1)=(p:Int):=by rw [e1];exact (Ac (by omega) (by omega)).trans (by omega)
 refine AK.as_ 2 (vi p) ?_ (A3 e2)
 refine AK.sto ⟨[mbx (p+1) l],[l.length]⟩ ?_ (by rw [mbx,← e1])
 exact AK.rb Tryz.func159 rfl rfl
theorem Al1 (p:Nat)(l:List Eg)(e:Eg)(hw:wN e.n≤1000000000)(hl:l.length≤1000000000) :
 Hands X 160 [.ptr 0 0 0,vi e.f,vi e.t,vi e.k,vb e.y,.agg (Af e.n)] ⟨[mbx p l],[l.length]⟩ (.tup []) ⟨[mbx p (l++[e])],[(l++[e]).length]⟩:=by
 refine Hands.run Tryz.func160 ?_
 refine AK.db 73728 ?_
 refine Ax (Xq e.n hw) ?_
 refine Drv.w (Wp (ver:=l.length) rfl (Pm l) (W2 e) ?_ (W4 l e) rfl rfl rfl rfl rfl rfl rfl rfl rfl rfl rfl rfl rfl rfl rfl rfl rfl) ?_
 ·rw [Hc];simp;omega
 refine Drv.e ?_
 refine Drv.e ?_
 refine Drv.w (Ndo.store rfl rfl rfl rfl rfl rfl rfl) ?_
 refine Drv.z ?_
 refine AK.sto ⟨[mbx p (l++[e]),[Af e.n]],[(l++[e]).length]⟩ ?_ (by simp)
 exact AK.fb Tryz.func160 rfl rfl
structure Gb (g:Gr)(k:Nat):Prop where
 pt:g.pt<g.pts
 pts:g.pts+24*k≤100000000000
 es:g.es.length+24*k≤1000000000
theorem Gb.step {g g':Gr}{j k m:Nat}(h:Gb g m)(hl:g.le g' (bG j))(hm:j+k≤m):Gb g' k:=by
 obtain ⟨l,h1,h2,_⟩:=hl.es
 have:=hl.pts
 have:=h.pts
 have:=h.es
 simp only [bG] at h2 this
 refine ⟨hl.pt,?_,?_⟩
 ·have:=hl.pts.2;simp only [bG] at this;omega
 ·rw [h1,List.length_append];omega
theorem Gb.step1 {g g':Gr}{j k m:Nat}(h:Gb g m)(hl:g.le g' j)(hj:j≤6*m)(hm:j+6*k≤6*m):Gb g' k:=by
 obtain ⟨l,h1,h2,_⟩:=hl.es
 have:=hl.pts
 have:=h.pts
 have:=h.es
 refine ⟨hl.pt,by omega,?_⟩
 rw [h1,List.length_append];omega
abbrev gSt (g:Gr):St:=⟨[mbx g.pts g.es],[g.es.length]⟩
def HSt (n:Nd):Prop:=∀ (a:Nd)(g:Gr),Gb g (wN n)→Hands X 220 [.ptr 0 0 0,nd n,vi g.pt] (gSt g) (vi (gS n a g).pt) (gSt (gS n a g))
def HLs (l:List Nd):Prop:=∀ (a:Nd)(g:Gr),Gb g (wL l)→Hands X 158 [.ptr 0 0 0,nd (.mk 30 [] 0 l),vi g.pt] (gSt g) (vi (gL l a g).pt) (gSt (gL l a g))
theorem Ag4 {l:List Nd}{i:Nat}{x:Nd}(hx:l[i]?=some x)(a:Nd)(g:Gr):gL (l.take (i+1)) a g=gS x ((l.take i).getLastD a) (gL (l.take i) a g):=by
 rw [List.take_add_one,hx]
 simp only [Option.toList_some]
 rw [Alz];rfl
theorem Aih {l:List Nd}{i:Nat}{x:Nd}(hx:l[i]?=some x):wL (l.take i)+wN x≤wL l:=by
 have h:l.take (i+1)=l.take i++[x]:=by rw [List.take_add_one,hx];rfl
 have h1:wL (l.take (i+1))+wL (l.drop (i+1))=wL l:=by rw [← Qd,List.take_append_drop]
 rw [h,Qd] at h1
 simp only [wL] at h1;omega
theorem Abd {l:List Nd}(hp:∀ x,x∈l→PS x)(hs:∀ x,x∈l→HSt x):HLs l:=by
 intro a g hb
 have hlw:=Jo l
 have hbe:=hb.es
 refine Hands.run Tryz.func158 ?_
 refine AK.while_ (ι:=Nat) 2 1 (fun i=>i≤l.length) (fun i=>[(7,vi i),(0,.ptr 0 0 0),(2,vi (gL (l.take i) a g).pt),(4,.ptr 1 0 0)])
  (fun i=>⟨[mbx (gL (l.take i) a g).pts (gL (l.take i) a g).es,[Af (.mk 30 [] 0 l)]],[(gL (l.take i) a g).es.length]⟩) (fun i=>l.length-i) ?_ 0
  (Nat.zero_le _) ⟨rfl,rfl,rfl,rfl,trivial⟩
 intro i hi IH
 have hgi:g.le (gL (l.take i) a g) (bG (wL (l.take i))):=Ki (fun x hx=>hp x (List.mem_of_mem_take hx)) a g hb.pt
 refine AK.ei (fun h=>?_) (fun h=>?_)
 ·have hlt:i<l.length:=by have:=of_decide_eq_true h;rw [Ae] at this;simp at this;omega
  obtain ⟨x,hx⟩:=Aa l hlt
  have hwt:=Aih hx
  have hbi:Gb (gL (l.take i) a g) (wN x):=hb.step hgi hwt
  refine AK.ix i (by omega) (Ao (l:=l) hx) ?_
  refine AK.hc (τ':=[0]) [0] [0] (hs x (List.mem_of_getElem? hx) ((l.take i).getLastD a) _ hbi) ?_
  rw [← Ag4 hx]
  exact IH (i+1) hlt (by omega) _ _ ⟨vsx (by omega),rfl,rfl,rfl,trivial⟩ rfl rfl rfl
 ·have:i=l.length:=by have:=of_decide_eq_false h;rw [Ae] at this;simp at this;omega
  subst this
  rw [List.take_length] at hgi ⊢
  exact AK.rb Tryz.func158 rfl rfl
theorem Mc (p:Nat)(l:List Eg)(f t k:Int)(y:Bool)(n:Nd)(hw:wN n≤1000000000)(hl:l.length≤1000000000) :
 Hands X 160 [.ptr 0 0 0,vi f,vi t,vi k,vb y,nd n] ⟨[mbx p l],[l.length]⟩ (.tup []) ⟨[mbx p (l++[⟨f,t,k,y,n⟩])],[(l++[(⟨f,t,k,y,n⟩:Eg)]).length]⟩:=Al1 p l ⟨f,t,k,y,n⟩ hw hl
theorem N9 (p:Nat)(l:List Eg)(f t k:Int)(y:Bool)(hl:l.length≤1000000000) :
 Hands X 160 [.ptr 0 0 0,vi f,vi t,vi k,vb y,.agg [vi 0,str [],vi 0,.sl [] .no]] ⟨[mbx p l],[l.length]⟩ (.tup []) ⟨[mbx p (l++[⟨f,t,k,y,B8⟩])],[(l++[(⟨f,t,k,y,B8⟩:Eg)]).length]⟩:=Al1 p l ⟨f,t,k,y,B8⟩ (by show wN B8≤1000000000;decide) hl
abbrev gS3 (p:Nat)(es:List Eg)(n:Nd):St:=⟨[mbx p es,[Af n],[zN]],[es.length]⟩
set_option maxHeartbeats 2000000 in
theorem At5 {n:Nd}(h:PS n):HSt n:=by
 induction h with
 | set s x h hx =>
   intro a g hb
   have b1:=hb.pts
   have b2:=hb.es
   refine Hands.run Tryz.func220 ?_
   rw [Abc]
   refine AK.no ?_
   refine AK.no ?_
   refine AK.no ?_
   refine AK.hc (τ':=[0]) [0] [0] (Gt g.pts g.es (by omega)) ?_
   refine AK.yes ?_
   refine AK.hc (τ':=[0]) [0] [0] (Mc (g.pts+1) g.es g.pt g.pts 1 false (.mk 21 s 0 [x]) (by omega) (by omega)) ?_
   exact AK.rb Tryz.func220 rfl rfl
 | put s x y h hx hy =>
   intro a g hb
   have b1:=hb.pts
   have b2:=hb.es
   refine Hands.run Tryz.func220 ?_
   rw [Abb]
   refine AK.no ?_
   refine AK.no ?_
   refine AK.no ?_
   refine AK.hc (τ':=[0]) [0] [0] (Gt g.pts g.es (by omega)) ?_
   refine AK.no ?_
   refine AK.yes ?_
   refine AK.hc (τ':=[0]) [0] [0] (Mc (g.pts+1) g.es g.pt g.pts 2 false (.mk 22 s 0 [x,y]) (by omega) (by omega)) ?_
   exact AK.rb Tryz.func220 rfl rfl
 | read s h =>
   intro a g hb
   have b1:=hb.pts
   have b2:=hb.es
   refine Hands.run Tryz.func220 ?_
   rw [V5]
   refine AK.no ?_
   refine AK.no ?_
   refine AK.no ?_
   refine AK.hc (τ':=[0]) [0] [0] (Gt g.pts g.es (by omega)) ?_
   refine AK.no ?_
   refine AK.no ?_
   refine AK.yes ?_
   refine AK.hc (τ':=[0]) [0] [0] (Mc (g.pts+1) g.es g.pt g.pts 3 false (.mk 23 s 0 []) (by omega) (by omega)) ?_
   exact AK.rb Tryz.func220 rfl rfl
 | ifs c l l' hc hl hl' ihl ihl' =>
   intro a g hb
   have b1:=hb.pts
   have b2:=hb.es
   refine Hands.run Tryz.func220 ?_
   have hwc:wN c<wN (.mk 24 [] 0 [c,.mk 30 [] 0 l,.mk 30 [] 0 l']):=Gp (n:=.mk 24 [] 0 [c,.mk 30 [] 0 l,.mk 30 [] 0 l']) (by simp)
   have hws:wN (.mk 24 [] 0 [c,.mk 30 [] 0 l,.mk 30 [] 0 l'])=3+wN c+wL l+wL l':=by simp only [wN,wL,List.length_nil];omega
   rw [Ag5]
   unfold gIf
   refine AK.no ?_
   refine AK.yes ?_
   refine AK.hc (τ':=[0]) [0] [0] (Gt g.pts g.es (by omega)) ?_
   refine AK.sto (gS3 (g.pts+1) g.es (.mk 24 [] 0 [c,.mk 30 [] 0 l,.mk 30 [] 0 l'])) ?_
   refine AK.ix 0 (by omega) (Ao (l:=[c,.mk 30 [] 0 l,.mk 30 [] 0 l']) rfl) ?_
   refine AK.hc (τ':=[0]) [0] [0] (Mc (g.pts+1) g.es g.pt g.pts 4 true c (by omega) (by omega)) ?_
   refine AK.sto (gS3 (g.pts+1) (g.es++[⟨g.pt,g.pts,4,true,c⟩]) (.mk 24 [] 0 [c,.mk 30 [] 0 l,.mk 30 [] 0 l'])) ?_
   have l1:=Mt g.pt c true hb.pt
   have c1:Gb (Dw g.pt c true g) (wL l):=hb.step1 l1 (by omega) (by omega)
   have a2:=Ki hl B8 _ c1.pt
   have i1:Hands X 158 [.ptr 0 0 0,nd (.mk 30 [] 0 l),vi g.pts] ⟨[mbx (g.pts+1) (g.es++[⟨g.pt,g.pts,4,true,c⟩])],[(g.es++[(⟨g.pt,g.pts,4,true,c⟩:Eg)]).length]⟩ (vi (gL l B8 (Dw g.pt c true g)).pt) (gSt (gL l B8 (Dw g.pt c true g))):=Abd hl ihl B8 (Dw g.pt c true g) c1
   refine AK.ix 1 (by omega) (Ao (l:=[c,.mk 30 [] 0 l,.mk 30 [] 0 l']) rfl) ?_
   refine AK.hc (τ':=[0]) [0] [0] i1 ?_
   refine AK.sto (gS3 (gL l B8 (Dw g.pt c true g)).pts (gL l B8 (Dw g.pt c true g)).es (.mk 24 [] 0 [c,.mk 30 [] 0 l,.mk 30 [] 0 l'])) ?_
   have l12:=l1.trans a2 (Nat.le_refl _)
   generalize gL l B8 (Dw g.pt c true g)=g2 at *
   have c2:Gb g2 (wL l'+1):=hb.step1 l12 (by simp only [bG];omega) (by simp only [bG];omega)
   have b3:=c2.pts
   have b4:=c2.es
   refine AK.hc (τ':=[0]) [0] [0] (Gt g2.pts g2.es (by omega)) ?_
   refine AK.sto (gS3 (g2.pts+1) g2.es (.mk 24 [] 0 [c,.mk 30 [] 0 l,.mk 30 [] 0 l'])) ?_
   refine AK.ix 0 (by omega) (Ao (l:=[c,.mk 30 [] 0 l,.mk 30 [] 0 l']) rfl) ?_
   refine AK.hc (τ':=[0]) [0] [0] (Mc (g2.pts+1) g2.es g.pt g2.pts 4 false c (by omega) (by omega)) ?_
   refine AK.sto (gS3 (g2.pts+1) (g2.es++[⟨g.pt,g2.pts,4,false,c⟩]) (.mk 24 [] 0 [c,.mk 30 [] 0 l,.mk 30 [] 0 l'])) ?_
   have hp2:g.pt<g2.pts:=Nat.lt_of_lt_of_le hb.pt l12.pts.1
   have l3:=Mt g.pt c false hp2
   have c3:Gb (Dw g.pt c false g2) (wL l'):=c2.step1 l3 (by omega) (by omega)
   have a4:=Ki hl' B8 _ c3.pt
   have i3:Hands X 158 [.ptr 0 0 0,nd (.mk 30 [] 0 l'),vi g2.pts] ⟨[mbx (g2.pts+1) (g2.es++[⟨g.pt,g2.pts,4,false,c⟩])],[(g2.es++[(⟨g.pt,g2.pts,4,false,c⟩:Eg)]).length]⟩ (vi (gL l' B8 (Dw g.pt c false g2)).pt) (gSt (gL l' B8 (Dw g.pt c false g2))):=Abd hl' ihl' B8 (Dw g.pt c false g2) c3
   refine AK.ix 2 (by omega) (Ao (l:=[c,.mk 30 [] 0 l,.mk 30 [] 0 l']) rfl) ?_
   refine AK.hc (τ':=[0]) [0] [0] i3 ?_
   refine AK.sto (gS3 (gL l' B8 (Dw g.pt c false g2)).pts (gL l' B8 (Dw g.pt c false g2)).es (.mk 24 [] 0 [c,.mk 30 [] 0 l,.mk 30 [] 0 l'])) ?_
   have l34:=l3.trans a4 (Nat.le_refl _)
   generalize gL l' B8 (Dw g.pt c false g2)=g4 at *
   have c4:Gb g4 0:=c2.step1 l34 (by simp only [bG];omega) (by simp only [bG];omega)
   have b5:=c4.pts
   have b6:=c4.es
   have b7:=l34.es
   refine AK.hc (τ':=[0]) [0] [0] (Gt g4.pts g4.es (by omega)) ?_
   refine AK.sto (gS3 (g4.pts+1) g4.es (.mk 24 [] 0 [c,.mk 30 [] 0 l,.mk 30 [] 0 l'])) ?_
   refine AK.hc (τ':=[0]) [0] [0] (N9 (g4.pts+1) g4.es g2.pt g4.pts 6 false (by omega)) ?_
   refine AK.sto (gS3 (g4.pts+1) (g4.es++[⟨g2.pt,g4.pts,6,false,B8⟩]) (.mk 24 [] 0 [c,.mk 30 [] 0 l,.mk 30 [] 0 l'])) ?_
   refine AK.hc (τ':=[0]) [0] [0] (N9 (g4.pts+1) (g4.es++[⟨g2.pt,g4.pts,6,false,B8⟩]) g4.pt g4.pts 6 false ?_) ?_
   ·obtain ⟨e1,e2,e3,_⟩:=l34.es
    have:=c2.es
    simp only [bG] at e3
    rw [List.length_append,e2,List.length_append]
    simp only [List.length_singleton];omega
   exact AK.rb Tryz.func220 rfl rfl
 | whil c l hc hl ihl =>
   intro a g hb
   have b1:=hb.pts
   have b2:=hb.es
   refine Hands.run Tryz.func220 ?_
   have hwc:wN c<wN (.mk 25 [] 0 [c,.mk 30 [] 0 l]):=Gp (n:=.mk 25 [] 0 [c,.mk 30 [] 0 l]) (by simp)
   have hws:wN (.mk 25 [] 0 [c,.mk 30 [] 0 l])=2+wN c+wL l:=by simp only [wN,wL,List.length_nil];omega
   have hwn:=Rr c
   rw [Ag6]
   unfold gWh
   refine AK.no ?_
   refine AK.no ?_
   refine AK.yes ?_
   refine AK.hc (τ':=[0]) [0] [0] (Gt g.pts g.es (by omega)) ?_
   refine AK.sto (gS3 (g.pts+1) g.es (.mk 25 [] 0 [c,.mk 30 [] 0 l])) ?_
   refine AK.hc (τ':=[0]) [0] [0] (N9 (g.pts+1) g.es g.pt g.pts 6 false (by omega)) ?_
   refine AK.sto (gS3 (g.pts+1) (g.es++[⟨g.pt,g.pts,6,false,B8⟩]) (.mk 25 [] 0 [c,.mk 30 [] 0 l])) ?_
   refine AK.hc (τ':=[0]) [0] [0] (Gt (g.pts+1) _ (by omega)) ?_
   refine AK.sto (gS3 (g.pts+1+1) (g.es++[⟨g.pt,g.pts,6,false,B8⟩]) (.mk 25 [] 0 [c,.mk 30 [] 0 l])) ?_
   refine AK.ix 0 (by omega) (Ao (l:=[c,.mk 30 [] 0 l]) rfl) ?_
   refine AK.hc (τ':=[0]) [0] [0] (Mc (g.pts+1+1) (g.es++[⟨g.pt,g.pts,6,false,B8⟩]) g.pts (g.pts+1:Nat) 4 true c (by omega) (by simp;omega)) ?_
   refine AK.sto (gS3 (g.pts+1+1) (g.es++[⟨g.pt,g.pts,6,false,B8⟩]++[⟨g.pts,(g.pts+1:Nat),4,true,c⟩]) (.mk 25 [] 0 [c,.mk 30 [] 0 l])) ?_
   have l1:=J1 6 B8 hb.pt
   have l2:=Abo a (.mk 25 [] 0 [c,.mk 30 [] 0 l]) l1.pt
   have l12:=l1.trans l2 (Nat.le_refl _)
   have hh:g.pts<(Gd a (.mk 25 [] 0 [c,.mk 30 [] 0 l]) (C2 6 B8 g)).pts:=by simp [Gd,C2]
   have l3:=Mt g.pts c true hh
   have l123:=l12.trans l3 (Nat.le_refl _)
   have c1:Gb (Dw g.pts c true (Gd a (.mk 25 [] 0 [c,.mk 30 [] 0 l]) (C2 6 B8 g))) (wL l+1):=hb.step1 l123 (by omega) (by omega)
   have c1':Gb (Dw g.pts c true (Gd a (.mk 25 [] 0 [c,.mk 30 [] 0 l]) (C2 6 B8 g))) (wL l):=⟨c1.pt,by have:=c1.pts;omega,by have:=c1.es;omega⟩
   have a2:=Ki hl B8 _ c1'.pt
   have i1:Hands X 158 [.ptr 0 0 0,nd (.mk 30 [] 0 l),vi (g.pts+1:Nat)] ⟨[mbx (g.pts+1+1) (g.es++[⟨g.pt,g.pts,6,false,B8⟩]++[⟨g.pts,(g.pts+1:Nat),4,true,c⟩])],[(g.es++[(⟨g.pt,g.pts,6,false,B8⟩:Eg)]++[(⟨g.pts,(g.pts+1:Nat),4,true,c⟩:Eg)]).length]⟩
    (vi (gL l B8 (Dw g.pts c true (Gd a (.mk 25 [] 0 [c,.mk 30 [] 0 l]) (C2 6 B8 g)))).pt) (gSt (gL l B8 (Dw g.pts c true (Gd a (.mk 25 [] 0 [c,.mk 30 [] 0 l]) (C2 6 B8 g))))):=Abd hl ihl B8 _ c1'
   refine AK.ix 1 (by omega) (Ao (l:=[c,.mk 30 [] 0 l]) rfl) ?_
   refine AK.hc (τ':=[0]) [0] [0] i1 ?_
   refine AK.sto (gS3 (gL l B8 (Dw g.pts c true (Gd a (.mk 25 [] 0 [c,.mk 30 [] 0 l]) (C2 6 B8 g)))).pts (gL l B8 (Dw g.pts c true (Gd a (.mk 25 [] 0 [c,.mk 30 [] 0 l]) (C2 6 B8 g)))).es (.mk 25 [] 0 [c,.mk 30 [] 0 l])) ?_
   have l1234:=l123.trans a2 (Nat.le_refl _)
   generalize gL l B8 (Dw g.pts c true (Gd a (.mk 25 [] 0 [c,.mk 30 [] 0 l]) (C2 6 B8 g)))=g2 at *
   have c2:Gb g2 0:=c1.step1 a2 (by simp only [bG];omega) (by simp only [bG];omega)
   have b3:=c2.pts
   have b4:=c2.es
   have b5:g2.es.length+1≤1000000000:=by
    obtain ⟨e1,e2,e3,_⟩:=a2.es
    have:=c1.es
    simp only [bG] at e3
    rw [e2,List.length_append];omega
   refine AK.hc (τ':=[0]) [0] [0] (N9 g2.pts g2.es g2.pt g.pts 6 false (by omega)) ?_
   refine AK.sto (gS3 g2.pts (g2.es++[⟨g2.pt,g.pts,6,false,B8⟩]) (.mk 25 [] 0 [c,.mk 30 [] 0 l])) ?_
   refine AK.hc (τ':=[0]) [0] [0] (Gt g2.pts _ (by omega)) ?_
   refine AK.sto (gS3 (g2.pts+1) (g2.es++[⟨g2.pt,g.pts,6,false,B8⟩]) (.mk 25 [] 0 [c,.mk 30 [] 0 l])) ?_
   refine AK.ix 0 (by omega) (Ao (l:=[c,.mk 30 [] 0 l]) rfl) ?_
   refine AK.hc (τ':=[0]) [0] [0] (Mc (g2.pts+1) (g2.es++[⟨g2.pt,g.pts,6,false,B8⟩]) g.pts g2.pts 4 false c (by omega) (by simp;omega)) ?_
   exact AK.rb Tryz.func220 rfl rfl
 | check c hc =>
   intro a g hb
   have b1:=hb.pts
   have b2:=hb.es
   refine Hands.run Tryz.func220 ?_
   have hwc:wN c<wN (.mk 27 [] 0 [c]):=Gp (n:=.mk 27 [] 0 [c]) (by simp)
   rw [S9]
   refine AK.no ?_
   refine AK.no ?_
   refine AK.no ?_
   refine AK.hc (τ':=[0]) [0] [0] (Gt g.pts g.es (by omega)) ?_
   refine AK.no ?_
   refine AK.no ?_
   refine AK.no ?_
   refine AK.yes ?_
   refine AK.ix 0 (by omega) (Ao (l:=[c]) rfl) ?_
   refine AK.hc (τ':=[0]) [0] [0] (Mc (g.pts+1) g.es g.pt g.pts 5 false c (by omega) (by omega)) ?_
   exact AK.rb Tryz.func220 rfl rfl
 | skip =>
   intro a g hb
   have b1:=hb.pts
   have b2:=hb.es
   refine Hands.run Tryz.func220 ?_
   rw [V6]
   refine AK.no ?_
   refine AK.no ?_
   refine AK.no ?_
   refine AK.hc (τ':=[0]) [0] [0] (Gt g.pts g.es (by omega)) ?_
   refine AK.no ?_
   refine AK.no ?_
   refine AK.no ?_
   refine AK.no ?_
   refine AK.hc (τ':=[0]) [0] [0] (N9 (g.pts+1) g.es g.pt g.pts 6 false (by omega)) ?_
   exact AK.rb Tryz.func220 rfl rfl
 | stop =>
   intro a g hb
   have b1:=hb.pts
   have b2:=hb.es
   refine Hands.run Tryz.func220 ?_
   rw [V7]
   refine AK.yes ?_
   refine AK.hc (τ':=[0]) [0] [0] (N9 g.pts g.es g.pt (-1) 7 false (by omega)) ?_
   refine AK.hc (τ':=[0]) [0] [0] (Gt g.pts _ (by omega)) ?_
   exact AK.rb Tryz.func220 rfl rfl
def Dn (x:Int)(e:Eg):Eg:=if e.t<0 then { e with t:=x } else e
def O7 (x:Int)(l:List Eg)(i:Nat):List Eg:=(l.take i).map (Dn x)++l.drop i
def Ri (l:List Eg)(i:Nat):Nat:=l.length+((l.take i).filter fun e=>decide (e.t<0)).length
theorem Tf (x:Int)(l:List Eg)(i:Nat):(O7 x l i).length=l.length:=by simp [O7];omega
theorem Aje (x:Int)(l:List Eg):O7 x l 0=l:=by simp [O7]
theorem Amo (x:Int)(l:List Eg):O7 x l l.length=l.map (Dn x):=by simp [O7]
theorem Aki (l:List Eg):Ri l 0=l.length:=by simp [Ri]
theorem Adf {x:Int}{l:List Eg}{i:Nat}{e:Eg}(h:l[i]?=some e):(O7 x l i)[i]?=some e:=by
 have hi:=Ad h
 simp only [O7]
 rw [List.getElem?_append_right (by simp;omega),List.getElem?_drop]
 simp [show i+(i-min i l.length)=i by omega,h]
theorem Adg {x:Int}{l:List Eg}{i:Nat}{e:Eg}(h:l[i]?=some e):(O7 x l i).set i (Dn x e)=O7 x l (i+1):=by
 have hi:=Ad h
 simp only [O7]
 rw [List.set_append_right _ _ (by simp;omega),List.take_add_one,h,List.map_append,An h]
 simp [show i-min i l.length=0 by omega]
theorem Ajd {x:Int}{l:List Eg}{i:Nat}{e:Eg}(h:l[i]?=some e)(ht:¬ e.t<0):O7 x l (i+1)=O7 x l i:=by
 rw [← Adg h]
 have:Dn x e=e:=by simp [Dn,ht]
 rw [this]
 apply List.ext_getElem?
 intro j
 rw [List.getElem?_set]
 split
 ·rename_i hj;subst hj
  rw [Adf h];simp [Tf,Ad h]
 ·rfl
theorem Aef {l:List Eg}{i:Nat}{e:Eg}(h:l[i]?=some e)(ht:e.t<0):Ri l (i+1)=Ri l i+1:=by
 simp only [Ri];rw [List.take_add_one,h];simp [ht];omega
theorem Aot {l:List Eg}{i:Nat}{e:Eg}(h:l[i]?=some e)(ht:¬ e.t<0):Ri l (i+1)=Ri l i:=by
 simp only [Ri];rw [List.take_add_one,h];simp [ht]
def Ee (l:List Nd):Gr:=C2 6 B8 (gL l B8 ⟨1,0,[],[],[],0⟩)
def I1 (l:List Nd):List Eg:=(Ee l).es.map (Dn (Ee l).pt)
def A5 (n:Nd):List Nd:=(Cm (Aw n)).kids
theorem Aam {n:Nd}(h:FP n):∃ ds,Aw n=.mk 40 [] 0 (ds++[.mk 30 [] 0 (A5 n)])∧n.kids.dropLast=ds∧(∀ x,x∈A5 n→PS x)∧wL (A5 n)≤10*wN n:=by
 have hw:=(Mf n).1
 cases h with
 | mk ds l hd hl =>
   have e1:A5 (.mk 40 [] 0 (ds++[.mk 30 [] 0 l]))=Bb l:=by
    unfold A5 Cm
    rw [We hd,Ec]
    simp [Ec]
   rw [e1]
   refine ⟨ds,We hd,by rw [Ec];simp,Lm fun x hx=>Awp (hl x hx),?_⟩
   rw [We hd] at hw
   simp only [wN,wL,Qd] at hw ⊢
   omega
theorem Als (e:Eg)(x:Int)(h:e.t<0):(Lg e).take 1++[vi x]++(Lg e).drop (1+[vi x].length)=Lg (Dn x e):=by simp [Lg,Dn,h]
theorem Y8 (l:List Eg)(i:Nat)(e:Eg):(C7 l).set i (Lg e)=C7 (l.set i e):=by simp [C7,List.map_set]
theorem Qo {l:List Eg}{i:Nat}{e:Eg}(h:l[i]?=some e):(C7 l)[i]?=some (Lg e):=by simp [C7,h]
abbrev gBx (n:Nd)(p:Nat)(rows:List (List AV))(v:Nat):List (List (List AV)):=[[Af n],[[vi 0,.sl [] .tight]],[Af (Aw n)],[[vi p,.psl rows 0 v]]]
theorem Apo (n:Nd)(h:FP n)(hw:wN n≤1000000):Pure X 100 [nd n] (.agg [vi (Ee (A5 n)).pts,.sl (C7 (I1 (A5 n))) .no]):=by
 obtain ⟨ds,hpl,_,hps,hwl⟩:=Aam h
 have hpw:=(Mf n).1
 have hdl:IntKind.i64.wrap (((Ak (Aw n).kids).length:Int)-1)=ds.length:=by
  have hkl:=Ei (Aw n)
  have e:(Ak (Aw n).kids).length=ds.length+1:=by rw [Ae,hpl,Ec];simp
  rw [Ae] at e
  rw [Ae,Ac (by omega) (by omega)];omega
 have hlast:(Ak (Aw n).kids)[(IntKind.i64.wrap (((Ak (Aw n).kids).length:Int)-1)).toNat]?=some (Af (.mk 30 [] 0 (A5 n))):=by
  rw [hdl,hpl,Ec]
  exact Ao (by simp)
 have h0:0≤IntKind.i64.wrap (((Ak (Aw n).kids).length:Int)-1):=by rw [hdl];omega
 refine Pure.run Tryz.func100 ?_
 refine AK.pc (Vp n h (by omega)) ?_
 refine AK.mintP (bx:=gBx n 0 [] 0) (tk:=[0]) 3 0 1 ?_
 refine AK.as_ 4 (.ptr 3 0 0) ?_
 refine AK.db 3072 ?_
 refine Drv.ig _ h0 hlast ?_
 refine En (Ndo.hd (τ':=[0]) [3] [0] (Gt 0 [] (by omega))) ?_ ?_
 ·exact A1 (Ndo.ev rfl rfl rfl) (A1 (Ndo.ev rfl rfl rfl) (A1 (Ndo.ev rfl rfl rfl) G8))
 have c0:Gb ⟨1,0,[],[],[],0⟩ (wL (A5 n)):=⟨by decide,by show 1+_≤_;omega,by show 0+_≤_;omega⟩
 have l0:=Ki hps B8 _ c0.pt
 have i0:Hands X 158 [.ptr 0 0 0,nd (.mk 30 [] 0 (A5 n)),vi (0:Nat)] ⟨[mbx (0+1) []],[([]:List Eg).length]⟩ (vi (gL (A5 n) B8 ⟨1,0,[],[],[],0⟩).pt) (gSt (gL (A5 n) B8 ⟨1,0,[],[],[],0⟩)) :=
  Abd hps (fun x hx=>At5 (hps x hx)) B8 _ c0
 have c1:Gb (gL (A5 n) B8 ⟨1,0,[],[],[],0⟩) 0:=c0.step l0 (by omega)
 generalize hg:gL (A5 n) B8 ⟨1,0,[],[],[],0⟩=g at *
 refine Drv.w (Ndo.hd (τ':=[0]) [3] [0] i0) ?_
 refine Drv.e ?_
 refine Drv.z ?_
 have b1:=c1.pts
 have b2:=c1.es
 refine AK.hc (τ':=[0]) [3] [0] (Gt g.pts g.es (by omega)) ?_
 refine AK.hc (τ':=[0]) [3] [0] (N9 (g.pts+1) g.es g.pt g.pts 6 false (by omega)) ?_
 have hG:Ee (A5 n)=C2 6 B8 g:=by unfold Ee;rw [hg]
 have hE:I1 (A5 n)=(g.es++[(⟨g.pt,g.pts,6,false,B8⟩:Eg)]).map (Dn g.pts):=by unfold I1;rw [hG];rfl
 rw [hE,hG]
 show AK X _ _ _ _ fun e S=>e=.ret (.agg [vi (g.pts+1:Nat),.sl (C7 ((g.es++[(⟨g.pt,g.pts,6,false,B8⟩:Eg)]).map (Dn g.pts))) .no])∧S=⟨[],[]⟩
 have hel:(g.es++[(⟨g.pt,g.pts,6,false,B8⟩:Eg)]).length≤1000000001:=by simp;omega
 generalize g.es++[(⟨g.pt,g.pts,6,false,B8⟩:Eg)]=es at *
 refine AK.sto ⟨gBx n (g.pts+1) (C7 (O7 g.pts es 0)) (Ri es 0),[Ri es 0]⟩ ?_ (by rw [Aje,Aki];rfl)
 refine AK.while_ (ι:=Nat) 4 1 (fun i=>i≤es.length) (fun i=>[(7,vi i),(4,.ptr 3 0 0),(6,vi g.pts),(2,.ptr 1 0 0)])
  (fun i=>⟨gBx n (g.pts+1) (C7 (O7 g.pts es i)) (Ri es i),[Ri es i]⟩) (fun i=>es.length-i) ?_ 0
  (Nat.zero_le _) ⟨rfl,rfl,rfl,rfl,trivial⟩
 intro i hi IH
 refine AK.ei (fun h=>?_) (fun h=>?_)
 ·have hlt:i<es.length:=by have:=of_decide_eq_true h;rw [Hc,Tf] at this;omega
  obtain ⟨e,he⟩:=Aa es hlt
  have hil:i<(C7 (O7 g.pts es i)).length:=by rw [Hc,Tf];exact hlt
  have hrow:=Qo (Adf (x:=g.pts) he)
  refine AK.op (V2 (n:=i) hil rfl (Pm _) rfl rfl rfl rfl rfl rfl rfl rfl) ?_
  refine AK.op (Ao4 (x:=vi e.t) hrow rfl (by show 1+1≤8;omega) rfl rfl rfl rfl rfl rfl) ?_
  refine AK.if_ (fun h2=>?_) (fun h2=>?_)
  ·have h2':e.t<0:=of_decide_eq_true h2
   refine AK.op (V2 (n:=i) hil rfl (Pm _) rfl rfl rfl rfl rfl rfl rfl rfl) ?_
   refine AK.op (Ndo.stP (b:=3) (r:=0) (g:=1) (xs:=[vi g.pts]) (bx:=gBx n (g.pts+1) (C7 (O7 g.pts es (i+1))) (Ri es (i+1))) (tk':=[Ri es (i+1)]) rfl hrow (by show 1+1≤8;omega) (fun z hz=>by simp at hz;subst hz;exact .val _) rfl rfl rfl
    ?_ ?_ rfl rfl rfl rfl rfl rfl rfl rfl) ?_
   ·show gBx n (g.pts+1) ((C7 (O7 g.pts es i)).set i ((Lg e).take 1++[vi g.pts]++(Lg e).drop (1+[vi g.pts].length))) (Ri es i+1)=_
    rw [Als e _ h2',Y8,Adg he,← Aef he h2']
   ·show [Ri es i+1]=_
    rw [← Aef he h2']
   exact IH (i+1) hlt (by omega) _ _ ⟨vsx (by omega),rfl,rfl,rfl,trivial⟩ rfl rfl rfl
  ·have h2':¬ e.t<0:=of_decide_eq_false h2
   rw [← Ajd (x:=g.pts) he h2',← Aot he h2']
   exact IH (i+1) hlt (by omega) _ _ ⟨vsx (by omega),rfl,rfl,rfl,trivial⟩ rfl rfl rfl
 ·have:i=es.length:=by have:=of_decide_eq_false h;rw [Hc,Tf] at this;omega
  subst this
  rw [Amo]
  refine AK.db 512 ?_
  refine Drv.w (Ndo.store rfl rfl rfl rfl rfl rfl rfl) ?_
  refine Drv.z ?_
  exact AK.rz Tryz.func100 rfl
def O8 (l:List Nat):List (List AV):=l.map fun (i:Nat)=>[vi i]
theorem Kv (l:List Nat):(O8 l).length=l.length:=by simp [O8]
theorem Afg (l:List Nat):Gj 1 (O8 l)=true:=H6 (f:=fun (i:Nat)=>[vi i]) (fun _=>rfl) l
theorem Xc (l:List Nat)(i:Nat):O8 l++[[vi i]]=O8 (l++[i]):=by simp [O8]
instance {n m:Nat}{l:List Nat}:OKR n m (O8 l):=⟨fun r hr x hx=>by obtain ⟨e,_,rfl⟩:=List.mem_map.1 hr;simp at hx;subst hx;exact .val _⟩
def Um (l:Lp):List AV:=Af l.a++Af l.l++[vi l.h,vi l.x]
def Hz (l:List Lp):List (List AV):=l.map Um
theorem Un (l:List Lp):(Hz l).length=l.length:=by simp [Hz]
theorem Add (l:List Lp):∀ r,r∈Hz l→r.length=10:=fun r h=>by obtain ⟨e,_,rfl⟩:=List.mem_map.1 h;rfl
theorem Afn (l:List Lp)(e:Lp):Hz l++[Um e]=Hz (l++[e]):=by simp [Hz]
theorem Zo (e:Lp):∀ x,x∈Um e→Flat x:=fun x hx=>by
 simp only [Um,List.mem_append,List.mem_cons,List.not_mem_nil,or_false] at hx
 rcases hx with (hx | hx) | rfl | rfl
 ·exact Px _ x hx
 ·exact Px _ x hx
 ·exact .val _
 ·exact .val _
theorem Afm (e:Lp):∀ r,r∈[Um e]→∀ x,x∈r→NoT x:=fun r hr x hx=>by simp at hr;subst hr;exact (Zo e x hx).noT
instance {n m:Nat}{l:List Lp}:OKR n m (Hz l):=⟨fun r hr x hx=>by obtain ⟨e,_,rfl⟩:=List.mem_map.1 hr;exact (Zo e x hx).ok⟩
abbrev mx (p:Nat)(es:List Eg)(at_:Nat)(sts:List Nat)(lps:List Lp)(v:Nat):List (List AV):=[[vi p,.psl (C7 es) 0 es.length,vi at_,.sl (O8 sts) (.tok 1),.psl (Hz lps) 2 v]]
abbrev mS (p:Nat)(es:List Eg)(at_:Nat)(sts:List Nat)(lps:List Lp)(v:Nat):St:=⟨[mx p es at_ sts lps v],[es.length,sts.length,v]⟩
def iE (g:Gr):List Eg:=g.es.map (Dn 0)
abbrev gM (g:Gr):St:=mS g.pts (iE g) g.pt g.sts g.lps g.ver
theorem Pq (g:Gr):(iE g).length=g.es.length:=by simp [iE]
theorem Apu (k:Int)(n:Nd)(g:Gr):iE (C2 k n g)=iE g++[⟨g.pt,g.pts,k,false,n⟩]:=by simp [iE,C2,Dn];intro h;omega
theorem At8 (p:Nat)(c:Nd)(y:Bool)(g:Gr):iE (Dw p c y g)=iE g++[⟨p,g.pts,4,y,c⟩]:=by simp [iE,Dw,Dn];intro h;omega
theorem Apv (g:Gr):iE (O1 g)=iE g++[⟨g.pt,0,7,false,B8⟩]:=by simp [iE,O1,Dn]
theorem Aps (h:Nat)(g:Gr):iE (Ko h g)=iE g++[⟨g.pt,h,6,false,B8⟩]:=by simp [iE,Ko,I0,Dn];intro h;omega
theorem Apt (p:Nat)(g:Gr):iE (M6 p g)=iE g++[⟨p,g.pts,6,false,B8⟩]++[⟨g.pt,g.pts,6,false,B8⟩]:=by simp [iE,M6,I0,Dn];intro h;omega
section
variable (p:Nat)(es:List Eg)(a:Nat)(sts:List Nat)(lps:List Lp)(v:Nat)
theorem Wa (h:p≤1000000000000):Hands X 237 [.ptr 0 0 0] (mS p es a sts lps v) (vi p) (mS (p+1) es a sts lps v):=by
 refine Hands.run Tryz.func237 ?_
 have e1:IntKind.i64.wrap ((p:Int)+1)=((p+1:Nat):Int):=(Ac (by omega) (by omega)).trans (by omega)
 have e2:IntKind.i64.wrap (IntKind.i64.wrap ((p:Int)+1)-1)=(p:Int):=by rw [e1];exact (Ac (by omega) (by omega)).trans (by omega)
 refine AK.as_ 2 (vi p) ?_ (A3 e2)
 refine AK.sto (mS (p+1) es a sts lps v) ?_ (by rw [mS,mx,← e1])
 exact AK.rb Tryz.func237 rfl rfl
theorem Ame (e:Eg)(hp:PlO e.n)(hpl:Aw e.n=e.n)(hw:wN e.n≤1000000000)(hl:es.length≤1000000000) :
 Hands X 238 [.ptr 0 0 0,vi e.f,vi e.t,vi e.k,vb e.y,nd e.n] (mS p es a sts lps v) (.tup []) (mS p (es++[e]) a sts lps v):=by
 have hq:=Zx e.n hp hw
 rw [hpl] at hq
 refine Hands.run Tryz.func238 ?_
 refine AK.db 278528 ?_
 refine Ax hq ?_
 refine Drv.w (Wp (ver:=es.length) rfl (Pm es) (W2 e) ?_ (W4 es e) rfl rfl rfl rfl rfl rfl rfl rfl rfl rfl rfl rfl rfl rfl rfl rfl rfl) ?_
 ·rw [Hc];simp;omega
 refine Drv.e ?_
 refine Drv.e ?_
 refine Drv.e ?_
 refine Drv.w (Ndo.store rfl rfl rfl rfl rfl rfl rfl) ?_
 refine Drv.z ?_
 refine AK.sto ⟨[mx p (es++[e]) a sts lps v,[Af e.n]],[(es++[e]).length,sts.length,v]⟩ ?_ (by simp)
 exact AK.fb Tryz.func238 rfl rfl
theorem Ahd (f t k:Int)(y:Bool)(n:Nd)(hp:PlO n)(hpl:Aw n=n)(hw:wN n≤1000000000)(hl:es.length≤1000000000) :
 Hands X 238 [.ptr 0 0 0,vi f,vi t,vi k,vb y,nd n] (mS p es a sts lps v) (.tup []) (mS p (es++[⟨f,t,k,y,n⟩]) a sts lps v):=Ame p es a sts lps v ⟨f,t,k,y,n⟩ hp hpl hw hl
theorem V9 (f t k:Int)(y:Bool)(hl:es.length≤1000000000) :
 Hands X 238 [.ptr 0 0 0,vi f,vi t,vi k,vb y,.agg [vi 0,str [],vi 0,.sl [] .no]] (mS p es a sts lps v) (.tup []) (mS p (es++[⟨f,t,k,y,B8⟩]) a sts lps v) :=
 Ame p es a sts lps v ⟨f,t,k,y,B8⟩ .leaf (by show Aw B8=B8;rw [B8,A6,A0]) (by show wN B8≤1000000000;decide) hl
end
theorem Xd (g:Gr)(k:Int)(n:Nd)(hp:PlO n)(hpl:Aw n=n)(hw:wN n≤1000000000)(h1:g.pts≤1000000000000)(hl:g.es.length≤1000000000) :
 Hands X 175 [.ptr 0 0 0,vi k,nd n] (gM g) (.tup []) (gM (C2 k n g)):=by
 refine Hands.run Tryz.func175 ?_
 refine AK.hc (τ':=[0,1,2]) [0] [0,1,2] (Wa g.pts (iE g) g.pt g.sts g.lps g.ver h1) ?_
 refine AK.db 256 ?_
 refine Drv.w (Ndo.hd (τ':=[0,1,2]) [0] [0,1,2] (Ahd (g.pts+1) (iE g) g.pt g.sts g.lps g.ver g.pt g.pts k false n hp hpl hw (by rw [Pq];exact hl))) ?_
 refine Drv.z ?_
 rw [← Apu]
 exact AK.fb Tryz.func175 rfl rfl
theorem Ahe (g:Gr)(q:Nat)(c:Nd)(y:Bool)(hp:PlO c)(hpl:Aw c=c)(hw:wN c≤1000000000)(h1:g.pts≤1000000000000)(hl:g.es.length≤1000000000) :
 Hands X 271 [.ptr 0 0 0,vi q,nd c,vb y] (gM g) (.tup []) (gM (Dw q c y g)):=by
 refine Hands.run Tryz.func271 ?_
 refine AK.hc (τ':=[0,1,2]) [0] [0,1,2] (Wa g.pts (iE g) g.pt g.sts g.lps g.ver h1) ?_
 refine AK.db 256 ?_
 refine Drv.w (Ndo.hd (τ':=[0,1,2]) [0] [0,1,2] (Ahd (g.pts+1) (iE g) g.pts g.sts g.lps g.ver q g.pts 4 y c hp hpl hw (by rw [Pq];exact hl))) ?_
 refine Drv.z ?_
 rw [← At8]
 exact AK.fb Tryz.func271 rfl rfl
structure Gc (g:Gr)(k:Nat):Prop where
 b:Gb g k
 lps:g.lps.length+24*k≤1000000000
 sts:g.sts.length+24*k≤1000000000
theorem Gc.step1 {g g':Gr}{j k m:Nat}(h:Gc g m)(hl:g.le g' j)(hj:j≤6*m)(hm:j+6*k≤6*m):Gc g' k:=by
 obtain ⟨l,h1,h2⟩:=hl.lps
 obtain ⟨s,h3,h4⟩:=hl.sts
 have:=h.lps
 have:=h.sts
 refine ⟨h.b.step1 hl hj hm,?_,?_⟩
 ·rw [h1,List.length_append];omega
 ·rw [h3,List.length_append];omega
def JSt (n:Nd):Prop:=∀ (a:Nd)(g:Gr),Gc g (wN n)→Hands X 236 [.ptr 0 0 0,nd n,nd a] (gM g) (.tup []) (gM (gS n a g))
def JLs (l:List Nd):Prop:=∀ (g:Gr),Gc g (wL l)→Hands X 174 [.ptr 0 0 0,.sl (Ak l) .no] (gM g) (.tup []) (gM (gL l B8 g))
theorem Abl {l:List Nd}(hp:∀ x,x∈l→PS x)(hs:∀ x,x∈l→JSt x):JLs l:=by
 intro g hb
 have hlw:=Jo l
 have hbe:=hb.b.es
 refine Hands.run Tryz.func174 ?_
 refine AK.wkB 1 0 3 (.sl [] .no) ?_
 refine AK.while_ (ι:=Nat) 2 3 (fun i=>i≤l.length) (fun i=>[(10,vi i),(9,vi l.length),(8,.sl (Ak l) .no),(0,.ptr 0 0 0),(4,.ptr 1 0 0)])
  (fun i=>⟨[mx (gL (l.take i) B8 g).pts (iE (gL (l.take i) B8 g)) (gL (l.take i) B8 g).pt (gL (l.take i) B8 g).sts (gL (l.take i) B8 g).lps (gL (l.take i) B8 g).ver,[Af ((l.take i).getLastD B8)]],[(iE (gL (l.take i) B8 g)).length,(gL (l.take i) B8 g).sts.length,(gL (l.take i) B8 g).ver]⟩) (fun i=>l.length-i) ?_ 0
  (Nat.zero_le _) ⟨rfl,by rw [← Ae l];rfl,rfl,rfl,rfl,trivial⟩
 intro i hi IH
 have hgi:g.le (gL (l.take i) B8 g) (bG (wL (l.take i))):=Ki (fun x hx=>hp x (List.mem_of_mem_take hx)) B8 g hb.b.pt
 refine AK.ei (fun h=>?_) (fun h=>?_)
 ·have hlt:i<l.length:=by have:=of_decide_eq_true h;omega
  obtain ⟨x,hx⟩:=Aa l hlt
  have hwt:=Aih hx
  have hbi:Gc (gL (l.take i) B8 g) (wN x):=hb.step1 hgi (by simp only [bG];omega) (by simp only [bG];omega)
  refine AK.ix i (by omega) (Ao (l:=l) hx) ?_
  refine AK.hc (τ':=[0,1,2]) [0] [0,1,2] (hs x (List.mem_of_getElem? hx) ((l.take i).getLastD B8) _ hbi) ?_
  rw [← Ag4 hx]
  have hla:(l.take (i+1)).getLastD B8=x:=by rw [List.take_add_one,hx];simp
  refine IH (i+1) hlt (by omega) _ _ ⟨vsx (by omega),rfl,rfl,rfl,rfl,trivial⟩ ?_ rfl rfl
  simp only
  rw [hla];rfl
 ·have:i=l.length:=by have:=of_decide_eq_false h;omega
  subst this
  rw [List.take_length] at hgi ⊢
  exact AK.fb Tryz.func174 rfl rfl
theorem Abk (g:Gr)(h1:g.pts≤1000000000000)(hl:g.es.length≤1000000000) :
 Hands X 175 [.ptr 0 0 0,vi 6,.agg [vi 0,str [],vi 0,.sl [] .no]] (gM g) (.tup []) (gM (C2 6 B8 g)) :=
 Xd g 6 B8 .leaf (by rw [B8,A6,A0]) (by decide) h1 hl
theorem Ajn (s:List UInt8){a:Nd}(ha:FE a):Aw (.mk 21 s 0 [a])=.mk 21 s 0 [a]:=by rw [A6,Au,A0,Ka ha];rfl
theorem Ajm (s:List UInt8){a b:Nd}(ha:FE a)(hb:FE b):Aw (.mk 22 s 0 [a,b])=.mk 22 s 0 [a,b]:=by rw [A6,Au,Au,A0,Ka ha,Ka hb];rfl
theorem Afy (s:List UInt8):Aw (.mk 23 s 0 [])=.mk 23 s 0 []:=by rw [A6,A0]
theorem Amn (l:Lp)(x:Int):(Um l).take 9++[vi x]++(Um l).drop (9+[vi x].length)=Um { l with x:=x }:=by simp [Um,Af]
theorem Ajc (l:List Lp)(i:Nat)(e:Lp):(Hz l).set i (Um e)=Hz (l.set i e):=by simp [Hz,List.map_set]
theorem Ajb {l:List Lp}{i:Nat}{e:Lp}(h:l[i]?=some e):(Hz l)[i]?=some (Um e):=by simp [Hz,h]
theorem Ajf {l:List Lp}{i:Nat}{e:Lp}(h:l[i]?=some e)(f:Lp→Lp):l.modify i f=l.set i (f e):=by
 apply List.ext_getElem?
 intro j
 rw [List.getElem?_modify,List.getElem?_set]
 by_cases hj:i=j
 ·subst hj;rw [h];simp [Ad h]
 ·simp [hj]
abbrev mS3 (p:Nat)(es:List Eg)(at_:Nat)(sts:List Nat)(lps:List Lp)(v:Nat)(n a:Nd):St:=⟨[mx p es at_ sts lps v,[Af n],[Af a]],[es.length,sts.length,v]⟩
abbrev gM3 (g:Gr)(n a:Nd):St:=mS3 g.pts (iE g) g.pt g.sts g.lps g.ver n a
set_option maxHeartbeats 4000000 in
theorem Aui {n:Nd}(h:PS n):JSt n:=by
 induction h with
 | set s x h hx =>
   intro a g hb
   have b1:=hb.b.pts
   have b2:=hb.b.es
   have b3:=hb.lps
   have b4:=hb.sts
   refine Hands.run Tryz.func236 ?_
   rw [Abc]
   refine AK.yes ?_
   refine AK.hc (τ':=[0,1,2]) [0] [0,1,2] (Xd g 1 (.mk 21 s 0 [x]) (Aan (.set s x h hx)) (Ajn s hx) (by omega) (by omega) (by omega)) ?_
   exact AK.fb Tryz.func236 rfl rfl
 | put s x y h hx hy =>
   intro a g hb
   have b1:=hb.b.pts
   have b2:=hb.b.es
   have b3:=hb.lps
   have b4:=hb.sts
   refine Hands.run Tryz.func236 ?_
   rw [Abb]
   refine AK.no ?_
   refine AK.yes ?_
   refine AK.hc (τ':=[0,1,2]) [0] [0,1,2] (Xd g 2 (.mk 22 s 0 [x,y]) (Aan (.put s x y h hx hy)) (Ajm s hx hy) (by omega) (by omega) (by omega)) ?_
   exact AK.fb Tryz.func236 rfl rfl
 | read s h =>
   intro a g hb
   have b1:=hb.b.pts
   have b2:=hb.b.es
   have b3:=hb.lps
   have b4:=hb.sts
   refine Hands.run Tryz.func236 ?_
   rw [V5]
   refine AK.no ?_
   refine AK.no ?_
   refine AK.yes ?_
   refine AK.hc (τ':=[0,1,2]) [0] [0,1,2] (Xd g 3 (.mk 23 s 0 []) (Aan (.read s h)) (Afy s) (by omega) (by omega) (by omega)) ?_
   exact AK.fb Tryz.func236 rfl rfl
 | check c hc =>
   intro a g hb
   have b1:=hb.b.pts
   have b2:=hb.b.es
   have b3:=hb.lps
   have b4:=hb.sts
   refine Hands.run Tryz.func236 ?_
   have hwc:wN c<wN (.mk 27 [] 0 [c]):=Gp (n:=.mk 27 [] 0 [c]) (by simp)
   rw [S9]
   refine AK.no ?_
   refine AK.no ?_
   refine AK.no ?_
   refine AK.yes ?_
   refine AK.ix 0 (by omega) (Ao (l:=[c]) rfl) ?_
   refine AK.hc (τ':=[0,1,2]) [0] [0,1,2] (Xd g 5 c (Pb hc) (Oq hc) (by omega) (by omega) (by omega)) ?_
   exact AK.fb Tryz.func236 rfl rfl
 | skip =>
   intro a g hb
   have b1:=hb.b.pts
   have b2:=hb.b.es
   have b3:=hb.lps
   have b4:=hb.sts
   refine Hands.run Tryz.func236 ?_
   rw [V6]
   refine AK.no ?_
   refine AK.no ?_
   refine AK.no ?_
   refine AK.no ?_
   refine AK.yes ?_
   refine AK.hc (τ':=[0,1,2]) [0] [0,1,2] (Abk g (by omega) (by omega)) ?_
   exact AK.fb Tryz.func236 rfl rfl
 | stop =>
   intro a g hb
   have b1:=hb.b.pts
   have b2:=hb.b.es
   have b3:=hb.lps
   have b4:=hb.sts
   refine Hands.run Tryz.func236 ?_
   rw [V7]
   refine AK.no ?_
   refine AK.no ?_
   refine AK.no ?_
   refine AK.no ?_
   refine AK.no ?_
   refine AK.yes ?_
   refine AK.db 36864 ?_
   refine Drv.w (Ndo.append (res:=O8 (g.sts++[g.es.length])) rfl rfl rfl rfl rfl rfl rfl rfl rfl rfl rfl rfl rfl rfl (Kv _) (Afg _) rfl rfl rfl ?_ ?_ rfl) ?_
   ·rw [Kv];show g.sts.length+1≤_;omega
   ·show O8 g.sts++[[vi (C7 (iE g)).length]]=_;rw [Hc,Pq,Xc]
   refine Drv.e ?_
   refine Drv.e ?_
   refine Drv.w (Ndo.store rfl rfl rfl rfl rfl rfl rfl) ?_
   refine Drv.z ?_
   refine AK.sto ⟨[mx g.pts (iE g) g.pt (g.sts++[g.es.length]) g.lps g.ver,[Af (.mk 29 [] 0 [])],[Af a]],[(iE g).length,(g.sts++[g.es.length]).length,g.ver]⟩ ?_ (by simp [O8])
   refine AK.hc (τ':=[0,1,2]) [0] [0,1,2] (V9 g.pts (iE g) g.pt (g.sts++[g.es.length]) g.lps g.ver g.pt 0 7 false (by rw [Pq];omega)) ?_
   refine AK.hc (τ':=[0,1,2]) [0] [0,1,2] (Wa g.pts _ g.pt (g.sts++[g.es.length]) g.lps g.ver (by omega)) ?_
   rw [← Apv]
   exact AK.fb Tryz.func236 rfl rfl
 | ifs c l l' hc hl hl' ihl ihl' =>
   intro a g hb
   have b1:=hb.b.pts
   have b2:=hb.b.es
   have b3:=hb.lps
   have b4:=hb.sts
   refine Hands.run Tryz.func236 ?_
   have hwc:wN c<wN (.mk 24 [] 0 [c,.mk 30 [] 0 l,.mk 30 [] 0 l']):=Gp (n:=.mk 24 [] 0 [c,.mk 30 [] 0 l,.mk 30 [] 0 l']) (by simp)
   have hws:wN (.mk 24 [] 0 [c,.mk 30 [] 0 l,.mk 30 [] 0 l'])=3+wN c+wL l+wL l':=by simp only [wN,wL,List.length_nil];omega
   rw [Ag5]
   unfold gIf
   refine AK.no ?_
   refine AK.no ?_
   refine AK.no ?_
   refine AK.no ?_
   refine AK.no ?_
   refine AK.no ?_
   refine AK.yes ?_
   refine AK.ix 0 (by omega) (Ao (l:=[c,.mk 30 [] 0 l,.mk 30 [] 0 l']) rfl) ?_
   refine AK.hc (τ':=[0,1,2]) [0] [0,1,2] (Ahe g g.pt c true (Pb hc) (Oq hc) (by omega) (by omega) (by omega)) ?_
   refine AK.sto (gM3 (Dw g.pt c true g) (.mk 24 [] 0 [c,.mk 30 [] 0 l,.mk 30 [] 0 l']) a) ?_
   have l1:=Mt g.pt c true hb.b.pt
   have c1:Gc (Dw g.pt c true g) (wL l):=hb.step1 l1 (by omega) (by omega)
   have a2:=Ki hl B8 _ c1.b.pt
   refine AK.ix 1 (by omega) (Ao (l:=[c,.mk 30 [] 0 l,.mk 30 [] 0 l']) rfl) ?_
   refine AK.hc (τ':=[0,1,2]) [0] [0,1,2] (Abl hl ihl (Dw g.pt c true g) c1) ?_
   refine AK.sto (gM3 (gL l B8 (Dw g.pt c true g)) (.mk 24 [] 0 [c,.mk 30 [] 0 l,.mk 30 [] 0 l']) a) ?_
   have l12:=l1.trans a2 (Nat.le_refl _)
   generalize gL l B8 (Dw g.pt c true g)=g2 at *
   have c2:Gc g2 (wL l'+1):=hb.step1 l12 (by simp only [bG];omega) (by simp only [bG];omega)
   have b5:=c2.b.pts
   have b6:=c2.b.es
   refine AK.ix 0 (by omega) (Ao (l:=[c,.mk 30 [] 0 l,.mk 30 [] 0 l']) rfl) ?_
   refine AK.hc (τ':=[0,1,2]) [0] [0,1,2] (Ahe g2 g.pt c false (Pb hc) (Oq hc) (by omega) (by omega) (by omega)) ?_
   refine AK.sto (gM3 (Dw g.pt c false g2) (.mk 24 [] 0 [c,.mk 30 [] 0 l,.mk 30 [] 0 l']) a) ?_
   have hp2:g.pt<g2.pts:=Nat.lt_of_lt_of_le hb.b.pt l12.pts.1
   have l3:=Mt g.pt c false hp2
   have c3:Gc (Dw g.pt c false g2) (wL l'):=c2.step1 l3 (by omega) (by omega)
   have a4:=Ki hl' B8 _ c3.b.pt
   refine AK.ix 2 (by omega) (Ao (l:=[c,.mk 30 [] 0 l,.mk 30 [] 0 l']) rfl) ?_
   refine AK.hc (τ':=[0,1,2]) [0] [0,1,2] (Abl hl' ihl' (Dw g.pt c false g2) c3) ?_
   refine AK.sto (gM3 (gL l' B8 (Dw g.pt c false g2)) (.mk 24 [] 0 [c,.mk 30 [] 0 l,.mk 30 [] 0 l']) a) ?_
   have l34:=l3.trans a4 (Nat.le_refl _)
   generalize gL l' B8 (Dw g.pt c false g2)=g4 at *
   have c4:Gc g4 0:=c2.step1 l34 (by simp only [bG];omega) (by simp only [bG];omega)
   have b7:=c4.b.pts
   have b8:=c4.b.es
   refine AK.hc (τ':=[0,1,2]) [0] [0,1,2] (Wa g4.pts (iE g4) g4.pt g4.sts g4.lps g4.ver (by omega)) ?_
   refine AK.sto (mS3 (g4.pts+1) (iE g4) g4.pt g4.sts g4.lps g4.ver (.mk 24 [] 0 [c,.mk 30 [] 0 l,.mk 30 [] 0 l']) a) ?_
   refine AK.hc (τ':=[0,1,2]) [0] [0,1,2] (V9 (g4.pts+1) (iE g4) g4.pt g4.sts g4.lps g4.ver g2.pt g4.pts 6 false (by rw [Pq];omega)) ?_
   refine AK.sto (mS3 (g4.pts+1) (iE g4++[⟨g2.pt,g4.pts,6,false,B8⟩]) g4.pt g4.sts g4.lps g4.ver (.mk 24 [] 0 [c,.mk 30 [] 0 l,.mk 30 [] 0 l']) a) ?_
   refine AK.hc (τ':=[0,1,2]) [0] [0,1,2] (V9 (g4.pts+1) (iE g4++[⟨g2.pt,g4.pts,6,false,B8⟩]) g4.pt g4.sts g4.lps g4.ver g4.pt g4.pts 6 false ?_) ?_
   ·obtain ⟨e1,e2,e3,_⟩:=l34.es
    have:=c2.b.es
    simp only [bG] at e3
    rw [List.length_append,Pq,e2,List.length_append]
    simp only [List.length_singleton];omega
   rw [← Apt]
   exact AK.fb Tryz.func236 rfl rfl
 | whil c l hc hl ihl =>
   intro a g hb
   have b1:=hb.b.pts
   have b2:=hb.b.es
   have b3:=hb.lps
   have b4:=hb.sts
   refine Hands.run Tryz.func236 ?_
   have hwc:wN c<wN (.mk 25 [] 0 [c,.mk 30 [] 0 l]):=Gp (n:=.mk 25 [] 0 [c,.mk 30 [] 0 l]) (by simp)
   have hws:wN (.mk 25 [] 0 [c,.mk 30 [] 0 l])=2+wN c+wL l:=by simp only [wN,wL,List.length_nil];omega
   have hwn:=Rr c
   rw [Ag6]
   unfold gWh
   refine AK.no ?_
   refine AK.no ?_
   refine AK.no ?_
   refine AK.no ?_
   refine AK.no ?_
   refine AK.no ?_
   refine AK.no ?_
   refine AK.yes ?_
   refine AK.hc (τ':=[0,1,2]) [0] [0,1,2] (Abk g (by omega) (by omega)) ?_
   refine AK.sto (gM3 (C2 6 B8 g) (.mk 25 [] 0 [c,.mk 30 [] 0 l]) a) ?_
   refine AK.dr ?_
   refine AK.db 9216 ?_
   refine Drv.w (Wp (ver:=g.ver) rfl (Add g.lps) (Afm ⟨a,(.mk 25 [] 0 [c,.mk 30 [] 0 l]),g.pts,0⟩) ?_ (Afn g.lps ⟨a,(.mk 25 [] 0 [c,.mk 30 [] 0 l]),g.pts,0⟩) rfl rfl rfl rfl rfl rfl rfl rfl rfl rfl rfl rfl rfl rfl rfl rfl rfl) ?_
   ·rw [Un];simp;omega
   refine Drv.e ?_
   refine Drv.e ?_
   refine Drv.w (Ndo.store rfl rfl rfl rfl rfl rfl rfl) ?_
   refine Drv.z ?_
   have l1:=J1 6 B8 hb.b.pt
   have l2:=Abo a (.mk 25 [] 0 [c,.mk 30 [] 0 l]) l1.pt
   have l12:=l1.trans l2 (Nat.le_refl _)
   have c0:Gc (Gd a (.mk 25 [] 0 [c,.mk 30 [] 0 l]) (C2 6 B8 g)) (wL l+1):=hb.step1 l12 (by omega) (by omega)
   refine AK.sto (gM3 (Gd a (.mk 25 [] 0 [c,.mk 30 [] 0 l]) (C2 6 B8 g)) (.mk 25 [] 0 [c,.mk 30 [] 0 l]) a) ?_
   refine AK.as_ 9 (vi g.pts) ?_
   refine AK.as_ 10 (vi g.lps.length) ?_ (by show lk _ 10=_;rw [← Un];rfl)
   refine AK.ix 0 (by omega) (Ao (l:=[c,.mk 30 [] 0 l]) rfl) ?_
   have hh:g.pts<(Gd a (.mk 25 [] 0 [c,.mk 30 [] 0 l]) (C2 6 B8 g)).pts:=by simp [Gd,C2]
   have hlk:(Gd a (.mk 25 [] 0 [c,.mk 30 [] 0 l]) (C2 6 B8 g)).lps[g.lps.length]?=some ⟨a,(.mk 25 [] 0 [c,.mk 30 [] 0 l]),g.pts,0⟩:=by simp [Gd,C2]
   generalize Gd a (.mk 25 [] 0 [c,.mk 30 [] 0 l]) (C2 6 B8 g)=g1 at *
   have b5:=c0.b.pts
   have b6:=c0.b.es
   refine AK.hc (τ':=[0,1,2]) [0] [0,1,2] (Ahe g1 g.pts c true (Pb hc) (Oq hc) (by omega) (by omega) (by omega)) ?_
   refine AK.sto (gM3 (Dw g.pts c true g1) (.mk 25 [] 0 [c,.mk 30 [] 0 l]) a) ?_
   have l3:=Mt g.pts c true hh
   have c1:Gc (Dw g.pts c true g1) (wL l):=c0.step1 l3 (by omega) (by omega)
   have a2:=Ki hl B8 _ c1.b.pt
   refine AK.ix 1 (by omega) (Ao (l:=[c,.mk 30 [] 0 l]) rfl) ?_
   refine AK.hc (τ':=[0,1,2]) [0] [0,1,2] (Abl hl ihl (Dw g.pts c true g1) c1) ?_
   refine AK.sto (gM3 (gL l B8 (Dw g.pts c true g1)) (.mk 25 [] 0 [c,.mk 30 [] 0 l]) a) ?_
   have l34:=l3.trans a2 (Nat.le_refl _)
   have hh2:=Nat.lt_of_lt_of_le hh l34.pts.1
   obtain ⟨lx,hlx,_⟩:=l34.lps
   have hlk2:(gL l B8 (Dw g.pts c true g1)).lps[g.lps.length]?=some ⟨a,(.mk 25 [] 0 [c,.mk 30 [] 0 l]),g.pts,0⟩:=by rw [hlx,List.getElem?_append_left (Ad hlk)];exact hlk
   generalize gL l B8 (Dw g.pts c true g1)=g2 at *
   have c2:Gc g2 0:=c0.step1 l34 (by simp only [bG];omega) (by simp only [bG];omega)
   have b7:=c2.b.pts
   have b8:=c2.b.es
   have b9:g2.es.length+1≤1000000000:=by
    obtain ⟨e1,e2,e3,_⟩:=l34.es
    have:=c0.b.es
    simp only [bG] at e3
    rw [e2,List.length_append];omega
   refine AK.hc (τ':=[0,1,2]) [0] [0,1,2] (V9 g2.pts (iE g2) g2.pt g2.sts g2.lps g2.ver g2.pt g.pts 6 false (by rw [Pq];omega)) ?_
   rw [← Aps]
   refine AK.sto (gM3 (Ko g.pts g2) (.mk 25 [] 0 [c,.mk 30 [] 0 l]) a) ?_
   refine AK.ix 0 (by omega) (Ao (l:=[c,.mk 30 [] 0 l]) rfl) ?_
   refine AK.hc (τ':=[0,1,2]) [0] [0,1,2] (Ahe (Ko g.pts g2) g.pts c false (Pb hc) (Oq hc) (by omega) (by show g2.pts≤_;omega) (by simp only [Ko,I0];rw [List.length_append];simp;omega)) ?_
   refine AK.sto (gM3 (Dw g.pts c false (Ko g.pts g2)) (.mk 25 [] 0 [c,.mk 30 [] 0 l]) a) ?_
   have hlk3:(Dw g.pts c false (Ko g.pts g2)).lps[g.lps.length]?=some ⟨a,(.mk 25 [] 0 [c,.mk 30 [] 0 l]),g.pts,0⟩:=hlk2
   generalize Dw g.pts c false (Ko g.pts g2)=g3 at *
   have hll:g.lps.length<(Hz g3.lps).length:=by rw [Un];exact Ad hlk3
   have hlr:=Ajb hlk3
   have hmod:=Ajf hlk3 fun l=>{ l with x:=g3.pt }
   refine AK.db 2048 ?_
   refine Drv.lo (V2 (n:=g.lps.length) hll rfl (Add _) rfl rfl rfl rfl rfl rfl rfl rfl) ?_
   refine Drv.e ?_
   refine Drv.w (Ndo.stP (b:=0) (r:=0) (g:=4) (xs:=[vi g3.pt]) (bx:=[mx g3.pts (iE g3) g3.pt g3.sts (g3.lps.modify g.lps.length fun l=>{ l with x:=g3.pt }) (g3.ver+1),[Af (.mk 25 [] 0 [c,.mk 30 [] 0 l])],[Af a]]) (tk':=[(iE g3).length,g3.sts.length,g3.ver+1])
    rfl hlr (by show 9+1≤10;omega) (fun z hz=>by simp at hz;subst hz;exact .val _) rfl rfl rfl ?_ rfl rfl rfl rfl rfl rfl rfl rfl rfl) ?_
   ·show [[[vi g3.pts,.psl (C7 (iE g3)) 0 (iE g3).length,vi g3.pt,.sl (O8 g3.sts) (.tok 1),.psl ((Hz g3.lps).set g.lps.length ((Um ⟨a,(.mk 25 [] 0 [c,.mk 30 [] 0 l]),g.pts,0⟩).take 9++[vi g3.pt]++(Um ⟨a,(.mk 25 [] 0 [c,.mk 30 [] 0 l]),g.pts,0⟩).drop (9+[vi g3.pt].length))) 2 (g3.ver+1)]],[Af (.mk 25 [] 0 [c,.mk 30 [] 0 l])],[Af a]]=_
    rw [Amn,Ajc,hmod]
   refine Drv.z ?_
   exact AK.fb Tryz.func236 rfl rfl
def Z6 (k:Nat):List Eg→List Nat
 | []=>[]
 | e::l=>if e.t<0 then k::Z6 (k+1) l else Z6 (k+1) l
theorem Aca:∀ (l l':List Eg)(k:Nat),Z6 k (l++l')=Z6 k l++Z6 (k+l.length) l'
 | [],l',k=>by simp [Z6]
 | e::l,l',k=>by
   simp only [List.cons_append,Z6,List.length_cons]
   rw [Aca l l' (k+1),show k+1+l.length=k+(l.length+1) by omega]
   split<;>simp
theorem Aoa {l:List Eg}(h:∀ e,e∈l→0≤e.t)(k:Nat):Z6 k l=[]:=by
 induction l generalizing k with
 | nil=>rfl
 | cons e l ih =>
   have:=h e (by simp)
   simp only [Z6];rw [if_neg (by omega)]
   exact ih (fun x hx=>h x (by simp [hx])) (k+1)
theorem Agg:∀ (l:List Eg)(k i:Nat),i∈Z6 k l→i<k+l.length
 | [],k,i,h=>by simp [Z6] at h
 | e::l,k,i,h=>by
   simp only [Z6] at h
   simp only [List.length_cons]
   split at h
   ·rcases List.mem_cons.1 h with rfl | h
    ·omega
    ·have:=Agg l (k+1) i h;omega
   ·have:=Agg l (k+1) i h;omega
theorem Aia:∀ (l:List Eg)(k:Nat),(Z6 k l).length≤l.length
 | [],k=>by simp [Z6]
 | e::l,k=>by
   simp only [Z6,List.length_cons]
   have:=Aia l (k+1)
   split<;>simp<;>omega
def SI (g:Gr):Prop:=g.sts=Z6 0 g.es
theorem Aao {g g':Gr}(h:SI g)(l:List Eg)(he:g'.es=g.es++l)(hl:∀ e,e∈l→0≤e.t)(hs:g'.sts=g.sts):SI g':=by
 unfold SI at h ⊢
 rw [he,hs,h,Aca,Aoa hl];simp
theorem N0 {g:Gr}(k:Int)(n:Nd)(h:SI g):SI (C2 k n g):=Aao h _ rfl (fun e he=>by simp at he;subst he;simp) rfl
theorem Aap {g:Gr}(p:Nat)(c:Nd)(y:Bool)(h:SI g):SI (Dw p c y g):=Aao h _ rfl (fun e he=>by simp at he;subst he;simp) rfl
theorem Ao6 {g:Gr}(p:Nat)(h:SI g):SI (Ko p g):=Aao h _ rfl (fun e he=>by simp at he;subst he;simp) rfl
theorem Ao8 {g:Gr}(p:Nat)(h:SI g):SI (M6 p g):=Aao h [⟨p,g.pts,6,false,B8⟩,⟨g.pt,g.pts,6,false,B8⟩] (by simp [M6,I0]) (fun e he=>by simp at he;rcases he with rfl | rfl<;>simp) rfl
theorem Apa {g:Gr}(h:SI g):SI (O1 g):=by
 unfold SI at h ⊢
 simp only [O1]
 rw [h,Aca]
 simp [Z6]
theorem Ao9 {g:Gr}(a n:Nd)(h:SI g):SI (Gd a n g):=h
theorem Ao7 {g:Gr}(i:Nat)(h:SI g):SI (Vm i g):=h
theorem Ao5 {l:List Nd}(h:∀ x,x∈l→∀ (a:Nd)(g:Gr),SI g→SI (gS x a g)):∀ (a:Nd)(g:Gr),SI g→SI (gL l a g):=by
 induction l with
 | nil=>intro a g hg;exact hg
 | cons x l ih=>intro a g hg;rw [Aa9];exact ih (fun y hy=>h y (by simp [hy])) x _ (h x (by simp) a g hg)
theorem Aws {n:Nd}(h:PS n):∀ (a:Nd)(g:Gr),SI g→SI (gS n a g):=by
 induction h with
 | set s b h hb=>intro a g hg;rw [Abc];exact N0 _ _ hg
 | put s b c h hb hc=>intro a g hg;rw [Abb];exact N0 _ _ hg
 | read s h=>intro a g hg;rw [V5];exact N0 _ _ hg
 | ifs c l l' hc hl hl' ihl ihl'=>intro a g hg;rw [Ag5];unfold gIf;exact Ao8 _ (Ao5 ihl' _ _ (Aap _ _ _ (Ao5 ihl _ _ (Aap _ _ _ hg))))
 | whil c l hc hl ihl=>intro a g hg;rw [Ag6];unfold gWh;exact Ao7 _ (Aap _ _ _ (Ao6 _ (Ao5 ihl _ _ (Aap _ _ _ (Ao9 _ _ (N0 6 B8 hg))))))
 | check c hc=>intro a g hg;rw [S9];exact N0 _ _ hg
 | skip=>intro a g hg;rw [V6];exact N0 _ _ hg
 | stop=>intro a g hg;rw [V7];exact Apa hg
def Kc (x:Int):List Eg→List Nat→List Eg
 | l,[]=>l
 | l,i::s=>Kc x (l.modify i fun e=>{ e with t:=x }) s
theorem X8 (x:Int):∀ (l:List Eg)(s:List Nat)(i:Nat),Kc x l (s++[i])=(Kc x l s).modify i fun e=>{ e with t:=x }
 | l,[],i=>rfl
 | l,j::s,i=>X8 x _ s i
theorem U1 (x:Int):∀ (l:List Eg)(s:List Nat),(Kc x l s).length=l.length
 | l,[]=>rfl
 | l,j::s=>by simp only [Kc];rw [U1];simp
theorem Z3 (x:Int):∀ (l pre:List Eg),Kc x (pre++l.map (Dn 0)) (Z6 pre.length l)=pre++l.map (Dn x)
 | [],pre=>by simp [Z6,Kc]
 | e::l,pre=>by
   simp only [Z6,List.map_cons]
   have ih:=Z3 x l (pre++[Dn x e])
   have e1:(pre++[Dn x e]).length=pre.length+1:=by simp
   rw [e1] at ih
   split
   ·rename_i ht
    simp only [Kc]
    rw [Xl]
    have:(Dn 0 e::l.map (Dn 0)).modify 0 (fun e=>{ e with t:=x })=Dn x e::l.map (Dn 0):=by simp [Dn,ht]
    rw [this]
    simpa using ih
   ·rename_i ht
    have:Dn 0 e=Dn x e:=by simp [Dn,ht]
    rw [this]
    simpa using ih
theorem Aiy (e:Eg)(x:Int):(Lg e).take 1++[vi x]++(Lg e).drop (1+[vi x].length)=Lg { e with t:=x }:=by simp [Lg]
theorem Afo {l:List Eg}{i:Nat}{e:Eg}(h:l[i]?=some e)(f:Eg→Eg):l.modify i f=l.set i (f e):=by
 apply List.ext_getElem?
 intro j
 rw [List.getElem?_modify,List.getElem?_set]
 by_cases hj:i=j
 ·subst hj;rw [h];simp [Ad h]
 ·simp [hj]
abbrev Aw8 (l:List Nd):List AV:=[vi (Ee l).pts,.sl (C7 (I1 l)) .no,vi (Ee l).pt,.sl (O8 (Ee l).sts) .no,.sl (Hz (Ee l).lps) .no]
theorem Auh (P:Nd)(hne:P.kids≠[])(hps:∀ x,x∈(Cm P).kids→PS x)(hw:wL (Cm P).kids≤10000000)(hk:P.kids.length≤1000000000) :
 Pure X 116 [nd P] (.cptr (Aw8 (Cm P).kids)):=by
 show Pure X 116 [nd P] (.cptr [vi (Ee (Cm P).kids).pts,.sl (C7 ((Ee (Cm P).kids).es.map (Dn (Ee (Cm P).kids).pt))) .no,vi (Ee (Cm P).kids).pt,.sl (O8 (Ee (Cm P).kids).sts) .no,.sl (Hz (Ee (Cm P).kids).lps) .no])
 refine Pure.run Tryz.func116 ?_
 refine AK.mintP (bx:=[[Af P],[[vi 1,.psl [] 0 0,vi 0,.sl [] .tight,.sl [] .tight]]]) (tk:=[0]) 1 0 1 ?_
 refine AK.mintB (bx:=[[Af P],[[vi 1,.psl [] 0 0,vi 0,.sl [] (.tok 1),.sl [] .tight]]]) (tk:=[0,0]) 1 0 3 rfl rfl rfl rfl rfl rfl ?_
 refine AK.mintP (bx:=[[Af P],mx 1 (iE ⟨1,0,[],[],[],0⟩) 0 [] [] 0]) (tk:=[0,0,0]) 1 0 4 ?_
 refine AK.as_ 3 (.ptr 1 0 0) ?_
 refine AK.as_ 9 (.ptr 1 0 0) ?_
 have c0:Gc ⟨1,0,[],[],[],0⟩ (wL (Cm P).kids):=⟨⟨by decide,by show 1+_≤_;omega,by show 0+_≤_;omega⟩,by show 0+_≤_;omega,by show 0+_≤_;omega⟩
 have l0:=Ki hps B8 _ c0.b.pt
 have s0:SI (gL (Cm P).kids B8 ⟨1,0,[],[],[],0⟩):=Ao5 (fun x hx=>Aws (hps x hx)) _ _ rfl
 refine AK.pc (Ank P hne hk) ?_
 refine AK.hc (τ':=[0,1,2]) [1] [0,1,2] (Abl hps (fun x hx=>Aui (hps x hx)) _ c0) ?_
 have c1:Gc (gL (Cm P).kids B8 ⟨1,0,[],[],[],0⟩) 0:=c0.step1 l0 (by simp only [bG];omega) (by simp only [bG];omega)
 have hA:Ee (Cm P).kids=C2 6 B8 (gL (Cm P).kids B8 ⟨1,0,[],[],[],0⟩):=rfl
 rw [hA]
 generalize gL (Cm P).kids B8 ⟨1,0,[],[],[],0⟩=g at *
 have b1:=c1.b.pts
 have b2:=c1.b.es
 refine AK.sto ⟨[[Af P],mx g.pts (iE g) g.pt g.sts g.lps g.ver],[(iE g).length,g.sts.length,g.ver]⟩ ?_
 refine AK.hc (τ':=[0,1,2]) [1] [0,1,2] (Abk g (by omega) (by omega)) ?_
 have s1:SI (C2 6 B8 g):=N0 6 B8 s0
 have b3:(C2 6 B8 g).es.length≤1000000001:=by simp [C2];omega
 generalize C2 6 B8 g=h at *
 have hst:Kc h.pt (iE h) h.sts=h.es.map (Dn h.pt):=by
  rw [s1];exact Z3 h.pt h.es []
 have hsl:h.sts.length≤h.es.length:=by rw [s1];exact Aia _ _
 have hslt:∀ i,i∈h.sts→i<(iE h).length:=fun i hi=>by
  rw [s1] at hi
  have:=Agg _ _ _ hi
  rw [Pq];omega
 refine AK.sto ⟨[[Af P],[[vi h.pts,.psl (C7 (Kc h.pt (iE h) (h.sts.take 0))) 0 ((iE h).length+0),vi h.pt,.sl (O8 h.sts) (.tok 1),.psl (Hz h.lps) 2 h.ver]]],[(iE h).length+0,h.sts.length,h.ver]⟩ ?_
 refine AK.while_ (ι:=Nat) 2 3 (fun i=>i≤h.sts.length) (fun i=>[(22,vi i),(21,vi h.sts.length),(20,.sl (O8 h.sts) (.tok 1)),(3,.ptr 1 0 0)])
  (fun i=>⟨[[Af P],[[vi h.pts,.psl (C7 (Kc h.pt (iE h) (h.sts.take i))) 0 ((iE h).length+i),vi h.pt,.sl (O8 h.sts) (.tok 1),.psl (Hz h.lps) 2 h.ver]]],[(iE h).length+i,h.sts.length,h.ver]⟩) (fun i=>h.sts.length-i) ?_ 0
  (Nat.zero_le _) ⟨rfl,by rw [← Kv h.sts];rfl,rfl,rfl,trivial⟩
 intro i hi IH
 refine AK.ei (fun h2=>?_) (fun h2=>?_)
 ·have hlt:i<h.sts.length:=by have:=of_decide_eq_true h2;omega
  obtain ⟨k,hk⟩:=Aa h.sts hlt
  have hkl:=hslt k (List.mem_of_getElem? hk)
  have hgk:(O8 h.sts)[i]?=some [vi k]:=by simp [O8,hk]
  have hkr:k<(C7 (Kc h.pt (iE h) (h.sts.take i))).length:=by rw [Hc,U1];exact hkl
  obtain ⟨e,he⟩:=Aa (Kc h.pt (iE h) (h.sts.take i)) (i:=k) (by rw [U1];exact hkl)
  have hrow:=Qo he
  have hsn:Kc h.pt (iE h) (h.sts.take (i+1))=(Kc h.pt (iE h) (h.sts.take i)).modify k fun e=>{ e with t:=h.pt }:=by
   rw [List.take_add_one,hk];exact X8 _ _ _ _
  refine AK.ix i (by omega) hgk ?_
  refine AK.db 4096 ?_
  refine Drv.lo (V2 (n:=k) hkr rfl (Pm _) rfl rfl rfl rfl rfl rfl rfl rfl) ?_
  refine Drv.e ?_
  refine Drv.w (Ndo.stP (b:=1) (r:=0) (g:=1) (xs:=[vi h.pt]) (bx:=[[Af P],[[vi h.pts,.psl (C7 (Kc h.pt (iE h) (h.sts.take (i+1)))) 0 ((iE h).length+(i+1)),vi h.pt,.sl (O8 h.sts) (.tok 1),.psl (Hz h.lps) 2 h.ver]]]) (tk':=[(iE h).length+(i+1),h.sts.length,h.ver])
   rfl hrow (by show 1+1≤8;omega) (fun z hz=>by simp at hz;subst hz;exact .val _) rfl rfl rfl ?_ rfl rfl rfl rfl rfl rfl rfl rfl rfl) ?_
  ·show [[Af P],[[vi h.pts,.psl ((C7 (Kc h.pt (iE h) (h.sts.take i))).set k ((Lg e).take 1++[vi h.pt]++(Lg e).drop (1+[vi h.pt].length))) 0 ((iE h).length+i+1),vi h.pt,.sl (O8 h.sts) (.tok 1),.psl (Hz h.lps) 2 h.ver]]]=_
   rw [Aiy,Y8,hsn,Afo he];rfl
  refine Drv.z ?_
  exact IH (i+1) hlt (by omega) _ _ ⟨vsx (by omega),rfl,rfl,rfl,trivial⟩ rfl rfl rfl
 ·have:i=h.sts.length:=by have:=of_decide_eq_false h2;omega
  subst this
  rw [List.take_length,hst]
  exact AK.rz Tryz.func116 rfl
theorem Ai5 (P:Nd)(hne:P.kids≠[])(hps:∀ x,x∈(Cm P).kids→PS x)(hw:wL (Cm P).kids≤10000000)(hk:P.kids.length≤1000000000) :
 Pure X 105 [nd P] (.agg [vi (Ee (Cm P).kids).pts,.sl (C7 (I1 (Cm P).kids)) .no]):=by
 refine Pure.run Tryz.func105 ?_
 refine AK.pc (Auh P hne hps hw hk) ?_
 exact AK.rz Tryz.func105 rfl
end Go.V
namespace Go.V
open Go
section
variable {X:Cx}{E:Env}{S:St}{w:World}{F:B3}{N:Nat}{ops:Array Oper}{i:Nat}{o:Oper}{p q:Operand}
theorem Ndo.mkS {t e n b:Nat}{ik ik':IntKind}{y ye:Ty}{bx:List (List (List AV))}(hn:n≤1000000000)(hb:S.boxes.length=b)(hbx:S.boxes++[List.replicate n ye.zero]=bx)(ho:ops[i]?=some o)(hw:A2 ops F o=some true)(hop:o.op=.makeSlice t p q)
 (hp:Co X F p=some (.val (.int ik n)))(hq:Co X F q=some (.val (.int ik' n)))(hy:X.ty t=some y)(hk:y.k=.slc e)(hye:X.ty e=some ye):Ndo X N ops i o F (.bsl b n) S ⟨bx,S.toks⟩:=by
 subst hbx;subst hb
 intro F' E w a hl hI hF
 have hlo:=El hl
 rw [hop] at hlo
 have r1:=Ah hI hF ((B9 (X:=X) (F:=F) (F':=F') (o:=p) fun s hs=>hlo s (by simp [Op.operands,hs])).trans hp)
 have r2:=Ah hI hF ((B9 (X:=X) (F:=F) (F':=F') (o:=q) fun s hs=>hlo s (by simp [Op.operands,hs])).trans hq)
 cases hh1:a.eval p<;>rw [hh1] at r1<;>cases r1
 cases hh2:a.eval q<;>rw [hh2] at r2<;>cases r2
 obtain ⟨d,hd,hdd⟩:=(X.ty_ok t y hy).agg
 simp only [hk] at hdd
 obtain ⟨rfl,ye',hye',hne⟩:=hdd
 rw [hye] at hye';cases hye'
 obtain ⟨z,hz,hzc,hzl,i',hi,hiz,his,hib⟩:=Kf hye w
 have hzs:z.cells.size=ye.size:=by rw [← hzl,← hzc];simp
 have hbn:i'.bytes*n≤1024*n:=Nat.mul_le_mul_right _ hib
 have hrun:=run_make (P:=X.P) w t e i' z hd hi hiz ik ik' (n:Int) (n:Int) (by omega) (Int.le_refl _) (by
  have:((i'.bytes*n:Nat):Int)≤281474976710656:=by omega
  rwa [Int.natCast_mul] at this) (by omega)
 simp only [Int.toNat_natCast] at hrun
 have hg0:Nz E w ye.size (madeCells z.cells (n*i'.size)) (List.replicate n ye.zero):=by
  refine Qs hzc hzl _ (by rw [size_madeCells,his]) (fun j hj=>?_)
  have hm:j % ye.size<z.cells.size:=by rw [hzs];exact Nat.mod_lt _ (Nat.pos_of_ne_zero hne)
  unfold madeCells
  rw [his]
  have hr0:(Array.range (n*ye.size))[j]?=some j:=by simp [hj]
  rw [Array.getElem?_map,hr0]
  simp only [Option.map_some]
  rw [hzs,getElem!_pos z.cells (j % ye.size) hm,Array.getElem?_eq_getElem hm]
 obtain ⟨ev,hI'⟩:=hI.newBox (w':=w.alloc (.cells (madeCells z.cells (n*i'.size)) e)) (cs:=madeCells z.cells (n*i'.size)) (e:=e) (sz:=ye.size) (rows:=List.replicate n ye.zero) rfl rfl rfl rfl hg0.1 hg0.2.1 hg0.2.2
 refine Does.val ho (Bw hF (by rw [B2 hl];exact hw)) (v:=.slice (some ⟨w.heap.size,0,none⟩) n n) (by simp [execOp,hop,hh1,hh2,hrun]) (.inl rfl) ⟨_,hI',ev,?_⟩
 exact .bsl S.boxes.length w.heap.size ye.size n n (by rw [← hI.nb];exact getElem?_snoc_new _ _) (Nat.le_refl _)
end
end Go.V
