/- A part of the proof of the claim that the last text states: no condition of its own. -/
import Derived.Test.YtojhghmilenfkaaGreatDoorM6
import Derived.Laws.MakeOwn
set_option linter.unusedVariables false
set_option linter.unusedSimpArgs false
namespace Go.V
open Go
section
variable {X:Cx}{B:Bx}{E E1:Env}{S S1:St}{w w':World}{F:Bs}{a:Act}{N:Nat}{R:AE→St→Prop}{ops:Array Oper}{i:Nat}{o:Oper}
theorem AK.retK {k:List Item}{xs:List AV}(hf:X.P.funcs[B.f]?=some B.fn)(hR:R (.ret (Bv xs)) S)(h:Kl X F S B.fn.results.toList=some xs:=by rfl):AK X B (.code .ret::k) F S R:=by
 intro E w a b cs hI hF hn hm hb
 obtain ⟨v,h1,h2⟩:=K4 hI hF h
 have nt:E.toks.length=S.toks.length:=by rw [← hI.nt];simp
 refine .inl ⟨.returned v,w,{ b.at a (.code .ret::k) with mode:=.returning },⟨E,S,hI,Evol.refl _ _ _ _,_,h2,hR⟩,.one step_ret,hb,⟨rfl,hF.nod,rfl,B.fn,by rw [← hf];exact congrArg (X.P.funcs[·]?) hb,h1⟩⟩
def Fresh (X:Cx)(f:FuncId)(args:List AV)(n:Nat)(P:List (List AV)→Prop):Prop :=
 Jh X.P f∧ACalls X f args ⟨[],[]⟩ fun e S'=>∃ rows,e=.ret (.bsl 0 n)∧S'=⟨[rows],[]⟩∧P rows
theorem Aiy (hI:Inv X E S w){rows:List (List AV)}(hflat:D9 0 0 rows)(hI1:Inv X E1 ⟨[rows],[]⟩ w')(ev:Evol (E.sub [] []) w E1 w' 0 0) :
 ∃ blk sz,E1.boxes[0]?=some (some (blk,sz))∧Evol E w (E.addBox blk sz) w' E.boxes.length E.toks.length∧Inv X (E.addBox blk sz) ⟨S.boxes++[rows],S.toks⟩ w':=by
 have hτl:∀ t,t∈([]:List Nat)→t<E.toks.length:=fun t h=>by cases h
 have nb1:E1.boxes.length=1:=hI1.nb
 obtain ⟨⟨blk,sz⟩,hB⟩:=hI1.np 0 (by omega)
 have nt1:E1.toks=[]:=by have:=hI1.nt;simpa using this
 have own1:∀ b,E1.own b→b=blk:=fun b h=>by
  rcases h with ⟨j,s,h⟩ | ⟨t,l,c,s,h⟩
  ·have:=Aa h
   have:j=0:=by omega
   subst this
   rw [hB] at h;cases h;rfl
  ·rw [nt1] at h;simp at h
 have ownb:E1.own blk:=.inl ⟨0,sz,hB⟩
 have nown:∀ b,¬ (E.sub [] []).own b:=fun b h=>by
  rcases (Kw hτl).1 h with ⟨j,s,hj,_⟩ | ⟨t,l,c,s,ht,_⟩
  ·cases hj
  ·cases ht
 have hge:w.heap.size≤blk:=by
  rcases Nat.lt_or_ge blk w.heap.size with h | h
  ·exact absurd (ev.own blk h ownb) (nown blk)
  ·exact h
 have hlt1:blk<w'.heap.size:=hI1.own_lt ownb
 have frE:∀ {b o:Nat},E.mt b o→E1.fr b o:=fun {b o} h=>by
  rw [ev.fr]
  refine ⟨h,fun ho=>?_⟩
  rcases ho with ⟨j,s,hj,_⟩ | ⟨t,l,c,s,ht,_⟩
  ·cases hj
  ·cases ht
 have hfar:∀ {b:Nat},b<w.heap.size→w'.heap[b]?=w.heap[b]?:=fun {b} h=>ev.block b h (nown b)
 have hmtx:∀ {b o:Nat},(E.addBox blk sz).mt b o→E.mt b o∨b=blk:=fun {b o} h=>by
  rcases h with h | ⟨j,s,h⟩ | h
  ·exact .inl (.inl h)
  ·rcases getElem?_snoc h with h | ⟨_,h⟩
   ·exact .inl (.inr (.inl ⟨j,s,h⟩))
   ·cases h;exact .inr rfl
  ·exact .inl (.inr (.inr h))
 have hownx:∀ {b:Nat},(E.addBox blk sz).own b→E.own b∨b=blk:=fun {b} h=>by
  rcases h with ⟨j,s,h⟩ | h
  ·rcases getElem?_snoc h with h | ⟨_,h⟩
   ·exact .inl (.inl ⟨j,s,h⟩)
   ·cases h;exact .inr rfl
  ·exact .inl (.inr h)
 have hne:∀ {b:Nat},E.own b→b≠blk:=fun {b} h e=>by have:=hI.own_lt h;omega
 have ev2:Evol E w (E.addBox blk sz) w' E.boxes.length E.toks.length:=by
  refine ⟨rfl,fun j hj hl=>⟨by simp [Env.addBox];omega,fun x hx=>getElem?_snoc_left hx⟩,fun t ht k hk=>⟨k,hk,.inl rfl⟩,ev.os,ev.tape,ev.output,ev.size,fun b hb _=>hfar hb,
   fun b o v hm hc=>ev.cell b o v (fun h=>hm (Ni hτl h)) hc,fun b o hb h=>?_,fun b hb h=>?_,rfl,ev.ty,fun _ _ _ b _ _ _ _ o ho=>by rw [hfar (Jp ho)];exact ho⟩
  ·rcases hmtx h with h | h
   ·exact h
   ·omega
  ·rcases hownx h with h | h
   ·exact h
   ·omega
 refine ⟨blk,sz,hB,ev2,?_⟩
 obtain ⟨cs1,e1,hh1,hs1,hl1,hr1⟩:=hI1.box 0 blk sz rows hB rfl
 have hmt1:∀ b o,(E.addBox blk sz).mt b o→E1.mt b o:=fun b o h=>by
  rcases hmtx h with h | rfl
  ·exact .inl (frE h)
  ·exact .inr (.inl ⟨0,sz,hB⟩)
 exact {
  nb:=by simp [Env.addBox,hI.nb]
  nt:=hI.nt
  np:=fun j hj=>by
   simp only [Env.addBox,List.length_append,List.length_singleton] at hj ⊢
   rcases Nat.lt_or_ge j E.boxes.length with h | h
   ·rw [List.getElem?_append_left h];exact hI.np j h
   ·have:j=E.boxes.length:=by omega
    subst this;exact ⟨_,getElem?_snoc_new _ _⟩
  box:=fun j b s rows' h1 h2=>by
   rcases getElem?_snoc h1 with h1 | ⟨hj,h1⟩
   ·have h2':S.boxes[j]?=some rows':=by
     rcases getElem?_snoc h2 with h2 | ⟨hj,_⟩
     ·exact h2
     ·have:=Aa h1;rw [hI.nb] at this;omega
    obtain ⟨cs',e',hh',hs',hl',hr'⟩:=hI.box j b s rows' h1 h2'
    exact ⟨cs',e',(hfar (hI.own_lt (.inl ⟨j,s,h1⟩))).trans hh',hs',hl',fun k r q x v h3 h4 h5=>(hr' k r q x v h3 h4 h5).step ev2⟩
   ·cases h1
    have h2':rows'=rows:=by
     rcases getElem?_snoc h2 with h2 | ⟨_,h2⟩
     ·have:=Aa h2;rw [← hI.nb] at this;omega
     ·exact h2
    subst h2'
    exact ⟨cs1,e1,hh1,hs1,hl1,fun k r q x v h3 h4 h5=>(hr1 k r q x v h3 h4 h5).env (hflat r (List.mem_of_getElem? h3) x (List.mem_of_getElem? h4)) hmt1⟩
  tok:=fun t l b c s h=>by
   obtain ⟨h1,h0,cs,e,hh,hs⟩:=hI.tok t l b c s h
   exact ⟨h1,h0,cs,e,(hfar (hI.own_lt (.inr ⟨t,l,c,s,h⟩))).trans hh,hs⟩
  bb:=fun i j b s s' h1 h2=>by
   rcases getElem?_snoc h1 with h1 | ⟨hi,h1⟩<;>rcases getElem?_snoc h2 with h2 | ⟨hj,h2⟩
   ·exact hI.bb i j b s s' h1 h2
   ·cases h2;exact absurd rfl (hne (.inl ⟨i,s,h1⟩))
   ·cases h1;exact absurd rfl (hne (.inl ⟨j,s',h2⟩))
   ·omega
  bt:=fun i t b s l c sz' h1 h2=>by
   rcases getElem?_snoc h1 with h1 | ⟨hi,h1⟩
   ·exact hI.bt i t b s l c sz' h1 h2
   ·cases h1;exact absurd rfl (hne (.inr ⟨t,l,c,sz',h2⟩))
  tt:=hI.tt
  frlt:=fun b o h=>⟨fun h'=>by
   rcases hownx h' with h' | h'
   ·exact (hI.frlt b o h).1 h'
   ·have:=(hI.frlt b o h).2;omega,Nat.lt_of_lt_of_le (hI.frlt b o h).2 ev.size⟩
  lo:=fun b h=>by
   rcases hownx h with h | h
   ·exact hI.lo b h
   ·rw [h];exact hI1.lo blk ownb
  frlo:=hI.frlo
  sz:=hI1.sz
  glob:=hI1.glob }
theorem AK.fr {l:List Nat}{k:List Item}{c:Call}{fo:Operand}{f:FuncId}{caps xs zs ys:List AV}{n:Nat}{P:List (List AV)→Prop}(hc:Fresh X f ys n P)(hflat:∀ rows,P rows→D9 0 0 rows)
 (hk:∀ rows,P rows→AK X B (.inRegion ops l::k) (putF o.dst (.bsl S.boxes.length n) F) ⟨S.boxes++[rows],S.toks⟩ R)(ho:ops[i]?=some o:=by rfl)(hw:As ops F o=some true:=by rfl)(hop:o.op=.call c:=by rfl)
 (hcal:c.callee=.value fo:=by rfl)(hfo:Cg X F fo=some (.fn f caps):=by rfl)(hx:Ej X F c.args.toList=some xs:=by rfl)(hzs:G0 xs caps=some zs:=by rfl)(hd:Ci B.fn.ntmps o.dst=true:=by rfl) [ha:RinL [] [] zs ys] :
 AK X B (.inRegion ops (i::l)::k) F S R:=by
 intro E w a b cs hI hF hn hm hb
 have nt:E.toks.length=S.toks.length:=by rw [← hI.nt];simp
 have hτl:∀ t,t∈([]:List Nat)→t<E.toks.length:=fun t h=>by cases h
 have hz:=Ml hzs
 obtain ⟨vs,h1,h2,h3⟩:=Li hop hcal hc.1 hI hF hfo hx
 have hsub:Inv X (E.sub [] []) ⟨[],[]⟩ w:=hI.sub (σ:=[]) (τ:=[]) List.nodup_nil List.nodup_nil hτl (Sc:=⟨[],[]⟩) .nil (fun j h=>by cases h) rfl
 have hcalls:=hc.2 (E.sub [] []) w vs rfl hsub (by rw [h2,hz,ha.s.get.1]) (fun j v y hv hy=>by
  obtain ⟨x,hxj⟩:=Ab zs (i:=j) (by have:=Aa hy;rw [ha.s.get.1] at this;exact this)
  exact (ha.s.get.2 j x y hxj hy).fwd (fun b o=>Ni hτl) (fun i j q h1 h2=>Fo.2 ⟨i,h1,h2⟩) (fun i j k h1 h2=>(Gu hτl).2 ⟨i,h1,h2⟩) (h3 j v x hv (by rw [hz];exact hxj)))
 have hdo:Does X ops i a w fun v w'=>∃ rows,P rows∧∃ E',Inv X E' ⟨S.boxes++[rows],S.toks⟩ w'∧Evol E w E' w' E.boxes.length E.toks.length∧Rel E' w' v (.bsl S.boxes.length n):=by
  refine Does.call ho (Bj hF hw) h1 (hcalls.mono fun e w' he=>?_)
  obtain ⟨E1,S1,d1,d2,d3⟩:=he
  cases e with
  | returned v =>
    obtain ⟨r',hr',rows,hre,rfl,hP⟩:=d3
    cases hre
    obtain ⟨blk,sz,hB,ev2,hI2⟩:=Aiy hI (hflat rows hP) d1 d2
    refine ⟨v,rfl,rows,hP,_,hI2,ev2,?_⟩
    cases hr' with
    | bsl _ blk' sz' _ cap hB' hcap =>
      rw [hB] at hB';cases hB'
      exact .bsl _ blk sz n cap (by rw [← hI.nb];exact getElem?_snoc_new _ _) hcap
  | panicked ch=>obtain ⟨rows,h,_⟩:=d3;cases h
  | outgrown=>exact d3.elim
 obtain ⟨v',w2,⟨rows,hP,E',g1,g2,g3⟩,g4⟩:=hdo b k cs l
 have hF':=(hF.step g2).putF hd g3
 have g4':=g4
 rw [ho] at g4'
 exact Fin.from g4' (g2.weaken (by rw [hI.nb];exact hn) (by omega)) (hk rows hP E' w2 _ b cs g1 hF' (by simp;omega) hm hb)
theorem Fresh.mk {f:FuncId}{fn:Func}{c:Code}{args:List AV}{n:Nat}{P:List (List AV)→Prop}(hf:X.P.funcs[f]?=some fn)(hb:fn.body=some c)(hl:Nat.ble args.length fn.ntmps=true)(hnm:(fn.name == "runtime.NumGoroutine")=false)
 (h:AK X ⟨f,fn,0,0⟩ [.code c] (J8 0 args) ⟨[],[]⟩ fun e S'=>∃ rows,e=.ret (.bsl 0 n)∧S'=⟨[rows],[]⟩∧P rows):Fresh X f args n P :=
 ⟨⟨fn,hf,hnm,by rw [hb];rfl⟩,Ge (n:=0) (m:=0) (hh:=fun C S' hx=>by obtain ⟨rows,hx,_⟩:=hx;cases hx) hf hb hl rfl rfl h⟩
theorem Aip {c:Call}{p q:Operand}{tt tx e e':Nat}{y yx ye:Ty}{rows:List (List AV)}{sp sp':Sp}(ho:ops[i]?=some o:=by rfl)(hw:As ops F o=some true:=by rfl)(hop:o.op=.call c:=by rfl)(hcal:c.callee=.builtin .append:=by rfl)
 (hargs:c.args.toList=[p,q]:=by rfl)(htys:c.argTypes.toList=[tt,tx]:=by rfl)(hp:Cg X F p=some (.sl rows sp):=by rfl)(hq:Cg X F q=some (.sl [] sp'):=by rfl)(hy:X.ty tt=some y:=by rfl)(hyk:y.k=.slc e:=by rfl)(hye:X.ty e=some ye:=by rfl)
 (hyx:X.ty tx=some yx:=by rfl)(hyxk:yx.k=.slc e':=by rfl):Ndo X N ops i o F (.sl rows sp) S S:=by
 refine Ndo.val ho hw fun F' E w a hc hI hF=>?_
 rw [hop] at hc
 obtain ⟨callee,args,argTypes⟩:=c
 simp only at hcal hargs htys
 subst hcal
 have ha:args=#[p,q]:=by rw [← Array.toList_inj];exact hargs
 have ht:argTypes=#[tt,tx]:=by rw [← Array.toList_inj];exact htys
 subst ha;subst ht
 have r1:=Ah hI hF ((hc p (by simp [Op.operands,Call.operands])).trans hp)
 have r2:=Ah hI hF ((hc q (by simp [Op.operands,Call.operands])).trans hq)
 obtain ⟨d1,hd1,hk1⟩:=(X.ty_ok tt y hy).agg
 simp only [hyk] at hk1
 obtain ⟨rfl,ye',hye',hne0⟩:=hk1
 rw [hye] at hye';cases hye'
 obtain ⟨d2,hd2,hk2⟩:=(X.ty_ok tx yx hyx).agg
 simp only [hyxk] at hk2
 obtain ⟨rfl,_⟩:=hk2
 generalize hu:a.eval p=u at r1
 generalize hv:a.eval q=v at r2
 have r1':=r1
 cases r2 with
 | sl _ _ a2 n2 cap2 b2 o2 sz2 vals2 hn2 hx2 ha2 hszr2 hm2 hcl2 hr2 hs2 hcap2 =>
   have h0:n2=0:=by simpa using hn2.symm
   subst h0
   cases r1 with
   | sl _ _ a1 n1 cap1 b1 o1 sz1 vals1 hn1 hx1 ha1 hszr1 hm1 hcl1 hr1 hs1 hcap1 =>
     refine ⟨.slice a1 n1 cap1,?_,r1'⟩
     have hf:(Builtin.firstCells ye.size 0 (.slice a2 0 cap2)).run X.P w=.ok ([]:List Value).toArray w:=by
      cases a2 with
      | none=>exact run_firstCells_none _ _ _ _ _
      | some a0=>exact run_firstCells_some _ _ _ _ _ _ _ (by simp) (fun j v hj=>by simp at hj)
     cases a1 with
     | none=>simp [execOp,hop,resolve,invoke,builtin,hu,hv,Builtin.append_,run_underlying hd1,run_underlying hd2,Cb hye,Builtin.lenOf,hcap1,hf]
     | some a0=>simp [execOp,hop,resolve,invoke,builtin,hu,hv,Builtin.append_,run_underlying hd1,run_underlying hd2,Cb hye,Builtin.lenOf,hcap1,hf,storeCells]
end
end Go.V
namespace Go.V
open Go Go.Proofs
instance {n m c:Nat}:OKR n m (List.replicate c zN):=⟨fun r hr x hx=>by
 rw [List.eq_of_mem_replicate hr] at hx
 exact (inferInstance:OKL n m zN).ok x hx⟩
abbrev rB (l:List Nd)(c:Nat):List (List AV):=Ai l++List.replicate c zN
theorem Tc {l:List Nd}{i c:Nat}{x:Nd}(h:l[i]?=some x):(rB l c)[i]?=some (Ae x):=by
 rw [List.getElem?_append_left (by rw [Ad];exact Aa h)];exact Al h
theorem Aq7 (l:List Nd)(c i:Nat)(x:Nd)(h:i<l.length):(rB l c).set i (Ae x)=rB (l.set i x) c:=by
 rw [rB,rB,List.set_append_left _ _ (by rw [Ad];exact h),Aj,Aj,List.map_set]
theorem Adw (l:List Nd)(c:Nat):(rB l c).length=l.length+c:=by simp [Ad]
theorem Sx (a b:List Nd):Ai (a++b)=Ai a++Ai b:=by rw [Aj,Aj,Aj,List.map_append]
theorem Aph (l:List Nd)(c:Nat):∀ r,r∈rB l c→r.length=4:=fun r hr=>by
 rcases List.mem_append.1 hr with h | h
 ·exact Fa.1 (Ct l) r h
 ·rw [List.eq_of_mem_replicate h];rfl
section
variable {X:Cx}{B:Bx}{S:St}{F F':Bs}{R:AE→St→Prop}{N:Nat}{ops:Array Oper}{i:Nat}{l:List Nat}{k K:List Item}{o:Oper}{p q:Operand}
theorem AK.ldB {t b r:Nat}{y:Ty}{cs:List AV}{rows:List (List AV)}{x:AV}{S2:St}(hr:rows[r]?=some cs)(hk:AK X B K F' S2 R)(ho:ops[i]?=some o:=by rfl)(hw:As ops F o=some true:=by rfl)(hop:o.op=.load t p:=by rfl)
 (hp:Cg X F p=some (.ptr b r 0):=by rfl)(hy:X.ty t=some y:=by rfl)(hb:S.boxes[b]?=some rows:=by rfl)(hl:cs.length=y.size:=by rfl)(hx:Ui (El y.k) cs=some x:=by rfl)(hd:Ci B.fn.ntmps o.dst=true:=by rfl)
 (he:Go.V.ev X B.fn.ntmps 200 (.inRegion ops l::k) (putF o.dst x F) S=(K,F',S2):=by rfl):AK X B (.inRegion ops (i::l)::k) F S R :=
 AK.op (Le hb hr hl ho hw hop hp hy hx) hk ho hd he
theorem AK.atB {t e b n:Nat}{ik:IntKind}{y ye:Ty}{rows:List (List AV)}{r:List AV}(j:Nat)(hj:j<n)(hr:rows[j]?=some r)(hk:AK X B (.inRegion ops l::k) (putF o.dst (.ptr b j 0) F) S R)(ho:ops[i]?=some o:=by rfl)(hw:As ops F o=some true:=by rfl)
 (hop:o.op=.indexAddr t p q:=by rfl)(hp:Cg X F p=some (.bsl b n):=by rfl)(hq:Cg X F q=some (.val (.int ik j)):=by rfl)(hy:X.ty t=some y:=by rfl)(hyk:y.k=.slc e:=by rfl)(hye:X.ty e=some ye:=by rfl)(hb:S.boxes[b]?=some rows:=by rfl)(hl:r.length=ye.size:=by rfl)
 (hd:Ci B.fn.ntmps o.dst=true:=by rfl):AK X B (.inRegion ops (i::l)::k) F S R :=
 AK.nd (Ha (j:=j) ho hw hop hp hq hy hyk hye (by simpa [Nat.blt_eq] using hj) hb hr hl) ho hd hk
theorem AK.stB {t b r:Nat}{y:Ty}{x:AV}{xs cs:List AV}{rows:List (List AV)}{bx:List (List (List AV))}{S2:St}(hr:rows[r]?=some cs)(hk:AK X B K F' S2 R)(ho:ops[i]?=some o:=by rfl)(hw:As ops F o=some true:=by rfl)(hop:o.op=.store t p q:=by rfl)
 (hp:Cg X F p=some (.ptr b r 0):=by rfl)(hq:Cg X F q=some x:=by rfl)(hy:X.ty t=some y:=by rfl)(hb:S.boxes[b]?=some rows:=by rfl)(hc:cellsOf x=some xs:=by rfl)(hl:xs.length=y.size:=by rfl)(hl':cs.length=y.size:=by rfl)
 (hbx:S.boxes.set b (rows.set r xs)=bx:=by rfl)(hd:Ci B.fn.ntmps o.dst=true:=by rfl)(he:Go.V.ev X B.fn.ntmps 200 (.inRegion ops l::k) (putF o.dst .junk F) ⟨bx,S.toks⟩=(K,F',S2):=by rfl):AK X B (.inRegion ops (i::l)::k) F S R:=by
 subst hbx
 exact AK.op (Ndo.store ho hw hop hy hp hq (Ql hb hr hc hl hl')) hk ho hd he
end
theorem An4 (l:List Nd)(hne:l≠[])(hl:l.length≤1000000000):Fresh X 223 [.sl (Ai l) .no] l.length fun rows=>∃ c,rows=rB l c:=by
 have hu:X.P.underlying 28=some (.slice 30):=by kernel_rfl
 refine Fresh.mk Tryz.func223 rfl rfl (by kernel_rfl) ?_
 refine AK.ev 100 rfl ?_
 refine AK.nilS hu (fun c hc=>?_)
 have hc':=hc (by rw [Aj];simpa using hne)
 subst hc'
 refine AK.ev 100 rfl ?_
 refine AK.no ?_
 have hn:Ai l≠[]:=by rw [Aj];simpa using hne
 refine AK.cloneB (fun cc=>?_) (Fa.1 (Ct l)) (Ho.1 (Abp l)) hn (by rw [Ad];omega)
 refine AK.ev 100 rfl ?_
 refine AK.retK Tryz.func223 ?_
 exact ⟨rB l cc,by rw [Ad];rfl,rfl,cc,rfl⟩
theorem Akr:Pure X 223 [.sl [] .no] (.sl [] .no):=by
 have hu:X.P.underlying 28=some (.slice 30):=by kernel_rfl
 refine Pure.mk Tryz.func223 rfl rfl (by kernel_rfl) ?_
 refine AK.ev 100 rfl ?_
 refine AK.nilS hu (fun c hc=>?_)
 refine AK.ei (fun h=>?_) (fun h=>?_)
 ·refine AK.as_ 2 (.sl [] .tight) ?_
  exact AK.rz Tryz.func223 rfl
 ·refine AK.op Aip ?_
  exact AK.rz Tryz.func223 rfl
theorem Ajk (l:List Nd)(c:Nat)(f:FuncId)(caps:List AV)(p:Nd→Bool)(hl:l.length≤1000000000) [hok:OKL 0 0 caps](hp:∀ x,x∈l→Pure X f (nd x::caps) (vb (p x)))(hcat:∀ xs,G0 xs caps=some (xs++caps)) :
 Hands X 225 [.bsl 0 l.length,.fn f caps] ⟨[rB l c],[]⟩ (vi (G5 p 0 l)) ⟨[rB l c],[]⟩:=by
 have:OKL 1 0 caps:=⟨fun x hx=>(hok.ok x hx).mono (by omega) (by omega)⟩
 refine Hands.run (n:=1) (m:=0) Tryz.func225 ?_
 refine AK.while_ (ι:=Nat) 1 0 (fun i=>i≤l.length∧G5 p 0 l=G5 p i (l.drop i)) (fun i=>[(8,vi i),(7,vi l.length),(0,.bsl 0 l.length),(1,.fn f caps)]) (fun _=>⟨[rB l c],[]⟩) (fun i=>l.length-i) ?_ 0 ⟨Nat.zero_le _,rfl⟩
  ⟨rfl,rfl,rfl,rfl,trivial⟩
 intro i hi IH
 refine AK.ei (fun h=>?_) (fun h=>?_)
 ·have hlt:i<l.length:=by have:=of_decide_eq_true h;omega
  obtain ⟨x,hx⟩:=Ab l hlt
  have hd:G5 p i (l.drop i)=if p x then (i:Int) else G5 p (i+1) (l.drop (i+1)):=by rw [Ba hx];rfl
  refine AK.atB i hlt (Tc (c:=c) hx) ?_
  refine AK.ldB (Tc (c:=c) hx) ?_
  refine AK.pc (hp x (List.mem_of_getElem? hx)) ?_ (hzs:=hcat _)
  refine AK.if_ (fun h2=>?_) (fun h2=>?_)
  ·refine AK.rb Tryz.func225 ?_ rfl
   have h3:p x=true:=h2
   rw [hi.2,hd,h3];rfl
  ·have h3:p x=false:=h2
   exact IH (i+1) ⟨hlt,by rw [hi.2,hd,h3];rfl⟩ (by omega) _ _ ⟨vsx (by omega),rfl,rfl,rfl,trivial⟩ rfl rfl rfl
 ·have:i=l.length:=by have:=of_decide_eq_false h;omega
  refine AK.rb Tryz.func225 ?_ rfl
  rw [hi.2,this,List.drop_length];rfl
theorem Xv {p:Nd→Bool}:∀ {l:List Nd}{i:Nat},G5 p i l=-1→l.filter (fun x=>!p x)=l
 | [],i,_=>rfl
 | x::l,i,h=>by
   simp only [G5] at h
   split at h
   ·omega
   ·rename_i hx
    have:=Xv h
    have hx':p x=false:=by simpa using hx
    rw [List.filter_cons,hx',Bool.not_false,if_pos rfl,this]
theorem Sg {p:Nd→Bool}:∀ {l:List Nd}{i:Nat},G5 p i l≠-1→∃ j x,G5 p i l=((i+j:Nat):Int)∧l[j]?=some x∧p x=true∧(l.take j).filter (fun x=>!p x)=l.take j
 | [],i,h=>by simp [G5] at h
 | x::l,i,h=>by
   simp only [G5] at h ⊢
   by_cases hx:p x=true
   ·rw [if_pos hx]
    exact ⟨0,x,by simp,rfl,hx,rfl⟩
   ·rw [if_neg hx] at h ⊢
    obtain ⟨j,y,h1,h2,h3,h4⟩:=Sg h
    have hx':p x=false:=by simpa using hx
    refine ⟨j+1,y,by rw [h1];omega,by simpa using h2,h3,?_⟩
    rw [List.take_succ_cons,List.filter_cons,hx',Bool.not_false,if_pos rfl,h4]
theorem Ai5 {l cur:List Nd}{q:Nd→Bool}{i j:Nat}{x:Nd}(hij:i<j)(hj:l[j]?=some x)(hlen:cur.length=l.length)(h1:cur.take i=(l.take j).filter q)(h2:cur.drop j=l.drop j) :
 cur[j]?=some x∧(q x=false→cur.take i=(l.take (j+1)).filter q∧cur.drop (j+1)=l.drop (j+1)) ∧
  (q x=true→(cur.set i x).take (i+1)=(l.take (j+1)).filter q∧(cur.set i x).drop (j+1)=l.drop (j+1)):=by
 have hjl:=Aa hj
 have hcj:cur[j]?=some x:=by
  have:=congrArg (fun t:List Nd=>t[0]?) h2
  simp only [List.getElem?_drop,Nat.add_zero] at this
  rw [this];exact hj
 have hd:cur.drop (j+1)=l.drop (j+1):=by
  have:=congrArg List.tail h2
  simpa [List.tail_drop] using this
 have ht:(l.take (j+1)).filter q=(l.take j).filter q++[x].filter q:=by rw [List.take_add_one,hj,List.filter_append];rfl
 refine ⟨hcj,fun hq=>⟨?_,hd⟩,fun hq=>⟨?_,?_⟩⟩
 ·rw [ht,h1];simp [hq]
 ·rw [ht,← h1]
  have hi:i<cur.length:=by omega
  rw [List.take_add_one,List.take_set_of_le (Nat.le_refl _)]
  simp [hi,hq]
 ·rw [List.drop_set_of_lt (by omega)];exact hd
theorem Agz (l:List Nd)(c:Nat)(f:FuncId)(caps:List AV)(p:Nd→Bool)(hl:l.length≤1000000000) [hok:OKL 0 0 caps](hp:∀ x,x∈l→Pure X f (nd x::caps) (vb (p x)))(hcat:∀ xs,G0 xs caps=some (xs++caps)) :
 Hands X 222 [.bsl 0 l.length,.fn f caps] ⟨[rB l c],[]⟩ (.bsl 0 (l.filter fun x=>!p x).length)
  ⟨[rB (l.filter fun x=>!p x) (l.length-(l.filter fun x=>!p x).length+c)],[]⟩:=by
 have:OKL 1 0 caps:=⟨fun x hx=>(hok.ok x hx).mono (by omega) (by omega)⟩
 have hf:=Ajk l c f caps p hl hp hcat
 refine Hands.run (n:=1) (m:=0) Tryz.func222 ?_
 refine AK.hc [0] [] hf ?_
 refine AK.if_ (fun h1=>?_) (fun h1=>?_)
 ·have h1':G5 p 0 l=-1:=by simpa using h1
  rw [Xv h1',Nat.sub_self,Nat.zero_add]
  exact AK.ret (n:=1) (tk:=[]) Tryz.func222 rfl rfl rfl rfl
 have h1':G5 p 0 l≠-1:=by simpa using h1
 obtain ⟨j0,x0,e0,e1,e2,e3⟩:=Sg h1'
 rw [Nat.zero_add] at e0
 have hj0:=Aa e1
 have hwj:IntKind.i64.wrap (G5 p 0 l+1)=((j0+1:Nat):Int):=by rw [e0];exact (Ac (by omega) (by omega)).trans (by omega)
 have hstart:l.take j0=(l.take (j0+1)).filter fun x=>!p x:=by
  rw [List.take_add_one,e1,List.filter_append,e3];simp [e2]
 refine AK.while_ (ι:=Nat × Nat × List Nd) 1 0 (fun s=>s.1<s.2.1∧s.2.1≤l.length∧s.2.2.length=l.length∧s.2.2.take s.1=(l.take s.2.1).filter (fun x=>!p x)∧s.2.2.drop s.2.1=l.drop s.2.1)
  (fun s=>[(6,vi s.2.1),(5,vi s.1),(0,.bsl 0 l.length),(1,.fn f caps)]) (fun s=>⟨[rB s.2.2 c],[]⟩) (fun s=>l.length-s.2.1) ?_ (j0,j0+1,l) ⟨Nat.lt_succ_self _,hj0,rfl,hstart,rfl⟩
  ⟨Bn hwj,Bn e0,rfl,rfl,trivial⟩
 rintro ⟨i,j,cur⟩ ⟨g1,g2,g3,g4,g5⟩ IH
 simp only at g1 g2 g3 g4 g5 IH ⊢
 refine AK.ei (fun h2=>?_) (fun h2=>?_)
 ·have hlt:j<l.length:=by have:=of_decide_eq_true h2;omega
  have hj1:IntKind.i64.wrap ((j:Int)+1)=((j+1:Nat):Int):=(Ac (by omega) (by omega)).trans (by omega)
  have hi1:IntKind.i64.wrap ((i:Int)+1)=((i+1:Nat):Int):=(Ac (by omega) (by omega)).trans (by omega)
  obtain ⟨x,hx⟩:=Ab l hlt
  obtain ⟨s1,s2,s3⟩:=Ai5 (q:=fun x=>!p x) g1 hx g3 g4 g5
  refine AK.atB j hlt (Tc (c:=c) s1) ?_
  refine AK.ldB (Tc (c:=c) s1) ?_
  refine AK.pc (hp x (List.mem_of_getElem? hx)) ?_ (hzs:=hcat _)
  refine AK.if_ (fun h3=>?_) (fun h3=>?_)
  ·have hpx:p x=false:=by have:(!p x)=true:=h3;simpa using this
   obtain ⟨t1,t2⟩:=s3 (by simp [hpx])
   have hil:i<cur.length:=by omega
   obtain ⟨y,hy⟩:=Ab cur hil
   refine AK.atB i (show i<l.length by omega) (Tc (c:=c) hy) ?_
   refine AK.stB (bx:=[rB (cur.set i x) c,[Ae x]]) (Tc (c:=c) hy) ?_ (hbx:=by rw [← Aq7 _ _ _ _ hil];rfl)
   refine IH (i+1,j+1,cur.set i x) ⟨by simp only;omega,hlt,by simpa using g3,t1,t2⟩ (by simp only;omega) _ _ ⟨Bn hj1,Bn hi1,rfl,rfl,trivial⟩ rfl rfl rfl
  ·have hpx:p x=true:=by have:(!p x)=false:=h3;simpa using this
   obtain ⟨t1,t2⟩:=s2 (by simp [hpx])
   exact IH (i,j+1,cur) ⟨by simp only;omega,hlt,g3,t1,t2⟩ (by simp only;omega) _ _ ⟨Bn hj1,rfl,rfl,rfl,trivial⟩ rfl rfl rfl
 ·have hje:j=l.length:=by have:=of_decide_eq_false h2;omega
  subst hje
  rw [List.take_length] at g4
  have hfl:(l.filter fun x=>!p x).length=i:=by
   have:=congrArg List.length g4
   rw [List.length_take] at this
   omega
  have hrows:rB cur c≠[]:=by
   intro h
   have:cur.length+c=0:=by rw [← Adw,h];rfl
   omega
  have hz:(rB cur c).take i++(List.replicate (l.length-i) zN++(rB cur c).drop (i+(l.length-i)))=rB (cur.take i) (l.length-i+c):=by
   rw [show i+(l.length-i)=l.length by omega,rB,rB,List.take_append_of_le_length (by rw [Ad];omega),← g3,show cur.length=(Ai cur).length by rw [Ad],List.drop_left,Aj,Aj,← List.map_take,
    ← List.replicate_append_replicate,List.length_map]
  refine AK.op (Agg (l:=i) (rows:=rB cur c) g1 rfl rfl rfl rfl rfl rfl rfl rfl rfl (Aph _ _) hrows) ?_
  refine AK.op (Ndo.clearB (s:=i) (n:=l.length-i) (rows:=rB cur c) (by omega) rfl (by rw [Adw];omega) (Aph _ _) (by exact congrArg (fun r=>[r]) hz) (by intro x hx;simp at hx;rcases hx with rfl | rfl | rfl | rfl<;>rfl) rfl rfl rfl rfl rfl rfl rfl rfl rfl rfl) ?_
  refine AK.op (Agd (h:=(i:Int)) (by omega) (by omega) rfl rfl rfl rfl rfl rfl rfl rfl) ?_
  rw [hfl,← g4]
  exact AK.ret (n:=1) (tk:=[]) Tryz.func222 rfl rfl rfl rfl
theorem Afq (n:Nd)(hne:n.kids≠[])(hl:n.kids.length≤1000000000):Pure X 162 [nd n] (.sl (Ai n.kids.dropLast) .no):=by
 have hpos:0<n.kids.length:=List.length_pos_iff.2 hne
 have hw1:IntKind.i64.wrap (((Ai n.kids).length:Int)-1)=((n.kids.length-1:Nat):Int):=by rw [Ad];exact (Ac (by omega) (by omega)).trans (by omega)
 refine Pure.run Tryz.func162 ?_
 refine AK.as_ 8 (vi (n.kids.length-1:Nat)) ?_ (Bn hw1)
 refine AK.op (Ul (l:=0) (h:=((n.kids.length-1:Nat):Int)) (r:=Ai n.kids.dropLast) rfl rfl rfl rfl rfl rfl rfl rfl rfl (by omega) (by omega) (by rw [Ad];omega) (Ct _) (by rw [Int.toNat_natCast];exact Oh _)) ?_
 exact AK.rz Tryz.func162 rfl
theorem Akp (n:Nd)(hne:n.kids≠[])(hl:n.kids.length≤1000000000):Pure X 168 [nd n] (nd (Ce n)):=by
 have hpos:0<n.kids.length:=List.length_pos_iff.2 hne
 have hw1:IntKind.i64.wrap (((Ai n.kids).length:Int)-1)=((n.kids.length-1:Nat):Int):=by rw [Ad];exact (Ac (by omega) (by omega)).trans (by omega)
 obtain ⟨lst,hlst⟩:=Ab n.kids (i:=n.kids.length-1) (by omega)
 have hL:Ce n=lst:=by rw [Ce,List.getLastD_eq_getLast?,List.getLast?_eq_getElem?,hlst];rfl
 rw [hL]
 refine Pure.run Tryz.func168 ?_
 refine AK.as_ 8 (vi (n.kids.length-1:Nat)) ?_ (Bn hw1)
 refine AK.ix ((n.kids.length-1:Nat):Int) (by omega) (by rw [Int.toNat_natCast];exact Al hlst) ?_
 exact AK.rz Tryz.func168 rfl
theorem AK.rbsl {f:FuncId}{fn:Func}{F:Bs}{bx:List (List (List AV))}{b c:Nat}{l:List Nd}{k:List Item}(hf:X.P.funcs[f]?=some fn)(hb:bx[b]?=some (rB l c))(hl:l.length≤1000000000)(h:Kl X F ⟨bx,[]⟩ fn.results.toList=some [.bsl b l.length]:=by rfl) :
 AK X ⟨f,fn,0,0⟩ (.code .ret::k) F ⟨bx,[]⟩ fun e S'=>e=.ret (.sl (Ai l) .no)∧S'=⟨[],[]⟩:=by
 refine AK.retZ (B:=⟨f,fn,0,0⟩) hf h 0 (Nat.le_refl _) (r:=.sl (Ai l) .no) ?_ (fun rows hr=>by simp at hr) ⟨rfl,rfl⟩
 have hget:∀ (i:Nat) (r:List AV),(Ai l)[i]?=some r→(rB l c)[i]?=some r:=fun i r h=>by rw [List.getElem?_append_left (Aa h)];exact h
 refine .bsl b l.length (rB l c) (Ai l) (Nat.zero_le _) hb (by rw [Adw];omega) (by unfold Kk;omega) (Ad l) (fun i r r' h1 h2=>?_) (fun i j r r' x y h1 h2 h3 h4=>?_)
 ·rw [hget i r' h2] at h1;cases h1;rfl
 ·rw [hget i r' h2] at h1;cases h1
  rw [h3] at h4;cases h4
  refine .same x ((inferInstance:OKR 0 0 (Ai l)).ok r (List.mem_of_getElem? h2) x (List.mem_of_getElem? h3))
theorem Ab1 (x:Nd)(k:Int):Pure X 224 [nd x,.cptr [vi k]] (vb (!(x.kind==k))):=by
 refine Pure.run Tryz.func224 ?_
 exact AK.rz Tryz.func224 rfl
theorem Ahm (f:FuncId)(caps:List AV) [hok:OKL 0 0 caps](hcat:∀ xs,G0 xs caps=some (xs++caps)):Pure X 222 [.sl [] .no,.fn f caps] (.sl [] .no):=by
 have hi:Pure X 225 [.sl [] .no,.fn f caps] (vi (-1)):=Wh [] f caps (fun _=>true) (by simp) (fun x hx=>by cases hx) hcat
 refine Pure.run Tryz.func222 ?_
 refine AK.pc hi ?_
 refine AK.yes ?_
 exact AK.rz Tryz.func222 rfl
def I6 (n:Nd)(k:Int):List Nd:=n.kids.dropLast.filter fun x=>x.kind==k
theorem Ng (n:Nd)(k:Int)(hne:n.kids≠[])(hl:n.kids.length≤1000000000):Pure X 163 [nd n,vi k] (.sl (Ai (I6 n k)) .no):=by
 have hd:=Afq n hne hl
 have hdl:n.kids.dropLast.length≤1000000000:=by rw [List.length_dropLast];omega
 refine Pure.mk Tryz.func163 rfl rfl (by kernel_rfl) ?_
 refine AK.evj 0 100 rfl ?_
 refine AK.ev 2 rfl ?_
 refine AK.op (Ndo.boxC (x:=vi k)) ?_
 refine AK.pc hd ?_
 by_cases h0:n.kids.dropLast=[]
 ·have hK:I6 n k=[]:=by rw [I6,h0];rfl
  rw [hK,h0]
  refine AK.pc Akr ?_
  refine AK.pc (Ahm 224 [.cptr [vi k]] (Ai3 _)) ?_
  exact AK.rz Tryz.func163 rfl
 ·refine AK.fr (An4 n.kids.dropLast h0 hdl) (fun rows ⟨c,hr⟩=>by subst hr;exact (inferInstance:OKR 0 0 (rB n.kids.dropLast c)).ok) (fun rows ⟨c,hr⟩=>?_)
  subst hr
  have hD:=Agz n.kids.dropLast c 224 [.cptr [vi k]] (fun x=>!(x.kind==k)) hdl (fun x _=>Ab1 x k) (Ai3 _)
  have hfe:(n.kids.dropLast.filter fun x=>!(!(x.kind==k)))=I6 n k:=by simp only [Bool.not_not];rfl
  rw [hfe] at hD
  refine AK.ev 100 rfl ?_
  refine AK.hc [1] [] hD ?_
  refine AK.rbsl Tryz.func163 (b:=1) rfl (Nat.le_trans (List.length_filter_le _ _) hdl)
def F4 (k:Int):Int:=if k=2∨k=21∨k=23∨k=26 then 31 else if k=3∨k=4∨k=22 then 32 else 0
theorem Aob (n:Nd):Pure X 269 [nd n] (vi (F4 n.kind)):=by
 refine Pure.run Tryz.func269 ?_
 repeat' (refine AK.if_ (fun _=>?_) (fun _=>?_))
 all_goals first | refine AK.rt Tryz.func269 ?_ | (refine AK.yes ?_;refine AK.rt Tryz.func269 ?_)
 all_goals (simp_all [F4,Bv])
theorem Ab3 (s:List UInt8):Pure X 166 [str s] (.fn 226 [.cptr [str s]]):=by
 refine Pure.mk Tryz.func166 rfl rfl (by kernel_rfl) ?_
 refine AK.evj 0 100 rfl ?_
 refine AK.ev 1 rfl ?_
 refine AK.op (Ndo.boxC (x:=str s)) ?_
 exact AK.rz Tryz.func166 rfl
theorem X8 (x:Nd)(s:List UInt8):Pure X 226 [nd x,.cptr [str s]] (vb (x.name==s)):=by
 refine Pure.run Tryz.func226 ?_
 exact AK.rz Tryz.func226 rfl
def P7 (l:List Nd)(s:List UInt8):Int:=G5 (fun d=>d.name==s) 0 l
mutual
def I7 (hit:Nd→Bool):Nd→Option (List UInt8)
 | .mk k s m ks=>if hit (.mk k s m ks) then some s else P3 hit ks
def P3 (hit:Nd→Bool):List Nd→Option (List UInt8)
 | []=>none
 | x::l=>match I7 hit x with
   | some s=>some s
   | none=>P3 hit l
end
theorem O9 (hit:Nd→Bool)(n:Nd):I7 hit n=if hit n then some n.name else P3 hit n.kids:=by cases n;rw [I7];rfl
def trC (code:Int)(o:Option (List UInt8)):Int:=match o with
 | some _=>code
 | none=>0
abbrev trV (code:Int)(o:Option (List UInt8)):AV:=.agg [vi (trC code o),str (o.getD [])]
set_option maxHeartbeats 1000000 in
theorem Afr (l:List Nd)(code:Int)(hc:code≠0)(g:FuncId)(caps:List AV)(hit:Nd→Bool)(Q:Nd→Prop)(hl:l.length≤1000000000) [hok:OKL 0 0 caps](hcat:∀ xs,G0 xs caps=some (xs++caps))
 (hQ:∀ x,Q x→(F4 x.kind=0→hit x=false)∧(F4 x.kind≠0→Pure X g (vi (F4 x.kind)::vi (P7 l x.name)::caps) (vb (hit x)))∧∀ k,k∈x.kids→hit x=false→Q k)(n:Nd)(hn:Af n≤1000000000)(hq:Q n) :
 Pure X 227 [.sl (Ai l) .no,nd n,vi code,.fn g caps] (trV code (I7 hit n)):=by
 have hok2:OKL 2 0 caps:=⟨fun x hx=>(hok.ok x hx).mono (by omega) (by omega)⟩
 have hfl:Mu X.P 150=some [0,1]:=by kernel_rfl
 induction n using Nd.ind with
 | h n ih =>
   have hcn:=Be n
   have hll:=Ax n.kids
   obtain ⟨hq0,hq1,hq2⟩:=hQ n hq
   have hloop:hit n=false→AK X ⟨227,Tryz.f227,0,0⟩ (Js false 4 Tryz.f227) [(0,.sl (Ai l) .no),(2,vi code),(3,.fn g caps),(5,.ptr 0 0 0),(8,.ptr 1 0 0)] ⟨[[Ae n],[[vi 0,str []]]],[]⟩
    (fun e S=>e=.ret (trV code (I7 hit n))∧S=⟨[],[]⟩):=fun hf=>by
    rw [O9,if_neg (by simp [hf])]
    refine AK.at_ ?_
    refine AK.ev 100 rfl ?_
    refine AK.while_ (ι:=Nat) 2 0 (fun i=>i≤n.kids.length∧P3 hit n.kids=P3 hit (n.kids.drop i)) (fun i=>[(34,vi i),(33,vi n.kids.length),(32,.sl (Ai n.kids) .no),(0,.sl (Ai l) .no),(2,vi code),(3,.fn g caps),(5,.ptr 0 0 0),(8,.ptr 1 0 0)])
     (fun _=>⟨[[Ae n],[[vi 0,str []]]],[]⟩) (fun i=>n.kids.length-i) ?_ 0 ⟨Nat.zero_le _,rfl⟩ ⟨rfl,by rw [← Ad n.kids];rfl,rfl,rfl,rfl,rfl,rfl,rfl,trivial⟩
    rintro i ⟨hi,hTi⟩ IH
    refine AK.ei (fun h=>?_) (fun h=>?_)
    ·have hlt:i<n.kids.length:=by have:=of_decide_eq_true h;omega
     obtain ⟨x,hx⟩:=Ab n.kids hlt
     have hm:=List.mem_of_getElem? hx
     rw [Ba hx] at hTi
     simp only [P3] at hTi
     refine AK.ix i (by omega) (Al hx) ?_
     refine AK.pc (ih x hm (by have:=Cw hm;omega) (hq2 x hm hf)) ?_
     generalize I7 hit x=o at hTi ⊢
     refine AK.op (O1 (r:=!((trC code o==0)&&((o.getD []==[])&&true))) rfl rfl rfl rfl rfl hfl rfl (.inr ⟨rfl,rfl⟩)) ?_
     cases o with
     | some s =>
       simp only at hTi
       refine AK.yes ?_ (ht:=by simp [trC,hc])
       refine AK.rz Tryz.func227 ?_
       rw [hTi]
     | none =>
       simp only at hTi
       refine AK.no ?_
       exact IH (i+1) ⟨hlt,hTi⟩ (by omega) _ _ ⟨vsx (by omega),rfl,rfl,rfl,rfl,rfl,rfl,rfl,trivial⟩ rfl rfl rfl
    ·have hie:i=n.kids.length:=by have:=of_decide_eq_false h;omega
     rw [hie,List.drop_length] at hTi
     refine AK.rz Tryz.func227 ?_
     rw [hTi];rfl
   refine Pure.run Tryz.func227 ?_
   refine AK.pc (Aob n) ?_
   refine AK.gd (fun h1=>?_) (fun h1=>?_)
   ·have h1':F4 n.kind≠0:=by have:(!(F4 n.kind==0))=true:=h1;simpa using this
    refine AK.pc (Ab3 n.name) ?_
    refine AK.pc (Wh l 226 [.cptr [str n.name]] (fun d=>d.name==n.name) hl (fun x _=>X8 x n.name) (Ai3 _)) ?_
    refine AK.pc (hq1 h1') ?_ (hzs:=hcat _)
    refine AK.ifj 0 4 (fun h2=>?_) (fun h2=>?_)
    ·have h2':hit n=true:=h2
     rw [O9,if_pos h2']
     exact AK.rz Tryz.func227 rfl
    ·exact AK.back' 2 0 (hloop h2) ⟨rfl,rfl,rfl,rfl,rfl,trivial⟩ rfl rfl rfl rfl rfl
   ·have h1':F4 n.kind=0:=by have:(!(F4 n.kind==0))=false:=h1;simpa using this
    refine AK.ifj (e:=false) 0 4 (fun h2=>nomatch h2) (fun _=>?_)
    exact AK.back' 2 0 (hloop (hq0 h1')) ⟨rfl,rfl,rfl,rfl,rfl,trivial⟩ rfl rfl rfl rfl rfl
def I8 (l:List Nd)(x:Nd):Bool:=!(F4 x.kind==0)&&decide (P7 l x.name<0)
def Pp (l:List Nd)(x:Nd):Bool:=!(F4 x.kind==0)&&!((l.getD (P7 l x.name).toNat B2).kind==F4 x.kind)
theorem Akv (a b:Int):Pure X 228 [vi a,vi b] (vb (decide (b<0))):=by
 refine Pure.run Tryz.func228 ?_
 exact AK.rz Tryz.func228 rfl
theorem Akw (l:List Nd)(a b:Int)(h0:0≤b)(h1:b<l.length):Pure X 229 [vi a,vi b,.cptr [.sl (Ai l) .no]] (vb (!((l.getD b.toNat B2).kind==a))):=by
 obtain ⟨x,hx⟩:=Ab l (i:=b.toNat) (by omega)
 have:l.getD b.toNat B2=x:=by simp [List.getD,hx]
 rw [this]
 refine Pure.run Tryz.func229 ?_
 refine AK.ix b h0 (Al hx) ?_
 exact AK.rz Tryz.func229 rfl
theorem Ae5 {p:Nd→Bool}:∀ {l:List Nd}{i:Nat},G5 p i l<((i+l.length:Nat):Int)
 | [],i=>by simp only [G5];omega
 | x::l,i=>by
   simp only [G5,List.length_cons]
   split
   ·omega
   ·have:=Ae5 (p:=p) (l:=l) (i:=i+1)
    omega
def V6 (l:List Nd)(n:Nd):Int × List UInt8:=match I7 (I8 l) n with
 | some s=>(7,s)
 | none=>(trC 8 (I7 (Pp l) n),(I7 (Pp l) n).getD [])
theorem Sa {hit:Nd→Bool}:∀ {l:List Nd},P3 hit l=none→∀ x,x∈l→I7 hit x=none
 | [],_,x,hx=>by cases hx
 | y::l,h,x,hx=>by
   simp only [P3] at h
   split at h
   ·cases h
   ·rename_i hy
    rcases List.mem_cons.1 hx with rfl | hx
    ·exact hy
    ·exact Sa h x hx
theorem Z8 (l:List Nd)(n:Nd)(hl:l.length≤1000000000)(hn:Af n≤1000000000):Pure X 167 [.sl (Ai l) .no,nd n] (.agg [vi (V6 l n).1,str (V6 l n).2]):=by
 have hfl:Mu X.P 150=some [0,1]:=by kernel_rfl
 have h7:=Afr l 7 (by decide) 228 [] (I8 l) (fun _=>True) hl Ap0 (fun x _=>⟨fun h=>by simp [I8,h],fun h=>by
  have:I8 l x=decide (P7 l x.name<0):=by simp [I8,h]
  rw [this];exact Akv _ _,fun _ _ _=>trivial⟩) n hn trivial
 have h8:I7 (I8 l) n=none→Pure X 227 [.sl (Ai l) .no,nd n,vi 8,.fn 229 [.cptr [.sl (Ai l) .no]]] (trV 8 (I7 (Pp l) n)):=fun h0 =>
  Afr l 8 (by decide) 229 [.cptr [.sl (Ai l) .no]] (Pp l) (fun x=>I7 (I8 l) x=none) hl (Ai3 _) (fun x hx=>by
   rw [O9] at hx
   have hx7:I8 l x=false:=by
    cases h:I8 l x with
    | false=>rfl
    | true=>rw [h] at hx;simp at hx
   rw [hx7] at hx
   refine ⟨fun h=>by simp [Pp,h],fun h=>?_,fun k hk _=>Sa (by simpa using hx) k hk⟩
   have:Pp l x=!((l.getD (P7 l x.name).toNat B2).kind==F4 x.kind):=by simp [Pp,h]
   rw [this]
   have hlt:=Ae5 (p:=fun d=>d.name==x.name) (l:=l) (i:=0)
   have h0:¬ P7 l x.name<0:=by
    intro hh
    simp [I8,h,hh] at hx7
   exact Akw l _ _ (by omega) (by simpa [P7] using hlt)) n hn h0
 unfold V6
 refine Pure.mk Tryz.func167 rfl rfl (by kernel_rfl) ?_
 refine AK.evj 0 100 rfl ?_
 refine AK.ev 1 rfl ?_
 refine AK.op (Ndo.boxC (x:=.sl (Ai l) .no)) ?_
 refine AK.pc h7 ?_
 generalize I7 (I8 l) n=o at h8 ⊢
 refine AK.op (O1 (r:=!((trC 7 o==0)&&((o.getD []==[])&&true))) rfl rfl rfl rfl rfl hfl rfl (.inr ⟨rfl,rfl⟩)) ?_
 cases o with
 | some s =>
   refine AK.yes ?_
   exact AK.rz Tryz.func167 rfl
 | none =>
   refine AK.no ?_
   refine AK.pc (h8 rfl) ?_
   exact AK.rz Tryz.func167 rfl
inductive PlO:Nd→Prop where
 | mk (k:Int) (s:List UInt8) (m:Int) (ks:List Nd) (hk:∀ x,x∈ks→PlO x)
    (hf:∀ x,x∈ks→x.kind=26→∃ a b k' s' m' l,x.kids=[a,b,.mk k' s' m' l]∧a.kind≠26∧b.kind≠26∧k'≠26):PlO (.mk k s m ks)
theorem PlO.kids {n:Nd}(h:PlO n):(∀ x,x∈n.kids→PlO x)∧∀ x,x∈n.kids→x.kind=26→∃ a b k' s' m' l,x.kids=[a,b,.mk k' s' m' l]∧a.kind≠26∧b.kind≠26∧k'≠26:=by
 cases h with | mk k s m ks hk hf=>exact ⟨hk,hf⟩
theorem PlO.leaf {k:Int}{s:List UInt8}{m:Int}:PlO (.mk k s m []):=.mk k s m [] (fun x h=>by cases h) (fun x h=>by cases h)
theorem P0 {n:Nd}(h:FE n):PlO n:=by
 induction h with
 | num m h0 h1=>exact .leaf
 | var s h=>exact .leaf
 | cell s a h ha ih=>exact .mk _ _ _ _ (fun x hx=>by simp at hx;subst hx;exact ih) (fun x hx h26=>by simp at hx;subst hx;have:=Bo ha;omega)
 | len s h=>exact .leaf
 | neg a ha ih=>exact .mk _ _ _ _ (fun x hx=>by simp at hx;subst hx;exact ih) (fun x hx h26=>by simp at hx;subst hx;have:=Bo ha;omega)
 | two k a b hk ha hb iha ihb =>
   exact .mk _ _ _ _ (fun x hx=>by simp at hx;rcases hx with rfl | rfl;exact iha;exact ihb) (fun x hx h26=>by
    simp at hx
    rcases hx with rfl | rfl
    ·have:=Bo ha;omega
    ·have:=Bo hb;omega)
theorem Nt {n:Nd}(h:FC n):PlO n:=by
 cases h with
 | mk k a b h0 h1 ha hb =>
   exact .mk _ _ _ _ (fun x hx=>by simp at hx;rcases hx with rfl | rfl;exact P0 ha;exact P0 hb) (fun x hx h26=>by
    simp at hx
    rcases hx with rfl | rfl
    ·have:=Bo ha;omega
    ·have:=Bo hb;omega)
theorem Lg {l:List Nd}(hl:∀ x,x∈l→FS x)(h:∀ x,x∈l→PlO x):PlO (.mk 30 [] 0 l) :=
 .mk _ _ _ _ h fun x hx h26=>by
  have:=hl x hx
  cases this with
  | for_ s a b l' hs ha hb hl'=>exact ⟨a,b,30,[],0,l',rfl,by have:=Bo ha;omega,by have:=Bo hb;omega,by omega⟩
  | _=>simp at h26
theorem Yy {n:Nd}(h:FS n):PlO n:=by
 induction h with
 | set s a h ha=>exact .mk _ _ _ _ (fun x hx=>by simp at hx;subst hx;exact P0 ha) (fun x hx h26=>by simp at hx;subst hx;have:=Bo ha;omega)
 | put s a b h ha hb =>
   exact .mk _ _ _ _ (fun x hx=>by simp at hx;rcases hx with rfl | rfl;exact P0 ha;exact P0 hb) (fun x hx h26=>by
    simp at hx
    rcases hx with rfl | rfl
    ·have:=Bo ha;omega
    ·have:=Bo hb;omega)
 | read s h=>exact .leaf
 | ifs c l l' hc hl hl' ihl ihl' =>
   exact .mk _ _ _ _ (fun x hx=>by simp at hx;rcases hx with rfl | rfl | rfl;exact Nt hc;exact Lg hl ihl;exact Lg hl' ihl') (fun x hx h26=>by
    simp at hx
    rcases hx with rfl | rfl | rfl
    ·have:=Gk hc;omega
    ·simp at h26
    ·simp at h26)
 | whil c l hc hl ihl =>
   exact .mk _ _ _ _ (fun x hx=>by simp at hx;rcases hx with rfl | rfl;exact Nt hc;exact Lg hl ihl) (fun x hx h26=>by
    simp at hx
    rcases hx with rfl | rfl
    ·have:=Gk hc;omega
    ·simp at h26)
 | for_ s a b l h ha hb hl ihl =>
   exact .mk _ _ _ _ (fun x hx=>by simp at hx;rcases hx with rfl | rfl | rfl;exact P0 ha;exact P0 hb;exact Lg hl ihl) (fun x hx h26=>by
    simp at hx
    rcases hx with rfl | rfl | rfl
    ·have:=Bo ha;omega
    ·have:=Bo hb;omega
    ·simp at h26)
 | check c hc=>exact .mk _ _ _ _ (fun x hx=>by simp at hx;subst hx;exact Nt hc) (fun x hx h26=>by simp at hx;subst hx;have:=Gk hc;omega)
 | skip=>exact .leaf
 | stop=>exact .leaf
theorem Apo {n:Nd}(h:FP n):PlO n:=by
 cases h with
 | mk ds l hd hl =>
   refine .mk _ _ _ _ (fun x hx=>?_) (fun x hx h26=>?_)
   ·rcases List.mem_append.1 hx with h | h
    ·cases hd x h with
     | var s h=>exact .leaf
     | arr s m h h0 h1=>exact .leaf
    ·simp at h;subst h;exact Lg hl fun x hx=>Yy (hl x hx)
   ·rcases List.mem_append.1 hx with h | h
    ·have:=Uk (hd x h);omega
    ·simp at h;subst h;simp at h26
abbrev Am1 (s:List UInt8):Nd:=.mk 21 s 0 [.mk 6 [] 0 [.mk 2 s 0 [],.mk 1 [] 1 []]]
def HPl (n:Nd):Prop:=Hands X 56 [nd n] ⟨[],[]⟩ (.agg [vi n.kind,str n.name,vi n.num,.sl (Ai (A4 n.kids)) (.tok 0)]) ⟨[],[(A4 n.kids).length]⟩
theorem HPl.pure {n:Nd}(h:HPl n):Pure X 56 [nd n] (nd (Ap n)):=by
 have:=Hands.pure h
 obtain ⟨k,s,m,ks⟩:=n
 rw [Az]
 exact this
theorem Ak4 (xs:List UInt8)(a' b':Nd)(k':Int)(s':List UInt8)(m':Int)(l':List Nd):Ai [.mk 21 xs 0 [a'],.mk 25 [] 0 [.mk 11 [] 0 [.mk 2 xs 0 [],b'],.mk k' s' m' l']] =
 [[vi 21,str xs,vi 0,.sl [Ae a'] .no],[vi 25,str [],vi 0,.sl [[vi 11,str [],vi 0,.sl [[vi 2,str xs,vi 0,.sl [] .no],Ae b'] .no],[vi k',str s',vi m',.sl (Ai l') .no]] .no]]:=by
 have e1:Ai [a']=[Ae a']:=Aj _
 have e2:Ai [.mk 2 xs 0 [],b']=[Ae (.mk 2 xs 0 []),Ae b']:=Aj _
 have e3:Ai [.mk 11 [] 0 [.mk 2 xs 0 [],b'],.mk k' s' m' l']=[Ae (.mk 11 [] 0 [.mk 2 xs 0 [],b']),Ae (.mk k' s' m' l')]:=Aj _
 have e4:Ai [.mk 21 xs 0 [a'],.mk 25 [] 0 [.mk 11 [] 0 [.mk 2 xs 0 [],b'],.mk k' s' m' l']]=[Ae (.mk 21 xs 0 [a']),Ae (.mk 25 [] 0 [.mk 11 [] 0 [.mk 2 xs 0 [],b'],.mk k' s' m' l'])]:=Aj _
 rw [e4]
 simp only [Ae,I2,Pg,Sz,Dq,e1,e3,e2]
 rfl
set_option maxHeartbeats 2000000 in
theorem Ajm (n:Nd)(ih:∀ x,x∈n.kids→PlO x→wN x≤1000000000→HPl x)(ih2:∀ x,x∈n.kids→∀ y,y∈x.kids→PlO y→wN y≤1000000000→HPl y)(hp:PlO n)(hw:wN n≤1000000000):HPl n:=by
 have hkl:=D4 n
 obtain ⟨hk,hf⟩:=hp.kids
 unfold HPl
 refine Hands.run Tryz.func56 ?_
 refine AK.mintB 2 0 3 rfl rfl rfl rfl rfl rfl ?_
 refine AK.while_ (ι:=Nat) 3 1 (fun i=>i≤n.kids.length) (fun i=>[(20,vi i),(19,vi n.kids.length),(18,.sl (Ai n.kids) .no),(1,.ptr 0 0 0),(2,.ptr 1 0 0),(3,.ptr 2 0 0)])
  (fun i=>⟨[[Ae n],[zN],[[vi n.kind,str n.name,vi n.num,.sl (Ai (A4 (n.kids.take i))) (.tok 0)]]],[(A4 (n.kids.take i)).length]⟩) (fun i=>n.kids.length-i) ?_ 0
  (Nat.zero_le _) ⟨rfl,by rw [← Ad n.kids];rfl,rfl,rfl,rfl,rfl,trivial⟩ (by simp [Av];rfl)
 intro i hi IH
 refine AK.ei (fun h=>?_) (fun h=>?_)
 ·have hlt:i<n.kids.length:=by have:=of_decide_eq_true h;omega
  obtain ⟨x,hxg⟩:=Ab n.kids hlt
  have hm:=List.mem_of_getElem? hxg
  have hwx:wN x<wN n:=F3 hm
  have hsn:A4 (n.kids.take (i+1))=A4 (n.kids.take i)++Ed x:=by rw [List.take_add_one,hxg,Ol];simp [Ao,Av]
  have hl1:=Is (A4 (n.kids.take i))
  have hl2:=Pi (n.kids.take i)
  have hwk:wL n.kids≤wN n:=by rw [Py];omega
  have hl3:wL (n.kids.take i)≤wL n.kids:=by
   have:=Ox (n.kids.take i) (n.kids.drop i)
   rw [List.take_append_drop] at this;omega
  refine AK.ix i (by omega) (Al hxg) ?_
  refine AK.ifj 0 8 (fun h2=>?_) (fun h2=>?_)
  ·have h2':x.kind≠26:=by have:(!(x.kind==26))=true:=h2;simpa using this
   have hr:=(ih x hm (hk x hm) (by omega)).pure
   rw [A1 h2'] at hsn
   refine AK.dn 160 3 ?_
   refine Bl hr ?_
   refine Drv.w (Ndo.append (res:=Ai (A4 (n.kids.take (i+1)))) rfl rfl rfl rfl rfl rfl rfl rfl rfl rfl rfl rfl rfl rfl (Ad _) (Ct _) rfl rfl rfl ?_ ?_ rfl) ?_
   ·rw [Ad];simp;omega
   ·rw [hsn,Aj,Aj,List.map_append];rfl
   refine Drv.e ?_
   refine Drv.w (Ndo.store rfl rfl rfl rfl rfl rfl rfl) ?_
   refine Drv.z ?_
   refine IH (i+1) hlt (by omega) _ _ ⟨vsx (by omega),rfl,rfl,rfl,rfl,rfl,trivial⟩ ?_ rfl rfl
   simp [St.drop,Ad,hsn]
  ·have h2':x.kind=26:=by have:(!(x.kind==26))=false:=h2;simpa using this
   obtain ⟨a,b,k',s',m',l,hkx,ha,hb,hc⟩:=hf x hm h2'
   obtain ⟨xk,xs,xm,xks⟩:=x
   simp only [I2,Dq] at h2' hkx
   subst h2';subst hkx
   have hpx:=hk _ hm
   have ma:a∈(Nd.mk 26 xs xm [a,b,.mk k' s' m' l]).kids:=by simp
   have mb:b∈(Nd.mk 26 xs xm [a,b,.mk k' s' m' l]).kids:=by simp
   have mc:Nd.mk k' s' m' l∈(Nd.mk 26 xs xm [a,b,.mk k' s' m' l]).kids:=by simp
   have wa:=F3 ma
   have wb:=F3 mb
   have wc:=F3 mc
   have ra:=(ih2 _ hm a ma (hpx.kids.1 a ma) (by omega)).pure
   have rb:=(ih2 _ hm b mb (hpx.kids.1 b mb) (by omega)).pure
   have rc:=ih2 _ hm _ mc (hpx.kids.1 _ mc) (by omega)
   have hlc:=Is (A4 l)
   have hlc2:=Pi l
   have hlc3:wL l≤1000000000:=by
    have:=Py (Nd.mk k' s' m' l)
    simp only [Dq] at this
    omega
   have hp1:Ed (.mk 26 xs xm [a,b,.mk k' s' m' l])=[.mk 21 xs 0 [Ap a],.mk 25 [] 0 [.mk 11 [] 0 [.mk 2 xs 0 [],Ap b],.mk k' s' m' (A4 l++[Am1 xs])]]:=by
    rw [Iw,Ao,Ao,Ao,Av,A1 ha,A1 hb,A1 (x:=.mk k' s' m' l) hc,Az k'];rfl
   rw [hp1] at hsn
   refine AK.wkB 4 0 3 (.sl [] .no) ?_
   refine AK.evj 9 100 rfl ?_
   refine AK.wkB 5 0 3 (.sl (Ai [.mk 2 xs 0 [],.mk 1 [] 1 []]) .no) ?_
   refine AK.ev 100 rfl ?_
   refine AK.ix 2 (by omega) (rows:=Ai [a,b,.mk k' s' m' l]) (r:=Ae (.mk k' s' m' l)) rfl ?_
   refine AK.hc (τ':=[1]) [] [] rc ?_
   refine AK.wk 53 ?_
   refine AK.op (Ndo.append (res:=Ai (A4 l++[Am1 xs])) rfl rfl rfl rfl rfl rfl rfl rfl rfl rfl rfl rfl rfl rfl (Ad _) (Ct _) rfl rfl rfl ?_ ?_ rfl) ?_
   ·rw [Ad];simp;omega
   ·show Ai (A4 l)++Ai [Am1 xs]=_
    rw [Sx]
   refine AK.dn 768 3 ?_
   refine Drv.ig 1 (by omega) (W8 a b _) ?_
   refine Bl rb ?_
   refine Dv (Ix rfl rfl rfl) ?_ ?_
   ·exact Aq (Ndo.ev rfl rfl rfl) (Aq (Ndo.ev rfl rfl rfl) (Aq (Ndo.ev rfl rfl rfl) Fp))
   refine Drv.w (Ndo.store rfl rfl rfl rfl rfl rfl rfl) ?_
   refine Ack 12 ?_
   refine AK.wkB 7 0 3 (.sl [[vi 2,str xs,vi 0,.sl [] .no],Ae (Ap b)] .no) ?_
   refine AK.dn 327680 6 ?_
   refine Drv.ig 0 (by omega) (Pr a _) ?_
   refine Drv.pc ra ?_
   refine Km 6 ?_
   refine Pz ?_
   refine Drv.w (Ndo.append (res:=Ai (A4 (n.kids.take (i+1)))) rfl rfl rfl rfl rfl rfl rfl rfl rfl rfl rfl rfl rfl rfl (Ad _) (Ct _) rfl rfl rfl ?_ ?_ rfl) ?_
   ·rw [Ad];simp;omega
   ·rw [hsn,Sx (A4 (n.kids.take i)),Ak4];rfl
   refine Drv.e ?_
   refine Drv.w (Ndo.store rfl rfl rfl rfl rfl rfl rfl) ?_
   refine Drv.z ?_
   refine IH (i+1) hlt (by omega) _ _ ⟨vsx (by omega),rfl,rfl,rfl,rfl,rfl,trivial⟩ ?_ rfl rfl
   show St.mk [[Ae n],[zN],[[vi n.kind,str n.name,vi n.num,.sl (Ai (A4 (n.kids.take (i+1)))) (.tok 0)]]] [(Ai (A4 (n.kids.take i))).length+2]=_
   rw [Ad,hsn];simp
 ·have hie:i=n.kids.length:=by have:=of_decide_eq_false h;omega
  subst hie
  rw [List.take_length]
  exact AK.ret Tryz.func56 rfl rfl rfl rfl
theorem Ajl (n:Nd)(hp:PlO n)(hw:wN n≤1000000000):HPl n:=by
 have:∀ n:Nd,(PlO n→wN n≤1000000000→HPl n)∧∀ y,y∈n.kids→PlO y→wN y≤1000000000→HPl y:=by
  intro n
  induction n using Nd.ind with
  | h n ih=>exact ⟨Ajm n (fun x hx=>(ih x hx).1) (fun x hx y hy=>(ih x hx).2 y hy),fun y hy=>(ih y hy).1⟩
 exact (this n).1 hp hw
theorem Ya (n:Nd)(hp:PlO n)(hw:wN n≤1000000000):Pure X 56 [nd n] (nd (Ap n)):=(Ajl n hp hw).pure
theorem PrI.get {n:Nd}(h:PrI n):-9223372036854775808≤n.num∧n.num≤9223372036854775807∧∀ x,x∈n.kids→PrI x:=by
 cases h with | mk k s m ks h0 h1 hk=>exact ⟨h0,h1,hk⟩
theorem PrI.num1 {k:Int}{s:List UInt8}{m:Int}{ks:List Nd}(h0:0≤m)(h1:m≤1)(hk:∀ x,x∈ks→PrI x):PrI (.mk k s m ks):=.mk k s m ks (by omega) (by omega) hk
theorem Akm {x:Nd}(h:PrI x):∀ y,y∈[x]→PrI y:=fun y hy=>by simp at hy;subst hy;exact h
theorem Z6 {a b:Nd}(ha:PrI a)(hb:PrI b):∀ y,y∈[a,b]→PrI y:=fun y hy=>by
 simp at hy
 rcases hy with rfl | rfl
 ·exact ha
 ·exact hb
theorem Aq3 (s:List UInt8):PrI (Am1 s):=.num1 (by omega) (by omega) (Akm (.num1 (by omega) (by omega) (Z6 (.num1 (by omega) (by omega) (fun x h=>by cases h)) (.num1 (by omega) (by omega) (fun x h=>by cases h)))))
theorem Anz (s:List UInt8)(l:List Nd)(h:∀ x,x∈l→PrI x):∀ y,y∈Zg s l→PrI y:=by
 unfold Zg
 split
 ·rename_i a b k' s' m' l'
  have ha:=h a (by simp)
  have hb:=h b (by simp)
  have hc:=(h (.mk k' s' m' l') (by simp)).get
  refine Z6 (.num1 (by omega) (by omega) (Akm ha)) (.num1 (by omega) (by omega) (Z6 (.num1 (by omega) (by omega) (Z6 (.num1 (by omega) (by omega) (fun x h=>by cases h)) hb)) (.mk k' s' m' _ hc.1 hc.2.1 fun x hx=>?_)))
  rcases List.mem_append.1 hx with hx | hx
  ·exact hc.2.2 x hx
  ·simp at hx;subst hx;exact Aq3 s
 ·intro y hy;cases hy
theorem Akn:(∀ n:Nd,PrI n→PrI (Ap n)∧∀ y,y∈Ed n→PrI y)∧∀ l:List Nd,(∀ x,x∈l→PrI x)→∀ y,y∈A4 l→PrI y:=by
 refine Oz (fun k s m ks ih hp=>?_) (fun _ y hy=>by rw [Av] at hy;cases hy) (fun x l hx hl hp y hy=>?_)
 ·have hg:=hp.get
  have h1:PrI (Ap (.mk k s m ks)):=by rw [Az];exact .mk k s m _ hg.1 hg.2.1 (ih hg.2.2)
  refine ⟨h1,fun y hy=>?_⟩
  by_cases hk:k=26
  ·subst hk
   rw [Iw] at hy
   exact Anz s _ (ih hg.2.2) y hy
  ·rw [A1 (x:=.mk k s m ks) hk] at hy
   simp at hy;subst hy;exact h1
 ·rw [Ao] at hy
  rcases List.mem_append.1 hy with hy | hy
  ·exact (hx (hp x (by simp))).2 y hy
  ·exact hl (fun z hz=>hp z (by simp [hz])) y hy
theorem PrI.plain {n:Nd}(h:PrI n):PrI (Ap n):=(Akn.1 n h).1
theorem Ace:∀ {l:List Nd}{pre:List (List UInt8)},twG pre l=none→(∀ d,d∈l→has pre d.name=false)∧∀ x,x∈l→∀ y,y∈l→x.name=y.name→x=y
 | [],pre,_=>⟨fun d h=>(by cases h),fun x h _ _ _=>(by cases h)⟩
 | d::l,pre,h=>by
   simp only [twG] at h
   split at h
   ·cases h
   ·rename_i hd
    obtain ⟨h1,h2⟩:=Ace h
    have h3:∀ e,e∈l→has pre e.name=false∧d.name≠e.name:=fun e he=>by
     have:=h1 e he
     rw [Zr,Bool.or_eq_false_iff] at this
     refine ⟨this.1,fun hh=>?_⟩
     have:=this.2
     simp [has,hh] at this
    refine ⟨fun e he=>?_,fun x hx y hy hxy=>?_⟩
    ·rcases List.mem_cons.1 he with rfl | he
     ·simpa using hd
     ·exact (h3 e he).1
    ·rcases List.mem_cons.1 hx with rfl | hx<;>rcases List.mem_cons.1 hy with rfl | hy
     ·rfl
     ·exact absurd hxy (h3 y hy).2
     ·exact absurd hxy.symm (h3 x (by assumption)).2
     ·exact h2 x hx y hy hxy
theorem Pe (l:List Nd)(k:Int)(s:List UInt8):has (C4 l k) s=l.any fun d=>(d.kind==k)&&(d.name==s):=by
 induction l with
 | nil=>rfl
 | cons d l ih =>
   simp only [C4,has,List.filter_cons] at ih ⊢
   by_cases h:(d.kind==k)=true
   ·rw [if_pos h];simp only [List.map_cons,List.any_cons,h,Bool.true_and,ih]
   ·rw [if_neg h]
    have h':(d.kind==k)=false:=by simpa using h
    simp only [List.any_cons,h',Bool.false_and,Bool.false_or,ih]
theorem Abc (l:List Nd)(s:List UInt8):decide (P7 l s<0)=!(l.any fun d=>d.name==s):=by
 rw [← Q7 _ l 0]
 show decide (P7 l s<0)=!decide (P7 l s≥0)
 by_cases h:P7 l s<0
 ·rw [decide_eq_true h,decide_eq_false (show ¬ P7 l s≥0 by omega)];rfl
 ·rw [decide_eq_false h,decide_eq_true (show P7 l s≥0 by omega)];rfl
theorem Qm (k:Int):(F4 k=31∧G3 k=1)∨(F4 k=32∧G3 k=2)∨(F4 k=0∧G3 k=0):=by
 unfold F4 G3
 repeat' split
 all_goals simp
theorem Ajn {l:List Nd}(hk:∀ d,d∈l→d.kind=31∨d.kind=32)(s:List UInt8):(l.any fun d=>d.name==s)=(has (C4 l 31) s||has (C4 l 32) s):=by
 rw [Pe,Pe]
 induction l with
 | nil=>rfl
 | cons d l ih =>
   simp only [List.any_cons]
   rw [ih fun e he=>hk e (by simp [he])]
   rcases hk d (by simp) with h | h<;>simp [h]
   ·cases (d.name==s)<;>simp
   ·cases (d.name==s)<;>simp [Bool.or_comm,Bool.or_left_comm]
theorem Amp {l:List Nd}(hk:∀ d,d∈l→d.kind=31∨d.kind=32)(x:Nd):I8 l x=He (C4 l 31) (C4 l 32) 7 x.kind x.name:=by
 unfold I8 He
 rw [Abc,Ajn hk,N9,N9]
 rcases Qm x.kind with ⟨h1,h2⟩ | ⟨h1,h2⟩ | ⟨h1,h2⟩<;>simp [h1,h2]
theorem Am0 {p:Nd→Bool}{l:List Nd}(h:(l.any p)=true):∃ d,d∈l∧p d=true∧l.getD (G5 p 0 l).toNat B2=d:=by
 have h0:G5 p 0 l≠-1:=by
  intro e
  have:=Q7 p l 0
  rw [h,e] at this
  simp at this
 obtain ⟨j,d,h1,h2,h3,_⟩:=Sg h0
 refine ⟨d,List.mem_of_getElem? h2,h3,?_⟩
 rw [h1]
 simp [List.getD,h2]
theorem Amq {l:List Nd}(hk:∀ d,d∈l→d.kind=31∨d.kind=32)(hu:∀ x,x∈l→∀ y,y∈l→x.name=y.name→x=y)(x:Nd)(h7:I8 l x=false):Pp l x=He (C4 l 31) (C4 l 32) 8 x.kind x.name:=by
 unfold I8 at h7
 unfold Pp He
 rw [Abc] at h7
 rw [N9,N9,Pe,Pe]
 by_cases hw:F4 x.kind=0
 ·rcases Qm x.kind with ⟨h1,h2⟩ | ⟨h1,h2⟩ | ⟨h1,h2⟩<;>simp [h1,h2]<;>omega
 ·have ha:(l.any fun d=>d.name==x.name)=true:=by
   simp [hw] at h7
   simpa using h7
  obtain ⟨d,hd,hn,hg⟩:=Am0 ha
  have hn':d.name=x.name:=by simpa using hn
  have one:∀ k:Int,(l.any fun e=>(e.kind==k)&&(e.name==x.name))=(d.kind==k):=fun k=>by
   cases hdk:(d.kind==k) with
   | true=>exact List.any_eq_true.2 ⟨d,hd,by simp [hdk,hn']⟩
   | false =>
     rw [List.any_eq_false]
     intro e he hh
     simp at hh
     have:=hu e he d hd (by rw [hh.2,hn'])
     subst this
     simp at hdk
     exact hdk hh.1
  have hgk:(l.getD (P7 l x.name).toNat B2).kind=d.kind:=by rw [P7,hg]
  rw [one,one,hgk]
  rcases Qm x.kind with ⟨h1,h2⟩ | ⟨h1,h2⟩ | ⟨h1,h2⟩<;>rcases hk d hd with h3 | h3<;>simp [h1,h2,h3]
def oV (o:Option (List UInt8)):List UInt8 × Bool:=match o with
 | some s=>(s,true)
 | none=>([],false)
theorem Ar1 {l:List Nd}(hk:∀ d,d∈l→d.kind=31∨d.kind=32):(∀ n:Nd,Et (C4 l 31) (C4 l 32) 7 n=oV (I7 (I8 l) n))∧∀ ks:List Nd,K9 (C4 l 31) (C4 l 32) 7 ks=oV (P3 (I8 l) ks):=by
 refine Oz (fun k s m ks ih=>?_) rfl (fun x ks hx hl=>?_)
 ·rw [To,O9,Amp hk]
  by_cases hh:He (C4 l 31) (C4 l 32) 7 (Nd.mk k s m ks).kind (Nd.mk k s m ks).name=true
  ·rw [if_pos hh,if_pos hh];rfl
  ·rw [if_neg hh,if_neg hh];exact ih
 ·simp only [K9,P3]
  rw [hx]
  cases I7 (I8 l) x with
  | some s=>rfl
  | none=>simp [oV];exact hl
theorem Ar2 {l:List Nd}(hk:∀ d,d∈l→d.kind=31∨d.kind=32)(hu:∀ x,x∈l→∀ y,y∈l→x.name=y.name→x=y) :
 (∀ n:Nd,I7 (I8 l) n=none→Et (C4 l 31) (C4 l 32) 8 n=oV (I7 (Pp l) n))∧∀ ks:List Nd,P3 (I8 l) ks=none→K9 (C4 l 31) (C4 l 32) 8 ks=oV (P3 (Pp l) ks):=by
 refine Oz (fun k s m ks ih h0=>?_) (fun _=>rfl) (fun x ks hx hl h0=>?_)
 ·rw [O9] at h0
  have h7:I8 l (.mk k s m ks)=false:=by
   cases h:I8 l (.mk k s m ks) with
   | false=>rfl
   | true=>rw [h] at h0;simp at h0
  rw [h7] at h0
  rw [To,O9,Amq hk hu _ h7]
  by_cases hh:He (C4 l 31) (C4 l 32) 8 (Nd.mk k s m ks).kind (Nd.mk k s m ks).name=true
  ·rw [if_pos hh,if_pos hh];rfl
  ·rw [if_neg hh,if_neg hh];exact ih (by simpa using h0)
 ·have h1:=Sa h0 x (by simp)
  have h2:P3 (I8 l) ks=none:=by simp only [P3,h1] at h0;exact h0
  simp only [K9,P3]
  rw [hx h1]
  cases I7 (Pp l) x with
  | some s=>rfl
  | none=>simp [oV];exact hl h2
theorem Akq (x:Nd):Pure X 165 [nd x] (vb (decide (60<x.num))):=by
 refine Pure.run Tryz.func165 ?_
 exact AK.rz Tryz.func165 rfl
theorem Kq (n:Nd)(k:Int):(I6 n k).length=(Ay n k).length:=by simp [I6,Ay,C4]
theorem Acz {n:Nd}(hd:∀ d,d∈n.kids.dropLast→FV d):((I6 n 32).any fun d=>decide (60<d.num))=bigS n.kids.dropLast:=by
 unfold I6 bigS
 rw [Bool.eq_iff_iff]
 simp only [List.any_eq_true,List.mem_filter,decide_eq_true_eq,beq_iff_eq]
 constructor
 ·rintro ⟨d,⟨h1,_⟩,h3⟩;exact ⟨d,h1,h3⟩
 ·rintro ⟨d,h1,h3⟩
  refine ⟨d,⟨h1,?_⟩,h3⟩
  have:=hd d h1
  cases this with
  | var s h=>simp at h3
  | arr s m h h0 h1=>rfl
theorem Aid {n:Nd}(h:FP n):n.kids≠[]∧∀ d,d∈n.kids.dropLast→FV d:=by
 cases h with
 | mk ds l hd hl=>exact ⟨by simp,by simpa using hd⟩
def Om (n:Nd):Nd:=if (C7 n).1=0 then Ap n else B2
set_option maxHeartbeats 1000000 in
theorem An3 (n:Nd)(hn:Af n≤1000000000)(hnum:PrI n):Pure X 104 [nd n] (.tup [nd (Om n),.agg [vi (C7 n).1,str (C7 n).2]]):=by
 have hfl:Mu X.P 150=some [0,1]:=by kernel_rfl
 refine Pure.run Tryz.func104 ?_
 refine AK.pc (Ab5 n hn hnum) ?_
 refine AK.if_ (fun h1=>?_) (fun h1=>?_)
 ·have h1':B7 n=false:=by have:(!B7 n)=true:=h1;simpa using this
  have hC:C7 n=(4,[]):=by unfold C7;rw [if_neg (by simp [h1'])]
  unfold Om
  rw [hC]
  exact AK.rz Tryz.func104 rfl
 have h1':B7 n=true:=by have:(!B7 n)=false:=h1;simpa using this
 obtain ⟨fp,hc,hdp⟩:=Nc h1'
 obtain ⟨hkn,hFV⟩:=Aid fp
 have hw9:wN n≤4500:=by
  have:=Tn n (Rz fp)
  omega
 have hcn:=Be n
 have hll:=Ax n.kids
 have hdl:n.kids.dropLast.length≤1000:=by rw [List.length_dropLast];omega
 have hkind:∀ d,d∈n.kids.dropLast→d.kind=31∨d.kind=32:=fun d hd=>Uk (hFV d hd)
 have hfK:∀ k,(I6 n k).length≤1000:=fun k=>Nat.le_trans (List.length_filter_le _ _) hdl
 have e0:C7 n=C7 n:=rfl
 conv at e0=>rhs;rw [C7,if_pos h1']
 refine AK.dn 0 1 ?_
 refine Bl (Afq n hkn (by omega)) ?_
 refine Bl (Ng n 32 hkn (by omega)) ?_
 refine Drv.z ?_
 refine AK.pc (Ng n 31 hkn (by omega)) ?_
 refine AK.gd (fun h2=>?_) (fun h2=>?_)
 ·have h2':8<(Ay n 31).length:=by have:=of_decide_eq_true h2;rw [Ad,Kq] at this;omega
  have hC:C7 n=(3,[]):=by rw [e0,if_pos (by simp [Od,h2'])]
  refine AK.gy ?_
  refine AK.yes ?_
  unfold Om
  rw [hC]
  exact AK.rz Tryz.func104 rfl
 have h2':¬ 8<(Ay n 31).length:=by have:=of_decide_eq_false h2;rw [Ad,Kq] at this;omega
 refine AK.gd (fun h3=>?_) (fun h3=>?_)
 ·have h3':4<(Ay n 32).length:=by have:=of_decide_eq_true h3;rw [Ad,Kq] at this;omega
  have hC:C7 n=(3,[]):=by rw [e0,if_pos (by simp [Od,h3'])]
  refine AK.yes ?_
  unfold Om
  rw [hC]
  exact AK.rz Tryz.func104 rfl
 have h3':¬ 4<(Ay n 32).length:=by have:=of_decide_eq_false h3;rw [Ad,Kq] at this;omega
 have hmany:¬ Od n=true:=by simp [Od]<;>omega
 rw [if_neg hmany] at e0
 have hbig:=Oo (I6 n 32) 165 [] (fun d=>decide (60<d.num)) (by have:=hfK 32;omega) (fun x _=>Akq x) Ap0
 rw [Acz hFV] at hbig
 refine AK.pc hbig ?_
 refine AK.if_ (fun h4=>?_) (fun h4=>?_)
 ·have h4':bigS n.kids.dropLast=true:=h4
  have hC:C7 n=(3,[]):=by rw [e0,if_pos h4']
  unfold Om
  rw [hC]
  exact AK.rz Tryz.func104 rfl
 have h4':¬ bigS n.kids.dropLast=true:=by have:bigS n.kids.dropLast=false:=h4;simp [this]
 rw [if_neg h4'] at e0
 have htw:∀ i,twG ((n.kids.dropLast.take i).map Nd.name) (n.kids.dropLast.drop i)=twG [] n.kids.dropLast→True:=fun _ _=>trivial
 refine AK.while_ (ι:=Nat) 3 0 (fun i=>i≤n.kids.dropLast.length∧twG ((n.kids.dropLast.take i).map Nd.name) (n.kids.dropLast.drop i)=twG [] n.kids.dropLast)
  (fun i=>[(36,vi i),(35,vi n.kids.dropLast.length),(34,.sl (Ai n.kids.dropLast) .no),(4,.sl (Ai n.kids.dropLast) .no),(1,.ptr 0 0 0),(2,.ptr 1 0 0),(3,.ptr 2 0 0)])
  (fun i=>⟨[[Ae n],[zN],[[vi 0,str []]]],[]⟩) (fun i=>n.kids.dropLast.length-i) ?_ 0 ⟨Nat.zero_le _,rfl⟩ ⟨rfl,by rw [← Ad n.kids.dropLast];rfl,rfl,rfl,rfl,rfl,rfl,trivial⟩ rfl rfl rfl rfl rfl
  (fun _=>inferInstance) (fun _=>inferInstance)
 rintro i ⟨hi,hT⟩ IH
 refine AK.ei (fun h5=>?_) (fun h5=>?_)
 ·have hlt:i<n.kids.dropLast.length:=by have:=of_decide_eq_true h5;omega
  obtain ⟨d,hd⟩:=Ab n.kids.dropLast hlt
  rw [Ba hd] at hT
  simp only [twG] at hT
  have hin:((Ai n.kids.dropLast).take i).drop 0=Ai (n.kids.dropLast.take i):=by rw [Aj,Aj,List.drop_zero,List.map_take]
  have hany:((n.kids.dropLast.take i).any fun e=>e.name==d.name)=has ((n.kids.dropLast.take i).map Nd.name) d.name:=by rw [has,List.any_map];rfl
  refine AK.ix i (by omega) (Al hd) ?_
  refine AK.dn 0 2 ?_
  refine Acj (fun S'=>Ul (l:=0) (h:=(i:Int)) (r:=Ai (n.kids.dropLast.take i)) rfl rfl rfl rfl rfl rfl rfl rfl rfl (by omega) (by omega) (by rw [Ad];omega) (Ct _) (by rw [Int.toNat_natCast];exact hin)) ?_
  refine Bl (Ab3 d.name) ?_
  refine Bl (Oo (n.kids.dropLast.take i) 226 [.cptr [str d.name]] (fun e=>e.name==d.name) (by rw [List.length_take];omega) (fun x _=>X8 x d.name) (Ai3 _)) ?_
  refine Drv.z ?_
  refine AK.if_ (fun h6=>?_) (fun h6=>?_)
  ·have h6':has ((n.kids.dropLast.take i).map Nd.name) d.name=true:=by rw [← hany];exact h6
   rw [if_pos h6'] at hT
   have hC:C7 n=(6,d.name):=by rw [e0,← hT]
   refine AK.dn 48 4 ?_
   refine Dv (Ndo.store rfl rfl rfl rfl rfl rfl rfl) ?_ ?_
   ·exact Aq (Ndo.ev rfl rfl rfl) Fp
   refine Drv.w (Ndo.store rfl rfl rfl rfl rfl rfl rfl) ?_
   refine Drv.z ?_
   unfold Om
   rw [hC]
   exact AK.rz Tryz.func104 rfl
  ·have h6':¬ has ((n.kids.dropLast.take i).map Nd.name) d.name=true:=by rw [← hany];simp [show _=false from h6]
   rw [if_neg h6'] at hT
   exact IH (i+1) ⟨hlt,by rw [List.take_add_one,hd,List.map_append];exact hT⟩ (by omega) _ _ ⟨vsx (by omega),rfl,rfl,rfl,rfl,rfl,rfl,trivial⟩ rfl rfl rfl
 have hie:i=n.kids.dropLast.length:=by have:=of_decide_eq_false h5;omega
 rw [hie,List.drop_length] at hT
 have hT':twG [] n.kids.dropLast=none:=hT.symm
 rw [hT'] at e0
 simp only at e0
 obtain ⟨_,huq⟩:=Ace hT'
 have w7:=(Ar1 hkind).1 (Ce n)
 have w8:=(Ar2 hkind huq).1 (Ce n)
 have hdS:∀ k,Ay n k=C4 n.kids.dropLast k:=fun k=>rfl
 rw [hdS,hdS,w7] at e0
 have hlc:Af (Ce n)≤1000:=by
  unfold Ce
  cases hg:n.kids.getLast? with
  | none=>rw [List.getLastD_eq_getLast?,hg];decide
  | some b =>
    rw [List.getLastD_eq_getLast?,hg]
    have:=Cw (List.mem_of_getLast? hg)
    simp only [Option.getD_some];omega
 refine AK.pc (Akp n hkn (by omega)) ?_
 refine AK.pc (Z8 n.kids.dropLast (Ce n) (by omega) (by omega)) ?_
 have hnt:V6 n.kids.dropLast (Ce n)=match I7 (I8 n.kids.dropLast) (Ce n) with
  | some s=>(7,s)
  | none=>(trC 8 (I7 (Pp n.kids.dropLast) (Ce n)),(I7 (Pp n.kids.dropLast) (Ce n)).getD []):=rfl
 generalize V6 n.kids.dropLast (Ce n)=T at hnt ⊢
 refine AK.op (O1 (r:=!((T.1==0)&&((T.2==[])&&true))) rfl rfl rfl rfl rfl hfl rfl (.inr ⟨rfl,rfl⟩)) ?_
 by_cases hz:I7 (I8 n.kids.dropLast) (Ce n)=none∧I7 (Pp n.kids.dropLast) (Ce n)=none
 ·rw [hz.1,hz.2] at hnt
  rw [w8 hz.1,hz.1,hz.2] at e0
  simp only [oV,trC] at hnt e0
  subst hnt
  refine AK.no ?_
  refine AK.pc (Ya n (Apo fp) (by omega)) ?_
  have hpw:=(Nb n).1
  have hpc:=Mo (Ap n)
  refine AK.pc (Ab5 (Ap n) (by omega) hnum.plain) ?_
  refine AK.if_ (fun h7=>?_) (fun h7=>?_)
  ·have h7':B7 (Ap n)=false:=by have:(!B7 (Ap n))=true:=h7;simpa using this
   have hC:C7 n=(5,[]):=by rw [e0];simp [h7']
   unfold Om
   rw [hC]
   exact AK.rz Tryz.func104 rfl
  ·have h7':B7 (Ap n)=true:=by have:(!B7 (Ap n))=false:=h7;simpa using this
   have hC:C7 n=(0,[]):=by rw [e0];simp [h7']
   unfold Om
   rw [hC]
   exact AK.rz Tryz.func104 rfl
 ·have hC:C7 n=T∧T.1≠0:=by
   cases h7:I7 (I8 n.kids.dropLast) (Ce n) with
   | some s =>
     rw [h7] at hnt e0
     simp only [oV] at e0
     rw [hnt,e0];simp
   | none =>
     rw [w8 h7] at e0
     rw [h7] at hnt e0
     cases h8:I7 (Pp n.kids.dropLast) (Ce n) with
     | none=>exact absurd ⟨h7,h8⟩ hz
     | some s =>
       rw [h8] at hnt e0
       simp only [oV,trC] at e0 hnt
       rw [hnt,e0];simp
  obtain ⟨hC,hC0⟩:=hC
  refine AK.yes ?_ (ht:=by simp [hC0])
  refine AK.dn 12 2 ?_
  refine Dv (Ndo.store rfl rfl rfl rfl rfl rfl rfl) ?_ ?_
  ·exact Aq (Ndo.ev rfl rfl rfl) Fp
  refine Drv.w (Ndo.store rfl rfl rfl rfl rfl rfl rfl) ?_
  refine Drv.z ?_
  unfold Om
  rw [hC,if_neg hC0]
  exact AK.rz Tryz.func104 rfl
structure Eg where
 f:Int
 t:Int
 k:Int
 y:Bool
 n:Nd
structure Lp where
 a:Nd
 l:Nd
 h:Int
 x:Int
structure Gr where
 pts:Nat
 pt:Nat
 es:List Eg
 sts:List Nat
 lps:List Lp
 ver:Nat
def Nm (g:Gr):Gr:={ g with es:=g.es++[⟨g.pt,-1,7,false,B2⟩],sts:=g.sts++[g.es.length],pts:=g.pts+1,pt:=g.pts }
def Cs (k:Int)(n:Nd)(g:Gr):Gr:={ g with es:=g.es++[⟨g.pt,g.pts,k,false,n⟩],pts:=g.pts+1,pt:=g.pts }
def Do (p:Nat)(c:Nd)(y:Bool)(g:Gr):Gr:={ g with es:=g.es++[⟨p,g.pts,4,y,c⟩],pts:=g.pts+1,pt:=g.pts }
def H6 (f t:Nat)(g:Gr):Gr:={ g with es:=g.es++[⟨f,t,6,false,B2⟩] }
def Lm (p:Nat)(g:Gr):Gr:={ H6 g.pt g.pts (H6 p g.pts g) with pts:=g.pts+1,pt:=g.pts }
def gIf (c:Nd)(f1 f2:Gr→Gr)(g:Gr):Gr:=Lm (f1 (Do g.pt c true g)).pt (f2 (Do g.pt c false (f1 (Do g.pt c true g))))
def Fq (a n:Nd)(g:Gr):Gr:={ g with lps:=g.lps++[⟨a,n,g.pt,0⟩],ver:=g.ver+1 }
def T3 (i:Nat)(g:Gr):Gr:={ g with lps:=g.lps.modify i fun l=>{ l with x:=g.pt },ver:=g.ver+1 }
def Jj (h:Nat)(g:Gr):Gr:=H6 g.pt h g
def gWh (n a c:Nd)(f:Gr→Gr)(g:Gr):Gr :=
 T3 g.lps.length (Do g.pts c false (Jj g.pts (f (Do g.pts c true (Fq a n (Cs 6 B2 g))))))
def gKs (k:Int)(n:Nd)(ks:List Nd)(fs:List (Gr→Gr))(a:Nd)(g:Gr):Gr :=
 if k=21 then Cs 1 n g else if k=22 then Cs 2 n g else if k=23 then Cs 3 n g else if k=27 then Cs 5 (ks.headD B2) g else if k=28 then Cs 6 B2 g
 else if k=29 then Nm g else if k=24 then gIf (ks.headD B2) (fs.getD 1 id) (fs.getD 2 id) g else gWh n a (ks.headD B2) (fs.getD 1 id) g
def goL:List (Nd × (Nd→Gr→Gr) × (Gr→Gr))→Nd→Gr→Gr
 | [],_,g=>g
 | (x,f,_)::l,a,g=>goL l x (f a g)
mutual
def gN:Nd→Nd × (Nd→Gr→Gr) × (Gr→Gr)
 | .mk k s m ks=>(.mk k s m ks,gKs k (.mk k s m ks) ks ((gNs ks).map fun x=>x.2.2),goL (gNs ks) B2)
def gNs:List Nd→List (Nd × (Nd→Gr→Gr) × (Gr→Gr))
 | []=>[]
 | x::l=>gN x::gNs l
end
def gS (n a:Nd)(g:Gr):Gr:=(gN n).2.1 a g
def gL:List Nd→Nd→Gr→Gr
 | [],_,g=>g
 | x::l,a,g=>gL l x (gS x a g)
theorem Nl (k:Int)(s:List UInt8)(m:Int)(ks:List Nd):gN (.mk k s m ks)=(.mk k s m ks,gKs k (.mk k s m ks) ks ((gNs ks).map fun x=>x.2.2),goL (gNs ks) B2):=by rw [gN]
theorem Amn (x:Nd):(gN x).1=x:=by obtain ⟨k,s,m,ks⟩:=x;rw [Nl]
theorem Ln (x:Nd)(l:List Nd):gNs (x::l)=gN x::gNs l:=by rw [gNs]
theorem Zk:gNs []=[]:=by rw [gNs]
theorem Zp:∀ (l:List Nd)(a:Nd)(g:Gr),goL (gNs l) a g=gL l a g
 | [],a,g=>by rw [Zk];rfl
 | x::l,a,g=>by
   rw [Ln]
   have h:gN x=(x,(gN x).2):=Prod.ext (Amn x) rfl
   rw [h]
   simp only [goL,gL,gS]
   exact Zp l x _
theorem Zj (x:Nd)(l:List Nd)(a:Nd)(g:Gr):gL (x::l) a g=gL l x (gS x a g):=rfl
theorem Ajf:∀ (l l':List Nd)(a:Nd)(g:Gr),gL (l++l') a g=gL l' (l.getLastD a) (gL l a g)
 | [],l',a,g=>rfl
 | x::l,l',a,g=>by simp only [List.cons_append,Zj];rw [Ajf l l' x];cases l<;>simp [gL,List.getLastD]
theorem Zm (s:List UInt8)(ks:List Nd)(a:Nd)(g:Gr):gS (.mk 21 s 0 ks) a g=Cs 1 (.mk 21 s 0 ks) g:=by unfold gS;rw [Nl];rfl
theorem Zl (s:List UInt8)(ks:List Nd)(a:Nd)(g:Gr):gS (.mk 22 s 0 ks) a g=Cs 2 (.mk 22 s 0 ks) g:=by unfold gS;rw [Nl];rfl
theorem Uo (s:List UInt8)(ks:List Nd)(a:Nd)(g:Gr):gS (.mk 23 s 0 ks) a g=Cs 3 (.mk 23 s 0 ks) g:=by unfold gS;rw [Nl];rfl
theorem Q5 (c a:Nd)(g:Gr):gS (.mk 27 [] 0 [c]) a g=Cs 5 c g:=by unfold gS;rw [Nl];rfl
theorem Up (a:Nd)(g:Gr):gS (.mk 28 [] 0 []) a g=Cs 6 B2 g:=by unfold gS;rw [Nl];rfl
theorem Uq (a:Nd)(g:Gr):gS (.mk 29 [] 0 []) a g=Nm g:=by unfold gS;rw [Nl];rfl
theorem Ae0 (c a:Nd)(l l':List Nd)(g:Gr):gS (.mk 24 [] 0 [c,.mk 30 [] 0 l,.mk 30 [] 0 l']) a g=gIf c (gL l B2) (gL l' B2) g:=by
 unfold gS
 rw [Nl,Ln,Ln,Ln,Zk,Nl 30,Nl 30,funext fun g=>Zp l B2 g,funext fun g=>Zp l' B2 g];rfl
theorem Ae1 (c a:Nd)(l:List Nd)(g:Gr):gS (.mk 25 [] 0 [c,.mk 30 [] 0 l]) a g=gWh (.mk 25 [] 0 [c,.mk 30 [] 0 l]) a c (gL l B2) g:=by
 unfold gS
 rw [Nl,Ln,Ln,Zk,Nl 30,funext fun g=>Zp l B2 g];rfl
inductive PS:Nd→Prop
 | set (s:List UInt8) (a:Nd) (h:nameS s=true) (ha:FE a):PS (.mk 21 s 0 [a])
 | put (s:List UInt8) (a b:Nd) (h:nameS s=true) (ha:FE a) (hb:FE b):PS (.mk 22 s 0 [a,b])
 | read (s:List UInt8) (h:nameS s=true):PS (.mk 23 s 0 [])
 | ifs (c:Nd) (l l':List Nd) (hc:FC c) (hl:∀ x,x∈l→PS x) (hl':∀ x,x∈l'→PS x):PS (.mk 24 [] 0 [c,.mk 30 [] 0 l,.mk 30 [] 0 l'])
 | whil (c:Nd) (l:List Nd) (hc:FC c) (hl:∀ x,x∈l→PS x):PS (.mk 25 [] 0 [c,.mk 30 [] 0 l])
 | check (c:Nd) (hc:FC c):PS (.mk 27 [] 0 [c])
 | skip:PS (.mk 28 [] 0 [])
 | stop:PS (.mk 29 [] 0 [])
theorem Kg {l:List Nd}(h:∀ x,x∈l→∀ y,y∈Ed x→PS y):∀ y,y∈A4 l→PS y:=by
 induction l with
 | nil=>intro y hy;rw [Av] at hy;cases hy
 | cons x l ih =>
   intro y hy
   rw [Ao] at hy
   rcases List.mem_append.1 hy with hy | hy
   ·exact h x (by simp) y hy
   ·exact ih (fun z hz=>h z (by simp [hz])) y hy
theorem Ph (l:List Nd):Ed (.mk 30 [] 0 l)=[.mk 30 [] 0 (A4 l)]:=by rw [A1 (by simp),Az]
theorem Jb {a:Nd}(h:FE a):Ed a=[a]:=by rw [A1 (by have:=Bo h;omega),Oj h]
theorem We {a:Nd}(h:FC a):Ed a=[a]:=by rw [A1 (by have:=Gk h;omega),Na h]
theorem Ar7 {n:Nd}(h:FS n):∀ y,y∈Ed n→PS y:=by
 induction h with
 | set s a h ha=>intro y hy;rw [A1 (by simp),Az,Ao,Av,Jb ha] at hy;simp at hy;subst hy;exact .set s a h ha
 | put s a b h ha hb=>intro y hy;rw [A1 (by simp),Az,Ao,Ao,Av,Jb ha,Jb hb] at hy;simp at hy;subst hy;exact .put s a b h ha hb
 | read s h=>intro y hy;rw [A1 (by simp),Az,Av] at hy;simp at hy;subst hy;exact .read s h
 | ifs c l l' hc hl hl' ihl ihl' =>
   intro y hy
   rw [A1 (by simp),Az,Ao,Ao,Ao,Av,We hc,Ph,Ph] at hy;simp at hy;subst hy
   exact .ifs c _ _ hc (Kg ihl) (Kg ihl')
 | whil c l hc hl ihl =>
   intro y hy
   rw [A1 (by simp),Az,Ao,Ao,Av,We hc,Ph] at hy;simp at hy;subst hy
   exact .whil c _ hc (Kg ihl)
 | for_ s a b l h ha hb hl ihl =>
   intro y hy
   rw [Iw,Ao,Ao,Ao,Av,Jb ha,Jb hb,Ph] at hy
   simp only [List.cons_append,List.nil_append,Zg,List.mem_cons,List.not_mem_nil,or_false] at hy
   rcases hy with rfl | rfl
   ·exact .set s a h ha
   ·refine .whil _ _ (.mk 11 _ _ (by omega) (by omega) (.var s h) hb) fun y hy=>?_
    rcases List.mem_append.1 hy with hy | hy
    ·exact Kg ihl y hy
    ·simp at hy;subst hy
     exact .set s _ h (.two 6 _ _ (.inl rfl) (.var s h) (.num 1 (by omega) (by omega)))
 | check c hc=>intro y hy;rw [A1 (by simp),Az,Ao,Av,We hc] at hy;simp at hy;subst hy;exact .check c hc
 | skip=>intro y hy;rw [A1 (by simp),Az,Av] at hy;simp at hy;subst hy;exact .skip
 | stop=>intro y hy;rw [A1 (by simp),Az,Av] at hy;simp at hy;subst hy;exact .stop
structure Gr.le (g g':Gr)(k:Nat):Prop where
 pts:g.pts≤g'.pts∧g'.pts≤g.pts+4*k
 pt:g'.pt<g'.pts
 es:∃ l,g'.es=g.es++l∧l.length≤4*k∧∀ e,e∈l→(0≤e.f∧e.f<g'.pts)∧(e.t=-1∨(0≤e.t∧e.t<g'.pts))
 lps:∃ l,g'.lps=g.lps++l∧l.length≤k
 ver:g.ver≤g'.ver∧g'.ver≤g.ver+2*k
 sts:∃ l,g'.sts=g.sts++l∧l.length≤k
theorem Gr.le.refl {g:Gr}(h:g.pt<g.pts):g.le g 0:=⟨by omega,h,⟨[],by simp,by simp,fun e he=>by cases he⟩,⟨[],by simp,by simp⟩,by omega,⟨[],by simp,by simp⟩⟩
theorem Gr.le.trans {a b c:Gr}{k l m:Nat}(h:a.le b k)(h':b.le c l)(hm:k+l≤m):a.le c m:=by
 obtain ⟨e1,h1,h2,h3⟩:=h.es
 obtain ⟨e2,h4,h5,h6⟩:=h'.es
 obtain ⟨l1,g1,g2⟩:=h.lps
 obtain ⟨l2,g3,g4⟩:=h'.lps
 obtain ⟨s1,g5,g6⟩:=h.sts
 obtain ⟨s2,g7,g8⟩:=h'.sts
 have:=h.pts
 have:=h'.pts
 have:=h.ver
 have:=h'.ver
 refine ⟨by omega,h'.pt,⟨e1++e2,by rw [h4,h1,List.append_assoc],by simp;omega,fun e he=>?_⟩,⟨l1++l2,by rw [g3,g1,List.append_assoc],by simp;omega⟩,by omega,⟨s1++s2,by rw [g7,g5,List.append_assoc],by simp;omega⟩⟩
 rcases List.mem_append.1 he with he | he
 ·obtain ⟨q1,q2⟩:=h3 e he
  refine ⟨by omega,?_⟩
  rcases q2 with q2 | q2
  ·exact .inl q2
  ·exact .inr (by omega)
 ·exact h6 e he
theorem Gr.le.up {a b:Gr}{k m:Nat}(h:a.le b k)(hm:k≤m):a.le b m:=h.trans (.refl h.pt) (by omega)
theorem Jr (k:Int)(n:Nd){g:Gr}(h:g.pt<g.pts):g.le (Cs k n g) 1 :=
 ⟨by simp [Cs],by simp [Cs],⟨_,rfl,by simp,fun e he=>by simp at he;subst he;simp [Cs];omega⟩,⟨[],by simp [Cs],by simp⟩,by simp [Cs],⟨[],by simp [Cs],by simp⟩⟩
theorem Aop {g:Gr}(h:g.pt<g.pts):g.le (Nm g) 1 :=
 ⟨by simp [Nm],by simp [Nm],⟨_,rfl,by simp,fun e he=>by simp at he;subst he;simp [Nm];omega⟩,⟨[],by simp [Nm],by simp⟩,by simp [Nm],⟨_,rfl,by simp⟩⟩
theorem K8 (p:Nat)(c:Nd)(y:Bool){g:Gr}(h:p<g.pts):g.le (Do p c y g) 1 :=
 ⟨by simp [Do],by simp [Do],⟨_,rfl,by simp,fun e he=>by simp at he;subst he;simp [Do];omega⟩,⟨[],by simp [Do],by simp⟩,by simp [Do],⟨[],by simp [Do],by simp⟩⟩
theorem Amj (t:Nat){g:Gr}(h:g.pt<g.pts)(ht:t<g.pts):g.le (Jj t g) 1 :=
 ⟨by simp [Jj,H6],h,⟨_,rfl,by simp,fun e he=>by simp at he;subst he;simp [Jj,H6];omega⟩,⟨[],by simp [Jj,H6],by simp⟩,by simp [Jj,H6],⟨[],by simp [Jj,H6],by simp⟩⟩
theorem Am4 (p:Nat){g:Gr}(h:g.pt<g.pts)(hp:p<g.pts):g.le (Lm p g) 1 :=
 ⟨by simp [Lm,H6],by simp [Lm,H6],⟨[⟨p,g.pts,6,false,B2⟩,⟨g.pt,g.pts,6,false,B2⟩],by simp [Lm,H6],by simp,fun e he=>by simp at he;rcases he with rfl | rfl<;>simp [Lm,H6]<;>omega⟩,⟨[],by simp [Lm,H6],by simp⟩,by simp [Lm,H6],⟨[],by simp [Lm,H6],by simp⟩⟩
theorem Zy (a n:Nd){g:Gr}(h:g.pt<g.pts):g.le (Fq a n g) 1 :=
 ⟨by simp [Fq],h,⟨[],by simp [Fq],by simp,fun e he=>by cases he⟩,⟨_,rfl,by simp⟩,by simp [Fq],⟨[],by simp [Fq],by simp⟩⟩
theorem V5 {α:Type}(l l':List α)(f:α→α):(l++l').modify l.length f=l++l'.modify 0 f:=by
 apply List.ext_getElem?
 intro j
 rw [List.getElem?_modify]
 rcases Nat.lt_or_ge j l.length with h | h
 ·rw [List.getElem?_append_left h,List.getElem?_append_left h]
  simp [show l.length≠j by omega]
 ·rw [List.getElem?_append_right h,List.getElem?_append_right h,List.getElem?_modify]
  by_cases hj:l.length=j
  ·simp [hj]
  ·simp [hj,show ¬ 0=j-l.length by omega]
theorem Aml {g g':Gr}{k:Nat}(h:g.le g' k):g.le (T3 g.lps.length g') (k+1):=by
 obtain ⟨l,h1,h2⟩:=h.lps
 obtain ⟨e,h3,h4,h5⟩:=h.es
 obtain ⟨s,h6,h7⟩:=h.sts
 have:=h.pts
 have:=h.ver
 exact ⟨by simp only [T3];omega,h.pt,⟨e,by simp only [T3];exact h3,by omega,h5⟩,⟨l.modify 0 fun x=>{ x with x:=g'.pt },by simp only [T3];rw [h1,V5],by simp;omega⟩,by simp only [T3];omega,⟨s,by simp only [T3];exact h6,by omega⟩⟩
abbrev bG (k:Nat):Nat:=6*k
theorem Aey {l:List Nd}(h:∀ x,x∈l→∀ (a:Nd)(g:Gr),g.pt<g.pts→g.le (gS x a g) (bG (wN x))):∀ (a:Nd)(g:Gr),g.pt<g.pts→g.le (gL l a g) (bG (wL l)):=by
 induction l with
 | nil=>intro a g hp;exact (Gr.le.refl hp).up (by simp [wL])
 | cons x l ih =>
   intro a g hp
   rw [Zj]
   have h1:=h x (by simp) a g hp
   exact h1.trans (ih (fun y hy=>h y (by simp [hy])) x _ h1.pt) (by simp only [wL,bG];omega)
theorem Asq {c:Nd}{f1 f2:Gr→Gr}{k1 k2:Nat}(h1:∀ g:Gr,g.pt<g.pts→g.le (f1 g) k1)(h2:∀ g:Gr,g.pt<g.pts→g.le (f2 g) k2){g:Gr}(hp:g.pt<g.pts):g.le (gIf c f1 f2 g) (k1+k2+3):=by
 unfold gIf
 have a1:=K8 g.pt c true hp
 have a2:=h1 _ a1.pt
 have a12:=a1.trans a2 (Nat.le_refl _)
 have hp2:g.pt<(f1 (Do g.pt c true g)).pts:=Nat.lt_of_lt_of_le hp a12.pts.1
 have a3:=K8 g.pt c false hp2
 have a4:=h2 _ a3.pt
 have a34:=a3.trans a4 (Nat.le_refl _)
 have hq:(f1 (Do g.pt c true g)).pt<(f2 (Do g.pt c false (f1 (Do g.pt c true g)))).pts:=Nat.lt_of_lt_of_le a2.pt a34.pts.1
 exact (a12.trans a34 (Nat.le_refl _)).trans (Am4 _ a4.pt hq) (by omega)
theorem Atb {n a c:Nd}{f:Gr→Gr}{k:Nat}(h1:∀ g:Gr,g.pt<g.pts→g.le (f g) k){g:Gr}(hp:g.pt<g.pts):g.le (gWh n a c f g) (k+6):=by
 unfold gWh
 have a1:=Jr 6 B2 hp
 have a2:=Zy a n a1.pt
 have a12:=a1.trans a2 (Nat.le_refl _)
 have hh:g.pts<(Fq a n (Cs 6 B2 g)).pts:=by simp [Fq,Cs]
 have a3:=K8 g.pts c true hh
 have a4:=h1 _ a3.pt
 have a34:=a3.trans a4 (Nat.le_refl _)
 have hh2:=Nat.lt_of_lt_of_le hh a34.pts.1
 have a5:=Amj g.pts a4.pt hh2
 have hh3:=Nat.lt_of_lt_of_le hh2 a5.pts.1
 have a6:=K8 g.pts c false hh3
 exact (Aml ((a12.trans a34 (Nat.le_refl _)).trans (a5.trans a6 (Nat.le_refl _)) (Nat.le_refl _))).up (by omega)
theorem Asb {n:Nd}(h:PS n):∀ (a:Nd)(g:Gr),g.pt<g.pts→g.le (gS n a g) (bG (wN n)):=by
 induction h with
 | set s b h hb=>intro a g hp;rw [Zm];exact (Jr _ _ hp).up (by simp only [wN,bG];omega)
 | put s b c h hb hc=>intro a g hp;rw [Zl];exact (Jr _ _ hp).up (by simp only [wN,bG];omega)
 | read s h=>intro a g hp;rw [Uo];exact (Jr _ _ hp).up (by simp only [wN,bG];omega)
 | ifs c l l' hc hl hl' ihl ihl'=>intro a g hp;rw [Ae0];exact (Asq (Aey ihl B2) (Aey ihl' B2) hp).up (by simp only [wN,wL,bG,List.length_nil];omega)
 | whil c l hc hl ihl=>intro a g hp;rw [Ae1];exact (Atb (Aey ihl B2) hp).up (by simp only [wN,wL,bG,List.length_nil];omega)
 | check c hc=>intro a g hp;rw [Q5];exact (Jr _ _ hp).up (by simp only [wN,bG];omega)
 | skip=>intro a g hp;rw [Up];exact (Jr _ _ hp).up (by simp only [wN,wL,bG,List.length_nil];omega)
 | stop=>intro a g hp;rw [Uq];exact (Aop hp).up (by simp only [wN,wL,bG,List.length_nil];omega)
theorem J7 {l:List Nd}(h:∀ x,x∈l→PS x)(a:Nd)(g:Gr)(hp:g.pt<g.pts):g.le (gL l a g) (bG (wL l)):=Aey (fun x hx=>Asb (h x hx)) a g hp
end Go.V
namespace Go.V
open Go
section
variable {X:Cx}{B:Bx}{E E':Env}{S S':St}{w w':World}{F F':Bs}{a:Act}{N:Nat}{R:AE→St→Prop}{ops:Array Oper}{i:Nat}{o:Oper}{p q:Operand}
theorem Rv (hI:Inv X E S w){t v:Nat}{k:Tk}(hk:E.toks[t]?=some k)(hS:S.toks[t]?=some v):v=k.len:=by
 have h1:=hI.nt
 have h2:(E.toks.map Tk.len)[t]?=some k.len:=by simp [hk]
 rw [h1,hS] at h2
 exact Option.some.inj h2
theorem Inv.setZ (hI:Inv X E S w){tk:List Nat}(h:Inv X E' ⟨S.boxes,tk⟩ w')(hbx:E'.boxes=E.boxes)(hsame:∀ (i b s:Nat),E.boxes[i]?=some (some (b,s))→w'.heap[b]?=w.heap[b]?){b r j:Nat}{rows:List (List AV)}{cs:List AV}{z z':AV}
 (hb:S.boxes[b]?=some rows)(hr:rows[r]?=some cs)(hc:cs[j]?=some z)(hz:∀ u,Rel E w u z→Rel E' w' u z'):Inv X E' ⟨S.boxes.set b (rows.set r (cs.set j z')),tk⟩ w' :=
 { h with
   nb:=by have:=h.nb;simpa using this
   box:=fun i blk sz rows' h1 h2=>by
    rcases Cv h2 with ⟨rfl,rfl⟩ | ⟨_,h2⟩
    ·have h1o:=h1
     rw [hbx] at h1o
     obtain ⟨arr,e,hh,hs,hl,hrel⟩:=hI.box i blk sz rows h1o hb
     obtain ⟨arr1,e1,hh1,hs1,hl1,hrel1⟩:=h.box i blk sz rows h1 hb
     have:=hsame _ _ _ h1o
     rw [hh,hh1] at this
     cases this
     refine ⟨arr,e,hh1,by simpa using hs,fun q hq=>?_,fun k q p x v hk hp hv=>?_⟩
     ·rcases List.mem_or_eq_of_mem_set hq with hq | rfl
      ·exact hl q hq
      ·simpa using hl cs (List.mem_of_getElem? hr)
     ·rcases Cv hk with ⟨rfl,rfl⟩ | ⟨_,hk⟩
      ·rcases Cv hp with ⟨rfl,rfl⟩ | ⟨_,hp⟩
       ·exact hz v (hrel k cs p _ v hr hc hv)
       ·exact hrel1 k cs p x v hr hp hv
      ·exact hrel1 k q p x v hk hp hv
    ·exact h.box i blk sz rows' h1 h2 }
theorem Agh (hI:Inv X E S w){v:Value}(h:Rel E w v (.sl [] .tight)):Rel (E.mint 0) w v (.psl [] S.toks.length 0):=by
 have hl:S.toks.length=E.toks.length:=by rw [← hI.nt];simp
 cases h with
 | sl _ _ a n cap b o sz vals hn hx ha hsz hm hc hr hs hcap =>
   subst hn
   exact .psl [] _ 0 a _ cap ⟨0,none⟩ sz vals rfl hx hcap (by rw [hl];exact getElem?_snoc_new _ _) (Nat.le_refl _) (fun r hr=>by cases hr) (fun _=>⟨rfl,hs⟩) (fun i j r x h=>by simp at h) (fun r hr=>by cases hr)
theorem AK.mintP {K:List Item}(b r j:Nat){m:Nat}{rows:List (List AV)}{cs:List AV}{bx:List (List (List AV))}{tk:List Nat}(hk:AK X B K F ⟨bx,tk⟩ R)(hb:S.boxes[b]?=some rows:=by rfl)(hr:rows[r]?=some cs:=by rfl)
 (hc:cs[j]?=some (.sl [] .tight):=by rfl)(hn:S.toks.length=m:=by rfl)(hbx:S.boxes.set b (rows.set r (cs.set j (.psl [] m 0)))=bx:=by rfl)(htk:S.toks++[0]=tk:=by rfl):AK X B K F S R:=by
 subst hn;subst hbx;subst htk
 intro E w a b' cs' hI hF hn hm hb'
 have ev:=Jt E w 0
 have nt:E.toks.length=S.toks.length:=by rw [← hI.nt];simp
 exact Fin.from (Steps.refl _ _) (ev.weaken (by rw [hI.nb];exact hn) (by omega)) (hk (E.mint 0) w a b' cs' (hI.setZ (hI.mint 0) rfl (fun _ _ _ _=>rfl) hb hr hc fun u hu=>Agh hI hu) (hF.mint 0) (by simpa using hn) (by simp;omega) hb')
theorem Um {t e tk v n:Nat}{ik:IntKind}{y ye:Ty}{rows:List (List AV)}(hn:n<rows.length)(hS:S.toks[tk]?=some v)(hl:∀ r,r∈rows→r.length=ye.size)(ho:ops[i]?=some o:=by rfl)(hw:As ops F o=some true:=by rfl)
 (hop:o.op=.indexAddr t p q:=by rfl)(hp:Cg X F p=some (.psl rows tk v):=by rfl)(hq:Cg X F q=some (.val (.int ik n)):=by rfl)(hy:X.ty t=some y:=by rfl)(hyk:y.k=.slc e:=by rfl)(hye:X.ty e=some ye:=by rfl) :
 Ndo X N ops i o F (.pp rows tk v n 0) S S:=by
 refine Ndo.val ho hw fun F' E w a hc hI hF=>?_
 rw [hop] at hc
 have h1:=Ah hI hF ((hc p (by simp [Op.operands])).trans hp)
 have h2:=Ah hI hF ((hc q (by simp [Op.operands])).trans hq)
 obtain ⟨d,hdd,hd2⟩:=(X.ty_ok t y hy).agg
 simp only [hyk] at hd2
 obtain ⟨rfl,ye',hye',hne⟩:=hd2
 rw [hye] at hye';cases hye'
 cases hh2:a.eval q<;>rw [hh2] at h2<;>cases h2
 generalize hh1:a.eval p=u at h1
 have h1':=h1
 cases h1 with
 | psl _ _ _ ad m cap k sz vals hm hx hcap hk hv hsz hpv hr hf =>
   have hpv:=hpv (Rv hI hk hS)
   obtain ⟨kl,ksp⟩:=k
   cases ksp with
   | none=>obtain ⟨h,_⟩:=hpv;omega
   | some q' =>
     obtain ⟨b,c,s⟩:=q'
     obtain ⟨_,rfl,rfl,rfl,_⟩:=hpv
     refine ⟨.pointer (some ⟨b,n*ye.size,none⟩),?_,?_⟩
     ·have hin:(n:Int)<(m:Int):=by omega
      simp [execOp,hop,hh1,hh2,Instr.indexAt,asIntOf,run_underlying hdd,hin,Cb hye,Dx]
      intro h;omega
     ·have:=Rel.pp (E:=E) (w:=w) rows tk v n 0 b ye.size m c h1' hn hl
      simpa using this
theorem Al0 {t tk v j o':Nat}{y:Ty}{r:List AV}{rows:List (List AV)}{x:AV}(hr:rows[j]?=some r)(hS:S.toks[tk]?=some v)(hl:o'+y.size≤r.length)(ho:ops[i]?=some o:=by rfl)(hw:As ops F o=some true:=by rfl)
 (hop:o.op=.load t p:=by rfl)(hp:Cg X F p=some (.pp rows tk v j o'):=by rfl)(hy:X.ty t=some y:=by rfl)(hx:Ui (El y.k) ((r.drop o').take y.size)=some x:=by rfl):Ndo X N ops i o F x S S:=by
 refine Ndo.val ho hw fun F' E w a hc hI hF=>?_
 rw [hop] at hc
 have h1:=Ah hI hF ((hc p (by simp [Op.operands])).trans hp)
 obtain ⟨b,sz,n,cap,hu,hrel,hi,hsz⟩:=h1.pp_inv
 generalize hU:Value.slice (some ⟨b,0,none⟩) n cap=U at hrel
 cases hrel with
 | psl _ _ _ a0 n0 cap0 k sz' vals hm hx hcap hk hv hsz' hpv hrr hf =>
   cases hU
   have hpv:=hpv (Rv hI hk hS)
   obtain ⟨kl,ksp⟩:=k
   cases ksp with
   | none=>obtain ⟨h,_⟩:=hpv;omega
   | some q' =>
     obtain ⟨b',c,s⟩:=q'
     obtain ⟨_,rfl,rfl,hab,arr,e,hh,hcs,hcl⟩:=hpv
     simp only [Option.some.injEq,Addr.mk.injEq,and_true] at hab
     subst hab
     have hrl:=hsz r (List.mem_of_getElem? hr)
     have:sz'=sz:=by rw [← hsz' r (List.mem_of_getElem? hr),hrl]
     subst this
     have hcell:∀ jj,jj<y.size→w.cell? ⟨b,j*sz'+o'+jj,none⟩=some (vals j (o'+jj)):=fun jj hjj=>by
      have:=hcl j (o'+jj) (by omega) (by omega)
      rw [← Nat.add_assoc] at this
      simp only [World.cell?,hh]
      exact this
     refine ⟨_,by simp [execOp,hop,hu,Instr.loadAt,Instr.sureAddr,Oc hy _ hcell],Zd (y:=y) (vals:=fun jj=>vals j (o'+jj)) (cs:=(r.drop o').take y.size) (by simp;omega) (fun jj x hx=>?_) ‹_›⟩
     have hj:jj<y.size:=by have:=Aa hx;simp at this;omega
     exact hrr j (o'+jj) r x hr (by simpa [List.getElem?_take,hj] using hx)
end
section
variable {X:Cx}{B:Bx}{E E':Env}{S S':St}{w w':World}{F F':Bs}{a:Act}{N:Nat}{R:AE→St→Prop}{ops:Array Oper}{i:Nat}{o:Oper}{p q:Operand}
theorem Ndo.stP {t tk v j o' b r g:Nat}{y:Ty}{x:AV}{xs row cs:List AV}{rows brows:List (List AV)}{bx:List (List (List AV))}{tk':List Nat}(hS:S.toks[tk]?=some v)(hrow:rows[j]?=some row)(hl:o'+xs.length≤row.length)
 (hflat:∀ z,z∈xs→NoT z)(hb:S.boxes[b]?=some brows)(hr:brows[r]?=some cs)(hg:cs[g]?=some (.psl rows tk v))
 (hbx:S.boxes.set b (brows.set r (cs.set g (.psl (rows.set j (row.take o'++xs++row.drop (o'+xs.length))) tk (v+1))))=bx)(htk:S.toks.set tk (v+1)=tk')(ho:ops[i]?=some o)(hw:As ops F o=some true)
 (hop:o.op=.store t p q)(hp:Cg X F p=some (.pp rows tk v j o'))(hq:Cg X F q=some x)(hy:X.ty t=some y)(hxs:cellsOf x=some xs)(hxl:xs.length=y.size):Ndo X N ops i o F .junk S ⟨bx,tk'⟩:=by
 subst hbx;subst htk
 intro F' E w a hlk hI hF
 have hlo:=D7 hlk
 rw [hop] at hlo
 have r1:=Ah hI hF ((B3 (X:=X) (F:=F) (F':=F') (o:=p) fun s hs=>hlo s (by simp [Op.operands,hs])).trans hp)
 have r2:=Ah hI hF ((B3 (X:=X) (F:=F) (F':=F') (o:=q) fun s hs=>hlo s (by simp [Op.operands,hs])).trans hq)
 generalize hva:a.eval q=u2 at r2
 obtain ⟨blk,sz,n,cap,hu,hrel,hi,hsz⟩:=r1.pp_inv
 obtain ⟨hs,hrx,hone⟩:=Eh r2 hxs
 generalize hU:Value.slice (some ⟨blk,0,none⟩) n cap=U at hrel
 have hrel0:=hrel
 cases hrel with
 | psl _ _ _ a0 n0 cap0 k sz' vals hm hx hcap hk hv hsz' hpv hrr hf =>
   cases hU
   have hcur:=Rv hI hk hS
   have hpv:=hpv hcur
   obtain ⟨kl,ksp⟩:=k
   cases ksp with
   | none=>obtain ⟨h,_⟩:=hpv;omega
   | some q' =>
     obtain ⟨b',c,s⟩:=q'
     obtain ⟨hn0,rfl,rfl,hab,arr,e,hh,hcs,hcl⟩:=hpv
     simp only [Option.some.injEq,Addr.mk.injEq,and_true] at hab
     subst hab
     have hrl:=hsz row (List.mem_of_getElem? hrow)
     have:sz'=sz:=by rw [← hsz' row (List.mem_of_getElem? hrow),hrl]
     subst this
     simp only at hcur
     subst hcur
     have hjl:=Aa hrow
     have hvl:u2.cells.toList.length=xs.length:=by simpa using hs
     have hin:j*sz'+o'+xs.length≤arr.toList.length:=by
      have:(j+1)*sz'≤c*sz':=Nat.mul_le_mul_right sz' (by omega)
      rw [Nat.add_mul,Nat.one_mul] at this
      simp;omega
     have hst:=run_storeCells_at X.P blk (j*sz'+o') e u2.cells.toList 0 arr w hh (by simp at hin ⊢;omega) (fun u hu=>hone u (by simpa using hu))
     simp only [Nat.add_zero] at hst
     generalize harr:(arr.toList.take (j*sz'+o')++u2.cells.toList++arr.toList.drop (j*sz'+o'+u2.cells.toList.length)).toArray=arr' at hst
     have hasz:arr'.size=arr.size:=by
      subst harr
      have:=Hn arr.toList u2.cells.toList (j*sz'+o') (by omega)
      rw [List.size_toArray,this];simp
     have hat:=setRow_heap w blk arr arr' e _ hh
     have hoth:∀ q,q≠blk→(w.setRow blk arr').heap[q]?=w.heap[q]?:=fun q hq=>setRow_other w blk q _ (by omega)
     have hbw:blk<w.heap.size:=hI.own_lt (.inr ⟨tk,_,c,0,hk⟩)
     obtain ⟨ev,hI',_⟩:=Kh (w':=w.setRow blk arr') hI (t:=tk) (n:=v) (m:=v+1) (b:=blk) (c:=c) (sz:=0) hk rfl (by omega) (fun h=>absurd rfl h) rfl rfl rfl (by simp) (fun q _ hq=>hoth q hq) (.inr rfl) (by simpa using hbw)
      (fun o v ho h=>by omega) ⟨_,_,hat,fun h=>absurd rfl h⟩ (fun q e he=>Kx (fun h=>by subst h;exact ⟨_,_,_,_,hh,hat⟩) (hoth q) he)
     have hsz2:u2.cells.size=y.size:=by omega
     refine Does.val (v:=undef) ho (Bj hF (by rw [Bw hlk];exact hw)) (by simp [execOp,hop,hu,hva,Instr.storeAt,Instr.sureAddr,storeVar,Cb hy,hsz2,hst]) (.inr ⟨rfl,rfl⟩)
      ⟨E.setTok tk ⟨v+1,some (blk,c,0)⟩,?_,ev,.junk _⟩
     refine hI.setZ hI' rfl (fun i b s h=>hoth b fun hb'=>hI.bt i tk b s v c 0 h (hb'▸hk)) hb hr hg fun u0 hu0=>?_
     have hu0':=hu0
     cases hu0 with
     | psl _ _ _ a1 n1 cap1 k1 sz1 vals1 hm1 hx1 hcap1 hk1 hv1 hsz1 hpv1 hrr1 hf1 =>
       rw [hk] at hk1;cases hk1
       obtain ⟨_,_,rfl,rfl,arr1,e1,hh1,hcs1,hcl1⟩:=hpv1 rfl
       rw [hh] at hh1;cases hh1
       have:sz1=sz':=by rw [← hsz1 row (List.mem_of_getElem? hrow),hrl]
       subst this
       have hrowlen:(row.take o'++xs++row.drop (o'+xs.length)).length=sz1:=by rw [Hn row xs o' hl,hrl]
       have hget:∀ i' j',i'<n1→j'<sz1→i'*sz1+j'<arr'.size:=fun i' j' hi' hj'=>by
        have h1:=Fl (n:=n1) hi' hj'
        have h2:n1*sz1≤c*sz1:=Nat.mul_le_mul_right _ (by omega)
        omega
       refine .psl _ tk (v+1) _ n1 c ⟨v+1,some (blk,c,0)⟩ sz1 (fun i' j'=>arr'.getD (i'*sz1+j') default) (by simpa using hm1) hx1 hcap1 (by simp [Env.setTok,Aa hk]) (Nat.le_refl _) (fun r' hr'=>?_)
        (fun _=>⟨by omega,rfl,rfl,rfl,arr',e,hat,by rw [hasz];exact hcs,fun i' j' hi' hj'=>by simp [Array.getD,hget i' j' hi' hj']⟩) (fun i' j' r' x' hi' hj'=>?_) (fun r' hr' z hz=>?_)
       ·rcases List.mem_or_eq_of_mem_set hr' with h | rfl
        ·exact hsz1 r' h
        ·exact hrowlen
       ·have hil:i'<rows.length:=by have:=Aa hi';simpa using this
        have hjl':j'<sz1:=by
         have:=Aa hj'
         rcases Cv hi' with ⟨_,rfl⟩ | ⟨_,h⟩
         ·omega
         ·have:=hsz1 r' (List.mem_of_getElem? h);omega
        have hlt:=hget i' j' (by omega) hjl'
        have hval:arr'.getD (i'*sz1+j') default=arr'[i'*sz1+j']:=by simp [Array.getD,hlt]
        rw [hval]
        have hu':(arr.toList.take (j*sz1+o')++u2.cells.toList++arr.toList.drop (j*sz1+o'+u2.cells.toList.length))[i'*sz1+j']?=some arr'[i'*sz1+j']:=by
         rw [← List.getElem?_toArray,harr];simp [hlt]
        rw [Hm _ _ _ _ (by omega)] at hu'
        have hold:∀ (r0:List AV),rows[i']?=some r0→r0[j']?=some x'→arr.toList[i'*sz1+j']?=some arr'[i'*sz1+j']→Rel (E.setTok tk ⟨v+1,some (blk,c,0)⟩) (w.setRow blk arr') arr'[i'*sz1+j'] x':=fun r0 h1 h2 h3=>by
         have h4:=hcl1 i' j' (by omega) hjl'
         rw [Array.getElem?_toList,h4] at h3
         rw [← Option.some.inj h3]
         exact (hrr1 i' j' r0 x' h1 h2).step ev
        rcases Cv hi' with ⟨rfl,rfl⟩ | ⟨hne,h⟩
        ·rw [Hm _ _ _ _ hl] at hj'
         split at hj'
         ·rename_i hjj
          rw [if_pos (by omega),show i'*sz1+j'-(i'*sz1+o')=j'-o' by omega] at hu'
          exact (hrx (j'-o') _ x' (by simpa using hu') hj').step ev
         ·rename_i hjj
          rw [if_neg (by omega)] at hu'
          exact hold row hrow hj' hu'
        ·have:=Te hjl' hne
         rw [if_neg (by omega)] at hu'
         exact hold r' h hj' hu'
       ·rcases List.mem_or_eq_of_mem_set hr' with h | rfl
        ·exact hf1 r' h z hz
        ·rcases List.mem_append.1 hz with hz | hz
         ·rcases List.mem_append.1 hz with hz | hz
          ·exact hf1 row (List.mem_of_getElem? hrow) z (List.mem_of_mem_take hz)
          ·exact hflat z hz
         ·exact hf1 row (List.mem_of_getElem? hrow) z (List.mem_of_mem_drop hz)
end
section
variable {X:Cx}{B:Bx}{E E':Env}{S S':St}{w w':World}{F F':Bs}{a:Act}{N:Nat}{R:AE→St→Prop}{ops:Array Oper}{i:Nat}{o:Oper}{p q:Operand}
theorem Wz (hI:Inv X E S w){t ver:Nat}{tt tx ty e e':TypeId}{ye:Ty}(hu:X.P.underlying tt=some (.slice e))(hk:X.P.underlying tx=some (.slice e'))(hye:X.ty e=some ye)(hne0:ye.size≠0)
 {rows new:List (List AV)}{sp:Sp}{u v:Value}(hp:Rel E w u (.psl rows t ver))(hq:Rel E w v (.sl new sp))(hS:S.toks[t]?=some ver)(hflat:∀ r,r∈new→∀ x,x∈r→NoT x)
 (hz:∀ r,r∈rows→r.length=ye.size)(hz':∀ r,r∈new→r.length=ye.size)(hc:∀ r,r∈new→∀ x,x∈r→Fh x=true)(hne:new≠[])(hb:rows.length+new.length≤100000000000) :
 ∃ r E' w',(Builtin.append_ #[tt,tx] ty #[u,v]).run X.P w=.ok r w'∧Inv X E' ⟨S.boxes,S.toks.set t (ver+1)⟩ w'∧Evol E w E' w' E.boxes.length E.toks.length ∧
  Rel E' w' r (.psl (rows++new) t (ver+1)):=by
 obtain ⟨i,z,hi,hsz,hby,hzv,hzc,hzl,_⟩:=(X.ty_ok e ye hye).info
 have hnew:0<new.length:=List.length_pos_iff.2 hne
 obtain ⟨vals2,hsrc,hr2⟩:=Ad6 hk hq hz' hc hne
 rw [← hsz] at hsrc
 generalize hR:rows=rows0 at hp
 cases hp with
 | psl _ _ _ a n cap k sz vals hn hx hcap hk1 hv hszr hpv hr hf =>
 subst hR
 subst hn
 have hcur:=Rv hI hk1 hS
 have hpv:=hpv hcur
 have hkt:=Aa hk1
 have hvals:∀ (vals':Nat→Nat→Value),(∀ i j,i<rows.length→vals' i j=vals i j)→(∀ i j,rows.length≤i→vals' i j=vals2 (i-rows.length) j)→∀ {E':Env} {w':World},Evol E w E' w' E.boxes.length E.toks.length →
  ∀ (i j:Nat) (r:List AV) (x:AV),(rows++new)[i]?=some r→r[j]?=some x→Rel E' w' (vals' i j) x:=fun vals' h1 h2 {E' w'} ev i j r x hi hj=>by
  rcases Nat.lt_or_ge i rows.length with h | h
  ·rw [List.getElem?_append_left h] at hi
   rw [h1 i j h];exact (hr i j r x hi hj).step ev
  ·rw [List.getElem?_append_right h] at hi
   rw [h2 i j h];exact (hr2 _ j r x hi hj).step ev
 have hall:∀ r,r∈rows++new→r.length=ye.size:=fun r h=>by
  rcases List.mem_append.1 h with h | h
  ·exact hz r h
  ·exact hz' r h
 have hfl':∀ r,r∈rows++new→∀ x,x∈r→NoT x:=fun r h x hx'=>by
  rcases List.mem_append.1 h with h | h
  ·exact hf r h x hx'
  ·exact hflat r h x hx'
 have hlen:(rows++new).length=rows.length+new.length:=by simp
 have hszeq:rows.length≠0→sz=i.size:=fun h=>by
  obtain ⟨r0,hr0⟩:=Ab rows (i:=0) (by omega)
  rw [← hszr r0 (List.mem_of_getElem? hr0),hz r0 (List.mem_of_getElem? hr0),hsz]
 have grow:cap<rows.length+new.length→∃ r E' w',(Builtin.append_ #[tt,tx] ty #[.slice a rows.length cap,v]).run X.P w=.ok r w'∧Inv X E' ⟨S.boxes,S.toks.set t (ver+1)⟩ w'∧Evol E w E' w' E.boxes.length E.toks.length ∧
  Rel E' w' r (.psl (rows++new) t (ver+1)):=fun hg=>by
  have hold:(Builtin.firstCells i.size rows.length (.slice a rows.length cap)).run X.P w.drew=.ok (Cd rows.length i.size vals).toArray w.drew:=by
   rcases Nat.eq_zero_or_pos rows.length with h0 | h0
   ·rw [h0]
    have:Cd 0 i.size vals=[]:=by simp [Cd]
    rw [this]
    cases a with
    | none=>exact run_firstCells_none _ _ _ _ _
    | some a0=>exact run_firstCells_some _ _ _ _ _ _ _ (by simp) (fun j v hj=>by simp at hj)
   ·have hs':=hszeq (by omega)
    subst hs'
    obtain ⟨kl,ksp⟩:=k
    cases ksp with
    | none=>obtain ⟨h,_⟩:=hpv;omega
    | some q' =>
      obtain ⟨b,c,s⟩:=q'
      obtain ⟨_,rfl,rfl,rfl,arr,e1,hh,hcs,hcl⟩:=hpv
      refine run_firstCells_some _ _ _ _ _ _ _ (Cl _ _ _) (fun q v hq=>?_)
      obtain ⟨i',j',hi',hj',rfl,he⟩:=Q0 (vals:=vals) (by have:=Aa hq;rw [Cl] at this;exact this)
      rw [he] at hq;cases hq
      rw [Dx,Nat.zero_add]
      have:=hcl i' j' hi' hj'
      have hdr:w.drew.heap[b]?=w.heap[b]?:=rfl
      simp only [World.cell?,hdr,hh]
      exact this
  have hby':(rows.length+new.length)*i.bytes≤140737488355328:=Nat.le_trans (Nat.mul_le_mul_left _ hby) (by omega)
  have hrun:=run_append_grow_src w tt tx ty e i z hu hi hzv a rows.length cap _ hold v new.length _ hsrc hg (by omega) (growslice_fits hg hby')
  have hcc:=grownCap_ge w (rows.length+new.length) cap e
  generalize grownCap w (rows.length+new.length) cap e=cc at hrun hcc
  have hfl:∀ (i' j':Nat),i'<rows.length+new.length→j'<ye.size→(Cd rows.length i.size vals++Cd new.length i.size vals2)[i'*ye.size+j']?=some (if i'<rows.length then vals i' j' else vals2 (i'-rows.length) j'):=fun i' j' hi' hj'=>by
   rw [hsz]
   by_cases h:i'<rows.length
   ·have:=Fl h hj'
    rw [List.getElem?_append_left (by rw [Cl];exact this),if_pos h]
    exact Hu h hj'
   ·have hle:rows.length*ye.size≤i'*ye.size:=Nat.mul_le_mul_right _ (by omega)
    rw [List.getElem?_append_right (by rw [Cl];omega),if_neg h,Cl]
    rw [show i'*ye.size+j'-rows.length*ye.size=(i'-rows.length)*ye.size+j' by rw [Nat.sub_mul];omega]
    exact Hu (by omega) hj'
  have hcs:((Cd rows.length i.size vals++Cd new.length i.size vals2).toArray++Builtin.zeroCells z.cells (cc-(rows.length+new.length))).size=cc*ye.size:=by
   have hzs:z.cells.size=ye.size:=by rw [← hzl,← hzc];simp
   have:(Builtin.zeroCells z.cells (cc-(rows.length+new.length))).size=(cc-(rows.length+new.length))*ye.size:=by
    simp [Builtin.zeroCells,hzs]
   rw [Array.size_append,this,List.size_toArray,List.length_append,Cl,Cl,hsz,← Nat.add_mul,← Nat.add_mul]
   congr 1;omega
  have hpush:∀ o:Obj,(w.drew.alloc o).heap=w.heap.push o:=fun _=>rfl
  have hheap:(w.drew.alloc (.cells ((Cd rows.length i.size vals++Cd new.length i.size vals2).toArray++Builtin.zeroCells z.cells (cc-(rows.length+new.length))) e)).heap[w.heap.size]? =
   some (.cells ((Cd rows.length i.size vals++Cd new.length i.size vals2).toArray++Builtin.zeroCells z.cells (cc-(rows.length+new.length))) e (0,0)):=by rw [hpush];simp
  obtain ⟨ev,hI',_⟩:=Kh (w':=w.drew.alloc (.cells ((Cd rows.length i.size vals++Cd new.length i.size vals2).toArray++Builtin.zeroCells z.cells (cc-(rows.length+new.length))) e)) hI (t:=t) (n:=ver) (m:=ver+1)
   (b:=w.heap.size) (c:=cc) (sz:=0) hk1 hcur.symm (by omega) (fun h=>absurd rfl h) rfl rfl rfl (by rw [hpush];simp) (fun q hq _=>by rw [hpush,Array.getElem?_push_lt hq];simp [hq]) (.inl rfl) (by rw [hpush];simp)
   (fun o v _ h=>by have:=Gm h;omega) ⟨_,e,hheap,fun h=>absurd rfl h⟩ (Evol.push (E:=E) (w:=w) ⟨_,hpush _⟩ rfl rfl rfl 0 0).ty
  refine ⟨_,_,_,hrun,hI',ev,?_⟩
  refine .psl (rows++new) t (ver+1) _ _ cc ⟨ver+1,some (w.heap.size,cc,0)⟩ ye.size (fun i j=>if i<rows.length then vals i j else vals2 (i-rows.length) j) hlen (by unfold Kk;omega) hcc (by simp [Env.setTok,hkt]) (Nat.le_refl _) hall
   (fun _=>⟨by omega,rfl,rfl,rfl,_,e,hheap,hcs,fun i' j' hi' hj'=>?_⟩) (hvals _ (fun i' j' h=>if_pos h) (fun i' j' h=>if_neg (by omega)) ev) hfl'
  have h:=hfl i' j' hi' hj'
  have hlt:=Aa h
  rw [Array.getElem?_append_left (by simpa using hlt),List.getElem?_toArray]
  exact h
 by_cases hg:cap<rows.length+new.length
 ·exact grow hg
 ·obtain ⟨kl,ksp⟩:=k
  cases ksp with
  | none=>obtain ⟨h1,h2⟩:=hpv;omega
  | some q =>
    obtain ⟨b',c',s'⟩:=q
    obtain ⟨hn0,rfl,rfl,rfl,cur,te,hh,hcs,hcl⟩:=hpv
    have hs':=hszeq hn0
    subst hs'
    simp only at hcur
    subst hcur
    have hsub:(rows.length+new.length)*i.size≤c'*i.size:=Nat.mul_le_mul_right _ (by omega)
    rw [Nat.add_mul] at hsub
    have hfit:rows.length*i.size+(Cd new.length i.size vals2).length≤cur.size:=by rw [Cl,hcs];exact hsub
    have hrun:=K5 tt tx ty e i hu hi b' rows.length c' v new.length _ hsrc (by omega) hh hfit
    have hfl:=Cl new.length i.size vals2
    have hat:=setRow_heap w b' cur (cur.toList.take (rows.length*i.size)++Cd new.length i.size vals2++cur.toList.drop (rows.length*i.size+(Cd new.length i.size vals2).length)).toArray te _ hh
    have hoth:∀ q,q≠b'→(w.setRow b' (cur.toList.take (rows.length*i.size)++Cd new.length i.size vals2++cur.toList.drop (rows.length*i.size+(Cd new.length i.size vals2).length)).toArray).heap[q]?=w.heap[q]? :=
     fun q hq=>setRow_other w b' q _ (by omega)
    have hspl:=fun q=>Hm cur.toList (Cd new.length i.size vals2) (rows.length*i.size) q (by simpa using hfit)
    have hbw:b'<w.heap.size:=hI.own_lt (.inr ⟨t,_,c',0,hk1⟩)
    obtain ⟨ev,hI',_⟩:=Kh (w':=w.setRow b' (cur.toList.take (rows.length*i.size)++Cd new.length i.size vals2++cur.toList.drop (rows.length*i.size+(Cd new.length i.size vals2).length)).toArray) hI (t:=t) (n:=ver) (m:=ver+1)
     (b:=b') (c:=c') (sz:=0) hk1 rfl (by omega) (fun h=>absurd rfl h) rfl rfl rfl (by simp) (fun q _ hq=>hoth q hq) (.inr rfl) (by simpa using hbw)
     (fun o v ho h=>by omega) ⟨_,_,hat,fun h=>absurd rfl h⟩ (fun q e he=>Kx (fun h=>by subst h;exact ⟨_,_,_,_,hh,hat⟩) (hoth q) he)
    refine ⟨_,_,_,hrun,hI',ev,?_⟩
    have hnm:∀ i' j',i'<rows.length+new.length→j'<i.size→i'*i.size+j'<(rows.length+new.length)*i.size:=fun i' j' hi' hj'=>Fl hi' hj'
    refine .psl (rows++new) t (ver+1) _ _ c' ⟨ver+1,some (b',c',0)⟩ i.size (fun i j=>if i<rows.length then vals i j else vals2 (i-rows.length) j) hlen (by unfold Kk;omega) (by omega) (by simp [Env.setTok,hkt]) (Nat.le_refl _) (fun r hr=>by rw [hall r hr,hsz])
     (fun _=>⟨by omega,rfl,rfl,rfl,_,te,hat,by rw [List.size_toArray,Hn _ _ _ (by simpa using hfit)];simpa using hcs,fun i' j' hi' hj'=>?_⟩) (hvals _ (fun i' j' h=>if_pos h) (fun i' j' h=>if_neg (by omega)) ev) hfl'
    rw [List.getElem?_toArray,hspl]
    have h4:=hnm i' j' hi' hj'
    rw [Nat.add_mul] at h4
    by_cases h:i'<rows.length
    ·have h5:=Fl h hj'
     dsimp only
     rw [if_neg (by omega),if_pos h,Array.getElem?_toList]
     exact hcl i' j' h hj'
    ·have hle:rows.length*i.size≤i'*i.size:=Nat.mul_le_mul_right _ (by omega)
     dsimp only
     rw [if_pos ⟨by omega,by omega⟩,if_neg h]
     rw [show i'*i.size+j'-rows.length*i.size=(i'-rows.length)*i.size+j' by rw [Nat.sub_mul];omega]
     exact Hu (by omega) hj'
theorem Nv {c:Call}{t ver tt tx e e':Nat}{y yx ye:Ty}{rows new:List (List AV)}{sp:Sp}{res:List (List AV)}{tk:List Nat}(hS:S.toks[t]?=some ver)(hl:∀ r,r∈rows→r.length=ye.size)(hflat:∀ r,r∈new→∀ x,x∈r→NoT x)
 (hb:rows.length+new.length≤100000000000)(hres:rows++new=res)(htk:S.toks.set t (ver+1)=tk)(ho:ops[i]?=some o)(hw:As ops F o=some true)(hop:o.op=.call c)(hcal:c.callee=.builtin .append)(hargs:c.args.toList=[p,q])(htys:c.argTypes.toList=[tt,tx])
 (hp:Cg X F p=some (.psl rows t ver))(hq:Cg X F q=some (.sl new sp))(hy:X.ty tt=some y)(hyk:y.k=.slc e)(hye:X.ty e=some ye)(hyx:X.ty tx=some yx)(hyxk:yx.k=.slc e')
 (hl':Hg ye.size new=true)(hc:I5 new=true)(hne:Nat.ble 1 new.length=true):Ndo X N ops i o F (.psl res t (ver+1)) S ⟨S.boxes,tk⟩:=by
 subst hres;subst htk
 intro F' E w a hlk hI hF
 obtain ⟨callee,args,argTypes⟩:=c
 simp only at hcal hargs htys
 subst hcal
 have ha:args=#[p,q]:=by rw [← Array.toList_inj];exact hargs
 have ht:argTypes=#[tt,tx]:=by rw [← Array.toList_inj];exact htys
 subst ha;subst ht
 have hlo:=D7 hlk
 rw [hop] at hlo
 have r1:=Ah hI hF ((B3 (X:=X) (F:=F) (F':=F') (o:=p) fun s hs=>hlo s (by simp [Op.operands,Call.operands,hs])).trans hp)
 have r2:=Ah hI hF ((B3 (X:=X) (F:=F) (F':=F') (o:=q) fun s hs=>hlo s (by simp [Op.operands,Call.operands,hs])).trans hq)
 obtain ⟨d1,hd1,hk1⟩:=(X.ty_ok tt y hy).agg
 simp only [hyk] at hk1
 obtain ⟨rfl,ye',hye',hne0⟩:=hk1
 rw [hye] at hye';cases hye'
 obtain ⟨d2,hd2,hk2⟩:=(X.ty_ok tx yx hyx).agg
 simp only [hyxk] at hk2
 obtain ⟨rfl,_⟩:=hk2
 obtain ⟨v,E',w',h1,h2,h3,h4⟩:=Wz hI (ty:=o.type) hd1 hd2 hye hne0 r1 r2 hS hflat hl (Fa.1 hl') (Ho.1 hc) (fun h=>by rw [h] at hne;simp at hne) hb
 exact Does.val ho (Bj hF (by rw [Bw hlk];exact hw)) (by simp [execOp,hop,resolve,invoke,builtin,h1]) (.inl rfl) ⟨E',h2,h3,h4⟩
class TokC (tk:List Nat)(t v:Nat):Prop where
 h:tk[t]?=some v
instance {v:Nat}{l:List Nat}:TokC (v::l) 0 v:=⟨rfl⟩
instance {x v t:Nat}{l:List Nat} [h:TokC l t v]:TokC (x::l) (t+1) v:=⟨by simpa using h.h⟩
instance {bx:List (List (List AV))}{tk:List Nat}{n m t v:Nat}{rows:List (List AV)} [h1:TokC tk t v] [h2:LeC m t] [h3:OKR n m rows]:FzC ⟨bx,tk⟩ n m (.psl rows t v) (.sl rows .no):=⟨.psl rows t v h2.h h1.h h3.ok⟩
end
end Go.V
namespace Go.V
open Go Go.Proofs
def Ka (e:Eg):List AV:=vi e.f::vi e.t::vi e.k::vb e.y::Ae e.n
def De (l:List Eg):List (List AV):=l.map Ka
theorem Hr (l:List Eg):(De l).length=l.length:=by simp [De]
theorem N4 (l:List Eg):∀ r,r∈De l→r.length=8:=fun r h=>by obtain ⟨e,_,rfl⟩:=List.mem_map.1 h;rfl
theorem Vl (l:List Eg)(e:Eg):De l++[Ka e]=De (l++[e]):=by simp [De]
theorem Og (n:Nd):∀ x,x∈Ae n→Flat x:=fun x hx=>by
 have h:OKL 0 0 (Ae n):=inferInstance
 exact (h.ok x hx).flat rfl rfl
theorem Xn (e:Eg):∀ x,x∈Ka e→Flat x:=fun x hx=>by
 simp only [Ka,List.mem_cons] at hx
 rcases hx with rfl | rfl | rfl | rfl | hx
 ·exact .val _
 ·exact .val _
 ·exact .val _
 ·exact .val _
 ·exact Og _ x hx
theorem Vk (e:Eg):∀ r,r∈[Ka e]→∀ x,x∈r→NoT x:=fun r hr x hx=>by simp at hr;subst hr;exact (Xn e x hx).noT
instance {n m:Nat}{l:List Eg}:OKR n m (De l):=⟨fun r hr x hx=>by obtain ⟨e,_,rfl⟩:=List.mem_map.1 hr;exact (Xn e x hx).ok⟩
abbrev mbx (p:Nat)(l:List Eg):List (List AV):=[[vi p,.psl (De l) 0 l.length]]
theorem F6 (p:Nat)(l:List Eg)(h:p≤1000000000000):Hands X 159 [.ptr 0 0 0] ⟨[mbx p l],[l.length]⟩ (vi p) ⟨[mbx (p+1) l],[l.length]⟩:=by
 refine Hands.run Tryz.func159 ?_
 have e1:IntKind.i64.wrap ((p:Int)+1)=((p+1:Nat):Int):=(Ac (by omega) (by omega)).trans (by omega)
 have e2:IntKind.i64.wrap (IntKind.i64.wrap ((p:Int)+1)-1)=(p:Int):=by rw [e1];exact (Ac (by omega) (by omega)).trans (by omega)
 refine AK.as_ 2 (vi p) ?_ (Bn e2)
 refine AK.sto ⟨[mbx (p+1) l],[l.length]⟩ ?_ (by rw [mbx,← e1])
 exact AK.rb Tryz.func159 rfl rfl
theorem Ajh (p:Nat)(l:List Eg)(e:Eg)(hw:wN e.n≤1000000000)(hl:l.length≤1000000000) :
 Hands X 160 [.ptr 0 0 0,vi e.f,vi e.t,vi e.k,vb e.y,.agg (Ae e.n)] ⟨[mbx p l],[l.length]⟩ (.tup []) ⟨[mbx p (l++[e])],[(l++[e]).length]⟩:=by
 refine Hands.run Tryz.func160 ?_
 refine AK.db 73728 ?_
 refine Bl (Wa e.n hw) ?_
 refine Drv.w (Nv (ver:=l.length) rfl (N4 l) (Vk e) ?_ (Vl l e) rfl rfl rfl rfl rfl rfl rfl rfl rfl rfl rfl rfl rfl rfl rfl rfl rfl) ?_
 ·rw [Hr];simp;omega
 refine Drv.e ?_
 refine Drv.e ?_
 refine Drv.w (Ndo.store rfl rfl rfl rfl rfl rfl rfl) ?_
 refine Drv.z ?_
 refine AK.sto ⟨[mbx p (l++[e]),[Ae e.n]],[(l++[e]).length]⟩ ?_ (by simp)
 exact AK.fb Tryz.func160 rfl rfl
structure Gb (g:Gr)(k:Nat):Prop where
 pt:g.pt<g.pts
 pts:g.pts+24*k≤100000000000
 es:g.es.length+24*k≤1000000000
theorem Gb.step {g g':Gr}{j k m:Nat}(h:Gb g m)(hl:g.le g' (bG j))(hm:j+k≤m):Gb g' k:=by
 obtain ⟨l,h1,h2,_⟩:=hl.es
 have:=hl.pts
 have:=h.pts
 have:=h.es
 simp only [bG] at h2 this
 refine ⟨hl.pt,?_,?_⟩
 ·have:=hl.pts.2;simp only [bG] at this;omega
 ·rw [h1,List.length_append];omega
theorem Gb.step1 {g g':Gr}{j k m:Nat}(h:Gb g m)(hl:g.le g' j)(hj:j≤6*m)(hm:j+6*k≤6*m):Gb g' k:=by
 obtain ⟨l,h1,h2,_⟩:=hl.es
 have:=hl.pts
 have:=h.pts
 have:=h.es
 refine ⟨hl.pt,by omega,?_⟩
 rw [h1,List.length_append];omega
abbrev gSt (g:Gr):St:=⟨[mbx g.pts g.es],[g.es.length]⟩
def HSt (n:Nd):Prop:=∀ (a:Nd)(g:Gr),Gb g (wN n)→Hands X 220 [.ptr 0 0 0,nd n,vi g.pt] (gSt g) (vi (gS n a g).pt) (gSt (gS n a g))
def HLs (l:List Nd):Prop:=∀ (a:Nd)(g:Gr),Gb g (wL l)→Hands X 158 [.ptr 0 0 0,nd (.mk 30 [] 0 l),vi g.pt] (gSt g) (vi (gL l a g).pt) (gSt (gL l a g))
theorem Aez {l:List Nd}{i:Nat}{x:Nd}(hx:l[i]?=some x)(a:Nd)(g:Gr):gL (l.take (i+1)) a g=gS x ((l.take i).getLastD a) (gL (l.take i) a g):=by
 rw [List.take_add_one,hx]
 simp only [Option.toList_some]
 rw [Ajf];rfl
theorem Af9 {l:List Nd}{i:Nat}{x:Nd}(hx:l[i]?=some x):wL (l.take i)+wN x≤wL l:=by
 have h:l.take (i+1)=l.take i++[x]:=by rw [List.take_add_one,hx];rfl
 have h1:wL (l.take (i+1))+wL (l.drop (i+1))=wL l:=by rw [← Ox,List.take_append_drop]
 rw [h,Ox] at h1
 simp only [wL] at h1;omega
theorem Zn {l:List Nd}(hp:∀ x,x∈l→PS x)(hs:∀ x,x∈l→HSt x):HLs l:=by
 intro a g hb
 have hlw:=Is l
 have hbe:=hb.es
 refine Hands.run Tryz.func158 ?_
 refine AK.while_ (ι:=Nat) 2 1 (fun i=>i≤l.length) (fun i=>[(7,vi i),(0,.ptr 0 0 0),(2,vi (gL (l.take i) a g).pt),(4,.ptr 1 0 0)])
  (fun i=>⟨[mbx (gL (l.take i) a g).pts (gL (l.take i) a g).es,[Ae (.mk 30 [] 0 l)]],[(gL (l.take i) a g).es.length]⟩) (fun i=>l.length-i) ?_ 0
  (Nat.zero_le _) ⟨rfl,rfl,rfl,rfl,trivial⟩
 intro i hi IH
 have hgi:g.le (gL (l.take i) a g) (bG (wL (l.take i))):=J7 (fun x hx=>hp x (List.mem_of_mem_take hx)) a g hb.pt
 refine AK.ei (fun h=>?_) (fun h=>?_)
 ·have hlt:i<l.length:=by have:=of_decide_eq_true h;rw [Ad] at this;simp at this;omega
  obtain ⟨x,hx⟩:=Ab l hlt
  have hwt:=Af9 hx
  have hbi:Gb (gL (l.take i) a g) (wN x):=hb.step hgi hwt
  refine AK.ix i (by omega) (Al (l:=l) hx) ?_
  refine AK.hc (τ':=[0]) [0] [0] (hs x (List.mem_of_getElem? hx) ((l.take i).getLastD a) _ hbi) ?_
  rw [← Aez hx]
  exact IH (i+1) hlt (by omega) _ _ ⟨vsx (by omega),rfl,rfl,rfl,trivial⟩ rfl rfl rfl
 ·have:i=l.length:=by have:=of_decide_eq_false h;rw [Ad] at this;simp at this;omega
  subst this
  rw [List.take_length] at hgi ⊢
  exact AK.rb Tryz.func158 rfl rfl
theorem Ks (p:Nat)(l:List Eg)(f t k:Int)(y:Bool)(n:Nd)(hw:wN n≤1000000000)(hl:l.length≤1000000000) :
 Hands X 160 [.ptr 0 0 0,vi f,vi t,vi k,vb y,nd n] ⟨[mbx p l],[l.length]⟩ (.tup []) ⟨[mbx p (l++[⟨f,t,k,y,n⟩])],[(l++[(⟨f,t,k,y,n⟩:Eg)]).length]⟩:=Ajh p l ⟨f,t,k,y,n⟩ hw hl
theorem Mw (p:Nat)(l:List Eg)(f t k:Int)(y:Bool)(hl:l.length≤1000000000) :
 Hands X 160 [.ptr 0 0 0,vi f,vi t,vi k,vb y,.agg [vi 0,str [],vi 0,.sl [] .no]] ⟨[mbx p l],[l.length]⟩ (.tup []) ⟨[mbx p (l++[⟨f,t,k,y,B2⟩])],[(l++[(⟨f,t,k,y,B2⟩:Eg)]).length]⟩:=Ajh p l ⟨f,t,k,y,B2⟩ (by show wN B2≤1000000000;decide) hl
abbrev gS3 (p:Nat)(es:List Eg)(n:Nd):St:=⟨[mbx p es,[Ae n],[zN]],[es.length]⟩
set_option maxHeartbeats 2000000 in
theorem Aqc {n:Nd}(h:PS n):HSt n:=by
 induction h with
 | set s x h hx =>
   intro a g hb
   have b1:=hb.pts
   have b2:=hb.es
   refine Hands.run Tryz.func220 ?_
   rw [Zm]
   refine AK.no ?_
   refine AK.no ?_
   refine AK.no ?_
   refine AK.hc (τ':=[0]) [0] [0] (F6 g.pts g.es (by omega)) ?_
   refine AK.yes ?_
   refine AK.hc (τ':=[0]) [0] [0] (Ks (g.pts+1) g.es g.pt g.pts 1 false (.mk 21 s 0 [x]) (by omega) (by omega)) ?_
   exact AK.rb Tryz.func220 rfl rfl
 | put s x y h hx hy =>
   intro a g hb
   have b1:=hb.pts
   have b2:=hb.es
   refine Hands.run Tryz.func220 ?_
   rw [Zl]
   refine AK.no ?_
   refine AK.no ?_
   refine AK.no ?_
   refine AK.hc (τ':=[0]) [0] [0] (F6 g.pts g.es (by omega)) ?_
   refine AK.no ?_
   refine AK.yes ?_
   refine AK.hc (τ':=[0]) [0] [0] (Ks (g.pts+1) g.es g.pt g.pts 2 false (.mk 22 s 0 [x,y]) (by omega) (by omega)) ?_
   exact AK.rb Tryz.func220 rfl rfl
 | read s h =>
   intro a g hb
   have b1:=hb.pts
   have b2:=hb.es
   refine Hands.run Tryz.func220 ?_
   rw [Uo]
   refine AK.no ?_
   refine AK.no ?_
   refine AK.no ?_
   refine AK.hc (τ':=[0]) [0] [0] (F6 g.pts g.es (by omega)) ?_
   refine AK.no ?_
   refine AK.no ?_
   refine AK.yes ?_
   refine AK.hc (τ':=[0]) [0] [0] (Ks (g.pts+1) g.es g.pt g.pts 3 false (.mk 23 s 0 []) (by omega) (by omega)) ?_
   exact AK.rb Tryz.func220 rfl rfl
 | ifs c l l' hc hl hl' ihl ihl' =>
   intro a g hb
   have b1:=hb.pts
   have b2:=hb.es
   refine Hands.run Tryz.func220 ?_
   have hwc:wN c<wN (.mk 24 [] 0 [c,.mk 30 [] 0 l,.mk 30 [] 0 l']):=F3 (n:=.mk 24 [] 0 [c,.mk 30 [] 0 l,.mk 30 [] 0 l']) (by simp)
   have hws:wN (.mk 24 [] 0 [c,.mk 30 [] 0 l,.mk 30 [] 0 l'])=3+wN c+wL l+wL l':=by simp only [wN,wL,List.length_nil];omega
   rw [Ae0]
   unfold gIf
   refine AK.no ?_
   refine AK.yes ?_
   refine AK.hc (τ':=[0]) [0] [0] (F6 g.pts g.es (by omega)) ?_
   refine AK.sto (gS3 (g.pts+1) g.es (.mk 24 [] 0 [c,.mk 30 [] 0 l,.mk 30 [] 0 l'])) ?_
   refine AK.ix 0 (by omega) (Al (l:=[c,.mk 30 [] 0 l,.mk 30 [] 0 l']) rfl) ?_
   refine AK.hc (τ':=[0]) [0] [0] (Ks (g.pts+1) g.es g.pt g.pts 4 true c (by omega) (by omega)) ?_
   refine AK.sto (gS3 (g.pts+1) (g.es++[⟨g.pt,g.pts,4,true,c⟩]) (.mk 24 [] 0 [c,.mk 30 [] 0 l,.mk 30 [] 0 l'])) ?_
   have l1:=K8 g.pt c true hb.pt
   have c1:Gb (Do g.pt c true g) (wL l):=hb.step1 l1 (by omega) (by omega)
   have a2:=J7 hl B2 _ c1.pt
   have i1:Hands X 158 [.ptr 0 0 0,nd (.mk 30 [] 0 l),vi g.pts] ⟨[mbx (g.pts+1) (g.es++[⟨g.pt,g.pts,4,true,c⟩])],[(g.es++[(⟨g.pt,g.pts,4,true,c⟩:Eg)]).length]⟩ (vi (gL l B2 (Do g.pt c true g)).pt) (gSt (gL l B2 (Do g.pt c true g))):=Zn hl ihl B2 (Do g.pt c true g) c1
   refine AK.ix 1 (by omega) (Al (l:=[c,.mk 30 [] 0 l,.mk 30 [] 0 l']) rfl) ?_
   refine AK.hc (τ':=[0]) [0] [0] i1 ?_
   refine AK.sto (gS3 (gL l B2 (Do g.pt c true g)).pts (gL l B2 (Do g.pt c true g)).es (.mk 24 [] 0 [c,.mk 30 [] 0 l,.mk 30 [] 0 l'])) ?_
   have l12:=l1.trans a2 (Nat.le_refl _)
   generalize gL l B2 (Do g.pt c true g)=g2 at *
   have c2:Gb g2 (wL l'+1):=hb.step1 l12 (by simp only [bG];omega) (by simp only [bG];omega)
   have b3:=c2.pts
   have b4:=c2.es
   refine AK.hc (τ':=[0]) [0] [0] (F6 g2.pts g2.es (by omega)) ?_
   refine AK.sto (gS3 (g2.pts+1) g2.es (.mk 24 [] 0 [c,.mk 30 [] 0 l,.mk 30 [] 0 l'])) ?_
   refine AK.ix 0 (by omega) (Al (l:=[c,.mk 30 [] 0 l,.mk 30 [] 0 l']) rfl) ?_
   refine AK.hc (τ':=[0]) [0] [0] (Ks (g2.pts+1) g2.es g.pt g2.pts 4 false c (by omega) (by omega)) ?_
   refine AK.sto (gS3 (g2.pts+1) (g2.es++[⟨g.pt,g2.pts,4,false,c⟩]) (.mk 24 [] 0 [c,.mk 30 [] 0 l,.mk 30 [] 0 l'])) ?_
   have hp2:g.pt<g2.pts:=Nat.lt_of_lt_of_le hb.pt l12.pts.1
   have l3:=K8 g.pt c false hp2
   have c3:Gb (Do g.pt c false g2) (wL l'):=c2.step1 l3 (by omega) (by omega)
   have a4:=J7 hl' B2 _ c3.pt
   have i3:Hands X 158 [.ptr 0 0 0,nd (.mk 30 [] 0 l'),vi g2.pts] ⟨[mbx (g2.pts+1) (g2.es++[⟨g.pt,g2.pts,4,false,c⟩])],[(g2.es++[(⟨g.pt,g2.pts,4,false,c⟩:Eg)]).length]⟩ (vi (gL l' B2 (Do g.pt c false g2)).pt) (gSt (gL l' B2 (Do g.pt c false g2))):=Zn hl' ihl' B2 (Do g.pt c false g2) c3
   refine AK.ix 2 (by omega) (Al (l:=[c,.mk 30 [] 0 l,.mk 30 [] 0 l']) rfl) ?_
   refine AK.hc (τ':=[0]) [0] [0] i3 ?_
   refine AK.sto (gS3 (gL l' B2 (Do g.pt c false g2)).pts (gL l' B2 (Do g.pt c false g2)).es (.mk 24 [] 0 [c,.mk 30 [] 0 l,.mk 30 [] 0 l'])) ?_
   have l34:=l3.trans a4 (Nat.le_refl _)
   generalize gL l' B2 (Do g.pt c false g2)=g4 at *
   have c4:Gb g4 0:=c2.step1 l34 (by simp only [bG];omega) (by simp only [bG];omega)
   have b5:=c4.pts
   have b6:=c4.es
   have b7:=l34.es
   refine AK.hc (τ':=[0]) [0] [0] (F6 g4.pts g4.es (by omega)) ?_
   refine AK.sto (gS3 (g4.pts+1) g4.es (.mk 24 [] 0 [c,.mk 30 [] 0 l,.mk 30 [] 0 l'])) ?_
   refine AK.hc (τ':=[0]) [0] [0] (Mw (g4.pts+1) g4.es g2.pt g4.pts 6 false (by omega)) ?_
   refine AK.sto (gS3 (g4.pts+1) (g4.es++[⟨g2.pt,g4.pts,6,false,B2⟩]) (.mk 24 [] 0 [c,.mk 30 [] 0 l,.mk 30 [] 0 l'])) ?_
   refine AK.hc (τ':=[0]) [0] [0] (Mw (g4.pts+1) (g4.es++[⟨g2.pt,g4.pts,6,false,B2⟩]) g4.pt g4.pts 6 false ?_) ?_
   ·obtain ⟨e1,e2,e3,_⟩:=l34.es
    have:=c2.es
    simp only [bG] at e3
    rw [List.length_append,e2,List.length_append]
    simp only [List.length_singleton];omega
   exact AK.rb Tryz.func220 rfl rfl
 | whil c l hc hl ihl =>
   intro a g hb
   have b1:=hb.pts
   have b2:=hb.es
   refine Hands.run Tryz.func220 ?_
   have hwc:wN c<wN (.mk 25 [] 0 [c,.mk 30 [] 0 l]):=F3 (n:=.mk 25 [] 0 [c,.mk 30 [] 0 l]) (by simp)
   have hws:wN (.mk 25 [] 0 [c,.mk 30 [] 0 l])=2+wN c+wL l:=by simp only [wN,wL,List.length_nil];omega
   have hwn:=Py c
   rw [Ae1]
   unfold gWh
   refine AK.no ?_
   refine AK.no ?_
   refine AK.yes ?_
   refine AK.hc (τ':=[0]) [0] [0] (F6 g.pts g.es (by omega)) ?_
   refine AK.sto (gS3 (g.pts+1) g.es (.mk 25 [] 0 [c,.mk 30 [] 0 l])) ?_
   refine AK.hc (τ':=[0]) [0] [0] (Mw (g.pts+1) g.es g.pt g.pts 6 false (by omega)) ?_
   refine AK.sto (gS3 (g.pts+1) (g.es++[⟨g.pt,g.pts,6,false,B2⟩]) (.mk 25 [] 0 [c,.mk 30 [] 0 l])) ?_
   refine AK.hc (τ':=[0]) [0] [0] (F6 (g.pts+1) _ (by omega)) ?_
   refine AK.sto (gS3 (g.pts+1+1) (g.es++[⟨g.pt,g.pts,6,false,B2⟩]) (.mk 25 [] 0 [c,.mk 30 [] 0 l])) ?_
   refine AK.ix 0 (by omega) (Al (l:=[c,.mk 30 [] 0 l]) rfl) ?_
   refine AK.hc (τ':=[0]) [0] [0] (Ks (g.pts+1+1) (g.es++[⟨g.pt,g.pts,6,false,B2⟩]) g.pts (g.pts+1:Nat) 4 true c (by omega) (by simp;omega)) ?_
   refine AK.sto (gS3 (g.pts+1+1) (g.es++[⟨g.pt,g.pts,6,false,B2⟩]++[⟨g.pts,(g.pts+1:Nat),4,true,c⟩]) (.mk 25 [] 0 [c,.mk 30 [] 0 l])) ?_
   have l1:=Jr 6 B2 hb.pt
   have l2:=Zy a (.mk 25 [] 0 [c,.mk 30 [] 0 l]) l1.pt
   have l12:=l1.trans l2 (Nat.le_refl _)
   have hh:g.pts<(Fq a (.mk 25 [] 0 [c,.mk 30 [] 0 l]) (Cs 6 B2 g)).pts:=by simp [Fq,Cs]
   have l3:=K8 g.pts c true hh
   have l123:=l12.trans l3 (Nat.le_refl _)
   have c1:Gb (Do g.pts c true (Fq a (.mk 25 [] 0 [c,.mk 30 [] 0 l]) (Cs 6 B2 g))) (wL l+1):=hb.step1 l123 (by omega) (by omega)
   have c1':Gb (Do g.pts c true (Fq a (.mk 25 [] 0 [c,.mk 30 [] 0 l]) (Cs 6 B2 g))) (wL l):=⟨c1.pt,by have:=c1.pts;omega,by have:=c1.es;omega⟩
   have a2:=J7 hl B2 _ c1'.pt
   have i1:Hands X 158 [.ptr 0 0 0,nd (.mk 30 [] 0 l),vi (g.pts+1:Nat)] ⟨[mbx (g.pts+1+1) (g.es++[⟨g.pt,g.pts,6,false,B2⟩]++[⟨g.pts,(g.pts+1:Nat),4,true,c⟩])],[(g.es++[(⟨g.pt,g.pts,6,false,B2⟩:Eg)]++[(⟨g.pts,(g.pts+1:Nat),4,true,c⟩:Eg)]).length]⟩
    (vi (gL l B2 (Do g.pts c true (Fq a (.mk 25 [] 0 [c,.mk 30 [] 0 l]) (Cs 6 B2 g)))).pt) (gSt (gL l B2 (Do g.pts c true (Fq a (.mk 25 [] 0 [c,.mk 30 [] 0 l]) (Cs 6 B2 g))))):=Zn hl ihl B2 _ c1'
   refine AK.ix 1 (by omega) (Al (l:=[c,.mk 30 [] 0 l]) rfl) ?_
   refine AK.hc (τ':=[0]) [0] [0] i1 ?_
   refine AK.sto (gS3 (gL l B2 (Do g.pts c true (Fq a (.mk 25 [] 0 [c,.mk 30 [] 0 l]) (Cs 6 B2 g)))).pts (gL l B2 (Do g.pts c true (Fq a (.mk 25 [] 0 [c,.mk 30 [] 0 l]) (Cs 6 B2 g)))).es (.mk 25 [] 0 [c,.mk 30 [] 0 l])) ?_
   have l1234:=l123.trans a2 (Nat.le_refl _)
   generalize gL l B2 (Do g.pts c true (Fq a (.mk 25 [] 0 [c,.mk 30 [] 0 l]) (Cs 6 B2 g)))=g2 at *
   have c2:Gb g2 0:=c1.step1 a2 (by simp only [bG];omega) (by simp only [bG];omega)
   have b3:=c2.pts
   have b4:=c2.es
   have b5:g2.es.length+1≤1000000000:=by
    obtain ⟨e1,e2,e3,_⟩:=a2.es
    have:=c1.es
    simp only [bG] at e3
    rw [e2,List.length_append];omega
   refine AK.hc (τ':=[0]) [0] [0] (Mw g2.pts g2.es g2.pt g.pts 6 false (by omega)) ?_
   refine AK.sto (gS3 g2.pts (g2.es++[⟨g2.pt,g.pts,6,false,B2⟩]) (.mk 25 [] 0 [c,.mk 30 [] 0 l])) ?_
   refine AK.hc (τ':=[0]) [0] [0] (F6 g2.pts _ (by omega)) ?_
   refine AK.sto (gS3 (g2.pts+1) (g2.es++[⟨g2.pt,g.pts,6,false,B2⟩]) (.mk 25 [] 0 [c,.mk 30 [] 0 l])) ?_
   refine AK.ix 0 (by omega) (Al (l:=[c,.mk 30 [] 0 l]) rfl) ?_
   refine AK.hc (τ':=[0]) [0] [0] (Ks (g2.pts+1) (g2.es++[⟨g2.pt,g.pts,6,false,B2⟩]) g.pts g2.pts 4 false c (by omega) (by simp;omega)) ?_
   exact AK.rb Tryz.func220 rfl rfl
 | check c hc =>
   intro a g hb
   have b1:=hb.pts
   have b2:=hb.es
   refine Hands.run Tryz.func220 ?_
   have hwc:wN c<wN (.mk 27 [] 0 [c]):=F3 (n:=.mk 27 [] 0 [c]) (by simp)
   rw [Q5]
   refine AK.no ?_
   refine AK.no ?_
   refine AK.no ?_
   refine AK.hc (τ':=[0]) [0] [0] (F6 g.pts g.es (by omega)) ?_
   refine AK.no ?_
   refine AK.no ?_
   refine AK.no ?_
   refine AK.yes ?_
   refine AK.ix 0 (by omega) (Al (l:=[c]) rfl) ?_
   refine AK.hc (τ':=[0]) [0] [0] (Ks (g.pts+1) g.es g.pt g.pts 5 false c (by omega) (by omega)) ?_
   exact AK.rb Tryz.func220 rfl rfl
 | skip =>
   intro a g hb
   have b1:=hb.pts
   have b2:=hb.es
   refine Hands.run Tryz.func220 ?_
   rw [Up]
   refine AK.no ?_
   refine AK.no ?_
   refine AK.no ?_
   refine AK.hc (τ':=[0]) [0] [0] (F6 g.pts g.es (by omega)) ?_
   refine AK.no ?_
   refine AK.no ?_
   refine AK.no ?_
   refine AK.no ?_
   refine AK.hc (τ':=[0]) [0] [0] (Mw (g.pts+1) g.es g.pt g.pts 6 false (by omega)) ?_
   exact AK.rb Tryz.func220 rfl rfl
 | stop =>
   intro a g hb
   have b1:=hb.pts
   have b2:=hb.es
   refine Hands.run Tryz.func220 ?_
   rw [Uq]
   refine AK.yes ?_
   refine AK.hc (τ':=[0]) [0] [0] (Mw g.pts g.es g.pt (-1) 7 false (by omega)) ?_
   refine AK.hc (τ':=[0]) [0] [0] (F6 g.pts _ (by omega)) ?_
   exact AK.rb Tryz.func220 rfl rfl
def Df (x:Int)(e:Eg):Eg:=if e.t<0 then { e with t:=x } else e
def Nr (x:Int)(l:List Eg)(i:Nat):List Eg:=(l.take i).map (Df x)++l.drop i
def Ps (l:List Eg)(i:Nat):Nat:=l.length+((l.take i).filter fun e=>decide (e.t<0)).length
theorem Rb (x:Int)(l:List Eg)(i:Nat):(Nr x l i).length=l.length:=by simp [Nr];omega
theorem Ag9 (x:Int)(l:List Eg):Nr x l 0=l:=by simp [Nr]
theorem Ajz (x:Int)(l:List Eg):Nr x l l.length=l.map (Df x):=by simp [Nr]
theorem Ah6 (l:List Eg):Ps l 0=l.length:=by simp [Ps]
theorem Abl {x:Int}{l:List Eg}{i:Nat}{e:Eg}(h:l[i]?=some e):(Nr x l i)[i]?=some e:=by
 have hi:=Aa h
 simp only [Nr]
 rw [List.getElem?_append_right (by simp;omega),List.getElem?_drop]
 simp [show i+(i-min i l.length)=i by omega,h]
theorem Abm {x:Int}{l:List Eg}{i:Nat}{e:Eg}(h:l[i]?=some e):(Nr x l i).set i (Df x e)=Nr x l (i+1):=by
 have hi:=Aa h
 simp only [Nr]
 rw [List.set_append_right _ _ (by simp;omega),List.take_add_one,h,List.map_append,Ba h]
 simp [show i-min i l.length=0 by omega]
theorem Ag8 {x:Int}{l:List Eg}{i:Nat}{e:Eg}(h:l[i]?=some e)(ht:¬ e.t<0):Nr x l (i+1)=Nr x l i:=by
 rw [← Abm h]
 have:Df x e=e:=by simp [Df,ht]
 rw [this]
 apply List.ext_getElem?
 intro j
 rw [List.getElem?_set]
 split
 ·rename_i hj;subst hj
  rw [Abl h];simp [Rb,Aa h]
 ·rfl
theorem Acg {l:List Eg}{i:Nat}{e:Eg}(h:l[i]?=some e)(ht:e.t<0):Ps l (i+1)=Ps l i+1:=by
 simp only [Ps];rw [List.take_add_one,h];simp [ht];omega
theorem Alm {l:List Eg}{i:Nat}{e:Eg}(h:l[i]?=some e)(ht:¬ e.t<0):Ps l (i+1)=Ps l i:=by
 simp only [Ps];rw [List.take_add_one,h];simp [ht]
def Fx (l:List Nd):Gr:=Cs 6 B2 (gL l B2 ⟨1,0,[],[],[],0⟩)
def Zi (l:List Nd):List Eg:=(Fx l).es.map (Df (Fx l).pt)
def Cz (n:Nd):List Nd:=(Ce (Ap n)).kids
theorem Aef {n:Nd}(h:FP n):∃ ds,Ap n=.mk 40 [] 0 (ds++[.mk 30 [] 0 (Cz n)])∧n.kids.dropLast=ds∧(∀ x,x∈Cz n→PS x)∧wL (Cz n)≤10*wN n:=by
 have hw:=(Nb n).1
 cases h with
 | mk ds l hd hl =>
   have e1:Cz (.mk 40 [] 0 (ds++[.mk 30 [] 0 l]))=A4 l:=by
    unfold Cz Ce
    rw [Ux hd,Dq]
    simp [Dq]
   rw [e1]
   refine ⟨ds,Ux hd,by rw [Dq];simp,Kg fun x hx=>Ar7 (hl x hx),?_⟩
   rw [Ux hd] at hw
   simp only [wN,wL,Ox] at hw ⊢
   omega
theorem Aja (e:Eg)(x:Int)(h:e.t<0):(Ka e).take 1++[vi x]++(Ka e).drop (1+[vi x].length)=Ka (Df x e):=by simp [Ka,Df,h]
theorem Xo (l:List Eg)(i:Nat)(e:Eg):(De l).set i (Ka e)=De (l.set i e):=by simp [De,List.map_set]
theorem R7 {l:List Eg}{i:Nat}{e:Eg}(h:l[i]?=some e):(De l)[i]?=some (Ka e):=by simp [De,h]
abbrev gBx (n:Nd)(p:Nat)(rows:List (List AV))(v:Nat):List (List (List AV)):=[[Ae n],[[vi 0,.sl [] .tight]],[Ae (Ap n)],[[vi p,.psl rows 0 v]]]
theorem Amo (n:Nd)(h:FP n)(hw:wN n≤1000000):Pure X 100 [nd n] (.agg [vi (Fx (Cz n)).pts,.sl (De (Zi (Cz n))) .no]):=by
 obtain ⟨ds,hpl,_,hps,hwl⟩:=Aef h
 have hpw:=(Nb n).1
 have hdl:IntKind.i64.wrap (((Ai (Ap n).kids).length:Int)-1)=ds.length:=by
  have hkl:=D4 (Ap n)
  have e:(Ai (Ap n).kids).length=ds.length+1:=by rw [Ad,hpl,Dq];simp
  rw [Ad] at e
  rw [Ad,Ac (by omega) (by omega)];omega
 have hlast:(Ai (Ap n).kids)[(IntKind.i64.wrap (((Ai (Ap n).kids).length:Int)-1)).toNat]?=some (Ae (.mk 30 [] 0 (Cz n))):=by
  rw [hdl,hpl,Dq]
  exact Al (by simp)
 have h0:0≤IntKind.i64.wrap (((Ai (Ap n).kids).length:Int)-1):=by rw [hdl];omega
 refine Pure.run Tryz.func100 ?_
 refine AK.pc (T8 n h (by omega)) ?_
 refine AK.mintP (bx:=gBx n 0 [] 0) (tk:=[0]) 3 0 1 ?_
 refine AK.as_ 4 (.ptr 3 0 0) ?_
 refine AK.db 3072 ?_
 refine Drv.ig _ h0 hlast ?_
 refine Dv (Ndo.hd (τ':=[0]) [3] [0] (F6 0 [] (by omega))) ?_ ?_
 ·exact Aq (Ndo.ev rfl rfl rfl) (Aq (Ndo.ev rfl rfl rfl) (Aq (Ndo.ev rfl rfl rfl) Fp))
 have c0:Gb ⟨1,0,[],[],[],0⟩ (wL (Cz n)):=⟨by decide,by show 1+_≤_;omega,by show 0+_≤_;omega⟩
 have l0:=J7 hps B2 _ c0.pt
 have i0:Hands X 158 [.ptr 0 0 0,nd (.mk 30 [] 0 (Cz n)),vi (0:Nat)] ⟨[mbx (0+1) []],[([]:List Eg).length]⟩ (vi (gL (Cz n) B2 ⟨1,0,[],[],[],0⟩).pt) (gSt (gL (Cz n) B2 ⟨1,0,[],[],[],0⟩)) :=
  Zn hps (fun x hx=>Aqc (hps x hx)) B2 _ c0
 have c1:Gb (gL (Cz n) B2 ⟨1,0,[],[],[],0⟩) 0:=c0.step l0 (by omega)
 generalize hg:gL (Cz n) B2 ⟨1,0,[],[],[],0⟩=g at *
 refine Drv.w (Ndo.hd (τ':=[0]) [3] [0] i0) ?_
 refine Drv.e ?_
 refine Drv.z ?_
 have b1:=c1.pts
 have b2:=c1.es
 refine AK.hc (τ':=[0]) [3] [0] (F6 g.pts g.es (by omega)) ?_
 refine AK.hc (τ':=[0]) [3] [0] (Mw (g.pts+1) g.es g.pt g.pts 6 false (by omega)) ?_
 have hG:Fx (Cz n)=Cs 6 B2 g:=by unfold Fx;rw [hg]
 have hE:Zi (Cz n)=(g.es++[(⟨g.pt,g.pts,6,false,B2⟩:Eg)]).map (Df g.pts):=by unfold Zi;rw [hG];rfl
 rw [hE,hG]
 show AK X _ _ _ _ fun e S=>e=.ret (.agg [vi (g.pts+1:Nat),.sl (De ((g.es++[(⟨g.pt,g.pts,6,false,B2⟩:Eg)]).map (Df g.pts))) .no])∧S=⟨[],[]⟩
 have hel:(g.es++[(⟨g.pt,g.pts,6,false,B2⟩:Eg)]).length≤1000000001:=by simp;omega
 generalize g.es++[(⟨g.pt,g.pts,6,false,B2⟩:Eg)]=es at *
 refine AK.sto ⟨gBx n (g.pts+1) (De (Nr g.pts es 0)) (Ps es 0),[Ps es 0]⟩ ?_ (by rw [Ag9,Ah6];rfl)
 refine AK.while_ (ι:=Nat) 4 1 (fun i=>i≤es.length) (fun i=>[(7,vi i),(4,.ptr 3 0 0),(6,vi g.pts),(2,.ptr 1 0 0)])
  (fun i=>⟨gBx n (g.pts+1) (De (Nr g.pts es i)) (Ps es i),[Ps es i]⟩) (fun i=>es.length-i) ?_ 0
  (Nat.zero_le _) ⟨rfl,rfl,rfl,rfl,trivial⟩
 intro i hi IH
 refine AK.ei (fun h=>?_) (fun h=>?_)
 ·have hlt:i<es.length:=by have:=of_decide_eq_true h;rw [Hr,Rb] at this;omega
  obtain ⟨e,he⟩:=Ab es hlt
  have hil:i<(De (Nr g.pts es i)).length:=by rw [Hr,Rb];exact hlt
  have hrow:=R7 (Abl (x:=g.pts) he)
  refine AK.op (Um (n:=i) hil rfl (N4 _) rfl rfl rfl rfl rfl rfl rfl rfl) ?_
  refine AK.op (Al0 (x:=vi e.t) hrow rfl (by show 1+1≤8;omega) rfl rfl rfl rfl rfl rfl) ?_
  refine AK.if_ (fun h2=>?_) (fun h2=>?_)
  ·have h2':e.t<0:=of_decide_eq_true h2
   refine AK.op (Um (n:=i) hil rfl (N4 _) rfl rfl rfl rfl rfl rfl rfl rfl) ?_
   refine AK.op (Ndo.stP (b:=3) (r:=0) (g:=1) (xs:=[vi g.pts]) (bx:=gBx n (g.pts+1) (De (Nr g.pts es (i+1))) (Ps es (i+1))) (tk':=[Ps es (i+1)]) rfl hrow (by show 1+1≤8;omega) (fun z hz=>by simp at hz;subst hz;exact .val _) rfl rfl rfl
    ?_ ?_ rfl rfl rfl rfl rfl rfl rfl rfl) ?_
   ·show gBx n (g.pts+1) ((De (Nr g.pts es i)).set i ((Ka e).take 1++[vi g.pts]++(Ka e).drop (1+[vi g.pts].length))) (Ps es i+1)=_
    rw [Aja e _ h2',Xo,Abm he,← Acg he h2']
   ·show [Ps es i+1]=_
    rw [← Acg he h2']
   exact IH (i+1) hlt (by omega) _ _ ⟨vsx (by omega),rfl,rfl,rfl,trivial⟩ rfl rfl rfl
  ·have h2':¬ e.t<0:=of_decide_eq_false h2
   rw [← Ag8 (x:=g.pts) he h2',← Alm he h2']
   exact IH (i+1) hlt (by omega) _ _ ⟨vsx (by omega),rfl,rfl,rfl,trivial⟩ rfl rfl rfl
 ·have:i=es.length:=by have:=of_decide_eq_false h;rw [Hr,Rb] at this;omega
  subst this
  rw [Ajz]
  refine AK.db 512 ?_
  refine Drv.w (Ndo.store rfl rfl rfl rfl rfl rfl rfl) ?_
  refine Drv.z ?_
  exact AK.rz Tryz.func100 rfl
def Pv (l:List Nat):List (List AV):=l.map fun (i:Nat)=>[vi i]
theorem Jq (l:List Nat):(Pv l).length=l.length:=by simp [Pv]
theorem Ade (l:List Nat):Hg 1 (Pv l)=true:=Io (f:=fun (i:Nat)=>[vi i]) (fun _=>rfl) l
theorem Vs (l:List Nat)(i:Nat):Pv l++[[vi i]]=Pv (l++[i]):=by simp [Pv]
instance {n m:Nat}{l:List Nat}:OKR n m (Pv l):=⟨fun r hr x hx=>by obtain ⟨e,_,rfl⟩:=List.mem_map.1 hr;simp at hx;subst hx;exact .val _⟩
def Sn (l:Lp):List AV:=Ae l.a++Ae l.l++[vi l.h,vi l.x]
def G6 (l:List Lp):List (List AV):=l.map Sn
theorem Sq (l:List Lp):(G6 l).length=l.length:=by simp [G6]
theorem Abi (l:List Lp):∀ r,r∈G6 l→r.length=10:=fun r h=>by obtain ⟨e,_,rfl⟩:=List.mem_map.1 h;rfl
theorem Adl (l:List Lp)(e:Lp):G6 l++[Sn e]=G6 (l++[e]):=by simp [G6]
theorem X3 (e:Lp):∀ x,x∈Sn e→Flat x:=fun x hx=>by
 simp only [Sn,List.mem_append,List.mem_cons,List.not_mem_nil,or_false] at hx
 rcases hx with (hx | hx) | rfl | rfl
 ·exact Og _ x hx
 ·exact Og _ x hx
 ·exact .val _
 ·exact .val _
theorem Adk (e:Lp):∀ r,r∈[Sn e]→∀ x,x∈r→NoT x:=fun r hr x hx=>by simp at hr;subst hr;exact (X3 e x hx).noT
instance {n m:Nat}{l:List Lp}:OKR n m (G6 l):=⟨fun r hr x hx=>by obtain ⟨e,_,rfl⟩:=List.mem_map.1 hr;exact (X3 e x hx).ok⟩
abbrev mx (p:Nat)(es:List Eg)(at_:Nat)(sts:List Nat)(lps:List Lp)(v:Nat):List (List AV):=[[vi p,.psl (De es) 0 es.length,vi at_,.sl (Pv sts) (.tok 1),.psl (G6 lps) 2 v]]
abbrev mS (p:Nat)(es:List Eg)(at_:Nat)(sts:List Nat)(lps:List Lp)(v:Nat):St:=⟨[mx p es at_ sts lps v],[es.length,sts.length,v]⟩
def iE (g:Gr):List Eg:=g.es.map (Df 0)
abbrev gM (g:Gr):St:=mS g.pts (iE g) g.pt g.sts g.lps g.ver
theorem N8 (g:Gr):(iE g).length=g.es.length:=by simp [iE]
theorem Amu (k:Int)(n:Nd)(g:Gr):iE (Cs k n g)=iE g++[⟨g.pt,g.pts,k,false,n⟩]:=by simp [iE,Cs,Df];intro h;omega
theorem Aqf (p:Nat)(c:Nd)(y:Bool)(g:Gr):iE (Do p c y g)=iE g++[⟨p,g.pts,4,y,c⟩]:=by simp [iE,Do,Df];intro h;omega
theorem Amv (g:Gr):iE (Nm g)=iE g++[⟨g.pt,0,7,false,B2⟩]:=by simp [iE,Nm,Df]
theorem Ams (h:Nat)(g:Gr):iE (Jj h g)=iE g++[⟨g.pt,h,6,false,B2⟩]:=by simp [iE,Jj,H6,Df];intro h;omega
theorem Amt (p:Nat)(g:Gr):iE (Lm p g)=iE g++[⟨p,g.pts,6,false,B2⟩]++[⟨g.pt,g.pts,6,false,B2⟩]:=by simp [iE,Lm,H6,Df];intro h;omega
section
variable (p:Nat)(es:List Eg)(a:Nat)(sts:List Nat)(lps:List Lp)(v:Nat)
theorem Us (h:p≤1000000000000):Hands X 237 [.ptr 0 0 0] (mS p es a sts lps v) (vi p) (mS (p+1) es a sts lps v):=by
 refine Hands.run Tryz.func237 ?_
 have e1:IntKind.i64.wrap ((p:Int)+1)=((p+1:Nat):Int):=(Ac (by omega) (by omega)).trans (by omega)
 have e2:IntKind.i64.wrap (IntKind.i64.wrap ((p:Int)+1)-1)=(p:Int):=by rw [e1];exact (Ac (by omega) (by omega)).trans (by omega)
 refine AK.as_ 2 (vi p) ?_ (Bn e2)
 refine AK.sto (mS (p+1) es a sts lps v) ?_ (by rw [mS,mx,← e1])
 exact AK.rb Tryz.func237 rfl rfl
theorem Ajr (e:Eg)(hp:PlO e.n)(hpl:Ap e.n=e.n)(hw:wN e.n≤1000000000)(hl:es.length≤1000000000) :
 Hands X 238 [.ptr 0 0 0,vi e.f,vi e.t,vi e.k,vb e.y,nd e.n] (mS p es a sts lps v) (.tup []) (mS p (es++[e]) a sts lps v):=by
 have hq:=Ya e.n hp hw
 rw [hpl] at hq
 refine Hands.run Tryz.func238 ?_
 refine AK.db 278528 ?_
 refine Bl hq ?_
 refine Drv.w (Nv (ver:=es.length) rfl (N4 es) (Vk e) ?_ (Vl es e) rfl rfl rfl rfl rfl rfl rfl rfl rfl rfl rfl rfl rfl rfl rfl rfl rfl) ?_
 ·rw [Hr];simp;omega
 refine Drv.e ?_
 refine Drv.e ?_
 refine Drv.e ?_
 refine Drv.w (Ndo.store rfl rfl rfl rfl rfl rfl rfl) ?_
 refine Drv.z ?_
 refine AK.sto ⟨[mx p (es++[e]) a sts lps v,[Ae e.n]],[(es++[e]).length,sts.length,v]⟩ ?_ (by simp)
 exact AK.fb Tryz.func238 rfl rfl
theorem Ae9 (f t k:Int)(y:Bool)(n:Nd)(hp:PlO n)(hpl:Ap n=n)(hw:wN n≤1000000000)(hl:es.length≤1000000000) :
 Hands X 238 [.ptr 0 0 0,vi f,vi t,vi k,vb y,nd n] (mS p es a sts lps v) (.tup []) (mS p (es++[⟨f,t,k,y,n⟩]) a sts lps v):=Ajr p es a sts lps v ⟨f,t,k,y,n⟩ hp hpl hw hl
theorem Ur (f t k:Int)(y:Bool)(hl:es.length≤1000000000) :
 Hands X 238 [.ptr 0 0 0,vi f,vi t,vi k,vb y,.agg [vi 0,str [],vi 0,.sl [] .no]] (mS p es a sts lps v) (.tup []) (mS p (es++[⟨f,t,k,y,B2⟩]) a sts lps v) :=
 Ajr p es a sts lps v ⟨f,t,k,y,B2⟩ .leaf (by show Ap B2=B2;rw [B2,Az,Av]) (by show wN B2≤1000000000;decide) hl
end
theorem Vt (g:Gr)(k:Int)(n:Nd)(hp:PlO n)(hpl:Ap n=n)(hw:wN n≤1000000000)(h1:g.pts≤1000000000000)(hl:g.es.length≤1000000000) :
 Hands X 175 [.ptr 0 0 0,vi k,nd n] (gM g) (.tup []) (gM (Cs k n g)):=by
 refine Hands.run Tryz.func175 ?_
 refine AK.hc (τ':=[0,1,2]) [0] [0,1,2] (Us g.pts (iE g) g.pt g.sts g.lps g.ver h1) ?_
 refine AK.db 256 ?_
 refine Drv.w (Ndo.hd (τ':=[0,1,2]) [0] [0,1,2] (Ae9 (g.pts+1) (iE g) g.pt g.sts g.lps g.ver g.pt g.pts k false n hp hpl hw (by rw [N8];exact hl))) ?_
 refine Drv.z ?_
 rw [← Amu]
 exact AK.fb Tryz.func175 rfl rfl
theorem Afa (g:Gr)(q:Nat)(c:Nd)(y:Bool)(hp:PlO c)(hpl:Ap c=c)(hw:wN c≤1000000000)(h1:g.pts≤1000000000000)(hl:g.es.length≤1000000000) :
 Hands X 271 [.ptr 0 0 0,vi q,nd c,vb y] (gM g) (.tup []) (gM (Do q c y g)):=by
 refine Hands.run Tryz.func271 ?_
 refine AK.hc (τ':=[0,1,2]) [0] [0,1,2] (Us g.pts (iE g) g.pt g.sts g.lps g.ver h1) ?_
 refine AK.db 256 ?_
 refine Drv.w (Ndo.hd (τ':=[0,1,2]) [0] [0,1,2] (Ae9 (g.pts+1) (iE g) g.pts g.sts g.lps g.ver q g.pts 4 y c hp hpl hw (by rw [N8];exact hl))) ?_
 refine Drv.z ?_
 rw [← Aqf]
 exact AK.fb Tryz.func271 rfl rfl
structure Gc (g:Gr)(k:Nat):Prop where
 b:Gb g k
 lps:g.lps.length+24*k≤1000000000
 sts:g.sts.length+24*k≤1000000000
theorem Gc.step1 {g g':Gr}{j k m:Nat}(h:Gc g m)(hl:g.le g' j)(hj:j≤6*m)(hm:j+6*k≤6*m):Gc g' k:=by
 obtain ⟨l,h1,h2⟩:=hl.lps
 obtain ⟨s,h3,h4⟩:=hl.sts
 have:=h.lps
 have:=h.sts
 refine ⟨h.b.step1 hl hj hm,?_,?_⟩
 ·rw [h1,List.length_append];omega
 ·rw [h3,List.length_append];omega
def JSt (n:Nd):Prop:=∀ (a:Nd)(g:Gr),Gc g (wN n)→Hands X 236 [.ptr 0 0 0,nd n,nd a] (gM g) (.tup []) (gM (gS n a g))
def JLs (l:List Nd):Prop:=∀ (g:Gr),Gc g (wL l)→Hands X 174 [.ptr 0 0 0,.sl (Ai l) .no] (gM g) (.tup []) (gM (gL l B2 g))
theorem Zv {l:List Nd}(hp:∀ x,x∈l→PS x)(hs:∀ x,x∈l→JSt x):JLs l:=by
 intro g hb
 have hlw:=Is l
 have hbe:=hb.b.es
 refine Hands.run Tryz.func174 ?_
 refine AK.wkB 1 0 3 (.sl [] .no) ?_
 refine AK.while_ (ι:=Nat) 2 3 (fun i=>i≤l.length) (fun i=>[(10,vi i),(9,vi l.length),(8,.sl (Ai l) .no),(0,.ptr 0 0 0),(4,.ptr 1 0 0)])
  (fun i=>⟨[mx (gL (l.take i) B2 g).pts (iE (gL (l.take i) B2 g)) (gL (l.take i) B2 g).pt (gL (l.take i) B2 g).sts (gL (l.take i) B2 g).lps (gL (l.take i) B2 g).ver,[Ae ((l.take i).getLastD B2)]],[(iE (gL (l.take i) B2 g)).length,(gL (l.take i) B2 g).sts.length,(gL (l.take i) B2 g).ver]⟩) (fun i=>l.length-i) ?_ 0
  (Nat.zero_le _) ⟨rfl,by rw [← Ad l];rfl,rfl,rfl,rfl,trivial⟩
 intro i hi IH
 have hgi:g.le (gL (l.take i) B2 g) (bG (wL (l.take i))):=J7 (fun x hx=>hp x (List.mem_of_mem_take hx)) B2 g hb.b.pt
 refine AK.ei (fun h=>?_) (fun h=>?_)
 ·have hlt:i<l.length:=by have:=of_decide_eq_true h;omega
  obtain ⟨x,hx⟩:=Ab l hlt
  have hwt:=Af9 hx
  have hbi:Gc (gL (l.take i) B2 g) (wN x):=hb.step1 hgi (by simp only [bG];omega) (by simp only [bG];omega)
  refine AK.ix i (by omega) (Al (l:=l) hx) ?_
  refine AK.hc (τ':=[0,1,2]) [0] [0,1,2] (hs x (List.mem_of_getElem? hx) ((l.take i).getLastD B2) _ hbi) ?_
  rw [← Aez hx]
  have hla:(l.take (i+1)).getLastD B2=x:=by rw [List.take_add_one,hx];simp
  refine IH (i+1) hlt (by omega) _ _ ⟨vsx (by omega),rfl,rfl,rfl,rfl,trivial⟩ ?_ rfl rfl
  simp only
  rw [hla];rfl
 ·have:i=l.length:=by have:=of_decide_eq_false h;omega
  subst this
  rw [List.take_length] at hgi ⊢
  exact AK.fb Tryz.func174 rfl rfl
theorem Zu (g:Gr)(h1:g.pts≤1000000000000)(hl:g.es.length≤1000000000) :
 Hands X 175 [.ptr 0 0 0,vi 6,.agg [vi 0,str [],vi 0,.sl [] .no]] (gM g) (.tup []) (gM (Cs 6 B2 g)) :=
 Vt g 6 B2 .leaf (by rw [B2,Az,Av]) (by decide) h1 hl
theorem Ahh (s:List UInt8){a:Nd}(ha:FE a):Ap (.mk 21 s 0 [a])=.mk 21 s 0 [a]:=by rw [Az,Ao,Av,Jb ha];rfl
theorem Ahg (s:List UInt8){a b:Nd}(ha:FE a)(hb:FE b):Ap (.mk 22 s 0 [a,b])=.mk 22 s 0 [a,b]:=by rw [Az,Ao,Ao,Av,Jb ha,Jb hb];rfl
theorem Adt (s:List UInt8):Ap (.mk 23 s 0 [])=.mk 23 s 0 []:=by rw [Az,Av]
theorem Ajy (l:Lp)(x:Int):(Sn l).take 9++[vi x]++(Sn l).drop (9+[vi x].length)=Sn { l with x:=x }:=by simp [Sn,Ae]
theorem Ag7 (l:List Lp)(i:Nat)(e:Lp):(G6 l).set i (Sn e)=G6 (l.set i e):=by simp [G6,List.map_set]
theorem Ag6 {l:List Lp}{i:Nat}{e:Lp}(h:l[i]?=some e):(G6 l)[i]?=some (Sn e):=by simp [G6,h]
theorem Aha {l:List Lp}{i:Nat}{e:Lp}(h:l[i]?=some e)(f:Lp→Lp):l.modify i f=l.set i (f e):=by
 apply List.ext_getElem?
 intro j
 rw [List.getElem?_modify,List.getElem?_set]
 by_cases hj:i=j
 ·subst hj;rw [h];simp [Aa h]
 ·simp [hj]
abbrev mS3 (p:Nat)(es:List Eg)(at_:Nat)(sts:List Nat)(lps:List Lp)(v:Nat)(n a:Nd):St:=⟨[mx p es at_ sts lps v,[Ae n],[Ae a]],[es.length,sts.length,v]⟩
abbrev gM3 (g:Gr)(n a:Nd):St:=mS3 g.pts (iE g) g.pt g.sts g.lps g.ver n a
set_option maxHeartbeats 4000000 in
theorem Aqp {n:Nd}(h:PS n):JSt n:=by
 induction h with
 | set s x h hx =>
   intro a g hb
   have b1:=hb.b.pts
   have b2:=hb.b.es
   have b3:=hb.lps
   have b4:=hb.sts
   refine Hands.run Tryz.func236 ?_
   rw [Zm]
   refine AK.yes ?_
   refine AK.hc (τ':=[0,1,2]) [0] [0,1,2] (Vt g 1 (.mk 21 s 0 [x]) (Yy (.set s x h hx)) (Ahh s hx) (by omega) (by omega) (by omega)) ?_
   exact AK.fb Tryz.func236 rfl rfl
 | put s x y h hx hy =>
   intro a g hb
   have b1:=hb.b.pts
   have b2:=hb.b.es
   have b3:=hb.lps
   have b4:=hb.sts
   refine Hands.run Tryz.func236 ?_
   rw [Zl]
   refine AK.no ?_
   refine AK.yes ?_
   refine AK.hc (τ':=[0,1,2]) [0] [0,1,2] (Vt g 2 (.mk 22 s 0 [x,y]) (Yy (.put s x y h hx hy)) (Ahg s hx hy) (by omega) (by omega) (by omega)) ?_
   exact AK.fb Tryz.func236 rfl rfl
 | read s h =>
   intro a g hb
   have b1:=hb.b.pts
   have b2:=hb.b.es
   have b3:=hb.lps
   have b4:=hb.sts
   refine Hands.run Tryz.func236 ?_
   rw [Uo]
   refine AK.no ?_
   refine AK.no ?_
   refine AK.yes ?_
   refine AK.hc (τ':=[0,1,2]) [0] [0,1,2] (Vt g 3 (.mk 23 s 0 []) (Yy (.read s h)) (Adt s) (by omega) (by omega) (by omega)) ?_
   exact AK.fb Tryz.func236 rfl rfl
 | check c hc =>
   intro a g hb
   have b1:=hb.b.pts
   have b2:=hb.b.es
   have b3:=hb.lps
   have b4:=hb.sts
   refine Hands.run Tryz.func236 ?_
   have hwc:wN c<wN (.mk 27 [] 0 [c]):=F3 (n:=.mk 27 [] 0 [c]) (by simp)
   rw [Q5]
   refine AK.no ?_
   refine AK.no ?_
   refine AK.no ?_
   refine AK.yes ?_
   refine AK.ix 0 (by omega) (Al (l:=[c]) rfl) ?_
   refine AK.hc (τ':=[0,1,2]) [0] [0,1,2] (Vt g 5 c (Nt hc) (Na hc) (by omega) (by omega) (by omega)) ?_
   exact AK.fb Tryz.func236 rfl rfl
 | skip =>
   intro a g hb
   have b1:=hb.b.pts
   have b2:=hb.b.es
   have b3:=hb.lps
   have b4:=hb.sts
   refine Hands.run Tryz.func236 ?_
   rw [Up]
   refine AK.no ?_
   refine AK.no ?_
   refine AK.no ?_
   refine AK.no ?_
   refine AK.yes ?_
   refine AK.hc (τ':=[0,1,2]) [0] [0,1,2] (Zu g (by omega) (by omega)) ?_
   exact AK.fb Tryz.func236 rfl rfl
 | stop =>
   intro a g hb
   have b1:=hb.b.pts
   have b2:=hb.b.es
   have b3:=hb.lps
   have b4:=hb.sts
   refine Hands.run Tryz.func236 ?_
   rw [Uq]
   refine AK.no ?_
   refine AK.no ?_
   refine AK.no ?_
   refine AK.no ?_
   refine AK.no ?_
   refine AK.yes ?_
   refine AK.db 36864 ?_
   refine Drv.w (Ndo.append (res:=Pv (g.sts++[g.es.length])) rfl rfl rfl rfl rfl rfl rfl rfl rfl rfl rfl rfl rfl rfl (Jq _) (Ade _) rfl rfl rfl ?_ ?_ rfl) ?_
   ·rw [Jq];show g.sts.length+1≤_;omega
   ·show Pv g.sts++[[vi (De (iE g)).length]]=_;rw [Hr,N8,Vs]
   refine Drv.e ?_
   refine Drv.e ?_
   refine Drv.w (Ndo.store rfl rfl rfl rfl rfl rfl rfl) ?_
   refine Drv.z ?_
   refine AK.sto ⟨[mx g.pts (iE g) g.pt (g.sts++[g.es.length]) g.lps g.ver,[Ae (.mk 29 [] 0 [])],[Ae a]],[(iE g).length,(g.sts++[g.es.length]).length,g.ver]⟩ ?_ (by simp [Pv])
   refine AK.hc (τ':=[0,1,2]) [0] [0,1,2] (Ur g.pts (iE g) g.pt (g.sts++[g.es.length]) g.lps g.ver g.pt 0 7 false (by rw [N8];omega)) ?_
   refine AK.hc (τ':=[0,1,2]) [0] [0,1,2] (Us g.pts _ g.pt (g.sts++[g.es.length]) g.lps g.ver (by omega)) ?_
   rw [← Amv]
   exact AK.fb Tryz.func236 rfl rfl
 | ifs c l l' hc hl hl' ihl ihl' =>
   intro a g hb
   have b1:=hb.b.pts
   have b2:=hb.b.es
   have b3:=hb.lps
   have b4:=hb.sts
   refine Hands.run Tryz.func236 ?_
   have hwc:wN c<wN (.mk 24 [] 0 [c,.mk 30 [] 0 l,.mk 30 [] 0 l']):=F3 (n:=.mk 24 [] 0 [c,.mk 30 [] 0 l,.mk 30 [] 0 l']) (by simp)
   have hws:wN (.mk 24 [] 0 [c,.mk 30 [] 0 l,.mk 30 [] 0 l'])=3+wN c+wL l+wL l':=by simp only [wN,wL,List.length_nil];omega
   rw [Ae0]
   unfold gIf
   refine AK.no ?_
   refine AK.no ?_
   refine AK.no ?_
   refine AK.no ?_
   refine AK.no ?_
   refine AK.no ?_
   refine AK.yes ?_
   refine AK.ix 0 (by omega) (Al (l:=[c,.mk 30 [] 0 l,.mk 30 [] 0 l']) rfl) ?_
   refine AK.hc (τ':=[0,1,2]) [0] [0,1,2] (Afa g g.pt c true (Nt hc) (Na hc) (by omega) (by omega) (by omega)) ?_
   refine AK.sto (gM3 (Do g.pt c true g) (.mk 24 [] 0 [c,.mk 30 [] 0 l,.mk 30 [] 0 l']) a) ?_
   have l1:=K8 g.pt c true hb.b.pt
   have c1:Gc (Do g.pt c true g) (wL l):=hb.step1 l1 (by omega) (by omega)
   have a2:=J7 hl B2 _ c1.b.pt
   refine AK.ix 1 (by omega) (Al (l:=[c,.mk 30 [] 0 l,.mk 30 [] 0 l']) rfl) ?_
   refine AK.hc (τ':=[0,1,2]) [0] [0,1,2] (Zv hl ihl (Do g.pt c true g) c1) ?_
   refine AK.sto (gM3 (gL l B2 (Do g.pt c true g)) (.mk 24 [] 0 [c,.mk 30 [] 0 l,.mk 30 [] 0 l']) a) ?_
   have l12:=l1.trans a2 (Nat.le_refl _)
   generalize gL l B2 (Do g.pt c true g)=g2 at *
   have c2:Gc g2 (wL l'+1):=hb.step1 l12 (by simp only [bG];omega) (by simp only [bG];omega)
   have b5:=c2.b.pts
   have b6:=c2.b.es
   refine AK.ix 0 (by omega) (Al (l:=[c,.mk 30 [] 0 l,.mk 30 [] 0 l']) rfl) ?_
   refine AK.hc (τ':=[0,1,2]) [0] [0,1,2] (Afa g2 g.pt c false (Nt hc) (Na hc) (by omega) (by omega) (by omega)) ?_
   refine AK.sto (gM3 (Do g.pt c false g2) (.mk 24 [] 0 [c,.mk 30 [] 0 l,.mk 30 [] 0 l']) a) ?_
   have hp2:g.pt<g2.pts:=Nat.lt_of_lt_of_le hb.b.pt l12.pts.1
   have l3:=K8 g.pt c false hp2
   have c3:Gc (Do g.pt c false g2) (wL l'):=c2.step1 l3 (by omega) (by omega)
   have a4:=J7 hl' B2 _ c3.b.pt
   refine AK.ix 2 (by omega) (Al (l:=[c,.mk 30 [] 0 l,.mk 30 [] 0 l']) rfl) ?_
   refine AK.hc (τ':=[0,1,2]) [0] [0,1,2] (Zv hl' ihl' (Do g.pt c false g2) c3) ?_
   refine AK.sto (gM3 (gL l' B2 (Do g.pt c false g2)) (.mk 24 [] 0 [c,.mk 30 [] 0 l,.mk 30 [] 0 l']) a) ?_
   have l34:=l3.trans a4 (Nat.le_refl _)
   generalize gL l' B2 (Do g.pt c false g2)=g4 at *
   have c4:Gc g4 0:=c2.step1 l34 (by simp only [bG];omega) (by simp only [bG];omega)
   have b7:=c4.b.pts
   have b8:=c4.b.es
   refine AK.hc (τ':=[0,1,2]) [0] [0,1,2] (Us g4.pts (iE g4) g4.pt g4.sts g4.lps g4.ver (by omega)) ?_
   refine AK.sto (mS3 (g4.pts+1) (iE g4) g4.pt g4.sts g4.lps g4.ver (.mk 24 [] 0 [c,.mk 30 [] 0 l,.mk 30 [] 0 l']) a) ?_
   refine AK.hc (τ':=[0,1,2]) [0] [0,1,2] (Ur (g4.pts+1) (iE g4) g4.pt g4.sts g4.lps g4.ver g2.pt g4.pts 6 false (by rw [N8];omega)) ?_
   refine AK.sto (mS3 (g4.pts+1) (iE g4++[⟨g2.pt,g4.pts,6,false,B2⟩]) g4.pt g4.sts g4.lps g4.ver (.mk 24 [] 0 [c,.mk 30 [] 0 l,.mk 30 [] 0 l']) a) ?_
   refine AK.hc (τ':=[0,1,2]) [0] [0,1,2] (Ur (g4.pts+1) (iE g4++[⟨g2.pt,g4.pts,6,false,B2⟩]) g4.pt g4.sts g4.lps g4.ver g4.pt g4.pts 6 false ?_) ?_
   ·obtain ⟨e1,e2,e3,_⟩:=l34.es
    have:=c2.b.es
    simp only [bG] at e3
    rw [List.length_append,N8,e2,List.length_append]
    simp only [List.length_singleton];omega
   rw [← Amt]
   exact AK.fb Tryz.func236 rfl rfl
 | whil c l hc hl ihl =>
   intro a g hb
   have b1:=hb.b.pts
   have b2:=hb.b.es
   have b3:=hb.lps
   have b4:=hb.sts
   refine Hands.run Tryz.func236 ?_
   have hwc:wN c<wN (.mk 25 [] 0 [c,.mk 30 [] 0 l]):=F3 (n:=.mk 25 [] 0 [c,.mk 30 [] 0 l]) (by simp)
   have hws:wN (.mk 25 [] 0 [c,.mk 30 [] 0 l])=2+wN c+wL l:=by simp only [wN,wL,List.length_nil];omega
   have hwn:=Py c
   rw [Ae1]
   unfold gWh
   refine AK.no ?_
   refine AK.no ?_
   refine AK.no ?_
   refine AK.no ?_
   refine AK.no ?_
   refine AK.no ?_
   refine AK.no ?_
   refine AK.yes ?_
   refine AK.hc (τ':=[0,1,2]) [0] [0,1,2] (Zu g (by omega) (by omega)) ?_
   refine AK.sto (gM3 (Cs 6 B2 g) (.mk 25 [] 0 [c,.mk 30 [] 0 l]) a) ?_
   refine AK.dr ?_
   refine AK.db 9216 ?_
   refine Drv.w (Nv (ver:=g.ver) rfl (Abi g.lps) (Adk ⟨a,(.mk 25 [] 0 [c,.mk 30 [] 0 l]),g.pts,0⟩) ?_ (Adl g.lps ⟨a,(.mk 25 [] 0 [c,.mk 30 [] 0 l]),g.pts,0⟩) rfl rfl rfl rfl rfl rfl rfl rfl rfl rfl rfl rfl rfl rfl rfl rfl rfl) ?_
   ·rw [Sq];simp;omega
   refine Drv.e ?_
   refine Drv.e ?_
   refine Drv.w (Ndo.store rfl rfl rfl rfl rfl rfl rfl) ?_
   refine Drv.z ?_
   have l1:=Jr 6 B2 hb.b.pt
   have l2:=Zy a (.mk 25 [] 0 [c,.mk 30 [] 0 l]) l1.pt
   have l12:=l1.trans l2 (Nat.le_refl _)
   have c0:Gc (Fq a (.mk 25 [] 0 [c,.mk 30 [] 0 l]) (Cs 6 B2 g)) (wL l+1):=hb.step1 l12 (by omega) (by omega)
   refine AK.sto (gM3 (Fq a (.mk 25 [] 0 [c,.mk 30 [] 0 l]) (Cs 6 B2 g)) (.mk 25 [] 0 [c,.mk 30 [] 0 l]) a) ?_
   refine AK.as_ 9 (vi g.pts) ?_
   refine AK.as_ 10 (vi g.lps.length) ?_ (by show lk _ 10=_;rw [← Sq];rfl)
   refine AK.ix 0 (by omega) (Al (l:=[c,.mk 30 [] 0 l]) rfl) ?_
   have hh:g.pts<(Fq a (.mk 25 [] 0 [c,.mk 30 [] 0 l]) (Cs 6 B2 g)).pts:=by simp [Fq,Cs]
   have hlk:(Fq a (.mk 25 [] 0 [c,.mk 30 [] 0 l]) (Cs 6 B2 g)).lps[g.lps.length]?=some ⟨a,(.mk 25 [] 0 [c,.mk 30 [] 0 l]),g.pts,0⟩:=by simp [Fq,Cs]
   generalize Fq a (.mk 25 [] 0 [c,.mk 30 [] 0 l]) (Cs 6 B2 g)=g1 at *
   have b5:=c0.b.pts
   have b6:=c0.b.es
   refine AK.hc (τ':=[0,1,2]) [0] [0,1,2] (Afa g1 g.pts c true (Nt hc) (Na hc) (by omega) (by omega) (by omega)) ?_
   refine AK.sto (gM3 (Do g.pts c true g1) (.mk 25 [] 0 [c,.mk 30 [] 0 l]) a) ?_
   have l3:=K8 g.pts c true hh
   have c1:Gc (Do g.pts c true g1) (wL l):=c0.step1 l3 (by omega) (by omega)
   have a2:=J7 hl B2 _ c1.b.pt
   refine AK.ix 1 (by omega) (Al (l:=[c,.mk 30 [] 0 l]) rfl) ?_
   refine AK.hc (τ':=[0,1,2]) [0] [0,1,2] (Zv hl ihl (Do g.pts c true g1) c1) ?_
   refine AK.sto (gM3 (gL l B2 (Do g.pts c true g1)) (.mk 25 [] 0 [c,.mk 30 [] 0 l]) a) ?_
   have l34:=l3.trans a2 (Nat.le_refl _)
   have hh2:=Nat.lt_of_lt_of_le hh l34.pts.1
   obtain ⟨lx,hlx,_⟩:=l34.lps
   have hlk2:(gL l B2 (Do g.pts c true g1)).lps[g.lps.length]?=some ⟨a,(.mk 25 [] 0 [c,.mk 30 [] 0 l]),g.pts,0⟩:=by rw [hlx,List.getElem?_append_left (Aa hlk)];exact hlk
   generalize gL l B2 (Do g.pts c true g1)=g2 at *
   have c2:Gc g2 0:=c0.step1 l34 (by simp only [bG];omega) (by simp only [bG];omega)
   have b7:=c2.b.pts
   have b8:=c2.b.es
   have b9:g2.es.length+1≤1000000000:=by
    obtain ⟨e1,e2,e3,_⟩:=l34.es
    have:=c0.b.es
    simp only [bG] at e3
    rw [e2,List.length_append];omega
   refine AK.hc (τ':=[0,1,2]) [0] [0,1,2] (Ur g2.pts (iE g2) g2.pt g2.sts g2.lps g2.ver g2.pt g.pts 6 false (by rw [N8];omega)) ?_
   rw [← Ams]
   refine AK.sto (gM3 (Jj g.pts g2) (.mk 25 [] 0 [c,.mk 30 [] 0 l]) a) ?_
   refine AK.ix 0 (by omega) (Al (l:=[c,.mk 30 [] 0 l]) rfl) ?_
   refine AK.hc (τ':=[0,1,2]) [0] [0,1,2] (Afa (Jj g.pts g2) g.pts c false (Nt hc) (Na hc) (by omega) (by show g2.pts≤_;omega) (by simp only [Jj,H6];rw [List.length_append];simp;omega)) ?_
   refine AK.sto (gM3 (Do g.pts c false (Jj g.pts g2)) (.mk 25 [] 0 [c,.mk 30 [] 0 l]) a) ?_
   have hlk3:(Do g.pts c false (Jj g.pts g2)).lps[g.lps.length]?=some ⟨a,(.mk 25 [] 0 [c,.mk 30 [] 0 l]),g.pts,0⟩:=hlk2
   generalize Do g.pts c false (Jj g.pts g2)=g3 at *
   have hll:g.lps.length<(G6 g3.lps).length:=by rw [Sq];exact Aa hlk3
   have hlr:=Ag6 hlk3
   have hmod:=Aha hlk3 fun l=>{ l with x:=g3.pt }
   refine AK.db 2048 ?_
   refine Drv.lo (Um (n:=g.lps.length) hll rfl (Abi _) rfl rfl rfl rfl rfl rfl rfl rfl) ?_
   refine Drv.e ?_
   refine Drv.w (Ndo.stP (b:=0) (r:=0) (g:=4) (xs:=[vi g3.pt]) (bx:=[mx g3.pts (iE g3) g3.pt g3.sts (g3.lps.modify g.lps.length fun l=>{ l with x:=g3.pt }) (g3.ver+1),[Ae (.mk 25 [] 0 [c,.mk 30 [] 0 l])],[Ae a]]) (tk':=[(iE g3).length,g3.sts.length,g3.ver+1])
    rfl hlr (by show 9+1≤10;omega) (fun z hz=>by simp at hz;subst hz;exact .val _) rfl rfl rfl ?_ rfl rfl rfl rfl rfl rfl rfl rfl rfl) ?_
   ·show [[[vi g3.pts,.psl (De (iE g3)) 0 (iE g3).length,vi g3.pt,.sl (Pv g3.sts) (.tok 1),.psl ((G6 g3.lps).set g.lps.length ((Sn ⟨a,(.mk 25 [] 0 [c,.mk 30 [] 0 l]),g.pts,0⟩).take 9++[vi g3.pt]++(Sn ⟨a,(.mk 25 [] 0 [c,.mk 30 [] 0 l]),g.pts,0⟩).drop (9+[vi g3.pt].length))) 2 (g3.ver+1)]],[Ae (.mk 25 [] 0 [c,.mk 30 [] 0 l])],[Ae a]]=_
    rw [Ajy,Ag7,hmod]
   refine Drv.z ?_
   exact AK.fb Tryz.func236 rfl rfl
def Yh (k:Nat):List Eg→List Nat
 | []=>[]
 | e::l=>if e.t<0 then k::Yh (k+1) l else Yh (k+1) l
theorem Aai:∀ (l l':List Eg)(k:Nat),Yh k (l++l')=Yh k l++Yh (k+l.length) l'
 | [],l',k=>by simp [Yh]
 | e::l,l',k=>by
   simp only [List.cons_append,Yh,List.length_cons]
   rw [Aai l l' (k+1),show k+1+l.length=k+(l.length+1) by omega]
   split<;>simp
theorem Ak7 {l:List Eg}(h:∀ e,e∈l→0≤e.t)(k:Nat):Yh k l=[]:=by
 induction l generalizing k with
 | nil=>rfl
 | cons e l ih =>
   have:=h e (by simp)
   simp only [Yh];rw [if_neg (by omega)]
   exact ih (fun x hx=>h x (by simp [hx])) (k+1)
theorem Ad7:∀ (l:List Eg)(k i:Nat),i∈Yh k l→i<k+l.length
 | [],k,i,h=>by simp [Yh] at h
 | e::l,k,i,h=>by
   simp only [Yh] at h
   simp only [List.length_cons]
   split at h
   ·rcases List.mem_cons.1 h with rfl | h
    ·omega
    ·have:=Ad7 l (k+1) i h;omega
   ·have:=Ad7 l (k+1) i h;omega
theorem Afy:∀ (l:List Eg)(k:Nat),(Yh k l).length≤l.length
 | [],k=>by simp [Yh]
 | e::l,k=>by
   simp only [Yh,List.length_cons]
   have:=Afy l (k+1)
   split<;>simp<;>omega
def SI (g:Gr):Prop:=g.sts=Yh 0 g.es
theorem Yz {g g':Gr}(h:SI g)(l:List Eg)(he:g'.es=g.es++l)(hl:∀ e,e∈l→0≤e.t)(hs:g'.sts=g.sts):SI g':=by
 unfold SI at h ⊢
 rw [he,hs,h,Aai,Ak7 hl];simp
theorem Mf {g:Gr}(k:Int)(n:Nd)(h:SI g):SI (Cs k n g):=Yz h _ rfl (fun e he=>by simp at he;subst he;simp) rfl
theorem Y0 {g:Gr}(p:Nat)(c:Nd)(y:Bool)(h:SI g):SI (Do p c y g):=Yz h _ rfl (fun e he=>by simp at he;subst he;simp) rfl
theorem Al3 {g:Gr}(p:Nat)(h:SI g):SI (Jj p g):=Yz h _ rfl (fun e he=>by simp at he;subst he;simp) rfl
theorem Al5 {g:Gr}(p:Nat)(h:SI g):SI (Lm p g):=Yz h [⟨p,g.pts,6,false,B2⟩,⟨g.pt,g.pts,6,false,B2⟩] (by simp [Lm,H6]) (fun e he=>by simp at he;rcases he with rfl | rfl<;>simp) rfl
theorem Al7 {g:Gr}(h:SI g):SI (Nm g):=by
 unfold SI at h ⊢
 simp only [Nm]
 rw [h,Aai]
 simp [Yh]
theorem Al6 {g:Gr}(a n:Nd)(h:SI g):SI (Fq a n g):=h
theorem Al4 {g:Gr}(i:Nat)(h:SI g):SI (T3 i g):=h
theorem Al2 {l:List Nd}(h:∀ x,x∈l→∀ (a:Nd)(g:Gr),SI g→SI (gS x a g)):∀ (a:Nd)(g:Gr),SI g→SI (gL l a g):=by
 induction l with
 | nil=>intro a g hg;exact hg
 | cons x l ih=>intro a g hg;rw [Zj];exact ih (fun y hy=>h y (by simp [hy])) x _ (h x (by simp) a g hg)
theorem Asa {n:Nd}(h:PS n):∀ (a:Nd)(g:Gr),SI g→SI (gS n a g):=by
 induction h with
 | set s b h hb=>intro a g hg;rw [Zm];exact Mf _ _ hg
 | put s b c h hb hc=>intro a g hg;rw [Zl];exact Mf _ _ hg
 | read s h=>intro a g hg;rw [Uo];exact Mf _ _ hg
 | ifs c l l' hc hl hl' ihl ihl'=>intro a g hg;rw [Ae0];unfold gIf;exact Al5 _ (Al2 ihl' _ _ (Y0 _ _ _ (Al2 ihl _ _ (Y0 _ _ _ hg))))
 | whil c l hc hl ihl=>intro a g hg;rw [Ae1];unfold gWh;exact Al4 _ (Y0 _ _ _ (Al3 _ (Al2 ihl _ _ (Y0 _ _ _ (Al6 _ _ (Mf 6 B2 hg))))))
 | check c hc=>intro a g hg;rw [Q5];exact Mf _ _ hg
 | skip=>intro a g hg;rw [Up];exact Mf _ _ hg
 | stop=>intro a g hg;rw [Uq];exact Al7 hg
def Jd (x:Int):List Eg→List Nat→List Eg
 | l,[]=>l
 | l,i::s=>Jd x (l.modify i fun e=>{ e with t:=x }) s
theorem Wr (x:Int):∀ (l:List Eg)(s:List Nat)(i:Nat),Jd x l (s++[i])=(Jd x l s).modify i fun e=>{ e with t:=x }
 | l,[],i=>rfl
 | l,j::s,i=>Wr x _ s i
theorem Tf (x:Int):∀ (l:List Eg)(s:List Nat),(Jd x l s).length=l.length
 | l,[]=>rfl
 | l,j::s=>by simp only [Jd];rw [Tf];simp
theorem Ye (x:Int):∀ (l pre:List Eg),Jd x (pre++l.map (Df 0)) (Yh pre.length l)=pre++l.map (Df x)
 | [],pre=>by simp [Yh,Jd]
 | e::l,pre=>by
   simp only [Yh,List.map_cons]
   have ih:=Ye x l (pre++[Df x e])
   have e1:(pre++[Df x e]).length=pre.length+1:=by simp
   rw [e1] at ih
   split
   ·rename_i ht
    simp only [Jd]
    rw [V5]
    have:(Df 0 e::l.map (Df 0)).modify 0 (fun e=>{ e with t:=x })=Df x e::l.map (Df 0):=by simp [Df,ht]
    rw [this]
    simpa using ih
   ·rename_i ht
    have:Df 0 e=Df x e:=by simp [Df,ht]
    rw [this]
    simpa using ih
theorem Agt (e:Eg)(x:Int):(Ka e).take 1++[vi x]++(Ka e).drop (1+[vi x].length)=Ka { e with t:=x }:=by simp [Ka]
theorem Adn {l:List Eg}{i:Nat}{e:Eg}(h:l[i]?=some e)(f:Eg→Eg):l.modify i f=l.set i (f e):=by
 apply List.ext_getElem?
 intro j
 rw [List.getElem?_modify,List.getElem?_set]
 by_cases hj:i=j
 ·subst hj;rw [h];simp [Aa h]
 ·simp [hj]
abbrev Asu (l:List Nd):List AV:=[vi (Fx l).pts,.sl (De (Zi l)) .no,vi (Fx l).pt,.sl (Pv (Fx l).sts) .no,.sl (G6 (Fx l).lps) .no]
theorem Aqo (P:Nd)(hne:P.kids≠[])(hps:∀ x,x∈(Ce P).kids→PS x)(hw:wL (Ce P).kids≤10000000)(hk:P.kids.length≤1000000000) :
 Pure X 116 [nd P] (.cptr (Asu (Ce P).kids)):=by
 show Pure X 116 [nd P] (.cptr [vi (Fx (Ce P).kids).pts,.sl (De ((Fx (Ce P).kids).es.map (Df (Fx (Ce P).kids).pt))) .no,vi (Fx (Ce P).kids).pt,.sl (Pv (Fx (Ce P).kids).sts) .no,.sl (G6 (Fx (Ce P).kids).lps) .no])
 refine Pure.run Tryz.func116 ?_
 refine AK.mintP (bx:=[[Ae P],[[vi 1,.psl [] 0 0,vi 0,.sl [] .tight,.sl [] .tight]]]) (tk:=[0]) 1 0 1 ?_
 refine AK.mintB (bx:=[[Ae P],[[vi 1,.psl [] 0 0,vi 0,.sl [] (.tok 1),.sl [] .tight]]]) (tk:=[0,0]) 1 0 3 rfl rfl rfl rfl rfl rfl ?_
 refine AK.mintP (bx:=[[Ae P],mx 1 (iE ⟨1,0,[],[],[],0⟩) 0 [] [] 0]) (tk:=[0,0,0]) 1 0 4 ?_
 refine AK.as_ 3 (.ptr 1 0 0) ?_
 refine AK.as_ 9 (.ptr 1 0 0) ?_
 have c0:Gc ⟨1,0,[],[],[],0⟩ (wL (Ce P).kids):=⟨⟨by decide,by show 1+_≤_;omega,by show 0+_≤_;omega⟩,by show 0+_≤_;omega,by show 0+_≤_;omega⟩
 have l0:=J7 hps B2 _ c0.b.pt
 have s0:SI (gL (Ce P).kids B2 ⟨1,0,[],[],[],0⟩):=Al2 (fun x hx=>Asa (hps x hx)) _ _ rfl
 refine AK.pc (Akp P hne hk) ?_
 refine AK.hc (τ':=[0,1,2]) [1] [0,1,2] (Zv hps (fun x hx=>Aqp (hps x hx)) _ c0) ?_
 have c1:Gc (gL (Ce P).kids B2 ⟨1,0,[],[],[],0⟩) 0:=c0.step1 l0 (by simp only [bG];omega) (by simp only [bG];omega)
 have hA:Fx (Ce P).kids=Cs 6 B2 (gL (Ce P).kids B2 ⟨1,0,[],[],[],0⟩):=rfl
 rw [hA]
 generalize gL (Ce P).kids B2 ⟨1,0,[],[],[],0⟩=g at *
 have b1:=c1.b.pts
 have b2:=c1.b.es
 refine AK.sto ⟨[[Ae P],mx g.pts (iE g) g.pt g.sts g.lps g.ver],[(iE g).length,g.sts.length,g.ver]⟩ ?_
 refine AK.hc (τ':=[0,1,2]) [1] [0,1,2] (Zu g (by omega) (by omega)) ?_
 have s1:SI (Cs 6 B2 g):=Mf 6 B2 s0
 have b3:(Cs 6 B2 g).es.length≤1000000001:=by simp [Cs];omega
 generalize Cs 6 B2 g=h at *
 have hst:Jd h.pt (iE h) h.sts=h.es.map (Df h.pt):=by
  rw [s1];exact Ye h.pt h.es []
 have hsl:h.sts.length≤h.es.length:=by rw [s1];exact Afy _ _
 have hslt:∀ i,i∈h.sts→i<(iE h).length:=fun i hi=>by
  rw [s1] at hi
  have:=Ad7 _ _ _ hi
  rw [N8];omega
 refine AK.sto ⟨[[Ae P],[[vi h.pts,.psl (De (Jd h.pt (iE h) (h.sts.take 0))) 0 ((iE h).length+0),vi h.pt,.sl (Pv h.sts) (.tok 1),.psl (G6 h.lps) 2 h.ver]]],[(iE h).length+0,h.sts.length,h.ver]⟩ ?_
 refine AK.while_ (ι:=Nat) 2 3 (fun i=>i≤h.sts.length) (fun i=>[(22,vi i),(21,vi h.sts.length),(20,.sl (Pv h.sts) (.tok 1)),(3,.ptr 1 0 0)])
  (fun i=>⟨[[Ae P],[[vi h.pts,.psl (De (Jd h.pt (iE h) (h.sts.take i))) 0 ((iE h).length+i),vi h.pt,.sl (Pv h.sts) (.tok 1),.psl (G6 h.lps) 2 h.ver]]],[(iE h).length+i,h.sts.length,h.ver]⟩) (fun i=>h.sts.length-i) ?_ 0
  (Nat.zero_le _) ⟨rfl,by rw [← Jq h.sts];rfl,rfl,rfl,trivial⟩
 intro i hi IH
 refine AK.ei (fun h2=>?_) (fun h2=>?_)
 ·have hlt:i<h.sts.length:=by have:=of_decide_eq_true h2;omega
  obtain ⟨k,hk⟩:=Ab h.sts hlt
  have hkl:=hslt k (List.mem_of_getElem? hk)
  have hgk:(Pv h.sts)[i]?=some [vi k]:=by simp [Pv,hk]
  have hkr:k<(De (Jd h.pt (iE h) (h.sts.take i))).length:=by rw [Hr,Tf];exact hkl
  obtain ⟨e,he⟩:=Ab (Jd h.pt (iE h) (h.sts.take i)) (i:=k) (by rw [Tf];exact hkl)
  have hrow:=R7 he
  have hsn:Jd h.pt (iE h) (h.sts.take (i+1))=(Jd h.pt (iE h) (h.sts.take i)).modify k fun e=>{ e with t:=h.pt }:=by
   rw [List.take_add_one,hk];exact Wr _ _ _ _
  refine AK.ix i (by omega) hgk ?_
  refine AK.db 4096 ?_
  refine Drv.lo (Um (n:=k) hkr rfl (N4 _) rfl rfl rfl rfl rfl rfl rfl rfl) ?_
  refine Drv.e ?_
  refine Drv.w (Ndo.stP (b:=1) (r:=0) (g:=1) (xs:=[vi h.pt]) (bx:=[[Ae P],[[vi h.pts,.psl (De (Jd h.pt (iE h) (h.sts.take (i+1)))) 0 ((iE h).length+(i+1)),vi h.pt,.sl (Pv h.sts) (.tok 1),.psl (G6 h.lps) 2 h.ver]]]) (tk':=[(iE h).length+(i+1),h.sts.length,h.ver])
   rfl hrow (by show 1+1≤8;omega) (fun z hz=>by simp at hz;subst hz;exact .val _) rfl rfl rfl ?_ rfl rfl rfl rfl rfl rfl rfl rfl rfl) ?_
  ·show [[Ae P],[[vi h.pts,.psl ((De (Jd h.pt (iE h) (h.sts.take i))).set k ((Ka e).take 1++[vi h.pt]++(Ka e).drop (1+[vi h.pt].length))) 0 ((iE h).length+i+1),vi h.pt,.sl (Pv h.sts) (.tok 1),.psl (G6 h.lps) 2 h.ver]]]=_
   rw [Agt,Xo,hsn,Adn he];rfl
  refine Drv.z ?_
  exact IH (i+1) hlt (by omega) _ _ ⟨vsx (by omega),rfl,rfl,rfl,trivial⟩ rfl rfl rfl
 ·have:i=h.sts.length:=by have:=of_decide_eq_false h2;omega
  subst this
  rw [List.take_length,hst]
  exact AK.rz Tryz.func116 rfl
theorem Ag0 (P:Nd)(hne:P.kids≠[])(hps:∀ x,x∈(Ce P).kids→PS x)(hw:wL (Ce P).kids≤10000000)(hk:P.kids.length≤1000000000) :
 Pure X 105 [nd P] (.agg [vi (Fx (Ce P).kids).pts,.sl (De (Zi (Ce P).kids)) .no]):=by
 refine Pure.run Tryz.func105 ?_
 refine AK.pc (Aqo P hne hps hw hk) ?_
 exact AK.rz Tryz.func105 rfl
end Go.V
namespace Go.V
open Go
section
variable {X:Cx}{E:Env}{S:St}{w:World}{F:Bs}{N:Nat}{ops:Array Oper}{i:Nat}{o:Oper}{p q:Operand}
theorem Ndo.mkS {t e n b:Nat}{ik ik':IntKind}{y ye:Ty}{bx:List (List (List AV))}(hn:n≤1000000000)(hb:S.boxes.length=b)(hbx:S.boxes++[List.replicate n ye.zero]=bx)(ho:ops[i]?=some o)(hw:As ops F o=some true)(hop:o.op=.makeSlice t p q)
 (hp:Cg X F p=some (.val (.int ik n)))(hq:Cg X F q=some (.val (.int ik' n)))(hy:X.ty t=some y)(hk:y.k=.slc e)(hye:X.ty e=some ye):Ndo X N ops i o F (.bsl b n) S ⟨bx,S.toks⟩:=by
 subst hbx;subst hb
 intro F' E w a hl hI hF
 have hlo:=D7 hl
 rw [hop] at hlo
 have r1:=Ah hI hF ((B3 (X:=X) (F:=F) (F':=F') (o:=p) fun s hs=>hlo s (by simp [Op.operands,hs])).trans hp)
 have r2:=Ah hI hF ((B3 (X:=X) (F:=F) (F':=F') (o:=q) fun s hs=>hlo s (by simp [Op.operands,hs])).trans hq)
 cases hh1:a.eval p<;>rw [hh1] at r1<;>cases r1
 cases hh2:a.eval q<;>rw [hh2] at r2<;>cases r2
 obtain ⟨d,hd,hdd⟩:=(X.ty_ok t y hy).agg
 simp only [hk] at hdd
 obtain ⟨rfl,ye',hye',hne⟩:=hdd
 rw [hye] at hye';cases hye'
 obtain ⟨z,hz,hzc,hzl,i',hi,hiz,his,hib⟩:=Jf hye w
 have hzs:z.cells.size=ye.size:=by rw [← hzl,← hzc];simp
 have hbn:i'.bytes*n≤1024*n:=Nat.mul_le_mul_right _ hib
 have hrun:=run_make (P:=X.P) w t e i' z hd hi hiz ik ik' (n:Int) (n:Int) (by omega) (Int.le_refl _) (by
  have:((i'.bytes*n:Nat):Int)≤281474976710656:=by omega
  rwa [Int.natCast_mul] at this) (by omega)
 simp only [Int.toNat_natCast] at hrun
 have hg0:Md E w ye.size (madeCells z.cells (n*i'.size)) (List.replicate n ye.zero):=by
  refine Pd hzc hzl _ (by rw [size_madeCells,his]) (fun j hj=>?_)
  have hm:j % ye.size<z.cells.size:=by rw [hzs];exact Nat.mod_lt _ (Nat.pos_of_ne_zero hne)
  unfold madeCells
  rw [his]
  have hr0:(Array.range (n*ye.size))[j]?=some j:=by simp [hj]
  rw [Array.getElem?_map,hr0]
  simp only [Option.map_some]
  rw [hzs,getElem!_pos z.cells (j % ye.size) hm,Array.getElem?_eq_getElem hm]
 obtain ⟨ev,hI'⟩:=hI.newBox (w':=w.alloc (.cells (madeCells z.cells (n*i'.size)) e)) (cs:=madeCells z.cells (n*i'.size)) (e:=e) (sz:=ye.size) (rows:=List.replicate n ye.zero) rfl rfl rfl rfl hg0.1 hg0.2.1 hg0.2.2
 refine Does.val ho (Bj hF (by rw [Bw hl];exact hw)) (v:=.slice (some ⟨w.heap.size,0,none⟩) n n) (by simp [execOp,hop,hh1,hh2,hrun]) (.inl rfl) ⟨_,hI',ev,?_⟩
 exact .bsl S.boxes.length w.heap.size ye.size n n (by rw [← hI.nb];exact getElem?_snoc_new _ _) (Nat.le_refl _)
end
end Go.V
