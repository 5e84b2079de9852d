/- A part of the proof of the claim that the last text states: no condition of its own. -/
import Derived.Test.YtojhghmilenfkaaGreatDoorP6
import Derived.Laws.MakeOwn
set_option linter.unusedVariables false
set_option linter.unusedSimpArgs false
namespace Go.V
open Go
section
variable {X:Cx}{B:Bx}{E E1:Env}{S S1:St}{w w':World}{F:C3}{a:Act}{N:Nat}{R:AE→St→Prop}{ops:Array Oper}{i:Nat}{o:Oper}
theorem Bg{k:List Item}{xs:List AV}(hf:X.P.funcs[B.f]?=some B.fn)(hR:R (.ret (C5 xs)) S)(h:Md X F S B.fn.results.toList=some xs:=by rfl):AK X B (.code .ret::k) F S R:=by
 intro E w a b cs hI hF hn hm hb;obtain⟨v,h1,h2⟩:=M4 hI hF h;have nt:E.toks.length=S.toks.length:=by rw[←hI.nt];simp
 refine .inl ⟨.returned v,w,{ b.at a (.code .ret::k)with mode:=.returning },⟨E,S,hI,Evol.refl _ _ _ _,_,h2,hR⟩,.one step_ret,hb,⟨rfl,hF.nod,rfl,B.fn,by rw[←hf];exact congrArg (X.P.funcs[·]?) hb,h1⟩⟩
def Fresh(X:Cx)(f:FuncId)(args:List AV)(n:Nat)(P:List (List AV)→Prop):Prop:=
 Nq X.P f∧ACalls X f args ⟨[],[]⟩ fun e S'=>∃rows,e=.ret (.bsl 0 n)∧S'=⟨[rows],[]⟩∧P rows
theorem Asa(hI:Inv X E S w){rows:List (List AV)}(hflat:He 0 0 rows)(hI1:Inv X E1 ⟨[rows],[]⟩ w')(ev:Evol (E.sub [] []) w E1 w' 0 0) :
 ∃blk sz,E1.boxes[0]?=some (some (blk,sz))∧Evol E w (E.addBox blk sz) w' E.boxes.length E.toks.length∧Inv X (E.addBox blk sz) ⟨S.boxes++[rows],S.toks⟩ w':=by
 have hτl:∀t,t∈([]:List Nat)→t<E.toks.length:=fun t h=>by cases h
 have nb1:E1.boxes.length=1:=hI1.nb;obtain⟨⟨blk,sz⟩,hB⟩:=hI1.np 0 (by omega);have nt1:E1.toks=[]:=by have:=hI1.nt;simpa using this
 have own1:∀b,E1.own b→b=blk:=fun b h=>by
  rcases h with⟨j,s,h⟩|⟨t,l,c,s,h⟩
  ·have:=Aa h;have:j=0:=by omega
   subst this;rw[hB]at h;cases h;rfl
  ·rw[nt1]at h;simp at h
 have ownb:E1.own blk:=.inl ⟨0,sz,hB⟩;have nown:∀b,¬(E.sub [] []).own b:=fun b h=>by
  rcases(Pr hτl).1 h with⟨j,s,hj,_⟩|⟨t,l,c,s,ht,_⟩
  ·cases hj
  ·cases ht
 have hge:w.heap.size≤blk:=by
  rcases Gu blk w.heap.size with h|h
  ·exact absurd (ev.own blk h ownb) (nown blk)
  ·exact h
 have hlt1:blk<w'.heap.size:=hI1.own_lt ownb;have frE:∀{b o:Nat},E.mt b o→E1.fr b o:=fun{b o} h=>by
  rw[ev.fr];refine⟨h,fun ho=>?_⟩;rcases ho with⟨j,s,hj,_⟩|⟨t,l,c,s,ht,_⟩
  ·cases hj
  ·cases ht
 have hfar:∀{b:Nat},b<w.heap.size→w'.heap[b]?=w.heap[b]?:=fun{b} h=>ev.block b h (nown b);have hmtx:∀{b o:Nat},(E.addBox blk sz).mt b o→E.mt b o∨b=blk:=fun{b o} h=>by
  rcases h with h|⟨j,s,h⟩|h
  ·exact .inl (.inl h)
  ·rcases getElem?_snoc h with h|⟨_,h⟩
   ·exact .inl (.inr (.inl ⟨j,s,h⟩))
   ·cases h;exact .inr rfl
  ·exact .inl (.inr (.inr h))
 have hownx:∀{b:Nat},(E.addBox blk sz).own b→E.own b∨b=blk:=fun{b} h=>by
  rcases h with⟨j,s,h⟩|h
  ·rcases getElem?_snoc h with h|⟨_,h⟩
   ·exact .inl (.inl ⟨j,s,h⟩)
   ·cases h;exact .inr rfl
  ·exact .inl (.inr h)
 have hne:∀{b:Nat},E.own b→b≠blk:=fun{b} h e=>by have:=hI.own_lt h;omega
 have ev2:Evol E w (E.addBox blk sz) w' E.boxes.length E.toks.length:=by
  refine⟨rfl,fun j hj hl=>⟨by simp[Env.addBox];omega,fun x hx=>getElem?_snoc_left hx⟩,fun t ht k hk=>⟨k,hk,.inl rfl⟩,ev.os,ev.tape,ev.output,ev.size,fun b hb _=>hfar hb,
   fun b o v hm hc=>ev.cell b o v (fun h=>hm (Sz hτl h)) hc,fun b o hb h=>?_,fun b hb h=>?_,rfl,ev.ty,fun _ _ _ b _ _ _ _ o ho=>by rw[hfar (N6 ho)];exact ho⟩
  ·rcases hmtx h with h|h
   ·exact h
   ·omega
  ·rcases hownx h with h|h
   ·exact h
   ·omega
 refine⟨blk,sz,hB,ev2,?_⟩;obtain⟨cs1,e1,hh1,hs1,hl1,hr1⟩:=hI1.box 0 blk sz rows hB rfl;have hmt1:∀b o,(E.addBox blk sz).mt b o→E1.mt b o:=fun b o h=>by
  rcases hmtx h with h|rfl
  ·exact .inl (frE h)
  ·exact .inr (.inl ⟨0,sz,hB⟩)
 exact{
  nb:=by simp[Env.addBox,hI.nb]
  nt:=hI.nt
  np:=fun j hj=>by
   simp only[Env.addBox,Es,Zb]at hj⊢;rcases Gu j E.boxes.length with h|h
   ·rw[Cr h];exact hI.np j h
   ·have:j=E.boxes.length:=by omega
    subst this;exact⟨_,getElem?_snoc_new _ _⟩
  box:=fun j b s rows' h1 h2=>by
   rcases getElem?_snoc h1 with h1|⟨hj,h1⟩
   ·have h2':S.boxes[j]?=some rows':=by
     rcases getElem?_snoc h2 with h2|⟨hj,_⟩
     ·exact h2
     ·have:=Aa h1;rw[hI.nb]at this;omega
    obtain⟨cs',e',hh',hs',hl',hr'⟩:=hI.box j b s rows' h1 h2';exact⟨cs',e',(hfar (hI.own_lt (.inl ⟨j,s,h1⟩))).trans hh',hs',hl',fun k r q x v h3 h4 h5=>(hr' k r q x v h3 h4 h5).step ev2⟩
   ·cases h1;have h2':rows'=rows:=by
     rcases getElem?_snoc h2 with h2|⟨_,h2⟩
     ·have:=Aa h2;rw[←hI.nb]at this;omega
     ·exact h2
    subst h2';exact⟨cs1,e1,hh1,hs1,hl1,fun k r q x v h3 h4 h5=>(hr1 k r q x v h3 h4 h5).env (hflat r (Bh h3) x (Bh h4)) hmt1⟩
  tok:=fun t l b c s h=>by
   obtain⟨h1,h0,cs,e,hh,hs⟩:=hI.tok t l b c s h;exact⟨h1,h0,cs,e,(hfar (hI.own_lt (.inr ⟨t,l,c,s,h⟩))).trans hh,hs⟩
  bb:=fun i j b s s' h1 h2=>by
   rcases getElem?_snoc h1 with h1|⟨hi,h1⟩<;>rcases getElem?_snoc h2 with h2|⟨hj,h2⟩
   ·exact hI.bb i j b s s' h1 h2
   ·cases h2;exact absurd rfl (hne (.inl ⟨i,s,h1⟩))
   ·cases h1;exact absurd rfl (hne (.inl ⟨j,s',h2⟩))
   ·omega
  bt:=fun i t b s l c sz' h1 h2=>by
   rcases getElem?_snoc h1 with h1|⟨hi,h1⟩
   ·exact hI.bt i t b s l c sz' h1 h2
   ·cases h1;exact absurd rfl (hne (.inr ⟨t,l,c,sz',h2⟩))
  tt:=hI.tt
  frlt:=fun b o h=>⟨fun h'=>by
   rcases hownx h' with h'|h'
   ·exact(hI.frlt b o h).1 h'
   ·have:=(hI.frlt b o h).2;omega,Mx (hI.frlt b o h).2 ev.size⟩
  lo:=fun b h=>by
   rcases hownx h with h|h
   ·exact hI.lo b h
   ·rw[h];exact hI1.lo blk ownb
  frlo:=hI.frlo
  sz:=hI1.sz
  glob:=hI1.glob }
theorem A2u{l:List Nat}{k:List Item}{c:Call}{fo:Operand}{f:FuncId}{caps xs zs ys:List AV}{n:Nat}{P:List (List AV)→Prop}(hc:Fresh X f ys n P)(hflat:∀rows,P rows→He 0 0 rows)
 (hk:∀rows,P rows→AK X B (.inRegion ops l::k) (putF o.dst (.bsl S.boxes.length n) F) ⟨S.boxes++[rows],S.toks⟩ R)(ho:ops[i]?=some o:=by rfl)(hw:A6 ops F o=some true:=by rfl)(hop:o.op=.call c:=by rfl)
 (hcal:c.callee=.value fo:=by rfl)(hfo:Dt X F fo=some (.fn f caps):=by rfl)(hx:Hk X F c.args.toList=some xs:=by rfl)(hzs:Kb xs caps=some zs:=by rfl)(hd:D1 B.fn.ntmps o.dst=true:=by rfl) [ha:RinL [] [] zs ys] :
 AK X B (.inRegion ops (i::l)::k) F S R:=by
 intro E w a b cs hI hF hn hm hb;have nt:E.toks.length=S.toks.length:=by rw[←hI.nt];simp
 have hτl:∀t,t∈([]:List Nat)→t<E.toks.length:=fun t h=>by cases h
 have hz:=Ru hzs;obtain⟨vs,h1,h2,h3⟩:=Qg hop hcal hc.1 hI hF hfo hx;have hsub:Inv X (E.sub [] []) ⟨[],[]⟩ w:=hI.sub (σ:=[]) (τ:=[]) List.nodup_nil List.nodup_nil hτl (Sc:=⟨[],[]⟩) .nil (fun j h=>by cases h) rfl;have hcalls:=hc.2 (E.sub [] []) w vs rfl hsub (by rw[h2,hz,ha.s.get.1]) (fun j v y hv hy=>by
  obtain⟨x,hxj⟩:=Ab zs (i:=j) (by have:=Aa hy;rw[ha.s.get.1]at this;exact this);exact(ha.s.get.2 j x y hxj hy).fwd (fun b o=>Sz hτl) (fun i j q h1 h2=>I2.2 ⟨i,h1,h2⟩) (fun i j k h1 h2=>(J3 hτl).2 ⟨i,h1,h2⟩) (h3 j v x hv (by rw[hz];exact hxj)))
 have hdo:Does X ops i a w fun v w'=>∃rows,P rows∧∃E',Inv X E' ⟨S.boxes++[rows],S.toks⟩ w'∧Evol E w E' w' E.boxes.length E.toks.length∧Rel E' w' v (.bsl S.boxes.length n):=by
  refine Does.call ho (Cm hF hw) h1 (hcalls.mono fun e w' he=>?_);obtain⟨E1,S1,d1,d2,d3⟩:=he;cases e with
  |returned v=>
   obtain⟨r',hr',rows,hre,rfl,hP⟩:=d3;cases hre;obtain⟨blk,sz,hB,ev2,hI2⟩:=Asa hI (hflat rows hP) d1 d2;refine⟨v,rfl,rows,hP,_,hI2,ev2,?_⟩;cases hr' with
   |bsl _ blk' sz' _ cap hB' hcap=>
    rw[hB]at hB';cases hB';exact .bsl _ blk sz n cap (by rw[←hI.nb];exact getElem?_snoc_new _ _) hcap
  |panicked ch=>obtain⟨rows,h,_⟩:=d3;cases h
  |outgrown=>exact d3.elim
 obtain⟨v',w2,⟨rows,hP,E',g1,g2,g3⟩,g4⟩:=hdo b k cs l;have hF':=(hF.step g2).putF hd g3;have g4':=g4;rw[ho]at g4';exact Fin.from g4' (g2.weaken (by rw[hI.nb];exact hn) (by omega)) (hk rows hP E' w2 _ b cs g1 hF' (by simp;omega) hm hb)
theorem Fresh.mk{f:FuncId}{fn:Func}{c:Code}{args:List AV}{n:Nat}{P:List (List AV)→Prop}(hf:X.P.funcs[f]?=some fn)(hb:fn.body=some c)(hl:Nat.ble args.length fn.ntmps=true)(hnm:(fn.name == "runtime.NumGoroutine")=false)
 (h:AK X ⟨f,fn,0,0⟩ [.code c] (Oq 0 args) ⟨[],[]⟩ fun e S'=>∃rows,e=.ret (.bsl 0 n)∧S'=⟨[rows],[]⟩∧P rows):Fresh X f args n P:=
 ⟨⟨fn,hf,hnm,by rw[hb];rfl⟩,Jn (n:=0) (m:=0) (hh:=fun C S' hx=>by obtain⟨rows,hx,_⟩:=hx;cases hx) hf hb hl rfl rfl h⟩
theorem Aci{c:Call}{p q:Operand}{tt tx e e':Nat}{y yx ye:Ty}{rows:List (List AV)}{sp sp':Sp}(ho:ops[i]?=some o:=by rfl)(hw:A6 ops F o=some true:=by rfl)(hop:o.op=.call c:=by rfl)(hcal:c.callee=.builtin .append:=by rfl)
 (hargs:c.args.toList=[p,q]:=by rfl)(htys:c.argTypes.toList=[tt,tx]:=by rfl)(hp:Dt X F p=some (.sl rows sp):=by rfl)(hq:Dt X F q=some (.sl [] sp'):=by rfl)(hy:X.ty tt=some y:=by rfl)(hyk:y.k=.slc e:=by rfl)(hye:X.ty e=some ye:=by rfl)
 (hyx:X.ty tx=some yx:=by rfl)(hyxk:yx.k=.slc e':=by rfl):Ndo X N ops i o F (.sl rows sp) S S:=by
 refine Df ho hw fun F' E w a hc hI hF=>?_;rw[hop]at hc;obtain⟨callee,args,argTypes⟩:=c;simp only at hcal hargs htys;subst hcal;have ha:args=#[p,q]:=by rw[←zzq34];exact hargs
 have ht:argTypes=#[tt,tx]:=by rw[←zzq34];exact htys
 subst ha;subst ht;have r1:=Ak hI hF ((hc p (by simp[Op.operands,Call.operands])).trans hp);have r2:=Ak hI hF ((hc q (by simp[Op.operands,Call.operands])).trans hq);obtain⟨d1,hd1,hk1⟩:=(X.ty_ok tt y hy).agg;simp only[hyk]at hk1;obtain⟨rfl,ye',hye',hne0⟩:=hk1;rw[hye]at hye';cases hye';obtain⟨d2,hd2,hk2⟩:=(X.ty_ok tx yx hyx).agg;simp only[hyxk]at hk2;obtain⟨rfl,_⟩:=hk2;generalize hu:a.eval p=u at r1;generalize hv:a.eval q=v at r2;have r1':=r1;cases r2 with
 |sl _ _ a2 n2 cap2 b2 o2 sz2 vals2 hn2 hx2 ha2 hszr2 hm2 hcl2 hr2 hs2 hcap2=>
  have h0:n2=0:=by simpa using hn2.symm
  subst h0;cases r1 with
  |sl _ _ a1 n1 cap1 b1 o1 sz1 vals1 hn1 hx1 ha1 hszr1 hm1 hcl1 hr1 hs1 hcap1=>
   refine⟨.slice a1 n1 cap1,?_,r1'⟩;have hf:(Builtin.firstCells ye.size 0 (.slice a2 0 cap2)).run X.P w=.ok ([]:List Value).toArray w:=by
    cases a2 with
    |none=>exact run_firstCells_none _ _ _ _ _
    |some a0=>exact run_firstCells_some _ _ _ _ _ _ _ (by simp) (fun j v hj=>by simp at hj)
   cases a1 with
   |none=>simp[execOp,hop,resolve,invoke,builtin,hu,hv,Builtin.append_,run_underlying hd1,run_underlying hd2,De hye,Builtin.lenOf,hcap1,hf]
   |some a0=>simp[execOp,hop,resolve,invoke,builtin,hu,hv,Builtin.append_,run_underlying hd1,run_underlying hd2,De hye,Builtin.lenOf,hcap1,hf,storeCells]
end
end Go.V
namespace Go.V
open Go Go.Proofs Go.Proofs.Tryz
instance{n m c:Nat}:OKR n m (List.replicate c zN):=⟨fun r hr x hx=>by
 rw[Abi hr]at hx;exact(inferInstance:OKL n m zN).ok x hx⟩
abbrev rB(l:List Nd)(c:Nat):List (List AV):=Ap l++List.replicate c zN
theorem Aao{l:List Nd}{i c:Nat}{x:Nd}(h:l[i]?=some x):(rB l c)[i]?=some (Af x):=by
 rw[Cr (by rw[Ad];exact Aa h)];exact Am h
theorem A1t(l:List Nd)(c i:Nat)(x:Nd)(h:i<l.length):(rB l c).set i (Af x)=rB (l.set i x) c:=by
 rw[rB,rB,List.set_append_left _ _ (by rw[Ad];exact h),As,As,Zf]
theorem Amd(l:List Nd)(c:Nat):(rB l c).length=l.length+c:=by simp[Ad]
theorem Aaj(a b:List Nd):Ap (a++b)=Ap a++Ap b:=by rw[As,As,As,J8]
theorem Azr(l:List Nd)(c:Nat):∀r,r∈rB l c→r.length=4:=fun r hr=>by
 rcases zzq47.1 hr with h|h
 ·exact Io.1 (Er l) r h
 ·rw[Abi h];rfl
section
variable {X:Cx}{B:Bx}{S:St}{F F':C3}{R:AE→St→Prop}{N:Nat}{ops:Array Oper}{i:Nat}{l:List Nat}{k K:List Item}{o:Oper}{p q:Operand}
theorem Arh{t b r:Nat}{y:Ty}{cs:List AV}{rows:List (List AV)}{x:AV}{S2:St}(hr:rows[r]?=some cs)(hk:AK X B K F' S2 R)(ho:ops[i]?=some o:=by rfl)(hw:A6 ops F o=some true:=by rfl)(hop:o.op=.load t p:=by rfl)
 (hp:Dt X F p=some (.ptr b r 0):=by rfl)(hy:X.ty t=some y:=by rfl)(hb:S.boxes[b]?=some rows:=by rfl)(hl:cs.length=y.size:=by rfl)(hx:V6 (Gd y.k) cs=some x:=by rfl)(hd:D1 B.fn.ntmps o.dst=true:=by rfl)
 (he:Go.V.ev X B.fn.ntmps 200 (.inRegion ops l::k) (putF o.dst x F) S=(K,F',S2):=by rfl):AK X B (.inRegion ops (i::l)::k) F S R:=
 Bm (Qc hb hr hl ho hw hop hp hy hx) hk ho hd he
theorem Zl{t e b n:Nat}{ik:IntKind}{y ye:Ty}{rows:List (List AV)}{r:List AV}(j:Nat)(hj:j<n)(hr:rows[j]?=some r)(hk:AK X B (.inRegion ops l::k) (putF o.dst (.ptr b j 0) F) S R)(ho:ops[i]?=some o:=by rfl)(hw:A6 ops F o=some true:=by rfl)
 (hop:o.op=.indexAddr t p q:=by rfl)(hp:Dt X F p=some (.bsl b n):=by rfl)(hq:Dt X F q=some (.val (.int ik j)):=by rfl)(hy:X.ty t=some y:=by rfl)(hyk:y.k=.slc e:=by rfl)(hye:X.ty e=some ye:=by rfl)(hb:S.boxes[b]?=some rows:=by rfl)(hl:r.length=ye.size:=by rfl)
 (hd:D1 B.fn.ntmps o.dst=true:=by rfl):AK X B (.inRegion ops (i::l)::k) F S R:=
 G9 (F8 (j:=j) ho hw hop hp hq hy hyk hye (by simpa[Fs]using hj) hb hr hl) ho hd hk
theorem Agj{t b r:Nat}{y:Ty}{x:AV}{xs cs:List AV}{rows:List (List AV)}{bx:List (List (List AV))}{S2:St}(hr:rows[r]?=some cs)(hk:AK X B K F' S2 R)(ho:ops[i]?=some o:=by rfl)(hw:A6 ops F o=some true:=by rfl)(hop:o.op=.store t p q:=by rfl)
 (hp:Dt X F p=some (.ptr b r 0):=by rfl)(hq:Dt X F q=some x:=by rfl)(hy:X.ty t=some y:=by rfl)(hb:S.boxes[b]?=some rows:=by rfl)(hc:cellsOf x=some xs:=by rfl)(hl:xs.length=y.size:=by rfl)(hl':cs.length=y.size:=by rfl)
 (hbx:S.boxes.set b (rows.set r xs)=bx:=by rfl)(hd:D1 B.fn.ntmps o.dst=true:=by rfl)(he:Go.V.ev X B.fn.ntmps 200 (.inRegion ops l::k) (putF o.dst .junk F) ⟨bx,S.toks⟩=(K,F',S2):=by rfl):AK X B (.inRegion ops (i::l)::k) F S R:=by
 subst hbx;exact Bm (A8 ho hw hop hy hp hq (Xu hb hr hc hl hl')) hk ho hd he
end
theorem Ax0(l:List Nd)(hne:l≠[])(hl:l.length≤1000000000):Fresh X 223 [.sl (Ap l) .no] l.length fun rows=>∃c,rows=rB l c:=by
 have hu:X.P.underlying 28=some (.slice 30):=by kernel_rfl
 refine Fresh.mk func223 rfl rfl (by kernel_rfl) ?_;refine Bj 100 rfl ?_;refine Am1 hu (fun c hc=>?_);have hc':=hc (by rw[As];simpa using hne);subst hc';refine Bj 100 rfl ?_;refine Ah ?_;have hn:Ap l≠[]:=by rw[As];simpa using hne
 refine Zm (fun cc=>?_) (Io.1 (Er l)) (K6.1 (Ajk l)) hn (by rw[Ad];omega);refine Bj 100 rfl ?_;refine Bg func223 ?_;exact⟨rB l cc,by rw[Ad];rfl,rfl,cc,rfl⟩
theorem At8:Pure X 223 [.sl [] .no] (.sl [] .no):=by
 have hu:X.P.underlying 28=some (.slice 30):=by kernel_rfl
 refine Pure.mk func223 rfl rfl (by kernel_rfl) ?_;refine Bj 100 rfl ?_;refine Am1 hu (fun c hc=>?_);refine Dh (fun h=>?_) (fun h=>?_)
 ·refine Ie 2 (.sl [] .tight) ?_;exact Au func223 rfl
 ·refine Bm Aci ?_;exact Au func223 rfl
theorem Asz(l:List Nd)(c:Nat)(f:FuncId)(caps:List AV)(p:Nd→Bool)(hl:l.length≤1000000000) [hok:OKL 0 0 caps](hp:∀x,x∈l→Pure X f (nd x::caps) (vb (p x)))(hcat:∀xs,Kb xs caps=some (xs++caps)) :
 Hands X 225 [.bsl 0 l.length,.fn f caps] ⟨[rB l c],[]⟩ (vi (Kh p 0 l)) ⟨[rB l c],[]⟩:=by
 have:OKL 1 0 caps:=⟨fun x hx=>(hok.ok x hx).mono (by omega) (by omega)⟩
 refine Hands.run (n:=1) (m:=0) func225 ?_;refine Av (ι:=Nat) 1 0 (fun i=>i≤l.length∧Kh p 0 l=Kh p i (l.drop i)) (fun i=>[(8,vi i),(7,vi l.length),(0,.bsl 0 l.length),(1,.fn f caps)]) (fun _=>⟨[rB l c],[]⟩) (fun i=>l.length-i) ?_ 0 ⟨Cc _,rfl⟩
  ⟨rfl,rfl,rfl,rfl,trivial⟩
 intro i hi IH;refine Dh (fun h=>?_) (fun h=>?_)
 ·have hlt:i<l.length:=by have:=A7 h;omega
  obtain⟨x,hx⟩:=Ab l hlt;have hd:Kh p i (l.drop i)=if p x then(i:Int)else Kh p (i+1) (l.drop (i+1)):=by rw[B5 hx];rfl
  refine Zl i hlt (Aao (c:=c) hx) ?_;refine Arh (Aao (c:=c) hx) ?_;refine Al (hp x (Bh hx)) ?_ (hzs:=hcat _);refine Ag (fun h2=>?_) (fun h2=>?_)
  ·refine Br func225 ?_ rfl;have h3:p x=true:=h2;rw[hi.2,hd,h3];rfl
  ·have h3:p x=false:=h2;exact IH (i+1) ⟨hlt,by rw[hi.2,hd,h3];rfl⟩ (by omega) _ _ ⟨vsx (by omega),rfl,rfl,rfl,trivial⟩ rfl rfl rfl
 ·have:i=l.length:=by have:=Bd h;omega
  refine Br func225 ?_ rfl;rw[hi.2,this,Hw];rfl
theorem Afa{p:Nd→Bool}:∀{l:List Nd}{i:Nat},Kh p i l=-1→l.filter (fun x=>!p x)=l
 |[],i,_=>rfl
 |x::l,i,h=>by
  simp only[Kh]at h;split at h
  ·omega
  ·rename_i hx;have:=Afa h;have hx':p x=false:=by simpa using hx
   rw[Abn,hx',Bool.not_false,if_pos rfl,this]
theorem Z8{p:Nd→Bool}:∀{l:List Nd}{i:Nat},Kh p i l≠-1→∃j x,Kh p i l=((i+j:Nat):Int)∧l[j]?=some x∧p x=true∧(l.take j).filter (fun x=>!p x)=l.take j
 |[],i,h=>by simp[Kh]at h
 |x::l,i,h=>by
  simp only[Kh]at h⊢;by_cases hx:p x=true
  ·rw[if_pos hx];exact⟨0,x,by simp,rfl,hx,rfl⟩
  ·rw[if_neg hx]at h⊢;obtain⟨j,y,h1,h2,h3,h4⟩:=Z8 h;have hx':p x=false:=by simpa using hx
   refine⟨j+1,y,by rw[h1];omega,by simpa using h2,h3,?_⟩;rw[List.take_succ_cons,Abn,hx',Bool.not_false,if_pos rfl,h4]
theorem Asj{l cur:List Nd}{q:Nd→Bool}{i j:Nat}{x:Nd}(hij:i<j)(hj:l[j]?=some x)(hlen:cur.length=l.length)(h1:cur.take i=(l.take j).filter q)(h2:cur.drop j=l.drop j) :
 cur[j]?=some x∧(q x=false→cur.take i=(l.take (j+1)).filter q∧cur.drop (j+1)=l.drop (j+1)) ∧
  (q x=true→(cur.set i x).take (i+1)=(l.take (j+1)).filter q∧(cur.set i x).drop (j+1)=l.drop (j+1)):=by
 have hjl:=Aa hj;have hcj:cur[j]?=some x:=by
  have:=congrArg (fun t:List Nd=>t[0]?) h2;simp only[Ny,Pt]at this;rw[this];exact hj
 have hd:cur.drop (j+1)=l.drop (j+1):=by
  have:=congrArg List.tail h2;simpa[List.tail_drop]using this
 have ht:(l.take (j+1)).filter q=(l.take j).filter q++[x].filter q:=by rw[G7,hj,Abm];rfl
 refine⟨hcj,fun hq=>⟨?_,hd⟩,fun hq=>⟨?_,?_⟩⟩
 ·rw[ht,h1];simp[hq]
 ·rw[ht,←h1];have hi:i<cur.length:=by omega
  rw[G7,List.take_set_of_le (Bo _)];simp[hi,hq]
 ·rw[List.drop_set_of_lt (by omega)];exact hd
theorem Apz(l:List Nd)(c:Nat)(f:FuncId)(caps:List AV)(p:Nd→Bool)(hl:l.length≤1000000000) [hok:OKL 0 0 caps](hp:∀x,x∈l→Pure X f (nd x::caps) (vb (p x)))(hcat:∀xs,Kb xs caps=some (xs++caps)) :
 Hands X 222 [.bsl 0 l.length,.fn f caps] ⟨[rB l c],[]⟩ (.bsl 0 (l.filter fun x=>!p x).length)
  ⟨[rB (l.filter fun x=>!p x) (l.length-(l.filter fun x=>!p x).length+c)],[]⟩:=by
 have:OKL 1 0 caps:=⟨fun x hx=>(hok.ok x hx).mono (by omega) (by omega)⟩
 have hf:=Asz l c f caps p hl hp hcat
 refine Hands.run (n:=1) (m:=0) func222 ?_;refine Ae [0] [] hf ?_;refine Ag (fun h1=>?_) (fun h1=>?_)
 ·have h1':Kh p 0 l=-1:=by simpa using h1
  rw[Afa h1',Fv,Jt];exact Zn (n:=1) (tk:=[]) func222 rfl rfl rfl rfl
 have h1':Kh p 0 l≠-1:=by simpa using h1
 obtain⟨j0,x0,e0,e1,e2,e3⟩:=Z8 h1';rw[Jt]at e0;have hj0:=Aa e1;have hwj:IntKind.i64.wrap (Kh p 0 l+1)=((j0+1:Nat):Int):=by rw[e0];exact(Ac (by omega) (by omega)).trans (by omega)
 have hstart:l.take j0=(l.take (j0+1)).filter fun x=>!p x:=by
  rw[G7,e1,Abm,e3];simp[e2]
 refine Av (ι:=Nat×Nat×List Nd) 1 0 (fun s=>s.1<s.2.1∧s.2.1≤l.length∧s.2.2.length=l.length∧s.2.2.take s.1=(l.take s.2.1).filter (fun x=>!p x)∧s.2.2.drop s.2.1=l.drop s.2.1)
  (fun s=>[(6,vi s.2.1),(5,vi s.1),(0,.bsl 0 l.length),(1,.fn f caps)]) (fun s=>⟨[rB s.2.2 c],[]⟩) (fun s=>l.length-s.2.1) ?_ (j0,j0+1,l) ⟨Ad6 _,hj0,rfl,hstart,rfl⟩
  ⟨Ct hwj,Ct e0,rfl,rfl,trivial⟩
 rintro⟨i,j,cur⟩ ⟨g1,g2,g3,g4,g5⟩ IH;simp only at g1 g2 g3 g4 g5 IH⊢;refine Dh (fun h2=>?_) (fun h2=>?_)
 ·have hlt:j<l.length:=by have:=A7 h2;omega
  have hj1:IntKind.i64.wrap ((j:Int)+1)=((j+1:Nat):Int):=(Ac (by omega) (by omega)).trans (by omega);have hi1:IntKind.i64.wrap ((i:Int)+1)=((i+1:Nat):Int):=(Ac (by omega) (by omega)).trans (by omega);obtain⟨x,hx⟩:=Ab l hlt;obtain⟨s1,s2,s3⟩:=Asj (q:=fun x=>!p x) g1 hx g3 g4 g5;refine Zl j hlt (Aao (c:=c) s1) ?_;refine Arh (Aao (c:=c) s1) ?_;refine Al (hp x (Bh hx)) ?_ (hzs:=hcat _);refine Ag (fun h3=>?_) (fun h3=>?_)
  ·have hpx:p x=false:=by have:(!p x)=true:=h3;simpa using this
   obtain⟨t1,t2⟩:=s3 (by simp[hpx]);have hil:i<cur.length:=by omega
   obtain⟨y,hy⟩:=Ab cur hil;refine Zl i (show i<l.length by omega) (Aao (c:=c) hy) ?_;refine Agj (bx:=[rB (cur.set i x) c,[Af x]]) (Aao (c:=c) hy) ?_ (hbx:=by rw[←A1t _ _ _ _ hil];rfl);refine IH (i+1,j+1,cur.set i x) ⟨by simp only;omega,hlt,by simpa using g3,t1,t2⟩ (by simp only;omega) _ _ ⟨Ct hj1,Ct hi1,rfl,rfl,trivial⟩ rfl rfl rfl
  ·have hpx:p x=true:=by have:(!p x)=false:=h3;simpa using this
   obtain⟨t1,t2⟩:=s2 (by simp[hpx]);exact IH (i,j+1,cur) ⟨by simp only;omega,hlt,g3,t1,t2⟩ (by simp only;omega) _ _ ⟨Ct hj1,rfl,rfl,rfl,trivial⟩ rfl rfl rfl
 ·have hje:j=l.length:=by have:=Bd h2;omega
  subst hje;rw[I8]at g4;have hfl:(l.filter fun x=>!p x).length=i:=by
   have:=congrArg List.length g4;rw[Ti]at this;omega
  have hrows:rB cur c≠[]:=by
   intro h;have:cur.length+c=0:=by rw[←Amd,h];rfl
   omega
  have hz:(rB cur c).take i++(List.replicate (l.length-i) zN++(rB cur c).drop (i+(l.length-i)))=rB (cur.take i) (l.length-i+c):=by
   rw[show i+(l.length-i)=l.length by omega,rB,rB,List.take_append_of_le_length (by rw[Ad];omega),←g3,show cur.length=(Ap cur).length by rw[Ad],List.drop_left,As,As,←List.map_take,
    ←List.replicate_append_replicate,U7]
  refine Bm (Ape (l:=i) (rows:=rB cur c) g1 rfl rfl rfl rfl rfl rfl rfl rfl rfl (Azr _ _) hrows) ?_;refine Bm (Aky (s:=i) (n:=l.length-i) (rows:=rB cur c) (by omega) rfl (by rw[Amd];omega) (Azr _ _) (by exact congrArg (fun r=>[r]) hz) (by intro x hx;simp at hx;rcases hx with rfl|rfl|rfl|rfl<;>rfl) rfl rfl rfl rfl rfl rfl rfl rfl rfl rfl) ?_;refine Bm (Apa (h:=(i:Int)) (by omega) (by omega) rfl rfl rfl rfl rfl rfl rfl rfl) ?_;rw[hfl,←g4];exact Zn (n:=1) (tk:=[]) func222 rfl rfl rfl rfl
theorem Aoj(n:Nd)(hne:n.kids≠[])(hl:n.kids.length≤1000000000):Pure X 162 [nd n] (.sl (Ap n.kids.dropLast) .no):=by
 have hpos:0<n.kids.length:=zzq67.2 hne;have hw1:IntKind.i64.wrap (((Ap n.kids).length:Int)-1)=((n.kids.length-1:Nat):Int):=by rw[Ad];exact(Ac (by omega) (by omega)).trans (by omega)
 refine Pure.run func162 ?_;refine Ie 8 (vi (n.kids.length-1:Nat)) ?_ (Ct hw1);refine Bm (Abv (l:=0) (h:=((n.kids.length-1:Nat):Int)) (r:=Ap n.kids.dropLast) rfl rfl rfl rfl rfl rfl rfl rfl rfl (by omega) (by omega) (by rw[Ad];omega) (Er _) (by rw[Hc];exact Um _)) ?_;exact Au func162 rfl
theorem At6(n:Nd)(hne:n.kids≠[])(hl:n.kids.length≤1000000000):Pure X 168 [nd n] (nd (Dp n)):=by
 have hpos:0<n.kids.length:=zzq67.2 hne;have hw1:IntKind.i64.wrap (((Ap n.kids).length:Int)-1)=((n.kids.length-1:Nat):Int):=by rw[Ad];exact(Ac (by omega) (by omega)).trans (by omega)
 obtain⟨lst,hlst⟩:=Ab n.kids (i:=n.kids.length-1) (by omega);have hL:Dp n=lst:=by rw[Dp,Akk,List.getLast?_eq_getElem?,hlst];rfl
 rw[hL];refine Pure.run func168 ?_;refine Ie 8 (vi (n.kids.length-1:Nat)) ?_ (Ct hw1);refine B7 ((n.kids.length-1:Nat):Int) (by omega) (by rw[Hc];exact Am hlst) ?_;exact Au func168 rfl
theorem Am3{f:FuncId}{fn:Func}{F:C3}{bx:List (List (List AV))}{b c:Nat}{l:List Nd}{k:List Item}(hf:X.P.funcs[f]?=some fn)(hb:bx[b]?=some (rB l c))(hl:l.length≤1000000000)(h:Md X F ⟨bx,[]⟩ fn.results.toList=some [.bsl b l.length]:=by rfl) :
 AK X ⟨f,fn,0,0⟩ (.code .ret::k) F ⟨bx,[]⟩ fun e S'=>e=.ret (.sl (Ap l) .no)∧S'=⟨[],[]⟩:=by
 refine E5 (B:=⟨f,fn,0,0⟩) hf h 0 (Bo _) (r:=.sl (Ap l) .no) ?_ (fun rows hr=>by simp at hr) ⟨rfl,rfl⟩;have hget:∀(i:Nat) (r:List AV),(Ap l)[i]?=some r→(rB l c)[i]?=some r:=fun i r h=>by rw[Cr (Aa h)];exact h
 refine .bsl b l.length (rB l c) (Ap l) (Cc _) hb (by rw[Amd];omega) (by unfold O0;omega) (Ad l) (fun i r r' h1 h2=>?_) (fun i j r r' x y h1 h2 h3 h4=>?_)
 ·rw[hget i r' h2]at h1;cases h1;rfl
 ·rw[hget i r' h2]at h1;cases h1;rw[h3]at h4;cases h4;refine .same x ((inferInstance:OKR 0 0 (Ap l)).ok r (Bh h2) x (Bh h3))
theorem Ajy(x:Nd)(k:Int):Pure X 224 [nd x,.cptr [vi k]] (vb (!(x.kind==k))):=by
 refine Pure.run func224 ?_;exact Au func224 rfl
theorem Aqn(f:FuncId)(caps:List AV) [hok:OKL 0 0 caps](hcat:∀xs,Kb xs caps=some (xs++caps)):Pure X 222 [.sl [] .no,.fn f caps] (.sl [] .no):=by
 have hi:Pure X 225 [.sl [] .no,.fn f caps] (vi (-1)):=Adn [] f caps (fun _=>true) (by simp) (fun x hx=>by cases hx) hcat
 refine Pure.run func222 ?_;refine Al hi ?_;refine A1 ?_;exact Au func222 rfl
def M9(n:Nd)(k:Int):List Nd:=n.kids.dropLast.filter fun x=>x.kind==k
theorem Sw(n:Nd)(k:Int)(hne:n.kids≠[])(hl:n.kids.length≤1000000000):Pure X 163 [nd n,vi k] (.sl (Ap (M9 n k)) .no):=by
 have hd:=Aoj n hne hl;have hdl:n.kids.dropLast.length≤1000000000:=by rw[List.length_dropLast];omega
 refine Pure.mk func163 rfl rfl (by kernel_rfl) ?_;refine Ks 0 100 rfl ?_;refine Bj 2 rfl ?_;refine Bm (Ack (x:=vi k)) ?_;refine Al hd ?_;by_cases h0:n.kids.dropLast=[]
 ·have hK:M9 n k=[]:=by rw[M9,h0];rfl
  rw[hK,h0];refine Al At8 ?_;refine Al (Aqn 224 [.cptr [vi k]] (Ash _)) ?_;exact Au func163 rfl
 ·refine A2u (Ax0 n.kids.dropLast h0 hdl) (fun rows ⟨c,hr⟩=>by subst hr;exact(inferInstance:OKR 0 0 (rB n.kids.dropLast c)).ok) (fun rows ⟨c,hr⟩=>?_);subst hr;have hD:=Apz n.kids.dropLast c 224 [.cptr [vi k]] (fun x=>!(x.kind==k)) hdl (fun x _=>Ajy x k) (Ash _);have hfe:(n.kids.dropLast.filter fun x=>!(!(x.kind==k)))=M9 n k:=by simp only[Bool.not_not];rfl
  rw[hfe]at hD;refine Bj 100 rfl ?_;refine Ae [1] [] hD ?_;refine Am3 func163 (b:=1) rfl (Nt (Ze _ _) hdl)
def Gq(k:Int):Int:=if k=2∨k=21∨k=23∨k=26 then 31 else if k=3∨k=4∨k=22 then 32 else 0
theorem Aya(n:Nd):Pure X 269 [nd n] (vi (Gq n.kind)):=by
 refine Pure.run func269 ?_
 repeat' (refine Ag (fun _=>?_) (fun _=>?_))
 all_goals first|refine Az func269 ?_|(refine A1 ?_;refine Az func269 ?_)
 all_goals (simp_all [Gq,C5])
theorem Aj0(s:List UInt8):Pure X 166 [str s] (.fn 226 [.cptr [str s]]):=by
 refine Pure.mk func166 rfl rfl (by kernel_rfl) ?_;refine Ks 0 100 rfl ?_;refine Bj 1 rfl ?_;refine Bm (Ack (x:=str s)) ?_;exact Au func166 rfl
theorem Afn(x:Nd)(s:List UInt8):Pure X 226 [nd x,.cptr [str s]] (vb (x.name==s)):=by
 refine Pure.run func226 ?_;exact Au func226 rfl
def Xc(l:List Nd)(s:List UInt8):Int:=Kh (fun d=>d.name==s) 0 l
mutual
def Na(hit:Nd→Bool):Nd→Option (List UInt8)
 |.mk k s m ks=>if hit (.mk k s m ks)then some s else W8 hit ks
def W8(hit:Nd→Bool):List Nd→Option (List UInt8)
 |[]=>none
 |x::l=>match Na hit x with
  |some s=>some s
  |none=>W8 hit l
end
theorem Vi(hit:Nd→Bool)(n:Nd):Na hit n=if hit n then some n.name else W8 hit n.kids:=by cases n;rw[Na];rfl
def trC(code:Int)(o:Option (List UInt8)):Int:=match o with
 |some _=>code
 |none=>0
abbrev trV(code:Int)(o:Option (List UInt8)):AV:=.agg [vi (trC code o),str (o.getD [])]
set_option maxHeartbeats 1000000 in
theorem Aok(l:List Nd)(code:Int)(hc:code≠0)(g:FuncId)(caps:List AV)(hit:Nd→Bool)(Q:Nd→Prop)(hl:l.length≤1000000000) [hok:OKL 0 0 caps](hcat:∀xs,Kb xs caps=some (xs++caps))
 (hQ:∀x,Q x→(Gq x.kind=0→hit x=false)∧(Gq x.kind≠0→Pure X g (vi (Gq x.kind)::vi (Xc l x.name)::caps) (vb (hit x)))∧∀k,k∈x.kids→hit x=false→Q k)(n:Nd)(hn:Ai n≤1000000000)(hq:Q n) :
 Pure X 227 [.sl (Ap l) .no,nd n,vi code,.fn g caps] (trV code (Na hit n)):=by
 have hok2:OKL 2 0 caps:=⟨fun x hx=>(hok.ok x hx).mono (by omega) (by omega)⟩
 have hfl:R5 X.P 150=some [0,1]:=by kernel_rfl
 induction n using Nd.ind with
 |h n ih=>
  have hcn:=Ck n;have hll:=Bn n.kids;obtain⟨hq0,hq1,hq2⟩:=hQ n hq;have hloop:hit n=false→AK X ⟨227,f227,0,0⟩ (Lj false 4 f227) [(0,.sl (Ap l) .no),(2,vi code),(3,.fn g caps),(5,.ptr 0 0 0),(8,.ptr 1 0 0)] ⟨[[Af n],[[vi 0,str []]]],[]⟩
   (fun e S=>e=.ret (trV code (Na hit n))∧S=⟨[],[]⟩):=fun hf=>by
   rw[Vi,if_neg (by simp[hf])];refine D3 ?_;refine Bj 100 rfl ?_;refine Av (ι:=Nat) 2 0 (fun i=>i≤n.kids.length∧W8 hit n.kids=W8 hit (n.kids.drop i)) (fun i=>[(34,vi i),(33,vi n.kids.length),(32,.sl (Ap n.kids) .no),(0,.sl (Ap l) .no),(2,vi code),(3,.fn g caps),(5,.ptr 0 0 0),(8,.ptr 1 0 0)])
    (fun _=>⟨[[Af n],[[vi 0,str []]]],[]⟩) (fun i=>n.kids.length-i) ?_ 0 ⟨Cc _,rfl⟩ ⟨rfl,by rw[←Ad n.kids];rfl,rfl,rfl,rfl,rfl,rfl,rfl,trivial⟩
   rintro i ⟨hi,hTi⟩ IH;refine Dh (fun h=>?_) (fun h=>?_)
   ·have hlt:i<n.kids.length:=by have:=A7 h;omega
    obtain⟨x,hx⟩:=Ab n.kids hlt;have hm:=Bh hx;rw[B5 hx]at hTi;simp only[W8]at hTi;refine B7 i (by omega) (Am hx) ?_;refine Al (ih x hm (by have:=Ex hm;omega) (hq2 x hm hf)) ?_;generalize Na hit x=o at hTi⊢;refine Bm (Vb (r:=!((trC code o==0)&&((o.getD []==[])&&true))) rfl rfl rfl rfl rfl hfl rfl (.inr ⟨rfl,rfl⟩)) ?_;cases o with
    |some s=>
     simp only at hTi;refine A1 ?_ (ht:=by simp[trC,hc]);refine Au func227 ?_;rw[hTi]
    |none=>
     simp only at hTi;refine Ah ?_;exact IH (i+1) ⟨hlt,hTi⟩ (by omega) _ _ ⟨vsx (by omega),rfl,rfl,rfl,rfl,rfl,rfl,rfl,trivial⟩ rfl rfl rfl
   ·have hie:i=n.kids.length:=by have:=Bd h;omega
    rw[hie,Hw]at hTi;refine Au func227 ?_;rw[hTi];rfl
  refine Pure.run func227 ?_;refine Al (Aya n) ?_;refine Db (fun h1=>?_) (fun h1=>?_)
  ·have h1':Gq n.kind≠0:=by have:(!(Gq n.kind==0))=true:=h1;simpa using this
   refine Al (Aj0 n.name) ?_;refine Al (Adn l 226 [.cptr [str n.name]] (fun d=>d.name==n.name) hl (fun x _=>Afn x n.name) (Ash _)) ?_;refine Al (hq1 h1') ?_ (hzs:=hcat _);refine Eu 0 4 (fun h2=>?_) (fun h2=>?_)
   ·have h2':hit n=true:=h2;rw[Vi,if_pos h2'];exact Au func227 rfl
   ·exact B3 2 0 (hloop h2) ⟨rfl,rfl,rfl,rfl,rfl,trivial⟩ rfl rfl rfl rfl rfl
  ·have h1':Gq n.kind=0:=by have:(!(Gq n.kind==0))=false:=h1;simpa using this
   refine Eu (e:=false) 0 4 (fun h2=>nomatch h2) (fun _=>?_);exact B3 2 0 (hloop (hq0 h1')) ⟨rfl,rfl,rfl,rfl,rfl,trivial⟩ rfl rfl rfl rfl rfl
def Nb(l:List Nd)(x:Nd):Bool:=!(Gq x.kind==0)&&decide (Xc l x.name<0)
def V7(l:List Nd)(x:Nd):Bool:=!(Gq x.kind==0)&&!((l.getD (Xc l x.name).toNat Cg).kind==Gq x.kind)
theorem Auc(a b:Int):Pure X 228 [vi a,vi b] (vb (decide (b<0))):=by
 refine Pure.run func228 ?_;exact Au func228 rfl
theorem Aud(l:List Nd)(a b:Int)(h0:0≤b)(h1:b<l.length):Pure X 229 [vi a,vi b,.cptr [.sl (Ap l) .no]] (vb (!((l.getD b.toNat Cg).kind==a))):=by
 obtain⟨x,hx⟩:=Ab l (i:=b.toNat) (by omega);have:l.getD b.toNat Cg=x:=by simp[List.getD,hx]
 rw[this];refine Pure.run func229 ?_;refine B7 b h0 (Am hx) ?_;exact Au func229 rfl
theorem Anu{p:Nd→Bool}:∀{l:List Nd}{i:Nat},Kh p i l<((i+l.length:Nat):Int)
 |[],i=>by simp only[Kh];omega
 |x::l,i=>by
  simp only[Kh,Nl];split
  ·omega
  ·have:=Anu (p:=p) (l:=l) (i:=i+1);omega
def Adf(l:List Nd)(n:Nd):Int×List UInt8:=match Na (Nb l) n with
 |some s=>(7,s)
 |none=>(trC 8 (Na (V7 l) n),(Na (V7 l) n).getD [])
theorem Z1{hit:Nd→Bool}:∀{l:List Nd},W8 hit l=none→∀x,x∈l→Na hit x=none
 |[],_,x,hx=>by cases hx
 |y::l,h,x,hx=>by
  simp only[W8]at h;split at h
  ·cases h
  ·rename_i hy;rcases zzq13.1 hx with rfl|hx
   ·exact hy
   ·exact Z1 h x hx
theorem Ah1(l:List Nd)(n:Nd)(hl:l.length≤1000000000)(hn:Ai n≤1000000000):Pure X 167 [.sl (Ap l) .no,nd n] (.agg [vi (Adf l n).1,str (Adf l n).2]):=by
 have hfl:R5 X.P 150=some [0,1]:=by kernel_rfl
 have h7:=Aok l 7 (by decide) 228 [] (Nb l) (fun _=>True) hl A0i (fun x _=>⟨fun h=>by simp[Nb,h],fun h=>by
  have:Nb l x=decide (Xc l x.name<0):=by simp[Nb,h]
  rw[this];exact Auc _ _,fun _ _ _=>trivial⟩) n hn trivial
 have h8:Na (Nb l) n=none→Pure X 227 [.sl (Ap l) .no,nd n,vi 8,.fn 229 [.cptr [.sl (Ap l) .no]]] (trV 8 (Na (V7 l) n)):=fun h0=>
  Aok l 8 (by decide) 229 [.cptr [.sl (Ap l) .no]] (V7 l) (fun x=>Na (Nb l) x=none) hl (Ash _) (fun x hx=>by
   rw[Vi]at hx;have hx7:Nb l x=false:=by
    cases h:Nb l x with
    |false=>rfl
    |true=>rw[h]at hx;simp at hx
   rw[hx7]at hx;refine⟨fun h=>by simp[V7,h],fun h=>?_,fun k hk _=>Z1 (by simpa using hx) k hk⟩;have:V7 l x=!((l.getD (Xc l x.name).toNat Cg).kind==Gq x.kind):=by simp[V7,h]
   rw[this];have hlt:=Anu (p:=fun d=>d.name==x.name) (l:=l) (i:=0);have h0:¬Xc l x.name<0:=by
    intro hh;simp[Nb,h,hh]at hx7
   exact Aud l _ _ (by omega) (by simpa[Xc]using hlt)) n hn h0
 unfold Adf;refine Pure.mk func167 rfl rfl (by kernel_rfl) ?_;refine Ks 0 100 rfl ?_;refine Bj 1 rfl ?_;refine Bm (Ack (x:=.sl (Ap l) .no)) ?_;refine Al h7 ?_;generalize Na (Nb l) n=o at h8⊢;refine Bm (Vb (r:=!((trC 7 o==0)&&((o.getD []==[])&&true))) rfl rfl rfl rfl rfl hfl rfl (.inr ⟨rfl,rfl⟩)) ?_;cases o with
 |some s=>
  refine A1 ?_;exact Au func167 rfl
 |none=>
  refine Ah ?_;refine Al (h8 rfl) ?_;exact Au func167 rfl
inductive PlO:Nd→Prop where
 |mk (k:Int) (s:List UInt8) (m:Int) (ks:List Nd) (hk:∀x,x∈ks→PlO x)
   (hf:∀x,x∈ks→x.kind=26→∃a b k' s' m' l,x.kids=[a,b,.mk k' s' m' l]∧a.kind≠26∧b.kind≠26∧k'≠26):PlO (.mk k s m ks)
theorem PlO.kids{n:Nd}(h:PlO n):(∀x,x∈n.kids→PlO x)∧∀x,x∈n.kids→x.kind=26→∃a b k' s' m' l,x.kids=[a,b,.mk k' s' m' l]∧a.kind≠26∧b.kind≠26∧k'≠26:=by
 cases h with|mk k s m ks hk hf=>exact⟨hk,hf⟩
theorem PlO.leaf{k:Int}{s:List UInt8}{m:Int}:PlO (.mk k s m []):=.mk k s m [] (fun x h=>by cases h) (fun x h=>by cases h)
theorem Wz{n:Nd}(h:FE n):PlO n:=by
 induction h with
 |num m h0 h1=>exact .leaf
 |var s h=>exact .leaf
 |cell s a h ha ih=>exact .mk _ _ _ _ (fun x hx=>by simp at hx;subst hx;exact ih) (fun x hx h26=>by simp at hx;subst hx;have:=Cy ha;omega)
 |len s h=>exact .leaf
 |neg a ha ih=>exact .mk _ _ _ _ (fun x hx=>by simp at hx;subst hx;exact ih) (fun x hx h26=>by simp at hx;subst hx;have:=Cy ha;omega)
 |two k a b hk ha hb iha ihb=>
  exact .mk _ _ _ _ (fun x hx=>by simp at hx;rcases hx with rfl|rfl;exact iha;exact ihb) (fun x hx h26=>by
   simp at hx;rcases hx with rfl|rfl
   ·have:=Cy ha;omega
   ·have:=Cy hb;omega)
theorem Tu{n:Nd}(h:FC n):PlO n:=by
 cases h with
 |mk k a b h0 h1 ha hb=>
  exact .mk _ _ _ _ (fun x hx=>by simp at hx;rcases hx with rfl|rfl;exact Wz ha;exact Wz hb) (fun x hx h26=>by
   simp at hx;rcases hx with rfl|rfl
   ·have:=Cy ha;omega
   ·have:=Cy hb;omega)
theorem Qe{l:List Nd}(hl:∀x,x∈l→FS x)(h:∀x,x∈l→PlO x):PlO (.mk 30 [] 0 l):=
 .mk _ _ _ _ h fun x hx h26=>by
  have:=hl x hx;cases this with
  |for_ s a b l' hs ha hb hl'=>exact⟨a,b,30,[],0,l',rfl,by have:=Cy ha;omega,by have:=Cy hb;omega,by omega⟩
  |_=>simp at h26
theorem Ago{n:Nd}(h:FS n):PlO n:=by
 induction h with
 |set s a h ha=>exact .mk _ _ _ _ (fun x hx=>by simp at hx;subst hx;exact Wz ha) (fun x hx h26=>by simp at hx;subst hx;have:=Cy ha;omega)
 |put s a b h ha hb=>
  exact .mk _ _ _ _ (fun x hx=>by simp at hx;rcases hx with rfl|rfl;exact Wz ha;exact Wz hb) (fun x hx h26=>by
   simp at hx;rcases hx with rfl|rfl
   ·have:=Cy ha;omega
   ·have:=Cy hb;omega)
 |read s h=>exact .leaf
 |ifs c l l' hc hl hl' ihl ihl'=>
  exact .mk _ _ _ _ (fun x hx=>by simp at hx;rcases hx with rfl|rfl|rfl;exact Tu hc;exact Qe hl ihl;exact Qe hl' ihl') (fun x hx h26=>by
   simp at hx;rcases hx with rfl|rfl|rfl
   ·have:=Jv hc;omega
   ·simp at h26
   ·simp at h26)
 |whil c l hc hl ihl=>
  exact .mk _ _ _ _ (fun x hx=>by simp at hx;rcases hx with rfl|rfl;exact Tu hc;exact Qe hl ihl) (fun x hx h26=>by
   simp at hx;rcases hx with rfl|rfl
   ·have:=Jv hc;omega
   ·simp at h26)
 |for_ s a b l h ha hb hl ihl=>
  exact .mk _ _ _ _ (fun x hx=>by simp at hx;rcases hx with rfl|rfl|rfl;exact Wz ha;exact Wz hb;exact Qe hl ihl) (fun x hx h26=>by
   simp at hx;rcases hx with rfl|rfl|rfl
   ·have:=Cy ha;omega
   ·have:=Cy hb;omega
   ·simp at h26)
 |check c hc=>exact .mk _ _ _ _ (fun x hx=>by simp at hx;subst hx;exact Tu hc) (fun x hx h26=>by simp at hx;subst hx;have:=Jv hc;omega)
 |skip=>exact .leaf
 |stop=>exact .leaf
theorem Az1{n:Nd}(h:FP n):PlO n:=by
 cases h with
 |mk ds l hd hl=>
  refine .mk _ _ _ _ (fun x hx=>?_) (fun x hx h26=>?_)
  ·rcases zzq47.1 hx with h|h
   ·cases hd x h with
    |var s h=>exact .leaf
    |arr s m h h0 h1=>exact .leaf
   ·simp at h;subst h;exact Qe hl fun x hx=>Ago (hl x hx)
  ·rcases zzq47.1 hx with h|h
   ·have:=Abu (hd x h);omega
   ·simp at h;subst h;simp at h26
abbrev Aw5(s:List UInt8):Nd:=.mk 21 s 0 [.mk 6 [] 0 [.mk 2 s 0 [],.mk 1 [] 1 []]]
def HPl(n:Nd):Prop:=Hands X 56 [nd n] ⟨[],[]⟩ (.agg [vi n.kind,str n.name,vi n.num,.sl (Ap (Bt n.kids)) (.tok 0)]) ⟨[],[(Bt n.kids).length]⟩
theorem HPl.pure{n:Nd}(h:HPl n):Pure X 56 [nd n] (nd (A5 n)):=by
 have:=Hands.pure h;obtain⟨k,s,m,ks⟩:=n;rw[Bc];exact this
theorem Aup(xs:List UInt8)(a' b':Nd)(k':Int)(s':List UInt8)(m':Int)(l':List Nd):Ap [.mk 21 xs 0 [a'],.mk 25 [] 0 [.mk 11 [] 0 [.mk 2 xs 0 [],b'],.mk k' s' m' l']] =
 [[vi 21,str xs,vi 0,.sl [Af a'] .no],[vi 25,str [],vi 0,.sl [[vi 11,str [],vi 0,.sl [[vi 2,str xs,vi 0,.sl [] .no],Af b'] .no],[vi k',str s',vi m',.sl (Ap l') .no]] .no]]:=by
 have e1:Ap [a']=[Af a']:=As _;have e2:Ap [.mk 2 xs 0 [],b']=[Af (.mk 2 xs 0 []),Af b']:=As _;have e3:Ap [.mk 11 [] 0 [.mk 2 xs 0 [],b'],.mk k' s' m' l']=[Af (.mk 11 [] 0 [.mk 2 xs 0 [],b']),Af (.mk k' s' m' l')]:=As _;have e4:Ap [.mk 21 xs 0 [a'],.mk 25 [] 0 [.mk 11 [] 0 [.mk 2 xs 0 [],b'],.mk k' s' m' l']]=[Af (.mk 21 xs 0 [a']),Af (.mk 25 [] 0 [.mk 11 [] 0 [.mk 2 xs 0 [],b'],.mk k' s' m' l'])]:=As _;rw[e4];simp only[Af,M3,Vq,Aal,Ge,e1,e3,e2];rfl
set_option maxHeartbeats 2000000 in
theorem As1(n:Nd)(ih:∀x,x∈n.kids→PlO x→wN x≤1000000000→HPl x)(ih2:∀x,x∈n.kids→∀y,y∈x.kids→PlO y→wN y≤1000000000→HPl y)(hp:PlO n)(hw:wN n≤1000000000):HPl n:=by
 have hkl:=G6 n;obtain⟨hk,hf⟩:=hp.kids;unfold HPl;refine Hands.run func56 ?_;refine Ej 2 0 3 rfl rfl rfl rfl rfl rfl ?_;refine Av (ι:=Nat) 3 1 (fun i=>i≤n.kids.length) (fun i=>[(20,vi i),(19,vi n.kids.length),(18,.sl (Ap n.kids) .no),(1,.ptr 0 0 0),(2,.ptr 1 0 0),(3,.ptr 2 0 0)])
  (fun i=>⟨[[Af n],[zN],[[vi n.kind,str n.name,vi n.num,.sl (Ap (Bt (n.kids.take i))) (.tok 0)]]],[(Bt (n.kids.take i)).length]⟩) (fun i=>n.kids.length-i) ?_ 0
  (Cc _) ⟨rfl,by rw[←Ad n.kids];rfl,rfl,rfl,rfl,rfl,trivial⟩ (by simp[A4];rfl)
 intro i hi IH;refine Dh (fun h=>?_) (fun h=>?_)
 ·have hlt:i<n.kids.length:=by have:=A7 h;omega
  obtain⟨x,hxg⟩:=Ab n.kids hlt;have hm:=Bh hxg;have hwx:wN x<wN n:=Jd hm;have hsn:Bt (n.kids.take (i+1))=Bt (n.kids.take i)++G2 x:=by rw[G7,hxg,Uq];simp[Ao,A4]
  have hl1:=Mr (Bt (n.kids.take i));have hl2:=Vr (n.kids.take i);have hwk:wL n.kids≤wN n:=by rw[Wo];omega
  have hl3:wL (n.kids.take i)≤wL n.kids:=by
   have:=Uy (n.kids.take i) (n.kids.drop i);rw[Ad8]at this;omega
  refine B7 i (by omega) (Am hxg) ?_;refine Eu 0 8 (fun h2=>?_) (fun h2=>?_)
  ·have h2':x.kind≠26:=by have:(!(x.kind==26))=true:=h2;simpa using this
   have hr:=(ih x hm (hk x hm) (by omega)).pure;rw[Be h2']at hsn;refine Hu 160 3 ?_;refine Ci hr ?_;refine Ch (Bv (res:=Ap (Bt (n.kids.take (i+1)))) rfl rfl rfl rfl rfl rfl rfl rfl rfl rfl rfl rfl rfl rfl (Ad _) (Er _) rfl rfl rfl ?_ ?_ rfl) ?_
   ·rw[Ad];simp;omega
   ·rw[hsn,As,As,J8];rfl
   refine Ar ?_;refine Ch (A8 rfl rfl rfl rfl rfl rfl rfl) ?_;refine B6 ?_;refine IH (i+1) hlt (by omega) _ _ ⟨vsx (by omega),rfl,rfl,rfl,rfl,rfl,trivial⟩ ?_ rfl rfl;simp[St.drop,Ad,hsn]
  ·have h2':x.kind=26:=by have:(!(x.kind==26))=false:=h2;simpa using this
   obtain⟨a,b,k',s',m',l,hkx,ha,hb,hc⟩:=hf x hm h2';obtain⟨xk,xs,xm,xks⟩:=x;simp only[M3,Ge]at h2' hkx;subst h2';subst hkx;have hpx:=hk _ hm;have ma:a∈(Nd.mk 26 xs xm [a,b,.mk k' s' m' l]).kids:=by simp
   have mb:b∈(Nd.mk 26 xs xm [a,b,.mk k' s' m' l]).kids:=by simp
   have mc:Nd.mk k' s' m' l∈(Nd.mk 26 xs xm [a,b,.mk k' s' m' l]).kids:=by simp
   have wa:=Jd ma;have wb:=Jd mb;have wc:=Jd mc;have ra:=(ih2 _ hm a ma (hpx.kids.1 a ma) (by omega)).pure;have rb:=(ih2 _ hm b mb (hpx.kids.1 b mb) (by omega)).pure;have rc:=ih2 _ hm _ mc (hpx.kids.1 _ mc) (by omega);have hlc:=Mr (Bt l);have hlc2:=Vr l;have hlc3:wL l≤1000000000:=by
    have:=Wo (Nd.mk k' s' m' l);simp only[Ge]at this;omega
   have hp1:G2 (.mk 26 xs xm [a,b,.mk k' s' m' l])=[.mk 21 xs 0 [A5 a],.mk 25 [] 0 [.mk 11 [] 0 [.mk 2 xs 0 [],A5 b],.mk k' s' m' (Bt l++[Aw5 xs])]]:=by
    rw[K3,Ao,Ao,Ao,A4,Be ha,Be hb,Be (x:=.mk k' s' m' l) hc,Bc k'];rfl
   rw[hp1]at hsn;refine Rl 4 0 3 (.sl [] .no) ?_;refine Ks 9 100 rfl ?_;refine Rl 5 0 3 (.sl (Ap [.mk 2 xs 0 [],.mk 1 [] 1 []]) .no) ?_;refine Bj 100 rfl ?_;refine B7 2 (by omega) (rows:=Ap [a,b,.mk k' s' m' l]) (r:=Af (.mk k' s' m' l)) rfl ?_;refine Ae (τ':=[1]) [] [] rc ?_;refine Aii 53 ?_;refine Bm (Bv (res:=Ap (Bt l++[Aw5 xs])) rfl rfl rfl rfl rfl rfl rfl rfl rfl rfl rfl rfl rfl rfl (Ad _) (Er _) rfl rfl rfl ?_ ?_ rfl) ?_
   ·rw[Ad];simp;omega
   ·show Ap (Bt l)++Ap [Aw5 xs]=_;rw[Aaj]
   refine Hu 768 3 ?_;refine Dv 1 (by omega) (Aeh a b _) ?_;refine Ci rb ?_;refine Dx (Ls rfl rfl rfl) ?_ ?_
   ·exact An (Cn rfl rfl rfl) (An (Cn rfl rfl rfl) (An (Cn rfl rfl rfl) G0))
   refine Ch (A8 rfl rfl rfl rfl rfl rfl rfl) ?_;refine Akq 12 ?_;refine Rl 7 0 3 (.sl [[vi 2,str xs,vi 0,.sl [] .no],Af (A5 b)] .no) ?_;refine Hu 327680 6 ?_;refine Dv 0 (by omega) (Wc a _) ?_;refine Ja ra ?_;refine My 6 ?_;refine Wy ?_;refine Ch (Bv (res:=Ap (Bt (n.kids.take (i+1)))) rfl rfl rfl rfl rfl rfl rfl rfl rfl rfl rfl rfl rfl rfl (Ad _) (Er _) rfl rfl rfl ?_ ?_ rfl) ?_
   ·rw[Ad];simp;omega
   ·rw[hsn,Aaj (Bt (n.kids.take i)),Aup];rfl
   refine Ar ?_;refine Ch (A8 rfl rfl rfl rfl rfl rfl rfl) ?_;refine B6 ?_;refine IH (i+1) hlt (by omega) _ _ ⟨vsx (by omega),rfl,rfl,rfl,rfl,rfl,trivial⟩ ?_ rfl rfl;show St.mk [[Af n],[zN],[[vi n.kind,str n.name,vi n.num,.sl (Ap (Bt (n.kids.take (i+1)))) (.tok 0)]]] [(Ap (Bt (n.kids.take i))).length+2]=_;rw[Ad,hsn];simp
 ·have hie:i=n.kids.length:=by have:=Bd h;omega
  subst hie;rw[I8];exact Zn func56 rfl rfl rfl rfl
theorem As0(n:Nd)(hp:PlO n)(hw:wN n≤1000000000):HPl n:=by
 have:∀n:Nd,(PlO n→wN n≤1000000000→HPl n)∧∀y,y∈n.kids→PlO y→wN y≤1000000000→HPl y:=by
  intro n
  induction n using Nd.ind with
  |h n ih=>exact⟨As1 n (fun x hx=>(ih x hx).1) (fun x hx y hy=>(ih x hx).2 y hy),fun y hy=>(ih y hy).1⟩
 exact(this n).1 hp hw
theorem Afp(n:Nd)(hp:PlO n)(hw:wN n≤1000000000):Pure X 56 [nd n] (nd (A5 n)):=(As0 n hp hw).pure
theorem PrI.get{n:Nd}(h:PrI n):-9223372036854775808≤n.num∧n.num≤9223372036854775807∧∀x,x∈n.kids→PrI x:=by
 cases h with|mk k s m ks h0 h1 hk=>exact⟨h0,h1,hk⟩
theorem PrI.num1{k:Int}{s:List UInt8}{m:Int}{ks:List Nd}(h0:0≤m)(h1:m≤1)(hk:∀x,x∈ks→PrI x):PrI (.mk k s m ks):=.mk k s m ks (by omega) (by omega) hk
theorem At0{x:Nd}(h:PrI x):∀y,y∈[x]→PrI y:=fun y hy=>by simp at hy;subst hy;exact h
theorem Ahy{a b:Nd}(ha:PrI a)(hb:PrI b):∀y,y∈[a,b]→PrI y:=fun y hy=>by
 simp at hy;rcases hy with rfl|rfl
 ·exact ha
 ·exact hb
theorem A1n(s:List UInt8):PrI (Aw5 s):=.num1 (by omega) (by omega) (At0 (.num1 (by omega) (by omega) (Ahy (.num1 (by omega) (by omega) (fun x h=>by cases h)) (.num1 (by omega) (by omega) (fun x h=>by cases h)))))
theorem Axw(s:List UInt8)(l:List Nd)(h:∀x,x∈l→PrI x):∀y,y∈Aef s l→PrI y:=by
 unfold Aef;split
 ·rename_i a b k' s' m' l';have ha:=h a (by simp);have hb:=h b (by simp);have hc:=(h (.mk k' s' m' l') (by simp)).get;refine Ahy (.num1 (by omega) (by omega) (At0 ha)) (.num1 (by omega) (by omega) (Ahy (.num1 (by omega) (by omega) (Ahy (.num1 (by omega) (by omega) (fun x h=>by cases h)) hb)) (.mk k' s' m' _ hc.1 hc.2.1 fun x hx=>?_)));rcases zzq47.1 hx with hx|hx
  ·exact hc.2.2 x hx
  ·simp at hx;subst hx;exact A1n s
 ·intro y hy;cases hy
theorem At1:(∀n:Nd,PrI n→PrI (A5 n)∧∀y,y∈G2 n→PrI y)∧∀l:List Nd,(∀x,x∈l→PrI x)→∀y,y∈Bt l→PrI y:=by
 refine Ro (fun k s m ks ih hp=>?_) (fun _ y hy=>by rw[A4]at hy;cases hy) (fun x l hx hl hp y hy=>?_)
 ·have hg:=hp.get;have h1:PrI (A5 (.mk k s m ks)):=by rw[Bc];exact .mk k s m _ hg.1 hg.2.1 (ih hg.2.2)
  refine⟨h1,fun y hy=>?_⟩;by_cases hk:k=26
  ·subst hk;rw[K3]at hy;exact Axw s _ (ih hg.2.2) y hy
  ·rw[Be (x:=.mk k s m ks) hk]at hy;simp at hy;subst hy;exact h1
 ·rw[Ao]at hy;rcases zzq47.1 hy with hy|hy
  ·exact(hx (hp x (by simp))).2 y hy
  ·exact hl (fun z hz=>hp z (by simp[hz])) y hy
theorem PrI.plain{n:Nd}(h:PrI n):PrI (A5 n):=(At1.1 n h).1
theorem Akc:∀{l:List Nd}{pre:List (List UInt8)},twG pre l=none→(∀d,d∈l→has pre d.name=false)∧∀x,x∈l→∀y,y∈l→x.name=y.name→x=y
 |[],pre,_=>⟨fun d h=>(by cases h),fun x h _ _ _=>(by cases h)⟩
 |d::l,pre,h=>by
  simp only[twG]at h;split at h
  ·cases h
  ·rename_i hd;obtain⟨h1,h2⟩:=Akc h;have h3:∀e,e∈l→has pre e.name=false∧d.name≠e.name:=fun e he=>by
    have:=h1 e he;rw[Ahf,Pb]at this;refine⟨this.1,fun hh=>?_⟩;have:=this.2;simp[has,hh]at this
   refine⟨fun e he=>?_,fun x hx y hy hxy=>?_⟩
   ·rcases zzq13.1 he with rfl|he
    ·simpa using hd
    ·exact(h3 e he).1
   ·rcases zzq13.1 hx with rfl|hx<;>rcases zzq13.1 hy with rfl|hy
    ·rfl
    ·exact absurd hxy (h3 y hy).2
    ·exact absurd hxy.symm (h3 x (by assumption)).2
    ·exact h2 x hx y hy hxy
theorem Vn(l:List Nd)(k:Int)(s:List UInt8):has (E7 l k) s=l.any fun d=>(d.kind==k)&&(d.name==s):=by
 induction l with
 |nil=>rfl
 |cons d l ih=>
  simp only[E7,has,Abn]at ih⊢;by_cases h:(d.kind==k)=true
  ·rw[if_pos h];simp only[Nz,Zh,h,Re,ih]
  ·rw[if_neg h];have h':(d.kind==k)=false:=by simpa using h
   simp only[Zh,h',Bool.false_and,Bool.false_or,ih]
theorem Ai9(l:List Nd)(s:List UInt8):decide (Xc l s<0)=!(l.any fun d=>d.name==s):=by
 rw[←Yn _ l 0];show decide (Xc l s<0)=!decide (Xc l s≥0);by_cases h:Xc l s<0
 ·rw[Zg h,Kn (show ¬Xc l s≥0 by omega)];rfl
 ·rw[Kn h,Zg (show Xc l s≥0 by omega)];rfl
theorem O8(k:Int):(Gq k=31∧Ke k=1)∨(Gq k=32∧Ke k=2)∨(Gq k=0∧Ke k=0):=by
 unfold Gq Ke
 repeat' split
 all_goals simp
theorem As2{l:List Nd}(hk:∀d,d∈l→d.kind=31∨d.kind=32)(s:List UInt8):(l.any fun d=>d.name==s)=(has (E7 l 31) s||has (E7 l 32) s):=by
 rw[Vn,Vn]
 induction l with
 |nil=>rfl
 |cons d l ih=>
  simp only[Zh];rw[ih fun e he=>hk e (by simp[he])];rcases hk d (by simp)with h|h<;>simp[h]
  ·cases (d.name==s)<;>simp
  ·cases (d.name==s)<;>simp[Bool.or_comm,Bool.or_left_comm]
theorem Awt{l:List Nd}(hk:∀d,d∈l→d.kind=31∨d.kind=32)(x:Nd):Nb l x=Ht (E7 l 31) (E7 l 32) 7 x.kind x.name:=by
 unfold Nb Ht;rw[Ai9,As2 hk,Ue,Ue];rcases O8 x.kind with⟨h1,h2⟩|⟨h1,h2⟩|⟨h1,h2⟩<;>simp[h1,h2]
theorem Aw4{p:Nd→Bool}{l:List Nd}(h:(l.any p)=true):∃d,d∈l∧p d=true∧l.getD (Kh p 0 l).toNat Cg=d:=by
 have h0:Kh p 0 l≠-1:=by
  intro e;have:=Yn p l 0;rw[h,e]at this;simp at this
 obtain⟨j,d,h1,h2,h3,_⟩:=Z8 h0;refine⟨d,Bh h2,h3,?_⟩;rw[h1];simp[List.getD,h2]
theorem Awu{l:List Nd}(hk:∀d,d∈l→d.kind=31∨d.kind=32)(hu:∀x,x∈l→∀y,y∈l→x.name=y.name→x=y)(x:Nd)(h7:Nb l x=false):V7 l x=Ht (E7 l 31) (E7 l 32) 8 x.kind x.name:=by
 unfold Nb at h7;unfold V7 Ht;rw[Ai9]at h7;rw[Ue,Ue,Vn,Vn];by_cases hw:Gq x.kind=0
 ·rcases O8 x.kind with⟨h1,h2⟩|⟨h1,h2⟩|⟨h1,h2⟩<;>simp[h1,h2]<;>omega
 ·have ha:(l.any fun d=>d.name==x.name)=true:=by
   simp[hw]at h7;simpa using h7
  obtain⟨d,hd,hn,hg⟩:=Aw4 ha;have hn':d.name=x.name:=by simpa using hn
  have one:∀k:Int,(l.any fun e=>(e.kind==k)&&(e.name==x.name))=(d.kind==k):=fun k=>by
   cases hdk:(d.kind==k)with
   |true=>exact List.any_eq_true.2 ⟨d,hd,by simp[hdk,hn']⟩
   |false=>
    rw[List.any_eq_false];intro e he hh;simp at hh;have:=hu e he d hd (by rw[hh.2,hn']);subst this;simp at hdk;exact hdk hh.1
  have hgk:(l.getD (Xc l x.name).toNat Cg).kind=d.kind:=by rw[Xc,hg]
  rw[one,one,hgk];rcases O8 x.kind with⟨h1,h2⟩|⟨h1,h2⟩|⟨h1,h2⟩<;>rcases hk d hd with h3|h3<;>simp[h1,h2,h3]
def oV(o:Option (List UInt8)):List UInt8×Bool:=match o with
 |some s=>(s,true)
 |none=>([],false)
theorem A2n{l:List Nd}(hk:∀d,d∈l→d.kind=31∨d.kind=32):(∀n:Nd,G3 (E7 l 31) (E7 l 32) 7 n=oV (Na (Nb l) n))∧∀ks:List Nd,Mw (E7 l 31) (E7 l 32) 7 ks=oV (W8 (Nb l) ks):=by
 refine Ro (fun k s m ks ih=>?_) rfl (fun x ks hx hl=>?_)
 ·rw[Ra,Vi,Awt hk];by_cases hh:Ht (E7 l 31) (E7 l 32) 7 (Nd.mk k s m ks).kind (Nd.mk k s m ks).name=true
  ·rw[if_pos hh,if_pos hh];rfl
  ·rw[if_neg hh,if_neg hh];exact ih
 ·simp only[Mw,W8];rw[hx];cases Na (Nb l) x with
  |some s=>rfl
  |none=>simp[oV];exact hl
theorem A2o{l:List Nd}(hk:∀d,d∈l→d.kind=31∨d.kind=32)(hu:∀x,x∈l→∀y,y∈l→x.name=y.name→x=y) :
 (∀n:Nd,Na (Nb l) n=none→G3 (E7 l 31) (E7 l 32) 8 n=oV (Na (V7 l) n))∧∀ks:List Nd,W8 (Nb l) ks=none→Mw (E7 l 31) (E7 l 32) 8 ks=oV (W8 (V7 l) ks):=by
 refine Ro (fun k s m ks ih h0=>?_) (fun _=>rfl) (fun x ks hx hl h0=>?_)
 ·rw[Vi]at h0;have h7:Nb l (.mk k s m ks)=false:=by
   cases h:Nb l (.mk k s m ks)with
   |false=>rfl
   |true=>rw[h]at h0;simp at h0
  rw[h7]at h0;rw[Ra,Vi,Awu hk hu _ h7];by_cases hh:Ht (E7 l 31) (E7 l 32) 8 (Nd.mk k s m ks).kind (Nd.mk k s m ks).name=true
  ·rw[if_pos hh,if_pos hh];rfl
  ·rw[if_neg hh,if_neg hh];exact ih (by simpa using h0)
 ·have h1:=Z1 h0 x (by simp);have h2:W8 (Nb l) ks=none:=by simp only[W8,h1]at h0;exact h0
  simp only[Mw,W8];rw[hx h1];cases Na (V7 l) x with
  |some s=>rfl
  |none=>simp[oV];exact hl h2
theorem At7(x:Nd):Pure X 165 [nd x] (vb (decide (60<x.num))):=by
 refine Pure.run func165 ?_;exact Au func165 rfl
theorem Pj(n:Nd)(k:Int):(M9 n k).length=(Ax n k).length:=by simp[M9,Ax,E7]
theorem Ak9{n:Nd}(hd:∀d,d∈n.kids.dropLast→FV d):((M9 n 32).any fun d=>decide (60<d.num))=bigS n.kids.dropLast:=by
 unfold M9 bigS;rw[Bool.eq_iff_iff];simp only[List.any_eq_true,zzq58,J9,zzq56];constructor
 ·rintro⟨d,⟨h1,_⟩,h3⟩;exact⟨d,h1,h3⟩
 ·rintro⟨d,h1,h3⟩;refine⟨d,⟨h1,?_⟩,h3⟩;have:=hd d h1;cases this with
  |var s h=>simp at h3
  |arr s m h h0 h1=>rfl
theorem Aro{n:Nd}(h:FP n):n.kids≠[]∧∀d,d∈n.kids.dropLast→FV d:=by
 cases h with
 |mk ds l hd hl=>exact⟨by simp,by simpa using hd⟩
def Ur(n:Nd):Nd:=if (Ew n).1=0 then A5 n else Cg
set_option maxHeartbeats 1000000 in
theorem Axz(n:Nd)(hn:Ai n≤1000000000)(hnum:PrI n):Pure X 104 [nd n] (.tup [nd (Ur n),.agg [vi (Ew n).1,str (Ew n).2]]):=by
 have hfl:R5 X.P 150=some [0,1]:=by kernel_rfl
 refine Pure.run func104 ?_;refine Al (Aj2 n hn hnum) ?_;refine Ag (fun h1=>?_) (fun h1=>?_)
 ·have h1':Do n=false:=by have:(!Do n)=true:=h1;simpa using this
  have hC:Ew n=(4,[]):=by unfold Ew;rw[if_neg (by simp[h1'])]
  unfold Ur;rw[hC];exact Au func104 rfl
 have h1':Do n=true:=by have:(!Do n)=false:=h1;simpa using this
 obtain⟨fp,hc,hdp⟩:=Su h1';obtain⟨hkn,hFV⟩:=Aro fp;have hw9:wN n≤4500:=by
  have:=Aaw n (Zp fp);omega
 have hcn:=Ck n;have hll:=Bn n.kids;have hdl:n.kids.dropLast.length≤1000:=by rw[List.length_dropLast];omega
 have hkind:∀d,d∈n.kids.dropLast→d.kind=31∨d.kind=32:=fun d hd=>Abu (hFV d hd);have hfK:∀k,(M9 n k).length≤1000:=fun k=>Nt (Ze _ _) hdl;have e0:Ew n=Ew n:=rfl
 conv at e0=>rhs;rw[Ew,if_pos h1']
 refine Hu 0 1 ?_;refine Ci (Aoj n hkn (by omega)) ?_;refine Ci (Sw n 32 hkn (by omega)) ?_;refine B6 ?_;refine Al (Sw n 31 hkn (by omega)) ?_;refine Db (fun h2=>?_) (fun h2=>?_)
 ·have h2':8<(Ax n 31).length:=by have:=A7 h2;rw[Ad,Pj]at this;omega
  have hC:Ew n=(3,[]):=by rw[e0,if_pos (by simp[Uj,h2'])]
  refine Hh ?_;refine A1 ?_;unfold Ur;rw[hC];exact Au func104 rfl
 have h2':¬8<(Ax n 31).length:=by have:=Bd h2;rw[Ad,Pj]at this;omega
 refine Db (fun h3=>?_) (fun h3=>?_)
 ·have h3':4<(Ax n 32).length:=by have:=A7 h3;rw[Ad,Pj]at this;omega
  have hC:Ew n=(3,[]):=by rw[e0,if_pos (by simp[Uj,h3'])]
  refine A1 ?_;unfold Ur;rw[hC];exact Au func104 rfl
 have h3':¬4<(Ax n 32).length:=by have:=Bd h3;rw[Ad,Pj]at this;omega
 have hmany:¬Uj n=true:=by simp[Uj]<;>omega
 rw[if_neg hmany]at e0;have hbig:=Us (M9 n 32) 165 [] (fun d=>decide (60<d.num)) (by have:=hfK 32;omega) (fun x _=>At7 x) A0i;rw[Ak9 hFV]at hbig;refine Al hbig ?_;refine Ag (fun h4=>?_) (fun h4=>?_)
 ·have h4':bigS n.kids.dropLast=true:=h4;have hC:Ew n=(3,[]):=by rw[e0,if_pos h4']
  unfold Ur;rw[hC];exact Au func104 rfl
 have h4':¬bigS n.kids.dropLast=true:=by have:bigS n.kids.dropLast=false:=h4;simp[this]
 rw[if_neg h4']at e0;have htw:∀i,twG ((n.kids.dropLast.take i).map Nd.name) (n.kids.dropLast.drop i)=twG [] n.kids.dropLast→True:=fun _ _=>trivial;refine Av (ι:=Nat) 3 0 (fun i=>i≤n.kids.dropLast.length∧twG ((n.kids.dropLast.take i).map Nd.name) (n.kids.dropLast.drop i)=twG [] n.kids.dropLast)
  (fun i=>[(36,vi i),(35,vi n.kids.dropLast.length),(34,.sl (Ap n.kids.dropLast) .no),(4,.sl (Ap n.kids.dropLast) .no),(1,.ptr 0 0 0),(2,.ptr 1 0 0),(3,.ptr 2 0 0)])
  (fun i=>⟨[[Af n],[zN],[[vi 0,str []]]],[]⟩) (fun i=>n.kids.dropLast.length-i) ?_ 0 ⟨Cc _,rfl⟩ ⟨rfl,by rw[←Ad n.kids.dropLast];rfl,rfl,rfl,rfl,rfl,rfl,trivial⟩ rfl rfl rfl rfl rfl
  (fun _=>inferInstance) (fun _=>inferInstance)
 rintro i ⟨hi,hT⟩ IH;refine Dh (fun h5=>?_) (fun h5=>?_)
 ·have hlt:i<n.kids.dropLast.length:=by have:=A7 h5;omega
  obtain⟨d,hd⟩:=Ab n.kids.dropLast hlt;rw[B5 hd]at hT;simp only[twG]at hT;have hin:((Ap n.kids.dropLast).take i).drop 0=Ap (n.kids.dropLast.take i):=by rw[As,As,List.drop_zero,List.map_take]
  have hany:((n.kids.dropLast.take i).any fun e=>e.name==d.name)=has ((n.kids.dropLast.take i).map Nd.name) d.name:=by rw[has,List.any_map];rfl
  refine B7 i (by omega) (Am hd) ?_;refine Hu 0 2 ?_;refine Akp (fun S'=>Abv (l:=0) (h:=(i:Int)) (r:=Ap (n.kids.dropLast.take i)) rfl rfl rfl rfl rfl rfl rfl rfl rfl (by omega) (by omega) (by rw[Ad];omega) (Er _) (by rw[Hc];exact hin)) ?_;refine Ci (Aj0 d.name) ?_;refine Ci (Us (n.kids.dropLast.take i) 226 [.cptr [str d.name]] (fun e=>e.name==d.name) (by rw[Ti];omega) (fun x _=>Afn x d.name) (Ash _)) ?_;refine B6 ?_;refine Ag (fun h6=>?_) (fun h6=>?_)
  ·have h6':has ((n.kids.dropLast.take i).map Nd.name) d.name=true:=by rw[←hany];exact h6
   rw[if_pos h6']at hT;have hC:Ew n=(6,d.name):=by rw[e0,←hT]
   refine Hu 48 4 ?_;refine Dx (A8 rfl rfl rfl rfl rfl rfl rfl) ?_ ?_
   ·exact An (Cn rfl rfl rfl) G0
   refine Ch (A8 rfl rfl rfl rfl rfl rfl rfl) ?_;refine B6 ?_;unfold Ur;rw[hC];exact Au func104 rfl
  ·have h6':¬has ((n.kids.dropLast.take i).map Nd.name) d.name=true:=by rw[←hany];simp[show _=false from h6]
   rw[if_neg h6']at hT;exact IH (i+1) ⟨hlt,by rw[G7,hd,J8];exact hT⟩ (by omega) _ _ ⟨vsx (by omega),rfl,rfl,rfl,rfl,rfl,rfl,trivial⟩ rfl rfl rfl
 have hie:i=n.kids.dropLast.length:=by have:=Bd h5;omega
 rw[hie,Hw]at hT;have hT':twG [] n.kids.dropLast=none:=hT.symm;rw[hT']at e0;simp only at e0;obtain⟨_,huq⟩:=Akc hT';have w7:=(A2n hkind).1 (Dp n);have w8:=(A2o hkind huq).1 (Dp n);have hdS:∀k,Ax n k=E7 n.kids.dropLast k:=fun k=>rfl;rw[hdS,hdS,w7]at e0;have hlc:Ai (Dp n)≤1000:=by
  unfold Dp;cases hg:n.kids.getLast? with
  |none=>rw[Akk,hg];decide
  |some b=>
   rw[Akk,hg];have:=Ex (List.mem_of_getLast? hg);simp only[Option.getD_some];omega
 refine Al (At6 n hkn (by omega)) ?_;refine Al (Ah1 n.kids.dropLast (Dp n) (by omega) (by omega)) ?_;have hnt:Adf n.kids.dropLast (Dp n)=match Na (Nb n.kids.dropLast) (Dp n)with
  |some s=>(7,s)
  |none=>(trC 8 (Na (V7 n.kids.dropLast) (Dp n)),(Na (V7 n.kids.dropLast) (Dp n)).getD []):=rfl
 generalize Adf n.kids.dropLast (Dp n)=T at hnt⊢;refine Bm (Vb (r:=!((T.1==0)&&((T.2==[])&&true))) rfl rfl rfl rfl rfl hfl rfl (.inr ⟨rfl,rfl⟩)) ?_;by_cases hz:Na (Nb n.kids.dropLast) (Dp n)=none∧Na (V7 n.kids.dropLast) (Dp n)=none
 ·rw[hz.1,hz.2]at hnt;rw[w8 hz.1,hz.1,hz.2]at e0;simp only[oV,trC]at hnt e0;subst hnt;refine Ah ?_;refine Al (Afp n (Az1 fp) (by omega)) ?_;have hpw:=(Po n).1;have hpc:=Rx (A5 n);refine Al (Aj2 (A5 n) (by omega) hnum.plain) ?_;refine Ag (fun h7=>?_) (fun h7=>?_)
  ·have h7':Do (A5 n)=false:=by have:(!Do (A5 n))=true:=h7;simpa using this
   have hC:Ew n=(5,[]):=by rw[e0];simp[h7']
   unfold Ur;rw[hC];exact Au func104 rfl
  ·have h7':Do (A5 n)=true:=by have:(!Do (A5 n))=false:=h7;simpa using this
   have hC:Ew n=(0,[]):=by rw[e0];simp[h7']
   unfold Ur;rw[hC];exact Au func104 rfl
 ·have hC:Ew n=T∧T.1≠0:=by
   cases h7:Na (Nb n.kids.dropLast) (Dp n)with
   |some s=>
    rw[h7]at hnt e0;simp only[oV]at e0;rw[hnt,e0];simp
   |none=>
    rw[w8 h7]at e0;rw[h7]at hnt e0;cases h8:Na (V7 n.kids.dropLast) (Dp n)with
    |none=>exact absurd ⟨h7,h8⟩ hz
    |some s=>
     rw[h8]at hnt e0;simp only[oV,trC]at e0 hnt;rw[hnt,e0];simp
  obtain⟨hC,hC0⟩:=hC;refine A1 ?_ (ht:=by simp[hC0]);refine Hu 12 2 ?_;refine Dx (A8 rfl rfl rfl rfl rfl rfl rfl) ?_ ?_
  ·exact An (Cn rfl rfl rfl) G0
  refine Ch (A8 rfl rfl rfl rfl rfl rfl rfl) ?_;refine B6 ?_;unfold Ur;rw[hC,if_neg hC0];exact Au func104 rfl
structure Eg where
 f:Int
 t:Int
 k:Int
 y:Bool
 n:Nd
structure Lp where
 a:Nd
 l:Nd
 h:Int
 x:Int
structure Gr where
 pts:Nat
 pt:Nat
 es:List Eg
 sts:List Nat
 lps:List Lp
 ver:Nat
def Ov(g:Gr):Gr:={ g with es:=g.es++[⟨g.pt,-1,7,false,Cg⟩],sts:=g.sts++[g.es.length],pts:=g.pts+1,pt:=g.pts }
def Dl(k:Int)(n:Nd)(g:Gr):Gr:={ g with es:=g.es++[⟨g.pt,g.pts,k,false,n⟩],pts:=g.pts+1,pt:=g.pts }
def D5(p:Nat)(c:Nd)(y:Bool)(g:Gr):Gr:={ g with es:=g.es++[⟨p,g.pts,4,y,c⟩],pts:=g.pts+1,pt:=g.pts }
def Iu(f t:Nat)(g:Gr):Gr:={ g with es:=g.es++[⟨f,t,6,false,Cg⟩] }
def Nw(p:Nat)(g:Gr):Gr:={ Iu g.pt g.pts (Iu p g.pts g)with pts:=g.pts+1,pt:=g.pts }
def gIf(c:Nd)(f1 f2:Gr→Gr)(g:Gr):Gr:=Nw (f1 (D5 g.pt c true g)).pt (f2 (D5 g.pt c false (f1 (D5 g.pt c true g))))
def Hm(a n:Nd)(g:Gr):Gr:={ g with lps:=g.lps++[⟨a,n,g.pt,0⟩],ver:=g.ver+1 }
def Ub(i:Nat)(g:Gr):Gr:={ g with lps:=g.lps.modify i fun l=>{ l with x:=g.pt },ver:=g.ver+1 }
def Lc(h:Nat)(g:Gr):Gr:=Iu g.pt h g
def gWh(n a c:Nd)(f:Gr→Gr)(g:Gr):Gr:=
 Ub g.lps.length (D5 g.pts c false (Lc g.pts (f (D5 g.pts c true (Hm a n (Dl 6 Cg g))))))
def gKs(k:Int)(n:Nd)(ks:List Nd)(fs:List (Gr→Gr))(a:Nd)(g:Gr):Gr:=
 if k=21 then Dl 1 n g else if k=22 then Dl 2 n g else if k=23 then Dl 3 n g else if k=27 then Dl 5 (ks.headD Cg) g else if k=28 then Dl 6 Cg g
 else if k=29 then Ov g else if k=24 then gIf (ks.headD Cg) (fs.getD 1 id) (fs.getD 2 id) g else gWh n a (ks.headD Cg) (fs.getD 1 id) g
def goL:List (Nd×(Nd→Gr→Gr)×(Gr→Gr))→Nd→Gr→Gr
 |[],_,g=>g
 |(x,f,_)::l,a,g=>goL l x (f a g)
mutual
def gN:Nd→Nd×(Nd→Gr→Gr)×(Gr→Gr)
 |.mk k s m ks=>(.mk k s m ks,gKs k (.mk k s m ks) ks ((gNs ks).map fun x=>x.2.2),goL (gNs ks) Cg)
def gNs:List Nd→List (Nd×(Nd→Gr→Gr)×(Gr→Gr))
 |[]=>[]
 |x::l=>gN x::gNs l
end
def gS(n a:Nd)(g:Gr):Gr:=(gN n).2.1 a g
def gL:List Nd→Nd→Gr→Gr
 |[],_,g=>g
 |x::l,a,g=>gL l x (gS x a g)
theorem Te(k:Int)(s:List UInt8)(m:Int)(ks:List Nd):gN (.mk k s m ks)=(.mk k s m ks,gKs k (.mk k s m ks) ks ((gNs ks).map fun x=>x.2.2),goL (gNs ks) Cg):=by rw[gN]
theorem Awq(x:Nd):(gN x).1=x:=by obtain⟨k,s,m,ks⟩:=x;rw[Te]
theorem Qj(x:Nd)(l:List Nd):gNs (x::l)=gN x::gNs l:=by rw[gNs]
theorem Aha:gNs []=[]:=by rw[gNs]
theorem Ahd:∀(l:List Nd)(a:Nd)(g:Gr),goL (gNs l) a g=gL l a g
 |[],a,g=>by rw[Aha];rfl
 |x::l,a,g=>by
  rw[Qj];have h:gN x=(x,(gN x).2):=Prod.ext (Awq x) rfl;rw[h];simp only[goL,gL,gS];exact Ahd l x _
theorem Yl(x:Nd)(l:List Nd)(a:Nd)(g:Gr):gL (x::l) a g=gL l x (gS x a g):=rfl
theorem Asu:∀(l l':List Nd)(a:Nd)(g:Gr),gL (l++l') a g=gL l' (l.getLastD a) (gL l a g)
 |[],l',a,g=>rfl
 |x::l,l',a,g=>by simp only[Pu,Yl];rw[Asu l l' x];cases l<;>simp[gL,List.getLastD]
theorem Z5(s:List UInt8)(ks:List Nd)(a:Nd)(g:Gr):gS (.mk 21 s 0 ks) a g=Dl 1 (.mk 21 s 0 ks) g:=by unfold gS;rw[Te];rfl
theorem Z4(s:List UInt8)(ks:List Nd)(a:Nd)(g:Gr):gS (.mk 22 s 0 ks) a g=Dl 2 (.mk 22 s 0 ks) g:=by unfold gS;rw[Te];rfl
theorem Vk(s:List UInt8)(ks:List Nd)(a:Nd)(g:Gr):gS (.mk 23 s 0 ks) a g=Dl 3 (.mk 23 s 0 ks) g:=by unfold gS;rw[Te];rfl
theorem Qk(c a:Nd)(g:Gr):gS (.mk 27 [] 0 [c]) a g=Dl 5 c g:=by unfold gS;rw[Te];rfl
theorem Vl(a:Nd)(g:Gr):gS (.mk 28 [] 0 []) a g=Dl 6 Cg g:=by unfold gS;rw[Te];rfl
theorem Vm(a:Nd)(g:Gr):gS (.mk 29 [] 0 []) a g=Ov g:=by unfold gS;rw[Te];rfl
theorem Ae7(c a:Nd)(l l':List Nd)(g:Gr):gS (.mk 24 [] 0 [c,.mk 30 [] 0 l,.mk 30 [] 0 l']) a g=gIf c (gL l Cg) (gL l' Cg) g:=by
 unfold gS;rw[Te,Qj,Qj,Qj,Aha,Te 30,Te 30,funext fun g=>Ahd l Cg g,funext fun g=>Ahd l' Cg g];rfl
theorem Ae8(c a:Nd)(l:List Nd)(g:Gr):gS (.mk 25 [] 0 [c,.mk 30 [] 0 l]) a g=gWh (.mk 25 [] 0 [c,.mk 30 [] 0 l]) a c (gL l Cg) g:=by
 unfold gS;rw[Te,Qj,Qj,Aha,Te 30,funext fun g=>Ahd l Cg g];rfl
inductive PS:Nd→Prop
 |set (s:List UInt8) (a:Nd) (h:nameS s=true) (ha:FE a):PS (.mk 21 s 0 [a])
 |put (s:List UInt8) (a b:Nd) (h:nameS s=true) (ha:FE a) (hb:FE b):PS (.mk 22 s 0 [a,b])
 |read (s:List UInt8) (h:nameS s=true):PS (.mk 23 s 0 [])
 |ifs (c:Nd) (l l':List Nd) (hc:FC c) (hl:∀x,x∈l→PS x) (hl':∀x,x∈l'→PS x):PS (.mk 24 [] 0 [c,.mk 30 [] 0 l,.mk 30 [] 0 l'])
 |whil (c:Nd) (l:List Nd) (hc:FC c) (hl:∀x,x∈l→PS x):PS (.mk 25 [] 0 [c,.mk 30 [] 0 l])
 |check (c:Nd) (hc:FC c):PS (.mk 27 [] 0 [c])
 |skip:PS (.mk 28 [] 0 [])
 |stop:PS (.mk 29 [] 0 [])
theorem O4{l:List Nd}(h:∀x,x∈l→∀y,y∈G2 x→PS y):∀y,y∈Bt l→PS y:=by
 induction l with
 |nil=>intro y hy;rw[A4]at hy;cases hy
 |cons x l ih=>
  intro y hy;rw[Ao]at hy;rcases zzq47.1 hy with hy|hy
  ·exact h x (by simp) y hy
  ·exact ih (fun z hz=>h z (by simp[hz])) y hy
theorem Lg(l:List Nd):G2 (.mk 30 [] 0 l)=[.mk 30 [] 0 (Bt l)]:=by rw[Be (by simp),Bc]
theorem Iq{a:Nd}(h:FE a):G2 a=[a]:=by rw[Be (by have:=Cy h;omega),Up h]
theorem Qv{a:Nd}(h:FC a):G2 a=[a]:=by rw[Be (by have:=Jv h;omega),Ss h]
theorem A2x{n:Nd}(h:FS n):∀y,y∈G2 n→PS y:=by
 induction h with
 |set s a h ha=>intro y hy;rw[Be (by simp),Bc,Ao,A4,Iq ha]at hy;simp at hy;subst hy;exact .set s a h ha
 |put s a b h ha hb=>intro y hy;rw[Be (by simp),Bc,Ao,Ao,A4,Iq ha,Iq hb]at hy;simp at hy;subst hy;exact .put s a b h ha hb
 |read s h=>intro y hy;rw[Be (by simp),Bc,A4]at hy;simp at hy;subst hy;exact .read s h
 |ifs c l l' hc hl hl' ihl ihl'=>
  intro y hy;rw[Be (by simp),Bc,Ao,Ao,Ao,A4,Qv hc,Lg,Lg]at hy;simp at hy;subst hy;exact .ifs c _ _ hc (O4 ihl) (O4 ihl')
 |whil c l hc hl ihl=>
  intro y hy;rw[Be (by simp),Bc,Ao,Ao,A4,Qv hc,Lg]at hy;simp at hy;subst hy;exact .whil c _ hc (O4 ihl)
 |for_ s a b l h ha hb hl ihl=>
  intro y hy;rw[K3,Ao,Ao,Ao,A4,Iq ha,Iq hb,Lg]at hy;simp only[Pu,U8,Aef,zzq13,Wv,or_false]at hy;rcases hy with rfl|rfl
  ·exact .set s a h ha
  ·refine .whil _ _ (.mk 11 _ _ (by omega) (by omega) (.var s h) hb) fun y hy=>?_;rcases zzq47.1 hy with hy|hy
   ·exact O4 ihl y hy
   ·simp at hy;subst hy;exact .set s _ h (.two 6 _ _ (.inl rfl) (.var s h) (.num 1 (by omega) (by omega)))
 |check c hc=>intro y hy;rw[Be (by simp),Bc,Ao,A4,Qv hc]at hy;simp at hy;subst hy;exact .check c hc
 |skip=>intro y hy;rw[Be (by simp),Bc,A4]at hy;simp at hy;subst hy;exact .skip
 |stop=>intro y hy;rw[Be (by simp),Bc,A4]at hy;simp at hy;subst hy;exact .stop
structure Gr.le (g g':Gr)(k:Nat):Prop where
 pts:g.pts≤g'.pts∧g'.pts≤g.pts+4*k
 pt:g'.pt<g'.pts
 es:∃l,g'.es=g.es++l∧l.length≤4*k∧∀e,e∈l→(0≤e.f∧e.f<g'.pts)∧(e.t=-1∨(0≤e.t∧e.t<g'.pts))
 lps:∃l,g'.lps=g.lps++l∧l.length≤k
 ver:g.ver≤g'.ver∧g'.ver≤g.ver+2*k
 sts:∃l,g'.sts=g.sts++l∧l.length≤k
theorem Gr.le.refl{g:Gr}(h:g.pt<g.pts):g.le g 0:=⟨by omega,h,⟨[],by simp,by simp,fun e he=>by cases he⟩,⟨[],by simp,by simp⟩,by omega,⟨[],by simp,by simp⟩⟩
theorem Gr.le.trans{a b c:Gr}{k l m:Nat}(h:a.le b k)(h':b.le c l)(hm:k+l≤m):a.le c m:=by
 obtain⟨e1,h1,h2,h3⟩:=h.es;obtain⟨e2,h4,h5,h6⟩:=h'.es;obtain⟨l1,g1,g2⟩:=h.lps;obtain⟨l2,g3,g4⟩:=h'.lps;obtain⟨s1,g5,g6⟩:=h.sts;obtain⟨s2,g7,g8⟩:=h'.sts;have:=h.pts;have:=h'.pts;have:=h.ver;have:=h'.ver;refine⟨by omega,h'.pt,⟨e1++e2,by rw[h4,h1,Fi],by simp;omega,fun e he=>?_⟩,⟨l1++l2,by rw[g3,g1,Fi],by simp;omega⟩,by omega,⟨s1++s2,by rw[g7,g5,Fi],by simp;omega⟩⟩;rcases zzq47.1 he with he|he
 ·obtain⟨q1,q2⟩:=h3 e he;refine⟨by omega,?_⟩;rcases q2 with q2|q2
  ·exact .inl q2
  ·exact .inr (by omega)
 ·exact h6 e he
theorem Gr.le.up{a b:Gr}{k m:Nat}(h:a.le b k)(hm:k≤m):a.le b m:=h.trans (.refl h.pt) (by omega)
theorem Ly(k:Int)(n:Nd){g:Gr}(h:g.pt<g.pts):g.le (Dl k n g) 1:=
 ⟨by simp[Dl],by simp[Dl],⟨_,rfl,by simp,fun e he=>by simp at he;subst he;simp[Dl];omega⟩,⟨[],by simp[Dl],by simp⟩,by simp[Dl],⟨[],by simp[Dl],by simp⟩⟩
theorem Ayz{g:Gr}(h:g.pt<g.pts):g.le (Ov g) 1:=
 ⟨by simp[Ov],by simp[Ov],⟨_,rfl,by simp,fun e he=>by simp at he;subst he;simp[Ov];omega⟩,⟨[],by simp[Ov],by simp⟩,by simp[Ov],⟨_,rfl,by simp⟩⟩
theorem P3(p:Nat)(c:Nd)(y:Bool){g:Gr}(h:p<g.pts):g.le (D5 p c y g) 1:=
 ⟨by simp[D5],by simp[D5],⟨_,rfl,by simp,fun e he=>by simp at he;subst he;simp[D5];omega⟩,⟨[],by simp[D5],by simp⟩,by simp[D5],⟨[],by simp[D5],by simp⟩⟩
theorem Awk(t:Nat){g:Gr}(h:g.pt<g.pts)(ht:t<g.pts):g.le (Lc t g) 1:=
 ⟨by simp[Lc,Iu],h,⟨_,rfl,by simp,fun e he=>by simp at he;subst he;simp[Lc,Iu];omega⟩,⟨[],by simp[Lc,Iu],by simp⟩,by simp[Lc,Iu],⟨[],by simp[Lc,Iu],by simp⟩⟩
theorem Aw7(p:Nat){g:Gr}(h:g.pt<g.pts)(hp:p<g.pts):g.le (Nw p g) 1:=
 ⟨by simp[Nw,Iu],by simp[Nw,Iu],⟨[⟨p,g.pts,6,false,Cg⟩,⟨g.pt,g.pts,6,false,Cg⟩],by simp[Nw,Iu],by simp,fun e he=>by simp at he;rcases he with rfl|rfl<;>simp[Nw,Iu]<;>omega⟩,⟨[],by simp[Nw,Iu],by simp⟩,by simp[Nw,Iu],⟨[],by simp[Nw,Iu],by simp⟩⟩
theorem Ahq(a n:Nd){g:Gr}(h:g.pt<g.pts):g.le (Hm a n g) 1:=
 ⟨by simp[Hm],h,⟨[],by simp[Hm],by simp,fun e he=>by cases he⟩,⟨_,rfl,by simp⟩,by simp[Hm],⟨[],by simp[Hm],by simp⟩⟩
theorem Ade{α:Type}(l l':List α)(f:α→α):(l++l').modify l.length f=l++l'.modify 0 f:=by
 apply Abo;intro j;rw[List.getElem?_modify];rcases Gu j l.length with h|h
 ·rw[Cr h,Cr h];simp[show l.length≠j by omega]
 ·rw[Gj h,Gj h,List.getElem?_modify];by_cases hj:l.length=j
  ·simp[hj]
  ·simp[hj,show ¬0=j-l.length by omega]
theorem Awm{g g':Gr}{k:Nat}(h:g.le g' k):g.le (Ub g.lps.length g') (k+1):=by
 obtain⟨l,h1,h2⟩:=h.lps;obtain⟨e,h3,h4,h5⟩:=h.es;obtain⟨s,h6,h7⟩:=h.sts;have:=h.pts;have:=h.ver;exact⟨by simp only[Ub];omega,h.pt,⟨e,by simp only[Ub];exact h3,by omega,h5⟩,⟨l.modify 0 fun x=>{ x with x:=g'.pt },by simp only[Ub];rw[h1,Ade],by simp;omega⟩,by simp only[Ub];omega,⟨s,by simp only[Ub];exact h6,by omega⟩⟩
abbrev bG(k:Nat):Nat:=6*k
theorem Anp{l:List Nd}(h:∀x,x∈l→∀(a:Nd)(g:Gr),g.pt<g.pts→g.le (gS x a g) (bG (wN x))):∀(a:Nd)(g:Gr),g.pt<g.pts→g.le (gL l a g) (bG (wL l)):=by
 induction l with
 |nil=>intro a g hp;exact(Gr.le.refl hp).up (by simp[wL])
 |cons x l ih=>
  intro a g hp;rw[Yl];have h1:=h x (by simp) a g hp;exact h1.trans (ih (fun y hy=>h y (by simp[hy])) x _ h1.pt) (by simp only[wL,bG];omega)
theorem A3g{c:Nd}{f1 f2:Gr→Gr}{k1 k2:Nat}(h1:∀g:Gr,g.pt<g.pts→g.le (f1 g) k1)(h2:∀g:Gr,g.pt<g.pts→g.le (f2 g) k2){g:Gr}(hp:g.pt<g.pts):g.le (gIf c f1 f2 g) (k1+k2+3):=by
 unfold gIf;have a1:=P3 g.pt c true hp;have a2:=h1 _ a1.pt;have a12:=a1.trans a2 (Bo _);have hp2:g.pt<(f1 (D5 g.pt c true g)).pts:=Mx hp a12.pts.1;have a3:=P3 g.pt c false hp2;have a4:=h2 _ a3.pt;have a34:=a3.trans a4 (Bo _);have hq:(f1 (D5 g.pt c true g)).pt<(f2 (D5 g.pt c false (f1 (D5 g.pt c true g)))).pts:=Mx a2.pt a34.pts.1;exact(a12.trans a34 (Bo _)).trans (Aw7 _ a4.pt hq) (by omega)
theorem A4b{n a c:Nd}{f:Gr→Gr}{k:Nat}(h1:∀g:Gr,g.pt<g.pts→g.le (f g) k){g:Gr}(hp:g.pt<g.pts):g.le (gWh n a c f g) (k+6):=by
 unfold gWh;have a1:=Ly 6 Cg hp;have a2:=Ahq a n a1.pt;have a12:=a1.trans a2 (Bo _);have hh:g.pts<(Hm a n (Dl 6 Cg g)).pts:=by simp[Hm,Dl]
 have a3:=P3 g.pts c true hh;have a4:=h1 _ a3.pt;have a34:=a3.trans a4 (Bo _);have hh2:=Mx hh a34.pts.1;have a5:=Awk g.pts a4.pt hh2;have hh3:=Mx hh2 a5.pts.1;have a6:=P3 g.pts c false hh3;exact(Awm ((a12.trans a34 (Bo _)).trans (a5.trans a6 (Bo _)) (Bo _))).up (by omega)
theorem A21{n:Nd}(h:PS n):∀(a:Nd)(g:Gr),g.pt<g.pts→g.le (gS n a g) (bG (wN n)):=by
 induction h with
 |set s b h hb=>intro a g hp;rw[Z5];exact(Ly _ _ hp).up (by simp only[wN,bG];omega)
 |put s b c h hb hc=>intro a g hp;rw[Z4];exact(Ly _ _ hp).up (by simp only[wN,bG];omega)
 |read s h=>intro a g hp;rw[Vk];exact(Ly _ _ hp).up (by simp only[wN,bG];omega)
 |ifs c l l' hc hl hl' ihl ihl'=>intro a g hp;rw[Ae7];exact(A3g (Anp ihl Cg) (Anp ihl' Cg) hp).up (by simp only[wN,wL,bG,Ww];omega)
 |whil c l hc hl ihl=>intro a g hp;rw[Ae8];exact(A4b (Anp ihl Cg) hp).up (by simp only[wN,wL,bG,Ww];omega)
 |check c hc=>intro a g hp;rw[Qk];exact(Ly _ _ hp).up (by simp only[wN,bG];omega)
 |skip=>intro a g hp;rw[Vl];exact(Ly _ _ hp).up (by simp only[wN,wL,bG,Ww];omega)
 |stop=>intro a g hp;rw[Vm];exact(Ayz hp).up (by simp only[wN,wL,bG,Ww];omega)
theorem Mn{l:List Nd}(h:∀x,x∈l→PS x)(a:Nd)(g:Gr)(hp:g.pt<g.pts):g.le (gL l a g) (bG (wL l)):=Anp (fun x hx=>A21 (h x hx)) a g hp
end Go.V
namespace Go.V
open Go
section
variable {X:Cx}{B:Bx}{E E':Env}{S S':St}{w w':World}{F F':C3}{a:Act}{N:Nat}{R:AE→St→Prop}{ops:Array Oper}{i:Nat}{o:Oper}{p q:Operand}
theorem Y7(hI:Inv X E S w){t v:Nat}{k:Tk}(hk:E.toks[t]?=some k)(hS:S.toks[t]?=some v):v=k.len:=by
 have h1:=hI.nt;have h2:(E.toks.map Tk.len)[t]?=some k.len:=by simp[hk]
 rw[h1,hS]at h2;exact Option.some.inj h2
theorem Inv.setZ(hI:Inv X E S w){tk:List Nat}(h:Inv X E' ⟨S.boxes,tk⟩ w')(hbx:E'.boxes=E.boxes)(hsame:∀(i b s:Nat),E.boxes[i]?=some (some (b,s))→w'.heap[b]?=w.heap[b]?){b r j:Nat}{rows:List (List AV)}{cs:List AV}{z z':AV}
 (hb:S.boxes[b]?=some rows)(hr:rows[r]?=some cs)(hc:cs[j]?=some z)(hz:∀u,Rel E w u z→Rel E' w' u z'):Inv X E' ⟨S.boxes.set b (rows.set r (cs.set j z')),tk⟩ w':=
 { h with
   nb:=by have:=h.nb;simpa using this
   box:=fun i blk sz rows' h1 h2=>by
    rcases Ep h2 with⟨rfl,rfl⟩|⟨_,h2⟩
    ·have h1o:=h1;rw[hbx]at h1o;obtain⟨arr,e,hh,hs,hl,hrel⟩:=hI.box i blk sz rows h1o hb;obtain⟨arr1,e1,hh1,hs1,hl1,hrel1⟩:=h.box i blk sz rows h1 hb;have:=hsame _ _ _ h1o;rw[hh,hh1]at this;cases this;refine⟨arr,e,hh1,by simpa using hs,fun q hq=>?_,fun k q p x v hk hp hv=>?_⟩
     ·rcases Wr hq with hq|rfl
      ·exact hl q hq
      ·simpa using hl cs (Bh hr)
     ·rcases Ep hk with⟨rfl,rfl⟩|⟨_,hk⟩
      ·rcases Ep hp with⟨rfl,rfl⟩|⟨_,hp⟩
       ·exact hz v (hrel k cs p _ v hr hc hv)
       ·exact hrel1 k cs p x v hr hp hv
      ·exact hrel1 k q p x v hk hp hv
    ·exact h.box i blk sz rows' h1 h2 }
theorem Aeu(hI:Inv X E S w){v:Value}(h:Rel E w v (.sl [] .tight)):Rel (E.mint 0) w v (.psl [] S.toks.length 0):=by
 have hl:S.toks.length=E.toks.length:=by rw[←hI.nt];simp
 cases h with
 |sl _ _ a n cap b o sz vals hn hx ha hsz hm hc hr hs hcap=>
  subst hn;exact .psl [] _ 0 a _ cap ⟨0,none⟩ sz vals rfl hx hcap (by rw[hl];exact getElem?_snoc_new _ _) (Bo _) (fun r hr=>by cases hr) (fun _=>⟨rfl,hs⟩) (fun i j r x h=>by simp at h) (fun r hr=>by cases hr)
theorem Xz{K:List Item}(b r j:Nat){m:Nat}{rows:List (List AV)}{cs:List AV}{bx:List (List (List AV))}{tk:List Nat}(hk:AK X B K F ⟨bx,tk⟩ R)(hb:S.boxes[b]?=some rows:=by rfl)(hr:rows[r]?=some cs:=by rfl)
 (hc:cs[j]?=some (.sl [] .tight):=by rfl)(hn:S.toks.length=m:=by rfl)(hbx:S.boxes.set b (rows.set r (cs.set j (.psl [] m 0)))=bx:=by rfl)(htk:S.toks++[0]=tk:=by rfl):AK X B K F S R:=by
 subst hn;subst hbx;subst htk;intro E w a b' cs' hI hF hn hm hb';have ev:=L1 E w 0;have nt:E.toks.length=S.toks.length:=by rw[←hI.nt];simp
 exact Fin.from (Steps.refl _ _) (ev.weaken (by rw[hI.nb];exact hn) (by omega)) (hk (E.mint 0) w a b' cs' (hI.setZ (hI.mint 0) rfl (fun _ _ _ _=>rfl) hb hr hc fun u hu=>Aeu hI hu) (hF.mint 0) (by simpa using hn) (by simp;omega) hb')
theorem Abw{t e tk v n:Nat}{ik:IntKind}{y ye:Ty}{rows:List (List AV)}(hn:n<rows.length)(hS:S.toks[tk]?=some v)(hl:∀r,r∈rows→r.length=ye.size)(ho:ops[i]?=some o:=by rfl)(hw:A6 ops F o=some true:=by rfl)
 (hop:o.op=.indexAddr t p q:=by rfl)(hp:Dt X F p=some (.psl rows tk v):=by rfl)(hq:Dt X F q=some (.val (.int ik n)):=by rfl)(hy:X.ty t=some y:=by rfl)(hyk:y.k=.slc e:=by rfl)(hye:X.ty e=some ye:=by rfl) :
 Ndo X N ops i o F (.pp rows tk v n 0) S S:=by
 refine Df ho hw fun F' E w a hc hI hF=>?_;rw[hop]at hc;have h1:=Ak hI hF ((hc p (by simp[Op.operands])).trans hp);have h2:=Ak hI hF ((hc q (by simp[Op.operands])).trans hq);obtain⟨d,hdd,hd2⟩:=(X.ty_ok t y hy).agg;simp only[hyk]at hd2;obtain⟨rfl,ye',hye',hne⟩:=hd2;rw[hye]at hye';cases hye';cases hh2:a.eval q<;>rw[hh2]at h2<;>cases h2;generalize hh1:a.eval p=u at h1;have h1':=h1;cases h1 with
 |psl _ _ _ ad m cap k sz vals hm hx hcap hk hv hsz hpv hr hf=>
  have hpv:=hpv (Y7 hI hk hS);obtain⟨kl,ksp⟩:=k;cases ksp with
  |none=>obtain⟨h,_⟩:=hpv;omega
  |some q'=>
   obtain⟨b,c,s⟩:=q';obtain⟨_,rfl,rfl,rfl,_⟩:=hpv;refine⟨.pointer (some ⟨b,n*ye.size,none⟩),?_,?_⟩
   ·have hin:(n:Int)<(m:Int):=by omega
    simp[execOp,hop,hh1,hh2,Instr.indexAt,asIntOf,run_underlying hdd,hin,De hye,F9];intro h;omega
   ·have:=Rel.pp (E:=E) (w:=w) rows tk v n 0 b ye.size m c h1' hn hl;simpa using this
theorem Avw{t tk v j o':Nat}{y:Ty}{r:List AV}{rows:List (List AV)}{x:AV}(hr:rows[j]?=some r)(hS:S.toks[tk]?=some v)(hl:o'+y.size≤r.length)(ho:ops[i]?=some o:=by rfl)(hw:A6 ops F o=some true:=by rfl)
 (hop:o.op=.load t p:=by rfl)(hp:Dt X F p=some (.pp rows tk v j o'):=by rfl)(hy:X.ty t=some y:=by rfl)(hx:V6 (Gd y.k) ((r.drop o').take y.size)=some x:=by rfl):Ndo X N ops i o F x S S:=by
 refine Df ho hw fun F' E w a hc hI hF=>?_;rw[hop]at hc;have h1:=Ak hI hF ((hc p (by simp[Op.operands])).trans hp);obtain⟨b,sz,n,cap,hu,hrel,hi,hsz⟩:=h1.pp_inv;generalize hU:Value.slice (some ⟨b,0,none⟩) n cap=U at hrel;cases hrel with
 |psl _ _ _ a0 n0 cap0 k sz' vals hm hx hcap hk hv hsz' hpv hrr hf=>
  cases hU;have hpv:=hpv (Y7 hI hk hS);obtain⟨kl,ksp⟩:=k;cases ksp with
  |none=>obtain⟨h,_⟩:=hpv;omega
  |some q'=>
   obtain⟨b',c,s⟩:=q';obtain⟨_,rfl,rfl,hab,arr,e,hh,hcs,hcl⟩:=hpv;simp only[Option.some.injEq,Addr.mk.injEq,and_true]at hab;subst hab;have hrl:=hsz r (Bh hr);have:sz'=sz:=by rw[←hsz' r (Bh hr),hrl]
   subst this;have hcell:∀jj,jj<y.size→w.cell? ⟨b,j*sz'+o'+jj,none⟩=some (vals j (o'+jj)):=fun jj hjj=>by
    have:=hcl j (o'+jj) (by omega) (by omega);rw[←Nx]at this;simp only[World.cell?,hh];exact this
   refine⟨_,by simp[execOp,hop,hu,Instr.loadAt,Instr.sureAddr,Ui hy _ hcell],Ag4 (y:=y) (vals:=fun jj=>vals j (o'+jj)) (cs:=(r.drop o').take y.size) (by simp;omega) (fun jj x hx=>?_) ‹_›⟩;have hj:jj<y.size:=by have:=Aa hx;simp at this;omega
   exact hrr j (o'+jj) r x hr (by simpa[Ma,hj]using hx)
end
section
variable {X:Cx}{B:Bx}{E E':Env}{S S':St}{w w':World}{F F':C3}{a:Act}{N:Nat}{R:AE→St→Prop}{ops:Array Oper}{i:Nat}{o:Oper}{p q:Operand}
theorem Agp{t tk v j o' b r g:Nat}{y:Ty}{x:AV}{xs row cs:List AV}{rows brows:List (List AV)}{bx:List (List (List AV))}{tk':List Nat}(hS:S.toks[tk]?=some v)(hrow:rows[j]?=some row)(hl:o'+xs.length≤row.length)
 (hflat:∀z,z∈xs→NoT z)(hb:S.boxes[b]?=some brows)(hr:brows[r]?=some cs)(hg:cs[g]?=some (.psl rows tk v))
 (hbx:S.boxes.set b (brows.set r (cs.set g (.psl (rows.set j (row.take o'++xs++row.drop (o'+xs.length))) tk (v+1))))=bx)(htk:S.toks.set tk (v+1)=tk')(ho:ops[i]?=some o)(hw:A6 ops F o=some true)
 (hop:o.op=.store t p q)(hp:Dt X F p=some (.pp rows tk v j o'))(hq:Dt X F q=some x)(hy:X.ty t=some y)(hxs:cellsOf x=some xs)(hxl:xs.length=y.size):Ndo X N ops i o F .junk S ⟨bx,tk'⟩:=by
 subst hbx;subst htk;intro F' E w a hlk hI hF;have hlo:=Gs hlk;rw[hop]at hlo;have r1:=Ak hI hF ((Di (X:=X) (F:=F) (F':=F') (o:=p) fun s hs=>hlo s (by simp[Op.operands,hs])).trans hp);have r2:=Ak hI hF ((Di (X:=X) (F:=F) (F':=F') (o:=q) fun s hs=>hlo s (by simp[Op.operands,hs])).trans hq);generalize hva:a.eval q=u2 at r2;obtain⟨blk,sz,n,cap,hu,hrel,hi,hsz⟩:=r1.pp_inv;obtain⟨hs,hrx,hone⟩:=Hi r2 hxs;generalize hU:Value.slice (some ⟨blk,0,none⟩) n cap=U at hrel;have hrel0:=hrel;cases hrel with
 |psl _ _ _ a0 n0 cap0 k sz' vals hm hx hcap hk hv hsz' hpv hrr hf=>
  cases hU;have hcur:=Y7 hI hk hS;have hpv:=hpv hcur;obtain⟨kl,ksp⟩:=k;cases ksp with
  |none=>obtain⟨h,_⟩:=hpv;omega
  |some q'=>
   obtain⟨b',c,s⟩:=q';obtain⟨hn0,rfl,rfl,hab,arr,e,hh,hcs,hcl⟩:=hpv;simp only[Option.some.injEq,Addr.mk.injEq,and_true]at hab;subst hab;have hrl:=hsz row (Bh hrow);have:sz'=sz:=by rw[←hsz' row (Bh hrow),hrl]
   subst this;simp only at hcur;subst hcur;have hjl:=Aa hrow;have hvl:u2.cells.toList.length=xs.length:=by simpa using hs
   have hin:j*sz'+o'+xs.length≤arr.toList.length:=by
    have:(j+1)*sz'≤c*sz':=Tp sz' (by omega);rw[Rf,Nat.one_mul]at this;simp;omega
   have hst:=run_storeCells_at X.P blk (j*sz'+o') e u2.cells.toList 0 arr w hh (by simp at hin⊢;omega) (fun u hu=>hone u (by simpa using hu));simp only[Pt]at hst;generalize harr:(arr.toList.take (j*sz'+o')++u2.cells.toList++arr.toList.drop (j*sz'+o'+u2.cells.toList.length)).toArray=arr' at hst;have hasz:arr'.size=arr.size:=by
    subst harr;have:=K5 arr.toList u2.cells.toList (j*sz'+o') (by omega);rw[Abj,this];simp
   have hat:=setRow_heap w blk arr arr' e _ hh;have hoth:∀q,q≠blk→(w.setRow blk arr').heap[q]?=w.heap[q]?:=fun q hq=>setRow_other w blk q _ (by omega);have hbw:blk<w.heap.size:=hI.own_lt (.inr ⟨tk,_,c,0,hk⟩);obtain⟨ev,hI',_⟩:=Nj (w':=w.setRow blk arr') hI (t:=tk) (n:=v) (m:=v+1) (b:=blk) (c:=c) (sz:=0) hk rfl (by omega) (fun h=>absurd rfl h) rfl rfl rfl (by simp) (fun q _ hq=>hoth q hq) (.inr rfl) (by simpa using hbw)
    (fun o v ho h=>by omega) ⟨_,_,hat,fun h=>absurd rfl h⟩ (fun q e he=>Ps (fun h=>by subst h;exact⟨_,_,_,_,hh,hat⟩) (hoth q) he)
   have hsz2:u2.cells.size=y.size:=by omega
   refine Does.val (v:=undef) ho (Cm hF (by rw[Cw hlk];exact hw)) (by simp[execOp,hop,hu,hva,Instr.storeAt,Instr.sureAddr,storeVar,De hy,hsz2,hst]) (.inr ⟨rfl,rfl⟩)
    ⟨E.setTok tk ⟨v+1,some (blk,c,0)⟩,?_,ev,.junk _⟩
   refine hI.setZ hI' rfl (fun i b s h=>hoth b fun hb'=>hI.bt i tk b s v c 0 h (hb'▸hk)) hb hr hg fun u0 hu0=>?_;have hu0':=hu0;cases hu0 with
   |psl _ _ _ a1 n1 cap1 k1 sz1 vals1 hm1 hx1 hcap1 hk1 hv1 hsz1 hpv1 hrr1 hf1=>
    rw[hk]at hk1;cases hk1;obtain⟨_,_,rfl,rfl,arr1,e1,hh1,hcs1,hcl1⟩:=hpv1 rfl;rw[hh]at hh1;cases hh1;have:sz1=sz':=by rw[←hsz1 row (Bh hrow),hrl]
    subst this;have hrowlen:(row.take o'++xs++row.drop (o'+xs.length)).length=sz1:=by rw[K5 row xs o' hl,hrl]
    have hget:∀i' j',i'<n1→j'<sz1→i'*sz1+j'<arr'.size:=fun i' j' hi' hj'=>by
     have h1:=Ig (n:=n1) hi' hj';have h2:n1*sz1≤c*sz1:=Tp _ (by omega);omega
    refine .psl _ tk (v+1) _ n1 c ⟨v+1,some (blk,c,0)⟩ sz1 (fun i' j'=>arr'.getD (i'*sz1+j') default) (by simpa using hm1) hx1 hcap1 (by simp[Env.setTok,Aa hk]) (Bo _) (fun r' hr'=>?_)
     (fun _=>⟨by omega,rfl,rfl,rfl,arr',e,hat,by rw[hasz];exact hcs,fun i' j' hi' hj'=>by simp[Array.getD,hget i' j' hi' hj']⟩) (fun i' j' r' x' hi' hj'=>?_) (fun r' hr' z hz=>?_)
    ·rcases Wr hr' with h|rfl
     ·exact hsz1 r' h
     ·exact hrowlen
    ·have hil:i'<rows.length:=by have:=Aa hi';simpa using this
     have hjl':j'<sz1:=by
      have:=Aa hj';rcases Ep hi' with⟨_,rfl⟩|⟨_,h⟩
      ·omega
      ·have:=hsz1 r' (Bh h);omega
     have hlt:=hget i' j' (by omega) hjl';have hval:arr'.getD (i'*sz1+j') default=arr'[i'*sz1+j']:=by simp[Array.getD,hlt]
     rw[hval];have hu':(arr.toList.take (j*sz1+o')++u2.cells.toList++arr.toList.drop (j*sz1+o'+u2.cells.toList.length))[i'*sz1+j']?=some arr'[i'*sz1+j']:=by
      rw[←Rc,harr];simp[hlt]
     rw[K4 _ _ _ _ (by omega)]at hu';have hold:∀(r0:List AV),rows[i']?=some r0→r0[j']?=some x'→arr.toList[i'*sz1+j']?=some arr'[i'*sz1+j']→Rel (E.setTok tk ⟨v+1,some (blk,c,0)⟩) (w.setRow blk arr') arr'[i'*sz1+j'] x':=fun r0 h1 h2 h3=>by
      have h4:=hcl1 i' j' (by omega) hjl';rw[Tc,h4]at h3;rw[←Option.some.inj h3];exact(hrr1 i' j' r0 x' h1 h2).step ev
     rcases Ep hi' with⟨rfl,rfl⟩|⟨hne,h⟩
     ·rw[K4 _ _ _ _ hl]at hj';split at hj'
      ·rename_i hjj;rw[if_pos (by omega),show i'*sz1+j'-(i'*sz1+o')=j'-o' by omega]at hu';exact(hrx (j'-o') _ x' (by simpa using hu') hj').step ev
      ·rename_i hjj;rw[if_neg (by omega)]at hu';exact hold row hrow hj' hu'
     ·have:=Aaq hjl' hne;rw[if_neg (by omega)]at hu';exact hold r' h hj' hu'
    ·rcases Wr hr' with h|rfl
     ·exact hf1 r' h z hz
     ·rcases zzq47.1 hz with hz|hz
      ·rcases zzq47.1 hz with hz|hz
       ·exact hf1 row (Bh hrow) z (Agd hz)
       ·exact hflat z hz
      ·exact hf1 row (Bh hrow) z (List.mem_of_mem_drop hz)
end
section
variable {X:Cx}{B:Bx}{E E':Env}{S S':St}{w w':World}{F F':C3}{a:Act}{N:Nat}{R:AE→St→Prop}{ops:Array Oper}{i:Nat}{o:Oper}{p q:Operand}
theorem Aea(hI:Inv X E S w){t ver:Nat}{tt tx ty e e':TypeId}{ye:Ty}(hu:X.P.underlying tt=some (.slice e))(hk:X.P.underlying tx=some (.slice e'))(hye:X.ty e=some ye)(hne0:ye.size≠0)
 {rows new:List (List AV)}{sp:Sp}{u v:Value}(hp:Rel E w u (.psl rows t ver))(hq:Rel E w v (.sl new sp))(hS:S.toks[t]?=some ver)(hflat:∀r,r∈new→∀x,x∈r→NoT x)
 (hz:∀r,r∈rows→r.length=ye.size)(hz':∀r,r∈new→r.length=ye.size)(hc:∀r,r∈new→∀x,x∈r→Iy x=true)(hne:new≠[])(hb:rows.length+new.length≤100000000000) :
 ∃r E' w',(Builtin.append_ #[tt,tx] ty #[u,v]).run X.P w=.ok r w'∧Inv X E' ⟨S.boxes,S.toks.set t (ver+1)⟩ w'∧Evol E w E' w' E.boxes.length E.toks.length ∧
  Rel E' w' r (.psl (rows++new) t (ver+1)):=by
 obtain⟨i,z,hi,hsz,hby,hzv,hzc,hzl,_⟩:=(X.ty_ok e ye hye).info;have hnew:0<new.length:=zzq67.2 hne;obtain⟨vals2,hsrc,hr2⟩:=Amp hk hq hz' hc hne;rw[←hsz]at hsrc;generalize hR:rows=rows0 at hp;cases hp with
 |psl _ _ _ a n cap k sz vals hn hx hcap hk1 hv hszr hpv hr hf=>
 subst hR;subst hn;have hcur:=Y7 hI hk1 hS;have hpv:=hpv hcur;have hkt:=Aa hk1;have hvals:∀(vals':Nat→Nat→Value),(∀i j,i<rows.length→vals' i j=vals i j)→(∀i j,rows.length≤i→vals' i j=vals2 (i-rows.length) j)→∀{E':Env} {w':World},Evol E w E' w' E.boxes.length E.toks.length →
  ∀(i j:Nat) (r:List AV) (x:AV),(rows++new)[i]?=some r→r[j]?=some x→Rel E' w' (vals' i j) x:=fun vals' h1 h2 {E' w'} ev i j r x hi hj=>by
  rcases Gu i rows.length with h|h
  ·rw[Cr h]at hi;rw[h1 i j h];exact(hr i j r x hi hj).step ev
  ·rw[Gj h]at hi;rw[h2 i j h];exact(hr2 _ j r x hi hj).step ev
 have hall:∀r,r∈rows++new→r.length=ye.size:=fun r h=>by
  rcases zzq47.1 h with h|h
  ·exact hz r h
  ·exact hz' r h
 have hfl':∀r,r∈rows++new→∀x,x∈r→NoT x:=fun r h x hx'=>by
  rcases zzq47.1 h with h|h
  ·exact hf r h x hx'
  ·exact hflat r h x hx'
 have hlen:(rows++new).length=rows.length+new.length:=by simp
 have hszeq:rows.length≠0→sz=i.size:=fun h=>by
  obtain⟨r0,hr0⟩:=Ab rows (i:=0) (by omega);rw[←hszr r0 (Bh hr0),hz r0 (Bh hr0),hsz]
 have grow:cap<rows.length+new.length→∃r E' w',(Builtin.append_ #[tt,tx] ty #[.slice a rows.length cap,v]).run X.P w=.ok r w'∧Inv X E' ⟨S.boxes,S.toks.set t (ver+1)⟩ w'∧Evol E w E' w' E.boxes.length E.toks.length ∧
  Rel E' w' r (.psl (rows++new) t (ver+1)):=fun hg=>by
  have hold:(Builtin.firstCells i.size rows.length (.slice a rows.length cap)).run X.P w.drew=.ok (D2 rows.length i.size vals).toArray w.drew:=by
   rcases Nat.eq_zero_or_pos rows.length with h0|h0
   ·rw[h0];have:D2 0 i.size vals=[]:=by simp[D2]
    rw[this];cases a with
    |none=>exact run_firstCells_none _ _ _ _ _
    |some a0=>exact run_firstCells_some _ _ _ _ _ _ _ (by simp) (fun j v hj=>by simp at hj)
   ·have hs':=hszeq (by omega);subst hs';obtain⟨kl,ksp⟩:=k;cases ksp with
    |none=>obtain⟨h,_⟩:=hpv;omega
    |some q'=>
     obtain⟨b,c,s⟩:=q';obtain⟨_,rfl,rfl,rfl,arr,e1,hh,hcs,hcl⟩:=hpv;refine run_firstCells_some _ _ _ _ _ _ _ (Ee _ _ _) (fun q v hq=>?_);obtain⟨i',j',hi',hj',rfl,he⟩:=Yj (vals:=vals) (by have:=Aa hq;rw[Ee]at this;exact this);rw[he]at hq;cases hq;rw[F9,Jt];have:=hcl i' j' hi' hj';have hdr:w.drew.heap[b]?=w.heap[b]?:=rfl;simp only[World.cell?,hdr,hh];exact this
  have hby':(rows.length+new.length)*i.bytes≤140737488355328:=Nt (Nat.mul_le_mul_left _ hby) (by omega);have hrun:=run_append_grow_src w tt tx ty e i z hu hi hzv a rows.length cap _ hold v new.length _ hsrc hg (by omega) (growslice_fits hg hby');have hcc:=grownCap_ge w (rows.length+new.length) cap e;generalize grownCap w (rows.length+new.length) cap e=cc at hrun hcc;have hfl:∀(i' j':Nat),i'<rows.length+new.length→j'<ye.size→(D2 rows.length i.size vals++D2 new.length i.size vals2)[i'*ye.size+j']?=some (if i'<rows.length then vals i' j' else vals2 (i'-rows.length) j'):=fun i' j' hi' hj'=>by
   rw[hsz];by_cases h:i'<rows.length
   ·have:=Ig h hj';rw[Cr (by rw[Ee];exact this),if_pos h];exact La h hj'
   ·have hle:rows.length*ye.size≤i'*ye.size:=Tp _ (by omega);rw[Gj (by rw[Ee];omega),if_neg h,Ee];rw[show i'*ye.size+j'-rows.length*ye.size=(i'-rows.length)*ye.size+j' by rw[Nat.sub_mul];omega];exact La (by omega) hj'
  have hcs:((D2 rows.length i.size vals++D2 new.length i.size vals2).toArray++Builtin.zeroCells z.cells (cc-(rows.length+new.length))).size=cc*ye.size:=by
   have hzs:z.cells.size=ye.size:=by rw[←hzl,←hzc];simp
   have:(Builtin.zeroCells z.cells (cc-(rows.length+new.length))).size=(cc-(rows.length+new.length))*ye.size:=by
    simp[Builtin.zeroCells,hzs]
   rw[Array.size_append,this,Abj,Es,Ee,Ee,hsz,←Rf,←Rf];congr 1;omega
  have hpush:∀o:Obj,(w.drew.alloc o).heap=w.heap.push o:=fun _=>rfl;have hheap:(w.drew.alloc (.cells ((D2 rows.length i.size vals++D2 new.length i.size vals2).toArray++Builtin.zeroCells z.cells (cc-(rows.length+new.length))) e)).heap[w.heap.size]? =
   some (.cells ((D2 rows.length i.size vals++D2 new.length i.size vals2).toArray++Builtin.zeroCells z.cells (cc-(rows.length+new.length))) e (0,0)):=by rw[hpush];simp
  obtain⟨ev,hI',_⟩:=Nj (w':=w.drew.alloc (.cells ((D2 rows.length i.size vals++D2 new.length i.size vals2).toArray++Builtin.zeroCells z.cells (cc-(rows.length+new.length))) e)) hI (t:=t) (n:=ver) (m:=ver+1)
   (b:=w.heap.size) (c:=cc) (sz:=0) hk1 hcur.symm (by omega) (fun h=>absurd rfl h) rfl rfl rfl (by rw[hpush];simp) (fun q hq _=>by rw[hpush,Wq hq];simp[hq]) (.inl rfl) (by rw[hpush];simp)
   (fun o v _ h=>by have:=Jf h;omega) ⟨_,e,hheap,fun h=>absurd rfl h⟩ (Evol.push (E:=E) (w:=w) ⟨_,hpush _⟩ rfl rfl rfl 0 0).ty
  refine⟨_,_,_,hrun,hI',ev,?_⟩;refine .psl (rows++new) t (ver+1) _ _ cc ⟨ver+1,some (w.heap.size,cc,0)⟩ ye.size (fun i j=>if i<rows.length then vals i j else vals2 (i-rows.length) j) hlen (by unfold O0;omega) hcc (by simp[Env.setTok,hkt]) (Bo _) hall
   (fun _=>⟨by omega,rfl,rfl,rfl,_,e,hheap,hcs,fun i' j' hi' hj'=>?_⟩) (hvals _ (fun i' j' h=>if_pos h) (fun i' j' h=>if_neg (by omega)) ev) hfl'
  have h:=hfl i' j' hi' hj';have hlt:=Aa h;rw[Zd (by simpa using hlt),Rc];exact h
 by_cases hg:cap<rows.length+new.length
 ·exact grow hg
 ·obtain⟨kl,ksp⟩:=k;cases ksp with
  |none=>obtain⟨h1,h2⟩:=hpv;omega
  |some q=>
   obtain⟨b',c',s'⟩:=q;obtain⟨hn0,rfl,rfl,rfl,cur,te,hh,hcs,hcl⟩:=hpv;have hs':=hszeq hn0;subst hs';simp only at hcur;subst hcur;have hsub:(rows.length+new.length)*i.size≤c'*i.size:=Tp _ (by omega);rw[Rf]at hsub;have hfit:rows.length*i.size+(D2 new.length i.size vals2).length≤cur.size:=by rw[Ee,hcs];exact hsub
   have hrun:=Pz tt tx ty e i hu hi b' rows.length c' v new.length _ hsrc (by omega) hh hfit;have hfl:=Ee new.length i.size vals2;have hat:=setRow_heap w b' cur (cur.toList.take (rows.length*i.size)++D2 new.length i.size vals2++cur.toList.drop (rows.length*i.size+(D2 new.length i.size vals2).length)).toArray te _ hh;have hoth:∀q,q≠b'→(w.setRow b' (cur.toList.take (rows.length*i.size)++D2 new.length i.size vals2++cur.toList.drop (rows.length*i.size+(D2 new.length i.size vals2).length)).toArray).heap[q]?=w.heap[q]?:=
    fun q hq=>setRow_other w b' q _ (by omega)
   have hspl:=fun q=>K4 cur.toList (D2 new.length i.size vals2) (rows.length*i.size) q (by simpa using hfit);have hbw:b'<w.heap.size:=hI.own_lt (.inr ⟨t,_,c',0,hk1⟩);obtain⟨ev,hI',_⟩:=Nj (w':=w.setRow b' (cur.toList.take (rows.length*i.size)++D2 new.length i.size vals2++cur.toList.drop (rows.length*i.size+(D2 new.length i.size vals2).length)).toArray) hI (t:=t) (n:=ver) (m:=ver+1)
    (b:=b') (c:=c') (sz:=0) hk1 rfl (by omega) (fun h=>absurd rfl h) rfl rfl rfl (by simp) (fun q _ hq=>hoth q hq) (.inr rfl) (by simpa using hbw)
    (fun o v ho h=>by omega) ⟨_,_,hat,fun h=>absurd rfl h⟩ (fun q e he=>Ps (fun h=>by subst h;exact⟨_,_,_,_,hh,hat⟩) (hoth q) he)
   refine⟨_,_,_,hrun,hI',ev,?_⟩;have hnm:∀i' j',i'<rows.length+new.length→j'<i.size→i'*i.size+j'<(rows.length+new.length)*i.size:=fun i' j' hi' hj'=>Ig hi' hj';refine .psl (rows++new) t (ver+1) _ _ c' ⟨ver+1,some (b',c',0)⟩ i.size (fun i j=>if i<rows.length then vals i j else vals2 (i-rows.length) j) hlen (by unfold O0;omega) (by omega) (by simp[Env.setTok,hkt]) (Bo _) (fun r hr=>by rw[hall r hr,hsz])
    (fun _=>⟨by omega,rfl,rfl,rfl,_,te,hat,by rw[Abj,K5 _ _ _ (by simpa using hfit)];simpa using hcs,fun i' j' hi' hj'=>?_⟩) (hvals _ (fun i' j' h=>if_pos h) (fun i' j' h=>if_neg (by omega)) ev) hfl'
   rw[Rc,hspl];have h4:=hnm i' j' hi' hj';rw[Rf]at h4;by_cases h:i'<rows.length
   ·have h5:=Ig h hj';dsimp only;rw[if_neg (by omega),if_pos h,Tc];exact hcl i' j' h hj'
   ·have hle:rows.length*i.size≤i'*i.size:=Tp _ (by omega);dsimp only;rw[if_pos ⟨by omega,by omega⟩,if_neg h];rw[show i'*i.size+j'-rows.length*i.size=(i'-rows.length)*i.size+j' by rw[Nat.sub_mul];omega];exact La (by omega) hj'
theorem M7{c:Call}{t ver tt tx e e':Nat}{y yx ye:Ty}{rows new:List (List AV)}{sp:Sp}{res:List (List AV)}{tk:List Nat}(hS:S.toks[t]?=some ver)(hl:∀r,r∈rows→r.length=ye.size)(hflat:∀r,r∈new→∀x,x∈r→NoT x)
 (hb:rows.length+new.length≤100000000000)(hres:rows++new=res)(htk:S.toks.set t (ver+1)=tk)(ho:ops[i]?=some o)(hw:A6 ops F o=some true)(hop:o.op=.call c)(hcal:c.callee=.builtin .append)(hargs:c.args.toList=[p,q])(htys:c.argTypes.toList=[tt,tx])
 (hp:Dt X F p=some (.psl rows t ver))(hq:Dt X F q=some (.sl new sp))(hy:X.ty tt=some y)(hyk:y.k=.slc e)(hye:X.ty e=some ye)(hyx:X.ty tx=some yx)(hyxk:yx.k=.slc e')
 (hl':Ka ye.size new=true)(hc:M8 new=true)(hne:Nat.ble 1 new.length=true):Ndo X N ops i o F (.psl res t (ver+1)) S ⟨S.boxes,tk⟩:=by
 subst hres;subst htk;intro F' E w a hlk hI hF;obtain⟨callee,args,argTypes⟩:=c;simp only at hcal hargs htys;subst hcal;have ha:args=#[p,q]:=by rw[←zzq34];exact hargs
 have ht:argTypes=#[tt,tx]:=by rw[←zzq34];exact htys
 subst ha;subst ht;have hlo:=Gs hlk;rw[hop]at hlo;have r1:=Ak hI hF ((Di (X:=X) (F:=F) (F':=F') (o:=p) fun s hs=>hlo s (by simp[Op.operands,Call.operands,hs])).trans hp);have r2:=Ak hI hF ((Di (X:=X) (F:=F) (F':=F') (o:=q) fun s hs=>hlo s (by simp[Op.operands,Call.operands,hs])).trans hq);obtain⟨d1,hd1,hk1⟩:=(X.ty_ok tt y hy).agg;simp only[hyk]at hk1;obtain⟨rfl,ye',hye',hne0⟩:=hk1;rw[hye]at hye';cases hye';obtain⟨d2,hd2,hk2⟩:=(X.ty_ok tx yx hyx).agg;simp only[hyxk]at hk2;obtain⟨rfl,_⟩:=hk2;obtain⟨v,E',w',h1,h2,h3,h4⟩:=Aea hI (ty:=o.type) hd1 hd2 hye hne0 r1 r2 hS hflat hl (Io.1 hl') (K6.1 hc) (fun h=>by rw[h]at hne;simp at hne) hb;exact Does.val ho (Cm hF (by rw[Cw hlk];exact hw)) (by simp[execOp,hop,resolve,invoke,builtin,h1]) (.inl rfl) ⟨E',h2,h3,h4⟩
class TokC (tk:List Nat)(t v:Nat):Prop where
 h:tk[t]?=some v
instance{v:Nat}{l:List Nat}:TokC (v::l) 0 v:=⟨rfl⟩
instance{x v t:Nat}{l:List Nat} [h:TokC l t v]:TokC (x::l) (t+1) v:=⟨by simpa using h.h⟩
instance{bx:List (List (List AV))}{tk:List Nat}{n m t v:Nat}{rows:List (List AV)} [h1:TokC tk t v] [h2:LeC m t] [h3:OKR n m rows]:FzC ⟨bx,tk⟩ n m (.psl rows t v) (.sl rows .no):=⟨.psl rows t v h2.h h1.h h3.ok⟩
end
end Go.V
namespace Go.V
open Go Go.Proofs Go.Proofs.Tryz
def H4(e:Eg):List AV:=vi e.f::vi e.t::vi e.k::vb e.y::Af e.n
def Fq(l:List Eg):List (List AV):=l.map H4
theorem K9(l:List Eg):(Fq l).length=l.length:=by simp[Fq]
theorem T8(l:List Eg):∀r,r∈Fq l→r.length=8:=fun r h=>by obtain⟨e,_,rfl⟩:=zzq68.1 h;rfl
theorem Ac0(l:List Eg)(e:Eg):Fq l++[H4 e]=Fq (l++[e]):=by simp[Fq]
theorem Ul(n:Nd):∀x,x∈Af n→Flat x:=fun x hx=>by
 have h:OKL 0 0 (Af n):=inferInstance;exact(h.ok x hx).flat rfl rfl
theorem Ae0(e:Eg):∀x,x∈H4 e→Flat x:=fun x hx=>by
 simp only[H4,zzq13]at hx;rcases hx with rfl|rfl|rfl|rfl|hx
 ·exact .val _
 ·exact .val _
 ·exact .val _
 ·exact .val _
 ·exact Ul _ x hx
theorem Acz(e:Eg):∀r,r∈[H4 e]→∀x,x∈r→NoT x:=fun r hr x hx=>by simp at hr;subst hr;exact(Ae0 e x hx).noT
instance{n m:Nat}{l:List Eg}:OKR n m (Fq l):=⟨fun r hr x hx=>by obtain⟨e,_,rfl⟩:=zzq68.1 hr;exact(Ae0 e x hx).ok⟩
abbrev mbx(p:Nat)(l:List Eg):List (List AV):=[[vi p,.psl (Fq l) 0 l.length]]
theorem Jh(p:Nat)(l:List Eg)(h:p≤1000000000000):Hands X 159 [.ptr 0 0 0] ⟨[mbx p l],[l.length]⟩ (vi p) ⟨[mbx (p+1) l],[l.length]⟩:=by
 refine Hands.run func159 ?_;have e1:IntKind.i64.wrap ((p:Int)+1)=((p+1:Nat):Int):=(Ac (by omega) (by omega)).trans (by omega);have e2:IntKind.i64.wrap (IntKind.i64.wrap ((p:Int)+1)-1)=(p:Int):=by rw[e1];exact(Ac (by omega) (by omega)).trans (by omega)
 refine Ie 2 (vi p) ?_ (Ct e2);refine Ba ⟨[mbx (p+1) l],[l.length]⟩ ?_ (by rw[mbx,←e1]);exact Br func159 rfl rfl
theorem Asw(p:Nat)(l:List Eg)(e:Eg)(hw:wN e.n≤1000000000)(hl:l.length≤1000000000) :
 Hands X 160 [.ptr 0 0 0,vi e.f,vi e.t,vi e.k,vb e.y,.agg (Af e.n)] ⟨[mbx p l],[l.length]⟩ (.tup []) ⟨[mbx p (l++[e])],[(l++[e]).length]⟩:=by
 refine Hands.run func160 ?_;refine D8 73728 ?_;refine Ci (Adj e.n hw) ?_;refine Ch (M7 (ver:=l.length) rfl (T8 l) (Acz e) ?_ (Ac0 l e) rfl rfl rfl rfl rfl rfl rfl rfl rfl rfl rfl rfl rfl rfl rfl rfl rfl) ?_
 ·rw[K9];simp;omega
 refine Ar ?_;refine Ar ?_;refine Ch (A8 rfl rfl rfl rfl rfl rfl rfl) ?_;refine B6 ?_;refine Ba ⟨[mbx p (l++[e]),[Af e.n]],[(l++[e]).length]⟩ ?_ (by simp);exact D6 func160 rfl rfl
structure Gb (g:Gr)(k:Nat):Prop where
 pt:g.pt<g.pts
 pts:g.pts+24*k≤100000000000
 es:g.es.length+24*k≤1000000000
theorem Gb.step{g g':Gr}{j k m:Nat}(h:Gb g m)(hl:g.le g' (bG j))(hm:j+k≤m):Gb g' k:=by
 obtain⟨l,h1,h2,_⟩:=hl.es;have:=hl.pts;have:=h.pts;have:=h.es;simp only[bG]at h2 this;refine⟨hl.pt,?_,?_⟩
 ·have:=hl.pts.2;simp only[bG]at this;omega
 ·rw[h1,Es];omega
theorem Gb.step1{g g':Gr}{j k m:Nat}(h:Gb g m)(hl:g.le g' j)(hj:j≤6*m)(hm:j+6*k≤6*m):Gb g' k:=by
 obtain⟨l,h1,h2,_⟩:=hl.es;have:=hl.pts;have:=h.pts;have:=h.es;refine⟨hl.pt,by omega,?_⟩;rw[h1,Es];omega
abbrev gSt(g:Gr):St:=⟨[mbx g.pts g.es],[g.es.length]⟩
def HSt(n:Nd):Prop:=∀(a:Nd)(g:Gr),Gb g (wN n)→Hands X 220 [.ptr 0 0 0,nd n,vi g.pt] (gSt g) (vi (gS n a g).pt) (gSt (gS n a g))
def HLs(l:List Nd):Prop:=∀(a:Nd)(g:Gr),Gb g (wL l)→Hands X 158 [.ptr 0 0 0,nd (.mk 30 [] 0 l),vi g.pt] (gSt g) (vi (gL l a g).pt) (gSt (gL l a g))
theorem Anq{l:List Nd}{i:Nat}{x:Nd}(hx:l[i]?=some x)(a:Nd)(g:Gr):gL (l.take (i+1)) a g=gS x ((l.take i).getLastD a) (gL (l.take i) a g):=by
 rw[G7,hx];simp only[Ad2];rw[Asu];rfl
theorem Ao4{l:List Nd}{i:Nat}{x:Nd}(hx:l[i]?=some x):wL (l.take i)+wN x≤wL l:=by
 have h:l.take (i+1)=l.take i++[x]:=by rw[G7,hx];rfl
 have h1:wL (l.take (i+1))+wL (l.drop (i+1))=wL l:=by rw[←Uy,Ad8]
 rw[h,Uy]at h1;simp only[wL]at h1;omega
theorem Ahb{l:List Nd}(hp:∀x,x∈l→PS x)(hs:∀x,x∈l→HSt x):HLs l:=by
 intro a g hb;have hlw:=Mr l;have hbe:=hb.es;refine Hands.run func158 ?_;refine Av (ι:=Nat) 2 1 (fun i=>i≤l.length) (fun i=>[(7,vi i),(0,.ptr 0 0 0),(2,vi (gL (l.take i) a g).pt),(4,.ptr 1 0 0)])
  (fun i=>⟨[mbx (gL (l.take i) a g).pts (gL (l.take i) a g).es,[Af (.mk 30 [] 0 l)]],[(gL (l.take i) a g).es.length]⟩) (fun i=>l.length-i) ?_ 0
  (Cc _) ⟨rfl,rfl,rfl,rfl,trivial⟩
 intro i hi IH;have hgi:g.le (gL (l.take i) a g) (bG (wL (l.take i))):=Mn (fun x hx=>hp x (Agd hx)) a g hb.pt;refine Dh (fun h=>?_) (fun h=>?_)
 ·have hlt:i<l.length:=by have:=A7 h;rw[Ad]at this;simp at this;omega
  obtain⟨x,hx⟩:=Ab l hlt;have hwt:=Ao4 hx;have hbi:Gb (gL (l.take i) a g) (wN x):=hb.step hgi hwt;refine B7 i (by omega) (Am (l:=l) hx) ?_;refine Ae (τ':=[0]) [0] [0] (hs x (Bh hx) ((l.take i).getLastD a) _ hbi) ?_;rw[←Anq hx];exact IH (i+1) hlt (by omega) _ _ ⟨vsx (by omega),rfl,rfl,rfl,trivial⟩ rfl rfl rfl
 ·have:i=l.length:=by have:=Bd h;rw[Ad]at this;simp at this;omega
  subst this;rw[I8]at hgi⊢;exact Br func158 rfl rfl
theorem Pl(p:Nat)(l:List Eg)(f t k:Int)(y:Bool)(n:Nd)(hw:wN n≤1000000000)(hl:l.length≤1000000000) :
 Hands X 160 [.ptr 0 0 0,vi f,vi t,vi k,vb y,nd n] ⟨[mbx p l],[l.length]⟩ (.tup []) ⟨[mbx p (l++[⟨f,t,k,y,n⟩])],[(l++[(⟨f,t,k,y,n⟩:Eg)]).length]⟩:=Asw p l ⟨f,t,k,y,n⟩ hw hl
theorem R7(p:Nat)(l:List Eg)(f t k:Int)(y:Bool)(hl:l.length≤1000000000) :
 Hands X 160 [.ptr 0 0 0,vi f,vi t,vi k,vb y,.agg [vi 0,str [],vi 0,.sl [] .no]] ⟨[mbx p l],[l.length]⟩ (.tup []) ⟨[mbx p (l++[⟨f,t,k,y,Cg⟩])],[(l++[(⟨f,t,k,y,Cg⟩:Eg)]).length]⟩:=Asw p l ⟨f,t,k,y,Cg⟩ (by show wN Cg≤1000000000;decide) hl
abbrev gS3(p:Nat)(es:List Eg)(n:Nd):St:=⟨[mbx p es,[Af n],[zN]],[es.length]⟩
set_option maxHeartbeats 2000000 in
theorem A0s{n:Nd}(h:PS n):HSt n:=by
 induction h with
 |set s x h hx=>
  intro a g hb;have b1:=hb.pts;have b2:=hb.es;refine Hands.run func220 ?_;rw[Z5];refine Ah ?_;refine Ah ?_;refine Ah ?_;refine Ae (τ':=[0]) [0] [0] (Jh g.pts g.es (by omega)) ?_;refine A1 ?_;refine Ae (τ':=[0]) [0] [0] (Pl (g.pts+1) g.es g.pt g.pts 1 false (.mk 21 s 0 [x]) (by omega) (by omega)) ?_;exact Br func220 rfl rfl
 |put s x y h hx hy=>
  intro a g hb;have b1:=hb.pts;have b2:=hb.es;refine Hands.run func220 ?_;rw[Z4];refine Ah ?_;refine Ah ?_;refine Ah ?_;refine Ae (τ':=[0]) [0] [0] (Jh g.pts g.es (by omega)) ?_;refine Ah ?_;refine A1 ?_;refine Ae (τ':=[0]) [0] [0] (Pl (g.pts+1) g.es g.pt g.pts 2 false (.mk 22 s 0 [x,y]) (by omega) (by omega)) ?_;exact Br func220 rfl rfl
 |read s h=>
  intro a g hb;have b1:=hb.pts;have b2:=hb.es;refine Hands.run func220 ?_;rw[Vk];refine Ah ?_;refine Ah ?_;refine Ah ?_;refine Ae (τ':=[0]) [0] [0] (Jh g.pts g.es (by omega)) ?_;refine Ah ?_;refine Ah ?_;refine A1 ?_;refine Ae (τ':=[0]) [0] [0] (Pl (g.pts+1) g.es g.pt g.pts 3 false (.mk 23 s 0 []) (by omega) (by omega)) ?_;exact Br func220 rfl rfl
 |ifs c l l' hc hl hl' ihl ihl'=>
  intro a g hb;have b1:=hb.pts;have b2:=hb.es;refine Hands.run func220 ?_;have hwc:wN c<wN (.mk 24 [] 0 [c,.mk 30 [] 0 l,.mk 30 [] 0 l']):=Jd (n:=.mk 24 [] 0 [c,.mk 30 [] 0 l,.mk 30 [] 0 l']) (by simp);have hws:wN (.mk 24 [] 0 [c,.mk 30 [] 0 l,.mk 30 [] 0 l'])=3+wN c+wL l+wL l':=by simp only[wN,wL,Ww];omega
  rw[Ae7];unfold gIf;refine Ah ?_;refine A1 ?_;refine Ae (τ':=[0]) [0] [0] (Jh g.pts g.es (by omega)) ?_;refine Ba (gS3 (g.pts+1) g.es (.mk 24 [] 0 [c,.mk 30 [] 0 l,.mk 30 [] 0 l'])) ?_;refine B7 0 (by omega) (Am (l:=[c,.mk 30 [] 0 l,.mk 30 [] 0 l']) rfl) ?_;refine Ae (τ':=[0]) [0] [0] (Pl (g.pts+1) g.es g.pt g.pts 4 true c (by omega) (by omega)) ?_;refine Ba (gS3 (g.pts+1) (g.es++[⟨g.pt,g.pts,4,true,c⟩]) (.mk 24 [] 0 [c,.mk 30 [] 0 l,.mk 30 [] 0 l'])) ?_;have l1:=P3 g.pt c true hb.pt;have c1:Gb (D5 g.pt c true g) (wL l):=hb.step1 l1 (by omega) (by omega);have a2:=Mn hl Cg _ c1.pt;have i1:Hands X 158 [.ptr 0 0 0,nd (.mk 30 [] 0 l),vi g.pts] ⟨[mbx (g.pts+1) (g.es++[⟨g.pt,g.pts,4,true,c⟩])],[(g.es++[(⟨g.pt,g.pts,4,true,c⟩:Eg)]).length]⟩ (vi (gL l Cg (D5 g.pt c true g)).pt) (gSt (gL l Cg (D5 g.pt c true g))):=Ahb hl ihl Cg (D5 g.pt c true g) c1;refine B7 1 (by omega) (Am (l:=[c,.mk 30 [] 0 l,.mk 30 [] 0 l']) rfl) ?_;refine Ae (τ':=[0]) [0] [0] i1 ?_;refine Ba (gS3 (gL l Cg (D5 g.pt c true g)).pts (gL l Cg (D5 g.pt c true g)).es (.mk 24 [] 0 [c,.mk 30 [] 0 l,.mk 30 [] 0 l'])) ?_;have l12:=l1.trans a2 (Bo _);generalize gL l Cg (D5 g.pt c true g)=g2 at *;have c2:Gb g2 (wL l'+1):=hb.step1 l12 (by simp only[bG];omega) (by simp only[bG];omega);have b3:=c2.pts;have b4:=c2.es;refine Ae (τ':=[0]) [0] [0] (Jh g2.pts g2.es (by omega)) ?_;refine Ba (gS3 (g2.pts+1) g2.es (.mk 24 [] 0 [c,.mk 30 [] 0 l,.mk 30 [] 0 l'])) ?_;refine B7 0 (by omega) (Am (l:=[c,.mk 30 [] 0 l,.mk 30 [] 0 l']) rfl) ?_;refine Ae (τ':=[0]) [0] [0] (Pl (g2.pts+1) g2.es g.pt g2.pts 4 false c (by omega) (by omega)) ?_;refine Ba (gS3 (g2.pts+1) (g2.es++[⟨g.pt,g2.pts,4,false,c⟩]) (.mk 24 [] 0 [c,.mk 30 [] 0 l,.mk 30 [] 0 l'])) ?_;have hp2:g.pt<g2.pts:=Mx hb.pt l12.pts.1;have l3:=P3 g.pt c false hp2;have c3:Gb (D5 g.pt c false g2) (wL l'):=c2.step1 l3 (by omega) (by omega);have a4:=Mn hl' Cg _ c3.pt;have i3:Hands X 158 [.ptr 0 0 0,nd (.mk 30 [] 0 l'),vi g2.pts] ⟨[mbx (g2.pts+1) (g2.es++[⟨g.pt,g2.pts,4,false,c⟩])],[(g2.es++[(⟨g.pt,g2.pts,4,false,c⟩:Eg)]).length]⟩ (vi (gL l' Cg (D5 g.pt c false g2)).pt) (gSt (gL l' Cg (D5 g.pt c false g2))):=Ahb hl' ihl' Cg (D5 g.pt c false g2) c3;refine B7 2 (by omega) (Am (l:=[c,.mk 30 [] 0 l,.mk 30 [] 0 l']) rfl) ?_;refine Ae (τ':=[0]) [0] [0] i3 ?_;refine Ba (gS3 (gL l' Cg (D5 g.pt c false g2)).pts (gL l' Cg (D5 g.pt c false g2)).es (.mk 24 [] 0 [c,.mk 30 [] 0 l,.mk 30 [] 0 l'])) ?_;have l34:=l3.trans a4 (Bo _);generalize gL l' Cg (D5 g.pt c false g2)=g4 at *;have c4:Gb g4 0:=c2.step1 l34 (by simp only[bG];omega) (by simp only[bG];omega);have b5:=c4.pts;have b6:=c4.es;have b7:=l34.es;refine Ae (τ':=[0]) [0] [0] (Jh g4.pts g4.es (by omega)) ?_;refine Ba (gS3 (g4.pts+1) g4.es (.mk 24 [] 0 [c,.mk 30 [] 0 l,.mk 30 [] 0 l'])) ?_;refine Ae (τ':=[0]) [0] [0] (R7 (g4.pts+1) g4.es g2.pt g4.pts 6 false (by omega)) ?_;refine Ba (gS3 (g4.pts+1) (g4.es++[⟨g2.pt,g4.pts,6,false,Cg⟩]) (.mk 24 [] 0 [c,.mk 30 [] 0 l,.mk 30 [] 0 l'])) ?_;refine Ae (τ':=[0]) [0] [0] (R7 (g4.pts+1) (g4.es++[⟨g2.pt,g4.pts,6,false,Cg⟩]) g4.pt g4.pts 6 false ?_) ?_
  ·obtain⟨e1,e2,e3,_⟩:=l34.es;have:=c2.es;simp only[bG]at e3;rw[Es,e2,Es];simp only[Zb];omega
  exact Br func220 rfl rfl
 |whil c l hc hl ihl=>
  intro a g hb;have b1:=hb.pts;have b2:=hb.es;refine Hands.run func220 ?_;have hwc:wN c<wN (.mk 25 [] 0 [c,.mk 30 [] 0 l]):=Jd (n:=.mk 25 [] 0 [c,.mk 30 [] 0 l]) (by simp);have hws:wN (.mk 25 [] 0 [c,.mk 30 [] 0 l])=2+wN c+wL l:=by simp only[wN,wL,Ww];omega
  have hwn:=Wo c;rw[Ae8];unfold gWh;refine Ah ?_;refine Ah ?_;refine A1 ?_;refine Ae (τ':=[0]) [0] [0] (Jh g.pts g.es (by omega)) ?_;refine Ba (gS3 (g.pts+1) g.es (.mk 25 [] 0 [c,.mk 30 [] 0 l])) ?_;refine Ae (τ':=[0]) [0] [0] (R7 (g.pts+1) g.es g.pt g.pts 6 false (by omega)) ?_;refine Ba (gS3 (g.pts+1) (g.es++[⟨g.pt,g.pts,6,false,Cg⟩]) (.mk 25 [] 0 [c,.mk 30 [] 0 l])) ?_;refine Ae (τ':=[0]) [0] [0] (Jh (g.pts+1) _ (by omega)) ?_;refine Ba (gS3 (g.pts+1+1) (g.es++[⟨g.pt,g.pts,6,false,Cg⟩]) (.mk 25 [] 0 [c,.mk 30 [] 0 l])) ?_;refine B7 0 (by omega) (Am (l:=[c,.mk 30 [] 0 l]) rfl) ?_;refine Ae (τ':=[0]) [0] [0] (Pl (g.pts+1+1) (g.es++[⟨g.pt,g.pts,6,false,Cg⟩]) g.pts (g.pts+1:Nat) 4 true c (by omega) (by simp;omega)) ?_;refine Ba (gS3 (g.pts+1+1) (g.es++[⟨g.pt,g.pts,6,false,Cg⟩]++[⟨g.pts,(g.pts+1:Nat),4,true,c⟩]) (.mk 25 [] 0 [c,.mk 30 [] 0 l])) ?_;have l1:=Ly 6 Cg hb.pt;have l2:=Ahq a (.mk 25 [] 0 [c,.mk 30 [] 0 l]) l1.pt;have l12:=l1.trans l2 (Bo _);have hh:g.pts<(Hm a (.mk 25 [] 0 [c,.mk 30 [] 0 l]) (Dl 6 Cg g)).pts:=by simp[Hm,Dl]
  have l3:=P3 g.pts c true hh;have l123:=l12.trans l3 (Bo _);have c1:Gb (D5 g.pts c true (Hm a (.mk 25 [] 0 [c,.mk 30 [] 0 l]) (Dl 6 Cg g))) (wL l+1):=hb.step1 l123 (by omega) (by omega);have c1':Gb (D5 g.pts c true (Hm a (.mk 25 [] 0 [c,.mk 30 [] 0 l]) (Dl 6 Cg g))) (wL l):=⟨c1.pt,by have:=c1.pts;omega,by have:=c1.es;omega⟩
  have a2:=Mn hl Cg _ c1'.pt;have i1:Hands X 158 [.ptr 0 0 0,nd (.mk 30 [] 0 l),vi (g.pts+1:Nat)] ⟨[mbx (g.pts+1+1) (g.es++[⟨g.pt,g.pts,6,false,Cg⟩]++[⟨g.pts,(g.pts+1:Nat),4,true,c⟩])],[(g.es++[(⟨g.pt,g.pts,6,false,Cg⟩:Eg)]++[(⟨g.pts,(g.pts+1:Nat),4,true,c⟩:Eg)]).length]⟩
   (vi (gL l Cg (D5 g.pts c true (Hm a (.mk 25 [] 0 [c,.mk 30 [] 0 l]) (Dl 6 Cg g)))).pt) (gSt (gL l Cg (D5 g.pts c true (Hm a (.mk 25 [] 0 [c,.mk 30 [] 0 l]) (Dl 6 Cg g))))):=Ahb hl ihl Cg _ c1'
  refine B7 1 (by omega) (Am (l:=[c,.mk 30 [] 0 l]) rfl) ?_;refine Ae (τ':=[0]) [0] [0] i1 ?_;refine Ba (gS3 (gL l Cg (D5 g.pts c true (Hm a (.mk 25 [] 0 [c,.mk 30 [] 0 l]) (Dl 6 Cg g)))).pts (gL l Cg (D5 g.pts c true (Hm a (.mk 25 [] 0 [c,.mk 30 [] 0 l]) (Dl 6 Cg g)))).es (.mk 25 [] 0 [c,.mk 30 [] 0 l])) ?_;have l1234:=l123.trans a2 (Bo _);generalize gL l Cg (D5 g.pts c true (Hm a (.mk 25 [] 0 [c,.mk 30 [] 0 l]) (Dl 6 Cg g)))=g2 at *;have c2:Gb g2 0:=c1.step1 a2 (by simp only[bG];omega) (by simp only[bG];omega);have b3:=c2.pts;have b4:=c2.es;have b5:g2.es.length+1≤1000000000:=by
   obtain⟨e1,e2,e3,_⟩:=a2.es;have:=c1.es;simp only[bG]at e3;rw[e2,Es];omega
  refine Ae (τ':=[0]) [0] [0] (R7 g2.pts g2.es g2.pt g.pts 6 false (by omega)) ?_;refine Ba (gS3 g2.pts (g2.es++[⟨g2.pt,g.pts,6,false,Cg⟩]) (.mk 25 [] 0 [c,.mk 30 [] 0 l])) ?_;refine Ae (τ':=[0]) [0] [0] (Jh g2.pts _ (by omega)) ?_;refine Ba (gS3 (g2.pts+1) (g2.es++[⟨g2.pt,g.pts,6,false,Cg⟩]) (.mk 25 [] 0 [c,.mk 30 [] 0 l])) ?_;refine B7 0 (by omega) (Am (l:=[c,.mk 30 [] 0 l]) rfl) ?_;refine Ae (τ':=[0]) [0] [0] (Pl (g2.pts+1) (g2.es++[⟨g2.pt,g.pts,6,false,Cg⟩]) g.pts g2.pts 4 false c (by omega) (by simp;omega)) ?_;exact Br func220 rfl rfl
 |check c hc=>
  intro a g hb;have b1:=hb.pts;have b2:=hb.es;refine Hands.run func220 ?_;have hwc:wN c<wN (.mk 27 [] 0 [c]):=Jd (n:=.mk 27 [] 0 [c]) (by simp);rw[Qk];refine Ah ?_;refine Ah ?_;refine Ah ?_;refine Ae (τ':=[0]) [0] [0] (Jh g.pts g.es (by omega)) ?_;refine Ah ?_;refine Ah ?_;refine Ah ?_;refine A1 ?_;refine B7 0 (by omega) (Am (l:=[c]) rfl) ?_;refine Ae (τ':=[0]) [0] [0] (Pl (g.pts+1) g.es g.pt g.pts 5 false c (by omega) (by omega)) ?_;exact Br func220 rfl rfl
 |skip=>
  intro a g hb;have b1:=hb.pts;have b2:=hb.es;refine Hands.run func220 ?_;rw[Vl];refine Ah ?_;refine Ah ?_;refine Ah ?_;refine Ae (τ':=[0]) [0] [0] (Jh g.pts g.es (by omega)) ?_;refine Ah ?_;refine Ah ?_;refine Ah ?_;refine Ah ?_;refine Ae (τ':=[0]) [0] [0] (R7 (g.pts+1) g.es g.pt g.pts 6 false (by omega)) ?_;exact Br func220 rfl rfl
 |stop=>
  intro a g hb;have b1:=hb.pts;have b2:=hb.es;refine Hands.run func220 ?_;rw[Vm];refine A1 ?_;refine Ae (τ':=[0]) [0] [0] (R7 g.pts g.es g.pt (-1) 7 false (by omega)) ?_;refine Ae (τ':=[0]) [0] [0] (Jh g.pts _ (by omega)) ?_;exact Br func220 rfl rfl
def Dy(x:Int)(e:Eg):Eg:=if e.t<0 then{ e with t:=x }else e
def Tn(x:Int)(l:List Eg)(i:Nat):List Eg:=(l.take i).map (Dy x)++l.drop i
def Wg(l:List Eg)(i:Nat):Nat:=l.length+((l.take i).filter fun e=>decide (e.t<0)).length
theorem Ys(x:Int)(l:List Eg)(i:Nat):(Tn x l i).length=l.length:=by simp[Tn];omega
theorem Aqa(x:Int)(l:List Eg):Tn x l 0=l:=by simp[Tn]
theorem Ate(x:Int)(l:List Eg):Tn x l l.length=l.map (Dy x):=by simp[Tn]
theorem Aq9(l:List Eg):Wg l 0=l.length:=by simp[Wg]
theorem Aji{x:Int}{l:List Eg}{i:Nat}{e:Eg}(h:l[i]?=some e):(Tn x l i)[i]?=some e:=by
 have hi:=Aa h;simp only[Tn];rw[Gj (by simp;omega),Ny];simp[show i+(i-min i l.length)=i by omega,h]
theorem Ajj{x:Int}{l:List Eg}{i:Nat}{e:Eg}(h:l[i]?=some e):(Tn x l i).set i (Dy x e)=Tn x l (i+1):=by
 have hi:=Aa h;simp only[Tn];rw[Gi _ _ (by simp;omega),G7,h,J8,B5 h];simp[show i-min i l.length=0 by omega]
theorem Ap9{x:Int}{l:List Eg}{i:Nat}{e:Eg}(h:l[i]?=some e)(ht:¬e.t<0):Tn x l (i+1)=Tn x l i:=by
 rw[←Ajj h];have:Dy x e=e:=by simp[Dy,ht]
 rw[this];apply Abo;intro j;rw[U4];split
 ·rename_i hj;subst hj;rw[Aji h];simp[Ys,Aa h]
 ·rfl
theorem Ake{l:List Eg}{i:Nat}{e:Eg}(h:l[i]?=some e)(ht:e.t<0):Wg l (i+1)=Wg l i+1:=by
 simp only[Wg];rw[G7,h];simp[ht];omega
theorem Avb{l:List Eg}{i:Nat}{e:Eg}(h:l[i]?=some e)(ht:¬e.t<0):Wg l (i+1)=Wg l i:=by
 simp only[Wg];rw[G7,h];simp[ht]
def D4(l:List Nd):Gr:=Dl 6 Cg (gL l Cg ⟨1,0,[],[],[],0⟩)
def Lv(l:List Nd):List Eg:=(D4 l).es.map (Dy (D4 l).pt)
def A9(n:Nd):List Nd:=(Dp (A5 n)).kids
theorem Abt{n:Nd}(h:FP n):∃ds,A5 n=.mk 40 [] 0 (ds++[.mk 30 [] 0 (A9 n)])∧n.kids.dropLast=ds∧(∀x,x∈A9 n→PS x)∧wL (A9 n)≤10*wN n:=by
 have hw:=(Po n).1;cases h with
 |mk ds l hd hl=>
  have e1:A9 (.mk 40 [] 0 (ds++[.mk 30 [] 0 l]))=Bt l:=by
   unfold A9 Dp;rw[Yz hd,Ge];simp[Ge]
  rw[e1];refine⟨ds,Yz hd,by rw[Ge];simp,O4 fun x hx=>A2x (hl x hx),?_⟩;rw[Yz hd]at hw;simp only[wN,wL,Uy]at hw⊢;omega
theorem Asp(e:Eg)(x:Int)(h:e.t<0):(H4 e).take 1++[vi x]++(H4 e).drop (1+[vi x].length)=H4 (Dy x e):=by simp[H4,Dy,h]
theorem Ae1(l:List Eg)(i:Nat)(e:Eg):(Fq l).set i (H4 e)=Fq (l.set i e):=by simp[Fq,Zf]
theorem Gk{l:List Eg}{i:Nat}{e:Eg}(h:l[i]?=some e):(Fq l)[i]?=some (H4 e):=by simp[Fq,h]
abbrev gBx(n:Nd)(p:Nat)(rows:List (List AV))(v:Nat):List (List (List AV)):=[[Af n],[[vi 0,.sl [] .tight]],[Af (A5 n)],[[vi p,.psl rows 0 v]]]
theorem Aws(n:Nd)(h:FP n)(hw:wN n≤1000000):Pure X 100 [nd n] (.agg [vi (D4 (A9 n)).pts,.sl (Fq (Lv (A9 n))) .no]):=by
 obtain⟨ds,hpl,_,hps,hwl⟩:=Abt h;have hpw:=(Po n).1;have hdl:IntKind.i64.wrap (((Ap (A5 n).kids).length:Int)-1)=ds.length:=by
  have hkl:=G6 (A5 n);have e:(Ap (A5 n).kids).length=ds.length+1:=by rw[Ad,hpl,Ge];simp
  rw[Ad]at e;rw[Ad,Ac (by omega) (by omega)];omega
 have hlast:(Ap (A5 n).kids)[(IntKind.i64.wrap (((Ap (A5 n).kids).length:Int)-1)).toNat]?=some (Af (.mk 30 [] 0 (A9 n))):=by
  rw[hdl,hpl,Ge];exact Am (by simp)
 have h0:0≤IntKind.i64.wrap (((Ap (A5 n).kids).length:Int)-1):=by rw[hdl];omega
 refine Pure.run func100 ?_;refine Al (Aba n h (by omega)) ?_;refine Xz (bx:=gBx n 0 [] 0) (tk:=[0]) 3 0 1 ?_;refine Ie 4 (.ptr 3 0 0) ?_;refine D8 3072 ?_;refine Dv _ h0 hlast ?_;refine Dx (Hd (τ':=[0]) [3] [0] (Jh 0 [] (by omega))) ?_ ?_
 ·exact An (Cn rfl rfl rfl) (An (Cn rfl rfl rfl) (An (Cn rfl rfl rfl) G0))
 have c0:Gb ⟨1,0,[],[],[],0⟩ (wL (A9 n)):=⟨by decide,by show 1+_≤_;omega,by show 0+_≤_;omega⟩
 have l0:=Mn hps Cg _ c0.pt;have i0:Hands X 158 [.ptr 0 0 0,nd (.mk 30 [] 0 (A9 n)),vi (0:Nat)] ⟨[mbx (0+1) []],[([]:List Eg).length]⟩ (vi (gL (A9 n) Cg ⟨1,0,[],[],[],0⟩).pt) (gSt (gL (A9 n) Cg ⟨1,0,[],[],[],0⟩)):=
  Ahb hps (fun x hx=>A0s (hps x hx)) Cg _ c0
 have c1:Gb (gL (A9 n) Cg ⟨1,0,[],[],[],0⟩) 0:=c0.step l0 (by omega);generalize hg:gL (A9 n) Cg ⟨1,0,[],[],[],0⟩=g at *;refine Ch (Hd (τ':=[0]) [3] [0] i0) ?_;refine Ar ?_;refine B6 ?_;have b1:=c1.pts;have b2:=c1.es;refine Ae (τ':=[0]) [3] [0] (Jh g.pts g.es (by omega)) ?_;refine Ae (τ':=[0]) [3] [0] (R7 (g.pts+1) g.es g.pt g.pts 6 false (by omega)) ?_;have hG:D4 (A9 n)=Dl 6 Cg g:=by unfold D4;rw[hg]
 have hE:Lv (A9 n)=(g.es++[(⟨g.pt,g.pts,6,false,Cg⟩:Eg)]).map (Dy g.pts):=by unfold Lv;rw[hG];rfl
 rw[hE,hG];show AK X _ _ _ _ fun e S=>e=.ret (.agg [vi (g.pts+1:Nat),.sl (Fq ((g.es++[(⟨g.pt,g.pts,6,false,Cg⟩:Eg)]).map (Dy g.pts))) .no])∧S=⟨[],[]⟩
 have hel:(g.es++[(⟨g.pt,g.pts,6,false,Cg⟩:Eg)]).length≤1000000001:=by simp;omega
 generalize g.es++[(⟨g.pt,g.pts,6,false,Cg⟩:Eg)]=es at *;refine Ba ⟨gBx n (g.pts+1) (Fq (Tn g.pts es 0)) (Wg es 0),[Wg es 0]⟩ ?_ (by rw[Aqa,Aq9];rfl);refine Av (ι:=Nat) 4 1 (fun i=>i≤es.length) (fun i=>[(7,vi i),(4,.ptr 3 0 0),(6,vi g.pts),(2,.ptr 1 0 0)])
  (fun i=>⟨gBx n (g.pts+1) (Fq (Tn g.pts es i)) (Wg es i),[Wg es i]⟩) (fun i=>es.length-i) ?_ 0
  (Cc _) ⟨rfl,rfl,rfl,rfl,trivial⟩
 intro i hi IH;refine Dh (fun h=>?_) (fun h=>?_)
 ·have hlt:i<es.length:=by have:=A7 h;rw[K9,Ys]at this;omega
  obtain⟨e,he⟩:=Ab es hlt;have hil:i<(Fq (Tn g.pts es i)).length:=by rw[K9,Ys];exact hlt
  have hrow:=Gk (Aji (x:=g.pts) he);refine Bm (Abw (n:=i) hil rfl (T8 _) rfl rfl rfl rfl rfl rfl rfl rfl) ?_;refine Bm (Avw (x:=vi e.t) hrow rfl (by show 1+1≤8;omega) rfl rfl rfl rfl rfl rfl) ?_;refine Ag (fun h2=>?_) (fun h2=>?_)
  ·have h2':e.t<0:=A7 h2;refine Bm (Abw (n:=i) hil rfl (T8 _) rfl rfl rfl rfl rfl rfl rfl rfl) ?_;refine Bm (Agp (b:=3) (r:=0) (g:=1) (xs:=[vi g.pts]) (bx:=gBx n (g.pts+1) (Fq (Tn g.pts es (i+1))) (Wg es (i+1))) (tk':=[Wg es (i+1)]) rfl hrow (by show 1+1≤8;omega) (fun z hz=>by simp at hz;subst hz;exact .val _) rfl rfl rfl
    ?_ ?_ rfl rfl rfl rfl rfl rfl rfl rfl) ?_
   ·show gBx n (g.pts+1) ((Fq (Tn g.pts es i)).set i ((H4 e).take 1++[vi g.pts]++(H4 e).drop (1+[vi g.pts].length))) (Wg es i+1)=_;rw[Asp e _ h2',Ae1,Ajj he,←Ake he h2']
   ·show [Wg es i+1]=_;rw[←Ake he h2']
   exact IH (i+1) hlt (by omega) _ _ ⟨vsx (by omega),rfl,rfl,rfl,trivial⟩ rfl rfl rfl
  ·have h2':¬e.t<0:=Bd h2;rw[←Ap9 (x:=g.pts) he h2',←Avb he h2'];exact IH (i+1) hlt (by omega) _ _ ⟨vsx (by omega),rfl,rfl,rfl,trivial⟩ rfl rfl rfl
 ·have:i=es.length:=by have:=Bd h;rw[K9,Ys]at this;omega
  subst this;rw[Ate];refine D8 512 ?_;refine Ch (A8 rfl rfl rfl rfl rfl rfl rfl) ?_;refine B6 ?_;exact Au func100 rfl
def Uf(l:List Nat):List (List AV):=l.map fun(i:Nat)=>[vi i]
theorem N7(l:List Nat):(Uf l).length=l.length:=by simp[Uf]
theorem Alp(l:List Nat):Ka 1 (Uf l)=true:=Ku (f:=fun(i:Nat)=>[vi i]) (fun _=>rfl) l
theorem Ac7(l:List Nat)(i:Nat):Uf l++[[vi i]]=Uf (l++[i]):=by simp[Uf]
instance{n m:Nat}{l:List Nat}:OKR n m (Uf l):=⟨fun r hr x hx=>by obtain⟨e,_,rfl⟩:=zzq68.1 hr;simp at hx;subst hx;exact .val _⟩
def Aad(l:Lp):List AV:=Af l.a++Af l.l++[vi l.h,vi l.x]
def Ki(l:List Lp):List (List AV):=l.map Aad
theorem Aae(l:List Lp):(Ki l).length=l.length:=by simp[Ki]
theorem Ajg(l:List Lp):∀r,r∈Ki l→r.length=10:=fun r h=>by obtain⟨e,_,rfl⟩:=zzq68.1 h;rfl
theorem Alx(l:List Lp)(e:Lp):Ki l++[Aad e]=Ki (l++[e]):=by simp[Ki]
theorem Afh(e:Lp):∀x,x∈Aad e→Flat x:=fun x hx=>by
 simp only[Aad,zzq47,zzq13,Wv,or_false]at hx;rcases hx with(hx|hx)|rfl|rfl
 ·exact Ul _ x hx
 ·exact Ul _ x hx
 ·exact .val _
 ·exact .val _
theorem Alw(e:Lp):∀r,r∈[Aad e]→∀x,x∈r→NoT x:=fun r hr x hx=>by simp at hr;subst hr;exact(Afh e x hx).noT
instance{n m:Nat}{l:List Lp}:OKR n m (Ki l):=⟨fun r hr x hx=>by obtain⟨e,_,rfl⟩:=zzq68.1 hr;exact(Afh e x hx).ok⟩
abbrev mx(p:Nat)(es:List Eg)(at_:Nat)(sts:List Nat)(lps:List Lp)(v:Nat):List (List AV):=[[vi p,.psl (Fq es) 0 es.length,vi at_,.sl (Uf sts) (.tok 1),.psl (Ki lps) 2 v]]
abbrev mS(p:Nat)(es:List Eg)(at_:Nat)(sts:List Nat)(lps:List Lp)(v:Nat):St:=⟨[mx p es at_ sts lps v],[es.length,sts.length,v]⟩
def iE(g:Gr):List Eg:=g.es.map (Dy 0)
abbrev gM(g:Gr):St:=mS g.pts (iE g) g.pt g.sts g.lps g.ver
theorem Ud(g:Gr):(iE g).length=g.es.length:=by simp[iE]
theorem Awy(k:Int)(n:Nd)(g:Gr):iE (Dl k n g)=iE g++[⟨g.pt,g.pts,k,false,n⟩]:=by simp[iE,Dl,Dy];intro h;omega
theorem A0v(p:Nat)(c:Nd)(y:Bool)(g:Gr):iE (D5 p c y g)=iE g++[⟨p,g.pts,4,y,c⟩]:=by simp[iE,D5,Dy];intro h;omega
theorem Awz(g:Gr):iE (Ov g)=iE g++[⟨g.pt,0,7,false,Cg⟩]:=by simp[iE,Ov,Dy]
theorem Aww(h:Nat)(g:Gr):iE (Lc h g)=iE g++[⟨g.pt,h,6,false,Cg⟩]:=by simp[iE,Lc,Iu,Dy];intro h;omega
theorem Awx(p:Nat)(g:Gr):iE (Nw p g)=iE g++[⟨p,g.pts,6,false,Cg⟩]++[⟨g.pt,g.pts,6,false,Cg⟩]:=by simp[iE,Nw,Iu,Dy];intro h;omega
section
variable (p:Nat)(es:List Eg)(a:Nat)(sts:List Nat)(lps:List Lp)(v:Nat)
theorem Ab0(h:p≤1000000000000):Hands X 237 [.ptr 0 0 0] (mS p es a sts lps v) (vi p) (mS (p+1) es a sts lps v):=by
 refine Hands.run func237 ?_;have e1:IntKind.i64.wrap ((p:Int)+1)=((p+1:Nat):Int):=(Ac (by omega) (by omega)).trans (by omega);have e2:IntKind.i64.wrap (IntKind.i64.wrap ((p:Int)+1)-1)=(p:Int):=by rw[e1];exact(Ac (by omega) (by omega)).trans (by omega)
 refine Ie 2 (vi p) ?_ (Ct e2);refine Ba (mS (p+1) es a sts lps v) ?_ (by rw[mS,mx,←e1]);exact Br func237 rfl rfl
theorem As6(e:Eg)(hp:PlO e.n)(hpl:A5 e.n=e.n)(hw:wN e.n≤1000000000)(hl:es.length≤1000000000) :
 Hands X 238 [.ptr 0 0 0,vi e.f,vi e.t,vi e.k,vb e.y,nd e.n] (mS p es a sts lps v) (.tup []) (mS p (es++[e]) a sts lps v):=by
 have hq:=Afp e.n hp hw;rw[hpl]at hq;refine Hands.run func238 ?_;refine D8 278528 ?_;refine Ci hq ?_;refine Ch (M7 (ver:=es.length) rfl (T8 es) (Acz e) ?_ (Ac0 es e) rfl rfl rfl rfl rfl rfl rfl rfl rfl rfl rfl rfl rfl rfl rfl rfl rfl) ?_
 ·rw[K9];simp;omega
 refine Ar ?_;refine Ar ?_;refine Ar ?_;refine Ch (A8 rfl rfl rfl rfl rfl rfl rfl) ?_;refine B6 ?_;refine Ba ⟨[mx p (es++[e]) a sts lps v,[Af e.n]],[(es++[e]).length,sts.length,v]⟩ ?_ (by simp);exact D6 func238 rfl rfl
theorem Anz(f t k:Int)(y:Bool)(n:Nd)(hp:PlO n)(hpl:A5 n=n)(hw:wN n≤1000000000)(hl:es.length≤1000000000) :
 Hands X 238 [.ptr 0 0 0,vi f,vi t,vi k,vb y,nd n] (mS p es a sts lps v) (.tup []) (mS p (es++[⟨f,t,k,y,n⟩]) a sts lps v):=As6 p es a sts lps v ⟨f,t,k,y,n⟩ hp hpl hw hl
theorem Abz(f t k:Int)(y:Bool)(hl:es.length≤1000000000) :
 Hands X 238 [.ptr 0 0 0,vi f,vi t,vi k,vb y,.agg [vi 0,str [],vi 0,.sl [] .no]] (mS p es a sts lps v) (.tup []) (mS p (es++[⟨f,t,k,y,Cg⟩]) a sts lps v):=
 As6 p es a sts lps v ⟨f,t,k,y,Cg⟩ .leaf (by show A5 Cg=Cg;rw[Cg,Bc,A4]) (by show wN Cg≤1000000000;decide) hl
end
theorem Ac8(g:Gr)(k:Int)(n:Nd)(hp:PlO n)(hpl:A5 n=n)(hw:wN n≤1000000000)(h1:g.pts≤1000000000000)(hl:g.es.length≤1000000000) :
 Hands X 175 [.ptr 0 0 0,vi k,nd n] (gM g) (.tup []) (gM (Dl k n g)):=by
 refine Hands.run func175 ?_;refine Ae (τ':=[0,1,2]) [0] [0,1,2] (Ab0 g.pts (iE g) g.pt g.sts g.lps g.ver h1) ?_;refine D8 256 ?_;refine Ch (Hd (τ':=[0,1,2]) [0] [0,1,2] (Anz (g.pts+1) (iE g) g.pt g.sts g.lps g.ver g.pt g.pts k false n hp hpl hw (by rw[Ud];exact hl))) ?_;refine B6 ?_;rw[←Awy];exact D6 func175 rfl rfl
theorem An0(g:Gr)(q:Nat)(c:Nd)(y:Bool)(hp:PlO c)(hpl:A5 c=c)(hw:wN c≤1000000000)(h1:g.pts≤1000000000000)(hl:g.es.length≤1000000000) :
 Hands X 271 [.ptr 0 0 0,vi q,nd c,vb y] (gM g) (.tup []) (gM (D5 q c y g)):=by
 refine Hands.run func271 ?_;refine Ae (τ':=[0,1,2]) [0] [0,1,2] (Ab0 g.pts (iE g) g.pt g.sts g.lps g.ver h1) ?_;refine D8 256 ?_;refine Ch (Hd (τ':=[0,1,2]) [0] [0,1,2] (Anz (g.pts+1) (iE g) g.pts g.sts g.lps g.ver q g.pts 4 y c hp hpl hw (by rw[Ud];exact hl))) ?_;refine B6 ?_;rw[←A0v];exact D6 func271 rfl rfl
structure Gc (g:Gr)(k:Nat):Prop where
 b:Gb g k
 lps:g.lps.length+24*k≤1000000000
 sts:g.sts.length+24*k≤1000000000
theorem Gc.step1{g g':Gr}{j k m:Nat}(h:Gc g m)(hl:g.le g' j)(hj:j≤6*m)(hm:j+6*k≤6*m):Gc g' k:=by
 obtain⟨l,h1,h2⟩:=hl.lps;obtain⟨s,h3,h4⟩:=hl.sts;have:=h.lps;have:=h.sts;refine⟨h.b.step1 hl hj hm,?_,?_⟩
 ·rw[h1,Es];omega
 ·rw[h3,Es];omega
def JSt(n:Nd):Prop:=∀(a:Nd)(g:Gr),Gc g (wN n)→Hands X 236 [.ptr 0 0 0,nd n,nd a] (gM g) (.tup []) (gM (gS n a g))
def JLs(l:List Nd):Prop:=∀(g:Gr),Gc g (wL l)→Hands X 174 [.ptr 0 0 0,.sl (Ap l) .no] (gM g) (.tup []) (gM (gL l Cg g))
theorem Ahk{l:List Nd}(hp:∀x,x∈l→PS x)(hs:∀x,x∈l→JSt x):JLs l:=by
 intro g hb;have hlw:=Mr l;have hbe:=hb.b.es;refine Hands.run func174 ?_;refine Rl 1 0 3 (.sl [] .no) ?_;refine Av (ι:=Nat) 2 3 (fun i=>i≤l.length) (fun i=>[(10,vi i),(9,vi l.length),(8,.sl (Ap l) .no),(0,.ptr 0 0 0),(4,.ptr 1 0 0)])
  (fun i=>⟨[mx (gL (l.take i) Cg g).pts (iE (gL (l.take i) Cg g)) (gL (l.take i) Cg g).pt (gL (l.take i) Cg g).sts (gL (l.take i) Cg g).lps (gL (l.take i) Cg g).ver,[Af ((l.take i).getLastD Cg)]],[(iE (gL (l.take i) Cg g)).length,(gL (l.take i) Cg g).sts.length,(gL (l.take i) Cg g).ver]⟩) (fun i=>l.length-i) ?_ 0
  (Cc _) ⟨rfl,by rw[←Ad l];rfl,rfl,rfl,rfl,trivial⟩
 intro i hi IH;have hgi:g.le (gL (l.take i) Cg g) (bG (wL (l.take i))):=Mn (fun x hx=>hp x (Agd hx)) Cg g hb.b.pt;refine Dh (fun h=>?_) (fun h=>?_)
 ·have hlt:i<l.length:=by have:=A7 h;omega
  obtain⟨x,hx⟩:=Ab l hlt;have hwt:=Ao4 hx;have hbi:Gc (gL (l.take i) Cg g) (wN x):=hb.step1 hgi (by simp only[bG];omega) (by simp only[bG];omega);refine B7 i (by omega) (Am (l:=l) hx) ?_;refine Ae (τ':=[0,1,2]) [0] [0,1,2] (hs x (Bh hx) ((l.take i).getLastD Cg) _ hbi) ?_;rw[←Anq hx];have hla:(l.take (i+1)).getLastD Cg=x:=by rw[G7,hx];simp
  refine IH (i+1) hlt (by omega) _ _ ⟨vsx (by omega),rfl,rfl,rfl,rfl,trivial⟩ ?_ rfl rfl;simp only;rw[hla];rfl
 ·have:i=l.length:=by have:=Bd h;omega
  subst this;rw[I8]at hgi⊢;exact D6 func174 rfl rfl
theorem Ahj(g:Gr)(h1:g.pts≤1000000000000)(hl:g.es.length≤1000000000) :
 Hands X 175 [.ptr 0 0 0,vi 6,.agg [vi 0,str [],vi 0,.sl [] .no]] (gM g) (.tup []) (gM (Dl 6 Cg g)):=
 Ac8 g 6 Cg .leaf (by rw[Cg,Bc,A4]) (by decide) h1 hl
theorem Aqi(s:List UInt8){a:Nd}(ha:FE a):A5 (.mk 21 s 0 [a])=.mk 21 s 0 [a]:=by rw[Bc,Ao,A4,Iq ha];rfl
theorem Aqh(s:List UInt8){a b:Nd}(ha:FE a)(hb:FE b):A5 (.mk 22 s 0 [a,b])=.mk 22 s 0 [a,b]:=by rw[Bc,Ao,Ao,A4,Iq ha,Iq hb];rfl
theorem Al8(s:List UInt8):A5 (.mk 23 s 0 [])=.mk 23 s 0 []:=by rw[Bc,A4]
theorem Atd(l:Lp)(x:Int):(Aad l).take 9++[vi x]++(Aad l).drop (9+[vi x].length)=Aad { l with x:=x }:=by simp[Aad,Af]
theorem Ap8(l:List Lp)(i:Nat)(e:Lp):(Ki l).set i (Aad e)=Ki (l.set i e):=by simp[Ki,Zf]
theorem Ap7{l:List Lp}{i:Nat}{e:Lp}(h:l[i]?=some e):(Ki l)[i]?=some (Aad e):=by simp[Ki,h]
theorem Aqb{l:List Lp}{i:Nat}{e:Lp}(h:l[i]?=some e)(f:Lp→Lp):l.modify i f=l.set i (f e):=by
 apply Abo;intro j;rw[List.getElem?_modify,U4];by_cases hj:i=j
 ·subst hj;rw[h];simp[Aa h]
 ·simp[hj]
abbrev mS3(p:Nat)(es:List Eg)(at_:Nat)(sts:List Nat)(lps:List Lp)(v:Nat)(n a:Nd):St:=⟨[mx p es at_ sts lps v,[Af n],[Af a]],[es.length,sts.length,v]⟩
abbrev gM3(g:Gr)(n a:Nd):St:=mS3 g.pts (iE g) g.pt g.sts g.lps g.ver n a
set_option maxHeartbeats 4000000 in
theorem A07{n:Nd}(h:PS n):JSt n:=by
 induction h with
 |set s x h hx=>
  intro a g hb;have b1:=hb.b.pts;have b2:=hb.b.es;have b3:=hb.lps;have b4:=hb.sts;refine Hands.run func236 ?_;rw[Z5];refine A1 ?_;refine Ae (τ':=[0,1,2]) [0] [0,1,2] (Ac8 g 1 (.mk 21 s 0 [x]) (Ago (.set s x h hx)) (Aqi s hx) (by omega) (by omega) (by omega)) ?_;exact D6 func236 rfl rfl
 |put s x y h hx hy=>
  intro a g hb;have b1:=hb.b.pts;have b2:=hb.b.es;have b3:=hb.lps;have b4:=hb.sts;refine Hands.run func236 ?_;rw[Z4];refine Ah ?_;refine A1 ?_;refine Ae (τ':=[0,1,2]) [0] [0,1,2] (Ac8 g 2 (.mk 22 s 0 [x,y]) (Ago (.put s x y h hx hy)) (Aqh s hx hy) (by omega) (by omega) (by omega)) ?_;exact D6 func236 rfl rfl
 |read s h=>
  intro a g hb;have b1:=hb.b.pts;have b2:=hb.b.es;have b3:=hb.lps;have b4:=hb.sts;refine Hands.run func236 ?_;rw[Vk];refine Ah ?_;refine Ah ?_;refine A1 ?_;refine Ae (τ':=[0,1,2]) [0] [0,1,2] (Ac8 g 3 (.mk 23 s 0 []) (Ago (.read s h)) (Al8 s) (by omega) (by omega) (by omega)) ?_;exact D6 func236 rfl rfl
 |check c hc=>
  intro a g hb;have b1:=hb.b.pts;have b2:=hb.b.es;have b3:=hb.lps;have b4:=hb.sts;refine Hands.run func236 ?_;have hwc:wN c<wN (.mk 27 [] 0 [c]):=Jd (n:=.mk 27 [] 0 [c]) (by simp);rw[Qk];refine Ah ?_;refine Ah ?_;refine Ah ?_;refine A1 ?_;refine B7 0 (by omega) (Am (l:=[c]) rfl) ?_;refine Ae (τ':=[0,1,2]) [0] [0,1,2] (Ac8 g 5 c (Tu hc) (Ss hc) (by omega) (by omega) (by omega)) ?_;exact D6 func236 rfl rfl
 |skip=>
  intro a g hb;have b1:=hb.b.pts;have b2:=hb.b.es;have b3:=hb.lps;have b4:=hb.sts;refine Hands.run func236 ?_;rw[Vl];refine Ah ?_;refine Ah ?_;refine Ah ?_;refine Ah ?_;refine A1 ?_;refine Ae (τ':=[0,1,2]) [0] [0,1,2] (Ahj g (by omega) (by omega)) ?_;exact D6 func236 rfl rfl
 |stop=>
  intro a g hb;have b1:=hb.b.pts;have b2:=hb.b.es;have b3:=hb.lps;have b4:=hb.sts;refine Hands.run func236 ?_;rw[Vm];refine Ah ?_;refine Ah ?_;refine Ah ?_;refine Ah ?_;refine Ah ?_;refine A1 ?_;refine D8 36864 ?_;refine Ch (Bv (res:=Uf (g.sts++[g.es.length])) rfl rfl rfl rfl rfl rfl rfl rfl rfl rfl rfl rfl rfl rfl (N7 _) (Alp _) rfl rfl rfl ?_ ?_ rfl) ?_
  ·rw[N7];show g.sts.length+1≤_;omega
  ·show Uf g.sts++[[vi (Fq (iE g)).length]]=_;rw[K9,Ud,Ac7]
  refine Ar ?_;refine Ar ?_;refine Ch (A8 rfl rfl rfl rfl rfl rfl rfl) ?_;refine B6 ?_;refine Ba ⟨[mx g.pts (iE g) g.pt (g.sts++[g.es.length]) g.lps g.ver,[Af (.mk 29 [] 0 [])],[Af a]],[(iE g).length,(g.sts++[g.es.length]).length,g.ver]⟩ ?_ (by simp[Uf]);refine Ae (τ':=[0,1,2]) [0] [0,1,2] (Abz g.pts (iE g) g.pt (g.sts++[g.es.length]) g.lps g.ver g.pt 0 7 false (by rw[Ud];omega)) ?_;refine Ae (τ':=[0,1,2]) [0] [0,1,2] (Ab0 g.pts _ g.pt (g.sts++[g.es.length]) g.lps g.ver (by omega)) ?_;rw[←Awz];exact D6 func236 rfl rfl
 |ifs c l l' hc hl hl' ihl ihl'=>
  intro a g hb;have b1:=hb.b.pts;have b2:=hb.b.es;have b3:=hb.lps;have b4:=hb.sts;refine Hands.run func236 ?_;have hwc:wN c<wN (.mk 24 [] 0 [c,.mk 30 [] 0 l,.mk 30 [] 0 l']):=Jd (n:=.mk 24 [] 0 [c,.mk 30 [] 0 l,.mk 30 [] 0 l']) (by simp);have hws:wN (.mk 24 [] 0 [c,.mk 30 [] 0 l,.mk 30 [] 0 l'])=3+wN c+wL l+wL l':=by simp only[wN,wL,Ww];omega
  rw[Ae7];unfold gIf;refine Ah ?_;refine Ah ?_;refine Ah ?_;refine Ah ?_;refine Ah ?_;refine Ah ?_;refine A1 ?_;refine B7 0 (by omega) (Am (l:=[c,.mk 30 [] 0 l,.mk 30 [] 0 l']) rfl) ?_;refine Ae (τ':=[0,1,2]) [0] [0,1,2] (An0 g g.pt c true (Tu hc) (Ss hc) (by omega) (by omega) (by omega)) ?_;refine Ba (gM3 (D5 g.pt c true g) (.mk 24 [] 0 [c,.mk 30 [] 0 l,.mk 30 [] 0 l']) a) ?_;have l1:=P3 g.pt c true hb.b.pt;have c1:Gc (D5 g.pt c true g) (wL l):=hb.step1 l1 (by omega) (by omega);have a2:=Mn hl Cg _ c1.b.pt;refine B7 1 (by omega) (Am (l:=[c,.mk 30 [] 0 l,.mk 30 [] 0 l']) rfl) ?_;refine Ae (τ':=[0,1,2]) [0] [0,1,2] (Ahk hl ihl (D5 g.pt c true g) c1) ?_;refine Ba (gM3 (gL l Cg (D5 g.pt c true g)) (.mk 24 [] 0 [c,.mk 30 [] 0 l,.mk 30 [] 0 l']) a) ?_;have l12:=l1.trans a2 (Bo _);generalize gL l Cg (D5 g.pt c true g)=g2 at *;have c2:Gc g2 (wL l'+1):=hb.step1 l12 (by simp only[bG];omega) (by simp only[bG];omega);have b5:=c2.b.pts;have b6:=c2.b.es;refine B7 0 (by omega) (Am (l:=[c,.mk 30 [] 0 l,.mk 30 [] 0 l']) rfl) ?_;refine Ae (τ':=[0,1,2]) [0] [0,1,2] (An0 g2 g.pt c false (Tu hc) (Ss hc) (by omega) (by omega) (by omega)) ?_;refine Ba (gM3 (D5 g.pt c false g2) (.mk 24 [] 0 [c,.mk 30 [] 0 l,.mk 30 [] 0 l']) a) ?_;have hp2:g.pt<g2.pts:=Mx hb.b.pt l12.pts.1;have l3:=P3 g.pt c false hp2;have c3:Gc (D5 g.pt c false g2) (wL l'):=c2.step1 l3 (by omega) (by omega);have a4:=Mn hl' Cg _ c3.b.pt;refine B7 2 (by omega) (Am (l:=[c,.mk 30 [] 0 l,.mk 30 [] 0 l']) rfl) ?_;refine Ae (τ':=[0,1,2]) [0] [0,1,2] (Ahk hl' ihl' (D5 g.pt c false g2) c3) ?_;refine Ba (gM3 (gL l' Cg (D5 g.pt c false g2)) (.mk 24 [] 0 [c,.mk 30 [] 0 l,.mk 30 [] 0 l']) a) ?_;have l34:=l3.trans a4 (Bo _);generalize gL l' Cg (D5 g.pt c false g2)=g4 at *;have c4:Gc g4 0:=c2.step1 l34 (by simp only[bG];omega) (by simp only[bG];omega);have b7:=c4.b.pts;have b8:=c4.b.es;refine Ae (τ':=[0,1,2]) [0] [0,1,2] (Ab0 g4.pts (iE g4) g4.pt g4.sts g4.lps g4.ver (by omega)) ?_;refine Ba (mS3 (g4.pts+1) (iE g4) g4.pt g4.sts g4.lps g4.ver (.mk 24 [] 0 [c,.mk 30 [] 0 l,.mk 30 [] 0 l']) a) ?_;refine Ae (τ':=[0,1,2]) [0] [0,1,2] (Abz (g4.pts+1) (iE g4) g4.pt g4.sts g4.lps g4.ver g2.pt g4.pts 6 false (by rw[Ud];omega)) ?_;refine Ba (mS3 (g4.pts+1) (iE g4++[⟨g2.pt,g4.pts,6,false,Cg⟩]) g4.pt g4.sts g4.lps g4.ver (.mk 24 [] 0 [c,.mk 30 [] 0 l,.mk 30 [] 0 l']) a) ?_;refine Ae (τ':=[0,1,2]) [0] [0,1,2] (Abz (g4.pts+1) (iE g4++[⟨g2.pt,g4.pts,6,false,Cg⟩]) g4.pt g4.sts g4.lps g4.ver g4.pt g4.pts 6 false ?_) ?_
  ·obtain⟨e1,e2,e3,_⟩:=l34.es;have:=c2.b.es;simp only[bG]at e3;rw[Es,Ud,e2,Es];simp only[Zb];omega
  rw[←Awx];exact D6 func236 rfl rfl
 |whil c l hc hl ihl=>
  intro a g hb;have b1:=hb.b.pts;have b2:=hb.b.es;have b3:=hb.lps;have b4:=hb.sts;refine Hands.run func236 ?_;have hwc:wN c<wN (.mk 25 [] 0 [c,.mk 30 [] 0 l]):=Jd (n:=.mk 25 [] 0 [c,.mk 30 [] 0 l]) (by simp);have hws:wN (.mk 25 [] 0 [c,.mk 30 [] 0 l])=2+wN c+wL l:=by simp only[wN,wL,Ww];omega
  have hwn:=Wo c;rw[Ae8];unfold gWh;refine Ah ?_;refine Ah ?_;refine Ah ?_;refine Ah ?_;refine Ah ?_;refine Ah ?_;refine Ah ?_;refine A1 ?_;refine Ae (τ':=[0,1,2]) [0] [0,1,2] (Ahj g (by omega) (by omega)) ?_;refine Ba (gM3 (Dl 6 Cg g) (.mk 25 [] 0 [c,.mk 30 [] 0 l]) a) ?_;refine Amz ?_;refine D8 9216 ?_;refine Ch (M7 (ver:=g.ver) rfl (Ajg g.lps) (Alw ⟨a,(.mk 25 [] 0 [c,.mk 30 [] 0 l]),g.pts,0⟩) ?_ (Alx g.lps ⟨a,(.mk 25 [] 0 [c,.mk 30 [] 0 l]),g.pts,0⟩) rfl rfl rfl rfl rfl rfl rfl rfl rfl rfl rfl rfl rfl rfl rfl rfl rfl) ?_
  ·rw[Aae];simp;omega
  refine Ar ?_;refine Ar ?_;refine Ch (A8 rfl rfl rfl rfl rfl rfl rfl) ?_;refine B6 ?_;have l1:=Ly 6 Cg hb.b.pt;have l2:=Ahq a (.mk 25 [] 0 [c,.mk 30 [] 0 l]) l1.pt;have l12:=l1.trans l2 (Bo _);have c0:Gc (Hm a (.mk 25 [] 0 [c,.mk 30 [] 0 l]) (Dl 6 Cg g)) (wL l+1):=hb.step1 l12 (by omega) (by omega);refine Ba (gM3 (Hm a (.mk 25 [] 0 [c,.mk 30 [] 0 l]) (Dl 6 Cg g)) (.mk 25 [] 0 [c,.mk 30 [] 0 l]) a) ?_;refine Ie 9 (vi g.pts) ?_;refine Ie 10 (vi g.lps.length) ?_ (by show lk _ 10=_;rw[←Aae];rfl);refine B7 0 (by omega) (Am (l:=[c,.mk 30 [] 0 l]) rfl) ?_;have hh:g.pts<(Hm a (.mk 25 [] 0 [c,.mk 30 [] 0 l]) (Dl 6 Cg g)).pts:=by simp[Hm,Dl]
  have hlk:(Hm a (.mk 25 [] 0 [c,.mk 30 [] 0 l]) (Dl 6 Cg g)).lps[g.lps.length]?=some ⟨a,(.mk 25 [] 0 [c,.mk 30 [] 0 l]),g.pts,0⟩:=by simp[Hm,Dl]
  generalize Hm a (.mk 25 [] 0 [c,.mk 30 [] 0 l]) (Dl 6 Cg g)=g1 at *;have b5:=c0.b.pts;have b6:=c0.b.es;refine Ae (τ':=[0,1,2]) [0] [0,1,2] (An0 g1 g.pts c true (Tu hc) (Ss hc) (by omega) (by omega) (by omega)) ?_;refine Ba (gM3 (D5 g.pts c true g1) (.mk 25 [] 0 [c,.mk 30 [] 0 l]) a) ?_;have l3:=P3 g.pts c true hh;have c1:Gc (D5 g.pts c true g1) (wL l):=c0.step1 l3 (by omega) (by omega);have a2:=Mn hl Cg _ c1.b.pt;refine B7 1 (by omega) (Am (l:=[c,.mk 30 [] 0 l]) rfl) ?_;refine Ae (τ':=[0,1,2]) [0] [0,1,2] (Ahk hl ihl (D5 g.pts c true g1) c1) ?_;refine Ba (gM3 (gL l Cg (D5 g.pts c true g1)) (.mk 25 [] 0 [c,.mk 30 [] 0 l]) a) ?_;have l34:=l3.trans a2 (Bo _);have hh2:=Mx hh l34.pts.1;obtain⟨lx,hlx,_⟩:=l34.lps;have hlk2:(gL l Cg (D5 g.pts c true g1)).lps[g.lps.length]?=some ⟨a,(.mk 25 [] 0 [c,.mk 30 [] 0 l]),g.pts,0⟩:=by rw[hlx,Cr (Aa hlk)];exact hlk
  generalize gL l Cg (D5 g.pts c true g1)=g2 at *;have c2:Gc g2 0:=c0.step1 l34 (by simp only[bG];omega) (by simp only[bG];omega);have b7:=c2.b.pts;have b8:=c2.b.es;have b9:g2.es.length+1≤1000000000:=by
   obtain⟨e1,e2,e3,_⟩:=l34.es;have:=c0.b.es;simp only[bG]at e3;rw[e2,Es];omega
  refine Ae (τ':=[0,1,2]) [0] [0,1,2] (Abz g2.pts (iE g2) g2.pt g2.sts g2.lps g2.ver g2.pt g.pts 6 false (by rw[Ud];omega)) ?_;rw[←Aww];refine Ba (gM3 (Lc g.pts g2) (.mk 25 [] 0 [c,.mk 30 [] 0 l]) a) ?_;refine B7 0 (by omega) (Am (l:=[c,.mk 30 [] 0 l]) rfl) ?_;refine Ae (τ':=[0,1,2]) [0] [0,1,2] (An0 (Lc g.pts g2) g.pts c false (Tu hc) (Ss hc) (by omega) (by show g2.pts≤_;omega) (by simp only[Lc,Iu];rw[Es];simp;omega)) ?_;refine Ba (gM3 (D5 g.pts c false (Lc g.pts g2)) (.mk 25 [] 0 [c,.mk 30 [] 0 l]) a) ?_;have hlk3:(D5 g.pts c false (Lc g.pts g2)).lps[g.lps.length]?=some ⟨a,(.mk 25 [] 0 [c,.mk 30 [] 0 l]),g.pts,0⟩:=hlk2;generalize D5 g.pts c false (Lc g.pts g2)=g3 at *;have hll:g.lps.length<(Ki g3.lps).length:=by rw[Aae];exact Aa hlk3
  have hlr:=Ap7 hlk3;have hmod:=Aqb hlk3 fun l=>{ l with x:=g3.pt }
  refine D8 2048 ?_;refine A0 (Abw (n:=g.lps.length) hll rfl (Ajg _) rfl rfl rfl rfl rfl rfl rfl rfl) ?_;refine Ar ?_;refine Ch (Agp (b:=0) (r:=0) (g:=4) (xs:=[vi g3.pt]) (bx:=[mx g3.pts (iE g3) g3.pt g3.sts (g3.lps.modify g.lps.length fun l=>{ l with x:=g3.pt }) (g3.ver+1),[Af (.mk 25 [] 0 [c,.mk 30 [] 0 l])],[Af a]]) (tk':=[(iE g3).length,g3.sts.length,g3.ver+1])
   rfl hlr (by show 9+1≤10;omega) (fun z hz=>by simp at hz;subst hz;exact .val _) rfl rfl rfl ?_ rfl rfl rfl rfl rfl rfl rfl rfl rfl) ?_
  ·show [[[vi g3.pts,.psl (Fq (iE g3)) 0 (iE g3).length,vi g3.pt,.sl (Uf g3.sts) (.tok 1),.psl ((Ki g3.lps).set g.lps.length ((Aad ⟨a,(.mk 25 [] 0 [c,.mk 30 [] 0 l]),g.pts,0⟩).take 9++[vi g3.pt]++(Aad ⟨a,(.mk 25 [] 0 [c,.mk 30 [] 0 l]),g.pts,0⟩).drop (9+[vi g3.pt].length))) 2 (g3.ver+1)]],[Af (.mk 25 [] 0 [c,.mk 30 [] 0 l])],[Af a]]=_;rw[Atd,Ap8,hmod]
  refine B6 ?_;exact D6 func236 rfl rfl
def stI(k:Nat):List Eg→List Nat
 |[]=>[]
 |e::l=>if e.t<0 then k::stI (k+1) l else stI (k+1) l
theorem Aib:∀(l l':List Eg)(k:Nat),stI k (l++l')=stI k l++stI (k+l.length) l'
 |[],l',k=>by simp[stI]
 |e::l,l',k=>by
  simp only[Pu,stI,Nl];rw[Aib l l' (k+1),show k+1+l.length=k+(l.length+1) by omega];split<;>simp
theorem Auw{l:List Eg}(h:∀e,e∈l→0≤e.t)(k:Nat):stI k l=[]:=by
 induction l generalizing k with
 |nil=>rfl
 |cons e l ih=>
  have:=h e (by simp);simp only[stI];rw[if_neg (by omega)];exact ih (fun x hx=>h x (by simp[hx])) (k+1)
theorem Amq:∀(l:List Eg)(k i:Nat),i∈stI k l→i<k+l.length
 |[],k,i,h=>by simp[stI]at h
 |e::l,k,i,h=>by
  simp only[stI]at h;simp only[Nl];split at h
  ·rcases zzq13.1 h with rfl|h
   ·omega
   ·have:=Amq l (k+1) i h;omega
  ·have:=Amq l (k+1) i h;omega
theorem Aou:∀(l:List Eg)(k:Nat),(stI k l).length≤l.length
 |[],k=>by simp[stI]
 |e::l,k=>by
  simp only[stI,Nl];have:=Aou l (k+1);split<;>simp<;>omega
def SI(g:Gr):Prop:=g.sts=stI 0 g.es
theorem Agq{g g':Gr}(h:SI g)(l:List Eg)(he:g'.es=g.es++l)(hl:∀e,e∈l→0≤e.t)(hs:g'.sts=g.sts):SI g':=by
 unfold SI at h⊢;rw[he,hs,h,Aib,Auw hl];simp
theorem Rr{g:Gr}(k:Int)(n:Nd)(h:SI g):SI (Dl k n g):=Agq h _ rfl (fun e he=>by simp at he;subst he;simp) rfl
theorem Agr{g:Gr}(p:Nat)(c:Nd)(y:Bool)(h:SI g):SI (D5 p c y g):=Agq h _ rfl (fun e he=>by simp at he;subst he;simp) rfl
theorem Av2{g:Gr}(p:Nat)(h:SI g):SI (Lc p g):=Agq h _ rfl (fun e he=>by simp at he;subst he;simp) rfl
theorem Av4{g:Gr}(p:Nat)(h:SI g):SI (Nw p g):=Agq h [⟨p,g.pts,6,false,Cg⟩,⟨g.pt,g.pts,6,false,Cg⟩] (by simp[Nw,Iu]) (fun e he=>by simp at he;rcases he with rfl|rfl<;>simp) rfl
theorem Av6{g:Gr}(h:SI g):SI (Ov g):=by
 unfold SI at h⊢;simp only[Ov];rw[h,Aib];simp[stI]
theorem Av5{g:Gr}(a n:Nd)(h:SI g):SI (Hm a n g):=h
theorem Av3{g:Gr}(i:Nat)(h:SI g):SI (Ub i g):=h
theorem Av1{l:List Nd}(h:∀x,x∈l→∀(a:Nd)(g:Gr),SI g→SI (gS x a g)):∀(a:Nd)(g:Gr),SI g→SI (gL l a g):=by
 induction l with
 |nil=>intro a g hg;exact hg
 |cons x l ih=>intro a g hg;rw[Yl];exact ih (fun y hy=>h y (by simp[hy])) x _ (h x (by simp) a g hg)
theorem A20{n:Nd}(h:PS n):∀(a:Nd)(g:Gr),SI g→SI (gS n a g):=by
 induction h with
 |set s b h hb=>intro a g hg;rw[Z5];exact Rr _ _ hg
 |put s b c h hb hc=>intro a g hg;rw[Z4];exact Rr _ _ hg
 |read s h=>intro a g hg;rw[Vk];exact Rr _ _ hg
 |ifs c l l' hc hl hl' ihl ihl'=>intro a g hg;rw[Ae7];unfold gIf;exact Av4 _ (Av1 ihl' _ _ (Agr _ _ _ (Av1 ihl _ _ (Agr _ _ _ hg))))
 |whil c l hc hl ihl=>intro a g hg;rw[Ae8];unfold gWh;exact Av3 _ (Agr _ _ _ (Av2 _ (Av1 ihl _ _ (Agr _ _ _ (Av5 _ _ (Rr 6 Cg hg))))))
 |check c hc=>intro a g hg;rw[Qk];exact Rr _ _ hg
 |skip=>intro a g hg;rw[Vl];exact Rr _ _ hg
 |stop=>intro a g hg;rw[Vm];exact Av6 hg
def Nh(x:Int):List Eg→List Nat→List Eg
 |l,[]=>l
 |l,i::s=>Nh x (l.modify i fun e=>{ e with t:=x }) s
theorem Adx(x:Int):∀(l:List Eg)(s:List Nat)(i:Nat),Nh x l (s++[i])=(Nh x l s).modify i fun e=>{ e with t:=x }
 |l,[],i=>rfl
 |l,j::s,i=>Adx x _ s i
theorem Aar(x:Int):∀(l:List Eg)(s:List Nat),(Nh x l s).length=l.length
 |l,[]=>rfl
 |l,j::s=>by simp only[Nh];rw[Aar];simp
theorem Afv(x:Int):∀(l pre:List Eg),Nh x (pre++l.map (Dy 0)) (stI pre.length l)=pre++l.map (Dy x)
 |[],pre=>by simp[stI,Nh]
 |e::l,pre=>by
  simp only[stI,Nz];have ih:=Afv x l (pre++[Dy x e]);have e1:(pre++[Dy x e]).length=pre.length+1:=by simp
  rw[e1]at ih;split
  ·rename_i ht;simp only[Nh];rw[Ade];have:(Dy 0 e::l.map (Dy 0)).modify 0 (fun e=>{ e with t:=x })=Dy x e::l.map (Dy 0):=by simp[Dy,ht]
   rw[this];simpa using ih
  ·rename_i ht;have:Dy 0 e=Dy x e:=by simp[Dy,ht]
   rw[this];simpa using ih
theorem Apt(e:Eg)(x:Int):(H4 e).take 1++[vi x]++(H4 e).drop (1+[vi x].length)=H4 { e with t:=x }:=by simp[H4]
theorem Al1{l:List Eg}{i:Nat}{e:Eg}(h:l[i]?=some e)(f:Eg→Eg):l.modify i f=l.set i (f e):=by
 apply Abo;intro j;rw[List.getElem?_modify,U4];by_cases hj:i=j
 ·subst hj;rw[h];simp[Aa h]
 ·simp[hj]
abbrev A3k(l:List Nd):List AV:=[vi (D4 l).pts,.sl (Fq (Lv l)) .no,vi (D4 l).pt,.sl (Uf (D4 l).sts) .no,.sl (Ki (D4 l).lps) .no]
theorem A06(P:Nd)(hne:P.kids≠[])(hps:∀x,x∈(Dp P).kids→PS x)(hw:wL (Dp P).kids≤10000000)(hk:P.kids.length≤1000000000) :
 Pure X 116 [nd P] (.cptr (A3k (Dp P).kids)):=by
 show Pure X 116 [nd P] (.cptr [vi (D4 (Dp P).kids).pts,.sl (Fq ((D4 (Dp P).kids).es.map (Dy (D4 (Dp P).kids).pt))) .no,vi (D4 (Dp P).kids).pt,.sl (Uf (D4 (Dp P).kids).sts) .no,.sl (Ki (D4 (Dp P).kids).lps) .no]);refine Pure.run func116 ?_;refine Xz (bx:=[[Af P],[[vi 1,.psl [] 0 0,vi 0,.sl [] .tight,.sl [] .tight]]]) (tk:=[0]) 1 0 1 ?_;refine Ej (bx:=[[Af P],[[vi 1,.psl [] 0 0,vi 0,.sl [] (.tok 1),.sl [] .tight]]]) (tk:=[0,0]) 1 0 3 rfl rfl rfl rfl rfl rfl ?_;refine Xz (bx:=[[Af P],mx 1 (iE ⟨1,0,[],[],[],0⟩) 0 [] [] 0]) (tk:=[0,0,0]) 1 0 4 ?_;refine Ie 3 (.ptr 1 0 0) ?_;refine Ie 9 (.ptr 1 0 0) ?_;have c0:Gc ⟨1,0,[],[],[],0⟩ (wL (Dp P).kids):=⟨⟨by decide,by show 1+_≤_;omega,by show 0+_≤_;omega⟩,by show 0+_≤_;omega,by show 0+_≤_;omega⟩
 have l0:=Mn hps Cg _ c0.b.pt;have s0:SI (gL (Dp P).kids Cg ⟨1,0,[],[],[],0⟩):=Av1 (fun x hx=>A20 (hps x hx)) _ _ rfl;refine Al (At6 P hne hk) ?_;refine Ae (τ':=[0,1,2]) [1] [0,1,2] (Ahk hps (fun x hx=>A07 (hps x hx)) _ c0) ?_;have c1:Gc (gL (Dp P).kids Cg ⟨1,0,[],[],[],0⟩) 0:=c0.step1 l0 (by simp only[bG];omega) (by simp only[bG];omega);have hA:D4 (Dp P).kids=Dl 6 Cg (gL (Dp P).kids Cg ⟨1,0,[],[],[],0⟩):=rfl;rw[hA];generalize gL (Dp P).kids Cg ⟨1,0,[],[],[],0⟩=g at *;have b1:=c1.b.pts;have b2:=c1.b.es;refine Ba ⟨[[Af P],mx g.pts (iE g) g.pt g.sts g.lps g.ver],[(iE g).length,g.sts.length,g.ver]⟩ ?_;refine Ae (τ':=[0,1,2]) [1] [0,1,2] (Ahj g (by omega) (by omega)) ?_;have s1:SI (Dl 6 Cg g):=Rr 6 Cg s0;have b3:(Dl 6 Cg g).es.length≤1000000001:=by simp[Dl];omega
 generalize Dl 6 Cg g=h at *;have hst:Nh h.pt (iE h) h.sts=h.es.map (Dy h.pt):=by
  rw[s1];exact Afv h.pt h.es []
 have hsl:h.sts.length≤h.es.length:=by rw[s1];exact Aou _ _
 have hslt:∀i,i∈h.sts→i<(iE h).length:=fun i hi=>by
  rw[s1]at hi;have:=Amq _ _ _ hi;rw[Ud];omega
 refine Ba ⟨[[Af P],[[vi h.pts,.psl (Fq (Nh h.pt (iE h) (h.sts.take 0))) 0 ((iE h).length+0),vi h.pt,.sl (Uf h.sts) (.tok 1),.psl (Ki h.lps) 2 h.ver]]],[(iE h).length+0,h.sts.length,h.ver]⟩ ?_;refine Av (ι:=Nat) 2 3 (fun i=>i≤h.sts.length) (fun i=>[(22,vi i),(21,vi h.sts.length),(20,.sl (Uf h.sts) (.tok 1)),(3,.ptr 1 0 0)])
  (fun i=>⟨[[Af P],[[vi h.pts,.psl (Fq (Nh h.pt (iE h) (h.sts.take i))) 0 ((iE h).length+i),vi h.pt,.sl (Uf h.sts) (.tok 1),.psl (Ki h.lps) 2 h.ver]]],[(iE h).length+i,h.sts.length,h.ver]⟩) (fun i=>h.sts.length-i) ?_ 0
  (Cc _) ⟨rfl,by rw[←N7 h.sts];rfl,rfl,rfl,trivial⟩
 intro i hi IH;refine Dh (fun h2=>?_) (fun h2=>?_)
 ·have hlt:i<h.sts.length:=by have:=A7 h2;omega
  obtain⟨k,hk⟩:=Ab h.sts hlt;have hkl:=hslt k (Bh hk);have hgk:(Uf h.sts)[i]?=some [vi k]:=by simp[Uf,hk]
  have hkr:k<(Fq (Nh h.pt (iE h) (h.sts.take i))).length:=by rw[K9,Aar];exact hkl
  obtain⟨e,he⟩:=Ab (Nh h.pt (iE h) (h.sts.take i)) (i:=k) (by rw[Aar];exact hkl);have hrow:=Gk he;have hsn:Nh h.pt (iE h) (h.sts.take (i+1))=(Nh h.pt (iE h) (h.sts.take i)).modify k fun e=>{ e with t:=h.pt }:=by
   rw[G7,hk];exact Adx _ _ _ _
  refine B7 i (by omega) hgk ?_;refine D8 4096 ?_;refine A0 (Abw (n:=k) hkr rfl (T8 _) rfl rfl rfl rfl rfl rfl rfl rfl) ?_;refine Ar ?_;refine Ch (Agp (b:=1) (r:=0) (g:=1) (xs:=[vi h.pt]) (bx:=[[Af P],[[vi h.pts,.psl (Fq (Nh h.pt (iE h) (h.sts.take (i+1)))) 0 ((iE h).length+(i+1)),vi h.pt,.sl (Uf h.sts) (.tok 1),.psl (Ki h.lps) 2 h.ver]]]) (tk':=[(iE h).length+(i+1),h.sts.length,h.ver])
   rfl hrow (by show 1+1≤8;omega) (fun z hz=>by simp at hz;subst hz;exact .val _) rfl rfl rfl ?_ rfl rfl rfl rfl rfl rfl rfl rfl rfl) ?_
  ·show [[Af P],[[vi h.pts,.psl ((Fq (Nh h.pt (iE h) (h.sts.take i))).set k ((H4 e).take 1++[vi h.pt]++(H4 e).drop (1+[vi h.pt].length))) 0 ((iE h).length+i+1),vi h.pt,.sl (Uf h.sts) (.tok 1),.psl (Ki h.lps) 2 h.ver]]]=_;rw[Apt,Ae1,hsn,Al1 he];rfl
  refine B6 ?_;exact IH (i+1) hlt (by omega) _ _ ⟨vsx (by omega),rfl,rfl,rfl,trivial⟩ rfl rfl rfl
 ·have:i=h.sts.length:=by have:=Bd h2;omega
  subst this;rw[I8,hst];exact Au func116 rfl
theorem Ap0(P:Nd)(hne:P.kids≠[])(hps:∀x,x∈(Dp P).kids→PS x)(hw:wL (Dp P).kids≤10000000)(hk:P.kids.length≤1000000000) :
 Pure X 105 [nd P] (.agg [vi (D4 (Dp P).kids).pts,.sl (Fq (Lv (Dp P).kids)) .no]):=by
 refine Pure.run func105 ?_;refine Al (A06 P hne hps hw hk) ?_;exact Au func105 rfl
end Go.V
namespace Go.V
open Go
section
variable {X:Cx}{E:Env}{S:St}{w:World}{F:C3}{N:Nat}{ops:Array Oper}{i:Nat}{o:Oper}{p q:Operand}
theorem Ik{t e n b:Nat}{ik ik':IntKind}{y ye:Ty}{bx:List (List (List AV))}(hn:n≤1000000000)(hb:S.boxes.length=b)(hbx:S.boxes++[List.replicate n ye.zero]=bx)(ho:ops[i]?=some o)(hw:A6 ops F o=some true)(hop:o.op=.makeSlice t p q)
 (hp:Dt X F p=some (.val (.int ik n)))(hq:Dt X F q=some (.val (.int ik' n)))(hy:X.ty t=some y)(hk:y.k=.slc e)(hye:X.ty e=some ye):Ndo X N ops i o F (.bsl b n) S ⟨bx,S.toks⟩:=by
 subst hbx;subst hb;intro F' E w a hl hI hF;have hlo:=Gs hl;rw[hop]at hlo;have r1:=Ak hI hF ((Di (X:=X) (F:=F) (F':=F') (o:=p) fun s hs=>hlo s (by simp[Op.operands,hs])).trans hp);have r2:=Ak hI hF ((Di (X:=X) (F:=F) (F':=F') (o:=q) fun s hs=>hlo s (by simp[Op.operands,hs])).trans hq);cases hh1:a.eval p<;>rw[hh1]at r1<;>cases r1;cases hh2:a.eval q<;>rw[hh2]at r2<;>cases r2;obtain⟨d,hd,hdd⟩:=(X.ty_ok t y hy).agg;simp only[hk]at hdd;obtain⟨rfl,ye',hye',hne⟩:=hdd;rw[hye]at hye';cases hye';obtain⟨z,hz,hzc,hzl,i',hi,hiz,his,hib⟩:=I6 hye w;have hzs:z.cells.size=ye.size:=by rw[←hzl,←hzc];simp
 have hbn:i'.bytes*n≤1024*n:=Tp _ hib;have hrun:=run_make (P:=X.P) w t e i' z hd hi hiz ik ik' (n:Int) (n:Int) (by omega) (Int.le_refl _) (by
  have:((i'.bytes*n:Nat):Int)≤281474976710656:=by omega
  rwa[Int.natCast_mul]at this) (by omega)
 simp only[Hc]at hrun;have hg0:Qb E w ye.size (madeCells z.cells (n*i'.size)) (List.replicate n ye.zero):=by
  refine Qm hzc hzl _ (by rw[size_madeCells,his]) (fun j hj=>?_);have hm:j%ye.size<z.cells.size:=by rw[hzs];exact Ws _ (Zc hne)
  unfold madeCells;rw[his];have hr0:(Array.range (n*ye.size))[j]?=some j:=by simp[hj]
  rw[Akg,hr0];simp only[Km];rw[hzs,getElem!_pos z.cells (j%ye.size) hm,Agc hm]
 obtain⟨ev,hI'⟩:=hI.newBox (w':=w.alloc (.cells (madeCells z.cells (n*i'.size)) e)) (cs:=madeCells z.cells (n*i'.size)) (e:=e) (sz:=ye.size) (rows:=List.replicate n ye.zero) rfl rfl rfl rfl hg0.1 hg0.2.1 hg0.2.2;refine Does.val ho (Cm hF (by rw[Cw hl];exact hw)) (v:=.slice (some ⟨w.heap.size,0,none⟩) n n) (by simp[execOp,hop,hh1,hh2,hrun]) (.inl rfl) ⟨_,hI',ev,?_⟩;exact .bsl S.boxes.length w.heap.size ye.size n n (by rw[←hI.nb];exact getElem?_snoc_new _ _) (Bo _)
end
end Go.V
