/- A part of the proof of the claim that the last text states: no condition of its own. -/
import Derived.Test.YtojhghmilenfkaaGreatDoorN1
set_option linter.unusedVariables false
set_option linter.unusedSimpArgs false
namespace Go.V
open Go
theorem K7{α:Type}(L vs:List α)(p i:Nat)(hp:p+vs.length≤L.length) :
 (L.take p++vs++L.drop (p+vs.length))[i]?=if p≤i∧i<p+vs.length then vs[i-p]? else L[i]?:=by
 have hm:min p L.length=p:=by omega
 rcases Gs i p with h|h
 ·rw[Fp,Cs (by simp;omega),Mb,if_pos h,if_neg (by omega)]
 ·rcases Gs i (p+vs.length)with h'|h'
  ·rw[Fp,Gk (by simp;omega),Cs (by simp;omega),if_pos ⟨h,h'⟩];simp[hm]
  ·rw[Gk (by simp;omega),if_neg (by omega)];simp only[Ex,Vd,hm,Nz];congr 1;omega
theorem K8{α:Type}(L vs:List α)(p:Nat)(hp:p+vs.length≤L.length):(L.take p++vs++L.drop (p+vs.length)).length=L.length:=by
 simp;omega
section
variable {X:Cx}{E:Env}{S:St}{w:World}{F:C5}{a:Act}{N:Nat}
theorem Y2(hI:Inv X E S w){t:Nat}{y:Ty}(hy:X.ty t=some y){u v:Value}{p x:AV}(hp:Rel E w u p)(hx:Rel E w v x){S':St}(h:U5 S y.size p x=some S') :
 ∃w',(Instr.storeAt t u v).run X.P w=.ok () w'∧Inv X E S' w'∧Evol E w E w' E.boxes.length E.toks.length:=by
 obtain⟨bx,tk⟩:=S;unfold U5 at h;split at h
 ·rename_i b r o;split at h
  ·rename_i xs hxs;split at h
   ·rename_i hl;dsimp only at h;split at h
    ·rename_i rows hrows;split at h
     ·rename_i cs hcs;rw[H8]at hrows hcs;obtain⟨h1,h2⟩:=Aca _ _ _ _ _ h;obtain⟨h3,h4⟩:=Acd _ _ _ _ _ h2;obtain⟨h5,h6⟩:=Acd _ _ _ _ _ h4;cases h6;have hl':xs.length=y.size:=Ve hl;obtain⟨hs,hr,hone⟩:=Hj hx hxs;cases hp with
      |ptr _ _ _ blk sz hb=>
       obtain⟨arr,e,hblk,hsz,hlen,hrel⟩:=hI.box b blk sz rows hb hrows;have hcl:=hlen cs (Bh hcs);have hvl:v.cells.toList.length=xs.length:=by simpa using hs
       have hin:r*sz+o+xs.length≤arr.toList.length:=by
        have:(r+1)*sz≤rows.length*sz:=Tq sz h3;rw[Rf,Nat.one_mul]at this;simp;omega
       have hst:=run_storeCells_at X.P blk (r*sz+o) e v.cells.toList 0 arr w hblk (by simp at hin⊢;omega) (fun u hu=>hone u (by simpa using hu));simp only[Px]at hst;have hlen0:((arr.toList.take (r*sz+o)++v.cells.toList++arr.toList.drop (r*sz+o+v.cells.toList.length)).toArray).size=(rows.set r (cs.take o++xs++cs.drop (o+xs.length))).length*sz:=by
        have:=K8 arr.toList v.cells.toList (r*sz+o) (by omega);rw[Abl,this,Agm];simpa using hsz
       have hall:∀q,q∈rows.set r (cs.take o++xs++cs.drop (o+xs.length))→q.length=sz:=by
        intro q hq;rcases Wt hq with h'|rfl
        ·exact hlen q h'
        ·rw[K8 cs xs o (by omega),hcl]
       have hrr:∀(k:Nat) (q:List AV) (j:Nat) (z:AV) (u:Value),(rows.set r (cs.take o++xs++cs.drop (o+xs.length)))[k]?=some q→q[j]?=some z →
        ((arr.toList.take (r*sz+o)++v.cells.toList++arr.toList.drop (r*sz+o+v.cells.toList.length)).toArray)[k*sz+j]?=some u→Rel E w u z:=by
        intro k q j z u hk hj hu;have hu':=hu;simp only[Rc]at hu';rw[K7 _ _ _ _ (by omega)]at hu';by_cases hkr:k=r
        ·subst hkr;have hq:q=cs.take o++xs++cs.drop (o+xs.length):=by simpa[h3]using hk.symm
         subst hq;rw[K7 _ _ _ _ (by omega)]at hj;split at hj
         ·rename_i hjj;rw[if_pos (by omega)]at hu';rw[show k*sz+j-(k*sz+o)=j-o by omega]at hu';exact hr (j-o) u z (by simpa using hu') hj
         ·rename_i hjj;rw[if_neg (by omega)]at hu';exact hrel k cs j z u hcs hj (by simpa using hu')
        ·have hk':rows[k]?=some q:=by simpa[Vb,Ne.symm hkr]using hk
         have hjl:j<sz:=by rw[←hlen q (Bh hk')];exact Aa hj
         have:=Aan hjl hkr;rw[if_neg (by omega)]at hu';exact hrel k q j z u hk' hj (by simpa using hu')
       obtain⟨ev,hI'⟩:=hI.setBox (w':=w.setRow blk (arr.toList.take (r*sz+o)++v.cells.toList++arr.toList.drop (r*sz+o+v.cells.toList.length)).toArray) hb hrows
        (rows':=rows.set r (cs.take o++xs++cs.drop (o+xs.length))) hblk rfl hlen0 hall hrr
       refine⟨_,?_,hI',ev⟩;have hsz':v.cells.size=y.size:=by omega
       simp[Instr.storeAt,Instr.sureAddr,storeVar,Dr hy,hsz',hst]
     ·cases h
    ·cases h
   ·cases h
  ·cases h
 ·cases h
theorem J7(d:Nat)(x:AV)(F:C5)(k:Nat):lk ((d,x)::F) k=if d=k then some x else lk F k:=by
 simp only[lk];by_cases h:d=k
 ·subst h;simp
 ·have:Nat.beq d k=false:=by
   cases hb:Nat.beq d k with
   |false=>rfl
   |true=>exact absurd (Ve hb) h
  simp[this,h]
theorem FR.step{E':Env}{w':World}(hF:FR E w F a N)(ev:Evol E w E' w' E.boxes.length E.toks.length):FR E' w' F a N:=
 ⟨hF.size,hF.nod.trans ev.df.symm,fun k x h=>let ⟨v,h1,h2⟩:=hF.rel k x h;⟨v,h1,h2.step ev⟩⟩
theorem FR.put(hF:FR E w F a N){d:Nat}(hd:d<N){v:Value}{x:AV}(hx:Rel E w v x):FR E w ((d,x)::F) (a.put (some d) v) N where
 size:=by simp[Act.put,hF.size]
 nod:=by simp[Act.put,hF.nod]
 rel k y h:=by
  rw[J7]at h;have hs:=hF.size;split at h
  ·rename_i hk;subst hk;cases h;exact⟨v,by simp[Act.put,hs,hd],hx⟩
  ·rename_i hk;obtain⟨u,h1,h2⟩:=hF.rel k y h;exact⟨u,by simp[Act.put,Array.getElem?_setIfInBounds_ne hk,h1],h2⟩
theorem Ahc(hI:Inv X E S w)(hF:FR E w F a N){o:Oper}{F':C5}{S':St}(h:Alw X N F S o=some (F',S')) :
 ∃nx v E' w',(execOp a.eval o).run X.P w=.ok nx w'∧(nx=.value v∨(nx=.skip∧v=undef))∧Inv X E' S' w'∧Evol E w E' w' E.boxes.length E.toks.length∧FR E' w' F' (a.put o.dst v) N:=by
 have main:∀d,o.dst=some d→(match Nat.blt d N with
  |true=>match Ej X F S o.op with
   |some x=>some ((d,x)::F,S)
   |none=>match Kl X F S o.op with
    |some (x,S')=>some ((d,x)::F,S')
    |none=>none
  |false=>none)=some (F',S')→∃nx v E' w',(execOp a.eval o).run X.P w=.ok nx w'∧(nx=.value v∨(nx=.skip∧v=undef))∧Inv X E' S' w'∧Evol E w E' w' E.boxes.length E.toks.length∧FR E' w' F' (a.put o.dst v) N:=by
  intro d hd h;split at h
  ·rename_i hlt;have hlt':d<N:=by simpa[Fw]using hlt
   split at h
   ·rename_i x hx;cases h;obtain⟨v,h1,h2⟩:=Aa6 hI hF hx;exact⟨_,v,E,w,h1,.inl rfl,hI,Evol.refl _ _ _ _,by rw[hd];exact hF.put hlt' h2⟩
   ·split at h
    ·rename_i x S'' hx;cases h;obtain⟨v,E',w',h1,h2,h3,h4⟩:=Aa5 hI hF hx;exact⟨_,v,E',w',h1,.inl rfl,h2,h3,by rw[hd];exact(hF.step h3).put hlt' h4⟩
    ·cases h
  ·cases h
 unfold Alw at h;split at h
 ·rename_i t p x ho;split at h
  ·rename_i hd;cases hy:X.ty t with
   |none=>simp[Q0,hy]at h
   |some y=>
    simp only[Q0,hy]at h;split at h
    ·rename_i p' hp;split at h
     ·rename_i x' hx;split at h
      ·rename_i S'' hs;cases h;obtain⟨w',h1,h2,h3⟩:=Y2 hI hy (Ak hI hF hp) (Ak hI hF hx) hs;exact⟨.skip,undef,E,w',by simp[execOp,ho,h1],.inr ⟨rfl,rfl⟩,h2,h3,by rw[hd];exact hF.step h3⟩
      ·cases h
     ·cases h
    ·cases h
  ·cases h
 ·split at h
  ·rename_i d hd;exact main d hd h
  ·cases h
end
structure Bx where
 f:FuncId
 fn:Func
 n:Nat
 m:Nat
inductive AE where
 |ret (r:AV)
 |panic (chain:List PanicEntry)
 |hook (C:List Frame→Frame→Env→World→Machine→Prop)
def Aiu(X:Cx)(E:Env)(w:World)(n m:Nat)(R:AE→St→Prop)(e:Ending)(w':World):Prop:=
 ∃E' S',Inv X E' S' w'∧Evol E w E' w' n m∧(match e with
  |.returned v=>∃r,Rel E' w' v r∧R (.ret r) S'
  |.panicked ch=>R (.panic ch) S'
  |.outgrown=>False)
def Ahw(P:Program)(fr:Frame)(w:World)(D:List Deferred)(κ:CallKind):Ending→Prop
 |.returned v=>fr.mode=.returning∧fr.defers=D∧fr.kind=κ∧∃fn,P.funcs[fr.fn]?=some fn∧(results fn fr.tmps).run P w=.ok v w
 |.panicked ch=>fr.mode=.panicking ch∧fr.defers=D∧∃fn,P.funcs[fr.fn]?=some fn
 |.outgrown=>True
theorem Ajn{P:Program}{fr:Frame}{w:World}{e:Ending}(h:Ahw P fr w [] .normal e):fr.leaving P w e:=by
 cases e with
 |returned v=>exact h
 |panicked ch=>exact h
 |outgrown=>exact trivial
def Fin(X:Cx)(B:Bx)(R:AE→St→Prop)(E:Env)(w:World)(b:Frame)(cs:List Frame)(st:Machine):Prop:=
 (∃e w' fr,Aiu X E w B.n B.m R e w'∧Comes X.P st (lone fr cs w') e∧fr.fn=B.f∧Ahw X.P fr w' E.df b.kind e) ∨
 ∃C,R (.hook C) ⟨[],[]⟩∧(∀(E:Env) (w:World) (E':Env) (w':World) (st st':Machine),Steps X.P st st'→Evol E w E' w' B.n B.m→C cs b E' w' st'→C cs b E w st)∧C cs b E w st
def AK(X:Cx)(B:Bx)(K:List Item)(F:C5)(S:St)(R:AE→St→Prop):Prop:=
 ∀(E:Env) (w:World) (a:Act) (b:Frame) (cs:List Frame),Inv X E S w→FR E w F a B.fn.ntmps→B.n≤S.boxes.length→B.m≤S.toks.length→b.fn=B.f →
  Fin X B R E w b cs (lone (b.at a K) cs w)
def ACalls(X:Cx)(f:FuncId)(args:List AV)(S:St)(R:AE→St→Prop):Prop:=
 ∀(E:Env) (w:World) (vs:Array Value),E.df=[]→Inv X E S w→vs.size=args.length→(∀(j:Nat) (v:Value) (x:AV),vs[j]?=some v→args[j]?=some x→Rel E w v x) →
  Calls X.P f vs w (Aiu X E w S.boxes.length S.toks.length R)
section
variable {X:Cx}{B:Bx}{E:Env}{S:St}{w:World}{F:C5}{a:Act}{N:Nat}{R:AE→St→Prop}
theorem Evol.len{E':Env}{w':World}(ev:Evol E w E' w' E.boxes.length E.toks.length):E.boxes.length≤E'.boxes.length∧E.toks.length≤E'.toks.length:=by
 constructor
 ·rcases Gs E'.boxes.length E.boxes.length with h|h
  ·have:=(ev.boxes E'.boxes.length h h).1;omega
  ·exact h
 ·rcases Gs E'.toks.length E.toks.length with h|h
  ·obtain⟨k',hk',_⟩:=ev.toks E'.toks.length h E.toks[E'.toks.length] (by simp[h]);simp at hk'
  ·exact h
theorem Fin.from{E':Env}{w':World}{b:Frame}{cs:List Frame}{st st':Machine}(hs:Steps X.P st st')(ev:Evol E w E' w' B.n B.m)(h:Fin X B R E' w' b cs st'):Fin X B R E w b cs st:=by
 rcases h with⟨e,w2,fr,⟨E2,S2,h1,h2,h3⟩,d2,d3,d4⟩|⟨C,h1,h2,h3⟩
 ·exact .inl ⟨e,w2,fr,⟨E2,S2,h1,ev.trans h2,h3⟩,Comes.of_steps hs d2,d3,ev.df▸d4⟩
 ·exact .inr ⟨C,h1,h2,h2 _ _ _ _ _ _ hs ev h3⟩
theorem P1{K K':List Item}{F':C5}{S':St}(hk:AK X B K' F' S' R)
 (h:∀(E:Env)(w:World)(a:Act)(b:Frame)(cs:List Frame),Inv X E S w→FR E w F a B.fn.ntmps→b.fn=B.f →
   ∃E' w' a',Steps X.P (lone (b.at a K) cs w) (lone (b.at a' K') cs w')∧Inv X E' S' w'∧Evol E w E' w' E.boxes.length E.toks.length∧FR E' w' F' a' B.fn.ntmps):AK X B K F S R:=by
 intro E w a b cs hI hF hn hm hb;obtain⟨E',w',a',h1,h2,h3,h4⟩:=h E w a b cs hI hF hb;have hl:=h3.len;have nt:E.toks.length=S.toks.length:=by rw[←hI.nt];simp
 have nt':E'.toks.length=S'.toks.length:=by rw[←h2.nt];simp
 exact Fin.from h1 (h3.weaken (by rw[hI.nb];exact hn) (by omega)) (hk E' w' a' b cs h2 h4 (by rw[←h2.nb];have:=hI.nb;omega) (by omega) hb)
theorem Ks{K K':List Item}(hk:AK X B K' F S R)(h:∀(w:World)(a:Act)(b:Frame)(cs:List Frame),Go.step X.P (lone (b.at a K) cs w)=.next (lone (b.at a K') cs w)):AK X B K F S R:=
 P1 hk fun E w a b cs hI hF _=>⟨E,w,a,.one (h w a b cs),hI,Evol.refl _ _ _ _,hF⟩
theorem Akk{b:Frame}{k:List Item}{cs:List Frame}{ops:Array Oper}{i:Nat}{rest:List Nat}{o:Oper}(ho:ops[i]?=some o)
 (hw:Region.wanted o (yielded ops a.tmps)=true){nx:Next}{v:Value}{w':World}(hr:(execOp a.eval o).run X.P w=.ok nx w')(hn:nx=.value v∨(nx=.skip∧v=undef)) :
 Go.step X.P (lone (b.at a (.inRegion ops (i::rest)::k)) cs w)=.next (lone (b.at (a.put o.dst v) (.inRegion ops rest::k)) cs w'):=by
 have hg:=stepG_op (P:=X.P) (b:=b) (k:=k) (cs:=cs) (w:=w) (rest:=rest) ho hw;have hfin:(b.at a (.inRegion ops (i::rest)::k)).finish v=b.at (a.put o.dst v) (.inRegion ops rest::k):=by
  rw[Frame.finish_at,ho];rfl
 refine step_lone_go ?_;rw[hg,←hfin];rcases hn with rfl|⟨rfl,rfl⟩
 ·simp[stepG.apply,hr]
 ·simp[stepG.apply,hr]
theorem Cr{ops:Array Oper}{o:Oper}{t:Bool}(hF:FR E w F a N)(h:A8 ops F o=some t):Region.wanted o (yielded ops a.tmps)=t:=by
 unfold A8 at h;unfold Region.wanted;split at h
 ·rename_i hg;cases h;simp[hg]
 ·rename_i j want hg;simp only[hg];split at h
  ·rename_i oj hj;split at h
   ·rename_i d hd;split at h
    ·rename_i hl;cases h;obtain⟨v,hv,hr⟩:=hF.rel d _ hl;cases hr;have:yielded ops a.tmps j=some true:=by simp[yielded,hj,hd,hv]
     rw[this];cases t<;>rfl
    ·rename_i hl;cases h;obtain⟨v,hv,hr⟩:=hF.rel d _ hl;cases hr;have:yielded ops a.tmps j=some false:=by simp[yielded,hj,hd,hv]
     rw[this];cases want<;>rfl
    ·rename_i hl;cases h;obtain⟨v,hv,hr⟩:=hF.rel d _ hl;cases hr;have:yielded ops a.tmps j=none:=by simp[yielded,hj,hd,hv]
     rw[this];rfl
    ·cases h
   ·cases h
  ·cases h
theorem Xq{b:Frame}{k:List Item}{cs:List Frame}{ops:Array Oper}{i:Nat}{rest:List Nat}{o:Oper}(ho:ops[i]?=some o)
 (hw:Region.wanted o (yielded ops a.tmps)=false) :
 Go.step X.P (lone (b.at a (.inRegion ops (i::rest)::k)) cs w)=.next (lone (b.at (a.put o.dst undef) (.inRegion ops rest::k)) cs w):=by
 have:=step_op_skip (P:=X.P) (b:=b) (a:=a) (k:=k) (cs:=cs) (w:=w) (ops:=ops) (i:=i) (rest:=rest) (by simp[ho,hw]);simpa[ho]using this
theorem Ho:∀(n:Nat)(K:List Item)(F:C5)(S:St),AK X B (ev X B.fn.ntmps n K F S).1 (ev X B.fn.ntmps n K F S).2.1 (ev X B.fn.ntmps n K F S).2.2 R→AK X B K F S R
 |0,K,F,S,h=>h
 |n+1,K,F,S,h=>by
  unfold ev at h;split at h
  ·exact Ks (Ho n _ _ _ h) fun w a b cs=>step_skip
  ·exact Ks (Ho n _ _ _ h) fun w a b cs=>step_label
  ·exact Ks (Ho n _ _ _ h) fun w a b cs=>step_inBlock
  ·exact Ks (Ho n _ _ _ h) fun w a b cs=>step_lone_go (by simp[stepG,stepG.exec,Frame.at])
  ·exact Ks (Ho n _ _ _ h) fun w a b cs=>step_seq
  ·exact Ks (Ho n _ _ _ h) fun w a b cs=>step_block
  ·split at h
   ·rename_i k' hx;exact Ks (Ho n _ _ _ h) fun w a b cs=>step_exit hx
   ·exact h
  ·split at h
   ·rename_i hc;refine P1 (Ho n _ _ _ h) fun E w a b cs hI hF _=>?_;obtain⟨v,hv,hr⟩:=hF.rel _ _ hc;cases hr;exact⟨E,w,a,.one (step_cond (t:=true) (by simp[Act.eval,hv])),hI,Evol.refl _ _ _ _,hF⟩
   ·rename_i hc;refine P1 (Ho n _ _ _ h) fun E w a b cs hI hF _=>?_;obtain⟨v,hv,hr⟩:=hF.rel _ _ hc;cases hr;exact⟨E,w,a,.one (step_cond (t:=false) (by simp[Act.eval,hv])),hI,Evol.refl _ _ _ _,hF⟩
   ·exact h
  ·exact Ks (Ho n _ _ _ h) fun w a b cs=>step_region
  ·exact Ks (Ho n _ _ _ h) fun w a b cs=>step_region_end
  ·split at h
   ·rename_i o ho;split at h
    ·rename_i hw;split at h
     ·rename_i F' S' he;refine P1 (Ho n _ _ _ h) fun E w a b cs hI hF _=>?_;obtain⟨nx,v,E',w',h1,h2,h3,h4,h5⟩:=Ahc hI hF he;exact⟨E',w',_,.one (Akk ho (Cr hF hw) h1 h2),h3,h4,h5⟩
     ·exact h
    ·rename_i hw;split at h
     ·rename_i d hd;split at h
      ·rename_i hlt;refine P1 (Ho n _ _ _ h) fun E w a b cs hI hF _=>?_;exact⟨E,w,_,.one (Xq ho (Cr hF hw)),hI,Evol.refl _ _ _ _,by rw[hd];exact hF.put (by simpa[Fw]using hlt) (.val undef)⟩
      ·exact h
     ·rename_i hd;refine P1 (Ho n _ _ _ h) fun E w a b cs hI hF _=>?_;exact⟨E,w,_,.one (Xq ho (Cr hF hw)),hI,Evol.refl _ _ _ _,by rw[hd];exact hF⟩
    ·exact h
   ·exact h
  ·exact h
theorem Bi{K K':List Item}{F':C5}{S':St}(n:Nat)(h:ev X B.fn.ntmps n K F S=(K',F',S'))(hk:AK X B K' F' S' R):AK X B K F S R:=
 Ho n K F S (by rw[h];exact hk)
end
section
variable {X:Cx}{B:Bx}{E:Env}{S:St}{w:World}{F:C5}{a:Act}{N:Nat}{R:AE→St→Prop}
def Env.drop(E:Env)(n m:Nat):Env:={ E with boxes:=E.boxes.take n,toks:=E.toks.take m }
def St.drop(S:St)(n m:Nat):St:=⟨S.boxes.take n,S.toks.take m⟩
def He(n m:Nat)(rows:List (List AV)):Prop:=∀r,r∈rows→∀x,x∈r→Ok n m x
theorem Gj{α:Type}{l:List α}{n i:Nat}{x:α}(h:(l.take n)[i]?=some x):i<n∧l[i]?=some x:=by
 rw[Mb]at h;split at h
 ·exact⟨by assumption,h⟩
 ·cases h
theorem Rl{n m b:Nat}(h:(E.drop n m).own b):E.own b:=by
 rcases h with⟨i,s,h⟩|⟨t,l,c,s,h⟩
 ·exact .inl ⟨i,s,(Gj h).2⟩
 ·exact .inr ⟨t,l,c,s,(Gj h).2⟩
theorem Aax{n m b o:Nat}(h:(E.drop n m).mt b o):E.mt b o:=by
 rcases h with h|⟨i,s,h⟩|⟨t,l,c,s,h,h'⟩
 ·exact .inl h
 ·exact .inr (.inl ⟨i,s,(Gj h).2⟩)
 ·exact .inr (.inr ⟨t,l,c,s,(Gj h).2,h'⟩)
theorem Evol.drop(E:Env)(w:World)(n m:Nat):Evol E w (E.drop n m) w n m where
 fr:=rfl
 boxes i hi hl:=⟨by simp[Env.drop];omega,fun x hx=>by simp[Env.drop,Mb,hi,hx]⟩
 toks t ht k hk:=⟨k,by simp[Env.drop,Mb,ht,hk],.inl rfl⟩
 os:=rfl
 tape:=rfl
 output:=rfl
 size:=Bo _
 block _ _ _:=rfl
 cell _ _ _ _ h:=h
 mt _ _ _ h:=Aax h
 own _ _ h:=Rl h
 df:=rfl
 ty _ _ h:=h
 pv _ _ _ _ _ _ _ _ _ h:=h
theorem Rel.drop{n m:Nat}{v:Value}{x:AV}(h:Rel E w v x)(ho:Ok n m x):Rel (E.drop n m) w v x:=h.mono (Evol.drop E w n m) ho
theorem Inv.drop(hI:Inv X E S w){n m:Nat}(hb:∀rows,rows∈S.boxes.take n→He n m rows):Inv X (E.drop n m) (S.drop n m) w where
 nb:=by simp[Env.drop,St.drop,hI.nb]
 nt:=by simp only[Env.drop,St.drop,List.map_take,hI.nt]
 np i hi:=by
  simp only[Env.drop,Vd]at hi⊢;rw[Mb,if_pos (by omega)];exact hI.np i (by omega)
 box i b sz rows h1 h2:=by
  obtain⟨cs,e,hh,hs,hl,hr⟩:=hI.box i b sz rows (Gj h1).2 (Gj h2).2;exact⟨cs,e,hh,hs,hl,fun k r j x v h3 h4 h5=>(hr k r j x v h3 h4 h5).drop (hb rows (Bh h2) r (Bh h3) x (Bh h4))⟩
 tok t l b c sz h:=hI.tok t l b c sz (Gj h).2
 bb i j b s s' h1 h2:=hI.bb i j b s s' (Gj h1).2 (Gj h2).2
 bt i t b s l c sz h1 h2:=hI.bt i t b s l c sz (Gj h1).2 (Gj h2).2
 tt i j b l c s l' c' s' h1 h2:=hI.tt i j b l c s l' c' s' (Gj h1).2 (Gj h2).2
 frlt b o h:=⟨fun h'=>(hI.frlt b o h).1 (Rl h'),(hI.frlt b o h).2⟩
 lo b h:=hI.lo b (Rl h)
 frlo:=hI.frlo
 sz:=hI.sz
 glob:=hI.glob
inductive Fz (S:St)(n m:Nat):AV→AV→Prop where
 |same (x:AV) (h:Ok n m x):Fz S n m x x
 |strip (rows rows':List (List AV)) (sp:Sp) (hl:rows'.length=rows.length) (hll:∀(i:Nat) (r r':List AV),rows[i]?=some r→rows'[i]?=some r'→r'.length=r.length)
   (hz:∀(i j:Nat)(r r':List AV)(x y:AV),rows[i]?=some r→rows'[i]?=some r'→r[j]?=some x→r'[j]?=some y→Fz S n m x y):Fz S n m (.sl rows sp) (.sl rows' .no)
 |ptr (b r o:Nat) (rows:List (List AV)) (cs cs':List AV) (hb:n≤b) (hS:S.boxes[b]?=some rows) (hr:rows[r]?=some cs) (hl:cs'.length=(cs.drop o).length)
   (hz:∀(j:Nat)(x y:AV),(cs.drop o)[j]?=some x→cs'[j]?=some y→Fz S n m x y):Fz S n m (.ptr b r o) (.cptr cs')
 |bsl (b k:Nat) (rows rows':List (List AV)) (hb:n≤b) (hS:S.boxes[b]?=some rows) (hk:k≤rows.length) (hkm:k≤Pg) (hl:rows'.length=k)
   (hll:∀(i:Nat)(r r':List AV),rows[i]?=some r→rows'[i]?=some r'→r'.length=r.length)
   (hz:∀(i j:Nat)(r r':List AV)(x y:AV),rows[i]?=some r→rows'[i]?=some r'→r[j]?=some x→r'[j]?=some y→Fz S n m x y):Fz S n m (.bsl b k) (.sl rows' .no)
 |psl (rows:List (List AV)) (t v:Nat) (ht:m≤t) (hS:S.toks[t]?=some v) (ho:He n m rows):Fz S n m (.psl rows t v) (.sl rows .no)
 |agg (cs cs':List AV) (hl:cs'.length=cs.length) (hz:∀(j:Nat) (x y:AV),cs[j]?=some x→cs'[j]?=some y→Fz S n m x y):Fz S n m (.agg cs) (.agg cs')
 |tup (cs cs':List AV) (hl:cs'.length=cs.length) (hz:∀(j:Nat) (x y:AV),cs[j]?=some x→cs'[j]?=some y→Fz S n m x y):Fz S n m (.tup cs) (.tup cs')
 |fn (f:FuncId) (cs cs':List AV) (hl:cs'.length=cs.length) (hz:∀(j:Nat) (x y:AV),cs[j]?=some x→cs'[j]?=some y→Fz S n m x y):Fz S n m (.fn f cs) (.fn f cs')
theorem Ab{α:Type}(l:List α){i:Nat}(h:i<l.length):∃x,l[i]?=some x:=⟨l[i],by simp[h]⟩
theorem Fz.rel(hI:Inv X E S w){n m:Nat}{x y:AV}(h:Fz S n m x y):∀{v:Value},Rel E w v x→Rel (E.drop n m) w v y:=by
 have nomt:∀{b blk sz:Nat},n≤b→E.boxes[b]?=some (some (blk,sz))→∀o,¬(E.drop n m).mt blk o:=fun{b blk sz} hb hB o hm=>by
  rcases hm with h|⟨i,s,h⟩|⟨t,l,c,s,h,_⟩
  ·exact(hI.frlt _ _ h).1 (.inl ⟨b,sz,hB⟩)
  ·have:=hI.bb _ _ _ _ _ (Gj h).2 hB;have:=(Gj h).1;omega
  ·exact hI.bt _ _ _ _ _ _ _ hB (Gj h).2
 induction h with
 |same x h=>exact fun hx=>hx.drop h
 |strip rows rows' sp hl hll hz ih=>
  intro v hx;cases hx with
  |sl _ _ a n cap b o sz vals hn hx ha hsz hm hc hr hs hcap=>
   refine .sl rows' .no a n cap b o sz vals (by omega) hx ha (fun r hr'=>?_) (fun i j hi hj hh=>hm i j hi hj (Aax hh)) hc (fun i j r' y hi hj=>?_) trivial hcap
   ·obtain⟨i,hi⟩:=Bs hr';obtain⟨r0,hr0⟩:=Ab rows (i:=i) (by have:=Aa hi;omega);rw[hll i r0 r hr0 hi];exact hsz r0 (Bh hr0)
   ·obtain⟨r0,hr0⟩:=Ab rows (i:=i) (by have:=Aa hi;omega);obtain⟨x,hx'⟩:=Ab r0 (i:=j) (by have:=Aa hj;have:=hll i r0 r' hr0 hi;omega);exact ih i j r0 r' x y hr0 hi hx' hj (hr i j r0 x hr0 hx')
 |ptr b r o rows cs cs' hb hS hr hl hz ih=>
  intro v hx;cases hx with
  |ptr _ _ _ blk sz hB=>
   obtain⟨arr,e,hh,hs,hlen,hrel⟩:=hI.box b blk sz rows hB hS;have hcl:=hlen cs (Bh hr);have hr':=Aa hr;simp only[Ad9]at hl;have hin:∀j,j<cs'.length→r*sz+o+j<arr.size:=fun j hj=>by
    have:=I6 (sz:=sz) hr' (show o+j<sz by omega);omega
   refine .cptr cs' blk (r*sz+o) (fun j=>arr.getD (r*sz+o+j) default) (fun j _=>nomt hb hB _) (fun j hj=>?_) (fun j y hy=>?_)
   ·have:=hin j hj;simp[World.cell?,hh,this,Array.getD]
   ·have hj:=Aa hy;have hi:=hin j hj;obtain⟨x,hx⟩:=Ab (cs.drop o) (i:=j) (by simp;omega);exact ih j x y hx hy (hrel r cs (o+j) x _ hr (by simpa using hx) (by rw[←Mj];simp[hi,Array.getD]))
 |bsl b k rows rows' hb hS hk hkm hl hll hz ih=>
  intro v hx;cases hx with
  |bsl _ blk sz _ cap hB hcap=>
   obtain⟨arr,e,hh,hs,hlen,hrel⟩:=hI.box b blk sz rows hB hS;have hin:∀i j,i<k→j<sz→i*sz+j<arr.size:=fun i j hi hj=>by
    have:=I6 (sz:=sz) (show i<rows.length by omega) hj;omega
   refine .sl rows' .no _ k cap blk 0 sz (fun i j=>arr.getD (i*sz+j) default) (by omega) hkm (fun _=>rfl) (fun r' hr'=>?_) (fun i j _ _=>nomt hb hB _) (fun i j hi hj=>?_) (fun i j r' y hr' hy=>?_) trivial hcap
   ·obtain⟨i,hi⟩:=Bs hr';obtain⟨r,hr⟩:=Ab rows (i:=i) (by have:=Aa hi;omega);rw[hll i r r' hr hi];exact hlen r (Bh hr)
   ·have:=hin i j hi hj;rw[Jy];simp[World.cell?,hh,this,Array.getD]
   ·have hi:=Aa hr';obtain⟨r,hr⟩:=Ab rows (i:=i) (by omega);have hjl:=Aa hy;rw[hll i r r' hr hr']at hjl;obtain⟨x,hx⟩:=Ab r hjl;have hjs:j<sz:=by rw[←hlen r (Bh hr)];exact hjl
    have:=hin i j (by omega) hjs;exact ih i j r r' x y hr hr' hx hy (hrel i r j x _ hr hx (by simp[this,Array.getD]))
 |psl rows t ver ht hS ho=>
  intro v hx;cases hx with
  |psl _ _ _ a n' cap k sz vals hn hx hcap hk hv hsz hp hr hf=>
   have hkl:ver=k.len:=by
    have h1:=hI.nt;have h2:(E.toks.map Tk.len)[t]?=some k.len:=by simp[hk]
    rw[h1,hS]at h2;exact Option.some.inj h2
   have hp:=hp hkl;obtain⟨kl,ksp⟩:=k;have hrel:∀(i j:Nat) (r:List AV) (x:AV),rows[i]?=some r→r[j]?=some x→Rel (E.drop n m) w (vals i j) x:=fun i j r x h1 h2=>
    (hr i j r x h1 h2).drop (ho r (Bh h1) x (Bh h2))
   cases ksp with
   |none=>
    obtain⟨rfl,rfl⟩:=hp;exact .sl rows .no a 0 0 0 0 sz vals hn hx (fun h=>absurd rfl h) hsz (fun i j hi=>by omega) (fun i j hi=>by omega) hrel trivial hcap
   |some q=>
    obtain⟨b,c,s⟩:=q;obtain⟨_,rfl,rfl,rfl,cs,e,hh,hcs,hcl⟩:=hp;refine .sl rows .no _ n' c b 0 sz vals hn hx (fun _=>rfl) hsz (fun i j _ _ hm=>?_) (fun i j hi hj=>?_) hrel trivial hcap
    ·rcases hm with h|⟨i,s,h⟩|⟨t',l,c',s,h,_⟩
     ·exact(hI.frlt _ _ h).1 (.inr ⟨t,kl,c,0,hk⟩)
     ·exact hI.bt _ _ _ _ _ _ _ (Gj h).2 hk
     ·have:=hI.tt _ _ _ _ _ _ _ _ _ (Gj h).2 hk;have:=(Gj h).1;omega
    ·rw[Jy];simp only[World.cell?,hh];exact hcl i j hi hj
 |agg cs cs' hl hz ih=>
  intro v hx;cases hx with
  |agg vs _ hl' hr=>
   refine .agg vs cs' (by omega) (fun j v y hv hy=>?_);obtain⟨x,hx⟩:=Ab cs (i:=j) (by have:=Aa hy;omega);exact ih j x y hx hy (hr j v x hv hx)
 |tup cs cs' hl hz ih=>
  intro v hx;cases hx with
  |tup vs _ hl' hr=>
   refine .tup vs cs' (by omega) (fun j v y hv hy=>?_);obtain⟨x,hx⟩:=Ab cs (i:=j) (by have:=Aa hy;omega);exact ih j x y hx hy (hr j v x hv hx)
 |fn f cs cs' hl hz ih=>
  intro v hx;cases hx with
  |fn _ vs _ hl' hr=>
   refine .fn f vs cs' (by omega) (fun j v y hv hy=>?_);obtain⟨x,hx⟩:=Ab cs (i:=j) (by have:=Aa hy;omega);exact ih j x y hx hy (hr j v x hv hx)
def Mf(X:Cx)(F:C5)(S:St):List ResultVar→Option (List AV)
 |[]=>some []
 |.tmp t::l=>match lk F t with
  |some x=>match Mf X F S l with
   |some xs=>some (x::xs)
   |none=>none
  |none=>none
 |.cell t ty::l=>match lk F t with
  |some p=>match Q0 X ty with
   |some (sz,agg)=>match Ti S sz agg p with
    |some x=>match Mf X F S l with
     |some xs=>some (x::xs)
     |none=>none
    |none=>none
   |none=>none
  |none=>none
def C8:List AV→AV
 |[x]=>x
 |xs=>.tup xs
theorem Ai0(t:TypeId)(v:Value)(u:Value)(w':World)(h:(Instr.loadAt t v).run X.P w=.ok u w'):(do loadVar t (←asAddr v):Sem Value).run X.P w=.ok u w':=by
 cases v<;>try (simp[Instr.loadAt,Instr.sureAddr]at h;done)
 rename_i p;cases p with
 |none=>simp[Instr.loadAt,Instr.sureAddr]at h
 |some p=>simpa[Instr.loadAt,Instr.sureAddr,asAddr]using h
def Aaj(tmps:Array Value):ResultVar→Sem Value
 |.tmp t=>pure (tmps.getD t undef)
 |.cell p t=>do loadVar t (←asAddr (tmps.getD p undef))
theorem Amt(fn:Func)(tmps:Array Value):results fn tmps=(do
 let vs ←fn.results.mapM (Aaj tmps)
 pure (if h:vs.size=1 then vs[0]else .tuple vs)):=by
 have:(fun(x:ResultVar)=>match x with
  |.tmp t=>pure (tmps.getD t undef)
  |.cell a t=>do loadVar t (←asAddr (tmps.getD a undef)))=Aaj tmps:=by
  funext x;cases x<;>rfl
 unfold results;rw[←this];rfl
theorem Xm(hI:Inv X E S w)(hF:FR E w F a N):∀(l:List ResultVar)(xs:List AV),Mf X F S l=some xs →
 ∃vs:List Value,(l.mapM (Aaj a.tmps)).run X.P w=.ok vs w∧vs.length=xs.length∧∀(j:Nat) (v:Value) (x:AV),vs[j]?=some v→xs[j]?=some x→Rel E w v x
 |[],xs,h=>by simp[Mf]at h;subst h;exact⟨[],by simp,rfl,fun j v x hv=>by simp at hv⟩
 |.tmp t::l,xs,h=>by
  simp only[Mf]at h;split at h
  ·rename_i x hx;split at h
   ·rename_i xs' hxs;cases h;obtain⟨vs,h1,h2,h3⟩:=Xm hI hF l xs' hxs;obtain⟨v,hv,hr⟩:=hF.rel t x hx;have hone:(Aaj a.tmps (.tmp t)).run X.P w=.ok v w:=by simp[Aaj,hv]
    refine⟨v::vs,?_,by simp[h2],fun j u y hu hy=>?_⟩
    ·simp[List.mapM_cons,hone,h1]
    ·cases j with
     |zero=>simp at hu hy;subst hu;subst hy;exact hr
     |succ j=>exact h3 j u y (by simpa using hu) (by simpa using hy)
   ·cases h
  ·cases h
 |.cell t ty::l,xs,h=>by
  simp only[Mf]at h;split at h
  ·rename_i p hp;cases hy:X.ty ty with
   |none=>simp[Q0,hy]at h
   |some y=>
    simp only[Q0,hy]at h;split at h
    ·rename_i x hx;split at h
     ·rename_i xs' hxs;cases h;obtain⟨vs,h1,h2,h3⟩:=Xm hI hF l xs' hxs;obtain⟨v,hv,hr⟩:=hF.rel t p hp;obtain⟨u,hu,hru⟩:=Aa9 hI hy hr hx;have hu':=Ai0 ty v u w hu;have hv':a.tmps.getD t undef=v:=by simp[hv]
      have hone:(Aaj a.tmps (.cell t ty)).run X.P w=.ok u w:=by
       show (do loadVar ty (←asAddr (a.tmps.getD t undef)):Sem Value).run X.P w=.ok u w;rw[hv'];exact hu'
      refine⟨u::vs,?_,by simp[h2],fun j u' y' hu' hy'=>?_⟩
      ·simp[List.mapM_cons,hone,h1]
      ·cases j with
       |zero=>simp at hu' hy';subst hu';subst hy';exact hru
       |succ j=>exact h3 j u' y' (by simpa using hu') (by simpa using hy')
     ·cases h
    ·cases h
  ·cases h
theorem M8(hI:Inv X E S w)(hF:FR E w F a N){fn:Func}{xs:List AV}(h:Mf X F S fn.results.toList=some xs) :
 ∃v,(results fn a.tmps).run X.P w=.ok v w∧Rel E w v (C8 xs):=by
 obtain⟨vs,h1,h2,h3⟩:=Xm hI hF _ xs h;have hm:(results fn a.tmps).run X.P w=.ok (if h:vs.length=1 then vs[0]else .tuple vs.toArray) w:=by
  rw[Amt,Array.mapM_eq_mapM_toList];simp[h1]
 refine⟨_,hm,?_⟩;by_cases h1':vs.length=1
 ·rw[dif_pos h1'];have:∃x,xs=[x]:=by
   rw[h1']at h2;cases xs with
   |nil=>simp at h2
   |cons x l=>cases l with
    |nil=>exact⟨x,rfl⟩
    |cons y l=>simp at h2
  obtain⟨x,rfl⟩:=this;exact h3 0 _ x (by simp) rfl
 ·rw[dif_neg h1'];have:C8 xs=.tup xs:=by
   cases xs with
   |nil=>rfl
   |cons x l=>cases l with
    |nil=>exact absurd (by simpa using h2) h1'
    |cons y l=>rfl
  rw[this];exact .tup _ _ (by simp[h2]) (fun j v x hv hx=>h3 j v x (by simpa using hv) hx)
theorem Akf(hI:Inv X E S w)(hF:FR E w F a B.fn.ntmps)(hf:X.P.funcs[B.f]?=some B.fn){xs:List AV}(h:Mf X F S B.fn.results.toList=some xs)(m:Nat)(hm:B.m≤m)
 {r:AV}(hz:Fz S B.n m (C8 xs) r)(hbox:∀rows,rows∈S.boxes.take B.n→He B.n m rows)(hR:R (.ret r) (S.drop B.n m)){fr:Frame}(hfn:fr.fn=B.f)(hmode:fr.mode=.returning)
 (hd:fr.defers=E.df){κ:CallKind}(hk:fr.kind=κ)(ht:fr.tmps=a.tmps):∃e,Aiu X E w B.n B.m R e w∧Ahw X.P fr w E.df κ e∧∃v,e=.returned v:=by
 obtain⟨v,h1,h2⟩:=M8 hI hF h;refine⟨.returned v,⟨E.drop B.n m,S.drop B.n m,hI.drop hbox,(Evol.drop E w B.n m).weaken (Bo _) hm,r,hz.rel hI h2,hR⟩,⟨hmode,hd,hk,B.fn,by rw[hfn];exact hf,by rw[ht];exact h1⟩,v,rfl⟩
theorem E8{k:List Item}(hf:X.P.funcs[B.f]?=some B.fn){xs:List AV}(h:Mf X F S B.fn.results.toList=some xs)(m:Nat)(hm:B.m≤m){r:AV}(hz:Fz S B.n m (C8 xs) r)
 (hbox:∀rows,rows∈S.boxes.take B.n→He B.n m rows)(hR:R (.ret r) (S.drop B.n m)):AK X B (.code .ret::k) F S R:=by
 intro E w a b cs hI hF _ _ hb;obtain⟨e,h1,h2,v,rfl⟩:=Akf (R:=R) hI hF hf h m hm hz hbox hR (fr:={ b.at a (.code .ret::k)with mode:=.returning }) hb rfl hF.nod (κ:=b.kind) rfl rfl;exact .inl ⟨_,w,_,h1,.one step_ret,hb,h2⟩
theorem Anb(hf:X.P.funcs[B.f]?=some B.fn){xs:List AV}(h:Mf X F S B.fn.results.toList=some xs)(m:Nat)(hm:B.m≤m){r:AV}(hz:Fz S B.n m (C8 xs) r)
 (hbox:∀rows,rows∈S.boxes.take B.n→He B.n m rows)(hR:R (.ret r) (S.drop B.n m)):AK X B [] F S R:=by
 intro E w a b cs hI hF _ _ hb;obtain⟨e,h1,h2,v,rfl⟩:=Akf (R:=R) hI hF hf h m hm hz hbox hR (fr:={ b.at a []with mode:=.returning }) hb rfl hF.nod (κ:=b.kind) rfl rfl;exact .inl ⟨_,w,_,h1,.one step_end,hb,h2⟩
def Ot:Nat→List AV→C5
 |_,[]=>[]
 |i,x::l=>(i,x)::Ot (i+1) l
theorem Ab5:∀(l:List AV)(i k:Nat)(x:AV),lk (Ot i l) k=some x→i≤k∧l[k-i]?=some x
 |[],i,k,x,h=>by simp[Ot,lk]at h
 |y::l,i,k,x,h=>by
  simp only[Ot,J7]at h;split at h
  ·rename_i hk;subst hk;cases h;exact⟨Bo _,by simp⟩
  ·obtain⟨h1,h2⟩:=Ab5 l (i+1) k x h;refine⟨by omega,?_⟩;rw[show k-i=(k-(i+1))+1 by omega];simpa using h2
theorem ACalls.of{f:FuncId}{fn:Func}{c:Code}{args:List AV}(hf:X.P.funcs[f]?=some fn)(hb:fn.body=some c)(hl:args.length≤fn.ntmps)
 (h:AK X ⟨f,fn,S.boxes.length,S.toks.length⟩ [.code c] (Ot 0 args) S R)(hh:∀C S,¬R (.hook C) S):ACalls X f args S R:=by
 intro E w vs hdf hI hs hr cs
 let b:Frame:={ (default:Frame)with fn:=f,kind:=.normal }
 let a:Act:={ tmps:=vs++Array.replicate (fn.ntmps-vs.size) undef,defers:=[] }
 have henter:Frame.enter X.P f vs .normal=b.at a [.code c]:=by simp[Frame.enter,Frame.at,hf,hb,b,a]
 have hF:FR E w (Ot 0 args) a fn.ntmps:=by
  refine⟨by simp[a];omega,hdf.symm,fun k x hk=>?_⟩;obtain⟨_,h2⟩:=Ab5 args 0 k x hk;simp only[Nat.sub_zero]at h2;have hlt:k<vs.size:=by rw[hs];exact Aa h2
  exact⟨vs[k],by simp only[a];rw[Zb hlt];simp[hlt],hr k _ x (by simp[hlt]) h2⟩
 rw[henter];rcases h E w a b cs hI hF (Bo _) (Bo _) rfl with⟨e,w',fr,h1,h2,h3,h4⟩|⟨C,h1,_⟩
 ·rw[hdf]at h4;exact⟨e,w',fr,h1,h2,h3,Ajn h4⟩
 ·exact absurd h1 (hh C _)
theorem N1{c:Code}{k:List Item}(h:AK X B (.code c::.inLoop c::k) F S R):AK X B (.code (.loop c)::k) F S R:=Ks h fun w a b cs=>step_loop
theorem P7{c:Code}{k:List Item}(h:AK X B (.code c::.inLoop c::k) F S R):AK X B (.inLoop c::k) F S R:=Ks h fun w a b cs=>step_inLoop
def Sub:C5→C5→Prop
 |[],_=>True
 |(k,x)::G,F=>lk F k=some x∧Sub G F
theorem Al8:∀{G F:C5},Sub G F→∀k x,lk G k=some x→lk F k=some x
 |[],F,_,k,x,h=>by simp[lk]at h
 |(d,y)::G,F,⟨h1,h2⟩,k,x,h=>by
  rw[J7]at h;split at h
  ·rename_i hk;subst hk;cases h;exact h1
  ·exact Al8 h2 k x h
theorem Ts{K:List Item}{G:C5}(hs:Sub G F)(h:AK X B K G S R):AK X B K F S R:=fun E w a b cs hI hF=>
 h E w a b cs hI ⟨hF.size,hF.nod,fun k x hk=>hF.rel k x (Al8 hs k x hk)⟩
theorem Avx{K:List Item}{G:C5}(n m:Nat)(hs:Sub G F)(hn:B.n≤n)(hm:B.m≤m)(hn':n≤S.boxes.length)(hm':m≤S.toks.length)(hG:∀p,p∈G→Ok n m p.2)
 (hbox:∀rows,rows∈S.boxes.take n→He n m rows)(h:AK X B K G (S.drop n m) R):AK X B K F S R:=by
 intro E w a b cs hI hF hBn hBm hb;have hF':FR (E.drop n m) w G a B.fn.ntmps:=⟨hF.size,hF.nod,fun k x hx=>by
  obtain⟨v,h1,h2⟩:=hF.rel k x (Al8 hs k x hx);refine⟨v,h1,h2.drop ?_⟩;have:∃p,p∈G∧p.2=x:=by
   clear hs hG h
   induction G with
   |nil=>simp[lk]at hx
   |cons q G ih=>
    obtain⟨d,y⟩:=q;rw[J7]at hx;split at hx
    ·cases hx;exact⟨(d,x),by simp,rfl⟩
    ·obtain⟨p,hp,hpx⟩:=ih hx;exact⟨p,by simp[hp],hpx⟩
  obtain⟨p,hp,rfl⟩:=this;exact hG p hp⟩
 exact Fin.from (Steps.refl _ _) ((Evol.drop E w n m).weaken hn hm) (h (E.drop n m) w a b cs (hI.drop hbox) hF' (by simp[St.drop];omega) (by simp[St.drop];omega) hb)
class LtC (a b:Nat):Prop where
 lt:a<b
instance{b:Nat}:LtC 0 (b+1):=⟨Nat.succ_pos _⟩
instance{a b:Nat} [h:LtC a b]:LtC (a+1) (b+1):=⟨Nat.succ_lt_succ h.lt⟩
class OK (n m:Nat)(x:AV):Prop where
 ok:Ok n m x
class OKL (n m:Nat)(l:List AV):Prop where
 ok:∀x,x∈l→Ok n m x
class OKR (n m:Nat)(rows:List (List AV)):Prop where
 ok:He n m rows
class OKB (n m:Nat)(bx:List (List (List AV))):Prop where
 ok:∀rows,rows∈bx→He n m rows
class OKF (n m:Nat)(F:C5):Prop where
 ok:∀p,p∈F→Ok n m p.2
section
variable {n m:Nat}
instance{v:Value}:OK n m (.val v):=⟨.val v⟩
instance:OK n m .err:=⟨.err⟩
instance{b r o:Nat} [h:LtC b n]:OK n m (.ptr b r o):=⟨.ptr b r o h.lt⟩
instance{b k:Nat} [h:LtC b n]:OK n m (.bsl b k):=⟨.bsl b k h.lt⟩
instance{te b:Nat} [h:LtC b n]:OK n m (.tagN te b):=⟨.tagN te b h.lt⟩
instance{te t:Nat}{s:List UInt8} [h:LtC t m]:OK n m (.buf te s t):=⟨.buf te s t h.lt⟩
instance{rows:List (List AV)}{t v:Nat} [h:LtC t m] [hf:OKR 0 0 rows]:OK n m (.psl rows t v):=⟨.psl rows t v h.lt (fun r hr x hx=>((hf.ok r hr x hx).flat rfl rfl).ok) (fun r hr x hx=>((hf.ok r hr x hx).flat rfl rfl).noT)⟩
instance{rows:List (List AV)} [h:OKR n m rows]:OK n m (.sl rows .no):=⟨.sl rows _ h.ok (fun t ht=>by cases ht)⟩
instance{rows:List (List AV)} [h:OKR n m rows]:OK n m (.sl rows .tight):=⟨.sl rows _ h.ok (fun t ht=>by cases ht)⟩
instance{rows:List (List AV)}{t:Nat} [h:OKR n m rows] [ht:LtC t m]:OK n m (.sl rows (.tok t)):=⟨.sl rows _ h.ok (fun t' ht'=>by cases ht';exact ht.lt)⟩
instance{cs:List AV} [h:OKL n m cs]:OK n m (.cptr cs):=⟨.cptr cs h.ok⟩
instance{cs:List AV} [h:OKL n m cs]:OK n m (.agg cs):=⟨.agg cs h.ok⟩
instance{cs:List AV} [h:OKL n m cs]:OK n m (.tup cs):=⟨.tup cs h.ok⟩
instance{f:FuncId}{cs:List AV} [h:OKL n m cs]:OK n m (.fn f cs):=⟨.fn f cs h.ok⟩
instance:OKL n m []:=⟨fun x hx=>by cases hx⟩
instance{x:AV}{l:List AV} [h:OK n m x] [t:OKL n m l]:OKL n m (x::l):=⟨fun y hy=>by
 rcases zzq13.1 hy with rfl|hy
 ·exact h.ok
 ·exact t.ok y hy⟩
instance{l l':List AV} [h:OKL n m l] [t:OKL n m l']:OKL n m (l++l'):=⟨fun y hy=>by
 rcases zzq45.1 hy with hy|hy
 ·exact h.ok y hy
 ·exact t.ok y hy⟩
instance:OKR n m []:=⟨fun r hr=>by cases hr⟩
instance{r:List AV}{rows:List (List AV)} [h:OKL n m r] [t:OKR n m rows]:OKR n m (r::rows):=⟨fun q hq=>by
 rcases zzq13.1 hq with rfl|hq
 ·exact h.ok
 ·exact t.ok q hq⟩
instance{rows rows':List (List AV)} [h:OKR n m rows] [t:OKR n m rows']:OKR n m (rows++rows'):=⟨fun q hq=>by
 rcases zzq45.1 hq with hq|hq
 ·exact h.ok q hq
 ·exact t.ok q hq⟩
instance:OKB n m []:=⟨fun r hr=>by cases hr⟩
instance{rows:List (List AV)}{bx:List (List (List AV))} [h:OKR n m rows] [t:OKB n m bx]:OKB n m (rows::bx):=⟨fun q hq=>by
 rcases zzq13.1 hq with rfl|hq
 ·exact h.ok
 ·exact t.ok q hq⟩
instance:OKF n m []:=⟨fun r hr=>by cases hr⟩
instance{k:Nat}{x:AV}{F:C5} [h:OK n m x] [t:OKF n m F]:OKF n m ((k,x)::F):=⟨fun q hq=>by
 rcases zzq13.1 hq with rfl|hq
 ·exact h.ok
 ·exact t.ok q hq⟩
end
theorem Bz{K:List Item}{G:C5}{bx:List (List (List AV))}{tk:List Nat}(n m:Nat)(h:AK X B K G ⟨bx,tk⟩ R)(hs:Sub G F)(hS:S.drop n m=⟨bx,tk⟩)(hn:Nat.ble B.n n=true)(hm:Nat.ble B.m m=true)
 (hn':Nat.ble n S.boxes.length=true)(hm':Nat.ble m S.toks.length=true) [hG:OKF n m G] [hbox:OKB n m bx]:AK X B K F S R:=by
 refine Avx n m hs (Jz hn) (Jz hm) (Jz hn') (Jz hm') hG.ok ?_ (by rw[hS];exact h);have:S.boxes.take n=bx:=by have:=congrArg St.boxes hS;exact this
 rw[this];exact hbox.ok
theorem Zj{k:List Item}{f:FuncId}{fn:Func}{n m:Nat}{bx:List (List (List AV))}{tk:List Nat}{r:AV}{xs:List AV}(hf:X.P.funcs[f]?=some fn)(h:Mf X F S fn.results.toList=some xs)
 (hm:Nat.ble m tk.length=true)(hS:S.drop n tk.length=⟨bx,tk⟩) [hr:OK n tk.length r] [hbox:OKB n tk.length bx](hr0:C8 xs=r) :
 AK X ⟨f,fn,n,m⟩ (.code .ret::k) F S fun e S'=>e=.ret r∧S'=⟨bx,tk⟩:=by
 subst hr0;refine E8 (B:=⟨f,fn,n,m⟩) hf h tk.length (Jz hm) (.same _ hr.ok) ?_ ⟨rfl,hS⟩;have:S.boxes.take n=bx:=by have:=congrArg St.boxes hS;exact this
 show ∀rows,rows∈S.boxes.take n→He n tk.length rows;rw[this];exact hbox.ok
theorem Jq{f:FuncId}{fn:Func}{c:Code}{args:List AV}{n m:Nat}(hf:X.P.funcs[f]?=some fn)(hb:fn.body=some c)(hl:Nat.ble args.length fn.ntmps=true)
 (hn:S.boxes.length=n)(hm:S.toks.length=m)(h:AK X ⟨f,fn,n,m⟩ [.code c] (Ot 0 args) S R)(hh:∀C S,¬R (.hook C) S:=by intro C S h;exact nomatch h.1):ACalls X f args S R:=
 ACalls.of hf hb (Jz hl) (by rw[hn,hm];exact h) hh
theorem Ph{t:Nat}{x y:Code}{k:List Item}{e:Bool}(hc:lk F t=some (.val (.bool e)))(h1:e=true→AK X B (.code x::k) ((t,.lit true)::F) S R)
 (h2:e=false→AK X B (.code y::k) ((t,.lit false)::F) S R):AK X B (.code (.cond (.tmp t) x y)::k) F S R:=by
 have lit:∀{E:Env} {w:World} {a:Act} (b:Bool),a.tmps[t]?=some (.bool b)→FR E w F a B.fn.ntmps→FR E w ((t,.lit b)::F) a B.fn.ntmps:=fun{E w a} b hv hF=>
  ⟨hF.size,hF.nod,fun k x hx=>by
    rw[J7]at hx;split at hx
    ·rename_i hk;subst hk;cases hx;exact⟨_,hv,.lit b⟩
    ·exact hF.rel k x hx⟩
 cases he:e with
 |true=>
  subst he;refine P1 (h1 rfl) fun E w a b cs hI hF _=>?_;obtain⟨v,hv,hr⟩:=hF.rel _ _ hc;cases hr;exact⟨E,w,a,.one (step_cond (t:=true) (by simp[Act.eval,hv])),hI,Evol.refl _ _ _ _,lit true hv hF⟩
 |false=>
  subst he;refine P1 (h2 rfl) fun E w a b cs hI hF _=>?_;obtain⟨v,hv,hr⟩:=hF.rel _ _ hc;cases hr;exact⟨E,w,a,.one (step_cond (t:=false) (by simp[Act.eval,hv])),hI,Evol.refl _ _ _ _,lit false hv hF⟩
theorem Xx{t:Nat}{K:List Item}{e:Bool}(hc:lk F t=some (.val (.bool e)))(h1:e=true→AK X B K ((t,.lit true)::F) S R)
 (h2:e=false→AK X B K ((t,.lit false)::F) S R):AK X B K F S R:=by
 intro E w a b cs hI hF;have key:∀(c:Bool),e=c→FR E w ((t,.lit c)::F) a B.fn.ntmps:=fun c hce=>
  ⟨hF.size,hF.nod,fun k x hx=>by
    rw[J7]at hx;split at hx
    ·rename_i hk;subst hk;cases hx;obtain⟨v,hv,hr⟩:=hF.rel _ _ hc;cases hr;subst hce;exact⟨_,hv,.lit e⟩
    ·exact hF.rel k x hx⟩
 cases he:e with
 |true=>exact h1 he E w a b cs hI (key true he)
 |false=>exact h2 he E w a b cs hI (key false he)
end
def A3p:Option TypeDesc→Bool
 |some (.struct _)=>true
 |some (.array _ _)=>true
 |_=>false
def Aw2(size:Nat):List (Nat×Nat)→Bool
 |[]=>true
 |(off,sz)::l=>match Nat.blt 0 sz with
  |true=>match Nat.ble (off+sz) size with
   |true=>Aw2 size l
   |false=>false
  |false=>false
def A1y(P:Program)(t:TypeId):Option Ty:=
 match P.info? t with
 |none=>none
 |some i=>match i.zero with
  |none=>none
  |some z=>match Nat.ble i.bytes 1024 with
   |false=>none
   |true=>match Nat.beq (z.cells.toList.map Ic).length i.size with
    |false=>none
    |true=>match P.underlying t with
     |some (.struct fields)=>match fields.toList.mapM (fun f=>(P.info? f.type).map fun i=>(f.offset,i.size))with
      |some fs=>match Aw2 i.size fs&&fields.toList.all (fun f=>(P.underlying f.type).isSome)with
       |true=>some ⟨i.size,.str fs,z.cells.toList.map Ic,fields.toList.map fun f=>A3p (P.underlying f.type)⟩
       |false=>none
      |none=>none
     |some (.array n e)=>some ⟨i.size,.arr n e,z.cells.toList.map Ic,[]⟩
     |some d=>match Nat.beq i.size 1 with
      |false=>none
      |true=>some ⟨i.size,(match d with
       |.slice e=>.slc e
       |.int k=>.int k
       |.string=>.string
       |.bool=>.bool
       |_=>.flat),z.cells.toList.map Ic,[]⟩
     |none=>none
def Ako:List (Nat×Ty)→Nat→Option Ty
 |[],_=>none
 |(k,y)::l,t=>match Nat.beq k t with
  |true=>some y
  |false=>Ako l t
def Ahb(ty:Nat→Option Ty)(y:Ty):Bool:=
 match y.k with
 |.arr n e=>match ty e with
  |some ye=>match Nat.beq (n*ye.size) y.size with
   |true=>Nat.blt 0 ye.size
   |false=>false
  |none=>false
 |.slc e=>match ty e with
  |some ye=>Nat.blt 0 ye.size
  |none=>false
 |_=>true
def Asl(P:Program)(ty:Nat→Option Ty):List (Nat×Ty)→Prop
 |[]=>True
 |(t,y)::l=>A1y P t=some y∧Ahb ty y=true∧Asl P ty l
theorem Afd{size:Nat}:∀{fs:List (Nat×Nat)},Aw2 size fs=true→∀(i off sz:Nat),fs[i]?=some (off,sz)→sz≠0∧off+sz≤size
 |[],_,i,off,sz,h=>by simp at h
 |(o,s)::l,hk,i,off,sz,h=>by
  simp only[Aw2]at hk;split at hk
  ·rename_i h1;split at hk
   ·rename_i h2;cases i with
    |zero=>
     simp at h;obtain⟨rfl,rfl⟩:=h;exact⟨by simp[Fw]at h1;omega,Jz h2⟩
    |succ i=>exact Afd hk i off sz (by simpa using h)
   ·cases hk
  ·cases hk
theorem Ajs{α β:Type}{f:α→Option β}:∀{l:List α}{r:List β},l.mapM f=some r→∀(i:Nat)(y:β),r[i]?=some y→∃x,l[i]?=some x∧f x=some y
 |[],r,h,i,y,hy=>by simp at h;subst h;simp at hy
 |a::l,r,h,i,y,hy=>by
  simp only[List.mapM_cons,Option.bind_eq_bind,Option.pure_def]at h;cases ha:f a with
  |none=>simp[ha]at h
  |some b=>
   cases hl:l.mapM f with
   |none=>simp[ha,hl]at h
   |some r'=>
    simp[ha,hl]at h;subst h;cases i with
    |zero=>simp at hy;subst hy;exact⟨a,rfl,ha⟩
    |succ i=>obtain⟨x,h1,h2⟩:=Ajs hl i y (by simpa using hy);exact⟨x,by simpa using h1,h2⟩
theorem Axv{P:Program}{ty:Nat→Option Ty}{t:Nat}{y:Ty}(h:A1y P t=some y)(he:Ahb ty y=true):TyOk P t y ty:=by
 unfold A1y at h;split at h
 ·cases h
 ·rename_i i hi;split at h
  ·cases h
  ·rename_i z hz;split at h
   ·cases h
   ·rename_i hb;split at h
    ·cases h
    ·rename_i hl;have hl':(z.cells.toList.map Ic).length=i.size:=Ve hl;have hb':=Jz hb;split at h
     ·rename_i fields hd;split at h
      ·rename_i fs hfs;split at h
       ·rename_i hok0;simp only[Dd]at hok0;obtain⟨hok,hall⟩:=hok0;cases h;refine⟨⟨i,z,hi,rfl,hb',hz,rfl,hl',fun hk=>by simp[Gg]at hk⟩,⟨_,hd,fields,rfl,hfs,fun k off sz hk=>?_⟩⟩;obtain⟨h1,h2⟩:=Afd hok k off sz hk;obtain⟨f,hf,hff⟩:=Ajs hfs k _ hk;cases hif:P.info? f.type with
        |none=>simp[hif]at hff
        |some i'=>
         simp[hif]at hff;refine⟨f,i',by simpa using hf,hff.1,hif,hff.2,h1,h2,fun g hg=>?_⟩;have hf':fields.toList[k]?=some f:=hf;rw[Gl,hf']at hg;simp at hg;cases hu:P.underlying f.type with
         |none=>
          have:=zzq48.1 hall f (Bh hf');simp[hu]at this
         |some d'=>
          refine⟨d',rfl,?_⟩;subst hg;rw[hu];cases d'<;>simp[A3p]
       ·cases h
      ·cases h
     ·rename_i n e hd;cases h;refine⟨⟨i,z,hi,rfl,hb',hz,rfl,hl',fun hk=>by simp[Gg]at hk⟩,⟨_,hd,rfl,?_⟩⟩;simp only[Ahb]at he;split at he
      ·rename_i ye hye;split at he
       ·rename_i hm;exact⟨ye,hye,Ve hm,by simp[Fw]at he;omega⟩
       ·cases he
      ·cases he
     ·rename_i d hns hna hd;split at h
      ·cases h
      ·rename_i h1;have h1':=Ve h1;cases h;refine⟨⟨i,z,hi,rfl,hb',hz,rfl,hl',fun _=>h1'⟩,⟨d,hd,?_⟩⟩;cases d<;>first
        |rfl
        |(exact(hns _ rfl).elim)
        |(exact(hna _ _ rfl).elim)
        |(show (∀(fs:Array Field),_≠TypeDesc.struct fs)∧(∀(n e:Nat),_≠TypeDesc.array n e)
          exact⟨fun _ h=>(by cases h),fun _ _ h=>(by cases h)⟩)
        |(simp only[Ahb]at he
          split at he
          ·rename_i ye hye;exact⟨rfl,ye,hye,by simp[Fw]at he;omega⟩
          ·cases he)
     ·cases h
theorem Avj{P:Program}{ty:Nat→Option Ty}:∀{l:List (Nat×Ty)},Asl P ty l→∀t y,Ako l t=some y→TyOk P t y ty
 |[],_,t,y,h=>by simp[Ako]at h
 |(k,y')::l,⟨h1,h2,h3⟩,t,y,h=>by
  simp only[Ako]at h;split at h
  ·rename_i hk;cases h;have:=Ve hk;subst this;exact Axv h1 h2
  ·exact Avj h3 t y h
def Nr(P:Program)(f:FuncId):Prop:=∃fn,P.funcs[f]?=some fn∧(fn.name == "runtime.NumGoroutine")=false∧fn.body.isNone=false
def Pure(X:Cx)(f:FuncId)(args:List AV)(r:AV):Prop:=
 Nr X.P f∧ACalls X f args ⟨[],[]⟩ fun e S=>e=.ret r∧S=⟨[],[]⟩
inductive Strip:AV→AV→Prop where
 |flat (x:AV) (h:Ok 0 0 x):Strip x x
 |sl (rows:List (List AV)) (sp:Sp) (h:He 0 0 rows):Strip (.sl rows sp) (.sl rows .no)
 |agg (cs cs':List AV) (hl:cs'.length=cs.length) (hz:∀(j:Nat) (x y:AV),cs[j]?=some x→cs'[j]?=some y→Strip x y):Strip (.agg cs) (.agg cs')
inductive StripL:List AV→List AV→Prop where
 |nil:StripL [] []
 |cons {x y:AV} {l l':List AV} (h:Strip x y) (t:StripL l l'):StripL (x::l) (y::l')
theorem StripL.get{l l':List AV}(h:StripL l l'):l'.length=l.length∧∀(j:Nat)(x y:AV),l[j]?=some x→l'[j]?=some y→Strip x y:=by
 induction h with
 |nil=>exact⟨rfl,fun j x y h=>by simp at h⟩
 |cons h t ih=>
  refine⟨by simp[ih.1],fun j x y hx hy=>?_⟩;cases j with
  |zero=>simp at hx hy;subst hx;subst hy;exact h
  |succ j=>exact ih.2 j x y (by simpa using hx) (by simpa using hy)
class StripC (x:AV)(y:outParam AV):Prop where
 s:Strip x y
class StripLC (l:List AV)(l':outParam (List AV)):Prop where
 s:StripL l l'
theorem Alf{l l':List AV}(h:StripL l l'):Strip (.agg l) (.agg l'):=.agg l l' h.get.1 h.get.2
instance{v:Value}:StripC (.val v) (.val v):=⟨.flat _ (.val v)⟩
instance{rows:List (List AV)}{sp:Sp} [h:OKR 0 0 rows]:StripC (.sl rows sp) (.sl rows .no):=⟨.sl rows sp h.ok⟩
instance{cs cs':List AV} [h:StripLC cs cs']:StripC (.agg cs) (.agg cs'):=⟨Alf h.s⟩
instance:StripLC [] []:=⟨.nil⟩
instance{x y:AV}{l l':List AV} [h:StripC x y] [t:StripLC l l']:StripLC (x::l) (y::l'):=⟨.cons h.s t.s⟩
theorem Pure.mk{X:Cx}{f:FuncId}{fn:Func}{c:Code}{args:List AV}{r:AV}(hf:X.P.funcs[f]?=some fn)(hb:fn.body=some c)(hl:Nat.ble args.length fn.ntmps=true)
 (hnm:(fn.name == "runtime.NumGoroutine")=false)(h:AK X ⟨f,fn,0,0⟩ [.code c] (Ot 0 args) ⟨[],[]⟩ fun e S=>e=.ret r∧S=⟨[],[]⟩):Pure X f args r:=
 ⟨⟨fn,hf,hnm,by rw[hb];rfl⟩,Jq hf hb hl rfl rfl h⟩
section
variable {X:Cx}{B:Bx}{E:Env}{S:St}{w:World}{F:C5}{a:Act}{N:Nat}{R:AE→St→Prop}
theorem Rel.env{E':Env}{v:Value}{x:AV}(h:Rel E w v x)(ho:Ok 0 0 x)(hm:∀b o,E'.mt b o→E.mt b o):Rel E' w v x:=
 h.move (fun i hi _=>absurd hi (Va _)) (fun t ht=>absurd ht (Va _)) (fun _ _ _ _ h=>h) (fun b o _ h=>hm b o h) (fun _ _ h=>h) (fun t ht=>absurd ht (Va _)) ho
theorem Strip.rel{E':Env}{x y:AV}(h:Strip x y)(hm:∀b o,E'.mt b o→E.mt b o):∀{v:Value},Rel E w v x→Rel E' w v y:=by
 induction h with
 |flat x h=>exact fun hx=>hx.env h hm
 |sl rows sp h=>
  intro v hx;refine Rel.env (E:=E) ?_ (.sl rows .no h (fun t ht=>by cases ht)) hm;cases hx with
  |sl _ _ a n cap b o sz vals hn hx ha hsz hm hc hr hs hcap=>exact .sl rows .no a n cap b o sz vals hn hx ha hsz hm hc hr trivial hcap
 |agg cs cs' hl hz ih=>
  intro v hx;cases hx with
  |agg vs _ hl' hr=>
   refine .agg vs cs' (by omega) (fun j v y hv hy=>?_);obtain⟨x,hx⟩:=Ab cs (i:=j) (by have:=Aa hy;omega);exact ih j x y hx hy (hr j v x hv hx)
def Env.none_(E:Env):Env:=⟨[],[],E.mt,[]⟩
theorem Aiw{E:Env}{b o:Nat}:E.none_.mt b o↔E.mt b o:=by
 refine⟨fun h=>?_,fun h=>.inl h⟩;rcases h with h|⟨i,s,h⟩|⟨t,l,c,s,h,_⟩
 ·exact h
 ·simp[Env.none_]at h
 ·simp[Env.none_]at h
theorem Rm{E:Env}{b:Nat}:¬E.none_.own b:=fun h=>by
 rcases h with⟨i,s,h⟩|⟨t,l,c,s,h⟩<;>simp[Env.none_]at h
theorem Inv.none_(hI:Inv X E S w):Inv X E.none_ ⟨[],[]⟩ w where
 nb:=rfl
 nt:=rfl
 np i hi:=by simp[Env.none_]at hi
 box i b sz rows h:=by simp[Env.none_]at h
 tok t l b c sz h:=by simp[Env.none_]at h
 bb i j b s s' h:=by simp[Env.none_]at h
 bt i t b s l c sz h:=by simp[Env.none_]at h
 tt i j b l c s l' c' s' h:=by simp[Env.none_]at h
 frlt b o h:=⟨Rm,by
  rcases Aad hI h with h|h
  ·exact hI.own_lt h
  ·exact(hI.frlt b o h).2⟩
 lo b h:=absurd h Rm
 frlo b o h:=by
  rcases Aad hI h with h|h
  ·exact hI.lo b h
  ·exact hI.frlo b o h
 sz:=hI.sz
 glob:=hI.glob
def putF(dst:Option Nat)(x:AV)(F:C5):C5:=
 match dst with
 |some d=>(d,x)::F
 |none=>F
def D3(N:Nat):Option Nat→Bool
 |some d=>Nat.blt d N
 |none=>true
theorem FR.putF(hF:FR E w F a N){dst:Option Nat}(hd:D3 N dst=true){v:Value}{x:AV}(hx:Rel E w v x):FR E w (putF dst x F) (a.put dst v) N:=by
 cases dst with
 |none=>exact hF
 |some d=>exact hF.put (by simpa[D3,Fw]using hd) hx
def Does(X:Cx)(ops:Array Oper)(i:Nat)(a:Act)(w:World)(post:Value→World→Prop):Prop:=
 ∀(b:Frame) (k:List Item) (cs:List Frame) (rest:List Nat),∃v w',post v w' ∧
  Steps X.P (lone (b.at a (.inRegion ops (i::rest)::k)) cs w) (lone (b.at (a.put ((ops[i]?).bind (·.dst)) v) (.inRegion ops rest::k)) cs w')
def Ndo(X:Cx)(N:Nat)(ops:Array Oper)(i:Nat)(o:Oper)(F:C5)(x:AV)(S S':St):Prop:=
 ∀(F':C5) (E:Env) (w:World) (a:Act),(∀t,t∈o.looksAt ops→lk F' t=lk F t)→Inv X E S w→FR E w F' a N →
  Does X ops i a w fun v w'=>∃E',Inv X E' S' w'∧Evol E w E' w' E.boxes.length E.toks.length∧Rel E' w' v x
theorem Hi{ops:Array Oper}{i:Nat}{l:List Nat}{k:List Item}{o:Oper}{x:AV}{S':St}(h:Ndo X B.fn.ntmps ops i o F x S S')(ho:ops[i]?=some o)(hd:D3 B.fn.ntmps o.dst=true)
 (hk:AK X B (.inRegion ops l::k) (putF o.dst x F) S' R):AK X B (.inRegion ops (i::l)::k) F S R:=by
 refine P1 hk fun E w a b cs hI hF hb=>?_;obtain⟨v,w',⟨E',h1,h2,h3⟩,h4⟩:=h F E w a (fun _ _=>rfl) hI hF b k cs l;exact⟨E',w',_,h4,h1,h2,by rw[ho];exact(hF.step h2).putF hd h3⟩
theorem Dk{F':C5}{o:Operand}(h:∀t,o=.tmp t→lk F' t=lk F t):Dw X F' o=Dw X F o:=by
 cases o with
 |tmp t=>simp only[Dw,h t rfl]
 |_=>rfl
theorem Si{F':C5}:∀{os:List Operand},(∀t,.tmp t∈os→lk F' t=lk F t)→Hm X F' os=Hm X F os
 |[],_=>rfl
 |o::os,h=>by
  simp only[Hm,Dk (X:=X) (F:=F) (F':=F') (o:=o) (fun t ht=>h t (by simp[ht])),Si (os:=os) fun t ht=>h t (by simp[ht])]
theorem G0{ops:Array Oper}{o:Oper}{F':C5}(h:∀t,t∈o.looksAt ops→lk F' t=lk F t):∀t,.tmp t∈o.op.operands.toList→lk F' t=lk F t:=fun t ht=>
 h t (List.mem_append_left _ (List.mem_filterMap.2 ⟨.tmp t,by simpa using ht,rfl⟩))
theorem C6{ops:Array Oper}{o:Oper}{F':C5}(h:∀t,t∈o.looksAt ops→lk F' t=lk F t):A8 ops F' o=A8 ops F o:=by
 unfold A8;cases hg:o.guard with
 |none=>rfl
 |some gw=>
  obtain⟨g,want⟩:=gw;simp only;cases hj:ops[g]? with
  |none=>rfl
  |some oj=>
   simp only;cases hd:oj.dst with
   |none=>rfl
   |some t=>simp only;rw[h t (by simp[Oper.looksAt,hg,hj,hd])]
theorem Xd{F':C5}{fs:List (Nat×Nat)}:∀{ps:List (Nat×Operand)}{cs:List AV},(∀t,.tmp t∈ps.map (·.2)→lk F' t=lk F t)→Yn X F' fs ps cs=Yn X F fs ps cs
 |[],cs,_=>rfl
 |(i,o)::ps,cs,h=>by
  have h1:=Dk (X:=X) (F:=F) (F':=F') (o:=o) (fun t ht=>h t (by simp[ht]));have h2:∀cs',Yn X F' fs ps cs'=Yn X F fs ps cs':=fun cs'=>Xd fun t ht=>h t (by simp only[N0,zzq13];exact .inr ht);simp only[Yn,h1,h2]
theorem Ade{F':C5}{sz:Nat}:∀{ps:List (Nat×Operand)}{rows:List (List AV)},(∀t,.tmp t∈ps.map (·.2)→lk F' t=lk F t)→Uk X F' sz ps rows=Uk X F sz ps rows
 |[],rows,_=>rfl
 |(i,o)::ps,rows,h=>by
  have h1:=Dk (X:=X) (F:=F) (F':=F') (o:=o) (fun t ht=>h t (by simp[ht]));have h2:∀rs,Uk X F' sz ps rs=Uk X F sz ps rs:=fun rs=>Ade fun t ht=>h t (by simp only[N0,zzq13];exact .inr ht);simp only[Uk,h1,h2]
theorem Aja{F':C5}{op:Op}(h:∀t,.tmp t∈op.operands.toList→lk F' t=lk F t):Ej X F' S op=Ej X F S op:=by
 have h1:∀o,o∈op.operands.toList→Dw X F' o=Dw X F o:=fun o ho=>Dk fun t ht=>h t (ht▸ho);cases op<;>try rfl
 case move x=>simp only[Ej,h1 x (by simp[Op.operands])]
 case assign x=>simp only[Ej,h1 x (by simp[Op.operands])]
 case pick c a b=>
  have ha:=h1 a (by simp[Op.operands]);have hb:=h1 b (by simp[Op.operands]);cases c with
  |tmp t=>simp only[Ej,ha,hb,h t (by simp[Op.operands])]
  |_=>rfl
 case build t ps=>
  have:∀fs cs,Yn X F' fs ps.toList cs=Yn X F fs ps.toList cs:=fun fs cs=>Xd fun t ht=>h t (by simpa[Op.operands]using ht);simp only[Ej,this]
 case load t a=>simp only[Ej,h1 a (by simp[Op.operands])]
 case nilCheck a=>simp only[Ej,h1 a (by simp[Op.operands])]
 case binOp op t x y t'=>simp only[Ej,h1 x (by simp[Op.operands]),h1 y (by simp[Op.operands])]
 case unOp op t x=>simp only[Ej,h1 x (by simp[Op.operands])]
 case convert s d x=>simp only[Ej,h1 x (by simp[Op.operands])]
 case makeFunc fn first cap=>
  cases fn with
  |func f=>
   have:Hm X F' cap.toList=Hm X F cap.toList:=Si fun t ht=>h t (by simp only[Op.operands,Wu,zzq45];exact .inr ht);simp only[Ej,this]
  |_=>rfl
 case fieldAddr s x f=>simp only[Ej,h1 x (by simp[Op.operands])]
 case field s x f=>simp only[Ej,h1 x (by simp[Op.operands])]
 case indexAddr t x y=>
  cases y with
  |const c=>
   cases c with
   |int k n=>simp only[Ej,h1 x (by simp[Op.operands])]
   |_=>rfl
  |_=>rfl
 case extract t i=>simp only[Ej,h1 t (by simp[Op.operands])]
 case call c=>
  have ha:∀x,x∈c.args.toList→Dw X F' x=Dw X F x:=fun x hx=>h1 x (by simp only[Op.operands,Call.operands,Wu,zzq45];exact .inr hx);have hs:Hm X F' c.args.toList=Hm X F c.args.toList:=Si fun t ht=>h t (by simp only[Op.operands,Call.operands,Wu,zzq45];exact .inr ht);simp only[Ej,hs];split<;>try rfl
  split<;>try rfl
  rename_i x hx;rw[ha x (by rw[hx];simp)]
theorem Ai9{F':C5}{op:Op}(h:∀t,.tmp t∈op.operands.toList→lk F' t=lk F t):Kl X F' S op=Kl X F S op:=by
 have h1:∀o,o∈op.operands.toList→Dw X F' o=Dw X F o:=fun o ho=>Dk fun t ht=>h t (ht▸ho);cases op<;>try rfl
 case box t x=>simp only[Kl,h1 x (by simp[Op.operands])]
 case buildSlice t n ps=>
  have:∀sz rows,Uk X F' sz ps.toList rows=Uk X F sz ps.toList rows:=fun sz rows=>Ade fun t ht=>h t (by simpa[Op.operands]using ht);simp only[Kl,this]
theorem Does.val{ops:Array Oper}{i:Nat}{o:Oper}{nx:Next}{v:Value}{w':World}{post:Value→World→Prop}(ho:ops[i]?=some o)(hw:Region.wanted o (yielded ops a.tmps)=true)
 (hr:(execOp a.eval o).run X.P w=.ok nx w')(hn:nx=.value v∨(nx=.skip∧v=undef))(hp:post v w'):Does X ops i a w post:=fun b k cs rest=>
 ⟨v,w',hp,.one (by rw[ho];exact Akk ho hw hr hn)⟩
theorem Does.call{ops:Array Oper}{i:Nat}{o:Oper}{f:FuncId}{vs:Array Value}{post:Value→World→Prop}(ho:ops[i]?=some o)(hw:Region.wanted o (yielded ops a.tmps)=true)
 (hr:(execOp a.eval o).run X.P w=.ok (.enter f vs) w)(hc:Calls X.P f vs w fun e w'=>∃v,e=.returned v∧post v w'):Does X ops i a w post:=fun b k cs rest=>by
 have hg:=stepG_op (P:=X.P) (b:=b) (k:=k) (cs:=cs) (w:=w) (rest:=rest) ho hw;obtain⟨e,w',fr,⟨v,rfl,hp⟩,h6,_,h8⟩:=hc (b.at a (.inRegion ops (i::rest)::k)::cs);have henter:Go.step X.P (lone (b.at a (.inRegion ops (i::rest)::k)) cs w) =
  .next (lone (Frame.enter X.P f vs .normal) (b.at a (.inRegion ops (i::rest)::k)::cs) w):=
  step_lone_go (by rw[hg];simp[stepG.apply,hr,Frame.at])
 have hfin:(b.at a (.inRegion ops (i::rest)::k)).finish v=b.at (a.put o.dst v) (.inRegion ops rest::k):=by
  rw[Frame.finish_at,ho];rfl
 refine⟨v,w',hp,.head henter (Steps.trans h6 (.one ?_))⟩;rw[ho];show _=Stepped.next (lone (b.at (a.put o.dst v) (.inRegion ops rest::k)) cs w');rw[←hfin];exact step_leave_returned h8
theorem Ck{ops:Array Oper}{i:Nat}{o:Oper}{x:AV}(ho:ops[i]?=some o)(hw:A8 ops F o=some true)(h:Ej X F S o.op=some x):Ndo X N ops i o F x S S:=by
 intro F' E w a hl hI hF;obtain⟨v,h1,h2⟩:=Aa6 hI hF (o:=o) (x:=x) (by rw[Aja (G0 hl)];exact h);exact Does.val ho (Cr hF (by rw[C6 hl];exact hw)) h1 (.inl rfl) ⟨E,hI,Evol.refl _ _ _ _,h2⟩
theorem Lu{ops:Array Oper}{i:Nat}{o:Oper}{x:AV}{S':St}(ho:ops[i]?=some o)(hw:A8 ops F o=some true)(h:Kl X F S o.op=some (x,S')):Ndo X N ops i o F x S S':=by
 intro F' E w a hl hI hF;obtain⟨v,E',w',h1,h2,h3,h4⟩:=Aa5 hI hF (o:=o) (x:=x) (S':=S') (by rw[Ai9 (G0 hl)];exact h);exact Does.val ho (Cr hF (by rw[C6 hl];exact hw)) h1 (.inl rfl) ⟨E',h2,h3,h4⟩
theorem Dj{ops:Array Oper}{i:Nat}{o:Oper}{x:AV}(ho:ops[i]?=some o)(hw:A8 ops F o=some true)
 (h:∀(F':C5)(E:Env)(w:World)(a:Act),(∀p,p∈o.op.operands.toList→Dw X F' p=Dw X F p)→Inv X E S w→FR E w F' a N→∃v,(execOp a.eval o).run X.P w=.ok (.value v) w∧Rel E w v x) :
 Ndo X N ops i o F x S S:=by
 intro F' E w a hl hI hF;obtain⟨v,h1,h2⟩:=h F' E w a (fun p hp=>Dk fun t ht=>G0 hl t (ht▸hp)) hI hF;exact Does.val ho (Cr hF (by rw[C6 hl];exact hw)) h1 (.inl rfl) ⟨E,hI,Evol.refl _ _ _ _,h2⟩
theorem Qh{o:Oper}{c:Call}{fo:Operand}{f:FuncId}{caps xs:List AV}(hop:o.op=.call c)(hcal:c.callee=.value fo)(hE:Nr X.P f)
 (hI:Inv X E S w)(hF:FR E w F a N)(hfo:Dw X F fo=some (.fn f caps))(hx:Hm X F c.args.toList=some xs) :
 ∃vs:Array Value,(execOp a.eval o).run X.P w=.ok (.enter f vs) w∧vs.size=(xs++caps).length∧∀(j:Nat) (v:Value) (x:AV),vs[j]?=some v→(xs++caps)[j]?=some x→Rel E w v x:=by
 have h1:=Ak hI hF hfo;obtain⟨hl,hr⟩:=O2 hI hF hx;obtain⟨fn,hfn,hname,hbody⟩:=hE;cases hh:a.eval fo<;>rw[hh]at h1<;>cases h1;rename_i us hul hur;refine⟨c.args.map a.eval++us,?_,by simp[hul]at *;omega,fun j v x hv hxj=>?_⟩
 ·have hne:¬(fn.name = "runtime.NumGoroutine"):=fun h=>by rw[h]at hname;simp at hname
  simp[execOp,hop,resolve,hcal,hh,Deferred.ofValue,invoke,callFunc,hfn,hne,hbody];intro hbn;rw[hbn]at hbody;cases hbody
 ·rcases Gs j xs.length with hj|hj
  ·rw[Cs hj]at hxj;rw[Zb (by omega)]at hv;exact hr j v x hv hxj
  ·rw[Gk hj]at hxj;rw[Array.getElem?_append_right (by omega),hl]at hv;exact hur _ v x hv hxj
theorem Ru{F':C5}{ops:Array Oper}{o:Oper}{c:Call}{fo:Operand}(hop:o.op=.call c)(hcal:c.callee=.value fo)(hl:∀t,t∈o.looksAt ops→lk F' t=lk F t) :
 Dw X F' fo=Dw X F fo∧Hm X F' c.args.toList=Hm X F c.args.toList:=by
 have h:=G0 hl;rw[hop]at h;simp only[Op.operands,Call.operands,hcal,Wu,zzq45]at h;exact⟨Dk fun t ht=>h t (.inl (by simp[ht])),Si fun t ht=>h t (.inr ht)⟩
theorem Asi{ops:Array Oper}{i:Nat}{o:Oper}{c:Call}{fo:Operand}{f:FuncId}{caps xs ys:List AV}{r:AV}
 (ho:ops[i]?=some o)(hw:A8 ops F o=some true)(hop:o.op=.call c)(hcal:c.callee=.value fo)(hfo:Dw X F fo=some (.fn f caps))(hx:Hm X F c.args.toList=some xs)
 (hc:Pure X f ys r)(hs:StripL (xs++caps) ys):Ndo X N ops i o F r S S:=by
 intro F' E w a hl hI hF;obtain⟨l1,l2⟩:=Ru (X:=X) hop hcal hl;obtain⟨vs,h1,h2,h3⟩:=Qh hop hcal hc.1 hI hF (l1.trans hfo) (l2.trans hx);refine Does.call ho (Cr hF (by rw[C6 hl];exact hw)) h1 ((hc.2 E.none_ w vs rfl hI.none_ (by rw[h2,hs.get.1]) (fun j v y hv hy=>?_)).mono fun e w' he=>?_)
 ·obtain⟨x,hx⟩:=Ab (xs++caps) (i:=j) (by have:=Aa hy;rw[hs.get.1]at this;exact this);exact(hs.get.2 j x y hx hy).rel (fun b o h=>Aiw.1 h) (h3 j v x hv hx)
 ·obtain⟨E1,S1,d1,d2,d3⟩:=he;cases e with
  |returned v=>
   obtain⟨r',hr',hre,rfl⟩:=d3;cases hre;have hblk:∀b,b<w.heap.size→w'.heap[b]?=w.heap[b]?:=fun b hb=>d2.block b hb Rm;have ev:Evol E w E w' E.boxes.length E.toks.length:=by
    refine⟨rfl,fun _ _ h=>⟨h,fun _ h=>h⟩,fun _ _ k h=>⟨k,h,.inl rfl⟩,d2.os,d2.tape,d2.output,d2.size,fun k hk _=>hblk k hk,fun b o v hm hc=>?_,fun _ _ _ h=>h,fun _ _ h=>h,rfl,d2.ty,fun _ _ _ b _ _ _ _ o ho=>(hblk b (N7 ho)).trans ho⟩;have hb:=J3 hc;unfold World.cell? at hc⊢;rw[hblk b hb];exact hc
   have hrel:Rel E w' v r:=hr'.env (by have:=hr'.ok;rw[d1.nb,show E1.toks.length=0 by have:=d1.nt;simpa using congrArg List.length this]at this;exact this)
    (fun b o h=>.inl (by rw[d2.fr];exact h))
   exact⟨v,rfl,E,hI.keep ev (fun b hb=>hblk b (hI.own_lt hb)),ev,hrel⟩
  |panicked ch=>obtain⟨h,_⟩:=d3;cases h
  |outgrown=>exact d3.elim
theorem Ash{ops:Array Oper}{i:Nat}{o:Oper}{c:Call}{fo:Operand}{f:FuncId}{caps xs zs ys:List AV}{r:AV}
 (hc:Pure X f ys r)(ho:ops[i]?=some o)(hw:A8 ops F o=some true)(hop:o.op=.call c)(hcal:c.callee=.value fo)(hfo:Dw X F fo=some (.fn f caps))
 (hx:Hm X F c.args.toList=some xs)(hzs:Kg xs caps=some zs) [hs:StripLC zs ys]:Ndo X N ops i o F r S S:=
 Asi ho hw hop hcal hfo hx hc (by rw[Rv hzs];exact hs.s)
theorem Avz{ops:Array Oper}{i:Nat}{l:List Nat}{k:List Item}{o:Oper}{c:Call}{fo:Operand}{f:FuncId}{caps xs zs ys:List AV}{r:AV}
 (hc:Pure X f ys r)(ho:ops[i]?=some o)(hw:A8 ops F o=some true)(hop:o.op=.call c)(hcal:c.callee=.value fo)(hfo:Dw X F fo=some (.fn f caps))
 (hx:Hm X F c.args.toList=some xs)(hzs:Kg xs caps=some zs)(hd:D3 B.fn.ntmps o.dst=true) [hs:StripLC zs ys](hk:AK X B (.inRegion ops l::k) (putF o.dst r F) S R) :
 AK X B (.inRegion ops (i::l)::k) F S R:=
 Hi (Ash hc ho hw hop hcal hfo hx hzs) ho hd hk
theorem Cu{ops:Array Oper}{i:Nat}{o:Oper}{t:Nat}{p q:Operand}{rows:List (List AV)}{sp:Sp}{ik:IntKind}{n:Int}{r:List AV}{e:Nat}{y ye:Ty}
 (ho:ops[i]?=some o)(hw:A8 ops F o=some true)(hop:o.op=.indexAddr t p q)(hp:Dw X F p=some (.sl rows sp))(hq:Dw X F q=some (.val (.int ik n)))
 (hy:X.ty t=some y)(hyk:y.k=.slc e)(hye:X.ty e=some ye)(hl:r.length=ye.size)(h0:0≤n)(hr:rows[n.toNat]?=some r):Ndo X N ops i o F (.cptr r) S S:=by
 refine Dj ho hw fun F' E w a hc hI hF=>?_;rw[hop]at hc;have h1:=Ak hI hF ((hc p (by simp[Op.operands])).trans hp);have h2:=Ak hI hF ((hc q (by simp[Op.operands])).trans hq);obtain⟨d,hdd,hd2⟩:=(X.ty_ok t y hy).agg;simp only[hyk]at hd2;obtain⟨rfl,ye',hye',hne⟩:=hd2;rw[hye]at hye';cases hye';cases hh2:a.eval q<;>rw[hh2]at h2<;>cases h2;generalize hh1:a.eval p=u at h1;cases h1 with
 |sl _ _ a' n' cap b o' sz vals hn hx ha hsz hm hc hr' hs hcap=>
  have hlt:=Aa hr;have hlen:=hsz r (Bh hr);obtain rfl:sz=ye.size:=by omega
  have hn0:n'≠0:=by omega
  have hin:n<(n':Int):=by omega
  refine⟨.pointer (some ⟨b,o'+n.toNat*ye.size,none⟩),?_,?_⟩
  ·simp[execOp,hop,hh1,hh2,Instr.indexAt,asIntOf,run_underlying hdd,ha hn0,h0,hin,Dr hye,Ge]
  ·refine .cptr r b (o'+n.toNat*ye.size) (fun j=>vals n.toNat j) (fun j hj=>hm n.toNat j (by omega) (by omega)) (fun j hj=>hc n.toNat j (by omega) (by omega)) (fun j x hx'=>hr' n.toNat j r x hr hx')
theorem Ach{ops:Array Oper}{i:Nat}{l:List Nat}{k:List Item}{o:Oper}{t:Nat}{p q:Operand}{rows:List (List AV)}{sp:Sp}{ik:IntKind}{n:Int}{r:List AV}{e:Nat}{y ye:Ty}
 (ho:ops[i]?=some o)(hw:A8 ops F o=some true)(hop:o.op=.indexAddr t p q)(hp:Dw X F p=some (.sl rows sp))(hq:Dw X F q=some (.val (.int ik n)))
 (hy:X.ty t=some y)(hyk:y.k=.slc e)(hye:X.ty e=some ye)(hd:D3 B.fn.ntmps o.dst=true)(hl:r.length=ye.size)(h0:0≤n)(hr:rows[n.toNat]?=some r)
 (hk:AK X B (.inRegion ops l::k) (putF o.dst (.cptr r) F) S R):AK X B (.inRegion ops (i::l)::k) F S R:=
 Hi (Cu ho hw hop hp hq hy hyk hye hl h0 hr) ho hd hk
theorem Ar{c:Code}{k:List Item}{ι:Type}(n m:Nat)(I:ι→Prop)(st:ι→C5)(ss:ι→St)(μ:ι→Nat)
 (hstep:∀i,I i→(∀j,I j→μ j<μ i→∀F' S',Sub (st j) F'→S'.drop n m=ss j→Nat.ble n S'.boxes.length=true→Nat.ble m S'.toks.length=true→AK X B (.inLoop c::k) F' S' R) →
   AK X B (.code c::.inLoop c::k) (st i) (ss i) R)
 (i0:ι)(h0:I i0)(hF:Sub (st i0) F)(hS:S.drop n m=ss i0:=by rfl)(hn:Nat.ble B.n n=true:=by rfl)(hm:Nat.ble B.m m=true:=by rfl)
 (hn':Nat.ble n S.boxes.length=true:=by rfl)(hm':Nat.ble m S.toks.length=true:=by rfl)(hok:∀i,OKF n m (st i):=by intro;infer_instance)(hob:∀i,OKB n m (ss i).boxes:=by intro;infer_instance):AK X B (.code (.loop c)::k) F S R:=by
 have back:∀{K:List Item} (i:ι) (F':C5) (S':St),Sub (st i) F'→S'.drop n m=ss i→Nat.ble n S'.boxes.length=true→Nat.ble m S'.toks.length=true →
  AK X B K (st i) (ss i) R→AK X B K F' S' R:=fun{K} i F' S' h1 h2 h3 h4 h5=>
  Bz (bx:=(ss i).boxes) (tk:=(ss i).toks) n m h5 h1 h2 hn hm h3 h4 (hG:=hok i) (hbox:=hob i)
 have key:∀(q:Nat) (i:ι),μ i<q→I i→AK X B (.code c::.inLoop c::k) (st i) (ss i) R:=by
  intro q
  induction q with
  |zero=>intro i h;omega
  |succ q ih=>exact fun i h hi=>hstep i hi fun j hj hlt F' S' h1 h2 h3 h4=>back j F' S' h1 h2 h3 h4 (P7 (ih j (by omega) hj))
 exact back i0 F S hF hS hn' hm' (N1 (key _ i0 (Aec _) h0))
theorem Asg{ops:Array Oper}{i:Nat}{o:Oper}{t:Nat}{p q:Operand}{s:ByteArray}{ik:IntKind}{n:Int}{c:UInt8}{y:Ty}
 (ho:ops[i]?=some o)(hw:A8 ops F o=some true)(hop:o.op=.index t p q)(hp:Dw X F p=some (.val (.string s)))(hq:Dw X F q=some (.val (.int ik n)))
 (hy:X.ty t=some y)(hyk:y.k=.string)(h0:0≤n)(hr:s.data.toList[n.toNat]?=some c):Ndo X N ops i o F (.val (.int .u8 c.toNat)) S S:=by
 refine Dj ho hw fun F' E w a hc hI hF=>?_;rw[hop]at hc;have h1:=Ak hI hF ((hc p (by simp[Op.operands])).trans hp);have h2:=Ak hI hF ((hc q (by simp[Op.operands])).trans hq);obtain⟨d,hdd,hd2⟩:=(X.ty_ok t y hy).agg;simp only[hyk]at hd2;subst hd2;cases hh2:a.eval q<;>rw[hh2]at h2<;>cases h2;cases hh1:a.eval p<;>rw[hh1]at h1<;>cases h1;have hlt:n.toNat<s.size:=by have:=Aa hr;simpa using this
 have hg:s[n.toNat]?=some c:=by
  rw[getElem?_pos s n.toNat hlt];have h3:=hr;rw[Wv (by simpa using hlt)]at h3;simp only[Array.getElem_toList]at h3;exact h3
 exact⟨.int .u8 c.toNat,by simp[execOp,hop,hh1,hh2,Instr.index,asIntOf,run_underlying hdd,h0,hg],.val _⟩
theorem Avy{ops:Array Oper}{i:Nat}{l:List Nat}{k:List Item}{o:Oper}{t:Nat}{p q:Operand}{s:ByteArray}{ik:IntKind}{n:Int}{c:UInt8}{y:Ty}
 (ho:ops[i]?=some o)(hw:A8 ops F o=some true)(hop:o.op=.index t p q)(hp:Dw X F p=some (.val (.string s)))(hq:Dw X F q=some (.val (.int ik n)))
 (hy:X.ty t=some y)(hyk:y.k=.string)(hd:D3 B.fn.ntmps o.dst=true)(h0:0≤n)(hr:s.data.toList[n.toNat]?=some c)
 (hk:AK X B (.inRegion ops l::k) (putF o.dst (.val (.int .u8 c.toNat)) F) S R):AK X B (.inRegion ops (i::l)::k) F S R:=
 Hi (Asg ho hw hop hp hq hy hyk h0 hr) ho hd hk
end
def bitOf(bs:List Nat)(i j:Nat):Bool:=(bs.getD j 0).testBit i
def Ass(bs:List Nat)(es:List Edge):Nat:=es.foldl (fun s e=>if Region.binds .any e then s ||| 2^e.on ||| bs.getD e.on 0 else s) 0
def Zq(ops:Array Oper)(bs:List Nat):Bool:=
 (List.range ops.size).all fun j=>match ops[j]? with
   |some o=>(bs.getD j 0==Ass bs o.after.toList)&&o.after.toList.all fun e=>Nat.blt e.on j||!Region.binds .any e
   |none=>true
def R0(ops:Array Oper)(bs:List Nat)(em:Nat):Bool:=
 Zq ops bs&&(List.range ops.size).all fun i=>match ops[i]? with
  |none=>true
  |some oi=>(List.range ops.size).all fun j=>match ops[j]? with
   |none=>true
   |some oj=>
    (match oj.dst with
      |some t=>!(oi.looksAt ops).contains t||(Nat.blt j i&&bitOf bs j i)||(Nat.blt i j&&bitOf bs i j)
      |none=>true) &&
    (Nat.ble j i||(match oi.dst with
      |some t=>oj.dst != some t
      |none=>true)) &&
    (Nat.ble j i||!(em.testBit i&&em.testBit j)||bitOf bs i j)
theorem Qe(bs:List Nat)(i:Nat):∀(es:List Edge)(s:Nat),(es.foldl (fun s e=>if Region.binds .any e then s ||| 2^e.on ||| bs.getD e.on 0 else s) s).testBit i=true →
 s.testBit i=true∨∃e,e∈es∧Region.binds .any e=true∧(e.on=i∨(bs.getD e.on 0).testBit i=true)
 |[],s,h=>.inl h
 |e::es,s,h=>by
  rcases Qe bs i es _ h with h|⟨e',h1,h2⟩
  ·dsimp only at h;split at h
   ·rename_i hb;simp only[Nat.testBit_or,Pd]at h;rcases h with(h|h)|h
    ·exact .inl h
    ·exact .inr ⟨e,by simp,hb,.inl (by simpa[Nat.testBit_two_pow]using h)⟩
    ·exact .inr ⟨e,by simp,hb,.inr h⟩
   ·exact .inl h
  ·exact .inr ⟨e',by simp[h1],h2⟩
def Closed(ops:Array Oper)(listed:Array Bool):Prop:=
 ∀(j:Nat) (o:Oper),listed.getD j false=true→ops[j]?=some o→∀e,e∈o.after.toList→Region.binds .any e=true→listed.getD e.on false=true
theorem Closed.bit{ops:Array Oper}{bs:List Nat}(hb:Zq ops bs=true){listed:Array Bool}(hc:Closed ops listed):∀(j i:Nat),j<ops.size→listed.getD j false=true→bitOf bs i j=true→listed.getD i false=true:=by
 intro j
 induction j using Nat.strongRecOn with
 |ind j ih=>
  intro i hj hl hbit;have hk:=zzq48.1 hb j (zzq53.2 hj);have ho:ops[j]?=some ops[j]:=by simp[hj]
  rw[ho]at hk;simp only[Dd,zzq54]at hk;unfold bitOf at hbit;rw[hk.1]at hbit;rcases Qe bs i _ 0 hbit with h|⟨e,he,hbe,h⟩
  ·simp at h
  ·have hlt:e.on<j:=by
    have:=zzq48.1 hk.2 e he;simp only[hbe,Bool.not_true,Vf]at this;simpa[Fw]using this
   have hle:=hc j _ hl ho e he hbe;rcases h with rfl|h
   ·exact hle
   ·exact ih e.on hlt i (by omega) hle h
section
variable {X:Cx}{B:Bx}{E:Env}{S:St}{w:World}{F:C5}{a:Act}{N:Nat}{R:AE→St→Prop}
abbrev J2:=Nat×Oper×C5×AV
def Drv(X:Cx)(N:Nat)(ops:Array Oper)(bs:List Nat)(em:Nat):List Oper→Nat→C5→St→List St→List J2→(C5→St→Prop)→Prop
 |[],_,F,S,_,_,K=>K F S
 |o::os,i,F,S,Hs,pend,K=>
  (∃x,D3 N o.dst=true∧(∀S',Ndo X N ops i o F x S' S')∧Drv X N ops bs em os (i+1) (putF o.dst x F) S Hs pend K) ∨
  (∃x,D3 N o.dst=true∧(∀S',S'∈Hs→Ndo X N ops i o F x S' S')∧Drv X N ops bs em os (i+1) (putF o.dst x F) S Hs ((i,o,F,x)::pend) K) ∨
  (∃x S' pend',em.testBit i=true∧D3 N o.dst=true∧Ndo X N ops i o F x S S'∧pend.filter (fun p=>!bitOf bs p.1 i)=pend'∧(∀p,p∈pend'→Ndo X N ops p.1 p.2.1 p.2.2.1 p.2.2.2 S' S') ∧
    Drv X N ops bs em os (i+1) (putF o.dst x F) S' (S'::Hs) pend' K)
structure DData (X:Cx)(N:Nat)(ops:Array Oper)(bs:List Nat)(em:Nat)(i n:Nat)(eff:Nat→Bool)(x:Nat→AV)(FF:Nat→C5)(SS:Nat→St)(Hs:List St)(pend:List J2):Prop where
 step:∀j,i≤j→j<n→∀o,ops[j]?=some o→FF (j+1)=putF o.dst (x j) (FF j)∧D3 N o.dst=true
 eff0:∀j,i≤j→j<n→eff j=false→SS (j+1)=SS j
 eff1:∀j,i≤j→j<n→eff j=true→∀o,ops[j]?=some o→em.testBit j=true∧Ndo X N ops j o (FF j) (x j) (SS j) (SS (j+1))
 was:∀j,i≤j→j<n→eff j=false→∀o,ops[j]?=some o→∀S',S'∈Hs→Ndo X N ops j o (FF j) (x j) S' S'
 will:∀j,i≤j→j<n→eff j=false→∀o,ops[j]?=some o→∀p,i≤p→p≤n→(∀e,j≤e→e<p→eff e=true→bitOf bs j e=false)→Ndo X N ops j o (FF j) (x j) (SS p) (SS p)
 pend:∀q,q∈pend→∀p,i≤p→p≤n→(∀e,i≤e→e<p→eff e=true→bitOf bs q.1 e=false)→Ndo X N ops q.1 q.2.1 q.2.2.1 q.2.2.2 (SS p) (SS p)
theorem Tt{ops:Array Oper}{bs:List Nat}{em:Nat}:∀(os:List Oper)(i:Nat)(F:C5)(S:St)(Hs:List St)(pend:List J2)(K:C5→St→Prop),
 Drv X N ops bs em os i F S Hs pend K→(∀k,k<os.length→ops[i+k]?=os[k]?)→S∈Hs→(∀q,q∈pend→Ndo X N ops q.1 q.2.1 q.2.2.1 q.2.2.2 S S) →
 ∃eff x FF SS,FF i=F∧SS i=S∧K (FF (i+os.length)) (SS (i+os.length))∧DData X N ops bs em i (i+os.length) eff x FF SS Hs pend
 |[],i,F,S,Hs,pend,K,h,_,hS,hp=>by
  refine⟨fun _=>false,fun _=>.junk,fun _=>F,fun _=>S,rfl,rfl,h,?_⟩
  exact{ step:=fun j h1 h2=>by simp at h2;omega
         eff0:=fun j h1 h2=>by simp at h2;omega
         eff1:=fun j h1 h2=>by simp at h2;omega
         was:=fun j h1 h2=>by simp at h2;omega
         will:=fun j h1 h2=>by simp at h2;omega
         pend:=fun q hq p _ _ _=>hp q hq }
 |o::os,i,F,S,Hs,pend,K,h,hops,hS,hp=>by
  have ho:ops[i]?=some o:=by have:=hops 0 (by simp);simpa using this
  have hops':∀k,k<os.length→ops[i+1+k]?=os[k]?:=fun k hk=>by
   have:=hops (k+1) (by simp;omega);rw[show i+1+k=i+(k+1) by omega];simpa using this
  have hlen:i+(o::os).length=i+1+os.length:=by simp;omega
  rw[hlen];simp only[Drv]at h;have upd:∀{β:Type} (f:Nat→β) (v:β) (j:Nat),(fun j=>if j=i then v else f j) j=if j=i then v else f j:=fun _ _ _=>rfl;rcases h with⟨x,hd,hn,hk⟩|⟨x,hd,hn,hk⟩|⟨x,S',pend',he,hd,hn,hpf,hpn,hk⟩
  ·obtain⟨eff,xs,FF,SS,h1,h2,h3,D⟩:=Tt os (i+1) _ S Hs pend K hk hops' hS hp;refine⟨fun j=>if j=i then false else eff j,fun j=>if j=i then x else xs j,fun j=>if j=i then F else FF j,fun j=>if j=i then S else SS j,by simp,by simp,?_,?_⟩
   ·have:¬(i+1+os.length=i):=by omega
    simpa[this]using h3
   ·refine⟨fun j a b o' ho'=>?_,fun j a b c=>?_,fun j a b c o' ho'=>?_,fun j a b c o' ho' S' hS'=>?_,fun j a b c o' ho' p hp1 hp2 hpe=>?_,fun q hq p hp1 hp2 hpe=>?_⟩
    ·by_cases hj:j=i
     ·subst hj;rw[ho]at ho';cases ho';simp[h1,hd]
     ·have h4:¬(j+1=i):=by omega
      simp only[hj,h4,if_false];exact D.step j (by omega) b o' ho'
    ·by_cases hj:j=i
     ·subst hj;simp[h2]
     ·have h4:¬(j+1=i):=by omega
      simp only[hj,h4,if_false]at c⊢;exact D.eff0 j (by omega) b c
    ·by_cases hj:j=i
     ·subst hj;simp at c
     ·have h4:¬(j+1=i):=by omega
      simp only[hj,h4,if_false]at c⊢;exact D.eff1 j (by omega) b c o' ho'
    ·by_cases hj:j=i
     ·subst hj;rw[ho]at ho';cases ho';simp only[if_true];exact hn S'
     ·simp only[hj,if_false]at c⊢;exact D.was j (by omega) b c o' ho' S' hS'
    ·by_cases hj:j=i
     ·subst hj;rw[ho]at ho';cases ho';simp only[if_true];exact hn _
     ·simp only[hj,if_false]at c⊢;by_cases hpi:p=i
      ·subst hpi;simp only[if_true];exact D.was j (by omega) b c o' ho' S hS
      ·simp only[hpi,if_false];refine D.will j (by omega) b c o' ho' p (by omega) hp2 (fun e e1 e2 e3=>hpe e e1 e2 ?_);have:¬(e=i):=by omega
       simpa[this]using e3
    ·by_cases hpi:p=i
     ·subst hpi;simp only[if_true];exact hp q hq
     ·simp only[hpi,if_false];refine D.pend q hq p (by omega) hp2 (fun e e1 e2 e3=>hpe e (by omega) e2 ?_);have:¬(e=i):=by omega
      simpa[this]using e3
  ·obtain⟨eff,xs,FF,SS,h1,h2,h3,D⟩:=Tt os (i+1) _ S Hs ((i,o,F,x)::pend) K hk hops' hS (fun q hq=>by
    rcases zzq13.1 hq with rfl|hq
    ·exact hn S hS
    ·exact hp q hq)
   refine⟨fun j=>if j=i then false else eff j,fun j=>if j=i then x else xs j,fun j=>if j=i then F else FF j,fun j=>if j=i then S else SS j,by simp,by simp,?_,?_⟩
   ·have:¬(i+1+os.length=i):=by omega
    simpa[this]using h3
   ·refine⟨fun j a b o' ho'=>?_,fun j a b c=>?_,fun j a b c o' ho'=>?_,fun j a b c o' ho' S' hS'=>?_,fun j a b c o' ho' p hp1 hp2 hpe=>?_,fun q hq p hp1 hp2 hpe=>?_⟩
    ·by_cases hj:j=i
     ·subst hj;rw[ho]at ho';cases ho';simp[h1,hd]
     ·have h4:¬(j+1=i):=by omega
      simp only[hj,h4,if_false];exact D.step j (by omega) b o' ho'
    ·by_cases hj:j=i
     ·subst hj;simp[h2]
     ·have h4:¬(j+1=i):=by omega
      simp only[hj,h4,if_false]at c⊢;exact D.eff0 j (by omega) b c
    ·by_cases hj:j=i
     ·subst hj;simp at c
     ·have h4:¬(j+1=i):=by omega
      simp only[hj,h4,if_false]at c⊢;exact D.eff1 j (by omega) b c o' ho'
    ·by_cases hj:j=i
     ·subst hj;rw[ho]at ho';cases ho';simp only[if_true];exact hn S' hS'
     ·simp only[hj,if_false]at c⊢;exact D.was j (by omega) b c o' ho' S' hS'
    ·by_cases hpi:p=i
     ·subst hpi;simp only[if_true];by_cases hj:j=p
      ·subst hj;rw[ho]at ho';cases ho';simp only[if_true];exact hn S hS
      ·simp only[hj,if_false]at c⊢;exact D.was j (by omega) b c o' ho' S hS
     ·simp only[hpi,if_false];by_cases hj:j=i
      ·subst hj;rw[ho]at ho';cases ho';simp only[if_true];refine D.pend (j,o,F,x) (by simp) p (by omega) hp2 (fun e e1 e2 e3=>hpe e (by omega) e2 ?_);have:¬(e=j):=by omega
       simpa[this]using e3
      ·simp only[hj,if_false]at c⊢;refine D.will j (by omega) b c o' ho' p (by omega) hp2 (fun e e1 e2 e3=>hpe e e1 e2 ?_);have:¬(e=i):=by omega
       simpa[this]using e3
    ·by_cases hpi:p=i
     ·subst hpi;simp only[if_true];exact hp q hq
     ·simp only[hpi,if_false];refine D.pend q (by simp[hq]) p (by omega) hp2 (fun e e1 e2 e3=>hpe e (by omega) e2 ?_);have:¬(e=i):=by omega
      simpa[this]using e3
  ·obtain⟨eff,xs,FF,SS,h1,h2,h3,D⟩:=Tt os (i+1) _ S' (S'::Hs) pend' K hk hops' (by simp) hpn;refine⟨fun j=>if j=i then true else eff j,fun j=>if j=i then x else xs j,fun j=>if j=i then F else FF j,fun j=>if j=i then S else SS j,by simp,by simp,?_,?_⟩
   ·have:¬(i+1+os.length=i):=by omega
    simpa[this]using h3
   ·refine⟨fun j a b o' ho'=>?_,fun j a b c=>?_,fun j a b c o' ho'=>?_,fun j a b c o' ho' S' hS'=>?_,fun j a b c o' ho' p hp1 hp2 hpe=>?_,fun q hq p hp1 hp2 hpe=>?_⟩
    ·by_cases hj:j=i
     ·subst hj;rw[ho]at ho';cases ho';simp[h1,hd]
     ·have h4:¬(j+1=i):=by omega
      simp only[hj,h4,if_false];exact D.step j (by omega) b o' ho'
    ·by_cases hj:j=i
     ·subst hj;simp at c
     ·have h4:¬(j+1=i):=by omega
      simp only[hj,h4,if_false]at c⊢;exact D.eff0 j (by omega) b c
    ·by_cases hj:j=i
     ·subst hj;rw[ho]at ho';cases ho';simp[h2,he];exact hn
     ·have h4:¬(j+1=i):=by omega
      simp only[hj,h4,if_false]at c⊢;exact D.eff1 j (by omega) b c o' ho'
    ·by_cases hj:j=i
     ·subst hj;simp at c
     ·simp only[hj,if_false]at c⊢;exact D.was j (by omega) b c o' ho' S' (by simp[hS'])
    ·by_cases hj:j=i
     ·subst hj;simp at c
     ·simp only[hj,if_false]at c⊢;by_cases hpi:p=i
      ·subst hpi;simp only[if_true];exact D.was j (by omega) b c o' ho' S (by simp[hS])
      ·simp only[hpi,if_false];refine D.will j (by omega) b c o' ho' p (by omega) hp2 (fun e e1 e2 e3=>hpe e e1 e2 ?_);have:¬(e=i):=by omega
       simpa[this]using e3
    ·by_cases hpi:p=i
     ·subst hpi;simp only[if_true];exact hp q hq
     ·simp only[hpi,if_false];have hb:bitOf bs q.1 i=false:=hpe i (Bo _) (by omega) (by simp);refine D.pend q (by rw[←hpf];exact zzq56.2 ⟨hq,by simp[hb]⟩) p (by omega) hp2 (fun e e1 e2 e3=>hpe e (by omega) e2 ?_);have:¬(e=i):=by omega
      simpa[this]using e3
end
end Go.V
