/- A part of the proof of the claim that the last text states: no condition of its own. -/
import Derived.Test.YtojhghmilenfkaaGreatDoorQ1
set_option linter.unusedVariables false
set_option linter.unusedSimpArgs false
namespace Go.V
open Go
structure Bx where
 f:FuncId
 fn:Func
 n:Nat
 m:Nat
inductive AE where
 |ret (r:AV)
 |panic (chain:List PanicEntry)
 |hook (C:List Frame→Frame→Env→World→Machine→Prop)
def Aje(X:Cx)(E:Env)(w:World)(n m:Nat)(R:AE→St→Prop)(e:Ending)(w':World):Prop:=
 ∃E' S',Inv X E' S' w'∧Evol E w E' w' n m∧(match e with
  |.returned v=>∃r,Rel E' w' v r∧R (.ret r) S'
  |.panicked ch=>R (.panic ch) S'
  |.outgrown=>False)
def Aii(P:Program)(fr:Frame)(w:World)(D:List Deferred)(κ:CallKind):Ending→Prop
 |.returned v=>fr.mode=.returning∧fr.defers=D∧fr.kind=κ∧∃fn,P.funcs[fr.fn]?=some fn∧(results fn fr.tmps).run P w=.ok v w
 |.panicked ch=>fr.mode=.panicking ch∧fr.defers=D∧∃fn,P.funcs[fr.fn]?=some fn
 |.outgrown=>True
theorem Akb{P:Program}{fr:Frame}{w:World}{e:Ending}(h:Aii P fr w [] .normal e):fr.leaving P w e:=by
 cases e with
 |returned v=>exact h
 |panicked ch=>exact h
 |outgrown=>exact trivial
def Fin(X:Cx)(B:Bx)(R:AE→St→Prop)(E:Env)(w:World)(b:Frame)(cs:List Frame)(st:Machine):Prop:=
 (∃e w' fr,Aje X E w B.n B.m R e w'∧Comes X.P st (lone fr cs w') e∧fr.fn=B.f∧Aii X.P fr w' E.df b.kind e) ∨
 ∃C,R (.hook C) ⟨[],[]⟩∧(∀(E:Env) (w:World) (E':Env) (w':World) (st st':Machine),Steps X.P st st'→Evol E w E' w' B.n B.m→C cs b E' w' st'→C cs b E w st)∧C cs b E w st
def AK(X:Cx)(B:Bx)(K:List Item)(F:Cw)(S:St)(R:AE→St→Prop):Prop:=
 ∀(E:Env) (w:World) (a:Act) (b:Frame) (cs:List Frame),Inv X E S w→FR E w F a B.fn.ntmps→B.n≤S.boxes.length→B.m≤S.toks.length→b.fn=B.f →
  Fin X B R E w b cs (lone (b.at a K) cs w)
def ACalls(X:Cx)(f:FuncId)(args:An)(S:St)(R:AE→St→Prop):Prop:=
 ∀(E:Env) (w:World) (vs:Array Value),E.df=[]→Inv X E S w→vs.size=args.length→(∀(j:Nat) (v:Value) (x:AV),vs[j]?=some v→args[j]?=some x→Rel E w v x) →
  Calls X.P f vs w (Aje X E w S.boxes.length S.toks.length R)
section
variable {X:Cx}{B:Bx}{E:Env}{S:St}{w:World}{F:Cw}{a:Act}{N:Nat}{R:AE→St→Prop}
theorem Evol.len{E':Env}{w':World}(ev:Evol E w E' w' E.boxes.length E.toks.length):E.boxes.length≤E'.boxes.length∧E.toks.length≤E'.toks.length:=by
 constructor
 ·rcases Ga E'.boxes.length E.boxes.length with h|h
  ·have:=(ev.boxes E'.boxes.length h h).1;omega
  ·exact h
 ·rcases Ga E'.toks.length E.toks.length with h|h
  ·obtain⟨k',hk',_⟩:=ev.toks E'.toks.length h E.toks[E'.toks.length] (by simp[h]);simp_all
  ·exact h
theorem Fin.from{E':Env}{w':World}{b:Frame}{cs:List Frame}{st st':Machine}(hs:Steps X.P st st')(ev:Evol E w E' w' B.n B.m)(h:Fin X B R E' w' b cs st'):Fin X B R E w b cs st:=by
 rcases h with⟨e,w2,fr,⟨E2,S2,h1,h2,h3⟩,d2,d3,d4⟩|⟨C,h1,h2,h3⟩
 ·exact .inl ⟨e,w2,fr,⟨E2,S2,h1,ev.trans h2,h3⟩,Comes.of_steps hs d2,d3,ev.df▸d4⟩
 ·exact .inr ⟨C,h1,h2,h2 _ _ _ _ _ _ hs ev h3⟩
theorem R7{K K':List Item}{F':Cw}{S':St}(hk:AK X B K' F' S' R)
 (h:∀(E:Env)(w:World)(a:Act)(b:Frame)(cs:List Frame),Inv X E S w→FR E w F a B.fn.ntmps→b.fn=B.f →
   ∃E' w' a',Steps X.P (lone (b.at a K) cs w) (lone (b.at a' K') cs w')∧Inv X E' S' w'∧Evol E w E' w' E.boxes.length E.toks.length∧FR E' w' F' a' B.fn.ntmps):AK X B K F S R:=by
 intro E w a b cs hI hF hn hm hb;obtain⟨E',w',a',h1,h2,h3,h4⟩:=h E w a b cs hI hF hb;have hl:=h3.len;have nt:E.toks.length=S.toks.length:=by rw[←hI.nt];simp
 have nt':E'.toks.length=S'.toks.length:=by rw[←h2.nt];simp
 exact Fin.from h1 (h3.weaken (by rw[hI.nb];exact hn) (by omega)) (hk E' w' a' b cs h2 h4 (by rw[←h2.nb];have:=hI.nb;omega) (by omega) hb)
theorem K5{K K':List Item}(hk:AK X B K' F S R)(h:∀(w:World)(a:Act)(b:Frame)(cs:List Frame),Go.step X.P (lone (b.at a K) cs w)=.next (lone (b.at a K') cs w)):AK X B K F S R:=
 R7 hk fun E w a b cs hI hF _=>⟨E,w,a,.one (h w a b cs),hI,Evol.refl _ _ _ _,hF⟩
theorem Ak4{b:Frame}{k:List Item}{cs:List Frame}{ops:Array Oper}{i:Nat}{rest:List Nat}{o:Oper}(ho:ops[i]?=some o)
 (hw:Region.wanted o (yielded ops a.tmps)=true){nx:Next}{v:Value}{w':World}(hr:(execOp a.eval o).run X.P w=.ok nx w')(hn:nx=.value v∨(nx=.skip∧v=undef)) :
 Go.step X.P (lone (b.at a (.inRegion ops (i::rest)::k)) cs w)=.next (lone (b.at (a.put o.dst v) (.inRegion ops rest::k)) cs w'):=by
 have hg:=stepG_op (P:=X.P) (b:=b) (k:=k) (cs:=cs) (w:=w) (rest:=rest) ho hw;have hfin:(b.at a (.inRegion ops (i::rest)::k)).finish v=b.at (a.put o.dst v) (.inRegion ops rest::k):=by
  simp_all [Frame.finish_at]
 refine step_lone_go ?_;rw[hg,←hfin];rcases hn with rfl|⟨rfl,rfl⟩
 ·simp[stepG.apply,hr]
 simp_all [stepG.apply]
theorem Cu{ops:Array Oper}{o:Oper}{t:Bool}(hF:FR E w F a N)(h:Bc ops F o=some t):Region.wanted o (yielded ops a.tmps)=t:=by
 unfold Bc at h;unfold Region.wanted;split at h
 ·simp_all
 ·rename_i j want hg;simp only[hg];split at h
  ·rename_i oj hj;split at h
   ·rename_i d hd;split at h
    ·rename_i hl;cases h;obtain⟨v,hv,hr⟩:=hF.rel d _ hl;cases hr;simp_all [yielded]
    ·rename_i hl;cases h;obtain⟨v,hv,hr⟩:=hF.rel d _ hl;cases hr
     grind [yielded]
    ·rename_i hl;cases h;obtain⟨v,hv,hr⟩:=hF.rel d _ hl;cases hr
     grind [yielded]
    ·cases h
   ·cases h
  ·cases h
theorem Yc{b:Frame}{k:List Item}{cs:List Frame}{ops:Array Oper}{i:Nat}{rest:List Nat}{o:Oper}(ho:ops[i]?=some o)
 (hw:Region.wanted o (yielded ops a.tmps)=false) :
 Go.step X.P (lone (b.at a (.inRegion ops (i::rest)::k)) cs w)=.next (lone (b.at (a.put o.dst undef) (.inRegion ops rest::k)) cs w):=by
 grind [step_op_skip]
theorem Ib:∀(n:Nat)(K:List Item)(F:Cw)(S:St),AK X B (ev X B.fn.ntmps n K F S).1 (ev X B.fn.ntmps n K F S).2.1 (ev X B.fn.ntmps n K F S).2.2 R→AK X B K F S R
 |0,K,F,S,h=>h
 |n+1,K,F,S,h=>by
  unfold ev at h;split at h
  ·exact K5 (Ib n _ _ _ h) fun w a b cs=>step_skip
  ·exact K5 (Ib n _ _ _ h) fun w a b cs=>step_label
  ·exact K5 (Ib n _ _ _ h) fun w a b cs=>step_inBlock
  ·exact K5 (Ib n _ _ _ h) fun w a b cs=>step_lone_go (by simp[stepG,stepG.exec,Frame.at])
  ·exact K5 (Ib n _ _ _ h) fun w a b cs=>step_seq
  ·exact K5 (Ib n _ _ _ h) fun w a b cs=>step_block
  ·split at h
   ·rename_i k' hx;exact K5 (Ib n _ _ _ h) fun w a b cs=>step_exit hx
   ·exact h
  ·split at h
   ·rename_i hc;refine R7 (Ib n _ _ _ h) fun E w a b cs hI hF _=>?_;obtain⟨v,hv,hr⟩:=hF.rel _ _ hc;cases hr;exact⟨E,w,a,.one (step_cond (t:=true) (by simp[Act.eval,hv])),hI,Evol.refl _ _ _ _,hF⟩
   ·rename_i hc;refine R7 (Ib n _ _ _ h) fun E w a b cs hI hF _=>?_;obtain⟨v,hv,hr⟩:=hF.rel _ _ hc;cases hr;exact⟨E,w,a,.one (step_cond (t:=false) (by simp[Act.eval,hv])),hI,Evol.refl _ _ _ _,hF⟩
   ·exact h
  ·exact K5 (Ib n _ _ _ h) fun w a b cs=>step_region
  ·exact K5 (Ib n _ _ _ h) fun w a b cs=>step_region_end
  ·split at h
   ·rename_i o ho;split at h
    ·rename_i hw;split at h
     ·rename_i F' S' he;refine R7 (Ib n _ _ _ h) fun E w a b cs hI hF _=>?_;obtain⟨nx,v,E',w',h1,h2,h3,h4,h5⟩:=Ahx hI hF he;exact⟨E',w',_,.one (Ak4 ho (Cu hF hw) h1 h2),h3,h4,h5⟩
     ·exact h
    ·rename_i hw;split at h
     ·rename_i d hd;split at h
      ·rename_i hlt;refine R7 (Ib n _ _ _ h) fun E w a b cs hI hF _=>?_;exact⟨E,w,_,.one (Yc ho (Cu hF hw)),hI,Evol.refl _ _ _ _,by rw[hd];exact hF.put (by simp_all) (.val undef)⟩
      ·exact h
     ·rename_i hd;refine R7 (Ib n _ _ _ h) fun E w a b cs hI hF _=>?_;exact⟨E,w,_,.one (Yc ho (Cu hF hw)),hI,Evol.refl _ _ _ _,by rw[hd];exact hF⟩
    ·exact h
   ·exact h
  ·exact h
theorem Ba{K K':List Item}{F':Cw}{S':St}(n:Nat)(h:ev X B.fn.ntmps n K F S=(K',F',S'))(hk:AK X B K' F' S' R):AK X B K F S R:=
 Ib n K F S (by rw[h];exact hk)
end
section
variable {X:Cx}{B:Bx}{E:Env}{S:St}{w:World}{F:Cw}{a:Act}{N:Nat}{R:AE→St→Prop}
def Env.drop(E:Env)(n m:Nat):Env:={ E with boxes:=E.boxes.take n,toks:=E.toks.take m }
def St.drop(S:St)(n m:Nat):St:=⟨S.boxes.take n,S.toks.take m⟩
def H3(n m:Nat)(rows:A7):Prop:=∀r,r∈rows→∀x,x∈r→Ok n m x
theorem Gu{α:Type}{l:List α}{n i:Nat}{x:α}(h:(l.take n)[i]?=some x):i<n∧l[i]?=some x:=by
 grind
theorem R9{n m b:Nat}(h:(E.drop n m).own b):E.own b:=by
 rcases h with⟨i,s,h⟩|⟨t,l,c,s,h⟩
 ·exact .inl ⟨i,s,(Gu h).2⟩
 ·exact .inr ⟨t,l,c,s,(Gu h).2⟩
theorem Abf{n m b o:Nat}(h:(E.drop n m).mt b o):E.mt b o:=by
 rcases h with h|⟨i,s,h⟩|⟨t,l,c,s,h,h'⟩
 ·exact .inl h
 ·exact .inr (.inl ⟨i,s,(Gu h).2⟩)
 ·exact .inr (.inr ⟨t,l,c,s,(Gu h).2,h'⟩)
theorem Evol.drop(E:Env)(w:World)(n m:Nat):Evol E w (E.drop n m) w n m where
 fr:=rfl
 boxes i hi hl:=⟨by simp[Env.drop];omega,fun x hx=>by simp_all [Env.drop]⟩
 toks t ht k hk:=⟨k,by simp_all [Env.drop],.inl rfl⟩
 os:=rfl
 tape:=rfl
 output:=rfl
 size:=Bt _
 block _ _ _:=rfl
 cell _ _ _ _ h:=h
 mt _ _ _ h:=Abf h
 own _ _ h:=R9 h
 df:=rfl
 ty _ _ h:=h
 pv _ _ _ _ _ _ _ _ _ h:=h
theorem Rel.drop{n m:Nat}{v:Value}{x:AV}(h:Rel E w v x)(ho:Ok n m x):Rel (E.drop n m) w v x:=h.mono (Evol.drop E w n m) ho
theorem Inv.drop(hI:Inv X E S w){n m:Nat}(hb:∀rows,rows∈S.boxes.take n→H3 n m rows):Inv X (E.drop n m) (S.drop n m) w where
 nb:=by simp[Env.drop,St.drop,hI.nb]
 nt:=by simp only[Env.drop,St.drop,List.map_take,hI.nt]
 np i hi:=by
  simp only[Env.drop,Zz]at hi⊢;rw[Z0,if_pos (by omega)];exact hI.np i (by omega)
 box i b sz rows h1 h2:=by
  obtain⟨cs,e,hh,hs,hl,hr⟩:=hI.box i b sz rows (Gu h1).2 (Gu h2).2;exact⟨cs,e,hh,hs,hl,fun k r j x v h3 h4 h5=>(hr k r j x v h3 h4 h5).drop (hb rows (Bn h2) r (Bn h3) x (Bn h4))⟩
 tok t l b c sz h:=hI.tok t l b c sz (Gu h).2
 bb i j b s s' h1 h2:=hI.bb i j b s s' (Gu h1).2 (Gu h2).2
 bt i t b s l c sz h1 h2:=hI.bt i t b s l c sz (Gu h1).2 (Gu h2).2
 tt i j b l c s l' c' s' h1 h2:=hI.tt i j b l c s l' c' s' (Gu h1).2 (Gu h2).2
 frlt b o h:=⟨fun h'=>(hI.frlt b o h).1 (R9 h'),(hI.frlt b o h).2⟩
 lo b h:=hI.lo b (R9 h)
 frlo:=hI.frlo
 sz:=hI.sz
 glob:=hI.glob
inductive Fz (S:St)(n m:Nat):AV→AV→Prop where
 |same (x:AV) (h:Ok n m x):Fz S n m x x
 |strip (rows rows':List (List AV)) (sp:Sp) (hl:rows'.length=rows.length) (hll:∀(i:Nat) (r r':List AV),rows[i]?=some r→rows'[i]?=some r'→r'.length=r.length)
   (hz:∀(i j:Nat)(r r':List AV)(x y:AV),rows[i]?=some r→rows'[i]?=some r'→r[j]?=some x→r'[j]?=some y→Fz S n m x y):Fz S n m (.sl rows sp) (.sl rows' .no)
 |ptr (b r o:Nat) (rows:List (List AV)) (cs cs':List AV) (hb:n≤b) (hS:S.boxes[b]?=some rows) (hr:rows[r]?=some cs) (hl:cs'.length=(cs.drop o).length)
   (hz:∀(j:Nat)(x y:AV),(cs.drop o)[j]?=some x→cs'[j]?=some y→Fz S n m x y):Fz S n m (.ptr b r o) (.cptr cs')
 |bsl (b k:Nat) (rows rows':List (List AV)) (hb:n≤b) (hS:S.boxes[b]?=some rows) (hk:k≤rows.length) (hkm:k≤P1) (hl:rows'.length=k)
   (hll:∀(i:Nat)(r r':List AV),rows[i]?=some r→rows'[i]?=some r'→r'.length=r.length)
   (hz:∀(i j:Nat)(r r':List AV)(x y:AV),rows[i]?=some r→rows'[i]?=some r'→r[j]?=some x→r'[j]?=some y→Fz S n m x y):Fz S n m (.bsl b k) (.sl rows' .no)
 |psl (rows:List (List AV)) (t v:Nat) (ht:m≤t) (hS:S.toks[t]?=some v) (ho:H3 n m rows):Fz S n m (.psl rows t v) (.sl rows .no)
 |agg (cs cs':List AV) (hl:cs'.length=cs.length) (hz:∀(j:Nat) (x y:AV),cs[j]?=some x→cs'[j]?=some y→Fz S n m x y):Fz S n m (.agg cs) (.agg cs')
 |tup (cs cs':List AV) (hl:cs'.length=cs.length) (hz:∀(j:Nat) (x y:AV),cs[j]?=some x→cs'[j]?=some y→Fz S n m x y):Fz S n m (.tup cs) (.tup cs')
 |fn (f:FuncId) (cs cs':List AV) (hl:cs'.length=cs.length) (hz:∀(j:Nat) (x y:AV),cs[j]?=some x→cs'[j]?=some y→Fz S n m x y):Fz S n m (.fn f cs) (.fn f cs')
theorem Ab{α:Type}(l:List α){i:Nat}(h:i<l.length):∃x,l[i]?=some x:=⟨l[i],by simp[h]⟩
theorem Fz.rel(hI:Inv X E S w){n m:Nat}{x y:AV}(h:Fz S n m x y):∀{v:Value},Rel E w v x→Rel (E.drop n m) w v y:=by
 have nomt:∀{b blk sz:Nat},n≤b→E.boxes[b]?=some (some (blk,sz))→∀o,¬(E.drop n m).mt blk o:=fun{b blk sz} hb hB o hm=>by
  rcases hm with h|⟨i,s,h⟩|⟨t,l,c,s,h,_⟩
  ·exact(hI.frlt _ _ h).1 (.inl ⟨b,sz,hB⟩)
  ·have:=hI.bb _ _ _ _ _ (Gu h).2 hB;have:=(Gu h).1;omega
  ·exact hI.bt _ _ _ _ _ _ _ hB (Gu h).2
 induction h with
 |same x h=>exact fun hx=>hx.drop h
 |strip rows rows' sp hl hll hz ih=>
  intro v hx;cases hx with
  |sl _ _ a n cap b o sz vals hn hx ha hsz hm hc hr hs hcap=>
   refine .sl rows' .no a n cap b o sz vals (by omega) hx ha (fun r hr'=>?_) (fun i j hi hj hh=>hm i j hi hj (Abf hh)) hc (fun i j r' y hi hj=>?_) trivial hcap
   ·grind [B9,Aa]
   grind [Aa]
 |ptr b r o rows cs cs' hb hS hr hl hz ih=>
  intro v hx;cases hx with
  |ptr _ _ _ blk sz hB=>
   obtain⟨arr,e,hh,hs,hlen,hrel⟩:=hI.box b blk sz rows hB hS;have hcl:=hlen cs (Bn hr);have hr':=Aa hr;simp only[Anu]at hl;have hin:∀j,j<cs'.length→r*sz+o+j<arr.size:=fun j hj=>by
    have:=Jv (sz:=sz) hr' (show o+j<sz by omega);omega
   refine .cptr cs' blk (r*sz+o) (fun j=>arr.getD (r*sz+o+j) default) (fun j _=>nomt hb hB _) (fun j hj=>?_) (fun j y hy=>?_)
   ·simp_all [World.cell?]
   ·have hj:=Aa hy;have hi:=hin j hj;obtain⟨x,hx⟩:=Ab (cs.drop o) (i:=j) (by simp;omega);exact ih j x y hx hy (hrel r cs (o+j) x _ hr (by grind) (by simp_all [Qi]))
 |bsl b k rows rows' hb hS hk hkm hl hll hz ih=>
  intro v hx;cases hx with
  |bsl _ blk sz _ cap hB hcap=>
   obtain⟨arr,e,hh,hs,hlen,hrel⟩:=hI.box b blk sz rows hB hS;have hin:∀i j,i<k→j<sz→i*sz+j<arr.size:=fun i j hi hj=>by
    have:=Jv (sz:=sz) (show i<rows.length by omega) hj;omega
   refine .sl rows' .no _ k cap blk 0 sz (fun i j=>arr.getD (i*sz+j) default) (by omega) hkm (fun _=>rfl) (fun r' hr'=>?_) (fun i j _ _=>nomt hb hB _) (fun i j hi hj=>?_) (fun i j r' y hr' hy=>?_) trivial hcap
   ·obtain⟨i,hi⟩:=B9 hr';obtain⟨r,hr⟩:=Ab rows (i:=i) (by grind)
    grind
   ·simp_all [World.cell?]
   ·have hi:=Aa hr';obtain⟨r,hr⟩:=Ab rows (i:=i) (by omega);have hjl:=Aa hy;rw[hll i r r' hr hr']at hjl;obtain⟨x,hx⟩:=Ab r hjl;have hjs:j<sz:=by grind
    have:=hin i j (by omega) hjs;exact ih i j r r' x y hr hr' hx hy (hrel i r j x _ hr hx (by simp_all))
 |psl rows t ver ht hS ho=>
  intro v hx;cases hx with
  |psl _ _ _ a n' cap k sz vals hn hx hcap hk hv hsz hp hr hf=>
   have hkl:ver=k.len:=by
    have h1:=hI.nt
    grind
   have hp:=hp hkl;obtain⟨kl,ksp⟩:=k;have hrel:∀(i j:Nat) (r:An) (x:AV),rows[i]?=some r→r[j]?=some x→Rel (E.drop n m) w (vals i j) x:=fun i j r x h1 h2=>
    (hr i j r x h1 h2).drop (ho r (Bn h1) x (Bn h2))
   cases ksp with
   |none=>
    obtain⟨rfl,rfl⟩:=hp;exact .sl rows .no a 0 0 0 0 sz vals hn hx (fun h=>absurd rfl h) hsz (fun i j hi=>by omega) (fun i j hi=>by omega) hrel trivial hcap
   |some q=>
    obtain⟨b,c,s⟩:=q;obtain⟨_,rfl,rfl,rfl,cs,e,hh,hcs,hcl⟩:=hp;refine .sl rows .no _ n' c b 0 sz vals hn hx (fun _=>rfl) hsz (fun i j _ _ hm=>?_) (fun i j hi hj=>?_) hrel trivial hcap
    ·rcases hm with h|⟨i,s,h⟩|⟨t',l,c',s,h,_⟩
     ·exact(hI.frlt _ _ h).1 (.inr ⟨t,kl,c,0,hk⟩)
     ·exact hI.bt _ _ _ _ _ _ _ (Gu h).2 hk
     ·have:=hI.tt _ _ _ _ _ _ _ _ _ (Gu h).2 hk;have:=(Gu h).1;omega
    simp_all [World.cell?]
 |agg cs cs' hl hz ih=>
  intro v hx;cases hx<;>constructor<;>grind
 |tup cs cs' hl hz ih=>
  intro v hx;cases hx<;>constructor<;>grind
 |fn f cs cs' hl hz ih=>
  intro v hx;cases hx<;>constructor<;>grind
def Oc(X:Cx)(F:Cw)(S:St):List ResultVar→Option An
 |[]=>some []
 |.tmp t::l=>match lk F t with
  |some x=>match Oc X F S l with
   |some xs=>some (x::xs)
   |none=>none
  |none=>none
 |.cell t ty::l=>match lk F t with
  |some p=>match T5 X ty with
   |some (sz,agg)=>match Xb S sz agg p with
    |some x=>match Oc X F S l with
     |some xs=>some (x::xs)
     |none=>none
    |none=>none
   |none=>none
  |none=>none
def De:An→AV
 |[x]=>x
 |xs=>.tup xs
theorem Ajm(t:TypeId)(v:Value)(u:Value)(w':World)(h:(Instr.loadAt t v).run X.P w=.ok u w'):(do loadVar t (←asAddr v):Sem Value).run X.P w=.ok u w':=by
 cases v<;>try (simp[Instr.loadAt,Instr.sureAddr]at h;done)
 rename_i p;cases p with
 |none=>simp[Instr.loadAt,Instr.sureAddr]at h
 |some p=>grind [Instr.loadAt,Instr.sureAddr,asAddr]
def Aa3(tmps:Array Value):ResultVar→Sem Value
 |.tmp t=>pure (tmps.getD t undef)
 |.cell p t=>do loadVar t (←asAddr (tmps.getD p undef))
theorem Ani(fn:Func)(tmps:Array Value):results fn tmps=(do
 let vs ←fn.results.mapM (Aa3 tmps)
 pure (if h:vs.size=1 then vs[0]else .tuple vs)):=by
 have:(fun(x:ResultVar)=>match x with
  |.tmp t=>pure (tmps.getD t undef)
  |.cell a t=>do loadVar t (←asAddr (tmps.getD a undef)))=Aa3 tmps:=by
  funext x;cases x<;>rfl
 unfold results;rw[←this];rfl
theorem X8(hI:Inv X E S w)(hF:FR E w F a N):∀(l:List ResultVar)(xs:An),Oc X F S l=some xs →
 ∃vs:List Value,(l.mapM (Aa3 a.tmps)).run X.P w=.ok vs w∧vs.length=xs.length∧∀(j:Nat) (v:Value) (x:AV),vs[j]?=some v→xs[j]?=some x→Rel E w v x
 |[],xs,h=>by simp_all [Oc]
 |.tmp t::l,xs,h=>by
  simp only[Oc]at h;split at h
  ·rename_i x hx;split at h
   ·rename_i xs' hxs;cases h;obtain⟨vs,h1,h2,h3⟩:=X8 hI hF l xs' hxs;obtain⟨v,hv,hr⟩:=hF.rel t x hx;have hone:(Aa3 a.tmps (.tmp t)).run X.P w=.ok v w:=by simp[Aa3,hv]
    refine⟨v::vs,?_,by simp[h2],fun j u y hu hy=>?_⟩
    ·simp[List.mapM_cons,hone,h1]
    ·cases j with
     |zero=>simp at hu hy;subst hu;subst hy;exact hr
     |succ j=>exact h3 j u y (by simpa using hu) (by simpa using hy)
   ·cases h
  ·cases h
 |.cell t ty::l,xs,h=>by
  simp only[Oc]at h;split at h
  ·rename_i p hp;cases hy:X.ty ty with
   |none=>simp[T5,hy]at h
   |some y=>
    simp only[T5,hy]at h;split at h
    ·rename_i x hx;split at h
     ·rename_i xs' hxs;cases h;obtain⟨vs,h1,h2,h3⟩:=X8 hI hF l xs' hxs;obtain⟨v,hv,hr⟩:=hF.rel t p hp;obtain⟨u,hu,hru⟩:=Abr hI hy hr hx;have hu':=Ajm ty v u w hu;have hv':a.tmps.getD t undef=v:=by simp[hv]
      have hone:(Aa3 a.tmps (.cell t ty)).run X.P w=.ok u w:=by
       show (do loadVar ty (←asAddr (a.tmps.getD t undef)):Sem Value).run X.P w=.ok u w;rw[hv'];exact hu'
      refine⟨u::vs,?_,by simp[h2],fun j u' y' hu' hy'=>?_⟩
      ·simp[List.mapM_cons,hone,h1]
      ·cases j with
       |zero=>simp at hu' hy';subst hu';subst hy';exact hru
       |succ j=>exact h3 j u' y' (by simpa using hu') (by simpa using hy')
     ·cases h
    ·cases h
  ·cases h
theorem Nq(hI:Inv X E S w)(hF:FR E w F a N){fn:Func}{xs:An}(h:Oc X F S fn.results.toList=some xs) :
 ∃v,(results fn a.tmps).run X.P w=.ok v w∧Rel E w v (De xs):=by
 obtain⟨vs,h1,h2,h3⟩:=X8 hI hF _ xs h;have hm:(results fn a.tmps).run X.P w=.ok (if h:vs.length=1 then vs[0]else .tuple vs.toArray) w:=by
  simp_all [Ani,Array.mapM_eq_mapM_toList]
 refine⟨_,hm,?_⟩;by_cases h1':vs.length=1
 ·rw[dif_pos h1'];have:∃x,xs=[x]:=by
   rw[h1']at h2;cases xs<;>grind
  obtain⟨x,rfl⟩:=this;exact h3 0 _ x (by simp) rfl
 ·rw[dif_neg h1'];have:De xs=.tup xs:=by
   cases xs with
   |nil=>rfl
   |cons x l=>cases l with
    |nil=>simp_all
    |cons y l=>rfl
  rw[this];exact .tup _ _ (by simp[h2]) (fun j v x hv hx=>h3 j v x (by simp_all) hx)
theorem Ak1(hI:Inv X E S w)(hF:FR E w F a B.fn.ntmps)(hf:X.P.funcs[B.f]?=some B.fn){xs:An}(h:Oc X F S B.fn.results.toList=some xs)(m:Nat)(hm:B.m≤m)
 {r:AV}(hz:Fz S B.n m (De xs) r)(hbox:∀rows,rows∈S.boxes.take B.n→H3 B.n m rows)(hR:R (.ret r) (S.drop B.n m)){fr:Frame}(hfn:fr.fn=B.f)(hmode:fr.mode=.returning)
 (hd:fr.defers=E.df){κ:CallKind}(hk:fr.kind=κ)(ht:fr.tmps=a.tmps):∃e,Aje X E w B.n B.m R e w∧Aii X.P fr w E.df κ e∧∃v,e=.returned v:=by
 obtain⟨v,h1,h2⟩:=Nq hI hF h;refine⟨.returned v,⟨E.drop B.n m,S.drop B.n m,hI.drop hbox,(Evol.drop E w B.n m).weaken (Bt _) hm,r,hz.rel hI h2,hR⟩,⟨hmode,hd,hk,B.fn,by simp_all,by simp_all⟩,v,rfl⟩
theorem F3{k:List Item}(hf:X.P.funcs[B.f]?=some B.fn){xs:An}(h:Oc X F S B.fn.results.toList=some xs)(m:Nat)(hm:B.m≤m){r:AV}(hz:Fz S B.n m (De xs) r)
 (hbox:∀rows,rows∈S.boxes.take B.n→H3 B.n m rows)(hR:R (.ret r) (S.drop B.n m)):AK X B (.code .ret::k) F S R:=by
 intro E w a b cs hI hF _ _ hb;obtain⟨e,h1,h2,v,rfl⟩:=Ak1 (R:=R) hI hF hf h m hm hz hbox hR (fr:={ b.at a (.code .ret::k)with mode:=.returning }) hb rfl hF.nod (κ:=b.kind) rfl rfl;exact .inl ⟨_,w,_,h1,.one step_ret,hb,h2⟩
theorem Anz(hf:X.P.funcs[B.f]?=some B.fn){xs:An}(h:Oc X F S B.fn.results.toList=some xs)(m:Nat)(hm:B.m≤m){r:AV}(hz:Fz S B.n m (De xs) r)
 (hbox:∀rows,rows∈S.boxes.take B.n→H3 B.n m rows)(hR:R (.ret r) (S.drop B.n m)):AK X B [] F S R:=by
 intro E w a b cs hI hF _ _ hb;obtain⟨e,h1,h2,v,rfl⟩:=Ak1 (R:=R) hI hF hf h m hm hz hbox hR (fr:={ b.at a []with mode:=.returning }) hb rfl hF.nod (κ:=b.kind) rfl rfl;exact .inl ⟨_,w,_,h1,.one step_end,hb,h2⟩
def Pg:Nat→An→Cw
 |_,[]=>[]
 |i,x::l=>(i,x)::Pg (i+1) l
theorem Acj:∀(l:An)(i k:Nat)(x:AV),lk (Pg i l) k=some x→i≤k∧l[k-i]?=some x
 |[],i,k,x,h=>by simp[Pg,lk]at h
 |y::l,i,k,x,h=>by
  simp only[Pg,Kk]at h;split at h
  ·simp_all
  ·obtain⟨h1,h2⟩:=Acj l (i+1) k x h
   grind
theorem ACalls.of{f:FuncId}{fn:Func}{c:Code}{args:An}(hf:X.P.funcs[f]?=some fn)(hb:fn.body=some c)(hl:args.length≤fn.ntmps)
 (h:AK X ⟨f,fn,S.boxes.length,S.toks.length⟩ [.code c] (Pg 0 args) S R)(hh:∀C S,¬R (.hook C) S):ACalls X f args S R:=by
 intro E w vs hdf hI hs hr cs
 let b:Frame:={ (default:Frame)with fn:=f,kind:=.normal }
 let a:Act:={ tmps:=vs++Array.replicate (fn.ntmps-vs.size) undef,defers:=[] }
 have henter:Frame.enter X.P f vs .normal=b.at a [.code c]:=by grind [Frame.enter,Frame.at]
 have hF:FR E w (Pg 0 args) a fn.ntmps:=by
  refine⟨by grind,hdf.symm,fun k x hk=>?_⟩;obtain⟨_,h2⟩:=Acj args 0 k x hk;simp only[Nat.sub_zero]at h2;have hlt:k<vs.size:=by grind
  exact⟨vs[k],by grind,hr k _ x (by simp[hlt]) h2⟩
 rw[henter];rcases h E w a b cs hI hF (Bt _) (Bt _) rfl with⟨e,w',fr,h1,h2,h3,h4⟩|⟨C,h1,_⟩
 ·grind [Akb]
 simp_all
theorem Oq{c:Code}{k:List Item}(h:AK X B (.code c::.inLoop c::k) F S R):AK X B (.code (.loop c)::k) F S R:=K5 h fun w a b cs=>step_loop
theorem Qr{c:Code}{k:List Item}(h:AK X B (.code c::.inLoop c::k) F S R):AK X B (.inLoop c::k) F S R:=K5 h fun w a b cs=>step_inLoop
def Sub:Cw→Cw→Prop
 |[],_=>True
 |(k,x)::G,F=>lk F k=some x∧Sub G F
theorem Amw:∀{G F:Cw},Sub G F→∀k x,lk G k=some x→lk F k=some x
 |[],F,_,k,x,h=>by simp[lk]at h
 |(d,y)::G,F,⟨h1,h2⟩,k,x,h=>by
  rw[Kk]at h;split at h
  ·rename_i hk;subst hk;cases h;exact h1
  ·exact Amw h2 k x h
theorem Qj{K:List Item}{G:Cw}(hs:Sub G F)(h:AK X B K G S R):AK X B K F S R:=fun E w a b cs hI hF=>
 h E w a b cs hI ⟨hF.size,hF.nod,fun k x hk=>hF.rel k x (Amw hs k x hk)⟩
theorem Awq{K:List Item}{G:Cw}(n m:Nat)(hs:Sub G F)(hn:B.n≤n)(hm:B.m≤m)(hn':n≤S.boxes.length)(hm':m≤S.toks.length)(hG:∀p,p∈G→Ok n m p.2)
 (hbox:∀rows,rows∈S.boxes.take n→H3 n m rows)(h:AK X B K G (S.drop n m) R):AK X B K F S R:=by
 intro E w a b cs hI hF hBn hBm hb;have hF':FR (E.drop n m) w G a B.fn.ntmps:=⟨hF.size,hF.nod,fun k x hx=>by
  obtain⟨v,h1,h2⟩:=hF.rel k x (Amw hs k x hx);refine⟨v,h1,h2.drop ?_⟩;have:∃p,p∈G∧p.2=x:=by
   clear hs hG h
   induction G with
   |nil=>simp_all [lk]
   |cons q G ih=>
    obtain⟨d,y⟩:=q;rw[Kk]at hx;split at hx
    ·simp_all
    simp_all
  grind⟩
 exact Fin.from (Steps.refl _ _) ((Evol.drop E w n m).weaken hn hm) (h (E.drop n m) w a b cs (hI.drop hbox) hF' (by simp_all [St.drop]) (by simp_all [St.drop]) hb)
class LtC (a b:Nat):Prop where
 lt:a<b
instance{b:Nat}:LtC 0 (b+1):=⟨Nat.succ_pos _⟩
instance{a b:Nat} [h:LtC a b]:LtC (a+1) (b+1):=⟨Nat.succ_lt_succ h.lt⟩
class OK (n m:Nat)(x:AV):Prop where
 ok:Ok n m x
class OKL (n m:Nat)(l:List AV):Prop where
 ok:∀x,x∈l→Ok n m x
class OKR (n m:Nat)(rows:List (List AV)):Prop where
 ok:H3 n m rows
class OKB (n m:Nat)(bx:List (List (List AV))):Prop where
 ok:∀rows,rows∈bx→H3 n m rows
class OKF (n m:Nat)(F:Cw):Prop where
 ok:∀p,p∈F→Ok n m p.2
section
variable {n m:Nat}
instance{v:Value}:OK n m (.val v):=⟨.val v⟩
instance:OK n m .err:=⟨.err⟩
instance{b r o:Nat} [h:LtC b n]:OK n m (.ptr b r o):=⟨.ptr b r o h.lt⟩
instance{b k:Nat} [h:LtC b n]:OK n m (.bsl b k):=⟨.bsl b k h.lt⟩
instance{te b:Nat} [h:LtC b n]:OK n m (.tagN te b):=⟨.tagN te b h.lt⟩
instance{te t:Nat}{s:Ad} [h:LtC t m]:OK n m (.buf te s t):=⟨.buf te s t h.lt⟩
instance{rows:A7}{t v:Nat} [h:LtC t m] [hf:OKR 0 0 rows]:OK n m (.psl rows t v):=⟨.psl rows t v h.lt (fun r hr x hx=>((hf.ok r hr x hx).flat rfl rfl).ok) (fun r hr x hx=>((hf.ok r hr x hx).flat rfl rfl).noT)⟩
instance{rows:A7} [h:OKR n m rows]:OK n m (.sl rows .no):=⟨.sl rows _ h.ok (fun t ht=>by cases ht)⟩
instance{rows:A7} [h:OKR n m rows]:OK n m (.sl rows .tight):=⟨.sl rows _ h.ok (fun t ht=>by cases ht)⟩
instance{rows:A7}{t:Nat} [h:OKR n m rows] [ht:LtC t m]:OK n m (.sl rows (.tok t)):=⟨.sl rows _ h.ok (fun t' ht'=>by cases ht';exact ht.lt)⟩
instance{cs:An} [h:OKL n m cs]:OK n m (.cptr cs):=⟨.cptr cs h.ok⟩
instance{cs:An} [h:OKL n m cs]:OK n m (.agg cs):=⟨.agg cs h.ok⟩
instance{cs:An} [h:OKL n m cs]:OK n m (.tup cs):=⟨.tup cs h.ok⟩
instance{f:FuncId}{cs:An} [h:OKL n m cs]:OK n m (.fn f cs):=⟨.fn f cs h.ok⟩
instance:OKL n m []:=⟨fun x hx=>by cases hx⟩
instance{x:AV}{l:An} [h:OK n m x] [t:OKL n m l]:OKL n m (x::l):=⟨fun y hy=>by
 rcases zzq8.1 hy with rfl|hy
 ·exact h.ok
 ·exact t.ok y hy⟩
instance{l l':An} [h:OKL n m l] [t:OKL n m l']:OKL n m (l++l'):=⟨fun y hy=>by
 rcases zzq26.1 hy with hy|hy
 ·exact h.ok y hy
 ·exact t.ok y hy⟩
instance:OKR n m []:=⟨fun r hr=>by cases hr⟩
instance{r:An}{rows:A7} [h:OKL n m r] [t:OKR n m rows]:OKR n m (r::rows):=⟨fun q hq=>by
 rcases zzq8.1 hq with rfl|hq
 ·exact h.ok
 ·exact t.ok q hq⟩
instance{rows rows':A7} [h:OKR n m rows] [t:OKR n m rows']:OKR n m (rows++rows'):=⟨fun q hq=>by
 rcases zzq26.1 hq with hq|hq
 ·exact h.ok q hq
 ·exact t.ok q hq⟩
instance:OKB n m []:=⟨fun r hr=>by cases hr⟩
instance{rows:A7}{bx:B3} [h:OKR n m rows] [t:OKB n m bx]:OKB n m (rows::bx):=⟨fun q hq=>by
 rcases zzq8.1 hq with rfl|hq
 ·exact h.ok
 ·exact t.ok q hq⟩
instance:OKF n m []:=⟨fun r hr=>by cases hr⟩
instance{k:Nat}{x:AV}{F:Cw} [h:OK n m x] [t:OKF n m F]:OKF n m ((k,x)::F):=⟨fun q hq=>by
 rcases zzq8.1 hq with rfl|hq
 ·exact h.ok
 ·exact t.ok q hq⟩
end
theorem Br{K:List Item}{G:Cw}{bx:B3}{tk:List Nat}(n m:Nat)(h:AK X B K G ⟨bx,tk⟩ R)(hs:Sub G F)(hS:S.drop n m=⟨bx,tk⟩)(hn:Nat.ble B.n n=true)(hm:Nat.ble B.m m=true)
 (hn':Nat.ble n S.boxes.length=true)(hm':Nat.ble m S.toks.length=true) [hG:OKF n m G] [hbox:OKB n m bx]:AK X B K F S R:=by
 refine Awq n m hs (J5 hn) (J5 hm) (J5 hn') (J5 hm') hG.ok ?_ (by rw[hS];exact h);have:S.boxes.take n=bx:=by have:=congrArg St.boxes hS;exact this
 rw[this];exact hbox.ok
theorem Z4{k:List Item}{f:FuncId}{fn:Func}{n m:Nat}{bx:B3}{tk:List Nat}{r:AV}{xs:An}(hf:X.P.funcs[f]?=some fn)(h:Oc X F S fn.results.toList=some xs)
 (hm:Nat.ble m tk.length=true)(hS:S.drop n tk.length=⟨bx,tk⟩) [hr:OK n tk.length r] [hbox:OKB n tk.length bx](hr0:De xs=r) :
 AK X ⟨f,fn,n,m⟩ (.code .ret::k) F S fun e S'=>e=.ret r∧S'=⟨bx,tk⟩:=by
 subst hr0;refine F3 (B:=⟨f,fn,n,m⟩) hf h tk.length (J5 hm) (.same _ hr.ok) ?_ ⟨rfl,hS⟩;have:S.boxes.take n=bx:=by have:=congrArg St.boxes hS;exact this
 show ∀rows,rows∈S.boxes.take n→H3 n tk.length rows;rw[this];exact hbox.ok
theorem J8{f:FuncId}{fn:Func}{c:Code}{args:An}{n m:Nat}(hf:X.P.funcs[f]?=some fn)(hb:fn.body=some c)(hl:Nat.ble args.length fn.ntmps=true)
 (hn:S.boxes.length=n)(hm:S.toks.length=m)(h:AK X ⟨f,fn,n,m⟩ [.code c] (Pg 0 args) S R)(hh:∀C S,¬R (.hook C) S:=by intro C S h;exact nomatch h.1):ACalls X f args S R:=
 ACalls.of hf hb (J5 hl) (by rw[hn,hm];exact h) hh
theorem P2{t:Nat}{x y:Code}{k:List Item}{e:Bool}(hc:lk F t=some (.val (.bool e)))(h1:e=true→AK X B (.code x::k) ((t,.lit true)::F) S R)
 (h2:e=false→AK X B (.code y::k) ((t,.lit false)::F) S R):AK X B (.code (.cond (.tmp t) x y)::k) F S R:=by
 have lit:∀{E:Env} {w:World} {a:Act} (b:Bool),a.tmps[t]?=some (.bool b)→FR E w F a B.fn.ntmps→FR E w ((t,.lit b)::F) a B.fn.ntmps:=fun{E w a} b hv hF=>
  ⟨hF.size,hF.nod,fun k x hx=>by
    rw[Kk]at hx;split at hx
    ·rename_i hk;subst hk;cases hx;exact⟨_,hv,.lit b⟩
    ·exact hF.rel k x hx⟩
 cases he:e with
 |true=>
  subst he;refine R7 (h1 rfl) fun E w a b cs hI hF _=>?_;obtain⟨v,hv,hr⟩:=hF.rel _ _ hc;cases hr;exact⟨E,w,a,.one (step_cond (t:=true) (by simp[Act.eval,hv])),hI,Evol.refl _ _ _ _,lit true hv hF⟩
 |false=>
  subst he;refine R7 (h2 rfl) fun E w a b cs hI hF _=>?_;obtain⟨v,hv,hr⟩:=hF.rel _ _ hc;cases hr;exact⟨E,w,a,.one (step_cond (t:=false) (by simp[Act.eval,hv])),hI,Evol.refl _ _ _ _,lit false hv hF⟩
theorem Yi{t:Nat}{K:List Item}{e:Bool}(hc:lk F t=some (.val (.bool e)))(h1:e=true→AK X B K ((t,.lit true)::F) S R)
 (h2:e=false→AK X B K ((t,.lit false)::F) S R):AK X B K F S R:=by
 intro E w a b cs hI hF;have key:∀(c:Bool),e=c→FR E w ((t,.lit c)::F) a B.fn.ntmps:=fun c hce=>
  ⟨hF.size,hF.nod,fun k x hx=>by
    rw[Kk]at hx;split at hx
    ·rename_i hk;subst hk;cases hx;obtain⟨v,hv,hr⟩:=hF.rel _ _ hc;cases hr;subst hce;exact⟨_,hv,.lit e⟩
    ·exact hF.rel k x hx⟩
 cases he:e with
 |true=>exact h1 he E w a b cs hI (key true he)
 |false=>exact h2 he E w a b cs hI (key false he)
end
def A41:Option TypeDesc→Bool
 |some (.struct _)=>true
 |some (.array _ _)=>true
 |_=>false
def Axw(size:Nat):List (Nat×Nat)→Bool
 |[]=>true
 |(off,sz)::l=>match Nat.blt 0 sz with
  |true=>match Nat.ble (off+sz) size with
   |true=>Axw size l
   |false=>false
  |false=>false
def A2x(P:Program)(t:TypeId):Option Ty:=
 match P.info? t with
 |none=>none
 |some i=>match i.zero with
  |none=>none
  |some z=>match Nat.ble i.bytes 1024 with
   |false=>none
   |true=>match Nat.beq (z.cells.toList.map Iu).length i.size with
    |false=>none
    |true=>match P.underlying t with
     |some (.struct fields)=>match fields.toList.mapM (fun f=>(P.info? f.type).map fun i=>(f.offset,i.size))with
      |some fs=>match Axw i.size fs&&fields.toList.all (fun f=>(P.underlying f.type).isSome)with
       |true=>some ⟨i.size,.str fs,z.cells.toList.map Iu,fields.toList.map fun f=>A41 (P.underlying f.type)⟩
       |false=>none
      |none=>none
     |some (.array n e)=>some ⟨i.size,.arr n e,z.cells.toList.map Iu,[]⟩
     |some d=>match Nat.beq i.size 1 with
      |false=>none
      |true=>some ⟨i.size,(match d with
       |.slice e=>.slc e
       |.int k=>.int k
       |.string=>.string
       |.bool=>.bool
       |_=>.flat),z.cells.toList.map Iu,[]⟩
     |none=>none
def Alb:List (Nat×Ty)→Nat→Option Ty
 |[],_=>none
 |(k,y)::l,t=>match Nat.beq k t with
  |true=>some y
  |false=>Alb l t
def Ahw(ty:Nat→Option Ty)(y:Ty):Bool:=
 match y.k with
 |.arr n e=>match ty e with
  |some ye=>match Nat.beq (n*ye.size) y.size with
   |true=>Nat.blt 0 ye.size
   |false=>false
  |none=>false
 |.slc e=>match ty e with
  |some ye=>Nat.blt 0 ye.size
  |none=>false
 |_=>true
def Atd(P:Program)(ty:Nat→Option Ty):List (Nat×Ty)→Prop
 |[]=>True
 |(t,y)::l=>A2x P t=some y∧Ahw ty y=true∧Atd P ty l
theorem Afx{size:Nat}:∀{fs:List (Nat×Nat)},Axw size fs=true→∀(i off sz:Nat),fs[i]?=some (off,sz)→sz≠0∧off+sz≤size
 |[],_,i,off,sz,h=>by simp at h
 |(o,s)::l,hk,i,off,sz,h=>by
  simp only[Axw]at hk;split at hk
  ·rename_i h1;split at hk
   ·rename_i h2;cases i with
    |zero=>
     simp at h;obtain⟨rfl,rfl⟩:=h;exact⟨by simp[Hp]at h1;omega,J5 h2⟩
    |succ i=>exact Afx hk i off sz (by simpa using h)
   ·cases hk
  ·cases hk
theorem Akf{α β:Type}{f:α→Option β}:∀{l:List α}{r:List β},l.mapM f=some r→∀(i:Nat)(y:β),r[i]?=some y→∃x,l[i]?=some x∧f x=some y
 |[],r,h,i,y,hy=>by simp at h;subst h;simp at hy
 |a::l,r,h,i,y,hy=>by
  simp only[List.mapM_cons,Option.bind_eq_bind,Option.pure_def]at h;cases ha:f a with
  |none=>simp[ha]at h
  |some b=>
   cases hl:l.mapM f with
   |none=>simp[ha,hl]at h
   |some r'=>
    simp[ha,hl]at h;subst h;cases i with
    |zero=>simp at hy;subst hy;exact⟨a,rfl,ha⟩
    |succ i=>obtain⟨x,h1,h2⟩:=Akf hl i y (by simpa using hy);exact⟨x,by simpa using h1,h2⟩
theorem Ays{P:Program}{ty:Nat→Option Ty}{t:Nat}{y:Ty}(h:A2x P t=some y)(he:Ahw ty y=true):TyOk P t y ty:=by
 unfold A2x at h;split at h
 ·cases h
 ·rename_i i hi;split at h
  ·cases h
  ·rename_i z hz;split at h
   ·cases h
   ·rename_i hb;split at h
    ·cases h
    ·rename_i hl;have hl':(z.cells.toList.map Iu).length=i.size:=Ab1 hl;have hb':=J5 hb;split at h
     ·rename_i fields hd;split at h
      ·rename_i fs hfs;split at h
       ·rename_i hok0;simp only[Du]at hok0;obtain⟨hok,hall⟩:=hok0;cases h;refine⟨⟨i,z,hi,rfl,hb',hz,rfl,hl',fun hk=>by simp_all [G9]⟩,⟨_,hd,fields,rfl,hfs,fun k off sz hk=>?_⟩⟩;obtain⟨h1,h2⟩:=Afx hok k off sz hk;obtain⟨f,hf,hff⟩:=Akf hfs k _ hk;cases hif:P.info? f.type with
        |none=>simp_all
        |some i'=>
         simp[hif]at hff;refine⟨f,i',by simp_all,hff.1,hif,hff.2,h1,h2,fun g hg=>?_⟩;have hf':fields.toList[k]?=some f:=hf;rw[Hd,hf']at hg;simp at hg;cases hu:P.underlying f.type with
         |none=>
          grind
         |some d'=>
          refine⟨d',rfl,?_⟩;subst hg;rw[hu];cases d'<;>simp[A41]
       ·cases h
      ·cases h
     ·rename_i n e hd;cases h;refine⟨⟨i,z,hi,rfl,hb',hz,rfl,hl',fun hk=>by simp_all [G9]⟩,⟨_,hd,rfl,?_⟩⟩
      grind [Ahw,Nat.eq_of_beq_eq_true,Nat.blt_eq]
     ·rename_i d hns hna hd;split at h
      ·cases h
      ·rename_i h1;have h1':=Ab1 h1;cases h;refine⟨⟨i,z,hi,rfl,hb',hz,rfl,hl',fun _=>h1'⟩,⟨d,hd,?_⟩⟩;cases d<;>first
        |rfl
        |(exact(hns _ rfl).elim)
        |(exact(hna _ _ rfl).elim)
        |(show (∀(fs:Array Field),_≠TypeDesc.struct fs)∧(∀(n e:Nat),_≠TypeDesc.array n e)
          exact⟨fun _ h=>(by cases h),fun _ _ h=>(by cases h)⟩)
        |(simp only[Ahw]at he
          split at he
          ·rename_i ye hye;exact⟨rfl,ye,hye,by grind [Nat.blt_eq]⟩
          ·cases he)
     ·cases h
theorem Awc{P:Program}{ty:Nat→Option Ty}:∀{l:List (Nat×Ty)},Atd P ty l→∀t y,Alb l t=some y→TyOk P t y ty
 |[],_,t,y,h=>by simp[Alb]at h
 |(k,y')::l,⟨h1,h2,h3⟩,t,y,h=>by
  simp only[Alb]at h;split at h
  ·rename_i hk;cases h;have:=Ab1 hk;subst this;exact Ays h1 h2
  ·exact Awc h3 t y h
def N8(P:Program)(f:FuncId):Prop:=∃fn,P.funcs[f]?=some fn∧(fn.name == "runtime.NumGoroutine")=false∧fn.body.isNone=false
def Pure(X:Cx)(f:FuncId)(args:An)(r:AV):Prop:=
 N8 X.P f∧ACalls X f args ⟨[],[]⟩ fun e S=>e=.ret r∧S=⟨[],[]⟩
inductive Strip:AV→AV→Prop where
 |flat (x:AV) (h:Ok 0 0 x):Strip x x
 |sl (rows:List (List AV)) (sp:Sp) (h:H3 0 0 rows):Strip (.sl rows sp) (.sl rows .no)
 |agg (cs cs':List AV) (hl:cs'.length=cs.length) (hz:∀(j:Nat) (x y:AV),cs[j]?=some x→cs'[j]?=some y→Strip x y):Strip (.agg cs) (.agg cs')
inductive StripL:List AV→List AV→Prop where
 |nil:StripL [] []
 |cons {x y:AV} {l l':List AV} (h:Strip x y) (t:StripL l l'):StripL (x::l) (y::l')
theorem StripL.get{l l':An}(h:StripL l l'):l'.length=l.length∧∀(j:Nat)(x y:AV),l[j]?=some x→l'[j]?=some y→Strip x y:=by
 induction h<;>grind
class StripC (x:AV)(y:outParam AV):Prop where
 s:Strip x y
class StripLC (l:List AV)(l':outParam (List AV)):Prop where
 s:StripL l l'
theorem Al5{l l':An}(h:StripL l l'):Strip (.agg l) (.agg l'):=.agg l l' h.get.1 h.get.2
instance{v:Value}:StripC (.val v) (.val v):=⟨.flat _ (.val v)⟩
instance{rows:A7}{sp:Sp} [h:OKR 0 0 rows]:StripC (.sl rows sp) (.sl rows .no):=⟨.sl rows sp h.ok⟩
instance{cs cs':An} [h:StripLC cs cs']:StripC (.agg cs) (.agg cs'):=⟨Al5 h.s⟩
instance:StripLC [] []:=⟨.nil⟩
instance{x y:AV}{l l':An} [h:StripC x y] [t:StripLC l l']:StripLC (x::l) (y::l'):=⟨.cons h.s t.s⟩
theorem Pure.mk{X:Cx}{f:FuncId}{fn:Func}{c:Code}{args:An}{r:AV}(hf:X.P.funcs[f]?=some fn)(hb:fn.body=some c)(hl:Nat.ble args.length fn.ntmps=true)
 (hnm:(fn.name == "runtime.NumGoroutine")=false)(h:AK X ⟨f,fn,0,0⟩ [.code c] (Pg 0 args) ⟨[],[]⟩ fun e S=>e=.ret r∧S=⟨[],[]⟩):Pure X f args r:=
 ⟨⟨fn,hf,hnm,by rw[hb];rfl⟩,J8 hf hb hl rfl rfl h⟩
section
variable {X:Cx}{B:Bx}{E:Env}{S:St}{w:World}{F:Cw}{a:Act}{N:Nat}{R:AE→St→Prop}
theorem Rel.env{E':Env}{v:Value}{x:AV}(h:Rel E w v x)(ho:Ok 0 0 x)(hm:∀b o,E'.mt b o→E.mt b o):Rel E' w v x:=
 h.move (fun i hi _=>absurd hi (Aeu _)) (fun t ht=>absurd ht (Aeu _)) (fun _ _ _ _ h=>h) (fun b o _ h=>hm b o h) (fun _ _ h=>h) (fun t ht=>absurd ht (Aeu _)) ho
theorem Strip.rel{E':Env}{x y:AV}(h:Strip x y)(hm:∀b o,E'.mt b o→E.mt b o):∀{v:Value},Rel E w v x→Rel E' w v y:=by
 induction h with
 |flat x h=>exact fun hx=>hx.env h hm
 |sl rows sp h=>
  intro v hx;refine Rel.env (E:=E) ?_ (.sl rows .no h (fun t ht=>by cases ht)) hm;cases hx with
  |sl _ _ a n cap b o sz vals hn hx ha hsz hm hc hr hs hcap=>exact .sl rows .no a n cap b o sz vals hn hx ha hsz hm hc hr trivial hcap
 |agg cs cs' hl hz ih=>
  intro v hx;cases hx<;>constructor<;>grind
def Env.none_(E:Env):Env:=⟨[],[],E.mt,[]⟩
theorem Ajh{E:Env}{b o:Nat}:E.none_.mt b o↔E.mt b o:=by
 refine⟨fun h=>?_,fun h=>.inl h⟩;rcases h with h|⟨i,s,h⟩|⟨t,l,c,s,h,_⟩
 ·exact h
 ·simp[Env.none_]at h
 simp_all [Env.none_]
theorem Sa{E:Env}{b:Nat}:¬E.none_.own b:=fun h=>by
 rcases h with⟨i,s,h⟩|⟨t,l,c,s,h⟩<;>simp[Env.none_]at h
theorem Inv.none_(hI:Inv X E S w):Inv X E.none_ ⟨[],[]⟩ w where
 nb:=rfl
 nt:=rfl
 np i hi:=by simp_all [Env.none_]
 box i b sz rows h:=by simp
 tok t l b c sz h:=by simp[Env.none_]at h
 bb i j b s s' h:=by simp[Env.none_]at h
 bt i t b s l c sz h:=by simp[Env.none_]at h
 tt i j b l c s l' c' s' h:=by simp[Env.none_]at h
 frlt b o h:=⟨Sa,by
  rcases Aax hI h with h|h
  ·exact hI.own_lt h
  ·exact(hI.frlt b o h).2⟩
 lo b h:=absurd h Sa
 frlo b o h:=by
  rcases Aax hI h with h|h
  ·exact hI.lo b h
  ·exact hI.frlo b o h
 sz:=hI.sz
 glob:=hI.glob
def putF(dst:Option Nat)(x:AV)(F:Cw):Cw:=
 match dst with
 |some d=>(d,x)::F
 |none=>F
def Eh(N:Nat):Option Nat→Bool
 |some d=>Nat.blt d N
 |none=>true
theorem FR.putF(hF:FR E w F a N){dst:Option Nat}(hd:Eh N dst=true){v:Value}{x:AV}(hx:Rel E w v x):FR E w (putF dst x F) (a.put dst v) N:=by
 cases dst with
 |none=>exact hF
 |some d=>exact hF.put (by grind [Eh,Nat.blt_eq]) hx
def Does(X:Cx)(ops:Array Oper)(i:Nat)(a:Act)(w:World)(post:Value→World→Prop):Prop:=
 ∀(b:Frame) (k:List Item) (cs:List Frame) (rest:List Nat),∃v w',post v w' ∧
  Steps X.P (lone (b.at a (.inRegion ops (i::rest)::k)) cs w) (lone (b.at (a.put ((ops[i]?).bind (·.dst)) v) (.inRegion ops rest::k)) cs w')
def Ndo(X:Cx)(N:Nat)(ops:Array Oper)(i:Nat)(o:Oper)(F:Cw)(x:AV)(S S':St):Prop:=
 ∀(F':Cw) (E:Env) (w:World) (a:Act),(∀t,t∈o.looksAt ops→lk F' t=lk F t)→Inv X E S w→FR E w F' a N →
  Does X ops i a w fun v w'=>∃E',Inv X E' S' w'∧Evol E w E' w' E.boxes.length E.toks.length∧Rel E' w' v x
theorem Hg{ops:Array Oper}{i:Nat}{l:List Nat}{k:List Item}{o:Oper}{x:AV}{S':St}(h:Ndo X B.fn.ntmps ops i o F x S S')(ho:ops[i]?=some o)(hd:Eh B.fn.ntmps o.dst=true)
 (hk:AK X B (.inRegion ops l::k) (putF o.dst x F) S' R):AK X B (.inRegion ops (i::l)::k) F S R:=by
 refine R7 hk fun E w a b cs hI hF hb=>?_;obtain⟨v,w',⟨E',h1,h2,h3⟩,h4⟩:=h F E w a (fun _ _=>rfl) hI hF b k cs l;exact⟨E',w',_,h4,h1,h2,by rw[ho];exact(hF.step h2).putF hd h3⟩
theorem Dq{F':Cw}{o:Operand}(h:∀t,o=.tmp t→lk F' t=lk F t):Dv X F' o=Dv X F o:=by
 cases o with
 |tmp t=>simp_all [Dv]
 |_=>rfl
theorem Tg{F':Cw}:∀{os:List Operand},(∀t,.tmp t∈os→lk F' t=lk F t)→Hv X F' os=Hv X F os
 |[],_=>rfl
 |o::os,h=>by
  simp only[Hv,Dq (X:=X) (F:=F) (F':=F') (o:=o) (fun t ht=>h t (by simp[ht])),Tg (os:=os) fun t ht=>h t (by simp[ht])]
theorem Hi{ops:Array Oper}{o:Oper}{F':Cw}(h:∀t,t∈o.looksAt ops→lk F' t=lk F t):∀t,.tmp t∈o.op.operands.toList→lk F' t=lk F t:=fun t ht=>
 h t (List.mem_append_left _ (List.mem_filterMap.2 ⟨.tmp t,by omega,rfl⟩))
theorem Dc{ops:Array Oper}{o:Oper}{F':Cw}(h:∀t,t∈o.looksAt ops→lk F' t=lk F t):Bc ops F' o=Bc ops F o:=by
 unfold Bc;cases hg:o.guard<;>grind [Oper.looksAt]
theorem Xz{F':Cw}{fs:List (Nat×Nat)}:∀{ps:List (Nat×Operand)}{cs:An},(∀t,.tmp t∈ps.map (·.2)→lk F' t=lk F t)→Ab9 X F' fs ps cs=Ab9 X F fs ps cs
 |[],cs,_=>rfl
 |(i,o)::ps,cs,h=>by
  have h1:=Dq (X:=X) (F:=F) (F':=F') (o:=o) (fun t ht=>h t (by simp[ht]));have h2:∀cs',Ab9 X F' fs ps cs'=Ab9 X F fs ps cs':=fun cs'=>Xz fun t ht=>h t (by simp only[Om,zzq8];exact .inr ht);simp only[Ab9,h1,h2]
theorem Adu{F':Cw}{sz:Nat}:∀{ps:List (Nat×Operand)}{rows:A7},(∀t,.tmp t∈ps.map (·.2)→lk F' t=lk F t)→U9 X F' sz ps rows=U9 X F sz ps rows
 |[],rows,_=>rfl
 |(i,o)::ps,rows,h=>by
  have h1:=Dq (X:=X) (F:=F) (F':=F') (o:=o) (fun t ht=>h t (by simp[ht]));have h2:∀rs,U9 X F' sz ps rs=U9 X F sz ps rs:=fun rs=>Adu fun t ht=>h t (by simp only[Om,zzq8];exact .inr ht);simp only[U9,h1,h2]
theorem Aj0{F':Cw}{op:Op}(h:∀t,.tmp t∈op.operands.toList→lk F' t=lk F t):Es X F' S op=Es X F S op:=by
 have h1:∀o,o∈op.operands.toList→Dv X F' o=Dv X F o:=fun o ho=>Dq fun t ht=>h t (ht▸ho);cases op<;>try rfl
 case move x=>grind [Es,Op.operands]
 case assign x=>grind [Es,Op.operands]
 case pick c a b=>
  have ha:=h1 a (by simp[Op.operands]);have hb:=h1 b (by simp[Op.operands]);cases c<;>grind [Es,Op.operands]
 case build t ps=>
  grind [Xz,Op.operands,Es]
 case load t a=>grind [Es,Op.operands]
 case nilCheck a=>grind [Es,Op.operands]
 case binOp op t x y t'=>grind [Es,Op.operands]
 case unOp op t x=>grind [Es,Op.operands]
 case convert s d x=>grind [Es,Op.operands]
 case makeFunc fn first cap=>
  cases fn<;>grind [Tg,Op.operands,Es]
 case fieldAddr s x f=>grind [Es,Op.operands]
 case field s x f=>simp_all [Es,Op.operands]
 case indexAddr t x y=>
  cases y with
  |const c=>
   cases c with
   |int k n=>simp_all [Es,Op.operands]
   |_=>rfl
  |_=>rfl
 case extract t i=>grind [Es,Op.operands]
 case call c=>
  have ha:∀x,x∈c.args.toList→Dv X F' x=Dv X F x:=fun x hx=>h1 x (by grind [Op.operands,Call.operands]);have hs:Hv X F' c.args.toList=Hv X F c.args.toList:=Tg fun t ht=>h t (by grind [Op.operands,Call.operands]);simp only[Es,hs];split<;>try rfl
  split<;>try rfl
  simp_all
theorem Ajz{F':Cw}{op:Op}(h:∀t,.tmp t∈op.operands.toList→lk F' t=lk F t):Kx X F' S op=Kx X F S op:=by
 have h1:∀o,o∈op.operands.toList→Dv X F' o=Dv X F o:=fun o ho=>Dq fun t ht=>h t (ht▸ho);cases op<;>try rfl
 case box t x=>grind [Kx,Op.operands]
 case buildSlice t n ps=>
  have:∀sz rows,U9 X F' sz ps.toList rows=U9 X F sz ps.toList rows:=fun sz rows=>Adu fun t ht=>h t (by grind [Op.operands]);simp_all [Kx]
theorem Does.val{ops:Array Oper}{i:Nat}{o:Oper}{nx:Next}{v:Value}{w':World}{post:Value→World→Prop}(ho:ops[i]?=some o)(hw:Region.wanted o (yielded ops a.tmps)=true)
 (hr:(execOp a.eval o).run X.P w=.ok nx w')(hn:nx=.value v∨(nx=.skip∧v=undef))(hp:post v w'):Does X ops i a w post:=fun b k cs rest=>
 ⟨v,w',hp,.one (by grind [Ak4])⟩
theorem Does.call{ops:Array Oper}{i:Nat}{o:Oper}{f:FuncId}{vs:Array Value}{post:Value→World→Prop}(ho:ops[i]?=some o)(hw:Region.wanted o (yielded ops a.tmps)=true)
 (hr:(execOp a.eval o).run X.P w=.ok (.enter f vs) w)(hc:Calls X.P f vs w fun e w'=>∃v,e=.returned v∧post v w'):Does X ops i a w post:=fun b k cs rest=>by
 have hg:=stepG_op (P:=X.P) (b:=b) (k:=k) (cs:=cs) (w:=w) (rest:=rest) ho hw;obtain⟨e,w',fr,⟨v,rfl,hp⟩,h6,_,h8⟩:=hc (b.at a (.inRegion ops (i::rest)::k)::cs);have henter:Go.step X.P (lone (b.at a (.inRegion ops (i::rest)::k)) cs w) =
  .next (lone (Frame.enter X.P f vs .normal) (b.at a (.inRegion ops (i::rest)::k)::cs) w):=
  step_lone_go (by simp_all [stepG.apply,Frame.at])
 have hfin:(b.at a (.inRegion ops (i::rest)::k)).finish v=b.at (a.put o.dst v) (.inRegion ops rest::k):=by
  simp_all [Frame.finish_at]
 refine⟨v,w',hp,.head henter (Steps.trans h6 (.one ?_))⟩
 grind [step_leave_returned]
theorem Cy{ops:Array Oper}{i:Nat}{o:Oper}{x:AV}(ho:ops[i]?=some o)(hw:Bc ops F o=some true)(h:Es X F S o.op=some x):Ndo X N ops i o F x S S:=by
 intro F' E w a hl hI hF;obtain⟨v,h1,h2⟩:=Abo hI hF (o:=o) (x:=x) (by rw[Aj0 (Hi hl)];exact h);exact Does.val ho (Cu hF (by grind [Dc])) h1 (.inl rfl) ⟨E,hI,Evol.refl _ _ _ _,h2⟩
theorem Me{ops:Array Oper}{i:Nat}{o:Oper}{x:AV}{S':St}(ho:ops[i]?=some o)(hw:Bc ops F o=some true)(h:Kx X F S o.op=some (x,S')):Ndo X N ops i o F x S S':=by
 intro F' E w a hl hI hF;obtain⟨v,E',w',h1,h2,h3,h4⟩:=Abn hI hF (o:=o) (x:=x) (S':=S') (by rw[Ajz (Hi hl)];exact h);exact Does.val ho (Cu hF (by grind [Dc])) h1 (.inl rfl) ⟨E',h2,h3,h4⟩
theorem Dp{ops:Array Oper}{i:Nat}{o:Oper}{x:AV}(ho:ops[i]?=some o)(hw:Bc ops F o=some true)
 (h:∀(F':Cw)(E:Env)(w:World)(a:Act),(∀p,p∈o.op.operands.toList→Dv X F' p=Dv X F p)→Inv X E S w→FR E w F' a N→∃v,(execOp a.eval o).run X.P w=.ok (.value v) w∧Rel E w v x) :
 Ndo X N ops i o F x S S:=by
 intro F' E w a hl hI hF;obtain⟨v,h1,h2⟩:=h F' E w a (fun p hp=>Dq fun t ht=>Hi hl t (ht▸hp)) hI hF;exact Does.val ho (Cu hF (by grind [Dc])) h1 (.inl rfl) ⟨E,hI,Evol.refl _ _ _ _,h2⟩
theorem Q4{o:Oper}{c:Call}{fo:Operand}{f:FuncId}{caps xs:An}(hop:o.op=.call c)(hcal:c.callee=.value fo)(hE:N8 X.P f)
 (hI:Inv X E S w)(hF:FR E w F a N)(hfo:Dv X F fo=some (.fn f caps))(hx:Hv X F c.args.toList=some xs) :
 ∃vs:Array Value,(execOp a.eval o).run X.P w=.ok (.enter f vs) w∧vs.size=(xs++caps).length∧∀(j:Nat) (v:Value) (x:AV),vs[j]?=some v→(xs++caps)[j]?=some x→Rel E w v x:=by
 have h1:=Am hI hF hfo;obtain⟨hl,hr⟩:=Pp hI hF hx;obtain⟨fn,hfn,hname,hbody⟩:=hE;cases hh:a.eval fo<;>rw[hh]at h1<;>cases h1;rename_i us hul hur;refine⟨c.args.map a.eval++us,?_,by simp_all,fun j v x hv hxj=>?_⟩
 ·have hne:¬(fn.name = "runtime.NumGoroutine"):=fun h=>by simp_all
  simp[execOp,hop,resolve,hcal,hh,Deferred.ofValue,invoke,callFunc,hfn,hne,hbody]
  grind
 grind
theorem Sj{F':Cw}{ops:Array Oper}{o:Oper}{c:Call}{fo:Operand}(hop:o.op=.call c)(hcal:c.callee=.value fo)(hl:∀t,t∈o.looksAt ops→lk F' t=lk F t) :
 Dv X F' fo=Dv X F fo∧Hv X F' c.args.toList=Hv X F c.args.toList:=by
 have h:=Hi hl
 grind [Op.operands,Call.operands,Dq,Tg]
theorem Atb{ops:Array Oper}{i:Nat}{o:Oper}{c:Call}{fo:Operand}{f:FuncId}{caps xs ys:An}{r:AV}
 (ho:ops[i]?=some o)(hw:Bc ops F o=some true)(hop:o.op=.call c)(hcal:c.callee=.value fo)(hfo:Dv X F fo=some (.fn f caps))(hx:Hv X F c.args.toList=some xs)
 (hc:Pure X f ys r)(hs:StripL (xs++caps) ys):Ndo X N ops i o F r S S:=by
 intro F' E w a hl hI hF;obtain⟨l1,l2⟩:=Sj (X:=X) hop hcal hl;obtain⟨vs,h1,h2,h3⟩:=Q4 hop hcal hc.1 hI hF (l1.trans hfo) (l2.trans hx);refine Does.call ho (Cu hF (by grind [Dc])) h1 ((hc.2 E.none_ w vs rfl hI.none_ (by rw[h2,hs.get.1]) (fun j v y hv hy=>?_)).mono fun e w' he=>?_)
 ·obtain⟨x,hx⟩:=Ab (xs++caps) (i:=j) (by grind);exact(hs.get.2 j x y hx hy).rel (fun b o h=>Ajh.1 h) (h3 j v x hv hx)
 ·obtain⟨E1,S1,d1,d2,d3⟩:=he;cases e with
  |returned v=>
   obtain⟨r',hr',hre,rfl⟩:=d3;cases hre;have hblk:∀b,b<w.heap.size→w'.heap[b]?=w.heap[b]?:=fun b hb=>d2.block b hb Sa;have ev:Evol E w E w' E.boxes.length E.toks.length:=by
    refine⟨rfl,fun _ _ h=>⟨h,fun _ h=>h⟩,fun _ _ k h=>⟨k,h,.inl rfl⟩,d2.os,d2.tape,d2.output,d2.size,fun k hk _=>hblk k hk,fun b o v hm hc=>?_,fun _ _ _ h=>h,fun _ _ h=>h,rfl,d2.ty,fun _ _ _ b _ _ _ _ o ho=>(hblk b (Wj ho)).trans ho⟩
    grind [World.cell?]
   have hrel:Rel E w' v r:=hr'.env (by have:=hr'.ok;rw[d1.nb,show E1.toks.length=0 by have:=d1.nt;simp_all]at this;exact this)
    (fun b o h=>.inl (by rw[d2.fr];exact h))
   exact⟨v,rfl,E,hI.keep ev (fun b hb=>hblk b (hI.own_lt hb)),ev,hrel⟩
  |panicked ch=>simp_all
  |outgrown=>exact d3.elim
theorem Ata{ops:Array Oper}{i:Nat}{o:Oper}{c:Call}{fo:Operand}{f:FuncId}{caps xs zs ys:An}{r:AV}
 (hc:Pure X f ys r)(ho:ops[i]?=some o)(hw:Bc ops F o=some true)(hop:o.op=.call c)(hcal:c.callee=.value fo)(hfo:Dv X F fo=some (.fn f caps))
 (hx:Hv X F c.args.toList=some xs)(hzs:Jt xs caps=some zs) [hs:StripLC zs ys]:Ndo X N ops i o F r S S:=
 Atb ho hw hop hcal hfo hx hc (by rw[Sk hzs];exact hs.s)
theorem Aws{ops:Array Oper}{i:Nat}{l:List Nat}{k:List Item}{o:Oper}{c:Call}{fo:Operand}{f:FuncId}{caps xs zs ys:An}{r:AV}
 (hc:Pure X f ys r)(ho:ops[i]?=some o)(hw:Bc ops F o=some true)(hop:o.op=.call c)(hcal:c.callee=.value fo)(hfo:Dv X F fo=some (.fn f caps))
 (hx:Hv X F c.args.toList=some xs)(hzs:Jt xs caps=some zs)(hd:Eh B.fn.ntmps o.dst=true) [hs:StripLC zs ys](hk:AK X B (.inRegion ops l::k) (putF o.dst r F) S R) :
 AK X B (.inRegion ops (i::l)::k) F S R:=
 Hg (Ata hc ho hw hop hcal hfo hx hzs) ho hd hk
theorem Ca{ops:Array Oper}{i:Nat}{o:Oper}{t:Nat}{p q:Operand}{rows:A7}{sp:Sp}{ik:IntKind}{n:Int}{r:An}{e:Nat}{y ye:Ty}
 (ho:ops[i]?=some o)(hw:Bc ops F o=some true)(hop:o.op=.indexAddr t p q)(hp:Dv X F p=some (.sl rows sp))(hq:Dv X F q=some (.val (.int ik n)))
 (hy:X.ty t=some y)(hyk:y.k=.slc e)(hye:X.ty e=some ye)(hl:r.length=ye.size)(h0:0≤n)(hr:rows[n.toNat]?=some r):Ndo X N ops i o F (.cptr r) S S:=by
 refine Dp ho hw fun F' E w a hc hI hF=>?_;rw[hop]at hc;have h1:=Am hI hF ((hc p (by simp[Op.operands])).trans hp);have h2:=Am hI hF ((hc q (by simp[Op.operands])).trans hq);obtain⟨d,hdd,hd2⟩:=(X.ty_ok t y hy).agg;simp only[hyk]at hd2;obtain⟨rfl,ye',hye',hne⟩:=hd2;rw[hye]at hye';cases hye';cases hh2:a.eval q<;>rw[hh2]at h2<;>cases h2;generalize hh1:a.eval p=u at h1;cases h1 with
 |sl _ _ a' n' cap b o' sz vals hn hx ha hsz hm hc hr' hs hcap=>
  have hlt:=Aa hr;have hlen:=hsz r (Bn hr);obtain rfl:sz=ye.size:=by omega
  have hn0:n'≠0:=by omega
  have hin:n<(n':Int):=by omega
  refine⟨.pointer (some ⟨b,o'+n.toNat*ye.size,none⟩),?_,?_⟩
  ·simp_all [execOp,Instr.indexAt,asIntOf,run_underlying,Dx,Gq]
  ·refine .cptr r b (o'+n.toNat*ye.size) (fun j=>vals n.toNat j) (fun j hj=>hm n.toNat j (by omega) (by omega)) (fun j hj=>hc n.toNat j (by omega) (by omega)) (fun j x hx'=>hr' n.toNat j r x hr hx')
theorem Acy{ops:Array Oper}{i:Nat}{l:List Nat}{k:List Item}{o:Oper}{t:Nat}{p q:Operand}{rows:A7}{sp:Sp}{ik:IntKind}{n:Int}{r:An}{e:Nat}{y ye:Ty}
 (ho:ops[i]?=some o)(hw:Bc ops F o=some true)(hop:o.op=.indexAddr t p q)(hp:Dv X F p=some (.sl rows sp))(hq:Dv X F q=some (.val (.int ik n)))
 (hy:X.ty t=some y)(hyk:y.k=.slc e)(hye:X.ty e=some ye)(hd:Eh B.fn.ntmps o.dst=true)(hl:r.length=ye.size)(h0:0≤n)(hr:rows[n.toNat]?=some r)
 (hk:AK X B (.inRegion ops l::k) (putF o.dst (.cptr r) F) S R):AK X B (.inRegion ops (i::l)::k) F S R:=
 Hg (Ca ho hw hop hp hq hy hyk hye hl h0 hr) ho hd hk
theorem Ar{c:Code}{k:List Item}{ι:Type}(n m:Nat)(I:ι→Prop)(st:ι→Cw)(ss:ι→St)(μ:ι→Nat)
 (hstep:∀i,I i→(∀j,I j→μ j<μ i→∀F' S',Sub (st j) F'→S'.drop n m=ss j→Nat.ble n S'.boxes.length=true→Nat.ble m S'.toks.length=true→AK X B (.inLoop c::k) F' S' R) →
   AK X B (.code c::.inLoop c::k) (st i) (ss i) R)
 (i0:ι)(h0:I i0)(hF:Sub (st i0) F)(hS:S.drop n m=ss i0:=by rfl)(hn:Nat.ble B.n n=true:=by rfl)(hm:Nat.ble B.m m=true:=by rfl)
 (hn':Nat.ble n S.boxes.length=true:=by rfl)(hm':Nat.ble m S.toks.length=true:=by rfl)(hok:∀i,OKF n m (st i):=by intro;infer_instance)(hob:∀i,OKB n m (ss i).boxes:=by intro;infer_instance):AK X B (.code (.loop c)::k) F S R:=by
 have back:∀{K:List Item} (i:ι) (F':Cw) (S':St),Sub (st i) F'→S'.drop n m=ss i→Nat.ble n S'.boxes.length=true→Nat.ble m S'.toks.length=true →
  AK X B K (st i) (ss i) R→AK X B K F' S' R:=fun{K} i F' S' h1 h2 h3 h4 h5=>
  Br (bx:=(ss i).boxes) (tk:=(ss i).toks) n m h5 h1 h2 hn hm h3 h4 (hG:=hok i) (hbox:=hob i)
 have key:∀(q:Nat) (i:ι),μ i<q→I i→AK X B (.code c::.inLoop c::k) (st i) (ss i) R:=by
  intro q
  induction q with
  |zero=>intro i h;omega
  |succ q ih=>exact fun i h hi=>hstep i hi fun j hj hlt F' S' h1 h2 h3 h4=>back j F' S' h1 h2 h3 h4 (Qr (ih j (by omega) hj))
 exact back i0 F S hF hS hn' hm' (Oq (key _ i0 (Aeq _) h0))
theorem As9{ops:Array Oper}{i:Nat}{o:Oper}{t:Nat}{p q:Operand}{s:ByteArray}{ik:IntKind}{n:Int}{c:UInt8}{y:Ty}
 (ho:ops[i]?=some o)(hw:Bc ops F o=some true)(hop:o.op=.index t p q)(hp:Dv X F p=some (.val (.string s)))(hq:Dv X F q=some (.val (.int ik n)))
 (hy:X.ty t=some y)(hyk:y.k=.string)(h0:0≤n)(hr:s.data.toList[n.toNat]?=some c):Ndo X N ops i o F (.val (.int .u8 c.toNat)) S S:=by
 refine Dp ho hw fun F' E w a hc hI hF=>?_;rw[hop]at hc;have h1:=Am hI hF ((hc p (by simp[Op.operands])).trans hp);have h2:=Am hI hF ((hc q (by simp[Op.operands])).trans hq);obtain⟨d,hdd,hd2⟩:=(X.ty_ok t y hy).agg;simp only[hyk]at hd2;subst hd2;cases hh2:a.eval q<;>rw[hh2]at h2<;>cases h2;cases hh1:a.eval p<;>rw[hh1]at h1<;>cases h1;have hlt:n.toNat<s.size:=by have:=Aa hr;simp_all
 have hg:s[n.toNat]?=some c:=by
  rw[getElem?_pos s n.toNat hlt];have h3:=hr;rw[Xg (by simp_all)]at h3;simp only[Array.getElem_toList]at h3;exact h3
 exact⟨.int .u8 c.toNat,by simp_all [execOp,Instr.index,asIntOf,run_underlying],.val _⟩
theorem Awr{ops:Array Oper}{i:Nat}{l:List Nat}{k:List Item}{o:Oper}{t:Nat}{p q:Operand}{s:ByteArray}{ik:IntKind}{n:Int}{c:UInt8}{y:Ty}
 (ho:ops[i]?=some o)(hw:Bc ops F o=some true)(hop:o.op=.index t p q)(hp:Dv X F p=some (.val (.string s)))(hq:Dv X F q=some (.val (.int ik n)))
 (hy:X.ty t=some y)(hyk:y.k=.string)(hd:Eh B.fn.ntmps o.dst=true)(h0:0≤n)(hr:s.data.toList[n.toNat]?=some c)
 (hk:AK X B (.inRegion ops l::k) (putF o.dst (.val (.int .u8 c.toNat)) F) S R):AK X B (.inRegion ops (i::l)::k) F S R:=
 Hg (As9 ho hw hop hp hq hy hyk h0 hr) ho hd hk
end
def bitOf(bs:List Nat)(i j:Nat):Bool:=(bs.getD j 0).testBit i
def Atk(bs:List Nat)(es:List Edge):Nat:=es.foldl (fun s e=>if Region.binds .any e then s ||| 2^e.on ||| bs.getD e.on 0 else s) 0
def Uq(ops:Array Oper)(bs:List Nat):Bool:=
 (List.range ops.size).all fun j=>match ops[j]? with
   |some o=>(bs.getD j 0==Atk bs o.after.toList)&&o.after.toList.all fun e=>Nat.blt e.on j||!Region.binds .any e
   |none=>true
theorem Aac(bs:List Nat)(i:Nat):∀(es:List Edge)(s:Nat),(es.foldl (fun s e=>if Region.binds .any e then s ||| 2^e.on ||| bs.getD e.on 0 else s) s).testBit i=true →
 s.testBit i=true∨∃e,e∈es∧Region.binds .any e=true∧(e.on=i∨(bs.getD e.on 0).testBit i=true)
 |[],s,h=>.inl h
 |e::es,s,h=>by
  rcases Aac bs i es _ h with h|⟨e',h1,h2⟩
  ·grind
  grind
def Closed(ops:Array Oper)(listed:Array Bool):Prop:=
 ∀(j:Nat) (o:Oper),listed.getD j false=true→ops[j]?=some o→∀e,e∈o.after.toList→Region.binds .any e=true→listed.getD e.on false=true
theorem Closed.bit{ops:Array Oper}{bs:List Nat}(hb:Uq ops bs=true){listed:Array Bool}(hc:Closed ops listed):∀(j i:Nat),j<ops.size→listed.getD j false=true→bitOf bs i j=true→listed.getD i false=true:=by
 intro j
 induction j using Nat.strongRecOn with
 |ind j ih=>
  intro i hj hl hbit;have hk:=zzq32.1 hb j (zzq33.2 hj);have ho:ops[j]?=some ops[j]:=by simp[hj]
  rw[ho]at hk;simp only[Du,zzq34]at hk;unfold bitOf at hbit;rw[hk.1]at hbit;rcases Aac bs i _ 0 hbit with h|⟨e,he,hbe,h⟩
  ·simp at h
  ·have hlt:e.on<j:=by
    have:=zzq32.1 hk.2 e he;simp_all
   have hle:=hc j _ hl ho e he hbe;rcases h with rfl|h
   ·exact hle
   ·exact ih e.on hlt i (by omega) hle h
def OrdP(bp:Nat→Nat→Bool)(n:Nat):List Nat→(Nat→Bool)→Prop
 |[],listed=>∀j,j<n→listed j=true
 |i::l,listed=>i<n∧listed i=false∧(∀e,e<n→bp e i=true→listed e=true)∧OrdP bp n l (fun j=>if i=j then true else listed j)
def CloP(bp:Nat→Nat→Bool)(n:Nat)(listed:Nat→Bool):Prop:=∀j e,j<n→e<n→listed j=true→bp e j=true→listed e=true
theorem CloP.put{bp:Nat→Nat→Bool}{n i:Nat}{listed:Nat→Bool}(h:CloP bp n listed)(hb:∀e,e<n→bp e i=true→listed e=true):CloP bp n (fun j=>if i=j then true else listed j):=by
 unfold CloP at *;grind
section
variable {X:Cx}{B:Bx}{E:Env}{S:St}{w:World}{F:Cw}{a:Act}{N:Nat}{R:AE→St→Prop}
abbrev Jc:=Nat×Oper×Cw×AV
def DrvK(X:Cx)(N:Nat)(ops:Array Oper)(ix:Nat→Nat)(bp:Nat→Nat→Bool)(em:Nat→Bool):List Oper→Nat→Cw→St→List St→List Jc→(Nat→Cw→St→List St→List Jc→Prop)→Prop
 |[],i,F,S,Hs,pend,K=>K i F S Hs pend
 |o::os,i,F,S,Hs,pend,K=>
  (∃x,Eh N o.dst=true∧(∀S',Ndo X N ops (ix i) o F x S' S')∧DrvK X N ops ix bp em os (i+1) (putF o.dst x F) S Hs pend K) ∨
  (∃x,Eh N o.dst=true∧(∀S',S'∈Hs→Ndo X N ops (ix i) o F x S' S')∧DrvK X N ops ix bp em os (i+1) (putF o.dst x F) S Hs ((i,o,F,x)::pend) K) ∨
  (∃x S' pend',em i=true∧Eh N o.dst=true∧Ndo X N ops (ix i) o F x S S'∧pend.filter (fun p=>!bp p.1 i)=pend'∧(∀p,p∈pend'→Ndo X N ops (ix p.1) p.2.1 p.2.2.1 p.2.2.2 S' S') ∧
    DrvK X N ops ix bp em os (i+1) (putF o.dst x F) S' (S'::Hs) pend' K)
def Drv(X:Cx)(N:Nat)(ops:Array Oper)(bs:List Nat)(em:Nat)(os:List Oper)(i:Nat)(F:Cw)(S:St)(Hs:List St)(pend:List Jc)(K:Cw→St→Prop):Prop:=
 DrvK X N ops (fun i=>i) (bitOf bs) (fun j=>em.testBit j) os i F S Hs pend fun _ F S _ _=>K F S
structure DG (X:Cx)(N:Nat)(ops:Array Oper)(ix:Nat→Nat)(bp:Nat→Nat→Bool)(em nd:Nat→Bool)(i n:Nat)(eff:Nat→Bool)(x:Nat→AV)(FF:Nat→Cw)(SS:Nat→St)(Hs:List St)(pend:List Jc):Prop where
 step:∀j,i≤j→j<n→∀o,ops[ix j]?=some o→FF (j+1)=putF o.dst (x j) (FF j)
 dok:∀j,i≤j→j<n→nd j=false→∀o,ops[ix j]?=some o→Eh N o.dst=true
 eff0:∀j,i≤j→j<n→eff j=false→SS (j+1)=SS j
 effE:∀j,i≤j→j<n→eff j=true→em j=true
 eff1:∀j,i≤j→j<n→eff j=true→nd j=false→∀o,ops[ix j]?=some o→Ndo X N ops (ix j) o (FF j) (x j) (SS j) (SS (j+1))
 was:∀j,i≤j→j<n→eff j=false→nd j=false→∀o,ops[ix j]?=some o→∀S',S'∈Hs→Ndo X N ops (ix j) o (FF j) (x j) S' S'
 will:∀j,i≤j→j<n→eff j=false→nd j=false→∀o,ops[ix j]?=some o→∀p,i≤p→p≤n→(∀e,j≤e→e<p→eff e=true→bp j e=false)→Ndo X N ops (ix j) o (FF j) (x j) (SS p) (SS p)
 pend:∀q,q∈pend→∀p,i≤p→p≤n→(∀e,i≤e→e<p→eff e=true→bp q.1 e=false)→Ndo X N ops (ix q.1) q.2.1 q.2.2.1 q.2.2.2 (SS p) (SS p)
variable {ops:Array Oper}{ix:Nat→Nat}{bp:Nat→Nat→Bool}{em nd:Nat→Bool}{i n:Nat}{eff:Nat→Bool}{x:Nat→AV}{FF:Nat→Cw}{SS:Nat→St}{Hs Hs':List St}{pend pend':List Jc}
def Xe{β:Type}(i:Nat)(v:β)(f:Nat→β):Nat→β:=fun j=>if j=i then v else f j
def Qa{β:Type}(m:Nat)(f g:Nat→β):Nat→β:=fun j=>if j<m then f j else g j
theorem DG.congr(D:DG X N ops ix bp em nd i n eff x FF SS Hs pend){eff':Nat→Bool}{x':Nat→AV}{FF':Nat→Cw}{SS':Nat→St}(h:∀j,i≤j→eff' j=eff j∧x' j=x j∧FF' j=FF j∧SS' j=SS j):DG X N ops ix bp em nd i n eff' x' FF' SS' Hs pend:=by
 obtain⟨d1,d2,d3,d4,d5,d6,d7,d8⟩:=D;constructor<;>grind
theorem DG.cons{b:Bool}{o:Oper}{v:AV}{F:Cw}{S S':St}(D:DG X N ops ix bp em nd (i+1) n eff x FF SS Hs' pend')(hin:i+1≤n)(hF:FF (i+1)=putF o.dst v F)(hS:SS (i+1)=S')(ho:ops[ix i]?=some o)
 (hp:∀q,q∈pend→Ndo X N ops (ix q.1) q.2.1 q.2.2.1 q.2.2.2 S S)(hH:S∈Hs)
 (hd:nd i=false→Eh N o.dst=true)(h0:b=false→S'=S∧(nd i=false→(∀T,T∈Hs→Ndo X N ops (ix i) o F v T T)∧((∀T,Ndo X N ops (ix i) o F v T T)∨(i,o,F,v)∈pend')))
 (h1:b=true→em i=true∧(nd i=false→Ndo X N ops (ix i) o F v S S'))(hHs:∀T,T∈Hs→T∈Hs')(hpe':∀q,q∈pend→(b=true→bp q.1 i=false)→q∈pend') :
 DG X N ops ix bp em nd i n (Xe i b eff) (Xe i v x) (Xe i F FF) (Xe i S SS) Hs pend:=by
 obtain⟨d1,d2,d3,d4,d5,d6,d7,d8⟩:=D;have e0:∀{β:Type} (v:β) (f:Nat→β),Xe i v f i=v:=fun v f=>if_pos rfl;have e1:∀{β:Type} (v:β) (f:Nat→β) {j:Nat},i+1≤j→Xe i v f j=f j:=by intro β v f j h;exact if_neg (by omega)
 have at_:∀j,i≤j→j=i∨i+1≤j:=fun j h=>by omega
 refine⟨fun j a c o' ho'=>?_,fun j a c hn o' ho'=>?_,fun j a c he=>?_,fun j a c he=>?_,fun j a c he hn o' ho'=>?_,fun j a c he hn o' ho' T hT=>?_,fun j a c he hn o' ho' p hp1 hp2 hpe=>?_,fun q hq p hp1 hp2 hpe=>?_⟩
 ·rcases at_ j a with rfl|h
  ·rw[ho]at ho';cases ho';rw[e1 _ _ (Bt _),e0,e0,hF]
  ·rw[e1 _ _ h,e1 _ _ h,e1 _ _ (by omega)];exact d1 j h c o' ho'
 ·rcases at_ j a with rfl|h
  ·rw[ho]at ho';cases ho';exact hd hn
  ·exact d2 j h c hn o' ho'
 ·rcases at_ j a with rfl|h
  ·rw[e0]at he;rw[e1 _ _ (Bt _),e0,hS];exact(h0 he).1
  ·rw[e1 _ _ h]at he;rw[e1 _ _ h,e1 _ _ (by omega)];exact d3 j h c he
 ·rcases at_ j a with rfl|h
  ·rw[e0]at he;exact(h1 he).1
  ·rw[e1 _ _ h]at he;exact d4 j h c he
 ·rcases at_ j a with rfl|h
  ·rw[e0]at he;rw[ho]at ho';cases ho';rw[e1 _ _ (Bt _),e0,e0,e0,hS];exact(h1 he).2 hn
  ·rw[e1 _ _ h]at he;rw[e1 _ _ h,e1 _ _ h,e1 _ _ h,e1 _ _ (by omega)];exact d5 j h c he hn o' ho'
 ·rcases at_ j a with rfl|h
  ·rw[e0]at he;rw[ho]at ho';cases ho';rw[e0,e0];exact((h0 he).2 hn).1 T hT
  ·rw[e1 _ _ h]at he;rw[e1 _ _ h,e1 _ _ h];exact d6 j h c he hn o' ho' T (hHs T hT)
 ·rcases at_ p hp1 with rfl|hp
  ·rw[e0];rcases at_ j a with rfl|h
   ·rw[e0]at he;rw[ho]at ho';cases ho';rw[e0,e0];exact((h0 he).2 hn).1 S hH
   ·rw[e1 _ _ h]at he;rw[e1 _ _ h,e1 _ _ h];exact d6 j h c he hn o' ho' S (hHs S hH)
  ·rw[e1 _ _ hp];rcases at_ j a with rfl|h
   ·rw[e0]at he;rw[ho]at ho';cases ho';rw[e0,e0];rcases((h0 he).2 hn).2 with g|g
    ·exact g _
    ·exact d8 _ g p hp hp2 fun e g1 g2 g3=>hpe e (by omega) g2 (by rw[e1 _ _ g1];exact g3)
   ·rw[e1 _ _ h]at he;rw[e1 _ _ h,e1 _ _ h];exact d7 j h c he hn o' ho' p hp hp2 fun e g1 g2 g3=>hpe e g1 g2 (by rw[e1 _ _ (by omega)];exact g3)
 ·rcases at_ p hp1 with rfl|hp'
  ·rw[e0];exact hp q hq
  ·rw[e1 _ _ hp'];exact d8 q (hpe' q hq fun hb=>hpe i (Bt _) (by omega) (by rw[e0];exact hb)) p hp' hp2 fun e g1 g2 g3=>hpe e (by omega) g2 (by rw[e1 _ _ g1];exact g3)
theorem Qw{K:Nat→Cw→St→List St→List Jc→Prop}:∀(os:List Oper)(i:Nat)(F:Cw)(S:St)(Hs:List St)(pend:List Jc),
 DrvK X N ops ix bp em os i F S Hs pend K→(∀k,k<os.length→ops[ix (i+k)]?=os[k]?)→S∈Hs→(∀q,q∈pend→Ndo X N ops (ix q.1) q.2.1 q.2.2.1 q.2.2.2 S S) →
 ∃eff x FF SS Hs' pend' m,m=i+os.length∧FF i=F∧SS i=S∧K m (FF m) (SS m) Hs' pend'∧SS m∈Hs'∧(∀q,q∈pend'→Ndo X N ops (ix q.1) q.2.1 q.2.2.1 q.2.2.2 (SS m) (SS m)) ∧
  ∀(nd:Nat→Bool) n eff2 x2 FF2 SS2,m≤n→FF2 m=FF m→SS2 m=SS m→DG X N ops ix bp em nd m n eff2 x2 FF2 SS2 Hs' pend'→DG X N ops ix bp em nd i n (Qa m eff eff2) (Qa m x x2) (Qa m FF FF2) (Qa m SS SS2) Hs pend
 |[],i,F,S,Hs,pend,h,_,hS,hp=>by
  refine⟨fun _=>false,fun _=>.junk,fun _=>F,fun _=>S,Hs,pend,i,rfl,rfl,rfl,h,hS,hp,fun nd n e x F' S' _ _ _ D=>D.congr fun j hj=>?_⟩;simp[Qa,Nat.not_lt.2 hj]
 |o::os,i,F,S,Hs,pend,h,hops,hS,hp=>by
  have ho:ops[ix i]?=some o:=by have:=hops 0 (by simp);simpa using this
  have hops':∀k,k<os.length→ops[ix (i+1+k)]?=os[k]?:=fun k hk=>by
   have:=hops (k+1) (by simp;omega);rw[show i+1+k=i+(k+1) by omega];simpa using this
  have key:∀(b:Bool) (v:AV) (S':St) (H1:List St) (p1:List Jc),DrvK X N ops ix bp em os (i+1) (putF o.dst v F) S' H1 p1 K→S'∈H1→(∀q,q∈p1→Ndo X N ops (ix q.1) q.2.1 q.2.2.1 q.2.2.2 S' S')→Eh N o.dst=true →
   (b=false→S'=S∧(∀T,T∈Hs→Ndo X N ops (ix i) o F v T T)∧((∀T,Ndo X N ops (ix i) o F v T T)∨(i,o,F,v)∈p1))→(b=true→em i=true∧Ndo X N ops (ix i) o F v S S')→(∀T,T∈Hs→T∈H1)→(∀q,q∈pend→(b=true→bp q.1 i=false)→q∈p1) →
   ∃eff x FF SS Hs' pend' m,m=i+(o::os).length∧FF i=F∧SS i=S∧K m (FF m) (SS m) Hs' pend'∧SS m∈Hs'∧(∀q,q∈pend'→Ndo X N ops (ix q.1) q.2.1 q.2.2.1 q.2.2.2 (SS m) (SS m)) ∧
    ∀(nd:Nat→Bool) n eff2 x2 FF2 SS2,m≤n→FF2 m=FF m→SS2 m=SS m→DG X N ops ix bp em nd m n eff2 x2 FF2 SS2 Hs' pend'→DG X N ops ix bp em nd i n (Qa m eff eff2) (Qa m x x2) (Qa m FF FF2) (Qa m SS SS2) Hs pend:=fun b v S' H1 p1 hk hS' hp' hd h0 h1 hH hq=>by
   obtain⟨eff,x,FF,SS,H2,p2,m,hm,g1,g2,g3,g4,g5,g6⟩:=Qw os (i+1) _ S' H1 p1 hk hops' hS' hp';have hne:¬m=i:=by omega
   refine⟨Xe i b eff,Xe i v x,Xe i F FF,Xe i S SS,H2,p2,m,by simp;omega,if_pos rfl,if_pos rfl,?_,?_,?_,fun nd n eff2 x2 FF2 SS2 k1 k2 k3 k4=>?_⟩
   ·simpa[Xe,hne]using g3
   ·simpa[Xe,hne]using g4
   ·simpa[Xe,hne]using g5
   ·have D:=g6 nd n eff2 x2 FF2 SS2 k1 (by simpa[Xe,hne]using k2) (by simpa[Xe,hne]using k3) k4;have hF:Qa m FF FF2 (i+1)=putF o.dst v F:=by
     unfold Qa;split
     ·exact g1
     ·have:m=i+1:=by omega
      subst this;rw[←g1];simpa[Xe]using k2
    have hS1:Qa m SS SS2 (i+1)=S':=by
     unfold Qa;split
     ·exact g2
     ·have:m=i+1:=by omega
      subst this;rw[←g2];simpa[Xe]using k3
    refine(D.cons (b:=b) (by omega) hF hS1 ho hp hS (fun _=>hd) (fun e=>⟨(h0 e).1,fun _=>(h0 e).2⟩) (fun e=>⟨(h1 e).1,fun _=>(h1 e).2⟩) hH hq).congr fun j hj=>?_;have:i<m:=by omega
    unfold Qa Xe;by_cases hji:j=i
    ·subst hji;simp[this]
    ·simp[hji]
  simp only[DrvK]at h;rcases h with⟨v,hd,hn,hk⟩|⟨v,hd,hn,hk⟩|⟨v,S',p',he,hd,hn,hpf,hpn,hk⟩
  ·exact key false v S Hs pend hk hS hp hd (fun _=>⟨rfl,fun T _=>hn T,.inl hn⟩) (fun e=>by cases e) (fun _ h=>h) (fun _ h _=>h)
  ·exact key false v S Hs _ hk hS (fun q hq=>by
    rcases zzq8.1 hq with rfl|hq
    ·exact hn S hS
    ·exact hp q hq) hd (fun _=>⟨rfl,hn,.inr (by simp)⟩) (fun e=>by cases e) (fun _ h=>h) (fun _ h _=>by simp[h])
  ·exact key true v S' _ p' hk (by simp) hpn hd (fun e=>by cases e) (fun _=>⟨he,hn⟩) (fun _ h=>by simp[h]) (fun q h hb=>by rw[←hpf];exact zzq35.2 ⟨h,by simp[hb rfl]⟩)
theorem DG.nil{m:Nat}{F:Cw}{S:St}(hp:∀q,q∈pend→Ndo X N ops (ix q.1) q.2.1 q.2.2.1 q.2.2.2 S S):DG X N ops ix bp em nd m m (fun _=>false) (fun _=>.junk) (fun _=>F) (fun _=>S) Hs pend:=
 ⟨fun j a c=>by omega,fun j a c=>by omega,fun j a c=>by omega,fun j a c=>by omega,fun j a c=>by omega,fun j a c=>by omega,fun j a c=>by omega,fun q hq p _ _ _=>hp q hq⟩
end
def Sr(ops:Array Oper)(bs:List Nat)(em:Nat):Bool:=
 Uq ops bs&&(List.range ops.size).all fun i=>match ops[i]? with
  |none=>true
  |some oi=>(List.range ops.size).all fun j=>match ops[j]? with
   |none=>true
   |some oj=>
    (match oj.dst with
      |some t=>!(oi.looksAt ops).contains t||(Nat.blt j i&&bitOf bs j i)||(Nat.blt i j&&bitOf bs i j)
      |none=>true) &&
    (Nat.ble j i||(match oi.dst with
      |some t=>oj.dst != some t
      |none=>true)) &&
    (Nat.ble j i||!(em.testBit i&&em.testBit j)||bitOf bs i j)
theorem Tf(dst:Option Nat)(x:AV)(F:Cw)(t:Nat):lk (putF dst x F) t=if dst=some t then some x else lk F t:=by
 cases dst with
 |none=>simp[putF]
 |some d=>simp only[putF,Kk,Option.some.injEq]
section
variable {F:Cw}
def Yh(ops:Array Oper)(ix:Nat→Nat)(x:Nat→AV)(listed:Nat→Bool)(F:Cw):Nat→Cw
 |0=>F
 |j+1=>match listed j with
  |true=>match ops[ix j]? with
   |some o=>putF o.dst (x j) (Yh ops ix x listed F j)
   |none=>Yh ops ix x listed F j
  |false=>Yh ops ix x listed F j
theorem Pn{ops:Array Oper}{ix:Nat→Nat}{x:Nat→AV}{listed:Nat→Bool}{t:Nat}:∀n,(∀j,j<n→listed j=true→∀o,ops[ix j]?=some o→o.dst≠some t)→lk (Yh ops ix x listed F n) t=lk F t
 |0,_=>rfl
 |n+1,h=>by
  have ih:lk (Yh ops ix x listed F n) t=lk F t:=Pn n (fun j hj=>h j (by omega));simp only[Yh];split
  ·rename_i hl;split
   ·rename_i o ho;rw[Tf,if_neg (h n (by omega) hl o ho),ih]
   ·exact ih
  ·exact ih
theorem Te{ops:Array Oper}{ix:Nat→Nat}{x:Nat→AV}{listed:Nat→Bool}{t j:Nat}{o:Oper}(ho:ops[ix j]?=some o)(hd:o.dst=some t)(hl:listed j=true) :
 ∀n,j<n→(∀(j':Nat) (o':Oper),j'<n→j≠j'→ops[ix j']?=some o'→o'.dst≠some t)→lk (Yh ops ix x listed F n) t=some (x j)
 |0,h,_=>by omega
 |n+1,h,hu=>by
  simp only[Yh];by_cases hj:j=n
  ·subst hj;simp only[hl,ho];rw[Tf,if_pos hd]
  ·have ih:lk (Yh ops ix x listed F n) t=some (x j):=Te ho hd hl n (by omega) (fun j' o' h'=>hu j' o' (by omega));split
   ·split
    ·rename_i o' ho';rw[Tf,if_neg (hu n o' (by omega) hj ho'),ih]
    ·exact ih
   ·exact ih
end
structure DrawOkP (ops:Array Oper)(ix:Nat→Nat)(n:Nat)(bp:Nat→Nat→Bool)(em:Nat→Bool):Prop where
 at_:∀j,j<n→∃o,ops[ix j]?=some o
 looks:∀(i j:Nat) (oi oj:Oper),i<n→j<n→ops[ix i]?=some oi→ops[ix j]?=some oj→∀t,oj.dst=some t→t∈oi.looksAt ops→(j<i∧bp j i=true)∨(i<j∧bp i j=true)
 dsts:∀(i j:Nat) (oi oj:Oper),i<n→j<n→ops[ix i]?=some oi→ops[ix j]?=some oj→i≠j→∀t,oi.dst=some t→oj.dst≠some t
 effs:∀(i j:Nat),i<j→j<n→em i=true→em j=true→bp i j=true
theorem Adm{l:Array Bool}{i j:Nat}(hi:i<l.size):(l.setIfInBounds i true).getD j false=if i=j then true else l.getD j false:=by
 by_cases h:i=j
 ·subst h;simp[Array.getD_eq_getD_getElem?,Array.getElem?_setIfInBounds,hi]
 ·simp[Array.getD_eq_getD_getElem?,Array.getElem?_setIfInBounds_ne h,h]
def Aqk(l:Array Bool)(n:Nat):Nat:=((List.range n).filter fun j=>!l.getD j false).length
theorem Atn{l:Array Bool}{n i:Nat}(hi:i<n)(hs:l.size=n)(hl:l.getD i false=false):Aqk (l.setIfInBounds i true) n+1≤Aqk l n:=by
 unfold Aqk;have hsub:((List.range n).filter fun j=>!(l.setIfInBounds i true).getD j false)=((List.range n).filter fun j=>!l.getD j false).filter (fun j=>j != i):=by
  rw[List.filter_filter];apply List.filter_congr;intro j _;rw[Adm (by omega)];by_cases h:i=j
  ·subst h;simp
  ·simp[h,Ne.symm h]
 rw[hsub];have hm:i∈(List.range n).filter fun j=>!l.getD j false:=zzq35.2 ⟨zzq33.2 hi,by simp only[hl];rfl⟩;have:=(List.length_filter_lt_length_iff_exists (p:=fun j=>j != i) (l:=(List.range n).filter fun j=>!l.getD j false)).2 ⟨i,hm,by simp⟩;omega
theorem Ara{ops:Array Oper}{listed:Array Bool}{i:Nat}(h:i∈Region.ready .any ops listed):i<ops.size∧listed.getD i true=false∧∃o,ops[i]?=some o ∧
 ∀e,e∈o.after.toList→Region.binds .any e=true→listed.getD e.on false=true:=by
 unfold Region.ready at h;obtain⟨h1,h2⟩:=zzq35.1 h;have hi:=zzq33.1 h1;have ho:ops[i]?=some ops[i]:=by simp[hi]
 rw[ho]at h2;simp only[Du,N4,K4,Option.getD_some]at h2;refine⟨hi,h2.1,_,ho,fun e he hb=>?_⟩;have:=Array.all_eq_true'.1 h2.2 e (by simpa using he);simpa[hb]using this
theorem Al7{ops:Array Oper}{bs:List Nat}(hb:Uq ops bs=true){listed:Array Bool}(hs:listed.size=ops.size)(hr:Region.ready .any ops listed=[]):∀j,j<ops.size→listed.getD j false=true:=by
 intro j
 induction j using Nat.strongRecOn with
 |ind j ih=>
  intro hj;cases hl:listed.getD j false with
  |true=>rfl
  |false=>
   have ho:ops[j]?=some ops[j]:=by simp[hj]
   have hk:=zzq32.1 hb j (zzq33.2 hj);rw[ho]at hk;simp only[Du]at hk;have:j∈Region.ready .any ops listed:=by
    unfold Region.ready;refine zzq35.2 ⟨zzq33.2 hj,?_⟩;have hl':listed.getD j true=false:=by
     have:j<listed.size:=by omega
     simp[Array.getD,this]at hl⊢;exact hl
    rw[ho];simp only[hl',Bool.not_false,K4,Option.getD_some,N5];refine Array.all_eq_true'.2 fun e he=>?_;cases hbe:Region.binds .any e with
    |false=>simp
    |true=>
     have hlt:e.on<j:=by
      have:=zzq32.1 hk.2 e (by simpa using he);simp only[hbe,Bool.not_true,Bool.or_false]at this;simpa[Hp]using this
     simp[ih e.on hlt (by omega)]
   rw[hr]at this;cases this
theorem OrdP.congr{bp:Nat→Nat→Bool}{n:Nat}:∀(l:List Nat){f g:Nat→Bool},(∀p,p<n→f p=g p)→OrdP bp n l f→OrdP bp n l g
 |[],f,g,h,ho=>fun j hj=>by rw[←h j hj];exact ho j hj
 |i::l,f,g,h,⟨g1,g2,g3,g4⟩=>⟨g1,by rw[←h i g1];exact g2,fun e he hb=>by rw[←h e he];exact g3 e he hb,OrdP.congr l (fun p hp=>by
   by_cases hi:i=p
   ·simp[hi]
   ·simp[hi,h p hp]) g4⟩
theorem Ayo{ops:Array Oper}{bs:List Nat}(hb:Uq ops bs=true):∀(fuel t:Nat)(listed:Array Bool),listed.size=ops.size→Closed ops listed→Aqk listed ops.size≤fuel →
 OrdP (bitOf bs) ops.size (Region.linearise.go .any ops fuel t listed []) (fun j=>listed.getD j false):=by
 have fin:∀(listed:Array Bool),(∀j,j<ops.size→listed.getD j false=true)→OrdP (bitOf bs) ops.size [] (fun j=>listed.getD j false):=fun _ h=>h;intro fuel
 induction fuel with
 |zero=>
  intro t listed hs hc hcnt;refine fin listed fun j hj=>?_;cases hl:listed.getD j false with
  |true=>rfl
  |false=>
   have:j∈(List.range ops.size).filter fun j=>!listed.getD j false:=zzq35.2 ⟨zzq33.2 hj,by simp only[hl];rfl⟩;unfold Aqk at hcnt;have:=List.length_pos_of_mem this;omega
 |succ fuel ih=>
  intro t listed hs hc hcnt;simp only[Region.linearise.go];change OrdP (bitOf bs) ops.size (match(Region.ready .any ops listed)[t%(Region.ready .any ops listed).length]? with
   |some i=>Region.linearise.go .any ops fuel (t/(Region.ready .any ops listed).length) (listed.setIfInBounds i true) [i]
   |none=>[].reverse) _
  cases hi:(Region.ready .any ops listed)[t%(Region.ready .any ops listed).length]? with
  |none=>
   have hnil:Region.ready .any ops listed=[]:=by
    cases hr:Region.ready .any ops listed with
    |nil=>rfl
    |cons y ys=>
     rw[hr]at hi;have hlt:t%(y::ys).length<(y::ys).length:=Nat.mod_lt _ (by simp);simp at hi;simp at hlt;omega
   exact fin listed (Al7 hb hs hnil)
  |some i=>
   obtain⟨hin,hil,o,ho,hafter⟩:=Ara (Bn hi);have hilf:listed.getD i false=false:=by
    have:i<listed.size:=by omega
    simp[Array.getD,this]at hil⊢;exact hil
   simp only[];rw[linearise_go_acc,List.reverse_singleton,List.singleton_append];have rbit:∀e,e<ops.size→bitOf bs e i=true→listed.getD e false=true:=fun e he hbit=>by
    have hk:=zzq32.1 hb i (zzq33.2 hin);rw[ho]at hk;simp only[Du,zzq34]at hk;unfold bitOf at hbit;rw[hk.1]at hbit;rcases Aac bs e _ 0 hbit with h|⟨e',he',hbe,h⟩
    ·simp at h
    ·have hl':=hafter e' he' hbe;rcases h with rfl|h
     ·exact hl'
     ·have:e'.on<ops.size:=by
       have h2:=zzq32.1 hk.2 e' he';simp only[hbe,Bool.not_true,Bool.or_false]at h2;have:e'.on<i:=by simpa[Hp]using h2
       omega
      exact hc.bit hb e'.on e this hl' h
   have hcl':Closed ops (listed.setIfInBounds i true):=fun j oj hj hoj e he hb=>by
    rw[Adm (by omega)]at hj⊢;by_cases hie:i=e.on
    ·rw[if_pos hie]
    ·rw[if_neg hie];by_cases hij:i=j
     ·subst hij;rw[ho]at hoj;cases hoj;exact hafter e he hb
     ·rw[if_neg hij]at hj;exact hc j oj hj hoj e he hb
   have hcu:=Atn hin hs hilf;refine⟨hin,hilf,rbit,OrdP.congr _ (fun p _=>?_) (ih _ (listed.setIfInBounds i true) (by simp[hs]) hcl' (by omega))⟩;rw[Adm (by omega)]
section
variable {X:Cx}{B:Bx}{E:Env}{S:St}{w:World}{F:Cw}{a:Act}{N:Nat}{R:AE→St→Prop}
theorem He(E:Env)(w:World)(n m:Nat):Evol E w E { w with drawn:=w.drawn+1 } n m:=
 ⟨rfl,fun _ _ h=>⟨h,fun _ h=>h⟩,fun _ _ k h=>⟨k,h,.inl rfl⟩,rfl,rfl,rfl,Bt _,fun _ _ _=>rfl,fun _ _ _ _ h=>h,fun _ _ _ h=>h,fun _ _ h=>h,rfl,fun _ _ h=>h,fun _ _ _ _ _ _ _ _ _ h=>h⟩
theorem Abm{ops:Array Oper}{bs:List Nat}{em:Nat}(h:Sr ops bs em=true):Uq ops bs=true∧DrawOkP ops (fun i=>i) ops.size (bitOf bs) (fun j=>em.testBit j):=by
 unfold Sr at h;rw[Du]at h;obtain⟨h0,h1⟩:=h;have key:∀(i j:Nat) (oi oj:Oper),i<ops.size→j<ops.size→ops[i]?=some oi→ops[j]?=some oj →
  ((match oj.dst with
     |some t=>!(oi.looksAt ops).contains t||(Nat.blt j i&&bitOf bs j i)||(Nat.blt i j&&bitOf bs i j)
     |none=>true) &&
    (Nat.ble j i||(match oi.dst with
      |some t=>oj.dst != some t
      |none=>true)) &&
    (Nat.ble j i||!(em.testBit i&&em.testBit j)||bitOf bs i j))=true:=fun i j oi oj li lj hi hj=>by
  have a1:=zzq32.1 h1 i (zzq33.2 li);rw[hi]at a1;have a2:=zzq32.1 a1 j (zzq33.2 lj);rw[hj]at a2;exact a2
 refine⟨h0,fun j hj=>⟨ops[j],by simp[hj]⟩,fun i j oi oj li lj hi hj t ht hm=>?_,fun i j oi oj li lj hi hj hne t ht hc=>?_,fun i j hij lj e1 e2=>?_⟩
 ·have:=key i j oi oj li lj hi hj;simp only[Du,ht,My,N4,Hp]at this;rcases this.1.1 with(h|h)|h
  ·have hc:(oi.looksAt ops).contains t=true:=List.contains_iff_mem.2 hm;rw[hc]at h;cases h
  ·exact .inl h
  ·exact .inr h
 ·rcases Nat.lt_or_gt_of_ne hne with h|h
  ·have:=key i j oi oj li lj hi hj;simp only[Du,ht,My]at this;rcases this.1.2 with h'|h'
   ·have:=J5 h';omega
   ·rw[hc]at h';simp at h'
  ·have:=key j i oj oi lj li hj hi;simp only[Du,hc,My]at this;rcases this.1.2 with h'|h'
   ·have:=J5 h';omega
   ·rw[ht]at h';simp at h'
 ·have:=key i j ops[i] ops[j] (by omega) lj (Ag4 (by omega)) (Ag4 lj);simp only[Du,My,e1,e2]at this;rcases this.2 with(h'|h')|h'
  ·have:=J5 h';omega
  ·simp at h'
  ·exact h'
theorem An5{ops:Array Oper}{ix:Nat→Nat}{n i:Nat}{bp:Nat→Nat→Bool}{em:Nat→Bool}(dk:DrawOkP ops ix n bp em){x x':Nat→AV}{listed:Nat→Bool}{o:Oper}(hin:i<n)(hil:listed i=false)(ho:ops[ix i]?=some o)(hx:∀j,j<n→listed j=true→x' j=x j)(t:Nat) :
 lk (Yh ops ix x' (fun j=>if i=j then true else listed j) F n) t=lk (putF o.dst (x' i) (Yh ops ix x listed F n)) t:=by
 rw[Tf];by_cases hd:o.dst=some t
 ·rw[if_pos hd];exact Te ho hd (by simp) n hin (fun j' o' hj' hne ho'=>dk.dsts i j' o o' hin hj' ho ho' hne t hd)
 ·rw[if_neg hd];have:∀m,m≤n→lk (Yh ops ix x' (fun j=>if i=j then true else listed j) F m) t=lk (Yh ops ix x listed F m) t:=by
   intro m
   induction m with
   |zero=>intro _;rfl
   |succ m ihn=>
    intro hm;simp only[Yh];by_cases hn:i=m
    ·subst hn;simp only[if_true,hil,ho];rw[Tf,if_neg hd,ihn (by omega)]
    ·simp only[hn,if_false];split
     ·rename_i hl;rw[hx m (by omega) hl];split
      ·rw[Tf,Tf,ihn (by omega)]
      ·exact ihn (by omega)
     ·exact ihn (by omega)
  exact this _ (Bt _)
theorem Avb{i j:Nat}{f dead:Nat→Bool}(hd:dead i=false)(h:(if i=j then true else f j)=true∨dead j=false):f j=true∨dead j=false:=by
 by_cases hij:i=j
 ·subst hij;exact .inr hd
 ·rwa[if_neg hij]at h
theorem Yx{ops:Array Oper}{ix:Nat→Nat}{n m:Nat}{bp:Nat→Nat→Bool}{em dead:Nat→Bool}(dk:DrawOkP ops ix n bp em){eff:Nat→Bool}{x:Nat→AV}{FF:Nat→Cw}{SS:Nat→St}{Hs:List St}{pend:List Jc}
 (D:DG X N ops ix bp em dead 0 m eff x FF SS Hs pend)(hm:m≤n)(hdm:∀j,m≤j→dead j=true)(hF0:FF 0=F)(k:List Item):∀(l:List Nat)(listed:Nat→Bool)(a:Act)(w:World)(E:Env)(p:Nat),
 OrdP bp n l listed→CloP bp n listed→(∀j,listed j=true→j<m)→p≤m→(∀e,e<m→eff e=true→(listed e=true↔e<p)) →
 Inv X E (SS p) w→FR E w (Yh ops ix x listed F n) a N→∀(b:Frame) (cs:List Frame),∃E' w' a',Evol E w E' w' E.boxes.length E.toks.length ∧
  ((m=n∧(∀j,j<n→listed j=true∨dead j=false)∧Steps X.P (lone (b.at a (.inRegion ops (l.map ix)::k)) cs w) (lone (b.at a' k) cs w')∧Inv X E' (SS n) w'∧FR E' w' (FF n) a' N) ∨
  ∃i l2 listed2 p2,dead i=true∧Steps X.P (lone (b.at a (.inRegion ops (l.map ix)::k)) cs w) (lone (b.at a' (.inRegion ops (ix i::l2.map ix)::k)) cs w')∧OrdP bp n (i::l2) listed2∧CloP bp n listed2∧(∀j,listed2 j=true→j<m)∧p2≤m ∧
   (∀e,e<m→eff e=true→(listed2 e=true↔e<p2))∧(∀j,listed j=true→listed2 j=true)∧(∀j,listed2 j=true→listed j=true∨dead j=false)∧Inv X E' (SS p2) w'∧FR E' w' (Yh ops ix x listed2 F n) a' N ∧
   (i≤m→em i=true→SS i=SS p2)∧(i≤m→∀o,ops[ix i]?=some o→∀t,t∈o.looksAt ops→lk (Yh ops ix x listed2 F n) t=lk (FF i) t)):=by
 have hFF:∀q,q≤m→FF q=Yh ops ix x (fun _=>true) F q:=by
  intro q
  induction q with
  |zero=>intro _;exact hF0
  |succ q ih=>
   intro hn;obtain⟨o,ho⟩:=dk.at_ q (by omega);rw[D.step q (Cb _) (by omega) _ ho,ih (by omega)];simp[Yh,ho]
 have hSS:∀p q,p≤q→q≤m→(∀e,p≤e→e<q→eff e=false)→SS q=SS p:=by
  intro p q hpq
  induction q with
  |zero=>intro _ _;rw[show p=0 by omega]
  |succ q ih=>
   intro hq he;by_cases h:p=q+1
   ·rw[h]
   ·rw[D.eff0 q (Cb _) (by omega) (he q (by omega) (by omega))];exact ih (by omega) (by omega) (fun e h1 h2=>he e h1 (by omega))
 intro l
 induction l with
 |nil=>
  intro listed a w E p hall hc hlm hp hpe hI hF b cs;have hmn:m=n:=by
   rcases Ga m n with h|h
   ·have:=hlm m (hall m h);omega
   ·omega
  subst hmn;refine⟨E,w,a,Evol.refl _ _ _ _,.inl ⟨rfl,fun j hj=>.inl (hall j hj),.one step_region_end,?_,?_⟩⟩
  ·rw[hSS p m hp (Bt _) fun e h1 h2=>by
    cases he:eff e with
    |false=>rfl
    |true=>have:=(hpe e h2 he).1 (hall e h2);omega]
   exact hI
  ·rw[hFF _ (Bt _)];have:∀q,q≤m→Yh ops ix x listed F q=Yh ops ix x (fun _=>true) F q:=by
    intro q
    induction q with
    |zero=>intro _;rfl
    |succ q ih=>intro hn;simp only[Yh,hall q (by omega),ih (by omega)]
   rw[←this _ (Bt _)];exact hF
 |cons i l ih=>
  intro listed a w E p hord hc hlm hp hpe hI hF b cs;have hord0:=hord;obtain⟨hin,hilf,rbit,hrest⟩:=hord;obtain⟨o,ho⟩:=dk.at_ i hin;simp only[Om];have notbit:∀e,e<n→listed e=true→bp i e=false:=fun e he hl=>by
   cases hb:bp i e with
   |false=>rfl
   |true=>have:=hc e i he hin hl hb;rw[hilf]at this;cases this
  have hagree:i≤m→∀t,t∈o.looksAt ops→lk (Yh ops ix x listed F n) t=lk (FF i) t:=fun him t ht=>by
   rw[hFF i him];by_cases hw:∃(j:Nat) (oj:Oper),j<n∧ops[ix j]?=some oj∧oj.dst=some t
   ·obtain⟨j,oj,hjn,hj,hd⟩:=hw;have hu:∀(j':Nat) (o':Oper),j'<n→j≠j'→ops[ix j']?=some o'→o'.dst≠some t:=fun j' o' hjn' hne ho'=>dk.dsts j j' oj o' hjn hjn' hj ho' hne t hd;rcases dk.looks i j o oj hin hjn ho hj t hd ht with⟨h1,h2⟩|⟨h1,h2⟩
    ·rw[Te (listed:=listed) hj hd (rbit j hjn h2) n hjn (fun j' o' hj'=>hu j' o' hj'),Te (listed:=fun _=>true) hj hd rfl i h1 (fun j' o' hj'=>hu j' o' (by omega))]
    ·have hjl:listed j=false:=by
      cases hl:listed j with
      |false=>rfl
      |true=>have:=notbit j hjn hl;rw[h2]at this;cases this
     rw[Pn n fun j' hj' hl' o' ho' hc'=>by
      by_cases hjj:j=j'
      ·subst hjj;rw[hjl]at hl';cases hl'
      ·exact hu j' o' hj' hjj ho' hc',
      Pn i fun j' hj' _ o' ho' hc'=>by
       by_cases hjj:j=j'
       ·omega
       ·exact hu j' o' (by omega) hjj ho' hc']
   ·rw[Pn n fun j' hj' _ o' ho' hc'=>hw ⟨j',o',hj',ho',hc'⟩,Pn i fun j' hj' _ o' ho' hc'=>hw ⟨j',o',by omega,ho',hc'⟩]
  have before:i≤m→em i=true→(∀e,e<i→eff e=true→listed e=true)∧(p≤i→SS i=SS p):=fun him es=>by
   have h1:∀e,e<i→eff e=true→listed e=true:=fun e hei hee=>rbit e (by omega) (dk.effs e i hei hin (D.effE e (Cb _) (by omega) hee) es);exact⟨h1,fun hpi=>hSS p i hpi him (fun e h2 h3=>by
    cases hee:eff e with
    |false=>rfl
    |true=>have:=(hpe e (by omega) hee).1 (h1 e h3 hee);omega)⟩
  cases hdi:dead i with
  |true=>
   refine⟨E,w,a,Evol.refl _ _ _ _,.inr ⟨i,l,listed,p,hdi,Steps.refl _ _,hord0,hc,hlm,hp,hpe,fun _ h=>h,fun _ h=>.inl h,hI,hF,fun him es=>?_,fun him o' ho'=>by rw[ho]at ho';cases ho';exact hagree him⟩⟩;have hb:=before him es;rcases Ga i p with h|h
   ·refine(hSS i p (by omega) hp fun e h1 h2=>?_).symm;cases hee:eff e with
    |false=>rfl
    |true=>
     have hl:=(hpe e (by omega) hee).2 h2;by_cases hie:e=i
     ·subst hie;rw[hilf]at hl;cases hl
     ·have:=notbit e (by omega) hl;rw[dk.effs i e (by omega) (by omega) es (D.effE e (Cb _) (by omega) hee)]at this;cases this
   ·exact hb.2 h
  |false=>
  have him:i<m:=by
   rcases Ga i m with h|h
   ·exact h
   ·rw[hdm i h]at hdi;cases hdi
  have hcl':=hc.put rbit
  suffices hs:∃p',p'≤m∧(∀e,e<m→eff e=true→((if i=e then true else listed e)=true↔e<p'))∧Ndo X N ops (ix i) o (FF i) (x i) (SS p) (SS p') by
   obtain⟨p',hp',hpe',hn⟩:=hs;obtain⟨v,w1,⟨E1,h1,h2,h3⟩,h4⟩:=hn _ E w a (hagree (by omega)) hI hF b k cs (l.map ix);rw[ho]at h4;have hd:=D.dok i (Cb _) him hdi o ho;have hF1:FR E1 w1 (Yh ops ix x (fun j=>if i=j then true else listed j) F n) (a.put o.dst v) N:=by
    have:=(hF.step h2).putF hd h3;exact⟨this.size,this.nod,fun q y hq=>this.rel q y (by rw[←An5 dk hin hilf ho (fun _ _ _=>rfl) q];exact hq)⟩
   obtain⟨E',w',a',k1,k2⟩:=ih (fun j=>if i=j then true else listed j) _ w1 E1 p' hrest hcl' (fun j hj=>by
    by_cases hij:i=j
    ·omega
    ·rw[if_neg hij]at hj;exact hlm j hj) hp' hpe' h1 hF1 b cs
   have hlen:=h2.len;refine⟨E',w',a',h2.trans (k1.weaken hlen.1 hlen.2),?_⟩;rcases k2 with⟨q1,q0,q2,q3,q4⟩|⟨i2,l2,ls2,p2,q1,q2,q3,q4,q5,q6,q7,q8,q9,q10⟩
   ·exact .inl ⟨q1,fun j hj=>Avb hdi (q0 j hj),h4.trans q2,q3,q4⟩
   ·refine .inr ⟨i2,l2,ls2,p2,q1,h4.trans q2,q3,q4,q5,q6,q7,fun j hj=>q8 j (by simp[hj]),fun j hj=>Avb hdi (q9 j hj),q10⟩
  cases he:eff i with
  |false=>
   refine⟨p,hp,fun e hen hee=>?_,?_⟩
   ·by_cases hie:i=e
    ·subst hie;rw[he]at hee;cases hee
    ·rw[if_neg hie];exact hpe e hen hee
   ·exact D.will i (Cb _) him he hdi o ho p (Cb _) hp (fun e h1 h2 h3=>notbit e (by omega) ((hpe e (by omega) h3).2 h2))
  |true=>
   have es:=D.effE i (Cb _) him he;have hn:=D.eff1 i (Cb _) him he hdi o ho;have hpi:p≤i:=by
    rcases Ga i p with h|h
    ·have:=(hpe i him he).2 h;rw[hilf]at this;cases this
    ·exact h
   obtain⟨before,hb2⟩:=before (by omega) es;have hSp:=hb2 hpi;refine⟨i+1,by omega,fun e hen hee=>?_,by rw[←hSp];exact hn⟩;by_cases hie:i=e
   ·subst hie;simp
   ·rw[if_neg hie];constructor
    ·intro hl;rcases Ga e (i+1)with h|h
     ·exact h
     ·have:=dk.effs i e (by omega) (by omega) es (D.effE e (Cb _) hen hee);have h2:=notbit e (by omega) hl;rw[this]at h2;cases h2
    ·intro hlt;exact before e (by omega) hee
theorem V8{id:Nat}{ops:Array Oper}{bs:List Nat}(hb:Uq ops bs=true)(k:List Item)(a:Act)(b:Frame)(cs:List Frame)(w:World):∃l,OrdP (bitOf bs) ops.size l (fun _=>false)∧Steps X.P (lone (b.at a (.code (.region id ops true)::k)) cs w) (lone (b.at a (.inRegion ops l::k)) cs { w with drawn:=w.drawn+1 }):=by
 have hord:=Ayo hb ops.size (w.tape w.drawn (.order b.fn id)) (Array.replicate ops.size false) (by simp) (fun j o hj=>by simp[Array.getD]at hj) (by
  unfold Aqk;exact Vt (Ag5 _ _) (by simp))
 refine⟨_,OrdP.congr _ (fun p _=>by simp[Array.getD]) hord,.head step_region_draw ?_⟩;simp only[Region.schedule,X.mixed,Bool.true_or,if_true];exact Steps.refl _ _
theorem Aoo{β:Type}{m:Nat}{f g:Nat→β}(h:g m=f m):Qa m f g 0=f 0:=by
 unfold Qa;split
 ·rfl
 ·obtain rfl:m=0:=by omega
  exact h
theorem Adn{β:Type}{m:Nat}{f g:Nat→β}:Qa m f g m=g m:=if_neg (Nat.lt_irrefl _)
theorem Ahj(ops:Array Oper)(ix:Nat→Nat)(x:Nat→AV)(F:Cw):∀n,Yh ops ix x (fun _=>false) F n=F
 |0=>rfl
 |n+1=>by simp only[Yh];exact Ahj ops ix x F n
theorem Awt{id:Nat}{ops:Array Oper}{k:List Item}(bs:List Nat)(em:Nat)(hst:Sr ops bs em=true)
 (h:Drv X B.fn.ntmps ops bs em ops.toList 0 F S [S] [] fun F' S'=>AK X B k F' S' R):AK X B (.code (.region id ops true)::k) F S R:=by
 intro E w a b cs hI hF hn hm hbf;obtain⟨hb,dk⟩:=Abm hst;obtain⟨l,hl,hst1⟩:=V8 (X:=X) (id:=id) hb k a b cs w;obtain⟨eff,x,FF,SS,Hs,pe,m,hmm,g1,g2,g3,_,g5,g6⟩:=Qw ops.toList 0 F S [S] [] h (fun j hj=>by simp) (by simp) (fun q hq=>by cases hq);obtain rfl:m=ops.size:=by simpa using hmm
 have D:=g6 (fun j=>decide (ops.size≤j)) ops.size _ _ (fun _=>FF ops.size) (fun _=>SS ops.size) (Bt _) rfl rfl (DG.nil g5);have hI1:Inv X E (Qa ops.size SS (fun _=>SS ops.size) 0) { w with drawn:=w.drawn+1 }:=by rw[Aoo (g:=fun _=>SS ops.size) rfl,g2];exact hI.keep (He E w _ _) (fun _ _=>rfl)
 have ev:=He E w E.boxes.length E.toks.length;obtain⟨E',w',a',k1,k2⟩:=Yx dk D (Bt _) (fun j h=>Ry h) ((Aoo (g:=fun _=>FF ops.size) rfl).trans g1) k l (fun _=>false) a { w with drawn:=w.drawn+1 } E 0 hl (fun j e _ _ h=>by cases h) (fun j h=>by cases h) (Cb _) (fun e _ _=>by simp) hI1 (by rw[Ahj];exact hF.step ev) b cs;rcases k2 with⟨_,_,q2,q3,q4⟩|⟨i,l2,ls,p2,q1,_,q3,_⟩
 ·rw[List.map_id']at q2;rw[Adn]at q3 q4;have ev2:=ev.trans k1;have hll:=ev2.len;have nt:E.toks.length=S.toks.length:=by rw[←hI.nt];simp
  have nt':E'.toks.length=(SS ops.size).toks.length:=by rw[←q3.nt];simp
  exact Fin.from (hst1.trans q2) (ev2.weaken (by rw[hI.nb];exact hn) (by omega)) (g3 E' w' a' b cs q3 q4 (by rw[←q3.nb];have:=hI.nb;omega) (by omega) hbf)
 ·have:=A6 q1;have:=q3.1;omega
end
end Go.V
