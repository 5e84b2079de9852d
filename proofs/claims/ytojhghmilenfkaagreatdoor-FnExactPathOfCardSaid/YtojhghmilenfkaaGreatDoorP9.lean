/- A part of the proof of the claim that the last text states: no condition of its own. -/
import Derived.Test.YtojhghmilenfkaaGreatDoorP8
set_option linter.unusedVariables false
set_option linter.unusedSimpArgs false
namespace Go.V
open Go
inductive Sh (d:Nat):AV→AV→Prop where
 |val (v:Value):Sh d (.val v) (.val v)
 |junk (x:AV):Sh d x .junk
 |nil (sp:Sp):Sh d (.sl [] sp) (.sl [] .no)
 |pnil (t v:Nat):Sh d (.psl [] t v) (.sl [] .no)
 |bsl (b k:Nat):Sh d (.bsl b k) (.bsl (b+d) k)
 |agg (cs cs':List AV) (hl:cs'.length=cs.length) (hz:∀(j:Nat) (x y:AV),cs[j]?=some x→cs'[j]?=some y→Sh d x y):Sh d (.agg cs) (.agg cs')
 |tup (cs cs':List AV) (hl:cs'.length=cs.length) (hz:∀(j:Nat) (x y:AV),cs[j]?=some x→cs'[j]?=some y→Sh d x y):Sh d (.tup cs) (.tup cs')
theorem Sh.rel{d:Nat}{E1 E':Env}{w:World}{x y:AV}(h:Sh d x y)(hb:∀(b:Nat)(q:Nat×Nat),E1.boxes[b]?=some (some q)→E'.boxes[b+d]?=some (some q)):∀{v:Value},Rel E1 w v x→Rel E' w v y:=by
 induction h with
 |val v=>intro v' hx;cases hx;exact .val _
 |junk x=>intro v hx;exact .junk v
 |nil sp=>
  intro v hx;cases hx with
  |sl _ _ a n cap b o sz vals hn hx ha hsz hm hc hr hs hcap=>
   have h0:n=0:=by simpa using hn.symm
   subst h0;exact .sl [] .no a 0 cap b o sz vals rfl hx (fun h=>absurd rfl h) (fun r hr=>by cases hr) (fun i j hi=>by omega) (fun i j hi=>by omega) (fun i j r x hi=>by simp at hi) trivial hcap
 |pnil t ver=>
  intro v hx;cases hx with
  |psl _ _ _ a n cap k sz vals hn hx hcap hk hv hsz hp hr hf=>
   have h0:n=0:=by simpa using hn.symm
   subst h0;exact .sl [] .no a 0 cap 0 0 sz vals rfl hx (fun h=>absurd rfl h) (fun r hr=>by cases hr) (fun i j hi=>by omega) (fun i j hi=>by omega) (fun i j r x hi=>by simp at hi) trivial hcap
 |bsl b k=>
  intro v hx;cases hx with
  |bsl _ blk sz _ cap h hc=>exact .bsl _ blk sz k cap (hb b _ h) hc
 |agg cs cs' hl hz ih=>
  intro v hx;cases hx with
  |agg vs _ hl' hr=>
   refine .agg vs cs' (by omega) (fun j v y hv hy=>?_);obtain⟨x,hx⟩:=Ab cs (i:=j) (by have:=Aa hy;omega);exact ih j x y hx hy (hr j v x hv hx)
 |tup cs cs' hl hz ih=>
  intro v hx;cases hx with
  |tup vs _ hl' hr=>
   refine .tup vs cs' (by omega) (fun j v y hv hy=>?_);obtain⟨x,hx⟩:=Ab cs (i:=j) (by have:=Aa hy;omega);exact ih j x y hx hy (hr j v x hv hx)
inductive ShL (d:Nat):List AV→List AV→Prop where
 |nil:ShL d [] []
 |cons {x y:AV} {l l':List AV} (h:Sh d x y) (t:ShL d l l'):ShL d (x::l) (y::l')
theorem ShL.get{d:Nat}{l l':List AV}(h:ShL d l l'):l'.length=l.length∧∀(j:Nat)(x y:AV),l[j]?=some x→l'[j]?=some y→Sh d x y:=by
 induction h with
 |nil=>exact⟨rfl,fun j x y h=>by simp at h⟩
 |cons h t ih=>
  refine⟨by simp[ih.1],fun j x y hx hy=>?_⟩;cases j with
  |zero=>simp at hx hy;subst hx;subst hy;exact h
  |succ j=>exact ih.2 j x y (by simpa using hx) (by simpa using hy)
theorem Sh.aggL{d:Nat}{l l':List AV}(h:ShL d l l'):Sh d (.agg l) (.agg l'):=.agg l l' h.get.1 h.get.2
def ShR(d:Nat)(r r':List (List AV)):Prop:=r'.length=r.length∧∀(i:Nat)(x y:List AV),r[i]?=some x→r'[i]?=some y→ShL d x y
def ShB(d:Nat)(b b':List (List (List AV))):Prop:=b'.length=b.length∧∀(i:Nat)(x y:List (List AV)),b[i]?=some x→b'[i]?=some y→ShR d x y
section
variable {X:Cx}{B:Bx}{E E1:Env}{S S1:St}{w w':World}{F:C3}{a:Act}{N:Nat}{R:AE→St→Prop}{ops:Array Oper}{i:Nat}{o:Oper}
def Env.lent(E:Env):Env:=⟨[],[],E.fr,[]⟩
theorem N3{b:Nat}:¬E.lent.own b:=fun h=>by
 rcases h with⟨i,s,h⟩|⟨t,l,c,s,h⟩<;>simp[Env.lent]at h
theorem Aik{b o:Nat}(h:E.lent.mt b o):E.fr b o:=by
 rcases h with h|⟨i,s,h⟩|⟨t,l,c,s,h,_⟩
 ·exact h
 ·simp[Env.lent]at h
 ·simp[Env.lent]at h
theorem Inv.lent(hI:Inv X E S w):Inv X E.lent ⟨[],[]⟩ w where
 nb:=rfl
 nt:=rfl
 np i hi:=by simp[Env.lent]at hi
 box i b sz rows h:=by simp[Env.lent]at h
 tok t l b c sz h:=by simp[Env.lent]at h
 bb i j b s s' h:=by simp[Env.lent]at h
 bt i t b s l c sz h:=by simp[Env.lent]at h
 tt i j b l c s l' c' s' h:=by simp[Env.lent]at h
 frlt b o h:=⟨N3,(hI.frlt b o h).2⟩
 lo b h:=absurd h N3
 frlo:=hI.frlo
 sz:=hI.sz
 glob:=hI.glob
theorem Fz.lent(hI:Inv X E S w){x y:AV}(h:Fz S 0 0 x y){v:Value}(hx:Rel E w v x):Rel E.lent w v y:=by
 have h1:=h.rel hI hx;have h2:=h1.ok;refine h1.env (by simpa[Env.drop]using h2) fun b o h=>.inl (Aik h)
def Env.gain(E E1:Env):Env:=⟨E.boxes++E1.boxes,E.toks,E.fr,E.df⟩
theorem Ql{j:Nat}{q:Nat×Nat}(h:(E.gain E1).boxes[j]?=some (some q)):E.boxes[j]?=some (some q)∨(E.boxes.length≤j∧E1.boxes[j-E.boxes.length]?=some (some q)):=by
 simp only[Env.gain]at h;rcases Gu j E.boxes.length with hj|hj
 ·rw[Cr hj]at h;exact .inl h
 ·rw[Gj hj]at h;exact .inr ⟨hj,h⟩
theorem Ac4(hI:Inv X E S w)(hI1:Inv X E1 S1 w')(ev:Evol E.lent w E1 w' 0 0){bx:List (List (List AV))}(hsh:ShB E.boxes.length S1.boxes bx) :
 Evol E w (E.gain E1) w' E.boxes.length E.toks.length∧Inv X (E.gain E1) ⟨S.boxes++bx,S.toks⟩ w':=by
 have hfar:∀{b:Nat},b<w.heap.size→w'.heap[b]?=w.heap[b]?:=fun{b} h=>ev.block b h N3;have hge:∀{b j s:Nat},E1.boxes[j]?=some (some (b,s))→w.heap.size≤b:=fun{b j s} h=>by
  rcases Gu b w.heap.size with h'|h'
  ·exact absurd (ev.own b h' (.inl ⟨j,s,h⟩)) N3
  ·exact h'
 have hownx:∀{b:Nat},(E.gain E1).own b→E.own b∨∃j s,E1.boxes[j]?=some (some (b,s)):=fun{b} h=>by
  rcases h with⟨j,s,h⟩|h
  ·rcases Ql h with h|⟨_,h⟩
   ·exact .inl (.inl ⟨j,s,h⟩)
   ·exact .inr ⟨_,s,h⟩
  ·exact .inl (.inr h)
 have ev2:Evol E w (E.gain E1) w' E.boxes.length E.toks.length:=by
  refine⟨rfl,fun j hj hl=>⟨by simp[Env.gain];omega,fun x hx=>by simp only[Env.gain];rw[Cr hl];exact hx⟩,fun t ht k hk=>⟨k,hk,.inl rfl⟩,ev.os,ev.tape,ev.output,ev.size,fun b hb _=>hfar hb,
   fun b o v hm hc=>?_,fun b o hb h=>?_,fun b hb h=>?_,rfl,ev.ty,fun _ _ _ b _ _ _ _ o ho=>by rw[hfar (N6 ho)];exact ho⟩
  ·have hb:=Jf hc;unfold World.cell? at hc⊢;rw[hfar hb];exact hc
  ·rcases h with h|⟨j,s,h⟩|h
   ·exact .inl h
   ·rcases Ql h with h|⟨_,h⟩
    ·exact .inr (.inl ⟨j,s,h⟩)
    ·have:=hge h;omega
   ·exact .inr (.inr h)
  ·rcases hownx h with h|⟨j,s,h⟩
   ·exact h
   ·have:=hge h;omega
 refine⟨ev2,?_⟩;have hnb:=hI.nb;have hnb1:=hI1.nb;have hsl:=hsh.1;exact{
  nb:=by simp[Env.gain];omega
  nt:=hI.nt
  np:=fun j hj=>by
   simp only[Env.gain,Es]at hj⊢;rcases Gu j E.boxes.length with h|h
   ·rw[Cr h];exact hI.np j h
   ·rw[Gj h];exact hI1.np _ (by omega)
  box:=fun j b s rows' h1 h2=>by
   simp only at h2;rcases Ql h1 with h1|⟨hj,h1⟩
   ·have:=Aa h1;rw[Cr (by omega)]at h2;obtain⟨cs',e',hh',hs',hl',hr'⟩:=hI.box j b s rows' h1 h2;exact⟨cs',e',(hfar (hI.own_lt (.inl ⟨j,s,h1⟩))).trans hh',hs',hl',fun k r q x v h3 h4 h5=>(hr' k r q x v h3 h4 h5).step ev2⟩
   ·rw[Gj (by omega),←hnb]at h2;obtain⟨rows,hrw⟩:=Ab S1.boxes (i:=j-E.boxes.length) (by have:=Aa h1;omega);obtain⟨cs,e,hh,hs,hl,hr⟩:=hI1.box _ b s rows h1 hrw;obtain⟨hrl,hrr⟩:=hsh.2 _ _ _ hrw h2;refine⟨cs,e,hh,by rw[hrl];exact hs,fun r hr'=>?_,fun k r q x v h3 h4 h5=>?_⟩
    ·obtain⟨k,hk⟩:=Bw hr';obtain⟨r0,hr0⟩:=Ab rows (i:=k) (by have:=Aa hk;omega);rw[(hrr k r0 r hr0 hk).get.1];exact hl r0 (Bh hr0)
    ·obtain⟨r0,hr0⟩:=Ab rows (i:=k) (by have:=Aa h3;omega);have hrl2:=(hrr k r0 r hr0 h3).get;obtain⟨x0,hx0⟩:=Ab r0 (i:=q) (by have:=Aa h4;omega);refine(hrl2.2 q x0 x hx0 h4).rel (fun b' q' hb'=>?_) (hr k r0 q x0 v hr0 hx0 h5);simp only[Env.gain];rw[Gj (by omega)];simpa using hb'
  tok:=fun t l b c s h=>by
   obtain⟨h1,h0,cs,e,hh,hs⟩:=hI.tok t l b c s h;exact⟨h1,h0,cs,e,(hfar (hI.own_lt (.inr ⟨t,l,c,s,h⟩))).trans hh,hs⟩
  bb:=fun i j b s s' h1 h2=>by
   rcases Ql h1 with h1|⟨hi,h1⟩<;>rcases Ql h2 with h2|⟨hj,h2⟩
   ·exact hI.bb i j b s s' h1 h2
   ·have:=hge h2;have:=hI.own_lt (.inl ⟨i,s,h1⟩);omega
   ·have:=hge h1;have:=hI.own_lt (.inl ⟨j,s',h2⟩);omega
   ·have:=hI1.bb _ _ b s s' h1 h2;omega
  bt:=fun i t b s l c sz' h1 h2=>by
   rcases Ql h1 with h1|⟨hi,h1⟩
   ·exact hI.bt i t b s l c sz' h1 h2
   ·have:=hge h1;have:=hI.own_lt (.inr ⟨t,l,c,sz',h2⟩);omega
  tt:=hI.tt
  frlt:=fun b o h=>⟨fun h'=>by
   rcases hownx h' with h'|⟨j,s,h'⟩
   ·exact(hI.frlt b o h).1 h'
   ·have:=(hI.frlt b o h).2;have:=hge h';omega,Mx (hI.frlt b o h).2 ev.size⟩
  lo:=fun b h=>by
   rcases hownx h with h|⟨j,s,h⟩
   ·exact hI.lo b h
   ·exact hI1.lo b (.inl ⟨j,s,h⟩)
  frlo:=hI.frlo
  sz:=hI1.sz
  glob:=hI1.glob }
def Gives(X:Cx)(f:FuncId)(args:List AV)(P:AV→List (List (List AV))→Prop):Prop:=
 Nq X.P f∧ACalls X f args ⟨[],[]⟩ fun e S'=>∃r,e=.ret r∧P r S'.boxes
theorem Gives.mk{f:FuncId}{fn:Func}{c:Code}{args:List AV}{P:AV→List (List (List AV))→Prop}(hf:X.P.funcs[f]?=some fn)(hb:fn.body=some c)(hl:Nat.ble args.length fn.ntmps=true)(hnm:(fn.name == "runtime.NumGoroutine")=false)
 (h:AK X ⟨f,fn,0,0⟩ [.code c] (Oq 0 args) ⟨[],[]⟩ fun e S'=>∃r,e=.ret r∧P r S'.boxes):Gives X f args P:=
 ⟨⟨fn,hf,hnm,by rw[hb];rfl⟩,Jn (n:=0) (m:=0) (hh:=fun C S' hx=>by obtain⟨r,hx,_⟩:=hx;cases hx) hf hb hl rfl rfl h⟩
theorem Pure.gives{f:FuncId}{args:List AV}{r:AV}(h:Pure X f args r):Gives X f args fun r' bx=>r'=r∧bx=[]:=
 ⟨h.1,fun E w vs h1 h2 h3 h4=>(h.2 E w vs h1 h2 h3 h4).mono fun e w' ⟨E',S',g1,g2,g3⟩=>⟨E',S',g1,g2,by
   cases e with
   |returned v=>obtain⟨r',h1,h2,rfl⟩:=g3;cases h2;exact⟨_,h1,_,rfl,rfl,rfl⟩
   |panicked ch=>obtain⟨h,_⟩:=g3;cases h
   |outgrown=>exact g3⟩⟩
theorem Acg{c:Call}{fo:Operand}{f:FuncId}{caps xs zs ys:List AV}{P:AV→List (List (List AV))→Prop}{F':C3}(hc:Gives X f ys P)(hl:∀t,t∈o.looksAt ops→lk F' t=lk F t)(hI:Inv X E S w)(hF:FR E w F' a N)
 (ho:ops[i]?=some o)(hw:A6 ops F o=some true)(hop:o.op=.call c)(hcal:c.callee=.value fo)(hfo:Dt X F fo=some (.fn f caps))(hx:Hk X F c.args.toList=some xs)(hzs:Kb xs caps=some zs)(ha:FzL S 0 0 zs ys) :
 Does X ops i a w fun v w'=>∃r E1 S1,P r S1.boxes∧Inv X E1 S1 w'∧Evol E.lent w E1 w' 0 0∧Rel E1 w' v r:=by
 obtain⟨l1,l2⟩:=Rt (X:=X) hop hcal hl;have hz:=Ru hzs;obtain⟨vs,h1,h2,h3⟩:=Qg hop hcal hc.1 hI hF (l1.trans hfo) (l2.trans hx);refine Does.call ho (Cm hF (by rw[Cw hl];exact hw)) h1 ((hc.2 E.lent w vs rfl hI.lent (by rw[h2,hz,ha.get.1]) (fun j v y hv hy=>?_)).mono fun e w' he=>?_)
 ·obtain⟨x,hxj⟩:=Ab zs (i:=j) (by have:=Aa hy;rw[ha.get.1]at this;exact this);exact(ha.get.2 j x y hxj hy).lent hI (h3 j v x hv (by rw[hz];exact hxj))
 ·obtain⟨E1,S1,d1,d2,d3⟩:=he;cases e with
  |returned v=>
   obtain⟨r',hr',r,hre,hP⟩:=d3;cases hre;exact⟨v,rfl,_,E1,S1,hP,d1,d2,hr'⟩
  |panicked ch=>obtain⟨r,h,_⟩:=d3;cases h
  |outgrown=>exact d3.elim
theorem Az2{c:Call}{fo:Operand}{f:FuncId}{caps xs zs ys:List AV}{r r':AV}{bx bx':List (List (List AV))}(hc:Gives X f ys fun r0 b0=>r0=r∧b0=bx)(ha:FzL S 0 0 zs ys)(hr:Sh S.boxes.length r r')(hb:ShB S.boxes.length bx bx')
 (ho:ops[i]?=some o:=by rfl)(hw:A6 ops F o=some true:=by rfl)(hop:o.op=.call c:=by rfl)(hcal:c.callee=.value fo:=by rfl)(hfo:Dt X F fo=some (.fn f caps):=by rfl)(hx:Hk X F c.args.toList=some xs:=by rfl)(hzs:Kb xs caps=some zs:=by rfl) :
 Ndo X N ops i o F r' S ⟨S.boxes++bx',S.toks⟩:=by
 intro F' E w a hl hI hF;obtain hd:=Acg hc hl hI hF ho hw hop hcal hfo hx hzs ha;intro b k cs rest;obtain⟨v,w',⟨r0,E1,S1,⟨rfl,rfl⟩,d1,d2,d3⟩,hst⟩:=hd b k cs rest;have nb:=hI.nb;obtain⟨g1,g2⟩:=Ac4 hI d1 d2 (by rw[nb];exact hb);refine⟨v,w',⟨_,g2,g1,hr.rel (fun b' q hq=>?_) d3⟩,hst⟩;simp only[Env.gain];rw[Gj (by omega)];rw[←nb,Ad3];exact hq
theorem Px{c:Call}{fo:Operand}{f:FuncId}{caps xs zs ys:List AV}{r r':AV}(hc:Pure X f ys r)(ha:FzL S 0 0 zs ys)(hr:Sh S.boxes.length r r')
 (ho:ops[i]?=some o:=by rfl)(hw:A6 ops F o=some true:=by rfl)(hop:o.op=.call c:=by rfl)(hcal:c.callee=.value fo:=by rfl)(hfo:Dt X F fo=some (.fn f caps):=by rfl)(hx:Hk X F c.args.toList=some xs:=by rfl)(hzs:Kb xs caps=some zs:=by rfl) :
 Ndo X N ops i o F r' S S:=by
 have h:=Az2 (X:=X) (N:=N) (F:=F) (S:=S) (i:=i) (bx:=[]) (bx':=[]) hc.gives ha hr ⟨rfl,fun i x y hx=>by simp at hx⟩ ho hw hop hcal hfo hx hzs;rw[G4]at h;exact h
theorem P5{l:List Nat}{k:List Item}{c:Call}{fo:Operand}{f:FuncId}{caps xs zs ys:List AV}{P:AV→List (List (List AV))→Prop}(hc:Gives X f ys P)(ha:FzL S 0 0 zs ys)
 (hk:∀r bx,P r bx→∃r' bx',Sh S.boxes.length r r'∧ShB S.boxes.length bx bx'∧AK X B (.inRegion ops l::k) (putF o.dst r' F) ⟨S.boxes++bx',S.toks⟩ R)(ho:ops[i]?=some o:=by rfl)(hw:A6 ops F o=some true:=by rfl)(hop:o.op=.call c:=by rfl)
 (hcal:c.callee=.value fo:=by rfl)(hfo:Dt X F fo=some (.fn f caps):=by rfl)(hx:Hk X F c.args.toList=some xs:=by rfl)(hzs:Kb xs caps=some zs:=by rfl)(hd:D1 B.fn.ntmps o.dst=true:=by rfl) :
 AK X B (.inRegion ops (i::l)::k) F S R:=by
 intro E w a b cs hI hF hn hm hb;have nt:E.toks.length=S.toks.length:=by rw[←hI.nt];simp
 have nb:=hI.nb;obtain⟨v,w',⟨r0,E1,S1,hP,d1,d2,d3⟩,hst⟩:=Acg (F':=F) hc (fun _ _=>rfl) hI hF ho hw hop hcal hfo hx hzs ha b k cs l;obtain⟨r',bx',hr,hbx,hK⟩:=hk _ _ hP;obtain⟨g1,g2⟩:=Ac4 hI d1 d2 (by rw[nb];exact hbx);have hF':=(hF.step g1).putF hd (hr.rel (E':=E.gain E1) (fun b' q hq=>by
  simp only[Env.gain];rw[Gj (by omega)];rw[←nb,Ad3];exact hq) d3)
 rw[ho]at hst;exact Fin.from hst (g1.weaken (by rw[hI.nb];exact hn) (by omega)) (hK _ w' _ b cs g2 hF' (by simp;omega) hm hb)
end
section
variable {X:Cx}{B:Bx}{E E1:Env}{S S1:St}{w w':World}{F:C3}{a:Act}{N:Nat}{R:AE→St→Prop}{ops:Array Oper}{i:Nat}{o:Oper}
def Uv(m sz:Nat):List (List AV):=List.replicate m (List.replicate sz .junk)
theorem Aq1(m sz:Nat):∀r,r∈Uv m sz→r.length=sz:=fun r h=>by rw[Abi h,List.length_replicate]
theorem At2(hI:Inv X E S w){u:Value}{rows:List (List AV)}{t v:Nat}(h:Rel E w u (.psl rows t v))(hS:S.toks[t]?=some v)(hne:rows≠[]) :
 ∃b c sz,E.toks[t]?=some ⟨v,some (b,c,0)⟩∧u=.slice (some ⟨b,0,none⟩) rows.length c∧rows.length≤c∧Agk E w b sz (rows++Uv (c-rows.length) sz):=by
 cases h with
 |psl _ _ _ a n cap k sz vals hn hx hcap hk hv hsz hp hr hf=>
  have hcur:=Y7 hI hk hS;have hp:=hp hcur;obtain⟨kl,ksp⟩:=k;simp only at hcur;subst hcur;subst hn;cases ksp with
  |none=>exact absurd (zzq96.1 hp.1) hne
  |some q=>
   obtain⟨b,c,s⟩:=q;obtain⟨_,rfl,rfl,rfl,cs,e,hh,hcs,hcl⟩:=hp;refine⟨b,c,sz,hk,rfl,hcap,cs,e,hh,by rw[hcs,Es,Uv,List.length_replicate];congr 1;omega,fun r hr'=>?_,fun k r j x v' hk' hj hv'=>?_⟩
   ·rcases zzq47.1 hr' with h|h
    ·exact hsz r h
    ·exact Aq1 _ _ r h
   ·rcases Gu k rows.length with hlt|hge
    ·rw[Cr hlt]at hk';have hjl:j<sz:=by rw[←hsz r (Bh hk')];exact Aa hj
     have:=hcl k j (Aa hk') hjl;rw[this]at hv';cases hv';exact hr k j r x hk' hj
    ·rw[Gj hge]at hk';rw[Abi (Bh hk')]at hj;rw[Abi (Bh hj)];exact .junk v'
def Env.box1(E:Env)(t v b sz:Nat):Env:=⟨E.boxes++[some (b,sz)],E.toks.set t ⟨v+1,none⟩,E.fr,E.df⟩
theorem Aoa(hI:Inv X E S w){u:Value}{rows:List (List AV)}{t v:Nat}(h:Rel E w u (.psl rows t v))(hS:S.toks[t]?=some v)(hne:rows≠[]) :
 ∃E' m sz,Evol E w E' w E.boxes.length E.toks.length∧Inv X E' ⟨S.boxes++[rows++Uv m sz],S.toks.set t (v+1)⟩ w∧(E'.boxes.take E.boxes.length=E.boxes)∧∀u',Rel E w u' (.psl rows t v)→Rel E' w u' (.bsl S.boxes.length rows.length):=by
 obtain⟨b,c,sz,hk,_,_,hbx⟩:=At2 hI h hS hne;have nb:=hI.nb;have hmtx:∀{b' o:Nat},(E.box1 t v b sz).mt b' o→E.mt b' o:=fun{b' o} h=>by
  rcases h with h|⟨j,s,h⟩|⟨t',l,c',s,h,hl⟩
  ·exact .inl h
  ·rcases getElem?_snoc h with h|⟨_,h⟩
   ·exact .inr (.inl ⟨j,s,h⟩)
   ·cases h;exact .inr (.inr ⟨t,v,c,0,hk,by omega⟩)
  ·rcases Ep h with⟨_,h⟩|⟨_,h⟩
   ·cases h
   ·exact .inr (.inr ⟨t',l,c',s,h,hl⟩)
 have hownx:∀{b':Nat},(E.box1 t v b sz).own b'→E.own b':=fun{b'} h=>by
  rcases h with⟨j,s,h⟩|⟨t',l,c',s,h⟩
  ·rcases getElem?_snoc h with h|⟨_,h⟩
   ·exact .inl ⟨j,s,h⟩
   ·cases h;exact .inr ⟨t,v,c,0,hk⟩
  ·rcases Ep h with⟨_,h⟩|⟨_,h⟩
   ·cases h
   ·exact .inr ⟨t',l,c',s,h⟩
 have ev:Evol E w (E.box1 t v b sz) w E.boxes.length E.toks.length:=by
  refine⟨rfl,fun j hj hl=>⟨by simp[Env.box1];omega,fun x hx=>getElem?_snoc_left hx⟩,fun t' ht k hk'=>?_,rfl,rfl,rfl,Bo _,fun _ _ _=>rfl,fun _ _ _ _ h=>h,fun _ _ _ h=>hmtx h,fun _ _ h=>hownx h,rfl,fun _ _ h=>h,fun _ _ _ _ _ _ _ _ _ h=>h⟩;by_cases he:t'=t
  ·subst he;rw[hk]at hk';cases hk';exact⟨⟨v+1,none⟩,by simp[Env.box1,ht],.inr (by simp)⟩
  ·exact⟨k,by simp only[Env.box1];rw[Fj (Ne.symm he)];exact hk',.inl rfl⟩
 have hbx':∀{b' s:Nat} {rows':List (List AV)},Agk E w b' s rows'→Agk (E.box1 t v b sz) w b' s rows':=fun{b' s rows'} ⟨cs,e,h1,h2,h3,h4⟩=>⟨cs,e,h1,h2,h3,fun k r j x v' g1 g2 g3=>(h4 k r j x v' g1 g2 g3).step ev⟩
 refine⟨E.box1 t v b sz,c-rows.length,sz,ev,?_,by simp[Env.box1],fun u' hu'=>?_⟩
 ·exact{
   nb:=by simp[Env.box1,nb]
   nt:=by simp only[Env.box1,Zf,hI.nt]
   np:=fun j hj=>by
    simp only[Env.box1,Es,Zb]at hj⊢;rcases Gu j E.boxes.length with h|h
    ·rw[Cr h];exact hI.np j h
    ·have:j=E.boxes.length:=by omega
     subst this;exact⟨_,getElem?_snoc_new _ _⟩
   box:=fun j b' s rows' h1 h2=>by
    rcases getElem?_snoc h1 with h1|⟨hj,h1⟩
    ·rcases getElem?_snoc h2 with h2|⟨hj,_⟩
     ·exact hbx' (hI.box j b' s rows' h1 h2)
     ·have:=Aa h1;omega
    ·cases h1;rcases getElem?_snoc h2 with h2|⟨_,h2⟩
     ·have:=Aa h2;omega
     ·subst h2;exact hbx' hbx
   tok:=fun t' l b' c' s h=>by
    rcases Ep h with⟨_,h⟩|⟨_,h⟩
    ·cases h
    ·exact hI.tok t' l b' c' s h
   bb:=fun i j b' s s' h1 h2=>by
    rcases getElem?_snoc h1 with h1|⟨hi,h1⟩<;>rcases getElem?_snoc h2 with h2|⟨hj,h2⟩
    ·exact hI.bb i j b' s s' h1 h2
    ·cases h2;exact(hI.bt _ _ _ _ _ _ _ h1 hk).elim
    ·cases h1;exact(hI.bt _ _ _ _ _ _ _ h2 hk).elim
    ·omega
   bt:=fun i t' b' s l c' s' h1 h2=>by
    rcases Ep h2 with⟨_,h2⟩|⟨ht,h2⟩
    ·cases h2
    ·rcases getElem?_snoc h1 with h1|⟨hi,h1⟩
     ·exact hI.bt i t' b' s l c' s' h1 h2
     ·cases h1;exact ht (hI.tt _ _ _ _ _ _ _ _ _ h2 hk)
   tt:=fun i j b' l c' s l' c'' s' h1 h2=>by
    rcases Ep h1 with⟨_,h1⟩|⟨_,h1⟩
    ·cases h1
    ·rcases Ep h2 with⟨_,h2⟩|⟨_,h2⟩
     ·cases h2
     ·exact hI.tt i j b' l c' s l' c'' s' h1 h2
   frlt:=fun b' o h=>⟨fun h'=>(hI.frlt b' o h).1 (hownx h'),(hI.frlt b' o h).2⟩
   lo:=fun b' h=>hI.lo b' (hownx h)
   frlo:=hI.frlo
   sz:=hI.sz
   glob:=hI.glob }
 ·obtain⟨b2,c2,s2,hk2,rfl,hc2,_⟩:=At2 hI hu' hS hne;rw[hk]at hk2;cases hk2;exact .bsl _ b sz _ c (by rw[←nb];exact getElem?_snoc_new _ _) hc2
theorem Akn{K:List Item}(d:Nat){rows:List (List AV)}{t v m n:Nat}{tk:List Nat}(hne:rows≠[])(hk:∀k sz,AK X B K ((d,.bsl m n)::F) ⟨S.boxes++[rows++Uv k sz],tk⟩ R)(hd:lk F d=some (.psl rows t v):=by rfl)(hS:S.toks[t]?=some v:=by rfl)
 (hm:S.boxes.length=m:=by rfl)(hn:rows.length=n:=by rfl)(htk:S.toks.set t (v+1)=tk:=by rfl):AK X B K F S R:=by
 subst hm;subst hn;subst htk;intro E w a b cs hI hF hn hm hb;obtain⟨u,hu,hr⟩:=hF.rel d _ hd;obtain⟨E',k0,z0,ev,hI',_,hrel⟩:=Aoa hI hr hS hne;have nt:E.toks.length=S.toks.length:=by rw[←hI.nt];simp
 have hF':FR E' w ((d,.bsl S.boxes.length rows.length)::F) a B.fn.ntmps:=by
  have h0:=hF.step ev;refine⟨h0.size,h0.nod,fun k x hx=>?_⟩;rw[J1]at hx;split at hx
  ·rename_i hdk;cases hx;subst hdk;exact⟨u,hu,hrel u hr⟩
  ·exact h0.rel k x hx
 exact Fin.from (Steps.refl _ _) (ev.weaken (by rw[hI.nb];exact hn) (by omega)) (hk k0 z0 E' w a b cs hI' hF' (by simp;omega) (by simp;omega) hb)
theorem Avm{K:List Item}(b r j:Nat){brows:List (List AV)}{cs:List AV}{rows:List (List AV)}{t v m n:Nat}{bx:List (List (List AV))}{tk:List Nat}(hne:rows≠[])(hk:∀k sz,AK X B K F ⟨bx++[rows++Uv k sz],tk⟩ R)(hb:S.boxes[b]?=some brows:=by rfl)(hr:brows[r]?=some cs:=by rfl)
 (hc:cs[j]?=some (.psl rows t v):=by rfl)(hS:S.toks[t]?=some v:=by rfl)(hm:S.boxes.length=m:=by rfl)(hn:rows.length=n:=by rfl)(hbx:S.boxes.set b (brows.set r (cs.set j (.bsl m n)))=bx:=by rfl)(htk:S.toks.set t (v+1)=tk:=by rfl) :
 AK X B K F S R:=by
 subst hm;subst hn;subst hbx;subst htk;intro E w a b' cs' hI hF hn hm hb';have hbl:=Aa hb;have nb:=hI.nb;obtain⟨⟨blk,sz⟩,hB⟩:=hI.np b (by omega);obtain⟨arr,e,hh,hs,hl,hrel0⟩:=hI.box b blk sz brows hB hb;have hrl:=Aa hr;have hjl:j<sz:=by rw[←hl cs (Bh hr)];exact Aa hc
 have hin:=Ig (sz:=sz) hrl hjl;obtain⟨u,hu⟩:=Kt arr (i:=r*sz+j) (by omega);have hur:=hrel0 r cs j _ u hr hc hu;obtain⟨E',k0,z0,ev,hI',hpre,hrel⟩:=Aoa hI hur hS hne;have nt:E.toks.length=S.toks.length:=by rw[←hI.nt];simp
 have hI2:Inv X E' ⟨S.boxes.set b (brows.set r (cs.set j (.bsl S.boxes.length rows.length)))++[rows++Uv k0 z0],S.toks.set t (v+1)⟩ w:=
  { hI' with
    nb:=by have:=hI'.nb;simpa using this
    box:=fun i blk' sz' rows' h1 h2=>by
     rcases Gu i S.boxes.length with hi|hi
     ·rw[Cr (by simpa using hi)]at h2;rcases Ep h2 with⟨rfl,rfl⟩|⟨_,h2⟩
      ·have h3:=hI'.box i blk' sz' brows h1 (by rw[Cr hi];exact hb);have h1o:E.boxes[i]?=some (some (blk',sz')):=by
        rw[←hpre,Ma,if_pos (by omega)];exact h1
       rw[hB]at h1o;cases h1o;obtain⟨arr1,e1,g1,g2,g3,g4⟩:=h3;rw[hh]at g1;cases g1;refine⟨arr,e,hh,by simpa using g2,fun q hq=>?_,fun k q p x v' hk' hp hv=>?_⟩
       ·rcases Wr hq with hq|rfl
        ·exact g3 q hq
        ·simpa using g3 cs (Bh hr)
       ·rcases Ep hk' with⟨rfl,rfl⟩|⟨_,hk'⟩
        ·rcases Ep hp with⟨rfl,rfl⟩|⟨_,hp⟩
         ·rw[hu]at hv;cases hv;exact hrel _ hur
         ·exact g4 k cs p x v' hr hp hv
        ·exact g4 k q p x v' hk' hp hv
      ·exact hI'.box i blk' sz' rows' h1 (by rw[Cr hi];exact h2)
     ·rw[Gj (by simpa using hi)]at h2;exact hI'.box i blk' sz' rows' h1 (by rw[Gj hi];simpa using h2) }
 exact Fin.from (Steps.refl _ _) (ev.weaken (by rw[hI.nb];exact hn) (by omega)) (hk k0 z0 E' w a b' cs' hI2 (hF.step ev) (by simp;omega) (by simp;omega) hb')
def Runs(X:Cx)(f:FuncId)(args:List AV)(S:St)(P:AV→St→Prop):Prop:=
 Nq X.P f∧ACalls X f args S fun e S'=>∃r,e=.ret r∧P r S'
theorem Runs.mk{f:FuncId}{fn:Func}{c:Code}{args:List AV}{P:AV→St→Prop}(hf:X.P.funcs[f]?=some fn)(hb:fn.body=some c)(hl:Nat.ble args.length fn.ntmps=true)(hnm:(fn.name == "runtime.NumGoroutine")=false)
 (h:AK X ⟨f,fn,S.boxes.length,S.toks.length⟩ [.code c] (Oq 0 args) S fun e S'=>∃r,e=.ret r∧P r S'):Runs X f args S P:=
 ⟨⟨fn,hf,hnm,by rw[hb];rfl⟩,Jn (n:=S.boxes.length) (m:=S.toks.length) (hh:=fun C S' hx=>by obtain⟨r,hx,_⟩:=hx;cases hx) hf hb hl rfl rfl h⟩
def Env.all_(E:Env):Env:=⟨E.boxes,E.toks,E.fr,[]⟩
theorem Rel.df{E E':Env}{v:Value}{x:AV}(h:Rel E w v x)(hb:E'.boxes=E.boxes)(ht:E'.toks=E.toks)(hf:E'.fr=E.fr):Rel E' w v x:=by
 refine h.move (n:=E.boxes.length) (m:=E.toks.length) (fun i _ hi=>by rw[hb];exact⟨hi,fun x h=>h⟩) (fun t _ k hk=>⟨k,by rw[ht];exact hk,.inl rfl⟩) (fun _ _ _ _ h=>h) (fun b o _ h=>?_) (fun _ _ h=>h) (fun _ _ _ _ _ _ _ _ _ h=>h) h.ok;unfold Env.mt at h⊢;rw[hb,ht,hf]at h;exact h
theorem Inv.df{E':Env}(h:Inv X E S w)(hb:E'.boxes=E.boxes)(ht:E'.toks=E.toks)(hf:E'.fr=E.fr):Inv X E' S w where
 nb:=by rw[hb];exact h.nb
 nt:=by rw[ht];exact h.nt
 np:=by rw[hb];exact h.np
 box i b sz rows h1 h2:=by
  rw[hb]at h1;obtain⟨cs,e,g1,g2,g3,g4⟩:=h.box i b sz rows h1 h2;exact⟨cs,e,g1,g2,g3,fun k r j x v a1 a2 a3=>(g4 k r j x v a1 a2 a3).df hb ht hf⟩
 tok:=by rw[ht];exact h.tok
 bb:=by rw[hb];exact h.bb
 bt:=by rw[hb,ht];exact h.bt
 tt:=by rw[ht];exact h.tt
 frlt b o g:=by
  have:=h.frlt b o (by rw[←hf];exact g);unfold Env.own at this⊢;rw[hb,ht];exact this
 lo b g:=h.lo b (by unfold Env.own at g⊢;rw[←hb,←ht];exact g)
 frlo b o g:=h.frlo b o (by rw[←hf];exact g)
 sz:=h.sz
 glob:=h.glob
theorem Gz{l:List Nat}{k:List Item}{c:Call}{fo:Operand}{f:FuncId}{caps xs zs:List AV}{P:AV→St→Prop}(hc:Runs X f zs S P)(hk:∀r S',P r S'→S.boxes.length≤S'.boxes.length→S.toks.length≤S'.toks.length→AK X B (.inRegion ops l::k) (putF o.dst r F) S' R)
 (ho:ops[i]?=some o:=by rfl)(hw:A6 ops F o=some true:=by rfl)(hop:o.op=.call c:=by rfl)
 (hcal:c.callee=.value fo:=by rfl)(hfo:Dt X F fo=some (.fn f caps):=by rfl)(hx:Hk X F c.args.toList=some xs:=by rfl)(hzs:Kb xs caps=some zs:=by rfl)(hd:D1 B.fn.ntmps o.dst=true:=by rfl) :
 AK X B (.inRegion ops (i::l)::k) F S R:=by
 intro E w a b cs hI hF hn hm hb;have nt:E.toks.length=S.toks.length:=by rw[←hI.nt];simp
 have nb:=hI.nb;have hz:=Ru hzs;obtain⟨vs,h1,h2,h3⟩:=Qg hop hcal hc.1 hI hF hfo hx;have hdo:Does X ops i a w fun v w'=>∃r E' S',P r S'∧Inv X E' S' w'∧Evol E w E' w' E.boxes.length E.toks.length∧Rel E' w' v r:=by
  refine Does.call ho (Cm hF hw) h1 ((hc.2 E.all_ w vs rfl (hI.df rfl rfl rfl) (by rw[h2,hz]) (fun j v y hv hy=>?_)).mono fun e w' he=>?_)
  ·exact(h3 j v y hv (by rw[hz];exact hy)).df rfl rfl rfl
  ·obtain⟨E1,S1,d1,d2,d3⟩:=he;cases e with
   |returned v=>
    obtain⟨r',hr',r,hre,hP⟩:=d3;cases hre;have ev:Evol E w ⟨E1.boxes,E1.toks,E1.fr,E.df⟩ w' E.boxes.length E.toks.length:=by
     have d2':=d2;rw[←nb,←nt]at d2';exact{ d2' with df:=rfl }
    exact⟨v,rfl,_,⟨E1.boxes,E1.toks,E1.fr,E.df⟩,S1,hP,d1.df rfl rfl rfl,ev,hr'.df rfl rfl rfl⟩
   |panicked ch=>obtain⟨r,h,_⟩:=d3;cases h
   |outgrown=>exact d3.elim
 obtain⟨v,w',⟨r,E',S',hP,g1,g2,g3⟩,g4⟩:=hdo b k cs l;have hF':=(hF.step g2).putF hd g3;have hlen:=g2.len;have nt':E'.toks.length=S'.toks.length:=by rw[←g1.nt];simp
 have nb':=g1.nb;rw[ho]at g4;exact Fin.from g4 (g2.weaken (by omega) (by omega)) (hk r S' hP (by omega) (by omega) E' w' _ b cs g1 hF' (by omega) (by omega) hb)
end
section
variable {X:Cx}{B:Bx}{S:St}{F:C3}{R:AE→St→Prop}
theorem Ju{c:Code}{k:List Item}{ι:Type}(I:ι→Prop)(st:ι→C3)(ss:ι→St)(μ:ι→Nat)
 (hstep:∀i,I i→(∀j,I j→μ j<μ i→∀F' S',Sub (st j) F'→S'=ss j→AK X B (.inLoop c::k) F' S' R)→AK X B (.code c::.inLoop c::k) (st i) (ss i) R)
 (i0:ι)(h0:I i0)(hF:Sub (st i0) F)(hS:S=ss i0):AK X B (.code (.loop c)::k) F S R:=by
 have key:∀(q:Nat) (i:ι),μ i<q→I i→AK X B (.code c::.inLoop c::k) (st i) (ss i) R:=by
  intro q
  induction q with
  |zero=>intro i h;omega
  |succ q ih=>
   intro i h hi;refine hstep i hi fun j hj hlt F' S' h1 h2=>?_;subst h2;exact P4 (Tq h1 (ih j (by omega) hj))
 subst hS;exact Rj (Tq hF (key _ i0 (Ad6 _) h0))
section
variable {ops:Array Oper}{i:Nat}{o:Oper}{l:List Nat}{k K:List Item}{F':C3}{S2:St}{p q:Operand}
def A4h(X:Cx)(F:C3):List Item→Bool
 |.inRegion ops (i::_)::_=>match ops[i]? with
  |some o=>match o.op with
   |.alloc _=>true
   |.box _ _=>true
   |.store _ p _=>match Dt X F p with
    |some (.ptr _ _ _)=>true
    |_=>false
   |.load _ p=>match Dt X F p with
    |some (.ptr _ _ _)=>true
    |_=>false
   |_=>false
  |none=>true
 |_=>false
def ev0(X:Cx)(N:Nat):Nat→List Item→C3→St→List Item×C3×St
 |0,K,F,S=>(K,F,S)
 |n+1,K,F,S=>match A4h X F K with
  |true=>(K,F,S)
  |false=>match Go.V.ev X N 1 K F S with
   |(K',F',S')=>ev0 X N n K' F' S'
theorem Bq{K':List Item}{F':C3}{S':St}:∀(n:Nat){K:List Item}{F:C3}{S:St},ev0 X B.fn.ntmps n K F S=(K',F',S')→AK X B K' F' S' R→AK X B K F S R
 |0,K,F,S,h,hk=>by simp only[ev0]at h;cases h;exact hk
 |n+1,K,F,S,h,hk=>by
  simp only[ev0]at h;split at h
  ·cases h;exact hk
  ·rcases hq:Go.V.ev X B.fn.ntmps 1 K F S with⟨K1,F1,S1⟩
   rw[hq]at h;exact Bj 1 hq (Bq n h hk)
theorem Mi{t b:Nat}{y:Ty}{bx:List (List (List AV))}(hb:S.boxes.length=b)(hbx:S.boxes++[[y.zero]]=bx)(hk:AK X B K F' S2 R)(ho:ops[i]?=some o:=by rfl)(hw:A6 ops F o=some true:=by rfl)(hop:o.op=.alloc t:=by rfl)(hy:X.ty t=some y:=by rfl)
 (hd:D1 B.fn.ntmps o.dst=true:=by rfl)(he:ev0 X B.fn.ntmps 60 (.inRegion ops l::k) (putF o.dst (.ptr b 0 0) F) ⟨bx,S.toks⟩=(K,F',S2):=by rfl):AK X B (.inRegion ops (i::l)::k) F S R:=by
 subst hb;subst hbx;refine G9 (Ls ho hw ?_) ho hd (Bq 60 he hk);rw[hop];obtain⟨y1,y2,y3,y4⟩:=y;simp only[Kg,hy,Q4,Jz]
theorem Wx{t b:Nat}{x:AV}{cs:List AV}{bx:List (List (List AV))}(hb:S.boxes.length=b)(hbx:S.boxes++[[cs]]=bx)(hk:AK X B K F' S2 R)(ho:ops[i]?=some o:=by rfl)(hw:A6 ops F o=some true:=by rfl)(hop:o.op=.box t p:=by rfl)(hp:Dt X F p=some x:=by rfl)(hc:cellsOf x=some cs:=by rfl)
 (hd:D1 B.fn.ntmps o.dst=true:=by rfl)(he:ev0 X B.fn.ntmps 60 (.inRegion ops l::k) (putF o.dst (.ptr b 0 0) F) ⟨bx,S.toks⟩=(K,F',S2):=by rfl):AK X B (.inRegion ops (i::l)::k) F S R:=by
 subst hb;subst hbx;refine G9 (Ls ho hw ?_) ho hd (Bq 60 he hk);rw[hop];simp only[Kg,hp,hc,Q4,Jz]
theorem Rk{t b r f:Nat}{y:Ty}{x:AV}{xs cs cs':List AV}{rows:List (List AV)}{bx:List (List (List AV))}(hb:S.boxes[b]?=some rows)(hr:rows[r]?=some cs)(hbx:S.boxes.set b (rows.set r cs')=bx)(hk:AK X B K F' S2 R)(ho:ops[i]?=some o:=by rfl)(hw:A6 ops F o=some true:=by rfl)
 (hop:o.op=.store t p q:=by rfl)(hp:Dt X F p=some (.ptr b r f):=by rfl)(hq:Dt X F q=some x:=by rfl)(hy:X.ty t=some y:=by rfl)(hc:cellsOf x=some xs:=by rfl)(hl:Nat.beq xs.length y.size=true:=by rfl)
 (hput:∀g:List AV→Option St,Wb cs f xs g=g cs':=by intro;rfl)(hd:D1 B.fn.ntmps o.dst=true:=by rfl)(he:ev0 X B.fn.ntmps 60 (.inRegion ops l::k) (putF o.dst .junk F) ⟨bx,S.toks⟩=(K,F',S2):=by rfl):AK X B (.inRegion ops (i::l)::k) F S R:=by
 subst hbx;refine G9 (A8 ho hw hop hy hp hq ?_) ho hd (Bq 60 he hk);obtain⟨bx,tk⟩:=S;simp only at hb;simp only[Ux,hc,hl,H7,hb,hr,hput];rw[Sy _ _ _ _ (Aa hr),Sy _ _ _ _ (Aa hb)]
theorem Lo{t b r f:Nat}{y:Ty}{x:AV}{cs:List AV}{rows:List (List AV)}(hb:S.boxes[b]?=some rows)(hr:rows[r]?=some cs)(hk:AK X B K F' S2 R)(ho:ops[i]?=some o:=by rfl)(hw:A6 ops F o=some true:=by rfl)
 (hop:o.op=.load t p:=by rfl)(hp:Dt X F p=some (.ptr b r f):=by rfl)(hy:X.ty t=some y:=by rfl)(hx:(Ou f cs fun c=>Ni y.size c fun c'=>V6 (Gd y.k) c')=some x:=by rfl)
 (hd:D1 B.fn.ntmps o.dst=true:=by rfl)(he:ev0 X B.fn.ntmps 60 (.inRegion ops l::k) (putF o.dst x F) S=(K,F',S2):=by rfl):AK X B (.inRegion ops (i::l)::k) F S R:=by
 refine G9 (Cn ho hw ?_) ho hd (Bq 60 he hk);rw[hop];simp only[Ec,Q0,hy,hp,Tf,H7,hb,hr];exact hx
theorem Lm{t e b n:Nat}{ik:IntKind}{y ye:Ty}{rows:List (List AV)}{r:List AV}(j:Nat)(hj:j<n)(hb:S.boxes[b]?=some rows)(hr:rows[j]?=some r)(hl:r.length=ye.size)(hk:AK X B K F' S2 R)(ho:ops[i]?=some o:=by rfl)(hw:A6 ops F o=some true:=by rfl)
 (hop:o.op=.indexAddr t p q:=by rfl)(hp:Dt X F p=some (.bsl b n):=by rfl)(hq:Dt X F q=some (.val (.int ik j)):=by rfl)(hy:X.ty t=some y:=by rfl)(hyk:y.k=.slc e:=by rfl)(hye:X.ty e=some ye:=by rfl)
 (hd:D1 B.fn.ntmps o.dst=true:=by rfl)(he:ev0 X B.fn.ntmps 60 (.inRegion ops l::k) (putF o.dst (.ptr b j 0) F) S=(K,F',S2):=by rfl):AK X B (.inRegion ops (i::l)::k) F S R:=
 G9 (F8 (j:=j) ho hw hop hp hq hy hyk hye (by simpa[Fs]using hj) hb hr hl) ho hd (Bq 60 he hk)
theorem Kp{N t b r f:Nat}{y:Ty}{x:AV}{cs:List AV}{rows:List (List AV)}(hb:S.boxes[b]?=some rows)(hr:rows[r]?=some cs)(ho:ops[i]?=some o:=by rfl)(hw:A6 ops F o=some true:=by rfl)
 (hop:o.op=.load t p:=by rfl)(hp:Dt X F p=some (.ptr b r f):=by rfl)(hy:X.ty t=some y:=by rfl)(hx:(Ou f cs fun c=>Ni y.size c fun c'=>V6 (Gd y.k) c')=some x:=by rfl):Ndo X N ops i o F x S S:=by
 refine Cn ho hw ?_;rw[hop];simp only[Ec,Q0,hy,hp,Tf,H7,hb,hr];exact hx
theorem Pe{N t b:Nat}{y:Ty}{bx:List (List (List AV))}(hb:S.boxes.length=b)(hbx:S.boxes++[[y.zero]]=bx)(ho:ops[i]?=some o:=by rfl)(hw:A6 ops F o=some true:=by rfl)(hop:o.op=.alloc t:=by rfl)(hy:X.ty t=some y:=by rfl) :
 Ndo X N ops i o F (.ptr b 0 0) S ⟨bx,S.toks⟩:=by
 subst hb;subst hbx;refine Ls ho hw ?_;rw[hop];obtain⟨y1,y2,y3,y4⟩:=y;simp only[Kg,hy,Q4,Jz]
theorem Jw{N t b r f:Nat}{y:Ty}{x:AV}{xs cs cs':List AV}{rows:List (List AV)}{bx:List (List (List AV))}(hb:S.boxes[b]?=some rows)(hr:rows[r]?=some cs)(hbx:S.boxes.set b (rows.set r cs')=bx)(ho:ops[i]?=some o:=by rfl)(hw:A6 ops F o=some true:=by rfl)
 (hop:o.op=.store t p q:=by rfl)(hp:Dt X F p=some (.ptr b r f):=by rfl)(hq:Dt X F q=some x:=by rfl)(hy:X.ty t=some y:=by rfl)(hc:cellsOf x=some xs:=by rfl)(hl:Nat.beq xs.length y.size=true:=by rfl)
 (hput:∀g:List AV→Option St,Wb cs f xs g=g cs':=by intro;rfl):Ndo X N ops i o F .junk S ⟨bx,S.toks⟩:=by
 subst hbx;refine A8 ho hw hop hy hp hq ?_;obtain⟨bx,tk⟩:=S;simp only at hb;simp only[Ux,hc,hl,H7,hb,hr,hput];rw[Sy _ _ _ _ (Aa hr),Sy _ _ _ _ (Aa hb)]
theorem Akw{N t m e:Nat}{ps:Array (Nat×Operand)}{y ye:Ty}{r:AV}(ho:ops[i]?=some o:=by rfl)(hw:A6 ops F o=some true:=by rfl)(hop:o.op=.build t ps:=by rfl)(hy:X.ty t=some y:=by rfl)(hk:y.k=.arr m e:=by rfl)(hye:X.ty e=some ye:=by rfl)
 (h:Yq X F ((List.range m).map fun i=>(i*ye.size,ye.size)) ps.toList y.zero=some r:=by rfl):Ndo X N ops i o F r S S:=by
 intro F' E w a hl hI hF;have hlo:=Gs hl;rw[hop]at hlo;obtain⟨d,hd,hdd⟩:=(X.ty_ok t y hy).agg;simp only[hk]at hdd;obtain⟨rfl,ye',hye',_⟩:=hdd;rw[hye]at hye';cases hye';obtain⟨ze,_,_,_,ie,hie,_,hies,_⟩:=I6 hye w;obtain⟨z,_,hzc,_,i',hi,hiz,his,_⟩:=I6 hy w;obtain⟨cells,hc,hr⟩:=Xe hI hF (fs:=(List.range m).map fun i=>(i*ye.size,ye.size)) (place:=fun i=>some (i*ie.size,ie.size)) (fun j p hp=>by
  rw[H7,Gm]at hp;cases hj:(List.range m)[j]? with
  |none=>rw[hj]at hp;cases hp
  |some q=>
   rw[hj]at hp;cases hp;obtain⟨h1,h2⟩:=zzq107.1 hj;rw[List.getElem_range]at h2;subst h2;rw[hies]) ps.toList z.cells y.zero r (V5 hzc) (by rw[Xd fun t ht=>hlo t (by simpa[Op.operands]using ht)];exact h)
 have hrun:=run_build (P:=X.P) w t (ps.map fun(i,x)=>(i,a.eval x)) cells (by simp only[Program.built,hi,hd,hiz,hie];simpa using hc);exact Does.val ho (Cm hF (by rw[Cw hl];exact hw)) (by simp[execOp,hop,hrun]) (.inl rfl) ⟨E,hI,Evol.refl _ _ _ _,hr⟩
theorem Aw{t b f:Nat}{y:Ty}{x:AV}{cs:List AV}(hb:S.boxes[b]?=some [cs])(hk:AK X B K F' S2 R)(ho:ops[i]?=some o:=by rfl)(hw:A6 ops F o=some true:=by rfl)
 (hop:o.op=.load t p:=by rfl)(hp:Dt X F p=some (.ptr b 0 f):=by rfl)(hy:X.ty t=some y:=by rfl)(hx:(Ou f cs fun c=>Ni y.size c fun c'=>V6 (Gd y.k) c')=some x:=by rfl)
 (hd:D1 B.fn.ntmps o.dst=true:=by rfl)(he:ev0 X B.fn.ntmps 60 (.inRegion ops l::k) (putF o.dst x F) S=(K,F',S2):=by rfl):AK X B (.inRegion ops (i::l)::k) F S R:=
 Lo hb rfl hk ho hw hop hp hy hx hd he
theorem Aq{N t b f:Nat}{y:Ty}{x:AV}{cs:List AV}(hb:S.boxes[b]?=some [cs])(ho:ops[i]?=some o:=by rfl)(hw:A6 ops F o=some true:=by rfl)
 (hop:o.op=.load t p:=by rfl)(hp:Dt X F p=some (.ptr b 0 f):=by rfl)(hy:X.ty t=some y:=by rfl)(hx:(Ou f cs fun c=>Ni y.size c fun c'=>V6 (Gd y.k) c')=some x:=by rfl):Ndo X N ops i o F x S S:=
 Kp hb rfl ho hw hop hp hy hx
theorem Cd{t b f:Nat}{y:Ty}{x:AV}{xs cs cs':List AV}{bx:List (List (List AV))}(hb:S.boxes[b]?=some [cs])(hbx:S.boxes.set b [cs']=bx)(hk:AK X B K F' S2 R)(ho:ops[i]?=some o:=by rfl)(hw:A6 ops F o=some true:=by rfl)
 (hop:o.op=.store t p q:=by rfl)(hp:Dt X F p=some (.ptr b 0 f):=by rfl)(hq:Dt X F q=some x:=by rfl)(hy:X.ty t=some y:=by rfl)(hc:cellsOf x=some xs:=by rfl)(hl:Nat.beq xs.length y.size=true:=by rfl)
 (hput:∀g:List AV→Option St,Wb cs f xs g=g cs':=by intro;rfl)(hd:D1 B.fn.ntmps o.dst=true:=by rfl)(he:ev0 X B.fn.ntmps 60 (.inRegion ops l::k) (putF o.dst .junk F) ⟨bx,S.toks⟩=(K,F',S2):=by rfl):AK X B (.inRegion ops (i::l)::k) F S R:=
 Rk (r:=0) (cs:=cs) (cs':=cs') hb rfl hbx hk ho hw hop hp hq hy hc hl hput hd he
theorem Bs{t:Nat}{x y:Code}{e:Bool}(h2:AK X B K F' S2 R)(hc:lk F t=some (.val (.bool e)):=by rfl)
 (he2:ev0 X B.fn.ntmps 60 (.code y::k) ((t,.lit false)::F) S=(K,F',S2):=by rfl)(ht:e=false:=by rfl):AK X B (.code (.cond (.tmp t) x y)::k) F S R:=
 N0 hc (fun h=>by rw[ht]at h;cases h) (fun _=>Bq 60 he2 h2)
theorem Dm{t:Nat}{x y:Code}{e:Bool}(h1:AK X B K F' S2 R)(hc:lk F t=some (.val (.bool e)):=by rfl)
 (he1:ev0 X B.fn.ntmps 60 (.code x::k) ((t,.lit true)::F) S=(K,F',S2):=by rfl)(ht:e=true:=by rfl):AK X B (.code (.cond (.tmp t) x y)::k) F S R:=
 N0 hc (fun _=>Bq 60 he1 h1) (fun h=>by rw[ht]at h;cases h)
theorem F4{t:Nat}{x y:Code}{e:Bool}{K1 K2:List Item}{F1 F2:C3}{S1:St}(h1:e=true→AK X B K1 F1 S1 R)(h2:e=false→AK X B K2 F2 S2 R)(hc:lk F t=some (.val (.bool e)):=by rfl)
 (he1:ev0 X B.fn.ntmps 60 (.code x::k) ((t,.lit true)::F) S=(K1,F1,S1):=by rfl)(he2:ev0 X B.fn.ntmps 60 (.code y::k) ((t,.lit false)::F) S=(K2,F2,S2):=by rfl):AK X B (.code (.cond (.tmp t) x y)::k) F S R:=
 N0 hc (fun h=>Bq 60 he1 (h1 h)) (fun h=>Bq 60 he2 (h2 h))
theorem Om{t j:Nat}{want e:Bool}{oj:Oper}(h2:AK X B K F' S2 R)(ho:ops[i]?=some o:=by rfl)(hg:o.guard=some (j,want):=by rfl)
 (hj:ops[j]?=some oj:=by rfl)(hd:oj.dst=some t:=by rfl)(hc:lk F t=some (.val (.bool e)):=by rfl)(he2:ev0 X B.fn.ntmps 60 (.inRegion ops (i::l)::k) ((t,.lit true)::F) S=(K,F',S2):=by rfl)(ht:e=true:=by rfl) :
 AK X B (.inRegion ops (i::l)::k) F S R:=
 X0 hc (fun _=>Bq 60 he2 h2) (fun h=>by rw[ht]at h;cases h)
theorem Nn{t j:Nat}{want e:Bool}{oj:Oper}(h2:AK X B K F' S2 R)(ho:ops[i]?=some o:=by rfl)(hg:o.guard=some (j,want):=by rfl)
 (hj:ops[j]?=some oj:=by rfl)(hd:oj.dst=some t:=by rfl)(hc:lk F t=some (.val (.bool e)):=by rfl)(he2:ev0 X B.fn.ntmps 60 (.inRegion ops (i::l)::k) ((t,.lit false)::F) S=(K,F',S2):=by rfl)(ht:e=false:=by rfl) :
 AK X B (.inRegion ops (i::l)::k) F S R:=
 X0 hc (fun h=>by rw[ht]at h;cases h) (fun _=>Bq 60 he2 h2)
theorem G8{c:Call}{fo:Operand}{f:FuncId}{caps xs zs ys:List AV}{r:AV}(hc:Pure X f ys r)(hk:AK X B K F' S2 R)(ho:ops[i]?=some o:=by rfl)(hw:A6 ops F o=some true:=by rfl)
 (hop:o.op=.call c:=by rfl)(hcal:c.callee=.value fo:=by rfl)(hfo:Dt X F fo=some (.fn f caps):=by rfl)(hx:Hk X F c.args.toList=some xs:=by rfl)(hzs:Kb xs caps=some zs:=by rfl)
 (hd:D1 B.fn.ntmps o.dst=true:=by rfl) [hs:RinL [] [] zs ys] [hok:OK 0 0 r](he:ev0 X B.fn.ntmps 60 (.inRegion ops l::k) (putF o.dst r F) S=(K,F',S2):=by rfl):AK X B (.inRegion ops (i::l)::k) F S R:=
 G9 (Aco hc ho hw hop hcal hfo hx hzs hok.ok) ho hd (Bq 60 he hk)
theorem Mj{t e:Nat}{rows:List (List AV)}{sp:Sp}{ik:IntKind}{r:List AV}{y ye:Ty}(n:Int)(h0:0≤n)(hr:rows[n.toNat]?=some r)(hk:AK X B K F' S2 R)(ho:ops[i]?=some o:=by rfl)(hw:A6 ops F o=some true:=by rfl)
 (hop:o.op=.indexAddr t p q:=by rfl)(hp:Dt X F p=some (.sl rows sp):=by rfl)(hq:Dt X F q=some (.val (.int ik n)):=by rfl)
 (hy:X.ty t=some y:=by rfl)(hyk:y.k=.slc e:=by rfl)(hye:X.ty e=some ye:=by rfl)(hd:D1 B.fn.ntmps o.dst=true:=by rfl)(hl:r.length=ye.size:=by rfl)
 (he:ev0 X B.fn.ntmps 60 (.inRegion ops l::k) (putF o.dst (.cptr r) F) S=(K,F',S2):=by rfl):AK X B (.inRegion ops (i::l)::k) F S R:=
 Acd ho hw hop hp hq hy hyk hye hd hl h0 hr (Bq 60 he hk)
theorem Im{c:Call}{fo:Operand}{f:FuncId}{caps xs zs ys:List AV}{r r':AV}(hc:Pure X f ys r)(ha:FzL S 0 0 zs ys)(hr:Sh S.boxes.length r r')(hk:AK X B K F' S2 R)(ho:ops[i]?=some o:=by rfl)(hw:A6 ops F o=some true:=by rfl)
 (hop:o.op=.call c:=by rfl)(hcal:c.callee=.value fo:=by rfl)(hfo:Dt X F fo=some (.fn f caps):=by rfl)(hx:Hk X F c.args.toList=some xs:=by rfl)(hzs:Kb xs caps=some zs:=by rfl)
 (hd:D1 B.fn.ntmps o.dst=true:=by rfl)(he:ev0 X B.fn.ntmps 60 (.inRegion ops l::k) (putF o.dst r' F) S=(K,F',S2):=by rfl):AK X B (.inRegion ops (i::l)::k) F S R:=
 G9 (Px hc ha hr ho hw hop hcal hfo hx hzs) ho hd (Bq 60 he hk)
theorem Gn{N em:Nat}{bs:List Nat}{Hs:List St}{pend:List Jx}(hk:AK X B K F' S2 R)(he:ev0 X B.fn.ntmps 60 k F S=(K,F',S2):=by rfl):Drv X N ops bs em [] i F S Hs pend fun F1 S1=>AK X B k F1 S1 R:=
 Bq 60 he hk
end
theorem Ari{K:List Item}(d:Nat){m:Nat}{tk:List Nat}(hk:AK X B K ((d,.psl [] m 0)::F) ⟨S.boxes,tk⟩ R)(hd:lk F d=some (.sl [] .tight):=by rfl)(hn:S.toks.length=m:=by rfl)(htk:S.toks++[0]=tk:=by rfl):AK X B K F S R:=by
 subst hn;subst htk;intro E w a b cs hI hF hn hm hb;have ev:=L1 E w 0;have hF':FR (E.mint 0) w ((d,.psl [] S.toks.length 0)::F) a B.fn.ntmps:=by
  have h0:=hF.mint 0;refine⟨h0.size,h0.nod,fun k x hx=>?_⟩;rw[J1]at hx;split at hx
  ·rename_i hdk;subst hdk;cases hx;obtain⟨v,hv,hr⟩:=hF.rel d _ hd;exact⟨v,hv,Aeu hI hr⟩
  ·exact h0.rel k x hx
 have nt:E.toks.length=S.toks.length:=by rw[←hI.nt];simp
 exact Fin.from (Steps.refl _ _) (ev.weaken (by rw[hI.nb];exact hn) (by omega)) (hk (E.mint 0) w a b cs (hI.mint 0) hF' hn (by simp;omega) hb)
theorem Agh{xs:List AV}(hf:X.P.funcs[B.f]?=some B.fn)(hR:R (.ret (C5 xs)) S)(h:Md X F S B.fn.results.toList=some xs:=by rfl):AK X B [] F S R:=by
 intro E w a b cs hI hF hn hm hb;obtain⟨v,h1,h2⟩:=M4 hI hF h;refine .inl ⟨.returned v,w,{ b.at a []with mode:=.returning },⟨E,S,hI,Evol.refl _ _ _ _,_,h2,hR⟩,.one step_end,hb,⟨rfl,hF.nod,rfl,B.fn,by rw[←hf];exact congrArg (X.P.funcs[·]?) hb,h1⟩⟩
theorem Gives.run{f:FuncId}{fn:Func}{c:Code}{args:List AV}{P:AV→List (List (List AV))→Prop}{K:List Item}{F':C3}{S2:St}(hf:X.P.funcs[f]?=some fn)(h:AK X ⟨f,fn,0,0⟩ K F' S2 fun e S'=>∃r,e=.ret r∧P r S'.boxes)(hb:fn.body=some c:=by rfl)
 (hl:Nat.ble args.length fn.ntmps=true:=by rfl)(hnm:(fn.name == "runtime.NumGoroutine")=false:=by kernel_rfl)
 (he:Go.V.ev X fn.ntmps 200 [.code c] (Oq 0 args) ⟨[],[]⟩=(K,F',S2):=by rfl):Gives X f args P:=Gives.mk hf hb hl hnm (Bj 200 he h)
theorem Runs.run{f:FuncId}{fn:Func}{c:Code}{args:List AV}{P:AV→St→Prop}{K:List Item}{F':C3}{S2:St}(hf:X.P.funcs[f]?=some fn)(h:AK X ⟨f,fn,S.boxes.length,S.toks.length⟩ K F' S2 fun e S'=>∃r,e=.ret r∧P r S')(hb:fn.body=some c:=by rfl)
 (hl:Nat.ble args.length fn.ntmps=true:=by rfl)(hnm:(fn.name == "runtime.NumGoroutine")=false:=by kernel_rfl)
 (he:ev0 X fn.ntmps 60 [.code c] (Oq 0 args) S=(K,F',S2):=by rfl):Runs X f args S P:=Runs.mk hf hb hl hnm (Bq 60 he h)
end
end Go.V
namespace Go.V
open Go Go.Proofs Go.Proofs.Tryz
def Av0(q:Bool)(x:Nd)(r:List AV)(c:Nat):Prop:=
 ∃a1 a2 a3:Value,r=[.val a1,.val a2,.val a3,.bsl c x.kids.length]∧(q=true→[AV.val a1,.val a2,.val a3]=[vi x.kind,str x.name,vi x.num])
mutual
def Zs(q:Bool)(lo hi:Nat)(bx:List (List (List AV)))(b:Nat):Nd→Prop
 |.mk _ _ _ ks=>(lo≤b∧b<hi)∧∃rows,bx[b]?=some rows∧TRl q lo hi bx rows ks
def TRl(q:Bool)(lo hi:Nat)(bx:List (List (List AV))):List (List AV)→List Nd→Prop
 |[],[]=>True
 |r::rs,x::l=>(∃c,Av0 q x r c∧Zs q lo hi bx c x)∧TRl q lo hi bx rs l
 |_,_=>False
end
theorem Mo{q:Bool}{lo hi:Nat}{bx:List (List (List AV))}{b:Nat}{n:Nd}:Zs q lo hi bx b n↔(lo≤b∧b<hi)∧∃rows,bx[b]?=some rows∧TRl q lo hi bx rows n.kids:=by cases n;simp[Zs,Nd.kids]
theorem Vf{q:Bool}{lo hi:Nat}{bx:List (List (List AV))}:∀{rs:List (List AV)}{l:List Nd},TRl q lo hi bx rs l→rs.length=l.length
 |[],[],_=>rfl
 |r::rs,x::l,h=>by simp only[TRl]at h;simp[Vf h.2]
 |[],_::_,h=>by simp[TRl]at h
 |_::_,[],h=>by simp[TRl]at h
theorem Rs{q:Bool}{lo hi:Nat}{bx:List (List (List AV))}:∀{rs:List (List AV)}{l:List Nd},TRl q lo hi bx rs l→∀(i:Nat)(x:Nd),l[i]?=some x→∃r c,rs[i]?=some r∧Av0 q x r c∧Zs q lo hi bx c x
 |[],[],_,i,x,h=>by simp at h
 |r::rs,y::l,h,i,x,hx=>by
  simp only[TRl]at h;cases i with
  |zero=>simp at hx;subst hx;obtain⟨⟨c,h1,h2⟩,_⟩:=h;exact⟨r,c,rfl,h1,h2⟩
  |succ i=>simpa using Rs h.2 i x (by simpa using hx)
 |[],_::_,h,_,_,_=>by simp[TRl]at h
 |_::_,[],h,_,_,_=>by simp[TRl]at h
theorem Zr{q:Bool}{lo hi:Nat}{bx:List (List (List AV))}:∀{rs:List (List AV)}{l:List Nd},rs.length=l.length→(∀(i:Nat)(x:Nd),l[i]?=some x→∃r c,rs[i]?=some r∧Av0 q x r c∧Zs q lo hi bx c x)→TRl q lo hi bx rs l
 |[],[],_,_=>trivial
 |r::rs,y::l,h,hg=>by
  simp only[TRl];obtain⟨r',c,h1,h2,h3⟩:=hg 0 y rfl;simp at h1;subst h1;exact⟨⟨c,h2,h3⟩,Zr (by simpa using h) fun i x hx=>by simpa using hg (i+1) x (by simpa using hx)⟩
 |[],_::_,h,_=>by simp at h
 |_::_,[],h,_=>by simp at h
theorem Am9(n:Nd):∀{lo hi b:Nat}{bx:List (List (List AV))},Zs true lo hi bx b n→Zs false lo hi bx b n:=by
 induction n using Nd.ind with
 |h n ih=>
 intro lo hi b bx h;obtain⟨h1,rows,h2,h3⟩:=Mo.1 h;refine Mo.2 ⟨h1,rows,h2,Zr (Vf h3) fun i x hx=>?_⟩;obtain⟨r,c,g1,⟨a1,a2,a3,g2,_⟩,g4⟩:=Rs h3 i x hx;exact⟨r,c,g1,⟨a1,a2,a3,g2,fun h=>by cases h⟩,ih x (Bh hx) g4⟩
theorem Pg{q:Bool}(n:Nd):∀{lo hi lo' hi' b:Nat}{bx bx':List (List (List AV))},lo'≤lo→hi≤hi'→(∀(i:Nat) y,lo≤i→i<hi→bx[i]?=some y→bx'[i]?=some y)→Zs q lo hi bx b n→Zs q lo' hi' bx' b n:=by
 induction n using Nd.ind with
 |h n ih=>
 intro lo hi lo' hi' b bx bx' h0 h9 hb h;obtain⟨h1,rows,h2,h3⟩:=Mo.1 h;refine Mo.2 ⟨by omega,rows,hb b rows h1.1 h1.2 h2,Zr (Vf h3) fun i x hx=>?_⟩;obtain⟨r,c,g1,g2,g4⟩:=Rs h3 i x hx;exact⟨r,c,g1,g2,ih x (Bh hx) h0 h9 hb g4⟩
theorem A24(n:Nd):∀{lo hi b:Nat}{S:St},Ai n≤1000000000→Zs true lo hi S.boxes b n→Fz S 0 0 (.bsl b n.kids.length) (.sl (Ap n.kids) .no):=by
 induction n using Nd.ind with
 |h n ih=>
 intro lo hi b S hn h;obtain⟨h1,rows,h2,h3⟩:=Mo.1 h;have hlen:=Vf h3;have hcn:=Ck n;have hll:=Bn n.kids;have hrow:∀(i:Nat) (r r':List AV),rows[i]?=some r→(Ap n.kids)[i]?=some r'→∃x c,x∈n.kids∧r'=Af x∧r=[vi x.kind,str x.name,vi x.num,.bsl c x.kids.length]∧Zs true lo hi S.boxes c x:=by
  intro i r r' hr hr';obtain⟨x,hx⟩:=Ab n.kids (i:=i) (by have:=Aa hr;omega);obtain⟨r0,c,g1,⟨a1,a2,a3,g2,g3⟩,g4⟩:=Rs h3 i x hx;rw[hr]at g1;cases g1;have:=g3 rfl;simp only[List.cons.injEq,and_true]at this;rw[Am hx]at hr';exact⟨x,c,Bh hx,(Option.some.inj hr').symm,by rw[g2,this.1,this.2.1,this.2.2],g4⟩
 refine .bsl b n.kids.length rows (Ap n.kids) (Cc _) h2 (by omega) (by unfold O0;omega) (Ad _) (fun i r r' hr hr'=>?_) (fun i j r r' x y hr hr' hx hy=>?_)
 ·obtain⟨x,c,_,rfl,rfl,_⟩:=hrow i r r' hr hr';rfl
 ·obtain⟨z,c,hz,rfl,rfl,hT⟩:=hrow i r r' hr hr'
  match j,hx,hy with
  |0,hx,hy=>simp[Af]at hx hy;subst hx;subst hy;exact .same _ (.val _)
  |1,hx,hy=>simp[Af]at hx hy;subst hx;subst hy;exact .same _ (.val _)
  |2,hx,hy=>simp[Af]at hx hy;subst hx;subst hy;exact .same _ (.val _)
  |3,hx,hy=>simp[Af]at hx hy;subst hx;subst hy;exact ih z hz (by have:=Ex hz;omega) hT
  |j+4,hx,_=>simp at hx
structure Mk (lo hi:Nat)(bx bx':List (List (List AV))):Prop where
 len:bx.length≤bx'.length
 far:∀b,b<bx.length→b<lo∨hi≤b→bx'[b]?=bx[b]?
 row:∀(b:Nat) rows,bx[b]?=some rows→∃rows',bx'[b]?=some rows'∧rows'.length=rows.length ∧
  ∀(i:Nat) (a1 a2 a3:Value) (x:AV),rows[i]?=some [.val a1,.val a2,.val a3,x]→∃b1 b2 b3:Value,rows'[i]?=some [.val b1,.val b2,.val b3,x]
theorem Mk.refl(lo hi:Nat)(bx:List (List (List AV))):Mk lo hi bx bx:=⟨Bo _,fun _ _ _=>rfl,fun b rows h=>⟨rows,h,rfl,fun i a1 a2 a3 x h=>⟨a1,a2,a3,h⟩⟩⟩
theorem Mk.trans{lo hi:Nat}{bx bx' bx'':List (List (List AV))}(h:Mk lo hi bx bx')(h':Mk lo hi bx' bx''):Mk lo hi bx bx'':=by
 refine⟨Nt h.len h'.len,fun b hl hb=>(h'.far b (Mx hl h.len) hb).trans (h.far b hl hb),fun b rows hr=>?_⟩;obtain⟨rows1,h1,h2,h3⟩:=h.row b rows hr;obtain⟨rows2,g1,g2,g3⟩:=h'.row b rows1 h1;refine⟨rows2,g1,g2.trans h2,fun i a1 a2 a3 x hx=>?_⟩;obtain⟨b1,b2,b3,h4⟩:=h3 i a1 a2 a3 x hx;exact g3 i b1 b2 b3 x h4
theorem Mk.set{lo hi b i:Nat}{bx:List (List (List AV))}{rows:List (List AV)}{a1 a2 a3 b1 b2 b3:Value}{x:AV}(h1:lo≤b)(h2:b<hi)(hb:bx[b]?=some rows)(hr:rows[i]?=some [.val a1,.val a2,.val a3,x]) :
 Mk lo hi bx (bx.set b (rows.set i [.val b1,.val b2,.val b3,x])):=by
 have hbl:=Aa hb;have hil:=Aa hr;refine⟨by simp,fun c _ hc=>Fj (by omega),fun c rows' hc=>?_⟩;by_cases he:c=b
 ·subst he;rw[hb]at hc;cases hc;refine⟨_,Et hbl,by simp,fun j c1 c2 c3 y hy=>?_⟩;by_cases hj:j=i
  ·subst hj;rw[hr]at hy;cases hy;exact⟨b1,b2,b3,Et hil⟩
  ·exact⟨c1,c2,c3,by rw[Fj (Ne.symm hj)];exact hy⟩
 ·exact⟨rows',by rw[Fj (Ne.symm he)];exact hc,rfl,fun j c1 c2 c3 y hy=>⟨c1,c2,c3,hy⟩⟩
theorem Mk.snoc(lo hi:Nat)(bx:List (List (List AV)))(r:List (List AV)):Mk lo hi bx (bx++[r]):=
 ⟨by simp,fun b hl _=>Cr hl,fun b rows h=>⟨rows,by rw[Cr (Aa h)];exact h,rfl,fun i a1 a2 a3 x h=>⟨a1,a2,a3,h⟩⟩⟩
theorem Mk.tree(n:Nd):∀{lo hi b:Nat}{bx bx':List (List (List AV))},Mk lo hi bx bx'→Zs false lo hi bx b n→Zs false lo hi bx' b n:=by
 induction n using Nd.ind with
 |h n ih=>
 intro lo hi b bx bx' hm h;obtain⟨h1,rows,h2,h3⟩:=Mo.1 h;obtain⟨rows',g1,g2,g3⟩:=hm.row b rows h2;refine Mo.2 ⟨h1,rows',g1,Zr (by rw[g2];exact Vf h3) fun i x hx=>?_⟩;obtain⟨r,c,k1,⟨a1,a2,a3,rfl,_⟩,k4⟩:=Rs h3 i x hx;obtain⟨b1,b2,b3,k5⟩:=g3 i a1 a2 a3 _ k1;exact⟨_,c,k5,⟨b1,b2,b3,rfl,fun h=>by cases h⟩,ih x (Bh hx) hm k4⟩
mutual
def Hq(d:Nat):AV→AV
 |.val v=>.val v
 |.bsl b k=>.bsl (b+d) k
 |.sl [] _=>.sl [] .no
 |.psl [] _ _=>.sl [] .no
 |.agg cs=>.agg (Xr d cs)
 |.tup cs=>.tup (Xr d cs)
 |_=>.junk
def Xr(d:Nat):List AV→List AV
 |[]=>[]
 |x::l=>Hq d x::Xr d l
end
theorem Aot(d:Nat):∀l:List AV,Xr d l=l.map (Hq d)
 |[]=>rfl
 |x::l=>by simp[Xr,Aot d l]
def Oh(d:Nat)(bx:List (List (List AV))):List (List (List AV)):=bx.map fun rows=>rows.map fun r=>r.map (Hq d)
mutual
theorem P0(d:Nat):∀x:AV,Sh d x (Hq d x)
 |.val v=>by simp only[Hq];exact .val v
 |.bsl b k=>by simp only[Hq];exact .bsl b k
 |.sl [] sp=>by simp only[Hq];exact .nil sp
 |.psl [] t v=>by simp only[Hq];exact .pnil t v
 |.agg cs=>by simp only[Hq];exact .aggL (Aca d cs)
 |.tup cs=>by simp only[Hq];have h:=(Aca d cs).get;exact .tup _ _ h.1 h.2
 |.sl (r::l) sp=>by simp only[Hq];exact .junk _
 |.psl (r::l) t v=>by simp only[Hq];exact .junk _
 |.ptr _ _ _=>by simp only[Hq];exact .junk _
 |.cptr _=>by simp only[Hq];exact .junk _
 |.bst _ _ _=>by simp only[Hq];exact .junk _
 |.fn _ _=>by simp only[Hq];exact .junk _
 |.lit _=>by simp only[Hq];exact .junk _
 |.junk=>by simp only[Hq];exact .junk _
 |.err=>by simp only[Hq];exact .junk _
 |.tagN _ _=>by simp only[Hq];exact .junk _
 |.buf _ _ _=>by simp only[Hq];exact .junk _
 |.dat _ _ _=>by simp only[Hq];exact .junk _
 |.pp _ _ _ _ _=>by simp only[Hq];exact .junk _
theorem Aca(d:Nat):∀l:List AV,ShL d l (Xr d l)
 |[]=>by simp only[Xr];exact .nil
 |x::l=>by simp only[Xr];exact .cons (P0 d x) (Aca d l)
end
theorem Ayv(d:Nat)(l:List AV):ShL d l (l.map (Hq d)):=by rw[←Aot];exact Aca d l
theorem Mv(d:Nat)(bx:List (List (List AV))):ShB d bx (Oh d bx):=by
 refine⟨by simp[Oh],fun i x y hx hy=>?_⟩;simp only[Oh,Gm,hx,Km,Option.some.injEq]at hy;subst hy;refine⟨by simp,fun j a b ha hb=>?_⟩;simp only[Gm,ha,Km,Option.some.injEq]at hb;subst hb;exact Ayv d a
theorem Pp(d:Nat)(bx:List (List (List AV))):(Oh d bx).length=bx.length:=by simp[Oh]
def Jr:AV→List Nat
 |.bsl b _=>[b]
 |_=>[]
def SlG(bx:List (List (List AV)))(x:AV)(rows:List (List AV)):Prop:=(∃b ex,x=.bsl b rows.length∧bx[b]?=some (rows++ex))∨(rows=[]∧Hq 0 x=.sl [] .no∧Jr x=[])
def SlB(bx:List (List (List AV)))(x:AV)(rows:List (List AV)):Prop:=(∃b ex,x=.bsl b rows.length∧bx[b]?=some (rows++ex))∨(rows=[]∧∃sp,x=.sl [] sp)
theorem Ayw{d:Nat}{x:AV}(h:Hq 0 x=.sl [] .no):Hq d x=.sl [] .no:=by
 revert h;cases x with
 |sl l sp=>cases l<;>simp[Hq]
 |psl l t v=>cases l<;>simp[Hq]
 |_=>simp[Hq]
theorem SlG.held{pre bx:List (List (List AV))}{x:AV}{rows:List (List AV)}(h:SlG bx x rows):SlB (pre++Oh pre.length bx) (Hq pre.length x) (rows.map fun r=>r.map (Hq pre.length)):=by
 rcases h with⟨b,ex,rfl,h⟩|⟨rfl,h,_⟩
 ·refine .inl ⟨b+pre.length,ex.map fun r=>r.map (Hq pre.length),by simp[Hq],?_⟩;rw[Gj (by omega),Ad3,Oh,Gm,h];simp
 ·exact .inr ⟨rfl,.no,Ayw h⟩
theorem Ab2(d:Nat)(x:AV):Jr (Hq d x)=(Jr x).map (·+d):=by
 cases x with
 |sl l sp=>cases l<;>simp[Hq,Jr]
 |psl l t v=>cases l<;>simp[Hq,Jr]
 |_=>simp[Hq,Jr]
theorem Le(d:Nat)(l:List Int):(Ei l).map (fun r=>r.map (Hq d))=Ei l:=by
 simp[Ei,Hq]
theorem Uk(d:Nat)(l:List (Bool×Int)):(Rh l).map (fun r=>r.map (Hq d))=Rh l:=by
 simp[Rh,Hq]
theorem SlB.fz{S:St}{x:AV}{rows rows':List (List AV)}(h:SlB S.boxes x rows)(hl:rows.length≤1000000000000)(hlen:rows'.length=rows.length)(hll:∀(i:Nat)(r r':List AV),rows[i]?=some r→rows'[i]?=some r'→r'.length=r.length)
 (hz:∀(i j:Nat)(r r':List AV)(x y:AV),rows[i]?=some r→rows'[i]?=some r'→r[j]?=some x→r'[j]?=some y→Fz S 0 0 x y):Fz S 0 0 x (.sl rows' .no):=by
 rcases h with⟨b,ex,rfl,h⟩|⟨rfl,sp,rfl⟩
 ·have hg:∀{i:Nat} {r:List AV},i<rows'.length→(rows++ex)[i]?=some r→rows[i]?=some r:=fun{i r} hi h=>by rw[Cr (by omega)]at h;exact h
  refine .bsl b rows.length (rows++ex) rows' (Cc _) h (by simp) (by unfold O0;omega) hlen (fun i r r' h1 h2=>hll i r r' (hg (Aa h2) h1) h2) (fun i j r r' x y h1 h2 h3 h4=>hz i j r r' x y (hg (Aa h2) h1) h2 h3 h4)
 ·have:rows'=[]:=zzq96.1 hlen;subst this;exact .strip [] [] sp rfl (fun i r r' h=>by simp at h) (fun i j r r' x y h=>by simp at h)
theorem SlB.flat{S:St}{x:AV}{rows:List (List AV)}(h:SlB S.boxes x rows)(hl:rows.length≤1000000000000)(hok:OKR 0 0 rows):Fz S 0 0 x (.sl rows .no):=by
 refine h.fz hl rfl (fun i r r' h1 h2=>by rw[h1]at h2;cases h2;rfl) fun i j r r' x y h1 h2 h3 h4=>?_;rw[h1]at h2;cases h2;rw[h3]at h4;cases h4;exact .same _ (hok.ok r (Bh h1) x (Bh h3))
def Chg(ids:List Nat)(bx bx':List (List (List AV))):Prop:=bx.length≤bx'.length∧∀b,b<bx.length→b∉ids→bx'[b]?=bx[b]?
theorem Chg.refl(ids:List Nat)(bx:List (List (List AV))):Chg ids bx bx:=⟨Bo _,fun _ _ _=>rfl⟩
theorem Chg.trans{a b:List Nat}{bx bx' bx'':List (List (List AV))}(h:Chg a bx bx')(h':Chg b bx' bx''):Chg (a++b) bx bx'':=
 ⟨Nt h.1 h'.1,fun i hl hi=>by rw[zzq47,not_or]at hi;exact(h'.2 i (Mx hl h.1) hi.2).trans (h.2 i hl hi.1)⟩
theorem Chg.more{a b:List Nat}{bx bx':List (List (List AV))}(h:Chg a bx bx')(hs:∀i,i∈a→i∈b):Chg b bx bx':=⟨h.1,fun i hl hi=>h.2 i hl fun hh=>hi (hs i hh)⟩
theorem Chg.snoc(ids:List Nat)(bx:List (List (List AV)))(r:List (List AV)):Chg ids bx (bx++[r]):=⟨by simp,fun b hl _=>Cr hl⟩
theorem Mk.chg{lo hi:Nat}{bx bx':List (List (List AV))}(h:Mk lo hi bx bx'):Chg ((List.range (hi-lo)).map (lo+·)) bx bx':=
 ⟨h.len,fun b hl hb=>h.far b hl (by
   rcases Gu b lo with h1|h1
   ·exact .inl h1
   ·refine .inr (Nat.le_of_not_lt fun h2=>hb (zzq68.2 ⟨b-lo,zzq55.2 (by omega),by omega⟩)))⟩
theorem SlB.chg{ids:List Nat}{bx bx':List (List (List AV))}{x:AV}{rows:List (List AV)}(h:SlB bx x rows)(hc:Chg ids bx bx')(hd:∀i,i∈Jr x→i∉ids):SlB bx' x rows:=by
 rcases h with⟨b,ex,rfl,h⟩|⟨rfl,sp,rfl⟩
 ·exact .inl ⟨b,ex,rfl,by rw[hc.2 b (Aa h) (hd b (by simp[Jr]))];exact h⟩
 ·exact .inr ⟨rfl,sp,rfl⟩
theorem SlB.more{bx bx':List (List (List AV))}{x:AV}{rows:List (List AV)}(h:SlB bx x rows):SlB (bx++bx') x rows:=by
 rcases h with⟨b,ex,rfl,h⟩|⟨rfl,sp,rfl⟩
 ·exact .inl ⟨b,ex,rfl,by rw[Cr (Aa h)];exact h⟩
 ·exact .inr ⟨rfl,sp,rfl⟩
structure CfB (Sl:List (List (List AV))→AV→List (List AV)→Prop)(bx:List (List (List AV)))(x:AV)(ids:List Nat)(c:Cf):Prop where
 ex:∃(V C:AV) (ys:List AV),x=.agg [vi c.pt,V,C,vi c.used,vi c.steps,vi c.trap,vi c.edge,vi c.acc]∧ids=Jr V++(Jr C++ys.flatMap Jr)∧ids.Nodup∧Sl bx V (Ei c.vars)∧Sl bx C (ys.map fun y=>[y]) ∧
  ys.length=c.cells.length∧∀(j:Nat) (y:AV) (l:List (Bool×Int)),ys[j]?=some y→c.cells[j]?=some l→Sl bx y (Rh l)
theorem CfB.held{pre bx:List (List (List AV))}{x:AV}{ids:List Nat}{c:Cf}(h:CfB SlG bx x ids c):CfB SlB (pre++Oh pre.length bx) (Hq pre.length x) (ids.map (·+pre.length)) c:=by
 obtain⟨V,C,ys,rfl,rfl,h3,h4,h5,h6,h7⟩:=h.ex;refine⟨Hq pre.length V,Hq pre.length C,ys.map (Hq pre.length),by simp[Hq,Xr],?_,?_,?_,?_,by simpa using h6,fun j y l hy hl=>?_⟩
 ·simp only[J8,Ab2,List.map_flatMap,List.flatMap_map]
 ·exact List.Pairwise.map _ (fun a b h=>by simp only[ne_eq]at h⊢;omega) h3
 ·have:=h4.held (pre:=pre);rw[Le]at this;exact this
 ·have:=h5.held (pre:=pre);rw[List.map_map]at this;rw[List.map_map];exact this
 ·rw[Gm]at hy;cases hy':ys[j]? with
  |none=>rw[hy']at hy;cases hy
  |some y0=>
   rw[hy']at hy;cases hy;have:=(h7 j y0 l hy' hl).held (pre:=pre);rw[Uk]at this;exact this
theorem CfB.more{bx bx':List (List (List AV))}{x:AV}{ids:List Nat}{c:Cf}(h:CfB SlB bx x ids c):CfB SlB (bx++bx') x ids c:=by
 obtain⟨V,C,ys,h1,h2,h3,h4,h5,h6,h7⟩:=h.ex;exact⟨V,C,ys,h1,h2,h3,h4.more,h5.more,h6,fun j y l hy hl=>(h7 j y l hy hl).more⟩
theorem CfB.chg{js:List Nat}{bx bx':List (List (List AV))}{x:AV}{ids:List Nat}{c:Cf}(h:CfB SlB bx x ids c)(hc:Chg js bx bx')(hd:∀i,i∈ids→i∉js):CfB SlB bx' x ids c:=by
 obtain⟨V,C,ys,h1,h2,h3,h4,h5,h6,h7⟩:=h.ex;refine⟨V,C,ys,h1,h2,h3,h4.chg hc fun i hi=>hd i (by simp[h2,hi]),h5.chg hc fun i hi=>hd i (by simp[h2,hi]),h6,fun j y l hy hl=>(h7 j y l hy hl).chg hc fun i hi=>hd i ?_⟩;rw[h2,zzq47,zzq47,zzq108];exact .inr (.inr ⟨y,Bh hy,hi⟩)
theorem CfB.fzC{S:St}{x:AV}{ids:List Nat}{c:Cf}(h:CfB SlB S.boxes x ids c)(hc:CfOk c):∃cs,x=.agg cs∧cs.length=8∧∀(j:Nat)(a b:AV),cs[j]?=some a→(Iz c)[j]?=some b→Fz S 0 0 a b:=by
 obtain⟨V,C,ys,rfl,_,_,h4,h5,h6,h7⟩:=h.ex;have l1:=hc.vars;have l2:=hc.cells;have fV:Fz S 0 0 V (.sl (Ei c.vars) .no):=h4.flat (by rw[C2];omega) inferInstance;have fC:Fz S 0 0 C (.sl (Yc c.cells) .no):=by
  refine h5.fz (by simp;omega) (by rw[Acw];simp[h6]) (fun i r r' h1 h2=>?_) fun i j r r' x y h1 h2 h3 h4=>?_
  ·rw[Gm]at h1;cases hy:ys[i]? with
   |none=>rw[hy]at h1;cases h1
   |some y=>
    rw[hy]at h1;cases h1;simp only[Yc,Gm]at h2;cases hl:c.cells[i]? with
    |none=>rw[hl]at h2;cases h2
    |some l=>rw[hl]at h2;cases h2;rfl
  ·rw[Gm]at h1;cases hy:ys[i]? with
   |none=>rw[hy]at h1;cases h1
   |some y0=>
    rw[hy]at h1;cases h1;simp only[Yc,Gm]at h2;cases hl:c.cells[i]? with
    |none=>rw[hl]at h2;cases h2
    |some l=>
     rw[hl]at h2;cases h2;have hj:j=0:=by have:=Aa h3;simp at this;omega
     subst hj;simp at h3 h4;subst h3;subst h4;exact(h7 i _ l hy hl).flat (by have:=hc.rows l (Bh hl);rw[Il];omega) inferInstance
 refine⟨_,rfl,rfl,fun j a b ha hb=>?_⟩
 match j,ha,hb with
 |0,ha,hb=>simp at ha hb;subst ha;subst hb;exact .same _ (.val _)
 |1,ha,hb=>simp at ha hb;subst ha;subst hb;exact fV
 |2,ha,hb=>simp at ha hb;subst ha;subst hb;exact fC
 |3,ha,hb=>simp at ha hb;subst ha;subst hb;exact .same _ (.val _)
 |4,ha,hb=>simp at ha hb;subst ha;subst hb;exact .same _ (.val _)
 |5,ha,hb=>simp at ha hb;subst ha;subst hb;exact .same _ (.val _)
 |6,ha,hb=>simp at ha hb;subst ha;subst hb;exact .same _ (.val _)
 |7,ha,hb=>simp at ha hb;subst ha;subst hb;exact .same _ (.val _)
 |j+8,ha,_=>simp at ha
theorem CfB.fz{S:St}{x:AV}{ids:List Nat}{c:Cf}(h:CfB SlB S.boxes x ids c)(hc:CfOk c):Fz S 0 0 x (cf c):=by
 obtain⟨cs,rfl,h1,h2⟩:=h.fzC hc;exact .agg _ _ h1.symm h2
def Xy:List Int→List Int→Option (List Nat)
 |[],[]=>some []
 |[],_::_=>none
 |s::ss,ls=>if s<0 then(match ls with
   |[]=>none
   |l::ls'=>if Bl l 0 60 then(Xy ss ls').map (l.toNat::·)else none)else(Xy ss ls).map (s.toNat::·)
def Zj(nv:Nat)(cs:List Nat):Cf:=⟨0,List.replicate nv 0,cs.map fun k=>List.replicate k (false,0),0,0,0,0,0⟩
def zC:Cf:=⟨0,[],[],0,0,0,0,0⟩
theorem Aj6{n:Nd}(hr:Fe n=true):∀s,s∈D9 n→s≤1000000:=by
 intro s hs;obtain⟨x,hx,rfl⟩:=zzq68.1 hs;have hx':=(zzq58.1 hx).1;have hF:=(Iv hr).1;cases hF with
 |mk ds l hd hl=>
  simp only[Ge,List.dropLast_concat]at hx';have:=hd x hx';cases this with
  |var s h=>simp[Nd.num]
  |arr s m h h0 h1=>simpa[Nd.num]using h1
theorem Agv:∀{ss ls:List Int}{cs:List Nat},Xy ss ls=some cs→cs.length=ss.length
 |[],[],cs,h=>by simp[Xy]at h;simp[←h]
 |[],_::_,cs,h=>by simp[Xy]at h
 |s::ss,ls,cs,h=>by
  simp only[Xy]at h;split at h
  ·split at h
   ·cases h
   ·split at h
    ·obtain⟨r,hr,rfl⟩:=zzq104.1 h;simp[Agv hr]
    ·cases h
  ·obtain⟨r,hr,rfl⟩:=zzq104.1 h;simp[Agv hr]
def Ahs(n:Nat)(s:List UInt8):List UInt8:=if h:n=0 then s else Ahs (n/10) (UInt8.ofNat (48+n%10)::s)
theorem Ay0(k:Nat)(h1:1≤k)(h2:k≤100000000000):Pure X 60 [vi k] (str (109::Ahs k [])):=by
 refine Pure.run func60 ?_;refine Ah ?_ (ht:=Kn (by omega));refine Av (ι:=Nat×List UInt8) 0 0 (fun i=>i.1≤k∧i.2.length+i.1≤k∧Ahs i.1 i.2=Ahs k []) (fun i=>[(0,vi i.1),(3,str i.2)]) (fun _=>⟨[],[]⟩) (fun i=>i.1) ?_ (k,[]) ⟨Bo _,by simp,rfl⟩
  ⟨rfl,rfl,trivial⟩
 intro i hi IH;obtain⟨m,s⟩:=i;obtain⟨hm,hl,he⟩:=hi;simp only at hm hl he;refine Dh (fun h=>?_) (fun h=>?_)
 ·have h':0<m:=by have:=A7 h;simp only at this;omega
  have hd:(m:Int).tdiv 10=((m/10:Nat):Int):=by rw[Int.tdiv_eq_ediv_of_nonneg (by omega)];omega
  have hr:((m:Int).tmod 10)=((m%10:Nat):Int):=by rw[Int.tmod_eq_emod_of_nonneg (by omega)];omega
  refine Bm (Acl (s:=[UInt8.ofNat (48+m%10)]) rfl rfl rfl rfl rfl rfl rfl rfl rfl rfl ?_) ?_
  ·show [[_]]=[[_]]
   simp only[hr,W7 (m%10) (by omega)]
  refine Bm (Rq rfl rfl rfl rfl rfl ?_ rfl) ?_
  ·simp;omega
  refine IH (m/10,UInt8.ofNat (48+m%10)::s) ⟨by simp only;omega,by simp;omega,?_⟩ (by simp only;omega) _ _ ⟨Ct ?_,rfl,trivial⟩ rfl rfl rfl
  ·rw[←he];conv=>rhs;rw[Ahs]
   rw[dif_neg (by omega)]
  ·simp only[hd];exact Ac (by omega) (by omega)
 ·have h':m=0:=by have:=Bd h;simp only at this;omega
  subst h';have:Ahs 0 s=s:=by rw[Ahs];rfl
  rw[this]at he;simp only[Pt]at hl;refine Bm (Rq rfl rfl rfl rfl rfl ?_ rfl) ?_
  ·simp;omega
  refine Au func60 ?_;rw[←he];rfl
mutual
def mcN:Nd→Nat
 |.mk _ _ _ ks=>mcL ks
def mcL:List Nd→Nat
 |[]=>0
 |x::l=>3+mcN x+mcL l
end
theorem A1d(n:Nd):mcN n=mcL n.kids:=by cases n;simp[mcN,Nd.kids]
theorem Ahr:∀l l':List Nd,mcL (l++l')=mcL l+mcL l'
 |[],l'=>by simp[mcL]
 |x::l,l'=>by simp[mcL,Ahr l l'];omega
def MkP(lo hi:Nat)(S:St)(k:Nat)(r:AV)(S':St):Prop:=r=vi k∧S'.toks=S.toks∧Mk lo hi S.boxes S'.boxes
theorem An4:∀l:List Nd,l.length≤mcL l
 |[]=>Cc _
 |x::l=>by have:=An4 l;simp[mcL];omega
theorem Al0{lo hi b i:Nat}{S:St}{rows:List (List AV)}{a1 a2 a3:Value}{x:AV}(h12:lo≤b∧b<hi)(hb:S.boxes[b]?=some rows)(hr:rows[i]?=some [.val a1,.val a2,.val a3,x])(b1 b2 b3:Value) :
 ∃S2 rows2,S2=(⟨S.boxes.set b (rows.set i [.val b1,.val b2,.val b3,x]),S.toks⟩:St)∧S2.boxes[b]?=some rows2∧rows2[i]?=some [.val b1,.val b2,.val b3,x]∧Mk lo hi S.boxes S2.boxes∧S2.toks=S.toks:=
 ⟨_,_,rfl,Et (Aa hb),Et (Aa hr),Mk.set h12.1 h12.2 hb hr,rfl⟩
theorem Au0(n:Nd):∀{lo hi b:Nat}{S:St}{k:Nat},Zs false lo hi S.boxes b n→1≤k→k+mcN n≤100000000000 →
 Runs X 59 [.bsl b n.kids.length,vi k] S (MkP lo hi S (k+mcN n)):=by
 induction n using Nd.ind with
 |h n ih=>
 intro lo hi b S k hT hk1 hk2;rw[A1d]at hk2⊢;have hlm:=An4 n.kids;refine Runs.run func59 ?_;refine Ju (ι:=Nat×St) (fun i=>i.1≤n.kids.length∧i.2.toks=S.toks∧Mk lo hi S.boxes i.2.boxes) (fun i=>[(5,vi i.1),(1,vi ((k+mcL (n.kids.take i.1):Nat):Int)),(0,.bsl b n.kids.length)]) (fun i=>i.2) (fun i=>n.kids.length-i.1) ?_ (0,S)
  ⟨Cc _,rfl,Mk.refl _ _ _⟩ ⟨rfl,rfl,rfl,trivial⟩ rfl
 intro i hi IH;obtain⟨i,S1⟩:=i;obtain⟨hi,ht,hM⟩:=hi;simp only at hi ht hM;refine Dh (fun g=>?_) (fun g=>?_)
 ·have hlt:i<n.kids.length:=by have:=A7 g;simp only at this;omega
  obtain⟨x,hx⟩:=Ab n.kids hlt;have hxm:=Bh hx;have hmc:mcL (n.kids.take (i+1))=mcL (n.kids.take i)+(3+mcN x):=by rw[G7,hx,Ad2,Ahr];simp[mcL]
  have hle:mcL (n.kids.take (i+1))≤mcL n.kids:=by
   have h0:mcL n.kids=mcL (n.kids.take (i+1))+mcL (n.kids.drop (i+1)):=by rw[←Ahr,Ad8]
   omega
  have hT1:=hM.tree n hT;obtain⟨hb12,rows,hb,hR⟩:=Mo.1 hT1;obtain⟨r,c,hr,⟨a1,a2,a3,rfl,_⟩,hTx⟩:=Rs hR i x hx;generalize hq:mcL (n.kids.take i)=q at *;have e1:IntKind.i64.wrap (((k+q:Nat):Int)+1)=((k+q+1:Nat):Int):=by rw[Ac (by omega) (by omega)];omega
  have e2:IntKind.i64.wrap (IntKind.i64.wrap (((k+q:Nat):Int)+1)+1)=((k+q+2:Nat):Int):=by rw[e1,Ac (by omega) (by omega)];omega
  have e3:IntKind.i64.wrap (IntKind.i64.wrap (IntKind.i64.wrap (((k+q:Nat):Int)+1)+1)+1)=((k+q+3:Nat):Int):=by rw[e2,Ac (by omega) (by omega)];omega
  have p1:=Ay0 (k+q+1) (by omega) (by omega);rw[←e1]at p1;obtain⟨S2,rows2,hS2,hb2,hr2,hM2,ht2⟩:=Al0 hb12 hb hr (.int .i64 ((k+q:Nat):Int)) a2 a3;obtain⟨S3,rows3,hS3,hb3,hr3,hM3,ht3⟩:=Al0 hb12 hb2 hr2 (.int .i64 ((k+q:Nat):Int)) (.string ⟨⟨109::Ahs (k+q+1) []⟩⟩) a3;obtain⟨S4,rows4,hS4,hb4,hr4,hM4,ht4⟩:=Al0 hb12 hb3 hr3 (.int .i64 ((k+q:Nat):Int)) (.string ⟨⟨109::Ahs (k+q+1) []⟩⟩) (.int .i64 (IntKind.i64.wrap (IntKind.i64.wrap (((k+q:Nat):Int)+1)+1)));have hM4':=((hM.trans hM2).trans hM3).trans hM4;have hTx4:=(((hM2.trans hM3).trans hM4).tree x hTx)
  have ih4:=@ih x hxm _ _ _ _ (k+q+3) hTx4 (by omega) (by omega);have e3':(vi ((k+q+3:Nat):Int))=vi (IntKind.i64.wrap (IntKind.i64.wrap (IntKind.i64.wrap (((k+q:Nat):Int)+1)+1)+1)):=by rw[e3]
  rw[e3']at ih4;refine Lm i hlt hb hr rfl ?_;refine Rk hb hr rfl ?_;refine Ba S2 ?_ hS2.symm;refine Al p1 ?_;refine Lm i hlt hb2 hr2 rfl ?_;refine Rk hb2 hr2 rfl ?_;refine Ba S3 ?_ hS3.symm;refine Lm i hlt hb3 hr3 rfl ?_;refine Rk hb3 hr3 rfl ?_;refine Ba S4 ?_ hS4.symm;refine Lm i hlt hb4 hr4 rfl ?_;refine Lo hb4 hr4 ?_;refine Gz ih4 ?_;intro r5 S5 hP _ _;obtain⟨rfl,ht5,hM5⟩:=hP;refine Bj 100 rfl ?_;refine IH (i+1,S5) ⟨hlt,by rw[ht5,ht4,ht3,ht2];exact ht,hM4'.trans hM5⟩ (by simp only;omega) _ _ ⟨Ct ((Ac (by omega) (by omega)).trans (by simp only;omega)),?_,rfl,trivial⟩ rfl;exact Ct (by simp only[hmc];omega)
 ·have:i=n.kids.length:=by have:=Bd g;simp only at this;omega
  subst this;rw[I8];refine Bg func59 (h:=rfl) ⟨_,rfl,rfl,ht,hM⟩
theorem Aoy(n:Nd){lo hi b:Nat}{S:St}{k:Nat}(hT:Zs false lo hi S.boxes b n)(hk1:1≤k)(hk2:k+mcN n≤100000000000) :
 Runs X 16 [.agg [vi n.kind,str n.name,vi n.num,.bsl b n.kids.length],vi k] S (MkP lo hi S (k+mcN n)):=by
 have hM:=Mk.snoc lo hi S.boxes [[vi n.kind,str n.name,vi n.num,.bsl b n.kids.length]];refine Runs.run func16 ?_;refine Wx rfl rfl ?_;have hb:(S.boxes++[[[vi n.kind,str n.name,vi n.num,AV.bsl b n.kids.length]]])[S.boxes.length]?=some [[vi n.kind,str n.name,vi n.num,.bsl b n.kids.length]]:=by simp
 have hr:([[vi n.kind,str n.name,vi n.num,AV.bsl b n.kids.length]]:List (List AV))[0]?=some [vi n.kind,str n.name,vi n.num,.bsl b n.kids.length]:=rfl;refine Lo hb hr ?_;refine Gz (Au0 n (S:=⟨_,S.toks⟩) (hM.tree n hT) hk1 hk2) ?_;intro r S2 hP _ _;obtain⟨rfl,ht,hM2⟩:=hP;refine Bj 100 rfl ?_;exact Bg func16 (h:=rfl) ⟨_,rfl,rfl,ht,hM.trans hM2⟩
def mkI(k:Nat)(n:Nat):List Int:=(List.range n).map fun i=>((k+i:Nat):Int)
def mb(k:Nat):Bool:=((k:Int).tmod 3==0)
theorem N8(k n:Nat):(mkI k n).length=n:=by simp[mkI]
theorem Atf(k n:Nat):mkI k (n+1)=mkI k n++[((k+n:Nat):Int)]:=by simp[mkI,List.range_succ]
theorem Axe{k n i:Nat}(h:i<n):(mkI k n)[i]?=some ((k+i:Nat):Int):=by simp[mkI,h]
theorem A12{α:Type}{a c ex:List α}{i:Nat}(ha:a.length=i)(hc:i<c.length):(a++(c.drop i++ex))[i]?=c[i]?:=by
 rw[Gj (by omega),ha,Fv,Cr (by rw[Ad4];omega),Ny,Pt]
theorem Ayq{α:Type}{a c ex:List α}{i:Nat}(y:α)(ha:a.length=i)(hc:i<c.length):(a++(c.drop i++ex)).set i y=(a++[y])++(c.drop (i+1)++ex):=by
 rw[Gi _ _ (by omega),ha,Fv,Aki hc,Pu,List.set_cons_zero,Fi,Akh]
theorem Ay7(a b:List Int):Ei (a++b)=Ei a++Ei b:=by simp[Ei]
def MaP(x:AV)(rows:List (List AV))(S:St)(k:Nat)(r:AV)(S':St):Prop:=r=vi k∧S'.toks=S.toks∧Chg (Jr x) S.boxes S'.boxes∧SlB S'.boxes x rows
theorem MaP.of{b n:Nat}{S:St}{rows ex:List (List AV)}{k:Nat}(hn:rows.length=n)(hb:b<S.boxes.length):MaP (.bsl b n) rows S k (vi k) ⟨S.boxes.set b (rows++ex),S.toks⟩:=by
 subst hn;exact⟨rfl,rfl,⟨by simp,fun c _ hc=>Fj (fun h=>hc (by simp[Jr,h]))⟩,.inl ⟨b,ex,rfl,Et hb⟩⟩
theorem V1{S:St}{x:AV}{l:List Int}(h:SlB S.boxes x (Ei l))(k:Nat)(h1:k+l.length≤1000000000000) :
 Runs X 24 [x,vi k] S (MaP x (Ei (mkI k l.length)) S (k+l.length)):=by
 have hlen:=C2 l;rcases h with⟨b,ex,rfl,hb⟩|⟨he,sp,rfl⟩
 ·have hbl:=Aa hb;rw[hlen];refine Runs.run func24 ?_;refine Ju (ι:=Nat) (fun i=>i≤l.length) (fun i=>[(5,vi i),(1,vi ((k+i:Nat):Int)),(0,.bsl b l.length)]) (fun i=>⟨S.boxes.set b (Ei (mkI k i)++((Ei l).drop i++ex)),S.toks⟩) (fun i=>l.length-i) ?_ 0 (Cc _)
   ⟨rfl,rfl,rfl,trivial⟩ (by obtain⟨bx,tk⟩:=S;simp only[St.mk.injEq,and_true];obtain⟨_,e⟩:=zzq107.1 hb;simp only[mkI,List.range_zero,List.map_nil,Ei,U8,List.drop_zero];rw[←Ei,←e,List.set_getElem_self])
  intro i hi IH;refine Dh (fun g=>?_) (fun g=>?_)
  ·have hlt:i<l.length:=by have:=A7 g;omega
   have hm:(Ei (mkI k i)).length=i:=by rw[C2,N8]
   obtain⟨a,ha⟩:=Ab l hlt;have hr:(Ei (mkI k i)++((Ei l).drop i++ex))[i]?=some [vi a]:=by rw[A12 hm (by omega)];exact Gf (f:=fun m=>[vi m]) ha
   refine Lm i hlt (Et hbl) hr rfl ?_;refine Rk (Et hbl) hr rfl ?_;refine IH (i+1) hlt (by omega) _ _ ⟨vsx (by omega),vsx (by omega),rfl,trivial⟩ ?_;simp only[St.mk.injEq,and_true];rw[List.set_set,Ayq _ hm (by omega),Atf,Ay7];rfl
  ·have:i=l.length:=by have:=Bd g;omega
   subst this;exact Bg func24 (h:=rfl) ⟨_,rfl,MaP.of (by rw[C2,N8]) hbl⟩
 ·have h0:l=[]:=by cases l with|nil=>rfl|cons a l=>simp[Ei]at he
  subst h0;refine Runs.run func24 ?_;refine Rj ?_;refine Bj 100 rfl ?_;refine Ah ?_;exact Bg func24 (h:=rfl) ⟨_,rfl,rfl,rfl,Chg.refl _ _,.inr ⟨rfl,sp,rfl⟩⟩
theorem Azk:∀{ys:List AV},(ys.flatMap Jr).Nodup→∀{i j b:Nat}{y z:AV},i≠j→ys[i]?=some y→ys[j]?=some z→b∈Jr y→b∉Jr z
 |[],_,i,j,b,y,z,_,h,_=>by simp at h
 |x::ys,hn,i,j,b,y,z,hij,hy,hz=>fun hb hb'=>by
  simp only[List.flatMap_cons]at hn;obtain⟨_,h2,h3⟩:=zzq109.1 hn
  match i,j,hij,hy,hz with
  |0,0,hij,_,_=>exact hij rfl
  |0,j+1,_,hy,hz=>
   simp at hy hz;subst hy;exact h3 b hb b (zzq108.2 ⟨z,Bh hz,hb'⟩) rfl
  |i+1,0,_,hy,hz=>
   simp at hy hz;subst hz;exact h3 b hb' b (zzq108.2 ⟨y,Bh hy,hb⟩) rfl
  |i+1,j+1,hij,hy,hz=>exact Azk h2 (i:=i) (j:=j) (by omega) (by simpa using hy) (by simpa using hz) hb hb'
theorem SlB.lt{bx:List (List (List AV))}{x:AV}{rows:List (List AV)}(h:SlB bx x rows):∀b,b∈Jr x→b<bx.length:=by
 rcases h with⟨b,ex,rfl,h⟩|⟨rfl,sp,rfl⟩
 ·intro c hc;simp[Jr]at hc;subst hc;exact Aa h
 ·intro c hc;simp[Jr]at hc
theorem SlB.shape{bx:List (List (List AV))}{x:AV}{rows:List (List AV)}(h:SlB bx x rows):(∃b n,x=.bsl b n)∨∃sp,x=.sl [] sp:=by
 rcases h with⟨b,ex,rfl,h⟩|⟨rfl,sp,rfl⟩
 ·exact .inl ⟨b,_,rfl⟩
 ·exact .inr ⟨sp,rfl⟩
abbrev E4(c:Cf)(V C:AV):List AV:=[vi c.pt,V,C,vi c.used,vi c.steps,vi c.trap,vi c.edge,vi c.acc]
theorem Vz(k n:Nat)(hn:k+n≤1000000000000):Pure X 34 [.sl (Ei (mkI k n)) .no,vi k] (vi ((k+n:Nat):Int)):=by
 have hlen:(Ei (mkI k n)).length=n:=by rw[C2,N8]
 refine Pure.run func34 ?_;refine Av (ι:=Nat) 0 0 (fun i=>i≤n) (fun i=>[(5,vi i),(1,vi ((k+i:Nat):Int)),(0,.sl (Ei (mkI k n)) .no)]) (fun i=>⟨[],[]⟩) (fun i=>n-i) ?_ 0 (Cc _)
  ⟨rfl,rfl,rfl,trivial⟩
 intro i hi IH;refine Dh (fun h=>?_) (fun h=>?_)
 ·have hlt:i<n:=by have:=A7 h;rw[hlen]at this;omega
  refine B7 i (by omega) (Gf (f:=fun m=>[vi m]) (Axe hlt)) ?_;refine Ah ?_ (ht:=by simp);refine IH (i+1) hlt (by omega) _ _ ⟨vsx (by omega),vsx (by omega),rfl,trivial⟩ rfl rfl rfl
 ·have:i=n:=by have:=Bd h;rw[hlen]at this;omega
  subst this;exact Au func34 rfl
abbrev wkp(n:Nd)(bc:Nat)(d:Int):List AV:=[.cptr (Mf n),.ptr bc 0 0,vi d]
structure CfS (S:St)(bc:Nat)(V C:AV)(ids:List Nat)(c:Cf):Prop where
 box:S.boxes[bc]?=some [E4 c V C]
 cf:CfB SlB S.boxes (.agg (E4 c V C)) ids c
 ne:bc∉ids
structure WkS (n:Nd)(S:St)(bw bc:Nat)(V C:AV)(ids:List Nat)(c:Cf)(d:Int):Prop where
 w:S.boxes[bw]?=some [wkp n bc d]
 c:CfS S bc V C ids c
 ne:bw≠bc∧bw∉ids
theorem CfS.more{S S':St}{bc:Nat}{V C:AV}{ids:List Nat}{c:Cf}(h:CfS S bc V C ids c){m:List (List (List AV))}(hb:S'.boxes=S.boxes++m):CfS S' bc V C ids c:=
 ⟨by rw[hb,Cr (Aa h.box)];exact h.box,by rw[hb];exact h.cf.more,h.ne⟩
theorem CfS.chg{S S':St}{bc:Nat}{V C:AV}{ids js:List Nat}{c:Cf}(h:CfS S bc V C ids c)(hc:Chg js S.boxes S'.boxes)(hb:bc∉js)(hd:∀i,i∈ids→i∉js):CfS S' bc V C ids c:=
 ⟨(hc.2 bc (Aa h.box) hb).trans h.box,h.cf.chg hc hd,h.ne⟩
theorem WkS.more{n:Nd}{S S':St}{bw bc:Nat}{V C:AV}{ids:List Nat}{c:Cf}{d:Int}(h:WkS n S bw bc V C ids c d){m:List (List (List AV))}(hb:S'.boxes=S.boxes++m):WkS n S' bw bc V C ids c d:=
 ⟨by rw[hb,Cr (Aa h.w)];exact h.w,h.c.more hb,h.ne⟩
theorem WkS.chg{n:Nd}{S S':St}{bw bc:Nat}{V C:AV}{ids js:List Nat}{c:Cf}{d:Int}(h:WkS n S bw bc V C ids c d)(hc:Chg js S.boxes S'.boxes)(hw:bw∉js)(hb:bc∉js)(hd:∀i,i∈ids→i∉js):WkS n S' bw bc V C ids c d:=
 ⟨(hc.2 bw (Aa h.w) hw).trans h.w,h.c.chg hc hb hd,h.ne⟩
theorem CfS.vars{S:St}{bc:Nat}{V C:AV}{ids:List Nat}{c:Cf}(h:CfS S bc V C ids c){i:Nat}{v:Int}(hv:c.vars[i]?=some v):∃(b:Nat)(ex:List (List AV)),V=.bsl b c.vars.length∧S.boxes[b]?=some (Ei c.vars++ex)∧(Ei c.vars++ex)[i]?=some [vi v]:=by
 obtain⟨V',C',ys,h1,_,_,h4,_⟩:=h.cf.ex;simp only[AV.agg.injEq,List.cons.injEq,and_true,true_and]at h1;obtain⟨rfl,rfl⟩:=h1;rcases h4 with⟨b,ex,rfl,hb⟩|⟨he,_⟩
 ·rw[C2];exact⟨b,ex,rfl,hb,by rw[Cr (by rw[C2];exact Aa hv)];exact Za hv⟩
 ·cases hc:c.vars with
  |nil=>rw[hc]at hv;simp at hv
  |cons a l=>rw[hc]at he;simp[Ei]at he
theorem CfS.row{S:St}{bc:Nat}{V C:AV}{ids:List Nat}{c:Cf}(h:CfS S bc V C ids c){i:Nat}{r:List (Bool×Int)}(hv:c.cells[i]?=some r):∃(b:Nat)(ys:List AV)(ex:List (List AV))(y:AV),C=.bsl b c.cells.length∧ys.length=c.cells.length∧S.boxes[b]?=some (ys.map (fun y=>[y])++ex)∧ys[i]?=some y∧(ys.map (fun y=>[y])++ex)[i]?=some [y]∧SlB S.boxes y (Rh r):=by
 obtain⟨V',C',ys,h1,_,_,_,h5,h6,h7⟩:=h.cf.ex;simp only[AV.agg.injEq,List.cons.injEq,and_true,true_and]at h1;obtain⟨rfl,rfl⟩:=h1;obtain⟨y,hy⟩:=Ab ys (i:=i) (by rw[h6];exact Aa hv);rcases h5 with⟨b,ex,rfl,hb⟩|⟨he,_⟩
 ·exact⟨b,ys,ex,y,by simp[h6],h6,hb,hy,by rw[Cr (by simpa using Aa hy),Gm,hy];rfl,h7 i y r hy hv⟩
 ·have:ys=[]:=by simpa using he
  subst this;simp at hy
theorem Aon(n:Nd){S:St}{bw bc:Nat}{V C:AV}{ids:List Nat}{c:Cf}{d:Int}(h:WkS n S bw bc V C ids c d){i:Nat}{r:List (Bool×Int)}(hr:c.cells[i]?=some r)(hl:r.length≤60)(x:Int) :
 Runs X 189 [.ptr bw 0 0,vi i,vi x] S (fun v S'=>v=vi (if Bl x 0 ((r.length:Int)-1)=true then 0 else 1)∧S'=S):=by
 obtain⟨b,ys,ex,y,hC,hyl,hb,hy,hrow,hsl⟩:=h.c.row hr;have hp:=Aqo x (r.length:Int) (by omega) (by omega);have z1:=h.w;have z2:=h.c.box;have hi:=Aa hr;subst hC;rcases hsl with⟨b2,ex2,rfl,_⟩|⟨he,sp,rfl⟩
 ·rw[Il]at hrow;refine Runs.run func189 ?_;refine Aw z1 ?_;refine Aw z2 ?_;refine Lm i hi hb hrow rfl ?_;refine Lo hb hrow ?_;refine G8 hp ?_;refine F4 (fun g=>?_) (fun g=>?_)
  ·have g':Bl x 0 ((r.length:Int)-1)=false:=by simpa using g
   refine Bg func189 (h:=rfl) ⟨_,rfl,?_,rfl⟩;rw[if_neg (by rw[g'];decide)];rfl
  ·have g':Bl x 0 ((r.length:Int)-1)=true:=by simpa using g
   refine Bg func189 (h:=rfl) ⟨_,rfl,?_,rfl⟩;rw[if_pos g'];rfl
 ·have h0:r=[]:=by cases r with|nil=>rfl|cons a l=>simp[Rh]at he
  subst h0;refine Runs.run func189 ?_;refine Aw z1 ?_;refine Aw z2 ?_;refine Lm i hi hb hrow rfl ?_;refine Lo hb hrow ?_;refine G8 hp ?_;refine F4 (fun g=>?_) (fun g=>?_)
  ·have g':Bl x 0 (((([]:List (Bool×Int)).length):Int)-1)=false:=by simpa using g
   refine Bg func189 (h:=rfl) ⟨_,rfl,?_,rfl⟩;rw[if_neg (by rw[g'];decide)];rfl
  ·have g':Bl x 0 (((([]:List (Bool×Int)).length):Int)-1)=true:=by simpa using g
   refine Bg func189 (h:=rfl) ⟨_,rfl,?_,rfl⟩;rw[if_pos g'];rfl
def VrP(n:Nd)(bw bc:Nat)(V C:AV)(ids:List Nat)(c:Cf)(S:St)(T:VR)(r:AV)(S':St):Prop:=r=vR T∧S'.toks=S.toks∧Chg [bw] S.boxes S'.boxes∧WkS n S' bw bc V C ids c T.2.2
structure VrS (n:Nd)(bw bc:Nat)(V C:AV)(ids:List Nat)(c:Cf)(S T0:St)(e:Nd)(l1 l2:Nat)(a b d:Int):Prop where
 e:T0.boxes[l1]?=some [Af e]
 a:T0.boxes[l2]?=some [[vi a,vi b]]
 w:WkS n T0 bw bc V C ids c d
 toks:T0.toks=S.toks
 chg:Chg [bw] S.boxes T0.boxes
 ne:bw≠l1∧bw≠l2
abbrev VrA(n:Nd)(bw bc:Nat)(V C:AV)(ids:List Nat)(c:Cf)(S T0:St)(l1 l2 m t:Nat)(T:VR):Prop:=
 AK X ⟨187,f187,m,t⟩ (Lj false 10 f187) [(0,.ptr bw 0 0),(3,.ptr l1 0 0),(6,.ptr l2 0 0)] T0 (fun e S'=>∃r,e=.ret r∧VrP n bw bc V C ids c S T r S')
section
variable {n:Nd}{bw bc:Nat}{V C:AV}{ids:List Nat}{c:Cf}{S T0:St}{l1 l2 m t:Nat}
theorem Ayk(k d:Int)(h:VrS n bw bc V C ids c S T0 (.mk 1 [] k []) l1 l2 0 0 d):VrA n bw bc V C ids c S T0 l1 l2 m t (k,0,d):=by
 have zE:=h.e;refine D3 ?_;refine Bq 60 rfl ?_;refine Aw zE ?_;refine Dm ?_;refine Aw zE ?_;exact Bg func187 (h:=rfl) ⟨_,rfl,rfl,h.toks,h.chg,h.w⟩
theorem Aym(hk:VOk n c)(s:List UInt8)(hs:Ey 0 (Ax n 31) s≥0)(d:Int)(h:VrS n bw bc V C ids c S T0 (.mk 2 s 0 []) l1 l2 0 0 d):VrA n bw bc V C ids c S T0 l1 l2 m t (c.vars.getD (Ey 0 (Ax n 31) s).toNat 0,0,d):=by
 obtain⟨i,v,h1,h2,h3⟩:=hk.var hs;obtain⟨bv,ex,hV,hb,hrow⟩:=h.w.c.vars h2;have hi:=Aa h2;subst hV;have kl:=hk.kl;have hq:=Xl n s (by omega);rw[h1]at hq;rw[h3];have zE:=h.e;have zw:=h.w.w;have zc:=h.w.c.box;refine D3 ?_;refine Bq 60 rfl ?_;refine Aw zE ?_;refine Bs ?_;refine Dm ?_;refine C8 0 (by kernel_rfl) ?_
 iterate 3 refine Ar ?_
 refine A0 (Aq zw) ?_
 iterate 2 refine Ar ?_
 refine A0 (Aq zc) ?_
 iterate 3 refine Ar ?_
 refine A0 (Aq zw) ?_;refine Ar ?_;refine A0 (Aq zE) ?_;refine Ja hq ?_;refine A0 (F8 (hj:=by simpa[Fs]using hi) (hb:=hb) (hr:=hrow) (hl:=rfl)) ?_;refine A0 (Kp hb hrow) ?_
 iterate 2 refine Ar ?_
 refine Gn ?_;exact Bg func187 (h:=rfl) ⟨_,rfl,rfl,h.toks,h.chg,h.w⟩
theorem Ayh(hk:VOk n c)(s:List UInt8)(hs:Ey 0 (Ax n 32) s≥0)(d:Int)(h:VrS n bw bc V C ids c S T0 (.mk 4 s 0 []) l1 l2 0 0 d):VrA n bw bc V C ids c S T0 l1 l2 m t ((Xo n c s).length,0,d):=by
 obtain⟨i,r,h1,h2,h3,h4⟩:=hk.row hs;obtain⟨b,ys,ex,y,hC,hyl,hb,hy,hrow,hsl⟩:=h.w.c.row h2;have hi:=Aa h2;subst hC;have kl:=hk.kl;have hq:=Ah0 n s (by omega);rw[h1]at hq;rw[h3];have zE:=h.e;have zw:=h.w.w;have zc:=h.w.c.box;rcases hsl with⟨b2,ex2,rfl,_⟩|⟨he,sp,rfl⟩
 ·rw[Il]at hrow;refine D3 ?_;refine Bq 60 rfl ?_;refine Aw zE ?_
  iterate 2 refine Bs ?_
  refine Dm ?_;refine C8 0 (by kernel_rfl) ?_
  iterate 3 refine Ar ?_
  refine A0 (Aq zw) ?_
  iterate 2 refine Ar ?_
  refine A0 (Aq zc) ?_
  iterate 3 refine Ar ?_
  refine A0 (Aq zw) ?_;refine Ar ?_;refine A0 (Aq zE) ?_;refine Ja hq ?_;refine A0 (F8 (hj:=by simpa[Fs]using hi) (hb:=hb) (hr:=hrow) (hl:=rfl)) ?_;refine A0 (Kp hb hrow) ?_
  iterate 3 refine Ar ?_
  refine Gn ?_;exact Bg func187 (h:=rfl) ⟨_,rfl,rfl,h.toks,h.chg,h.w⟩
 ·have h0:r=[]:=by cases r with|nil=>rfl|cons a l=>simp[Rh]at he
  subst h0;refine D3 ?_;refine Bq 60 rfl ?_;refine Aw zE ?_
  iterate 2 refine Bs ?_
  refine Dm ?_;refine C8 0 (by kernel_rfl) ?_
  iterate 3 refine Ar ?_
  refine A0 (Aq zw) ?_
  iterate 2 refine Ar ?_
  refine A0 (Aq zc) ?_
  iterate 3 refine Ar ?_
  refine A0 (Aq zw) ?_;refine Ar ?_;refine A0 (Aq zE) ?_;refine Ja hq ?_;refine A0 (F8 (hj:=by simpa[Fs]using hi) (hb:=hb) (hr:=hrow) (hl:=rfl)) ?_;refine A0 (Kp hb hrow) ?_
  iterate 3 refine Ar ?_
  refine Gn ?_;exact Bg func187 (h:=rfl) ⟨_,rfl,rfl,h.toks,h.chg,h.w⟩
theorem Ayj(x:List Nd)(a b d:Int)(h:VrS n bw bc V C ids c S T0 (.mk 5 [] 0 x) l1 l2 a b d):VrA n bw bc V C ids c S T0 l1 l2 m t (Nr (IntKind.i64.wrap (-a)) d):=by
 have zE:=h.e;have zA:=h.a;have e1:(Nr (IntKind.i64.wrap (-a)) d).2.2=d:=by unfold Nr;split<;>rfl
 refine D3 ?_;refine Bq 60 rfl ?_;refine Aw zE ?_
 iterate 3 refine Bs ?_
 refine Dm ?_
 iterate 1 refine Aw zA ?_
 refine G8 (Vs (IntKind.i64.wrap (-a)) d) ?_;exact Bg func187 (h:=rfl) ⟨_,rfl,rfl,h.toks,h.chg,by rw[e1];exact h.w⟩
theorem Ayg(x:List Nd)(a b d:Int)(h:VrS n bw bc V C ids c S T0 (.mk 6 [] 0 x) l1 l2 a b d):VrA n bw bc V C ids c S T0 l1 l2 m t (Nr (IntKind.i64.wrap (a+b)) d):=by
 have zE:=h.e;have zA:=h.a;have e1:(Nr (IntKind.i64.wrap (a+b)) d).2.2=d:=by unfold Nr;split<;>rfl
 refine D3 ?_;refine Bq 60 rfl ?_;refine Aw zE ?_
 iterate 4 refine Bs ?_
 refine Dm ?_
 iterate 2 refine Aw zA ?_
 refine G8 (Vs (IntKind.i64.wrap (a+b)) d) ?_;exact Bg func187 (h:=rfl) ⟨_,rfl,rfl,h.toks,h.chg,by rw[e1];exact h.w⟩
theorem Ayl(x:List Nd)(a b d:Int)(h:VrS n bw bc V C ids c S T0 (.mk 7 [] 0 x) l1 l2 a b d):VrA n bw bc V C ids c S T0 l1 l2 m t (Nr (IntKind.i64.wrap (a-b)) d):=by
 have zE:=h.e;have zA:=h.a;have e1:(Nr (IntKind.i64.wrap (a-b)) d).2.2=d:=by unfold Nr;split<;>rfl
 refine D3 ?_;refine Bq 60 rfl ?_;refine Aw zE ?_
 iterate 5 refine Bs ?_
 refine Dm ?_
 iterate 2 refine Aw zA ?_
 refine G8 (Vs (IntKind.i64.wrap (a-b)) d) ?_;exact Bg func187 (h:=rfl) ⟨_,rfl,rfl,h.toks,h.chg,by rw[e1];exact h.w⟩
theorem Ayi(x:List Nd)(a b d:Int)(h:VrS n bw bc V C ids c S T0 (.mk 8 [] 0 x) l1 l2 a b d):VrA n bw bc V C ids c S T0 l1 l2 m t (Nr (IntKind.i64.wrap (a*b)) d):=by
 have zE:=h.e;have zA:=h.a;have e1:(Nr (IntKind.i64.wrap (a*b)) d).2.2=d:=by unfold Nr;split<;>rfl
 refine D3 ?_;refine Bq 60 rfl ?_;refine Aw zE ?_
 iterate 6 refine Bs ?_
 refine Dm ?_
 iterate 2 refine Aw zA ?_
 refine G8 (Vs (IntKind.i64.wrap (a*b)) d) ?_;exact Bg func187 (h:=rfl) ⟨_,rfl,rfl,h.toks,h.chg,by rw[e1];exact h.w⟩
end
section
variable {n:Nd}{bw bc:Nat}{V C:AV}{ids:List Nat}{c:Cf}{S T0:St}{l1 l2 m t:Nat}
theorem Aui(hk:VOk n c)(s:List UInt8)(hs:Ey 0 (Ax n 32) s≥0)(x:List Nd)(a d:Int)(hS:S.boxes.length≤l2)(h:VrS n bw bc V C ids c S T0 (.mk 3 s 0 x) l1 l2 a 0 d):VrA n bw bc V C ids c S T0 l1 l2 m t (Nu (Xo n c s) a d):=by
 obtain⟨i,r,h1,h2,h3,h4⟩:=hk.row hs;obtain⟨b,ys,ex,y,hC,hyl,hb,hy,hrow,hsl⟩:=h.w.c.row h2;have hi:=Aa h2;subst hC;have kl:=hk.kl;have hq:=Ah0 n s (by omega);rw[h1]at hq;rw[h3];have zE:=h.e;have zA:=h.a;have zw:=h.w.w;have zc:=h.w.c.box;refine D3 ?_;refine Bq 60 rfl ?_;refine Aw zE ?_
 iterate 7 refine Bs ?_
 refine C8 0 (by kernel_rfl) ?_
 iterate 3 refine Ar ?_
 refine A0 (Aq zw) ?_;refine Ar ?_;refine A0 (Aq zE) ?_;refine Ja hq ?_;refine Ar ?_;refine Gn ?_;refine Aw zA ?_;refine Gz (Aon n h.w h2 h4 a) ?_;intro v S' hP _ _;obtain⟨rfl,rfl⟩:=hP;refine Bq 60 rfl ?_;cases hbt:Bl a 0 ((r.length:Int)-1)with
 |false=>
  rw[if_neg (by simp)];have e1:Nu r a d=(0,1,d):=by unfold Nu;rw[if_neg (by simp[hbt])]
  rw[e1];refine Dm ?_;exact Bg func187 (h:=rfl) ⟨_,rfl,rfl,h.toks,h.chg,h.w⟩
 |true=>
  rw[if_pos rfl];have hb':=Cj.1 hbt;obtain⟨j,rfl⟩:∃j:Nat,a=j:=⟨a.toNat,by omega⟩
  obtain⟨z,hz⟩:=Ab r (i:=j) (by omega);obtain⟨w,mm⟩:=z;rcases hsl with⟨b2,ex2,rfl,hb2⟩|⟨he,sp,rfl⟩
  ·have hjl:j<(Rh r).length:=by rw[Il];exact Aa hz
   have hrow2:(Rh r++ex2)[j]?=some [vb w,vi mm]:=by rw[Cr hjl];exact Gf (f:=Wi) hz
   have gx:∀{i:Nat} {y:List (List AV)} {more:List (List (List AV))},S'.boxes[i]?=some y→(S'.boxes++more)[i]?=some y:=fun{i y more} h=>by rw[Cr (Aa h)];exact h
   have e1:Nu r j d=if w=true then(mm,0,IntKind.i64.wrap (d+1))else(0,2,d):=by
    unfold Nu;rw[if_pos hbt,Hc,Aie,hz];rfl
   refine Bs ?_;refine C8 49152 (by kernel_rfl) ?_
   iterate 3 refine Ar ?_
   refine A0 (Aq zw) ?_
   iterate 2 refine Ar ?_
   refine A0 (Aq zc) ?_;refine Ar ?_;refine A0 (F8 (hj:=by simpa[Fs]using hi) (hb:=hb) (hr:=hrow) (hl:=rfl)) ?_;refine A0 (Kp hb hrow) ?_;refine Ar ?_;refine A0 (Aq zA) ?_;refine A0 (F8 (hj:=by simpa[Fs]using hjl) (hb:=hb2) (hr:=hrow2) (hl:=rfl)) ?_;refine A0 (Kp hb2 hrow2) ?_;refine Dx (Pe rfl rfl) ?_ ?_
   ·exact An (Kp (gx hb2) hrow2) (An (F8 (hj:=by simpa[Fs]using hjl) (hb:=gx hb2) (hr:=hrow2) (hl:=rfl)) (An (Aq (gx zA)) (An (Kp (gx hb) hrow)
     (An (F8 (hj:=by simpa[Fs]using hi) (hb:=gx hb) (hr:=hrow) (hl:=rfl)) (An (Aq (gx zc)) (An (Aq (gx zw)) G0))))))
   have z13:(S'.boxes++[[[vb false,vi 0]]])[S'.boxes.length]?=some [[vb false,vi 0]]:=by simp
   refine Ch (Jw (r:=0) z13 rfl rfl) ?_;refine Gn ?_;obtain⟨S2,hS2⟩:∃S2:St,S2=⟨S'.boxes++[[[vb w,vi mm]]],S'.toks⟩:=⟨_,rfl⟩
   refine Ba S2 ?_ (by rw[hS2];exact congrArg (fun x=>St.mk x _) (by rw[Gi _ _ (Bo _),Fv];rfl));have z2:S2.boxes[S'.boxes.length]?=some [[vb w,vi mm]]:=by rw[hS2];simp
   have hW2:WkS n S2 bw bc V (.bsl b c.cells.length) ids c d:=h.w.more (by rw[hS2]);have hch2:Chg [bw] S.boxes S2.boxes:=by rw[hS2];exact(h.chg.trans (Chg.snoc [] S'.boxes _)).more fun i hi=>by simpa using hi
   have htk2:S2.toks=S.toks:=by rw[hS2];exact h.toks
   refine Aw z2 ?_;cases w with
   |false=>
    refine Dm ?_;rw[e1,if_neg (by simp)];exact Bg func187 (h:=rfl) ⟨_,rfl,rfl,htk2,hch2,hW2⟩
   |true=>
    refine Bs ?_;refine Aw hW2.w ?_;refine Cd hW2.w rfl ?_;have hbl:=Aa hW2.w;have hch3:Chg [bw] S2.boxes (S2.boxes.set bw [wkp n bc (IntKind.i64.wrap (d+1))]):=⟨by simp,fun i _ hi=>Fj (fun h=>hi (by simp[h]))⟩
    have hne:bw≠S'.boxes.length:=by have:=Aa zw;omega
    refine Aw (b:=S'.boxes.length) (cs:=[vb true,vi mm]) (by rw[Fj hne];exact z2) ?_;rw[e1,if_pos rfl];refine Bg func187 (h:=rfl) ⟨_,rfl,rfl,htk2,(hch2.trans hch3).more fun i hi=>by simpa using hi,⟨Et hbl,hW2.c.chg hch3 (by simpa using hW2.ne.1.symm) fun i hi hi2=>?_,hW2.ne⟩⟩;simp at hi2;subst hi2;exact hW2.ne.2 hi
  ·have h0:r=[]:=by cases r with|nil=>rfl|cons a l=>simp[Rh]at he
   subst h0;simp at hz
end
abbrev VrR(n:Nd)(bw bc:Nat)(V C:AV)(ids:List Nat)(c:Cf)(e:Nd)(d:Int)(T:VR):Prop:=
 ∀S:St,WkS n S bw bc V C ids c d→Runs X 187 [.ptr bw 0 0,nd e] S (VrP n bw bc V C ids c S T)
section
variable {n:Nd}{bw bc:Nat}{V C:AV}{ids:List Nat}{c:Cf}
theorem VrS.step{S T1 T2:St}{e:Nd}{l1 l2:Nat}{a b a' b' d d':Int}(h:VrS n bw bc V C ids c S T1 e l1 l2 a b d)(hb:T2.boxes[l1]?=some [Af e])(ha:T2.boxes[l2]?=some [[vi a',vi b']])(hw:WkS n T2 bw bc V C ids c d')(ht:T2.toks=S.toks)(hc:Chg [bw] S.boxes T2.boxes) :
 VrS n bw bc V C ids c S T2 e l1 l2 a' b' d':=⟨hb,ha,hw,ht,hc,h.ne⟩
theorem T3{S:St}(h:CfS S bc V C ids c):∀i,i∈ids→i<S.boxes.length:=by
 obtain⟨V',C',ys,_,rfl,_,h4,h5,h6,h7⟩:=h.cf.ex;intro i hi;simp only[zzq47,zzq108]at hi;rcases hi with h|h|⟨y,hy,hi⟩
 ·exact h4.lt i h
 ·exact h5.lt i h
 ·obtain⟨j,hj⟩:=Bw hy;obtain⟨l,hl⟩:=Ab c.cells (i:=j) (by rw[←h6];exact Aa hj);exact(h7 j y l hj hl).lt i hi
theorem Auj(k:Int)(s:List UInt8)(m d:Int)(T:VR)(h:∀{S T0:St}{l1 l2 m' t':Nat},VrS n bw bc V C ids c S T0 (.mk k s m []) l1 l2 0 0 d→VrA n bw bc V C ids c S T0 l1 l2 m' t' T):VrR n bw bc V C ids c (.mk k s m []) d T:=by
 intro S hW;refine Runs.run func187 ?_;refine Wx rfl rfl ?_;refine G9 W5 rfl rfl ?_;refine Mi (b:=S.boxes.length+1) (by simp) rfl ?_;refine Cd (b:=S.boxes.length+1) (cs:=[vi 0,vi 0]) (by simp) rfl ?_;obtain⟨T0,hT0⟩:∃T0:St,T0=⟨S.boxes++[[Af (.mk k s m [])]]++[[[vi 0,vi 0]]],S.toks⟩:=⟨_,rfl⟩
 refine Ba T0 ?_ (by rw[hT0];exact congrArg (fun x=>St.mk x _) (by rw[show S.boxes.length+1=(S.boxes++[[Af (.mk k s m [])]]).length by simp];exact(by rw[Gi _ _ (Bo _),Fv];rfl)));have hbw:=Aa hW.w;have h0:VrS n bw bc V C ids c S T0 (.mk k s m []) S.boxes.length (S.boxes.length+1) 0 0 d:=
  ⟨by rw[hT0];simp,by rw[hT0];simp,hW.more (m:=[[Af (.mk k s m [])],[[vi 0,vi 0]]]) (by rw[hT0];simp),by rw[hT0],by rw[hT0];exact((Chg.snoc [] S.boxes _).trans (Chg.snoc [] _ _)).more fun i hi=>by simp at hi,by omega,by omega⟩
 refine Aw h0.e ?_;refine Rj ?_;refine Bq 60 rfl ?_;refine Eu (e:=false) 0 10 (fun h=>nomatch h) (fun _=>?_);exact Tq (G:=[(0,.ptr bw 0 0),(3,.ptr S.boxes.length 0 0),(6,.ptr (S.boxes.length+1) 0 0)]) ⟨rfl,rfl,rfl,trivial⟩ (h h0)
theorem Azs(k:Int)(s:List UInt8)(m d:Int)(x:Nd)(v t d1:Int)(T:VR)(ihx:VrR n bw bc V C ids c x d (v,t,d1))(hno:¬t=0→T=(0,t,d1))
 (h:t=0→∀{S T0:St}{l1 l2 m' t':Nat},S.boxes.length≤l2→VrS n bw bc V C ids c S T0 (.mk k s m [x]) l1 l2 v 0 d1→VrA n bw bc V C ids c S T0 l1 l2 m' t' T):VrR n bw bc V C ids c (.mk k s m [x]) d T:=by
 intro S hW;refine Runs.run func187 ?_;refine Wx rfl rfl ?_;refine G9 W5 rfl rfl ?_;refine Mi (b:=S.boxes.length+1) (by simp) rfl ?_;refine Cd (b:=S.boxes.length+1) (cs:=[vi 0,vi 0]) (by simp) rfl ?_;obtain⟨T0,hT0⟩:∃T0:St,T0=⟨S.boxes++[[Af (.mk k s m [x])]]++[[[vi 0,vi 0]]],S.toks⟩:=⟨_,rfl⟩
 refine Ba T0 ?_ (by rw[hT0];exact congrArg (fun x=>St.mk x _) (by rw[show S.boxes.length+1=(S.boxes++[[Af (.mk k s m [x])]]).length by simp];exact(by rw[Gi _ _ (Bo _),Fv];rfl)));have hbw:=Aa hW.w;have h0:VrS n bw bc V C ids c S T0 (.mk k s m [x]) S.boxes.length (S.boxes.length+1) 0 0 d:=
  ⟨by rw[hT0];simp,by rw[hT0];simp,hW.more (m:=[[Af (.mk k s m [x])],[[vi 0,vi 0]]]) (by rw[hT0];simp),by rw[hT0],by rw[hT0];exact((Chg.snoc [] S.boxes _).trans (Chg.snoc [] _ _)).more fun i hi=>by simp at hi,by omega,by omega⟩
 refine Aw h0.e ?_;refine Rj ?_;have hl0:=Aa h0.a;have hbw0:=Aa h0.w.w;refine Bq 60 rfl ?_;refine Dm ?_;refine Mj 0 (by decide) (Am (l:=[x]) rfl) ?_;refine Mi (b:=T0.boxes.length) rfl rfl ?_;refine Cd (b:=T0.boxes.length) (cs:=zN) (by simp) rfl ?_;obtain⟨U0,hU0⟩:∃U:St,U=⟨T0.boxes++[[Af x]],T0.toks⟩:=⟨_,rfl⟩
 refine Ba U0 ?_ (by rw[hU0];exact congrArg (fun x=>St.mk x _) (by rw[Gi _ _ (Bo _),Fv];rfl));have hu0:U0.boxes[T0.boxes.length]?=some [Af x]:=by rw[hU0];simp
 refine Aw hu0 ?_;refine Gz (ihx U0 (h0.w.more (by rw[hU0]))) ?_;intro r W0 hP _ _;obtain⟨rfl,ht0,hc0,hW0⟩:=hP;refine Bq 60 rfl ?_;have hcc0:Chg [bw] S.boxes W0.boxes:=((h0.chg.trans (Chg.snoc [] T0.boxes [Af x])).trans (by rw[hU0]at hc0;exact hc0)).more fun i hi=>by simpa using hi
 have htt0:W0.toks=S.toks:=by rw[ht0,hU0];exact h0.toks
 refine F4 (fun g=>?_) (fun g=>?_)
 ·have g':¬t=0:=by simpa using(show (t != 0)=true from g)
  rw[hno g'];exact Bg func187 (h:=rfl) ⟨_,rfl,rfl,htt0,hcc0,hW0⟩
 have gt:t=0:=by simpa using(show (t != 0)=false from g)
 have up0:∀{i:Nat} {y:List (List AV)},i≠bw→T0.boxes[i]?=some y→W0.boxes[i]?=some y:=fun{i y} hi h=>(hc0.2 i (by rw[hU0];simp;have:=Aa h;omega) (by simpa using hi)).trans (by rw[hU0,Cr (Aa h)];exact h);have ha0:=up0 h0.ne.2.symm h0.a;refine G9 (Ach (m:=2) (n:=0) (by decide) (by decide)) rfl rfl ?_;refine Cd ha0 rfl ?_;obtain⟨T1,hT1⟩:∃U:St,U=⟨W0.boxes.set (S.boxes.length+1) [[vi v,vi 0]],W0.toks⟩:=⟨_,rfl⟩
 refine Ba T1 ?_ hT1.symm;have hsb0:Chg [S.boxes.length+1] W0.boxes T1.boxes:=by rw[hT1];exact⟨by simp,fun i _ hi=>Fj (fun h=>hi (by simp[h]))⟩
 have h1:VrS n bw bc V C ids c S T1 (.mk k s m [x]) S.boxes.length (S.boxes.length+1) v 0 d1:=
  h0.step (by rw[hT1,Fj (by omega)];exact up0 h0.ne.1.symm h0.e) (by rw[hT1];exact Et (Aa ha0))
   (hW0.chg hsb0 (by simp;omega) (by have:=Aa hW.c.box;simp;omega) fun i hi hi2=>by simp at hi2;have:=T3 hW.c i hi;omega) (by rw[hT1];exact htt0)
   ⟨by rw[hT1];simpa using hcc0.1,fun i hi hi2=>(hsb0.2 i (Mx hi hcc0.1) (by simp;omega)).trans (hcc0.2 i hi hi2)⟩
 refine P4 ?_;refine Bq 60 rfl ?_;refine Eu (e:=false) 0 10 (fun h=>nomatch h) (fun _=>?_);exact Tq (G:=[(0,.ptr bw 0 0),(3,.ptr S.boxes.length 0 0),(6,.ptr (S.boxes.length+1) 0 0)]) ⟨rfl,rfl,rfl,trivial⟩ (h gt (by omega) h1)
theorem A30(k:Int)(s:List UInt8)(m d:Int)(x y:Nd)(v t d1 v2 t2 d2:Int)(T:VR)(ihx:VrR n bw bc V C ids c x d (v,t,d1))(ihy:VrR n bw bc V C ids c y d1 (v2,t2,d2))(hno:¬t=0→T=(0,t,d1))(hno2:t=0→¬t2=0→T=(0,t2,d2))
 (h:t=0→t2=0→∀{S T0:St}{l1 l2 m' t':Nat},VrS n bw bc V C ids c S T0 (.mk k s m [x,y]) l1 l2 v v2 d2→VrA n bw bc V C ids c S T0 l1 l2 m' t' T):VrR n bw bc V C ids c (.mk k s m [x,y]) d T:=by
 intro S hW;refine Runs.run func187 ?_;refine Wx rfl rfl ?_;refine G9 W5 rfl rfl ?_;refine Mi (b:=S.boxes.length+1) (by simp) rfl ?_;refine Cd (b:=S.boxes.length+1) (cs:=[vi 0,vi 0]) (by simp) rfl ?_;obtain⟨T0,hT0⟩:∃T0:St,T0=⟨S.boxes++[[Af (.mk k s m [x,y])]]++[[[vi 0,vi 0]]],S.toks⟩:=⟨_,rfl⟩
 refine Ba T0 ?_ (by rw[hT0];exact congrArg (fun x=>St.mk x _) (by rw[show S.boxes.length+1=(S.boxes++[[Af (.mk k s m [x,y])]]).length by simp];exact(by rw[Gi _ _ (Bo _),Fv];rfl)));have hbw:=Aa hW.w;have h0:VrS n bw bc V C ids c S T0 (.mk k s m [x,y]) S.boxes.length (S.boxes.length+1) 0 0 d:=
  ⟨by rw[hT0];simp,by rw[hT0];simp,hW.more (m:=[[Af (.mk k s m [x,y])],[[vi 0,vi 0]]]) (by rw[hT0];simp),by rw[hT0],by rw[hT0];exact((Chg.snoc [] S.boxes _).trans (Chg.snoc [] _ _)).more fun i hi=>by simp at hi,by omega,by omega⟩
 refine Aw h0.e ?_;refine Rj ?_;have hl0:=Aa h0.a;have hbw0:=Aa h0.w.w;refine Bq 60 rfl ?_;refine Dm ?_;refine Mj 0 (by decide) (Am (l:=[x,y]) rfl) ?_;refine Mi (b:=T0.boxes.length) rfl rfl ?_;refine Cd (b:=T0.boxes.length) (cs:=zN) (by simp) rfl ?_;obtain⟨U0,hU0⟩:∃U:St,U=⟨T0.boxes++[[Af x]],T0.toks⟩:=⟨_,rfl⟩
 refine Ba U0 ?_ (by rw[hU0];exact congrArg (fun x=>St.mk x _) (by rw[Gi _ _ (Bo _),Fv];rfl));have hu0:U0.boxes[T0.boxes.length]?=some [Af x]:=by rw[hU0];simp
 refine Aw hu0 ?_;refine Gz (ihx U0 (h0.w.more (by rw[hU0]))) ?_;intro r W0 hP _ _;obtain⟨rfl,ht0,hc0,hW0⟩:=hP;refine Bq 60 rfl ?_;have hcc0:Chg [bw] S.boxes W0.boxes:=((h0.chg.trans (Chg.snoc [] T0.boxes [Af x])).trans (by rw[hU0]at hc0;exact hc0)).more fun i hi=>by simpa using hi
 have htt0:W0.toks=S.toks:=by rw[ht0,hU0];exact h0.toks
 refine F4 (fun g=>?_) (fun g=>?_)
 ·have g':¬t=0:=by simpa using(show (t != 0)=true from g)
  rw[hno g'];exact Bg func187 (h:=rfl) ⟨_,rfl,rfl,htt0,hcc0,hW0⟩
 have gt:t=0:=by simpa using(show (t != 0)=false from g)
 have up0:∀{i:Nat} {y:List (List AV)},i≠bw→T0.boxes[i]?=some y→W0.boxes[i]?=some y:=fun{i y} hi h=>(hc0.2 i (by rw[hU0];simp;have:=Aa h;omega) (by simpa using hi)).trans (by rw[hU0,Cr (Aa h)];exact h);have ha0:=up0 h0.ne.2.symm h0.a;refine G9 (Ach (m:=2) (n:=0) (by decide) (by decide)) rfl rfl ?_;refine Cd ha0 rfl ?_;obtain⟨T1,hT1⟩:∃U:St,U=⟨W0.boxes.set (S.boxes.length+1) [[vi v,vi 0]],W0.toks⟩:=⟨_,rfl⟩
 refine Ba T1 ?_ hT1.symm;have hsb0:Chg [S.boxes.length+1] W0.boxes T1.boxes:=by rw[hT1];exact⟨by simp,fun i _ hi=>Fj (fun h=>hi (by simp[h]))⟩
 have h1:VrS n bw bc V C ids c S T1 (.mk k s m [x,y]) S.boxes.length (S.boxes.length+1) v 0 d1:=
  h0.step (by rw[hT1,Fj (by omega)];exact up0 h0.ne.1.symm h0.e) (by rw[hT1];exact Et (Aa ha0))
   (hW0.chg hsb0 (by simp;omega) (by have:=Aa hW.c.box;simp;omega) fun i hi hi2=>by simp at hi2;have:=T3 hW.c i hi;omega) (by rw[hT1];exact htt0)
   ⟨by rw[hT1];simpa using hcc0.1,fun i hi hi2=>(hsb0.2 i (Mx hi hcc0.1) (by simp;omega)).trans (hcc0.2 i hi hi2)⟩
 refine P4 ?_;have hno2':=hno2 gt;have hl1:=Aa h1.a;have hbw1:=Aa h1.w.w;refine Bq 60 rfl ?_;refine Dm ?_;refine Mj 1 (by decide) (Am (l:=[x,y]) rfl) ?_;refine Mi (b:=T1.boxes.length) rfl rfl ?_;refine Cd (b:=T1.boxes.length) (cs:=zN) (by simp) rfl ?_;obtain⟨U1,hU1⟩:∃U:St,U=⟨T1.boxes++[[Af y]],T1.toks⟩:=⟨_,rfl⟩
 refine Ba U1 ?_ (by rw[hU1];exact congrArg (fun x=>St.mk x _) (by rw[Gi _ _ (Bo _),Fv];rfl));have hu1:U1.boxes[T1.boxes.length]?=some [Af y]:=by rw[hU1];simp
 refine Aw hu1 ?_;refine Gz (ihy U1 (h1.w.more (by rw[hU1]))) ?_;intro r W1 hP _ _;obtain⟨rfl,ht1,hc1,hW1⟩:=hP;refine Bq 60 rfl ?_;have hcc1:Chg [bw] S.boxes W1.boxes:=((h1.chg.trans (Chg.snoc [] T1.boxes [Af y])).trans (by rw[hU1]at hc1;exact hc1)).more fun i hi=>by simpa using hi
 have htt1:W1.toks=S.toks:=by rw[ht1,hU1];exact h1.toks
 refine F4 (fun g=>?_) (fun g=>?_)
 ·have g':¬t2=0:=by simpa using(show (t2 != 0)=true from g)
  rw[hno2' g'];exact Bg func187 (h:=rfl) ⟨_,rfl,rfl,htt1,hcc1,hW1⟩
 have gt2:t2=0:=by simpa using(show (t2 != 0)=false from g)
 have up1:∀{i:Nat} {y:List (List AV)},i≠bw→T1.boxes[i]?=some y→W1.boxes[i]?=some y:=fun{i y} hi h=>(hc1.2 i (by rw[hU1];simp;have:=Aa h;omega) (by simpa using hi)).trans (by rw[hU1,Cr (Aa h)];exact h);have ha1:=up1 h1.ne.2.symm h1.a;refine G9 (Ach (m:=2) (n:=1) (by decide) (by decide)) rfl rfl ?_;refine Cd ha1 rfl ?_;obtain⟨T2,hT2⟩:∃U:St,U=⟨W1.boxes.set (S.boxes.length+1) [[vi v,vi v2]],W1.toks⟩:=⟨_,rfl⟩
 refine Ba T2 ?_ hT2.symm;have hsb1:Chg [S.boxes.length+1] W1.boxes T2.boxes:=by rw[hT2];exact⟨by simp,fun i _ hi=>Fj (fun h=>hi (by simp[h]))⟩
 have h2:VrS n bw bc V C ids c S T2 (.mk k s m [x,y]) S.boxes.length (S.boxes.length+1) v v2 d2:=
  h1.step (by rw[hT2,Fj (by omega)];exact up1 h1.ne.1.symm h1.e) (by rw[hT2];exact Et (Aa ha1))
   (hW1.chg hsb1 (by simp;omega) (by have:=Aa hW.c.box;simp;omega) fun i hi hi2=>by simp at hi2;have:=T3 hW.c i hi;omega) (by rw[hT2];exact htt1)
   ⟨by rw[hT2];simpa using hcc1.1,fun i hi hi2=>(hsb1.2 i (Mx hi hcc1.1) (by simp;omega)).trans (hcc1.2 i hi hi2)⟩
 refine P4 ?_;refine Bq 60 rfl ?_;refine Eu (e:=false) 0 10 (fun h=>nomatch h) (fun _=>?_);exact Tq (G:=[(0,.ptr bw 0 0),(3,.ptr S.boxes.length 0 0),(6,.ptr (S.boxes.length+1) 0 0)]) ⟨rfl,rfl,rfl,trivial⟩ (h gt gt2 h2)
theorem Y0(hk:VOk n c){e:Nd}(h:FE e):E9 (Ax n 31) (Ax n 32) e=true→∀d,VrR n bw bc V C ids c e d (C6 n c e d):=by
 induction h with
 |num m h0 h1=>
  intro _ d;exact Auj 1 [] m d (m,0,d) (Ayk m d)
 |var s h=>
  intro hn d;exact Auj 2 s 0 d _ (Aym hk s ((Wk hn).1 rfl) d)
 |cell s a h ha ih=>
  intro hn d;have hi:=ih (Ahm hn) d;rcases hv:C6 n c a d with⟨v,t,d1⟩
  rw[hv]at hi;rw[Af7 hv];refine Azs 3 s 0 d a v t d1 _ hi (fun g=>if_neg g) (fun g=>?_);intro S T0 l1 l2 m' t' hl hS;rw[if_pos g];exact Aui hk s ((Wk hn).2 rfl) [a] v d1 hl hS
 |len s h=>
  intro hn d;exact Auj 4 s 0 d _ (Ayh hk s ((Wk hn).2 rfl) d)
 |neg a ha ih=>
  intro hn d;have hi:=ih (Ahm hn) d;rcases hv:C6 n c a d with⟨v,t,d1⟩
  rw[hv]at hi;rw[Af7 hv];refine Azs 5 [] 0 d a v t d1 _ hi (fun g=>if_neg g) (fun g=>?_);intro S T0 l1 l2 m' t' _ hS;rw[if_pos g];exact Ayj [a] v 0 d1 hS
 |two k a b hk' ha hb iha ihb=>
  intro hn d;obtain⟨n1,n2⟩:=Aab hn;rcases hv:C6 n c a d with⟨v,t,d1⟩
  rcases hv2:C6 n c b d1 with⟨v2,t2,d2⟩
  have h1:=iha n1 d;have h2:=ihb n2 d1;rw[hv]at h1;rw[hv2]at h2;rw[Ava hv hv2];refine A30 k [] 0 d a b v t d1 v2 t2 d2 _ h1 h2 (fun g=>if_neg g) (fun g g2=>by rw[if_pos g,if_neg g2]) (fun g g2=>?_);intro S T0 l1 l2 m' t' hS;rw[if_pos g,if_pos g2];rcases hk' with rfl|rfl|rfl
  ·exact Ayg [a,b] v v2 d2 hS
  ·exact Ayl [a,b] v v2 d2 hS
  ·exact Ayi [a,b] v v2 d2 hS
end
theorem VOk.ok{n:Nd}{c:Cf}(h:VOk n c):CfOk c:=by
 have:=h.kl;have:=H3 n 31;have:=H3 n 32;exact⟨by rw[h.vars];omega,by rw[h.cells];omega,fun x hx=>by have:=h.rows x hx;omega⟩
theorem CfS.fzp{S:St}{bc:Nat}{V C:AV}{ids:List Nat}{c:Cf}(h:CfS S bc V C ids c)(hc:CfOk c):Fz S 0 0 (.ptr bc 0 0) (.cptr (Iz c)):=by
 obtain⟨cs,h1,h2,h3⟩:=h.cf.fzC hc;cases h1;exact .ptr bc 0 0 _ _ _ (Cc _) h.box rfl rfl fun j x y hx hy=>h3 j x y (by simpa using hx) hy
theorem Aj3(n:Nd)(c:Cf)(hpts:(D4 (A9 n)).pts≤2000000):Pure X 118 [.cptr (Mf n),.cptr (Iz c)] (vb (Hz n c)):=by
 have hw:IntKind.i64.wrap ((((D4 (A9 n)).pts:Nat):Int)-1)=(((D4 (A9 n)).pts:Nat):Int)-1:=Ac (by omega) (by omega);have e0:Hz n c=((c.trap != 0)||((c.pt==IntKind.i64.wrap ((((D4 (A9 n)).pts:Nat):Int)-1))||(c.steps==5000))):=by rw[hw];rfl
 rw[e0];refine Pure.run func118 ?_;refine Hu 0 5 ?_;cases h1:(c.trap != 0)with
 |true=>
  refine P9 true ?_;refine My 12 ?_;refine P9 true ?_;refine Ft ?_;refine B6 ?_;exact Au func118 rfl
 |false=>
  refine P9 false ?_;refine My 12 ?_;cases h2:(c.pt==IntKind.i64.wrap ((((D4 (A9 n)).pts:Nat):Int)-1))with
  |true=>
   refine P9 true ?_;refine Ft ?_;refine B6 ?_;exact Au func118 rfl
  |false=>
   refine P9 false ?_;refine Ft ?_;refine B6 ?_;exact Au func118 rfl
abbrev HR:=Bool×Int×Int
def Ld(n:Nd)(c:Cf)(x:Nd)(d:Int):HR:=match x.kids with
 |[a,b]=>
  if (C6 n c a d).2.1=0 then
   if (C6 n c b (C6 n c a d).2.2).2.1=0 then(Ox x.kind (C6 n c a d).1 (C6 n c b (C6 n c a d).2.2).1,0,(C6 n c b (C6 n c a d).2.2).2.2)
   else(false,(C6 n c b (C6 n c a d).2.2).2)
  else(false,(C6 n c a d).2)
 |_=>(false,0,d)
def HrP(n:Nd)(bw bc:Nat)(V C:AV)(ids:List Nat)(c:Cf)(S:St)(T:HR)(r:AV)(S':St):Prop:=r=.tup [vb T.1,vi T.2.1]∧S'.toks=S.toks∧Chg [bw] S.boxes S'.boxes∧WkS n S' bw bc V C ids c T.2.2
theorem Aom{n:Nd}{bw bc:Nat}{V C:AV}{ids:List Nat}{c:Cf}(hk:VOk n c){x:Nd}(hx:FC x)(hn:E9 (Ax n 31) (Ax n 32) x=true)(d:Int)(S:St)(hW:WkS n S bw bc V C ids c d) :
 Runs X 190 [.ptr bw 0 0,nd x] S (HrP n bw bc V C ids c S (Ld n c x d)):=by
 cases hx with
 |mk k a b h0 h1 ha hb=>
 obtain⟨n1,n2⟩:=Aab hn;have ia:=Y0 (bw:=bw) (bc:=bc) (V:=V) (C:=C) (ids:=ids) hk ha n1 d;have ib:=Y0 (bw:=bw) (bc:=bc) (V:=V) (C:=C) (ids:=ids) hk hb n2 (C6 n c a d).2.2;simp only[Ld,Nd.kids,Nd.kind];rcases hv:C6 n c a d with⟨v,t,d1⟩
 rw[hv]at ia ib;simp only at ib⊢;rcases hv2:C6 n c b d1 with⟨v2,t2,d2⟩
 rw[hv2]at ib;simp only;refine Runs.run func190 ?_;refine Wx (b:=S.boxes.length) rfl rfl ?_;obtain⟨U,hU⟩:∃U:St,U=⟨S.boxes++[[Af (.mk k [] 0 [a,b])]],S.toks⟩:=⟨_,rfl⟩
 refine Ba U ?_ hU.symm;have zE:U.boxes[S.boxes.length]?=some [Af (.mk k [] 0 [a,b])]:=by rw[hU];simp
 have hbw:=Aa hW.w;refine Aw zE ?_;refine Mj 0 (by decide) (Am (l:=[a,b]) rfl) ?_;refine Gz (ia U (hW.more (by rw[hU]))) ?_;intro r U1 hP _ _;obtain⟨rfl,ht1,hc1,hW1⟩:=hP;have zE1:=(hc1.2 _ (Aa zE) (by simp;omega)).trans zE;have hcc:Chg [bw] S.boxes U1.boxes:=((Chg.snoc [] S.boxes [Af (.mk k [] 0 [a,b])]).trans (by rw[hU]at hc1;exact hc1)).more fun i hi=>by simpa using hi
 have htt:U1.toks=S.toks:=by rw[ht1,hU]
 refine Bq 60 rfl ?_;refine F4 (fun g=>?_) (fun g=>?_)
 ·have g':¬t=0:=by simpa using(show (t != 0)=true from g)
  rw[if_neg g'];exact Bg func190 (h:=rfl) ⟨_,rfl,rfl,htt,hcc,hW1⟩
 have gt:t=0:=by simpa using(show (t != 0)=false from g)
 rw[if_pos gt];refine Aw zE1 ?_;refine Mj 1 (by decide) (Am (l:=[a,b]) rfl) ?_;refine Gz (ib U1 hW1) ?_;intro r U2 hP _ _;obtain⟨rfl,ht2,hc2,hW2⟩:=hP;have zE2:=(hc2.2 _ (Aa zE1) (by simp;omega)).trans zE1;have hcc2:Chg [bw] S.boxes U2.boxes:=(hcc.trans hc2).more fun i hi=>by simpa using hi
 have htt2:U2.toks=S.toks:=ht2.trans htt;refine Bq 60 rfl ?_;refine F4 (fun g2=>?_) (fun g2=>?_)
 ·have g':¬t2=0:=by simpa using(show (t2 != 0)=true from g2)
  rw[if_neg g'];exact Bg func190 (h:=rfl) ⟨_,rfl,rfl,htt2,hcc2,hW2⟩
 have gt2:t2=0:=by simpa using(show (t2 != 0)=false from g2)
 rw[if_pos gt2];refine G9 Akw rfl rfl ?_;refine Bq 60 rfl ?_;refine Aw zE2 ?_;have hw:IntKind.i64.wrap (k-11)=k-11:=Ac (by omega) (by omega);have hr:[vb (decide (v<v2)),vb (decide (v≤v2)),vb (decide (v>v2)),vb (decide (v≥v2)),vb (v==v2),vb (v != v2)][(IntKind.i64.wrap (k-11)).toNat]?=some (vb (Ox k v v2)):=by
  rw[hw];have:k=11∨k=12∨k=13∨k=14∨k=15∨k=16:=by omega
  rcases this with rfl|rfl|rfl|rfl|rfl|rfl<;>rfl
 refine G9 (W4 rfl rfl rfl rfl rfl rfl rfl rfl rfl (show 0≤IntKind.i64.wrap (k-11) by rw[hw];omega) (show IntKind.i64.wrap (k-11)<((6:Nat):Int) by rw[hw];omega) hr) rfl rfl ?_;refine Bq 60 rfl ?_;exact Bg func190 (h:=rfl) ⟨_,rfl,rfl,htt2,hcc2,hW2⟩
theorem Ay9(l:List Int)(i:Nat)(v:Int):(Ei l).set i [vi v]=Ei (l.set i v):=by simp[Ei,Zf]
theorem Awg(l:List (Bool×Int))(i:Nat)(v:Bool×Int):(Rh l).set i (Wi v)=Rh (l.set i v):=by simp[Rh,Zf]
theorem Cz(bx:List (List (List AV)))(b:Nat)(rows:List (List AV)):Chg [b] bx (bx.set b rows):=⟨by simp,fun i _ hi=>Fj (fun h=>hi (by simp[h]))⟩
section
variable {S:St}{bc:Nat}{V C:AV}{ids:List Nat}{c:Cf}
theorem CfS.upd(h:CfS S bc V C ids c){c':Cf}(hv:c'.vars=c.vars)(hc:c'.cells=c.cells):CfS ⟨S.boxes.set bc [E4 c' V C],S.toks⟩ bc V C ids c':=by
 obtain⟨V',C',ys,h1,h2,h3,h4,h5,h6,h7⟩:=(h.cf.chg (Cz S.boxes bc [E4 c' V C]) fun i hi hi2=>by simp at hi2;subst hi2;exact h.ne hi).ex;simp only[AV.agg.injEq,List.cons.injEq,and_true,true_and]at h1;obtain⟨rfl,rfl⟩:=h1;exact⟨Et (Aa h.box),⟨V,C,ys,rfl,h2,h3,by rw[hv];exact h4,h5,by rw[hc];exact h6,by rw[hc];exact h7⟩,h.ne⟩
theorem CfS.wrV(h:CfS S bc V C ids c){i b:Nat}{ex:List (List AV)}(v:Int)(hi:i<c.vars.length)(hV:V=.bsl b c.vars.length)(hb:S.boxes[b]?=some (Ei c.vars++ex)) :
 CfS ⟨S.boxes.set b ((Ei c.vars++ex).set i [vi v]),S.toks⟩ bc V C ids { c with vars:=c.vars.set i v }∧Chg ids S.boxes (S.boxes.set b ((Ei c.vars++ex).set i [vi v])):=by
 obtain⟨V',C',ys,h1,h2,h3,h4,h5,h6,h7⟩:=h.cf.ex;simp only[AV.agg.injEq,List.cons.injEq,and_true,true_and]at h1;obtain⟨rfl,rfl⟩:=h1;subst hV;have hbi:b∈ids:=by rw[h2];simp[Jr]
 have hnd:=h3;rw[h2]at hnd;obtain⟨_,_,hd⟩:=zzq109.1 hnd;have hne:∀j,j∈Jr C++ys.flatMap Jr→j∉[b]:=fun j hj hj2=>by simp at hj2;subst hj2;exact hd j (by simp[Jr]) j hj rfl
 have hch:=Cz S.boxes b ((Ei c.vars++ex).set i [vi v]);have hbne:b≠bc:=fun e=>h.ne (e▸hbi);refine⟨⟨by rw[Fj hbne];exact h.box,⟨_,C,ys,rfl,h2,h3,.inl ⟨b,ex,by rw[C2,Abk],?_⟩,h5.chg hch fun j hj=>hne j (List.mem_append_left _ hj),h6,fun j y l hy hl=>(h7 j y l hy hl).chg hch fun k hk=>hne k (Agf _ (zzq108.2 ⟨y,Bh hy,hk⟩))⟩,h.ne⟩,hch.more fun j hj=>by simp at hj;subst hj;exact hbi⟩;rw[Et (Aa hb),List.set_append_left _ _ (by rw[C2];exact hi),Ay9]
theorem CfS.wrC(h:CfS S bc V C ids c){i j b b2:Nat}{ys:List AV}{ex ex2:List (List AV)}{r:List (Bool×Int)}(v:Int)(hr:c.cells[i]?=some r)(hj:j<r.length)(hC:C=.bsl b c.cells.length)(hyl:ys.length=c.cells.length)(hb:S.boxes[b]?=some (ys.map (fun y=>[y])++ex))(hy:ys[i]?=some (.bsl b2 r.length))(hb2:S.boxes[b2]?=some (Rh r++ex2)) :
 b2∈ids∧CfS ⟨S.boxes.set b2 ((Rh r++ex2).set j [vb true,vi v]),S.toks⟩ bc V C ids { c with cells:=c.cells.set i (r.set j (true,v)) }∧Chg ids S.boxes (S.boxes.set b2 ((Rh r++ex2).set j [vb true,vi v])):=by
 obtain⟨V',C',zs,h1,h2,h3,h4,h5,h6,h7⟩:=h.cf.ex;simp only[AV.agg.injEq,List.cons.injEq,and_true,true_and]at h1;obtain⟨rfl,rfl⟩:=h1;subst hC;have hz:zs=ys:=by
  rcases h5 with⟨b',ex',e1,hb'⟩|⟨_,sp,e1⟩
  ·simp only[AV.bsl.injEq]at e1;obtain⟨rfl,e2⟩:=e1;rw[hb]at hb';have e3:=Option.some.inj hb';have e4:=(List.append_inj e3 (by simp[h6,hyl])).1;have:∀{a b:List AV},a.map (fun y=>[y])=b.map (fun y=>[y])→b=a:=fun{a}=>by
    induction a with
    |nil=>intro b h;cases b with
     |nil=>rfl
     |cons y b=>simp at h
    |cons x a ih=>intro b h;cases b with
     |nil=>simp at h
     |cons y b=>simp only[Nz,List.cons.injEq,and_true]at h;rw[h.1,ih h.2]
   exact this e4
  ·cases e1
 subst hz;have hbm:b2∈zs.flatMap Jr:=zzq108.2 ⟨_,Bh hy,by simp[Jr]⟩;have hbi:b2∈ids:=by rw[h2];exact Agf _ (Agf _ hbm)
 have hnd:=h3;rw[h2]at hnd;obtain⟨_,nd2,hd⟩:=zzq109.1 hnd;obtain⟨_,nd3,hd2⟩:=zzq109.1 nd2;have hch:=Cz S.boxes b2 ((Rh r++ex2).set j [vb true,vi v]);have hbne:b2≠bc:=fun e=>h.ne (e▸hbi);refine⟨hbi,⟨by rw[Fj hbne];exact h.box,⟨V,_,zs,rfl,h2,h3,h4.chg hch fun k hk hk2=>?_,h5.chg hch fun k hk hk2=>?_,by simpa using h6,fun k y l hy' hl=>?_⟩,h.ne⟩,hch.more fun k hk=>by simp at hk;subst hk;exact hbi⟩
 ·simp at hk2;subst hk2;exact hd k hk k (Agf _ hbm) rfl
 ·simp at hk2;subst hk2;exact hd2 k hk k hbm rfl
 ·rcases Ep hl with⟨rfl,rfl⟩|⟨hne,hl⟩
  ·rw[hy]at hy';cases hy';refine .inl ⟨b2,ex2,by rw[Il,Abk],?_⟩;rw[Et (Aa hb2),List.set_append_left _ _ (by rw[Il];exact hj)];congr 2;exact Awg r j (true,v)
  ·refine(h7 k y l hy' hl).chg hch fun q hq hq2=>?_;simp at hq2;subst hq2;exact Azk nd3 (Ne.symm hne) hy hy' (by simp[Jr]) hq
end
theorem Ahh{l:List Nat}{i m:Nat}(h:l[i]?=some m):(Uf l)[i]?=some [vi m]:=by simp[Uf,h]
theorem Ax7(n:Nd){p i j:Nat}{e:Eg}(hp:p<(D4 (A9 n)).pts)(he:(Lv (A9 n))[i]?=some e)(hf:e.f=(p:Int))(hl:L0 Eg.f (Lv (A9 n)) p=[i,j])(hij:i<j):Pure X 191 [.cptr (Mf n),vi i] (vi j):=by
 obtain⟨f,t,k,y,x⟩:=e;simp only at hf;subst hf;have hrow:=Ajd Eg.f (Lv (A9 n)) hp;rw[hl]at hrow;refine Pure.run func191 ?_;refine D8 0 ?_;refine Dv i (by omega) (Gk he) ?_;refine Dv p (by omega) hrow ?_;refine B6 ?_;refine Rj ?_;refine Bj 100 rfl ?_;refine A1 ?_;refine B7 0 (by decide) (Ahh (l:=[i,j]) (i:=0) rfl) ?_;refine Ah ?_ (ht:=by simp);refine P4 ?_;refine Bj 100 rfl ?_;refine A1 ?_;refine B7 1 (by decide) (Ahh (l:=[i,j]) (i:=1) rfl) ?_;refine A1 ?_ (ht:=by simp;omega);exact Au func191 rfl
def DoP(n:Nd)(bw bc:Nat)(V C:AV)(ids:List Nat)(S:St)(i j:Nat)(q:DR)(r:AV)(S':St):Prop:=
 r=.tup [vi (if q.2.2.2=true then i else j:Nat),vi q.2.1]∧S'.toks=S.toks∧Chg (bw::bc::ids) S.boxes S'.boxes∧∃d',WkS n S' bw bc V C ids q.1 d'∧(q.2.1≠0→q.2.1≠4→q.2.1≠5→d'=q.2.2.1)
abbrev zEg:List AV:=[vi 0,vi 0,vi 0,vb false,vi 0,str [],vi 0,.sl [] .tight]
theorem Chg.up{a b:List Nat}{bx bx' bx'':List (List (List AV))}(h:Chg a bx bx')(h':Chg b bx' bx'')(hb:∀i,i∈b→i∈a):Chg a bx bx'':=(h.trans h').more fun i hi=>by
 rcases zzq47.1 hi with h|h
 ·exact h
 ·exact hb i h
section
variable {n:Nd}{bw bc:Nat}{V C:AV}{ids:List Nat}{c:Cf}
abbrev DoR(n:Nd)(bw bc:Nat)(V C:AV)(ids:List Nat)(c:Cf)(inp:List Int)(i j:Nat)(q:DR):Prop:=
 ∀S:St,WkS n S bw bc V C ids c 0→Runs X 137 [.ptr bw 0 0,vi i,.sl (Ei inp) .no] S (DoP n bw bc V C ids S i j q)
theorem Afr{i j:Nat}{inp:List Int}{f t k:Int}{y:Bool}{x:Nd}(hk':k=6∨k=7)(he:(Lv (A9 n))[i]?=some ⟨f,t,k,y,x⟩):DoR n bw bc V C ids c inp i j (c,0,0,true):=by
 rcases hk' with rfl|rfl
 ·skip
  intro S hW;have hbw:=Aa hW.w;have hbc:=Aa hW.c.box;have hid:=T3 hW.c;have zw:=hW.w;have gx:∀{i:Nat} {y:List (List AV)} {more:List (List (List AV))},S.boxes[i]?=some y→(S.boxes++more)[i]?=some y:=fun{i y more} h=>by rw[Cr (Aa h)];exact h
  have new:∀y:List (List AV),(S.boxes++[y])[S.boxes.length]?=some y:=fun y=>by simp
  have keep:∀r:List (List AV),((S.boxes++[[zEg]]).set S.boxes.length r)[bw]?=some [wkp n bc 0]:=fun r=>by rw[Fj (by omega)];exact gx zw
  refine Runs.run func137 ?_;refine C8 98304 (by kernel_rfl) ?_
  iterate 3 refine Ar ?_
  refine A0 (Aq zw) ?_
  iterate 5 refine Ar ?_
  refine Ek (fun S'=>Cu rfl rfl rfl rfl rfl rfl rfl rfl rfl (by omega) (Gk he)) ?_
  iterate 4 refine Ar ?_
  refine A0 (Aq zw) ?_;refine Dx (Pe rfl rfl) (An (Aq (gx zw)) (An (Aq (gx zw)) G0)) ?_;refine Dx (Jw (r:=0) (cs:=zEg) (new _) rfl rfl) ?_ ?_
  ·intro p hp;replace hp:=(zzq58.1 hp).1;revert p;exact An (Aq (keep _)) (An (Aq (keep _)) G0)
  refine Ar ?_;refine Gn ?_;obtain⟨T,hT⟩:∃T:St,T=⟨S.boxes++[[H4 (⟨f,t,6,y,x⟩)]],S.toks⟩:=⟨_,rfl⟩
  refine Ba T ?_ (by rw[hT];exact congrArg (fun x=>St.mk x _) (by rw[Gi _ _ (Bo _),Fv];rfl));have zE:T.boxes[S.boxes.length]?=some [H4 (⟨f,t,6,y,x⟩)]:=by rw[hT];simp
  have hWT:WkS n T bw bc V C ids c 0:=hW.more (by rw[hT]);have hcT:Chg (bw::bc::ids) S.boxes T.boxes:=by rw[hT];exact Chg.snoc _ _ _
  have htT:T.toks=S.toks:=by rw[hT]
  refine Aw zE ?_
  iterate 3 refine Bs ?_
  refine Bs ?_;refine Bs ?_;exact Bg func137 (h:=rfl) ⟨_,rfl,rfl,htT,hcT,0,hWT,fun h=>absurd rfl h⟩
 ·skip
  intro S hW;have hbw:=Aa hW.w;have hbc:=Aa hW.c.box;have hid:=T3 hW.c;have zw:=hW.w;have gx:∀{i:Nat} {y:List (List AV)} {more:List (List (List AV))},S.boxes[i]?=some y→(S.boxes++more)[i]?=some y:=fun{i y more} h=>by rw[Cr (Aa h)];exact h
  have new:∀y:List (List AV),(S.boxes++[y])[S.boxes.length]?=some y:=fun y=>by simp
  have keep:∀r:List (List AV),((S.boxes++[[zEg]]).set S.boxes.length r)[bw]?=some [wkp n bc 0]:=fun r=>by rw[Fj (by omega)];exact gx zw
  refine Runs.run func137 ?_;refine C8 98304 (by kernel_rfl) ?_
  iterate 3 refine Ar ?_
  refine A0 (Aq zw) ?_
  iterate 5 refine Ar ?_
  refine Ek (fun S'=>Cu rfl rfl rfl rfl rfl rfl rfl rfl rfl (by omega) (Gk he)) ?_
  iterate 4 refine Ar ?_
  refine A0 (Aq zw) ?_;refine Dx (Pe rfl rfl) (An (Aq (gx zw)) (An (Aq (gx zw)) G0)) ?_;refine Dx (Jw (r:=0) (cs:=zEg) (new _) rfl rfl) ?_ ?_
  ·intro p hp;replace hp:=(zzq58.1 hp).1;revert p;exact An (Aq (keep _)) (An (Aq (keep _)) G0)
  refine Ar ?_;refine Gn ?_;obtain⟨T,hT⟩:∃T:St,T=⟨S.boxes++[[H4 (⟨f,t,7,y,x⟩)]],S.toks⟩:=⟨_,rfl⟩
  refine Ba T ?_ (by rw[hT];exact congrArg (fun x=>St.mk x _) (by rw[Gi _ _ (Bo _),Fv];rfl));have zE:T.boxes[S.boxes.length]?=some [H4 (⟨f,t,7,y,x⟩)]:=by rw[hT];simp
  have hWT:WkS n T bw bc V C ids c 0:=hW.more (by rw[hT]);have hcT:Chg (bw::bc::ids) S.boxes T.boxes:=by rw[hT];exact Chg.snoc _ _ _
  have htT:T.toks=S.toks:=by rw[hT]
  refine Aw zE ?_
  iterate 3 refine Bs ?_
  refine Bs ?_;refine Bs ?_;exact Bg func137 (h:=rfl) ⟨_,rfl,rfl,htT,hcT,0,hWT,fun h=>absurd rfl h⟩
theorem Auh(hk:VOk n c){i j:Nat}{inp:List Int}{f t:Int}{y:Bool}{s:List UInt8}{a:Nd}(he:(Lv (A9 n))[i]?=some ⟨f,t,1,y,.mk 21 s 0 [a]⟩)(hs:Ey 0 (Ax n 31) s≥0)(ha:FE a)(ka:E9 (Ax n 31) (Ax n 32) a=true) :
 DoR n bw bc V C ids c inp i j (Ry n inp c 1 y (.mk 21 s 0 [a])):=by
 obtain⟨iv,v0,h1,h2,_⟩:=hk.var hs;have kl:=hk.kl;have hq:=Xl n s (by omega);rw[h1]at hq;have hiv:=Aa h2;have ia:=Y0 (bw:=bw) (bc:=bc) (V:=V) (C:=C) (ids:=ids) hk ha ka 0;have e0:Ry n inp c 1 y (.mk 21 s 0 [a])=if (C6 n c a 0).2.1=0 then(We n c s (C6 n c a 0).1,0,(C6 n c a 0).2.2,true)else(c,(C6 n c a 0).2.1,(C6 n c a 0).2.2,true):=rfl;rw[e0];rcases hv:C6 n c a 0 with⟨v,tt,d1⟩
 rw[hv]at ia;simp only;intro S hW;have hbw:=Aa hW.w;have hbc:=Aa hW.c.box;have hid:=T3 hW.c;have zw:=hW.w;have gx:∀{i:Nat} {y:List (List AV)} {more:List (List (List AV))},S.boxes[i]?=some y→(S.boxes++more)[i]?=some y:=fun{i y more} h=>by rw[Cr (Aa h)];exact h
 have new:∀y:List (List AV),(S.boxes++[y])[S.boxes.length]?=some y:=fun y=>by simp
 have keep:∀r:List (List AV),((S.boxes++[[zEg]]).set S.boxes.length r)[bw]?=some [wkp n bc 0]:=fun r=>by rw[Fj (by omega)];exact gx zw
 refine Runs.run func137 ?_;refine C8 98304 (by kernel_rfl) ?_
 iterate 3 refine Ar ?_
 refine A0 (Aq zw) ?_
 iterate 5 refine Ar ?_
 refine Ek (fun S'=>Cu rfl rfl rfl rfl rfl rfl rfl rfl rfl (by omega) (Gk he)) ?_
 iterate 4 refine Ar ?_
 refine A0 (Aq zw) ?_;refine Dx (Pe rfl rfl) (An (Aq (gx zw)) (An (Aq (gx zw)) G0)) ?_;refine Dx (Jw (r:=0) (cs:=zEg) (new _) rfl rfl) ?_ ?_
 ·intro p hp;replace hp:=(zzq58.1 hp).1;revert p;exact An (Aq (keep _)) (An (Aq (keep _)) G0)
 refine Ar ?_;refine Gn ?_;obtain⟨T,hT⟩:∃T:St,T=⟨S.boxes++[[H4 (⟨f,t,1,y,.mk 21 s 0 [a]⟩)]],S.toks⟩:=⟨_,rfl⟩
 refine Ba T ?_ (by rw[hT];exact congrArg (fun x=>St.mk x _) (by rw[Gi _ _ (Bo _),Fv];rfl));have zE:T.boxes[S.boxes.length]?=some [H4 (⟨f,t,1,y,.mk 21 s 0 [a]⟩)]:=by rw[hT];simp
 have hWT:WkS n T bw bc V C ids c 0:=hW.more (by rw[hT]);have hcT:Chg (bw::bc::ids) S.boxes T.boxes:=by rw[hT];exact Chg.snoc _ _ _
 have htT:T.toks=S.toks:=by rw[hT]
 refine Aw zE ?_;refine Dm ?_;refine Aw zE ?_;refine Mj 0 (by decide) (Am (l:=[a]) rfl) ?_;refine Gz (ia T hWT) ?_;intro r U hP _ _;obtain⟨rfl,htU,hcU,hWU⟩:=hP;have zE2:=(hcU.2 _ (Aa zE) (by simp;omega)).trans zE;have hcSU:Chg (bw::bc::ids) S.boxes U.boxes:=hcT.up hcU fun i hi=>by simp at hi;simp[hi]
 have htSU:=htU.trans htT;refine Bq 60 rfl ?_;refine F4 (fun g=>?_) (fun g=>?_)
 ·have gt:tt=0:=by simpa using(show (tt==0)=true from g)
  subst gt;rw[if_pos rfl];obtain⟨bv,ex,hV,hb,hrow⟩:=hWU.c.vars h2;have hwr:=hWU.c.wrV v hiv hV hb;subst hV;refine C8 16384 (by kernel_rfl) ?_
  iterate 3 refine Ar ?_
  refine A0 (Aq hWU.c.box) ?_
  iterate 3 refine Ar ?_
  refine A0 (Aq hWU.w) ?_
  iterate 2 refine Ar ?_
  refine A0 (Aq zE2) ?_;refine Ja hq ?_;refine Ar ?_;refine A0 (F8 (hj:=by simpa[Fs]using hiv) (hb:=hb) (hr:=hrow) (hl:=rfl)) ?_;refine Ch (Jw hb hrow rfl) ?_;refine Gn ?_;have hne:bw≠bv:=fun h=>hWU.ne.2 (by obtain⟨V',C',ys,q1,q2,_⟩:=hWU.c.cf.ex;simp only[AV.agg.injEq,List.cons.injEq,and_true,true_and]at q1;obtain⟨rfl,_⟩:=q1;rw[q2];simp[Jr,h]);refine Bg func137 (h:=rfl) ⟨_,rfl,rfl,htSU,hcSU.up hwr.2 fun i hi=>by simp[hi],d1,⟨by rw[Fj hne.symm];exact hWU.w,?_,hWU.ne⟩,fun h=>absurd rfl h⟩;have:=hwr.1;unfold We;rw[h1,Hc];exact this
 ·have gt:¬tt=0:=by simpa using(show (tt==0)=false from g)
  rw[if_neg gt];exact Bg func137 (h:=rfl) ⟨_,rfl,rfl,htSU,hcSU,d1,hWU,fun _ _ _=>rfl⟩
theorem Aug(hk:VOk n c){i j:Nat}{inp:List Int}{f t:Int}{y:Bool}{s:List UInt8}{a b:Nd}(he:(Lv (A9 n))[i]?=some ⟨f,t,2,y,.mk 22 s 0 [a,b]⟩)(hs:Ey 0 (Ax n 32) s≥0)(ha:FE a)(ka:E9 (Ax n 31) (Ax n 32) a=true)(hb':FE b)(kb:E9 (Ax n 31) (Ax n 32) b=true) :
 DoR n bw bc V C ids c inp i j (Ry n inp c 2 y (.mk 22 s 0 [a,b])):=by
 obtain⟨iv,r,h1,h2,h3,h4⟩:=hk.row hs;have kl:=hk.kl;have hq:=Ah0 n s (by omega);rw[h1]at hq;have hiv:=Aa h2;have ia:=Y0 (bw:=bw) (bc:=bc) (V:=V) (C:=C) (ids:=ids) hk ha ka 0;have ib:=Y0 (bw:=bw) (bc:=bc) (V:=V) (C:=C) (ids:=ids) hk hb' kb (C6 n c a 0).2.2;have e0:Ry n inp c 2 y (.mk 22 s 0 [a,b])=Nv n c [a,b] fun i v d=>if Bl i 0 (((Xo n c s).length:Int)-1)=true then(Ah9 n c s i v,0,d,true)else(c,1,d,true):=rfl;rw[e0];unfold Nv;simp only;rcases hv:C6 n c a 0 with⟨v,tt,d1⟩
 rw[hv]at ia ib;simp only at ib⊢;rcases hv2:C6 n c b d1 with⟨v2,t2,d2⟩
 rw[hv2]at ib;simp only;intro S hW;have hbw:=Aa hW.w;have hbc:=Aa hW.c.box;have hid:=T3 hW.c;have zw:=hW.w;have gx:∀{i:Nat} {y:List (List AV)} {more:List (List (List AV))},S.boxes[i]?=some y→(S.boxes++more)[i]?=some y:=fun{i y more} h=>by rw[Cr (Aa h)];exact h
 have new:∀y:List (List AV),(S.boxes++[y])[S.boxes.length]?=some y:=fun y=>by simp
 have keep:∀r:List (List AV),((S.boxes++[[zEg]]).set S.boxes.length r)[bw]?=some [wkp n bc 0]:=fun r=>by rw[Fj (by omega)];exact gx zw
 refine Runs.run func137 ?_;refine C8 98304 (by kernel_rfl) ?_
 iterate 3 refine Ar ?_
 refine A0 (Aq zw) ?_
 iterate 5 refine Ar ?_
 refine Ek (fun S'=>Cu rfl rfl rfl rfl rfl rfl rfl rfl rfl (by omega) (Gk he)) ?_
 iterate 4 refine Ar ?_
 refine A0 (Aq zw) ?_;refine Dx (Pe rfl rfl) (An (Aq (gx zw)) (An (Aq (gx zw)) G0)) ?_;refine Dx (Jw (r:=0) (cs:=zEg) (new _) rfl rfl) ?_ ?_
 ·intro p hp;replace hp:=(zzq58.1 hp).1;revert p;exact An (Aq (keep _)) (An (Aq (keep _)) G0)
 refine Ar ?_;refine Gn ?_;obtain⟨T,hT⟩:∃T:St,T=⟨S.boxes++[[H4 (⟨f,t,2,y,.mk 22 s 0 [a,b]⟩)]],S.toks⟩:=⟨_,rfl⟩
 refine Ba T ?_ (by rw[hT];exact congrArg (fun x=>St.mk x _) (by rw[Gi _ _ (Bo _),Fv];rfl));have zE:T.boxes[S.boxes.length]?=some [H4 (⟨f,t,2,y,.mk 22 s 0 [a,b]⟩)]:=by rw[hT];simp
 have hWT:WkS n T bw bc V C ids c 0:=hW.more (by rw[hT]);have hcT:Chg (bw::bc::ids) S.boxes T.boxes:=by rw[hT];exact Chg.snoc _ _ _
 have htT:T.toks=S.toks:=by rw[hT]
 refine Aw zE ?_;refine Bs ?_;refine Dm ?_;refine Aw zE ?_;refine Mj 0 (by decide) (Am (l:=[a,b]) rfl) ?_;refine Gz (ia T hWT) ?_;intro r0 U hP _ _;obtain⟨rfl,htU,hcU,hWU⟩:=hP;have zE2:=(hcU.2 _ (Aa zE) (by simp;omega)).trans zE;have hcSU:Chg (bw::bc::ids) S.boxes U.boxes:=hcT.up hcU fun i hi=>by simp at hi;simp[hi]
 have htSU:=htU.trans htT;refine Bq 60 rfl ?_;refine F4 (fun g=>?_) (fun g=>?_)
 ·have gt:¬tt=0:=by simpa using(show (tt != 0)=true from g)
  rw[if_neg gt];exact Bg func137 (h:=rfl) ⟨_,rfl,rfl,htSU,hcSU,d1,hWU,fun _ _ _=>rfl⟩
 have gt:tt=0:=by simpa using(show (tt != 0)=false from g)
 rw[if_pos gt];refine Aw zE2 ?_;refine Mj 1 (by decide) (Am (l:=[a,b]) rfl) ?_;refine Gz (ib U hWU) ?_;intro r0 W hP _ _;obtain⟨rfl,htW,hcW,hWW⟩:=hP;have zE3:=(hcW.2 _ (Aa zE2) (by simp;omega)).trans zE2;have hcSW:Chg (bw::bc::ids) S.boxes W.boxes:=hcSU.up hcW fun i hi=>by simp at hi;simp[hi]
 have htSW:=htW.trans htSU;refine Bq 60 rfl ?_;refine F4 (fun g2=>?_) (fun g2=>?_)
 ·have gt2:¬t2=0:=by simpa using(show (t2 != 0)=true from g2)
  rw[if_neg gt2];exact Bg func137 (h:=rfl) ⟨_,rfl,rfl,htSW,hcSW,d2,hWW,fun _ _ _=>rfl⟩
 have gt2:t2=0:=by simpa using(show (t2 != 0)=false from g2)
 rw[if_pos gt2];refine C8 0 (by kernel_rfl) ?_
 iterate 3 refine Ar ?_
 refine A0 (Aq hWW.w) ?_
 iterate 2 refine Ar ?_
 refine A0 (Aq zE3) ?_;refine Ja hq ?_;refine Ar ?_;refine Gn ?_;refine Gz (Aon n hWW h2 h4 v) ?_;intro r0 W' hP _ _;obtain⟨rfl,rfl⟩:=hP;refine Bq 60 rfl ?_;rw[h3];cases hbt:Bl v 0 ((r.length:Int)-1)with
 |false=>
  rw[if_neg (by decide),if_neg (by decide)];refine Dm ?_;exact Bg func137 (h:=rfl) ⟨_,rfl,rfl,htSW,hcSW,d2,hWW,fun _ _ _=>rfl⟩
 |true=>
  rw[if_pos rfl,if_pos rfl];have hb1:=Cj.1 hbt;obtain⟨jj,rfl⟩:∃jj:Nat,v=jj:=⟨v.toNat,by omega⟩
  obtain⟨bb,ys,ex,yy,hC,hyl,hb,hyy,hrow,hsl⟩:=hWW.c.row h2;have hjl:jj<r.length:=by omega
  rcases hsl with⟨b2,ex2,rfl,hb2⟩|⟨hemp,sp,rfl⟩
  ·rw[Il]at hyy hrow;obtain⟨z,hz⟩:=Ab r hjl;have hrow2:(Rh r++ex2)[jj]?=some (Wi z):=by rw[Cr (by rw[Il];exact hjl)];exact Gf (f:=Wi) hz
   obtain⟨hbid,hwr⟩:=hWW.c.wrC v2 h2 hjl hC hyl hb hyy hb2;subst hC;refine Bs ?_;refine Aw hWW.c.box ?_;refine Lm iv hiv hb hrow rfl ?_;refine Lo hb hrow ?_;refine Lm jj hjl hb2 hrow2 rfl ?_;refine Rk hb2 hrow2 rfl ?_;have hne:bw≠b2:=fun h=>hWW.ne.2 (h▸hbid);refine Bg func137 (h:=rfl) ⟨_,rfl,rfl,htSW,hcSW.up hwr.2 fun i hi=>by simp[hi],d2,⟨by rw[Fj hne.symm];exact hWW.w,?_,hWW.ne⟩,fun h=>absurd rfl h⟩;have:=hwr.1;unfold Ah9;rw[h1,h3,Hc,Hc];exact this
  ·have h0:r=[]:=by cases r with|nil=>rfl|cons a l=>simp[Rh]at hemp
   subst h0;simp at hjl
theorem Aqt(hk:VOk n c){i j:Nat}{inp:List Int}(hu:0≤c.used∧c.used≤100){f t:Int}{y:Bool}{s:List UInt8}(he:(Lv (A9 n))[i]?=some ⟨f,t,3,y,.mk 23 s 0 []⟩)(hs:Ey 0 (Ax n 31) s≥0) :
 DoR n bw bc V C ids c inp i j (Ry n inp c 3 y (.mk 23 s 0 [])):=by
 obtain⟨iv,v0,h1,h2,_⟩:=hk.var hs;have kl:=hk.kl;have hq:=Xl n s (by omega);rw[h1]at hq;have hiv:=Aa h2;have hil:=C2 inp;have e0:Ry n inp c 3 y (.mk 23 s 0 [])=if (inp.length:Int)≤c.used then(c,5,0,true)else({ We n c s (inp.getD c.used.toNat 0)with used:=c.used+1 },0,0,true):=rfl;rw[e0];intro S hW;have hbw:=Aa hW.w;have hbc:=Aa hW.c.box;have hid:=T3 hW.c;have zw:=hW.w;have gx:∀{i:Nat} {y:List (List AV)} {more:List (List (List AV))},S.boxes[i]?=some y→(S.boxes++more)[i]?=some y:=fun{i y more} h=>by rw[Cr (Aa h)];exact h
 have new:∀y:List (List AV),(S.boxes++[y])[S.boxes.length]?=some y:=fun y=>by simp
 have keep:∀r:List (List AV),((S.boxes++[[zEg]]).set S.boxes.length r)[bw]?=some [wkp n bc 0]:=fun r=>by rw[Fj (by omega)];exact gx zw
 refine Runs.run func137 ?_;refine C8 98304 (by kernel_rfl) ?_
 iterate 3 refine Ar ?_
 refine A0 (Aq zw) ?_
 iterate 5 refine Ar ?_
 refine Ek (fun S'=>Cu rfl rfl rfl rfl rfl rfl rfl rfl rfl (by omega) (Gk he)) ?_
 iterate 4 refine Ar ?_
 refine A0 (Aq zw) ?_;refine Dx (Pe rfl rfl) (An (Aq (gx zw)) (An (Aq (gx zw)) G0)) ?_;refine Dx (Jw (r:=0) (cs:=zEg) (new _) rfl rfl) ?_ ?_
 ·intro p hp;replace hp:=(zzq58.1 hp).1;revert p;exact An (Aq (keep _)) (An (Aq (keep _)) G0)
 refine Ar ?_;refine Gn ?_;obtain⟨T,hT⟩:∃T:St,T=⟨S.boxes++[[H4 (⟨f,t,3,y,.mk 23 s 0 []⟩)]],S.toks⟩:=⟨_,rfl⟩
 refine Ba T ?_ (by rw[hT];exact congrArg (fun x=>St.mk x _) (by rw[Gi _ _ (Bo _),Fv];rfl));have zE:T.boxes[S.boxes.length]?=some [H4 (⟨f,t,3,y,.mk 23 s 0 []⟩)]:=by rw[hT];simp
 have hWT:WkS n T bw bc V C ids c 0:=hW.more (by rw[hT]);have hcT:Chg (bw::bc::ids) S.boxes T.boxes:=by rw[hT];exact Chg.snoc _ _ _
 have htT:T.toks=S.toks:=by rw[hT]
 refine Aw zE ?_;refine Bs ?_;refine Bs ?_;refine Dm ?_;refine Aw hWT.c.box ?_;refine F4 (fun g=>?_) (fun g=>?_)
 ·have g':(inp.length:Int)≤c.used:=by have:=A7 g;rw[hil]at this;exact this
  rw[if_pos g'];exact Bg func137 (h:=rfl) ⟨_,rfl,rfl,htT,hcT,0,hWT,fun _ _ h=>absurd rfl h⟩
 ·have g':¬(inp.length:Int)≤c.used:=by have:=Bd g;rw[hil]at this;exact this
  rw[if_neg g'];obtain⟨un,hun⟩:∃un:Nat,c.used=un:=⟨c.used.toNat,by omega⟩
  obtain⟨w,hw⟩:=Ab inp (i:=un) (by omega);obtain⟨bv,ex,hV,hb,hrow⟩:=hWT.c.vars h2;have hwr:=hWT.c.wrV w hiv hV hb;have hbid:bv∈ids:=by
   obtain⟨V',C',ys,q1,q2,_⟩:=hWT.c.cf.ex;simp only[AV.agg.injEq,List.cons.injEq,and_true,true_and]at q1;obtain⟨rfl,_⟩:=q1;rw[q2,hV];simp[Jr]
  have hne:bw≠bv:=fun h=>hWT.ne.2 (h▸hbid);have hnc:bc≠bv:=fun h=>hWT.c.ne (h▸hbid);subst hV;refine C8 1048576 (by kernel_rfl) ?_
  iterate 3 refine Ar ?_
  refine A0 (Aq hWT.c.box) ?_
  iterate 3 refine Ar ?_
  refine A0 (Aq hWT.w) ?_
  iterate 2 refine Ar ?_
  refine A0 (Aq zE) ?_;refine Ja hq ?_
  iterate 4 refine Ar ?_
  refine A0 (Aq hWT.c.box) ?_;refine Ek (fun S'=>Cu rfl rfl rfl rfl rfl rfl rfl rfl rfl hu.1 (by rw[hun,Hc];exact Za hw)) ?_;refine Ar ?_;refine A0 (F8 (hj:=by simpa[Fs]using hiv) (hb:=hb) (hr:=hrow) (hl:=rfl)) ?_;refine Ch (Jw hb hrow rfl) ?_;refine Gn ?_;obtain⟨hc1,hch1⟩:=hwr;obtain⟨U,hU⟩:∃U:St,U=⟨T.boxes.set bv ((Ei c.vars++ex).set iv [vi w]),T.toks⟩:=⟨_,rfl⟩
  refine Ba U ?_ hU.symm;rw[←hU]at hc1;have hcU:Chg (bw::bc::ids) S.boxes U.boxes:=by rw[hU];exact hcT.up hch1 fun i hi=>by simp[hi]
  have zwU:U.boxes[bw]?=some [wkp n bc 0]:=by rw[hU,Fj hne.symm];exact hWT.w
  refine Aw hc1.box ?_;refine Cd hc1.box rfl ?_;have hw1:IntKind.i64.wrap (c.used+1)=c.used+1:=Ac (by omega) (by omega);have hc2:=hc1.upd (c':={ c with vars:=c.vars.set iv w,used:=IntKind.i64.wrap (c.used+1) }) rfl rfl;refine Bg func137 (h:=rfl) ⟨_,rfl,rfl,by rw[hU];exact htT,hcU.up (Cz U.boxes bc _) fun i hi=>by simp at hi;simp[hi],0,⟨by rw[Fj hWT.ne.1.symm];exact zwU,?_,hWT.ne⟩,fun h=>absurd rfl h⟩;have e1:({ We n c s (inp.getD c.used.toNat 0)with used:=c.used+1 }:Cf)={ c with vars:=c.vars.set iv w,used:=IntKind.i64.wrap (c.used+1) }:=by
   unfold We;rw[h1,Hc,hun,Hc,Aie,hw,←hun,hw1];rfl
  rw[e1];exact hc2
theorem App{inp:List Int}{x:Nd}(hx:FC x)(y:Bool):Ry n inp c 4 y x=if (Ld n c x 0).2.1=0 then(c,0,(Ld n c x 0).2.2,(Ld n c x 0).1==y)else(c,(Ld n c x 0).2.1,(Ld n c x 0).2.2,true):=by
 cases hx with
 |mk k a b h0 h1 ha hb=>
 have e0:Ry n inp c 4 y (.mk k [] 0 [a,b])=Nv n c [a,b] fun a b d=>(c,0,d,Ox k a b==y):=rfl;rw[e0];unfold Nv;by_cases g:(C6 n c a 0).2.1=0
 ·by_cases g2:(C6 n c b (C6 n c a 0).2.2).2.1=0
  ·simp[Ld,Nd.kids,Nd.kind,g,g2]
  ·simp[Ld,Nd.kids,Nd.kind,g,g2]
 ·simp[Ld,Nd.kids,Nd.kind,g]
theorem Apo{inp:List Int}{x:Nd}(hx:FC x)(y:Bool):Ry n inp c 5 y x=if (Ld n c x 0).2.1=0 then(if (Ld n c x 0).1=true then(c,0,(Ld n c x 0).2.2,true)else(c,4,0,true))else(c,(Ld n c x 0).2.1,(Ld n c x 0).2.2,true):=by
 cases hx with
 |mk k a b h0 h1 ha hb=>
 have e0:Ry n inp c 5 y (.mk k [] 0 [a,b])=Nv n c [a,b] fun a b d=>if Ox k a b=true then(c,0,d,true)else(c,4,0,true):=rfl;rw[e0];unfold Nv;by_cases g:(C6 n c a 0).2.1=0
 ·by_cases g2:(C6 n c b (C6 n c a 0).2.2).2.1=0
  ·simp[Ld,Nd.kids,Nd.kind,g,g2]
  ·simp[Ld,Nd.kids,Nd.kind,g,g2]
 ·simp[Ld,Nd.kids,Nd.kind,g]
theorem Amg(hk:VOk n c){i j p:Nat}{inp:List Int}{f t:Int}{y:Bool}{x:Nd}(he:(Lv (A9 n))[i]?=some ⟨f,t,4,y,x⟩)(hx:FC x)(kx:E9 (Ax n 31) (Ax n 32) x=true)(hp:p<(D4 (A9 n)).pts)(hf:f=(p:Int))(hl:L0 Eg.f (Lv (A9 n)) p=[i,j])(hij:i<j) :
 DoR n bw bc V C ids c inp i j (Ry n inp c 4 y x):=by
 have hq:=Ax7 n hp he hf hl hij;rw[App hx];intro S hW;have hbw:=Aa hW.w;have hbc:=Aa hW.c.box;have hid:=T3 hW.c;have zw:=hW.w;have gx:∀{i:Nat} {y:List (List AV)} {more:List (List (List AV))},S.boxes[i]?=some y→(S.boxes++more)[i]?=some y:=fun{i y more} h=>by rw[Cr (Aa h)];exact h
 have new:∀y:List (List AV),(S.boxes++[y])[S.boxes.length]?=some y:=fun y=>by simp
 have keep:∀r:List (List AV),((S.boxes++[[zEg]]).set S.boxes.length r)[bw]?=some [wkp n bc 0]:=fun r=>by rw[Fj (by omega)];exact gx zw
 refine Runs.run func137 ?_;refine C8 98304 (by kernel_rfl) ?_
 iterate 3 refine Ar ?_
 refine A0 (Aq zw) ?_
 iterate 5 refine Ar ?_
 refine Ek (fun S'=>Cu rfl rfl rfl rfl rfl rfl rfl rfl rfl (by omega) (Gk he)) ?_
 iterate 4 refine Ar ?_
 refine A0 (Aq zw) ?_;refine Dx (Pe rfl rfl) (An (Aq (gx zw)) (An (Aq (gx zw)) G0)) ?_;refine Dx (Jw (r:=0) (cs:=zEg) (new _) rfl rfl) ?_ ?_
 ·intro p hp;replace hp:=(zzq58.1 hp).1;revert p;exact An (Aq (keep _)) (An (Aq (keep _)) G0)
 refine Ar ?_;refine Gn ?_;obtain⟨T,hT⟩:∃T:St,T=⟨S.boxes++[[H4 (⟨f,t,4,y,x⟩)]],S.toks⟩:=⟨_,rfl⟩
 refine Ba T ?_ (by rw[hT];exact congrArg (fun x=>St.mk x _) (by rw[Gi _ _ (Bo _),Fv];rfl));have zE:T.boxes[S.boxes.length]?=some [H4 (⟨f,t,4,y,x⟩)]:=by rw[hT];simp
 have hWT:WkS n T bw bc V C ids c 0:=hW.more (by rw[hT]);have hcT:Chg (bw::bc::ids) S.boxes T.boxes:=by rw[hT];exact Chg.snoc _ _ _
 have htT:T.toks=S.toks:=by rw[hT]
 refine Aw zE ?_;refine Bs ?_;refine Bs ?_;refine Bs ?_;refine Bs ?_;refine Dm ?_;refine Aw zE ?_;refine Gz (Aom hk hx kx 0 T hWT) ?_;intro r U hP _ _;obtain⟨rfl,htU,hcU,hWU⟩:=hP;have zE2:=(hcU.2 _ (Aa zE) (by simp;omega)).trans zE;have hcSU:Chg (bw::bc::ids) S.boxes U.boxes:=hcT.up hcU fun i hi=>by simp at hi;simp[hi]
 have htSU:=htU.trans htT;generalize Ld n c x 0=H at *;obtain⟨h,tt,d1⟩:=H;simp only at hWU⊢;refine Bq 60 rfl ?_;refine F4 (fun g=>?_) (fun g=>?_)
 ·have gt:¬tt=0:=by simpa using(show (tt != 0)=true from g)
  rw[if_neg gt];exact Bg func137 (h:=rfl) ⟨_,rfl,rfl,htSU,hcSU,d1,hWU,fun _ _ _=>rfl⟩
 have gt:tt=0:=by simpa using(show (tt != 0)=false from g)
 rw[if_pos gt];refine Aw zE2 ?_;refine Nn ?_;refine Bs ?_;refine Aw zE2 ?_;refine Om ?_;refine Aw zE2 ?_;refine F4 (fun g2=>?_) (fun g2=>?_)
 ·have g3:(h==y)=false:=by simpa using(show (h != y)=true from g2)
  refine Aw hWU.w ?_;refine G8 hq ?_;refine Bg func137 (h:=rfl) ⟨_,rfl,?_,htSU,hcSU,d1,hWU,fun h=>absurd rfl h⟩;simp only[g3];rfl
 ·have g3:(h==y)=true:=by simpa using(show (h != y)=false from g2)
  refine Bg func137 (h:=rfl) ⟨_,rfl,?_,htSU,hcSU,d1,hWU,fun h=>absurd rfl h⟩;simp only[g3];rfl
theorem Amf(hk:VOk n c){i j:Nat}{inp:List Int}{f t:Int}{y:Bool}{x:Nd}(he:(Lv (A9 n))[i]?=some ⟨f,t,5,y,x⟩)(hx:FC x)(kx:E9 (Ax n 31) (Ax n 32) x=true):DoR n bw bc V C ids c inp i j (Ry n inp c 5 y x):=by
 rw[Apo hx];intro S hW;have hbw:=Aa hW.w;have hbc:=Aa hW.c.box;have hid:=T3 hW.c;have zw:=hW.w;have gx:∀{i:Nat} {y:List (List AV)} {more:List (List (List AV))},S.boxes[i]?=some y→(S.boxes++more)[i]?=some y:=fun{i y more} h=>by rw[Cr (Aa h)];exact h
 have new:∀y:List (List AV),(S.boxes++[y])[S.boxes.length]?=some y:=fun y=>by simp
 have keep:∀r:List (List AV),((S.boxes++[[zEg]]).set S.boxes.length r)[bw]?=some [wkp n bc 0]:=fun r=>by rw[Fj (by omega)];exact gx zw
 refine Runs.run func137 ?_;refine C8 98304 (by kernel_rfl) ?_
 iterate 3 refine Ar ?_
 refine A0 (Aq zw) ?_
 iterate 5 refine Ar ?_
 refine Ek (fun S'=>Cu rfl rfl rfl rfl rfl rfl rfl rfl rfl (by omega) (Gk he)) ?_
 iterate 4 refine Ar ?_
 refine A0 (Aq zw) ?_;refine Dx (Pe rfl rfl) (An (Aq (gx zw)) (An (Aq (gx zw)) G0)) ?_;refine Dx (Jw (r:=0) (cs:=zEg) (new _) rfl rfl) ?_ ?_
 ·intro p hp;replace hp:=(zzq58.1 hp).1;revert p;exact An (Aq (keep _)) (An (Aq (keep _)) G0)
 refine Ar ?_;refine Gn ?_;obtain⟨T,hT⟩:∃T:St,T=⟨S.boxes++[[H4 (⟨f,t,5,y,x⟩)]],S.toks⟩:=⟨_,rfl⟩
 refine Ba T ?_ (by rw[hT];exact congrArg (fun x=>St.mk x _) (by rw[Gi _ _ (Bo _),Fv];rfl));have zE:T.boxes[S.boxes.length]?=some [H4 (⟨f,t,5,y,x⟩)]:=by rw[hT];simp
 have hWT:WkS n T bw bc V C ids c 0:=hW.more (by rw[hT]);have hcT:Chg (bw::bc::ids) S.boxes T.boxes:=by rw[hT];exact Chg.snoc _ _ _
 have htT:T.toks=S.toks:=by rw[hT]
 refine Aw zE ?_;refine Bs ?_;refine Bs ?_;refine Bs ?_;refine Dm ?_;refine Aw zE ?_;refine Gz (Aom hk hx kx 0 T hWT) ?_;intro r U hP _ _;obtain⟨rfl,htU,hcU,hWU⟩:=hP;have zE2:=(hcU.2 _ (Aa zE) (by simp;omega)).trans zE;have hcSU:Chg (bw::bc::ids) S.boxes U.boxes:=hcT.up hcU fun i hi=>by simp at hi;simp[hi]
 have htSU:=htU.trans htT;generalize Ld n c x 0=H at *;obtain⟨h,tt,d1⟩:=H;simp only at hWU⊢;refine Bq 60 rfl ?_;refine F4 (fun g=>?_) (fun g=>?_)
 ·have gt:¬tt=0:=by simpa using(show (tt != 0)=true from g)
  rw[if_neg gt];exact Bg func137 (h:=rfl) ⟨_,rfl,rfl,htSU,hcSU,d1,hWU,fun _ _ _=>rfl⟩
 have gt:tt=0:=by simpa using(show (tt != 0)=false from g)
 rw[if_pos gt];refine Aw zE2 ?_;refine Om ?_;cases h with
 |false=>
  refine Dm ?_;rw[if_neg (by simp)];exact Bg func137 (h:=rfl) ⟨_,rfl,rfl,htSU,hcSU,d1,hWU,fun _ h=>absurd rfl h⟩
 |true=>
  refine Bs ?_;rw[if_pos rfl];refine Aw zE2 ?_;refine Nn ?_;refine Bs ?_;exact Bg func137 (h:=rfl) ⟨_,rfl,rfl,htSU,hcSU,d1,hWU,fun h=>absurd rfl h⟩
end
section
variable {n:Nd}{bw bc:Nat}{V C:AV}{ids:List Nat}{c:Cf}
theorem A4t(hr:Fe n=true)(hk:VOk n c)(hu:0≤c.used∧c.used≤100){inp:List Int}{p i:Nat}{e:Eg}{l:List Eg}(hp:p<(D4 (A9 n)).pts)(hO:EdO (Lv (A9 n)) p i e l) :
 ∃j,(Lv (A9 n))[j]?=some (l.headD e)∧DoR n bw bc V C ids c inp i j (Ry n inp c e.k e.y e.n):=by
 have he:=hO.first.1;have hf:=hO.first.2.2.1;have hE:=(Aiw hr).2 e (Bh he);cases hE with
 |set f t y s a h ha ka=>cases hO with
  |one _ _ _ _ _ _=>exact⟨i,he,Auh hk he h ha ka⟩
  |two _ _ _ _ _ _ _ _ _ _ h4 _=>simp at h4
 |put f t y s a b h ha ka hb kb=>cases hO with
  |one _ _ _ _ _ _=>exact⟨i,he,Aug hk he h ha ka hb kb⟩
  |two _ _ _ _ _ _ _ _ _ _ h4 _=>simp at h4
 |read f t y s h=>cases hO with
  |one _ _ _ _ _ _=>exact⟨i,he,Aqt hk hu he h⟩
  |two _ _ _ _ _ _ _ _ _ _ h4 _=>simp at h4
 |guard f t y x hx kx=>cases hO with
  |one _ _ _ _ _ h4=>exact absurd rfl h4
  |two j e2 _ _ _ _ hl hij hj _ _ _=>exact⟨j,hj,Amg hk he hx kx hp hf hl hij⟩
 |check f t y x hx kx=>cases hO with
  |one _ _ _ _ _ _=>exact⟨i,he,Amf hk he hx kx⟩
  |two _ _ _ _ _ _ _ _ _ _ h4 _=>simp at h4
 |skip f t y x=>cases hO with
  |one _ _ _ _ _ _=>exact⟨i,he,Afr (.inl rfl) he⟩
  |two _ _ _ _ _ _ _ _ _ _ h4 _=>simp at h4
 |stop f t y x=>cases hO with
  |one _ _ _ _ _ _=>exact⟨i,he,Afr (.inr rfl) he⟩
  |two _ _ _ _ _ _ _ _ _ _ h4 _=>simp at h4
def StP(n:Nd)(inp:List Int)(bc:Nat)(V C:AV)(ids:List Nat)(c:Cf)(S S':St):Prop:=S'.toks=S.toks∧Chg (bc::ids) S.boxes S'.boxes∧CfS S' bc V C ids (Gt n inp c)
theorem A1x(hr:Fe n=true)(hS:StK n c){inp:List Int}(S:St)(hc:CfS S bc V C ids c):Runs X 81 [.cptr (Mf n),.ptr bc 0 0,.sl (Ei inp) .no] S (fun r S'=>r=.tup []∧StP n inp bc V C ids c S S'):=by
 have hpts:=(Zy hr).1;have hbc:=Aa hc.box;have hidl:=T3 hc;have okP:Ok 0 0 (.cptr (Mf n)):=(inferInstance:OK 0 0 (.cptr (Mf n))).ok;unfold StP;refine Runs.run func81 ?_;refine Im (Aj3 n c hpts) (.cons (.same _ okP) (.cons (hc.fzp hS.vok.ok) .nil)) (.val _) ?_;refine F4 (fun g=>?_) (fun g=>?_)
 ·refine Bg func81 (h:=rfl) ⟨_,rfl,rfl,rfl,Chg.refl _ _,?_⟩;unfold Gt;rw[if_pos g];exact hc
 have hst:c.trap=0∧¬c.steps=5000∧¬c.pt=(((D4 (A9 n)).pts:Nat):Int)-1:=by
  unfold Hz at g;simp only[Pb,Age,beq_eq_false_iff_ne,zzq56,ne_eq]at g;exact⟨g.1,g.2.2,g.2.1⟩
 have hpt:=hS.pt;have hsp:=hS.steps;obtain⟨p,hp⟩:∃p:Nat,c.pt=p:=⟨c.pt.toNat,by omega⟩
 have hpp:p<(D4 (A9 n)).pts:=by omega
 obtain⟨i,e,l,hF,hO⟩:=Zx hr (p:=p) (by omega);obtain⟨he,_,hef,hix,ml,hled⟩:=hO.first;have hrow:=Ajd Eg.f (Lv (A9 n)) hpp;rw[hled]at hrow;have hw1:IntKind.i64.wrap (c.steps+1)=c.steps+1:=Ac (by omega) (by omega);obtain⟨c1,hc1⟩:∃c1:Cf,c1={ c with steps:=IntKind.i64.wrap (c.steps+1) }:=⟨_,rfl⟩
 have hk1:VOk n c1:=by rw[hc1];exact⟨hS.vok.kl,hS.vok.vars,hS.vok.cells,hS.vok.rows⟩
 have hcc:({ c with steps:=c.steps+1 }:Cf)=c1:=by rw[hc1,hw1]
 obtain⟨j,hj,hdo⟩:=A4t (bw:=S.boxes.length) (bc:=bc) (V:=V) (C:=C) (ids:=ids) hr hk1 (by rw[hc1];exact hS.used) (inp:=inp) hpp hO;have hM:Gt n inp c=(if (Ry n inp c1 e.k e.y e.n).2.1=0 then{ (Ry n inp c1 e.k e.y e.n).1 with pt:=if (Ry n inp c1 e.k e.y e.n).2.2.2=true then e.t else(l.headD e).t }
  else{ (Ry n inp c1 e.k e.y e.n).1 with trap:=(Ry n inp c1 e.k e.y e.n).2.1,edge:=(i:Int),acc:=if (Ry n inp c1 e.k e.y e.n).2.1=4∨(Ry n inp c1 e.k e.y e.n).2.1=5 then 0 else(Ry n inp c1 e.k e.y e.n).2.2.1 }):=by
  unfold Gt;rw[if_neg (by simp[g]),show c.pt.toNat=p by rw[hp];rfl,hF,show fIx (Lv (A9 n)) c.pt=i by rw[hp];exact hix];simp only[hcc]
 have hK:=Acy n inp c1 e.k e.y e.n;have hq0:(Ry n inp c1 e.k e.y e.n).1.acc=0:=by rw[hK.acc,hc1];exact(hS.none hst.1).2
 generalize Ry n inp c1 e.k e.y e.n=q at *;obtain⟨c2,tt,d,st⟩:=q;simp only at hM hq0;refine Wx (b:=S.boxes.length) rfl rfl ?_;obtain⟨T,hT⟩:∃T:St,T=⟨S.boxes++[[wkp n bc 0]],S.toks⟩:=⟨_,rfl⟩
 refine Ba T ?_ hT.symm;have hcT:CfS T bc V C ids c:=hc.more (by rw[hT]);refine C8 0 (by kernel_rfl) ?_
 iterate 7 refine Ar ?_
 refine A0 (Aq hcT.box) ?_;refine Ek (fun S'=>Cu rfl rfl rfl rfl rfl rfl rfl rfl rfl (by omega) (by rw[hp,Hc];exact hrow)) ?_;refine Ar ?_;refine Ek (fun S'=>Cu rfl rfl rfl rfl rfl rfl rfl rfl rfl (by decide) (Ahh (i:=0) rfl)) ?_
 iterate 2 refine Ar ?_
 refine Gn ?_;refine Aw hcT.box ?_;refine Cd hcT.box rfl ?_;obtain⟨U,hU⟩:∃U:St,U=⟨T.boxes.set bc [E4 c1 V C],T.toks⟩:=⟨_,rfl⟩
 refine Ba U ?_ (by rw[hU,hc1]);have hcU:CfS U bc V C ids c1:=by rw[hU];exact hcT.upd (by rw[hc1]) (by rw[hc1])
 have hwU:WkS n U S.boxes.length bc V C ids c1 0:=⟨by rw[hU,Fj (by omega),hT];simp,hcU,by omega,fun h=>by have:=hidl _ h;omega⟩
 have hchU:Chg (bc::ids) S.boxes U.boxes:=by
  rw[hU,hT];exact(Chg.snoc (bc::ids) S.boxes _).up (Cz _ bc _) fun i hi=>by simp at hi;simp[hi]
 refine Gz (hdo U hwU) ?_;intro r W hP _ _;obtain⟨rfl,htW,hcW,d',hWW,hacc⟩:=hP;simp only at hWW hacc⊢;have hchW:Chg (bc::ids) S.boxes W.boxes:=by
  have h1:=hchU.1;exact⟨Nt hchU.1 hcW.1,fun k hk hk2=>(hcW.2 k (Mx hk h1) (by simp only[zzq13,not_or]at hk2⊢;exact⟨by omega,hk2⟩)).trans (hchU.2 k hk hk2)⟩
 have htS:W.toks=S.toks:=by rw[htW,hU,hT]
 rw[hM];refine Bq 60 rfl ?_;refine F4 (fun g2=>?_) (fun g2=>?_)
 ·have gt:tt=0:=by simpa using(show (tt==0)=true from g2)
  rw[if_pos gt];obtain⟨je,hje,hjt⟩:∃je:Eg,(Lv (A9 n))[if st=true then i else j]?=some je∧je.t=if st=true then e.t else(l.headD e).t:=by
   cases st with
   |true=>exact⟨e,he,rfl⟩
   |false=>exact⟨_,hj,rfl⟩
  refine Mj (r:=H4 je) ((if st=true then i else j:Nat):Int) (Int.natCast_nonneg _) (by rw[Hc];exact Gk hje) ?_;refine Cd hWW.c.box rfl ?_;refine Bg func81 (h:=rfl) ⟨_,rfl,rfl,htS,hchW.up (Cz W.boxes bc _) fun i hi=>by simp at hi;simp[hi],?_⟩;rw[←hjt];exact hWW.c.upd (c':={ c2 with pt:=je.t }) rfl rfl
 ·have gt:¬tt=0:=by simpa using(show (tt==0)=false from g2)
  rw[if_neg gt];refine Cd hWW.c.box rfl ?_;have hc5:=hWW.c.upd (c':={ c2 with trap:=tt }) rfl rfl;refine Cd hc5.box rfl ?_;have hc6:=hc5.upd (c':={ c2 with trap:=tt,edge:=(i:Int) }) rfl rfl;have hch6:Chg (bc::ids) S.boxes ((W.boxes.set bc [E4 { c2 with trap:=tt } V C]).set bc [E4 { c2 with trap:=tt,edge:=(i:Int) } V C]):=
   (hchW.up (Cz W.boxes bc _) fun i hi=>by simp at hi;simp[hi]).up (Cz _ bc _) fun i hi=>by simp at hi;simp[hi]
  by_cases h4:tt=4
  ·subst h4;refine Nn ?_;refine Bs ?_;refine Agh func81 (h:=rfl) ⟨_,rfl,rfl,htS,hch6,?_⟩;rw[if_pos (.inl rfl)];have:({ c2 with trap:=4,edge:=(i:Int),acc:=0 }:Cf)={ c2 with trap:=4,edge:=(i:Int) }:=by rw[←hq0]
   rw[this];exact hc6
  ·refine Om ?_ (ht:=by simpa using h4);by_cases h5:tt=5
   ·subst h5;refine Bs ?_;refine Agh func81 (h:=rfl) ⟨_,rfl,rfl,htS,hch6,?_⟩;rw[if_pos (.inr rfl)];have:({ c2 with trap:=5,edge:=(i:Int),acc:=0 }:Cf)={ c2 with trap:=5,edge:=(i:Int) }:=by rw[←hq0]
    rw[this];exact hc6
   ·refine Dm ?_ (ht:=by simpa using h5);have hzw:((W.boxes.set bc [E4 { c2 with trap:=tt } V C]).set bc [E4 { c2 with trap:=tt,edge:=(i:Int) } V C])[S.boxes.length]?=some [wkp n bc d']:=by
     rw[Fj (by omega),Fj (by omega)];exact hWW.w
    refine Aw hzw ?_;refine Cd hc6.box rfl ?_;refine Agh func81 (h:=rfl) ⟨_,rfl,rfl,htS,hch6.up (Cz _ bc _) fun i hi=>by simp at hi;simp[hi],?_⟩;rw[if_neg (by omega),←hacc gt h4 h5];exact hc6.upd (c':={ c2 with trap:=tt,edge:=(i:Int),acc:=d' }) rfl rfl
end
theorem Acr{q:Bool}(n:Nd):∀{lo hi b d:Nat}{bx pre:List (List (List AV))},pre.length=d→Zs q lo hi bx b n→Zs q (lo+d) (hi+d) (pre++Oh d bx) (b+d) n:=by
 induction n using Nd.ind with
 |h n ih=>
 intro lo hi b d bx pre hd h;obtain⟨h1,rows,h2,h3⟩:=Mo.1 h;refine Mo.2 ⟨by omega,rows.map fun r=>r.map (Hq d),?_,Zr (by simpa using Vf h3) fun i x hx=>?_⟩
 ·rw[Gj (by omega),hd,Ad3,Oh,Gm,h2];rfl
 ·obtain⟨r,c,g1,⟨a1,a2,a3,rfl,g2⟩,g4⟩:=Rs h3 i x hx;exact⟨_,c+d,by rw[Gm,g1];rfl,⟨a1,a2,a3,by simp[Hq],g2⟩,ih x (Bh hx) hd g4⟩
abbrev ndB(b:Nat)(n:Nd):AV:=.agg [vi n.kind,str n.name,vi n.num,.bsl b n.kids.length]
def TrG(n:Nd)(r:AV)(bx:List (List (List AV))):Prop:=∃b,r=ndB b n∧Zs true 0 bx.length bx b n
def A4g(l:List Nd)(r:AV)(bx:List (List (List AV))):Prop:=∃b,r=.bsl b l.length∧Zs true 0 bx.length bx b (.mk 0 [] 0 l)
theorem Ath{d b:Nat}(n:Nd):Sh d (ndB b n) (ndB (b+d) n):=.aggL (.cons (.val _) (.cons (.val _) (.cons (.val _) (.cons (.bsl b _) .nil))))
theorem Av7{q:Bool}{lo hi b:Nat}{bx:List (List (List AV))}(n:Nd):Zs q lo hi bx b (.mk 0 [] 0 n.kids)↔Zs q lo hi bx b n:=by rw[Mo,Mo];rfl
theorem Ay1(l:List Nd)(hl:l.length≤1000000000)(ih:∀x,x∈l→Gives X 12 [nd x] (TrG x)):Gives X 51 [.sl (Ap l) .no] (A4g l):=by
 refine Gives.run func51 ?_;refine Bm (Ik (n:=(Ap l).length) (b:=0) (by rw[Ad];exact hl) rfl rfl rfl rfl rfl rfl rfl rfl rfl rfl) ?_;refine Ju (ι:=Nat×St) (fun i=>i.1≤l.length∧∃rows,i.2.boxes[0]?=some rows∧rows.length=l.length∧(∀(j:Nat) x,j<i.1→l[j]?=some x→∃r c,rows[j]?=some r∧Av0 true x r c∧Zs true 1 i.2.boxes.length i.2.boxes c x)∧∀j:Nat,i.1≤j→j<l.length→rows[j]?=some zN)
  (fun i=>[(4,vi i.1),(3,.bsl 0 l.length),(0,.sl (Ap l) .no)]) (fun i=>i.2) (fun i=>l.length-i.1) ?_ (0,⟨[List.replicate (Ap l).length zN],[]⟩)
  ⟨Cc _,_,rfl,by rw[List.length_replicate,Ad],fun j x h=>absurd h (Wp _),fun j _ hj=>by rw[Ao7,if_pos (by rw[Ad];exact hj)]⟩ ⟨rfl,by rw[←Ad l];rfl,rfl,trivial⟩ rfl
 intro i hi IH;obtain⟨i,S1⟩:=i;obtain⟨hi,rows,hb,hrl,hdone,hleft⟩:=hi;simp only at hi hb hdone hleft;refine Dh (fun h=>?_) (fun h=>?_)
 ·have hlt:i<l.length:=by have:=A7 h;rw[Ad]at this;simp only at this;omega
  obtain⟨x,hx⟩:=Ab l hlt;refine B7 i (by omega) (Am hx) ?_;refine P5 (ih x (Bh hx)) (.cons (.same _ (inferInstance:OK 0 0 (nd x)).ok) .nil) ?_;intro r bx hP;obtain⟨b,rfl,hT⟩:=hP;refine⟨ndB (b+S1.boxes.length) x,Oh S1.boxes.length bx,Ath x,Mv _ _,?_⟩;have hT2:=Acr x (pre:=S1.boxes) rfl hT;have hb2:(S1.boxes++Oh S1.boxes.length bx)[0]?=some rows:=by rw[Cr (Aa hb)];exact hb
  have hz:=hleft i (Bo _) hlt;have h1:1≤S1.boxes.length:=Aa hb;refine Lm i hlt hb2 hz rfl ?_;refine Rk hb2 hz rfl ?_;refine IH (i+1,_) ⟨hlt,_,Et (Aa hb2),by rw[Abk];exact hrl,fun j y hj hy=>?_,fun j hj hjl=>?_⟩ (by simp only;omega) _ _ ⟨Ct ((Ac (by omega) (by omega)).trans (by simp only;omega)),rfl,rfl,trivial⟩ rfl
  ·by_cases hji:j=i
   ·subst hji;rw[hx]at hy;cases hy;refine⟨_,b+S1.boxes.length,Et (by omega),⟨_,_,_,rfl,fun _=>rfl⟩,Pg x (by omega) (by simp[Pp];omega) (fun k z hk _ hz=>?_) hT2⟩;show ((S1.boxes++Oh S1.boxes.length bx).set 0 _)[k]?=_;rw[Fj (by omega)];exact hz
   ·obtain⟨r,c,g1,g2,g3⟩:=hdone j y (by simp only at hj;omega) hy;refine⟨r,c,by rw[Fj (Ne.symm hji)];exact g1,g2,Pg y (Bo _) (by simp) (fun k z hk hk2 hz=>?_) g3⟩;show ((S1.boxes++Oh S1.boxes.length bx).set 0 _)[k]?=_;rw[Fj (by omega),Cr hk2];exact hz
  ·simp only at hj;rw[Fj (by omega)];exact hleft j (by omega) hjl
 ·have:i=l.length:=by have:=Bd h;rw[Ad]at this;simp only at this;omega
  subst this;refine Bg func51 (h:=rfl) ⟨_,rfl,0,rfl,Mo.2 ⟨⟨Cc _,Aa hb⟩,rows,hb,Zr hrl fun j x hx=>?_⟩⟩;obtain⟨r,c,g1,g2,g3⟩:=hdone j x (Aa hx) hx;exact⟨r,c,g1,g2,Pg x (Cc _) (Bo _) (fun _ _ _ _ h=>h) g3⟩
theorem A19(n:Nd)(hn:Ai n≤1000000000):Gives X 12 [nd n] (TrG n):=by
 induction n using Nd.ind with
 |h n ih=>
 have hcn:=Ck n;have hll:=Bn n.kids;refine Gives.run func12 ?_;refine P5 (Ay1 n.kids (by omega) (fun x hx=>ih x hx (by have:=Ex hx;omega))) (.cons (.same _ (inferInstance:OK 0 0 (.sl (Ap n.kids) .no)).ok) .nil) ?_;intro r bx hP;obtain⟨b,rfl,hT⟩:=hP;refine⟨.bsl (b+3) n.kids.length,Oh 3 bx,.bsl b _,Mv _ _,?_⟩;refine Bj 100 rfl ?_;refine Bg func12 (h:=rfl) ⟨_,rfl,b+3,rfl,?_⟩;refine Pg n (Cc _) ?_ (fun _ _ _ _ h=>h) (Acr n (d:=3) (bx:=bx) (pre:=[_,_,_]) rfl ((Av7 n).1 hT));simp[Pp]
def InG(l:List Int)(r:AV)(bx:List (List (List AV))):Prop:=∃b,r=.bsl b l.length∧bx[b]?=some (Ei l)
theorem Au3(l:List Int)(hl:l.length≤1000000000):Gives X 20 [.sl (Ei l) .no] (InG l):=by
 have hlen:=C2 l;refine Gives.run func20 ?_;refine Bm (Ik (n:=(Ei l).length) (b:=0) (by rw[hlen];exact hl) rfl rfl rfl rfl rfl rfl rfl rfl rfl rfl) ?_;refine Av (ι:=Nat) 1 0 (fun i=>i≤l.length) (fun i=>[(4,vi i),(3,.bsl 0 l.length),(0,.sl (Ei l) .no)]) (fun i=>⟨[cpR Ji [vi 0] l i],[]⟩) (fun i=>l.length-i) ?_ 0 (Cc _)
  ⟨rfl,by rw[←hlen];rfl,rfl,trivial⟩ (congrArg (fun b=>St.mk [b] []) (Ang Ji [vi 0] l).symm)
 intro i hi IH;refine Dh (fun h=>?_) (fun h=>?_)
 ·have hlt:i<l.length:=by have:=A7 h;rw[hlen]at this;omega
  obtain⟨x,hx⟩:=Ab l hlt;have hr:=Anf Ji [vi 0] hlt;refine B7 i (by omega) (Gf (f:=Ji) hx) ?_;refine Zl i hlt hr ?_;refine Agj hr ?_;refine IH (i+1) hlt (by omega) _ _ ⟨vsx (by omega),rfl,rfl,trivial⟩ ?_ rfl rfl;exact congrArg (fun b=>St.mk [b] []) (Anh Ji [vi 0] hx)
 ·have:i=l.length:=by have:=Bd h;rw[hlen]at this;omega
  subst this;refine Bg func20 (h:=rfl) ⟨_,rfl,0,rfl,?_⟩;show some (cpR Ji [vi 0] l l.length)=_;rw[Ane];rfl
end Go.V
