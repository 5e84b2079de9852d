/- A part of the proof of the claim that the last text states: no condition of its own. -/
import Derived.Test.YtojhghmilenfkaaGreatDoorN8
set_option linter.unusedVariables false
set_option linter.unusedSimpArgs false
namespace Go.V
open Go
inductive Sh (d:Nat):AV→AV→Prop where
 |val (v:Value):Sh d (.val v) (.val v)
 |junk (x:AV):Sh d x .junk
 |nil (sp:Sp):Sh d (.sl [] sp) (.sl [] .no)
 |pnil (t v:Nat):Sh d (.psl [] t v) (.sl [] .no)
 |bsl (b k:Nat):Sh d (.bsl b k) (.bsl (b+d) k)
 |agg (cs cs':List AV) (hl:cs'.length=cs.length) (hz:∀(j:Nat) (x y:AV),cs[j]?=some x→cs'[j]?=some y→Sh d x y):Sh d (.agg cs) (.agg cs')
 |tup (cs cs':List AV) (hl:cs'.length=cs.length) (hz:∀(j:Nat) (x y:AV),cs[j]?=some x→cs'[j]?=some y→Sh d x y):Sh d (.tup cs) (.tup cs')
theorem Sh.rel{d:Nat}{E1 E':Env}{w:World}{x y:AV}(h:Sh d x y)(hb:∀(b:Nat)(q:Nat×Nat),E1.boxes[b]?=some (some q)→E'.boxes[b+d]?=some (some q)):∀{v:Value},Rel E1 w v x→Rel E' w v y:=by
 induction h with
 |val v=>intro v' hx;cases hx;exact .val _
 |junk x=>intro v hx;exact .junk v
 |nil sp=>
  intro v hx;cases hx with
  |sl _ _ a n cap b o sz vals hn hx ha hsz hm hc hr hs hcap=>
   have h0:n=0:=by simpa using hn.symm
   subst h0;exact .sl [] .no a 0 cap b o sz vals rfl hx (fun h=>absurd rfl h) (fun r hr=>by cases hr) (fun i j hi=>by omega) (fun i j hi=>by omega) (fun i j r x hi=>by simp at hi) trivial hcap
 |pnil t ver=>
  intro v hx;cases hx with
  |psl _ _ _ a n cap k sz vals hn hx hcap hk hv hsz hp hr hf=>
   have h0:n=0:=by simpa using hn.symm
   subst h0;exact .sl [] .no a 0 cap 0 0 sz vals rfl hx (fun h=>absurd rfl h) (fun r hr=>by cases hr) (fun i j hi=>by omega) (fun i j hi=>by omega) (fun i j r x hi=>by simp at hi) trivial hcap
 |bsl b k=>
  intro v hx;cases hx with
  |bsl _ blk sz _ cap h hc=>exact .bsl _ blk sz k cap (hb b _ h) hc
 |agg cs cs' hl hz ih=>
  intro v hx;cases hx with
  |agg vs _ hl' hr=>
   refine .agg vs cs' (by omega) (fun j v y hv hy=>?_);obtain⟨x,hx⟩:=Ab cs (i:=j) (by have:=Aa hy;omega);exact ih j x y hx hy (hr j v x hv hx)
 |tup cs cs' hl hz ih=>
  intro v hx;cases hx with
  |tup vs _ hl' hr=>
   refine .tup vs cs' (by omega) (fun j v y hv hy=>?_);obtain⟨x,hx⟩:=Ab cs (i:=j) (by have:=Aa hy;omega);exact ih j x y hx hy (hr j v x hv hx)
inductive ShL (d:Nat):List AV→List AV→Prop where
 |nil:ShL d [] []
 |cons {x y:AV} {l l':List AV} (h:Sh d x y) (t:ShL d l l'):ShL d (x::l) (y::l')
theorem ShL.get{d:Nat}{l l':List AV}(h:ShL d l l'):l'.length=l.length∧∀(j:Nat)(x y:AV),l[j]?=some x→l'[j]?=some y→Sh d x y:=by
 induction h with
 |nil=>exact⟨rfl,fun j x y h=>by simp at h⟩
 |cons h t ih=>
  refine⟨by simp[ih.1],fun j x y hx hy=>?_⟩;cases j with
  |zero=>simp at hx hy;subst hx;subst hy;exact h
  |succ j=>exact ih.2 j x y (by simpa using hx) (by simpa using hy)
theorem Sh.aggL{d:Nat}{l l':List AV}(h:ShL d l l'):Sh d (.agg l) (.agg l'):=.agg l l' h.get.1 h.get.2
def ShR(d:Nat)(r r':List (List AV)):Prop:=r'.length=r.length∧∀(i:Nat)(x y:List AV),r[i]?=some x→r'[i]?=some y→ShL d x y
def ShB(d:Nat)(b b':List (List (List AV))):Prop:=b'.length=b.length∧∀(i:Nat)(x y:List (List AV)),b[i]?=some x→b'[i]?=some y→ShR d x y
section
variable {X:Cx}{B:Bx}{E E1:Env}{S S1:St}{w w':World}{F:C5}{a:Act}{N:Nat}{R:AE→St→Prop}{ops:Array Oper}{i:Nat}{o:Oper}
def Env.lent(E:Env):Env:=⟨[],[],E.fr,[]⟩
theorem N4{b:Nat}:¬E.lent.own b:=fun h=>by
 rcases h with⟨i,s,h⟩|⟨t,l,c,s,h⟩<;>simp[Env.lent]at h
theorem Aiu{b o:Nat}(h:E.lent.mt b o):E.fr b o:=by
 rcases h with h|⟨i,s,h⟩|⟨t,l,c,s,h,_⟩
 ·exact h
 ·simp[Env.lent]at h
 ·simp[Env.lent]at h
theorem Inv.lent(hI:Inv X E S w):Inv X E.lent ⟨[],[]⟩ w where
 nb:=rfl
 nt:=rfl
 np i hi:=by simp[Env.lent]at hi
 box i b sz rows h:=by simp[Env.lent]at h
 tok t l b c sz h:=by simp[Env.lent]at h
 bb i j b s s' h:=by simp[Env.lent]at h
 bt i t b s l c sz h:=by simp[Env.lent]at h
 tt i j b l c s l' c' s' h:=by simp[Env.lent]at h
 frlt b o h:=⟨N4,(hI.frlt b o h).2⟩
 lo b h:=absurd h N4
 frlo:=hI.frlo
 sz:=hI.sz
 glob:=hI.glob
theorem Fz.lent(hI:Inv X E S w){x y:AV}(h:Fz S 0 0 x y){v:Value}(hx:Rel E w v x):Rel E.lent w v y:=by
 have h1:=h.rel hI hx;have h2:=h1.ok;refine h1.env (by simpa[Env.drop]using h2) fun b o h=>.inl (Aiu h)
def Env.gain(E E1:Env):Env:=⟨E.boxes++E1.boxes,E.toks,E.fr,E.df⟩
theorem Qm{j:Nat}{q:Nat×Nat}(h:(E.gain E1).boxes[j]?=some (some q)):E.boxes[j]?=some (some q)∨(E.boxes.length≤j∧E1.boxes[j-E.boxes.length]?=some (some q)):=by
 simp only[Env.gain]at h;rcases Gs j E.boxes.length with hj|hj
 ·rw[Cs hj]at h;exact .inl h
 ·rw[Gk hj]at h;exact .inr ⟨hj,h⟩
theorem Ac7(hI:Inv X E S w)(hI1:Inv X E1 S1 w')(ev:Evol E.lent w E1 w' 0 0){bx:List (List (List AV))}(hsh:ShB E.boxes.length S1.boxes bx) :
 Evol E w (E.gain E1) w' E.boxes.length E.toks.length∧Inv X (E.gain E1) ⟨S.boxes++bx,S.toks⟩ w':=by
 have hfar:∀{b:Nat},b<w.heap.size→w'.heap[b]?=w.heap[b]?:=fun{b} h=>ev.block b h N4;have hge:∀{b j s:Nat},E1.boxes[j]?=some (some (b,s))→w.heap.size≤b:=fun{b j s} h=>by
  rcases Gs b w.heap.size with h'|h'
  ·exact absurd (ev.own b h' (.inl ⟨j,s,h⟩)) N4
  ·exact h'
 have hownx:∀{b:Nat},(E.gain E1).own b→E.own b∨∃j s,E1.boxes[j]?=some (some (b,s)):=fun{b} h=>by
  rcases h with⟨j,s,h⟩|h
  ·rcases Qm h with h|⟨_,h⟩
   ·exact .inl (.inl ⟨j,s,h⟩)
   ·exact .inr ⟨_,s,h⟩
  ·exact .inl (.inr h)
 have ev2:Evol E w (E.gain E1) w' E.boxes.length E.toks.length:=by
  refine⟨rfl,fun j hj hl=>⟨by simp[Env.gain];omega,fun x hx=>by simp only[Env.gain];rw[Cs hl];exact hx⟩,fun t ht k hk=>⟨k,hk,.inl rfl⟩,ev.os,ev.tape,ev.output,ev.size,fun b hb _=>hfar hb,
   fun b o v hm hc=>?_,fun b o hb h=>?_,fun b hb h=>?_,rfl,ev.ty,fun _ _ _ b _ _ _ _ o ho=>by rw[hfar (N7 ho)];exact ho⟩
  ·have hb:=J3 hc;unfold World.cell? at hc⊢;rw[hfar hb];exact hc
  ·rcases h with h|⟨j,s,h⟩|h
   ·exact .inl h
   ·rcases Qm h with h|⟨_,h⟩
    ·exact .inr (.inl ⟨j,s,h⟩)
    ·have:=hge h;omega
   ·exact .inr (.inr h)
  ·rcases hownx h with h|⟨j,s,h⟩
   ·exact h
   ·have:=hge h;omega
 refine⟨ev2,?_⟩;have hnb:=hI.nb;have hnb1:=hI1.nb;have hsl:=hsh.1;exact{
  nb:=by simp[Env.gain];omega
  nt:=hI.nt
  np:=fun j hj=>by
   simp only[Env.gain,Ex]at hj⊢;rcases Gs j E.boxes.length with h|h
   ·rw[Cs h];exact hI.np j h
   ·rw[Gk h];exact hI1.np _ (by omega)
  box:=fun j b s rows' h1 h2=>by
   simp only at h2;rcases Qm h1 with h1|⟨hj,h1⟩
   ·have:=Aa h1;rw[Cs (by omega)]at h2;obtain⟨cs',e',hh',hs',hl',hr'⟩:=hI.box j b s rows' h1 h2;exact⟨cs',e',(hfar (hI.own_lt (.inl ⟨j,s,h1⟩))).trans hh',hs',hl',fun k r q x v h3 h4 h5=>(hr' k r q x v h3 h4 h5).step ev2⟩
   ·rw[Gk (by omega),←hnb]at h2;obtain⟨rows,hrw⟩:=Ab S1.boxes (i:=j-E.boxes.length) (by have:=Aa h1;omega);obtain⟨cs,e,hh,hs,hl,hr⟩:=hI1.box _ b s rows h1 hrw;obtain⟨hrl,hrr⟩:=hsh.2 _ _ _ hrw h2;refine⟨cs,e,hh,by rw[hrl];exact hs,fun r hr'=>?_,fun k r q x v h3 h4 h5=>?_⟩
    ·obtain⟨k,hk⟩:=Bs hr';obtain⟨r0,hr0⟩:=Ab rows (i:=k) (by have:=Aa hk;omega);rw[(hrr k r0 r hr0 hk).get.1];exact hl r0 (Bh hr0)
    ·obtain⟨r0,hr0⟩:=Ab rows (i:=k) (by have:=Aa h3;omega);have hrl2:=(hrr k r0 r hr0 h3).get;obtain⟨x0,hx0⟩:=Ab r0 (i:=q) (by have:=Aa h4;omega);refine(hrl2.2 q x0 x hx0 h4).rel (fun b' q' hb'=>?_) (hr k r0 q x0 v hr0 hx0 h5);simp only[Env.gain];rw[Gk (by omega)];simpa using hb'
  tok:=fun t l b c s h=>by
   obtain⟨h1,h0,cs,e,hh,hs⟩:=hI.tok t l b c s h;exact⟨h1,h0,cs,e,(hfar (hI.own_lt (.inr ⟨t,l,c,s,h⟩))).trans hh,hs⟩
  bb:=fun i j b s s' h1 h2=>by
   rcases Qm h1 with h1|⟨hi,h1⟩<;>rcases Qm h2 with h2|⟨hj,h2⟩
   ·exact hI.bb i j b s s' h1 h2
   ·have:=hge h2;have:=hI.own_lt (.inl ⟨i,s,h1⟩);omega
   ·have:=hge h1;have:=hI.own_lt (.inl ⟨j,s',h2⟩);omega
   ·have:=hI1.bb _ _ b s s' h1 h2;omega
  bt:=fun i t b s l c sz' h1 h2=>by
   rcases Qm h1 with h1|⟨hi,h1⟩
   ·exact hI.bt i t b s l c sz' h1 h2
   ·have:=hge h1;have:=hI.own_lt (.inr ⟨t,l,c,sz',h2⟩);omega
  tt:=hI.tt
  frlt:=fun b o h=>⟨fun h'=>by
   rcases hownx h' with h'|⟨j,s,h'⟩
   ·exact(hI.frlt b o h).1 h'
   ·have:=(hI.frlt b o h).2;have:=hge h';omega,Mz (hI.frlt b o h).2 ev.size⟩
  lo:=fun b h=>by
   rcases hownx h with h|⟨j,s,h⟩
   ·exact hI.lo b h
   ·exact hI1.lo b (.inl ⟨j,s,h⟩)
  frlo:=hI.frlo
  sz:=hI1.sz
  glob:=hI1.glob }
def Gives(X:Cx)(f:FuncId)(args:List AV)(P:AV→List (List (List AV))→Prop):Prop:=
 Nr X.P f∧ACalls X f args ⟨[],[]⟩ fun e S'=>∃r,e=.ret r∧P r S'.boxes
theorem Gives.mk{f:FuncId}{fn:Func}{c:Code}{args:List AV}{P:AV→List (List (List AV))→Prop}(hf:X.P.funcs[f]?=some fn)(hb:fn.body=some c)(hl:Nat.ble args.length fn.ntmps=true)(hnm:(fn.name == "runtime.NumGoroutine")=false)
 (h:AK X ⟨f,fn,0,0⟩ [.code c] (Ot 0 args) ⟨[],[]⟩ fun e S'=>∃r,e=.ret r∧P r S'.boxes):Gives X f args P:=
 ⟨⟨fn,hf,hnm,by rw[hb];rfl⟩,Jq (n:=0) (m:=0) (hh:=fun C S' hx=>by obtain⟨r,hx,_⟩:=hx;cases hx) hf hb hl rfl rfl h⟩
theorem Pure.gives{f:FuncId}{args:List AV}{r:AV}(h:Pure X f args r):Gives X f args fun r' bx=>r'=r∧bx=[]:=
 ⟨h.1,fun E w vs h1 h2 h3 h4=>(h.2 E w vs h1 h2 h3 h4).mono fun e w' ⟨E',S',g1,g2,g3⟩=>⟨E',S',g1,g2,by
   cases e with
   |returned v=>obtain⟨r',h1,h2,rfl⟩:=g3;cases h2;exact⟨_,h1,_,rfl,rfl,rfl⟩
   |panicked ch=>obtain⟨h,_⟩:=g3;cases h
   |outgrown=>exact g3⟩⟩
theorem Ack{c:Call}{fo:Operand}{f:FuncId}{caps xs zs ys:List AV}{P:AV→List (List (List AV))→Prop}{F':C5}(hc:Gives X f ys P)(hl:∀t,t∈o.looksAt ops→lk F' t=lk F t)(hI:Inv X E S w)(hF:FR E w F' a N)
 (ho:ops[i]?=some o)(hw:A8 ops F o=some true)(hop:o.op=.call c)(hcal:c.callee=.value fo)(hfo:Dw X F fo=some (.fn f caps))(hx:Hm X F c.args.toList=some xs)(hzs:Kg xs caps=some zs)(ha:FzL S 0 0 zs ys) :
 Does X ops i a w fun v w'=>∃r E1 S1,P r S1.boxes∧Inv X E1 S1 w'∧Evol E.lent w E1 w' 0 0∧Rel E1 w' v r:=by
 obtain⟨l1,l2⟩:=Ru (X:=X) hop hcal hl;have hz:=Rv hzs;obtain⟨vs,h1,h2,h3⟩:=Qh hop hcal hc.1 hI hF (l1.trans hfo) (l2.trans hx);refine Does.call ho (Cr hF (by rw[C6 hl];exact hw)) h1 ((hc.2 E.lent w vs rfl hI.lent (by rw[h2,hz,ha.get.1]) (fun j v y hv hy=>?_)).mono fun e w' he=>?_)
 ·obtain⟨x,hxj⟩:=Ab zs (i:=j) (by have:=Aa hy;rw[ha.get.1]at this;exact this);exact(ha.get.2 j x y hxj hy).lent hI (h3 j v x hv (by rw[hz];exact hxj))
 ·obtain⟨E1,S1,d1,d2,d3⟩:=he;cases e with
  |returned v=>
   obtain⟨r',hr',r,hre,hP⟩:=d3;cases hre;exact⟨v,rfl,_,E1,S1,hP,d1,d2,hr'⟩
  |panicked ch=>obtain⟨r,h,_⟩:=d3;cases h
  |outgrown=>exact d3.elim
theorem A0m{c:Call}{fo:Operand}{f:FuncId}{caps xs zs ys:List AV}{r r':AV}{bx bx':List (List (List AV))}(hc:Gives X f ys fun r0 b0=>r0=r∧b0=bx)(ha:FzL S 0 0 zs ys)(hr:Sh S.boxes.length r r')(hb:ShB S.boxes.length bx bx')
 (ho:ops[i]?=some o:=by rfl)(hw:A8 ops F o=some true:=by rfl)(hop:o.op=.call c:=by rfl)(hcal:c.callee=.value fo:=by rfl)(hfo:Dw X F fo=some (.fn f caps):=by rfl)(hx:Hm X F c.args.toList=some xs:=by rfl)(hzs:Kg xs caps=some zs:=by rfl) :
 Ndo X N ops i o F r' S ⟨S.boxes++bx',S.toks⟩:=by
 intro F' E w a hl hI hF;obtain hd:=Ack hc hl hI hF ho hw hop hcal hfo hx hzs ha;intro b k cs rest;obtain⟨v,w',⟨r0,E1,S1,⟨rfl,rfl⟩,d1,d2,d3⟩,hst⟩:=hd b k cs rest;have nb:=hI.nb;obtain⟨g1,g2⟩:=Ac7 hI d1 d2 (by rw[nb];exact hb);refine⟨v,w',⟨_,g2,g1,hr.rel (fun b' q hq=>?_) d3⟩,hst⟩;simp only[Env.gain];rw[Gk (by omega)];rw[←nb,Ad8];exact hq
theorem Rr{c:Call}{fo:Operand}{f:FuncId}{caps xs zs ys:List AV}{r r':AV}(hc:Pure X f ys r)(ha:FzL S 0 0 zs ys)(hr:Sh S.boxes.length r r')
 (ho:ops[i]?=some o:=by rfl)(hw:A8 ops F o=some true:=by rfl)(hop:o.op=.call c:=by rfl)(hcal:c.callee=.value fo:=by rfl)(hfo:Dw X F fo=some (.fn f caps):=by rfl)(hx:Hm X F c.args.toList=some xs:=by rfl)(hzs:Kg xs caps=some zs:=by rfl) :
 Ndo X N ops i o F r' S S:=by
 have h:=A0m (X:=X) (N:=N) (F:=F) (S:=S) (i:=i) (bx:=[]) (bx':=[]) hc.gives ha hr ⟨rfl,fun i x y hx=>by simp at hx⟩ ho hw hop hcal hfo hx hzs;rw[H0]at h;exact h
theorem Te{l:List Nat}{k:List Item}{c:Call}{fo:Operand}{f:FuncId}{caps xs zs ys:List AV}{P:AV→List (List (List AV))→Prop}(hc:Gives X f ys P)(ha:FzL S 0 0 zs ys)
 (hk:∀r bx,P r bx→∃r' bx',Sh S.boxes.length r r'∧ShB S.boxes.length bx bx'∧AK X B (.inRegion ops l::k) (putF o.dst r' F) ⟨S.boxes++bx',S.toks⟩ R)(ho:ops[i]?=some o:=by rfl)(hw:A8 ops F o=some true:=by rfl)(hop:o.op=.call c:=by rfl)
 (hcal:c.callee=.value fo:=by rfl)(hfo:Dw X F fo=some (.fn f caps):=by rfl)(hx:Hm X F c.args.toList=some xs:=by rfl)(hzs:Kg xs caps=some zs:=by rfl)(hd:D3 B.fn.ntmps o.dst=true:=by rfl) :
 AK X B (.inRegion ops (i::l)::k) F S R:=by
 intro E w a b cs hI hF hn hm hb;have nt:E.toks.length=S.toks.length:=by rw[←hI.nt];simp
 have nb:=hI.nb;obtain⟨v,w',⟨r0,E1,S1,hP,d1,d2,d3⟩,hst⟩:=Ack (F':=F) hc (fun _ _=>rfl) hI hF ho hw hop hcal hfo hx hzs ha b k cs l;obtain⟨r',bx',hr,hbx,hK⟩:=hk _ _ hP;obtain⟨g1,g2⟩:=Ac7 hI d1 d2 (by rw[nb];exact hbx);have hF':=(hF.step g1).putF hd (hr.rel (E':=E.gain E1) (fun b' q hq=>by
  simp only[Env.gain];rw[Gk (by omega)];rw[←nb,Ad8];exact hq) d3)
 rw[ho]at hst;exact Fin.from hst (g1.weaken (by rw[hI.nb];exact hn) (by omega)) (hK _ w' _ b cs g2 hF' (by simp;omega) hm hb)
end
section
variable {X:Cx}{B:Bx}{E E1:Env}{S S1:St}{w w':World}{F:C5}{a:Act}{N:Nat}{R:AE→St→Prop}{ops:Array Oper}{i:Nat}{o:Oper}
def Y0(m sz:Nat):List (List AV):=List.replicate m (List.replicate sz .junk)
theorem Arc(m sz:Nat):∀r,r∈Y0 m sz→r.length=sz:=fun r h=>by rw[Abk h,List.length_replicate]
theorem Aug(hI:Inv X E S w){u:Value}{rows:List (List AV)}{t v:Nat}(h:Rel E w u (.psl rows t v))(hS:S.toks[t]?=some v)(hne:rows≠[]) :
 ∃b c sz,E.toks[t]?=some ⟨v,some (b,c,0)⟩∧u=.slice (some ⟨b,0,none⟩) rows.length c∧rows.length≤c∧Agt E w b sz (rows++Y0 (c-rows.length) sz):=by
 cases h with
 |psl _ _ _ a n cap k sz vals hn hx hcap hk hv hsz hp hr hf=>
  have hcur:=Y5 hI hk hS;have hp:=hp hcur;obtain⟨kl,ksp⟩:=k;simp only at hcur;subst hcur;subst hn;cases ksp with
  |none=>exact absurd (zzq94.1 hp.1) hne
  |some q=>
   obtain⟨b,c,s⟩:=q;obtain⟨_,rfl,rfl,rfl,cs,e,hh,hcs,hcl⟩:=hp;refine⟨b,c,sz,hk,rfl,hcap,cs,e,hh,by rw[hcs,Ex,Y0,List.length_replicate];congr 1;omega,fun r hr'=>?_,fun k r j x v' hk' hj hv'=>?_⟩
   ·rcases zzq45.1 hr' with h|h
    ·exact hsz r h
    ·exact Arc _ _ r h
   ·rcases Gs k rows.length with hlt|hge
    ·rw[Cs hlt]at hk';have hjl:j<sz:=by rw[←hsz r (Bh hk')];exact Aa hj
     have:=hcl k j (Aa hk') hjl;rw[this]at hv';cases hv';exact hr k j r x hk' hj
    ·rw[Gk hge]at hk';rw[Abk (Bh hk')]at hj;rw[Abk (Bh hj)];exact .junk v'
def Env.box1(E:Env)(t v b sz:Nat):Env:=⟨E.boxes++[some (b,sz)],E.toks.set t ⟨v+1,none⟩,E.fr,E.df⟩
theorem Aol(hI:Inv X E S w){u:Value}{rows:List (List AV)}{t v:Nat}(h:Rel E w u (.psl rows t v))(hS:S.toks[t]?=some v)(hne:rows≠[]) :
 ∃E' m sz,Evol E w E' w E.boxes.length E.toks.length∧Inv X E' ⟨S.boxes++[rows++Y0 m sz],S.toks.set t (v+1)⟩ w∧(E'.boxes.take E.boxes.length=E.boxes)∧∀u',Rel E w u' (.psl rows t v)→Rel E' w u' (.bsl S.boxes.length rows.length):=by
 obtain⟨b,c,sz,hk,_,_,hbx⟩:=Aug hI h hS hne;have nb:=hI.nb;have hmtx:∀{b' o:Nat},(E.box1 t v b sz).mt b' o→E.mt b' o:=fun{b' o} h=>by
  rcases h with h|⟨j,s,h⟩|⟨t',l,c',s,h,hl⟩
  ·exact .inl h
  ·rcases getElem?_snoc h with h|⟨_,h⟩
   ·exact .inr (.inl ⟨j,s,h⟩)
   ·cases h;exact .inr (.inr ⟨t,v,c,0,hk,by omega⟩)
  ·rcases Eu h with⟨_,h⟩|⟨_,h⟩
   ·cases h
   ·exact .inr (.inr ⟨t',l,c',s,h,hl⟩)
 have hownx:∀{b':Nat},(E.box1 t v b sz).own b'→E.own b':=fun{b'} h=>by
  rcases h with⟨j,s,h⟩|⟨t',l,c',s,h⟩
  ·rcases getElem?_snoc h with h|⟨_,h⟩
   ·exact .inl ⟨j,s,h⟩
   ·cases h;exact .inr ⟨t,v,c,0,hk⟩
  ·rcases Eu h with⟨_,h⟩|⟨_,h⟩
   ·cases h
   ·exact .inr ⟨t',l,c',s,h⟩
 have ev:Evol E w (E.box1 t v b sz) w E.boxes.length E.toks.length:=by
  refine⟨rfl,fun j hj hl=>⟨by simp[Env.box1];omega,fun x hx=>getElem?_snoc_left hx⟩,fun t' ht k hk'=>?_,rfl,rfl,rfl,Bo _,fun _ _ _=>rfl,fun _ _ _ _ h=>h,fun _ _ _ h=>hmtx h,fun _ _ h=>hownx h,rfl,fun _ _ h=>h,fun _ _ _ _ _ _ _ _ _ h=>h⟩;by_cases he:t'=t
  ·subst he;rw[hk]at hk';cases hk';exact⟨⟨v+1,none⟩,by simp[Env.box1,ht],.inr (by simp)⟩
  ·exact⟨k,by simp only[Env.box1];rw[Fq (Ne.symm he)];exact hk',.inl rfl⟩
 have hbx':∀{b' s:Nat} {rows':List (List AV)},Agt E w b' s rows'→Agt (E.box1 t v b sz) w b' s rows':=fun{b' s rows'} ⟨cs,e,h1,h2,h3,h4⟩=>⟨cs,e,h1,h2,h3,fun k r j x v' g1 g2 g3=>(h4 k r j x v' g1 g2 g3).step ev⟩
 refine⟨E.box1 t v b sz,c-rows.length,sz,ev,?_,by simp[Env.box1],fun u' hu'=>?_⟩
 ·exact{
   nb:=by simp[Env.box1,nb]
   nt:=by simp only[Env.box1,Zc,hI.nt]
   np:=fun j hj=>by
    simp only[Env.box1,Ex,Za]at hj⊢;rcases Gs j E.boxes.length with h|h
    ·rw[Cs h];exact hI.np j h
    ·have:j=E.boxes.length:=by omega
     subst this;exact⟨_,getElem?_snoc_new _ _⟩
   box:=fun j b' s rows' h1 h2=>by
    rcases getElem?_snoc h1 with h1|⟨hj,h1⟩
    ·rcases getElem?_snoc h2 with h2|⟨hj,_⟩
     ·exact hbx' (hI.box j b' s rows' h1 h2)
     ·have:=Aa h1;omega
    ·cases h1;rcases getElem?_snoc h2 with h2|⟨_,h2⟩
     ·have:=Aa h2;omega
     ·subst h2;exact hbx' hbx
   tok:=fun t' l b' c' s h=>by
    rcases Eu h with⟨_,h⟩|⟨_,h⟩
    ·cases h
    ·exact hI.tok t' l b' c' s h
   bb:=fun i j b' s s' h1 h2=>by
    rcases getElem?_snoc h1 with h1|⟨hi,h1⟩<;>rcases getElem?_snoc h2 with h2|⟨hj,h2⟩
    ·exact hI.bb i j b' s s' h1 h2
    ·cases h2;exact(hI.bt _ _ _ _ _ _ _ h1 hk).elim
    ·cases h1;exact(hI.bt _ _ _ _ _ _ _ h2 hk).elim
    ·omega
   bt:=fun i t' b' s l c' s' h1 h2=>by
    rcases Eu h2 with⟨_,h2⟩|⟨ht,h2⟩
    ·cases h2
    ·rcases getElem?_snoc h1 with h1|⟨hi,h1⟩
     ·exact hI.bt i t' b' s l c' s' h1 h2
     ·cases h1;exact ht (hI.tt _ _ _ _ _ _ _ _ _ h2 hk)
   tt:=fun i j b' l c' s l' c'' s' h1 h2=>by
    rcases Eu h1 with⟨_,h1⟩|⟨_,h1⟩
    ·cases h1
    ·rcases Eu h2 with⟨_,h2⟩|⟨_,h2⟩
     ·cases h2
     ·exact hI.tt i j b' l c' s l' c'' s' h1 h2
   frlt:=fun b' o h=>⟨fun h'=>(hI.frlt b' o h).1 (hownx h'),(hI.frlt b' o h).2⟩
   lo:=fun b' h=>hI.lo b' (hownx h)
   frlo:=hI.frlo
   sz:=hI.sz
   glob:=hI.glob }
 ·obtain⟨b2,c2,s2,hk2,rfl,hc2,_⟩:=Aug hI hu' hS hne;rw[hk]at hk2;cases hk2;exact .bsl _ b sz _ c (by rw[←nb];exact getElem?_snoc_new _ _) hc2
theorem A0i{K:List Item}(d:Nat){rows:List (List AV)}{t v m n:Nat}{tk:List Nat}(hne:rows≠[])(hk:∀k sz,AK X B K ((d,.bsl m n)::F) ⟨S.boxes++[rows++Y0 k sz],tk⟩ R)(hd:lk F d=some (.psl rows t v):=by rfl)(hS:S.toks[t]?=some v:=by rfl)
 (hm:S.boxes.length=m:=by rfl)(hn:rows.length=n:=by rfl)(htk:S.toks.set t (v+1)=tk:=by rfl):AK X B K F S R:=by
 subst hm;subst hn;subst htk;intro E w a b cs hI hF hn hm hb;obtain⟨u,hu,hr⟩:=hF.rel d _ hd;obtain⟨E',k0,z0,ev,hI',_,hrel⟩:=Aol hI hr hS hne;have nt:E.toks.length=S.toks.length:=by rw[←hI.nt];simp
 have hF':FR E' w ((d,.bsl S.boxes.length rows.length)::F) a B.fn.ntmps:=by
  have h0:=hF.step ev;refine⟨h0.size,h0.nod,fun k x hx=>?_⟩;rw[J7]at hx;split at hx
  ·rename_i hdk;cases hx;subst hdk;exact⟨u,hu,hrel u hr⟩
  ·exact h0.rel k x hx
 exact Fin.from (Steps.refl _ _) (ev.weaken (by rw[hI.nb];exact hn) (by omega)) (hk k0 z0 E' w a b cs hI' hF' (by simp;omega) (by simp;omega) hb)
theorem Av1{K:List Item}(b r j:Nat){brows:List (List AV)}{cs:List AV}{rows:List (List AV)}{t v m n:Nat}{bx:List (List (List AV))}{tk:List Nat}(hne:rows≠[])(hk:∀k sz,AK X B K F ⟨bx++[rows++Y0 k sz],tk⟩ R)(hb:S.boxes[b]?=some brows:=by rfl)(hr:brows[r]?=some cs:=by rfl)
 (hc:cs[j]?=some (.psl rows t v):=by rfl)(hS:S.toks[t]?=some v:=by rfl)(hm:S.boxes.length=m:=by rfl)(hn:rows.length=n:=by rfl)(hbx:S.boxes.set b (brows.set r (cs.set j (.bsl m n)))=bx:=by rfl)(htk:S.toks.set t (v+1)=tk:=by rfl) :
 AK X B K F S R:=by
 subst hm;subst hn;subst hbx;subst htk;intro E w a b' cs' hI hF hn hm hb';have hbl:=Aa hb;have nb:=hI.nb;obtain⟨⟨blk,sz⟩,hB⟩:=hI.np b (by omega);obtain⟨arr,e,hh,hs,hl,hrel0⟩:=hI.box b blk sz brows hB hb;have hrl:=Aa hr;have hjl:j<sz:=by rw[←hl cs (Bh hr)];exact Aa hc
 have hin:=I6 (sz:=sz) hrl hjl;obtain⟨u,hu⟩:=Kw arr (i:=r*sz+j) (by omega);have hur:=hrel0 r cs j _ u hr hc hu;obtain⟨E',k0,z0,ev,hI',hpre,hrel⟩:=Aol hI hur hS hne;have nt:E.toks.length=S.toks.length:=by rw[←hI.nt];simp
 have hI2:Inv X E' ⟨S.boxes.set b (brows.set r (cs.set j (.bsl S.boxes.length rows.length)))++[rows++Y0 k0 z0],S.toks.set t (v+1)⟩ w:=
  { hI' with
    nb:=by have:=hI'.nb;simpa using this
    box:=fun i blk' sz' rows' h1 h2=>by
     rcases Gs i S.boxes.length with hi|hi
     ·rw[Cs (by simpa using hi)]at h2;rcases Eu h2 with⟨rfl,rfl⟩|⟨_,h2⟩
      ·have h3:=hI'.box i blk' sz' brows h1 (by rw[Cs hi];exact hb);have h1o:E.boxes[i]?=some (some (blk',sz')):=by
        rw[←hpre,Mb,if_pos (by omega)];exact h1
       rw[hB]at h1o;cases h1o;obtain⟨arr1,e1,g1,g2,g3,g4⟩:=h3;rw[hh]at g1;cases g1;refine⟨arr,e,hh,by simpa using g2,fun q hq=>?_,fun k q p x v' hk' hp hv=>?_⟩
       ·rcases Wt hq with hq|rfl
        ·exact g3 q hq
        ·simpa using g3 cs (Bh hr)
       ·rcases Eu hk' with⟨rfl,rfl⟩|⟨_,hk'⟩
        ·rcases Eu hp with⟨rfl,rfl⟩|⟨_,hp⟩
         ·rw[hu]at hv;cases hv;exact hrel _ hur
         ·exact g4 k cs p x v' hr hp hv
        ·exact g4 k q p x v' hk' hp hv
      ·exact hI'.box i blk' sz' rows' h1 (by rw[Cs hi];exact h2)
     ·rw[Gk (by simpa using hi)]at h2;exact hI'.box i blk' sz' rows' h1 (by rw[Gk hi];simpa using h2) }
 exact Fin.from (Steps.refl _ _) (ev.weaken (by rw[hI.nb];exact hn) (by omega)) (hk k0 z0 E' w a b' cs' hI2 (hF.step ev) (by simp;omega) (by simp;omega) hb')
def Runs(X:Cx)(f:FuncId)(args:List AV)(S:St)(P:AV→St→Prop):Prop:=
 Nr X.P f∧ACalls X f args S fun e S'=>∃r,e=.ret r∧P r S'
theorem Runs.mk{f:FuncId}{fn:Func}{c:Code}{args:List AV}{P:AV→St→Prop}(hf:X.P.funcs[f]?=some fn)(hb:fn.body=some c)(hl:Nat.ble args.length fn.ntmps=true)(hnm:(fn.name == "runtime.NumGoroutine")=false)
 (h:AK X ⟨f,fn,S.boxes.length,S.toks.length⟩ [.code c] (Ot 0 args) S fun e S'=>∃r,e=.ret r∧P r S'):Runs X f args S P:=
 ⟨⟨fn,hf,hnm,by rw[hb];rfl⟩,Jq (n:=S.boxes.length) (m:=S.toks.length) (hh:=fun C S' hx=>by obtain⟨r,hx,_⟩:=hx;cases hx) hf hb hl rfl rfl h⟩
def Env.all_(E:Env):Env:=⟨E.boxes,E.toks,E.fr,[]⟩
theorem Rel.df{E E':Env}{v:Value}{x:AV}(h:Rel E w v x)(hb:E'.boxes=E.boxes)(ht:E'.toks=E.toks)(hf:E'.fr=E.fr):Rel E' w v x:=by
 refine h.move (n:=E.boxes.length) (m:=E.toks.length) (fun i _ hi=>by rw[hb];exact⟨hi,fun x h=>h⟩) (fun t _ k hk=>⟨k,by rw[ht];exact hk,.inl rfl⟩) (fun _ _ _ _ h=>h) (fun b o _ h=>?_) (fun _ _ h=>h) (fun _ _ _ _ _ _ _ _ _ h=>h) h.ok;unfold Env.mt at h⊢;rw[hb,ht,hf]at h;exact h
theorem Inv.df{E':Env}(h:Inv X E S w)(hb:E'.boxes=E.boxes)(ht:E'.toks=E.toks)(hf:E'.fr=E.fr):Inv X E' S w where
 nb:=by rw[hb];exact h.nb
 nt:=by rw[ht];exact h.nt
 np:=by rw[hb];exact h.np
 box i b sz rows h1 h2:=by
  rw[hb]at h1;obtain⟨cs,e,g1,g2,g3,g4⟩:=h.box i b sz rows h1 h2;exact⟨cs,e,g1,g2,g3,fun k r j x v a1 a2 a3=>(g4 k r j x v a1 a2 a3).df hb ht hf⟩
 tok:=by rw[ht];exact h.tok
 bb:=by rw[hb];exact h.bb
 bt:=by rw[hb,ht];exact h.bt
 tt:=by rw[ht];exact h.tt
 frlt b o g:=by
  have:=h.frlt b o (by rw[←hf];exact g);unfold Env.own at this⊢;rw[hb,ht];exact this
 lo b g:=h.lo b (by unfold Env.own at g⊢;rw[←hb,←ht];exact g)
 frlo b o g:=h.frlo b o (by rw[←hf];exact g)
 sz:=h.sz
 glob:=h.glob
theorem G3{l:List Nat}{k:List Item}{c:Call}{fo:Operand}{f:FuncId}{caps xs zs:List AV}{P:AV→St→Prop}(hc:Runs X f zs S P)(hk:∀r S',P r S'→S.boxes.length≤S'.boxes.length→S.toks.length≤S'.toks.length→AK X B (.inRegion ops l::k) (putF o.dst r F) S' R)
 (ho:ops[i]?=some o:=by rfl)(hw:A8 ops F o=some true:=by rfl)(hop:o.op=.call c:=by rfl)
 (hcal:c.callee=.value fo:=by rfl)(hfo:Dw X F fo=some (.fn f caps):=by rfl)(hx:Hm X F c.args.toList=some xs:=by rfl)(hzs:Kg xs caps=some zs:=by rfl)(hd:D3 B.fn.ntmps o.dst=true:=by rfl) :
 AK X B (.inRegion ops (i::l)::k) F S R:=by
 intro E w a b cs hI hF hn hm hb;have nt:E.toks.length=S.toks.length:=by rw[←hI.nt];simp
 have nb:=hI.nb;have hz:=Rv hzs;obtain⟨vs,h1,h2,h3⟩:=Qh hop hcal hc.1 hI hF hfo hx;have hdo:Does X ops i a w fun v w'=>∃r E' S',P r S'∧Inv X E' S' w'∧Evol E w E' w' E.boxes.length E.toks.length∧Rel E' w' v r:=by
  refine Does.call ho (Cr hF hw) h1 ((hc.2 E.all_ w vs rfl (hI.df rfl rfl rfl) (by rw[h2,hz]) (fun j v y hv hy=>?_)).mono fun e w' he=>?_)
  ·exact(h3 j v y hv (by rw[hz];exact hy)).df rfl rfl rfl
  ·obtain⟨E1,S1,d1,d2,d3⟩:=he;cases e with
   |returned v=>
    obtain⟨r',hr',r,hre,hP⟩:=d3;cases hre;have ev:Evol E w ⟨E1.boxes,E1.toks,E1.fr,E.df⟩ w' E.boxes.length E.toks.length:=by
     have d2':=d2;rw[←nb,←nt]at d2';exact{ d2' with df:=rfl }
    exact⟨v,rfl,_,⟨E1.boxes,E1.toks,E1.fr,E.df⟩,S1,hP,d1.df rfl rfl rfl,ev,hr'.df rfl rfl rfl⟩
   |panicked ch=>obtain⟨r,h,_⟩:=d3;cases h
   |outgrown=>exact d3.elim
 obtain⟨v,w',⟨r,E',S',hP,g1,g2,g3⟩,g4⟩:=hdo b k cs l;have hF':=(hF.step g2).putF hd g3;have hlen:=g2.len;have nt':E'.toks.length=S'.toks.length:=by rw[←g1.nt];simp
 have nb':=g1.nb;rw[ho]at g4;exact Fin.from g4 (g2.weaken (by omega) (by omega)) (hk r S' hP (by omega) (by omega) E' w' _ b cs g1 hF' (by omega) (by omega) hb)
end
section
variable {X:Cx}{B:Bx}{S:St}{F:C5}{R:AE→St→Prop}
theorem Io{c:Code}{k:List Item}{ι:Type}(I:ι→Prop)(st:ι→C5)(ss:ι→St)(μ:ι→Nat)
 (hstep:∀i,I i→(∀j,I j→μ j<μ i→∀F' S',Sub (st j) F'→S'=ss j→AK X B (.inLoop c::k) F' S' R)→AK X B (.code c::.inLoop c::k) (st i) (ss i) R)
 (i0:ι)(h0:I i0)(hF:Sub (st i0) F)(hS:S=ss i0):AK X B (.code (.loop c)::k) F S R:=by
 have key:∀(q:Nat) (i:ι),μ i<q→I i→AK X B (.code c::.inLoop c::k) (st i) (ss i) R:=by
  intro q
  induction q with
  |zero=>intro i h;omega
  |succ q ih=>
   intro i h hi;refine hstep i hi fun j hj hlt F' S' h1 h2=>?_;subst h2;exact P7 (Ts h1 (ih j (by omega) hj))
 subst hS;exact N1 (Ts hF (key _ i0 (Aec _) h0))
section
variable {ops:Array Oper}{i:Nat}{o:Oper}{l:List Nat}{k K:List Item}{F':C5}{S2:St}{p q:Operand}
def A42(X:Cx)(F:C5):List Item→Bool
 |.inRegion ops (i::_)::_=>match ops[i]? with
  |some o=>match o.op with
   |.alloc _=>true
   |.box _ _=>true
   |.store _ p _=>match Dw X F p with
    |some (.ptr _ _ _)=>true
    |_=>false
   |.load _ p=>match Dw X F p with
    |some (.ptr _ _ _)=>true
    |_=>false
   |_=>false
  |none=>true
 |_=>false
def ev0(X:Cx)(N:Nat):Nat→List Item→C5→St→List Item×C5×St
 |0,K,F,S=>(K,F,S)
 |n+1,K,F,S=>match A42 X F K with
  |true=>(K,F,S)
  |false=>match Go.V.ev X N 1 K F S with
   |(K',F',S')=>ev0 X N n K' F' S'
theorem Cb{K':List Item}{F':C5}{S':St}:∀(n:Nat){K:List Item}{F:C5}{S:St},ev0 X B.fn.ntmps n K F S=(K',F',S')→AK X B K' F' S' R→AK X B K F S R
 |0,K,F,S,h,hk=>by simp only[ev0]at h;cases h;exact hk
 |n+1,K,F,S,h,hk=>by
  simp only[ev0]at h;split at h
  ·cases h;exact hk
  ·rcases hq:Go.V.ev X B.fn.ntmps 1 K F S with⟨K1,F1,S1⟩
   rw[hq]at h;exact Bi 1 hq (Cb n h hk)
theorem Lq{t b:Nat}{y:Ty}{bx:List (List (List AV))}(hb:S.boxes.length=b)(hbx:S.boxes++[[y.zero]]=bx)(hk:AK X B K F' S2 R)(ho:ops[i]?=some o:=by rfl)(hw:A8 ops F o=some true:=by rfl)(hop:o.op=.alloc t:=by rfl)(hy:X.ty t=some y:=by rfl)
 (hd:D3 B.fn.ntmps o.dst=true:=by rfl)(he:ev0 X B.fn.ntmps 60 (.inRegion ops l::k) (putF o.dst (.ptr b 0 0) F) ⟨bx,S.toks⟩=(K,F',S2):=by rfl):AK X B (.inRegion ops (i::l)::k) F S R:=by
 subst hb;subst hbx;refine Hi (Lu ho hw ?_) ho hd (Cb 60 he hk);rw[hop];obtain⟨y1,y2,y3,y4⟩:=y;simp only[Kl,hy,Q4,J5]
theorem Tr{t b:Nat}{x:AV}{cs:List AV}{bx:List (List (List AV))}(hb:S.boxes.length=b)(hbx:S.boxes++[[cs]]=bx)(hk:AK X B K F' S2 R)(ho:ops[i]?=some o:=by rfl)(hw:A8 ops F o=some true:=by rfl)(hop:o.op=.box t p:=by rfl)(hp:Dw X F p=some x:=by rfl)(hc:cellsOf x=some cs:=by rfl)
 (hd:D3 B.fn.ntmps o.dst=true:=by rfl)(he:ev0 X B.fn.ntmps 60 (.inRegion ops l::k) (putF o.dst (.ptr b 0 0) F) ⟨bx,S.toks⟩=(K,F',S2):=by rfl):AK X B (.inRegion ops (i::l)::k) F S R:=by
 subst hb;subst hbx;refine Hi (Lu ho hw ?_) ho hd (Cb 60 he hk);rw[hop];simp only[Kl,hp,hc,Q4,J5]
theorem Mn{t b r f:Nat}{y:Ty}{x:AV}{xs cs cs':List AV}{rows:List (List AV)}{bx:List (List (List AV))}(hb:S.boxes[b]?=some rows)(hr:rows[r]?=some cs)(hbx:S.boxes.set b (rows.set r cs')=bx)(hk:AK X B K F' S2 R)(ho:ops[i]?=some o:=by rfl)(hw:A8 ops F o=some true:=by rfl)
 (hop:o.op=.store t p q:=by rfl)(hp:Dw X F p=some (.ptr b r f):=by rfl)(hq:Dw X F q=some x:=by rfl)(hy:X.ty t=some y:=by rfl)(hc:cellsOf x=some xs:=by rfl)(hl:Nat.beq xs.length y.size=true:=by rfl)
 (hput:∀g:List AV→Option St,Wi cs f xs g=g cs':=by intro;rfl)(hd:D3 B.fn.ntmps o.dst=true:=by rfl)(he:ev0 X B.fn.ntmps 60 (.inRegion ops l::k) (putF o.dst .junk F) ⟨bx,S.toks⟩=(K,F',S2):=by rfl):AK X B (.inRegion ops (i::l)::k) F S R:=by
 subst hbx;refine Hi (A7 ho hw hop hy hp hq ?_) ho hd (Cb 60 he hk);obtain⟨bx,tk⟩:=S;simp only at hb;simp only[U5,hc,hl,H8,hb,hr,hput];rw[Sx _ _ _ _ (Aa hr),Sx _ _ _ _ (Aa hb)]
theorem Hc{t b r f:Nat}{y:Ty}{x:AV}{cs:List AV}{rows:List (List AV)}(hb:S.boxes[b]?=some rows)(hr:rows[r]?=some cs)(hk:AK X B K F' S2 R)(ho:ops[i]?=some o:=by rfl)(hw:A8 ops F o=some true:=by rfl)
 (hop:o.op=.load t p:=by rfl)(hp:Dw X F p=some (.ptr b r f):=by rfl)(hy:X.ty t=some y:=by rfl)(hx:(Ow f cs fun c=>Nl y.size c fun c'=>Wb (Gg y.k) c')=some x:=by rfl)
 (hd:D3 B.fn.ntmps o.dst=true:=by rfl)(he:ev0 X B.fn.ntmps 60 (.inRegion ops l::k) (putF o.dst x F) S=(K,F',S2):=by rfl):AK X B (.inRegion ops (i::l)::k) F S R:=by
 refine Hi (Ck ho hw ?_) ho hd (Cb 60 he hk);rw[hop];simp only[Ej,Q0,hy,hp,Ti,H8,hb,hr];exact hx
theorem Jr{t e b n:Nat}{ik:IntKind}{y ye:Ty}{rows:List (List AV)}{r:List AV}(j:Nat)(hj:j<n)(hb:S.boxes[b]?=some rows)(hr:rows[j]?=some r)(hl:r.length=ye.size)(hk:AK X B K F' S2 R)(ho:ops[i]?=some o:=by rfl)(hw:A8 ops F o=some true:=by rfl)
 (hop:o.op=.indexAddr t p q:=by rfl)(hp:Dw X F p=some (.bsl b n):=by rfl)(hq:Dw X F q=some (.val (.int ik j)):=by rfl)(hy:X.ty t=some y:=by rfl)(hyk:y.k=.slc e:=by rfl)(hye:X.ty e=some ye:=by rfl)
 (hd:D3 B.fn.ntmps o.dst=true:=by rfl)(he:ev0 X B.fn.ntmps 60 (.inRegion ops l::k) (putF o.dst (.ptr b j 0) F) S=(K,F',S2):=by rfl):AK X B (.inRegion ops (i::l)::k) F S R:=
 Hi (Gd (j:=j) ho hw hop hp hq hy hyk hye (by simpa[Fw]using hj) hb hr hl) ho hd (Cb 60 he hk)
theorem M1{N t b r f:Nat}{y:Ty}{x:AV}{cs:List AV}{rows:List (List AV)}(hb:S.boxes[b]?=some rows)(hr:rows[r]?=some cs)(ho:ops[i]?=some o:=by rfl)(hw:A8 ops F o=some true:=by rfl)
 (hop:o.op=.load t p:=by rfl)(hp:Dw X F p=some (.ptr b r f):=by rfl)(hy:X.ty t=some y:=by rfl)(hx:(Ow f cs fun c=>Nl y.size c fun c'=>Wb (Gg y.k) c')=some x:=by rfl):Ndo X N ops i o F x S S:=by
 refine Ck ho hw ?_;rw[hop];simp only[Ej,Q0,hy,hp,Ti,H8,hb,hr];exact hx
theorem Pi{N t b:Nat}{y:Ty}{bx:List (List (List AV))}(hb:S.boxes.length=b)(hbx:S.boxes++[[y.zero]]=bx)(ho:ops[i]?=some o:=by rfl)(hw:A8 ops F o=some true:=by rfl)(hop:o.op=.alloc t:=by rfl)(hy:X.ty t=some y:=by rfl) :
 Ndo X N ops i o F (.ptr b 0 0) S ⟨bx,S.toks⟩:=by
 subst hb;subst hbx;refine Lu ho hw ?_;rw[hop];obtain⟨y1,y2,y3,y4⟩:=y;simp only[Kl,hy,Q4,J5]
theorem J1{N t b r f:Nat}{y:Ty}{x:AV}{xs cs cs':List AV}{rows:List (List AV)}{bx:List (List (List AV))}(hb:S.boxes[b]?=some rows)(hr:rows[r]?=some cs)(hbx:S.boxes.set b (rows.set r cs')=bx)(ho:ops[i]?=some o:=by rfl)(hw:A8 ops F o=some true:=by rfl)
 (hop:o.op=.store t p q:=by rfl)(hp:Dw X F p=some (.ptr b r f):=by rfl)(hq:Dw X F q=some x:=by rfl)(hy:X.ty t=some y:=by rfl)(hc:cellsOf x=some xs:=by rfl)(hl:Nat.beq xs.length y.size=true:=by rfl)
 (hput:∀g:List AV→Option St,Wi cs f xs g=g cs':=by intro;rfl):Ndo X N ops i o F .junk S ⟨bx,S.toks⟩:=by
 subst hbx;refine A7 ho hw hop hy hp hq ?_;obtain⟨bx,tk⟩:=S;simp only at hb;simp only[U5,hc,hl,H8,hb,hr,hput];rw[Sx _ _ _ _ (Aa hr),Sx _ _ _ _ (Aa hb)]
theorem Ak8{N t m e:Nat}{ps:Array (Nat×Operand)}{y ye:Ty}{r:AV}(ho:ops[i]?=some o:=by rfl)(hw:A8 ops F o=some true:=by rfl)(hop:o.op=.build t ps:=by rfl)(hy:X.ty t=some y:=by rfl)(hk:y.k=.arr m e:=by rfl)(hye:X.ty e=some ye:=by rfl)
 (h:Yn X F ((List.range m).map fun i=>(i*ye.size,ye.size)) ps.toList y.zero=some r:=by rfl):Ndo X N ops i o F r S S:=by
 intro F' E w a hl hI hF;have hlo:=G0 hl;rw[hop]at hlo;obtain⟨d,hd,hdd⟩:=(X.ty_ok t y hy).agg;simp only[hk]at hdd;obtain⟨rfl,ye',hye',_⟩:=hdd;rw[hye]at hye';cases hye';obtain⟨ze,_,_,_,ie,hie,_,hies,_⟩:=Jx hye w;obtain⟨z,_,hzc,_,i',hi,hiz,his,_⟩:=Jx hy w;obtain⟨cells,hc,hr⟩:=Xe hI hF (fs:=(List.range m).map fun i=>(i*ye.size,ye.size)) (place:=fun i=>some (i*ie.size,ie.size)) (fun j p hp=>by
  rw[H8,Gl]at hp;cases hj:(List.range m)[j]? with
  |none=>rw[hj]at hp;cases hp
  |some q=>
   rw[hj]at hp;cases hp;obtain⟨h1,h2⟩:=zzq105.1 hj;rw[List.getElem_range]at h2;subst h2;rw[hies]) ps.toList z.cells y.zero r (Wa hzc) (by rw[Xd fun t ht=>hlo t (by simpa[Op.operands]using ht)];exact h)
 have hrun:=run_build (P:=X.P) w t (ps.map fun(i,x)=>(i,a.eval x)) cells (by simp only[Program.built,hi,hd,hiz,hie];simpa using hc);exact Does.val ho (Cr hF (by rw[C6 hl];exact hw)) (by simp[execOp,hop,hrun]) (.inl rfl) ⟨E,hI,Evol.refl _ _ _ _,hr⟩
theorem Aw{t b f:Nat}{y:Ty}{x:AV}{cs:List AV}(hb:S.boxes[b]?=some [cs])(hk:AK X B K F' S2 R)(ho:ops[i]?=some o:=by rfl)(hw:A8 ops F o=some true:=by rfl)
 (hop:o.op=.load t p:=by rfl)(hp:Dw X F p=some (.ptr b 0 f):=by rfl)(hy:X.ty t=some y:=by rfl)(hx:(Ow f cs fun c=>Nl y.size c fun c'=>Wb (Gg y.k) c')=some x:=by rfl)
 (hd:D3 B.fn.ntmps o.dst=true:=by rfl)(he:ev0 X B.fn.ntmps 60 (.inRegion ops l::k) (putF o.dst x F) S=(K,F',S2):=by rfl):AK X B (.inRegion ops (i::l)::k) F S R:=
 Hc hb rfl hk ho hw hop hp hy hx hd he
theorem Aq{N t b f:Nat}{y:Ty}{x:AV}{cs:List AV}(hb:S.boxes[b]?=some [cs])(ho:ops[i]?=some o:=by rfl)(hw:A8 ops F o=some true:=by rfl)
 (hop:o.op=.load t p:=by rfl)(hp:Dw X F p=some (.ptr b 0 f):=by rfl)(hy:X.ty t=some y:=by rfl)(hx:(Ow f cs fun c=>Nl y.size c fun c'=>Wb (Gg y.k) c')=some x:=by rfl):Ndo X N ops i o F x S S:=
 M1 hb rfl ho hw hop hp hy hx
theorem Cc{t b f:Nat}{y:Ty}{x:AV}{xs cs cs':List AV}{bx:List (List (List AV))}(hb:S.boxes[b]?=some [cs])(hbx:S.boxes.set b [cs']=bx)(hk:AK X B K F' S2 R)(ho:ops[i]?=some o:=by rfl)(hw:A8 ops F o=some true:=by rfl)
 (hop:o.op=.store t p q:=by rfl)(hp:Dw X F p=some (.ptr b 0 f):=by rfl)(hq:Dw X F q=some x:=by rfl)(hy:X.ty t=some y:=by rfl)(hc:cellsOf x=some xs:=by rfl)(hl:Nat.beq xs.length y.size=true:=by rfl)
 (hput:∀g:List AV→Option St,Wi cs f xs g=g cs':=by intro;rfl)(hd:D3 B.fn.ntmps o.dst=true:=by rfl)(he:ev0 X B.fn.ntmps 60 (.inRegion ops l::k) (putF o.dst .junk F) ⟨bx,S.toks⟩=(K,F',S2):=by rfl):AK X B (.inRegion ops (i::l)::k) F S R:=
 Mn (r:=0) (cs:=cs) (cs':=cs') hb rfl hbx hk ho hw hop hp hq hy hc hl hput hd he
theorem Cq{t:Nat}{x y:Code}{e:Bool}(h2:AK X B K F' S2 R)(hc:lk F t=some (.val (.bool e)):=by rfl)
 (he2:ev0 X B.fn.ntmps 60 (.code y::k) ((t,.lit false)::F) S=(K,F',S2):=by rfl)(ht:e=false:=by rfl):AK X B (.code (.cond (.tmp t) x y)::k) F S R:=
 Ph hc (fun h=>by rw[ht]at h;cases h) (fun _=>Cb 60 he2 h2)
theorem Do{t:Nat}{x y:Code}{e:Bool}(h1:AK X B K F' S2 R)(hc:lk F t=some (.val (.bool e)):=by rfl)
 (he1:ev0 X B.fn.ntmps 60 (.code x::k) ((t,.lit true)::F) S=(K,F',S2):=by rfl)(ht:e=true:=by rfl):AK X B (.code (.cond (.tmp t) x y)::k) F S R:=
 Ph hc (fun _=>Cb 60 he1 h1) (fun h=>by rw[ht]at h;cases h)
theorem F7{t:Nat}{x y:Code}{e:Bool}{K1 K2:List Item}{F1 F2:C5}{S1:St}(h1:e=true→AK X B K1 F1 S1 R)(h2:e=false→AK X B K2 F2 S2 R)(hc:lk F t=some (.val (.bool e)):=by rfl)
 (he1:ev0 X B.fn.ntmps 60 (.code x::k) ((t,.lit true)::F) S=(K1,F1,S1):=by rfl)(he2:ev0 X B.fn.ntmps 60 (.code y::k) ((t,.lit false)::F) S=(K2,F2,S2):=by rfl):AK X B (.code (.cond (.tmp t) x y)::k) F S R:=
 Ph hc (fun h=>Cb 60 he1 (h1 h)) (fun h=>Cb 60 he2 (h2 h))
theorem Om{t j:Nat}{want e:Bool}{oj:Oper}(h2:AK X B K F' S2 R)(ho:ops[i]?=some o:=by rfl)(hg:o.guard=some (j,want):=by rfl)
 (hj:ops[j]?=some oj:=by rfl)(hd:oj.dst=some t:=by rfl)(hc:lk F t=some (.val (.bool e)):=by rfl)(he2:ev0 X B.fn.ntmps 60 (.inRegion ops (i::l)::k) ((t,.lit true)::F) S=(K,F',S2):=by rfl)(ht:e=true:=by rfl) :
 AK X B (.inRegion ops (i::l)::k) F S R:=
 Xx hc (fun _=>Cb 60 he2 h2) (fun h=>by rw[ht]at h;cases h)
theorem Ol{t j:Nat}{want e:Bool}{oj:Oper}(h2:AK X B K F' S2 R)(ho:ops[i]?=some o:=by rfl)(hg:o.guard=some (j,want):=by rfl)
 (hj:ops[j]?=some oj:=by rfl)(hd:oj.dst=some t:=by rfl)(hc:lk F t=some (.val (.bool e)):=by rfl)(he2:ev0 X B.fn.ntmps 60 (.inRegion ops (i::l)::k) ((t,.lit false)::F) S=(K,F',S2):=by rfl)(ht:e=false:=by rfl) :
 AK X B (.inRegion ops (i::l)::k) F S R:=
 Xx hc (fun h=>by rw[ht]at h;cases h) (fun _=>Cb 60 he2 h2)
theorem Im{c:Call}{fo:Operand}{f:FuncId}{caps xs zs ys:List AV}{r:AV}(hc:Pure X f ys r)(hk:AK X B K F' S2 R)(ho:ops[i]?=some o:=by rfl)(hw:A8 ops F o=some true:=by rfl)
 (hop:o.op=.call c:=by rfl)(hcal:c.callee=.value fo:=by rfl)(hfo:Dw X F fo=some (.fn f caps):=by rfl)(hx:Hm X F c.args.toList=some xs:=by rfl)(hzs:Kg xs caps=some zs:=by rfl)
 (hd:D3 B.fn.ntmps o.dst=true:=by rfl) [hs:RinL [] [] zs ys] [hok:OK 0 0 r](he:ev0 X B.fn.ntmps 60 (.inRegion ops l::k) (putF o.dst r F) S=(K,F',S2):=by rfl):AK X B (.inRegion ops (i::l)::k) F S R:=
 Hi (Acu hc ho hw hop hcal hfo hx hzs hok.ok) ho hd (Cb 60 he hk)
theorem Mm{t e:Nat}{rows:List (List AV)}{sp:Sp}{ik:IntKind}{r:List AV}{y ye:Ty}(n:Int)(h0:0≤n)(hr:rows[n.toNat]?=some r)(hk:AK X B K F' S2 R)(ho:ops[i]?=some o:=by rfl)(hw:A8 ops F o=some true:=by rfl)
 (hop:o.op=.indexAddr t p q:=by rfl)(hp:Dw X F p=some (.sl rows sp):=by rfl)(hq:Dw X F q=some (.val (.int ik n)):=by rfl)
 (hy:X.ty t=some y:=by rfl)(hyk:y.k=.slc e:=by rfl)(hye:X.ty e=some ye:=by rfl)(hd:D3 B.fn.ntmps o.dst=true:=by rfl)(hl:r.length=ye.size:=by rfl)
 (he:ev0 X B.fn.ntmps 60 (.inRegion ops l::k) (putF o.dst (.cptr r) F) S=(K,F',S2):=by rfl):AK X B (.inRegion ops (i::l)::k) F S R:=
 Ach ho hw hop hp hq hy hyk hye hd hl h0 hr (Cb 60 he hk)
theorem Rj{c:Call}{fo:Operand}{f:FuncId}{caps xs zs ys:List AV}{r r':AV}(hc:Pure X f ys r)(ha:FzL S 0 0 zs ys)(hr:Sh S.boxes.length r r')(hk:AK X B K F' S2 R)(ho:ops[i]?=some o:=by rfl)(hw:A8 ops F o=some true:=by rfl)
 (hop:o.op=.call c:=by rfl)(hcal:c.callee=.value fo:=by rfl)(hfo:Dw X F fo=some (.fn f caps):=by rfl)(hx:Hm X F c.args.toList=some xs:=by rfl)(hzs:Kg xs caps=some zs:=by rfl)
 (hd:D3 B.fn.ntmps o.dst=true:=by rfl)(he:ev0 X B.fn.ntmps 60 (.inRegion ops l::k) (putF o.dst r' F) S=(K,F',S2):=by rfl):AK X B (.inRegion ops (i::l)::k) F S R:=
 Hi (Rr hc ha hr ho hw hop hcal hfo hx hzs) ho hd (Cb 60 he hk)
theorem Gt{N em:Nat}{bs:List Nat}{Hs:List St}{pend:List J2}(hk:AK X B K F' S2 R)(he:ev0 X B.fn.ntmps 60 k F S=(K,F',S2):=by rfl):Drv X N ops bs em [] i F S Hs pend fun F1 S1=>AK X B k F1 S1 R:=
 Cb 60 he hk
end
theorem Art{K:List Item}(d:Nat){m:Nat}{tk:List Nat}(hk:AK X B K ((d,.psl [] m 0)::F) ⟨S.boxes,tk⟩ R)(hd:lk F d=some (.sl [] .tight):=by rfl)(hn:S.toks.length=m:=by rfl)(htk:S.toks++[0]=tk:=by rfl):AK X B K F S R:=by
 subst hn;subst htk;intro E w a b cs hI hF hn hm hb;have ev:=M7 E w 0;have hF':FR (E.mint 0) w ((d,.psl [] S.toks.length 0)::F) a B.fn.ntmps:=by
  have h0:=hF.mint 0;refine⟨h0.size,h0.nod,fun k x hx=>?_⟩;rw[J7]at hx;split at hx
  ·rename_i hdk;subst hdk;cases hx;obtain⟨v,hv,hr⟩:=hF.rel d _ hd;exact⟨v,hv,Ae1 hI hr⟩
  ·exact h0.rel k x hx
 have nt:E.toks.length=S.toks.length:=by rw[←hI.nt];simp
 exact Fin.from (Steps.refl _ _) (ev.weaken (by rw[hI.nb];exact hn) (by omega)) (hk (E.mint 0) w a b cs (hI.mint 0) hF' hn (by simp;omega) hb)
theorem Agq{xs:List AV}(hf:X.P.funcs[B.f]?=some B.fn)(hR:R (.ret (C8 xs)) S)(h:Mf X F S B.fn.results.toList=some xs:=by rfl):AK X B [] F S R:=by
 intro E w a b cs hI hF hn hm hb;obtain⟨v,h1,h2⟩:=M8 hI hF h;refine .inl ⟨.returned v,w,{ b.at a []with mode:=.returning },⟨E,S,hI,Evol.refl _ _ _ _,_,h2,hR⟩,.one step_end,hb,⟨rfl,hF.nod,rfl,B.fn,by rw[←hf];exact congrArg (X.P.funcs[·]?) hb,h1⟩⟩
theorem Gives.run{f:FuncId}{fn:Func}{c:Code}{args:List AV}{P:AV→List (List (List AV))→Prop}{K:List Item}{F':C5}{S2:St}(hf:X.P.funcs[f]?=some fn)(h:AK X ⟨f,fn,0,0⟩ K F' S2 fun e S'=>∃r,e=.ret r∧P r S'.boxes)(hb:fn.body=some c:=by rfl)
 (hl:Nat.ble args.length fn.ntmps=true:=by rfl)(hnm:(fn.name == "runtime.NumGoroutine")=false:=by kernel_rfl)
 (he:Go.V.ev X fn.ntmps 200 [.code c] (Ot 0 args) ⟨[],[]⟩=(K,F',S2):=by rfl):Gives X f args P:=Gives.mk hf hb hl hnm (Bi 200 he h)
theorem Runs.run{f:FuncId}{fn:Func}{c:Code}{args:List AV}{P:AV→St→Prop}{K:List Item}{F':C5}{S2:St}(hf:X.P.funcs[f]?=some fn)(h:AK X ⟨f,fn,S.boxes.length,S.toks.length⟩ K F' S2 fun e S'=>∃r,e=.ret r∧P r S')(hb:fn.body=some c:=by rfl)
 (hl:Nat.ble args.length fn.ntmps=true:=by rfl)(hnm:(fn.name == "runtime.NumGoroutine")=false:=by kernel_rfl)
 (he:ev0 X fn.ntmps 60 [.code c] (Ot 0 args) S=(K,F',S2):=by rfl):Runs X f args S P:=Runs.mk hf hb hl hnm (Cb 60 he h)
end
end Go.V
namespace Go.V
open Go Go.Proofs Go.Proofs.Tryz
def Awe(q:Bool)(x:Nd)(r:List AV)(c:Nat):Prop:=
 ∃a1 a2 a3:Value,r=[.val a1,.val a2,.val a3,.bsl c x.kids.length]∧(q=true→[AV.val a1,.val a2,.val a3]=[vi x.kind,str x.name,vi x.num])
mutual
def Zo(q:Bool)(lo hi:Nat)(bx:List (List (List AV)))(b:Nat):Nd→Prop
 |.mk _ _ _ ks=>(lo≤b∧b<hi)∧∃rows,bx[b]?=some rows∧TRl q lo hi bx rows ks
def TRl(q:Bool)(lo hi:Nat)(bx:List (List (List AV))):List (List AV)→List Nd→Prop
 |[],[]=>True
 |r::rs,x::l=>(∃c,Awe q x r c∧Zo q lo hi bx c x)∧TRl q lo hi bx rs l
 |_,_=>False
end
theorem Mr{q:Bool}{lo hi:Nat}{bx:List (List (List AV))}{b:Nat}{n:Nd}:Zo q lo hi bx b n↔(lo≤b∧b<hi)∧∃rows,bx[b]?=some rows∧TRl q lo hi bx rows n.kids:=by cases n;simp[Zo,Nd.kids]
theorem Vl{q:Bool}{lo hi:Nat}{bx:List (List (List AV))}:∀{rs:List (List AV)}{l:List Nd},TRl q lo hi bx rs l→rs.length=l.length
 |[],[],_=>rfl
 |r::rs,x::l,h=>by simp only[TRl]at h;simp[Vl h.2]
 |[],_::_,h=>by simp[TRl]at h
 |_::_,[],h=>by simp[TRl]at h
theorem Rt{q:Bool}{lo hi:Nat}{bx:List (List (List AV))}:∀{rs:List (List AV)}{l:List Nd},TRl q lo hi bx rs l→∀(i:Nat)(x:Nd),l[i]?=some x→∃r c,rs[i]?=some r∧Awe q x r c∧Zo q lo hi bx c x
 |[],[],_,i,x,h=>by simp at h
 |r::rs,y::l,h,i,x,hx=>by
  simp only[TRl]at h;cases i with
  |zero=>simp at hx;subst hx;obtain⟨⟨c,h1,h2⟩,_⟩:=h;exact⟨r,c,rfl,h1,h2⟩
  |succ i=>simpa using Rt h.2 i x (by simpa using hx)
 |[],_::_,h,_,_,_=>by simp[TRl]at h
 |_::_,[],h,_,_,_=>by simp[TRl]at h
theorem Zn{q:Bool}{lo hi:Nat}{bx:List (List (List AV))}:∀{rs:List (List AV)}{l:List Nd},rs.length=l.length→(∀(i:Nat)(x:Nd),l[i]?=some x→∃r c,rs[i]?=some r∧Awe q x r c∧Zo q lo hi bx c x)→TRl q lo hi bx rs l
 |[],[],_,_=>trivial
 |r::rs,y::l,h,hg=>by
  simp only[TRl];obtain⟨r',c,h1,h2,h3⟩:=hg 0 y rfl;simp at h1;subst h1;exact⟨⟨c,h2,h3⟩,Zn (by simpa using h) fun i x hx=>by simpa using hg (i+1) x (by simpa using hx)⟩
 |[],_::_,h,_=>by simp at h
 |_::_,[],h,_=>by simp at h
theorem Awm(n:Nd):∀{lo hi b:Nat}{bx:List (List (List AV))},Zo true lo hi bx b n→Zo false lo hi bx b n:=by
 induction n using Nd.ind with
 |h n ih=>
 intro lo hi b bx h;obtain⟨h1,rows,h2,h3⟩:=Mr.1 h;refine Mr.2 ⟨h1,rows,h2,Zn (Vl h3) fun i x hx=>?_⟩;obtain⟨r,c,g1,⟨a1,a2,a3,g2,_⟩,g4⟩:=Rt h3 i x hx;exact⟨r,c,g1,⟨a1,a2,a3,g2,fun h=>by cases h⟩,ih x (Bh hx) g4⟩
theorem Pk{q:Bool}(n:Nd):∀{lo hi lo' hi' b:Nat}{bx bx':List (List (List AV))},lo'≤lo→hi≤hi'→(∀(i:Nat) y,lo≤i→i<hi→bx[i]?=some y→bx'[i]?=some y)→Zo q lo hi bx b n→Zo q lo' hi' bx' b n:=by
 induction n using Nd.ind with
 |h n ih=>
 intro lo hi lo' hi' b bx bx' h0 h9 hb h;obtain⟨h1,rows,h2,h3⟩:=Mr.1 h;refine Mr.2 ⟨by omega,rows,hb b rows h1.1 h1.2 h2,Zn (Vl h3) fun i x hx=>?_⟩;obtain⟨r,c,g1,g2,g4⟩:=Rt h3 i x hx;exact⟨r,c,g1,g2,ih x (Bh hx) h0 h9 hb g4⟩
theorem A3o(n:Nd):∀{lo hi b:Nat}{S:St},Ai n≤1000000000→Zo true lo hi S.boxes b n→Fz S 0 0 (.bsl b n.kids.length) (.sl (Ap n.kids) .no):=by
 induction n using Nd.ind with
 |h n ih=>
 intro lo hi b S hn h;obtain⟨h1,rows,h2,h3⟩:=Mr.1 h;have hlen:=Vl h3;have hcn:=Cj n;have hll:=Bm n.kids;have hrow:∀(i:Nat) (r r':List AV),rows[i]?=some r→(Ap n.kids)[i]?=some r'→∃x c,x∈n.kids∧r'=Af x∧r=[vi x.kind,str x.name,vi x.num,.bsl c x.kids.length]∧Zo true lo hi S.boxes c x:=by
  intro i r r' hr hr';obtain⟨x,hx⟩:=Ab n.kids (i:=i) (by have:=Aa hr;omega);obtain⟨r0,c,g1,⟨a1,a2,a3,g2,g3⟩,g4⟩:=Rt h3 i x hx;rw[hr]at g1;cases g1;have:=g3 rfl;simp only[List.cons.injEq,and_true]at this;rw[Am hx]at hr';exact⟨x,c,Bh hx,(Option.some.inj hr').symm,by rw[g2,this.1,this.2.1,this.2.2],g4⟩
 refine .bsl b n.kids.length rows (Ap n.kids) (B3 _) h2 (by omega) (by unfold Pg;omega) (Ad _) (fun i r r' hr hr'=>?_) (fun i j r r' x y hr hr' hx hy=>?_)
 ·obtain⟨x,c,_,rfl,rfl,_⟩:=hrow i r r' hr hr';rfl
 ·obtain⟨z,c,hz,rfl,rfl,hT⟩:=hrow i r r' hr hr'
  match j,hx,hy with
  |0,hx,hy=>simp[Af]at hx hy;subst hx;subst hy;exact .same _ (.val _)
  |1,hx,hy=>simp[Af]at hx hy;subst hx;subst hy;exact .same _ (.val _)
  |2,hx,hy=>simp[Af]at hx hy;subst hx;subst hy;exact .same _ (.val _)
  |3,hx,hy=>simp[Af]at hx hy;subst hx;subst hy;exact ih z hz (by have:=E5 hz;omega) hT
  |j+4,hx,_=>simp at hx
structure Mk (lo hi:Nat)(bx bx':List (List (List AV))):Prop where
 len:bx.length≤bx'.length
 far:∀b,b<bx.length→b<lo∨hi≤b→bx'[b]?=bx[b]?
 row:∀(b:Nat) rows,bx[b]?=some rows→∃rows',bx'[b]?=some rows'∧rows'.length=rows.length ∧
  ∀(i:Nat) (a1 a2 a3:Value) (x:AV),rows[i]?=some [.val a1,.val a2,.val a3,x]→∃b1 b2 b3:Value,rows'[i]?=some [.val b1,.val b2,.val b3,x]
theorem Mk.refl(lo hi:Nat)(bx:List (List (List AV))):Mk lo hi bx bx:=⟨Bo _,fun _ _ _=>rfl,fun b rows h=>⟨rows,h,rfl,fun i a1 a2 a3 x h=>⟨a1,a2,a3,h⟩⟩⟩
theorem Mk.trans{lo hi:Nat}{bx bx' bx'':List (List (List AV))}(h:Mk lo hi bx bx')(h':Mk lo hi bx' bx''):Mk lo hi bx bx'':=by
 refine⟨Pb h.len h'.len,fun b hl hb=>(h'.far b (Mz hl h.len) hb).trans (h.far b hl hb),fun b rows hr=>?_⟩;obtain⟨rows1,h1,h2,h3⟩:=h.row b rows hr;obtain⟨rows2,g1,g2,g3⟩:=h'.row b rows1 h1;refine⟨rows2,g1,g2.trans h2,fun i a1 a2 a3 x hx=>?_⟩;obtain⟨b1,b2,b3,h4⟩:=h3 i a1 a2 a3 x hx;exact g3 i b1 b2 b3 x h4
theorem Mk.set{lo hi b i:Nat}{bx:List (List (List AV))}{rows:List (List AV)}{a1 a2 a3 b1 b2 b3:Value}{x:AV}(h1:lo≤b)(h2:b<hi)(hb:bx[b]?=some rows)(hr:rows[i]?=some [.val a1,.val a2,.val a3,x]) :
 Mk lo hi bx (bx.set b (rows.set i [.val b1,.val b2,.val b3,x])):=by
 have hbl:=Aa hb;have hil:=Aa hr;refine⟨by simp,fun c _ hc=>Fq (by omega),fun c rows' hc=>?_⟩;by_cases he:c=b
 ·subst he;rw[hb]at hc;cases hc;refine⟨_,Eh hbl,by simp,fun j c1 c2 c3 y hy=>?_⟩;by_cases hj:j=i
  ·subst hj;rw[hr]at hy;cases hy;exact⟨b1,b2,b3,Eh hil⟩
  ·exact⟨c1,c2,c3,by rw[Fq (Ne.symm hj)];exact hy⟩
 ·exact⟨rows',by rw[Fq (Ne.symm he)];exact hc,rfl,fun j c1 c2 c3 y hy=>⟨c1,c2,c3,hy⟩⟩
theorem Mk.snoc(lo hi:Nat)(bx:List (List (List AV)))(r:List (List AV)):Mk lo hi bx (bx++[r]):=
 ⟨by simp,fun b hl _=>Cs hl,fun b rows h=>⟨rows,by rw[Cs (Aa h)];exact h,rfl,fun i a1 a2 a3 x h=>⟨a1,a2,a3,h⟩⟩⟩
theorem Mk.tree(n:Nd):∀{lo hi b:Nat}{bx bx':List (List (List AV))},Mk lo hi bx bx'→Zo false lo hi bx b n→Zo false lo hi bx' b n:=by
 induction n using Nd.ind with
 |h n ih=>
 intro lo hi b bx bx' hm h;obtain⟨h1,rows,h2,h3⟩:=Mr.1 h;obtain⟨rows',g1,g2,g3⟩:=hm.row b rows h2;refine Mr.2 ⟨h1,rows',g1,Zn (by rw[g2];exact Vl h3) fun i x hx=>?_⟩;obtain⟨r,c,k1,⟨a1,a2,a3,rfl,_⟩,k4⟩:=Rt h3 i x hx;obtain⟨b1,b2,b3,k5⟩:=g3 i a1 a2 a3 _ k1;exact⟨_,c,k5,⟨b1,b2,b3,rfl,fun h=>by cases h⟩,ih x (Bh hx) hm k4⟩
mutual
def Hn(d:Nat):AV→AV
 |.val v=>.val v
 |.bsl b k=>.bsl (b+d) k
 |.sl [] _=>.sl [] .no
 |.psl [] _ _=>.sl [] .no
 |.agg cs=>.agg (Sy d cs)
 |.tup cs=>.tup (Sy d cs)
 |_=>.junk
def Sy(d:Nat):List AV→List AV
 |[]=>[]
 |x::l=>Hn d x::Sy d l
end
theorem Ao3(d:Nat):∀l:List AV,Sy d l=l.map (Hn d)
 |[]=>rfl
 |x::l=>by simp[Sy,Ao3 d l]
def Rh(d:Nat)(bx:List (List (List AV))):List (List (List AV)):=bx.map fun rows=>rows.map fun r=>r.map (Hn d)
mutual
theorem U3(d:Nat):∀x:AV,Sh d x (Hn d x)
 |.val v=>by simp only[Hn];exact .val v
 |.bsl b k=>by simp only[Hn];exact .bsl b k
 |.sl [] sp=>by simp only[Hn];exact .nil sp
 |.psl [] t v=>by simp only[Hn];exact .pnil t v
 |.agg cs=>by simp only[Hn];exact .aggL (Ace d cs)
 |.tup cs=>by simp only[Hn];have h:=(Ace d cs).get;exact .tup _ _ h.1 h.2
 |.sl (r::l) sp=>by simp only[Hn];exact .junk _
 |.psl (r::l) t v=>by simp only[Hn];exact .junk _
 |.ptr _ _ _=>by simp only[Hn];exact .junk _
 |.cptr _=>by simp only[Hn];exact .junk _
 |.bst _ _ _=>by simp only[Hn];exact .junk _
 |.fn _ _=>by simp only[Hn];exact .junk _
 |.lit _=>by simp only[Hn];exact .junk _
 |.junk=>by simp only[Hn];exact .junk _
 |.err=>by simp only[Hn];exact .junk _
 |.tagN _ _=>by simp only[Hn];exact .junk _
 |.buf _ _ _=>by simp only[Hn];exact .junk _
 |.dat _ _ _=>by simp only[Hn];exact .junk _
 |.pp _ _ _ _ _=>by simp only[Hn];exact .junk _
theorem Ace(d:Nat):∀l:List AV,ShL d l (Sy d l)
 |[]=>by simp only[Sy];exact .nil
 |x::l=>by simp only[Sy];exact .cons (U3 d x) (Ace d l)
end
theorem Azb(d:Nat)(l:List AV):ShL d l (l.map (Hn d)):=by rw[←Ao3];exact Ace d l
theorem Nu(d:Nat)(bx:List (List (List AV))):ShB d bx (Rh d bx):=by
 refine⟨by simp[Rh],fun i x y hx hy=>?_⟩;simp only[Rh,Gl,hx,Lk,Option.some.injEq]at hy;subst hy;refine⟨by simp,fun j a b ha hb=>?_⟩;simp only[Gl,ha,Lk,Option.some.injEq]at hb;subst hb;exact Azb d a
theorem Pt(d:Nat)(bx:List (List (List AV))):(Rh d bx).length=bx.length:=by simp[Rh]
def Jo:AV→List Nat
 |.bsl b _=>[b]
 |_=>[]
def SlG(bx:List (List (List AV)))(x:AV)(rows:List (List AV)):Prop:=(∃b ex,x=.bsl b rows.length∧bx[b]?=some (rows++ex))∨(rows=[]∧Hn 0 x=.sl [] .no∧Jo x=[])
def SlB(bx:List (List (List AV)))(x:AV)(rows:List (List AV)):Prop:=(∃b ex,x=.bsl b rows.length∧bx[b]?=some (rows++ex))∨(rows=[]∧∃sp,x=.sl [] sp)
theorem Azc{d:Nat}{x:AV}(h:Hn 0 x=.sl [] .no):Hn d x=.sl [] .no:=by
 revert h;cases x with
 |sl l sp=>cases l<;>simp[Hn]
 |psl l t v=>cases l<;>simp[Hn]
 |_=>simp[Hn]
theorem SlG.held{pre bx:List (List (List AV))}{x:AV}{rows:List (List AV)}(h:SlG bx x rows):SlB (pre++Rh pre.length bx) (Hn pre.length x) (rows.map fun r=>r.map (Hn pre.length)):=by
 rcases h with⟨b,ex,rfl,h⟩|⟨rfl,h,_⟩
 ·refine .inl ⟨b+pre.length,ex.map fun r=>r.map (Hn pre.length),by simp[Hn],?_⟩;rw[Gk (by omega),Ad8,Rh,Gl,h];simp
 ·exact .inr ⟨rfl,.no,Azc h⟩
theorem Ah3(d:Nat)(x:AV):Jo (Hn d x)=(Jo x).map (·+d):=by
 cases x with
 |sl l sp=>cases l<;>simp[Hn,Jo]
 |psl l t v=>cases l<;>simp[Hn,Jo]
 |_=>simp[Hn,Jo]
theorem Aba(d:Nat)(l:List Int):(Fe l).map (fun r=>r.map (Hn d))=Fe l:=by
 simp[Fe,Hn]
theorem Un(d:Nat)(l:List (Bool×Int)):(I9 l).map (fun r=>r.map (Hn d))=I9 l:=by
 simp[I9,Hn]
theorem SlB.fz{S:St}{x:AV}{rows rows':List (List AV)}(h:SlB S.boxes x rows)(hl:rows.length≤1000000000000)(hlen:rows'.length=rows.length)(hll:∀(i:Nat)(r r':List AV),rows[i]?=some r→rows'[i]?=some r'→r'.length=r.length)
 (hz:∀(i j:Nat)(r r':List AV)(x y:AV),rows[i]?=some r→rows'[i]?=some r'→r[j]?=some x→r'[j]?=some y→Fz S 0 0 x y):Fz S 0 0 x (.sl rows' .no):=by
 rcases h with⟨b,ex,rfl,h⟩|⟨rfl,sp,rfl⟩
 ·have hg:∀{i:Nat} {r:List AV},i<rows'.length→(rows++ex)[i]?=some r→rows[i]?=some r:=fun{i r} hi h=>by rw[Cs (by omega)]at h;exact h
  refine .bsl b rows.length (rows++ex) rows' (B3 _) h (by simp) (by unfold Pg;omega) hlen (fun i r r' h1 h2=>hll i r r' (hg (Aa h2) h1) h2) (fun i j r r' x y h1 h2 h3 h4=>hz i j r r' x y (hg (Aa h2) h1) h2 h3 h4)
 ·have:rows'=[]:=zzq94.1 hlen;subst this;exact .strip [] [] sp rfl (fun i r r' h=>by simp at h) (fun i j r r' x y h=>by simp at h)
theorem SlB.flat{S:St}{x:AV}{rows:List (List AV)}(h:SlB S.boxes x rows)(hl:rows.length≤1000000000000)(hok:OKR 0 0 rows):Fz S 0 0 x (.sl rows .no):=by
 refine h.fz hl rfl (fun i r r' h1 h2=>by rw[h1]at h2;cases h2;rfl) fun i j r r' x y h1 h2 h3 h4=>?_;rw[h1]at h2;cases h2;rw[h3]at h4;cases h4;exact .same _ (hok.ok r (Bh h1) x (Bh h3))
def Chg(ids:List Nat)(bx bx':List (List (List AV))):Prop:=bx.length≤bx'.length∧∀b,b<bx.length→b∉ids→bx'[b]?=bx[b]?
theorem Chg.refl(ids:List Nat)(bx:List (List (List AV))):Chg ids bx bx:=⟨Bo _,fun _ _ _=>rfl⟩
theorem Chg.trans{a b:List Nat}{bx bx' bx'':List (List (List AV))}(h:Chg a bx bx')(h':Chg b bx' bx''):Chg (a++b) bx bx'':=
 ⟨Pb h.1 h'.1,fun i hl hi=>by rw[zzq45,not_or]at hi;exact(h'.2 i (Mz hl h.1) hi.2).trans (h.2 i hl hi.1)⟩
theorem Chg.more{a b:List Nat}{bx bx':List (List (List AV))}(h:Chg a bx bx')(hs:∀i,i∈a→i∈b):Chg b bx bx':=⟨h.1,fun i hl hi=>h.2 i hl fun hh=>hi (hs i hh)⟩
theorem Chg.snoc(ids:List Nat)(bx:List (List (List AV)))(r:List (List AV)):Chg ids bx (bx++[r]):=⟨by simp,fun b hl _=>Cs hl⟩
theorem Mk.chg{lo hi:Nat}{bx bx':List (List (List AV))}(h:Mk lo hi bx bx'):Chg ((List.range (hi-lo)).map (lo+·)) bx bx':=
 ⟨h.len,fun b hl hb=>h.far b hl (by
   rcases Gs b lo with h1|h1
   ·exact .inl h1
   ·refine .inr (Nat.le_of_not_lt fun h2=>hb (zzq66.2 ⟨b-lo,zzq53.2 (by omega),by omega⟩)))⟩
theorem SlB.chg{ids:List Nat}{bx bx':List (List (List AV))}{x:AV}{rows:List (List AV)}(h:SlB bx x rows)(hc:Chg ids bx bx')(hd:∀i,i∈Jo x→i∉ids):SlB bx' x rows:=by
 rcases h with⟨b,ex,rfl,h⟩|⟨rfl,sp,rfl⟩
 ·exact .inl ⟨b,ex,rfl,by rw[hc.2 b (Aa h) (hd b (by simp[Jo]))];exact h⟩
 ·exact .inr ⟨rfl,sp,rfl⟩
theorem SlB.more{bx bx':List (List (List AV))}{x:AV}{rows:List (List AV)}(h:SlB bx x rows):SlB (bx++bx') x rows:=by
 rcases h with⟨b,ex,rfl,h⟩|⟨rfl,sp,rfl⟩
 ·exact .inl ⟨b,ex,rfl,by rw[Cs (Aa h)];exact h⟩
 ·exact .inr ⟨rfl,sp,rfl⟩
structure CfB (Sl:List (List (List AV))→AV→List (List AV)→Prop)(bx:List (List (List AV)))(x:AV)(ids:List Nat)(c:Cf):Prop where
 ex:∃(V C:AV) (ys:List AV),x=.agg [vi c.pt,V,C,vi c.used,vi c.steps,vi c.trap,vi c.edge,vi c.acc]∧ids=Jo V++(Jo C++ys.flatMap Jo)∧ids.Nodup∧Sl bx V (Fe c.vars)∧Sl bx C (ys.map fun y=>[y]) ∧
  ys.length=c.cells.length∧∀(j:Nat) (y:AV) (l:List (Bool×Int)),ys[j]?=some y→c.cells[j]?=some l→Sl bx y (I9 l)
theorem CfB.held{pre bx:List (List (List AV))}{x:AV}{ids:List Nat}{c:Cf}(h:CfB SlG bx x ids c):CfB SlB (pre++Rh pre.length bx) (Hn pre.length x) (ids.map (·+pre.length)) c:=by
 obtain⟨V,C,ys,rfl,rfl,h3,h4,h5,h6,h7⟩:=h.ex;refine⟨Hn pre.length V,Hn pre.length C,ys.map (Hn pre.length),by simp[Hn,Sy],?_,?_,?_,?_,by simpa using h6,fun j y l hy hl=>?_⟩
 ·simp only[Kr,Ah3,List.map_flatMap,List.flatMap_map]
 ·exact List.Pairwise.map _ (fun a b h=>by simp only[ne_eq]at h⊢;omega) h3
 ·have:=h4.held (pre:=pre);rw[Aba]at this;exact this
 ·have:=h5.held (pre:=pre);rw[List.map_map]at this;rw[List.map_map];exact this
 ·rw[Gl]at hy;cases hy':ys[j]? with
  |none=>rw[hy']at hy;cases hy
  |some y0=>
   rw[hy']at hy;cases hy;have:=(h7 j y0 l hy' hl).held (pre:=pre);rw[Un]at this;exact this
theorem CfB.more{bx bx':List (List (List AV))}{x:AV}{ids:List Nat}{c:Cf}(h:CfB SlB bx x ids c):CfB SlB (bx++bx') x ids c:=by
 obtain⟨V,C,ys,h1,h2,h3,h4,h5,h6,h7⟩:=h.ex;exact⟨V,C,ys,h1,h2,h3,h4.more,h5.more,h6,fun j y l hy hl=>(h7 j y l hy hl).more⟩
theorem CfB.chg{js:List Nat}{bx bx':List (List (List AV))}{x:AV}{ids:List Nat}{c:Cf}(h:CfB SlB bx x ids c)(hc:Chg js bx bx')(hd:∀i,i∈ids→i∉js):CfB SlB bx' x ids c:=by
 obtain⟨V,C,ys,h1,h2,h3,h4,h5,h6,h7⟩:=h.ex;refine⟨V,C,ys,h1,h2,h3,h4.chg hc fun i hi=>hd i (by simp[h2,hi]),h5.chg hc fun i hi=>hd i (by simp[h2,hi]),h6,fun j y l hy hl=>(h7 j y l hy hl).chg hc fun i hi=>hd i ?_⟩;rw[h2,zzq45,zzq45,zzq106];exact .inr (.inr ⟨y,Bh hy,hi⟩)
theorem CfB.fzC{S:St}{x:AV}{ids:List Nat}{c:Cf}(h:CfB SlB S.boxes x ids c)(hc:CfOk c):∃cs,x=.agg cs∧cs.length=8∧∀(j:Nat)(a b:AV),cs[j]?=some a→(G4 c)[j]?=some b→Fz S 0 0 a b:=by
 obtain⟨V,C,ys,rfl,_,_,h4,h5,h6,h7⟩:=h.ex;have l1:=hc.vars;have l2:=hc.cells;have fV:Fz S 0 0 V (.sl (Fe c.vars) .no):=h4.flat (by rw[D9];omega) inferInstance;have fC:Fz S 0 0 C (.sl (Ov c.cells) .no):=by
  refine h5.fz (by simp;omega) (by rw[X9];simp[h6]) (fun i r r' h1 h2=>?_) fun i j r r' x y h1 h2 h3 h4=>?_
  ·rw[Gl]at h1;cases hy:ys[i]? with
   |none=>rw[hy]at h1;cases h1
   |some y=>
    rw[hy]at h1;cases h1;simp only[Ov,Gl]at h2;cases hl:c.cells[i]? with
    |none=>rw[hl]at h2;cases h2
    |some l=>rw[hl]at h2;cases h2;rfl
  ·rw[Gl]at h1;cases hy:ys[i]? with
   |none=>rw[hy]at h1;cases h1
   |some y0=>
    rw[hy]at h1;cases h1;simp only[Ov,Gl]at h2;cases hl:c.cells[i]? with
    |none=>rw[hl]at h2;cases h2
    |some l=>
     rw[hl]at h2;cases h2;have hj:j=0:=by have:=Aa h3;simp at this;omega
     subst hj;simp at h3 h4;subst h3;subst h4;exact(h7 i _ l hy hl).flat (by have:=hc.rows l (Bh hl);rw[G5];omega) inferInstance
 refine⟨_,rfl,rfl,fun j a b ha hb=>?_⟩
 match j,ha,hb with
 |0,ha,hb=>simp at ha hb;subst ha;subst hb;exact .same _ (.val _)
 |1,ha,hb=>simp at ha hb;subst ha;subst hb;exact fV
 |2,ha,hb=>simp at ha hb;subst ha;subst hb;exact fC
 |3,ha,hb=>simp at ha hb;subst ha;subst hb;exact .same _ (.val _)
 |4,ha,hb=>simp at ha hb;subst ha;subst hb;exact .same _ (.val _)
 |5,ha,hb=>simp at ha hb;subst ha;subst hb;exact .same _ (.val _)
 |6,ha,hb=>simp at ha hb;subst ha;subst hb;exact .same _ (.val _)
 |7,ha,hb=>simp at ha hb;subst ha;subst hb;exact .same _ (.val _)
 |j+8,ha,_=>simp at ha
theorem CfB.fz{S:St}{x:AV}{ids:List Nat}{c:Cf}(h:CfB SlB S.boxes x ids c)(hc:CfOk c):Fz S 0 0 x (cf c):=by
 obtain⟨cs,rfl,h1,h2⟩:=h.fzC hc;exact .agg _ _ h1.symm h2
def Xv:List Int→List Int→Option (List Nat)
 |[],[]=>some []
 |[],_::_=>none
 |s::ss,ls=>if s<0 then(match ls with
   |[]=>none
   |l::ls'=>if Bl l 0 60 then(Xv ss ls').map (l.toNat::·)else none)else(Xv ss ls).map (s.toNat::·)
def bgC(nv:Nat)(cs:List Nat):Cf:=⟨0,List.replicate nv 0,cs.map fun k=>List.replicate k (false,0),0,0,0,0,0⟩
def zC:Cf:=⟨0,[],[],0,0,0,0,0⟩
theorem Akg{n:Nd}(hr:Fy n=true):∀s,s∈Ei n→s≤1000000:=by
 intro s hs;obtain⟨x,hx,rfl⟩:=zzq66.1 hs;have hx':=(zzq56.1 hx).1;have hF:=(Iz hr).1;cases hF with
 |mk ds l hd hl=>
  simp only[Gh,List.dropLast_concat]at hx';have:=hd x hx';cases this with
  |var s h=>simp[Nd.num]
  |arr s m h h0 h1=>simpa[Nd.num]using h1
theorem Ag4:∀{ss ls:List Int}{cs:List Nat},Xv ss ls=some cs→cs.length=ss.length
 |[],[],cs,h=>by simp[Xv]at h;simp[←h]
 |[],_::_,cs,h=>by simp[Xv]at h
 |s::ss,ls,cs,h=>by
  simp only[Xv]at h;split at h
  ·split at h
   ·cases h
   ·split at h
    ·obtain⟨r,hr,rfl⟩:=zzq102.1 h;simp[Ag4 hr]
    ·cases h
  ·obtain⟨r,hr,rfl⟩:=zzq102.1 h;simp[Ag4 hr]
def Ah1(n:Nat)(s:List UInt8):List UInt8:=if h:n=0 then s else Ah1 (n/10) (UInt8.ofNat (48+n%10)::s)
theorem Azk(k:Nat)(h1:1≤k)(h2:k≤100000000000):Pure X 60 [vi k] (str (109::Ah1 k [])):=by
 refine Pure.run func60 ?_;refine Ag ?_ (ht:=Mc (by omega));refine Ar (ι:=Nat×List UInt8) 0 0 (fun i=>i.1≤k∧i.2.length+i.1≤k∧Ah1 i.1 i.2=Ah1 k []) (fun i=>[(0,vi i.1),(3,str i.2)]) (fun _=>⟨[],[]⟩) (fun i=>i.1) ?_ (k,[]) ⟨Bo _,by simp,rfl⟩
  ⟨rfl,rfl,trivial⟩
 intro i hi IH;obtain⟨m,s⟩:=i;obtain⟨hm,hl,he⟩:=hi;simp only at hm hl he;refine C7 (fun h=>?_) (fun h=>?_)
 ·have h':0<m:=by have:=A5 h;simp only at this;omega
  have hd:(m:Int).tdiv 10=((m/10:Nat):Int):=by rw[Int.tdiv_eq_ediv_of_nonneg (by omega)];omega
  have hr:((m:Int).tmod 10)=((m%10:Nat):Int):=by rw[Int.tmod_eq_emod_of_nonneg (by omega)];omega
  refine Bn (Acp (s:=[UInt8.ofNat (48+m%10)]) rfl rfl rfl rfl rfl rfl rfl rfl rfl rfl ?_) ?_
  ·show [[_]]=[[_]]
   simp only[hr,W7 (m%10) (by omega)]
  refine Bn (Rq rfl rfl rfl rfl rfl ?_ rfl) ?_
  ·simp;omega
  refine IH (m/10,UInt8.ofNat (48+m%10)::s) ⟨by simp only;omega,by simp;omega,?_⟩ (by simp only;omega) _ _ ⟨Ci ?_,rfl,trivial⟩ rfl rfl rfl
  ·rw[←he];conv=>rhs;rw[Ah1]
   rw[dif_neg (by omega)]
  ·simp only[hd];exact Ac (by omega) (by omega)
 ·have h':m=0:=by have:=Ba h;simp only at this;omega
  subst h';have:Ah1 0 s=s:=by rw[Ah1];rfl
  rw[this]at he;simp only[Px]at hl;refine Bn (Rq rfl rfl rfl rfl rfl ?_ rfl) ?_
  ·simp;omega
  refine As func60 ?_;rw[←he];rfl
mutual
def mcN:Nd→Nat
 |.mk _ _ _ ks=>mcL ks
def mcL:List Nd→Nat
 |[]=>0
 |x::l=>3+mcN x+mcL l
end
theorem A1x(n:Nd):mcN n=mcL n.kids:=by cases n;simp[mcN,Nd.kids]
theorem Ah0:∀l l':List Nd,mcL (l++l')=mcL l+mcL l'
 |[],l'=>by simp[mcL]
 |x::l,l'=>by simp[mcL,Ah0 l l'];omega
def MkP(lo hi:Nat)(S:St)(k:Nat)(r:AV)(S':St):Prop:=r=vi k∧S'.toks=S.toks∧Mk lo hi S.boxes S'.boxes
theorem Aod:∀l:List Nd,l.length≤mcL l
 |[]=>B3 _
 |x::l=>by have:=Aod l;simp[mcL];omega
theorem Amb{lo hi b i:Nat}{S:St}{rows:List (List AV)}{a1 a2 a3:Value}{x:AV}(h12:lo≤b∧b<hi)(hb:S.boxes[b]?=some rows)(hr:rows[i]?=some [.val a1,.val a2,.val a3,x])(b1 b2 b3:Value) :
 ∃S2 rows2,S2=(⟨S.boxes.set b (rows.set i [.val b1,.val b2,.val b3,x]),S.toks⟩:St)∧S2.boxes[b]?=some rows2∧rows2[i]?=some [.val b1,.val b2,.val b3,x]∧Mk lo hi S.boxes S2.boxes∧S2.toks=S.toks:=
 ⟨_,_,rfl,Eh (Aa hb),Eh (Aa hr),Mk.set h12.1 h12.2 hb hr,rfl⟩
theorem Avg(n:Nd):∀{lo hi b:Nat}{S:St}{k:Nat},Zo false lo hi S.boxes b n→1≤k→k+mcN n≤100000000000 →
 Runs X 59 [.bsl b n.kids.length,vi k] S (MkP lo hi S (k+mcN n)):=by
 induction n using Nd.ind with
 |h n ih=>
 intro lo hi b S k hT hk1 hk2;rw[A1x]at hk2⊢;have hlm:=Aod n.kids;refine Runs.run func59 ?_;refine Io (ι:=Nat×St) (fun i=>i.1≤n.kids.length∧i.2.toks=S.toks∧Mk lo hi S.boxes i.2.boxes) (fun i=>[(5,vi i.1),(1,vi ((k+mcL (n.kids.take i.1):Nat):Int)),(0,.bsl b n.kids.length)]) (fun i=>i.2) (fun i=>n.kids.length-i.1) ?_ (0,S)
  ⟨B3 _,rfl,Mk.refl _ _ _⟩ ⟨rfl,rfl,rfl,trivial⟩ rfl
 intro i hi IH;obtain⟨i,S1⟩:=i;obtain⟨hi,ht,hM⟩:=hi;simp only at hi ht hM;refine C7 (fun g=>?_) (fun g=>?_)
 ·have hlt:i<n.kids.length:=by have:=A5 g;simp only at this;omega
  obtain⟨x,hx⟩:=Ab n.kids hlt;have hxm:=Bh hx;have hmc:mcL (n.kids.take (i+1))=mcL (n.kids.take i)+(3+mcN x):=by rw[G8,hx,Aav,Ah0];simp[mcL]
  have hle:mcL (n.kids.take (i+1))≤mcL n.kids:=by
   have h0:mcL n.kids=mcL (n.kids.take (i+1))+mcL (n.kids.drop (i+1)):=by rw[←Ah0,Aee]
   omega
  have hT1:=hM.tree n hT;obtain⟨hb12,rows,hb,hR⟩:=Mr.1 hT1;obtain⟨r,c,hr,⟨a1,a2,a3,rfl,_⟩,hTx⟩:=Rt hR i x hx;generalize hq:mcL (n.kids.take i)=q at *;have e1:IntKind.i64.wrap (((k+q:Nat):Int)+1)=((k+q+1:Nat):Int):=by rw[Ac (by omega) (by omega)];omega
  have e2:IntKind.i64.wrap (IntKind.i64.wrap (((k+q:Nat):Int)+1)+1)=((k+q+2:Nat):Int):=by rw[e1,Ac (by omega) (by omega)];omega
  have e3:IntKind.i64.wrap (IntKind.i64.wrap (IntKind.i64.wrap (((k+q:Nat):Int)+1)+1)+1)=((k+q+3:Nat):Int):=by rw[e2,Ac (by omega) (by omega)];omega
  have p1:=Azk (k+q+1) (by omega) (by omega);rw[←e1]at p1;obtain⟨S2,rows2,hS2,hb2,hr2,hM2,ht2⟩:=Amb hb12 hb hr (.int .i64 ((k+q:Nat):Int)) a2 a3;obtain⟨S3,rows3,hS3,hb3,hr3,hM3,ht3⟩:=Amb hb12 hb2 hr2 (.int .i64 ((k+q:Nat):Int)) (.string ⟨⟨109::Ah1 (k+q+1) []⟩⟩) a3;obtain⟨S4,rows4,hS4,hb4,hr4,hM4,ht4⟩:=Amb hb12 hb3 hr3 (.int .i64 ((k+q:Nat):Int)) (.string ⟨⟨109::Ah1 (k+q+1) []⟩⟩) (.int .i64 (IntKind.i64.wrap (IntKind.i64.wrap (((k+q:Nat):Int)+1)+1)));have hM4':=((hM.trans hM2).trans hM3).trans hM4;have hTx4:=(((hM2.trans hM3).trans hM4).tree x hTx)
  have ih4:=@ih x hxm _ _ _ _ (k+q+3) hTx4 (by omega) (by omega);have e3':(vi ((k+q+3:Nat):Int))=vi (IntKind.i64.wrap (IntKind.i64.wrap (IntKind.i64.wrap (((k+q:Nat):Int)+1)+1)+1)):=by rw[e3]
  rw[e3']at ih4;refine Jr i hlt hb hr rfl ?_;refine Mn hb hr rfl ?_;refine Be S2 ?_ hS2.symm;refine Al p1 ?_;refine Jr i hlt hb2 hr2 rfl ?_;refine Mn hb2 hr2 rfl ?_;refine Be S3 ?_ hS3.symm;refine Jr i hlt hb3 hr3 rfl ?_;refine Mn hb3 hr3 rfl ?_;refine Be S4 ?_ hS4.symm;refine Jr i hlt hb4 hr4 rfl ?_;refine Hc hb4 hr4 ?_;refine G3 ih4 ?_;intro r5 S5 hP _ _;obtain⟨rfl,ht5,hM5⟩:=hP;refine Bi 100 rfl ?_;refine IH (i+1,S5) ⟨hlt,by rw[ht5,ht4,ht3,ht2];exact ht,hM4'.trans hM5⟩ (by simp only;omega) _ _ ⟨Ci ((Ac (by omega) (by omega)).trans (by simp only;omega)),?_,rfl,trivial⟩ rfl;exact Ci (by simp only[hmc];omega)
 ·have:i=n.kids.length:=by have:=Ba g;simp only at this;omega
  subst this;rw[I2];refine Bc func59 (h:=rfl) ⟨_,rfl,rfl,ht,hM⟩
theorem Azj(n:Nd){lo hi b:Nat}{S:St}{k:Nat}(hT:Zo false lo hi S.boxes b n)(hk1:1≤k)(hk2:k+mcN n≤100000000000) :
 Runs X 16 [.agg [vi n.kind,str n.name,vi n.num,.bsl b n.kids.length],vi k] S (MkP lo hi S (k+mcN n)):=by
 have hM:=Mk.snoc lo hi S.boxes [[vi n.kind,str n.name,vi n.num,.bsl b n.kids.length]];refine Runs.run func16 ?_;refine Tr rfl rfl ?_;have hb:(S.boxes++[[[vi n.kind,str n.name,vi n.num,AV.bsl b n.kids.length]]])[S.boxes.length]?=some [[vi n.kind,str n.name,vi n.num,.bsl b n.kids.length]]:=by simp
 have hr:([[vi n.kind,str n.name,vi n.num,AV.bsl b n.kids.length]]:List (List AV))[0]?=some [vi n.kind,str n.name,vi n.num,.bsl b n.kids.length]:=rfl;refine Hc hb hr ?_;refine G3 (Avg n (S:=⟨_,S.toks⟩) (hM.tree n hT) hk1 hk2) ?_;intro r S2 hP _ _;obtain⟨rfl,ht,hM2⟩:=hP;refine Bi 100 rfl ?_;exact Bc func16 (h:=rfl) ⟨_,rfl,rfl,ht,hM.trans hM2⟩
def mkI(k:Nat)(n:Nat):List Int:=(List.range n).map fun i=>((k+i:Nat):Int)
def mb(k:Nat):Bool:=((k:Int).tmod 3==0)
def mkC(k:Nat)(n:Nat):List (Bool×Int):=(List.range n).map fun i=>(mb (k+2*i),((k+2*i+1:Nat):Int))
def Aac(k:Nat):List Nat→List (List (Bool×Int))
 |[]=>[]
 |n::l=>mkC k n::Aac (k+2*n) l
theorem Ab7(k n:Nat):(mkI k n).length=n:=by simp[mkI]
theorem Ab6(k n:Nat):(mkC k n).length=n:=by simp[mkC]
theorem Uo:∀(l:List Nat)(k:Nat),(Aac k l).length=l.length
 |[],k=>rfl
 |n::l,k=>by simp[Aac,Uo l]
theorem Ats(k n:Nat):mkI k (n+1)=mkI k n++[((k+n:Nat):Int)]:=by simp[mkI,List.range_succ]
theorem Atr(k n:Nat):mkC k (n+1)=mkC k n++[(mb (k+2*n),((k+2*n+1:Nat):Int))]:=by simp[mkC,List.range_succ]
theorem Axu{k n i:Nat}(h:i<n):(mkI k n)[i]?=some ((k+i:Nat):Int):=by simp[mkI,h]
theorem Axt{k n i:Nat}(h:i<n):(mkC k n)[i]?=some (mb (k+2*i),((k+2*i+1:Nat):Int)):=by simp[mkC,h]
theorem Yq:∀{l:List Nat}{k i m:Nat},l[i]?=some m→(Aac k l)[i]?=some (mkC (k+2*(l.take i).sum) m)
 |[],k,i,m,h=>by simp at h
 |n::l,k,0,m,h=>by simp at h;subst h;simp[Aac]
 |n::l,k,i+1,m,h=>by
  simp only[Aaw]at h;simp only[Aac,Aaw,List.take_succ_cons,List.sum_cons];rw[Yq h];congr 2;omega
theorem Au0{α:Type}{a c ex:List α}{i:Nat}(ha:a.length=i)(hc:i<c.length):(a++(c.drop i++ex))[i]?=c[i]?:=by
 rw[Gk (by omega),ha,Ik,Cs (by rw[Ad9];omega),Nz,Px]
theorem Ao0{α:Type}{a c ex:List α}{i:Nat}(y:α)(ha:a.length=i)(hc:i<c.length):(a++(c.drop i++ex)).set i y=(a++[y])++(c.drop (i+1)++ex):=by
 rw[Iw _ _ (by omega),ha,Ik,Akv hc,Pz,List.set_cons_zero,Fp,Aku]
theorem Azs(a b:List Int):Fe (a++b)=Fe a++Fe b:=by simp[Fe]
theorem Awu(a b:List (Bool×Int)):I9 (a++b)=I9 a++I9 b:=by simp[I9]
def MaP(x:AV)(rows:List (List AV))(S:St)(k:Nat)(r:AV)(S':St):Prop:=r=vi k∧S'.toks=S.toks∧Chg (Jo x) S.boxes S'.boxes∧SlB S'.boxes x rows
theorem MaP.of{b n:Nat}{S:St}{rows ex:List (List AV)}{k:Nat}(hn:rows.length=n)(hb:b<S.boxes.length):MaP (.bsl b n) rows S k (vi k) ⟨S.boxes.set b (rows++ex),S.toks⟩:=by
 subst hn;exact⟨rfl,rfl,⟨by simp,fun c _ hc=>Fq (fun h=>hc (by simp[Jo,h]))⟩,.inl ⟨b,ex,rfl,Eh hb⟩⟩
theorem Ain{S:St}{x:AV}{l:List Int}(h:SlB S.boxes x (Fe l))(k:Nat)(h1:k+l.length≤1000000000000) :
 Runs X 24 [x,vi k] S (MaP x (Fe (mkI k l.length)) S (k+l.length)):=by
 have hlen:=D9 l;rcases h with⟨b,ex,rfl,hb⟩|⟨he,sp,rfl⟩
 ·have hbl:=Aa hb;rw[hlen];refine Runs.run func24 ?_;refine Io (ι:=Nat) (fun i=>i≤l.length) (fun i=>[(5,vi i),(1,vi ((k+i:Nat):Int)),(0,.bsl b l.length)]) (fun i=>⟨S.boxes.set b (Fe (mkI k i)++((Fe l).drop i++ex)),S.toks⟩) (fun i=>l.length-i) ?_ 0 (B3 _)
   ⟨rfl,rfl,rfl,trivial⟩ (by obtain⟨bx,tk⟩:=S;simp only[St.mk.injEq,and_true];obtain⟨_,e⟩:=zzq105.1 hb;simp only[mkI,List.range_zero,List.map_nil,Fe,Tj,List.drop_zero];rw[←Fe,←e,List.set_getElem_self])
  intro i hi IH;refine C7 (fun g=>?_) (fun g=>?_)
  ·have hlt:i<l.length:=by have:=A5 g;omega
   have hm:(Fe (mkI k i)).length=i:=by rw[D9,Ab7]
   obtain⟨a,ha⟩:=Ab l hlt;have hr:(Fe (mkI k i)++((Fe l).drop i++ex))[i]?=some [vi a]:=by rw[Au0 hm (by omega)];exact Ev (f:=fun m=>[vi m]) ha
   refine Jr i hlt (Eh hbl) hr rfl ?_;refine Mn (Eh hbl) hr rfl ?_;refine IH (i+1) hlt (by omega) _ _ ⟨vsx (by omega),vsx (by omega),rfl,trivial⟩ ?_;simp only[St.mk.injEq,and_true];rw[List.set_set,Ao0 _ hm (by omega),Ats,Azs];rfl
  ·have:i=l.length:=by have:=Ba g;omega
   subst this;exact Bc func24 (h:=rfl) ⟨_,rfl,MaP.of (by rw[D9,Ab7]) hbl⟩
 ·have h0:l=[]:=by cases l with|nil=>rfl|cons a l=>simp[Fe]at he
  subst h0;refine Runs.run func24 ?_;refine N1 ?_;refine Bi 100 rfl ?_;refine Ag ?_;exact Bc func24 (h:=rfl) ⟨_,rfl,rfl,rfl,Chg.refl _ _,.inr ⟨rfl,sp,rfl⟩⟩
theorem Azi{S:St}{x:AV}{l:List (Bool×Int)}(h:SlB S.boxes x (I9 l))(k:Nat)(h1:k+2*l.length≤1000000000000) :
 Runs X 111 [x,vi k] S (MaP x (I9 (mkC k l.length)) S (k+2*l.length)):=by
 have hlen:=G5 l;rcases h with⟨b,ex,rfl,hb⟩|⟨he,sp,rfl⟩
 ·have hbl:=Aa hb;rw[hlen];refine Runs.run func111 ?_;refine Io (ι:=Nat) (fun i=>i≤l.length) (fun i=>[(5,vi i),(1,vi ((k+2*i:Nat):Int)),(0,.bsl b l.length)]) (fun i=>⟨S.boxes.set b (I9 (mkC k i)++((I9 l).drop i++ex)),S.toks⟩) (fun i=>l.length-i) ?_ 0 (B3 _)
   ⟨rfl,rfl,rfl,trivial⟩ (by obtain⟨bx,tk⟩:=S;simp only[St.mk.injEq,and_true];obtain⟨_,e⟩:=zzq105.1 hb;simp only[mkC,List.range_zero,List.map_nil,I9,Tj,List.drop_zero];rw[←I9,←e,List.set_getElem_self])
  intro i hi IH;refine C7 (fun g=>?_) (fun g=>?_)
  ·have hlt:i<l.length:=by have:=A5 g;omega
   have hm:(I9 (mkC k i)).length=i:=by rw[G5,Ab6]
   obtain⟨a,ha⟩:=Ab l hlt;have hr:(I9 (mkC k i)++((I9 l).drop i++ex))[i]?=some [vb a.1,vi a.2]:=by rw[Au0 hm (by omega)];exact Ev (f:=Nv) ha
   have hil:i<(I9 (mkC k i)++((I9 l).drop i++ex)).length:=Aa hr;have hb2:((S.boxes.set b (I9 (mkC k i)++((I9 l).drop i++ex))).set b ((I9 (mkC k i)++((I9 l).drop i++ex)).set i [vb (mb (k+2*i)),vi a.2]))[b]?=some ((I9 (mkC k i)++((I9 l).drop i++ex)).set i [vb (mb (k+2*i)),vi a.2]):=Eh (by simpa using hbl);have hr2:((I9 (mkC k i)++((I9 l).drop i++ex)).set i [vb (mb (k+2*i)),vi a.2])[i]?=some [vb (mb (k+2*i)),vi a.2]:=Eh hil;refine Jr i hlt (Eh hbl) hr rfl ?_;refine Mn (Eh hbl) hr rfl ?_;refine Jr i hlt hb2 hr2 rfl ?_;refine Mn hb2 hr2 rfl ?_;have e1:IntKind.i64.wrap (((k+2*i:Nat):Int)+1)=((k+2*i+1:Nat):Int):=by rw[Ac (by omega) (by omega)];omega
   refine IH (i+1) hlt (by omega) _ _ ⟨vsx (by omega),Ci (by rw[e1,Ac (by omega) (by omega)];omega),rfl,trivial⟩ ?_;simp only[St.mk.injEq,and_true];rw[List.set_set,List.set_set,List.set_set,Ao0 _ hm (by omega),Atr,Awu,e1];rfl
  ·have:i=l.length:=by have:=Ba g;omega
   subst this;exact Bc func111 (h:=rfl) ⟨_,rfl,MaP.of (by rw[G5,Ab6]) hbl⟩
 ·have h0:l=[]:=by cases l with|nil=>rfl|cons a l=>simp[I9]at he
  subst h0;refine Runs.run func111 ?_;refine N1 ?_;refine Bi 100 rfl ?_;refine Ag ?_;exact Bc func111 (h:=rfl) ⟨_,rfl,rfl,rfl,Chg.refl _ _,.inr ⟨rfl,sp,rfl⟩⟩
theorem Aof:∀{ys:List AV},(ys.flatMap Jo).Nodup→∀{i j b:Nat}{y z:AV},i≠j→ys[i]?=some y→ys[j]?=some z→b∈Jo y→b∉Jo z
 |[],_,i,j,b,y,z,_,h,_=>by simp at h
 |x::ys,hn,i,j,b,y,z,hij,hy,hz=>fun hb hb'=>by
  simp only[List.flatMap_cons]at hn;obtain⟨_,h2,h3⟩:=zzq108.1 hn
  match i,j,hij,hy,hz with
  |0,0,hij,_,_=>exact hij rfl
  |0,j+1,_,hy,hz=>
   simp at hy hz;subst hy;exact h3 b hb b (zzq106.2 ⟨z,Bh hz,hb'⟩) rfl
  |i+1,0,_,hy,hz=>
   simp at hy hz;subst hz;exact h3 b hb' b (zzq106.2 ⟨y,Bh hy,hb⟩) rfl
  |i+1,j+1,hij,hy,hz=>exact Aof h2 (i:=i) (j:=j) (by omega) (by simpa using hy) (by simpa using hz) hb hb'
theorem SlB.lt{bx:List (List (List AV))}{x:AV}{rows:List (List AV)}(h:SlB bx x rows):∀b,b∈Jo x→b<bx.length:=by
 rcases h with⟨b,ex,rfl,h⟩|⟨rfl,sp,rfl⟩
 ·intro c hc;simp[Jo]at hc;subst hc;exact Aa h
 ·intro c hc;simp[Jo]at hc
theorem SlB.shape{bx:List (List (List AV))}{x:AV}{rows:List (List AV)}(h:SlB bx x rows):(∃b n,x=.bsl b n)∨∃sp,x=.sl [] sp:=by
 rcases h with⟨b,ex,rfl,h⟩|⟨rfl,sp,rfl⟩
 ·exact .inl ⟨b,_,rfl⟩
 ·exact .inr ⟨sp,rfl⟩
def Iy(cells:List (List (Bool×Int))):List Nat:=cells.map List.length
theorem Afn{cells:List (List (Bool×Int))}{i:Nat}{l:List (Bool×Int)}(h:cells[i]?=some l):(Iy cells)[i]?=some l.length:=by simp[Iy,h]
theorem Akl{l:List Nat}{i m:Nat}(h:l[i]?=some m):(l.take (i+1)).sum=(l.take i).sum+m:=by rw[G8,h,Aav,List.sum_append];simp
theorem U6:∀(l:List Nat)(i:Nat),(l.take i).sum≤l.sum
 |[],i=>by simp
 |a::l,0=>by simp
 |a::l,i+1=>by have:=U6 l i;simp;omega
theorem Ave{S:St}{C:AV}{ys:List AV}{cells:List (List (Bool×Int))}(hC:SlB S.boxes C (ys.map fun y=>[y]))(hl:ys.length=cells.length)(hr:∀(j:Nat)(y:AV)(l:List (Bool×Int)),ys[j]?=some y→cells[j]?=some l→SlB S.boxes y (I9 l))
 (nd:(Jo C++ys.flatMap Jo).Nodup)(hcl:cells.length≤1000000000)(k:Nat)(h1:k+2*(Iy cells).sum≤1000000000000) :
 Runs X 65 [C,vi k] S (fun r S'=>r=vi ((k+2*(Iy cells).sum:Nat):Int)∧S'.toks=S.toks∧Chg (ys.flatMap Jo) S.boxes S'.boxes∧∀(j:Nat) (y:AV) (l:List (Bool×Int)),ys[j]?=some y→(Aac k (Iy cells))[j]?=some l→SlB S'.boxes y (I9 l)):=by
 obtain⟨_,nd2,nd3⟩:=zzq108.1 nd;have hlens:(Iy cells).length=ys.length:=by simp[Iy,hl]
 rcases hC with⟨b,ex,rfl,hb⟩|⟨he,sp,rfl⟩
 ·rw[Py];refine Runs.run func65 ?_;refine Io (ι:=Nat×St) (fun i=>i.1≤ys.length∧i.2.toks=S.toks∧Chg (ys.flatMap Jo) S.boxes i.2.boxes∧(∀(j:Nat) (y:AV) (l:List (Bool×Int)),j<i.1→ys[j]?=some y→(Aac k (Iy cells))[j]?=some l→SlB i.2.boxes y (I9 l)) ∧
   ∀(j:Nat) (y:AV) (l:List (Bool×Int)),i.1≤j→ys[j]?=some y→cells[j]?=some l→SlB i.2.boxes y (I9 l))
   (fun i=>[(5,vi i.1),(1,vi ((k+2*((Iy cells).take i.1).sum:Nat):Int)),(0,.bsl b ys.length)]) (fun i=>i.2) (fun i=>ys.length-i.1) ?_ (0,S)
   ⟨B3 _,rfl,Chg.refl _ _,fun j y l h=>absurd h (Va _),fun j y l _=>hr j y l⟩ ⟨rfl,rfl,rfl,trivial⟩ rfl
  intro i hi IH;obtain⟨i,S1⟩:=i;obtain⟨hi,ht,hch,hdone,hleft⟩:=hi;simp only at hi ht hch hdone hleft;refine C7 (fun g=>?_) (fun g=>?_)
  ·have hlt:i<ys.length:=by have:=A5 g;simp only at this;omega
   obtain⟨y,hy⟩:=Ab ys hlt;obtain⟨l,hl'⟩:=Ab cells (i:=i) (by omega);have hm:=Afn hl';have hs:=Akl hm;have hsl:=U6 (Iy cells) (i+1);have hb1:S1.boxes[b]?=some ((ys.map fun y=>[y])++ex):=by
    rw[hch.2 b (Aa hb) fun h=>nd3 b (by simp[Jo]) b h rfl];exact hb
   have hr1:((ys.map fun y=>[y])++ex)[i]?=some [y]:=by rw[Cs (by simpa using hlt),Gl,hy];rfl
   refine Jr i hlt hb1 hr1 rfl ?_;refine Hc hb1 hr1 ?_;refine G3 (xs:=[y,vi ((k+2*((Iy cells).take i).sum:Nat):Int)]) (Azi (hleft i y l (Bo _) hy hl') (k+2*((Iy cells).take i).sum) (by omega)) ?_ (hx:=by rcases(hleft i y l (Bo _) hy hl').shape with⟨b',n',rfl⟩|⟨sp',rfl⟩<;>rfl);intro r S2 hP _ _;obtain⟨rfl,ht2,hc2,hs2⟩:=hP;refine Bi 100 rfl ?_;refine IH (i+1,S2) ⟨hlt,ht2.trans ht,?_,?_,?_⟩ (by simp only;omega) _ _ ⟨Ci ((Ac (by omega) (by omega)).trans (by simp only;omega)),Ci (by simp only[hs];omega),rfl,trivial⟩ rfl
   ·exact(hch.trans hc2).more fun a ha=>by
     rcases zzq45.1 ha with h|h
     ·exact h
     ·exact zzq106.2 ⟨y,Bh hy,h⟩
   ·intro j z m hj hz hm';rcases Gs j i with h|h
    ·exact(hdone j z m h hz hm').chg hc2 fun c h1 h2=>Aof nd2 (by omega) hz hy h1 h2
    ·have:j=i:=by simp only at hj;omega
     subst this;rw[hy]at hz;cases hz;rw[Yq hm]at hm';cases hm';exact hs2
   ·intro j z m hj hz hm';simp only at hj;exact(hleft j z m (by omega) hz hm').chg hc2 fun c h1 h2=>Aof nd2 (by omega) hz hy h1 h2
  ·have:i=ys.length:=by have:=Ba g;simp only at this;omega
   subst this;have hst:(Iy cells).take ys.length=Iy cells:=by rw[←hlens,I2]
   rw[hst];exact Bc func65 (h:=rfl) ⟨_,rfl,rfl,ht,hch,fun j y l hy hm=>hdone j y l (Aa hy) hy hm⟩
 ·have h0:ys=[]:=by simpa using he
  subst h0;have h2:cells=[]:=zzq94.1 hl.symm;subst h2;refine Runs.run func65 ?_;refine N1 ?_;refine Bi 100 rfl ?_;refine Ag ?_;exact Bc func65 (h:=rfl) ⟨_,rfl,rfl,rfl,Chg.refl _ _,fun j y l h=>by simp at h⟩
def Aju(k:Nat)(c:Cf):Cf:={ c with vars:=mkI k c.vars.length,cells:=Aac (k+c.vars.length) (Iy c.cells) }
def Wp(c:Cf):Nat:=c.vars.length+2*(Iy c.cells).sum
abbrev Ef(c:Cf)(V C:AV):List AV:=[vi c.pt,V,C,vi c.used,vi c.steps,vi c.trap,vi c.edge,vi c.acc]
theorem Avf{S:St}{x:AV}{ids:List Nat}{c:Cf}(h:CfB SlB S.boxes x ids c)(hcl:c.cells.length≤1000000000)(k:Nat)(h1:k+Wp c≤1000000000000) :
 Runs X 25 [x,vi k] S (fun r S'=>r=vi ((k+Wp c:Nat):Int)∧S'.toks=S.toks∧Chg ids S.boxes S'.boxes∧CfB SlB S'.boxes x ids (Aju k c)):=by
 unfold Wp at h1⊢;obtain⟨V,C,ys,rfl,hids,nd,hV,hC,hl,hr⟩:=h.ex;have Cg:=nd;rw[hids]at nd;obtain⟨ndV,nd2,nd3⟩:=zzq108.1 nd;refine Runs.run func25 ?_;refine Tr (cs:=[vi c.pt,V,C,vi c.used,vi c.steps,vi c.trap,vi c.edge,vi c.acc]) rfl rfl ?_ (hc:=by rcases hV.shape with⟨b',n',rfl⟩|⟨sp',rfl⟩<;>rcases hC.shape with⟨b',n',rfl⟩|⟨sp',rfl⟩<;>rfl);have hb:(S.boxes++[[[vi c.pt,V,C,vi c.used,vi c.steps,vi c.trap,vi c.edge,vi c.acc]]])[S.boxes.length]?=some [[vi c.pt,V,C,vi c.used,vi c.steps,vi c.trap,vi c.edge,vi c.acc]]:=by simp
 have hrw:([[vi c.pt,V,C,vi c.used,vi c.steps,vi c.trap,vi c.edge,vi c.acc]]:List (List AV))[0]?=some [vi c.pt,V,C,vi c.used,vi c.steps,vi c.trap,vi c.edge,vi c.acc]:=rfl;refine Hc hb hrw ?_;refine G3 (xs:=[V,vi k]) (Ain (S:=⟨_,S.toks⟩) (l:=c.vars) hV.more k (by omega)) ?_ (hx:=by rcases hV.shape with⟨b',n',rfl⟩|⟨sp',rfl⟩<;>rfl);intro r S2 hP _ _;obtain⟨rfl,ht2,hc2,hV2⟩:=hP;refine Bi 1 rfl ?_;refine Bi 1 rfl ?_;refine Cb 20 rfl ?_;have hfar:∀a,a∈Jo V→a<S.boxes.length:=hV.lt;have hb2:S2.boxes[S.boxes.length]?=some [[vi c.pt,V,C,vi c.used,vi c.steps,vi c.trap,vi c.edge,vi c.acc]]:=by
  rw[hc2.2 S.boxes.length (by simp) fun h=>by have:=hfar _ h;omega];exact hb
 refine Hc hb2 hrw ?_;have hC2:SlB S2.boxes C (ys.map fun y=>[y]):=hC.more.chg hc2 fun i hi hi2=>nd3 i hi2 i (List.mem_append_left _ hi) rfl;have hr2:∀(j:Nat) (y:AV) (l:List (Bool×Int)),ys[j]?=some y→c.cells[j]?=some l→SlB S2.boxes y (I9 l):=fun j y l hy hl=>
  (hr j y l hy hl).more.chg hc2 fun i hi hi2=>nd3 i hi2 i (Abq _ (zzq106.2 ⟨y,Bh hy,hi⟩)) rfl
 refine G3 (xs:=[C,vi ((k+c.vars.length:Nat):Int)]) (Ave hC2 hl hr2 nd2 hcl (k+c.vars.length) (by omega)) ?_ (hx:=by rcases hC.shape with⟨b',n',rfl⟩|⟨sp',rfl⟩<;>rfl);intro r S3 hP _ _;obtain⟨rfl,ht3,hc3,hcs⟩:=hP;refine Bi 100 rfl ?_;have hV3:SlB S3.boxes V (Fe (mkI k c.vars.length)):=hV2.chg hc3 fun i hi hi2=>nd3 i hi i (Abq _ hi2) rfl;have hC3:SlB S3.boxes C (ys.map fun y=>[y]):=hC2.chg hc3 fun i hi hi2=>(zzq108.1 nd2).2.2 i hi i hi2 rfl;refine Bc func25 (h:=rfl) ⟨_,rfl,?_,ht3.trans ht2,?_,⟨V,C,ys,rfl,hids,Cg,hV3,hC3,?_,hcs⟩⟩
 ·rw[Mj];rfl
 ·refine(((Chg.snoc (Jo V) S.boxes _).trans hc2).trans hc3).more fun i hi=>?_;rw[hids];simp only[zzq45]at hi⊢;rcases hi with(hi|hi)|hi
  ·exact .inl hi
  ·exact .inl hi
  ·exact .inr (.inr hi)
 ·show ys.length=(Aac _ _).length;rw[Uo,Iy,Py];exact hl
theorem Azh(k n:Nat)(hn:k+n≤1000000000000):Pure X 34 [.sl (Fe (mkI k n)) .no,vi k] (vi ((k+n:Nat):Int)):=by
 have hlen:(Fe (mkI k n)).length=n:=by rw[D9,Ab7]
 refine Pure.run func34 ?_;refine Ar (ι:=Nat) 0 0 (fun i=>i≤n) (fun i=>[(5,vi i),(1,vi ((k+i:Nat):Int)),(0,.sl (Fe (mkI k n)) .no)]) (fun i=>⟨[],[]⟩) (fun i=>n-i) ?_ 0 (B3 _)
  ⟨rfl,rfl,rfl,trivial⟩
 intro i hi IH;refine C7 (fun h=>?_) (fun h=>?_)
 ·have hlt:i<n:=by have:=A5 h;rw[hlen]at this;omega
  refine B4 i (by omega) (Ev (f:=fun m=>[vi m]) (Axu hlt)) ?_;refine Ag ?_ (ht:=by simp);refine IH (i+1) hlt (by omega) _ _ ⟨vsx (by omega),vsx (by omega),rfl,trivial⟩ rfl rfl rfl
 ·have:i=n:=by have:=Ba h;rw[hlen]at this;omega
  subst this;exact As func34 rfl
theorem Azg(k n:Nat)(hn:k+2*n≤1000000000000):Pure X 112 [.sl (I9 (mkC k n)) .no,vi k] (vi ((k+2*n:Nat):Int)):=by
 have hlen:(I9 (mkC k n)).length=n:=by rw[G5,Ab6]
 refine Pure.run func112 ?_;refine Ar (ι:=Nat) 0 0 (fun i=>i≤n) (fun i=>[(5,vi i),(1,vi ((k+2*i:Nat):Int)),(0,.sl (I9 (mkC k n)) .no)]) (fun i=>⟨[],[]⟩) (fun i=>n-i) ?_ 0 (B3 _)
  ⟨rfl,rfl,rfl,trivial⟩
 intro i hi IH;refine C7 (fun h=>?_) (fun h=>?_)
 ·have hlt:i<n:=by have:=A5 h;rw[hlen]at this;omega
  have e1:IntKind.i64.wrap (((k+2*i:Nat):Int)+1)=((k+2*i+1:Nat):Int):=by rw[Ac (by omega) (by omega)];omega
  have hg:=Ev (f:=Nv) (Axt (k:=k) hlt);refine B4 i (by omega) hg ?_;refine Ag ?_ (ht:=by simp[mb]);refine B4 i (by omega) hg ?_;refine Ag ?_ (ht:=by rw[e1];simp);refine IH (i+1) hlt (by omega) _ _ ⟨vsx (by omega),Ci (by rw[e1,Ac (by omega) (by omega)];omega),rfl,trivial⟩ rfl rfl rfl
 ·have:i=n:=by have:=Ba h;rw[hlen]at this;omega
  subst this;exact As func112 rfl
theorem Avd(k:Nat)(ls:List Nat)(hll:ls.length≤1000000000)(hn:k+2*ls.sum≤1000000000000):Pure X 66 [.sl (Ov (Aac k ls)) .no,vi k] (vi ((k+2*ls.sum:Nat):Int)):=by
 have hlen:(Ov (Aac k ls)).length=ls.length:=by rw[X9,Uo]
 refine Pure.run func66 ?_;refine Ar (ι:=Nat) 0 0 (fun i=>i≤ls.length) (fun i=>[(5,vi i),(1,vi ((k+2*(ls.take i).sum:Nat):Int)),(0,.sl (Ov (Aac k ls)) .no)]) (fun i=>⟨[],[]⟩) (fun i=>ls.length-i) ?_ 0 (B3 _)
  ⟨rfl,rfl,rfl,trivial⟩
 intro i hi IH;refine C7 (fun h=>?_) (fun h=>?_)
 ·have hlt:i<ls.length:=by have:=A5 h;rw[hlen]at this;omega
  obtain⟨m,hm⟩:=Ab ls hlt;have hs:=Akl hm;have hsl:=U6 ls (i+1);refine B4 i (by omega) (Ev (f:=Alt) (Yq (k:=k) hm)) ?_;refine Al (Azg (k+2*(ls.take i).sum) m (by omega)) ?_;refine Ag ?_ (ht:=Mc (by omega));refine IH (i+1) hlt (by omega) _ _ ⟨vsx (by omega),Ci (by simp only[hs];omega),rfl,trivial⟩ rfl rfl rfl
 ·have:i=ls.length:=by have:=Ba h;rw[hlen]at this;omega
  subst this;rw[I2];exact As func66 rfl
theorem Akm(k:Nat)(c:Cf)(hcl:c.cells.length≤1000000000)(h1:k+Wp c≤1000000000000):Pure X 26 [cf (Aju k c),vi k] (vi ((k+Wp c:Nat):Int)):=by
 unfold Wp at h1⊢;refine Pure.run func26 ?_;refine Al (Azh k c.vars.length (by omega)) ?_;refine Ag ?_ (ht:=Mc (by omega));refine Al (Avd (k+c.vars.length) (Iy c.cells) (by simpa[Iy]using hcl) (by omega)) ?_;refine Ag ?_ (ht:=Mc (by omega));refine As func26 ?_;rw[Mj]
theorem Aoe{k:Nat}{c:Cf}(h:CfOk c):CfOk (Aju k c):=by
 refine⟨by simp only[Aju,Ab7];exact h.vars,by simp only[Aju,Uo,Iy,Py];exact h.cells,fun x hx=>?_⟩;obtain⟨i,hi⟩:=Bs hx;have hil:=Aa hi;simp only[Aju,Uo,Iy,Py]at hil;obtain⟨l,hl⟩:=Ab c.cells hil;simp only[Aju]at hi;rw[Yq (Afn hl)]at hi;cases hi;rw[Ab6];exact h.rows l (Bh hl)
abbrev wkp(n:Nd)(bc:Nat)(d:Int):List AV:=[.cptr (Mh n),.ptr bc 0 0,vi d]
structure CfS (S:St)(bc:Nat)(V C:AV)(ids:List Nat)(c:Cf):Prop where
 box:S.boxes[bc]?=some [Ef c V C]
 cf:CfB SlB S.boxes (.agg (Ef c V C)) ids c
 ne:bc∉ids
structure WkS (n:Nd)(S:St)(bw bc:Nat)(V C:AV)(ids:List Nat)(c:Cf)(d:Int):Prop where
 w:S.boxes[bw]?=some [wkp n bc d]
 c:CfS S bc V C ids c
 ne:bw≠bc∧bw∉ids
theorem CfS.more{S S':St}{bc:Nat}{V C:AV}{ids:List Nat}{c:Cf}(h:CfS S bc V C ids c){m:List (List (List AV))}(hb:S'.boxes=S.boxes++m):CfS S' bc V C ids c:=
 ⟨by rw[hb,Cs (Aa h.box)];exact h.box,by rw[hb];exact h.cf.more,h.ne⟩
theorem CfS.chg{S S':St}{bc:Nat}{V C:AV}{ids js:List Nat}{c:Cf}(h:CfS S bc V C ids c)(hc:Chg js S.boxes S'.boxes)(hb:bc∉js)(hd:∀i,i∈ids→i∉js):CfS S' bc V C ids c:=
 ⟨(hc.2 bc (Aa h.box) hb).trans h.box,h.cf.chg hc hd,h.ne⟩
theorem WkS.more{n:Nd}{S S':St}{bw bc:Nat}{V C:AV}{ids:List Nat}{c:Cf}{d:Int}(h:WkS n S bw bc V C ids c d){m:List (List (List AV))}(hb:S'.boxes=S.boxes++m):WkS n S' bw bc V C ids c d:=
 ⟨by rw[hb,Cs (Aa h.w)];exact h.w,h.c.more hb,h.ne⟩
theorem WkS.chg{n:Nd}{S S':St}{bw bc:Nat}{V C:AV}{ids js:List Nat}{c:Cf}{d:Int}(h:WkS n S bw bc V C ids c d)(hc:Chg js S.boxes S'.boxes)(hw:bw∉js)(hb:bc∉js)(hd:∀i,i∈ids→i∉js):WkS n S' bw bc V C ids c d:=
 ⟨(hc.2 bw (Aa h.w) hw).trans h.w,h.c.chg hc hb hd,h.ne⟩
theorem CfS.vars{S:St}{bc:Nat}{V C:AV}{ids:List Nat}{c:Cf}(h:CfS S bc V C ids c){i:Nat}{v:Int}(hv:c.vars[i]?=some v):∃(b:Nat)(ex:List (List AV)),V=.bsl b c.vars.length∧S.boxes[b]?=some (Fe c.vars++ex)∧(Fe c.vars++ex)[i]?=some [vi v]:=by
 obtain⟨V',C',ys,h1,_,_,h4,_⟩:=h.cf.ex;simp only[AV.agg.injEq,List.cons.injEq,and_true,true_and]at h1;obtain⟨rfl,rfl⟩:=h1;rcases h4 with⟨b,ex,rfl,hb⟩|⟨he,_⟩
 ·rw[D9];exact⟨b,ex,rfl,hb,by rw[Cs (by rw[D9];exact Aa hv)];exact Y8 hv⟩
 ·cases hc:c.vars with
  |nil=>rw[hc]at hv;simp at hv
  |cons a l=>rw[hc]at he;simp[Fe]at he
theorem CfS.row{S:St}{bc:Nat}{V C:AV}{ids:List Nat}{c:Cf}(h:CfS S bc V C ids c){i:Nat}{r:List (Bool×Int)}(hv:c.cells[i]?=some r):∃(b:Nat)(ys:List AV)(ex:List (List AV))(y:AV),C=.bsl b c.cells.length∧ys.length=c.cells.length∧S.boxes[b]?=some (ys.map (fun y=>[y])++ex)∧ys[i]?=some y∧(ys.map (fun y=>[y])++ex)[i]?=some [y]∧SlB S.boxes y (I9 r):=by
 obtain⟨V',C',ys,h1,_,_,_,h5,h6,h7⟩:=h.cf.ex;simp only[AV.agg.injEq,List.cons.injEq,and_true,true_and]at h1;obtain⟨rfl,rfl⟩:=h1;obtain⟨y,hy⟩:=Ab ys (i:=i) (by rw[h6];exact Aa hv);rcases h5 with⟨b,ex,rfl,hb⟩|⟨he,_⟩
 ·exact⟨b,ys,ex,y,by simp[h6],h6,hb,hy,by rw[Cs (by simpa using Aa hy),Gl,hy];rfl,h7 i y r hy hv⟩
 ·have:ys=[]:=by simpa using he
  subst this;simp at hy
theorem Aox(n:Nd){S:St}{bw bc:Nat}{V C:AV}{ids:List Nat}{c:Cf}{d:Int}(h:WkS n S bw bc V C ids c d){i:Nat}{r:List (Bool×Int)}(hr:c.cells[i]?=some r)(hl:r.length≤60)(x:Int) :
 Runs X 189 [.ptr bw 0 0,vi i,vi x] S (fun v S'=>v=vi (if Bl x 0 ((r.length:Int)-1)=true then 0 else 1)∧S'=S):=by
 obtain⟨b,ys,ex,y,hC,hyl,hb,hy,hrow,hsl⟩:=h.c.row hr;have hp:=Aqy x (r.length:Int) (by omega) (by omega);have z1:=h.w;have z2:=h.c.box;have hi:=Aa hr;subst hC;rcases hsl with⟨b2,ex2,rfl,_⟩|⟨he,sp,rfl⟩
 ·rw[G5]at hrow;refine Runs.run func189 ?_;refine Aw z1 ?_;refine Aw z2 ?_;refine Jr i hi hb hrow rfl ?_;refine Hc hb hrow ?_;refine Im hp ?_;refine F7 (fun g=>?_) (fun g=>?_)
  ·have g':Bl x 0 ((r.length:Int)-1)=false:=by simpa using g
   refine Bc func189 (h:=rfl) ⟨_,rfl,?_,rfl⟩;rw[if_neg (by rw[g'];decide)];rfl
  ·have g':Bl x 0 ((r.length:Int)-1)=true:=by simpa using g
   refine Bc func189 (h:=rfl) ⟨_,rfl,?_,rfl⟩;rw[if_pos g'];rfl
 ·have h0:r=[]:=by cases r with|nil=>rfl|cons a l=>simp[I9]at he
  subst h0;refine Runs.run func189 ?_;refine Aw z1 ?_;refine Aw z2 ?_;refine Jr i hi hb hrow rfl ?_;refine Hc hb hrow ?_;refine Im hp ?_;refine F7 (fun g=>?_) (fun g=>?_)
  ·have g':Bl x 0 (((([]:List (Bool×Int)).length):Int)-1)=false:=by simpa using g
   refine Bc func189 (h:=rfl) ⟨_,rfl,?_,rfl⟩;rw[if_neg (by rw[g'];decide)];rfl
  ·have g':Bl x 0 (((([]:List (Bool×Int)).length):Int)-1)=true:=by simpa using g
   refine Bc func189 (h:=rfl) ⟨_,rfl,?_,rfl⟩;rw[if_pos g'];rfl
def VrP(n:Nd)(bw bc:Nat)(V C:AV)(ids:List Nat)(c:Cf)(S:St)(T:VR)(r:AV)(S':St):Prop:=r=vR T∧S'.toks=S.toks∧Chg [bw] S.boxes S'.boxes∧WkS n S' bw bc V C ids c T.2.2
structure VrS (n:Nd)(bw bc:Nat)(V C:AV)(ids:List Nat)(c:Cf)(S T0:St)(e:Nd)(l1 l2:Nat)(a b d:Int):Prop where
 e:T0.boxes[l1]?=some [Af e]
 a:T0.boxes[l2]?=some [[vi a,vi b]]
 w:WkS n T0 bw bc V C ids c d
 toks:T0.toks=S.toks
 chg:Chg [bw] S.boxes T0.boxes
 ne:bw≠l1∧bw≠l2
abbrev VrA(n:Nd)(bw bc:Nat)(V C:AV)(ids:List Nat)(c:Cf)(S T0:St)(l1 l2 m t:Nat)(T:VR):Prop:=
 AK X ⟨187,f187,m,t⟩ (Lm false 10 f187) [(0,.ptr bw 0 0),(3,.ptr l1 0 0),(6,.ptr l2 0 0)] T0 (fun e S'=>∃r,e=.ret r∧VrP n bw bc V C ids c S T r S')
section
variable {n:Nd}{bw bc:Nat}{V C:AV}{ids:List Nat}{c:Cf}{S T0:St}{l1 l2 m t:Nat}
theorem Ay2(k d:Int)(h:VrS n bw bc V C ids c S T0 (.mk 1 [] k []) l1 l2 0 0 d):VrA n bw bc V C ids c S T0 l1 l2 m t (k,0,d):=by
 have zE:=h.e;refine D5 ?_;refine Cb 60 rfl ?_;refine Aw zE ?_;refine Do ?_;refine Aw zE ?_;exact Bc func187 (h:=rfl) ⟨_,rfl,rfl,h.toks,h.chg,h.w⟩
theorem Ay4(hk:VOk n c)(s:List UInt8)(hs:E6 0 (Ax n 31) s≥0)(d:Int)(h:VrS n bw bc V C ids c S T0 (.mk 2 s 0 []) l1 l2 0 0 d):VrA n bw bc V C ids c S T0 l1 l2 m t (c.vars.getD (E6 0 (Ax n 31) s).toNat 0,0,d):=by
 obtain⟨i,v,h1,h2,h3⟩:=hk.var hs;obtain⟨bv,ex,hV,hb,hrow⟩:=h.w.c.vars h2;have hi:=Aa h2;subst hV;have kl:=hk.kl;have hq:=Xk n s (by omega);rw[h1]at hq;rw[h3];have zE:=h.e;have zw:=h.w.w;have zc:=h.w.c.box;refine D5 ?_;refine Cb 60 rfl ?_;refine Aw zE ?_;refine Cq ?_;refine Do ?_;refine De 0 (by kernel_rfl) ?_
 iterate 3 refine Av ?_
 refine A2 (Aq zw) ?_
 iterate 2 refine Av ?_
 refine A2 (Aq zc) ?_
 iterate 3 refine Av ?_
 refine A2 (Aq zw) ?_;refine Av ?_;refine A2 (Aq zE) ?_;refine Js hq ?_;refine A2 (Gd (hj:=by simpa[Fw]using hi) (hb:=hb) (hr:=hrow) (hl:=rfl)) ?_;refine A2 (M1 hb hrow) ?_
 iterate 2 refine Av ?_
 refine Gt ?_;exact Bc func187 (h:=rfl) ⟨_,rfl,rfl,h.toks,h.chg,h.w⟩
theorem Ayz(hk:VOk n c)(s:List UInt8)(hs:E6 0 (Ax n 32) s≥0)(d:Int)(h:VrS n bw bc V C ids c S T0 (.mk 4 s 0 []) l1 l2 0 0 d):VrA n bw bc V C ids c S T0 l1 l2 m t ((Xn n c s).length,0,d):=by
 obtain⟨i,r,h1,h2,h3,h4⟩:=hk.row hs;obtain⟨b,ys,ex,y,hC,hyl,hb,hy,hrow,hsl⟩:=h.w.c.row h2;have hi:=Aa h2;subst hC;have kl:=hk.kl;have hq:=Aia n s (by omega);rw[h1]at hq;rw[h3];have zE:=h.e;have zw:=h.w.w;have zc:=h.w.c.box;rcases hsl with⟨b2,ex2,rfl,_⟩|⟨he,sp,rfl⟩
 ·rw[G5]at hrow;refine D5 ?_;refine Cb 60 rfl ?_;refine Aw zE ?_
  iterate 2 refine Cq ?_
  refine Do ?_;refine De 0 (by kernel_rfl) ?_
  iterate 3 refine Av ?_
  refine A2 (Aq zw) ?_
  iterate 2 refine Av ?_
  refine A2 (Aq zc) ?_
  iterate 3 refine Av ?_
  refine A2 (Aq zw) ?_;refine Av ?_;refine A2 (Aq zE) ?_;refine Js hq ?_;refine A2 (Gd (hj:=by simpa[Fw]using hi) (hb:=hb) (hr:=hrow) (hl:=rfl)) ?_;refine A2 (M1 hb hrow) ?_
  iterate 3 refine Av ?_
  refine Gt ?_;exact Bc func187 (h:=rfl) ⟨_,rfl,rfl,h.toks,h.chg,h.w⟩
 ·have h0:r=[]:=by cases r with|nil=>rfl|cons a l=>simp[I9]at he
  subst h0;refine D5 ?_;refine Cb 60 rfl ?_;refine Aw zE ?_
  iterate 2 refine Cq ?_
  refine Do ?_;refine De 0 (by kernel_rfl) ?_
  iterate 3 refine Av ?_
  refine A2 (Aq zw) ?_
  iterate 2 refine Av ?_
  refine A2 (Aq zc) ?_
  iterate 3 refine Av ?_
  refine A2 (Aq zw) ?_;refine Av ?_;refine A2 (Aq zE) ?_;refine Js hq ?_;refine A2 (Gd (hj:=by simpa[Fw]using hi) (hb:=hb) (hr:=hrow) (hl:=rfl)) ?_;refine A2 (M1 hb hrow) ?_
  iterate 3 refine Av ?_
  refine Gt ?_;exact Bc func187 (h:=rfl) ⟨_,rfl,rfl,h.toks,h.chg,h.w⟩
theorem Ay1(x:List Nd)(a b d:Int)(h:VrS n bw bc V C ids c S T0 (.mk 5 [] 0 x) l1 l2 a b d):VrA n bw bc V C ids c S T0 l1 l2 m t (Ns (IntKind.i64.wrap (-a)) d):=by
 have zE:=h.e;have zA:=h.a;have e1:(Ns (IntKind.i64.wrap (-a)) d).2.2=d:=by unfold Ns;split<;>rfl
 refine D5 ?_;refine Cb 60 rfl ?_;refine Aw zE ?_
 iterate 3 refine Cq ?_
 refine Do ?_
 iterate 1 refine Aw zA ?_
 refine Im (Vy (IntKind.i64.wrap (-a)) d) ?_;exact Bc func187 (h:=rfl) ⟨_,rfl,rfl,h.toks,h.chg,by rw[e1];exact h.w⟩
theorem Ayy(x:List Nd)(a b d:Int)(h:VrS n bw bc V C ids c S T0 (.mk 6 [] 0 x) l1 l2 a b d):VrA n bw bc V C ids c S T0 l1 l2 m t (Ns (IntKind.i64.wrap (a+b)) d):=by
 have zE:=h.e;have zA:=h.a;have e1:(Ns (IntKind.i64.wrap (a+b)) d).2.2=d:=by unfold Ns;split<;>rfl
 refine D5 ?_;refine Cb 60 rfl ?_;refine Aw zE ?_
 iterate 4 refine Cq ?_
 refine Do ?_
 iterate 2 refine Aw zA ?_
 refine Im (Vy (IntKind.i64.wrap (a+b)) d) ?_;exact Bc func187 (h:=rfl) ⟨_,rfl,rfl,h.toks,h.chg,by rw[e1];exact h.w⟩
theorem Ay3(x:List Nd)(a b d:Int)(h:VrS n bw bc V C ids c S T0 (.mk 7 [] 0 x) l1 l2 a b d):VrA n bw bc V C ids c S T0 l1 l2 m t (Ns (IntKind.i64.wrap (a-b)) d):=by
 have zE:=h.e;have zA:=h.a;have e1:(Ns (IntKind.i64.wrap (a-b)) d).2.2=d:=by unfold Ns;split<;>rfl
 refine D5 ?_;refine Cb 60 rfl ?_;refine Aw zE ?_
 iterate 5 refine Cq ?_
 refine Do ?_
 iterate 2 refine Aw zA ?_
 refine Im (Vy (IntKind.i64.wrap (a-b)) d) ?_;exact Bc func187 (h:=rfl) ⟨_,rfl,rfl,h.toks,h.chg,by rw[e1];exact h.w⟩
theorem Ay0(x:List Nd)(a b d:Int)(h:VrS n bw bc V C ids c S T0 (.mk 8 [] 0 x) l1 l2 a b d):VrA n bw bc V C ids c S T0 l1 l2 m t (Ns (IntKind.i64.wrap (a*b)) d):=by
 have zE:=h.e;have zA:=h.a;have e1:(Ns (IntKind.i64.wrap (a*b)) d).2.2=d:=by unfold Ns;split<;>rfl
 refine D5 ?_;refine Cb 60 rfl ?_;refine Aw zE ?_
 iterate 6 refine Cq ?_
 refine Do ?_
 iterate 2 refine Aw zA ?_
 refine Im (Vy (IntKind.i64.wrap (a*b)) d) ?_;exact Bc func187 (h:=rfl) ⟨_,rfl,rfl,h.toks,h.chg,by rw[e1];exact h.w⟩
end
section
variable {n:Nd}{bw bc:Nat}{V C:AV}{ids:List Nat}{c:Cf}{S T0:St}{l1 l2 m t:Nat}
theorem Aut(hk:VOk n c)(s:List UInt8)(hs:E6 0 (Ax n 32) s≥0)(x:List Nd)(a d:Int)(hS:S.boxes.length≤l2)(h:VrS n bw bc V C ids c S T0 (.mk 3 s 0 x) l1 l2 a 0 d):VrA n bw bc V C ids c S T0 l1 l2 m t (Nw (Xn n c s) a d):=by
 obtain⟨i,r,h1,h2,h3,h4⟩:=hk.row hs;obtain⟨b,ys,ex,y,hC,hyl,hb,hy,hrow,hsl⟩:=h.w.c.row h2;have hi:=Aa h2;subst hC;have kl:=hk.kl;have hq:=Aia n s (by omega);rw[h1]at hq;rw[h3];have zE:=h.e;have zA:=h.a;have zw:=h.w.w;have zc:=h.w.c.box;refine D5 ?_;refine Cb 60 rfl ?_;refine Aw zE ?_
 iterate 7 refine Cq ?_
 refine De 0 (by kernel_rfl) ?_
 iterate 3 refine Av ?_
 refine A2 (Aq zw) ?_;refine Av ?_;refine A2 (Aq zE) ?_;refine Js hq ?_;refine Av ?_;refine Gt ?_;refine Aw zA ?_;refine G3 (Aox n h.w h2 h4 a) ?_;intro v S' hP _ _;obtain⟨rfl,rfl⟩:=hP;refine Cb 60 rfl ?_;cases hbt:Bl a 0 ((r.length:Int)-1)with
 |false=>
  rw[if_neg (by simp)];have e1:Nw r a d=(0,1,d):=by unfold Nw;rw[if_neg (by simp[hbt])]
  rw[e1];refine Do ?_;exact Bc func187 (h:=rfl) ⟨_,rfl,rfl,h.toks,h.chg,h.w⟩
 |true=>
  rw[if_pos rfl];have hb':=Cn.1 hbt;obtain⟨j,rfl⟩:∃j:Nat,a=j:=⟨a.toNat,by omega⟩
  obtain⟨z,hz⟩:=Ab r (i:=j) (by omega);obtain⟨w,mm⟩:=z;rcases hsl with⟨b2,ex2,rfl,hb2⟩|⟨he,sp,rfl⟩
  ·have hjl:j<(I9 r).length:=by rw[G5];exact Aa hz
   have hrow2:(I9 r++ex2)[j]?=some [vb w,vi mm]:=by rw[Cs hjl];exact Ev (f:=Nv) hz
   have gx:∀{i:Nat} {y:List (List AV)} {more:List (List (List AV))},S'.boxes[i]?=some y→(S'.boxes++more)[i]?=some y:=fun{i y more} h=>by rw[Cs (Aa h)];exact h
   have e1:Nw r j d=if w=true then(mm,0,IntKind.i64.wrap (d+1))else(0,2,d):=by
    unfold Nw;rw[if_pos hbt,Hl,Aiq,hz];rfl
   refine Cq ?_;refine De 49152 (by kernel_rfl) ?_
   iterate 3 refine Av ?_
   refine A2 (Aq zw) ?_
   iterate 2 refine Av ?_
   refine A2 (Aq zc) ?_;refine Av ?_;refine A2 (Gd (hj:=by simpa[Fw]using hi) (hb:=hb) (hr:=hrow) (hl:=rfl)) ?_;refine A2 (M1 hb hrow) ?_;refine Av ?_;refine A2 (Aq zA) ?_;refine A2 (Gd (hj:=by simpa[Fw]using hjl) (hb:=hb2) (hr:=hrow2) (hl:=rfl)) ?_;refine A2 (M1 hb2 hrow2) ?_;refine Dz (Pi rfl rfl) ?_ ?_
   ·exact An (M1 (gx hb2) hrow2) (An (Gd (hj:=by simpa[Fw]using hjl) (hb:=gx hb2) (hr:=hrow2) (hl:=rfl)) (An (Aq (gx zA)) (An (M1 (gx hb) hrow)
     (An (Gd (hj:=by simpa[Fw]using hi) (hb:=gx hb) (hr:=hrow) (hl:=rfl)) (An (Aq (gx zc)) (An (Aq (gx zw)) Gy))))))
   have z13:(S'.boxes++[[[vb false,vi 0]]])[S'.boxes.length]?=some [[vb false,vi 0]]:=by simp
   refine Ch (J1 (r:=0) z13 rfl rfl) ?_;refine Gt ?_;obtain⟨S2,hS2⟩:∃S2:St,S2=⟨S'.boxes++[[[vb w,vi mm]]],S'.toks⟩:=⟨_,rfl⟩
   refine Be S2 ?_ (by rw[hS2];exact congrArg (fun x=>St.mk x _) (by rw[Iw _ _ (Bo _),Ik];rfl));have z2:S2.boxes[S'.boxes.length]?=some [[vb w,vi mm]]:=by rw[hS2];simp
   have hW2:WkS n S2 bw bc V (.bsl b c.cells.length) ids c d:=h.w.more (by rw[hS2]);have hch2:Chg [bw] S.boxes S2.boxes:=by rw[hS2];exact(h.chg.trans (Chg.snoc [] S'.boxes _)).more fun i hi=>by simpa using hi
   have htk2:S2.toks=S.toks:=by rw[hS2];exact h.toks
   refine Aw z2 ?_;cases w with
   |false=>
    refine Do ?_;rw[e1,if_neg (by simp)];exact Bc func187 (h:=rfl) ⟨_,rfl,rfl,htk2,hch2,hW2⟩
   |true=>
    refine Cq ?_;refine Aw hW2.w ?_;refine Cc hW2.w rfl ?_;have hbl:=Aa hW2.w;have hch3:Chg [bw] S2.boxes (S2.boxes.set bw [wkp n bc (IntKind.i64.wrap (d+1))]):=⟨by simp,fun i _ hi=>Fq (fun h=>hi (by simp[h]))⟩
    have hne:bw≠S'.boxes.length:=by have:=Aa zw;omega
    refine Aw (b:=S'.boxes.length) (cs:=[vb true,vi mm]) (by rw[Fq hne];exact z2) ?_;rw[e1,if_pos rfl];refine Bc func187 (h:=rfl) ⟨_,rfl,rfl,htk2,(hch2.trans hch3).more fun i hi=>by simpa using hi,⟨Eh hbl,hW2.c.chg hch3 (by simpa using hW2.ne.1.symm) fun i hi hi2=>?_,hW2.ne⟩⟩;simp at hi2;subst hi2;exact hW2.ne.2 hi
  ·have h0:r=[]:=by cases r with|nil=>rfl|cons a l=>simp[I9]at he
   subst h0;simp at hz
end
abbrev VrR(n:Nd)(bw bc:Nat)(V C:AV)(ids:List Nat)(c:Cf)(e:Nd)(d:Int)(T:VR):Prop:=
 ∀S:St,WkS n S bw bc V C ids c d→Runs X 187 [.ptr bw 0 0,nd e] S (VrP n bw bc V C ids c S T)
section
variable {n:Nd}{bw bc:Nat}{V C:AV}{ids:List Nat}{c:Cf}
theorem VrS.step{S T1 T2:St}{e:Nd}{l1 l2:Nat}{a b a' b' d d':Int}(h:VrS n bw bc V C ids c S T1 e l1 l2 a b d)(hb:T2.boxes[l1]?=some [Af e])(ha:T2.boxes[l2]?=some [[vi a',vi b']])(hw:WkS n T2 bw bc V C ids c d')(ht:T2.toks=S.toks)(hc:Chg [bw] S.boxes T2.boxes) :
 VrS n bw bc V C ids c S T2 e l1 l2 a' b' d':=⟨hb,ha,hw,ht,hc,h.ne⟩
theorem T5{S:St}(h:CfS S bc V C ids c):∀i,i∈ids→i<S.boxes.length:=by
 obtain⟨V',C',ys,_,rfl,_,h4,h5,h6,h7⟩:=h.cf.ex;intro i hi;simp only[zzq45,zzq106]at hi;rcases hi with h|h|⟨y,hy,hi⟩
 ·exact h4.lt i h
 ·exact h5.lt i h
 ·obtain⟨j,hj⟩:=Bs hy;obtain⟨l,hl⟩:=Ab c.cells (i:=j) (by rw[←h6];exact Aa hj);exact(h7 j y l hj hl).lt i hi
theorem Auu(k:Int)(s:List UInt8)(m d:Int)(T:VR)(h:∀{S T0:St}{l1 l2 m' t':Nat},VrS n bw bc V C ids c S T0 (.mk k s m []) l1 l2 0 0 d→VrA n bw bc V C ids c S T0 l1 l2 m' t' T):VrR n bw bc V C ids c (.mk k s m []) d T:=by
 intro S hW;refine Runs.run func187 ?_;refine Tr rfl rfl ?_;refine Hi W5 rfl rfl ?_;refine Lq (b:=S.boxes.length+1) (by simp) rfl ?_;refine Cc (b:=S.boxes.length+1) (cs:=[vi 0,vi 0]) (by simp) rfl ?_;obtain⟨T0,hT0⟩:∃T0:St,T0=⟨S.boxes++[[Af (.mk k s m [])]]++[[[vi 0,vi 0]]],S.toks⟩:=⟨_,rfl⟩
 refine Be T0 ?_ (by rw[hT0];exact congrArg (fun x=>St.mk x _) (by rw[show S.boxes.length+1=(S.boxes++[[Af (.mk k s m [])]]).length by simp];exact(by rw[Iw _ _ (Bo _),Ik];rfl)));have hbw:=Aa hW.w;have h0:VrS n bw bc V C ids c S T0 (.mk k s m []) S.boxes.length (S.boxes.length+1) 0 0 d:=
  ⟨by rw[hT0];simp,by rw[hT0];simp,hW.more (m:=[[Af (.mk k s m [])],[[vi 0,vi 0]]]) (by rw[hT0];simp),by rw[hT0],by rw[hT0];exact((Chg.snoc [] S.boxes _).trans (Chg.snoc [] _ _)).more fun i hi=>by simp at hi,by omega,by omega⟩
 refine Aw h0.e ?_;refine N1 ?_;refine Cb 60 rfl ?_;refine Ey (e:=false) 0 10 (fun h=>nomatch h) (fun _=>?_);exact Ts (G:=[(0,.ptr bw 0 0),(3,.ptr S.boxes.length 0 0),(6,.ptr (S.boxes.length+1) 0 0)]) ⟨rfl,rfl,rfl,trivial⟩ (h h0)
theorem A0b(k:Int)(s:List UInt8)(m d:Int)(x:Nd)(v t d1:Int)(T:VR)(ihx:VrR n bw bc V C ids c x d (v,t,d1))(hno:¬t=0→T=(0,t,d1))
 (h:t=0→∀{S T0:St}{l1 l2 m' t':Nat},S.boxes.length≤l2→VrS n bw bc V C ids c S T0 (.mk k s m [x]) l1 l2 v 0 d1→VrA n bw bc V C ids c S T0 l1 l2 m' t' T):VrR n bw bc V C ids c (.mk k s m [x]) d T:=by
 intro S hW;refine Runs.run func187 ?_;refine Tr rfl rfl ?_;refine Hi W5 rfl rfl ?_;refine Lq (b:=S.boxes.length+1) (by simp) rfl ?_;refine Cc (b:=S.boxes.length+1) (cs:=[vi 0,vi 0]) (by simp) rfl ?_;obtain⟨T0,hT0⟩:∃T0:St,T0=⟨S.boxes++[[Af (.mk k s m [x])]]++[[[vi 0,vi 0]]],S.toks⟩:=⟨_,rfl⟩
 refine Be T0 ?_ (by rw[hT0];exact congrArg (fun x=>St.mk x _) (by rw[show S.boxes.length+1=(S.boxes++[[Af (.mk k s m [x])]]).length by simp];exact(by rw[Iw _ _ (Bo _),Ik];rfl)));have hbw:=Aa hW.w;have h0:VrS n bw bc V C ids c S T0 (.mk k s m [x]) S.boxes.length (S.boxes.length+1) 0 0 d:=
  ⟨by rw[hT0];simp,by rw[hT0];simp,hW.more (m:=[[Af (.mk k s m [x])],[[vi 0,vi 0]]]) (by rw[hT0];simp),by rw[hT0],by rw[hT0];exact((Chg.snoc [] S.boxes _).trans (Chg.snoc [] _ _)).more fun i hi=>by simp at hi,by omega,by omega⟩
 refine Aw h0.e ?_;refine N1 ?_;have hl0:=Aa h0.a;have hbw0:=Aa h0.w.w;refine Cb 60 rfl ?_;refine Do ?_;refine Mm 0 (by decide) (Am (l:=[x]) rfl) ?_;refine Lq (b:=T0.boxes.length) rfl rfl ?_;refine Cc (b:=T0.boxes.length) (cs:=zN) (by simp) rfl ?_;obtain⟨U0,hU0⟩:∃U:St,U=⟨T0.boxes++[[Af x]],T0.toks⟩:=⟨_,rfl⟩
 refine Be U0 ?_ (by rw[hU0];exact congrArg (fun x=>St.mk x _) (by rw[Iw _ _ (Bo _),Ik];rfl));have hu0:U0.boxes[T0.boxes.length]?=some [Af x]:=by rw[hU0];simp
 refine Aw hu0 ?_;refine G3 (ihx U0 (h0.w.more (by rw[hU0]))) ?_;intro r W0 hP _ _;obtain⟨rfl,ht0,hc0,hW0⟩:=hP;refine Cb 60 rfl ?_;have hcc0:Chg [bw] S.boxes W0.boxes:=((h0.chg.trans (Chg.snoc [] T0.boxes [Af x])).trans (by rw[hU0]at hc0;exact hc0)).more fun i hi=>by simpa using hi
 have htt0:W0.toks=S.toks:=by rw[ht0,hU0];exact h0.toks
 refine F7 (fun g=>?_) (fun g=>?_)
 ·have g':¬t=0:=by simpa using(show (t != 0)=true from g)
  rw[hno g'];exact Bc func187 (h:=rfl) ⟨_,rfl,rfl,htt0,hcc0,hW0⟩
 have gt:t=0:=by simpa using(show (t != 0)=false from g)
 have up0:∀{i:Nat} {y:List (List AV)},i≠bw→T0.boxes[i]?=some y→W0.boxes[i]?=some y:=fun{i y} hi h=>(hc0.2 i (by rw[hU0];simp;have:=Aa h;omega) (by simpa using hi)).trans (by rw[hU0,Cs (Aa h)];exact h);have ha0:=up0 h0.ne.2.symm h0.a;refine Hi (Acl (m:=2) (n:=0) (by decide) (by decide)) rfl rfl ?_;refine Cc ha0 rfl ?_;obtain⟨T1,hT1⟩:∃U:St,U=⟨W0.boxes.set (S.boxes.length+1) [[vi v,vi 0]],W0.toks⟩:=⟨_,rfl⟩
 refine Be T1 ?_ hT1.symm;have hsb0:Chg [S.boxes.length+1] W0.boxes T1.boxes:=by rw[hT1];exact⟨by simp,fun i _ hi=>Fq (fun h=>hi (by simp[h]))⟩
 have h1:VrS n bw bc V C ids c S T1 (.mk k s m [x]) S.boxes.length (S.boxes.length+1) v 0 d1:=
  h0.step (by rw[hT1,Fq (by omega)];exact up0 h0.ne.1.symm h0.e) (by rw[hT1];exact Eh (Aa ha0))
   (hW0.chg hsb0 (by simp;omega) (by have:=Aa hW.c.box;simp;omega) fun i hi hi2=>by simp at hi2;have:=T5 hW.c i hi;omega) (by rw[hT1];exact htt0)
   ⟨by rw[hT1];simpa using hcc0.1,fun i hi hi2=>(hsb0.2 i (Mz hi hcc0.1) (by simp;omega)).trans (hcc0.2 i hi hi2)⟩
 refine P7 ?_;refine Cb 60 rfl ?_;refine Ey (e:=false) 0 10 (fun h=>nomatch h) (fun _=>?_);exact Ts (G:=[(0,.ptr bw 0 0),(3,.ptr S.boxes.length 0 0),(6,.ptr (S.boxes.length+1) 0 0)]) ⟨rfl,rfl,rfl,trivial⟩ (h gt (by omega) h1)
theorem A4k(k:Int)(s:List UInt8)(m d:Int)(x y:Nd)(v t d1 v2 t2 d2:Int)(T:VR)(ihx:VrR n bw bc V C ids c x d (v,t,d1))(ihy:VrR n bw bc V C ids c y d1 (v2,t2,d2))(hno:¬t=0→T=(0,t,d1))(hno2:t=0→¬t2=0→T=(0,t2,d2))
 (h:t=0→t2=0→∀{S T0:St}{l1 l2 m' t':Nat},VrS n bw bc V C ids c S T0 (.mk k s m [x,y]) l1 l2 v v2 d2→VrA n bw bc V C ids c S T0 l1 l2 m' t' T):VrR n bw bc V C ids c (.mk k s m [x,y]) d T:=by
 intro S hW;refine Runs.run func187 ?_;refine Tr rfl rfl ?_;refine Hi W5 rfl rfl ?_;refine Lq (b:=S.boxes.length+1) (by simp) rfl ?_;refine Cc (b:=S.boxes.length+1) (cs:=[vi 0,vi 0]) (by simp) rfl ?_;obtain⟨T0,hT0⟩:∃T0:St,T0=⟨S.boxes++[[Af (.mk k s m [x,y])]]++[[[vi 0,vi 0]]],S.toks⟩:=⟨_,rfl⟩
 refine Be T0 ?_ (by rw[hT0];exact congrArg (fun x=>St.mk x _) (by rw[show S.boxes.length+1=(S.boxes++[[Af (.mk k s m [x,y])]]).length by simp];exact(by rw[Iw _ _ (Bo _),Ik];rfl)));have hbw:=Aa hW.w;have h0:VrS n bw bc V C ids c S T0 (.mk k s m [x,y]) S.boxes.length (S.boxes.length+1) 0 0 d:=
  ⟨by rw[hT0];simp,by rw[hT0];simp,hW.more (m:=[[Af (.mk k s m [x,y])],[[vi 0,vi 0]]]) (by rw[hT0];simp),by rw[hT0],by rw[hT0];exact((Chg.snoc [] S.boxes _).trans (Chg.snoc [] _ _)).more fun i hi=>by simp at hi,by omega,by omega⟩
 refine Aw h0.e ?_;refine N1 ?_;have hl0:=Aa h0.a;have hbw0:=Aa h0.w.w;refine Cb 60 rfl ?_;refine Do ?_;refine Mm 0 (by decide) (Am (l:=[x,y]) rfl) ?_;refine Lq (b:=T0.boxes.length) rfl rfl ?_;refine Cc (b:=T0.boxes.length) (cs:=zN) (by simp) rfl ?_;obtain⟨U0,hU0⟩:∃U:St,U=⟨T0.boxes++[[Af x]],T0.toks⟩:=⟨_,rfl⟩
 refine Be U0 ?_ (by rw[hU0];exact congrArg (fun x=>St.mk x _) (by rw[Iw _ _ (Bo _),Ik];rfl));have hu0:U0.boxes[T0.boxes.length]?=some [Af x]:=by rw[hU0];simp
 refine Aw hu0 ?_;refine G3 (ihx U0 (h0.w.more (by rw[hU0]))) ?_;intro r W0 hP _ _;obtain⟨rfl,ht0,hc0,hW0⟩:=hP;refine Cb 60 rfl ?_;have hcc0:Chg [bw] S.boxes W0.boxes:=((h0.chg.trans (Chg.snoc [] T0.boxes [Af x])).trans (by rw[hU0]at hc0;exact hc0)).more fun i hi=>by simpa using hi
 have htt0:W0.toks=S.toks:=by rw[ht0,hU0];exact h0.toks
 refine F7 (fun g=>?_) (fun g=>?_)
 ·have g':¬t=0:=by simpa using(show (t != 0)=true from g)
  rw[hno g'];exact Bc func187 (h:=rfl) ⟨_,rfl,rfl,htt0,hcc0,hW0⟩
 have gt:t=0:=by simpa using(show (t != 0)=false from g)
 have up0:∀{i:Nat} {y:List (List AV)},i≠bw→T0.boxes[i]?=some y→W0.boxes[i]?=some y:=fun{i y} hi h=>(hc0.2 i (by rw[hU0];simp;have:=Aa h;omega) (by simpa using hi)).trans (by rw[hU0,Cs (Aa h)];exact h);have ha0:=up0 h0.ne.2.symm h0.a;refine Hi (Acl (m:=2) (n:=0) (by decide) (by decide)) rfl rfl ?_;refine Cc ha0 rfl ?_;obtain⟨T1,hT1⟩:∃U:St,U=⟨W0.boxes.set (S.boxes.length+1) [[vi v,vi 0]],W0.toks⟩:=⟨_,rfl⟩
 refine Be T1 ?_ hT1.symm;have hsb0:Chg [S.boxes.length+1] W0.boxes T1.boxes:=by rw[hT1];exact⟨by simp,fun i _ hi=>Fq (fun h=>hi (by simp[h]))⟩
 have h1:VrS n bw bc V C ids c S T1 (.mk k s m [x,y]) S.boxes.length (S.boxes.length+1) v 0 d1:=
  h0.step (by rw[hT1,Fq (by omega)];exact up0 h0.ne.1.symm h0.e) (by rw[hT1];exact Eh (Aa ha0))
   (hW0.chg hsb0 (by simp;omega) (by have:=Aa hW.c.box;simp;omega) fun i hi hi2=>by simp at hi2;have:=T5 hW.c i hi;omega) (by rw[hT1];exact htt0)
   ⟨by rw[hT1];simpa using hcc0.1,fun i hi hi2=>(hsb0.2 i (Mz hi hcc0.1) (by simp;omega)).trans (hcc0.2 i hi hi2)⟩
 refine P7 ?_;have hno2':=hno2 gt;have hl1:=Aa h1.a;have hbw1:=Aa h1.w.w;refine Cb 60 rfl ?_;refine Do ?_;refine Mm 1 (by decide) (Am (l:=[x,y]) rfl) ?_;refine Lq (b:=T1.boxes.length) rfl rfl ?_;refine Cc (b:=T1.boxes.length) (cs:=zN) (by simp) rfl ?_;obtain⟨U1,hU1⟩:∃U:St,U=⟨T1.boxes++[[Af y]],T1.toks⟩:=⟨_,rfl⟩
 refine Be U1 ?_ (by rw[hU1];exact congrArg (fun x=>St.mk x _) (by rw[Iw _ _ (Bo _),Ik];rfl));have hu1:U1.boxes[T1.boxes.length]?=some [Af y]:=by rw[hU1];simp
 refine Aw hu1 ?_;refine G3 (ihy U1 (h1.w.more (by rw[hU1]))) ?_;intro r W1 hP _ _;obtain⟨rfl,ht1,hc1,hW1⟩:=hP;refine Cb 60 rfl ?_;have hcc1:Chg [bw] S.boxes W1.boxes:=((h1.chg.trans (Chg.snoc [] T1.boxes [Af y])).trans (by rw[hU1]at hc1;exact hc1)).more fun i hi=>by simpa using hi
 have htt1:W1.toks=S.toks:=by rw[ht1,hU1];exact h1.toks
 refine F7 (fun g=>?_) (fun g=>?_)
 ·have g':¬t2=0:=by simpa using(show (t2 != 0)=true from g)
  rw[hno2' g'];exact Bc func187 (h:=rfl) ⟨_,rfl,rfl,htt1,hcc1,hW1⟩
 have gt2:t2=0:=by simpa using(show (t2 != 0)=false from g)
 have up1:∀{i:Nat} {y:List (List AV)},i≠bw→T1.boxes[i]?=some y→W1.boxes[i]?=some y:=fun{i y} hi h=>(hc1.2 i (by rw[hU1];simp;have:=Aa h;omega) (by simpa using hi)).trans (by rw[hU1,Cs (Aa h)];exact h);have ha1:=up1 h1.ne.2.symm h1.a;refine Hi (Acl (m:=2) (n:=1) (by decide) (by decide)) rfl rfl ?_;refine Cc ha1 rfl ?_;obtain⟨T2,hT2⟩:∃U:St,U=⟨W1.boxes.set (S.boxes.length+1) [[vi v,vi v2]],W1.toks⟩:=⟨_,rfl⟩
 refine Be T2 ?_ hT2.symm;have hsb1:Chg [S.boxes.length+1] W1.boxes T2.boxes:=by rw[hT2];exact⟨by simp,fun i _ hi=>Fq (fun h=>hi (by simp[h]))⟩
 have h2:VrS n bw bc V C ids c S T2 (.mk k s m [x,y]) S.boxes.length (S.boxes.length+1) v v2 d2:=
  h1.step (by rw[hT2,Fq (by omega)];exact up1 h1.ne.1.symm h1.e) (by rw[hT2];exact Eh (Aa ha1))
   (hW1.chg hsb1 (by simp;omega) (by have:=Aa hW.c.box;simp;omega) fun i hi hi2=>by simp at hi2;have:=T5 hW.c i hi;omega) (by rw[hT2];exact htt1)
   ⟨by rw[hT2];simpa using hcc1.1,fun i hi hi2=>(hsb1.2 i (Mz hi hcc1.1) (by simp;omega)).trans (hcc1.2 i hi hi2)⟩
 refine P7 ?_;refine Cb 60 rfl ?_;refine Ey (e:=false) 0 10 (fun h=>nomatch h) (fun _=>?_);exact Ts (G:=[(0,.ptr bw 0 0),(3,.ptr S.boxes.length 0 0),(6,.ptr (S.boxes.length+1) 0 0)]) ⟨rfl,rfl,rfl,trivial⟩ (h gt gt2 h2)
theorem Yy(hk:VOk n c){e:Nd}(h:FE e):Ff (Ax n 31) (Ax n 32) e=true→∀d,VrR n bw bc V C ids c e d (C9 n c e d):=by
 induction h with
 |num m h0 h1=>
  intro _ d;exact Auu 1 [] m d (m,0,d) (Ay2 m d)
 |var s h=>
  intro hn d;exact Auu 2 s 0 d _ (Ay4 hk s ((Wo hn).1 rfl) d)
 |cell s a h ha ih=>
  intro hn d;have hi:=ih (Ahv hn) d;rcases hv:C9 n c a d with⟨v,t,d1⟩
  rw[hv]at hi;rw[Agh hv];refine A0b 3 s 0 d a v t d1 _ hi (fun g=>if_neg g) (fun g=>?_);intro S T0 l1 l2 m' t' hl hS;rw[if_pos g];exact Aut hk s ((Wo hn).2 rfl) [a] v d1 hl hS
 |len s h=>
  intro hn d;exact Auu 4 s 0 d _ (Ayz hk s ((Wo hn).2 rfl) d)
 |neg a ha ih=>
  intro hn d;have hi:=ih (Ahv hn) d;rcases hv:C9 n c a d with⟨v,t,d1⟩
  rw[hv]at hi;rw[Agh hv];refine A0b 5 [] 0 d a v t d1 _ hi (fun g=>if_neg g) (fun g=>?_);intro S T0 l1 l2 m' t' _ hS;rw[if_pos g];exact Ay1 [a] v 0 d1 hS
 |two k a b hk' ha hb iha ihb=>
  intro hn d;obtain⟨n1,n2⟩:=Z7 hn;rcases hv:C9 n c a d with⟨v,t,d1⟩
  rcases hv2:C9 n c b d1 with⟨v2,t2,d2⟩
  have h1:=iha n1 d;have h2:=ihb n2 d1;rw[hv]at h1;rw[hv2]at h2;rw[Avo hv hv2];refine A4k k [] 0 d a b v t d1 v2 t2 d2 _ h1 h2 (fun g=>if_neg g) (fun g g2=>by rw[if_pos g,if_neg g2]) (fun g g2=>?_);intro S T0 l1 l2 m' t' hS;rw[if_pos g,if_pos g2];rcases hk' with rfl|rfl|rfl
  ·exact Ayy [a,b] v v2 d2 hS
  ·exact Ay3 [a,b] v v2 d2 hS
  ·exact Ay0 [a,b] v v2 d2 hS
end
theorem VOk.ok{n:Nd}{c:Cf}(h:VOk n c):CfOk c:=by
 have:=h.kl;have:=G9 n 31;have:=G9 n 32;exact⟨by rw[h.vars];omega,by rw[h.cells];omega,fun x hx=>by have:=h.rows x hx;omega⟩
theorem CfS.fzp{S:St}{bc:Nat}{V C:AV}{ids:List Nat}{c:Cf}(h:CfS S bc V C ids c)(hc:CfOk c):Fz S 0 0 (.ptr bc 0 0) (.cptr (G4 c)):=by
 obtain⟨cs,h1,h2,h3⟩:=h.cf.fzC hc;cases h1;exact .ptr bc 0 0 _ _ _ (B3 _) h.box rfl rfl fun j x y hx hy=>h3 j x y (by simpa using hx) hy
theorem Akd(n:Nd)(c:Cf)(hpts:(D6 (A9 n)).pts≤2000000):Pure X 118 [.cptr (Mh n),.cptr (G4 c)] (vb (I7 n c)):=by
 have hw:IntKind.i64.wrap ((((D6 (A9 n)).pts:Nat):Int)-1)=(((D6 (A9 n)).pts:Nat):Int)-1:=Ac (by omega) (by omega);have e0:I7 n c=((c.trap != 0)||((c.pt==IntKind.i64.wrap ((((D6 (A9 n)).pts:Nat):Int)-1))||(c.steps==5000))):=by rw[hw];rfl
 rw[e0];refine Pure.run func118 ?_;refine Hw 0 5 ?_;cases h1:(c.trap != 0)with
 |true=>
  refine Qb true ?_;refine M0 12 ?_;refine Qb true ?_;refine Fx ?_;refine B2 ?_;exact As func118 rfl
 |false=>
  refine Qb false ?_;refine M0 12 ?_;cases h2:(c.pt==IntKind.i64.wrap ((((D6 (A9 n)).pts:Nat):Int)-1))with
  |true=>
   refine Qb true ?_;refine Fx ?_;refine B2 ?_;exact As func118 rfl
  |false=>
   refine Qb false ?_;refine Fx ?_;refine B2 ?_;exact As func118 rfl
abbrev HR:=Bool×Int×Int
def Lg(n:Nd)(c:Cf)(x:Nd)(d:Int):HR:=match x.kids with
 |[a,b]=>
  if (C9 n c a d).2.1=0 then
   if (C9 n c b (C9 n c a d).2.2).2.1=0 then(Oz x.kind (C9 n c a d).1 (C9 n c b (C9 n c a d).2.2).1,0,(C9 n c b (C9 n c a d).2.2).2.2)
   else(false,(C9 n c b (C9 n c a d).2.2).2)
  else(false,(C9 n c a d).2)
 |_=>(false,0,d)
def HrP(n:Nd)(bw bc:Nat)(V C:AV)(ids:List Nat)(c:Cf)(S:St)(T:HR)(r:AV)(S':St):Prop:=r=.tup [vb T.1,vi T.2.1]∧S'.toks=S.toks∧Chg [bw] S.boxes S'.boxes∧WkS n S' bw bc V C ids c T.2.2
theorem Aow{n:Nd}{bw bc:Nat}{V C:AV}{ids:List Nat}{c:Cf}(hk:VOk n c){x:Nd}(hx:FC x)(hn:Ff (Ax n 31) (Ax n 32) x=true)(d:Int)(S:St)(hW:WkS n S bw bc V C ids c d) :
 Runs X 190 [.ptr bw 0 0,nd x] S (HrP n bw bc V C ids c S (Lg n c x d)):=by
 cases hx with
 |mk k a b h0 h1 ha hb=>
 obtain⟨n1,n2⟩:=Z7 hn;have ia:=Yy (bw:=bw) (bc:=bc) (V:=V) (C:=C) (ids:=ids) hk ha n1 d;have ib:=Yy (bw:=bw) (bc:=bc) (V:=V) (C:=C) (ids:=ids) hk hb n2 (C9 n c a d).2.2;simp only[Lg,Nd.kids,Nd.kind];rcases hv:C9 n c a d with⟨v,t,d1⟩
 rw[hv]at ia ib;simp only at ib⊢;rcases hv2:C9 n c b d1 with⟨v2,t2,d2⟩
 rw[hv2]at ib;simp only;refine Runs.run func190 ?_;refine Tr (b:=S.boxes.length) rfl rfl ?_;obtain⟨U,hU⟩:∃U:St,U=⟨S.boxes++[[Af (.mk k [] 0 [a,b])]],S.toks⟩:=⟨_,rfl⟩
 refine Be U ?_ hU.symm;have zE:U.boxes[S.boxes.length]?=some [Af (.mk k [] 0 [a,b])]:=by rw[hU];simp
 have hbw:=Aa hW.w;refine Aw zE ?_;refine Mm 0 (by decide) (Am (l:=[a,b]) rfl) ?_;refine G3 (ia U (hW.more (by rw[hU]))) ?_;intro r U1 hP _ _;obtain⟨rfl,ht1,hc1,hW1⟩:=hP;have zE1:=(hc1.2 _ (Aa zE) (by simp;omega)).trans zE;have hcc:Chg [bw] S.boxes U1.boxes:=((Chg.snoc [] S.boxes [Af (.mk k [] 0 [a,b])]).trans (by rw[hU]at hc1;exact hc1)).more fun i hi=>by simpa using hi
 have htt:U1.toks=S.toks:=by rw[ht1,hU]
 refine Cb 60 rfl ?_;refine F7 (fun g=>?_) (fun g=>?_)
 ·have g':¬t=0:=by simpa using(show (t != 0)=true from g)
  rw[if_neg g'];exact Bc func190 (h:=rfl) ⟨_,rfl,rfl,htt,hcc,hW1⟩
 have gt:t=0:=by simpa using(show (t != 0)=false from g)
 rw[if_pos gt];refine Aw zE1 ?_;refine Mm 1 (by decide) (Am (l:=[a,b]) rfl) ?_;refine G3 (ib U1 hW1) ?_;intro r U2 hP _ _;obtain⟨rfl,ht2,hc2,hW2⟩:=hP;have zE2:=(hc2.2 _ (Aa zE1) (by simp;omega)).trans zE1;have hcc2:Chg [bw] S.boxes U2.boxes:=(hcc.trans hc2).more fun i hi=>by simpa using hi
 have htt2:U2.toks=S.toks:=ht2.trans htt;refine Cb 60 rfl ?_;refine F7 (fun g2=>?_) (fun g2=>?_)
 ·have g':¬t2=0:=by simpa using(show (t2 != 0)=true from g2)
  rw[if_neg g'];exact Bc func190 (h:=rfl) ⟨_,rfl,rfl,htt2,hcc2,hW2⟩
 have gt2:t2=0:=by simpa using(show (t2 != 0)=false from g2)
 rw[if_pos gt2];refine Hi Ak8 rfl rfl ?_;refine Cb 60 rfl ?_;refine Aw zE2 ?_;have hw:IntKind.i64.wrap (k-11)=k-11:=Ac (by omega) (by omega);have hr:[vb (decide (v<v2)),vb (decide (v≤v2)),vb (decide (v>v2)),vb (decide (v≥v2)),vb (v==v2),vb (v != v2)][(IntKind.i64.wrap (k-11)).toNat]?=some (vb (Oz k v v2)):=by
  rw[hw];have:k=11∨k=12∨k=13∨k=14∨k=15∨k=16:=by omega
  rcases this with rfl|rfl|rfl|rfl|rfl|rfl<;>rfl
 refine Hi (W4 rfl rfl rfl rfl rfl rfl rfl rfl rfl (show 0≤IntKind.i64.wrap (k-11) by rw[hw];omega) (show IntKind.i64.wrap (k-11)<((6:Nat):Int) by rw[hw];omega) hr) rfl rfl ?_;refine Cb 60 rfl ?_;exact Bc func190 (h:=rfl) ⟨_,rfl,rfl,htt2,hcc2,hW2⟩
theorem Azt(l:List Int)(i:Nat)(v:Int):(Fe l).set i [vi v]=Fe (l.set i v):=by simp[Fe,Zc]
theorem Awv(l:List (Bool×Int))(i:Nat)(v:Bool×Int):(I9 l).set i (Nv v)=I9 (l.set i v):=by simp[I9,Zc]
theorem Cw(bx:List (List (List AV)))(b:Nat)(rows:List (List AV)):Chg [b] bx (bx.set b rows):=⟨by simp,fun i _ hi=>Fq (fun h=>hi (by simp[h]))⟩
section
variable {S:St}{bc:Nat}{V C:AV}{ids:List Nat}{c:Cf}
theorem CfS.upd(h:CfS S bc V C ids c){c':Cf}(hv:c'.vars=c.vars)(hc:c'.cells=c.cells):CfS ⟨S.boxes.set bc [Ef c' V C],S.toks⟩ bc V C ids c':=by
 obtain⟨V',C',ys,h1,h2,h3,h4,h5,h6,h7⟩:=(h.cf.chg (Cw S.boxes bc [Ef c' V C]) fun i hi hi2=>by simp at hi2;subst hi2;exact h.ne hi).ex;simp only[AV.agg.injEq,List.cons.injEq,and_true,true_and]at h1;obtain⟨rfl,rfl⟩:=h1;exact⟨Eh (Aa h.box),⟨V,C,ys,rfl,h2,h3,by rw[hv];exact h4,h5,by rw[hc];exact h6,by rw[hc];exact h7⟩,h.ne⟩
theorem CfS.wrV(h:CfS S bc V C ids c){i b:Nat}{ex:List (List AV)}(v:Int)(hi:i<c.vars.length)(hV:V=.bsl b c.vars.length)(hb:S.boxes[b]?=some (Fe c.vars++ex)) :
 CfS ⟨S.boxes.set b ((Fe c.vars++ex).set i [vi v]),S.toks⟩ bc V C ids { c with vars:=c.vars.set i v }∧Chg ids S.boxes (S.boxes.set b ((Fe c.vars++ex).set i [vi v])):=by
 obtain⟨V',C',ys,h1,h2,h3,h4,h5,h6,h7⟩:=h.cf.ex;simp only[AV.agg.injEq,List.cons.injEq,and_true,true_and]at h1;obtain⟨rfl,rfl⟩:=h1;subst hV;have hbi:b∈ids:=by rw[h2];simp[Jo]
 have hnd:=h3;rw[h2]at hnd;obtain⟨_,_,hd⟩:=zzq108.1 hnd;have hne:∀j,j∈Jo C++ys.flatMap Jo→j∉[b]:=fun j hj hj2=>by simp at hj2;subst hj2;exact hd j (by simp[Jo]) j hj rfl
 have hch:=Cw S.boxes b ((Fe c.vars++ex).set i [vi v]);have hbne:b≠bc:=fun e=>h.ne (e▸hbi);refine⟨⟨by rw[Fq hbne];exact h.box,⟨_,C,ys,rfl,h2,h3,.inl ⟨b,ex,by rw[D9,Agm],?_⟩,h5.chg hch fun j hj=>hne j (List.mem_append_left _ hj),h6,fun j y l hy hl=>(h7 j y l hy hl).chg hch fun k hk=>hne k (Abq _ (zzq106.2 ⟨y,Bh hy,hk⟩))⟩,h.ne⟩,hch.more fun j hj=>by simp at hj;subst hj;exact hbi⟩;rw[Eh (Aa hb),List.set_append_left _ _ (by rw[D9];exact hi),Azt]
theorem CfS.wrC(h:CfS S bc V C ids c){i j b b2:Nat}{ys:List AV}{ex ex2:List (List AV)}{r:List (Bool×Int)}(v:Int)(hr:c.cells[i]?=some r)(hj:j<r.length)(hC:C=.bsl b c.cells.length)(hyl:ys.length=c.cells.length)(hb:S.boxes[b]?=some (ys.map (fun y=>[y])++ex))(hy:ys[i]?=some (.bsl b2 r.length))(hb2:S.boxes[b2]?=some (I9 r++ex2)) :
 b2∈ids∧CfS ⟨S.boxes.set b2 ((I9 r++ex2).set j [vb true,vi v]),S.toks⟩ bc V C ids { c with cells:=c.cells.set i (r.set j (true,v)) }∧Chg ids S.boxes (S.boxes.set b2 ((I9 r++ex2).set j [vb true,vi v])):=by
 obtain⟨V',C',zs,h1,h2,h3,h4,h5,h6,h7⟩:=h.cf.ex;simp only[AV.agg.injEq,List.cons.injEq,and_true,true_and]at h1;obtain⟨rfl,rfl⟩:=h1;subst hC;have hz:zs=ys:=by
  rcases h5 with⟨b',ex',e1,hb'⟩|⟨_,sp,e1⟩
  ·simp only[AV.bsl.injEq]at e1;obtain⟨rfl,e2⟩:=e1;rw[hb]at hb';have e3:=Option.some.inj hb';have e4:=(List.append_inj e3 (by simp[h6,hyl])).1;have:∀{a b:List AV},a.map (fun y=>[y])=b.map (fun y=>[y])→b=a:=fun{a}=>by
    induction a with
    |nil=>intro b h;cases b with
     |nil=>rfl
     |cons y b=>simp at h
    |cons x a ih=>intro b h;cases b with
     |nil=>simp at h
     |cons y b=>simp only[N0,List.cons.injEq,and_true]at h;rw[h.1,ih h.2]
   exact this e4
  ·cases e1
 subst hz;have hbm:b2∈zs.flatMap Jo:=zzq106.2 ⟨_,Bh hy,by simp[Jo]⟩;have hbi:b2∈ids:=by rw[h2];exact Abq _ (Abq _ hbm)
 have hnd:=h3;rw[h2]at hnd;obtain⟨_,nd2,hd⟩:=zzq108.1 hnd;obtain⟨_,nd3,hd2⟩:=zzq108.1 nd2;have hch:=Cw S.boxes b2 ((I9 r++ex2).set j [vb true,vi v]);have hbne:b2≠bc:=fun e=>h.ne (e▸hbi);refine⟨hbi,⟨by rw[Fq hbne];exact h.box,⟨V,_,zs,rfl,h2,h3,h4.chg hch fun k hk hk2=>?_,h5.chg hch fun k hk hk2=>?_,by simpa using h6,fun k y l hy' hl=>?_⟩,h.ne⟩,hch.more fun k hk=>by simp at hk;subst hk;exact hbi⟩
 ·simp at hk2;subst hk2;exact hd k hk k (Abq _ hbm) rfl
 ·simp at hk2;subst hk2;exact hd2 k hk k hbm rfl
 ·rcases Eu hl with⟨rfl,rfl⟩|⟨hne,hl⟩
  ·rw[hy]at hy';cases hy';refine .inl ⟨b2,ex2,by rw[G5,Agm],?_⟩;rw[Eh (Aa hb2),List.set_append_left _ _ (by rw[G5];exact hj)];congr 2;exact Awv r j (true,v)
  ·refine(h7 k y l hy' hl).chg hch fun q hq hq2=>?_;simp at hq2;subst hq2;exact Aof nd3 (Ne.symm hne) hy hy' (by simp[Jo]) hq
end
theorem Ahq{l:List Nat}{i m:Nat}(h:l[i]?=some m):(Uh l)[i]?=some [vi m]:=by simp[Uh,h]
theorem Ayp(n:Nd){p i j:Nat}{e:Eg}(hp:p<(D6 (A9 n)).pts)(he:(Lx (A9 n))[i]?=some e)(hf:e.f=(p:Int))(hl:L3 Eg.f (Lx (A9 n)) p=[i,j])(hij:i<j):Pure X 191 [.cptr (Mh n),vi i] (vi j):=by
 obtain⟨f,t,k,y,x⟩:=e;simp only at hf;subst hf;have hrow:=Ajn Eg.f (Lx (A9 n)) hp;rw[hl]at hrow;refine Pure.run func191 ?_;refine D8 0 ?_;refine Db i (by omega) (Gm he) ?_;refine Db p (by omega) hrow ?_;refine B2 ?_;refine N1 ?_;refine Bi 100 rfl ?_;refine A0 ?_;refine B4 0 (by decide) (Ahq (l:=[i,j]) (i:=0) rfl) ?_;refine Ag ?_ (ht:=by simp);refine P7 ?_;refine Bi 100 rfl ?_;refine A0 ?_;refine B4 1 (by decide) (Ahq (l:=[i,j]) (i:=1) rfl) ?_;refine A0 ?_ (ht:=by simp;omega);exact As func191 rfl
def DoP(n:Nd)(bw bc:Nat)(V C:AV)(ids:List Nat)(S:St)(i j:Nat)(q:DR)(r:AV)(S':St):Prop:=
 r=.tup [vi (if q.2.2.2=true then i else j:Nat),vi q.2.1]∧S'.toks=S.toks∧Chg (bw::bc::ids) S.boxes S'.boxes∧∃d',WkS n S' bw bc V C ids q.1 d'∧(q.2.1≠0→q.2.1≠4→q.2.1≠5→d'=q.2.2.1)
abbrev zEg:List AV:=[vi 0,vi 0,vi 0,vb false,vi 0,str [],vi 0,.sl [] .tight]
theorem Chg.up{a b:List Nat}{bx bx' bx'':List (List (List AV))}(h:Chg a bx bx')(h':Chg b bx' bx'')(hb:∀i,i∈b→i∈a):Chg a bx bx'':=(h.trans h').more fun i hi=>by
 rcases zzq45.1 hi with h|h
 ·exact h
 ·exact hb i h
section
variable {n:Nd}{bw bc:Nat}{V C:AV}{ids:List Nat}{c:Cf}
abbrev DoR(n:Nd)(bw bc:Nat)(V C:AV)(ids:List Nat)(c:Cf)(inp:List Int)(i j:Nat)(q:DR):Prop:=
 ∀S:St,WkS n S bw bc V C ids c 0→Runs X 137 [.ptr bw 0 0,vi i,.sl (Fe inp) .no] S (DoP n bw bc V C ids S i j q)
theorem Afz{i j:Nat}{inp:List Int}{f t k:Int}{y:Bool}{x:Nd}(hk':k=6∨k=7)(he:(Lx (A9 n))[i]?=some ⟨f,t,k,y,x⟩):DoR n bw bc V C ids c inp i j (c,0,0,true):=by
 rcases hk' with rfl|rfl
 ·skip
  intro S hW;have hbw:=Aa hW.w;have hbc:=Aa hW.c.box;have hid:=T5 hW.c;have zw:=hW.w;have gx:∀{i:Nat} {y:List (List AV)} {more:List (List (List AV))},S.boxes[i]?=some y→(S.boxes++more)[i]?=some y:=fun{i y more} h=>by rw[Cs (Aa h)];exact h
  have new:∀y:List (List AV),(S.boxes++[y])[S.boxes.length]?=some y:=fun y=>by simp
  have keep:∀r:List (List AV),((S.boxes++[[zEg]]).set S.boxes.length r)[bw]?=some [wkp n bc 0]:=fun r=>by rw[Fq (by omega)];exact gx zw
  refine Runs.run func137 ?_;refine De 98304 (by kernel_rfl) ?_
  iterate 3 refine Av ?_
  refine A2 (Aq zw) ?_
  iterate 5 refine Av ?_
  refine Eo (fun S'=>Cu rfl rfl rfl rfl rfl rfl rfl rfl rfl (by omega) (Gm he)) ?_
  iterate 4 refine Av ?_
  refine A2 (Aq zw) ?_;refine Dz (Pi rfl rfl) (An (Aq (gx zw)) (An (Aq (gx zw)) Gy)) ?_;refine Dz (J1 (r:=0) (cs:=zEg) (new _) rfl rfl) ?_ ?_
  ·intro p hp;replace hp:=(zzq56.1 hp).1;revert p;exact An (Aq (keep _)) (An (Aq (keep _)) Gy)
  refine Av ?_;refine Gt ?_;obtain⟨T,hT⟩:∃T:St,T=⟨S.boxes++[[H5 (⟨f,t,6,y,x⟩)]],S.toks⟩:=⟨_,rfl⟩
  refine Be T ?_ (by rw[hT];exact congrArg (fun x=>St.mk x _) (by rw[Iw _ _ (Bo _),Ik];rfl));have zE:T.boxes[S.boxes.length]?=some [H5 (⟨f,t,6,y,x⟩)]:=by rw[hT];simp
  have hWT:WkS n T bw bc V C ids c 0:=hW.more (by rw[hT]);have hcT:Chg (bw::bc::ids) S.boxes T.boxes:=by rw[hT];exact Chg.snoc _ _ _
  have htT:T.toks=S.toks:=by rw[hT]
  refine Aw zE ?_
  iterate 3 refine Cq ?_
  refine Cq ?_;refine Cq ?_;exact Bc func137 (h:=rfl) ⟨_,rfl,rfl,htT,hcT,0,hWT,fun h=>absurd rfl h⟩
 ·skip
  intro S hW;have hbw:=Aa hW.w;have hbc:=Aa hW.c.box;have hid:=T5 hW.c;have zw:=hW.w;have gx:∀{i:Nat} {y:List (List AV)} {more:List (List (List AV))},S.boxes[i]?=some y→(S.boxes++more)[i]?=some y:=fun{i y more} h=>by rw[Cs (Aa h)];exact h
  have new:∀y:List (List AV),(S.boxes++[y])[S.boxes.length]?=some y:=fun y=>by simp
  have keep:∀r:List (List AV),((S.boxes++[[zEg]]).set S.boxes.length r)[bw]?=some [wkp n bc 0]:=fun r=>by rw[Fq (by omega)];exact gx zw
  refine Runs.run func137 ?_;refine De 98304 (by kernel_rfl) ?_
  iterate 3 refine Av ?_
  refine A2 (Aq zw) ?_
  iterate 5 refine Av ?_
  refine Eo (fun S'=>Cu rfl rfl rfl rfl rfl rfl rfl rfl rfl (by omega) (Gm he)) ?_
  iterate 4 refine Av ?_
  refine A2 (Aq zw) ?_;refine Dz (Pi rfl rfl) (An (Aq (gx zw)) (An (Aq (gx zw)) Gy)) ?_;refine Dz (J1 (r:=0) (cs:=zEg) (new _) rfl rfl) ?_ ?_
  ·intro p hp;replace hp:=(zzq56.1 hp).1;revert p;exact An (Aq (keep _)) (An (Aq (keep _)) Gy)
  refine Av ?_;refine Gt ?_;obtain⟨T,hT⟩:∃T:St,T=⟨S.boxes++[[H5 (⟨f,t,7,y,x⟩)]],S.toks⟩:=⟨_,rfl⟩
  refine Be T ?_ (by rw[hT];exact congrArg (fun x=>St.mk x _) (by rw[Iw _ _ (Bo _),Ik];rfl));have zE:T.boxes[S.boxes.length]?=some [H5 (⟨f,t,7,y,x⟩)]:=by rw[hT];simp
  have hWT:WkS n T bw bc V C ids c 0:=hW.more (by rw[hT]);have hcT:Chg (bw::bc::ids) S.boxes T.boxes:=by rw[hT];exact Chg.snoc _ _ _
  have htT:T.toks=S.toks:=by rw[hT]
  refine Aw zE ?_
  iterate 3 refine Cq ?_
  refine Cq ?_;refine Cq ?_;exact Bc func137 (h:=rfl) ⟨_,rfl,rfl,htT,hcT,0,hWT,fun h=>absurd rfl h⟩
theorem Aus(hk:VOk n c){i j:Nat}{inp:List Int}{f t:Int}{y:Bool}{s:List UInt8}{a:Nd}(he:(Lx (A9 n))[i]?=some ⟨f,t,1,y,.mk 21 s 0 [a]⟩)(hs:E6 0 (Ax n 31) s≥0)(ha:FE a)(ka:Ff (Ax n 31) (Ax n 32) a=true) :
 DoR n bw bc V C ids c inp i j (Rz n inp c 1 y (.mk 21 s 0 [a])):=by
 obtain⟨iv,v0,h1,h2,_⟩:=hk.var hs;have kl:=hk.kl;have hq:=Xk n s (by omega);rw[h1]at hq;have hiv:=Aa h2;have ia:=Yy (bw:=bw) (bc:=bc) (V:=V) (C:=C) (ids:=ids) hk ha ka 0;have e0:Rz n inp c 1 y (.mk 21 s 0 [a])=if (C9 n c a 0).2.1=0 then(Wk n c s (C9 n c a 0).1,0,(C9 n c a 0).2.2,true)else(c,(C9 n c a 0).2.1,(C9 n c a 0).2.2,true):=rfl;rw[e0];rcases hv:C9 n c a 0 with⟨v,tt,d1⟩
 rw[hv]at ia;simp only;intro S hW;have hbw:=Aa hW.w;have hbc:=Aa hW.c.box;have hid:=T5 hW.c;have zw:=hW.w;have gx:∀{i:Nat} {y:List (List AV)} {more:List (List (List AV))},S.boxes[i]?=some y→(S.boxes++more)[i]?=some y:=fun{i y more} h=>by rw[Cs (Aa h)];exact h
 have new:∀y:List (List AV),(S.boxes++[y])[S.boxes.length]?=some y:=fun y=>by simp
 have keep:∀r:List (List AV),((S.boxes++[[zEg]]).set S.boxes.length r)[bw]?=some [wkp n bc 0]:=fun r=>by rw[Fq (by omega)];exact gx zw
 refine Runs.run func137 ?_;refine De 98304 (by kernel_rfl) ?_
 iterate 3 refine Av ?_
 refine A2 (Aq zw) ?_
 iterate 5 refine Av ?_
 refine Eo (fun S'=>Cu rfl rfl rfl rfl rfl rfl rfl rfl rfl (by omega) (Gm he)) ?_
 iterate 4 refine Av ?_
 refine A2 (Aq zw) ?_;refine Dz (Pi rfl rfl) (An (Aq (gx zw)) (An (Aq (gx zw)) Gy)) ?_;refine Dz (J1 (r:=0) (cs:=zEg) (new _) rfl rfl) ?_ ?_
 ·intro p hp;replace hp:=(zzq56.1 hp).1;revert p;exact An (Aq (keep _)) (An (Aq (keep _)) Gy)
 refine Av ?_;refine Gt ?_;obtain⟨T,hT⟩:∃T:St,T=⟨S.boxes++[[H5 (⟨f,t,1,y,.mk 21 s 0 [a]⟩)]],S.toks⟩:=⟨_,rfl⟩
 refine Be T ?_ (by rw[hT];exact congrArg (fun x=>St.mk x _) (by rw[Iw _ _ (Bo _),Ik];rfl));have zE:T.boxes[S.boxes.length]?=some [H5 (⟨f,t,1,y,.mk 21 s 0 [a]⟩)]:=by rw[hT];simp
 have hWT:WkS n T bw bc V C ids c 0:=hW.more (by rw[hT]);have hcT:Chg (bw::bc::ids) S.boxes T.boxes:=by rw[hT];exact Chg.snoc _ _ _
 have htT:T.toks=S.toks:=by rw[hT]
 refine Aw zE ?_;refine Do ?_;refine Aw zE ?_;refine Mm 0 (by decide) (Am (l:=[a]) rfl) ?_;refine G3 (ia T hWT) ?_;intro r U hP _ _;obtain⟨rfl,htU,hcU,hWU⟩:=hP;have zE2:=(hcU.2 _ (Aa zE) (by simp;omega)).trans zE;have hcSU:Chg (bw::bc::ids) S.boxes U.boxes:=hcT.up hcU fun i hi=>by simp at hi;simp[hi]
 have htSU:=htU.trans htT;refine Cb 60 rfl ?_;refine F7 (fun g=>?_) (fun g=>?_)
 ·have gt:tt=0:=by simpa using(show (tt==0)=true from g)
  subst gt;rw[if_pos rfl];obtain⟨bv,ex,hV,hb,hrow⟩:=hWU.c.vars h2;have hwr:=hWU.c.wrV v hiv hV hb;subst hV;refine De 16384 (by kernel_rfl) ?_
  iterate 3 refine Av ?_
  refine A2 (Aq hWU.c.box) ?_
  iterate 3 refine Av ?_
  refine A2 (Aq hWU.w) ?_
  iterate 2 refine Av ?_
  refine A2 (Aq zE2) ?_;refine Js hq ?_;refine Av ?_;refine A2 (Gd (hj:=by simpa[Fw]using hiv) (hb:=hb) (hr:=hrow) (hl:=rfl)) ?_;refine Ch (J1 hb hrow rfl) ?_;refine Gt ?_;have hne:bw≠bv:=fun h=>hWU.ne.2 (by obtain⟨V',C',ys,q1,q2,_⟩:=hWU.c.cf.ex;simp only[AV.agg.injEq,List.cons.injEq,and_true,true_and]at q1;obtain⟨rfl,_⟩:=q1;rw[q2];simp[Jo,h]);refine Bc func137 (h:=rfl) ⟨_,rfl,rfl,htSU,hcSU.up hwr.2 fun i hi=>by simp[hi],d1,⟨by rw[Fq hne.symm];exact hWU.w,?_,hWU.ne⟩,fun h=>absurd rfl h⟩;have:=hwr.1;unfold Wk;rw[h1,Hl];exact this
 ·have gt:¬tt=0:=by simpa using(show (tt==0)=false from g)
  rw[if_neg gt];exact Bc func137 (h:=rfl) ⟨_,rfl,rfl,htSU,hcSU,d1,hWU,fun _ _ _=>rfl⟩
theorem Aur(hk:VOk n c){i j:Nat}{inp:List Int}{f t:Int}{y:Bool}{s:List UInt8}{a b:Nd}(he:(Lx (A9 n))[i]?=some ⟨f,t,2,y,.mk 22 s 0 [a,b]⟩)(hs:E6 0 (Ax n 32) s≥0)(ha:FE a)(ka:Ff (Ax n 31) (Ax n 32) a=true)(hb':FE b)(kb:Ff (Ax n 31) (Ax n 32) b=true) :
 DoR n bw bc V C ids c inp i j (Rz n inp c 2 y (.mk 22 s 0 [a,b])):=by
 obtain⟨iv,r,h1,h2,h3,h4⟩:=hk.row hs;have kl:=hk.kl;have hq:=Aia n s (by omega);rw[h1]at hq;have hiv:=Aa h2;have ia:=Yy (bw:=bw) (bc:=bc) (V:=V) (C:=C) (ids:=ids) hk ha ka 0;have ib:=Yy (bw:=bw) (bc:=bc) (V:=V) (C:=C) (ids:=ids) hk hb' kb (C9 n c a 0).2.2;have e0:Rz n inp c 2 y (.mk 22 s 0 [a,b])=Nx n c [a,b] fun i v d=>if Bl i 0 (((Xn n c s).length:Int)-1)=true then(Aij n c s i v,0,d,true)else(c,1,d,true):=rfl;rw[e0];unfold Nx;simp only;rcases hv:C9 n c a 0 with⟨v,tt,d1⟩
 rw[hv]at ia ib;simp only at ib⊢;rcases hv2:C9 n c b d1 with⟨v2,t2,d2⟩
 rw[hv2]at ib;simp only;intro S hW;have hbw:=Aa hW.w;have hbc:=Aa hW.c.box;have hid:=T5 hW.c;have zw:=hW.w;have gx:∀{i:Nat} {y:List (List AV)} {more:List (List (List AV))},S.boxes[i]?=some y→(S.boxes++more)[i]?=some y:=fun{i y more} h=>by rw[Cs (Aa h)];exact h
 have new:∀y:List (List AV),(S.boxes++[y])[S.boxes.length]?=some y:=fun y=>by simp
 have keep:∀r:List (List AV),((S.boxes++[[zEg]]).set S.boxes.length r)[bw]?=some [wkp n bc 0]:=fun r=>by rw[Fq (by omega)];exact gx zw
 refine Runs.run func137 ?_;refine De 98304 (by kernel_rfl) ?_
 iterate 3 refine Av ?_
 refine A2 (Aq zw) ?_
 iterate 5 refine Av ?_
 refine Eo (fun S'=>Cu rfl rfl rfl rfl rfl rfl rfl rfl rfl (by omega) (Gm he)) ?_
 iterate 4 refine Av ?_
 refine A2 (Aq zw) ?_;refine Dz (Pi rfl rfl) (An (Aq (gx zw)) (An (Aq (gx zw)) Gy)) ?_;refine Dz (J1 (r:=0) (cs:=zEg) (new _) rfl rfl) ?_ ?_
 ·intro p hp;replace hp:=(zzq56.1 hp).1;revert p;exact An (Aq (keep _)) (An (Aq (keep _)) Gy)
 refine Av ?_;refine Gt ?_;obtain⟨T,hT⟩:∃T:St,T=⟨S.boxes++[[H5 (⟨f,t,2,y,.mk 22 s 0 [a,b]⟩)]],S.toks⟩:=⟨_,rfl⟩
 refine Be T ?_ (by rw[hT];exact congrArg (fun x=>St.mk x _) (by rw[Iw _ _ (Bo _),Ik];rfl));have zE:T.boxes[S.boxes.length]?=some [H5 (⟨f,t,2,y,.mk 22 s 0 [a,b]⟩)]:=by rw[hT];simp
 have hWT:WkS n T bw bc V C ids c 0:=hW.more (by rw[hT]);have hcT:Chg (bw::bc::ids) S.boxes T.boxes:=by rw[hT];exact Chg.snoc _ _ _
 have htT:T.toks=S.toks:=by rw[hT]
 refine Aw zE ?_;refine Cq ?_;refine Do ?_;refine Aw zE ?_;refine Mm 0 (by decide) (Am (l:=[a,b]) rfl) ?_;refine G3 (ia T hWT) ?_;intro r0 U hP _ _;obtain⟨rfl,htU,hcU,hWU⟩:=hP;have zE2:=(hcU.2 _ (Aa zE) (by simp;omega)).trans zE;have hcSU:Chg (bw::bc::ids) S.boxes U.boxes:=hcT.up hcU fun i hi=>by simp at hi;simp[hi]
 have htSU:=htU.trans htT;refine Cb 60 rfl ?_;refine F7 (fun g=>?_) (fun g=>?_)
 ·have gt:¬tt=0:=by simpa using(show (tt != 0)=true from g)
  rw[if_neg gt];exact Bc func137 (h:=rfl) ⟨_,rfl,rfl,htSU,hcSU,d1,hWU,fun _ _ _=>rfl⟩
 have gt:tt=0:=by simpa using(show (tt != 0)=false from g)
 rw[if_pos gt];refine Aw zE2 ?_;refine Mm 1 (by decide) (Am (l:=[a,b]) rfl) ?_;refine G3 (ib U hWU) ?_;intro r0 W hP _ _;obtain⟨rfl,htW,hcW,hWW⟩:=hP;have zE3:=(hcW.2 _ (Aa zE2) (by simp;omega)).trans zE2;have hcSW:Chg (bw::bc::ids) S.boxes W.boxes:=hcSU.up hcW fun i hi=>by simp at hi;simp[hi]
 have htSW:=htW.trans htSU;refine Cb 60 rfl ?_;refine F7 (fun g2=>?_) (fun g2=>?_)
 ·have gt2:¬t2=0:=by simpa using(show (t2 != 0)=true from g2)
  rw[if_neg gt2];exact Bc func137 (h:=rfl) ⟨_,rfl,rfl,htSW,hcSW,d2,hWW,fun _ _ _=>rfl⟩
 have gt2:t2=0:=by simpa using(show (t2 != 0)=false from g2)
 rw[if_pos gt2];refine De 0 (by kernel_rfl) ?_
 iterate 3 refine Av ?_
 refine A2 (Aq hWW.w) ?_
 iterate 2 refine Av ?_
 refine A2 (Aq zE3) ?_;refine Js hq ?_;refine Av ?_;refine Gt ?_;refine G3 (Aox n hWW h2 h4 v) ?_;intro r0 W' hP _ _;obtain⟨rfl,rfl⟩:=hP;refine Cb 60 rfl ?_;rw[h3];cases hbt:Bl v 0 ((r.length:Int)-1)with
 |false=>
  rw[if_neg (by decide),if_neg (by decide)];refine Do ?_;exact Bc func137 (h:=rfl) ⟨_,rfl,rfl,htSW,hcSW,d2,hWW,fun _ _ _=>rfl⟩
 |true=>
  rw[if_pos rfl,if_pos rfl];have hb1:=Cn.1 hbt;obtain⟨jj,rfl⟩:∃jj:Nat,v=jj:=⟨v.toNat,by omega⟩
  obtain⟨bb,ys,ex,yy,hC,hyl,hb,hyy,hrow,hsl⟩:=hWW.c.row h2;have hjl:jj<r.length:=by omega
  rcases hsl with⟨b2,ex2,rfl,hb2⟩|⟨hemp,sp,rfl⟩
  ·rw[G5]at hyy hrow;obtain⟨z,hz⟩:=Ab r hjl;have hrow2:(I9 r++ex2)[jj]?=some (Nv z):=by rw[Cs (by rw[G5];exact hjl)];exact Ev (f:=Nv) hz
   obtain⟨hbid,hwr⟩:=hWW.c.wrC v2 h2 hjl hC hyl hb hyy hb2;subst hC;refine Cq ?_;refine Aw hWW.c.box ?_;refine Jr iv hiv hb hrow rfl ?_;refine Hc hb hrow ?_;refine Jr jj hjl hb2 hrow2 rfl ?_;refine Mn hb2 hrow2 rfl ?_;have hne:bw≠b2:=fun h=>hWW.ne.2 (h▸hbid);refine Bc func137 (h:=rfl) ⟨_,rfl,rfl,htSW,hcSW.up hwr.2 fun i hi=>by simp[hi],d2,⟨by rw[Fq hne.symm];exact hWW.w,?_,hWW.ne⟩,fun h=>absurd rfl h⟩;have:=hwr.1;unfold Aij;rw[h1,h3,Hl,Hl];exact this
  ·have h0:r=[]:=by cases r with|nil=>rfl|cons a l=>simp[I9]at hemp
   subst h0;simp at hjl
theorem Aq3(hk:VOk n c){i j:Nat}{inp:List Int}(hu:0≤c.used∧c.used≤100){f t:Int}{y:Bool}{s:List UInt8}(he:(Lx (A9 n))[i]?=some ⟨f,t,3,y,.mk 23 s 0 []⟩)(hs:E6 0 (Ax n 31) s≥0) :
 DoR n bw bc V C ids c inp i j (Rz n inp c 3 y (.mk 23 s 0 [])):=by
 obtain⟨iv,v0,h1,h2,_⟩:=hk.var hs;have kl:=hk.kl;have hq:=Xk n s (by omega);rw[h1]at hq;have hiv:=Aa h2;have hil:=D9 inp;have e0:Rz n inp c 3 y (.mk 23 s 0 [])=if (inp.length:Int)≤c.used then(c,5,0,true)else({ Wk n c s (inp.getD c.used.toNat 0)with used:=c.used+1 },0,0,true):=rfl;rw[e0];intro S hW;have hbw:=Aa hW.w;have hbc:=Aa hW.c.box;have hid:=T5 hW.c;have zw:=hW.w;have gx:∀{i:Nat} {y:List (List AV)} {more:List (List (List AV))},S.boxes[i]?=some y→(S.boxes++more)[i]?=some y:=fun{i y more} h=>by rw[Cs (Aa h)];exact h
 have new:∀y:List (List AV),(S.boxes++[y])[S.boxes.length]?=some y:=fun y=>by simp
 have keep:∀r:List (List AV),((S.boxes++[[zEg]]).set S.boxes.length r)[bw]?=some [wkp n bc 0]:=fun r=>by rw[Fq (by omega)];exact gx zw
 refine Runs.run func137 ?_;refine De 98304 (by kernel_rfl) ?_
 iterate 3 refine Av ?_
 refine A2 (Aq zw) ?_
 iterate 5 refine Av ?_
 refine Eo (fun S'=>Cu rfl rfl rfl rfl rfl rfl rfl rfl rfl (by omega) (Gm he)) ?_
 iterate 4 refine Av ?_
 refine A2 (Aq zw) ?_;refine Dz (Pi rfl rfl) (An (Aq (gx zw)) (An (Aq (gx zw)) Gy)) ?_;refine Dz (J1 (r:=0) (cs:=zEg) (new _) rfl rfl) ?_ ?_
 ·intro p hp;replace hp:=(zzq56.1 hp).1;revert p;exact An (Aq (keep _)) (An (Aq (keep _)) Gy)
 refine Av ?_;refine Gt ?_;obtain⟨T,hT⟩:∃T:St,T=⟨S.boxes++[[H5 (⟨f,t,3,y,.mk 23 s 0 []⟩)]],S.toks⟩:=⟨_,rfl⟩
 refine Be T ?_ (by rw[hT];exact congrArg (fun x=>St.mk x _) (by rw[Iw _ _ (Bo _),Ik];rfl));have zE:T.boxes[S.boxes.length]?=some [H5 (⟨f,t,3,y,.mk 23 s 0 []⟩)]:=by rw[hT];simp
 have hWT:WkS n T bw bc V C ids c 0:=hW.more (by rw[hT]);have hcT:Chg (bw::bc::ids) S.boxes T.boxes:=by rw[hT];exact Chg.snoc _ _ _
 have htT:T.toks=S.toks:=by rw[hT]
 refine Aw zE ?_;refine Cq ?_;refine Cq ?_;refine Do ?_;refine Aw hWT.c.box ?_;refine F7 (fun g=>?_) (fun g=>?_)
 ·have g':(inp.length:Int)≤c.used:=by have:=A5 g;rw[hil]at this;exact this
  rw[if_pos g'];exact Bc func137 (h:=rfl) ⟨_,rfl,rfl,htT,hcT,0,hWT,fun _ _ h=>absurd rfl h⟩
 ·have g':¬(inp.length:Int)≤c.used:=by have:=Ba g;rw[hil]at this;exact this
  rw[if_neg g'];obtain⟨un,hun⟩:∃un:Nat,c.used=un:=⟨c.used.toNat,by omega⟩
  obtain⟨w,hw⟩:=Ab inp (i:=un) (by omega);obtain⟨bv,ex,hV,hb,hrow⟩:=hWT.c.vars h2;have hwr:=hWT.c.wrV w hiv hV hb;have hbid:bv∈ids:=by
   obtain⟨V',C',ys,q1,q2,_⟩:=hWT.c.cf.ex;simp only[AV.agg.injEq,List.cons.injEq,and_true,true_and]at q1;obtain⟨rfl,_⟩:=q1;rw[q2,hV];simp[Jo]
  have hne:bw≠bv:=fun h=>hWT.ne.2 (h▸hbid);have hnc:bc≠bv:=fun h=>hWT.c.ne (h▸hbid);subst hV;refine De 1048576 (by kernel_rfl) ?_
  iterate 3 refine Av ?_
  refine A2 (Aq hWT.c.box) ?_
  iterate 3 refine Av ?_
  refine A2 (Aq hWT.w) ?_
  iterate 2 refine Av ?_
  refine A2 (Aq zE) ?_;refine Js hq ?_
  iterate 4 refine Av ?_
  refine A2 (Aq hWT.c.box) ?_;refine Eo (fun S'=>Cu rfl rfl rfl rfl rfl rfl rfl rfl rfl hu.1 (by rw[hun,Hl];exact Y8 hw)) ?_;refine Av ?_;refine A2 (Gd (hj:=by simpa[Fw]using hiv) (hb:=hb) (hr:=hrow) (hl:=rfl)) ?_;refine Ch (J1 hb hrow rfl) ?_;refine Gt ?_;obtain⟨hc1,hch1⟩:=hwr;obtain⟨U,hU⟩:∃U:St,U=⟨T.boxes.set bv ((Fe c.vars++ex).set iv [vi w]),T.toks⟩:=⟨_,rfl⟩
  refine Be U ?_ hU.symm;rw[←hU]at hc1;have hcU:Chg (bw::bc::ids) S.boxes U.boxes:=by rw[hU];exact hcT.up hch1 fun i hi=>by simp[hi]
  have zwU:U.boxes[bw]?=some [wkp n bc 0]:=by rw[hU,Fq hne.symm];exact hWT.w
  refine Aw hc1.box ?_;refine Cc hc1.box rfl ?_;have hw1:IntKind.i64.wrap (c.used+1)=c.used+1:=Ac (by omega) (by omega);have hc2:=hc1.upd (c':={ c with vars:=c.vars.set iv w,used:=IntKind.i64.wrap (c.used+1) }) rfl rfl;refine Bc func137 (h:=rfl) ⟨_,rfl,rfl,by rw[hU];exact htT,hcU.up (Cw U.boxes bc _) fun i hi=>by simp at hi;simp[hi],0,⟨by rw[Fq hWT.ne.1.symm];exact zwU,?_,hWT.ne⟩,fun h=>absurd rfl h⟩;have e1:({ Wk n c s (inp.getD c.used.toNat 0)with used:=c.used+1 }:Cf)={ c with vars:=c.vars.set iv w,used:=IntKind.i64.wrap (c.used+1) }:=by
   unfold Wk;rw[h1,Hl,hun,Hl,Aiq,hw,←hun,hw1];rfl
  rw[e1];exact hc2
theorem Apy{inp:List Int}{x:Nd}(hx:FC x)(y:Bool):Rz n inp c 4 y x=if (Lg n c x 0).2.1=0 then(c,0,(Lg n c x 0).2.2,(Lg n c x 0).1==y)else(c,(Lg n c x 0).2.1,(Lg n c x 0).2.2,true):=by
 cases hx with
 |mk k a b h0 h1 ha hb=>
 have e0:Rz n inp c 4 y (.mk k [] 0 [a,b])=Nx n c [a,b] fun a b d=>(c,0,d,Oz k a b==y):=rfl;rw[e0];unfold Nx;by_cases g:(C9 n c a 0).2.1=0
 ·by_cases g2:(C9 n c b (C9 n c a 0).2.2).2.1=0
  ·simp[Lg,Nd.kids,Nd.kind,g,g2]
  ·simp[Lg,Nd.kids,Nd.kind,g,g2]
 ·simp[Lg,Nd.kids,Nd.kind,g]
theorem Apx{inp:List Int}{x:Nd}(hx:FC x)(y:Bool):Rz n inp c 5 y x=if (Lg n c x 0).2.1=0 then(if (Lg n c x 0).1=true then(c,0,(Lg n c x 0).2.2,true)else(c,4,0,true))else(c,(Lg n c x 0).2.1,(Lg n c x 0).2.2,true):=by
 cases hx with
 |mk k a b h0 h1 ha hb=>
 have e0:Rz n inp c 5 y (.mk k [] 0 [a,b])=Nx n c [a,b] fun a b d=>if Oz k a b=true then(c,0,d,true)else(c,4,0,true):=rfl;rw[e0];unfold Nx;by_cases g:(C9 n c a 0).2.1=0
 ·by_cases g2:(C9 n c b (C9 n c a 0).2.2).2.1=0
  ·simp[Lg,Nd.kids,Nd.kind,g,g2]
  ·simp[Lg,Nd.kids,Nd.kind,g,g2]
 ·simp[Lg,Nd.kids,Nd.kind,g]
theorem Amp(hk:VOk n c){i j p:Nat}{inp:List Int}{f t:Int}{y:Bool}{x:Nd}(he:(Lx (A9 n))[i]?=some ⟨f,t,4,y,x⟩)(hx:FC x)(kx:Ff (Ax n 31) (Ax n 32) x=true)(hp:p<(D6 (A9 n)).pts)(hf:f=(p:Int))(hl:L3 Eg.f (Lx (A9 n)) p=[i,j])(hij:i<j) :
 DoR n bw bc V C ids c inp i j (Rz n inp c 4 y x):=by
 have hq:=Ayp n hp he hf hl hij;rw[Apy hx];intro S hW;have hbw:=Aa hW.w;have hbc:=Aa hW.c.box;have hid:=T5 hW.c;have zw:=hW.w;have gx:∀{i:Nat} {y:List (List AV)} {more:List (List (List AV))},S.boxes[i]?=some y→(S.boxes++more)[i]?=some y:=fun{i y more} h=>by rw[Cs (Aa h)];exact h
 have new:∀y:List (List AV),(S.boxes++[y])[S.boxes.length]?=some y:=fun y=>by simp
 have keep:∀r:List (List AV),((S.boxes++[[zEg]]).set S.boxes.length r)[bw]?=some [wkp n bc 0]:=fun r=>by rw[Fq (by omega)];exact gx zw
 refine Runs.run func137 ?_;refine De 98304 (by kernel_rfl) ?_
 iterate 3 refine Av ?_
 refine A2 (Aq zw) ?_
 iterate 5 refine Av ?_
 refine Eo (fun S'=>Cu rfl rfl rfl rfl rfl rfl rfl rfl rfl (by omega) (Gm he)) ?_
 iterate 4 refine Av ?_
 refine A2 (Aq zw) ?_;refine Dz (Pi rfl rfl) (An (Aq (gx zw)) (An (Aq (gx zw)) Gy)) ?_;refine Dz (J1 (r:=0) (cs:=zEg) (new _) rfl rfl) ?_ ?_
 ·intro p hp;replace hp:=(zzq56.1 hp).1;revert p;exact An (Aq (keep _)) (An (Aq (keep _)) Gy)
 refine Av ?_;refine Gt ?_;obtain⟨T,hT⟩:∃T:St,T=⟨S.boxes++[[H5 (⟨f,t,4,y,x⟩)]],S.toks⟩:=⟨_,rfl⟩
 refine Be T ?_ (by rw[hT];exact congrArg (fun x=>St.mk x _) (by rw[Iw _ _ (Bo _),Ik];rfl));have zE:T.boxes[S.boxes.length]?=some [H5 (⟨f,t,4,y,x⟩)]:=by rw[hT];simp
 have hWT:WkS n T bw bc V C ids c 0:=hW.more (by rw[hT]);have hcT:Chg (bw::bc::ids) S.boxes T.boxes:=by rw[hT];exact Chg.snoc _ _ _
 have htT:T.toks=S.toks:=by rw[hT]
 refine Aw zE ?_;refine Cq ?_;refine Cq ?_;refine Cq ?_;refine Cq ?_;refine Do ?_;refine Aw zE ?_;refine G3 (Aow hk hx kx 0 T hWT) ?_;intro r U hP _ _;obtain⟨rfl,htU,hcU,hWU⟩:=hP;have zE2:=(hcU.2 _ (Aa zE) (by simp;omega)).trans zE;have hcSU:Chg (bw::bc::ids) S.boxes U.boxes:=hcT.up hcU fun i hi=>by simp at hi;simp[hi]
 have htSU:=htU.trans htT;generalize Lg n c x 0=H at *;obtain⟨h,tt,d1⟩:=H;simp only at hWU⊢;refine Cb 60 rfl ?_;refine F7 (fun g=>?_) (fun g=>?_)
 ·have gt:¬tt=0:=by simpa using(show (tt != 0)=true from g)
  rw[if_neg gt];exact Bc func137 (h:=rfl) ⟨_,rfl,rfl,htSU,hcSU,d1,hWU,fun _ _ _=>rfl⟩
 have gt:tt=0:=by simpa using(show (tt != 0)=false from g)
 rw[if_pos gt];refine Aw zE2 ?_;refine Ol ?_;refine Cq ?_;refine Aw zE2 ?_;refine Om ?_;refine Aw zE2 ?_;refine F7 (fun g2=>?_) (fun g2=>?_)
 ·have g3:(h==y)=false:=by simpa using(show (h != y)=true from g2)
  refine Aw hWU.w ?_;refine Im hq ?_;refine Bc func137 (h:=rfl) ⟨_,rfl,?_,htSU,hcSU,d1,hWU,fun h=>absurd rfl h⟩;simp only[g3];rfl
 ·have g3:(h==y)=true:=by simpa using(show (h != y)=false from g2)
  refine Bc func137 (h:=rfl) ⟨_,rfl,?_,htSU,hcSU,d1,hWU,fun h=>absurd rfl h⟩;simp only[g3];rfl
theorem Amo(hk:VOk n c){i j:Nat}{inp:List Int}{f t:Int}{y:Bool}{x:Nd}(he:(Lx (A9 n))[i]?=some ⟨f,t,5,y,x⟩)(hx:FC x)(kx:Ff (Ax n 31) (Ax n 32) x=true):DoR n bw bc V C ids c inp i j (Rz n inp c 5 y x):=by
 rw[Apx hx];intro S hW;have hbw:=Aa hW.w;have hbc:=Aa hW.c.box;have hid:=T5 hW.c;have zw:=hW.w;have gx:∀{i:Nat} {y:List (List AV)} {more:List (List (List AV))},S.boxes[i]?=some y→(S.boxes++more)[i]?=some y:=fun{i y more} h=>by rw[Cs (Aa h)];exact h
 have new:∀y:List (List AV),(S.boxes++[y])[S.boxes.length]?=some y:=fun y=>by simp
 have keep:∀r:List (List AV),((S.boxes++[[zEg]]).set S.boxes.length r)[bw]?=some [wkp n bc 0]:=fun r=>by rw[Fq (by omega)];exact gx zw
 refine Runs.run func137 ?_;refine De 98304 (by kernel_rfl) ?_
 iterate 3 refine Av ?_
 refine A2 (Aq zw) ?_
 iterate 5 refine Av ?_
 refine Eo (fun S'=>Cu rfl rfl rfl rfl rfl rfl rfl rfl rfl (by omega) (Gm he)) ?_
 iterate 4 refine Av ?_
 refine A2 (Aq zw) ?_;refine Dz (Pi rfl rfl) (An (Aq (gx zw)) (An (Aq (gx zw)) Gy)) ?_;refine Dz (J1 (r:=0) (cs:=zEg) (new _) rfl rfl) ?_ ?_
 ·intro p hp;replace hp:=(zzq56.1 hp).1;revert p;exact An (Aq (keep _)) (An (Aq (keep _)) Gy)
 refine Av ?_;refine Gt ?_;obtain⟨T,hT⟩:∃T:St,T=⟨S.boxes++[[H5 (⟨f,t,5,y,x⟩)]],S.toks⟩:=⟨_,rfl⟩
 refine Be T ?_ (by rw[hT];exact congrArg (fun x=>St.mk x _) (by rw[Iw _ _ (Bo _),Ik];rfl));have zE:T.boxes[S.boxes.length]?=some [H5 (⟨f,t,5,y,x⟩)]:=by rw[hT];simp
 have hWT:WkS n T bw bc V C ids c 0:=hW.more (by rw[hT]);have hcT:Chg (bw::bc::ids) S.boxes T.boxes:=by rw[hT];exact Chg.snoc _ _ _
 have htT:T.toks=S.toks:=by rw[hT]
 refine Aw zE ?_;refine Cq ?_;refine Cq ?_;refine Cq ?_;refine Do ?_;refine Aw zE ?_;refine G3 (Aow hk hx kx 0 T hWT) ?_;intro r U hP _ _;obtain⟨rfl,htU,hcU,hWU⟩:=hP;have zE2:=(hcU.2 _ (Aa zE) (by simp;omega)).trans zE;have hcSU:Chg (bw::bc::ids) S.boxes U.boxes:=hcT.up hcU fun i hi=>by simp at hi;simp[hi]
 have htSU:=htU.trans htT;generalize Lg n c x 0=H at *;obtain⟨h,tt,d1⟩:=H;simp only at hWU⊢;refine Cb 60 rfl ?_;refine F7 (fun g=>?_) (fun g=>?_)
 ·have gt:¬tt=0:=by simpa using(show (tt != 0)=true from g)
  rw[if_neg gt];exact Bc func137 (h:=rfl) ⟨_,rfl,rfl,htSU,hcSU,d1,hWU,fun _ _ _=>rfl⟩
 have gt:tt=0:=by simpa using(show (tt != 0)=false from g)
 rw[if_pos gt];refine Aw zE2 ?_;refine Om ?_;cases h with
 |false=>
  refine Do ?_;rw[if_neg (by simp)];exact Bc func137 (h:=rfl) ⟨_,rfl,rfl,htSU,hcSU,d1,hWU,fun _ h=>absurd rfl h⟩
 |true=>
  refine Cq ?_;rw[if_pos rfl];refine Aw zE2 ?_;refine Ol ?_;refine Cq ?_;exact Bc func137 (h:=rfl) ⟨_,rfl,rfl,htSU,hcSU,d1,hWU,fun h=>absurd rfl h⟩
end
end Go.V
