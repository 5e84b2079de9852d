/- A part of the proof of the claim that the last text states: no condition of its own. -/
import Derived.Test.YtojhghmilenfkaaGreatDoorN9
set_option linter.unusedVariables false
set_option linter.unusedSimpArgs false
namespace Go.V
open Go Go.Proofs Go.Proofs.Tryz
section
variable {n:Nd}{bw bc:Nat}{V C:AV}{ids:List Nat}{c:Cf}
theorem A5e(hr:Fy n=true)(hk:VOk n c)(hu:0≤c.used∧c.used≤100){inp:List Int}{p i:Nat}{e:Eg}{l:List Eg}(hp:p<(D6 (A9 n)).pts)(hO:EdO (Lx (A9 n)) p i e l) :
 ∃j,(Lx (A9 n))[j]?=some (l.headD e)∧DoR n bw bc V C ids c inp i j (Rz n inp c e.k e.y e.n):=by
 have he:=hO.first.1;have hf:=hO.first.2.2.1;have hE:=(Ai6 hr).2 e (Bh he);cases hE with
 |set f t y s a h ha ka=>cases hO with
  |one _ _ _ _ _ _=>exact⟨i,he,Aus hk he h ha ka⟩
  |two _ _ _ _ _ _ _ _ _ _ h4 _=>simp at h4
 |put f t y s a b h ha ka hb kb=>cases hO with
  |one _ _ _ _ _ _=>exact⟨i,he,Aur hk he h ha ka hb kb⟩
  |two _ _ _ _ _ _ _ _ _ _ h4 _=>simp at h4
 |read f t y s h=>cases hO with
  |one _ _ _ _ _ _=>exact⟨i,he,Aq3 hk hu he h⟩
  |two _ _ _ _ _ _ _ _ _ _ h4 _=>simp at h4
 |guard f t y x hx kx=>cases hO with
  |one _ _ _ _ _ h4=>exact absurd rfl h4
  |two j e2 _ _ _ _ hl hij hj _ _ _=>exact⟨j,hj,Amp hk he hx kx hp hf hl hij⟩
 |check f t y x hx kx=>cases hO with
  |one _ _ _ _ _ _=>exact⟨i,he,Amo hk he hx kx⟩
  |two _ _ _ _ _ _ _ _ _ _ h4 _=>simp at h4
 |skip f t y x=>cases hO with
  |one _ _ _ _ _ _=>exact⟨i,he,Afz (.inl rfl) he⟩
  |two _ _ _ _ _ _ _ _ _ _ h4 _=>simp at h4
 |stop f t y x=>cases hO with
  |one _ _ _ _ _ _=>exact⟨i,he,Afz (.inr rfl) he⟩
  |two _ _ _ _ _ _ _ _ _ _ h4 _=>simp at h4
def StP(n:Nd)(inp:List Int)(bc:Nat)(V C:AV)(ids:List Nat)(c:Cf)(S S':St):Prop:=S'.toks=S.toks∧Chg (bc::ids) S.boxes S'.boxes∧CfS S' bc V C ids (Is n inp c)
theorem A2f(hr:Fy n=true)(hS:StK n c){inp:List Int}(S:St)(hc:CfS S bc V C ids c):Runs X 81 [.cptr (Mh n),.ptr bc 0 0,.sl (Fe inp) .no] S (fun r S'=>r=.tup []∧StP n inp bc V C ids c S S'):=by
 have hpts:=(Zu hr).1;have hbc:=Aa hc.box;have hidl:=T5 hc;have okP:Ok 0 0 (.cptr (Mh n)):=(inferInstance:OK 0 0 (.cptr (Mh n))).ok;unfold StP;refine Runs.run func81 ?_;refine Rj (Akd n c hpts) (.cons (.same _ okP) (.cons (hc.fzp hS.vok.ok) .nil)) (.val _) ?_;refine F7 (fun g=>?_) (fun g=>?_)
 ·refine Bc func81 (h:=rfl) ⟨_,rfl,rfl,rfl,Chg.refl _ _,?_⟩;unfold Is;rw[if_pos g];exact hc
 have hst:c.trap=0∧¬c.steps=5000∧¬c.pt=(((D6 (A9 n)).pts:Nat):Int)-1:=by
  unfold I7 at g;simp only[Pe,Ago,beq_eq_false_iff_ne,zzq54,ne_eq]at g;exact⟨g.1,g.2.2,g.2.1⟩
 have hpt:=hS.pt;have hsp:=hS.steps;obtain⟨p,hp⟩:∃p:Nat,c.pt=p:=⟨c.pt.toNat,by omega⟩
 have hpp:p<(D6 (A9 n)).pts:=by omega
 obtain⟨i,e,l,hF,hO⟩:=Zt hr (p:=p) (by omega);obtain⟨he,_,hef,hix,ml,hled⟩:=hO.first;have hrow:=Ajn Eg.f (Lx (A9 n)) hpp;rw[hled]at hrow;have hw1:IntKind.i64.wrap (c.steps+1)=c.steps+1:=Ac (by omega) (by omega);obtain⟨c1,hc1⟩:∃c1:Cf,c1={ c with steps:=IntKind.i64.wrap (c.steps+1) }:=⟨_,rfl⟩
 have hk1:VOk n c1:=by rw[hc1];exact⟨hS.vok.kl,hS.vok.vars,hS.vok.cells,hS.vok.rows⟩
 have hcc:({ c with steps:=c.steps+1 }:Cf)=c1:=by rw[hc1,hw1]
 obtain⟨j,hj,hdo⟩:=A5e (bw:=S.boxes.length) (bc:=bc) (V:=V) (C:=C) (ids:=ids) hr hk1 (by rw[hc1];exact hS.used) (inp:=inp) hpp hO;have hM:Is n inp c=(if (Rz n inp c1 e.k e.y e.n).2.1=0 then{ (Rz n inp c1 e.k e.y e.n).1 with pt:=if (Rz n inp c1 e.k e.y e.n).2.2.2=true then e.t else(l.headD e).t }
  else{ (Rz n inp c1 e.k e.y e.n).1 with trap:=(Rz n inp c1 e.k e.y e.n).2.1,edge:=(i:Int),acc:=if (Rz n inp c1 e.k e.y e.n).2.1=4∨(Rz n inp c1 e.k e.y e.n).2.1=5 then 0 else(Rz n inp c1 e.k e.y e.n).2.2.1 }):=by
  unfold Is;rw[if_neg (by simp[g]),show c.pt.toNat=p by rw[hp];rfl,hF,show fIx (Lx (A9 n)) c.pt=i by rw[hp];exact hix];simp only[hcc]
 have hK:=Ac1 n inp c1 e.k e.y e.n;have hq0:(Rz n inp c1 e.k e.y e.n).1.acc=0:=by rw[hK.acc,hc1];exact(hS.none hst.1).2
 generalize Rz n inp c1 e.k e.y e.n=q at *;obtain⟨c2,tt,d,st⟩:=q;simp only at hM hq0;refine Tr (b:=S.boxes.length) rfl rfl ?_;obtain⟨T,hT⟩:∃T:St,T=⟨S.boxes++[[wkp n bc 0]],S.toks⟩:=⟨_,rfl⟩
 refine Be T ?_ hT.symm;have hcT:CfS T bc V C ids c:=hc.more (by rw[hT]);refine De 0 (by kernel_rfl) ?_
 iterate 7 refine Av ?_
 refine A2 (Aq hcT.box) ?_;refine Eo (fun S'=>Cu rfl rfl rfl rfl rfl rfl rfl rfl rfl (by omega) (by rw[hp,Hl];exact hrow)) ?_;refine Av ?_;refine Eo (fun S'=>Cu rfl rfl rfl rfl rfl rfl rfl rfl rfl (by decide) (Ahq (i:=0) rfl)) ?_
 iterate 2 refine Av ?_
 refine Gt ?_;refine Aw hcT.box ?_;refine Cc hcT.box rfl ?_;obtain⟨U,hU⟩:∃U:St,U=⟨T.boxes.set bc [Ef c1 V C],T.toks⟩:=⟨_,rfl⟩
 refine Be U ?_ (by rw[hU,hc1]);have hcU:CfS U bc V C ids c1:=by rw[hU];exact hcT.upd (by rw[hc1]) (by rw[hc1])
 have hwU:WkS n U S.boxes.length bc V C ids c1 0:=⟨by rw[hU,Fq (by omega),hT];simp,hcU,by omega,fun h=>by have:=hidl _ h;omega⟩
 have hchU:Chg (bc::ids) S.boxes U.boxes:=by
  rw[hU,hT];exact(Chg.snoc (bc::ids) S.boxes _).up (Cw _ bc _) fun i hi=>by simp at hi;simp[hi]
 refine G3 (hdo U hwU) ?_;intro r W hP _ _;obtain⟨rfl,htW,hcW,d',hWW,hacc⟩:=hP;simp only at hWW hacc⊢;have hchW:Chg (bc::ids) S.boxes W.boxes:=by
  have h1:=hchU.1;exact⟨Pb hchU.1 hcW.1,fun k hk hk2=>(hcW.2 k (Mz hk h1) (by simp only[zzq13,not_or]at hk2⊢;exact⟨by omega,hk2⟩)).trans (hchU.2 k hk hk2)⟩
 have htS:W.toks=S.toks:=by rw[htW,hU,hT]
 rw[hM];refine Cb 60 rfl ?_;refine F7 (fun g2=>?_) (fun g2=>?_)
 ·have gt:tt=0:=by simpa using(show (tt==0)=true from g2)
  rw[if_pos gt];obtain⟨je,hje,hjt⟩:∃je:Eg,(Lx (A9 n))[if st=true then i else j]?=some je∧je.t=if st=true then e.t else(l.headD e).t:=by
   cases st with
   |true=>exact⟨e,he,rfl⟩
   |false=>exact⟨_,hj,rfl⟩
  refine Mm (r:=H5 je) ((if st=true then i else j:Nat):Int) (Int.natCast_nonneg _) (by rw[Hl];exact Gm hje) ?_;refine Cc hWW.c.box rfl ?_;refine Bc func81 (h:=rfl) ⟨_,rfl,rfl,htS,hchW.up (Cw W.boxes bc _) fun i hi=>by simp at hi;simp[hi],?_⟩;rw[←hjt];exact hWW.c.upd (c':={ c2 with pt:=je.t }) rfl rfl
 ·have gt:¬tt=0:=by simpa using(show (tt==0)=false from g2)
  rw[if_neg gt];refine Cc hWW.c.box rfl ?_;have hc5:=hWW.c.upd (c':={ c2 with trap:=tt }) rfl rfl;refine Cc hc5.box rfl ?_;have hc6:=hc5.upd (c':={ c2 with trap:=tt,edge:=(i:Int) }) rfl rfl;have hch6:Chg (bc::ids) S.boxes ((W.boxes.set bc [Ef { c2 with trap:=tt } V C]).set bc [Ef { c2 with trap:=tt,edge:=(i:Int) } V C]):=
   (hchW.up (Cw W.boxes bc _) fun i hi=>by simp at hi;simp[hi]).up (Cw _ bc _) fun i hi=>by simp at hi;simp[hi]
  by_cases h4:tt=4
  ·subst h4;refine Ol ?_;refine Cq ?_;refine Agq func81 (h:=rfl) ⟨_,rfl,rfl,htS,hch6,?_⟩;rw[if_pos (.inl rfl)];have:({ c2 with trap:=4,edge:=(i:Int),acc:=0 }:Cf)={ c2 with trap:=4,edge:=(i:Int) }:=by rw[←hq0]
   rw[this];exact hc6
  ·refine Om ?_ (ht:=by simpa using h4);by_cases h5:tt=5
   ·subst h5;refine Cq ?_;refine Agq func81 (h:=rfl) ⟨_,rfl,rfl,htS,hch6,?_⟩;rw[if_pos (.inr rfl)];have:({ c2 with trap:=5,edge:=(i:Int),acc:=0 }:Cf)={ c2 with trap:=5,edge:=(i:Int) }:=by rw[←hq0]
    rw[this];exact hc6
   ·refine Do ?_ (ht:=by simpa using h5);have hzw:((W.boxes.set bc [Ef { c2 with trap:=tt } V C]).set bc [Ef { c2 with trap:=tt,edge:=(i:Int) } V C])[S.boxes.length]?=some [wkp n bc d']:=by
     rw[Fq (by omega),Fq (by omega)];exact hWW.w
    refine Aw hzw ?_;refine Cc hc6.box rfl ?_;refine Agq func81 (h:=rfl) ⟨_,rfl,rfl,htS,hch6.up (Cw _ bc _) fun i hi=>by simp at hi;simp[hi],?_⟩;rw[if_neg (by omega),←hacc gt h4 h5];exact hc6.upd (c':={ c2 with trap:=tt,edge:=(i:Int),acc:=d' }) rfl rfl
end
theorem Acw{q:Bool}(n:Nd):∀{lo hi b d:Nat}{bx pre:List (List (List AV))},pre.length=d→Zo q lo hi bx b n→Zo q (lo+d) (hi+d) (pre++Rh d bx) (b+d) n:=by
 induction n using Nd.ind with
 |h n ih=>
 intro lo hi b d bx pre hd h;obtain⟨h1,rows,h2,h3⟩:=Mr.1 h;refine Mr.2 ⟨by omega,rows.map fun r=>r.map (Hn d),?_,Zn (by simpa using Vl h3) fun i x hx=>?_⟩
 ·rw[Gk (by omega),hd,Ad8,Rh,Gl,h2];rfl
 ·obtain⟨r,c,g1,⟨a1,a2,a3,rfl,g2⟩,g4⟩:=Rt h3 i x hx;exact⟨_,c+d,by rw[Gl,g1];rfl,⟨a1,a2,a3,by simp[Hn],g2⟩,ih x (Bh hx) hd g4⟩
abbrev ndB(b:Nat)(n:Nd):AV:=.agg [vi n.kind,str n.name,vi n.num,.bsl b n.kids.length]
def TrG(n:Nd)(r:AV)(bx:List (List (List AV))):Prop:=∃b,r=ndB b n∧Zo true 0 bx.length bx b n
def A41(l:List Nd)(r:AV)(bx:List (List (List AV))):Prop:=∃b,r=.bsl b l.length∧Zo true 0 bx.length bx b (.mk 0 [] 0 l)
theorem Atw{d b:Nat}(n:Nd):Sh d (ndB b n) (ndB (b+d) n):=.aggL (.cons (.val _) (.cons (.val _) (.cons (.val _) (.cons (.bsl b _) .nil))))
theorem Awl{q:Bool}{lo hi b:Nat}{bx:List (List (List AV))}(n:Nd):Zo q lo hi bx b (.mk 0 [] 0 n.kids)↔Zo q lo hi bx b n:=by rw[Mr,Mr];rfl
theorem Azm(l:List Nd)(hl:l.length≤1000000000)(ih:∀x,x∈l→Gives X 12 [nd x] (TrG x)):Gives X 51 [.sl (Ap l) .no] (A41 l):=by
 refine Gives.run func51 ?_;refine Bn (Il (n:=(Ap l).length) (b:=0) (by rw[Ad];exact hl) rfl rfl rfl rfl rfl rfl rfl rfl rfl rfl) ?_;refine Io (ι:=Nat×St) (fun i=>i.1≤l.length∧∃rows,i.2.boxes[0]?=some rows∧rows.length=l.length∧(∀(j:Nat) x,j<i.1→l[j]?=some x→∃r c,rows[j]?=some r∧Awe true x r c∧Zo true 1 i.2.boxes.length i.2.boxes c x)∧∀j:Nat,i.1≤j→j<l.length→rows[j]?=some zN)
  (fun i=>[(4,vi i.1),(3,.bsl 0 l.length),(0,.sl (Ap l) .no)]) (fun i=>i.2) (fun i=>l.length-i.1) ?_ (0,⟨[List.replicate (Ap l).length zN],[]⟩)
  ⟨B3 _,_,rfl,by rw[List.length_replicate,Ad],fun j x h=>absurd h (Va _),fun j _ hj=>by rw[Apg,if_pos (by rw[Ad];exact hj)]⟩ ⟨rfl,by rw[←Ad l];rfl,rfl,trivial⟩ rfl
 intro i hi IH;obtain⟨i,S1⟩:=i;obtain⟨hi,rows,hb,hrl,hdone,hleft⟩:=hi;simp only at hi hb hdone hleft;refine C7 (fun h=>?_) (fun h=>?_)
 ·have hlt:i<l.length:=by have:=A5 h;rw[Ad]at this;simp only at this;omega
  obtain⟨x,hx⟩:=Ab l hlt;refine B4 i (by omega) (Am hx) ?_;refine Te (ih x (Bh hx)) (.cons (.same _ (inferInstance:OK 0 0 (nd x)).ok) .nil) ?_;intro r bx hP;obtain⟨b,rfl,hT⟩:=hP;refine⟨ndB (b+S1.boxes.length) x,Rh S1.boxes.length bx,Atw x,Nu _ _,?_⟩;have hT2:=Acw x (pre:=S1.boxes) rfl hT;have hb2:(S1.boxes++Rh S1.boxes.length bx)[0]?=some rows:=by rw[Cs (Aa hb)];exact hb
  have hz:=hleft i (Bo _) hlt;have h1:1≤S1.boxes.length:=Aa hb;refine Jr i hlt hb2 hz rfl ?_;refine Mn hb2 hz rfl ?_;refine IH (i+1,_) ⟨hlt,_,Eh (Aa hb2),by rw[Agm];exact hrl,fun j y hj hy=>?_,fun j hj hjl=>?_⟩ (by simp only;omega) _ _ ⟨Ci ((Ac (by omega) (by omega)).trans (by simp only;omega)),rfl,rfl,trivial⟩ rfl
  ·by_cases hji:j=i
   ·subst hji;rw[hx]at hy;cases hy;refine⟨_,b+S1.boxes.length,Eh (by omega),⟨_,_,_,rfl,fun _=>rfl⟩,Pk x (by omega) (by simp[Pt];omega) (fun k z hk _ hz=>?_) hT2⟩;show ((S1.boxes++Rh S1.boxes.length bx).set 0 _)[k]?=_;rw[Fq (by omega)];exact hz
   ·obtain⟨r,c,g1,g2,g3⟩:=hdone j y (by simp only at hj;omega) hy;refine⟨r,c,by rw[Fq (Ne.symm hji)];exact g1,g2,Pk y (Bo _) (by simp) (fun k z hk hk2 hz=>?_) g3⟩;show ((S1.boxes++Rh S1.boxes.length bx).set 0 _)[k]?=_;rw[Fq (by omega),Cs hk2];exact hz
  ·simp only at hj;rw[Fq (by omega)];exact hleft j (by omega) hjl
 ·have:i=l.length:=by have:=Ba h;rw[Ad]at this;simp only at this;omega
  subst this;refine Bc func51 (h:=rfl) ⟨_,rfl,0,rfl,Mr.2 ⟨⟨B3 _,Aa hb⟩,rows,hb,Zn hrl fun j x hx=>?_⟩⟩;obtain⟨r,c,g1,g2,g3⟩:=hdone j x (Aa hx) hx;exact⟨r,c,g1,g2,Pk x (B3 _) (Bo _) (fun _ _ _ _ h=>h) g3⟩
theorem A2u(n:Nd)(hn:Ai n≤1000000000):Gives X 12 [nd n] (TrG n):=by
 induction n using Nd.ind with
 |h n ih=>
 have hcn:=Cj n;have hll:=Bm n.kids;refine Gives.run func12 ?_;refine Te (Azm n.kids (by omega) (fun x hx=>ih x hx (by have:=E5 hx;omega))) (.cons (.same _ (inferInstance:OK 0 0 (.sl (Ap n.kids) .no)).ok) .nil) ?_;intro r bx hP;obtain⟨b,rfl,hT⟩:=hP;refine⟨.bsl (b+3) n.kids.length,Rh 3 bx,.bsl b _,Nu _ _,?_⟩;refine Bi 100 rfl ?_;refine Bc func12 (h:=rfl) ⟨_,rfl,b+3,rfl,?_⟩;refine Pk n (B3 _) ?_ (fun _ _ _ _ h=>h) (Acw n (d:=3) (bx:=bx) (pre:=[_,_,_]) rfl ((Awl n).1 hT));simp[Pt]
def InG(l:List Int)(r:AV)(bx:List (List (List AV))):Prop:=∃b,r=.bsl b l.length∧bx[b]?=some (Fe l)
theorem Avh(l:List Int)(hl:l.length≤1000000000):Gives X 20 [.sl (Fe l) .no] (InG l):=by
 have hlen:=D9 l;refine Gives.run func20 ?_;refine Bn (Il (n:=(Fe l).length) (b:=0) (by rw[hlen];exact hl) rfl rfl rfl rfl rfl rfl rfl rfl rfl rfl) ?_;refine Ar (ι:=Nat) 1 0 (fun i=>i≤l.length) (fun i=>[(4,vi i),(3,.bsl 0 l.length),(0,.sl (Fe l) .no)]) (fun i=>⟨[cpR Jk [vi 0] l i],[]⟩) (fun i=>l.length-i) ?_ 0 (B3 _)
  ⟨rfl,by rw[←hlen];rfl,rfl,trivial⟩ (congrArg (fun b=>St.mk [b] []) (Anp Jk [vi 0] l).symm)
 intro i hi IH;refine C7 (fun h=>?_) (fun h=>?_)
 ·have hlt:i<l.length:=by have:=A5 h;rw[hlen]at this;omega
  obtain⟨x,hx⟩:=Ab l hlt;have hr:=Ano Jk [vi 0] hlt;refine B4 i (by omega) (Ev (f:=Jk) hx) ?_;refine Zh i hlt hr ?_;refine Ags hr ?_;refine IH (i+1) hlt (by omega) _ _ ⟨vsx (by omega),rfl,rfl,trivial⟩ ?_ rfl rfl;exact congrArg (fun b=>St.mk [b] []) (Anq Jk [vi 0] hx)
 ·have:i=l.length:=by have:=Ba h;rw[hlen]at this;omega
  subst this;refine Bc func20 (h:=rfl) ⟨_,rfl,0,rfl,?_⟩;show some (cpR Jk [vi 0] l l.length)=_;rw[Ann];rfl
def yR(d:Nat):List Nat→List AV
 |[]=>[]
 |c::l=>.bsl d c::yR (d+1) l
def zcs(c:Nat):List (List AV):=List.replicate c [vb false,vi 0]
theorem Ma:∀(l:List Nat)(d:Nat),(yR d l).length=l.length
 |[],d=>rfl
 |c::l,d=>by simp[yR,Ma l]
theorem Avr:∀(a b:List Nat)(d:Nat),yR d (a++b)=yR d a++yR (d+a.length) b
 |[],b,d=>by simp[yR]
 |c::a,b,d=>by simp only[Pz,yR,Avr a b,Nn];rw[show d+1+a.length=d+(a.length+1) by omega]
theorem Am4:∀{l:List Nat}{d j c:Nat},l[j]?=some c→(yR d l)[j]?=some (.bsl (d+j) c)
 |[],d,j,c,h=>by simp at h
 |c::l,d,0,c',h=>by simp at h;subst h;rfl
 |c::l,d,j+1,c',h=>by
  simp only[Aaw]at h;simp only[yR,Aaw];rw[Am4 h];congr 2;omega
theorem A0h:∀(l:List Nat)(d:Nat),(yR d l).flatMap Jo=List.range' d l.length
 |[],d=>rfl
 |c::l,d=>by simp only[yR,List.flatMap_cons,A0h l,Nn,List.range'_succ,Jo,Aku]
abbrev cR(d:Nat)(l:List Nat):List (List AV):=(yR d l).map fun y=>[y]
theorem Ab1(d:Nat)(l:List Nat)(c:Nat):cR d l++[[.bsl (d+l.length) c]]=cR d (l++[c]):=by simp[cR,Avr,yR]
theorem Ape(n:Nat):Fe (List.replicate n 0)=List.replicate n [vi 0]:=by simp[Fe]
theorem Anr(n:Nat):I9 (List.replicate n (false,0))=zcs n:=by simp[I9,zcs,Nv]
theorem Anm{nv d e:Nat}{cs:List Nat}{C:AV}{bx:List (List (List AV))}(hv:bx[e]?=some (List.replicate nv [vi 0]))(hed:e<d)(hc:∀(j:Nat) c,cs[j]?=some c→bx[d+j]?=some (zcs c))
 (hC:SlG bx C (cR d cs))(hn:∀b,b∈Jo C→d+cs.length≤b)(hnd:(Jo C).Nodup):∃ids,CfB SlG bx (.agg [vi 0,.bsl e nv,C,vi 0,vi 0,vi 0,vi 0,vi 0]) ids (bgC nv cs):=by
 refine⟨_,.bsl e nv,C,yR d cs,rfl,rfl,?_,.inl ⟨e,[],?_,?_⟩,hC,by rw[Ma];simp[bgC],fun j y l hy hl=>?_⟩
 ·rw[A0h];refine zzq108.2 ⟨by simp[Jo],zzq108.2 ⟨hnd,List.nodup_range',fun a ha b hb=>?_⟩,fun a ha b hb=>?_⟩
  ·have:=hn a ha;have:=(List.mem_range'_1.1 hb)
   omega
  ·simp[Jo]at ha;subst ha;rcases zzq45.1 hb with h|h
   ·have:=hn b h;omega
   ·have:=(List.mem_range'_1.1 h);omega
 ·rw[D9];simp[bgC]
 ·rw[H0,hv];simp only[bgC];rw[Ape]
 ·simp only[bgC,Gl]at hl;cases hcj:cs[j]? with
  |none=>rw[hcj]at hl;cases hl
  |some c=>
   rw[hcj]at hl;cases hl;rw[Am4 hcj]at hy;cases hy;refine .inl ⟨d+j,[],by rw[G5];simp,?_⟩;rw[H0,hc j c hcj,Anr]
theorem Tc(bx:List (List (List AV))):CfB SlG bx (.agg [vi 0,.sl [] .tight,.sl [] .tight,vi 0,vi 0,vi 0,vi 0,vi 0]) [] zC:=
 ⟨.sl [] .tight,.sl [] .tight,[],rfl,rfl,.nil,.inr ⟨rfl,rfl,rfl⟩,.inr ⟨rfl,rfl,rfl⟩,rfl,fun j y l h=>by simp at h⟩
def Awo(nv:Nat):Option (List Nat)→Cf
 |some cs=>bgC nv cs
 |none=>zC
def BgP(nv:Nat)(o:Option (List Nat))(r:AV)(bx:List (List (List AV))):Prop:=∃x ids,r=.tup [x,vb o.isSome]∧CfB SlG bx x ids (Awo nv o)
structure BgI (ss ls:List Int)(i:List Nat×Nat):Prop where
 len:i.1.length≤ss.length
 u:i.2≤ls.length
 eq:Xv ss ls=(Xv (ss.drop i.1.length) (ls.drop i.2)).map (i.1++·)
 small:∀c,c∈i.1→c≤1000000
theorem R1{α:Type}{l:List α}{i:Nat}{x:α}(h:l[i]?=some x):l.drop i=x::l.drop (i+1):=by
 obtain⟨h1,h2⟩:=zzq105.1 h;rw[Akv h1,h2]
theorem BgI.given{ss ls:List Int}{cs:List Nat}{u:Nat}{s m:Int}(h:BgI ss ls (cs,u))(hs:ss[cs.length]?=some s)(h0:s<0)(hm:ls[u]?=some m)(hb:Bl m 0 60=true):BgI ss ls (cs++[m.toNat],u+1):=by
 refine⟨by have:=Aa hs;simp;omega,Aa hm,?_,fun c hc=>?_⟩
 ·rw[h.eq];simp only;rw[R1 hs,R1 hm,Xv,if_pos h0];simp only[hb,if_true,Ex,Za,Option.map_map];congr 1;funext l;simp
 ·rcases zzq45.1 hc with hc|hc
  ·exact h.small c hc
  ·simp at hc;subst hc;simp only[Bl,Dd,Ke]at hb;omega
theorem BgI.known{ss ls:List Int}{cs:List Nat}{u:Nat}{s:Int}(h:BgI ss ls (cs,u))(hs:ss[cs.length]?=some s)(h0:0≤s)(h1:s≤1000000):BgI ss ls (cs++[s.toNat],u):=by
 refine⟨by have:=Aa hs;simp;omega,h.u,?_,fun c hc=>?_⟩
 ·rw[h.eq];simp only;rw[R1 hs];cases hd:ls.drop u with
  |nil=>rw[Xv,if_neg (by omega)];simp only[Ex,Za,Option.map_map];congr 1;funext l;simp
  |cons a l=>rw[Xv,if_neg (by omega)];simp only[Ex,Za,Option.map_map];congr 1;funext l;simp
 ·rcases zzq45.1 hc with hc|hc
  ·exact h.small c hc
  ·simp at hc;subst hc;omega
theorem BgI.none1{ss ls:List Int}{cs:List Nat}{u:Nat}{s:Int}(h:BgI ss ls (cs,u))(hs:ss[cs.length]?=some s)(h0:s<0)(hu:u=ls.length):Xv ss ls=none:=by
 rw[h.eq];simp only;rw[R1 hs,hu,Hz,Xv,if_pos h0];rfl
theorem BgI.none2{ss ls:List Int}{cs:List Nat}{u:Nat}{s m:Int}(h:BgI ss ls (cs,u))(hs:ss[cs.length]?=some s)(h0:s<0)(hm:ls[u]?=some m)(hb:Bl m 0 60=false):Xv ss ls=none:=by
 rw[h.eq];simp only;rw[R1 hs,R1 hm,Xv,if_pos h0];simp[hb]
theorem BgI.none3{ss ls:List Int}{cs:List Nat}{u:Nat}(h:BgI ss ls (cs,u))(hc:cs.length=ss.length)(hu:u<ls.length):Xv ss ls=none:=by
 rw[h.eq];simp only;rw[hc,Hz,Akv hu,Xv];rfl
theorem BgI.all{ss ls:List Int}{cs:List Nat}{u:Nat}(h:BgI ss ls (cs,u))(hc:cs.length=ss.length)(hu:u=ls.length):Xv ss ls=some cs:=by
 rw[h.eq];simp only;rw[hc,Hz,hu,Hz,Xv];simp
theorem Ayg(n:Nd)(hr:Fy n=true)(ls:List Int)(hls:ls.length≤1000000000):Gives X 63 [.cptr (Mh n),.sl (Fe ls) .no] (BgP (Ax n 31).length (Xv (Ei n) ls)):=by
 have hkl:=(Iz hr).2.2.2.2;have hvl:(Ax n 31).length≤4500:=Pb (G9 n 31) hkl;have hsl:(Ei n).length≤4500:=by rw[Xp];exact Pb (G9 n 32) hkl
 have hsz:=Akg hr;have hvr:(Dl (Ax n 31)).length=(Ax n 31).length:=F6 _;refine Gives.run func63 ?_;refine Bn (Il (n:=(Dl (Ax n 31)).length) (b:=1) (by rw[hvr];omega) rfl rfl rfl rfl rfl rfl rfl rfl rfl rfl) ?_;refine Xw 2 0 2 ?_;have hzl:=D9 (Ei n);have hll:=D9 ls;refine Io (ι:=List Nat×Nat) (BgI (Ei n) ls) (fun i=>[(22,vi i.1.length),(7,vi i.2),(21,vi (Ei n).length),(20,.sl (Fe (Ei n)) .no),(1,.sl (Fe ls) .no),(6,.ptr 2 0 0),(4,.ptr 0 0 0)])
  (fun i=>⟨[[vi 0,.sl [] .tight,.sl [] .tight,vi 0,vi 0,vi 0,vi 0,vi 0]]::List.replicate (Dl (Ax n 31)).length [vi 0]::[[vi 0,.bsl 1 (Dl (Ax n 31)).length,.psl (cR 3 i.1) 0 i.1.length,vi 0,vi 0,vi 0,vi 0,vi 0]]::i.1.map zcs,[i.1.length]⟩) (fun i=>(Ei n).length-i.1.length) ?_ ([],0)
  ⟨B3 _,B3 _,by simp,fun c h=>by cases h⟩ ⟨rfl,rfl,by rw[←hzl];rfl,rfl,rfl,rfl,rfl,trivial⟩ rfl
 intro i hI IH;obtain⟨cs,u⟩:=i;have hcl:=hI.len;have hul:=hI.u;simp only at hcl hul;refine C7 (fun h=>?_) (fun h=>?_)
 ·have hlt:cs.length<(Ei n).length:=by have:=A5 h;simp only at this;omega
  obtain⟨s,hs⟩:=Ab (Ei n) hlt;have hs1:=hsz s (Bh hs);refine B4 cs.length (by omega) (Ev (f:=Jk) hs) ?_;refine Ah (fun h0=>?_) (fun h0=>?_)
  ·have h0':=A5 h0;refine Df (fun g=>?_) (fun g=>?_)
   ·have hu:u=ls.length:=by have:=eq_of_beq g;rw[hll]at this;simp only at this;omega
    refine A0 ?_;rw[hI.none1 hs h0' hu];exact Bc func63 (h:=rfl) ⟨_,rfl,_,[],rfl,Tc _⟩
   ·have hu:u<ls.length:=by
     have:¬u=ls.length:=fun hh=>by subst hh;rw[hll]at g;simp at g
     omega
    obtain⟨m,hm⟩:=Ab ls hu;refine B4 u (by omega) (Ev (f:=Jk) hm) ?_;refine Al (Vz m 0 60) ?_;refine Ah (fun gb=>?_) (fun gb=>?_)
    ·have gb':Bl m 0 60=false:=by simpa using gb
     rw[hI.none2 hs h0' hm gb'];exact Bc func63 (h:=rfl) ⟨_,rfl,_,[],rfl,Tc _⟩
    ·have gb':Bl m 0 60=true:=by simpa using gb
     have hnew:=hI.given hs h0' hm gb';obtain⟨k,rfl⟩:∃k:Nat,m=k:=⟨m.toNat,by simp only[Bl,Dd,Ke]at gb';omega⟩
     refine B4 u (by omega) (Ev (f:=Jk) hm) ?_;refine D8 168 ?_;refine Dz (Il (n:=k) (b:=3+cs.length) (by have:=hnew.small k (by simp);omega) (by simp;omega) rfl rfl rfl rfl rfl rfl rfl rfl rfl) (An (Ck rfl rfl rfl) Gy) ?_;refine Tu ?_;refine Ch (Oq (ver:=cs.length) rfl (fun r hr=>by obtain⟨y,_,rfl⟩:=zzq66.1 hr;rfl) (fun r hr x hx=>by simp at hr;subst hr;simp at hx;subst hx;exact .bsl _ _) ?_ (Ab1 3 cs k) rfl rfl rfl rfl rfl rfl rfl rfl rfl rfl rfl rfl rfl rfl rfl rfl rfl) ?_
     ·simp[Ma];omega
     refine Av ?_;refine Ch (A7 rfl rfl rfl rfl rfl rfl rfl) ?_;refine B2 ?_;refine IH (cs++[k],u+1) hnew (by simp;omega) _ _ ⟨Ci ?_,Ci ((Ac (by omega) (by omega)).trans (by simp)),rfl,rfl,rfl,rfl,rfl,trivial⟩ ?_
     ·rw[Ac (by simp only;omega) (by simp only;omega)];simp
     ·simp[zcs]
  ·have h0':0≤s:=by have:=Ba h0;omega
   have hnew:=hI.known hs h0' hs1;obtain⟨k,rfl⟩:∃k:Nat,s=k:=⟨s.toNat,by omega⟩
   refine D8 168 ?_;refine Dz (Il (n:=k) (b:=3+cs.length) (by have:=hnew.small k (by simp);omega) (by simp;omega) rfl rfl rfl rfl rfl rfl rfl rfl rfl) (An (Ck rfl rfl rfl) Gy) ?_;refine Tu ?_;refine Ch (Oq (ver:=cs.length) rfl (fun r hr=>by obtain⟨y,_,rfl⟩:=zzq66.1 hr;rfl) (fun r hr x hx=>by simp at hr;subst hr;simp at hx;subst hx;exact .bsl _ _) ?_ (Ab1 3 cs k) rfl rfl rfl rfl rfl rfl rfl rfl rfl rfl rfl rfl rfl rfl rfl rfl rfl) ?_
   ·simp[Ma];omega
   refine Av ?_;refine Ch (A7 rfl rfl rfl rfl rfl rfl rfl) ?_;refine B2 ?_;refine IH (cs++[k],u) hnew (by simp;omega) _ _ ⟨Ci ?_,rfl,rfl,rfl,rfl,rfl,rfl,trivial⟩ ?_
   ·rw[Ac (by simp only;omega) (by simp only;omega)];simp
   ·simp[zcs]
 ·have hce:cs.length=(Ei n).length:=by have:=Ba h;simp only at this;omega
  by_cases hu:u=ls.length
  ·have hall:=hI.all hce hu;rw[hall];have hg:∀(j:Nat) c (A B C:List (List AV)) T,cs[j]?=some c→(A::B::C::(cs.map zcs++T))[3+j]?=some (zcs c):=fun j c A B C T hj=>by
    rw[show 3+j=j+1+1+1 by omega];simp only[Aaw];rw[Cs (by simpa using Aa hj),Gl,hj];rfl
   have hbg:bgC (Dl (Ax n 31)).length cs=bgC (Ax n 31).length cs:=by rw[hvr]
   by_cases hne:cs=[]
   ·subst hne;refine Ag ?_ (ht:=by rw[hll,hu];simp);obtain⟨ids,hG⟩:=Anm (nv:=(Dl (Ax n 31)).length) (d:=3) (e:=1) (cs:=[]) (C:=.psl [] 0 0) (bx:=[[[vi 0,.bsl 1 (Dl (Ax n 31)).length,.psl [] 0 0,vi 0,vi 0,vi 0,vi 0,vi 0]],List.replicate (Dl (Ax n 31)).length [vi 0],[[vi 0,.bsl 1 (Dl (Ax n 31)).length,.psl [] 0 0,vi 0,vi 0,vi 0,vi 0,vi 0]]])
     rfl (by omega) (fun j c h=>by simp at h) (.inr ⟨rfl,rfl,rfl⟩) (fun b h=>by simp[Jo]at h) .nil
    rw[hbg]at hG;exact Bc func63 (h:=rfl) ⟨_,rfl,_,ids,rfl,hG⟩
   ·refine Av1 2 0 2 (rows:=cR 3 cs) (m:=3+cs.length) (n:=cs.length) (fun h=>hne (zzq94.1 (by have:=congrArg List.length h;simpa[Ma]using this))) (fun k z=>?_) (hm:=by simp;omega) (hn:=by simp[Ma]);refine Ag ?_ (ht:=by rw[hll,hu];simp);obtain⟨ids,hG⟩:=Anm (nv:=(Dl (Ax n 31)).length) (d:=3) (e:=1) (cs:=cs) (C:=.bsl (3+cs.length) cs.length) (bx:=[[vi 0,.bsl 1 (Dl (Ax n 31)).length,.bsl (3+cs.length) cs.length,vi 0,vi 0,vi 0,vi 0,vi 0]]::List.replicate (Dl (Ax n 31)).length [vi 0] ::
     [[vi 0,.bsl 1 (Dl (Ax n 31)).length,.bsl (3+cs.length) cs.length,vi 0,vi 0,vi 0,vi 0,vi 0]]::(cs.map zcs++[cR 3 cs++Y0 k z]))
     rfl (by omega) (fun j c h=>hg j c _ _ _ _ h) (.inl ⟨3+cs.length,Y0 k z,by simp[Ma],by rw[show 3+cs.length=cs.length+1+1+1 by omega];simp⟩) (fun b h=>by simp[Jo]at h;omega) (by simp[Jo])
    rw[hbg]at hG;exact Bc func63 (h:=rfl) ⟨_,rfl,_,ids,rfl,hG⟩
  ·rw[hI.none3 hce (by omega)];refine A0 ?_ (ht:=by rw[hll];simp;omega);exact Bc func63 (h:=rfl) ⟨_,rfl,_,[],rfl,Tc _⟩
theorem SlB.given{bx:List (List (List AV))}{x:AV}{rows:List (List AV)}(h:SlB bx x rows):SlG bx x rows:=by
 rcases h with h|⟨rfl,sp,rfl⟩
 ·exact .inl h
 ·exact .inr ⟨rfl,rfl,rfl⟩
theorem CfB.given{bx:List (List (List AV))}{x:AV}{ids:List Nat}{c:Cf}(h:CfB SlB bx x ids c):CfB SlG bx x ids c:=by
 obtain⟨V,C,ys,h1,h2,h3,h4,h5,h6,h7⟩:=h.ex;exact⟨V,C,ys,h1,h2,h3,h4.given,h5.given,h6,fun j y l hy hl=>(h7 j y l hy hl).given⟩
theorem CfB.parts{Sl:List (List (List AV))→AV→List (List AV)→Prop}{bx:List (List (List AV))}{x:AV}{ids:List Nat}{c:Cf}(h:CfB Sl bx x ids c):∃V C,x=.agg [vi c.pt,V,C,vi c.used,vi c.steps,vi c.trap,vi c.edge,vi c.acc]:=by
 obtain⟨V,C,ys,h1,_⟩:=h.ex;exact⟨V,C,h1⟩
theorem CfB.shapes{bx:List (List (List AV))}{V C:AV}{a1 a2 a3 a4 a5 a6:Int}{ids:List Nat}{c:Cf}(h:CfB SlB bx (.agg [vi a1,V,C,vi a2,vi a3,vi a4,vi a5,vi a6]) ids c):((∃b n,V=.bsl b n)∨∃sp,V=.sl [] sp)∧((∃b n,C=.bsl b n)∨∃sp,C=.sl [] sp):=by
 obtain⟨V',C',ys,h1,h2,h3,h4,h5,h6,h7⟩:=h.ex;simp only[AV.agg.injEq,List.cons.injEq]at h1;obtain⟨_,rfl,rfl,_⟩:=h1;exact⟨h4.shape,h5.shape⟩
theorem CfB.ltG{bx:List (List (List AV))}{x:AV}{ids:List Nat}{c:Cf}(h:CfB SlG bx x ids c):∀i,i∈ids→i<bx.length:=by
 obtain⟨V,C,ys,_,rfl,_,h4,h5,h6,h7⟩:=h.ex;have key:∀{y:AV} {rows:List (List AV)},SlG bx y rows→∀i,i∈Jo y→i<bx.length:=fun{y rows} hy i hi=>by
  rcases hy with⟨b,ex,rfl,h⟩|⟨_,_,h⟩
  ·simp[Jo]at hi;subst hi;exact Aa h
  ·rw[h]at hi;cases hi
 intro i hi;simp only[zzq45,zzq106]at hi;rcases hi with h|h|⟨y,hy,hi⟩
 ·exact key h4 i h
 ·exact key h5 i h
 ·obtain⟨j,hj⟩:=Bs hy;obtain⟨l,hl⟩:=Ab c.cells (i:=j) (by rw[←h6];exact Aa hj);exact key (h7 j y l hj hl) i hi
theorem Fc{bx:List (List (List AV))}{V C:AV}{ids:List Nat}{c:Cf}(h:CfB SlB bx (.agg (Ef c V C)) ids c):cellsOf (.agg (Ef c V C))=some (Ef c V C):=by
 rcases h.shapes with⟨⟨v1,v2,rfl⟩|⟨v1,rfl⟩,⟨c1,c2,rfl⟩|⟨c1,rfl⟩⟩<;>rfl
theorem Azo{d:Nat}{x y:AV}{b:Bool}(h:Sh d x y):Sh d (.tup [x,vb b]) (.tup [y,vb b]):=by
 have h:=(ShL.cons h (.cons (.val (.bool b)) .nil)).get;exact .tup _ _ h.1 h.2
theorem Azz(d:Nat)(l:List Nat):Kf 1 (cR d l)=true:=Kx (f:=fun y:AV=>[y]) (fun _=>rfl) _
theorem A3s{S:St}{nv d e:Nat}{cs:List Nat}(hv:S.boxes[e]?=some (List.replicate nv [vi 0]))(hnv:nv≤1000000)(hl:cs.length≤1000000)(hc:∀(j:Nat) c,cs[j]?=some c→S.boxes[d+j]?=some (zcs c))(hcl:∀c,c∈cs→c≤1000000)(sp:Sp) :
 Fz S 0 0 (.tup [.agg [vi 0,.bsl e nv,.sl (cR d cs) sp,vi 0,vi 0,vi 0,vi 0,vi 0],vb true]) (.tup [cf (bgC nv cs),vb true]):=by
 have fV:Fz S 0 0 (.bsl e nv) (.sl (Fe (List.replicate nv 0)) .no):=
  SlB.flat (.inl ⟨e,[],by rw[D9];simp,by rw[H0,hv,Ape]⟩) (by rw[D9];simp;omega) inferInstance
 have fC:Fz S 0 0 (.sl (cR d cs) sp) (.sl (Ov (cs.map fun k=>List.replicate k (false,0))) .no):=by
  refine .strip _ _ sp (by rw[X9];simp[Ma]) (fun i r r' h1 h2=>?_) fun i j r r' x y h1 h2 h3 h4=>?_
  ·simp only[Ov,Gl,Option.map_map]at h1 h2;cases hy:(yR d cs)[i]? with
   |none=>rw[hy]at h1;cases h1
   |some y=>
    cases hk:cs[i]? with
    |none=>rw[hk]at h2;cases h2
    |some k=>rw[hy]at h1;rw[hk]at h2;cases h1;cases h2;rfl
  ·simp only[Ov,Gl,Option.map_map]at h1 h2;cases hk:cs[i]? with
   |none=>rw[hk]at h2;cases h2
   |some k=>
    rw[Am4 hk]at h1;rw[hk]at h2;cases h1;cases h2;have hj:j=0:=by have:=Aa h3;simp at this;omega
    subst hj;simp at h3 h4;subst h3;subst h4;exact SlB.flat (.inl ⟨d+i,[],by rw[G5];simp,by rw[H0,hc i k hk,Anr]⟩) (by rw[G5];simp;have:=hcl k (Bh hk);omega) inferInstance
 refine .tup _ _ rfl fun j a b ha hb=>?_
 match j,ha,hb with
 |0,ha,hb=>
  simp at ha hb;subst ha;subst hb;refine .agg _ _ rfl fun j a b ha hb=>?_
  match j,ha,hb with
  |0,ha,hb=>simp at ha hb;subst ha;subst hb;exact .same _ (.val _)
  |1,ha,hb=>simp at ha hb;subst ha;subst hb;exact fV
  |2,ha,hb=>simp at ha hb;subst ha;subst hb;exact fC
  |3,ha,hb=>simp at ha hb;subst ha;subst hb;exact .same _ (.val _)
  |4,ha,hb=>simp at ha hb;subst ha;subst hb;exact .same _ (.val _)
  |5,ha,hb=>simp at ha hb;subst ha;subst hb;exact .same _ (.val _)
  |6,ha,hb=>simp at ha hb;subst ha;subst hb;exact .same _ (.val _)
  |7,ha,hb=>simp at ha hb;subst ha;subst hb;exact .same _ (.val _)
  |j+8,ha,_=>simp at ha
 |1,ha,hb=>simp at ha hb;subst ha;subst hb;exact .same _ (.val _)
 |j+2,ha,_=>simp at ha
theorem Axz(n:Nd)(hr:Fy n=true)(ls:List Int)(hls:ls.length≤1000000000):Pure X 62 [.agg (Kp n),.sl (Fe ls) .no] (.tup [cf (Awo (Ax n 31).length (Xv (Ei n) ls)),vb (Xv (Ei n) ls).isSome]):=by
 have hkl:=(Iz hr).2.2.2.2;have hvl:(Ax n 31).length≤4500:=Pb (G9 n 31) hkl;have hsl:(Ei n).length≤4500:=by rw[Xp];exact Pb (G9 n 32) hkl
 have hsz:=Akg hr;have hvr:(Dl (Ax n 31)).length=(Ax n 31).length:=F6 _;refine Pure.run func62 ?_;refine Bn (Il (n:=(Dl (Ax n 31)).length) (b:=2) (by rw[hvr];omega) rfl rfl rfl rfl rfl rfl rfl rfl rfl rfl) ?_;refine En 3 0 2 rfl rfl rfl rfl rfl rfl ?_;have hzl:=D9 (Ei n);have hll:=D9 ls;refine Io (ι:=List Nat×Nat) (BgI (Ei n) ls) (fun i=>[(8,vi i.1.length),(7,vi i.2),(1,.sl (Fe ls) .no),(6,.ptr 3 0 0),(4,.ptr 1 0 0),(2,.ptr 0 0 0)])
  (fun i=>⟨[Kp n]::[[vi 0,.sl [] .tight,.sl [] .tight,vi 0,vi 0,vi 0,vi 0,vi 0]]::List.replicate (Dl (Ax n 31)).length [vi 0]::[[vi 0,.bsl 2 (Dl (Ax n 31)).length,.sl (cR 4 i.1) (.tok 0),vi 0,vi 0,vi 0,vi 0,vi 0]]::i.1.map zcs,[i.1.length]⟩) (fun i=>(Ei n).length-i.1.length) ?_ ([],0)
  ⟨B3 _,B3 _,by simp,fun c h=>by cases h⟩ ⟨rfl,rfl,rfl,rfl,rfl,rfl,trivial⟩ rfl
 intro i hI IH;obtain⟨cs,u⟩:=i;have hcl:=hI.len;have hul:=hI.u;simp only at hcl hul;refine C7 (fun h=>?_) (fun h=>?_)
 ·have hlt:cs.length<(Ei n).length:=by have:=A5 h;rw[hzl]at this;simp only at this;omega
  obtain⟨s,hs⟩:=Ab (Ei n) hlt;have hs1:=hsz s (Bh hs);refine B4 cs.length (by omega) (Ev (f:=Jk) hs) ?_;refine Ah (fun h0=>?_) (fun h0=>?_)
  ·have h0':=A5 h0;refine Df (fun g=>?_) (fun g=>?_)
   ·have hu:u=ls.length:=by have:=A5 g;rw[hll]at this;simp only at this;omega
    refine A0 ?_;rw[hI.none1 hs h0' hu];exact As func62 rfl
   ·have hu:u<ls.length:=by have:=Ba g;rw[hll]at this;simp only at this;omega
    obtain⟨m,hm⟩:=Ab ls hu;refine B4 u (by omega) (Ev (f:=Jk) hm) ?_;refine Al (H4 m 0 60) ?_;refine Ah (fun gb=>?_) (fun gb=>?_)
    ·have gb':Bl m 0 60=false:=by simpa using gb
     rw[hI.none2 hs h0' hm gb'];exact As func62 rfl
    ·have gb':Bl m 0 60=true:=by simpa using gb
     have hnew:=hI.given hs h0' hm gb';obtain⟨k,rfl⟩:∃k:Nat,m=k:=⟨m.toNat,by simp only[Bl,Dd,Ke]at gb';omega⟩
     refine B4 u (by omega) (Ev (f:=Jk) hm) ?_;refine D8 168 ?_;refine Dz (Il (n:=k) (b:=4+cs.length) (by have:=hnew.small k (by simp);omega) (by simp;omega) rfl rfl rfl rfl rfl rfl rfl rfl rfl) (An (Ck rfl rfl rfl) Gy) ?_;refine Tu ?_;refine Ch (Bu (res:=cR 4 (cs++[k])) rfl rfl rfl rfl rfl rfl rfl rfl rfl rfl rfl rfl rfl rfl (by simp[Ma]) (Azz _ _) rfl rfl rfl ?_ (Ab1 4 cs k) rfl) ?_
     ·simp[Ma];omega
     refine Av ?_;refine Ch (A7 rfl rfl rfl rfl rfl rfl rfl) ?_;refine B2 ?_;refine IH (cs++[k],u+1) hnew (by simp;omega) _ _ ⟨Ci ?_,Ci ((Ac (by omega) (by omega)).trans (by simp)),rfl,rfl,rfl,rfl,trivial⟩ ?_
     ·rw[Ac (by simp only;omega) (by simp only;omega)];simp
     ·simp[zcs,Ma]
  ·have h0':0≤s:=by have:=Ba h0;omega
   have hnew:=hI.known hs h0' hs1;obtain⟨k,rfl⟩:∃k:Nat,s=k:=⟨s.toNat,by omega⟩
   refine D8 168 ?_;refine Dz (Il (n:=k) (b:=4+cs.length) (by have:=hnew.small k (by simp);omega) (by simp;omega) rfl rfl rfl rfl rfl rfl rfl rfl rfl) (An (Ck rfl rfl rfl) Gy) ?_;refine Tu ?_;refine Ch (Bu (res:=cR 4 (cs++[k])) rfl rfl rfl rfl rfl rfl rfl rfl rfl rfl rfl rfl rfl rfl (by simp[Ma]) (Azz _ _) rfl rfl rfl ?_ (Ab1 4 cs k) rfl) ?_
   ·simp[Ma];omega
   refine Av ?_;refine Ch (A7 rfl rfl rfl rfl rfl rfl rfl) ?_;refine B2 ?_;refine IH (cs++[k],u) hnew (by simp;omega) _ _ ⟨Ci ?_,rfl,rfl,rfl,rfl,rfl,trivial⟩ ?_
   ·rw[Ac (by simp only;omega) (by simp only;omega)];simp
   ·simp[zcs,Ma]
 ·have hce:cs.length=(Ei n).length:=by have:=Ba h;rw[hzl]at this;simp only at this;omega
  by_cases hu:u=ls.length
  ·have hall:=hI.all hce hu;rw[hall];have hg:∀(j:Nat) c (A B C D:List (List AV)),cs[j]?=some c→(A::B::C::D::cs.map zcs)[4+j]?=some (zcs c):=fun j c A B C D hj=>by
    rw[show 4+j=j+1+1+1+1 by omega];simp only[Aaw];rw[Gl,hj];rfl
   refine Ag ?_ (ht:=by rw[hll,hu];simp);rw[←hvr];refine E8 (B:=⟨62,_,0,0⟩) func62 (h:=rfl) 0 (Bo _) ?_ (fun rows hr=>by simp at hr) ⟨rfl,rfl⟩;exact A3s rfl (by rw[hvr];omega) (by omega) (fun j c h=>hg j c _ _ _ _ h) hI.small (.tok 0)
  ·rw[hI.none3 hce (by omega)];refine A0 ?_ (ht:=by rw[hll];simp;omega);exact As func62 rfl
def CcG(cells:List (List (Bool×Int)))(r:AV)(bx:List (List (List AV))):Prop:=
 ∃ys:List AV,SlG bx r (ys.map fun y=>[y])∧ys.length=cells.length∧(∀(j:Nat) (y:AV) (l:List (Bool×Int)),ys[j]?=some y→cells[j]?=some l→SlG bx y (I9 l))∧(Jo r++ys.flatMap Jo).Nodup∧∀b,b∈Jo r++ys.flatMap Jo→b<bx.length
structure CcI (cells:List (List (Bool×Int)))(S:St)(ys:List AV):Prop where
 len:ys.length≤cells.length
 rows:∀(j:Nat) (y:AV) (l:List (Bool×Int)),ys[j]?=some y→cells[j]?=some l→SlB S.boxes y (I9 l)
 nd:(ys.flatMap Jo).Nodup
 lt:∀b,b∈ys.flatMap Jo→b<S.boxes.length
 not:∀y,y∈ys→NoT y
theorem CcI.nil(cells:List (List (Bool×Int)))(S:St):CcI cells S []:=⟨B3 _,fun j y l h=>by simp at h,.nil,fun b h=>by simp at h,fun y h=>by cases h⟩
theorem CcI.snoc{cells:List (List (Bool×Int))}{S S':St}{ys:List AV}{y:AV}{l:List (Bool×Int)}{m:List (List (List AV))}(h:CcI cells S ys)(hl:cells[ys.length]?=some l)(hb:S'.boxes=S.boxes++m)(hy:SlB S'.boxes y (I9 l))(hn:(Jo y).Nodup)(hge:∀b,b∈Jo y→S.boxes.length≤b)(ht:NoT y):CcI cells S' (ys++[y]):=by
 refine⟨by have:=Aa hl;simp;omega,fun j z q hz hq=>?_,?_,fun b hb'=>?_,fun z hz=>?_⟩
 ·rcases getElem?_snoc hz with hz|⟨hj,rfl⟩
  ·rw[hb];exact(h.rows j z q hz hq).more
  ·subst hj;rw[hl]at hq;cases hq;exact hy
 ·rw[List.flatMap_append];simp only[List.flatMap_cons,List.flatMap_nil,H0];exact zzq108.2 ⟨h.nd,hn,fun a ha b hb'=>by have:=h.lt a ha;have:=hge b hb';omega⟩
 ·rw[List.flatMap_append]at hb';simp only[List.flatMap_cons,List.flatMap_nil,H0,zzq45]at hb';rcases hb' with h1|h1
  ·have:=h.lt b h1;rw[hb];simp;omega
  ·exact hy.lt b h1
 ·rcases zzq45.1 hz with hz|hz
  ·exact h.not z hz
  ·simp at hz;subst hz;exact ht
theorem CcI.give{cells:List (List (Bool×Int))}{S:St}{ys:List AV}(h:CcI cells S ys)(hl:ys.length=cells.length){r:AV}{m:List (List (List AV))}(hr:(ys=[]∧Hn 0 r=.sl [] .no∧Jo r=[])∨∃ex,r=.bsl S.boxes.length ys.length∧m=[ys.map (fun y=>[y])++ex]):CcG cells r (S.boxes++m):=by
 refine⟨ys,?_,hl,fun j y l hy hl=>(h.rows j y l hy hl).more.given,?_,fun b hb=>?_⟩
 ·rcases hr with⟨rfl,h1,h2⟩|⟨ex,rfl,rfl⟩
  ·exact .inr ⟨rfl,h1,h2⟩
  ·exact .inl ⟨S.boxes.length,ex,by simp,by simp⟩
 ·rcases hr with⟨_,_,h2⟩|⟨ex,rfl,rfl⟩
  ·rw[h2];exact h.nd
  ·exact zzq108.2 ⟨by simp[Jo],h.nd,fun a ha b hb=>by simp[Jo]at ha;subst ha;have:=h.lt b hb;omega⟩
 ·rcases zzq45.1 hb with h1|h1
  ·rcases hr with⟨_,_,h2⟩|⟨ex,rfl,rfl⟩
   ·rw[h2]at h1;cases h1
   ·simp[Jo]at h1;subst h1;simp
  ·have:=h.lt b h1;simp;omega
theorem Abc(cells:List (List (Bool×Int)))(hcl:cells.length≤1000000000)(hcx:∀x,x∈cells→x.length≤1000000000):Gives X 182 [.sl (Ov cells) .no] (CcG cells):=by
 have hlen:=X9 cells;refine Gives.run func182 ?_;refine Art 3 ?_;refine Io (ι:=St×List AV) (fun i=>i.1.toks=[i.2.length]∧CcI cells i.1 i.2) (fun i=>[(4,vi i.2.length),(3,.psl (i.2.map fun y=>[y]) 0 i.2.length),(0,.sl (Ov cells) .no)]) (fun i=>i.1) (fun i=>cells.length-i.2.length) ?_ (⟨[],[0]⟩,[])
  ⟨rfl,CcI.nil _ _⟩ ⟨rfl,rfl,rfl,trivial⟩ rfl
 intro i hi IH;obtain⟨S1,ys⟩:=i;obtain⟨htk,hI⟩:=hi;simp only at htk hI;refine C7 (fun g=>?_) (fun g=>?_)
 ·have hlt:ys.length<cells.length:=by have:=A5 g;rw[hlen]at this;simp only at this;omega
  obtain⟨l,hl⟩:=Ab cells hlt;have hll:=hcx l (Bh hl);have hcr:=G5 l;refine Mm ys.length (by omega) (Ev (f:=Alt) hl) ?_;cases hle:l with
  |nil=>
   subst hle;refine Hi Acm rfl rfl ?_;refine Cb 60 rfl ?_;refine Hi (Oq (ver:=ys.length) (res:=(ys++[AV.sl [] .tight]).map fun y=>[y]) (by simp only[htk];rfl) (fun r hr=>by obtain⟨y,_,rfl⟩:=zzq66.1 hr;rfl) (fun r hr x hx=>by simp at hr;subst hr;simp at hx;subst hx;exact(.sl _ _ (fun r h=>by cases h) fun t h=>by cases h)) (by simp;omega) (by simp) rfl rfl rfl rfl rfl rfl rfl rfl rfl rfl rfl rfl rfl rfl rfl rfl rfl) rfl rfl ?_;refine Cb 60 rfl ?_;refine IH (⟨S1.boxes++[],[ys.length+1]⟩,ys++[AV.sl [] .tight]) ⟨by simp,hI.snoc hl rfl (.inr ⟨rfl,.tight,rfl⟩) .nil (fun b h=>by cases h) (.sl _ _ (fun r h=>by cases h) fun t h=>by cases h)⟩ (by simp;omega) _ _ ⟨Ci ?_,by simp;rfl,rfl,trivial⟩ (by simp[htk])
   ·rw[Ac (by simp only;omega) (by simp only;omega)];simp
  |cons a l'=>
   rw[←hle];refine Zi (new:=I9 l) (fun cc=>?_) ?_ ?_ ?_ ?_
   ·skip
    refine Cb 60 rfl ?_;refine Hi (Oq (ver:=ys.length) (res:=(ys++[AV.bsl S1.boxes.length (I9 l).length]).map fun y=>[y]) (by simp only[htk];rfl) (fun r hr=>by obtain⟨y,_,rfl⟩:=zzq66.1 hr;rfl) (fun r hr x hx=>by simp at hr;subst hr;simp at hx;subst hx;exact(.bsl _ _)) (by simp;omega) (by simp) rfl rfl rfl rfl rfl rfl rfl rfl rfl rfl rfl rfl rfl rfl rfl rfl rfl) rfl rfl ?_;refine Cb 60 rfl ?_;refine IH (⟨S1.boxes++[I9 l++List.replicate cc [vb false,vi 0]],[ys.length+1]⟩,ys++[AV.bsl S1.boxes.length (I9 l).length]) ⟨by simp,hI.snoc hl rfl (.inl ⟨S1.boxes.length,List.replicate cc [vb false,vi 0],rfl,by simp⟩) (by simp[Jo]) (fun b h=>by simp[Jo]at h;omega) (.bsl _ _)⟩ (by simp;omega) _ _ ⟨Ci ?_,by simp;rfl,rfl,trivial⟩ (by simp[htk])
    ·rw[Ac (by simp only;omega) (by simp only;omega)];simp
   ·exact fun r hr=>by obtain⟨z,_,rfl⟩:=zzq66.1 hr;rfl
   ·exact fun r hr x hx=>by obtain⟨z,_,rfl⟩:=zzq66.1 hr;simp at hx;rcases hx with rfl|rfl<;>rfl
   ·rw[hle];simp[I9]
   ·omega
 ·have he:ys.length=cells.length:=by have:=Ba g;rw[hlen]at this;simp only at this;have:=hI.len;omega
  by_cases hne:ys=[]
  ·subst hne;refine Bc func182 (h:=rfl) ⟨_,rfl,?_⟩;have:=hI.give he (r:=.psl [] 0 0) (m:=[]) (.inl ⟨rfl,rfl,rfl⟩);rw[H0]at this;exact this
  ·refine A0i 2 (rows:=ys.map fun y=>[y]) (t:=0) (v:=ys.length) (m:=S1.boxes.length) (n:=ys.length) (by simpa using hne) (fun k z=>?_) (hS:=by simp only[htk];rfl) (hn:=by simp);refine Bc func182 (h:=rfl) ⟨_,rfl,?_⟩;exact hI.give he (.inr ⟨_,rfl,rfl⟩)
theorem Ax1(c:Cf)(hc:CfOk c):Gives X 122 [cf c] (fun r bx=>∃ids,CfB SlG bx r ids c):=by
 have hcv:=hc.vars;have hvl:=D9 c.vars;refine Gives.run func122 ?_;cases hv:c.vars with
 |nil=>
  refine Hi Acm rfl rfl ?_;refine Bi 100 rfl ?_;refine Te (Abc c.cells hc.cells hc.rows) (.cons (.same _ (inferInstance:OK 0 0 (.sl (Ov c.cells) .no)).ok) .nil) ?_;intro r bx hP;obtain⟨ys,h1,h2,h3,h4,h5⟩:=hP;refine⟨Hn 2 r,Rh 2 bx,U3 _ _,Nu _ _,?_⟩;have hH:=fun a b=>h1.held (pre:=[a,b]);have hR:∀a b,CfB SlB (a::b::Rh 2 bx) (.agg (Ef c (.sl [] .tight) (Hn 2 r))) (Jo (.sl [] .tight)++(Jo r++ys.flatMap Jo).map (·+2)) c:=fun a b=>
   ⟨(.sl [] .tight),Hn 2 r,ys.map (Hn 2),rfl,by simp only[Kr,Ah3,List.map_flatMap,List.flatMap_map],(by simp only[Jo,Tj];exact List.Pairwise.map _ (fun a b h=>by simp only[ne_eq]at h⊢;omega) h4),(.inr ⟨by rw[hv];rfl,.tight,rfl⟩),by have:=hH a b;rw[List.map_map]at this;rw[List.map_map];exact this,by simpa using h2,fun j y l hy hl=>by
     rw[Gl]at hy;cases hy':ys[j]? with
     |none=>rw[hy']at hy;cases hy
     |some y0=>
      rw[hy']at hy;cases hy;have:=(h3 j y0 l hy' hl).held (pre:=[a,b]);rw[Un]at this;exact this⟩
  have hsh:=(hR [] []).shapes;generalize hr2:Hn 2 r=r2 at *;rcases hsh.2 with⟨c1,c2,rfl⟩|⟨c1,rfl⟩ <;>
  ·refine Bi 100 rfl ?_;exact Bc func122 (h:=rfl) ⟨_,rfl,_,(hR _ _).given⟩
 |cons q ll=>
  refine Zi (new:=Fe (q::ll)) (fun cc=>?_) ?_ ?_ ?_ ?_
  ·refine Bi 100 rfl ?_;refine Te (Abc c.cells hc.cells hc.rows) (.cons (.same _ (inferInstance:OK 0 0 (.sl (Ov c.cells) .no)).ok) .nil) ?_;intro r bx hP;obtain⟨ys,h1,h2,h3,h4,h5⟩:=hP;refine⟨Hn 3 r,Rh 3 bx,U3 _ _,Nu _ _,?_⟩;have hH:=fun a b=>h1.held (pre:=[a,b,Fe (q::ll)++List.replicate cc [vi 0]]);have hR:∀a b,CfB SlB (a::b::(Fe (q::ll)++List.replicate cc [vi 0])::Rh 3 bx) (.agg (Ef c (.bsl 2 (Fe (q::ll)).length) (Hn 3 r))) (Jo (.bsl 2 (Fe (q::ll)).length)++(Jo r++ys.flatMap Jo).map (·+3)) c:=fun a b=>
    ⟨(.bsl 2 (Fe (q::ll)).length),Hn 3 r,ys.map (Hn 3),rfl,by simp only[Kr,Ah3,List.map_flatMap,List.flatMap_map],(zzq108.2 ⟨by simp[Jo],List.Pairwise.map _ (fun a b h=>by simp only[ne_eq]at h⊢;omega) h4,fun x hx y hy=>by simp[Jo]at hx;obtain⟨z,_,rfl⟩:=zzq66.1 hy;omega⟩),(.inl ⟨2,List.replicate cc [vi 0],by rw[hv],by rw[hv];rfl⟩),by have:=hH a b;rw[List.map_map]at this;rw[List.map_map];exact this,by simpa using h2,fun j y l hy hl=>by
      rw[Gl]at hy;cases hy':ys[j]? with
      |none=>rw[hy']at hy;cases hy
      |some y0=>
       rw[hy']at hy;cases hy;have:=(h3 j y0 l hy' hl).held (pre:=[a,b,Fe (q::ll)++List.replicate cc [vi 0]]);rw[Un]at this;exact this⟩
   have hsh:=(hR [] []).shapes;generalize hr2:Hn 3 r=r2 at *;rcases hsh.2 with⟨c1,c2,rfl⟩|⟨c1,rfl⟩ <;>
   ·refine Bi 100 rfl ?_;exact Bc func122 (h:=rfl) ⟨_,rfl,_,(hR _ _).given⟩
  ·exact fun r hr=>by obtain⟨z,_,rfl⟩:=zzq66.1 hr;rfl
  ·exact fun r hr x hx=>by obtain⟨z,_,rfl⟩:=zzq66.1 hr;simp at hx;subst hx;rfl
  ·simp[Fe]
  ·rw[hv]at hvl hcv;omega
theorem Aj0(k a b:Int)(h0:11≤k)(h1:k≤16):Pure X 125 [vi k,vi a,vi b] (vb (Oz k a b)):=by
 have:k=11∨k=12∨k=13∨k=14∨k=15∨k=16:=by omega
 rcases this with rfl|rfl|rfl|rfl|rfl|rfl <;>
 ·refine Pure.run func125 ?_
  repeat' (first|refine A0 ?_|refine Ag ?_)
  exact As func125 rfl
theorem Ee{F:C5}{S:St}{t ty b:Nat}{y:Ty}{cs:List AV}{x:AV}(hl:lk F t=some (.ptr b 0 0))(hy:X.ty ty=some y)(hb:S.boxes[b]?=some [cs])(hx:(Nl y.size cs fun c'=>Wb (Gg y.k) c')=some x):Mf X F S [.cell t ty]=some [x]:=by
 have:Ti S y.size (Gg y.k) (.ptr b 0 0)=some x:=by
  simp only[Ti,H8,hb,List.getElem?_cons_zero,Ow];exact hx
 simp only[Mf,hl,Q0,hy,this]
abbrev zCf:List AV:=[vi 0,.sl [] .tight,.sl [] .tight,vi 0,vi 0,vi 0,vi 0,vi 0]
theorem Au4{α:Type}(B:List α)(x y z:α):(B++[x]++[y]).set B.length z=B++[z]++[y]:=by rw[Fp,Iw _ _ (Bo _),Ik];simp
theorem A4p{α:Type}(B:List α)(x y z:α):(B++[x]++[y]).set (B.length+1) z=B++[x]++[z]:=by rw[Iw _ _ (by simp)];simp
theorem O6{S:St}{V C:AV}{ids:List Nat}{c:Cf}(h:CfB SlB S.boxes (.agg (Ef c V C)) ids c)(t e a:Int):Runs X 124 [.agg (Ef c V C),vi t,vi e,vi a] S (fun r S'=>r=.agg (Ef { c with trap:=t,edge:=e,acc:=a } V C)∧S'.toks=S.toks∧∃m,S'.boxes=S.boxes++m):=by
 have hc:=Fc h;have hc2:cellsOf (.agg (Ef { c with trap:=t,edge:=e,acc:=a } V C))=some (Ef { c with trap:=t,edge:=e,acc:=a } V C):=by
  rcases h.shapes with⟨⟨v1,v2,rfl⟩|⟨v1,rfl⟩,⟨c1,c2,rfl⟩|⟨c1,rfl⟩⟩<;>rfl
 refine Runs.run func124 ?_;refine Tr (b:=S.boxes.length) (cs:=Ef c V C) rfl rfl ?_ (hc:=hc);refine Lq (b:=S.boxes.length+1) (by simp) rfl ?_;obtain⟨T,hT⟩:∃T:St,T=⟨S.boxes++[[Ef c V C]]++[[zCf]],S.toks⟩:=⟨_,rfl⟩
 refine Be T ?_ hT.symm;have z1:T.boxes[S.boxes.length]?=some [Ef c V C]:=by rw[hT];simp
 have l1:S.boxes.length+1<T.boxes.length:=by rw[hT];simp
 have z2:T.boxes[S.boxes.length+1]?=some [zCf]:=by rw[hT];simp
 refine Cc z1 rfl ?_;refine Cc (b:=S.boxes.length) (Eh (by omega)) rfl ?_;refine Cc (b:=S.boxes.length) (Eh (by simp;omega)) rfl ?_;refine Aw (b:=S.boxes.length) (Eh (by simp;omega)) ?_;refine Cc (b:=S.boxes.length+1) (cs:=zCf) (xs:=Ef { c with trap:=t,edge:=e,acc:=a } V C) (cs':=Ef { c with trap:=t,edge:=e,acc:=a } V C) (by rw[Fq (by omega),Fq (by omega),Fq (by omega)];exact z2) rfl ?_ (hc:=hc2);refine Bc func124 (h:=Ee rfl rfl (Eh (by simp;omega)) rfl) ⟨_,rfl,rfl,by rw[hT],?_⟩;rw[hT];refine⟨[[Ef { c with trap:=t,edge:=e,acc:=a } V C],[Ef { c with trap:=t,edge:=e,acc:=a } V C]],?_⟩;rw[Au4,Au4,Au4,A4p,Fp];rfl
structure SpS (n:Nd)(S:St)(bc le:Nat)(V C:AV)(ids:List Nat)(c:Cf)(e:Eg):Prop where
 z0:S.boxes[0]?=some [Kp n]
 z2:S.boxes[2]?=some [zCf]
 c:CfS S bc V C ids c
 e:S.boxes[le]?=some [H5 e]
 ge:3≤bc∧3≤le∧le≠bc∧∀i,i∈ids→3≤i∧i≠le
section
variable {n:Nd}{S:St}{bc le:Nat}{V C:AV}{ids:List Nat}{c:Cf}{e:Eg}
theorem SpS.chg{S':St}{c':Cf}(h:SpS n S bc le V C ids c e)(hc:CfS S' bc V C ids c')(hch:Chg (bc::ids) S.boxes S'.boxes):SpS n S' bc le V C ids c' e:=by
 have hg:=h.ge;have key:∀i,i<3∨i=le→i∉bc::ids:=fun i hi hm=>by
  rcases zzq13.1 hm with rfl|hm
  ·omega
  ·have:=hg.2.2.2 i hm;omega
 exact⟨(hch.2 0 (Aa h.z0) (key 0 (by omega))).trans h.z0,(hch.2 2 (Aa h.z2) (key 2 (by omega))).trans h.z2,hc,(hch.2 le (Aa h.e) (key le (.inr rfl))).trans h.e,hg⟩
theorem SpS.more{S':St}{m:List (List (List AV))}(h:SpS n S bc le V C ids c e)(hb:S'.boxes=S.boxes++m):SpS n S' bc le V C ids c e:=by
 have gx:∀{i:Nat} {y:List (List AV)},S.boxes[i]?=some y→S'.boxes[i]?=some y:=fun{i y} h=>by rw[hb,Cs (Aa h)];exact h
 exact⟨gx h.z0,gx h.z2,h.c.more hb,gx h.e,h.ge⟩
end
theorem Tb{d:Nat}(r:VR):Sh d (vR3 r) (vR3 r):=by
 have h:=(ShL.cons (.val _) (.cons (.val _) (.cons (.val _) .nil)):ShL d [vi r.1,vi r.2.1,vi r.2.2] [vi r.1,vi r.2.1,vi r.2.2]).get;exact .tup _ _ h.1 h.2
theorem Awr(r:List (Bool×Int))(x d:Int):(Nw r x d).2.1=0∨(Nw r x d).2.1=1∨(Nw r x d).2.1=2:=by
 unfold Nw;split
 ·split<;>simp
 ·simp
theorem Ass(x d:Int):(Ns x d).2.1=0∨(Ns x d).2.1=3:=by
 unfold Ns;split<;>simp
theorem Xs(n:Nd)(c:Cf){e:Nd}(h:FE e):∀d,0≤(C9 n c e d).2.1∧(C9 n c e d).2.1≤3:=by
 induction h with
 |num m h0 h1=>intro d;rw[Y7];simp[Ad6,Tp]
 |var s h=>intro d;rw[Y7];simp[Ad6,Tp]
 |len s h=>intro d;rw[Y7];simp[Ad6,Tp]
 |cell s a h ha ih=>
  intro d;have:=ih d;rcases hv:C9 n c a d with⟨v,t,d1⟩
  rw[hv]at this;rw[Agh hv];split
  ·have h3:Tp n c 3 s 0 ([v],0,d1)=Nw (Xn n c s) v d1:=by simp[Tp]
   rw[h3];have:=Awr (Xn n c s) v d1;omega
  ·exact this
 |neg a ha ih=>
  intro d;have:=ih d;rcases hv:C9 n c a d with⟨v,t,d1⟩
  rw[hv]at this;rw[Agh hv];split
  ·have h3:Tp n c 5 [] 0 ([v],0,d1)=Ns (IntKind.i64.wrap (-v)) d1:=by simp[Tp]
   rw[h3];have:=Ass (IntKind.i64.wrap (-v)) d1;omega
  ·exact this
 |two k a b hk' ha hb iha ihb=>
  intro d;have h1:=iha d;rcases hv:C9 n c a d with⟨v,t,d1⟩
  rw[hv]at h1;have h2:=ihb d1;rcases hv2:C9 n c b d1 with⟨v2,t2,d2⟩
  rw[hv2]at h2;rw[Avo hv hv2];split
  ·split
   ·have h3:∃x,Tp n c k [] 0 ([v,v2],0,d2)=Ns x d2:=⟨_,by simp[Tp];rfl⟩
    obtain⟨x,h3⟩:=h3;rw[h3];have:=Ass x d2;omega
   ·exact h2
  ·exact h1
def H6(i:Nat)(t1 t2:Int)(q:DR):Cf:=if q.2.1=0 then{ q.1 with pt:=if q.2.2.2=true then t1 else t2 }else{ q.1 with trap:=q.2.1,edge:=(i:Int),acc:=if q.2.1=4∨q.2.1=5 then 0 else q.2.2.1 }
section
variable {n:Nd}{S:St}{bc le:Nat}{V C:AV}{ids:List Nat}{c:Cf}
abbrev SpA(n:Nd)(S:St)(bc le:Nat)(inp:List Int)(at_:Nat)(M:Cf):Prop:=
 AK X ⟨76,f76,0,0⟩ (Lm false 9 f76) [(2,.sl (Fe inp) .no),(3,.ptr 0 0 0),(6,.ptr 2 0 0),(7,.ptr bc 0 0),(8,vi at_),(9,.ptr le 0 0)] S (fun e S'=>e=.ret (cf M)∧S'=⟨[],[]⟩)
theorem Au2{inp:List Int}{i:Nat}{f t k t2:Int}{y:Bool}{x:Nd}(hk':k=6∨k=7)(hA:SpS n S bc le V C ids c ⟨f,t,k,y,x⟩)(hok:CfOk c):SpA n S bc le inp i (H6 i t t2 (c,0,0,true)):=by
 have e1:H6 i t t2 (c,0,0,true)={ c with pt:=t }:=by simp[H6]
 rw[e1];have hc2:=hA.c.upd (c':={ c with pt:=t }) rfl rfl;have hB:=hA.chg hc2 ((Cw S.boxes bc _).more fun i hi=>by simp at hi;simp[hi]);have hOK:CfOk { c with pt:=t }:=⟨hok.vars,hok.cells,hok.rows⟩
 rcases hk' with rfl|rfl <;>
 ·refine D5 ?_;refine Cb 60 rfl ?_;refine Aw hA.e ?_
  iterate 5 refine Cq ?_
  refine Aw hA.e ?_;refine Cc hA.c.box rfl ?_;refine Aw hB.c.box ?_;refine Cc (xs:=Ef ({ c with pt:=t }) V C) (cs':=Ef ({ c with pt:=t }) V C) hB.z2 rfl ?_ (hc:=Fc hB.c.cf);refine E8 (B:=⟨76,_,0,0⟩) func76 (h:=Ee rfl rfl (Eh (Aa hB.z2)) rfl) 0 (Bo _) ?_ (fun rows hr=>by simp at hr) ⟨rfl,rfl⟩;exact(hB.c.cf.chg (Cw _ 2 _) fun i hi hi2=>by simp at hi2;have:=hB.ge.2.2.2 i hi;omega).fz hOK
theorem A4o(hk:VOk n c){inp:List Int}{i:Nat}{f t t2:Int}{y:Bool}{s:List UInt8}{a:Nd}(hA:SpS n S bc le V C ids c ⟨f,t,1,y,.mk 21 s 0 [a]⟩)(hs:E6 0 (Ax n 31) s≥0)(ha:FE a)(ka:Ff (Ax n 31) (Ax n 32) a=true) :
 SpA n S bc le inp i (H6 i t t2 (Rz n inp c 1 y (.mk 21 s 0 [a]))):=by
 have hok:=hk.ok;obtain⟨iv,v0,h1,h2,_⟩:=hk.var hs;have kl:=hk.kl;have hd1:=G9 n 31;have hq:=Us (Ax n 31) s (by omega);rw[h1]at hq;have hiv:=Aa h2;have hpv:=Sq n c hk ha ka 0;have okP:Ok 0 0 (.agg (Kp n)):=(inferInstance:OK 0 0 (.agg (Kp n))).ok;have hvt:=Xs n c ha 0;have e0:Rz n inp c 1 y (.mk 21 s 0 [a])=if (C9 n c a 0).2.1=0 then(Wk n c s (C9 n c a 0).1,0,(C9 n c a 0).2.2,true)else(c,(C9 n c a 0).2.1,(C9 n c a 0).2.2,true):=rfl;rw[e0];rcases hv:C9 n c a 0 with⟨v,tt,d1⟩
 rw[hv]at hpv hvt;simp only at hvt⊢;refine D5 ?_;refine Cb 60 rfl ?_;refine Aw hA.e ?_;refine Do ?_;refine De 0 (by kernel_rfl) ?_;refine A2 (Aq hA.z0) ?_
 iterate 2 refine Av ?_
 refine A2 (Aq hA.e) ?_;refine Eo (fun S'=>Cu rfl rfl rfl rfl rfl rfl rfl rfl rfl (by decide) (Am (l:=[a]) (i:=0) rfl)) ?_;refine Av ?_;refine A2 (Aq hA.c.box) ?_
 iterate 0 refine Av ?_
 refine A2 (Rr hpv (.cons (.same _ okP) (.cons (.same _ (inferInstance:OK 0 0 (nd a)).ok) (.cons (hA.c.cf.fz hok) (.cons (.same _ (.val _)) .nil)))) (Tb _)) ?_
 iterate 7 refine Av ?_
 refine Gt ?_;refine F7 (fun g=>?_) (fun g=>?_)
 ·have gt:¬tt=0:=by simpa using(show (tt != 0)=true from g)
  have e1:H6 i t t2 (if tt=0 then(Wk n c s v,0,d1,true)else(c,tt,d1,true))={ c with trap:=tt,edge:=(i:Int),acc:=d1 }:=by
   rw[if_neg gt];unfold H6;rw[if_neg gt,if_neg (by simp only;omega)]
  rw[e1];refine Aw hA.c.box ?_;refine G3 (O6 hA.c.cf (tt) i (d1)) ?_;intro r W hP _ _;obtain⟨rfl,htW,mW,hmW⟩:=hP;have hW:=hA.more hmW;have hc2:cellsOf (.agg (Ef { c with trap:=tt,edge:=(i:Int),acc:=d1 } V C))=some (Ef { c with trap:=tt,edge:=(i:Int),acc:=d1 } V C):=by
   rcases hA.c.cf.shapes with⟨⟨v1,v2,rfl⟩|⟨v1,rfl⟩,⟨c1,c2,rfl⟩|⟨c1,rfl⟩⟩<;>rfl
  refine Cb 60 rfl ?_;refine Cc (xs:=Ef { c with trap:=tt,edge:=(i:Int),acc:=d1 } V C) (cs':=Ef { c with trap:=tt,edge:=(i:Int),acc:=d1 } V C) hW.z2 rfl ?_ (hc:=hc2);refine E8 (B:=⟨76,_,0,0⟩) func76 (h:=Ee rfl rfl (Eh (Aa hW.z2)) rfl) 0 (Bo _) ?_ (fun rows hr=>by simp at hr) ⟨rfl,rfl⟩;have hcf:=hW.c.cf.chg (Cw W.boxes 2 [Ef { c with trap:=tt,edge:=(i:Int),acc:=d1 } V C]) fun i hi hi2=>by simp at hi2;have:=hW.ge.2.2.2 i hi;omega
  obtain⟨V',C',ys,q1,q2,q3,q4,q5,q6,q7⟩:=hcf.ex;simp only[AV.agg.injEq,List.cons.injEq,and_true,true_and]at q1;obtain⟨rfl,rfl⟩:=q1;have hfz:=CfB.fz (S:=⟨W.boxes.set 2 [Ef { c with trap:=tt,edge:=(i:Int),acc:=d1 } V C],W.toks⟩) (ids:=ids) (c:={ c with trap:=tt,edge:=(i:Int),acc:=d1 }) ⟨V,C,ys,rfl,q2,q3,q4,q5,q6,q7⟩ ⟨hok.vars,hok.cells,hok.rows⟩;exact hfz
 ·have gt:tt=0:=by simpa using(show (tt != 0)=false from g)
  have e1:H6 i t t2 (if tt=0 then(Wk n c s v,0,d1,true)else(c,tt,d1,true))={ c with vars:=c.vars.set iv v,pt:=t }:=by
   rw[if_pos gt];unfold H6 Wk;rw[h1];rfl
  rw[e1];obtain⟨bv,ex,hV,hb,hrow⟩:=hA.c.vars h2;obtain⟨hwr,hch⟩:=hA.c.wrV v hiv hV hb;have hA1:=hA.chg hwr (hch.more fun i hi=>by simp[hi]);subst hV;refine De 1024 (by kernel_rfl) ?_;refine Av ?_;refine A2 (Aq hA.c.box) ?_;refine Av ?_;refine A2 (Aq hA.z0) ?_
  iterate 2 refine Av ?_
  refine A2 (Aq hA.e) ?_;refine Js hq ?_;refine Av ?_;refine A2 (Gd (hj:=by simpa[Fw]using hiv) (hb:=hb) (hr:=hrow) (hl:=rfl)) ?_;refine Ch (J1 hb hrow rfl) ?_;refine Gt ?_;refine Aw hA1.e ?_;refine Cc hA1.c.box rfl ?_;have hc2:=hA1.c.upd (c':={ c with vars:=c.vars.set iv v,pt:=t }) rfl rfl;have hB:=hA1.chg hc2 ((Cw _ bc _).more fun i hi=>by simp at hi;simp[hi]);have hOK:CfOk { c with vars:=c.vars.set iv v,pt:=t }:=⟨by simpa using hok.vars,hok.cells,hok.rows⟩
  refine Aw hB.c.box ?_;refine Cc (xs:=Ef { c with vars:=c.vars.set iv v,pt:=t } (.bsl bv c.vars.length) C) (cs':=Ef { c with vars:=c.vars.set iv v,pt:=t } (.bsl bv c.vars.length) C) hB.z2 rfl ?_ (hc:=Fc hB.c.cf);refine E8 (B:=⟨76,_,0,0⟩) func76 (h:=Ee rfl rfl (Eh (Aa hB.z2)) rfl) 0 (Bo _) ?_ (fun rows hr=>by simp at hr) ⟨rfl,rfl⟩;exact(hB.c.cf.chg (Cw _ 2 _) fun i hi hi2=>by simp at hi2;have:=hB.ge.2.2.2 i hi;omega).fz hOK
theorem A4n(hk:VOk n c){inp:List Int}{i:Nat}{f t t2:Int}{y:Bool}{s:List UInt8}{a b:Nd}(hA:SpS n S bc le V C ids c ⟨f,t,2,y,.mk 22 s 0 [a,b]⟩)(hs:E6 0 (Ax n 32) s≥0)(ha:FE a)(ka:Ff (Ax n 31) (Ax n 32) a=true)(hb':FE b)(kb:Ff (Ax n 31) (Ax n 32) b=true) :
 SpA n S bc le inp i (H6 i t t2 (Rz n inp c 2 y (.mk 22 s 0 [a,b]))):=by
 have hok:=hk.ok;obtain⟨iv,r,h1,h2,h3,h4⟩:=hk.row hs;have kl:=hk.kl;have hd1:=G9 n 32;have hq:=Us (Ax n 32) s (by omega);rw[h1]at hq;have hiv:=Aa h2;have hpv:=Sq n c hk ha ka 0;have hpw:=Sq n c hk hb' kb (C9 n c a 0).2.2;have okP:Ok 0 0 (.agg (Kp n)):=(inferInstance:OK 0 0 (.agg (Kp n))).ok;have hvt:=Xs n c ha 0;have hvw:=Xs n c hb' (C9 n c a 0).2.2;have e0:Rz n inp c 2 y (.mk 22 s 0 [a,b])=Nx n c [a,b] fun i v d=>if Bl i 0 (((Xn n c s).length:Int)-1)=true then(Aij n c s i v,0,d,true)else(c,1,d,true):=rfl;rw[e0];unfold Nx;simp only;rw[h3];rcases hv:C9 n c a 0 with⟨v,tt,d1⟩
 rw[hv]at hpv hvt hpw hvw;simp only at hvt hpw hvw⊢;rcases hv2:C9 n c b d1 with⟨v2,tt2,d2⟩
 rw[hv2]at hpw hvw;simp only at hvw⊢;refine D5 ?_;refine Cb 60 rfl ?_;refine Aw hA.e ?_;refine Cq ?_;refine Do ?_;refine De 0 (by kernel_rfl) ?_;refine A2 (Aq hA.z0) ?_
 iterate 2 refine Av ?_
 refine A2 (Aq hA.e) ?_;refine Eo (fun S'=>Cu rfl rfl rfl rfl rfl rfl rfl rfl rfl (by decide) (Am (l:=[a,b]) (i:=0) rfl)) ?_;refine Av ?_;refine A2 (Aq hA.c.box) ?_
 iterate 0 refine Av ?_
 refine A2 (Rr hpv (.cons (.same _ okP) (.cons (.same _ (inferInstance:OK 0 0 (nd a)).ok) (.cons (hA.c.cf.fz hok) (.cons (.same _ (.val _)) .nil)))) (Tb _)) ?_
 iterate 7 refine Av ?_
 refine Gt ?_;refine F7 (fun g=>?_) (fun g=>?_)
 ·have gt:¬tt=0:=by simpa using(show (tt != 0)=true from g)
  rw[if_neg gt];have e1:H6 i t t2 (c,tt,d1,true)={ c with trap:=tt,edge:=(i:Int),acc:=d1 }:=by unfold H6;rw[if_neg gt,if_neg (by simp only;omega)]
  rw[e1];refine Aw hA.c.box ?_;refine G3 (O6 hA.c.cf (tt) i (d1)) ?_;intro r W hP _ _;obtain⟨rfl,htW,mW,hmW⟩:=hP;have hW:=hA.more hmW;have hc2:cellsOf (.agg (Ef { c with trap:=tt,edge:=(i:Int),acc:=d1 } V C))=some (Ef { c with trap:=tt,edge:=(i:Int),acc:=d1 } V C):=by
   rcases hA.c.cf.shapes with⟨⟨v1,v2,rfl⟩|⟨v1,rfl⟩,⟨c1,c2,rfl⟩|⟨c1,rfl⟩⟩<;>rfl
  refine Cb 60 rfl ?_;refine Cc (xs:=Ef { c with trap:=tt,edge:=(i:Int),acc:=d1 } V C) (cs':=Ef { c with trap:=tt,edge:=(i:Int),acc:=d1 } V C) hW.z2 rfl ?_ (hc:=hc2);refine E8 (B:=⟨76,_,0,0⟩) func76 (h:=Ee rfl rfl (Eh (Aa hW.z2)) rfl) 0 (Bo _) ?_ (fun rows hr=>by simp at hr) ⟨rfl,rfl⟩;have hcf:=hW.c.cf.chg (Cw W.boxes 2 [Ef { c with trap:=tt,edge:=(i:Int),acc:=d1 } V C]) fun i hi hi2=>by simp at hi2;have:=hW.ge.2.2.2 i hi;omega
  obtain⟨V',C',ys,q1,q2,q3,q4,q5,q6,q7⟩:=hcf.ex;simp only[AV.agg.injEq,List.cons.injEq,and_true,true_and]at q1;obtain⟨rfl,rfl⟩:=q1;have hfz:=CfB.fz (S:=⟨W.boxes.set 2 [Ef { c with trap:=tt,edge:=(i:Int),acc:=d1 } V C],W.toks⟩) (ids:=ids) (c:={ c with trap:=tt,edge:=(i:Int),acc:=d1 }) ⟨V,C,ys,rfl,q2,q3,q4,q5,q6,q7⟩ ⟨hok.vars,hok.cells,hok.rows⟩;exact hfz
 have gt:tt=0:=by simpa using(show (tt != 0)=false from g)
 rw[if_pos gt];refine De 0 (by kernel_rfl) ?_;refine A2 (Aq hA.z0) ?_
 iterate 2 refine Av ?_
 refine A2 (Aq hA.e) ?_;refine Eo (fun S'=>Cu rfl rfl rfl rfl rfl rfl rfl rfl rfl (by decide) (Am (l:=[a,b]) (i:=1) rfl)) ?_;refine Av ?_;refine A2 (Aq hA.c.box) ?_
 iterate 1 refine Av ?_
 refine A2 (Rr hpw (.cons (.same _ okP) (.cons (.same _ (inferInstance:OK 0 0 (nd b)).ok) (.cons (hA.c.cf.fz hok) (.cons (.same _ (.val _)) .nil)))) (Tb _)) ?_
 iterate 7 refine Av ?_
 refine Gt ?_;refine F7 (fun g2=>?_) (fun g2=>?_)
 ·have gt2:¬tt2=0:=by simpa using(show (tt2 != 0)=true from g2)
  rw[if_neg gt2];have e1:H6 i t t2 (c,tt2,d2,true)={ c with trap:=tt2,edge:=(i:Int),acc:=d2 }:=by unfold H6;rw[if_neg gt2,if_neg (by simp only;omega)]
  rw[e1];refine Aw hA.c.box ?_;refine G3 (O6 hA.c.cf (tt2) i (d2)) ?_;intro r W hP _ _;obtain⟨rfl,htW,mW,hmW⟩:=hP;have hW:=hA.more hmW;have hc2:cellsOf (.agg (Ef { c with trap:=tt2,edge:=(i:Int),acc:=d2 } V C))=some (Ef { c with trap:=tt2,edge:=(i:Int),acc:=d2 } V C):=by
   rcases hA.c.cf.shapes with⟨⟨v1,v2,rfl⟩|⟨v1,rfl⟩,⟨c1,c2,rfl⟩|⟨c1,rfl⟩⟩<;>rfl
  refine Cb 60 rfl ?_;refine Cc (xs:=Ef { c with trap:=tt2,edge:=(i:Int),acc:=d2 } V C) (cs':=Ef { c with trap:=tt2,edge:=(i:Int),acc:=d2 } V C) hW.z2 rfl ?_ (hc:=hc2);refine E8 (B:=⟨76,_,0,0⟩) func76 (h:=Ee rfl rfl (Eh (Aa hW.z2)) rfl) 0 (Bo _) ?_ (fun rows hr=>by simp at hr) ⟨rfl,rfl⟩;have hcf:=hW.c.cf.chg (Cw W.boxes 2 [Ef { c with trap:=tt2,edge:=(i:Int),acc:=d2 } V C]) fun i hi hi2=>by simp at hi2;have:=hW.ge.2.2.2 i hi;omega
  obtain⟨V',C',ys,q1,q2,q3,q4,q5,q6,q7⟩:=hcf.ex;simp only[AV.agg.injEq,List.cons.injEq,and_true,true_and]at q1;obtain⟨rfl,rfl⟩:=q1;have hfz:=CfB.fz (S:=⟨W.boxes.set 2 [Ef { c with trap:=tt2,edge:=(i:Int),acc:=d2 } V C],W.toks⟩) (ids:=ids) (c:={ c with trap:=tt2,edge:=(i:Int),acc:=d2 }) ⟨V,C,ys,rfl,q2,q3,q4,q5,q6,q7⟩ ⟨hok.vars,hok.cells,hok.rows⟩;exact hfz
 have gt2:tt2=0:=by simpa using(show (tt2 != 0)=false from g2)
 rw[if_pos gt2];have e1:H6 i t t2 (c,1,d2,true)={ c with trap:=1,edge:=(i:Int),acc:=d2 }:=by unfold H6;rw[if_neg (by simp),if_neg (by simp)]
 obtain⟨bb,ys,ex,yy,hC,hyl,hb,hyy,hrow,hsl⟩:=hA.c.row h2;have hw1:IntKind.i64.wrap ((r.length:Int)-1)=(r.length:Int)-1:=Ac (by omega) (by omega);subst hC;rcases hsl with⟨b2,ex2,rfl,hb2⟩|⟨hemp,sp,rfl⟩
 ·rw[G5]at hyy hrow;refine Aw hA.z0 ?_;refine Aw hA.e ?_;refine Im hq ?_;refine Aw hA.c.box ?_;refine Jr iv hiv hb hrow rfl ?_;refine Hc hb hrow ?_;refine Im (H4 v 0 (IntKind.i64.wrap ((r.length:Int)-1))) ?_;rw[hw1];refine F7 (fun g3=>?_) (fun g3=>?_)
  ·have g3':Bl v 0 ((r.length:Int)-1)=false:=by simpa using g3
   rw[g3',if_neg (by decide),e1];generalize hCC:AV.bsl bb c.cells.length=C at *;refine Aw hA.c.box ?_;refine G3 (O6 hA.c.cf (1) i (d2)) ?_;intro r W hP _ _;obtain⟨rfl,htW,mW,hmW⟩:=hP;have hW:=hA.more hmW;have hc2:cellsOf (.agg (Ef { c with trap:=1,edge:=(i:Int),acc:=d2 } V C))=some (Ef { c with trap:=1,edge:=(i:Int),acc:=d2 } V C):=by
    rcases hA.c.cf.shapes with⟨⟨v1,v2,rfl⟩|⟨v1,rfl⟩,⟨c1,c2,rfl⟩|⟨c1,rfl⟩⟩<;>rfl
   refine Cb 60 rfl ?_;refine Cc (xs:=Ef { c with trap:=1,edge:=(i:Int),acc:=d2 } V C) (cs':=Ef { c with trap:=1,edge:=(i:Int),acc:=d2 } V C) hW.z2 rfl ?_ (hc:=hc2);refine E8 (B:=⟨76,_,0,0⟩) func76 (h:=Ee rfl rfl (Eh (Aa hW.z2)) rfl) 0 (Bo _) ?_ (fun rows hr=>by simp at hr) ⟨rfl,rfl⟩;have hcf:=hW.c.cf.chg (Cw W.boxes 2 [Ef { c with trap:=1,edge:=(i:Int),acc:=d2 } V C]) fun i hi hi2=>by simp at hi2;have:=hW.ge.2.2.2 i hi;omega
   obtain⟨V',C',ys,q1,q2,q3,q4,q5,q6,q7⟩:=hcf.ex;simp only[AV.agg.injEq,List.cons.injEq,and_true,true_and]at q1;obtain⟨rfl,rfl⟩:=q1;have hfz:=CfB.fz (S:=⟨W.boxes.set 2 [Ef { c with trap:=1,edge:=(i:Int),acc:=d2 } V C],W.toks⟩) (ids:=ids) (c:={ c with trap:=1,edge:=(i:Int),acc:=d2 }) ⟨V,C,ys,rfl,q2,q3,q4,q5,q6,q7⟩ ⟨hok.vars,hok.cells,hok.rows⟩;exact hfz
  ·have g3':Bl v 0 ((r.length:Int)-1)=true:=by simpa using g3
   rw[g3',if_pos rfl];have hb1:=Cn.1 g3';obtain⟨jj,rfl⟩:∃jj:Nat,v=jj:=⟨v.toNat,by omega⟩
   have hjl:jj<r.length:=by omega
   obtain⟨z,hz⟩:=Ab r hjl;have hrow2:(I9 r++ex2)[jj]?=some (Nv z):=by rw[Cs (by rw[G5];exact hjl)];exact Ev (f:=Nv) hz
   obtain⟨_,hwr,hch⟩:=hA.c.wrC v2 h2 hjl rfl hyl hb hyy hb2;have hA1:=hA.chg hwr (hch.more fun i hi=>by simp[hi]);have e2:H6 i t t2 (Aij n c s (jj:Int) v2,0,d2,true)={ c with cells:=c.cells.set iv (r.set jj (true,v2)),pt:=t }:=by
    unfold H6 Aij;rw[h1,h3];rfl
   rw[e2];refine Aw hA.c.box ?_;refine Jr iv hiv hb hrow rfl ?_;refine Hc hb hrow ?_;refine Jr jj hjl hb2 hrow2 rfl ?_;refine Mn hb2 hrow2 rfl ?_;refine Aw hA1.e ?_;refine Cc hA1.c.box rfl ?_;have hc2:=hA1.c.upd (c':={ c with cells:=c.cells.set iv (r.set jj (true,v2)),pt:=t }) rfl rfl;have hB:=hA1.chg hc2 ((Cw _ bc _).more fun i hi=>by simp at hi;simp[hi]);have hOK:CfOk { c with cells:=c.cells.set iv (r.set jj (true,v2)),pt:=t }:=⟨hok.vars,by simpa using hok.cells,fun x hx=>by
    rcases Wt hx with hx|rfl
    ·exact hok.rows x hx
    ·rw[Agm];omega⟩
   refine Aw hB.c.box ?_;refine Cc (xs:=Ef ({ c with cells:=c.cells.set iv (r.set jj (true,v2)),pt:=t }) (V) (.bsl bb c.cells.length)) (cs':=Ef ({ c with cells:=c.cells.set iv (r.set jj (true,v2)),pt:=t }) (V) (.bsl bb c.cells.length)) hB.z2 rfl ?_ (hc:=Fc hB.c.cf);refine E8 (B:=⟨76,_,0,0⟩) func76 (h:=Ee rfl rfl (Eh (Aa hB.z2)) rfl) 0 (Bo _) ?_ (fun rows hr=>by simp at hr) ⟨rfl,rfl⟩;exact(hB.c.cf.chg (Cw _ 2 _) fun i hi hi2=>by simp at hi2;have:=hB.ge.2.2.2 i hi;omega).fz hOK
 ·have h0:r=[]:=by cases r with|nil=>rfl|cons a l=>simp[I9]at hemp
  subst h0;refine Aw hA.z0 ?_;refine Aw hA.e ?_;refine Im hq ?_;refine Aw hA.c.box ?_;refine Jr iv hiv hb hrow rfl ?_;refine Hc hb hrow ?_;refine Im (H4 v 0 (IntKind.i64.wrap (((([]:List (Bool×Int)).length:Nat):Int)-1))) ?_;rw[hw1];refine F7 (fun g3=>?_) (fun g3=>?_)
  ·have g3':Bl v 0 (((([]:List (Bool×Int)).length:Nat):Int)-1)=false:=by simpa using g3
   rw[g3',if_neg (by decide),e1];generalize hCC:AV.bsl bb c.cells.length=C at *;refine Aw hA.c.box ?_;refine G3 (O6 hA.c.cf (1) i (d2)) ?_;intro r W hP _ _;obtain⟨rfl,htW,mW,hmW⟩:=hP;have hW:=hA.more hmW;have hc2:cellsOf (.agg (Ef { c with trap:=1,edge:=(i:Int),acc:=d2 } V C))=some (Ef { c with trap:=1,edge:=(i:Int),acc:=d2 } V C):=by
    rcases hA.c.cf.shapes with⟨⟨v1,v2,rfl⟩|⟨v1,rfl⟩,⟨c1,c2,rfl⟩|⟨c1,rfl⟩⟩<;>rfl
   refine Cb 60 rfl ?_;refine Cc (xs:=Ef { c with trap:=1,edge:=(i:Int),acc:=d2 } V C) (cs':=Ef { c with trap:=1,edge:=(i:Int),acc:=d2 } V C) hW.z2 rfl ?_ (hc:=hc2);refine E8 (B:=⟨76,_,0,0⟩) func76 (h:=Ee rfl rfl (Eh (Aa hW.z2)) rfl) 0 (Bo _) ?_ (fun rows hr=>by simp at hr) ⟨rfl,rfl⟩;have hcf:=hW.c.cf.chg (Cw W.boxes 2 [Ef { c with trap:=1,edge:=(i:Int),acc:=d2 } V C]) fun i hi hi2=>by simp at hi2;have:=hW.ge.2.2.2 i hi;omega
   obtain⟨V',C',ys,q1,q2,q3,q4,q5,q6,q7⟩:=hcf.ex;simp only[AV.agg.injEq,List.cons.injEq,and_true,true_and]at q1;obtain⟨rfl,rfl⟩:=q1;have hfz:=CfB.fz (S:=⟨W.boxes.set 2 [Ef { c with trap:=1,edge:=(i:Int),acc:=d2 } V C],W.toks⟩) (ids:=ids) (c:={ c with trap:=1,edge:=(i:Int),acc:=d2 }) ⟨V,C,ys,rfl,q2,q3,q4,q5,q6,q7⟩ ⟨hok.vars,hok.cells,hok.rows⟩;exact hfz
  ·have g3':Bl v 0 (((([]:List (Bool×Int)).length:Nat):Int)-1)=true:=by simpa using g3
   have:=Cn.1 g3';simp only[Wx]at this;omega
theorem A2p(hk:VOk n c){inp:List Int}(hu:0≤c.used∧c.used≤100){i:Nat}{f t t2:Int}{y:Bool}{s:List UInt8}(hA:SpS n S bc le V C ids c ⟨f,t,3,y,.mk 23 s 0 []⟩)(hs:E6 0 (Ax n 31) s≥0):SpA n S bc le inp i (H6 i t t2 (Rz n inp c 3 y (.mk 23 s 0 []))):=by
 have hok:=hk.ok;obtain⟨iv,v0,h1,h2,_⟩:=hk.var hs;have kl:=hk.kl;have hd1:=G9 n 31;have hq:=Us (Ax n 31) s (by omega);rw[h1]at hq;have hiv:=Aa h2;have hil:=D9 inp;have e0:Rz n inp c 3 y (.mk 23 s 0 [])=if (inp.length:Int)≤c.used then(c,5,0,true)else({ Wk n c s (inp.getD c.used.toNat 0)with used:=c.used+1 },0,0,true):=rfl;rw[e0];refine D5 ?_;refine Cb 60 rfl ?_;refine Aw hA.e ?_
 iterate 2 refine Cq ?_
 refine Do ?_;refine Aw hA.c.box ?_;refine F7 (fun g=>?_) (fun g=>?_)
 ·have g':(inp.length:Int)≤c.used:=by have:=A5 g;rw[hil]at this;exact this
  rw[if_pos g'];have e1:H6 i t t2 (c,5,0,true)={ c with trap:=5,edge:=(i:Int),acc:=0 }:=by unfold H6;rw[if_neg (by simp),if_pos (by simp)]
  rw[e1];refine Aw hA.c.box ?_;refine G3 (O6 hA.c.cf (5) i (0)) ?_;intro r W hP _ _;obtain⟨rfl,htW,mW,hmW⟩:=hP;have hW:=hA.more hmW;have hc2:cellsOf (.agg (Ef { c with trap:=5,edge:=(i:Int),acc:=0 } V C))=some (Ef { c with trap:=5,edge:=(i:Int),acc:=0 } V C):=by
   rcases hA.c.cf.shapes with⟨⟨v1,v2,rfl⟩|⟨v1,rfl⟩,⟨c1,c2,rfl⟩|⟨c1,rfl⟩⟩<;>rfl
  refine Cb 60 rfl ?_;refine Cc (xs:=Ef { c with trap:=5,edge:=(i:Int),acc:=0 } V C) (cs':=Ef { c with trap:=5,edge:=(i:Int),acc:=0 } V C) hW.z2 rfl ?_ (hc:=hc2);refine E8 (B:=⟨76,_,0,0⟩) func76 (h:=Ee rfl rfl (Eh (Aa hW.z2)) rfl) 0 (Bo _) ?_ (fun rows hr=>by simp at hr) ⟨rfl,rfl⟩;have hcf:=hW.c.cf.chg (Cw W.boxes 2 [Ef { c with trap:=5,edge:=(i:Int),acc:=0 } V C]) fun i hi hi2=>by simp at hi2;have:=hW.ge.2.2.2 i hi;omega
  obtain⟨V',C',ys,q1,q2,q3,q4,q5,q6,q7⟩:=hcf.ex;simp only[AV.agg.injEq,List.cons.injEq,and_true,true_and]at q1;obtain⟨rfl,rfl⟩:=q1;have hfz:=CfB.fz (S:=⟨W.boxes.set 2 [Ef { c with trap:=5,edge:=(i:Int),acc:=0 } V C],W.toks⟩) (ids:=ids) (c:={ c with trap:=5,edge:=(i:Int),acc:=0 }) ⟨V,C,ys,rfl,q2,q3,q4,q5,q6,q7⟩ ⟨hok.vars,hok.cells,hok.rows⟩;exact hfz
 ·have g':¬(inp.length:Int)≤c.used:=by have:=Ba g;rw[hil]at this;exact this
  rw[if_neg g'];obtain⟨un,hun⟩:∃un:Nat,c.used=un:=⟨c.used.toNat,by omega⟩
  obtain⟨w,hw⟩:=Ab inp (i:=un) (by omega);have hw1:IntKind.i64.wrap (c.used+1)=c.used+1:=Ac (by omega) (by omega);have e1:H6 i t t2 ({ Wk n c s (inp.getD c.used.toNat 0)with used:=c.used+1 },0,0,true)={ c with vars:=c.vars.set iv w,used:=IntKind.i64.wrap (c.used+1),pt:=t }:=by
   unfold H6 Wk;rw[h1,Hl,hun,Hl,Aiq,hw,←hun,hw1];rfl
  rw[e1];obtain⟨bv,ex,hV,hb,hrow⟩:=hA.c.vars h2;obtain⟨hwr,hch⟩:=hA.c.wrV w hiv hV hb;have hA1:=hA.chg hwr (hch.more fun i hi=>by simp[hi]);subst hV;refine De 16384 (by kernel_rfl) ?_;refine Av ?_;refine A2 (Aq hA.c.box) ?_;refine Av ?_;refine A2 (Aq hA.z0) ?_
  iterate 2 refine Av ?_
  refine A2 (Aq hA.e) ?_;refine Js hq ?_
  iterate 2 refine Av ?_
  refine A2 (Aq hA.c.box) ?_;refine Eo (fun S'=>Cu rfl rfl rfl rfl rfl rfl rfl rfl rfl hu.1 (by rw[hun,Hl];exact Y8 hw)) ?_;refine Av ?_;refine A2 (Gd (hj:=by simpa[Fw]using hiv) (hb:=hb) (hr:=hrow) (hl:=rfl)) ?_;refine Ch (J1 hb hrow rfl) ?_;refine Gt ?_;refine Aw hA1.c.box ?_;refine Cc hA1.c.box rfl ?_;have hc2:=hA1.c.upd (c':={ c with vars:=c.vars.set iv w,used:=IntKind.i64.wrap (c.used+1) }) rfl rfl;have hA2:=hA1.chg hc2 ((Cw _ bc _).more fun i hi=>by simp at hi;simp[hi]);refine Aw hA2.e ?_;refine Cc hA2.c.box rfl ?_;have hc3:=hA2.c.upd (c':={ c with vars:=c.vars.set iv w,used:=IntKind.i64.wrap (c.used+1),pt:=t }) rfl rfl;have hB:=hA2.chg hc3 ((Cw _ bc _).more fun i hi=>by simp at hi;simp[hi]);have hOK:CfOk { c with vars:=c.vars.set iv w,used:=IntKind.i64.wrap (c.used+1),pt:=t }:=⟨by simpa using hok.vars,hok.cells,hok.rows⟩
  refine Aw hB.c.box ?_;refine Cc (xs:=Ef ({ c with vars:=c.vars.set iv w,used:=IntKind.i64.wrap (c.used+1),pt:=t }) (.bsl bv c.vars.length) (C)) (cs':=Ef ({ c with vars:=c.vars.set iv w,used:=IntKind.i64.wrap (c.used+1),pt:=t }) (.bsl bv c.vars.length) (C)) hB.z2 rfl ?_ (hc:=Fc hB.c.cf);refine E8 (B:=⟨76,_,0,0⟩) func76 (h:=Ee rfl rfl (Eh (Aa hB.z2)) rfl) 0 (Bo _) ?_ (fun rows hr=>by simp at hr) ⟨rfl,rfl⟩;exact(hB.c.cf.chg (Cw _ 2 _) fun i hi hi2=>by simp at hi2;have:=hB.ge.2.2.2 i hi;omega).fz hOK
theorem SpS.setE{e:Eg}(h:SpS n S bc le V C ids c e)(e':Eg):SpS n ⟨S.boxes.set le [H5 e'],S.toks⟩ bc le V C ids c e':=by
 have hg:=h.ge;exact⟨by rw[Fq (by omega)];exact h.z0,by rw[Fq (by omega)];exact h.z2,h.c.chg (Cw S.boxes le _) (by simp;omega) fun i hi hi2=>by simp at hi2;have:=hg.2.2.2 i hi;omega,Eh (Aa h.e),hg⟩
theorem Ay8(hk:VOk n c){inp:List Int}{i:Nat}{f t t2:Int}{y:Bool}{x:Nd}(hA:SpS n S bc le V C ids c ⟨f,t,5,y,x⟩)(hx:FC x)(kx:Ff (Ax n 31) (Ax n 32) x=true):SpA n S bc le inp i (H6 i t t2 (Rz n inp c 5 y x)):=by
 have hok:=hk.ok;cases hx with
 |mk k a b h0 h1 ha hb=>
 obtain⟨n1,n2⟩:=Z7 kx;have hpv:=Sq n c hk ha n1 0;have hpw:=Sq n c hk hb n2 (C9 n c a 0).2.2;have okP:Ok 0 0 (.agg (Kp n)):=(inferInstance:OK 0 0 (.agg (Kp n))).ok;have hvt:=Xs n c ha 0;have hvw:=Xs n c hb (C9 n c a 0).2.2;have e0:Rz n inp c 5 y (.mk k [] 0 [a,b])=Nx n c [a,b] fun a b d=>if Oz k a b=true then(c,0,d,true)else(c,4,0,true):=rfl;rw[e0];unfold Nx;simp only;rcases hv:C9 n c a 0 with⟨v,tt,d1⟩
 rw[hv]at hpv hvt hpw hvw;simp only at hvt hpw hvw⊢;rcases hv2:C9 n c b d1 with⟨v2,tt2,d2⟩
 rw[hv2]at hpw hvw;simp only at hvw⊢;refine D5 ?_;refine Cb 60 rfl ?_;refine Aw hA.e ?_
 iterate 3 refine Cq ?_
 refine Cq ?_;refine Do ?_;refine De 0 (by kernel_rfl) ?_;refine A2 (Aq hA.z0) ?_
 iterate 2 refine Av ?_
 refine A2 (Aq hA.e) ?_;refine Eo (fun S'=>Cu rfl rfl rfl rfl rfl rfl rfl rfl rfl (by decide) (Am (l:=[a,b]) (i:=0) rfl)) ?_;refine Av ?_;refine A2 (Aq hA.c.box) ?_
 iterate 0 refine Av ?_
 refine A2 (Rr hpv (.cons (.same _ okP) (.cons (.same _ (inferInstance:OK 0 0 (nd a)).ok) (.cons (hA.c.cf.fz hok) (.cons (.same _ (.val _)) .nil)))) (Tb _)) ?_
 iterate 7 refine Av ?_
 refine Gt ?_;refine F7 (fun g=>?_) (fun g=>?_)
 ·have gt:¬tt=0:=by simpa using(show (tt != 0)=true from g)
  rw[if_neg gt];have e1:H6 i t t2 (c,tt,d1,true)={ c with trap:=tt,edge:=(i:Int),acc:=d1 }:=by unfold H6;rw[if_neg gt,if_neg (by simp only;omega)]
  rw[e1];refine Aw hA.c.box ?_;refine G3 (O6 hA.c.cf (tt) i (d1)) ?_;intro r W hP _ _;obtain⟨rfl,htW,mW,hmW⟩:=hP;have hW:=hA.more hmW;have hc2:cellsOf (.agg (Ef { c with trap:=tt,edge:=(i:Int),acc:=d1 } V C))=some (Ef { c with trap:=tt,edge:=(i:Int),acc:=d1 } V C):=by
   rcases hA.c.cf.shapes with⟨⟨v1,v2,rfl⟩|⟨v1,rfl⟩,⟨c1,c2,rfl⟩|⟨c1,rfl⟩⟩<;>rfl
  refine Cb 60 rfl ?_;refine Cc (xs:=Ef { c with trap:=tt,edge:=(i:Int),acc:=d1 } V C) (cs':=Ef { c with trap:=tt,edge:=(i:Int),acc:=d1 } V C) hW.z2 rfl ?_ (hc:=hc2);refine E8 (B:=⟨76,_,0,0⟩) func76 (h:=Ee rfl rfl (Eh (Aa hW.z2)) rfl) 0 (Bo _) ?_ (fun rows hr=>by simp at hr) ⟨rfl,rfl⟩;have hcf:=hW.c.cf.chg (Cw W.boxes 2 [Ef { c with trap:=tt,edge:=(i:Int),acc:=d1 } V C]) fun i hi hi2=>by simp at hi2;have:=hW.ge.2.2.2 i hi;omega
  obtain⟨V',C',ys,q1,q2,q3,q4,q5,q6,q7⟩:=hcf.ex;simp only[AV.agg.injEq,List.cons.injEq,and_true,true_and]at q1;obtain⟨rfl,rfl⟩:=q1;have hfz:=CfB.fz (S:=⟨W.boxes.set 2 [Ef { c with trap:=tt,edge:=(i:Int),acc:=d1 } V C],W.toks⟩) (ids:=ids) (c:={ c with trap:=tt,edge:=(i:Int),acc:=d1 }) ⟨V,C,ys,rfl,q2,q3,q4,q5,q6,q7⟩ ⟨hok.vars,hok.cells,hok.rows⟩;exact hfz
 have gt:tt=0:=by simpa using(show (tt != 0)=false from g)
 rw[if_pos gt];refine De 0 (by kernel_rfl) ?_;refine A2 (Aq hA.z0) ?_
 iterate 2 refine Av ?_
 refine A2 (Aq hA.e) ?_;refine Eo (fun S'=>Cu rfl rfl rfl rfl rfl rfl rfl rfl rfl (by decide) (Am (l:=[a,b]) (i:=1) rfl)) ?_;refine Av ?_;refine A2 (Aq hA.c.box) ?_
 iterate 1 refine Av ?_
 refine A2 (Rr hpw (.cons (.same _ okP) (.cons (.same _ (inferInstance:OK 0 0 (nd b)).ok) (.cons (hA.c.cf.fz hok) (.cons (.same _ (.val _)) .nil)))) (Tb _)) ?_
 iterate 7 refine Av ?_
 refine Gt ?_;refine F7 (fun g2=>?_) (fun g2=>?_)
 ·have gt2:¬tt2=0:=by simpa using(show (tt2 != 0)=true from g2)
  rw[if_neg gt2];have e1:H6 i t t2 (c,tt2,d2,true)={ c with trap:=tt2,edge:=(i:Int),acc:=d2 }:=by unfold H6;rw[if_neg gt2,if_neg (by simp only;omega)]
  rw[e1];refine Aw hA.c.box ?_;refine G3 (O6 hA.c.cf (tt2) i (d2)) ?_;intro r W hP _ _;obtain⟨rfl,htW,mW,hmW⟩:=hP;have hW:=hA.more hmW;have hc2:cellsOf (.agg (Ef { c with trap:=tt2,edge:=(i:Int),acc:=d2 } V C))=some (Ef { c with trap:=tt2,edge:=(i:Int),acc:=d2 } V C):=by
   rcases hA.c.cf.shapes with⟨⟨v1,v2,rfl⟩|⟨v1,rfl⟩,⟨c1,c2,rfl⟩|⟨c1,rfl⟩⟩<;>rfl
  refine Cb 60 rfl ?_;refine Cc (xs:=Ef { c with trap:=tt2,edge:=(i:Int),acc:=d2 } V C) (cs':=Ef { c with trap:=tt2,edge:=(i:Int),acc:=d2 } V C) hW.z2 rfl ?_ (hc:=hc2);refine E8 (B:=⟨76,_,0,0⟩) func76 (h:=Ee rfl rfl (Eh (Aa hW.z2)) rfl) 0 (Bo _) ?_ (fun rows hr=>by simp at hr) ⟨rfl,rfl⟩;have hcf:=hW.c.cf.chg (Cw W.boxes 2 [Ef { c with trap:=tt2,edge:=(i:Int),acc:=d2 } V C]) fun i hi hi2=>by simp at hi2;have:=hW.ge.2.2.2 i hi;omega
  obtain⟨V',C',ys,q1,q2,q3,q4,q5,q6,q7⟩:=hcf.ex;simp only[AV.agg.injEq,List.cons.injEq,and_true,true_and]at q1;obtain⟨rfl,rfl⟩:=q1;have hfz:=CfB.fz (S:=⟨W.boxes.set 2 [Ef { c with trap:=tt2,edge:=(i:Int),acc:=d2 } V C],W.toks⟩) (ids:=ids) (c:={ c with trap:=tt2,edge:=(i:Int),acc:=d2 }) ⟨V,C,ys,rfl,q2,q3,q4,q5,q6,q7⟩ ⟨hok.vars,hok.cells,hok.rows⟩;exact hfz
 have gt2:tt2=0:=by simpa using(show (tt2 != 0)=false from g2)
 rw[if_pos gt2];refine Aw hA.e ?_;refine Im (Aj0 k v v2 h0 h1) ?_;refine Aw hA.e ?_;refine Om ?_;cases hh:Oz k v v2 with
 |false=>
  refine Do ?_ (ht:=by simp[hh]);rw[if_neg (by decide)];have e1:H6 i t t2 (c,4,0,true)={ c with trap:=4,edge:=(i:Int),acc:=0 }:=by unfold H6;rw[if_neg (by simp),if_pos (by simp)]
  rw[e1];refine Aw hA.c.box ?_;refine G3 (O6 hA.c.cf (4) i (0)) ?_;intro r W hP _ _;obtain⟨rfl,htW,mW,hmW⟩:=hP;have hW:=hA.more hmW;have hc2:cellsOf (.agg (Ef { c with trap:=4,edge:=(i:Int),acc:=0 } V C))=some (Ef { c with trap:=4,edge:=(i:Int),acc:=0 } V C):=by
   rcases hA.c.cf.shapes with⟨⟨v1,v2,rfl⟩|⟨v1,rfl⟩,⟨c1,c2,rfl⟩|⟨c1,rfl⟩⟩<;>rfl
  refine Cb 60 rfl ?_;refine Cc (xs:=Ef { c with trap:=4,edge:=(i:Int),acc:=0 } V C) (cs':=Ef { c with trap:=4,edge:=(i:Int),acc:=0 } V C) hW.z2 rfl ?_ (hc:=hc2);refine E8 (B:=⟨76,_,0,0⟩) func76 (h:=Ee rfl rfl (Eh (Aa hW.z2)) rfl) 0 (Bo _) ?_ (fun rows hr=>by simp at hr) ⟨rfl,rfl⟩;have hcf:=hW.c.cf.chg (Cw W.boxes 2 [Ef { c with trap:=4,edge:=(i:Int),acc:=0 } V C]) fun i hi hi2=>by simp at hi2;have:=hW.ge.2.2.2 i hi;omega
  obtain⟨V',C',ys,q1,q2,q3,q4,q5,q6,q7⟩:=hcf.ex;simp only[AV.agg.injEq,List.cons.injEq,and_true,true_and]at q1;obtain⟨rfl,rfl⟩:=q1;have hfz:=CfB.fz (S:=⟨W.boxes.set 2 [Ef { c with trap:=4,edge:=(i:Int),acc:=0 } V C],W.toks⟩) (ids:=ids) (c:={ c with trap:=4,edge:=(i:Int),acc:=0 }) ⟨V,C,ys,rfl,q2,q3,q4,q5,q6,q7⟩ ⟨hok.vars,hok.cells,hok.rows⟩;exact hfz
 |true=>
  refine Cq ?_ (ht:=by simp[hh]);rw[if_pos rfl];have e1:H6 i t t2 (c,0,d2,true)={ c with pt:=t }:=by simp[H6]
  rw[e1];refine Aw hA.e ?_;refine Cq ?_;refine Aw hA.e ?_;refine Cc hA.c.box rfl ?_;have hc2:=hA.c.upd (c':={ c with pt:=t }) rfl rfl;have hB:=hA.chg hc2 ((Cw S.boxes bc _).more fun i hi=>by simp at hi;simp[hi]);have hOK:CfOk { c with pt:=t }:=⟨hok.vars,hok.cells,hok.rows⟩
  refine Aw hB.c.box ?_;refine Cc (xs:=Ef ({ c with pt:=t }) (V) (C)) (cs':=Ef ({ c with pt:=t }) (V) (C)) hB.z2 rfl ?_ (hc:=Fc hB.c.cf);refine E8 (B:=⟨76,_,0,0⟩) func76 (h:=Ee rfl rfl (Eh (Aa hB.z2)) rfl) 0 (Bo _) ?_ (fun rows hr=>by simp at hr) ⟨rfl,rfl⟩;exact(hB.c.cf.chg (Cw _ 2 _) fun i hi hi2=>by simp at hi2;have:=hB.ge.2.2.2 i hi;omega).fz hOK
theorem Awp{y h:Bool}(g:(y != h)=false):h=y:=by cases y<;>cases h<;>simp at g⊢
theorem A0w{y h:Bool}(g:¬h=y):((!y) != h)=false:=by cases y<;>cases h<;>simp at g⊢
theorem Ay9(hk:VOk n c){inp:List Int}{i j p:Nat}{t t2:Int}{y:Bool}{x:Nd}(hA:SpS n S bc le V C ids c ⟨(p:Int),t,4,y,x⟩)(hx:FC x)(kx:Ff (Ax n 31) (Ax n 32) x=true)(hp:c.pt=(p:Int))(hes:(Lx (A9 n)).length≤2000000)
 (hi:(Lx (A9 n))[i]?=some ⟨(p:Int),t,4,y,x⟩)(hij:i<j)(hj:(Lx (A9 n))[j]?=some ⟨(p:Int),t2,4,!y,x⟩)(hm:∀m,i<m→m<j→∀z,(Lx (A9 n))[m]?=some z→¬z.f=(p:Int)) :
 SpA n S bc le inp i (H6 i t t2 (Rz n inp c 4 y x)):=by
 have hok:=hk.ok;cases hx with
 |mk k a b h0 h1 ha hb=>
 obtain⟨n1,n2⟩:=Z7 kx;have hpv:=Sq n c hk ha n1 0;have hpw:=Sq n c hk hb n2 (C9 n c a 0).2.2;have okP:Ok 0 0 (.agg (Kp n)):=(inferInstance:OK 0 0 (.agg (Kp n))).ok;have hvt:=Xs n c ha 0;have hvw:=Xs n c hb (C9 n c a 0).2.2;have e0:Rz n inp c 4 y (.mk k [] 0 [a,b])=Nx n c [a,b] fun a b d=>(c,0,d,Oz k a b==y):=rfl;rw[e0];unfold Nx;simp only;rcases hv:C9 n c a 0 with⟨v,tt,d1⟩
 rw[hv]at hpv hvt hpw hvw;simp only at hvt hpw hvw⊢;rcases hv2:C9 n c b d1 with⟨v2,tt2,d2⟩
 rw[hv2]at hpw hvw;simp only at hvw⊢;refine D5 ?_;refine Cb 60 rfl ?_;refine Aw hA.e ?_
 iterate 3 refine Cq ?_
 refine Do ?_;refine De 0 (by kernel_rfl) ?_;refine A2 (Aq hA.z0) ?_
 iterate 2 refine Av ?_
 refine A2 (Aq hA.e) ?_;refine Eo (fun S'=>Cu rfl rfl rfl rfl rfl rfl rfl rfl rfl (by decide) (Am (l:=[a,b]) (i:=0) rfl)) ?_;refine Av ?_;refine A2 (Aq hA.c.box) ?_
 iterate 0 refine Av ?_
 refine A2 (Rr hpv (.cons (.same _ okP) (.cons (.same _ (inferInstance:OK 0 0 (nd a)).ok) (.cons (hA.c.cf.fz hok) (.cons (.same _ (.val _)) .nil)))) (Tb _)) ?_
 iterate 7 refine Av ?_
 refine Gt ?_;refine F7 (fun g=>?_) (fun g=>?_)
 ·have gt:¬tt=0:=by simpa using(show (tt != 0)=true from g)
  rw[if_neg gt];have e1:H6 i t t2 (c,tt,d1,true)={ c with trap:=tt,edge:=(i:Int),acc:=d1 }:=by unfold H6;rw[if_neg gt,if_neg (by simp only;omega)]
  rw[e1];refine Aw hA.c.box ?_;refine G3 (O6 hA.c.cf (tt) i (d1)) ?_;intro r W hP _ _;obtain⟨rfl,htW,mW,hmW⟩:=hP;have hW:=hA.more hmW;have hc2:cellsOf (.agg (Ef { c with trap:=tt,edge:=(i:Int),acc:=d1 } V C))=some (Ef { c with trap:=tt,edge:=(i:Int),acc:=d1 } V C):=by
   rcases hA.c.cf.shapes with⟨⟨v1,v2,rfl⟩|⟨v1,rfl⟩,⟨c1,c2,rfl⟩|⟨c1,rfl⟩⟩<;>rfl
  refine Cb 60 rfl ?_;refine Cc (xs:=Ef { c with trap:=tt,edge:=(i:Int),acc:=d1 } V C) (cs':=Ef { c with trap:=tt,edge:=(i:Int),acc:=d1 } V C) hW.z2 rfl ?_ (hc:=hc2);refine E8 (B:=⟨76,_,0,0⟩) func76 (h:=Ee rfl rfl (Eh (Aa hW.z2)) rfl) 0 (Bo _) ?_ (fun rows hr=>by simp at hr) ⟨rfl,rfl⟩;have hcf:=hW.c.cf.chg (Cw W.boxes 2 [Ef { c with trap:=tt,edge:=(i:Int),acc:=d1 } V C]) fun i hi hi2=>by simp at hi2;have:=hW.ge.2.2.2 i hi;omega
  obtain⟨V',C',ys,q1,q2,q3,q4,q5,q6,q7⟩:=hcf.ex;simp only[AV.agg.injEq,List.cons.injEq,and_true,true_and]at q1;obtain⟨rfl,rfl⟩:=q1;have hfz:=CfB.fz (S:=⟨W.boxes.set 2 [Ef { c with trap:=tt,edge:=(i:Int),acc:=d1 } V C],W.toks⟩) (ids:=ids) (c:={ c with trap:=tt,edge:=(i:Int),acc:=d1 }) ⟨V,C,ys,rfl,q2,q3,q4,q5,q6,q7⟩ ⟨hok.vars,hok.cells,hok.rows⟩;exact hfz
 have gt:tt=0:=by simpa using(show (tt != 0)=false from g)
 rw[if_pos gt];refine De 0 (by kernel_rfl) ?_;refine A2 (Aq hA.z0) ?_
 iterate 2 refine Av ?_
 refine A2 (Aq hA.e) ?_;refine Eo (fun S'=>Cu rfl rfl rfl rfl rfl rfl rfl rfl rfl (by decide) (Am (l:=[a,b]) (i:=1) rfl)) ?_;refine Av ?_;refine A2 (Aq hA.c.box) ?_
 iterate 1 refine Av ?_
 refine A2 (Rr hpw (.cons (.same _ okP) (.cons (.same _ (inferInstance:OK 0 0 (nd b)).ok) (.cons (hA.c.cf.fz hok) (.cons (.same _ (.val _)) .nil)))) (Tb _)) ?_
 iterate 7 refine Av ?_
 refine Gt ?_;refine F7 (fun g2=>?_) (fun g2=>?_)
 ·have gt2:¬tt2=0:=by simpa using(show (tt2 != 0)=true from g2)
  rw[if_neg gt2];have e1:H6 i t t2 (c,tt2,d2,true)={ c with trap:=tt2,edge:=(i:Int),acc:=d2 }:=by unfold H6;rw[if_neg gt2,if_neg (by simp only;omega)]
  rw[e1];refine Aw hA.c.box ?_;refine G3 (O6 hA.c.cf (tt2) i (d2)) ?_;intro r W hP _ _;obtain⟨rfl,htW,mW,hmW⟩:=hP;have hW:=hA.more hmW;have hc2:cellsOf (.agg (Ef { c with trap:=tt2,edge:=(i:Int),acc:=d2 } V C))=some (Ef { c with trap:=tt2,edge:=(i:Int),acc:=d2 } V C):=by
   rcases hA.c.cf.shapes with⟨⟨v1,v2,rfl⟩|⟨v1,rfl⟩,⟨c1,c2,rfl⟩|⟨c1,rfl⟩⟩<;>rfl
  refine Cb 60 rfl ?_;refine Cc (xs:=Ef { c with trap:=tt2,edge:=(i:Int),acc:=d2 } V C) (cs':=Ef { c with trap:=tt2,edge:=(i:Int),acc:=d2 } V C) hW.z2 rfl ?_ (hc:=hc2);refine E8 (B:=⟨76,_,0,0⟩) func76 (h:=Ee rfl rfl (Eh (Aa hW.z2)) rfl) 0 (Bo _) ?_ (fun rows hr=>by simp at hr) ⟨rfl,rfl⟩;have hcf:=hW.c.cf.chg (Cw W.boxes 2 [Ef { c with trap:=tt2,edge:=(i:Int),acc:=d2 } V C]) fun i hi hi2=>by simp at hi2;have:=hW.ge.2.2.2 i hi;omega
  obtain⟨V',C',ys,q1,q2,q3,q4,q5,q6,q7⟩:=hcf.ex;simp only[AV.agg.injEq,List.cons.injEq,and_true,true_and]at q1;obtain⟨rfl,rfl⟩:=q1;have hfz:=CfB.fz (S:=⟨W.boxes.set 2 [Ef { c with trap:=tt2,edge:=(i:Int),acc:=d2 } V C],W.toks⟩) (ids:=ids) (c:={ c with trap:=tt2,edge:=(i:Int),acc:=d2 }) ⟨V,C,ys,rfl,q2,q3,q4,q5,q6,q7⟩ ⟨hok.vars,hok.cells,hok.rows⟩;exact hfz
 have gt2:tt2=0:=by simpa using(show (tt2 != 0)=false from g2)
 rw[if_pos gt2];refine Aw hA.e ?_;refine Im (Aj0 k v v2 h0 h1) ?_;refine Aw hA.e ?_;refine Ol ?_;refine Cq ?_;refine Aw hA.e ?_;refine Do ?_;generalize Oz k v v2=hh;have hjl:=Aa hj;refine Io (ι:=Nat×Eg) (fun q=>i≤q.1∧q.1≤j∧(Lx (A9 n))[q.1]?=some q.2∧(hh=y→q.1=i)) (fun q=>[(22,vb hh),(3,.ptr 0 0 0),(6,.ptr 2 0 0),(7,.ptr bc 0 0),(8,vi q.1),(9,.ptr le 0 0)]) (fun q=>⟨S.boxes.set le [H5 q.2],S.toks⟩) (fun q=>j-q.1) ?_ (i,⟨(p:Int),t,4,y,.mk k [] 0 [a,b]⟩)
  ⟨Bo _,by omega,hi,fun _=>rfl⟩ ⟨rfl,rfl,rfl,rfl,rfl,rfl,trivial⟩ (by obtain⟨bx,tk⟩:=S;simp only[St.mk.injEq,and_true];obtain⟨_,e⟩:=zzq105.1 hA.e;rw[←e,List.set_getElem_self])
 intro q hq IH;obtain⟨m,em⟩:=q;obtain⟨q1,q2,q3,q4⟩:=hq;simp only at q1 q2 q3 q4;have hA1:=hA.setE em;refine Cb 60 rfl ?_;refine Aw hA1.e ?_;refine Aw hA1.c.box ?_;have hf0:∀e:Eg,e.f=(p:Int)→(e.f != c.pt)=false:=fun e he=>by rw[he,hp];simp
 rcases Nat.lt_trichotomy m i with h|h|h
 ·omega
 ·rw[h,hi]at q3;have hem:=Option.some.inj q3;refine Ol ?_ (ht:=hf0 em (by rw[←hem]));refine Aw hA1.e ?_;refine F7 (fun g3=>?_) (fun g3=>?_)
  ·have g3':¬hh=y:=fun h=>by rw[←hem]at g3;simp[h]at g3
   have hlt:m<j:=by omega
   obtain⟨em',hem'⟩:=Ab (Lx (A9 n)) (i:=m+1) (by omega);have hw1:IntKind.i64.wrap ((m:Int)+1)=((m+1:Nat):Int):=(Ac (by omega) (by omega)).trans (by omega);refine Aw hA1.z0 ?_;refine Mm (r:=H5 em') (IntKind.i64.wrap ((m:Int)+1)) (by rw[hw1];omega) (by rw[hw1,Hl];exact Gm hem') ?_;refine Cc hA1.e rfl ?_;refine IH (m+1,em') ⟨by simp only;omega,by simp only;omega,hem',fun h=>absurd h g3'⟩ (by simp only;omega) _ _ ⟨rfl,rfl,rfl,rfl,Ci hw1,rfl,trivial⟩ (by simp only[List.set_set];rfl)
  ·have g3':hh=y:=Awp (by rw[←hem]at g3;exact g3);have e1:H6 i t t2 (c,0,d2,hh==y)={ c with pt:=em.t }:=by rw[g3',←hem];simp[H6]
   rw[e1];refine Aw hA1.e ?_;refine Cc hA1.c.box rfl ?_;have hc2:=hA1.c.upd (c':={ c with pt:=em.t }) rfl rfl;have hB:=hA1.chg hc2 ((Cw _ bc _).more fun i hi=>by simp at hi;simp[hi]);have hOK:CfOk { c with pt:=em.t }:=⟨hok.vars,hok.cells,hok.rows⟩
   refine Aw hB.c.box ?_;refine Cc (xs:=Ef ({ c with pt:=em.t }) (V) (C)) (cs':=Ef ({ c with pt:=em.t }) (V) (C)) hB.z2 rfl ?_ (hc:=Fc hB.c.cf);refine E8 (B:=⟨76,_,0,0⟩) func76 (h:=Ee rfl rfl (Eh (Aa hB.z2)) rfl) 0 (Bo _) ?_ (fun rows hr=>by simp at hr) ⟨rfl,rfl⟩;exact(hB.c.cf.chg (Cw _ 2 _) fun i hi hi2=>by simp at hi2;have:=hB.ge.2.2.2 i hi;omega).fz hOK
 ·rcases Gs m j with hmj|hmj
  ·have hfm:=hm m h hmj em q3;refine Om ?_ (ht:=by rw[hp];simpa using hfm);refine Do ?_;have hlt:m<j:=hmj;obtain⟨em',hem'⟩:=Ab (Lx (A9 n)) (i:=m+1) (by omega);have hw1:IntKind.i64.wrap ((m:Int)+1)=((m+1:Nat):Int):=(Ac (by omega) (by omega)).trans (by omega);refine Aw hA1.z0 ?_;refine Mm (r:=H5 em') (IntKind.i64.wrap ((m:Int)+1)) (by rw[hw1];omega) (by rw[hw1,Hl];exact Gm hem') ?_;refine Cc hA1.e rfl ?_;refine IH (m+1,em') ⟨by simp only;omega,by simp only;omega,hem',fun h=>absurd h (by have:=q4 h;omega)⟩ (by simp only;omega) _ _ ⟨rfl,rfl,rfl,rfl,Ci hw1,rfl,trivial⟩ (by simp only[List.set_set];rfl)
  ·have hmj':m=j:=by omega
   subst hmj';rw[hj]at q3;have hem:=Option.some.inj q3;have hny:¬hh=y:=fun h2=>by have:=q4 h2;omega
   refine Ol ?_ (ht:=hf0 em (by rw[←hem]));refine Aw hA1.e ?_;refine Cq ?_ (ht:=by rw[←hem];exact A0w hny);have e1:H6 i t t2 (c,0,d2,hh==y)={ c with pt:=em.t }:=by rw[show (hh==y)=false by simpa using hny,←hem];simp[H6]
   rw[e1];refine Aw hA1.e ?_;refine Cc hA1.c.box rfl ?_;have hc2:=hA1.c.upd (c':={ c with pt:=em.t }) rfl rfl;have hB:=hA1.chg hc2 ((Cw _ bc _).more fun i hi=>by simp at hi;simp[hi]);have hOK:CfOk { c with pt:=em.t }:=⟨hok.vars,hok.cells,hok.rows⟩
   refine Aw hB.c.box ?_;refine Cc (xs:=Ef ({ c with pt:=em.t }) (V) (C)) (cs':=Ef ({ c with pt:=em.t }) (V) (C)) hB.z2 rfl ?_ (hc:=Fc hB.c.cf);refine E8 (B:=⟨76,_,0,0⟩) func76 (h:=Ee rfl rfl (Eh (Aa hB.z2)) rfl) 0 (Bo _) ?_ (fun rows hr=>by simp at hr) ⟨rfl,rfl⟩;exact(hB.c.cf.chg (Cw _ 2 _) fun i hi hi2=>by simp at hi2;have:=hB.ge.2.2.2 i hi;omega).fz hOK
end
theorem A4m{n:Nd}{S:St}{bc le:Nat}{V C:AV}{ids:List Nat}{c:Cf}(hr:Fy n=true)(hk:VOk n c)(hu:0≤c.used∧c.used≤100){inp:List Int}{p i:Nat}{e:Eg}{l:List Eg}(hp:c.pt=(p:Int))(hO:EdO (Lx (A9 n)) p i e l)(hA:SpS n S bc le V C ids c e) :
 SpA n S bc le inp i (H6 i e.t (l.headD e).t (Rz n inp c e.k e.y e.n)):=by
 have he:=hO.first.1;have hf:=hO.first.2.2.1;have hE:=(Ai6 hr).2 e (Bh he);have hel:=(Zu hr).2;cases hE with
 |set f t y s a h ha ka=>exact A4o hk hA h ha ka
 |put f t y s a b h ha ka hb kb=>exact A4n hk hA h ha ka hb kb
 |read f t y s h=>exact A2p hk hu hA h
 |guard f t y x hx kx=>cases hO with
  |one _ _ _ _ _ h4=>exact absurd rfl h4
  |two j e2 _ _ _ _ hl hij hj hm _ h2=>
   simp only at hf;subst hf;rw[h2]at hj;exact Ay9 hk hA hx kx hp hel he hij hj hm
 |check f t y x hx kx=>exact Ay8 hk hA hx kx
 |skip f t y x=>exact Au2 (.inl rfl) hA hk.ok
 |stop f t y x=>exact Au2 (.inr rfl) hA hk.ok
theorem Af8{n:Nd}{inp:List Int}{c c1:Cf}{p i:Nat}{e:Eg}{l:List Eg}(g:I7 n c=false)(hp:c.pt=(p:Int))(hF:Fr p (Lx (A9 n))=e::l)(hix:fIx (Lx (A9 n)) p=i)(hcc:({ c with steps:=c.steps+1 }:Cf)=c1):Is n inp c=H6 i e.t (l.headD e).t (Rz n inp c1 e.k e.y e.n):=by
 unfold Is H6;rw[if_neg (by simp[g]),show c.pt.toNat=p by rw[hp];rfl,hF,show fIx (Lx (A9 n)) c.pt=i by rw[hp];exact hix];simp only[hcc]
theorem A14{n:Nd}{c:Cf}{inp:List Int}(hr:Fy n=true)(hS:StK n c)(hin:inp.length≤100):Pure X 76 [.agg (Kp n),cf c,.sl (Fe inp) .no] (cf (Is n inp c)):=by
 have hok:=hS.vok.ok;have hpts:=(Zu hr).1;have hel:=(Zu hr).2;have hokM:=(U4 hr hS hin).vok.ok;refine Pure.run func76 ?_;refine Te (Ax1 c hok) (.cons (.same _ (inferInstance:OK 0 0 (cf c)).ok) .nil) ?_;intro r bx hP;obtain⟨ids0,hC⟩:=hP;obtain⟨V0,C0,rfl⟩:=hC.parts;have hlt0:=hC.ltG;have hH:=hC.held (pre:=[[Kp n],[G4 c],[zCf]]);simp only[Hn,Sy]at hH;refine⟨.agg (Ef c (Hn 3 V0) (Hn 3 C0)),Rh 3 bx,(by have:=U3 3 (.agg (Ef c V0 C0));simpa[Hn,Sy]using this),Nu _ _,?_⟩;obtain⟨ids,hids⟩:∃ids,ids=ids0.map (·+3):=⟨_,rfl⟩
 have hH2:CfB SlB ([Kp n]::[G4 c]::[zCf]::Rh 3 bx) (.agg (Ef c (Hn 3 V0) (Hn 3 C0))) ids c:=by rw[hids];exact hH
 clear hH;generalize Hn 3 V0=V at hH2⊢;generalize Hn 3 C0=C at hH2⊢;obtain⟨T,hT⟩:∃T:St,T=⟨[Kp n]::[G4 c]::[zCf]::Rh 3 bx,[]⟩:=⟨_,rfl⟩
 refine Be T ?_ hT.symm;have hTl:T.boxes.length=bx.length+3:=by rw[hT];simp[Pt]
 have hcT:CfB SlB T.boxes (.agg (Ef c V C)) ids c:=by rw[hT];exact hH2
 have hid:∀i,i∈ids→3≤i∧i<T.boxes.length:=fun i hi=>by
  rw[hids]at hi;obtain⟨k,hk,rfl⟩:=zzq66.1 hi;have:=hlt0 k hk;omega
 refine Lq (b:=T.boxes.length) rfl rfl ?_;refine Cc (b:=T.boxes.length) (cs:=zCf) (xs:=Ef c V C) (cs':=Ef c V C) (by simp) rfl ?_ (hc:=Fc hcT);obtain⟨S,hSt⟩:∃S:St,S=⟨T.boxes++[[Ef c V C]],T.toks⟩:=⟨_,rfl⟩
 refine Be S ?_ (by rw[hSt];exact congrArg (fun x=>St.mk x _) (by rw[Iw _ _ (Bo _),Ik];rfl));have hSl:S.boxes.length=T.boxes.length+1:=by rw[hSt];simp
 have gx:∀{i:Nat} {y:List (List AV)},T.boxes[i]?=some y→S.boxes[i]?=some y:=fun{i y} h=>by rw[hSt,Cs (Aa h)];exact h
 have z0:S.boxes[0]?=some [Kp n]:=gx (by rw[hT];rfl);have z2:S.boxes[2]?=some [zCf]:=gx (by rw[hT];rfl);have hc:CfS S T.boxes.length V C ids c:=⟨by rw[hSt];simp,by rw[hSt];exact hcT.more,fun h=>by have:=hid _ h;omega⟩
 have hw:IntKind.i64.wrap ((((D6 (A9 n)).pts:Nat):Int)-1)=(((D6 (A9 n)).pts:Nat):Int)-1:=Ac (by omega) (by omega);refine Aw hc.box ?_;by_cases q1:c.trap=0
 case neg=>
  refine Om ?_ (ht:=by simpa using q1);refine Om ?_;refine Do ?_;refine Aw hc.box ?_;refine Cc (xs:=Ef c V C) (cs':=Ef c V C) z2 rfl ?_ (hc:=Fc hc.cf);rw[show Is n inp c=c by unfold Is;rw[if_pos (by unfold I7;simp[q1])]];refine E8 (B:=⟨76,_,0,0⟩) func76 (h:=Ee rfl rfl (Eh (Aa z2)) rfl) 0 (Bo _) ?_ (fun rows hr=>by simp at hr) ⟨rfl,rfl⟩;exact(hc.cf.chg (Cw _ 2 _) fun i hi hi2=>by simp at hi2;have:=hid i hi;omega).fz hok
 refine Ol ?_ (ht:=by simpa using q1);refine Aw hc.box ?_;refine Aw z0 ?_;by_cases q2:c.pt=(((D6 (A9 n)).pts:Nat):Int)-1
 ·refine Om ?_ (ht:=by rw[hw];simpa using q2);refine Do ?_;refine Aw hc.box ?_;refine Cc (xs:=Ef c V C) (cs':=Ef c V C) z2 rfl ?_ (hc:=Fc hc.cf);rw[show Is n inp c=c by unfold Is;rw[if_pos (by unfold I7;simp[q2])]];refine E8 (B:=⟨76,_,0,0⟩) func76 (h:=Ee rfl rfl (Eh (Aa z2)) rfl) 0 (Bo _) ?_ (fun rows hr=>by simp at hr) ⟨rfl,rfl⟩;exact(hc.cf.chg (Cw _ 2 _) fun i hi hi2=>by simp at hi2;have:=hid i hi;omega).fz hok
 refine Ol ?_ (ht:=by rw[hw];simpa using q2);refine Aw hc.box ?_;by_cases q3:c.steps=5000
 ·refine Do ?_ (ht:=by simpa using q3);refine Aw hc.box ?_;refine Cc (xs:=Ef c V C) (cs':=Ef c V C) z2 rfl ?_ (hc:=Fc hc.cf);rw[show Is n inp c=c by unfold Is;rw[if_pos (by unfold I7;simp[q3])]];refine E8 (B:=⟨76,_,0,0⟩) func76 (h:=Ee rfl rfl (Eh (Aa z2)) rfl) 0 (Bo _) ?_ (fun rows hr=>by simp at hr) ⟨rfl,rfl⟩;exact(hc.cf.chg (Cw _ 2 _) fun i hi hi2=>by simp at hi2;have:=hid i hi;omega).fz hok
 refine Cq ?_ (ht:=by simpa using q3);have hg:I7 n c=false:=by unfold I7;simp[q1,q2,q3]
 have hpt:=hS.pt;have hsp:=hS.steps;obtain⟨p,hp⟩:∃p:Nat,c.pt=p:=⟨c.pt.toNat,by omega⟩
 obtain⟨i,e,l,hF,hO⟩:=Zt hr (p:=p) (by omega);obtain⟨he,hbe,hef,hix,_⟩:=hO.first;have hw1:IntKind.i64.wrap (c.steps+1)=c.steps+1:=Ac (by omega) (by omega);obtain⟨c1,hc1⟩:∃c1:Cf,c1={ c with steps:=IntKind.i64.wrap (c.steps+1) }:=⟨_,rfl⟩
 have hk1:VOk n c1:=by rw[hc1];exact⟨hS.vok.kl,hS.vok.vars,hS.vok.cells,hS.vok.rows⟩
 have hcc:({ c with steps:=c.steps+1 }:Cf)=c1:=by rw[hc1,hw1]
 have hM:=Af8 (inp:=inp) hg hp hF hix hcc;rw[hM];have hil:=Aa he;refine Io (ι:=Nat) (fun m=>m≤i) (fun m=>[(8,vi m),(2,.sl (Fe inp) .no),(3,.ptr 0 0 0),(6,.ptr 2 0 0),(7,.ptr T.boxes.length 0 0)]) (fun _=>S) (fun m=>i-m) ?_ 0 (B3 _) ⟨rfl,rfl,rfl,rfl,rfl,trivial⟩ rfl;intro m hm IH;obtain⟨em,hem⟩:=Ab (Lx (A9 n)) (i:=m) (by omega);refine Cb 60 rfl ?_;refine De 0 (by kernel_rfl) ?_
 iterate 2 refine Av ?_
 refine A2 (Aq z0) ?_;refine Av ?_;refine Eo (fun S'=>Cu rfl rfl rfl rfl rfl rfl rfl rfl rfl (by omega) (Gm hem)) ?_
 iterate 3 refine Av ?_
 refine A2 (Aq hc.box) ?_;refine Av ?_;refine Gt ?_;rcases Gs m i with hmi|hmi
 ·have:=hbe m hmi em hem;refine Do ?_ (ht:=by rw[hp];simpa using this);exact IH (m+1) (by omega) (by omega) _ _ ⟨vsx (by omega),rfl,rfl,rfl,rfl,trivial⟩ rfl
 ·have hmi':m=i:=by omega
  subst hmi';rw[he]at hem;cases hem;refine Cq ?_ (ht:=by rw[hp,hef];simp);refine Aw z0 ?_;refine Mm m (by omega) (by rw[Hl];exact Gm he) ?_;refine Lq (b:=S.boxes.length) rfl rfl ?_;refine Cc (b:=S.boxes.length) (cs:=zEg) (by simp) rfl ?_;obtain⟨U,hU⟩:∃U:St,U=⟨S.boxes++[[H5 e]],S.toks⟩:=⟨_,rfl⟩
  refine Be U ?_ (by rw[hU];exact congrArg (fun x=>St.mk x _) (by rw[Iw _ _ (Bo _),Ik];rfl));have hcU:CfS U T.boxes.length V C ids c:=hc.more (by rw[hU]);refine Aw hcU.box ?_;refine Hi (J1 (r:=0) hcU.box rfl rfl) rfl rfl ?_;refine Kv 9 100 rfl ?_;have hup:=hcU.upd (c':=c1) (by rw[hc1]) (by rw[hc1]);rw[hc1]at hup;have hA:SpS n ⟨U.boxes.set T.boxes.length [Ef { c with steps:=IntKind.i64.wrap (c.steps+1) } V C],U.toks⟩ T.boxes.length S.boxes.length V C ids c1 e:=by
   rw[hc1];have gU:∀{i:Nat} {y:List (List AV)},i≠T.boxes.length→S.boxes[i]?=some y→(U.boxes.set T.boxes.length [Ef { c with steps:=IntKind.i64.wrap (c.steps+1) } V C])[i]?=some y:=fun{i y} hi h=>by rw[Fq (Ne.symm hi),hU,Cs (Aa h)];exact h
   exact⟨gU (by omega) z0,gU (by omega) z2,hup,by rw[Fq (by omega),hU];simp,by omega,by omega,by omega,fun i hi=>by have:=hid i hi;omega⟩
  exact Ts (G:=[(2,.sl (Fe inp) .no),(3,.ptr 0 0 0),(6,.ptr 2 0 0),(7,.ptr T.boxes.length 0 0),(8,vi m),(9,.ptr S.boxes.length 0 0)]) ⟨rfl,rfl,rfl,rfl,rfl,rfl,trivial⟩ (A4m hr hk1 (by rw[hc1];exact hS.used) (by rw[hc1];exact hp) hO hA)
def Yl(inp:List Int):Bool:=decide ((inp.length:Int)≤100)&&inp.all Zg
theorem A4g(x:Int):Pure X 134 [vi x] (vb (!Zg x)):=by
 refine Pure.run func134 ?_;refine Al (Aov x) ?_;exact As func134 rfl
theorem Aym(l:List (Int))(hl:l.length≤1000000000)  : Pure X 185 [.sl (Fe l) .no,.fn 134 []] (vi (Abu (fun x=>!Zg x) 0 l)):=by
 have hlen:(Fe l).length=l.length:=by simp[Fe]
 refine Pure.run func185 ?_;refine Ar (ι:=Nat) 0 0 (fun i=>i≤l.length∧Abu (fun x=>!Zg x) 0 l=Abu (fun x=>!Zg x) i (l.drop i)) (fun i=>[(8,vi i),(7,vi l.length),(0,.sl (Fe l) .no),(1,.fn 134 [])]) (fun _=>⟨[],[]⟩) (fun i=>l.length-i) ?_ 0 ⟨B3 _,rfl⟩
  ⟨rfl,by rw[←hlen];rfl,rfl,rfl,trivial⟩
 intro i hi IH;refine C7 (fun h=>?_) (fun h=>?_)
 ·have hlt:i<l.length:=by have:=A5 h;omega
  obtain⟨x,hx⟩:=Ab l hlt;have hd:Abu (fun x=>!Zg x) i (l.drop i)=if ((fun x=>!Zg x)) x then(i:Int)else Abu (fun x=>!Zg x) (i+1) (l.drop (i+1)):=by rw[B6 hx];rfl
  refine B4 i (by omega) (Ev (f:=Jk) hx) ?_;refine Al (A4g x) ?_;refine Ah (fun h2=>?_) (fun h2=>?_)
  ·refine Az func185 ?_;have h3:((fun x=>!Zg x)) x=true:=h2;rw[hi.2,hd,h3];rfl
  ·have h3:((fun x=>!Zg x)) x=false:=h2;exact IH (i+1) ⟨hlt,by rw[hi.2,hd,h3];rfl⟩ (by omega) _ _ ⟨vsx (by omega),rfl,rfl,rfl,trivial⟩ rfl rfl rfl
 ·have:i=l.length:=by have:=Ba h;omega
  refine Az func185 ?_;rw[hi.2,this,Hz];rfl
theorem Ayj(l:List Int)(hl:l.length≤1000000000):Pure X 130 [.sl (Fe l) .no,.fn 134 []] (vb (!(l.all Zg))):=by
 have e:(!(l.all Zg))=l.any fun x=>!Zg x:=List.not_all_eq_any_not;rw[e];refine Pure.run func130 ?_;refine Al (Aym l hl) ?_;refine Az func130 ?_;rw[←Aji _ l 0];rfl
theorem Aml(l:List Int)(hl:l.length≤1000000000):Pure X 79 [.sl (Fe l) .no] (vb (Yl l)):=by
 have hlen:=D9 l;refine Pure.run func79 ?_;unfold Yl;rw[←hlen];cases h:decide (((Fe l).length:Int)≤100)with
 |false=>
  refine Ii ?_;exact As func79 rfl
 |true=>
  refine Hh ?_;refine Al (Ayj l hl) ?_;refine As func79 ?_;simp
theorem At3(l:List Int)(hl:l.length≤1000000000):Pure X 75 [.sl (Fe l) .no] (vb (Yl l)):=by
 have hlen:=D9 l;refine Pure.run func75 ?_;refine Ah (fun g=>?_) (fun g=>?_)
 ·have h:Yl l=false:=by unfold Yl;have:=A5 g;rw[hlen]at this;rw[Mc (by omega)];rfl
  rw[h];exact As func75 rfl
 have hle:(l.length:Int)≤100:=by have:=Ba g;rw[hlen]at this;omega
 have h0:Yl l=l.all Zg:=by unfold Yl;rw[Zd hle];rfl
 rw[h0];refine Ar (ι:=Nat) 0 0 (fun i=>i≤l.length∧l.all Zg=(l.drop i).all Zg) (fun i=>[(3,vi i),(0,.sl (Fe l) .no)]) (fun _=>⟨[],[]⟩) (fun i=>l.length-i) ?_ 0 ⟨B3 _,rfl⟩ ⟨rfl,rfl,trivial⟩;intro i hi IH;refine C7 (fun h=>?_) (fun h=>?_)
 ·have hlt:i<l.length:=by have:=A5 h;rw[hlen]at this;omega
  obtain⟨x,hx⟩:=Ab l hlt;have hd:=R1 hx;refine B4 i (by omega) (Y8 hx) ?_;refine Al (Az9 x) ?_;refine Ah (fun g2=>?_) (fun g2=>?_)
  ·have g3:Zg x=false:=by simpa using g2
   rw[hi.2,hd,P0,g3];exact As func75 rfl
  ·have g3:Zg x=true:=by simpa using g2
   exact IH (i+1) ⟨hlt,by rw[hi.2,hd,P0,g3,Re]⟩ (by omega) _ _ ⟨vsx (by omega),rfl,trivial⟩ rfl rfl rfl
 ·have:i=l.length:=by have:=Ba h;rw[hlen]at this;omega
  rw[hi.2,this,Hz];exact As func75 rfl
def Aao(n:Nd)(inp:List Int):Nat→Cf→List Cf
 |0,_=>[]
 |k+1,c=>if c.trap=0∧¬c.pt=(((D6 (A9 n)).pts:Nat):Int)-1 then Is n inp c::Aao n inp k (Is n inp c)else[]
def Uy(n:Nd)(inp:List Int):Nat→Cf→Cf
 |0,c=>c
 |k+1,c=>if I7 n c=true then c else Uy n inp k (Is n inp c)
theorem Aki{n:Nd}{inp:List Int}{c:Cf}(hr:Fy n=true)(hS:StK n c)(hg:I7 n c=false):(Is n inp c).steps=c.steps+1:=by
 have hpt:=hS.pt;have hne:¬c.pt=(((D6 (A9 n)).pts:Nat):Int)-1:=by
  unfold I7 at hg;simp only[Pe,beq_eq_false_iff_ne,ne_eq]at hg;exact hg.2.1
 obtain⟨p,hp⟩:∃p:Nat,c.pt=p:=⟨c.pt.toNat,by omega⟩
 obtain⟨i,e,l,hF,hO⟩:=Zt hr (p:=p) (by omega);obtain⟨_,_,_,hix,_⟩:=hO.first;rw[Af8 hg hp hF hix rfl];have hK:=(Ac1 n inp { c with steps:=c.steps+1 } e.k e.y e.n).steps;unfold H6;split
 ·exact hK
 ·exact hK
theorem Af7{n:Nd}{c:Cf}(hs:c.steps<5000):I7 n c=false↔(c.trap=0∧¬c.pt=(((D6 (A9 n)).pts:Nat):Int)-1):=by
 unfold I7;simp only[Pe,Ago,beq_eq_false_iff_ne,zzq54,ne_eq];constructor
 ·rintro⟨h1,h2,_⟩;exact⟨h1,h2⟩
 ·rintro⟨h1,h2⟩;exact⟨h1,h2,by omega⟩
theorem Af2{n:Nd}{inp:List Int}(hr:Fy n=true)(hi:inp.length≤100):∀(k:Nat)(c:Cf),StK n c→c.steps+k≤5000→(Aao n inp k c).getLastD c=Uy n inp k c
 |0,c,_,_=>rfl
 |k+1,c,hS,hk=>by
  unfold Aao Uy;by_cases hg:I7 n c=true
  ·rw[if_pos hg,if_neg fun h=>by rw[(Af7 (by omega)).2 h]at hg;cases hg];rfl
  ·have hg':I7 n c=false:=by simpa using hg
   rw[if_neg hg,if_pos ((Af7 (by omega)).1 hg')];have ih:=Af2 hr hi k (Is n inp c) (U4 hr hS hi) (by rw[Aki hr hS hg'];omega);rw[←ih];exact List.getLastD_cons ..
theorem Ao2{n:Nd}{inp:List Int}(hr:Fy n=true)(hi:inp.length≤100):∀(k:Nat)(c:Cf),StK n c→StK n (Uy n inp k c)
 |0,c,hS=>hS
 |k+1,c,hS=>by
  unfold Uy;split
  ·exact hS
  ·exact Ao2 hr hi k _ (U4 hr hS hi)
theorem Au6{n:Nd}(hr:Fy n=true):∀s,s∈Ei n→s≤60:=by
 intro s hs;obtain⟨x,hx,rfl⟩:=zzq66.1 hs;have hx':=(zzq56.1 hx).1;have h0:=(X8 hr).1;unfold E4 at h0;split at h0
 ·split at h0
  ·simp at h0
  ·split at h0
   ·simp at h0
   ·rename_i hb;refine Int.not_lt.1 fun h=>hb (List.any_eq_true.2 ⟨x,hx',by simpa using h⟩)
 ·simp at h0
theorem Alk:∀{ss ls:List Int}{cs:List Nat},Xv ss ls=some cs→(∀s,s∈ss→s≤60)→∀c,c∈cs→c≤60
 |[],[],cs,h,_=>by simp[Xv]at h;subst h;intro c hc;cases hc
 |[],_::_,cs,h,_=>by simp[Xv]at h
 |s::ss,ls,cs,h,hs=>by
  simp only[Xv]at h;have hs':∀x,x∈ss→x≤60:=fun x hx=>hs x (by simp[hx]);split at h
  ·split at h
   ·cases h
   ·split at h
    ·rename_i hb;obtain⟨r,hr,rfl⟩:=zzq102.1 h;intro c hc;rcases zzq13.1 hc with rfl|hc
     ·simp only[Bl,Dd,Ke]at hb;omega
     ·exact Alk hr hs' c hc
    ·cases h
  ·obtain⟨r,hr,rfl⟩:=zzq102.1 h;intro c hc;rcases zzq13.1 hc with rfl|hc
   ·have:=hs s (by simp);omega
   ·exact Alk hr hs' c hc
theorem Ag5{n:Nd}(hr:Fy n=true){ls:List Int}{cs:List Nat}(h:Xv (Ei n) ls=some cs):StK n (bgC (Ax n 31).length cs):=by
 have hp:0<(D6 (A9 n)).pts:=by have:=Aje (Ai6 hr).1;omega
 refine⟨⟨(Iz hr).2.2.2.2,by simp[bgC],by simp only[bgC,Py];rw[Ag4 h,Xp],fun x hx=>?_⟩,by simp only[bgC];omega,by simp[bgC],by simp[bgC],fun _=>by simp[bgC]⟩;simp only[bgC]at hx;obtain⟨c,hc,rfl⟩:=zzq66.1 hx;rw[List.length_replicate];exact Alk h (Au6 hr) c hc
def rtO(n:Nd)(ls inp:List Int)(fuel:Int):Option (List Nat):=if (Bl fuel 0 5000&&Yl inp)=true then Xv (Ei n) ls else none
def rtF(n:Nd)(ls inp:List Int)(fuel:Int):Cf:=match rtO n ls inp fuel with
 |some cs=>Uy n inp fuel.toNat (bgC (Ax n 31).length cs)
 |none=>zC
def rtM(n:Nd)(ls inp:List Int)(fuel:Int):Cf:=if Fy n=true then rtF n ls inp fuel else zC
theorem Qx{F:C5}{S:St}{t ty b:Nat}{y:Ty}{cs xs:List AV}{x:AV}{l:List ResultVar}(hl:lk F t=some (.ptr b 0 0))(hy:X.ty ty=some y)(hb:S.boxes[b]?=some [cs])(hx:(Nl y.size cs fun c'=>Wb (Gg y.k) c')=some x)(hr:Mf X F S l=some xs):Mf X F S (.cell t ty::l)=some (x::xs):=by
 have:Ti S y.size (Gg y.k) (.ptr b 0 0)=some x:=by
  simp only[Ti,H8,hb,List.getElem?_cons_zero,Ow];exact hx
 simp only[Mf,hl,Q0,hy,this,hr]
theorem Avm{d:Nat}{x y z z':AV}{b:Bool}(h:Sh d x y)(h2:Sh d z z'):Sh d (.tup [x,z,vb b]) (.tup [y,z',vb b]):=by
 have h:=(ShL.cons h (.cons h2 (.cons (.val (.bool b)) .nil))).get;exact .tup _ _ h.1 h.2
def RnP(n:Nd)(ls inp:List Int)(fuel:Int)(r:AV)(bx:List (List (List AV))):Prop:=∃x pth ids,r=.tup [x,pth,vb (rtO n ls inp fuel).isSome]∧CfB SlG bx x ids (rtF n ls inp fuel)
theorem A4i{n:Nd}(hr:Fy n=true)(ls inp:List Int)(hls:ls.length≤1000000000)(hil:inp.length≤1000000000)(fuel:Int):Gives X 71 [.cptr (Mh n),.sl (Fe ls) .no,.sl (Fe inp) .no,vi fuel] (RnP n ls inp fuel):=by
 have hpts:=(Zu hr).1;have okP:Ok 0 0 (.cptr (Mh n)):=(inferInstance:OK 0 0 (.cptr (Mh n))).ok;unfold RnP;refine Gives.run func71 ?_;refine Te (Ayg n hr ls hls) (.cons (.same _ okP) (.cons (.same _ (inferInstance:OK 0 0 (.sl (Fe ls) .no)).ok) .nil)) ?_;intro r bx hP;obtain⟨x,ids0,rfl,hC⟩:=hP;obtain⟨V0,C0,rfl⟩:=hC.parts;have hlt0:=hC.ltG;have hH:=hC.held (pre:=[[zCf]]);simp only[Hn,Sy]at hH;generalize hbo:Xv (Ei n) ls=bo at *;generalize hc0:Awo (Ax n 31).length bo=c0 at *;refine⟨.tup [.agg (Ef c0 (Hn 1 V0) (Hn 1 C0)),vb bo.isSome],Rh 1 bx,Azo (by have:=U3 1 (.agg (Ef c0 V0 C0));simpa[Hn,Sy]using this),Nu _ _,?_⟩;obtain⟨ids,hids⟩:∃ids,ids=ids0.map (·+1):=⟨_,rfl⟩
 have hH2:CfB SlB ([zCf]::Rh 1 bx) (.agg (Ef c0 (Hn 1 V0) (Hn 1 C0))) ids c0:=by rw[hids];exact hH
 clear hH;generalize Hn 1 V0=V at hH2⊢;generalize Hn 1 C0=C at hH2⊢;obtain⟨B0,hB0⟩:∃B0,B0=[zCf]::Rh 1 bx:=⟨_,rfl⟩
 refine Be ⟨B0,[]⟩ ?_ (by rw[hB0];rfl);rw[←hB0]at hH2;have hBl:B0.length=bx.length+1:=by rw[hB0];simp[Pt]
 have hid:∀i,i∈ids→1≤i∧i<B0.length:=fun i hi=>by
  rw[hids]at hi;obtain⟨k,hk,rfl⟩:=zzq66.1 hi;have:=hlt0 k hk;omega
 refine Cb 60 rfl ?_;refine Lq (b:=B0.length) rfl rfl ?_;refine Cc (b:=B0.length) (cs:=zCf) (xs:=Ef c0 V C) (cs':=Ef c0 V C) (by simp) rfl ?_ (hc:=Fc hH2);obtain⟨B1,hB1⟩:∃B1,B1=B0++[[Ef c0 V C]]:=⟨_,rfl⟩
 refine Be ⟨B1,[]⟩ ?_ (by rw[hB1];exact congrArg (fun x=>St.mk x _) (by rw[Iw _ _ (Bo _),Ik];rfl));have z8:B1[0]?=some [zCf]:=by rw[hB1,hB0];rfl
 have hc:CfS ⟨B1,[]⟩ B0.length V C ids c0:=⟨by simp[hB1],by simp only[hB1];exact hH2.more,fun h=>by have:=hid _ h;omega⟩
 have h0n:0∉B0.length::ids:=fun h=>by
  rcases zzq13.1 h with h|h
  ·omega
  ·have:=hid 0 h;omega
 have hB1l:B1.length=B0.length+1:=by simp[hB1]
 cases bo with
 |none=>
  have hno:rtO n ls inp fuel=none:=by unfold rtO;rw[hbo];split<;>rfl
  refine Om ?_;refine Om ?_;refine Do ?_;have hF0:rtF n ls inp fuel=zC:=by unfold rtF;rw[hno]
  rw[hno,hF0];refine Cc z8 rfl ?_;exact Bc func71 (h:=Qx rfl rfl (Eh (Aa z8)) rfl rfl) ⟨_,rfl,_,_,[],rfl,Tc _⟩
 |some cs=>
 have hc0':bgC (Ax n 31).length cs=c0:=hc0;have hSt:StK n c0:=by rw[←hc0'];exact Ag5 hr hbo
 refine Ol ?_;refine Im (Vz fuel 0 5000) ?_;cases hf:Bl fuel 0 5000 with
 |false=>
  have hno:rtO n ls inp fuel=none:=by unfold rtO;rw[hf];rfl
  refine Om ?_;refine Do ?_;have hF0:rtF n ls inp fuel=zC:=by unfold rtF;rw[hno]
  rw[hno,hF0];refine Cc z8 rfl ?_;exact Bc func71 (h:=Qx rfl rfl (Eh (Aa z8)) rfl rfl) ⟨_,rfl,_,_,[],rfl,Tc _⟩
 |true=>
 refine Ol ?_;refine Im (Aml inp hil) ?_;cases hin:Yl inp with
 |false=>
  have hno:rtO n ls inp fuel=none:=by unfold rtO;rw[hf,hin];rfl
  refine Do ?_;have hF0:rtF n ls inp fuel=zC:=by unfold rtF;rw[hno]
  rw[hno,hF0];refine Cc z8 rfl ?_;exact Bc func71 (h:=Qx rfl rfl (Eh (Aa z8)) rfl rfl) ⟨_,rfl,_,_,[],rfl,Tc _⟩
 |true=>
 have hyes:rtO n ls inp fuel=some cs:=by unfold rtO;rw[hf,hin];exact hbo
 have hF:rtF n ls inp fuel=Uy n inp fuel.toNat c0:=by unfold rtF;rw[hyes,←hc0']
 have hil2:inp.length≤100:=by
  unfold Yl at hin;simp only[Dd,Ke]at hin;omega
 have hfb:=Cn.1 hf;obtain⟨k,rfl⟩:∃k:Nat,fuel=k:=⟨fuel.toNat,by omega⟩
 rw[Hl]at hF;refine Cq ?_;refine N2 (d:=13) rfl rfl rfl ?_;refine Io (ι:=Nat×Cf×List (List (List AV))×List Int) (fun q=>q.1≤k∧Uy n inp (k-q.1) q.2.1=Uy n inp k c0∧StK n q.2.1∧CfS ⟨q.2.2.1,[q.2.2.2.length]⟩ B0.length V C ids q.2.1∧q.2.2.1[0]?=some [zCf]∧q.2.2.2.length≤q.1+1)
  (fun q=>[(35,vi q.1),(34,vi k),(13,.sl (Fe q.2.2.2) (.tok 0)),(0,.cptr (Mh n)),(2,.sl (Fe inp) .no),(11,.ptr B0.length 0 0),(8,.ptr 0 0 0)]) (fun q=>⟨q.2.2.1,[q.2.2.2.length]⟩) (fun q=>k-q.1) ?_ (0,c0,B1,[0])
  ⟨B3 _,rfl,hSt,⟨hc.box,hc.cf,hc.ne⟩,z8,by simp⟩ ⟨rfl,rfl,rfl,rfl,rfl,rfl,rfl,trivial⟩ rfl
 intro q hq IH;obtain⟨m,c,B,pth⟩:=q;obtain⟨i1,i2,i3,i4,i5,i6⟩:=hq;simp only at i1 i2 i3 i4 i5 i6;refine Cb 60 rfl ?_;refine F7 (fun g=>?_) (fun g=>?_)
 ·have hlt:m<k:=by have:=A5 g;simp only at this;omega
  obtain⟨d,hd⟩:∃d,k-m=d+1:=⟨k-m-1,by omega⟩
  rw[hd]at i2;refine Rj (Akd n c hpts) (.cons (.same _ okP) (.cons (i4.fzp i3.vok.ok) .nil)) (.val _) ?_;refine F7 (fun g2=>?_) (fun g2=>?_)
  ·have hc9:c=Uy n inp k c0:=by rw[←i2];unfold Uy;rw[if_pos g2]
   rw[hyes,hF,←hc9];refine Aw i4.box ?_;refine Cc (xs:=Ef c V C) (cs':=Ef c V C) i5 rfl ?_ (hc:=Fc i4.cf);refine Bc func71 (h:=Qx rfl rfl (Eh (Aa i5)) rfl rfl) ⟨_,rfl,_,_,ids,rfl,?_⟩;exact(i4.cf.chg (Cw _ 0 _) fun i hi hi2=>by simp at hi2;have:=hid i hi;omega).given
  ·refine G3 (A2f hr i3 ⟨B,[pth.length]⟩ i4) ?_;intro r S' hP _ _;obtain⟨rfl,ht',hch,hcS⟩:=hP;obtain⟨B',tk'⟩:=S';simp only at ht' hch;subst ht';have i5':B'[0]?=some [zCf]:=(hch.2 0 (Aa i5) h0n).trans i5;have hst':=U4 hr i3 hil2;have i2':Uy n inp d (Is n inp c)=Uy n inp k c0:=by
    rw[←i2,show Uy n inp (d+1) c=if I7 n c=true then c else Uy n inp d (Is n inp c)from rfl,if_neg (by simp[g2])]
   generalize Is n inp c=c' at *;refine Cb 60 rfl ?_;refine Aw hcS.box ?_;refine F7 (fun g3=>?_) (fun g3=>?_)
   ·refine Aw hcS.box ?_;refine Hi (Bu (res:=Fe (pth++[c'.pt])) (tk:=[(pth++[c'.pt]).length]) rfl rfl rfl rfl rfl rfl rfl rfl rfl rfl rfl rfl rfl rfl (D9 _) (Am7 _) rfl rfl rfl (by rw[D9];simp;omega) (by simp[Fe]) (by rw[D9,Ex];rfl)) rfl rfl ?_;refine Cb 60 rfl ?_;refine IH (m+1,c',B',pth++[c'.pt]) ⟨hlt,by simp only;rw[show k-(m+1)=d by omega];exact i2',hst',⟨hcS.box,hcS.cf,hcS.ne⟩,i5',by simp;omega⟩ (by simp only;omega) _ _ ⟨Ci ((Ac (by simp only;omega) (by simp only;omega)).trans (by simp only;omega)),rfl,rfl,rfl,rfl,rfl,rfl,trivial⟩ rfl
   ·refine IH (m+1,c',B',pth) ⟨hlt,by simp only;rw[show k-(m+1)=d by omega];exact i2',hst',hcS,i5',by simp only;omega⟩ (by simp only;omega) _ _ ⟨Ci ((Ac (by simp only;omega) (by simp only;omega)).trans (by simp only;omega)),rfl,rfl,rfl,rfl,rfl,rfl,trivial⟩ rfl
 ·have hmk:m=k:=by have:=Ba g;simp only at this;omega
  have hc9:c=Uy n inp k c0:=by rw[←i2,hmk,Ik];rfl
  rw[hyes,hF,←hc9];refine Aw i4.box ?_;refine Cc (xs:=Ef c V C) (cs':=Ef c V C) i5 rfl ?_ (hc:=Fc i4.cf);refine Bc func71 (h:=Qx rfl rfl (Eh (Aa i5)) rfl rfl) ⟨_,rfl,_,_,ids,rfl,?_⟩;exact(i4.cf.chg (Cw _ 0 _) fun i hi hi2=>by simp at hi2;have:=hid i hi;omega).given
theorem Ayf(n:Nd)(hn:Ai n≤1000000000)(hnum:PrI n)(ls inp:List Int)(hls:ls.length≤1000000000)(hil:inp.length≤1000000000)(fuel:Int):Gives X 36 [nd n,.sl (Fe ls) .no,.sl (Fe inp) .no,vi fuel] (fun r bx=>∃ids,CfB SlG bx r ids (rtM n ls inp fuel)):=by
 have hp:=Aid n hn hnum;unfold rtM;refine Gives.run func36 ?_;cases hr:Fy n with
 |false=>
  rw[if_neg (by simp[hr])]at hp;refine Al hp ?_;refine A0 ?_;rw[if_neg (by decide)];exact Bc func36 (h:=rfl) ⟨_,rfl,[],Tc _⟩
 |true=>
  rw[if_pos hr]at hp;refine Al hp ?_;refine Ag ?_;rw[if_pos rfl];refine Te (A4i hr ls inp hls hil fuel) (.cons (.same _ (inferInstance:OK 0 0 (.cptr (Mh n))).ok) (.cons (.same _ (inferInstance:OK 0 0 (.sl (Fe ls) .no)).ok) (.cons (.same _ (inferInstance:OK 0 0 (.sl (Fe inp) .no)).ok) (.cons (.same _ (.val _)) .nil)))) ?_;intro r bx hP;obtain⟨x,pth,ids0,rfl,hC⟩:=hP;generalize rtF n ls inp fuel=c0 at *;obtain⟨V0,C0,rfl⟩:=hC.parts;have hlt0:=hC.ltG;have hH:=fun a b=>CfB.held (pre:=[a,b]) hC;refine⟨.tup [.agg (Ef c0 (Hn 2 V0) (Hn 2 C0)),.junk,vb _],Rh 2 bx,Avm (by have:=U3 2 (.agg (Ef c0 V0 C0));simpa[Hn,Sy]using this) (.junk _),Nu _ _,?_⟩;have hH2:∀a b,CfB SlB (a::b::Rh 2 bx) (.agg (Ef c0 (Hn 2 V0) (Hn 2 C0))) (ids0.map (·+2)) c0:=fun a b=>by
   have:=hH a b;simpa[Hn,Sy]using this
  generalize Hn 2 V0=V at hH2⊢;generalize Hn 2 C0=C at hH2⊢;refine Cb 60 rfl ?_;obtain⟨B0,hB0⟩:∃B0,B0=[Af n]::[zCf]::Rh 2 bx:=⟨_,rfl⟩
  refine Be ⟨B0,[]⟩ ?_ (by rw[hB0];rfl);have hcf:CfB SlB B0 (.agg (Ef c0 V C)) (ids0.map (·+2)) c0:=by rw[hB0];exact hH2 _ _
  refine Lq (b:=B0.length) rfl rfl ?_;refine Cc (b:=B0.length) (cs:=zCf) (xs:=Ef c0 V C) (cs':=Ef c0 V C) (by simp) rfl ?_ (hc:=Fc hcf);obtain⟨B1,hB1⟩:∃B1,B1=B0++[[Ef c0 V C]]:=⟨_,rfl⟩
  refine Be ⟨B1,[]⟩ ?_ (by rw[hB1];exact congrArg (fun x=>St.mk x _) (by rw[Iw _ _ (Bo _),Ik];rfl));have z1:B1[1]?=some [zCf]:=by rw[hB1,hB0];rfl
  have z11:B1[B0.length]?=some [Ef c0 V C]:=by simp[hB1]
  have hcf1:CfB SlB B1 (.agg (Ef c0 V C)) (ids0.map (·+2)) c0:=by rw[hB1];exact hcf.more
  refine Aw z11 ?_;refine Cc (xs:=Ef c0 V C) (cs':=Ef c0 V C) z1 rfl ?_ (hc:=Fc hcf1);refine Bc func36 (h:=Ee rfl rfl (Eh (Aa z1)) rfl) ⟨_,rfl,ids0.map (·+2),?_⟩;exact(hcf1.chg (Cw _ 1 _) fun i hi hi2=>by
   simp at hi2;obtain⟨k,hk,rfl⟩:=zzq66.1 hi;omega).given
def Abr(l:List Cf):List (List AV):=l.map G4
instance{n m:Nat}{l:List Cf}:OKR n m (Abr l):=⟨fun r hr x hx=>by
 obtain⟨c,_,rfl⟩:=zzq66.1 hr;exact(inferInstance:OKL n m (G4 c)).ok x hx⟩
theorem X7(l:List Cf):(Abr l).length=l.length:=by simp[Abr]
theorem Aws(l:List Cf):Kf 8 (Abr l)=true:=Kx (f:=G4) (fun _=>rfl) l
def rlM(n:Nd)(ls inp:List Int)(fuel:Int):List Cf:=if Fy n=true then(match rtO n ls inp fuel with
 |some cs=>bgC (Ax n 31).length cs::Aao n inp fuel.toNat (bgC (Ax n 31).length cs)
 |none=>[])else[]
theorem Akf(n:Nd)(inp:List Int):∀(k:Nat)(c:Cf),(Aao n inp k c).length≤k
 |0,c=>by simp[Aao]
 |k+1,c=>by
  unfold Aao;split
  ·have:=Akf n inp k (Is n inp c);simp;omega
  ·simp
theorem Atm{α:Type}(c:α)(l:List α):(c::l)[l.length]?=some (l.getLastD c):=by
 cases l with
 |nil=>rfl
 |cons a l=>simp[List.getLastD,List.getLast_eq_getElem]
theorem A4b(n:Nd)(hn:wN n≤100000000)(ls inp:List Int)(hls:ls.length≤1000000000)(hil:inp.length≤1000000000)(fuel:Int):Pure X 70 [nd n,.sl (Fe ls) .no,.sl (Fe inp) .no,vi fuel] (.sl (Abr (rlM n ls inp fuel)) .no):=by
 refine Pure.run func70 ?_;refine Al (Ax7 n hn) ?_;unfold rlM;cases hr:Fy n with
 |false=>
  rw[if_neg (by decide)];refine Hh ?_;refine Hh ?_;refine A0 ?_;exact As func70 rfl
 |true=>
 rw[if_pos rfl];have hpts:=(Zu hr).1;refine Ii ?_;refine Al (H4 fuel 0 5000) ?_;cases hf:Bl fuel 0 5000 with
 |false=>
  have hno:rtO n ls inp fuel=none:=by unfold rtO;rw[hf];rfl
  rw[hno];refine Hh ?_;refine A0 ?_;exact As func70 rfl
 |true=>
 refine Ii ?_;refine Al (At3 inp hil) ?_;cases hin:Yl inp with
 |false=>
  have hno:rtO n ls inp fuel=none:=by unfold rtO;rw[hf,hin];rfl
  rw[hno];refine A0 ?_;exact As func70 rfl
 |true=>
 refine Ag ?_;refine Al (A15 n hr) ?_;refine Al (Axz n hr ls hls) ?_;cases hbo:Xv (Ei n) ls with
 |none=>
  have hno:rtO n ls inp fuel=none:=by unfold rtO;rw[hf,hin];exact hbo
  rw[hno];refine A0 ?_;exact As func70 rfl
 |some cs=>
 have hyes:rtO n ls inp fuel=some cs:=by unfold rtO;rw[hf,hin];exact hbo
 rw[hyes];have hSt:StK n (bgC (Ax n 31).length cs):=Ag5 hr hbo;have hil2:inp.length≤100:=by
  unfold Yl at hin;simp only[Dd,Ke]at hin;omega
 have hfb:=Cn.1 hf;obtain⟨k,rfl⟩:∃k:Nat,fuel=k:=⟨fuel.toNat,by omega⟩
 rw[Hl];simp only[Awo];generalize bgC (Ax n 31).length cs=c0 at *;refine N2 (d:=9) rfl rfl rfl ?_;refine Ag ?_;refine Bn (Bu (res:=Abr [c0]) (tk:=[1]) rfl rfl rfl rfl rfl rfl rfl rfl rfl rfl rfl rfl rfl rfl rfl rfl rfl rfl rfl (by simp) rfl rfl) ?_;have hw1:IntKind.i64.wrap ((((D6 (A9 n)).pts:Nat):Int)-1)=(((D6 (A9 n)).pts:Nat):Int)-1:=Ac (by omega) (by omega);refine Ar (ι:=Nat×Cf×List Cf) 3 1 (fun q=>q.1≤k∧q.2.2++Aao n inp (k-q.1) q.2.1=c0::Aao n inp k c0∧StK n q.2.1∧q.2.2.length≤q.1+1) (fun q=>[(13,vi q.1),(9,.sl (Abr q.2.2) (.tok 0)),(3,vi k),(2,.sl (Fe inp) .no),(10,.ptr 1 0 0),(11,.ptr 2 0 0)])
  (fun q=>⟨[[Af n],[Kp n],[G4 q.2.1]],[q.2.2.length]⟩) (fun q=>k-q.1) ?_ (0,c0,[c0]) ⟨B3 _,rfl,hSt,by simp⟩ ⟨rfl,rfl,rfl,rfl,rfl,rfl,trivial⟩
 intro q hq IH;obtain⟨m,c,l⟩:=q;obtain⟨i1,i2,i3,i4⟩:=hq;simp only at i1 i2 i3 i4;refine Bi 100 rfl ?_;have stop:Aao n inp (k-m) c=[]→l=c0::Aao n inp k c0:=fun h=>by rw[h,H0]at i2;exact i2
 by_cases hmk:m<k
 case neg=>
  have:=stop (by rw[show k-m=0 by omega];rfl);refine Ii ?_ (ht:=Mc (by omega));refine Ii ?_;refine Ag ?_;rw[←this];exact As func70 rfl
 obtain⟨d,hd⟩:∃d,k-m=d+1:=⟨k-m-1,by omega⟩
 rw[hd]at i2 stop;have hrun:Aao n inp (d+1) c=if c.trap=0∧¬c.pt=(((D6 (A9 n)).pts:Nat):Int)-1 then Is n inp c::Aao n inp d (Is n inp c)else[]:=rfl;refine Hh ?_ (ht:=Zd (by omega));by_cases ht:c.trap=0
 case neg=>
  have:=stop (by rw[hrun,if_neg fun h=>ht h.1]);refine Ii ?_ (ht:=by simpa using ht);refine Ag ?_;rw[←this];exact As func70 rfl
 refine Hh ?_ (ht:=by simpa using ht);by_cases hpt:c.pt=(((D6 (A9 n)).pts:Nat):Int)-1
 ·have:=stop (by rw[hrun,if_neg fun h=>h.2 hpt]);refine Ag ?_ (ht:=by rw[hw1];simpa using hpt);rw[←this];exact As func70 rfl
 rw[hrun,if_pos ⟨ht,hpt⟩]at i2;refine A0 ?_ (ht:=by rw[hw1];simpa using hpt);refine Al (A14 hr i3 hil2) ?_;have hst':=U4 hr i3 hil2;generalize Is n inp c=c' at *;refine Bn (Bu (res:=Abr (l++[c'])) (tk:=[(l++[c']).length]) rfl rfl rfl rfl rfl rfl rfl rfl rfl rfl rfl rfl rfl rfl (X7 _) (Aws _) rfl rfl rfl (by rw[X7];simp;omega) (by simp[Abr]) (by rw[X7,Ex];rfl)) ?_;refine IH (m+1,c',l++[c']) ⟨hmk,by simp only;rw[show k-(m+1)=d by omega,Fp];exact i2,hst',by simp;omega⟩ (by simp only;omega) _ _ ⟨Ci ((Ac (by simp only;omega) (by simp only;omega)).trans (by simp only;omega)),rfl,rfl,rfl,rfl,rfl,trivial⟩ rfl rfl rfl
theorem Auz(n:Nd)(ls inp:List Int)(fuel:Int)(hil:inp.length≤1000000000):(rlM n ls inp fuel=[]∧rtM n ls inp fuel=zC)∨(∃c l,rlM n ls inp fuel=c::l∧rtM n ls inp fuel=l.getLastD c∧(c::l).length≤5001):=by
 unfold rlM rtM rtF;cases hr:Fy n with
 |false=>exact .inl ⟨rfl,rfl⟩
 |true=>
 rw[if_pos rfl,if_pos rfl];cases hs:rtO n ls inp fuel with
 |none=>exact .inl ⟨rfl,rfl⟩
 |some cs=>
  unfold rtO at hs;split at hs
  ·rename_i hb;simp only[Dd]at hb;have hfb:=Cn.1 hb.1;have hil2:inp.length≤100:=by
    have:=hb.2;unfold Yl at this;simp only[Dd,Ke]at this;omega
   have hSt:=Ag5 hr hs;refine .inr ⟨_,_,rfl,(Af2 hr hil2 fuel.toNat _ hSt (by simp[bgC];omega)).symm,?_⟩;have:=Akf n inp fuel.toNat (bgC (Ax n 31).length cs)
   simp;omega
  ·cases hs
theorem Axy(n:Nd)(hn:wN n≤100000000)(ls inp:List Int)(hls:ls.length≤1000000000)(hil:inp.length≤1000000000)(fuel:Int):Pure X 35 [nd n,.sl (Fe ls) .no,.sl (Fe inp) .no,vi fuel] (cf (rtM n ls inp fuel)):=by
 have hp:=A4b n hn ls inp hls hil fuel;refine Pure.run func35 ?_;refine Al hp ?_;rcases Auz n ls inp fuel hil with⟨h1,h2⟩|⟨c,l,h1,h2,h3⟩
 ·rw[h1,h2];refine A0 ?_;exact As func35 rfl
 ·have hlen:(Abr (c::l)).length=l.length+1:=by rw[X7];rfl
  have hw1:IntKind.i64.wrap (((Abr (c::l)).length:Int)-1)=l.length:=by rw[hlen,Ac (by simp at h3;omega) (by simp at h3;omega)];omega
  rw[h1,h2];refine Ag ?_ (ht:=by rw[hlen];simp;omega);refine B4 (r:=G4 (l.getLastD c)) (IntKind.i64.wrap (((Abr (c::l)).length:Int)-1)) (by rw[hw1];omega) (by rw[hw1,Hl];exact Ev (f:=G4) (Atm c l)) ?_;exact As func35 rfl
theorem Ad4{α:Type}(l:List α)(a b:α):(l++[a]).set l.length b=l++[b]:=by
 rw[Iw _ _ (Bo _),Ik];rfl
theorem InG.held{l:List Int}{r:AV}{bx pre:List (List (List AV))}{d:Nat}(hd:pre.length=d)(h:InG l r bx):∃b,b<bx.length∧r=.bsl b l.length∧(pre++Rh d bx)[b+d]?=some (Fe l):=by
 obtain⟨b,rfl,hb⟩:=h;refine⟨b,Aa hb,rfl,?_⟩;rw[Gk (by omega),hd,Ad8,Rh,Gl,hb,Lk,Aba]
theorem Atv{S:St}{n:Nd}{lo hi b:Nat}(hn:Ai n≤1000000000)(h:Zo true lo hi S.boxes b n):Fz S 0 0 (ndB b n) (nd n):=by
 refine .agg _ _ rfl fun j x y hx hy=>?_
 match j,hx,hy with
 |0,hx,hy=>simp[Af]at hx hy;subst hx;subst hy;exact .same _ (.val _)
 |1,hx,hy=>simp[Af]at hx hy;subst hx;subst hy;exact .same _ (.val _)
 |2,hx,hy=>simp[Af]at hx hy;subst hx;subst hy;exact .same _ (.val _)
 |3,hx,hy=>simp[Af]at hx hy;subst hx;subst hy;exact A3o n hn h
 |j+4,hx,_=>simp at hx
theorem Ab2{S:St}{l:List Int}{b:Nat}(hl:l.length≤1000000000)(h:S.boxes[b]?=some (Fe l)):Fz S 0 0 (.bsl b l.length) (.sl (Fe l) .no):=
 SlB.flat (.inl ⟨b,[],by rw[D9],by rw[H0];exact h⟩) (by rw[D9];omega) inferInstance
theorem A35:(∀n:Nd,mcN n+3≤3*Ai n)∧∀l:List Nd,mcL l≤3*A3 l:=by
 refine Ro (fun k s m ks h=>?_) (by simp[mcL]) fun x l h1 h2=>?_
 ·have:=Cj (.mk k s m ks);simp only[Gh]at this;simp only[mcN];omega
 ·simp only[mcL,A3];omega
theorem A2q{cs:List Nat}(h:∀c,c∈cs→c≤1000000):cs.sum≤1000000*cs.length:=by
 induction cs with
 |nil=>simp
 |cons c cs ih=>
  have:=ih fun x hx=>h x (by simp[hx]);have:=h c (by simp);simp;omega
theorem A2k(n:Nd)(ls inp:List Int)(fuel:Int):CfOk (rtM n ls inp fuel)∧Wp (rtM n ls inp fuel)≤100000000000:=by
 have hz:CfOk zC∧Wp zC≤100000000000:=⟨⟨by simp[zC],by simp[zC],fun x hx=>by simp[zC]at hx⟩,by simp[zC,Wp,Iy]⟩
 unfold rtM rtF;split
 ·rename_i hr;cases hs:rtO n ls inp fuel with
  |none=>exact hz
  |some cs=>
   unfold rtO at hs;split at hs
   ·rename_i hb;simp only[Dd]at hb;have hil2:inp.length≤100:=by
     have:=hb.2;unfold Yl at this;simp only[Dd,Ke]at this;omega
    have hv:=(Ao2 hr hil2 fuel.toNat _ (Ag5 hr hs)).vok;simp only;generalize Uy n inp fuel.toNat (bgC (Ax n 31).length cs)=c at *;have h1:=hv.vars;have h2:=hv.cells;have h3:=G9 n 31;have h4:=G9 n 32;have h5:=hv.kl;have h6:(Iy c.cells).sum≤1000000*(Iy c.cells).length:=A2q fun x hx=>by
     obtain⟨r,hr,rfl⟩:=zzq66.1 hx;have:=hv.rows r hr;omega
    have h7:(Iy c.cells).length=c.cells.length:=by simp[Iy]
    exact⟨hv.ok,by unfold Wp;omega⟩
   ·cases hs
 ·exact hz
theorem Azl(n:Nd)(l li:List Int)(fuel:Int)(hpn:PrI n)(hln:LnI n)(hll:l.length≤9223372036854775807)(hli:li.length≤9223372036854775807):Pure X 7 [nd n,.sl (Fe l) .no,.sl (Fe li) .no,vi fuel] (vb true):=by
 have hzl:=D9 l;refine Pure.run func7 ?_;refine Ah (fun g0=>?_) (fun g0=>?_)
 ·exact As func7 rfl
 have hl:l.length≤1048576:=by have:=Ba g0;rw[hzl]at this;omega
 have hzli:=D9 li;refine Ah (fun g9=>?_) (fun g9=>?_)
 ·exact As func7 rfl
 have hli2:li.length≤1048576:=by have:=Ba g9;rw[hzli]at this;omega
 refine Al (A5h n hln 1048576 (by omega) (by omega)) ?_;refine Ah (fun g=>?_) (fun g=>?_)
 ·exact As func7 rfl
 have g1:=Ao7 (show 0≤szR (swN n) 1048576 by have:=Ba g;omega);have w1:=A4v.1 n;have c1:=Ry n;have hcn:Ai n≤1000000000:=by omega
 obtain⟨hW,hWn⟩:=A2k n l li fuel;have hmc:mcN n≤10000000000:=by have:=A35.1 n;omega
 refine Al (A2t n hcn) ?_;refine Al (Agb l (by omega)) ?_;refine Al (Agb li (by omega)) ?_;refine Al (Axy n (by omega) l li (by omega) (by omega) fuel) ?_;have hq:=Ayf n hcn hpn l li (by omega) (by omega) fuel;generalize rtM n l li fuel=W at *;have gx:∀{bx more:List (List (List AV))} {i:Nat} {y:List (List AV)},bx[i]?=some y→(bx++more)[i]?=some y:=fun{bx more i y} h=>by rw[Cs (Aa h)];exact h
 have new:∀(bx:List (List (List AV))) (y:List (List AV)),(bx++[y])[bx.length]?=some y:=fun bx y=>by simp
 have hin:∀x,Ok 0 0 (vi x):=fun x=>.val _;refine Te (A2u n hcn) (.cons (.same _ (inferInstance:OK 0 0 (nd n)).ok) .nil) ?_;intro r bx1 hP;obtain⟨b,rfl,hT⟩:=hP;refine⟨ndB (b+2) n,Rh 2 bx1,Atw n,Nu _ _,?_⟩;obtain⟨S1,hS1⟩:∃S1:St,S1=⟨[Af n]::[G4 W]::Rh 2 bx1,[]⟩:=⟨_,rfl⟩
 refine Be S1 ?_ hS1.symm;have hT1:Zo true 2 S1.boxes.length S1.boxes (b+2) n:=by
  rw[hS1];exact Pk n (by omega) (by simp[Pt]) (fun _ _ _ _ h=>h) (Acw n (d:=2) (pre:=[[Af n],[G4 W]]) rfl hT)
 have z0:S1.boxes[0]?=some [Af n]:=by rw[hS1];rfl
 have z1:S1.boxes[1]?=some [G4 W]:=by rw[hS1];rfl
 have l1:2≤S1.boxes.length:=by rw[hS1];simp
 have r0:([Af n]:List (List AV))[0]?=some (Af n):=rfl;have r1:([G4 W]:List (List AV))[0]?=some (G4 W):=rfl;have rz:([zN]:List (List AV))[0]?=some zN:=rfl;refine Lq rfl rfl ?_;refine Mn (new _ _) rz rfl ?_;obtain⟨S2,hS2⟩:∃S2:St,S2=⟨S1.boxes++[[[vi n.kind,str n.name,vi n.num,.bsl (b+2) n.kids.length]]],S1.toks⟩:=⟨_,rfl⟩
 refine Be S2 ?_ (by rw[hS2];exact congrArg (fun x=>St.mk x _) (Ad4 _ _ _));have l2:S2.boxes.length=S1.boxes.length+1:=by rw[hS2];simp
 refine Te (Avh l (by omega)) (.cons (.same _ (inferInstance:OK 0 0 (.sl (Fe l) .no)).ok) .nil) ?_;intro r bx2 hP;obtain⟨c,hc,rfl,hx1⟩:=hP.held (pre:=S2.boxes) rfl;refine⟨.bsl (c+S2.boxes.length) l.length,Rh S2.boxes.length bx2,.bsl c _,Nu _ _,?_⟩;obtain⟨S3,hS3⟩:∃S3:St,S3=⟨S2.boxes++Rh S2.boxes.length bx2,S2.toks⟩:=⟨_,rfl⟩
 refine Be S3 ?_ hS3.symm;have l3:S3.boxes.length=S2.boxes.length+bx2.length:=by rw[hS3];simp[Pt]
 have up3:∀{i:Nat} {y:List (List AV)},S1.boxes[i]?=some y→S3.boxes[i]?=some y:=fun h=>by rw[hS3,hS2];exact gx (gx h)
 have z8:S3.boxes[S1.boxes.length]?=some [[vi n.kind,str n.name,vi n.num,.bsl (b+2) n.kids.length]]:=by rw[hS3,hS2];exact gx (new _ _)
 have r8:([[vi n.kind,str n.name,vi n.num,.bsl (b+2) n.kids.length]]:List (List AV))[0]?=some [vi n.kind,str n.name,vi n.num,.bsl (b+2) n.kids.length]:=rfl;have hT3:Zo true 2 S1.boxes.length S3.boxes (b+2) n:=Pk n (Bo _) (Bo _) (fun _ _ _ _ h=>up3 h) hT1;have hx3:S3.boxes[c+S2.boxes.length]?=some (Fe l):=by rw[hS3];exact hx1
 refine Cb 60 rfl ?_;refine Te (Avh li (by omega)) (.cons (.same _ (inferInstance:OK 0 0 (.sl (Fe li) .no)).ok) .nil) ?_;intro r bx9 hP;obtain⟨c9,hc9,rfl,hx9⟩:=hP.held (pre:=S3.boxes) rfl;refine⟨.bsl (c9+S3.boxes.length) li.length,Rh S3.boxes.length bx9,.bsl c9 _,Nu _ _,?_⟩;obtain⟨R3,hR3⟩:∃R3:St,R3=⟨S3.boxes++Rh S3.boxes.length bx9,S3.toks⟩:=⟨_,rfl⟩
 refine Be R3 ?_ hR3.symm;have lr3:R3.boxes.length=S3.boxes.length+bx9.length:=by rw[hR3];simp[Pt]
 have upr:∀{i:Nat} {y:List (List AV)},S3.boxes[i]?=some y→R3.boxes[i]?=some y:=fun h=>by rw[hR3];exact gx h
 have z8:=upr z8;have hT3:Zo true 2 S1.boxes.length R3.boxes (b+2) n:=Pk n (Bo _) (Bo _) (fun _ _ _ _ h=>upr h) hT3;have hx3:=upr hx3;have up3:∀{i:Nat} {y:List (List AV)},S1.boxes[i]?=some y→R3.boxes[i]?=some y:=fun h=>upr (up3 h);have hy3:R3.boxes[c9+S3.boxes.length]?=some (Fe li):=by rw[hR3];exact hx9
 refine Cb 60 rfl ?_;refine Hc z8 r8 ?_;refine Te hq (.cons (Atv hcn hT3) (.cons (Ab2 (by omega) hx3) (.cons (Ab2 (by omega) hy3) (.cons (.same _ (hin _)) .nil)))) ?_;intro r bx3 hP;obtain⟨ids,hC⟩:=hP;obtain⟨V,C,rfl⟩:=hC.parts;have hidl:=hC.ltG;have hC3:=hC.held (pre:=R3.boxes);simp only[Hn,Sy]at hC3;refine⟨.agg (Ef W (Hn R3.boxes.length V) (Hn R3.boxes.length C)),Rh R3.boxes.length bx3,(by have:=U3 R3.boxes.length (.agg (Ef W V C));simpa[Hn,Sy]using this),Nu _ _,?_⟩;generalize Hn R3.boxes.length V=V1 at hC3⊢;generalize Hn R3.boxes.length C=C1 at hC3⊢;obtain⟨js,hjs⟩:∃js,js=ids.map (·+R3.boxes.length):=⟨_,rfl⟩
 rw[←hjs]at hC3;have hj:∀j,j∈js→R3.boxes.length≤j∧j<R3.boxes.length+bx3.length:=fun j h=>by
  rw[hjs]at h;obtain⟨i,hi,rfl⟩:=zzq66.1 h;have:=hidl i hi;omega
 obtain⟨S4,hS4⟩:∃S4:St,S4=⟨R3.boxes++Rh R3.boxes.length bx3,R3.toks⟩:=⟨_,rfl⟩
 refine Be S4 ?_ hS4.symm;have l4:S4.boxes.length=R3.boxes.length+bx3.length:=by rw[hS4];simp[Pt]
 have hC4:CfB SlB S4.boxes (.agg (Ef W V1 C1)) js W:=by rw[hS4];exact hC3
 have rz9:([[vi 0,.sl [] .tight,.sl [] .tight,vi 0,vi 0,vi 0,vi 0,vi 0]]:List (List AV))[0]?=some [vi 0,.sl [] .tight,.sl [] .tight,vi 0,vi 0,vi 0,vi 0,vi 0]:=rfl;refine Lq rfl rfl ?_;refine Mn (xs:=Ef W V1 C1) (cs':=Ef W V1 C1) (new _ _) rz9 rfl ?_ (hc:=Fc hC4);obtain⟨S5,hS5⟩:∃S5:St,S5=⟨S4.boxes++[[Ef W V1 C1]],S4.toks⟩:=⟨_,rfl⟩
 refine Be S5 ?_ (by rw[hS5];exact congrArg (fun x=>St.mk x _) (Ad4 _ _ _));have l5:S5.boxes.length=S4.boxes.length+1:=by rw[hS5];simp
 have up5:∀{i:Nat} {y:List (List AV)},R3.boxes[i]?=some y→S5.boxes[i]?=some y:=fun h=>by rw[hS5,hS4];exact gx (gx h)
 have z10:S5.boxes[S4.boxes.length]?=some [Ef W V1 C1]:=by rw[hS5];exact new _ _
 have r10:([Ef W V1 C1]:List (List AV))[0]?=some (Ef W V1 C1):=rfl;have z05:=up5 (up3 z0);have z15:=up5 (up3 z1);have z85:=up5 z8;have hT5:Zo true 2 S1.boxes.length S5.boxes (b+2) n:=Pk n (Bo _) (Bo _) (fun _ _ _ _ h=>up5 h) hT3;have hx5:=up5 hx3;have hy5:=up5 hy3;have hC5:CfB SlB S5.boxes (.agg (Ef W V1 C1)) js W:=by rw[hS5];exact hC4.more
 have okW:Ok 0 0 (cf W):=(inferInstance:OK 0 0 (cf W)).ok;have okN:Ok 0 0 (nd n):=(inferInstance:OK 0 0 (nd n)).ok;have okL:Ok 0 0 (.sl (Fe l) .no):=(inferInstance:OK 0 0 (.sl (Fe l) .no)).ok;refine Hc z10 r10 ?_;refine Hc z15 r1 ?_;refine Rj (Am2 W hW) (.cons (hC5.fz hW) (.cons (.same _ okW) .nil)) (.val _) ?_;refine Cq ?_;refine De 0 (by kernel_rfl) ?_;refine A2 (M1 z85 r8) ?_;refine A2 (M1 z05 r0) ?_;refine Js (A2t n hcn) ?_;refine A2 (Rr (A5g n hcn) (.cons (Atv hcn hT5) (.cons (.same _ okN) .nil)) (.val _)) ?_;refine Av ?_;refine Gt ?_;refine Cq ?_;refine Im (Agb l (by omega)) ?_;refine Rj (Avc l (by omega)) (.cons (Ab2 (by omega) hx5) (.cons (.same _ okL) .nil)) (.val _) ?_;refine Cq ?_;refine Im (Agb li (by omega)) ?_;refine Rj (Avc li (by omega)) (.cons (Ab2 (by omega) hy5) (.cons (.same _ (inferInstance:OK 0 0 (.sl (Fe li) .no)).ok) .nil)) (.val _) ?_;refine Cq ?_;refine Hc z85 r8 ?_;refine G3 (Azj n (k:=1) (Awm n hT5) (Bo _) (by omega)) ?_;intro r S6 hP _ _;obtain⟨rfl,ht6,hM6⟩:=hP;have far6:∀{i:Nat} {y:List (List AV)},i<2∨S1.boxes.length≤i→S5.boxes[i]?=some y→S6.boxes[i]?=some y:=fun hi h=>(hM6.far _ (Aa h) hi).trans h;have hC6:CfB SlB S6.boxes (.agg (Ef W V1 C1)) js W:=hC5.chg hM6.chg fun j h1 h2=>by
  have:=hj j h1;obtain⟨i,hi,rfl⟩:=zzq66.1 h2;have:=zzq53.1 hi;omega
 have hx6:=far6 (.inr (by omega)) hx5;have hy6:=far6 (.inr (by omega)) hy5;have z16:=far6 (.inl (by omega)) z15;have z06:=far6 (.inl (by omega)) z05;have z106:=far6 (.inr (by omega)) z10;refine Cb 60 rfl ?_;refine G3 (Ain (l:=l) (x:=.bsl (c+S2.boxes.length) l.length) (.inl ⟨_,[],by rw[hzl],by rw[H0];exact hx6⟩) (1+mcN n) (by omega)) ?_;intro r S7 hP _ _;obtain⟨rfl,ht7,hc7,_⟩:=hP;have far7:∀{i:Nat} {y:List (List AV)},i≠c+S2.boxes.length→S6.boxes[i]?=some y→S7.boxes[i]?=some y:=fun hi h=>(hc7.2 _ (Aa h) (by simpa[Jo]using hi)).trans h;have hC7:CfB SlB S7.boxes (.agg (Ef W V1 C1)) js W:=hC6.chg hc7 fun j h1 h2=>by
  have:=hj j h1;simp[Jo]at h2;omega
 have hy7:=far7 (by omega) hy6;have z17:=far7 (by omega) z16;have z07:=far7 (by omega) z06;have z107:=far7 (by omega) z106;refine Cb 60 rfl ?_;refine G3 (Ain (l:=li) (x:=.bsl (c9+S3.boxes.length) li.length) (.inl ⟨_,[],by rw[hzli],by rw[H0];exact hy7⟩) (1+mcN n+l.length) (by omega)) ?_;intro r Q7 hP _ _;obtain⟨rfl,htq,hcq,_⟩:=hP;have farq:∀{i:Nat} {y:List (List AV)},i≠c9+S3.boxes.length→S7.boxes[i]?=some y→Q7.boxes[i]?=some y:=fun hi h=>(hcq.2 _ (Aa h) (by simpa[Jo]using hi)).trans h;have hC7:CfB SlB Q7.boxes (.agg (Ef W V1 C1)) js W:=hC7.chg hcq fun j h1 h2=>by
  have:=hj j h1;simp[Jo]at h2;omega
 have z17:=farq (by omega) z17;have z07:=farq (by omega) z07;have z107:=farq (by omega) z107;refine Cb 60 rfl ?_;refine Ol ?_ (ht:=Mc (by omega));refine Hc z107 r10 ?_;refine Hc z17 r1 ?_;refine Rj (Am2 W hW) (.cons (hC7.fz hW) (.cons (.same _ okW) .nil)) (.val _) ?_;refine Cq ?_;refine Hc z107 r10 ?_;refine G3 (Avf hC7 (by have:=hW.cells;omega) 1 (by omega)) ?_;intro r S8 hP _ _;obtain⟨rfl,ht8,hc8,hC8⟩:=hP;have far8:∀{i:Nat} {y:List (List AV)},i∉js→Q7.boxes[i]?=some y→S8.boxes[i]?=some y:=fun hi h=>(hc8.2 _ (Aa h) hi).trans h;have z18:=far8 (fun h=>by have:=hj _ h;omega) z17;have z08:=far8 (fun h=>by have:=hj _ h;omega) z07;have z108:=far8 (fun h=>by have:=hj _ h;omega) z107;refine Cb 60 rfl ?_;refine Hc z108 r10 ?_;refine Rj (Akm 1 W (by have:=hW.cells;omega) (by omega)) (.cons (hC8.fz (Aoe hW)) (.cons (.same _ (hin _)) .nil)) (.val _) ?_;refine Cq ?_ (ht:=Mc (by omega));refine Cq ?_ (ht:=by simp);refine Hc z08 r0 ?_;refine Im (A2t n hcn) ?_;refine Im (Agb l (by omega)) ?_;refine Im (Agb li (by omega)) ?_;refine Te hq (.cons (.same _ okN) (.cons (.same _ okL) (.cons (.same _ (inferInstance:OK 0 0 (.sl (Fe li) .no)).ok) (.cons (.same _ (hin _)) .nil)))) ?_;intro r bx4 hP;obtain⟨ids4,hD⟩:=hP;obtain⟨V2,C2,rfl⟩:=hD.parts;have hD9:=hD.held (pre:=S8.boxes);simp only[Hn,Sy]at hD9;refine⟨.agg (Ef W (Hn S8.boxes.length V2) (Hn S8.boxes.length C2)),Rh S8.boxes.length bx4,(by have:=U3 S8.boxes.length (.agg (Ef W V2 C2));simpa[Hn,Sy]using this),Nu _ _,?_⟩;generalize Hn S8.boxes.length V2=V3 at hD9⊢;generalize Hn S8.boxes.length C2=C3 at hD9⊢;obtain⟨S9,hS9⟩:∃S9:St,S9=⟨S8.boxes++Rh S8.boxes.length bx4,S8.toks⟩:=⟨_,rfl⟩
 refine Be S9 ?_ hS9.symm;have hD9':CfB SlB S9.boxes (.agg (Ef W V3 C3)) (ids4.map (·+S8.boxes.length)) W:=by rw[hS9];exact hD9
 refine Lq rfl rfl ?_;refine Mn (xs:=Ef W V3 C3) (cs':=Ef W V3 C3) (new _ _) rz9 rfl ?_ (hc:=Fc hD9');obtain⟨S10,hS10⟩:∃S10:St,S10=⟨S9.boxes++[[Ef W V3 C3]],S9.toks⟩:=⟨_,rfl⟩
 refine Be S10 ?_ (by rw[hS10];exact congrArg (fun x=>St.mk x _) (Ad4 _ _ _));have up10:∀{i:Nat} {y:List (List AV)},S8.boxes[i]?=some y→S10.boxes[i]?=some y:=fun h=>by rw[hS10,hS9];exact gx (gx h)
 have z15':S10.boxes[S9.boxes.length]?=some [Ef W V3 C3]:=by rw[hS10];exact new _ _
 have r15:([Ef W V3 C3]:List (List AV))[0]?=some (Ef W V3 C3):=rfl;have hD10:CfB SlB S10.boxes (.agg (Ef W V3 C3)) (ids4.map (·+S8.boxes.length)) W:=by rw[hS10];exact hD9'.more
 have hC10:CfB SlB S10.boxes (.agg (Ef W V1 C1)) js (Aju 1 W):=by rw[hS10,hS9];exact hC8.more.more
 refine Hc z15' r15 ?_;refine Hc (up10 z18) r1 ?_;refine Rj (Am2 W hW) (.cons (hD10.fz hW) (.cons (.same _ okW) .nil)) (.val _) ?_;refine Cq ?_;refine Hc (up10 z108) r10 ?_;refine Rj (Akm 1 W (by have:=hW.cells;omega) (by omega)) (.cons (hC10.fz (Aoe hW)) (.cons (.same _ (hin _)) .nil)) (.val _) ?_;refine Cq ?_ (ht:=Mc (by omega));refine Cq ?_ (ht:=by simp);exact As func7 rfl
end Go.V
namespace Go.Proofs.YtojhghmilenfkaaGreatDoor.runTo
open Go Go.Proofs Go.V Go.ChangeShapes Go.WideShapes Go.ChangeAt Go.RowKit Go.Proofs.Tryz
set_option maxRecDepth 100000
theorem Asu(H:Type)(enc:TypeId×Value→H)(W:World)(base:Nat)(args:Array Value)(ds gs:List (DataW H))(before:List MemPlace)
 (hval:∀(j:Nat) t v,f7.params[j]?=some t→args[j]?=some v→Value.okWide prog W .any base t v)
 (hW:DataW.Whole enc prog f7.params.toList Rows.fnExactRunToSpec.vars false W args.toList ds gs before)(hL:laidMetH prog Rows.fnExactRunToRow.laid W)(hs:W.ShapedOpen prog) :
 Calls prog 7 args W fun e W'=>∃v,e=.returned v∧Rows.fnExactRunToSpec.post enc prog f7 false true false false W args v W':=by
 have hW':=hW;obtain⟨p,q,hA0,_,_,_,_⟩:=hW;have hA:DataW.TrodAll enc prog W 0 (fun _=>true) true [24,37,37,3] args.toList ds p:=hA0;obtain⟨v0,vs0,d0,ds0,p0,q0,hargs,rfl,rfl,h0,r0⟩:=trodAll_cons hA;obtain⟨v1,vs1,d1,ds1,p1,q1,hargs1,rfl,rfl,h1,r1⟩:=trodAll_cons r0;obtain⟨v2,vs2,d2,ds2,p2,q2,hargs2,rfl,rfl,h2,r2⟩:=trodAll_cons r1;obtain⟨v3,vs3,d3,ds3,p3,q3,hargs3,rfl,rfl,h3,r3⟩:=trodAll_cons r2;obtain⟨rfl,rfl,rfl⟩:=trodAll_nil r3;subst hargs3;subst hargs2;subst hargs1;have ha0:args[0]?=some v0:=by rw[←Td,hargs];rfl
 have ha1:args[1]?=some v1:=by rw[←Td,hargs];rfl
 have ha2:args[2]?=some v2:=by rw[←Td,hargs];rfl
 have ha3:args[3]?=some v3:=by rw[←Td,hargs];rfl
 obtain⟨n,n1,n2,n3⟩:=Axx (hval 0 24 v0 rfl ha0) h0;obtain⟨l,l2,l3⟩:=An6 (hval 1 37 v1 rfl ha1) h1;obtain⟨i,i2,i3⟩:=An6 (hval 2 37 v2 rfl ha2) h2;obtain⟨k,k2,k3⟩:=A1p (hval 3 3 v3 rfl ha3) h3;have hR:RelL W args.toList [nd n,inl l,inl i,vi k]:=by rw[hargs];exact .cons n3 (.cons l3 (.cons i3 (.cons k3 .nil)))
 refine(Ay7 (Azl n l i k n1 n2 l2 i2) hs hL hR).mono fun r W' ⟨he,hb⟩=>?_;refine⟨_,he,Aqt Atj (fun t ht=>?_) rfl Awt A06 A05 A04 hW' hb (fun g1 hg=>?_) rfl underlying4⟩
 ·have h:t∈[24,37,37,3]:=ht;simp only[zzq13,Ww,or_false]at h;rcases h with rfl|rfl|rfl|rfl
  ·exact⟨by kernel_rfl,A5 (by kernel_rfl)⟩
  ·exact⟨by kernel_rfl,A5 (by kernel_rfl)⟩
  ·exact⟨by kernel_rfl,A5 (by kernel_rfl)⟩
  ·exact⟨by kernel_rfl,A5 (by kernel_rfl)⟩
 ·subst hg;rfl
set_option maxRecDepth 100000
theorem ab{a b:Bool}(h:a=true)(g:b=true):(a&&b)=true:=by rw[h,g];rfl
set_option maxHeartbeats 100000000 in
theorem A03:joinedFacts pinned.checked.prog 7 f7 (OpenSpec.ofChange Rows.fnExactRunToSpec).bare Rows.fnExactRunToRow=true:=by
 unfold joinedFacts
 iterate 31 refine ab ?_ ?_
 all_goals as_aux_lemma=>kernel_rfl
set_option maxRecDepth 100000
theorem Atl(os:Os):laidMet prog Rows.fnExactRunToRow.laid ((Atk os).forCall (fun _ _=>0) ⟨#[],#[Axw,Aa8,Aa8,.int .i64 0],[]⟩).memory:=laidMet_of_run' 8 (by kernel_rfl) (by kernel_rfl)
theorem reads(os:Os){H:Type}(enc:TypeId×Value→H):∃places,DataW.whole enc prog ((Atk os).forCall (fun _ _=>0) ⟨#[],#[Axw,Aa8,Aa8,.int .i64 0],[]⟩).memory f7.params.toList Rows.fnExactRunToSpec.vars false #[Axw,Aa8,Aa8,.int .i64 0].toList 8=some ([.agg [.lit (.int .i64 0),.lit (.string []),.lit (.int .i64 0),.nil],.nil,.nil,.lit (.int .i64 0)],[.agg (condB.map fun b=>.lit (.string b))],places):=
 ⟨MemPlace.row ⟨1,0,none⟩ 6,by kernel_rfl⟩
theorem A1w(os:Os)(started:os.Started)(H:Type)(enc:TypeId×Value→H)(F:Stop.Interp) :
 ReturnsInHanded {} checked os 7 .any ((OpenSpec.ofChange Rows.fnExactRunToSpec).preRow enc prog f7 Rows.fnExactRunToRow.domain false Rows.fnExactRunToRow.laid)
  (((OpenSpec.ofChange Rows.fnExactRunToSpec).at F).post enc prog f7 false true false false):=by
 obtain⟨places,hx⟩:=reads os enc;refine returnsInHanded_of_row (C:=checked) (s:=OpenSpec.ofChange Rows.fnExactRunToSpec) A5b started (by kernel_rfl) func7
  (witness_row_at (enc:=enc) (C:=checked) false (Atk os) #[Axw,Aa8,Aa8,.int .i64 0] rfl (by kernel_rfl) (by kernel_rfl) (by kernel_rfl)
    (OpenSpec.preRow_of_cond 8 hx (by kernel_rfl) (fun k hk=>by cases hk) (by kernel_rfl) (Atl os))) ?_
 intro W base args ds gs before hval hW _ _ _ hL hs _;exact Asu H enc W base args ds gs before hval hW hL hs
theorem A5f:Rows.FnExactRunToSaid:=
 OpenClaim.holds_of_cond 7 f7 rfl rfl rfl rfl rfl rfl rfl ⟨rfl,rfl,rfl,rfl,rfl⟩ rfl rfl rfl rfl rfl (by kernel_rfl) func7 A03
  (A5 (by kernel_rfl)) (by unfold Func.isWrapper;first|(rw[if_pos (by decide +kernel)];kernel_rfl)|(rw[if_neg (by decide +kernel)];exact⟨rfl,rfl⟩))
  (fun os started H enc _ F=>by rw[OpenClaim.pre_eq_preRow];exact A1w os started H enc F)
theorem plain(f:FuncId)(fn:Func)(hf:pinned.checked.prog.funcNamed "loop.example/g00093/laws.FnExactRunTo" = some f)(hfn:pinned.checked.prog.funcs[f]?=some fn) :
 true=pinned.checked.prog.looks []∧∀(j:Nat) t,fn.params[j]?=some t→pinned.checked.prog.wantsStandIn t=false:=by
 obtain rfl:f=7:=Option.some.inj ((show prog.funcNamed "loop.example/g00093/laws.FnExactRunTo" = some 7 by kernel_rfl).symm.trans hf) |>.symm;obtain rfl:fn=f7:=(Option.some.inj (func7.symm.trans hfn)).symm;refine⟨by kernel_rfl,fun j t ht=>?_⟩;have ht':(#[24,37,37,3]:Array Nat)[j]?=some t:=ht;have h:t=24∨t=37∨t=37∨t=3:=by simpa using Array.mem_of_getElem? ht'
 rcases h with rfl|rfl|rfl|rfl
 ·exact(show prog.wantsStandIn 24=false by kernel_rfl)
 ·exact(show prog.wantsStandIn 37=false by kernel_rfl)
 ·exact(show prog.wantsStandIn 37=false by kernel_rfl)
 ·exact(show prog.wantsStandIn 3=false by kernel_rfl)
end Go.Proofs.YtojhghmilenfkaaGreatDoor.runTo
