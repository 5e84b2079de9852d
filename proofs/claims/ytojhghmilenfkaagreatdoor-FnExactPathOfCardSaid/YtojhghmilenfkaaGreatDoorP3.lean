/- A part of the proof of the claim that the last text states: no condition of its own. -/
import Derived.Test.YtojhghmilenfkaaGreatDoorP2
import Derived.Laws.Externs
import Derived.Lib.ItoaNum
import Derived.Test.YtojhghmilenfkaaGreatDoorChecked
set_option linter.unusedVariables false
set_option linter.unusedSimpArgs false
namespace Go.V
open Go
section
variable {X:Cx}{B:Bx}{E:Env}{S S1:St}{w:World}{F:C3}{a:Act}{N:Nat}{R:AE→St→Prop}{ops:Array Oper}{bs:List Nat}{em i0:Nat}{ch:List PanicEntry}
def Ar0(bs:List Nat)(i0 j:Nat):Prop:=bitOf bs i0 j=false∧j≠i0
structure DT (X:Cx)(N:Nat)(ops:Array Oper)(bs:List Nat)(em i0:Nat)(ch:List PanicEntry)(S1:St)(eff:Nat→Bool)(x:Nat→AV)(FF:Nat→C3)(SS:Nat→St):Prop where
 step:∀j,j<ops.size→∀o,ops[j]?=some o→FF (j+1)=putF o.dst (x j) (FF j)
 dok:∀j,j<ops.size→Ar0 bs i0 j→∀o,ops[j]?=some o→D1 N o.dst=true
 eff0:∀j,j<ops.size→eff j=false→SS (j+1)=SS j
 eff1:∀j,j<ops.size→eff j=true→∀o,ops[j]?=some o→j<i0∧em.testBit j=true∧Ndo X N ops j o (FF j) (x j) (SS j) (SS (j+1))
 will:∀j,j<ops.size→Ar0 bs i0 j→eff j=false→∀o,ops[j]?=some o→∀p,p≤i0→(∀e,j≤e→e<p→eff e=true→bitOf bs j e=false)→Ndo X N ops j o (FF j) (x j) (SS p) (SS p)
 lt:i0<ops.size
 bit:em.testBit i0=true
 thr:∀o,ops[i0]?=some o→Thr X N ops i0 o (FF i0) (SS i0) ch S1
theorem Aso(dk:DrawOk ops bs em){eff:Nat→Bool}{x:Nat→AV}{FF:Nat→C3}{SS:Nat→St}
 (D:DT X N ops bs em i0 ch S1 eff x FF SS)(hF0:FF 0=F)(k:List Item):∀(fuel t:Nat)(listed:Array Bool)(a:Act)(w:World)(E:Env)(p:Nat),
 listed.size=ops.size→Closed ops listed→p≤i0→(∀e,e<ops.size→eff e=true→(listed.getD e false=true↔e<p))→(∀j,listed.getD j false=true→Ar0 bs i0 j)→Abp listed ops.size≤fuel →
 Inv X E (SS p) w→FR E w (FD ops x (listed.getD · false) F ops.size) a N→∀(b:Frame) (cs:List Frame),
  ∃E' w' fr,Inv X E' S1 w'∧Evol E w E' w' E.boxes.length E.toks.length∧fr.fn=b.fn∧fr.mode=.panicking ch∧fr.defers=E.df ∧
   Steps X.P (lone (b.at a (.inRegion ops (Region.linearise.go .any ops fuel t listed [])::k)) cs w) (lone fr cs w'):=by
 have hFF:∀n,n≤ops.size→FF n=FD ops x (fun _=>true) F n:=by
  intro n
  induction n with
  |zero=>intro _;exact hF0
  |succ n ih=>
   intro hn;have ho:ops[n]?=some ops[n]:=by simp[show n<ops.size by omega]
   rw[D.step n (by omega) _ ho,ih (by omega)];simp[FD,ho]
 have hSS:∀p q,p≤q→q≤ops.size→(∀e,p≤e→e<q→eff e=false)→SS q=SS p:=by
  intro p q hpq
  induction q with
  |zero=>intro _ _;rw[show p=0 by omega]
  |succ q ih=>
   intro hq he;by_cases h:p=q+1
   ·rw[h]
   ·rw[D.eff0 q (by omega) (he q (by omega) (by omega))];exact ih (by omega) (by omega) (fun e h1 h2=>he e h1 (by omega))
 have hlt:=D.lt;intro fuel
 induction fuel with
 |zero=>
  intro t listed a w E p hs hc hp hpe hlive hcnt hI hF b cs;exfalso;cases hl:listed.getD i0 false with
  |true=>exact(hlive _ hl).2 rfl
  |false=>
   have:i0∈(List.range ops.size).filter fun j=>!listed.getD j false:=zzq58.2 ⟨zzq55.2 hlt,by simp only[hl];rfl⟩;unfold Abp at hcnt;have:=List.length_pos_of_mem this;omega
 |succ fuel ih=>
  intro t listed a w E p hs hc hp hpe hlive hcnt hI hF b cs;simp only[Region.linearise.go];change ∃E' w' fr,_∧_∧_∧_∧_∧Steps X.P (lone (b.at a (.inRegion ops (match(Region.ready .any ops listed)[t%(Region.ready .any ops listed).length]? with
   |some i=>Region.linearise.go .any ops fuel (t/(Region.ready .any ops listed).length) (listed.setIfInBounds i true) [i]
   |none=>[].reverse)::k)) cs w) (lone fr cs w')
  cases hi:(Region.ready .any ops listed)[t%(Region.ready .any ops listed).length]? with
  |none=>
   exfalso;have hnil:Region.ready .any ops listed=[]:=by
    cases hr:Region.ready .any ops listed with
    |nil=>rfl
    |cons y ys=>
     rw[hr]at hi;have hlt:t%(y::ys).length<(y::ys).length:=Ws _ (by simp);simp at hi;simp at hlt;omega
   exact(hlive _ (W6 dk.bits hs hnil i0 hlt)).2 rfl
  |some i=>
   obtain⟨hin,hil,o,ho,hafter⟩:=Aaf (Bh hi);have hilf:listed.getD i false=false:=by
    have:i<listed.size:=by omega
    simp[Array.getD,this]at hil⊢;exact hil
   simp only[];rw[linearise_go_acc,List.reverse_singleton,Akh];have rbit:∀e,e<ops.size→bitOf bs e i=true→listed.getD e false=true:=fun e he hbit=>by
    have hk:=zzq50.1 dk.bits i (zzq55.2 hin);rw[ho]at hk;simp only[Da,zzq56]at hk;unfold bitOf at hbit;rw[hk.1]at hbit;rcases Qd bs e _ 0 hbit with h|⟨e',he',hbe,h⟩
    ·simp at h
    ·have hl':=hafter e' he' hbe;rcases h with rfl|h
     ·exact hl'
     ·have:e'.on<ops.size:=by
       have h2:=zzq50.1 hk.2 e' he';simp only[hbe,Bool.not_true,U6]at h2;have:e'.on<i:=by simpa[Fs]using h2
       omega
      exact hc.bit dk.bits e'.on e this hl' h
   have notbit:∀e,e<ops.size→listed.getD e false=true→bitOf bs i e=false:=fun e he hl=>by
    cases hb:bitOf bs i e with
    |false=>rfl
    |true=>have:=hc.bit dk.bits e i he hl hb;rw[hilf]at this;cases this
   have hagree:∀t,t∈o.looksAt ops→lk (FD ops x (listed.getD · false) F ops.size) t=lk (FF i) t:=fun t ht=>by
    rw[hFF i (by omega)];by_cases hw:∃(j:Nat) (oj:Oper),ops[j]?=some oj∧oj.dst=some t
    ·obtain⟨j,oj,hj,hd⟩:=hw;have hjn:j<ops.size:=by
      rcases Gu j ops.size with h|h
      ·exact h
      ·rw[Abs h]at hj;cases hj
     have hu:∀(j':Nat) (o':Oper),j≠j'→ops[j']?=some o'→o'.dst≠some t:=fun j' o' hne ho'=>dk.dsts j j' oj o' hj ho' hne t hd;rcases dk.looks i j o oj ho hj t hd ht with⟨h1,h2⟩|⟨h1,h2⟩
     ·rw[Ms (listed:=(listed.getD · false)) hj hd (rbit j hjn h2) hu ops.size hjn,Ms (listed:=fun _=>true) hj hd rfl hu i h1]
     ·have hjl:listed.getD j false=false:=by
       cases hl:listed.getD j false with
       |false=>rfl
       |true=>have:=notbit j hjn hl;rw[h2]at this;cases this
      rw[J0 ops.size fun j' _ hl' o' ho' hc'=>by
       by_cases hjj:j=j'
       ·subst hjj;rw[hjl]at hl';cases hl'
       ·exact hu j' o' hjj ho' hc',
       J0 i fun j' hj' _ o' ho' hc'=>by
        by_cases hjj:j=j'
        ·omega
        ·exact hu j' o' hjj ho' hc']
    ·rw[J0 ops.size fun j' _ _ o' ho' hc'=>hw ⟨j',o',ho',hc'⟩,J0 i fun j' _ _ o' ho' hc'=>hw ⟨j',o',ho',hc'⟩]
   have hcl':Closed ops (listed.setIfInBounds i true):=fun j oj hj hoj e he hb=>by
    rw[I3 (by omega)]at hj⊢;by_cases hie:i=e.on
    ·rw[if_pos hie]
    ·rw[if_neg hie];by_cases hij:i=j
     ·subst hij;rw[ho]at hoj;cases hoj;exact hafter e he hb
     ·rw[if_neg hij]at hj;exact hc j oj hj hoj e he hb
   have hlk':∀t,lk (FD ops x ((listed.setIfInBounds i true).getD · false) F ops.size) t=lk (putF o.dst (x i) (FD ops x (listed.getD · false) F ops.size)) t:=fun t=>by
    rw[Hr];have hset:∀j,(listed.setIfInBounds i true).getD j false=if i=j then true else listed.getD j false:=fun j=>I3 (by omega);by_cases hd:o.dst=some t
    ·rw[if_pos hd];exact Ms ho hd (by rw[hset];simp) (fun j' o' hne ho'=>dk.dsts i j' o o' ho ho' hne t hd) ops.size hin
    ·rw[if_neg hd];have:∀n,lk (FD ops x ((listed.setIfInBounds i true).getD · false) F n) t=lk (FD ops x (listed.getD · false) F n) t:=by
      intro n
      induction n with
      |zero=>rfl
      |succ n ihn=>
       have hn':=hset n;simp only[FD];by_cases hn:i=n
       ·subst hn;rw[hn',if_pos rfl,hilf,ho];rw[Hr,if_neg hd,ihn]
       ·rw[hn',if_neg hn];split
        ·split
         ·rw[Hr,Hr,ihn]
         ·exact ihn
        ·exact ihn
     exact this _
   have i0f:listed.getD i0 false=false:=by
    cases hl:listed.getD i0 false with
    |true=>exact absurd rfl (hlive _ hl).2
    |false=>rfl
   by_cases hii:i=i0
   ·subst hii;have before:∀e,e<i→eff e=true→listed.getD e false=true:=fun e hei hee=>by
     have hoe:ops[e]?=some ops[e]:=by simp[show e<ops.size by omega]
     exact rbit e (by omega) (dk.effs e i _ o hoe ho hei (D.eff1 e (by omega) hee _ hoe).2.1 D.bit)
    have hSp:SS i=SS p:=hSS p i hp (by omega) (fun e h1 h2=>by
     cases hee:eff e with
     |false=>rfl
     |true=>have:=(hpe e (by omega) hee).1 (before e h2 hee);omega)
    obtain⟨E',w',fr,h1,h2,h3,h4,h5,_,_,h6⟩:=D.thr o ho _ E w a hagree (by rw[hSp];exact hI) hF b k cs (Region.linearise.go .any ops fuel (t/(Region.ready .any ops listed).length) (listed.setIfInBounds i true) []);exact⟨E',w',fr,h1,h2,h3,h4,h5.trans hF.nod,h6⟩
   have hLi:Ar0 bs i0 i:=by
    refine⟨?_,hii⟩;cases hb:bitOf bs i0 i with
    |false=>rfl
    |true=>have:=rbit i0 hlt hb;rw[i0f]at this;cases this
   have hlive':∀j,(listed.setIfInBounds i true).getD j false=true→Ar0 bs i0 j:=fun j hj=>by
    rw[I3 (by omega)]at hj;by_cases hij:i=j
    ·subst hij;exact hLi
    ·rw[if_neg hij]at hj;exact hlive j hj
   have next:∀(p':Nat),p'≤i0→(∀e,e<ops.size→eff e=true→((listed.setIfInBounds i true).getD e false=true↔e<p'))→Ndo X N ops i o (FF i) (x i) (SS p) (SS p') →
    ∃E' w' fr,Inv X E' S1 w'∧Evol E w E' w' E.boxes.length E.toks.length∧fr.fn=b.fn∧fr.mode=.panicking ch∧fr.defers=E.df ∧
     Steps X.P (lone (b.at a (.inRegion ops (i::Region.linearise.go .any ops fuel (t/(Region.ready .any ops listed).length) (listed.setIfInBounds i true) [])::k)) cs w) (lone fr cs w'):=fun p' hp' hpe' hn=>by
    obtain⟨v,w1,⟨E1,h1,h2,h3⟩,h4⟩:=hn _ E w a hagree hI hF b k cs (Region.linearise.go .any ops fuel (t/(Region.ready .any ops listed).length) (listed.setIfInBounds i true) []);rw[ho]at h4;have hd:=D.dok i hin hLi o ho;have hF1:FR E1 w1 (FD ops x ((listed.setIfInBounds i true).getD · false) F ops.size) (a.put o.dst v) N:=by
     have:=(hF.step h2).putF hd h3;exact⟨this.size,this.nod,fun q y hq=>this.rel q y (by rw[←hlk' q];exact hq)⟩
    have hcu:=Acv hin hs hilf;obtain⟨E',w',fr,k1,k2,k3,k4,k5,k6⟩:=ih (t/(Region.ready .any ops listed).length) (listed.setIfInBounds i true) _ w1 E1 p' (by simp[hs]) hcl' hp' hpe' hlive' (by omega) h1 hF1 b cs;have hlen:=h2.len;exact⟨E',w',fr,k1,h2.trans (k2.weaken hlen.1 hlen.2),k3,k4,k5.trans h2.df,h4.trans k6⟩
   cases he:eff i with
   |false=>
    refine next p hp (fun e hen hee=>?_) ?_
    ·rw[I3 (by omega)];by_cases hie:i=e
     ·subst hie;rw[he]at hee;cases hee
     ·rw[if_neg hie];exact hpe e hen hee
    ·exact D.will i hin hLi he o ho p hp (fun e h1 h2 h3=>notbit e (by omega) ((hpe e (by omega) h3).2 h2))
   |true=>
    obtain⟨hii0,es,hn⟩:=D.eff1 i hin he o ho;have hpi:p≤i:=by
     rcases Gu i p with h|h
     ·have:=(hpe i hin he).2 h;rw[hilf]at this;cases this
     ·exact h
    have before:∀e,e<i→eff e=true→listed.getD e false=true:=fun e hei hee=>by
     have hoe:ops[e]?=some ops[e]:=by simp[show e<ops.size by omega]
     exact rbit e (by omega) (dk.effs e i _ o hoe ho hei (D.eff1 e (by omega) hee _ hoe).2.1 es)
    have hSp:SS i=SS p:=hSS p i hpi (by omega) (fun e h1 h2=>by
     cases hee:eff e with
     |false=>rfl
     |true=>have:=(hpe e (by omega) hee).1 (before e h2 hee);omega)
    refine next (i+1) (by omega) (fun e hen hee=>?_) (by rw[←hSp];exact hn)
    rw[I3 (by omega)];by_cases hie:i=e
    ·subst hie;simp
    ·rw[if_neg hie];constructor
     ·intro hl;rcases Gu e (i+1)with h|h
      ·exact h
      ·have hoe:ops[e]?=some ops[e]:=by simp[hen]
       have:=dk.effs i e o _ ho hoe (by omega) es (D.eff1 e hen hee _ hoe).2.1;have h2:=notbit e hen hl;rw[this]at h2;cases h2
     ·intro hlt;exact before e (by omega) hee
def RestT(X:Cx)(N:Nat)(ops:Array Oper)(bs:List Nat)(i0:Nat):List Oper→Nat→C3→Prop
 |[],_,_=>True
 |o::os,j,F=>(bitOf bs i0 j=true∧RestT X N ops bs i0 os (j+1) (putF o.dst .junk F)) ∨
  (∃x,D1 N o.dst=true∧(∀S',Ndo X N ops j o F x S' S')∧RestT X N ops bs i0 os (j+1) (putF o.dst x F))
theorem Acp:∀(os:List Oper)(j:Nat)(F:C3),RestT X N ops bs i0 os j F→(∀k,k<os.length→ops[j+k]?=os[k]?) →
 ∃(x:Nat→AV) (FF:Nat→C3),FF j=F∧(∀q,j≤q→q<j+os.length→∀o,ops[q]?=some o→FF (q+1)=putF o.dst (x q) (FF q)) ∧
  (∀q,j≤q→q<j+os.length→bitOf bs i0 q=false→∀o,ops[q]?=some o→D1 N o.dst=true∧∀S',Ndo X N ops q o (FF q) (x q) S' S')
 |[],j,F,_,_=>⟨fun _=>.junk,fun _=>F,rfl,fun q h1 h2=>by simp at h2;omega,fun q h1 h2=>by simp at h2;omega⟩
 |o::os,j,F,h,hops=>by
  have ho:ops[j]?=some o:=by have:=hops 0 (by simp);simpa using this
  have hops':∀k,k<os.length→ops[j+1+k]?=os[k]?:=fun k hk=>by
   have:=hops (k+1) (by simp;omega);rw[show j+1+k=j+(k+1) by omega];simpa using this
  have key:∀x,(bitOf bs i0 j=false→D1 N o.dst=true∧∀S',Ndo X N ops j o F x S' S')→RestT X N ops bs i0 os (j+1) (putF o.dst x F)→∃(x:Nat→AV) (FF:Nat→C3),FF j=F∧(∀q,j≤q→q<j+(o::os).length→∀o,ops[q]?=some o→FF (q+1)=putF o.dst (x q) (FF q)) ∧
   (∀q,j≤q→q<j+(o::os).length→bitOf bs i0 q=false→∀o,ops[q]?=some o→D1 N o.dst=true∧∀S',Ndo X N ops q o (FF q) (x q) S' S'):=fun x hx hr=>by
   obtain⟨xs,FF,h1,h2,h3⟩:=Acp os (j+1) _ hr hops';refine⟨fun q=>if q=j then x else xs q,fun q=>if q=j then F else FF q,by simp,fun q q1 q2 o' ho'=>?_,fun q q1 q2 hb o' ho'=>?_⟩
   ·by_cases hq:q=j
    ·subst hq;rw[ho]at ho';cases ho';simp[h1]
    ·have h4:¬(q+1=j):=by omega
     simp only[hq,h4,if_false];exact h2 q (by omega) (by simp at q2;omega) o' ho'
   ·by_cases hq:q=j
    ·subst hq;rw[ho]at ho';cases ho';simp only[if_true];exact hx hb
    ·simp only[hq,if_false];exact h3 q (by omega) (by simp at q2;omega) hb o' ho'
  simp only[RestT]at h;rcases h with⟨hb,hr⟩|⟨x,hd,hn,hr⟩
  ·exact key .junk (fun h=>by rw[hb]at h;cases h) hr
  ·exact key x (fun _=>⟨hd,hn⟩) hr
def AtT(X:Cx)(N:Nat)(ops:Array Oper)(bs:List Nat)(i0:Nat)(ch:List PanicEntry)(S1:St)(F:C3)(S:St):Prop:=
 ∃o,ops[i0]?=some o∧Thr X N ops i0 o F S ch S1∧RestT X N ops bs i0 (ops.toList.drop (i0+1)) (i0+1) (putF o.dst .junk F)
theorem DT.of(hem:em.testBit i0=true)(h:Drv X N ops bs em (ops.toList.take i0) 0 F S [S] [] (AtT X N ops bs i0 ch S1)) :
 ∃eff x FF SS,FF 0=F∧SS 0=S∧DT X N ops bs em i0 ch S1 eff x FF SS:=by
 obtain⟨eff,x,FF,SS,h1,h2,⟨o0,ho0,ht,hr⟩,D⟩:=Tr _ 0 F S [S] [] _ h (fun j hj=>by
  simp only[Ti,Array.length_toList]at hj;simp[Ma,show j<i0 by omega]) (by simp) (fun q hq=>by cases hq)
 have hlt:i0<ops.size:=by
  rcases Gu i0 ops.size with h|h
  ·exact h
  ·rw[Abs h]at ho0;cases ho0
 have hlen:0+(ops.toList.take i0).length=i0:=by simp;omega
 rw[hlen]at ht hr D;obtain⟨x2,FF2,k1,k2,k3⟩:=Acp _ _ _ hr (fun k hk=>by simp[Ny]);have hl2:i0+1+(ops.toList.drop (i0+1)).length=ops.size:=by simp;omega
 rw[hl2]at k2 k3;refine⟨fun j=>decide (j<i0)&&eff j,fun j=>if j<i0 then x j else if j=i0 then .junk else x2 j,fun j=>if j≤i0 then FF j else FF2 j,fun j=>if j≤i0 then SS j else SS i0,by simp[h1],by simp[h2],?_⟩;refine{ step:=fun j hj o ho=>?_,dok:=fun j hj hL o ho=>?_,eff0:=fun j hj he=>?_,eff1:=fun j hj he o ho=>?_,will:=fun j hj hL he o ho p hp hpe=>?_,lt:=hlt,bit:=hem,thr:=fun o ho=>?_ }
 ·rcases Nat.lt_trichotomy j i0 with h|h|h
  ·simp only[show j+1≤i0 by omega,show j≤i0 by omega,h,if_true];exact(D.step j (Cc _) h o ho).1
  ·subst h;rw[ho0]at ho;cases ho;simp only[show ¬(j+1≤j) by omega,Bo,Nat.lt_irrefl,if_true,if_false];exact k1
  ·simp only[show ¬(j+1≤i0) by omega,show ¬(j≤i0) by omega,show ¬(j<i0) by omega,show ¬(j=i0) by omega,if_false];exact k2 j (by omega) hj o ho
 ·rcases Nat.lt_trichotomy j i0 with h|h|h
  ·exact(D.step j (Cc _) h o ho).2
  ·exact absurd h hL.2
  ·exact(k3 j (by omega) hj hL.1 o ho).1
 ·rcases Gu j i0 with h|h
  ·simp only[h,decide_true,Re]at he;simp only[show j+1≤i0 by omega,show j≤i0 by omega,if_true];exact D.eff0 j (Cc _) h he
  ·rcases Gu i0 j with h'|h'
   ·simp only[show ¬(j+1≤i0) by omega,show ¬(j≤i0) by omega,if_false]
   ·obtain rfl:j=i0:=by omega
    simp only[show ¬(j+1≤j) by omega,Bo,if_true,if_false]
 ·simp only[Da,J9]at he;simp only[show j+1≤i0 by omega,show j≤i0 by omega,he.1,if_true];exact⟨trivial,D.eff1 j (Cc _) he.1 he.2 o ho⟩
 ·simp only[hp,if_true];rcases Nat.lt_trichotomy j i0 with h|h|h
  ·simp only[h,decide_true,Re]at he;simp only[show j≤i0 by omega,h,if_true];exact D.will j (Cc _) h he o ho p (Cc _) hp (fun e h1 h2 h3=>hpe e h1 h2 (by simp[h3,show e<i0 by omega]))
  ·exact absurd h hL.2
  ·simp only[show ¬(j≤i0) by omega,show ¬(j<i0) by omega,show ¬(j=i0) by omega,if_false];exact(k3 j (by omega) hj hL.1 o ho).2 _
 ·rw[ho0]at ho;cases ho;simp only[Bo,if_true];exact ht
theorem Arf{id:Nat}{k:List Item}(i0 em:Nat)(hf:X.P.funcs[B.f]?=some B.fn)(hst:Rz ops (Ip ops.toList []) em=true)(hem:em.testBit i0=true)
 (h:Drv X B.fn.ntmps ops (Ip ops.toList []) em (ops.toList.take i0) 0 F S [S] [] (AtT X B.fn.ntmps ops (Ip ops.toList []) i0 ch S1))(m:Nat)(hm:B.m≤m)
 (hbox:∀rows,rows∈S1.boxes.take B.n→He B.n m rows)(hR:R (.panic ch) (S1.drop B.n m)):AK X B (.code (.region id ops true)::k) F S R:=by
 obtain⟨eff,x,FF,SS,h1,h2,D⟩:=DT.of hem h;refine Aez hf m hm hbox hR fun E w a b cs hI hF hb=>?_;have hI1:Inv X E (SS 0) { w with drawn:=w.drawn+1 }:=by rw[h2];exact hI.keep (Gx E w _ _) (fun _ _=>rfl)
 have hz:∀j,(Array.replicate ops.size false).getD j false=false:=fun j=>by simp[Array.getD]
 have hF1:FR E { w with drawn:=w.drawn+1 } (FD ops x ((Array.replicate ops.size false).getD · false) F ops.size) a B.fn.ntmps:=by
  have hF':=hF.step (Gx E w _ _);have:FD ops x ((Array.replicate ops.size false).getD · false) F ops.size=F:=by
   have:∀n,FD ops x ((Array.replicate ops.size false).getD · false) F n=F:=by
    intro n
    induction n with
    |zero=>rfl
    |succ n ih=>
     simp only[FD];rw[hz n];exact ih
   exact this _
  rw[this];exact hF'
 obtain⟨E',w',fr,g1,g2,g3,g4,g5,g6⟩:=Aso (Aa3 hst) D h1 k ops.size (w.tape w.drawn (.order b.fn id)) (Array.replicate ops.size false) a { w with drawn:=w.drawn+1 } E 0 (by simp)
  (fun j o hj=>by rw[hz]at hj;cases hj) (Cc _) (fun e he hee=>by rw[hz];simp) (fun j hj=>by rw[hz]at hj;cases hj) (by
    unfold Abp;exact Nt (Ze _ _) (by simp)) hI1 hF1 b cs
 refine⟨E',w',fr,g1,(Gx E w _ _).trans g2,g3,g4,g5.trans hF.nod.symm,.head step_region_draw ?_⟩;simp only[Region.schedule,X.mixed,Bool.true_or,if_true];exact g6
theorem P8{KK:C3→St→Prop}:∀(n:Nat)(os:List Oper)(i:Nat)(F:C3)(pend:List Jx),(∀k,k<os.length→ops[i+k]?=os[k]?) →
 Drv X N ops bs em (Lk X N ops S n os i F pend).1 (Lk X N ops S n os i F pend).2.1 (Lk X N ops S n os i F pend).2.2.1 S [S] (Lk X N ops S n os i F pend).2.2.2 KK→Drv X N ops bs em os i F S [S] pend KK
 |0,os,i,F,p,_,h=>h
 |n+1,[],i,F,p,_,h=>h
 |n+1,o::os,i,F,p,hos,h=>by
  have ho:ops[i]?=some o:=by have:=hos 0 (by simp);simpa using this
  have hos':∀k,k<os.length→ops[i+1+k]?=os[k]?:=fun k hk=>by
   have:=hos (k+1) (by simp;omega);rw[show i+1+k=i+(k+1) by omega];simpa using this
  unfold Lk at h;split at h
  ·rename_i hw;split at h
   ·rename_i x hx;split at h
    ·rename_i F' hF;obtain⟨h1,rfl⟩:=Gg hF;split at h
     ·exact Aem ho hw hx h1 (P8 n os (i+1) _ _ hos' h)
     ·rename_i hl;exact Ako ho hw (fun S'=>by rw[R2 hl];exact hx) h1 (P8 n os (i+1) _ _ hos' h)
    ·exact h
   ·split at h
    ·rename_i x hx;split at h
     ·rename_i F' hF;obtain⟨h1,rfl⟩:=Gg hF;exact Agl ho hw (R1 hx) h1 (P8 n os (i+1) _ _ hos' h)
     ·exact h
    ·exact h
  ·rename_i hw;split at h
   ·rename_i F' hF;obtain⟨h1,rfl⟩:=Gg hF;exact Kf (fun S'=>X4 ho hw) h1 (P8 n os (i+1) _ _ hos' h)
   ·exact h
  ·exact h
theorem Axx{os:List Oper}{i n:Nat}(h:(ops.toList.drop i).take n=os):∀k,k<os.length→ops[i+k]?=os[k]?:=fun k hk=>by
 subst h;simp only[Ti]at hk;simp[Ma,Ny,show k<n by omega]
theorem Ln{id i':Nat}{k:List Item}{f:FuncId}{fn:Func}{n m:Nat}{bx:List (List (List AV))}{tk:List Nat}{os':List Oper}{F':C3}{pend':List Jx}(i0 em q:Nat)(hf:X.P.funcs[f]?=some fn)
 (hk:Drv X fn.ntmps ops (Ip ops.toList []) em os' i' F' S [S] pend' (AtT X fn.ntmps ops (Ip ops.toList []) i0 ch S1))(hS:S1.drop n tk.length=⟨bx,tk⟩)
 (hst:Rz ops (Ip ops.toList []) em=true:=by kernel_rfl)(hem:em.testBit i0=true:=by rfl)(h:Lk X fn.ntmps ops S q (ops.toList.take i0) 0 F []=(os',i',F',pend'):=by rfl)(hm:Nat.ble m tk.length=true:=by rfl) [hbox:OKB n tk.length bx] :
 AK X ⟨f,fn,n,m⟩ (.code (.region id ops true)::k) F S fun e S'=>e=.panic ch∧S'=⟨bx,tk⟩:=by
 refine Arf (B:=⟨f,fn,n,m⟩) i0 em hf hst hem (P8 q _ 0 F [] (Axx (n:=i0) (by simp)) (by rw[h];exact hk)) tk.length (I7 hm) ?_ ⟨rfl,hS⟩;have:S1.boxes.take n=bx:=by have:=congrArg St.boxes hS;exact this
 show ∀rows,rows∈S1.boxes.take n→He n tk.length rows;rw[this];exact hbox.ok
def Adu(X:Cx)(N:Nat)(ops:Array Oper)(bs:List Nat)(i0:Nat):List Oper→Nat→C3→Bool
 |[],_,_=>true
 |o::os,j,F=>match bitOf bs i0 j with
  |true=>Adu X N ops bs i0 os (j+1) (putF o.dst .junk F)
  |false=>match A6 ops F o with
   |some true=>match Ahi o.op with
    |true=>false
    |false=>match Ec X F ⟨[],[]⟩ o.op with
     |some x=>match D1 N o.dst with
      |true=>Adu X N ops bs i0 os (j+1) (putF o.dst x F)
      |false=>false
     |none=>match Aix X F ⟨[],[]⟩ o.op with
      |some x=>match D1 N o.dst with
       |true=>Adu X N ops bs i0 os (j+1) (putF o.dst x F)
       |false=>false
      |none=>false
   |some false=>match D1 N o.dst with
    |true=>Adu X N ops bs i0 os (j+1) (putF o.dst (.val (.tuple #[])) F)
    |false=>false
   |none=>false
theorem Ng:∀(os:List Oper)(j:Nat)(F:C3),ops.toList.drop j=os→Adu X N ops bs i0 os j F=true→RestT X N ops bs i0 os j F
 |[],_,_,_,_=>trivial
 |o::os,j,F,hos,h=>by
  have ho:ops[j]?=some o:=by
   have:(ops.toList.drop j)[0]?=some o:=by rw[hos];rfl
   rw[Ny]at this;simpa using this
  have hos':ops.toList.drop (j+1)=os:=by
   have:(ops.toList.drop j).drop 1=os:=by rw[hos];rfl
   rw[Ad7]at this;exact this
  unfold Adu at h;split at h
  ·rename_i hb;exact .inl ⟨hb,Ng os _ _ hos' h⟩
  ·split at h
   ·rename_i hw;split at h
    ·cases h
    ·rename_i hl;split at h
     ·rename_i x hx;split at h
      ·rename_i hd;exact .inr ⟨x,hd,fun S'=>Cn ho hw (by rw[R2 hl];exact hx),Ng os _ _ hos' h⟩
      ·cases h
     ·split at h
      ·rename_i x hx;split at h
       ·rename_i hd;exact .inr ⟨x,hd,fun⟨bx,tk⟩=>Ls ho hw (R1 hx bx tk),Ng os _ _ hos' h⟩
       ·cases h
      ·cases h
   ·rename_i hw;split at h
    ·rename_i hd;exact .inr ⟨_,hd,fun S'=>X4 ho hw,Ng os _ _ hos' h⟩
    ·cases h
   ·cases h
theorem Lq{i:Nat}{o:Oper}{Hs:List St}{pend:List Jx}(h:Thr X N ops i0 o F S ch S1)(ho:ops[i0]?=some o:=by rfl)(hr:Adu X N ops bs i0 (ops.toList.drop (i0+1)) (i0+1) (putF o.dst .junk F)=true:=by rfl) :
 Drv X N ops bs em [] i F S Hs pend (AtT X N ops bs i0 ch S1):=
 ⟨o,ho,h,Ng _ _ _ rfl hr⟩
end
section
variable {X:Cx}{B:Bx}{S S':St}{F:C3}{R:AE→St→Prop}{ops:Array Oper}{i:Nat}{l:List Nat}{k:List Item}{o:Oper}{c:Call}{fo p q:Operand}{K:List Item}{F':C3}
def atR(id:Nat):List Item→Bool
 |.code (.region j _ _)::_=>Nat.beq j id
 |_=>false
def evT(X:Cx)(N:Nat)(id:Nat):Nat→List Item→C3→St→List Item×C3×St
 |0,K,F,S=>(K,F,S)
 |n+1,K,F,S=>match atR id K with
  |true=>(K,F,S)
  |false=>match ev X N 1 K F S with
   |(K',F',S')=>evT X N id n K' F' S'
theorem Ks{K':List Item}{F':C3}{S':St}(id:Nat):∀(n:Nat){K:List Item}{F:C3}{S:St},evT X B.fn.ntmps id n K F S=(K',F',S')→AK X B K' F' S' R→AK X B K F S R
 |0,K,F,S,h,hk=>by
  simp only[evT]at h;cases h;exact hk
 |n+1,K,F,S,h,hk=>by
  simp only[evT]at h;split at h
  ·cases h;exact hk
  ·generalize he:Go.V.ev X B.fn.ntmps 1 K F S=t at h;obtain⟨K1,F1,S1⟩:=t;exact Bj 1 he (Ks id n h hk)
theorem Akm{f:FuncId}{caps xs zs ys:List AV}{r y:AV}{bx1 bx2 bxc bx3:List (List (List AV))}{tkc tk1:List Nat}{S2:St}
 (n:Nat)(σ τ:List Nat)(hc:Hands X f ys ⟨bxc,tkc⟩ y ⟨bx1,tk1⟩)(hk:AK X B K F' S2 R)(ho:ops[i]?=some o:=by rfl)(hw:A6 ops F o=some true:=by rfl)(hop:o.op=.call c:=by rfl)(hcal:c.callee=.value fo:=by rfl)
 (hfo:Dt X F fo=some (.fn f caps):=by rfl)(hx:Hk X F c.args.toList=some xs:=by rfl)(hzs:Kb xs caps=some zs:=by rfl)(hσ:Kc σ=true:=by rfl)(hτ:Kc τ=true:=by rfl)
 (hσl:(σ.all fun i=>Nat.blt i S.boxes.length)=true:=by rfl)(hτl:(τ.all fun t=>Nat.blt t S.toks.length)=true:=by rfl)(hsb:Aeg σ S.boxes=some bx2:=by rfl) [hb:RinB σ τ bx2 bxc]
 (ht:τ.map (fun t=>S.toks.getD t 0)=tkc:=by rfl) [ha:RinL σ τ zs ys](hb1:bx1.length=σ.length:=by rfl)(ht1:Nat.ble τ.length tk1.length=true:=by rfl){τ':List Nat}
 (hτ':H0 τ S.toks.length (tk1.length-τ.length)=τ':=by rfl) [hR:RoutB σ τ' bx3 bx1] [hr:RoutC σ τ' r y](hS':St.mk (upd S.boxes σ bx3) (upd S.toks τ tk1++tk1.drop τ.length)=S':=by rfl)
 (hd:D1 B.fn.ntmps o.dst=true:=by rfl)(he:Go.V.ev X B.fn.ntmps n (.inRegion ops l::k) (putF o.dst r F) S'=(K,F',S2):=by rfl):AK X B (.inRegion ops (i::l)::k) F S R:=
 G9 (Vd σ τ hc ho hw hop hcal hfo hx hzs hσ hτ hσl hτl hsb ht hb1 ht1 hτ' hS') ho hd (Bj n he hk)
theorem Arj{f:FuncId}{caps xs zs ys:List AV}{r:AV}{S2:St}(n:Nat)(hc:Pure X f ys r)(hk:AK X B K F' S2 R)(ho:ops[i]?=some o:=by rfl)(hw:A6 ops F o=some true:=by rfl)
 (hop:o.op=.call c:=by rfl)(hcal:c.callee=.value fo:=by rfl)(hfo:Dt X F fo=some (.fn f caps):=by rfl)(hx:Hk X F c.args.toList=some xs:=by rfl)(hzs:Kb xs caps=some zs:=by rfl)
 (hd:D1 B.fn.ntmps o.dst=true:=by rfl) [hs:RinL [] [] zs ys] [hok:OK 0 0 r](he:evT X B.fn.ntmps n 100 (.inRegion ops l::k) (putF o.dst r F) S=(K,F',S2):=by rfl):AK X B (.inRegion ops (i::l)::k) F S R:=
 G9 (Aco hc ho hw hop hcal hfo hx hzs hok.ok) ho hd (Ks n 100 he hk)
theorem Agi{f:FuncId}{caps xs zs ys:List AV}{r y:AV}{bx1 bx2 bxc bx3:List (List (List AV))}{tkc tk1:List Nat}{S2:St}
 (n:Nat)(σ τ:List Nat)(hc:Hands X f ys ⟨bxc,tkc⟩ y ⟨bx1,tk1⟩)(hk:AK X B K F' S2 R)(ho:ops[i]?=some o:=by rfl)(hw:A6 ops F o=some true:=by rfl)(hop:o.op=.call c:=by rfl)(hcal:c.callee=.value fo:=by rfl)
 (hfo:Dt X F fo=some (.fn f caps):=by rfl)(hx:Hk X F c.args.toList=some xs:=by rfl)(hzs:Kb xs caps=some zs:=by rfl)(hσ:Kc σ=true:=by rfl)(hτ:Kc τ=true:=by rfl)
 (hσl:(σ.all fun i=>Nat.blt i S.boxes.length)=true:=by rfl)(hτl:(τ.all fun t=>Nat.blt t S.toks.length)=true:=by rfl)(hsb:Aeg σ S.boxes=some bx2:=by rfl) [hb:RinB σ τ bx2 bxc]
 (ht:τ.map (fun t=>S.toks.getD t 0)=tkc:=by rfl) [ha:RinL σ τ zs ys](hb1:bx1.length=σ.length:=by rfl)(ht1:Nat.ble τ.length tk1.length=true:=by rfl){τ':List Nat}
 (hτ':H0 τ S.toks.length (tk1.length-τ.length)=τ':=by rfl) [hR:RoutB σ τ' bx3 bx1] [hr:RoutC σ τ' r y](hS':St.mk (upd S.boxes σ bx3) (upd S.toks τ tk1++tk1.drop τ.length)=S':=by rfl)
 (hd:D1 B.fn.ntmps o.dst=true:=by rfl)(he:evT X B.fn.ntmps n 100 (.inRegion ops l::k) (putF o.dst r F) S'=(K,F',S2):=by rfl):AK X B (.inRegion ops (i::l)::k) F S R:=
 G9 (Vd σ τ hc ho hw hop hcal hfo hx hzs hσ hτ hσl hτl hsb ht hb1 ht1 hτ' hS') ho hd (Ks n 100 he hk)
theorem Eu{t:Nat}{x y:Code}{e:Bool}{K1 K2:List Item}{F1 F2:C3}{S1 S2:St}(n1 n2:Nat)(h1:e=true→AK X B K1 F1 S1 R)(h2:e=false→AK X B K2 F2 S2 R)(hc:lk F t=some (.val (.bool e)):=by rfl)
 (he1:evT X B.fn.ntmps n1 100 (.code x::k) ((t,.lit true)::F) S=(K1,F1,S1):=by rfl)(he2:evT X B.fn.ntmps n2 100 (.code y::k) ((t,.lit false)::F) S=(K2,F2,S2):=by rfl) :
 AK X B (.code (.cond (.tmp t) x y)::k) F S R:=
 N0 hc (fun h=>Ks n1 100 he1 (h1 h)) (fun h=>Ks n2 100 he2 (h2 h))
theorem Aav:∀{cs:List AV}{us:List Value},Aau cs=some us→cs=us.map .val
 |[],us,h=>by simp only[Aau]at h;cases h;rfl
 |x::l,us,h=>by
  simp only[Aau]at h;split at h
  ·rename_i v hv;split at h
   ·rename_i vs hvs;cases h;have:x=.val v:=by
     cases x<;>simp[Azv]at hv;rw[hv]
    rw[this,Aav hvs];rfl
   ·cases h
  ·cases h
theorem Apb{N:Nat}{t:TypeId}{cs:List AV}{us:List Value}{y:Ty}{fs:List (Nat×Nat)}(ho:ops[i]?=some o:=by rfl)(hw:A6 ops F o=some true:=by rfl)(hop:o.op=.makeInterface t p:=by rfl)
 (hp:Dt X F p=some (.agg cs):=by rfl)(hu:Aau cs=some us:=by rfl)(hy:X.ty t=some y:=by rfl)(hk:y.k=.str fs:=by rfl):Ndo X N ops i o F (.val (.iface t (.agg ⟨us⟩))) S S:=by
 refine Df ho hw fun F' E w a hc hI hF=>?_;rw[hop]at hc;have h1:=Ak hI hF ((hc p (by simp[Op.operands])).trans hp);obtain⟨d,hdd,hd2⟩:=(X.ty_ok t y hy).agg;simp only[hk]at hd2;obtain⟨fields,rfl,_⟩:=hd2;generalize hu':a.eval p=u at h1;have:=Aav hu;subst this;cases h1 with
 |agg vs _ hl hr=>
  have:vs=⟨us⟩:=by
   apply Array.ext
   ·simpa using hl
   ·intro j h1 h2;have:=hr j vs[j] (.val us[j]) (by simp[h1]) (by simp at h2;simp[h2]);generalize vs[j]=z at this;cases this;simp
  subst this;exact⟨.iface t (.agg ⟨us⟩),by simp[execOp,hop,hu',Instr.makeInterface,run_underlying hdd],.val _⟩
end
section
variable {X:Cx}{B:Bx}{S:St}{F F1 F2:C3}{N:Nat}{R:AE→St→Prop}{ops:Array Oper}{i i':Nat}{o:Oper}{os os':List Oper}{x:AV}{bs:List Nat}{em:Nat}{pend pend':List Jx}{KK:C3→St→Prop}{c:Call}{fo p q:Operand}
theorem Akp(h:∀S',Ndo X N ops i o F x S' S')(k:Drv X N ops bs em os' i' F2 S [S] pend' KK)(hF:Py N o.dst x F=some F1:=by rfl)(hg:Lk X N ops S 100 os (i+1) F1 pend=(os',i',F2,pend'):=by rfl)
 (hos:ops.toList.drop (i+1)=os:=by rfl):Drv X N ops bs em (o::os) i F S [S] pend KK:=by
 obtain⟨h1,rfl⟩:=Gg hF;exact Kf h h1 (Ft k hg hos)
theorem Ci{f:FuncId}{caps xs zs ys:List AV}{r:AV}(hc:Pure X f ys r)(k:Drv X N ops bs em os' i' F2 S [S] pend' KK)(ho:ops[i]?=some o:=by rfl)(hw:A6 ops F o=some true:=by rfl)
 (hop:o.op=.call c:=by rfl)(hcal:c.callee=.value fo:=by rfl)(hfo:Dt X F fo=some (.fn f caps):=by rfl)(hx:Hk X F c.args.toList=some xs:=by rfl)(hzs:Kb xs caps=some zs:=by rfl)
 (hF:Py N o.dst r F=some F1:=by rfl) [hs:RinL [] [] zs ys] [hok:OK 0 0 r](hg:Lk X N ops S 100 os (i+1) F1 pend=(os',i',F2,pend'):=by rfl)
 (hos:ops.toList.drop (i+1)=os:=by rfl):Drv X N ops bs em (o::os) i F S [S] pend KK:=by
 obtain⟨h1,rfl⟩:=Gg hF;exact Kf (fun S'=>Aco hc ho hw hop hcal hfo hx hzs hok.ok) h1 (Ft k hg hos)
theorem Dv{t e:Nat}{rows:List (List AV)}{sp:Sp}{ik:IntKind}{r:List AV}{y ye:Ty}(n:Int)(h0:0≤n)(hr:rows[n.toNat]?=some r)(k:Drv X N ops bs em os' i' F2 S [S] pend' KK)(ho:ops[i]?=some o:=by rfl)
 (hw:A6 ops F o=some true:=by rfl)(hop:o.op=.indexAddr t p q:=by rfl)(hp:Dt X F p=some (.sl rows sp):=by rfl)(hq:Dt X F q=some (.val (.int ik n)):=by rfl)
 (hy:X.ty t=some y:=by rfl)(hyk:y.k=.slc e:=by rfl)(hye:X.ty e=some ye:=by rfl)(hl:r.length=ye.size:=by rfl)(hF:Py N o.dst (.cptr r) F=some F1:=by rfl)
 (hg:Lk X N ops S 100 os (i+1) F1 pend=(os',i',F2,pend'):=by rfl)(hos:ops.toList.drop (i+1)=os:=by rfl):Drv X N ops bs em (o::os) i F S [S] pend KK:=
 Akp (fun _=>Cu ho hw hop hp hq hy hyk hye hl h0 hr) k hF hg hos
theorem Du{t t':Nat}{s s':List UInt8}(hl:s.length+s'.length≤1000000000000)(k:Drv X N ops bs em os' i' F2 S [S] pend' KK)(ho:ops[i]?=some o:=by rfl)(hw:A6 ops F o=some true:=by rfl)
 (hop:o.op=.binOp .add t p q t':=by rfl)(hp:Dt X F p=some (str s):=by rfl)(hq:Dt X F q=some (str s'):=by rfl)(hF:Py N o.dst (str (s++s')) F=some F1:=by rfl)
 (hg:Lk X N ops S 100 os (i+1) F1 pend=(os',i',F2,pend'):=by rfl)(hos:ops.toList.drop (i+1)=os:=by rfl):Drv X N ops bs em (o::os) i F S [S] pend KK:=
 Akp (fun _=>Rq ho hw hop hp hq hl rfl) k hF hg hos
theorem Fg{l:List Nat}{k:List Item}{K:List Item}{F':C3}{S2:St}{t t':Nat}{s s':List UInt8}(hl:s.length+s'.length≤1000000000000)(hk:AK X B K F' S2 R)(ho:ops[i]?=some o:=by rfl)(hw:A6 ops F o=some true:=by rfl)
 (hop:o.op=.binOp .add t p q t':=by rfl)(hp:Dt X F p=some (str s):=by rfl)(hq:Dt X F q=some (str s'):=by rfl)(hd:D1 B.fn.ntmps o.dst=true:=by rfl)
 (he:Go.V.ev X B.fn.ntmps 200 (.inRegion ops l::k) (putF o.dst (str (s++s')) F) S=(K,F',S2):=by rfl):AK X B (.inRegion ops (i::l)::k) F S R:=
 G9 (Rq ho hw hop hp hq hl rfl) ho hd (Bj 200 he hk)
end
section
variable {X:Cx}{B:Bx}{S:St}{F:C3}{N:Nat}{ops:Array Oper}{i:Nat}{o:Oper}
theorem Wh{f:FuncId}{args:List AV}{r:AV}{vs:List Value}(hE:Nq X.P f)(ha:args=vs.map .val)
 (h:∀w,X.Glob w→Calls X.P f ⟨vs⟩ w fun e w'=>(∃v,e=.returned v∧∀E w,Rel E w v r)∧RowKit.Below w.heap.size w w'):Pure X f args r:=by
 refine⟨hE,fun E w us _ hI hs hr=>?_⟩;have:us=⟨vs⟩:=by
  subst ha;apply Array.ext
  ·simpa using hs
  ·intro j h1 h2;have:=hr j us[j] (.val vs[j]) (by simp[h1]) (by simp at h2;simp[h2]);generalize us[j]=z at this;cases this;simp
 subst this;refine(h w hI.glob).mono fun e w' he=>?_;obtain⟨⟨v,rfl,hv⟩,hb⟩:=he;have hlt:∀b o v,w.cell? ⟨b,o,none⟩=some v→w'.cell? ⟨b,o,none⟩=some v:=fun b o v hc=>by
  have hl:=Jf hc;unfold World.cell? at hc⊢;rw[hb.block b hl];exact hc
 have ev:Evol E w E w' E.boxes.length E.toks.length:=⟨rfl,fun _ _ h=>⟨h,fun _ h=>h⟩,fun _ _ k h=>⟨k,h,.inl rfl⟩,hb.os,hb.tape,hb.output,hb.size,fun k hk _=>hb.block k hk,fun b o v _ hc=>hlt b o v hc,fun _ _ _ h=>h,fun _ _ h=>h,rfl,fun q e he=>by
  have hl:q<w.heap.size:=by
   rcases Gu q w.heap.size with h|h
   ·exact h
   ·simp[Fu,Abs h]at he
  unfold Fu at he⊢;rw[hb.block q hl];exact he,fun _ _ _ b _ _ _ _ o ho=>(hb.block b (N6 ho)).trans ho⟩
 exact⟨E,⟨[],[]⟩,hI.keep ev (fun b hb'=>hb.block b (hI.own_lt hb')),ev.weaken (Cc _) (Cc _),r,hv E w',rfl,rfl⟩
theorem Akz{c:Call}{fo:Operand}{f:FuncId}{us:List Value}{xs:List AV}{v:Value}(hr:∀w,(callFunc f ⟨us⟩).run X.P w=.ok (.value v) w)(ho:ops[i]?=some o:=by rfl)(hw:A6 ops F o=some true:=by rfl)
 (hop:o.op=.call c:=by rfl)(hcal:c.callee=.value fo:=by rfl)(hfo:Dt X F fo=some (.fn f []):=by rfl)(hx:Hk X F c.args.toList=some xs:=by rfl)(hu:Aau xs=some us:=by rfl):Ndo X N ops i o F (.val v) S S:=by
 refine Df ho hw fun F' E w a hc hI hF=>?_;rw[hop]at hc;simp only[Op.operands,Call.operands,hcal,Wt,zzq47]at hc;have h1:=Ak hI hF ((hc fo (.inl (by simp))).trans hfo);have e2:Hk X F' c.args.toList=Hk X F c.args.toList:=by
  have:∀l:List Operand,(∀p,p∈l→Dt X F' p=Dt X F p)→Hk X F' l=Hk X F l:=by
   intro l
   induction l with
   |nil=>intro _;rfl
   |cons p l ih=>intro h;simp only[Hk];rw[h p (by simp),ih fun q hq=>h q (by simp[hq])]
  exact this _ fun p hp=>hc p (.inr hp)
 obtain⟨hl,hrr⟩:=O1 hI hF (e2.trans hx);have hxs:=Aav hu;subst hxs;have hargs:c.args.map a.eval=⟨us⟩:=by
  apply Array.ext
  ·simpa using hl
  ·intro j h1 h2;have:=hrr j (c.args.map a.eval)[j] (.val us[j]) (Agc h1) (by simp at h2;simp[h2]);generalize (c.args.map a.eval)[j]=z at this;cases this;simp
 cases hh:a.eval fo<;>rw[hh]at h1<;>cases h1;rename_i caps hcl hcr;have hcaps:caps=#[]:=by apply Array.eq_empty_of_size_eq_zero;simpa using hcl
 subst hcaps;refine⟨v,?_,.val v⟩;have:=hr w;rw[←hargs]at this;simp[execOp,hop,resolve,hcal,hh,Deferred.ofValue,invoke,this]
end
end Go.V
namespace Go.V
open Go Go.Proofs Go.Proofs.Tryz
def tyL:List (Nat×Ty):=[
 (30,⟨4,.str [(0,1),(1,1),(2,1),(3,1)],[.val (.int .i64 0),.val (.string ⟨#[]⟩),.val (.int .i64 0),.sl [] .tight],[false,false,false,false]⟩),
 (3,⟨1,.int .i64,[.val (.int .i64 0)],[]⟩),
 (28,⟨1,.slc 30,[.sl [] .tight],[]⟩),
 (9,⟨1,.string,[.val (.string ⟨#[]⟩)],[]⟩),
 (40,⟨8,.str [(0,1),(1,1),(2,1),(3,1),(4,1),(5,1),(6,1),(7,1)],[.val (.int .i64 0),.sl [] .tight,.sl [] .tight,.val (.int .i64 0),.val (.int .i64 0),.val (.int .i64 0),.val (.int .i64 0),.val (.int .i64 0)],[false,false,false,false,false,false,false,false]⟩),
 (37,⟨1,.slc 3,[.sl [] .tight],[]⟩),
 (80,⟨1,.slc 9,[.sl [] .tight],[]⟩),
 (250,⟨2,.str [(0,1),(1,1)],[.val (.int .i64 0),.val (.int .i64 0)],[false,false]⟩),
 (85,⟨5,.str [(0,1),(1,1),(2,1),(3,2)],[.sl [] .tight,.sl [] .tight,.sl [] .tight,.val (.int .i64 0),.sl [] .tight],[false,false,false,true]⟩),
 (38,⟨1,.slc 137,[.sl [] .tight],[]⟩),
 (334,⟨1,.flat,[.val (.pointer none)],[]⟩),
 (4,⟨1,.bool,[.val (.bool false)],[]⟩),
 (24,⟨4,.str [(0,1),(1,1),(2,1),(3,1)],[.val (.int .i64 0),.val (.string ⟨#[]⟩),.val (.int .i64 0),.sl [] .tight],[false,false,false,false]⟩),
 (90,⟨8,.str [(0,1),(1,1),(2,1),(3,1),(4,4)],[.val (.int .i64 0),.val (.int .i64 0),.val (.int .i64 0),.val (.bool false),.val (.int .i64 0),.val (.string ⟨#[]⟩),.val (.int .i64 0),.sl [] .tight],[false,false,false,false,true]⟩),
 (137,⟨1,.slc 185,[.sl [] .tight],[]⟩),
 (143,⟨3,.str [(0,1),(1,1),(2,1)],[.sl [] .tight,.sl [] .tight,.sl [] .tight],[false,false,false]⟩),
 (301,⟨1,.flat,[.val (.pointer none)],[]⟩),
 (71,⟨2,.str [(0,1),(1,1)],[.val (.int .i64 0),.sl [] .tight],[false,false]⟩),
 (5,⟨1,.int .u8,[.val (.int .u8 0)],[]⟩),
 (74,⟨3,.str [(0,2),(2,1)],[.val (.int .i64 0),.sl [] .tight,.sl [] .tight],[true,false]⟩),
 (185,⟨2,.str [(0,1),(1,1)],[.val (.bool false),.val (.int .i64 0)],[false,false]⟩),
 (81,⟨1,.slc 90,[.sl [] .tight],[]⟩),
 (150,⟨2,.str [(0,1),(1,1)],[.val (.int .i64 0),.val (.string ⟨#[]⟩)],[false,false]⟩),
 (159,⟨1,.slc 5,[.sl [] .tight],[]⟩),
 (83,⟨2,.str [(0,1),(1,1)],[.val (.int .i64 0),.sl [] .tight],[false,false]⟩),
 (251,⟨1,.slc 250,[.sl [] .tight],[]⟩),
 (307,⟨1,.flat,[.val (.pointer none)],[]⟩),
 (210,⟨2,.str [(0,1),(1,1)],[.val (.int .i64 0),.val (.int .i64 0)],[false,false]⟩),
 (268,⟨2,.str [(0,1),(1,1)],[.val (.int .i64 0),.val (.int .i64 0)],[false,false]⟩),
 (26,⟨1,.slc 103,[.sl [] .tight],[]⟩),
 (212,⟨3,.str [(0,2),(2,1)],[.val (.int .i64 0),.val (.int .i64 0),.val (.bool false)],[true,false]⟩),
 (139,⟨1,.slc 251,[.sl [] .tight],[]⟩),
 (298,⟨1,.slc 306,[.sl [] .tight],[]⟩),
 (303,⟨3,.str [(0,1),(1,1),(2,1)],[.sl [] .tight,.val (.int .i64 0),.val (.bool false)],[false,false,false]⟩),
 (92,⟨1,.flat,[.val (.pointer none)],[]⟩),
 (98,⟨11,.str [(0,2),(2,1),(3,1),(4,1),(5,1),(6,1),(7,4)],[.val (.int .i64 0),.sl [] .tight,.sl [] .tight,.sl [] .tight,.sl [] .tight,.sl [] .tight,.sl [] .tight,.val (.int .i64 0),.val (.string ⟨#[]⟩),.val (.int .i64 0),.sl [] .tight],[true,false,false,false,false,false,true]⟩),
 (306,⟨3,.str [(0,1),(1,1),(2,1)],[.val (.int .i64 0),.val (.string ⟨#[]⟩),.val (.int .i64 0)],[false,false,false]⟩),
 (49,⟨1,.slc 114,[.sl [] .tight],[]⟩),
 (59,⟨8,.str [(0,1),(1,1),(2,1),(3,1),(4,1),(5,1),(6,1),(7,1)],[.val (.int .i64 0),.sl [] .tight,.sl [] .tight,.val (.int .i64 0),.val (.int .i64 0),.val (.int .i64 0),.val (.int .i64 0),.val (.int .i64 0)],[false,false,false,false,false,false,false,false]⟩),
 (140,⟨1,.slc 212,[.sl [] .tight],[]⟩),
 (169,⟨5,.str [(0,2),(2,1),(3,1),(4,1)],[.val (.int .i64 0),.sl [] .tight,.val (.int .i64 0),.sl [] .tight,.sl [] .tight],[true,false,false,false]⟩),
 (72,⟨1,.slc 143,[.sl [] .tight],[]⟩),
 (217,⟨1,.flat,[.val (.pointer none)],[]⟩),
 (114,⟨4,.str [(0,1),(1,1),(2,1),(3,1)],[.val (.int .i64 0),.val (.int .i64 0),.val (.int .i64 0),.val (.bool false)],[false,false,false,false]⟩),
 (310,⟨2,.str [(0,1),(1,1)],[.val (.pointer none),.sl [] .tight],[false,false]⟩),
 (103,⟨6,.str [(0,1),(1,1),(2,4)],[.val (.bool false),.val (.int .i64 0),.val (.int .i64 0),.val (.string ⟨#[]⟩),.val (.int .i64 0),.sl [] .tight],[false,false,true]⟩),
 (141,⟨1,.slc 4,[.sl [] .tight],[]⟩),
 (170,⟨1,.flat,[.val (.pointer none)],[]⟩),
 (361,⟨1,.int .u64,[.val (.int .u64 0)],[]⟩),
 (368,⟨1,.int .u32,[.val (.int .u32 0)],[]⟩),
 (96,⟨1,.slc 37,[.sl [] .tight],[]⟩),
 (194,⟨3,.str [(0,1),(1,1),(2,1)],[.val (.pointer none),.val (.pointer none),.val (.int .i64 0)],[false,false,false]⟩),
 (351,⟨1,.int .u64,[.val (.int .u64 0)],[]⟩),
 (68,⟨3,.str [(0,2),(2,1)],[.val (.int .i64 0),.sl [] .tight,.sl [] .tight],[true,false]⟩),
 (173,⟨10,.str [(0,4),(4,4),(8,1),(9,1)],[.val (.int .i64 0),.val (.string ⟨#[]⟩),.val (.int .i64 0),.sl [] .tight,.val (.int .i64 0),.val (.string ⟨#[]⟩),.val (.int .i64 0),.sl [] .tight,.val (.int .i64 0),.val (.int .i64 0)],[true,true,false,false]⟩),
 (312,⟨4,.str [(0,2),(2,1),(3,1)],[.val (.pointer none),.sl [] .tight,.sl [] .tight,.val (.int .i64 0)],[true,false,false]⟩),
 (115,⟨1,.slc 40,[.sl [] .tight],[]⟩),
 (280,⟨2,.arr 2 3,[.val (.int .i64 0),.val (.int .i64 0)],[]⟩),
 (201,⟨3,.str [(0,1),(1,1),(2,1)],[.sl [] .tight,.sl [] .tight,.sl [] .tight],[false,false,false]⟩),
 (167,⟨1,.slc 173,[.sl [] .tight],[]⟩),
 (219,⟨2,.str [(0,1),(1,1)],[.val (.int .i64 0),.sl [] .tight],[false,false]⟩),
 (22,⟨1,.slc 24,[.sl [] .tight],[]⟩),
 (57,⟨1,.slc 178,[.sl [] .tight],[]⟩),
 (66,⟨1,.slc 201,[.sl [] .tight],[]⟩),
 (162,⟨1,.slc 166,[.sl [] .tight],[]⟩),
 (166,⟨3,.str [(0,1),(1,1),(2,1)],[.val (.bool false),.val (.string ⟨#[]⟩),.val (.bool false)],[false,false,false]⟩),
 (192,⟨1,.flat,[.val (.pointer none)],[]⟩),
 (198,⟨1,.slc 284,[.sl [] .tight],[]⟩),
 (65,⟨2,.str [(0,1),(1,1)],[.val (.int .i64 0),.sl [] .tight],[false,false]⟩),
 (127,⟨1,.flat,[.val (.pointer none)],[]⟩),
 (348,⟨2,.str [(0,1),(1,1)],[.sl [] .tight,.val (.int .i64 0)],[false,false]⟩),
 (178,⟨1,.slc 238,[.sl [] .tight],[]⟩),
 (79,⟨1,.flat,[.val .nilFunc],[]⟩),
 (284,⟨1,.slc 318,[.sl [] .tight],[]⟩),
 (199,⟨1,.slc 290,[.sl [] .tight],[]⟩),
 (308,⟨1,.flat,[.val (.pointer none)],[]⟩),
 (394,⟨3,.str [(0,1),(1,1),(2,1)],[.val (.string ⟨#[]⟩),.val (.string ⟨#[]⟩),.val .nilIface],[false,false,false]⟩),
 (2,⟨1,.int .i64,[.val (.int .i64 0)],[]⟩),
 (238,⟨2,.str [(0,1),(1,1)],[.val (.bool false),.val (.int .i64 0)],[false,false]⟩),
 (318,⟨2,.str [(0,1),(1,1)],[.val (.int .i64 0),.val (.int .i64 0)],[false,false]⟩),
 (290,⟨3,.str [(0,2),(2,1)],[.val (.int .i64 0),.val (.int .i64 0),.val (.bool false)],[true,false]⟩),
 (288,⟨2,.str [(0,1),(1,1)],[.val (.int .i64 0),.val (.int .i64 0)],[false,false]⟩),
 (340,⟨1,.flat,[.val .nilIface],[]⟩),
 (179,⟨1,.flat,[.val .nilFunc],[]⟩),
 (205,⟨1,.slc 74,[.sl [] .tight],[]⟩),
 (338,⟨6,.arr 6 9,[.val (.string ⟨#[]⟩),.val (.string ⟨#[]⟩),.val (.string ⟨#[]⟩),.val (.string ⟨#[]⟩),.val (.string ⟨#[]⟩),.val (.string ⟨#[]⟩)],[]⟩),
 (345,⟨1,.str [(0,1)],[.val (.int .i64 0)],[false]⟩),
 (95,⟨1,.flat,[.val .nilFunc],[]⟩),
 (188,⟨1,.flat,[.val .nilFunc],[]⟩),
 (366,⟨1,.flat,[.val (.pointer none)],[]⟩),
 (174,⟨2,.arr 2 4,[.val (.bool false),.val (.bool false)],[]⟩),
 (261,⟨1,.flat,[.val .nilFunc],[]⟩),
 (282,⟨6,.arr 6 4,[.val (.bool false),.val (.bool false),.val (.bool false),.val (.bool false),.val (.bool false),.val (.bool false)],[]⟩),
 (330,⟨1,.flat,[.val (.pointer none)],[]⟩),
 (337,⟨2,.arr 2 9,[.val (.string ⟨#[]⟩),.val (.string ⟨#[]⟩)],[]⟩),
 (400,⟨1,.str [(0,1)],[.val (.string ⟨#[]⟩)],[false]⟩),
 (33,⟨1,.flat,[.val .nilFunc],[]⟩),
 (333,⟨1,.flat,[.val .nilFunc],[]⟩)]
def A39:Nat→Option Ty:=Aka tyL
set_option maxRecDepth 100000 in
theorem A4z:Ar7 prog A39 tyL:=by
 unfold tyL
 iterate 98 refine⟨by kernel_rfl,by kernel_rfl,?_⟩
 trivial
def condG:List AV:=[.val (.string ⟨#[60]⟩),.val (.string ⟨#[60,61]⟩),.val (.string ⟨#[62]⟩),.val (.string ⟨#[62,61]⟩),.val (.string ⟨#[61,61]⟩),.val (.string ⟨#[33,61]⟩)]
noncomputable def gK:Nat:=prog.globals.size
def gAt(g:Nat):Option (List AV):=
 match Nat.beq g 1 with
 |true=>some condG
 |false=>none
def IfaceV(w:World)(g:Nat):Prop:=∃ev,w.cell? ⟨g,0,none⟩=some ev∧(ev=.nilIface∨∃te pe,ev=.iface te pe)
structure gOk (w:World):Prop where
 cond:∀(j:Nat) (x:AV),condG[j]?=some x→∃v,w.cell? ⟨1,j,none⟩=some v∧x=.val v
 tab:∃e z,w.heap[2]?=some (.cells (Lib.pow10Tab.map fun z=>Value.int .u64 z).toArray e z)
 syn:IfaceV w 6
 rng:IfaceV w 7
theorem Ai5{k:Nat}(h:decide (k<prog.globals.size)=true):k<gK:=by unfold gK;exact A7 h
theorem IfaceV.st{w w':World}{g:Nat}(h:∀k,k<gK→w'.heap[k]?=w.heap[k]?)(hg:g<gK)(hv:IfaceV w g):IfaceV w' g:=by
 obtain⟨ev,h1,h2⟩:=hv;refine⟨ev,?_,h2⟩;unfold World.cell? at h1⊢;rw[h g hg];exact h1
noncomputable def X:Cx where
 P:=prog
 ty:=A39
 G:=gAt
 K0:=gK
 Glob:=gOk
 ty_ok:=Au4 A4z
 glob_st w w' h hs _ hg:={
  cond:=fun j x hx=>by
   obtain⟨v,hv,he⟩:=hg.cond j x hx;refine⟨v,?_,he⟩;unfold World.cell? at hv⊢;rw[h 1 (Ai5 (by kernel_rfl))];exact hv
  tab:=by
   obtain⟨e,z,ht⟩:=hg.tab;exact⟨e,z,(h _ (Ai5 (by kernel_rfl))).trans ht⟩
  syn:=hg.syn.st h (Ai5 (by kernel_rfl))
  rng:=hg.rng.st h (Ai5 (by kernel_rfl)) }
 glob_G w hw g cells hg:=by
  unfold gAt at hg;split at hg
  ·rename_i hb;cases hg;have:=U5 hb;subst this;exact⟨Ai5 (by kernel_rfl),hw.cond⟩
  ·cases hg
 mixed:=by kernel_rfl
inductive Nd where
 |mk (kind:Int) (name:List UInt8) (num:Int) (kids:List Nd)
def Nd.kind:Nd→Int|.mk k _ _ _=>k
def Nd.name:Nd→List UInt8|.mk _ s _ _=>s
def Nd.num:Nd→Int|.mk _ _ m _=>m
def Nd.kids:Nd→List Nd|.mk _ _ _ ks=>ks
mutual
def Azj:Nd→List AV
 |.mk k s m ks=>[.val (.int .i64 k),.val (.string ⟨⟨s⟩⟩),.val (.int .i64 m),.sl (Ap ks) .no]
def Ap:List Nd→List (List AV)
 |[]=>[]
 |n::l=>Azj n::Ap l
end
def Af(n:Nd):List AV:=[.val (.int .i64 n.kind),.val (.string ⟨⟨n.name⟩⟩),.val (.int .i64 n.num),.sl (Ap n.kids) .no]
theorem Atg(n:Nd):Azj n=Af n:=by cases n;rfl
theorem As(l:List Nd):Ap l=l.map Af:=by
 induction l with
 |nil=>rfl
 |cons n l ih=>simp only[Ap,ih,Atg,Nz]
theorem Am{l:List Nd}{i:Nat}{n:Nd}(h:l[i]?=some n):(Ap l)[i]?=some (Af n):=by rw[As];simp[h]
theorem Ad(l:List Nd):(Ap l).length=l.length:=by rw[As];simp
theorem Nd.ind{P:Nd→Prop}(h:∀n,(∀k,k∈n.kids→P k)→P n):∀n,P n:=by
 intro n;have:∀m:Nat,∀n:Nd,SizeOf.sizeOf n<m→P n:=by
  intro m
  induction m with
  |zero=>intro n h;omega
  |succ m ih=>
   intro n hn;refine h n fun k hk=>ih k ?_;cases n with
   |mk a b c ks=>
    have:=List.sizeOf_lt_of_mem hk;simp only[Nd.kids]at this;simp at hn;omega
 exact this _ n (Ad6 _)
theorem Ann:∀n:Nd,∀x,x∈Af n→Ok 0 0 x:=by
 intro n
 induction n using Nd.ind with
 |h n ih=>
  intro x hx;simp only[Af,zzq13,Wv,or_false]at hx;rcases hx with rfl|rfl|rfl|rfl
  ·exact .val _
  ·exact .val _
  ·exact .val _
  ·refine .sl _ _ (fun r hr y hy=>?_) (fun t ht=>by cases ht);rw[As]at hr;obtain⟨k,hk,rfl⟩:=zzq68.1 hr;exact ih k hk y hy
theorem Apw(l:List Nd):He 0 0 (Ap l):=fun r hr x hx=>by
 rw[As]at hr;obtain⟨k,_,rfl⟩:=zzq68.1 hr;exact Ann k x hx
mutual
def Ai:Nd→Nat
 |.mk _ _ _ ks=>1+A3 ks
def A3:List Nd→Nat
 |[]=>0
 |n::l=>Ai n+A3 l
end
theorem Ck(n:Nd):Ai n=1+A3 n.kids:=by cases n;rfl
theorem M0(a b:List Nd):A3 (a++b)=A3 a+A3 b:=by
 induction a with
 |nil=>simp[A3]
 |cons x a ih=>simp[A3,ih];omega
theorem Qh{l:List Nd}{i:Nat}:A3 (l.take i)≤A3 l:=by
 have:=M0 (l.take i) (l.drop i);rw[Ad8]at this;omega
theorem Pi{l:List Nd}{i:Nat}{n:Nd}(h:l[i]?=some n):A3 (l.take (i+1))=A3 (l.take i)+Ai n:=by
 rw[G7,h,M0];simp[A3]
theorem Bn(l:List Nd):l.length≤A3 l:=by
 induction l with
 |nil=>simp[A3]
 |cons x l ih=>have:=Ck x;simp[A3];omega
theorem Ac{n:Int}(h0:-9223372036854775808≤n)(h:n≤9223372036854775807):IntKind.i64.wrap n=n:=by
 unfold IntKind.wrap;simp[IntKind.bits,IntKind.signed];omega
instance{n m:Nat}{k:Nd}:OKL n m (Af k):=⟨fun x hx=>(Ann k x hx).mono (Cc _) (Cc _)⟩
instance{n m:Nat}{l:List Nd}:OKR n m (Ap l):=⟨fun r hr x hx=>(Apw l r hr x hx).mono (Cc _) (Cc _)⟩
theorem Ct{a b:Int}{k:IntKind}(h:a=b):some (AV.val (.int k a))=some (AV.val (.int k b)):=by rw[h]
theorem vsx{a b:Int}(h:-9223372036854775808≤a∧a≤9223372036854775807∧a=b):some (AV.val (.int .i64 (IntKind.i64.wrap a)))=some (AV.val (.int .i64 b)):=
 Ct ((Ac h.1 h.2.1).trans h.2.2)
theorem t1(n:Nd)(hn:Ai n≤4000000000):Pure X 292 [.agg (Af n)] (.val (.int .i64 (Ai n))):=by
 induction n using Nd.ind with
 |h n ih=>
 refine Pure.mk func292 rfl rfl (by kernel_rfl) ?_;refine Bj 100 rfl ?_;have hc:=Ck n;have hll:=Bn n.kids;refine Av (ι:=Nat) 1 0 (fun i=>i≤n.kids.length) (fun i=>[(9,.val (.int .i64 i)),(8,.val (.int .i64 n.kids.length)),(7,.sl (Ap n.kids) .no),(3,.val (.int .i64 (1+A3 (n.kids.take i):Nat)))])
  (fun _=>⟨[[Af n]],[]⟩) (fun i=>n.kids.length-i) ?_ 0 (Cc _) ⟨rfl,by rw[←Ad];rfl,rfl,rfl,trivial⟩
 intro i hi IH;refine Bj 100 rfl ?_;refine N0 rfl (fun hlt=>?_) (fun hge=>?_)
 ·have hlt':i<n.kids.length:=by have:=A7 hlt;omega
  obtain⟨kid,hkid⟩:=Ab n.kids hlt';have hsn:=Pi hkid;have hle:=Qh (l:=n.kids) (i:=i+1);refine Bj 100 rfl ?_;refine Acd rfl rfl rfl rfl rfl rfl rfl rfl rfl rfl (by omega) (Am hkid) ?_;refine Bj 100 rfl ?_;refine Avk (ih kid (Bh hkid) (by omega)) rfl rfl rfl rfl rfl rfl rfl rfl ?_;refine Bj 100 rfl ?_;exact IH (i+1) hlt' (by omega) _ _ ⟨vsx (by omega),rfl,rfl,vsx (by omega),trivial⟩ rfl rfl rfl
 ·have:i=n.kids.length:=by have:=Bd hge;omega
  subst this;refine Bj 100 rfl ?_;exact Zn func292 rfl rfl rfl (by rw[hc,I8];rfl)
abbrev vi(n:Int):AV:=.val (.int .i64 n)
abbrev vb(b:Bool):AV:=.val (.bool b)
abbrev vc(c:UInt8):AV:=.val (.int .u8 c.toNat)
def Bl(n lo hi:Int):Bool:=decide (lo≤n)&&decide (n≤hi)
def Eh(c:UInt8):Bool:=Bl c.toNat 97 122
def digit(c:UInt8):Bool:=Bl c.toNat 48 57
theorem H2(n lo hi:Int):Pure X 49 [vi n,vi lo,vi hi] (vb (Bl n lo hi)):=by
 refine Pure.run func49 ?_;refine Db (fun h=>?_) (fun h=>?_)
 ·refine Az func49 ?_;simp_all [Bl,C5]
 ·refine Az func49 ?_;simp_all [Bl,C5];omega
theorem Yv(c:UInt8):Pure X 304 [vc c] (vb (Eh c)):=by
 refine Pure.run func304 ?_;refine Db (fun h=>?_) (fun h=>?_)
 ·refine Az func304 ?_;simp_all [Eh,Bl,C5]
 ·refine Az func304 ?_;simp_all [Eh,Bl,C5];omega
theorem Ab3(c:UInt8):Pure X 306 [vc c] (vb (digit c)):=by
 refine Pure.run func306 ?_;refine Db (fun h=>?_) (fun h=>?_)
 ·refine Az func306 ?_;simp_all [digit,Bl,C5]
 ·refine Az func306 ?_;simp_all [digit,Bl,C5];omega
def Dj(l:List (List UInt8)):List (List AV):=l.map fun s=>[str s]
theorem Q5{l:List (List UInt8)}{i:Nat}{s:List UInt8}(h:l[i]?=some s):(Dj l)[i]?=some [str s]:=by simp[Dj,h]
theorem Fy(l:List (List UInt8)):(Dj l).length=l.length:=by simp[Dj]
instance{n m:Nat}{l:List (List UInt8)}:OKR n m (Dj l):=⟨fun r hr x hx=>by
 obtain⟨s,_,rfl⟩:=zzq68.1 hr;simp at hx;subst hx;exact .val _⟩
theorem B5{α:Type}{l:List α}{i:Nat}{x:α}(h:l[i]?=some x):l.drop i=x::l.drop (i+1):=by
 have hi:=Aa h;rw[Wu hi]at h;rw[Aki hi,Option.some.inj h]
def has(l:List (List UInt8))(s:List UInt8):Bool:=l.any fun x=>x==s
theorem Azn(l:List (List UInt8))(s:List UInt8)(hl:l.length≤1000000000):Pure X 328 [.sl (Dj l) .no,str s] (vb (has l s)):=by
 refine Pure.run func328 ?_;refine Av (ι:=Nat) 0 0 (fun i=>i≤l.length∧has l s=has (l.drop i) s) (fun i=>[(5,vi i),(0,.sl (Dj l) .no),(1,str s)]) (fun _=>⟨[],[]⟩) (fun i=>l.length-i) ?_ 0 ⟨Cc _,rfl⟩
  ⟨rfl,rfl,rfl,trivial⟩
 intro i hi IH;refine Dh (fun h=>?_) (fun h=>?_)
 ·have hlt:i<l.length:=by have:=A7 h;rw[Fy]at this;omega
  obtain⟨x,hx⟩:=Ab l hlt;have hd:has (l.drop i) s=(x==s||has (l.drop (i+1)) s):=by rw[B5 hx];rfl
  refine B7 i (by omega) (Q5 hx) ?_;refine Ag (fun h2=>?_) (fun h2=>?_)
  ·refine Az func328 ?_;have h3:(x==s)=true:=h2;rw[hi.2,hd,h3];rfl
  ·have h3:(x==s)=false:=h2;exact IH (i+1) ⟨hlt,by rw[hi.2,hd,h3];rfl⟩ (by omega) _ _ ⟨vsx (by omega),rfl,rfl,trivial⟩ rfl rfl rfl
 ·have:i=l.length:=by have:=Bd h;rw[Fy]at this;omega
  refine Az func328 ?_;rw[hi.2,this,Hw];rfl
def Ug:List (List UInt8):=[[97,114,114,97,121],[99,104,101,99,107],[101,108,115,101],[102,111,114],[102,114,111,109],[105,102],[108,101,110],[114,101,97,100],[115,107,105,112],[115,116,111,112],[116,111],[118,97,114],[119,104,105,108,101]]
def J6:List (List UInt8):=[[43],[45],[42],[40],[41],[91],[93],[123],[125],[59],[61],[60],[62],[63],[61,61],[33,61],[60,61],[62,61]]
theorem Azo(s:List UInt8):Pure X 305 [str s] (vb (has Ug s)):=by
 refine Pure.run func305 ?_;refine Al (Azn Ug s (by decide)) ?_;exact Az func305 rfl
theorem Atv(s:List UInt8):Pure X 311 [str s] (vb (has J6 s)):=by
 refine Pure.run func311 ?_;refine Al (Azn J6 s (by decide)) ?_;exact Az func311 rfl
def Q9(s:List UInt8):Bool:=s.all fun c=>Eh c||digit c
def nameS(s:List UInt8):Bool:=match s with
 |[]=>false
 |c::l=>decide (l.length<8)&&Eh c&&!has Ug (c::l)&&Q9 (c::l)
theorem Al6(s:List UInt8)(hs:s.length≤1000000000):Pure X 279 [str s] (vb (nameS s)):=by
 refine Pure.run func279 ?_;have fin:∀{b:Bool},nameS s=b→C5 [vb b]=vb (nameS s):=fun h=>by rw[h];rfl
 cases s with
 |nil=>
  refine Hh ?_;refine Hh ?_;refine Hh ?_;refine A1 ?_;exact Az func279 rfl
 |cons c l=>
  have hsz:((⟨⟨c::l⟩⟩:ByteArray).size:Int)=(l.length:Int)+1:=by show ((c::l).length:Int)=_;simp
  refine Ii ?_ (ht:=by rw[hsz];exact Kn (by omega));refine Db (fun h1=>?_) (fun h1=>?_)
  ·refine Hh ?_;refine A1 ?_;refine Az func279 (fin ?_);have:=A7 h1;rw[hsz]at this;simp only[nameS];rw[Kn (by omega)];rfl
  ·have hl:l.length<8:=by have:=Bd h1;rw[hsz]at this;omega
   refine Je 0 (by omega) (b:=c) rfl ?_;refine Al (Yv c) ?_;refine Db (fun h2=>?_) (fun h2=>?_)
   ·refine A1 ?_;refine Az func279 (fin ?_);have h3:Eh c=false:=by simpa using h2
    simp[nameS,h3]
   have h3:Eh c=true:=by simpa using h2
   refine Al (Azo (c::l)) ?_;refine Ag (fun h4=>?_) (fun h4=>?_)
   ·refine Az func279 (fin ?_);simp[nameS,h4]
   have hn:nameS (c::l)=Q9 (c::l):=by simp[nameS,h3,h4,hl]
   rw[hn];refine Av (ι:=Nat) 0 0 (fun i=>i≤(c::l).length∧Q9 (c::l)=Q9 ((c::l).drop i)) (fun i=>[(3,vi i),(0,str (c::l))]) (fun _=>⟨[],[]⟩) (fun i=>(c::l).length-i) ?_ 0 ⟨Cc _,rfl⟩
    ⟨rfl,rfl,trivial⟩
   intro i hi IH;refine Dh (fun h=>?_) (fun h=>?_)
   ·have hlt:i<(c::l).length:=by have:=A7 h;rw[hsz]at this;simp;omega
    obtain⟨x,hx⟩:=Ab (c::l) hlt;have hd:Q9 ((c::l).drop i)=((Eh x||digit x)&&Q9 ((c::l).drop (i+1))):=by rw[B5 hx];rfl
    refine Je i (by omega) hx ?_;refine Al (Yv x) ?_;have go:(Eh x||digit x)=true→∀F' S',Sub [(3,vi (i+1:Nat)),(0,str (c::l))] F'→S'.drop 0 0=⟨[],[]⟩→Nat.ble 0 S'.boxes.length=true→Nat.ble 0 S'.toks.length=true→AK X _ _ F' S' _:=
     fun ho=>IH (i+1) ⟨hlt,by rw[hi.2,hd,ho];rfl⟩ (by omega)
    refine Db (fun h5=>?_) (fun h5=>?_)
    ·have h5':Eh x=false:=by simpa using h5
     refine Je i (by omega) hx ?_;refine Al (Ab3 x) ?_;refine Ag (fun h6=>?_) (fun h6=>?_)
     ·refine Az func279 ?_;have h6':digit x=false:=by simpa using h6
      rw[hi.2,hd,h5',h6'];rfl
     ·have h6':digit x=true:=by simpa using h6
      exact go (by rw[h6'];simp) _ _ ⟨vsx (by omega),rfl,trivial⟩ rfl rfl rfl
    ·have h5':Eh x=true:=by simpa using h5
     refine Ah ?_;exact go (by rw[h5'];simp) _ _ ⟨vsx (by omega),rfl,trivial⟩ rfl rfl rfl
   ·have:i=(c::l).length:=by have:=Bd h;rw[hsz]at this;have:=hi.1;simp at *;omega
    refine Az func279 ?_;rw[hi.2,this,Hw];rfl
theorem A3q(n:Int)(h0:0≤n)(h1:n<256):IntKind.u8.wrap n=n:=by
 unfold IntKind.wrap;simp[IntKind.bits,IntKind.signed];omega
def Mb(n:Nat):List UInt8:=if n<10 then[UInt8.ofNat (48+n)]else Mb (n/10)++[UInt8.ofNat (48+n%10)]
theorem Awh(n:Nat):(Mb n).length≤n+1:=by
 induction n using Nat.strongRecOn with
 |ind n ih=>
  unfold Mb;split
  ·simp
  ·have:=ih (n/10) (by omega);simp;omega
theorem A2a(n:Nat)(hn:n≤1000000000000):IntKind.i64.wrap ((n:Int).tdiv 10)=((n/10:Nat):Int):=by
 have:(n:Int).tdiv 10=((n/10:Nat):Int):=by rw[Int.tdiv_eq_ediv_of_nonneg (by omega)];omega
 rw[this];exact Ac (by omega) (by omega)
theorem W7(m:Nat)(h:m<10):IntKind.u8.wrap (IntKind.i64.wrap (48+(m:Int)))=((UInt8.ofNat (48+m)).toNat:Int):=by
 rw[Ac (by omega) (by omega),A3q _ (by omega) (by omega)];have:(UInt8.ofNat (48+m)).toNat=48+m:=by rw[UInt8.toNat_ofNat'];omega
 rw[this];simp
theorem Ajn(n:Nat)(hn:n≤1000000000):Pure X 260 [vi n] (str (Mb n)):=by
 induction n using Nat.strongRecOn with
 |ind n ih=>
 refine Pure.run func260 ?_;refine Ah ?_ (ht:=Kn (by omega));refine Ah ?_ (ht:=Kn (by omega));refine Ag (fun h=>?_) (fun h=>?_)
 ·have h':=A7 h;refine Bm (Acl (s:=[UInt8.ofNat (48+n)]) rfl rfl rfl rfl rfl rfl rfl rfl rfl rfl ?_) ?_
  ·show [[_]]=[[_]]
   rw[W7 n (by omega)]
  refine Az func260 ?_;unfold Mb;rw[if_pos (by omega)];rfl
 ·have h':=Bd h;have ihq:Pure X 260 [vi (IntKind.i64.wrap ((n:Int).tdiv 10))] (str (Mb (n/10))):=by
   rw[A2a n (by omega)];exact ih (n/10) (by omega) (by omega)
  have hm:((n:Int).tmod 10)=((n%10:Nat):Int):=by rw[Int.tmod_eq_emod_of_nonneg (by omega)];omega
  refine C8 0 (by kernel_rfl) ?_;refine Ar ?_;refine Ar ?_;refine Ja ihq ?_;refine Ar ?_;refine Ar ?_;refine Ar ?_;refine Ar ?_;refine Ts ?_;refine Ek (fun S'=>Acl (s:=[UInt8.ofNat (48+n%10)]) rfl rfl rfl rfl rfl rfl rfl rfl rfl rfl ?_) ?_
  ·show [[_]]=[[_]]
   rw[hm,W7 (n%10) (by omega)]
  refine Ek (fun S'=>Rq rfl rfl rfl rfl rfl ?_ rfl) ?_
  ·have:=Awh (n/10);simp;omega
  refine Ar ?_;refine B6 ?_;refine Az func260 ?_
  conv=>rhs;unfold Mb
  rw[if_neg (by omega)];rfl
theorem cb(c d:UInt8):((c.toNat:Int)==(d.toNat:Int))=(c==d):=by
 by_cases h:c=d
 ·subst h;simp
 ·have:¬(c.toNat:Int)=(d.toNat:Int):=fun e=>h (UInt8.toNat_inj.1 (by omega));rw[beq_eq_false_iff_ne.2 h,beq_eq_false_iff_ne.2 this]
abbrev PG(f:Nat)(fn:Func)(K:List Item)(F:C3)(r:AV):Prop:=AK X ⟨f,fn,0,0⟩ K F ⟨[],[]⟩ fun e S=>e=.ret r∧S=⟨[],[]⟩
def Qt(n:Int):List UInt8→Int
 |[]=>if n>1000000 then -1 else n
 |c::l=>if digit c then Qt (10*n+c.toNat-48) l else -1
def Dn(s:List UInt8):Int:=match s with
 |[]=>-1
 |c::l=>if l.length>6 then -1 else if l.length>0&&c==48 then -1 else Qt 0 (c::l)
theorem Aa2{c:UInt8}(h:digit c=true):(48:Int)≤c.toNat∧(c.toNat:Int)≤57:=by
 simp only[digit,Bl,Da,J9]at h;exact h
theorem M5(c:UInt8)(l:List UInt8):((⟨⟨c::l⟩⟩:ByteArray).size:Int)=(l.length:Int)+1:=by show ((c::l).length:Int)=_;simp
theorem F6(s:List UInt8):((⟨⟨s⟩⟩:ByteArray).size:Int)=(s.length:Int):=rfl
theorem Adk(s:List UInt8):Pure X 289 [str s] (vi (Dn s)):=by
 refine Pure.run func289 ?_;have fin:∀{b:Int},Dn s=b→C5 [vi b]=vi (Dn s):=fun h=>by rw[h];rfl
 cases s with
 |nil=>
  refine Hh ?_;refine Hh ?_;refine A1 ?_;exact Az func289 rfl
 |cons c l=>
  refine Ii ?_ (ht:=by rw[M5];exact Kn (by omega));refine Db (fun h1=>?_) (fun h1=>?_)
  ·refine A1 ?_;refine Az func289 (fin ?_);have:=A7 h1;rw[M5]at this;simp only[Dn];rw[if_pos (by omega)]
  have h1':¬l.length>6:=by have:=Bd h1;rw[M5]at this;omega
  have L:Dn (c::l)=Qt 0 (c::l)→∀F,Sub [(4,vi 0),(3,vi 0),(0,str (c::l))] F→PG 289 f289 (Lj true 5 f289) F (vi (Dn (c::l))):=fun hg F hF=>by
   refine D3 ?_;refine Av (ι:=Nat×Int) 0 0 (fun i=>i.1≤(c::l).length∧0≤i.2∧i.2<10^i.1∧Dn (c::l)=Qt i.2 ((c::l).drop i.1)) (fun i=>[(4,vi i.1),(3,vi i.2),(0,str (c::l))]) (fun _=>⟨[],[]⟩)
    (fun i=>(c::l).length-i.1) ?_ (0,0) ⟨Cc _,Int.le_refl _,by simp,hg⟩ hF
   rintro⟨i,n⟩ ⟨hi,hn0,hn1,hnum⟩ IH;simp only at hi hn0 hn1 hnum IH⊢;have hcl:(c::l).length=l.length+1:=rfl;have hpow:(10:Int)^i≤10000000:=by
    have h7:i≤7:=by simp at hi;omega
    have:=Nat.pow_le_pow_right (show 0<10 by omega) h7;have h10:((10^i:Nat):Int)≤((10^7:Nat):Int):=Int.ofNat_le.2 this;simpa using h10
   refine Dh (fun h=>?_) (fun h=>?_)
   ·have hlt:i<(c::l).length:=by have:=A7 h;rw[M5]at this;simp;omega
    obtain⟨x,hx⟩:=Ab (c::l) hlt;have hd:Qt n ((c::l).drop i)=if digit x then Qt (10*n+x.toNat-48) ((c::l).drop (i+1))else -1:=by rw[B5 hx];rfl
    refine Je i (by omega) hx ?_;refine Al (Ab3 x) ?_;refine Ag (fun h2=>?_) (fun h2=>?_)
    ·have h2':digit x=false:=by simpa using h2
     refine Az func289 ?_;rw[hnum,hd,h2'];rfl
    ·have h2':digit x=true:=by simpa using h2
     obtain⟨d1,d2⟩:=Aa2 h2';refine Je i (by omega) hx ?_;have hp1:(10:Int)^(i+1)=10*10^i:=by rw[Int.pow_succ];omega
     refine IH (i+1,10*n+x.toNat-48) ⟨hlt,by simp only;omega,by simp only;omega,by rw[hnum,hd,h2'];rfl⟩ (by simp only;omega) _ _ ⟨Ct ((Ac (by omega) (by omega)).trans (by simp)),Ct ?_,rfl,trivial⟩ rfl rfl rfl;rw[Ac (n:=10*n) (by omega) (by omega),Ac (n:=(x.toNat:Int)) (by omega) (by omega),Ac (n:=10*n+x.toNat) (by omega) (by omega),Ac (by omega) (by omega)]
   ·have:i=(c::l).length:=by have:=Bd h;rw[M5]at this;simp at *;omega
    have hg2:Dn (c::l)=if n>1000000 then -1 else n:=by rw[hnum,this,Hw];rfl
    refine Ag (fun h2=>?_) (fun h2=>?_)
    ·refine Az func289 ?_;rw[hg2,if_pos (A7 h2)];rfl
    ·refine Az func289 ?_;rw[hg2,if_neg (Bd h2)];rfl
  refine Db (fun h2=>?_) (fun h2=>?_)
  ·have h2':l.length>0:=by have:=A7 h2;rw[M5]at this;omega
   refine Je 0 (by omega) (b:=c) rfl ?_;refine Ag (fun h3=>?_) (fun h3=>?_)
   ·refine Az func289 (fin ?_);have h3':(c==48)=true:=by rw[←cb];exact h3
    simp only[Dn];rw[if_neg h1',h3',if_pos (by simp[h2'])]
   ·have h3':(c==48)=false:=by rw[←cb];exact h3
    refine L (by simp only[Dn];rw[if_neg h1',h3'];simp) _ ?_;exact⟨rfl,rfl,rfl,trivial⟩
  ·have h2':¬l.length>0:=by have:=Bd h2;rw[M5]at this;omega
   refine Ah ?_;refine L (by simp only[Dn];rw[if_neg h1',if_neg (by simp[h2'])]) _ ?_;exact⟨rfl,rfl,rfl,trivial⟩
def Dd(s:List UInt8):Int:=if has Ug s then 4 else if nameS s then 1 else if Dn s≥0 then 2 else if has J6 s then 3 else 0
theorem A1j(s:List UInt8)(hs:s.length≤1000000000):Pure X 284 [str s] (vi (Dd s)):=by
 refine Pure.run func284 ?_;refine Al (Azo s) ?_;refine Ag (fun h1=>?_) (fun h1=>?_)
 ·refine Az func284 ?_;simp[Dd,h1,C5]
 refine Al (Al6 s hs) ?_;refine Ag (fun h2=>?_) (fun h2=>?_)
 ·refine Az func284 ?_;simp[Dd,h1,h2,C5]
 refine Al (Adk s) ?_;refine Ag (fun h3=>?_) (fun h3=>?_)
 ·refine Az func284 ?_;have:=A7 h3;simp[Dd,h1,h2,this,C5]
 have h3':=Bd h3;refine Al (Atv s) ?_;refine Ag (fun h4=>?_) (fun h4=>?_)
 ·refine Az func284 ?_;simp only[Dd,h1,h2,h4,if_neg h3',C5];rfl
 ·refine Az func284 ?_;simp only[Dd,h1,h2,h4,if_neg h3',C5];rfl
def Ce:Bool→List UInt8→Nat
 |_,[]=>0
 |false,c::l=>if c==32||c==10 then 1+Ce false l else if c==35 then 1+Ce true l else 0
 |true,c::l=>if c==10 then 1+Ce false l else 1+Ce true l
theorem Y2:∀(l:List UInt8)(b:Bool),Ce b l≤l.length
 |[],b=>by cases b<;>simp[Ce]
 |c::l,b=>by
  have h1:=Y2 l false;have h2:=Y2 l true;cases b
  ·simp only[Ce,Nl]
   repeat' split
   all_goals omega
  ·simp only[Ce,Nl]
   repeat' split
   all_goals omega
theorem Atw(s:List UInt8)(a:Nat)(ha:a≤s.length)(hs:s.length≤1000000000):Pure X 282 [str s,vi a] (vi (a+Ce false (s.drop a):Nat)):=by
 refine Pure.run func282 ?_;generalize hT:a+Ce false (s.drop a)=T;refine Av (ι:=Nat) 0 0 (fun i=>i≤s.length∧T=i+Ce false (s.drop i)) (fun i=>[(1,vi i),(0,str s)]) (fun _=>⟨[],[]⟩) (fun i=>s.length-i) ?_ a ⟨ha,hT.symm⟩
  ⟨rfl,rfl,trivial⟩
 intro i hi IH;refine Dh (fun h=>?_) (fun h=>?_)
 ·have hlt:i<s.length:=by have:=A7 h;rw[F6]at this;omega
  obtain⟨x,hx⟩:=Ab s hlt;have hd:Ce false (s.drop i)=if x==32||x==10 then 1+Ce false (s.drop (i+1))else if x==35 then 1+Ce true (s.drop (i+1))else 0:=by rw[B5 hx];rfl
  have hd2:Ce true (s.drop i)=if x==10 then 1+Ce false (s.drop (i+1))else 1+Ce true (s.drop (i+1)):=by rw[B5 hx];rfl
  refine Je i (by omega) hx ?_;refine Db (fun h2=>?_) (fun h2=>?_)
  ·have h2':(x==32)=true:=by rw[←cb];exact h2
   refine A1 ?_;exact IH (i+1) ⟨hlt,by rw[hi.2,hd,h2'];simp;omega⟩ (by omega) _ _ ⟨vsx (by omega),rfl,trivial⟩ rfl rfl rfl
  ·have h2':(x==32)=false:=by rw[←cb];exact h2
   refine Je i (by omega) hx ?_;refine Ag (fun h3=>?_) (fun h3=>?_)
   ·have h3':(x==10)=true:=by rw[←cb];exact h3
    exact IH (i+1) ⟨hlt,by rw[hi.2,hd,h2',h3'];simp;omega⟩ (by omega) _ _ ⟨vsx (by omega),rfl,trivial⟩ rfl rfl rfl
   ·have h3':(x==10)=false:=by rw[←cb];exact h3
    refine Je i (by omega) hx ?_;refine Ag (fun h4=>?_) (fun h4=>?_)
    ·have h4':(x==35)=true:=by rw[←cb];exact h4
     refine Av (ι:=Nat) 0 0 (fun j=>i≤j∧j≤s.length∧T=j+Ce true (s.drop j)) (fun j=>[(1,vi j),(0,str s)]) (fun _=>⟨[],[]⟩) (fun j=>s.length-j) ?_ i
      ⟨Bo _,hi.1,by rw[hi.2,hd,hd2,h2',h3',h4'];rfl⟩ ⟨rfl,rfl,trivial⟩
     intro j hj IH2;obtain⟨hj1,hj2,hj3⟩:=hj;refine Bj 100 rfl ?_;refine Db (fun h5=>?_) (fun h5=>?_)
     ·have hltj:j<s.length:=by have:=A7 h5;rw[F6]at this;omega
      obtain⟨y,hy⟩:=Ab s hltj;have hdj:Ce true (s.drop j)=if y==10 then 1+Ce false (s.drop (j+1))else 1+Ce true (s.drop (j+1)):=by rw[B5 hy];rfl
      have hdf:(y==10)=true→Ce false (s.drop j)=1+Ce false (s.drop (j+1)):=fun hy10=>by rw[B5 hy];simp only[Ce];rw[hy10];simp
      refine Je j (by omega) hy ?_;refine Ag (fun h6=>?_) (fun h6=>?_)
      ·have h6':(y==10)=false:=by rw[←cb];have:(!((y.toNat:Int)==10))=true:=h6;simpa using this
       exact IH2 (j+1) ⟨by omega,hltj,by rw[hj3,hdj,h6'];simp;omega⟩ (by omega) _ _ ⟨vsx (by omega),rfl,trivial⟩ rfl rfl rfl
      ·have h6':(y==10)=true:=by rw[←cb];have:(!((y.toNat:Int)==10))=false:=h6;simpa using this
       have hne:i≠j:=fun e=>by
        subst e;rw[hx]at hy;cases hy;rw[h3']at h6';cases h6'
       exact IH j ⟨hj2,by rw[hj3,hdj,h6',hdf h6'];rfl⟩ (by omega) _ _ ⟨rfl,rfl,trivial⟩ rfl rfl rfl
     ·have hje:j=s.length:=by have:=Bd h5;rw[F6]at this;omega
      refine Ah ?_;exact IH j ⟨hj2,by rw[hj3,hje,Hw];rfl⟩ (by omega) _ _ ⟨rfl,rfl,trivial⟩ rfl rfl rfl
    ·have h4':(x==35)=false:=by rw[←cb];exact h4
     refine Az func282 ?_;rw[hi.2,hd,h2',h3',h4'];rfl
 ·have hie:i=s.length:=by have:=Bd h;rw[F6]at this;omega
  refine Az func282 ?_;rw[hi.2,hie,Hw];rfl
def Gy:List UInt8→Nat
 |[]=>0
 |c::l=>if Eh c||digit c then 1+Gy l else 0
def Li(r:List UInt8):Nat:=match r with
 |[]=>0
 |c::l=>if Eh c||digit c then Gy (c::l)else match l with
  |[]=>1
  |d::_=>if has J6 [c,d]then 2 else 1
theorem A3o(s:List UInt8)(a:Nat)(ha:a<s.length)(hs:s.length≤1000000000):Pure X 283 [str s,vi a] (vi (a+Li (s.drop a):Nat)):=by
 refine Pure.run func283 ?_;generalize hT:a+Li (s.drop a)=T;obtain⟨c,hc⟩:=Ab s ha;have hd:=B5 hc;have L:(Eh c||digit c)=true→∀F,Sub [(1,vi a),(0,str s)] F→PG 283 f283 (Lj true 2 f283) F (vi T):=fun hw F hF=>by
  have hT':T=a+Gy (s.drop a):=by rw[←hT,hd];simp only[Li];rw[hw];rfl
  refine D3 ?_;refine Av (ι:=Nat) 0 0 (fun i=>i≤s.length∧T=i+Gy (s.drop i)) (fun i=>[(1,vi i),(0,str s)]) (fun _=>⟨[],[]⟩) (fun i=>s.length-i) ?_ a ⟨by omega,hT'⟩
   hF
  intro i hi IH;refine Bj 100 rfl ?_;refine Db (fun h5=>?_) (fun h5=>?_)
  ·have hlt:i<s.length:=by have:=A7 h5;rw[F6]at this;omega
   obtain⟨y,hy⟩:=Ab s hlt;have hdi:Gy (s.drop i)=if Eh y||digit y then 1+Gy (s.drop (i+1))else 0:=by rw[B5 hy];rfl
   refine Je i (by omega) hy ?_;refine Al (Yv y) ?_;refine Db (fun h6=>?_) (fun h6=>?_)
   ·refine A1 ?_;exact IH (i+1) ⟨hlt,by rw[hi.2,hdi,h6];simp;omega⟩ (by omega) _ _ ⟨vsx (by omega),rfl,trivial⟩ rfl rfl rfl
   ·refine Je i (by omega) hy ?_;refine Al (Ab3 y) ?_;refine Ag (fun h7=>?_) (fun h7=>?_)
    ·exact IH (i+1) ⟨hlt,by rw[hi.2,hdi,h7];simp;omega⟩ (by omega) _ _ ⟨vsx (by omega),rfl,trivial⟩ rfl rfl rfl
    ·refine Az func283 ?_;rw[hi.2,hdi,h6,h7];rfl
  ·have hie:i=s.length:=by have:=Bd h5;rw[F6]at this;omega
   refine Ah ?_;refine Az func283 ?_;rw[hi.2,hie,Hw];rfl
 refine Je a (by omega) hc ?_;refine Al (Yv c) ?_;refine Db (fun h1=>?_) (fun h1=>?_)
 ·refine A1 ?_;refine L (by rw[h1];rfl) _ ?_;exact⟨rfl,rfl,trivial⟩
 ·refine Je a (by omega) hc ?_;refine Al (Ab3 c) ?_;refine Ag (fun h2=>?_) (fun h2=>?_)
  ·refine L (by rw[h2];simp) _ ?_;exact⟨rfl,rfl,trivial⟩
  ·have hw1:IntKind.i64.wrap ((a:Int)+1)=(a:Int)+1:=Ac (by omega) (by omega);have hw2:IntKind.i64.wrap ((a:Int)+2)=(a:Int)+2:=Ac (by omega) (by omega);have hTT:T=a+(match s.drop (a+1)with
    |[]=>1
    |d::_=>if has J6 [c,d]then 2 else 1):=by rw[←hT,hd];simp only[Li];rw[h1,h2];rfl
   refine Db (fun h3=>?_) (fun h3=>?_)
   ·have hlt:a+1<s.length:=by have:=A7 h3;rw[hw1,F6]at this;omega
    obtain⟨d,hdd⟩:=Ab s hlt;rw[B5 hdd]at hTT;simp only at hTT;refine Bm (Pf (r:=[c,d]) rfl rfl rfl rfl rfl rfl rfl rfl ?_ ?_ ?_ ?_) ?_
    ·omega
    ·rw[hw2];omega
    ·rw[hw2];omega
    ·rw[hw2];have e1:((a:Int)+2).toNat=a+2:=by omega
     have e2:(a:Int).toNat=a:=by omega
     rw[e1,e2,List.drop_take,hd,B5 hdd];have e3:a+2-a=2:=by omega
     rw[e3];rfl
    refine Al (Atv [c,d]) ?_;refine Ag (fun h4=>?_) (fun h4=>?_)
    ·refine Az func283 ?_;rw[hTT,h4,hw2];simp[C5]
    ·refine Az func283 ?_;rw[hTT,h4,hw1];simp[C5]
   ·have hge:s.length≤a+1:=by have:=Bd h3;rw[hw1,F6]at this;omega
    refine Ah ?_;refine Az func283 ?_;rw[hTT,Ad9 hge,hw1];simp[C5]
structure Wd where
 kind:Int
 text:List UInt8
 pos:Nat
def Uz(w:Wd):List AV:=[vi w.kind,str w.text,vi w.pos]
def Hj(l:List Wd):List (List AV):=l.map Uz
theorem Dz(l:List Wd):(Hj l).length=l.length:=by simp[Hj]
theorem Ad1(l:List Wd):Ka 3 (Hj l)=true:=Ku (f:=Uz) (fun _=>rfl) l
theorem Rb{l:List Wd}{i:Nat}{w:Wd}(h:l[i]?=some w):(Hj l)[i]?=some (Uz w):=by simp[Hj,h]
instance{n m:Nat}{l:List Wd}:OKR n m (Hj l):=⟨fun r hr x hx=>by
 obtain⟨s,_,rfl⟩:=zzq68.1 hr;simp[Uz]at hx;rcases hx with rfl|rfl|rfl<;>exact .val _⟩
def Hg:Nat→Nat→List UInt8→List Wd→List Wd×Int×Nat
 |0,_,_,out=>(out,0,0)
 |f+1,a,r,out=>match r with
  |[]=>(out,0,0)
  |c::l=>
   let n:=Li (c::l)
   let t:=(c::l).take n
   let k:=Dd t
   if k==0 then([],2,a)else if out.length==1500 then([],3,a)else
    let b:=Ce false ((c::l).drop n)
    Hg f (a+n+b) ((c::l).drop (n+b)) (out++[⟨k,t,a⟩])
def C4(s:List UInt8):List Wd×Int×Nat:=
 if s.length>4000 then([],1,0)else Hg (s.length+1) (Ce false s) (s.drop (Ce false s)) []
def A2m(o:List Wd×Int×Nat):AV:=.tup [.sl (Hj o.1) .no,.agg [vi o.2.1,vi o.2.2]]
theorem Xx:∀l:List UInt8,Gy l≤l.length
 |[]=>by simp[Gy]
 |c::l=>by
  have:=Xx l;simp only[Gy,Nl];split<;>omega
theorem Ank(c:UInt8)(l:List UInt8):1≤Li (c::l)∧Li (c::l)≤(c::l).length:=by
 simp only[Li];split
 ·rename_i h;refine⟨?_,Xx _⟩;simp only[Gy];rw[if_pos h];omega
 ·cases l with
  |nil=>simp
  |cons d l=>simp only;split<;>simp
theorem Axv(s:List UInt8)(hs:s.length≤1000000000):Pure X 262 [str s] (A2m (C4 s)):=by
 refine Pure.run func262 ?_;refine Ag (fun h=>?_) (fun h=>?_)
 ·refine Au func262 ?_;have:=A7 h;rw[F6]at this;simp only[C4];rw[if_pos (by omega)];rfl
 have hlen:¬s.length>4000:=by have:=Bd h;rw[F6]at this;omega
 generalize hT:C4 s=T;have hT':T=Hg (s.length+1) (Ce false s) (s.drop (Ce false s)) []:=by rw[←hT];simp only[C4];rw[if_neg hlen]
 refine Al (Atw s 0 (Cc _) hs) ?_;refine N1 (d:=4) rfl rfl rfl ?_;have hsk:=Y2 s false;refine Av (ι:=Nat×List Wd) 1 1 (fun i=>i.1≤s.length∧i.2.length≤1500∧∃f,s.length-i.1<f∧T=Hg f i.1 (s.drop i.1) i.2) (fun i=>[(5,vi i.1),(4,.sl (Hj i.2) (.tok 0)),(0,str s),(3,.ptr 0 0 0)])
  (fun i=>⟨[[[vi 0,vi 0]]],[i.2.length]⟩) (fun i=>s.length-i.1) ?_ (Ce false s,[]) ⟨hsk,Cc _,s.length+1,by simp only;omega,hT'⟩
  ⟨by simp[lk],rfl,rfl,rfl,trivial⟩
 rintro⟨a,out⟩ ⟨ha,hout,f,hf,hTa⟩ IH;simp only at ha hout hf hTa IH⊢;refine Dh (fun h=>?_) (fun h=>?_)
 ·have hlt:a<s.length:=by have:=A7 h;rw[F6]at this;omega
  obtain⟨c,hc⟩:=Ab s hlt;have hd:=B5 hc;obtain⟨g,rfl⟩:∃g,f=g+1:=⟨f-1,by omega⟩
  obtain⟨n,hn⟩:∃n,Li (s.drop a)=n:=⟨_,rfl⟩
  have hbd:=Ank c (s.drop (a+1));rw[←hd,hn]at hbd;have hdl:(s.drop a).length=s.length-a:=by simp
  rw[hdl]at hbd;obtain⟨t,ht⟩:∃t,(s.drop a).take n=t:=⟨_,rfl⟩
  have htl:t.length≤1000000000:=by rw[←ht];simp;omega
  have hstep:T=if Dd t==0 then([],2,a)else if out.length==1500 then([],3,a)else
   Hg g (a+n+Ce false (s.drop (a+n))) (s.drop (a+n+Ce false (s.drop (a+n)))) (out++[⟨Dd t,t,a⟩]):=by
   rw[hTa]
   conv=>lhs;unfold Hg
   rw[hd];simp only;rw[←hd,hn,ht,Ad7,Ad7];rw[show a+(n+Ce false (s.drop (a+n)))=a+n+Ce false (s.drop (a+n)) by omega]
  have sub:∀{F:C3} {ops:Array Oper} {i:Nat} {o:Oper} {ty:Nat} {p:Operand} {lo hi:Option Operand} {y:Ty} (ho:ops[i]?=some o) (hw:A6 ops F o=some true) (hop:o.op=.slice ty p lo hi none)
   (hp:Dt X F p=some (str s))(hlo:Tj X F lo 0=some (a:Int))(hhi:Tj X F hi (s.length:Int)=some ((a+Li (s.drop a):Nat):Int))(hy:X.ty ty=some y)(hyk:y.k=.string){N:Nat}{S:St},Ndo X N ops i o F (str t) S S:=
   fun{F ops i o ty p lo hi y} ho hw hop hp hlo hhi hy hyk {N S}=>by
    refine Pf ho hw hop hp hlo hhi hy hyk ?_ ?_ ?_ ?_
    ·omega
    ·rw[hn];omega
    ·rw[hn];omega
    ·have e1:(((a+Li (s.drop a):Nat):Int)).toNat=a+n:=by rw[hn];omega
     have e2:(a:Int).toNat=a:=by omega
     rw[e1,e2,List.drop_take,show a+n-a=n by omega,ht]
  refine Al (A3o s a hlt hs) ?_;refine Bm (sub rfl rfl rfl rfl rfl rfl rfl rfl) ?_;refine Al (A1j t htl) ?_;refine Ag (fun h2=>?_) (fun h2=>?_)
  ·have h2':(Dd t==0)=true:=h2;refine Au func262 ?_;rw[hstep,h2'];rfl
  have h2':(Dd t==0)=false:=h2;refine Ag (fun h3=>?_) (fun h3=>?_)
  ·have h3':(out.length==1500)=true:=by
    have:(((Hj out).length:Int)==1500)=true:=h3;rw[Dz]at this;simp at this⊢;omega
   refine Au func262 ?_;rw[hstep,h2',h3'];rfl
  have h3':(out.length==1500)=false:=by
   have:(((Hj out).length:Int)==1500)=false:=h3;rw[Dz]at this;simp at this⊢;omega
  have h3'':out.length≠1500:=by simpa using h3'
  refine Bm (sub rfl rfl rfl rfl rfl rfl rfl rfl) ?_;refine Bm (Bv (res:=Hj (out++[⟨Dd t,t,a⟩])) rfl rfl rfl rfl rfl rfl rfl rfl rfl rfl rfl rfl rfl rfl (Dz out) (Ad1 out) rfl rfl rfl ?_ ?_ rfl) ?_
  ·rw[Dz];simp;omega
  ·simp[Hj,Uz]
  have hsl:a+Li (s.drop a)≤s.length:=by rw[hn];omega
  refine Al (Atw s (a+Li (s.drop a)) hsl hs) ?_;have hsk2:=Y2 (s.drop (a+n)) false;have hdl2:(s.drop (a+n)).length=s.length-(a+n):=by simp
  rw[hdl2]at hsk2;refine IH (a+n+Ce false (s.drop (a+n)),out++[⟨Dd t,t,a⟩]) ⟨by simp only;omega,by simp;omega,g,by simp only;omega,by rw[hstep,h2',h3'];rfl⟩ (by simp only;omega) _ _ ⟨?_,rfl,rfl,rfl,trivial⟩ ?_ rfl rfl
  ·rw[←hn];rfl
  ·simp[St.drop,Dz]
 ·have hae:a=s.length:=by have:=Bd h;rw[F6]at this;omega
  refine Au func262 ?_;obtain⟨g,rfl⟩:∃g,f=g+1:=⟨f-1,by omega⟩
  rw[hTa,hae,Hw];rfl
theorem Vt(n lo hi:Int):Pure X 108 [vi n,vi lo,vi hi] (vb (Bl n lo hi)):=by
 refine Pure.run func108 ?_;refine Db (fun h=>?_) (fun h=>?_)
 ·refine Az func108 ?_;simp_all [Bl,C5]
 ·refine Az func108 ?_;simp_all [Bl,C5];omega
theorem Aol(n:Int):Pure X 132 [vi n] (vb (Bl n (-1000000) 1000000)):=by
 refine Pure.run func132 ?_;refine Al (Vt n (-1000000) 1000000) ?_;exact Az func132 rfl
theorem Aqo(n m:Int)(hm:-1000000000≤m)(hm':m≤1000000000):Pure X 53 [vi n,vi m] (vb (Bl n 0 (m-1))):=by
 refine Pure.run func53 ?_;have hw:IntKind.i64.wrap (m-1)=m-1:=Ac (by omega) (by omega);have hq:=Vt n 0 (IntKind.i64.wrap (m-1));refine Al hq ?_;refine Az func53 ?_;rw[hw];rfl
theorem Adp(c:UInt8):Pure X 340 [vc c] (vb (Eh c)):=by
 refine Pure.run func340 ?_;refine Db (fun h=>?_) (fun h=>?_)
 ·refine Az func340 ?_;simp_all [Eh,Bl,C5]
 ·refine Az func340 ?_;simp_all [Eh,Bl,C5];omega
theorem Ah2(c:UInt8):Pure X 341 [vc c] (vb (digit c)):=by
 refine Pure.run func341 ?_;refine Db (fun h=>?_) (fun h=>?_)
 ·refine Az func341 ?_;simp_all [digit,Bl,C5]
 ·refine Az func341 ?_;simp_all [digit,Bl,C5];omega
def Ey:Nat→List (List UInt8)→List UInt8→Int
 |_,[],_=>-1
 |i,x::l,s=>if s==x then i else Ey (i+1) l s
theorem Ue(l:List (List UInt8)):∀(i:Nat)(s:List UInt8),decide (Ey i l s≥0)=has l s:=by
 induction l with
 |nil=>intro i s;simp[Ey,has]
 |cons x l ih=>
  intro i s;have hb:has (x::l) s=(x==s||has l s):=rfl;rw[hb,←ih (i+1) s];by_cases h:s=x
  ·subst h;simp[Ey]
  ·have h1:(s==x)=false:=by simpa using h
   have h2:(x==s)=false:=by simpa using Ne.symm h
   have:Ey i (x::l) s=Ey (i+1) l s:=by simp only[Ey];rw[if_neg (by simpa using h)]
   rw[this,h2];rfl
theorem Ab6(l:List (List UInt8))(s:List UInt8)(hl:l.length≤1000000000):Pure X 109 [.sl (Dj l) .no,str s] (vi (Ey 0 l s)):=by
 refine Pure.run func109 ?_;refine Av (ι:=Nat) 0 0 (fun i=>i≤l.length∧Ey 0 l s=Ey i (l.drop i) s) (fun i=>[(8,vi i),(7,vi l.length),(0,.sl (Dj l) .no),(1,str s)]) (fun _=>⟨[],[]⟩) (fun i=>l.length-i) ?_ 0 ⟨Cc _,rfl⟩
  ⟨rfl,by rw[←Fy];rfl,rfl,rfl,trivial⟩
 intro i hi IH;refine Dh (fun h=>?_) (fun h=>?_)
 ·have hlt:i<l.length:=by have:=A7 h;omega
  obtain⟨x,hx⟩:=Ab l hlt;have hd:Ey i (l.drop i) s=if s==x then(i:Int)else Ey (i+1) (l.drop (i+1)) s:=by rw[B5 hx];rfl
  refine B7 i (by omega) (Q5 hx) ?_;refine Ag (fun h2=>?_) (fun h2=>?_)
  ·refine Az func109 ?_;have h3:(s==x)=true:=h2;rw[hi.2,hd,h3];rfl
  ·have h3:(s==x)=false:=h2;exact IH (i+1) ⟨hlt,by rw[hi.2,hd,h3];rfl⟩ (by omega) _ _ ⟨vsx (by omega),rfl,rfl,rfl,trivial⟩ rfl rfl rfl
 ·have:i=l.length:=by have:=Bd h;omega
  refine Az func109 ?_;rw[hi.2,this,Hw];rfl
theorem Sv(l:List (List UInt8))(s:List UInt8)(hl:l.length≤1000000000):Pure X 344 [.sl (Dj l) .no,str s] (vb (has l s)):=by
 refine Pure.run func344 ?_;refine Al (Ab6 l s hl) ?_;refine Az func344 ?_;rw[←Ue l 0 s];rfl
theorem Ax5(s:List UInt8):Pure X 342 [str s] (vb (has Ug s)):=by
 refine Pure.run func342 ?_;refine Al (Sv Ug s (by decide)) ?_;exact Az func342 rfl
def rd(ws:List Wd)(a:Int)(bad:Bool):List AV:=[.sl (Hj ws) .no,vi a,vb bad]
instance{n m:Nat}{ws:List Wd}{a:Int}{b:Bool}:OKL n m (rd ws a b):=⟨fun x hx=>by
 simp[rd]at hx;rcases hx with rfl|rfl|rfl
 ·exact(inferInstance:OK n m (.sl (Hj ws) .no)).ok
 ·exact .val _
 ·exact .val _⟩
structure RS where
 ws:List Wd
 at_:Nat
 bad:Bool
def rc(r:RS):List AV:=rd r.ws r.at_ r.bad
instance{n m:Nat}{r:RS}:OKL n m (rc r):=⟨(inferInstance:OKL n m (rd r.ws r.at_ r.bad)).ok⟩
def RS.text(r:RS):List UInt8:=match r.ws[r.at_]? with
 |some w=>w.text
 |none=>[]
def RS.kind(r:RS):Int:=match r.ws[r.at_]? with
 |some w=>w.kind
 |none=>0
def RS.step(r:RS):RS:=⟨r.ws,r.at_+1,r.bad⟩
def RS.spoil(r:RS):RS:=⟨r.ws,r.at_,true⟩
def RS.takes(r:RS)(s:List UInt8):Bool:=!(r.bad||!(r.text==s))
def RS.take(r:RS)(s:List UInt8):RS:=if r.takes s then r.step else r
def RS.need(r:RS)(s:List UInt8):RS:=if r.takes s then r.step else r.spoil
def RS.named(r:RS):Bool:=!(r.bad||!(r.kind==1))
def RS.name(r:RS):List UInt8:=if r.named then r.text else[]
def RS.nameR(r:RS):RS:=if r.named then r.step else r.spoil
def RS.ok(r:RS):Prop:=r.ws.length≤1500∧r.at_≤r.ws.length
theorem Ah4(r:RS):Hands X 290 [.ptr 0 0 0] ⟨[[rc r]],[]⟩ (str r.text) ⟨[[rc r]],[]⟩:=by
 obtain⟨ws,a,b⟩:=r;refine Hands.run func290 ?_;refine Amz ?_;refine Ag (fun h=>?_) (fun h=>?_)
 ·have hlt:a<ws.length:=by have:=A7 h;simp only at this;rw[Dz]at this;omega
  obtain⟨x,hx⟩:=Ab ws hlt;refine D8 0 ?_;refine Ek (fun S'=>Cu (r:=Uz x) rfl rfl rfl rfl rfl rfl rfl rfl rfl ?_ ?_) ?_
  ·simp
  ·exact Rb hx
  refine Ft ?_;refine B6 ?_;refine Br func290 ?_ rfl;simp[RS.text,hx]
 ·have hge:¬a<ws.length:=by have:=Bd h;simp only at this;rw[Dz]at this;omega
  refine Br func290 ?_ rfl;simp[RS.text,U3 (show ws.length≤a by omega)]
theorem Amh(r:RS):Hands X 288 [.ptr 0 0 0] ⟨[[rc r]],[]⟩ (vi r.kind) ⟨[[rc r]],[]⟩:=by
 obtain⟨ws,a,b⟩:=r;refine Hands.run func288 ?_;refine Amz ?_;refine Ag (fun h=>?_) (fun h=>?_)
 ·have hlt:a<ws.length:=by have:=A7 h;simp only at this;rw[Dz]at this;omega
  obtain⟨x,hx⟩:=Ab ws hlt;refine D8 0 ?_;refine Ek (fun S'=>Cu (r:=Uz x) rfl rfl rfl rfl rfl rfl rfl rfl rfl ?_ ?_) ?_
  ·simp
  ·exact Rb hx
  refine Ft ?_;refine B6 ?_;refine Br func288 ?_ rfl;simp[RS.kind,hx]
 ·have hge:¬a<ws.length:=by have:=Bd h;simp only at this;rw[Dz]at this;omega
  refine Br func288 ?_ rfl;simp[RS.kind,U3 (show ws.length≤a by omega)]
theorem Ab7(r:RS)(hr:r.ok):rd r.ws (IntKind.i64.wrap ((r.at_:Int)+1)) r.bad=rc r.step:=by
 have:=hr.2;have:=hr.1;simp only[rc,RS.step,rd];rw[Ac (by omega) (by omega)];simp
theorem I1(r:RS)(s:List UInt8)(hr:r.ok):Hands X 285 [.ptr 0 0 0,str s] ⟨[[rc r]],[]⟩ (vb (r.takes s)) ⟨[[rc (r.take s)]],[]⟩:=by
 refine Hands.run func285 ?_;refine Db (fun h=>?_) (fun h=>?_)
 ·have h':r.bad=true:=h;refine A1 ?_;have ht:r.takes s=false:=by simp[RS.takes,h']
  have hk:r.take s=r:=by simp[RS.take,ht]
  rw[ht,hk];exact Br func285 rfl rfl
 ·have h':r.bad=false:=h;refine Ae [0] [] (Ah4 r) ?_;refine Ag (fun h2=>?_) (fun h2=>?_)
  ·have h2':(!(r.text==s))=true:=h2;have ht:r.takes s=false:=by simp only[RS.takes];rw[h',h2'];rfl
   have hk:r.take s=r:=by simp[RS.take,ht]
   rw[ht,hk];exact Br func285 rfl rfl
  ·have h2':(!(r.text==s))=false:=h2;have ht:r.takes s=true:=by simp only[RS.takes];rw[h',h2'];rfl
   have hk:r.take s=r.step:=by simp[RS.take,ht]
   rw[ht,hk,←Ab7 r hr];exact Br func285 rfl rfl
theorem If(r:RS)(s:List UInt8)(hr:r.ok):Hands X 287 [.ptr 0 0 0,str s] ⟨[[rc r]],[]⟩ (.tup []) ⟨[[rc (r.need s)]],[]⟩:=by
 refine Hands.run func287 ?_;refine Ae [0] [] (I1 r s hr) ?_;refine Ag (fun h=>?_) (fun h=>?_)
 ·have ht:r.takes s=false:=by simpa using h
  have hk:r.take s=r:=by simp[RS.take,ht]
  have hn:r.need s=r.spoil:=by simp[RS.need,ht]
  rw[hn];refine D6 func287 rfl ?_;rw[hk];rfl
 ·have ht:r.takes s=true:=by simpa using h
  have hk:r.take s=r.need s:=by simp[RS.take,RS.need,ht]
  rw[←hk];exact D6 func287 rfl rfl
theorem Aor(r:RS)(h:r.kind≠0):∃w,r.ws[r.at_]?=some w∧r.kind=w.kind∧r.text=w.text:=by
 cases hw:r.ws[r.at_]? with
 |none=>simp[RS.kind,hw]at h
 |some w=>exact⟨w,rfl,by simp[RS.kind,hw],by simp[RS.text,hw]⟩
theorem Aze(a:Nat)(ha:a≤1000000):IntKind.i64.wrap (IntKind.i64.wrap ((a:Int)+1)-1)=(a:Int):=by
 rw[Ac (n:=(a:Int)+1) (by omega) (by omega),Ac (by omega) (by omega)];omega
theorem Xm(r:RS)(hr:r.ok):Hands X 286 [.ptr 0 0 0] ⟨[[rc r]],[]⟩ (str r.name) ⟨[[rc r.nameR]],[]⟩:=by
 have bad:r.named=false→r.name=[]∧r.nameR=r.spoil:=fun h=>⟨by simp[RS.name,h],by simp[RS.nameR,h]⟩
 refine Hands.run func286 ?_;refine Db (fun h=>?_) (fun h=>?_)
 ·have h':r.bad=true:=h;obtain⟨b1,b2⟩:=bad (by simp[RS.named,h']);refine A1 ?_;rw[b1,b2];exact Br func286 rfl rfl
 ·have h':r.bad=false:=h;refine Ae [0] [] (Amh r) ?_;refine Ag (fun h2=>?_) (fun h2=>?_)
  ·have h2':(!(r.kind==1))=true:=h2;obtain⟨b1,b2⟩:=bad (by simp only[RS.named];rw[h',h2'];rfl);rw[b1,b2];exact Br func286 rfl rfl
  ·have h2':(!(r.kind==1))=false:=h2;have hn:r.named=true:=by simp only[RS.named];rw[h',h2'];rfl
   have hk:r.kind=1:=by simpa using h2'
   obtain⟨w,hw,_,hwt⟩:=Aor r (by omega);have e1:r.name=w.text:=by simp[RS.name,hn,hwt]
   have e2:r.nameR=r.step:=by simp[RS.nameR,hn]
   have hb:=Aze r.at_ (by have:=hr.2;have:=hr.1;omega);rw[e1,e2,←Ab7 r hr];refine D8 0 ?_;refine Ek (fun S'=>Cu (r:=Uz w) rfl rfl rfl rfl rfl rfl rfl rfl rfl ?_ ?_) ?_
   ·rw[hb];omega
   ·rw[hb];exact Rb hw
   refine Ft ?_;refine B6 ?_;exact Br func286 rfl rfl
abbrev nd(n:Nd):AV:=.agg (Af n)
theorem Aoe(k:Int)(a:Nd):Pure X 270 [vi k,nd a] (nd (.mk k [] 0 [a])):=by
 refine Pure.run func270 ?_;refine Au func270 ?_;show AV.agg [_,_,_,.sl _ _]=AV.agg [_,_,_,.sl (Ap [a]) _];rw[As [a]];rfl
theorem Yx(k:Int)(a b:Nd):Pure X 231 [vi k,nd a,nd b] (nd (.mk k [] 0 [a,b])):=by
 refine Pure.run func231 ?_;refine Au func231 ?_;show AV.agg [_,_,_,.sl _ _]=AV.agg [_,_,_,.sl (Ap [a,b]) _];rw[As [a,b]];rfl
def relS(s:List UInt8):Int:=if s==[60]then 11 else if s==[60,61]then 12 else if s==[62]then 13 else if s==[62,61]then 14 else if s==[61,61]then 15 else if s==[33,61]then 16 else 0
theorem A3r(s:List UInt8):Pure X 353 [str s] (vi (relS s)):=by
 refine Pure.run func353 ?_;refine Ag (fun h1=>?_) (fun h1=>?_)
 ·refine Az func353 ?_;have h1':(s==[60])=true:=h1;simp only[relS];rw[h1'];rfl
 refine Ag (fun h2=>?_) (fun h2=>?_)
 ·refine Az func353 ?_;have h1':(s==[60])=false:=h1;have h2':(s==[60,61])=true:=h2;simp only[relS];rw[h1',h2'];rfl
 refine Ag (fun h3=>?_) (fun h3=>?_)
 ·refine Az func353 ?_;have h1':(s==[60])=false:=h1;have h2':(s==[60,61])=false:=h2;have h3':(s==[62])=true:=h3;simp only[relS];rw[h1',h2',h3'];rfl
 refine Ag (fun h4=>?_) (fun h4=>?_)
 ·refine Az func353 ?_;have h1':(s==[60])=false:=h1;have h2':(s==[60,61])=false:=h2;have h3':(s==[62])=false:=h3;have h4':(s==[62,61])=true:=h4;simp only[relS];rw[h1',h2',h3',h4'];rfl
 refine Ag (fun h5=>?_) (fun h5=>?_)
 ·refine Az func353 ?_;have h1':(s==[60])=false:=h1;have h2':(s==[60,61])=false:=h2;have h3':(s==[62])=false:=h3;have h4':(s==[62,61])=false:=h4;have h5':(s==[61,61])=true:=h5;simp only[relS];rw[h1',h2',h3',h4',h5'];rfl
 have h1':(s==[60])=false:=h1;have h2':(s==[60,61])=false:=h2;have h3':(s==[62])=false:=h3;have h4':(s==[62,61])=false:=h4;have h5':(s==[61,61])=false:=h5;refine Ag (fun h6=>?_) (fun h6=>?_)
 ·refine Az func353 ?_;have h6':(s==[33,61])=true:=h6;simp only[relS];rw[h1',h2',h3',h4',h5',h6'];rfl
 ·refine Az func353 ?_;have h6':(s==[33,61])=false:=h6;simp only[relS];rw[h1',h2',h3',h4',h5',h6'];rfl
def Cg:Nd:=.mk 0 [] 0 []
mutual
def Fc:Nat→RS→Nd×RS
 |0,r=>(Cg,r)
 |f+1,r=>
  if r.bad then(Cg,r)
  else if r.takes [45]then(.mk 5 [] 0 [(Fc f r.step).1],(Fc f r.step).2)
  else if r.kind==2 then(.mk 1 [] (Dn r.text) [],r.step)
  else if r.takes [40]then((Ev f r.step).1,(Ev f r.step).2.need [41])
  else if r.takes [108,101,110]then(.mk 4 (r.step.need [40]).name 0 [],(r.step.need [40]).nameR.need [41])
  else if r.nameR.takes [91]then(.mk 3 r.name 0 [(Ev f r.nameR.step).1],(Ev f r.nameR.step).2.need [93])
  else(.mk 2 r.name 0 [],r.nameR)
def Ed:Nat→RS→Nd×RS
 |0,r=>(Cg,r)
 |f+1,r=>Hv f (Fc f r).1 (Fc f r).2
def Hv:Nat→Nd→RS→Nd×RS
 |0,x,r=>(x,r)
 |f+1,x,r=>if r.takes [42]then Hv f (.mk 8 [] 0 [x,(Fc f r.step).1]) (Fc f r.step).2 else(x,r)
def Ev:Nat→RS→Nd×RS
 |0,r=>(Cg,r)
 |f+1,r=>G5 f (Ed f r).1 (Ed f r).2
def G5:Nat→Nd→RS→Nd×RS
 |0,x,r=>(x,r)
 |f+1,x,r=>
  if r.takes [43]then G5 f (.mk 6 [] 0 [x,(Ed f r.step).1]) (Ed f r.step).2
  else if r.takes [45]then G5 f (.mk 7 [] 0 [x,(Ed f r.step).1]) (Ed f r.step).2
  else(x,r)
end
def RS.after(r r':RS):Prop:=r'.ws=r.ws∧r.at_≤r'.at_∧r'.at_≤r'.ws.length
theorem Fa{r:RS}(h:r.ok):r.after r:=⟨rfl,Bo _,h.2⟩
theorem RS.after.ok{r r':RS}(h:r.after r')(hr:r.ok):r'.ok:=⟨by rw[h.1];exact hr.1,h.2.2⟩
theorem RS.after.trans{r r' r'':RS}(h:r.after r')(k:r'.after r''):r.after r'':=⟨k.1.trans h.1,Nt h.2.1 k.2.1,k.2.2⟩
theorem Aoz{r:RS}(h:r.text≠[]):r.at_<r.ws.length:=by
 rcases Gu r.at_ r.ws.length with h'|h'
 ·exact h'
 ·exact absurd (by simp[RS.text,U3 h']) h
theorem Sd{r:RS}(h:r.kind≠0):r.at_<r.ws.length:=by
 rcases Gu r.at_ r.ws.length with h'|h'
 ·exact h'
 ·exact absurd (by simp[RS.kind,U3 h']) h
theorem Ay{r:RS}{s:List UInt8}(h:r.takes s=true)(hs:s≠[]):r.at_<r.ws.length∧r.text=s∧r.bad=false:=by
 simp only[RS.takes,Mh,Pb,Age,zzq56]at h;exact⟨Aoz (by rw[h.2];exact hs),h.2,h.1⟩
theorem Aj{r:RS}(h:r.at_<r.ws.length):r.after r.step:=⟨rfl,Nat.le_succ _,h⟩
theorem Pq{r:RS}(h:r.ok):r.after r.spoil:=⟨rfl,Bo _,h.2⟩
theorem Bb{r:RS}{s:List UInt8}(h:r.ok)(hs:s≠[]):r.after (r.need s):=by
 simp only[RS.need];split
 ·rename_i ht;exact Aj (Ay ht hs).1
 ·exact Pq h
theorem Cv{r:RS}(h:r.ok):r.after r.nameR:=by
 simp only[RS.nameR];split
 ·rename_i ht;simp only[RS.named,Mh,Pb,Age,zzq56]at ht;exact Aj (Sd (by omega))
 ·exact Pq h
theorem Fh:∀(f:Nat),(∀r:RS,r.ok→r.after (Fc f r).2)∧(∀r:RS,r.ok→r.after (Ed f r).2)∧(∀(x:Nd)(r:RS),r.ok→r.after (Hv f x r).2)∧(∀r:RS,r.ok→r.after (Ev f r).2)∧(∀(x:Nd)(r:RS),r.ok→r.after (G5 f x r).2):=by
 intro f
 induction f with
 |zero=>exact⟨fun r h=>by simp only[Fc];exact Fa h,fun r h=>by simp only[Ed];exact Fa h,fun x r h=>by simp only[Hv];exact Fa h,fun r h=>by simp only[Ev];exact Fa h,fun x r h=>by simp only[G5];exact Fa h⟩
 |succ f ih=>
  obtain⟨i1,i2,i3,i4,i5⟩:=ih;refine⟨fun r h=>?_,fun r h=>?_,fun x r h=>?_,fun r h=>?_,fun x r h=>?_⟩
  ·simp only[Fc];split
   ·exact Fa h
   split
   ·rename_i ht;have a:=Aj (Ay ht (by simp)).1;exact a.trans (i1 _ (a.ok h))
   split
   ·rename_i hk
    exact Aj (Sd (by have:r.kind=2:=by simpa using hk
                     omega))
   split
   ·rename_i ht;have a:=Aj (Ay ht (by simp)).1;have b:=a.trans (i4 _ (a.ok h));exact b.trans (Bb (b.ok h) (by simp))
   split
   ·rename_i ht;have a:=Aj (Ay ht (by simp)).1;have b:=a.trans (Bb (s:=[40]) (a.ok h) (by simp));have c:=b.trans (Cv (b.ok h));exact c.trans (Bb (c.ok h) (by simp))
   have a:=Cv h;split
   ·rename_i ht;have b:=a.trans (Aj (Ay ht (by simp)).1);have c:=b.trans (i4 _ (b.ok h));exact c.trans (Bb (c.ok h) (by simp))
   ·exact a
  ·simp only[Ed];have a:=i1 r h;exact a.trans (i3 _ _ (a.ok h))
  ·simp only[Hv];split
   ·rename_i ht;have a:=Aj (Ay ht (by simp)).1;have b:=a.trans (i1 _ (a.ok h));exact b.trans (i3 _ _ (b.ok h))
   ·exact Fa h
  ·simp only[Ev];have a:=i2 r h;exact a.trans (i5 _ _ (a.ok h))
  ·simp only[G5];split
   ·rename_i ht;have a:=Aj (Ay ht (by simp)).1;have b:=a.trans (i2 _ (a.ok h));exact b.trans (i5 _ _ (b.ok h))
   split
   ·rename_i ht;have a:=Aj (Ay ht (by simp)).1;have b:=a.trans (i2 _ (a.ok h));exact b.trans (i5 _ _ (b.ok h))
   ·exact Fa h
abbrev zN:List AV:=[vi 0,str [],vi 0,.sl [] .tight]
def RS.left(r:RS):Nat:=r.ws.length-r.at_
theorem Bf{r r':RS}(h:r.after r'):r'.left≤r.left:=by have:=h.1;have:=h.2.1;simp only[RS.left,h.1];omega
theorem Cb{r:RS}(h:r.at_<r.ws.length):r.step.left+1=r.left:=by simp only[RS.left,RS.step];omega
def Avt(f:Nat):Prop:=∀r:RS,r.ok→4*r.left+1≤f→Hands X 368 [.ptr 0 0 0] ⟨[[rc r]],[]⟩ (nd (Fc f r).1) ⟨[[rc (Fc f r).2]],[]⟩
def Arw(f:Nat):Prop:=∀r:RS,r.ok→4*r.left+2≤f→Hands X 354 [.ptr 0 0 0] ⟨[[rc r]],[]⟩ (nd (Ed f r).1) ⟨[[rc (Ed f r).2]],[]⟩
def Art(f:Nat):Prop:=∀r:RS,r.ok→4*r.left+3≤f→Hands X 331 [.ptr 0 0 0] ⟨[[rc r]],[]⟩ (nd (Ev f r).1) ⟨[[rc (Ev f r).2]],[]⟩
theorem A1z(f:Nat)(ih:∀g,g<f→Avt g):Arw f:=by
 intro r hr hf;obtain⟨g,rfl⟩:∃g,f=g+1:=⟨f-1,by omega⟩
 have a1:=(Fh g).1 r hr;have l1:=Bf a1;refine Hands.run func354 ?_;refine Ae [0] [] (ih g (by omega) r hr (by omega)) ?_;obtain⟨x0,hx0⟩:∃x0,(Fc g r).1=x0:=⟨_,rfl⟩
 obtain⟨r0,hr0⟩:∃r0,(Fc g r).2=r0:=⟨_,rfl⟩
 have hT:Ed (g+1) r=Hv g x0 r0:=by simp only[Ed];rw[hx0,hr0]
 rw[hT,hx0,hr0];rw[hr0]at a1 l1;generalize hTT:Hv g x0 r0=T;refine Av (ι:=Nat×Nd×RS) 3 0 (fun i=>i.2.2.ok∧4*i.2.2.left+1≤i.1∧i.1≤g∧T=Hv i.1 i.2.1 i.2.2) (fun i=>[(0,.ptr 0 0 0),(2,.ptr 1 0 0),(3,.ptr 2 0 0)])
  (fun i=>⟨[[rc i.2.2],[zN],[Af i.2.1]],[]⟩) (fun i=>i.1) ?_ (g,x0,r0) ⟨a1.ok hr,by simp only;omega,Bo _,hTT.symm⟩ ⟨rfl,rfl,rfl,trivial⟩
 rintro⟨n,x,q⟩ ⟨hq,hn,hng,hTn⟩ IH;simp only at hq hn hng hTn IH⊢;obtain⟨m,rfl⟩:∃m,n=m+1:=⟨n-1,by omega⟩
 refine Bj 100 rfl ?_;refine Ae [0] [] (I1 q [42] hq) ?_;refine Ag (fun h=>?_) (fun h=>?_)
 ·have ht:=Ay h (by simp);have hk:q.take [42]=q.step:=by simp[RS.take,h]
  have asx:=Aj ht.1;have ls:=Cb ht.1;have ao:=(Fh m).1 q.step (asx.ok hq);have lo:=Bf ao;rw[hk];refine Ae [0] [] (ih m (by omega) q.step (asx.ok hq) (by omega)) ?_;refine Al (Yx 8 x (Fc m q.step).1) ?_;refine IH (m,.mk 8 [] 0 [x,(Fc m q.step).1],(Fc m q.step).2) ⟨ao.ok (asx.ok hq),by simp only;omega,by simp only;omega,?_⟩ (by simp only;omega) _ _ ⟨rfl,rfl,rfl,trivial⟩ rfl rfl rfl;rw[hTn];simp only[Hv];rw[if_pos h]
 ·have hk:q.take [42]=q:=by simp[RS.take,h]
  have:T=(x,q):=by rw[hTn];simp only[Hv];rw[if_neg (by simp[h])]
  rw[this,hk];exact Br func354 rfl rfl
theorem A1u(f:Nat)(ih:∀g,g<f→Arw g):Art f:=by
 intro r hr hf;obtain⟨g,rfl⟩:∃g,f=g+1:=⟨f-1,by omega⟩
 have a1:=(Fh g).2.1 r hr;have l1:=Bf a1;refine Hands.run func331 ?_;refine Ae [0] [] (ih g (by omega) r hr (by omega)) ?_;obtain⟨x0,hx0⟩:∃x0,(Ed g r).1=x0:=⟨_,rfl⟩
 obtain⟨r0,hr0⟩:∃r0,(Ed g r).2=r0:=⟨_,rfl⟩
 have hT:Ev (g+1) r=G5 g x0 r0:=by simp only[Ev];rw[hx0,hr0]
 rw[hT,hx0,hr0];rw[hr0]at a1 l1;generalize hTT:G5 g x0 r0=T;refine Av (ι:=Nat×Nd×RS) 3 0 (fun i=>i.2.2.ok∧4*i.2.2.left+1≤i.1∧i.1≤g∧T=G5 i.1 i.2.1 i.2.2) (fun i=>[(0,.ptr 0 0 0),(2,.ptr 1 0 0),(3,.ptr 2 0 0)])
  (fun i=>⟨[[rc i.2.2],[zN],[Af i.2.1]],[]⟩) (fun i=>i.1) ?_ (g,x0,r0) ⟨a1.ok hr,by simp only;omega,Bo _,hTT.symm⟩ ⟨rfl,rfl,rfl,trivial⟩
 rintro⟨n,x,q⟩ ⟨hq,hn,hng,hTn⟩ IH;simp only at hq hn hng hTn IH⊢;obtain⟨m,rfl⟩:∃m,n=m+1:=⟨n-1,by omega⟩
 refine Bj 100 rfl ?_;refine Ae [0] [] (I1 q [43] hq) ?_;refine Ag (fun h=>?_) (fun h=>?_)
 ·have ht:=Ay h (by simp);have hk:q.take [43]=q.step:=by simp[RS.take,h]
  have asx:=Aj ht.1;have ls:=Cb ht.1;have ao:=(Fh m).2.1 q.step (asx.ok hq);have lo:=Bf ao;rw[hk];refine Ae [0] [] (ih m (by omega) q.step (asx.ok hq) (by omega)) ?_;refine Al (Yx 6 x (Ed m q.step).1) ?_;refine IH (m,.mk 6 [] 0 [x,(Ed m q.step).1],(Ed m q.step).2) ⟨ao.ok (asx.ok hq),by simp only;omega,by simp only;omega,?_⟩ (by simp only;omega) _ _ ⟨rfl,rfl,rfl,trivial⟩ rfl rfl rfl;rw[hTn];simp only[G5];rw[if_pos h]
 have hk:q.take [43]=q:=by simp[RS.take,h]
 rw[hk];refine Ae [0] [] (I1 q [45] hq) ?_;refine Ag (fun h2=>?_) (fun h2=>?_)
 ·have ht:=Ay h2 (by simp);have hk:q.take [45]=q.step:=by simp[RS.take,h2]
  have asx:=Aj ht.1;have ls:=Cb ht.1;have ao:=(Fh m).2.1 q.step (asx.ok hq);have lo:=Bf ao;rw[hk];refine Ae [0] [] (ih m (by omega) q.step (asx.ok hq) (by omega)) ?_;refine Al (Yx 7 x (Ed m q.step).1) ?_;refine IH (m,.mk 7 [] 0 [x,(Ed m q.step).1],(Ed m q.step).2) ⟨ao.ok (asx.ok hq),by simp only;omega,by simp only;omega,?_⟩ (by simp only;omega) _ _ ⟨rfl,rfl,rfl,trivial⟩ rfl rfl rfl;rw[hTn];simp only[G5];rw[if_neg (by simp[h]),if_pos h2]
 ·have hk:q.take [45]=q:=by simp[RS.take,h2]
  have:T=(x,q):=by rw[hTn];simp only[G5];rw[if_neg (by simp[h]),if_neg (by simp[h2])]
  rw[this,hk];exact Br func331 rfl rfl
theorem A3z(f:Nat)(ih:∀g,g<f→Avt g)(ihe:∀g,g<f→Art g):Avt f:=by
 intro r hr hf;obtain⟨g,rfl⟩:∃g,f=g+1:=⟨f-1,by omega⟩
 refine Hands.run func368 ?_;refine Ag (fun h=>?_) (fun h=>?_)
 ·have h':r.bad=true:=h;have hT:Fc (g+1) r=(Cg,r):=by simp only[Fc];rw[if_pos h']
  rw[hT];exact Br func368 rfl rfl
 have h':r.bad=false:=h;refine Ae [0] [] (I1 r [45] hr) ?_;refine Ag (fun h1=>?_) (fun h1=>?_)
 ·have ht:=Ay h1 (by simp);have hk:r.take [45]=r.step:=by simp[RS.take,h1]
  have asx:=Aj ht.1;have ls:=Cb ht.1;have hT:Fc (g+1) r=(.mk 5 [] 0 [(Fc g r.step).1],(Fc g r.step).2):=by simp only[Fc];rw[if_neg (by simp[h']),if_pos h1]
  rw[hk,hT];refine Ae [0] [] (ih g (by omega) r.step (asx.ok hr) (by omega)) ?_;refine Al (Aoe 5 (Fc g r.step).1) ?_;exact Br func368 rfl rfl
 have hk1:r.take [45]=r:=by simp[RS.take,h1]
 rw[hk1];refine Ae [0] [] (Amh r) ?_;refine Ag (fun h2=>?_) (fun h2=>?_)
 ·have h2':r.kind=2:=by have:(r.kind==2)=true:=h2;simpa using this
  obtain⟨w,hw,_,hwt⟩:=Aor r (by omega);have hT:Fc (g+1) r=(.mk 1 [] (Dn w.text) [],r.step):=by simp only[Fc];rw[if_neg (by simp[h']),if_neg (by simp[h1]),if_pos (by simp[h2']),hwt]
  have hb:=Aze r.at_ (by have:=hr.2;have:=hr.1;omega);rw[hT,←Ab7 r hr];refine D8 16384 ?_;refine Ek (fun S'=>Cu (r:=Uz w) rfl rfl rfl rfl rfl rfl rfl rfl rfl ?_ ?_) ?_
  ·rw[hb];omega
  ·rw[hb];exact Rb hw
  refine Ft ?_;refine Ja (Adk w.text) ?_;refine Ar ?_;refine Ch (A8 rfl rfl rfl rfl rfl rfl rfl) ?_;refine B6 ?_;exact Br func368 rfl rfl
 have h2':¬(r.kind==2)=true:=by have:(r.kind==2)=false:=h2;simp[this]
 refine Ae [0] [] (I1 r [40] hr) ?_;refine Ag (fun h3=>?_) (fun h3=>?_)
 ·have ht:=Ay h3 (by simp);have hk:r.take [40]=r.step:=by simp[RS.take,h3]
  have asx:=Aj ht.1;have ls:=Cb ht.1;have ae:=asx.trans ((Fh g).2.2.2.1 r.step (asx.ok hr));have hT:Fc (g+1) r=((Ev g r.step).1,(Ev g r.step).2.need [41]):=by simp only[Fc];rw[if_neg (by simp[h']),if_neg (by simp[h1]),if_neg h2',if_pos h3]
  rw[hk,hT];refine Ae [0] [] (ihe g (by omega) r.step (asx.ok hr) (by omega)) ?_;refine Ae [0] [] (If (Ev g r.step).2 [41] (ae.ok hr)) ?_;exact Br func368 rfl rfl
 have hk3:r.take [40]=r:=by simp[RS.take,h3]
 rw[hk3];refine Ae [0] [] (I1 r [108,101,110] hr) ?_;refine Ag (fun h4=>?_) (fun h4=>?_)
 ·have ht:=Ay h4 (by simp);have hk:r.take [108,101,110]=r.step:=by simp[RS.take,h4]
  have asx:=Aj ht.1;have a2:=asx.trans (Bb (s:=[40]) (asx.ok hr) (by simp));have a3:=a2.trans (Cv (a2.ok hr));have hT:Fc (g+1) r=(.mk 4 (r.step.need [40]).name 0 [],(r.step.need [40]).nameR.need [41]):=by simp only[Fc];rw[if_neg (by simp[h']),if_neg (by simp[h1]),if_neg h2',if_neg (by simp[h3]),if_pos h4]
  rw[hk,hT];refine Ae [0] [] (If r.step [40] (asx.ok hr)) ?_;refine Ae [0] [] (Xm (r.step.need [40]) (a2.ok hr)) ?_;refine Ae [0] [] (If (r.step.need [40]).nameR [41] (a3.ok hr)) ?_;exact Br func368 rfl rfl
 have hk4:r.take [108,101,110]=r:=by simp[RS.take,h4]
 rw[hk4];have an:=Cv hr;have ln:=Bf an;refine Ae [0] [] (Xm r hr) ?_;refine Ae [0] [] (I1 r.nameR [91] (an.ok hr)) ?_;refine Ag (fun h5=>?_) (fun h5=>?_)
 ·have ht:=Ay h5 (by simp);have hk:r.nameR.take [91]=r.nameR.step:=by simp[RS.take,h5]
  have asx:=Aj ht.1;have ls:=Cb ht.1;have a2:=an.trans asx;have ae:=a2.trans ((Fh g).2.2.2.1 r.nameR.step (a2.ok hr));have hT:Fc (g+1) r=(.mk 3 r.name 0 [(Ev g r.nameR.step).1],(Ev g r.nameR.step).2.need [93]):=by
   simp only[Fc];rw[if_neg (by simp[h']),if_neg (by simp[h1]),if_neg h2',if_neg (by simp[h3]),if_neg (by simp[h4]),if_pos h5]
  rw[hk,hT];refine Ae [0] [] (ihe g (by omega) r.nameR.step (a2.ok hr) (by omega)) ?_;refine Al (Aoe 3 (Ev g r.nameR.step).1) ?_;refine Ae [0] [] (If (Ev g r.nameR.step).2 [93] (ae.ok hr)) ?_;exact Br func368 rfl rfl
 ·have hk:r.nameR.take [91]=r.nameR:=by simp[RS.take,h5]
  have hT:Fc (g+1) r=(.mk 2 r.name 0 [],r.nameR):=by
   simp only[Fc];rw[if_neg (by simp[h']),if_neg (by simp[h1]),if_neg h2',if_neg (by simp[h3]),if_neg (by simp[h4]),if_neg (by simp[h5])]
  rw[hk,hT];exact Br func368 rfl rfl
theorem Aye:∀f,Avt f∧Arw f∧Art f:=by
 intro f
 induction f using Nat.strongRecOn with
 |ind f ih=>
  exact⟨A3z f (fun g h=>(ih g h).1) (fun g h=>(ih g h).2.2),A1z f (fun g h=>(ih g h).1),A1u f (fun g h=>(ih g h).2.1)⟩
def B9(r:RS):Nd×RS:=Ev 6010 r
theorem Ca{r:RS}(h:r.ok):r.after (B9 r).2:=(Fh 6010).2.2.2.1 r h
theorem Sx(r:RS)(h:r.ok):Hands X 331 [.ptr 0 0 0] ⟨[[rc r]],[]⟩ (nd (B9 r).1) ⟨[[rc (B9 r).2]],[]⟩:=
 (Aye 6010).2.2 r h (by have:=h.1;simp only[RS.left];omega)
def Dk(r:RS):Nd×RS:=
 if (B9 r).2.bad||relS (B9 r).2.text==0 then(Cg,(B9 r).2.spoil)
 else(.mk (relS (B9 r).2.text) [] 0 [(B9 r).1,(B9 (B9 r).2.step).1],(B9 (B9 r).2.step).2)
theorem Vu{r:RS}(h:relS r.text≠0):r.at_<r.ws.length:=Aoz fun e=>h (by rw[e];rfl)
theorem Dw{r:RS}(h:r.ok):r.after (Dk r).2:=by
 have a:=Ca h;simp only[Dk];split
 ·exact a.trans (Pq (a.ok h))
 ·rename_i hc;simp only[O9,not_or,zzq56]at hc;have b:=a.trans (Aj (Vu hc.2));exact b.trans (Ca (b.ok h))
theorem Ame(r:RS)(hr:r.ok):Hands X 329 [.ptr 0 0 0] ⟨[[rc r]],[]⟩ (nd (Dk r).1) ⟨[[rc (Dk r).2]],[]⟩:=by
 have a:=Ca hr;refine Hands.run func329 ?_;refine Ae [0] [] (Sx r hr) ?_;obtain⟨x,hx⟩:∃x,(B9 r).1=x:=⟨_,rfl⟩
 obtain⟨q,hq⟩:∃q,(B9 r).2=q:=⟨_,rfl⟩
 have hT:Dk r=if q.bad||relS q.text==0 then(Cg,q.spoil)else(.mk (relS q.text) [] 0 [x,(B9 q.step).1],(B9 q.step).2):=by simp only[Dk];rw[hx,hq]
 rw[hT,hx,hq];rw[hq]at a;refine Ae [0] [] (Ah4 q) ?_;refine Al (A3r q.text) ?_;refine Db (fun h=>?_) (fun h=>?_)
 ·have h':q.bad=true:=h;refine A1 ?_;rw[if_pos (by simp[h'])];exact Br func329 rfl rfl
 have h':q.bad=false:=h;refine Ag (fun h2=>?_) (fun h2=>?_)
 ·have h2':(relS q.text==0)=true:=h2;rw[if_pos (by simp only[h',h2'];rfl)];exact Br func329 rfl rfl
 ·have h2':(relS q.text==0)=false:=h2;have hne:relS q.text≠0:=by simpa using h2'
  have b:=a.trans (Aj (Vu hne));have qo:=a.ok hr;rw[if_neg (by simp only[h',h2'];decide)];have hw:rd q.ws (IntKind.i64.wrap ((q.at_:Int)+1)) q.bad=rc q.step:=Ab7 q qo;have hrun:=Sx q.step (b.ok hr);rw[←hw]at hrun;refine Ae [0] [] hrun ?_;refine Al (Yx (relS q.text) x (B9 q.step).1) ?_;exact Br func329 rfl rfl
abbrev V3:List UInt8:=[105,102]
abbrev Ir:List UInt8:=[101,108,115,101]
abbrev Gp:List UInt8:=[119,104,105,108,101]
abbrev L8:List UInt8:=[102,111,114]
abbrev Jl:List UInt8:=[102,114,111,109]
abbrev wTo:List UInt8:=[116,111]
abbrev F7:List UInt8:=[99,104,101,99,107]
abbrev Is:List UInt8:=[114,101,97,100]
abbrev Ix:List UInt8:=[115,107,105,112]
abbrev I4:List UInt8:=[115,116,111,112]
abbrev Nk:List UInt8:=[118,97,114]
abbrev Ff:List UInt8:=[97,114,114,97,121]
def Qz(r:RS):Nd×RS:=
 if r.nameR.takes [91]then
  (.mk 22 r.name 0 [(B9 r.nameR.step).1,(B9 (((B9 r.nameR.step).2.need [93]).need [61])).1],(B9 (((B9 r.nameR.step).2.need [93]).need [61])).2)
 else(.mk 21 r.name 0 [(B9 (r.nameR.need [61])).1],(B9 (r.nameR.need [61])).2)
def C1(r:RS):Nd×RS:=
 if r.takes F7 then(.mk 27 [] 0 [(Dk r.step).1],(Dk r.step).2)
 else if r.takes Is then(.mk 23 r.step.name 0 [],r.step.nameR)
 else if r.takes Ix then(.mk 28 [] 0 [],r.step)
 else if r.takes I4 then(.mk 29 [] 0 [],r.step)
 else Qz r
def Yk(r:RS):RS:=r.nameR.need Jl
def Z3(r:RS):RS:=(B9 (Yk r)).2.need wTo
mutual
def C9:Nat→RS→Nd×RS
 |0,r=>(Cg,r)
 |f+1,r=>
  if r.takes V3 then
   if (Cs f (Dk r.step).2).2.takes Ir then
    (.mk 24 [] 0 [(Dk r.step).1,(Cs f (Dk r.step).2).1,(Cs f (Cs f (Dk r.step).2).2.step).1],(Cs f (Cs f (Dk r.step).2).2.step).2)
   else(.mk 24 [] 0 [(Dk r.step).1,(Cs f (Dk r.step).2).1,.mk 30 [] 0 []],(Cs f (Dk r.step).2).2)
  else if r.takes Gp then(.mk 25 [] 0 [(Dk r.step).1,(Cs f (Dk r.step).2).1],(Cs f (Dk r.step).2).2)
  else if r.takes L8 then
   (.mk 26 r.step.name 0 [(B9 (Yk r.step)).1,(B9 (Z3 r.step)).1,(Cs f (B9 (Z3 r.step)).2).1],(Cs f (B9 (Z3 r.step)).2).2)
  else((C1 r).1,(C1 r).2.need [59])
def Cs:Nat→RS→Nd×RS
 |0,r=>(Cg,r)
 |f+1,r=>(.mk 30 [] 0 (D7 f [] (r.need [123])).1,(D7 f [] (r.need [123])).2.need [125])
def D7:Nat→List Nd→RS→List Nd×RS
 |0,acc,r=>(acc,r)
 |f+1,acc,r=>if !r.bad&&decide (r.at_<r.ws.length)&&!(r.text==[125])then D7 f (acc++[(C9 f r).1]) (C9 f r).2 else(acc,r)
end
theorem Aml{r:RS}(h:r.ok):r.after (Qz r).2:=by
 have a:=Cv h;simp only[Qz];split
 ·rename_i ht;have b:=a.trans (Aj (Ay ht (by simp)).1);have c:=b.trans (Ca (b.ok h));have d:=c.trans (Bb (s:=[93]) (c.ok h) (by simp));have e:=d.trans (Bb (s:=[61]) (d.ok h) (by simp));exact e.trans (Ca (e.ok h))
 ·have b:=a.trans (Bb (s:=[61]) (a.ok h) (by simp));exact b.trans (Ca (b.ok h))
theorem P1{r:RS}(h:r.ok):r.after (C1 r).2:=by
 simp only[C1];split
 ·rename_i ht;have b:=Aj (Ay ht (by simp)).1;exact b.trans (Dw (b.ok h))
 split
 ·rename_i ht;have b:=Aj (Ay ht (by simp)).1;exact b.trans (Cv (b.ok h))
 split
 ·rename_i ht;exact Aj (Ay ht (by simp)).1
 split
 ·rename_i ht;exact Aj (Ay ht (by simp)).1
 exact Aml h
theorem R6{r:RS}(h:r.ok):r.after (Yk r):=by
 have a:=Cv h;exact a.trans (Bb (a.ok h) (by simp))
theorem Kx{r:RS}(h:r.ok):r.after (Z3 r):=by
 have a:=R6 h;have b:=a.trans (Ca (a.ok h));exact b.trans (Bb (b.ok h) (by simp))
theorem Fx:∀(f:Nat),(∀r:RS,r.ok→r.after (C9 f r).2)∧(∀r:RS,r.ok→r.after (Cs f r).2)∧(∀(acc:List Nd)(r:RS),r.ok→r.after (D7 f acc r).2):=by
 intro f
 induction f with
 |zero=>exact⟨fun r h=>by simp only[C9];exact Fa h,fun r h=>by simp only[Cs];exact Fa h,fun x r h=>by simp only[D7];exact Fa h⟩
 |succ f ih=>
  obtain⟨i1,i2,i3⟩:=ih;refine⟨fun r h=>?_,fun r h=>?_,fun acc r h=>?_⟩
  ·simp only[C9];split
   ·rename_i ht;have b:=Aj (Ay ht (by simp)).1;have c:=b.trans (Dw (b.ok h));have d:=c.trans (i2 _ (c.ok h));split
    ·rename_i ht2;have e:=d.trans (Aj (Ay ht2 (by simp)).1);exact e.trans (i2 _ (e.ok h))
    ·exact d
   split
   ·rename_i ht;have b:=Aj (Ay ht (by simp)).1;have c:=b.trans (Dw (b.ok h));exact c.trans (i2 _ (c.ok h))
   split
   ·rename_i ht;have b:=Aj (Ay ht (by simp)).1;have c:=b.trans (Kx (b.ok h));have d:=c.trans (Ca (c.ok h));exact d.trans (i2 _ (d.ok h))
   ·have a:=P1 h;exact a.trans (Bb (a.ok h) (by simp))
  ·simp only[Cs];have a:=Bb (s:=[123]) h (by simp);have b:=a.trans (i3 [] _ (a.ok h));exact b.trans (Bb (b.ok h) (by simp))
  ·simp only[D7];split
   ·have a:=i1 r h;exact a.trans (i3 _ _ (a.ok h))
   ·exact Fa h
def Arv(f:Nat):Prop:=∀r:RS,r.ok→3*r.left+1≤f→f≤100000→Hands X 312 [.ptr 0 0 0] ⟨[[rc r]],[]⟩ (nd (C9 f r).1) ⟨[[rc (C9 f r).2]],[]⟩
def Aks(f:Nat):Prop:=∀r:RS,r.ok→3*r.left+3≤f→f≤100000→Hands X 330 [.ptr 0 0 0] ⟨[[rc r]],[]⟩ (nd (Cs f r).1) ⟨[[rc (Cs f r).2]],[]⟩
def Aru(f:Nat):Prop:=∀r:RS,r.ok→3*r.left+2≤f→f≤100000→Hands X 291 [.ptr 0 0 0] ⟨[[rc r]],[]⟩ (nd (.mk 30 [] 0 (D7 f [] r).1)) ⟨[[rc (D7 f [] r).2]],[]⟩
theorem Ayd(f:Nat)(ih:∀g,g<f→Aru g):Aks f:=by
 intro r hr hf hF;obtain⟨g,rfl⟩:∃g,f=g+1:=⟨f-1,by omega⟩
 have a:=Bb (s:=[123]) hr (by simp);have la:=Bf a;have b:=a.trans ((Fx g).2.2 [] _ (a.ok hr));refine Hands.run func330 ?_;simp only[Cs];refine Ae [0] [] (If r [123] hr) ?_;refine Ae [0] [] (ih g (by omega) (r.need [123]) (a.ok hr) (by omega) (by omega)) ?_;refine Ae [0] [] (If (D7 g [] (r.need [123])).2 [125] (b.ok hr)) ?_;exact Br func330 rfl rfl
theorem Lf(k:Int)(s:List UInt8)(m:Int)(ks:List Nd):nd (.mk k s m ks)=.agg [vi k,str s,vi m,.sl (ks.map Af) .no]:=by
 show AV.agg [_,_,_,.sl (Ap ks) _]=_;rw[As];rfl
theorem A1y(f:Nat)(ihb:∀g,g<f→Aks g):Arv f:=by
 intro r hr hf hF;obtain⟨g,rfl⟩:∃g,f=g+1:=⟨f-1,by omega⟩
 refine Hands.run func312 ?_;refine Ae [0] [] (I1 r V3 hr) ?_;refine Ag (fun h1=>?_) (fun h1=>?_)
 ·have ht:=Ay h1 (by simp);have hk:r.take V3=r.step:=by simp[RS.take,h1]
  have a:=Aj ht.1;have ls:=Cb ht.1;have c:=a.trans (Dw (a.ok hr));have lc:=Bf (Dw (a.ok hr));have d:=c.trans ((Fx g).2.1 _ (c.ok hr));have ld:=Bf ((Fx g).2.1 _ (c.ok hr));simp only[C9];rw[if_pos h1,hk];refine Ae [0] [] (Ame r.step (a.ok hr)) ?_;refine Ae [0] [] (ihb g (by omega) (Dk r.step).2 (c.ok hr) (by omega) (by omega)) ?_;refine Ae [0] [] (I1 (Cs g (Dk r.step).2).2 Ir (d.ok hr)) ?_;refine Ag (fun h2=>?_) (fun h2=>?_)
  ·have ht2:=Ay h2 (by simp);have hk2:(Cs g (Dk r.step).2).2.take Ir=(Cs g (Dk r.step).2).2.step:=by simp[RS.take,h2]
   have e:=Aj ht2.1;have le:=Cb ht2.1;rw[if_pos h2,hk2];refine Ae [0] [] (ihb g (by omega) (Cs g (Dk r.step).2).2.step (e.ok (d.ok hr)) (by omega) (by omega)) ?_;rw[Lf];exact Br func312 rfl rfl
  ·have hk2:(Cs g (Dk r.step).2).2.take Ir=(Cs g (Dk r.step).2).2:=by simp[RS.take,h2]
   rw[if_neg (by simp[h2]),hk2,Lf];exact Br func312 rfl rfl
 have hk1:r.take V3=r:=by simp[RS.take,h1]
 rw[hk1];refine Ae [0] [] (I1 r Gp hr) ?_;refine Ag (fun h2=>?_) (fun h2=>?_)
 ·have ht:=Ay h2 (by simp);have hk:r.take Gp=r.step:=by simp[RS.take,h2]
  have a:=Aj ht.1;have ls:=Cb ht.1;have c:=a.trans (Dw (a.ok hr));have lc:=Bf (Dw (a.ok hr));simp only[C9];rw[if_neg (by simp[h1]),if_pos h2,hk];refine Ae [0] [] (Ame r.step (a.ok hr)) ?_;refine Ae [0] [] (ihb g (by omega) (Dk r.step).2 (c.ok hr) (by omega) (by omega)) ?_;refine Al (Yx 25 (Dk r.step).1 (Cs g (Dk r.step).2).1) ?_;exact Br func312 rfl rfl
 have hk2:r.take Gp=r:=by simp[RS.take,h2]
 rw[hk2];refine Ae [0] [] (I1 r L8 hr) ?_;refine Ag (fun h3=>?_) (fun h3=>?_)
 ·have ht:=Ay h3 (by simp);have hk:r.take L8=r.step:=by simp[RS.take,h3]
  have a:=Aj ht.1;have ls:=Cb ht.1;have b:=a.trans (Cv (a.ok hr));have c:=a.trans (R6 (a.ok hr));have d:=c.trans (Ca (c.ok hr));have e:=a.trans (Kx (a.ok hr));have e2:=e.trans (Ca (e.ok hr));have l1:=Bf (Kx (a.ok hr));have l2:=Bf (Ca (e.ok hr));simp only[C9];rw[if_neg (by simp[h1]),if_neg (by simp[h2]),if_pos h3,hk];refine Ae [0] [] (Xm r.step (a.ok hr)) ?_;refine Ae [0] [] (If r.step.nameR Jl (b.ok hr)) ?_;refine Ae [0] [] (Sx (Yk r.step) (c.ok hr)) ?_;refine Ae [0] [] (If (B9 (Yk r.step)).2 wTo (d.ok hr)) ?_;refine Ae [0] [] (Sx (Z3 r.step) (e.ok hr)) ?_;refine Ae [0] [] (ihb g (by omega) (B9 (Z3 r.step)).2 (e2.ok hr) (by omega) (by omega)) ?_;rw[Lf];exact Br func312 rfl rfl
 have hk3:r.take L8=r:=by simp[RS.take,h3]
 rw[hk3];have hs:=P1 hr;have hT:C9 (g+1) r=((C1 r).1,(C1 r).2.need [59]):=by simp only[C9];rw[if_neg (by simp[h1]),if_neg (by simp[h2]),if_neg (by simp[h3])]
 rw[hT];refine Ae [0] [] (I1 r F7 hr) ?_;refine Ag (fun h4=>?_) (fun h4=>?_)
 ·have ht:=Ay h4 (by simp);have hk:r.take F7=r.step:=by simp[RS.take,h4]
  have a:=Aj ht.1;have c:=a.trans (Dw (a.ok hr));have hS:C1 r=(.mk 27 [] 0 [(Dk r.step).1],(Dk r.step).2):=by simp only[C1];rw[if_pos h4]
  rw[hk,hS];refine Ae [0] [] (Ame r.step (a.ok hr)) ?_;refine Al (Aoe 27 (Dk r.step).1) ?_;refine Ae [0] [] (If (Dk r.step).2 [59] (c.ok hr)) ?_;exact Br func312 rfl rfl
 have hk4:r.take F7=r:=by simp[RS.take,h4]
 rw[hk4];refine Ae [0] [] (I1 r Is hr) ?_;refine Ag (fun h5=>?_) (fun h5=>?_)
 ·have ht:=Ay h5 (by simp);have hk:r.take Is=r.step:=by simp[RS.take,h5]
  have a:=Aj ht.1;have c:=a.trans (Cv (a.ok hr));have hS:C1 r=(.mk 23 r.step.name 0 [],r.step.nameR):=by simp only[C1];rw[if_neg (by simp[h4]),if_pos h5]
  rw[hk,hS,Lf];refine Ae [0] [] (Xm r.step (a.ok hr)) ?_;refine Ae [0] [] (If r.step.nameR [59] (c.ok hr)) ?_;exact Br func312 rfl rfl
 have hk5:r.take Is=r:=by simp[RS.take,h5]
 rw[hk5];refine Ae [0] [] (I1 r Ix hr) ?_;refine Ag (fun h6=>?_) (fun h6=>?_)
 ·have ht:=Ay h6 (by simp);have hk:r.take Ix=r.step:=by simp[RS.take,h6]
  have a:=Aj ht.1;have hS:C1 r=(.mk 28 [] 0 [],r.step):=by simp only[C1];rw[if_neg (by simp[h4]),if_neg (by simp[h5]),if_pos h6]
  rw[hk,hS,Lf];refine Ae [0] [] (If r.step [59] (a.ok hr)) ?_;exact Br func312 rfl rfl
 have hk6:r.take Ix=r:=by simp[RS.take,h6]
 rw[hk6];refine Ae [0] [] (I1 r I4 hr) ?_;refine Ag (fun h7=>?_) (fun h7=>?_)
 ·have ht:=Ay h7 (by simp);have hk:r.take I4=r.step:=by simp[RS.take,h7]
  have a:=Aj ht.1;have hS:C1 r=(.mk 29 [] 0 [],r.step):=by simp only[C1];rw[if_neg (by simp[h4]),if_neg (by simp[h5]),if_neg (by simp[h6]),if_pos h7]
  rw[hk,hS,Lf];refine Ae [0] [] (If r.step [59] (a.ok hr)) ?_;exact Br func312 rfl rfl
 have hk7:r.take I4=r:=by simp[RS.take,h7]
 have hS:C1 r=Qz r:=by simp only[C1];rw[if_neg (by simp[h4]),if_neg (by simp[h5]),if_neg (by simp[h6]),if_neg (by simp[h7])]
 rw[hk7,hS];have a:=Cv hr;refine Ae [0] [] (Xm r hr) ?_;refine Ae [0] [] (I1 r.nameR [91] (a.ok hr)) ?_;refine Ag (fun h8=>?_) (fun h8=>?_)
 ·have ht:=Ay h8 (by simp);have hk:r.nameR.take [91]=r.nameR.step:=by simp[RS.take,h8]
  have b:=a.trans (Aj ht.1);have c:=b.trans (Ca (b.ok hr));have d:=c.trans (Bb (s:=[93]) (c.ok hr) (by simp));have e:=d.trans (Bb (s:=[61]) (d.ok hr) (by simp));have f:=e.trans (Ca (e.ok hr));simp only[Qz];rw[if_pos h8,hk];refine Ae [0] [] (Sx r.nameR.step (b.ok hr)) ?_;refine Ae [0] [] (If (B9 r.nameR.step).2 [93] (c.ok hr)) ?_;refine Ae [0] [] (If ((B9 r.nameR.step).2.need [93]) [61] (d.ok hr)) ?_;refine Ae [0] [] (Sx (((B9 r.nameR.step).2.need [93]).need [61]) (e.ok hr)) ?_;refine Al (Yx 22 (B9 r.nameR.step).1 (B9 (((B9 r.nameR.step).2.need [93]).need [61])).1) ?_;refine Ae [0] [] (If (B9 (((B9 r.nameR.step).2.need [93]).need [61])).2 [59] (f.ok hr)) ?_;exact Br func312 rfl rfl
 ·have hk:r.nameR.take [91]=r.nameR:=by simp[RS.take,h8]
  have b:=a.trans (Bb (s:=[61]) (a.ok hr) (by simp));have c:=b.trans (Ca (b.ok hr));simp only[Qz];rw[if_neg (by simp[h8]),hk];refine Ae [0] [] (If r.nameR [61] (a.ok hr)) ?_;refine Ae [0] [] (Sx (r.nameR.need [61]) (b.ok hr)) ?_;refine Al (Aoe 21 (B9 (r.nameR.need [61])).1) ?_;refine Ae [0] [] (If (B9 (r.nameR.need [61])).2 [59] (c.ok hr)) ?_;exact Br func312 rfl rfl
theorem Dq{r:RS}(h:r.bad=true)(s:List UInt8):r.takes s=false:=by simp[RS.takes,h]
theorem Tz{r:RS}(h:r.bad=true)(s:List UInt8):(r.need s).bad=true:=by simp[RS.need,Dq h s,RS.spoil]
theorem Aev{r:RS}(h:r.bad=true):r.nameR.bad=true:=by simp[RS.nameR,RS.named,h,RS.spoil]
theorem Z0:∀(f:Nat),(∀r:RS,r.bad=true→(Fc f r).2.bad=true)∧(∀r:RS,r.bad=true→(Ed f r).2.bad=true)∧(∀(x:Nd)(r:RS),r.bad=true→(Hv f x r).2.bad=true) ∧
 (∀r:RS,r.bad=true→(Ev f r).2.bad=true)∧(∀(x:Nd)(r:RS),r.bad=true→(G5 f x r).2.bad=true):=by
 intro f
 induction f with
 |zero=>exact⟨fun r h=>by simpa only[Fc]using h,fun r h=>by simpa only[Ed]using h,fun x r h=>by simpa only[Hv]using h,fun r h=>by simpa only[Ev]using h,fun x r h=>by simpa only[G5]using h⟩
 |succ f ih=>
  obtain⟨i1,i2,i3,i4,i5⟩:=ih;refine⟨fun r h=>?_,fun r h=>?_,fun x r h=>?_,fun r h=>?_,fun x r h=>?_⟩
  ·simp only[Fc];rw[if_pos h];exact h
  ·simp only[Ed];exact i3 _ _ (i1 r h)
  ·simp only[Hv];rw[if_neg (by simp[Dq h])];exact h
  ·simp only[Ev];exact i5 _ _ (i2 r h)
  ·simp only[G5];rw[if_neg (by simp[Dq h]),if_neg (by simp[Dq h])];exact h
theorem Ob{r:RS}(h:r.bad=true):(B9 r).2.bad=true:=(Z0 6010).2.2.2.1 r h
def RS.on(r r':RS):Prop:=r'.bad=true∨r.at_<r'.at_
theorem An6{r r':RS}(h:r.on r')(hk:r'.ok)(s:List UInt8)(hs:s≠[]):r.on (r'.need s):=by
 rcases h with h|h
 ·exact .inl (Tz h s)
 ·exact .inr (Mx h (Bb hk hs).2.1)
theorem Atj{r r':RS}(h:r.on r')(hk:r'.ok):r.on (B9 r').2:=by
 rcases h with h|h
 ·exact .inl (Ob h)
 ·exact .inr (Mx h (Ca hk).2.1)
theorem Nc{r r':RS}(h:r.step.after r'):r.on r':=.inr (Mx (Ad6 r.at_) h.2.1)
theorem Atk{r:RS}:r.on r.nameR:=by
 simp only[RS.nameR];split
 ·exact .inr (Ad6 _)
 ·exact .inl rfl
theorem Ayu{r:RS}(h:r.ok):r.on (Qz r).2:=by
 have a:=Cv h;have o:=Atk (r:=r);simp only[Qz];split
 ·rename_i ht;have b:=a.trans (Aj (Ay ht (by simp)).1);have c:=b.trans (Ca (b.ok h));have d:=c.trans (Bb (s:=[93]) (c.ok h) (by simp));have e:=d.trans (Bb (s:=[61]) (d.ok h) (by simp));rcases o with o|o
  ·rw[Dq o]at ht;cases ht
  ·exact .inr (Mx o ((Aj (Ay ht (by simp)).1).trans ((Ca (b.ok h)).trans ((Bb (s:=[93]) (c.ok h) (by simp)).trans ((Bb (s:=[61]) (d.ok h) (by simp)).trans (Ca (e.ok h)))))).2.1)
 ·have b:=a.trans (Bb (s:=[61]) (a.ok h) (by simp));exact Atj (An6 o (a.ok h) [61] (by simp)) (b.ok h)
theorem Amm{r:RS}(h:r.ok):r.on (C1 r).2:=by
 simp only[C1];split
 ·rename_i ht;have b:=Aj (Ay ht (by simp)).1;exact Nc (Dw (b.ok h))
 split
 ·rename_i ht;have b:=Aj (Ay ht (by simp)).1;exact Nc (Cv (b.ok h))
 split
 ·rename_i ht;exact Nc (Fa ((Aj (Ay ht (by simp)).1).ok h))
 split
 ·rename_i ht;exact Nc (Fa ((Aj (Ay ht (by simp)).1).ok h))
 exact Ayu h
theorem Y3(f:Nat){r:RS}(h:r.ok):r.on (C9 (f+1) r).2:=by
 have i2:=(Fx f).2.1;simp only[C9];split
 ·rename_i ht;have b:=Aj (Ay ht (by simp)).1;have c:=Dw (b.ok h);have d:=c.trans (i2 _ (c.ok (b.ok h)));split
  ·rename_i ht2;have e:=d.trans (Aj (Ay ht2 (by simp)).1);exact Nc (e.trans (i2 _ (e.ok (b.ok h))))
  ·exact Nc d
 split
 ·rename_i ht;have b:=Aj (Ay ht (by simp)).1;have c:=Dw (b.ok h);exact Nc (c.trans (i2 _ (c.ok (b.ok h))))
 split
 ·rename_i ht;have b:=Aj (Ay ht (by simp)).1;have c:=Kx (b.ok h);have d:=c.trans (Ca (c.ok (b.ok h)));exact Nc (d.trans (i2 _ (d.ok (b.ok h))))
 ·exact An6 (Amm h) ((P1 h).ok h) [59] (by simp)
theorem Er(l:List Nd):Ka 4 (Ap l)=true:=by rw[As];exact Ku (f:=Af) (fun _=>rfl) l
theorem A1v(f:Nat)(ih:∀g,g<f→Arv g):Aru f:=by
 intro r hr hf hF;refine Hands.run func291 ?_;generalize hTT:D7 f [] r=T;refine Ej 2 0 3 rfl rfl rfl rfl rfl rfl ?_;refine Av (ι:=Nat×List Nd×RS) 3 1 (fun i=>i.2.2.ok∧i.2.1.length+i.1≤f∧(i.2.2.bad=true∨3*i.2.2.left+2≤i.1)∧T=D7 i.1 i.2.1 i.2.2)
  (fun i=>[(0,.ptr 0 0 0),(2,.ptr 1 0 0),(3,.ptr 2 0 0)])
  (fun i=>⟨[[rc i.2.2],[zN],[[vi 30,str [],vi 0,.sl (Ap i.2.1) (.tok 0)]]],[i.2.1.length]⟩) (fun i=>i.1) ?_ (f,[],r) ⟨hr,by simp,.inr hf,hTT.symm⟩ ⟨rfl,rfl,rfl,trivial⟩
 rintro⟨n,acc,q⟩ ⟨hq,hlen,hfu,hTn⟩ IH;simp only at hq hlen hfu hTn IH⊢;refine Bj 100 rfl ?_;cases hb:q.bad with
 |true=>
  have hT:T=(acc,q):=by
   rw[hTn];cases n with
   |zero=>rfl
   |succ n=>simp only[D7];rw[if_neg (by simp[hb])]
  refine Hu 0 5 ?_;refine P9 false ?_ (hb:=by simp[hb]);refine My 11 ?_;refine P9 false ?_;refine Ft ?_;refine B6 ?_;refine Ah ?_;rw[hT,Lf];refine Br func291 ?_ rfl;rw[As]
 |false=>
  by_cases hlt:q.at_<q.ws.length
  ·refine Hu 0 5 ?_;refine P9 true ?_ (hb:=by simp[hb]);refine My 11 ?_;refine P9 true ?_ (hb:=Zg (by rw[Dz];omega));refine My 1 ?_;refine A0 (Hd [0] [] (Ah4 q)) ?_;refine Ft ?_;refine B6 ?_;refine Ag (fun h=>?_) (fun h=>?_)
   ·have h':(!(q.text==[125]))=true:=h;have hn1:2≤n:=by
     rcases hfu with h|h
     ·rw[hb]at h;cases h
     ·omega
    obtain⟨m,rfl⟩:∃m,n=m+1:=⟨n-1,by omega⟩
    have hfu':3*q.left+2≤m+1:=by
     rcases hfu with h|h
     ·rw[hb]at h;cases h
     ·exact h
    have hT:T=D7 m (acc++[(C9 m q).1]) (C9 m q).2:=by
     rw[hTn];simp only[D7];rw[if_pos (by simp only[hb,h',Bool.not_false,Re,Bool.and_true];exact Zg hlt)]
    have af:=(Fx m).1 q hq;have lf:=Bf af;have hon:q.on (C9 m q).2:=by
     obtain⟨p,rfl⟩:∃p,m=p+1:=⟨m-1,by omega⟩
     exact Y3 p hq
    refine Hu 168 3 ?_;refine Dx (Hd [0] [] (ih m (by omega) q hq (by omega) (by omega))) ?_ ?_
    ·exact An (Cn rfl rfl rfl) G0
    refine Ts ?_;refine Ch (Bv (res:=Ap (acc++[(C9 m q).1])) rfl rfl rfl rfl rfl rfl rfl rfl rfl rfl rfl rfl rfl rfl (Ad acc) (Er acc) rfl rfl rfl ?_ ?_ rfl) ?_
    ·rw[Ad];simp;omega
    ·rw[As,As,J8];rfl
    refine Ar ?_;refine Ch (A8 rfl rfl rfl rfl rfl rfl rfl) ?_;refine B6 ?_;refine IH (m,acc++[(C9 m q).1],(C9 m q).2) ⟨af.ok hq,by simp;omega,?_,hT⟩ (by simp only;omega) _ _ ⟨rfl,rfl,rfl,trivial⟩ ?_ rfl rfl
    ·rcases hon with h|h
     ·exact .inl h
     ·refine .inr ?_;simp only;have h3:(C9 m q).2.left+1≤q.left:=by
       have e1:=af.1;have e2:=af.2.2;simp only[RS.left,e1]at *;omega
      omega
    ·simp[St.drop,Ad,upd]
   ·have h':(!(q.text==[125]))=false:=h;have hT:T=(acc,q):=by
     rw[hTn];cases n with
     |zero=>rfl
     |succ n=>simp only[D7];rw[if_neg (by simp[h'])]
    rw[hT,Lf];refine Br func291 ?_ rfl;rw[As]
  ·have hT:T=(acc,q):=by
    rw[hTn];cases n with
    |zero=>rfl
    |succ n=>simp only[D7];rw[if_neg (by simp[hlt])]
   refine Hu 0 5 ?_;refine P9 true ?_ (hb:=by simp[hb]);refine My 11 ?_;refine P9 false ?_ (hb:=Kn (by rw[Dz];omega));refine Ft ?_;refine B6 ?_;refine Ah ?_;rw[hT,Lf];refine Br func291 ?_ rfl;rw[As]
theorem Ayf:∀f,Arv f∧Aks f∧Aru f:=by
 intro f
 induction f using Nat.strongRecOn with
 |ind f ih=>exact⟨A1y f (fun g h=>(ih g h).2.1),Ayd f (fun g h=>(ih g h).2.2),A1v f (fun g h=>(ih g h).1)⟩
def Iw(q:RS):Int×RS:=if !q.bad&&q.kind==2 then(Dn q.text,q.step)else(-1,q.need [63])
def Jg(r:RS):Nd×RS:=
 if r.takes Nk then(.mk 31 r.step.name 0 [],r.step.nameR)
 else(.mk 32 r.step.name (Iw (r.step.nameR.need [91])).1 [],(Iw (r.step.nameR.need [91])).2.need [93])
def Hn(r:RS):Bool:=r.takes Nk||r.takes Ff
def E6:Nat→List Nd→RS→List Nd×RS
 |0,acc,r=>(acc,r)
 |f+1,acc,r=>if Hn r then E6 f (acc++[(Jg r).1]) ((Jg r).2.need [59])else(acc,r)
def RS.ends(r:RS):RS:=if r.at_<r.ws.length then r.spoil else r
def El(r:RS):Nd×RS:=
 (.mk 40 [] 0 ((E6 2000 [] r).1++[.mk 30 [] 0 (D7 5000 [] (E6 2000 [] r).2).1]),(D7 5000 [] (E6 2000 [] r).2).2.ends)
theorem Abc{q:RS}(h:q.ok):q.after (Iw q).2:=by
 simp only[Iw];split
 ·rename_i hc;simp only[Da,zzq56]at hc;exact Aj (Sd (by omega))
 ·exact Bb h (by simp)
theorem K7{r:RS}(h:r.ok)(hd:Hn r=true):r.step.after (Jg r).2∧r.at_<r.ws.length:=by
 simp only[Hn,O9]at hd;have hlt:r.at_<r.ws.length:=by
  rcases hd with hd|hd
  ·exact(Ay hd (by simp)).1
  ·exact(Ay hd (by simp)).1
 have so:=(Aj hlt).ok h;refine⟨?_,hlt⟩;simp only[Jg];split
 ·exact Cv so
 ·have a:=Cv so;have b:=a.trans (Bb (s:=[91]) (a.ok so) (by simp));have c:=b.trans (Abc (b.ok so));exact c.trans (Bb (c.ok so) (by simp))
theorem N5:∀(f:Nat)(acc:List Nd)(r:RS),r.ok→r.after (E6 f acc r).2
 |0,acc,r,h=>by simp only[E6];exact Fa h
 |f+1,acc,r,h=>by
  simp only[E6];split
  ·rename_i hd;obtain⟨a,hlt⟩:=K7 h hd;have b:=(Aj hlt).trans a;have c:=b.trans (Bb (s:=[59]) (b.ok h) (by simp));exact c.trans (N5 f _ _ (c.ok h))
  ·exact Fa h
abbrev gP:C3:=[(0,.ptr 0 0 0),(2,.ptr 1 0 0),(3,.ptr 2 0 0)]
abbrev sP(q:RS)(acc:List Nd):St:=⟨[[rc q],[zN],[[vi 40,str [],vi 0,.sl (Ap acc) (.tok 0)]]],[acc.length]⟩
theorem A1w(r:RS)(hr:r.ok):Hands X 263 [.ptr 0 0 0] ⟨[[rc r]],[]⟩ (nd (El r).1) ⟨[[rc (El r).2]],[]⟩:=by
 refine Hands.run func263 ?_;obtain⟨T,hTT⟩:∃T,E6 2000 [] r=T:=⟨_,rfl⟩
 have hleft:r.left≤1500:=by have:=hr.1;simp only[RS.left];omega
 have aT:r.after T.2:=by rw[←hTT];exact N5 2000 [] r hr
 have hTl:T.1.length≤2000→AK X ⟨263,f263,1,0⟩ (Lj false 16 f263) gP (sP T.2 T.1) (fun e S=>e=.ret (nd (El r).1)∧S=⟨[[rc (El r).2]],[]⟩):=fun hlen=>by
  refine D3 ?_;have to:=aT.ok hr;have al:=(Fx 5000).2.2 [] T.2 to;have hl5:3*T.2.left+2≤5000:=by have:=to.1;simp only[RS.left];omega
  refine Hu 168 3 ?_;refine Dx (Hd [0] [] ((Ayf 5000).2.2 T.2 to hl5 (by omega))) ?_ ?_
  ·exact An (Cn rfl rfl rfl) G0
  refine Ts ?_;refine Ch (Bv (res:=Ap (T.1++[.mk 30 [] 0 (D7 5000 [] T.2).1])) rfl rfl rfl rfl rfl rfl rfl rfl rfl rfl rfl rfl rfl rfl (Ad T.1) (Er T.1) rfl rfl rfl ?_ ?_ rfl) ?_
  ·rw[Ad];simp;omega
  ·rw[As,As,J8];rfl
  refine Ar ?_;refine Ch (A8 rfl rfl rfl rfl rfl rfl rfl) ?_;refine B6 ?_;refine Amz ?_;have hP:El r=(.mk 40 [] 0 (T.1++[.mk 30 [] 0 (D7 5000 [] T.2).1]),(D7 5000 [] T.2).2.ends):=by simp only[El];rw[hTT]
  rw[hP];refine Ag (fun h=>?_) (fun h=>?_)
  ·have h':(D7 5000 [] T.2).2.at_<(D7 5000 [] T.2).2.ws.length:=by have:=A7 h;rw[Dz]at this;omega
   have he:(D7 5000 [] T.2).2.ends=(D7 5000 [] T.2).2.spoil:=by simp only[RS.ends];rw[if_pos h']
   rw[he,Lf];refine Br func263 ?_ rfl;rw[As]
  ·have h':¬(D7 5000 [] T.2).2.at_<(D7 5000 [] T.2).2.ws.length:=by have:=Bd h;rw[Dz]at this;omega
   have he:(D7 5000 [] T.2).2.ends=(D7 5000 [] T.2).2:=by simp only[RS.ends];rw[if_neg h']
   rw[he,Lf];refine Br func263 ?_ rfl;rw[As]
 refine Ej 2 0 3 rfl rfl rfl rfl rfl rfl ?_;refine Av (ι:=Nat×List Nd×RS) 3 1 (fun i=>i.2.2.ok∧i.2.1.length+i.1≤2000∧i.2.2.left+1≤i.1∧T=E6 i.1 i.2.1 i.2.2) (fun _=>gP) (fun i=>sP i.2.2 i.2.1) (fun i=>i.1) ?_ (2000,[],r)
  ⟨hr,by simp,by simp only;omega,hTT.symm⟩ ⟨rfl,rfl,rfl,trivial⟩
 rintro⟨n,acc,q⟩ ⟨hq,hlen,hfu,hTn⟩ IH;simp only at hq hlen hfu hTn IH⊢;obtain⟨m,rfl⟩:∃m,n=m+1:=⟨n-1,by omega⟩
 have out:Hn q=false→T=(acc,q):=fun h=>by rw[hTn];simp only[E6];rw[if_neg (by simp[h])]
 refine Dh (fun h=>?_) (fun h=>?_)
 ·have hb:q.bad=false:=by have:(!q.bad)=true:=h;simpa using this
  have fin:∀(d:Nd) (q':RS),Jg q=(d,q')→Hn q=true→d.kids=[] →
   AK X ⟨263,f263,1,0⟩ (Lj false 14 f263) ((4,.ptr 3 0 0)::gP)
    ⟨[[rc q'],[zN],[[vi 40,str [],vi 0,.sl (Ap acc) (.tok 0)]],[[vi d.kind,str d.name,vi d.num,.sl [] .tight]]],[acc.length]⟩ (fun e S=>e=.ret (nd (El r).1)∧S=⟨[[rc (El r).2]],[]⟩):=fun d q' hd hD hk=>by
   obtain⟨af,hlt⟩:=K7 hq hD;rw[hd]at af;have aq:=(Aj hlt).trans af;have an:=aq.trans (Bb (s:=[59]) (aq.ok hq) (by simp));have l1:=Cb hlt;have l2:(q'.need [59]).left≤q.step.left:=Bf (af.trans (Bb (s:=[59]) (aq.ok hq) (by simp)));refine D3 ?_;refine Bj 100 rfl ?_;refine Ae [0] [] (If q' [59] (aq.ok hq)) ?_;refine Aii 54 ?_;refine Bm (Bv (res:=Ap (acc++[d])) rfl rfl rfl rfl rfl rfl rfl rfl rfl rfl rfl rfl rfl rfl (Ad acc) (Er acc) rfl rfl rfl ?_ ?_ rfl) ?_
   ·rw[Ad];simp;omega
   ·rw[As,As,J8];obtain⟨k,s,v,ks⟩:=d;simp only[Nd.kids]at hk;subst hk;rfl
   refine IH (m,acc++[d],q'.need [59]) ⟨an.ok hq,by simp;omega,by simp only;omega,?_⟩ (by simp only;omega) _ _ ⟨rfl,rfl,rfl,trivial⟩ ?_ rfl rfl
   ·rw[hTn];simp only[E6];rw[if_pos hD,hd]
   ·simp[St.drop,Ad,upd]
  refine Ae [0] [] (I1 q Nk hq) ?_;refine Ag (fun h1=>?_) (fun h1=>?_)
  ·have ht:=Ay h1 (by simp);have hk:q.take Nk=q.step:=by simp[RS.take,h1]
   have a:=Aj ht.1;rw[hk];refine Agi 14 [0] [] (Xm q.step (a.ok hq)) ?_;exact B3 4 1 (fin (.mk 31 q.step.name 0 []) q.step.nameR (by simp only[Jg];rw[if_pos h1]) (by simp[Hn,h1]) rfl) ⟨rfl,rfl,rfl,rfl,trivial⟩ rfl rfl rfl rfl rfl
  have hk1:q.take Nk=q:=by simp[RS.take,h1]
  rw[hk1];refine Ae [0] [] (I1 q Ff hq) ?_;refine Ag (fun h2=>?_) (fun h2=>?_)
  ·have ht:=Ay h2 (by simp);have hk:q.take Ff=q.step:=by simp[RS.take,h2]
   have a:=Aj ht.1;have b:=a.trans (Cv (a.ok hq));have c:=b.trans (Bb (s:=[91]) (b.ok hq) (by simp));have hD:Hn q=true:=by simp[Hn,h2]
   have hR:Jg q=(.mk 32 q.step.name (Iw (q.step.nameR.need [91])).1 [],(Iw (q.step.nameR.need [91])).2.need [93]):=by simp only[Jg];rw[if_neg (by simp[h1])]
   rw[hk];refine Ae [0] [] (Xm q.step (a.ok hq)) ?_;refine Ae [0] [] (If q.step.nameR [91] (b.ok hq)) ?_;generalize hu:q.step.nameR.need [91]=u at hR c⊢;have hok:=c.ok hq;have e:=c.trans (Abc hok);have fin13:∀(v:Int) (u':RS),Iw u=(v,u')→AK X ⟨263,f263,1,0⟩ (Lj false 13 f263) ((4,.ptr 3 0 0)::gP)
    ⟨[[rc u'],[zN],[[vi 40,str [],vi 0,.sl (Ap acc) (.tok 0)]],[[vi 32,str q.step.name,vi v,.sl [] .tight]]],[acc.length]⟩ (fun e S=>e=.ret (nd (El r).1)∧S=⟨[[rc (El r).2]],[]⟩):=fun v u' hv=>by
    rw[hv]at hR e;refine D3 ?_;refine Bj 100 rfl ?_;refine Agi 14 [0] [] (If u' [93] (e.ok hq)) ?_;exact B3 4 1 (fin (.mk 32 q.step.name v []) (u'.need [93]) hR hD rfl) ⟨rfl,rfl,rfl,rfl,trivial⟩ rfl rfl rfl rfl rfl
   have hno:(!u.bad&&u.kind==2)=false→AK X ⟨263,f263,1,0⟩ (Lj false 12 f263) ((4,.ptr 3 0 0)::gP)
    ⟨[[rc u],[zN],[[vi 40,str [],vi 0,.sl (Ap acc) (.tok 0)]],[[vi 32,str q.step.name,vi (-1),.sl [] .tight]]],[acc.length]⟩ (fun e S=>e=.ret (nd (El r).1)∧S=⟨[[rc (El r).2]],[]⟩):=fun hc=>by
    refine D3 ?_;refine Bj 100 rfl ?_;refine Agi 13 [0] [] (If u [63] hok) ?_;exact B3 4 1 (fin13 (-1) (u.need [63]) (by simp only[Iw];rw[if_neg (by simp[hc])])) ⟨rfl,rfl,rfl,rfl,trivial⟩ rfl rfl rfl rfl rfl
   refine Db (fun h3=>?_) (fun h3=>?_)
   ·refine Ae [0] [] (Amh u) ?_;refine Eu 0 12 (fun h4=>?_) (fun h4=>?_)
    ·have hk2:u.kind=2:=by have:(u.kind==2)=true:=h4;simpa using this
     have hlt:=Sd (r:=u) (by omega);refine Ae [0] [] (Ah4 u) ?_;have hsz:Iw u=(Dn u.text,u.step):=by simp only[Iw];rw[if_pos (by simp[hk2];simpa using h3)]
     have hu1:=hok.1;refine Arj 13 (Adk u.text) ?_;refine B3 4 1 (fin13 (Dn u.text) u.step hsz) ⟨rfl,rfl,rfl,rfl,trivial⟩ ?_ rfl rfl rfl rfl;simp only[rc,rd,RS.step];rw[show ((u.at_+1:Nat):Int)=IntKind.i64.wrap ((u.at_:Int)+1)from((Ac (by omega) (by omega)).trans (by omega)).symm];rfl
    ·have hk2:(u.kind==2)=false:=h4;exact B3 4 1 (hno (by simp[hk2])) ⟨rfl,rfl,rfl,rfl,trivial⟩ rfl rfl rfl rfl rfl
   ·refine Eu 0 12 (fun h4=>?_) (fun _=>?_)
    ·cases h4
    exact B3 4 1 (hno (by simp[h3])) ⟨rfl,rfl,rfl,rfl,trivial⟩ rfl rfl rfl rfl rfl
  ·have hk2:q.take Ff=q:=by simp[RS.take,h2]
   have hT:=out (by simp[Hn,h1,h2]);rw[hT]at hTl;rw[hk2];exact B3 3 1 (hTl (by simp only;omega)) ⟨rfl,rfl,rfl,trivial⟩ rfl rfl rfl rfl rfl
 ·have hb:q.bad=true:=by have:(!q.bad)=false:=h;simpa using this
  have hT:=out (by simp[Hn,Dq hb]);rw[hT]at hTl;exact B3 3 1 (hTl (by simp only;omega)) ⟨rfl,rfl,rfl,trivial⟩ rfl rfl rfl rfl rfl
mutual
def Dc:Nd→Nat
 |.mk _ _ _ ks=>Gv ks+1
def Gv:List Nd→Nat
 |[]=>0
 |n::l=>max (Dc n) (Gv l)
end
theorem Jy(n:Nd):Dc n=Gv n.kids+1:=by cases n;simp[Dc,Nd.kids]
theorem Aec(a b:List Nd):Gv (a++b)=max (Gv a) (Gv b):=by
 induction a with
 |nil=>simp[Gv]
 |cons x a ih=>simp only[Pu,Gv,ih];omega
theorem Aa1{l:List Nd}{i:Nat}{n:Nd}(h:l[i]?=some n):Gv (l.take (i+1))=max (Gv (l.take i)) (Dc n):=by
 rw[G7,h,Aec];simp[Gv]
theorem T4(n:Nd):Dc n≤Ai n:=by
 induction n using Nd.ind with
 |h n ih=>
  have key:∀l:List Nd,(∀k,k∈l→Dc k≤Ai k)→Gv l≤A3 l:=by
   intro l
   induction l with
   |nil=>intro _;simp[Gv]
   |cons x l ihl=>
    intro h;have h1:=h x (by simp);have h2:=ihl (fun k hk=>h k (by simp[hk]));simp only[Gv,A3];omega
  rw[Jy,Ck];have:=key n.kids ih;omega
mutual
def wN:Nd→Nat
 |.mk _ s _ ks=>1+s.length+wL ks
def wL:List Nd→Nat
 |[]=>0
 |n::l=>wN n+wL l
end
theorem Wo(n:Nd):wN n=1+n.name.length+wL n.kids:=by cases n;rfl
theorem P2{l:List Nd}{k:Nd}(h:k∈l):wN k≤wL l:=by
 induction l with
 |nil=>cases h
 |cons x l ih=>
  simp only[wL];rcases zzq13.1 h with rfl|h
  ·omega
  ·have:=ih h;omega
theorem Jd{n k:Nd}(h:k∈n.kids):wN k<wN n:=by
 have:=P2 h;rw[Wo n];omega
theorem Rx(n:Nd):Ai n≤wN n:=by
 induction n using Nd.ind with
 |h n ih=>
  have key:∀l:List Nd,(∀k,k∈l→Ai k≤wN k)→A3 l≤wL l:=by
   intro l
   induction l with
   |nil=>intro _;simp[A3]
   |cons x l ihl=>
    intro h;have h1:=h x (by simp);have h2:=ihl (fun k hk=>h k (by simp[hk]));simp only[A3,wL];omega
  rw[Wo,Ck];have:=key n.kids ih;omega
theorem G6(n:Nd):n.kids.length<wN n:=by
 have:=Bn n.kids;have:=Rx n;rw[Ck]at this;omega
theorem Aqd(n:Nd):n.name.length<wN n:=by rw[Wo];omega
theorem Aob(n:Nd)(hn:Ai n≤4000000000):Pure X 257 [nd n] (vi (Ai n)):=by
 induction n using Nd.ind with
 |h n ih=>
 refine Pure.run func257 ?_;have hc:=Ck n;have hll:=Bn n.kids;refine Av (ι:=Nat) 1 0 (fun i=>i≤n.kids.length) (fun i=>[(4,vi i),(3,vi (1+A3 (n.kids.take i):Nat)),(1,.ptr 0 0 0)]) (fun _=>⟨[[Af n]],[]⟩) (fun i=>n.kids.length-i) ?_ 0 (Cc _)
  ⟨rfl,rfl,rfl,trivial⟩
 intro i hi IH;refine Dh (fun h=>?_) (fun h=>?_)
 ·have hlt:i<n.kids.length:=by have:=A7 h;rw[Ad]at this;omega
  obtain⟨kid,hkid⟩:=Ab n.kids hlt;have hsn:=Pi hkid;have hle:=Qh (l:=n.kids) (i:=i+1);refine B7 i (by omega) (Am hkid) ?_;refine Al (ih kid (Bh hkid) (by omega)) ?_;exact IH (i+1) hlt (by omega) _ _ ⟨vsx (by omega),vsx (by omega),rfl,trivial⟩ rfl rfl rfl
 ·have:i=n.kids.length:=by have:=Bd h;rw[Ad]at this;omega
  subst this;refine Az func257 ?_;rw[hc,I8];rfl
theorem Aoc(n:Nd)(hn:Ai n≤4000000000):Pure X 258 [nd n] (vi (Dc n)):=by
 induction n using Nd.ind with
 |h n ih=>
 refine Pure.run func258 ?_;have hc:=Ck n;have hll:=Bn n.kids;have hd:=T4 n;rw[Jy]at hd⊢;refine Av (ι:=Nat) 1 0 (fun i=>i≤n.kids.length) (fun i=>[(4,vi i),(3,vi (Gv (n.kids.take i):Nat)),(1,.ptr 0 0 0)]) (fun _=>⟨[[Af n]],[]⟩) (fun i=>n.kids.length-i) ?_ 0 (Cc _)
  ⟨rfl,rfl,rfl,trivial⟩
 intro i hi IH;refine Dh (fun h=>?_) (fun h=>?_)
 ·have hlt:i<n.kids.length:=by have:=A7 h;rw[Ad]at this;omega
  obtain⟨kid,hkid⟩:=Ab n.kids hlt;have hsn:=Aa1 hkid;have hcs:=Pi hkid;have hle:=Qh (l:=n.kids) (i:=i+1);refine B7 i (by omega) (Am hkid) ?_;refine Al (ih kid (Bh hkid) (by omega)) ?_;refine Ag (fun h2=>?_) (fun h2=>?_)
  ·have:=A7 h2;exact IH (i+1) hlt (by omega) _ _ ⟨vsx (by omega),Ct (by omega),rfl,trivial⟩ rfl rfl rfl
  ·have:=Bd h2;exact IH (i+1) hlt (by omega) _ _ ⟨vsx (by omega),Ct (by omega),rfl,trivial⟩ rfl rfl rfl
 ·have:i=n.kids.length:=by have:=Bd h;rw[Ad]at this;omega
  subst this;refine Az func258 ?_;rw[I8];exact congrArg (fun x=>AV.val (.int .i64 x)) ((Ac (by omega) (by omega)).trans (by omega))
def Kq(k:Int):Bool:=Bl k 1 8
def Sb(k:Int):Bool:=Bl k 11 16
def Yp(k:Int):Bool:=Bl k 21 29
theorem Atr(k:Int):Pure X 309 [vi k] (vb (Kq k)):=by
 refine Pure.run func309 ?_;refine Al (H2 k 1 8) ?_;exact Az func309 rfl
theorem Atq(k:Int):Pure X 307 [vi k] (vb (Sb k)):=by
 refine Pure.run func307 ?_;refine Al (H2 k 11 16) ?_;exact Az func307 rfl
theorem Ats(k:Int):Pure X 308 [vi k] (vb (Yp k)):=by
 refine Pure.run func308 ?_;refine Al (H2 k 21 29) ?_;exact Az func308 rfl
def Bi(k:Int):Int×Bool×Bool:=
 if k=1∨k=28∨k=29 then(0,false,true)
 else if k=2∨k=4∨k=23∨k=31∨k=32 then(0,true,true)
 else if k=3∨k=21 then(1,true,true)
 else if k=5∨k=27 then(1,false,true)
 else if k=6∨k=7∨k=8∨k=11∨k=12∨k=13∨k=14∨k=15∨k=16∨k=25 then(2,false,true)
 else if k=22 then(2,true,true)
 else if k=24 then(3,false,true)
 else if k=26 then(3,true,true)
 else if k=30∨k=40 then(-1,false,true)
 else(0,false,false)
theorem Axr(k:Int):Pure X 278 [vi k] (.tup [vi (Bi k).1,vb (Bi k).2.1,vb (Bi k).2.2]):=by
 refine Pure.run func278 ?_
 repeat' (refine Ag (fun _=>?_) (fun _=>?_))
 all_goals refine Az func278 ?_
 all_goals (simp_all [Bi,C5])
def Kz(n:Nd)(i k:Int):Bool:=
 if n.kind=24∨n.kind=25∨n.kind=27 then(if i=0 then Sb k else k==30)
 else if n.kind=26∧i=2 then k==30
 else if n.kind=30 then Yp k
 else if n.kind=40 then(if i=n.kids.length-1 then k==30 else k==31||k==32)
 else Kq k
theorem A3p(n:Nd)(i k:Int)(hn:n.kids.length≤4000000000):Pure X 280 [nd n,vi i,vi k] (vb (Kz n i k)):=by
 refine Pure.run func280 ?_;have hw:IntKind.i64.wrap ((Ap n.kids).length-1:Int)=n.kids.length-1:=by rw[Ad];exact Ac (by omega) (by omega)
 repeat' (first|refine Ag (fun _=>?_) (fun _=>?_)|refine Db (fun _=>?_) (fun _=>?_)|refine Al (Atq k) ?_|refine Al (Ats k) ?_|refine Al (Atr k) ?_)
 all_goals refine Az func280 ?_
 all_goals (simp_all [Kz,C5])
def Fb(k m:Int):Bool:=if k=1 then Bl m 0 1000000 else if k=32 then Bl m (-1) 1000000 else m==0
def H8(k:Int)(s:List UInt8)(m:Int)(len:Nat):Bool:=
 (Bi k).2.2&&(decide ((Bi k).1<0)||((len:Int)==(Bi k).1))&&((Bi k).2.1==!(s==[]))&&(!(Bi k).2.1||nameS s)&&!(k==40&&len==0)&&Fb k m
mutual
def Cp:Nd→Bool
 |.mk k s m ks=>H8 k s m ks.length&&Eo (.mk k s m ks) 0 ks
def Eo:Nd→Nat→List Nd→Bool
 |_,_,[]=>true
 |p,i,x::l=>Kz p i x.kind&&(Cp x&&Eo p (i+1) l)
end
theorem Ky(n:Nd):Cp n=(H8 n.kind n.name n.num n.kids.length&&Eo n 0 n.kids):=by cases n;rfl
theorem Ato(n:Nd)(hn:wN n≤1000000000):Pure X 259 [nd n] (vb (Cp n)):=by
 induction n using Nd.ind with
 |h n ih=>
 have hll:=G6 n;have hloop:∀T:Bool,Eo n 0 n.kids=T→AK X ⟨259,f259,0,0⟩ (Lj false 13 f259) [(1,.ptr 0 0 0)] ⟨[[Af n]],[]⟩ (fun e S=>e=.ret (vb T)∧S=⟨[],[]⟩):=fun T hT=>by
  refine D3 ?_;refine Bj 100 rfl ?_;refine Av (ι:=Nat) 1 0 (fun i=>i≤n.kids.length∧T=Eo n i (n.kids.drop i)) (fun i=>[(6,vi i),(1,.ptr 0 0 0)]) (fun _=>⟨[[Af n]],[]⟩) (fun i=>n.kids.length-i) ?_ 0 ⟨Cc _,hT.symm⟩
   ⟨rfl,rfl,trivial⟩
  rintro i ⟨hi,hTi⟩ IH;refine Dh (fun h=>?_) (fun h=>?_)
  ·have hlt:i<n.kids.length:=by have:=A7 h;rw[Ad]at this;omega
   obtain⟨kid,hkid⟩:=Ab n.kids hlt;have hkw:=Jd (Bh hkid);rw[B5 hkid]at hTi;simp only[Eo]at hTi;refine D8 0 ?_;refine Ek (fun S'=>Cu rfl rfl rfl rfl rfl rfl rfl rfl rfl (by omega) (Am hkid)) ?_;refine Ft ?_;refine Ja (A3p n i kid.kind (by omega)) ?_;refine My 1 ?_;cases hk:Kz n i kid.kind with
   |false=>
    refine P9 true ?_;refine Ft ?_;refine B6 ?_;refine A1 ?_;refine Az func259 ?_;rw[hTi,hk];rfl
   |true=>
    refine P9 false ?_;refine Ft ?_;refine Ek (fun S'=>Cu rfl rfl rfl rfl rfl rfl rfl rfl rfl (by omega) (Am hkid)) ?_;refine Ft ?_;refine Ja (ih kid (Bh hkid) (by omega)) ?_;refine Ft ?_;refine B6 ?_;refine Ag (fun h2=>?_) (fun h2=>?_)
    ·have h2':(!Cp kid)=true:=h2;refine Az func259 ?_;rw[hTi];simp at h2';simp[h2',C5]
    ·have h2':(!Cp kid)=false:=h2;simp at h2';refine IH (i+1) ⟨hlt,?_⟩ (by omega) _ _ ⟨vsx (by omega),rfl,trivial⟩ rfl rfl rfl;rw[hTi,hk,h2'];simp
  ·have:i=n.kids.length:=by have:=Bd h;rw[Ad]at this;omega
   subst this;refine Az func259 ?_;rw[hTi,Hw];rfl
 have hnl:n.name.length≤1000000000:=by have:=Aqd n;omega
 have hF:=Ky n;have hcont:H8 n.kind n.name 0 n.kids.length=H8 n.kind n.name 0 n.kids.length→∀z,(H8 n.kind n.name n.num n.kids.length=Fb n.kind n.num)→z=Cp n →
  AK X ⟨259,f259,0,0⟩ (Lj false 4 f259) [(1,.ptr 0 0 0)] ⟨[[Af n]],[]⟩ (fun e S=>e=.ret (vb z)∧S=⟨[],[]⟩):=fun _ z hH hz=>by
  subst hz;rw[hH]at hF;refine D3 ?_;refine Dh (fun h1=>?_) (fun h1=>?_)
  ·refine Al (H2 n.num 0 1000000) ?_;refine Eu 0 13 (fun h2=>?_) (fun h2=>?_)
   ·refine Az func259 ?_;rw[hF];simp_all [Fb,C5]
   ·refine B3 1 0 (hloop _ ?_) ⟨rfl,trivial⟩ rfl rfl rfl rfl rfl;simp_all [Fb]
  ·refine Ag (fun h2=>?_) (fun h2=>?_)
   ·refine Al (H2 n.num (-1) 1000000) ?_;refine Eu 0 13 (fun h2=>?_) (fun h2=>?_)
    ·refine Az func259 ?_;rw[hF];simp_all [Fb,C5]
    ·refine B3 1 0 (hloop _ ?_) ⟨rfl,trivial⟩ rfl rfl rfl rfl rfl;simp_all [Fb]
   ·refine Eu 0 13 (fun h2=>?_) (fun h2=>?_)
    ·refine Az func259 ?_;rw[hF];simp_all [Fb,C5]
    ·refine B3 1 0 (hloop _ ?_) ⟨rfl,trivial⟩ rfl rfl rfl rfl rfl;simp_all [Fb]
 refine Pure.run func259 ?_;refine Al (Axr n.kind) ?_;generalize hsh:Bi n.kind=sh;obtain⟨a,b,c⟩:=sh;have hlen:((Ap n.kids).length:Int)=n.kids.length:=by rw[Ad]
 have hH:H8 n.kind n.name n.num n.kids.length=(c&&(decide (a<0)||((n.kids.length:Int)==a))&&(b==!(n.name==[]))&&(!b||nameS n.name)&&!(n.kind==40&&n.kids.length==0)&&Fb n.kind n.num):=by simp only[H8,hsh]
 cases c with
 |false=>
  refine Hh ?_;refine Hh ?_;refine Hh ?_;refine Hh ?_;refine A1 ?_;refine Az func259 ?_;rw[hF,hH];simp_all [C5]<;>(intros;omega)
 |true=>
  refine Ii ?_;refine Db (fun h1=>?_) (fun h1=>?_)
  ·refine Db (fun h2=>?_) (fun h2=>?_)
   ·refine Hh ?_;refine Hh ?_;refine A1 ?_;refine Az func259 ?_;rw[hF,hH];simp_all [C5]<;>(intros;omega)
   ·skip
    refine Db (fun h3=>?_) (fun h3=>?_)
    ·refine Hh ?_;refine A1 ?_;refine Az func259 ?_;rw[hF,hH];simp_all [C5]<;>(intros;omega)
    ·cases b with
     |true=>
      refine Hh ?_;refine Al (Al6 n.name hnl) ?_;refine Db (fun h4=>?_) (fun h4=>?_)
      ·skip
       refine A1 ?_;refine Az func259 ?_;rw[hF,hH];simp_all [C5]<;>(intros;omega)
      ·skip
       refine Db (fun h5=>?_) (fun h5=>?_)
       ·refine Eu 0 4 (fun h6=>?_) (fun h6=>?_)
        ·refine Az func259 ?_;rw[hF,hH];simp_all [C5]<;>(intros;omega)
        ·refine B3 1 0 (hcont rfl _ ?_ rfl) ⟨rfl,trivial⟩ rfl rfl rfl rfl rfl;rw[hH];simp_all<;>(intro _ hk;rw[Ad,hk]at hlen;simp at hlen;omega)
       ·refine Eu 0 4 (fun h6=>?_) (fun h6=>?_)
        ·cases h6
        ·refine B3 1 0 (hcont rfl _ ?_ rfl) ⟨rfl,trivial⟩ rfl rfl rfl rfl rfl;rw[hH];simp_all<;>(intro _ hk;rw[Ad,hk]at hlen;simp at hlen;omega)
     |false=>
      refine Ii ?_;refine Ii ?_;refine Db (fun h5=>?_) (fun h5=>?_)
      ·refine Eu 0 4 (fun h6=>?_) (fun h6=>?_)
       ·refine Az func259 ?_;rw[hF,hH];simp_all [C5]<;>(intros;omega)
       ·refine B3 1 0 (hcont rfl _ ?_ rfl) ⟨rfl,trivial⟩ rfl rfl rfl rfl rfl;rw[hH];simp_all<;>(intro _ hk;rw[Ad,hk]at hlen;simp at hlen;omega)
      ·refine Eu 0 4 (fun h6=>?_) (fun h6=>?_)
       ·cases h6
       ·refine B3 1 0 (hcont rfl _ ?_ rfl) ⟨rfl,trivial⟩ rfl rfl rfl rfl rfl;rw[hH];simp_all<;>(intro _ hk;rw[Ad,hk]at hlen;simp at hlen;omega)
  ·refine Ii ?_;refine Db (fun h3=>?_) (fun h3=>?_)
   ·refine Hh ?_;refine A1 ?_;refine Az func259 ?_;rw[hF,hH];simp_all [C5]<;>(intros;omega)
   ·cases b with
    |true=>
     refine Hh ?_;refine Al (Al6 n.name hnl) ?_;refine Db (fun h4=>?_) (fun h4=>?_)
     ·skip
      refine A1 ?_;refine Az func259 ?_;rw[hF,hH];simp_all [C5]<;>(intros;omega)
     ·skip
      refine Db (fun h5=>?_) (fun h5=>?_)
      ·refine Eu 0 4 (fun h6=>?_) (fun h6=>?_)
       ·refine Az func259 ?_;rw[hF,hH];simp_all [C5]<;>(intros;omega)
       ·refine B3 1 0 (hcont rfl _ ?_ rfl) ⟨rfl,trivial⟩ rfl rfl rfl rfl rfl;rw[hH];simp_all<;>(intro _ hk;rw[Ad,hk]at hlen;simp at hlen;omega)
      ·refine Eu 0 4 (fun h6=>?_) (fun h6=>?_)
       ·cases h6
       ·refine B3 1 0 (hcont rfl _ ?_ rfl) ⟨rfl,trivial⟩ rfl rfl rfl rfl rfl;rw[hH];simp_all<;>(intro _ hk;rw[Ad,hk]at hlen;simp at hlen;omega)
    |false=>
     refine Ii ?_;refine Ii ?_;refine Db (fun h5=>?_) (fun h5=>?_)
     ·refine Eu 0 4 (fun h6=>?_) (fun h6=>?_)
      ·refine Az func259 ?_;rw[hF,hH];simp_all [C5]<;>(intros;omega)
      ·refine B3 1 0 (hcont rfl _ ?_ rfl) ⟨rfl,trivial⟩ rfl rfl rfl rfl rfl;rw[hH];simp_all<;>(intro _ hk;rw[Ad,hk]at hlen;simp at hlen;omega)
     ·refine Eu 0 4 (fun h6=>?_) (fun h6=>?_)
      ·cases h6
      ·refine B3 1 0 (hcont rfl _ ?_ rfl) ⟨rfl,trivial⟩ rfl rfl rfl rfl rfl;rw[hH];simp_all<;>(intro _ hk;rw[Ad,hk]at hlen;simp at hlen;omega)
end Go.V
