/- A part of the proof of the claim that the last text states: no condition of its own. -/
import Derived.Test.YtojhghmilenfkaaGreatDoorM2
import Derived.Laws.Externs
import Derived.Lib.ItoaNum
import Derived.Test.YtojhghmilenfkaaGreatDoorChecked
set_option linter.unusedVariables false
set_option linter.unusedSimpArgs false
namespace Go.V
open Go
section
variable {X:Cx}{B:Bx}{E:Env}{S S1:St}{w:World}{F:Bs}{a:Act}{N:Nat}{R:AE→St→Prop}{ops:Array Oper}{bs:List Nat}{em i0:Nat}{ch:List PanicEntry}
def Aio (bs:List Nat)(i0 j:Nat):Prop:=bitOf bs i0 j=false∧j≠i0
structure DT (X:Cx)(N:Nat)(ops:Array Oper)(bs:List Nat)(em i0:Nat)(ch:List PanicEntry)(S1:St)(eff:Nat→Bool)(x:Nat→AV)(FF:Nat→Bs)(SS:Nat→St):Prop where
 step:∀ j,j<ops.size→∀ o,ops[j]?=some o→FF (j+1)=putF o.dst (x j) (FF j)
 dok:∀ j,j<ops.size→Aio bs i0 j→∀ o,ops[j]?=some o→Ci N o.dst=true
 eff0:∀ j,j<ops.size→eff j=false→SS (j+1)=SS j
 eff1:∀ j,j<ops.size→eff j=true→∀ o,ops[j]?=some o→j<i0∧em.testBit j=true∧Ndo X N ops j o (FF j) (x j) (SS j) (SS (j+1))
 will:∀ j,j<ops.size→Aio bs i0 j→eff j=false→∀ o,ops[j]?=some o→∀ p,p≤i0→(∀ e,j≤e→e<p→eff e=true→bitOf bs j e=false)→Ndo X N ops j o (FF j) (x j) (SS p) (SS p)
 lt:i0<ops.size
 bit:em.testBit i0=true
 thr:∀ o,ops[i0]?=some o→Thr X N ops i0 o (FF i0) (SS i0) ch S1
theorem Ai9 (dk:DrawOk ops bs em){eff:Nat→Bool}{x:Nat→AV}{FF:Nat→Bs}{SS:Nat→St}
 (D:DT X N ops bs em i0 ch S1 eff x FF SS)(hF0:FF 0=F)(k:List Item):∀ (fuel t:Nat)(listed:Array Bool)(a:Act)(w:World)(E:Env)(p:Nat),
 listed.size=ops.size→Closed ops listed→p≤i0→(∀ e,e<ops.size→eff e=true→(listed.getD e false=true↔e<p))→(∀ j,listed.getD j false=true→Aio bs i0 j)→Uh listed ops.size≤fuel →
 Inv X E (SS p) w→FR E w (FD ops x (listed.getD · false) F ops.size) a N→∀ (b:Frame) (cs:List Frame),
  ∃ E' w' fr,Inv X E' S1 w'∧Evol E w E' w' E.boxes.length E.toks.length∧fr.fn=b.fn∧fr.mode=.panicking ch∧fr.defers=E.df ∧
   Steps X.P (lone (b.at a (.inRegion ops (Region.linearise.go .any ops fuel t listed [])::k)) cs w) (lone fr cs w'):=by
 have hFF:∀ n,n≤ops.size→FF n=FD ops x (fun _=>true) F n:=by
  intro n
  induction n with
  | zero=>intro _;exact hF0
  | succ n ih =>
    intro hn
    have ho:ops[n]?=some ops[n]:=by simp [show n<ops.size by omega]
    rw [D.step n (by omega) _ ho,ih (by omega)]
    simp [FD,ho]
 have hSS:∀ p q,p≤q→q≤ops.size→(∀ e,p≤e→e<q→eff e=false)→SS q=SS p:=by
  intro p q hpq
  induction q with
  | zero=>intro _ _;rw [show p=0 by omega]
  | succ q ih =>
    intro hq he
    by_cases h:p=q+1
    ·rw [h]
    ·rw [D.eff0 q (by omega) (he q (by omega) (by omega))]
     exact ih (by omega) (by omega) (fun e h1 h2=>he e h1 (by omega))
 have hlt:=D.lt
 intro fuel
 induction fuel with
 | zero =>
   intro t listed a w E p hs hc hp hpe hlive hcnt hI hF b cs
   exfalso
   cases hl:listed.getD i0 false with
   | true=>exact (hlive _ hl).2 rfl
   | false =>
     have:i0∈(List.range ops.size).filter fun j=>!listed.getD j false:=List.mem_filter.2 ⟨List.mem_range.2 hlt,by simp only [hl];rfl⟩
     unfold Uh at hcnt
     have:=List.length_pos_of_mem this
     omega
 | succ fuel ih =>
   intro t listed a w E p hs hc hp hpe hlive hcnt hI hF b cs
   simp only [Region.linearise.go]
   change ∃ E' w' fr,_∧_∧_∧_∧_∧Steps X.P (lone (b.at a (.inRegion ops (match (Region.ready .any ops listed)[t % (Region.ready .any ops listed).length]? with
    | some i=>Region.linearise.go .any ops fuel (t / (Region.ready .any ops listed).length) (listed.setIfInBounds i true) [i]
    | none=>[].reverse)::k)) cs w) (lone fr cs w')
   cases hi:(Region.ready .any ops listed)[t % (Region.ready .any ops listed).length]? with
   | none =>
     exfalso
     have hnil:Region.ready .any ops listed=[]:=by
      cases hr:Region.ready .any ops listed with
      | nil=>rfl
      | cons y ys =>
        rw [hr] at hi
        have hlt:t % (y::ys).length<(y::ys).length:=Nat.mod_lt _ (by simp)
        simp at hi
        simp at hlt
        omega
     exact (hlive _ (P1 dk.bits hs hnil i0 hlt)).2 rfl
   | some i =>
     obtain ⟨hin,hil,o,ho,hafter⟩:=Sr (List.mem_of_getElem? hi)
     have hilf:listed.getD i false=false:=by
      have:i<listed.size:=by omega
      simp [Array.getD,this] at hil ⊢;exact hil
     simp only []
     rw [linearise_go_acc,List.reverse_singleton,List.singleton_append]
     have rbit:∀ e,e<ops.size→bitOf bs e i=true→listed.getD e false=true:=fun e he hbit=>by
      have hk:=List.all_eq_true.1 dk.bits i (List.mem_range.2 hin)
      rw [ho] at hk
      simp only [Bool.and_eq_true,beq_iff_eq] at hk
      unfold bitOf at hbit
      rw [hk.1] at hbit
      rcases Lf bs e _ 0 hbit with h | ⟨e',he',hbe,h⟩
      ·simp at h
      ·have hl':=hafter e' he' hbe
       rcases h with rfl | h
       ·exact hl'
       ·have:e'.on<ops.size:=by
         have h2:=List.all_eq_true.1 hk.2 e' he'
         simp only [hbe,Bool.not_true,Bool.or_false] at h2
         have:e'.on<i:=by simpa [Nat.blt_eq] using h2
         omega
        exact hc.bit dk.bits e'.on e this hl' h
     have notbit:∀ e,e<ops.size→listed.getD e false=true→bitOf bs i e=false:=fun e he hl=>by
      cases hb:bitOf bs i e with
      | false=>rfl
      | true=>have:=hc.bit dk.bits e i he hl hb;rw [hilf] at this;cases this
     have hagree:∀ t,t∈o.looksAt ops→lk (FD ops x (listed.getD · false) F ops.size) t=lk (FF i) t:=fun t ht=>by
      rw [hFF i (by omega)]
      by_cases hw:∃ (j:Nat) (oj:Oper),ops[j]?=some oj∧oj.dst=some t
      ·obtain ⟨j,oj,hj,hd⟩:=hw
       have hjn:j<ops.size:=by
        rcases Nat.lt_or_ge j ops.size with h | h
        ·exact h
        ·rw [Array.getElem?_eq_none h] at hj;cases hj
       have hu:∀ (j':Nat) (o':Oper),j≠j'→ops[j']?=some o'→o'.dst≠some t:=fun j' o' hne ho'=>dk.dsts j j' oj o' hj ho' hne t hd
       rcases dk.looks i j o oj ho hj t hd ht with ⟨h1,h2⟩ | ⟨h1,h2⟩
       ·rw [Iu (listed:=(listed.getD · false)) hj hd (rbit j hjn h2) hu ops.size hjn,Iu (listed:=fun _=>true) hj hd rfl hu i h1]
       ·have hjl:listed.getD j false=false:=by
         cases hl:listed.getD j false with
         | false=>rfl
         | true=>have:=notbit j hjn hl;rw [h2] at this;cases this
        rw [Gq ops.size fun j' _ hl' o' ho' hc'=>by
         by_cases hjj:j=j'
         ·subst hjj;rw [hjl] at hl';cases hl'
         ·exact hu j' o' hjj ho' hc',
         Gq i fun j' hj' _ o' ho' hc'=>by
          by_cases hjj:j=j'
          ·omega
          ·exact hu j' o' hjj ho' hc']
      ·rw [Gq ops.size fun j' _ _ o' ho' hc'=>hw ⟨j',o',ho',hc'⟩,Gq i fun j' _ _ o' ho' hc'=>hw ⟨j',o',ho',hc'⟩]
     have hcl':Closed ops (listed.setIfInBounds i true):=fun j oj hj hoj e he hb=>by
      rw [Fs (by omega)] at hj ⊢
      by_cases hie:i=e.on
      ·rw [if_pos hie]
      ·rw [if_neg hie]
       by_cases hij:i=j
       ·subst hij;rw [ho] at hoj;cases hoj;exact hafter e he hb
       ·rw [if_neg hij] at hj;exact hc j oj hj hoj e he hb
     have hlk':∀ t,lk (FD ops x ((listed.setIfInBounds i true).getD · false) F ops.size) t=lk (putF o.dst (x i) (FD ops x (listed.getD · false) F ops.size)) t:=fun t=>by
      rw [Ep]
      have hset:∀ j,(listed.setIfInBounds i true).getD j false=if i=j then true else listed.getD j false:=fun j=>Fs (by omega)
      by_cases hd:o.dst=some t
      ·rw [if_pos hd]
       exact Iu ho hd (by rw [hset];simp) (fun j' o' hne ho'=>dk.dsts i j' o o' ho ho' hne t hd) ops.size hin
      ·rw [if_neg hd]
       have:∀ n,lk (FD ops x ((listed.setIfInBounds i true).getD · false) F n) t=lk (FD ops x (listed.getD · false) F n) t:=by
        intro n
        induction n with
        | zero=>rfl
        | succ n ihn =>
          have hn':=hset n
          simp only [FD]
          by_cases hn:i=n
          ·subst hn
           rw [hn',if_pos rfl,hilf,ho]
           rw [Ep,if_neg hd,ihn]
          ·rw [hn',if_neg hn]
           split
           ·split
            ·rw [Ep,Ep,ihn]
            ·exact ihn
           ·exact ihn
       exact this _
     have i0f:listed.getD i0 false=false:=by
      cases hl:listed.getD i0 false with
      | true=>exact absurd rfl (hlive _ hl).2
      | false=>rfl
     by_cases hii:i=i0
     ·subst hii
      have before:∀ e,e<i→eff e=true→listed.getD e false=true:=fun e hei hee=>by
       have hoe:ops[e]?=some ops[e]:=by simp [show e<ops.size by omega]
       exact rbit e (by omega) (dk.effs e i _ o hoe ho hei (D.eff1 e (by omega) hee _ hoe).2.1 D.bit)
      have hSp:SS i=SS p:=hSS p i hp (by omega) (fun e h1 h2=>by
       cases hee:eff e with
       | false=>rfl
       | true=>have:=(hpe e (by omega) hee).1 (before e h2 hee);omega)
      obtain ⟨E',w',fr,h1,h2,h3,h4,h5,_,_,h6⟩:=D.thr o ho _ E w a hagree (by rw [hSp];exact hI) hF b k cs (Region.linearise.go .any ops fuel (t / (Region.ready .any ops listed).length) (listed.setIfInBounds i true) [])
      exact ⟨E',w',fr,h1,h2,h3,h4,h5.trans hF.nod,h6⟩
     have hLi:Aio bs i0 i:=by
      refine ⟨?_,hii⟩
      cases hb:bitOf bs i0 i with
      | false=>rfl
      | true=>have:=rbit i0 hlt hb;rw [i0f] at this;cases this
     have hlive':∀ j,(listed.setIfInBounds i true).getD j false=true→Aio bs i0 j:=fun j hj=>by
      rw [Fs (by omega)] at hj
      by_cases hij:i=j
      ·subst hij;exact hLi
      ·rw [if_neg hij] at hj;exact hlive j hj
     have next:∀ (p':Nat),p'≤i0→(∀ e,e<ops.size→eff e=true→((listed.setIfInBounds i true).getD e false=true↔e<p'))→Ndo X N ops i o (FF i) (x i) (SS p) (SS p') →
      ∃ E' w' fr,Inv X E' S1 w'∧Evol E w E' w' E.boxes.length E.toks.length∧fr.fn=b.fn∧fr.mode=.panicking ch∧fr.defers=E.df ∧
       Steps X.P (lone (b.at a (.inRegion ops (i::Region.linearise.go .any ops fuel (t / (Region.ready .any ops listed).length) (listed.setIfInBounds i true) [])::k)) cs w) (lone fr cs w'):=fun p' hp' hpe' hn=>by
      obtain ⟨v,w1,⟨E1,h1,h2,h3⟩,h4⟩:=hn _ E w a hagree hI hF b k cs (Region.linearise.go .any ops fuel (t / (Region.ready .any ops listed).length) (listed.setIfInBounds i true) [])
      rw [ho] at h4
      have hd:=D.dok i hin hLi o ho
      have hF1:FR E1 w1 (FD ops x ((listed.setIfInBounds i true).getD · false) F ops.size) (a.put o.dst v) N:=by
       have:=(hF.step h2).putF hd h3
       exact ⟨this.size,this.nod,fun q y hq=>this.rel q y (by rw [← hlk' q];exact hq)⟩
      have hcu:=Vh hin hs hilf
      obtain ⟨E',w',fr,k1,k2,k3,k4,k5,k6⟩:=ih (t / (Region.ready .any ops listed).length) (listed.setIfInBounds i true) _ w1 E1 p' (by simp [hs]) hcl' hp' hpe' hlive' (by omega) h1 hF1 b cs
      have hlen:=h2.len
      exact ⟨E',w',fr,k1,h2.trans (k2.weaken hlen.1 hlen.2),k3,k4,k5.trans h2.df,h4.trans k6⟩
     cases he:eff i with
     | false =>
       refine next p hp (fun e hen hee=>?_) ?_
       ·rw [Fs (by omega)]
        by_cases hie:i=e
        ·subst hie;rw [he] at hee;cases hee
        ·rw [if_neg hie];exact hpe e hen hee
       ·exact D.will i hin hLi he o ho p hp (fun e h1 h2 h3=>notbit e (by omega) ((hpe e (by omega) h3).2 h2))
     | true =>
       obtain ⟨hii0,es,hn⟩:=D.eff1 i hin he o ho
       have hpi:p≤i:=by
        rcases Nat.lt_or_ge i p with h | h
        ·have:=(hpe i hin he).2 h;rw [hilf] at this;cases this
        ·exact h
       have before:∀ e,e<i→eff e=true→listed.getD e false=true:=fun e hei hee=>by
        have hoe:ops[e]?=some ops[e]:=by simp [show e<ops.size by omega]
        exact rbit e (by omega) (dk.effs e i _ o hoe ho hei (D.eff1 e (by omega) hee _ hoe).2.1 es)
       have hSp:SS i=SS p:=hSS p i hpi (by omega) (fun e h1 h2=>by
        cases hee:eff e with
        | false=>rfl
        | true=>have:=(hpe e (by omega) hee).1 (before e h2 hee);omega)
       refine next (i+1) (by omega) (fun e hen hee=>?_) (by rw [← hSp];exact hn)
       rw [Fs (by omega)]
       by_cases hie:i=e
       ·subst hie;simp
       ·rw [if_neg hie]
        constructor
        ·intro hl
         rcases Nat.lt_or_ge e (i+1) with h | h
         ·exact h
         ·have hoe:ops[e]?=some ops[e]:=by simp [hen]
          have:=dk.effs i e o _ ho hoe (by omega) es (D.eff1 e hen hee _ hoe).2.1
          have h2:=notbit e hen hl
          rw [this] at h2;cases h2
        ·intro hlt
         exact before e (by omega) hee
def RestT (X:Cx)(N:Nat)(ops:Array Oper)(bs:List Nat)(i0:Nat):List Oper→Nat→Bs→Prop
 | [],_,_=>True
 | o::os,j,F=>(bitOf bs i0 j=true∧RestT X N ops bs i0 os (j+1) (putF o.dst .junk F)) ∨
   (∃ x,Ci N o.dst=true∧(∀ S',Ndo X N ops j o F x S' S')∧RestT X N ops bs i0 os (j+1) (putF o.dst x F))
theorem Vd:∀ (os:List Oper)(j:Nat)(F:Bs),RestT X N ops bs i0 os j F→(∀ k,k<os.length→ops[j+k]?=os[k]?) →
 ∃ (x:Nat→AV) (FF:Nat→Bs),FF j=F∧(∀ q,j≤q→q<j+os.length→∀ o,ops[q]?=some o→FF (q+1)=putF o.dst (x q) (FF q)) ∧
  (∀ q,j≤q→q<j+os.length→bitOf bs i0 q=false→∀ o,ops[q]?=some o→Ci N o.dst=true∧∀ S',Ndo X N ops q o (FF q) (x q) S' S')
 | [],j,F,_,_=>⟨fun _=>.junk,fun _=>F,rfl,fun q h1 h2=>by simp at h2;omega,fun q h1 h2=>by simp at h2;omega⟩
 | o::os,j,F,h,hops=>by
   have ho:ops[j]?=some o:=by have:=hops 0 (by simp);simpa using this
   have hops':∀ k,k<os.length→ops[j+1+k]?=os[k]?:=fun k hk=>by
    have:=hops (k+1) (by simp;omega)
    rw [show j+1+k=j+(k+1) by omega]
    simpa using this
   have key:∀ x,(bitOf bs i0 j=false→Ci N o.dst=true∧∀ S',Ndo X N ops j o F x S' S')→RestT X N ops bs i0 os (j+1) (putF o.dst x F)→∃ (x:Nat→AV) (FF:Nat→Bs),FF j=F∧(∀ q,j≤q→q<j+(o::os).length→∀ o,ops[q]?=some o→FF (q+1)=putF o.dst (x q) (FF q)) ∧
    (∀ q,j≤q→q<j+(o::os).length→bitOf bs i0 q=false→∀ o,ops[q]?=some o→Ci N o.dst=true∧∀ S',Ndo X N ops q o (FF q) (x q) S' S'):=fun x hx hr=>by
    obtain ⟨xs,FF,h1,h2,h3⟩:=Vd os (j+1) _ hr hops'
    refine ⟨fun q=>if q=j then x else xs q,fun q=>if q=j then F else FF q,by simp,fun q q1 q2 o' ho'=>?_,fun q q1 q2 hb o' ho'=>?_⟩
    ·by_cases hq:q=j
     ·subst hq;rw [ho] at ho';cases ho'
      simp [h1]
     ·have h4:¬ (q+1=j):=by omega
      simp only [hq,h4,if_false]
      exact h2 q (by omega) (by simp at q2;omega) o' ho'
    ·by_cases hq:q=j
     ·subst hq;rw [ho] at ho';cases ho'
      simp only [if_true]
      exact hx hb
     ·simp only [hq,if_false]
      exact h3 q (by omega) (by simp at q2;omega) hb o' ho'
   simp only [RestT] at h
   rcases h with ⟨hb,hr⟩ | ⟨x,hd,hn,hr⟩
   ·exact key .junk (fun h=>by rw [hb] at h;cases h) hr
   ·exact key x (fun _=>⟨hd,hn⟩) hr
def AtT (X:Cx)(N:Nat)(ops:Array Oper)(bs:List Nat)(i0:Nat)(ch:List PanicEntry)(S1:St)(F:Bs)(S:St):Prop :=
 ∃ o,ops[i0]?=some o∧Thr X N ops i0 o F S ch S1∧RestT X N ops bs i0 (ops.toList.drop (i0+1)) (i0+1) (putF o.dst .junk F)
theorem DT.of (hem:em.testBit i0=true)(h:Drv X N ops bs em (ops.toList.take i0) 0 F S [S] [] (AtT X N ops bs i0 ch S1)) :
 ∃ eff x FF SS,FF 0=F∧SS 0=S∧DT X N ops bs em i0 ch S1 eff x FF SS:=by
 obtain ⟨eff,x,FF,SS,h1,h2,⟨o0,ho0,ht,hr⟩,D⟩:=Drv.data _ 0 F S [S] [] _ h (fun j hj=>by
  simp only [List.length_take,Array.length_toList] at hj
  simp [List.getElem?_take,show j<i0 by omega]) (by simp) (fun q hq=>by cases hq)
 have hlt:i0<ops.size:=by
  rcases Nat.lt_or_ge i0 ops.size with h | h
  ·exact h
  ·rw [Array.getElem?_eq_none h] at ho0;cases ho0
 have hlen:0+(ops.toList.take i0).length=i0:=by simp;omega
 rw [hlen] at ht hr D
 obtain ⟨x2,FF2,k1,k2,k3⟩:=Vd _ _ _ hr (fun k hk=>by simp [List.getElem?_drop])
 have hl2:i0+1+(ops.toList.drop (i0+1)).length=ops.size:=by simp;omega
 rw [hl2] at k2 k3
 refine ⟨fun j=>decide (j<i0)&&eff j,fun j=>if j<i0 then x j else if j=i0 then .junk else x2 j,fun j=>if j≤i0 then FF j else FF2 j,fun j=>if j≤i0 then SS j else SS i0,by simp [h1],by simp [h2],?_⟩
 refine { step:=fun j hj o ho=>?_,dok:=fun j hj hL o ho=>?_,eff0:=fun j hj he=>?_,eff1:=fun j hj he o ho=>?_,will:=fun j hj hL he o ho p hp hpe=>?_,lt:=hlt,bit:=hem,thr:=fun o ho=>?_ }
 ·rcases Nat.lt_trichotomy j i0 with h | h | h
  ·simp only [show j+1≤i0 by omega,show j≤i0 by omega,h,if_true]
   exact (D.step j (Nat.zero_le _) h o ho).1
  ·subst h
   rw [ho0] at ho;cases ho
   simp only [show ¬ (j+1≤j) by omega,Nat.le_refl,Nat.lt_irrefl,if_true,if_false]
   exact k1
  ·simp only [show ¬ (j+1≤i0) by omega,show ¬ (j≤i0) by omega,show ¬ (j<i0) by omega,show ¬ (j=i0) by omega,if_false]
   exact k2 j (by omega) hj o ho
 ·rcases Nat.lt_trichotomy j i0 with h | h | h
  ·exact (D.step j (Nat.zero_le _) h o ho).2
  ·exact absurd h hL.2
  ·exact (k3 j (by omega) hj hL.1 o ho).1
 ·rcases Nat.lt_or_ge j i0 with h | h
  ·simp only [h,decide_true,Bool.true_and] at he
   simp only [show j+1≤i0 by omega,show j≤i0 by omega,if_true]
   exact D.eff0 j (Nat.zero_le _) h he
  ·rcases Nat.lt_or_ge i0 j with h' | h'
   ·simp only [show ¬ (j+1≤i0) by omega,show ¬ (j≤i0) by omega,if_false]
   ·obtain rfl:j=i0:=by omega
    simp only [show ¬ (j+1≤j) by omega,Nat.le_refl,if_true,if_false]
 ·simp only [Bool.and_eq_true,decide_eq_true_eq] at he
  simp only [show j+1≤i0 by omega,show j≤i0 by omega,he.1,if_true]
  exact ⟨trivial,D.eff1 j (Nat.zero_le _) he.1 he.2 o ho⟩
 ·simp only [hp,if_true]
  rcases Nat.lt_trichotomy j i0 with h | h | h
  ·simp only [h,decide_true,Bool.true_and] at he
   simp only [show j≤i0 by omega,h,if_true]
   exact D.will j (Nat.zero_le _) h he o ho p (Nat.zero_le _) hp (fun e h1 h2 h3=>hpe e h1 h2 (by simp [h3,show e<i0 by omega]))
  ·exact absurd h hL.2
  ·simp only [show ¬ (j≤i0) by omega,show ¬ (j<i0) by omega,show ¬ (j=i0) by omega,if_false]
   exact (k3 j (by omega) hj hL.1 o ho).2 _
 ·rw [ho0] at ho;cases ho
  simp only [Nat.le_refl,if_true]
  exact ht
theorem AK.drawT {id:Nat}{k:List Item}(i0 em:Nat)(hf:X.P.funcs[B.f]?=some B.fn)(hst:Mq ops (Fb ops.toList []) em=true)(hem:em.testBit i0=true)
 (h:Drv X B.fn.ntmps ops (Fb ops.toList []) em (ops.toList.take i0) 0 F S [S] [] (AtT X B.fn.ntmps ops (Fb ops.toList []) i0 ch S1))(m:Nat)(hm:B.m≤m)
 (hbox:∀ rows,rows∈S1.boxes.take B.n→D9 B.n m rows)(hR:R (.panic ch) (S1.drop B.n m)):AK X B (.code (.region id ops true)::k) F S R:=by
 obtain ⟨eff,x,FF,SS,h1,h2,D⟩:=DT.of hem h
 refine Xm hf m hm hbox hR fun E w a b cs hI hF hb=>?_
 have hI1:Inv X E (SS 0) { w with drawn:=w.drawn+1 }:=by rw [h2];exact hI.keep (D1 E w _ _) (fun _ _=>rfl)
 have hz:∀ j,(Array.replicate ops.size false).getD j false=false:=fun j=>by simp [Array.getD]
 have hF1:FR E { w with drawn:=w.drawn+1 } (FD ops x ((Array.replicate ops.size false).getD · false) F ops.size) a B.fn.ntmps:=by
  have hF':=hF.step (D1 E w _ _)
  have:FD ops x ((Array.replicate ops.size false).getD · false) F ops.size=F:=by
   have:∀ n,FD ops x ((Array.replicate ops.size false).getD · false) F n=F:=by
    intro n
    induction n with
    | zero=>rfl
    | succ n ih =>
      simp only [FD]
      rw [hz n];exact ih
   exact this _
  rw [this];exact hF'
 obtain ⟨E',w',fr,g1,g2,g3,g4,g5,g6⟩:=Ai9 (Tz hst) D h1 k ops.size (w.tape w.drawn (.order b.fn id)) (Array.replicate ops.size false) a { w with drawn:=w.drawn+1 } E 0 (by simp)
  (fun j o hj=>by rw [hz] at hj;cases hj) (Nat.zero_le _) (fun e he hee=>by rw [hz];simp) (fun j hj=>by rw [hz] at hj;cases hj) (by
    unfold Uh
    exact Nat.le_trans (List.length_filter_le _ _) (by simp)) hI1 hF1 b cs
 refine ⟨E',w',fr,g1,(D1 E w _ _).trans g2,g3,g4,g5.trans hF.nod.symm,.head step_region_draw ?_⟩
 simp only [Region.schedule,X.mixed,Bool.true_or,if_true]
 exact g6
theorem Lc {KK:Bs→St→Prop}:∀ (n:Nat)(os:List Oper)(i:Nat)(F:Bs)(pend:List Gl),(∀ k,k<os.length→ops[i+k]?=os[k]?) →
 Drv X N ops bs em (H1 X N ops S n os i F pend).1 (H1 X N ops S n os i F pend).2.1 (H1 X N ops S n os i F pend).2.2.1 S [S] (H1 X N ops S n os i F pend).2.2.2 KK→Drv X N ops bs em os i F S [S] pend KK
 | 0,os,i,F,p,_,h=>h
 | n+1,[],i,F,p,_,h=>h
 | n+1,o::os,i,F,p,hos,h=>by
   have ho:ops[i]?=some o:=by have:=hos 0 (by simp);simpa using this
   have hos':∀ k,k<os.length→ops[i+1+k]?=os[k]?:=fun k hk=>by
    have:=hos (k+1) (by simp;omega)
    rw [show i+1+k=i+(k+1) by omega]
    simpa using this
   unfold H1 at h
   split at h
   ·rename_i hw
    split at h
    ·rename_i x hx
     split at h
     ·rename_i F' hF
      obtain ⟨h1,rfl⟩:=Dr hF
      split at h
      ·exact Xc ho hw hx h1 (Lc n os (i+1) _ _ hos' h)
      ·rename_i hl
       exact Drv.ev ho hw (fun S'=>by rw [Ms hl];exact hx) h1 (Lc n os (i+1) _ _ hos' h)
     ·exact h
    ·split at h
     ·rename_i x hx
      split at h
      ·rename_i F' hF
       obtain ⟨h1,rfl⟩:=Dr hF
       exact Yw ho hw (Mr hx) h1 (Lc n os (i+1) _ _ hos' h)
      ·exact h
     ·exact h
   ·rename_i hw
    split at h
    ·rename_i F' hF
     obtain ⟨h1,rfl⟩:=Dr hF
     exact G4 (fun S'=>Ndo.skip ho hw) h1 (Lc n os (i+1) _ _ hos' h)
    ·exact h
   ·exact h
theorem An0 {os:List Oper}{i n:Nat}(h:(ops.toList.drop i).take n=os):∀ k,k<os.length→ops[i+k]?=os[k]?:=fun k hk=>by
 subst h
 simp only [List.length_take] at hk
 simp [List.getElem?_take,List.getElem?_drop,show k<n by omega]
theorem AK.dnT {id i':Nat}{k:List Item}{f:FuncId}{fn:Func}{n m:Nat}{bx:List (List (List AV))}{tk:List Nat}{os':List Oper}{F':Bs}{pend':List Gl}(i0 em q:Nat)(hf:X.P.funcs[f]?=some fn)
 (hk:Drv X fn.ntmps ops (Fb ops.toList []) em os' i' F' S [S] pend' (AtT X fn.ntmps ops (Fb ops.toList []) i0 ch S1))(hS:S1.drop n tk.length=⟨bx,tk⟩)
 (hst:Mq ops (Fb ops.toList []) em=true:=by kernel_rfl)(hem:em.testBit i0=true:=by rfl)(h:H1 X fn.ntmps ops S q (ops.toList.take i0) 0 F []=(os',i',F',pend'):=by rfl)(hm:Nat.ble m tk.length=true:=by rfl) [hbox:OKB n tk.length bx] :
 AK X ⟨f,fn,n,m⟩ (.code (.region id ops true)::k) F S fun e S'=>e=.panic ch∧S'=⟨bx,tk⟩:=by
 refine AK.drawT (B:=⟨f,fn,n,m⟩) i0 em hf hst hem (Lc q _ 0 F [] (An0 (n:=i0) (by simp)) (by rw [h];exact hk)) tk.length (Nat.le_of_ble_eq_true hm) ?_ ⟨rfl,hS⟩
 have:S1.boxes.take n=bx:=by have:=congrArg St.boxes hS;exact this
 show ∀ rows,rows∈S1.boxes.take n→D9 n tk.length rows
 rw [this];exact hbox.ok
def Wo (X:Cx)(N:Nat)(ops:Array Oper)(bs:List Nat)(i0:Nat):List Oper→Nat→Bs→Bool
 | [],_,_=>true
 | o::os,j,F=>match bitOf bs i0 j with
   | true=>Wo X N ops bs i0 os (j+1) (putF o.dst .junk F)
   | false=>match As ops F o with
     | some true=>match Zt o.op with
       | true=>false
       | false=>match Cj X F ⟨[],[]⟩ o.op with
         | some x=>match Ci N o.dst with
           | true=>Wo X N ops bs i0 os (j+1) (putF o.dst x F)
           | false=>false
         | none=>match Aa2 X F ⟨[],[]⟩ o.op with
           | some x=>match Ci N o.dst with
             | true=>Wo X N ops bs i0 os (j+1) (putF o.dst x F)
             | false=>false
           | none=>false
     | some false=>match Ci N o.dst with
       | true=>Wo X N ops bs i0 os (j+1) (putF o.dst (.val (.tuple #[])) F)
       | false=>false
     | none=>false
theorem Jc:∀ (os:List Oper)(j:Nat)(F:Bs),ops.toList.drop j=os→Wo X N ops bs i0 os j F=true→RestT X N ops bs i0 os j F
 | [],_,_,_,_=>trivial
 | o::os,j,F,hos,h=>by
   have ho:ops[j]?=some o:=by
    have:(ops.toList.drop j)[0]?=some o:=by rw [hos];rfl
    rw [List.getElem?_drop] at this
    simpa using this
   have hos':ops.toList.drop (j+1)=os:=by
    have:(ops.toList.drop j).drop 1=os:=by rw [hos];rfl
    rw [List.drop_drop] at this
    exact this
   unfold Wo at h
   split at h
   ·rename_i hb
    exact .inl ⟨hb,Jc os _ _ hos' h⟩
   ·split at h
    ·rename_i hw
     split at h
     ·cases h
     ·rename_i hl
      split at h
      ·rename_i x hx
       split at h
       ·rename_i hd
        exact .inr ⟨x,hd,fun S'=>Ndo.ev ho hw (by rw [Ms hl];exact hx),Jc os _ _ hos' h⟩
       ·cases h
      ·split at h
       ·rename_i x hx
        split at h
        ·rename_i hd
         exact .inr ⟨x,hd,fun ⟨bx,tk⟩=>Ix ho hw (Mr hx bx tk),Jc os _ _ hos' h⟩
        ·cases h
       ·cases h
    ·rename_i hw
     split at h
     ·rename_i hd
      exact .inr ⟨_,hd,fun S'=>Ndo.skip ho hw,Jc os _ _ hos' h⟩
     ·cases h
    ·cases h
theorem H3 {i:Nat}{o:Oper}{Hs:List St}{pend:List Gl}(h:Thr X N ops i0 o F S ch S1)(ho:ops[i0]?=some o:=by rfl)(hr:Wo X N ops bs i0 (ops.toList.drop (i0+1)) (i0+1) (putF o.dst .junk F)=true:=by rfl) :
 Drv X N ops bs em [] i F S Hs pend (AtT X N ops bs i0 ch S1) :=
 ⟨o,ho,h,Jc _ _ _ rfl hr⟩
end
section
variable {X:Cx}{B:Bx}{S S':St}{F:Bs}{R:AE→St→Prop}{ops:Array Oper}{i:Nat}{l:List Nat}{k:List Item}{o:Oper}{c:Call}{fo p q:Operand}{K:List Item}{F':Bs}
def atR (id:Nat):List Item→Bool
 | .code (.region j _ _)::_=>Nat.beq j id
 | _=>false
def evT (X:Cx)(N:Nat)(id:Nat):Nat→List Item→Bs→St→List Item × Bs × St
 | 0,K,F,S=>(K,F,S)
 | n+1,K,F,S=>match atR id K with
   | true=>(K,F,S)
   | false=>match ev X N 1 K F S with
     | (K',F',S')=>evT X N id n K' F' S'
theorem AK.evj {K':List Item}{F':Bs}{S':St}(id:Nat):∀ (n:Nat){K:List Item}{F:Bs}{S:St},evT X B.fn.ntmps id n K F S=(K',F',S')→AK X B K' F' S' R→AK X B K F S R
 | 0,K,F,S,h,hk=>by
   simp only [evT] at h
   cases h;exact hk
 | n+1,K,F,S,h,hk=>by
   simp only [evT] at h
   split at h
   ·cases h;exact hk
   ·generalize he:Go.V.ev X B.fn.ntmps 1 K F S=t at h
    obtain ⟨K1,F1,S1⟩:=t
    exact AK.ev 1 he (AK.evj id n h hk)
theorem AK.hcn {f:FuncId}{caps xs zs ys:List AV}{r y:AV}{bx1 bx2 bxc bx3:List (List (List AV))}{tkc tk1:List Nat}{S2:St}
 (n:Nat)(σ τ:List Nat)(hc:Hands X f ys ⟨bxc,tkc⟩ y ⟨bx1,tk1⟩)(hk:AK X B K F' S2 R)(ho:ops[i]?=some o:=by rfl)(hw:As ops F o=some true:=by rfl)(hop:o.op=.call c:=by rfl)(hcal:c.callee=.value fo:=by rfl)
 (hfo:Cg X F fo=some (.fn f caps):=by rfl)(hx:Ej X F c.args.toList=some xs:=by rfl)(hzs:G0 xs caps=some zs:=by rfl)(hσ:G1 σ=true:=by rfl)(hτ:G1 τ=true:=by rfl)
 (hσl:(σ.all fun i=>Nat.blt i S.boxes.length)=true:=by rfl)(hτl:(τ.all fun t=>Nat.blt t S.toks.length)=true:=by rfl)(hsb:W6 σ S.boxes=some bx2:=by rfl) [hb:RinB σ τ bx2 bxc]
 (ht:τ.map (fun t=>S.toks.getD t 0)=tkc:=by rfl) [ha:RinL σ τ zs ys](hb1:bx1.length=σ.length:=by rfl)(ht1:Nat.ble τ.length tk1.length=true:=by rfl){τ':List Nat}
 (hτ':Eu τ S.toks.length (tk1.length-τ.length)=τ':=by rfl) [hR:RoutB σ τ' bx3 bx1] [hr:RoutC σ τ' r y](hS':St.mk (Jk S.boxes σ bx3) (Jk S.toks τ tk1++tk1.drop τ.length)=S':=by rfl)
 (hd:Ci B.fn.ntmps o.dst=true:=by rfl)(he:Go.V.ev X B.fn.ntmps n (.inRegion ops l::k) (putF o.dst r F) S'=(K,F',S2):=by rfl):AK X B (.inRegion ops (i::l)::k) F S R :=
 AK.nd (O2 σ τ hc ho hw hop hcal hfo hx hzs hσ hτ hσl hτl hsb ht hb1 ht1 hτ' hS') ho hd (AK.ev n he hk)
theorem AK.pcj {f:FuncId}{caps xs zs ys:List AV}{r:AV}{S2:St}(n:Nat)(hc:Pure X f ys r)(hk:AK X B K F' S2 R)(ho:ops[i]?=some o:=by rfl)(hw:As ops F o=some true:=by rfl)
 (hop:o.op=.call c:=by rfl)(hcal:c.callee=.value fo:=by rfl)(hfo:Cg X F fo=some (.fn f caps):=by rfl)(hx:Ej X F c.args.toList=some xs:=by rfl)(hzs:G0 xs caps=some zs:=by rfl)
 (hd:Ci B.fn.ntmps o.dst=true:=by rfl) [hs:RinL [] [] zs ys] [hok:OK 0 0 r](he:evT X B.fn.ntmps n 100 (.inRegion ops l::k) (putF o.dst r F) S=(K,F',S2):=by rfl):AK X B (.inRegion ops (i::l)::k) F S R :=
 AK.nd (Ndo.pc hc ho hw hop hcal hfo hx hzs hok.ok) ho hd (AK.evj n 100 he hk)
theorem AK.hcj {f:FuncId}{caps xs zs ys:List AV}{r y:AV}{bx1 bx2 bxc bx3:List (List (List AV))}{tkc tk1:List Nat}{S2:St}
 (n:Nat)(σ τ:List Nat)(hc:Hands X f ys ⟨bxc,tkc⟩ y ⟨bx1,tk1⟩)(hk:AK X B K F' S2 R)(ho:ops[i]?=some o:=by rfl)(hw:As ops F o=some true:=by rfl)(hop:o.op=.call c:=by rfl)(hcal:c.callee=.value fo:=by rfl)
 (hfo:Cg X F fo=some (.fn f caps):=by rfl)(hx:Ej X F c.args.toList=some xs:=by rfl)(hzs:G0 xs caps=some zs:=by rfl)(hσ:G1 σ=true:=by rfl)(hτ:G1 τ=true:=by rfl)
 (hσl:(σ.all fun i=>Nat.blt i S.boxes.length)=true:=by rfl)(hτl:(τ.all fun t=>Nat.blt t S.toks.length)=true:=by rfl)(hsb:W6 σ S.boxes=some bx2:=by rfl) [hb:RinB σ τ bx2 bxc]
 (ht:τ.map (fun t=>S.toks.getD t 0)=tkc:=by rfl) [ha:RinL σ τ zs ys](hb1:bx1.length=σ.length:=by rfl)(ht1:Nat.ble τ.length tk1.length=true:=by rfl){τ':List Nat}
 (hτ':Eu τ S.toks.length (tk1.length-τ.length)=τ':=by rfl) [hR:RoutB σ τ' bx3 bx1] [hr:RoutC σ τ' r y](hS':St.mk (Jk S.boxes σ bx3) (Jk S.toks τ tk1++tk1.drop τ.length)=S':=by rfl)
 (hd:Ci B.fn.ntmps o.dst=true:=by rfl)(he:evT X B.fn.ntmps n 100 (.inRegion ops l::k) (putF o.dst r F) S'=(K,F',S2):=by rfl):AK X B (.inRegion ops (i::l)::k) F S R :=
 AK.nd (O2 σ τ hc ho hw hop hcal hfo hx hzs hσ hτ hσl hτl hsb ht hb1 ht1 hτ' hS') ho hd (AK.evj n 100 he hk)
theorem AK.ifj {t:Nat}{x y:Code}{e:Bool}{K1 K2:List Item}{F1 F2:Bs}{S1 S2:St}(n1 n2:Nat)(h1:e=true→AK X B K1 F1 S1 R)(h2:e=false→AK X B K2 F2 S2 R)(hc:lk F t=some (.val (.bool e)):=by rfl)
 (he1:evT X B.fn.ntmps n1 100 (.code x::k) ((t,.lit true)::F) S=(K1,F1,S1):=by rfl)(he2:evT X B.fn.ntmps n2 100 (.code y::k) ((t,.lit false)::F) S=(K2,F2,S2):=by rfl) :
 AK X B (.code (.cond (.tmp t) x y)::k) F S R :=
 AK.cond hc (fun h=>AK.evj n1 100 he1 (h1 h)) (fun h=>AK.evj n2 100 he2 (h2 h))
theorem Tm:∀ {cs:List AV}{us:List Value},Tl cs=some us→cs=us.map .val
 | [],us,h=>by simp only [Tl] at h;cases h;rfl
 | x::l,us,h=>by
   simp only [Tl] at h
   split at h
   ·rename_i v hv
    split at h
    ·rename_i vs hvs
     cases h
     have:x=.val v:=by
      cases x<;>simp [Apl] at hv
      rw [hv]
     rw [this,Tm hvs];rfl
    ·cases h
   ·cases h
theorem Ndo.iface {N:Nat}{t:TypeId}{cs:List AV}{us:List Value}{y:Ty}{fs:List (Nat × Nat)}(ho:ops[i]?=some o:=by rfl)(hw:As ops F o=some true:=by rfl)(hop:o.op=.makeInterface t p:=by rfl)
 (hp:Cg X F p=some (.agg cs):=by rfl)(hu:Tl cs=some us:=by rfl)(hy:X.ty t=some y:=by rfl)(hk:y.k=.str fs:=by rfl):Ndo X N ops i o F (.val (.iface t (.agg ⟨us⟩))) S S:=by
 refine Ndo.val ho hw fun F' E w a hc hI hF=>?_
 rw [hop] at hc
 have h1:=Ah hI hF ((hc p (by simp [Op.operands])).trans hp)
 obtain ⟨d,hdd,hd2⟩:=(X.ty_ok t y hy).agg
 simp only [hk] at hd2
 obtain ⟨fields,rfl,_⟩:=hd2
 generalize hu':a.eval p=u at h1
 have:=Tm hu
 subst this
 cases h1 with
 | agg vs _ hl hr =>
   have:vs=⟨us⟩:=by
    apply Array.ext
    ·simpa using hl
    ·intro j h1 h2
     have:=hr j vs[j] (.val us[j]) (by simp [h1]) (by simp at h2;simp [h2])
     generalize vs[j]=z at this
     cases this
     simp
   subst this
   exact ⟨.iface t (.agg ⟨us⟩),by simp [execOp,hop,hu',Instr.makeInterface,run_underlying hdd],.val _⟩
end
section
variable {X:Cx}{B:Bx}{S:St}{F F1 F2:Bs}{N:Nat}{R:AE→St→Prop}{ops:Array Oper}{i i':Nat}{o:Oper}{os os':List Oper}{x:AV}{bs:List Nat}{em:Nat}{pend pend':List Gl}{KK:Bs→St→Prop}{c:Call}{fo p q:Operand}
theorem Acj (h:∀ S',Ndo X N ops i o F x S' S')(k:Drv X N ops bs em os' i' F2 S [S] pend' KK)(hF:K3 N o.dst x F=some F1:=by rfl)(hg:H1 X N ops S 100 os (i+1) F1 pend=(os',i',F2,pend'):=by rfl)
 (hos:ops.toList.drop (i+1)=os:=by rfl):Drv X N ops bs em (o::os) i F S [S] pend KK:=by
 obtain ⟨h1,rfl⟩:=Dr hF
 exact G4 h h1 (Drv.go k hg hos)
theorem Bl {f:FuncId}{caps xs zs ys:List AV}{r:AV}(hc:Pure X f ys r)(k:Drv X N ops bs em os' i' F2 S [S] pend' KK)(ho:ops[i]?=some o:=by rfl)(hw:As ops F o=some true:=by rfl)
 (hop:o.op=.call c:=by rfl)(hcal:c.callee=.value fo:=by rfl)(hfo:Cg X F fo=some (.fn f caps):=by rfl)(hx:Ej X F c.args.toList=some xs:=by rfl)(hzs:G0 xs caps=some zs:=by rfl)
 (hF:K3 N o.dst r F=some F1:=by rfl) [hs:RinL [] [] zs ys] [hok:OK 0 0 r](hg:H1 X N ops S 100 os (i+1) F1 pend=(os',i',F2,pend'):=by rfl)
 (hos:ops.toList.drop (i+1)=os:=by rfl):Drv X N ops bs em (o::os) i F S [S] pend KK:=by
 obtain ⟨h1,rfl⟩:=Dr hF
 exact G4 (fun S'=>Ndo.pc hc ho hw hop hcal hfo hx hzs hok.ok) h1 (Drv.go k hg hos)
theorem Drv.ig {t e:Nat}{rows:List (List AV)}{sp:Sp}{ik:IntKind}{r:List AV}{y ye:Ty}(n:Int)(h0:0≤n)(hr:rows[n.toNat]?=some r)(k:Drv X N ops bs em os' i' F2 S [S] pend' KK)(ho:ops[i]?=some o:=by rfl)
 (hw:As ops F o=some true:=by rfl)(hop:o.op=.indexAddr t p q:=by rfl)(hp:Cg X F p=some (.sl rows sp):=by rfl)(hq:Cg X F q=some (.val (.int ik n)):=by rfl)
 (hy:X.ty t=some y:=by rfl)(hyk:y.k=.slc e:=by rfl)(hye:X.ty e=some ye:=by rfl)(hl:r.length=ye.size:=by rfl)(hF:K3 N o.dst (.cptr r) F=some F1:=by rfl)
 (hg:H1 X N ops S 100 os (i+1) F1 pend=(os',i',F2,pend'):=by rfl)(hos:ops.toList.drop (i+1)=os:=by rfl):Drv X N ops bs em (o::os) i F S [S] pend KK :=
 Acj (fun _=>Ndo.index ho hw hop hp hq hy hyk hye hl h0 hr) k hF hg hos
theorem Drv.cg {t t':Nat}{s s':List UInt8}(hl:s.length+s'.length≤1000000000000)(k:Drv X N ops bs em os' i' F2 S [S] pend' KK)(ho:ops[i]?=some o:=by rfl)(hw:As ops F o=some true:=by rfl)
 (hop:o.op=.binOp .add t p q t':=by rfl)(hp:Cg X F p=some (str s):=by rfl)(hq:Cg X F q=some (str s'):=by rfl)(hF:K3 N o.dst (str (s++s')) F=some F1:=by rfl)
 (hg:H1 X N ops S 100 os (i+1) F1 pend=(os',i',F2,pend'):=by rfl)(hos:ops.toList.drop (i+1)=os:=by rfl):Drv X N ops bs em (o::os) i F S [S] pend KK :=
 Acj (fun _=>Me ho hw hop hp hq hl rfl) k hF hg hos
theorem AK.ct {l:List Nat}{k:List Item}{K:List Item}{F':Bs}{S2:St}{t t':Nat}{s s':List UInt8}(hl:s.length+s'.length≤1000000000000)(hk:AK X B K F' S2 R)(ho:ops[i]?=some o:=by rfl)(hw:As ops F o=some true:=by rfl)
 (hop:o.op=.binOp .add t p q t':=by rfl)(hp:Cg X F p=some (str s):=by rfl)(hq:Cg X F q=some (str s'):=by rfl)(hd:Ci B.fn.ntmps o.dst=true:=by rfl)
 (he:Go.V.ev X B.fn.ntmps 200 (.inRegion ops l::k) (putF o.dst (str (s++s')) F) S=(K,F',S2):=by rfl):AK X B (.inRegion ops (i::l)::k) F S R :=
 AK.nd (Me ho hw hop hp hq hl rfl) ho hd (AK.ev 200 he hk)
end
section
variable {X:Cx}{B:Bx}{S:St}{F:Bs}{N:Nat}{ops:Array Oper}{i:Nat}{o:Oper}
theorem Pt {f:FuncId}{args:List AV}{r:AV}{vs:List Value}(hE:Jh X.P f)(ha:args=vs.map .val)
 (h:∀ w,X.Glob w→Calls X.P f ⟨vs⟩ w fun e w'=>(∃ v,e=.returned v∧∀ E w,Rel E w v r)∧RowKit.Below w.heap.size w w'):Pure X f args r:=by
 refine ⟨hE,fun E w us _ hI hs hr=>?_⟩
 have:us=⟨vs⟩:=by
  subst ha
  apply Array.ext
  ·simpa using hs
  ·intro j h1 h2
   have:=hr j us[j] (.val vs[j]) (by simp [h1]) (by simp at h2;simp [h2])
   generalize us[j]=z at this
   cases this
   simp
 subst this
 refine (h w hI.glob).mono fun e w' he=>?_
 obtain ⟨⟨v,rfl,hv⟩,hb⟩:=he
 have hlt:∀ b o v,w.cell? ⟨b,o,none⟩=some v→w'.cell? ⟨b,o,none⟩=some v:=fun b o v hc=>by
  have hl:=Gm hc
  unfold World.cell? at hc ⊢
  rw [hb.block b hl];exact hc
 have ev:Evol E w E w' E.boxes.length E.toks.length:=⟨rfl,fun _ _ h=>⟨h,fun _ h=>h⟩,fun _ _ k h=>⟨k,h,.inl rfl⟩,hb.os,hb.tape,hb.output,hb.size,fun k hk _=>hb.block k hk,fun b o v _ hc=>hlt b o v hc,fun _ _ _ h=>h,fun _ _ h=>h,rfl,fun q e he=>by
  have hl:q<w.heap.size:=by
   rcases Nat.lt_or_ge q w.heap.size with h | h
   ·exact h
   ·simp [Dh,Array.getElem?_eq_none h] at he
  unfold Dh at he ⊢
  rw [hb.block q hl];exact he,fun _ _ _ b _ _ _ _ o ho=>(hb.block b (Jp ho)).trans ho⟩
 exact ⟨E,⟨[],[]⟩,hI.keep ev (fun b hb'=>hb.block b (hI.own_lt hb')),ev.weaken (Nat.zero_le _) (Nat.zero_le _),r,hv E w',rfl,rfl⟩
theorem Acp {c:Call}{fo:Operand}{f:FuncId}{us:List Value}{xs:List AV}{v:Value}(hr:∀ w,(callFunc f ⟨us⟩).run X.P w=.ok (.value v) w)(ho:ops[i]?=some o:=by rfl)(hw:As ops F o=some true:=by rfl)
 (hop:o.op=.call c:=by rfl)(hcal:c.callee=.value fo:=by rfl)(hfo:Cg X F fo=some (.fn f []):=by rfl)(hx:Ej X F c.args.toList=some xs:=by rfl)(hu:Tl xs=some us:=by rfl):Ndo X N ops i o F (.val v) S S:=by
 refine Ndo.val ho hw fun F' E w a hc hI hF=>?_
 rw [hop] at hc
 simp only [Op.operands,Call.operands,hcal,Array.toList_append,List.mem_append] at hc
 have h1:=Ah hI hF ((hc fo (.inl (by simp))).trans hfo)
 have e2:Ej X F' c.args.toList=Ej X F c.args.toList:=by
  have:∀ l:List Operand,(∀ p,p∈l→Cg X F' p=Cg X F p)→Ej X F' l=Ej X F l:=by
   intro l
   induction l with
   | nil=>intro _;rfl
   | cons p l ih=>intro h;simp only [Ej];rw [h p (by simp),ih fun q hq=>h q (by simp [hq])]
  exact this _ fun p hp=>hc p (.inr hp)
 obtain ⟨hl,hrr⟩:=Ke hI hF (e2.trans hx)
 have hxs:=Tm hu
 subst hxs
 have hargs:c.args.map a.eval=⟨us⟩:=by
  apply Array.ext
  ·simpa using hl
  ·intro j h1 h2
   have:=hrr j (c.args.map a.eval)[j] (.val us[j]) (Array.getElem?_eq_getElem h1) (by simp at h2;simp [h2])
   generalize (c.args.map a.eval)[j]=z at this
   cases this
   simp
 cases hh:a.eval fo<;>rw [hh] at h1<;>cases h1
 rename_i caps hcl hcr
 have hcaps:caps=#[]:=by apply Array.eq_empty_of_size_eq_zero;simpa using hcl
 subst hcaps
 refine ⟨v,?_,.val v⟩
 have:=hr w
 rw [← hargs] at this
 simp [execOp,hop,resolve,hcal,hh,Deferred.ofValue,invoke,this]
end
end Go.V
namespace Go.V
open Go Go.Proofs
def tyL:List (Nat × Ty):=[
 (30,⟨4,.str [(0,1),(1,1),(2,1),(3,1)],[.val (.int .i64 0),.val (.string ⟨#[]⟩),.val (.int .i64 0),.sl [] .tight],[false,false,false,false]⟩),
 (3,⟨1,.int .i64,[.val (.int .i64 0)],[]⟩),
 (28,⟨1,.slc 30,[.sl [] .tight],[]⟩),
 (9,⟨1,.string,[.val (.string ⟨#[]⟩)],[]⟩),
 (40,⟨8,.str [(0,1),(1,1),(2,1),(3,1),(4,1),(5,1),(6,1),(7,1)],[.val (.int .i64 0),.sl [] .tight,.sl [] .tight,.val (.int .i64 0),.val (.int .i64 0),.val (.int .i64 0),.val (.int .i64 0),.val (.int .i64 0)],[false,false,false,false,false,false,false,false]⟩),
 (37,⟨1,.slc 3,[.sl [] .tight],[]⟩),
 (80,⟨1,.slc 9,[.sl [] .tight],[]⟩),
 (250,⟨2,.str [(0,1),(1,1)],[.val (.int .i64 0),.val (.int .i64 0)],[false,false]⟩),
 (85,⟨5,.str [(0,1),(1,1),(2,1),(3,2)],[.sl [] .tight,.sl [] .tight,.sl [] .tight,.val (.int .i64 0),.sl [] .tight],[false,false,false,true]⟩),
 (38,⟨1,.slc 137,[.sl [] .tight],[]⟩),
 (334,⟨1,.flat,[.val (.pointer none)],[]⟩),
 (4,⟨1,.bool,[.val (.bool false)],[]⟩),
 (24,⟨4,.str [(0,1),(1,1),(2,1),(3,1)],[.val (.int .i64 0),.val (.string ⟨#[]⟩),.val (.int .i64 0),.sl [] .tight],[false,false,false,false]⟩),
 (90,⟨8,.str [(0,1),(1,1),(2,1),(3,1),(4,4)],[.val (.int .i64 0),.val (.int .i64 0),.val (.int .i64 0),.val (.bool false),.val (.int .i64 0),.val (.string ⟨#[]⟩),.val (.int .i64 0),.sl [] .tight],[false,false,false,false,true]⟩),
 (137,⟨1,.slc 185,[.sl [] .tight],[]⟩),
 (143,⟨3,.str [(0,1),(1,1),(2,1)],[.sl [] .tight,.sl [] .tight,.sl [] .tight],[false,false,false]⟩),
 (301,⟨1,.flat,[.val (.pointer none)],[]⟩),
 (71,⟨2,.str [(0,1),(1,1)],[.val (.int .i64 0),.sl [] .tight],[false,false]⟩),
 (5,⟨1,.int .u8,[.val (.int .u8 0)],[]⟩),
 (74,⟨3,.str [(0,2),(2,1)],[.val (.int .i64 0),.sl [] .tight,.sl [] .tight],[true,false]⟩),
 (185,⟨2,.str [(0,1),(1,1)],[.val (.bool false),.val (.int .i64 0)],[false,false]⟩),
 (81,⟨1,.slc 90,[.sl [] .tight],[]⟩),
 (150,⟨2,.str [(0,1),(1,1)],[.val (.int .i64 0),.val (.string ⟨#[]⟩)],[false,false]⟩),
 (159,⟨1,.slc 5,[.sl [] .tight],[]⟩),
 (83,⟨2,.str [(0,1),(1,1)],[.val (.int .i64 0),.sl [] .tight],[false,false]⟩),
 (251,⟨1,.slc 250,[.sl [] .tight],[]⟩),
 (307,⟨1,.flat,[.val (.pointer none)],[]⟩),
 (210,⟨2,.str [(0,1),(1,1)],[.val (.int .i64 0),.val (.int .i64 0)],[false,false]⟩),
 (268,⟨2,.str [(0,1),(1,1)],[.val (.int .i64 0),.val (.int .i64 0)],[false,false]⟩),
 (26,⟨1,.slc 103,[.sl [] .tight],[]⟩),
 (212,⟨3,.str [(0,2),(2,1)],[.val (.int .i64 0),.val (.int .i64 0),.val (.bool false)],[true,false]⟩),
 (139,⟨1,.slc 251,[.sl [] .tight],[]⟩),
 (298,⟨1,.slc 306,[.sl [] .tight],[]⟩),
 (303,⟨3,.str [(0,1),(1,1),(2,1)],[.sl [] .tight,.val (.int .i64 0),.val (.bool false)],[false,false,false]⟩),
 (92,⟨1,.flat,[.val (.pointer none)],[]⟩),
 (98,⟨11,.str [(0,2),(2,1),(3,1),(4,1),(5,1),(6,1),(7,4)],[.val (.int .i64 0),.sl [] .tight,.sl [] .tight,.sl [] .tight,.sl [] .tight,.sl [] .tight,.sl [] .tight,.val (.int .i64 0),.val (.string ⟨#[]⟩),.val (.int .i64 0),.sl [] .tight],[true,false,false,false,false,false,true]⟩),
 (306,⟨3,.str [(0,1),(1,1),(2,1)],[.val (.int .i64 0),.val (.string ⟨#[]⟩),.val (.int .i64 0)],[false,false,false]⟩),
 (49,⟨1,.slc 114,[.sl [] .tight],[]⟩),
 (59,⟨8,.str [(0,1),(1,1),(2,1),(3,1),(4,1),(5,1),(6,1),(7,1)],[.val (.int .i64 0),.sl [] .tight,.sl [] .tight,.val (.int .i64 0),.val (.int .i64 0),.val (.int .i64 0),.val (.int .i64 0),.val (.int .i64 0)],[false,false,false,false,false,false,false,false]⟩),
 (140,⟨1,.slc 212,[.sl [] .tight],[]⟩),
 (169,⟨5,.str [(0,2),(2,1),(3,1),(4,1)],[.val (.int .i64 0),.sl [] .tight,.val (.int .i64 0),.sl [] .tight,.sl [] .tight],[true,false,false,false]⟩),
 (72,⟨1,.slc 143,[.sl [] .tight],[]⟩),
 (217,⟨1,.flat,[.val (.pointer none)],[]⟩),
 (114,⟨4,.str [(0,1),(1,1),(2,1),(3,1)],[.val (.int .i64 0),.val (.int .i64 0),.val (.int .i64 0),.val (.bool false)],[false,false,false,false]⟩),
 (310,⟨2,.str [(0,1),(1,1)],[.val (.pointer none),.sl [] .tight],[false,false]⟩),
 (103,⟨6,.str [(0,1),(1,1),(2,4)],[.val (.bool false),.val (.int .i64 0),.val (.int .i64 0),.val (.string ⟨#[]⟩),.val (.int .i64 0),.sl [] .tight],[false,false,true]⟩),
 (141,⟨1,.slc 4,[.sl [] .tight],[]⟩),
 (170,⟨1,.flat,[.val (.pointer none)],[]⟩),
 (361,⟨1,.int .u64,[.val (.int .u64 0)],[]⟩),
 (368,⟨1,.int .u32,[.val (.int .u32 0)],[]⟩),
 (96,⟨1,.slc 37,[.sl [] .tight],[]⟩),
 (194,⟨3,.str [(0,1),(1,1),(2,1)],[.val (.pointer none),.val (.pointer none),.val (.int .i64 0)],[false,false,false]⟩),
 (351,⟨1,.int .u64,[.val (.int .u64 0)],[]⟩),
 (68,⟨3,.str [(0,2),(2,1)],[.val (.int .i64 0),.sl [] .tight,.sl [] .tight],[true,false]⟩),
 (173,⟨10,.str [(0,4),(4,4),(8,1),(9,1)],[.val (.int .i64 0),.val (.string ⟨#[]⟩),.val (.int .i64 0),.sl [] .tight,.val (.int .i64 0),.val (.string ⟨#[]⟩),.val (.int .i64 0),.sl [] .tight,.val (.int .i64 0),.val (.int .i64 0)],[true,true,false,false]⟩),
 (312,⟨4,.str [(0,2),(2,1),(3,1)],[.val (.pointer none),.sl [] .tight,.sl [] .tight,.val (.int .i64 0)],[true,false,false]⟩),
 (115,⟨1,.slc 40,[.sl [] .tight],[]⟩),
 (280,⟨2,.arr 2 3,[.val (.int .i64 0),.val (.int .i64 0)],[]⟩),
 (201,⟨3,.str [(0,1),(1,1),(2,1)],[.sl [] .tight,.sl [] .tight,.sl [] .tight],[false,false,false]⟩),
 (167,⟨1,.slc 173,[.sl [] .tight],[]⟩),
 (219,⟨2,.str [(0,1),(1,1)],[.val (.int .i64 0),.sl [] .tight],[false,false]⟩),
 (22,⟨1,.slc 24,[.sl [] .tight],[]⟩),
 (57,⟨1,.slc 178,[.sl [] .tight],[]⟩),
 (66,⟨1,.slc 201,[.sl [] .tight],[]⟩),
 (162,⟨1,.slc 166,[.sl [] .tight],[]⟩),
 (166,⟨3,.str [(0,1),(1,1),(2,1)],[.val (.bool false),.val (.string ⟨#[]⟩),.val (.bool false)],[false,false,false]⟩),
 (192,⟨1,.flat,[.val (.pointer none)],[]⟩),
 (198,⟨1,.slc 284,[.sl [] .tight],[]⟩),
 (65,⟨2,.str [(0,1),(1,1)],[.val (.int .i64 0),.sl [] .tight],[false,false]⟩),
 (127,⟨1,.flat,[.val (.pointer none)],[]⟩),
 (348,⟨2,.str [(0,1),(1,1)],[.sl [] .tight,.val (.int .i64 0)],[false,false]⟩),
 (178,⟨1,.slc 238,[.sl [] .tight],[]⟩),
 (79,⟨1,.flat,[.val .nilFunc],[]⟩),
 (284,⟨1,.slc 318,[.sl [] .tight],[]⟩),
 (199,⟨1,.slc 290,[.sl [] .tight],[]⟩),
 (308,⟨1,.flat,[.val (.pointer none)],[]⟩),
 (394,⟨3,.str [(0,1),(1,1),(2,1)],[.val (.string ⟨#[]⟩),.val (.string ⟨#[]⟩),.val .nilIface],[false,false,false]⟩),
 (2,⟨1,.int .i64,[.val (.int .i64 0)],[]⟩),
 (238,⟨2,.str [(0,1),(1,1)],[.val (.bool false),.val (.int .i64 0)],[false,false]⟩),
 (318,⟨2,.str [(0,1),(1,1)],[.val (.int .i64 0),.val (.int .i64 0)],[false,false]⟩),
 (290,⟨3,.str [(0,2),(2,1)],[.val (.int .i64 0),.val (.int .i64 0),.val (.bool false)],[true,false]⟩),
 (288,⟨2,.str [(0,1),(1,1)],[.val (.int .i64 0),.val (.int .i64 0)],[false,false]⟩),
 (340,⟨1,.flat,[.val .nilIface],[]⟩),
 (179,⟨1,.flat,[.val .nilFunc],[]⟩),
 (205,⟨1,.slc 74,[.sl [] .tight],[]⟩),
 (338,⟨6,.arr 6 9,[.val (.string ⟨#[]⟩),.val (.string ⟨#[]⟩),.val (.string ⟨#[]⟩),.val (.string ⟨#[]⟩),.val (.string ⟨#[]⟩),.val (.string ⟨#[]⟩)],[]⟩),
 (345,⟨1,.str [(0,1)],[.val (.int .i64 0)],[false]⟩),
 (95,⟨1,.flat,[.val .nilFunc],[]⟩),
 (188,⟨1,.flat,[.val .nilFunc],[]⟩),
 (366,⟨1,.flat,[.val (.pointer none)],[]⟩),
 (174,⟨2,.arr 2 4,[.val (.bool false),.val (.bool false)],[]⟩),
 (261,⟨1,.flat,[.val .nilFunc],[]⟩),
 (282,⟨6,.arr 6 4,[.val (.bool false),.val (.bool false),.val (.bool false),.val (.bool false),.val (.bool false),.val (.bool false)],[]⟩),
 (330,⟨1,.flat,[.val (.pointer none)],[]⟩),
 (337,⟨2,.arr 2 9,[.val (.string ⟨#[]⟩),.val (.string ⟨#[]⟩)],[]⟩),
 (400,⟨1,.str [(0,1)],[.val (.string ⟨#[]⟩)],[false]⟩),
 (33,⟨1,.flat,[.val .nilFunc],[]⟩),
 (333,⟨1,.flat,[.val .nilFunc],[]⟩)]
def As9:Nat→Option Ty:=Acc tyL
set_option maxRecDepth 100000 in
theorem Atz:Aiv Tryz.prog As9 tyL:=by
 unfold tyL
 iterate 98 refine ⟨by kernel_rfl,by kernel_rfl,?_⟩
 trivial
def condG:List AV:=[.val (.string ⟨#[60]⟩),.val (.string ⟨#[60,61]⟩),.val (.string ⟨#[62]⟩),.val (.string ⟨#[62,61]⟩),.val (.string ⟨#[61,61]⟩),.val (.string ⟨#[33,61]⟩)]
noncomputable def gK:Nat:=Tryz.prog.globals.size
def gAt (g:Nat):Option (List AV) :=
 match Nat.beq g 1 with
 | true=>some condG
 | false=>none
def IfaceV (w:World)(g:Nat):Prop:=∃ ev,w.cell? ⟨g,0,none⟩=some ev∧(ev=.nilIface∨∃ te pe,ev=.iface te pe)
structure gOk (w:World):Prop where
 cond:∀ (j:Nat) (x:AV),condG[j]?=some x→∃ v,w.cell? ⟨1,j,none⟩=some v∧x=.val v
 tab:∃ e z,w.heap[2]?=some (.cells (Lib.pow10Tab.map fun z=>Value.int .u64 z).toArray e z)
 syn:IfaceV w 6
 rng:IfaceV w 7
theorem Aa9 {k:Nat}(h:decide (k<Tryz.prog.globals.size)=true):k<gK:=by unfold gK;exact of_decide_eq_true h
theorem IfaceV.st {w w':World}{g:Nat}(h:∀ k,k<gK→w'.heap[k]?=w.heap[k]?)(hg:g<gK)(hv:IfaceV w g):IfaceV w' g:=by
 obtain ⟨ev,h1,h2⟩:=hv
 refine ⟨ev,?_,h2⟩
 unfold World.cell? at h1 ⊢
 rw [h g hg];exact h1
noncomputable def X:Cx where
 P:=Tryz.prog
 ty:=As9
 G:=gAt
 K0:=gK
 Glob:=gOk
 ty_ok:=Alg Atz
 glob_st w w' h hs _ hg:={
  cond:=fun j x hx=>by
   obtain ⟨v,hv,he⟩:=hg.cond j x hx
   refine ⟨v,?_,he⟩
   unfold World.cell? at hv ⊢
   rw [h 1 (Aa9 (by kernel_rfl))]
   exact hv
  tab:=by
   obtain ⟨e,z,ht⟩:=hg.tab
   exact ⟨e,z,(h _ (Aa9 (by kernel_rfl))).trans ht⟩
  syn:=hg.syn.st h (Aa9 (by kernel_rfl))
  rng:=hg.rng.st h (Aa9 (by kernel_rfl)) }
 glob_G w hw g cells hg:=by
  unfold gAt at hg
  split at hg
  ·rename_i hb
   cases hg
   have:=Nat.eq_of_beq_eq_true hb
   subst this
   exact ⟨Aa9 (by kernel_rfl),hw.cond⟩
  ·cases hg
 mixed:=by kernel_rfl
inductive Nd where
 | mk (kind:Int) (name:List UInt8) (num:Int) (kids:List Nd)
def Nd.kind:Nd→Int | .mk k _ _ _=>k
def Nd.name:Nd→List UInt8 | .mk _ s _ _=>s
def Nd.num:Nd→Int | .mk _ _ m _=>m
def Nd.kids:Nd→List Nd | .mk _ _ _ ks=>ks
mutual
def Apb:Nd→List AV
 | .mk k s m ks=>[.val (.int .i64 k),.val (.string ⟨⟨s⟩⟩),.val (.int .i64 m),.sl (Ai ks) .no]
def Ai:List Nd→List (List AV)
 | []=>[]
 | n::l=>Apb n::Ai l
end
def Ae (n:Nd):List AV:=[.val (.int .i64 n.kind),.val (.string ⟨⟨n.name⟩⟩),.val (.int .i64 n.num),.sl (Ai n.kids) .no]
theorem Aj2 (n:Nd):Apb n=Ae n:=by cases n;rfl
theorem Aj (l:List Nd):Ai l=l.map Ae:=by
 induction l with
 | nil=>rfl
 | cons n l ih=>simp only [Ai,ih,Aj2,List.map_cons]
theorem Al {l:List Nd}{i:Nat}{n:Nd}(h:l[i]?=some n):(Ai l)[i]?=some (Ae n):=by rw [Aj];simp [h]
theorem Ad (l:List Nd):(Ai l).length=l.length:=by rw [Aj];simp
theorem Nd.ind {P:Nd→Prop}(h:∀ n,(∀ k,k∈n.kids→P k)→P n):∀ n,P n:=by
 intro n
 have:∀ m:Nat,∀ n:Nd,SizeOf.sizeOf n<m→P n:=by
  intro m
  induction m with
  | zero=>intro n h;omega
  | succ m ih =>
    intro n hn
    refine h n fun k hk=>ih k ?_
    cases n with
    | mk a b c ks =>
      have:=List.sizeOf_lt_of_mem hk
      simp only [Nd.kids] at this
      simp at hn
      omega
 exact this _ n (Nat.lt_succ_self _)
theorem Aew:∀ n:Nd,∀ x,x∈Ae n→Ok 0 0 x:=by
 intro n
 induction n using Nd.ind with
 | h n ih =>
   intro x hx
   simp only [Ae,List.mem_cons,List.not_mem_nil,or_false] at hx
   rcases hx with rfl | rfl | rfl | rfl
   ·exact .val _
   ·exact .val _
   ·exact .val _
   ·refine .sl _ _ (fun r hr y hy=>?_) (fun t ht=>by cases ht)
    rw [Aj] at hr
    obtain ⟨k,hk,rfl⟩:=List.mem_map.1 hr
    exact ih k hk y hy
theorem Agw (l:List Nd):D9 0 0 (Ai l):=fun r hr x hx=>by
 rw [Aj] at hr
 obtain ⟨k,_,rfl⟩:=List.mem_map.1 hr
 exact Aew k x hx
mutual
def Af:Nd→Nat
 | .mk _ _ _ ks=>1+An ks
def An:List Nd→Nat
 | []=>0
 | n::l=>Af n+An l
end
theorem Be (n:Nd):Af n=1+An n.kids:=by cases n;rfl
theorem Iz (a b:List Nd):An (a++b)=An a+An b:=by
 induction a with
 | nil=>simp [An]
 | cons x a ih=>simp [An,ih];omega
theorem Lj {l:List Nd}{i:Nat}:An (l.take i)≤An l:=by
 have:=Iz (l.take i) (l.drop i)
 rw [List.take_append_drop] at this;omega
theorem Ko {l:List Nd}{i:Nat}{n:Nd}(h:l[i]?=some n):An (l.take (i+1))=An (l.take i)+Af n:=by
 rw [List.take_add_one,h,Iz];simp [An]
theorem Ax (l:List Nd):l.length≤An l:=by
 induction l with
 | nil=>simp [An]
 | cons x l ih=>have:=Be x;simp [An];omega
theorem Ac {n:Int}(h0:-9223372036854775808≤n)(h:n≤9223372036854775807):IntKind.i64.wrap n=n:=by
 unfold IntKind.wrap;simp [IntKind.bits,IntKind.signed];omega
instance {n m:Nat}{k:Nd}:OKL n m (Ae k):=⟨fun x hx=>(Aew k x hx).mono (Nat.zero_le _) (Nat.zero_le _)⟩
instance {n m:Nat}{l:List Nd}:OKR n m (Ai l):=⟨fun r hr x hx=>(Agw l r hr x hx).mono (Nat.zero_le _) (Nat.zero_le _)⟩
theorem Bn {a b:Int}{k:IntKind}(h:a=b):some (AV.val (.int k a))=some (AV.val (.int k b)):=by rw [h]
theorem vsx {a b:Int}(h:-9223372036854775808≤a∧a≤9223372036854775807∧a=b):some (AV.val (.int .i64 (IntKind.i64.wrap a)))=some (AV.val (.int .i64 b)) :=
 Bn ((Ac h.1 h.2.1).trans h.2.2)
theorem t1 (n:Nd)(hn:Af n≤4000000000):Pure X 292 [.agg (Ae n)] (.val (.int .i64 (Af n))):=by
 induction n using Nd.ind with
 | h n ih =>
 refine Pure.mk Tryz.func292 rfl rfl (by kernel_rfl) ?_
 refine AK.ev 100 rfl ?_
 have hc:=Be n
 have hll:=Ax n.kids
 refine AK.while_ (ι:=Nat) 1 0 (fun i=>i≤n.kids.length) (fun i=>[(9,.val (.int .i64 i)),(8,.val (.int .i64 n.kids.length)),(7,.sl (Ai n.kids) .no),(3,.val (.int .i64 (1+An (n.kids.take i):Nat)))])
  (fun _=>⟨[[Ae n]],[]⟩) (fun i=>n.kids.length-i) ?_ 0 (Nat.zero_le _) ⟨rfl,by rw [← Ad];rfl,rfl,rfl,trivial⟩
 intro i hi IH
 refine AK.ev 100 rfl ?_
 refine AK.cond rfl (fun hlt=>?_) (fun hge=>?_)
 ·have hlt':i<n.kids.length:=by have:=of_decide_eq_true hlt;omega
  obtain ⟨kid,hkid⟩:=Ab n.kids hlt'
  have hsn:=Ko hkid
  have hle:=Lj (l:=n.kids) (i:=i+1)
  refine AK.ev 100 rfl ?_
  refine AK.index rfl rfl rfl rfl rfl rfl rfl rfl rfl rfl (by omega) (Al hkid) ?_
  refine AK.ev 100 rfl ?_
  refine AK.call (ih kid (List.mem_of_getElem? hkid) (by omega)) rfl rfl rfl rfl rfl rfl rfl rfl ?_
  refine AK.ev 100 rfl ?_
  exact IH (i+1) hlt' (by omega) _ _ ⟨vsx (by omega),rfl,rfl,vsx (by omega),trivial⟩ rfl rfl rfl
 ·have:i=n.kids.length:=by have:=of_decide_eq_false hge;omega
  subst this
  refine AK.ev 100 rfl ?_
  exact AK.ret Tryz.func292 rfl rfl rfl (by rw [hc,List.take_length];rfl)
abbrev vi (n:Int):AV:=.val (.int .i64 n)
abbrev vb (b:Bool):AV:=.val (.bool b)
abbrev vc (c:UInt8):AV:=.val (.int .u8 c.toNat)
def Bu (n lo hi:Int):Bool:=decide (lo≤n)&&decide (n≤hi)
def Cm (c:UInt8):Bool:=Bu c.toNat 97 122
def digit (c:UInt8):Bool:=Bu c.toNat 48 57
theorem J0 (n lo hi:Int):Pure X 49 [vi n,vi lo,vi hi] (vb (Bu n lo hi)):=by
 refine Pure.run Tryz.func49 ?_
 refine AK.gd (fun h=>?_) (fun h=>?_)
 ·refine AK.rt Tryz.func49 ?_
  simp_all [Bu,Bv]
 ·refine AK.rt Tryz.func49 ?_
  simp_all [Bu,Bv]
  omega
theorem Ri (c:UInt8):Pure X 304 [vc c] (vb (Cm c)):=by
 refine Pure.run Tryz.func304 ?_
 refine AK.gd (fun h=>?_) (fun h=>?_)
 ·refine AK.rt Tryz.func304 ?_
  simp_all [Cm,Bu,Bv]
 ·refine AK.rt Tryz.func304 ?_
  simp_all [Cm,Bu,Bv]
  omega
theorem Uw (c:UInt8):Pure X 306 [vc c] (vb (digit c)):=by
 refine Pure.run Tryz.func306 ?_
 refine AK.gd (fun h=>?_) (fun h=>?_)
 ·refine AK.rt Tryz.func306 ?_
  simp_all [digit,Bu,Bv]
 ·refine AK.rt Tryz.func306 ?_
  simp_all [digit,Bu,Bv]
  omega
def B4 (l:List (List UInt8)):List (List AV):=l.map fun s=>[str s]
theorem L0 {l:List (List UInt8)}{i:Nat}{s:List UInt8}(h:l[i]?=some s):(B4 l)[i]?=some [str s]:=by simp [B4,h]
theorem Dk (l:List (List UInt8)):(B4 l).length=l.length:=by simp [B4]
instance {n m:Nat}{l:List (List UInt8)}:OKR n m (B4 l):=⟨fun r hr x hx=>by
 obtain ⟨s,_,rfl⟩:=List.mem_map.1 hr
 simp at hx;subst hx;exact .val _⟩
theorem Ba {α:Type}{l:List α}{i:Nat}{x:α}(h:l[i]?=some x):l.drop i=x::l.drop (i+1):=by
 have hi:=Aa h
 rw [List.getElem?_eq_getElem hi] at h
 rw [List.drop_eq_getElem_cons hi,Option.some.inj h]
def has (l:List (List UInt8))(s:List UInt8):Bool:=l.any fun x=>x==s
theorem Ape (l:List (List UInt8))(s:List UInt8)(hl:l.length≤1000000000):Pure X 328 [.sl (B4 l) .no,str s] (vb (has l s)):=by
 refine Pure.run Tryz.func328 ?_
 refine AK.while_ (ι:=Nat) 0 0 (fun i=>i≤l.length∧has l s=has (l.drop i) s) (fun i=>[(5,vi i),(0,.sl (B4 l) .no),(1,str s)]) (fun _=>⟨[],[]⟩) (fun i=>l.length-i) ?_ 0 ⟨Nat.zero_le _,rfl⟩
  ⟨rfl,rfl,rfl,trivial⟩
 intro i hi IH
 refine AK.ei (fun h=>?_) (fun h=>?_)
 ·have hlt:i<l.length:=by have:=of_decide_eq_true h;rw [Dk] at this;omega
  obtain ⟨x,hx⟩:=Ab l hlt
  have hd:has (l.drop i) s=(x==s||has (l.drop (i+1)) s):=by rw [Ba hx];rfl
  refine AK.ix i (by omega) (L0 hx) ?_
  refine AK.if_ (fun h2=>?_) (fun h2=>?_)
  ·refine AK.rt Tryz.func328 ?_
   have h3:(x==s)=true:=h2
   rw [hi.2,hd,h3];rfl
  ·have h3:(x==s)=false:=h2
   exact IH (i+1) ⟨hlt,by rw [hi.2,hd,h3];rfl⟩ (by omega) _ _ ⟨vsx (by omega),rfl,rfl,trivial⟩ rfl rfl rfl
 ·have:i=l.length:=by have:=of_decide_eq_false h;rw [Dk] at this;omega
  refine AK.rt Tryz.func328 ?_
  rw [hi.2,this,List.drop_length];rfl
def Oa:List (List UInt8):=[[97,114,114,97,121],[99,104,101,99,107],[101,108,115,101],[102,111,114],[102,114,111,109],[105,102],[108,101,110],[114,101,97,100],[115,107,105,112],[115,116,111,112],[116,111],[118,97,114],[119,104,105,108,101]]
def Gx:List (List UInt8):=[[43],[45],[42],[40],[41],[91],[93],[123],[125],[59],[61],[60],[62],[63],[61,61],[33,61],[60,61],[62,61]]
theorem Apf (s:List UInt8):Pure X 305 [str s] (vb (has Oa s)):=by
 refine Pure.run Tryz.func305 ?_
 refine AK.pc (Ape Oa s (by decide)) ?_
 exact AK.rt Tryz.func305 rfl
theorem Aki (s:List UInt8):Pure X 311 [str s] (vb (has Gx s)):=by
 refine Pure.run Tryz.func311 ?_
 refine AK.pc (Ape Gx s (by decide)) ?_
 exact AK.rt Tryz.func311 rfl
def L5 (s:List UInt8):Bool:=s.all fun c=>Cm c||digit c
def nameS (s:List UInt8):Bool:=match s with
 | []=>false
 | c::l=>decide (l.length<8)&&Cm c&&!has Oa (c::l)&&L5 (c::l)
theorem Adr (s:List UInt8)(hs:s.length≤1000000000):Pure X 279 [str s] (vb (nameS s)):=by
 refine Pure.run Tryz.func279 ?_
 have fin:∀ {b:Bool},nameS s=b→Bv [vb b]=vb (nameS s):=fun h=>by rw [h];rfl
 cases s with
 | nil =>
   refine AK.gy ?_
   refine AK.gy ?_
   refine AK.gy ?_
   refine AK.yes ?_
   exact AK.rt Tryz.func279 rfl
 | cons c l =>
   have hsz:((⟨⟨c::l⟩⟩:ByteArray).size:Int)=(l.length:Int)+1:=by show ((c::l).length:Int)=_;simp
   refine AK.gn ?_ (ht:=by rw [hsz];exact decide_eq_false (by omega))
   refine AK.gd (fun h1=>?_) (fun h1=>?_)
   ·refine AK.gy ?_
    refine AK.yes ?_
    refine AK.rt Tryz.func279 (fin ?_)
    have:=of_decide_eq_true h1
    rw [hsz] at this
    simp only [nameS]
    rw [decide_eq_false (by omega)];rfl
   ·have hl:l.length<8:=by have:=of_decide_eq_false h1;rw [hsz] at this;omega
    refine AK.by 0 (by omega) (b:=c) rfl ?_
    refine AK.pc (Ri c) ?_
    refine AK.gd (fun h2=>?_) (fun h2=>?_)
    ·refine AK.yes ?_
     refine AK.rt Tryz.func279 (fin ?_)
     have h3:Cm c=false:=by simpa using h2
     simp [nameS,h3]
    have h3:Cm c=true:=by simpa using h2
    refine AK.pc (Apf (c::l)) ?_
    refine AK.if_ (fun h4=>?_) (fun h4=>?_)
    ·refine AK.rt Tryz.func279 (fin ?_)
     simp [nameS,h4]
    have hn:nameS (c::l)=L5 (c::l):=by simp [nameS,h3,h4,hl]
    rw [hn]
    refine AK.while_ (ι:=Nat) 0 0 (fun i=>i≤(c::l).length∧L5 (c::l)=L5 ((c::l).drop i)) (fun i=>[(3,vi i),(0,str (c::l))]) (fun _=>⟨[],[]⟩) (fun i=>(c::l).length-i) ?_ 0 ⟨Nat.zero_le _,rfl⟩
     ⟨rfl,rfl,trivial⟩
    intro i hi IH
    refine AK.ei (fun h=>?_) (fun h=>?_)
    ·have hlt:i<(c::l).length:=by have:=of_decide_eq_true h;rw [hsz] at this;simp;omega
     obtain ⟨x,hx⟩:=Ab (c::l) hlt
     have hd:L5 ((c::l).drop i)=((Cm x||digit x)&&L5 ((c::l).drop (i+1))):=by rw [Ba hx];rfl
     refine AK.by i (by omega) hx ?_
     refine AK.pc (Ri x) ?_
     have go:(Cm x||digit x)=true→∀ F' S',Sub [(3,vi (i+1:Nat)),(0,str (c::l))] F'→S'.drop 0 0=⟨[],[]⟩→Nat.ble 0 S'.boxes.length=true→Nat.ble 0 S'.toks.length=true→AK X _ _ F' S' _ :=
      fun ho=>IH (i+1) ⟨hlt,by rw [hi.2,hd,ho];rfl⟩ (by omega)
     refine AK.gd (fun h5=>?_) (fun h5=>?_)
     ·have h5':Cm x=false:=by simpa using h5
      refine AK.by i (by omega) hx ?_
      refine AK.pc (Uw x) ?_
      refine AK.if_ (fun h6=>?_) (fun h6=>?_)
      ·refine AK.rt Tryz.func279 ?_
       have h6':digit x=false:=by simpa using h6
       rw [hi.2,hd,h5',h6'];rfl
      ·have h6':digit x=true:=by simpa using h6
       exact go (by rw [h6'];simp) _ _ ⟨vsx (by omega),rfl,trivial⟩ rfl rfl rfl
     ·have h5':Cm x=true:=by simpa using h5
      refine AK.no ?_
      exact go (by rw [h5'];simp) _ _ ⟨vsx (by omega),rfl,trivial⟩ rfl rfl rfl
    ·have:i=(c::l).length:=by have:=of_decide_eq_false h;rw [hsz] at this;have:=hi.1;simp at *;omega
     refine AK.rt Tryz.func279 ?_
     rw [hi.2,this,List.drop_length];rfl
theorem Asz (n:Int)(h0:0≤n)(h1:n<256):IntKind.u8.wrap n=n:=by
 unfold IntKind.wrap;simp [IntKind.bits,IntKind.signed];omega
def Ig (n:Nat):List UInt8:=if n<10 then [UInt8.ofNat (48+n)] else Ig (n / 10)++[UInt8.ofNat (48+n % 10)]
theorem Amg (n:Nat):(Ig n).length≤n+1:=by
 induction n using Nat.strongRecOn with
 | ind n ih =>
   unfold Ig
   split
   ·simp
   ·have:=ih (n / 10) (by omega)
    simp
    omega
theorem Arq (n:Nat)(hn:n≤1000000000000):IntKind.i64.wrap ((n:Int).tdiv 10)=((n / 10:Nat):Int):=by
 have:(n:Int).tdiv 10=((n / 10:Nat):Int):=by rw [Int.tdiv_eq_ediv_of_nonneg (by omega)];omega
 rw [this];exact Ac (by omega) (by omega)
theorem P2 (m:Nat)(h:m<10):IntKind.u8.wrap (IntKind.i64.wrap (48+(m:Int)))=((UInt8.ofNat (48+m)).toNat:Int):=by
 rw [Ac (by omega) (by omega),Asz _ (by omega) (by omega)]
 have:(UInt8.ofNat (48+m)).toNat=48+m:=by rw [UInt8.toNat_ofNat'];omega
 rw [this];simp
theorem Abs (n:Nat)(hn:n≤1000000000):Pure X 260 [vi n] (str (Ig n)):=by
 induction n using Nat.strongRecOn with
 | ind n ih =>
 refine Pure.run Tryz.func260 ?_
 refine AK.no ?_ (ht:=decide_eq_false (by omega))
 refine AK.no ?_ (ht:=decide_eq_false (by omega))
 refine AK.if_ (fun h=>?_) (fun h=>?_)
 ·have h':=of_decide_eq_true h
  refine AK.op (U9 (s:=[UInt8.ofNat (48+n)]) rfl rfl rfl rfl rfl rfl rfl rfl rfl rfl ?_) ?_
  ·show [[_]]=[[_]]
   rw [P2 n (by omega)]
  refine AK.rt Tryz.func260 ?_
  unfold Ig
  rw [if_pos (by omega)];rfl
 ·have h':=of_decide_eq_false h
  have ihq:Pure X 260 [vi (IntKind.i64.wrap ((n:Int).tdiv 10))] (str (Ig (n / 10))):=by
   rw [Arq n (by omega)];exact ih (n / 10) (by omega) (by omega)
  have hm:((n:Int).tmod 10)=((n % 10:Nat):Int):=by rw [Int.tmod_eq_emod_of_nonneg (by omega)];omega
  refine AK.drawn 0 (by kernel_rfl) ?_
  refine Drv.e ?_
  refine Drv.e ?_
  refine Drv.pc ihq ?_
  refine Drv.e ?_
  refine Drv.e ?_
  refine Drv.e ?_
  refine Drv.e ?_
  refine Drv.m ?_
  refine Gz (fun S'=>U9 (s:=[UInt8.ofNat (48+n % 10)]) rfl rfl rfl rfl rfl rfl rfl rfl rfl rfl ?_) ?_
  ·show [[_]]=[[_]]
   rw [hm,P2 (n % 10) (by omega)]
  refine Gz (fun S'=>Me rfl rfl rfl rfl rfl ?_ rfl) ?_
  ·have:=Amg (n / 10)
   simp;omega
  refine Drv.e ?_
  refine Drv.z ?_
  refine AK.rt Tryz.func260 ?_
  conv=>rhs;unfold Ig
  rw [if_neg (by omega)];rfl
theorem cb (c d:UInt8):((c.toNat:Int)==(d.toNat:Int))=(c==d):=by
 by_cases h:c=d
 ·subst h;simp
 ·have:¬ (c.toNat:Int)=(d.toNat:Int):=fun e=>h (UInt8.toNat_inj.1 (by omega))
  rw [beq_eq_false_iff_ne.2 h,beq_eq_false_iff_ne.2 this]
abbrev PG (f:Nat)(fn:Func)(K:List Item)(F:Bs)(r:AV):Prop:=AK X ⟨f,fn,0,0⟩ K F ⟨[],[]⟩ fun e S=>e=.ret r∧S=⟨[],[]⟩
def Lu (n:Int):List UInt8→Int
 | []=>if n > 1000000 then -1 else n
 | c::l=>if digit c then Lu (10*n+c.toNat-48) l else -1
def B6 (s:List UInt8):Int:=match s with
 | []=>-1
 | c::l=>if l.length > 6 then -1 else if l.length > 0&&c==48 then -1 else Lu 0 (c::l)
theorem Tx {c:UInt8}(h:digit c=true):(48:Int)≤c.toNat∧(c.toNat:Int)≤57:=by
 simp only [digit,Bu,Bool.and_eq_true,decide_eq_true_eq] at h
 exact h
theorem I3 (c:UInt8)(l:List UInt8):((⟨⟨c::l⟩⟩:ByteArray).size:Int)=(l.length:Int)+1:=by show ((c::l).length:Int)=_;simp
theorem Dm (s:List UInt8):((⟨⟨s⟩⟩:ByteArray).size:Int)=(s.length:Int):=rfl
theorem Wb (s:List UInt8):Pure X 289 [str s] (vi (B6 s)):=by
 refine Pure.run Tryz.func289 ?_
 have fin:∀ {b:Int},B6 s=b→Bv [vi b]=vi (B6 s):=fun h=>by rw [h];rfl
 cases s with
 | nil =>
   refine AK.gy ?_
   refine AK.gy ?_
   refine AK.yes ?_
   exact AK.rt Tryz.func289 rfl
 | cons c l =>
   refine AK.gn ?_ (ht:=by rw [I3];exact decide_eq_false (by omega))
   refine AK.gd (fun h1=>?_) (fun h1=>?_)
   ·refine AK.yes ?_
    refine AK.rt Tryz.func289 (fin ?_)
    have:=of_decide_eq_true h1
    rw [I3] at this
    simp only [B6];rw [if_pos (by omega)]
   have h1':¬ l.length > 6:=by have:=of_decide_eq_false h1;rw [I3] at this;omega
   have L:B6 (c::l)=Lu 0 (c::l)→∀ F,Sub [(4,vi 0),(3,vi 0),(0,str (c::l))] F→PG 289 Tryz.f289 (Js true 5 Tryz.f289) F (vi (B6 (c::l))):=fun hg F hF=>by
    refine AK.at_ ?_
    refine AK.while_ (ι:=Nat × Int) 0 0 (fun i=>i.1≤(c::l).length∧0≤i.2∧i.2<10 ^ i.1∧B6 (c::l)=Lu i.2 ((c::l).drop i.1)) (fun i=>[(4,vi i.1),(3,vi i.2),(0,str (c::l))]) (fun _=>⟨[],[]⟩)
     (fun i=>(c::l).length-i.1) ?_ (0,0) ⟨Nat.zero_le _,Int.le_refl _,by simp,hg⟩ hF
    rintro ⟨i,n⟩ ⟨hi,hn0,hn1,hnum⟩ IH
    simp only at hi hn0 hn1 hnum IH ⊢
    have hcl:(c::l).length=l.length+1:=rfl
    have hpow:(10:Int) ^ i≤10000000:=by
     have h7:i≤7:=by simp at hi;omega
     have:=Nat.pow_le_pow_right (show 0<10 by omega) h7
     have h10:((10 ^ i:Nat):Int)≤((10 ^ 7:Nat):Int):=Int.ofNat_le.2 this
     simpa using h10
    refine AK.ei (fun h=>?_) (fun h=>?_)
    ·have hlt:i<(c::l).length:=by have:=of_decide_eq_true h;rw [I3] at this;simp;omega
     obtain ⟨x,hx⟩:=Ab (c::l) hlt
     have hd:Lu n ((c::l).drop i)=if digit x then Lu (10*n+x.toNat-48) ((c::l).drop (i+1)) else -1:=by rw [Ba hx];rfl
     refine AK.by i (by omega) hx ?_
     refine AK.pc (Uw x) ?_
     refine AK.if_ (fun h2=>?_) (fun h2=>?_)
     ·have h2':digit x=false:=by simpa using h2
      refine AK.rt Tryz.func289 ?_
      rw [hnum,hd,h2'];rfl
     ·have h2':digit x=true:=by simpa using h2
      obtain ⟨d1,d2⟩:=Tx h2'
      refine AK.by i (by omega) hx ?_
      have hp1:(10:Int) ^ (i+1)=10*10 ^ i:=by rw [Int.pow_succ];omega
      refine IH (i+1,10*n+x.toNat-48) ⟨hlt,by simp only;omega,by simp only;omega,by rw [hnum,hd,h2'];rfl⟩ (by simp only;omega) _ _ ⟨Bn ((Ac (by omega) (by omega)).trans (by simp)),Bn ?_,rfl,trivial⟩ rfl rfl rfl
      rw [Ac (n:=10*n) (by omega) (by omega),Ac (n:=(x.toNat:Int)) (by omega) (by omega),Ac (n:=10*n+x.toNat) (by omega) (by omega),Ac (by omega) (by omega)]
    ·have:i=(c::l).length:=by have:=of_decide_eq_false h;rw [I3] at this;simp at *;omega
     have hg2:B6 (c::l)=if n > 1000000 then -1 else n:=by rw [hnum,this,List.drop_length];rfl
     refine AK.if_ (fun h2=>?_) (fun h2=>?_)
     ·refine AK.rt Tryz.func289 ?_
      rw [hg2,if_pos (of_decide_eq_true h2)];rfl
     ·refine AK.rt Tryz.func289 ?_
      rw [hg2,if_neg (of_decide_eq_false h2)];rfl
   refine AK.gd (fun h2=>?_) (fun h2=>?_)
   ·have h2':l.length > 0:=by have:=of_decide_eq_true h2;rw [I3] at this;omega
    refine AK.by 0 (by omega) (b:=c) rfl ?_
    refine AK.if_ (fun h3=>?_) (fun h3=>?_)
    ·refine AK.rt Tryz.func289 (fin ?_)
     have h3':(c==48)=true:=by rw [← cb];exact h3
     simp only [B6];rw [if_neg h1',h3',if_pos (by simp [h2'])]
    ·have h3':(c==48)=false:=by rw [← cb];exact h3
     refine L (by simp only [B6];rw [if_neg h1',h3'];simp) _ ?_
     exact ⟨rfl,rfl,rfl,trivial⟩
   ·have h2':¬ l.length > 0:=by have:=of_decide_eq_false h2;rw [I3] at this;omega
    refine AK.no ?_
    refine L (by simp only [B6];rw [if_neg h1',if_neg (by simp [h2'])]) _ ?_
    exact ⟨rfl,rfl,rfl,trivial⟩
def B1 (s:List UInt8):Int:=if has Oa s then 4 else if nameS s then 1 else if B6 s≥0 then 2 else if has Gx s then 3 else 0
theorem Aq0 (s:List UInt8)(hs:s.length≤1000000000):Pure X 284 [str s] (vi (B1 s)):=by
 refine Pure.run Tryz.func284 ?_
 refine AK.pc (Apf s) ?_
 refine AK.if_ (fun h1=>?_) (fun h1=>?_)
 ·refine AK.rt Tryz.func284 ?_
  simp [B1,h1,Bv]
 refine AK.pc (Adr s hs) ?_
 refine AK.if_ (fun h2=>?_) (fun h2=>?_)
 ·refine AK.rt Tryz.func284 ?_
  simp [B1,h1,h2,Bv]
 refine AK.pc (Wb s) ?_
 refine AK.if_ (fun h3=>?_) (fun h3=>?_)
 ·refine AK.rt Tryz.func284 ?_
  have:=of_decide_eq_true h3
  simp [B1,h1,h2,this,Bv]
 have h3':=of_decide_eq_false h3
 refine AK.pc (Aki s) ?_
 refine AK.if_ (fun h4=>?_) (fun h4=>?_)
 ·refine AK.rt Tryz.func284 ?_
  simp only [B1,h1,h2,h4,if_neg h3',Bv];rfl
 ·refine AK.rt Tryz.func284 ?_
  simp only [B1,h1,h2,h4,if_neg h3',Bv];rfl
def Bd:Bool→List UInt8→Nat
 | _,[]=>0
 | false,c::l=>if c==32||c==10 then 1+Bd false l else if c==35 then 1+Bd true l else 0
 | true,c::l=>if c==10 then 1+Bd false l else 1+Bd true l
theorem Rq:∀ (l:List UInt8)(b:Bool),Bd b l≤l.length
 | [],b=>by cases b<;>simp [Bd]
 | c::l,b=>by
   have h1:=Rq l false
   have h2:=Rq l true
   cases b
   ·simp only [Bd,List.length_cons]
    repeat' split
    all_goals omega
   ·simp only [Bd,List.length_cons]
    repeat' split
    all_goals omega
theorem Akj (s:List UInt8)(a:Nat)(ha:a≤s.length)(hs:s.length≤1000000000):Pure X 282 [str s,vi a] (vi (a+Bd false (s.drop a):Nat)):=by
 refine Pure.run Tryz.func282 ?_
 generalize hT:a+Bd false (s.drop a)=T
 refine AK.while_ (ι:=Nat) 0 0 (fun i=>i≤s.length∧T=i+Bd false (s.drop i)) (fun i=>[(1,vi i),(0,str s)]) (fun _=>⟨[],[]⟩) (fun i=>s.length-i) ?_ a ⟨ha,hT.symm⟩
  ⟨rfl,rfl,trivial⟩
 intro i hi IH
 refine AK.ei (fun h=>?_) (fun h=>?_)
 ·have hlt:i<s.length:=by have:=of_decide_eq_true h;rw [Dm] at this;omega
  obtain ⟨x,hx⟩:=Ab s hlt
  have hd:Bd false (s.drop i)=if x==32||x==10 then 1+Bd false (s.drop (i+1)) else if x==35 then 1+Bd true (s.drop (i+1)) else 0:=by rw [Ba hx];rfl
  have hd2:Bd true (s.drop i)=if x==10 then 1+Bd false (s.drop (i+1)) else 1+Bd true (s.drop (i+1)):=by rw [Ba hx];rfl
  refine AK.by i (by omega) hx ?_
  refine AK.gd (fun h2=>?_) (fun h2=>?_)
  ·have h2':(x==32)=true:=by rw [← cb];exact h2
   refine AK.yes ?_
   exact IH (i+1) ⟨hlt,by rw [hi.2,hd,h2'];simp;omega⟩ (by omega) _ _ ⟨vsx (by omega),rfl,trivial⟩ rfl rfl rfl
  ·have h2':(x==32)=false:=by rw [← cb];exact h2
   refine AK.by i (by omega) hx ?_
   refine AK.if_ (fun h3=>?_) (fun h3=>?_)
   ·have h3':(x==10)=true:=by rw [← cb];exact h3
    exact IH (i+1) ⟨hlt,by rw [hi.2,hd,h2',h3'];simp;omega⟩ (by omega) _ _ ⟨vsx (by omega),rfl,trivial⟩ rfl rfl rfl
   ·have h3':(x==10)=false:=by rw [← cb];exact h3
    refine AK.by i (by omega) hx ?_
    refine AK.if_ (fun h4=>?_) (fun h4=>?_)
    ·have h4':(x==35)=true:=by rw [← cb];exact h4
     refine AK.while_ (ι:=Nat) 0 0 (fun j=>i≤j∧j≤s.length∧T=j+Bd true (s.drop j)) (fun j=>[(1,vi j),(0,str s)]) (fun _=>⟨[],[]⟩) (fun j=>s.length-j) ?_ i
      ⟨Nat.le_refl _,hi.1,by rw [hi.2,hd,hd2,h2',h3',h4'];rfl⟩ ⟨rfl,rfl,trivial⟩
     intro j hj IH2
     obtain ⟨hj1,hj2,hj3⟩:=hj
     refine AK.ev 100 rfl ?_
     refine AK.gd (fun h5=>?_) (fun h5=>?_)
     ·have hltj:j<s.length:=by have:=of_decide_eq_true h5;rw [Dm] at this;omega
      obtain ⟨y,hy⟩:=Ab s hltj
      have hdj:Bd true (s.drop j)=if y==10 then 1+Bd false (s.drop (j+1)) else 1+Bd true (s.drop (j+1)):=by rw [Ba hy];rfl
      have hdf:(y==10)=true→Bd false (s.drop j)=1+Bd false (s.drop (j+1)):=fun hy10=>by rw [Ba hy];simp only [Bd];rw [hy10];simp
      refine AK.by j (by omega) hy ?_
      refine AK.if_ (fun h6=>?_) (fun h6=>?_)
      ·have h6':(y==10)=false:=by rw [← cb];have:(!((y.toNat:Int)==10))=true:=h6;simpa using this
       exact IH2 (j+1) ⟨by omega,hltj,by rw [hj3,hdj,h6'];simp;omega⟩ (by omega) _ _ ⟨vsx (by omega),rfl,trivial⟩ rfl rfl rfl
      ·have h6':(y==10)=true:=by rw [← cb];have:(!((y.toNat:Int)==10))=false:=h6;simpa using this
       have hne:i≠j:=fun e=>by
        subst e
        rw [hx] at hy;cases hy
        rw [h3'] at h6';cases h6'
       exact IH j ⟨hj2,by rw [hj3,hdj,h6',hdf h6'];rfl⟩ (by omega) _ _ ⟨rfl,rfl,trivial⟩ rfl rfl rfl
     ·have hje:j=s.length:=by have:=of_decide_eq_false h5;rw [Dm] at this;omega
      refine AK.no ?_
      exact IH j ⟨hj2,by rw [hj3,hje,List.drop_length];rfl⟩ (by omega) _ _ ⟨rfl,rfl,trivial⟩ rfl rfl rfl
    ·have h4':(x==35)=false:=by rw [← cb];exact h4
     refine AK.rt Tryz.func282 ?_
     rw [hi.2,hd,h2',h3',h4'];rfl
 ·have hie:i=s.length:=by have:=of_decide_eq_false h;rw [Dm] at this;omega
  refine AK.rt Tryz.func282 ?_
  rw [hi.2,hie,List.drop_length];rfl
def D2:List UInt8→Nat
 | []=>0
 | c::l=>if Cm c||digit c then 1+D2 l else 0
def H0 (r:List UInt8):Nat:=match r with
 | []=>0
 | c::l=>if Cm c||digit c then D2 (c::l) else match l with
   | []=>1
   | d::_=>if has Gx [c,d] then 2 else 1
theorem Asx (s:List UInt8)(a:Nat)(ha:a<s.length)(hs:s.length≤1000000000):Pure X 283 [str s,vi a] (vi (a+H0 (s.drop a):Nat)):=by
 refine Pure.run Tryz.func283 ?_
 generalize hT:a+H0 (s.drop a)=T
 obtain ⟨c,hc⟩:=Ab s ha
 have hd:=Ba hc
 have L:(Cm c||digit c)=true→∀ F,Sub [(1,vi a),(0,str s)] F→PG 283 Tryz.f283 (Js true 2 Tryz.f283) F (vi T):=fun hw F hF=>by
  have hT':T=a+D2 (s.drop a):=by rw [← hT,hd];simp only [H0];rw [hw];rfl
  refine AK.at_ ?_
  refine AK.while_ (ι:=Nat) 0 0 (fun i=>i≤s.length∧T=i+D2 (s.drop i)) (fun i=>[(1,vi i),(0,str s)]) (fun _=>⟨[],[]⟩) (fun i=>s.length-i) ?_ a ⟨by omega,hT'⟩
   hF
  intro i hi IH
  refine AK.ev 100 rfl ?_
  refine AK.gd (fun h5=>?_) (fun h5=>?_)
  ·have hlt:i<s.length:=by have:=of_decide_eq_true h5;rw [Dm] at this;omega
   obtain ⟨y,hy⟩:=Ab s hlt
   have hdi:D2 (s.drop i)=if Cm y||digit y then 1+D2 (s.drop (i+1)) else 0:=by rw [Ba hy];rfl
   refine AK.by i (by omega) hy ?_
   refine AK.pc (Ri y) ?_
   refine AK.gd (fun h6=>?_) (fun h6=>?_)
   ·refine AK.yes ?_
    exact IH (i+1) ⟨hlt,by rw [hi.2,hdi,h6];simp;omega⟩ (by omega) _ _ ⟨vsx (by omega),rfl,trivial⟩ rfl rfl rfl
   ·refine AK.by i (by omega) hy ?_
    refine AK.pc (Uw y) ?_
    refine AK.if_ (fun h7=>?_) (fun h7=>?_)
    ·exact IH (i+1) ⟨hlt,by rw [hi.2,hdi,h7];simp;omega⟩ (by omega) _ _ ⟨vsx (by omega),rfl,trivial⟩ rfl rfl rfl
    ·refine AK.rt Tryz.func283 ?_
     rw [hi.2,hdi,h6,h7];rfl
  ·have hie:i=s.length:=by have:=of_decide_eq_false h5;rw [Dm] at this;omega
   refine AK.no ?_
   refine AK.rt Tryz.func283 ?_
   rw [hi.2,hie,List.drop_length];rfl
 refine AK.by a (by omega) hc ?_
 refine AK.pc (Ri c) ?_
 refine AK.gd (fun h1=>?_) (fun h1=>?_)
 ·refine AK.yes ?_
  refine L (by rw [h1];rfl) _ ?_
  exact ⟨rfl,rfl,trivial⟩
 ·refine AK.by a (by omega) hc ?_
  refine AK.pc (Uw c) ?_
  refine AK.if_ (fun h2=>?_) (fun h2=>?_)
  ·refine L (by rw [h2];simp) _ ?_
   exact ⟨rfl,rfl,trivial⟩
  ·have hw1:IntKind.i64.wrap ((a:Int)+1)=(a:Int)+1:=Ac (by omega) (by omega)
   have hw2:IntKind.i64.wrap ((a:Int)+2)=(a:Int)+2:=Ac (by omega) (by omega)
   have hTT:T=a+(match s.drop (a+1) with
    | []=>1
    | d::_=>if has Gx [c,d] then 2 else 1):=by rw [← hT,hd];simp only [H0];rw [h1,h2];rfl
   refine AK.gd (fun h3=>?_) (fun h3=>?_)
   ·have hlt:a+1<s.length:=by have:=of_decide_eq_true h3;rw [hw1,Dm] at this;omega
    obtain ⟨d,hdd⟩:=Ab s hlt
    rw [Ba hdd] at hTT
    simp only at hTT
    refine AK.op (Ndo.sub (r:=[c,d]) rfl rfl rfl rfl rfl rfl rfl rfl ?_ ?_ ?_ ?_) ?_
    ·omega
    ·rw [hw2];omega
    ·rw [hw2];omega
    ·rw [hw2]
     have e1:((a:Int)+2).toNat=a+2:=by omega
     have e2:(a:Int).toNat=a:=by omega
     rw [e1,e2,List.drop_take,hd,Ba hdd]
     have e3:a+2-a=2:=by omega
     rw [e3];rfl
    refine AK.pc (Aki [c,d]) ?_
    refine AK.if_ (fun h4=>?_) (fun h4=>?_)
    ·refine AK.rt Tryz.func283 ?_
     rw [hTT,h4,hw2];simp [Bv]
    ·refine AK.rt Tryz.func283 ?_
     rw [hTT,h4,hw1];simp [Bv]
   ·have hge:s.length≤a+1:=by have:=of_decide_eq_false h3;rw [hw1,Dm] at this;omega
    refine AK.no ?_
    refine AK.rt Tryz.func283 ?_
    rw [hTT,List.drop_eq_nil_of_le hge,hw1];simp [Bv]
structure Wd where
 kind:Int
 text:List UInt8
 pos:Nat
def Oy (w:Wd):List AV:=[vi w.kind,str w.text,vi w.pos]
def Ei (l:List Wd):List (List AV):=l.map Oy
theorem Cc (l:List Wd):(Ei l).length=l.length:=by simp [Ei]
theorem Ww (l:List Wd):Hg 3 (Ei l)=true:=Io (f:=Oy) (fun _=>rfl) l
theorem L8 {l:List Wd}{i:Nat}{w:Wd}(h:l[i]?=some w):(Ei l)[i]?=some (Oy w):=by simp [Ei,h]
instance {n m:Nat}{l:List Wd}:OKR n m (Ei l):=⟨fun r hr x hx=>by
 obtain ⟨s,_,rfl⟩:=List.mem_map.1 hr
 simp [Oy] at hx
 rcases hx with rfl | rfl | rfl<;>exact .val _⟩
def Ef:Nat→Nat→List UInt8→List Wd→List Wd × Int × Nat
 | 0,_,_,out=>(out,0,0)
 | f+1,a,r,out=>match r with
   | []=>(out,0,0)
   | c::l =>
     let n:=H0 (c::l)
     let t:=(c::l).take n
     let k:=B1 t
     if k==0 then ([],2,a) else if out.length==1500 then ([],3,a) else
      let b:=Bd false ((c::l).drop n)
      Ef f (a+n+b) ((c::l).drop (n+b)) (out++[⟨k,t,a⟩])
def Bq (s:List UInt8):List Wd × Int × Nat :=
 if s.length > 4000 then ([],1,0) else Ef (s.length+1) (Bd false s) (s.drop (Bd false s)) []
def Ar0 (o:List Wd × Int × Nat):AV:=.tup [.sl (Ei o.1) .no,.agg [vi o.2.1,vi o.2.2]]
theorem Qo:∀ l:List UInt8,D2 l≤l.length
 | []=>by simp [D2]
 | c::l=>by
   have:=Qo l
   simp only [D2,List.length_cons]
   split<;>omega
theorem Aet (c:UInt8)(l:List UInt8):1≤H0 (c::l)∧H0 (c::l)≤(c::l).length:=by
 simp only [H0]
 split
 ·rename_i h
  refine ⟨?_,Qo _⟩
  simp only [D2]
  rw [if_pos h];omega
 ·cases l with
  | nil=>simp
  | cons d l=>simp only;split<;>simp
theorem Anx (s:List UInt8)(hs:s.length≤1000000000):Pure X 262 [str s] (Ar0 (Bq s)):=by
 refine Pure.run Tryz.func262 ?_
 refine AK.if_ (fun h=>?_) (fun h=>?_)
 ·refine AK.rz Tryz.func262 ?_
  have:=of_decide_eq_true h
  rw [Dm] at this
  simp only [Bq];rw [if_pos (by omega)];rfl
 have hlen:¬ s.length > 4000:=by have:=of_decide_eq_false h;rw [Dm] at this;omega
 generalize hT:Bq s=T
 have hT':T=Ef (s.length+1) (Bd false s) (s.drop (Bd false s)) []:=by rw [← hT];simp only [Bq];rw [if_neg hlen]
 refine AK.pc (Akj s 0 (Nat.zero_le _) hs) ?_
 refine AK.mint (d:=4) rfl rfl rfl ?_
 have hsk:=Rq s false
 refine AK.while_ (ι:=Nat × List Wd) 1 1 (fun i=>i.1≤s.length∧i.2.length≤1500∧∃ f,s.length-i.1<f∧T=Ef f i.1 (s.drop i.1) i.2) (fun i=>[(5,vi i.1),(4,.sl (Ei i.2) (.tok 0)),(0,str s),(3,.ptr 0 0 0)])
  (fun i=>⟨[[[vi 0,vi 0]]],[i.2.length]⟩) (fun i=>s.length-i.1) ?_ (Bd false s,[]) ⟨hsk,Nat.zero_le _,s.length+1,by simp only;omega,hT'⟩
  ⟨by simp [lk],rfl,rfl,rfl,trivial⟩
 rintro ⟨a,out⟩ ⟨ha,hout,f,hf,hTa⟩ IH
 simp only at ha hout hf hTa IH ⊢
 refine AK.ei (fun h=>?_) (fun h=>?_)
 ·have hlt:a<s.length:=by have:=of_decide_eq_true h;rw [Dm] at this;omega
  obtain ⟨c,hc⟩:=Ab s hlt
  have hd:=Ba hc
  obtain ⟨g,rfl⟩:∃ g,f=g+1:=⟨f-1,by omega⟩
  obtain ⟨n,hn⟩:∃ n,H0 (s.drop a)=n:=⟨_,rfl⟩
  have hbd:=Aet c (s.drop (a+1))
  rw [← hd,hn] at hbd
  have hdl:(s.drop a).length=s.length-a:=by simp
  rw [hdl] at hbd
  obtain ⟨t,ht⟩:∃ t,(s.drop a).take n=t:=⟨_,rfl⟩
  have htl:t.length≤1000000000:=by rw [← ht];simp;omega
  have hstep:T=if B1 t==0 then ([],2,a) else if out.length==1500 then ([],3,a) else
   Ef g (a+n+Bd false (s.drop (a+n))) (s.drop (a+n+Bd false (s.drop (a+n)))) (out++[⟨B1 t,t,a⟩]):=by
   rw [hTa]
   conv=>lhs;unfold Ef
   rw [hd]
   simp only
   rw [← hd,hn,ht,List.drop_drop,List.drop_drop]
   rw [show a+(n+Bd false (s.drop (a+n)))=a+n+Bd false (s.drop (a+n)) by omega]
  have sub:∀ {F:Bs} {ops:Array Oper} {i:Nat} {o:Oper} {ty:Nat} {p:Operand} {lo hi:Option Operand} {y:Ty} (ho:ops[i]?=some o) (hw:As ops F o=some true) (hop:o.op=.slice ty p lo hi none)
   (hp:Cg X F p=some (str s))(hlo:Nn X F lo 0=some (a:Int))(hhi:Nn X F hi (s.length:Int)=some ((a+H0 (s.drop a):Nat):Int))(hy:X.ty ty=some y)(hyk:y.k=.string){N:Nat}{S:St},Ndo X N ops i o F (str t) S S :=
   fun {F ops i o ty p lo hi y} ho hw hop hp hlo hhi hy hyk {N S}=>by
    refine Ndo.sub ho hw hop hp hlo hhi hy hyk ?_ ?_ ?_ ?_
    ·omega
    ·rw [hn];omega
    ·rw [hn];omega
    ·have e1:(((a+H0 (s.drop a):Nat):Int)).toNat=a+n:=by rw [hn];omega
     have e2:(a:Int).toNat=a:=by omega
     rw [e1,e2,List.drop_take,show a+n-a=n by omega,ht]
  refine AK.pc (Asx s a hlt hs) ?_
  refine AK.op (sub rfl rfl rfl rfl rfl rfl rfl rfl) ?_
  refine AK.pc (Aq0 t htl) ?_
  refine AK.if_ (fun h2=>?_) (fun h2=>?_)
  ·have h2':(B1 t==0)=true:=h2
   refine AK.rz Tryz.func262 ?_
   rw [hstep,h2'];rfl
  have h2':(B1 t==0)=false:=h2
  refine AK.if_ (fun h3=>?_) (fun h3=>?_)
  ·have h3':(out.length==1500)=true:=by
    have:(((Ei out).length:Int)==1500)=true:=h3
    rw [Cc] at this
    simp at this ⊢;omega
   refine AK.rz Tryz.func262 ?_
   rw [hstep,h2',h3'];rfl
  have h3':(out.length==1500)=false:=by
   have:(((Ei out).length:Int)==1500)=false:=h3
   rw [Cc] at this
   simp at this ⊢;omega
  have h3'':out.length≠1500:=by simpa using h3'
  refine AK.op (sub rfl rfl rfl rfl rfl rfl rfl rfl) ?_
  refine AK.op (Ndo.append (res:=Ei (out++[⟨B1 t,t,a⟩])) rfl rfl rfl rfl rfl rfl rfl rfl rfl rfl rfl rfl rfl rfl (Cc out) (Ww out) rfl rfl rfl ?_ ?_ rfl) ?_
  ·rw [Cc];simp;omega
  ·simp [Ei,Oy]
  have hsl:a+H0 (s.drop a)≤s.length:=by rw [hn];omega
  refine AK.pc (Akj s (a+H0 (s.drop a)) hsl hs) ?_
  have hsk2:=Rq (s.drop (a+n)) false
  have hdl2:(s.drop (a+n)).length=s.length-(a+n):=by simp
  rw [hdl2] at hsk2
  refine IH (a+n+Bd false (s.drop (a+n)),out++[⟨B1 t,t,a⟩]) ⟨by simp only;omega,by simp;omega,g,by simp only;omega,by rw [hstep,h2',h3'];rfl⟩ (by simp only;omega) _ _ ⟨?_,rfl,rfl,rfl,trivial⟩ ?_ rfl rfl
  ·rw [← hn];rfl
  ·simp [St.drop,Cc]
 ·have hae:a=s.length:=by have:=of_decide_eq_false h;rw [Dm] at this;omega
  refine AK.rz Tryz.func262 ?_
  obtain ⟨g,rfl⟩:∃ g,f=g+1:=⟨f-1,by omega⟩
  rw [hTa,hae,List.drop_length];rfl
theorem Ahn (n lo hi:Int):Pure X 108 [vi n,vi lo,vi hi] (vb (Bu n lo hi)):=by
 refine Pure.run Tryz.func108 ?_
 refine AK.gd (fun h=>?_) (fun h=>?_)
 ·refine AK.rt Tryz.func108 ?_
  simp_all [Bu,Bv]
 ·refine AK.rt Tryz.func108 ?_
  simp_all [Bu,Bv]
  omega
theorem Wj (c:UInt8):Pure X 340 [vc c] (vb (Cm c)):=by
 refine Pure.run Tryz.func340 ?_
 refine AK.gd (fun h=>?_) (fun h=>?_)
 ·refine AK.rt Tryz.func340 ?_
  simp_all [Cm,Bu,Bv]
 ·refine AK.rt Tryz.func340 ?_
  simp_all [Cm,Bu,Bv]
  omega
theorem Z9 (c:UInt8):Pure X 341 [vc c] (vb (digit c)):=by
 refine Pure.run Tryz.func341 ?_
 refine AK.gd (fun h=>?_) (fun h=>?_)
 ·refine AK.rt Tryz.func341 ?_
  simp_all [digit,Bu,Bv]
 ·refine AK.rt Tryz.func341 ?_
  simp_all [digit,Bu,Bv]
  omega
def Iq:Nat→List (List UInt8)→List UInt8→Int
 | _,[],_=>-1
 | i,x::l,s=>if s==x then i else Iq (i+1) l s
theorem N9 (l:List (List UInt8)):∀ (i:Nat)(s:List UInt8),decide (Iq i l s≥0)=has l s:=by
 induction l with
 | nil=>intro i s;simp [Iq,has]
 | cons x l ih =>
   intro i s
   have hb:has (x::l) s=(x==s||has l s):=rfl
   rw [hb,← ih (i+1) s]
   by_cases h:s=x
   ·subst h;simp [Iq]
   ·have h1:(s==x)=false:=by simpa using h
    have h2:(x==s)=false:=by simpa using Ne.symm h
    have:Iq i (x::l) s=Iq (i+1) l s:=by simp only [Iq];rw [if_neg (by simpa using h)]
    rw [this,h2];rfl
theorem Afs (l:List (List UInt8))(s:List UInt8)(hl:l.length≤1000000000):Pure X 109 [.sl (B4 l) .no,str s] (vi (Iq 0 l s)):=by
 refine Pure.run Tryz.func109 ?_
 refine AK.while_ (ι:=Nat) 0 0 (fun i=>i≤l.length∧Iq 0 l s=Iq i (l.drop i) s) (fun i=>[(8,vi i),(7,vi l.length),(0,.sl (B4 l) .no),(1,str s)]) (fun _=>⟨[],[]⟩) (fun i=>l.length-i) ?_ 0 ⟨Nat.zero_le _,rfl⟩
  ⟨rfl,by rw [← Dk];rfl,rfl,rfl,trivial⟩
 intro i hi IH
 refine AK.ei (fun h=>?_) (fun h=>?_)
 ·have hlt:i<l.length:=by have:=of_decide_eq_true h;omega
  obtain ⟨x,hx⟩:=Ab l hlt
  have hd:Iq i (l.drop i) s=if s==x then (i:Int) else Iq (i+1) (l.drop (i+1)) s:=by rw [Ba hx];rfl
  refine AK.ix i (by omega) (L0 hx) ?_
  refine AK.if_ (fun h2=>?_) (fun h2=>?_)
  ·refine AK.rt Tryz.func109 ?_
   have h3:(s==x)=true:=h2
   rw [hi.2,hd,h3];rfl
  ·have h3:(s==x)=false:=h2
   exact IH (i+1) ⟨hlt,by rw [hi.2,hd,h3];rfl⟩ (by omega) _ _ ⟨vsx (by omega),rfl,rfl,rfl,trivial⟩ rfl rfl rfl
 ·have:i=l.length:=by have:=of_decide_eq_false h;omega
  refine AK.rt Tryz.func109 ?_
  rw [hi.2,this,List.drop_length];rfl
theorem Nf (l:List (List UInt8))(s:List UInt8)(hl:l.length≤1000000000):Pure X 344 [.sl (B4 l) .no,str s] (vb (has l s)):=by
 refine Pure.run Tryz.func344 ?_
 refine AK.pc (Afs l s hl) ?_
 refine AK.rt Tryz.func344 ?_
 rw [← N9 l 0 s];rfl
theorem An7 (s:List UInt8):Pure X 342 [str s] (vb (has Oa s)):=by
 refine Pure.run Tryz.func342 ?_
 refine AK.pc (Nf Oa s (by decide)) ?_
 exact AK.rt Tryz.func342 rfl
def rd (ws:List Wd)(a:Int)(bad:Bool):List AV:=[.sl (Ei ws) .no,vi a,vb bad]
instance {n m:Nat}{ws:List Wd}{a:Int}{b:Bool}:OKL n m (rd ws a b):=⟨fun x hx=>by
 simp [rd] at hx
 rcases hx with rfl | rfl | rfl
 ·exact (inferInstance:OK n m (.sl (Ei ws) .no)).ok
 ·exact .val _
 ·exact .val _⟩
structure RS where
 ws:List Wd
 at_:Nat
 bad:Bool
def rc (r:RS):List AV:=rd r.ws r.at_ r.bad
instance {n m:Nat}{r:RS}:OKL n m (rc r):=⟨(inferInstance:OKL n m (rd r.ws r.at_ r.bad)).ok⟩
def RS.text (r:RS):List UInt8:=match r.ws[r.at_]? with
 | some w=>w.text
 | none=>[]
def RS.kind (r:RS):Int:=match r.ws[r.at_]? with
 | some w=>w.kind
 | none=>0
def RS.step (r:RS):RS:=⟨r.ws,r.at_+1,r.bad⟩
def RS.spoil (r:RS):RS:=⟨r.ws,r.at_,true⟩
def RS.takes (r:RS)(s:List UInt8):Bool:=!(r.bad||!(r.text==s))
def RS.take (r:RS)(s:List UInt8):RS:=if r.takes s then r.step else r
def RS.need (r:RS)(s:List UInt8):RS:=if r.takes s then r.step else r.spoil
def RS.named (r:RS):Bool:=!(r.bad||!(r.kind==1))
def RS.name (r:RS):List UInt8:=if r.named then r.text else []
def RS.nameR (r:RS):RS:=if r.named then r.step else r.spoil
def RS.ok (r:RS):Prop:=r.ws.length≤1500∧r.at_≤r.ws.length
theorem Aab (r:RS):Hands X 290 [.ptr 0 0 0] ⟨[[rc r]],[]⟩ (str r.text) ⟨[[rc r]],[]⟩:=by
 obtain ⟨ws,a,b⟩:=r
 refine Hands.run Tryz.func290 ?_
 refine AK.dr ?_
 refine AK.if_ (fun h=>?_) (fun h=>?_)
 ·have hlt:a<ws.length:=by have:=of_decide_eq_true h;simp only at this;rw [Cc] at this;omega
  obtain ⟨x,hx⟩:=Ab ws hlt
  refine AK.db 0 ?_
  refine Gz (fun S'=>Ndo.index (r:=Oy x) rfl rfl rfl rfl rfl rfl rfl rfl rfl ?_ ?_) ?_
  ·simp
  ·exact L8 hx
  refine Drv.go ?_
  refine Drv.z ?_
  refine AK.rb Tryz.func290 ?_ rfl
  simp [RS.text,hx]
 ·have hge:¬ a<ws.length:=by have:=of_decide_eq_false h;simp only at this;rw [Cc] at this;omega
  refine AK.rb Tryz.func290 ?_ rfl
  simp [RS.text,List.getElem?_eq_none (show ws.length≤a by omega)]
theorem Ady (r:RS):Hands X 288 [.ptr 0 0 0] ⟨[[rc r]],[]⟩ (vi r.kind) ⟨[[rc r]],[]⟩:=by
 obtain ⟨ws,a,b⟩:=r
 refine Hands.run Tryz.func288 ?_
 refine AK.dr ?_
 refine AK.if_ (fun h=>?_) (fun h=>?_)
 ·have hlt:a<ws.length:=by have:=of_decide_eq_true h;simp only at this;rw [Cc] at this;omega
  obtain ⟨x,hx⟩:=Ab ws hlt
  refine AK.db 0 ?_
  refine Gz (fun S'=>Ndo.index (r:=Oy x) rfl rfl rfl rfl rfl rfl rfl rfl rfl ?_ ?_) ?_
  ·simp
  ·exact L8 hx
  refine Drv.go ?_
  refine Drv.z ?_
  refine AK.rb Tryz.func288 ?_ rfl
  simp [RS.kind,hx]
 ·have hge:¬ a<ws.length:=by have:=of_decide_eq_false h;simp only at this;rw [Cc] at this;omega
  refine AK.rb Tryz.func288 ?_ rfl
  simp [RS.kind,List.getElem?_eq_none (show ws.length≤a by omega)]
theorem Uz (r:RS)(hr:r.ok):rd r.ws (IntKind.i64.wrap ((r.at_:Int)+1)) r.bad=rc r.step:=by
 have:=hr.2
 have:=hr.1
 simp only [rc,RS.step,rd]
 rw [Ac (by omega) (by omega)]
 simp
theorem Fj (r:RS)(s:List UInt8)(hr:r.ok):Hands X 285 [.ptr 0 0 0,str s] ⟨[[rc r]],[]⟩ (vb (r.takes s)) ⟨[[rc (r.take s)]],[]⟩:=by
 refine Hands.run Tryz.func285 ?_
 refine AK.gd (fun h=>?_) (fun h=>?_)
 ·have h':r.bad=true:=h
  refine AK.yes ?_
  have ht:r.takes s=false:=by simp [RS.takes,h']
  have hk:r.take s=r:=by simp [RS.take,ht]
  rw [ht,hk]
  exact AK.rb Tryz.func285 rfl rfl
 ·have h':r.bad=false:=h
  refine AK.hc [0] [] (Aab r) ?_
  refine AK.if_ (fun h2=>?_) (fun h2=>?_)
  ·have h2':(!(r.text==s))=true:=h2
   have ht:r.takes s=false:=by simp only [RS.takes];rw [h',h2'];rfl
   have hk:r.take s=r:=by simp [RS.take,ht]
   rw [ht,hk]
   exact AK.rb Tryz.func285 rfl rfl
  ·have h2':(!(r.text==s))=false:=h2
   have ht:r.takes s=true:=by simp only [RS.takes];rw [h',h2'];rfl
   have hk:r.take s=r.step:=by simp [RS.take,ht]
   rw [ht,hk,← Uz r hr]
   exact AK.rb Tryz.func285 rfl rfl
theorem E6 (r:RS)(s:List UInt8)(hr:r.ok):Hands X 287 [.ptr 0 0 0,str s] ⟨[[rc r]],[]⟩ (.tup []) ⟨[[rc (r.need s)]],[]⟩:=by
 refine Hands.run Tryz.func287 ?_
 refine AK.hc [0] [] (Fj r s hr) ?_
 refine AK.if_ (fun h=>?_) (fun h=>?_)
 ·have ht:r.takes s=false:=by simpa using h
  have hk:r.take s=r:=by simp [RS.take,ht]
  have hn:r.need s=r.spoil:=by simp [RS.need,ht]
  rw [hn]
  refine AK.fb Tryz.func287 rfl ?_
  rw [hk];rfl
 ·have ht:r.takes s=true:=by simpa using h
  have hk:r.take s=r.need s:=by simp [RS.take,RS.need,ht]
  rw [← hk]
  exact AK.fb Tryz.func287 rfl rfl
theorem Afw (r:RS)(h:r.kind≠0):∃ w,r.ws[r.at_]?=some w∧r.kind=w.kind∧r.text=w.text:=by
 cases hw:r.ws[r.at_]? with
 | none=>simp [RS.kind,hw] at h
 | some w=>exact ⟨w,rfl,by simp [RS.kind,hw],by simp [RS.text,hw]⟩
theorem Ao6 (a:Nat)(ha:a≤1000000):IntKind.i64.wrap (IntKind.i64.wrap ((a:Int)+1)-1)=(a:Int):=by
 rw [Ac (n:=(a:Int)+1) (by omega) (by omega),Ac (by omega) (by omega)];omega
theorem Qd (r:RS)(hr:r.ok):Hands X 286 [.ptr 0 0 0] ⟨[[rc r]],[]⟩ (str r.name) ⟨[[rc r.nameR]],[]⟩:=by
 have bad:r.named=false→r.name=[]∧r.nameR=r.spoil:=fun h=>⟨by simp [RS.name,h],by simp [RS.nameR,h]⟩
 refine Hands.run Tryz.func286 ?_
 refine AK.gd (fun h=>?_) (fun h=>?_)
 ·have h':r.bad=true:=h
  obtain ⟨b1,b2⟩:=bad (by simp [RS.named,h'])
  refine AK.yes ?_
  rw [b1,b2]
  exact AK.rb Tryz.func286 rfl rfl
 ·have h':r.bad=false:=h
  refine AK.hc [0] [] (Ady r) ?_
  refine AK.if_ (fun h2=>?_) (fun h2=>?_)
  ·have h2':(!(r.kind==1))=true:=h2
   obtain ⟨b1,b2⟩:=bad (by simp only [RS.named];rw [h',h2'];rfl)
   rw [b1,b2]
   exact AK.rb Tryz.func286 rfl rfl
  ·have h2':(!(r.kind==1))=false:=h2
   have hn:r.named=true:=by simp only [RS.named];rw [h',h2'];rfl
   have hk:r.kind=1:=by simpa using h2'
   obtain ⟨w,hw,_,hwt⟩:=Afw r (by omega)
   have e1:r.name=w.text:=by simp [RS.name,hn,hwt]
   have e2:r.nameR=r.step:=by simp [RS.nameR,hn]
   have hb:=Ao6 r.at_ (by have:=hr.2;have:=hr.1;omega)
   rw [e1,e2,← Uz r hr]
   refine AK.db 0 ?_
   refine Gz (fun S'=>Ndo.index (r:=Oy w) rfl rfl rfl rfl rfl rfl rfl rfl rfl ?_ ?_) ?_
   ·rw [hb];omega
   ·rw [hb];exact L8 hw
   refine Drv.go ?_
   refine Drv.z ?_
   exact AK.rb Tryz.func286 rfl rfl
abbrev nd (n:Nd):AV:=.agg (Ae n)
theorem Afm (k:Int)(a:Nd):Pure X 270 [vi k,nd a] (nd (.mk k [] 0 [a])):=by
 refine Pure.run Tryz.func270 ?_
 refine AK.rz Tryz.func270 ?_
 show AV.agg [_,_,_,.sl _ _]=AV.agg [_,_,_,.sl (Ai [a]) _]
 rw [Aj [a]];rfl
theorem Rk (k:Int)(a b:Nd):Pure X 231 [vi k,nd a,nd b] (nd (.mk k [] 0 [a,b])):=by
 refine Pure.run Tryz.func231 ?_
 refine AK.rz Tryz.func231 ?_
 show AV.agg [_,_,_,.sl _ _]=AV.agg [_,_,_,.sl (Ai [a,b]) _]
 rw [Aj [a,b]];rfl
def relS (s:List UInt8):Int:=if s==[60] then 11 else if s==[60,61] then 12 else if s==[62] then 13 else if s==[62,61] then 14 else if s==[61,61] then 15 else if s==[33,61] then 16 else 0
theorem As0 (s:List UInt8):Pure X 353 [str s] (vi (relS s)):=by
 refine Pure.run Tryz.func353 ?_
 refine AK.if_ (fun h1=>?_) (fun h1=>?_)
 ·refine AK.rt Tryz.func353 ?_
  have h1':(s==[60])=true:=h1
  simp only [relS];rw [h1'];rfl
 refine AK.if_ (fun h2=>?_) (fun h2=>?_)
 ·refine AK.rt Tryz.func353 ?_
  have h1':(s==[60])=false:=h1
  have h2':(s==[60,61])=true:=h2
  simp only [relS];rw [h1',h2'];rfl
 refine AK.if_ (fun h3=>?_) (fun h3=>?_)
 ·refine AK.rt Tryz.func353 ?_
  have h1':(s==[60])=false:=h1
  have h2':(s==[60,61])=false:=h2
  have h3':(s==[62])=true:=h3
  simp only [relS];rw [h1',h2',h3'];rfl
 refine AK.if_ (fun h4=>?_) (fun h4=>?_)
 ·refine AK.rt Tryz.func353 ?_
  have h1':(s==[60])=false:=h1
  have h2':(s==[60,61])=false:=h2
  have h3':(s==[62])=false:=h3
  have h4':(s==[62,61])=true:=h4
  simp only [relS];rw [h1',h2',h3',h4'];rfl
 refine AK.if_ (fun h5=>?_) (fun h5=>?_)
 ·refine AK.rt Tryz.func353 ?_
  have h1':(s==[60])=false:=h1
  have h2':(s==[60,61])=false:=h2
  have h3':(s==[62])=false:=h3
  have h4':(s==[62,61])=false:=h4
  have h5':(s==[61,61])=true:=h5
  simp only [relS];rw [h1',h2',h3',h4',h5'];rfl
 have h1':(s==[60])=false:=h1
 have h2':(s==[60,61])=false:=h2
 have h3':(s==[62])=false:=h3
 have h4':(s==[62,61])=false:=h4
 have h5':(s==[61,61])=false:=h5
 refine AK.if_ (fun h6=>?_) (fun h6=>?_)
 ·refine AK.rt Tryz.func353 ?_
  have h6':(s==[33,61])=true:=h6
  simp only [relS];rw [h1',h2',h3',h4',h5',h6'];rfl
 ·refine AK.rt Tryz.func353 ?_
  have h6':(s==[33,61])=false:=h6
  simp only [relS];rw [h1',h2',h3',h4',h5',h6'];rfl
def B2:Nd:=.mk 0 [] 0 []
mutual
def C9:Nat→RS→Nd × RS
 | 0,r=>(B2,r)
 | f+1,r =>
   if r.bad then (B2,r)
   else if r.takes [45] then (.mk 5 [] 0 [(C9 f r.step).1],(C9 f r.step).2)
   else if r.kind==2 then (.mk 1 [] (B6 r.text) [],r.step)
   else if r.takes [40] then ((Cu f r.step).1,(Cu f r.step).2.need [41])
   else if r.takes [108,101,110] then (.mk 4 (r.step.need [40]).name 0 [],(r.step.need [40]).nameR.need [41])
   else if r.nameR.takes [91] then (.mk 3 r.name 0 [(Cu f r.nameR.step).1],(Cu f r.nameR.step).2.need [93])
   else (.mk 2 r.name 0 [],r.nameR)
def Ck:Nat→RS→Nd × RS
 | 0,r=>(B2,r)
 | f+1,r=>Er f (C9 f r).1 (C9 f r).2
def Er:Nat→Nd→RS→Nd × RS
 | 0,x,r=>(x,r)
 | f+1,x,r=>if r.takes [42] then Er f (.mk 8 [] 0 [x,(C9 f r.step).1]) (C9 f r.step).2 else (x,r)
def Cu:Nat→RS→Nd × RS
 | 0,r=>(B2,r)
 | f+1,r=>D3 f (Ck f r).1 (Ck f r).2
def D3:Nat→Nd→RS→Nd × RS
 | 0,x,r=>(x,r)
 | f+1,x,r =>
   if r.takes [43] then D3 f (.mk 6 [] 0 [x,(Ck f r.step).1]) (Ck f r.step).2
   else if r.takes [45] then D3 f (.mk 7 [] 0 [x,(Ck f r.step).1]) (Ck f r.step).2
   else (x,r)
end
def RS.after (r r':RS):Prop:=r'.ws=r.ws∧r.at_≤r'.at_∧r'.at_≤r'.ws.length
theorem C6 {r:RS}(h:r.ok):r.after r:=⟨rfl,Nat.le_refl _,h.2⟩
theorem RS.after.ok {r r':RS}(h:r.after r')(hr:r.ok):r'.ok:=⟨by rw [h.1];exact hr.1,h.2.2⟩
theorem RS.after.trans {r r' r'':RS}(h:r.after r')(k:r'.after r''):r.after r'':=⟨k.1.trans h.1,Nat.le_trans h.2.1 k.2.1,k.2.2⟩
theorem Af4 {r:RS}(h:r.text≠[]):r.at_<r.ws.length:=by
 rcases Nat.lt_or_ge r.at_ r.ws.length with h' | h'
 ·exact h'
 ·exact absurd (by simp [RS.text,List.getElem?_eq_none h']) h
theorem M1 {r:RS}(h:r.kind≠0):r.at_<r.ws.length:=by
 rcases Nat.lt_or_ge r.at_ r.ws.length with h' | h'
 ·exact h'
 ·exact absurd (by simp [RS.kind,List.getElem?_eq_none h']) h
theorem Ak {r:RS}{s:List UInt8}(h:r.takes s=true)(hs:s≠[]):r.at_<r.ws.length∧r.text=s∧r.bad=false:=by
 simp only [RS.takes,Bool.not_eq_true',Bool.or_eq_false_iff,Bool.not_eq_false',beq_iff_eq] at h
 exact ⟨Af4 (by rw [h.2];exact hs),h.2,h.1⟩
theorem Ag {r:RS}(h:r.at_<r.ws.length):r.after r.step:=⟨rfl,Nat.le_succ _,h⟩
theorem Kv {r:RS}(h:r.ok):r.after r.spoil:=⟨rfl,Nat.le_refl _,h.2⟩
theorem Ar {r:RS}{s:List UInt8}(h:r.ok)(hs:s≠[]):r.after (r.need s):=by
 simp only [RS.need]
 split
 ·rename_i ht;exact Ag (Ak ht hs).1
 ·exact Kv h
theorem Bm {r:RS}(h:r.ok):r.after r.nameR:=by
 simp only [RS.nameR]
 split
 ·rename_i ht
  simp only [RS.named,Bool.not_eq_true',Bool.or_eq_false_iff,Bool.not_eq_false',beq_iff_eq] at ht
  exact Ag (M1 (by omega))
 ·exact Kv h
theorem Db:∀ (f:Nat),(∀ r:RS,r.ok→r.after (C9 f r).2)∧(∀ r:RS,r.ok→r.after (Ck f r).2)∧(∀ (x:Nd)(r:RS),r.ok→r.after (Er f x r).2)∧(∀ r:RS,r.ok→r.after (Cu f r).2)∧(∀ (x:Nd)(r:RS),r.ok→r.after (D3 f x r).2):=by
 intro f
 induction f with
 | zero=>exact ⟨fun r h=>by simp only [C9];exact C6 h,fun r h=>by simp only [Ck];exact C6 h,fun x r h=>by simp only [Er];exact C6 h,fun r h=>by simp only [Cu];exact C6 h,fun x r h=>by simp only [D3];exact C6 h⟩
 | succ f ih =>
   obtain ⟨i1,i2,i3,i4,i5⟩:=ih
   refine ⟨fun r h=>?_,fun r h=>?_,fun x r h=>?_,fun r h=>?_,fun x r h=>?_⟩
   ·simp only [C9]
    split
    ·exact C6 h
    split
    ·rename_i ht
     have a:=Ag (Ak ht (by simp)).1
     exact a.trans (i1 _ (a.ok h))
    split
    ·rename_i hk
     exact Ag (M1 (by have:r.kind=2:=by simpa using hk
                      omega))
    split
    ·rename_i ht
     have a:=Ag (Ak ht (by simp)).1
     have b:=a.trans (i4 _ (a.ok h))
     exact b.trans (Ar (b.ok h) (by simp))
    split
    ·rename_i ht
     have a:=Ag (Ak ht (by simp)).1
     have b:=a.trans (Ar (s:=[40]) (a.ok h) (by simp))
     have c:=b.trans (Bm (b.ok h))
     exact c.trans (Ar (c.ok h) (by simp))
    have a:=Bm h
    split
    ·rename_i ht
     have b:=a.trans (Ag (Ak ht (by simp)).1)
     have c:=b.trans (i4 _ (b.ok h))
     exact c.trans (Ar (c.ok h) (by simp))
    ·exact a
   ·simp only [Ck]
    have a:=i1 r h
    exact a.trans (i3 _ _ (a.ok h))
   ·simp only [Er]
    split
    ·rename_i ht
     have a:=Ag (Ak ht (by simp)).1
     have b:=a.trans (i1 _ (a.ok h))
     exact b.trans (i3 _ _ (b.ok h))
    ·exact C6 h
   ·simp only [Cu]
    have a:=i2 r h
    exact a.trans (i5 _ _ (a.ok h))
   ·simp only [D3]
    split
    ·rename_i ht
     have a:=Ag (Ak ht (by simp)).1
     have b:=a.trans (i2 _ (a.ok h))
     exact b.trans (i5 _ _ (b.ok h))
    split
    ·rename_i ht
     have a:=Ag (Ak ht (by simp)).1
     have b:=a.trans (i2 _ (a.ok h))
     exact b.trans (i5 _ _ (b.ok h))
    ·exact C6 h
abbrev zN:List AV:=[vi 0,str [],vi 0,.sl [] .tight]
def RS.left (r:RS):Nat:=r.ws.length-r.at_
theorem Au {r r':RS}(h:r.after r'):r'.left≤r.left:=by have:=h.1;have:=h.2.1;simp only [RS.left,h.1];omega
theorem Bc {r:RS}(h:r.at_<r.ws.length):r.step.left+1=r.left:=by simp only [RS.left,RS.step];omega
def Alw (f:Nat):Prop:=∀ r:RS,r.ok→4*r.left+1≤f→Hands X 368 [.ptr 0 0 0] ⟨[[rc r]],[]⟩ (nd (C9 f r).1) ⟨[[rc (C9 f r).2]],[]⟩
def Aik (f:Nat):Prop:=∀ r:RS,r.ok→4*r.left+2≤f→Hands X 354 [.ptr 0 0 0] ⟨[[rc r]],[]⟩ (nd (Ck f r).1) ⟨[[rc (Ck f r).2]],[]⟩
def Aih (f:Nat):Prop:=∀ r:RS,r.ok→4*r.left+3≤f→Hands X 331 [.ptr 0 0 0] ⟨[[rc r]],[]⟩ (nd (Cu f r).1) ⟨[[rc (Cu f r).2]],[]⟩
theorem Arc (f:Nat)(ih:∀ g,g<f→Alw g):Aik f:=by
 intro r hr hf
 obtain ⟨g,rfl⟩:∃ g,f=g+1:=⟨f-1,by omega⟩
 have a1:=(Db g).1 r hr
 have l1:=Au a1
 refine Hands.run Tryz.func354 ?_
 refine AK.hc [0] [] (ih g (by omega) r hr (by omega)) ?_
 obtain ⟨x0,hx0⟩:∃ x0,(C9 g r).1=x0:=⟨_,rfl⟩
 obtain ⟨r0,hr0⟩:∃ r0,(C9 g r).2=r0:=⟨_,rfl⟩
 have hT:Ck (g+1) r=Er g x0 r0:=by simp only [Ck];rw [hx0,hr0]
 rw [hT,hx0,hr0]
 rw [hr0] at a1 l1
 generalize hTT:Er g x0 r0=T
 refine AK.while_ (ι:=Nat × Nd × RS) 3 0 (fun i=>i.2.2.ok∧4*i.2.2.left+1≤i.1∧i.1≤g∧T=Er i.1 i.2.1 i.2.2) (fun i=>[(0,.ptr 0 0 0),(2,.ptr 1 0 0),(3,.ptr 2 0 0)])
  (fun i=>⟨[[rc i.2.2],[zN],[Ae i.2.1]],[]⟩) (fun i=>i.1) ?_ (g,x0,r0) ⟨a1.ok hr,by simp only;omega,Nat.le_refl _,hTT.symm⟩ ⟨rfl,rfl,rfl,trivial⟩
 rintro ⟨n,x,q⟩ ⟨hq,hn,hng,hTn⟩ IH
 simp only at hq hn hng hTn IH ⊢
 obtain ⟨m,rfl⟩:∃ m,n=m+1:=⟨n-1,by omega⟩
 refine AK.ev 100 rfl ?_
 refine AK.hc [0] [] (Fj q [42] hq) ?_
 refine AK.if_ (fun h=>?_) (fun h=>?_)
 ·have ht:=Ak h (by simp)
  have hk:q.take [42]=q.step:=by simp [RS.take,h]
  have asx:=Ag ht.1
  have ls:=Bc ht.1
  have ao:=(Db m).1 q.step (asx.ok hq)
  have lo:=Au ao
  rw [hk]
  refine AK.hc [0] [] (ih m (by omega) q.step (asx.ok hq) (by omega)) ?_
  refine AK.pc (Rk 8 x (C9 m q.step).1) ?_
  refine IH (m,.mk 8 [] 0 [x,(C9 m q.step).1],(C9 m q.step).2) ⟨ao.ok (asx.ok hq),by simp only;omega,by simp only;omega,?_⟩ (by simp only;omega) _ _ ⟨rfl,rfl,rfl,trivial⟩ rfl rfl rfl
  rw [hTn];simp only [Er];rw [if_pos h]
 ·have hk:q.take [42]=q:=by simp [RS.take,h]
  have:T=(x,q):=by rw [hTn];simp only [Er];rw [if_neg (by simp [h])]
  rw [this,hk]
  exact AK.rb Tryz.func354 rfl rfl
theorem Aq8 (f:Nat)(ih:∀ g,g<f→Aik g):Aih f:=by
 intro r hr hf
 obtain ⟨g,rfl⟩:∃ g,f=g+1:=⟨f-1,by omega⟩
 have a1:=(Db g).2.1 r hr
 have l1:=Au a1
 refine Hands.run Tryz.func331 ?_
 refine AK.hc [0] [] (ih g (by omega) r hr (by omega)) ?_
 obtain ⟨x0,hx0⟩:∃ x0,(Ck g r).1=x0:=⟨_,rfl⟩
 obtain ⟨r0,hr0⟩:∃ r0,(Ck g r).2=r0:=⟨_,rfl⟩
 have hT:Cu (g+1) r=D3 g x0 r0:=by simp only [Cu];rw [hx0,hr0]
 rw [hT,hx0,hr0]
 rw [hr0] at a1 l1
 generalize hTT:D3 g x0 r0=T
 refine AK.while_ (ι:=Nat × Nd × RS) 3 0 (fun i=>i.2.2.ok∧4*i.2.2.left+1≤i.1∧i.1≤g∧T=D3 i.1 i.2.1 i.2.2) (fun i=>[(0,.ptr 0 0 0),(2,.ptr 1 0 0),(3,.ptr 2 0 0)])
  (fun i=>⟨[[rc i.2.2],[zN],[Ae i.2.1]],[]⟩) (fun i=>i.1) ?_ (g,x0,r0) ⟨a1.ok hr,by simp only;omega,Nat.le_refl _,hTT.symm⟩ ⟨rfl,rfl,rfl,trivial⟩
 rintro ⟨n,x,q⟩ ⟨hq,hn,hng,hTn⟩ IH
 simp only at hq hn hng hTn IH ⊢
 obtain ⟨m,rfl⟩:∃ m,n=m+1:=⟨n-1,by omega⟩
 refine AK.ev 100 rfl ?_
 refine AK.hc [0] [] (Fj q [43] hq) ?_
 refine AK.if_ (fun h=>?_) (fun h=>?_)
 ·have ht:=Ak h (by simp)
  have hk:q.take [43]=q.step:=by simp [RS.take,h]
  have asx:=Ag ht.1
  have ls:=Bc ht.1
  have ao:=(Db m).2.1 q.step (asx.ok hq)
  have lo:=Au ao
  rw [hk]
  refine AK.hc [0] [] (ih m (by omega) q.step (asx.ok hq) (by omega)) ?_
  refine AK.pc (Rk 6 x (Ck m q.step).1) ?_
  refine IH (m,.mk 6 [] 0 [x,(Ck m q.step).1],(Ck m q.step).2) ⟨ao.ok (asx.ok hq),by simp only;omega,by simp only;omega,?_⟩ (by simp only;omega) _ _ ⟨rfl,rfl,rfl,trivial⟩ rfl rfl rfl
  rw [hTn];simp only [D3];rw [if_pos h]
 have hk:q.take [43]=q:=by simp [RS.take,h]
 rw [hk]
 refine AK.hc [0] [] (Fj q [45] hq) ?_
 refine AK.if_ (fun h2=>?_) (fun h2=>?_)
 ·have ht:=Ak h2 (by simp)
  have hk:q.take [45]=q.step:=by simp [RS.take,h2]
  have asx:=Ag ht.1
  have ls:=Bc ht.1
  have ao:=(Db m).2.1 q.step (asx.ok hq)
  have lo:=Au ao
  rw [hk]
  refine AK.hc [0] [] (ih m (by omega) q.step (asx.ok hq) (by omega)) ?_
  refine AK.pc (Rk 7 x (Ck m q.step).1) ?_
  refine IH (m,.mk 7 [] 0 [x,(Ck m q.step).1],(Ck m q.step).2) ⟨ao.ok (asx.ok hq),by simp only;omega,by simp only;omega,?_⟩ (by simp only;omega) _ _ ⟨rfl,rfl,rfl,trivial⟩ rfl rfl rfl
  rw [hTn];simp only [D3];rw [if_neg (by simp [h]),if_pos h2]
 ·have hk:q.take [45]=q:=by simp [RS.take,h2]
  have:T=(x,q):=by rw [hTn];simp only [D3];rw [if_neg (by simp [h]),if_neg (by simp [h2])]
  rw [this,hk]
  exact AK.rb Tryz.func331 rfl rfl
theorem As4 (f:Nat)(ih:∀ g,g<f→Alw g)(ihe:∀ g,g<f→Aih g):Alw f:=by
 intro r hr hf
 obtain ⟨g,rfl⟩:∃ g,f=g+1:=⟨f-1,by omega⟩
 refine Hands.run Tryz.func368 ?_
 refine AK.if_ (fun h=>?_) (fun h=>?_)
 ·have h':r.bad=true:=h
  have hT:C9 (g+1) r=(B2,r):=by simp only [C9];rw [if_pos h']
  rw [hT]
  exact AK.rb Tryz.func368 rfl rfl
 have h':r.bad=false:=h
 refine AK.hc [0] [] (Fj r [45] hr) ?_
 refine AK.if_ (fun h1=>?_) (fun h1=>?_)
 ·have ht:=Ak h1 (by simp)
  have hk:r.take [45]=r.step:=by simp [RS.take,h1]
  have asx:=Ag ht.1
  have ls:=Bc ht.1
  have hT:C9 (g+1) r=(.mk 5 [] 0 [(C9 g r.step).1],(C9 g r.step).2):=by simp only [C9];rw [if_neg (by simp [h']),if_pos h1]
  rw [hk,hT]
  refine AK.hc [0] [] (ih g (by omega) r.step (asx.ok hr) (by omega)) ?_
  refine AK.pc (Afm 5 (C9 g r.step).1) ?_
  exact AK.rb Tryz.func368 rfl rfl
 have hk1:r.take [45]=r:=by simp [RS.take,h1]
 rw [hk1]
 refine AK.hc [0] [] (Ady r) ?_
 refine AK.if_ (fun h2=>?_) (fun h2=>?_)
 ·have h2':r.kind=2:=by have:(r.kind==2)=true:=h2;simpa using this
  obtain ⟨w,hw,_,hwt⟩:=Afw r (by omega)
  have hT:C9 (g+1) r=(.mk 1 [] (B6 w.text) [],r.step):=by simp only [C9];rw [if_neg (by simp [h']),if_neg (by simp [h1]),if_pos (by simp [h2']),hwt]
  have hb:=Ao6 r.at_ (by have:=hr.2;have:=hr.1;omega)
  rw [hT,← Uz r hr]
  refine AK.db 16384 ?_
  refine Gz (fun S'=>Ndo.index (r:=Oy w) rfl rfl rfl rfl rfl rfl rfl rfl rfl ?_ ?_) ?_
  ·rw [hb];omega
  ·rw [hb];exact L8 hw
  refine Drv.go ?_
  refine Drv.pc (Wb w.text) ?_
  refine Drv.e ?_
  refine Drv.w (Ndo.store rfl rfl rfl rfl rfl rfl rfl) ?_
  refine Drv.z ?_
  exact AK.rb Tryz.func368 rfl rfl
 have h2':¬ (r.kind==2)=true:=by have:(r.kind==2)=false:=h2;simp [this]
 refine AK.hc [0] [] (Fj r [40] hr) ?_
 refine AK.if_ (fun h3=>?_) (fun h3=>?_)
 ·have ht:=Ak h3 (by simp)
  have hk:r.take [40]=r.step:=by simp [RS.take,h3]
  have asx:=Ag ht.1
  have ls:=Bc ht.1
  have ae:=asx.trans ((Db g).2.2.2.1 r.step (asx.ok hr))
  have hT:C9 (g+1) r=((Cu g r.step).1,(Cu g r.step).2.need [41]):=by simp only [C9];rw [if_neg (by simp [h']),if_neg (by simp [h1]),if_neg h2',if_pos h3]
  rw [hk,hT]
  refine AK.hc [0] [] (ihe g (by omega) r.step (asx.ok hr) (by omega)) ?_
  refine AK.hc [0] [] (E6 (Cu g r.step).2 [41] (ae.ok hr)) ?_
  exact AK.rb Tryz.func368 rfl rfl
 have hk3:r.take [40]=r:=by simp [RS.take,h3]
 rw [hk3]
 refine AK.hc [0] [] (Fj r [108,101,110] hr) ?_
 refine AK.if_ (fun h4=>?_) (fun h4=>?_)
 ·have ht:=Ak h4 (by simp)
  have hk:r.take [108,101,110]=r.step:=by simp [RS.take,h4]
  have asx:=Ag ht.1
  have a2:=asx.trans (Ar (s:=[40]) (asx.ok hr) (by simp))
  have a3:=a2.trans (Bm (a2.ok hr))
  have hT:C9 (g+1) r=(.mk 4 (r.step.need [40]).name 0 [],(r.step.need [40]).nameR.need [41]):=by simp only [C9];rw [if_neg (by simp [h']),if_neg (by simp [h1]),if_neg h2',if_neg (by simp [h3]),if_pos h4]
  rw [hk,hT]
  refine AK.hc [0] [] (E6 r.step [40] (asx.ok hr)) ?_
  refine AK.hc [0] [] (Qd (r.step.need [40]) (a2.ok hr)) ?_
  refine AK.hc [0] [] (E6 (r.step.need [40]).nameR [41] (a3.ok hr)) ?_
  exact AK.rb Tryz.func368 rfl rfl
 have hk4:r.take [108,101,110]=r:=by simp [RS.take,h4]
 rw [hk4]
 have an:=Bm hr
 have ln:=Au an
 refine AK.hc [0] [] (Qd r hr) ?_
 refine AK.hc [0] [] (Fj r.nameR [91] (an.ok hr)) ?_
 refine AK.if_ (fun h5=>?_) (fun h5=>?_)
 ·have ht:=Ak h5 (by simp)
  have hk:r.nameR.take [91]=r.nameR.step:=by simp [RS.take,h5]
  have asx:=Ag ht.1
  have ls:=Bc ht.1
  have a2:=an.trans asx
  have ae:=a2.trans ((Db g).2.2.2.1 r.nameR.step (a2.ok hr))
  have hT:C9 (g+1) r=(.mk 3 r.name 0 [(Cu g r.nameR.step).1],(Cu g r.nameR.step).2.need [93]):=by
   simp only [C9];rw [if_neg (by simp [h']),if_neg (by simp [h1]),if_neg h2',if_neg (by simp [h3]),if_neg (by simp [h4]),if_pos h5]
  rw [hk,hT]
  refine AK.hc [0] [] (ihe g (by omega) r.nameR.step (a2.ok hr) (by omega)) ?_
  refine AK.pc (Afm 3 (Cu g r.nameR.step).1) ?_
  refine AK.hc [0] [] (E6 (Cu g r.nameR.step).2 [93] (ae.ok hr)) ?_
  exact AK.rb Tryz.func368 rfl rfl
 ·have hk:r.nameR.take [91]=r.nameR:=by simp [RS.take,h5]
  have hT:C9 (g+1) r=(.mk 2 r.name 0 [],r.nameR):=by
   simp only [C9];rw [if_neg (by simp [h']),if_neg (by simp [h1]),if_neg h2',if_neg (by simp [h3]),if_neg (by simp [h4]),if_neg (by simp [h5])]
  rw [hk,hT]
  exact AK.rb Tryz.func368 rfl rfl
theorem Aof:∀ f,Alw f∧Aik f∧Aih f:=by
 intro f
 induction f using Nat.strongRecOn with
 | ind f ih =>
   exact ⟨As4 f (fun g h=>(ih g h).1) (fun g h=>(ih g h).2.2),Arc f (fun g h=>(ih g h).1),Aq8 f (fun g h=>(ih g h).2.1)⟩
def A9 (r:RS):Nd × RS:=Cu 6010 r
theorem Bb {r:RS}(h:r.ok):r.after (A9 r).2:=(Db 6010).2.2.2.1 r h
theorem Nh (r:RS)(h:r.ok):Hands X 331 [.ptr 0 0 0] ⟨[[rc r]],[]⟩ (nd (A9 r).1) ⟨[[rc (A9 r).2]],[]⟩ :=
 (Aof 6010).2.2 r h (by have:=h.1;simp only [RS.left];omega)
def B5 (r:RS):Nd × RS :=
 if (A9 r).2.bad||relS (A9 r).2.text==0 then (B2,(A9 r).2.spoil)
 else (.mk (relS (A9 r).2.text) [] 0 [(A9 r).1,(A9 (A9 r).2.step).1],(A9 (A9 r).2.step).2)
theorem Pj {r:RS}(h:relS r.text≠0):r.at_<r.ws.length:=Af4 fun e=>h (by rw [e];rfl)
theorem Ca {r:RS}(h:r.ok):r.after (B5 r).2:=by
 have a:=Bb h
 simp only [B5]
 split
 ·exact a.trans (Kv (a.ok h))
 ·rename_i hc
  simp only [Bool.or_eq_true,not_or,beq_iff_eq] at hc
  have b:=a.trans (Ag (Pj hc.2))
  exact b.trans (Bb (b.ok h))
theorem Adx (r:RS)(hr:r.ok):Hands X 329 [.ptr 0 0 0] ⟨[[rc r]],[]⟩ (nd (B5 r).1) ⟨[[rc (B5 r).2]],[]⟩:=by
 have a:=Bb hr
 refine Hands.run Tryz.func329 ?_
 refine AK.hc [0] [] (Nh r hr) ?_
 obtain ⟨x,hx⟩:∃ x,(A9 r).1=x:=⟨_,rfl⟩
 obtain ⟨q,hq⟩:∃ q,(A9 r).2=q:=⟨_,rfl⟩
 have hT:B5 r=if q.bad||relS q.text==0 then (B2,q.spoil) else (.mk (relS q.text) [] 0 [x,(A9 q.step).1],(A9 q.step).2):=by simp only [B5];rw [hx,hq]
 rw [hT,hx,hq]
 rw [hq] at a
 refine AK.hc [0] [] (Aab q) ?_
 refine AK.pc (As0 q.text) ?_
 refine AK.gd (fun h=>?_) (fun h=>?_)
 ·have h':q.bad=true:=h
  refine AK.yes ?_
  rw [if_pos (by simp [h'])]
  exact AK.rb Tryz.func329 rfl rfl
 have h':q.bad=false:=h
 refine AK.if_ (fun h2=>?_) (fun h2=>?_)
 ·have h2':(relS q.text==0)=true:=h2
  rw [if_pos (by simp only [h',h2'];rfl)]
  exact AK.rb Tryz.func329 rfl rfl
 ·have h2':(relS q.text==0)=false:=h2
  have hne:relS q.text≠0:=by simpa using h2'
  have b:=a.trans (Ag (Pj hne))
  have qo:=a.ok hr
  rw [if_neg (by simp only [h',h2'];decide)]
  have hw:rd q.ws (IntKind.i64.wrap ((q.at_:Int)+1)) q.bad=rc q.step:=Uz q qo
  have hrun:=Nh q.step (b.ok hr)
  rw [← hw] at hrun
  refine AK.hc [0] [] hrun ?_
  refine AK.pc (Rk (relS q.text) x (A9 q.step).1) ?_
  exact AK.rb Tryz.func329 rfl rfl
abbrev Po:List UInt8:=[105,102]
abbrev Fc:List UInt8:=[101,108,115,101]
abbrev Dw:List UInt8:=[119,104,105,108,101]
abbrev Ie:List UInt8:=[102,111,114]
abbrev Ga:List UInt8:=[102,114,111,109]
abbrev Ue:List UInt8:=[116,111]
abbrev Dn:List UInt8:=[99,104,101,99,107]
abbrev Fe:List UInt8:=[114,101,97,100]
abbrev Fg:List UInt8:=[115,107,105,112]
abbrev Ft:List UInt8:=[115,116,111,112]
abbrev Je:List UInt8:=[118,97,114]
abbrev Da:List UInt8:=[97,114,114,97,121]
def Ly (r:RS):Nd × RS :=
 if r.nameR.takes [91] then
  (.mk 22 r.name 0 [(A9 r.nameR.step).1,(A9 (((A9 r.nameR.step).2.need [93]).need [61])).1],(A9 (((A9 r.nameR.step).2.need [93]).need [61])).2)
 else (.mk 21 r.name 0 [(A9 (r.nameR.need [61])).1],(A9 (r.nameR.need [61])).2)
def Bp (r:RS):Nd × RS :=
 if r.takes Dn then (.mk 27 [] 0 [(B5 r.step).1],(B5 r.step).2)
 else if r.takes Fe then (.mk 23 r.step.name 0 [],r.step.nameR)
 else if r.takes Fg then (.mk 28 [] 0 [],r.step)
 else if r.takes Ft then (.mk 29 [] 0 [],r.step)
 else Ly r
def Q4 (r:RS):RS:=r.nameR.need Ga
def Sd (r:RS):RS:=(A9 (Q4 r)).2.need Ue
mutual
def Bz:Nat→RS→Nd × RS
 | 0,r=>(B2,r)
 | f+1,r =>
   if r.takes Po then
    if (Bi f (B5 r.step).2).2.takes Fc then
     (.mk 24 [] 0 [(B5 r.step).1,(Bi f (B5 r.step).2).1,(Bi f (Bi f (B5 r.step).2).2.step).1],(Bi f (Bi f (B5 r.step).2).2.step).2)
    else (.mk 24 [] 0 [(B5 r.step).1,(Bi f (B5 r.step).2).1,.mk 30 [] 0 []],(Bi f (B5 r.step).2).2)
   else if r.takes Dw then (.mk 25 [] 0 [(B5 r.step).1,(Bi f (B5 r.step).2).1],(Bi f (B5 r.step).2).2)
   else if r.takes Ie then
    (.mk 26 r.step.name 0 [(A9 (Q4 r.step)).1,(A9 (Sd r.step)).1,(Bi f (A9 (Sd r.step)).2).1],(Bi f (A9 (Sd r.step)).2).2)
   else ((Bp r).1,(Bp r).2.need [59])
def Bi:Nat→RS→Nd × RS
 | 0,r=>(B2,r)
 | f+1,r=>(.mk 30 [] 0 (Ch f [] (r.need [123])).1,(Ch f [] (r.need [123])).2.need [125])
def Ch:Nat→List Nd→RS→List Nd × RS
 | 0,acc,r=>(acc,r)
 | f+1,acc,r=>if !r.bad&&decide (r.at_<r.ws.length)&&!(r.text==[125]) then Ch f (acc++[(Bz f r).1]) (Bz f r).2 else (acc,r)
end
theorem Ad2 {r:RS}(h:r.ok):r.after (Ly r).2:=by
 have a:=Bm h
 simp only [Ly]
 split
 ·rename_i ht
  have b:=a.trans (Ag (Ak ht (by simp)).1)
  have c:=b.trans (Bb (b.ok h))
  have d:=c.trans (Ar (s:=[93]) (c.ok h) (by simp))
  have e:=d.trans (Ar (s:=[61]) (d.ok h) (by simp))
  exact e.trans (Bb (e.ok h))
 ·have b:=a.trans (Ar (s:=[61]) (a.ok h) (by simp))
  exact b.trans (Bb (b.ok h))
theorem K6 {r:RS}(h:r.ok):r.after (Bp r).2:=by
 simp only [Bp]
 split
 ·rename_i ht
  have b:=Ag (Ak ht (by simp)).1
  exact b.trans (Ca (b.ok h))
 split
 ·rename_i ht
  have b:=Ag (Ak ht (by simp)).1
  exact b.trans (Bm (b.ok h))
 split
 ·rename_i ht
  exact Ag (Ak ht (by simp)).1
 split
 ·rename_i ht
  exact Ag (Ak ht (by simp)).1
 exact Ad2 h
theorem Mv {r:RS}(h:r.ok):r.after (Q4 r):=by
 have a:=Bm h
 exact a.trans (Ar (a.ok h) (by simp))
theorem Hj {r:RS}(h:r.ok):r.after (Sd r):=by
 have a:=Mv h
 have b:=a.trans (Bb (a.ok h))
 exact b.trans (Ar (b.ok h) (by simp))
theorem Dj:∀ (f:Nat),(∀ r:RS,r.ok→r.after (Bz f r).2)∧(∀ r:RS,r.ok→r.after (Bi f r).2)∧(∀ (acc:List Nd)(r:RS),r.ok→r.after (Ch f acc r).2):=by
 intro f
 induction f with
 | zero=>exact ⟨fun r h=>by simp only [Bz];exact C6 h,fun r h=>by simp only [Bi];exact C6 h,fun x r h=>by simp only [Ch];exact C6 h⟩
 | succ f ih =>
   obtain ⟨i1,i2,i3⟩:=ih
   refine ⟨fun r h=>?_,fun r h=>?_,fun acc r h=>?_⟩
   ·simp only [Bz]
    split
    ·rename_i ht
     have b:=Ag (Ak ht (by simp)).1
     have c:=b.trans (Ca (b.ok h))
     have d:=c.trans (i2 _ (c.ok h))
     split
     ·rename_i ht2
      have e:=d.trans (Ag (Ak ht2 (by simp)).1)
      exact e.trans (i2 _ (e.ok h))
     ·exact d
    split
    ·rename_i ht
     have b:=Ag (Ak ht (by simp)).1
     have c:=b.trans (Ca (b.ok h))
     exact c.trans (i2 _ (c.ok h))
    split
    ·rename_i ht
     have b:=Ag (Ak ht (by simp)).1
     have c:=b.trans (Hj (b.ok h))
     have d:=c.trans (Bb (c.ok h))
     exact d.trans (i2 _ (d.ok h))
    ·have a:=K6 h
     exact a.trans (Ar (a.ok h) (by simp))
   ·simp only [Bi]
    have a:=Ar (s:=[123]) h (by simp)
    have b:=a.trans (i3 [] _ (a.ok h))
    exact b.trans (Ar (b.ok h) (by simp))
   ·simp only [Ch]
    split
    ·have a:=i1 r h
     exact a.trans (i3 _ _ (a.ok h))
    ·exact C6 h
def Aij (f:Nat):Prop:=∀ r:RS,r.ok→3*r.left+1≤f→f≤100000→Hands X 312 [.ptr 0 0 0] ⟨[[rc r]],[]⟩ (nd (Bz f r).1) ⟨[[rc (Bz f r).2]],[]⟩
def Acl (f:Nat):Prop:=∀ r:RS,r.ok→3*r.left+3≤f→f≤100000→Hands X 330 [.ptr 0 0 0] ⟨[[rc r]],[]⟩ (nd (Bi f r).1) ⟨[[rc (Bi f r).2]],[]⟩
def Aii (f:Nat):Prop:=∀ r:RS,r.ok→3*r.left+2≤f→f≤100000→Hands X 291 [.ptr 0 0 0] ⟨[[rc r]],[]⟩ (nd (.mk 30 [] 0 (Ch f [] r).1)) ⟨[[rc (Ch f [] r).2]],[]⟩
theorem Aoe (f:Nat)(ih:∀ g,g<f→Aii g):Acl f:=by
 intro r hr hf hF
 obtain ⟨g,rfl⟩:∃ g,f=g+1:=⟨f-1,by omega⟩
 have a:=Ar (s:=[123]) hr (by simp)
 have la:=Au a
 have b:=a.trans ((Dj g).2.2 [] _ (a.ok hr))
 refine Hands.run Tryz.func330 ?_
 simp only [Bi]
 refine AK.hc [0] [] (E6 r [123] hr) ?_
 refine AK.hc [0] [] (ih g (by omega) (r.need [123]) (a.ok hr) (by omega) (by omega)) ?_
 refine AK.hc [0] [] (E6 (Ch g [] (r.need [123])).2 [125] (b.ok hr)) ?_
 exact AK.rb Tryz.func330 rfl rfl
theorem Hw (k:Int)(s:List UInt8)(m:Int)(ks:List Nd):nd (.mk k s m ks)=.agg [vi k,str s,vi m,.sl (ks.map Ae) .no]:=by
 show AV.agg [_,_,_,.sl (Ai ks) _]=_
 rw [Aj];rfl
theorem Arb (f:Nat)(ihb:∀ g,g<f→Acl g):Aij f:=by
 intro r hr hf hF
 obtain ⟨g,rfl⟩:∃ g,f=g+1:=⟨f-1,by omega⟩
 refine Hands.run Tryz.func312 ?_
 refine AK.hc [0] [] (Fj r Po hr) ?_
 refine AK.if_ (fun h1=>?_) (fun h1=>?_)
 ·have ht:=Ak h1 (by simp)
  have hk:r.take Po=r.step:=by simp [RS.take,h1]
  have a:=Ag ht.1
  have ls:=Bc ht.1
  have c:=a.trans (Ca (a.ok hr))
  have lc:=Au (Ca (a.ok hr))
  have d:=c.trans ((Dj g).2.1 _ (c.ok hr))
  have ld:=Au ((Dj g).2.1 _ (c.ok hr))
  simp only [Bz]
  rw [if_pos h1,hk]
  refine AK.hc [0] [] (Adx r.step (a.ok hr)) ?_
  refine AK.hc [0] [] (ihb g (by omega) (B5 r.step).2 (c.ok hr) (by omega) (by omega)) ?_
  refine AK.hc [0] [] (Fj (Bi g (B5 r.step).2).2 Fc (d.ok hr)) ?_
  refine AK.if_ (fun h2=>?_) (fun h2=>?_)
  ·have ht2:=Ak h2 (by simp)
   have hk2:(Bi g (B5 r.step).2).2.take Fc=(Bi g (B5 r.step).2).2.step:=by simp [RS.take,h2]
   have e:=Ag ht2.1
   have le:=Bc ht2.1
   rw [if_pos h2,hk2]
   refine AK.hc [0] [] (ihb g (by omega) (Bi g (B5 r.step).2).2.step (e.ok (d.ok hr)) (by omega) (by omega)) ?_
   rw [Hw]
   exact AK.rb Tryz.func312 rfl rfl
  ·have hk2:(Bi g (B5 r.step).2).2.take Fc=(Bi g (B5 r.step).2).2:=by simp [RS.take,h2]
   rw [if_neg (by simp [h2]),hk2,Hw]
   exact AK.rb Tryz.func312 rfl rfl
 have hk1:r.take Po=r:=by simp [RS.take,h1]
 rw [hk1]
 refine AK.hc [0] [] (Fj r Dw hr) ?_
 refine AK.if_ (fun h2=>?_) (fun h2=>?_)
 ·have ht:=Ak h2 (by simp)
  have hk:r.take Dw=r.step:=by simp [RS.take,h2]
  have a:=Ag ht.1
  have ls:=Bc ht.1
  have c:=a.trans (Ca (a.ok hr))
  have lc:=Au (Ca (a.ok hr))
  simp only [Bz]
  rw [if_neg (by simp [h1]),if_pos h2,hk]
  refine AK.hc [0] [] (Adx r.step (a.ok hr)) ?_
  refine AK.hc [0] [] (ihb g (by omega) (B5 r.step).2 (c.ok hr) (by omega) (by omega)) ?_
  refine AK.pc (Rk 25 (B5 r.step).1 (Bi g (B5 r.step).2).1) ?_
  exact AK.rb Tryz.func312 rfl rfl
 have hk2:r.take Dw=r:=by simp [RS.take,h2]
 rw [hk2]
 refine AK.hc [0] [] (Fj r Ie hr) ?_
 refine AK.if_ (fun h3=>?_) (fun h3=>?_)
 ·have ht:=Ak h3 (by simp)
  have hk:r.take Ie=r.step:=by simp [RS.take,h3]
  have a:=Ag ht.1
  have ls:=Bc ht.1
  have b:=a.trans (Bm (a.ok hr))
  have c:=a.trans (Mv (a.ok hr))
  have d:=c.trans (Bb (c.ok hr))
  have e:=a.trans (Hj (a.ok hr))
  have e2:=e.trans (Bb (e.ok hr))
  have l1:=Au (Hj (a.ok hr))
  have l2:=Au (Bb (e.ok hr))
  simp only [Bz]
  rw [if_neg (by simp [h1]),if_neg (by simp [h2]),if_pos h3,hk]
  refine AK.hc [0] [] (Qd r.step (a.ok hr)) ?_
  refine AK.hc [0] [] (E6 r.step.nameR Ga (b.ok hr)) ?_
  refine AK.hc [0] [] (Nh (Q4 r.step) (c.ok hr)) ?_
  refine AK.hc [0] [] (E6 (A9 (Q4 r.step)).2 Ue (d.ok hr)) ?_
  refine AK.hc [0] [] (Nh (Sd r.step) (e.ok hr)) ?_
  refine AK.hc [0] [] (ihb g (by omega) (A9 (Sd r.step)).2 (e2.ok hr) (by omega) (by omega)) ?_
  rw [Hw]
  exact AK.rb Tryz.func312 rfl rfl
 have hk3:r.take Ie=r:=by simp [RS.take,h3]
 rw [hk3]
 have hs:=K6 hr
 have hT:Bz (g+1) r=((Bp r).1,(Bp r).2.need [59]):=by simp only [Bz];rw [if_neg (by simp [h1]),if_neg (by simp [h2]),if_neg (by simp [h3])]
 rw [hT]
 refine AK.hc [0] [] (Fj r Dn hr) ?_
 refine AK.if_ (fun h4=>?_) (fun h4=>?_)
 ·have ht:=Ak h4 (by simp)
  have hk:r.take Dn=r.step:=by simp [RS.take,h4]
  have a:=Ag ht.1
  have c:=a.trans (Ca (a.ok hr))
  have hS:Bp r=(.mk 27 [] 0 [(B5 r.step).1],(B5 r.step).2):=by simp only [Bp];rw [if_pos h4]
  rw [hk,hS]
  refine AK.hc [0] [] (Adx r.step (a.ok hr)) ?_
  refine AK.pc (Afm 27 (B5 r.step).1) ?_
  refine AK.hc [0] [] (E6 (B5 r.step).2 [59] (c.ok hr)) ?_
  exact AK.rb Tryz.func312 rfl rfl
 have hk4:r.take Dn=r:=by simp [RS.take,h4]
 rw [hk4]
 refine AK.hc [0] [] (Fj r Fe hr) ?_
 refine AK.if_ (fun h5=>?_) (fun h5=>?_)
 ·have ht:=Ak h5 (by simp)
  have hk:r.take Fe=r.step:=by simp [RS.take,h5]
  have a:=Ag ht.1
  have c:=a.trans (Bm (a.ok hr))
  have hS:Bp r=(.mk 23 r.step.name 0 [],r.step.nameR):=by simp only [Bp];rw [if_neg (by simp [h4]),if_pos h5]
  rw [hk,hS,Hw]
  refine AK.hc [0] [] (Qd r.step (a.ok hr)) ?_
  refine AK.hc [0] [] (E6 r.step.nameR [59] (c.ok hr)) ?_
  exact AK.rb Tryz.func312 rfl rfl
 have hk5:r.take Fe=r:=by simp [RS.take,h5]
 rw [hk5]
 refine AK.hc [0] [] (Fj r Fg hr) ?_
 refine AK.if_ (fun h6=>?_) (fun h6=>?_)
 ·have ht:=Ak h6 (by simp)
  have hk:r.take Fg=r.step:=by simp [RS.take,h6]
  have a:=Ag ht.1
  have hS:Bp r=(.mk 28 [] 0 [],r.step):=by simp only [Bp];rw [if_neg (by simp [h4]),if_neg (by simp [h5]),if_pos h6]
  rw [hk,hS,Hw]
  refine AK.hc [0] [] (E6 r.step [59] (a.ok hr)) ?_
  exact AK.rb Tryz.func312 rfl rfl
 have hk6:r.take Fg=r:=by simp [RS.take,h6]
 rw [hk6]
 refine AK.hc [0] [] (Fj r Ft hr) ?_
 refine AK.if_ (fun h7=>?_) (fun h7=>?_)
 ·have ht:=Ak h7 (by simp)
  have hk:r.take Ft=r.step:=by simp [RS.take,h7]
  have a:=Ag ht.1
  have hS:Bp r=(.mk 29 [] 0 [],r.step):=by simp only [Bp];rw [if_neg (by simp [h4]),if_neg (by simp [h5]),if_neg (by simp [h6]),if_pos h7]
  rw [hk,hS,Hw]
  refine AK.hc [0] [] (E6 r.step [59] (a.ok hr)) ?_
  exact AK.rb Tryz.func312 rfl rfl
 have hk7:r.take Ft=r:=by simp [RS.take,h7]
 have hS:Bp r=Ly r:=by simp only [Bp];rw [if_neg (by simp [h4]),if_neg (by simp [h5]),if_neg (by simp [h6]),if_neg (by simp [h7])]
 rw [hk7,hS]
 have a:=Bm hr
 refine AK.hc [0] [] (Qd r hr) ?_
 refine AK.hc [0] [] (Fj r.nameR [91] (a.ok hr)) ?_
 refine AK.if_ (fun h8=>?_) (fun h8=>?_)
 ·have ht:=Ak h8 (by simp)
  have hk:r.nameR.take [91]=r.nameR.step:=by simp [RS.take,h8]
  have b:=a.trans (Ag ht.1)
  have c:=b.trans (Bb (b.ok hr))
  have d:=c.trans (Ar (s:=[93]) (c.ok hr) (by simp))
  have e:=d.trans (Ar (s:=[61]) (d.ok hr) (by simp))
  have f:=e.trans (Bb (e.ok hr))
  simp only [Ly]
  rw [if_pos h8,hk]
  refine AK.hc [0] [] (Nh r.nameR.step (b.ok hr)) ?_
  refine AK.hc [0] [] (E6 (A9 r.nameR.step).2 [93] (c.ok hr)) ?_
  refine AK.hc [0] [] (E6 ((A9 r.nameR.step).2.need [93]) [61] (d.ok hr)) ?_
  refine AK.hc [0] [] (Nh (((A9 r.nameR.step).2.need [93]).need [61]) (e.ok hr)) ?_
  refine AK.pc (Rk 22 (A9 r.nameR.step).1 (A9 (((A9 r.nameR.step).2.need [93]).need [61])).1) ?_
  refine AK.hc [0] [] (E6 (A9 (((A9 r.nameR.step).2.need [93]).need [61])).2 [59] (f.ok hr)) ?_
  exact AK.rb Tryz.func312 rfl rfl
 ·have hk:r.nameR.take [91]=r.nameR:=by simp [RS.take,h8]
  have b:=a.trans (Ar (s:=[61]) (a.ok hr) (by simp))
  have c:=b.trans (Bb (b.ok hr))
  simp only [Ly]
  rw [if_neg (by simp [h8]),hk]
  refine AK.hc [0] [] (E6 r.nameR [61] (a.ok hr)) ?_
  refine AK.hc [0] [] (Nh (r.nameR.need [61]) (b.ok hr)) ?_
  refine AK.pc (Afm 21 (A9 (r.nameR.need [61])).1) ?_
  refine AK.hc [0] [] (E6 (A9 (r.nameR.need [61])).2 [59] (c.ok hr)) ?_
  exact AK.rb Tryz.func312 rfl rfl
theorem B8 {r:RS}(h:r.bad=true)(s:List UInt8):r.takes s=false:=by simp [RS.takes,h]
theorem Ny {r:RS}(h:r.bad=true)(s:List UInt8):(r.need s).bad=true:=by simp [RS.need,B8 h s,RS.spoil]
theorem Xj {r:RS}(h:r.bad=true):r.nameR.bad=true:=by simp [RS.nameR,RS.named,h,RS.spoil]
theorem R9:∀ (f:Nat),(∀ r:RS,r.bad=true→(C9 f r).2.bad=true)∧(∀ r:RS,r.bad=true→(Ck f r).2.bad=true)∧(∀ (x:Nd)(r:RS),r.bad=true→(Er f x r).2.bad=true) ∧
 (∀ r:RS,r.bad=true→(Cu f r).2.bad=true)∧(∀ (x:Nd)(r:RS),r.bad=true→(D3 f x r).2.bad=true):=by
 intro f
 induction f with
 | zero=>exact ⟨fun r h=>by simpa only [C9] using h,fun r h=>by simpa only [Ck] using h,fun x r h=>by simpa only [Er] using h,fun r h=>by simpa only [Cu] using h,fun x r h=>by simpa only [D3] using h⟩
 | succ f ih =>
   obtain ⟨i1,i2,i3,i4,i5⟩:=ih
   refine ⟨fun r h=>?_,fun r h=>?_,fun x r h=>?_,fun r h=>?_,fun x r h=>?_⟩
   ·simp only [C9];rw [if_pos h];exact h
   ·simp only [Ck];exact i3 _ _ (i1 r h)
   ·simp only [Er];rw [if_neg (by simp [B8 h])];exact h
   ·simp only [Cu];exact i5 _ _ (i2 r h)
   ·simp only [D3];rw [if_neg (by simp [B8 h]),if_neg (by simp [B8 h])];exact h
theorem Jw {r:RS}(h:r.bad=true):(A9 r).2.bad=true:=(R9 6010).2.2.2.1 r h
def RS.on (r r':RS):Prop:=r'.bad=true∨r.at_<r'.at_
theorem Afg {r r':RS}(h:r.on r')(hk:r'.ok)(s:List UInt8)(hs:s≠[]):r.on (r'.need s):=by
 rcases h with h | h
 ·exact .inl (Ny h s)
 ·exact .inr (Nat.lt_of_lt_of_le h (Ar hk hs).2.1)
theorem Aj7 {r r':RS}(h:r.on r')(hk:r'.ok):r.on (A9 r').2:=by
 rcases h with h | h
 ·exact .inl (Jw h)
 ·exact .inr (Nat.lt_of_lt_of_le h (Bb hk).2.1)
theorem I9 {r r':RS}(h:r.step.after r'):r.on r':=.inr (Nat.lt_of_lt_of_le (Nat.lt_succ_self r.at_) h.2.1)
theorem Aj8 {r:RS}:r.on r.nameR:=by
 simp only [RS.nameR]
 split
 ·exact .inr (Nat.lt_succ_self _)
 ·exact .inl rfl
theorem Aok {r:RS}(h:r.ok):r.on (Ly r).2:=by
 have a:=Bm h
 have o:=Aj8 (r:=r)
 simp only [Ly]
 split
 ·rename_i ht
  have b:=a.trans (Ag (Ak ht (by simp)).1)
  have c:=b.trans (Bb (b.ok h))
  have d:=c.trans (Ar (s:=[93]) (c.ok h) (by simp))
  have e:=d.trans (Ar (s:=[61]) (d.ok h) (by simp))
  rcases o with o | o
  ·rw [B8 o] at ht;cases ht
  ·exact .inr (Nat.lt_of_lt_of_le o ((Ag (Ak ht (by simp)).1).trans ((Bb (b.ok h)).trans ((Ar (s:=[93]) (c.ok h) (by simp)).trans ((Ar (s:=[61]) (d.ok h) (by simp)).trans (Bb (e.ok h)))))).2.1)
 ·have b:=a.trans (Ar (s:=[61]) (a.ok h) (by simp))
  exact Aj7 (Afg o (a.ok h) [61] (by simp)) (b.ok h)
theorem Ad3 {r:RS}(h:r.ok):r.on (Bp r).2:=by
 simp only [Bp]
 split
 ·rename_i ht
  have b:=Ag (Ak ht (by simp)).1
  exact I9 (Ca (b.ok h))
 split
 ·rename_i ht
  have b:=Ag (Ak ht (by simp)).1
  exact I9 (Bm (b.ok h))
 split
 ·rename_i ht
  exact I9 (C6 ((Ag (Ak ht (by simp)).1).ok h))
 split
 ·rename_i ht
  exact I9 (C6 ((Ag (Ak ht (by simp)).1).ok h))
 exact Aok h
theorem Rr (f:Nat){r:RS}(h:r.ok):r.on (Bz (f+1) r).2:=by
 have i2:=(Dj f).2.1
 simp only [Bz]
 split
 ·rename_i ht
  have b:=Ag (Ak ht (by simp)).1
  have c:=Ca (b.ok h)
  have d:=c.trans (i2 _ (c.ok (b.ok h)))
  split
  ·rename_i ht2
   have e:=d.trans (Ag (Ak ht2 (by simp)).1)
   exact I9 (e.trans (i2 _ (e.ok (b.ok h))))
  ·exact I9 d
 split
 ·rename_i ht
  have b:=Ag (Ak ht (by simp)).1
  have c:=Ca (b.ok h)
  exact I9 (c.trans (i2 _ (c.ok (b.ok h))))
 split
 ·rename_i ht
  have b:=Ag (Ak ht (by simp)).1
  have c:=Hj (b.ok h)
  have d:=c.trans (Bb (c.ok (b.ok h)))
  exact I9 (d.trans (i2 _ (d.ok (b.ok h))))
 ·exact Afg (Ad3 h) ((K6 h).ok h) [59] (by simp)
theorem Ct (l:List Nd):Hg 4 (Ai l)=true:=by rw [Aj];exact Io (f:=Ae) (fun _=>rfl) l
theorem Aq9 (f:Nat)(ih:∀ g,g<f→Aij g):Aii f:=by
 intro r hr hf hF
 refine Hands.run Tryz.func291 ?_
 generalize hTT:Ch f [] r=T
 refine AK.mintB 2 0 3 rfl rfl rfl rfl rfl rfl ?_
 refine AK.while_ (ι:=Nat × List Nd × RS) 3 1 (fun i=>i.2.2.ok∧i.2.1.length+i.1≤f∧(i.2.2.bad=true∨3*i.2.2.left+2≤i.1)∧T=Ch i.1 i.2.1 i.2.2)
  (fun i=>[(0,.ptr 0 0 0),(2,.ptr 1 0 0),(3,.ptr 2 0 0)])
  (fun i=>⟨[[rc i.2.2],[zN],[[vi 30,str [],vi 0,.sl (Ai i.2.1) (.tok 0)]]],[i.2.1.length]⟩) (fun i=>i.1) ?_ (f,[],r) ⟨hr,by simp,.inr hf,hTT.symm⟩ ⟨rfl,rfl,rfl,trivial⟩
 rintro ⟨n,acc,q⟩ ⟨hq,hlen,hfu,hTn⟩ IH
 simp only at hq hlen hfu hTn IH ⊢
 refine AK.ev 100 rfl ?_
 cases hb:q.bad with
 | true =>
   have hT:T=(acc,q):=by
    rw [hTn]
    cases n with
    | zero=>rfl
    | succ n=>simp only [Ch];rw [if_neg (by simp [hb])]
   refine AK.dn 0 5 ?_
   refine Drv.t false ?_ (hb:=by simp [hb])
   refine Km 11 ?_
   refine Drv.t false ?_
   refine Drv.go ?_
   refine Drv.z ?_
   refine AK.no ?_
   rw [hT,Hw]
   refine AK.rb Tryz.func291 ?_ rfl
   rw [Aj]
 | false =>
   by_cases hlt:q.at_<q.ws.length
   ·refine AK.dn 0 5 ?_
    refine Drv.t true ?_ (hb:=by simp [hb])
    refine Km 11 ?_
    refine Drv.t true ?_ (hb:=decide_eq_true (by rw [Cc];omega))
    refine Km 1 ?_
    refine Drv.lo (Ndo.hd [0] [] (Aab q)) ?_
    refine Drv.go ?_
    refine Drv.z ?_
    refine AK.if_ (fun h=>?_) (fun h=>?_)
    ·have h':(!(q.text==[125]))=true:=h
     have hn1:2≤n:=by
      rcases hfu with h | h
      ·rw [hb] at h;cases h
      ·omega
     obtain ⟨m,rfl⟩:∃ m,n=m+1:=⟨n-1,by omega⟩
     have hfu':3*q.left+2≤m+1:=by
      rcases hfu with h | h
      ·rw [hb] at h;cases h
      ·exact h
     have hT:T=Ch m (acc++[(Bz m q).1]) (Bz m q).2:=by
      rw [hTn];simp only [Ch];rw [if_pos (by simp only [hb,h',Bool.not_false,Bool.true_and,Bool.and_true];exact decide_eq_true hlt)]
     have af:=(Dj m).1 q hq
     have lf:=Au af
     have hon:q.on (Bz m q).2:=by
      obtain ⟨p,rfl⟩:∃ p,m=p+1:=⟨m-1,by omega⟩
      exact Rr p hq
     refine AK.dn 168 3 ?_
     refine Dv (Ndo.hd [0] [] (ih m (by omega) q hq (by omega) (by omega))) ?_ ?_
     ·exact Aq (Ndo.ev rfl rfl rfl) Fp
     refine Drv.m ?_
     refine Drv.w (Ndo.append (res:=Ai (acc++[(Bz m q).1])) rfl rfl rfl rfl rfl rfl rfl rfl rfl rfl rfl rfl rfl rfl (Ad acc) (Ct acc) rfl rfl rfl ?_ ?_ rfl) ?_
     ·rw [Ad];simp;omega
     ·rw [Aj,Aj,List.map_append];rfl
     refine Drv.e ?_
     refine Drv.w (Ndo.store rfl rfl rfl rfl rfl rfl rfl) ?_
     refine Drv.z ?_
     refine IH (m,acc++[(Bz m q).1],(Bz m q).2) ⟨af.ok hq,by simp;omega,?_,hT⟩ (by simp only;omega) _ _ ⟨rfl,rfl,rfl,trivial⟩ ?_ rfl rfl
     ·rcases hon with h | h
      ·exact .inl h
      ·refine .inr ?_
       simp only
       have h3:(Bz m q).2.left+1≤q.left:=by
        have e1:=af.1
        have e2:=af.2.2
        simp only [RS.left,e1] at *
        omega
       omega
     ·simp [St.drop,Ad,Jk]
    ·have h':(!(q.text==[125]))=false:=h
     have hT:T=(acc,q):=by
      rw [hTn]
      cases n with
      | zero=>rfl
      | succ n=>simp only [Ch];rw [if_neg (by simp [h'])]
     rw [hT,Hw]
     refine AK.rb Tryz.func291 ?_ rfl
     rw [Aj]
   ·have hT:T=(acc,q):=by
     rw [hTn]
     cases n with
     | zero=>rfl
     | succ n=>simp only [Ch];rw [if_neg (by simp [hlt])]
    refine AK.dn 0 5 ?_
    refine Drv.t true ?_ (hb:=by simp [hb])
    refine Km 11 ?_
    refine Drv.t false ?_ (hb:=decide_eq_false (by rw [Cc];omega))
    refine Drv.go ?_
    refine Drv.z ?_
    refine AK.no ?_
    rw [hT,Hw]
    refine AK.rb Tryz.func291 ?_ rfl
    rw [Aj]
theorem Aog:∀ f,Aij f∧Acl f∧Aii f:=by
 intro f
 induction f using Nat.strongRecOn with
 | ind f ih=>exact ⟨Arb f (fun g h=>(ih g h).2.1),Aoe f (fun g h=>(ih g h).2.2),Aq9 f (fun g h=>(ih g h).1)⟩
def Ff (q:RS):Int × RS:=if !q.bad&&q.kind==2 then (B6 q.text,q.step) else (-1,q.need [63])
def F5 (r:RS):Nd × RS :=
 if r.takes Je then (.mk 31 r.step.name 0 [],r.step.nameR)
 else (.mk 32 r.step.name (Ff (r.step.nameR.need [91])).1 [],(Ff (r.step.nameR.need [91])).2.need [93])
def Em (r:RS):Bool:=r.takes Je||r.takes Da
def C0:Nat→List Nd→RS→List Nd × RS
 | 0,acc,r=>(acc,r)
 | f+1,acc,r=>if Em r then C0 f (acc++[(F5 r).1]) ((F5 r).2.need [59]) else (acc,r)
def RS.ends (r:RS):RS:=if r.at_<r.ws.length then r.spoil else r
def Cn (r:RS):Nd × RS :=
 (.mk 40 [] 0 ((C0 2000 [] r).1++[.mk 30 [] 0 (Ch 5000 [] (C0 2000 [] r).2).1]),(Ch 5000 [] (C0 2000 [] r).2).2.ends)
theorem Ua {q:RS}(h:q.ok):q.after (Ff q).2:=by
 simp only [Ff]
 split
 ·rename_i hc
  simp only [Bool.and_eq_true,beq_iff_eq] at hc
  exact Ag (M1 (by omega))
 ·exact Ar h (by simp)
theorem Hp {r:RS}(h:r.ok)(hd:Em r=true):r.step.after (F5 r).2∧r.at_<r.ws.length:=by
 simp only [Em,Bool.or_eq_true] at hd
 have hlt:r.at_<r.ws.length:=by
  rcases hd with hd | hd
  ·exact (Ak hd (by simp)).1
  ·exact (Ak hd (by simp)).1
 have so:=(Ag hlt).ok h
 refine ⟨?_,hlt⟩
 simp only [F5]
 split
 ·exact Bm so
 ·have a:=Bm so
  have b:=a.trans (Ar (s:=[91]) (a.ok so) (by simp))
  have c:=b.trans (Ua (b.ok so))
  exact c.trans (Ar (c.ok so) (by simp))
theorem Jo:∀ (f:Nat)(acc:List Nd)(r:RS),r.ok→r.after (C0 f acc r).2
 | 0,acc,r,h=>by simp only [C0];exact C6 h
 | f+1,acc,r,h=>by
   simp only [C0]
   split
   ·rename_i hd
    obtain ⟨a,hlt⟩:=Hp h hd
    have b:=(Ag hlt).trans a
    have c:=b.trans (Ar (s:=[59]) (b.ok h) (by simp))
    exact c.trans (Jo f _ _ (c.ok h))
   ·exact C6 h
abbrev gP:Bs:=[(0,.ptr 0 0 0),(2,.ptr 1 0 0),(3,.ptr 2 0 0)]
abbrev sP (q:RS)(acc:List Nd):St:=⟨[[rc q],[zN],[[vi 40,str [],vi 0,.sl (Ai acc) (.tok 0)]]],[acc.length]⟩
theorem Ara (r:RS)(hr:r.ok):Hands X 263 [.ptr 0 0 0] ⟨[[rc r]],[]⟩ (nd (Cn r).1) ⟨[[rc (Cn r).2]],[]⟩:=by
 refine Hands.run Tryz.func263 ?_
 obtain ⟨T,hTT⟩:∃ T,C0 2000 [] r=T:=⟨_,rfl⟩
 have hleft:r.left≤1500:=by have:=hr.1;simp only [RS.left];omega
 have aT:r.after T.2:=by rw [← hTT];exact Jo 2000 [] r hr
 have hTl:T.1.length≤2000→AK X ⟨263,Tryz.f263,1,0⟩ (Js false 16 Tryz.f263) gP (sP T.2 T.1) (fun e S=>e=.ret (nd (Cn r).1)∧S=⟨[[rc (Cn r).2]],[]⟩):=fun hlen=>by
  refine AK.at_ ?_
  have to:=aT.ok hr
  have al:=(Dj 5000).2.2 [] T.2 to
  have hl5:3*T.2.left+2≤5000:=by have:=to.1;simp only [RS.left];omega
  refine AK.dn 168 3 ?_
  refine Dv (Ndo.hd [0] [] ((Aog 5000).2.2 T.2 to hl5 (by omega))) ?_ ?_
  ·exact Aq (Ndo.ev rfl rfl rfl) Fp
  refine Drv.m ?_
  refine Drv.w (Ndo.append (res:=Ai (T.1++[.mk 30 [] 0 (Ch 5000 [] T.2).1])) rfl rfl rfl rfl rfl rfl rfl rfl rfl rfl rfl rfl rfl rfl (Ad T.1) (Ct T.1) rfl rfl rfl ?_ ?_ rfl) ?_
  ·rw [Ad];simp;omega
  ·rw [Aj,Aj,List.map_append];rfl
  refine Drv.e ?_
  refine Drv.w (Ndo.store rfl rfl rfl rfl rfl rfl rfl) ?_
  refine Drv.z ?_
  refine AK.dr ?_
  have hP:Cn r=(.mk 40 [] 0 (T.1++[.mk 30 [] 0 (Ch 5000 [] T.2).1]),(Ch 5000 [] T.2).2.ends):=by simp only [Cn];rw [hTT]
  rw [hP]
  refine AK.if_ (fun h=>?_) (fun h=>?_)
  ·have h':(Ch 5000 [] T.2).2.at_<(Ch 5000 [] T.2).2.ws.length:=by have:=of_decide_eq_true h;rw [Cc] at this;omega
   have he:(Ch 5000 [] T.2).2.ends=(Ch 5000 [] T.2).2.spoil:=by simp only [RS.ends];rw [if_pos h']
   rw [he,Hw]
   refine AK.rb Tryz.func263 ?_ rfl
   rw [Aj]
  ·have h':¬ (Ch 5000 [] T.2).2.at_<(Ch 5000 [] T.2).2.ws.length:=by have:=of_decide_eq_false h;rw [Cc] at this;omega
   have he:(Ch 5000 [] T.2).2.ends=(Ch 5000 [] T.2).2:=by simp only [RS.ends];rw [if_neg h']
   rw [he,Hw]
   refine AK.rb Tryz.func263 ?_ rfl
   rw [Aj]
 refine AK.mintB 2 0 3 rfl rfl rfl rfl rfl rfl ?_
 refine AK.while_ (ι:=Nat × List Nd × RS) 3 1 (fun i=>i.2.2.ok∧i.2.1.length+i.1≤2000∧i.2.2.left+1≤i.1∧T=C0 i.1 i.2.1 i.2.2) (fun _=>gP) (fun i=>sP i.2.2 i.2.1) (fun i=>i.1) ?_ (2000,[],r)
  ⟨hr,by simp,by simp only;omega,hTT.symm⟩ ⟨rfl,rfl,rfl,trivial⟩
 rintro ⟨n,acc,q⟩ ⟨hq,hlen,hfu,hTn⟩ IH
 simp only at hq hlen hfu hTn IH ⊢
 obtain ⟨m,rfl⟩:∃ m,n=m+1:=⟨n-1,by omega⟩
 have out:Em q=false→T=(acc,q):=fun h=>by rw [hTn];simp only [C0];rw [if_neg (by simp [h])]
 refine AK.ei (fun h=>?_) (fun h=>?_)
 ·have hb:q.bad=false:=by have:(!q.bad)=true:=h;simpa using this
  have fin:∀ (d:Nd) (q':RS),F5 q=(d,q')→Em q=true→d.kids=[] →
   AK X ⟨263,Tryz.f263,1,0⟩ (Js false 14 Tryz.f263) ((4,.ptr 3 0 0)::gP)
    ⟨[[rc q'],[zN],[[vi 40,str [],vi 0,.sl (Ai acc) (.tok 0)]],[[vi d.kind,str d.name,vi d.num,.sl [] .tight]]],[acc.length]⟩ (fun e S=>e=.ret (nd (Cn r).1)∧S=⟨[[rc (Cn r).2]],[]⟩):=fun d q' hd hD hk=>by
   obtain ⟨af,hlt⟩:=Hp hq hD
   rw [hd] at af
   have aq:=(Ag hlt).trans af
   have an:=aq.trans (Ar (s:=[59]) (aq.ok hq) (by simp))
   have l1:=Bc hlt
   have l2:(q'.need [59]).left≤q.step.left:=Au (af.trans (Ar (s:=[59]) (aq.ok hq) (by simp)))
   refine AK.at_ ?_
   refine AK.ev 100 rfl ?_
   refine AK.hc [0] [] (E6 q' [59] (aq.ok hq)) ?_
   refine AK.wk 54 ?_
   refine AK.op (Ndo.append (res:=Ai (acc++[d])) rfl rfl rfl rfl rfl rfl rfl rfl rfl rfl rfl rfl rfl rfl (Ad acc) (Ct acc) rfl rfl rfl ?_ ?_ rfl) ?_
   ·rw [Ad];simp;omega
   ·rw [Aj,Aj,List.map_append]
    obtain ⟨k,s,v,ks⟩:=d
    simp only [Nd.kids] at hk
    subst hk;rfl
   refine IH (m,acc++[d],q'.need [59]) ⟨an.ok hq,by simp;omega,by simp only;omega,?_⟩ (by simp only;omega) _ _ ⟨rfl,rfl,rfl,trivial⟩ ?_ rfl rfl
   ·rw [hTn];simp only [C0];rw [if_pos hD,hd]
   ·simp [St.drop,Ad,Jk]
  refine AK.hc [0] [] (Fj q Je hq) ?_
  refine AK.if_ (fun h1=>?_) (fun h1=>?_)
  ·have ht:=Ak h1 (by simp)
   have hk:q.take Je=q.step:=by simp [RS.take,h1]
   have a:=Ag ht.1
   rw [hk]
   refine AK.hcj 14 [0] [] (Qd q.step (a.ok hq)) ?_
   exact AK.back' 4 1 (fin (.mk 31 q.step.name 0 []) q.step.nameR (by simp only [F5];rw [if_pos h1]) (by simp [Em,h1]) rfl) ⟨rfl,rfl,rfl,rfl,trivial⟩ rfl rfl rfl rfl rfl
  have hk1:q.take Je=q:=by simp [RS.take,h1]
  rw [hk1]
  refine AK.hc [0] [] (Fj q Da hq) ?_
  refine AK.if_ (fun h2=>?_) (fun h2=>?_)
  ·have ht:=Ak h2 (by simp)
   have hk:q.take Da=q.step:=by simp [RS.take,h2]
   have a:=Ag ht.1
   have b:=a.trans (Bm (a.ok hq))
   have c:=b.trans (Ar (s:=[91]) (b.ok hq) (by simp))
   have hD:Em q=true:=by simp [Em,h2]
   have hR:F5 q=(.mk 32 q.step.name (Ff (q.step.nameR.need [91])).1 [],(Ff (q.step.nameR.need [91])).2.need [93]):=by simp only [F5];rw [if_neg (by simp [h1])]
   rw [hk]
   refine AK.hc [0] [] (Qd q.step (a.ok hq)) ?_
   refine AK.hc [0] [] (E6 q.step.nameR [91] (b.ok hq)) ?_
   generalize hu:q.step.nameR.need [91]=u at hR c ⊢
   have hok:=c.ok hq
   have e:=c.trans (Ua hok)
   have fin13:∀ (v:Int) (u':RS),Ff u=(v,u')→AK X ⟨263,Tryz.f263,1,0⟩ (Js false 13 Tryz.f263) ((4,.ptr 3 0 0)::gP)
    ⟨[[rc u'],[zN],[[vi 40,str [],vi 0,.sl (Ai acc) (.tok 0)]],[[vi 32,str q.step.name,vi v,.sl [] .tight]]],[acc.length]⟩ (fun e S=>e=.ret (nd (Cn r).1)∧S=⟨[[rc (Cn r).2]],[]⟩):=fun v u' hv=>by
    rw [hv] at hR e
    refine AK.at_ ?_
    refine AK.ev 100 rfl ?_
    refine AK.hcj 14 [0] [] (E6 u' [93] (e.ok hq)) ?_
    exact AK.back' 4 1 (fin (.mk 32 q.step.name v []) (u'.need [93]) hR hD rfl) ⟨rfl,rfl,rfl,rfl,trivial⟩ rfl rfl rfl rfl rfl
   have hno:(!u.bad&&u.kind==2)=false→AK X ⟨263,Tryz.f263,1,0⟩ (Js false 12 Tryz.f263) ((4,.ptr 3 0 0)::gP)
    ⟨[[rc u],[zN],[[vi 40,str [],vi 0,.sl (Ai acc) (.tok 0)]],[[vi 32,str q.step.name,vi (-1),.sl [] .tight]]],[acc.length]⟩ (fun e S=>e=.ret (nd (Cn r).1)∧S=⟨[[rc (Cn r).2]],[]⟩):=fun hc=>by
    refine AK.at_ ?_
    refine AK.ev 100 rfl ?_
    refine AK.hcj 13 [0] [] (E6 u [63] hok) ?_
    exact AK.back' 4 1 (fin13 (-1) (u.need [63]) (by simp only [Ff];rw [if_neg (by simp [hc])])) ⟨rfl,rfl,rfl,rfl,trivial⟩ rfl rfl rfl rfl rfl
   refine AK.gd (fun h3=>?_) (fun h3=>?_)
   ·refine AK.hc [0] [] (Ady u) ?_
    refine AK.ifj 0 12 (fun h4=>?_) (fun h4=>?_)
    ·have hk2:u.kind=2:=by have:(u.kind==2)=true:=h4;simpa using this
     have hlt:=M1 (r:=u) (by omega)
     refine AK.hc [0] [] (Aab u) ?_
     have hsz:Ff u=(B6 u.text,u.step):=by simp only [Ff];rw [if_pos (by simp [hk2];simpa using h3)]
     have hu1:=hok.1
     refine AK.pcj 13 (Wb u.text) ?_
     refine AK.back' 4 1 (fin13 (B6 u.text) u.step hsz) ⟨rfl,rfl,rfl,rfl,trivial⟩ ?_ rfl rfl rfl rfl
     simp only [rc,rd,RS.step]
     rw [show ((u.at_+1:Nat):Int)=IntKind.i64.wrap ((u.at_:Int)+1) from ((Ac (by omega) (by omega)).trans (by omega)).symm]
     rfl
    ·have hk2:(u.kind==2)=false:=h4
     exact AK.back' 4 1 (hno (by simp [hk2])) ⟨rfl,rfl,rfl,rfl,trivial⟩ rfl rfl rfl rfl rfl
   ·refine AK.ifj 0 12 (fun h4=>?_) (fun _=>?_)
    ·cases h4
    exact AK.back' 4 1 (hno (by simp [h3])) ⟨rfl,rfl,rfl,rfl,trivial⟩ rfl rfl rfl rfl rfl
  ·have hk2:q.take Da=q:=by simp [RS.take,h2]
   have hT:=out (by simp [Em,h1,h2])
   rw [hT] at hTl
   rw [hk2]
   exact AK.back' 3 1 (hTl (by simp only;omega)) ⟨rfl,rfl,rfl,trivial⟩ rfl rfl rfl rfl rfl
 ·have hb:q.bad=true:=by have:(!q.bad)=false:=h;simpa using this
  have hT:=out (by simp [Em,B8 hb])
  rw [hT] at hTl
  exact AK.back' 3 1 (hTl (by simp only;omega)) ⟨rfl,rfl,rfl,trivial⟩ rfl rfl rfl rfl rfl
mutual
def B0:Nd→Nat
 | .mk _ _ _ ks=>Dy ks+1
def Dy:List Nd→Nat
 | []=>0
 | n::l=>max (B0 n) (Dy l)
end
theorem Gn (n:Nd):B0 n=Dy n.kids+1:=by cases n;simp [B0,Nd.kids]
theorem W2 (a b:List Nd):Dy (a++b)=max (Dy a) (Dy b):=by
 induction a with
 | nil=>simp [Dy]
 | cons x a ih=>simp only [List.cons_append,Dy,ih];omega
theorem Tw {l:List Nd}{i:Nat}{n:Nd}(h:l[i]?=some n):Dy (l.take (i+1))=max (Dy (l.take i)) (B0 n):=by
 rw [List.take_add_one,h,W2];simp [Dy]
theorem Nz (n:Nd):B0 n≤Af n:=by
 induction n using Nd.ind with
 | h n ih =>
   have key:∀ l:List Nd,(∀ k,k∈l→B0 k≤Af k)→Dy l≤An l:=by
    intro l
    induction l with
    | nil=>intro _;simp [Dy]
    | cons x l ihl =>
      intro h
      have h1:=h x (by simp)
      have h2:=ihl (fun k hk=>h k (by simp [hk]))
      simp only [Dy,An];omega
   rw [Gn,Be]
   have:=key n.kids ih
   omega
mutual
def wN:Nd→Nat
 | .mk _ s _ ks=>1+s.length+wL ks
def wL:List Nd→Nat
 | []=>0
 | n::l=>wN n+wL l
end
theorem Py (n:Nd):wN n=1+n.name.length+wL n.kids:=by cases n;rfl
theorem K7 {l:List Nd}{k:Nd}(h:k∈l):wN k≤wL l:=by
 induction l with
 | nil=>cases h
 | cons x l ih =>
   simp only [wL]
   rcases List.mem_cons.1 h with rfl | h
   ·omega
   ·have:=ih h;omega
theorem F3 {n k:Nd}(h:k∈n.kids):wN k<wN n:=by
 have:=K7 h;rw [Py n];omega
theorem Mo (n:Nd):Af n≤wN n:=by
 induction n using Nd.ind with
 | h n ih =>
   have key:∀ l:List Nd,(∀ k,k∈l→Af k≤wN k)→An l≤wL l:=by
    intro l
    induction l with
    | nil=>intro _;simp [An]
    | cons x l ihl =>
      intro h
      have h1:=h x (by simp)
      have h2:=ihl (fun k hk=>h k (by simp [hk]))
      simp only [An,wL];omega
   rw [Py,Be]
   have:=key n.kids ih
   omega
theorem D4 (n:Nd):n.kids.length<wN n:=by
 have:=Ax n.kids
 have:=Mo n
 rw [Be] at this
 omega
theorem Ahc (n:Nd):n.name.length<wN n:=by rw [Py];omega
theorem Afj (n:Nd)(hn:Af n≤4000000000):Pure X 257 [nd n] (vi (Af n)):=by
 induction n using Nd.ind with
 | h n ih =>
 refine Pure.run Tryz.func257 ?_
 have hc:=Be n
 have hll:=Ax n.kids
 refine AK.while_ (ι:=Nat) 1 0 (fun i=>i≤n.kids.length) (fun i=>[(4,vi i),(3,vi (1+An (n.kids.take i):Nat)),(1,.ptr 0 0 0)]) (fun _=>⟨[[Ae n]],[]⟩) (fun i=>n.kids.length-i) ?_ 0 (Nat.zero_le _)
  ⟨rfl,rfl,rfl,trivial⟩
 intro i hi IH
 refine AK.ei (fun h=>?_) (fun h=>?_)
 ·have hlt:i<n.kids.length:=by have:=of_decide_eq_true h;rw [Ad] at this;omega
  obtain ⟨kid,hkid⟩:=Ab n.kids hlt
  have hsn:=Ko hkid
  have hle:=Lj (l:=n.kids) (i:=i+1)
  refine AK.ix i (by omega) (Al hkid) ?_
  refine AK.pc (ih kid (List.mem_of_getElem? hkid) (by omega)) ?_
  exact IH (i+1) hlt (by omega) _ _ ⟨vsx (by omega),vsx (by omega),rfl,trivial⟩ rfl rfl rfl
 ·have:i=n.kids.length:=by have:=of_decide_eq_false h;rw [Ad] at this;omega
  subst this
  refine AK.rt Tryz.func257 ?_
  rw [hc,List.take_length];rfl
theorem Afk (n:Nd)(hn:Af n≤4000000000):Pure X 258 [nd n] (vi (B0 n)):=by
 induction n using Nd.ind with
 | h n ih =>
 refine Pure.run Tryz.func258 ?_
 have hc:=Be n
 have hll:=Ax n.kids
 have hd:=Nz n
 rw [Gn] at hd ⊢
 refine AK.while_ (ι:=Nat) 1 0 (fun i=>i≤n.kids.length) (fun i=>[(4,vi i),(3,vi (Dy (n.kids.take i):Nat)),(1,.ptr 0 0 0)]) (fun _=>⟨[[Ae n]],[]⟩) (fun i=>n.kids.length-i) ?_ 0 (Nat.zero_le _)
  ⟨rfl,rfl,rfl,trivial⟩
 intro i hi IH
 refine AK.ei (fun h=>?_) (fun h=>?_)
 ·have hlt:i<n.kids.length:=by have:=of_decide_eq_true h;rw [Ad] at this;omega
  obtain ⟨kid,hkid⟩:=Ab n.kids hlt
  have hsn:=Tw hkid
  have hcs:=Ko hkid
  have hle:=Lj (l:=n.kids) (i:=i+1)
  refine AK.ix i (by omega) (Al hkid) ?_
  refine AK.pc (ih kid (List.mem_of_getElem? hkid) (by omega)) ?_
  refine AK.if_ (fun h2=>?_) (fun h2=>?_)
  ·have:=of_decide_eq_true h2
   exact IH (i+1) hlt (by omega) _ _ ⟨vsx (by omega),Bn (by omega),rfl,trivial⟩ rfl rfl rfl
  ·have:=of_decide_eq_false h2
   exact IH (i+1) hlt (by omega) _ _ ⟨vsx (by omega),Bn (by omega),rfl,trivial⟩ rfl rfl rfl
 ·have:i=n.kids.length:=by have:=of_decide_eq_false h;rw [Ad] at this;omega
  subst this
  refine AK.rt Tryz.func258 ?_
  rw [List.take_length]
  exact congrArg (fun x=>AV.val (.int .i64 x)) ((Ac (by omega) (by omega)).trans (by omega))
def Hb (k:Int):Bool:=Bu k 1 8
def M0 (k:Int):Bool:=Bu k 11 16
def Q8 (k:Int):Bool:=Bu k 21 29
theorem Ake (k:Int):Pure X 309 [vi k] (vb (Hb k)):=by
 refine Pure.run Tryz.func309 ?_
 refine AK.pc (J0 k 1 8) ?_
 exact AK.rt Tryz.func309 rfl
theorem Akd (k:Int):Pure X 307 [vi k] (vb (M0 k)):=by
 refine Pure.run Tryz.func307 ?_
 refine AK.pc (J0 k 11 16) ?_
 exact AK.rt Tryz.func307 rfl
theorem Akf (k:Int):Pure X 308 [vi k] (vb (Q8 k)):=by
 refine Pure.run Tryz.func308 ?_
 refine AK.pc (J0 k 21 29) ?_
 exact AK.rt Tryz.func308 rfl
def Aw (k:Int):Int × Bool × Bool :=
 if k=1∨k=28∨k=29 then (0,false,true)
 else if k=2∨k=4∨k=23∨k=31∨k=32 then (0,true,true)
 else if k=3∨k=21 then (1,true,true)
 else if k=5∨k=27 then (1,false,true)
 else if k=6∨k=7∨k=8∨k=11∨k=12∨k=13∨k=14∨k=15∨k=16∨k=25 then (2,false,true)
 else if k=22 then (2,true,true)
 else if k=24 then (3,false,true)
 else if k=26 then (3,true,true)
 else if k=30∨k=40 then (-1,false,true)
 else (0,false,false)
theorem Ant (k:Int):Pure X 278 [vi k] (.tup [vi (Aw k).1,vb (Aw k).2.1,vb (Aw k).2.2]):=by
 refine Pure.run Tryz.func278 ?_
 repeat' (refine AK.if_ (fun _=>?_) (fun _=>?_))
 all_goals refine AK.rt Tryz.func278 ?_
 all_goals (simp_all [Aw,Bv])
def Hl (n:Nd)(i k:Int):Bool :=
 if n.kind=24∨n.kind=25∨n.kind=27 then (if i=0 then M0 k else k==30)
 else if n.kind=26∧i=2 then k==30
 else if n.kind=30 then Q8 k
 else if n.kind=40 then (if i=n.kids.length-1 then k==30 else k==31||k==32)
 else Hb k
theorem Asy (n:Nd)(i k:Int)(hn:n.kids.length≤4000000000):Pure X 280 [nd n,vi i,vi k] (vb (Hl n i k)):=by
 refine Pure.run Tryz.func280 ?_
 have hw:IntKind.i64.wrap ((Ai n.kids).length-1:Int)=n.kids.length-1:=by rw [Ad];exact Ac (by omega) (by omega)
 repeat' (first | refine AK.if_ (fun _=>?_) (fun _=>?_) | refine AK.gd (fun _=>?_) (fun _=>?_) | refine AK.pc (Akd k) ?_ | refine AK.pc (Akf k) ?_ | refine AK.pc (Ake k) ?_)
 all_goals refine AK.rt Tryz.func280 ?_
 all_goals (simp_all [Hl,Bv])
def C8 (k m:Int):Bool:=if k=1 then Bu m 0 1000000 else if k=32 then Bu m (-1) 1000000 else m==0
def Ex (k:Int)(s:List UInt8)(m:Int)(len:Nat):Bool :=
 (Aw k).2.2&&(decide ((Aw k).1<0)||((len:Int)==(Aw k).1))&&((Aw k).2.1==!(s==[]))&&(!(Aw k).2.1||nameS s)&&!(k==40&&len==0)&&C8 k m
mutual
def Bg:Nd→Bool
 | .mk k s m ks=>Ex k s m ks.length&&Cr (.mk k s m ks) 0 ks
def Cr:Nd→Nat→List Nd→Bool
 | _,_,[]=>true
 | p,i,x::l=>Hl p i x.kind&&(Bg x&&Cr p (i+1) l)
end
theorem Hk (n:Nd):Bg n=(Ex n.kind n.name n.num n.kids.length&&Cr n 0 n.kids):=by cases n;rfl
theorem Akc (n:Nd)(hn:wN n≤1000000000):Pure X 259 [nd n] (vb (Bg n)):=by
 induction n using Nd.ind with
 | h n ih =>
 have hll:=D4 n
 have hloop:∀ T:Bool,Cr n 0 n.kids=T→AK X ⟨259,Tryz.f259,0,0⟩ (Js false 13 Tryz.f259) [(1,.ptr 0 0 0)] ⟨[[Ae n]],[]⟩ (fun e S=>e=.ret (vb T)∧S=⟨[],[]⟩):=fun T hT=>by
  refine AK.at_ ?_
  refine AK.ev 100 rfl ?_
  refine AK.while_ (ι:=Nat) 1 0 (fun i=>i≤n.kids.length∧T=Cr n i (n.kids.drop i)) (fun i=>[(6,vi i),(1,.ptr 0 0 0)]) (fun _=>⟨[[Ae n]],[]⟩) (fun i=>n.kids.length-i) ?_ 0 ⟨Nat.zero_le _,hT.symm⟩
   ⟨rfl,rfl,trivial⟩
  rintro i ⟨hi,hTi⟩ IH
  refine AK.ei (fun h=>?_) (fun h=>?_)
  ·have hlt:i<n.kids.length:=by have:=of_decide_eq_true h;rw [Ad] at this;omega
   obtain ⟨kid,hkid⟩:=Ab n.kids hlt
   have hkw:=F3 (List.mem_of_getElem? hkid)
   rw [Ba hkid] at hTi
   simp only [Cr] at hTi
   refine AK.db 0 ?_
   refine Gz (fun S'=>Ndo.index rfl rfl rfl rfl rfl rfl rfl rfl rfl (by omega) (Al hkid)) ?_
   refine Drv.go ?_
   refine Drv.pc (Asy n i kid.kind (by omega)) ?_
   refine Km 1 ?_
   cases hk:Hl n i kid.kind with
   | false =>
     refine Drv.t true ?_
     refine Drv.go ?_
     refine Drv.z ?_
     refine AK.yes ?_
     refine AK.rt Tryz.func259 ?_
     rw [hTi,hk];rfl
   | true =>
     refine Drv.t false ?_
     refine Drv.go ?_
     refine Gz (fun S'=>Ndo.index rfl rfl rfl rfl rfl rfl rfl rfl rfl (by omega) (Al hkid)) ?_
     refine Drv.go ?_
     refine Drv.pc (ih kid (List.mem_of_getElem? hkid) (by omega)) ?_
     refine Drv.go ?_
     refine Drv.z ?_
     refine AK.if_ (fun h2=>?_) (fun h2=>?_)
     ·have h2':(!Bg kid)=true:=h2
      refine AK.rt Tryz.func259 ?_
      rw [hTi]
      simp at h2'
      simp [h2',Bv]
     ·have h2':(!Bg kid)=false:=h2
      simp at h2'
      refine IH (i+1) ⟨hlt,?_⟩ (by omega) _ _ ⟨vsx (by omega),rfl,trivial⟩ rfl rfl rfl
      rw [hTi,hk,h2'];simp
  ·have:i=n.kids.length:=by have:=of_decide_eq_false h;rw [Ad] at this;omega
   subst this
   refine AK.rt Tryz.func259 ?_
   rw [hTi,List.drop_length];rfl
 have hnl:n.name.length≤1000000000:=by have:=Ahc n;omega
 have hF:=Hk n
 have hcont:Ex n.kind n.name 0 n.kids.length=Ex n.kind n.name 0 n.kids.length→∀ z,(Ex n.kind n.name n.num n.kids.length=C8 n.kind n.num)→z=Bg n →
  AK X ⟨259,Tryz.f259,0,0⟩ (Js false 4 Tryz.f259) [(1,.ptr 0 0 0)] ⟨[[Ae n]],[]⟩ (fun e S=>e=.ret (vb z)∧S=⟨[],[]⟩):=fun _ z hH hz=>by
  subst hz
  rw [hH] at hF
  refine AK.at_ ?_
  refine AK.ei (fun h1=>?_) (fun h1=>?_)
  ·refine AK.pc (J0 n.num 0 1000000) ?_
   refine AK.ifj 0 13 (fun h2=>?_) (fun h2=>?_)
   ·refine AK.rt Tryz.func259 ?_
    rw [hF];simp_all [C8,Bv]
   ·refine AK.back' 1 0 (hloop _ ?_) ⟨rfl,trivial⟩ rfl rfl rfl rfl rfl
    simp_all [C8]
  ·refine AK.if_ (fun h2=>?_) (fun h2=>?_)
   ·refine AK.pc (J0 n.num (-1) 1000000) ?_
    refine AK.ifj 0 13 (fun h2=>?_) (fun h2=>?_)
    ·refine AK.rt Tryz.func259 ?_
     rw [hF];simp_all [C8,Bv]
    ·refine AK.back' 1 0 (hloop _ ?_) ⟨rfl,trivial⟩ rfl rfl rfl rfl rfl
     simp_all [C8]
   ·refine AK.ifj 0 13 (fun h2=>?_) (fun h2=>?_)
    ·refine AK.rt Tryz.func259 ?_
     rw [hF];simp_all [C8,Bv]
    ·refine AK.back' 1 0 (hloop _ ?_) ⟨rfl,trivial⟩ rfl rfl rfl rfl rfl
     simp_all [C8]
 refine Pure.run Tryz.func259 ?_
 refine AK.pc (Ant n.kind) ?_
 generalize hsh:Aw n.kind=sh
 obtain ⟨a,b,c⟩:=sh
 have hlen:((Ai n.kids).length:Int)=n.kids.length:=by rw [Ad]
 have hH:Ex n.kind n.name n.num n.kids.length=(c&&(decide (a<0)||((n.kids.length:Int)==a))&&(b==!(n.name==[]))&&(!b||nameS n.name)&&!(n.kind==40&&n.kids.length==0)&&C8 n.kind n.num):=by simp only [Ex,hsh]
 cases c with
 | false =>
   refine AK.gy ?_
   refine AK.gy ?_
   refine AK.gy ?_
   refine AK.gy ?_
   refine AK.yes ?_
   refine AK.rt Tryz.func259 ?_
   rw [hF,hH];simp_all [Bv]<;>(intros;omega)
 | true =>
   refine AK.gn ?_
   refine AK.gd (fun h1=>?_) (fun h1=>?_)
   ·refine AK.gd (fun h2=>?_) (fun h2=>?_)
    ·refine AK.gy ?_
     refine AK.gy ?_
     refine AK.yes ?_
     refine AK.rt Tryz.func259 ?_
     rw [hF,hH];simp_all [Bv]<;>(intros;omega)
    ·skip
     refine AK.gd (fun h3=>?_) (fun h3=>?_)
     ·refine AK.gy ?_
      refine AK.yes ?_
      refine AK.rt Tryz.func259 ?_
      rw [hF,hH];simp_all [Bv]<;>(intros;omega)
     ·cases b with
      | true =>
        refine AK.gy ?_
        refine AK.pc (Adr n.name hnl) ?_
        refine AK.gd (fun h4=>?_) (fun h4=>?_)
        ·skip
         refine AK.yes ?_
         refine AK.rt Tryz.func259 ?_
         rw [hF,hH];simp_all [Bv]<;>(intros;omega)
        ·skip
         refine AK.gd (fun h5=>?_) (fun h5=>?_)
         ·refine AK.ifj 0 4 (fun h6=>?_) (fun h6=>?_)
          ·refine AK.rt Tryz.func259 ?_
           rw [hF,hH];simp_all [Bv]<;>(intros;omega)
          ·refine AK.back' 1 0 (hcont rfl _ ?_ rfl) ⟨rfl,trivial⟩ rfl rfl rfl rfl rfl
           rw [hH];simp_all<;>(intro _ hk;rw [Ad,hk] at hlen;simp at hlen;omega)
         ·refine AK.ifj 0 4 (fun h6=>?_) (fun h6=>?_)
          ·cases h6
          ·refine AK.back' 1 0 (hcont rfl _ ?_ rfl) ⟨rfl,trivial⟩ rfl rfl rfl rfl rfl
           rw [hH];simp_all<;>(intro _ hk;rw [Ad,hk] at hlen;simp at hlen;omega)
      | false =>
        refine AK.gn ?_
        refine AK.gn ?_
        refine AK.gd (fun h5=>?_) (fun h5=>?_)
        ·refine AK.ifj 0 4 (fun h6=>?_) (fun h6=>?_)
         ·refine AK.rt Tryz.func259 ?_
          rw [hF,hH];simp_all [Bv]<;>(intros;omega)
         ·refine AK.back' 1 0 (hcont rfl _ ?_ rfl) ⟨rfl,trivial⟩ rfl rfl rfl rfl rfl
          rw [hH];simp_all<;>(intro _ hk;rw [Ad,hk] at hlen;simp at hlen;omega)
        ·refine AK.ifj 0 4 (fun h6=>?_) (fun h6=>?_)
         ·cases h6
         ·refine AK.back' 1 0 (hcont rfl _ ?_ rfl) ⟨rfl,trivial⟩ rfl rfl rfl rfl rfl
          rw [hH];simp_all<;>(intro _ hk;rw [Ad,hk] at hlen;simp at hlen;omega)
   ·refine AK.gn ?_
    refine AK.gd (fun h3=>?_) (fun h3=>?_)
    ·refine AK.gy ?_
     refine AK.yes ?_
     refine AK.rt Tryz.func259 ?_
     rw [hF,hH];simp_all [Bv]<;>(intros;omega)
    ·cases b with
     | true =>
       refine AK.gy ?_
       refine AK.pc (Adr n.name hnl) ?_
       refine AK.gd (fun h4=>?_) (fun h4=>?_)
       ·skip
        refine AK.yes ?_
        refine AK.rt Tryz.func259 ?_
        rw [hF,hH];simp_all [Bv]<;>(intros;omega)
       ·skip
        refine AK.gd (fun h5=>?_) (fun h5=>?_)
        ·refine AK.ifj 0 4 (fun h6=>?_) (fun h6=>?_)
         ·refine AK.rt Tryz.func259 ?_
          rw [hF,hH];simp_all [Bv]<;>(intros;omega)
         ·refine AK.back' 1 0 (hcont rfl _ ?_ rfl) ⟨rfl,trivial⟩ rfl rfl rfl rfl rfl
          rw [hH];simp_all<;>(intro _ hk;rw [Ad,hk] at hlen;simp at hlen;omega)
        ·refine AK.ifj 0 4 (fun h6=>?_) (fun h6=>?_)
         ·cases h6
         ·refine AK.back' 1 0 (hcont rfl _ ?_ rfl) ⟨rfl,trivial⟩ rfl rfl rfl rfl rfl
          rw [hH];simp_all<;>(intro _ hk;rw [Ad,hk] at hlen;simp at hlen;omega)
     | false =>
       refine AK.gn ?_
       refine AK.gn ?_
       refine AK.gd (fun h5=>?_) (fun h5=>?_)
       ·refine AK.ifj 0 4 (fun h6=>?_) (fun h6=>?_)
        ·refine AK.rt Tryz.func259 ?_
         rw [hF,hH];simp_all [Bv]<;>(intros;omega)
        ·refine AK.back' 1 0 (hcont rfl _ ?_ rfl) ⟨rfl,trivial⟩ rfl rfl rfl rfl rfl
         rw [hH];simp_all<;>(intro _ hk;rw [Ad,hk] at hlen;simp at hlen;omega)
       ·refine AK.ifj 0 4 (fun h6=>?_) (fun h6=>?_)
        ·cases h6
        ·refine AK.back' 1 0 (hcont rfl _ ?_ rfl) ⟨rfl,trivial⟩ rfl rfl rfl rfl rfl
         rw [hH];simp_all<;>(intro _ hk;rw [Ad,hk] at hlen;simp at hlen;omega)
end Go.V
