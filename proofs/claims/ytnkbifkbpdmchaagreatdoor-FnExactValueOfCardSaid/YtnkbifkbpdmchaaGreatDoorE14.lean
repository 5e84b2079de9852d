/- A part of the proof of the claim that the last text states: no condition of its own. -/
import Derived.Test.YtnkbifkbpdmchaaGreatDoorE13
set_option linter.unusedVariables false
set_option linter.unusedSimpArgs false
namespace Go.V
open Go
section
variable {X:Cx}{B:Bx}{E:Env}{S:St}{w:World}{F:Frm}{a:Act}{N:Nat}{R:AE→St→Prop}
def DrvP (X:Cx)(N:Nat)(ops:Array Oper)(ix:Nat→Nat)(bp:Nat→Nat→Bool)(em:Nat→Bool):List Oper→Nat→Frm→St→List St→List Pend→(Frm→St→Prop)→Prop
 | [],_,F,S,_,_,K=>K F S
 | o::os,i,F,S,Hs,pend,K =>
   (∃ x,dstOk N o.dst=true∧(∀ S',Ndo X N ops (ix i) o F x S' S')∧DrvP X N ops ix bp em os (i+1) (putF o.dst x F) S Hs pend K) ∨
   (∃ x,dstOk N o.dst=true∧(∀ S',S'∈Hs→Ndo X N ops (ix i) o F x S' S')∧DrvP X N ops ix bp em os (i+1) (putF o.dst x F) S Hs ((i,o,F,x)::pend) K) ∨
   (∃ x S' pend',em i=true∧dstOk N o.dst=true∧Ndo X N ops (ix i) o F x S S'∧pend.filter (fun p=>!bp p.1 i)=pend'∧(∀ p,p∈pend'→Ndo X N ops (ix p.1) p.2.1 p.2.2.1 p.2.2.2 S' S') ∧
     DrvP X N ops ix bp em os (i+1) (putF o.dst x F) S' (S'::Hs) pend' K)
structure DDataP (X:Cx)(N:Nat)(ops:Array Oper)(ix:Nat→Nat)(bp:Nat→Nat→Bool)(em:Nat→Bool)(i n:Nat)(eff:Nat→Bool)(x:Nat→AV)(FF:Nat→Frm)(SS:Nat→St)(Hs:List St)(pend:List Pend):Prop where
 step:∀ j,i≤j→j<n→∀ o,ops[ix j]?=some o→FF (j+1)=putF o.dst (x j) (FF j)∧dstOk N o.dst=true
 eff0:∀ j,i≤j→j<n→eff j=false→SS (j+1)=SS j
 eff1:∀ j,i≤j→j<n→eff j=true→∀ o,ops[ix j]?=some o→em j=true∧Ndo X N ops (ix j) o (FF j) (x j) (SS j) (SS (j+1))
 was:∀ j,i≤j→j<n→eff j=false→∀ o,ops[ix j]?=some o→∀ S',S'∈Hs→Ndo X N ops (ix j) o (FF j) (x j) S' S'
 will:∀ j,i≤j→j<n→eff j=false→∀ o,ops[ix j]?=some o→∀ p,i≤p→p≤n→(∀ e,j≤e→e<p→eff e=true→bp j e=false)→Ndo X N ops (ix j) o (FF j) (x j) (SS p) (SS p)
 pend:∀ q,q∈pend→∀ p,i≤p→p≤n→(∀ e,i≤e→e<p→eff e=true→bp q.1 e=false)→Ndo X N ops (ix q.1) q.2.1 q.2.2.1 q.2.2.2 (SS p) (SS p)
theorem DrvP.data {ops:Array Oper}{ix:Nat→Nat}{bp:Nat→Nat→Bool}{em:Nat→Bool}:∀ (os:List Oper)(i:Nat)(F:Frm)(S:St)(Hs:List St)(pend:List Pend)(K:Frm→St→Prop),
 DrvP X N ops ix bp em os i F S Hs pend K→(∀ k,k<os.length→ops[ix (i+k)]?=os[k]?)→S∈Hs→(∀ q,q∈pend→Ndo X N ops (ix q.1) q.2.1 q.2.2.1 q.2.2.2 S S) →
 ∃ eff x FF SS,FF i=F∧SS i=S∧K (FF (i+os.length)) (SS (i+os.length))∧DDataP X N ops ix bp em i (i+os.length) eff x FF SS Hs pend
 | [],i,F,S,Hs,pend,K,h,_,hS,hp=>by
   refine ⟨fun _=>false,fun _=>.junk,fun _=>F,fun _=>S,rfl,rfl,h,?_⟩
   exact { step:=fun j h1 h2=>by simp at h2;omega
           eff0:=fun j h1 h2=>by simp at h2;omega
           eff1:=fun j h1 h2=>by simp at h2;omega
           was:=fun j h1 h2=>by simp at h2;omega
           will:=fun j h1 h2=>by simp at h2;omega
           pend:=fun q hq p _ _ _=>hp q hq }
 | o::os,i,F,S,Hs,pend,K,h,hops,hS,hp=>by
   have ho:ops[ix i]?=some o:=by have:=hops 0 (by simp);simpa using this
   have hops':∀ k,k<os.length→ops[ix (i+1+k)]?=os[k]?:=fun k hk=>by
    have:=hops (k+1) (by simp;omega)
    rw [show i+1+k=i+(k+1) by omega]
    simpa using this
   have hlen:i+(o::os).length=i+1+os.length:=by simp;omega
   rw [hlen]
   simp only [DrvP] at h
   have upd:∀ {β:Type} (f:Nat→β) (v:β) (j:Nat),(fun j=>if j=i then v else f j) j=if j=i then v else f j:=fun _ _ _=>rfl
   rcases h with ⟨x,hd,hn,hk⟩ | ⟨x,hd,hn,hk⟩ | ⟨x,S',pend',he,hd,hn,hpf,hpn,hk⟩
   ·obtain ⟨eff,xs,FF,SS,h1,h2,h3,D⟩:=DrvP.data os (i+1) _ S Hs pend K hk hops' hS hp
    refine ⟨fun j=>if j=i then false else eff j,fun j=>if j=i then x else xs j,fun j=>if j=i then F else FF j,fun j=>if j=i then S else SS j,by simp,by simp,?_,?_⟩
    ·have:¬ (i+1+os.length=i):=by omega
     simpa [this] using h3
    ·refine ⟨fun j a b o' ho'=>?_,fun j a b c=>?_,fun j a b c o' ho'=>?_,fun j a b c o' ho' S' hS'=>?_,fun j a b c o' ho' p hp1 hp2 hpe=>?_,fun q hq p hp1 hp2 hpe=>?_⟩
     ·by_cases hj:j=i
      ·subst hj;rw [ho] at ho';cases ho'
       simp [h1,hd]
      ·have h4:¬ (j+1=i):=by omega
       simp only [hj,h4,if_false]
       exact D.step j (by omega) b o' ho'
     ·by_cases hj:j=i
      ·subst hj;simp [h2]
      ·have h4:¬ (j+1=i):=by omega
       simp only [hj,h4,if_false] at c ⊢
       exact D.eff0 j (by omega) b c
     ·by_cases hj:j=i
      ·subst hj;simp at c
      ·have h4:¬ (j+1=i):=by omega
       simp only [hj,h4,if_false] at c ⊢
       exact D.eff1 j (by omega) b c o' ho'
     ·by_cases hj:j=i
      ·subst hj;rw [ho] at ho';cases ho';simp only [if_true];exact hn S'
      ·simp only [hj,if_false] at c ⊢
       exact D.was j (by omega) b c o' ho' S' hS'
     ·by_cases hj:j=i
      ·subst hj;rw [ho] at ho';cases ho';simp only [if_true];exact hn _
      ·simp only [hj,if_false] at c ⊢
       by_cases hpi:p=i
       ·subst hpi;simp only [if_true];exact D.was j (by omega) b c o' ho' S hS
       ·simp only [hpi,if_false]
        refine D.will j (by omega) b c o' ho' p (by omega) hp2 (fun e e1 e2 e3=>hpe e e1 e2 ?_)
        have:¬ (e=i):=by omega
        simpa [this] using e3
     ·by_cases hpi:p=i
      ·subst hpi;simp only [if_true];exact hp q hq
      ·simp only [hpi,if_false]
       refine D.pend q hq p (by omega) hp2 (fun e e1 e2 e3=>hpe e (by omega) e2 ?_)
       have:¬ (e=i):=by omega
       simpa [this] using e3
   ·obtain ⟨eff,xs,FF,SS,h1,h2,h3,D⟩:=DrvP.data os (i+1) _ S Hs ((i,o,F,x)::pend) K hk hops' hS (fun q hq=>by
     rcases List.mem_cons.1 hq with rfl | hq
     ·exact hn S hS
     ·exact hp q hq)
    refine ⟨fun j=>if j=i then false else eff j,fun j=>if j=i then x else xs j,fun j=>if j=i then F else FF j,fun j=>if j=i then S else SS j,by simp,by simp,?_,?_⟩
    ·have:¬ (i+1+os.length=i):=by omega
     simpa [this] using h3
    ·refine ⟨fun j a b o' ho'=>?_,fun j a b c=>?_,fun j a b c o' ho'=>?_,fun j a b c o' ho' S' hS'=>?_,fun j a b c o' ho' p hp1 hp2 hpe=>?_,fun q hq p hp1 hp2 hpe=>?_⟩
     ·by_cases hj:j=i
      ·subst hj;rw [ho] at ho';cases ho'
       simp [h1,hd]
      ·have h4:¬ (j+1=i):=by omega
       simp only [hj,h4,if_false]
       exact D.step j (by omega) b o' ho'
     ·by_cases hj:j=i
      ·subst hj;simp [h2]
      ·have h4:¬ (j+1=i):=by omega
       simp only [hj,h4,if_false] at c ⊢
       exact D.eff0 j (by omega) b c
     ·by_cases hj:j=i
      ·subst hj;simp at c
      ·have h4:¬ (j+1=i):=by omega
       simp only [hj,h4,if_false] at c ⊢
       exact D.eff1 j (by omega) b c o' ho'
     ·by_cases hj:j=i
      ·subst hj;rw [ho] at ho';cases ho';simp only [if_true];exact hn S' hS'
      ·simp only [hj,if_false] at c ⊢
       exact D.was j (by omega) b c o' ho' S' hS'
     ·by_cases hpi:p=i
      ·subst hpi
       simp only [if_true]
       by_cases hj:j=p
       ·subst hj;rw [ho] at ho';cases ho';simp only [if_true];exact hn S hS
       ·simp only [hj,if_false] at c ⊢;exact D.was j (by omega) b c o' ho' S hS
      ·simp only [hpi,if_false]
       by_cases hj:j=i
       ·subst hj;rw [ho] at ho';cases ho';simp only [if_true]
        refine D.pend (j,o,F,x) (by simp) p (by omega) hp2 (fun e e1 e2 e3=>hpe e (by omega) e2 ?_)
        have:¬ (e=j):=by omega
        simpa [this] using e3
       ·simp only [hj,if_false] at c ⊢
        refine D.will j (by omega) b c o' ho' p (by omega) hp2 (fun e e1 e2 e3=>hpe e e1 e2 ?_)
        have:¬ (e=i):=by omega
        simpa [this] using e3
     ·by_cases hpi:p=i
      ·subst hpi;simp only [if_true];exact hp q hq
      ·simp only [hpi,if_false]
       refine D.pend q (by simp [hq]) p (by omega) hp2 (fun e e1 e2 e3=>hpe e (by omega) e2 ?_)
       have:¬ (e=i):=by omega
       simpa [this] using e3
   ·obtain ⟨eff,xs,FF,SS,h1,h2,h3,D⟩:=DrvP.data os (i+1) _ S' (S'::Hs) pend' K hk hops' (by simp) hpn
    refine ⟨fun j=>if j=i then true else eff j,fun j=>if j=i then x else xs j,fun j=>if j=i then F else FF j,fun j=>if j=i then S else SS j,by simp,by simp,?_,?_⟩
    ·have:¬ (i+1+os.length=i):=by omega
     simpa [this] using h3
    ·refine ⟨fun j a b o' ho'=>?_,fun j a b c=>?_,fun j a b c o' ho'=>?_,fun j a b c o' ho' S' hS'=>?_,fun j a b c o' ho' p hp1 hp2 hpe=>?_,fun q hq p hp1 hp2 hpe=>?_⟩
     ·by_cases hj:j=i
      ·subst hj;rw [ho] at ho';cases ho'
       simp [h1,hd]
      ·have h4:¬ (j+1=i):=by omega
       simp only [hj,h4,if_false]
       exact D.step j (by omega) b o' ho'
     ·by_cases hj:j=i
      ·subst hj;simp at c
      ·have h4:¬ (j+1=i):=by omega
       simp only [hj,h4,if_false] at c ⊢
       exact D.eff0 j (by omega) b c
     ·by_cases hj:j=i
      ·subst hj;rw [ho] at ho';cases ho'
       simp [h2,he];exact hn
      ·have h4:¬ (j+1=i):=by omega
       simp only [hj,h4,if_false] at c ⊢
       exact D.eff1 j (by omega) b c o' ho'
     ·by_cases hj:j=i
      ·subst hj;simp at c
      ·simp only [hj,if_false] at c ⊢
       exact D.was j (by omega) b c o' ho' S' (by simp [hS'])
     ·by_cases hj:j=i
      ·subst hj;simp at c
      ·simp only [hj,if_false] at c ⊢
       by_cases hpi:p=i
       ·subst hpi;simp only [if_true];exact D.was j (by omega) b c o' ho' S (by simp [hS])
       ·simp only [hpi,if_false]
        refine D.will j (by omega) b c o' ho' p (by omega) hp2 (fun e e1 e2 e3=>hpe e e1 e2 ?_)
        have:¬ (e=i):=by omega
        simpa [this] using e3
     ·by_cases hpi:p=i
      ·subst hpi;simp only [if_true];exact hp q hq
      ·simp only [hpi,if_false]
       have hb:bp q.1 i=false:=hpe i (Nat.le_refl _) (by omega) (by simp)
       refine D.pend q (by rw [← hpf];exact List.mem_filter.2 ⟨hq,by simp [hb]⟩) p (by omega) hp2 (fun e e1 e2 e3=>hpe e (by omega) e2 ?_)
       have:¬ (e=i):=by omega
       simpa [this] using e3
def FDP (ops:Array Oper)(ix:Nat→Nat)(x:Nat→AV)(listed:Nat→Bool)(F:Frm):Nat→Frm
 | 0=>F
 | j+1=>match listed j with
   | true=>match ops[ix j]? with
     | some o=>putF o.dst (x j) (FDP ops ix x listed F j)
     | none=>FDP ops ix x listed F j
   | false=>FDP ops ix x listed F j
theorem lkFDP_none {ops:Array Oper}{ix:Nat→Nat}{x:Nat→AV}{listed:Nat→Bool}{t:Nat}:∀ n,(∀ j,j<n→listed j=true→∀ o,ops[ix j]?=some o→o.dst≠some t)→lk (FDP ops ix x listed F n) t=lk F t
 | 0,_=>rfl
 | n+1,h=>by
   have ih:lk (FDP ops ix x listed F n) t=lk F t:=lkFDP_none n (fun j hj=>h j (by omega))
   simp only [FDP]
   split
   ·rename_i hl
    split
    ·rename_i o ho
     rw [lk_putF,if_neg (h n (by omega) hl o ho),ih]
    ·exact ih
   ·exact ih
theorem lkFDP_some {ops:Array Oper}{ix:Nat→Nat}{x:Nat→AV}{listed:Nat→Bool}{t j:Nat}{o:Oper}(ho:ops[ix j]?=some o)(hd:o.dst=some t)(hl:listed j=true) :
 ∀ n,j<n→(∀ (j':Nat) (o':Oper),j'<n→j≠j'→ops[ix j']?=some o'→o'.dst≠some t)→lk (FDP ops ix x listed F n) t=some (x j)
 | 0,h,_=>by omega
 | n+1,h,hu=>by
   simp only [FDP]
   by_cases hj:j=n
   ·subst hj
    simp only [hl,ho]
    rw [lk_putF,if_pos hd]
   ·have ih:lk (FDP ops ix x listed F n) t=some (x j):=lkFDP_some ho hd hl n (by omega) (fun j' o' h'=>hu j' o' (by omega))
    split
    ·split
     ·rename_i o' ho'
      rw [lk_putF,if_neg (hu n o' (by omega) hj ho'),ih]
     ·exact ih
    ·exact ih
structure DrawOkP (ops:Array Oper)(ix:Nat→Nat)(n:Nat)(bp:Nat→Nat→Bool)(em:Nat→Bool):Prop where
 at_:∀ j,j<n→∃ o,ops[ix j]?=some o
 looks:∀ (i j:Nat) (oi oj:Oper),i<n→j<n→ops[ix i]?=some oi→ops[ix j]?=some oj→∀ t,oj.dst=some t→t∈oi.looksAt ops→(j<i∧bp j i=true)∨(i<j∧bp i j=true)
 dsts:∀ (i j:Nat) (oi oj:Oper),i<n→j<n→ops[ix i]?=some oi→ops[ix j]?=some oj→i≠j→∀ t,oi.dst=some t→oj.dst≠some t
 effs:∀ (i j:Nat),i<j→j<n→em i=true→em j=true→bp i j=true
def OrdP (bp:Nat→Nat→Bool)(n:Nat):List Nat→(Nat→Bool)→Prop
 | [],listed=>∀ j,j<n→listed j=true
 | i::l,listed=>i<n∧listed i=false∧(∀ e,e<n→bp e i=true→listed e=true)∧OrdP bp n l (fun j=>if i=j then true else listed j)
def CloP (bp:Nat→Nat→Bool)(n:Nat)(listed:Nat→Bool):Prop:=∀ j e,j<n→e<n→listed j=true→bp e j=true→listed e=true
theorem CloP.put {bp:Nat→Nat→Bool}{n i:Nat}{listed:Nat→Bool}(h:CloP bp n listed)(hb:∀ e,e<n→bp e i=true→listed e=true):CloP bp n (fun j=>if i=j then true else listed j):=fun j e hj he hl hb'=>by
 by_cases h1:i=e
 ·simp [h1]
 ·simp only [h1,if_false]
  by_cases h2:i=j
  ·subst h2;exact hb e he hb'
  ·simp only [h2,if_false] at hl;exact h j e hj he hl hb'
theorem draw_goP {ops:Array Oper}{ix:Nat→Nat}{n:Nat}{bp:Nat→Nat→Bool}{em:Nat→Bool}(dk:DrawOkP ops ix n bp em){eff:Nat→Bool}{x:Nat→AV}{FF:Nat→Frm}{SS:Nat→St}{Hs:List St}{pend:List Pend}
 (D:DDataP X N ops ix bp em 0 n eff x FF SS Hs pend)(hF0:FF 0=F)(k:List Item):∀ (l:List Nat)(listed:Nat→Bool)(a:Act)(w:World)(E:Env)(p:Nat),
 OrdP bp n l listed→CloP bp n listed→p≤n→(∀ e,e<n→eff e=true→(listed e=true↔e<p)) →
 Inv X E (SS p) w→FR E w (FDP ops ix x listed F n) a N→∀ (b:Frame) (cs:List Frame),
  ∃ E' w' a',Steps X.P (lone (b.at a (.inRegion ops (l.map ix)::k)) cs w) (lone (b.at a' k) cs w')∧Inv X E' (SS n) w' ∧
   FR E' w' (FF n) a' N∧Evol E w E' w' E.boxes.length E.toks.length:=by
 have hFF:∀ m,m≤n→FF m=FDP ops ix x (fun _=>true) F m:=by
  intro m
  induction m with
  | zero=>intro _;exact hF0
  | succ m ih =>
    intro hn
    obtain ⟨o,ho⟩:=dk.at_ m (by omega)
    rw [(D.step m (Nat.zero_le _) (by omega) _ ho).1,ih (by omega)]
    simp [FDP,ho]
 have hSS:∀ p q,p≤q→q≤n→(∀ e,p≤e→e<q→eff e=false)→SS q=SS p:=by
  intro p q hpq
  induction q with
  | zero=>intro _ _;rw [show p=0 by omega]
  | succ q ih =>
    intro hq he
    by_cases h:p=q+1
    ·rw [h]
    ·rw [D.eff0 q (Nat.zero_le _) (by omega) (he q (by omega) (by omega))]
     exact ih (by omega) (by omega) (fun e h1 h2=>he e h1 (by omega))
 intro l
 induction l with
 | nil =>
   intro listed a w E p hall hc hp hpe hI hF b cs
   refine ⟨E,w,a,.one step_region_end,?_,?_,Evol.refl _ _ _ _⟩
   ·rw [hSS p n hp (Nat.le_refl _) fun e h1 h2=>by
     cases he:eff e with
     | false=>rfl
     | true=>have:=(hpe e h2 he).1 (hall e h2);omega]
    exact hI
   ·rw [hFF _ (Nat.le_refl _)]
    have:FDP ops ix x listed F n=FDP ops ix x (fun _=>true) F n:=by
     have:∀ m,m≤n→FDP ops ix x listed F m=FDP ops ix x (fun _=>true) F m:=by
      intro m
      induction m with
      | zero=>intro _;rfl
      | succ m ih=>intro hn;simp only [FDP,hall m (by omega),ih (by omega)]
     exact this _ (Nat.le_refl _)
    rw [← this];exact hF
 | cons i l ih =>
   intro listed a w E p hord hc hp hpe hI hF b cs
   obtain ⟨hin,hilf,rbit,hrest⟩:=hord
   obtain ⟨o,ho⟩:=dk.at_ i hin
   simp only [List.map_cons]
   have notbit:∀ e,e<n→listed e=true→bp i e=false:=fun e he hl=>by
    cases hb:bp i e with
    | false=>rfl
    | true=>have:=hc e i he hin hl hb;rw [hilf] at this;cases this
   have hagree:∀ t,t∈o.looksAt ops→lk (FDP ops ix x listed F n) t=lk (FF i) t:=fun t ht=>by
    rw [hFF i (by omega)]
    by_cases hw:∃ (j:Nat) (oj:Oper),j<n∧ops[ix j]?=some oj∧oj.dst=some t
    ·obtain ⟨j,oj,hjn,hj,hd⟩:=hw
     have hu:∀ (j':Nat) (o':Oper),j'<n→j≠j'→ops[ix j']?=some o'→o'.dst≠some t:=fun j' o' hjn' hne ho'=>dk.dsts j j' oj o' hjn hjn' hj ho' hne t hd
     rcases dk.looks i j o oj hin hjn ho hj t hd ht with ⟨h1,h2⟩ | ⟨h1,h2⟩
     ·rw [lkFDP_some (listed:=listed) hj hd (rbit j hjn h2) n hjn (fun j' o' hj'=>hu j' o' hj'),lkFDP_some (listed:=fun _=>true) hj hd rfl i h1 (fun j' o' hj'=>hu j' o' (by omega))]
     ·have hjl:listed j=false:=by
       cases hl:listed j with
       | false=>rfl
       | true=>have:=notbit j hjn hl;rw [h2] at this;cases this
      rw [lkFDP_none n fun j' hj' hl' o' ho' hc'=>by
       by_cases hjj:j=j'
       ·subst hjj;rw [hjl] at hl';cases hl'
       ·exact hu j' o' hj' hjj ho' hc',
       lkFDP_none i fun j' hj' _ o' ho' hc'=>by
        by_cases hjj:j=j'
        ·omega
        ·exact hu j' o' (by omega) hjj ho' hc']
    ·rw [lkFDP_none n fun j' hj' _ o' ho' hc'=>hw ⟨j',o',hj',ho',hc'⟩,lkFDP_none i fun j' hj' _ o' ho' hc'=>hw ⟨j',o',by omega,ho',hc'⟩]
   have hcl':=hc.put rbit
   have hlk':∀ t,lk (FDP ops ix x (fun j=>if i=j then true else listed j) F n) t=lk (putF o.dst (x i) (FDP ops ix x listed F n)) t:=fun t=>by
    rw [lk_putF]
    by_cases hd:o.dst=some t
    ·rw [if_pos hd]
     exact lkFDP_some ho hd (by simp) n hin (fun j' o' hj' hne ho'=>dk.dsts i j' o o' hin hj' ho ho' hne t hd)
    ·rw [if_neg hd]
     have:∀ m,lk (FDP ops ix x (fun j=>if i=j then true else listed j) F m) t=lk (FDP ops ix x listed F m) t:=by
      intro m
      induction m with
      | zero=>rfl
      | succ m ihn =>
        simp only [FDP]
        by_cases hn:i=m
        ·subst hn
         simp only [if_true,hilf,ho]
         rw [lk_putF,if_neg hd,ihn]
        ·simp only [hn,if_false]
         split
         ·split
          ·rw [lk_putF,lk_putF,ihn]
          ·exact ihn
         ·exact ihn
     exact this _
   have next:∀ (p':Nat),p'≤n→(∀ e,e<n→eff e=true→((if i=e then true else listed e)=true↔e<p'))→Ndo X N ops (ix i) o (FF i) (x i) (SS p) (SS p') →
    ∃ E' w' a',Steps X.P (lone (b.at a (.inRegion ops (ix i::l.map ix)::k)) cs w) (lone (b.at a' k) cs w') ∧
     Inv X E' (SS n) w'∧FR E' w' (FF n) a' N∧Evol E w E' w' E.boxes.length E.toks.length:=fun p' hp' hpe' hn=>by
    obtain ⟨v,w1,⟨E1,h1,h2,h3⟩,h4⟩:=hn _ E w a hagree hI hF b k cs (l.map ix)
    rw [ho] at h4
    have hd:=(D.step i (Nat.zero_le _) hin o ho).2
    have hF1:FR E1 w1 (FDP ops ix x (fun j=>if i=j then true else listed j) F n) (a.put o.dst v) N:=by
     have:=(hF.step h2).putF hd h3
     exact ⟨this.size,this.nod,fun q y hq=>this.rel q y (by rw [← hlk' q];exact hq)⟩
    obtain ⟨E',w',a',k1,k2,k3,k4⟩:=ih _ _ w1 E1 p' hrest hcl' hp' hpe' h1 hF1 b cs
    have hlen:=h2.len
    exact ⟨E',w',a',h4.trans k1,k2,k3,h2.trans (k4.weaken hlen.1 hlen.2)⟩
   cases he:eff i with
   | false =>
     refine next p hp (fun e hen hee=>?_) ?_
     ·by_cases hie:i=e
      ·subst hie;rw [he] at hee;cases hee
      ·rw [if_neg hie];exact hpe e hen hee
     ·exact D.will i (Nat.zero_le _) hin he o ho p (Nat.zero_le _) hp (fun e h1 h2 h3=>notbit e (by omega) ((hpe e (by omega) h3).2 h2))
   | true =>
     obtain ⟨es,hn⟩:=D.eff1 i (Nat.zero_le _) hin he o ho
     have hpi:p≤i:=by
      rcases Nat.lt_or_ge i p with h | h
      ·have:=(hpe i hin he).2 h;rw [hilf] at this;cases this
      ·exact h
     have before:∀ e,e<i→eff e=true→listed e=true:=fun e hei hee=>by
      obtain ⟨oe,hoe⟩:=dk.at_ e (by omega)
      exact rbit e (by omega) (dk.effs e i hei hin (D.eff1 e (Nat.zero_le _) (by omega) hee _ hoe).1 es)
     have hSp:SS i=SS p:=hSS p i hpi (by omega) (fun e h1 h2=>by
      cases hee:eff e with
      | false=>rfl
      | true=>have:=(hpe e (by omega) hee).1 (before e h2 hee);omega)
     refine next (i+1) (by omega) (fun e hen hee=>?_) (by rw [← hSp];exact hn)
     by_cases hie:i=e
     ·subst hie;simp
     ·rw [if_neg hie]
      constructor
      ·intro hl
       rcases Nat.lt_or_ge e (i+1) with h | h
       ·exact h
       ·obtain ⟨oe,hoe⟩:=dk.at_ e hen
        have:=dk.effs i e (by omega) hen es (D.eff1 e (Nat.zero_le _) hen hee _ hoe).1
        have h2:=notbit e hen hl
        rw [this] at h2;cases h2
      ·intro hlt
       exact before e (by omega) hee
end
def AB (a b:Nat):List Nat→(Nat→Bool)→Prop
 | [],_=>True
 | i::l,listed=>(i=b→listed a=true)∧AB a b l (fun j=>if i=j then true else listed j)
theorem AB_done {a b:Nat}:∀ (l:List Nat)(listed:Nat→Bool),listed a=true→AB a b l listed
 | [],_,_=>trivial
 | i::l,listed,h=>⟨fun _=>h,AB_done l _ (by simp [h])⟩
theorem AB_or {a b:Nat}(hne:a≠b):∀ (l:List Nat)(listed:Nat→Bool),AB a b l listed∨AB b a l listed
 | [],_=>.inl trivial
 | i::l,listed=>by
   by_cases ha:i=a
   ·subst ha
    exact .inl ⟨fun h=>absurd h hne,AB_done l _ (by simp)⟩
   ·by_cases hb:i=b
    ·subst hb
     exact .inr ⟨fun h=>absurd h.symm hne,AB_done l _ (by simp)⟩
    ·rcases AB_or hne l (fun j=>if i=j then true else listed j) with h | h
     ·exact .inl ⟨fun h'=>absurd h' hb,h⟩
     ·exact .inr ⟨fun h'=>absurd h' ha,h⟩
theorem AB_of {bp:Nat→Nat→Bool}{n a b c:Nat}(hb:b<n)(hbc:bp b c=true):∀ (l:List Nat)(listed:Nat→Bool),OrdP bp n l listed→AB a b l listed→(listed b=true→listed a=true)→AB a c l listed
 | [],_,_,_,_=>trivial
 | i::l,listed,⟨_,_,g3,g4⟩,⟨h1,h2⟩,h3=>⟨fun hi=>h3 (g3 b hb (by rw [hi];exact hbc)),AB_of hb hbc l _ g4 h2 (fun hl=>by
    by_cases hib:i=b
    ·by_cases hia:i=a
     ·simp [hia]
     ·simp [hia,h1 hib]
    ·simp only [hib,if_false] at hl
     by_cases hia:i=a
     ·simp [hia]
     ·simp [hia,h3 hl])⟩
theorem OrdP.congr {bp:Nat→Nat→Bool}{n:Nat}:∀ (l:List Nat){f g:Nat→Bool},(∀ p,p<n→f p=g p)→OrdP bp n l f→OrdP bp n l g
 | [],f,g,h,ho=>fun j hj=>by rw [← h j hj];exact ho j hj
 | i::l,f,g,h,⟨g1,g2,g3,g4⟩=>⟨g1,by rw [← h i g1];exact g2,fun e he hb=>by rw [← h e he];exact g3 e he hb,OrdP.congr l (fun p hp=>by
    by_cases hi:i=p
    ·simp [hi]
    ·simp [hi,h p hp]) g4⟩
theorem OrdP.map {bp:Nat→Nat→Bool}{n:Nat}{σ ix:Nat→Nat}(h1:∀ i,i<n→σ i<n∧ix (σ i)=i)(h2:∀ p,p<n→ix p<n∧σ (ix p)=p){asm:List (Nat × Nat)}:∀ (l:List Nat)(listed:Nat→Bool),OrdP bp n l listed →
 (∀ ab,ab∈asm→AB ab.1 ab.2 l listed)→OrdP (fun q p=>bp (ix q) (ix p)||asm.contains (ix q,ix p)) n (l.map σ) (fun p=>listed (ix p))∧(l.map σ).map ix=l
 | [],listed,h,_=>⟨fun j hj=>h _ (h2 j hj).1,rfl⟩
 | i::l,listed,h,ha=>by
   obtain ⟨g1,g2,g3,g4⟩:=h
   obtain ⟨k1,k2⟩:=h1 i g1
   have ih:=OrdP.map h1 h2 l _ g4 (fun ab hab=>(ha ab hab).2)
   refine ⟨⟨k1,by simp only [k2];exact g2,fun e he hb=>?_,OrdP.congr _ (fun p hp=>?_) ih.1⟩,by simp only [List.map_cons,k2,ih.2]⟩
   ·simp only [k2,Bool.or_eq_true] at hb
    rcases hb with hb | hb
    ·exact g3 _ (h2 e he).1 hb
    ·have hm:=List.contains_iff_mem.1 hb
     exact (ha _ hm).1 rfl
   ·by_cases hi:i=ix p
    ·have:σ i=p:=by rw [hi];exact (h2 p hp).2
     simp only [this,if_true,if_pos hi]
    ·have hs:¬ σ i=p:=fun h=>hi (by rw [← h];exact k2.symm)
     simp [hi,hs]
theorem lin_ord {ops:Array Oper}{bs:List Nat}(hb:bitsOk ops bs=true):∀ (fuel t:Nat)(listed:Array Bool),listed.size=ops.size→Closed ops listed→cntU listed ops.size≤fuel →
 OrdP (bitOf bs) ops.size (Region.linearise.go .any ops fuel t listed []) (fun j=>listed.getD j false):=by
 have fin:∀ (listed:Array Bool),(∀ j,j<ops.size→listed.getD j false=true)→OrdP (bitOf bs) ops.size [] (fun j=>listed.getD j false):=fun _ h=>h
 intro fuel
 induction fuel with
 | zero =>
   intro t listed hs hc hcnt
   refine fin listed fun j hj=>?_
   cases hl:listed.getD j false with
   | true=>rfl
   | false =>
     have:j∈(List.range ops.size).filter fun j=>!listed.getD j false:=List.mem_filter.2 ⟨List.mem_range.2 hj,by simp only [hl];rfl⟩
     unfold cntU at hcnt
     have:=List.length_pos_of_mem this
     omega
 | succ fuel ih =>
   intro t listed hs hc hcnt
   simp only [Region.linearise.go]
   change OrdP (bitOf bs) ops.size (match (Region.ready .any ops listed)[t % (Region.ready .any ops listed).length]? with
    | some i=>Region.linearise.go .any ops fuel (t / (Region.ready .any ops listed).length) (listed.setIfInBounds i true) [i]
    | none=>[].reverse) _
   cases hi:(Region.ready .any ops listed)[t % (Region.ready .any ops listed).length]? with
   | none =>
     have hnil:Region.ready .any ops listed=[]:=by
      cases hr:Region.ready .any ops listed with
      | nil=>rfl
      | cons y ys =>
        rw [hr] at hi
        have hlt:t % (y::ys).length<(y::ys).length:=Nat.mod_lt _ (by simp)
        simp at hi
        simp at hlt
        omega
     exact fin listed (all_listed hb hs hnil)
   | some i =>
     obtain ⟨hin,hil,o,ho,hafter⟩:=mem_ready (List.mem_of_getElem? hi)
     have hilf:listed.getD i false=false:=by
      have:i<listed.size:=by omega
      simp [Array.getD,this] at hil ⊢;exact hil
     simp only []
     rw [linearise_go_acc,List.reverse_singleton,List.singleton_append]
     have rbit:∀ e,e<ops.size→bitOf bs e i=true→listed.getD e false=true:=fun e he hbit=>by
      have hk:=List.all_eq_true.1 hb i (List.mem_range.2 hin)
      rw [ho] at hk
      simp only [Bool.and_eq_true,beq_iff_eq] at hk
      unfold bitOf at hbit
      rw [hk.1] at hbit
      rcases bits_fold bs e _ 0 hbit with h | ⟨e',he',hbe,h⟩
      ·simp at h
      ·have hl':=hafter e' he' hbe
       rcases h with rfl | h
       ·exact hl'
       ·have:e'.on<ops.size:=by
         have h2:=List.all_eq_true.1 hk.2 e' he'
         simp only [hbe,Bool.not_true,Bool.or_false] at h2
         have:e'.on<i:=by simpa [Nat.blt_eq] using h2
         omega
        exact hc.bit hb e'.on e this hl' h
     have hcl':Closed ops (listed.setIfInBounds i true):=fun j oj hj hoj e he hb=>by
      rw [getD_set (by omega)] at hj ⊢
      by_cases hie:i=e.on
      ·rw [if_pos hie]
      ·rw [if_neg hie]
       by_cases hij:i=j
       ·subst hij;rw [ho] at hoj;cases hoj;exact hafter e he hb
       ·rw [if_neg hij] at hj;exact hc j oj hj hoj e he hb
     have hcu:=cntU_set hin hs hilf
     refine ⟨hin,hilf,rbit,OrdP.congr _ (fun p _=>?_) (ih _ (listed.setIfInBounds i true) (by simp [hs]) hcl' (by omega))⟩
     rw [getD_set (by omega)]
def bpP (bs:List Nat)(π:List Nat)(asm:List (Nat × Nat))(q p:Nat):Bool:=bitOf bs (π.getD q 0) (π.getD p 0)||asm.contains (π.getD q 0,π.getD p 0)
def okP (ops:Array Oper)(bs π:List Nat)(asm:List (Nat × Nat))(em:Nat):Bool :=
 ((List.range ops.size).all fun i=>Nat.blt (π.idxOf i) ops.size&&π.getD (π.idxOf i) 0==i) &&
 ((List.range ops.size).all fun p=>Nat.blt (π.getD p 0) ops.size&&π.idxOf (π.getD p 0)==p) &&
 (List.range ops.size).all fun i=>match ops[π.getD i 0]? with
   | none=>false
   | some oi=>(List.range ops.size).all fun j=>match ops[π.getD j 0]? with
     | none=>false
     | some oj =>
       (match oj.dst with
         | some t=>!(oi.looksAt ops).contains t||(Nat.blt j i&&bpP bs π asm j i)||(Nat.blt i j&&bpP bs π asm i j)
         | none=>true) &&
       (i==j||(match oi.dst with
         | some t=>oj.dst != some t
         | none=>true)) &&
       (Nat.ble j i||!(em.testBit (π.getD i 0)&&em.testBit (π.getD j 0))||bpP bs π asm i j)
theorem okP_spec {ops:Array Oper}{bs π:List Nat}{asm:List (Nat × Nat)}{em:Nat}(h:okP ops bs π asm em=true) :
 (∀ i,i<ops.size→π.idxOf i<ops.size∧π.getD (π.idxOf i) 0=i)∧(∀ p,p<ops.size→π.getD p 0<ops.size∧π.idxOf (π.getD p 0)=p) ∧
 DrawOkP ops (π.getD · 0) ops.size (bpP bs π asm) (fun j=>em.testBit (π.getD j 0)):=by
 unfold okP at h
 rw [Bool.and_eq_true,Bool.and_eq_true] at h
 obtain ⟨⟨h1,h2⟩,h3⟩:=h
 have key:∀ (i j:Nat) (oi oj:Oper),i<ops.size→j<ops.size→ops[π.getD i 0]?=some oi→ops[π.getD j 0]?=some oj →
  ((match oj.dst with
     | some t=>!(oi.looksAt ops).contains t||(Nat.blt j i&&bpP bs π asm j i)||(Nat.blt i j&&bpP bs π asm i j)
     | none=>true) &&
    (i==j||(match oi.dst with
      | some t=>oj.dst != some t
      | none=>true)) &&
    (Nat.ble j i||!(em.testBit (π.getD i 0)&&em.testBit (π.getD j 0))||bpP bs π asm i j))=true:=fun i j oi oj li lj hi hj=>by
  have a1:=List.all_eq_true.1 h3 i (List.mem_range.2 li)
  rw [hi] at a1
  have a2:=List.all_eq_true.1 a1 j (List.mem_range.2 lj)
  rw [hj] at a2
  exact a2
 have at_:∀ j,j<ops.size→∃ o,ops[π.getD j 0]?=some o:=fun j hj=>by
  have a1:=List.all_eq_true.1 h3 j (List.mem_range.2 hj)
  cases ho:ops[π.getD j 0]? with
  | none=>rw [ho] at a1;cases a1
  | some o=>exact ⟨o,rfl⟩
 refine ⟨fun i hi=>?_,fun p hp=>?_,at_,fun i j oi oj li lj hi hj t ht hm=>?_,fun i j oi oj li lj hi hj hne t ht hc=>?_,fun i j hij lj e1 e2=>?_⟩
 ·have:=List.all_eq_true.1 h1 i (List.mem_range.2 hi)
  simpa [Nat.blt_eq] using this
 ·have:=List.all_eq_true.1 h2 p (List.mem_range.2 hp)
  simpa [Nat.blt_eq] using this
 ·have:=key i j oi oj li lj hi hj
  simp only [Bool.and_eq_true,ht,Bool.or_eq_true,Bool.not_eq_true',Nat.blt_eq] at this
  rcases this.1.1 with (h | h) | h
  ·have hc:(oi.looksAt ops).contains t=true:=List.contains_iff_mem.2 hm
   rw [hc] at h;cases h
  ·exact .inl h
  ·exact .inr h
 ·have:=key i j oi oj li lj hi hj
  simp only [Bool.and_eq_true,ht,Bool.or_eq_true] at this
  rcases this.1.2 with h' | h'
  ·simp at h';exact hne h'
  ·rw [hc] at h';simp at h'
 ·obtain ⟨oi,hi⟩:=at_ i (by omega)
  obtain ⟨oj,hj⟩:=at_ j lj
  have:=key i j oi oj (by omega) lj hi hj
  simp only [Bool.and_eq_true,Bool.or_eq_true,e1,e2] at this
  rcases this.2 with (h' | h') | h'
  ·have:=Nat.le_of_ble_eq_true h';omega
  ·simp at h'
  ·exact h'
section
variable {X:Cx}{B:Bx}{E:Env}{S:St}{w:World}{F:Frm}{a:Act}{N:Nat}{R:AE→St→Prop}
def Way (X:Cx)(N:Nat)(ops:Array Oper)(F:Frm)(S:St)(K:Frm→St→Prop)(l:List Nat):Prop :=
 ∃ (π:List Nat) (asm:List (Nat × Nat)) (em:Nat) (os:List Oper),(∀ ab,ab∈asm→AB ab.1 ab.2 l fun _=>false)∧okP ops (mkBits ops.toList []) π asm em=true∧os.length=ops.size ∧
  (π.map fun i=>ops[i]?)=os.map some∧DrvP X N ops (π.getD · 0) (bpP (mkBits ops.toList []) π asm) (fun j=>em.testBit (π.getD j 0)) os 0 F S [S] [] K
theorem Way.mk {ops:Array Oper}{K:Frm→St→Prop}{l:List Nat}(π:List Nat)(asm:List (Nat × Nat))(em:Nat){os:List Oper}(ha:∀ ab,ab∈asm→AB ab.1 ab.2 l fun _=>false)(hos:(π.filterMap fun i=>ops[i]?)=os)
 (hd:DrvP X N ops (π.getD · 0) (bpP (mkBits ops.toList []) π asm) (fun j=>em.testBit (π.getD j 0)) os 0 F S [S] [] K)(hok:okP ops (mkBits ops.toList []) π asm em=true:=by kernel_rfl)(hl:os.length=ops.size:=by rfl)(hm:(π.map fun i=>ops[i]?)=os.map some:=by rfl):Way X N ops F S K l :=
 ⟨π,asm,em,os,ha,hok,hl,hm,hd⟩
theorem AK.ways {id:Nat}{ops:Array Oper}{k:List Item}(h:∀ l:List Nat,OrdP (bitOf (mkBits ops.toList [])) ops.size l (fun _=>false)→Way X B.fn.ntmps ops F S (fun F' S'=>AK X B k F' S' R) l)(hb:bitsOk ops (mkBits ops.toList [])=true:=by kernel_rfl):AK X B (.code (.region id ops true)::k) F S R:=by
 intro E w a b cs hI hF hn hm hbf
 have hord:=lin_ord hb ops.size (w.tape w.drawn (.order b.fn id)) (Array.replicate ops.size false) (by simp) (fun j o hj=>by simp [Array.getD] at hj) (by
  unfold cntU
  exact Nat.le_trans (List.length_filter_le _ _) (by simp))
 generalize hl:Region.linearise.go .any ops ops.size (w.tape w.drawn (.order b.fn id)) (Array.replicate ops.size false) []=l at hord
 have hord':=OrdP.congr (g:=fun _=>false) l (fun p _=>by simp [Array.getD]) hord
 obtain ⟨π,asm,em,os,ha,hok,hos,hmap,hd⟩:=h l hord'
 obtain ⟨k1,k2,dk⟩:=okP_spec hok
 obtain ⟨o1,o2⟩:=OrdP.map (σ:=π.idxOf) (ix:=(π.getD · 0)) k1 k2 l _ hord' ha
 have hget:∀ j,j<os.length→ops[π.getD (0+j) 0]?=os[j]?:=fun j hj=>by
  have h1:=congrArg (fun l=>l[j]?) hmap
  simp only [List.getElem?_map] at h1
  rw [Nat.zero_add]
  cases hp:π[j]? with
  | none=>rw [hp] at h1;simp [List.getElem?_eq_getElem hj] at h1
  | some i =>
    rw [hp] at h1
    simp only [Option.map_some] at h1
    have:π.getD j 0=i:=by simp [List.getD,hp]
    rw [this]
    cases ho:os[j]? with
    | none=>rw [List.getElem?_eq_getElem hj] at ho;cases ho
    | some o=>rw [ho] at h1;simpa using h1
 obtain ⟨eff,x,FF,SS,h1,h2,h3,D⟩:=DrvP.data os 0 F S [S] [] _ hd hget (by simp) (fun q hq=>by cases hq)
 have hlen:0+os.length=ops.size:=by omega
 rw [hlen] at h3 D
 have hI1:Inv X E (SS 0) { w with drawn:=w.drawn+1 }:=by rw [h2];exact hI.keep (Evol.tapeStep E w _ _) (fun _ _=>rfl)
 have hF1:FR E { w with drawn:=w.drawn+1 } (FDP ops (π.getD · 0) x (fun _=>false) F ops.size) a B.fn.ntmps:=by
  have hF':=hF.step (Evol.tapeStep E w _ _)
  have:FDP ops (π.getD · 0) x (fun _=>false) F ops.size=F:=by
   have:∀ n,FDP ops (π.getD · 0) x (fun _=>false) F n=F:=by
    intro n
    induction n with
    | zero=>rfl
    | succ n ih=>simp only [FDP];exact ih
   exact this _
  rw [this];exact hF'
 obtain ⟨E',w',a',g1,g2,g3,g4⟩:=draw_goP dk D h1 k (l.map π.idxOf) (fun _=>false) a { w with drawn:=w.drawn+1 } E 0 o1
  (fun j e _ _ hj=>by cases hj) (Nat.zero_le _) (fun e he hee=>by simp) hI1 hF1 b cs
 rw [o2] at g1
 have hst:Steps X.P (lone (b.at a (.code (.region id ops true)::k)) cs w) (lone (b.at a' k) cs w'):=by
  refine .head step_region_draw ?_
  simp only [Region.schedule,X.mixed,Bool.true_or,if_true]
  have hl':Region.linearise .any ops (w.tape w.drawn (.order b.fn id))=l:=hl
  rw [hl']
  exact g1
 have g4':=(Evol.tapeStep E w _ _).trans g4
 have hll:=g4'.len
 have nt:E.toks.length=S.toks.length:=by rw [← hI.nt];simp
 have nt':E'.toks.length=(SS ops.size).toks.length:=by rw [← g2.nt];simp
 exact Fin.from hst (g4'.weaken (by rw [hI.nb];exact hn) (by omega)) (h3 E' w' a' b cs g2 g3 (by rw [← g2.nb];have:=hI.nb;omega) (by omega) hbf)
end
section
variable {X:Cx}{B:Bx}{S S':St}{F F':Frm}{R:AE→St→Prop}{ops:Array Oper}{N:Nat}{ix:Nat→Nat}{bp:Nat→Nat→Bool}{em:Nat→Bool}{KK:Frm→St→Prop}
theorem DrvP.runs:∀ (n:Nat)(os:List Oper)(i:Nat)(F:Frm)(pend:List Pend),(∀ k,k<os.length→ops[ix (i+k)]?=os[k]?) →
 DrvP X N ops ix bp em (runK X N ops S n os i F pend).1 (runK X N ops S n os i F pend).2.1 (runK X N ops S n os i F pend).2.2.1 S [S] (runK X N ops S n os i F pend).2.2.2 KK→DrvP X N ops ix bp em os i F S [S] pend KK
 | 0,os,i,F,p,_,h=>h
 | n+1,[],i,F,p,_,h=>h
 | n+1,o::os,i,F,p,hos,h=>by
   have ho:ops[ix i]?=some o:=by have:=hos 0 (by simp);simpa using this
   have hos':∀ k,k<os.length→ops[ix (i+1+k)]?=os[k]?:=fun k hk=>by
    have:=hos (k+1) (by simp;omega)
    rw [show i+1+k=i+(k+1) by omega]
    simpa using this
   unfold runK at h
   split at h
   ·rename_i hw
    split at h
    ·rename_i x hx
     split at h
     ·rename_i F' hF
      obtain ⟨h1,rfl⟩:=putO_eq hF
      split at h
      ·exact .inr (.inl ⟨x,h1,fun S' hS'=>by simp at hS';subst hS';exact Ndo.ev ho hw hx,DrvP.runs n os (i+1) _ _ hos' h⟩)
      ·rename_i hl
       exact .inl ⟨x,h1,fun S'=>Ndo.ev ho hw (by rw [← evalR_free (S:=S) hl];exact hx),DrvP.runs n os (i+1) _ _ hos' h⟩
     ·exact h
    ·split at h
     ·rename_i x hx
      split at h
      ·rename_i F' hF
       obtain ⟨h1,rfl⟩:=putO_eq hF
       exact .inl ⟨x,h1,fun S'=>Ndo.mem ho hw (evalB_free hx S'.boxes S'.toks),DrvP.runs n os (i+1) _ _ hos' h⟩
      ·exact h
     ·exact h
   ·rename_i hw
    split at h
    ·rename_i F' hF
     obtain ⟨h1,rfl⟩:=putO_eq hF
     exact .inl ⟨_,h1,fun S'=>Ndo.skip ho hw,DrvP.runs n os (i+1) _ _ hos' h⟩
    ·exact h
   ·exact h
theorem DrvP.go {os os':List Oper}{i i':Nat}{F':Frm}{pend pend':List Pend}(n:Nat)(k:DrvP X N ops ix bp em os' i' F' S [S] pend' KK)(h:runK X N ops S n os i F pend=(os',i',F',pend'):=by rfl)
 (hos:((List.range os.length).map fun k=>ops[ix (i+k)]?)=os.map some:=by rfl):DrvP X N ops ix bp em os i F S [S] pend KK :=
 DrvP.runs n os i F pend (fun k hk=>by
  have h1:=congrArg (fun l=>l[k]?) hos
  simp only [List.getElem?_map,List.getElem?_range hk,Option.map_some,List.getElem?_eq_getElem hk] at h1
  rw [List.getElem?_eq_getElem hk]
  exact Option.some.inj h1) (by rw [h];exact k)
theorem DrvP.e {os:List Oper}{i:Nat}{o:Oper}{x:AV}{Hs:List St}{pend:List Pend}(k:DrvP X N ops ix bp em os (i+1) F' S Hs pend KK)(ho:ops[ix i]?=some o:=by rfl)(hw:wantA ops F o=some true:=by rfl)(h:∀ S',evalR X F S' o.op=some x:=by intro;rfl)(hF:putO N o.dst x F=some F':=by rfl) :
 DrvP X N ops ix bp em (o::os) i F S Hs pend KK:=by
 obtain ⟨h1,rfl⟩:=putO_eq hF
 exact .inl ⟨x,h1,fun S'=>Ndo.ev ho hw (h S'),k⟩
theorem DrvP.w {os:List Oper}{i:Nat}{o:Oper}{x:AV}{Hs:List St}{pend:List Pend}(h:Ndo X N ops (ix i) o F x S S')(hr:∀ p,p∈pend→Ndo X N ops (ix p.1) p.2.1 p.2.2.1 p.2.2.2 S' S')
 (k:DrvP X N ops ix bp em os (i+1) F' S' (S'::Hs) (pend.filter fun p=>!bp p.1 i) KK)(he:em i=true:=by rfl)(hF:putO N o.dst x F=some F':=by rfl):DrvP X N ops ix bp em (o::os) i F S Hs pend KK:=by
 obtain ⟨h1,rfl⟩:=putO_eq hF
 exact .inr (.inr ⟨x,S',_,he,h1,h,rfl,fun p hp=>hr p (List.mem_filter.1 hp).1,k⟩)
theorem DrvP.w0 {os:List Oper}{i:Nat}{o:Oper}{x:AV}{Hs:List St}{pend:List Pend}(h:Ndo X N ops (ix i) o F x S S')
 (k:DrvP X N ops ix bp em os (i+1) F' S' (S'::Hs) [] KK)(he:em i=true:=by rfl)(hF:putO N o.dst x F=some F':=by rfl)(hp:pend.filter (fun p=>!bp p.1 i)=[]:=by kernel_rfl):DrvP X N ops ix bp em (o::os) i F S Hs pend KK:=by
 obtain ⟨h1,rfl⟩:=putO_eq hF
 exact .inr (.inr ⟨x,S',[],he,h1,h,hp,fun p hp'=>(by cases hp'),k⟩)
theorem DrvP.zj {i:Nat}{Hs:List St}{pend:List Pend}{k K:List Item}{S2:St}(id:Nat)(hk:AK X B K F' S2 R)(he:evT X B.fn.ntmps id 100 k F S=(K,F',S2):=by rfl):DrvP X N ops ix bp em [] i F S Hs pend fun F1 S1=>AK X B k F1 S1 R :=
 AK.evj id 100 he hk
inductive SubR (σ:List Nat)(F:Frm):Frm→Prop where
 | nil:SubR σ F []
 | cons {k:Nat} {x y:AV} {G:Frm} (hx:lk F k=some x) (hr:RinC σ [] x y) (t:SubR σ F G):SubR σ F ((k,y)::G)
theorem SubR.get {σ:List Nat}{G:Frm}(h:SubR σ F G):∀ k y,lk G k=some y→∃ x,lk F k=some x∧Ren true σ [] x y:=by
 induction h with
 | nil=>intro k y hy;simp [lk] at hy
 | cons hx hr t ih =>
   intro k y hy
   rw [lk_cons] at hy
   split at hy
   ·rename_i hk;subst hk;cases hy;exact ⟨_,hx,hr.s⟩
   ·exact ih k y hy
instance {n m c:Nat}{x:List AV} [h:OKL n m x]:OKR n m (List.replicate c x):=⟨fun r hr=>by rw [List.eq_of_mem_replicate hr];exact h.ok⟩
theorem AK.perm {f:FuncId}{fn:Func}{K:List Item}{G:Frm}{bx bx2:List (List (List AV))}(σ:List Nat)(hk:AK X ⟨f,fn,0,0⟩ K G ⟨bx2,[]⟩ R)(hG:SubR σ F G)(hS:S=⟨bx,[]⟩)(hn:nodupN σ=true)(hl:σ.length=bx.length)(hlt:(σ.all fun i=>Nat.blt i bx.length)=true)(hal:((List.range bx.length).all fun i=>σ.contains i)=true)
 {bx3:List (List (List AV))}(hsb:(σ.map fun i=>bx.getD i [])=bx3:=by rfl) [hb:RinB σ [] bx3 bx2]:AK X ⟨f,fn,0,0⟩ K F S R:=by
 subst hS;subst hsb
 intro E w a b cs hI hF _ _ hbf
 have nt0:E.toks=[]:=by have:=hI.nt;simpa using this
 have hσ:=nodupN_eq hn
 have hσl:∀ i,i∈σ→i<bx.length:=fun i hi=>by have:=List.all_eq_true.1 hlt i hi;simpa [Nat.blt_eq] using this
 have hτl:∀ t,t∈([]:List Nat)→t<E.toks.length:=fun t h=>by cases h
 have hI2:=(hI.sub (Sc:=⟨bx2,[]⟩) hσ List.nodup_nil hτl hb.s hσl rfl).dfE E.df
 have hall:∀ i,i<bx.length→i∈σ:=by
  intro i hi
  have:=List.all_eq_true.1 hal i (List.mem_range.2 hi)
  exact List.contains_iff_mem.1 this
 have hown:∀ b,E.own b↔E.ownS σ [] b:=fun b=>by
  constructor
  ·rintro (⟨i,s,h⟩ | ⟨t,l,c,s,h⟩)
   ·have:=lt_of_get h
    rw [hI.nb] at this
    exact .inl ⟨i,s,hall i this,h⟩
   ·rw [nt0] at h;simp at h
  ·exact ownS_own
 have hfr:((E.sub σ []).dfs E.df).fr=E.fr:=by
  funext b o
  apply propext
  show (E.mt b o∧¬ E.ownS σ [] b)↔E.fr b o
  constructor
  ·rintro ⟨h,hn⟩
   rcases mt_own hI h with h' | h'
   ·exact absurd ((hown b).1 h') hn
   ·exact h'
  ·exact fun h=>⟨.inl h,fun ho=>(hI.frlt b o h).1 ((hown b).2 ho)⟩
 have ev:Evol E w ((E.sub σ []).dfs E.df) w 0 0 :=
  ⟨hfr,fun i hi=>absurd hi (Nat.not_lt_zero _),fun t ht=>absurd ht (Nat.not_lt_zero _),rfl,rfl,rfl,Nat.le_refl _,fun _ _ _=>rfl,fun _ _ _ _ h=>h,fun b o _ h=>sub_mt hτl h,fun b _ h=>ownS_own ((sub_own hτl).1 h),rfl,fun _ _ h=>h,fun t ht=>absurd ht (Nat.not_lt_zero _)⟩
 refine Fin.from (Steps.refl _ _) ev (hk _ w a b cs hI2 ⟨hF.size,hF.nod,fun k y hy=>?_⟩ (Nat.zero_le _) (Nat.zero_le _) hbf)
 obtain ⟨x,hx,hr⟩:=hG.get k y hy
 obtain ⟨v,hv,hrel⟩:=hF.rel k x hx
 exact ⟨v,hv,(hr.fwd (Eb:=(E.sub σ []).dfs E.df) (fun b o h=>sub_mt hτl h) (fun i j q h1 h2=>(sub_box (E:=E) (σ:=σ) (τ:=[])).2 ⟨i,h1,h2⟩) (fun i j k h1 h2=>by simp at h1) hrel)⟩
end
end Go.V
namespace Go.V
open Go Go.Proofs
theorem checkS_0 {n:Nd}(h:rightS n=true):checkS n=(0,[])∧progOkS n=true∧progOkS (plainM n)=true:=by
 unfold rightS at h
 have h0:(checkS n).1=0:=by simpa using h
 unfold checkS at h0 ⊢
 split at h0
 ·rename_i h1
  rw [if_pos h1]
  split at h0
  ·simp at h0
  ·rename_i h2
   rw [if_neg h2]
   split at h0
   ·simp at h0
   ·rename_i h3
    rw [if_neg h3]
    split at h0
    ·simp at h0
    ·rename_i h4
     split at h0
     ·simp at h0
     ·rename_i h5
      split at h0
      ·simp at h0
      ·rename_i h6
       split at h0
       ·rename_i h7
        simp [h1,h5,h6,h7]
       ·simp at h0
 ·simp at h0
theorem right_facts {n:Nd}(h:rightS n=true):FP n∧countN n≤500∧wN n≤4500∧n.kids≠[]∧n.kids.length≤4500:=by
 obtain ⟨fp,hc,_⟩:=progOkS_FP (checkS_0 h).2.1
 have hw:=wN_formed n (FP_formed fp)
 have hk:=kids_le_w n
 have hne:n.kids≠[]:=by cases fp;simp
 exact ⟨fp,hc,by omega,hne,by omega⟩
def ledI (f:Eg→Int)(p:Nat)(k:Nat):List Eg→List Nat
 | []=>[]
 | e::l=>if f e=p then k::ledI f p (k+1) l else ledI f p (k+1) l
def ledL (f:Eg→Int)(l:List Eg)(p:Nat):List Nat:=ledI f p 0 l
theorem ledI_snoc (f:Eg→Int)(p:Nat)(e:Eg):∀ (l:List Eg)(k:Nat),ledI f p k (l++[e])=ledI f p k l++(if f e=p then [k+l.length] else [])
 | [],k=>by simp [ledI]
 | x::l,k=>by
   simp only [List.cons_append,ledI,List.length_cons]
   rw [ledI_snoc f p e l (k+1),show k+1+l.length=k+(l.length+1) by omega]
   split<;>simp
theorem ledI_len (f:Eg→Int)(p:Nat):∀ (l:List Eg)(k:Nat),(ledI f p k l).length≤l.length
 | [],k=>by simp [ledI]
 | x::l,k=>by
   simp only [ledI,List.length_cons]
   have:=ledI_len f p l (k+1)
   split<;>simp<;>omega
def tkR (m:Nat)(f:Eg→Int)(l:List Eg)(pts:Nat):List (List AV):=(List.range pts).map fun p=>[AV.sl (irs (ledL f l p)) (.tok (m+p))]
def tkL (f:Eg→Int)(l:List Eg)(pts:Nat):List Nat:=(List.range pts).map fun p=>(ledL f l p).length
theorem tkR_len (m:Nat)(f:Eg→Int)(l:List Eg)(pts:Nat):(tkR m f l pts).length=pts:=by simp [tkR]
theorem tkL_len (f:Eg→Int)(l:List Eg)(pts:Nat):(tkL f l pts).length=pts:=by simp [tkL]
theorem tkR_get (m:Nat)(f:Eg→Int)(l:List Eg){pts j:Nat}(h:j<pts):(tkR m f l pts)[j]?=some [AV.sl (irs (ledL f l j)) (.tok (m+j))]:=by simp [tkR,h]
theorem tkL_get (f:Eg→Int)(l:List Eg){pts j:Nat}(h:j<pts):(tkL f l pts)[j]?=some (ledL f l j).length:=by simp [tkL,h]
theorem led_snoc (f:Eg→Int){l:List Eg}{i:Nat}{e:Eg}(h:l[i]?=some e)(p:Nat):ledL f (l.take (i+1)) p=ledL f (l.take i) p++(if f e=p then [i] else []):=by
 have hi:=lt_of_get h
 unfold ledL
 rw [List.take_add_one,h]
 simp only [Option.toList_some]
 rw [ledI_snoc,Nat.zero_add,List.length_take,Nat.min_eq_left (by omega)]
theorem tkR_set (m:Nat)(f:Eg→Int){l:List Eg}{i j pts:Nat}{e:Eg}(h:l[i]?=some e)(hj:f e=j):(tkR m f (l.take i) pts).set j [AV.sl (irs (ledL f (l.take i) j++[i])) (.tok (m+j))]=tkR m f (l.take (i+1)) pts:=by
 apply List.ext_getElem?
 intro k
 rw [List.getElem?_set,tkR_len]
 by_cases hk:j=k
 ·subst hk
  rw [if_pos rfl]
  by_cases hp:j<pts
  ·rw [if_pos hp,tkR_get _ _ _ hp,led_snoc f h,if_pos hj]
  ·rw [if_neg hp,List.getElem?_eq_none (by rw [tkR_len];omega)]
 ·rw [if_neg hk]
  by_cases hp:k<pts
  ·rw [tkR_get _ _ _ hp,tkR_get _ _ _ hp,led_snoc f h,if_neg (by rw [hj];omega),List.append_nil]
  ·rw [List.getElem?_eq_none (by rw [tkR_len];omega),List.getElem?_eq_none (by rw [tkR_len];omega)]
theorem tkL_set (f:Eg→Int){l:List Eg}{i j pts:Nat}{e:Eg}(h:l[i]?=some e)(hj:f e=j):(tkL f (l.take i) pts).set j ((ledL f (l.take i) j).length+1)=tkL f (l.take (i+1)) pts:=by
 apply List.ext_getElem?
 intro k
 rw [List.getElem?_set,tkL_len]
 by_cases hk:j=k
 ·subst hk
  rw [if_pos rfl]
  by_cases hp:j<pts
  ·rw [if_pos hp,tkL_get _ _ hp,led_snoc f h,if_pos hj];simp
  ·rw [if_neg hp,List.getElem?_eq_none (by rw [tkL_len];omega)]
 ·rw [if_neg hk]
  by_cases hp:k<pts
  ·rw [tkL_get _ _ hp,tkL_get _ _ hp,led_snoc f h,if_neg (by rw [hj];omega),List.append_nil]
  ·rw [List.getElem?_eq_none (by rw [tkL_len];omega),List.getElem?_eq_none (by rw [tkL_len];omega)]
theorem tkR_ok {n M m pts:Nat}(f:Eg→Int)(l:List Eg)(h:m+pts≤M):RowsOk n M (tkR m f l pts):=fun r hr x hx=>by
 obtain ⟨p,hp,rfl⟩:=List.mem_map.1 hr
 simp at hx;subst hx
 have:=List.mem_range.1 hp
 exact .sl _ _ ((inferInstance:OKR n M (irs (ledL f l p))).ok) (fun t ht=>by cases ht;omega)
def ledR (f:Eg→Int)(l:List Eg)(pts:Nat):List (List AV):=(List.range pts).map fun p=>[.sl (irs (ledL f l p)) .no]
def progC (n:Nd):List AV :=
 vi (gAll (planL n)).pts::.sl (erows (gEs (planL n))) .no::.sl (strR (declS n 31)) .no::.sl (strR (declS n 32)) .no::.sl (zrs (sizesT n)) .no ::
  .sl (ledR Eg.f (gEs (planL n)) (gAll (planL n)).pts) .no::.sl (ledR Eg.t (gEs (planL n)) (gAll (planL n)).pts) .no::ncells (plainM n)
theorem led_fz {S:St}{m b pts:Nat}(f:Eg→Int)(l:List Eg)(hS:S.boxes[b]?=some (tkR m f l pts))(hp:pts≤maxN):Fz S 0 0 (.bsl b pts) (.sl (ledR f l pts) .no):=by
 refine .bsl b pts (tkR m f l pts) (ledR f l pts) (Nat.zero_le _) hS (by rw [tkR_len];exact Nat.le_refl _) hp (by simp [ledR]) (fun i r r' h1 h2=>?_) (fun i j r r' x y h1 h2 h3 h4=>?_)
 ·have hi:=lt_of_get h1
  rw [tkR_len] at hi
  rw [tkR_get _ _ _ hi] at h1
  simp only [ledR,List.getElem?_map,List.getElem?_range hi,Option.map_some] at h2
  cases h1;cases h2;rfl
 ·have hi:=lt_of_get h1
  rw [tkR_len] at hi
  rw [tkR_get _ _ _ hi] at h1
  simp only [ledR,List.getElem?_map,List.getElem?_range hi,Option.map_some] at h2
  cases h1;cases h2
  cases j with
  | zero=>simp at h3 h4;subst h3;subst h4;exact Fz_sl (FzR.same ((inferInstance:OKR 0 0 (irs (ledL f l i))).ok))
  | succ j=>simp at h3
set_option maxHeartbeats 2000000 in
theorem q_newProgram (n:Nd)(hn:countN n≤1000000000)(hnum:PrI n) :
 Pure X 29 [nd n] (if rightS n=true then .tup [.cptr (progC n),vb true] else .tup [.val (.pointer none),vb false]):=by
 have hfl:flatTy X.P 111=some [0,1]:=by kernel_rfl
 refine Pure.run Tryz.func29 ?_
 refine AK.pc (q_check n hn hnum) ?_
 refine AK.op (Ndo.eqs (r:=!(((checkS n).1==0)&&(((checkS n).2==[])&&true))) rfl rfl rfl rfl rfl hfl rfl (.inr ⟨rfl,rfl⟩)) ?_
 by_cases hr:rightS n=true
 ·obtain ⟨hC,h1,h2⟩:=checkS_0 hr
  obtain ⟨fp,hc,hw,hne,hkl⟩:=right_facts hr
  rw [if_pos hr]
  have hpv:planV n=plainM n:=by unfold planV;rw [hC];rfl
  rw [hC,hpv]
  refine AK.no ?_
  obtain ⟨ds,hpl,_,hps,hwl⟩:=FP_plan fp
  have hpw:=(plain_w n).1
  have hkp:=kids_le_w (plainM n)
  have hgr:Pure X 59 [nd (plainM n)] (.agg [vi (gAll (planL n)).pts,.sl (erows (gEs (planL n))) .no]):=j_graphOf (plainM n) (by rw [hpl];simp) hps (show wL (planL n)≤_ by omega) (by omega)
  refine AK.db 1024 ?_
  refine Drv.pg hgr ?_
  refine Drv.pg (q_namesOf n 31 hne (by omega)) ?_
  refine Drv.pg (q_namesOf n 32 hne (by omega)) ?_
  refine Drv.pg (q_sizesOf n hne (by omega)) ?_
  refine Drv.w (Ndo.mem rfl rfl rfl) ?_
  refine Drv.e ?_
  refine Drv.z ?_
  have hps2:=PSL_le hps nd0 ⟨1,0,[],[],[],0⟩ (by decide)
  have hpts:(gAll (planL n)).pts≤2000000∧(gEs (planL n)).length≤2000000∧∀ e,e∈gEs (planL n)→(0≤e.f∧e.f<(gAll (planL n)).pts)∧0≤e.t∧e.t<(gAll (planL n)).pts:=by
   have hl:=leaf_le 6 nd0 hps2.pt
   have hA:=hps2.trans hl (Nat.le_refl _)
   obtain ⟨es,e1,e2,e3⟩:=hA.es
   have hpp:=hA.pts
   simp only [bG] at e2 hpp
   have hes:(gAll (planL n)).es=es:=by unfold gAll;rw [e1];rfl
   have hpt:(gAll (planL n)).pt<(gAll (planL n)).pts:=hA.pt
   refine ⟨by show _≤_;unfold gAll;have:(1:Nat)=(⟨1,0,[],[],[],0⟩:Gr).pts:=rfl;omega,by unfold gEs;rw [hes,List.length_map];omega,fun e he=>?_⟩
   unfold gEs at he
   rw [hes] at he
   obtain ⟨e0,h0,rfl⟩:=List.mem_map.1 he
   obtain ⟨q1,q2⟩:=e3 e0 h0
   have q1':0≤e0.f∧e0.f<(gAll (planL n)).pts:=q1
   have q2':e0.t=-1∨(0≤e0.t∧e0.t<(gAll (planL n)).pts):=q2
   unfold toExit
   split
   ·exact ⟨q1',by simp;omega⟩
   ·exact ⟨q1',by omega⟩
  obtain ⟨hp1,hp2,hp3⟩:=hpts
  unfold progC
  generalize gEs (planL n)=es at *
  generalize (gAll (planL n)).pts=pts at *
  let prow (x y:AV):List AV:=vi pts::.sl (erows es) .no::.sl (strR (declS n 31)) .no::.sl (strR (declS n 32)) .no::.sl (zrs (sizesT n)) .no::x::y::ncells (plainM n)
  let bxs (x y:AV):List (List (List AV)):=[[ncells n],[ncells (plainM n)],[[vi 0,str []]],[prow x y],List.replicate pts [.sl [] .tight],List.replicate pts [.sl [] .tight]]
  have L6:AK X ⟨29,Tryz.f29,0,0⟩ (locG false 6 Tryz.f29) [(6,.ptr 3 0 0)] ⟨bxs (.bsl 4 pts) (.bsl 5 pts),[]⟩
   (fun e S=>e=.ret (.tup [.cptr (vi pts::.sl (erows es) .no::.sl (strR (declS n 31)) .no::.sl (strR (declS n 32)) .no::.sl (zrs (sizesT n)) .no::.sl (ledR Eg.f es pts) .no::.sl (ledR Eg.t es pts) .no::ncells (plainM n)),vb true])∧S=⟨[],[]⟩):=by
   refine AK.at_ ?_
   refine AK.mintAll (bx:=[[ncells n],[ncells (plainM n)],[[vi 0,str []]],[prow (.bsl 4 pts) (.bsl 5 pts)],tkR 0 Eg.f [] pts,List.replicate pts [.sl [] .tight]]) (tk:=List.replicate pts 0) 4 pts 0 rfl rfl rfl rfl ?_
   refine AK.mintAll (bx:=[[ncells n],[ncells (plainM n)],[[vi 0,str []]],[prow (.bsl 4 pts) (.bsl 5 pts)],tkR 0 Eg.f [] pts,tkR pts Eg.t [] pts]) (tk:=List.replicate pts 0++List.replicate pts 0) 5 pts pts rfl (by simp) rfl rfl ?_
   refine AK.sto ⟨[[ncells n],[ncells (plainM n)],[[vi 0,str []]],[prow (.bsl 4 pts) (.bsl 5 pts)],tkR 0 Eg.f (es.take 0) pts,tkR pts Eg.t (es.take 0) pts],tkL Eg.f (es.take 0) pts++tkL Eg.t (es.take 0) pts⟩ ?_ (by
    have:∀ f:Eg→Int,tkL f (es.take 0) pts=List.replicate pts 0:=fun f=>List.eq_replicate_iff.2 ⟨tkL_len f _ pts,fun b hb=>by obtain ⟨p,_,rfl⟩:=List.mem_map.1 hb;rfl⟩
    rw [this,this];rfl)
   refine AK.ev 100 rfl ?_
   refine AK.while_ (ι:=Nat) 6 (pts+pts) (fun i=>i≤es.length) (fun i=>[(52,vi i),(51,vi es.length),(50,.sl (erows es) .no),(6,.ptr 3 0 0)])
    (fun i=>⟨[[ncells n],[ncells (plainM n)],[[vi 0,str []]],[prow (.bsl 4 pts) (.bsl 5 pts)],tkR 0 Eg.f (es.take i) pts,tkR pts Eg.t (es.take i) pts],tkL Eg.f (es.take i) pts++tkL Eg.t (es.take i) pts⟩) (fun i=>es.length-i) ?_ 0
    (Nat.zero_le _) ⟨rfl,by rw [← erows_len es];rfl,rfl,rfl,trivial⟩ ?_ rfl (by simp) rfl ?_ (fun _=>inferInstance) (fun i=>⟨?_⟩)
   ·intro i hi IH
    refine AK.ev 100 rfl ?_
    refine AK.if_ (fun h=>?_) (fun h=>?_)
    ·have hlt:i<es.length:=by have:=of_decide_eq_true h;omega
     obtain ⟨⟨ef,et,ek,ey,en⟩,he⟩:=lget_of_lt es hlt
     obtain ⟨⟨q1,q2⟩,q3,q4⟩:=hp3 _ (List.mem_of_getElem? he)
     simp only at q1 q2 q3 q4
     obtain ⟨j,rfl⟩:=Int.eq_ofNat_of_zero_le q1
     obtain ⟨j',rfl⟩:=Int.eq_ofNat_of_zero_le q3
     have hj:j<pts:=by omega
     have hj':j'<pts:=by omega
     refine AK.ix i (by omega) (erows_get he) ?_
     refine AK.db 327680 ?_
     refine Drv.lo (Ndo.atB (j:=j) rfl rfl rfl rfl rfl rfl rfl rfl (by simpa [Nat.blt_eq] using hj) rfl (tkR_get 0 Eg.f _ hj) rfl) ?_
     refine Drv.lo (Ndo.loadB rfl (tkR_get 0 Eg.f _ hj) rfl rfl rfl rfl rfl rfl rfl) ?_
     refine Drv.go ?_
     have hlf:=ledI_len Eg.f j (es.take i) 0
     have hlt':=ledI_len Eg.t j' (es.take i) 0
     have htk:(es.take i).length=i:=by simp;omega
     have hlF:(tkL Eg.f (es.take i) pts).length=pts:=tkL_len _ _ _
     have hkF:(tkL Eg.f (es.take i) pts++tkL Eg.t (es.take i) pts)[0+j]?=some (ledL Eg.f (es.take i) j).length:=by
      rw [Nat.zero_add,List.getElem?_append_left (by omega)];exact tkL_get _ _ hj
     refine Drv.wl (S':=⟨[[ncells n],[ncells (plainM n)],[[vi 0,str []]],[prow (.bsl 4 pts) (.bsl 5 pts)],tkR 0 Eg.f (es.take i) pts,tkR pts Eg.t (es.take i) pts,[erow ⟨j,j',ek,ey,en⟩]],tkL Eg.f (es.take (i+1)) pts++tkL Eg.t (es.take i) pts⟩)
      (Ndo.append (res:=irs (ledL Eg.f (es.take i) j++[i])) rfl rfl rfl rfl rfl rfl rfl rfl rfl rfl rfl rfl rfl hkF (irs_len _) (irs_al _) rfl rfl rfl ?_ (irs_snoc _ i) ?_) ?_ ?_
     ·rw [irs_len];unfold ledL;show _+1≤_;omega
     ·show (tkL Eg.f (es.take i) pts++tkL Eg.t (es.take i) pts).set (0+j) ((irs (ledL Eg.f (es.take i) j)).length+1)=_
      rw [Nat.zero_add,irs_len,List.set_append_left _ _ (by omega),tkL_set Eg.f he rfl]
     ·refine strip_eq (Ndo.loadB rfl (tkR_get 0 Eg.f _ hj) rfl rfl rfl rfl rfl rfl rfl) (strip_eq (Ndo.atB (j:=j) rfl rfl rfl rfl rfl rfl rfl rfl (by simpa [Nat.blt_eq] using hj) rfl (tkR_get 0 Eg.f _ hj) rfl) ?_)
      exact strip_eq (Ndo.ev rfl rfl rfl) (strip_eq (Ndo.ev rfl rfl rfl) (strip_eq (Ndo.ev rfl rfl rfl) (strip_eq (Ndo.ev rfl rfl rfl) allN)))
     refine Drv.look (strip_eq (Ndo.atB (j:=j) rfl rfl rfl rfl rfl rfl rfl rfl (by simpa [Nat.blt_eq] using hj) rfl (tkR_get 0 Eg.f _ hj) rfl) (strip_eq (Ndo.atB (j:=j) rfl rfl rfl rfl rfl rfl rfl rfl (by simpa [Nat.blt_eq] using hj) rfl (tkR_get 0 Eg.f _ hj) rfl) allN)) rfl ?_
     refine Drv.w (Ndo.store rfl rfl rfl rfl rfl rfl (storeA_row rfl (tkR_get 0 Eg.f _ hj) rfl rfl rfl)) ?_
     refine Drv.z ?_
     refine AK.sto ⟨[[ncells n],[ncells (plainM n)],[[vi 0,str []]],[prow (.bsl 4 pts) (.bsl 5 pts)],tkR 0 Eg.f (es.take (i+1)) pts,tkR pts Eg.t (es.take i) pts,[erow ⟨j,j',ek,ey,en⟩]],tkL Eg.f (es.take (i+1)) pts++tkL Eg.t (es.take i) pts⟩ ?_ (by
      rw [← tkR_set 0 Eg.f he rfl];rfl)
     refine AK.db 327680 ?_
     refine Drv.lo (Ndo.atB (j:=j') rfl rfl rfl rfl rfl rfl rfl rfl (by simpa [Nat.blt_eq] using hj') rfl (tkR_get pts Eg.t _ hj') rfl) ?_
     refine Drv.lo (Ndo.loadB rfl (tkR_get pts Eg.t _ hj') rfl rfl rfl rfl rfl rfl rfl) ?_
     refine Drv.go ?_
     have hkT:(tkL Eg.f (es.take (i+1)) pts++tkL Eg.t (es.take i) pts)[pts+j']?=some (ledL Eg.t (es.take i) j').length:=by
      rw [List.getElem?_append_right (by rw [tkL_len];omega),tkL_len,Nat.add_sub_cancel_left];exact tkL_get _ _ hj'
     refine Drv.wl (S':=⟨[[ncells n],[ncells (plainM n)],[[vi 0,str []]],[prow (.bsl 4 pts) (.bsl 5 pts)],tkR 0 Eg.f (es.take (i+1)) pts,tkR pts Eg.t (es.take i) pts,[erow ⟨j,j',ek,ey,en⟩]],tkL Eg.f (es.take (i+1)) pts++tkL Eg.t (es.take (i+1)) pts⟩)
      (Ndo.append (res:=irs (ledL Eg.t (es.take i) j'++[i])) rfl rfl rfl rfl rfl rfl rfl rfl rfl rfl rfl rfl rfl hkT (irs_len _) (irs_al _) rfl rfl rfl ?_ (irs_snoc _ i) ?_) ?_ ?_
     ·rw [irs_len];unfold ledL;show _+1≤_;omega
     ·show (tkL Eg.f (es.take (i+1)) pts++tkL Eg.t (es.take i) pts).set (pts+j') ((irs (ledL Eg.t (es.take i) j')).length+1)=_
      rw [irs_len,List.set_append_right _ _ (by rw [tkL_len];omega),tkL_len,Nat.add_sub_cancel_left,tkL_set Eg.t he rfl]
     ·refine strip_eq (Ndo.loadB rfl (tkR_get pts Eg.t _ hj') rfl rfl rfl rfl rfl rfl rfl) (strip_eq (Ndo.atB (j:=j') rfl rfl rfl rfl rfl rfl rfl rfl (by simpa [Nat.blt_eq] using hj') rfl (tkR_get pts Eg.t _ hj') rfl) ?_)
      exact strip_eq (Ndo.ev rfl rfl rfl) (strip_eq (Ndo.ev rfl rfl rfl) (strip_eq (Ndo.ev rfl rfl rfl) (strip_eq (Ndo.ev rfl rfl rfl) allN)))
     refine Drv.look (strip_eq (Ndo.atB (j:=j') rfl rfl rfl rfl rfl rfl rfl rfl (by simpa [Nat.blt_eq] using hj') rfl (tkR_get pts Eg.t _ hj') rfl) (strip_eq (Ndo.atB (j:=j') rfl rfl rfl rfl rfl rfl rfl rfl (by simpa [Nat.blt_eq] using hj') rfl (tkR_get pts Eg.t _ hj') rfl) allN)) rfl ?_
     refine Drv.w (Ndo.store rfl rfl rfl rfl rfl rfl (storeA_row rfl (tkR_get pts Eg.t _ hj') rfl rfl rfl)) ?_
     refine Drv.z ?_
     refine AK.sto ⟨[[ncells n],[ncells (plainM n)],[[vi 0,str []]],[prow (.bsl 4 pts) (.bsl 5 pts)],tkR 0 Eg.f (es.take (i+1)) pts,tkR pts Eg.t (es.take (i+1)) pts,[erow ⟨j,j',ek,ey,en⟩]],tkL Eg.f (es.take (i+1)) pts++tkL Eg.t (es.take (i+1)) pts⟩ ?_ (by
      rw [← tkR_set pts Eg.t he rfl];rfl)
     refine IH (i+1) hlt (by omega) _ _ ⟨vint ((wrap_small (by omega) (by omega)).trans (by omega)),rfl,rfl,rfl,trivial⟩ ?_ rfl ?_
     ·exact congrArg (St.mk _) (List.take_of_length_le (by simp [tkL_len]))
     ·show Nat.ble (pts+pts) (tkL Eg.f (es.take (i+1)) pts++tkL Eg.t (es.take (i+1)) pts).length=true
      simp [tkL_len]
    ·have:i=es.length:=by have:=of_decide_eq_false h;omega
     subst this
     rw [List.take_length]
     have f1:=led_fz (S:=⟨[[ncells n],[ncells (plainM n)],[[vi 0,str []]],[prow (.bsl 4 pts) (.bsl 5 pts)],tkR 0 Eg.f es pts,tkR pts Eg.t es pts],tkL Eg.f es pts++tkL Eg.t es pts⟩) (b:=4) (m:=0) (pts:=pts) Eg.f es rfl (by unfold maxN;omega)
     have f2:=led_fz (S:=⟨[[ncells n],[ncells (plainM n)],[[vi 0,str []]],[prow (.bsl 4 pts) (.bsl 5 pts)],tkR 0 Eg.f es pts,tkR pts Eg.t es pts],tkL Eg.f es pts++tkL Eg.t es pts⟩) (b:=5) (m:=pts) (pts:=pts) Eg.t es rfl (by unfold maxN;omega)
     haveI i1:FzC ⟨[[ncells n],[ncells (plainM n)],[[vi 0,str []]],[prow (.bsl 4 pts) (.bsl 5 pts)],tkR 0 Eg.f es pts,tkR pts Eg.t es pts],tkL Eg.f es pts++tkL Eg.t es pts⟩ 0 0 (.bsl 4 pts) (.sl (ledR Eg.f es pts) .no):=⟨f1⟩
     haveI i2:FzC ⟨[[ncells n],[ncells (plainM n)],[[vi 0,str []]],[prow (.bsl 4 pts) (.bsl 5 pts)],tkR 0 Eg.f es pts,tkR pts Eg.t es pts],tkL Eg.f es pts++tkL Eg.t es pts⟩ 0 0 (.bsl 5 pts) (.sl (ledR Eg.t es pts) .no):=⟨f2⟩
     exact AK.rz Tryz.func29 rfl
   ·exact congrArg (St.mk _) (List.take_of_length_le (by simp [tkL_len]))
   ·show Nat.ble (pts+pts) (tkL Eg.f (es.take 0) pts++tkL Eg.t (es.take 0) pts).length=true
    simp [tkL_len]
   ·intro rows hrows
    simp only [List.mem_cons,List.not_mem_nil,or_false] at hrows
    rcases hrows with rfl | rfl | rfl | rfl | rfl | rfl
    ·exact (inferInstance:OKR 6 (pts+pts) [ncells n]).ok
    ·exact (inferInstance:OKR 6 (pts+pts) [ncells (plainM n)]).ok
    ·exact (inferInstance:OKR 6 (pts+pts) [[vi 0,str []]]).ok
    ·exact (inferInstance:OKR 6 (pts+pts) [vi pts::.sl (erows es) .no::.sl (strR (declS n 31)) .no::.sl (strR (declS n 32)) .no::.sl (zrs (sizesT n)) .no::.bsl 4 pts::.bsl 5 pts::ncells (plainM n)]).ok
    ·exact tkR_ok Eg.f _ (by omega)
    ·exact tkR_ok Eg.t _ (by omega)
  refine AK.sto ⟨[[ncells n],[ncells (plainM n)],[[vi 0,str []]],[prow (.sl [] .tight) (.sl [] .tight)]],[]⟩ ?_
  refine AK.as_ 6 (.ptr 3 0 0) ?_
  refine AK.ways fun l hord=>?_
  rcases AB_or (show 7≠13 by decide) l (fun _=>false) with h1 | h1
  ·rcases AB_or (show 13≠16 by decide) l (fun _=>false) with h2 | h2
   ·refine Way.mk [0,1,2,3,4,5,6,8,9,10,11,12,7,13,14,15,16,17,18,19] [(7,13),(13,16)] 598144 ?_ rfl ?_
    ·intro ab hab
     simp only [List.mem_cons,List.not_mem_nil,or_false] at hab
     rcases hab with rfl | rfl
     ·exact h1
     ·exact h2
    refine DrvP.go 12 ?_
    refine DrvP.w (Ndo.mkS (n:=pts) (b:=4) (by omega) rfl rfl rfl rfl rfl rfl rfl rfl rfl rfl) ?_ ?_
    ·exact strip_eq (Ndo.ev rfl rfl rfl) (strip_eq (Ndo.ev rfl rfl rfl) allN)
    refine DrvP.w0 (Ndo.mkS (n:=pts) (b:=5) (by omega) rfl rfl rfl rfl rfl rfl rfl rfl rfl rfl) ?_
    refine DrvP.e ?_
    refine DrvP.e ?_
    refine DrvP.w0 (Ndo.store rfl rfl rfl rfl rfl rfl rfl) ?_
    refine DrvP.e ?_
    refine DrvP.e ?_
    refine DrvP.w0 (Ndo.store rfl rfl rfl rfl rfl rfl rfl) ?_
    refine DrvP.zj 6 ?_
    refine AK.sto ⟨bxs (.bsl 4 pts) (.bsl 5 pts),[]⟩ ?_
    refine AK.sub (G:=[(6,.ptr 3 0 0)]) ⟨rfl,trivial⟩ ?_
    exact L6
   ·refine Way.mk [0,1,2,3,4,5,6,8,9,10,11,12,7,14,15,16,13,17,18,19] [(7,13),(16,13)] 598144 ?_ rfl ?_
    ·intro ab hab
     simp only [List.mem_cons,List.not_mem_nil,or_false] at hab
     rcases hab with rfl | rfl
     ·exact h1
     ·exact h2
    refine DrvP.go 12 ?_
    refine DrvP.w (Ndo.mkS (n:=pts) (b:=4) (by omega) rfl rfl rfl rfl rfl rfl rfl rfl rfl rfl) ?_ ?_
    ·exact strip_eq (Ndo.ev rfl rfl rfl) (strip_eq (Ndo.ev rfl rfl rfl) allN)
    refine DrvP.e ?_
    refine DrvP.e ?_
    refine DrvP.w0 (Ndo.store rfl rfl rfl rfl rfl rfl rfl) ?_
    refine DrvP.w0 (Ndo.mkS (n:=pts) (b:=5) (by omega) rfl rfl rfl rfl rfl rfl rfl rfl rfl rfl) ?_
    refine DrvP.e ?_
    refine DrvP.e ?_
    refine DrvP.w0 (Ndo.store rfl rfl rfl rfl rfl rfl rfl) ?_
    refine DrvP.zj 6 ?_
    refine AK.sto ⟨bxs (.bsl 4 pts) (.bsl 5 pts),[]⟩ ?_
    refine AK.sub (G:=[(6,.ptr 3 0 0)]) ⟨rfl,trivial⟩ ?_
    exact L6
  ·have h2:AB 13 16 l (fun _=>false):=AB_of (b:=7) (by decide) (by kernel_rfl) l _ hord h1 (fun h=>by cases h)
   refine Way.mk [0,1,2,3,4,5,6,8,9,10,11,12,13,7,14,15,16,17,18,19] [(13,7),(13,16)] 598144 ?_ rfl ?_
   ·intro ab hab
    simp only [List.mem_cons,List.not_mem_nil,or_false] at hab
    rcases hab with rfl | rfl
    ·exact h1
    ·exact h2
   refine DrvP.go 12 ?_
   refine DrvP.w (Ndo.mkS (n:=pts) (b:=4) (by omega) rfl rfl rfl rfl rfl rfl rfl rfl rfl rfl) ?_ ?_
   ·exact strip_eq (Ndo.ev rfl rfl rfl) (strip_eq (Ndo.ev rfl rfl rfl) allN)
   refine DrvP.w0 (Ndo.mkS (n:=pts) (b:=5) (by omega) rfl rfl rfl rfl rfl rfl rfl rfl rfl rfl) ?_
   refine DrvP.e ?_
   refine DrvP.e ?_
   refine DrvP.w0 (Ndo.store rfl rfl rfl rfl rfl rfl rfl) ?_
   refine DrvP.e ?_
   refine DrvP.e ?_
   refine DrvP.w0 (Ndo.store rfl rfl rfl rfl rfl rfl rfl) ?_
   refine DrvP.zj 6 ?_
   refine AK.sto ⟨bxs (.bsl 5 pts) (.bsl 4 pts),[]⟩ ?_
   refine AK.perm (G:=[(6,.ptr 3 0 0)]) (bx3:=[[ncells n],[ncells (plainM n)],[[vi 0,str []]],[vi pts::.sl (erows es) .no::.sl (strR (declS n 31)) .no::.sl (strR (declS n 32)) .no::.sl (zrs (sizesT n)) .no::.bsl 5 pts::.bsl 4 pts::ncells (plainM n)],List.replicate pts [.sl [] .tight],List.replicate pts [.sl [] .tight]]) (bx2:=[[ncells n],[ncells (plainM n)],[[vi 0,str []]],[vi pts::.sl (erows es) .no::.sl (strR (declS n 31)) .no::.sl (strR (declS n 32)) .no::.sl (zrs (sizesT n)) .no::.bsl 4 pts::.bsl 5 pts::ncells (plainM n)],List.replicate pts [.sl [] .tight],List.replicate pts [.sl [] .tight]]) [0,1,2,3,5,4] ?_ (.cons rfl inferInstance .nil) rfl rfl rfl rfl rfl
   exact L6
 ·rw [if_neg hr]
  have h0:((checkS n).1==0)=false:=by unfold rightS at hr;simpa using hr
  refine AK.yes ?_ (ht:=by rw [h0];rfl)
  exact AK.rz Tryz.func29 rfl
instance {n m:Nat}{f:Eg→Int}{l:List Eg}{pts:Nat}:OKR n m (ledR f l pts):=⟨fun r hr x hx=>by
 obtain ⟨p,_,rfl⟩:=List.mem_map.1 hr
 simp at hx;subst hx
 exact (inferInstance:OK n m (.sl (irs (ledL f l p)) .no)).ok⟩
instance {n m:Nat}{x:Nd}:OKL n m (progC x):=⟨(inferInstance:OKL n m (vi (gAll (planL x)).pts::.sl (erows (gEs (planL x))) .no::.sl (strR (declS x 31)) .no::.sl (strR (declS x 32)) .no::.sl (zrs (sizesT x)) .no ::
 .sl (ledR Eg.f (gEs (planL x)) (gAll (planL x)).pts) .no::.sl (ledR Eg.t (gEs (planL x)) (gAll (planL x)).pts) .no::ncells (plainM x))).ok⟩
theorem declS_le (n:Nd)(k:Int):(declS n k).length≤n.kids.length:=by rw [declS_K,List.length_map];exact declK_le n k
section
variable (n:Nd)(hl:n.kids.length≤100000)
theorem q_variable (s:List UInt8)(hl:n.kids.length≤100000):Pure X 74 [.cptr (progC n),str s] (vi (idxS 0 (declS n 31) s)):=by
 have:=declS_le n 31
 refine Pure.run Tryz.func74 ?_
 refine AK.pc (q_index (declS n 31) s (by omega)) ?_
 exact AK.rz Tryz.func74 rfl
theorem q_array (s:List UInt8)(hl:n.kids.length≤100000):Pure X 75 [.cptr (progC n),str s] (vi (idxS 0 (declS n 32) s)):=by
 have:=declS_le n 32
 refine Pure.run Tryz.func75 ?_
 refine AK.pc (q_index (declS n 32) s (by omega)) ?_
 exact AK.rz Tryz.func75 rfl
end
def takeC (n:Nd):List AV:=[.sl (strR (declS n 31)) .no,.sl (strR (declS n 32)) .no,.sl (zrs (sizesT n)) .no,vi (gAll (planL n)).pts,.sl (erows (gEs (planL n))) .no]
instance {n m:Nat}{x:Nd}:OKL n m (takeC x):=⟨(inferInstance:OKL n m [.sl (strR (declS x 31)) .no,.sl (strR (declS x 32)) .no,.sl (zrs (sizesT x)) .no,vi (gAll (planL x)).pts,.sl (erows (gEs (planL x))) .no]).ok⟩
theorem p_take (n:Nd)(hr:rightS n=true):Pure X 23 [nd n] (.agg (takeC n)):=by
 obtain ⟨fp,_,hw,_,_⟩:=right_facts hr
 refine Pure.run Tryz.func23 ?_
 refine AK.db 512 ?_
 refine Drv.pg (p_declared n 31 (by omega)) ?_
 refine Drv.pg (p_declared n 32 (by omega)) ?_
 refine Drv.pg (p_sizes n (by omega)) ?_
 refine Drv.pg (g_graph n fp (by omega)) ?_
 refine Drv.w (Ndo.store rfl rfl rfl rfl rfl rfl rfl) ?_
 refine Drv.z ?_
 exact AK.rz Tryz.func23 rfl
theorem kindS_is (s:List UInt8):(kindS s==1)=nameS s:=by
 cases h:nameS s with
 | true =>
   have hk:has keys s=false:=by
    cases s with
    | nil=>simp [nameS] at h
    | cons c l =>
      simp only [nameS,Bool.and_eq_true,Bool.not_eq_true'] at h
      exact h.1.2
   unfold kindS
   rw [if_neg (by simp [hk]),if_pos h];rfl
 | false =>
   cases h2:(kindS s==1) with
   | false=>rfl
   | true=>rw [kindS_name (by simpa using h2)] at h;cases h
def onlyS (nm num:Bool)(len:Int)(n:Nd):Bool:=((nm&&(kindS n.name==1))||(!nm&&(n.name==[])))&&((num||(n.num==0))&&((n.kids.length:Int)==len))
def headI (n:Nd):Bool :=
 if n.kind=1 then onlyS false true 0 n&&between n.num 0 1000000
 else if n.kind=2∨n.kind=4 then onlyS true false 0 n
 else if n.kind=3 then onlyS true false 1 n
 else if n.kind=5 then onlyS false false 1 n
 else if n.kind=6∨n.kind=7∨n.kind=8 then onlyS false false 2 n
 else false
mutual
def exprI:Nd→Bool
 | .mk k s m ks=>headI (.mk k s m ks)&&exprIL ks
def exprIL:List Nd→Bool
 | []=>true
 | x::l=>exprI x&&exprIL l
end
theorem exprI_eq (n:Nd):exprI n=(headI n&&exprIL n.kids):=by cases n;rw [exprI];rfl
theorem exprIL_any:∀ l:List Nd,(!(l.any fun x=>!exprI x))=exprIL l
 | []=>rfl
 | x::l=>by
   simp only [exprIL,List.any_cons]
   rw [← exprIL_any l]
   cases exprI x<;>simp
theorem name_ne' {s:List UInt8}:((true==!(s==[]))&&nameS s)=nameS s:=by
 cases s with
 | nil=>rfl
 | cons c l=>simp
theorem headI_is (n:Nd)(h:isExprK n.kind=true):headI n=headS n.kind n.name n.num n.kids.length:=by
 obtain ⟨k,s,m,ks⟩:=n
 simp only [kind_mk,isExprK,between_iff] at h
 simp only [kind_mk,name_mk,num_mk,kids_mk]
 have hn:=@name_ne' s
 have hk:=kindS_is s
 have:k=1∨k=2∨k=3∨k=4∨k=5∨k=6∨k=7∨k=8:=by omega
 rcases this with rfl | rfl | rfl | rfl | rfl | rfl | rfl | rfl
 all_goals
  rw [Bool.eq_iff_iff]
  simp only [headI,onlyS,headS,shapeS,numOkS,kind_mk,name_mk,num_mk,kids_mk,hk]
  simp [between]
 all_goals first
  | (constructor
     ·rintro ⟨h1,h2,h3⟩
      have:=name_ne h1
      simp_all
     ·rintro h1
      simp_all)
  | (intro _ _;exact And.comm)
  | (constructor<;>intro h1<;>simp_all)
theorem headI_no (n:Nd)(h:isExprK n.kind=false):headI n=false:=by
 have h':¬ (1≤n.kind∧n.kind≤8):=by
  intro hh
  rw [show isExprK n.kind=true from between_iff.2 hh] at h;cases h
 unfold headI
 rw [if_neg (by omega),if_neg (by omega),if_neg (by omega),if_neg (by omega),if_neg (by omega)]
theorem exprI_is:(∀ n:Nd,exprI n=(isExprK n.kind&&formedN n))∧∀ l:List Nd,∀ (p:Nd)(i:Nat),p.kind<24→formedL p i l=exprIL l:=by
 refine Nd.ind2 (fun k s m ks ih=>?_) (fun p i hp=>rfl) (fun x l hx hl p i hp=>?_)
 ·rw [exprI_eq,formedN_eq]
  cases hk:isExprK (Nd.mk k s m ks).kind with
  | false=>rw [headI_no _ hk];rfl
  | true =>
    rw [headI_is _ hk,Bool.true_and]
    have h2:1≤(Nd.mk k s m ks).kind∧(Nd.mk k s m ks).kind≤8:=between_iff.1 hk
    show _=(_&&formedL (Nd.mk k s m ks) 0 ks)
    rw [ih _ _ (by omega)];rfl
 ·simp only [formedL,exprIL]
  rw [hl p (i+1) hp,kidS_e hp,hx]
  cases isExprK x.kind<;>simp
theorem exprOk_is (n:Nd):(!largeN n&&exprI n)=exprOkS n:=by
 rw [exprI_is.1,exprOkS,fitsS,largeN]
 rw [Bool.eq_iff_iff]
 simp only [Bool.and_eq_true,Bool.not_eq_true',decide_eq_true_eq,decide_eq_false_iff_not]
 constructor
 ·rintro ⟨h1,h2,h3⟩;exact ⟨h2,⟨by omega,by omega⟩,h3⟩
 ·rintro ⟨h2,⟨h1,h3⟩,h4⟩;exact ⟨by omega,h2,h4⟩
def knowH (vars arrs:List (List UInt8))(n:Nd):Bool :=
 if wantsI n.kind=31 then decide (idxS 0 vars n.name≥0) else if wantsI n.kind=32 then decide (idxS 0 arrs n.name≥0) else true
mutual
def knowN (vars arrs:List (List UInt8)):Nd→Bool
 | .mk k s m ks=>knowH vars arrs (.mk k s m ks)&&knowL vars arrs ks
def knowL (vars arrs:List (List UInt8)):List Nd→Bool
 | []=>true
 | x::l=>knowN vars arrs x&&knowL vars arrs l
end
theorem knowN_eq (vars arrs:List (List UInt8))(n:Nd):knowN vars arrs n=(knowH vars arrs n&&knowL vars arrs n.kids):=by cases n;rw [knowN];rfl
theorem knowL_any (vars arrs:List (List UInt8)):∀ l:List Nd,(!(l.any fun x=>!knowN vars arrs x))=knowL vars arrs l
 | []=>rfl
 | x::l=>by
   simp only [knowL,List.any_cons]
   rw [← knowL_any vars arrs l]
   cases knowN vars arrs x<;>simp
theorem knowH_8 (vars arrs:List (List UInt8))(n:Nd):knowH vars arrs n=!wrongAt vars arrs 8 n.kind n.name:=by
 unfold knowH wrongAt
 rcases wants_both n.kind with ⟨h1,h2⟩ | ⟨h1,h2⟩ | ⟨h1,h2⟩<;>simp [h1,h2]
theorem know_7 (vars arrs:List (List UInt8))(n:Nd)(h:knowH vars arrs n=true):wrongAt vars arrs 7 n.kind n.name=false:=by
 unfold knowH at h
 unfold wrongAt
 rcases wants_both n.kind with ⟨h1,h2⟩ | ⟨h1,h2⟩ | ⟨h1,h2⟩<;>simp [h1] at h<;>simp [h2,h]
theorem know_wrong (vars arrs:List (List UInt8)):(∀ n:Nd,knowN vars arrs n=(!(wrongN vars arrs 7 n).2&&!(wrongN vars arrs 8 n).2))∧∀ l:List Nd,knowL vars arrs l=(!(wrongL vars arrs 7 l).2&&!(wrongL vars arrs 8 l).2):=by
 refine Nd.ind2 (fun k s m ks ih=>?_) rfl (fun x l hx hl=>?_)
 ·rw [knowN_eq,wrongN_eq,wrongN_eq]
  cases h:knowH vars arrs (.mk k s m ks) with
  | true =>
    have h7:=know_7 _ _ _ h
    have h8:=knowH_8 vars arrs (.mk k s m ks)
    rw [h] at h8
    have h8':wrongAt vars arrs 8 (Nd.mk k s m ks).kind (Nd.mk k s m ks).name=false:=by simpa using h8.symm
    rw [if_neg (by rw [h7];simp),if_neg (by rw [h8'];simp)]
    simpa using ih
  | false =>
    have h8:=knowH_8 vars arrs (.mk k s m ks)
    rw [h] at h8
    have h8':wrongAt vars arrs 8 (Nd.mk k s m ks).kind (Nd.mk k s m ks).name=true:=by simpa using h8.symm
    rw [if_pos h8']
    simp
 ·simp only [knowL,wrongL]
  rw [hx,hl]
  cases h7:(wrongN vars arrs 7 x).2<;>cases h8:(wrongN vars arrs 8 x).2<;>simp [h7,h8]
theorem q_hasOnly (n:Nd)(nm num:Bool)(len:Int)(hn:countN n≤1000000000)(hs:n.name.length≤1000000000):Pure X 113 [nd n,vb nm,vb num,vi len] (vb (onlyS nm num len n)):=by
 have hkl:=length_le_countL n.kids
 have hcn:=countN_eq n
 have hlen:((nrows n.kids).length:Int)=n.kids.length:=by rw [nrows_len]
 refine Pure.run Tryz.func113 ?_
 cases nm with
 | true =>
   refine AK.gy ?_
   refine AK.pc (q_kindOf n.name hs) ?_
   refine AK.gd (fun h=>?_) (fun h=>?_)
   ·have hA:(kindS n.name==1)=true:=h
    refine AK.gy ?_
    cases num with
    | true =>
      refine AK.gy ?_
      refine AK.gy ?_
      refine AK.rz Tryz.func113 ?_
      rw [hlen];unfold onlyS;rw [hA];rfl
    | false =>
      refine AK.gn ?_
      refine AK.gd (fun g=>?_) (fun g=>?_)
      ·have g':(n.num==0)=true:=g
       refine AK.rz Tryz.func113 ?_
       rw [hlen];unfold onlyS;rw [hA,g'];rfl
      ·have g':(n.num==0)=false:=g
       refine AK.rz Tryz.func113 ?_
       unfold onlyS;rw [hA,g'];rfl
   ·have hA:(kindS n.name==1)=false:=h
    refine AK.gn ?_
    refine AK.gn ?_
    refine AK.gn ?_
    refine AK.rz Tryz.func113 ?_
    unfold onlyS;rw [hA];rfl
 | false =>
   refine AK.gn ?_
   refine AK.gn ?_
   refine AK.gy ?_
   refine AK.gd (fun h=>?_) (fun h=>?_)
   ·have hA:(n.name==[])=true:=h
    cases num with
    | true =>
      refine AK.gy ?_
      refine AK.gy ?_
      refine AK.rz Tryz.func113 ?_
      rw [hlen];unfold onlyS;rw [hA];rfl
    | false =>
      refine AK.gn ?_
      refine AK.gd (fun g=>?_) (fun g=>?_)
      ·have g':(n.num==0)=true:=g
       refine AK.rz Tryz.func113 ?_
       rw [hlen];unfold onlyS;rw [hA,g'];rfl
      ·have g':(n.num==0)=false:=g
       refine AK.rz Tryz.func113 ?_
       unfold onlyS;rw [hA,g'];rfl
   ·have hA:(n.name==[])=false:=h
    refine AK.gn ?_
    refine AK.rz Tryz.func113 ?_
    unfold onlyS;rw [hA];rfl
theorem q_isExpr (n:Nd)(hn:wN n≤1000000000):Pure X 72 [nd n] (vb (exprI n)):=by
 induction n using Nd.ind with
 | h n ih =>
 have hkl:=kids_le_w n
 have hnm:=name_lt_w n
 have hcw:=count_le_w n
 have hq:=q_containsF n.kids 114 [] (fun x=>!exprI x) (by omega) (fun x hx=>by
  have hw:=wN_kid hx
  refine Pure.run Tryz.func114 ?_
  refine AK.pc (ih x hx (by omega)) ?_
  exact AK.rz Tryz.func114 rfl) cat0
 have hfin:∀ ok:Bool,headI n=ok→AK X ⟨72,Tryz.f72,0,0⟩ (locG false 16 Tryz.f72) [(1,.ptr 0 0 0),(3,vb ok)] ⟨[[ncells n]],[]⟩ (fun e S=>e=.ret (vb (exprI n))∧S=⟨[],[]⟩):=fun ok hok=>by
  rw [exprI_eq,hok]
  refine AK.at_ ?_
  cases ok with
  | true =>
    refine AK.ev 100 rfl ?_
    refine AK.gy ?_
    refine AK.pc hq ?_
    refine AK.rz Tryz.func72 ?_
    rw [← exprIL_any];rfl
  | false =>
    refine AK.ev 100 rfl ?_
    refine AK.gn ?_
    exact AK.rz Tryz.func72 rfl
 refine Pure.run Tryz.func72 ?_
 refine AK.if_ (fun h=>?_) (fun h=>?_)
 ·have h':n.kind=1:=by simpa using (show (n.kind==1)=true from h)
  refine AK.pc (q_hasOnly n false true 0 (by omega) (by omega)) ?_
  refine AK.gd (fun g=>?_) (fun g=>?_)
  ·have g':onlyS false true 0 n=true:=g
   refine AK.pcj 16 (q_inRange n.num 0 1000000) ?_
   exact AK.back' 1 0 (hfin (between n.num 0 1000000) (by simp [headI,h',g'])) ⟨rfl,rfl,trivial⟩ rfl rfl rfl rfl rfl
  ·have g':onlyS false true 0 n=false:=g
   refine AK.gn ?_
   refine AK.rz Tryz.func72 ?_
   rw [exprI_eq]
   simp [headI,h',g']
 have n1:¬ n.kind=1:=by simpa using (show (n.kind==1)=false from h)
 refine AK.if_ (fun h=>?_) (fun h=>?_)
 ·have h':n.kind=2:=by simpa using (show (n.kind==2)=true from h)
  refine AK.pcj 16 (q_hasOnly n true false 0 (by omega) (by omega)) ?_
  exact AK.back' 1 0 (hfin (onlyS true false 0 n) (by simp [headI,h'])) ⟨rfl,rfl,trivial⟩ rfl rfl rfl rfl rfl
 have n2:¬ n.kind=2:=by simpa using (show (n.kind==2)=false from h)
 refine AK.if_ (fun h=>?_) (fun h=>?_)
 ·have h':n.kind=4:=by simpa using (show (n.kind==4)=true from h)
  refine AK.pcj 16 (q_hasOnly n true false 0 (by omega) (by omega)) ?_
  exact AK.back' 1 0 (hfin (onlyS true false 0 n) (by simp [headI,h'])) ⟨rfl,rfl,trivial⟩ rfl rfl rfl rfl rfl
 have n4:¬ n.kind=4:=by simpa using (show (n.kind==4)=false from h)
 refine AK.if_ (fun h=>?_) (fun h=>?_)
 ·have h':n.kind=3:=by simpa using (show (n.kind==3)=true from h)
  refine AK.pcj 16 (q_hasOnly n true false 1 (by omega) (by omega)) ?_
  exact AK.back' 1 0 (hfin (onlyS true false 1 n) (by simp [headI,h'])) ⟨rfl,rfl,trivial⟩ rfl rfl rfl rfl rfl
 have n3:¬ n.kind=3:=by simpa using (show (n.kind==3)=false from h)
 refine AK.if_ (fun h=>?_) (fun h=>?_)
 ·have h':n.kind=5:=by simpa using (show (n.kind==5)=true from h)
  refine AK.pcj 16 (q_hasOnly n false false 1 (by omega) (by omega)) ?_
  exact AK.back' 1 0 (hfin (onlyS false false 1 n) (by simp [headI,h'])) ⟨rfl,rfl,trivial⟩ rfl rfl rfl rfl rfl
 have n5:¬ n.kind=5:=by simpa using (show (n.kind==5)=false from h)
 refine AK.if_ (fun h=>?_) (fun h=>?_)
 ·have h':n.kind=6:=by simpa using (show (n.kind==6)=true from h)
  refine AK.pcj 16 (q_hasOnly n false false 2 (by omega) (by omega)) ?_
  exact AK.back' 1 0 (hfin (onlyS false false 2 n) (by simp [headI,h'])) ⟨rfl,rfl,trivial⟩ rfl rfl rfl rfl rfl
 have n6:¬ n.kind=6:=by simpa using (show (n.kind==6)=false from h)
 refine AK.if_ (fun h=>?_) (fun h=>?_)
 ·have h':n.kind=7:=by simpa using (show (n.kind==7)=true from h)
  refine AK.pcj 16 (q_hasOnly n false false 2 (by omega) (by omega)) ?_
  exact AK.back' 1 0 (hfin (onlyS false false 2 n) (by simp [headI,h'])) ⟨rfl,rfl,trivial⟩ rfl rfl rfl rfl rfl
 have n7:¬ n.kind=7:=by simpa using (show (n.kind==7)=false from h)
 refine AK.if_ (fun h=>?_) (fun h=>?_)
 ·have h':n.kind=8:=by simpa using (show (n.kind==8)=true from h)
  refine AK.pcj 16 (q_hasOnly n false false 2 (by omega) (by omega)) ?_
  exact AK.back' 1 0 (hfin (onlyS false false 2 n) (by simp [headI,h'])) ⟨rfl,rfl,trivial⟩ rfl rfl rfl rfl rfl
 have n8:¬ n.kind=8:=by simpa using (show (n.kind==8)=false from h)
 refine AK.gn ?_
 refine AK.rz Tryz.func72 ?_
 rw [exprI_eq]
 simp [headI,n1,n2,n3,n4,n5,n6,n7,n8]
theorem q_exprOk (n:Nd)(hn:wN n≤1000000000):Pure X 31 [nd n] (vb (exprOkS n)):=by
 have hcw:=count_le_w n
 rw [← exprOk_is]
 refine Pure.run Tryz.func31 ?_
 refine AK.pc (q_isLarge n (by omega)) ?_
 refine AK.gd (fun g=>?_) (fun g=>?_)
 ·have g':largeN n=false:=by simpa using (show (!largeN n)=true from g)
  refine AK.pc (q_isExpr n hn) ?_
  refine AK.rz Tryz.func31 ?_
  simp [g']
 ·have g':largeN n=true:=by simpa using (show (!largeN n)=false from g)
  refine AK.rz Tryz.func31 ?_
  simp [g']
theorem q_knows (n:Nd)(hl:n.kids.length≤100000)(e:Nd)(he:wN e≤1000000000):Pure X 32 [.cptr (progC n),nd e] (vb (knowN (declS n 31) (declS n 32) e)):=by
 induction e using Nd.ind with
 | h e ih =>
 have hkl:=kids_le_w e
 have hq:=q_containsF e.kids 77 [.cptr [.cptr (progC n)]] (fun x=>!knowN (declS n 31) (declS n 32) x) (by omega) (fun x hx=>by
  have hw:=wN_kid hx
  refine Pure.run Tryz.func77 ?_
  refine AK.pc (ih x hx (by omega)) ?_
  exact AK.rz Tryz.func77 rfl) (cat1 _)
 have hfin:knowH (declS n 31) (declS n 32) e=true→AK X ⟨32,Tryz.f32,0,0⟩ (locG false 8 Tryz.f32) [(2,.cptr [.cptr (progC n)]),(3,.ptr 0 0 0)] ⟨[[ncells e]],[]⟩
  (fun r S=>r=.ret (vb (knowN (declS n 31) (declS n 32) e))∧S=⟨[],[]⟩):=fun hk=>by
  rw [knowN_eq,hk]
  refine AK.at_ ?_
  refine AK.ev 100 rfl ?_
  refine AK.pc hq ?_
  refine AK.rz Tryz.func32 ?_
  rw [← knowL_any];rfl
 refine Pure.mk Tryz.func32 rfl rfl (by kernel_rfl) ?_
 refine AK.evj 0 100 rfl ?_
 refine AK.ev 1 rfl ?_
 refine AK.op (Ndo.boxC (x:=.cptr (progC n))) ?_
 refine AK.pc (q_wants e) ?_
 refine AK.if_ (fun h=>?_) (fun h=>?_)
 ·have h':wantsI e.kind=31:=by simpa using (show (wantsI e.kind==31)=true from h)
  refine AK.pc (q_variable n e.name hl) ?_
  refine AK.ifj 0 8 (fun g=>?_) (fun g=>?_)
  ·have g':=of_decide_eq_true g
   refine AK.ev 100 rfl ?_
   refine AK.rz Tryz.func32 ?_
   rw [knowN_eq]
   simp [knowH,h'];omega
  ·have g':=of_decide_eq_false g
   exact AK.back' 1 0 (hfin (by simp only [knowH,h',if_true];exact decide_eq_true (by omega))) ⟨rfl,rfl,trivial⟩ rfl rfl rfl rfl rfl
 ·have h':¬ wantsI e.kind=31:=by simpa using (show (wantsI e.kind==31)=false from h)
  refine AK.if_ (fun h2=>?_) (fun h2=>?_)
  ·have h2':wantsI e.kind=32:=by simpa using (show (wantsI e.kind==32)=true from h2)
   refine AK.pc (q_array n e.name hl) ?_
   refine AK.ifj 0 8 (fun g=>?_) (fun g=>?_)
   ·have g':=of_decide_eq_true g
    refine AK.ev 100 rfl ?_
    refine AK.rz Tryz.func32 ?_
    rw [knowN_eq]
    simp [knowH,h2'];omega
   ·have g':=of_decide_eq_false g
    exact AK.back' 1 0 (hfin (by unfold knowH;rw [if_neg h',if_pos h2'];exact decide_eq_true (by omega))) ⟨rfl,rfl,trivial⟩ rfl rfl rfl rfl rfl
  ·have h2':¬ wantsI e.kind=32:=by simpa using (show (wantsI e.kind==32)=false from h2)
   refine AK.pc hq ?_
   refine AK.rz Tryz.func32 ?_
   rw [knowN_eq,← knowL_any]
   unfold knowH
   rw [if_neg h',if_neg h2'];rfl
theorem exprOk_FE {e:Nd}(h:exprOkS e=true):FE e:=by
 simp only [exprOkS,fitsS,Bool.and_eq_true] at h
 exact FE_of e h.2.2 h.1
end Go.V
namespace Go.V
open Go
section
variable {X:Cx}{B:Bx}{S:St}{F:Frm}{N:Nat}{ops:Array Oper}{i:Nat}{o:Oper}{p q:Operand}
theorem Ndo.aixB {t e m b r o1 o2:Nat}{ik:IntKind}{n:Int}{y ye:Ty}(h0:0≤n)(h1:n<(m:Int))(ho:ops[i]?=some o:=by rfl)(hw:wantA ops F o=some true:=by rfl)(hop:o.op=.indexAddr t p q:=by rfl)
 (hp:opr X F p=some (.ptr b r o1):=by rfl)(hq:opr X F q=some (.val (.int ik n)):=by rfl)(hy:X.ty t=some y:=by rfl)(hyk:y.k=.arr m e:=by rfl)(hye:X.ty e=some ye:=by rfl)(he:addN o1 (n.toNat*ye.size)=o2:=by rfl) :
 Ndo X N ops i o F (.ptr b r o2) S S:=by
 subst he
 rw [addN_eq]
 refine Ndo.val ho hw fun F' E w a hc hI hF=>?_
 rw [hop] at hc
 have r1:=opr_sound hI hF ((hc p (by simp [Op.operands])).trans hp)
 have r2:=opr_sound hI hF ((hc q (by simp [Op.operands])).trans hq)
 obtain ⟨d,hdd,hd2⟩:=(X.ty_ok t y hy).agg
 simp only [hyk] at hd2
 obtain ⟨rfl,ye',hye',_⟩:=hd2
 rw [hye] at hye';cases hye'
 generalize hu:a.eval p=u at r1
 generalize hv:a.eval q=v at r2
 cases r2
 cases r1 with
 | ptr _ _ _ blk sz h =>
   refine ⟨.pointer (some ⟨blk,r*sz+o1+n.toNat*ye.size,none⟩),?_,?_⟩
   ·simp [execOp,hop,hu,hv,Instr.indexAt,asIntOf,run_underlying hdd,Instr.sureAddr,h0,h1,sizeOf_run hye,addr_add]
   ·rw [Nat.add_assoc]
    exact .ptr b r _ blk sz h
theorem Ndo.buildA {t:TypeId}{m e:Nat}{y:Ty}(ho:ops[i]?=some o:=by rfl)(hw:wantA ops F o=some true:=by rfl)(hop:o.op=.build t #[]:=by rfl)(hy:X.ty t=some y:=by rfl)(hk:y.k=.arr m e:=by rfl):Ndo X N ops i o F (.agg y.zero) S S:=by
 refine Ndo.val ho hw fun F' E w a hc hI hF=>?_
 obtain ⟨d,hd,hdd⟩:=(X.ty_ok t y hy).agg
 simp only [hk] at hdd
 obtain ⟨rfl,ye,hye,_⟩:=hdd
 obtain ⟨ie,_,hie,_⟩:=(X.ty_ok e ye hye).info
 obtain ⟨z,_,hzc,hl,i,hi,hiz,his,_⟩:=zero_run hy w
 have hrun:=run_build (P:=X.P) w t #[] z.cells (by simp [Program.built,hi,hd,hiz,hie,Instr.fill])
 refine ⟨.agg z.cells,by simp [execOp,hop,hrun],?_⟩
 refine .agg z.cells _ (by rw [← hzc];simp) (fun j v x hv hx=>?_)
 rw [← hzc] at hx
 simp only [List.getElem?_map,Array.getElem?_toList,hv,Option.map_some] at hx
 cases hx
 exact rel_ofVal v
end
end Go.V
namespace Go.V
open Go Go.Proofs
inductive LnI:Nd→Prop where
 | mk (k:Int) (s:List UInt8) (m:Int) (ks:List Nd) (hs:s.length≤9223372036854775807) (hl:ks.length≤9223372036854775807) (hk:∀ x,x∈ks→LnI x):LnI (.mk k s m ks)
theorem LnI.get {n:Nd}(h:LnI n):n.name.length≤9223372036854775807∧n.kids.length≤9223372036854775807∧∀ x,x∈n.kids→LnI x:=by
 cases h with | mk k s m ks h0 h1 hk=>exact ⟨h0,h1,hk⟩
mutual
def swN:Nd→Nat
 | .mk _ s _ ks=>s.length+(ks.length+swL ks)
def swL:List Nd→Nat
 | []=>0
 | x::l=>swN x+swL l
end
theorem swN_eq (n:Nd):swN n=n.name.length+(n.kids.length+swL n.kids):=by cases n;rw [swN];rfl
theorem wN_sw:(∀ n:Nd,wN n≤1+swN n)∧∀ l:List Nd,wL l≤l.length+swL l:=by
 refine Nd.ind2 (fun k s m ks ih=>?_) (Nat.le_refl _) (fun x l hx hl=>?_)
 ·simp only [wN,swN];omega
 ·simp only [wL,swL,List.length_cons];omega
def szR (w:Nat)(left:Int):Int:=if (w:Int)≤left then left-w else -1
theorem szR_add {a b:Nat}{left:Int}(h:(a:Int)≤left):szR (a+b) left=szR b (left-a):=by
 unfold szR
 by_cases h2:((a+b:Nat):Int)≤left
 ·rw [if_pos h2,if_pos (by omega)];omega
 ·rw [if_neg h2,if_neg (by omega)]
theorem szR_lt {a b:Nat}{left:Int}(h:left<a):szR (a+b) left=-1:=by
 unfold szR
 rw [if_neg (by omega)]
theorem szR_neg {w:Nat}{left:Int}(h0:0≤left)(h:szR w left<0):szR w left=-1∧left<w:=by
 unfold szR at h ⊢
 split at h
 ·rename_i h2;rw [if_pos h2];omega
 ·rename_i h2;rw [if_neg h2];omega
theorem szR_pos {w:Nat}{left:Int}(h:0≤szR w left):szR w left=left-w∧(w:Int)≤left:=by
 unfold szR at h ⊢
 split at h
 ·rename_i h2;rw [if_pos h2];omega
 ·omega
theorem t_szS (l:List Nd)(left:Int)(h0:0≤left)(h1:left≤1048576)(hl:l.length≤9223372036854775807)(ih:∀ x,x∈l→∀ lf:Int,0≤lf→lf≤1048576→Pure X 5 [nd x,vi lf] (vi (szR (swN x) lf))) :
 Pure X 18 [.sl (nrows l) .no,vi left] (vi (szR (l.length+swL l) left)):=by
 have hw:IntKind.i64.wrap (left-(nrows l).length)=left-l.length:=by rw [nrows_len];exact wrap_small (by omega) (by omega)
 refine Pure.run Tryz.func18 ?_
 refine AK.if_ (fun g=>?_) (fun g=>?_)
 ·have g':=of_decide_eq_true g
  rw [hw] at g'
  refine AK.rz Tryz.func18 ?_
  rw [szR_lt (by omega)]
 have g':=of_decide_eq_false g
 rw [hw] at g'
 have e0:szR (l.length+swL l) left=szR (swL l) (IntKind.i64.wrap (left-(nrows l).length)):=by rw [hw,szR_add (by omega)]
 rw [e0]
 have hb:0≤IntKind.i64.wrap (left-(nrows l).length)∧IntKind.i64.wrap (left-(nrows l).length)≤1048576:=by rw [hw];omega
 generalize IntKind.i64.wrap (left-(nrows l).length)=lf0 at hb
 refine AK.while_ (ι:=Nat × Int) 0 0 (fun i=>i.1≤l.length∧0≤i.2∧i.2≤1048576∧szR (swL l) lf0=szR (swL (l.drop i.1)) i.2) (fun i=>[(5,vi i.1),(1,vi i.2),(0,.sl (nrows l) .no)]) (fun _=>⟨[],[]⟩) (fun i=>l.length-i.1) ?_ (0,lf0) ⟨Nat.zero_le _,hb.1,hb.2,rfl⟩
  ⟨rfl,rfl,rfl,trivial⟩ rfl rfl rfl rfl rfl (fun _=>inferInstance) (fun _=>inferInstance)
 rintro ⟨i,lf⟩ ⟨hi,hp0,hp1,hT⟩ IH
 simp only at hi hp0 hp1 hT IH ⊢
 refine AK.ev 100 rfl ?_
 refine AK.if_ (fun h=>?_) (fun h=>?_)
 ·have hlt:i<l.length:=by have:=of_decide_eq_true h;rw [nrows_len] at this;omega
  obtain ⟨x,hx⟩:=lget_of_lt l hlt
  rw [drop_cons hx] at hT
  simp only [swL] at hT
  refine AK.ix i (by omega) (nrows_get hx) ?_
  refine AK.pc (ih x (List.mem_of_getElem? hx) lf hp0 hp1) ?_
  refine AK.if_ (fun g2=>?_) (fun g2=>?_)
  ·have g2':=szR_neg hp0 (of_decide_eq_true g2)
   refine AK.rz Tryz.func18 ?_
   rw [hT,szR_lt g2'.2]
  ·have g2':=szR_pos (show 0≤szR (swN x) lf by have:=of_decide_eq_false g2;omega)
   refine IH (i+1,szR (swN x) lf) ⟨hlt,?_,?_,?_⟩ (by simp only;omega) _ _ ⟨vint ((wrap_small (by omega) (by omega)).trans (by simp)),rfl,rfl,trivial⟩ rfl rfl rfl
   ·show 0≤szR (swN x) lf;omega
   ·show szR (swN x) lf≤_;omega
   ·rw [hT,szR_add g2'.2,g2'.1]
 ·have:i=l.length:=by have:=of_decide_eq_false h;rw [nrows_len] at this;omega
  subst this
  rw [List.drop_length] at hT
  refine AK.rz Tryz.func18 ?_
  rw [hT]
  unfold szR swL
  rw [if_pos (by simpa using hp0)];simp
theorem t_sz (n:Nd)(hln:LnI n):∀ left:Int,0≤left→left≤1048576→Pure X 5 [nd n,vi left] (vi (szR (swN n) left)):=by
 induction n using Nd.ind with
 | h n ih =>
 intro left h0 h1
 obtain ⟨ha,hb,hk⟩:=hln.get
 have hw:IntKind.i64.wrap (left-(⟨⟨n.name⟩⟩:ByteArray).size)=left-n.name.length:=by rw [sz_str];exact wrap_small (by omega) (by omega)
 rw [swN_eq]
 refine Pure.run Tryz.func5 ?_
 refine AK.if_ (fun g=>?_) (fun g=>?_)
 ·have g':=of_decide_eq_true g
  rw [hw] at g'
  refine AK.rz Tryz.func5 ?_
  rw [szR_lt (by omega)]
 have g':=of_decide_eq_false g
 rw [hw] at g'
 have e0:szR (n.name.length+(n.kids.length+swL n.kids)) left=szR (n.kids.length+swL n.kids) (IntKind.i64.wrap (left-(⟨⟨n.name⟩⟩:ByteArray).size)):=by rw [hw,szR_add (by omega)]
 rw [e0]
 have hb2:0≤IntKind.i64.wrap (left-(⟨⟨n.name⟩⟩:ByteArray).size)∧IntKind.i64.wrap (left-(⟨⟨n.name⟩⟩:ByteArray).size)≤1048576:=by rw [hw];omega
 refine AK.pc (t_szS n.kids _ hb2.1 hb2.2 hb (fun x hx lf=>ih x hx (hk x hx) lf)) ?_
 generalize IntKind.i64.wrap (left-(⟨⟨n.name⟩⟩:ByteArray).size)=lf at hb2 ⊢
 refine AK.if_ (fun g2=>?_) (fun g2=>?_)
 ·have g2':=szR_neg hb2.1 (of_decide_eq_true g2)
  refine AK.rz Tryz.func5 ?_
  rw [g2'.1]
 ·exact AK.rz Tryz.func5 rfl
theorem rB_step {l:List Nd}{i:Nat}{x:Nd}(h:l[i]?=some x):(rB (l.take i) (l.length-i)).set i (ncells x)=rB (l.take (i+1)) (l.length-(i+1)):=by
 have hi:=lt_of_get h
 obtain ⟨c,hc⟩:∃ c,l.length-i=c+1:=⟨l.length-i-1,by omega⟩
 have hc2:l.length-(i+1)=c:=by omega
 rw [hc,hc2,rB,rB,List.take_add_one,h,Option.toList_some,nrows_app,List.replicate_succ]
 have:(nrows (l.take i)).length=i:=by rw [nrows_len,List.length_take];omega
 rw [List.set_append_right _ _ (by omega),this,Nat.sub_self,List.set_cons_zero,List.append_assoc]
 rw [nrows_map [x]];rfl
theorem t_toS (l:List Nd)(hl:l.length≤1000000000)(ih:∀ x,x∈l→Pure X 8 [nd x] (nd x)):Pure X 26 [.sl (nrows l) .no] (.sl (nrows l) .no):=by
 refine Pure.run Tryz.func26 ?_
 refine AK.op (Ndo.mkS (n:=(nrows l).length) (b:=0) (by rw [nrows_len];exact hl) rfl rfl rfl rfl rfl rfl rfl rfl rfl rfl) ?_
 refine AK.while_ (ι:=Nat) 1 0 (fun i=>i≤l.length) (fun i=>[(4,vi i),(3,.bsl 0 l.length),(0,.sl (nrows l) .no)]) (fun i=>⟨[rB (l.take i) (l.length-i)],[]⟩) (fun i=>l.length-i) ?_ 0 (Nat.zero_le _)
  ⟨rfl,by rw [← nrows_len l];rfl,rfl,trivial⟩ (by rw [← nrows_len l];rfl) rfl rfl rfl rfl (fun _=>inferInstance) (fun _=>inferInstance)
 intro i hi IH
 refine AK.ev 100 rfl ?_
 refine AK.if_ (fun h=>?_) (fun h=>?_)
 ·have hlt:i<l.length:=by have:=of_decide_eq_true h;rw [nrows_len] at this;omega
  obtain ⟨x,hx⟩:=lget_of_lt l hlt
  have hr:(rB (l.take i) (l.length-i))[i]?=some zN:=by
   have:(nrows (l.take i)).length=i:=by rw [nrows_len,List.length_take];omega
   rw [rB,List.getElem?_append_right (by omega),this,Nat.sub_self,List.getElem?_replicate,if_pos (by omega)]
  refine AK.ix i (by omega) (nrows_get hx) ?_
  refine AK.pc (ih x (List.mem_of_getElem? hx)) ?_
  refine AK.atB i hlt hr ?_
  refine AK.stB hr ?_
  refine IH (i+1) hlt (by omega) _ _ ⟨vint ((wrap_small (by omega) (by omega)).trans (by omega)),rfl,rfl,trivial⟩ ?_ rfl rfl
  rw [← rB_step hx];rfl
 ·have:i=l.length:=by have:=of_decide_eq_false h;rw [nrows_len] at this;omega
  subst this
  refine AK.rbsl Tryz.func26 (b:=0) (l:=l) (c:=l.length-l.length) ?_ hl
  rw [List.take_length];rfl
theorem t_to (n:Nd)(hn:countN n≤1000000000):Pure X 8 [nd n] (nd n):=by
 induction n using Nd.ind with
 | h n ih =>
 have hcn:=countN_eq n
 have hll:=length_le_countL n.kids
 refine Pure.run Tryz.func8 ?_
 refine AK.pc (t_toS n.kids (by omega) (fun x hx=>ih x hx (by have:=countL_mem hx;omega))) ?_
 exact AK.rz Tryz.func8 rfl
theorem t_eqS (l:List Nd)(hl:l.length≤1000000000)(ih:∀ x,x∈l→Pure X 11 [nd x,nd x] (vb true)):Pure X 34 [.sl (nrows l) .no,.sl (nrows l) .no] (vb true):=by
 refine Pure.run Tryz.func34 ?_
 refine AK.no ?_ (ht:=by simp)
 refine AK.while_ (ι:=Nat) 0 0 (fun i=>i≤l.length) (fun i=>[(5,vi i),(0,.sl (nrows l) .no),(1,.sl (nrows l) .no)]) (fun i=>⟨[],[]⟩) (fun i=>l.length-i) ?_ 0 (Nat.zero_le _)
  ⟨rfl,rfl,rfl,trivial⟩ rfl rfl rfl rfl rfl (fun _=>inferInstance) (fun _=>inferInstance)
 intro i hi IH
 refine AK.ev 100 rfl ?_
 refine AK.if_ (fun h=>?_) (fun h=>?_)
 ·have hlt:i<l.length:=by have:=of_decide_eq_true h;rw [nrows_len] at this;omega
  obtain ⟨x,hx⟩:=lget_of_lt l hlt
  refine AK.db 0 ?_
  refine Drv.ig i (by omega) (nrows_get hx) ?_
  refine Drv.ig i (by omega) (nrows_get hx) ?_
  refine Drv.pg (ih x (List.mem_of_getElem? hx)) ?_
  refine Drv.z ?_
  refine AK.no ?_
  exact IH (i+1) hlt (by omega) _ _ ⟨vint ((wrap_small (by omega) (by omega)).trans (by omega)),rfl,rfl,trivial⟩ rfl rfl rfl
 ·exact AK.rz Tryz.func34 rfl
theorem t_eq (n:Nd)(hn:countN n≤1000000000):Pure X 11 [nd n,nd n] (vb true):=by
 induction n using Nd.ind with
 | h n ih =>
 have hcn:=countN_eq n
 have hll:=length_le_countL n.kids
 refine Pure.run Tryz.func11 ?_
 refine AK.no ?_ (ht:=by simp)
 refine AK.no ?_ (ht:=by simp)
 refine AK.no ?_ (ht:=by simp)
 refine AK.pc (t_eqS n.kids (by omega) (fun x hx=>ih x hx (by have:=countL_mem hx;omega))) ?_
 refine AK.no ?_
 exact AK.rz Tryz.func11 rfl
end Go.V
