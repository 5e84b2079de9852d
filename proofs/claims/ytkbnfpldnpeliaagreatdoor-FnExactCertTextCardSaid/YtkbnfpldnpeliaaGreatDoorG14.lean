/- A part of the proof of the claim that the last text states: no condition of its own. -/
import Derived.Test.YtkbnfpldnpeliaaGreatDoorG13
import Derived.Carry
import Derived.ChangeArms
import Derived.ChangeVars
import Derived.Deep.DeepHandedRow
import Derived.Lib.LaidTab
import Derived.Lib.LaidU8
import Derived.OpenShut
import Derived.ProofKit
import Derived.Test.YtkbnfpldnpeliaaGreatDoorCards
import Derived.Test.YtkbnfpldnpeliaaGreatDoorTie
import Derived.WalkKit
set_option linter.unusedVariables false
set_option linter.unusedSimpArgs false
namespace Go.V
open Go
section
variable {X:Cx}{B:Bx}{E:Env}{S:St}{w:World}{F:Frm}{a:Act}{N:Nat}{R:AE→St→Prop}
def DrvP (X:Cx)(N:Nat)(ops:Array Oper)(ix:Nat→Nat)(bp:Nat→Nat→Bool)(em:Nat→Bool):List Oper→Nat→Frm→St→List St→List Pend→(Frm→St→Prop)→Prop
 | [],_,F,S,_,_,K=>K F S
 | o::os,i,F,S,Hs,pend,K =>
   (∃ x,dstOk N o.dst=true∧(∀ S',Ndo X N ops (ix i) o F x S' S')∧DrvP X N ops ix bp em os (i+1) (putF o.dst x F) S Hs pend K) ∨
   (∃ x,dstOk N o.dst=true∧(∀ S',S'∈Hs→Ndo X N ops (ix i) o F x S' S')∧DrvP X N ops ix bp em os (i+1) (putF o.dst x F) S Hs ((i,o,F,x)::pend) K) ∨
   (∃ x S' pend',em i=true∧dstOk N o.dst=true∧Ndo X N ops (ix i) o F x S S'∧pend.filter (fun p=>!bp p.1 i)=pend'∧(∀ p,p∈pend'→Ndo X N ops (ix p.1) p.2.1 p.2.2.1 p.2.2.2 S' S') ∧
     DrvP X N ops ix bp em os (i+1) (putF o.dst x F) S' (S'::Hs) pend' K)
structure DDataP (X:Cx)(N:Nat)(ops:Array Oper)(ix:Nat→Nat)(bp:Nat→Nat→Bool)(em:Nat→Bool)(i n:Nat)(eff:Nat→Bool)(x:Nat→AV)(FF:Nat→Frm)(SS:Nat→St)(Hs:List St)(pend:List Pend):Prop where
 step:∀ j,i≤j→j<n→∀ o,ops[ix j]?=some o→FF (j+1)=putF o.dst (x j) (FF j)∧dstOk N o.dst=true
 eff0:∀ j,i≤j→j<n→eff j=false→SS (j+1)=SS j
 eff1:∀ j,i≤j→j<n→eff j=true→∀ o,ops[ix j]?=some o→em j=true∧Ndo X N ops (ix j) o (FF j) (x j) (SS j) (SS (j+1))
 was:∀ j,i≤j→j<n→eff j=false→∀ o,ops[ix j]?=some o→∀ S',S'∈Hs→Ndo X N ops (ix j) o (FF j) (x j) S' S'
 will:∀ j,i≤j→j<n→eff j=false→∀ o,ops[ix j]?=some o→∀ p,i≤p→p≤n→(∀ e,j≤e→e<p→eff e=true→bp j e=false)→Ndo X N ops (ix j) o (FF j) (x j) (SS p) (SS p)
 pend:∀ q,q∈pend→∀ p,i≤p→p≤n→(∀ e,i≤e→e<p→eff e=true→bp q.1 e=false)→Ndo X N ops (ix q.1) q.2.1 q.2.2.1 q.2.2.2 (SS p) (SS p)
theorem DrvP.data {ops:Array Oper}{ix:Nat→Nat}{bp:Nat→Nat→Bool}{em:Nat→Bool}:∀ (os:List Oper)(i:Nat)(F:Frm)(S:St)(Hs:List St)(pend:List Pend)(K:Frm→St→Prop),
 DrvP X N ops ix bp em os i F S Hs pend K→(∀ k,k<os.length→ops[ix (i+k)]?=os[k]?)→S∈Hs→(∀ q,q∈pend→Ndo X N ops (ix q.1) q.2.1 q.2.2.1 q.2.2.2 S S) →
 ∃ eff x FF SS,FF i=F∧SS i=S∧K (FF (i+os.length)) (SS (i+os.length))∧DDataP X N ops ix bp em i (i+os.length) eff x FF SS Hs pend
 | [],i,F,S,Hs,pend,K,h,_,hS,hp=>by
   refine ⟨fun _=>false,fun _=>.junk,fun _=>F,fun _=>S,rfl,rfl,h,?_⟩
   exact { step:=fun j h1 h2=>by simp at h2;omega
           eff0:=fun j h1 h2=>by simp at h2;omega
           eff1:=fun j h1 h2=>by simp at h2;omega
           was:=fun j h1 h2=>by simp at h2;omega
           will:=fun j h1 h2=>by simp at h2;omega
           pend:=fun q hq p _ _ _=>hp q hq }
 | o::os,i,F,S,Hs,pend,K,h,hops,hS,hp=>by
   have ho:ops[ix i]?=some o:=by have:=hops 0 (by simp);simpa using this
   have hops':∀ k,k<os.length→ops[ix (i+1+k)]?=os[k]?:=fun k hk=>by
    have:=hops (k+1) (by simp;omega)
    rw [show i+1+k=i+(k+1) by omega]
    simpa using this
   have hlen:i+(o::os).length=i+1+os.length:=by simp;omega
   rw [hlen]
   simp only [DrvP] at h
   have upd:∀ {β:Type} (f:Nat→β) (v:β) (j:Nat),(fun j=>if j=i then v else f j) j=if j=i then v else f j:=fun _ _ _=>rfl
   rcases h with ⟨x,hd,hn,hk⟩ | ⟨x,hd,hn,hk⟩ | ⟨x,S',pend',he,hd,hn,hpf,hpn,hk⟩
   ·obtain ⟨eff,xs,FF,SS,h1,h2,h3,D⟩:=DrvP.data os (i+1) _ S Hs pend K hk hops' hS hp
    refine ⟨fun j=>if j=i then false else eff j,fun j=>if j=i then x else xs j,fun j=>if j=i then F else FF j,fun j=>if j=i then S else SS j,by simp,by simp,?_,?_⟩
    ·have:¬ (i+1+os.length=i):=by omega
     simpa [this] using h3
    ·refine ⟨fun j a b o' ho'=>?_,fun j a b c=>?_,fun j a b c o' ho'=>?_,fun j a b c o' ho' S' hS'=>?_,fun j a b c o' ho' p hp1 hp2 hpe=>?_,fun q hq p hp1 hp2 hpe=>?_⟩
     ·by_cases hj:j=i
      ·subst hj;rw [ho] at ho';cases ho'
       simp [h1,hd]
      ·have h4:¬ (j+1=i):=by omega
       simp only [hj,h4,if_false]
       exact D.step j (by omega) b o' ho'
     ·by_cases hj:j=i
      ·subst hj;simp [h2]
      ·have h4:¬ (j+1=i):=by omega
       simp only [hj,h4,if_false] at c ⊢
       exact D.eff0 j (by omega) b c
     ·by_cases hj:j=i
      ·subst hj;simp at c
      ·have h4:¬ (j+1=i):=by omega
       simp only [hj,h4,if_false] at c ⊢
       exact D.eff1 j (by omega) b c o' ho'
     ·by_cases hj:j=i
      ·subst hj;rw [ho] at ho';cases ho';simp only [if_true];exact hn S'
      ·simp only [hj,if_false] at c ⊢
       exact D.was j (by omega) b c o' ho' S' hS'
     ·by_cases hj:j=i
      ·subst hj;rw [ho] at ho';cases ho';simp only [if_true];exact hn _
      ·simp only [hj,if_false] at c ⊢
       by_cases hpi:p=i
       ·subst hpi;simp only [if_true];exact D.was j (by omega) b c o' ho' S hS
       ·simp only [hpi,if_false]
        refine D.will j (by omega) b c o' ho' p (by omega) hp2 (fun e e1 e2 e3=>hpe e e1 e2 ?_)
        have:¬ (e=i):=by omega
        simpa [this] using e3
     ·by_cases hpi:p=i
      ·subst hpi;simp only [if_true];exact hp q hq
      ·simp only [hpi,if_false]
       refine D.pend q hq p (by omega) hp2 (fun e e1 e2 e3=>hpe e (by omega) e2 ?_)
       have:¬ (e=i):=by omega
       simpa [this] using e3
   ·obtain ⟨eff,xs,FF,SS,h1,h2,h3,D⟩:=DrvP.data os (i+1) _ S Hs ((i,o,F,x)::pend) K hk hops' hS (fun q hq=>by
     rcases List.mem_cons.1 hq with rfl | hq
     ·exact hn S hS
     ·exact hp q hq)
    refine ⟨fun j=>if j=i then false else eff j,fun j=>if j=i then x else xs j,fun j=>if j=i then F else FF j,fun j=>if j=i then S else SS j,by simp,by simp,?_,?_⟩
    ·have:¬ (i+1+os.length=i):=by omega
     simpa [this] using h3
    ·refine ⟨fun j a b o' ho'=>?_,fun j a b c=>?_,fun j a b c o' ho'=>?_,fun j a b c o' ho' S' hS'=>?_,fun j a b c o' ho' p hp1 hp2 hpe=>?_,fun q hq p hp1 hp2 hpe=>?_⟩
     ·by_cases hj:j=i
      ·subst hj;rw [ho] at ho';cases ho'
       simp [h1,hd]
      ·have h4:¬ (j+1=i):=by omega
       simp only [hj,h4,if_false]
       exact D.step j (by omega) b o' ho'
     ·by_cases hj:j=i
      ·subst hj;simp [h2]
      ·have h4:¬ (j+1=i):=by omega
       simp only [hj,h4,if_false] at c ⊢
       exact D.eff0 j (by omega) b c
     ·by_cases hj:j=i
      ·subst hj;simp at c
      ·have h4:¬ (j+1=i):=by omega
       simp only [hj,h4,if_false] at c ⊢
       exact D.eff1 j (by omega) b c o' ho'
     ·by_cases hj:j=i
      ·subst hj;rw [ho] at ho';cases ho';simp only [if_true];exact hn S' hS'
      ·simp only [hj,if_false] at c ⊢
       exact D.was j (by omega) b c o' ho' S' hS'
     ·by_cases hpi:p=i
      ·subst hpi
       simp only [if_true]
       by_cases hj:j=p
       ·subst hj;rw [ho] at ho';cases ho';simp only [if_true];exact hn S hS
       ·simp only [hj,if_false] at c ⊢;exact D.was j (by omega) b c o' ho' S hS
      ·simp only [hpi,if_false]
       by_cases hj:j=i
       ·subst hj;rw [ho] at ho';cases ho';simp only [if_true]
        refine D.pend (j,o,F,x) (by simp) p (by omega) hp2 (fun e e1 e2 e3=>hpe e (by omega) e2 ?_)
        have:¬ (e=j):=by omega
        simpa [this] using e3
       ·simp only [hj,if_false] at c ⊢
        refine D.will j (by omega) b c o' ho' p (by omega) hp2 (fun e e1 e2 e3=>hpe e e1 e2 ?_)
        have:¬ (e=i):=by omega
        simpa [this] using e3
     ·by_cases hpi:p=i
      ·subst hpi;simp only [if_true];exact hp q hq
      ·simp only [hpi,if_false]
       refine D.pend q (by simp [hq]) p (by omega) hp2 (fun e e1 e2 e3=>hpe e (by omega) e2 ?_)
       have:¬ (e=i):=by omega
       simpa [this] using e3
   ·obtain ⟨eff,xs,FF,SS,h1,h2,h3,D⟩:=DrvP.data os (i+1) _ S' (S'::Hs) pend' K hk hops' (by simp) hpn
    refine ⟨fun j=>if j=i then true else eff j,fun j=>if j=i then x else xs j,fun j=>if j=i then F else FF j,fun j=>if j=i then S else SS j,by simp,by simp,?_,?_⟩
    ·have:¬ (i+1+os.length=i):=by omega
     simpa [this] using h3
    ·refine ⟨fun j a b o' ho'=>?_,fun j a b c=>?_,fun j a b c o' ho'=>?_,fun j a b c o' ho' S' hS'=>?_,fun j a b c o' ho' p hp1 hp2 hpe=>?_,fun q hq p hp1 hp2 hpe=>?_⟩
     ·by_cases hj:j=i
      ·subst hj;rw [ho] at ho';cases ho'
       simp [h1,hd]
      ·have h4:¬ (j+1=i):=by omega
       simp only [hj,h4,if_false]
       exact D.step j (by omega) b o' ho'
     ·by_cases hj:j=i
      ·subst hj;simp at c
      ·have h4:¬ (j+1=i):=by omega
       simp only [hj,h4,if_false] at c ⊢
       exact D.eff0 j (by omega) b c
     ·by_cases hj:j=i
      ·subst hj;rw [ho] at ho';cases ho'
       simp [h2,he];exact hn
      ·have h4:¬ (j+1=i):=by omega
       simp only [hj,h4,if_false] at c ⊢
       exact D.eff1 j (by omega) b c o' ho'
     ·by_cases hj:j=i
      ·subst hj;simp at c
      ·simp only [hj,if_false] at c ⊢
       exact D.was j (by omega) b c o' ho' S' (by simp [hS'])
     ·by_cases hj:j=i
      ·subst hj;simp at c
      ·simp only [hj,if_false] at c ⊢
       by_cases hpi:p=i
       ·subst hpi;simp only [if_true];exact D.was j (by omega) b c o' ho' S (by simp [hS])
       ·simp only [hpi,if_false]
        refine D.will j (by omega) b c o' ho' p (by omega) hp2 (fun e e1 e2 e3=>hpe e e1 e2 ?_)
        have:¬ (e=i):=by omega
        simpa [this] using e3
     ·by_cases hpi:p=i
      ·subst hpi;simp only [if_true];exact hp q hq
      ·simp only [hpi,if_false]
       have hb:bp q.1 i=false:=hpe i (Nat.le_refl _) (by omega) (by simp)
       refine D.pend q (by rw [← hpf];exact List.mem_filter.2 ⟨hq,by simp [hb]⟩) p (by omega) hp2 (fun e e1 e2 e3=>hpe e (by omega) e2 ?_)
       have:¬ (e=i):=by omega
       simpa [this] using e3
def FDP (ops:Array Oper)(ix:Nat→Nat)(x:Nat→AV)(listed:Nat→Bool)(F:Frm):Nat→Frm
 | 0=>F
 | j+1=>match listed j with
   | true=>match ops[ix j]? with
     | some o=>putF o.dst (x j) (FDP ops ix x listed F j)
     | none=>FDP ops ix x listed F j
   | false=>FDP ops ix x listed F j
theorem lkFDP_none {ops:Array Oper}{ix:Nat→Nat}{x:Nat→AV}{listed:Nat→Bool}{t:Nat}:∀ n,(∀ j,j<n→listed j=true→∀ o,ops[ix j]?=some o→o.dst≠some t)→lk (FDP ops ix x listed F n) t=lk F t
 | 0,_=>rfl
 | n+1,h=>by
   have ih:lk (FDP ops ix x listed F n) t=lk F t:=lkFDP_none n (fun j hj=>h j (by omega))
   simp only [FDP]
   split
   ·rename_i hl
    split
    ·rename_i o ho
     rw [lk_putF,if_neg (h n (by omega) hl o ho),ih]
    ·exact ih
   ·exact ih
theorem lkFDP_some {ops:Array Oper}{ix:Nat→Nat}{x:Nat→AV}{listed:Nat→Bool}{t j:Nat}{o:Oper}(ho:ops[ix j]?=some o)(hd:o.dst=some t)(hl:listed j=true) :
 ∀ n,j<n→(∀ (j':Nat) (o':Oper),j'<n→j≠j'→ops[ix j']?=some o'→o'.dst≠some t)→lk (FDP ops ix x listed F n) t=some (x j)
 | 0,h,_=>by omega
 | n+1,h,hu=>by
   simp only [FDP]
   by_cases hj:j=n
   ·subst hj
    simp only [hl,ho]
    rw [lk_putF,if_pos hd]
   ·have ih:lk (FDP ops ix x listed F n) t=some (x j):=lkFDP_some ho hd hl n (by omega) (fun j' o' h'=>hu j' o' (by omega))
    split
    ·split
     ·rename_i o' ho'
      rw [lk_putF,if_neg (hu n o' (by omega) hj ho'),ih]
     ·exact ih
    ·exact ih
structure DrawOkP (ops:Array Oper)(ix:Nat→Nat)(n:Nat)(bp:Nat→Nat→Bool)(em:Nat→Bool):Prop where
 at_:∀ j,j<n→∃ o,ops[ix j]?=some o
 looks:∀ (i j:Nat) (oi oj:Oper),i<n→j<n→ops[ix i]?=some oi→ops[ix j]?=some oj→∀ t,oj.dst=some t→t∈oi.looksAt ops→(j<i∧bp j i=true)∨(i<j∧bp i j=true)
 dsts:∀ (i j:Nat) (oi oj:Oper),i<n→j<n→ops[ix i]?=some oi→ops[ix j]?=some oj→i≠j→∀ t,oi.dst=some t→oj.dst≠some t
 effs:∀ (i j:Nat),i<j→j<n→em i=true→em j=true→bp i j=true
def OrdP (bp:Nat→Nat→Bool)(n:Nat):List Nat→(Nat→Bool)→Prop
 | [],listed=>∀ j,j<n→listed j=true
 | i::l,listed=>i<n∧listed i=false∧(∀ e,e<n→bp e i=true→listed e=true)∧OrdP bp n l (fun j=>if i=j then true else listed j)
def CloP (bp:Nat→Nat→Bool)(n:Nat)(listed:Nat→Bool):Prop:=∀ j e,j<n→e<n→listed j=true→bp e j=true→listed e=true
theorem CloP.put {bp:Nat→Nat→Bool}{n i:Nat}{listed:Nat→Bool}(h:CloP bp n listed)(hb:∀ e,e<n→bp e i=true→listed e=true):CloP bp n (fun j=>if i=j then true else listed j):=fun j e hj he hl hb'=>by
 by_cases h1:i=e
 ·simp [h1]
 ·simp only [h1,if_false]
  by_cases h2:i=j
  ·subst h2;exact hb e he hb'
  ·simp only [h2,if_false] at hl;exact h j e hj he hl hb'
theorem draw_goP {ops:Array Oper}{ix:Nat→Nat}{n:Nat}{bp:Nat→Nat→Bool}{em:Nat→Bool}(dk:DrawOkP ops ix n bp em){eff:Nat→Bool}{x:Nat→AV}{FF:Nat→Frm}{SS:Nat→St}{Hs:List St}{pend:List Pend}
 (D:DDataP X N ops ix bp em 0 n eff x FF SS Hs pend)(hF0:FF 0=F)(k:List Item):∀ (l:List Nat)(listed:Nat→Bool)(a:Act)(w:World)(E:Env)(p:Nat),
 OrdP bp n l listed→CloP bp n listed→p≤n→(∀ e,e<n→eff e=true→(listed e=true↔e<p)) →
 Inv X E (SS p) w→FR E w (FDP ops ix x listed F n) a N→∀ (b:Frame) (cs:List Frame),
  ∃ E' w' a',Steps X.P (lone (b.at a (.inRegion ops (l.map ix)::k)) cs w) (lone (b.at a' k) cs w')∧Inv X E' (SS n) w' ∧
   FR E' w' (FF n) a' N∧Evol E w E' w' E.boxes.length E.toks.length:=by
 have hFF:∀ m,m≤n→FF m=FDP ops ix x (fun _=>true) F m:=by
  intro m
  induction m with
  | zero=>intro _;exact hF0
  | succ m ih =>
    intro hn
    obtain ⟨o,ho⟩:=dk.at_ m (by omega)
    rw [(D.step m (Nat.zero_le _) (by omega) _ ho).1,ih (by omega)]
    simp [FDP,ho]
 have hSS:∀ p q,p≤q→q≤n→(∀ e,p≤e→e<q→eff e=false)→SS q=SS p:=by
  intro p q hpq
  induction q with
  | zero=>intro _ _;rw [show p=0 by omega]
  | succ q ih =>
    intro hq he
    by_cases h:p=q+1
    ·rw [h]
    ·rw [D.eff0 q (Nat.zero_le _) (by omega) (he q (by omega) (by omega))]
     exact ih (by omega) (by omega) (fun e h1 h2=>he e h1 (by omega))
 intro l
 induction l with
 | nil =>
   intro listed a w E p hall hc hp hpe hI hF b cs
   refine ⟨E,w,a,.one step_region_end,?_,?_,Evol.refl _ _ _ _⟩
   ·rw [hSS p n hp (Nat.le_refl _) fun e h1 h2=>by
     cases he:eff e with
     | false=>rfl
     | true=>have:=(hpe e h2 he).1 (hall e h2);omega]
    exact hI
   ·rw [hFF _ (Nat.le_refl _)]
    have:FDP ops ix x listed F n=FDP ops ix x (fun _=>true) F n:=by
     have:∀ m,m≤n→FDP ops ix x listed F m=FDP ops ix x (fun _=>true) F m:=by
      intro m
      induction m with
      | zero=>intro _;rfl
      | succ m ih=>intro hn;simp only [FDP,hall m (by omega),ih (by omega)]
     exact this _ (Nat.le_refl _)
    rw [← this];exact hF
 | cons i l ih =>
   intro listed a w E p hord hc hp hpe hI hF b cs
   obtain ⟨hin,hilf,rbit,hrest⟩:=hord
   obtain ⟨o,ho⟩:=dk.at_ i hin
   simp only [List.map_cons]
   have notbit:∀ e,e<n→listed e=true→bp i e=false:=fun e he hl=>by
    cases hb:bp i e with
    | false=>rfl
    | true=>have:=hc e i he hin hl hb;rw [hilf] at this;cases this
   have hagree:∀ t,t∈o.looksAt ops→lk (FDP ops ix x listed F n) t=lk (FF i) t:=fun t ht=>by
    rw [hFF i (by omega)]
    by_cases hw:∃ (j:Nat) (oj:Oper),j<n∧ops[ix j]?=some oj∧oj.dst=some t
    ·obtain ⟨j,oj,hjn,hj,hd⟩:=hw
     have hu:∀ (j':Nat) (o':Oper),j'<n→j≠j'→ops[ix j']?=some o'→o'.dst≠some t:=fun j' o' hjn' hne ho'=>dk.dsts j j' oj o' hjn hjn' hj ho' hne t hd
     rcases dk.looks i j o oj hin hjn ho hj t hd ht with ⟨h1,h2⟩ | ⟨h1,h2⟩
     ·rw [lkFDP_some (listed:=listed) hj hd (rbit j hjn h2) n hjn (fun j' o' hj'=>hu j' o' hj'),lkFDP_some (listed:=fun _=>true) hj hd rfl i h1 (fun j' o' hj'=>hu j' o' (by omega))]
     ·have hjl:listed j=false:=by
       cases hl:listed j with
       | false=>rfl
       | true=>have:=notbit j hjn hl;rw [h2] at this;cases this
      rw [lkFDP_none n fun j' hj' hl' o' ho' hc'=>by
       by_cases hjj:j=j'
       ·subst hjj;rw [hjl] at hl';cases hl'
       ·exact hu j' o' hj' hjj ho' hc',
       lkFDP_none i fun j' hj' _ o' ho' hc'=>by
        by_cases hjj:j=j'
        ·omega
        ·exact hu j' o' (by omega) hjj ho' hc']
    ·rw [lkFDP_none n fun j' hj' _ o' ho' hc'=>hw ⟨j',o',hj',ho',hc'⟩,lkFDP_none i fun j' hj' _ o' ho' hc'=>hw ⟨j',o',by omega,ho',hc'⟩]
   have hcl':=hc.put rbit
   have hlk':∀ t,lk (FDP ops ix x (fun j=>if i=j then true else listed j) F n) t=lk (putF o.dst (x i) (FDP ops ix x listed F n)) t:=fun t=>by
    rw [lk_putF]
    by_cases hd:o.dst=some t
    ·rw [if_pos hd]
     exact lkFDP_some ho hd (by simp) n hin (fun j' o' hj' hne ho'=>dk.dsts i j' o o' hin hj' ho ho' hne t hd)
    ·rw [if_neg hd]
     have:∀ m,lk (FDP ops ix x (fun j=>if i=j then true else listed j) F m) t=lk (FDP ops ix x listed F m) t:=by
      intro m
      induction m with
      | zero=>rfl
      | succ m ihn =>
        simp only [FDP]
        by_cases hn:i=m
        ·subst hn
         simp only [if_true,hilf,ho]
         rw [lk_putF,if_neg hd,ihn]
        ·simp only [hn,if_false]
         split
         ·split
          ·rw [lk_putF,lk_putF,ihn]
          ·exact ihn
         ·exact ihn
     exact this _
   have next:∀ (p':Nat),p'≤n→(∀ e,e<n→eff e=true→((if i=e then true else listed e)=true↔e<p'))→Ndo X N ops (ix i) o (FF i) (x i) (SS p) (SS p') →
    ∃ E' w' a',Steps X.P (lone (b.at a (.inRegion ops (ix i::l.map ix)::k)) cs w) (lone (b.at a' k) cs w') ∧
     Inv X E' (SS n) w'∧FR E' w' (FF n) a' N∧Evol E w E' w' E.boxes.length E.toks.length:=fun p' hp' hpe' hn=>by
    obtain ⟨v,w1,⟨E1,h1,h2,h3⟩,h4⟩:=hn _ E w a hagree hI hF b k cs (l.map ix)
    rw [ho] at h4
    have hd:=(D.step i (Nat.zero_le _) hin o ho).2
    have hF1:FR E1 w1 (FDP ops ix x (fun j=>if i=j then true else listed j) F n) (a.put o.dst v) N:=by
     have:=(hF.step h2).putF hd h3
     exact ⟨this.size,this.nod,fun q y hq=>this.rel q y (by rw [← hlk' q];exact hq)⟩
    obtain ⟨E',w',a',k1,k2,k3,k4⟩:=ih _ _ w1 E1 p' hrest hcl' hp' hpe' h1 hF1 b cs
    have hlen:=h2.len
    exact ⟨E',w',a',h4.trans k1,k2,k3,h2.trans (k4.weaken hlen.1 hlen.2)⟩
   cases he:eff i with
   | false =>
     refine next p hp (fun e hen hee=>?_) ?_
     ·by_cases hie:i=e
      ·subst hie;rw [he] at hee;cases hee
      ·rw [if_neg hie];exact hpe e hen hee
     ·exact D.will i (Nat.zero_le _) hin he o ho p (Nat.zero_le _) hp (fun e h1 h2 h3=>notbit e (by omega) ((hpe e (by omega) h3).2 h2))
   | true =>
     obtain ⟨es,hn⟩:=D.eff1 i (Nat.zero_le _) hin he o ho
     have hpi:p≤i:=by
      rcases Nat.lt_or_ge i p with h | h
      ·have:=(hpe i hin he).2 h;rw [hilf] at this;cases this
      ·exact h
     have before:∀ e,e<i→eff e=true→listed e=true:=fun e hei hee=>by
      obtain ⟨oe,hoe⟩:=dk.at_ e (by omega)
      exact rbit e (by omega) (dk.effs e i hei hin (D.eff1 e (Nat.zero_le _) (by omega) hee _ hoe).1 es)
     have hSp:SS i=SS p:=hSS p i hpi (by omega) (fun e h1 h2=>by
      cases hee:eff e with
      | false=>rfl
      | true=>have:=(hpe e (by omega) hee).1 (before e h2 hee);omega)
     refine next (i+1) (by omega) (fun e hen hee=>?_) (by rw [← hSp];exact hn)
     by_cases hie:i=e
     ·subst hie;simp
     ·rw [if_neg hie]
      constructor
      ·intro hl
       rcases Nat.lt_or_ge e (i+1) with h | h
       ·exact h
       ·obtain ⟨oe,hoe⟩:=dk.at_ e hen
        have:=dk.effs i e (by omega) hen es (D.eff1 e (Nat.zero_le _) hen hee _ hoe).1
        have h2:=notbit e hen hl
        rw [this] at h2;cases h2
      ·intro hlt
       exact before e (by omega) hee
end
def AB (a b:Nat):List Nat→(Nat→Bool)→Prop
 | [],_=>True
 | i::l,listed=>(i=b→listed a=true)∧AB a b l (fun j=>if i=j then true else listed j)
theorem AB_done {a b:Nat}:∀ (l:List Nat)(listed:Nat→Bool),listed a=true→AB a b l listed
 | [],_,_=>trivial
 | i::l,listed,h=>⟨fun _=>h,AB_done l _ (by simp [h])⟩
theorem AB_or {a b:Nat}(hne:a≠b):∀ (l:List Nat)(listed:Nat→Bool),AB a b l listed∨AB b a l listed
 | [],_=>.inl trivial
 | i::l,listed=>by
   by_cases ha:i=a
   ·subst ha
    exact .inl ⟨fun h=>absurd h hne,AB_done l _ (by simp)⟩
   ·by_cases hb:i=b
    ·subst hb
     exact .inr ⟨fun h=>absurd h.symm hne,AB_done l _ (by simp)⟩
    ·rcases AB_or hne l (fun j=>if i=j then true else listed j) with h | h
     ·exact .inl ⟨fun h'=>absurd h' hb,h⟩
     ·exact .inr ⟨fun h'=>absurd h' ha,h⟩
theorem AB_of {bp:Nat→Nat→Bool}{n a b c:Nat}(hb:b<n)(hbc:bp b c=true):∀ (l:List Nat)(listed:Nat→Bool),OrdP bp n l listed→AB a b l listed→(listed b=true→listed a=true)→AB a c l listed
 | [],_,_,_,_=>trivial
 | i::l,listed,⟨_,_,g3,g4⟩,⟨h1,h2⟩,h3=>⟨fun hi=>h3 (g3 b hb (by rw [hi];exact hbc)),AB_of hb hbc l _ g4 h2 (fun hl=>by
    by_cases hib:i=b
    ·by_cases hia:i=a
     ·simp [hia]
     ·simp [hia,h1 hib]
    ·simp only [hib,if_false] at hl
     by_cases hia:i=a
     ·simp [hia]
     ·simp [hia,h3 hl])⟩
theorem OrdP.congr {bp:Nat→Nat→Bool}{n:Nat}:∀ (l:List Nat){f g:Nat→Bool},(∀ p,p<n→f p=g p)→OrdP bp n l f→OrdP bp n l g
 | [],f,g,h,ho=>fun j hj=>by rw [← h j hj];exact ho j hj
 | i::l,f,g,h,⟨g1,g2,g3,g4⟩=>⟨g1,by rw [← h i g1];exact g2,fun e he hb=>by rw [← h e he];exact g3 e he hb,OrdP.congr l (fun p hp=>by
    by_cases hi:i=p
    ·simp [hi]
    ·simp [hi,h p hp]) g4⟩
theorem OrdP.map {bp:Nat→Nat→Bool}{n:Nat}{σ ix:Nat→Nat}(h1:∀ i,i<n→σ i<n∧ix (σ i)=i)(h2:∀ p,p<n→ix p<n∧σ (ix p)=p){asm:List (Nat × Nat)}:∀ (l:List Nat)(listed:Nat→Bool),OrdP bp n l listed →
 (∀ ab,ab∈asm→AB ab.1 ab.2 l listed)→OrdP (fun q p=>bp (ix q) (ix p)||asm.contains (ix q,ix p)) n (l.map σ) (fun p=>listed (ix p))∧(l.map σ).map ix=l
 | [],listed,h,_=>⟨fun j hj=>h _ (h2 j hj).1,rfl⟩
 | i::l,listed,h,ha=>by
   obtain ⟨g1,g2,g3,g4⟩:=h
   obtain ⟨k1,k2⟩:=h1 i g1
   have ih:=OrdP.map h1 h2 l _ g4 (fun ab hab=>(ha ab hab).2)
   refine ⟨⟨k1,by simp only [k2];exact g2,fun e he hb=>?_,OrdP.congr _ (fun p hp=>?_) ih.1⟩,by simp only [List.map_cons,k2,ih.2]⟩
   ·simp only [k2,Bool.or_eq_true] at hb
    rcases hb with hb | hb
    ·exact g3 _ (h2 e he).1 hb
    ·have hm:=List.contains_iff_mem.1 hb
     exact (ha _ hm).1 rfl
   ·by_cases hi:i=ix p
    ·have:σ i=p:=by rw [hi];exact (h2 p hp).2
     simp only [this,if_true,if_pos hi]
    ·have hs:¬ σ i=p:=fun h=>hi (by rw [← h];exact k2.symm)
     simp [hi,hs]
theorem lin_ord {ops:Array Oper}{bs:List Nat}(hb:bitsOk ops bs=true):∀ (fuel t:Nat)(listed:Array Bool),listed.size=ops.size→Closed ops listed→cntU listed ops.size≤fuel →
 OrdP (bitOf bs) ops.size (Region.linearise.go .any ops fuel t listed []) (fun j=>listed.getD j false):=by
 have fin:∀ (listed:Array Bool),(∀ j,j<ops.size→listed.getD j false=true)→OrdP (bitOf bs) ops.size [] (fun j=>listed.getD j false):=fun _ h=>h
 intro fuel
 induction fuel with
 | zero =>
   intro t listed hs hc hcnt
   refine fin listed fun j hj=>?_
   cases hl:listed.getD j false with
   | true=>rfl
   | false =>
     have:j∈(List.range ops.size).filter fun j=>!listed.getD j false:=List.mem_filter.2 ⟨List.mem_range.2 hj,by simp only [hl];rfl⟩
     unfold cntU at hcnt
     have:=List.length_pos_of_mem this
     omega
 | succ fuel ih =>
   intro t listed hs hc hcnt
   simp only [Region.linearise.go]
   change OrdP (bitOf bs) ops.size (match (Region.ready .any ops listed)[t % (Region.ready .any ops listed).length]? with
    | some i=>Region.linearise.go .any ops fuel (t / (Region.ready .any ops listed).length) (listed.setIfInBounds i true) [i]
    | none=>[].reverse) _
   cases hi:(Region.ready .any ops listed)[t % (Region.ready .any ops listed).length]? with
   | none =>
     have hnil:Region.ready .any ops listed=[]:=by
      cases hr:Region.ready .any ops listed with
      | nil=>rfl
      | cons y ys =>
        rw [hr] at hi
        have hlt:t % (y::ys).length<(y::ys).length:=Nat.mod_lt _ (by simp)
        simp at hi
        simp at hlt
        omega
     exact fin listed (all_listed hb hs hnil)
   | some i =>
     obtain ⟨hin,hil,o,ho,hafter⟩:=mem_ready (List.mem_of_getElem? hi)
     have hilf:listed.getD i false=false:=by
      have:i<listed.size:=by omega
      simp [Array.getD,this] at hil ⊢;exact hil
     simp only []
     rw [linearise_go_acc,List.reverse_singleton,List.singleton_append]
     have rbit:∀ e,e<ops.size→bitOf bs e i=true→listed.getD e false=true:=fun e he hbit=>by
      have hk:=List.all_eq_true.1 hb i (List.mem_range.2 hin)
      rw [ho] at hk
      simp only [Bool.and_eq_true,beq_iff_eq] at hk
      unfold bitOf at hbit
      rw [hk.1] at hbit
      rcases bits_fold bs e _ 0 hbit with h | ⟨e',he',hbe,h⟩
      ·simp at h
      ·have hl':=hafter e' he' hbe
       rcases h with rfl | h
       ·exact hl'
       ·have:e'.on<ops.size:=by
         have h2:=List.all_eq_true.1 hk.2 e' he'
         simp only [hbe,Bool.not_true,Bool.or_false] at h2
         have:e'.on<i:=by simpa [Nat.blt_eq] using h2
         omega
        exact hc.bit hb e'.on e this hl' h
     have hcl':Closed ops (listed.setIfInBounds i true):=fun j oj hj hoj e he hb=>by
      rw [getD_set (by omega)] at hj ⊢
      by_cases hie:i=e.on
      ·rw [if_pos hie]
      ·rw [if_neg hie]
       by_cases hij:i=j
       ·subst hij;rw [ho] at hoj;cases hoj;exact hafter e he hb
       ·rw [if_neg hij] at hj;exact hc j oj hj hoj e he hb
     have hcu:=cntU_set hin hs hilf
     refine ⟨hin,hilf,rbit,OrdP.congr _ (fun p _=>?_) (ih _ (listed.setIfInBounds i true) (by simp [hs]) hcl' (by omega))⟩
     rw [getD_set (by omega)]
def bpP (bs:List Nat)(π:List Nat)(asm:List (Nat × Nat))(q p:Nat):Bool:=bitOf bs (π.getD q 0) (π.getD p 0)||asm.contains (π.getD q 0,π.getD p 0)
def okP (ops:Array Oper)(bs π:List Nat)(asm:List (Nat × Nat))(em:Nat):Bool :=
 ((List.range ops.size).all fun i=>Nat.blt (π.idxOf i) ops.size&&π.getD (π.idxOf i) 0==i) &&
 ((List.range ops.size).all fun p=>Nat.blt (π.getD p 0) ops.size&&π.idxOf (π.getD p 0)==p) &&
 (List.range ops.size).all fun i=>match ops[π.getD i 0]? with
   | none=>false
   | some oi=>(List.range ops.size).all fun j=>match ops[π.getD j 0]? with
     | none=>false
     | some oj =>
       (match oj.dst with
         | some t=>!(oi.looksAt ops).contains t||(Nat.blt j i&&bpP bs π asm j i)||(Nat.blt i j&&bpP bs π asm i j)
         | none=>true) &&
       (i==j||(match oi.dst with
         | some t=>oj.dst != some t
         | none=>true)) &&
       (Nat.ble j i||!(em.testBit (π.getD i 0)&&em.testBit (π.getD j 0))||bpP bs π asm i j)
theorem okP_spec {ops:Array Oper}{bs π:List Nat}{asm:List (Nat × Nat)}{em:Nat}(h:okP ops bs π asm em=true) :
 (∀ i,i<ops.size→π.idxOf i<ops.size∧π.getD (π.idxOf i) 0=i)∧(∀ p,p<ops.size→π.getD p 0<ops.size∧π.idxOf (π.getD p 0)=p) ∧
 DrawOkP ops (π.getD · 0) ops.size (bpP bs π asm) (fun j=>em.testBit (π.getD j 0)):=by
 unfold okP at h
 rw [Bool.and_eq_true,Bool.and_eq_true] at h
 obtain ⟨⟨h1,h2⟩,h3⟩:=h
 have key:∀ (i j:Nat) (oi oj:Oper),i<ops.size→j<ops.size→ops[π.getD i 0]?=some oi→ops[π.getD j 0]?=some oj →
  ((match oj.dst with
     | some t=>!(oi.looksAt ops).contains t||(Nat.blt j i&&bpP bs π asm j i)||(Nat.blt i j&&bpP bs π asm i j)
     | none=>true) &&
    (i==j||(match oi.dst with
      | some t=>oj.dst != some t
      | none=>true)) &&
    (Nat.ble j i||!(em.testBit (π.getD i 0)&&em.testBit (π.getD j 0))||bpP bs π asm i j))=true:=fun i j oi oj li lj hi hj=>by
  have a1:=List.all_eq_true.1 h3 i (List.mem_range.2 li)
  rw [hi] at a1
  have a2:=List.all_eq_true.1 a1 j (List.mem_range.2 lj)
  rw [hj] at a2
  exact a2
 have at_:∀ j,j<ops.size→∃ o,ops[π.getD j 0]?=some o:=fun j hj=>by
  have a1:=List.all_eq_true.1 h3 j (List.mem_range.2 hj)
  cases ho:ops[π.getD j 0]? with
  | none=>rw [ho] at a1;cases a1
  | some o=>exact ⟨o,rfl⟩
 refine ⟨fun i hi=>?_,fun p hp=>?_,at_,fun i j oi oj li lj hi hj t ht hm=>?_,fun i j oi oj li lj hi hj hne t ht hc=>?_,fun i j hij lj e1 e2=>?_⟩
 ·have:=List.all_eq_true.1 h1 i (List.mem_range.2 hi)
  simpa [Nat.blt_eq] using this
 ·have:=List.all_eq_true.1 h2 p (List.mem_range.2 hp)
  simpa [Nat.blt_eq] using this
 ·have:=key i j oi oj li lj hi hj
  simp only [Bool.and_eq_true,ht,Bool.or_eq_true,Bool.not_eq_true',Nat.blt_eq] at this
  rcases this.1.1 with (h | h) | h
  ·have hc:(oi.looksAt ops).contains t=true:=List.contains_iff_mem.2 hm
   rw [hc] at h;cases h
  ·exact .inl h
  ·exact .inr h
 ·have:=key i j oi oj li lj hi hj
  simp only [Bool.and_eq_true,ht,Bool.or_eq_true] at this
  rcases this.1.2 with h' | h'
  ·simp at h';exact hne h'
  ·rw [hc] at h';simp at h'
 ·obtain ⟨oi,hi⟩:=at_ i (by omega)
  obtain ⟨oj,hj⟩:=at_ j lj
  have:=key i j oi oj (by omega) lj hi hj
  simp only [Bool.and_eq_true,Bool.or_eq_true,e1,e2] at this
  rcases this.2 with (h' | h') | h'
  ·have:=Nat.le_of_ble_eq_true h';omega
  ·simp at h'
  ·exact h'
section
variable {X:Cx}{B:Bx}{E:Env}{S:St}{w:World}{F:Frm}{a:Act}{N:Nat}{R:AE→St→Prop}
def Way (X:Cx)(N:Nat)(ops:Array Oper)(F:Frm)(S:St)(K:Frm→St→Prop)(l:List Nat):Prop :=
 ∃ (π:List Nat) (asm:List (Nat × Nat)) (em:Nat) (os:List Oper),(∀ ab,ab∈asm→AB ab.1 ab.2 l fun _=>false)∧okP ops (mkBits ops.toList []) π asm em=true∧os.length=ops.size ∧
  (π.map fun i=>ops[i]?)=os.map some∧DrvP X N ops (π.getD · 0) (bpP (mkBits ops.toList []) π asm) (fun j=>em.testBit (π.getD j 0)) os 0 F S [S] [] K
theorem Way.mk {ops:Array Oper}{K:Frm→St→Prop}{l:List Nat}(π:List Nat)(asm:List (Nat × Nat))(em:Nat){os:List Oper}(ha:∀ ab,ab∈asm→AB ab.1 ab.2 l fun _=>false)(hos:(π.filterMap fun i=>ops[i]?)=os)
 (hd:DrvP X N ops (π.getD · 0) (bpP (mkBits ops.toList []) π asm) (fun j=>em.testBit (π.getD j 0)) os 0 F S [S] [] K)(hok:okP ops (mkBits ops.toList []) π asm em=true:=by kernel_rfl)(hl:os.length=ops.size:=by rfl)(hm:(π.map fun i=>ops[i]?)=os.map some:=by rfl):Way X N ops F S K l :=
 ⟨π,asm,em,os,ha,hok,hl,hm,hd⟩
theorem AK.ways {id:Nat}{ops:Array Oper}{k:List Item}(h:∀ l:List Nat,OrdP (bitOf (mkBits ops.toList [])) ops.size l (fun _=>false)→Way X B.fn.ntmps ops F S (fun F' S'=>AK X B k F' S' R) l)(hb:bitsOk ops (mkBits ops.toList [])=true:=by kernel_rfl):AK X B (.code (.region id ops true)::k) F S R:=by
 intro E w a b cs hI hF hn hm hbf
 have hord:=lin_ord hb ops.size (w.tape w.drawn (.order b.fn id)) (Array.replicate ops.size false) (by simp) (fun j o hj=>by simp [Array.getD] at hj) (by
  unfold cntU
  exact Nat.le_trans (List.length_filter_le _ _) (by simp))
 generalize hl:Region.linearise.go .any ops ops.size (w.tape w.drawn (.order b.fn id)) (Array.replicate ops.size false) []=l at hord
 have hord':=OrdP.congr (g:=fun _=>false) l (fun p _=>by simp [Array.getD]) hord
 obtain ⟨π,asm,em,os,ha,hok,hos,hmap,hd⟩:=h l hord'
 obtain ⟨k1,k2,dk⟩:=okP_spec hok
 obtain ⟨o1,o2⟩:=OrdP.map (σ:=π.idxOf) (ix:=(π.getD · 0)) k1 k2 l _ hord' ha
 have hget:∀ j,j<os.length→ops[π.getD (0+j) 0]?=os[j]?:=fun j hj=>by
  have h1:=congrArg (fun l=>l[j]?) hmap
  simp only [List.getElem?_map] at h1
  rw [Nat.zero_add]
  cases hp:π[j]? with
  | none=>rw [hp] at h1;simp [List.getElem?_eq_getElem hj] at h1
  | some i =>
    rw [hp] at h1
    simp only [Option.map_some] at h1
    have:π.getD j 0=i:=by simp [List.getD,hp]
    rw [this]
    cases ho:os[j]? with
    | none=>rw [List.getElem?_eq_getElem hj] at ho;cases ho
    | some o=>rw [ho] at h1;simpa using h1
 obtain ⟨eff,x,FF,SS,h1,h2,h3,D⟩:=DrvP.data os 0 F S [S] [] _ hd hget (by simp) (fun q hq=>by cases hq)
 have hlen:0+os.length=ops.size:=by omega
 rw [hlen] at h3 D
 have hI1:Inv X E (SS 0) { w with drawn:=w.drawn+1 }:=by rw [h2];exact hI.keep (Evol.tapeStep E w _ _) (fun _ _=>rfl)
 have hF1:FR E { w with drawn:=w.drawn+1 } (FDP ops (π.getD · 0) x (fun _=>false) F ops.size) a B.fn.ntmps:=by
  have hF':=hF.step (Evol.tapeStep E w _ _)
  have:FDP ops (π.getD · 0) x (fun _=>false) F ops.size=F:=by
   have:∀ n,FDP ops (π.getD · 0) x (fun _=>false) F n=F:=by
    intro n
    induction n with
    | zero=>rfl
    | succ n ih=>simp only [FDP];exact ih
   exact this _
  rw [this];exact hF'
 obtain ⟨E',w',a',g1,g2,g3,g4⟩:=draw_goP dk D h1 k (l.map π.idxOf) (fun _=>false) a { w with drawn:=w.drawn+1 } E 0 o1
  (fun j e _ _ hj=>by cases hj) (Nat.zero_le _) (fun e he hee=>by simp) hI1 hF1 b cs
 rw [o2] at g1
 have hst:Steps X.P (lone (b.at a (.code (.region id ops true)::k)) cs w) (lone (b.at a' k) cs w'):=by
  refine .head step_region_draw ?_
  simp only [Region.schedule,X.mixed,Bool.true_or,if_true]
  have hl':Region.linearise .any ops (w.tape w.drawn (.order b.fn id))=l:=hl
  rw [hl']
  exact g1
 have g4':=(Evol.tapeStep E w _ _).trans g4
 have hll:=g4'.len
 have nt:E.toks.length=S.toks.length:=by rw [← hI.nt];simp
 have nt':E'.toks.length=(SS ops.size).toks.length:=by rw [← g2.nt];simp
 exact Fin.from hst (g4'.weaken (by rw [hI.nb];exact hn) (by omega)) (h3 E' w' a' b cs g2 g3 (by rw [← g2.nb];have:=hI.nb;omega) (by omega) hbf)
end
section
variable {X:Cx}{B:Bx}{S S':St}{F F':Frm}{R:AE→St→Prop}{ops:Array Oper}{N:Nat}{ix:Nat→Nat}{bp:Nat→Nat→Bool}{em:Nat→Bool}{KK:Frm→St→Prop}
theorem DrvP.runs:∀ (n:Nat)(os:List Oper)(i:Nat)(F:Frm)(pend:List Pend),(∀ k,k<os.length→ops[ix (i+k)]?=os[k]?) →
 DrvP X N ops ix bp em (runK X N ops S n os i F pend).1 (runK X N ops S n os i F pend).2.1 (runK X N ops S n os i F pend).2.2.1 S [S] (runK X N ops S n os i F pend).2.2.2 KK→DrvP X N ops ix bp em os i F S [S] pend KK
 | 0,os,i,F,p,_,h=>h
 | n+1,[],i,F,p,_,h=>h
 | n+1,o::os,i,F,p,hos,h=>by
   have ho:ops[ix i]?=some o:=by have:=hos 0 (by simp);simpa using this
   have hos':∀ k,k<os.length→ops[ix (i+1+k)]?=os[k]?:=fun k hk=>by
    have:=hos (k+1) (by simp;omega)
    rw [show i+1+k=i+(k+1) by omega]
    simpa using this
   unfold runK at h
   split at h
   ·rename_i hw
    split at h
    ·rename_i x hx
     split at h
     ·rename_i F' hF
      obtain ⟨h1,rfl⟩:=putO_eq hF
      split at h
      ·exact .inr (.inl ⟨x,h1,fun S' hS'=>by simp at hS';subst hS';exact Ndo.ev ho hw hx,DrvP.runs n os (i+1) _ _ hos' h⟩)
      ·rename_i hl
       exact .inl ⟨x,h1,fun S'=>Ndo.ev ho hw (by rw [← evalR_free (S:=S) hl];exact hx),DrvP.runs n os (i+1) _ _ hos' h⟩
     ·exact h
    ·split at h
     ·rename_i x hx
      split at h
      ·rename_i F' hF
       obtain ⟨h1,rfl⟩:=putO_eq hF
       exact .inl ⟨x,h1,fun S'=>Ndo.mem ho hw (evalB_free hx S'.boxes S'.toks),DrvP.runs n os (i+1) _ _ hos' h⟩
      ·exact h
     ·exact h
   ·rename_i hw
    split at h
    ·rename_i F' hF
     obtain ⟨h1,rfl⟩:=putO_eq hF
     exact .inl ⟨_,h1,fun S'=>Ndo.skip ho hw,DrvP.runs n os (i+1) _ _ hos' h⟩
    ·exact h
   ·exact h
theorem DrvP.go {os os':List Oper}{i i':Nat}{F':Frm}{pend pend':List Pend}(n:Nat)(k:DrvP X N ops ix bp em os' i' F' S [S] pend' KK)(h:runK X N ops S n os i F pend=(os',i',F',pend'):=by rfl)
 (hos:((List.range os.length).map fun k=>ops[ix (i+k)]?)=os.map some:=by rfl):DrvP X N ops ix bp em os i F S [S] pend KK :=
 DrvP.runs n os i F pend (fun k hk=>by
  have h1:=congrArg (fun l=>l[k]?) hos
  simp only [List.getElem?_map,List.getElem?_range hk,Option.map_some,List.getElem?_eq_getElem hk] at h1
  rw [List.getElem?_eq_getElem hk]
  exact Option.some.inj h1) (by rw [h];exact k)
theorem DrvP.e {os:List Oper}{i:Nat}{o:Oper}{x:AV}{Hs:List St}{pend:List Pend}(k:DrvP X N ops ix bp em os (i+1) F' S Hs pend KK)(ho:ops[ix i]?=some o:=by rfl)(hw:wantA ops F o=some true:=by rfl)(h:∀ S',evalR X F S' o.op=some x:=by intro;rfl)(hF:putO N o.dst x F=some F':=by rfl) :
 DrvP X N ops ix bp em (o::os) i F S Hs pend KK:=by
 obtain ⟨h1,rfl⟩:=putO_eq hF
 exact .inl ⟨x,h1,fun S'=>Ndo.ev ho hw (h S'),k⟩
theorem DrvP.w {os:List Oper}{i:Nat}{o:Oper}{x:AV}{Hs:List St}{pend:List Pend}(h:Ndo X N ops (ix i) o F x S S')(hr:∀ p,p∈pend→Ndo X N ops (ix p.1) p.2.1 p.2.2.1 p.2.2.2 S' S')
 (k:DrvP X N ops ix bp em os (i+1) F' S' (S'::Hs) (pend.filter fun p=>!bp p.1 i) KK)(he:em i=true:=by rfl)(hF:putO N o.dst x F=some F':=by rfl):DrvP X N ops ix bp em (o::os) i F S Hs pend KK:=by
 obtain ⟨h1,rfl⟩:=putO_eq hF
 exact .inr (.inr ⟨x,S',_,he,h1,h,rfl,fun p hp=>hr p (List.mem_filter.1 hp).1,k⟩)
theorem DrvP.w0 {os:List Oper}{i:Nat}{o:Oper}{x:AV}{Hs:List St}{pend:List Pend}(h:Ndo X N ops (ix i) o F x S S')
 (k:DrvP X N ops ix bp em os (i+1) F' S' (S'::Hs) [] KK)(he:em i=true:=by rfl)(hF:putO N o.dst x F=some F':=by rfl)(hp:pend.filter (fun p=>!bp p.1 i)=[]:=by kernel_rfl):DrvP X N ops ix bp em (o::os) i F S Hs pend KK:=by
 obtain ⟨h1,rfl⟩:=putO_eq hF
 exact .inr (.inr ⟨x,S',[],he,h1,h,hp,fun p hp'=>(by cases hp'),k⟩)
theorem DrvP.zj {i:Nat}{Hs:List St}{pend:List Pend}{k K:List Item}{S2:St}(id:Nat)(hk:AK X B K F' S2 R)(he:evT X B.fn.ntmps id 100 k F S=(K,F',S2):=by rfl):DrvP X N ops ix bp em [] i F S Hs pend fun F1 S1=>AK X B k F1 S1 R :=
 AK.evj id 100 he hk
inductive SubR (σ:List Nat)(F:Frm):Frm→Prop where
 | nil:SubR σ F []
 | cons {k:Nat} {x y:AV} {G:Frm} (hx:lk F k=some x) (hr:RinC σ [] x y) (t:SubR σ F G):SubR σ F ((k,y)::G)
theorem SubR.get {σ:List Nat}{G:Frm}(h:SubR σ F G):∀ k y,lk G k=some y→∃ x,lk F k=some x∧Ren true σ [] x y:=by
 induction h with
 | nil=>intro k y hy;simp [lk] at hy
 | cons hx hr t ih =>
   intro k y hy
   rw [lk_cons] at hy
   split at hy
   ·rename_i hk;subst hk;cases hy;exact ⟨_,hx,hr.s⟩
   ·exact ih k y hy
instance {n m c:Nat}{x:List AV} [h:OKL n m x]:OKR n m (List.replicate c x):=⟨fun r hr=>by rw [List.eq_of_mem_replicate hr];exact h.ok⟩
theorem AK.perm {f:FuncId}{fn:Func}{K:List Item}{G:Frm}{bx bx2:List (List (List AV))}(σ:List Nat)(hk:AK X ⟨f,fn,0,0⟩ K G ⟨bx2,[]⟩ R)(hG:SubR σ F G)(hS:S=⟨bx,[]⟩)(hn:nodupN σ=true)(hl:σ.length=bx.length)(hlt:(σ.all fun i=>Nat.blt i bx.length)=true)(hal:((List.range bx.length).all fun i=>σ.contains i)=true)
 {bx3:List (List (List AV))}(hsb:(σ.map fun i=>bx.getD i [])=bx3:=by rfl) [hb:RinB σ [] bx3 bx2]:AK X ⟨f,fn,0,0⟩ K F S R:=by
 subst hS;subst hsb
 intro E w a b cs hI hF _ _ hbf
 have nt0:E.toks=[]:=by have:=hI.nt;simpa using this
 have hσ:=nodupN_eq hn
 have hσl:∀ i,i∈σ→i<bx.length:=fun i hi=>by have:=List.all_eq_true.1 hlt i hi;simpa [Nat.blt_eq] using this
 have hτl:∀ t,t∈([]:List Nat)→t<E.toks.length:=fun t h=>by cases h
 have hI2:=(hI.sub (Sc:=⟨bx2,[]⟩) hσ List.nodup_nil hτl hb.s hσl rfl).dfE E.df
 have hall:∀ i,i<bx.length→i∈σ:=by
  intro i hi
  have:=List.all_eq_true.1 hal i (List.mem_range.2 hi)
  exact List.contains_iff_mem.1 this
 have hown:∀ b,E.own b↔E.ownS σ [] b:=fun b=>by
  constructor
  ·rintro (⟨i,s,h⟩ | ⟨t,l,c,s,h⟩)
   ·have:=lt_of_get h
    rw [hI.nb] at this
    exact .inl ⟨i,s,hall i this,h⟩
   ·rw [nt0] at h;simp at h
  ·exact ownS_own
 have hfr:((E.sub σ []).dfs E.df).fr=E.fr:=by
  funext b o
  apply propext
  show (E.mt b o∧¬ E.ownS σ [] b)↔E.fr b o
  constructor
  ·rintro ⟨h,hn⟩
   rcases mt_own hI h with h' | h'
   ·exact absurd ((hown b).1 h') hn
   ·exact h'
  ·exact fun h=>⟨.inl h,fun ho=>(hI.frlt b o h).1 ((hown b).2 ho)⟩
 have ev:Evol E w ((E.sub σ []).dfs E.df) w 0 0 :=
  ⟨hfr,fun i hi=>absurd hi (Nat.not_lt_zero _),fun t ht=>absurd ht (Nat.not_lt_zero _),rfl,rfl,rfl,Nat.le_refl _,fun _ _ _=>rfl,fun _ _ _ _ h=>h,fun b o _ h=>sub_mt hτl h,fun b _ h=>ownS_own ((sub_own hτl).1 h),rfl,fun _ _ h=>h,fun t ht=>absurd ht (Nat.not_lt_zero _)⟩
 refine Fin.from (Steps.refl _ _) ev (hk _ w a b cs hI2 ⟨hF.size,hF.nod,fun k y hy=>?_⟩ (Nat.zero_le _) (Nat.zero_le _) hbf)
 obtain ⟨x,hx,hr⟩:=hG.get k y hy
 obtain ⟨v,hv,hrel⟩:=hF.rel k x hx
 exact ⟨v,hv,(hr.fwd (Eb:=(E.sub σ []).dfs E.df) (fun b o h=>sub_mt hτl h) (fun i j q h1 h2=>(sub_box (E:=E) (σ:=σ) (τ:=[])).2 ⟨i,h1,h2⟩) (fun i j k h1 h2=>by simp at h1) hrel)⟩
end
end Go.V
namespace Go.V
open Go Go.Proofs
theorem checkS_0 {n:Nd}(h:rightS n=true):checkS n=(0,[])∧progOkS n=true∧progOkS (plainM n)=true:=by
 unfold rightS at h
 have h0:(checkS n).1=0:=by simpa using h
 unfold checkS at h0 ⊢
 split at h0
 ·rename_i h1
  rw [if_pos h1]
  split at h0
  ·simp at h0
  ·rename_i h2
   rw [if_neg h2]
   split at h0
   ·simp at h0
   ·rename_i h3
    rw [if_neg h3]
    split at h0
    ·simp at h0
    ·rename_i h4
     split at h0
     ·simp at h0
     ·rename_i h5
      split at h0
      ·simp at h0
      ·rename_i h6
       split at h0
       ·rename_i h7
        simp [h1,h5,h6,h7]
       ·simp at h0
 ·simp at h0
theorem right_facts {n:Nd}(h:rightS n=true):FP n∧countN n≤500∧wN n≤4500∧n.kids≠[]∧n.kids.length≤4500:=by
 obtain ⟨fp,hc,_⟩:=progOkS_FP (checkS_0 h).2.1
 have hw:=wN_formed n (FP_formed fp)
 have hk:=kids_le_w n
 have hne:n.kids≠[]:=by cases fp;simp
 exact ⟨fp,hc,by omega,hne,by omega⟩
def ledI (f:Eg→Int)(p:Nat)(k:Nat):List Eg→List Nat
 | []=>[]
 | e::l=>if f e=p then k::ledI f p (k+1) l else ledI f p (k+1) l
def ledL (f:Eg→Int)(l:List Eg)(p:Nat):List Nat:=ledI f p 0 l
theorem ledI_snoc (f:Eg→Int)(p:Nat)(e:Eg):∀ (l:List Eg)(k:Nat),ledI f p k (l++[e])=ledI f p k l++(if f e=p then [k+l.length] else [])
 | [],k=>by simp [ledI]
 | x::l,k=>by
   simp only [List.cons_append,ledI,List.length_cons]
   rw [ledI_snoc f p e l (k+1),show k+1+l.length=k+(l.length+1) by omega]
   split<;>simp
theorem ledI_len (f:Eg→Int)(p:Nat):∀ (l:List Eg)(k:Nat),(ledI f p k l).length≤l.length
 | [],k=>by simp [ledI]
 | x::l,k=>by
   simp only [ledI,List.length_cons]
   have:=ledI_len f p l (k+1)
   split<;>simp<;>omega
def tkR (m:Nat)(f:Eg→Int)(l:List Eg)(pts:Nat):List (List AV):=(List.range pts).map fun p=>[AV.sl (irs (ledL f l p)) (.tok (m+p))]
def tkL (f:Eg→Int)(l:List Eg)(pts:Nat):List Nat:=(List.range pts).map fun p=>(ledL f l p).length
theorem tkR_len (m:Nat)(f:Eg→Int)(l:List Eg)(pts:Nat):(tkR m f l pts).length=pts:=by simp [tkR]
theorem tkL_len (f:Eg→Int)(l:List Eg)(pts:Nat):(tkL f l pts).length=pts:=by simp [tkL]
theorem tkR_get (m:Nat)(f:Eg→Int)(l:List Eg){pts j:Nat}(h:j<pts):(tkR m f l pts)[j]?=some [AV.sl (irs (ledL f l j)) (.tok (m+j))]:=by simp [tkR,h]
theorem tkL_get (f:Eg→Int)(l:List Eg){pts j:Nat}(h:j<pts):(tkL f l pts)[j]?=some (ledL f l j).length:=by simp [tkL,h]
theorem led_snoc (f:Eg→Int){l:List Eg}{i:Nat}{e:Eg}(h:l[i]?=some e)(p:Nat):ledL f (l.take (i+1)) p=ledL f (l.take i) p++(if f e=p then [i] else []):=by
 have hi:=lt_of_get h
 unfold ledL
 rw [List.take_add_one,h]
 simp only [Option.toList_some]
 rw [ledI_snoc,Nat.zero_add,List.length_take,Nat.min_eq_left (by omega)]
theorem tkR_set (m:Nat)(f:Eg→Int){l:List Eg}{i j pts:Nat}{e:Eg}(h:l[i]?=some e)(hj:f e=j):(tkR m f (l.take i) pts).set j [AV.sl (irs (ledL f (l.take i) j++[i])) (.tok (m+j))]=tkR m f (l.take (i+1)) pts:=by
 apply List.ext_getElem?
 intro k
 rw [List.getElem?_set,tkR_len]
 by_cases hk:j=k
 ·subst hk
  rw [if_pos rfl]
  by_cases hp:j<pts
  ·rw [if_pos hp,tkR_get _ _ _ hp,led_snoc f h,if_pos hj]
  ·rw [if_neg hp,List.getElem?_eq_none (by rw [tkR_len];omega)]
 ·rw [if_neg hk]
  by_cases hp:k<pts
  ·rw [tkR_get _ _ _ hp,tkR_get _ _ _ hp,led_snoc f h,if_neg (by rw [hj];omega),List.append_nil]
  ·rw [List.getElem?_eq_none (by rw [tkR_len];omega),List.getElem?_eq_none (by rw [tkR_len];omega)]
theorem tkL_set (f:Eg→Int){l:List Eg}{i j pts:Nat}{e:Eg}(h:l[i]?=some e)(hj:f e=j):(tkL f (l.take i) pts).set j ((ledL f (l.take i) j).length+1)=tkL f (l.take (i+1)) pts:=by
 apply List.ext_getElem?
 intro k
 rw [List.getElem?_set,tkL_len]
 by_cases hk:j=k
 ·subst hk
  rw [if_pos rfl]
  by_cases hp:j<pts
  ·rw [if_pos hp,tkL_get _ _ hp,led_snoc f h,if_pos hj];simp
  ·rw [if_neg hp,List.getElem?_eq_none (by rw [tkL_len];omega)]
 ·rw [if_neg hk]
  by_cases hp:k<pts
  ·rw [tkL_get _ _ hp,tkL_get _ _ hp,led_snoc f h,if_neg (by rw [hj];omega),List.append_nil]
  ·rw [List.getElem?_eq_none (by rw [tkL_len];omega),List.getElem?_eq_none (by rw [tkL_len];omega)]
theorem tkR_ok {n M m pts:Nat}(f:Eg→Int)(l:List Eg)(h:m+pts≤M):RowsOk n M (tkR m f l pts):=fun r hr x hx=>by
 obtain ⟨p,hp,rfl⟩:=List.mem_map.1 hr
 simp at hx;subst hx
 have:=List.mem_range.1 hp
 exact .sl _ _ ((inferInstance:OKR n M (irs (ledL f l p))).ok) (fun t ht=>by cases ht;omega)
def ledR (f:Eg→Int)(l:List Eg)(pts:Nat):List (List AV):=(List.range pts).map fun p=>[.sl (irs (ledL f l p)) .no]
def progC (n:Nd):List AV :=
 vi (gAll (planL n)).pts::.sl (erows (gEs (planL n))) .no::.sl (strR (declS n 31)) .no::.sl (strR (declS n 32)) .no::.sl (zrs (sizesT n)) .no ::
  .sl (ledR Eg.f (gEs (planL n)) (gAll (planL n)).pts) .no::.sl (ledR Eg.t (gEs (planL n)) (gAll (planL n)).pts) .no::ncells (plainM n)
theorem led_fz {S:St}{m b pts:Nat}(f:Eg→Int)(l:List Eg)(hS:S.boxes[b]?=some (tkR m f l pts))(hp:pts≤maxN):Fz S 0 0 (.bsl b pts) (.sl (ledR f l pts) .no):=by
 refine .bsl b pts (tkR m f l pts) (ledR f l pts) (Nat.zero_le _) hS (by rw [tkR_len];exact Nat.le_refl _) hp (by simp [ledR]) (fun i r r' h1 h2=>?_) (fun i j r r' x y h1 h2 h3 h4=>?_)
 ·have hi:=lt_of_get h1
  rw [tkR_len] at hi
  rw [tkR_get _ _ _ hi] at h1
  simp only [ledR,List.getElem?_map,List.getElem?_range hi,Option.map_some] at h2
  cases h1;cases h2;rfl
 ·have hi:=lt_of_get h1
  rw [tkR_len] at hi
  rw [tkR_get _ _ _ hi] at h1
  simp only [ledR,List.getElem?_map,List.getElem?_range hi,Option.map_some] at h2
  cases h1;cases h2
  cases j with
  | zero=>simp at h3 h4;subst h3;subst h4;exact Fz_sl (FzR.same ((inferInstance:OKR 0 0 (irs (ledL f l i))).ok))
  | succ j=>simp at h3
set_option maxHeartbeats 2000000 in
theorem q_newProgram (n:Nd)(hn:countN n≤1000000000)(hnum:PrI n) :
 Pure X 61 [nd n] (if rightS n=true then .tup [.cptr (progC n),vb true] else .tup [.val (.pointer none),vb false]):=by
 have hfl:flatTy X.P 107=some [0,1]:=by kernel_rfl
 refine Pure.run Tryz.func61 ?_
 refine AK.pc (q_check n hn hnum) ?_
 refine AK.op (Ndo.eqs (r:=!(((checkS n).1==0)&&(((checkS n).2==[])&&true))) rfl rfl rfl rfl rfl hfl rfl (.inr ⟨rfl,rfl⟩)) ?_
 by_cases hr:rightS n=true
 ·obtain ⟨hC,h1,h2⟩:=checkS_0 hr
  obtain ⟨fp,hc,hw,hne,hkl⟩:=right_facts hr
  rw [if_pos hr]
  have hpv:planV n=plainM n:=by unfold planV;rw [hC];rfl
  rw [hC,hpv]
  refine AK.no ?_
  obtain ⟨ds,hpl,_,hps,hwl⟩:=FP_plan fp
  have hpw:=(plain_w n).1
  have hkp:=kids_le_w (plainM n)
  have hgr:Pure X 100 [nd (plainM n)] (.agg [vi (gAll (planL n)).pts,.sl (erows (gEs (planL n))) .no]):=j_graphOf (plainM n) (by rw [hpl];simp) hps (show wL (planL n)≤_ by omega) (by omega)
  refine AK.db 1024 ?_
  refine Drv.pg hgr ?_
  refine Drv.pg (q_namesOf n 31 hne (by omega)) ?_
  refine Drv.pg (q_namesOf n 32 hne (by omega)) ?_
  refine Drv.pg (q_sizesOf n hne (by omega)) ?_
  refine Drv.w (Ndo.mem rfl rfl rfl) ?_
  refine Drv.e ?_
  refine Drv.z ?_
  have hps2:=PSL_le hps nd0 ⟨1,0,[],[],[],0⟩ (by decide)
  have hpts:(gAll (planL n)).pts≤2000000∧(gEs (planL n)).length≤2000000∧∀ e,e∈gEs (planL n)→(0≤e.f∧e.f<(gAll (planL n)).pts)∧0≤e.t∧e.t<(gAll (planL n)).pts:=by
   have hl:=leaf_le 6 nd0 hps2.pt
   have hA:=hps2.trans hl (Nat.le_refl _)
   obtain ⟨es,e1,e2,e3⟩:=hA.es
   have hpp:=hA.pts
   simp only [bG] at e2 hpp
   have hes:(gAll (planL n)).es=es:=by unfold gAll;rw [e1];rfl
   have hpt:(gAll (planL n)).pt<(gAll (planL n)).pts:=hA.pt
   refine ⟨by show _≤_;unfold gAll;have:(1:Nat)=(⟨1,0,[],[],[],0⟩:Gr).pts:=rfl;omega,by unfold gEs;rw [hes,List.length_map];omega,fun e he=>?_⟩
   unfold gEs at he
   rw [hes] at he
   obtain ⟨e0,h0,rfl⟩:=List.mem_map.1 he
   obtain ⟨q1,q2⟩:=e3 e0 h0
   have q1':0≤e0.f∧e0.f<(gAll (planL n)).pts:=q1
   have q2':e0.t=-1∨(0≤e0.t∧e0.t<(gAll (planL n)).pts):=q2
   unfold toExit
   split
   ·exact ⟨q1',by simp;omega⟩
   ·exact ⟨q1',by omega⟩
  obtain ⟨hp1,hp2,hp3⟩:=hpts
  unfold progC
  generalize gEs (planL n)=es at *
  generalize (gAll (planL n)).pts=pts at *
  let prow (x y:AV):List AV:=vi pts::.sl (erows es) .no::.sl (strR (declS n 31)) .no::.sl (strR (declS n 32)) .no::.sl (zrs (sizesT n)) .no::x::y::ncells (plainM n)
  let bxs (x y:AV):List (List (List AV)):=[[ncells n],[ncells (plainM n)],[[vi 0,str []]],[prow x y],List.replicate pts [.sl [] .tight],List.replicate pts [.sl [] .tight]]
  have L6:AK X ⟨61,Tryz.f61,0,0⟩ (locG false 6 Tryz.f61) [(6,.ptr 3 0 0)] ⟨bxs (.bsl 4 pts) (.bsl 5 pts),[]⟩
   (fun e S=>e=.ret (.tup [.cptr (vi pts::.sl (erows es) .no::.sl (strR (declS n 31)) .no::.sl (strR (declS n 32)) .no::.sl (zrs (sizesT n)) .no::.sl (ledR Eg.f es pts) .no::.sl (ledR Eg.t es pts) .no::ncells (plainM n)),vb true])∧S=⟨[],[]⟩):=by
   refine AK.at_ ?_
   refine AK.mintAll (bx:=[[ncells n],[ncells (plainM n)],[[vi 0,str []]],[prow (.bsl 4 pts) (.bsl 5 pts)],tkR 0 Eg.f [] pts,List.replicate pts [.sl [] .tight]]) (tk:=List.replicate pts 0) 4 pts 0 rfl rfl rfl rfl ?_
   refine AK.mintAll (bx:=[[ncells n],[ncells (plainM n)],[[vi 0,str []]],[prow (.bsl 4 pts) (.bsl 5 pts)],tkR 0 Eg.f [] pts,tkR pts Eg.t [] pts]) (tk:=List.replicate pts 0++List.replicate pts 0) 5 pts pts rfl (by simp) rfl rfl ?_
   refine AK.sto ⟨[[ncells n],[ncells (plainM n)],[[vi 0,str []]],[prow (.bsl 4 pts) (.bsl 5 pts)],tkR 0 Eg.f (es.take 0) pts,tkR pts Eg.t (es.take 0) pts],tkL Eg.f (es.take 0) pts++tkL Eg.t (es.take 0) pts⟩ ?_ (by
    have:∀ f:Eg→Int,tkL f (es.take 0) pts=List.replicate pts 0:=fun f=>List.eq_replicate_iff.2 ⟨tkL_len f _ pts,fun b hb=>by obtain ⟨p,_,rfl⟩:=List.mem_map.1 hb;rfl⟩
    rw [this,this];rfl)
   refine AK.ev 100 rfl ?_
   refine AK.while_ (ι:=Nat) 6 (pts+pts) (fun i=>i≤es.length) (fun i=>[(52,vi i),(51,vi es.length),(50,.sl (erows es) .no),(6,.ptr 3 0 0)])
    (fun i=>⟨[[ncells n],[ncells (plainM n)],[[vi 0,str []]],[prow (.bsl 4 pts) (.bsl 5 pts)],tkR 0 Eg.f (es.take i) pts,tkR pts Eg.t (es.take i) pts],tkL Eg.f (es.take i) pts++tkL Eg.t (es.take i) pts⟩) (fun i=>es.length-i) ?_ 0
    (Nat.zero_le _) ⟨rfl,by rw [← erows_len es];rfl,rfl,rfl,trivial⟩ ?_ rfl (by simp) rfl ?_ (fun _=>inferInstance) (fun i=>⟨?_⟩)
   ·intro i hi IH
    refine AK.ev 100 rfl ?_
    refine AK.if_ (fun h=>?_) (fun h=>?_)
    ·have hlt:i<es.length:=by have:=of_decide_eq_true h;omega
     obtain ⟨⟨ef,et,ek,ey,en⟩,he⟩:=lget_of_lt es hlt
     obtain ⟨⟨q1,q2⟩,q3,q4⟩:=hp3 _ (List.mem_of_getElem? he)
     simp only at q1 q2 q3 q4
     obtain ⟨j,rfl⟩:=Int.eq_ofNat_of_zero_le q1
     obtain ⟨j',rfl⟩:=Int.eq_ofNat_of_zero_le q3
     have hj:j<pts:=by omega
     have hj':j'<pts:=by omega
     refine AK.ix i (by omega) (erows_get he) ?_
     refine AK.db 327680 ?_
     refine Drv.lo (Ndo.atB (j:=j) rfl rfl rfl rfl rfl rfl rfl rfl (by simpa [Nat.blt_eq] using hj) rfl (tkR_get 0 Eg.f _ hj) rfl) ?_
     refine Drv.lo (Ndo.loadB rfl (tkR_get 0 Eg.f _ hj) rfl rfl rfl rfl rfl rfl rfl) ?_
     refine Drv.go ?_
     have hlf:=ledI_len Eg.f j (es.take i) 0
     have hlt':=ledI_len Eg.t j' (es.take i) 0
     have htk:(es.take i).length=i:=by simp;omega
     have hlF:(tkL Eg.f (es.take i) pts).length=pts:=tkL_len _ _ _
     have hkF:(tkL Eg.f (es.take i) pts++tkL Eg.t (es.take i) pts)[0+j]?=some (ledL Eg.f (es.take i) j).length:=by
      rw [Nat.zero_add,List.getElem?_append_left (by omega)];exact tkL_get _ _ hj
     refine Drv.wl (S':=⟨[[ncells n],[ncells (plainM n)],[[vi 0,str []]],[prow (.bsl 4 pts) (.bsl 5 pts)],tkR 0 Eg.f (es.take i) pts,tkR pts Eg.t (es.take i) pts,[erow ⟨j,j',ek,ey,en⟩]],tkL Eg.f (es.take (i+1)) pts++tkL Eg.t (es.take i) pts⟩)
      (Ndo.append (res:=irs (ledL Eg.f (es.take i) j++[i])) rfl rfl rfl rfl rfl rfl rfl rfl rfl rfl rfl rfl rfl hkF (irs_len _) (irs_al _) rfl rfl rfl ?_ (irs_snoc _ i) ?_) ?_ ?_
     ·rw [irs_len];unfold ledL;show _+1≤_;omega
     ·show (tkL Eg.f (es.take i) pts++tkL Eg.t (es.take i) pts).set (0+j) ((irs (ledL Eg.f (es.take i) j)).length+1)=_
      rw [Nat.zero_add,irs_len,List.set_append_left _ _ (by omega),tkL_set Eg.f he rfl]
     ·refine strip_eq (Ndo.loadB rfl (tkR_get 0 Eg.f _ hj) rfl rfl rfl rfl rfl rfl rfl) (strip_eq (Ndo.atB (j:=j) rfl rfl rfl rfl rfl rfl rfl rfl (by simpa [Nat.blt_eq] using hj) rfl (tkR_get 0 Eg.f _ hj) rfl) ?_)
      exact strip_eq (Ndo.ev rfl rfl rfl) (strip_eq (Ndo.ev rfl rfl rfl) (strip_eq (Ndo.ev rfl rfl rfl) (strip_eq (Ndo.ev rfl rfl rfl) allN)))
     refine Drv.look (strip_eq (Ndo.atB (j:=j) rfl rfl rfl rfl rfl rfl rfl rfl (by simpa [Nat.blt_eq] using hj) rfl (tkR_get 0 Eg.f _ hj) rfl) (strip_eq (Ndo.atB (j:=j) rfl rfl rfl rfl rfl rfl rfl rfl (by simpa [Nat.blt_eq] using hj) rfl (tkR_get 0 Eg.f _ hj) rfl) allN)) rfl ?_
     refine Drv.w (Ndo.store rfl rfl rfl rfl rfl rfl (storeA_row rfl (tkR_get 0 Eg.f _ hj) rfl rfl rfl)) ?_
     refine Drv.z ?_
     refine AK.sto ⟨[[ncells n],[ncells (plainM n)],[[vi 0,str []]],[prow (.bsl 4 pts) (.bsl 5 pts)],tkR 0 Eg.f (es.take (i+1)) pts,tkR pts Eg.t (es.take i) pts,[erow ⟨j,j',ek,ey,en⟩]],tkL Eg.f (es.take (i+1)) pts++tkL Eg.t (es.take i) pts⟩ ?_ (by
      rw [← tkR_set 0 Eg.f he rfl];rfl)
     refine AK.db 327680 ?_
     refine Drv.lo (Ndo.atB (j:=j') rfl rfl rfl rfl rfl rfl rfl rfl (by simpa [Nat.blt_eq] using hj') rfl (tkR_get pts Eg.t _ hj') rfl) ?_
     refine Drv.lo (Ndo.loadB rfl (tkR_get pts Eg.t _ hj') rfl rfl rfl rfl rfl rfl rfl) ?_
     refine Drv.go ?_
     have hkT:(tkL Eg.f (es.take (i+1)) pts++tkL Eg.t (es.take i) pts)[pts+j']?=some (ledL Eg.t (es.take i) j').length:=by
      rw [List.getElem?_append_right (by rw [tkL_len];omega),tkL_len,Nat.add_sub_cancel_left];exact tkL_get _ _ hj'
     refine Drv.wl (S':=⟨[[ncells n],[ncells (plainM n)],[[vi 0,str []]],[prow (.bsl 4 pts) (.bsl 5 pts)],tkR 0 Eg.f (es.take (i+1)) pts,tkR pts Eg.t (es.take i) pts,[erow ⟨j,j',ek,ey,en⟩]],tkL Eg.f (es.take (i+1)) pts++tkL Eg.t (es.take (i+1)) pts⟩)
      (Ndo.append (res:=irs (ledL Eg.t (es.take i) j'++[i])) rfl rfl rfl rfl rfl rfl rfl rfl rfl rfl rfl rfl rfl hkT (irs_len _) (irs_al _) rfl rfl rfl ?_ (irs_snoc _ i) ?_) ?_ ?_
     ·rw [irs_len];unfold ledL;show _+1≤_;omega
     ·show (tkL Eg.f (es.take (i+1)) pts++tkL Eg.t (es.take i) pts).set (pts+j') ((irs (ledL Eg.t (es.take i) j')).length+1)=_
      rw [irs_len,List.set_append_right _ _ (by rw [tkL_len];omega),tkL_len,Nat.add_sub_cancel_left,tkL_set Eg.t he rfl]
     ·refine strip_eq (Ndo.loadB rfl (tkR_get pts Eg.t _ hj') rfl rfl rfl rfl rfl rfl rfl) (strip_eq (Ndo.atB (j:=j') rfl rfl rfl rfl rfl rfl rfl rfl (by simpa [Nat.blt_eq] using hj') rfl (tkR_get pts Eg.t _ hj') rfl) ?_)
      exact strip_eq (Ndo.ev rfl rfl rfl) (strip_eq (Ndo.ev rfl rfl rfl) (strip_eq (Ndo.ev rfl rfl rfl) (strip_eq (Ndo.ev rfl rfl rfl) allN)))
     refine Drv.look (strip_eq (Ndo.atB (j:=j') rfl rfl rfl rfl rfl rfl rfl rfl (by simpa [Nat.blt_eq] using hj') rfl (tkR_get pts Eg.t _ hj') rfl) (strip_eq (Ndo.atB (j:=j') rfl rfl rfl rfl rfl rfl rfl rfl (by simpa [Nat.blt_eq] using hj') rfl (tkR_get pts Eg.t _ hj') rfl) allN)) rfl ?_
     refine Drv.w (Ndo.store rfl rfl rfl rfl rfl rfl (storeA_row rfl (tkR_get pts Eg.t _ hj') rfl rfl rfl)) ?_
     refine Drv.z ?_
     refine AK.sto ⟨[[ncells n],[ncells (plainM n)],[[vi 0,str []]],[prow (.bsl 4 pts) (.bsl 5 pts)],tkR 0 Eg.f (es.take (i+1)) pts,tkR pts Eg.t (es.take (i+1)) pts,[erow ⟨j,j',ek,ey,en⟩]],tkL Eg.f (es.take (i+1)) pts++tkL Eg.t (es.take (i+1)) pts⟩ ?_ (by
      rw [← tkR_set pts Eg.t he rfl];rfl)
     refine IH (i+1) hlt (by omega) _ _ ⟨vint ((wrap_small (by omega) (by omega)).trans (by omega)),rfl,rfl,rfl,trivial⟩ ?_ rfl ?_
     ·exact congrArg (St.mk _) (List.take_of_length_le (by simp [tkL_len]))
     ·show Nat.ble (pts+pts) (tkL Eg.f (es.take (i+1)) pts++tkL Eg.t (es.take (i+1)) pts).length=true
      simp [tkL_len]
    ·have:i=es.length:=by have:=of_decide_eq_false h;omega
     subst this
     rw [List.take_length]
     have f1:=led_fz (S:=⟨[[ncells n],[ncells (plainM n)],[[vi 0,str []]],[prow (.bsl 4 pts) (.bsl 5 pts)],tkR 0 Eg.f es pts,tkR pts Eg.t es pts],tkL Eg.f es pts++tkL Eg.t es pts⟩) (b:=4) (m:=0) (pts:=pts) Eg.f es rfl (by unfold maxN;omega)
     have f2:=led_fz (S:=⟨[[ncells n],[ncells (plainM n)],[[vi 0,str []]],[prow (.bsl 4 pts) (.bsl 5 pts)],tkR 0 Eg.f es pts,tkR pts Eg.t es pts],tkL Eg.f es pts++tkL Eg.t es pts⟩) (b:=5) (m:=pts) (pts:=pts) Eg.t es rfl (by unfold maxN;omega)
     haveI i1:FzC ⟨[[ncells n],[ncells (plainM n)],[[vi 0,str []]],[prow (.bsl 4 pts) (.bsl 5 pts)],tkR 0 Eg.f es pts,tkR pts Eg.t es pts],tkL Eg.f es pts++tkL Eg.t es pts⟩ 0 0 (.bsl 4 pts) (.sl (ledR Eg.f es pts) .no):=⟨f1⟩
     haveI i2:FzC ⟨[[ncells n],[ncells (plainM n)],[[vi 0,str []]],[prow (.bsl 4 pts) (.bsl 5 pts)],tkR 0 Eg.f es pts,tkR pts Eg.t es pts],tkL Eg.f es pts++tkL Eg.t es pts⟩ 0 0 (.bsl 5 pts) (.sl (ledR Eg.t es pts) .no):=⟨f2⟩
     exact AK.rz Tryz.func61 rfl
   ·exact congrArg (St.mk _) (List.take_of_length_le (by simp [tkL_len]))
   ·show Nat.ble (pts+pts) (tkL Eg.f (es.take 0) pts++tkL Eg.t (es.take 0) pts).length=true
    simp [tkL_len]
   ·intro rows hrows
    simp only [List.mem_cons,List.not_mem_nil,or_false] at hrows
    rcases hrows with rfl | rfl | rfl | rfl | rfl | rfl
    ·exact (inferInstance:OKR 6 (pts+pts) [ncells n]).ok
    ·exact (inferInstance:OKR 6 (pts+pts) [ncells (plainM n)]).ok
    ·exact (inferInstance:OKR 6 (pts+pts) [[vi 0,str []]]).ok
    ·exact (inferInstance:OKR 6 (pts+pts) [vi pts::.sl (erows es) .no::.sl (strR (declS n 31)) .no::.sl (strR (declS n 32)) .no::.sl (zrs (sizesT n)) .no::.bsl 4 pts::.bsl 5 pts::ncells (plainM n)]).ok
    ·exact tkR_ok Eg.f _ (by omega)
    ·exact tkR_ok Eg.t _ (by omega)
  refine AK.sto ⟨[[ncells n],[ncells (plainM n)],[[vi 0,str []]],[prow (.sl [] .tight) (.sl [] .tight)]],[]⟩ ?_
  refine AK.as_ 6 (.ptr 3 0 0) ?_
  refine AK.ways fun l hord=>?_
  rcases AB_or (show 7≠13 by decide) l (fun _=>false) with h1 | h1
  ·rcases AB_or (show 13≠16 by decide) l (fun _=>false) with h2 | h2
   ·refine Way.mk [0,1,2,3,4,5,6,8,9,10,11,12,7,13,14,15,16,17,18,19] [(7,13),(13,16)] 598144 ?_ rfl ?_
    ·intro ab hab
     simp only [List.mem_cons,List.not_mem_nil,or_false] at hab
     rcases hab with rfl | rfl
     ·exact h1
     ·exact h2
    refine DrvP.go 12 ?_
    refine DrvP.w (Ndo.mkS (n:=pts) (b:=4) (by omega) rfl rfl rfl rfl rfl rfl rfl rfl rfl rfl) ?_ ?_
    ·exact strip_eq (Ndo.ev rfl rfl rfl) (strip_eq (Ndo.ev rfl rfl rfl) allN)
    refine DrvP.w0 (Ndo.mkS (n:=pts) (b:=5) (by omega) rfl rfl rfl rfl rfl rfl rfl rfl rfl rfl) ?_
    refine DrvP.e ?_
    refine DrvP.e ?_
    refine DrvP.w0 (Ndo.store rfl rfl rfl rfl rfl rfl rfl) ?_
    refine DrvP.e ?_
    refine DrvP.e ?_
    refine DrvP.w0 (Ndo.store rfl rfl rfl rfl rfl rfl rfl) ?_
    refine DrvP.zj 6 ?_
    refine AK.sto ⟨bxs (.bsl 4 pts) (.bsl 5 pts),[]⟩ ?_
    refine AK.sub (G:=[(6,.ptr 3 0 0)]) ⟨rfl,trivial⟩ ?_
    exact L6
   ·refine Way.mk [0,1,2,3,4,5,6,8,9,10,11,12,7,14,15,16,13,17,18,19] [(7,13),(16,13)] 598144 ?_ rfl ?_
    ·intro ab hab
     simp only [List.mem_cons,List.not_mem_nil,or_false] at hab
     rcases hab with rfl | rfl
     ·exact h1
     ·exact h2
    refine DrvP.go 12 ?_
    refine DrvP.w (Ndo.mkS (n:=pts) (b:=4) (by omega) rfl rfl rfl rfl rfl rfl rfl rfl rfl rfl) ?_ ?_
    ·exact strip_eq (Ndo.ev rfl rfl rfl) (strip_eq (Ndo.ev rfl rfl rfl) allN)
    refine DrvP.e ?_
    refine DrvP.e ?_
    refine DrvP.w0 (Ndo.store rfl rfl rfl rfl rfl rfl rfl) ?_
    refine DrvP.w0 (Ndo.mkS (n:=pts) (b:=5) (by omega) rfl rfl rfl rfl rfl rfl rfl rfl rfl rfl) ?_
    refine DrvP.e ?_
    refine DrvP.e ?_
    refine DrvP.w0 (Ndo.store rfl rfl rfl rfl rfl rfl rfl) ?_
    refine DrvP.zj 6 ?_
    refine AK.sto ⟨bxs (.bsl 4 pts) (.bsl 5 pts),[]⟩ ?_
    refine AK.sub (G:=[(6,.ptr 3 0 0)]) ⟨rfl,trivial⟩ ?_
    exact L6
  ·have h2:AB 13 16 l (fun _=>false):=AB_of (b:=7) (by decide) (by kernel_rfl) l _ hord h1 (fun h=>by cases h)
   refine Way.mk [0,1,2,3,4,5,6,8,9,10,11,12,13,7,14,15,16,17,18,19] [(13,7),(13,16)] 598144 ?_ rfl ?_
   ·intro ab hab
    simp only [List.mem_cons,List.not_mem_nil,or_false] at hab
    rcases hab with rfl | rfl
    ·exact h1
    ·exact h2
   refine DrvP.go 12 ?_
   refine DrvP.w (Ndo.mkS (n:=pts) (b:=4) (by omega) rfl rfl rfl rfl rfl rfl rfl rfl rfl rfl) ?_ ?_
   ·exact strip_eq (Ndo.ev rfl rfl rfl) (strip_eq (Ndo.ev rfl rfl rfl) allN)
   refine DrvP.w0 (Ndo.mkS (n:=pts) (b:=5) (by omega) rfl rfl rfl rfl rfl rfl rfl rfl rfl rfl) ?_
   refine DrvP.e ?_
   refine DrvP.e ?_
   refine DrvP.w0 (Ndo.store rfl rfl rfl rfl rfl rfl rfl) ?_
   refine DrvP.e ?_
   refine DrvP.e ?_
   refine DrvP.w0 (Ndo.store rfl rfl rfl rfl rfl rfl rfl) ?_
   refine DrvP.zj 6 ?_
   refine AK.sto ⟨bxs (.bsl 5 pts) (.bsl 4 pts),[]⟩ ?_
   refine AK.perm (G:=[(6,.ptr 3 0 0)]) (bx3:=[[ncells n],[ncells (plainM n)],[[vi 0,str []]],[vi pts::.sl (erows es) .no::.sl (strR (declS n 31)) .no::.sl (strR (declS n 32)) .no::.sl (zrs (sizesT n)) .no::.bsl 5 pts::.bsl 4 pts::ncells (plainM n)],List.replicate pts [.sl [] .tight],List.replicate pts [.sl [] .tight]]) (bx2:=[[ncells n],[ncells (plainM n)],[[vi 0,str []]],[vi pts::.sl (erows es) .no::.sl (strR (declS n 31)) .no::.sl (strR (declS n 32)) .no::.sl (zrs (sizesT n)) .no::.bsl 4 pts::.bsl 5 pts::ncells (plainM n)],List.replicate pts [.sl [] .tight],List.replicate pts [.sl [] .tight]]) [0,1,2,3,5,4] ?_ (.cons rfl inferInstance .nil) rfl rfl rfl rfl rfl
   exact L6
 ·rw [if_neg hr]
  have h0:((checkS n).1==0)=false:=by unfold rightS at hr;simpa using hr
  refine AK.yes ?_ (ht:=by rw [h0];rfl)
  exact AK.rz Tryz.func61 rfl
instance {n m:Nat}{f:Eg→Int}{l:List Eg}{pts:Nat}:OKR n m (ledR f l pts):=⟨fun r hr x hx=>by
 obtain ⟨p,_,rfl⟩:=List.mem_map.1 hr
 simp at hx;subst hx
 exact (inferInstance:OK n m (.sl (irs (ledL f l p)) .no)).ok⟩
instance {n m:Nat}{x:Nd}:OKL n m (progC x):=⟨(inferInstance:OKL n m (vi (gAll (planL x)).pts::.sl (erows (gEs (planL x))) .no::.sl (strR (declS x 31)) .no::.sl (strR (declS x 32)) .no::.sl (zrs (sizesT x)) .no ::
 .sl (ledR Eg.f (gEs (planL x)) (gAll (planL x)).pts) .no::.sl (ledR Eg.t (gEs (planL x)) (gAll (planL x)).pts) .no::ncells (plainM x))).ok⟩
theorem declS_le (n:Nd)(k:Int):(declS n k).length≤n.kids.length:=by rw [declS_K,List.length_map];exact declK_le n k
def sSym (n:Nd):Int:=IntKind.i64.wrap (IntKind.i64.wrap (1+(declS n 31).length)+(declS n 32).length)
theorem q_lenSym (n:Nd)(k:Int):Pure X 106 [.cptr (progC n),vi k] (vi (IntKind.i64.wrap (IntKind.i64.wrap (1+(declS n 31).length)+k))):=by
 refine Pure.run Tryz.func106 ?_
 refine AK.rz Tryz.func106 ?_
 rw [← strR_len (declS n 31)]
theorem q_size (n:Nd):Pure X 104 [.cptr (progC n)] (vi (sSym n)):=by
 refine Pure.run Tryz.func104 ?_
 refine AK.dr ?_
 refine AK.rz Tryz.func104 ?_
 unfold sSym
 rw [← strR_len (declS n 31),← strR_len (declS n 32)]
def symOkS (size v c:Int):Bool:=between size 1 13&&between v 0 (size-1)&&between c (-1000) 1000
theorem q_symOk (size v c:Int)(h0:-1000000≤size)(h1:size≤1000000):Pure X 149 [vi size,.agg [vi v,vi c]] (vb (symOkS size v c)):=by
 refine Pure.run Tryz.func149 ?_
 refine AK.pc (q_inRange size 1 13) ?_
 refine AK.gd (fun g1=>?_) (fun g1=>?_)
 ·have g1':between size 1 13=true:=g1
  refine AK.pc (q_isPlace v size (by omega) (by omega)) ?_
  refine AK.gd (fun g2=>?_) (fun g2=>?_)
  ·have g2':between v 0 (size-1)=true:=by have:(true&&between v 0 (size-1))=true:=g2;simpa using this
   refine AK.pc (q_inRange c (-1000) 1000) ?_
   refine AK.rz Tryz.func149 ?_
   simp [symOkS,g1',g2']
  ·have g2':between v 0 (size-1)=false:=by have:(true&&between v 0 (size-1))=false:=g2;simpa using this
   refine AK.rz Tryz.func149 ?_
   simp [symOkS,g1',g2']
 ·have g1':between size 1 13=false:=g1
  refine AK.gn ?_
  refine AK.rz Tryz.func149 ?_
  simp [symOkS,g1']
theorem p_symOk (size v c:Int)(h0:-1000000≤size)(h1:size≤1000000):Pure X 92 [vi size,.agg [vi v,vi c]] (vb (symOkS size v c)):=by
 have hw:IntKind.i64.wrap (size-1)=size-1:=wrap_small (by omega) (by omega)
 refine Pure.run Tryz.func92 ?_
 refine AK.pc (p_between size 1 13) ?_
 refine AK.gd (fun g1=>?_) (fun g1=>?_)
 ·have g1':between size 1 13=true:=g1
  have hb:=p_between v 0 (IntKind.i64.wrap (size-1))
  rw [hw] at hb
  refine AK.pc (p_between v 0 (IntKind.i64.wrap (size-1))) ?_
  rw [hw]
  refine AK.gd (fun g2=>?_) (fun g2=>?_)
  ·have g2':between v 0 (size-1)=true:=by have:(true&&between v 0 (size-1))=true:=g2;simpa using this
   refine AK.pc (p_between c (-1000) 1000) ?_
   refine AK.rz Tryz.func92 ?_
   simp [symOkS,g1',g2']
  ·have g2':between v 0 (size-1)=false:=by have:(true&&between v 0 (size-1))=false:=g2;simpa using this
   refine AK.rz Tryz.func92 ?_
   simp [symOkS,g1',g2']
 ·have g1':between size 1 13=false:=g1
  refine AK.gn ?_
  refine AK.rz Tryz.func92 ?_
  simp [symOkS,g1']
def takeC (n:Nd):List AV:=[.sl (strR (declS n 31)) .no,.sl (strR (declS n 32)) .no,.sl (zrs (sizesT n)) .no,vi (gAll (planL n)).pts,.sl (erows (gEs (planL n))) .no]
instance {n m:Nat}{x:Nd}:OKL n m (takeC x):=⟨(inferInstance:OKL n m [.sl (strR (declS x 31)) .no,.sl (strR (declS x 32)) .no,.sl (zrs (sizesT x)) .no,vi (gAll (planL x)).pts,.sl (erows (gEs (planL x))) .no]).ok⟩
theorem p_take (n:Nd)(hr:rightS n=true):Pure X 31 [nd n] (.agg (takeC n)):=by
 obtain ⟨fp,_,hw,_,_⟩:=right_facts hr
 refine Pure.run Tryz.func31 ?_
 refine AK.db 512 ?_
 refine Drv.pg (p_declared n 31 (by omega)) ?_
 refine Drv.pg (p_declared n 32 (by omega)) ?_
 refine Drv.pg (p_sizes n (by omega)) ?_
 refine Drv.pg (g_graph n fp (by omega)) ?_
 refine Drv.w (Ndo.store rfl rfl rfl rfl rfl rfl rfl) ?_
 refine Drv.z ?_
 exact AK.rz Tryz.func31 rfl
theorem p_length (n:Nd)(k:Int):Pure X 58 [.agg (takeC n),vi k] (vi (IntKind.i64.wrap (IntKind.i64.wrap (1+(declS n 31).length)+k))):=by
 refine Pure.run Tryz.func58 ?_
 refine AK.rz Tryz.func58 ?_
 rw [← strR_len (declS n 31)]
theorem p_size (n:Nd):Pure X 56 [.agg (takeC n)] (vi (sSym n)):=by
 refine Pure.run Tryz.func56 ?_
 refine AK.rz Tryz.func56 ?_
 unfold sSym
 rw [← strR_len (declS n 31),← strR_len (declS n 32)]
end Go.V
namespace Go.V
open Go
end Go.V
namespace Go.V
open Go Go.Proofs
inductive LnI:Nd→Prop where
 | mk (k:Int) (s:List UInt8) (m:Int) (ks:List Nd) (hs:s.length≤9223372036854775807) (hl:ks.length≤9223372036854775807) (hk:∀ x,x∈ks→LnI x):LnI (.mk k s m ks)
theorem LnI.get {n:Nd}(h:LnI n):n.name.length≤9223372036854775807∧n.kids.length≤9223372036854775807∧∀ x,x∈n.kids→LnI x:=by
 cases h with | mk k s m ks h0 h1 hk=>exact ⟨h0,h1,hk⟩
mutual
def swN:Nd→Nat
 | .mk _ s _ ks=>s.length+(ks.length+swL ks)
def swL:List Nd→Nat
 | []=>0
 | x::l=>swN x+swL l
end
theorem swN_eq (n:Nd):swN n=n.name.length+(n.kids.length+swL n.kids):=by cases n;rw [swN];rfl
theorem wN_sw:(∀ n:Nd,wN n≤1+swN n)∧∀ l:List Nd,wL l≤l.length+swL l:=by
 refine Nd.ind2 (fun k s m ks ih=>?_) (Nat.le_refl _) (fun x l hx hl=>?_)
 ·simp only [wN,swN];omega
 ·simp only [wL,swL,List.length_cons];omega
def szR (w:Nat)(left:Int):Int:=if (w:Int)≤left then left-w else -1
theorem szR_add {a b:Nat}{left:Int}(h:(a:Int)≤left):szR (a+b) left=szR b (left-a):=by
 unfold szR
 by_cases h2:((a+b:Nat):Int)≤left
 ·rw [if_pos h2,if_pos (by omega)];omega
 ·rw [if_neg h2,if_neg (by omega)]
theorem szR_lt {a b:Nat}{left:Int}(h:left<a):szR (a+b) left=-1:=by
 unfold szR
 rw [if_neg (by omega)]
theorem szR_neg {w:Nat}{left:Int}(h0:0≤left)(h:szR w left<0):szR w left=-1∧left<w:=by
 unfold szR at h ⊢
 split at h
 ·rename_i h2;rw [if_pos h2];omega
 ·rename_i h2;rw [if_neg h2];omega
theorem szR_pos {w:Nat}{left:Int}(h:0≤szR w left):szR w left=left-w∧(w:Int)≤left:=by
 unfold szR at h ⊢
 split at h
 ·rename_i h2;rw [if_pos h2];omega
 ·omega
theorem t_szS (l:List Nd)(left:Int)(h0:0≤left)(h1:left≤1048576)(hl:l.length≤9223372036854775807)(ih:∀ x,x∈l→∀ lf:Int,0≤lf→lf≤1048576→Pure X 7 [nd x,vi lf] (vi (szR (swN x) lf))) :
 Pure X 27 [.sl (nrows l) .no,vi left] (vi (szR (l.length+swL l) left)):=by
 have hw:IntKind.i64.wrap (left-(nrows l).length)=left-l.length:=by rw [nrows_len];exact wrap_small (by omega) (by omega)
 refine Pure.run Tryz.func27 ?_
 refine AK.if_ (fun g=>?_) (fun g=>?_)
 ·have g':=of_decide_eq_true g
  rw [hw] at g'
  refine AK.rz Tryz.func27 ?_
  rw [szR_lt (by omega)]
 have g':=of_decide_eq_false g
 rw [hw] at g'
 have e0:szR (l.length+swL l) left=szR (swL l) (IntKind.i64.wrap (left-(nrows l).length)):=by rw [hw,szR_add (by omega)]
 rw [e0]
 have hb:0≤IntKind.i64.wrap (left-(nrows l).length)∧IntKind.i64.wrap (left-(nrows l).length)≤1048576:=by rw [hw];omega
 generalize IntKind.i64.wrap (left-(nrows l).length)=lf0 at hb
 refine AK.while_ (ι:=Nat × Int) 0 0 (fun i=>i.1≤l.length∧0≤i.2∧i.2≤1048576∧szR (swL l) lf0=szR (swL (l.drop i.1)) i.2) (fun i=>[(5,vi i.1),(1,vi i.2),(0,.sl (nrows l) .no)]) (fun _=>⟨[],[]⟩) (fun i=>l.length-i.1) ?_ (0,lf0) ⟨Nat.zero_le _,hb.1,hb.2,rfl⟩
  ⟨rfl,rfl,rfl,trivial⟩ rfl rfl rfl rfl rfl (fun _=>inferInstance) (fun _=>inferInstance)
 rintro ⟨i,lf⟩ ⟨hi,hp0,hp1,hT⟩ IH
 simp only at hi hp0 hp1 hT IH ⊢
 refine AK.ev 100 rfl ?_
 refine AK.if_ (fun h=>?_) (fun h=>?_)
 ·have hlt:i<l.length:=by have:=of_decide_eq_true h;rw [nrows_len] at this;omega
  obtain ⟨x,hx⟩:=lget_of_lt l hlt
  rw [drop_cons hx] at hT
  simp only [swL] at hT
  refine AK.ix i (by omega) (nrows_get hx) ?_
  refine AK.pc (ih x (List.mem_of_getElem? hx) lf hp0 hp1) ?_
  refine AK.if_ (fun g2=>?_) (fun g2=>?_)
  ·have g2':=szR_neg hp0 (of_decide_eq_true g2)
   refine AK.rz Tryz.func27 ?_
   rw [hT,szR_lt g2'.2]
  ·have g2':=szR_pos (show 0≤szR (swN x) lf by have:=of_decide_eq_false g2;omega)
   refine IH (i+1,szR (swN x) lf) ⟨hlt,?_,?_,?_⟩ (by simp only;omega) _ _ ⟨vint ((wrap_small (by omega) (by omega)).trans (by simp)),rfl,rfl,trivial⟩ rfl rfl rfl
   ·show 0≤szR (swN x) lf;omega
   ·show szR (swN x) lf≤_;omega
   ·rw [hT,szR_add g2'.2,g2'.1]
 ·have:i=l.length:=by have:=of_decide_eq_false h;rw [nrows_len] at this;omega
  subst this
  rw [List.drop_length] at hT
  refine AK.rz Tryz.func27 ?_
  rw [hT]
  unfold szR swL
  rw [if_pos (by simpa using hp0)];simp
theorem t_sz (n:Nd)(hln:LnI n):∀ left:Int,0≤left→left≤1048576→Pure X 7 [nd n,vi left] (vi (szR (swN n) left)):=by
 induction n using Nd.ind with
 | h n ih =>
 intro left h0 h1
 obtain ⟨ha,hb,hk⟩:=hln.get
 have hw:IntKind.i64.wrap (left-(⟨⟨n.name⟩⟩:ByteArray).size)=left-n.name.length:=by rw [sz_str];exact wrap_small (by omega) (by omega)
 rw [swN_eq]
 refine Pure.run Tryz.func7 ?_
 refine AK.if_ (fun g=>?_) (fun g=>?_)
 ·have g':=of_decide_eq_true g
  rw [hw] at g'
  refine AK.rz Tryz.func7 ?_
  rw [szR_lt (by omega)]
 have g':=of_decide_eq_false g
 rw [hw] at g'
 have e0:szR (n.name.length+(n.kids.length+swL n.kids)) left=szR (n.kids.length+swL n.kids) (IntKind.i64.wrap (left-(⟨⟨n.name⟩⟩:ByteArray).size)):=by rw [hw,szR_add (by omega)]
 rw [e0]
 have hb2:0≤IntKind.i64.wrap (left-(⟨⟨n.name⟩⟩:ByteArray).size)∧IntKind.i64.wrap (left-(⟨⟨n.name⟩⟩:ByteArray).size)≤1048576:=by rw [hw];omega
 refine AK.pc (t_szS n.kids _ hb2.1 hb2.2 hb (fun x hx lf=>ih x hx (hk x hx) lf)) ?_
 generalize IntKind.i64.wrap (left-(⟨⟨n.name⟩⟩:ByteArray).size)=lf at hb2 ⊢
 refine AK.if_ (fun g2=>?_) (fun g2=>?_)
 ·have g2':=szR_neg hb2.1 (of_decide_eq_true g2)
  refine AK.rz Tryz.func7 ?_
  rw [g2'.1]
 ·exact AK.rz Tryz.func7 rfl
theorem rB_step {l:List Nd}{i:Nat}{x:Nd}(h:l[i]?=some x):(rB (l.take i) (l.length-i)).set i (ncells x)=rB (l.take (i+1)) (l.length-(i+1)):=by
 have hi:=lt_of_get h
 obtain ⟨c,hc⟩:∃ c,l.length-i=c+1:=⟨l.length-i-1,by omega⟩
 have hc2:l.length-(i+1)=c:=by omega
 rw [hc,hc2,rB,rB,List.take_add_one,h,Option.toList_some,nrows_app,List.replicate_succ]
 have:(nrows (l.take i)).length=i:=by rw [nrows_len,List.length_take];omega
 rw [List.set_append_right _ _ (by omega),this,Nat.sub_self,List.set_cons_zero,List.append_assoc]
 rw [nrows_map [x]];rfl
theorem t_toS (l:List Nd)(hl:l.length≤1000000000)(ih:∀ x,x∈l→Pure X 10 [nd x] (nd x)):Pure X 33 [.sl (nrows l) .no] (.sl (nrows l) .no):=by
 refine Pure.run Tryz.func33 ?_
 refine AK.op (Ndo.mkS (n:=(nrows l).length) (b:=0) (by rw [nrows_len];exact hl) rfl rfl rfl rfl rfl rfl rfl rfl rfl rfl) ?_
 refine AK.while_ (ι:=Nat) 1 0 (fun i=>i≤l.length) (fun i=>[(4,vi i),(3,.bsl 0 l.length),(0,.sl (nrows l) .no)]) (fun i=>⟨[rB (l.take i) (l.length-i)],[]⟩) (fun i=>l.length-i) ?_ 0 (Nat.zero_le _)
  ⟨rfl,by rw [← nrows_len l];rfl,rfl,trivial⟩ (by rw [← nrows_len l];rfl) rfl rfl rfl rfl (fun _=>inferInstance) (fun _=>inferInstance)
 intro i hi IH
 refine AK.ev 100 rfl ?_
 refine AK.if_ (fun h=>?_) (fun h=>?_)
 ·have hlt:i<l.length:=by have:=of_decide_eq_true h;rw [nrows_len] at this;omega
  obtain ⟨x,hx⟩:=lget_of_lt l hlt
  have hr:(rB (l.take i) (l.length-i))[i]?=some zN:=by
   have:(nrows (l.take i)).length=i:=by rw [nrows_len,List.length_take];omega
   rw [rB,List.getElem?_append_right (by omega),this,Nat.sub_self,List.getElem?_replicate,if_pos (by omega)]
  refine AK.ix i (by omega) (nrows_get hx) ?_
  refine AK.pc (ih x (List.mem_of_getElem? hx)) ?_
  refine AK.atB i hlt hr ?_
  refine AK.stB hr ?_
  refine IH (i+1) hlt (by omega) _ _ ⟨vint ((wrap_small (by omega) (by omega)).trans (by omega)),rfl,rfl,trivial⟩ ?_ rfl rfl
  rw [← rB_step hx];rfl
 ·have:i=l.length:=by have:=of_decide_eq_false h;rw [nrows_len] at this;omega
  subst this
  refine AK.rbsl Tryz.func33 (b:=0) (l:=l) (c:=l.length-l.length) ?_ hl
  rw [List.take_length];rfl
theorem t_to (n:Nd)(hn:countN n≤1000000000):Pure X 10 [nd n] (nd n):=by
 induction n using Nd.ind with
 | h n ih =>
 have hcn:=countN_eq n
 have hll:=length_le_countL n.kids
 refine Pure.run Tryz.func10 ?_
 refine AK.pc (t_toS n.kids (by omega) (fun x hx=>ih x hx (by have:=countL_mem hx;omega))) ?_
 exact AK.rz Tryz.func10 rfl
theorem t_eqS (l:List Nd)(hl:l.length≤1000000000)(ih:∀ x,x∈l→Pure X 13 [nd x,nd x] (vb true)):Pure X 37 [.sl (nrows l) .no,.sl (nrows l) .no] (vb true):=by
 refine Pure.run Tryz.func37 ?_
 refine AK.no ?_ (ht:=by simp)
 refine AK.while_ (ι:=Nat) 0 0 (fun i=>i≤l.length) (fun i=>[(5,vi i),(0,.sl (nrows l) .no),(1,.sl (nrows l) .no)]) (fun i=>⟨[],[]⟩) (fun i=>l.length-i) ?_ 0 (Nat.zero_le _)
  ⟨rfl,rfl,rfl,trivial⟩ rfl rfl rfl rfl rfl (fun _=>inferInstance) (fun _=>inferInstance)
 intro i hi IH
 refine AK.ev 100 rfl ?_
 refine AK.if_ (fun h=>?_) (fun h=>?_)
 ·have hlt:i<l.length:=by have:=of_decide_eq_true h;rw [nrows_len] at this;omega
  obtain ⟨x,hx⟩:=lget_of_lt l hlt
  refine AK.db 0 ?_
  refine Drv.ig i (by omega) (nrows_get hx) ?_
  refine Drv.ig i (by omega) (nrows_get hx) ?_
  refine Drv.pg (ih x (List.mem_of_getElem? hx)) ?_
  refine Drv.z ?_
  refine AK.no ?_
  exact IH (i+1) hlt (by omega) _ _ ⟨vint ((wrap_small (by omega) (by omega)).trans (by omega)),rfl,rfl,trivial⟩ rfl rfl rfl
 ·exact AK.rz Tryz.func37 rfl
theorem t_eq (n:Nd)(hn:countN n≤1000000000):Pure X 13 [nd n,nd n] (vb true):=by
 induction n using Nd.ind with
 | h n ih =>
 have hcn:=countN_eq n
 have hll:=length_le_countL n.kids
 refine Pure.run Tryz.func13 ?_
 refine AK.no ?_ (ht:=by simp)
 refine AK.no ?_ (ht:=by simp)
 refine AK.no ?_ (ht:=by simp)
 refine AK.pc (t_eqS n.kids (by omega) (fun x hx=>ih x hx (by have:=countL_mem hx;omega))) ?_
 refine AK.no ?_
 exact AK.rz Tryz.func13 rfl
def E0:Env:=⟨[],[],fun _ _=>False,[]⟩
theorem E0_mt (b o:Nat):¬ E0.mt b o:=by
 rintro (h | ⟨i,sz,h⟩ | ⟨t,l,c,sz,h,_⟩)
 ·exact h
 ·simp [E0] at h
 ·simp [E0] at h
theorem list4 {α:Type}{l:List α}(h:l.length=4):∃ a b c d,l=[a,b,c,d]:=by
 rcases l with _ | ⟨a,_ | ⟨b,_ | ⟨c,_ | ⟨d,_ | ⟨e,l⟩⟩⟩⟩⟩<;>simp at h
 exact ⟨a,b,c,d,rfl⟩
def RelL (w:World)(cs:List Value)(l:List AV):Prop:=cs.length=l.length∧∀ (j:Nat)(v:Value)(x:AV),cs[j]?=some v→l[j]?=some x→Rel E0 w v x
theorem RelL.one {w:World}{v:Value}{x:AV}(h:Rel E0 w v x):RelL w [v] [x]:=⟨rfl,fun j v' x' h1 h2=>by
 cases j with
 | zero=>simp at h1 h2;subst h1;subst h2;exact h
 | succ j=>simp at h1⟩
theorem RelL.get1 {w:World}{v:Value}{x:AV}(h:RelL w [v] [x]):Rel E0 w v x:=h.2 0 v x rfl rfl
theorem RelL.nil {w:World}:RelL w [] []:=⟨rfl,fun j v x h=>by simp at h⟩
theorem RelL.cons {w:World}{v:Value}{x:AV}{cs:List Value}{l:List AV}(h:Rel E0 w v x)(t:RelL w cs l):RelL w (v::cs) (x::l) :=
 ⟨by simp [t.1],fun j v' x' h1 h2=>by
   cases j with
   | zero=>simp at h1 h2;subst h1;subst h2;exact h
   | succ j=>exact t.2 j v' x' (by simpa using h1) (by simpa using h2)⟩
theorem RelL.agg {w:World}{cs:Array Value}{l:List AV}(h:RelL w cs.toList l):Rel E0 w (.agg cs) (.agg l):=.agg cs l (by simpa using h.1) (fun j v x h1 h2=>h.2 j v x (by simpa using h1) h2)
theorem list_of {α:Type}{Q:Nat→α→Prop}:∀ n:Nat,(∀ i,i<n→∃ x,Q i x)→∃ l:List α,l.length=n∧∀ i x,l[i]?=some x→Q i x
 | 0,_=>⟨[],rfl,fun i x h=>by simp at h⟩
 | n+1,h=>by
   obtain ⟨l,hl,hq⟩:=list_of n (fun i hi=>h i (by omega))
   obtain ⟨x,hx⟩:=h n (by omega)
   refine ⟨l++[x],by simp [hl],fun i y hy=>?_⟩
   rcases Nat.lt_or_ge i n with hi | hi
   ·rw [List.getElem?_append_left (by omega)] at hy;exact hq i y hy
   ·rw [List.getElem?_append_right (by omega)] at hy
    have:i=n:=by
     have:=lt_of_get hy
     simp at this;omega
    subst this
    simp [hl] at hy;subst hy;exact hx
section
variable {H:Type}{enc:TypeId × Value→H}{P:Program}{w:World}{sp:Nat→Bool}{held:Bool}
theorem cells_get {a:Addr}{n:Nat}{cs:List Value}(h:w.cells? 0 a n=some cs):cs.length=n∧∀ (j:Nat)(v:Value),cs[j]?=some v→w.cell? (a.add j)=some v:=by
 unfold World.cells? at h
 rw [if_pos (Nat.zero_le _)] at h
 have key:∀ (l:List Nat) (cs:List Value),(l.mapM fun i=>w.cell? (a.add i))=some cs→cs.length=l.length∧∀ (j:Nat) (v:Value),cs[j]?=some v→∃ k:Nat,l[j]?=some k∧w.cell? (a.add k)=some v:=by
  intro l
  induction l with
  | nil=>intro cs h;simp at h;subst h;exact ⟨rfl,fun j v h=>by simp at h⟩
  | cons k l ih =>
    intro cs h
    simp only [List.mapM_cons,Option.bind_eq_bind,Option.bind_eq_some_iff,Option.pure_def,Option.some.injEq] at h
    obtain ⟨v,hv,cs',hcs,rfl⟩:=h
    obtain ⟨h1,h2⟩:=ih cs' hcs
    refine ⟨by simp [h1],fun j u hu=>?_⟩
    cases j with
    | zero=>simp at hu;subst hu;exact ⟨k,rfl,hv⟩
    | succ j=>simpa using h2 j u (by simpa using hu)
 obtain ⟨h1,h2⟩:=key _ _ h
 refine ⟨by simpa using h1,fun j v hv=>?_⟩
 obtain ⟨k,hk,hc⟩:=h2 j v hv
 have:j<(List.range n).length:=lt_of_get hk
 simp at this
 rw [List.getElem?_range this] at hk
 cases hk
 exact hc
theorem add_none {b o n:Nat}:(Addr.mk b o none).add n=⟨b,o+n,none⟩:=by
 unfold Addr.add
 split
 ·rename_i h;subst h;rfl
 ·rfl
theorem rel_slice {α:Type}{t e sz fuel:Nat}{cs:List Value}{x:DataW H × List MemPlace}(cells:α→List AV)(Q:α→Prop)(ht:P.underlying t=some (.slice e))(hc:P.cellsOf e=sz)(hsz:0<sz)(hcell:∀ y,(cells y).length=sz)
 (hel:∀ n,fuel=n+1→∀ (cs:List Value)(x:DataW H × List MemPlace),DataW.trod enc P w 0 sp held n e cs=some x→∃ y:α,Q y∧RelL w cs (cells y))(h:DataW.trod enc P w 0 sp held fuel t cs=some x) :
 ∃ l:List α,(∀ y,y∈l→Q y)∧l.length≤9223372036854775807∧RelL w cs [.sl (l.map cells) .no]:=by
 rcases DataW.trod_slice ht h with ⟨rfl,_⟩ | ⟨a,len,cap,elems,rest,n,hn,rfl,_,_,hcap,hmax,hlen,hall,_,_⟩
 ·refine ⟨[],(fun y hy=>by cases hy),by simp,RelL.one ?_⟩
  exact .sl [] .no none 0 0 0 0 0 (fun _ _=>default) rfl (Nat.zero_le _) (fun h=>absurd rfl h) (fun r hr=>by cases hr) (fun i j h=>by omega) (fun i j h=>by omega) (fun i j r x h=>by simp at h) trivial (Nat.le_refl _)
 ·have hml:maxLen=9223372036854775807:=by decide
  have hel':∀ i,i<len→∃ y:α,Q y∧∃ cs',w.cells? 0 (a.add (i*sz)) sz=some cs'∧RelL w cs' (cells y):=fun i hi=>by
   have h1:=hall i hi
   obtain ⟨z,hz⟩:=lget_of_lt elems (i:=i) (by omega)
   rw [hz,hc] at h1
   obtain ⟨cs',h2,h3⟩:=Option.bind_eq_some_iff.1 h1
   obtain ⟨y,hq,hr⟩:=hel n hn cs' z h3
   exact ⟨y,hq,cs',h2,hr⟩
  obtain ⟨l,hll,hl⟩:=list_of len hel'
  have hQ:∀ y,y∈l→Q y:=fun y hy=>by obtain ⟨i,hi⟩:=lget_of_mem hy;exact (hl i y hi).1
  refine ⟨l,hQ,by omega,RelL.one ?_⟩
  have ha:len≠0→a=⟨a.block,a.off,none⟩:=fun h0=>by
   obtain ⟨y,hy⟩:=lget_of_lt l (i:=0) (by omega)
   obtain ⟨_,cs',h1,h2⟩:=hl 0 y hy
   obtain ⟨h3,h4⟩:=cells_get h1
   obtain ⟨v,hv⟩:=lget_of_lt cs' (i:=0) (by omega)
   have h5:=h4 0 v hv
   have h6:(a.add (0*sz)).add 0=a:=by simp [Addr.add]
   rw [h6] at h5
   obtain ⟨b,o,s⟩:=a
   unfold World.cell? at h5
   simp only at h5
   split at h5
   ·split at h5
    ·cases h5
    ·rename_i hs
     cases s with
     | none=>rfl
     | some s=>simp at hs
   ·cases h5
  have hcl:∀ i j:Nat,i<len→j<sz→∃ v,w.cell? ⟨a.block,a.off+i*sz+j,none⟩=some v:=fun i j hi hj=>by
   obtain ⟨y,hy⟩:=lget_of_lt l (i:=i) (by omega)
   obtain ⟨_,cs',h1,h2⟩:=hl i y hy
   obtain ⟨h3,h4⟩:=cells_get h1
   obtain ⟨v,hv⟩:=lget_of_lt cs' (i:=j) (by omega)
   have h5:=h4 j v hv
   rw [ha (by omega),add_none,add_none] at h5
   exact ⟨v,h5⟩
  refine .sl _ .no (some a) len cap a.block a.off sz (fun i j=>(w.cell? ⟨a.block,a.off+i*sz+j,none⟩).getD default) (by simp [hll]) (by unfold maxN;omega) (fun h0=>congrArg some (ha h0)) (fun r hr=>?_) (fun i j _ _=>E0_mt _ _) (fun i j hi hj=>?_) (fun i j r z h1 h2=>?_) trivial hcap
  ·obtain ⟨y,_,rfl⟩:=List.mem_map.1 hr;exact hcell y
  ·obtain ⟨v,hv⟩:=hcl i j hi hj
   rw [hv];rfl
  ·simp only [List.getElem?_map,Option.map_eq_some_iff] at h1
   obtain ⟨y,hy,rfl⟩:=h1
   obtain ⟨_,cs',h3,h4⟩:=hl i y hy
   have hi:i<len:=by have:=lt_of_get hy;omega
   have hj:j<sz:=by have:=lt_of_get h2;rw [hcell] at this;exact this
   obtain ⟨h5,h6⟩:=cells_get h3
   obtain ⟨v,hv⟩:=lget_of_lt cs' (i:=j) (by omega)
   have h7:=h6 j v hv
   rw [ha (by omega),add_none,add_none] at h7
   show Rel E0 w ((w.cell? ⟨a.block,a.off+i*sz+j,none⟩).getD default) z
   rw [h7]
   exact h4.2 j v z hv h2
theorem trod_i {t fuel:Nat}{k:IntKind}{cs:List Value}{x:DataW H × List MemPlace}(ht:P.underlying t=some (.int k))(h:DataW.trod enc P w 0 sp held fuel t cs=some x):∃ n:Int,k.min≤n∧n≤k.max∧cs=[.int k n]:=by
 obtain ⟨n,rfl,_,h2⟩:=DataW.trod_int ht h
 simp only [Lit.wf,Bool.and_eq_true,decide_eq_true_eq] at h2
 exact ⟨n,h2.1,h2.2,rfl⟩
theorem trod_s {t fuel:Nat}{cs:List Value}{x:DataW H × List MemPlace}(ht:P.underlying t=some .string)(h:DataW.trod enc P w 0 sp held fuel t cs=some x):∃ s:List UInt8,s.length≤9223372036854775807∧cs=[.string ⟨⟨s⟩⟩]:=by
 obtain ⟨s,rfl,_,h2⟩:=DataW.trod_string ht h
 obtain ⟨⟨s⟩⟩:=s
 exact ⟨s,by have:maxLen=9223372036854775807:=by decide
             have h3:s.length≤maxLen:=h2
             omega,rfl⟩
end
theorem i64_rng {n:Int}(h0:IntKind.i64.min≤n)(h1:n≤IntKind.i64.max):-9223372036854775808≤n∧n≤9223372036854775807:=by
 have a:IntKind.i64.min=-9223372036854775808:=by decide
 have b:IntKind.i64.max=9223372036854775807:=by decide
 omega
section
variable {H:Type}{enc:TypeId × Value→H}{w:World}{sp:Nat→Bool}{held:Bool}
theorem trod_nd:∀ (fuel:Nat)(cs:List Value)(x:DataW H × List MemPlace),DataW.trod enc Tryz.prog w 0 sp held fuel 24 cs=some x→∃ n:Nd,(PrI n∧LnI n)∧RelL w cs (ncells n):=by
 intro fuel
 induction fuel using Nat.strongRecOn with
 | ind fuel ih =>
   intro cs x h
   obtain ⟨xs,n1,rfl,_,hl,hxs,hf⟩:=DataW.trod_struct Tryz.underlying24 h
   have hl4:cs.length=4:=hl.trans (by kernel_rfl)
   have hx4:xs.length=4:=hxs
   obtain ⟨c0,c1,c2,c3,rfl⟩:=list4 hl4
   obtain ⟨x0,hx0⟩:=lget_of_lt xs (i:=0) (by omega)
   obtain ⟨x1,hx1⟩:=lget_of_lt xs (i:=1) (by omega)
   obtain ⟨x2,hx2⟩:=lget_of_lt xs (i:=2) (by omega)
   obtain ⟨x3,hx3⟩:=lget_of_lt xs (i:=3) (by omega)
   have c3e:Tryz.prog.cellsOf 3=1:=by kernel_rfl
   have c9e:Tryz.prog.cellsOf 9=1:=by kernel_rfl
   have cse:Tryz.prog.cellsOf 22=1:=by kernel_rfl
   have f0:DataW.trod enc Tryz.prog w 0 sp held n1 3 (([c0,c1,c2,c3].drop 0).take (Tryz.prog.cellsOf 3))=some x0:=(hf 0 _ rfl).trans hx0
   have f1:DataW.trod enc Tryz.prog w 0 sp held n1 9 (([c0,c1,c2,c3].drop 1).take (Tryz.prog.cellsOf 9))=some x1:=(hf 1 _ rfl).trans hx1
   have f2:DataW.trod enc Tryz.prog w 0 sp held n1 3 (([c0,c1,c2,c3].drop 2).take (Tryz.prog.cellsOf 3))=some x2:=(hf 2 _ rfl).trans hx2
   have f3:DataW.trod enc Tryz.prog w 0 sp held n1 22 (([c0,c1,c2,c3].drop 3).take (Tryz.prog.cellsOf 22))=some x3:=(hf 3 _ rfl).trans hx3
   rw [c3e] at f0 f2
   rw [c9e] at f1
   rw [cse] at f3
   obtain ⟨k,k0,k1,e0⟩:=trod_i Tryz.underlying3 f0
   obtain ⟨s,s0,e1⟩:=trod_s Tryz.underlying9 f1
   obtain ⟨m,m0,m1,e2⟩:=trod_i Tryz.underlying3 f2
   obtain ⟨l,hq,hll,e3⟩:=rel_slice ncells (fun n=>PrI n∧LnI n) Tryz.underlying22 (show Tryz.prog.cellsOf 24=4 by kernel_rfl) (by decide) (fun y=>rfl) (fun n2 hn2 cs' x' hx'=>ih n2 (by omega) cs' x' hx') f3
   have e0':c0=.int .i64 k:=(List.cons.inj e0).1
   have e1':c1=.string ⟨⟨s⟩⟩:=(List.cons.inj e1).1
   have e2':c2=.int .i64 m:=(List.cons.inj e2).1
   have e3':RelL w [c3] [.sl (l.map ncells) .no]:=e3
   subst e0';subst e1';subst e2'
   obtain ⟨m0,m1⟩:=i64_rng m0 m1
   refine ⟨.mk k s m l,⟨.mk k s m l m0 m1 fun x hx=>(hq x hx).1,.mk k s m l s0 hll fun x hx=>(hq x hx).2⟩,?_⟩
   show RelL w _ [_,_,_,.sl (nrows l) .no]
   rw [nrows_map]
   exact .cons (.val _) (.cons (.val _) (.cons (.val _) e3'))
end
end Go.V
namespace Go.V
open Go Go.Proofs Go.ChangeShapes Go.WideShapes Go.ChangeAt Go.RowKit
section
variable {H:Type}{enc:TypeId × Value→H}{P:Program}{w:World}{sp:Nat→Bool}{held:Bool}
theorem trod_arr {t e n fuel:Nat}{cs:List Value}{d:DataW H}{ps:List MemPlace}(ht:P.underlying t=some (.array n e))(h:DataW.trod enc P w 0 sp held fuel t cs=some (d,ps)) :
 ∃ (xs:List (DataW H × List MemPlace)) (f:Nat),d=.agg (xs.map (·.1))∧cs.length=P.cellsOf t∧∀ i,i<n→DataW.trod enc P w 0 sp held f e ((cs.drop (i*P.cellsOf e)).take (P.cellsOf e))=xs[i]?:=by
 cases fuel with
 | zero=>simp [DataW.trod] at h
 | succ f =>
   unfold DataW.trod at h
   rw [ht] at h
   split at h<;>simp_all
   obtain ⟨hl,xs,hp,hd,_⟩:=h
   exact ⟨xs,hd.symm,f,fun i hi=>mapM_some_get hp i i (by simp [hi])⟩
theorem trod_ifc {t fuel:Nat}{ms:Array (String × TypeId)}{cs:List Value}{x:DataW H × List MemPlace}(ht:P.underlying t=some (.interface ms))(h:DataW.trod enc P w 0 sp held fuel t cs=some x):∃ v,cs=[v]∧(v=.nilIface∨∃ te pe,v=.iface te pe):=by
 cases fuel with
 | zero=>simp [DataW.trod] at h
 | succ f =>
   unfold DataW.trod at h
   rw [ht] at h
   split at h<;>simp_all
theorem trodAll_stays (hl:laidOutB P=true){W W':World}{sp':Nat→Bool}:∀ {ts:List TypeId}{vs:List Value}{ds:List (DataW H)}{ps:List MemPlace},(∀ t,t∈ts→P.readableRec t=true∧t<P.types.size) →
 DataW.TrodAll enc P W 0 (fun _=>true) true ts vs ds ps→(∀ p∈ps,W.sameAt W' p)→(∀ p∈ps,sp' p.block=true)→DataW.TrodAll enc P W' 0 sp' true ts vs ds ps
 | [],[],[],_,_,h,_,_=>h
 | t::ts,v::vs,d::ds,_,hr,⟨p,q,h1,h2,rfl⟩,hs,hb =>
   ⟨p,q,WideElems.Trod_stays hl (hr t (by simp)).1 (hr t (by simp)).2 h1 (fun x hx=>hs x (by simp [hx])) (fun x hx=>hb x (by simp [hx])),trodAll_stays hl (fun x hx=>hr x (by simp [hx])) h2 (fun x hx=>hs x (by simp [hx])) (fun x hx=>hb x (by simp [hx])),rfl⟩
 | [],_::_,_,_,_,h,_,_=>h.elim
 | [],[],_::_,_,_,h,_,_=>h.elim
 | _::_,[],_,_,_,h,_,_=>h.elim
 | _::_,_::_,[],_,_,h,_,_=>h.elim
end
def laidL:List (String × DataW Unit):=[("math/bits.deBruijn32tab",YtkbnfpldnpeliaaGreatDoor.Rows.laid_math_bits_deBruijn32tab),("math/bits.deBruijn64tab",YtkbnfpldnpeliaaGreatDoor.Rows.laid_math_bits_deBruijn64tab),("internal/strconv.uint64pow10",YtkbnfpldnpeliaaGreatDoor.Rows.laid_internal_strconv_uint64pow10),
 ("strconv.ErrRange",YtkbnfpldnpeliaaGreatDoor.Rows.laid_strconv_ErrRange),("strconv.ErrSyntax",YtkbnfpldnpeliaaGreatDoor.Rows.laid_strconv_ErrSyntax),("loop.example/g00093/impl.condWords",YtkbnfpldnpeliaaGreatDoor.Rows.laid_loop_example_g00093_impl_condWords)
 , ("loop.example/g00093/impl.none",YtkbnfpldnpeliaaGreatDoor.Rows.laid_loop_example_g00093_impl_none)
 ]
theorem laidL_met {W:World}(h:laidMetH Tryz.prog laidL W):laidMet Tryz.prog laidL W:=by
 have e:(laidL.filter fun x=>x.2.handleName?.isSome)=[]:=by kernel_rfl
 unfold laidMetH at h
 rw [e] at h
 exact h
def condB:List (List UInt8):=[[60],[60,61],[62],[62,61],[61,61],[33,61]]
theorem cond_bytes:condG=condB.map fun b=>.val (.string ⟨⟨b⟩⟩):=rfl
theorem cond_data:(YtkbnfpldnpeliaaGreatDoor.Rows.laid_loop_example_g00093_impl_condWords:DataW Unit)=.agg (condB.map fun b=>.lit (.string b)):=rfl
theorem ifc_of {W:World}{n:String}{d:DataW Unit}{g:Nat}(hg:Tryz.prog.globalNamed n=some g)(ht:(Tryz.prog.globals[g]?).map (·.type)=some 95)(h:Lib.VarReads Tryz.prog W n d):IfaceV W g:=by
 obtain ⟨g',t',cs,fuel,p,h1,h2,h3,h4⟩:=h
 obtain rfl:=Option.some.inj (hg.symm.trans h1)
 obtain rfl:=Option.some.inj (ht.symm.trans h2)
 obtain ⟨v,h5,h6⟩:=trod_ifc Tryz.underlying95 h4
 refine ⟨v,?_,h6⟩
 rw [World.var?_cell hg h3 0,← Array.getElem?_toList,h5];rfl
theorem gOk_of {W:World}(h:laidMetH Tryz.prog laidL W):gOk W:=by
 have hm:=laidL_met h
 constructor
 ·intro j x hx
  obtain ⟨g',t',cs,fuel,p,h1,h2,h3,h4⟩:=Lib.laidMet.reads hm (n := "loop.example/g00093/impl.condWords") (d:=YtkbnfpldnpeliaaGreatDoor.Rows.laid_loop_example_g00093_impl_condWords) (by unfold laidL;simp)
  have hg:Tryz.prog.globalNamed "loop.example/g00093/impl.condWords" = some 5:=by kernel_rfl
  have ht:(Tryz.prog.globals[5]?).map (·.type)=some 291:=by kernel_rfl
  obtain rfl:=Option.some.inj (hg.symm.trans h1)
  obtain rfl:=Option.some.inj (ht.symm.trans h2)
  obtain ⟨xs,f,hd,hl,hall⟩:=trod_arr Tryz.underlying291 h4
  have c9e:Tryz.prog.cellsOf 9=1:=by kernel_rfl
  have cae:Tryz.prog.cellsOf 291=6:=by kernel_rfl
  rw [cae] at hl
  rw [cond_data] at hd
  have hd':condB.map (fun b=>(DataW.lit (.string b):DataW Unit))=xs.map (·.1):=DataW.agg.inj hd
  rw [cond_bytes] at hx
  simp only [List.getElem?_map,Option.map_eq_some_iff] at hx
  obtain ⟨b,hb,rfl⟩:=hx
  have hj:j<6:=lt_of_get hb
  have h5:=hall j hj
  rw [c9e,Nat.mul_one] at h5
  have h6:=congrArg (fun l=>l[j]?) hd'
  simp only [List.getElem?_map,hb,Option.map_some] at h6
  cases hxj:xs[j]? with
  | none=>rw [hxj] at h6;cases h6
  | some z =>
    rw [hxj] at h5 h6
    obtain ⟨s,h7,h8,_⟩:=DataW.trod_string Tryz.underlying9 h5
    have h9:DataW.lit (.string b)=z.1:=Option.some.inj h6
    rw [h8] at h9
    have h10:b=s.data.toList:=Lit.string.inj (DataW.lit.inj h9)
    obtain ⟨v,hv⟩:=lget_of_lt cs.toList (i:=j) (by omega)
    have h11:cs.toList.drop j=v::cs.toList.drop (j+1):=drop_cons hv
    rw [h11] at h7
    have h12:v=.string s:=(List.cons.inj h7).1
    refine ⟨.string s,?_,?_⟩
    ·rw [World.var?_cell hg h3 j,← Array.getElem?_toList,hv,h12]
    ·rw [h10]
 ·obtain ⟨g',t',cs,fuel,p,h1,h2,h3,h4⟩:=Lib.laidMet.reads hm (n := "internal/strconv.uint64pow10") (d:=YtkbnfpldnpeliaaGreatDoor.Rows.laid_internal_strconv_uint64pow10) (by unfold laidL;simp)
  have hg:Tryz.prog.globalNamed "internal/strconv.uint64pow10" = some 1:=by kernel_rfl
  have ht:(Tryz.prog.globals[1]?).map (·.type)=some 256:=by kernel_rfl
  obtain rfl:=Option.some.inj (hg.symm.trans h1)
  obtain rfl:=Option.some.inj (ht.symm.trans h2)
  have hd:(YtkbnfpldnpeliaaGreatDoor.Rows.laid_internal_strconv_uint64pow10:DataW Unit)=Lib.tabData .u64 Lib.pow10Tab:=by kernel_rfl
  rw [hd] at h4
  have h5:=Lib.cells_of_tab Tryz.underlying256 Tryz.underlying217 (by kernel_rfl) (by kernel_rfl) h4
  unfold World.var? at h3
  rw [hg] at h3
  simp only [Option.bind_some] at h3
  split at h3
  ·rename_i c e z hh
   refine ⟨e,z,?_⟩
   rw [hh]
   cases h3
   rw [← Array.toArray_toList (xs:=cs),h5]
  ·cases h3
 ·exact ifc_of (by kernel_rfl) (by kernel_rfl) (Lib.laidMet.reads hm (n := "strconv.ErrSyntax") (d:=YtkbnfpldnpeliaaGreatDoor.Rows.laid_strconv_ErrSyntax) (by unfold laidL;simp))
 ·exact ifc_of (by kernel_rfl) (by kernel_rfl) (Lib.laidMet.reads hm (n := "strconv.ErrRange") (d:=YtkbnfpldnpeliaaGreatDoor.Rows.laid_strconv_ErrRange) (by unfold laidL;simp))
 ·intro j x hx
  obtain ⟨g',t',cs,fuel,p,h1,h2,h3,h4⟩:=Lib.laidMet.reads hm (n := "loop.example/g00093/impl.none") (d:=YtkbnfpldnpeliaaGreatDoor.Rows.laid_loop_example_g00093_impl_none) (by unfold laidL;simp)
  have hg:Tryz.prog.globalNamed "loop.example/g00093/impl.none" = some 0:=by kernel_rfl
  have ht:(Tryz.prog.globals[0]?).map (·.type)=some 157:=by kernel_rfl
  obtain rfl:=Option.some.inj (hg.symm.trans h1)
  obtain rfl:=Option.some.inj (ht.symm.trans h2)
  obtain ⟨y0,y1,n1,hd,hl,f0,f1⟩:=trod_struct2 Tryz.underlying157 h4
  have hl2:cs.toList.length=2:=hl.trans (by kernel_rfl)
  obtain ⟨c0,c1,hcs⟩:∃ a b,cs.toList=[a,b]:=(fun l h=>by rcases l with _ | ⟨a,_ | ⟨b,_ | ⟨c,l⟩⟩⟩<;>simp at h;exact ⟨a,b,rfl⟩:∀ l:List Value,l.length=2→∃ a b,l=[a,b]) _ hl2
  rw [hcs] at f0 f1
  have c3:Tryz.prog.cellsOf 3=1:=by kernel_rfl
  have f0':DataW.trod _ Tryz.prog W 0 _ _ n1 3 (([c0,c1].drop 0).take (Tryz.prog.cellsOf 3))=some y0:=f0
  have f1':DataW.trod _ Tryz.prog W 0 _ _ n1 3 (([c0,c1].drop 1).take (Tryz.prog.cellsOf 3))=some y1:=f1
  rw [c3] at f0' f1'
  obtain ⟨m0,e0,d0,_⟩:=DataW.trod_int Tryz.underlying3 f0'
  obtain ⟨m1,e1,d1,_⟩:=DataW.trod_int Tryz.underlying3 f1'
  have hd':(DataW.agg [.lit (.int .i64 1),.lit (.int .i64 0)]:DataW Unit)=.agg [y0.1,y1.1]:=congrArg Prod.fst hd
  rw [d0,d1] at hd'
  injection hd' with hd'
  injection hd' with k0 k1
  injection k0 with k0
  injection k0 with _ k0
  injection k1 with k1 _
  injection k1 with k1
  injection k1 with _ k1
  subst k0;subst k1
  have e0':c0=.int .i64 1:=(List.cons.inj e0).1
  have e1':c1=.int .i64 0:=(List.cons.inj e1).1
  have hall:∀ v,cs.toList[j]?=some v→W.cell? ⟨0,j,none⟩=some v:=fun v hv=>by rw [World.var?_cell hg h3 j,← Array.getElem?_toList,hv]
  rw [hcs,e0',e1'] at hall
  match j,hx with
  | 0,hx=>cases hx;exact ⟨_,hall _ rfl,rfl⟩
  | 1,hx=>cases hx;exact ⟨_,hall _ rfl,rfl⟩
  | j+2,hx=>simp [noneG] at hx
theorem gK_le {W:World}(h:W.ShapedOpen Tryz.prog):gK≤W.heap.size:=by
 obtain ⟨o,_,h1,_⟩:=h.2 Tryz.prog.globals.size (Nat.le_refl _) (of_decide_eq_true (by kernel_rfl))
 have:=heap_lt h1
 unfold gK
 omega
theorem inv0 {W:World}(h1:gK≤W.heap.size)(h2:gOk W):Inv X E0 ⟨[],[]⟩ W where
 nb:=rfl
 nt:=rfl
 np i h:=by simp [E0] at h
 box i b sz rows h:=by simp [E0] at h
 tok t l b c sz h:=by simp [E0] at h
 bb i j b s s' h:=by simp [E0] at h
 bt i t b s l c sz h:=by simp [E0] at h
 tt i j b l c s l' c' s' h:=by simp [E0] at h
 frlt b o h:=h.elim
 lo b h:=by
  rcases h with ⟨i,sz,h⟩ | ⟨t,l,c,sz,h⟩
  ·simp [E0] at h
  ·simp [E0] at h
 frlo b o h:=h.elim
 sz:=h1
 glob:=h2
theorem run_law {f:FuncId}{xs:List AV}{W:World}{args:Array Value}(hP:Pure X f xs (vb true))(hs:W.ShapedOpen Tryz.prog)(hL:laidMetH Tryz.prog laidL W)(hA:RelL W args.toList xs) :
 Calls Tryz.prog f args W fun e W'=>e=.returned (.bool true)∧Below W.heap.size W W':=by
 refine (hP.2 E0 W args rfl (inv0 (gK_le hs) (gOk_of hL)) (by simpa using hA.1) (fun j v x h1 h2=>hA.2 j v x (by simpa using h1) h2)).mono fun e W' he=>?_
 obtain ⟨E',S',h1,h2,h3⟩:=he
 have ho:∀ b,¬ E0.own b:=fun b h=>by
  rcases h with ⟨i,sz,h⟩ | ⟨t,l,c,sz,h⟩
  ·simp [E0] at h
  ·simp [E0] at h
 refine ⟨?_,⟨h2.os,h2.tape,h2.output,h2.size,fun k hk=>h2.block k hk (ho k)⟩⟩
 cases e with
 | returned v =>
   obtain ⟨r,h4,h5,_⟩:=h3
   injection h5 with h5
   subst h5
   cases h4;rfl
 | panicked ch=>exact absurd h3.1 (by intro h;cases h)
 | outgrown=>exact h3.elim
end Go.V
