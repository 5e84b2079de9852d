/- A part of the proof of the claim that the last text states: no condition of its own. -/
import Derived.Test.YtojhghmilenfkaaGreatDoorM7
import Derived.Carry
import Derived.ChangeArms
import Derived.ChangeVars
import Derived.Deep.DeepHandedRow
import Derived.Lib.LaidTab
import Derived.Lib.LaidU8
import Derived.OpenShut
import Derived.ProofKit
import Derived.Test.YtojhghmilenfkaaGreatDoorCards
import Derived.Test.YtojhghmilenfkaaGreatDoorTie
import Derived.WalkKit
set_option linter.unusedVariables false
set_option linter.unusedSimpArgs false
namespace Go.V
open Go Go.Proofs
def E9 (l:List Int):List (List AV):=l.map fun m=>[vi m]
theorem D5 (l:List Int):(E9 l).length=l.length:=by simp [E9]
theorem Alo (l:List Int):Hg 1 (E9 l)=true:=Io (f:=fun (i:Int)=>[vi i]) (fun _=>rfl) l
instance {n m:Nat}{l:List Int}:OKR n m (E9 l):=⟨fun r hr x hx=>by obtain ⟨e,_,rfl⟩:=List.mem_map.1 hr;simp at hx;subst hx;exact .val _⟩
def Br (n:Nd):List Int:=(I6 n 32).map Nd.num
theorem Y9 (n:Nd)(k:Int):Ay n k=(I6 n k).map Nd.name:=rfl
theorem Vj (n:Nd)(k:Int):(I6 n k).length≤n.kids.length:=by
 unfold I6
 exact Nat.le_trans (List.length_filter_le _ _) (by simp)
theorem X9 (n:Nd)(k:Int)(hne:n.kids≠[])(hl:n.kids.length≤1000000000):Pure X 106 [nd n,vi k] (.sl (B4 (Ay n k)) .no):=by
 have hdl:=Vj n k
 rw [Y9]
 refine Pure.run Tryz.func106 ?_
 refine AK.pc (Ng n k hne hl) ?_
 generalize I6 n k=ds at *
 refine AK.mint (d:=5) rfl rfl rfl ?_
 refine AK.while_ (ι:=Nat) 1 1 (fun i=>i≤ds.length) (fun i=>[(13,vi i),(12,vi ds.length),(11,.sl (Ai ds) .no),(5,.sl (B4 ((ds.take i).map Nd.name)) (.tok 0))]) (fun i=>⟨[[Ae n]],[i]⟩) (fun i=>ds.length-i) ?_ 0
  (Nat.zero_le _) ⟨rfl,by rw [← Ad ds];rfl,rfl,rfl,trivial⟩
 intro i hi IH
 have htl:(B4 ((ds.take i).map Nd.name)).length=i:=by rw [Dk];simp;omega
 refine AK.ei (fun h=>?_) (fun h=>?_)
 ·have hlt:i<ds.length:=by have:=of_decide_eq_true h;omega
  obtain ⟨x,hx⟩:=Ab ds hlt
  refine AK.ix i (by omega) (Al hx) ?_
  refine AK.op (Ndo.append (res:=B4 ((ds.take (i+1)).map Nd.name)) rfl rfl rfl rfl rfl rfl rfl rfl rfl rfl rfl rfl rfl rfl htl (U2 _) rfl rfl rfl ?_ ?_ rfl) ?_
  ·rw [htl];simp;omega
  ·rw [List.take_add_one,hx];simp [B4]
  refine IH (i+1) hlt (by omega) _ _ ⟨vsx (by omega),rfl,rfl,rfl,trivial⟩ ?_ rfl rfl
  show St.mk [[Ae n]] [_+1]=St.mk [[Ae n]] [i+1]
  rw [htl]
 ·have:i=ds.length:=by have:=of_decide_eq_false h;omega
  subst this
  rw [List.take_length]
  exact AK.rz Tryz.func106 rfl
theorem Ahq (n:Nd)(hne:n.kids≠[])(hl:n.kids.length≤1000000000):Pure X 107 [nd n] (.sl (E9 (Br n)) .no):=by
 have hdl:=Vj n 32
 unfold Br
 refine Pure.run Tryz.func107 ?_
 refine AK.pc (Ng n 32 hne hl) ?_
 generalize I6 n 32=ds at *
 refine AK.mint (d:=3) rfl rfl rfl ?_
 refine AK.while_ (ι:=Nat) 1 1 (fun i=>i≤ds.length) (fun i=>[(10,vi i),(9,vi ds.length),(8,.sl (Ai ds) .no),(3,.sl (E9 ((ds.take i).map Nd.num)) (.tok 0))]) (fun i=>⟨[[Ae n]],[i]⟩) (fun i=>ds.length-i) ?_ 0
  (Nat.zero_le _) ⟨rfl,by rw [← Ad ds];rfl,rfl,rfl,trivial⟩
 intro i hi IH
 have htl:(E9 ((ds.take i).map Nd.num)).length=i:=by rw [D5];simp;omega
 refine AK.ei (fun h=>?_) (fun h=>?_)
 ·have hlt:i<ds.length:=by have:=of_decide_eq_true h;omega
  obtain ⟨x,hx⟩:=Ab ds hlt
  refine AK.ix i (by omega) (Al hx) ?_
  refine AK.op (Ndo.append (res:=E9 ((ds.take (i+1)).map Nd.num)) rfl rfl rfl rfl rfl rfl rfl rfl rfl rfl rfl rfl rfl rfl htl (Alo _) rfl rfl rfl ?_ ?_ rfl) ?_
  ·rw [htl];simp;omega
  ·rw [List.take_add_one,hx];simp [E9]
  refine IH (i+1) hlt (by omega) _ _ ⟨vsx (by omega),rfl,rfl,rfl,trivial⟩ ?_ rfl rfl
  show St.mk [[Ae n]] [_+1]=St.mk [[Ae n]] [i+1]
  rw [htl]
 ·have:i=ds.length:=by have:=of_decide_eq_false h;omega
  subst this
  rw [List.take_length]
  exact AK.rz Tryz.func107 rfl
theorem Anu (n:Nd)(hn:wN n≤1000000000):Pure X 99 [nd n] (.sl (E9 (Br n)) .no):=by
 let sz (l:List Nd):List Int:=(l.filter fun x=>x.kind==32).map Nd.num
 have szle:∀ l:List Nd,(sz l).length≤l.length:=fun l=>by simp only [sz,List.length_map];exact List.length_filter_le _ _
 refine Pure.run Tryz.func99 ?_
 have hkl:=D4 n
 have hw:IntKind.i64.wrap ((Ai n.kids).length-1:Int)=n.kids.length-1:=by rw [Ad];exact Ac (by omega) (by omega)
 refine AK.mint (d:=3) rfl rfl rfl ?_
 refine AK.while_ (ι:=Nat) 1 1 (fun i=>i≤n.kids.length-1) (fun i=>[(4,vi i),(3,.sl (E9 (sz (n.kids.take i))) (.tok 0)),(1,.ptr 0 0 0)]) (fun i=>⟨[[Ae n]],[(sz (n.kids.take i)).length]⟩) (fun i=>n.kids.length-i) ?_ 0
  (Nat.zero_le _) ⟨rfl,rfl,rfl,trivial⟩
 intro i hi IH
 refine AK.ei (fun h=>?_) (fun h=>?_)
 ·have hlt:i<n.kids.length-1:=by have:=of_decide_eq_true h;rw [hw] at this;omega
  obtain ⟨x,hx⟩:=Ab n.kids (i:=i) (by omega)
  have hle:=szle (n.kids.take i)
  have htl:(n.kids.take i).length=i:=by simp;omega
  refine AK.ix i (by omega) (Al hx) ?_
  refine AK.if_ (fun h2=>?_) (fun h2=>?_)
  ·have h2':(x.kind==32)=true:=h2
   have hs:sz (n.kids.take (i+1))=sz (n.kids.take i)++[x.num]:=by simp [sz,List.take_add_one,hx,List.filter_append,List.filter_cons,h2']
   refine AK.ix i (by omega) (Al hx) ?_
   refine AK.op (Ndo.append (res:=E9 (sz (n.kids.take i)++[x.num])) rfl rfl rfl rfl rfl rfl rfl rfl rfl rfl rfl rfl rfl rfl (D5 _) (Alo _) rfl rfl rfl ?_ ?_ rfl) ?_
   ·rw [D5];simp;omega
   ·simp [E9]
   refine IH (i+1) (by omega) (by omega) _ _ ⟨vsx (by omega),?_,rfl,trivial⟩ ?_ rfl rfl
   ·rw [hs];rfl
   ·rw [hs];simp [St.drop,D5]
  ·have h2':(x.kind==32)=false:=h2
   have hs:sz (n.kids.take (i+1))=sz (n.kids.take i):=by simp [sz,List.take_add_one,hx,List.filter_append,List.filter_cons,h2']
   refine IH (i+1) (by omega) (by omega) _ _ ⟨vsx (by omega),?_,rfl,trivial⟩ ?_ rfl rfl
   ·rw [hs];rfl
   ·rw [hs];rfl
 ·have:i=n.kids.length-1:=by have:=of_decide_eq_false h;rw [hw] at this;omega
  refine AK.rz Tryz.func99 ?_
  rw [this,Br,I6,List.dropLast_eq_take]
end Go.V
namespace Go.V
open Go
section
variable {X:Cx}{B:Bx}{E:Env}{S:St}{w:World}{F:Bs}{a:Act}{N:Nat}{R:AE→St→Prop}
def DrvP (X:Cx)(N:Nat)(ops:Array Oper)(ix:Nat→Nat)(bp:Nat→Nat→Bool)(em:Nat→Bool):List Oper→Nat→Bs→St→List St→List Gl→(Bs→St→Prop)→Prop
 | [],_,F,S,_,_,K=>K F S
 | o::os,i,F,S,Hs,pend,K =>
   (∃ x,Ci N o.dst=true∧(∀ S',Ndo X N ops (ix i) o F x S' S')∧DrvP X N ops ix bp em os (i+1) (putF o.dst x F) S Hs pend K) ∨
   (∃ x,Ci N o.dst=true∧(∀ S',S'∈Hs→Ndo X N ops (ix i) o F x S' S')∧DrvP X N ops ix bp em os (i+1) (putF o.dst x F) S Hs ((i,o,F,x)::pend) K) ∨
   (∃ x S' pend',em i=true∧Ci N o.dst=true∧Ndo X N ops (ix i) o F x S S'∧pend.filter (fun p=>!bp p.1 i)=pend'∧(∀ p,p∈pend'→Ndo X N ops (ix p.1) p.2.1 p.2.2.1 p.2.2.2 S' S') ∧
     DrvP X N ops ix bp em os (i+1) (putF o.dst x F) S' (S'::Hs) pend' K)
structure DDataP (X:Cx)(N:Nat)(ops:Array Oper)(ix:Nat→Nat)(bp:Nat→Nat→Bool)(em:Nat→Bool)(i n:Nat)(eff:Nat→Bool)(x:Nat→AV)(FF:Nat→Bs)(SS:Nat→St)(Hs:List St)(pend:List Gl):Prop where
 step:∀ j,i≤j→j<n→∀ o,ops[ix j]?=some o→FF (j+1)=putF o.dst (x j) (FF j)∧Ci N o.dst=true
 eff0:∀ j,i≤j→j<n→eff j=false→SS (j+1)=SS j
 eff1:∀ j,i≤j→j<n→eff j=true→∀ o,ops[ix j]?=some o→em j=true∧Ndo X N ops (ix j) o (FF j) (x j) (SS j) (SS (j+1))
 was:∀ j,i≤j→j<n→eff j=false→∀ o,ops[ix j]?=some o→∀ S',S'∈Hs→Ndo X N ops (ix j) o (FF j) (x j) S' S'
 will:∀ j,i≤j→j<n→eff j=false→∀ o,ops[ix j]?=some o→∀ p,i≤p→p≤n→(∀ e,j≤e→e<p→eff e=true→bp j e=false)→Ndo X N ops (ix j) o (FF j) (x j) (SS p) (SS p)
 pend:∀ q,q∈pend→∀ p,i≤p→p≤n→(∀ e,i≤e→e<p→eff e=true→bp q.1 e=false)→Ndo X N ops (ix q.1) q.2.1 q.2.2.1 q.2.2.2 (SS p) (SS p)
theorem DrvP.data {ops:Array Oper}{ix:Nat→Nat}{bp:Nat→Nat→Bool}{em:Nat→Bool}:∀ (os:List Oper)(i:Nat)(F:Bs)(S:St)(Hs:List St)(pend:List Gl)(K:Bs→St→Prop),
 DrvP X N ops ix bp em os i F S Hs pend K→(∀ k,k<os.length→ops[ix (i+k)]?=os[k]?)→S∈Hs→(∀ q,q∈pend→Ndo X N ops (ix q.1) q.2.1 q.2.2.1 q.2.2.2 S S) →
 ∃ eff x FF SS,FF i=F∧SS i=S∧K (FF (i+os.length)) (SS (i+os.length))∧DDataP X N ops ix bp em i (i+os.length) eff x FF SS Hs pend
 | [],i,F,S,Hs,pend,K,h,_,hS,hp=>by
   refine ⟨fun _=>false,fun _=>.junk,fun _=>F,fun _=>S,rfl,rfl,h,?_⟩
   exact { step:=fun j h1 h2=>by simp at h2;omega
           eff0:=fun j h1 h2=>by simp at h2;omega
           eff1:=fun j h1 h2=>by simp at h2;omega
           was:=fun j h1 h2=>by simp at h2;omega
           will:=fun j h1 h2=>by simp at h2;omega
           pend:=fun q hq p _ _ _=>hp q hq }
 | o::os,i,F,S,Hs,pend,K,h,hops,hS,hp=>by
   have ho:ops[ix i]?=some o:=by have:=hops 0 (by simp);simpa using this
   have hops':∀ k,k<os.length→ops[ix (i+1+k)]?=os[k]?:=fun k hk=>by
    have:=hops (k+1) (by simp;omega)
    rw [show i+1+k=i+(k+1) by omega]
    simpa using this
   have hlen:i+(o::os).length=i+1+os.length:=by simp;omega
   rw [hlen]
   simp only [DrvP] at h
   have Jk:∀ {β:Type} (f:Nat→β) (v:β) (j:Nat),(fun j=>if j=i then v else f j) j=if j=i then v else f j:=fun _ _ _=>rfl
   rcases h with ⟨x,hd,hn,hk⟩ | ⟨x,hd,hn,hk⟩ | ⟨x,S',pend',he,hd,hn,hpf,hpn,hk⟩
   ·obtain ⟨eff,xs,FF,SS,h1,h2,h3,D⟩:=DrvP.data os (i+1) _ S Hs pend K hk hops' hS hp
    refine ⟨fun j=>if j=i then false else eff j,fun j=>if j=i then x else xs j,fun j=>if j=i then F else FF j,fun j=>if j=i then S else SS j,by simp,by simp,?_,?_⟩
    ·have:¬ (i+1+os.length=i):=by omega
     simpa [this] using h3
    ·refine ⟨fun j a b o' ho'=>?_,fun j a b c=>?_,fun j a b c o' ho'=>?_,fun j a b c o' ho' S' hS'=>?_,fun j a b c o' ho' p hp1 hp2 hpe=>?_,fun q hq p hp1 hp2 hpe=>?_⟩
     ·by_cases hj:j=i
      ·subst hj;rw [ho] at ho';cases ho'
       simp [h1,hd]
      ·have h4:¬ (j+1=i):=by omega
       simp only [hj,h4,if_false]
       exact D.step j (by omega) b o' ho'
     ·by_cases hj:j=i
      ·subst hj;simp [h2]
      ·have h4:¬ (j+1=i):=by omega
       simp only [hj,h4,if_false] at c ⊢
       exact D.eff0 j (by omega) b c
     ·by_cases hj:j=i
      ·subst hj;simp at c
      ·have h4:¬ (j+1=i):=by omega
       simp only [hj,h4,if_false] at c ⊢
       exact D.eff1 j (by omega) b c o' ho'
     ·by_cases hj:j=i
      ·subst hj;rw [ho] at ho';cases ho';simp only [if_true];exact hn S'
      ·simp only [hj,if_false] at c ⊢
       exact D.was j (by omega) b c o' ho' S' hS'
     ·by_cases hj:j=i
      ·subst hj;rw [ho] at ho';cases ho';simp only [if_true];exact hn _
      ·simp only [hj,if_false] at c ⊢
       by_cases hpi:p=i
       ·subst hpi;simp only [if_true];exact D.was j (by omega) b c o' ho' S hS
       ·simp only [hpi,if_false]
        refine D.will j (by omega) b c o' ho' p (by omega) hp2 (fun e e1 e2 e3=>hpe e e1 e2 ?_)
        have:¬ (e=i):=by omega
        simpa [this] using e3
     ·by_cases hpi:p=i
      ·subst hpi;simp only [if_true];exact hp q hq
      ·simp only [hpi,if_false]
       refine D.pend q hq p (by omega) hp2 (fun e e1 e2 e3=>hpe e (by omega) e2 ?_)
       have:¬ (e=i):=by omega
       simpa [this] using e3
   ·obtain ⟨eff,xs,FF,SS,h1,h2,h3,D⟩:=DrvP.data os (i+1) _ S Hs ((i,o,F,x)::pend) K hk hops' hS (fun q hq=>by
     rcases List.mem_cons.1 hq with rfl | hq
     ·exact hn S hS
     ·exact hp q hq)
    refine ⟨fun j=>if j=i then false else eff j,fun j=>if j=i then x else xs j,fun j=>if j=i then F else FF j,fun j=>if j=i then S else SS j,by simp,by simp,?_,?_⟩
    ·have:¬ (i+1+os.length=i):=by omega
     simpa [this] using h3
    ·refine ⟨fun j a b o' ho'=>?_,fun j a b c=>?_,fun j a b c o' ho'=>?_,fun j a b c o' ho' S' hS'=>?_,fun j a b c o' ho' p hp1 hp2 hpe=>?_,fun q hq p hp1 hp2 hpe=>?_⟩
     ·by_cases hj:j=i
      ·subst hj;rw [ho] at ho';cases ho'
       simp [h1,hd]
      ·have h4:¬ (j+1=i):=by omega
       simp only [hj,h4,if_false]
       exact D.step j (by omega) b o' ho'
     ·by_cases hj:j=i
      ·subst hj;simp [h2]
      ·have h4:¬ (j+1=i):=by omega
       simp only [hj,h4,if_false] at c ⊢
       exact D.eff0 j (by omega) b c
     ·by_cases hj:j=i
      ·subst hj;simp at c
      ·have h4:¬ (j+1=i):=by omega
       simp only [hj,h4,if_false] at c ⊢
       exact D.eff1 j (by omega) b c o' ho'
     ·by_cases hj:j=i
      ·subst hj;rw [ho] at ho';cases ho';simp only [if_true];exact hn S' hS'
      ·simp only [hj,if_false] at c ⊢
       exact D.was j (by omega) b c o' ho' S' hS'
     ·by_cases hpi:p=i
      ·subst hpi
       simp only [if_true]
       by_cases hj:j=p
       ·subst hj;rw [ho] at ho';cases ho';simp only [if_true];exact hn S hS
       ·simp only [hj,if_false] at c ⊢;exact D.was j (by omega) b c o' ho' S hS
      ·simp only [hpi,if_false]
       by_cases hj:j=i
       ·subst hj;rw [ho] at ho';cases ho';simp only [if_true]
        refine D.pend (j,o,F,x) (by simp) p (by omega) hp2 (fun e e1 e2 e3=>hpe e (by omega) e2 ?_)
        have:¬ (e=j):=by omega
        simpa [this] using e3
       ·simp only [hj,if_false] at c ⊢
        refine D.will j (by omega) b c o' ho' p (by omega) hp2 (fun e e1 e2 e3=>hpe e e1 e2 ?_)
        have:¬ (e=i):=by omega
        simpa [this] using e3
     ·by_cases hpi:p=i
      ·subst hpi;simp only [if_true];exact hp q hq
      ·simp only [hpi,if_false]
       refine D.pend q (by simp [hq]) p (by omega) hp2 (fun e e1 e2 e3=>hpe e (by omega) e2 ?_)
       have:¬ (e=i):=by omega
       simpa [this] using e3
   ·obtain ⟨eff,xs,FF,SS,h1,h2,h3,D⟩:=DrvP.data os (i+1) _ S' (S'::Hs) pend' K hk hops' (by simp) hpn
    refine ⟨fun j=>if j=i then true else eff j,fun j=>if j=i then x else xs j,fun j=>if j=i then F else FF j,fun j=>if j=i then S else SS j,by simp,by simp,?_,?_⟩
    ·have:¬ (i+1+os.length=i):=by omega
     simpa [this] using h3
    ·refine ⟨fun j a b o' ho'=>?_,fun j a b c=>?_,fun j a b c o' ho'=>?_,fun j a b c o' ho' S' hS'=>?_,fun j a b c o' ho' p hp1 hp2 hpe=>?_,fun q hq p hp1 hp2 hpe=>?_⟩
     ·by_cases hj:j=i
      ·subst hj;rw [ho] at ho';cases ho'
       simp [h1,hd]
      ·have h4:¬ (j+1=i):=by omega
       simp only [hj,h4,if_false]
       exact D.step j (by omega) b o' ho'
     ·by_cases hj:j=i
      ·subst hj;simp at c
      ·have h4:¬ (j+1=i):=by omega
       simp only [hj,h4,if_false] at c ⊢
       exact D.eff0 j (by omega) b c
     ·by_cases hj:j=i
      ·subst hj;rw [ho] at ho';cases ho'
       simp [h2,he];exact hn
      ·have h4:¬ (j+1=i):=by omega
       simp only [hj,h4,if_false] at c ⊢
       exact D.eff1 j (by omega) b c o' ho'
     ·by_cases hj:j=i
      ·subst hj;simp at c
      ·simp only [hj,if_false] at c ⊢
       exact D.was j (by omega) b c o' ho' S' (by simp [hS'])
     ·by_cases hj:j=i
      ·subst hj;simp at c
      ·simp only [hj,if_false] at c ⊢
       by_cases hpi:p=i
       ·subst hpi;simp only [if_true];exact D.was j (by omega) b c o' ho' S (by simp [hS])
       ·simp only [hpi,if_false]
        refine D.will j (by omega) b c o' ho' p (by omega) hp2 (fun e e1 e2 e3=>hpe e e1 e2 ?_)
        have:¬ (e=i):=by omega
        simpa [this] using e3
     ·by_cases hpi:p=i
      ·subst hpi;simp only [if_true];exact hp q hq
      ·simp only [hpi,if_false]
       have hb:bp q.1 i=false:=hpe i (Nat.le_refl _) (by omega) (by simp)
       refine D.pend q (by rw [← hpf];exact List.mem_filter.2 ⟨hq,by simp [hb]⟩) p (by omega) hp2 (fun e e1 e2 e3=>hpe e (by omega) e2 ?_)
       have:¬ (e=i):=by omega
       simpa [this] using e3
def Rx (ops:Array Oper)(ix:Nat→Nat)(x:Nat→AV)(listed:Nat→Bool)(F:Bs):Nat→Bs
 | 0=>F
 | j+1=>match listed j with
   | true=>match ops[ix j]? with
     | some o=>putF o.dst (x j) (Rx ops ix x listed F j)
     | none=>Rx ops ix x listed F j
   | false=>Rx ops ix x listed F j
theorem Kd {ops:Array Oper}{ix:Nat→Nat}{x:Nat→AV}{listed:Nat→Bool}{t:Nat}:∀ n,(∀ j,j<n→listed j=true→∀ o,ops[ix j]?=some o→o.dst≠some t)→lk (Rx ops ix x listed F n) t=lk F t
 | 0,_=>rfl
 | n+1,h=>by
   have ih:lk (Rx ops ix x listed F n) t=lk F t:=Kd n (fun j hj=>h j (by omega))
   simp only [Rx]
   split
   ·rename_i hl
    split
    ·rename_i o ho
     rw [Ep,if_neg (h n (by omega) hl o ho),ih]
    ·exact ih
   ·exact ih
theorem M3 {ops:Array Oper}{ix:Nat→Nat}{x:Nat→AV}{listed:Nat→Bool}{t j:Nat}{o:Oper}(ho:ops[ix j]?=some o)(hd:o.dst=some t)(hl:listed j=true) :
 ∀ n,j<n→(∀ (j':Nat) (o':Oper),j'<n→j≠j'→ops[ix j']?=some o'→o'.dst≠some t)→lk (Rx ops ix x listed F n) t=some (x j)
 | 0,h,_=>by omega
 | n+1,h,hu=>by
   simp only [Rx]
   by_cases hj:j=n
   ·subst hj
    simp only [hl,ho]
    rw [Ep,if_pos hd]
   ·have ih:lk (Rx ops ix x listed F n) t=some (x j):=M3 ho hd hl n (by omega) (fun j' o' h'=>hu j' o' (by omega))
    split
    ·split
     ·rename_i o' ho'
      rw [Ep,if_neg (hu n o' (by omega) hj ho'),ih]
     ·exact ih
    ·exact ih
structure DrawOkP (ops:Array Oper)(ix:Nat→Nat)(n:Nat)(bp:Nat→Nat→Bool)(em:Nat→Bool):Prop where
 at_:∀ j,j<n→∃ o,ops[ix j]?=some o
 looks:∀ (i j:Nat) (oi oj:Oper),i<n→j<n→ops[ix i]?=some oi→ops[ix j]?=some oj→∀ t,oj.dst=some t→t∈oi.looksAt ops→(j<i∧bp j i=true)∨(i<j∧bp i j=true)
 dsts:∀ (i j:Nat) (oi oj:Oper),i<n→j<n→ops[ix i]?=some oi→ops[ix j]?=some oj→i≠j→∀ t,oi.dst=some t→oj.dst≠some t
 effs:∀ (i j:Nat),i<j→j<n→em i=true→em j=true→bp i j=true
def OrdP (bp:Nat→Nat→Bool)(n:Nat):List Nat→(Nat→Bool)→Prop
 | [],listed=>∀ j,j<n→listed j=true
 | i::l,listed=>i<n∧listed i=false∧(∀ e,e<n→bp e i=true→listed e=true)∧OrdP bp n l (fun j=>if i=j then true else listed j)
def CloP (bp:Nat→Nat→Bool)(n:Nat)(listed:Nat→Bool):Prop:=∀ j e,j<n→e<n→listed j=true→bp e j=true→listed e=true
theorem CloP.put {bp:Nat→Nat→Bool}{n i:Nat}{listed:Nat→Bool}(h:CloP bp n listed)(hb:∀ e,e<n→bp e i=true→listed e=true):CloP bp n (fun j=>if i=j then true else listed j):=fun j e hj he hl hb'=>by
 by_cases h1:i=e
 ·simp [h1]
 ·simp only [h1,if_false]
  by_cases h2:i=j
  ·subst h2;exact hb e he hb'
  ·simp only [h2,if_false] at hl;exact h j e hj he hl hb'
theorem Ai8 {ops:Array Oper}{ix:Nat→Nat}{n:Nat}{bp:Nat→Nat→Bool}{em:Nat→Bool}(dk:DrawOkP ops ix n bp em){eff:Nat→Bool}{x:Nat→AV}{FF:Nat→Bs}{SS:Nat→St}{Hs:List St}{pend:List Gl}
 (D:DDataP X N ops ix bp em 0 n eff x FF SS Hs pend)(hF0:FF 0=F)(k:List Item):∀ (l:List Nat)(listed:Nat→Bool)(a:Act)(w:World)(E:Env)(p:Nat),
 OrdP bp n l listed→CloP bp n listed→p≤n→(∀ e,e<n→eff e=true→(listed e=true↔e<p)) →
 Inv X E (SS p) w→FR E w (Rx ops ix x listed F n) a N→∀ (b:Frame) (cs:List Frame),
  ∃ E' w' a',Steps X.P (lone (b.at a (.inRegion ops (l.map ix)::k)) cs w) (lone (b.at a' k) cs w')∧Inv X E' (SS n) w' ∧
   FR E' w' (FF n) a' N∧Evol E w E' w' E.boxes.length E.toks.length:=by
 have hFF:∀ m,m≤n→FF m=Rx ops ix x (fun _=>true) F m:=by
  intro m
  induction m with
  | zero=>intro _;exact hF0
  | succ m ih =>
    intro hn
    obtain ⟨o,ho⟩:=dk.at_ m (by omega)
    rw [(D.step m (Nat.zero_le _) (by omega) _ ho).1,ih (by omega)]
    simp [Rx,ho]
 have hSS:∀ p q,p≤q→q≤n→(∀ e,p≤e→e<q→eff e=false)→SS q=SS p:=by
  intro p q hpq
  induction q with
  | zero=>intro _ _;rw [show p=0 by omega]
  | succ q ih =>
    intro hq he
    by_cases h:p=q+1
    ·rw [h]
    ·rw [D.eff0 q (Nat.zero_le _) (by omega) (he q (by omega) (by omega))]
     exact ih (by omega) (by omega) (fun e h1 h2=>he e h1 (by omega))
 intro l
 induction l with
 | nil =>
   intro listed a w E p hall hc hp hpe hI hF b cs
   refine ⟨E,w,a,.one step_region_end,?_,?_,Evol.refl _ _ _ _⟩
   ·rw [hSS p n hp (Nat.le_refl _) fun e h1 h2=>by
     cases he:eff e with
     | false=>rfl
     | true=>have:=(hpe e h2 he).1 (hall e h2);omega]
    exact hI
   ·rw [hFF _ (Nat.le_refl _)]
    have:Rx ops ix x listed F n=Rx ops ix x (fun _=>true) F n:=by
     have:∀ m,m≤n→Rx ops ix x listed F m=Rx ops ix x (fun _=>true) F m:=by
      intro m
      induction m with
      | zero=>intro _;rfl
      | succ m ih=>intro hn;simp only [Rx,hall m (by omega),ih (by omega)]
     exact this _ (Nat.le_refl _)
    rw [← this];exact hF
 | cons i l ih =>
   intro listed a w E p hord hc hp hpe hI hF b cs
   obtain ⟨hin,hilf,rbit,hrest⟩:=hord
   obtain ⟨o,ho⟩:=dk.at_ i hin
   simp only [List.map_cons]
   have notbit:∀ e,e<n→listed e=true→bp i e=false:=fun e he hl=>by
    cases hb:bp i e with
    | false=>rfl
    | true=>have:=hc e i he hin hl hb;rw [hilf] at this;cases this
   have hagree:∀ t,t∈o.looksAt ops→lk (Rx ops ix x listed F n) t=lk (FF i) t:=fun t ht=>by
    rw [hFF i (by omega)]
    by_cases hw:∃ (j:Nat) (oj:Oper),j<n∧ops[ix j]?=some oj∧oj.dst=some t
    ·obtain ⟨j,oj,hjn,hj,hd⟩:=hw
     have hu:∀ (j':Nat) (o':Oper),j'<n→j≠j'→ops[ix j']?=some o'→o'.dst≠some t:=fun j' o' hjn' hne ho'=>dk.dsts j j' oj o' hjn hjn' hj ho' hne t hd
     rcases dk.looks i j o oj hin hjn ho hj t hd ht with ⟨h1,h2⟩ | ⟨h1,h2⟩
     ·rw [M3 (listed:=listed) hj hd (rbit j hjn h2) n hjn (fun j' o' hj'=>hu j' o' hj'),M3 (listed:=fun _=>true) hj hd rfl i h1 (fun j' o' hj'=>hu j' o' (by omega))]
     ·have hjl:listed j=false:=by
       cases hl:listed j with
       | false=>rfl
       | true=>have:=notbit j hjn hl;rw [h2] at this;cases this
      rw [Kd n fun j' hj' hl' o' ho' hc'=>by
       by_cases hjj:j=j'
       ·subst hjj;rw [hjl] at hl';cases hl'
       ·exact hu j' o' hj' hjj ho' hc',
       Kd i fun j' hj' _ o' ho' hc'=>by
        by_cases hjj:j=j'
        ·omega
        ·exact hu j' o' (by omega) hjj ho' hc']
    ·rw [Kd n fun j' hj' _ o' ho' hc'=>hw ⟨j',o',hj',ho',hc'⟩,Kd i fun j' hj' _ o' ho' hc'=>hw ⟨j',o',by omega,ho',hc'⟩]
   have hcl':=hc.put rbit
   have hlk':∀ t,lk (Rx ops ix x (fun j=>if i=j then true else listed j) F n) t=lk (putF o.dst (x i) (Rx ops ix x listed F n)) t:=fun t=>by
    rw [Ep]
    by_cases hd:o.dst=some t
    ·rw [if_pos hd]
     exact M3 ho hd (by simp) n hin (fun j' o' hj' hne ho'=>dk.dsts i j' o o' hin hj' ho ho' hne t hd)
    ·rw [if_neg hd]
     have:∀ m,lk (Rx ops ix x (fun j=>if i=j then true else listed j) F m) t=lk (Rx ops ix x listed F m) t:=by
      intro m
      induction m with
      | zero=>rfl
      | succ m ihn =>
        simp only [Rx]
        by_cases hn:i=m
        ·subst hn
         simp only [if_true,hilf,ho]
         rw [Ep,if_neg hd,ihn]
        ·simp only [hn,if_false]
         split
         ·split
          ·rw [Ep,Ep,ihn]
          ·exact ihn
         ·exact ihn
     exact this _
   have next:∀ (p':Nat),p'≤n→(∀ e,e<n→eff e=true→((if i=e then true else listed e)=true↔e<p'))→Ndo X N ops (ix i) o (FF i) (x i) (SS p) (SS p') →
    ∃ E' w' a',Steps X.P (lone (b.at a (.inRegion ops (ix i::l.map ix)::k)) cs w) (lone (b.at a' k) cs w') ∧
     Inv X E' (SS n) w'∧FR E' w' (FF n) a' N∧Evol E w E' w' E.boxes.length E.toks.length:=fun p' hp' hpe' hn=>by
    obtain ⟨v,w1,⟨E1,h1,h2,h3⟩,h4⟩:=hn _ E w a hagree hI hF b k cs (l.map ix)
    rw [ho] at h4
    have hd:=(D.step i (Nat.zero_le _) hin o ho).2
    have hF1:FR E1 w1 (Rx ops ix x (fun j=>if i=j then true else listed j) F n) (a.put o.dst v) N:=by
     have:=(hF.step h2).putF hd h3
     exact ⟨this.size,this.nod,fun q y hq=>this.rel q y (by rw [← hlk' q];exact hq)⟩
    obtain ⟨E',w',a',k1,k2,k3,k4⟩:=ih _ _ w1 E1 p' hrest hcl' hp' hpe' h1 hF1 b cs
    have hlen:=h2.len
    exact ⟨E',w',a',h4.trans k1,k2,k3,h2.trans (k4.weaken hlen.1 hlen.2)⟩
   cases he:eff i with
   | false =>
     refine next p hp (fun e hen hee=>?_) ?_
     ·by_cases hie:i=e
      ·subst hie;rw [he] at hee;cases hee
      ·rw [if_neg hie];exact hpe e hen hee
     ·exact D.will i (Nat.zero_le _) hin he o ho p (Nat.zero_le _) hp (fun e h1 h2 h3=>notbit e (by omega) ((hpe e (by omega) h3).2 h2))
   | true =>
     obtain ⟨es,hn⟩:=D.eff1 i (Nat.zero_le _) hin he o ho
     have hpi:p≤i:=by
      rcases Nat.lt_or_ge i p with h | h
      ·have:=(hpe i hin he).2 h;rw [hilf] at this;cases this
      ·exact h
     have before:∀ e,e<i→eff e=true→listed e=true:=fun e hei hee=>by
      obtain ⟨oe,hoe⟩:=dk.at_ e (by omega)
      exact rbit e (by omega) (dk.effs e i hei hin (D.eff1 e (Nat.zero_le _) (by omega) hee _ hoe).1 es)
     have hSp:SS i=SS p:=hSS p i hpi (by omega) (fun e h1 h2=>by
      cases hee:eff e with
      | false=>rfl
      | true=>have:=(hpe e (by omega) hee).1 (before e h2 hee);omega)
     refine next (i+1) (by omega) (fun e hen hee=>?_) (by rw [← hSp];exact hn)
     by_cases hie:i=e
     ·subst hie;simp
     ·rw [if_neg hie]
      constructor
      ·intro hl
       rcases Nat.lt_or_ge e (i+1) with h | h
       ·exact h
       ·obtain ⟨oe,hoe⟩:=dk.at_ e hen
        have:=dk.effs i e (by omega) hen es (D.eff1 e (Nat.zero_le _) hen hee _ hoe).1
        have h2:=notbit e hen hl
        rw [this] at h2;cases h2
      ·intro hlt
       exact before e (by omega) hee
end
def AB (a b:Nat):List Nat→(Nat→Bool)→Prop
 | [],_=>True
 | i::l,listed=>(i=b→listed a=true)∧AB a b l (fun j=>if i=j then true else listed j)
theorem Yu {a b:Nat}:∀ (l:List Nat)(listed:Nat→Bool),listed a=true→AB a b l listed
 | [],_,_=>trivial
 | i::l,listed,h=>⟨fun _=>h,Yu l _ (by simp [h])⟩
theorem Aia {a b:Nat}(hne:a≠b):∀ (l:List Nat)(listed:Nat→Bool),AB a b l listed∨AB b a l listed
 | [],_=>.inl trivial
 | i::l,listed=>by
   by_cases ha:i=a
   ·subst ha
    exact .inl ⟨fun h=>absurd h hne,Yu l _ (by simp)⟩
   ·by_cases hb:i=b
    ·subst hb
     exact .inr ⟨fun h=>absurd h.symm hne,Yu l _ (by simp)⟩
    ·rcases Aia hne l (fun j=>if i=j then true else listed j) with h | h
     ·exact .inl ⟨fun h'=>absurd h' hb,h⟩
     ·exact .inr ⟨fun h'=>absurd h' ha,h⟩
theorem Ao2 {bp:Nat→Nat→Bool}{n a b c:Nat}(hb:b<n)(hbc:bp b c=true):∀ (l:List Nat)(listed:Nat→Bool),OrdP bp n l listed→AB a b l listed→(listed b=true→listed a=true)→AB a c l listed
 | [],_,_,_,_=>trivial
 | i::l,listed,⟨_,_,g3,g4⟩,⟨h1,h2⟩,h3=>⟨fun hi=>h3 (g3 b hb (by rw [hi];exact hbc)),Ao2 hb hbc l _ g4 h2 (fun hl=>by
    by_cases hib:i=b
    ·by_cases hia:i=a
     ·simp [hia]
     ·simp [hia,h1 hib]
    ·simp only [hib,if_false] at hl
     by_cases hia:i=a
     ·simp [hia]
     ·simp [hia,h3 hl])⟩
theorem OrdP.congr {bp:Nat→Nat→Bool}{n:Nat}:∀ (l:List Nat){f g:Nat→Bool},(∀ p,p<n→f p=g p)→OrdP bp n l f→OrdP bp n l g
 | [],f,g,h,ho=>fun j hj=>by rw [← h j hj];exact ho j hj
 | i::l,f,g,h,⟨g1,g2,g3,g4⟩=>⟨g1,by rw [← h i g1];exact g2,fun e he hb=>by rw [← h e he];exact g3 e he hb,OrdP.congr l (fun p hp=>by
    by_cases hi:i=p
    ·simp [hi]
    ·simp [hi,h p hp]) g4⟩
theorem OrdP.map {bp:Nat→Nat→Bool}{n:Nat}{σ ix:Nat→Nat}(h1:∀ i,i<n→σ i<n∧ix (σ i)=i)(h2:∀ p,p<n→ix p<n∧σ (ix p)=p){asm:List (Nat × Nat)}:∀ (l:List Nat)(listed:Nat→Bool),OrdP bp n l listed →
 (∀ ab,ab∈asm→AB ab.1 ab.2 l listed)→OrdP (fun q p=>bp (ix q) (ix p)||asm.contains (ix q,ix p)) n (l.map σ) (fun p=>listed (ix p))∧(l.map σ).map ix=l
 | [],listed,h,_=>⟨fun j hj=>h _ (h2 j hj).1,rfl⟩
 | i::l,listed,h,ha=>by
   obtain ⟨g1,g2,g3,g4⟩:=h
   obtain ⟨k1,k2⟩:=h1 i g1
   have ih:=OrdP.map h1 h2 l _ g4 (fun ab hab=>(ha ab hab).2)
   refine ⟨⟨k1,by simp only [k2];exact g2,fun e he hb=>?_,OrdP.congr _ (fun p hp=>?_) ih.1⟩,by simp only [List.map_cons,k2,ih.2]⟩
   ·simp only [k2,Bool.or_eq_true] at hb
    rcases hb with hb | hb
    ·exact g3 _ (h2 e he).1 hb
    ·have hm:=List.contains_iff_mem.1 hb
     exact (ha _ hm).1 rfl
   ·by_cases hi:i=ix p
    ·have:σ i=p:=by rw [hi];exact (h2 p hp).2
     simp only [this,if_true,if_pos hi]
    ·have hs:¬ σ i=p:=fun h=>hi (by rw [← h];exact k2.symm)
     simp [hi,hs]
theorem Am9 {ops:Array Oper}{bs:List Nat}(hb:R4 ops bs=true):∀ (fuel t:Nat)(listed:Array Bool),listed.size=ops.size→Closed ops listed→Uh listed ops.size≤fuel →
 OrdP (bitOf bs) ops.size (Region.linearise.go .any ops fuel t listed []) (fun j=>listed.getD j false):=by
 have fin:∀ (listed:Array Bool),(∀ j,j<ops.size→listed.getD j false=true)→OrdP (bitOf bs) ops.size [] (fun j=>listed.getD j false):=fun _ h=>h
 intro fuel
 induction fuel with
 | zero =>
   intro t listed hs hc hcnt
   refine fin listed fun j hj=>?_
   cases hl:listed.getD j false with
   | true=>rfl
   | false =>
     have:j∈(List.range ops.size).filter fun j=>!listed.getD j false:=List.mem_filter.2 ⟨List.mem_range.2 hj,by simp only [hl];rfl⟩
     unfold Uh at hcnt
     have:=List.length_pos_of_mem this
     omega
 | succ fuel ih =>
   intro t listed hs hc hcnt
   simp only [Region.linearise.go]
   change OrdP (bitOf bs) ops.size (match (Region.ready .any ops listed)[t % (Region.ready .any ops listed).length]? with
    | some i=>Region.linearise.go .any ops fuel (t / (Region.ready .any ops listed).length) (listed.setIfInBounds i true) [i]
    | none=>[].reverse) _
   cases hi:(Region.ready .any ops listed)[t % (Region.ready .any ops listed).length]? with
   | none =>
     have hnil:Region.ready .any ops listed=[]:=by
      cases hr:Region.ready .any ops listed with
      | nil=>rfl
      | cons y ys =>
        rw [hr] at hi
        have hlt:t % (y::ys).length<(y::ys).length:=Nat.mod_lt _ (by simp)
        simp at hi
        simp at hlt
        omega
     exact fin listed (P1 hb hs hnil)
   | some i =>
     obtain ⟨hin,hil,o,ho,hafter⟩:=Sr (List.mem_of_getElem? hi)
     have hilf:listed.getD i false=false:=by
      have:i<listed.size:=by omega
      simp [Array.getD,this] at hil ⊢;exact hil
     simp only []
     rw [linearise_go_acc,List.reverse_singleton,List.singleton_append]
     have rbit:∀ e,e<ops.size→bitOf bs e i=true→listed.getD e false=true:=fun e he hbit=>by
      have hk:=List.all_eq_true.1 hb i (List.mem_range.2 hin)
      rw [ho] at hk
      simp only [Bool.and_eq_true,beq_iff_eq] at hk
      unfold bitOf at hbit
      rw [hk.1] at hbit
      rcases Lf bs e _ 0 hbit with h | ⟨e',he',hbe,h⟩
      ·simp at h
      ·have hl':=hafter e' he' hbe
       rcases h with rfl | h
       ·exact hl'
       ·have:e'.on<ops.size:=by
         have h2:=List.all_eq_true.1 hk.2 e' he'
         simp only [hbe,Bool.not_true,Bool.or_false] at h2
         have:e'.on<i:=by simpa [Nat.blt_eq] using h2
         omega
        exact hc.bit hb e'.on e this hl' h
     have hcl':Closed ops (listed.setIfInBounds i true):=fun j oj hj hoj e he hb=>by
      rw [Fs (by omega)] at hj ⊢
      by_cases hie:i=e.on
      ·rw [if_pos hie]
      ·rw [if_neg hie]
       by_cases hij:i=j
       ·subst hij;rw [ho] at hoj;cases hoj;exact hafter e he hb
       ·rw [if_neg hij] at hj;exact hc j oj hj hoj e he hb
     have hcu:=Vh hin hs hilf
     refine ⟨hin,hilf,rbit,OrdP.congr _ (fun p _=>?_) (ih _ (listed.setIfInBounds i true) (by simp [hs]) hcl' (by omega))⟩
     rw [Fs (by omega)]
def bpP (bs:List Nat)(π:List Nat)(asm:List (Nat × Nat))(q p:Nat):Bool:=bitOf bs (π.getD q 0) (π.getD p 0)||asm.contains (π.getD q 0,π.getD p 0)
def okP (ops:Array Oper)(bs π:List Nat)(asm:List (Nat × Nat))(em:Nat):Bool :=
 ((List.range ops.size).all fun i=>Nat.blt (π.idxOf i) ops.size&&π.getD (π.idxOf i) 0==i) &&
 ((List.range ops.size).all fun p=>Nat.blt (π.getD p 0) ops.size&&π.idxOf (π.getD p 0)==p) &&
 (List.range ops.size).all fun i=>match ops[π.getD i 0]? with
   | none=>false
   | some oi=>(List.range ops.size).all fun j=>match ops[π.getD j 0]? with
     | none=>false
     | some oj =>
       (match oj.dst with
         | some t=>!(oi.looksAt ops).contains t||(Nat.blt j i&&bpP bs π asm j i)||(Nat.blt i j&&bpP bs π asm i j)
         | none=>true) &&
       (i==j||(match oi.dst with
         | some t=>oj.dst != some t
         | none=>true)) &&
       (Nat.ble j i||!(em.testBit (π.getD i 0)&&em.testBit (π.getD j 0))||bpP bs π asm i j)
theorem Aj6 {ops:Array Oper}{bs π:List Nat}{asm:List (Nat × Nat)}{em:Nat}(h:okP ops bs π asm em=true) :
 (∀ i,i<ops.size→π.idxOf i<ops.size∧π.getD (π.idxOf i) 0=i)∧(∀ p,p<ops.size→π.getD p 0<ops.size∧π.idxOf (π.getD p 0)=p) ∧
 DrawOkP ops (π.getD · 0) ops.size (bpP bs π asm) (fun j=>em.testBit (π.getD j 0)):=by
 unfold okP at h
 rw [Bool.and_eq_true,Bool.and_eq_true] at h
 obtain ⟨⟨h1,h2⟩,h3⟩:=h
 have key:∀ (i j:Nat) (oi oj:Oper),i<ops.size→j<ops.size→ops[π.getD i 0]?=some oi→ops[π.getD j 0]?=some oj →
  ((match oj.dst with
     | some t=>!(oi.looksAt ops).contains t||(Nat.blt j i&&bpP bs π asm j i)||(Nat.blt i j&&bpP bs π asm i j)
     | none=>true) &&
    (i==j||(match oi.dst with
      | some t=>oj.dst != some t
      | none=>true)) &&
    (Nat.ble j i||!(em.testBit (π.getD i 0)&&em.testBit (π.getD j 0))||bpP bs π asm i j))=true:=fun i j oi oj li lj hi hj=>by
  have a1:=List.all_eq_true.1 h3 i (List.mem_range.2 li)
  rw [hi] at a1
  have a2:=List.all_eq_true.1 a1 j (List.mem_range.2 lj)
  rw [hj] at a2
  exact a2
 have at_:∀ j,j<ops.size→∃ o,ops[π.getD j 0]?=some o:=fun j hj=>by
  have a1:=List.all_eq_true.1 h3 j (List.mem_range.2 hj)
  cases ho:ops[π.getD j 0]? with
  | none=>rw [ho] at a1;cases a1
  | some o=>exact ⟨o,rfl⟩
 refine ⟨fun i hi=>?_,fun p hp=>?_,at_,fun i j oi oj li lj hi hj t ht hm=>?_,fun i j oi oj li lj hi hj hne t ht hc=>?_,fun i j hij lj e1 e2=>?_⟩
 ·have:=List.all_eq_true.1 h1 i (List.mem_range.2 hi)
  simpa [Nat.blt_eq] using this
 ·have:=List.all_eq_true.1 h2 p (List.mem_range.2 hp)
  simpa [Nat.blt_eq] using this
 ·have:=key i j oi oj li lj hi hj
  simp only [Bool.and_eq_true,ht,Bool.or_eq_true,Bool.not_eq_true',Nat.blt_eq] at this
  rcases this.1.1 with (h | h) | h
  ·have hc:(oi.looksAt ops).contains t=true:=List.contains_iff_mem.2 hm
   rw [hc] at h;cases h
  ·exact .inl h
  ·exact .inr h
 ·have:=key i j oi oj li lj hi hj
  simp only [Bool.and_eq_true,ht,Bool.or_eq_true] at this
  rcases this.1.2 with h' | h'
  ·simp at h';exact hne h'
  ·rw [hc] at h';simp at h'
 ·obtain ⟨oi,hi⟩:=at_ i (by omega)
  obtain ⟨oj,hj⟩:=at_ j lj
  have:=key i j oi oj (by omega) lj hi hj
  simp only [Bool.and_eq_true,Bool.or_eq_true,e1,e2] at this
  rcases this.2 with (h' | h') | h'
  ·have:=Nat.le_of_ble_eq_true h';omega
  ·simp at h'
  ·exact h'
section
variable {X:Cx}{B:Bx}{E:Env}{S:St}{w:World}{F:Bs}{a:Act}{N:Nat}{R:AE→St→Prop}
def Way (X:Cx)(N:Nat)(ops:Array Oper)(F:Bs)(S:St)(K:Bs→St→Prop)(l:List Nat):Prop :=
 ∃ (π:List Nat) (asm:List (Nat × Nat)) (em:Nat) (os:List Oper),(∀ ab,ab∈asm→AB ab.1 ab.2 l fun _=>false)∧okP ops (Fb ops.toList []) π asm em=true∧os.length=ops.size ∧
  (π.map fun i=>ops[i]?)=os.map some∧DrvP X N ops (π.getD · 0) (bpP (Fb ops.toList []) π asm) (fun j=>em.testBit (π.getD j 0)) os 0 F S [S] [] K
theorem Way.mk {ops:Array Oper}{K:Bs→St→Prop}{l:List Nat}(π:List Nat)(asm:List (Nat × Nat))(em:Nat){os:List Oper}(ha:∀ ab,ab∈asm→AB ab.1 ab.2 l fun _=>false)(hos:(π.filterMap fun i=>ops[i]?)=os)
 (hd:DrvP X N ops (π.getD · 0) (bpP (Fb ops.toList []) π asm) (fun j=>em.testBit (π.getD j 0)) os 0 F S [S] [] K)(hok:okP ops (Fb ops.toList []) π asm em=true:=by kernel_rfl)(hl:os.length=ops.size:=by rfl)(hm:(π.map fun i=>ops[i]?)=os.map some:=by rfl):Way X N ops F S K l :=
 ⟨π,asm,em,os,ha,hok,hl,hm,hd⟩
theorem AK.ways {id:Nat}{ops:Array Oper}{k:List Item}(h:∀ l:List Nat,OrdP (bitOf (Fb ops.toList [])) ops.size l (fun _=>false)→Way X B.fn.ntmps ops F S (fun F' S'=>AK X B k F' S' R) l)(hb:R4 ops (Fb ops.toList [])=true:=by kernel_rfl):AK X B (.code (.region id ops true)::k) F S R:=by
 intro E w a b cs hI hF hn hm hbf
 have hord:=Am9 hb ops.size (w.tape w.drawn (.order b.fn id)) (Array.replicate ops.size false) (by simp) (fun j o hj=>by simp [Array.getD] at hj) (by
  unfold Uh
  exact Nat.le_trans (List.length_filter_le _ _) (by simp))
 generalize hl:Region.linearise.go .any ops ops.size (w.tape w.drawn (.order b.fn id)) (Array.replicate ops.size false) []=l at hord
 have hord':=OrdP.congr (g:=fun _=>false) l (fun p _=>by simp [Array.getD]) hord
 obtain ⟨π,asm,em,os,ha,hok,hos,hmap,hd⟩:=h l hord'
 obtain ⟨k1,k2,dk⟩:=Aj6 hok
 obtain ⟨o1,o2⟩:=OrdP.map (σ:=π.idxOf) (ix:=(π.getD · 0)) k1 k2 l _ hord' ha
 have hget:∀ j,j<os.length→ops[π.getD (0+j) 0]?=os[j]?:=fun j hj=>by
  have h1:=congrArg (fun l=>l[j]?) hmap
  simp only [List.getElem?_map] at h1
  rw [Nat.zero_add]
  cases hp:π[j]? with
  | none=>rw [hp] at h1;simp [List.getElem?_eq_getElem hj] at h1
  | some i =>
    rw [hp] at h1
    simp only [Option.map_some] at h1
    have:π.getD j 0=i:=by simp [List.getD,hp]
    rw [this]
    cases ho:os[j]? with
    | none=>rw [List.getElem?_eq_getElem hj] at ho;cases ho
    | some o=>rw [ho] at h1;simpa using h1
 obtain ⟨eff,x,FF,SS,h1,h2,h3,D⟩:=DrvP.data os 0 F S [S] [] _ hd hget (by simp) (fun q hq=>by cases hq)
 have hlen:0+os.length=ops.size:=by omega
 rw [hlen] at h3 D
 have hI1:Inv X E (SS 0) { w with drawn:=w.drawn+1 }:=by rw [h2];exact hI.keep (D1 E w _ _) (fun _ _=>rfl)
 have hF1:FR E { w with drawn:=w.drawn+1 } (Rx ops (π.getD · 0) x (fun _=>false) F ops.size) a B.fn.ntmps:=by
  have hF':=hF.step (D1 E w _ _)
  have:Rx ops (π.getD · 0) x (fun _=>false) F ops.size=F:=by
   have:∀ n,Rx ops (π.getD · 0) x (fun _=>false) F n=F:=by
    intro n
    induction n with
    | zero=>rfl
    | succ n ih=>simp only [Rx];exact ih
   exact this _
  rw [this];exact hF'
 obtain ⟨E',w',a',g1,g2,g3,g4⟩:=Ai8 dk D h1 k (l.map π.idxOf) (fun _=>false) a { w with drawn:=w.drawn+1 } E 0 o1
  (fun j e _ _ hj=>by cases hj) (Nat.zero_le _) (fun e he hee=>by simp) hI1 hF1 b cs
 rw [o2] at g1
 have hst:Steps X.P (lone (b.at a (.code (.region id ops true)::k)) cs w) (lone (b.at a' k) cs w'):=by
  refine .head step_region_draw ?_
  simp only [Region.schedule,X.mixed,Bool.true_or,if_true]
  have hl':Region.linearise .any ops (w.tape w.drawn (.order b.fn id))=l:=hl
  rw [hl']
  exact g1
 have g4':=(D1 E w _ _).trans g4
 have hll:=g4'.len
 have nt:E.toks.length=S.toks.length:=by rw [← hI.nt];simp
 have nt':E'.toks.length=(SS ops.size).toks.length:=by rw [← g2.nt];simp
 exact Fin.from hst (g4'.weaken (by rw [hI.nb];exact hn) (by omega)) (h3 E' w' a' b cs g2 g3 (by rw [← g2.nb];have:=hI.nb;omega) (by omega) hbf)
end
section
variable {X:Cx}{B:Bx}{S S':St}{F F':Bs}{R:AE→St→Prop}{ops:Array Oper}{N:Nat}{ix:Nat→Nat}{bp:Nat→Nat→Bool}{em:Nat→Bool}{KK:Bs→St→Prop}
theorem Ld:∀ (n:Nat)(os:List Oper)(i:Nat)(F:Bs)(pend:List Gl),(∀ k,k<os.length→ops[ix (i+k)]?=os[k]?) →
 DrvP X N ops ix bp em (H1 X N ops S n os i F pend).1 (H1 X N ops S n os i F pend).2.1 (H1 X N ops S n os i F pend).2.2.1 S [S] (H1 X N ops S n os i F pend).2.2.2 KK→DrvP X N ops ix bp em os i F S [S] pend KK
 | 0,os,i,F,p,_,h=>h
 | n+1,[],i,F,p,_,h=>h
 | n+1,o::os,i,F,p,hos,h=>by
   have ho:ops[ix i]?=some o:=by have:=hos 0 (by simp);simpa using this
   have hos':∀ k,k<os.length→ops[ix (i+1+k)]?=os[k]?:=fun k hk=>by
    have:=hos (k+1) (by simp;omega)
    rw [show i+1+k=i+(k+1) by omega]
    simpa using this
   unfold H1 at h
   split at h
   ·rename_i hw
    split at h
    ·rename_i x hx
     split at h
     ·rename_i F' hF
      obtain ⟨h1,rfl⟩:=Dr hF
      split at h
      ·exact .inr (.inl ⟨x,h1,fun S' hS'=>by simp at hS';subst hS';exact Ndo.ev ho hw hx,Ld n os (i+1) _ _ hos' h⟩)
      ·rename_i hl
       exact .inl ⟨x,h1,fun S'=>Ndo.ev ho hw (by rw [← Ms (S:=S) hl];exact hx),Ld n os (i+1) _ _ hos' h⟩
     ·exact h
    ·split at h
     ·rename_i x hx
      split at h
      ·rename_i F' hF
       obtain ⟨h1,rfl⟩:=Dr hF
       exact .inl ⟨x,h1,fun S'=>Ix ho hw (Mr hx S'.boxes S'.toks),Ld n os (i+1) _ _ hos' h⟩
      ·exact h
     ·exact h
   ·rename_i hw
    split at h
    ·rename_i F' hF
     obtain ⟨h1,rfl⟩:=Dr hF
     exact .inl ⟨_,h1,fun S'=>Ndo.skip ho hw,Ld n os (i+1) _ _ hos' h⟩
    ·exact h
   ·exact h
theorem DrvP.go {os os':List Oper}{i i':Nat}{F':Bs}{pend pend':List Gl}(n:Nat)(k:DrvP X N ops ix bp em os' i' F' S [S] pend' KK)(h:H1 X N ops S n os i F pend=(os',i',F',pend'):=by rfl)
 (hos:((List.range os.length).map fun k=>ops[ix (i+k)]?)=os.map some:=by rfl):DrvP X N ops ix bp em os i F S [S] pend KK :=
 Ld n os i F pend (fun k hk=>by
  have h1:=congrArg (fun l=>l[k]?) hos
  simp only [List.getElem?_map,List.getElem?_range hk,Option.map_some,List.getElem?_eq_getElem hk] at h1
  rw [List.getElem?_eq_getElem hk]
  exact Option.some.inj h1) (by rw [h];exact k)
theorem DrvP.e {os:List Oper}{i:Nat}{o:Oper}{x:AV}{Hs:List St}{pend:List Gl}(k:DrvP X N ops ix bp em os (i+1) F' S Hs pend KK)(ho:ops[ix i]?=some o:=by rfl)(hw:As ops F o=some true:=by rfl)(h:∀ S',Cj X F S' o.op=some x:=by intro;rfl)(hF:K3 N o.dst x F=some F':=by rfl) :
 DrvP X N ops ix bp em (o::os) i F S Hs pend KK:=by
 obtain ⟨h1,rfl⟩:=Dr hF
 exact .inl ⟨x,h1,fun S'=>Ndo.ev ho hw (h S'),k⟩
theorem DrvP.w {os:List Oper}{i:Nat}{o:Oper}{x:AV}{Hs:List St}{pend:List Gl}(h:Ndo X N ops (ix i) o F x S S')(hr:∀ p,p∈pend→Ndo X N ops (ix p.1) p.2.1 p.2.2.1 p.2.2.2 S' S')
 (k:DrvP X N ops ix bp em os (i+1) F' S' (S'::Hs) (pend.filter fun p=>!bp p.1 i) KK)(he:em i=true:=by rfl)(hF:K3 N o.dst x F=some F':=by rfl):DrvP X N ops ix bp em (o::os) i F S Hs pend KK:=by
 obtain ⟨h1,rfl⟩:=Dr hF
 exact .inr (.inr ⟨x,S',_,he,h1,h,rfl,fun p hp=>hr p (List.mem_filter.1 hp).1,k⟩)
theorem DrvP.w0 {os:List Oper}{i:Nat}{o:Oper}{x:AV}{Hs:List St}{pend:List Gl}(h:Ndo X N ops (ix i) o F x S S')
 (k:DrvP X N ops ix bp em os (i+1) F' S' (S'::Hs) [] KK)(he:em i=true:=by rfl)(hF:K3 N o.dst x F=some F':=by rfl)(hp:pend.filter (fun p=>!bp p.1 i)=[]:=by kernel_rfl):DrvP X N ops ix bp em (o::os) i F S Hs pend KK:=by
 obtain ⟨h1,rfl⟩:=Dr hF
 exact .inr (.inr ⟨x,S',[],he,h1,h,hp,fun p hp'=>(by cases hp'),k⟩)
theorem Yx {i:Nat}{Hs:List St}{pend:List Gl}{k K:List Item}{S2:St}(id:Nat)(hk:AK X B K F' S2 R)(he:evT X B.fn.ntmps id 100 k F S=(K,F',S2):=by rfl):DrvP X N ops ix bp em [] i F S Hs pend fun F1 S1=>AK X B k F1 S1 R :=
 AK.evj id 100 he hk
inductive SubR (σ:List Nat)(F:Bs):Bs→Prop where
 | nil:SubR σ F []
 | cons {k:Nat} {x y:AV} {G:Bs} (hx:lk F k=some x) (hr:RinC σ [] x y) (t:SubR σ F G):SubR σ F ((k,y)::G)
theorem SubR.get {σ:List Nat}{G:Bs}(h:SubR σ F G):∀ k y,lk G k=some y→∃ x,lk F k=some x∧Ren true σ [] x y:=by
 induction h with
 | nil=>intro k y hy;simp [lk] at hy
 | cons hx hr t ih =>
   intro k y hy
   rw [H8] at hy
   split at hy
   ·rename_i hk;subst hk;cases hy;exact ⟨_,hx,hr.s⟩
   ·exact ih k y hy
instance {n m c:Nat}{x:List AV} [h:OKL n m x]:OKR n m (List.replicate c x):=⟨fun r hr=>by rw [List.eq_of_mem_replicate hr];exact h.ok⟩
theorem AK.perm {f:FuncId}{fn:Func}{K:List Item}{G:Bs}{bx bx2:List (List (List AV))}(σ:List Nat)(hk:AK X ⟨f,fn,0,0⟩ K G ⟨bx2,[]⟩ R)(hG:SubR σ F G)(hS:S=⟨bx,[]⟩)(hn:G1 σ=true)(hl:σ.length=bx.length)(hlt:(σ.all fun i=>Nat.blt i bx.length)=true)(hal:((List.range bx.length).all fun i=>σ.contains i)=true)
 {bx3:List (List (List AV))}(hsb:(σ.map fun i=>bx.getD i [])=bx3:=by rfl) [hb:RinB σ [] bx3 bx2]:AK X ⟨f,fn,0,0⟩ K F S R:=by
 subst hS;subst hsb
 intro E w a b cs hI hF _ _ hbf
 have nt0:E.toks=[]:=by have:=hI.nt;simpa using this
 have hσ:=Jy hn
 have hσl:∀ i,i∈σ→i<bx.length:=fun i hi=>by have:=List.all_eq_true.1 hlt i hi;simpa [Nat.blt_eq] using this
 have hτl:∀ t,t∈([]:List Nat)→t<E.toks.length:=fun t h=>by cases h
 have hI2:=(hI.sub (Sc:=⟨bx2,[]⟩) hσ List.nodup_nil hτl hb.s hσl rfl).dfE E.df
 have hall:∀ i,i<bx.length→i∈σ:=by
  intro i hi
  have:=List.all_eq_true.1 hal i (List.mem_range.2 hi)
  exact List.contains_iff_mem.1 this
 have hown:∀ b,E.own b↔E.ownS σ [] b:=fun b=>by
  constructor
  ·rintro (⟨i,s,h⟩ | ⟨t,l,c,s,h⟩)
   ·have:=Aa h
    rw [hI.nb] at this
    exact .inl ⟨i,s,hall i this,h⟩
   ·rw [nt0] at h;simp at h
  ·exact Kf
 have hfr:((E.sub σ []).dfs E.df).fr=E.fr:=by
  funext b o
  apply propext
  show (E.mt b o∧¬ E.ownS σ [] b)↔E.fr b o
  constructor
  ·rintro ⟨h,hn⟩
   rcases Su hI h with h' | h'
   ·exact absurd ((hown b).1 h') hn
   ·exact h'
  ·exact fun h=>⟨.inl h,fun ho=>(hI.frlt b o h).1 ((hown b).2 ho)⟩
 have ev:Evol E w ((E.sub σ []).dfs E.df) w 0 0 :=
  ⟨hfr,fun i hi=>absurd hi (Nat.not_lt_zero _),fun t ht=>absurd ht (Nat.not_lt_zero _),rfl,rfl,rfl,Nat.le_refl _,fun _ _ _=>rfl,fun _ _ _ _ h=>h,fun b o _ h=>Ni hτl h,fun b _ h=>Kf ((Kw hτl).1 h),rfl,fun _ _ h=>h,fun t ht=>absurd ht (Nat.not_lt_zero _)⟩
 refine Fin.from (Steps.refl _ _) ev (hk _ w a b cs hI2 ⟨hF.size,hF.nod,fun k y hy=>?_⟩ (Nat.zero_le _) (Nat.zero_le _) hbf)
 obtain ⟨x,hx,hr⟩:=hG.get k y hy
 obtain ⟨v,hv,hrel⟩:=hF.rel k x hx
 exact ⟨v,hv,(hr.fwd (Eb:=(E.sub σ []).dfs E.df) (fun b o h=>Ni hτl h) (fun i j q h1 h2=>(Fo (E:=E) (σ:=σ) (τ:=[])).2 ⟨i,h1,h2⟩) (fun i j k h1 h2=>by simp at h1) hrel)⟩
end
end Go.V
namespace Go.V
open Go Go.Proofs
theorem Aay {n:Nd}(h:Ib n=true):C7 n=(0,[])∧B7 n=true∧B7 (Ap n)=true:=by
 unfold Ib at h
 have h0:(C7 n).1=0:=by simpa using h
 unfold C7 at h0 ⊢
 split at h0
 ·rename_i h1
  rw [if_pos h1]
  split at h0
  ·simp at h0
  ·rename_i h2
   rw [if_neg h2]
   split at h0
   ·simp at h0
   ·rename_i h3
    rw [if_neg h3]
    split at h0
    ·simp at h0
    ·rename_i h4
     split at h0
     ·simp at h0
     ·rename_i h5
      split at h0
      ·simp at h0
      ·rename_i h6
       split at h0
       ·rename_i h7
        simp [h1,h5,h6,h7]
       ·simp at h0
 ·simp at h0
theorem Hy {n:Nd}(h:Ib n=true):FP n∧Af n≤500∧wN n≤4500∧n.kids≠[]∧n.kids.length≤4500:=by
 obtain ⟨fp,hc,_⟩:=Nc (Aay h).2.1
 have hw:=Tn n (Rz fp)
 have hk:=D4 n
 have hne:n.kids≠[]:=by cases fp;simp
 exact ⟨fp,hc,by omega,hne,by omega⟩
def W7 (f:Eg→Int)(p:Nat)(k:Nat):List Eg→List Nat
 | []=>[]
 | e::l=>if f e=p then k::W7 f p (k+1) l else W7 f p (k+1) l
def Kz (f:Eg→Int)(l:List Eg)(p:Nat):List Nat:=W7 f p 0 l
theorem X0 (f:Eg→Int)(p:Nat)(e:Eg):∀ (l:List Eg)(k:Nat),W7 f p k (l++[e])=W7 f p k l++(if f e=p then [k+l.length] else [])
 | [],k=>by simp [W7]
 | x::l,k=>by
   simp only [List.cons_append,W7,List.length_cons]
   rw [X0 f p e l (k+1),show k+1+l.length=k+(l.length+1) by omega]
   split<;>simp
theorem Vz (f:Eg→Int)(p:Nat):∀ (l:List Eg)(k:Nat),(W7 f p k l).length≤l.length
 | [],k=>by simp [W7]
 | x::l,k=>by
   simp only [W7,List.length_cons]
   have:=Vz f p l (k+1)
   split<;>simp<;>omega
def Pw (m:Nat)(f:Eg→Int)(l:List Eg)(pts:Nat):List (List AV):=(List.range pts).map fun p=>[AV.sl (Pv (Kz f l p)) (.tok (m+p))]
def Ma (f:Eg→Int)(l:List Eg)(pts:Nat):List Nat:=(List.range pts).map fun p=>(Kz f l p).length
theorem Nj (m:Nat)(f:Eg→Int)(l:List Eg)(pts:Nat):(Pw m f l pts).length=pts:=by simp [Pw]
theorem F9 (f:Eg→Int)(l:List Eg)(pts:Nat):(Ma f l pts).length=pts:=by simp [Ma]
theorem Ee (m:Nat)(f:Eg→Int)(l:List Eg){pts j:Nat}(h:j<pts):(Pw m f l pts)[j]?=some [AV.sl (Pv (Kz f l j)) (.tok (m+j))]:=by simp [Pw,h]
theorem Ru (f:Eg→Int)(l:List Eg){pts j:Nat}(h:j<pts):(Ma f l pts)[j]?=some (Kz f l j).length:=by simp [Ma,h]
theorem Ra (f:Eg→Int){l:List Eg}{i:Nat}{e:Eg}(h:l[i]?=some e)(p:Nat):Kz f (l.take (i+1)) p=Kz f (l.take i) p++(if f e=p then [i] else []):=by
 have hi:=Aa h
 unfold Kz
 rw [List.take_add_one,h]
 simp only [Option.toList_some]
 rw [X0,Nat.zero_add,List.length_take,Nat.min_eq_left (by omega)]
theorem Af6 (m:Nat)(f:Eg→Int){l:List Eg}{i j pts:Nat}{e:Eg}(h:l[i]?=some e)(hj:f e=j):(Pw m f (l.take i) pts).set j [AV.sl (Pv (Kz f (l.take i) j++[i])) (.tok (m+j))]=Pw m f (l.take (i+1)) pts:=by
 apply List.ext_getElem?
 intro k
 rw [List.getElem?_set,Nj]
 by_cases hk:j=k
 ·subst hk
  rw [if_pos rfl]
  by_cases hp:j<pts
  ·rw [if_pos hp,Ee _ _ _ hp,Ra f h,if_pos hj]
  ·rw [if_neg hp,List.getElem?_eq_none (by rw [Nj];omega)]
 ·rw [if_neg hk]
  by_cases hp:k<pts
  ·rw [Ee _ _ _ hp,Ee _ _ _ hp,Ra f h,if_neg (by rw [hj];omega),List.append_nil]
  ·rw [List.getElem?_eq_none (by rw [Nj];omega),List.getElem?_eq_none (by rw [Nj];omega)]
theorem Af5 (f:Eg→Int){l:List Eg}{i j pts:Nat}{e:Eg}(h:l[i]?=some e)(hj:f e=j):(Ma f (l.take i) pts).set j ((Kz f (l.take i) j).length+1)=Ma f (l.take (i+1)) pts:=by
 apply List.ext_getElem?
 intro k
 rw [List.getElem?_set,F9]
 by_cases hk:j=k
 ·subst hk
  rw [if_pos rfl]
  by_cases hp:j<pts
  ·rw [if_pos hp,Ru _ _ hp,Ra f h,if_pos hj];simp
  ·rw [if_neg hp,List.getElem?_eq_none (by rw [F9];omega)]
 ·rw [if_neg hk]
  by_cases hp:k<pts
  ·rw [Ru _ _ hp,Ru _ _ hp,Ra f h,if_neg (by rw [hj];omega),List.append_nil]
  ·rw [List.getElem?_eq_none (by rw [F9];omega),List.getElem?_eq_none (by rw [F9];omega)]
theorem Alh {n M m pts:Nat}(f:Eg→Int)(l:List Eg)(h:m+pts≤M):D9 n M (Pw m f l pts):=fun r hr x hx=>by
 obtain ⟨p,hp,rfl⟩:=List.mem_map.1 hr
 simp at hx;subst hx
 have:=List.mem_range.1 hp
 exact .sl _ _ ((inferInstance:OKR n M (Pv (Kz f l p))).ok) (fun t ht=>by cases ht;omega)
def Q9 (f:Eg→Int)(l:List Eg)(pts:Nat):List (List AV):=(List.range pts).map fun p=>[.sl (Pv (Kz f l p)) .no]
def Abv (n:Nd):List AV :=
 vi (Fx (Cz n)).pts::.sl (De (Zi (Cz n))) .no::.sl (B4 (Ay n 31)) .no::.sl (B4 (Ay n 32)) .no::.sl (E9 (Br n)) .no ::
  .sl (Q9 Eg.f (Zi (Cz n)) (Fx (Cz n)).pts) .no::.sl (Q9 Eg.t (Zi (Cz n)) (Fx (Cz n)).pts) .no::Ae (Ap n)
theorem Ajw {S:St}{m b pts:Nat}(f:Eg→Int)(l:List Eg)(hS:S.boxes[b]?=some (Pw m f l pts))(hp:pts≤Kk):Fz S 0 0 (.bsl b pts) (.sl (Q9 f l pts) .no):=by
 refine .bsl b pts (Pw m f l pts) (Q9 f l pts) (Nat.zero_le _) hS (by rw [Nj];exact Nat.le_refl _) hp (by simp [Q9]) (fun i r r' h1 h2=>?_) (fun i j r r' x y h1 h2 h3 h4=>?_)
 ·have hi:=Aa h1
  rw [Nj] at hi
  rw [Ee _ _ _ hi] at h1
  simp only [Q9,List.getElem?_map,List.getElem?_range hi,Option.map_some] at h2
  cases h1;cases h2;rfl
 ·have hi:=Aa h1
  rw [Nj] at hi
  rw [Ee _ _ _ hi] at h1
  simp only [Q9,List.getElem?_map,List.getElem?_range hi,Option.map_some] at h2
  cases h1;cases h2
  cases j with
  | zero=>simp at h3 h4;subst h3;subst h4;exact Ao4 (FzR.same ((inferInstance:OKR 0 0 (Pv (Kz f l i))).ok))
  | succ j=>simp at h3
set_option maxHeartbeats 2000000 in
theorem Aaa (n:Nd)(hn:Af n≤1000000000)(hnum:PrI n) :
 Pure X 52 [nd n] (if Ib n=true then .tup [.cptr (Abv n),vb true] else .tup [.val (.pointer none),vb false]):=by
 have hfl:Mu X.P 150=some [0,1]:=by kernel_rfl
 refine Pure.run Tryz.func52 ?_
 refine AK.pc (An3 n hn hnum) ?_
 refine AK.op (O1 (r:=!(((C7 n).1==0)&&(((C7 n).2==[])&&true))) rfl rfl rfl rfl rfl hfl rfl (.inr ⟨rfl,rfl⟩)) ?_
 by_cases hr:Ib n=true
 ·obtain ⟨hC,h1,h2⟩:=Aay hr
  obtain ⟨fp,hc,hw,hne,hkl⟩:=Hy hr
  rw [if_pos hr]
  have hpv:Om n=Ap n:=by unfold Om;rw [hC];rfl
  rw [hC,hpv]
  refine AK.no ?_
  obtain ⟨ds,hpl,_,hps,hwl⟩:=Aef fp
  have hpw:=(Nb n).1
  have hkp:=D4 (Ap n)
  have hgr:Pure X 105 [nd (Ap n)] (.agg [vi (Fx (Cz n)).pts,.sl (De (Zi (Cz n))) .no]):=Ag0 (Ap n) (by rw [hpl];simp) hps (show wL (Cz n)≤_ by omega) (by omega)
  refine AK.db 1024 ?_
  refine Bl hgr ?_
  refine Bl (X9 n 31 hne (by omega)) ?_
  refine Bl (X9 n 32 hne (by omega)) ?_
  refine Bl (Ahq n hne (by omega)) ?_
  refine Drv.w (Ix rfl rfl rfl) ?_
  refine Drv.e ?_
  refine Drv.z ?_
  have hps2:=J7 hps B2 ⟨1,0,[],[],[],0⟩ (by decide)
  have hpts:(Fx (Cz n)).pts≤2000000∧(Zi (Cz n)).length≤2000000∧∀ e,e∈Zi (Cz n)→(0≤e.f∧e.f<(Fx (Cz n)).pts)∧0≤e.t∧e.t<(Fx (Cz n)).pts:=by
   have hl:=Jr 6 B2 hps2.pt
   have hA:=hps2.trans hl (Nat.le_refl _)
   obtain ⟨es,e1,e2,e3⟩:=hA.es
   have hpp:=hA.pts
   simp only [bG] at e2 hpp
   have hes:(Fx (Cz n)).es=es:=by unfold Fx;rw [e1];rfl
   have hpt:(Fx (Cz n)).pt<(Fx (Cz n)).pts:=hA.pt
   refine ⟨by show _≤_;unfold Fx;have:(1:Nat)=(⟨1,0,[],[],[],0⟩:Gr).pts:=rfl;omega,by unfold Zi;rw [hes,List.length_map];omega,fun e he=>?_⟩
   unfold Zi at he
   rw [hes] at he
   obtain ⟨e0,h0,rfl⟩:=List.mem_map.1 he
   obtain ⟨q1,q2⟩:=e3 e0 h0
   have q1':0≤e0.f∧e0.f<(Fx (Cz n)).pts:=q1
   have q2':e0.t=-1∨(0≤e0.t∧e0.t<(Fx (Cz n)).pts):=q2
   unfold Df
   split
   ·exact ⟨q1',by simp;omega⟩
   ·exact ⟨q1',by omega⟩
  obtain ⟨hp1,hp2,hp3⟩:=hpts
  unfold Abv
  generalize Zi (Cz n)=es at *
  generalize (Fx (Cz n)).pts=pts at *
  let prow (x y:AV):List AV:=vi pts::.sl (De es) .no::.sl (B4 (Ay n 31)) .no::.sl (B4 (Ay n 32)) .no::.sl (E9 (Br n)) .no::x::y::Ae (Ap n)
  let bxs (x y:AV):List (List (List AV)):=[[Ae n],[Ae (Ap n)],[[vi 0,str []]],[prow x y],List.replicate pts [.sl [] .tight],List.replicate pts [.sl [] .tight]]
  have L6:AK X ⟨52,Tryz.f52,0,0⟩ (Js false 6 Tryz.f52) [(6,.ptr 3 0 0)] ⟨bxs (.bsl 4 pts) (.bsl 5 pts),[]⟩
   (fun e S=>e=.ret (.tup [.cptr (vi pts::.sl (De es) .no::.sl (B4 (Ay n 31)) .no::.sl (B4 (Ay n 32)) .no::.sl (E9 (Br n)) .no::.sl (Q9 Eg.f es pts) .no::.sl (Q9 Eg.t es pts) .no::Ae (Ap n)),vb true])∧S=⟨[],[]⟩):=by
   refine AK.at_ ?_
   refine AK.mintAll (bx:=[[Ae n],[Ae (Ap n)],[[vi 0,str []]],[prow (.bsl 4 pts) (.bsl 5 pts)],Pw 0 Eg.f [] pts,List.replicate pts [.sl [] .tight]]) (tk:=List.replicate pts 0) 4 pts 0 rfl rfl rfl rfl ?_
   refine AK.mintAll (bx:=[[Ae n],[Ae (Ap n)],[[vi 0,str []]],[prow (.bsl 4 pts) (.bsl 5 pts)],Pw 0 Eg.f [] pts,Pw pts Eg.t [] pts]) (tk:=List.replicate pts 0++List.replicate pts 0) 5 pts pts rfl (by simp) rfl rfl ?_
   refine AK.sto ⟨[[Ae n],[Ae (Ap n)],[[vi 0,str []]],[prow (.bsl 4 pts) (.bsl 5 pts)],Pw 0 Eg.f (es.take 0) pts,Pw pts Eg.t (es.take 0) pts],Ma Eg.f (es.take 0) pts++Ma Eg.t (es.take 0) pts⟩ ?_ (by
    have:∀ f:Eg→Int,Ma f (es.take 0) pts=List.replicate pts 0:=fun f=>List.eq_replicate_iff.2 ⟨F9 f _ pts,fun b hb=>by obtain ⟨p,_,rfl⟩:=List.mem_map.1 hb;rfl⟩
    rw [this,this];rfl)
   refine AK.ev 100 rfl ?_
   refine AK.while_ (ι:=Nat) 6 (pts+pts) (fun i=>i≤es.length) (fun i=>[(52,vi i),(51,vi es.length),(50,.sl (De es) .no),(6,.ptr 3 0 0)])
    (fun i=>⟨[[Ae n],[Ae (Ap n)],[[vi 0,str []]],[prow (.bsl 4 pts) (.bsl 5 pts)],Pw 0 Eg.f (es.take i) pts,Pw pts Eg.t (es.take i) pts],Ma Eg.f (es.take i) pts++Ma Eg.t (es.take i) pts⟩) (fun i=>es.length-i) ?_ 0
    (Nat.zero_le _) ⟨rfl,by rw [← Hr es];rfl,rfl,rfl,trivial⟩ ?_ rfl (by simp) rfl ?_ (fun _=>inferInstance) (fun i=>⟨?_⟩)
   ·intro i hi IH
    refine AK.ei (fun h=>?_) (fun h=>?_)
    ·have hlt:i<es.length:=by have:=of_decide_eq_true h;omega
     obtain ⟨⟨ef,et,ek,ey,en⟩,he⟩:=Ab es hlt
     obtain ⟨⟨q1,q2⟩,q3,q4⟩:=hp3 _ (List.mem_of_getElem? he)
     simp only at q1 q2 q3 q4
     obtain ⟨j,rfl⟩:=Int.eq_ofNat_of_zero_le q1
     obtain ⟨j',rfl⟩:=Int.eq_ofNat_of_zero_le q3
     have hj:j<pts:=by omega
     have hj':j'<pts:=by omega
     refine AK.ix i (by omega) (R7 he) ?_
     refine AK.db 327680 ?_
     refine Drv.lo (Ha (j:=j) rfl rfl rfl rfl rfl rfl rfl rfl (by simpa [Nat.blt_eq] using hj) rfl (Ee 0 Eg.f _ hj) rfl) ?_
     refine Drv.lo (Le rfl (Ee 0 Eg.f _ hj) rfl rfl rfl rfl rfl rfl rfl) ?_
     refine Drv.go ?_
     have hlf:=Vz Eg.f j (es.take i) 0
     have hlt':=Vz Eg.t j' (es.take i) 0
     have htk:(es.take i).length=i:=by simp;omega
     have hlF:(Ma Eg.f (es.take i) pts).length=pts:=F9 _ _ _
     have hkF:(Ma Eg.f (es.take i) pts++Ma Eg.t (es.take i) pts)[0+j]?=some (Kz Eg.f (es.take i) j).length:=by
      rw [Nat.zero_add,List.getElem?_append_left (by omega)];exact Ru _ _ hj
     refine Dv (S':=⟨[[Ae n],[Ae (Ap n)],[[vi 0,str []]],[prow (.bsl 4 pts) (.bsl 5 pts)],Pw 0 Eg.f (es.take i) pts,Pw pts Eg.t (es.take i) pts,[Ka ⟨j,j',ek,ey,en⟩]],Ma Eg.f (es.take (i+1)) pts++Ma Eg.t (es.take i) pts⟩)
      (Ndo.append (res:=Pv (Kz Eg.f (es.take i) j++[i])) rfl rfl rfl rfl rfl rfl rfl rfl rfl rfl rfl rfl rfl hkF (Jq _) (Ade _) rfl rfl rfl ?_ (Vs _ i) ?_) ?_ ?_
     ·rw [Jq];unfold Kz;show _+1≤_;omega
     ·show (Ma Eg.f (es.take i) pts++Ma Eg.t (es.take i) pts).set (0+j) ((Pv (Kz Eg.f (es.take i) j)).length+1)=_
      rw [Nat.zero_add,Jq,List.set_append_left _ _ (by omega),Af5 Eg.f he rfl]
     ·refine Aq (Le rfl (Ee 0 Eg.f _ hj) rfl rfl rfl rfl rfl rfl rfl) (Aq (Ha (j:=j) rfl rfl rfl rfl rfl rfl rfl rfl (by simpa [Nat.blt_eq] using hj) rfl (Ee 0 Eg.f _ hj) rfl) ?_)
      exact Aq (Ndo.ev rfl rfl rfl) (Aq (Ndo.ev rfl rfl rfl) (Aq (Ndo.ev rfl rfl rfl) (Aq (Ndo.ev rfl rfl rfl) Fp)))
     refine La (Aq (Ha (j:=j) rfl rfl rfl rfl rfl rfl rfl rfl (by simpa [Nat.blt_eq] using hj) rfl (Ee 0 Eg.f _ hj) rfl) (Aq (Ha (j:=j) rfl rfl rfl rfl rfl rfl rfl rfl (by simpa [Nat.blt_eq] using hj) rfl (Ee 0 Eg.f _ hj) rfl) Fp)) rfl ?_
     refine Drv.w (Ndo.store rfl rfl rfl rfl rfl rfl (Ql rfl (Ee 0 Eg.f _ hj) rfl rfl rfl)) ?_
     refine Drv.z ?_
     refine AK.sto ⟨[[Ae n],[Ae (Ap n)],[[vi 0,str []]],[prow (.bsl 4 pts) (.bsl 5 pts)],Pw 0 Eg.f (es.take (i+1)) pts,Pw pts Eg.t (es.take i) pts,[Ka ⟨j,j',ek,ey,en⟩]],Ma Eg.f (es.take (i+1)) pts++Ma Eg.t (es.take i) pts⟩ ?_ (by
      rw [← Af6 0 Eg.f he rfl];rfl)
     refine AK.db 327680 ?_
     refine Drv.lo (Ha (j:=j') rfl rfl rfl rfl rfl rfl rfl rfl (by simpa [Nat.blt_eq] using hj') rfl (Ee pts Eg.t _ hj') rfl) ?_
     refine Drv.lo (Le rfl (Ee pts Eg.t _ hj') rfl rfl rfl rfl rfl rfl rfl) ?_
     refine Drv.go ?_
     have hkT:(Ma Eg.f (es.take (i+1)) pts++Ma Eg.t (es.take i) pts)[pts+j']?=some (Kz Eg.t (es.take i) j').length:=by
      rw [List.getElem?_append_right (by rw [F9];omega),F9,Nat.add_sub_cancel_left];exact Ru _ _ hj'
     refine Dv (S':=⟨[[Ae n],[Ae (Ap n)],[[vi 0,str []]],[prow (.bsl 4 pts) (.bsl 5 pts)],Pw 0 Eg.f (es.take (i+1)) pts,Pw pts Eg.t (es.take i) pts,[Ka ⟨j,j',ek,ey,en⟩]],Ma Eg.f (es.take (i+1)) pts++Ma Eg.t (es.take (i+1)) pts⟩)
      (Ndo.append (res:=Pv (Kz Eg.t (es.take i) j'++[i])) rfl rfl rfl rfl rfl rfl rfl rfl rfl rfl rfl rfl rfl hkT (Jq _) (Ade _) rfl rfl rfl ?_ (Vs _ i) ?_) ?_ ?_
     ·rw [Jq];unfold Kz;show _+1≤_;omega
     ·show (Ma Eg.f (es.take (i+1)) pts++Ma Eg.t (es.take i) pts).set (pts+j') ((Pv (Kz Eg.t (es.take i) j')).length+1)=_
      rw [Jq,List.set_append_right _ _ (by rw [F9];omega),F9,Nat.add_sub_cancel_left,Af5 Eg.t he rfl]
     ·refine Aq (Le rfl (Ee pts Eg.t _ hj') rfl rfl rfl rfl rfl rfl rfl) (Aq (Ha (j:=j') rfl rfl rfl rfl rfl rfl rfl rfl (by simpa [Nat.blt_eq] using hj') rfl (Ee pts Eg.t _ hj') rfl) ?_)
      exact Aq (Ndo.ev rfl rfl rfl) (Aq (Ndo.ev rfl rfl rfl) (Aq (Ndo.ev rfl rfl rfl) (Aq (Ndo.ev rfl rfl rfl) Fp)))
     refine La (Aq (Ha (j:=j') rfl rfl rfl rfl rfl rfl rfl rfl (by simpa [Nat.blt_eq] using hj') rfl (Ee pts Eg.t _ hj') rfl) (Aq (Ha (j:=j') rfl rfl rfl rfl rfl rfl rfl rfl (by simpa [Nat.blt_eq] using hj') rfl (Ee pts Eg.t _ hj') rfl) Fp)) rfl ?_
     refine Drv.w (Ndo.store rfl rfl rfl rfl rfl rfl (Ql rfl (Ee pts Eg.t _ hj') rfl rfl rfl)) ?_
     refine Drv.z ?_
     refine AK.sto ⟨[[Ae n],[Ae (Ap n)],[[vi 0,str []]],[prow (.bsl 4 pts) (.bsl 5 pts)],Pw 0 Eg.f (es.take (i+1)) pts,Pw pts Eg.t (es.take (i+1)) pts,[Ka ⟨j,j',ek,ey,en⟩]],Ma Eg.f (es.take (i+1)) pts++Ma Eg.t (es.take (i+1)) pts⟩ ?_ (by
      rw [← Af6 pts Eg.t he rfl];rfl)
     refine IH (i+1) hlt (by omega) _ _ ⟨vsx (by omega),rfl,rfl,rfl,trivial⟩ ?_ rfl ?_
     ·exact congrArg (St.mk _) (List.take_of_length_le (by simp [F9]))
     ·show Nat.ble (pts+pts) (Ma Eg.f (es.take (i+1)) pts++Ma Eg.t (es.take (i+1)) pts).length=true
      simp [F9]
    ·have:i=es.length:=by have:=of_decide_eq_false h;omega
     subst this
     rw [List.take_length]
     have f1:=Ajw (S:=⟨[[Ae n],[Ae (Ap n)],[[vi 0,str []]],[prow (.bsl 4 pts) (.bsl 5 pts)],Pw 0 Eg.f es pts,Pw pts Eg.t es pts],Ma Eg.f es pts++Ma Eg.t es pts⟩) (b:=4) (m:=0) (pts:=pts) Eg.f es rfl (by unfold Kk;omega)
     have f2:=Ajw (S:=⟨[[Ae n],[Ae (Ap n)],[[vi 0,str []]],[prow (.bsl 4 pts) (.bsl 5 pts)],Pw 0 Eg.f es pts,Pw pts Eg.t es pts],Ma Eg.f es pts++Ma Eg.t es pts⟩) (b:=5) (m:=pts) (pts:=pts) Eg.t es rfl (by unfold Kk;omega)
     haveI i1:FzC ⟨[[Ae n],[Ae (Ap n)],[[vi 0,str []]],[prow (.bsl 4 pts) (.bsl 5 pts)],Pw 0 Eg.f es pts,Pw pts Eg.t es pts],Ma Eg.f es pts++Ma Eg.t es pts⟩ 0 0 (.bsl 4 pts) (.sl (Q9 Eg.f es pts) .no):=⟨f1⟩
     haveI i2:FzC ⟨[[Ae n],[Ae (Ap n)],[[vi 0,str []]],[prow (.bsl 4 pts) (.bsl 5 pts)],Pw 0 Eg.f es pts,Pw pts Eg.t es pts],Ma Eg.f es pts++Ma Eg.t es pts⟩ 0 0 (.bsl 5 pts) (.sl (Q9 Eg.t es pts) .no):=⟨f2⟩
     exact AK.rz Tryz.func52 rfl
   ·exact congrArg (St.mk _) (List.take_of_length_le (by simp [F9]))
   ·show Nat.ble (pts+pts) (Ma Eg.f (es.take 0) pts++Ma Eg.t (es.take 0) pts).length=true
    simp [F9]
   ·intro rows hrows
    simp only [List.mem_cons,List.not_mem_nil,or_false] at hrows
    rcases hrows with rfl | rfl | rfl | rfl | rfl | rfl
    ·exact (inferInstance:OKR 6 (pts+pts) [Ae n]).ok
    ·exact (inferInstance:OKR 6 (pts+pts) [Ae (Ap n)]).ok
    ·exact (inferInstance:OKR 6 (pts+pts) [[vi 0,str []]]).ok
    ·exact (inferInstance:OKR 6 (pts+pts) [vi pts::.sl (De es) .no::.sl (B4 (Ay n 31)) .no::.sl (B4 (Ay n 32)) .no::.sl (E9 (Br n)) .no::.bsl 4 pts::.bsl 5 pts::Ae (Ap n)]).ok
    ·exact Alh Eg.f _ (by omega)
    ·exact Alh Eg.t _ (by omega)
  refine AK.sto ⟨[[Ae n],[Ae (Ap n)],[[vi 0,str []]],[prow (.sl [] .tight) (.sl [] .tight)]],[]⟩ ?_
  refine AK.as_ 6 (.ptr 3 0 0) ?_
  refine AK.ways fun l hord=>?_
  rcases Aia (show 7≠13 by decide) l (fun _=>false) with h1 | h1
  ·rcases Aia (show 13≠16 by decide) l (fun _=>false) with h2 | h2
   ·refine Way.mk [0,1,2,3,4,5,6,8,9,10,11,12,7,13,14,15,16,17,18,19] [(7,13),(13,16)] 598144 ?_ rfl ?_
    ·intro ab hab
     simp only [List.mem_cons,List.not_mem_nil,or_false] at hab
     rcases hab with rfl | rfl
     ·exact h1
     ·exact h2
    refine DrvP.go 12 ?_
    refine DrvP.w (Ndo.mkS (n:=pts) (b:=4) (by omega) rfl rfl rfl rfl rfl rfl rfl rfl rfl rfl) ?_ ?_
    ·exact Aq (Ndo.ev rfl rfl rfl) (Aq (Ndo.ev rfl rfl rfl) Fp)
    refine DrvP.w0 (Ndo.mkS (n:=pts) (b:=5) (by omega) rfl rfl rfl rfl rfl rfl rfl rfl rfl rfl) ?_
    refine DrvP.e ?_
    refine DrvP.e ?_
    refine DrvP.w0 (Ndo.store rfl rfl rfl rfl rfl rfl rfl) ?_
    refine DrvP.e ?_
    refine DrvP.e ?_
    refine DrvP.w0 (Ndo.store rfl rfl rfl rfl rfl rfl rfl) ?_
    refine Yx 6 ?_
    refine AK.sto ⟨bxs (.bsl 4 pts) (.bsl 5 pts),[]⟩ ?_
    refine AK.sub (G:=[(6,.ptr 3 0 0)]) ⟨rfl,trivial⟩ ?_
    exact L6
   ·refine Way.mk [0,1,2,3,4,5,6,8,9,10,11,12,7,14,15,16,13,17,18,19] [(7,13),(16,13)] 598144 ?_ rfl ?_
    ·intro ab hab
     simp only [List.mem_cons,List.not_mem_nil,or_false] at hab
     rcases hab with rfl | rfl
     ·exact h1
     ·exact h2
    refine DrvP.go 12 ?_
    refine DrvP.w (Ndo.mkS (n:=pts) (b:=4) (by omega) rfl rfl rfl rfl rfl rfl rfl rfl rfl rfl) ?_ ?_
    ·exact Aq (Ndo.ev rfl rfl rfl) (Aq (Ndo.ev rfl rfl rfl) Fp)
    refine DrvP.e ?_
    refine DrvP.e ?_
    refine DrvP.w0 (Ndo.store rfl rfl rfl rfl rfl rfl rfl) ?_
    refine DrvP.w0 (Ndo.mkS (n:=pts) (b:=5) (by omega) rfl rfl rfl rfl rfl rfl rfl rfl rfl rfl) ?_
    refine DrvP.e ?_
    refine DrvP.e ?_
    refine DrvP.w0 (Ndo.store rfl rfl rfl rfl rfl rfl rfl) ?_
    refine Yx 6 ?_
    refine AK.sto ⟨bxs (.bsl 4 pts) (.bsl 5 pts),[]⟩ ?_
    refine AK.sub (G:=[(6,.ptr 3 0 0)]) ⟨rfl,trivial⟩ ?_
    exact L6
  ·have h2:AB 13 16 l (fun _=>false):=Ao2 (b:=7) (by decide) (by kernel_rfl) l _ hord h1 (fun h=>by cases h)
   refine Way.mk [0,1,2,3,4,5,6,8,9,10,11,12,13,7,14,15,16,17,18,19] [(13,7),(13,16)] 598144 ?_ rfl ?_
   ·intro ab hab
    simp only [List.mem_cons,List.not_mem_nil,or_false] at hab
    rcases hab with rfl | rfl
    ·exact h1
    ·exact h2
   refine DrvP.go 12 ?_
   refine DrvP.w (Ndo.mkS (n:=pts) (b:=4) (by omega) rfl rfl rfl rfl rfl rfl rfl rfl rfl rfl) ?_ ?_
   ·exact Aq (Ndo.ev rfl rfl rfl) (Aq (Ndo.ev rfl rfl rfl) Fp)
   refine DrvP.w0 (Ndo.mkS (n:=pts) (b:=5) (by omega) rfl rfl rfl rfl rfl rfl rfl rfl rfl rfl) ?_
   refine DrvP.e ?_
   refine DrvP.e ?_
   refine DrvP.w0 (Ndo.store rfl rfl rfl rfl rfl rfl rfl) ?_
   refine DrvP.e ?_
   refine DrvP.e ?_
   refine DrvP.w0 (Ndo.store rfl rfl rfl rfl rfl rfl rfl) ?_
   refine Yx 6 ?_
   refine AK.sto ⟨bxs (.bsl 5 pts) (.bsl 4 pts),[]⟩ ?_
   refine AK.perm (G:=[(6,.ptr 3 0 0)]) (bx3:=[[Ae n],[Ae (Ap n)],[[vi 0,str []]],[vi pts::.sl (De es) .no::.sl (B4 (Ay n 31)) .no::.sl (B4 (Ay n 32)) .no::.sl (E9 (Br n)) .no::.bsl 5 pts::.bsl 4 pts::Ae (Ap n)],List.replicate pts [.sl [] .tight],List.replicate pts [.sl [] .tight]]) (bx2:=[[Ae n],[Ae (Ap n)],[[vi 0,str []]],[vi pts::.sl (De es) .no::.sl (B4 (Ay n 31)) .no::.sl (B4 (Ay n 32)) .no::.sl (E9 (Br n)) .no::.bsl 4 pts::.bsl 5 pts::Ae (Ap n)],List.replicate pts [.sl [] .tight],List.replicate pts [.sl [] .tight]]) [0,1,2,3,5,4] ?_ (.cons rfl inferInstance .nil) rfl rfl rfl rfl rfl
   exact L6
 ·rw [if_neg hr]
  have h0:((C7 n).1==0)=false:=by unfold Ib at hr;simpa using hr
  refine AK.yes ?_ (ht:=by rw [h0];rfl)
  exact AK.rz Tryz.func52 rfl
instance {n m:Nat}{f:Eg→Int}{l:List Eg}{pts:Nat}:OKR n m (Q9 f l pts):=⟨fun r hr x hx=>by
 obtain ⟨p,_,rfl⟩:=List.mem_map.1 hr
 simp at hx;subst hx
 exact (inferInstance:OK n m (.sl (Pv (Kz f l p)) .no)).ok⟩
instance {n m:Nat}{x:Nd}:OKL n m (Abv x):=⟨(inferInstance:OKL n m (vi (Fx (Cz x)).pts::.sl (De (Zi (Cz x))) .no::.sl (B4 (Ay x 31)) .no::.sl (B4 (Ay x 32)) .no::.sl (E9 (Br x)) .no ::
 .sl (Q9 Eg.f (Zi (Cz x)) (Fx (Cz x)).pts) .no::.sl (Q9 Eg.t (Zi (Cz x)) (Fx (Cz x)).pts) .no::Ae (Ap x))).ok⟩
theorem Ll (n:Nd)(k:Int):(Ay n k).length≤n.kids.length:=by rw [Y9,List.length_map];exact Vj n k
def Af3 (n:Nd):List AV:=[.sl (B4 (Ay n 31)) .no,.sl (B4 (Ay n 32)) .no,.sl (E9 (Br n)) .no,vi (Fx (Cz n)).pts,.sl (De (Zi (Cz n))) .no]
instance {n m:Nat}{x:Nd}:OKL n m (Af3 x):=⟨(inferInstance:OKL n m [.sl (B4 (Ay x 31)) .no,.sl (B4 (Ay x 32)) .no,.sl (E9 (Br x)) .no,vi (Fx (Cz x)).pts,.sl (De (Zi (Cz x))) .no]).ok⟩
theorem Aq1 (n:Nd)(hr:Ib n=true):Pure X 48 [nd n] (.agg (Af3 n)):=by
 obtain ⟨fp,_,hw,_,_⟩:=Hy hr
 refine Pure.run Tryz.func48 ?_
 refine AK.db 512 ?_
 refine Bl (M7 n 31 (by omega)) ?_
 refine Bl (M7 n 32 (by omega)) ?_
 refine Bl (Anu n (by omega)) ?_
 refine Bl (Amo n fp (by omega)) ?_
 refine Drv.w (Ndo.store rfl rfl rfl rfl rfl rfl rfl) ?_
 refine Drv.z ?_
 exact AK.rz Tryz.func48 rfl
end Go.V
namespace Go.V
open Go
end Go.V
namespace Go.V
open Go Go.Proofs
inductive LnI:Nd→Prop where
 | mk (k:Int) (s:List UInt8) (m:Int) (ks:List Nd) (hs:s.length≤9223372036854775807) (hl:ks.length≤9223372036854775807) (hk:∀ x,x∈ks→LnI x):LnI (.mk k s m ks)
theorem LnI.get {n:Nd}(h:LnI n):n.name.length≤9223372036854775807∧n.kids.length≤9223372036854775807∧∀ x,x∈n.kids→LnI x:=by
 cases h with | mk k s m ks h0 h1 hk=>exact ⟨h0,h1,hk⟩
mutual
def swN:Nd→Nat
 | .mk _ s _ ks=>s.length+(ks.length+swL ks)
def swL:List Nd→Nat
 | []=>0
 | x::l=>swN x+swL l
end
theorem Arl (n:Nd):swN n=n.name.length+(n.kids.length+swL n.kids):=by cases n;rw [swN];rfl
theorem Ata:(∀ n:Nd,wN n≤1+swN n)∧∀ l:List Nd,wL l≤l.length+swL l:=by
 refine Oz (fun k s m ks ih=>?_) (Nat.le_refl _) (fun x l hx hl=>?_)
 ·simp only [wN,swN];omega
 ·simp only [wL,swL,List.length_cons];omega
def Uc (w:Nat)(left:Int):Int:=if (w:Int)≤left then left-w else -1
theorem Aaj {a b:Nat}{left:Int}(h:(a:Int)≤left):Uc (a+b) left=Uc b (left-a):=by
 unfold Uc
 by_cases h2:((a+b:Nat):Int)≤left
 ·rw [if_pos h2,if_pos (by omega)];omega
 ·rw [if_neg h2,if_neg (by omega)]
theorem Ad9 {a b:Nat}{left:Int}(h:left<a):Uc (a+b) left=-1:=by
 unfold Uc
 rw [if_neg (by omega)]
theorem Af0 {w:Nat}{left:Int}(h0:0≤left)(h:Uc w left<0):Uc w left=-1∧left<w:=by
 unfold Uc at h ⊢
 split at h
 ·rename_i h2;rw [if_pos h2];omega
 ·rename_i h2;rw [if_neg h2];omega
theorem Af1 {w:Nat}{left:Int}(h:0≤Uc w left):Uc w left=left-w∧(w:Int)≤left:=by
 unfold Uc at h ⊢
 split at h
 ·rename_i h2;rw [if_pos h2];omega
 ·omega
theorem As7 (l:List Nd)(left:Int)(h0:0≤left)(h1:left≤1048576)(hl:l.length≤9223372036854775807)(ih:∀ x,x∈l→∀ lf:Int,0≤lf→lf≤1048576→Pure X 10 [nd x,vi lf] (vi (Uc (swN x) lf))) :
 Pure X 46 [.sl (Ai l) .no,vi left] (vi (Uc (l.length+swL l) left)):=by
 have hw:IntKind.i64.wrap (left-(Ai l).length)=left-l.length:=by rw [Ad];exact Ac (by omega) (by omega)
 refine Pure.run Tryz.func46 ?_
 refine AK.if_ (fun g=>?_) (fun g=>?_)
 ·have g':=of_decide_eq_true g
  rw [hw] at g'
  refine AK.rz Tryz.func46 ?_
  rw [Ad9 (by omega)]
 have g':=of_decide_eq_false g
 rw [hw] at g'
 have e0:Uc (l.length+swL l) left=Uc (swL l) (IntKind.i64.wrap (left-(Ai l).length)):=by rw [hw,Aaj (by omega)]
 rw [e0]
 have hb:0≤IntKind.i64.wrap (left-(Ai l).length)∧IntKind.i64.wrap (left-(Ai l).length)≤1048576:=by rw [hw];omega
 generalize IntKind.i64.wrap (left-(Ai l).length)=lf0 at hb
 refine AK.while_ (ι:=Nat × Int) 0 0 (fun i=>i.1≤l.length∧0≤i.2∧i.2≤1048576∧Uc (swL l) lf0=Uc (swL (l.drop i.1)) i.2) (fun i=>[(5,vi i.1),(1,vi i.2),(0,.sl (Ai l) .no)]) (fun _=>⟨[],[]⟩) (fun i=>l.length-i.1) ?_ (0,lf0) ⟨Nat.zero_le _,hb.1,hb.2,rfl⟩
  ⟨rfl,rfl,rfl,trivial⟩
 rintro ⟨i,lf⟩ ⟨hi,hp0,hp1,hT⟩ IH
 simp only at hi hp0 hp1 hT IH ⊢
 refine AK.ei (fun h=>?_) (fun h=>?_)
 ·have hlt:i<l.length:=by have:=of_decide_eq_true h;rw [Ad] at this;omega
  obtain ⟨x,hx⟩:=Ab l hlt
  rw [Ba hx] at hT
  simp only [swL] at hT
  refine AK.ix i (by omega) (Al hx) ?_
  refine AK.pc (ih x (List.mem_of_getElem? hx) lf hp0 hp1) ?_
  refine AK.if_ (fun g2=>?_) (fun g2=>?_)
  ·have g2':=Af0 hp0 (of_decide_eq_true g2)
   refine AK.rz Tryz.func46 ?_
   rw [hT,Ad9 g2'.2]
  ·have g2':=Af1 (show 0≤Uc (swN x) lf by have:=of_decide_eq_false g2;omega)
   refine IH (i+1,Uc (swN x) lf) ⟨hlt,?_,?_,?_⟩ (by simp only;omega) _ _ ⟨Bn ((Ac (by omega) (by omega)).trans (by simp)),rfl,rfl,trivial⟩ rfl rfl rfl
   ·show 0≤Uc (swN x) lf;omega
   ·show Uc (swN x) lf≤_;omega
   ·rw [hT,Aaj g2'.2,g2'.1]
 ·have:i=l.length:=by have:=of_decide_eq_false h;rw [Ad] at this;omega
  subst this
  rw [List.drop_length] at hT
  refine AK.rz Tryz.func46 ?_
  rw [hT]
  unfold Uc swL
  rw [if_pos (by simpa using hp0)];simp
theorem Atw (n:Nd)(hln:LnI n):∀ left:Int,0≤left→left≤1048576→Pure X 10 [nd n,vi left] (vi (Uc (swN n) left)):=by
 induction n using Nd.ind with
 | h n ih =>
 intro left h0 h1
 obtain ⟨ha,hb,hk⟩:=hln.get
 have hw:IntKind.i64.wrap (left-(⟨⟨n.name⟩⟩:ByteArray).size)=left-n.name.length:=by rw [Dm];exact Ac (by omega) (by omega)
 rw [Arl]
 refine Pure.run Tryz.func10 ?_
 refine AK.if_ (fun g=>?_) (fun g=>?_)
 ·have g':=of_decide_eq_true g
  rw [hw] at g'
  refine AK.rz Tryz.func10 ?_
  rw [Ad9 (by omega)]
 have g':=of_decide_eq_false g
 rw [hw] at g'
 have e0:Uc (n.name.length+(n.kids.length+swL n.kids)) left=Uc (n.kids.length+swL n.kids) (IntKind.i64.wrap (left-(⟨⟨n.name⟩⟩:ByteArray).size)):=by rw [hw,Aaj (by omega)]
 rw [e0]
 have hb2:0≤IntKind.i64.wrap (left-(⟨⟨n.name⟩⟩:ByteArray).size)∧IntKind.i64.wrap (left-(⟨⟨n.name⟩⟩:ByteArray).size)≤1048576:=by rw [hw];omega
 refine AK.pc (As7 n.kids _ hb2.1 hb2.2 hb (fun x hx lf=>ih x hx (hk x hx) lf)) ?_
 generalize IntKind.i64.wrap (left-(⟨⟨n.name⟩⟩:ByteArray).size)=lf at hb2 ⊢
 refine AK.if_ (fun g2=>?_) (fun g2=>?_)
 ·have g2':=Af0 hb2.1 (of_decide_eq_true g2)
  refine AK.rz Tryz.func10 ?_
  rw [g2'.1]
 ·exact AK.rz Tryz.func10 rfl
theorem Aod {l:List Nd}{i:Nat}{x:Nd}(h:l[i]?=some x):(rB (l.take i) (l.length-i)).set i (Ae x)=rB (l.take (i+1)) (l.length-(i+1)):=by
 have hi:=Aa h
 obtain ⟨c,hc⟩:∃ c,l.length-i=c+1:=⟨l.length-i-1,by omega⟩
 have hc2:l.length-(i+1)=c:=by omega
 rw [hc,hc2,rB,rB,List.take_add_one,h,Option.toList_some,Sx,List.replicate_succ]
 have:(Ai (l.take i)).length=i:=by rw [Ad,List.length_take];omega
 rw [List.set_append_right _ _ (by omega),this,Nat.sub_self,List.set_cons_zero,List.append_assoc]
 rw [Aj [x]];rfl
theorem As8 (l:List Nd)(hl:l.length≤1000000000)(ih:∀ x,x∈l→Pure X 12 [nd x] (nd x)):Pure X 51 [.sl (Ai l) .no] (.sl (Ai l) .no):=by
 refine Pure.run Tryz.func51 ?_
 refine AK.op (Ndo.mkS (n:=(Ai l).length) (b:=0) (by rw [Ad];exact hl) rfl rfl rfl rfl rfl rfl rfl rfl rfl rfl) ?_
 refine AK.while_ (ι:=Nat) 1 0 (fun i=>i≤l.length) (fun i=>[(4,vi i),(3,.bsl 0 l.length),(0,.sl (Ai l) .no)]) (fun i=>⟨[rB (l.take i) (l.length-i)],[]⟩) (fun i=>l.length-i) ?_ 0 (Nat.zero_le _)
  ⟨rfl,by rw [← Ad l];rfl,rfl,trivial⟩ (by rw [← Ad l];rfl)
 intro i hi IH
 refine AK.ei (fun h=>?_) (fun h=>?_)
 ·have hlt:i<l.length:=by have:=of_decide_eq_true h;rw [Ad] at this;omega
  obtain ⟨x,hx⟩:=Ab l hlt
  have hr:(rB (l.take i) (l.length-i))[i]?=some zN:=by
   have:(Ai (l.take i)).length=i:=by rw [Ad,List.length_take];omega
   rw [rB,List.getElem?_append_right (by omega),this,Nat.sub_self,List.getElem?_replicate,if_pos (by omega)]
  refine AK.ix i (by omega) (Al hx) ?_
  refine AK.pc (ih x (List.mem_of_getElem? hx)) ?_
  refine AK.atB i hlt hr ?_
  refine AK.stB hr ?_
  refine IH (i+1) hlt (by omega) _ _ ⟨vsx (by omega),rfl,rfl,trivial⟩ ?_ rfl rfl
  rw [← Aod hx];rfl
 ·have:i=l.length:=by have:=of_decide_eq_false h;rw [Ad] at this;omega
  subst this
  refine AK.rbsl Tryz.func51 (b:=0) (l:=l) (c:=l.length-l.length) ?_ hl
  rw [List.take_length];rfl
theorem Arn (n:Nd)(hn:Af n≤1000000000):Pure X 12 [nd n] (nd n):=by
 induction n using Nd.ind with
 | h n ih =>
 have hcn:=Be n
 have hll:=Ax n.kids
 refine Pure.run Tryz.func12 ?_
 refine AK.pc (As8 n.kids (by omega) (fun x hx=>ih x hx (by have:=Cw hx;omega))) ?_
 exact AK.rz Tryz.func12 rfl
theorem As6 (l:List Nd)(hl:l.length≤1000000000)(ih:∀ x,x∈l→Pure X 15 [nd x,nd x] (vb true)):Pure X 58 [.sl (Ai l) .no,.sl (Ai l) .no] (vb true):=by
 refine Pure.run Tryz.func58 ?_
 refine AK.no ?_ (ht:=by simp)
 refine AK.while_ (ι:=Nat) 0 0 (fun i=>i≤l.length) (fun i=>[(5,vi i),(0,.sl (Ai l) .no),(1,.sl (Ai l) .no)]) (fun i=>⟨[],[]⟩) (fun i=>l.length-i) ?_ 0 (Nat.zero_le _)
  ⟨rfl,rfl,rfl,trivial⟩
 intro i hi IH
 refine AK.ei (fun h=>?_) (fun h=>?_)
 ·have hlt:i<l.length:=by have:=of_decide_eq_true h;rw [Ad] at this;omega
  obtain ⟨x,hx⟩:=Ab l hlt
  refine AK.db 0 ?_
  refine Drv.ig i (by omega) (Al hx) ?_
  refine Drv.ig i (by omega) (Al hx) ?_
  refine Bl (ih x (List.mem_of_getElem? hx)) ?_
  refine Drv.z ?_
  refine AK.no ?_
  exact IH (i+1) hlt (by omega) _ _ ⟨vsx (by omega),rfl,rfl,trivial⟩ rfl rfl rfl
 ·exact AK.rz Tryz.func58 rfl
theorem Atv (n:Nd)(hn:Af n≤1000000000):Pure X 15 [nd n,nd n] (vb true):=by
 induction n using Nd.ind with
 | h n ih =>
 have hcn:=Be n
 have hll:=Ax n.kids
 refine Pure.run Tryz.func15 ?_
 refine AK.no ?_ (ht:=by simp)
 refine AK.no ?_ (ht:=by simp)
 refine AK.no ?_ (ht:=by simp)
 refine AK.pc (As6 n.kids (by omega) (fun x hx=>ih x hx (by have:=Cw hx;omega))) ?_
 refine AK.no ?_
 exact AK.rz Tryz.func15 rfl
def E0:Env:=⟨[],[],fun _ _=>False,[]⟩
theorem Ar6 (b o:Nat):¬ E0.mt b o:=by
 rintro (h | ⟨i,sz,h⟩ | ⟨t,l,c,sz,h,_⟩)
 ·exact h
 ·simp [E0] at h
 ·simp [E0] at h
theorem Ass {α:Type}{l:List α}(h:l.length=4):∃ a b c d,l=[a,b,c,d]:=by
 rcases l with _ | ⟨a,_ | ⟨b,_ | ⟨c,_ | ⟨d,_ | ⟨e,l⟩⟩⟩⟩⟩<;>simp at h
 exact ⟨a,b,c,d,rfl⟩
def RelL (w:World)(cs:List Value)(l:List AV):Prop:=cs.length=l.length∧∀ (j:Nat)(v:Value)(x:AV),cs[j]?=some v→l[j]?=some x→Rel E0 w v x
theorem RelL.one {w:World}{v:Value}{x:AV}(h:Rel E0 w v x):RelL w [v] [x]:=⟨rfl,fun j v' x' h1 h2=>by
 cases j with
 | zero=>simp at h1 h2;subst h1;subst h2;exact h
 | succ j=>simp at h1⟩
theorem Agi {w:World}{v:Value}{x:AV}(h:RelL w [v] [x]):Rel E0 w v x:=h.2 0 v x rfl rfl
theorem RelL.nil {w:World}:RelL w [] []:=⟨rfl,fun j v x h=>by simp at h⟩
theorem RelL.cons {w:World}{v:Value}{x:AV}{cs:List Value}{l:List AV}(h:Rel E0 w v x)(t:RelL w cs l):RelL w (v::cs) (x::l) :=
 ⟨by simp [t.1],fun j v' x' h1 h2=>by
   cases j with
   | zero=>simp at h1 h2;subst h1;subst h2;exact h
   | succ j=>exact t.2 j v' x' (by simpa using h1) (by simpa using h2)⟩
theorem RelL.agg {w:World}{cs:Array Value}{l:List AV}(h:RelL w cs.toList l):Rel E0 w (.agg cs) (.agg l):=.agg cs l (by simpa using h.1) (fun j v x h1 h2=>h.2 j v x (by simpa using h1) h2)
theorem Afb {α:Type}{Q:Nat→α→Prop}:∀ n:Nat,(∀ i,i<n→∃ x,Q i x)→∃ l:List α,l.length=n∧∀ i x,l[i]?=some x→Q i x
 | 0,_=>⟨[],rfl,fun i x h=>by simp at h⟩
 | n+1,h=>by
   obtain ⟨l,hl,hq⟩:=Afb n (fun i hi=>h i (by omega))
   obtain ⟨x,hx⟩:=h n (by omega)
   refine ⟨l++[x],by simp [hl],fun i y hy=>?_⟩
   rcases Nat.lt_or_ge i n with hi | hi
   ·rw [List.getElem?_append_left (by omega)] at hy;exact hq i y hy
   ·rw [List.getElem?_append_right (by omega)] at hy
    have:i=n:=by
     have:=Aa hy
     simp at this;omega
    subst this
    simp [hl] at hy;subst hy;exact hx
section
variable {H:Type}{enc:TypeId × Value→H}{P:Program}{w:World}{sp:Nat→Bool}{held:Bool}
theorem R6 {a:Addr}{n:Nat}{cs:List Value}(h:w.cells? 0 a n=some cs):cs.length=n∧∀ (j:Nat)(v:Value),cs[j]?=some v→w.cell? (a.add j)=some v:=by
 unfold World.cells? at h
 rw [if_pos (Nat.zero_le _)] at h
 have key:∀ (l:List Nat) (cs:List Value),(l.mapM fun i=>w.cell? (a.add i))=some cs→cs.length=l.length∧∀ (j:Nat) (v:Value),cs[j]?=some v→∃ k:Nat,l[j]?=some k∧w.cell? (a.add k)=some v:=by
  intro l
  induction l with
  | nil=>intro cs h;simp at h;subst h;exact ⟨rfl,fun j v h=>by simp at h⟩
  | cons k l ih =>
    intro cs h
    simp only [List.mapM_cons,Option.bind_eq_bind,Option.bind_eq_some_iff,Option.pure_def,Option.some.injEq] at h
    obtain ⟨v,hv,cs',hcs,rfl⟩:=h
    obtain ⟨h1,h2⟩:=ih cs' hcs
    refine ⟨by simp [h1],fun j u hu=>?_⟩
    cases j with
    | zero=>simp at hu;subst hu;exact ⟨k,rfl,hv⟩
    | succ j=>simpa using h2 j u (by simpa using hu)
 obtain ⟨h1,h2⟩:=key _ _ h
 refine ⟨by simpa using h1,fun j v hv=>?_⟩
 obtain ⟨k,hk,hc⟩:=h2 j v hv
 have:j<(List.range n).length:=Aa hk
 simp at this
 rw [List.getElem?_range this] at hk
 cases hk
 exact hc
theorem Qs {b o n:Nat}:(Addr.mk b o none).add n=⟨b,o+n,none⟩:=by
 unfold Addr.add
 split
 ·rename_i h;subst h;rfl
 ·rfl
theorem Yd {α:Type}{t e sz fuel:Nat}{cs:List Value}{x:DataW H × List MemPlace}(cells:α→List AV)(Q:α→Prop)(ht:P.underlying t=some (.slice e))(hc:P.cellsOf e=sz)(hsz:0<sz)(hcell:∀ y,(cells y).length=sz)
 (hel:∀ n,fuel=n+1→∀ (cs:List Value)(x:DataW H × List MemPlace),DataW.trod enc P w 0 sp held n e cs=some x→∃ y:α,Q y∧RelL w cs (cells y))(h:DataW.trod enc P w 0 sp held fuel t cs=some x) :
 ∃ l:List α,(∀ y,y∈l→Q y)∧l.length≤9223372036854775807∧RelL w cs [.sl (l.map cells) .no]:=by
 rcases DataW.trod_slice ht h with ⟨rfl,_⟩ | ⟨a,len,cap,elems,rest,n,hn,rfl,_,_,hcap,hmax,hlen,hall,_,_⟩
 ·refine ⟨[],(fun y hy=>by cases hy),by simp,RelL.one ?_⟩
  exact .sl [] .no none 0 0 0 0 0 (fun _ _=>default) rfl (Nat.zero_le _) (fun h=>absurd rfl h) (fun r hr=>by cases hr) (fun i j h=>by omega) (fun i j h=>by omega) (fun i j r x h=>by simp at h) trivial (Nat.le_refl _)
 ·have hml:maxLen=9223372036854775807:=by decide
  have hel':∀ i,i<len→∃ y:α,Q y∧∃ cs',w.cells? 0 (a.add (i*sz)) sz=some cs'∧RelL w cs' (cells y):=fun i hi=>by
   have h1:=hall i hi
   obtain ⟨z,hz⟩:=Ab elems (i:=i) (by omega)
   rw [hz,hc] at h1
   obtain ⟨cs',h2,h3⟩:=Option.bind_eq_some_iff.1 h1
   obtain ⟨y,hq,hr⟩:=hel n hn cs' z h3
   exact ⟨y,hq,cs',h2,hr⟩
  obtain ⟨l,hll,hl⟩:=Afb len hel'
  have hQ:∀ y,y∈l→Q y:=fun y hy=>by obtain ⟨i,hi⟩:=A3 hy;exact (hl i y hi).1
  refine ⟨l,hQ,by omega,RelL.one ?_⟩
  have ha:len≠0→a=⟨a.block,a.off,none⟩:=fun h0=>by
   obtain ⟨y,hy⟩:=Ab l (i:=0) (by omega)
   obtain ⟨_,cs',h1,h2⟩:=hl 0 y hy
   obtain ⟨h3,h4⟩:=R6 h1
   obtain ⟨v,hv⟩:=Ab cs' (i:=0) (by omega)
   have h5:=h4 0 v hv
   have h6:(a.add (0*sz)).add 0=a:=by simp [Addr.add]
   rw [h6] at h5
   obtain ⟨b,o,s⟩:=a
   unfold World.cell? at h5
   simp only at h5
   split at h5
   ·split at h5
    ·cases h5
    ·rename_i hs
     cases s with
     | none=>rfl
     | some s=>simp at hs
   ·cases h5
  have hcl:∀ i j:Nat,i<len→j<sz→∃ v,w.cell? ⟨a.block,a.off+i*sz+j,none⟩=some v:=fun i j hi hj=>by
   obtain ⟨y,hy⟩:=Ab l (i:=i) (by omega)
   obtain ⟨_,cs',h1,h2⟩:=hl i y hy
   obtain ⟨h3,h4⟩:=R6 h1
   obtain ⟨v,hv⟩:=Ab cs' (i:=j) (by omega)
   have h5:=h4 j v hv
   rw [ha (by omega),Qs,Qs] at h5
   exact ⟨v,h5⟩
  refine .sl _ .no (some a) len cap a.block a.off sz (fun i j=>(w.cell? ⟨a.block,a.off+i*sz+j,none⟩).getD default) (by simp [hll]) (by unfold Kk;omega) (fun h0=>congrArg some (ha h0)) (fun r hr=>?_) (fun i j _ _=>Ar6 _ _) (fun i j hi hj=>?_) (fun i j r z h1 h2=>?_) trivial hcap
  ·obtain ⟨y,_,rfl⟩:=List.mem_map.1 hr;exact hcell y
  ·obtain ⟨v,hv⟩:=hcl i j hi hj
   rw [hv];rfl
  ·simp only [List.getElem?_map,Option.map_eq_some_iff] at h1
   obtain ⟨y,hy,rfl⟩:=h1
   obtain ⟨_,cs',h3,h4⟩:=hl i y hy
   have hi:i<len:=by have:=Aa hy;omega
   have hj:j<sz:=by have:=Aa h2;rw [hcell] at this;exact this
   obtain ⟨h5,h6⟩:=R6 h3
   obtain ⟨v,hv⟩:=Ab cs' (i:=j) (by omega)
   have h7:=h6 j v hv
   rw [ha (by omega),Qs,Qs] at h7
   show Rel E0 w ((w.cell? ⟨a.block,a.off+i*sz+j,none⟩).getD default) z
   rw [h7]
   exact h4.2 j v z hv h2
theorem Aeb {t fuel:Nat}{k:IntKind}{cs:List Value}{x:DataW H × List MemPlace}(ht:P.underlying t=some (.int k))(h:DataW.trod enc P w 0 sp held fuel t cs=some x):∃ n:Int,k.min≤n∧n≤k.max∧cs=[.int k n]:=by
 obtain ⟨n,rfl,_,h2⟩:=DataW.trod_int ht h
 simp only [Lit.wf,Bool.and_eq_true,decide_eq_true_eq] at h2
 exact ⟨n,h2.1,h2.2,rfl⟩
theorem Arr {t fuel:Nat}{cs:List Value}{x:DataW H × List MemPlace}(ht:P.underlying t=some .string)(h:DataW.trod enc P w 0 sp held fuel t cs=some x):∃ s:List UInt8,s.length≤9223372036854775807∧cs=[.string ⟨⟨s⟩⟩]:=by
 obtain ⟨s,rfl,_,h2⟩:=DataW.trod_string ht h
 obtain ⟨⟨s⟩⟩:=s
 exact ⟨s,by have:maxLen=9223372036854775807:=by decide
             have h3:s.length≤maxLen:=h2
             omega,rfl⟩
end
theorem Amr {n:Int}(h0:IntKind.i64.min≤n)(h1:n≤IntKind.i64.max):-9223372036854775808≤n∧n≤9223372036854775807:=by
 have a:IntKind.i64.min=-9223372036854775808:=by decide
 have b:IntKind.i64.max=9223372036854775807:=by decide
 omega
section
variable {H:Type}{enc:TypeId × Value→H}{w:World}{sp:Nat→Bool}{held:Bool}
theorem Aox:∀ (fuel:Nat)(cs:List Value)(x:DataW H × List MemPlace),DataW.trod enc Tryz.prog w 0 sp held fuel 24 cs=some x→∃ n:Nd,(PrI n∧LnI n)∧RelL w cs (Ae n):=by
 intro fuel
 induction fuel using Nat.strongRecOn with
 | ind fuel ih =>
   intro cs x h
   obtain ⟨xs,n1,rfl,_,hl,hxs,hf⟩:=DataW.trod_struct Tryz.underlying24 h
   have hl4:cs.length=4:=hl.trans (by kernel_rfl)
   have hx4:xs.length=4:=hxs
   obtain ⟨c0,c1,c2,c3,rfl⟩:=Ass hl4
   obtain ⟨x0,hx0⟩:=Ab xs (i:=0) (by omega)
   obtain ⟨x1,hx1⟩:=Ab xs (i:=1) (by omega)
   obtain ⟨x2,hx2⟩:=Ab xs (i:=2) (by omega)
   obtain ⟨x3,hx3⟩:=Ab xs (i:=3) (by omega)
   have c3e:Tryz.prog.cellsOf 3=1:=by kernel_rfl
   have c9e:Tryz.prog.cellsOf 9=1:=by kernel_rfl
   have cse:Tryz.prog.cellsOf 22=1:=by kernel_rfl
   have f0:DataW.trod enc Tryz.prog w 0 sp held n1 3 (([c0,c1,c2,c3].drop 0).take (Tryz.prog.cellsOf 3))=some x0:=(hf 0 _ rfl).trans hx0
   have f1:DataW.trod enc Tryz.prog w 0 sp held n1 9 (([c0,c1,c2,c3].drop 1).take (Tryz.prog.cellsOf 9))=some x1:=(hf 1 _ rfl).trans hx1
   have f2:DataW.trod enc Tryz.prog w 0 sp held n1 3 (([c0,c1,c2,c3].drop 2).take (Tryz.prog.cellsOf 3))=some x2:=(hf 2 _ rfl).trans hx2
   have f3:DataW.trod enc Tryz.prog w 0 sp held n1 22 (([c0,c1,c2,c3].drop 3).take (Tryz.prog.cellsOf 22))=some x3:=(hf 3 _ rfl).trans hx3
   rw [c3e] at f0 f2
   rw [c9e] at f1
   rw [cse] at f3
   obtain ⟨k,k0,k1,e0⟩:=Aeb Tryz.underlying3 f0
   obtain ⟨s,s0,e1⟩:=Arr Tryz.underlying9 f1
   obtain ⟨m,m0,m1,e2⟩:=Aeb Tryz.underlying3 f2
   obtain ⟨l,hq,hll,e3⟩:=Yd Ae (fun n=>PrI n∧LnI n) Tryz.underlying22 (show Tryz.prog.cellsOf 24=4 by kernel_rfl) (by decide) (fun y=>rfl) (fun n2 hn2 cs' x' hx'=>ih n2 (by omega) cs' x' hx') f3
   have e0':c0=.int .i64 k:=(List.cons.inj e0).1
   have e1':c1=.string ⟨⟨s⟩⟩:=(List.cons.inj e1).1
   have e2':c2=.int .i64 m:=(List.cons.inj e2).1
   have e3':RelL w [c3] [.sl (l.map Ae) .no]:=e3
   subst e0';subst e1';subst e2'
   obtain ⟨m0,m1⟩:=Amr m0 m1
   refine ⟨.mk k s m l,⟨.mk k s m l m0 m1 fun x hx=>(hq x hx).1,.mk k s m l s0 hll fun x hx=>(hq x hx).2⟩,?_⟩
   show RelL w _ [_,_,_,.sl (Ai l) .no]
   rw [Aj]
   exact .cons (.val _) (.cons (.val _) (.cons (.val _) e3'))
end
end Go.V
namespace Go.V
open Go Go.Proofs Go.ChangeShapes Go.WideShapes Go.ChangeAt Go.RowKit
section
variable {H:Type}{enc:TypeId × Value→H}{P:Program}{w:World}{sp:Nat→Bool}{held:Bool}
theorem Ali {t e n fuel:Nat}{cs:List Value}{d:DataW H}{ps:List MemPlace}(ht:P.underlying t=some (.array n e))(h:DataW.trod enc P w 0 sp held fuel t cs=some (d,ps)) :
 ∃ (xs:List (DataW H × List MemPlace)) (f:Nat),d=.agg (xs.map (·.1))∧cs.length=P.cellsOf t∧∀ i,i<n→DataW.trod enc P w 0 sp held f e ((cs.drop (i*P.cellsOf e)).take (P.cellsOf e))=xs[i]?:=by
 cases fuel with
 | zero=>simp [DataW.trod] at h
 | succ f =>
   unfold DataW.trod at h
   rw [ht] at h
   split at h<;>simp_all
   obtain ⟨hl,xs,hp,hd,_⟩:=h
   exact ⟨xs,hd.symm,f,fun i hi=>mapM_some_get hp i i (by simp [hi])⟩
theorem Alj {t fuel:Nat}{ms:Array (String × TypeId)}{cs:List Value}{x:DataW H × List MemPlace}(ht:P.underlying t=some (.interface ms))(h:DataW.trod enc P w 0 sp held fuel t cs=some x):∃ v,cs=[v]∧(v=.nilIface∨∃ te pe,v=.iface te pe):=by
 cases fuel with
 | zero=>simp [DataW.trod] at h
 | succ f =>
   unfold DataW.trod at h
   rw [ht] at h
   split at h<;>simp_all
theorem Px (hl:laidOutB P=true){W W':World}{sp':Nat→Bool}:∀ {ts:List TypeId}{vs:List Value}{ds:List (DataW H)}{ps:List MemPlace},(∀ t,t∈ts→P.readableRec t=true∧t<P.types.size) →
 DataW.TrodAll enc P W 0 (fun _=>true) true ts vs ds ps→(∀ p∈ps,W.sameAt W' p)→(∀ p∈ps,sp' p.block=true)→DataW.TrodAll enc P W' 0 sp' true ts vs ds ps
 | [],[],[],_,_,h,_,_=>h
 | t::ts,v::vs,d::ds,_,hr,⟨p,q,h1,h2,rfl⟩,hs,hb =>
   ⟨p,q,WideElems.Trod_stays hl (hr t (by simp)).1 (hr t (by simp)).2 h1 (fun x hx=>hs x (by simp [hx])) (fun x hx=>hb x (by simp [hx])),Px hl (fun x hx=>hr x (by simp [hx])) h2 (fun x hx=>hs x (by simp [hx])) (fun x hx=>hb x (by simp [hx])),rfl⟩
 | [],_::_,_,_,_,h,_,_=>h.elim
 | [],[],_::_,_,_,h,_,_=>h.elim
 | _::_,[],_,_,_,h,_,_=>h.elim
 | _::_,_::_,[],_,_,h,_,_=>h.elim
theorem W9 (hl:laidOutB P=true){W W':World}{sp':Nat→Bool}{n:String}{gs:List (DataW H)}{ps:List MemPlace}{g t:Nat}(hg:P.globalNamed n=some g)(ht:(P.globals[g]?).map (·.type)=some t)(hr:P.readableRec t=true)(hlt:t<P.types.size)
 (hb:Below W.heap.size W W')(h:DataW.TrodVars enc P W (fun _=>true) [n] gs ps)(hs:∀ p∈ps,W.sameAt W' p)(hsp:∀ p∈ps,sp' p.block=true):DataW.TrodVars enc P W' sp' [n] gs ps:=by
 obtain ⟨g',t',cs,fuel,d,p,rfl,h1,h2,h3,h4,rfl⟩:=trodVars_one h
 obtain rfl:=Option.some.inj (hg.symm.trans h1)
 obtain rfl:=Option.some.inj (ht.symm.trans h2)
 have h5:DataW.Trod enc P W 0 (fun _=>true) true t (.agg cs) d p:=⟨fuel,h4⟩
 obtain ⟨fuel',h6⟩:=WideElems.Trod_stays (sp':=sp') hl hr hlt h5 (fun x hx=>hs x (by simp [hx])) (fun x hx=>hsp x (by simp [hx]))
 refine trodVars_mk1 hg ht ?_ h6
 unfold World.var? at h3 ⊢
 rw [hg] at h3 ⊢
 simp only [Option.bind_some] at h3 ⊢
 have hgl:g<W.heap.size:=by
  rcases Nat.lt_or_ge g W.heap.size with h' | h'
  ·exact h'
  ·simp [Array.getElem?_eq_none h'] at h3
 rw [hb.block g hgl];exact h3
end
def laidL:List (String × DataW Unit):=[("math/bits.deBruijn32tab",YtojhghmilenfkaaGreatDoor.Rows.laid_math_bits_deBruijn32tab),("math/bits.deBruijn64tab",YtojhghmilenfkaaGreatDoor.Rows.laid_math_bits_deBruijn64tab),("internal/strconv.uint64pow10",YtojhghmilenfkaaGreatDoor.Rows.laid_internal_strconv_uint64pow10),
 ("strconv.ErrRange",YtojhghmilenfkaaGreatDoor.Rows.laid_strconv_ErrRange),("strconv.ErrSyntax",YtojhghmilenfkaaGreatDoor.Rows.laid_strconv_ErrSyntax),("loop.example/g00093/impl.condWords",YtojhghmilenfkaaGreatDoor.Rows.laid_loop_example_g00093_impl_condWords)
 ]
theorem Ag1 {W:World}(h:laidMetH Tryz.prog laidL W):laidMet Tryz.prog laidL W:=by
 have e:(laidL.filter fun x=>x.2.handleName?.isSome)=[]:=by kernel_rfl
 unfold laidMetH at h
 rw [e] at h
 exact h
def condB:List (List UInt8):=[[60],[60,61],[62],[62,61],[61,61],[33,61]]
theorem Ac3:condG=condB.map fun b=>.val (.string ⟨⟨b⟩⟩):=rfl
theorem Agn:(YtojhghmilenfkaaGreatDoor.Rows.laid_loop_example_g00093_impl_condWords:DataW Unit)=.agg (condB.map fun b=>.lit (.string b)):=rfl
theorem Ajp {W:World}{n:String}{d:DataW Unit}{g:Nat}(hg:Tryz.prog.globalNamed n=some g)(ht:(Tryz.prog.globals[g]?).map (·.type)=some 340)(h:Lib.VarReads Tryz.prog W n d):IfaceV W g:=by
 obtain ⟨g',t',cs,fuel,p,h1,h2,h3,h4⟩:=h
 obtain rfl:=Option.some.inj (hg.symm.trans h1)
 obtain rfl:=Option.some.inj (ht.symm.trans h2)
 obtain ⟨v,h5,h6⟩:=Alj Tryz.underlying340 h4
 refine ⟨v,?_,h6⟩
 rw [World.var?_cell hg h3 0,← Array.getElem?_toList,h5];rfl
theorem Aqa {W:World}(h:laidMetH Tryz.prog laidL W):gOk W:=by
 have hm:=Ag1 h
 constructor
 ·intro j x hx
  obtain ⟨g',t',cs,fuel,p,h1,h2,h3,h4⟩:=Lib.laidMet.reads hm (n := "loop.example/g00093/impl.condWords") (d:=YtojhghmilenfkaaGreatDoor.Rows.laid_loop_example_g00093_impl_condWords) (by unfold laidL;simp)
  have hg:Tryz.prog.globalNamed "loop.example/g00093/impl.condWords" = some 1:=by kernel_rfl
  have ht:(Tryz.prog.globals[1]?).map (·.type)=some 338:=by kernel_rfl
  obtain rfl:=Option.some.inj (hg.symm.trans h1)
  obtain rfl:=Option.some.inj (ht.symm.trans h2)
  obtain ⟨xs,f,hd,hl,hall⟩:=Ali Tryz.underlying338 h4
  have c9e:Tryz.prog.cellsOf 9=1:=by kernel_rfl
  have cae:Tryz.prog.cellsOf 338=6:=by kernel_rfl
  rw [cae] at hl
  rw [Agn] at hd
  have hd':condB.map (fun b=>(DataW.lit (.string b):DataW Unit))=xs.map (·.1):=DataW.agg.inj hd
  rw [Ac3] at hx
  simp only [List.getElem?_map,Option.map_eq_some_iff] at hx
  obtain ⟨b,hb,rfl⟩:=hx
  have hj:j<6:=Aa hb
  have h5:=hall j hj
  rw [c9e,Nat.mul_one] at h5
  have h6:=congrArg (fun l=>l[j]?) hd'
  simp only [List.getElem?_map,hb,Option.map_some] at h6
  cases hxj:xs[j]? with
  | none=>rw [hxj] at h6;cases h6
  | some z =>
    rw [hxj] at h5 h6
    obtain ⟨s,h7,h8,_⟩:=DataW.trod_string Tryz.underlying9 h5
    have h9:DataW.lit (.string b)=z.1:=Option.some.inj h6
    rw [h8] at h9
    have h10:b=s.data.toList:=Lit.string.inj (DataW.lit.inj h9)
    obtain ⟨v,hv⟩:=Ab cs.toList (i:=j) (by omega)
    have h11:cs.toList.drop j=v::cs.toList.drop (j+1):=Ba hv
    rw [h11] at h7
    have h12:v=.string s:=(List.cons.inj h7).1
    refine ⟨.string s,?_,?_⟩
    ·rw [World.var?_cell hg h3 j,← Array.getElem?_toList,hv,h12]
    ·rw [h10]
 ·obtain ⟨g',t',cs,fuel,p,h1,h2,h3,h4⟩:=Lib.laidMet.reads hm (n := "internal/strconv.uint64pow10") (d:=YtojhghmilenfkaaGreatDoor.Rows.laid_internal_strconv_uint64pow10) (by unfold laidL;simp)
  have hg:Tryz.prog.globalNamed "internal/strconv.uint64pow10" = some 2:=by kernel_rfl
  have ht:(Tryz.prog.globals[2]?).map (·.type)=some 375:=by kernel_rfl
  obtain rfl:=Option.some.inj (hg.symm.trans h1)
  obtain rfl:=Option.some.inj (ht.symm.trans h2)
  have hd:(YtojhghmilenfkaaGreatDoor.Rows.laid_internal_strconv_uint64pow10:DataW Unit)=Lib.tabData .u64 Lib.pow10Tab:=by kernel_rfl
  rw [hd] at h4
  have h5:=Lib.cells_of_tab Tryz.underlying375 Tryz.underlying361 (by kernel_rfl) (by kernel_rfl) h4
  unfold World.var? at h3
  rw [hg] at h3
  simp only [Option.bind_some] at h3
  split at h3
  ·rename_i c e z hh
   refine ⟨e,z,?_⟩
   rw [hh]
   cases h3
   rw [← Array.toArray_toList (xs:=cs),h5]
  ·cases h3
 ·exact Ajp (by kernel_rfl) (by kernel_rfl) (Lib.laidMet.reads hm (n := "strconv.ErrSyntax") (d:=YtojhghmilenfkaaGreatDoor.Rows.laid_strconv_ErrSyntax) (by unfold laidL;simp))
 ·exact Ajp (by kernel_rfl) (by kernel_rfl) (Lib.laidMet.reads hm (n := "strconv.ErrRange") (d:=YtojhghmilenfkaaGreatDoor.Rows.laid_strconv_ErrRange) (by unfold laidL;simp))
theorem Asl {W:World}(h:W.ShapedOpen Tryz.prog):gK≤W.heap.size:=by
 obtain ⟨o,_,h1,_⟩:=h.2 Tryz.prog.globals.size (Nat.le_refl _) (of_decide_eq_true (by kernel_rfl))
 have:=Jp h1
 unfold gK
 omega
theorem Atk {W:World}(h1:gK≤W.heap.size)(h2:gOk W):Inv X E0 ⟨[],[]⟩ W where
 nb:=rfl
 nt:=rfl
 np i h:=by simp [E0] at h
 box i b sz rows h:=by simp [E0] at h
 tok t l b c sz h:=by simp [E0] at h
 bb i j b s s' h:=by simp [E0] at h
 bt i t b s l c sz h:=by simp [E0] at h
 tt i j b l c s l' c' s' h:=by simp [E0] at h
 frlt b o h:=h.elim
 lo b h:=by
  rcases h with ⟨i,sz,h⟩ | ⟨t,l,c,sz,h⟩
  ·simp [E0] at h
  ·simp [E0] at h
 frlo b o h:=h.elim
 sz:=h1
 glob:=h2
theorem Aoj {f:FuncId}{xs:List AV}{W:World}{args:Array Value}(hP:Pure X f xs (vb true))(hs:W.ShapedOpen Tryz.prog)(hL:laidMetH Tryz.prog laidL W)(hA:RelL W args.toList xs) :
 Calls Tryz.prog f args W fun e W'=>e=.returned (.bool true)∧Below W.heap.size W W':=by
 refine (hP.2 E0 W args rfl (Atk (Asl hs) (Aqa hL)) (by simpa using hA.1) (fun j v x h1 h2=>hA.2 j v x (by simpa using h1) h2)).mono fun e W' he=>?_
 obtain ⟨E',S',h1,h2,h3⟩:=he
 have ho:∀ b,¬ E0.own b:=fun b h=>by
  rcases h with ⟨i,sz,h⟩ | ⟨t,l,c,sz,h⟩
  ·simp [E0] at h
  ·simp [E0] at h
 refine ⟨?_,⟨h2.os,h2.tape,h2.output,h2.size,fun k hk=>h2.block k hk (ho k)⟩⟩
 cases e with
 | returned v =>
   obtain ⟨r,h4,h5,_⟩:=h3
   injection h5 with h5
   subst h5
   cases h4;rfl
 | panicked ch=>exact absurd h3.1 (by intro h;cases h)
 | outgrown=>exact h3.elim
set_option maxRecDepth 100000
theorem Ahi {H:Type}{enc:TypeId × Value→H}{P:Program}{fn:Func}{s:ChangeSpec}{apart fresh handsOn:Bool}{W W':World}{args:Array Value}{ds gs:List (DataW H)}{before:List MemPlace}{n:String}{g t:Nat}
 (hl:laidOutB P=true)(hp:∀ t,t∈fn.params.toList→P.readableRec t=true∧t<P.types.size)(hn:s.vars=[n])(hg:P.globalNamed n=some g)(ht:(P.globals[g]?).map (·.type)=some t)(hr:P.readableRec t=true)(hlt:t<P.types.size)
 (hW:DataW.Whole enc P fn.params.toList s.vars apart W args.toList ds gs before)(hb:Below W.heap.size W W')
 (hargs:∀ g1,gs=[g1]→s.fn H (ds++gs)={ results:=[.lit (.bool true)],args:=ds,vars:=gs }){tb:Nat}(hres:fn.resultTypes=#[tb])(htb:P.underlying tb=some .bool) :
 s.post enc P fn apart fresh handsOn false W args (.bool true) W':=by
 have hW':=hW
 obtain ⟨p,q,hA,hV,rfl,hfz,hnd⟩:=hW
 have hlt':∀ x,x∈p++q→x.block<W.heap.size:=fun x hx=>hW'.lt x hx
 rw [hn] at hV
 have hgs:∃ g1,gs=[g1]:=by
  obtain ⟨_,_,_,_,d,_,h,_⟩:=trodVars_one hV
  exact ⟨d,h⟩
 obtain ⟨g1,hg1⟩:=hgs
 have e:=hargs g1 hg1
 refine ⟨ds,gs,p++q,[],p,q,hW',?_,?_,?_,hb.frame _,fun h=>by cases h⟩
 ·rw [e,hres];exact trodAll_cons_mk (shut_bool htb _) trodAll_mk0
 ·rw [e]
  exact Px hl hp hA (fun x hx=>hb.same (hlt' x (by simp [hx]))) (fun x hx=>by simpa using hlt' x (by simp [hx]))
 ·rw [e,hn]
  exact W9 hl hg ht hr hlt hb hV (fun x hx=>hb.same (hlt' x (by simp [hx]))) (fun x hx=>by simpa using hlt' x (by simp [hx]))
theorem Ani {H:Type}{enc:TypeId × Value→H}{W:World}{base:Nat}{v:Value}{d:DataW H}{ps:List MemPlace}(hv:Value.okWide Tryz.prog W .any base 24 v)(h:DataW.Trod enc Tryz.prog W 0 (fun _=>true) true 24 v d ps) :
 ∃ n:Nd,PrI n∧LnI n∧Rel E0 W v (nd n):=by
 unfold Value.okWide at hv
 rw [Tryz.underlying24] at hv
 obtain ⟨cs,rfl,_⟩:=hv
 obtain ⟨fuel,h⟩:=h
 obtain ⟨n,⟨h1,h2⟩,h3⟩:=Aox fuel _ _ h
 exact ⟨n,h1,h2,h3.agg⟩
noncomputable def low:Nat:=(World.holding Tryz.prog default ⟨#[],#[],[]⟩).heap.size
def Ato:DataW Unit→Value
 | .lit (.int k n)=>.int k n
 | .lit (.string s)=>.string ⟨⟨s⟩⟩
 | _=>.nilIface
def Ama:DataW Unit→Array Value
 | .agg l=>(l.map Ato).toArray
 | _=>#[]
def Apk:DataW Unit→Value
 | .iface _ (.ptr (.agg [.lit (.string s)]))=>.string ⟨⟨s⟩⟩
 | _=>.nilIface
def Ahl (cs:Array Value):Obj→Obj
 | .cells _ t frozen=>.cells cs t frozen
 | o=>o
noncomputable def Aju (os:Os):World :=
 let w0:=World.holding Tryz.prog os ⟨#[.cells #[Apk YtojhghmilenfkaaGreatDoor.Rows.laid_strconv_ErrSyntax] 400,.cells #[Apk YtojhghmilenfkaaGreatDoor.Rows.laid_strconv_ErrRange] 400],#[],[]⟩
 let h0:=(((((w0.heap.modify 1 (Ahl (Ama YtojhghmilenfkaaGreatDoor.Rows.laid_loop_example_g00093_impl_condWords))).modify 6 (Ahl #[.iface 398 (.pointer (some ⟨low,0,none⟩))])).modify 7 (Ahl #[.iface 398 (.pointer (some ⟨low+1,0,none⟩))])).modify
  2 (Ahl (Ama YtojhghmilenfkaaGreatDoor.Rows.laid_internal_strconv_uint64pow10))).modify 4 (Ahl (Ama YtojhghmilenfkaaGreatDoor.Rows.laid_math_bits_deBruijn32tab))).modify 5 (Ahl (Ama YtojhghmilenfkaaGreatDoor.Rows.laid_math_bits_deBruijn64tab))
 { w0 with heap:=h0 }
abbrev Anf:Value:=.agg #[.int .i64 0,.string ⟨#[]⟩,.int .i64 0,.slice none 0 0]
theorem Atr:ownKnob Tryz.prog.godebug=none:=by kernel_rfl
theorem Ajt:laidOutB Tryz.prog=true:=by kernel_rfl
theorem Amd:Tryz.prog.globalNamed "loop.example/g00093/impl.condWords" = some 1:=by kernel_rfl
theorem Ap4:(Tryz.prog.globals[1]?).map (·.type)=some 338:=by kernel_rfl
theorem Ap3:Tryz.prog.readableRec 338=true:=by kernel_rfl
theorem Ap2:338<Tryz.prog.types.size:=of_decide_eq_true (by kernel_rfl)
end Go.V
namespace Go.V
open Go Go.Proofs
def cpR {α:Type}(f:α→List AV)(z:List AV)(l:List α)(i:Nat):List (List AV):=(l.take i).map f++List.replicate (l.length-i) z
theorem Aeo {α:Type}(f:α→List AV)(z:List AV){l:List α}{i:Nat}(h:i<l.length):(cpR f z l i)[i]?=some z:=by
 have:((l.take i).map f).length=i:=by simp;omega
 rw [cpR,List.getElem?_append_right (by omega),this,Nat.sub_self,List.getElem?_replicate,if_pos (by omega)]
theorem Aeq {α:Type}(f:α→List AV)(z:List AV){l:List α}{i:Nat}{x:α}(h:l[i]?=some x):(cpR f z l i).set i (f x)=cpR f z l (i+1):=by
 have hi:=Aa h
 obtain ⟨c,hc⟩:∃ c,l.length-i=c+1:=⟨l.length-i-1,by omega⟩
 have hc2:l.length-(i+1)=c:=by omega
 rw [cpR,cpR,hc,hc2,List.take_add_one,h,Option.toList_some,List.map_append,List.replicate_succ]
 have:((l.take i).map f).length=i:=by simp;omega
 rw [List.set_append_right _ _ (by omega),this,Nat.sub_self,List.set_cons_zero,List.append_assoc];rfl
theorem Aen {α:Type}(f:α→List AV)(z:List AV)(l:List α):cpR f z l l.length=l.map f:=by simp [cpR]
theorem Aep {α:Type}(f:α→List AV)(z:List AV)(l:List α):cpR f z l 0=List.replicate (l.map f).length z:=by simp [cpR]
theorem AK.rbs {f:FuncId}{fn:Func}{F:Bs}{bx:List (List (List AV))}{b n:Nat}{rows:List (List AV)}{k:List Item}(hf:X.P.funcs[f]?=some fn)(hb:bx[b]?=some rows)(hn:rows.length=n)(hl:n≤1000000000) [hok:OKR 0 0 rows]
 (h:Kl X F ⟨bx,[]⟩ fn.results.toList=some [.bsl b n]:=by rfl):AK X ⟨f,fn,0,0⟩ (.code .ret::k) F ⟨bx,[]⟩ fun e S'=>e=.ret (.sl rows .no)∧S'=⟨[],[]⟩:=by
 subst hn
 refine AK.retZ (B:=⟨f,fn,0,0⟩) hf h 0 (Nat.le_refl _) (r:=.sl rows .no) ?_ (fun rows hr=>by simp at hr) ⟨rfl,rfl⟩
 refine .bsl b rows.length rows rows (Nat.zero_le _) hb (Nat.le_refl _) (by unfold Kk;omega) rfl (fun i r r' h1 h2=>?_) (fun i j r r' x y h1 h2 h3 h4=>?_)
 ·rw [h1] at h2;cases h2;rfl
 ·rw [h1] at h2;cases h2
  rw [h3] at h4;cases h4
  exact .same x (hok.ok r (List.mem_of_getElem? h1) x (List.mem_of_getElem? h3))
theorem Ec {α:Type}{f:α→List AV}{l:List α}{i:Nat}{x:α}(h:l[i]?=some x):(l.map f)[i]?=some (f x):=by simp [h]
abbrev Gi (n:Int):List AV:=[vi n]
instance {n m i:Nat}{l:List Int}:OKR n m (cpR Gi [vi 0] l i):=⟨fun r hr x hx=>by
 rcases List.mem_append.1 hr with h | h
 ·exact (inferInstance:OKR n m (E9 (l.take i))).ok r h x hx
 ·rw [List.eq_of_mem_replicate h] at hx;simp at hx;subst hx;exact .val _⟩
theorem Alf (l:List (Int))(hl:l.length≤1000000000)  : Pure X 20 [.sl (E9 l) .no] (.sl (E9 l) .no):=by
 have hlen:(E9 l).length=l.length:=by simp [E9]
 refine Pure.run Tryz.func20 ?_
 refine AK.op (Ndo.mkS (n:=(E9 l).length) (b:=0) (by rw [hlen];exact hl) rfl rfl rfl rfl rfl rfl rfl rfl rfl rfl) ?_
 refine AK.while_ (ι:=Nat) 1 0 (fun i=>i≤l.length) (fun i=>[(4,vi i),(3,.bsl 0 l.length),(0,.sl (E9 l) .no)]) (fun i=>⟨[cpR Gi [vi 0] l i],[]⟩) (fun i=>l.length-i) ?_ 0 (Nat.zero_le _)
  ⟨rfl,by rw [← hlen];rfl,rfl,trivial⟩ (congrArg (fun b=>St.mk [b] []) (Aep Gi [vi 0] l).symm)
 intro i hi IH
 refine AK.ei (fun h=>?_) (fun h=>?_)
 ·have hlt:i<l.length:=by have:=of_decide_eq_true h;rw [hlen] at this;omega
  obtain ⟨x,hx⟩:=Ab l hlt
  have hr:=Aeo Gi [vi 0] hlt
  refine AK.ix i (by omega) (Ec (f:=Gi) hx) ?_
  skip
  refine AK.atB i hlt hr ?_
  refine AK.stB hr ?_
  refine IH (i+1) hlt (by omega) _ _ ⟨vsx (by omega),rfl,rfl,trivial⟩ ?_ rfl rfl
  exact congrArg (fun b=>St.mk [b] []) (Aeq Gi [vi 0] hx)
 ·have:i=l.length:=by have:=of_decide_eq_false h;rw [hlen] at this;omega
  subst this
  refine AK.rbs Tryz.func20 (b:=0) ?_ hlen hl
  show some (cpR Gi [vi 0] l l.length)=_
  rw [Aen];rfl
theorem Apj (l:List (Int))(hl:l.length≤1000000000)  : Pure X 23 [.sl (E9 l) .no,.sl (E9 l) .no] (vb true):=by
 have hlen:(E9 l).length=l.length:=by simp [E9]
 refine Pure.run Tryz.func23 ?_
 refine AK.no ?_ (ht:=by simp)
 refine AK.while_ (ι:=Nat) 0 0 (fun i=>i≤l.length) (fun i=>[(5,vi i),(0,.sl (E9 l) .no),(1,.sl (E9 l) .no)]) (fun i=>⟨[],[]⟩) (fun i=>l.length-i) ?_ 0 (Nat.zero_le _)
  ⟨rfl,rfl,rfl,trivial⟩
 intro i hi IH
 refine AK.ei (fun h=>?_) (fun h=>?_)
 ·have hlt:i<l.length:=by have:=of_decide_eq_true h;rw [hlen] at this;omega
  obtain ⟨x,hx⟩:=Ab l hlt
  refine AK.db 0 ?_
  refine Drv.ig i (by omega) (Ec (f:=Gi) hx) ?_
  refine Drv.ig i (by omega) (Ec (f:=Gi) hx) ?_
  skip
  refine Drv.z ?_
  refine AK.no ?_ (ht:=by simp)
  exact IH (i+1) hlt (by omega) _ _ ⟨vsx (by omega),rfl,rfl,trivial⟩ rfl rfl rfl
 ·exact AK.rz Tryz.func23 rfl
structure Cf where
 pt:Int
 vars:List Int
 cells:List (List (Bool × Int))
 used:Int
 steps:Int
 trap:Int
 edge:Int
 acc:Int
abbrev Tt (c:Bool × Int):List AV:=[vb c.1,vi c.2]
def Jn (l:List (Bool × Int)):List (List AV):=l.map Tt
abbrev Ame (l:List (Bool × Int)):List AV:=[.sl (Jn l) .no]
def Mp (l:List (List (Bool × Int))):List (List AV):=l.map Ame
abbrev O5 (c:Cf):List AV:=[vi c.pt,.sl (E9 c.vars) .no,.sl (Mp c.cells) .no,vi c.used,vi c.steps,vi c.trap,vi c.edge,vi c.acc]
abbrev cf (c:Cf):AV:=.agg (O5 c)
instance {n m:Nat}{l:List (Bool × Int)}:OKR n m (Jn l):=⟨fun r hr x hx=>by
 obtain ⟨e,_,rfl⟩:=List.mem_map.1 hr
 simp at hx
 rcases hx with rfl | rfl<;>exact .val _⟩
instance {n m:Nat}{l:List (List (Bool × Int))}:OKR n m (Mp l):=⟨fun r hr x hx=>by
 obtain ⟨e,_,rfl⟩:=List.mem_map.1 hr
 simp at hx;subst hx
 exact (inferInstance:OK n m (.sl (Jn e) .no)).ok⟩
theorem Kp (l:List (Bool × Int)):(Jn l).length=l.length:=by simp [Jn]
theorem Vi (l:List (List (Bool × Int))):(Mp l).length=l.length:=by simp [Mp]
theorem Ala (c:Bool × Int):Pure X 169 [.agg (Tt c),.agg (Tt c)] (vb true):=by
 refine Pure.run Tryz.func169 ?_
 refine AK.no ?_ (ht:=by simp)
 refine AK.no ?_ (ht:=by simp)
 exact AK.rz Tryz.func169 rfl
theorem As5 (l:List (Bool × Int))(hl:l.length≤1000000000)  : Pure X 110 [.sl (Jn l) .no,.sl (Jn l) .no] (vb true):=by
 have hlen:(Jn l).length=l.length:=by simp [Jn]
 refine Pure.run Tryz.func110 ?_
 refine AK.no ?_ (ht:=by simp)
 refine AK.while_ (ι:=Nat) 0 0 (fun i=>i≤l.length) (fun i=>[(5,vi i),(0,.sl (Jn l) .no),(1,.sl (Jn l) .no)]) (fun i=>⟨[],[]⟩) (fun i=>l.length-i) ?_ 0 (Nat.zero_le _)
  ⟨rfl,rfl,rfl,trivial⟩
 intro i hi IH
 refine AK.ei (fun h=>?_) (fun h=>?_)
 ·have hlt:i<l.length:=by have:=of_decide_eq_true h;rw [hlen] at this;omega
  obtain ⟨x,hx⟩:=Ab l hlt
  refine AK.db 0 ?_
  refine Drv.ig i (by omega) (Ec (f:=Tt) hx) ?_
  refine Drv.ig i (by omega) (Ec (f:=Tt) hx) ?_
  refine Bl (Ala x) ?_
  refine Drv.z ?_
  refine AK.no ?_ (ht:=by simp)
  exact IH (i+1) hlt (by omega) _ _ ⟨vsx (by omega),rfl,rfl,trivial⟩ rfl rfl rfl
 ·exact AK.rz Tryz.func110 rfl
theorem Arm (l:List (List (Bool × Int)))(hl:l.length≤1000000000)(h1:∀ x,x∈l→x.length≤1000000000):Pure X 64 [.sl (Mp l) .no,.sl (Mp l) .no] (vb true):=by
 have hlen:(Mp l).length=l.length:=by simp [Mp]
 refine Pure.run Tryz.func64 ?_
 refine AK.no ?_ (ht:=by simp)
 refine AK.while_ (ι:=Nat) 0 0 (fun i=>i≤l.length) (fun i=>[(5,vi i),(0,.sl (Mp l) .no),(1,.sl (Mp l) .no)]) (fun i=>⟨[],[]⟩) (fun i=>l.length-i) ?_ 0 (Nat.zero_le _)
  ⟨rfl,rfl,rfl,trivial⟩
 intro i hi IH
 refine AK.ei (fun h=>?_) (fun h=>?_)
 ·have hlt:i<l.length:=by have:=of_decide_eq_true h;rw [hlen] at this;omega
  obtain ⟨x,hx⟩:=Ab l hlt
  refine AK.db 0 ?_
  refine Drv.ig i (by omega) (Ec (f:=Ame) hx) ?_
  refine Drv.ig i (by omega) (Ec (f:=Ame) hx) ?_
  refine Bl (As5 x (h1 x (List.mem_of_getElem? hx))) ?_
  refine Drv.z ?_
  refine AK.no ?_ (ht:=by simp)
  exact IH (i+1) hlt (by omega) _ _ ⟨vsx (by omega),rfl,rfl,trivial⟩ rfl rfl rfl
 ·exact AK.rz Tryz.func64 rfl
structure CfOk (c:Cf):Prop where
 vars:c.vars.length≤1000000000
 cells:c.cells.length≤1000000000
 rows:∀ x,x∈c.cells→x.length≤1000000000
theorem Qi (n:Nd):(Br n).length=(Ay n 32).length:=by rw [Y9,Br,List.length_map,List.length_map]
structure CfLn (c:Cf):Prop where
 vars:c.vars.length≤9223372036854775807
 cells:c.cells.length≤9223372036854775807
 rows:∀ x,x∈c.cells→x.length≤9223372036854775807
theorem Aea (c:Cf)(hc:CfOk c):Pure X 22 [cf c,cf c] (vb true):=by
 refine Pure.run Tryz.func22 ?_
 refine AK.no ?_ (ht:=by simp)
 refine AK.pc (Apj c.vars hc.vars) ?_
 refine AK.no ?_
 refine AK.pc (Arm c.cells hc.cells hc.rows) ?_
 refine AK.no ?_
 refine AK.no ?_ (ht:=by simp)
 refine AK.no ?_ (ht:=by simp)
 refine AK.no ?_ (ht:=by simp)
 refine AK.no ?_ (ht:=by simp)
 refine AK.no ?_ (ht:=by simp)
 exact AK.rz Tryz.func22 rfl
set_option maxRecDepth 100000
section
variable {H:Type}{enc:TypeId × Value→H}{w:World}{sp:Nat→Bool}{held:Bool}
theorem Ah3 (fuel:Nat)(cs:List Value)(x:DataW H × List MemPlace)(h:DataW.trod enc Tryz.prog w 0 sp held fuel 3 cs=some x):∃ n:Int,True∧RelL w cs (Gi n):=by
 obtain ⟨n,_,_,rfl⟩:=Aeb Tryz.underlying3 h
 exact ⟨n,trivial,.one (.val _)⟩
theorem Ah4 (fuel:Nat)(cs:List Value)(x:DataW H × List MemPlace)(h:DataW.trod enc Tryz.prog w 0 sp held fuel 37 cs=some x):∃ l:List Int,l.length≤9223372036854775807∧RelL w cs [.sl (E9 l) .no]:=by
 obtain ⟨l,_,h1,h2⟩:=Yd Gi (fun _=>True) Tryz.underlying37 (show Tryz.prog.cellsOf 3=1 by kernel_rfl) (by decide) (fun y=>rfl) (fun n _ cs' x' hx'=>Ah3 n cs' x' hx') h
 exact ⟨l,h1,h2⟩
end
end Go.V
namespace Go.V
open Go Go.Proofs Go.ChangeShapes Go.WideShapes Go.ChangeAt Go.RowKit
set_option maxRecDepth 100000
abbrev inl (l:List Int):AV:=.sl (E9 l) .no
abbrev Ae6:Value:=.slice none 0 0
theorem Am2 {H:Type}{enc:TypeId × Value→H}{W:World}{base:Nat}{v:Value}{d:DataW H}{ps:List MemPlace}(hv:Value.okWide Tryz.prog W .any base 37 v)(h:DataW.Trod enc Tryz.prog W 0 (fun _=>true) true 37 v d ps) :
 ∃ l:List Int,l.length≤9223372036854775807∧Rel E0 W v (inl l):=by
 obtain ⟨a0,len,cap,rfl⟩:=okWide_slice Tryz.underlying37 hv
 obtain ⟨fuel,h⟩:=h
 obtain ⟨l,h0,h2⟩:=Ah4 fuel _ _ h
 exact ⟨l,h0,Agi h2⟩
end Go.V
namespace Go.V
open Go
inductive Sh (d:Nat):AV→AV→Prop where
 | val (v:Value):Sh d (.val v) (.val v)
 | junk (x:AV):Sh d x .junk
 | nil (sp:Sp):Sh d (.sl [] sp) (.sl [] .no)
 | pnil (t v:Nat):Sh d (.psl [] t v) (.sl [] .no)
 | bsl (b k:Nat):Sh d (.bsl b k) (.bsl (b+d) k)
 | agg (cs cs':List AV) (hl:cs'.length=cs.length) (hz:∀ (j:Nat) (x y:AV),cs[j]?=some x→cs'[j]?=some y→Sh d x y):Sh d (.agg cs) (.agg cs')
 | tup (cs cs':List AV) (hl:cs'.length=cs.length) (hz:∀ (j:Nat) (x y:AV),cs[j]?=some x→cs'[j]?=some y→Sh d x y):Sh d (.tup cs) (.tup cs')
theorem Sh.rel {d:Nat}{E1 E':Env}{w:World}{x y:AV}(h:Sh d x y)(hb:∀ (b:Nat)(q:Nat × Nat),E1.boxes[b]?=some (some q)→E'.boxes[b+d]?=some (some q)):∀ {v:Value},Rel E1 w v x→Rel E' w v y:=by
 induction h with
 | val v=>intro v' hx;cases hx;exact .val _
 | junk x=>intro v hx;exact .junk v
 | nil sp =>
   intro v hx
   cases hx with
   | sl _ _ a n cap b o sz vals hn hx ha hsz hm hc hr hs hcap =>
     have h0:n=0:=by simpa using hn.symm
     subst h0
     exact .sl [] .no a 0 cap b o sz vals rfl hx (fun h=>absurd rfl h) (fun r hr=>by cases hr) (fun i j hi=>by omega) (fun i j hi=>by omega) (fun i j r x hi=>by simp at hi) trivial hcap
 | pnil t ver =>
   intro v hx
   cases hx with
   | psl _ _ _ a n cap k sz vals hn hx hcap hk hv hsz hp hr hf =>
     have h0:n=0:=by simpa using hn.symm
     subst h0
     exact .sl [] .no a 0 cap 0 0 sz vals rfl hx (fun h=>absurd rfl h) (fun r hr=>by cases hr) (fun i j hi=>by omega) (fun i j hi=>by omega) (fun i j r x hi=>by simp at hi) trivial hcap
 | bsl b k =>
   intro v hx
   cases hx with
   | bsl _ blk sz _ cap h hc=>exact .bsl _ blk sz k cap (hb b _ h) hc
 | agg cs cs' hl hz ih =>
   intro v hx
   cases hx with
   | agg vs _ hl' hr =>
     refine .agg vs cs' (by omega) (fun j v y hv hy=>?_)
     obtain ⟨x,hx⟩:=Ab cs (i:=j) (by have:=Aa hy;omega)
     exact ih j x y hx hy (hr j v x hv hx)
 | tup cs cs' hl hz ih =>
   intro v hx
   cases hx with
   | tup vs _ hl' hr =>
     refine .tup vs cs' (by omega) (fun j v y hv hy=>?_)
     obtain ⟨x,hx⟩:=Ab cs (i:=j) (by have:=Aa hy;omega)
     exact ih j x y hx hy (hr j v x hv hx)
inductive ShL (d:Nat):List AV→List AV→Prop where
 | nil:ShL d [] []
 | cons {x y:AV} {l l':List AV} (h:Sh d x y) (t:ShL d l l'):ShL d (x::l) (y::l')
theorem ShL.get {d:Nat}{l l':List AV}(h:ShL d l l'):l'.length=l.length∧∀ (j:Nat)(x y:AV),l[j]?=some x→l'[j]?=some y→Sh d x y:=by
 induction h with
 | nil=>exact ⟨rfl,fun j x y h=>by simp at h⟩
 | cons h t ih =>
   refine ⟨by simp [ih.1],fun j x y hx hy=>?_⟩
   cases j with
   | zero=>simp at hx hy;subst hx;subst hy;exact h
   | succ j=>exact ih.2 j x y (by simpa using hx) (by simpa using hy)
theorem Sh.aggL {d:Nat}{l l':List AV}(h:ShL d l l'):Sh d (.agg l) (.agg l'):=.agg l l' h.get.1 h.get.2
def ShR (d:Nat)(r r':List (List AV)):Prop:=r'.length=r.length∧∀ (i:Nat)(x y:List AV),r[i]?=some x→r'[i]?=some y→ShL d x y
def ShB (d:Nat)(b b':List (List (List AV))):Prop:=b'.length=b.length∧∀ (i:Nat)(x y:List (List AV)),b[i]?=some x→b'[i]?=some y→ShR d x y
section
variable {X:Cx}{B:Bx}{E E1:Env}{S S1:St}{w w':World}{F:Bs}{a:Act}{N:Nat}{R:AE→St→Prop}{ops:Array Oper}{i:Nat}{o:Oper}
def Env.lent (E:Env):Env:=⟨[],[],E.fr,[]⟩
theorem Jl {b:Nat}:¬ E.lent.own b:=fun h=>by
 rcases h with ⟨i,s,h⟩ | ⟨t,l,c,s,h⟩<;>simp [Env.lent] at h
theorem Aap {b o:Nat}(h:E.lent.mt b o):E.fr b o:=by
 rcases h with h | ⟨i,s,h⟩ | ⟨t,l,c,s,h,_⟩
 ·exact h
 ·simp [Env.lent] at h
 ·simp [Env.lent] at h
theorem Inv.lent (hI:Inv X E S w):Inv X E.lent ⟨[],[]⟩ w where
 nb:=rfl
 nt:=rfl
 np i hi:=by simp [Env.lent] at hi
 box i b sz rows h:=by simp [Env.lent] at h
 tok t l b c sz h:=by simp [Env.lent] at h
 bb i j b s s' h:=by simp [Env.lent] at h
 bt i t b s l c sz h:=by simp [Env.lent] at h
 tt i j b l c s l' c' s' h:=by simp [Env.lent] at h
 frlt b o h:=⟨Jl,(hI.frlt b o h).2⟩
 lo b h:=absurd h Jl
 frlo:=hI.frlo
 sz:=hI.sz
 glob:=hI.glob
theorem Fz.lent (hI:Inv X E S w){x y:AV}(h:Fz S 0 0 x y){v:Value}(hx:Rel E w v x):Rel E.lent w v y:=by
 have h1:=h.rel hI hx
 have h2:=h1.ok
 refine h1.env (by simpa [Env.drop] using h2) fun b o h=>.inl (Aap h)
def Env.gain (E E1:Env):Env:=⟨E.boxes++E1.boxes,E.toks,E.fr,E.df⟩
theorem Lo {j:Nat}{q:Nat × Nat}(h:(E.gain E1).boxes[j]?=some (some q)):E.boxes[j]?=some (some q)∨(E.boxes.length≤j∧E1.boxes[j-E.boxes.length]?=some (some q)):=by
 simp only [Env.gain] at h
 rcases Nat.lt_or_ge j E.boxes.length with hj | hj
 ·rw [List.getElem?_append_left hj] at h;exact .inl h
 ·rw [List.getElem?_append_right hj] at h;exact .inr ⟨hj,h⟩
theorem Vp (hI:Inv X E S w)(hI1:Inv X E1 S1 w')(ev:Evol E.lent w E1 w' 0 0){bx:List (List (List AV))}(hsh:ShB E.boxes.length S1.boxes bx) :
 Evol E w (E.gain E1) w' E.boxes.length E.toks.length∧Inv X (E.gain E1) ⟨S.boxes++bx,S.toks⟩ w':=by
 have hfar:∀ {b:Nat},b<w.heap.size→w'.heap[b]?=w.heap[b]?:=fun {b} h=>ev.block b h Jl
 have hge:∀ {b j s:Nat},E1.boxes[j]?=some (some (b,s))→w.heap.size≤b:=fun {b j s} h=>by
  rcases Nat.lt_or_ge b w.heap.size with h' | h'
  ·exact absurd (ev.own b h' (.inl ⟨j,s,h⟩)) Jl
  ·exact h'
 have hownx:∀ {b:Nat},(E.gain E1).own b→E.own b∨∃ j s,E1.boxes[j]?=some (some (b,s)):=fun {b} h=>by
  rcases h with ⟨j,s,h⟩ | h
  ·rcases Lo h with h | ⟨_,h⟩
   ·exact .inl (.inl ⟨j,s,h⟩)
   ·exact .inr ⟨_,s,h⟩
  ·exact .inl (.inr h)
 have ev2:Evol E w (E.gain E1) w' E.boxes.length E.toks.length:=by
  refine ⟨rfl,fun j hj hl=>⟨by simp [Env.gain];omega,fun x hx=>by simp only [Env.gain];rw [List.getElem?_append_left hl];exact hx⟩,fun t ht k hk=>⟨k,hk,.inl rfl⟩,ev.os,ev.tape,ev.output,ev.size,fun b hb _=>hfar hb,
   fun b o v hm hc=>?_,fun b o hb h=>?_,fun b hb h=>?_,rfl,ev.ty,fun _ _ _ b _ _ _ _ o ho=>by rw [hfar (Jp ho)];exact ho⟩
  ·have hb:=Gm hc
   unfold World.cell? at hc ⊢
   rw [hfar hb];exact hc
  ·rcases h with h | ⟨j,s,h⟩ | h
   ·exact .inl h
   ·rcases Lo h with h | ⟨_,h⟩
    ·exact .inr (.inl ⟨j,s,h⟩)
    ·have:=hge h;omega
   ·exact .inr (.inr h)
  ·rcases hownx h with h | ⟨j,s,h⟩
   ·exact h
   ·have:=hge h;omega
 refine ⟨ev2,?_⟩
 have hnb:=hI.nb
 have hnb1:=hI1.nb
 have hsl:=hsh.1
 exact {
  nb:=by simp [Env.gain];omega
  nt:=hI.nt
  np:=fun j hj=>by
   simp only [Env.gain,List.length_append] at hj ⊢
   rcases Nat.lt_or_ge j E.boxes.length with h | h
   ·rw [List.getElem?_append_left h];exact hI.np j h
   ·rw [List.getElem?_append_right h];exact hI1.np _ (by omega)
  box:=fun j b s rows' h1 h2=>by
   simp only at h2
   rcases Lo h1 with h1 | ⟨hj,h1⟩
   ·have:=Aa h1
    rw [List.getElem?_append_left (by omega)] at h2
    obtain ⟨cs',e',hh',hs',hl',hr'⟩:=hI.box j b s rows' h1 h2
    exact ⟨cs',e',(hfar (hI.own_lt (.inl ⟨j,s,h1⟩))).trans hh',hs',hl',fun k r q x v h3 h4 h5=>(hr' k r q x v h3 h4 h5).step ev2⟩
   ·rw [List.getElem?_append_right (by omega),← hnb] at h2
    obtain ⟨rows,hrw⟩:=Ab S1.boxes (i:=j-E.boxes.length) (by have:=Aa h1;omega)
    obtain ⟨cs,e,hh,hs,hl,hr⟩:=hI1.box _ b s rows h1 hrw
    obtain ⟨hrl,hrr⟩:=hsh.2 _ _ _ hrw h2
    refine ⟨cs,e,hh,by rw [hrl];exact hs,fun r hr'=>?_,fun k r q x v h3 h4 h5=>?_⟩
    ·obtain ⟨k,hk⟩:=A3 hr'
     obtain ⟨r0,hr0⟩:=Ab rows (i:=k) (by have:=Aa hk;omega)
     rw [(hrr k r0 r hr0 hk).get.1]
     exact hl r0 (List.mem_of_getElem? hr0)
    ·obtain ⟨r0,hr0⟩:=Ab rows (i:=k) (by have:=Aa h3;omega)
     have hrl2:=(hrr k r0 r hr0 h3).get
     obtain ⟨x0,hx0⟩:=Ab r0 (i:=q) (by have:=Aa h4;omega)
     refine (hrl2.2 q x0 x hx0 h4).rel (fun b' q' hb'=>?_) (hr k r0 q x0 v hr0 hx0 h5)
     simp only [Env.gain]
     rw [List.getElem?_append_right (by omega)]
     simpa using hb'
  tok:=fun t l b c s h=>by
   obtain ⟨h1,h0,cs,e,hh,hs⟩:=hI.tok t l b c s h
   exact ⟨h1,h0,cs,e,(hfar (hI.own_lt (.inr ⟨t,l,c,s,h⟩))).trans hh,hs⟩
  bb:=fun i j b s s' h1 h2=>by
   rcases Lo h1 with h1 | ⟨hi,h1⟩<;>rcases Lo h2 with h2 | ⟨hj,h2⟩
   ·exact hI.bb i j b s s' h1 h2
   ·have:=hge h2;have:=hI.own_lt (.inl ⟨i,s,h1⟩);omega
   ·have:=hge h1;have:=hI.own_lt (.inl ⟨j,s',h2⟩);omega
   ·have:=hI1.bb _ _ b s s' h1 h2;omega
  bt:=fun i t b s l c sz' h1 h2=>by
   rcases Lo h1 with h1 | ⟨hi,h1⟩
   ·exact hI.bt i t b s l c sz' h1 h2
   ·have:=hge h1;have:=hI.own_lt (.inr ⟨t,l,c,sz',h2⟩);omega
  tt:=hI.tt
  frlt:=fun b o h=>⟨fun h'=>by
   rcases hownx h' with h' | ⟨j,s,h'⟩
   ·exact (hI.frlt b o h).1 h'
   ·have:=(hI.frlt b o h).2;have:=hge h';omega,Nat.lt_of_lt_of_le (hI.frlt b o h).2 ev.size⟩
  lo:=fun b h=>by
   rcases hownx h with h | ⟨j,s,h⟩
   ·exact hI.lo b h
   ·exact hI1.lo b (.inl ⟨j,s,h⟩)
  frlo:=hI.frlo
  sz:=hI1.sz
  glob:=hI1.glob }
def Gives (X:Cx)(f:FuncId)(args:List AV)(P:AV→List (List (List AV))→Prop):Prop :=
 Jh X.P f∧ACalls X f args ⟨[],[]⟩ fun e S'=>∃ r,e=.ret r∧P r S'.boxes
theorem Gives.mk {f:FuncId}{fn:Func}{c:Code}{args:List AV}{P:AV→List (List (List AV))→Prop}(hf:X.P.funcs[f]?=some fn)(hb:fn.body=some c)(hl:Nat.ble args.length fn.ntmps=true)(hnm:(fn.name == "runtime.NumGoroutine")=false)
 (h:AK X ⟨f,fn,0,0⟩ [.code c] (J8 0 args) ⟨[],[]⟩ fun e S'=>∃ r,e=.ret r∧P r S'.boxes):Gives X f args P :=
 ⟨⟨fn,hf,hnm,by rw [hb];rfl⟩,Ge (n:=0) (m:=0) (hh:=fun C S' hx=>by obtain ⟨r,hx,_⟩:=hx;cases hx) hf hb hl rfl rfl h⟩
theorem Pure.gives {f:FuncId}{args:List AV}{r:AV}(h:Pure X f args r):Gives X f args fun r' bx=>r'=r∧bx=[] :=
 ⟨h.1,fun E w vs h1 h2 h3 h4=>(h.2 E w vs h1 h2 h3 h4).mono fun e w' ⟨E',S',g1,g2,g3⟩=>⟨E',S',g1,g2,by
   cases e with
   | returned v=>obtain ⟨r',h1,h2,rfl⟩:=g3;cases h2;exact ⟨_,h1,_,rfl,rfl,rfl⟩
   | panicked ch=>obtain ⟨h,_⟩:=g3;cases h
   | outgrown=>exact g3⟩⟩
theorem U6 {c:Call}{fo:Operand}{f:FuncId}{caps xs zs ys:List AV}{P:AV→List (List (List AV))→Prop}{F':Bs}(hc:Gives X f ys P)(hl:∀ t,t∈o.looksAt ops→lk F' t=lk F t)(hI:Inv X E S w)(hF:FR E w F' a N)
 (ho:ops[i]?=some o)(hw:As ops F o=some true)(hop:o.op=.call c)(hcal:c.callee=.value fo)(hfo:Cg X F fo=some (.fn f caps))(hx:Ej X F c.args.toList=some xs)(hzs:G0 xs caps=some zs)(ha:FzL S 0 0 zs ys) :
 Does X ops i a w fun v w'=>∃ r E1 S1,P r S1.boxes∧Inv X E1 S1 w'∧Evol E.lent w E1 w' 0 0∧Rel E1 w' v r:=by
 obtain ⟨l1,l2⟩:=Mj (X:=X) hop hcal hl
 have hz:=Ml hzs
 obtain ⟨vs,h1,h2,h3⟩:=Li hop hcal hc.1 hI hF (l1.trans hfo) (l2.trans hx)
 refine Does.call ho (Bj hF (by rw [Bw hl];exact hw)) h1 ((hc.2 E.lent w vs rfl hI.lent (by rw [h2,hz,ha.get.1]) (fun j v y hv hy=>?_)).mono fun e w' he=>?_)
 ·obtain ⟨x,hxj⟩:=Ab zs (i:=j) (by have:=Aa hy;rw [ha.get.1] at this;exact this)
  exact (ha.get.2 j x y hxj hy).lent hI (h3 j v x hv (by rw [hz];exact hxj))
 ·obtain ⟨E1,S1,d1,d2,d3⟩:=he
  cases e with
  | returned v =>
    obtain ⟨r',hr',r,hre,hP⟩:=d3
    cases hre
    exact ⟨v,rfl,_,E1,S1,hP,d1,d2,hr'⟩
  | panicked ch=>obtain ⟨r,h,_⟩:=d3;cases h
  | outgrown=>exact d3.elim
theorem Ndo.gv {c:Call}{fo:Operand}{f:FuncId}{caps xs zs ys:List AV}{r r':AV}{bx bx':List (List (List AV))}(hc:Gives X f ys fun r0 b0=>r0=r∧b0=bx)(ha:FzL S 0 0 zs ys)(hr:Sh S.boxes.length r r')(hb:ShB S.boxes.length bx bx')
 (ho:ops[i]?=some o:=by rfl)(hw:As ops F o=some true:=by rfl)(hop:o.op=.call c:=by rfl)(hcal:c.callee=.value fo:=by rfl)(hfo:Cg X F fo=some (.fn f caps):=by rfl)(hx:Ej X F c.args.toList=some xs:=by rfl)(hzs:G0 xs caps=some zs:=by rfl) :
 Ndo X N ops i o F r' S ⟨S.boxes++bx',S.toks⟩:=by
 intro F' E w a hl hI hF
 obtain hd:=U6 hc hl hI hF ho hw hop hcal hfo hx hzs ha
 intro b k cs rest
 obtain ⟨v,w',⟨r0,E1,S1,⟨rfl,rfl⟩,d1,d2,d3⟩,hst⟩:=hd b k cs rest
 have nb:=hI.nb
 obtain ⟨g1,g2⟩:=Vp hI d1 d2 (by rw [nb];exact hb)
 refine ⟨v,w',⟨_,g2,g1,hr.rel (fun b' q hq=>?_) d3⟩,hst⟩
 simp only [Env.gain]
 rw [List.getElem?_append_right (by omega)]
 rw [← nb,Nat.add_sub_cancel];exact hq
theorem Ait {c:Call}{fo:Operand}{f:FuncId}{caps xs zs ys:List AV}{r r':AV}(hc:Pure X f ys r)(ha:FzL S 0 0 zs ys)(hr:Sh S.boxes.length r r')
 (ho:ops[i]?=some o:=by rfl)(hw:As ops F o=some true:=by rfl)(hop:o.op=.call c:=by rfl)(hcal:c.callee=.value fo:=by rfl)(hfo:Cg X F fo=some (.fn f caps):=by rfl)(hx:Ej X F c.args.toList=some xs:=by rfl)(hzs:G0 xs caps=some zs:=by rfl) :
 Ndo X N ops i o F r' S S:=by
 have h:=Ndo.gv (X:=X) (N:=N) (F:=F) (S:=S) (i:=i) (bx:=[]) (bx':=[]) hc.gives ha hr ⟨rfl,fun i x y hx=>by simp at hx⟩ ho hw hop hcal hfo hx hzs
 rw [List.append_nil] at h
 exact h
theorem AK.gv {l:List Nat}{k:List Item}{c:Call}{fo:Operand}{f:FuncId}{caps xs zs ys:List AV}{P:AV→List (List (List AV))→Prop}(hc:Gives X f ys P)(ha:FzL S 0 0 zs ys)
 (hk:∀ r bx,P r bx→∃ r' bx',Sh S.boxes.length r r'∧ShB S.boxes.length bx bx'∧AK X B (.inRegion ops l::k) (putF o.dst r' F) ⟨S.boxes++bx',S.toks⟩ R)(ho:ops[i]?=some o:=by rfl)(hw:As ops F o=some true:=by rfl)(hop:o.op=.call c:=by rfl)
 (hcal:c.callee=.value fo:=by rfl)(hfo:Cg X F fo=some (.fn f caps):=by rfl)(hx:Ej X F c.args.toList=some xs:=by rfl)(hzs:G0 xs caps=some zs:=by rfl)(hd:Ci B.fn.ntmps o.dst=true:=by rfl) :
 AK X B (.inRegion ops (i::l)::k) F S R:=by
 intro E w a b cs hI hF hn hm hb
 have nt:E.toks.length=S.toks.length:=by rw [← hI.nt];simp
 have nb:=hI.nb
 obtain ⟨v,w',⟨r0,E1,S1,hP,d1,d2,d3⟩,hst⟩:=U6 (F':=F) hc (fun _ _=>rfl) hI hF ho hw hop hcal hfo hx hzs ha b k cs l
 obtain ⟨r',bx',hr,hbx,hK⟩:=hk _ _ hP
 obtain ⟨g1,g2⟩:=Vp hI d1 d2 (by rw [nb];exact hbx)
 have hF':=(hF.step g1).putF hd (hr.rel (E':=E.gain E1) (fun b' q hq=>by
  simp only [Env.gain]
  rw [List.getElem?_append_right (by omega)]
  rw [← nb,Nat.add_sub_cancel];exact hq) d3)
 rw [ho] at hst
 exact Fin.from hst (g1.weaken (by rw [hI.nb];exact hn) (by omega)) (hK _ w' _ b cs g2 hF' (by simp;omega) hm hb)
end
section
variable {X:Cx}{B:Bx}{E E1:Env}{S S1:St}{w w':World}{F:Bs}{a:Act}{N:Nat}{R:AE→St→Prop}{ops:Array Oper}{i:Nat}{o:Oper}
def Ub (m sz:Nat):List (List AV):=List.replicate m (List.replicate sz .junk)
theorem Ahy (m sz:Nat):∀ r,r∈Ub m sz→r.length=sz:=fun r h=>by rw [List.eq_of_mem_replicate h,List.length_replicate]
theorem Ako (hI:Inv X E S w){u:Value}{rows:List (List AV)}{t v:Nat}(h:Rel E w u (.psl rows t v))(hS:S.toks[t]?=some v)(hne:rows≠[]) :
 ∃ b c sz,E.toks[t]?=some ⟨v,some (b,c,0)⟩∧u=.slice (some ⟨b,0,none⟩) rows.length c∧rows.length≤c∧Yv E w b sz (rows++Ub (c-rows.length) sz):=by
 cases h with
 | psl _ _ _ a n cap k sz vals hn hx hcap hk hv hsz hp hr hf =>
   have hcur:=Rv hI hk hS
   have hp:=hp hcur
   obtain ⟨kl,ksp⟩:=k
   simp only at hcur
   subst hcur
   subst hn
   cases ksp with
   | none=>exact absurd (List.length_eq_zero_iff.1 hp.1) hne
   | some q =>
     obtain ⟨b,c,s⟩:=q
     obtain ⟨_,rfl,rfl,rfl,cs,e,hh,hcs,hcl⟩:=hp
     refine ⟨b,c,sz,hk,rfl,hcap,cs,e,hh,by rw [hcs,List.length_append,Ub,List.length_replicate];congr 1;omega,fun r hr'=>?_,fun k r j x v' hk' hj hv'=>?_⟩
     ·rcases List.mem_append.1 hr' with h | h
      ·exact hsz r h
      ·exact Ahy _ _ r h
     ·rcases Nat.lt_or_ge k rows.length with hlt | hge
      ·rw [List.getElem?_append_left hlt] at hk'
       have hjl:j<sz:=by rw [← hsz r (List.mem_of_getElem? hk')];exact Aa hj
       have:=hcl k j (Aa hk') hjl
       rw [this] at hv'
       cases hv'
       exact hr k j r x hk' hj
      ·rw [List.getElem?_append_right hge] at hk'
       rw [List.eq_of_mem_replicate (List.mem_of_getElem? hk')] at hj
       rw [List.eq_of_mem_replicate (List.mem_of_getElem? hj)]
       exact .junk v'
def Env.box1 (E:Env)(t v b sz:Nat):Env:=⟨E.boxes++[some (b,sz)],E.toks.set t ⟨v+1,none⟩,E.fr,E.df⟩
theorem Anj (hI:Inv X E S w){u:Value}{rows:List (List AV)}{t v:Nat}(h:Rel E w u (.psl rows t v))(hS:S.toks[t]?=some v)(hne:rows≠[]) :
 ∃ E' m sz,Evol E w E' w E.boxes.length E.toks.length∧Inv X E' ⟨S.boxes++[rows++Ub m sz],S.toks.set t (v+1)⟩ w∧(E'.boxes.take E.boxes.length=E.boxes)∧∀ u',Rel E w u' (.psl rows t v)→Rel E' w u' (.bsl S.boxes.length rows.length):=by
 obtain ⟨b,c,sz,hk,_,_,hbx⟩:=Ako hI h hS hne
 have nb:=hI.nb
 have hmtx:∀ {b' o:Nat},(E.box1 t v b sz).mt b' o→E.mt b' o:=fun {b' o} h=>by
  rcases h with h | ⟨j,s,h⟩ | ⟨t',l,c',s,h,hl⟩
  ·exact .inl h
  ·rcases getElem?_snoc h with h | ⟨_,h⟩
   ·exact .inr (.inl ⟨j,s,h⟩)
   ·cases h;exact .inr (.inr ⟨t,v,c,0,hk,by omega⟩)
  ·rcases Cv h with ⟨_,h⟩ | ⟨_,h⟩
   ·cases h
   ·exact .inr (.inr ⟨t',l,c',s,h,hl⟩)
 have hownx:∀ {b':Nat},(E.box1 t v b sz).own b'→E.own b':=fun {b'} h=>by
  rcases h with ⟨j,s,h⟩ | ⟨t',l,c',s,h⟩
  ·rcases getElem?_snoc h with h | ⟨_,h⟩
   ·exact .inl ⟨j,s,h⟩
   ·cases h;exact .inr ⟨t,v,c,0,hk⟩
  ·rcases Cv h with ⟨_,h⟩ | ⟨_,h⟩
   ·cases h
   ·exact .inr ⟨t',l,c',s,h⟩
 have ev:Evol E w (E.box1 t v b sz) w E.boxes.length E.toks.length:=by
  refine ⟨rfl,fun j hj hl=>⟨by simp [Env.box1];omega,fun x hx=>getElem?_snoc_left hx⟩,fun t' ht k hk'=>?_,rfl,rfl,rfl,Nat.le_refl _,fun _ _ _=>rfl,fun _ _ _ _ h=>h,fun _ _ _ h=>hmtx h,fun _ _ h=>hownx h,rfl,fun _ _ h=>h,fun _ _ _ _ _ _ _ _ _ h=>h⟩
  by_cases he:t'=t
  ·subst he
   rw [hk] at hk';cases hk'
   exact ⟨⟨v+1,none⟩,by simp [Env.box1,ht],.inr (by simp)⟩
  ·exact ⟨k,by simp only [Env.box1];rw [List.getElem?_set_ne (Ne.symm he)];exact hk',.inl rfl⟩
 have hbx':∀ {b' s:Nat} {rows':List (List AV)},Yv E w b' s rows'→Yv (E.box1 t v b sz) w b' s rows':=fun {b' s rows'} ⟨cs,e,h1,h2,h3,h4⟩=>⟨cs,e,h1,h2,h3,fun k r j x v' g1 g2 g3=>(h4 k r j x v' g1 g2 g3).step ev⟩
 refine ⟨E.box1 t v b sz,c-rows.length,sz,ev,?_,by simp [Env.box1],fun u' hu'=>?_⟩
 ·exact {
   nb:=by simp [Env.box1,nb]
   nt:=by simp only [Env.box1,List.map_set,hI.nt]
   np:=fun j hj=>by
    simp only [Env.box1,List.length_append,List.length_singleton] at hj ⊢
    rcases Nat.lt_or_ge j E.boxes.length with h | h
    ·rw [List.getElem?_append_left h];exact hI.np j h
    ·have:j=E.boxes.length:=by omega
     subst this;exact ⟨_,getElem?_snoc_new _ _⟩
   box:=fun j b' s rows' h1 h2=>by
    rcases getElem?_snoc h1 with h1 | ⟨hj,h1⟩
    ·rcases getElem?_snoc h2 with h2 | ⟨hj,_⟩
     ·exact hbx' (hI.box j b' s rows' h1 h2)
     ·have:=Aa h1;omega
    ·cases h1
     rcases getElem?_snoc h2 with h2 | ⟨_,h2⟩
     ·have:=Aa h2;omega
     ·subst h2;exact hbx' hbx
   tok:=fun t' l b' c' s h=>by
    rcases Cv h with ⟨_,h⟩ | ⟨_,h⟩
    ·cases h
    ·exact hI.tok t' l b' c' s h
   bb:=fun i j b' s s' h1 h2=>by
    rcases getElem?_snoc h1 with h1 | ⟨hi,h1⟩<;>rcases getElem?_snoc h2 with h2 | ⟨hj,h2⟩
    ·exact hI.bb i j b' s s' h1 h2
    ·cases h2;exact (hI.bt _ _ _ _ _ _ _ h1 hk).elim
    ·cases h1;exact (hI.bt _ _ _ _ _ _ _ h2 hk).elim
    ·omega
   bt:=fun i t' b' s l c' s' h1 h2=>by
    rcases Cv h2 with ⟨_,h2⟩ | ⟨ht,h2⟩
    ·cases h2
    ·rcases getElem?_snoc h1 with h1 | ⟨hi,h1⟩
     ·exact hI.bt i t' b' s l c' s' h1 h2
     ·cases h1;exact ht (hI.tt _ _ _ _ _ _ _ _ _ h2 hk)
   tt:=fun i j b' l c' s l' c'' s' h1 h2=>by
    rcases Cv h1 with ⟨_,h1⟩ | ⟨_,h1⟩
    ·cases h1
    ·rcases Cv h2 with ⟨_,h2⟩ | ⟨_,h2⟩
     ·cases h2
     ·exact hI.tt i j b' l c' s l' c'' s' h1 h2
   frlt:=fun b' o h=>⟨fun h'=>(hI.frlt b' o h).1 (hownx h'),(hI.frlt b' o h).2⟩
   lo:=fun b' h=>hI.lo b' (hownx h)
   frlo:=hI.frlo
   sz:=hI.sz
   glob:=hI.glob }
 ·obtain ⟨b2,c2,s2,hk2,rfl,hc2,_⟩:=Ako hI hu' hS hne
  rw [hk] at hk2
  cases hk2
  exact .bsl _ b sz _ c (by rw [← nb];exact getElem?_snoc_new _ _) hc2
theorem AK.ownB {K:List Item}(b r j:Nat){brows:List (List AV)}{cs:List AV}{rows:List (List AV)}{t v m n:Nat}{bx:List (List (List AV))}{tk:List Nat}(hne:rows≠[])(hk:∀ k sz,AK X B K F ⟨bx++[rows++Ub k sz],tk⟩ R)(hb:S.boxes[b]?=some brows:=by rfl)(hr:brows[r]?=some cs:=by rfl)
 (hc:cs[j]?=some (.psl rows t v):=by rfl)(hS:S.toks[t]?=some v:=by rfl)(hm:S.boxes.length=m:=by rfl)(hn:rows.length=n:=by rfl)(hbx:S.boxes.set b (brows.set r (cs.set j (.bsl m n)))=bx:=by rfl)(htk:S.toks.set t (v+1)=tk:=by rfl) :
 AK X B K F S R:=by
 subst hm;subst hn;subst hbx;subst htk
 intro E w a b' cs' hI hF hn hm hb'
 have hbl:=Aa hb
 have nb:=hI.nb
 obtain ⟨⟨blk,sz⟩,hB⟩:=hI.np b (by omega)
 obtain ⟨arr,e,hh,hs,hl,hrel0⟩:=hI.box b blk sz brows hB hb
 have hrl:=Aa hr
 have hjl:j<sz:=by rw [← hl cs (List.mem_of_getElem? hr)];exact Aa hc
 have hin:=Fl (sz:=sz) hrl hjl
 obtain ⟨u,hu⟩:=Hf arr (i:=r*sz+j) (by omega)
 have hur:=hrel0 r cs j _ u hr hc hu
 obtain ⟨E',k0,z0,ev,hI',hpre,hrel⟩:=Anj hI hur hS hne
 have nt:E.toks.length=S.toks.length:=by rw [← hI.nt];simp
 have hI2:Inv X E' ⟨S.boxes.set b (brows.set r (cs.set j (.bsl S.boxes.length rows.length)))++[rows++Ub k0 z0],S.toks.set t (v+1)⟩ w :=
  { hI' with
    nb:=by have:=hI'.nb;simpa using this
    box:=fun i blk' sz' rows' h1 h2=>by
     rcases Nat.lt_or_ge i S.boxes.length with hi | hi
     ·rw [List.getElem?_append_left (by simpa using hi)] at h2
      rcases Cv h2 with ⟨rfl,rfl⟩ | ⟨_,h2⟩
      ·have h3:=hI'.box i blk' sz' brows h1 (by rw [List.getElem?_append_left hi];exact hb)
       have h1o:E.boxes[i]?=some (some (blk',sz')):=by
        rw [← hpre,List.getElem?_take,if_pos (by omega)];exact h1
       rw [hB] at h1o;cases h1o
       obtain ⟨arr1,e1,g1,g2,g3,g4⟩:=h3
       rw [hh] at g1;cases g1
       refine ⟨arr,e,hh,by simpa using g2,fun q hq=>?_,fun k q p x v' hk' hp hv=>?_⟩
       ·rcases List.mem_or_eq_of_mem_set hq with hq | rfl
        ·exact g3 q hq
        ·simpa using g3 cs (List.mem_of_getElem? hr)
       ·rcases Cv hk' with ⟨rfl,rfl⟩ | ⟨_,hk'⟩
        ·rcases Cv hp with ⟨rfl,rfl⟩ | ⟨_,hp⟩
         ·rw [hu] at hv;cases hv;exact hrel _ hur
         ·exact g4 k cs p x v' hr hp hv
        ·exact g4 k q p x v' hk' hp hv
      ·exact hI'.box i blk' sz' rows' h1 (by rw [List.getElem?_append_left hi];exact h2)
     ·rw [List.getElem?_append_right (by simpa using hi)] at h2
      exact hI'.box i blk' sz' rows' h1 (by rw [List.getElem?_append_right hi];simpa using h2) }
 exact Fin.from (Steps.refl _ _) (ev.weaken (by rw [hI.nb];exact hn) (by omega)) (hk k0 z0 E' w a b' cs' hI2 (hF.step ev) (by simp;omega) (by simp;omega) hb')
def Runs (X:Cx)(f:FuncId)(args:List AV)(S:St)(P:AV→St→Prop):Prop :=
 Jh X.P f∧ACalls X f args S fun e S'=>∃ r,e=.ret r∧P r S'
theorem Runs.mk {f:FuncId}{fn:Func}{c:Code}{args:List AV}{P:AV→St→Prop}(hf:X.P.funcs[f]?=some fn)(hb:fn.body=some c)(hl:Nat.ble args.length fn.ntmps=true)(hnm:(fn.name == "runtime.NumGoroutine")=false)
 (h:AK X ⟨f,fn,S.boxes.length,S.toks.length⟩ [.code c] (J8 0 args) S fun e S'=>∃ r,e=.ret r∧P r S'):Runs X f args S P :=
 ⟨⟨fn,hf,hnm,by rw [hb];rfl⟩,Ge (n:=S.boxes.length) (m:=S.toks.length) (hh:=fun C S' hx=>by obtain ⟨r,hx,_⟩:=hx;cases hx) hf hb hl rfl rfl h⟩
def Env.all_ (E:Env):Env:=⟨E.boxes,E.toks,E.fr,[]⟩
theorem Rel.df {E E':Env}{v:Value}{x:AV}(h:Rel E w v x)(hb:E'.boxes=E.boxes)(ht:E'.toks=E.toks)(hf:E'.fr=E.fr):Rel E' w v x:=by
 refine h.move (n:=E.boxes.length) (m:=E.toks.length) (fun i _ hi=>by rw [hb];exact ⟨hi,fun x h=>h⟩) (fun t _ k hk=>⟨k,by rw [ht];exact hk,.inl rfl⟩) (fun _ _ _ _ h=>h) (fun b o _ h=>?_) (fun _ _ h=>h) (fun _ _ _ _ _ _ _ _ _ h=>h) h.ok
 unfold Env.mt at h ⊢
 rw [hb,ht,hf] at h;exact h
theorem Inv.df {E':Env}(h:Inv X E S w)(hb:E'.boxes=E.boxes)(ht:E'.toks=E.toks)(hf:E'.fr=E.fr):Inv X E' S w where
 nb:=by rw [hb];exact h.nb
 nt:=by rw [ht];exact h.nt
 np:=by rw [hb];exact h.np
 box i b sz rows h1 h2:=by
  rw [hb] at h1
  obtain ⟨cs,e,g1,g2,g3,g4⟩:=h.box i b sz rows h1 h2
  exact ⟨cs,e,g1,g2,g3,fun k r j x v a1 a2 a3=>(g4 k r j x v a1 a2 a3).df hb ht hf⟩
 tok:=by rw [ht];exact h.tok
 bb:=by rw [hb];exact h.bb
 bt:=by rw [hb,ht];exact h.bt
 tt:=by rw [ht];exact h.tt
 frlt b o g:=by
  have:=h.frlt b o (by rw [← hf];exact g)
  unfold Env.own at this ⊢
  rw [hb,ht];exact this
 lo b g:=h.lo b (by unfold Env.own at g ⊢;rw [← hb,← ht];exact g)
 frlo b o g:=h.frlo b o (by rw [← hf];exact g)
 sz:=h.sz
 glob:=h.glob
theorem AK.ha {l:List Nat}{k:List Item}{c:Call}{fo:Operand}{f:FuncId}{caps xs zs:List AV}{P:AV→St→Prop}(hc:Runs X f zs S P)(hk:∀ r S',P r S'→S.boxes.length≤S'.boxes.length→S.toks.length≤S'.toks.length→AK X B (.inRegion ops l::k) (putF o.dst r F) S' R)
 (ho:ops[i]?=some o:=by rfl)(hw:As ops F o=some true:=by rfl)(hop:o.op=.call c:=by rfl)
 (hcal:c.callee=.value fo:=by rfl)(hfo:Cg X F fo=some (.fn f caps):=by rfl)(hx:Ej X F c.args.toList=some xs:=by rfl)(hzs:G0 xs caps=some zs:=by rfl)(hd:Ci B.fn.ntmps o.dst=true:=by rfl) :
 AK X B (.inRegion ops (i::l)::k) F S R:=by
 intro E w a b cs hI hF hn hm hb
 have nt:E.toks.length=S.toks.length:=by rw [← hI.nt];simp
 have nb:=hI.nb
 have hz:=Ml hzs
 obtain ⟨vs,h1,h2,h3⟩:=Li hop hcal hc.1 hI hF hfo hx
 have hdo:Does X ops i a w fun v w'=>∃ r E' S',P r S'∧Inv X E' S' w'∧Evol E w E' w' E.boxes.length E.toks.length∧Rel E' w' v r:=by
  refine Does.call ho (Bj hF hw) h1 ((hc.2 E.all_ w vs rfl (hI.df rfl rfl rfl) (by rw [h2,hz]) (fun j v y hv hy=>?_)).mono fun e w' he=>?_)
  ·exact (h3 j v y hv (by rw [hz];exact hy)).df rfl rfl rfl
  ·obtain ⟨E1,S1,d1,d2,d3⟩:=he
   cases e with
   | returned v =>
     obtain ⟨r',hr',r,hre,hP⟩:=d3
     cases hre
     have ev:Evol E w ⟨E1.boxes,E1.toks,E1.fr,E.df⟩ w' E.boxes.length E.toks.length:=by
      have d2':=d2
      rw [← nb,← nt] at d2'
      exact { d2' with df:=rfl }
     exact ⟨v,rfl,_,⟨E1.boxes,E1.toks,E1.fr,E.df⟩,S1,hP,d1.df rfl rfl rfl,ev,hr'.df rfl rfl rfl⟩
   | panicked ch=>obtain ⟨r,h,_⟩:=d3;cases h
   | outgrown=>exact d3.elim
 obtain ⟨v,w',⟨r,E',S',hP,g1,g2,g3⟩,g4⟩:=hdo b k cs l
 have hF':=(hF.step g2).putF hd g3
 have hlen:=g2.len
 have nt':E'.toks.length=S'.toks.length:=by rw [← g1.nt];simp
 have nb':=g1.nb
 rw [ho] at g4
 exact Fin.from g4 (g2.weaken (by omega) (by omega)) (hk r S' hP (by omega) (by omega) E' w' _ b cs g1 hF' (by omega) (by omega) hb)
end
section
variable {X:Cx}{B:Bx}{S:St}{F:Bs}{R:AE→St→Prop}
theorem AK.whileK {c:Code}{k:List Item}{ι:Type}(I:ι→Prop)(st:ι→Bs)(ss:ι→St)(μ:ι→Nat)
 (hstep:∀ i,I i→(∀ j,I j→μ j<μ i→∀ F' S',Sub (st j) F'→S'=ss j→AK X B (.inLoop c::k) F' S' R)→AK X B (.code c::.inLoop c::k) (st i) (ss i) R)
 (i0:ι)(h0:I i0)(hF:Sub (st i0) F)(hS:S=ss i0):AK X B (.code (.loop c)::k) F S R:=by
 have key:∀ (q:Nat) (i:ι),μ i<q→I i→AK X B (.code c::.inLoop c::k) (st i) (ss i) R:=by
  intro q
  induction q with
  | zero=>intro i h;omega
  | succ q ih =>
    intro i h hi
    refine hstep i hi fun j hj hlt F' S' h1 h2=>?_
    subst h2
    exact Aan (AK.sub h1 (ih j (by omega) hj))
 subst hS
 exact AK.loop (AK.sub hF (key _ i0 (Nat.lt_succ_self _) h0))
section
variable {ops:Array Oper}{i:Nat}{o:Oper}{l:List Nat}{k K:List Item}{F':Bs}{S2:St}{p q:Operand}
def Ati (X:Cx)(F:Bs):List Item→Bool
 | .inRegion ops (i::_)::_=>match ops[i]? with
   | some o=>match o.op with
     | .alloc _=>true
     | .box _ _=>true
     | .store _ p _=>match Cg X F p with
       | some (.ptr _ _ _)=>true
       | _=>false
     | .load _ p=>match Cg X F p with
       | some (.ptr _ _ _)=>true
       | _=>false
     | _=>false
   | none=>true
 | _=>false
def ev0 (X:Cx)(N:Nat):Nat→List Item→Bs→St→List Item × Bs × St
 | 0,K,F,S=>(K,F,S)
 | n+1,K,F,S=>match Ati X F K with
   | true=>(K,F,S)
   | false=>match Go.V.ev X N 1 K F S with
     | (K',F',S')=>ev0 X N n K' F' S'
theorem AK.e0 {K':List Item}{F':Bs}{S':St}:∀ (n:Nat){K:List Item}{F:Bs}{S:St},ev0 X B.fn.ntmps n K F S=(K',F',S')→AK X B K' F' S' R→AK X B K F S R
 | 0,K,F,S,h,hk=>by simp only [ev0] at h;cases h;exact hk
 | n+1,K,F,S,h,hk=>by
   simp only [ev0] at h
   split at h
   ·cases h;exact hk
   ·rcases hq:Go.V.ev X B.fn.ntmps 1 K F S with ⟨K1,F1,S1⟩
    rw [hq] at h
    exact AK.ev 1 hq (AK.e0 n h hk)
theorem AK.alE {t b:Nat}{y:Ty}{bx:List (List (List AV))}(hb:S.boxes.length=b)(hbx:S.boxes++[[y.zero]]=bx)(hk:AK X B K F' S2 R)(ho:ops[i]?=some o:=by rfl)(hw:As ops F o=some true:=by rfl)(hop:o.op=.alloc t:=by rfl)(hy:X.ty t=some y:=by rfl)
 (hd:Ci B.fn.ntmps o.dst=true:=by rfl)(he:ev0 X B.fn.ntmps 60 (.inRegion ops l::k) (putF o.dst (.ptr b 0 0) F) ⟨bx,S.toks⟩=(K,F',S2):=by rfl):AK X B (.inRegion ops (i::l)::k) F S R:=by
 subst hb;subst hbx
 refine AK.nd (Ix ho hw ?_) ho hd (AK.e0 60 he hk)
 rw [hop]
 obtain ⟨y1,y2,y3,y4⟩:=y
 simp only [Ht,hy,Ov,Hc]
theorem AK.boE {t b:Nat}{x:AV}{cs:List AV}{bx:List (List (List AV))}(hb:S.boxes.length=b)(hbx:S.boxes++[[cs]]=bx)(hk:AK X B K F' S2 R)(ho:ops[i]?=some o:=by rfl)(hw:As ops F o=some true:=by rfl)(hop:o.op=.box t p:=by rfl)(hp:Cg X F p=some x:=by rfl)(hc:cellsOf x=some cs:=by rfl)
 (hd:Ci B.fn.ntmps o.dst=true:=by rfl)(he:ev0 X B.fn.ntmps 60 (.inRegion ops l::k) (putF o.dst (.ptr b 0 0) F) ⟨bx,S.toks⟩=(K,F',S2):=by rfl):AK X B (.inRegion ops (i::l)::k) F S R:=by
 subst hb;subst hbx
 refine AK.nd (Ix ho hw ?_) ho hd (AK.e0 60 he hk)
 rw [hop]
 simp only [Ht,hp,hc,Ov,Hc]
theorem AK.stF {t b r f:Nat}{y:Ty}{x:AV}{xs cs cs':List AV}{rows:List (List AV)}{bx:List (List (List AV))}(hb:S.boxes[b]?=some rows)(hr:rows[r]?=some cs)(hbx:S.boxes.set b (rows.set r cs')=bx)(hk:AK X B K F' S2 R)(ho:ops[i]?=some o:=by rfl)(hw:As ops F o=some true:=by rfl)
 (hop:o.op=.store t p q:=by rfl)(hp:Cg X F p=some (.ptr b r f):=by rfl)(hq:Cg X F q=some x:=by rfl)(hy:X.ty t=some y:=by rfl)(hc:cellsOf x=some xs:=by rfl)(hl:Nat.beq xs.length y.size=true:=by rfl)
 (hput:∀ g:List AV→Option St,Rm cs f xs g=g cs':=by intro;rfl)(hd:Ci B.fn.ntmps o.dst=true:=by rfl)(he:ev0 X B.fn.ntmps 60 (.inRegion ops l::k) (putF o.dst .junk F) ⟨bx,S.toks⟩=(K,F',S2):=by rfl):AK X B (.inRegion ops (i::l)::k) F S R:=by
 subst hbx
 refine AK.nd (Ndo.store ho hw hop hy hp hq ?_) ho hd (AK.e0 60 he hk)
 obtain ⟨bx,tk⟩:=S
 simp only at hb
 simp only [Qk,hc,hl,Gp,hb,hr,hput]
 rw [Rn _ _ _ _ (Aa hr),Rn _ _ _ _ (Aa hb)]
theorem AK.ldF {t b r f:Nat}{y:Ty}{x:AV}{cs:List AV}{rows:List (List AV)}(hb:S.boxes[b]?=some rows)(hr:rows[r]?=some cs)(hk:AK X B K F' S2 R)(ho:ops[i]?=some o:=by rfl)(hw:As ops F o=some true:=by rfl)
 (hop:o.op=.load t p:=by rfl)(hp:Cg X F p=some (.ptr b r f):=by rfl)(hy:X.ty t=some y:=by rfl)(hx:(N3 f cs fun c=>L1 y.size c fun c'=>Ui (El y.k) c')=some x:=by rfl)
 (hd:Ci B.fn.ntmps o.dst=true:=by rfl)(he:ev0 X B.fn.ntmps 60 (.inRegion ops l::k) (putF o.dst x F) S=(K,F',S2):=by rfl):AK X B (.inRegion ops (i::l)::k) F S R:=by
 refine AK.nd (Ndo.ev ho hw ?_) ho hd (AK.e0 60 he hk)
 rw [hop]
 simp only [Cj,Ou,hy,hp,T4,Gp,hb,hr]
 exact hx
theorem AK.atE {t e b n:Nat}{ik:IntKind}{y ye:Ty}{rows:List (List AV)}{r:List AV}(j:Nat)(hj:j<n)(hb:S.boxes[b]?=some rows)(hr:rows[j]?=some r)(hl:r.length=ye.size)(hk:AK X B K F' S2 R)(ho:ops[i]?=some o:=by rfl)(hw:As ops F o=some true:=by rfl)
 (hop:o.op=.indexAddr t p q:=by rfl)(hp:Cg X F p=some (.bsl b n):=by rfl)(hq:Cg X F q=some (.val (.int ik j)):=by rfl)(hy:X.ty t=some y:=by rfl)(hyk:y.k=.slc e:=by rfl)(hye:X.ty e=some ye:=by rfl)
 (hd:Ci B.fn.ntmps o.dst=true:=by rfl)(he:ev0 X B.fn.ntmps 60 (.inRegion ops l::k) (putF o.dst (.ptr b j 0) F) S=(K,F',S2):=by rfl):AK X B (.inRegion ops (i::l)::k) F S R :=
 AK.nd (Ha (j:=j) ho hw hop hp hq hy hyk hye (by simpa [Nat.blt_eq] using hj) hb hr hl) ho hd (AK.e0 60 he hk)
theorem Aeg {N t b r f:Nat}{y:Ty}{x:AV}{cs:List AV}{rows:List (List AV)}(hb:S.boxes[b]?=some rows)(hr:rows[r]?=some cs)(ho:ops[i]?=some o:=by rfl)(hw:As ops F o=some true:=by rfl)
 (hop:o.op=.load t p:=by rfl)(hp:Cg X F p=some (.ptr b r f):=by rfl)(hy:X.ty t=some y:=by rfl)(hx:(N3 f cs fun c=>L1 y.size c fun c'=>Ui (El y.k) c')=some x:=by rfl):Ndo X N ops i o F x S S:=by
 refine Ndo.ev ho hw ?_
 rw [hop]
 simp only [Cj,Ou,hy,hp,T4,Gp,hb,hr]
 exact hx
theorem AK.no0 {t:Nat}{x y:Code}{e:Bool}(h2:AK X B K F' S2 R)(hc:lk F t=some (.val (.bool e)):=by rfl)
 (he2:ev0 X B.fn.ntmps 60 (.code y::k) ((t,.lit false)::F) S=(K,F',S2):=by rfl)(ht:e=false:=by rfl):AK X B (.code (.cond (.tmp t) x y)::k) F S R :=
 AK.cond hc (fun h=>by rw [ht] at h;cases h) (fun _=>AK.e0 60 he2 h2)
theorem AK.gn0 {t j:Nat}{want e:Bool}{oj:Oper}(h2:AK X B K F' S2 R)(ho:ops[i]?=some o:=by rfl)(hg:o.guard=some (j,want):=by rfl)
 (hj:ops[j]?=some oj:=by rfl)(hd:oj.dst=some t:=by rfl)(hc:lk F t=some (.val (.bool e)):=by rfl)(he2:ev0 X B.fn.ntmps 60 (.inRegion ops (i::l)::k) ((t,.lit false)::F) S=(K,F',S2):=by rfl)(ht:e=false:=by rfl) :
 AK X B (.inRegion ops (i::l)::k) F S R :=
 AK.part hc (fun h=>by rw [ht] at h;cases h) (fun _=>AK.e0 60 he2 h2)
theorem AK.pc0 {c:Call}{fo:Operand}{f:FuncId}{caps xs zs ys:List AV}{r:AV}(hc:Pure X f ys r)(hk:AK X B K F' S2 R)(ho:ops[i]?=some o:=by rfl)(hw:As ops F o=some true:=by rfl)
 (hop:o.op=.call c:=by rfl)(hcal:c.callee=.value fo:=by rfl)(hfo:Cg X F fo=some (.fn f caps):=by rfl)(hx:Ej X F c.args.toList=some xs:=by rfl)(hzs:G0 xs caps=some zs:=by rfl)
 (hd:Ci B.fn.ntmps o.dst=true:=by rfl) [hs:RinL [] [] zs ys] [hok:OK 0 0 r](he:ev0 X B.fn.ntmps 60 (.inRegion ops l::k) (putF o.dst r F) S=(K,F',S2):=by rfl):AK X B (.inRegion ops (i::l)::k) F S R :=
 AK.nd (Ndo.pc hc ho hw hop hcal hfo hx hzs hok.ok) ho hd (AK.e0 60 he hk)
theorem AK.pz0 {c:Call}{fo:Operand}{f:FuncId}{caps xs zs ys:List AV}{r r':AV}(hc:Pure X f ys r)(ha:FzL S 0 0 zs ys)(hr:Sh S.boxes.length r r')(hk:AK X B K F' S2 R)(ho:ops[i]?=some o:=by rfl)(hw:As ops F o=some true:=by rfl)
 (hop:o.op=.call c:=by rfl)(hcal:c.callee=.value fo:=by rfl)(hfo:Cg X F fo=some (.fn f caps):=by rfl)(hx:Ej X F c.args.toList=some xs:=by rfl)(hzs:G0 xs caps=some zs:=by rfl)
 (hd:Ci B.fn.ntmps o.dst=true:=by rfl)(he:ev0 X B.fn.ntmps 60 (.inRegion ops l::k) (putF o.dst r' F) S=(K,F',S2):=by rfl):AK X B (.inRegion ops (i::l)::k) F S R :=
 AK.nd (Ait hc ha hr ho hw hop hcal hfo hx hzs) ho hd (AK.e0 60 he hk)
theorem Drv.z0 {N em:Nat}{bs:List Nat}{Hs:List St}{pend:List Gl}(hk:AK X B K F' S2 R)(he:ev0 X B.fn.ntmps 60 k F S=(K,F',S2):=by rfl):Drv X N ops bs em [] i F S Hs pend fun F1 S1=>AK X B k F1 S1 R :=
 AK.e0 60 he hk
end
theorem Gives.run {f:FuncId}{fn:Func}{c:Code}{args:List AV}{P:AV→List (List (List AV))→Prop}{K:List Item}{F':Bs}{S2:St}(hf:X.P.funcs[f]?=some fn)(h:AK X ⟨f,fn,0,0⟩ K F' S2 fun e S'=>∃ r,e=.ret r∧P r S'.boxes)(hb:fn.body=some c:=by rfl)
 (hl:Nat.ble args.length fn.ntmps=true:=by rfl)(hnm:(fn.name == "runtime.NumGoroutine")=false:=by kernel_rfl)
 (he:Go.V.ev X fn.ntmps 200 [.code c] (J8 0 args) ⟨[],[]⟩=(K,F',S2):=by rfl):Gives X f args P:=Gives.mk hf hb hl hnm (AK.ev 200 he h)
theorem Runs.run {f:FuncId}{fn:Func}{c:Code}{args:List AV}{P:AV→St→Prop}{K:List Item}{F':Bs}{S2:St}(hf:X.P.funcs[f]?=some fn)(h:AK X ⟨f,fn,S.boxes.length,S.toks.length⟩ K F' S2 fun e S'=>∃ r,e=.ret r∧P r S')(hb:fn.body=some c:=by rfl)
 (hl:Nat.ble args.length fn.ntmps=true:=by rfl)(hnm:(fn.name == "runtime.NumGoroutine")=false:=by kernel_rfl)
 (he:ev0 X fn.ntmps 60 [.code c] (J8 0 args) S=(K,F',S2):=by rfl):Runs X f args S P:=Runs.mk hf hb hl hnm (AK.e0 60 he h)
end
end Go.V
namespace Go.V
open Go Go.Proofs
def Al1 (q:Bool)(x:Nd)(r:List AV)(c:Nat):Prop :=
 ∃ a1 a2 a3:Value,r=[.val a1,.val a2,.val a3,.bsl c x.kids.length]∧(q=true→[AV.val a1,.val a2,.val a3]=[vi x.kind,str x.name,vi x.num])
mutual
def Tr (q:Bool)(lo hi:Nat)(bx:List (List (List AV)))(b:Nat):Nd→Prop
 | .mk _ _ _ ks=>(lo≤b∧b<hi)∧∃ rows,bx[b]?=some rows∧TRl q lo hi bx rows ks
def TRl (q:Bool)(lo hi:Nat)(bx:List (List (List AV))):List (List AV)→List Nd→Prop
 | [],[]=>True
 | r::rs,x::l=>(∃ c,Al1 q x r c∧Tr q lo hi bx c x)∧TRl q lo hi bx rs l
 | _,_=>False
end
theorem Im {q:Bool}{lo hi:Nat}{bx:List (List (List AV))}{b:Nat}{n:Nd}:Tr q lo hi bx b n↔(lo≤b∧b<hi)∧∃ rows,bx[b]?=some rows∧TRl q lo hi bx rows n.kids:=by cases n;simp [Tr,Nd.kids]
theorem O4 {q:Bool}{lo hi:Nat}{bx:List (List (List AV))}:∀ {rs:List (List AV)}{l:List Nd},TRl q lo hi bx rs l→rs.length=l.length
 | [],[],_=>rfl
 | r::rs,x::l,h=>by simp only [TRl] at h;simp [O4 h.2]
 | [],_::_,h=>by simp [TRl] at h
 | _::_,[],h=>by simp [TRl] at h
theorem Mh {q:Bool}{lo hi:Nat}{bx:List (List (List AV))}:∀ {rs:List (List AV)}{l:List Nd},TRl q lo hi bx rs l→∀ (i:Nat)(x:Nd),l[i]?=some x→∃ r c,rs[i]?=some r∧Al1 q x r c∧Tr q lo hi bx c x
 | [],[],_,i,x,h=>by simp at h
 | r::rs,y::l,h,i,x,hx=>by
   simp only [TRl] at h
   cases i with
   | zero=>simp at hx;subst hx;obtain ⟨⟨c,h1,h2⟩,_⟩:=h;exact ⟨r,c,rfl,h1,h2⟩
   | succ i=>simpa using Mh h.2 i x (by simpa using hx)
 | [],_::_,h,_,_,_=>by simp [TRl] at h
 | _::_,[],h,_,_,_=>by simp [TRl] at h
theorem R1 {q:Bool}{lo hi:Nat}{bx:List (List (List AV))}:∀ {rs:List (List AV)}{l:List Nd},rs.length=l.length→(∀ (i:Nat)(x:Nd),l[i]?=some x→∃ r c,rs[i]?=some r∧Al1 q x r c∧Tr q lo hi bx c x)→TRl q lo hi bx rs l
 | [],[],_,_=>trivial
 | r::rs,y::l,h,hg=>by
   simp only [TRl]
   obtain ⟨r',c,h1,h2,h3⟩:=hg 0 y rfl
   simp at h1;subst h1
   exact ⟨⟨c,h2,h3⟩,R1 (by simpa using h) fun i x hx=>by simpa using hg (i+1) x (by simpa using hx)⟩
 | [],_::_,h,_=>by simp at h
 | _::_,[],h,_=>by simp at h
theorem Al9 (n:Nd):∀ {lo hi b:Nat}{bx:List (List (List AV))},Tr true lo hi bx b n→Tr false lo hi bx b n:=by
 induction n using Nd.ind with
 | h n ih =>
 intro lo hi b bx h
 obtain ⟨h1,rows,h2,h3⟩:=Im.1 h
 refine Im.2 ⟨h1,rows,h2,R1 (O4 h3) fun i x hx=>?_⟩
 obtain ⟨r,c,g1,⟨a1,a2,a3,g2,_⟩,g4⟩:=Mh h3 i x hx
 exact ⟨r,c,g1,⟨a1,a2,a3,g2,fun h=>by cases h⟩,ih x (List.mem_of_getElem? hx) g4⟩
theorem Mg {q:Bool}(n:Nd):∀ {lo hi lo' hi' b:Nat}{bx bx':List (List (List AV))},lo'≤lo→hi≤hi'→(∀ (i:Nat) y,lo≤i→i<hi→bx[i]?=some y→bx'[i]?=some y)→Tr q lo hi bx b n→Tr q lo' hi' bx' b n:=by
 induction n using Nd.ind with
 | h n ih =>
 intro lo hi lo' hi' b bx bx' h0 h9 hb h
 obtain ⟨h1,rows,h2,h3⟩:=Im.1 h
 refine Im.2 ⟨by omega,rows,hb b rows h1.1 h1.2 h2,R1 (O4 h3) fun i x hx=>?_⟩
 obtain ⟨r,c,g1,g2,g4⟩:=Mh h3 i x hx
 exact ⟨r,c,g1,g2,ih x (List.mem_of_getElem? hx) h0 h9 hb g4⟩
theorem Ase (n:Nd):∀ {lo hi b:Nat}{S:St},Af n≤1000000000→Tr true lo hi S.boxes b n→Fz S 0 0 (.bsl b n.kids.length) (.sl (Ai n.kids) .no):=by
 induction n using Nd.ind with
 | h n ih =>
 intro lo hi b S hn h
 obtain ⟨h1,rows,h2,h3⟩:=Im.1 h
 have hlen:=O4 h3
 have hcn:=Be n
 have hll:=Ax n.kids
 have hrow:∀ (i:Nat) (r r':List AV),rows[i]?=some r→(Ai n.kids)[i]?=some r'→∃ x c,x∈n.kids∧r'=Ae x∧r=[vi x.kind,str x.name,vi x.num,.bsl c x.kids.length]∧Tr true lo hi S.boxes c x:=by
  intro i r r' hr hr'
  obtain ⟨x,hx⟩:=Ab n.kids (i:=i) (by have:=Aa hr;omega)
  obtain ⟨r0,c,g1,⟨a1,a2,a3,g2,g3⟩,g4⟩:=Mh h3 i x hx
  rw [hr] at g1;cases g1
  have:=g3 rfl
  simp only [List.cons.injEq,and_true] at this
  rw [Al hx] at hr'
  exact ⟨x,c,List.mem_of_getElem? hx,(Option.some.inj hr').symm,by rw [g2,this.1,this.2.1,this.2.2],g4⟩
 refine .bsl b n.kids.length rows (Ai n.kids) (Nat.zero_le _) h2 (by omega) (by unfold Kk;omega) (Ad _) (fun i r r' hr hr'=>?_) (fun i j r r' x y hr hr' hx hy=>?_)
 ·obtain ⟨x,c,_,rfl,rfl,_⟩:=hrow i r r' hr hr'
  rfl
 ·obtain ⟨z,c,hz,rfl,rfl,hT⟩:=hrow i r r' hr hr'
  match j,hx,hy with
  | 0,hx,hy=>simp [Ae] at hx hy;subst hx;subst hy;exact .same _ (.val _)
  | 1,hx,hy=>simp [Ae] at hx hy;subst hx;subst hy;exact .same _ (.val _)
  | 2,hx,hy=>simp [Ae] at hx hy;subst hx;subst hy;exact .same _ (.val _)
  | 3,hx,hy=>simp [Ae] at hx hy;subst hx;subst hy;exact ih z hz (by have:=Cw hz;omega) hT
  | j+4,hx,_=>simp at hx
structure Mk (lo hi:Nat)(bx bx':List (List (List AV))):Prop where
 len:bx.length≤bx'.length
 far:∀ b,b<bx.length→b<lo∨hi≤b→bx'[b]?=bx[b]?
 row:∀ (b:Nat) rows,bx[b]?=some rows→∃ rows',bx'[b]?=some rows'∧rows'.length=rows.length ∧
  ∀ (i:Nat) (a1 a2 a3:Value) (x:AV),rows[i]?=some [.val a1,.val a2,.val a3,x]→∃ b1 b2 b3:Value,rows'[i]?=some [.val b1,.val b2,.val b3,x]
theorem Mk.refl (lo hi:Nat)(bx:List (List (List AV))):Mk lo hi bx bx:=⟨Nat.le_refl _,fun _ _ _=>rfl,fun b rows h=>⟨rows,h,rfl,fun i a1 a2 a3 x h=>⟨a1,a2,a3,h⟩⟩⟩
theorem Mk.trans {lo hi:Nat}{bx bx' bx'':List (List (List AV))}(h:Mk lo hi bx bx')(h':Mk lo hi bx' bx''):Mk lo hi bx bx'':=by
 refine ⟨Nat.le_trans h.len h'.len,fun b hl hb=>(h'.far b (Nat.lt_of_lt_of_le hl h.len) hb).trans (h.far b hl hb),fun b rows hr=>?_⟩
 obtain ⟨rows1,h1,h2,h3⟩:=h.row b rows hr
 obtain ⟨rows2,g1,g2,g3⟩:=h'.row b rows1 h1
 refine ⟨rows2,g1,g2.trans h2,fun i a1 a2 a3 x hx=>?_⟩
 obtain ⟨b1,b2,b3,h4⟩:=h3 i a1 a2 a3 x hx
 exact g3 i b1 b2 b3 x h4
theorem Mk.set {lo hi b i:Nat}{bx:List (List (List AV))}{rows:List (List AV)}{a1 a2 a3 b1 b2 b3:Value}{x:AV}(h1:lo≤b)(h2:b<hi)(hb:bx[b]?=some rows)(hr:rows[i]?=some [.val a1,.val a2,.val a3,x]) :
 Mk lo hi bx (bx.set b (rows.set i [.val b1,.val b2,.val b3,x])):=by
 have hbl:=Aa hb
 have hil:=Aa hr
 refine ⟨by simp,fun c _ hc=>List.getElem?_set_ne (by omega),fun c rows' hc=>?_⟩
 by_cases he:c=b
 ·subst he
  rw [hb] at hc;cases hc
  refine ⟨_,List.getElem?_set_self hbl,by simp,fun j c1 c2 c3 y hy=>?_⟩
  by_cases hj:j=i
  ·subst hj
   rw [hr] at hy;cases hy
   exact ⟨b1,b2,b3,List.getElem?_set_self hil⟩
  ·exact ⟨c1,c2,c3,by rw [List.getElem?_set_ne (Ne.symm hj)];exact hy⟩
 ·exact ⟨rows',by rw [List.getElem?_set_ne (Ne.symm he)];exact hc,rfl,fun j c1 c2 c3 y hy=>⟨c1,c2,c3,hy⟩⟩
theorem Alz (lo hi:Nat)(bx:List (List (List AV)))(r:List (List AV)):Mk lo hi bx (bx++[r]) :=
 ⟨by simp,fun b hl _=>List.getElem?_append_left hl,fun b rows h=>⟨rows,by rw [List.getElem?_append_left (Aa h)];exact h,rfl,fun i a1 a2 a3 x h=>⟨a1,a2,a3,h⟩⟩⟩
theorem Mk.tree (n:Nd):∀ {lo hi b:Nat}{bx bx':List (List (List AV))},Mk lo hi bx bx'→Tr false lo hi bx b n→Tr false lo hi bx' b n:=by
 induction n using Nd.ind with
 | h n ih =>
 intro lo hi b bx bx' hm h
 obtain ⟨h1,rows,h2,h3⟩:=Im.1 h
 obtain ⟨rows',g1,g2,g3⟩:=hm.row b rows h2
 refine Im.2 ⟨h1,rows',g1,R1 (by rw [g2];exact O4 h3) fun i x hx=>?_⟩
 obtain ⟨r,c,k1,⟨a1,a2,a3,rfl,_⟩,k4⟩:=Mh h3 i x hx
 obtain ⟨b1,b2,b3,k5⟩:=g3 i a1 a2 a3 _ k1
 exact ⟨_,c,k5,⟨b1,b2,b3,rfl,fun h=>by cases h⟩,ih x (List.mem_of_getElem? hx) hm k4⟩
mutual
def Gt (d:Nat):AV→AV
 | .val v=>.val v
 | .bsl b k=>.bsl (b+d) k
 | .sl [] _=>.sl [] .no
 | .psl [] _ _=>.sl [] .no
 | .agg cs=>.agg (Qh d cs)
 | .tup cs=>.tup (Qh d cs)
 | _=>.junk
def Qh (d:Nat):List AV→List AV
 | []=>[]
 | x::l=>Gt d x::Qh d l
end
theorem Afx (d:Nat):∀ l:List AV,Qh d l=l.map (Gt d)
 | []=>rfl
 | x::l=>by simp [Qh,Afx d l]
def Tg (d:Nat)(bx:List (List (List AV))):List (List (List AV)):=bx.map fun rows=>rows.map fun r=>r.map (Gt d)
mutual
theorem Aag (d:Nat):∀ x:AV,Sh d x (Gt d x)
 | .val v=>by simp only [Gt];exact .val v
 | .bsl b k=>by simp only [Gt];exact .bsl b k
 | .sl [] sp=>by simp only [Gt];exact .nil sp
 | .psl [] t v=>by simp only [Gt];exact .pnil t v
 | .agg cs=>by simp only [Gt];exact .aggL (U1 d cs)
 | .tup cs=>by simp only [Gt];have h:=(U1 d cs).get;exact .tup _ _ h.1 h.2
 | .sl (r::l) sp=>by simp only [Gt];exact .junk _
 | .psl (r::l) t v=>by simp only [Gt];exact .junk _
 | .ptr _ _ _=>by simp only [Gt];exact .junk _
 | .cptr _=>by simp only [Gt];exact .junk _
 | .bst _ _ _=>by simp only [Gt];exact .junk _
 | .fn _ _=>by simp only [Gt];exact .junk _
 | .lit _=>by simp only [Gt];exact .junk _
 | .junk=>by simp only [Gt];exact .junk _
 | .err=>by simp only [Gt];exact .junk _
 | .tagN _ _=>by simp only [Gt];exact .junk _
 | .buf _ _ _=>by simp only [Gt];exact .junk _
 | .dat _ _ _=>by simp only [Gt];exact .junk _
 | .pp _ _ _ _ _=>by simp only [Gt];exact .junk _
theorem U1 (d:Nat):∀ l:List AV,ShL d l (Qh d l)
 | []=>by simp only [Qh];exact .nil
 | x::l=>by simp only [Qh];exact .cons (Aag d x) (U1 d l)
end
theorem Aol (d:Nat)(l:List AV):ShL d l (l.map (Gt d)):=by rw [← Afx];exact U1 d l
theorem Qg (d:Nat)(bx:List (List (List AV))):ShB d bx (Tg d bx):=by
 refine ⟨by simp [Tg],fun i x y hx hy=>?_⟩
 simp only [Tg,List.getElem?_map,hx,Option.map_some,Option.some.injEq] at hy
 subst hy
 refine ⟨by simp,fun j a b ha hb=>?_⟩
 simp only [List.getElem?_map,ha,Option.map_some,Option.some.injEq] at hb
 subst hb
 exact Aol d a
theorem Ro (d:Nat)(bx:List (List (List AV))):(Tg d bx).length=bx.length:=by simp [Tg]
def M4:AV→List Nat
 | .bsl b _=>[b]
 | _=>[]
def SlG (bx:List (List (List AV)))(x:AV)(rows:List (List AV)):Prop:=(∃ b ex,x=.bsl b rows.length∧bx[b]?=some (rows++ex))∨(rows=[]∧Gt 0 x=.sl [] .no∧M4 x=[])
def SlB (bx:List (List (List AV)))(x:AV)(rows:List (List AV)):Prop:=(∃ b ex,x=.bsl b rows.length∧bx[b]?=some (rows++ex))∨(rows=[]∧∃ sp,x=.sl [] sp)
theorem Aom {d:Nat}{x:AV}(h:Gt 0 x=.sl [] .no):Gt d x=.sl [] .no:=by
 revert h
 cases x with
 | sl l sp=>cases l<;>simp [Gt]
 | psl l t v=>cases l<;>simp [Gt]
 | _=>simp [Gt]
theorem SlG.held {pre bx:List (List (List AV))}{x:AV}{rows:List (List AV)}(h:SlG bx x rows):SlB (pre++Tg pre.length bx) (Gt pre.length x) (rows.map fun r=>r.map (Gt pre.length)):=by
 rcases h with ⟨b,ex,rfl,h⟩ | ⟨rfl,h,_⟩
 ·refine .inl ⟨b+pre.length,ex.map fun r=>r.map (Gt pre.length),by simp [Gt],?_⟩
  rw [List.getElem?_append_right (by omega),Nat.add_sub_cancel,Tg,List.getElem?_map,h]
  simp
 ·exact .inr ⟨rfl,.no,Aom h⟩
theorem Anh (d:Nat)(x:AV):M4 (Gt d x)=(M4 x).map (·+d):=by
 cases x with
 | sl l sp=>cases l<;>simp [Gt,M4]
 | psl l t v=>cases l<;>simp [Gt,M4]
 | _=>simp [Gt,M4]
theorem T6 (d:Nat)(l:List Int):(E9 l).map (fun r=>r.map (Gt d))=E9 l:=by
 simp [E9,Gt]
theorem Abk (d:Nat)(l:List (Bool × Int)):(Jn l).map (fun r=>r.map (Gt d))=Jn l:=by
 simp [Jn,Gt]
theorem SlB.fz {S:St}{x:AV}{rows rows':List (List AV)}(h:SlB S.boxes x rows)(hl:rows.length≤1000000000000)(hlen:rows'.length=rows.length)(hll:∀ (i:Nat)(r r':List AV),rows[i]?=some r→rows'[i]?=some r'→r'.length=r.length)
 (hz:∀ (i j:Nat)(r r':List AV)(x y:AV),rows[i]?=some r→rows'[i]?=some r'→r[j]?=some x→r'[j]?=some y→Fz S 0 0 x y):Fz S 0 0 x (.sl rows' .no):=by
 rcases h with ⟨b,ex,rfl,h⟩ | ⟨rfl,sp,rfl⟩
 ·have hg:∀ {i:Nat} {r:List AV},i<rows'.length→(rows++ex)[i]?=some r→rows[i]?=some r:=fun {i r} hi h=>by rw [List.getElem?_append_left (by omega)] at h;exact h
  refine .bsl b rows.length (rows++ex) rows' (Nat.zero_le _) h (by simp) (by unfold Kk;omega) hlen (fun i r r' h1 h2=>hll i r r' (hg (Aa h2) h1) h2) (fun i j r r' x y h1 h2 h3 h4=>hz i j r r' x y (hg (Aa h2) h1) h2 h3 h4)
 ·have:rows'=[]:=List.length_eq_zero_iff.1 hlen
  subst this
  exact .strip [] [] sp rfl (fun i r r' h=>by simp at h) (fun i j r r' x y h=>by simp at h)
theorem SlB.flat {S:St}{x:AV}{rows:List (List AV)}(h:SlB S.boxes x rows)(hl:rows.length≤1000000000000)(hok:OKR 0 0 rows):Fz S 0 0 x (.sl rows .no):=by
 refine h.fz hl rfl (fun i r r' h1 h2=>by rw [h1] at h2;cases h2;rfl) fun i j r r' x y h1 h2 h3 h4=>?_
 rw [h1] at h2;cases h2
 rw [h3] at h4;cases h4
 exact .same _ (hok.ok r (List.mem_of_getElem? h1) x (List.mem_of_getElem? h3))
def Chg (ids:List Nat)(bx bx':List (List (List AV))):Prop:=bx.length≤bx'.length∧∀ b,b<bx.length→b ∉ ids→bx'[b]?=bx[b]?
theorem Chg.refl (ids:List Nat)(bx:List (List (List AV))):Chg ids bx bx:=⟨Nat.le_refl _,fun _ _ _=>rfl⟩
theorem Chg.trans {a b:List Nat}{bx bx' bx'':List (List (List AV))}(h:Chg a bx bx')(h':Chg b bx' bx''):Chg (a++b) bx bx'' :=
 ⟨Nat.le_trans h.1 h'.1,fun i hl hi=>by rw [List.mem_append,not_or] at hi;exact (h'.2 i (Nat.lt_of_lt_of_le hl h.1) hi.2).trans (h.2 i hl hi.1)⟩
theorem Chg.more {a b:List Nat}{bx bx':List (List (List AV))}(h:Chg a bx bx')(hs:∀ i,i∈a→i∈b):Chg b bx bx':=⟨h.1,fun i hl hi=>h.2 i hl fun hh=>hi (hs i hh)⟩
theorem Aib (ids:List Nat)(bx:List (List (List AV)))(r:List (List AV)):Chg ids bx (bx++[r]):=⟨by simp,fun b hl _=>List.getElem?_append_left hl⟩
theorem Mk.chg {lo hi:Nat}{bx bx':List (List (List AV))}(h:Mk lo hi bx bx'):Chg ((List.range (hi-lo)).map (lo+·)) bx bx' :=
 ⟨h.len,fun b hl hb=>h.far b hl (by
   rcases Nat.lt_or_ge b lo with h1 | h1
   ·exact .inl h1
   ·refine .inr (Nat.le_of_not_lt fun h2=>hb (List.mem_map.2 ⟨b-lo,List.mem_range.2 (by omega),by omega⟩)))⟩
theorem SlB.chg {ids:List Nat}{bx bx':List (List (List AV))}{x:AV}{rows:List (List AV)}(h:SlB bx x rows)(hc:Chg ids bx bx')(hd:∀ i,i∈M4 x→i ∉ ids):SlB bx' x rows:=by
 rcases h with ⟨b,ex,rfl,h⟩ | ⟨rfl,sp,rfl⟩
 ·exact .inl ⟨b,ex,rfl,by rw [hc.2 b (Aa h) (hd b (by simp [M4]))];exact h⟩
 ·exact .inr ⟨rfl,sp,rfl⟩
theorem SlB.more {bx bx':List (List (List AV))}{x:AV}{rows:List (List AV)}(h:SlB bx x rows):SlB (bx++bx') x rows:=by
 rcases h with ⟨b,ex,rfl,h⟩ | ⟨rfl,sp,rfl⟩
 ·exact .inl ⟨b,ex,rfl,by rw [List.getElem?_append_left (Aa h)];exact h⟩
 ·exact .inr ⟨rfl,sp,rfl⟩
structure CfB (Sl:List (List (List AV))→AV→List (List AV)→Prop)(bx:List (List (List AV)))(x:AV)(ids:List Nat)(c:Cf):Prop where
 ex:∃ (V C:AV) (ys:List AV),x=.agg [vi c.pt,V,C,vi c.used,vi c.steps,vi c.trap,vi c.edge,vi c.acc]∧ids=M4 V++(M4 C++ys.flatMap M4)∧ids.Nodup∧Sl bx V (E9 c.vars)∧Sl bx C (ys.map fun y=>[y]) ∧
  ys.length=c.cells.length∧∀ (j:Nat) (y:AV) (l:List (Bool × Int)),ys[j]?=some y→c.cells[j]?=some l→Sl bx y (Jn l)
theorem CfB.held {pre bx:List (List (List AV))}{x:AV}{ids:List Nat}{c:Cf}(h:CfB SlG bx x ids c):CfB SlB (pre++Tg pre.length bx) (Gt pre.length x) (ids.map (·+pre.length)) c:=by
 obtain ⟨V,C,ys,rfl,rfl,h3,h4,h5,h6,h7⟩:=h.ex
 refine ⟨Gt pre.length V,Gt pre.length C,ys.map (Gt pre.length),by simp [Gt,Qh],?_,?_,?_,?_,by simpa using h6,fun j y l hy hl=>?_⟩
 ·simp only [List.map_append,Anh,List.map_flatMap,List.flatMap_map]
 ·exact List.Pairwise.map _ (fun a b h=>by simp only [ne_eq] at h ⊢;omega) h3
 ·have:=h4.held (pre:=pre);rw [T6] at this;exact this
 ·have:=h5.held (pre:=pre);rw [List.map_map] at this;rw [List.map_map];exact this
 ·rw [List.getElem?_map] at hy
  cases hy':ys[j]? with
  | none=>rw [hy'] at hy;cases hy
  | some y0 =>
    rw [hy'] at hy;cases hy
    have:=(h7 j y0 l hy' hl).held (pre:=pre)
    rw [Abk] at this;exact this
theorem CfB.more {bx bx':List (List (List AV))}{x:AV}{ids:List Nat}{c:Cf}(h:CfB SlB bx x ids c):CfB SlB (bx++bx') x ids c:=by
 obtain ⟨V,C,ys,h1,h2,h3,h4,h5,h6,h7⟩:=h.ex
 exact ⟨V,C,ys,h1,h2,h3,h4.more,h5.more,h6,fun j y l hy hl=>(h7 j y l hy hl).more⟩
theorem CfB.chg {js:List Nat}{bx bx':List (List (List AV))}{x:AV}{ids:List Nat}{c:Cf}(h:CfB SlB bx x ids c)(hc:Chg js bx bx')(hd:∀ i,i∈ids→i ∉ js):CfB SlB bx' x ids c:=by
 obtain ⟨V,C,ys,h1,h2,h3,h4,h5,h6,h7⟩:=h.ex
 refine ⟨V,C,ys,h1,h2,h3,h4.chg hc fun i hi=>hd i (by simp [h2,hi]),h5.chg hc fun i hi=>hd i (by simp [h2,hi]),h6,fun j y l hy hl=>(h7 j y l hy hl).chg hc fun i hi=>hd i ?_⟩
 rw [h2,List.mem_append,List.mem_append,List.mem_flatMap]
 exact .inr (.inr ⟨y,List.mem_of_getElem? hy,hi⟩)
theorem CfB.fz {S:St}{x:AV}{ids:List Nat}{c:Cf}(h:CfB SlB S.boxes x ids c)(hc:CfOk c):Fz S 0 0 x (cf c):=by
 obtain ⟨V,C,ys,rfl,_,_,h4,h5,h6,h7⟩:=h.ex
 have l1:=hc.vars
 have l2:=hc.cells
 have fV:Fz S 0 0 V (.sl (E9 c.vars) .no):=h4.flat (by rw [D5];omega) inferInstance
 have fC:Fz S 0 0 C (.sl (Mp c.cells) .no):=by
  refine h5.fz (by simp;omega) (by rw [Vi];simp [h6]) (fun i r r' h1 h2=>?_) fun i j r r' x y h1 h2 h3 h4=>?_
  ·rw [List.getElem?_map] at h1
   cases hy:ys[i]? with
   | none=>rw [hy] at h1;cases h1
   | some y =>
     rw [hy] at h1;cases h1
     simp only [Mp,List.getElem?_map] at h2
     cases hl:c.cells[i]? with
     | none=>rw [hl] at h2;cases h2
     | some l=>rw [hl] at h2;cases h2;rfl
  ·rw [List.getElem?_map] at h1
   cases hy:ys[i]? with
   | none=>rw [hy] at h1;cases h1
   | some y0 =>
     rw [hy] at h1;cases h1
     simp only [Mp,List.getElem?_map] at h2
     cases hl:c.cells[i]? with
     | none=>rw [hl] at h2;cases h2
     | some l =>
       rw [hl] at h2;cases h2
       have hj:j=0:=by have:=Aa h3;simp at this;omega
       subst hj
       simp at h3 h4
       subst h3;subst h4
       exact (h7 i _ l hy hl).flat (by have:=hc.rows l (List.mem_of_getElem? hl);rw [Kp];omega) inferInstance
 refine .agg _ _ rfl fun j a b ha hb=>?_
 match j,ha,hb with
 | 0,ha,hb=>simp at ha hb;subst ha;subst hb;exact .same _ (.val _)
 | 1,ha,hb=>simp at ha hb;subst ha;subst hb;exact fV
 | 2,ha,hb=>simp at ha hb;subst ha;subst hb;exact fC
 | 3,ha,hb=>simp at ha hb;subst ha;subst hb;exact .same _ (.val _)
 | 4,ha,hb=>simp at ha hb;subst ha;subst hb;exact .same _ (.val _)
 | 5,ha,hb=>simp at ha hb;subst ha;subst hb;exact .same _ (.val _)
 | 6,ha,hb=>simp at ha hb;subst ha;subst hb;exact .same _ (.val _)
 | 7,ha,hb=>simp at ha hb;subst ha;subst hb;exact .same _ (.val _)
 | j+8,ha,_=>simp at ha
end Go.V
