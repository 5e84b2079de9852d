/- A part of the proof of the claim that the last text states: no condition of its own. -/
import Derived.Test.YtkbnfpldnpeliaaGreatDoorJ7
import Derived.Carry
import Derived.ChangeArms
import Derived.ChangeVars
import Derived.Deep.DeepHandedRow
import Derived.Lib.LaidTab
import Derived.Lib.LaidU8
import Derived.OpenShut
import Derived.ProofKit
import Derived.Test.YtkbnfpldnpeliaaGreatDoorCards
import Derived.Test.YtkbnfpldnpeliaaGreatDoorTie
import Derived.WalkKit
set_option linter.unusedVariables false
set_option linter.unusedSimpArgs false
namespace Go.V
open Go Go.Proofs
def I6 (l:List Int):List (List AV):=l.map fun m=>[vi m]
theorem J3 (l:List Int):(I6 l).length=l.length:=by simp [I6]
theorem Aoh (l:List Int):G1 1 (I6 l)=true:=H2 (f:=fun (i:Int)=>[vi i]) (fun _=>rfl) l
theorem Wp {l:List Int}{i:Nat}{m:Int}(h:l[i]?=some m):(I6 l)[i]?=some [vi m]:=by simp [I6,h]
instance {n m:Nat}{l:List Int}:OKR n m (I6 l):=⟨fun r hr x hx=>by obtain ⟨e,_,rfl⟩:=List.mem_map.1 hr;simp at hx;subst hx;exact .val _⟩
def Jq (n:Nd):List Int:=(J6 n 32).map Nd.num
theorem Aa1 (n:Nd)(k:Int):Aj n k=(J6 n k).map Nd.name:=rfl
theorem W7 (n:Nd)(k:Int):(J6 n k).length≤n.kids.length:=by
 unfold J6
 exact Nat.le_trans (List.length_filter_le _ _) (by simp)
theorem Z2 (n:Nd)(k:Int)(hne:n.kids≠[])(hl:n.kids.length≤1000000000):Pure X 101 [nd n,vi k] (.sl (A3 (Aj n k)) .no):=by
 have hdl:=W7 n k
 rw [Aa1]
 refine Pure.run Tryz.func101 ?_
 refine AK.pc (Oo n k hne hl) ?_
 generalize J6 n k=ds at *
 refine AK.mint (d:=5) rfl rfl rfl ?_
 refine AK.while_ (ι:=Nat) 1 1 (fun i=>i≤ds.length) (fun i=>[(13,vi i),(12,vi ds.length),(11,.sl (Ak ds) .no),(5,.sl (A3 ((ds.take i).map Nd.name)) (.tok 0))]) (fun i=>⟨[[Af n]],[i]⟩) (fun i=>ds.length-i) ?_ 0
  (Nat.zero_le _) ⟨rfl,by rw [← Ae ds];rfl,rfl,rfl,trivial⟩
 intro i hi IH
 have htl:(A3 ((ds.take i).map Nd.name)).length=i:=by rw [Am];simp;omega
 refine AK.ei (fun h=>?_) (fun h=>?_)
 ·have hlt:i<ds.length:=by have:=of_decide_eq_true h;omega
  obtain ⟨x,hx⟩:=Ac ds hlt
  refine AK.ix i (by omega) (Ao hx) ?_
  refine AK.op (Ndo.append (res:=A3 ((ds.take (i+1)).map Nd.name)) rfl rfl rfl rfl rfl rfl rfl rfl rfl rfl rfl rfl rfl rfl htl (Fg _) rfl rfl rfl ?_ ?_ rfl) ?_
  ·rw [htl];simp;omega
  ·rw [List.take_add_one,hx];simp [A3]
  refine IH (i+1) hlt (by omega) _ _ ⟨vsx (by omega),rfl,rfl,rfl,trivial⟩ ?_ rfl rfl
  show St.mk [[Af n]] [_+1]=St.mk [[Af n]] [i+1]
  rw [htl]
 ·have:i=ds.length:=by have:=of_decide_eq_false h;omega
  subst this
  rw [List.take_length]
  exact AK.rz Tryz.func101 rfl
theorem Ajs (n:Nd)(hne:n.kids≠[])(hl:n.kids.length≤1000000000):Pure X 102 [nd n] (.sl (I6 (Jq n)) .no):=by
 have hdl:=W7 n 32
 unfold Jq
 refine Pure.run Tryz.func102 ?_
 refine AK.pc (Oo n 32 hne hl) ?_
 generalize J6 n 32=ds at *
 refine AK.mint (d:=3) rfl rfl rfl ?_
 refine AK.while_ (ι:=Nat) 1 1 (fun i=>i≤ds.length) (fun i=>[(10,vi i),(9,vi ds.length),(8,.sl (Ak ds) .no),(3,.sl (I6 ((ds.take i).map Nd.num)) (.tok 0))]) (fun i=>⟨[[Af n]],[i]⟩) (fun i=>ds.length-i) ?_ 0
  (Nat.zero_le _) ⟨rfl,by rw [← Ae ds];rfl,rfl,rfl,trivial⟩
 intro i hi IH
 have htl:(I6 ((ds.take i).map Nd.num)).length=i:=by rw [J3];simp;omega
 refine AK.ei (fun h=>?_) (fun h=>?_)
 ·have hlt:i<ds.length:=by have:=of_decide_eq_true h;omega
  obtain ⟨x,hx⟩:=Ac ds hlt
  refine AK.ix i (by omega) (Ao hx) ?_
  refine AK.op (Ndo.append (res:=I6 ((ds.take (i+1)).map Nd.num)) rfl rfl rfl rfl rfl rfl rfl rfl rfl rfl rfl rfl rfl rfl htl (Aoh _) rfl rfl rfl ?_ ?_ rfl) ?_
  ·rw [htl];simp;omega
  ·rw [List.take_add_one,hx];simp [I6]
  refine IH (i+1) hlt (by omega) _ _ ⟨vsx (by omega),rfl,rfl,rfl,trivial⟩ ?_ rfl rfl
  show St.mk [[Af n]] [_+1]=St.mk [[Af n]] [i+1]
  rw [htl]
 ·have:i=ds.length:=by have:=of_decide_eq_false h;omega
  subst this
  rw [List.take_length]
  exact AK.rz Tryz.func102 rfl
theorem Aqa (n:Nd)(hn:wN n≤1000000000):Pure X 52 [nd n] (.sl (I6 (Jq n)) .no):=by
 let sz (l:List Nd):List Int:=(l.filter fun x=>x.kind==32).map Nd.num
 have szle:∀ l:List Nd,(sz l).length≤l.length:=fun l=>by simp only [sz,List.length_map];exact List.length_filter_le _ _
 refine Pure.run Tryz.func52 ?_
 have hkl:=Ed n
 have hw:IntKind.i64.wrap ((Ak n.kids).length-1:Int)=n.kids.length-1:=by rw [Ae];exact Aa (by omega) (by omega)
 refine AK.mint (d:=3) rfl rfl rfl ?_
 refine AK.while_ (ι:=Nat) 1 1 (fun i=>i≤n.kids.length-1) (fun i=>[(4,vi i),(3,.sl (I6 (sz (n.kids.take i))) (.tok 0)),(1,.ptr 0 0 0)]) (fun i=>⟨[[Af n]],[(sz (n.kids.take i)).length]⟩) (fun i=>n.kids.length-i) ?_ 0
  (Nat.zero_le _) ⟨rfl,rfl,rfl,trivial⟩
 intro i hi IH
 refine AK.ei (fun h=>?_) (fun h=>?_)
 ·have hlt:i<n.kids.length-1:=by have:=of_decide_eq_true h;rw [hw] at this;omega
  obtain ⟨x,hx⟩:=Ac n.kids (i:=i) (by omega)
  have hle:=szle (n.kids.take i)
  have htl:(n.kids.take i).length=i:=by simp;omega
  refine AK.ix i (by omega) (Ao hx) ?_
  refine AK.if_ (fun h2=>?_) (fun h2=>?_)
  ·have h2':(x.kind==32)=true:=h2
   have hs:sz (n.kids.take (i+1))=sz (n.kids.take i)++[x.num]:=by simp [sz,List.take_add_one,hx,List.filter_append,List.filter_cons,h2']
   refine AK.ix i (by omega) (Ao hx) ?_
   refine AK.op (Ndo.append (res:=I6 (sz (n.kids.take i)++[x.num])) rfl rfl rfl rfl rfl rfl rfl rfl rfl rfl rfl rfl rfl rfl (J3 _) (Aoh _) rfl rfl rfl ?_ ?_ rfl) ?_
   ·rw [J3];simp;omega
   ·simp [I6]
   refine IH (i+1) (by omega) (by omega) _ _ ⟨vsx (by omega),?_,rfl,trivial⟩ ?_ rfl rfl
   ·rw [hs];rfl
   ·rw [hs];simp [St.drop,J3]
  ·have h2':(x.kind==32)=false:=h2
   have hs:sz (n.kids.take (i+1))=sz (n.kids.take i):=by simp [sz,List.take_add_one,hx,List.filter_append,List.filter_cons,h2']
   refine IH (i+1) (by omega) (by omega) _ _ ⟨vsx (by omega),?_,rfl,trivial⟩ ?_ rfl rfl
   ·rw [hs];rfl
   ·rw [hs];rfl
 ·have:i=n.kids.length-1:=by have:=of_decide_eq_false h;rw [hw] at this;omega
  refine AK.rz Tryz.func52 ?_
  rw [this,Jq,J6,List.dropLast_eq_take]
end Go.V
namespace Go.V
open Go
section
variable {X:Cx}{B:Bx}{E:Env}{S:St}{w:World}{F:B7}{a:Act}{N:Nat}{R:AE→St→Prop}
def DrvP (X:Cx)(N:Nat)(ops:Array Oper)(ix:Nat→Nat)(bp:Nat→Nat→Bool)(em:Nat→Bool):List Oper→Nat→B7→St→List St→List Hl→(B7→St→Prop)→Prop
 | [],_,F,S,_,_,K=>K F S
 | o::os,i,F,S,Hs,pend,K =>
   (∃ x,C3 N o.dst=true∧(∀ S',Ndo X N ops (ix i) o F x S' S')∧DrvP X N ops ix bp em os (i+1) (putF o.dst x F) S Hs pend K) ∨
   (∃ x,C3 N o.dst=true∧(∀ S',S'∈Hs→Ndo X N ops (ix i) o F x S' S')∧DrvP X N ops ix bp em os (i+1) (putF o.dst x F) S Hs ((i,o,F,x)::pend) K) ∨
   (∃ x S' pend',em i=true∧C3 N o.dst=true∧Ndo X N ops (ix i) o F x S S'∧pend.filter (fun p=>!bp p.1 i)=pend'∧(∀ p,p∈pend'→Ndo X N ops (ix p.1) p.2.1 p.2.2.1 p.2.2.2 S' S') ∧
     DrvP X N ops ix bp em os (i+1) (putF o.dst x F) S' (S'::Hs) pend' K)
structure DDataP (X:Cx)(N:Nat)(ops:Array Oper)(ix:Nat→Nat)(bp:Nat→Nat→Bool)(em:Nat→Bool)(i n:Nat)(eff:Nat→Bool)(x:Nat→AV)(FF:Nat→B7)(SS:Nat→St)(Hs:List St)(pend:List Hl):Prop where
 step:∀ j,i≤j→j<n→∀ o,ops[ix j]?=some o→FF (j+1)=putF o.dst (x j) (FF j)∧C3 N o.dst=true
 eff0:∀ j,i≤j→j<n→eff j=false→SS (j+1)=SS j
 eff1:∀ j,i≤j→j<n→eff j=true→∀ o,ops[ix j]?=some o→em j=true∧Ndo X N ops (ix j) o (FF j) (x j) (SS j) (SS (j+1))
 was:∀ j,i≤j→j<n→eff j=false→∀ o,ops[ix j]?=some o→∀ S',S'∈Hs→Ndo X N ops (ix j) o (FF j) (x j) S' S'
 will:∀ j,i≤j→j<n→eff j=false→∀ o,ops[ix j]?=some o→∀ p,i≤p→p≤n→(∀ e,j≤e→e<p→eff e=true→bp j e=false)→Ndo X N ops (ix j) o (FF j) (x j) (SS p) (SS p)
 pend:∀ q,q∈pend→∀ p,i≤p→p≤n→(∀ e,i≤e→e<p→eff e=true→bp q.1 e=false)→Ndo X N ops (ix q.1) q.2.1 q.2.2.1 q.2.2.2 (SS p) (SS p)
theorem DrvP.data {ops:Array Oper}{ix:Nat→Nat}{bp:Nat→Nat→Bool}{em:Nat→Bool}:∀ (os:List Oper)(i:Nat)(F:B7)(S:St)(Hs:List St)(pend:List Hl)(K:B7→St→Prop),
 DrvP X N ops ix bp em os i F S Hs pend K→(∀ k,k<os.length→ops[ix (i+k)]?=os[k]?)→S∈Hs→(∀ q,q∈pend→Ndo X N ops (ix q.1) q.2.1 q.2.2.1 q.2.2.2 S S) →
 ∃ eff x FF SS,FF i=F∧SS i=S∧K (FF (i+os.length)) (SS (i+os.length))∧DDataP X N ops ix bp em i (i+os.length) eff x FF SS Hs pend
 | [],i,F,S,Hs,pend,K,h,_,hS,hp=>by
   refine ⟨fun _=>false,fun _=>.junk,fun _=>F,fun _=>S,rfl,rfl,h,?_⟩
   exact { step:=fun j h1 h2=>by simp at h2;omega
           eff0:=fun j h1 h2=>by simp at h2;omega
           eff1:=fun j h1 h2=>by simp at h2;omega
           was:=fun j h1 h2=>by simp at h2;omega
           will:=fun j h1 h2=>by simp at h2;omega
           pend:=fun q hq p _ _ _=>hp q hq }
 | o::os,i,F,S,Hs,pend,K,h,hops,hS,hp=>by
   have ho:ops[ix i]?=some o:=by have:=hops 0 (by simp);simpa using this
   have hops':∀ k,k<os.length→ops[ix (i+1+k)]?=os[k]?:=fun k hk=>by
    have:=hops (k+1) (by simp;omega)
    rw [show i+1+k=i+(k+1) by omega]
    simpa using this
   have hlen:i+(o::os).length=i+1+os.length:=by simp;omega
   rw [hlen]
   simp only [DrvP] at h
   have Kp:∀ {β:Type} (f:Nat→β) (v:β) (j:Nat),(fun j=>if j=i then v else f j) j=if j=i then v else f j:=fun _ _ _=>rfl
   rcases h with ⟨x,hd,hn,hk⟩ | ⟨x,hd,hn,hk⟩ | ⟨x,S',pend',he,hd,hn,hpf,hpn,hk⟩
   ·obtain ⟨eff,xs,FF,SS,h1,h2,h3,D⟩:=DrvP.data os (i+1) _ S Hs pend K hk hops' hS hp
    refine ⟨fun j=>if j=i then false else eff j,fun j=>if j=i then x else xs j,fun j=>if j=i then F else FF j,fun j=>if j=i then S else SS j,by simp,by simp,?_,?_⟩
    ·have:¬ (i+1+os.length=i):=by omega
     simpa [this] using h3
    ·refine ⟨fun j a b o' ho'=>?_,fun j a b c=>?_,fun j a b c o' ho'=>?_,fun j a b c o' ho' S' hS'=>?_,fun j a b c o' ho' p hp1 hp2 hpe=>?_,fun q hq p hp1 hp2 hpe=>?_⟩
     ·by_cases hj:j=i
      ·subst hj;rw [ho] at ho';cases ho'
       simp [h1,hd]
      ·have h4:¬ (j+1=i):=by omega
       simp only [hj,h4,if_false]
       exact D.step j (by omega) b o' ho'
     ·by_cases hj:j=i
      ·subst hj;simp [h2]
      ·have h4:¬ (j+1=i):=by omega
       simp only [hj,h4,if_false] at c ⊢
       exact D.eff0 j (by omega) b c
     ·by_cases hj:j=i
      ·subst hj;simp at c
      ·have h4:¬ (j+1=i):=by omega
       simp only [hj,h4,if_false] at c ⊢
       exact D.eff1 j (by omega) b c o' ho'
     ·by_cases hj:j=i
      ·subst hj;rw [ho] at ho';cases ho';simp only [if_true];exact hn S'
      ·simp only [hj,if_false] at c ⊢
       exact D.was j (by omega) b c o' ho' S' hS'
     ·by_cases hj:j=i
      ·subst hj;rw [ho] at ho';cases ho';simp only [if_true];exact hn _
      ·simp only [hj,if_false] at c ⊢
       by_cases hpi:p=i
       ·subst hpi;simp only [if_true];exact D.was j (by omega) b c o' ho' S hS
       ·simp only [hpi,if_false]
        refine D.will j (by omega) b c o' ho' p (by omega) hp2 (fun e e1 e2 e3=>hpe e e1 e2 ?_)
        have:¬ (e=i):=by omega
        simpa [this] using e3
     ·by_cases hpi:p=i
      ·subst hpi;simp only [if_true];exact hp q hq
      ·simp only [hpi,if_false]
       refine D.pend q hq p (by omega) hp2 (fun e e1 e2 e3=>hpe e (by omega) e2 ?_)
       have:¬ (e=i):=by omega
       simpa [this] using e3
   ·obtain ⟨eff,xs,FF,SS,h1,h2,h3,D⟩:=DrvP.data os (i+1) _ S Hs ((i,o,F,x)::pend) K hk hops' hS (fun q hq=>by
     rcases List.mem_cons.1 hq with rfl | hq
     ·exact hn S hS
     ·exact hp q hq)
    refine ⟨fun j=>if j=i then false else eff j,fun j=>if j=i then x else xs j,fun j=>if j=i then F else FF j,fun j=>if j=i then S else SS j,by simp,by simp,?_,?_⟩
    ·have:¬ (i+1+os.length=i):=by omega
     simpa [this] using h3
    ·refine ⟨fun j a b o' ho'=>?_,fun j a b c=>?_,fun j a b c o' ho'=>?_,fun j a b c o' ho' S' hS'=>?_,fun j a b c o' ho' p hp1 hp2 hpe=>?_,fun q hq p hp1 hp2 hpe=>?_⟩
     ·by_cases hj:j=i
      ·subst hj;rw [ho] at ho';cases ho'
       simp [h1,hd]
      ·have h4:¬ (j+1=i):=by omega
       simp only [hj,h4,if_false]
       exact D.step j (by omega) b o' ho'
     ·by_cases hj:j=i
      ·subst hj;simp [h2]
      ·have h4:¬ (j+1=i):=by omega
       simp only [hj,h4,if_false] at c ⊢
       exact D.eff0 j (by omega) b c
     ·by_cases hj:j=i
      ·subst hj;simp at c
      ·have h4:¬ (j+1=i):=by omega
       simp only [hj,h4,if_false] at c ⊢
       exact D.eff1 j (by omega) b c o' ho'
     ·by_cases hj:j=i
      ·subst hj;rw [ho] at ho';cases ho';simp only [if_true];exact hn S' hS'
      ·simp only [hj,if_false] at c ⊢
       exact D.was j (by omega) b c o' ho' S' hS'
     ·by_cases hpi:p=i
      ·subst hpi
       simp only [if_true]
       by_cases hj:j=p
       ·subst hj;rw [ho] at ho';cases ho';simp only [if_true];exact hn S hS
       ·simp only [hj,if_false] at c ⊢;exact D.was j (by omega) b c o' ho' S hS
      ·simp only [hpi,if_false]
       by_cases hj:j=i
       ·subst hj;rw [ho] at ho';cases ho';simp only [if_true]
        refine D.pend (j,o,F,x) (by simp) p (by omega) hp2 (fun e e1 e2 e3=>hpe e (by omega) e2 ?_)
        have:¬ (e=j):=by omega
        simpa [this] using e3
       ·simp only [hj,if_false] at c ⊢
        refine D.will j (by omega) b c o' ho' p (by omega) hp2 (fun e e1 e2 e3=>hpe e e1 e2 ?_)
        have:¬ (e=i):=by omega
        simpa [this] using e3
     ·by_cases hpi:p=i
      ·subst hpi;simp only [if_true];exact hp q hq
      ·simp only [hpi,if_false]
       refine D.pend q (by simp [hq]) p (by omega) hp2 (fun e e1 e2 e3=>hpe e (by omega) e2 ?_)
       have:¬ (e=i):=by omega
       simpa [this] using e3
   ·obtain ⟨eff,xs,FF,SS,h1,h2,h3,D⟩:=DrvP.data os (i+1) _ S' (S'::Hs) pend' K hk hops' (by simp) hpn
    refine ⟨fun j=>if j=i then true else eff j,fun j=>if j=i then x else xs j,fun j=>if j=i then F else FF j,fun j=>if j=i then S else SS j,by simp,by simp,?_,?_⟩
    ·have:¬ (i+1+os.length=i):=by omega
     simpa [this] using h3
    ·refine ⟨fun j a b o' ho'=>?_,fun j a b c=>?_,fun j a b c o' ho'=>?_,fun j a b c o' ho' S' hS'=>?_,fun j a b c o' ho' p hp1 hp2 hpe=>?_,fun q hq p hp1 hp2 hpe=>?_⟩
     ·by_cases hj:j=i
      ·subst hj;rw [ho] at ho';cases ho'
       simp [h1,hd]
      ·have h4:¬ (j+1=i):=by omega
       simp only [hj,h4,if_false]
       exact D.step j (by omega) b o' ho'
     ·by_cases hj:j=i
      ·subst hj;simp at c
      ·have h4:¬ (j+1=i):=by omega
       simp only [hj,h4,if_false] at c ⊢
       exact D.eff0 j (by omega) b c
     ·by_cases hj:j=i
      ·subst hj;rw [ho] at ho';cases ho'
       simp [h2,he];exact hn
      ·have h4:¬ (j+1=i):=by omega
       simp only [hj,h4,if_false] at c ⊢
       exact D.eff1 j (by omega) b c o' ho'
     ·by_cases hj:j=i
      ·subst hj;simp at c
      ·simp only [hj,if_false] at c ⊢
       exact D.was j (by omega) b c o' ho' S' (by simp [hS'])
     ·by_cases hj:j=i
      ·subst hj;simp at c
      ·simp only [hj,if_false] at c ⊢
       by_cases hpi:p=i
       ·subst hpi;simp only [if_true];exact D.was j (by omega) b c o' ho' S (by simp [hS])
       ·simp only [hpi,if_false]
        refine D.will j (by omega) b c o' ho' p (by omega) hp2 (fun e e1 e2 e3=>hpe e e1 e2 ?_)
        have:¬ (e=i):=by omega
        simpa [this] using e3
     ·by_cases hpi:p=i
      ·subst hpi;simp only [if_true];exact hp q hq
      ·simp only [hpi,if_false]
       have hb:bp q.1 i=false:=hpe i (Nat.le_refl _) (by omega) (by simp)
       refine D.pend q (by rw [← hpf];exact List.mem_filter.2 ⟨hq,by simp [hb]⟩) p (by omega) hp2 (fun e e1 e2 e3=>hpe e (by omega) e2 ?_)
       have:¬ (e=i):=by omega
       simpa [this] using e3
def T0 (ops:Array Oper)(ix:Nat→Nat)(x:Nat→AV)(listed:Nat→Bool)(F:B7):Nat→B7
 | 0=>F
 | j+1=>match listed j with
   | true=>match ops[ix j]? with
     | some o=>putF o.dst (x j) (T0 ops ix x listed F j)
     | none=>T0 ops ix x listed F j
   | false=>T0 ops ix x listed F j
theorem Ll {ops:Array Oper}{ix:Nat→Nat}{x:Nat→AV}{listed:Nat→Bool}{t:Nat}:∀ n,(∀ j,j<n→listed j=true→∀ o,ops[ix j]?=some o→o.dst≠some t)→lk (T0 ops ix x listed F n) t=lk F t
 | 0,_=>rfl
 | n+1,h=>by
   have ih:lk (T0 ops ix x listed F n) t=lk F t:=Ll n (fun j hj=>h j (by omega))
   simp only [T0]
   split
   ·rename_i hl
    split
    ·rename_i o ho
     rw [Ev,if_neg (h n (by omega) hl o ho),ih]
    ·exact ih
   ·exact ih
theorem Oc {ops:Array Oper}{ix:Nat→Nat}{x:Nat→AV}{listed:Nat→Bool}{t j:Nat}{o:Oper}(ho:ops[ix j]?=some o)(hd:o.dst=some t)(hl:listed j=true) :
 ∀ n,j<n→(∀ (j':Nat) (o':Oper),j'<n→j≠j'→ops[ix j']?=some o'→o'.dst≠some t)→lk (T0 ops ix x listed F n) t=some (x j)
 | 0,h,_=>by omega
 | n+1,h,hu=>by
   simp only [T0]
   by_cases hj:j=n
   ·subst hj
    simp only [hl,ho]
    rw [Ev,if_pos hd]
   ·have ih:lk (T0 ops ix x listed F n) t=some (x j):=Oc ho hd hl n (by omega) (fun j' o' h'=>hu j' o' (by omega))
    split
    ·split
     ·rename_i o' ho'
      rw [Ev,if_neg (hu n o' (by omega) hj ho'),ih]
     ·exact ih
    ·exact ih
structure DrawOkP (ops:Array Oper)(ix:Nat→Nat)(n:Nat)(bp:Nat→Nat→Bool)(em:Nat→Bool):Prop where
 at_:∀ j,j<n→∃ o,ops[ix j]?=some o
 looks:∀ (i j:Nat) (oi oj:Oper),i<n→j<n→ops[ix i]?=some oi→ops[ix j]?=some oj→∀ t,oj.dst=some t→t∈oi.looksAt ops→(j<i∧bp j i=true)∨(i<j∧bp i j=true)
 dsts:∀ (i j:Nat) (oi oj:Oper),i<n→j<n→ops[ix i]?=some oi→ops[ix j]?=some oj→i≠j→∀ t,oi.dst=some t→oj.dst≠some t
 effs:∀ (i j:Nat),i<j→j<n→em i=true→em j=true→bp i j=true
def OrdP (bp:Nat→Nat→Bool)(n:Nat):List Nat→(Nat→Bool)→Prop
 | [],listed=>∀ j,j<n→listed j=true
 | i::l,listed=>i<n∧listed i=false∧(∀ e,e<n→bp e i=true→listed e=true)∧OrdP bp n l (fun j=>if i=j then true else listed j)
def CloP (bp:Nat→Nat→Bool)(n:Nat)(listed:Nat→Bool):Prop:=∀ j e,j<n→e<n→listed j=true→bp e j=true→listed e=true
theorem CloP.put {bp:Nat→Nat→Bool}{n i:Nat}{listed:Nat→Bool}(h:CloP bp n listed)(hb:∀ e,e<n→bp e i=true→listed e=true):CloP bp n (fun j=>if i=j then true else listed j):=fun j e hj he hl hb'=>by
 by_cases h1:i=e
 ·simp [h1]
 ·simp only [h1,if_false]
  by_cases h2:i=j
  ·subst h2;exact hb e he hb'
  ·simp only [h2,if_false] at hl;exact h j e hj he hl hb'
theorem Ald {ops:Array Oper}{ix:Nat→Nat}{n:Nat}{bp:Nat→Nat→Bool}{em:Nat→Bool}(dk:DrawOkP ops ix n bp em){eff:Nat→Bool}{x:Nat→AV}{FF:Nat→B7}{SS:Nat→St}{Hs:List St}{pend:List Hl}
 (D:DDataP X N ops ix bp em 0 n eff x FF SS Hs pend)(hF0:FF 0=F)(k:List Item):∀ (l:List Nat)(listed:Nat→Bool)(a:Act)(w:World)(E:Env)(p:Nat),
 OrdP bp n l listed→CloP bp n listed→p≤n→(∀ e,e<n→eff e=true→(listed e=true↔e<p)) →
 Inv X E (SS p) w→FR E w (T0 ops ix x listed F n) a N→∀ (b:Frame) (cs:List Frame),
  ∃ E' w' a',Steps X.P (lone (b.at a (.inRegion ops (l.map ix)::k)) cs w) (lone (b.at a' k) cs w')∧Inv X E' (SS n) w' ∧
   FR E' w' (FF n) a' N∧Evol E w E' w' E.boxes.length E.toks.length:=by
 have hFF:∀ m,m≤n→FF m=T0 ops ix x (fun _=>true) F m:=by
  intro m
  induction m with
  | zero=>intro _;exact hF0
  | succ m ih =>
    intro hn
    obtain ⟨o,ho⟩:=dk.at_ m (by omega)
    rw [(D.step m (Nat.zero_le _) (by omega) _ ho).1,ih (by omega)]
    simp [T0,ho]
 have hSS:∀ p q,p≤q→q≤n→(∀ e,p≤e→e<q→eff e=false)→SS q=SS p:=by
  intro p q hpq
  induction q with
  | zero=>intro _ _;rw [show p=0 by omega]
  | succ q ih =>
    intro hq he
    by_cases h:p=q+1
    ·rw [h]
    ·rw [D.eff0 q (Nat.zero_le _) (by omega) (he q (by omega) (by omega))]
     exact ih (by omega) (by omega) (fun e h1 h2=>he e h1 (by omega))
 intro l
 induction l with
 | nil =>
   intro listed a w E p hall hc hp hpe hI hF b cs
   refine ⟨E,w,a,.one step_region_end,?_,?_,Evol.refl _ _ _ _⟩
   ·rw [hSS p n hp (Nat.le_refl _) fun e h1 h2=>by
     cases he:eff e with
     | false=>rfl
     | true=>have:=(hpe e h2 he).1 (hall e h2);omega]
    exact hI
   ·rw [hFF _ (Nat.le_refl _)]
    have:T0 ops ix x listed F n=T0 ops ix x (fun _=>true) F n:=by
     have:∀ m,m≤n→T0 ops ix x listed F m=T0 ops ix x (fun _=>true) F m:=by
      intro m
      induction m with
      | zero=>intro _;rfl
      | succ m ih=>intro hn;simp only [T0,hall m (by omega),ih (by omega)]
     exact this _ (Nat.le_refl _)
    rw [← this];exact hF
 | cons i l ih =>
   intro listed a w E p hord hc hp hpe hI hF b cs
   obtain ⟨hin,hilf,rbit,hrest⟩:=hord
   obtain ⟨o,ho⟩:=dk.at_ i hin
   simp only [List.map_cons]
   have notbit:∀ e,e<n→listed e=true→bp i e=false:=fun e he hl=>by
    cases hb:bp i e with
    | false=>rfl
    | true=>have:=hc e i he hin hl hb;rw [hilf] at this;cases this
   have hagree:∀ t,t∈o.looksAt ops→lk (T0 ops ix x listed F n) t=lk (FF i) t:=fun t ht=>by
    rw [hFF i (by omega)]
    by_cases hw:∃ (j:Nat) (oj:Oper),j<n∧ops[ix j]?=some oj∧oj.dst=some t
    ·obtain ⟨j,oj,hjn,hj,hd⟩:=hw
     have hu:∀ (j':Nat) (o':Oper),j'<n→j≠j'→ops[ix j']?=some o'→o'.dst≠some t:=fun j' o' hjn' hne ho'=>dk.dsts j j' oj o' hjn hjn' hj ho' hne t hd
     rcases dk.looks i j o oj hin hjn ho hj t hd ht with ⟨h1,h2⟩ | ⟨h1,h2⟩
     ·rw [Oc (listed:=listed) hj hd (rbit j hjn h2) n hjn (fun j' o' hj'=>hu j' o' hj'),Oc (listed:=fun _=>true) hj hd rfl i h1 (fun j' o' hj'=>hu j' o' (by omega))]
     ·have hjl:listed j=false:=by
       cases hl:listed j with
       | false=>rfl
       | true=>have:=notbit j hjn hl;rw [h2] at this;cases this
      rw [Ll n fun j' hj' hl' o' ho' hc'=>by
       by_cases hjj:j=j'
       ·subst hjj;rw [hjl] at hl';cases hl'
       ·exact hu j' o' hj' hjj ho' hc',
       Ll i fun j' hj' _ o' ho' hc'=>by
        by_cases hjj:j=j'
        ·omega
        ·exact hu j' o' (by omega) hjj ho' hc']
    ·rw [Ll n fun j' hj' _ o' ho' hc'=>hw ⟨j',o',hj',ho',hc'⟩,Ll i fun j' hj' _ o' ho' hc'=>hw ⟨j',o',by omega,ho',hc'⟩]
   have hcl':=hc.put rbit
   have hlk':∀ t,lk (T0 ops ix x (fun j=>if i=j then true else listed j) F n) t=lk (putF o.dst (x i) (T0 ops ix x listed F n)) t:=fun t=>by
    rw [Ev]
    by_cases hd:o.dst=some t
    ·rw [if_pos hd]
     exact Oc ho hd (by simp) n hin (fun j' o' hj' hne ho'=>dk.dsts i j' o o' hin hj' ho ho' hne t hd)
    ·rw [if_neg hd]
     have:∀ m,lk (T0 ops ix x (fun j=>if i=j then true else listed j) F m) t=lk (T0 ops ix x listed F m) t:=by
      intro m
      induction m with
      | zero=>rfl
      | succ m ihn =>
        simp only [T0]
        by_cases hn:i=m
        ·subst hn
         simp only [if_true,hilf,ho]
         rw [Ev,if_neg hd,ihn]
        ·simp only [hn,if_false]
         split
         ·split
          ·rw [Ev,Ev,ihn]
          ·exact ihn
         ·exact ihn
     exact this _
   have next:∀ (p':Nat),p'≤n→(∀ e,e<n→eff e=true→((if i=e then true else listed e)=true↔e<p'))→Ndo X N ops (ix i) o (FF i) (x i) (SS p) (SS p') →
    ∃ E' w' a',Steps X.P (lone (b.at a (.inRegion ops (ix i::l.map ix)::k)) cs w) (lone (b.at a' k) cs w') ∧
     Inv X E' (SS n) w'∧FR E' w' (FF n) a' N∧Evol E w E' w' E.boxes.length E.toks.length:=fun p' hp' hpe' hn=>by
    obtain ⟨v,w1,⟨E1,h1,h2,h3⟩,h4⟩:=hn _ E w a hagree hI hF b k cs (l.map ix)
    rw [ho] at h4
    have hd:=(D.step i (Nat.zero_le _) hin o ho).2
    have hF1:FR E1 w1 (T0 ops ix x (fun j=>if i=j then true else listed j) F n) (a.put o.dst v) N:=by
     have:=(hF.step h2).putF hd h3
     exact ⟨this.size,this.nod,fun q y hq=>this.rel q y (by rw [← hlk' q];exact hq)⟩
    obtain ⟨E',w',a',k1,k2,k3,k4⟩:=ih _ _ w1 E1 p' hrest hcl' hp' hpe' h1 hF1 b cs
    have hlen:=h2.len
    exact ⟨E',w',a',h4.trans k1,k2,k3,h2.trans (k4.weaken hlen.1 hlen.2)⟩
   cases he:eff i with
   | false =>
     refine next p hp (fun e hen hee=>?_) ?_
     ·by_cases hie:i=e
      ·subst hie;rw [he] at hee;cases hee
      ·rw [if_neg hie];exact hpe e hen hee
     ·exact D.will i (Nat.zero_le _) hin he o ho p (Nat.zero_le _) hp (fun e h1 h2 h3=>notbit e (by omega) ((hpe e (by omega) h3).2 h2))
   | true =>
     obtain ⟨es,hn⟩:=D.eff1 i (Nat.zero_le _) hin he o ho
     have hpi:p≤i:=by
      rcases Nat.lt_or_ge i p with h | h
      ·have:=(hpe i hin he).2 h;rw [hilf] at this;cases this
      ·exact h
     have before:∀ e,e<i→eff e=true→listed e=true:=fun e hei hee=>by
      obtain ⟨oe,hoe⟩:=dk.at_ e (by omega)
      exact rbit e (by omega) (dk.effs e i hei hin (D.eff1 e (Nat.zero_le _) (by omega) hee _ hoe).1 es)
     have hSp:SS i=SS p:=hSS p i hpi (by omega) (fun e h1 h2=>by
      cases hee:eff e with
      | false=>rfl
      | true=>have:=(hpe e (by omega) hee).1 (before e h2 hee);omega)
     refine next (i+1) (by omega) (fun e hen hee=>?_) (by rw [← hSp];exact hn)
     by_cases hie:i=e
     ·subst hie;simp
     ·rw [if_neg hie]
      constructor
      ·intro hl
       rcases Nat.lt_or_ge e (i+1) with h | h
       ·exact h
       ·obtain ⟨oe,hoe⟩:=dk.at_ e hen
        have:=dk.effs i e (by omega) hen es (D.eff1 e (Nat.zero_le _) hen hee _ hoe).1
        have h2:=notbit e hen hl
        rw [this] at h2;cases h2
      ·intro hlt
       exact before e (by omega) hee
end
def AB (a b:Nat):List Nat→(Nat→Bool)→Prop
 | [],_=>True
 | i::l,listed=>(i=b→listed a=true)∧AB a b l (fun j=>if i=j then true else listed j)
theorem Aam {a b:Nat}:∀ (l:List Nat)(listed:Nat→Bool),listed a=true→AB a b l listed
 | [],_,_=>trivial
 | i::l,listed,h=>⟨fun _=>h,Aam l _ (by simp [h])⟩
theorem Ake {a b:Nat}(hne:a≠b):∀ (l:List Nat)(listed:Nat→Bool),AB a b l listed∨AB b a l listed
 | [],_=>.inl trivial
 | i::l,listed=>by
   by_cases ha:i=a
   ·subst ha
    exact .inl ⟨fun h=>absurd h hne,Aam l _ (by simp)⟩
   ·by_cases hb:i=b
    ·subst hb
     exact .inr ⟨fun h=>absurd h.symm hne,Aam l _ (by simp)⟩
    ·rcases Ake hne l (fun j=>if i=j then true else listed j) with h | h
     ·exact .inl ⟨fun h'=>absurd h' hb,h⟩
     ·exact .inr ⟨fun h'=>absurd h' ha,h⟩
theorem Arz {bp:Nat→Nat→Bool}{n a b c:Nat}(hb:b<n)(hbc:bp b c=true):∀ (l:List Nat)(listed:Nat→Bool),OrdP bp n l listed→AB a b l listed→(listed b=true→listed a=true)→AB a c l listed
 | [],_,_,_,_=>trivial
 | i::l,listed,⟨_,_,g3,g4⟩,⟨h1,h2⟩,h3=>⟨fun hi=>h3 (g3 b hb (by rw [hi];exact hbc)),Arz hb hbc l _ g4 h2 (fun hl=>by
    by_cases hib:i=b
    ·by_cases hia:i=a
     ·simp [hia]
     ·simp [hia,h1 hib]
    ·simp only [hib,if_false] at hl
     by_cases hia:i=a
     ·simp [hia]
     ·simp [hia,h3 hl])⟩
theorem OrdP.congr {bp:Nat→Nat→Bool}{n:Nat}:∀ (l:List Nat){f g:Nat→Bool},(∀ p,p<n→f p=g p)→OrdP bp n l f→OrdP bp n l g
 | [],f,g,h,ho=>fun j hj=>by rw [← h j hj];exact ho j hj
 | i::l,f,g,h,⟨g1,g2,g3,g4⟩=>⟨g1,by rw [← h i g1];exact g2,fun e he hb=>by rw [← h e he];exact g3 e he hb,OrdP.congr l (fun p hp=>by
    by_cases hi:i=p
    ·simp [hi]
    ·simp [hi,h p hp]) g4⟩
theorem OrdP.map {bp:Nat→Nat→Bool}{n:Nat}{σ ix:Nat→Nat}(h1:∀ i,i<n→σ i<n∧ix (σ i)=i)(h2:∀ p,p<n→ix p<n∧σ (ix p)=p){asm:List (Nat × Nat)}:∀ (l:List Nat)(listed:Nat→Bool),OrdP bp n l listed →
 (∀ ab,ab∈asm→AB ab.1 ab.2 l listed)→OrdP (fun q p=>bp (ix q) (ix p)||asm.contains (ix q,ix p)) n (l.map σ) (fun p=>listed (ix p))∧(l.map σ).map ix=l
 | [],listed,h,_=>⟨fun j hj=>h _ (h2 j hj).1,rfl⟩
 | i::l,listed,h,ha=>by
   obtain ⟨g1,g2,g3,g4⟩:=h
   obtain ⟨k1,k2⟩:=h1 i g1
   have ih:=OrdP.map h1 h2 l _ g4 (fun ab hab=>(ha ab hab).2)
   refine ⟨⟨k1,by simp only [k2];exact g2,fun e he hb=>?_,OrdP.congr _ (fun p hp=>?_) ih.1⟩,by simp only [List.map_cons,k2,ih.2]⟩
   ·simp only [k2,Bool.or_eq_true] at hb
    rcases hb with hb | hb
    ·exact g3 _ (h2 e he).1 hb
    ·have hm:=List.contains_iff_mem.1 hb
     exact (ha _ hm).1 rfl
   ·by_cases hi:i=ix p
    ·have:σ i=p:=by rw [hi];exact (h2 p hp).2
     simp only [this,if_true,if_pos hi]
    ·have hs:¬ σ i=p:=fun h=>hi (by rw [← h];exact k2.symm)
     simp [hi,hs]
theorem Aps {ops:Array Oper}{bs:List Nat}(hb:T8 ops bs=true):∀ (fuel t:Nat)(listed:Array Bool),listed.size=ops.size→Closed ops listed→V4 listed ops.size≤fuel →
 OrdP (bitOf bs) ops.size (Region.linearise.go .any ops fuel t listed []) (fun j=>listed.getD j false):=by
 have fin:∀ (listed:Array Bool),(∀ j,j<ops.size→listed.getD j false=true)→OrdP (bitOf bs) ops.size [] (fun j=>listed.getD j false):=fun _ h=>h
 intro fuel
 induction fuel with
 | zero =>
   intro t listed hs hc hcnt
   refine fin listed fun j hj=>?_
   cases hl:listed.getD j false with
   | true=>rfl
   | false =>
     have:j∈(List.range ops.size).filter fun j=>!listed.getD j false:=List.mem_filter.2 ⟨List.mem_range.2 hj,by simp only [hl];rfl⟩
     unfold V4 at hcnt
     have:=List.length_pos_of_mem this
     omega
 | succ fuel ih =>
   intro t listed hs hc hcnt
   simp only [Region.linearise.go]
   change OrdP (bitOf bs) ops.size (match (Region.ready .any ops listed)[t % (Region.ready .any ops listed).length]? with
    | some i=>Region.linearise.go .any ops fuel (t / (Region.ready .any ops listed).length) (listed.setIfInBounds i true) [i]
    | none=>[].reverse) _
   cases hi:(Region.ready .any ops listed)[t % (Region.ready .any ops listed).length]? with
   | none =>
     have hnil:Region.ready .any ops listed=[]:=by
      cases hr:Region.ready .any ops listed with
      | nil=>rfl
      | cons y ys =>
        rw [hr] at hi
        have hlt:t % (y::ys).length<(y::ys).length:=Nat.mod_lt _ (by simp)
        simp at hi
        simp at hlt
        omega
     exact fin listed (Rs hb hs hnil)
   | some i =>
     obtain ⟨hin,hil,o,ho,hafter⟩:=Us (List.mem_of_getElem? hi)
     have hilf:listed.getD i false=false:=by
      have:i<listed.size:=by omega
      simp [Array.getD,this] at hil ⊢;exact hil
     simp only []
     rw [linearise_go_acc,List.reverse_singleton,List.singleton_append]
     have rbit:∀ e,e<ops.size→bitOf bs e i=true→listed.getD e false=true:=fun e he hbit=>by
      have hk:=List.all_eq_true.1 hb i (List.mem_range.2 hin)
      rw [ho] at hk
      simp only [Bool.and_eq_true,beq_iff_eq] at hk
      unfold bitOf at hbit
      rw [hk.1] at hbit
      rcases Mr bs e _ 0 hbit with h | ⟨e',he',hbe,h⟩
      ·simp at h
      ·have hl':=hafter e' he' hbe
       rcases h with rfl | h
       ·exact hl'
       ·have:e'.on<ops.size:=by
         have h2:=List.all_eq_true.1 hk.2 e' he'
         simp only [hbe,Bool.not_true,Bool.or_false] at h2
         have:e'.on<i:=by simpa [Nat.blt_eq] using h2
         omega
        exact hc.bit hb e'.on e this hl' h
     have hcl':Closed ops (listed.setIfInBounds i true):=fun j oj hj hoj e he hb=>by
      rw [Gd (by omega)] at hj ⊢
      by_cases hie:i=e.on
      ·rw [if_pos hie]
      ·rw [if_neg hie]
       by_cases hij:i=j
       ·subst hij;rw [ho] at hoj;cases hoj;exact hafter e he hb
       ·rw [if_neg hij] at hj;exact hc j oj hj hoj e he hb
     have hcu:=W6 hin hs hilf
     refine ⟨hin,hilf,rbit,OrdP.congr _ (fun p _=>?_) (ih _ (listed.setIfInBounds i true) (by simp [hs]) hcl' (by omega))⟩
     rw [Gd (by omega)]
def bpP (bs:List Nat)(π:List Nat)(asm:List (Nat × Nat))(q p:Nat):Bool:=bitOf bs (π.getD q 0) (π.getD p 0)||asm.contains (π.getD q 0,π.getD p 0)
def okP (ops:Array Oper)(bs π:List Nat)(asm:List (Nat × Nat))(em:Nat):Bool :=
 ((List.range ops.size).all fun i=>Nat.blt (π.idxOf i) ops.size&&π.getD (π.idxOf i) 0==i) &&
 ((List.range ops.size).all fun p=>Nat.blt (π.getD p 0) ops.size&&π.idxOf (π.getD p 0)==p) &&
 (List.range ops.size).all fun i=>match ops[π.getD i 0]? with
   | none=>false
   | some oi=>(List.range ops.size).all fun j=>match ops[π.getD j 0]? with
     | none=>false
     | some oj =>
       (match oj.dst with
         | some t=>!(oi.looksAt ops).contains t||(Nat.blt j i&&bpP bs π asm j i)||(Nat.blt i j&&bpP bs π asm i j)
         | none=>true) &&
       (i==j||(match oi.dst with
         | some t=>oj.dst != some t
         | none=>true)) &&
       (Nat.ble j i||!(em.testBit (π.getD i 0)&&em.testBit (π.getD j 0))||bpP bs π asm i j)
theorem Amh {ops:Array Oper}{bs π:List Nat}{asm:List (Nat × Nat)}{em:Nat}(h:okP ops bs π asm em=true) :
 (∀ i,i<ops.size→π.idxOf i<ops.size∧π.getD (π.idxOf i) 0=i)∧(∀ p,p<ops.size→π.getD p 0<ops.size∧π.idxOf (π.getD p 0)=p) ∧
 DrawOkP ops (π.getD · 0) ops.size (bpP bs π asm) (fun j=>em.testBit (π.getD j 0)):=by
 unfold okP at h
 rw [Bool.and_eq_true,Bool.and_eq_true] at h
 obtain ⟨⟨h1,h2⟩,h3⟩:=h
 have key:∀ (i j:Nat) (oi oj:Oper),i<ops.size→j<ops.size→ops[π.getD i 0]?=some oi→ops[π.getD j 0]?=some oj →
  ((match oj.dst with
     | some t=>!(oi.looksAt ops).contains t||(Nat.blt j i&&bpP bs π asm j i)||(Nat.blt i j&&bpP bs π asm i j)
     | none=>true) &&
    (i==j||(match oi.dst with
      | some t=>oj.dst != some t
      | none=>true)) &&
    (Nat.ble j i||!(em.testBit (π.getD i 0)&&em.testBit (π.getD j 0))||bpP bs π asm i j))=true:=fun i j oi oj li lj hi hj=>by
  have a1:=List.all_eq_true.1 h3 i (List.mem_range.2 li)
  rw [hi] at a1
  have a2:=List.all_eq_true.1 a1 j (List.mem_range.2 lj)
  rw [hj] at a2
  exact a2
 have at_:∀ j,j<ops.size→∃ o,ops[π.getD j 0]?=some o:=fun j hj=>by
  have a1:=List.all_eq_true.1 h3 j (List.mem_range.2 hj)
  cases ho:ops[π.getD j 0]? with
  | none=>rw [ho] at a1;cases a1
  | some o=>exact ⟨o,rfl⟩
 refine ⟨fun i hi=>?_,fun p hp=>?_,at_,fun i j oi oj li lj hi hj t ht hm=>?_,fun i j oi oj li lj hi hj hne t ht hc=>?_,fun i j hij lj e1 e2=>?_⟩
 ·have:=List.all_eq_true.1 h1 i (List.mem_range.2 hi)
  simpa [Nat.blt_eq] using this
 ·have:=List.all_eq_true.1 h2 p (List.mem_range.2 hp)
  simpa [Nat.blt_eq] using this
 ·have:=key i j oi oj li lj hi hj
  simp only [Bool.and_eq_true,ht,Bool.or_eq_true,Bool.not_eq_true',Nat.blt_eq] at this
  rcases this.1.1 with (h | h) | h
  ·have hc:(oi.looksAt ops).contains t=true:=List.contains_iff_mem.2 hm
   rw [hc] at h;cases h
  ·exact .inl h
  ·exact .inr h
 ·have:=key i j oi oj li lj hi hj
  simp only [Bool.and_eq_true,ht,Bool.or_eq_true] at this
  rcases this.1.2 with h' | h'
  ·simp at h';exact hne h'
  ·rw [hc] at h';simp at h'
 ·obtain ⟨oi,hi⟩:=at_ i (by omega)
  obtain ⟨oj,hj⟩:=at_ j lj
  have:=key i j oi oj (by omega) lj hi hj
  simp only [Bool.and_eq_true,Bool.or_eq_true,e1,e2] at this
  rcases this.2 with (h' | h') | h'
  ·have:=Nat.le_of_ble_eq_true h';omega
  ·simp at h'
  ·exact h'
section
variable {X:Cx}{B:Bx}{E:Env}{S:St}{w:World}{F:B7}{a:Act}{N:Nat}{R:AE→St→Prop}
def Way (X:Cx)(N:Nat)(ops:Array Oper)(F:B7)(S:St)(K:B7→St→Prop)(l:List Nat):Prop :=
 ∃ (π:List Nat) (asm:List (Nat × Nat)) (em:Nat) (os:List Oper),(∀ ab,ab∈asm→AB ab.1 ab.2 l fun _=>false)∧okP ops (Ft ops.toList []) π asm em=true∧os.length=ops.size ∧
  (π.map fun i=>ops[i]?)=os.map some∧DrvP X N ops (π.getD · 0) (bpP (Ft ops.toList []) π asm) (fun j=>em.testBit (π.getD j 0)) os 0 F S [S] [] K
theorem Way.mk {ops:Array Oper}{K:B7→St→Prop}{l:List Nat}(π:List Nat)(asm:List (Nat × Nat))(em:Nat){os:List Oper}(ha:∀ ab,ab∈asm→AB ab.1 ab.2 l fun _=>false)(hos:(π.filterMap fun i=>ops[i]?)=os)
 (hd:DrvP X N ops (π.getD · 0) (bpP (Ft ops.toList []) π asm) (fun j=>em.testBit (π.getD j 0)) os 0 F S [S] [] K)(hok:okP ops (Ft ops.toList []) π asm em=true:=by kernel_rfl)(hl:os.length=ops.size:=by rfl)(hm:(π.map fun i=>ops[i]?)=os.map some:=by rfl):Way X N ops F S K l :=
 ⟨π,asm,em,os,ha,hok,hl,hm,hd⟩
theorem AK.ways {id:Nat}{ops:Array Oper}{k:List Item}(h:∀ l:List Nat,OrdP (bitOf (Ft ops.toList [])) ops.size l (fun _=>false)→Way X B.fn.ntmps ops F S (fun F' S'=>AK X B k F' S' R) l)(hb:T8 ops (Ft ops.toList [])=true:=by kernel_rfl):AK X B (.code (.region id ops true)::k) F S R:=by
 intro E w a b cs hI hF hn hm hbf
 have hord:=Aps hb ops.size (w.tape w.drawn (.order b.fn id)) (Array.replicate ops.size false) (by simp) (fun j o hj=>by simp [Array.getD] at hj) (by
  unfold V4
  exact Nat.le_trans (List.length_filter_le _ _) (by simp))
 generalize hl:Region.linearise.go .any ops ops.size (w.tape w.drawn (.order b.fn id)) (Array.replicate ops.size false) []=l at hord
 have hord':=OrdP.congr (g:=fun _=>false) l (fun p _=>by simp [Array.getD]) hord
 obtain ⟨π,asm,em,os,ha,hok,hos,hmap,hd⟩:=h l hord'
 obtain ⟨k1,k2,dk⟩:=Amh hok
 obtain ⟨o1,o2⟩:=OrdP.map (σ:=π.idxOf) (ix:=(π.getD · 0)) k1 k2 l _ hord' ha
 have hget:∀ j,j<os.length→ops[π.getD (0+j) 0]?=os[j]?:=fun j hj=>by
  have h1:=congrArg (fun l=>l[j]?) hmap
  simp only [List.getElem?_map] at h1
  rw [Nat.zero_add]
  cases hp:π[j]? with
  | none=>rw [hp] at h1;simp [List.getElem?_eq_getElem hj] at h1
  | some i =>
    rw [hp] at h1
    simp only [Option.map_some] at h1
    have:π.getD j 0=i:=by simp [List.getD,hp]
    rw [this]
    cases ho:os[j]? with
    | none=>rw [List.getElem?_eq_getElem hj] at ho;cases ho
    | some o=>rw [ho] at h1;simpa using h1
 obtain ⟨eff,x,FF,SS,h1,h2,h3,D⟩:=DrvP.data os 0 F S [S] [] _ hd hget (by simp) (fun q hq=>by cases hq)
 have hlen:0+os.length=ops.size:=by omega
 rw [hlen] at h3 D
 have hI1:Inv X E (SS 0) { w with drawn:=w.drawn+1 }:=by rw [h2];exact hI.keep (D4 E w _ _) (fun _ _=>rfl)
 have hF1:FR E { w with drawn:=w.drawn+1 } (T0 ops (π.getD · 0) x (fun _=>false) F ops.size) a B.fn.ntmps:=by
  have hF':=hF.step (D4 E w _ _)
  have:T0 ops (π.getD · 0) x (fun _=>false) F ops.size=F:=by
   have:∀ n,T0 ops (π.getD · 0) x (fun _=>false) F n=F:=by
    intro n
    induction n with
    | zero=>rfl
    | succ n ih=>simp only [T0];exact ih
   exact this _
  rw [this];exact hF'
 obtain ⟨E',w',a',g1,g2,g3,g4⟩:=Ald dk D h1 k (l.map π.idxOf) (fun _=>false) a { w with drawn:=w.drawn+1 } E 0 o1
  (fun j e _ _ hj=>by cases hj) (Nat.zero_le _) (fun e he hee=>by simp) hI1 hF1 b cs
 rw [o2] at g1
 have hst:Steps X.P (lone (b.at a (.code (.region id ops true)::k)) cs w) (lone (b.at a' k) cs w'):=by
  refine .head step_region_draw ?_
  simp only [Region.schedule,X.mixed,Bool.true_or,if_true]
  have hl':Region.linearise .any ops (w.tape w.drawn (.order b.fn id))=l:=hl
  rw [hl']
  exact g1
 have g4':=(D4 E w _ _).trans g4
 have hll:=g4'.len
 have nt:E.toks.length=S.toks.length:=by rw [← hI.nt];simp
 have nt':E'.toks.length=(SS ops.size).toks.length:=by rw [← g2.nt];simp
 exact Fin.from hst (g4'.weaken (by rw [hI.nb];exact hn) (by omega)) (h3 E' w' a' b cs g2 g3 (by rw [← g2.nb];have:=hI.nb;omega) (by omega) hbf)
end
section
variable {X:Cx}{B:Bx}{S S':St}{F F':B7}{R:AE→St→Prop}{ops:Array Oper}{N:Nat}{ix:Nat→Nat}{bp:Nat→Nat→Bool}{em:Nat→Bool}{KK:B7→St→Prop}
theorem Mo:∀ (n:Nat)(os:List Oper)(i:Nat)(F:B7)(pend:List Hl),(∀ k,k<os.length→ops[ix (i+k)]?=os[k]?) →
 DrvP X N ops ix bp em (Im X N ops S n os i F pend).1 (Im X N ops S n os i F pend).2.1 (Im X N ops S n os i F pend).2.2.1 S [S] (Im X N ops S n os i F pend).2.2.2 KK→DrvP X N ops ix bp em os i F S [S] pend KK
 | 0,os,i,F,p,_,h=>h
 | n+1,[],i,F,p,_,h=>h
 | n+1,o::os,i,F,p,hos,h=>by
   have ho:ops[ix i]?=some o:=by have:=hos 0 (by simp);simpa using this
   have hos':∀ k,k<os.length→ops[ix (i+1+k)]?=os[k]?:=fun k hk=>by
    have:=hos (k+1) (by simp;omega)
    rw [show i+1+k=i+(k+1) by omega]
    simpa using this
   unfold Im at h
   split at h
   ·rename_i hw
    split at h
    ·rename_i x hx
     split at h
     ·rename_i F' hF
      obtain ⟨h1,rfl⟩:=Du hF
      split at h
      ·exact .inr (.inl ⟨x,h1,fun S' hS'=>by simp at hS';subst hS';exact Ndo.ev ho hw hx,Mo n os (i+1) _ _ hos' h⟩)
      ·rename_i hl
       exact .inl ⟨x,h1,fun S'=>Ndo.ev ho hw (by rw [← N2 (S:=S) hl];exact hx),Mo n os (i+1) _ _ hos' h⟩
     ·exact h
    ·split at h
     ·rename_i x hx
      split at h
      ·rename_i F' hF
       obtain ⟨h1,rfl⟩:=Du hF
       exact .inl ⟨x,h1,fun S'=>Lw ho hw (N1 hx S'.boxes S'.toks),Mo n os (i+1) _ _ hos' h⟩
      ·exact h
     ·exact h
   ·rename_i hw
    split at h
    ·rename_i F' hF
     obtain ⟨h1,rfl⟩:=Du hF
     exact .inl ⟨_,h1,fun S'=>Ndo.skip ho hw,Mo n os (i+1) _ _ hos' h⟩
    ·exact h
   ·exact h
theorem DrvP.go {os os':List Oper}{i i':Nat}{F':B7}{pend pend':List Hl}(n:Nat)(k:DrvP X N ops ix bp em os' i' F' S [S] pend' KK)(h:Im X N ops S n os i F pend=(os',i',F',pend'):=by rfl)
 (hos:((List.range os.length).map fun k=>ops[ix (i+k)]?)=os.map some:=by rfl):DrvP X N ops ix bp em os i F S [S] pend KK :=
 Mo n os i F pend (fun k hk=>by
  have h1:=congrArg (fun l=>l[k]?) hos
  simp only [List.getElem?_map,List.getElem?_range hk,Option.map_some,List.getElem?_eq_getElem hk] at h1
  rw [List.getElem?_eq_getElem hk]
  exact Option.some.inj h1) (by rw [h];exact k)
theorem DrvP.e {os:List Oper}{i:Nat}{o:Oper}{x:AV}{Hs:List St}{pend:List Hl}(k:DrvP X N ops ix bp em os (i+1) F' S Hs pend KK)(ho:ops[ix i]?=some o:=by rfl)(hw:A6 ops F o=some true:=by rfl)(h:∀ S',Cs X F S' o.op=some x:=by intro;rfl)(hF:Mc N o.dst x F=some F':=by rfl) :
 DrvP X N ops ix bp em (o::os) i F S Hs pend KK:=by
 obtain ⟨h1,rfl⟩:=Du hF
 exact .inl ⟨x,h1,fun S'=>Ndo.ev ho hw (h S'),k⟩
theorem DrvP.w {os:List Oper}{i:Nat}{o:Oper}{x:AV}{Hs:List St}{pend:List Hl}(h:Ndo X N ops (ix i) o F x S S')(hr:∀ p,p∈pend→Ndo X N ops (ix p.1) p.2.1 p.2.2.1 p.2.2.2 S' S')
 (k:DrvP X N ops ix bp em os (i+1) F' S' (S'::Hs) (pend.filter fun p=>!bp p.1 i) KK)(he:em i=true:=by rfl)(hF:Mc N o.dst x F=some F':=by rfl):DrvP X N ops ix bp em (o::os) i F S Hs pend KK:=by
 obtain ⟨h1,rfl⟩:=Du hF
 exact .inr (.inr ⟨x,S',_,he,h1,h,rfl,fun p hp=>hr p (List.mem_filter.1 hp).1,k⟩)
theorem DrvP.w0 {os:List Oper}{i:Nat}{o:Oper}{x:AV}{Hs:List St}{pend:List Hl}(h:Ndo X N ops (ix i) o F x S S')
 (k:DrvP X N ops ix bp em os (i+1) F' S' (S'::Hs) [] KK)(he:em i=true:=by rfl)(hF:Mc N o.dst x F=some F':=by rfl)(hp:pend.filter (fun p=>!bp p.1 i)=[]:=by kernel_rfl):DrvP X N ops ix bp em (o::os) i F S Hs pend KK:=by
 obtain ⟨h1,rfl⟩:=Du hF
 exact .inr (.inr ⟨x,S',[],he,h1,h,hp,fun p hp'=>(by cases hp'),k⟩)
theorem Aao {i:Nat}{Hs:List St}{pend:List Hl}{k K:List Item}{S2:St}(id:Nat)(hk:AK X B K F' S2 R)(he:evT X B.fn.ntmps id 100 k F S=(K,F',S2):=by rfl):DrvP X N ops ix bp em [] i F S Hs pend fun F1 S1=>AK X B k F1 S1 R :=
 AK.evj id 100 he hk
inductive SubR (σ:List Nat)(F:B7):B7→Prop where
 | nil:SubR σ F []
 | cons {k:Nat} {x y:AV} {G:B7} (hx:lk F k=some x) (hr:RinC σ [] x y) (t:SubR σ F G):SubR σ F ((k,y)::G)
theorem SubR.get {σ:List Nat}{G:B7}(h:SubR σ F G):∀ k y,lk G k=some y→∃ x,lk F k=some x∧Ren true σ [] x y:=by
 induction h with
 | nil=>intro k y hy;simp [lk] at hy
 | cons hx hr t ih =>
   intro k y hy
   rw [Iz] at hy
   split at hy
   ·rename_i hk;subst hk;cases hy;exact ⟨_,hx,hr.s⟩
   ·exact ih k y hy
instance {n m c:Nat}{x:List AV} [h:OKL n m x]:OKR n m (List.replicate c x):=⟨fun r hr=>by rw [List.eq_of_mem_replicate hr];exact h.ok⟩
theorem AK.perm {f:FuncId}{fn:Func}{K:List Item}{G:B7}{bx bx2:List (List (List AV))}(σ:List Nat)(hk:AK X ⟨f,fn,0,0⟩ K G ⟨bx2,[]⟩ R)(hG:SubR σ F G)(hS:S=⟨bx,[]⟩)(hn:Ho σ=true)(hl:σ.length=bx.length)(hlt:(σ.all fun i=>Nat.blt i bx.length)=true)(hal:((List.range bx.length).all fun i=>σ.contains i)=true)
 {bx3:List (List (List AV))}(hsb:(σ.map fun i=>bx.getD i [])=bx3:=by rfl) [hb:RinB σ [] bx3 bx2]:AK X ⟨f,fn,0,0⟩ K F S R:=by
 subst hS;subst hsb
 intro E w a b cs hI hF _ _ hbf
 have nt0:E.toks=[]:=by have:=hI.nt;simpa using this
 have hσ:=K5 hn
 have hσl:∀ i,i∈σ→i<bx.length:=fun i hi=>by have:=List.all_eq_true.1 hlt i hi;simpa [Nat.blt_eq] using this
 have hτl:∀ t,t∈([]:List Nat)→t<E.toks.length:=fun t h=>by cases h
 have hI2:=(hI.sub (Sc:=⟨bx2,[]⟩) hσ List.nodup_nil hτl hb.s hσl rfl).dfE E.df
 have hall:∀ i,i<bx.length→i∈σ:=by
  intro i hi
  have:=List.all_eq_true.1 hal i (List.mem_range.2 hi)
  exact List.contains_iff_mem.1 this
 have hown:∀ b,E.own b↔E.ownS σ [] b:=fun b=>by
  constructor
  ·rintro (⟨i,s,h⟩ | ⟨t,l,c,s,h⟩)
   ·have:=Ad h
    rw [hI.nb] at this
    exact .inl ⟨i,s,hall i this,h⟩
   ·rw [nt0] at h;simp at h
  ·exact Ln
 have hfr:((E.sub σ []).dfs E.df).fr=E.fr:=by
  funext b o
  apply propext
  show (E.mt b o∧¬ E.ownS σ [] b)↔E.fr b o
  constructor
  ·rintro ⟨h,hn⟩
   rcases Ut hI h with h' | h'
   ·exact absurd ((hown b).1 h') hn
   ·exact h'
  ·exact fun h=>⟨.inl h,fun ho=>(hI.frlt b o h).1 ((hown b).2 ho)⟩
 have ev:Evol E w ((E.sub σ []).dfs E.df) w 0 0 :=
  ⟨hfr,fun i hi=>absurd hi (Nat.not_lt_zero _),fun t ht=>absurd ht (Nat.not_lt_zero _),rfl,rfl,rfl,Nat.le_refl _,fun _ _ _=>rfl,fun _ _ _ _ h=>h,fun b o _ h=>Ow hτl h,fun b _ h=>Ln ((L9 hτl).1 h),rfl,fun _ _ h=>h,fun t ht=>absurd ht (Nat.not_lt_zero _)⟩
 refine Fin.from (Steps.refl _ _) ev (hk _ w a b cs hI2 ⟨hF.size,hF.nod,fun k y hy=>?_⟩ (Nat.zero_le _) (Nat.zero_le _) hbf)
 obtain ⟨x,hx,hr⟩:=hG.get k y hy
 obtain ⟨v,hv,hrel⟩:=hF.rel k x hx
 exact ⟨v,hv,(hr.fwd (Eb:=(E.sub σ []).dfs E.df) (fun b o h=>Ow hτl h) (fun i j q h1 h2=>(F8 (E:=E) (σ:=σ) (τ:=[])).2 ⟨i,h1,h2⟩) (fun i j k h1 h2=>by simp at h1) hrel)⟩
end
end Go.V
namespace Go.V
open Go Go.Proofs
theorem W5 {n:Nd}(h:Et n=true):C9 n=(0,[])∧Cd n=true∧Cd (Aw n)=true:=by
 unfold Et at h
 have h0:(C9 n).1=0:=by simpa using h
 unfold C9 at h0 ⊢
 split at h0
 ·rename_i h1
  rw [if_pos h1]
  split at h0
  ·simp at h0
  ·rename_i h2
   rw [if_neg h2]
   split at h0
   ·simp at h0
   ·rename_i h3
    rw [if_neg h3]
    split at h0
    ·simp at h0
    ·rename_i h4
     split at h0
     ·simp at h0
     ·rename_i h5
      split at h0
      ·simp at h0
      ·rename_i h6
       split at h0
       ·rename_i h7
        simp [h1,h5,h6,h7]
       ·simp at h0
 ·simp at h0
theorem Ff {n:Nd}(h:Et n=true):FP n∧Ai n≤500∧wN n≤4500∧n.kids≠[]∧n.kids.length≤4500:=by
 obtain ⟨fp,hc,_⟩:=Lq (W5 h).2.1
 have hw:=Q7 n (Qc fp)
 have hk:=Ed n
 have hne:n.kids≠[]:=by cases fp;simp
 exact ⟨fp,hc,by omega,hne,by omega⟩
def Yx (f:Eg→Int)(p:Nat)(k:Nat):List Eg→List Nat
 | []=>[]
 | e::l=>if f e=p then k::Yx f p (k+1) l else Yx f p (k+1) l
def Mb (f:Eg→Int)(l:List Eg)(p:Nat):List Nat:=Yx f p 0 l
theorem Zt (f:Eg→Int)(p:Nat)(e:Eg):∀ (l:List Eg)(k:Nat),Yx f p k (l++[e])=Yx f p k l++(if f e=p then [k+l.length] else [])
 | [],k=>by simp [Yx]
 | x::l,k=>by
   simp only [List.cons_append,Yx,List.length_cons]
   rw [Zt f p e l (k+1),show k+1+l.length=k+(l.length+1) by omega]
   split<;>simp
theorem Xq (f:Eg→Int)(p:Nat):∀ (l:List Eg)(k:Nat),(Yx f p k l).length≤l.length
 | [],k=>by simp [Yx]
 | x::l,k=>by
   simp only [Yx,List.length_cons]
   have:=Xq f p l (k+1)
   split<;>simp<;>omega
def Rl (m:Nat)(f:Eg→Int)(l:List Eg)(pts:Nat):List (List AV):=(List.range pts).map fun p=>[AV.sl (Rj (Mb f l p)) (.tok (m+p))]
def Nl (f:Eg→Int)(l:List Eg)(pts:Nat):List Nat:=(List.range pts).map fun p=>(Mb f l p).length
theorem Ox (m:Nat)(f:Eg→Int)(l:List Eg)(pts:Nat):(Rl m f l pts).length=pts:=by simp [Rl]
theorem Gv (f:Eg→Int)(l:List Eg)(pts:Nat):(Nl f l pts).length=pts:=by simp [Nl]
theorem Ej (m:Nat)(f:Eg→Int)(l:List Eg){pts j:Nat}(h:j<pts):(Rl m f l pts)[j]?=some [AV.sl (Rj (Mb f l j)) (.tok (m+j))]:=by simp [Rl,h]
theorem Tv (f:Eg→Int)(l:List Eg){pts j:Nat}(h:j<pts):(Nl f l pts)[j]?=some (Mb f l j).length:=by simp [Nl,h]
theorem Te (f:Eg→Int){l:List Eg}{i:Nat}{e:Eg}(h:l[i]?=some e)(p:Nat):Mb f (l.take (i+1)) p=Mb f (l.take i) p++(if f e=p then [i] else []):=by
 have hi:=Ad h
 unfold Mb
 rw [List.take_add_one,h]
 simp only [Option.toList_some]
 rw [Zt,Nat.zero_add,List.length_take,Nat.min_eq_left (by omega)]
theorem Ah7 (m:Nat)(f:Eg→Int){l:List Eg}{i j pts:Nat}{e:Eg}(h:l[i]?=some e)(hj:f e=j):(Rl m f (l.take i) pts).set j [AV.sl (Rj (Mb f (l.take i) j++[i])) (.tok (m+j))]=Rl m f (l.take (i+1)) pts:=by
 apply List.ext_getElem?
 intro k
 rw [List.getElem?_set,Ox]
 by_cases hk:j=k
 ·subst hk
  rw [if_pos rfl]
  by_cases hp:j<pts
  ·rw [if_pos hp,Ej _ _ _ hp,Te f h,if_pos hj]
  ·rw [if_neg hp,List.getElem?_eq_none (by rw [Ox];omega)]
 ·rw [if_neg hk]
  by_cases hp:k<pts
  ·rw [Ej _ _ _ hp,Ej _ _ _ hp,Te f h,if_neg (by rw [hj];omega),List.append_nil]
  ·rw [List.getElem?_eq_none (by rw [Ox];omega),List.getElem?_eq_none (by rw [Ox];omega)]
theorem Ah6 (f:Eg→Int){l:List Eg}{i j pts:Nat}{e:Eg}(h:l[i]?=some e)(hj:f e=j):(Nl f (l.take i) pts).set j ((Mb f (l.take i) j).length+1)=Nl f (l.take (i+1)) pts:=by
 apply List.ext_getElem?
 intro k
 rw [List.getElem?_set,Gv]
 by_cases hk:j=k
 ·subst hk
  rw [if_pos rfl]
  by_cases hp:j<pts
  ·rw [if_pos hp,Tv _ _ hp,Te f h,if_pos hj];simp
  ·rw [if_neg hp,List.getElem?_eq_none (by rw [Gv];omega)]
 ·rw [if_neg hk]
  by_cases hp:k<pts
  ·rw [Tv _ _ hp,Tv _ _ hp,Te f h,if_neg (by rw [hj];omega),List.append_nil]
  ·rw [List.getElem?_eq_none (by rw [Gv];omega),List.getElem?_eq_none (by rw [Gv];omega)]
theorem An7 {n M m pts:Nat}(f:Eg→Int)(l:List Eg)(h:m+pts≤M):Ez n M (Rl m f l pts):=fun r hr x hx=>by
 obtain ⟨p,hp,rfl⟩:=List.mem_map.1 hr
 simp at hx;subst hx
 have:=List.mem_range.1 hp
 exact .sl _ _ ((inferInstance:OKR n M (Rj (Mb f l p))).ok) (fun t ht=>by cases ht;omega)
def Td (f:Eg→Int)(l:List Eg)(pts:Nat):List (List AV):=(List.range pts).map fun p=>[.sl (Rj (Mb f l p)) .no]
def M9 (n:Nd):List AV :=
 vi (Ew (Cn n)).pts::.sl (Dj (gEs (Cn n))) .no::.sl (A3 (Aj n 31)) .no::.sl (A3 (Aj n 32)) .no::.sl (I6 (Jq n)) .no ::
  .sl (Td Eg.f (gEs (Cn n)) (Ew (Cn n)).pts) .no::.sl (Td Eg.t (gEs (Cn n)) (Ew (Cn n)).pts) .no::Af (Aw n)
theorem Al8 {S:St}{m b pts:Nat}(f:Eg→Int)(l:List Eg)(hS:S.boxes[b]?=some (Rl m f l pts))(hp:pts≤M4):Fz S 0 0 (.bsl b pts) (.sl (Td f l pts) .no):=by
 refine .bsl b pts (Rl m f l pts) (Td f l pts) (Nat.zero_le _) hS (by rw [Ox];exact Nat.le_refl _) hp (by simp [Td]) (fun i r r' h1 h2=>?_) (fun i j r r' x y h1 h2 h3 h4=>?_)
 ·have hi:=Ad h1
  rw [Ox] at hi
  rw [Ej _ _ _ hi] at h1
  simp only [Td,List.getElem?_map,List.getElem?_range hi,Option.map_some] at h2
  cases h1;cases h2;rfl
 ·have hi:=Ad h1
  rw [Ox] at hi
  rw [Ej _ _ _ hi] at h1
  simp only [Td,List.getElem?_map,List.getElem?_range hi,Option.map_some] at h2
  cases h1;cases h2
  cases j with
  | zero=>simp at h3 h4;subst h3;subst h4;exact Ar1 (FzR.same ((inferInstance:OKR 0 0 (Rj (Mb f l i))).ok))
  | succ j=>simp at h3
set_option maxHeartbeats 2000000 in
theorem Ab4 (n:Nd)(hn:Ai n≤1000000000)(hnum:PrI n) :
 Pure X 61 [nd n] (if Et n=true then .tup [.cptr (M9 n),vb true] else .tup [.val (.pointer none),vb false]):=by
 have hfl:Jh X.P 107=some [0,1]:=by kernel_rfl
 refine Pure.run Tryz.func61 ?_
 refine AK.pc (Aqh n hn hnum) ?_
 refine AK.op (Jt (r:=!(((C9 n).1==0)&&(((C9 n).2==[])&&true))) rfl rfl rfl rfl rfl hfl rfl (.inr ⟨rfl,rfl⟩)) ?_
 by_cases hr:Et n=true
 ·obtain ⟨hC,h1,h2⟩:=W5 hr
  obtain ⟨fp,hc,hw,hne,hkl⟩:=Ff hr
  rw [if_pos hr]
  have hpv:P2 n=Aw n:=by unfold P2;rw [hC];rfl
  rw [hC,hpv]
  refine AK.no ?_
  obtain ⟨ds,hpl,_,hps,hwl⟩:=Aap fp
  have hpw:=(Ol n).1
  have hkp:=Ed (Aw n)
  have hgr:Pure X 100 [nd (Aw n)] (.agg [vi (Ew (Cn n)).pts,.sl (Dj (gEs (Cn n))) .no]):=Ai0 (Aw n) (by rw [hpl];simp) hps (show wL (Cn n)≤_ by omega) (by omega)
  refine AK.db 1024 ?_
  refine As hgr ?_
  refine As (Z2 n 31 hne (by omega)) ?_
  refine As (Z2 n 32 hne (by omega)) ?_
  refine As (Ajs n hne (by omega)) ?_
  refine Drv.w (Lw rfl rfl rfl) ?_
  refine Drv.e ?_
  refine Drv.z ?_
  have hps2:=Ki hps Ca ⟨1,0,[],[],[],0⟩ (by decide)
  have hpts:(Ew (Cn n)).pts≤2000000∧(gEs (Cn n)).length≤2000000∧∀ e,e∈gEs (Cn n)→(0≤e.f∧e.f<(Ew (Cn n)).pts)∧0≤e.t∧e.t<(Ew (Cn n)).pts:=by
   have hl:=J0 6 Ca hps2.pt
   have hA:=hps2.trans hl (Nat.le_refl _)
   obtain ⟨es,e1,e2,e3⟩:=hA.es
   have hpp:=hA.pts
   simp only [bG] at e2 hpp
   have hes:(Ew (Cn n)).es=es:=by unfold Ew;rw [e1];rfl
   have hpt:(Ew (Cn n)).pt<(Ew (Cn n)).pts:=hA.pt
   refine ⟨by show _≤_;unfold Ew;have:(1:Nat)=(⟨1,0,[],[],[],0⟩:Gr).pts:=rfl;omega,by unfold gEs;rw [hes,List.length_map];omega,fun e he=>?_⟩
   unfold gEs at he
   rw [hes] at he
   obtain ⟨e0,h0,rfl⟩:=List.mem_map.1 he
   obtain ⟨q1,q2⟩:=e3 e0 h0
   have q1':0≤e0.f∧e0.f<(Ew (Cn n)).pts:=q1
   have q2':e0.t=-1∨(0≤e0.t∧e0.t<(Ew (Cn n)).pts):=q2
   unfold Dl
   split
   ·exact ⟨q1',by simp;omega⟩
   ·exact ⟨q1',by omega⟩
  obtain ⟨hp1,hp2,hp3⟩:=hpts
  unfold M9
  generalize gEs (Cn n)=es at *
  generalize (Ew (Cn n)).pts=pts at *
  let prow (x y:AV):List AV:=vi pts::.sl (Dj es) .no::.sl (A3 (Aj n 31)) .no::.sl (A3 (Aj n 32)) .no::.sl (I6 (Jq n)) .no::x::y::Af (Aw n)
  let bxs (x y:AV):List (List (List AV)):=[[Af n],[Af (Aw n)],[[vi 0,str []]],[prow x y],List.replicate pts [.sl [] .tight],List.replicate pts [.sl [] .tight]]
  have L6:AK X ⟨61,Tryz.f61,0,0⟩ (Hn false 6 Tryz.f61) [(6,.ptr 3 0 0)] ⟨bxs (.bsl 4 pts) (.bsl 5 pts),[]⟩
   (fun e S=>e=.ret (.tup [.cptr (vi pts::.sl (Dj es) .no::.sl (A3 (Aj n 31)) .no::.sl (A3 (Aj n 32)) .no::.sl (I6 (Jq n)) .no::.sl (Td Eg.f es pts) .no::.sl (Td Eg.t es pts) .no::Af (Aw n)),vb true])∧S=⟨[],[]⟩):=by
   refine AK.at_ ?_
   refine AK.mintAll (bx:=[[Af n],[Af (Aw n)],[[vi 0,str []]],[prow (.bsl 4 pts) (.bsl 5 pts)],Rl 0 Eg.f [] pts,List.replicate pts [.sl [] .tight]]) (tk:=List.replicate pts 0) 4 pts 0 rfl rfl rfl rfl ?_
   refine AK.mintAll (bx:=[[Af n],[Af (Aw n)],[[vi 0,str []]],[prow (.bsl 4 pts) (.bsl 5 pts)],Rl 0 Eg.f [] pts,Rl pts Eg.t [] pts]) (tk:=List.replicate pts 0++List.replicate pts 0) 5 pts pts rfl (by simp) rfl rfl ?_
   refine AK.sto ⟨[[Af n],[Af (Aw n)],[[vi 0,str []]],[prow (.bsl 4 pts) (.bsl 5 pts)],Rl 0 Eg.f (es.take 0) pts,Rl pts Eg.t (es.take 0) pts],Nl Eg.f (es.take 0) pts++Nl Eg.t (es.take 0) pts⟩ ?_ (by
    have:∀ f:Eg→Int,Nl f (es.take 0) pts=List.replicate pts 0:=fun f=>List.eq_replicate_iff.2 ⟨Gv f _ pts,fun b hb=>by obtain ⟨p,_,rfl⟩:=List.mem_map.1 hb;rfl⟩
    rw [this,this];rfl)
   refine AK.ev 100 rfl ?_
   refine AK.while_ (ι:=Nat) 6 (pts+pts) (fun i=>i≤es.length) (fun i=>[(52,vi i),(51,vi es.length),(50,.sl (Dj es) .no),(6,.ptr 3 0 0)])
    (fun i=>⟨[[Af n],[Af (Aw n)],[[vi 0,str []]],[prow (.bsl 4 pts) (.bsl 5 pts)],Rl 0 Eg.f (es.take i) pts,Rl pts Eg.t (es.take i) pts],Nl Eg.f (es.take i) pts++Nl Eg.t (es.take i) pts⟩) (fun i=>es.length-i) ?_ 0
    (Nat.zero_le _) ⟨rfl,by rw [← If es];rfl,rfl,rfl,trivial⟩ ?_ rfl (by simp) rfl ?_ (fun _=>inferInstance) (fun i=>⟨?_⟩)
   ·intro i hi IH
    refine AK.ei (fun h=>?_) (fun h=>?_)
    ·have hlt:i<es.length:=by have:=of_decide_eq_true h;omega
     obtain ⟨⟨ef,et,ek,ey,en⟩,he⟩:=Ac es hlt
     obtain ⟨⟨q1,q2⟩,q3,q4⟩:=hp3 _ (List.mem_of_getElem? he)
     simp only at q1 q2 q3 q4
     obtain ⟨j,rfl⟩:=Int.eq_ofNat_of_zero_le q1
     obtain ⟨j',rfl⟩:=Int.eq_ofNat_of_zero_le q3
     have hj:j<pts:=by omega
     have hj':j'<pts:=by omega
     refine AK.ix i (by omega) (Uc he) ?_
     refine AK.db 327680 ?_
     refine Drv.lo (Iq (j:=j) rfl rfl rfl rfl rfl rfl rfl rfl (by simpa [Nat.blt_eq] using hj) rfl (Ej 0 Eg.f _ hj) rfl) ?_
     refine Drv.lo (Mp rfl (Ej 0 Eg.f _ hj) rfl rfl rfl rfl rfl rfl rfl) ?_
     refine Drv.go ?_
     have hlf:=Xq Eg.f j (es.take i) 0
     have hlt':=Xq Eg.t j' (es.take i) 0
     have htk:(es.take i).length=i:=by simp;omega
     have hlF:(Nl Eg.f (es.take i) pts).length=pts:=Gv _ _ _
     have hkF:(Nl Eg.f (es.take i) pts++Nl Eg.t (es.take i) pts)[0+j]?=some (Mb Eg.f (es.take i) j).length:=by
      rw [Nat.zero_add,List.getElem?_append_left (by omega)];exact Tv _ _ hj
     refine Drv.wl (S':=⟨[[Af n],[Af (Aw n)],[[vi 0,str []]],[prow (.bsl 4 pts) (.bsl 5 pts)],Rl 0 Eg.f (es.take i) pts,Rl pts Eg.t (es.take i) pts,[Lh ⟨j,j',ek,ey,en⟩]],Nl Eg.f (es.take (i+1)) pts++Nl Eg.t (es.take i) pts⟩)
      (Ndo.append (res:=Rj (Mb Eg.f (es.take i) j++[i])) rfl rfl rfl rfl rfl rfl rfl rfl rfl rfl rfl rfl rfl hkF (Ku _) (Afb _) rfl rfl rfl ?_ (Xi _ i) ?_) ?_ ?_
     ·rw [Ku];unfold Mb;show _+1≤_;omega
     ·show (Nl Eg.f (es.take i) pts++Nl Eg.t (es.take i) pts).set (0+j) ((Rj (Mb Eg.f (es.take i) j)).length+1)=_
      rw [Nat.zero_add,Ku,List.set_append_left _ _ (by omega),Ah6 Eg.f he rfl]
     ·refine A4 (Mp rfl (Ej 0 Eg.f _ hj) rfl rfl rfl rfl rfl rfl rfl) (A4 (Iq (j:=j) rfl rfl rfl rfl rfl rfl rfl rfl (by simpa [Nat.blt_eq] using hj) rfl (Ej 0 Eg.f _ hj) rfl) ?_)
      exact A4 (Ndo.ev rfl rfl rfl) (A4 (Ndo.ev rfl rfl rfl) (A4 (Ndo.ev rfl rfl rfl) (A4 (Ndo.ev rfl rfl rfl) G8)))
     refine Ml (A4 (Iq (j:=j) rfl rfl rfl rfl rfl rfl rfl rfl (by simpa [Nat.blt_eq] using hj) rfl (Ej 0 Eg.f _ hj) rfl) (A4 (Iq (j:=j) rfl rfl rfl rfl rfl rfl rfl rfl (by simpa [Nat.blt_eq] using hj) rfl (Ej 0 Eg.f _ hj) rfl) G8)) rfl ?_
     refine Drv.w (Ndo.store rfl rfl rfl rfl rfl rfl (Sd rfl (Ej 0 Eg.f _ hj) rfl rfl rfl)) ?_
     refine Drv.z ?_
     refine AK.sto ⟨[[Af n],[Af (Aw n)],[[vi 0,str []]],[prow (.bsl 4 pts) (.bsl 5 pts)],Rl 0 Eg.f (es.take (i+1)) pts,Rl pts Eg.t (es.take i) pts,[Lh ⟨j,j',ek,ey,en⟩]],Nl Eg.f (es.take (i+1)) pts++Nl Eg.t (es.take i) pts⟩ ?_ (by
      rw [← Ah7 0 Eg.f he rfl];rfl)
     refine AK.db 327680 ?_
     refine Drv.lo (Iq (j:=j') rfl rfl rfl rfl rfl rfl rfl rfl (by simpa [Nat.blt_eq] using hj') rfl (Ej pts Eg.t _ hj') rfl) ?_
     refine Drv.lo (Mp rfl (Ej pts Eg.t _ hj') rfl rfl rfl rfl rfl rfl rfl) ?_
     refine Drv.go ?_
     have hkT:(Nl Eg.f (es.take (i+1)) pts++Nl Eg.t (es.take i) pts)[pts+j']?=some (Mb Eg.t (es.take i) j').length:=by
      rw [List.getElem?_append_right (by rw [Gv];omega),Gv,Nat.add_sub_cancel_left];exact Tv _ _ hj'
     refine Drv.wl (S':=⟨[[Af n],[Af (Aw n)],[[vi 0,str []]],[prow (.bsl 4 pts) (.bsl 5 pts)],Rl 0 Eg.f (es.take (i+1)) pts,Rl pts Eg.t (es.take i) pts,[Lh ⟨j,j',ek,ey,en⟩]],Nl Eg.f (es.take (i+1)) pts++Nl Eg.t (es.take (i+1)) pts⟩)
      (Ndo.append (res:=Rj (Mb Eg.t (es.take i) j'++[i])) rfl rfl rfl rfl rfl rfl rfl rfl rfl rfl rfl rfl rfl hkT (Ku _) (Afb _) rfl rfl rfl ?_ (Xi _ i) ?_) ?_ ?_
     ·rw [Ku];unfold Mb;show _+1≤_;omega
     ·show (Nl Eg.f (es.take (i+1)) pts++Nl Eg.t (es.take i) pts).set (pts+j') ((Rj (Mb Eg.t (es.take i) j')).length+1)=_
      rw [Ku,List.set_append_right _ _ (by rw [Gv];omega),Gv,Nat.add_sub_cancel_left,Ah6 Eg.t he rfl]
     ·refine A4 (Mp rfl (Ej pts Eg.t _ hj') rfl rfl rfl rfl rfl rfl rfl) (A4 (Iq (j:=j') rfl rfl rfl rfl rfl rfl rfl rfl (by simpa [Nat.blt_eq] using hj') rfl (Ej pts Eg.t _ hj') rfl) ?_)
      exact A4 (Ndo.ev rfl rfl rfl) (A4 (Ndo.ev rfl rfl rfl) (A4 (Ndo.ev rfl rfl rfl) (A4 (Ndo.ev rfl rfl rfl) G8)))
     refine Ml (A4 (Iq (j:=j') rfl rfl rfl rfl rfl rfl rfl rfl (by simpa [Nat.blt_eq] using hj') rfl (Ej pts Eg.t _ hj') rfl) (A4 (Iq (j:=j') rfl rfl rfl rfl rfl rfl rfl rfl (by simpa [Nat.blt_eq] using hj') rfl (Ej pts Eg.t _ hj') rfl) G8)) rfl ?_
     refine Drv.w (Ndo.store rfl rfl rfl rfl rfl rfl (Sd rfl (Ej pts Eg.t _ hj') rfl rfl rfl)) ?_
     refine Drv.z ?_
     refine AK.sto ⟨[[Af n],[Af (Aw n)],[[vi 0,str []]],[prow (.bsl 4 pts) (.bsl 5 pts)],Rl 0 Eg.f (es.take (i+1)) pts,Rl pts Eg.t (es.take (i+1)) pts,[Lh ⟨j,j',ek,ey,en⟩]],Nl Eg.f (es.take (i+1)) pts++Nl Eg.t (es.take (i+1)) pts⟩ ?_ (by
      rw [← Ah7 pts Eg.t he rfl];rfl)
     refine IH (i+1) hlt (by omega) _ _ ⟨vsx (by omega),rfl,rfl,rfl,trivial⟩ ?_ rfl ?_
     ·exact congrArg (St.mk _) (List.take_of_length_le (by simp [Gv]))
     ·show Nat.ble (pts+pts) (Nl Eg.f (es.take (i+1)) pts++Nl Eg.t (es.take (i+1)) pts).length=true
      simp [Gv]
    ·have:i=es.length:=by have:=of_decide_eq_false h;omega
     subst this
     rw [List.take_length]
     have f1:=Al8 (S:=⟨[[Af n],[Af (Aw n)],[[vi 0,str []]],[prow (.bsl 4 pts) (.bsl 5 pts)],Rl 0 Eg.f es pts,Rl pts Eg.t es pts],Nl Eg.f es pts++Nl Eg.t es pts⟩) (b:=4) (m:=0) (pts:=pts) Eg.f es rfl (by unfold M4;omega)
     have f2:=Al8 (S:=⟨[[Af n],[Af (Aw n)],[[vi 0,str []]],[prow (.bsl 4 pts) (.bsl 5 pts)],Rl 0 Eg.f es pts,Rl pts Eg.t es pts],Nl Eg.f es pts++Nl Eg.t es pts⟩) (b:=5) (m:=pts) (pts:=pts) Eg.t es rfl (by unfold M4;omega)
     haveI i1:FzC ⟨[[Af n],[Af (Aw n)],[[vi 0,str []]],[prow (.bsl 4 pts) (.bsl 5 pts)],Rl 0 Eg.f es pts,Rl pts Eg.t es pts],Nl Eg.f es pts++Nl Eg.t es pts⟩ 0 0 (.bsl 4 pts) (.sl (Td Eg.f es pts) .no):=⟨f1⟩
     haveI i2:FzC ⟨[[Af n],[Af (Aw n)],[[vi 0,str []]],[prow (.bsl 4 pts) (.bsl 5 pts)],Rl 0 Eg.f es pts,Rl pts Eg.t es pts],Nl Eg.f es pts++Nl Eg.t es pts⟩ 0 0 (.bsl 5 pts) (.sl (Td Eg.t es pts) .no):=⟨f2⟩
     exact AK.rz Tryz.func61 rfl
   ·exact congrArg (St.mk _) (List.take_of_length_le (by simp [Gv]))
   ·show Nat.ble (pts+pts) (Nl Eg.f (es.take 0) pts++Nl Eg.t (es.take 0) pts).length=true
    simp [Gv]
   ·intro rows hrows
    simp only [List.mem_cons,List.not_mem_nil,or_false] at hrows
    rcases hrows with rfl | rfl | rfl | rfl | rfl | rfl
    ·exact (inferInstance:OKR 6 (pts+pts) [Af n]).ok
    ·exact (inferInstance:OKR 6 (pts+pts) [Af (Aw n)]).ok
    ·exact (inferInstance:OKR 6 (pts+pts) [[vi 0,str []]]).ok
    ·exact (inferInstance:OKR 6 (pts+pts) [vi pts::.sl (Dj es) .no::.sl (A3 (Aj n 31)) .no::.sl (A3 (Aj n 32)) .no::.sl (I6 (Jq n)) .no::.bsl 4 pts::.bsl 5 pts::Af (Aw n)]).ok
    ·exact An7 Eg.f _ (by omega)
    ·exact An7 Eg.t _ (by omega)
  refine AK.sto ⟨[[Af n],[Af (Aw n)],[[vi 0,str []]],[prow (.sl [] .tight) (.sl [] .tight)]],[]⟩ ?_
  refine AK.as_ 6 (.ptr 3 0 0) ?_
  refine AK.ways fun l hord=>?_
  rcases Ake (show 7≠13 by decide) l (fun _=>false) with h1 | h1
  ·rcases Ake (show 13≠16 by decide) l (fun _=>false) with h2 | h2
   ·refine Way.mk [0,1,2,3,4,5,6,8,9,10,11,12,7,13,14,15,16,17,18,19] [(7,13),(13,16)] 598144 ?_ rfl ?_
    ·intro ab hab
     simp only [List.mem_cons,List.not_mem_nil,or_false] at hab
     rcases hab with rfl | rfl
     ·exact h1
     ·exact h2
    refine DrvP.go 12 ?_
    refine DrvP.w (Ndo.mkS (n:=pts) (b:=4) (by omega) rfl rfl rfl rfl rfl rfl rfl rfl rfl rfl) ?_ ?_
    ·exact A4 (Ndo.ev rfl rfl rfl) (A4 (Ndo.ev rfl rfl rfl) G8)
    refine DrvP.w0 (Ndo.mkS (n:=pts) (b:=5) (by omega) rfl rfl rfl rfl rfl rfl rfl rfl rfl rfl) ?_
    refine DrvP.e ?_
    refine DrvP.e ?_
    refine DrvP.w0 (Ndo.store rfl rfl rfl rfl rfl rfl rfl) ?_
    refine DrvP.e ?_
    refine DrvP.e ?_
    refine DrvP.w0 (Ndo.store rfl rfl rfl rfl rfl rfl rfl) ?_
    refine Aao 6 ?_
    refine AK.sto ⟨bxs (.bsl 4 pts) (.bsl 5 pts),[]⟩ ?_
    refine AK.sub (G:=[(6,.ptr 3 0 0)]) ⟨rfl,trivial⟩ ?_
    exact L6
   ·refine Way.mk [0,1,2,3,4,5,6,8,9,10,11,12,7,14,15,16,13,17,18,19] [(7,13),(16,13)] 598144 ?_ rfl ?_
    ·intro ab hab
     simp only [List.mem_cons,List.not_mem_nil,or_false] at hab
     rcases hab with rfl | rfl
     ·exact h1
     ·exact h2
    refine DrvP.go 12 ?_
    refine DrvP.w (Ndo.mkS (n:=pts) (b:=4) (by omega) rfl rfl rfl rfl rfl rfl rfl rfl rfl rfl) ?_ ?_
    ·exact A4 (Ndo.ev rfl rfl rfl) (A4 (Ndo.ev rfl rfl rfl) G8)
    refine DrvP.e ?_
    refine DrvP.e ?_
    refine DrvP.w0 (Ndo.store rfl rfl rfl rfl rfl rfl rfl) ?_
    refine DrvP.w0 (Ndo.mkS (n:=pts) (b:=5) (by omega) rfl rfl rfl rfl rfl rfl rfl rfl rfl rfl) ?_
    refine DrvP.e ?_
    refine DrvP.e ?_
    refine DrvP.w0 (Ndo.store rfl rfl rfl rfl rfl rfl rfl) ?_
    refine Aao 6 ?_
    refine AK.sto ⟨bxs (.bsl 4 pts) (.bsl 5 pts),[]⟩ ?_
    refine AK.sub (G:=[(6,.ptr 3 0 0)]) ⟨rfl,trivial⟩ ?_
    exact L6
  ·have h2:AB 13 16 l (fun _=>false):=Arz (b:=7) (by decide) (by kernel_rfl) l _ hord h1 (fun h=>by cases h)
   refine Way.mk [0,1,2,3,4,5,6,8,9,10,11,12,13,7,14,15,16,17,18,19] [(13,7),(13,16)] 598144 ?_ rfl ?_
   ·intro ab hab
    simp only [List.mem_cons,List.not_mem_nil,or_false] at hab
    rcases hab with rfl | rfl
    ·exact h1
    ·exact h2
   refine DrvP.go 12 ?_
   refine DrvP.w (Ndo.mkS (n:=pts) (b:=4) (by omega) rfl rfl rfl rfl rfl rfl rfl rfl rfl rfl) ?_ ?_
   ·exact A4 (Ndo.ev rfl rfl rfl) (A4 (Ndo.ev rfl rfl rfl) G8)
   refine DrvP.w0 (Ndo.mkS (n:=pts) (b:=5) (by omega) rfl rfl rfl rfl rfl rfl rfl rfl rfl rfl) ?_
   refine DrvP.e ?_
   refine DrvP.e ?_
   refine DrvP.w0 (Ndo.store rfl rfl rfl rfl rfl rfl rfl) ?_
   refine DrvP.e ?_
   refine DrvP.e ?_
   refine DrvP.w0 (Ndo.store rfl rfl rfl rfl rfl rfl rfl) ?_
   refine Aao 6 ?_
   refine AK.sto ⟨bxs (.bsl 5 pts) (.bsl 4 pts),[]⟩ ?_
   refine AK.perm (G:=[(6,.ptr 3 0 0)]) (bx3:=[[Af n],[Af (Aw n)],[[vi 0,str []]],[vi pts::.sl (Dj es) .no::.sl (A3 (Aj n 31)) .no::.sl (A3 (Aj n 32)) .no::.sl (I6 (Jq n)) .no::.bsl 5 pts::.bsl 4 pts::Af (Aw n)],List.replicate pts [.sl [] .tight],List.replicate pts [.sl [] .tight]]) (bx2:=[[Af n],[Af (Aw n)],[[vi 0,str []]],[vi pts::.sl (Dj es) .no::.sl (A3 (Aj n 31)) .no::.sl (A3 (Aj n 32)) .no::.sl (I6 (Jq n)) .no::.bsl 4 pts::.bsl 5 pts::Af (Aw n)],List.replicate pts [.sl [] .tight],List.replicate pts [.sl [] .tight]]) [0,1,2,3,5,4] ?_ (.cons rfl inferInstance .nil) rfl rfl rfl rfl rfl
   exact L6
 ·rw [if_neg hr]
  have h0:((C9 n).1==0)=false:=by unfold Et at hr;simpa using hr
  refine AK.yes ?_ (ht:=by rw [h0];rfl)
  exact AK.rz Tryz.func61 rfl
instance {n m:Nat}{f:Eg→Int}{l:List Eg}{pts:Nat}:OKR n m (Td f l pts):=⟨fun r hr x hx=>by
 obtain ⟨p,_,rfl⟩:=List.mem_map.1 hr
 simp at hx;subst hx
 exact (inferInstance:OK n m (.sl (Rj (Mb f l p)) .no)).ok⟩
instance {n m:Nat}{x:Nd}:OKL n m (M9 x):=⟨(inferInstance:OKL n m (vi (Ew (Cn x)).pts::.sl (Dj (gEs (Cn x))) .no::.sl (A3 (Aj x 31)) .no::.sl (A3 (Aj x 32)) .no::.sl (I6 (Jq x)) .no ::
 .sl (Td Eg.f (gEs (Cn x)) (Ew (Cn x)).pts) .no::.sl (Td Eg.t (gEs (Cn x)) (Ew (Cn x)).pts) .no::Af (Aw x))).ok⟩
theorem Fs (n:Nd)(k:Int):(Aj n k).length≤n.kids.length:=by rw [Aa1,List.length_map];exact W7 n k
def Jp (n:Nd):Int:=IntKind.i64.wrap (IntKind.i64.wrap (1+(Aj n 31).length)+(Aj n 32).length)
theorem Ani (n:Nd)(k:Int):Pure X 106 [.cptr (M9 n),vi k] (vi (IntKind.i64.wrap (IntKind.i64.wrap (1+(Aj n 31).length)+k))):=by
 refine Pure.run Tryz.func106 ?_
 refine AK.rz Tryz.func106 ?_
 rw [← Am (Aj n 31)]
theorem Ann (n:Nd):Pure X 104 [.cptr (M9 n)] (vi (Jp n)):=by
 refine Pure.run Tryz.func104 ?_
 refine AK.dr ?_
 refine AK.rz Tryz.func104 ?_
 unfold Jp
 rw [← Am (Aj n 31),← Am (Aj n 32)]
def F9 (size v c:Int):Bool:=A0 size 1 13&&A0 v 0 (size-1)&&A0 c (-1000) 1000
theorem Aqs (size v c:Int)(h0:-1000000≤size)(h1:size≤1000000):Pure X 149 [vi size,.agg [vi v,vi c]] (vb (F9 size v c)):=by
 refine Pure.run Tryz.func149 ?_
 refine AK.pc (Fv size 1 13) ?_
 refine AK.gd (fun g1=>?_) (fun g1=>?_)
 ·have g1':A0 size 1 13=true:=g1
  refine AK.pc (Ajo v size (by omega) (by omega)) ?_
  refine AK.gd (fun g2=>?_) (fun g2=>?_)
  ·have g2':A0 v 0 (size-1)=true:=by have:(true&&A0 v 0 (size-1))=true:=g2;simpa using this
   refine AK.pc (Fv c (-1000) 1000) ?_
   refine AK.rz Tryz.func149 ?_
   simp [F9,g1',g2']
  ·have g2':A0 v 0 (size-1)=false:=by have:(true&&A0 v 0 (size-1))=false:=g2;simpa using this
   refine AK.rz Tryz.func149 ?_
   simp [F9,g1',g2']
 ·have g1':A0 size 1 13=false:=g1
  refine AK.gn ?_
  refine AK.rz Tryz.func149 ?_
  simp [F9,g1']
theorem Ahg (size v c:Int)(h0:-1000000≤size)(h1:size≤1000000):Pure X 92 [vi size,.agg [vi v,vi c]] (vb (F9 size v c)):=by
 have hw:IntKind.i64.wrap (size-1)=size-1:=Aa (by omega) (by omega)
 refine Pure.run Tryz.func92 ?_
 refine AK.pc (D3 size 1 13) ?_
 refine AK.gd (fun g1=>?_) (fun g1=>?_)
 ·have g1':A0 size 1 13=true:=g1
  have hb:=D3 v 0 (IntKind.i64.wrap (size-1))
  rw [hw] at hb
  refine AK.pc (D3 v 0 (IntKind.i64.wrap (size-1))) ?_
  rw [hw]
  refine AK.gd (fun g2=>?_) (fun g2=>?_)
  ·have g2':A0 v 0 (size-1)=true:=by have:(true&&A0 v 0 (size-1))=true:=g2;simpa using this
   refine AK.pc (D3 c (-1000) 1000) ?_
   refine AK.rz Tryz.func92 ?_
   simp [F9,g1',g2']
  ·have g2':A0 v 0 (size-1)=false:=by have:(true&&A0 v 0 (size-1))=false:=g2;simpa using this
   refine AK.rz Tryz.func92 ?_
   simp [F9,g1',g2']
 ·have g1':A0 size 1 13=false:=g1
  refine AK.gn ?_
  refine AK.rz Tryz.func92 ?_
  simp [F9,g1']
def O5 (n:Nd):List AV:=[.sl (A3 (Aj n 31)) .no,.sl (A3 (Aj n 32)) .no,.sl (I6 (Jq n)) .no,vi (Ew (Cn n)).pts,.sl (Dj (gEs (Cn n))) .no]
instance {n m:Nat}{x:Nd}:OKL n m (O5 x):=⟨(inferInstance:OKL n m [.sl (A3 (Aj x 31)) .no,.sl (A3 (Aj x 32)) .no,.sl (I6 (Jq x)) .no,vi (Ew (Cn x)).pts,.sl (Dj (gEs (Cn x))) .no]).ok⟩
theorem Aua (n:Nd)(hr:Et n=true):Pure X 31 [nd n] (.agg (O5 n)):=by
 obtain ⟨fp,_,hw,_,_⟩:=Ff hr
 refine Pure.run Tryz.func31 ?_
 refine AK.db 512 ?_
 refine As (Og n 31 (by omega)) ?_
 refine As (Og n 32 (by omega)) ?_
 refine As (Aqa n (by omega)) ?_
 refine As (Ao9 n fp (by omega)) ?_
 refine Drv.w (Ndo.store rfl rfl rfl rfl rfl rfl rfl) ?_
 refine Drv.z ?_
 exact AK.rz Tryz.func31 rfl
theorem Amt (n:Nd)(k:Int):Pure X 58 [.agg (O5 n),vi k] (vi (IntKind.i64.wrap (IntKind.i64.wrap (1+(Aj n 31).length)+k))):=by
 refine Pure.run Tryz.func58 ?_
 refine AK.rz Tryz.func58 ?_
 rw [← Am (Aj n 31)]
theorem Amy (n:Nd):Pure X 56 [.agg (O5 n)] (vi (Jp n)):=by
 refine Pure.run Tryz.func56 ?_
 refine AK.rz Tryz.func56 ?_
 unfold Jp
 rw [← Am (Aj n 31),← Am (Aj n 32)]
end Go.V
namespace Go.V
open Go
end Go.V
namespace Go.V
open Go Go.Proofs
inductive LnI:Nd→Prop where
 | mk (k:Int) (s:List UInt8) (m:Int) (ks:List Nd) (hs:s.length≤9223372036854775807) (hl:ks.length≤9223372036854775807) (hk:∀ x,x∈ks→LnI x):LnI (.mk k s m ks)
theorem LnI.get {n:Nd}(h:LnI n):n.name.length≤9223372036854775807∧n.kids.length≤9223372036854775807∧∀ x,x∈n.kids→LnI x:=by
 cases h with | mk k s m ks h0 h1 hk=>exact ⟨h0,h1,hk⟩
mutual
def swN:Nd→Nat
 | .mk _ s _ ks=>s.length+(ks.length+swL ks)
def swL:List Nd→Nat
 | []=>0
 | x::l=>swN x+swL l
end
theorem Au0 (n:Nd):swN n=n.name.length+(n.kids.length+swL n.kids):=by cases n;rw [swN];rfl
theorem Aw2:(∀ n:Nd,wN n≤1+swN n)∧∀ l:List Nd,wL l≤l.length+swL l:=by
 refine Sj (fun k s m ks ih=>?_) (Nat.le_refl _) (fun x l hx hl=>?_)
 ·simp only [wN,swN];omega
 ·simp only [wL,swL,List.length_cons];omega
def Eu (w:Nat)(left:Int):Int:=if (w:Int)≤left then left-w else -1
theorem Gu {a b:Nat}{left:Int}(h:(a:Int)≤left):Eu (a+b) left=Eu b (left-a):=by
 unfold Eu
 by_cases h2:((a+b:Nat):Int)≤left
 ·rw [if_pos h2,if_pos (by omega)];omega
 ·rw [if_neg h2,if_neg (by omega)]
theorem Jr {a b:Nat}{left:Int}(h:left<a):Eu (a+b) left=-1:=by
 unfold Eu
 rw [if_neg (by omega)]
theorem Hf {w:Nat}{left:Int}(h0:0≤left)(h:Eu w left<0):Eu w left=-1∧left<w:=by
 unfold Eu at h ⊢
 split at h
 ·rename_i h2;rw [if_pos h2];omega
 ·rename_i h2;rw [if_neg h2];omega
theorem I2 {w:Nat}{left:Int}(h:0≤Eu w left):Eu w left=left-w∧(w:Int)≤left:=by
 unfold Eu at h ⊢
 split at h
 ·rename_i h2;rw [if_pos h2];omega
 ·omega
theorem Awv (l:List Nd)(left:Int)(h0:0≤left)(h1:left≤1048576)(hl:l.length≤9223372036854775807)(ih:∀ x,x∈l→∀ lf:Int,0≤lf→lf≤1048576→Pure X 7 [nd x,vi lf] (vi (Eu (swN x) lf))) :
 Pure X 27 [.sl (Ak l) .no,vi left] (vi (Eu (l.length+swL l) left)):=by
 have hw:IntKind.i64.wrap (left-(Ak l).length)=left-l.length:=by rw [Ae];exact Aa (by omega) (by omega)
 refine Pure.run Tryz.func27 ?_
 refine AK.if_ (fun g=>?_) (fun g=>?_)
 ·have g':=of_decide_eq_true g
  rw [hw] at g'
  refine AK.rz Tryz.func27 ?_
  rw [Jr (by omega)]
 have g':=of_decide_eq_false g
 rw [hw] at g'
 have e0:Eu (l.length+swL l) left=Eu (swL l) (IntKind.i64.wrap (left-(Ak l).length)):=by rw [hw,Gu (by omega)]
 rw [e0]
 have hb:0≤IntKind.i64.wrap (left-(Ak l).length)∧IntKind.i64.wrap (left-(Ak l).length)≤1048576:=by rw [hw];omega
 generalize IntKind.i64.wrap (left-(Ak l).length)=lf0 at hb
 refine AK.while_ (ι:=Nat × Int) 0 0 (fun i=>i.1≤l.length∧0≤i.2∧i.2≤1048576∧Eu (swL l) lf0=Eu (swL (l.drop i.1)) i.2) (fun i=>[(5,vi i.1),(1,vi i.2),(0,.sl (Ak l) .no)]) (fun _=>⟨[],[]⟩) (fun i=>l.length-i.1) ?_ (0,lf0) ⟨Nat.zero_le _,hb.1,hb.2,rfl⟩
  ⟨rfl,rfl,rfl,trivial⟩
 rintro ⟨i,lf⟩ ⟨hi,hp0,hp1,hT⟩ IH
 simp only at hi hp0 hp1 hT IH ⊢
 refine AK.ei (fun h=>?_) (fun h=>?_)
 ·have hlt:i<l.length:=by have:=of_decide_eq_true h;rw [Ae] at this;omega
  obtain ⟨x,hx⟩:=Ac l hlt
  rw [Av hx] at hT
  simp only [swL] at hT
  refine AK.ix i (by omega) (Ao hx) ?_
  refine AK.pc (ih x (List.mem_of_getElem? hx) lf hp0 hp1) ?_
  refine AK.if_ (fun g2=>?_) (fun g2=>?_)
  ·have g2':=Hf hp0 (of_decide_eq_true g2)
   refine AK.rz Tryz.func27 ?_
   rw [hT,Jr g2'.2]
  ·have g2':=I2 (show 0≤Eu (swN x) lf by have:=of_decide_eq_false g2;omega)
   refine IH (i+1,Eu (swN x) lf) ⟨hlt,?_,?_,?_⟩ (by simp only;omega) _ _ ⟨A5 ((Aa (by omega) (by omega)).trans (by simp)),rfl,rfl,trivial⟩ rfl rfl rfl
   ·show 0≤Eu (swN x) lf;omega
   ·show Eu (swN x) lf≤_;omega
   ·rw [hT,Gu g2'.2,g2'.1]
 ·have:i=l.length:=by have:=of_decide_eq_false h;rw [Ae] at this;omega
  subst this
  rw [List.drop_length] at hT
  refine AK.rz Tryz.func27 ?_
  rw [hT]
  unfold Eu swL
  rw [if_pos (by simpa using hp0)];simp
theorem Axp (n:Nd)(hln:LnI n):∀ left:Int,0≤left→left≤1048576→Pure X 7 [nd n,vi left] (vi (Eu (swN n) left)):=by
 induction n using Nd.ind with
 | h n ih =>
 intro left h0 h1
 obtain ⟨ha,hb,hk⟩:=hln.get
 have hw:IntKind.i64.wrap (left-(⟨⟨n.name⟩⟩:ByteArray).size)=left-n.name.length:=by rw [C7];exact Aa (by omega) (by omega)
 rw [Au0]
 refine Pure.run Tryz.func7 ?_
 refine AK.if_ (fun g=>?_) (fun g=>?_)
 ·have g':=of_decide_eq_true g
  rw [hw] at g'
  refine AK.rz Tryz.func7 ?_
  rw [Jr (by omega)]
 have g':=of_decide_eq_false g
 rw [hw] at g'
 have e0:Eu (n.name.length+(n.kids.length+swL n.kids)) left=Eu (n.kids.length+swL n.kids) (IntKind.i64.wrap (left-(⟨⟨n.name⟩⟩:ByteArray).size)):=by rw [hw,Gu (by omega)]
 rw [e0]
 have hb2:0≤IntKind.i64.wrap (left-(⟨⟨n.name⟩⟩:ByteArray).size)∧IntKind.i64.wrap (left-(⟨⟨n.name⟩⟩:ByteArray).size)≤1048576:=by rw [hw];omega
 refine AK.pc (Awv n.kids _ hb2.1 hb2.2 hb (fun x hx lf=>ih x hx (hk x hx) lf)) ?_
 generalize IntKind.i64.wrap (left-(⟨⟨n.name⟩⟩:ByteArray).size)=lf at hb2 ⊢
 refine AK.if_ (fun g2=>?_) (fun g2=>?_)
 ·have g2':=Hf hb2.1 (of_decide_eq_true g2)
  refine AK.rz Tryz.func7 ?_
  rw [g2'.1]
 ·exact AK.rz Tryz.func7 rfl
theorem Aqw {l:List Nd}{i:Nat}{x:Nd}(h:l[i]?=some x):(rB (l.take i) (l.length-i)).set i (Af x)=rB (l.take (i+1)) (l.length-(i+1)):=by
 have hi:=Ad h
 obtain ⟨c,hc⟩:∃ c,l.length-i=c+1:=⟨l.length-i-1,by omega⟩
 have hc2:l.length-(i+1)=c:=by omega
 rw [hc,hc2,rB,rB,List.take_add_one,h,Option.toList_some,Uw,List.replicate_succ]
 have:(Ak (l.take i)).length=i:=by rw [Ae,List.length_take];omega
 rw [List.set_append_right _ _ (by omega),this,Nat.sub_self,List.set_cons_zero,List.append_assoc]
 rw [Al [x]];rfl
theorem Awy (l:List Nd)(hl:l.length≤1000000000)(ih:∀ x,x∈l→Pure X 10 [nd x] (nd x)):Pure X 33 [.sl (Ak l) .no] (.sl (Ak l) .no):=by
 refine Pure.run Tryz.func33 ?_
 refine AK.op (Ndo.mkS (n:=(Ak l).length) (b:=0) (by rw [Ae];exact hl) rfl rfl rfl rfl rfl rfl rfl rfl rfl rfl) ?_
 refine AK.while_ (ι:=Nat) 1 0 (fun i=>i≤l.length) (fun i=>[(4,vi i),(3,.bsl 0 l.length),(0,.sl (Ak l) .no)]) (fun i=>⟨[rB (l.take i) (l.length-i)],[]⟩) (fun i=>l.length-i) ?_ 0 (Nat.zero_le _)
  ⟨rfl,by rw [← Ae l];rfl,rfl,trivial⟩ (by rw [← Ae l];rfl)
 intro i hi IH
 refine AK.ei (fun h=>?_) (fun h=>?_)
 ·have hlt:i<l.length:=by have:=of_decide_eq_true h;rw [Ae] at this;omega
  obtain ⟨x,hx⟩:=Ac l hlt
  have hr:(rB (l.take i) (l.length-i))[i]?=some zN:=by
   have:(Ak (l.take i)).length=i:=by rw [Ae,List.length_take];omega
   rw [rB,List.getElem?_append_right (by omega),this,Nat.sub_self,List.getElem?_replicate,if_pos (by omega)]
  refine AK.ix i (by omega) (Ao hx) ?_
  refine AK.pc (ih x (List.mem_of_getElem? hx)) ?_
  refine AK.atB i hlt hr ?_
  refine AK.stB hr ?_
  refine IH (i+1) hlt (by omega) _ _ ⟨vsx (by omega),rfl,rfl,trivial⟩ ?_ rfl rfl
  rw [← Aqw hx];rfl
 ·have:i=l.length:=by have:=of_decide_eq_false h;rw [Ae] at this;omega
  subst this
  refine AK.rbsl Tryz.func33 (b:=0) (l:=l) (c:=l.length-l.length) ?_ hl
  rw [List.take_length];rfl
theorem Avb (n:Nd)(hn:Ai n≤1000000000):Pure X 10 [nd n] (nd n):=by
 induction n using Nd.ind with
 | h n ih =>
 have hcn:=Bv n
 have hll:=Bc n.kids
 refine Pure.run Tryz.func10 ?_
 refine AK.pc (Awy n.kids (by omega) (fun x hx=>ih x hx (by have:=Dk hx;omega))) ?_
 exact AK.rz Tryz.func10 rfl
theorem Aws (l:List Nd)(hl:l.length≤1000000000)(ih:∀ x,x∈l→Pure X 13 [nd x,nd x] (vb true)):Pure X 37 [.sl (Ak l) .no,.sl (Ak l) .no] (vb true):=by
 refine Pure.run Tryz.func37 ?_
 refine AK.no ?_ (ht:=by simp)
 refine AK.while_ (ι:=Nat) 0 0 (fun i=>i≤l.length) (fun i=>[(5,vi i),(0,.sl (Ak l) .no),(1,.sl (Ak l) .no)]) (fun i=>⟨[],[]⟩) (fun i=>l.length-i) ?_ 0 (Nat.zero_le _)
  ⟨rfl,rfl,rfl,trivial⟩
 intro i hi IH
 refine AK.ei (fun h=>?_) (fun h=>?_)
 ·have hlt:i<l.length:=by have:=of_decide_eq_true h;rw [Ae] at this;omega
  obtain ⟨x,hx⟩:=Ac l hlt
  refine AK.db 0 ?_
  refine Drv.ig i (by omega) (Ao hx) ?_
  refine Drv.ig i (by omega) (Ao hx) ?_
  refine As (ih x (List.mem_of_getElem? hx)) ?_
  refine Drv.z ?_
  refine AK.no ?_
  exact IH (i+1) hlt (by omega) _ _ ⟨vsx (by omega),rfl,rfl,trivial⟩ rfl rfl rfl
 ·exact AK.rz Tryz.func37 rfl
theorem Axo (n:Nd)(hn:Ai n≤1000000000):Pure X 13 [nd n,nd n] (vb true):=by
 induction n using Nd.ind with
 | h n ih =>
 have hcn:=Bv n
 have hll:=Bc n.kids
 refine Pure.run Tryz.func13 ?_
 refine AK.no ?_ (ht:=by simp)
 refine AK.no ?_ (ht:=by simp)
 refine AK.no ?_ (ht:=by simp)
 refine AK.pc (Aws n.kids (by omega) (fun x hx=>ih x hx (by have:=Dk hx;omega))) ?_
 refine AK.no ?_
 exact AK.rz Tryz.func13 rfl
def E0:Env:=⟨[],[],fun _ _=>False,[]⟩
theorem Avu (b o:Nat):¬ E0.mt b o:=by
 rintro (h | ⟨i,sz,h⟩ | ⟨t,l,c,sz,h,_⟩)
 ·exact h
 ·simp [E0] at h
 ·simp [E0] at h
theorem Ar8 {α:Type}{l:List α}(h:l.length=4):∃ a b c d,l=[a,b,c,d]:=by
 rcases l with _ | ⟨a,_ | ⟨b,_ | ⟨c,_ | ⟨d,_ | ⟨e,l⟩⟩⟩⟩⟩<;>simp at h
 exact ⟨a,b,c,d,rfl⟩
def RelL (w:World)(cs:List Value)(l:List AV):Prop:=cs.length=l.length∧∀ (j:Nat)(v:Value)(x:AV),cs[j]?=some v→l[j]?=some x→Rel E0 w v x
theorem RelL.one {w:World}{v:Value}{x:AV}(h:Rel E0 w v x):RelL w [v] [x]:=⟨rfl,fun j v' x' h1 h2=>by
 cases j with
 | zero=>simp at h1 h2;subst h1;subst h2;exact h
 | succ j=>simp at h1⟩
theorem RelL.get1 {w:World}{v:Value}{x:AV}(h:RelL w [v] [x]):Rel E0 w v x:=h.2 0 v x rfl rfl
theorem RelL.nil {w:World}:RelL w [] []:=⟨rfl,fun j v x h=>by simp at h⟩
theorem RelL.cons {w:World}{v:Value}{x:AV}{cs:List Value}{l:List AV}(h:Rel E0 w v x)(t:RelL w cs l):RelL w (v::cs) (x::l) :=
 ⟨by simp [t.1],fun j v' x' h1 h2=>by
   cases j with
   | zero=>simp at h1 h2;subst h1;subst h2;exact h
   | succ j=>exact t.2 j v' x' (by simpa using h1) (by simpa using h2)⟩
theorem RelL.agg {w:World}{cs:Array Value}{l:List AV}(h:RelL w cs.toList l):Rel E0 w (.agg cs) (.agg l):=.agg cs l (by simpa using h.1) (fun j v x h1 h2=>h.2 j v x (by simpa using h1) h2)
theorem Ag0 {α:Type}{Q:Nat→α→Prop}:∀ n:Nat,(∀ i,i<n→∃ x,Q i x)→∃ l:List α,l.length=n∧∀ i x,l[i]?=some x→Q i x
 | 0,_=>⟨[],rfl,fun i x h=>by simp at h⟩
 | n+1,h=>by
   obtain ⟨l,hl,hq⟩:=Ag0 n (fun i hi=>h i (by omega))
   obtain ⟨x,hx⟩:=h n (by omega)
   refine ⟨l++[x],by simp [hl],fun i y hy=>?_⟩
   rcases Nat.lt_or_ge i n with hi | hi
   ·rw [List.getElem?_append_left (by omega)] at hy;exact hq i y hy
   ·rw [List.getElem?_append_right (by omega)] at hy
    have:i=n:=by
     have:=Ad hy
     simp at this;omega
    subst this
    simp [hl] at hy;subst hy;exact hx
section
variable {H:Type}{enc:TypeId × Value→H}{P:Program}{w:World}{sp:Nat→Bool}{held:Bool}
theorem Ua {a:Addr}{n:Nat}{cs:List Value}(h:w.cells? 0 a n=some cs):cs.length=n∧∀ (j:Nat)(v:Value),cs[j]?=some v→w.cell? (a.add j)=some v:=by
 unfold World.cells? at h
 rw [if_pos (Nat.zero_le _)] at h
 have key:∀ (l:List Nat) (cs:List Value),(l.mapM fun i=>w.cell? (a.add i))=some cs→cs.length=l.length∧∀ (j:Nat) (v:Value),cs[j]?=some v→∃ k:Nat,l[j]?=some k∧w.cell? (a.add k)=some v:=by
  intro l
  induction l with
  | nil=>intro cs h;simp at h;subst h;exact ⟨rfl,fun j v h=>by simp at h⟩
  | cons k l ih =>
    intro cs h
    simp only [List.mapM_cons,Option.bind_eq_bind,Option.bind_eq_some_iff,Option.pure_def,Option.some.injEq] at h
    obtain ⟨v,hv,cs',hcs,rfl⟩:=h
    obtain ⟨h1,h2⟩:=ih cs' hcs
    refine ⟨by simp [h1],fun j u hu=>?_⟩
    cases j with
    | zero=>simp at hu;subst hu;exact ⟨k,rfl,hv⟩
    | succ j=>simpa using h2 j u (by simpa using hu)
 obtain ⟨h1,h2⟩:=key _ _ h
 refine ⟨by simpa using h1,fun j v hv=>?_⟩
 obtain ⟨k,hk,hc⟩:=h2 j v hv
 have:j<(List.range n).length:=Ad hk
 simp at this
 rw [List.getElem?_range this] at hk
 cases hk
 exact hc
theorem Sq {b o n:Nat}:(Addr.mk b o none).add n=⟨b,o+n,none⟩:=by
 unfold Addr.add
 split
 ·rename_i h;subst h;rfl
 ·rfl
theorem Ii {α:Type}{t e sz fuel:Nat}{cs:List Value}{x:DataW H × List MemPlace}(cells:α→List AV)(Q:α→Prop)(ht:P.underlying t=some (.slice e))(hc:P.cellsOf e=sz)(hsz:0<sz)(hcell:∀ y,(cells y).length=sz)
 (hel:∀ n,fuel=n+1→∀ (cs:List Value)(x:DataW H × List MemPlace),DataW.trod enc P w 0 sp held n e cs=some x→∃ y:α,Q y∧RelL w cs (cells y))(h:DataW.trod enc P w 0 sp held fuel t cs=some x) :
 ∃ l:List α,(∀ y,y∈l→Q y)∧l.length≤9223372036854775807∧RelL w cs [.sl (l.map cells) .no]:=by
 rcases DataW.trod_slice ht h with ⟨rfl,_⟩ | ⟨a,len,cap,elems,rest,n,hn,rfl,_,_,hcap,hmax,hlen,hall,_,_⟩
 ·refine ⟨[],(fun y hy=>by cases hy),by simp,RelL.one ?_⟩
  exact .sl [] .no none 0 0 0 0 0 (fun _ _=>default) rfl (Nat.zero_le _) (fun h=>absurd rfl h) (fun r hr=>by cases hr) (fun i j h=>by omega) (fun i j h=>by omega) (fun i j r x h=>by simp at h) trivial (Nat.le_refl _)
 ·have hml:maxLen=9223372036854775807:=by decide
  have hel':∀ i,i<len→∃ y:α,Q y∧∃ cs',w.cells? 0 (a.add (i*sz)) sz=some cs'∧RelL w cs' (cells y):=fun i hi=>by
   have h1:=hall i hi
   obtain ⟨z,hz⟩:=Ac elems (i:=i) (by omega)
   rw [hz,hc] at h1
   obtain ⟨cs',h2,h3⟩:=Option.bind_eq_some_iff.1 h1
   obtain ⟨y,hq,hr⟩:=hel n hn cs' z h3
   exact ⟨y,hq,cs',h2,hr⟩
  obtain ⟨l,hll,hl⟩:=Ag0 len hel'
  have hQ:∀ y,y∈l→Q y:=fun y hy=>by obtain ⟨i,hi⟩:=Bo hy;exact (hl i y hi).1
  refine ⟨l,hQ,by omega,RelL.one ?_⟩
  have ha:len≠0→a=⟨a.block,a.off,none⟩:=fun h0=>by
   obtain ⟨y,hy⟩:=Ac l (i:=0) (by omega)
   obtain ⟨_,cs',h1,h2⟩:=hl 0 y hy
   obtain ⟨h3,h4⟩:=Ua h1
   obtain ⟨v,hv⟩:=Ac cs' (i:=0) (by omega)
   have h5:=h4 0 v hv
   have h6:(a.add (0*sz)).add 0=a:=by simp [Addr.add]
   rw [h6] at h5
   obtain ⟨b,o,s⟩:=a
   unfold World.cell? at h5
   simp only at h5
   split at h5
   ·split at h5
    ·cases h5
    ·rename_i hs
     cases s with
     | none=>rfl
     | some s=>simp at hs
   ·cases h5
  have hcl:∀ i j:Nat,i<len→j<sz→∃ v,w.cell? ⟨a.block,a.off+i*sz+j,none⟩=some v:=fun i j hi hj=>by
   obtain ⟨y,hy⟩:=Ac l (i:=i) (by omega)
   obtain ⟨_,cs',h1,h2⟩:=hl i y hy
   obtain ⟨h3,h4⟩:=Ua h1
   obtain ⟨v,hv⟩:=Ac cs' (i:=j) (by omega)
   have h5:=h4 j v hv
   rw [ha (by omega),Sq,Sq] at h5
   exact ⟨v,h5⟩
  refine .sl _ .no (some a) len cap a.block a.off sz (fun i j=>(w.cell? ⟨a.block,a.off+i*sz+j,none⟩).getD default) (by simp [hll]) (by unfold M4;omega) (fun h0=>congrArg some (ha h0)) (fun r hr=>?_) (fun i j _ _=>Avu _ _) (fun i j hi hj=>?_) (fun i j r z h1 h2=>?_) trivial hcap
  ·obtain ⟨y,_,rfl⟩:=List.mem_map.1 hr;exact hcell y
  ·obtain ⟨v,hv⟩:=hcl i j hi hj
   rw [hv];rfl
  ·simp only [List.getElem?_map,Option.map_eq_some_iff] at h1
   obtain ⟨y,hy,rfl⟩:=h1
   obtain ⟨_,cs',h3,h4⟩:=hl i y hy
   have hi:i<len:=by have:=Ad hy;omega
   have hj:j<sz:=by have:=Ad h2;rw [hcell] at this;exact this
   obtain ⟨h5,h6⟩:=Ua h3
   obtain ⟨v,hv⟩:=Ac cs' (i:=j) (by omega)
   have h7:=h6 j v hv
   rw [ha (by omega),Sq,Sq] at h7
   show Rel E0 w ((w.cell? ⟨a.block,a.off+i*sz+j,none⟩).getD default) z
   rw [h7]
   exact h4.2 j v z hv h2
theorem Af8 {t fuel:Nat}{k:IntKind}{cs:List Value}{x:DataW H × List MemPlace}(ht:P.underlying t=some (.int k))(h:DataW.trod enc P w 0 sp held fuel t cs=some x):∃ n:Int,k.min≤n∧n≤k.max∧cs=[.int k n]:=by
 obtain ⟨n,rfl,_,h2⟩:=DataW.trod_int ht h
 simp only [Lit.wf,Bool.and_eq_true,decide_eq_true_eq] at h2
 exact ⟨n,h2.1,h2.2,rfl⟩
theorem Avg {t fuel:Nat}{cs:List Value}{x:DataW H × List MemPlace}(ht:P.underlying t=some .string)(h:DataW.trod enc P w 0 sp held fuel t cs=some x):∃ s:List UInt8,s.length≤9223372036854775807∧cs=[.string ⟨⟨s⟩⟩]:=by
 obtain ⟨s,rfl,_,h2⟩:=DataW.trod_string ht h
 obtain ⟨⟨s⟩⟩:=s
 exact ⟨s,by have:maxLen=9223372036854775807:=by decide
             have h3:s.length≤maxLen:=h2
             omega,rfl⟩
end
theorem Agu {n:Int}(h0:IntKind.i64.min≤n)(h1:n≤IntKind.i64.max):-9223372036854775808≤n∧n≤9223372036854775807:=by
 have a:IntKind.i64.min=-9223372036854775808:=by decide
 have b:IntKind.i64.max=9223372036854775807:=by decide
 omega
section
variable {H:Type}{enc:TypeId × Value→H}{w:World}{sp:Nat→Bool}{held:Bool}
theorem Arq:∀ (fuel:Nat)(cs:List Value)(x:DataW H × List MemPlace),DataW.trod enc Tryz.prog w 0 sp held fuel 24 cs=some x→∃ n:Nd,(PrI n∧LnI n)∧RelL w cs (Af n):=by
 intro fuel
 induction fuel using Nat.strongRecOn with
 | ind fuel ih =>
   intro cs x h
   obtain ⟨xs,n1,rfl,_,hl,hxs,hf⟩:=DataW.trod_struct Tryz.underlying24 h
   have hl4:cs.length=4:=hl.trans (by kernel_rfl)
   have hx4:xs.length=4:=hxs
   obtain ⟨c0,c1,c2,c3,rfl⟩:=Ar8 hl4
   obtain ⟨x0,hx0⟩:=Ac xs (i:=0) (by omega)
   obtain ⟨x1,hx1⟩:=Ac xs (i:=1) (by omega)
   obtain ⟨x2,hx2⟩:=Ac xs (i:=2) (by omega)
   obtain ⟨x3,hx3⟩:=Ac xs (i:=3) (by omega)
   have c3e:Tryz.prog.cellsOf 3=1:=by kernel_rfl
   have c9e:Tryz.prog.cellsOf 9=1:=by kernel_rfl
   have cse:Tryz.prog.cellsOf 22=1:=by kernel_rfl
   have f0:DataW.trod enc Tryz.prog w 0 sp held n1 3 (([c0,c1,c2,c3].drop 0).take (Tryz.prog.cellsOf 3))=some x0:=(hf 0 _ rfl).trans hx0
   have f1:DataW.trod enc Tryz.prog w 0 sp held n1 9 (([c0,c1,c2,c3].drop 1).take (Tryz.prog.cellsOf 9))=some x1:=(hf 1 _ rfl).trans hx1
   have f2:DataW.trod enc Tryz.prog w 0 sp held n1 3 (([c0,c1,c2,c3].drop 2).take (Tryz.prog.cellsOf 3))=some x2:=(hf 2 _ rfl).trans hx2
   have f3:DataW.trod enc Tryz.prog w 0 sp held n1 22 (([c0,c1,c2,c3].drop 3).take (Tryz.prog.cellsOf 22))=some x3:=(hf 3 _ rfl).trans hx3
   rw [c3e] at f0 f2
   rw [c9e] at f1
   rw [cse] at f3
   obtain ⟨k,k0,k1,e0⟩:=Af8 Tryz.underlying3 f0
   obtain ⟨s,s0,e1⟩:=Avg Tryz.underlying9 f1
   obtain ⟨m,m0,m1,e2⟩:=Af8 Tryz.underlying3 f2
   obtain ⟨l,hq,hll,e3⟩:=Ii Af (fun n=>PrI n∧LnI n) Tryz.underlying22 (show Tryz.prog.cellsOf 24=4 by kernel_rfl) (by decide) (fun y=>rfl) (fun n2 hn2 cs' x' hx'=>ih n2 (by omega) cs' x' hx') f3
   have e0':c0=.int .i64 k:=(List.cons.inj e0).1
   have e1':c1=.string ⟨⟨s⟩⟩:=(List.cons.inj e1).1
   have e2':c2=.int .i64 m:=(List.cons.inj e2).1
   have e3':RelL w [c3] [.sl (l.map Af) .no]:=e3
   subst e0';subst e1';subst e2'
   obtain ⟨m0,m1⟩:=Agu m0 m1
   refine ⟨.mk k s m l,⟨.mk k s m l m0 m1 fun x hx=>(hq x hx).1,.mk k s m l s0 hll fun x hx=>(hq x hx).2⟩,?_⟩
   show RelL w _ [_,_,_,.sl (Ak l) .no]
   rw [Al]
   exact .cons (.val _) (.cons (.val _) (.cons (.val _) e3'))
end
end Go.V
namespace Go.V
open Go Go.Proofs Go.ChangeShapes Go.WideShapes Go.ChangeAt Go.RowKit
section
variable {H:Type}{enc:TypeId × Value→H}{P:Program}{w:World}{sp:Nat→Bool}{held:Bool}
theorem An8 {t e n fuel:Nat}{cs:List Value}{d:DataW H}{ps:List MemPlace}(ht:P.underlying t=some (.array n e))(h:DataW.trod enc P w 0 sp held fuel t cs=some (d,ps)) :
 ∃ (xs:List (DataW H × List MemPlace)) (f:Nat),d=.agg (xs.map (·.1))∧cs.length=P.cellsOf t∧∀ i,i<n→DataW.trod enc P w 0 sp held f e ((cs.drop (i*P.cellsOf e)).take (P.cellsOf e))=xs[i]?:=by
 cases fuel with
 | zero=>simp [DataW.trod] at h
 | succ f =>
   unfold DataW.trod at h
   rw [ht] at h
   split at h<;>simp_all
   obtain ⟨hl,xs,hp,hd,_⟩:=h
   exact ⟨xs,hd.symm,f,fun i hi=>mapM_some_get hp i i (by simp [hi])⟩
theorem Aoa {t fuel:Nat}{ms:Array (String × TypeId)}{cs:List Value}{x:DataW H × List MemPlace}(ht:P.underlying t=some (.interface ms))(h:DataW.trod enc P w 0 sp held fuel t cs=some x):∃ v,cs=[v]∧(v=.nilIface∨∃ te pe,v=.iface te pe):=by
 cases fuel with
 | zero=>simp [DataW.trod] at h
 | succ f =>
   unfold DataW.trod at h
   rw [ht] at h
   split at h<;>simp_all
theorem Rm (hl:laidOutB P=true){W W':World}{sp':Nat→Bool}:∀ {ts:List TypeId}{vs:List Value}{ds:List (DataW H)}{ps:List MemPlace},(∀ t,t∈ts→P.readableRec t=true∧t<P.types.size) →
 DataW.TrodAll enc P W 0 (fun _=>true) true ts vs ds ps→(∀ p∈ps,W.sameAt W' p)→(∀ p∈ps,sp' p.block=true)→DataW.TrodAll enc P W' 0 sp' true ts vs ds ps
 | [],[],[],_,_,h,_,_=>h
 | t::ts,v::vs,d::ds,_,hr,⟨p,q,h1,h2,rfl⟩,hs,hb =>
   ⟨p,q,WideElems.Trod_stays hl (hr t (by simp)).1 (hr t (by simp)).2 h1 (fun x hx=>hs x (by simp [hx])) (fun x hx=>hb x (by simp [hx])),Rm hl (fun x hx=>hr x (by simp [hx])) h2 (fun x hx=>hs x (by simp [hx])) (fun x hx=>hb x (by simp [hx])),rfl⟩
 | [],_::_,_,_,_,h,_,_=>h.elim
 | [],[],_::_,_,_,h,_,_=>h.elim
 | _::_,[],_,_,_,h,_,_=>h.elim
 | _::_,_::_,[],_,_,h,_,_=>h.elim
end
def laidL:List (String × DataW Unit):=[("math/bits.deBruijn32tab",YtkbnfpldnpeliaaGreatDoor.Rows.laid_math_bits_deBruijn32tab),("math/bits.deBruijn64tab",YtkbnfpldnpeliaaGreatDoor.Rows.laid_math_bits_deBruijn64tab),("internal/strconv.uint64pow10",YtkbnfpldnpeliaaGreatDoor.Rows.laid_internal_strconv_uint64pow10),
 ("strconv.ErrRange",YtkbnfpldnpeliaaGreatDoor.Rows.laid_strconv_ErrRange),("strconv.ErrSyntax",YtkbnfpldnpeliaaGreatDoor.Rows.laid_strconv_ErrSyntax),("loop.example/g00093/impl.condWords",YtkbnfpldnpeliaaGreatDoor.Rows.laid_loop_example_g00093_impl_condWords)
 , ("loop.example/g00093/impl.none",YtkbnfpldnpeliaaGreatDoor.Rows.laid_loop_example_g00093_impl_none)
 ]
theorem Ai1 {W:World}(h:laidMetH Tryz.prog laidL W):laidMet Tryz.prog laidL W:=by
 have e:(laidL.filter fun x=>x.2.handleName?.isSome)=[]:=by kernel_rfl
 unfold laidMetH at h
 rw [e] at h
 exact h
def condB:List (List UInt8):=[[60],[60,61],[62],[62,61],[61,61],[33,61]]
theorem Ae1:condG=condB.map fun b=>.val (.string ⟨⟨b⟩⟩):=rfl
theorem Aim:(YtkbnfpldnpeliaaGreatDoor.Rows.laid_loop_example_g00093_impl_condWords:DataW Unit)=.agg (condB.map fun b=>.lit (.string b)):=rfl
theorem Al2 {W:World}{n:String}{d:DataW Unit}{g:Nat}(hg:Tryz.prog.globalNamed n=some g)(ht:(Tryz.prog.globals[g]?).map (·.type)=some 95)(h:Lib.VarReads Tryz.prog W n d):IfaceV W g:=by
 obtain ⟨g',t',cs,fuel,p,h1,h2,h3,h4⟩:=h
 obtain rfl:=Option.some.inj (hg.symm.trans h1)
 obtain rfl:=Option.some.inj (ht.symm.trans h2)
 obtain ⟨v,h5,h6⟩:=Aoa Tryz.underlying95 h4
 refine ⟨v,?_,h6⟩
 rw [World.var?_cell hg h3 0,← Array.getElem?_toList,h5];rfl
theorem Atc {W:World}(h:laidMetH Tryz.prog laidL W):gOk W:=by
 have hm:=Ai1 h
 constructor
 ·intro j x hx
  obtain ⟨g',t',cs,fuel,p,h1,h2,h3,h4⟩:=Lib.laidMet.reads hm (n := "loop.example/g00093/impl.condWords") (d:=YtkbnfpldnpeliaaGreatDoor.Rows.laid_loop_example_g00093_impl_condWords) (by unfold laidL;simp)
  have hg:Tryz.prog.globalNamed "loop.example/g00093/impl.condWords" = some 5:=by kernel_rfl
  have ht:(Tryz.prog.globals[5]?).map (·.type)=some 291:=by kernel_rfl
  obtain rfl:=Option.some.inj (hg.symm.trans h1)
  obtain rfl:=Option.some.inj (ht.symm.trans h2)
  obtain ⟨xs,f,hd,hl,hall⟩:=An8 Tryz.underlying291 h4
  have c9e:Tryz.prog.cellsOf 9=1:=by kernel_rfl
  have cae:Tryz.prog.cellsOf 291=6:=by kernel_rfl
  rw [cae] at hl
  rw [Aim] at hd
  have hd':condB.map (fun b=>(DataW.lit (.string b):DataW Unit))=xs.map (·.1):=DataW.agg.inj hd
  rw [Ae1] at hx
  simp only [List.getElem?_map,Option.map_eq_some_iff] at hx
  obtain ⟨b,hb,rfl⟩:=hx
  have hj:j<6:=Ad hb
  have h5:=hall j hj
  rw [c9e,Nat.mul_one] at h5
  have h6:=congrArg (fun l=>l[j]?) hd'
  simp only [List.getElem?_map,hb,Option.map_some] at h6
  cases hxj:xs[j]? with
  | none=>rw [hxj] at h6;cases h6
  | some z =>
    rw [hxj] at h5 h6
    obtain ⟨s,h7,h8,_⟩:=DataW.trod_string Tryz.underlying9 h5
    have h9:DataW.lit (.string b)=z.1:=Option.some.inj h6
    rw [h8] at h9
    have h10:b=s.data.toList:=Lit.string.inj (DataW.lit.inj h9)
    obtain ⟨v,hv⟩:=Ac cs.toList (i:=j) (by omega)
    have h11:cs.toList.drop j=v::cs.toList.drop (j+1):=Av hv
    rw [h11] at h7
    have h12:v=.string s:=(List.cons.inj h7).1
    refine ⟨.string s,?_,?_⟩
    ·rw [World.var?_cell hg h3 j,← Array.getElem?_toList,hv,h12]
    ·rw [h10]
 ·obtain ⟨g',t',cs,fuel,p,h1,h2,h3,h4⟩:=Lib.laidMet.reads hm (n := "internal/strconv.uint64pow10") (d:=YtkbnfpldnpeliaaGreatDoor.Rows.laid_internal_strconv_uint64pow10) (by unfold laidL;simp)
  have hg:Tryz.prog.globalNamed "internal/strconv.uint64pow10" = some 1:=by kernel_rfl
  have ht:(Tryz.prog.globals[1]?).map (·.type)=some 256:=by kernel_rfl
  obtain rfl:=Option.some.inj (hg.symm.trans h1)
  obtain rfl:=Option.some.inj (ht.symm.trans h2)
  have hd:(YtkbnfpldnpeliaaGreatDoor.Rows.laid_internal_strconv_uint64pow10:DataW Unit)=Lib.tabData .u64 Lib.pow10Tab:=by kernel_rfl
  rw [hd] at h4
  have h5:=Lib.cells_of_tab Tryz.underlying256 Tryz.underlying217 (by kernel_rfl) (by kernel_rfl) h4
  unfold World.var? at h3
  rw [hg] at h3
  simp only [Option.bind_some] at h3
  split at h3
  ·rename_i c e z hh
   refine ⟨e,z,?_⟩
   rw [hh]
   cases h3
   rw [← Array.toArray_toList (xs:=cs),h5]
  ·cases h3
 ·exact Al2 (by kernel_rfl) (by kernel_rfl) (Lib.laidMet.reads hm (n := "strconv.ErrSyntax") (d:=YtkbnfpldnpeliaaGreatDoor.Rows.laid_strconv_ErrSyntax) (by unfold laidL;simp))
 ·exact Al2 (by kernel_rfl) (by kernel_rfl) (Lib.laidMet.reads hm (n := "strconv.ErrRange") (d:=YtkbnfpldnpeliaaGreatDoor.Rows.laid_strconv_ErrRange) (by unfold laidL;simp))
 ·intro j x hx
  obtain ⟨g',t',cs,fuel,p,h1,h2,h3,h4⟩:=Lib.laidMet.reads hm (n := "loop.example/g00093/impl.none") (d:=YtkbnfpldnpeliaaGreatDoor.Rows.laid_loop_example_g00093_impl_none) (by unfold laidL;simp)
  have hg:Tryz.prog.globalNamed "loop.example/g00093/impl.none" = some 0:=by kernel_rfl
  have ht:(Tryz.prog.globals[0]?).map (·.type)=some 157:=by kernel_rfl
  obtain rfl:=Option.some.inj (hg.symm.trans h1)
  obtain rfl:=Option.some.inj (ht.symm.trans h2)
  obtain ⟨y0,y1,n1,hd,hl,f0,f1⟩:=trod_struct2 Tryz.underlying157 h4
  have hl2:cs.toList.length=2:=hl.trans (by kernel_rfl)
  obtain ⟨c0,c1,hcs⟩:∃ a b,cs.toList=[a,b]:=(fun l h=>by rcases l with _ | ⟨a,_ | ⟨b,_ | ⟨c,l⟩⟩⟩<;>simp at h;exact ⟨a,b,rfl⟩:∀ l:List Value,l.length=2→∃ a b,l=[a,b]) _ hl2
  rw [hcs] at f0 f1
  have c3:Tryz.prog.cellsOf 3=1:=by kernel_rfl
  have f0':DataW.trod _ Tryz.prog W 0 _ _ n1 3 (([c0,c1].drop 0).take (Tryz.prog.cellsOf 3))=some y0:=f0
  have f1':DataW.trod _ Tryz.prog W 0 _ _ n1 3 (([c0,c1].drop 1).take (Tryz.prog.cellsOf 3))=some y1:=f1
  rw [c3] at f0' f1'
  obtain ⟨m0,e0,d0,_⟩:=DataW.trod_int Tryz.underlying3 f0'
  obtain ⟨m1,e1,d1,_⟩:=DataW.trod_int Tryz.underlying3 f1'
  have hd':(DataW.agg [.lit (.int .i64 1),.lit (.int .i64 0)]:DataW Unit)=.agg [y0.1,y1.1]:=congrArg Prod.fst hd
  rw [d0,d1] at hd'
  injection hd' with hd'
  injection hd' with k0 k1
  injection k0 with k0
  injection k0 with _ k0
  injection k1 with k1 _
  injection k1 with k1
  injection k1 with _ k1
  subst k0;subst k1
  have e0':c0=.int .i64 1:=(List.cons.inj e0).1
  have e1':c1=.int .i64 0:=(List.cons.inj e1).1
  have hall:∀ v,cs.toList[j]?=some v→W.cell? ⟨0,j,none⟩=some v:=fun v hv=>by rw [World.var?_cell hg h3 j,← Array.getElem?_toList,hv]
  rw [hcs,e0',e1'] at hall
  match j,hx with
  | 0,hx=>cases hx;exact ⟨_,hall _ rfl,rfl⟩
  | 1,hx=>cases hx;exact ⟨_,hall _ rfl,rfl⟩
  | j+2,hx=>simp [Amg] at hx
theorem Av6 {W:World}(h:W.ShapedOpen Tryz.prog):gK≤W.heap.size:=by
 obtain ⟨o,_,h1,_⟩:=h.2 Tryz.prog.globals.size (Nat.le_refl _) (of_decide_eq_true (by kernel_rfl))
 have:=Kt h1
 unfold gK
 omega
theorem Axc {W:World}(h1:gK≤W.heap.size)(h2:gOk W):Inv X E0 ⟨[],[]⟩ W where
 nb:=rfl
 nt:=rfl
 np i h:=by simp [E0] at h
 box i b sz rows h:=by simp [E0] at h
 tok t l b c sz h:=by simp [E0] at h
 bb i j b s s' h:=by simp [E0] at h
 bt i t b s l c sz h:=by simp [E0] at h
 tt i j b l c s l' c' s' h:=by simp [E0] at h
 frlt b o h:=h.elim
 lo b h:=by
  rcases h with ⟨i,sz,h⟩ | ⟨t,l,c,sz,h⟩
  ·simp [E0] at h
  ·simp [E0] at h
 frlo b o h:=h.elim
 sz:=h1
 glob:=h2
theorem Aq3 {f:FuncId}{xs:List AV}{W:World}{args:Array Value}(hP:Pure X f xs (vb true))(hs:W.ShapedOpen Tryz.prog)(hL:laidMetH Tryz.prog laidL W)(hA:RelL W args.toList xs) :
 Calls Tryz.prog f args W fun e W'=>e=.returned (.bool true)∧Below W.heap.size W W':=by
 refine (hP.2 E0 W args rfl (Axc (Av6 hs) (Atc hL)) (by simpa using hA.1) (fun j v x h1 h2=>hA.2 j v x (by simpa using h1) h2)).mono fun e W' he=>?_
 obtain ⟨E',S',h1,h2,h3⟩:=he
 have ho:∀ b,¬ E0.own b:=fun b h=>by
  rcases h with ⟨i,sz,h⟩ | ⟨t,l,c,sz,h⟩
  ·simp [E0] at h
  ·simp [E0] at h
 refine ⟨?_,⟨h2.os,h2.tape,h2.output,h2.size,fun k hk=>h2.block k hk (ho k)⟩⟩
 cases e with
 | returned v =>
   obtain ⟨r,h4,h5,_⟩:=h3
   injection h5 with h5
   subst h5
   cases h4;rfl
 | panicked ch=>exact absurd h3.1 (by intro h;cases h)
 | outgrown=>exact h3.elim
set_option maxRecDepth 100000
theorem Apw {H:Type}{enc:TypeId × Value→H}{W:World}{base:Nat}{v:Value}{d:DataW H}{ps:List MemPlace}(hv:Value.okWide Tryz.prog W .any base 24 v)(h:DataW.Trod enc Tryz.prog W 0 (fun _=>true) true 24 v d ps) :
 ∃ n:Nd,PrI n∧LnI n∧Rel E0 W v (nd n):=by
 unfold Value.okWide at hv
 rw [Tryz.underlying24] at hv
 obtain ⟨cs,rfl,_⟩:=hv
 obtain ⟨fuel,h⟩:=h
 obtain ⟨n,⟨h1,h2⟩,h3⟩:=Arq fuel _ _ h
 exact ⟨n,h1,h2,h3.agg⟩
noncomputable def low:Nat:=(World.holding Tryz.prog default ⟨#[],#[],[]⟩).heap.size
def Axg:DataW Unit→Value
 | .lit (.int k n)=>.int k n
 | .lit (.string s)=>.string ⟨⟨s⟩⟩
 | _=>.nilIface
def Ak1:DataW Unit→Array Value
 | .agg l=>(l.map Axg).toArray
 | _=>#[]
def Asi:DataW Unit→Value
 | .iface _ (.ptr (.agg [.lit (.string s)]))=>.string ⟨⟨s⟩⟩
 | _=>.nilIface
def Afq (cs:Array Value):Obj→Obj
 | .cells _ t frozen=>.cells cs t frozen
 | o=>o
noncomputable def Al7 (os:Os):World :=
 let w0:=World.holding Tryz.prog os ⟨#[.cells #[Asi YtkbnfpldnpeliaaGreatDoor.Rows.laid_strconv_ErrSyntax] 322,.cells #[Asi YtkbnfpldnpeliaaGreatDoor.Rows.laid_strconv_ErrRange] 322],#[],[]⟩
 let h0:=(((((w0.heap.modify 5 (Afq (Ak1 YtkbnfpldnpeliaaGreatDoor.Rows.laid_loop_example_g00093_impl_condWords))).modify 6 (Afq #[.iface 320 (.pointer (some ⟨low,0,none⟩))])).modify 7 (Afq #[.iface 320 (.pointer (some ⟨low+1,0,none⟩))])).modify
  1 (Afq (Ak1 YtkbnfpldnpeliaaGreatDoor.Rows.laid_internal_strconv_uint64pow10))).modify 3 (Afq (Ak1 YtkbnfpldnpeliaaGreatDoor.Rows.laid_math_bits_deBruijn32tab))).modify 4 (Afq (Ak1 YtkbnfpldnpeliaaGreatDoor.Rows.laid_math_bits_deBruijn64tab))
 { w0 with heap:=h0.modify 0 (Afq (Ak1 YtkbnfpldnpeliaaGreatDoor.Rows.laid_loop_example_g00093_impl_none)) }
abbrev Apv:Value:=.agg #[.int .i64 0,.string ⟨#[]⟩,.int .i64 0,.slice none 0 0]
theorem Axk:ownKnob Tryz.prog.godebug=none:=by kernel_rfl
theorem Al6:laidOutB Tryz.prog=true:=by kernel_rfl
theorem Ao0:Tryz.prog.globalNamed "loop.example/g00093/impl.condWords" = some 5:=by kernel_rfl
theorem As5:(Tryz.prog.globals[5]?).map (·.type)=some 291:=by kernel_rfl
theorem As4:Tryz.prog.readableRec 291=true:=by kernel_rfl
theorem As3:291<Tryz.prog.types.size:=of_decide_eq_true (by kernel_rfl)
end Go.V
namespace Go.V
open Go Go.Proofs
def Rv {α:Type}(f:α→List AV)(z:List AV)(l:List α)(i:Nat):List (List AV):=(l.take i).map f++List.replicate (l.length-i) z
theorem Nw {α:Type}(f:α→List AV)(z:List AV){l:List α}{i:Nat}(h:i<l.length):(Rv f z l i)[i]?=some z:=by
 have:((l.take i).map f).length=i:=by simp;omega
 rw [Rv,List.getElem?_append_right (by omega),this,Nat.sub_self,List.getElem?_replicate,if_pos (by omega)]
theorem Ny {α:Type}(f:α→List AV)(z:List AV){l:List α}{i:Nat}{x:α}(h:l[i]?=some x):(Rv f z l i).set i (f x)=Rv f z l (i+1):=by
 have hi:=Ad h
 obtain ⟨c,hc⟩:∃ c,l.length-i=c+1:=⟨l.length-i-1,by omega⟩
 have hc2:l.length-(i+1)=c:=by omega
 rw [Rv,Rv,hc,hc2,List.take_add_one,h,Option.toList_some,List.map_append,List.replicate_succ]
 have:((l.take i).map f).length=i:=by simp;omega
 rw [List.set_append_right _ _ (by omega),this,Nat.sub_self,List.set_cons_zero,List.append_assoc];rfl
theorem Nv {α:Type}(f:α→List AV)(z:List AV)(l:List α):Rv f z l l.length=l.map f:=by simp [Rv]
theorem Nx {α:Type}(f:α→List AV)(z:List AV)(l:List α):Rv f z l 0=List.replicate (l.map f).length z:=by simp [Rv]
theorem AK.rbs {f:FuncId}{fn:Func}{F:B7}{bx:List (List (List AV))}{b n:Nat}{rows:List (List AV)}{k:List Item}(hf:X.P.funcs[f]?=some fn)(hb:bx[b]?=some rows)(hn:rows.length=n)(hl:n≤1000000000) [hok:OKR 0 0 rows]
 (h:Lv X F ⟨bx,[]⟩ fn.results.toList=some [.bsl b n]:=by rfl):AK X ⟨f,fn,0,0⟩ (.code .ret::k) F ⟨bx,[]⟩ fun e S'=>e=.ret (.sl rows .no)∧S'=⟨[],[]⟩:=by
 subst hn
 refine AK.retZ (B:=⟨f,fn,0,0⟩) hf h 0 (Nat.le_refl _) (r:=.sl rows .no) ?_ (fun rows hr=>by simp at hr) ⟨rfl,rfl⟩
 refine .bsl b rows.length rows rows (Nat.zero_le _) hb (Nat.le_refl _) (by unfold M4;omega) rfl (fun i r r' h1 h2=>?_) (fun i j r r' x y h1 h2 h3 h4=>?_)
 ·rw [h1] at h2;cases h2;rfl
 ·rw [h1] at h2;cases h2
  rw [h3] at h4;cases h4
  exact .same x (hok.ok r (List.mem_of_getElem? h1) x (List.mem_of_getElem? h3))
theorem A8 {α:Type}{f:α→List AV}{l:List α}{i:Nat}{x:α}(h:l[i]?=some x):(l.map f)[i]?=some (f x):=by simp [h]
abbrev I9 (n:Int):List AV:=[vi n]
instance {n m i:Nat}{l:List Int}:OKR n m (Rv I9 [vi 0] l i):=⟨fun r hr x hx=>by
 rcases List.mem_append.1 hr with h | h
 ·exact (inferInstance:OKR n m (I6 (l.take i))).ok r h x hx
 ·rw [List.eq_of_mem_replicate h] at hx;simp at hx;subst hx;exact .val _⟩
theorem Awx (l:List (Int))(hl:l.length≤1000000000)  : Pure X 59 [.sl (I6 l) .no] (.sl (I6 l) .no):=by
 have hlen:(I6 l).length=l.length:=by simp [I6]
 refine Pure.run Tryz.func59 ?_
 refine AK.op (Ndo.mkS (n:=(I6 l).length) (b:=0) (by rw [hlen];exact hl) rfl rfl rfl rfl rfl rfl rfl rfl rfl rfl) ?_
 refine AK.while_ (ι:=Nat) 1 0 (fun i=>i≤l.length) (fun i=>[(4,vi i),(3,.bsl 0 l.length),(0,.sl (I6 l) .no)]) (fun i=>⟨[Rv I9 [vi 0] l i],[]⟩) (fun i=>l.length-i) ?_ 0 (Nat.zero_le _)
  ⟨rfl,by rw [← hlen];rfl,rfl,trivial⟩ (congrArg (fun b=>St.mk [b] []) (Nx I9 [vi 0] l).symm)
 intro i hi IH
 refine AK.ei (fun h=>?_) (fun h=>?_)
 ·have hlt:i<l.length:=by have:=of_decide_eq_true h;rw [hlen] at this;omega
  obtain ⟨x,hx⟩:=Ac l hlt
  have hr:=Nw I9 [vi 0] hlt
  refine AK.ix i (by omega) (A8 (f:=I9) hx) ?_
  skip
  refine AK.atB i hlt hr ?_
  refine AK.stB hr ?_
  refine IH (i+1) hlt (by omega) _ _ ⟨vsx (by omega),rfl,rfl,trivial⟩ ?_ rfl rfl
  exact congrArg (fun b=>St.mk [b] []) (Ny I9 [vi 0] hx)
 ·have:i=l.length:=by have:=of_decide_eq_false h;rw [hlen] at this;omega
  subst this
  refine AK.rbs Tryz.func59 (b:=0) ?_ hlen hl
  show some (Rv I9 [vi 0] l l.length)=_
  rw [Nv];rfl
theorem Awr (l:List (Int))(hl:l.length≤1000000000)  : Pure X 63 [.sl (I6 l) .no,.sl (I6 l) .no] (vb true):=by
 have hlen:(I6 l).length=l.length:=by simp [I6]
 refine Pure.run Tryz.func63 ?_
 refine AK.no ?_ (ht:=by simp)
 refine AK.while_ (ι:=Nat) 0 0 (fun i=>i≤l.length) (fun i=>[(5,vi i),(0,.sl (I6 l) .no),(1,.sl (I6 l) .no)]) (fun i=>⟨[],[]⟩) (fun i=>l.length-i) ?_ 0 (Nat.zero_le _)
  ⟨rfl,rfl,rfl,trivial⟩
 intro i hi IH
 refine AK.ei (fun h=>?_) (fun h=>?_)
 ·have hlt:i<l.length:=by have:=of_decide_eq_true h;rw [hlen] at this;omega
  obtain ⟨x,hx⟩:=Ac l hlt
  refine AK.db 0 ?_
  refine Drv.ig i (by omega) (A8 (f:=I9) hx) ?_
  refine Drv.ig i (by omega) (A8 (f:=I9) hx) ?_
  skip
  refine Drv.z ?_
  refine AK.no ?_ (ht:=by simp)
  exact IH (i+1) hlt (by omega) _ _ ⟨vsx (by omega),rfl,rfl,trivial⟩ rfl rfl rfl
 ·exact AK.rz Tryz.func63 rfl
theorem Awu (rows:List (List AV)) [h:OKR 0 0 rows](left:Int)(h0:0≤left)(h1:left≤1048576)(hl:rows.length≤9223372036854775807):Pure X 48 [.sl rows .no,vi left] (vi (Eu rows.length left)):=by
 have hw:IntKind.i64.wrap (left-rows.length)=left-rows.length:=Aa (by omega) (by omega)
 have e0:Eu rows.length left=if left-rows.length<0 then -1 else left-rows.length:=by unfold Eu;split<;>split<;>omega
 rw [e0,← hw]
 refine Pure.run Tryz.func48 ?_
 refine AK.if_ (fun g=>?_) (fun g=>?_)
 ·refine AK.rz Tryz.func48 ?_
  rw [if_pos (of_decide_eq_true g)]
 ·refine AK.rz Tryz.func48 ?_
  rw [if_neg (of_decide_eq_false g)]
def isV (x:Int):Bool:=A0 x (-1000000) 1000000
theorem Ahh (x:Int):Pure X 183 [vi x] (vb (isV x)):=by
 refine Pure.run Tryz.func183 ?_
 refine AK.pc (D3 x (-1000000) 1000000) ?_
 exact AK.rz Tryz.func183 rfl
structure Vl where
 lo:Int
 hi:Int
 m:Bool
structure Sg where
 tm:List (List (Int × Int))
 vs:List Vl
 ms:List Bool
structure Ab where
 n:Int
 d:List Int
 sg:List Sg
abbrev C2 (c:Int × Int):List AV:=[vi c.1,vi c.2]
def G6 (l:List (Int × Int)):List (List AV):=l.map C2
abbrev Lr (l:List (Int × Int)):List AV:=[.sl (G6 l) .no]
def D9 (l:List (List (Int × Int))):List (List AV):=l.map Lr
abbrev Em (v:Vl):List AV:=[vi v.lo,vi v.hi,vb v.m]
def Rf (l:List Vl):List (List AV):=l.map Em
abbrev Km (b:Bool):List AV:=[vb b]
def T1 (l:List Bool):List (List AV):=l.map Km
abbrev B4 (s:Sg):List AV:=[.sl (D9 s.tm) .no,.sl (Rf s.vs) .no,.sl (T1 s.ms) .no]
def Nk (l:List Sg):List (List AV):=l.map B4
abbrev Di (a:Ab):List AV:=[vi a.n,.sl (I6 a.d) .no,.sl (Nk a.sg) .no]
abbrev ab (a:Ab):AV:=.agg (Di a)
instance {n m:Nat}{l:List (Int × Int)}:OKR n m (G6 l):=⟨fun r hr x hx=>by
 obtain ⟨e,_,rfl⟩:=List.mem_map.1 hr
 exact (inferInstance:OKL n m (C2 e)).ok x hx⟩
instance {n m i:Nat}{l:List (Int × Int)}:OKR n m (Rv C2 [vi 0,vi 0] l i):=⟨fun r hr x hx=>by
 rcases List.mem_append.1 hr with h | h
 ·exact (inferInstance:OKR n m (G6 (l.take i))).ok r h x hx
 ·rw [List.eq_of_mem_replicate h] at hx
  exact (inferInstance:OKL n m [vi 0,vi 0]).ok x hx⟩
instance {n m:Nat}{l:List (List (Int × Int))}:OKR n m (D9 l):=⟨fun r hr x hx=>by
 obtain ⟨e,_,rfl⟩:=List.mem_map.1 hr
 exact (inferInstance:OKL n m (Lr e)).ok x hx⟩
instance {n m i:Nat}{l:List (List (Int × Int))}:OKR n m (Rv Lr [.sl [] .tight] l i):=⟨fun r hr x hx=>by
 rcases List.mem_append.1 hr with h | h
 ·exact (inferInstance:OKR n m (D9 (l.take i))).ok r h x hx
 ·rw [List.eq_of_mem_replicate h] at hx
  exact (inferInstance:OKL n m [.sl [] .tight]).ok x hx⟩
instance {n m:Nat}{l:List (Vl)}:OKR n m (Rf l):=⟨fun r hr x hx=>by
 obtain ⟨e,_,rfl⟩:=List.mem_map.1 hr
 exact (inferInstance:OKL n m (Em e)).ok x hx⟩
instance {n m i:Nat}{l:List (Vl)}:OKR n m (Rv Em [vi 0,vi 0,vb false] l i):=⟨fun r hr x hx=>by
 rcases List.mem_append.1 hr with h | h
 ·exact (inferInstance:OKR n m (Rf (l.take i))).ok r h x hx
 ·rw [List.eq_of_mem_replicate h] at hx
  exact (inferInstance:OKL n m [vi 0,vi 0,vb false]).ok x hx⟩
instance {n m:Nat}{l:List (Bool)}:OKR n m (T1 l):=⟨fun r hr x hx=>by
 obtain ⟨e,_,rfl⟩:=List.mem_map.1 hr
 exact (inferInstance:OKL n m (Km e)).ok x hx⟩
instance {n m i:Nat}{l:List (Bool)}:OKR n m (Rv Km [vb false] l i):=⟨fun r hr x hx=>by
 rcases List.mem_append.1 hr with h | h
 ·exact (inferInstance:OKR n m (T1 (l.take i))).ok r h x hx
 ·rw [List.eq_of_mem_replicate h] at hx
  exact (inferInstance:OKL n m [vb false]).ok x hx⟩
instance {n m:Nat}{l:List (Sg)}:OKR n m (Nk l):=⟨fun r hr x hx=>by
 obtain ⟨e,_,rfl⟩:=List.mem_map.1 hr
 exact (inferInstance:OKL n m (B4 e)).ok x hx⟩
instance {n m i:Nat}{l:List (Sg)}:OKR n m (Rv B4 [.sl [] .tight,.sl [] .tight,.sl [] .tight] l i):=⟨fun r hr x hx=>by
 rcases List.mem_append.1 hr with h | h
 ·exact (inferInstance:OKR n m (Nk (l.take i))).ok r h x hx
 ·rw [List.eq_of_mem_replicate h] at hx
  exact (inferInstance:OKL n m [.sl [] .tight,.sl [] .tight,.sl [] .tight]).ok x hx⟩
theorem An4 (c:Int × Int):Pure X 184 [.agg (C2 c)] (.agg (C2 c)):=by
 refine Pure.run Tryz.func184 ?_
 exact AK.rz Tryz.func184 rfl
theorem Avd (l:List (Int × Int))(hl:l.length≤1000000000)  : Pure X 135 [.sl (G6 l) .no] (.sl (G6 l) .no):=by
 have hlen:(G6 l).length=l.length:=by simp [G6]
 refine Pure.run Tryz.func135 ?_
 refine AK.op (Ndo.mkS (n:=(G6 l).length) (b:=0) (by rw [hlen];exact hl) rfl rfl rfl rfl rfl rfl rfl rfl rfl rfl) ?_
 refine AK.while_ (ι:=Nat) 1 0 (fun i=>i≤l.length) (fun i=>[(4,vi i),(3,.bsl 0 l.length),(0,.sl (G6 l) .no)]) (fun i=>⟨[Rv C2 [vi 0,vi 0] l i],[]⟩) (fun i=>l.length-i) ?_ 0 (Nat.zero_le _)
  ⟨rfl,by rw [← hlen];rfl,rfl,trivial⟩ (congrArg (fun b=>St.mk [b] []) (Nx C2 [vi 0,vi 0] l).symm)
 intro i hi IH
 refine AK.ei (fun h=>?_) (fun h=>?_)
 ·have hlt:i<l.length:=by have:=of_decide_eq_true h;rw [hlen] at this;omega
  obtain ⟨x,hx⟩:=Ac l hlt
  have hr:=Nw C2 [vi 0,vi 0] hlt
  refine AK.ix i (by omega) (A8 (f:=C2) hx) ?_
  refine AK.pc (An4 x) ?_
  refine AK.atB i hlt hr ?_
  refine AK.stB hr ?_
  refine IH (i+1) hlt (by omega) _ _ ⟨vsx (by omega),rfl,rfl,trivial⟩ ?_ rfl rfl
  exact congrArg (fun b=>St.mk [b] []) (Ny C2 [vi 0,vi 0] hx)
 ·have:i=l.length:=by have:=of_decide_eq_false h;rw [hlen] at this;omega
  subst this
  refine AK.rbs Tryz.func135 (b:=0) ?_ hlen hl
  show some (Rv C2 [vi 0,vi 0] l l.length)=_
  rw [Nv];rfl
theorem Arj (l:List (List (Int × Int)))(hl:l.length≤1000000000)(h1:∀ x,x∈l→x.length≤1000000000):Pure X 96 [.sl (D9 l) .no] (.sl (D9 l) .no):=by
 have hlen:(D9 l).length=l.length:=by simp [D9]
 refine Pure.run Tryz.func96 ?_
 refine AK.op (Ndo.mkS (n:=(D9 l).length) (b:=0) (by rw [hlen];exact hl) rfl rfl rfl rfl rfl rfl rfl rfl rfl rfl) ?_
 refine AK.while_ (ι:=Nat) 1 0 (fun i=>i≤l.length) (fun i=>[(4,vi i),(3,.bsl 0 l.length),(0,.sl (D9 l) .no)]) (fun i=>⟨[Rv Lr [.sl [] .tight] l i],[]⟩) (fun i=>l.length-i) ?_ 0 (Nat.zero_le _)
  ⟨rfl,by rw [← hlen];rfl,rfl,trivial⟩ (congrArg (fun b=>St.mk [b] []) (Nx Lr [.sl [] .tight] l).symm)
 intro i hi IH
 refine AK.ei (fun h=>?_) (fun h=>?_)
 ·have hlt:i<l.length:=by have:=of_decide_eq_true h;rw [hlen] at this;omega
  obtain ⟨x,hx⟩:=Ac l hlt
  have hr:=Nw Lr [.sl [] .tight] hlt
  refine AK.ix i (by omega) (A8 (f:=Lr) hx) ?_
  refine AK.pc (Avd x (h1 x (List.mem_of_getElem? hx))) ?_
  refine AK.atB i hlt hr ?_
  refine AK.stB hr ?_
  refine IH (i+1) hlt (by omega) _ _ ⟨vsx (by omega),rfl,rfl,trivial⟩ ?_ rfl rfl
  exact congrArg (fun b=>St.mk [b] []) (Ny Lr [.sl [] .tight] hx)
 ·have:i=l.length:=by have:=of_decide_eq_false h;rw [hlen] at this;omega
  subst this
  refine AK.rbs Tryz.func96 (b:=0) ?_ hlen hl
  show some (Rv Lr [.sl [] .tight] l l.length)=_
  rw [Nv];rfl
theorem Aj7 (a b:Int):Pure X 185 [.agg [vi a,vi b]] (.agg [vi a,vi b]):=by
 refine Pure.run Tryz.func185 ?_
 exact AK.rz Tryz.func185 rfl
theorem Ark (v:Vl):Pure X 136 [.agg (Em v)] (.agg (Em v)):=by
 refine Pure.run Tryz.func136 ?_
 refine AK.pc (Aj7 v.lo v.hi) ?_
 exact AK.rz Tryz.func136 rfl
theorem Ave (l:List (Vl))(hl:l.length≤1000000000)  : Pure X 97 [.sl (Rf l) .no] (.sl (Rf l) .no):=by
 have hlen:(Rf l).length=l.length:=by simp [Rf]
 refine Pure.run Tryz.func97 ?_
 refine AK.op (Ndo.mkS (n:=(Rf l).length) (b:=0) (by rw [hlen];exact hl) rfl rfl rfl rfl rfl rfl rfl rfl rfl rfl) ?_
 refine AK.while_ (ι:=Nat) 1 0 (fun i=>i≤l.length) (fun i=>[(4,vi i),(3,.bsl 0 l.length),(0,.sl (Rf l) .no)]) (fun i=>⟨[Rv Em [vi 0,vi 0,vb false] l i],[]⟩) (fun i=>l.length-i) ?_ 0 (Nat.zero_le _)
  ⟨rfl,by rw [← hlen];rfl,rfl,trivial⟩ (congrArg (fun b=>St.mk [b] []) (Nx Em [vi 0,vi 0,vb false] l).symm)
 intro i hi IH
 refine AK.ei (fun h=>?_) (fun h=>?_)
 ·have hlt:i<l.length:=by have:=of_decide_eq_true h;rw [hlen] at this;omega
  obtain ⟨x,hx⟩:=Ac l hlt
  have hr:=Nw Em [vi 0,vi 0,vb false] hlt
  refine AK.ix i (by omega) (A8 (f:=Em) hx) ?_
  refine AK.pc (Ark x) ?_
  refine AK.atB i hlt hr ?_
  refine AK.stB hr ?_
  refine IH (i+1) hlt (by omega) _ _ ⟨vsx (by omega),rfl,rfl,trivial⟩ ?_ rfl rfl
  exact congrArg (fun b=>St.mk [b] []) (Ny Em [vi 0,vi 0,vb false] hx)
 ·have:i=l.length:=by have:=of_decide_eq_false h;rw [hlen] at this;omega
  subst this
  refine AK.rbs Tryz.func97 (b:=0) ?_ hlen hl
  show some (Rv Em [vi 0,vi 0,vb false] l l.length)=_
  rw [Nv];rfl
theorem Aww (l:List (Bool))(hl:l.length≤1000000000)  : Pure X 98 [.sl (T1 l) .no] (.sl (T1 l) .no):=by
 have hlen:(T1 l).length=l.length:=by simp [T1]
 refine Pure.run Tryz.func98 ?_
 refine AK.op (Ndo.mkS (n:=(T1 l).length) (b:=0) (by rw [hlen];exact hl) rfl rfl rfl rfl rfl rfl rfl rfl rfl rfl) ?_
 refine AK.while_ (ι:=Nat) 1 0 (fun i=>i≤l.length) (fun i=>[(4,vi i),(3,.bsl 0 l.length),(0,.sl (T1 l) .no)]) (fun i=>⟨[Rv Km [vb false] l i],[]⟩) (fun i=>l.length-i) ?_ 0 (Nat.zero_le _)
  ⟨rfl,by rw [← hlen];rfl,rfl,trivial⟩ (congrArg (fun b=>St.mk [b] []) (Nx Km [vb false] l).symm)
 intro i hi IH
 refine AK.ei (fun h=>?_) (fun h=>?_)
 ·have hlt:i<l.length:=by have:=of_decide_eq_true h;rw [hlen] at this;omega
  obtain ⟨x,hx⟩:=Ac l hlt
  have hr:=Nw Km [vb false] hlt
  refine AK.ix i (by omega) (A8 (f:=Km) hx) ?_
  skip
  refine AK.atB i hlt hr ?_
  refine AK.stB hr ?_
  refine IH (i+1) hlt (by omega) _ _ ⟨vsx (by omega),rfl,rfl,trivial⟩ ?_ rfl rfl
  exact congrArg (fun b=>St.mk [b] []) (Ny Km [vb false] hx)
 ·have:i=l.length:=by have:=of_decide_eq_false h;rw [hlen] at this;omega
  subst this
  refine AK.rbs Tryz.func98 (b:=0) ?_ hlen hl
  show some (Rv Km [vb false] l l.length)=_
  rw [Nv];rfl
structure SgOk (s:Sg):Prop where
 tm:s.tm.length≤1000000000
 rows:∀ x,x∈s.tm→x.length≤1000000000
 vs:s.vs.length≤1000000000
 ms:s.ms.length≤1000000000
structure AbOk (a:Ab):Prop where
 d:a.d.length≤1000000000
 sg:a.sg.length≤1000000000
 rows:∀ x,x∈a.sg→SgOk x
theorem Arh (s:Sg)(h:SgOk s):Pure X 60 [.agg (B4 s)] (.agg (B4 s)):=by
 refine Pure.run Tryz.func60 ?_
 refine AK.pc (Arj s.tm h.tm h.rows) ?_
 refine AK.pc (Ave s.vs h.vs) ?_
 refine AK.pc (Aww s.ms h.ms) ?_
 exact AK.rz Tryz.func60 rfl
theorem Ari (l:List (Sg))(hl:l.length≤1000000000)(h1:∀ x,x∈l→SgOk x):Pure X 35 [.sl (Nk l) .no] (.sl (Nk l) .no):=by
 have hlen:(Nk l).length=l.length:=by simp [Nk]
 refine Pure.run Tryz.func35 ?_
 refine AK.op (Ndo.mkS (n:=(Nk l).length) (b:=0) (by rw [hlen];exact hl) rfl rfl rfl rfl rfl rfl rfl rfl rfl rfl) ?_
 refine AK.while_ (ι:=Nat) 1 0 (fun i=>i≤l.length) (fun i=>[(4,vi i),(3,.bsl 0 l.length),(0,.sl (Nk l) .no)]) (fun i=>⟨[Rv B4 [.sl [] .tight,.sl [] .tight,.sl [] .tight] l i],[]⟩) (fun i=>l.length-i) ?_ 0 (Nat.zero_le _)
  ⟨rfl,by rw [← hlen];rfl,rfl,trivial⟩ (congrArg (fun b=>St.mk [b] []) (Nx B4 [.sl [] .tight,.sl [] .tight,.sl [] .tight] l).symm)
 intro i hi IH
 refine AK.ei (fun h=>?_) (fun h=>?_)
 ·have hlt:i<l.length:=by have:=of_decide_eq_true h;rw [hlen] at this;omega
  obtain ⟨x,hx⟩:=Ac l hlt
  have hr:=Nw B4 [.sl [] .tight,.sl [] .tight,.sl [] .tight] hlt
  refine AK.ix i (by omega) (A8 (f:=B4) hx) ?_
  refine AK.pc (Arh x (h1 x (List.mem_of_getElem? hx))) ?_
  refine AK.atB i hlt hr ?_
  refine AK.stB hr ?_
  refine IH (i+1) hlt (by omega) _ _ ⟨vsx (by omega),rfl,rfl,trivial⟩ ?_ rfl rfl
  exact congrArg (fun b=>St.mk [b] []) (Ny B4 [.sl [] .tight,.sl [] .tight,.sl [] .tight] hx)
 ·have:i=l.length:=by have:=of_decide_eq_false h;rw [hlen] at this;omega
  subst this
  refine AK.rbs Tryz.func35 (b:=0) ?_ hlen hl
  show some (Rv B4 [.sl [] .tight,.sl [] .tight,.sl [] .tight] l l.length)=_
  rw [Nv];rfl
theorem Aj6 (n:Int)(d:List Int)(h:d.length≤1000000000):Pure X 34 [.agg [vi n,.sl (I6 d) .no]] (.agg [vi n,.sl (I6 d) .no]):=by
 refine Pure.run Tryz.func34 ?_
 refine AK.pc (Awx d h) ?_
 exact AK.rz Tryz.func34 rfl
theorem Avc (a:Ab)(h:AbOk a):Pure X 11 [ab a] (ab a):=by
 refine Pure.run Tryz.func11 ?_
 refine AK.pc (Aj6 a.n a.d h.d) ?_
 refine AK.pc (Ari a.sg h.sg h.rows) ?_
 exact AK.rz Tryz.func11 rfl
theorem An3 (c:Int × Int):Pure X 201 [.agg (C2 c),.agg (C2 c)] (vb true):=by
 refine Pure.run Tryz.func201 ?_
 refine AK.no ?_ (ht:=by simp)
 refine AK.no ?_ (ht:=by simp)
 exact AK.rz Tryz.func201 rfl
theorem Au4 (l:List (Int × Int))(hl:l.length≤1000000000)  : Pure X 156 [.sl (G6 l) .no,.sl (G6 l) .no] (vb true):=by
 have hlen:(G6 l).length=l.length:=by simp [G6]
 refine Pure.run Tryz.func156 ?_
 refine AK.no ?_ (ht:=by simp)
 refine AK.while_ (ι:=Nat) 0 0 (fun i=>i≤l.length) (fun i=>[(5,vi i),(0,.sl (G6 l) .no),(1,.sl (G6 l) .no)]) (fun i=>⟨[],[]⟩) (fun i=>l.length-i) ?_ 0 (Nat.zero_le _)
  ⟨rfl,rfl,rfl,trivial⟩
 intro i hi IH
 refine AK.ei (fun h=>?_) (fun h=>?_)
 ·have hlt:i<l.length:=by have:=of_decide_eq_true h;rw [hlen] at this;omega
  obtain ⟨x,hx⟩:=Ac l hlt
  refine AK.db 0 ?_
  refine Drv.ig i (by omega) (A8 (f:=C2) hx) ?_
  refine Drv.ig i (by omega) (A8 (f:=C2) hx) ?_
  refine As (An3 x) ?_
  refine Drv.z ?_
  refine AK.no ?_ (ht:=by simp)
  exact IH (i+1) hlt (by omega) _ _ ⟨vsx (by omega),rfl,rfl,trivial⟩ rfl rfl rfl
 ·exact AK.rz Tryz.func156 rfl
theorem Ara (l:List (List (Int × Int)))(hl:l.length≤1000000000)(h1:∀ x,x∈l→x.length≤1000000000):Pure X 107 [.sl (D9 l) .no,.sl (D9 l) .no] (vb true):=by
 have hlen:(D9 l).length=l.length:=by simp [D9]
 refine Pure.run Tryz.func107 ?_
 refine AK.no ?_ (ht:=by simp)
 refine AK.while_ (ι:=Nat) 0 0 (fun i=>i≤l.length) (fun i=>[(5,vi i),(0,.sl (D9 l) .no),(1,.sl (D9 l) .no)]) (fun i=>⟨[],[]⟩) (fun i=>l.length-i) ?_ 0 (Nat.zero_le _)
  ⟨rfl,rfl,rfl,trivial⟩
 intro i hi IH
 refine AK.ei (fun h=>?_) (fun h=>?_)
 ·have hlt:i<l.length:=by have:=of_decide_eq_true h;rw [hlen] at this;omega
  obtain ⟨x,hx⟩:=Ac l hlt
  refine AK.db 0 ?_
  refine Drv.ig i (by omega) (A8 (f:=Lr) hx) ?_
  refine Drv.ig i (by omega) (A8 (f:=Lr) hx) ?_
  refine As (Au4 x (h1 x (List.mem_of_getElem? hx))) ?_
  refine Drv.z ?_
  refine AK.no ?_ (ht:=by simp)
  exact IH (i+1) hlt (by omega) _ _ ⟨vsx (by omega),rfl,rfl,trivial⟩ rfl rfl rfl
 ·exact AK.rz Tryz.func107 rfl
theorem Aj4 (a b:Int):Pure X 202 [.agg [vi a,vi b],.agg [vi a,vi b]] (vb true):=by
 refine Pure.run Tryz.func202 ?_
 refine AK.no ?_ (ht:=by simp)
 refine AK.no ?_ (ht:=by simp)
 exact AK.rz Tryz.func202 rfl
theorem Arb (v:Vl):Pure X 157 [.agg (Em v),.agg (Em v)] (vb true):=by
 refine Pure.run Tryz.func157 ?_
 refine AK.pc (Aj4 v.lo v.hi) ?_
 refine AK.no ?_
 refine AK.no ?_ (ht:=by simp)
 exact AK.rz Tryz.func157 rfl
theorem Au6 (l:List (Vl))(hl:l.length≤1000000000)  : Pure X 108 [.sl (Rf l) .no,.sl (Rf l) .no] (vb true):=by
 have hlen:(Rf l).length=l.length:=by simp [Rf]
 refine Pure.run Tryz.func108 ?_
 refine AK.no ?_ (ht:=by simp)
 refine AK.while_ (ι:=Nat) 0 0 (fun i=>i≤l.length) (fun i=>[(5,vi i),(0,.sl (Rf l) .no),(1,.sl (Rf l) .no)]) (fun i=>⟨[],[]⟩) (fun i=>l.length-i) ?_ 0 (Nat.zero_le _)
  ⟨rfl,rfl,rfl,trivial⟩
 intro i hi IH
 refine AK.ei (fun h=>?_) (fun h=>?_)
 ·have hlt:i<l.length:=by have:=of_decide_eq_true h;rw [hlen] at this;omega
  obtain ⟨x,hx⟩:=Ac l hlt
  refine AK.db 0 ?_
  refine Drv.ig i (by omega) (A8 (f:=Em) hx) ?_
  refine Drv.ig i (by omega) (A8 (f:=Em) hx) ?_
  refine As (Arb x) ?_
  refine Drv.z ?_
  refine AK.no ?_ (ht:=by simp)
  exact IH (i+1) hlt (by omega) _ _ ⟨vsx (by omega),rfl,rfl,trivial⟩ rfl rfl rfl
 ·exact AK.rz Tryz.func108 rfl
theorem Awq (l:List (Bool))(hl:l.length≤1000000000)  : Pure X 109 [.sl (T1 l) .no,.sl (T1 l) .no] (vb true):=by
 have hlen:(T1 l).length=l.length:=by simp [T1]
 refine Pure.run Tryz.func109 ?_
 refine AK.no ?_ (ht:=by simp)
 refine AK.while_ (ι:=Nat) 0 0 (fun i=>i≤l.length) (fun i=>[(5,vi i),(0,.sl (T1 l) .no),(1,.sl (T1 l) .no)]) (fun i=>⟨[],[]⟩) (fun i=>l.length-i) ?_ 0 (Nat.zero_le _)
  ⟨rfl,rfl,rfl,trivial⟩
 intro i hi IH
 refine AK.ei (fun h=>?_) (fun h=>?_)
 ·have hlt:i<l.length:=by have:=of_decide_eq_true h;rw [hlen] at this;omega
  obtain ⟨x,hx⟩:=Ac l hlt
  refine AK.db 0 ?_
  refine Drv.ig i (by omega) (A8 (f:=Km) hx) ?_
  refine Drv.ig i (by omega) (A8 (f:=Km) hx) ?_
  skip
  refine Drv.z ?_
  refine AK.no ?_ (ht:=by simp)
  exact IH (i+1) hlt (by omega) _ _ ⟨vsx (by omega),rfl,rfl,trivial⟩ rfl rfl rfl
 ·exact AK.rz Tryz.func109 rfl
theorem Aq8 (s:Sg)(h:SgOk s):Pure X 64 [.agg (B4 s),.agg (B4 s)] (vb true):=by
 refine Pure.run Tryz.func64 ?_
 refine AK.pc (Ara s.tm h.tm h.rows) ?_
 refine AK.no ?_
 refine AK.pc (Au6 s.vs h.vs) ?_
 refine AK.no ?_
 refine AK.pc (Awq s.ms h.ms) ?_
 refine AK.no ?_
 exact AK.rz Tryz.func64 rfl
theorem Aq9 (l:List (Sg))(hl:l.length≤1000000000)(h1:∀ x,x∈l→SgOk x):Pure X 39 [.sl (Nk l) .no,.sl (Nk l) .no] (vb true):=by
 have hlen:(Nk l).length=l.length:=by simp [Nk]
 refine Pure.run Tryz.func39 ?_
 refine AK.no ?_ (ht:=by simp)
 refine AK.while_ (ι:=Nat) 0 0 (fun i=>i≤l.length) (fun i=>[(5,vi i),(0,.sl (Nk l) .no),(1,.sl (Nk l) .no)]) (fun i=>⟨[],[]⟩) (fun i=>l.length-i) ?_ 0 (Nat.zero_le _)
  ⟨rfl,rfl,rfl,trivial⟩
 intro i hi IH
 refine AK.ei (fun h=>?_) (fun h=>?_)
 ·have hlt:i<l.length:=by have:=of_decide_eq_true h;rw [hlen] at this;omega
  obtain ⟨x,hx⟩:=Ac l hlt
  refine AK.db 0 ?_
  refine Drv.ig i (by omega) (A8 (f:=B4) hx) ?_
  refine Drv.ig i (by omega) (A8 (f:=B4) hx) ?_
  refine As (Aq8 x (h1 x (List.mem_of_getElem? hx))) ?_
  refine Drv.z ?_
  refine AK.no ?_ (ht:=by simp)
  exact IH (i+1) hlt (by omega) _ _ ⟨vsx (by omega),rfl,rfl,trivial⟩ rfl rfl rfl
 ·exact AK.rz Tryz.func39 rfl
theorem Aj3 (n:Int)(d:List Int)(h:d.length≤1000000000):Pure X 38 [.agg [vi n,.sl (I6 d) .no],.agg [vi n,.sl (I6 d) .no]] (vb true):=by
 refine Pure.run Tryz.func38 ?_
 refine AK.no ?_ (ht:=by simp)
 refine AK.pc (Awr d h) ?_
 refine AK.no ?_
 exact AK.rz Tryz.func38 rfl
theorem Au3 (a:Ab)(h:AbOk a):Pure X 14 [ab a,ab a] (vb true):=by
 refine Pure.run Tryz.func14 ?_
 refine AK.pc (Aj3 a.n a.d h.d) ?_
 refine AK.no ?_
 refine AK.pc (Aq9 a.sg h.sg h.rows) ?_
 refine AK.no ?_
 exact AK.rz Tryz.func14 rfl
theorem Au8 (rows:List (List AV)) [h:OKR 0 0 rows](left:Int)(h0:0≤left)(h1:left≤1048576)(hl:rows.length≤9223372036854775807):Pure X 124 [.sl rows .no,vi left] (vi (Eu rows.length left)):=by
 have hw:IntKind.i64.wrap (left-rows.length)=left-rows.length:=Aa (by omega) (by omega)
 have e0:Eu rows.length left=if left-rows.length<0 then -1 else left-rows.length:=by unfold Eu;split<;>split<;>omega
 rw [e0,← hw]
 refine Pure.run Tryz.func124 ?_
 refine AK.if_ (fun g=>?_) (fun g=>?_)
 ·refine AK.rz Tryz.func124 ?_
  rw [if_pos (of_decide_eq_true g)]
 ·refine AK.rz Tryz.func124 ?_
  rw [if_neg (of_decide_eq_false g)]
theorem Ava (rows:List (List AV)) [h:OKR 0 0 rows](left:Int)(h0:0≤left)(h1:left≤1048576)(hl:rows.length≤9223372036854775807):Pure X 81 [.sl rows .no,vi left] (vi (Eu rows.length left)):=by
 have hw:IntKind.i64.wrap (left-rows.length)=left-rows.length:=Aa (by omega) (by omega)
 have e0:Eu rows.length left=if left-rows.length<0 then -1 else left-rows.length:=by unfold Eu;split<;>split<;>omega
 rw [e0,← hw]
 refine Pure.run Tryz.func81 ?_
 refine AK.if_ (fun g=>?_) (fun g=>?_)
 ·refine AK.rz Tryz.func81 ?_
  rw [if_pos (of_decide_eq_true g)]
 ·refine AK.rz Tryz.func81 ?_
  rw [if_neg (of_decide_eq_false g)]
theorem Awt (rows:List (List AV)) [h:OKR 0 0 rows](left:Int)(h0:0≤left)(h1:left≤1048576)(hl:rows.length≤9223372036854775807):Pure X 82 [.sl rows .no,vi left] (vi (Eu rows.length left)):=by
 have hw:IntKind.i64.wrap (left-rows.length)=left-rows.length:=Aa (by omega) (by omega)
 have e0:Eu rows.length left=if left-rows.length<0 then -1 else left-rows.length:=by unfold Eu;split<;>split<;>omega
 rw [e0,← hw]
 refine Pure.run Tryz.func82 ?_
 refine AK.if_ (fun g=>?_) (fun g=>?_)
 ·refine AK.rz Tryz.func82 ?_
  rw [if_pos (of_decide_eq_true g)]
 ·refine AK.rz Tryz.func82 ?_
  rw [if_neg (of_decide_eq_false g)]
def swY:List (List (Int × Int))→Nat
 | []=>0
 | x::l=>x.length+swY l
structure SgLn (s:Sg):Prop where
 tm:s.tm.length≤9223372036854775807
 rows:∀ x,x∈s.tm→x.length≤9223372036854775807
 vs:s.vs.length≤9223372036854775807
 ms:s.ms.length≤9223372036854775807
def Yz (s:Sg):Nat:=s.tm.length+swY s.tm+(s.vs.length+s.ms.length)
def P9:List Sg→Nat
 | []=>0
 | x::l=>Yz x+P9 l
structure AbLn (a:Ab):Prop where
 d:a.d.length≤9223372036854775807
 sg:a.sg.length≤9223372036854775807
 rows:∀ x,x∈a.sg→SgLn x
def Yl (a:Ab):Nat:=a.d.length+(a.sg.length+P9 a.sg)
theorem Are (x:List (Int × Int))(lf:Int)(h0:0≤lf)(h1:lf≤1048576)(h:x.length≤9223372036854775807):Pure X 124 [.sl (G6 x) .no,vi lf] (vi (Eu x.length lf)):=by
 have hlen:(G6 x).length=x.length:=by simp [G6]
 have:=Au8 (G6 x) lf h0 h1 (by rw [hlen];exact h)
 rwa [hlen] at this
theorem Arf (l:List (List (Int × Int)))(left:Int)(h0:0≤left)(h1:left≤1048576)(hl:l.length≤9223372036854775807)(hx:∀ x,x∈l→x.length≤9223372036854775807) :
 Pure X 80 [.sl (D9 l) .no,vi left] (vi (Eu (l.length+swY l) left)):=by
 have hlen:(D9 l).length=l.length:=by simp [D9]
 have hw:IntKind.i64.wrap (left-(D9 l).length)=left-l.length:=by rw [hlen];exact Aa (by omega) (by omega)
 refine Pure.run Tryz.func80 ?_
 refine AK.if_ (fun g=>?_) (fun g=>?_)
 ·have g':=of_decide_eq_true g
  rw [hw] at g'
  refine AK.rz Tryz.func80 ?_
  rw [Jr (by omega)]
 have g':=of_decide_eq_false g
 rw [hw] at g'
 have e0:Eu (l.length+swY l) left=Eu (swY l) (IntKind.i64.wrap (left-(D9 l).length)):=by rw [hw,Gu (by omega)]
 rw [e0]
 have hb:0≤IntKind.i64.wrap (left-(D9 l).length)∧IntKind.i64.wrap (left-(D9 l).length)≤1048576:=by rw [hw];omega
 generalize IntKind.i64.wrap (left-(D9 l).length)=lf0 at hb
 refine AK.while_ (ι:=Nat × Int) 0 0 (fun i=>i.1≤l.length∧0≤i.2∧i.2≤1048576∧Eu (swY l) lf0=Eu (swY (l.drop i.1)) i.2) (fun i=>[(5,vi i.1),(1,vi i.2),(0,.sl (D9 l) .no)]) (fun _=>⟨[],[]⟩) (fun i=>l.length-i.1) ?_ (0,lf0) ⟨Nat.zero_le _,hb.1,hb.2,rfl⟩
  ⟨rfl,rfl,rfl,trivial⟩
 rintro ⟨i,lf⟩ ⟨hi,hp0,hp1,hT⟩ IH
 simp only at hi hp0 hp1 hT IH ⊢
 refine AK.ei (fun h=>?_) (fun h=>?_)
 ·have hlt:i<l.length:=by have:=of_decide_eq_true h;rw [hlen] at this;omega
  obtain ⟨x,hx1⟩:=Ac l hlt
  rw [Av hx1] at hT
  simp only [swY] at hT
  have hs:Pure X 124 [.sl (G6 x) .no,vi lf] (vi (Eu (x.length) lf)):=Are x lf hp0 hp1 (hx x (List.mem_of_getElem? hx1))
  refine AK.ix i (by omega) (A8 (f:=Lr) hx1) ?_
  refine AK.pc hs ?_
  refine AK.if_ (fun g2=>?_) (fun g2=>?_)
  ·have g2':=Hf hp0 (of_decide_eq_true g2)
   refine AK.rz Tryz.func80 ?_
   rw [hT,Jr g2'.2]
  ·have g2':=I2 (show 0≤Eu (x.length) lf by have:=of_decide_eq_false g2;omega)
   refine IH (i+1,Eu (x.length) lf) ⟨hlt,?_,?_,?_⟩ (by simp only;omega) _ _ ⟨A5 ((Aa (by omega) (by omega)).trans (by simp)),rfl,rfl,trivial⟩ rfl rfl rfl
   ·show 0≤Eu (x.length) lf;omega
   ·show Eu (x.length) lf≤_;omega
   ·rw [hT,Gu g2'.2,g2'.1]
 ·have:i=l.length:=by have:=of_decide_eq_false h;rw [hlen] at this;omega
  subst this
  rw [List.drop_length] at hT
  refine AK.rz Tryz.func80 ?_
  rw [hT]
  unfold Eu swY
  rw [if_pos (by simpa using hp0)];simp
theorem Arc (s:Sg)(hs:SgLn s)(left:Int)(h0:0≤left)(h1:left≤1048576):Pure X 49 [.agg (B4 s),vi left] (vi (Eu (Yz s) left)):=by
 have lv:(Rf s.vs).length=s.vs.length:=by simp [Rf]
 have lm:(T1 s.ms).length=s.ms.length:=by simp [T1]
 refine Pure.run Tryz.func49 ?_
 refine AK.pc (Arf s.tm left h0 h1 hs.tm hs.rows) ?_
 unfold Yz
 refine AK.if_ (fun g=>?_) (fun g=>?_)
 ·have g':=Hf h0 (of_decide_eq_true g)
  refine AK.rz Tryz.func49 ?_
  rw [Jr g'.2]
 have k0:=I2 (show 0≤Eu (s.tm.length+swY s.tm) left by have:=of_decide_eq_false g;omega)
 rw [Gu k0.2,← k0.1]
 have b0:0≤Eu (s.tm.length+swY s.tm) left∧Eu (s.tm.length+swY s.tm) left≤1048576:=by omega
 generalize Eu (s.tm.length+swY s.tm) left=l1 at b0
 have hv:=Ava (Rf s.vs) l1 b0.1 b0.2 (by rw [lv];exact hs.vs)
 rw [lv] at hv
 refine AK.pc hv ?_
 refine AK.if_ (fun g=>?_) (fun g=>?_)
 ·have g':=Hf b0.1 (of_decide_eq_true g)
  refine AK.rz Tryz.func49 ?_
  rw [Jr g'.2]
 have k1:=I2 (show 0≤Eu s.vs.length l1 by have:=of_decide_eq_false g;omega)
 rw [Gu k1.2,← k1.1]
 have b1:0≤Eu s.vs.length l1∧Eu s.vs.length l1≤1048576:=by omega
 generalize Eu s.vs.length l1=l2 at b1
 have hm:=Awt (T1 s.ms) l2 b1.1 b1.2 (by rw [lm];exact hs.ms)
 rw [lm] at hm
 refine AK.pc hm ?_
 refine AK.if_ (fun g=>?_) (fun g=>?_)
 ·have g':=Hf b1.1 (of_decide_eq_true g)
  refine AK.rz Tryz.func49 ?_
  rw [g'.1]
 ·exact AK.rz Tryz.func49 rfl
theorem Ard (l:List (Sg))(left:Int)(h0:0≤left)(h1:left≤1048576)(hl:l.length≤9223372036854775807)(hx:∀ x,x∈l→SgLn x) :
 Pure X 29 [.sl (Nk l) .no,vi left] (vi (Eu (l.length+P9 l) left)):=by
 have hlen:(Nk l).length=l.length:=by simp [Nk]
 have hw:IntKind.i64.wrap (left-(Nk l).length)=left-l.length:=by rw [hlen];exact Aa (by omega) (by omega)
 refine Pure.run Tryz.func29 ?_
 refine AK.if_ (fun g=>?_) (fun g=>?_)
 ·have g':=of_decide_eq_true g
  rw [hw] at g'
  refine AK.rz Tryz.func29 ?_
  rw [Jr (by omega)]
 have g':=of_decide_eq_false g
 rw [hw] at g'
 have e0:Eu (l.length+P9 l) left=Eu (P9 l) (IntKind.i64.wrap (left-(Nk l).length)):=by rw [hw,Gu (by omega)]
 rw [e0]
 have hb:0≤IntKind.i64.wrap (left-(Nk l).length)∧IntKind.i64.wrap (left-(Nk l).length)≤1048576:=by rw [hw];omega
 generalize IntKind.i64.wrap (left-(Nk l).length)=lf0 at hb
 refine AK.while_ (ι:=Nat × Int) 0 0 (fun i=>i.1≤l.length∧0≤i.2∧i.2≤1048576∧Eu (P9 l) lf0=Eu (P9 (l.drop i.1)) i.2) (fun i=>[(5,vi i.1),(1,vi i.2),(0,.sl (Nk l) .no)]) (fun _=>⟨[],[]⟩) (fun i=>l.length-i.1) ?_ (0,lf0) ⟨Nat.zero_le _,hb.1,hb.2,rfl⟩
  ⟨rfl,rfl,rfl,trivial⟩
 rintro ⟨i,lf⟩ ⟨hi,hp0,hp1,hT⟩ IH
 simp only at hi hp0 hp1 hT IH ⊢
 refine AK.ei (fun h=>?_) (fun h=>?_)
 ·have hlt:i<l.length:=by have:=of_decide_eq_true h;rw [hlen] at this;omega
  obtain ⟨x,hx1⟩:=Ac l hlt
  rw [Av hx1] at hT
  simp only [P9] at hT
  have hs:Pure X 49 [.agg (B4 x),vi lf] (vi (Eu (Yz x) lf)):=Arc x (hx x (List.mem_of_getElem? hx1)) lf hp0 hp1
  refine AK.ix i (by omega) (A8 (f:=B4) hx1) ?_
  refine AK.pc hs ?_
  refine AK.if_ (fun g2=>?_) (fun g2=>?_)
  ·have g2':=Hf hp0 (of_decide_eq_true g2)
   refine AK.rz Tryz.func29 ?_
   rw [hT,Jr g2'.2]
  ·have g2':=I2 (show 0≤Eu (Yz x) lf by have:=of_decide_eq_false g2;omega)
   refine IH (i+1,Eu (Yz x) lf) ⟨hlt,?_,?_,?_⟩ (by simp only;omega) _ _ ⟨A5 ((Aa (by omega) (by omega)).trans (by simp)),rfl,rfl,trivial⟩ rfl rfl rfl
   ·show 0≤Eu (Yz x) lf;omega
   ·show Eu (Yz x) lf≤_;omega
   ·rw [hT,Gu g2'.2,g2'.1]
 ·have:i=l.length:=by have:=of_decide_eq_false h;rw [hlen] at this;omega
  subst this
  rw [List.drop_length] at hT
  refine AK.rz Tryz.func29 ?_
  rw [hT]
  unfold Eu P9
  rw [if_pos (by simpa using hp0)];simp
theorem Aj5 (n:Int)(d:List Int)(hd:d.length≤9223372036854775807)(left:Int)(h0:0≤left)(h1:left≤1048576):Pure X 28 [.agg [vi n,.sl (I6 d) .no],vi left] (vi (Eu d.length left)):=by
 have l1:(I6 d).length=d.length:=J3 _
 have hI:=Awu (I6 d) left h0 h1 (by rw [l1];exact hd)
 rw [l1] at hI
 refine Pure.run Tryz.func28 ?_
 refine AK.pc hI ?_
 refine AK.if_ (fun g=>?_) (fun g=>?_)
 ·have g':=Hf h0 (of_decide_eq_true g)
  refine AK.rz Tryz.func28 ?_
  rw [g'.1]
 ·exact AK.rz Tryz.func28 rfl
theorem Au7 (a:Ab)(ha:AbLn a)(left:Int)(h0:0≤left)(h1:left≤1048576):Pure X 8 [ab a,vi left] (vi (Eu (Yl a) left)):=by
 refine Pure.run Tryz.func8 ?_
 refine AK.pc (Aj5 a.n a.d ha.d left h0 h1) ?_
 unfold Yl
 refine AK.if_ (fun g=>?_) (fun g=>?_)
 ·have g':=Hf h0 (of_decide_eq_true g)
  refine AK.rz Tryz.func8 ?_
  rw [Jr g'.2]
 have k1:=I2 (show 0≤Eu a.d.length left by have:=of_decide_eq_false g;omega)
 rw [Gu k1.2,← k1.1]
 have b1:0≤Eu a.d.length left∧Eu a.d.length left≤1048576:=by omega
 generalize Eu a.d.length left=l2 at b1
 refine AK.pc (Ard a.sg l2 b1.1 b1.2 ha.sg ha.rows) ?_
 refine AK.if_ (fun g=>?_) (fun g=>?_)
 ·have g':=Hf b1.1 (of_decide_eq_true g)
  refine AK.rz Tryz.func8 ?_
  rw [g'.1]
 ·exact AK.rz Tryz.func8 rfl
theorem Qd {X:Cx}{S:St}{F:B7}{N:Nat}{ops:Array Oper}{i:Nat}{o:Oper}{p q:Operand}{t t':TypeId}{op:BinOp}{k:IntKind}{x y:Int}{v:Value}(h:O4 op k x y true=some v)(ho:ops[i]?=some o:=by rfl)(hw:A6 ops F o=some true:=by rfl)
 (hop:o.op=.binOp op t p q t':=by rfl)(hp:Cr X F p=some (.val (.int k x)):=by rfl)(hq:Cr X F q=some (.val (.int k y)):=by rfl):Ndo X N ops i o F (.val v) S S:=by
 refine Ndo.val ho hw fun F' E w a hc hI hF=>?_
 rw [hop] at hc
 have r1:=Ag hI hF ((hc p (by simp [Op.operands])).trans hp)
 have r2:=Ag hI hF ((hc q (by simp [Op.operands])).trans hq)
 generalize hx:a.eval p=vx at r1
 generalize hy:a.eval q=vy at r2
 cases r1
 cases r2
 exact ⟨v,by simp [execOp,hop,hx,hy,eqGuard,Vt h t],.val _⟩
def Kr (i j:Nat):Int:=if i=j then 0 else if i=0∨j=0 then 1000000 else 2000000
def okD (m k:Nat)(x:Int):Bool:=A0 x (-2000000) (Kr (k / m) (k % m))&&(!(((k / m:Nat):Int)==(k % m:Nat))||(x==0))
def T6 (m:Nat):Nat→List Int→Bool
 | _,[]=>true
 | k,x::l=>okD m k x&&T6 m (k+1) l
def Iv (n:Int)(d:List Int):Bool:=A0 n 1 13&&(((d.length:Int)==n*n)&&T6 n.toNat 0 d)
abbrev H6 (n:Int)(d:List Int):List AV:=[vi n,.sl (I6 d) .no]
def Ex (n:Int)(d:List Int):Bool:=(n==0)&&((d.length:Int)==0)
theorem Acl {m k:Nat}{d:List Int}{x:Int}(h:d[k]?=some x):T6 m k (d.drop k)=(okD m k x&&T6 m (k+1) (d.drop (k+1))):=by rw [Av h];rfl
theorem Ahm (i j:Nat):Pure X 117 [vi i,vi j] (vi (Kr i j)):=by
 refine Pure.run Tryz.func117 ?_
 refine AK.if_ (fun g=>?_) (fun g=>?_)
 ·have g':i=j:=by have:((i:Int)==j)=true:=g;simp at this;omega
  refine AK.rz Tryz.func117 ?_
  unfold Kr;rw [if_pos g']
 have g':¬ i=j:=by have:((i:Int)==j)=false:=g;simp at this;omega
 refine AK.gd (fun g2=>?_) (fun g2=>?_)
 ·have g2':i=0:=by have:((i:Int)==0)=true:=g2;simp at this;omega
  refine AK.yes ?_
  refine AK.rz Tryz.func117 ?_
  unfold Kr;rw [if_neg g',if_pos (.inl g2')]
 have g2':¬ i=0:=by have:((i:Int)==0)=false:=g2;simp at this;omega
 refine AK.if_ (fun g3=>?_) (fun g3=>?_)
 ·have g3':j=0:=by have:((j:Int)==0)=true:=g3;simp at this;omega
  refine AK.rz Tryz.func117 ?_
  unfold Kr;rw [if_neg g',if_pos (.inr g3')]
 ·have g3':¬ j=0:=by have:((j:Int)==0)=false:=g3;simp at this;omega
  refine AK.rz Tryz.func117 ?_
  unfold Kr;rw [if_neg g',if_neg (by omega)]
theorem Ag7 (i j:Nat):Pure X 90 [vi i,vi j] (vi (Kr i j)):=by
 refine Pure.run Tryz.func90 ?_
 refine AK.if_ (fun g=>?_) (fun g=>?_)
 ·have g':i=j:=by have:((i:Int)==j)=true:=g;simp at this;omega
  refine AK.rz Tryz.func90 ?_
  unfold Kr;rw [if_pos g']
 have g':¬ i=j:=by have:((i:Int)==j)=false:=g;simp at this;omega
 refine AK.gd (fun g2=>?_) (fun g2=>?_)
 ·have g2':i=0:=by have:((i:Int)==0)=true:=g2;simp at this;omega
  refine AK.yes ?_
  refine AK.rz Tryz.func90 ?_
  unfold Kr;rw [if_neg g',if_pos (.inl g2')]
 have g2':¬ i=0:=by have:((i:Int)==0)=false:=g2;simp at this;omega
 refine AK.if_ (fun g3=>?_) (fun g3=>?_)
 ·have g3':j=0:=by have:((j:Int)==0)=true:=g3;simp at this;omega
  refine AK.rz Tryz.func90 ?_
  unfold Kr;rw [if_neg g',if_pos (.inr g3')]
 ·have g3':¬ j=0:=by have:((j:Int)==0)=false:=g3;simp at this;omega
  refine AK.rz Tryz.func90 ?_
  unfold Kr;rw [if_neg g',if_neg (by omega)]
theorem Ahr (n:Int)(d:List Int):Pure X 115 [.agg (H6 n d)] (vb (Ex n d)):=by
 refine Pure.run Tryz.func115 ?_
 refine AK.gd (fun g=>?_) (fun g=>?_)
 ·have g':(n==0)=true:=g
  refine AK.rz Tryz.func115 ?_
  unfold Ex;rw [g',J3];rfl
 ·have g':(n==0)=false:=g
  refine AK.rz Tryz.func115 ?_
  unfold Ex;rw [g'];rfl
theorem Abw (n:Int)(d:List Int):Pure X 54 [.agg (H6 n d)] (vb (Ex n d)):=by
 refine Pure.run Tryz.func54 ?_
 refine AK.gd (fun g=>?_) (fun g=>?_)
 ·have g':(n==0)=true:=g
  refine AK.rz Tryz.func54 ?_
  unfold Ex;rw [g',J3];rfl
 ·have g':(n==0)=false:=g
  refine AK.rz Tryz.func54 ?_
  unfold Ex;rw [g'];rfl
theorem Aho (n:Int)(d:List Int):Pure X 103 [.agg (H6 n d)] (vb (Iv n d)):=by
 have hlen:((I6 d).length:Int)=d.length:=by rw [J3]
 refine Pure.run Tryz.func103 ?_
 refine AK.pc (Fv n 1 13) ?_
 unfold Iv
 cases h1:A0 n 1 13 with
 | false =>
   refine AK.gy ?_
   refine AK.yes ?_
   exact AK.rz Tryz.func103 rfl
 | true =>
   have h1':=Az.1 h1
   obtain ⟨m,rfl⟩:∃ m:Nat,n=m:=⟨n.toNat,by omega⟩
   have hmm:(m:Int)*m≤13*13:=Int.mul_le_mul h1'.2 h1'.2 (by omega) (by omega)
   have hm0:0≤(m:Int)*m:=Int.mul_nonneg (by omega) (by omega)
   have hw:IntKind.i64.wrap ((m:Int)*m)=m*m:=Aa (by omega) (by omega)
   refine AK.gn ?_
   refine AK.if_ (fun g=>?_) (fun g=>?_)
   ·have g':((d.length:Int)==m*m)=false:=by
     have:(((I6 d).length:Int) != IntKind.i64.wrap ((m:Int)*m))=true:=g
     rw [hw,hlen] at this;simpa using this
    refine AK.rz Tryz.func103 ?_
    rw [g'];rfl
   have g':(d.length:Int)=m*m:=by
    have:(((I6 d).length:Int) != IntKind.i64.wrap ((m:Int)*m))=false:=g
    rw [hw,hlen] at this;simpa using this
   rw [beq_iff_eq.2 g',Int.toNat_natCast]
   refine AK.while_ (ι:=Nat) 1 0 (fun i=>i≤d.length∧T6 m 0 d=T6 m i (d.drop i)) (fun i=>[(25,vi i),(24,vi d.length),(23,.sl (I6 d) .no),(1,.ptr 0 0 0)]) (fun _=>⟨[[H6 m d]],[]⟩) (fun i=>d.length-i) ?_ 0 ⟨Nat.zero_le _,rfl⟩
    ⟨rfl,A5 hlen,rfl,rfl,trivial⟩
   rintro k ⟨hk,hT⟩ IH
   refine AK.ei (fun h=>?_) (fun h=>?_)
   ·have hlt:k<d.length:=by have:=of_decide_eq_true h;omega
    obtain ⟨x,hx⟩:=Ac d hlt
    rw [Acl hx] at hT
    have hq:O4 .quo .i64 (k:Int) (m:Int) true=some (.int .i64 ((k / m:Nat):Int)):=by
     have e1:decide ((m:Int)=0)=false:=decide_eq_false (by omega)
     have e2:(k:Int).tdiv m=((k / m:Nat):Int):=rfl
     have e3:k / m≤k:=Nat.div_le_self _ _
     simp only [O4,e1,e2]
     generalize k / m=z at e3 ⊢
     rw [Aa (by omega) (by omega)]
    have hr:O4 .rem .i64 (k:Int) (m:Int) true=some (.int .i64 ((k % m:Nat):Int)):=by
     have e1:decide ((m:Int)=0)=false:=decide_eq_false (by omega)
     have e2:(k:Int).tmod m=((k % m:Nat):Int):=rfl
     simp only [O4,e1,e2]
    refine AK.ix k (by omega) (Wp hx) ?_
    refine AK.db 0 ?_
    refine Ax (fun S'=>Qd hq) ?_
    refine Drv.go ?_
    refine Ax (fun S'=>Qd hr) ?_
    refine Drv.go ?_
    refine Drv.z ?_
    refine AK.pc (Ahm (k / m) (k % m)) ?_
    refine AK.pc (Fv x (-2000000) (Kr (k / m) (k % m))) ?_
    cases h3:A0 x (-2000000) (Kr (k / m) (k % m)) with
    | false =>
      refine AK.gy ?_
      refine AK.yes ?_
      refine AK.rz Tryz.func103 ?_
      rw [hT];unfold okD;rw [h3];rfl
    | true =>
      refine AK.gn ?_
      refine AK.gd (fun g4=>?_) (fun g4=>?_)
      ·have g4':(((k / m:Nat):Int)==(k % m:Nat))=true:=g4
       refine AK.if_ (fun g5=>?_) (fun g5=>?_)
       ·have g5':(x==0)=false:=by have:(x != 0)=true:=g5;simpa using this
        refine AK.rz Tryz.func103 ?_
        rw [hT];unfold okD;rw [h3,g4',g5'];rfl
       ·have g5':(x==0)=true:=by have:(x != 0)=false:=g5;simpa using this
        exact IH (k+1) ⟨hlt,by rw [hT];unfold okD;rw [h3,g4',g5'];rfl⟩ (by omega) _ _ ⟨vsx (by omega),rfl,rfl,rfl,trivial⟩ rfl rfl rfl
      ·have g4':(((k / m:Nat):Int)==(k % m:Nat))=false:=g4
       refine AK.no ?_
       exact IH (k+1) ⟨hlt,by rw [hT];unfold okD;rw [h3,g4'];rfl⟩ (by omega) _ _ ⟨vsx (by omega),rfl,rfl,rfl,trivial⟩ rfl rfl rfl
   ·have:k=d.length:=by have:=of_decide_eq_false h;omega
    subst this
    refine AK.rz Tryz.func103 ?_
    rw [hT,List.drop_length];rfl
theorem Aha (n:Int)(d:List Int):Pure X 55 [.agg (H6 n d)] (vb (Iv n d)):=by
 have hlen:((I6 d).length:Int)=d.length:=by rw [J3]
 refine Pure.run Tryz.func55 ?_
 refine AK.pc (D3 n 1 13) ?_
 unfold Iv
 cases h1:A0 n 1 13 with
 | false =>
   refine AK.gy ?_
   refine AK.yes ?_
   exact AK.rz Tryz.func55 rfl
 | true =>
   have h1':=Az.1 h1
   obtain ⟨m,rfl⟩:∃ m:Nat,n=m:=⟨n.toNat,by omega⟩
   have hmm:(m:Int)*m≤13*13:=Int.mul_le_mul h1'.2 h1'.2 (by omega) (by omega)
   have hm0:0≤(m:Int)*m:=Int.mul_nonneg (by omega) (by omega)
   have hw:IntKind.i64.wrap ((m:Int)*m)=m*m:=Aa (by omega) (by omega)
   refine AK.gn ?_
   refine AK.if_ (fun g=>?_) (fun g=>?_)
   ·have g':((d.length:Int)==m*m)=false:=by
     have:(((I6 d).length:Int) != IntKind.i64.wrap ((m:Int)*m))=true:=g
     rw [hw,hlen] at this;simpa using this
    refine AK.rz Tryz.func55 ?_
    rw [g'];rfl
   have g':(d.length:Int)=m*m:=by
    have:(((I6 d).length:Int) != IntKind.i64.wrap ((m:Int)*m))=false:=g
    rw [hw,hlen] at this;simpa using this
   have gn:d.length=m*m:=by have:((d.length:Nat):Int)=((m*m:Nat):Int):=by rw [g'];simp
                            omega
   rw [beq_iff_eq.2 g',Int.toNat_natCast]
   refine AK.while_ (ι:=Nat) 1 0 (fun i=>i≤m∧T6 m 0 d=T6 m (i*m) (d.drop (i*m))) (fun i=>[(3,vi i),(1,.ptr 0 0 0)]) (fun _=>⟨[[H6 m d]],[]⟩) (fun i=>m-i) ?_ 0 ⟨Nat.zero_le _,by simp⟩
    ⟨rfl,rfl,trivial⟩
   rintro i ⟨hi,hT⟩ IH
   refine AK.ei (fun h=>?_) (fun h=>?_)
   ·have hlt:i<m:=by have:=of_decide_eq_true h;omega
    have him:i*m+m≤m*m:=by rw [← Nat.succ_mul];exact Nat.mul_le_mul_right _ hlt
    refine AK.while_ (ι:=Nat) 1 0 (fun j=>j≤m∧T6 m 0 d=T6 m (i*m+j) (d.drop (i*m+j))) (fun j=>[(4,vi j),(3,vi i),(1,.ptr 0 0 0)]) (fun _=>⟨[[H6 m d]],[]⟩) (fun j=>m-j) ?_ 0 ⟨Nat.zero_le _,by simpa using hT⟩
     ⟨rfl,rfl,rfl,trivial⟩
    rintro j ⟨hj,hU⟩ JH
    refine AK.ei (fun g2=>?_) (fun g2=>?_)
    ·have hjl:j<m:=by have:=of_decide_eq_true g2;omega
     obtain ⟨x,hx⟩:=Ac d (i:=i*m+j) (by omega)
     rw [Acl hx] at hU
     have e1:(i*m+j) / m=i:=by rw [Nat.mul_comm i m,Nat.mul_add_div (by omega),Nat.div_eq_of_lt hjl];rfl
     have e2:(i*m+j) % m=j:=by rw [Nat.mul_comm i m,Nat.mul_add_mod,Nat.mod_eq_of_lt hjl]
     have e3:okD m (i*m+j) x=(A0 x (-2000000) (Kr i j)&&(!((i:Int)==j)||(x==0))):=by unfold okD;rw [e1,e2]
     have hsq:m*m≤169:=by omega
     have w1:IntKind.i64.wrap ((i:Int)*m)=((i*m:Nat):Int):=by
      have:((i:Int)*m)=((i*m:Nat):Int):=by simp
      rw [this];exact Aa (by omega) (by omega)
     have w2:IntKind.i64.wrap (IntKind.i64.wrap ((i:Int)*m)+j)=((i*m+j:Nat):Int):=by
      rw [w1];exact (Aa (by omega) (by omega)).trans (by omega)
     refine AK.as_ 40 (vi ((i*m+j:Nat):Int)) ?_ (A5 w2)
     refine AK.ix (i*m+j) (by omega) (Wp hx) ?_
     refine AK.pc (Ag7 i j) ?_
     refine AK.pc (D3 x (-2000000) (Kr i j)) ?_
     cases h3:A0 x (-2000000) (Kr i j) with
     | false =>
       refine AK.gy ?_
       refine AK.yes ?_
       refine AK.rz Tryz.func55 ?_
       rw [hU,e3,h3];rfl
     | true =>
       refine AK.gn ?_
       refine AK.gd (fun g4=>?_) (fun g4=>?_)
       ·have g4':((i:Int)==j)=true:=g4
        refine AK.if_ (fun g5=>?_) (fun g5=>?_)
        ·have g5':(x==0)=false:=by have:(x != 0)=true:=g5;simpa using this
         refine AK.rz Tryz.func55 ?_
         rw [hU,e3,h3,g4',g5'];rfl
        ·have g5':(x==0)=true:=by have:(x != 0)=false:=g5;simpa using this
         exact JH (j+1) ⟨hjl,by rw [hU,e3,h3,g4',g5'];rfl⟩ (by omega) _ _ ⟨vsx (by omega),rfl,rfl,trivial⟩ rfl rfl rfl
       ·have g4':((i:Int)==j)=false:=g4
        refine AK.no ?_
        exact JH (j+1) ⟨hjl,by rw [hU,e3,h3,g4'];rfl⟩ (by omega) _ _ ⟨vsx (by omega),rfl,rfl,trivial⟩ rfl rfl rfl
    ·have hje:j=m:=by have:=of_decide_eq_false g2;omega
     subst hje
     exact IH (i+1) ⟨hlt,by rw [hU,Nat.succ_mul]⟩ (by omega) _ _ ⟨vsx (by omega),rfl,trivial⟩ rfl rfl rfl
   ·have hie:i=m:=by have:=of_decide_eq_false h;omega
    subst hie
    refine AK.rz Tryz.func55 ?_
    rw [hT,← gn,List.drop_length];rfl
def Mz (a b:Int × Int):Bool:=decide (a.1<b.1)||((a.1==b.1)&&decide (a.2<b.2))
theorem Auh (a b:Int × Int):Pure X 150 [.agg (C2 a),.agg (C2 b)] (vb (Mz a b)):=by
 refine Pure.run Tryz.func150 ?_
 refine AK.gd (fun g=>?_) (fun g=>?_)
 ·have g':decide (a.1<b.1)=true:=g
  refine AK.rz Tryz.func150 ?_
  unfold Mz;rw [g'];rfl
 have g':decide (a.1<b.1)=false:=g
 refine AK.gd (fun g2=>?_) (fun g2=>?_)
 ·have g2':(a.1==b.1)=true:=g2
  refine AK.rz Tryz.func150 ?_
  unfold Mz;rw [g',g2'];rfl
 ·have g2':(a.1==b.1)=false:=g2
  refine AK.rz Tryz.func150 ?_
  unfold Mz;rw [g',g2'];rfl
theorem At8 (a b:Int × Int):Pure X 93 [.agg (C2 a),.agg (C2 b)] (vb (Mz a b)):=by
 refine Pure.run Tryz.func93 ?_
 refine AK.gd (fun g=>?_) (fun g=>?_)
 ·have g':decide (a.1<b.1)=true:=g
  refine AK.rz Tryz.func93 ?_
  unfold Mz;rw [g'];rfl
 have g':decide (a.1<b.1)=false:=g
 refine AK.gd (fun g2=>?_) (fun g2=>?_)
 ·have g2':(a.1==b.1)=true:=g2
  refine AK.rz Tryz.func93 ?_
  unfold Mz;rw [g',g2'];rfl
 ·have g2':(a.1==b.1)=false:=g2
  refine AK.rz Tryz.func93 ?_
  unfold Mz;rw [g',g2'];rfl
def Ov (size len:Int):Bool:=A0 size 2 13&&A0 len 1 (size-1)
theorem Awo (size len:Int)(h0:-1000000≤size)(h1:size≤1000000):Pure X 148 [vi size,vi len] (vb (Ov size len)):=by
 have hw:IntKind.i64.wrap (size-1)=size-1:=Aa (by omega) (by omega)
 have hb:=Fv len 1 (IntKind.i64.wrap (size-1))
 rw [hw] at hb
 refine Pure.run Tryz.func148 ?_
 refine AK.pc (Fv size 2 13) ?_
 refine AK.gd (fun g=>?_) (fun g=>?_)
 ·have g':A0 size 2 13=true:=g
  refine AK.pc (Fv len 1 (IntKind.i64.wrap (size-1))) ?_
  refine AK.rz Tryz.func148 ?_
  unfold Ov;rw [g',hw];rfl
 ·have g':A0 size 2 13=false:=g
  refine AK.rz Tryz.func148 ?_
  unfold Ov;rw [g'];rfl
theorem Awk (size len:Int)(h0:-1000000≤size)(h1:size≤1000000):Pure X 91 [vi size,vi len] (vb (Ov size len)):=by
 have hw:IntKind.i64.wrap (size-1)=size-1:=Aa (by omega) (by omega)
 have hb:=D3 len 1 (IntKind.i64.wrap (size-1))
 rw [hw] at hb
 refine Pure.run Tryz.func91 ?_
 refine AK.pc (D3 size 2 13) ?_
 refine AK.gd (fun g=>?_) (fun g=>?_)
 ·have g':A0 size 2 13=true:=g
  refine AK.pc (D3 len 1 (IntKind.i64.wrap (size-1))) ?_
  refine AK.rz Tryz.func91 ?_
  unfold Ov;rw [g',hw];rfl
 ·have g':A0 size 2 13=false:=g
  refine AK.rz Tryz.func91 ?_
  unfold Ov;rw [g'];rfl
def Q9:Nat→List (Int × Int)→Int × Int→Int
 | _,[],_=>-1
 | i,x::l,s=>if (x.1==s.1)&&(x.2==s.2) then i else Q9 (i+1) l s
def hasY (l:List (Int × Int))(s:Int × Int):Bool:=decide (Q9 0 l s≥0)
theorem Ang (l:List (Int × Int))(s:Int × Int)(hl:l.length≤1000000000):Pure X 198 [.sl (G6 l) .no,.agg (C2 s)] (vi (Q9 0 l s)):=by
 have hlen:((G6 l).length:Int)=l.length:=by simp [G6]
 have hfl:Jh X.P 152=some [0,0]:=by kernel_rfl
 refine Pure.run Tryz.func198 ?_
 refine AK.while_ (ι:=Nat) 1 0 (fun i=>i≤l.length∧Q9 0 l s=Q9 i (l.drop i) s) (fun i=>[(8,vi i),(7,vi l.length),(0,.sl (G6 l) .no),(3,.ptr 0 0 0)]) (fun _=>⟨[[C2 s]],[]⟩) (fun i=>l.length-i) ?_ 0 ⟨Nat.zero_le _,rfl⟩
  ⟨rfl,A5 hlen,rfl,rfl,trivial⟩
 rintro i ⟨hi,hT⟩ IH
 refine AK.ei (fun h=>?_) (fun h=>?_)
 ·have hlt:i<l.length:=by have:=of_decide_eq_true h;omega
  obtain ⟨x,hx⟩:=Ac l hlt
  have hd:Q9 i (l.drop i) s=if (x.1==s.1)&&(x.2==s.2) then (i:Int) else Q9 (i+1) (l.drop (i+1)) s:=by rw [Av hx];rfl
  rw [hd] at hT
  refine AK.db 0 ?_
  refine Drv.ig i (by omega) (A8 (f:=C2) hx) ?_
  refine Ax (fun S'=>Jt (r:=(s.1==x.1)&&((s.2==x.2)&&true)) rfl rfl rfl rfl rfl hfl rfl (.inl ⟨rfl,rfl⟩)) ?_
  refine Drv.z ?_
  refine AK.if_ (fun g=>?_) (fun g=>?_)
  ·have g':((x.1==s.1)&&(x.2==s.2))=true:=by
    have:((s.1==x.1)&&((s.2==x.2)&&true))=true:=g
    simp at this;simp [this.1,this.2]
   refine AK.rz Tryz.func198 ?_
   rw [hT,if_pos g']
  ·have g':¬ ((x.1==s.1)&&(x.2==s.2))=true:=by
    have:((s.1==x.1)&&((s.2==x.2)&&true))=false:=g
    intro h2;simp at h2;rw [h2.1,h2.2] at this;simp at this
   rw [if_neg g'] at hT
   exact IH (i+1) ⟨hlt,hT⟩ (by omega) _ _ ⟨vsx (by omega),rfl,rfl,rfl,trivial⟩ rfl rfl rfl
 ·have:i=l.length:=by have:=of_decide_eq_false h;omega
  refine AK.rz Tryz.func198 ?_
  rw [hT,this,List.drop_length];rfl
theorem Ab3 (l:List (Int × Int))(s:Int × Int)(hl:l.length≤1000000000):Pure X 151 [.sl (G6 l) .no,.agg (C2 s)] (vb (hasY l s)):=by
 refine Pure.run Tryz.func151 ?_
 refine AK.pc (Ang l s hl) ?_
 exact AK.rz Tryz.func151 rfl
theorem Ap0 (l:List (Int × Int))(s:Int × Int)(hl:l.length≤1000000000):Pure X 133 [.sl (G6 l) .no,.agg (C2 s)] (vi (Q9 0 l s)):=by
 have hlen:((G6 l).length:Int)=l.length:=by simp [G6]
 have hfl:Jh X.P 152=some [0,0]:=by kernel_rfl
 refine Pure.run Tryz.func133 ?_
 refine AK.while_ (ι:=Nat) 1 0 (fun i=>i≤l.length∧Q9 0 l s=Q9 i (l.drop i) s) (fun i=>[(5,vi i),(0,.sl (G6 l) .no),(3,.ptr 0 0 0)]) (fun _=>⟨[[C2 s]],[]⟩) (fun i=>l.length-i) ?_ 0 ⟨Nat.zero_le _,rfl⟩
  ⟨rfl,rfl,rfl,trivial⟩
 rintro i ⟨hi,hT⟩ IH
 refine AK.ei (fun h=>?_) (fun h=>?_)
 ·have hlt:i<l.length:=by have:=of_decide_eq_true h;rw [hlen] at this;omega
  obtain ⟨x,hx⟩:=Ac l hlt
  have hd:Q9 i (l.drop i) s=if (x.1==s.1)&&(x.2==s.2) then (i:Int) else Q9 (i+1) (l.drop (i+1)) s:=by rw [Av hx];rfl
  rw [hd] at hT
  refine AK.db 0 ?_
  refine Drv.ig i (by omega) (A8 (f:=C2) hx) ?_
  refine Ax (fun S'=>Jt (r:=(x.1==s.1)&&((x.2==s.2)&&true)) rfl rfl rfl rfl rfl hfl rfl (.inl ⟨rfl,rfl⟩)) ?_
  refine Drv.z ?_
  refine AK.if_ (fun g=>?_) (fun g=>?_)
  ·have g':((x.1==s.1)&&(x.2==s.2))=true:=by
    have:((x.1==s.1)&&((x.2==s.2)&&true))=true:=g
    simpa using this
   refine AK.rz Tryz.func133 ?_
   rw [hT,if_pos g']
  ·have g':¬ ((x.1==s.1)&&(x.2==s.2))=true:=by
    have:((x.1==s.1)&&((x.2==s.2)&&true))=false:=g
    rw [Bool.and_true] at this;rw [this];simp
   rw [if_neg g'] at hT
   exact IH (i+1) ⟨hlt,hT⟩ (by omega) _ _ ⟨vsx (by omega),rfl,rfl,trivial⟩ rfl rfl rfl
 ·have:i=l.length:=by have:=of_decide_eq_false h;rw [hlen] at this;omega
  refine AK.rz Tryz.func133 ?_
  rw [hT,this,List.drop_length];rfl
def P5:Nat→List (List (Int × Int))→Int × Int→Int
 | _,[],_=>-1
 | i,x::l,s=>if hasY x s then i else P5 (i+1) l s
theorem Ahb (g:Sg)(hg:SgOk g)(s:Int × Int):Pure X 94 [.agg (B4 g),.agg (C2 s)] (vi (P5 0 g.tm s)):=by
 have hlen:((D9 g.tm).length:Int)=g.tm.length:=by simp [D9]
 have htm:=hg.tm
 refine Pure.run Tryz.func94 ?_
 refine AK.while_ (ι:=Nat) 2 0 (fun i=>i≤g.tm.length∧P5 0 g.tm s=P5 i (g.tm.drop i) s) (fun i=>[(5,vi i),(2,.ptr 0 0 0),(3,.ptr 1 0 0)]) (fun _=>⟨[[B4 g],[C2 s]],[]⟩) (fun i=>g.tm.length-i) ?_ 0 ⟨Nat.zero_le _,rfl⟩
  ⟨rfl,rfl,rfl,trivial⟩
 rintro i ⟨hi,hT⟩ IH
 refine AK.ei (fun h=>?_) (fun h=>?_)
 ·have hlt:i<g.tm.length:=by have:=of_decide_eq_true h;rw [hlen] at this;omega
  obtain ⟨x,hx⟩:=Ac g.tm hlt
  have hd:P5 i (g.tm.drop i) s=if hasY x s then (i:Int) else P5 (i+1) (g.tm.drop (i+1)) s:=by rw [Av hx];rfl
  rw [hd] at hT
  refine AK.db 0 ?_
  refine Drv.ig i (by omega) (A8 (f:=Lr) hx) ?_
  refine As (Ap0 x s (hg.rows x (List.mem_of_getElem? hx))) ?_
  refine Drv.z ?_
  refine AK.if_ (fun g2=>?_) (fun g2=>?_)
  ·have g':hasY x s=true:=g2
   refine AK.rz Tryz.func94 ?_
   rw [hT,if_pos g']
  ·have g':¬ hasY x s=true:=by have:hasY x s=false:=g2;simp [this]
   rw [if_neg g'] at hT
   exact IH (i+1) ⟨hlt,hT⟩ (by omega) _ _ ⟨vsx (by omega),rfl,rfl,trivial⟩ rfl rfl rfl
 ·have:i=g.tm.length:=by have:=of_decide_eq_false h;rw [hlen] at this;omega
  refine AK.rz Tryz.func94 ?_
  rw [hT,this,List.drop_length];rfl
def Rk (p:Option (Int × Int))(s:Int × Int):Bool:=match p with | some q=>Mz q s | none=>true
def Ky (size:Int)(seen:List (Int × Int)):Option (Int × Int)→List (Int × Int)→Bool
 | _,[]=>true
 | p,s::l=>(F9 size s.1 s.2&&(Rk p s&&!hasY seen s))&&Ky size seen (some s) l
def Ke (size:Int):List (Int × Int)→List (List (Int × Int))→Bool
 | _,[]=>true
 | seen,x::l=>Ky size seen none x&&(!((x.length:Int)==0)&&(!decide (((seen++x).length:Int) > 40)&&Ke size (seen++x) l))
def Js (v:Vl):Bool:=((v.lo==1)&&(v.hi==0))||(isV v.lo&&(isV v.hi&&decide (v.lo≤v.hi)))
def Rc (size len:Int)(g:Sg):Bool :=
 Ov size len&&(A0 g.tm.length 1 16&&(((g.vs.length:Int)==g.tm.length-1)&&(((g.ms.length:Int)==g.tm.length-1)&&(Ke size [] g.tm&&(hasY (g.tm.getD 0 []) (0,0)&&(hasY (g.tm.getD (g.tm.length-1) []) (len,0)&&g.vs.all Js))))))
def M8 (x:List (Int × Int)):Nat→Option (Int × Int)
 | 0=>none
 | j+1=>x[j]?
theorem Ad3 {size:Int}{seen x:List (Int × Int)}{j:Nat}{s:Int × Int}(h:x[j]?=some s) :
 Ky size seen (M8 x j) (x.drop j)=((F9 size s.1 s.2&&(Rk (M8 x j) s&&!hasY seen s))&&Ky size seen (M8 x (j+1)) (x.drop (j+1))):=by
 rw [Av h]
 show _=(_&&Ky size seen (x[j]?) _)
 rw [h];rfl
theorem Aug (len:Int):Pure X 152 [vi len] (.tup [.agg (C2 (0,0)),.agg (C2 (len,0))]):=by
 refine Pure.run Tryz.func152 ?_
 exact AK.rz Tryz.func152 rfl
abbrev F14 (g:Sg)(size len:Int)(i:Nat)(x seen:List (Int × Int)):B7:=[(47,vi i),(46,vi g.tm.length),(45,.sl (D9 g.tm) .no),(10,.sl (G6 x) .no),(8,.sl (G6 seen) (.tok 0)),(0,vi size),(1,vi len),(7,vi g.tm.length),(5,.ptr 0 0 0)]
theorem Anm (g:Sg)(size len:Int)(hs0:-1000000≤size)(hs1:size≤1000000)(i:Nat)(seen x:List (Int × Int))(hsl:seen.length≤1000000000)(hxl:x.length≤1000000000)(hx:g.tm[i]?=some x)(R:Bool)
 (h:Ky size seen none x=true→AK X ⟨105,Tryz.f105,0,0⟩ (Hn false 14 Tryz.f105) (F14 g size len i x seen) ⟨[[B4 g]],[seen.length]⟩ (fun e S=>e=.ret (vb R)∧S=⟨[],[]⟩))
 (hbad:Ky size seen none x=false→R=false) :
 AK X ⟨105,Tryz.f105,0,0⟩ (Hn false 8 Tryz.f105) (F14 g size len i x seen) ⟨[[B4 g]],[seen.length]⟩ (fun e S=>e=.ret (vb R)∧S=⟨[],[]⟩):=by
 have hlen:((G6 x).length:Int)=x.length:=by simp [G6]
 refine AK.at_ ?_
 refine AK.ev 100 rfl ?_
 refine AK.while_ (ι:=Nat) 1 1 (fun j=>j≤x.length∧Ky size seen none x=Ky size seen (M8 x j) (x.drop j)) (fun j=>(53,vi j)::(52,vi x.length)::(51,.sl (G6 x) .no)::F14 g size len i x seen) (fun _=>⟨[[B4 g]],[seen.length]⟩) (fun j=>x.length-j) ?_ 0 ⟨Nat.zero_le _,rfl⟩
  ⟨rfl,A5 hlen,rfl,rfl,rfl,rfl,rfl,rfl,rfl,rfl,rfl,rfl,trivial⟩
 rintro j ⟨hj,hT⟩ IH
 refine AK.ev 100 rfl ?_
 refine AK.ifj 0 14 (fun hh=>?_) (fun hh=>?_)
 ·have hlt:j<x.length:=by have:=of_decide_eq_true hh;omega
  obtain ⟨s,hs⟩:=Ac x hlt
  rw [Ad3 hs] at hT
  refine AK.ev 100 rfl ?_
  refine AK.ix j (by omega) (A8 (f:=C2) hs) ?_
  have step:(Rk (M8 x j) s&&!hasY seen s)=true→F9 size s.1 s.2=true→(j+1≤x.length∧Ky size seen none x=Ky size seen (M8 x (j+1)) (x.drop (j+1))):=fun h1 h2=>⟨hlt,by rw [hT,h2,h1];rfl⟩
  refine AK.dn 0 2 ?_
  refine Drv.pc (Aqs size s.1 s.2 hs0 hs1) ?_
  refine Cp 1 ?_
  cases h2:F9 size s.1 s.2 with
  | false =>
    rw [h2] at hT
    refine Drv.t true ?_
    refine Cp 13 ?_
    refine Drv.t true ?_
    refine Drv.go ?_
    refine Drv.z ?_
    refine AK.yes ?_
    refine AK.rz Tryz.func105 ?_
    rw [hbad hT]
  | true =>
    refine Drv.t false ?_
    refine Cp 2 ?_
    cases j with
    | zero =>
      have hp:Rk (M8 x 0) s=true:=rfl
      refine Drv.t false ?_
      refine Cp 10 ?_
      refine Drv.t false ?_
      refine Drv.go ?_
      refine As (Ab3 seen s hsl) ?_
      refine Drv.z ?_
      refine AK.if_ (fun g3=>?_) (fun g3=>?_)
      ·have g3':hasY seen s=true:=g3
       refine AK.rz Tryz.func105 ?_
       rw [hbad (by rw [hT,g3'];simp)]
      ·have g3':hasY seen s=false:=g3
       exact IH (0+1) (step (by rw [hp,g3'];rfl) h2) (by omega) _ _ ⟨vsx (by omega),rfl,rfl,rfl,rfl,rfl,rfl,rfl,rfl,rfl,rfl,rfl,trivial⟩ rfl rfl rfl
    | succ j =>
      obtain ⟨q,hq⟩:=Ac x (i:=j) (by omega)
      have hp:Rk (M8 x (j+1)) s=Mz q s:=by show Rk (x[j]?) s=_;rw [hq];rfl
      have hw:IntKind.i64.wrap (((j+1:Nat):Int)-1)=j:=(Aa (by omega) (by omega)).trans (by omega)
      refine Drv.t true ?_ (hb:=decide_eq_true (by omega))
      refine Drv.go ?_
      refine Ax (fun S'=>Ndo.index rfl rfl rfl rfl rfl rfl rfl rfl rfl (by rw [hw];omega) (by rw [hw];exact A8 (f:=C2) hq)) ?_
      refine Drv.go ?_
      refine Drv.pc (Auh q s) ?_
      refine Cp 3 ?_
      cases h3:Mz q s with
      | false =>
        refine Drv.t true ?_
        refine Drv.go ?_
        refine Drv.z ?_
        refine AK.yes ?_
        refine AK.rz Tryz.func105 ?_
        rw [hbad (by rw [hT,hp,h3];simp)]
      | true =>
        rw [h3] at hp
        refine Drv.t false ?_
        refine Drv.go ?_
        refine As (Ab3 seen s hsl) ?_
        refine Drv.z ?_
        refine AK.if_ (fun g3=>?_) (fun g3=>?_)
        ·have g3':hasY seen s=true:=g3
         refine AK.rz Tryz.func105 ?_
         rw [hbad (by rw [hT,g3'];simp)]
        ·have g3':hasY seen s=false:=g3
         exact IH ((j+1)+1) (step (by rw [hp,g3'];rfl) h2) (by omega) _ _ ⟨vsx (by omega),rfl,rfl,rfl,rfl,rfl,rfl,rfl,rfl,rfl,rfl,rfl,trivial⟩ rfl rfl rfl
 ·have hje:j=x.length:=by have:=of_decide_eq_false hh;omega
  have ht:Ky size seen none x=true:=by rw [hT,hje,List.drop_length];rfl
  exact AK.back' 1 1 (h ht) ⟨rfl,rfl,rfl,rfl,rfl,rfl,rfl,rfl,rfl,trivial⟩ rfl rfl rfl rfl rfl
end Go.V
