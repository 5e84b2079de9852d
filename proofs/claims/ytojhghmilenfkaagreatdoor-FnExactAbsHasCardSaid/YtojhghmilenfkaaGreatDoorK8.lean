/- A part of the proof of the claim that the last text states: no condition of its own. -/
import Derived.Test.YtojhghmilenfkaaGreatDoorK7
import Derived.Carry
import Derived.ChangeArms
import Derived.ChangeVars
import Derived.Deep.DeepHandedRow
import Derived.Lib.LaidTab
import Derived.Lib.LaidU8
import Derived.OpenShut
import Derived.ProofKit
import Derived.Test.YtojhghmilenfkaaGreatDoorCards
import Derived.Test.YtojhghmilenfkaaGreatDoorTie
import Derived.WalkKit
set_option linter.unusedVariables false
set_option linter.unusedSimpArgs false
namespace Go.V
open Go Go.Proofs
def Dl (l:List Int):List (List AV):=l.map fun m=>[vi m]
theorem Ck (l:List Int):(Dl l).length=l.length:=by simp [Dl]
theorem Qf (l:List Int):Gj 1 (Dl l)=true:=H6 (f:=fun (i:Int)=>[vi i]) (fun _=>rfl) l
theorem Cu {l:List Int}{i:Nat}{m:Int}(h:l[i]?=some m):(Dl l)[i]?=some [vi m]:=by simp [Dl,h]
instance {n m:Nat}{l:List Int}:OKR n m (Dl l):=⟨fun r hr x hx=>by obtain ⟨e,_,rfl⟩:=List.mem_map.1 hr;simp at hx;subst hx;exact .val _⟩
def Db (n:Nd):List Int:=(J5 n 32).map Nd.num
theorem Aa0 (n:Nd)(k:Int):Aq n k=(J5 n k).map Nd.name:=rfl
theorem Wz (n:Nd)(k:Int):(J5 n k).length≤n.kids.length:=by
 unfold J5
 exact Nat.le_trans (List.length_filter_le _ _) (by simp)
theorem Zv (n:Nd)(k:Int)(hne:n.kids≠[])(hl:n.kids.length≤1000000000):Pure X 106 [nd n,vi k] (.sl (Ci (Aq n k)) .no):=by
 have hdl:=Wz n k
 rw [Aa0]
 refine Pure.run Tryz.func106 ?_
 refine AK.pc (Ov n k hne hl) ?_
 generalize J5 n k=ds at *
 refine AK.mint (d:=5) rfl rfl rfl ?_
 refine AK.while_ (ι:=Nat) 1 1 (fun i=>i≤ds.length) (fun i=>[(13,vi i),(12,vi ds.length),(11,.sl (Ak ds) .no),(5,.sl (Ci ((ds.take i).map Nd.name)) (.tok 0))]) (fun i=>⟨[[Af n]],[i]⟩) (fun i=>ds.length-i) ?_ 0
  (Nat.zero_le _) ⟨rfl,by rw [← Ae ds];rfl,rfl,rfl,trivial⟩
 intro i hi IH
 have htl:(Ci ((ds.take i).map Nd.name)).length=i:=by rw [B7];simp;omega
 refine AK.ei (fun h=>?_) (fun h=>?_)
 ·have hlt:i<ds.length:=by have:=of_decide_eq_true h;omega
  obtain ⟨x,hx⟩:=Aa ds hlt
  refine AK.ix i (by omega) (Ao hx) ?_
  refine AK.op (Ndo.append (res:=Ci ((ds.take (i+1)).map Nd.name)) rfl rfl rfl rfl rfl rfl rfl rfl rfl rfl rfl rfl rfl rfl htl (Wk _) rfl rfl rfl ?_ ?_ rfl) ?_
  ·rw [htl];simp;omega
  ·rw [List.take_add_one,hx];simp [Ci]
  refine IH (i+1) hlt (by omega) _ _ ⟨vsx (by omega),rfl,rfl,rfl,trivial⟩ ?_ rfl rfl
  show St.mk [[Af n]] [_+1]=St.mk [[Af n]] [i+1]
  rw [htl]
 ·have:i=ds.length:=by have:=of_decide_eq_false h;omega
  subst this
  rw [List.take_length]
  exact AK.rz Tryz.func106 rfl
theorem Ajw (n:Nd)(hne:n.kids≠[])(hl:n.kids.length≤1000000000):Pure X 107 [nd n] (.sl (Dl (Db n)) .no):=by
 have hdl:=Wz n 32
 unfold Db
 refine Pure.run Tryz.func107 ?_
 refine AK.pc (Ov n 32 hne hl) ?_
 generalize J5 n 32=ds at *
 refine AK.mint (d:=3) rfl rfl rfl ?_
 refine AK.while_ (ι:=Nat) 1 1 (fun i=>i≤ds.length) (fun i=>[(10,vi i),(9,vi ds.length),(8,.sl (Ak ds) .no),(3,.sl (Dl ((ds.take i).map Nd.num)) (.tok 0))]) (fun i=>⟨[[Af n]],[i]⟩) (fun i=>ds.length-i) ?_ 0
  (Nat.zero_le _) ⟨rfl,by rw [← Ae ds];rfl,rfl,rfl,trivial⟩
 intro i hi IH
 have htl:(Dl ((ds.take i).map Nd.num)).length=i:=by rw [Ck];simp;omega
 refine AK.ei (fun h=>?_) (fun h=>?_)
 ·have hlt:i<ds.length:=by have:=of_decide_eq_true h;omega
  obtain ⟨x,hx⟩:=Aa ds hlt
  refine AK.ix i (by omega) (Ao hx) ?_
  refine AK.op (Ndo.append (res:=Dl ((ds.take (i+1)).map Nd.num)) rfl rfl rfl rfl rfl rfl rfl rfl rfl rfl rfl rfl rfl rfl htl (Qf _) rfl rfl rfl ?_ ?_ rfl) ?_
  ·rw [htl];simp;omega
  ·rw [List.take_add_one,hx];simp [Dl]
  refine IH (i+1) hlt (by omega) _ _ ⟨vsx (by omega),rfl,rfl,rfl,trivial⟩ ?_ rfl rfl
  show St.mk [[Af n]] [_+1]=St.mk [[Af n]] [i+1]
  rw [htl]
 ·have:i=ds.length:=by have:=of_decide_eq_false h;omega
  subst this
  rw [List.take_length]
  exact AK.rz Tryz.func107 rfl
theorem Aqr (n:Nd)(hn:wN n≤1000000000):Pure X 99 [nd n] (.sl (Dl (Db n)) .no):=by
 let sz (l:List Nd):List Int:=(l.filter fun x=>x.kind==32).map Nd.num
 have szle:∀ l:List Nd,(sz l).length≤l.length:=fun l=>by simp only [sz,List.length_map];exact List.length_filter_le _ _
 refine Pure.run Tryz.func99 ?_
 have hkl:=Ei n
 have hw:IntKind.i64.wrap ((Ak n.kids).length-1:Int)=n.kids.length-1:=by rw [Ae];exact Ac (by omega) (by omega)
 refine AK.mint (d:=3) rfl rfl rfl ?_
 refine AK.while_ (ι:=Nat) 1 1 (fun i=>i≤n.kids.length-1) (fun i=>[(4,vi i),(3,.sl (Dl (sz (n.kids.take i))) (.tok 0)),(1,.ptr 0 0 0)]) (fun i=>⟨[[Af n]],[(sz (n.kids.take i)).length]⟩) (fun i=>n.kids.length-i) ?_ 0
  (Nat.zero_le _) ⟨rfl,rfl,rfl,trivial⟩
 intro i hi IH
 refine AK.ei (fun h=>?_) (fun h=>?_)
 ·have hlt:i<n.kids.length-1:=by have:=of_decide_eq_true h;rw [hw] at this;omega
  obtain ⟨x,hx⟩:=Aa n.kids (i:=i) (by omega)
  have hle:=szle (n.kids.take i)
  have htl:(n.kids.take i).length=i:=by simp;omega
  refine AK.ix i (by omega) (Ao hx) ?_
  refine AK.if_ (fun h2=>?_) (fun h2=>?_)
  ·have h2':(x.kind==32)=true:=h2
   have hs:sz (n.kids.take (i+1))=sz (n.kids.take i)++[x.num]:=by simp [sz,List.take_add_one,hx,List.filter_append,List.filter_cons,h2']
   refine AK.ix i (by omega) (Ao hx) ?_
   refine AK.op (Ndo.append (res:=Dl (sz (n.kids.take i)++[x.num])) rfl rfl rfl rfl rfl rfl rfl rfl rfl rfl rfl rfl rfl rfl (Ck _) (Qf _) rfl rfl rfl ?_ ?_ rfl) ?_
   ·rw [Ck];simp;omega
   ·simp [Dl]
   refine IH (i+1) (by omega) (by omega) _ _ ⟨vsx (by omega),?_,rfl,trivial⟩ ?_ rfl rfl
   ·rw [hs];rfl
   ·rw [hs];simp [St.drop,Ck]
  ·have h2':(x.kind==32)=false:=h2
   have hs:sz (n.kids.take (i+1))=sz (n.kids.take i):=by simp [sz,List.take_add_one,hx,List.filter_append,List.filter_cons,h2']
   refine IH (i+1) (by omega) (by omega) _ _ ⟨vsx (by omega),?_,rfl,trivial⟩ ?_ rfl rfl
   ·rw [hs];rfl
   ·rw [hs];rfl
 ·have:i=n.kids.length-1:=by have:=of_decide_eq_false h;rw [hw] at this;omega
  refine AK.rz Tryz.func99 ?_
  rw [this,Db,J5,List.dropLast_eq_take]
end Go.V
namespace Go.V
open Go
section
variable {X:Cx}{B:Bx}{E:Env}{S:St}{w:World}{F:B3}{a:Act}{N:Nat}{R:AE→St→Prop}
def DrvP (X:Cx)(N:Nat)(ops:Array Oper)(ix:Nat→Nat)(bp:Nat→Nat→Bool)(em:Nat→Bool):List Oper→Nat→B3→St→List St→List Hn→(B3→St→Prop)→Prop
 | [],_,F,S,_,_,K=>K F S
 | o::os,i,F,S,Hs,pend,K =>
   (∃ x,C6 N o.dst=true∧(∀ S',Ndo X N ops (ix i) o F x S' S')∧DrvP X N ops ix bp em os (i+1) (putF o.dst x F) S Hs pend K) ∨
   (∃ x,C6 N o.dst=true∧(∀ S',S'∈Hs→Ndo X N ops (ix i) o F x S' S')∧DrvP X N ops ix bp em os (i+1) (putF o.dst x F) S Hs ((i,o,F,x)::pend) K) ∨
   (∃ x S' pend',em i=true∧C6 N o.dst=true∧Ndo X N ops (ix i) o F x S S'∧pend.filter (fun p=>!bp p.1 i)=pend'∧(∀ p,p∈pend'→Ndo X N ops (ix p.1) p.2.1 p.2.2.1 p.2.2.2 S' S') ∧
     DrvP X N ops ix bp em os (i+1) (putF o.dst x F) S' (S'::Hs) pend' K)
structure DDataP (X:Cx)(N:Nat)(ops:Array Oper)(ix:Nat→Nat)(bp:Nat→Nat→Bool)(em:Nat→Bool)(i n:Nat)(eff:Nat→Bool)(x:Nat→AV)(FF:Nat→B3)(SS:Nat→St)(Hs:List St)(pend:List Hn):Prop where
 step:∀ j,i≤j→j<n→∀ o,ops[ix j]?=some o→FF (j+1)=putF o.dst (x j) (FF j)∧C6 N o.dst=true
 eff0:∀ j,i≤j→j<n→eff j=false→SS (j+1)=SS j
 eff1:∀ j,i≤j→j<n→eff j=true→∀ o,ops[ix j]?=some o→em j=true∧Ndo X N ops (ix j) o (FF j) (x j) (SS j) (SS (j+1))
 was:∀ j,i≤j→j<n→eff j=false→∀ o,ops[ix j]?=some o→∀ S',S'∈Hs→Ndo X N ops (ix j) o (FF j) (x j) S' S'
 will:∀ j,i≤j→j<n→eff j=false→∀ o,ops[ix j]?=some o→∀ p,i≤p→p≤n→(∀ e,j≤e→e<p→eff e=true→bp j e=false)→Ndo X N ops (ix j) o (FF j) (x j) (SS p) (SS p)
 pend:∀ q,q∈pend→∀ p,i≤p→p≤n→(∀ e,i≤e→e<p→eff e=true→bp q.1 e=false)→Ndo X N ops (ix q.1) q.2.1 q.2.2.1 q.2.2.2 (SS p) (SS p)
theorem DrvP.data {ops:Array Oper}{ix:Nat→Nat}{bp:Nat→Nat→Bool}{em:Nat→Bool}:∀ (os:List Oper)(i:Nat)(F:B3)(S:St)(Hs:List St)(pend:List Hn)(K:B3→St→Prop),
 DrvP X N ops ix bp em os i F S Hs pend K→(∀ k,k<os.length→ops[ix (i+k)]?=os[k]?)→S∈Hs→(∀ q,q∈pend→Ndo X N ops (ix q.1) q.2.1 q.2.2.1 q.2.2.2 S S) →
 ∃ eff x FF SS,FF i=F∧SS i=S∧K (FF (i+os.length)) (SS (i+os.length))∧DDataP X N ops ix bp em i (i+os.length) eff x FF SS Hs pend
 | [],i,F,S,Hs,pend,K,h,_,hS,hp=>by
   refine ⟨fun _=>false,fun _=>.junk,fun _=>F,fun _=>S,rfl,rfl,h,?_⟩
   exact { step:=fun j h1 h2=>by simp at h2;omega
           eff0:=fun j h1 h2=>by simp at h2;omega
           eff1:=fun j h1 h2=>by simp at h2;omega
           was:=fun j h1 h2=>by simp at h2;omega
           will:=fun j h1 h2=>by simp at h2;omega
           pend:=fun q hq p _ _ _=>hp q hq }
 | o::os,i,F,S,Hs,pend,K,h,hops,hS,hp=>by
   have ho:ops[ix i]?=some o:=by have:=hops 0 (by simp);simpa using this
   have hops':∀ k,k<os.length→ops[ix (i+1+k)]?=os[k]?:=fun k hk=>by
    have:=hops (k+1) (by simp;omega)
    rw [show i+1+k=i+(k+1) by omega]
    simpa using this
   have hlen:i+(o::os).length=i+1+os.length:=by simp;omega
   rw [hlen]
   simp only [DrvP] at h
   have Kp:∀ {β:Type} (f:Nat→β) (v:β) (j:Nat),(fun j=>if j=i then v else f j) j=if j=i then v else f j:=fun _ _ _=>rfl
   rcases h with ⟨x,hd,hn,hk⟩ | ⟨x,hd,hn,hk⟩ | ⟨x,S',pend',he,hd,hn,hpf,hpn,hk⟩
   ·obtain ⟨eff,xs,FF,SS,h1,h2,h3,D⟩:=DrvP.data os (i+1) _ S Hs pend K hk hops' hS hp
    refine ⟨fun j=>if j=i then false else eff j,fun j=>if j=i then x else xs j,fun j=>if j=i then F else FF j,fun j=>if j=i then S else SS j,by simp,by simp,?_,?_⟩
    ·have:¬ (i+1+os.length=i):=by omega
     simpa [this] using h3
    ·refine ⟨fun j a b o' ho'=>?_,fun j a b c=>?_,fun j a b c o' ho'=>?_,fun j a b c o' ho' S' hS'=>?_,fun j a b c o' ho' p hp1 hp2 hpe=>?_,fun q hq p hp1 hp2 hpe=>?_⟩
     ·by_cases hj:j=i
      ·subst hj;rw [ho] at ho';cases ho'
       simp [h1,hd]
      ·have h4:¬ (j+1=i):=by omega
       simp only [hj,h4,if_false]
       exact D.step j (by omega) b o' ho'
     ·by_cases hj:j=i
      ·subst hj;simp [h2]
      ·have h4:¬ (j+1=i):=by omega
       simp only [hj,h4,if_false] at c ⊢
       exact D.eff0 j (by omega) b c
     ·by_cases hj:j=i
      ·subst hj;simp at c
      ·have h4:¬ (j+1=i):=by omega
       simp only [hj,h4,if_false] at c ⊢
       exact D.eff1 j (by omega) b c o' ho'
     ·by_cases hj:j=i
      ·subst hj;rw [ho] at ho';cases ho';simp only [if_true];exact hn S'
      ·simp only [hj,if_false] at c ⊢
       exact D.was j (by omega) b c o' ho' S' hS'
     ·by_cases hj:j=i
      ·subst hj;rw [ho] at ho';cases ho';simp only [if_true];exact hn _
      ·simp only [hj,if_false] at c ⊢
       by_cases hpi:p=i
       ·subst hpi;simp only [if_true];exact D.was j (by omega) b c o' ho' S hS
       ·simp only [hpi,if_false]
        refine D.will j (by omega) b c o' ho' p (by omega) hp2 (fun e e1 e2 e3=>hpe e e1 e2 ?_)
        have:¬ (e=i):=by omega
        simpa [this] using e3
     ·by_cases hpi:p=i
      ·subst hpi;simp only [if_true];exact hp q hq
      ·simp only [hpi,if_false]
       refine D.pend q hq p (by omega) hp2 (fun e e1 e2 e3=>hpe e (by omega) e2 ?_)
       have:¬ (e=i):=by omega
       simpa [this] using e3
   ·obtain ⟨eff,xs,FF,SS,h1,h2,h3,D⟩:=DrvP.data os (i+1) _ S Hs ((i,o,F,x)::pend) K hk hops' hS (fun q hq=>by
     rcases List.mem_cons.1 hq with rfl | hq
     ·exact hn S hS
     ·exact hp q hq)
    refine ⟨fun j=>if j=i then false else eff j,fun j=>if j=i then x else xs j,fun j=>if j=i then F else FF j,fun j=>if j=i then S else SS j,by simp,by simp,?_,?_⟩
    ·have:¬ (i+1+os.length=i):=by omega
     simpa [this] using h3
    ·refine ⟨fun j a b o' ho'=>?_,fun j a b c=>?_,fun j a b c o' ho'=>?_,fun j a b c o' ho' S' hS'=>?_,fun j a b c o' ho' p hp1 hp2 hpe=>?_,fun q hq p hp1 hp2 hpe=>?_⟩
     ·by_cases hj:j=i
      ·subst hj;rw [ho] at ho';cases ho'
       simp [h1,hd]
      ·have h4:¬ (j+1=i):=by omega
       simp only [hj,h4,if_false]
       exact D.step j (by omega) b o' ho'
     ·by_cases hj:j=i
      ·subst hj;simp [h2]
      ·have h4:¬ (j+1=i):=by omega
       simp only [hj,h4,if_false] at c ⊢
       exact D.eff0 j (by omega) b c
     ·by_cases hj:j=i
      ·subst hj;simp at c
      ·have h4:¬ (j+1=i):=by omega
       simp only [hj,h4,if_false] at c ⊢
       exact D.eff1 j (by omega) b c o' ho'
     ·by_cases hj:j=i
      ·subst hj;rw [ho] at ho';cases ho';simp only [if_true];exact hn S' hS'
      ·simp only [hj,if_false] at c ⊢
       exact D.was j (by omega) b c o' ho' S' hS'
     ·by_cases hpi:p=i
      ·subst hpi
       simp only [if_true]
       by_cases hj:j=p
       ·subst hj;rw [ho] at ho';cases ho';simp only [if_true];exact hn S hS
       ·simp only [hj,if_false] at c ⊢;exact D.was j (by omega) b c o' ho' S hS
      ·simp only [hpi,if_false]
       by_cases hj:j=i
       ·subst hj;rw [ho] at ho';cases ho';simp only [if_true]
        refine D.pend (j,o,F,x) (by simp) p (by omega) hp2 (fun e e1 e2 e3=>hpe e (by omega) e2 ?_)
        have:¬ (e=j):=by omega
        simpa [this] using e3
       ·simp only [hj,if_false] at c ⊢
        refine D.will j (by omega) b c o' ho' p (by omega) hp2 (fun e e1 e2 e3=>hpe e e1 e2 ?_)
        have:¬ (e=i):=by omega
        simpa [this] using e3
     ·by_cases hpi:p=i
      ·subst hpi;simp only [if_true];exact hp q hq
      ·simp only [hpi,if_false]
       refine D.pend q (by simp [hq]) p (by omega) hp2 (fun e e1 e2 e3=>hpe e (by omega) e2 ?_)
       have:¬ (e=i):=by omega
       simpa [this] using e3
   ·obtain ⟨eff,xs,FF,SS,h1,h2,h3,D⟩:=DrvP.data os (i+1) _ S' (S'::Hs) pend' K hk hops' (by simp) hpn
    refine ⟨fun j=>if j=i then true else eff j,fun j=>if j=i then x else xs j,fun j=>if j=i then F else FF j,fun j=>if j=i then S else SS j,by simp,by simp,?_,?_⟩
    ·have:¬ (i+1+os.length=i):=by omega
     simpa [this] using h3
    ·refine ⟨fun j a b o' ho'=>?_,fun j a b c=>?_,fun j a b c o' ho'=>?_,fun j a b c o' ho' S' hS'=>?_,fun j a b c o' ho' p hp1 hp2 hpe=>?_,fun q hq p hp1 hp2 hpe=>?_⟩
     ·by_cases hj:j=i
      ·subst hj;rw [ho] at ho';cases ho'
       simp [h1,hd]
      ·have h4:¬ (j+1=i):=by omega
       simp only [hj,h4,if_false]
       exact D.step j (by omega) b o' ho'
     ·by_cases hj:j=i
      ·subst hj;simp at c
      ·have h4:¬ (j+1=i):=by omega
       simp only [hj,h4,if_false] at c ⊢
       exact D.eff0 j (by omega) b c
     ·by_cases hj:j=i
      ·subst hj;rw [ho] at ho';cases ho'
       simp [h2,he];exact hn
      ·have h4:¬ (j+1=i):=by omega
       simp only [hj,h4,if_false] at c ⊢
       exact D.eff1 j (by omega) b c o' ho'
     ·by_cases hj:j=i
      ·subst hj;simp at c
      ·simp only [hj,if_false] at c ⊢
       exact D.was j (by omega) b c o' ho' S' (by simp [hS'])
     ·by_cases hj:j=i
      ·subst hj;simp at c
      ·simp only [hj,if_false] at c ⊢
       by_cases hpi:p=i
       ·subst hpi;simp only [if_true];exact D.was j (by omega) b c o' ho' S (by simp [hS])
       ·simp only [hpi,if_false]
        refine D.will j (by omega) b c o' ho' p (by omega) hp2 (fun e e1 e2 e3=>hpe e e1 e2 ?_)
        have:¬ (e=i):=by omega
        simpa [this] using e3
     ·by_cases hpi:p=i
      ·subst hpi;simp only [if_true];exact hp q hq
      ·simp only [hpi,if_false]
       have hb:bp q.1 i=false:=hpe i (Nat.le_refl _) (by omega) (by simp)
       refine D.pend q (by rw [← hpf];exact List.mem_filter.2 ⟨hq,by simp [hb]⟩) p (by omega) hp2 (fun e e1 e2 e3=>hpe e (by omega) e2 ?_)
       have:¬ (e=i):=by omega
       simpa [this] using e3
def T0 (ops:Array Oper)(ix:Nat→Nat)(x:Nat→AV)(listed:Nat→Bool)(F:B3):Nat→B3
 | 0=>F
 | j+1=>match listed j with
   | true=>match ops[ix j]? with
     | some o=>putF o.dst (x j) (T0 ops ix x listed F j)
     | none=>T0 ops ix x listed F j
   | false=>T0 ops ix x listed F j
theorem Lj {ops:Array Oper}{ix:Nat→Nat}{x:Nat→AV}{listed:Nat→Bool}{t:Nat}:∀ n,(∀ j,j<n→listed j=true→∀ o,ops[ix j]?=some o→o.dst≠some t)→lk (T0 ops ix x listed F n) t=lk F t
 | 0,_=>rfl
 | n+1,h=>by
   have ih:lk (T0 ops ix x listed F n) t=lk F t:=Lj n (fun j hj=>h j (by omega))
   simp only [T0]
   split
   ·rename_i hl
    split
    ·rename_i o ho
     rw [E4,if_neg (h n (by omega) hl o ho),ih]
    ·exact ih
   ·exact ih
theorem Oh {ops:Array Oper}{ix:Nat→Nat}{x:Nat→AV}{listed:Nat→Bool}{t j:Nat}{o:Oper}(ho:ops[ix j]?=some o)(hd:o.dst=some t)(hl:listed j=true) :
 ∀ n,j<n→(∀ (j':Nat) (o':Oper),j'<n→j≠j'→ops[ix j']?=some o'→o'.dst≠some t)→lk (T0 ops ix x listed F n) t=some (x j)
 | 0,h,_=>by omega
 | n+1,h,hu=>by
   simp only [T0]
   by_cases hj:j=n
   ·subst hj
    simp only [hl,ho]
    rw [E4,if_pos hd]
   ·have ih:lk (T0 ops ix x listed F n) t=some (x j):=Oh ho hd hl n (by omega) (fun j' o' h'=>hu j' o' (by omega))
    split
    ·split
     ·rename_i o' ho'
      rw [E4,if_neg (hu n o' (by omega) hj ho'),ih]
     ·exact ih
    ·exact ih
structure DrawOkP (ops:Array Oper)(ix:Nat→Nat)(n:Nat)(bp:Nat→Nat→Bool)(em:Nat→Bool):Prop where
 at_:∀ j,j<n→∃ o,ops[ix j]?=some o
 looks:∀ (i j:Nat) (oi oj:Oper),i<n→j<n→ops[ix i]?=some oi→ops[ix j]?=some oj→∀ t,oj.dst=some t→t∈oi.looksAt ops→(j<i∧bp j i=true)∨(i<j∧bp i j=true)
 dsts:∀ (i j:Nat) (oi oj:Oper),i<n→j<n→ops[ix i]?=some oi→ops[ix j]?=some oj→i≠j→∀ t,oi.dst=some t→oj.dst≠some t
 effs:∀ (i j:Nat),i<j→j<n→em i=true→em j=true→bp i j=true
def OrdP (bp:Nat→Nat→Bool)(n:Nat):List Nat→(Nat→Bool)→Prop
 | [],listed=>∀ j,j<n→listed j=true
 | i::l,listed=>i<n∧listed i=false∧(∀ e,e<n→bp e i=true→listed e=true)∧OrdP bp n l (fun j=>if i=j then true else listed j)
def CloP (bp:Nat→Nat→Bool)(n:Nat)(listed:Nat→Bool):Prop:=∀ j e,j<n→e<n→listed j=true→bp e j=true→listed e=true
theorem CloP.put {bp:Nat→Nat→Bool}{n i:Nat}{listed:Nat→Bool}(h:CloP bp n listed)(hb:∀ e,e<n→bp e i=true→listed e=true):CloP bp n (fun j=>if i=j then true else listed j):=fun j e hj he hl hb'=>by
 by_cases h1:i=e
 ·simp [h1]
 ·simp only [h1,if_false]
  by_cases h2:i=j
  ·subst h2;exact hb e he hb'
  ·simp only [h2,if_false] at hl;exact h j e hj he hl hb'
theorem Alp {ops:Array Oper}{ix:Nat→Nat}{n:Nat}{bp:Nat→Nat→Bool}{em:Nat→Bool}(dk:DrawOkP ops ix n bp em){eff:Nat→Bool}{x:Nat→AV}{FF:Nat→B3}{SS:Nat→St}{Hs:List St}{pend:List Hn}
 (D:DDataP X N ops ix bp em 0 n eff x FF SS Hs pend)(hF0:FF 0=F)(k:List Item):∀ (l:List Nat)(listed:Nat→Bool)(a:Act)(w:World)(E:Env)(p:Nat),
 OrdP bp n l listed→CloP bp n listed→p≤n→(∀ e,e<n→eff e=true→(listed e=true↔e<p)) →
 Inv X E (SS p) w→FR E w (T0 ops ix x listed F n) a N→∀ (b:Frame) (cs:List Frame),
  ∃ E' w' a',Steps X.P (lone (b.at a (.inRegion ops (l.map ix)::k)) cs w) (lone (b.at a' k) cs w')∧Inv X E' (SS n) w' ∧
   FR E' w' (FF n) a' N∧Evol E w E' w' E.boxes.length E.toks.length:=by
 have hFF:∀ m,m≤n→FF m=T0 ops ix x (fun _=>true) F m:=by
  intro m
  induction m with
  | zero=>intro _;exact hF0
  | succ m ih =>
    intro hn
    obtain ⟨o,ho⟩:=dk.at_ m (by omega)
    rw [(D.step m (Nat.zero_le _) (by omega) _ ho).1,ih (by omega)]
    simp [T0,ho]
 have hSS:∀ p q,p≤q→q≤n→(∀ e,p≤e→e<q→eff e=false)→SS q=SS p:=by
  intro p q hpq
  induction q with
  | zero=>intro _ _;rw [show p=0 by omega]
  | succ q ih =>
    intro hq he
    by_cases h:p=q+1
    ·rw [h]
    ·rw [D.eff0 q (Nat.zero_le _) (by omega) (he q (by omega) (by omega))]
     exact ih (by omega) (by omega) (fun e h1 h2=>he e h1 (by omega))
 intro l
 induction l with
 | nil =>
   intro listed a w E p hall hc hp hpe hI hF b cs
   refine ⟨E,w,a,.one step_region_end,?_,?_,Evol.refl _ _ _ _⟩
   ·rw [hSS p n hp (Nat.le_refl _) fun e h1 h2=>by
     cases he:eff e with
     | false=>rfl
     | true=>have:=(hpe e h2 he).1 (hall e h2);omega]
    exact hI
   ·rw [hFF _ (Nat.le_refl _)]
    have:T0 ops ix x listed F n=T0 ops ix x (fun _=>true) F n:=by
     have:∀ m,m≤n→T0 ops ix x listed F m=T0 ops ix x (fun _=>true) F m:=by
      intro m
      induction m with
      | zero=>intro _;rfl
      | succ m ih=>intro hn;simp only [T0,hall m (by omega),ih (by omega)]
     exact this _ (Nat.le_refl _)
    rw [← this];exact hF
 | cons i l ih =>
   intro listed a w E p hord hc hp hpe hI hF b cs
   obtain ⟨hin,hilf,rbit,hrest⟩:=hord
   obtain ⟨o,ho⟩:=dk.at_ i hin
   simp only [List.map_cons]
   have notbit:∀ e,e<n→listed e=true→bp i e=false:=fun e he hl=>by
    cases hb:bp i e with
    | false=>rfl
    | true=>have:=hc e i he hin hl hb;rw [hilf] at this;cases this
   have hagree:∀ t,t∈o.looksAt ops→lk (T0 ops ix x listed F n) t=lk (FF i) t:=fun t ht=>by
    rw [hFF i (by omega)]
    by_cases hw:∃ (j:Nat) (oj:Oper),j<n∧ops[ix j]?=some oj∧oj.dst=some t
    ·obtain ⟨j,oj,hjn,hj,hd⟩:=hw
     have hu:∀ (j':Nat) (o':Oper),j'<n→j≠j'→ops[ix j']?=some o'→o'.dst≠some t:=fun j' o' hjn' hne ho'=>dk.dsts j j' oj o' hjn hjn' hj ho' hne t hd
     rcases dk.looks i j o oj hin hjn ho hj t hd ht with ⟨h1,h2⟩ | ⟨h1,h2⟩
     ·rw [Oh (listed:=listed) hj hd (rbit j hjn h2) n hjn (fun j' o' hj'=>hu j' o' hj'),Oh (listed:=fun _=>true) hj hd rfl i h1 (fun j' o' hj'=>hu j' o' (by omega))]
     ·have hjl:listed j=false:=by
       cases hl:listed j with
       | false=>rfl
       | true=>have:=notbit j hjn hl;rw [h2] at this;cases this
      rw [Lj n fun j' hj' hl' o' ho' hc'=>by
       by_cases hjj:j=j'
       ·subst hjj;rw [hjl] at hl';cases hl'
       ·exact hu j' o' hj' hjj ho' hc',
       Lj i fun j' hj' _ o' ho' hc'=>by
        by_cases hjj:j=j'
        ·omega
        ·exact hu j' o' (by omega) hjj ho' hc']
    ·rw [Lj n fun j' hj' _ o' ho' hc'=>hw ⟨j',o',hj',ho',hc'⟩,Lj i fun j' hj' _ o' ho' hc'=>hw ⟨j',o',by omega,ho',hc'⟩]
   have hcl':=hc.put rbit
   have hlk':∀ t,lk (T0 ops ix x (fun j=>if i=j then true else listed j) F n) t=lk (putF o.dst (x i) (T0 ops ix x listed F n)) t:=fun t=>by
    rw [E4]
    by_cases hd:o.dst=some t
    ·rw [if_pos hd]
     exact Oh ho hd (by simp) n hin (fun j' o' hj' hne ho'=>dk.dsts i j' o o' hin hj' ho ho' hne t hd)
    ·rw [if_neg hd]
     have:∀ m,lk (T0 ops ix x (fun j=>if i=j then true else listed j) F m) t=lk (T0 ops ix x listed F m) t:=by
      intro m
      induction m with
      | zero=>rfl
      | succ m ihn =>
        simp only [T0]
        by_cases hn:i=m
        ·subst hn
         simp only [if_true,hilf,ho]
         rw [E4,if_neg hd,ihn]
        ·simp only [hn,if_false]
         split
         ·split
          ·rw [E4,E4,ihn]
          ·exact ihn
         ·exact ihn
     exact this _
   have next:∀ (p':Nat),p'≤n→(∀ e,e<n→eff e=true→((if i=e then true else listed e)=true↔e<p'))→Ndo X N ops (ix i) o (FF i) (x i) (SS p) (SS p') →
    ∃ E' w' a',Steps X.P (lone (b.at a (.inRegion ops (ix i::l.map ix)::k)) cs w) (lone (b.at a' k) cs w') ∧
     Inv X E' (SS n) w'∧FR E' w' (FF n) a' N∧Evol E w E' w' E.boxes.length E.toks.length:=fun p' hp' hpe' hn=>by
    obtain ⟨v,w1,⟨E1,h1,h2,h3⟩,h4⟩:=hn _ E w a hagree hI hF b k cs (l.map ix)
    rw [ho] at h4
    have hd:=(D.step i (Nat.zero_le _) hin o ho).2
    have hF1:FR E1 w1 (T0 ops ix x (fun j=>if i=j then true else listed j) F n) (a.put o.dst v) N:=by
     have:=(hF.step h2).putF hd h3
     exact ⟨this.size,this.nod,fun q y hq=>this.rel q y (by rw [← hlk' q];exact hq)⟩
    obtain ⟨E',w',a',k1,k2,k3,k4⟩:=ih _ _ w1 E1 p' hrest hcl' hp' hpe' h1 hF1 b cs
    have hlen:=h2.len
    exact ⟨E',w',a',h4.trans k1,k2,k3,h2.trans (k4.weaken hlen.1 hlen.2)⟩
   cases he:eff i with
   | false =>
     refine next p hp (fun e hen hee=>?_) ?_
     ·by_cases hie:i=e
      ·subst hie;rw [he] at hee;cases hee
      ·rw [if_neg hie];exact hpe e hen hee
     ·exact D.will i (Nat.zero_le _) hin he o ho p (Nat.zero_le _) hp (fun e h1 h2 h3=>notbit e (by omega) ((hpe e (by omega) h3).2 h2))
   | true =>
     obtain ⟨es,hn⟩:=D.eff1 i (Nat.zero_le _) hin he o ho
     have hpi:p≤i:=by
      rcases Nat.lt_or_ge i p with h | h
      ·have:=(hpe i hin he).2 h;rw [hilf] at this;cases this
      ·exact h
     have before:∀ e,e<i→eff e=true→listed e=true:=fun e hei hee=>by
      obtain ⟨oe,hoe⟩:=dk.at_ e (by omega)
      exact rbit e (by omega) (dk.effs e i hei hin (D.eff1 e (Nat.zero_le _) (by omega) hee _ hoe).1 es)
     have hSp:SS i=SS p:=hSS p i hpi (by omega) (fun e h1 h2=>by
      cases hee:eff e with
      | false=>rfl
      | true=>have:=(hpe e (by omega) hee).1 (before e h2 hee);omega)
     refine next (i+1) (by omega) (fun e hen hee=>?_) (by rw [← hSp];exact hn)
     by_cases hie:i=e
     ·subst hie;simp
     ·rw [if_neg hie]
      constructor
      ·intro hl
       rcases Nat.lt_or_ge e (i+1) with h | h
       ·exact h
       ·obtain ⟨oe,hoe⟩:=dk.at_ e hen
        have:=dk.effs i e (by omega) hen es (D.eff1 e (Nat.zero_le _) hen hee _ hoe).1
        have h2:=notbit e hen hl
        rw [this] at h2;cases h2
      ·intro hlt
       exact before e (by omega) hee
end
def AB (a b:Nat):List Nat→(Nat→Bool)→Prop
 | [],_=>True
 | i::l,listed=>(i=b→listed a=true)∧AB a b l (fun j=>if i=j then true else listed j)
theorem Aaj {a b:Nat}:∀ (l:List Nat)(listed:Nat→Bool),listed a=true→AB a b l listed
 | [],_,_=>trivial
 | i::l,listed,h=>⟨fun _=>h,Aaj l _ (by simp [h])⟩
theorem Akl {a b:Nat}(hne:a≠b):∀ (l:List Nat)(listed:Nat→Bool),AB a b l listed∨AB b a l listed
 | [],_=>.inl trivial
 | i::l,listed=>by
   by_cases ha:i=a
   ·subst ha
    exact .inl ⟨fun h=>absurd h hne,Aaj l _ (by simp)⟩
   ·by_cases hb:i=b
    ·subst hb
     exact .inr ⟨fun h=>absurd h.symm hne,Aaj l _ (by simp)⟩
    ·rcases Akl hne l (fun j=>if i=j then true else listed j) with h | h
     ·exact .inl ⟨fun h'=>absurd h' hb,h⟩
     ·exact .inr ⟨fun h'=>absurd h' ha,h⟩
theorem Asm {bp:Nat→Nat→Bool}{n a b c:Nat}(hb:b<n)(hbc:bp b c=true):∀ (l:List Nat)(listed:Nat→Bool),OrdP bp n l listed→AB a b l listed→(listed b=true→listed a=true)→AB a c l listed
 | [],_,_,_,_=>trivial
 | i::l,listed,⟨_,_,g3,g4⟩,⟨h1,h2⟩,h3=>⟨fun hi=>h3 (g3 b hb (by rw [hi];exact hbc)),Asm hb hbc l _ g4 h2 (fun hl=>by
    by_cases hib:i=b
    ·by_cases hia:i=a
     ·simp [hia]
     ·simp [hia,h1 hib]
    ·simp only [hib,if_false] at hl
     by_cases hia:i=a
     ·simp [hia]
     ·simp [hia,h3 hl])⟩
theorem OrdP.congr {bp:Nat→Nat→Bool}{n:Nat}:∀ (l:List Nat){f g:Nat→Bool},(∀ p,p<n→f p=g p)→OrdP bp n l f→OrdP bp n l g
 | [],f,g,h,ho=>fun j hj=>by rw [← h j hj];exact ho j hj
 | i::l,f,g,h,⟨g1,g2,g3,g4⟩=>⟨g1,by rw [← h i g1];exact g2,fun e he hb=>by rw [← h e he];exact g3 e he hb,OrdP.congr l (fun p hp=>by
    by_cases hi:i=p
    ·simp [hi]
    ·simp [hi,h p hp]) g4⟩
theorem OrdP.map {bp:Nat→Nat→Bool}{n:Nat}{σ ix:Nat→Nat}(h1:∀ i,i<n→σ i<n∧ix (σ i)=i)(h2:∀ p,p<n→ix p<n∧σ (ix p)=p){asm:List (Nat × Nat)}:∀ (l:List Nat)(listed:Nat→Bool),OrdP bp n l listed →
 (∀ ab,ab∈asm→AB ab.1 ab.2 l listed)→OrdP (fun q p=>bp (ix q) (ix p)||asm.contains (ix q,ix p)) n (l.map σ) (fun p=>listed (ix p))∧(l.map σ).map ix=l
 | [],listed,h,_=>⟨fun j hj=>h _ (h2 j hj).1,rfl⟩
 | i::l,listed,h,ha=>by
   obtain ⟨g1,g2,g3,g4⟩:=h
   obtain ⟨k1,k2⟩:=h1 i g1
   have ih:=OrdP.map h1 h2 l _ g4 (fun ab hab=>(ha ab hab).2)
   refine ⟨⟨k1,by simp only [k2];exact g2,fun e he hb=>?_,OrdP.congr _ (fun p hp=>?_) ih.1⟩,by simp only [List.map_cons,k2,ih.2]⟩
   ·simp only [k2,Bool.or_eq_true] at hb
    rcases hb with hb | hb
    ·exact g3 _ (h2 e he).1 hb
    ·have hm:=List.contains_iff_mem.1 hb
     exact (ha _ hm).1 rfl
   ·by_cases hi:i=ix p
    ·have:σ i=p:=by rw [hi];exact (h2 p hp).2
     simp only [this,if_true,if_pos hi]
    ·have hs:¬ σ i=p:=fun h=>hi (by rw [← h];exact k2.symm)
     simp [hi,hs]
theorem Aqa {ops:Array Oper}{bs:List Nat}(hb:T7 ops bs=true):∀ (fuel t:Nat)(listed:Array Bool),listed.size=ops.size→Closed ops listed→Vz listed ops.size≤fuel →
 OrdP (bitOf bs) ops.size (Region.linearise.go .any ops fuel t listed []) (fun j=>listed.getD j false):=by
 have fin:∀ (listed:Array Bool),(∀ j,j<ops.size→listed.getD j false=true)→OrdP (bitOf bs) ops.size [] (fun j=>listed.getD j false):=fun _ h=>h
 intro fuel
 induction fuel with
 | zero =>
   intro t listed hs hc hcnt
   refine fin listed fun j hj=>?_
   cases hl:listed.getD j false with
   | true=>rfl
   | false =>
     have:j∈(List.range ops.size).filter fun j=>!listed.getD j false:=List.mem_filter.2 ⟨List.mem_range.2 hj,by simp only [hl];rfl⟩
     unfold Vz at hcnt
     have:=List.length_pos_of_mem this
     omega
 | succ fuel ih =>
   intro t listed hs hc hcnt
   simp only [Region.linearise.go]
   change OrdP (bitOf bs) ops.size (match (Region.ready .any ops listed)[t % (Region.ready .any ops listed).length]? with
    | some i=>Region.linearise.go .any ops fuel (t / (Region.ready .any ops listed).length) (listed.setIfInBounds i true) [i]
    | none=>[].reverse) _
   cases hi:(Region.ready .any ops listed)[t % (Region.ready .any ops listed).length]? with
   | none =>
     have hnil:Region.ready .any ops listed=[]:=by
      cases hr:Region.ready .any ops listed with
      | nil=>rfl
      | cons y ys =>
        rw [hr] at hi
        have hlt:t % (y::ys).length<(y::ys).length:=Nat.mod_lt _ (by simp)
        simp at hi
        simp at hlt
        omega
     exact fin listed (Ru hb hs hnil)
   | some i =>
     obtain ⟨hin,hil,o,ho,hafter⟩:=Uo (List.mem_of_getElem? hi)
     have hilf:listed.getD i false=false:=by
      have:i<listed.size:=by omega
      simp [Array.getD,this] at hil ⊢;exact hil
     simp only []
     rw [linearise_go_acc,List.reverse_singleton,List.singleton_append]
     have rbit:∀ e,e<ops.size→bitOf bs e i=true→listed.getD e false=true:=fun e he hbit=>by
      have hk:=List.all_eq_true.1 hb i (List.mem_range.2 hin)
      rw [ho] at hk
      simp only [Bool.and_eq_true,beq_iff_eq] at hk
      unfold bitOf at hbit
      rw [hk.1] at hbit
      rcases M0 bs e _ 0 hbit with h | ⟨e',he',hbe,h⟩
      ·simp at h
      ·have hl':=hafter e' he' hbe
       rcases h with rfl | h
       ·exact hl'
       ·have:e'.on<ops.size:=by
         have h2:=List.all_eq_true.1 hk.2 e' he'
         simp only [hbe,Bool.not_true,Bool.or_false] at h2
         have:e'.on<i:=by simpa [Nat.blt_eq] using h2
         omega
        exact hc.bit hb e'.on e this hl' h
     have hcl':Closed ops (listed.setIfInBounds i true):=fun j oj hj hoj e he hb=>by
      rw [Ge (by omega)] at hj ⊢
      by_cases hie:i=e.on
      ·rw [if_pos hie]
      ·rw [if_neg hie]
       by_cases hij:i=j
       ·subst hij;rw [ho] at hoj;cases hoj;exact hafter e he hb
       ·rw [if_neg hij] at hj;exact hc j oj hj hoj e he hb
     have hcu:=Wx hin hs hilf
     refine ⟨hin,hilf,rbit,OrdP.congr _ (fun p _=>?_) (ih _ (listed.setIfInBounds i true) (by simp [hs]) hcl' (by omega))⟩
     rw [Ge (by omega)]
def bpP (bs:List Nat)(π:List Nat)(asm:List (Nat × Nat))(q p:Nat):Bool:=bitOf bs (π.getD q 0) (π.getD p 0)||asm.contains (π.getD q 0,π.getD p 0)
def okP (ops:Array Oper)(bs π:List Nat)(asm:List (Nat × Nat))(em:Nat):Bool :=
 ((List.range ops.size).all fun i=>Nat.blt (π.idxOf i) ops.size&&π.getD (π.idxOf i) 0==i) &&
 ((List.range ops.size).all fun p=>Nat.blt (π.getD p 0) ops.size&&π.idxOf (π.getD p 0)==p) &&
 (List.range ops.size).all fun i=>match ops[π.getD i 0]? with
   | none=>false
   | some oi=>(List.range ops.size).all fun j=>match ops[π.getD j 0]? with
     | none=>false
     | some oj =>
       (match oj.dst with
         | some t=>!(oi.looksAt ops).contains t||(Nat.blt j i&&bpP bs π asm j i)||(Nat.blt i j&&bpP bs π asm i j)
         | none=>true) &&
       (i==j||(match oi.dst with
         | some t=>oj.dst != some t
         | none=>true)) &&
       (Nat.ble j i||!(em.testBit (π.getD i 0)&&em.testBit (π.getD j 0))||bpP bs π asm i j)
theorem Ams {ops:Array Oper}{bs π:List Nat}{asm:List (Nat × Nat)}{em:Nat}(h:okP ops bs π asm em=true) :
 (∀ i,i<ops.size→π.idxOf i<ops.size∧π.getD (π.idxOf i) 0=i)∧(∀ p,p<ops.size→π.getD p 0<ops.size∧π.idxOf (π.getD p 0)=p) ∧
 DrawOkP ops (π.getD · 0) ops.size (bpP bs π asm) (fun j=>em.testBit (π.getD j 0)):=by
 unfold okP at h
 rw [Bool.and_eq_true,Bool.and_eq_true] at h
 obtain ⟨⟨h1,h2⟩,h3⟩:=h
 have key:∀ (i j:Nat) (oi oj:Oper),i<ops.size→j<ops.size→ops[π.getD i 0]?=some oi→ops[π.getD j 0]?=some oj →
  ((match oj.dst with
     | some t=>!(oi.looksAt ops).contains t||(Nat.blt j i&&bpP bs π asm j i)||(Nat.blt i j&&bpP bs π asm i j)
     | none=>true) &&
    (i==j||(match oi.dst with
      | some t=>oj.dst != some t
      | none=>true)) &&
    (Nat.ble j i||!(em.testBit (π.getD i 0)&&em.testBit (π.getD j 0))||bpP bs π asm i j))=true:=fun i j oi oj li lj hi hj=>by
  have a1:=List.all_eq_true.1 h3 i (List.mem_range.2 li)
  rw [hi] at a1
  have a2:=List.all_eq_true.1 a1 j (List.mem_range.2 lj)
  rw [hj] at a2
  exact a2
 have at_:∀ j,j<ops.size→∃ o,ops[π.getD j 0]?=some o:=fun j hj=>by
  have a1:=List.all_eq_true.1 h3 j (List.mem_range.2 hj)
  cases ho:ops[π.getD j 0]? with
  | none=>rw [ho] at a1;cases a1
  | some o=>exact ⟨o,rfl⟩
 refine ⟨fun i hi=>?_,fun p hp=>?_,at_,fun i j oi oj li lj hi hj t ht hm=>?_,fun i j oi oj li lj hi hj hne t ht hc=>?_,fun i j hij lj e1 e2=>?_⟩
 ·have:=List.all_eq_true.1 h1 i (List.mem_range.2 hi)
  simpa [Nat.blt_eq] using this
 ·have:=List.all_eq_true.1 h2 p (List.mem_range.2 hp)
  simpa [Nat.blt_eq] using this
 ·have:=key i j oi oj li lj hi hj
  simp only [Bool.and_eq_true,ht,Bool.or_eq_true,Bool.not_eq_true',Nat.blt_eq] at this
  rcases this.1.1 with (h | h) | h
  ·have hc:(oi.looksAt ops).contains t=true:=List.contains_iff_mem.2 hm
   rw [hc] at h;cases h
  ·exact .inl h
  ·exact .inr h
 ·have:=key i j oi oj li lj hi hj
  simp only [Bool.and_eq_true,ht,Bool.or_eq_true] at this
  rcases this.1.2 with h' | h'
  ·simp at h';exact hne h'
  ·rw [hc] at h';simp at h'
 ·obtain ⟨oi,hi⟩:=at_ i (by omega)
  obtain ⟨oj,hj⟩:=at_ j lj
  have:=key i j oi oj (by omega) lj hi hj
  simp only [Bool.and_eq_true,Bool.or_eq_true,e1,e2] at this
  rcases this.2 with (h' | h') | h'
  ·have:=Nat.le_of_ble_eq_true h';omega
  ·simp at h'
  ·exact h'
section
variable {X:Cx}{B:Bx}{E:Env}{S:St}{w:World}{F:B3}{a:Act}{N:Nat}{R:AE→St→Prop}
def Way (X:Cx)(N:Nat)(ops:Array Oper)(F:B3)(S:St)(K:B3→St→Prop)(l:List Nat):Prop :=
 ∃ (π:List Nat) (asm:List (Nat × Nat)) (em:Nat) (os:List Oper),(∀ ab,ab∈asm→AB ab.1 ab.2 l fun _=>false)∧okP ops (Fv ops.toList []) π asm em=true∧os.length=ops.size ∧
  (π.map fun i=>ops[i]?)=os.map some∧DrvP X N ops (π.getD · 0) (bpP (Fv ops.toList []) π asm) (fun j=>em.testBit (π.getD j 0)) os 0 F S [S] [] K
theorem Way.mk {ops:Array Oper}{K:B3→St→Prop}{l:List Nat}(π:List Nat)(asm:List (Nat × Nat))(em:Nat){os:List Oper}(ha:∀ ab,ab∈asm→AB ab.1 ab.2 l fun _=>false)(hos:(π.filterMap fun i=>ops[i]?)=os)
 (hd:DrvP X N ops (π.getD · 0) (bpP (Fv ops.toList []) π asm) (fun j=>em.testBit (π.getD j 0)) os 0 F S [S] [] K)(hok:okP ops (Fv ops.toList []) π asm em=true:=by kernel_rfl)(hl:os.length=ops.size:=by rfl)(hm:(π.map fun i=>ops[i]?)=os.map some:=by rfl):Way X N ops F S K l :=
 ⟨π,asm,em,os,ha,hok,hl,hm,hd⟩
theorem AK.ways {id:Nat}{ops:Array Oper}{k:List Item}(h:∀ l:List Nat,OrdP (bitOf (Fv ops.toList [])) ops.size l (fun _=>false)→Way X B.fn.ntmps ops F S (fun F' S'=>AK X B k F' S' R) l)(hb:T7 ops (Fv ops.toList [])=true:=by kernel_rfl):AK X B (.code (.region id ops true)::k) F S R:=by
 intro E w a b cs hI hF hn hm hbf
 have hord:=Aqa hb ops.size (w.tape w.drawn (.order b.fn id)) (Array.replicate ops.size false) (by simp) (fun j o hj=>by simp [Array.getD] at hj) (by
  unfold Vz
  exact Nat.le_trans (List.length_filter_le _ _) (by simp))
 generalize hl:Region.linearise.go .any ops ops.size (w.tape w.drawn (.order b.fn id)) (Array.replicate ops.size false) []=l at hord
 have hord':=OrdP.congr (g:=fun _=>false) l (fun p _=>by simp [Array.getD]) hord
 obtain ⟨π,asm,em,os,ha,hok,hos,hmap,hd⟩:=h l hord'
 obtain ⟨k1,k2,dk⟩:=Ams hok
 obtain ⟨o1,o2⟩:=OrdP.map (σ:=π.idxOf) (ix:=(π.getD · 0)) k1 k2 l _ hord' ha
 have hget:∀ j,j<os.length→ops[π.getD (0+j) 0]?=os[j]?:=fun j hj=>by
  have h1:=congrArg (fun l=>l[j]?) hmap
  simp only [List.getElem?_map] at h1
  rw [Nat.zero_add]
  cases hp:π[j]? with
  | none=>rw [hp] at h1;simp [List.getElem?_eq_getElem hj] at h1
  | some i =>
    rw [hp] at h1
    simp only [Option.map_some] at h1
    have:π.getD j 0=i:=by simp [List.getD,hp]
    rw [this]
    cases ho:os[j]? with
    | none=>rw [List.getElem?_eq_getElem hj] at ho;cases ho
    | some o=>rw [ho] at h1;simpa using h1
 obtain ⟨eff,x,FF,SS,h1,h2,h3,D⟩:=DrvP.data os 0 F S [S] [] _ hd hget (by simp) (fun q hq=>by cases hq)
 have hlen:0+os.length=ops.size:=by omega
 rw [hlen] at h3 D
 have hI1:Inv X E (SS 0) { w with drawn:=w.drawn+1 }:=by rw [h2];exact hI.keep (D9 E w _ _) (fun _ _=>rfl)
 have hF1:FR E { w with drawn:=w.drawn+1 } (T0 ops (π.getD · 0) x (fun _=>false) F ops.size) a B.fn.ntmps:=by
  have hF':=hF.step (D9 E w _ _)
  have:T0 ops (π.getD · 0) x (fun _=>false) F ops.size=F:=by
   have:∀ n,T0 ops (π.getD · 0) x (fun _=>false) F n=F:=by
    intro n
    induction n with
    | zero=>rfl
    | succ n ih=>simp only [T0];exact ih
   exact this _
  rw [this];exact hF'
 obtain ⟨E',w',a',g1,g2,g3,g4⟩:=Alp dk D h1 k (l.map π.idxOf) (fun _=>false) a { w with drawn:=w.drawn+1 } E 0 o1
  (fun j e _ _ hj=>by cases hj) (Nat.zero_le _) (fun e he hee=>by simp) hI1 hF1 b cs
 rw [o2] at g1
 have hst:Steps X.P (lone (b.at a (.code (.region id ops true)::k)) cs w) (lone (b.at a' k) cs w'):=by
  refine .head step_region_draw ?_
  simp only [Region.schedule,X.mixed,Bool.true_or,if_true]
  have hl':Region.linearise .any ops (w.tape w.drawn (.order b.fn id))=l:=hl
  rw [hl']
  exact g1
 have g4':=(D9 E w _ _).trans g4
 have hll:=g4'.len
 have nt:E.toks.length=S.toks.length:=by rw [← hI.nt];simp
 have nt':E'.toks.length=(SS ops.size).toks.length:=by rw [← g2.nt];simp
 exact Fin.from hst (g4'.weaken (by rw [hI.nb];exact hn) (by omega)) (h3 E' w' a' b cs g2 g3 (by rw [← g2.nb];have:=hI.nb;omega) (by omega) hbf)
end
section
variable {X:Cx}{B:Bx}{S S':St}{F F':B3}{R:AE→St→Prop}{ops:Array Oper}{N:Nat}{ix:Nat→Nat}{bp:Nat→Nat→Bool}{em:Nat→Bool}{KK:B3→St→Prop}
theorem My:∀ (n:Nat)(os:List Oper)(i:Nat)(F:B3)(pend:List Hn),(∀ k,k<os.length→ops[ix (i+k)]?=os[k]?) →
 DrvP X N ops ix bp em (Ip X N ops S n os i F pend).1 (Ip X N ops S n os i F pend).2.1 (Ip X N ops S n os i F pend).2.2.1 S [S] (Ip X N ops S n os i F pend).2.2.2 KK→DrvP X N ops ix bp em os i F S [S] pend KK
 | 0,os,i,F,p,_,h=>h
 | n+1,[],i,F,p,_,h=>h
 | n+1,o::os,i,F,p,hos,h=>by
   have ho:ops[ix i]?=some o:=by have:=hos 0 (by simp);simpa using this
   have hos':∀ k,k<os.length→ops[ix (i+1+k)]?=os[k]?:=fun k hk=>by
    have:=hos (k+1) (by simp;omega)
    rw [show i+1+k=i+(k+1) by omega]
    simpa using this
   unfold Ip at h
   split at h
   ·rename_i hw
    split at h
    ·rename_i x hx
     split at h
     ·rename_i F' hF
      obtain ⟨h1,rfl⟩:=Dz hF
      split at h
      ·exact .inr (.inl ⟨x,h1,fun S' hS'=>by simp at hS';subst hS';exact Ndo.ev ho hw hx,My n os (i+1) _ _ hos' h⟩)
      ·rename_i hl
       exact .inl ⟨x,h1,fun S'=>Ndo.ev ho hw (by rw [← N6 (S:=S) hl];exact hx),My n os (i+1) _ _ hos' h⟩
     ·exact h
    ·split at h
     ·rename_i x hx
      split at h
      ·rename_i F' hF
       obtain ⟨h1,rfl⟩:=Dz hF
       exact .inl ⟨x,h1,fun S'=>Lw ho hw (N5 hx S'.boxes S'.toks),My n os (i+1) _ _ hos' h⟩
      ·exact h
     ·exact h
   ·rename_i hw
    split at h
    ·rename_i F' hF
     obtain ⟨h1,rfl⟩:=Dz hF
     exact .inl ⟨_,h1,fun S'=>Ndo.skip ho hw,My n os (i+1) _ _ hos' h⟩
    ·exact h
   ·exact h
theorem DrvP.go {os os':List Oper}{i i':Nat}{F':B3}{pend pend':List Hn}(n:Nat)(k:DrvP X N ops ix bp em os' i' F' S [S] pend' KK)(h:Ip X N ops S n os i F pend=(os',i',F',pend'):=by rfl)
 (hos:((List.range os.length).map fun k=>ops[ix (i+k)]?)=os.map some:=by rfl):DrvP X N ops ix bp em os i F S [S] pend KK :=
 My n os i F pend (fun k hk=>by
  have h1:=congrArg (fun l=>l[k]?) hos
  simp only [List.getElem?_map,List.getElem?_range hk,Option.map_some,List.getElem?_eq_getElem hk] at h1
  rw [List.getElem?_eq_getElem hk]
  exact Option.some.inj h1) (by rw [h];exact k)
theorem DrvP.e {os:List Oper}{i:Nat}{o:Oper}{x:AV}{Hs:List St}{pend:List Hn}(k:DrvP X N ops ix bp em os (i+1) F' S Hs pend KK)(ho:ops[ix i]?=some o:=by rfl)(hw:A2 ops F o=some true:=by rfl)(h:∀ S',Cv X F S' o.op=some x:=by intro;rfl)(hF:Mo N o.dst x F=some F':=by rfl) :
 DrvP X N ops ix bp em (o::os) i F S Hs pend KK:=by
 obtain ⟨h1,rfl⟩:=Dz hF
 exact .inl ⟨x,h1,fun S'=>Ndo.ev ho hw (h S'),k⟩
theorem DrvP.w {os:List Oper}{i:Nat}{o:Oper}{x:AV}{Hs:List St}{pend:List Hn}(h:Ndo X N ops (ix i) o F x S S')(hr:∀ p,p∈pend→Ndo X N ops (ix p.1) p.2.1 p.2.2.1 p.2.2.2 S' S')
 (k:DrvP X N ops ix bp em os (i+1) F' S' (S'::Hs) (pend.filter fun p=>!bp p.1 i) KK)(he:em i=true:=by rfl)(hF:Mo N o.dst x F=some F':=by rfl):DrvP X N ops ix bp em (o::os) i F S Hs pend KK:=by
 obtain ⟨h1,rfl⟩:=Dz hF
 exact .inr (.inr ⟨x,S',_,he,h1,h,rfl,fun p hp=>hr p (List.mem_filter.1 hp).1,k⟩)
theorem DrvP.w0 {os:List Oper}{i:Nat}{o:Oper}{x:AV}{Hs:List St}{pend:List Hn}(h:Ndo X N ops (ix i) o F x S S')
 (k:DrvP X N ops ix bp em os (i+1) F' S' (S'::Hs) [] KK)(he:em i=true:=by rfl)(hF:Mo N o.dst x F=some F':=by rfl)(hp:pend.filter (fun p=>!bp p.1 i)=[]:=by kernel_rfl):DrvP X N ops ix bp em (o::os) i F S Hs pend KK:=by
 obtain ⟨h1,rfl⟩:=Dz hF
 exact .inr (.inr ⟨x,S',[],he,h1,h,hp,fun p hp'=>(by cases hp'),k⟩)
theorem Aal {i:Nat}{Hs:List St}{pend:List Hn}{k K:List Item}{S2:St}(id:Nat)(hk:AK X B K F' S2 R)(he:evT X B.fn.ntmps id 100 k F S=(K,F',S2):=by rfl):DrvP X N ops ix bp em [] i F S Hs pend fun F1 S1=>AK X B k F1 S1 R :=
 AK.evj id 100 he hk
inductive SubR (σ:List Nat)(F:B3):B3→Prop where
 | nil:SubR σ F []
 | cons {k:Nat} {x y:AV} {G:B3} (hx:lk F k=some x) (hr:RinC σ [] x y) (t:SubR σ F G):SubR σ F ((k,y)::G)
theorem SubR.get {σ:List Nat}{G:B3}(h:SubR σ F G):∀ k y,lk G k=some y→∃ x,lk F k=some x∧Ren true σ [] x y:=by
 induction h with
 | nil=>intro k y hy;simp [lk] at hy
 | cons hx hr t ih =>
   intro k y hy
   rw [I3] at hy
   split at hy
   ·rename_i hk;subst hk;cases hy;exact ⟨_,hx,hr.s⟩
   ·exact ih k y hy
instance {n m c:Nat}{x:List AV} [h:OKL n m x]:OKR n m (List.replicate c x):=⟨fun r hr=>by rw [List.eq_of_mem_replicate hr];exact h.ok⟩
theorem AK.perm {f:FuncId}{fn:Func}{K:List Item}{G:B3}{bx bx2:List (List (List AV))}(σ:List Nat)(hk:AK X ⟨f,fn,0,0⟩ K G ⟨bx2,[]⟩ R)(hG:SubR σ F G)(hS:S=⟨bx,[]⟩)(hn:Ho σ=true)(hl:σ.length=bx.length)(hlt:(σ.all fun i=>Nat.blt i bx.length)=true)(hal:((List.range bx.length).all fun i=>σ.contains i)=true)
 {bx3:List (List (List AV))}(hsb:(σ.map fun i=>bx.getD i [])=bx3:=by rfl) [hb:RinB σ [] bx3 bx2]:AK X ⟨f,fn,0,0⟩ K F S R:=by
 subst hS;subst hsb
 intro E w a b cs hI hF _ _ hbf
 have nt0:E.toks=[]:=by have:=hI.nt;simpa using this
 have hσ:=K6 hn
 have hσl:∀ i,i∈σ→i<bx.length:=fun i hi=>by have:=List.all_eq_true.1 hlt i hi;simpa [Nat.blt_eq] using this
 have hτl:∀ t,t∈([]:List Nat)→t<E.toks.length:=fun t h=>by cases h
 have hI2:=(hI.sub (Sc:=⟨bx2,[]⟩) hσ List.nodup_nil hτl hb.s hσl rfl).dfE E.df
 have hall:∀ i,i<bx.length→i∈σ:=by
  intro i hi
  have:=List.all_eq_true.1 hal i (List.mem_range.2 hi)
  exact List.contains_iff_mem.1 this
 have hown:∀ b,E.own b↔E.ownS σ [] b:=fun b=>by
  constructor
  ·rintro (⟨i,s,h⟩ | ⟨t,l,c,s,h⟩)
   ·have:=Ad h
    rw [hI.nb] at this
    exact .inl ⟨i,s,hall i this,h⟩
   ·rw [nt0] at h;simp at h
  ·exact Ll
 have hfr:((E.sub σ []).dfs E.df).fr=E.fr:=by
  funext b o
  apply propext
  show (E.mt b o∧¬ E.ownS σ [] b)↔E.fr b o
  constructor
  ·rintro ⟨h,hn⟩
   rcases Up hI h with h' | h'
   ·exact absurd ((hown b).1 h') hn
   ·exact h'
  ·exact fun h=>⟨.inl h,fun ho=>(hI.frlt b o h).1 ((hown b).2 ho)⟩
 have ev:Evol E w ((E.sub σ []).dfs E.df) w 0 0 :=
  ⟨hfr,fun i hi=>absurd hi (Nat.not_lt_zero _),fun t ht=>absurd ht (Nat.not_lt_zero _),rfl,rfl,rfl,Nat.le_refl _,fun _ _ _=>rfl,fun _ _ _ _ h=>h,fun b o _ h=>Ox hτl h,fun b _ h=>Ll ((Mi hτl).1 h),rfl,fun _ _ h=>h,fun t ht=>absurd ht (Nat.not_lt_zero _)⟩
 refine Fin.from (Steps.refl _ _) ev (hk _ w a b cs hI2 ⟨hF.size,hF.nod,fun k y hy=>?_⟩ (Nat.zero_le _) (Nat.zero_le _) hbf)
 obtain ⟨x,hx,hr⟩:=hG.get k y hy
 obtain ⟨v,hv,hrel⟩:=hF.rel k x hx
 exact ⟨v,hv,(hr.fwd (Eb:=(E.sub σ []).dfs E.df) (fun b o h=>Ox hτl h) (fun i j q h1 h2=>(F9 (E:=E) (σ:=σ) (τ:=[])).2 ⟨i,h1,h2⟩) (fun i j k h1 h2=>by simp at h1) hrel)⟩
end
end Go.V
namespace Go.V
open Go Go.Proofs
theorem Acv {n:Nd}(h:Hq n=true):Dd n=(0,[])∧Cc n=true∧Cc (Aw n)=true:=by
 unfold Hq at h
 have h0:(Dd n).1=0:=by simpa using h
 unfold Dd at h0 ⊢
 split at h0
 ·rename_i h1
  rw [if_pos h1]
  split at h0
  ·simp at h0
  ·rename_i h2
   rw [if_neg h2]
   split at h0
   ·simp at h0
   ·rename_i h3
    rw [if_neg h3]
    split at h0
    ·simp at h0
    ·rename_i h4
     split at h0
     ·simp at h0
     ·rename_i h5
      split at h0
      ·simp at h0
      ·rename_i h6
       split at h0
       ·rename_i h7
        simp [h1,h5,h6,h7]
       ·simp at h0
 ·simp at h0
theorem Fi {n:Nd}(h:Hq n=true):FP n∧Ai n≤500∧wN n≤4500∧n.kids≠[]∧n.kids.length≤4500:=by
 obtain ⟨fp,hc,_⟩:=Ot (Acv h).2.1
 have hw:=U7 n (T3 fp)
 have hk:=Ei n
 have hne:n.kids≠[]:=by cases fp;simp
 exact ⟨fp,hc,by omega,hne,by omega⟩
def Rc (f:Eg→Int)(p:Nat)(k:Nat):List Eg→List Nat
 | []=>[]
 | e::l=>if f e=p then k::Rc f p (k+1) l else Rc f p (k+1) l
def Jn (f:Eg→Int)(l:List Eg)(p:Nat):List Nat:=Rc f p 0 l
theorem Zl (f:Eg→Int)(p:Nat)(e:Eg):∀ (l:List Eg)(k:Nat),Rc f p k (l++[e])=Rc f p k l++(if f e=p then [k+l.length] else [])
 | [],k=>by simp [Rc]
 | x::l,k=>by
   simp only [List.cons_append,Rc,List.length_cons]
   rw [Zl f p e l (k+1),show k+1+l.length=k+(l.length+1) by omega]
   split<;>simp
theorem Td (f:Eg→Int)(p:Nat):∀ (l:List Eg)(k:Nat),(Rc f p k l).length≤l.length
 | [],k=>by simp [Rc]
 | x::l,k=>by
   simp only [Rc,List.length_cons]
   have:=Td f p l (k+1)
   split<;>simp<;>omega
def Ro (m:Nat)(f:Eg→Int)(l:List Eg)(pts:Nat):List (List AV):=(List.range pts).map fun p=>[AV.sl (O8 (Jn f l p)) (.tok (m+p))]
def Nw (f:Eg→Int)(l:List Eg)(pts:Nat):List Nat:=(List.range pts).map fun p=>(Jn f l p).length
theorem Oy (m:Nat)(f:Eg→Int)(l:List Eg)(pts:Nat):(Ro m f l pts).length=pts:=by simp [Ro]
theorem Gv (f:Eg→Int)(l:List Eg)(pts:Nat):(Nw f l pts).length=pts:=by simp [Nw]
theorem Es (m:Nat)(f:Eg→Int)(l:List Eg){pts j:Nat}(h:j<pts):(Ro m f l pts)[j]?=some [AV.sl (O8 (Jn f l j)) (.tok (m+j))]:=by simp [Ro,h]
theorem Tv (f:Eg→Int)(l:List Eg){pts j:Nat}(h:j<pts):(Nw f l pts)[j]?=some (Jn f l j).length:=by simp [Nw,h]
theorem Te (f:Eg→Int){l:List Eg}{i:Nat}{e:Eg}(h:l[i]?=some e)(p:Nat):Jn f (l.take (i+1)) p=Jn f (l.take i) p++(if f e=p then [i] else []):=by
 have hi:=Ad h
 unfold Jn
 rw [List.take_add_one,h]
 simp only [Option.toList_some]
 rw [Zl,Nat.zero_add,List.length_take,Nat.min_eq_left (by omega)]
theorem Aie (m:Nat)(f:Eg→Int){l:List Eg}{i j pts:Nat}{e:Eg}(h:l[i]?=some e)(hj:f e=j):(Ro m f (l.take i) pts).set j [AV.sl (O8 (Jn f (l.take i) j++[i])) (.tok (m+j))]=Ro m f (l.take (i+1)) pts:=by
 apply List.ext_getElem?
 intro k
 rw [List.getElem?_set,Oy]
 by_cases hk:j=k
 ·subst hk
  rw [if_pos rfl]
  by_cases hp:j<pts
  ·rw [if_pos hp,Es _ _ _ hp,Te f h,if_pos hj]
  ·rw [if_neg hp,List.getElem?_eq_none (by rw [Oy];omega)]
 ·rw [if_neg hk]
  by_cases hp:k<pts
  ·rw [Es _ _ _ hp,Es _ _ _ hp,Te f h,if_neg (by rw [hj];omega),List.append_nil]
  ·rw [List.getElem?_eq_none (by rw [Oy];omega),List.getElem?_eq_none (by rw [Oy];omega)]
theorem Aid (f:Eg→Int){l:List Eg}{i j pts:Nat}{e:Eg}(h:l[i]?=some e)(hj:f e=j):(Nw f (l.take i) pts).set j ((Jn f (l.take i) j).length+1)=Nw f (l.take (i+1)) pts:=by
 apply List.ext_getElem?
 intro k
 rw [List.getElem?_set,Gv]
 by_cases hk:j=k
 ·subst hk
  rw [if_pos rfl]
  by_cases hp:j<pts
  ·rw [if_pos hp,Tv _ _ hp,Te f h,if_pos hj];simp
  ·rw [if_neg hp,List.getElem?_eq_none (by rw [Gv];omega)]
 ·rw [if_neg hk]
  by_cases hp:k<pts
  ·rw [Tv _ _ hp,Tv _ _ hp,Te f h,if_neg (by rw [hj];omega),List.append_nil]
  ·rw [List.getElem?_eq_none (by rw [Gv];omega),List.getElem?_eq_none (by rw [Gv];omega)]
theorem Aol {n M m pts:Nat}(f:Eg→Int)(l:List Eg)(h:m+pts≤M):Eo n M (Ro m f l pts):=fun r hr x hx=>by
 obtain ⟨p,hp,rfl⟩:=List.mem_map.1 hr
 simp at hx;subst hx
 have:=List.mem_range.1 hp
 exact .sl _ _ ((inferInstance:OKR n M (O8 (Jn f l p))).ok) (fun t ht=>by cases ht;omega)
def Pu (f:Eg→Int)(l:List Eg)(pts:Nat):List (List AV):=(List.range pts).map fun p=>[.sl (O8 (Jn f l p)) .no]
def Mg (n:Nd):List AV :=
 vi (Ee (A5 n)).pts::.sl (C7 (I1 (A5 n))) .no::.sl (Ci (Aq n 31)) .no::.sl (Ci (Aq n 32)) .no::.sl (Dl (Db n)) .no ::
  .sl (Pu Eg.f (I1 (A5 n)) (Ee (A5 n)).pts) .no::.sl (Pu Eg.t (I1 (A5 n)) (Ee (A5 n)).pts) .no::Af (Aw n)
theorem Amk {S:St}{m b pts:Nat}(f:Eg→Int)(l:List Eg)(hS:S.boxes[b]?=some (Ro m f l pts))(hp:pts≤Nh):Fz S 0 0 (.bsl b pts) (.sl (Pu f l pts) .no):=by
 refine .bsl b pts (Ro m f l pts) (Pu f l pts) (Nat.zero_le _) hS (by rw [Oy];exact Nat.le_refl _) hp (by simp [Pu]) (fun i r r' h1 h2=>?_) (fun i j r r' x y h1 h2 h3 h4=>?_)
 ·have hi:=Ad h1
  rw [Oy] at hi
  rw [Es _ _ _ hi] at h1
  simp only [Pu,List.getElem?_map,List.getElem?_range hi,Option.map_some] at h2
  cases h1;cases h2;rfl
 ·have hi:=Ad h1
  rw [Oy] at hi
  rw [Es _ _ _ hi] at h1
  simp only [Pu,List.getElem?_map,List.getElem?_range hi,Option.map_some] at h2
  cases h1;cases h2
  cases j with
  | zero=>simp at h3 h4;subst h3;subst h4;exact Aso (FzR.same ((inferInstance:OKR 0 0 (O8 (Jn f l i))).ok))
  | succ j=>simp at h3
set_option maxHeartbeats 2000000 in
theorem Ab0 (n:Nd)(hn:Ai n≤1000000000)(hnum:PrI n) :
 Pure X 52 [nd n] (if Hq n=true then .tup [.cptr (Mg n),vb true] else .tup [.val (.pointer none),vb false]):=by
 have hfl:Kj X.P 150=some [0,1]:=by kernel_rfl
 refine Pure.run Tryz.func52 ?_
 refine AK.pc (Aqz n hn hnum) ?_
 refine AK.op (Kr (r:=!(((Dd n).1==0)&&(((Dd n).2==[])&&true))) rfl rfl rfl rfl rfl hfl rfl (.inr ⟨rfl,rfl⟩)) ?_
 by_cases hr:Hq n=true
 ·obtain ⟨hC,h1,h2⟩:=Acv hr
  obtain ⟨fp,hc,hw,hne,hkl⟩:=Fi hr
  rw [if_pos hr]
  have hpv:P4 n=Aw n:=by unfold P4;rw [hC];rfl
  rw [hC,hpv]
  refine AK.no ?_
  obtain ⟨ds,hpl,_,hps,hwl⟩:=Aam fp
  have hpw:=(Mf n).1
  have hkp:=Ei (Aw n)
  have hgr:Pure X 105 [nd (Aw n)] (.agg [vi (Ee (A5 n)).pts,.sl (C7 (I1 (A5 n))) .no]):=Ai5 (Aw n) (by rw [hpl];simp) hps (show wL (A5 n)≤_ by omega) (by omega)
  refine AK.db 1024 ?_
  refine Ax hgr ?_
  refine Ax (Zv n 31 hne (by omega)) ?_
  refine Ax (Zv n 32 hne (by omega)) ?_
  refine Ax (Ajw n hne (by omega)) ?_
  refine Drv.w (Lw rfl rfl rfl) ?_
  refine Drv.e ?_
  refine Drv.z ?_
  have hps2:=Ki hps B8 ⟨1,0,[],[],[],0⟩ (by decide)
  have hpts:(Ee (A5 n)).pts≤2000000∧(I1 (A5 n)).length≤2000000∧∀ e,e∈I1 (A5 n)→(0≤e.f∧e.f<(Ee (A5 n)).pts)∧0≤e.t∧e.t<(Ee (A5 n)).pts:=by
   have hl:=J1 6 B8 hps2.pt
   have hA:=hps2.trans hl (Nat.le_refl _)
   obtain ⟨es,e1,e2,e3⟩:=hA.es
   have hpp:=hA.pts
   simp only [bG] at e2 hpp
   have hes:(Ee (A5 n)).es=es:=by unfold Ee;rw [e1];rfl
   have hpt:(Ee (A5 n)).pt<(Ee (A5 n)).pts:=hA.pt
   refine ⟨by show _≤_;unfold Ee;have:(1:Nat)=(⟨1,0,[],[],[],0⟩:Gr).pts:=rfl;omega,by unfold I1;rw [hes,List.length_map];omega,fun e he=>?_⟩
   unfold I1 at he
   rw [hes] at he
   obtain ⟨e0,h0,rfl⟩:=List.mem_map.1 he
   obtain ⟨q1,q2⟩:=e3 e0 h0
   have q1':0≤e0.f∧e0.f<(Ee (A5 n)).pts:=q1
   have q2':e0.t=-1∨(0≤e0.t∧e0.t<(Ee (A5 n)).pts):=q2
   unfold Dn
   split
   ·exact ⟨q1',by simp;omega⟩
   ·exact ⟨q1',by omega⟩
  obtain ⟨hp1,hp2,hp3⟩:=hpts
  unfold Mg
  generalize I1 (A5 n)=es at *
  generalize (Ee (A5 n)).pts=pts at *
  let prow (x y:AV):List AV:=vi pts::.sl (C7 es) .no::.sl (Ci (Aq n 31)) .no::.sl (Ci (Aq n 32)) .no::.sl (Dl (Db n)) .no::x::y::Af (Aw n)
  let bxs (x y:AV):List (List (List AV)):=[[Af n],[Af (Aw n)],[[vi 0,str []]],[prow x y],List.replicate pts [.sl [] .tight],List.replicate pts [.sl [] .tight]]
  have L6:AK X ⟨52,Tryz.f52,0,0⟩ (Gl false 6 Tryz.f52) [(6,.ptr 3 0 0)] ⟨bxs (.bsl 4 pts) (.bsl 5 pts),[]⟩
   (fun e S=>e=.ret (.tup [.cptr (vi pts::.sl (C7 es) .no::.sl (Ci (Aq n 31)) .no::.sl (Ci (Aq n 32)) .no::.sl (Dl (Db n)) .no::.sl (Pu Eg.f es pts) .no::.sl (Pu Eg.t es pts) .no::Af (Aw n)),vb true])∧S=⟨[],[]⟩):=by
   refine AK.at_ ?_
   refine AK.mintAll (bx:=[[Af n],[Af (Aw n)],[[vi 0,str []]],[prow (.bsl 4 pts) (.bsl 5 pts)],Ro 0 Eg.f [] pts,List.replicate pts [.sl [] .tight]]) (tk:=List.replicate pts 0) 4 pts 0 rfl rfl rfl rfl ?_
   refine AK.mintAll (bx:=[[Af n],[Af (Aw n)],[[vi 0,str []]],[prow (.bsl 4 pts) (.bsl 5 pts)],Ro 0 Eg.f [] pts,Ro pts Eg.t [] pts]) (tk:=List.replicate pts 0++List.replicate pts 0) 5 pts pts rfl (by simp) rfl rfl ?_
   refine AK.sto ⟨[[Af n],[Af (Aw n)],[[vi 0,str []]],[prow (.bsl 4 pts) (.bsl 5 pts)],Ro 0 Eg.f (es.take 0) pts,Ro pts Eg.t (es.take 0) pts],Nw Eg.f (es.take 0) pts++Nw Eg.t (es.take 0) pts⟩ ?_ (by
    have:∀ f:Eg→Int,Nw f (es.take 0) pts=List.replicate pts 0:=fun f=>List.eq_replicate_iff.2 ⟨Gv f _ pts,fun b hb=>by obtain ⟨p,_,rfl⟩:=List.mem_map.1 hb;rfl⟩
    rw [this,this];rfl)
   refine AK.ev 100 rfl ?_
   refine AK.while_ (ι:=Nat) 6 (pts+pts) (fun i=>i≤es.length) (fun i=>[(52,vi i),(51,vi es.length),(50,.sl (C7 es) .no),(6,.ptr 3 0 0)])
    (fun i=>⟨[[Af n],[Af (Aw n)],[[vi 0,str []]],[prow (.bsl 4 pts) (.bsl 5 pts)],Ro 0 Eg.f (es.take i) pts,Ro pts Eg.t (es.take i) pts],Nw Eg.f (es.take i) pts++Nw Eg.t (es.take i) pts⟩) (fun i=>es.length-i) ?_ 0
    (Nat.zero_le _) ⟨rfl,by rw [← Hc es];rfl,rfl,rfl,trivial⟩ ?_ rfl (by simp) rfl ?_ (fun _=>inferInstance) (fun i=>⟨?_⟩)
   ·intro i hi IH
    refine AK.ei (fun h=>?_) (fun h=>?_)
    ·have hlt:i<es.length:=by have:=of_decide_eq_true h;omega
     obtain ⟨⟨ef,et,ek,ey,en⟩,he⟩:=Aa es hlt
     obtain ⟨⟨q1,q2⟩,q3,q4⟩:=hp3 _ (List.mem_of_getElem? he)
     simp only at q1 q2 q3 q4
     obtain ⟨j,rfl⟩:=Int.eq_ofNat_of_zero_le q1
     obtain ⟨j',rfl⟩:=Int.eq_ofNat_of_zero_le q3
     have hj:j<pts:=by omega
     have hj':j'<pts:=by omega
     refine AK.ix i (by omega) (Qo he) ?_
     refine AK.db 327680 ?_
     refine Drv.lo (Is (j:=j) rfl rfl rfl rfl rfl rfl rfl rfl (by simpa [Nat.blt_eq] using hj) rfl (Es 0 Eg.f _ hj) rfl) ?_
     refine Drv.lo (Mz rfl (Es 0 Eg.f _ hj) rfl rfl rfl rfl rfl rfl rfl) ?_
     refine Drv.go ?_
     have hlf:=Td Eg.f j (es.take i) 0
     have hlt':=Td Eg.t j' (es.take i) 0
     have htk:(es.take i).length=i:=by simp;omega
     have hlF:(Nw Eg.f (es.take i) pts).length=pts:=Gv _ _ _
     have hkF:(Nw Eg.f (es.take i) pts++Nw Eg.t (es.take i) pts)[0+j]?=some (Jn Eg.f (es.take i) j).length:=by
      rw [Nat.zero_add,List.getElem?_append_left (by omega)];exact Tv _ _ hj
     refine En (S':=⟨[[Af n],[Af (Aw n)],[[vi 0,str []]],[prow (.bsl 4 pts) (.bsl 5 pts)],Ro 0 Eg.f (es.take i) pts,Ro pts Eg.t (es.take i) pts,[Lg ⟨j,j',ek,ey,en⟩]],Nw Eg.f (es.take (i+1)) pts++Nw Eg.t (es.take i) pts⟩)
      (Ndo.append (res:=O8 (Jn Eg.f (es.take i) j++[i])) rfl rfl rfl rfl rfl rfl rfl rfl rfl rfl rfl rfl rfl hkF (Kv _) (Afg _) rfl rfl rfl ?_ (Xc _ i) ?_) ?_ ?_
     ·rw [Kv];unfold Jn;show _+1≤_;omega
     ·show (Nw Eg.f (es.take i) pts++Nw Eg.t (es.take i) pts).set (0+j) ((O8 (Jn Eg.f (es.take i) j)).length+1)=_
      rw [Nat.zero_add,Kv,List.set_append_left _ _ (by omega),Aid Eg.f he rfl]
     ·refine A1 (Mz rfl (Es 0 Eg.f _ hj) rfl rfl rfl rfl rfl rfl rfl) (A1 (Is (j:=j) rfl rfl rfl rfl rfl rfl rfl rfl (by simpa [Nat.blt_eq] using hj) rfl (Es 0 Eg.f _ hj) rfl) ?_)
      exact A1 (Ndo.ev rfl rfl rfl) (A1 (Ndo.ev rfl rfl rfl) (A1 (Ndo.ev rfl rfl rfl) (A1 (Ndo.ev rfl rfl rfl) G8)))
     refine Mv (A1 (Is (j:=j) rfl rfl rfl rfl rfl rfl rfl rfl (by simpa [Nat.blt_eq] using hj) rfl (Es 0 Eg.f _ hj) rfl) (A1 (Is (j:=j) rfl rfl rfl rfl rfl rfl rfl rfl (by simpa [Nat.blt_eq] using hj) rfl (Es 0 Eg.f _ hj) rfl) G8)) rfl ?_
     refine Drv.w (Ndo.store rfl rfl rfl rfl rfl rfl (Sd rfl (Es 0 Eg.f _ hj) rfl rfl rfl)) ?_
     refine Drv.z ?_
     refine AK.sto ⟨[[Af n],[Af (Aw n)],[[vi 0,str []]],[prow (.bsl 4 pts) (.bsl 5 pts)],Ro 0 Eg.f (es.take (i+1)) pts,Ro pts Eg.t (es.take i) pts,[Lg ⟨j,j',ek,ey,en⟩]],Nw Eg.f (es.take (i+1)) pts++Nw Eg.t (es.take i) pts⟩ ?_ (by
      rw [← Aie 0 Eg.f he rfl];rfl)
     refine AK.db 327680 ?_
     refine Drv.lo (Is (j:=j') rfl rfl rfl rfl rfl rfl rfl rfl (by simpa [Nat.blt_eq] using hj') rfl (Es pts Eg.t _ hj') rfl) ?_
     refine Drv.lo (Mz rfl (Es pts Eg.t _ hj') rfl rfl rfl rfl rfl rfl rfl) ?_
     refine Drv.go ?_
     have hkT:(Nw Eg.f (es.take (i+1)) pts++Nw Eg.t (es.take i) pts)[pts+j']?=some (Jn Eg.t (es.take i) j').length:=by
      rw [List.getElem?_append_right (by rw [Gv];omega),Gv,Nat.add_sub_cancel_left];exact Tv _ _ hj'
     refine En (S':=⟨[[Af n],[Af (Aw n)],[[vi 0,str []]],[prow (.bsl 4 pts) (.bsl 5 pts)],Ro 0 Eg.f (es.take (i+1)) pts,Ro pts Eg.t (es.take i) pts,[Lg ⟨j,j',ek,ey,en⟩]],Nw Eg.f (es.take (i+1)) pts++Nw Eg.t (es.take (i+1)) pts⟩)
      (Ndo.append (res:=O8 (Jn Eg.t (es.take i) j'++[i])) rfl rfl rfl rfl rfl rfl rfl rfl rfl rfl rfl rfl rfl hkT (Kv _) (Afg _) rfl rfl rfl ?_ (Xc _ i) ?_) ?_ ?_
     ·rw [Kv];unfold Jn;show _+1≤_;omega
     ·show (Nw Eg.f (es.take (i+1)) pts++Nw Eg.t (es.take i) pts).set (pts+j') ((O8 (Jn Eg.t (es.take i) j')).length+1)=_
      rw [Kv,List.set_append_right _ _ (by rw [Gv];omega),Gv,Nat.add_sub_cancel_left,Aid Eg.t he rfl]
     ·refine A1 (Mz rfl (Es pts Eg.t _ hj') rfl rfl rfl rfl rfl rfl rfl) (A1 (Is (j:=j') rfl rfl rfl rfl rfl rfl rfl rfl (by simpa [Nat.blt_eq] using hj') rfl (Es pts Eg.t _ hj') rfl) ?_)
      exact A1 (Ndo.ev rfl rfl rfl) (A1 (Ndo.ev rfl rfl rfl) (A1 (Ndo.ev rfl rfl rfl) (A1 (Ndo.ev rfl rfl rfl) G8)))
     refine Mv (A1 (Is (j:=j') rfl rfl rfl rfl rfl rfl rfl rfl (by simpa [Nat.blt_eq] using hj') rfl (Es pts Eg.t _ hj') rfl) (A1 (Is (j:=j') rfl rfl rfl rfl rfl rfl rfl rfl (by simpa [Nat.blt_eq] using hj') rfl (Es pts Eg.t _ hj') rfl) G8)) rfl ?_
     refine Drv.w (Ndo.store rfl rfl rfl rfl rfl rfl (Sd rfl (Es pts Eg.t _ hj') rfl rfl rfl)) ?_
     refine Drv.z ?_
     refine AK.sto ⟨[[Af n],[Af (Aw n)],[[vi 0,str []]],[prow (.bsl 4 pts) (.bsl 5 pts)],Ro 0 Eg.f (es.take (i+1)) pts,Ro pts Eg.t (es.take (i+1)) pts,[Lg ⟨j,j',ek,ey,en⟩]],Nw Eg.f (es.take (i+1)) pts++Nw Eg.t (es.take (i+1)) pts⟩ ?_ (by
      rw [← Aie pts Eg.t he rfl];rfl)
     refine IH (i+1) hlt (by omega) _ _ ⟨vsx (by omega),rfl,rfl,rfl,trivial⟩ ?_ rfl ?_
     ·exact congrArg (St.mk _) (List.take_of_length_le (by simp [Gv]))
     ·show Nat.ble (pts+pts) (Nw Eg.f (es.take (i+1)) pts++Nw Eg.t (es.take (i+1)) pts).length=true
      simp [Gv]
    ·have:i=es.length:=by have:=of_decide_eq_false h;omega
     subst this
     rw [List.take_length]
     have f1:=Amk (S:=⟨[[Af n],[Af (Aw n)],[[vi 0,str []]],[prow (.bsl 4 pts) (.bsl 5 pts)],Ro 0 Eg.f es pts,Ro pts Eg.t es pts],Nw Eg.f es pts++Nw Eg.t es pts⟩) (b:=4) (m:=0) (pts:=pts) Eg.f es rfl (by unfold Nh;omega)
     have f2:=Amk (S:=⟨[[Af n],[Af (Aw n)],[[vi 0,str []]],[prow (.bsl 4 pts) (.bsl 5 pts)],Ro 0 Eg.f es pts,Ro pts Eg.t es pts],Nw Eg.f es pts++Nw Eg.t es pts⟩) (b:=5) (m:=pts) (pts:=pts) Eg.t es rfl (by unfold Nh;omega)
     haveI i1:FzC ⟨[[Af n],[Af (Aw n)],[[vi 0,str []]],[prow (.bsl 4 pts) (.bsl 5 pts)],Ro 0 Eg.f es pts,Ro pts Eg.t es pts],Nw Eg.f es pts++Nw Eg.t es pts⟩ 0 0 (.bsl 4 pts) (.sl (Pu Eg.f es pts) .no):=⟨f1⟩
     haveI i2:FzC ⟨[[Af n],[Af (Aw n)],[[vi 0,str []]],[prow (.bsl 4 pts) (.bsl 5 pts)],Ro 0 Eg.f es pts,Ro pts Eg.t es pts],Nw Eg.f es pts++Nw Eg.t es pts⟩ 0 0 (.bsl 5 pts) (.sl (Pu Eg.t es pts) .no):=⟨f2⟩
     exact AK.rz Tryz.func52 rfl
   ·exact congrArg (St.mk _) (List.take_of_length_le (by simp [Gv]))
   ·show Nat.ble (pts+pts) (Nw Eg.f (es.take 0) pts++Nw Eg.t (es.take 0) pts).length=true
    simp [Gv]
   ·intro rows hrows
    simp only [List.mem_cons,List.not_mem_nil,or_false] at hrows
    rcases hrows with rfl | rfl | rfl | rfl | rfl | rfl
    ·exact (inferInstance:OKR 6 (pts+pts) [Af n]).ok
    ·exact (inferInstance:OKR 6 (pts+pts) [Af (Aw n)]).ok
    ·exact (inferInstance:OKR 6 (pts+pts) [[vi 0,str []]]).ok
    ·exact (inferInstance:OKR 6 (pts+pts) [vi pts::.sl (C7 es) .no::.sl (Ci (Aq n 31)) .no::.sl (Ci (Aq n 32)) .no::.sl (Dl (Db n)) .no::.bsl 4 pts::.bsl 5 pts::Af (Aw n)]).ok
    ·exact Aol Eg.f _ (by omega)
    ·exact Aol Eg.t _ (by omega)
  refine AK.sto ⟨[[Af n],[Af (Aw n)],[[vi 0,str []]],[prow (.sl [] .tight) (.sl [] .tight)]],[]⟩ ?_
  refine AK.as_ 6 (.ptr 3 0 0) ?_
  refine AK.ways fun l hord=>?_
  rcases Akl (show 7≠13 by decide) l (fun _=>false) with h1 | h1
  ·rcases Akl (show 13≠16 by decide) l (fun _=>false) with h2 | h2
   ·refine Way.mk [0,1,2,3,4,5,6,8,9,10,11,12,7,13,14,15,16,17,18,19] [(7,13),(13,16)] 598144 ?_ rfl ?_
    ·intro ab hab
     simp only [List.mem_cons,List.not_mem_nil,or_false] at hab
     rcases hab with rfl | rfl
     ·exact h1
     ·exact h2
    refine DrvP.go 12 ?_
    refine DrvP.w (Ndo.mkS (n:=pts) (b:=4) (by omega) rfl rfl rfl rfl rfl rfl rfl rfl rfl rfl) ?_ ?_
    ·exact A1 (Ndo.ev rfl rfl rfl) (A1 (Ndo.ev rfl rfl rfl) G8)
    refine DrvP.w0 (Ndo.mkS (n:=pts) (b:=5) (by omega) rfl rfl rfl rfl rfl rfl rfl rfl rfl rfl) ?_
    refine DrvP.e ?_
    refine DrvP.e ?_
    refine DrvP.w0 (Ndo.store rfl rfl rfl rfl rfl rfl rfl) ?_
    refine DrvP.e ?_
    refine DrvP.e ?_
    refine DrvP.w0 (Ndo.store rfl rfl rfl rfl rfl rfl rfl) ?_
    refine Aal 6 ?_
    refine AK.sto ⟨bxs (.bsl 4 pts) (.bsl 5 pts),[]⟩ ?_
    refine AK.sub (G:=[(6,.ptr 3 0 0)]) ⟨rfl,trivial⟩ ?_
    exact L6
   ·refine Way.mk [0,1,2,3,4,5,6,8,9,10,11,12,7,14,15,16,13,17,18,19] [(7,13),(16,13)] 598144 ?_ rfl ?_
    ·intro ab hab
     simp only [List.mem_cons,List.not_mem_nil,or_false] at hab
     rcases hab with rfl | rfl
     ·exact h1
     ·exact h2
    refine DrvP.go 12 ?_
    refine DrvP.w (Ndo.mkS (n:=pts) (b:=4) (by omega) rfl rfl rfl rfl rfl rfl rfl rfl rfl rfl) ?_ ?_
    ·exact A1 (Ndo.ev rfl rfl rfl) (A1 (Ndo.ev rfl rfl rfl) G8)
    refine DrvP.e ?_
    refine DrvP.e ?_
    refine DrvP.w0 (Ndo.store rfl rfl rfl rfl rfl rfl rfl) ?_
    refine DrvP.w0 (Ndo.mkS (n:=pts) (b:=5) (by omega) rfl rfl rfl rfl rfl rfl rfl rfl rfl rfl) ?_
    refine DrvP.e ?_
    refine DrvP.e ?_
    refine DrvP.w0 (Ndo.store rfl rfl rfl rfl rfl rfl rfl) ?_
    refine Aal 6 ?_
    refine AK.sto ⟨bxs (.bsl 4 pts) (.bsl 5 pts),[]⟩ ?_
    refine AK.sub (G:=[(6,.ptr 3 0 0)]) ⟨rfl,trivial⟩ ?_
    exact L6
  ·have h2:AB 13 16 l (fun _=>false):=Asm (b:=7) (by decide) (by kernel_rfl) l _ hord h1 (fun h=>by cases h)
   refine Way.mk [0,1,2,3,4,5,6,8,9,10,11,12,13,7,14,15,16,17,18,19] [(13,7),(13,16)] 598144 ?_ rfl ?_
   ·intro ab hab
    simp only [List.mem_cons,List.not_mem_nil,or_false] at hab
    rcases hab with rfl | rfl
    ·exact h1
    ·exact h2
   refine DrvP.go 12 ?_
   refine DrvP.w (Ndo.mkS (n:=pts) (b:=4) (by omega) rfl rfl rfl rfl rfl rfl rfl rfl rfl rfl) ?_ ?_
   ·exact A1 (Ndo.ev rfl rfl rfl) (A1 (Ndo.ev rfl rfl rfl) G8)
   refine DrvP.w0 (Ndo.mkS (n:=pts) (b:=5) (by omega) rfl rfl rfl rfl rfl rfl rfl rfl rfl rfl) ?_
   refine DrvP.e ?_
   refine DrvP.e ?_
   refine DrvP.w0 (Ndo.store rfl rfl rfl rfl rfl rfl rfl) ?_
   refine DrvP.e ?_
   refine DrvP.e ?_
   refine DrvP.w0 (Ndo.store rfl rfl rfl rfl rfl rfl rfl) ?_
   refine Aal 6 ?_
   refine AK.sto ⟨bxs (.bsl 5 pts) (.bsl 4 pts),[]⟩ ?_
   refine AK.perm (G:=[(6,.ptr 3 0 0)]) (bx3:=[[Af n],[Af (Aw n)],[[vi 0,str []]],[vi pts::.sl (C7 es) .no::.sl (Ci (Aq n 31)) .no::.sl (Ci (Aq n 32)) .no::.sl (Dl (Db n)) .no::.bsl 5 pts::.bsl 4 pts::Af (Aw n)],List.replicate pts [.sl [] .tight],List.replicate pts [.sl [] .tight]]) (bx2:=[[Af n],[Af (Aw n)],[[vi 0,str []]],[vi pts::.sl (C7 es) .no::.sl (Ci (Aq n 31)) .no::.sl (Ci (Aq n 32)) .no::.sl (Dl (Db n)) .no::.bsl 4 pts::.bsl 5 pts::Af (Aw n)],List.replicate pts [.sl [] .tight],List.replicate pts [.sl [] .tight]]) [0,1,2,3,5,4] ?_ (.cons rfl inferInstance .nil) rfl rfl rfl rfl rfl
   exact L6
 ·rw [if_neg hr]
  have h0:((Dd n).1==0)=false:=by unfold Hq at hr;simpa using hr
  refine AK.yes ?_ (ht:=by rw [h0];rfl)
  exact AK.rz Tryz.func52 rfl
instance {n m:Nat}{f:Eg→Int}{l:List Eg}{pts:Nat}:OKR n m (Pu f l pts):=⟨fun r hr x hx=>by
 obtain ⟨p,_,rfl⟩:=List.mem_map.1 hr
 simp at hx;subst hx
 exact (inferInstance:OK n m (.sl (O8 (Jn f l p)) .no)).ok⟩
instance {n m:Nat}{x:Nd}:OKL n m (Mg x):=⟨(inferInstance:OKL n m (vi (Ee (A5 x)).pts::.sl (C7 (I1 (A5 x))) .no::.sl (Ci (Aq x 31)) .no::.sl (Ci (Aq x 32)) .no::.sl (Dl (Db x)) .no ::
 .sl (Pu Eg.f (I1 (A5 x)) (Ee (A5 x)).pts) .no::.sl (Pu Eg.t (I1 (A5 x)) (Ee (A5 x)).pts) .no::Af (Aw x))).ok⟩
theorem Gz (n:Nd)(k:Int):(Aq n k).length≤n.kids.length:=by rw [Aa0,List.length_map];exact Wz n k
def G4 (n:Nd):Int:=IntKind.i64.wrap (IntKind.i64.wrap (1+(Aq n 31).length)+(Aq n 32).length)
theorem Adz (n:Nd)(k:Int):Pure X 94 [.cptr (Mg n),vi k] (vi (IntKind.i64.wrap (IntKind.i64.wrap (1+(Aq n 31).length)+k))):=by
 refine Pure.run Tryz.func94 ?_
 refine AK.rz Tryz.func94 ?_
 rw [← B7 (Aq n 31)]
theorem Af4 (n:Nd):Pure X 93 [.cptr (Mg n)] (vi (G4 n)):=by
 refine Pure.run Tryz.func93 ?_
 refine AK.dr ?_
 refine AK.rz Tryz.func93 ?_
 unfold G4
 rw [← B7 (Aq n 31),← B7 (Aq n 32)]
def G5 (size v c:Int):Bool:=Aj size 1 13&&Aj v 0 (size-1)&&Aj c (-1000) 1000
theorem Ard (size v c:Int)(h0:-1000000≤size)(h1:size≤1000000):Pure X 205 [vi size,.agg [vi v,vi c]] (vb (G5 size v c)):=by
 refine Pure.run Tryz.func205 ?_
 refine AK.pc (Dq size 1 13) ?_
 refine AK.gd (fun g1=>?_) (fun g1=>?_)
 ·have g1':Aj size 1 13=true:=g1
  refine AK.pc (Zu v size (by omega) (by omega)) ?_
  refine AK.gd (fun g2=>?_) (fun g2=>?_)
  ·have g2':Aj v 0 (size-1)=true:=by have:(true&&Aj v 0 (size-1))=true:=g2;simpa using this
   refine AK.pc (Dq c (-1000) 1000) ?_
   refine AK.rz Tryz.func205 ?_
   simp [G5,g1',g2']
  ·have g2':Aj v 0 (size-1)=false:=by have:(true&&Aj v 0 (size-1))=false:=g2;simpa using this
   refine AK.rz Tryz.func205 ?_
   simp [G5,g1',g2']
 ·have g1':Aj size 1 13=false:=g1
  refine AK.gn ?_
  refine AK.rz Tryz.func205 ?_
  simp [G5,g1']
theorem Aqs (size v c:Int)(h0:-1000000≤size)(h1:size≤1000000):Pure X 245 [vi size,.agg [vi v,vi c]] (vb (G5 size v c)):=by
 have hw:IntKind.i64.wrap (size-1)=size-1:=Ac (by omega) (by omega)
 refine Pure.run Tryz.func245 ?_
 refine AK.pc (Cr size 1 13) ?_
 refine AK.gd (fun g1=>?_) (fun g1=>?_)
 ·have g1':Aj size 1 13=true:=g1
  have hb:=Cr v 0 (IntKind.i64.wrap (size-1))
  rw [hw] at hb
  refine AK.pc (Cr v 0 (IntKind.i64.wrap (size-1))) ?_
  rw [hw]
  refine AK.gd (fun g2=>?_) (fun g2=>?_)
  ·have g2':Aj v 0 (size-1)=true:=by have:(true&&Aj v 0 (size-1))=true:=g2;simpa using this
   refine AK.pc (Cr c (-1000) 1000) ?_
   refine AK.rz Tryz.func245 ?_
   simp [G5,g1',g2']
  ·have g2':Aj v 0 (size-1)=false:=by have:(true&&Aj v 0 (size-1))=false:=g2;simpa using this
   refine AK.rz Tryz.func245 ?_
   simp [G5,g1',g2']
 ·have g1':Aj size 1 13=false:=g1
  refine AK.gn ?_
  refine AK.rz Tryz.func245 ?_
  simp [G5,g1']
def Rn (n:Nd):List AV:=[.sl (Ci (Aq n 31)) .no,.sl (Ci (Aq n 32)) .no,.sl (Dl (Db n)) .no,vi (Ee (A5 n)).pts,.sl (C7 (I1 (A5 n))) .no]
instance {n m:Nat}{x:Nd}:OKL n m (Rn x):=⟨(inferInstance:OKL n m [.sl (Ci (Aq x 31)) .no,.sl (Ci (Aq x 32)) .no,.sl (Dl (Db x)) .no,vi (Ee (A5 x)).pts,.sl (C7 (I1 (A5 x))) .no]).ok⟩
theorem Afw (n:Nd)(hr:Hq n=true):Pure X 48 [nd n] (.agg (Rn n)):=by
 obtain ⟨fp,_,hw,_,_⟩:=Fi hr
 refine Pure.run Tryz.func48 ?_
 refine AK.db 512 ?_
 refine Ax (Ol n 31 (by omega)) ?_
 refine Ax (Ol n 32 (by omega)) ?_
 refine Ax (Aqr n (by omega)) ?_
 refine Ax (Apo n fp (by omega)) ?_
 refine Drv.w (Ndo.store rfl rfl rfl rfl rfl rfl rfl) ?_
 refine Drv.z ?_
 exact AK.rz Tryz.func48 rfl
theorem Adl (n:Nd)(k:Int):Pure X 145 [.agg (Rn n),vi k] (vi (IntKind.i64.wrap (IntKind.i64.wrap (1+(Aq n 31).length)+k))):=by
 refine Pure.run Tryz.func145 ?_
 refine AK.rz Tryz.func145 ?_
 rw [← B7 (Aq n 31)]
theorem Afv (n:Nd):Pure X 144 [.agg (Rn n)] (vi (G4 n)):=by
 refine Pure.run Tryz.func144 ?_
 refine AK.rz Tryz.func144 ?_
 unfold G4
 rw [← B7 (Aq n 31),← B7 (Aq n 32)]
end Go.V
namespace Go.V
open Go
end Go.V
namespace Go.V
open Go Go.Proofs
inductive LnI:Nd→Prop where
 | mk (k:Int) (s:List UInt8) (m:Int) (ks:List Nd) (hs:s.length≤9223372036854775807) (hl:ks.length≤9223372036854775807) (hk:∀ x,x∈ks→LnI x):LnI (.mk k s m ks)
theorem LnI.get {n:Nd}(h:LnI n):n.name.length≤9223372036854775807∧n.kids.length≤9223372036854775807∧∀ x,x∈n.kids→LnI x:=by
 cases h with | mk k s m ks h0 h1 hk=>exact ⟨h0,h1,hk⟩
mutual
def swN:Nd→Nat
 | .mk _ s _ ks=>s.length+(ks.length+swL ks)
def swL:List Nd→Nat
 | []=>0
 | x::l=>swN x+swL l
end
theorem Avr (n:Nd):swN n=n.name.length+(n.kids.length+swL n.kids):=by cases n;rw [swN];rfl
theorem Axz:(∀ n:Nd,wN n≤1+swN n)∧∀ l:List Nd,wL l≤l.length+swL l:=by
 refine Sj (fun k s m ks ih=>?_) (Nat.le_refl _) (fun x l hx hl=>?_)
 ·simp only [wN,swN];omega
 ·simp only [wL,swL,List.length_cons];omega
def Ef (w:Nat)(left:Int):Int:=if (w:Int)≤left then left-w else -1
theorem Hh {a b:Nat}{left:Int}(h:(a:Int)≤left):Ef (a+b) left=Ef b (left-a):=by
 unfold Ef
 by_cases h2:((a+b:Nat):Int)≤left
 ·rw [if_pos h2,if_pos (by omega)];omega
 ·rw [if_neg h2,if_neg (by omega)]
theorem Js {a b:Nat}{left:Int}(h:left<a):Ef (a+b) left=-1:=by
 unfold Ef
 rw [if_neg (by omega)]
theorem Hi {w:Nat}{left:Int}(h0:0≤left)(h:Ef w left<0):Ef w left=-1∧left<w:=by
 unfold Ef at h ⊢
 split at h
 ·rename_i h2;rw [if_pos h2];omega
 ·rename_i h2;rw [if_neg h2];omega
theorem I7 {w:Nat}{left:Int}(h:0≤Ef w left):Ef w left=left-w∧(w:Int)≤left:=by
 unfold Ef at h ⊢
 split at h
 ·rename_i h2;rw [if_pos h2];omega
 ·omega
theorem Axu (l:List Nd)(left:Int)(h0:0≤left)(h1:left≤1048576)(hl:l.length≤9223372036854775807)(ih:∀ x,x∈l→∀ lf:Int,0≤lf→lf≤1048576→Pure X 10 [nd x,vi lf] (vi (Ef (swN x) lf))) :
 Pure X 46 [.sl (Ak l) .no,vi left] (vi (Ef (l.length+swL l) left)):=by
 have hw:IntKind.i64.wrap (left-(Ak l).length)=left-l.length:=by rw [Ae];exact Ac (by omega) (by omega)
 refine Pure.run Tryz.func46 ?_
 refine AK.if_ (fun g=>?_) (fun g=>?_)
 ·have g':=of_decide_eq_true g
  rw [hw] at g'
  refine AK.rz Tryz.func46 ?_
  rw [Js (by omega)]
 have g':=of_decide_eq_false g
 rw [hw] at g'
 have e0:Ef (l.length+swL l) left=Ef (swL l) (IntKind.i64.wrap (left-(Ak l).length)):=by rw [hw,Hh (by omega)]
 rw [e0]
 have hb:0≤IntKind.i64.wrap (left-(Ak l).length)∧IntKind.i64.wrap (left-(Ak l).length)≤1048576:=by rw [hw];omega
 generalize IntKind.i64.wrap (left-(Ak l).length)=lf0 at hb
 refine AK.while_ (ι:=Nat × Int) 0 0 (fun i=>i.1≤l.length∧0≤i.2∧i.2≤1048576∧Ef (swL l) lf0=Ef (swL (l.drop i.1)) i.2) (fun i=>[(5,vi i.1),(1,vi i.2),(0,.sl (Ak l) .no)]) (fun _=>⟨[],[]⟩) (fun i=>l.length-i.1) ?_ (0,lf0) ⟨Nat.zero_le _,hb.1,hb.2,rfl⟩
  ⟨rfl,rfl,rfl,trivial⟩
 rintro ⟨i,lf⟩ ⟨hi,hp0,hp1,hT⟩ IH
 simp only at hi hp0 hp1 hT IH ⊢
 refine AK.ei (fun h=>?_) (fun h=>?_)
 ·have hlt:i<l.length:=by have:=of_decide_eq_true h;rw [Ae] at this;omega
  obtain ⟨x,hx⟩:=Aa l hlt
  rw [An hx] at hT
  simp only [swL] at hT
  refine AK.ix i (by omega) (Ao hx) ?_
  refine AK.pc (ih x (List.mem_of_getElem? hx) lf hp0 hp1) ?_
  refine AK.if_ (fun g2=>?_) (fun g2=>?_)
  ·have g2':=Hi hp0 (of_decide_eq_true g2)
   refine AK.rz Tryz.func46 ?_
   rw [hT,Js g2'.2]
  ·have g2':=I7 (show 0≤Ef (swN x) lf by have:=of_decide_eq_false g2;omega)
   refine IH (i+1,Ef (swN x) lf) ⟨hlt,?_,?_,?_⟩ (by simp only;omega) _ _ ⟨A3 ((Ac (by omega) (by omega)).trans (by simp)),rfl,rfl,trivial⟩ rfl rfl rfl
   ·show 0≤Ef (swN x) lf;omega
   ·show Ef (swN x) lf≤_;omega
   ·rw [hT,Hh g2'.2,g2'.1]
 ·have:i=l.length:=by have:=of_decide_eq_false h;rw [Ae] at this;omega
  subst this
  rw [List.drop_length] at hT
  refine AK.rz Tryz.func46 ?_
  rw [hT]
  unfold Ef swL
  rw [if_pos (by simpa using hp0)];simp
theorem Aym (n:Nd)(hln:LnI n):∀ left:Int,0≤left→left≤1048576→Pure X 10 [nd n,vi left] (vi (Ef (swN n) left)):=by
 induction n using Nd.ind with
 | h n ih =>
 intro left h0 h1
 obtain ⟨ha,hb,hk⟩:=hln.get
 have hw:IntKind.i64.wrap (left-(⟨⟨n.name⟩⟩:ByteArray).size)=left-n.name.length:=by rw [Du];exact Ac (by omega) (by omega)
 rw [Avr]
 refine Pure.run Tryz.func10 ?_
 refine AK.if_ (fun g=>?_) (fun g=>?_)
 ·have g':=of_decide_eq_true g
  rw [hw] at g'
  refine AK.rz Tryz.func10 ?_
  rw [Js (by omega)]
 have g':=of_decide_eq_false g
 rw [hw] at g'
 have e0:Ef (n.name.length+(n.kids.length+swL n.kids)) left=Ef (n.kids.length+swL n.kids) (IntKind.i64.wrap (left-(⟨⟨n.name⟩⟩:ByteArray).size)):=by rw [hw,Hh (by omega)]
 rw [e0]
 have hb2:0≤IntKind.i64.wrap (left-(⟨⟨n.name⟩⟩:ByteArray).size)∧IntKind.i64.wrap (left-(⟨⟨n.name⟩⟩:ByteArray).size)≤1048576:=by rw [hw];omega
 refine AK.pc (Axu n.kids _ hb2.1 hb2.2 hb (fun x hx lf=>ih x hx (hk x hx) lf)) ?_
 generalize IntKind.i64.wrap (left-(⟨⟨n.name⟩⟩:ByteArray).size)=lf at hb2 ⊢
 refine AK.if_ (fun g2=>?_) (fun g2=>?_)
 ·have g2':=Hi hb2.1 (of_decide_eq_true g2)
  refine AK.rz Tryz.func10 ?_
  rw [g2'.1]
 ·exact AK.rz Tryz.func10 rfl
theorem Arj {l:List Nd}{i:Nat}{x:Nd}(h:l[i]?=some x):(rB (l.take i) (l.length-i)).set i (Af x)=rB (l.take (i+1)) (l.length-(i+1)):=by
 have hi:=Ad h
 obtain ⟨c,hc⟩:∃ c,l.length-i=c+1:=⟨l.length-i-1,by omega⟩
 have hc2:l.length-(i+1)=c:=by omega
 rw [hc,hc2,rB,rB,List.take_add_one,h,Option.toList_some,Us,List.replicate_succ]
 have:(Ak (l.take i)).length=i:=by rw [Ae,List.length_take];omega
 rw [List.set_append_right _ _ (by omega),this,Nat.sub_self,List.set_cons_zero,List.append_assoc]
 rw [Al [x]];rfl
theorem Axx (l:List Nd)(hl:l.length≤1000000000)(ih:∀ x,x∈l→Pure X 12 [nd x] (nd x)):Pure X 51 [.sl (Ak l) .no] (.sl (Ak l) .no):=by
 refine Pure.run Tryz.func51 ?_
 refine AK.op (Ndo.mkS (n:=(Ak l).length) (b:=0) (by rw [Ae];exact hl) rfl rfl rfl rfl rfl rfl rfl rfl rfl rfl) ?_
 refine AK.while_ (ι:=Nat) 1 0 (fun i=>i≤l.length) (fun i=>[(4,vi i),(3,.bsl 0 l.length),(0,.sl (Ak l) .no)]) (fun i=>⟨[rB (l.take i) (l.length-i)],[]⟩) (fun i=>l.length-i) ?_ 0 (Nat.zero_le _)
  ⟨rfl,by rw [← Ae l];rfl,rfl,trivial⟩ (by rw [← Ae l];rfl)
 intro i hi IH
 refine AK.ei (fun h=>?_) (fun h=>?_)
 ·have hlt:i<l.length:=by have:=of_decide_eq_true h;rw [Ae] at this;omega
  obtain ⟨x,hx⟩:=Aa l hlt
  have hr:(rB (l.take i) (l.length-i))[i]?=some zN:=by
   have:(Ak (l.take i)).length=i:=by rw [Ae,List.length_take];omega
   rw [rB,List.getElem?_append_right (by omega),this,Nat.sub_self,List.getElem?_replicate,if_pos (by omega)]
  refine AK.ix i (by omega) (Ao hx) ?_
  refine AK.pc (ih x (List.mem_of_getElem? hx)) ?_
  refine AK.atB i hlt hr ?_
  refine AK.stB hr ?_
  refine IH (i+1) hlt (by omega) _ _ ⟨vsx (by omega),rfl,rfl,trivial⟩ ?_ rfl rfl
  rw [← Arj hx];rfl
 ·have:i=l.length:=by have:=of_decide_eq_false h;rw [Ae] at this;omega
  subst this
  refine AK.rbsl Tryz.func51 (b:=0) (l:=l) (c:=l.length-l.length) ?_ hl
  rw [List.take_length];rfl
theorem Av4 (n:Nd)(hn:Ai n≤1000000000):Pure X 12 [nd n] (nd n):=by
 induction n using Nd.ind with
 | h n ih =>
 have hcn:=Bu n
 have hll:=A9 n.kids
 refine Pure.run Tryz.func12 ?_
 refine AK.pc (Axx n.kids (by omega) (fun x hx=>ih x hx (by have:=Dm hx;omega))) ?_
 exact AK.rz Tryz.func12 rfl
theorem Axr (l:List Nd)(hl:l.length≤1000000000)(ih:∀ x,x∈l→Pure X 15 [nd x,nd x] (vb true)):Pure X 58 [.sl (Ak l) .no,.sl (Ak l) .no] (vb true):=by
 refine Pure.run Tryz.func58 ?_
 refine AK.no ?_ (ht:=by simp)
 refine AK.while_ (ι:=Nat) 0 0 (fun i=>i≤l.length) (fun i=>[(5,vi i),(0,.sl (Ak l) .no),(1,.sl (Ak l) .no)]) (fun i=>⟨[],[]⟩) (fun i=>l.length-i) ?_ 0 (Nat.zero_le _)
  ⟨rfl,rfl,rfl,trivial⟩
 intro i hi IH
 refine AK.ei (fun h=>?_) (fun h=>?_)
 ·have hlt:i<l.length:=by have:=of_decide_eq_true h;rw [Ae] at this;omega
  obtain ⟨x,hx⟩:=Aa l hlt
  refine AK.db 0 ?_
  refine Drv.ig i (by omega) (Ao hx) ?_
  refine Drv.ig i (by omega) (Ao hx) ?_
  refine Ax (ih x (List.mem_of_getElem? hx)) ?_
  refine Drv.z ?_
  refine AK.no ?_
  exact IH (i+1) hlt (by omega) _ _ ⟨vsx (by omega),rfl,rfl,trivial⟩ rfl rfl rfl
 ·exact AK.rz Tryz.func58 rfl
theorem Ayl (n:Nd)(hn:Ai n≤1000000000):Pure X 15 [nd n,nd n] (vb true):=by
 induction n using Nd.ind with
 | h n ih =>
 have hcn:=Bu n
 have hll:=A9 n.kids
 refine Pure.run Tryz.func15 ?_
 refine AK.no ?_ (ht:=by simp)
 refine AK.no ?_ (ht:=by simp)
 refine AK.no ?_ (ht:=by simp)
 refine AK.pc (Axr n.kids (by omega) (fun x hx=>ih x hx (by have:=Dm hx;omega))) ?_
 refine AK.no ?_
 exact AK.rz Tryz.func15 rfl
def E0:Env:=⟨[],[],fun _ _=>False,[]⟩
theorem Awo (b o:Nat):¬ E0.mt b o:=by
 rintro (h | ⟨i,sz,h⟩ | ⟨t,l,c,sz,h,_⟩)
 ·exact h
 ·simp [E0] at h
 ·simp [E0] at h
theorem Aw6 {α:Type}{l:List α}(h:l.length=4):∃ a b c d,l=[a,b,c,d]:=by
 rcases l with _ | ⟨a,_ | ⟨b,_ | ⟨c,_ | ⟨d,_ | ⟨e,l⟩⟩⟩⟩⟩<;>simp at h
 exact ⟨a,b,c,d,rfl⟩
def RelL (w:World)(cs:List Value)(l:List AV):Prop:=cs.length=l.length∧∀ (j:Nat)(v:Value)(x:AV),cs[j]?=some v→l[j]?=some x→Rel E0 w v x
theorem RelL.one {w:World}{v:Value}{x:AV}(h:Rel E0 w v x):RelL w [v] [x]:=⟨rfl,fun j v' x' h1 h2=>by
 cases j with
 | zero=>simp at h1 h2;subst h1;subst h2;exact h
 | succ j=>simp at h1⟩
theorem RelL.get1 {w:World}{v:Value}{x:AV}(h:RelL w [v] [x]):Rel E0 w v x:=h.2 0 v x rfl rfl
theorem RelL.nil {w:World}:RelL w [] []:=⟨rfl,fun j v x h=>by simp at h⟩
theorem RelL.cons {w:World}{v:Value}{x:AV}{cs:List Value}{l:List AV}(h:Rel E0 w v x)(t:RelL w cs l):RelL w (v::cs) (x::l) :=
 ⟨by simp [t.1],fun j v' x' h1 h2=>by
   cases j with
   | zero=>simp at h1 h2;subst h1;subst h2;exact h
   | succ j=>exact t.2 j v' x' (by simpa using h1) (by simpa using h2)⟩
theorem RelL.agg {w:World}{cs:Array Value}{l:List AV}(h:RelL w cs.toList l):Rel E0 w (.agg cs) (.agg l):=.agg cs l (by simpa using h.1) (fun j v x h1 h2=>h.2 j v x (by simpa using h1) h2)
theorem Ahg {α:Type}{Q:Nat→α→Prop}:∀ n:Nat,(∀ i,i<n→∃ x,Q i x)→∃ l:List α,l.length=n∧∀ i x,l[i]?=some x→Q i x
 | 0,_=>⟨[],rfl,fun i x h=>by simp at h⟩
 | n+1,h=>by
   obtain ⟨l,hl,hq⟩:=Ahg n (fun i hi=>h i (by omega))
   obtain ⟨x,hx⟩:=h n (by omega)
   refine ⟨l++[x],by simp [hl],fun i y hy=>?_⟩
   rcases Nat.lt_or_ge i n with hi | hi
   ·rw [List.getElem?_append_left (by omega)] at hy;exact hq i y hy
   ·rw [List.getElem?_append_right (by omega)] at hy
    have:i=n:=by
     have:=Ad hy
     simp at this;omega
    subst this
    simp [hl] at hy;subst hy;exact hx
section
variable {H:Type}{enc:TypeId × Value→H}{P:Program}{w:World}{sp:Nat→Bool}{held:Bool}
theorem T9 {a:Addr}{n:Nat}{cs:List Value}(h:w.cells? 0 a n=some cs):cs.length=n∧∀ (j:Nat)(v:Value),cs[j]?=some v→w.cell? (a.add j)=some v:=by
 unfold World.cells? at h
 rw [if_pos (Nat.zero_le _)] at h
 have key:∀ (l:List Nat) (cs:List Value),(l.mapM fun i=>w.cell? (a.add i))=some cs→cs.length=l.length∧∀ (j:Nat) (v:Value),cs[j]?=some v→∃ k:Nat,l[j]?=some k∧w.cell? (a.add k)=some v:=by
  intro l
  induction l with
  | nil=>intro cs h;simp at h;subst h;exact ⟨rfl,fun j v h=>by simp at h⟩
  | cons k l ih =>
    intro cs h
    simp only [List.mapM_cons,Option.bind_eq_bind,Option.bind_eq_some_iff,Option.pure_def,Option.some.injEq] at h
    obtain ⟨v,hv,cs',hcs,rfl⟩:=h
    obtain ⟨h1,h2⟩:=ih cs' hcs
    refine ⟨by simp [h1],fun j u hu=>?_⟩
    cases j with
    | zero=>simp at hu;subst hu;exact ⟨k,rfl,hv⟩
    | succ j=>simpa using h2 j u (by simpa using hu)
 obtain ⟨h1,h2⟩:=key _ _ h
 refine ⟨by simpa using h1,fun j v hv=>?_⟩
 obtain ⟨k,hk,hc⟩:=h2 j v hv
 have:j<(List.range n).length:=Ad hk
 simp at this
 rw [List.getElem?_range this] at hk
 cases hk
 exact hc
theorem Sq {b o n:Nat}:(Addr.mk b o none).add n=⟨b,o+n,none⟩:=by
 unfold Addr.add
 split
 ·rename_i h;subst h;rfl
 ·rfl
theorem Gi {α:Type}{t e sz fuel:Nat}{cs:List Value}{x:DataW H × List MemPlace}(cells:α→List AV)(Q:α→Prop)(ht:P.underlying t=some (.slice e))(hc:P.cellsOf e=sz)(hsz:0<sz)(hcell:∀ y,(cells y).length=sz)
 (hel:∀ n,fuel=n+1→∀ (cs:List Value)(x:DataW H × List MemPlace),DataW.trod enc P w 0 sp held n e cs=some x→∃ y:α,Q y∧RelL w cs (cells y))(h:DataW.trod enc P w 0 sp held fuel t cs=some x) :
 ∃ l:List α,(∀ y,y∈l→Q y)∧l.length≤9223372036854775807∧RelL w cs [.sl (l.map cells) .no]:=by
 rcases DataW.trod_slice ht h with ⟨rfl,_⟩ | ⟨a,len,cap,elems,rest,n,hn,rfl,_,_,hcap,hmax,hlen,hall,_,_⟩
 ·refine ⟨[],(fun y hy=>by cases hy),by simp,RelL.one ?_⟩
  exact .sl [] .no none 0 0 0 0 0 (fun _ _=>default) rfl (Nat.zero_le _) (fun h=>absurd rfl h) (fun r hr=>by cases hr) (fun i j h=>by omega) (fun i j h=>by omega) (fun i j r x h=>by simp at h) trivial (Nat.le_refl _)
 ·have hml:maxLen=9223372036854775807:=by decide
  have hel':∀ i,i<len→∃ y:α,Q y∧∃ cs',w.cells? 0 (a.add (i*sz)) sz=some cs'∧RelL w cs' (cells y):=fun i hi=>by
   have h1:=hall i hi
   obtain ⟨z,hz⟩:=Aa elems (i:=i) (by omega)
   rw [hz,hc] at h1
   obtain ⟨cs',h2,h3⟩:=Option.bind_eq_some_iff.1 h1
   obtain ⟨y,hq,hr⟩:=hel n hn cs' z h3
   exact ⟨y,hq,cs',h2,hr⟩
  obtain ⟨l,hll,hl⟩:=Ahg len hel'
  have hQ:∀ y,y∈l→Q y:=fun y hy=>by obtain ⟨i,hi⟩:=Bj hy;exact (hl i y hi).1
  refine ⟨l,hQ,by omega,RelL.one ?_⟩
  have ha:len≠0→a=⟨a.block,a.off,none⟩:=fun h0=>by
   obtain ⟨y,hy⟩:=Aa l (i:=0) (by omega)
   obtain ⟨_,cs',h1,h2⟩:=hl 0 y hy
   obtain ⟨h3,h4⟩:=T9 h1
   obtain ⟨v,hv⟩:=Aa cs' (i:=0) (by omega)
   have h5:=h4 0 v hv
   have h6:(a.add (0*sz)).add 0=a:=by simp [Addr.add]
   rw [h6] at h5
   obtain ⟨b,o,s⟩:=a
   unfold World.cell? at h5
   simp only at h5
   split at h5
   ·split at h5
    ·cases h5
    ·rename_i hs
     cases s with
     | none=>rfl
     | some s=>simp at hs
   ·cases h5
  have hcl:∀ i j:Nat,i<len→j<sz→∃ v,w.cell? ⟨a.block,a.off+i*sz+j,none⟩=some v:=fun i j hi hj=>by
   obtain ⟨y,hy⟩:=Aa l (i:=i) (by omega)
   obtain ⟨_,cs',h1,h2⟩:=hl i y hy
   obtain ⟨h3,h4⟩:=T9 h1
   obtain ⟨v,hv⟩:=Aa cs' (i:=j) (by omega)
   have h5:=h4 j v hv
   rw [ha (by omega),Sq,Sq] at h5
   exact ⟨v,h5⟩
  refine .sl _ .no (some a) len cap a.block a.off sz (fun i j=>(w.cell? ⟨a.block,a.off+i*sz+j,none⟩).getD default) (by simp [hll]) (by unfold Nh;omega) (fun h0=>congrArg some (ha h0)) (fun r hr=>?_) (fun i j _ _=>Awo _ _) (fun i j hi hj=>?_) (fun i j r z h1 h2=>?_) trivial hcap
  ·obtain ⟨y,_,rfl⟩:=List.mem_map.1 hr;exact hcell y
  ·obtain ⟨v,hv⟩:=hcl i j hi hj
   rw [hv];rfl
  ·simp only [List.getElem?_map,Option.map_eq_some_iff] at h1
   obtain ⟨y,hy,rfl⟩:=h1
   obtain ⟨_,cs',h3,h4⟩:=hl i y hy
   have hi:i<len:=by have:=Ad hy;omega
   have hj:j<sz:=by have:=Ad h2;rw [hcell] at this;exact this
   obtain ⟨h5,h6⟩:=T9 h3
   obtain ⟨v,hv⟩:=Aa cs' (i:=j) (by omega)
   have h7:=h6 j v hv
   rw [ha (by omega),Sq,Sq] at h7
   show Rel E0 w ((w.cell? ⟨a.block,a.off+i*sz+j,none⟩).getD default) z
   rw [h7]
   exact h4.2 j v z hv h2
theorem Lo {t fuel:Nat}{k:IntKind}{cs:List Value}{x:DataW H × List MemPlace}(ht:P.underlying t=some (.int k))(h:DataW.trod enc P w 0 sp held fuel t cs=some x):∃ n:Int,k.min≤n∧n≤k.max∧cs=[.int k n]:=by
 obtain ⟨n,rfl,_,h2⟩:=DataW.trod_int ht h
 simp only [Lit.wf,Bool.and_eq_true,decide_eq_true_eq] at h2
 exact ⟨n,h2.1,h2.2,rfl⟩
theorem Av9 {t fuel:Nat}{cs:List Value}{x:DataW H × List MemPlace}(ht:P.underlying t=some .string)(h:DataW.trod enc P w 0 sp held fuel t cs=some x):∃ s:List UInt8,s.length≤9223372036854775807∧cs=[.string ⟨⟨s⟩⟩]:=by
 obtain ⟨s,rfl,_,h2⟩:=DataW.trod_string ht h
 obtain ⟨⟨s⟩⟩:=s
 exact ⟨s,by have:maxLen=9223372036854775807:=by decide
             have h3:s.length≤maxLen:=h2
             omega,rfl⟩
end
theorem Aha {n:Int}(h0:IntKind.i64.min≤n)(h1:n≤IntKind.i64.max):-9223372036854775808≤n∧n≤9223372036854775807:=by
 have a:IntKind.i64.min=-9223372036854775808:=by decide
 have b:IntKind.i64.max=9223372036854775807:=by decide
 omega
section
variable {H:Type}{enc:TypeId × Value→H}{w:World}{sp:Nat→Bool}{held:Bool}
theorem Asd:∀ (fuel:Nat)(cs:List Value)(x:DataW H × List MemPlace),DataW.trod enc Tryz.prog w 0 sp held fuel 24 cs=some x→∃ n:Nd,(PrI n∧LnI n)∧RelL w cs (Af n):=by
 intro fuel
 induction fuel using Nat.strongRecOn with
 | ind fuel ih =>
   intro cs x h
   obtain ⟨xs,n1,rfl,_,hl,hxs,hf⟩:=DataW.trod_struct Tryz.underlying24 h
   have hl4:cs.length=4:=hl.trans (by kernel_rfl)
   have hx4:xs.length=4:=hxs
   obtain ⟨c0,c1,c2,c3,rfl⟩:=Aw6 hl4
   obtain ⟨x0,hx0⟩:=Aa xs (i:=0) (by omega)
   obtain ⟨x1,hx1⟩:=Aa xs (i:=1) (by omega)
   obtain ⟨x2,hx2⟩:=Aa xs (i:=2) (by omega)
   obtain ⟨x3,hx3⟩:=Aa xs (i:=3) (by omega)
   have c3e:Tryz.prog.cellsOf 3=1:=by kernel_rfl
   have c9e:Tryz.prog.cellsOf 9=1:=by kernel_rfl
   have cse:Tryz.prog.cellsOf 22=1:=by kernel_rfl
   have f0:DataW.trod enc Tryz.prog w 0 sp held n1 3 (([c0,c1,c2,c3].drop 0).take (Tryz.prog.cellsOf 3))=some x0:=(hf 0 _ rfl).trans hx0
   have f1:DataW.trod enc Tryz.prog w 0 sp held n1 9 (([c0,c1,c2,c3].drop 1).take (Tryz.prog.cellsOf 9))=some x1:=(hf 1 _ rfl).trans hx1
   have f2:DataW.trod enc Tryz.prog w 0 sp held n1 3 (([c0,c1,c2,c3].drop 2).take (Tryz.prog.cellsOf 3))=some x2:=(hf 2 _ rfl).trans hx2
   have f3:DataW.trod enc Tryz.prog w 0 sp held n1 22 (([c0,c1,c2,c3].drop 3).take (Tryz.prog.cellsOf 22))=some x3:=(hf 3 _ rfl).trans hx3
   rw [c3e] at f0 f2
   rw [c9e] at f1
   rw [cse] at f3
   obtain ⟨k,k0,k1,e0⟩:=Lo Tryz.underlying3 f0
   obtain ⟨s,s0,e1⟩:=Av9 Tryz.underlying9 f1
   obtain ⟨m,m0,m1,e2⟩:=Lo Tryz.underlying3 f2
   obtain ⟨l,hq,hll,e3⟩:=Gi Af (fun n=>PrI n∧LnI n) Tryz.underlying22 (show Tryz.prog.cellsOf 24=4 by kernel_rfl) (by decide) (fun y=>rfl) (fun n2 hn2 cs' x' hx'=>ih n2 (by omega) cs' x' hx') f3
   have e0':c0=.int .i64 k:=(List.cons.inj e0).1
   have e1':c1=.string ⟨⟨s⟩⟩:=(List.cons.inj e1).1
   have e2':c2=.int .i64 m:=(List.cons.inj e2).1
   have e3':RelL w [c3] [.sl (l.map Af) .no]:=e3
   subst e0';subst e1';subst e2'
   obtain ⟨m0,m1⟩:=Aha m0 m1
   refine ⟨.mk k s m l,⟨.mk k s m l m0 m1 fun x hx=>(hq x hx).1,.mk k s m l s0 hll fun x hx=>(hq x hx).2⟩,?_⟩
   show RelL w _ [_,_,_,.sl (Ak l) .no]
   rw [Al]
   exact .cons (.val _) (.cons (.val _) (.cons (.val _) e3'))
end
end Go.V
namespace Go.V
open Go Go.Proofs Go.ChangeShapes Go.WideShapes Go.ChangeAt Go.RowKit
section
variable {H:Type}{enc:TypeId × Value→H}{P:Program}{w:World}{sp:Nat→Bool}{held:Bool}
theorem Aom {t e n fuel:Nat}{cs:List Value}{d:DataW H}{ps:List MemPlace}(ht:P.underlying t=some (.array n e))(h:DataW.trod enc P w 0 sp held fuel t cs=some (d,ps)) :
 ∃ (xs:List (DataW H × List MemPlace)) (f:Nat),d=.agg (xs.map (·.1))∧cs.length=P.cellsOf t∧∀ i,i<n→DataW.trod enc P w 0 sp held f e ((cs.drop (i*P.cellsOf e)).take (P.cellsOf e))=xs[i]?:=by
 cases fuel with
 | zero=>simp [DataW.trod] at h
 | succ f =>
   unfold DataW.trod at h
   rw [ht] at h
   split at h<;>simp_all
   obtain ⟨hl,xs,hp,hd,_⟩:=h
   exact ⟨xs,hd.symm,f,fun i hi=>mapM_some_get hp i i (by simp [hi])⟩
theorem Aoo {t fuel:Nat}{ms:Array (String × TypeId)}{cs:List Value}{x:DataW H × List MemPlace}(ht:P.underlying t=some (.interface ms))(h:DataW.trod enc P w 0 sp held fuel t cs=some x):∃ v,cs=[v]∧(v=.nilIface∨∃ te pe,v=.iface te pe):=by
 cases fuel with
 | zero=>simp [DataW.trod] at h
 | succ f =>
   unfold DataW.trod at h
   rw [ht] at h
   split at h<;>simp_all
theorem Rq (hl:laidOutB P=true){W W':World}{sp':Nat→Bool}:∀ {ts:List TypeId}{vs:List Value}{ds:List (DataW H)}{ps:List MemPlace},(∀ t,t∈ts→P.readableRec t=true∧t<P.types.size) →
 DataW.TrodAll enc P W 0 (fun _=>true) true ts vs ds ps→(∀ p∈ps,W.sameAt W' p)→(∀ p∈ps,sp' p.block=true)→DataW.TrodAll enc P W' 0 sp' true ts vs ds ps
 | [],[],[],_,_,h,_,_=>h
 | t::ts,v::vs,d::ds,_,hr,⟨p,q,h1,h2,rfl⟩,hs,hb =>
   ⟨p,q,WideElems.Trod_stays hl (hr t (by simp)).1 (hr t (by simp)).2 h1 (fun x hx=>hs x (by simp [hx])) (fun x hx=>hb x (by simp [hx])),Rq hl (fun x hx=>hr x (by simp [hx])) h2 (fun x hx=>hs x (by simp [hx])) (fun x hx=>hb x (by simp [hx])),rfl⟩
 | [],_::_,_,_,_,h,_,_=>h.elim
 | [],[],_::_,_,_,h,_,_=>h.elim
 | _::_,[],_,_,_,h,_,_=>h.elim
 | _::_,_::_,[],_,_,h,_,_=>h.elim
end
def laidL:List (String × DataW Unit):=[("math/bits.deBruijn32tab",YtojhghmilenfkaaGreatDoor.Rows.laid_math_bits_deBruijn32tab),("math/bits.deBruijn64tab",YtojhghmilenfkaaGreatDoor.Rows.laid_math_bits_deBruijn64tab),("internal/strconv.uint64pow10",YtojhghmilenfkaaGreatDoor.Rows.laid_internal_strconv_uint64pow10),
 ("strconv.ErrRange",YtojhghmilenfkaaGreatDoor.Rows.laid_strconv_ErrRange),("strconv.ErrSyntax",YtojhghmilenfkaaGreatDoor.Rows.laid_strconv_ErrSyntax),("loop.example/g00093/impl.condWords",YtojhghmilenfkaaGreatDoor.Rows.laid_loop_example_g00093_impl_condWords)
 , ("loop.example/g00093/impl.none",YtojhghmilenfkaaGreatDoor.Rows.laid_loop_example_g00093_impl_none)
 ]
theorem Ai6 {W:World}(h:laidMetH Tryz.prog laidL W):laidMet Tryz.prog laidL W:=by
 have e:(laidL.filter fun x=>x.2.handleName?.isSome)=[]:=by kernel_rfl
 unfold laidMetH at h
 rw [e] at h
 exact h
def condB:List (List UInt8):=[[60],[60,61],[62],[62,61],[61,61],[33,61]]
theorem Ae4:condG=condB.map fun b=>.val (.string ⟨⟨b⟩⟩):=rfl
theorem Ais:(YtojhghmilenfkaaGreatDoor.Rows.laid_loop_example_g00093_impl_condWords:DataW Unit)=.agg (condB.map fun b=>.lit (.string b)):=rfl
theorem Amd {W:World}{n:String}{d:DataW Unit}{g:Nat}(hg:Tryz.prog.globalNamed n=some g)(ht:(Tryz.prog.globals[g]?).map (·.type)=some 340)(h:Lib.VarReads Tryz.prog W n d):IfaceV W g:=by
 obtain ⟨g',t',cs,fuel,p,h1,h2,h3,h4⟩:=h
 obtain rfl:=Option.some.inj (hg.symm.trans h1)
 obtain rfl:=Option.some.inj (ht.symm.trans h2)
 obtain ⟨v,h5,h6⟩:=Aoo Tryz.underlying340 h4
 refine ⟨v,?_,h6⟩
 rw [World.var?_cell hg h3 0,← Array.getElem?_toList,h5];rfl
theorem At3 {W:World}(h:laidMetH Tryz.prog laidL W):gOk W:=by
 have hm:=Ai6 h
 constructor
 ·intro j x hx
  obtain ⟨g',t',cs,fuel,p,h1,h2,h3,h4⟩:=Lib.laidMet.reads hm (n := "loop.example/g00093/impl.condWords") (d:=YtojhghmilenfkaaGreatDoor.Rows.laid_loop_example_g00093_impl_condWords) (by unfold laidL;simp)
  have hg:Tryz.prog.globalNamed "loop.example/g00093/impl.condWords" = some 1:=by kernel_rfl
  have ht:(Tryz.prog.globals[1]?).map (·.type)=some 338:=by kernel_rfl
  obtain rfl:=Option.some.inj (hg.symm.trans h1)
  obtain rfl:=Option.some.inj (ht.symm.trans h2)
  obtain ⟨xs,f,hd,hl,hall⟩:=Aom Tryz.underlying338 h4
  have c9e:Tryz.prog.cellsOf 9=1:=by kernel_rfl
  have cae:Tryz.prog.cellsOf 338=6:=by kernel_rfl
  rw [cae] at hl
  rw [Ais] at hd
  have hd':condB.map (fun b=>(DataW.lit (.string b):DataW Unit))=xs.map (·.1):=DataW.agg.inj hd
  rw [Ae4] at hx
  simp only [List.getElem?_map,Option.map_eq_some_iff] at hx
  obtain ⟨b,hb,rfl⟩:=hx
  have hj:j<6:=Ad hb
  have h5:=hall j hj
  rw [c9e,Nat.mul_one] at h5
  have h6:=congrArg (fun l=>l[j]?) hd'
  simp only [List.getElem?_map,hb,Option.map_some] at h6
  cases hxj:xs[j]? with
  | none=>rw [hxj] at h6;cases h6
  | some z =>
    rw [hxj] at h5 h6
    obtain ⟨s,h7,h8,_⟩:=DataW.trod_string Tryz.underlying9 h5
    have h9:DataW.lit (.string b)=z.1:=Option.some.inj h6
    rw [h8] at h9
    have h10:b=s.data.toList:=Lit.string.inj (DataW.lit.inj h9)
    obtain ⟨v,hv⟩:=Aa cs.toList (i:=j) (by omega)
    have h11:cs.toList.drop j=v::cs.toList.drop (j+1):=An hv
    rw [h11] at h7
    have h12:v=.string s:=(List.cons.inj h7).1
    refine ⟨.string s,?_,?_⟩
    ·rw [World.var?_cell hg h3 j,← Array.getElem?_toList,hv,h12]
    ·rw [h10]
 ·obtain ⟨g',t',cs,fuel,p,h1,h2,h3,h4⟩:=Lib.laidMet.reads hm (n := "internal/strconv.uint64pow10") (d:=YtojhghmilenfkaaGreatDoor.Rows.laid_internal_strconv_uint64pow10) (by unfold laidL;simp)
  have hg:Tryz.prog.globalNamed "internal/strconv.uint64pow10" = some 2:=by kernel_rfl
  have ht:(Tryz.prog.globals[2]?).map (·.type)=some 375:=by kernel_rfl
  obtain rfl:=Option.some.inj (hg.symm.trans h1)
  obtain rfl:=Option.some.inj (ht.symm.trans h2)
  have hd:(YtojhghmilenfkaaGreatDoor.Rows.laid_internal_strconv_uint64pow10:DataW Unit)=Lib.tabData .u64 Lib.pow10Tab:=by kernel_rfl
  rw [hd] at h4
  have h5:=Lib.cells_of_tab Tryz.underlying375 Tryz.underlying361 (by kernel_rfl) (by kernel_rfl) h4
  unfold World.var? at h3
  rw [hg] at h3
  simp only [Option.bind_some] at h3
  split at h3
  ·rename_i c e z hh
   refine ⟨e,z,?_⟩
   rw [hh]
   cases h3
   rw [← Array.toArray_toList (xs:=cs),h5]
  ·cases h3
 ·exact Amd (by kernel_rfl) (by kernel_rfl) (Lib.laidMet.reads hm (n := "strconv.ErrSyntax") (d:=YtojhghmilenfkaaGreatDoor.Rows.laid_strconv_ErrSyntax) (by unfold laidL;simp))
 ·exact Amd (by kernel_rfl) (by kernel_rfl) (Lib.laidMet.reads hm (n := "strconv.ErrRange") (d:=YtojhghmilenfkaaGreatDoor.Rows.laid_strconv_ErrRange) (by unfold laidL;simp))
 ·intro j x hx
  obtain ⟨g',t',cs,fuel,p,h1,h2,h3,h4⟩:=Lib.laidMet.reads hm (n := "loop.example/g00093/impl.none") (d:=YtojhghmilenfkaaGreatDoor.Rows.laid_loop_example_g00093_impl_none) (by unfold laidL;simp)
  have hg:Tryz.prog.globalNamed "loop.example/g00093/impl.none" = some 0:=by kernel_rfl
  have ht:(Tryz.prog.globals[0]?).map (·.type)=some 210:=by kernel_rfl
  obtain rfl:=Option.some.inj (hg.symm.trans h1)
  obtain rfl:=Option.some.inj (ht.symm.trans h2)
  obtain ⟨y0,y1,n1,hd,hl,f0,f1⟩:=trod_struct2 Tryz.underlying210 h4
  have hl2:cs.toList.length=2:=hl.trans (by kernel_rfl)
  obtain ⟨c0,c1,hcs⟩:∃ a b,cs.toList=[a,b]:=(fun l h=>by rcases l with _ | ⟨a,_ | ⟨b,_ | ⟨c,l⟩⟩⟩<;>simp at h;exact ⟨a,b,rfl⟩:∀ l:List Value,l.length=2→∃ a b,l=[a,b]) _ hl2
  rw [hcs] at f0 f1
  have c3:Tryz.prog.cellsOf 3=1:=by kernel_rfl
  have f0':DataW.trod _ Tryz.prog W 0 _ _ n1 3 (([c0,c1].drop 0).take (Tryz.prog.cellsOf 3))=some y0:=f0
  have f1':DataW.trod _ Tryz.prog W 0 _ _ n1 3 (([c0,c1].drop 1).take (Tryz.prog.cellsOf 3))=some y1:=f1
  rw [c3] at f0' f1'
  obtain ⟨m0,e0,d0,_⟩:=DataW.trod_int Tryz.underlying3 f0'
  obtain ⟨m1,e1,d1,_⟩:=DataW.trod_int Tryz.underlying3 f1'
  have hd':(DataW.agg [.lit (.int .i64 1),.lit (.int .i64 0)]:DataW Unit)=.agg [y0.1,y1.1]:=congrArg Prod.fst hd
  rw [d0,d1] at hd'
  injection hd' with hd'
  injection hd' with k0 k1
  injection k0 with k0
  injection k0 with _ k0
  injection k1 with k1 _
  injection k1 with k1
  injection k1 with _ k1
  subst k0;subst k1
  have e0':c0=.int .i64 1:=(List.cons.inj e0).1
  have e1':c1=.int .i64 0:=(List.cons.inj e1).1
  have hall:∀ v,cs.toList[j]?=some v→W.cell? ⟨0,j,none⟩=some v:=fun v hv=>by rw [World.var?_cell hg h3 j,← Array.getElem?_toList,hv]
  rw [hcs,e0',e1'] at hall
  match j,hx with
  | 0,hx=>cases hx;exact ⟨_,hall _ rfl,rfl⟩
  | 1,hx=>cases hx;exact ⟨_,hall _ rfl,rfl⟩
  | j+2,hx=>simp [Amq] at hx
theorem Awz {W:World}(h:W.ShapedOpen Tryz.prog):gK≤W.heap.size:=by
 obtain ⟨o,_,h1,_⟩:=h.2 Tryz.prog.globals.size (Nat.le_refl _) (of_decide_eq_true (by kernel_rfl))
 have:=Ku h1
 unfold gK
 omega
theorem Ax9 {W:World}(h1:gK≤W.heap.size)(h2:gOk W):Inv X E0 ⟨[],[]⟩ W where
 nb:=rfl
 nt:=rfl
 np i h:=by simp [E0] at h
 box i b sz rows h:=by simp [E0] at h
 tok t l b c sz h:=by simp [E0] at h
 bb i j b s s' h:=by simp [E0] at h
 bt i t b s l c sz h:=by simp [E0] at h
 tt i j b l c s l' c' s' h:=by simp [E0] at h
 frlt b o h:=h.elim
 lo b h:=by
  rcases h with ⟨i,sz,h⟩ | ⟨t,l,c,sz,h⟩
  ·simp [E0] at h
  ·simp [E0] at h
 frlo b o h:=h.elim
 sz:=h1
 glob:=h2
theorem Arq {f:FuncId}{xs:List AV}{W:World}{args:Array Value}(hP:Pure X f xs (vb true))(hs:W.ShapedOpen Tryz.prog)(hL:laidMetH Tryz.prog laidL W)(hA:RelL W args.toList xs) :
 Calls Tryz.prog f args W fun e W'=>e=.returned (.bool true)∧Below W.heap.size W W':=by
 refine (hP.2 E0 W args rfl (Ax9 (Awz hs) (At3 hL)) (by simpa using hA.1) (fun j v x h1 h2=>hA.2 j v x (by simpa using h1) h2)).mono fun e W' he=>?_
 obtain ⟨E',S',h1,h2,h3⟩:=he
 have ho:∀ b,¬ E0.own b:=fun b h=>by
  rcases h with ⟨i,sz,h⟩ | ⟨t,l,c,sz,h⟩
  ·simp [E0] at h
  ·simp [E0] at h
 refine ⟨?_,⟨h2.os,h2.tape,h2.output,h2.size,fun k hk=>h2.block k hk (ho k)⟩⟩
 cases e with
 | returned v =>
   obtain ⟨r,h4,h5,_⟩:=h3
   injection h5 with h5
   subst h5
   cases h4;rfl
 | panicked ch=>exact absurd h3.1 (by intro h;cases h)
 | outgrown=>exact h3.elim
set_option maxRecDepth 100000
theorem Aqe {H:Type}{enc:TypeId × Value→H}{W:World}{base:Nat}{v:Value}{d:DataW H}{ps:List MemPlace}(hv:Value.okWide Tryz.prog W .any base 24 v)(h:DataW.Trod enc Tryz.prog W 0 (fun _=>true) true 24 v d ps) :
 ∃ n:Nd,PrI n∧LnI n∧Rel E0 W v (nd n):=by
 unfold Value.okWide at hv
 rw [Tryz.underlying24] at hv
 obtain ⟨cs,rfl,_⟩:=hv
 obtain ⟨fuel,h⟩:=h
 obtain ⟨n,⟨h1,h2⟩,h3⟩:=Asd fuel _ _ h
 exact ⟨n,h1,h2,h3.agg⟩
noncomputable def low:Nat:=(World.holding Tryz.prog default ⟨#[],#[],[]⟩).heap.size
def Ayd:DataW Unit→Value
 | .lit (.int k n)=>.int k n
 | .lit (.string s)=>.string ⟨⟨s⟩⟩
 | _=>.nilIface
def Ala:DataW Unit→Array Value
 | .agg l=>(l.map Ayd).toArray
 | _=>#[]
def As9:DataW Unit→Value
 | .iface _ (.ptr (.agg [.lit (.string s)]))=>.string ⟨⟨s⟩⟩
 | _=>.nilIface
def Af1 (cs:Array Value):Obj→Obj
 | .cells _ t frozen=>.cells cs t frozen
 | o=>o
noncomputable def Amh (os:Os):World :=
 let w0:=World.holding Tryz.prog os ⟨#[.cells #[As9 YtojhghmilenfkaaGreatDoor.Rows.laid_strconv_ErrSyntax] 400,.cells #[As9 YtojhghmilenfkaaGreatDoor.Rows.laid_strconv_ErrRange] 400],#[],[]⟩
 let h0:=(((((w0.heap.modify 1 (Af1 (Ala YtojhghmilenfkaaGreatDoor.Rows.laid_loop_example_g00093_impl_condWords))).modify 6 (Af1 #[.iface 398 (.pointer (some ⟨low,0,none⟩))])).modify 7 (Af1 #[.iface 398 (.pointer (some ⟨low+1,0,none⟩))])).modify
  2 (Af1 (Ala YtojhghmilenfkaaGreatDoor.Rows.laid_internal_strconv_uint64pow10))).modify 4 (Af1 (Ala YtojhghmilenfkaaGreatDoor.Rows.laid_math_bits_deBruijn32tab))).modify 5 (Af1 (Ala YtojhghmilenfkaaGreatDoor.Rows.laid_math_bits_deBruijn64tab))
 { w0 with heap:=h0.modify 0 (Af1 (Ala YtojhghmilenfkaaGreatDoor.Rows.laid_loop_example_g00093_impl_none)) }
abbrev Aqd:Value:=.agg #[.int .i64 0,.string ⟨#[]⟩,.int .i64 0,.slice none 0 0]
theorem Ayh:ownKnob Tryz.prog.godebug=none:=by kernel_rfl
theorem Amg:laidOutB Tryz.prog=true:=by kernel_rfl
theorem Ape:Tryz.prog.globalNamed "loop.example/g00093/impl.condWords" = some 1:=by kernel_rfl
theorem Atv:(Tryz.prog.globals[1]?).map (·.type)=some 338:=by kernel_rfl
theorem Atu:Tryz.prog.readableRec 338=true:=by kernel_rfl
theorem Att:338<Tryz.prog.types.size:=of_decide_eq_true (by kernel_rfl)
end Go.V
namespace Go.V
open Go Go.Proofs
def Qm {α:Type}(f:α→List AV)(z:List AV)(l:List α)(i:Nat):List (List AV):=(l.take i).map f++List.replicate (l.length-i) z
theorem L1 {α:Type}(f:α→List AV)(z:List AV){l:List α}{i:Nat}(h:i<l.length):(Qm f z l i)[i]?=some z:=by
 have:((l.take i).map f).length=i:=by simp;omega
 rw [Qm,List.getElem?_append_right (by omega),this,Nat.sub_self,List.getElem?_replicate,if_pos (by omega)]
theorem L4 {α:Type}(f:α→List AV)(z:List AV){l:List α}{i:Nat}{x:α}(h:l[i]?=some x):(Qm f z l i).set i (f x)=Qm f z l (i+1):=by
 have hi:=Ad h
 obtain ⟨c,hc⟩:∃ c,l.length-i=c+1:=⟨l.length-i-1,by omega⟩
 have hc2:l.length-(i+1)=c:=by omega
 rw [Qm,Qm,hc,hc2,List.take_add_one,h,Option.toList_some,List.map_append,List.replicate_succ]
 have:((l.take i).map f).length=i:=by simp;omega
 rw [List.set_append_right _ _ (by omega),this,Nat.sub_self,List.set_cons_zero,List.append_assoc];rfl
theorem L0 {α:Type}(f:α→List AV)(z:List AV)(l:List α):Qm f z l l.length=l.map f:=by simp [Qm]
theorem L3 {α:Type}(f:α→List AV)(z:List AV)(l:List α):Qm f z l 0=List.replicate (l.map f).length z:=by simp [Qm]
theorem AK.rbs {f:FuncId}{fn:Func}{F:B3}{bx:List (List (List AV))}{b n:Nat}{rows:List (List AV)}{k:List Item}(hf:X.P.funcs[f]?=some fn)(hb:bx[b]?=some rows)(hn:rows.length=n)(hl:n≤1000000000) [hok:OKR 0 0 rows]
 (h:Lu X F ⟨bx,[]⟩ fn.results.toList=some [.bsl b n]:=by rfl):AK X ⟨f,fn,0,0⟩ (.code .ret::k) F ⟨bx,[]⟩ fun e S'=>e=.ret (.sl rows .no)∧S'=⟨[],[]⟩:=by
 subst hn
 refine AK.retZ (B:=⟨f,fn,0,0⟩) hf h 0 (Nat.le_refl _) (r:=.sl rows .no) ?_ (fun rows hr=>by simp at hr) ⟨rfl,rfl⟩
 refine .bsl b rows.length rows rows (Nat.zero_le _) hb (Nat.le_refl _) (by unfold Nh;omega) rfl (fun i r r' h1 h2=>?_) (fun i j r r' x y h1 h2 h3 h4=>?_)
 ·rw [h1] at h2;cases h2;rfl
 ·rw [h1] at h2;cases h2
  rw [h3] at h4;cases h4
  exact .same x (hok.ok r (List.mem_of_getElem? h1) x (List.mem_of_getElem? h3))
theorem As {α:Type}{f:α→List AV}{l:List α}{i:Nat}{x:α}(h:l[i]?=some x):(l.map f)[i]?=some (f x):=by simp [h]
abbrev Hv (n:Int):List AV:=[vi n]
instance {n m i:Nat}{l:List Int}:OKR n m (Qm Hv [vi 0] l i):=⟨fun r hr x hx=>by
 rcases List.mem_append.1 hr with h | h
 ·exact (inferInstance:OKR n m (Dl (l.take i))).ok r h x hx
 ·rw [List.eq_of_mem_replicate h] at hx;simp at hx;subst hx;exact .val _⟩
theorem As8 (l:List (Int))(hl:l.length≤1000000000)  : Pure X 20 [.sl (Dl l) .no] (.sl (Dl l) .no):=by
 have hlen:(Dl l).length=l.length:=by simp [Dl]
 refine Pure.run Tryz.func20 ?_
 refine AK.op (Ndo.mkS (n:=(Dl l).length) (b:=0) (by rw [hlen];exact hl) rfl rfl rfl rfl rfl rfl rfl rfl rfl rfl) ?_
 refine AK.while_ (ι:=Nat) 1 0 (fun i=>i≤l.length) (fun i=>[(4,vi i),(3,.bsl 0 l.length),(0,.sl (Dl l) .no)]) (fun i=>⟨[Qm Hv [vi 0] l i],[]⟩) (fun i=>l.length-i) ?_ 0 (Nat.zero_le _)
  ⟨rfl,by rw [← hlen];rfl,rfl,trivial⟩ (congrArg (fun b=>St.mk [b] []) (L3 Hv [vi 0] l).symm)
 intro i hi IH
 refine AK.ei (fun h=>?_) (fun h=>?_)
 ·have hlt:i<l.length:=by have:=of_decide_eq_true h;rw [hlen] at this;omega
  obtain ⟨x,hx⟩:=Aa l hlt
  have hr:=L1 Hv [vi 0] hlt
  refine AK.ix i (by omega) (As (f:=Hv) hx) ?_
  skip
  refine AK.atB i hlt hr ?_
  refine AK.stB hr ?_
  refine IH (i+1) hlt (by omega) _ _ ⟨vsx (by omega),rfl,rfl,trivial⟩ ?_ rfl rfl
  exact congrArg (fun b=>St.mk [b] []) (L4 Hv [vi 0] hx)
 ·have:i=l.length:=by have:=of_decide_eq_false h;rw [hlen] at this;omega
  subst this
  refine AK.rbs Tryz.func20 (b:=0) ?_ hlen hl
  show some (Qm Hv [vi 0] l l.length)=_
  rw [L0];rfl
theorem As6 (l:List (Int))(hl:l.length≤1000000000)  : Pure X 23 [.sl (Dl l) .no,.sl (Dl l) .no] (vb true):=by
 have hlen:(Dl l).length=l.length:=by simp [Dl]
 refine Pure.run Tryz.func23 ?_
 refine AK.no ?_ (ht:=by simp)
 refine AK.while_ (ι:=Nat) 0 0 (fun i=>i≤l.length) (fun i=>[(5,vi i),(0,.sl (Dl l) .no),(1,.sl (Dl l) .no)]) (fun i=>⟨[],[]⟩) (fun i=>l.length-i) ?_ 0 (Nat.zero_le _)
  ⟨rfl,rfl,rfl,trivial⟩
 intro i hi IH
 refine AK.ei (fun h=>?_) (fun h=>?_)
 ·have hlt:i<l.length:=by have:=of_decide_eq_true h;rw [hlen] at this;omega
  obtain ⟨x,hx⟩:=Aa l hlt
  refine AK.db 0 ?_
  refine Drv.ig i (by omega) (As (f:=Hv) hx) ?_
  refine Drv.ig i (by omega) (As (f:=Hv) hx) ?_
  skip
  refine Drv.z ?_
  refine AK.no ?_ (ht:=by simp)
  exact IH (i+1) hlt (by omega) _ _ ⟨vsx (by omega),rfl,rfl,trivial⟩ rfl rfl rfl
 ·exact AK.rz Tryz.func23 rfl
theorem As7 (rows:List (List AV)) [h:OKR 0 0 rows](left:Int)(h0:0≤left)(h1:left≤1048576)(hl:rows.length≤9223372036854775807):Pure X 72 [.sl rows .no,vi left] (vi (Ef rows.length left)):=by
 have hw:IntKind.i64.wrap (left-rows.length)=left-rows.length:=Ac (by omega) (by omega)
 have e0:Ef rows.length left=if left-rows.length<0 then -1 else left-rows.length:=by unfold Ef;split<;>split<;>omega
 rw [e0,← hw]
 refine Pure.run Tryz.func72 ?_
 refine AK.if_ (fun g=>?_) (fun g=>?_)
 ·refine AK.rz Tryz.func72 ?_
  rw [if_pos (of_decide_eq_true g)]
 ·refine AK.rz Tryz.func72 ?_
  rw [if_neg (of_decide_eq_false g)]
def Lt (x:Int):Bool:=Aj x (-1000000) 1000000
theorem Xs (x:Int):Pure X 121 [vi x] (vb (Lt x)):=by
 refine Pure.run Tryz.func121 ?_
 refine AK.pc (Cr x (-1000000) 1000000) ?_
 exact AK.rz Tryz.func121 rfl
structure Vl where
 lo:Int
 hi:Int
 m:Bool
structure Sg where
 tm:List (List (Int × Int))
 vs:List Vl
 ms:List Bool
structure Ab where
 n:Int
 d:List Int
 sg:List Sg
abbrev Cy (c:Int × Int):List AV:=[vi c.1,vi c.2]
def Hg (l:List (Int × Int)):List (List AV):=l.map Cy
abbrev Km (l:List (Int × Int)):List AV:=[.sl (Hg l) .no]
def Ej (l:List (List (Int × Int))):List (List AV):=l.map Km
abbrev D4 (v:Vl):List AV:=[vi v.lo,vi v.hi,vb v.m]
def O3 (l:List Vl):List (List AV):=l.map D4
abbrev Kn (b:Bool):List AV:=[vb b]
def T1 (l:List Bool):List (List AV):=l.map Kn
abbrev Bs (s:Sg):List AV:=[.sl (Ej s.tm) .no,.sl (O3 s.vs) .no,.sl (T1 s.ms) .no]
def Nv (l:List Sg):List (List AV):=l.map Bs
abbrev Ju (a:Ab):List AV:=[vi a.n,.sl (Dl a.d) .no,.sl (Nv a.sg) .no]
abbrev ab (a:Ab):AV:=.agg (Ju a)
instance {n m:Nat}{l:List (Int × Int)}:OKR n m (Hg l):=⟨fun r hr x hx=>by
 obtain ⟨e,_,rfl⟩:=List.mem_map.1 hr
 exact (inferInstance:OKL n m (Cy e)).ok x hx⟩
instance {n m i:Nat}{l:List (Int × Int)}:OKR n m (Qm Cy [vi 0,vi 0] l i):=⟨fun r hr x hx=>by
 rcases List.mem_append.1 hr with h | h
 ·exact (inferInstance:OKR n m (Hg (l.take i))).ok r h x hx
 ·rw [List.eq_of_mem_replicate h] at hx
  exact (inferInstance:OKL n m [vi 0,vi 0]).ok x hx⟩
instance {n m:Nat}{l:List (List (Int × Int))}:OKR n m (Ej l):=⟨fun r hr x hx=>by
 obtain ⟨e,_,rfl⟩:=List.mem_map.1 hr
 exact (inferInstance:OKL n m (Km e)).ok x hx⟩
instance {n m i:Nat}{l:List (List (Int × Int))}:OKR n m (Qm Km [.sl [] .tight] l i):=⟨fun r hr x hx=>by
 rcases List.mem_append.1 hr with h | h
 ·exact (inferInstance:OKR n m (Ej (l.take i))).ok r h x hx
 ·rw [List.eq_of_mem_replicate h] at hx
  exact (inferInstance:OKL n m [.sl [] .tight]).ok x hx⟩
instance {n m:Nat}{l:List (Vl)}:OKR n m (O3 l):=⟨fun r hr x hx=>by
 obtain ⟨e,_,rfl⟩:=List.mem_map.1 hr
 exact (inferInstance:OKL n m (D4 e)).ok x hx⟩
instance {n m i:Nat}{l:List (Vl)}:OKR n m (Qm D4 [vi 0,vi 0,vb false] l i):=⟨fun r hr x hx=>by
 rcases List.mem_append.1 hr with h | h
 ·exact (inferInstance:OKR n m (O3 (l.take i))).ok r h x hx
 ·rw [List.eq_of_mem_replicate h] at hx
  exact (inferInstance:OKL n m [vi 0,vi 0,vb false]).ok x hx⟩
instance {n m:Nat}{l:List (Bool)}:OKR n m (T1 l):=⟨fun r hr x hx=>by
 obtain ⟨e,_,rfl⟩:=List.mem_map.1 hr
 exact (inferInstance:OKL n m (Kn e)).ok x hx⟩
instance {n m i:Nat}{l:List (Bool)}:OKR n m (Qm Kn [vb false] l i):=⟨fun r hr x hx=>by
 rcases List.mem_append.1 hr with h | h
 ·exact (inferInstance:OKR n m (T1 (l.take i))).ok r h x hx
 ·rw [List.eq_of_mem_replicate h] at hx
  exact (inferInstance:OKL n m [vb false]).ok x hx⟩
instance {n m:Nat}{l:List (Sg)}:OKR n m (Nv l):=⟨fun r hr x hx=>by
 obtain ⟨e,_,rfl⟩:=List.mem_map.1 hr
 exact (inferInstance:OKL n m (Bs e)).ok x hx⟩
instance {n m i:Nat}{l:List (Sg)}:OKR n m (Qm Bs [.sl [] .tight,.sl [] .tight,.sl [] .tight] l i):=⟨fun r hr x hx=>by
 rcases List.mem_append.1 hr with h | h
 ·exact (inferInstance:OKR n m (Nv (l.take i))).ok r h x hx
 ·rw [List.eq_of_mem_replicate h] at hx
  exact (inferInstance:OKL n m [.sl [] .tight,.sl [] .tight,.sl [] .tight]).ok x hx⟩
theorem Aoj (c:Int × Int):Pure X 274 [.agg (Cy c)] (.agg (Cy c)):=by
 refine Pure.run Tryz.func274 ?_
 exact AK.rz Tryz.func274 rfl
theorem Av6 (l:List (Int × Int))(hl:l.length≤1000000000)  : Pure X 250 [.sl (Hg l) .no] (.sl (Hg l) .no):=by
 have hlen:(Hg l).length=l.length:=by simp [Hg]
 refine Pure.run Tryz.func250 ?_
 refine AK.op (Ndo.mkS (n:=(Hg l).length) (b:=0) (by rw [hlen];exact hl) rfl rfl rfl rfl rfl rfl rfl rfl rfl rfl) ?_
 refine AK.while_ (ι:=Nat) 1 0 (fun i=>i≤l.length) (fun i=>[(4,vi i),(3,.bsl 0 l.length),(0,.sl (Hg l) .no)]) (fun i=>⟨[Qm Cy [vi 0,vi 0] l i],[]⟩) (fun i=>l.length-i) ?_ 0 (Nat.zero_le _)
  ⟨rfl,by rw [← hlen];rfl,rfl,trivial⟩ (congrArg (fun b=>St.mk [b] []) (L3 Cy [vi 0,vi 0] l).symm)
 intro i hi IH
 refine AK.ei (fun h=>?_) (fun h=>?_)
 ·have hlt:i<l.length:=by have:=of_decide_eq_true h;rw [hlen] at this;omega
  obtain ⟨x,hx⟩:=Aa l hlt
  have hr:=L1 Cy [vi 0,vi 0] hlt
  refine AK.ix i (by omega) (As (f:=Cy) hx) ?_
  refine AK.pc (Aoj x) ?_
  refine AK.atB i hlt hr ?_
  refine AK.stB hr ?_
  refine IH (i+1) hlt (by omega) _ _ ⟨vsx (by omega),rfl,rfl,trivial⟩ ?_ rfl rfl
  exact congrArg (fun b=>St.mk [b] []) (L4 Cy [vi 0,vi 0] hx)
 ·have:i=l.length:=by have:=of_decide_eq_false h;rw [hlen] at this;omega
  subst this
  refine AK.rbs Tryz.func250 (b:=0) ?_ hlen hl
  show some (Qm Cy [vi 0,vi 0] l l.length)=_
  rw [L0];rfl
theorem Ar6 (l:List (List (Int × Int)))(hl:l.length≤1000000000)(h1:∀ x,x∈l→x.length≤1000000000):Pure X 199 [.sl (Ej l) .no] (.sl (Ej l) .no):=by
 have hlen:(Ej l).length=l.length:=by simp [Ej]
 refine Pure.run Tryz.func199 ?_
 refine AK.op (Ndo.mkS (n:=(Ej l).length) (b:=0) (by rw [hlen];exact hl) rfl rfl rfl rfl rfl rfl rfl rfl rfl rfl) ?_
 refine AK.while_ (ι:=Nat) 1 0 (fun i=>i≤l.length) (fun i=>[(4,vi i),(3,.bsl 0 l.length),(0,.sl (Ej l) .no)]) (fun i=>⟨[Qm Km [.sl [] .tight] l i],[]⟩) (fun i=>l.length-i) ?_ 0 (Nat.zero_le _)
  ⟨rfl,by rw [← hlen];rfl,rfl,trivial⟩ (congrArg (fun b=>St.mk [b] []) (L3 Km [.sl [] .tight] l).symm)
 intro i hi IH
 refine AK.ei (fun h=>?_) (fun h=>?_)
 ·have hlt:i<l.length:=by have:=of_decide_eq_true h;rw [hlen] at this;omega
  obtain ⟨x,hx⟩:=Aa l hlt
  have hr:=L1 Km [.sl [] .tight] hlt
  refine AK.ix i (by omega) (As (f:=Km) hx) ?_
  refine AK.pc (Av6 x (h1 x (List.mem_of_getElem? hx))) ?_
  refine AK.atB i hlt hr ?_
  refine AK.stB hr ?_
  refine IH (i+1) hlt (by omega) _ _ ⟨vsx (by omega),rfl,rfl,trivial⟩ ?_ rfl rfl
  exact congrArg (fun b=>St.mk [b] []) (L4 Km [.sl [] .tight] hx)
 ·have:i=l.length:=by have:=of_decide_eq_false h;rw [hlen] at this;omega
  subst this
  refine AK.rbs Tryz.func199 (b:=0) ?_ hlen hl
  show some (Qm Km [.sl [] .tight] l l.length)=_
  rw [L0];rfl
theorem Aka (a b:Int):Pure X 275 [.agg [vi a,vi b]] (.agg [vi a,vi b]):=by
 refine Pure.run Tryz.func275 ?_
 exact AK.rz Tryz.func275 rfl
theorem Ar7 (v:Vl):Pure X 251 [.agg (D4 v)] (.agg (D4 v)):=by
 refine Pure.run Tryz.func251 ?_
 refine AK.pc (Aka v.lo v.hi) ?_
 exact AK.rz Tryz.func251 rfl
theorem Av7 (l:List (Vl))(hl:l.length≤1000000000)  : Pure X 200 [.sl (O3 l) .no] (.sl (O3 l) .no):=by
 have hlen:(O3 l).length=l.length:=by simp [O3]
 refine Pure.run Tryz.func200 ?_
 refine AK.op (Ndo.mkS (n:=(O3 l).length) (b:=0) (by rw [hlen];exact hl) rfl rfl rfl rfl rfl rfl rfl rfl rfl rfl) ?_
 refine AK.while_ (ι:=Nat) 1 0 (fun i=>i≤l.length) (fun i=>[(4,vi i),(3,.bsl 0 l.length),(0,.sl (O3 l) .no)]) (fun i=>⟨[Qm D4 [vi 0,vi 0,vb false] l i],[]⟩) (fun i=>l.length-i) ?_ 0 (Nat.zero_le _)
  ⟨rfl,by rw [← hlen];rfl,rfl,trivial⟩ (congrArg (fun b=>St.mk [b] []) (L3 D4 [vi 0,vi 0,vb false] l).symm)
 intro i hi IH
 refine AK.ei (fun h=>?_) (fun h=>?_)
 ·have hlt:i<l.length:=by have:=of_decide_eq_true h;rw [hlen] at this;omega
  obtain ⟨x,hx⟩:=Aa l hlt
  have hr:=L1 D4 [vi 0,vi 0,vb false] hlt
  refine AK.ix i (by omega) (As (f:=D4) hx) ?_
  refine AK.pc (Ar7 x) ?_
  refine AK.atB i hlt hr ?_
  refine AK.stB hr ?_
  refine IH (i+1) hlt (by omega) _ _ ⟨vsx (by omega),rfl,rfl,trivial⟩ ?_ rfl rfl
  exact congrArg (fun b=>St.mk [b] []) (L4 D4 [vi 0,vi 0,vb false] hx)
 ·have:i=l.length:=by have:=of_decide_eq_false h;rw [hlen] at this;omega
  subst this
  refine AK.rbs Tryz.func200 (b:=0) ?_ hlen hl
  show some (Qm D4 [vi 0,vi 0,vb false] l l.length)=_
  rw [L0];rfl
theorem Axv (l:List (Bool))(hl:l.length≤1000000000)  : Pure X 201 [.sl (T1 l) .no] (.sl (T1 l) .no):=by
 have hlen:(T1 l).length=l.length:=by simp [T1]
 refine Pure.run Tryz.func201 ?_
 refine AK.op (Ndo.mkS (n:=(T1 l).length) (b:=0) (by rw [hlen];exact hl) rfl rfl rfl rfl rfl rfl rfl rfl rfl rfl) ?_
 refine AK.while_ (ι:=Nat) 1 0 (fun i=>i≤l.length) (fun i=>[(4,vi i),(3,.bsl 0 l.length),(0,.sl (T1 l) .no)]) (fun i=>⟨[Qm Kn [vb false] l i],[]⟩) (fun i=>l.length-i) ?_ 0 (Nat.zero_le _)
  ⟨rfl,by rw [← hlen];rfl,rfl,trivial⟩ (congrArg (fun b=>St.mk [b] []) (L3 Kn [vb false] l).symm)
 intro i hi IH
 refine AK.ei (fun h=>?_) (fun h=>?_)
 ·have hlt:i<l.length:=by have:=of_decide_eq_true h;rw [hlen] at this;omega
  obtain ⟨x,hx⟩:=Aa l hlt
  have hr:=L1 Kn [vb false] hlt
  refine AK.ix i (by omega) (As (f:=Kn) hx) ?_
  skip
  refine AK.atB i hlt hr ?_
  refine AK.stB hr ?_
  refine IH (i+1) hlt (by omega) _ _ ⟨vsx (by omega),rfl,rfl,trivial⟩ ?_ rfl rfl
  exact congrArg (fun b=>St.mk [b] []) (L4 Kn [vb false] hx)
 ·have:i=l.length:=by have:=of_decide_eq_false h;rw [hlen] at this;omega
  subst this
  refine AK.rbs Tryz.func201 (b:=0) ?_ hlen hl
  show some (Qm Kn [vb false] l l.length)=_
  rw [L0];rfl
structure SgOk (s:Sg):Prop where
 tm:s.tm.length≤1000000000
 rows:∀ x,x∈s.tm→x.length≤1000000000
 vs:s.vs.length≤1000000000
 ms:s.ms.length≤1000000000
structure AbOk (a:Ab):Prop where
 d:a.d.length≤1000000000
 sg:a.sg.length≤1000000000
 rows:∀ x,x∈a.sg→SgOk x
theorem Ar4 (s:Sg)(h:SgOk s):Pure X 146 [.agg (Bs s)] (.agg (Bs s)):=by
 refine Pure.run Tryz.func146 ?_
 refine AK.pc (Ar6 s.tm h.tm h.rows) ?_
 refine AK.pc (Av7 s.vs h.vs) ?_
 refine AK.pc (Axv s.ms h.ms) ?_
 exact AK.rz Tryz.func146 rfl
theorem Ar5 (l:List (Sg))(hl:l.length≤1000000000)(h1:∀ x,x∈l→SgOk x):Pure X 88 [.sl (Nv l) .no] (.sl (Nv l) .no):=by
 have hlen:(Nv l).length=l.length:=by simp [Nv]
 refine Pure.run Tryz.func88 ?_
 refine AK.op (Ndo.mkS (n:=(Nv l).length) (b:=0) (by rw [hlen];exact hl) rfl rfl rfl rfl rfl rfl rfl rfl rfl rfl) ?_
 refine AK.while_ (ι:=Nat) 1 0 (fun i=>i≤l.length) (fun i=>[(4,vi i),(3,.bsl 0 l.length),(0,.sl (Nv l) .no)]) (fun i=>⟨[Qm Bs [.sl [] .tight,.sl [] .tight,.sl [] .tight] l i],[]⟩) (fun i=>l.length-i) ?_ 0 (Nat.zero_le _)
  ⟨rfl,by rw [← hlen];rfl,rfl,trivial⟩ (congrArg (fun b=>St.mk [b] []) (L3 Bs [.sl [] .tight,.sl [] .tight,.sl [] .tight] l).symm)
 intro i hi IH
 refine AK.ei (fun h=>?_) (fun h=>?_)
 ·have hlt:i<l.length:=by have:=of_decide_eq_true h;rw [hlen] at this;omega
  obtain ⟨x,hx⟩:=Aa l hlt
  have hr:=L1 Bs [.sl [] .tight,.sl [] .tight,.sl [] .tight] hlt
  refine AK.ix i (by omega) (As (f:=Bs) hx) ?_
  refine AK.pc (Ar4 x (h1 x (List.mem_of_getElem? hx))) ?_
  refine AK.atB i hlt hr ?_
  refine AK.stB hr ?_
  refine IH (i+1) hlt (by omega) _ _ ⟨vsx (by omega),rfl,rfl,trivial⟩ ?_ rfl rfl
  exact congrArg (fun b=>St.mk [b] []) (L4 Bs [.sl [] .tight,.sl [] .tight,.sl [] .tight] hx)
 ·have:i=l.length:=by have:=of_decide_eq_false h;rw [hlen] at this;omega
  subst this
  refine AK.rbs Tryz.func88 (b:=0) ?_ hlen hl
  show some (Qm Bs [.sl [] .tight,.sl [] .tight,.sl [] .tight] l l.length)=_
  rw [L0];rfl
theorem Aj9 (n:Int)(d:List Int)(h:d.length≤1000000000):Pure X 87 [.agg [vi n,.sl (Dl d) .no]] (.agg [vi n,.sl (Dl d) .no]):=by
 refine Pure.run Tryz.func87 ?_
 refine AK.pc (As8 d h) ?_
 exact AK.rz Tryz.func87 rfl
theorem Agl (a:Ab)(h:AbOk a):Pure X 43 [ab a] (ab a):=by
 refine Pure.run Tryz.func43 ?_
 refine AK.pc (Aj9 a.n a.d h.d) ?_
 refine AK.pc (Ar5 a.sg h.sg h.rows) ?_
 exact AK.rz Tryz.func43 rfl
theorem Aoh (c:Int × Int):Pure X 276 [.agg (Cy c),.agg (Cy c)] (vb true):=by
 refine Pure.run Tryz.func276 ?_
 refine AK.no ?_ (ht:=by simp)
 refine AK.no ?_ (ht:=by simp)
 exact AK.rz Tryz.func276 rfl
theorem Avx (l:List (Int × Int))(hl:l.length≤1000000000)  : Pure X 255 [.sl (Hg l) .no,.sl (Hg l) .no] (vb true):=by
 have hlen:(Hg l).length=l.length:=by simp [Hg]
 refine Pure.run Tryz.func255 ?_
 refine AK.no ?_ (ht:=by simp)
 refine AK.while_ (ι:=Nat) 0 0 (fun i=>i≤l.length) (fun i=>[(5,vi i),(0,.sl (Hg l) .no),(1,.sl (Hg l) .no)]) (fun i=>⟨[],[]⟩) (fun i=>l.length-i) ?_ 0 (Nat.zero_le _)
  ⟨rfl,rfl,rfl,trivial⟩
 intro i hi IH
 refine AK.ei (fun h=>?_) (fun h=>?_)
 ·have hlt:i<l.length:=by have:=of_decide_eq_true h;rw [hlen] at this;omega
  obtain ⟨x,hx⟩:=Aa l hlt
  refine AK.db 0 ?_
  refine Drv.ig i (by omega) (As (f:=Cy) hx) ?_
  refine Drv.ig i (by omega) (As (f:=Cy) hx) ?_
  refine Ax (Aoh x) ?_
  refine Drv.z ?_
  refine AK.no ?_ (ht:=by simp)
  exact IH (i+1) hlt (by omega) _ _ ⟨vsx (by omega),rfl,rfl,trivial⟩ rfl rfl rfl
 ·exact AK.rz Tryz.func255 rfl
theorem Ary (l:List (List (Int × Int)))(hl:l.length≤1000000000)(h1:∀ x,x∈l→x.length≤1000000000):Pure X 213 [.sl (Ej l) .no,.sl (Ej l) .no] (vb true):=by
 have hlen:(Ej l).length=l.length:=by simp [Ej]
 refine Pure.run Tryz.func213 ?_
 refine AK.no ?_ (ht:=by simp)
 refine AK.while_ (ι:=Nat) 0 0 (fun i=>i≤l.length) (fun i=>[(5,vi i),(0,.sl (Ej l) .no),(1,.sl (Ej l) .no)]) (fun i=>⟨[],[]⟩) (fun i=>l.length-i) ?_ 0 (Nat.zero_le _)
  ⟨rfl,rfl,rfl,trivial⟩
 intro i hi IH
 refine AK.ei (fun h=>?_) (fun h=>?_)
 ·have hlt:i<l.length:=by have:=of_decide_eq_true h;rw [hlen] at this;omega
  obtain ⟨x,hx⟩:=Aa l hlt
  refine AK.db 0 ?_
  refine Drv.ig i (by omega) (As (f:=Km) hx) ?_
  refine Drv.ig i (by omega) (As (f:=Km) hx) ?_
  refine Ax (Avx x (h1 x (List.mem_of_getElem? hx))) ?_
  refine Drv.z ?_
  refine AK.no ?_ (ht:=by simp)
  exact IH (i+1) hlt (by omega) _ _ ⟨vsx (by omega),rfl,rfl,trivial⟩ rfl rfl rfl
 ·exact AK.rz Tryz.func213 rfl
theorem Aj7 (a b:Int):Pure X 277 [.agg [vi a,vi b],.agg [vi a,vi b]] (vb true):=by
 refine Pure.run Tryz.func277 ?_
 refine AK.no ?_ (ht:=by simp)
 refine AK.no ?_ (ht:=by simp)
 exact AK.rz Tryz.func277 rfl
theorem Arz (v:Vl):Pure X 256 [.agg (D4 v),.agg (D4 v)] (vb true):=by
 refine Pure.run Tryz.func256 ?_
 refine AK.pc (Aj7 v.lo v.hi) ?_
 refine AK.no ?_
 refine AK.no ?_ (ht:=by simp)
 exact AK.rz Tryz.func256 rfl
theorem Avy (l:List (Vl))(hl:l.length≤1000000000)  : Pure X 214 [.sl (O3 l) .no,.sl (O3 l) .no] (vb true):=by
 have hlen:(O3 l).length=l.length:=by simp [O3]
 refine Pure.run Tryz.func214 ?_
 refine AK.no ?_ (ht:=by simp)
 refine AK.while_ (ι:=Nat) 0 0 (fun i=>i≤l.length) (fun i=>[(5,vi i),(0,.sl (O3 l) .no),(1,.sl (O3 l) .no)]) (fun i=>⟨[],[]⟩) (fun i=>l.length-i) ?_ 0 (Nat.zero_le _)
  ⟨rfl,rfl,rfl,trivial⟩
 intro i hi IH
 refine AK.ei (fun h=>?_) (fun h=>?_)
 ·have hlt:i<l.length:=by have:=of_decide_eq_true h;rw [hlen] at this;omega
  obtain ⟨x,hx⟩:=Aa l hlt
  refine AK.db 0 ?_
  refine Drv.ig i (by omega) (As (f:=D4) hx) ?_
  refine Drv.ig i (by omega) (As (f:=D4) hx) ?_
  refine Ax (Arz x) ?_
  refine Drv.z ?_
  refine AK.no ?_ (ht:=by simp)
  exact IH (i+1) hlt (by omega) _ _ ⟨vsx (by omega),rfl,rfl,trivial⟩ rfl rfl rfl
 ·exact AK.rz Tryz.func214 rfl
theorem Axp (l:List (Bool))(hl:l.length≤1000000000)  : Pure X 215 [.sl (T1 l) .no,.sl (T1 l) .no] (vb true):=by
 have hlen:(T1 l).length=l.length:=by simp [T1]
 refine Pure.run Tryz.func215 ?_
 refine AK.no ?_ (ht:=by simp)
 refine AK.while_ (ι:=Nat) 0 0 (fun i=>i≤l.length) (fun i=>[(5,vi i),(0,.sl (T1 l) .no),(1,.sl (T1 l) .no)]) (fun i=>⟨[],[]⟩) (fun i=>l.length-i) ?_ 0 (Nat.zero_le _)
  ⟨rfl,rfl,rfl,trivial⟩
 intro i hi IH
 refine AK.ei (fun h=>?_) (fun h=>?_)
 ·have hlt:i<l.length:=by have:=of_decide_eq_true h;rw [hlen] at this;omega
  obtain ⟨x,hx⟩:=Aa l hlt
  refine AK.db 0 ?_
  refine Drv.ig i (by omega) (As (f:=Kn) hx) ?_
  refine Drv.ig i (by omega) (As (f:=Kn) hx) ?_
  skip
  refine Drv.z ?_
  refine AK.no ?_ (ht:=by simp)
  exact IH (i+1) hlt (by omega) _ _ ⟨vsx (by omega),rfl,rfl,trivial⟩ rfl rfl rfl
 ·exact AK.rz Tryz.func215 rfl
theorem Arw (s:Sg)(h:SgOk s):Pure X 155 [.agg (Bs s),.agg (Bs s)] (vb true):=by
 refine Pure.run Tryz.func155 ?_
 refine AK.pc (Ary s.tm h.tm h.rows) ?_
 refine AK.no ?_
 refine AK.pc (Avy s.vs h.vs) ?_
 refine AK.no ?_
 refine AK.pc (Axp s.ms h.ms) ?_
 refine AK.no ?_
 exact AK.rz Tryz.func155 rfl
theorem Arx (l:List (Sg))(hl:l.length≤1000000000)(h1:∀ x,x∈l→SgOk x):Pure X 96 [.sl (Nv l) .no,.sl (Nv l) .no] (vb true):=by
 have hlen:(Nv l).length=l.length:=by simp [Nv]
 refine Pure.run Tryz.func96 ?_
 refine AK.no ?_ (ht:=by simp)
 refine AK.while_ (ι:=Nat) 0 0 (fun i=>i≤l.length) (fun i=>[(5,vi i),(0,.sl (Nv l) .no),(1,.sl (Nv l) .no)]) (fun i=>⟨[],[]⟩) (fun i=>l.length-i) ?_ 0 (Nat.zero_le _)
  ⟨rfl,rfl,rfl,trivial⟩
 intro i hi IH
 refine AK.ei (fun h=>?_) (fun h=>?_)
 ·have hlt:i<l.length:=by have:=of_decide_eq_true h;rw [hlen] at this;omega
  obtain ⟨x,hx⟩:=Aa l hlt
  refine AK.db 0 ?_
  refine Drv.ig i (by omega) (As (f:=Bs) hx) ?_
  refine Drv.ig i (by omega) (As (f:=Bs) hx) ?_
  refine Ax (Arw x (h1 x (List.mem_of_getElem? hx))) ?_
  refine Drv.z ?_
  refine AK.no ?_ (ht:=by simp)
  exact IH (i+1) hlt (by omega) _ _ ⟨vsx (by omega),rfl,rfl,trivial⟩ rfl rfl rfl
 ·exact AK.rz Tryz.func96 rfl
theorem Aj6 (n:Int)(d:List Int)(h:d.length≤1000000000):Pure X 95 [.agg [vi n,.sl (Dl d) .no],.agg [vi n,.sl (Dl d) .no]] (vb true):=by
 refine Pure.run Tryz.func95 ?_
 refine AK.no ?_ (ht:=by simp)
 refine AK.pc (As6 d h) ?_
 refine AK.no ?_
 exact AK.rz Tryz.func95 rfl
theorem Avu (a:Ab)(h:AbOk a):Pure X 45 [ab a,ab a] (vb true):=by
 refine Pure.run Tryz.func45 ?_
 refine AK.pc (Aj6 a.n a.d h.d) ?_
 refine AK.no ?_
 refine AK.pc (Arx a.sg h.sg h.rows) ?_
 refine AK.no ?_
 exact AK.rz Tryz.func45 rfl
theorem Av2 (rows:List (List AV)) [h:OKR 0 0 rows](left:Int)(h0:0≤left)(h1:left≤1048576)(hl:rows.length≤9223372036854775807):Pure X 242 [.sl rows .no,vi left] (vi (Ef rows.length left)):=by
 have hw:IntKind.i64.wrap (left-rows.length)=left-rows.length:=Ac (by omega) (by omega)
 have e0:Ef rows.length left=if left-rows.length<0 then -1 else left-rows.length:=by unfold Ef;split<;>split<;>omega
 rw [e0,← hw]
 refine Pure.run Tryz.func242 ?_
 refine AK.if_ (fun g=>?_) (fun g=>?_)
 ·refine AK.rz Tryz.func242 ?_
  rw [if_pos (of_decide_eq_true g)]
 ·refine AK.rz Tryz.func242 ?_
  rw [if_neg (of_decide_eq_false g)]
theorem Av3 (rows:List (List AV)) [h:OKR 0 0 rows](left:Int)(h0:0≤left)(h1:left≤1048576)(hl:rows.length≤9223372036854775807):Pure X 193 [.sl rows .no,vi left] (vi (Ef rows.length left)):=by
 have hw:IntKind.i64.wrap (left-rows.length)=left-rows.length:=Ac (by omega) (by omega)
 have e0:Ef rows.length left=if left-rows.length<0 then -1 else left-rows.length:=by unfold Ef;split<;>split<;>omega
 rw [e0,← hw]
 refine Pure.run Tryz.func193 ?_
 refine AK.if_ (fun g=>?_) (fun g=>?_)
 ·refine AK.rz Tryz.func193 ?_
  rw [if_pos (of_decide_eq_true g)]
 ·refine AK.rz Tryz.func193 ?_
  rw [if_neg (of_decide_eq_false g)]
theorem Axs (rows:List (List AV)) [h:OKR 0 0 rows](left:Int)(h0:0≤left)(h1:left≤1048576)(hl:rows.length≤9223372036854775807):Pure X 194 [.sl rows .no,vi left] (vi (Ef rows.length left)):=by
 have hw:IntKind.i64.wrap (left-rows.length)=left-rows.length:=Ac (by omega) (by omega)
 have e0:Ef rows.length left=if left-rows.length<0 then -1 else left-rows.length:=by unfold Ef;split<;>split<;>omega
 rw [e0,← hw]
 refine Pure.run Tryz.func194 ?_
 refine AK.if_ (fun g=>?_) (fun g=>?_)
 ·refine AK.rz Tryz.func194 ?_
  rw [if_pos (of_decide_eq_true g)]
 ·refine AK.rz Tryz.func194 ?_
  rw [if_neg (of_decide_eq_false g)]
def swY:List (List (Int × Int))→Nat
 | []=>0
 | x::l=>x.length+swY l
structure SgLn (s:Sg):Prop where
 tm:s.tm.length≤9223372036854775807
 rows:∀ x,x∈s.tm→x.length≤9223372036854775807
 vs:s.vs.length≤9223372036854775807
 ms:s.ms.length≤9223372036854775807
def Yr (s:Sg):Nat:=s.tm.length+swY s.tm+(s.vs.length+s.ms.length)
def Qa:List Sg→Nat
 | []=>0
 | x::l=>Yr x+Qa l
structure AbLn (a:Ab):Prop where
 d:a.d.length≤9223372036854775807
 sg:a.sg.length≤9223372036854775807
 rows:∀ x,x∈a.sg→SgLn x
def Agi (a:Ab):Nat:=a.d.length+(a.sg.length+Qa a.sg)
theorem Ar2 (x:List (Int × Int))(lf:Int)(h0:0≤lf)(h1:lf≤1048576)(h:x.length≤9223372036854775807):Pure X 242 [.sl (Hg x) .no,vi lf] (vi (Ef x.length lf)):=by
 have hlen:(Hg x).length=x.length:=by simp [Hg]
 have:=Av2 (Hg x) lf h0 h1 (by rw [hlen];exact h)
 rwa [hlen] at this
theorem Ar3 (l:List (List (Int × Int)))(left:Int)(h0:0≤left)(h1:left≤1048576)(hl:l.length≤9223372036854775807)(hx:∀ x,x∈l→x.length≤9223372036854775807) :
 Pure X 192 [.sl (Ej l) .no,vi left] (vi (Ef (l.length+swY l) left)):=by
 have hlen:(Ej l).length=l.length:=by simp [Ej]
 have hw:IntKind.i64.wrap (left-(Ej l).length)=left-l.length:=by rw [hlen];exact Ac (by omega) (by omega)
 refine Pure.run Tryz.func192 ?_
 refine AK.if_ (fun g=>?_) (fun g=>?_)
 ·have g':=of_decide_eq_true g
  rw [hw] at g'
  refine AK.rz Tryz.func192 ?_
  rw [Js (by omega)]
 have g':=of_decide_eq_false g
 rw [hw] at g'
 have e0:Ef (l.length+swY l) left=Ef (swY l) (IntKind.i64.wrap (left-(Ej l).length)):=by rw [hw,Hh (by omega)]
 rw [e0]
 have hb:0≤IntKind.i64.wrap (left-(Ej l).length)∧IntKind.i64.wrap (left-(Ej l).length)≤1048576:=by rw [hw];omega
 generalize IntKind.i64.wrap (left-(Ej l).length)=lf0 at hb
 refine AK.while_ (ι:=Nat × Int) 0 0 (fun i=>i.1≤l.length∧0≤i.2∧i.2≤1048576∧Ef (swY l) lf0=Ef (swY (l.drop i.1)) i.2) (fun i=>[(5,vi i.1),(1,vi i.2),(0,.sl (Ej l) .no)]) (fun _=>⟨[],[]⟩) (fun i=>l.length-i.1) ?_ (0,lf0) ⟨Nat.zero_le _,hb.1,hb.2,rfl⟩
  ⟨rfl,rfl,rfl,trivial⟩
 rintro ⟨i,lf⟩ ⟨hi,hp0,hp1,hT⟩ IH
 simp only at hi hp0 hp1 hT IH ⊢
 refine AK.ei (fun h=>?_) (fun h=>?_)
 ·have hlt:i<l.length:=by have:=of_decide_eq_true h;rw [hlen] at this;omega
  obtain ⟨x,hx1⟩:=Aa l hlt
  rw [An hx1] at hT
  simp only [swY] at hT
  have hs:Pure X 242 [.sl (Hg x) .no,vi lf] (vi (Ef (x.length) lf)):=Ar2 x lf hp0 hp1 (hx x (List.mem_of_getElem? hx1))
  refine AK.ix i (by omega) (As (f:=Km) hx1) ?_
  refine AK.pc hs ?_
  refine AK.if_ (fun g2=>?_) (fun g2=>?_)
  ·have g2':=Hi hp0 (of_decide_eq_true g2)
   refine AK.rz Tryz.func192 ?_
   rw [hT,Js g2'.2]
  ·have g2':=I7 (show 0≤Ef (x.length) lf by have:=of_decide_eq_false g2;omega)
   refine IH (i+1,Ef (x.length) lf) ⟨hlt,?_,?_,?_⟩ (by simp only;omega) _ _ ⟨A3 ((Ac (by omega) (by omega)).trans (by simp)),rfl,rfl,trivial⟩ rfl rfl rfl
   ·show 0≤Ef (x.length) lf;omega
   ·show Ef (x.length) lf≤_;omega
   ·rw [hT,Hh g2'.2,g2'.1]
 ·have:i=l.length:=by have:=of_decide_eq_false h;rw [hlen] at this;omega
  subst this
  rw [List.drop_length] at hT
  refine AK.rz Tryz.func192 ?_
  rw [hT]
  unfold Ef swY
  rw [if_pos (by simpa using hp0)];simp
theorem Ar0 (s:Sg)(hs:SgLn s)(left:Int)(h0:0≤left)(h1:left≤1048576):Pure X 138 [.agg (Bs s),vi left] (vi (Ef (Yr s) left)):=by
 have lv:(O3 s.vs).length=s.vs.length:=by simp [O3]
 have lm:(T1 s.ms).length=s.ms.length:=by simp [T1]
 refine Pure.run Tryz.func138 ?_
 refine AK.pc (Ar3 s.tm left h0 h1 hs.tm hs.rows) ?_
 unfold Yr
 refine AK.if_ (fun g=>?_) (fun g=>?_)
 ·have g':=Hi h0 (of_decide_eq_true g)
  refine AK.rz Tryz.func138 ?_
  rw [Js g'.2]
 have k0:=I7 (show 0≤Ef (s.tm.length+swY s.tm) left by have:=of_decide_eq_false g;omega)
 rw [Hh k0.2,← k0.1]
 have b0:0≤Ef (s.tm.length+swY s.tm) left∧Ef (s.tm.length+swY s.tm) left≤1048576:=by omega
 generalize Ef (s.tm.length+swY s.tm) left=l1 at b0
 have hv:=Av3 (O3 s.vs) l1 b0.1 b0.2 (by rw [lv];exact hs.vs)
 rw [lv] at hv
 refine AK.pc hv ?_
 refine AK.if_ (fun g=>?_) (fun g=>?_)
 ·have g':=Hi b0.1 (of_decide_eq_true g)
  refine AK.rz Tryz.func138 ?_
  rw [Js g'.2]
 have k1:=I7 (show 0≤Ef s.vs.length l1 by have:=of_decide_eq_false g;omega)
 rw [Hh k1.2,← k1.1]
 have b1:0≤Ef s.vs.length l1∧Ef s.vs.length l1≤1048576:=by omega
 generalize Ef s.vs.length l1=l2 at b1
 have hm:=Axs (T1 s.ms) l2 b1.1 b1.2 (by rw [lm];exact hs.ms)
 rw [lm] at hm
 refine AK.pc hm ?_
 refine AK.if_ (fun g=>?_) (fun g=>?_)
 ·have g':=Hi b1.1 (of_decide_eq_true g)
  refine AK.rz Tryz.func138 ?_
  rw [g'.1]
 ·exact AK.rz Tryz.func138 rfl
theorem Ar1 (l:List (Sg))(left:Int)(h0:0≤left)(h1:left≤1048576)(hl:l.length≤9223372036854775807)(hx:∀ x,x∈l→SgLn x) :
 Pure X 83 [.sl (Nv l) .no,vi left] (vi (Ef (l.length+Qa l) left)):=by
 have hlen:(Nv l).length=l.length:=by simp [Nv]
 have hw:IntKind.i64.wrap (left-(Nv l).length)=left-l.length:=by rw [hlen];exact Ac (by omega) (by omega)
 refine Pure.run Tryz.func83 ?_
 refine AK.if_ (fun g=>?_) (fun g=>?_)
 ·have g':=of_decide_eq_true g
  rw [hw] at g'
  refine AK.rz Tryz.func83 ?_
  rw [Js (by omega)]
 have g':=of_decide_eq_false g
 rw [hw] at g'
 have e0:Ef (l.length+Qa l) left=Ef (Qa l) (IntKind.i64.wrap (left-(Nv l).length)):=by rw [hw,Hh (by omega)]
 rw [e0]
 have hb:0≤IntKind.i64.wrap (left-(Nv l).length)∧IntKind.i64.wrap (left-(Nv l).length)≤1048576:=by rw [hw];omega
 generalize IntKind.i64.wrap (left-(Nv l).length)=lf0 at hb
 refine AK.while_ (ι:=Nat × Int) 0 0 (fun i=>i.1≤l.length∧0≤i.2∧i.2≤1048576∧Ef (Qa l) lf0=Ef (Qa (l.drop i.1)) i.2) (fun i=>[(5,vi i.1),(1,vi i.2),(0,.sl (Nv l) .no)]) (fun _=>⟨[],[]⟩) (fun i=>l.length-i.1) ?_ (0,lf0) ⟨Nat.zero_le _,hb.1,hb.2,rfl⟩
  ⟨rfl,rfl,rfl,trivial⟩
 rintro ⟨i,lf⟩ ⟨hi,hp0,hp1,hT⟩ IH
 simp only at hi hp0 hp1 hT IH ⊢
 refine AK.ei (fun h=>?_) (fun h=>?_)
 ·have hlt:i<l.length:=by have:=of_decide_eq_true h;rw [hlen] at this;omega
  obtain ⟨x,hx1⟩:=Aa l hlt
  rw [An hx1] at hT
  simp only [Qa] at hT
  have hs:Pure X 138 [.agg (Bs x),vi lf] (vi (Ef (Yr x) lf)):=Ar0 x (hx x (List.mem_of_getElem? hx1)) lf hp0 hp1
  refine AK.ix i (by omega) (As (f:=Bs) hx1) ?_
  refine AK.pc hs ?_
  refine AK.if_ (fun g2=>?_) (fun g2=>?_)
  ·have g2':=Hi hp0 (of_decide_eq_true g2)
   refine AK.rz Tryz.func83 ?_
   rw [hT,Js g2'.2]
  ·have g2':=I7 (show 0≤Ef (Yr x) lf by have:=of_decide_eq_false g2;omega)
   refine IH (i+1,Ef (Yr x) lf) ⟨hlt,?_,?_,?_⟩ (by simp only;omega) _ _ ⟨A3 ((Ac (by omega) (by omega)).trans (by simp)),rfl,rfl,trivial⟩ rfl rfl rfl
   ·show 0≤Ef (Yr x) lf;omega
   ·show Ef (Yr x) lf≤_;omega
   ·rw [hT,Hh g2'.2,g2'.1]
 ·have:i=l.length:=by have:=of_decide_eq_false h;rw [hlen] at this;omega
  subst this
  rw [List.drop_length] at hT
  refine AK.rz Tryz.func83 ?_
  rw [hT]
  unfold Ef Qa
  rw [if_pos (by simpa using hp0)];simp
theorem Aj8 (n:Int)(d:List Int)(hd:d.length≤9223372036854775807)(left:Int)(h0:0≤left)(h1:left≤1048576):Pure X 82 [.agg [vi n,.sl (Dl d) .no],vi left] (vi (Ef d.length left)):=by
 have l1:(Dl d).length=d.length:=Ck _
 have hI:=As7 (Dl d) left h0 h1 (by rw [l1];exact hd)
 rw [l1] at hI
 refine Pure.run Tryz.func82 ?_
 refine AK.pc hI ?_
 refine AK.if_ (fun g=>?_) (fun g=>?_)
 ·have g':=Hi h0 (of_decide_eq_true g)
  refine AK.rz Tryz.func82 ?_
  rw [g'.1]
 ·exact AK.rz Tryz.func82 rfl
theorem Avz (a:Ab)(ha:AbLn a)(left:Int)(h0:0≤left)(h1:left≤1048576):Pure X 41 [ab a,vi left] (vi (Ef (Agi a) left)):=by
 refine Pure.run Tryz.func41 ?_
 refine AK.pc (Aj8 a.n a.d ha.d left h0 h1) ?_
 unfold Agi
 refine AK.if_ (fun g=>?_) (fun g=>?_)
 ·have g':=Hi h0 (of_decide_eq_true g)
  refine AK.rz Tryz.func41 ?_
  rw [Js g'.2]
 have k1:=I7 (show 0≤Ef a.d.length left by have:=of_decide_eq_false g;omega)
 rw [Hh k1.2,← k1.1]
 have b1:0≤Ef a.d.length left∧Ef a.d.length left≤1048576:=by omega
 generalize Ef a.d.length left=l2 at b1
 refine AK.pc (Ar1 a.sg l2 b1.1 b1.2 ha.sg ha.rows) ?_
 refine AK.if_ (fun g=>?_) (fun g=>?_)
 ·have g':=Hi b1.1 (of_decide_eq_true g)
  refine AK.rz Tryz.func41 ?_
  rw [g'.1]
 ·exact AK.rz Tryz.func41 rfl
theorem Qg {X:Cx}{S:St}{F:B3}{N:Nat}{ops:Array Oper}{i:Nat}{o:Oper}{p q:Operand}{t t':TypeId}{op:BinOp}{k:IntKind}{x y:Int}{v:Value}(h:O2 op k x y true=some v)(ho:ops[i]?=some o:=by rfl)(hw:A2 ops F o=some true:=by rfl)
 (hop:o.op=.binOp op t p q t':=by rfl)(hp:Co X F p=some (.val (.int k x)):=by rfl)(hq:Co X F q=some (.val (.int k y)):=by rfl):Ndo X N ops i o F (.val v) S S:=by
 refine Ndo.val ho hw fun F' E w a hc hI hF=>?_
 rw [hop] at hc
 have r1:=Ah hI hF ((hc p (by simp [Op.operands])).trans hp)
 have r2:=Ah hI hF ((hc q (by simp [Op.operands])).trans hq)
 generalize hx:a.eval p=vx at r1
 generalize hy:a.eval q=vy at r2
 cases r1
 cases r2
 exact ⟨v,by simp [execOp,hop,hx,hy,eqGuard,Vn h t],.val _⟩
def Q9 (i j:Nat):Int:=if i=j then 0 else if i=0∨j=0 then 1000000 else 2000000
def okD (m k:Nat)(x:Int):Bool:=Aj x (-2000000) (Q9 (k / m) (k % m))&&(!(((k / m:Nat):Int)==(k % m:Nat))||(x==0))
def Yh (m:Nat):Nat→List Int→Bool
 | _,[]=>true
 | k,x::l=>okD m k x&&Yh m (k+1) l
def Ma (n:Int)(d:List Int):Bool:=Aj n 1 13&&(((d.length:Int)==n*n)&&Yh n.toNat 0 d)
abbrev Iz (n:Int)(d:List Int):List AV:=[vi n,.sl (Dl d) .no]
def Ft (n:Int)(d:List Int):Bool:=(n==0)&&((d.length:Int)==0)
theorem Acm {m k:Nat}{d:List Int}{x:Int}(h:d[k]?=some x):Yh m k (d.drop k)=(okD m k x&&Yh m (k+1) (d.drop (k+1))):=by rw [An h];rfl
theorem Aqy (i j:Nat):Pure X 202 [vi i,vi j] (vi (Q9 i j)):=by
 refine Pure.run Tryz.func202 ?_
 refine AK.if_ (fun g=>?_) (fun g=>?_)
 ·have g':i=j:=by have:((i:Int)==j)=true:=g;simp at this;omega
  refine AK.rz Tryz.func202 ?_
  unfold Q9;rw [if_pos g']
 have g':¬ i=j:=by have:((i:Int)==j)=false:=g;simp at this;omega
 refine AK.gd (fun g2=>?_) (fun g2=>?_)
 ·have g2':i=0:=by have:((i:Int)==0)=true:=g2;simp at this;omega
  refine AK.yes ?_
  refine AK.rz Tryz.func202 ?_
  unfold Q9;rw [if_neg g',if_pos (.inl g2')]
 have g2':¬ i=0:=by have:((i:Int)==0)=false:=g2;simp at this;omega
 refine AK.if_ (fun g3=>?_) (fun g3=>?_)
 ·have g3':j=0:=by have:((j:Int)==0)=true:=g3;simp at this;omega
  refine AK.rz Tryz.func202 ?_
  unfold Q9;rw [if_neg g',if_pos (.inr g3')]
 ·have g3':¬ j=0:=by have:((j:Int)==0)=false:=g3;simp at this;omega
  refine AK.rz Tryz.func202 ?_
  unfold Q9;rw [if_neg g',if_neg (by omega)]
theorem Aqh (i j:Nat):Pure X 243 [vi i,vi j] (vi (Q9 i j)):=by
 refine Pure.run Tryz.func243 ?_
 refine AK.if_ (fun g=>?_) (fun g=>?_)
 ·have g':i=j:=by have:((i:Int)==j)=true:=g;simp at this;omega
  refine AK.rz Tryz.func243 ?_
  unfold Q9;rw [if_pos g']
 have g':¬ i=j:=by have:((i:Int)==j)=false:=g;simp at this;omega
 refine AK.gd (fun g2=>?_) (fun g2=>?_)
 ·have g2':i=0:=by have:((i:Int)==0)=true:=g2;simp at this;omega
  refine AK.yes ?_
  refine AK.rz Tryz.func243 ?_
  unfold Q9;rw [if_neg g',if_pos (.inl g2')]
 have g2':¬ i=0:=by have:((i:Int)==0)=false:=g2;simp at this;omega
 refine AK.if_ (fun g3=>?_) (fun g3=>?_)
 ·have g3':j=0:=by have:((j:Int)==0)=true:=g3;simp at this;omega
  refine AK.rz Tryz.func243 ?_
  unfold Q9;rw [if_neg g',if_pos (.inr g3')]
 ·have g3':¬ j=0:=by have:((j:Int)==0)=false:=g3;simp at this;omega
  refine AK.rz Tryz.func243 ?_
  unfold Q9;rw [if_neg g',if_neg (by omega)]
theorem Ara (n:Int)(d:List Int):Pure X 148 [.agg (Iz n d)] (vb (Ft n d)):=by
 refine Pure.run Tryz.func148 ?_
 refine AK.gd (fun g=>?_) (fun g=>?_)
 ·have g':(n==0)=true:=g
  refine AK.rz Tryz.func148 ?_
  unfold Ft;rw [g',Ck];rfl
 ·have g':(n==0)=false:=g
  refine AK.rz Tryz.func148 ?_
  unfold Ft;rw [g'];rfl
theorem Ahr (n:Int)(d:List Int):Pure X 140 [.agg (Iz n d)] (vb (Ft n d)):=by
 refine Pure.run Tryz.func140 ?_
 refine AK.gd (fun g=>?_) (fun g=>?_)
 ·have g':(n==0)=true:=g
  refine AK.rz Tryz.func140 ?_
  unfold Ft;rw [g',Ck];rfl
 ·have g':(n==0)=false:=g
  refine AK.rz Tryz.func140 ?_
  unfold Ft;rw [g'];rfl
theorem Ah1 (n:Int)(d:List Int):Pure X 149 [.agg (Iz n d)] (vb (Ma n d)):=by
 have hlen:((Dl d).length:Int)=d.length:=by rw [Ck]
 refine Pure.run Tryz.func149 ?_
 refine AK.pc (Dq n 1 13) ?_
 unfold Ma
 cases h1:Aj n 1 13 with
 | false =>
   refine AK.gy ?_
   refine AK.yes ?_
   exact AK.rz Tryz.func149 rfl
 | true =>
   have h1':=Av.1 h1
   obtain ⟨m,rfl⟩:∃ m:Nat,n=m:=⟨n.toNat,by omega⟩
   have hmm:(m:Int)*m≤13*13:=Int.mul_le_mul h1'.2 h1'.2 (by omega) (by omega)
   have hm0:0≤(m:Int)*m:=Int.mul_nonneg (by omega) (by omega)
   have hw:IntKind.i64.wrap ((m:Int)*m)=m*m:=Ac (by omega) (by omega)
   refine AK.gn ?_
   refine AK.if_ (fun g=>?_) (fun g=>?_)
   ·have g':((d.length:Int)==m*m)=false:=by
     have:(((Dl d).length:Int) != IntKind.i64.wrap ((m:Int)*m))=true:=g
     rw [hw,hlen] at this;simpa using this
    refine AK.rz Tryz.func149 ?_
    rw [g'];rfl
   have g':(d.length:Int)=m*m:=by
    have:(((Dl d).length:Int) != IntKind.i64.wrap ((m:Int)*m))=false:=g
    rw [hw,hlen] at this;simpa using this
   rw [beq_iff_eq.2 g',Int.toNat_natCast]
   refine AK.while_ (ι:=Nat) 1 0 (fun i=>i≤d.length∧Yh m 0 d=Yh m i (d.drop i)) (fun i=>[(25,vi i),(24,vi d.length),(23,.sl (Dl d) .no),(1,.ptr 0 0 0)]) (fun _=>⟨[[Iz m d]],[]⟩) (fun i=>d.length-i) ?_ 0 ⟨Nat.zero_le _,rfl⟩
    ⟨rfl,A3 hlen,rfl,rfl,trivial⟩
   rintro k ⟨hk,hT⟩ IH
   refine AK.ei (fun h=>?_) (fun h=>?_)
   ·have hlt:k<d.length:=by have:=of_decide_eq_true h;omega
    obtain ⟨x,hx⟩:=Aa d hlt
    rw [Acm hx] at hT
    have hq:O2 .quo .i64 (k:Int) (m:Int) true=some (.int .i64 ((k / m:Nat):Int)):=by
     have e1:decide ((m:Int)=0)=false:=decide_eq_false (by omega)
     have e2:(k:Int).tdiv m=((k / m:Nat):Int):=rfl
     have e3:k / m≤k:=Nat.div_le_self _ _
     simp only [O2,e1,e2]
     generalize k / m=z at e3 ⊢
     rw [Ac (by omega) (by omega)]
    have hr:O2 .rem .i64 (k:Int) (m:Int) true=some (.int .i64 ((k % m:Nat):Int)):=by
     have e1:decide ((m:Int)=0)=false:=decide_eq_false (by omega)
     have e2:(k:Int).tmod m=((k % m:Nat):Int):=rfl
     simp only [O2,e1,e2]
    refine AK.ix k (by omega) (Cu hx) ?_
    refine AK.db 0 ?_
    refine Cs (fun S'=>Qg hq) ?_
    refine Drv.go ?_
    refine Cs (fun S'=>Qg hr) ?_
    refine Drv.go ?_
    refine Drv.z ?_
    refine AK.pc (Aqy (k / m) (k % m)) ?_
    refine AK.pc (Dq x (-2000000) (Q9 (k / m) (k % m))) ?_
    cases h3:Aj x (-2000000) (Q9 (k / m) (k % m)) with
    | false =>
      refine AK.gy ?_
      refine AK.yes ?_
      refine AK.rz Tryz.func149 ?_
      rw [hT];unfold okD;rw [h3];rfl
    | true =>
      refine AK.gn ?_
      refine AK.gd (fun g4=>?_) (fun g4=>?_)
      ·have g4':(((k / m:Nat):Int)==(k % m:Nat))=true:=g4
       refine AK.if_ (fun g5=>?_) (fun g5=>?_)
       ·have g5':(x==0)=false:=by have:(x != 0)=true:=g5;simpa using this
        refine AK.rz Tryz.func149 ?_
        rw [hT];unfold okD;rw [h3,g4',g5'];rfl
       ·have g5':(x==0)=true:=by have:(x != 0)=false:=g5;simpa using this
        exact IH (k+1) ⟨hlt,by rw [hT];unfold okD;rw [h3,g4',g5'];rfl⟩ (by omega) _ _ ⟨vsx (by omega),rfl,rfl,rfl,trivial⟩ rfl rfl rfl
      ·have g4':(((k / m:Nat):Int)==(k % m:Nat))=false:=g4
       refine AK.no ?_
       exact IH (k+1) ⟨hlt,by rw [hT];unfold okD;rw [h3,g4'];rfl⟩ (by omega) _ _ ⟨vsx (by omega),rfl,rfl,rfl,trivial⟩ rfl rfl rfl
   ·have:k=d.length:=by have:=of_decide_eq_false h;omega
    subst this
    refine AK.rz Tryz.func149 ?_
    rw [hT,List.drop_length];rfl
theorem Aho (n:Int)(d:List Int):Pure X 195 [.agg (Iz n d)] (vb (Ma n d)):=by
 have hlen:((Dl d).length:Int)=d.length:=by rw [Ck]
 refine Pure.run Tryz.func195 ?_
 refine AK.pc (Cr n 1 13) ?_
 unfold Ma
 cases h1:Aj n 1 13 with
 | false =>
   refine AK.gy ?_
   refine AK.yes ?_
   exact AK.rz Tryz.func195 rfl
 | true =>
   have h1':=Av.1 h1
   obtain ⟨m,rfl⟩:∃ m:Nat,n=m:=⟨n.toNat,by omega⟩
   have hmm:(m:Int)*m≤13*13:=Int.mul_le_mul h1'.2 h1'.2 (by omega) (by omega)
   have hm0:0≤(m:Int)*m:=Int.mul_nonneg (by omega) (by omega)
   have hw:IntKind.i64.wrap ((m:Int)*m)=m*m:=Ac (by omega) (by omega)
   refine AK.gn ?_
   refine AK.if_ (fun g=>?_) (fun g=>?_)
   ·have g':((d.length:Int)==m*m)=false:=by
     have:(((Dl d).length:Int) != IntKind.i64.wrap ((m:Int)*m))=true:=g
     rw [hw,hlen] at this;simpa using this
    refine AK.rz Tryz.func195 ?_
    rw [g'];rfl
   have g':(d.length:Int)=m*m:=by
    have:(((Dl d).length:Int) != IntKind.i64.wrap ((m:Int)*m))=false:=g
    rw [hw,hlen] at this;simpa using this
   have gn:d.length=m*m:=by have:((d.length:Nat):Int)=((m*m:Nat):Int):=by rw [g'];simp
                            omega
   rw [beq_iff_eq.2 g',Int.toNat_natCast]
   refine AK.while_ (ι:=Nat) 1 0 (fun i=>i≤m∧Yh m 0 d=Yh m (i*m) (d.drop (i*m))) (fun i=>[(3,vi i),(1,.ptr 0 0 0)]) (fun _=>⟨[[Iz m d]],[]⟩) (fun i=>m-i) ?_ 0 ⟨Nat.zero_le _,by simp⟩
    ⟨rfl,rfl,trivial⟩
   rintro i ⟨hi,hT⟩ IH
   refine AK.ei (fun h=>?_) (fun h=>?_)
   ·have hlt:i<m:=by have:=of_decide_eq_true h;omega
    have him:i*m+m≤m*m:=by rw [← Nat.succ_mul];exact Nat.mul_le_mul_right _ hlt
    refine AK.while_ (ι:=Nat) 1 0 (fun j=>j≤m∧Yh m 0 d=Yh m (i*m+j) (d.drop (i*m+j))) (fun j=>[(4,vi j),(3,vi i),(1,.ptr 0 0 0)]) (fun _=>⟨[[Iz m d]],[]⟩) (fun j=>m-j) ?_ 0 ⟨Nat.zero_le _,by simpa using hT⟩
     ⟨rfl,rfl,rfl,trivial⟩
    rintro j ⟨hj,hU⟩ JH
    refine AK.ei (fun g2=>?_) (fun g2=>?_)
    ·have hjl:j<m:=by have:=of_decide_eq_true g2;omega
     obtain ⟨x,hx⟩:=Aa d (i:=i*m+j) (by omega)
     rw [Acm hx] at hU
     have e1:(i*m+j) / m=i:=by rw [Nat.mul_comm i m,Nat.mul_add_div (by omega),Nat.div_eq_of_lt hjl];rfl
     have e2:(i*m+j) % m=j:=by rw [Nat.mul_comm i m,Nat.mul_add_mod,Nat.mod_eq_of_lt hjl]
     have e3:okD m (i*m+j) x=(Aj x (-2000000) (Q9 i j)&&(!((i:Int)==j)||(x==0))):=by unfold okD;rw [e1,e2]
     have hsq:m*m≤169:=by omega
     have w1:IntKind.i64.wrap ((i:Int)*m)=((i*m:Nat):Int):=by
      have:((i:Int)*m)=((i*m:Nat):Int):=by simp
      rw [this];exact Ac (by omega) (by omega)
     have w2:IntKind.i64.wrap (IntKind.i64.wrap ((i:Int)*m)+j)=((i*m+j:Nat):Int):=by
      rw [w1];exact (Ac (by omega) (by omega)).trans (by omega)
     refine AK.as_ 40 (vi ((i*m+j:Nat):Int)) ?_ (A3 w2)
     refine AK.ix (i*m+j) (by omega) (Cu hx) ?_
     refine AK.pc (Aqh i j) ?_
     refine AK.pc (Cr x (-2000000) (Q9 i j)) ?_
     cases h3:Aj x (-2000000) (Q9 i j) with
     | false =>
       refine AK.gy ?_
       refine AK.yes ?_
       refine AK.rz Tryz.func195 ?_
       rw [hU,e3,h3];rfl
     | true =>
       refine AK.gn ?_
       refine AK.gd (fun g4=>?_) (fun g4=>?_)
       ·have g4':((i:Int)==j)=true:=g4
        refine AK.if_ (fun g5=>?_) (fun g5=>?_)
        ·have g5':(x==0)=false:=by have:(x != 0)=true:=g5;simpa using this
         refine AK.rz Tryz.func195 ?_
         rw [hU,e3,h3,g4',g5'];rfl
        ·have g5':(x==0)=true:=by have:(x != 0)=false:=g5;simpa using this
         exact JH (j+1) ⟨hjl,by rw [hU,e3,h3,g4',g5'];rfl⟩ (by omega) _ _ ⟨vsx (by omega),rfl,rfl,trivial⟩ rfl rfl rfl
       ·have g4':((i:Int)==j)=false:=g4
        refine AK.no ?_
        exact JH (j+1) ⟨hjl,by rw [hU,e3,h3,g4'];rfl⟩ (by omega) _ _ ⟨vsx (by omega),rfl,rfl,trivial⟩ rfl rfl rfl
    ·have hje:j=m:=by have:=of_decide_eq_false g2;omega
     subst hje
     exact IH (i+1) ⟨hlt,by rw [hU,Nat.succ_mul]⟩ (by omega) _ _ ⟨vsx (by omega),rfl,trivial⟩ rfl rfl rfl
   ·have hie:i=m:=by have:=of_decide_eq_false h;omega
    subst hie
    refine AK.rz Tryz.func195 ?_
    rw [hT,← gn,List.drop_length];rfl
def Na (a b:Int × Int):Bool:=decide (a.1<b.1)||((a.1==b.1)&&decide (a.2<b.2))
theorem Ava (a b:Int × Int):Pure X 206 [.agg (Cy a),.agg (Cy b)] (vb (Na a b)):=by
 refine Pure.run Tryz.func206 ?_
 refine AK.gd (fun g=>?_) (fun g=>?_)
 ·have g':decide (a.1<b.1)=true:=g
  refine AK.rz Tryz.func206 ?_
  unfold Na;rw [g'];rfl
 have g':decide (a.1<b.1)=false:=g
 refine AK.gd (fun g2=>?_) (fun g2=>?_)
 ·have g2':(a.1==b.1)=true:=g2
  refine AK.rz Tryz.func206 ?_
  unfold Na;rw [g',g2'];rfl
 ·have g2':(a.1==b.1)=false:=g2
  refine AK.rz Tryz.func206 ?_
  unfold Na;rw [g',g2'];rfl
theorem Au1 (a b:Int × Int):Pure X 246 [.agg (Cy a),.agg (Cy b)] (vb (Na a b)):=by
 refine Pure.run Tryz.func246 ?_
 refine AK.gd (fun g=>?_) (fun g=>?_)
 ·have g':decide (a.1<b.1)=true:=g
  refine AK.rz Tryz.func246 ?_
  unfold Na;rw [g'];rfl
 have g':decide (a.1<b.1)=false:=g
 refine AK.gd (fun g2=>?_) (fun g2=>?_)
 ·have g2':(a.1==b.1)=true:=g2
  refine AK.rz Tryz.func246 ?_
  unfold Na;rw [g',g2'];rfl
 ·have g2':(a.1==b.1)=false:=g2
  refine AK.rz Tryz.func246 ?_
  unfold Na;rw [g',g2'];rfl
def Kl (size len:Int):Bool:=Aj size 2 13&&Aj len 1 (size-1)
theorem Axn (size len:Int)(h0:-1000000≤size)(h1:size≤1000000):Pure X 204 [vi size,vi len] (vb (Kl size len)):=by
 have hw:IntKind.i64.wrap (size-1)=size-1:=Ac (by omega) (by omega)
 have hb:=Dq len 1 (IntKind.i64.wrap (size-1))
 rw [hw] at hb
 refine Pure.run Tryz.func204 ?_
 refine AK.pc (Dq size 2 13) ?_
 refine AK.gd (fun g=>?_) (fun g=>?_)
 ·have g':Aj size 2 13=true:=g
  refine AK.pc (Dq len 1 (IntKind.i64.wrap (size-1))) ?_
  refine AK.rz Tryz.func204 ?_
  unfold Kl;rw [g',hw];rfl
 ·have g':Aj size 2 13=false:=g
  refine AK.rz Tryz.func204 ?_
  unfold Kl;rw [g'];rfl
theorem Axg (size len:Int)(h0:-1000000≤size)(h1:size≤1000000):Pure X 244 [vi size,vi len] (vb (Kl size len)):=by
 have hw:IntKind.i64.wrap (size-1)=size-1:=Ac (by omega) (by omega)
 have hb:=Cr len 1 (IntKind.i64.wrap (size-1))
 rw [hw] at hb
 refine Pure.run Tryz.func244 ?_
 refine AK.pc (Cr size 2 13) ?_
 refine AK.gd (fun g=>?_) (fun g=>?_)
 ·have g':Aj size 2 13=true:=g
  refine AK.pc (Cr len 1 (IntKind.i64.wrap (size-1))) ?_
  refine AK.rz Tryz.func244 ?_
  unfold Kl;rw [g',hw];rfl
 ·have g':Aj size 2 13=false:=g
  refine AK.rz Tryz.func244 ?_
  unfold Kl;rw [g'];rfl
def Rb:Nat→List (Int × Int)→Int × Int→Int
 | _,[],_=>-1
 | i,x::l,s=>if (x.1==s.1)&&(x.2==s.2) then i else Rb (i+1) l s
def hasY (l:List (Int × Int))(s:Int × Int):Bool:=decide (Rb 0 l s≥0)
theorem Anu (l:List (Int × Int))(s:Int × Int)(hl:l.length≤1000000000):Pure X 252 [.sl (Hg l) .no,.agg (Cy s)] (vi (Rb 0 l s)):=by
 have hlen:((Hg l).length:Int)=l.length:=by simp [Hg]
 have hfl:Kj X.P 250=some [0,0]:=by kernel_rfl
 refine Pure.run Tryz.func252 ?_
 refine AK.while_ (ι:=Nat) 1 0 (fun i=>i≤l.length∧Rb 0 l s=Rb i (l.drop i) s) (fun i=>[(8,vi i),(7,vi l.length),(0,.sl (Hg l) .no),(3,.ptr 0 0 0)]) (fun _=>⟨[[Cy s]],[]⟩) (fun i=>l.length-i) ?_ 0 ⟨Nat.zero_le _,rfl⟩
  ⟨rfl,A3 hlen,rfl,rfl,trivial⟩
 rintro i ⟨hi,hT⟩ IH
 refine AK.ei (fun h=>?_) (fun h=>?_)
 ·have hlt:i<l.length:=by have:=of_decide_eq_true h;omega
  obtain ⟨x,hx⟩:=Aa l hlt
  have hd:Rb i (l.drop i) s=if (x.1==s.1)&&(x.2==s.2) then (i:Int) else Rb (i+1) (l.drop (i+1)) s:=by rw [An hx];rfl
  rw [hd] at hT
  refine AK.db 0 ?_
  refine Drv.ig i (by omega) (As (f:=Cy) hx) ?_
  refine Cs (fun S'=>Kr (r:=(s.1==x.1)&&((s.2==x.2)&&true)) rfl rfl rfl rfl rfl hfl rfl (.inl ⟨rfl,rfl⟩)) ?_
  refine Drv.z ?_
  refine AK.if_ (fun g=>?_) (fun g=>?_)
  ·have g':((x.1==s.1)&&(x.2==s.2))=true:=by
    have:((s.1==x.1)&&((s.2==x.2)&&true))=true:=g
    simp at this;simp [this.1,this.2]
   refine AK.rz Tryz.func252 ?_
   rw [hT,if_pos g']
  ·have g':¬ ((x.1==s.1)&&(x.2==s.2))=true:=by
    have:((s.1==x.1)&&((s.2==x.2)&&true))=false:=g
    intro h2;simp at h2;rw [h2.1,h2.2] at this;simp at this
   rw [if_neg g'] at hT
   exact IH (i+1) ⟨hlt,hT⟩ (by omega) _ _ ⟨vsx (by omega),rfl,rfl,rfl,trivial⟩ rfl rfl rfl
 ·have:i=l.length:=by have:=of_decide_eq_false h;omega
  refine AK.rz Tryz.func252 ?_
  rw [hT,this,List.drop_length];rfl
theorem Abz (l:List (Int × Int))(s:Int × Int)(hl:l.length≤1000000000):Pure X 207 [.sl (Hg l) .no,.agg (Cy s)] (vb (hasY l s)):=by
 refine Pure.run Tryz.func207 ?_
 refine AK.pc (Anu l s hl) ?_
 exact AK.rz Tryz.func207 rfl
theorem Aqj (l:List (Int × Int))(s:Int × Int)(hl:l.length≤1000000000):Pure X 272 [.sl (Hg l) .no,.agg (Cy s)] (vi (Rb 0 l s)):=by
 have hlen:((Hg l).length:Int)=l.length:=by simp [Hg]
 have hfl:Kj X.P 250=some [0,0]:=by kernel_rfl
 refine Pure.run Tryz.func272 ?_
 refine AK.while_ (ι:=Nat) 1 0 (fun i=>i≤l.length∧Rb 0 l s=Rb i (l.drop i) s) (fun i=>[(5,vi i),(0,.sl (Hg l) .no),(3,.ptr 0 0 0)]) (fun _=>⟨[[Cy s]],[]⟩) (fun i=>l.length-i) ?_ 0 ⟨Nat.zero_le _,rfl⟩
  ⟨rfl,rfl,rfl,trivial⟩
 rintro i ⟨hi,hT⟩ IH
 refine AK.ei (fun h=>?_) (fun h=>?_)
 ·have hlt:i<l.length:=by have:=of_decide_eq_true h;rw [hlen] at this;omega
  obtain ⟨x,hx⟩:=Aa l hlt
  have hd:Rb i (l.drop i) s=if (x.1==s.1)&&(x.2==s.2) then (i:Int) else Rb (i+1) (l.drop (i+1)) s:=by rw [An hx];rfl
  rw [hd] at hT
  refine AK.db 0 ?_
  refine Drv.ig i (by omega) (As (f:=Cy) hx) ?_
  refine Cs (fun S'=>Kr (r:=(x.1==s.1)&&((x.2==s.2)&&true)) rfl rfl rfl rfl rfl hfl rfl (.inl ⟨rfl,rfl⟩)) ?_
  refine Drv.z ?_
  refine AK.if_ (fun g=>?_) (fun g=>?_)
  ·have g':((x.1==s.1)&&(x.2==s.2))=true:=by
    have:((x.1==s.1)&&((x.2==s.2)&&true))=true:=g
    simpa using this
   refine AK.rz Tryz.func272 ?_
   rw [hT,if_pos g']
  ·have g':¬ ((x.1==s.1)&&(x.2==s.2))=true:=by
    have:((x.1==s.1)&&((x.2==s.2)&&true))=false:=g
    rw [Bool.and_true] at this;rw [this];simp
   rw [if_neg g'] at hT
   exact IH (i+1) ⟨hlt,hT⟩ (by omega) _ _ ⟨vsx (by omega),rfl,rfl,trivial⟩ rfl rfl rfl
 ·have:i=l.length:=by have:=of_decide_eq_false h;rw [hlen] at this;omega
  refine AK.rz Tryz.func272 ?_
  rw [hT,this,List.drop_length];rfl
def P8:Nat→List (List (Int × Int))→Int × Int→Int
 | _,[],_=>-1
 | i,x::l,s=>if hasY x s then i else P8 (i+1) l s
theorem Ahp (g:Sg)(hg:SgOk g)(s:Int × Int):Pure X 247 [.agg (Bs g),.agg (Cy s)] (vi (P8 0 g.tm s)):=by
 have hlen:((Ej g.tm).length:Int)=g.tm.length:=by simp [Ej]
 have htm:=hg.tm
 refine Pure.run Tryz.func247 ?_
 refine AK.while_ (ι:=Nat) 2 0 (fun i=>i≤g.tm.length∧P8 0 g.tm s=P8 i (g.tm.drop i) s) (fun i=>[(5,vi i),(2,.ptr 0 0 0),(3,.ptr 1 0 0)]) (fun _=>⟨[[Bs g],[Cy s]],[]⟩) (fun i=>g.tm.length-i) ?_ 0 ⟨Nat.zero_le _,rfl⟩
  ⟨rfl,rfl,rfl,trivial⟩
 rintro i ⟨hi,hT⟩ IH
 refine AK.ei (fun h=>?_) (fun h=>?_)
 ·have hlt:i<g.tm.length:=by have:=of_decide_eq_true h;rw [hlen] at this;omega
  obtain ⟨x,hx⟩:=Aa g.tm hlt
  have hd:P8 i (g.tm.drop i) s=if hasY x s then (i:Int) else P8 (i+1) (g.tm.drop (i+1)) s:=by rw [An hx];rfl
  rw [hd] at hT
  refine AK.db 0 ?_
  refine Drv.ig i (by omega) (As (f:=Km) hx) ?_
  refine Ax (Aqj x s (hg.rows x (List.mem_of_getElem? hx))) ?_
  refine Drv.z ?_
  refine AK.if_ (fun g2=>?_) (fun g2=>?_)
  ·have g':hasY x s=true:=g2
   refine AK.rz Tryz.func247 ?_
   rw [hT,if_pos g']
  ·have g':¬ hasY x s=true:=by have:hasY x s=false:=g2;simp [this]
   rw [if_neg g'] at hT
   exact IH (i+1) ⟨hlt,hT⟩ (by omega) _ _ ⟨vsx (by omega),rfl,rfl,trivial⟩ rfl rfl rfl
 ·have:i=g.tm.length:=by have:=of_decide_eq_false h;rw [hlen] at this;omega
  refine AK.rz Tryz.func247 ?_
  rw [hT,this,List.drop_length];rfl
def Rm (p:Option (Int × Int))(s:Int × Int):Bool:=match p with | some q=>Na q s | none=>true
def Ky (size:Int)(seen:List (Int × Int)):Option (Int × Int)→List (Int × Int)→Bool
 | _,[]=>true
 | p,s::l=>(G5 size s.1 s.2&&(Rm p s&&!hasY seen s))&&Ky size seen (some s) l
def I6 (size:Int):List (Int × Int)→List (List (Int × Int))→Bool
 | _,[]=>true
 | seen,x::l=>Ky size seen none x&&(!((x.length:Int)==0)&&(!decide (((seen++x).length:Int) > 40)&&I6 size (seen++x) l))
def Jc (v:Vl):Bool:=((v.lo==1)&&(v.hi==0))||(Lt v.lo&&(Lt v.hi&&decide (v.lo≤v.hi)))
def Lv (size len:Int)(g:Sg):Bool :=
 Kl size len&&(Aj g.tm.length 1 16&&(((g.vs.length:Int)==g.tm.length-1)&&(((g.ms.length:Int)==g.tm.length-1)&&(I6 size [] g.tm&&(hasY (g.tm.getD 0 []) (0,0)&&(hasY (g.tm.getD (g.tm.length-1) []) (len,0)&&g.vs.all Jc))))))
def Nk (x:List (Int × Int)):Nat→Option (Int × Int)
 | 0=>none
 | j+1=>x[j]?
theorem Ad3 {size:Int}{seen x:List (Int × Int)}{j:Nat}{s:Int × Int}(h:x[j]?=some s) :
 Ky size seen (Nk x j) (x.drop j)=((G5 size s.1 s.2&&(Rm (Nk x j) s&&!hasY seen s))&&Ky size seen (Nk x (j+1)) (x.drop (j+1))):=by
 rw [An h]
 show _=(_&&Ky size seen (x[j]?) _)
 rw [h];rfl
theorem Au7 (len:Int):Pure X 208 [vi len] (.tup [.agg (Cy (0,0)),.agg (Cy (len,0))]):=by
 refine Pure.run Tryz.func208 ?_
 exact AK.rz Tryz.func208 rfl
abbrev F14 (g:Sg)(size len:Int)(i:Nat)(x seen:List (Int × Int)):B3:=[(47,vi i),(46,vi g.tm.length),(45,.sl (Ej g.tm) .no),(10,.sl (Hg x) .no),(8,.sl (Hg seen) (.tok 0)),(0,vi size),(1,vi len),(7,vi g.tm.length),(5,.ptr 0 0 0)]
theorem An0 (g:Sg)(size len:Int)(hs0:-1000000≤size)(hs1:size≤1000000)(i:Nat)(seen x:List (Int × Int))(hsl:seen.length≤1000000000)(hxl:x.length≤1000000000)(hx:g.tm[i]?=some x)(R:Bool)
 (h:Ky size seen none x=true→AK X ⟨151,Tryz.f151,0,0⟩ (Gl false 14 Tryz.f151) (F14 g size len i x seen) ⟨[[Bs g]],[seen.length]⟩ (fun e S=>e=.ret (vb R)∧S=⟨[],[]⟩))
 (hbad:Ky size seen none x=false→R=false) :
 AK X ⟨151,Tryz.f151,0,0⟩ (Gl false 8 Tryz.f151) (F14 g size len i x seen) ⟨[[Bs g]],[seen.length]⟩ (fun e S=>e=.ret (vb R)∧S=⟨[],[]⟩):=by
 have hlen:((Hg x).length:Int)=x.length:=by simp [Hg]
 refine AK.at_ ?_
 refine AK.ev 100 rfl ?_
 refine AK.while_ (ι:=Nat) 1 1 (fun j=>j≤x.length∧Ky size seen none x=Ky size seen (Nk x j) (x.drop j)) (fun j=>(53,vi j)::(52,vi x.length)::(51,.sl (Hg x) .no)::F14 g size len i x seen) (fun _=>⟨[[Bs g]],[seen.length]⟩) (fun j=>x.length-j) ?_ 0 ⟨Nat.zero_le _,rfl⟩
  ⟨rfl,A3 hlen,rfl,rfl,rfl,rfl,rfl,rfl,rfl,rfl,rfl,rfl,trivial⟩
 rintro j ⟨hj,hT⟩ IH
 refine AK.ev 100 rfl ?_
 refine AK.ifj 0 14 (fun hh=>?_) (fun hh=>?_)
 ·have hlt:j<x.length:=by have:=of_decide_eq_true hh;omega
  obtain ⟨s,hs⟩:=Aa x hlt
  rw [Ad3 hs] at hT
  refine AK.ev 100 rfl ?_
  refine AK.ix j (by omega) (As (f:=Cy) hs) ?_
  have step:(Rm (Nk x j) s&&!hasY seen s)=true→G5 size s.1 s.2=true→(j+1≤x.length∧Ky size seen none x=Ky size seen (Nk x (j+1)) (x.drop (j+1))):=fun h1 h2=>⟨hlt,by rw [hT,h2,h1];rfl⟩
  refine AK.dn 0 2 ?_
  refine Drv.pc (Ard size s.1 s.2 hs0 hs1) ?_
  refine Bm 1 ?_
  cases h2:G5 size s.1 s.2 with
  | false =>
    rw [h2] at hT
    refine Drv.t true ?_
    refine Bm 13 ?_
    refine Drv.t true ?_
    refine Drv.go ?_
    refine Drv.z ?_
    refine AK.yes ?_
    refine AK.rz Tryz.func151 ?_
    rw [hbad hT]
  | true =>
    refine Drv.t false ?_
    refine Bm 2 ?_
    cases j with
    | zero =>
      have hp:Rm (Nk x 0) s=true:=rfl
      refine Drv.t false ?_
      refine Bm 10 ?_
      refine Drv.t false ?_
      refine Drv.go ?_
      refine Ax (Abz seen s hsl) ?_
      refine Drv.z ?_
      refine AK.if_ (fun g3=>?_) (fun g3=>?_)
      ·have g3':hasY seen s=true:=g3
       refine AK.rz Tryz.func151 ?_
       rw [hbad (by rw [hT,g3'];simp)]
      ·have g3':hasY seen s=false:=g3
       exact IH (0+1) (step (by rw [hp,g3'];rfl) h2) (by omega) _ _ ⟨vsx (by omega),rfl,rfl,rfl,rfl,rfl,rfl,rfl,rfl,rfl,rfl,rfl,trivial⟩ rfl rfl rfl
    | succ j =>
      obtain ⟨q,hq⟩:=Aa x (i:=j) (by omega)
      have hp:Rm (Nk x (j+1)) s=Na q s:=by show Rm (x[j]?) s=_;rw [hq];rfl
      have hw:IntKind.i64.wrap (((j+1:Nat):Int)-1)=j:=(Ac (by omega) (by omega)).trans (by omega)
      refine Drv.t true ?_ (hb:=decide_eq_true (by omega))
      refine Drv.go ?_
      refine Cs (fun S'=>Ndo.index rfl rfl rfl rfl rfl rfl rfl rfl rfl (by rw [hw];omega) (by rw [hw];exact As (f:=Cy) hq)) ?_
      refine Drv.go ?_
      refine Drv.pc (Ava q s) ?_
      refine Bm 3 ?_
      cases h3:Na q s with
      | false =>
        refine Drv.t true ?_
        refine Drv.go ?_
        refine Drv.z ?_
        refine AK.yes ?_
        refine AK.rz Tryz.func151 ?_
        rw [hbad (by rw [hT,hp,h3];simp)]
      | true =>
        rw [h3] at hp
        refine Drv.t false ?_
        refine Drv.go ?_
        refine Ax (Abz seen s hsl) ?_
        refine Drv.z ?_
        refine AK.if_ (fun g3=>?_) (fun g3=>?_)
        ·have g3':hasY seen s=true:=g3
         refine AK.rz Tryz.func151 ?_
         rw [hbad (by rw [hT,g3'];simp)]
        ·have g3':hasY seen s=false:=g3
         exact IH ((j+1)+1) (step (by rw [hp,g3'];rfl) h2) (by omega) _ _ ⟨vsx (by omega),rfl,rfl,rfl,rfl,rfl,rfl,rfl,rfl,rfl,rfl,rfl,trivial⟩ rfl rfl rfl
 ·have hje:j=x.length:=by have:=of_decide_eq_false hh;omega
  have ht:Ky size seen none x=true:=by rw [hT,hje,List.drop_length];rfl
  exact AK.back' 1 1 (h ht) ⟨rfl,rfl,rfl,rfl,rfl,rfl,rfl,rfl,rfl,trivial⟩ rfl rfl rfl rfl rfl
end Go.V
