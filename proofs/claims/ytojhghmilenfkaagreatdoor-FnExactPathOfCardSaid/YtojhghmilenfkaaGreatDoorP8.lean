/- A part of the proof of the claim that the last text states: no condition of its own. -/
import Derived.Test.YtojhghmilenfkaaGreatDoorP7
import Derived.Carry
import Derived.ChangeArms
import Derived.ChangeVars
import Derived.Deep.DeepHandedRow
import Derived.Lib.LaidTab
import Derived.Lib.LaidU8
import Derived.OpenShut
import Derived.ProofKit
import Derived.Test.YtojhghmilenfkaaGreatDoorCards
import Derived.Test.YtojhghmilenfkaaGreatDoorTie
import Derived.WalkKit
set_option linter.unusedVariables false
set_option linter.unusedSimpArgs false
namespace Go.V
open Go Go.Proofs Go.Proofs.Tryz
def Ei(l:List Int):List (List AV):=l.map fun m=>[vi m]
theorem C2(l:List Int):(Ei l).length=l.length:=by simp[Ei]
theorem Amx(l:List Int):Ka 1 (Ei l)=true:=Ku (f:=fun(i:Int)=>[vi i]) (fun _=>rfl) l
theorem Za{l:List Int}{i:Nat}{m:Int}(h:l[i]?=some m):(Ei l)[i]?=some [vi m]:=by simp[Ei,h]
instance{n m:Nat}{l:List Int}:OKR n m (Ei l):=⟨fun r hr x hx=>by obtain⟨e,_,rfl⟩:=zzq68.1 hr;simp at hx;subst hx;exact .val _⟩
def D9(n:Nd):List Int:=(M9 n 32).map Nd.num
theorem Ag0(n:Nd)(k:Int):Ax n k=(M9 n k).map Nd.name:=rfl
theorem Acx(n:Nd)(k:Int):(M9 n k).length≤n.kids.length:=by
 unfold M9;exact Nt (Ze _ _) (by simp)
theorem Afo(n:Nd)(k:Int)(hne:n.kids≠[])(hl:n.kids.length≤1000000000):Pure X 106 [nd n,vi k] (.sl (Dj (Ax n k)) .no):=by
 have hdl:=Acx n k;rw[Ag0];refine Pure.run func106 ?_;refine Al (Sw n k hne hl) ?_;generalize M9 n k=ds at *;refine N1 (d:=5) rfl rfl rfl ?_;refine Av (ι:=Nat) 1 1 (fun i=>i≤ds.length) (fun i=>[(13,vi i),(12,vi ds.length),(11,.sl (Ap ds) .no),(5,.sl (Dj ((ds.take i).map Nd.name)) (.tok 0))]) (fun i=>⟨[[Af n]],[i]⟩) (fun i=>ds.length-i) ?_ 0
  (Cc _) ⟨rfl,by rw[←Ad ds];rfl,rfl,rfl,trivial⟩
 intro i hi IH;have htl:(Dj ((ds.take i).map Nd.name)).length=i:=by rw[Fy];simp;omega
 refine Dh (fun h=>?_) (fun h=>?_)
 ·have hlt:i<ds.length:=by have:=A7 h;omega
  obtain⟨x,hx⟩:=Ab ds hlt;refine B7 i (by omega) (Am hx) ?_;refine Bm (Bv (res:=Dj ((ds.take (i+1)).map Nd.name)) rfl rfl rfl rfl rfl rfl rfl rfl rfl rfl rfl rfl rfl rfl htl (Acb _) rfl rfl rfl ?_ ?_ rfl) ?_
  ·rw[htl];simp;omega
  ·rw[G7,hx];simp[Dj]
  refine IH (i+1) hlt (by omega) _ _ ⟨vsx (by omega),rfl,rfl,rfl,trivial⟩ ?_ rfl rfl;show St.mk [[Af n]] [_+1]=St.mk [[Af n]] [i+1];rw[htl]
 ·have:i=ds.length:=by have:=Bd h;omega
  subst this;rw[I8];exact Au func106 rfl
theorem Aqr(n:Nd)(hne:n.kids≠[])(hl:n.kids.length≤1000000000):Pure X 107 [nd n] (.sl (Ei (D9 n)) .no):=by
 have hdl:=Acx n 32;unfold D9;refine Pure.run func107 ?_;refine Al (Sw n 32 hne hl) ?_;generalize M9 n 32=ds at *;refine N1 (d:=3) rfl rfl rfl ?_;refine Av (ι:=Nat) 1 1 (fun i=>i≤ds.length) (fun i=>[(10,vi i),(9,vi ds.length),(8,.sl (Ap ds) .no),(3,.sl (Ei ((ds.take i).map Nd.num)) (.tok 0))]) (fun i=>⟨[[Af n]],[i]⟩) (fun i=>ds.length-i) ?_ 0
  (Cc _) ⟨rfl,by rw[←Ad ds];rfl,rfl,rfl,trivial⟩
 intro i hi IH;have htl:(Ei ((ds.take i).map Nd.num)).length=i:=by rw[C2];simp;omega
 refine Dh (fun h=>?_) (fun h=>?_)
 ·have hlt:i<ds.length:=by have:=A7 h;omega
  obtain⟨x,hx⟩:=Ab ds hlt;refine B7 i (by omega) (Am hx) ?_;refine Bm (Bv (res:=Ei ((ds.take (i+1)).map Nd.num)) rfl rfl rfl rfl rfl rfl rfl rfl rfl rfl rfl rfl rfl rfl htl (Amx _) rfl rfl rfl ?_ ?_ rfl) ?_
  ·rw[htl];simp;omega
  ·rw[G7,hx];simp[Ei]
  refine IH (i+1) hlt (by omega) _ _ ⟨vsx (by omega),rfl,rfl,rfl,trivial⟩ ?_ rfl rfl;show St.mk [[Af n]] [_+1]=St.mk [[Af n]] [i+1];rw[htl]
 ·have:i=ds.length:=by have:=Bd h;omega
  subst this;rw[I8];exact Au func107 rfl
theorem Axs(n:Nd)(hn:wN n≤1000000000):Pure X 99 [nd n] (.sl (Ei (D9 n)) .no):=by
 let sz (l:List Nd):List Int:=(l.filter fun x=>x.kind==32).map Nd.num
 have szle:∀l:List Nd,(sz l).length≤l.length:=fun l=>by simp only[sz,U7];exact Ze _ _
 refine Pure.run func99 ?_;have hkl:=G6 n;have hw:IntKind.i64.wrap ((Ap n.kids).length-1:Int)=n.kids.length-1:=by rw[Ad];exact Ac (by omega) (by omega)
 refine N1 (d:=3) rfl rfl rfl ?_;refine Av (ι:=Nat) 1 1 (fun i=>i≤n.kids.length-1) (fun i=>[(4,vi i),(3,.sl (Ei (sz (n.kids.take i))) (.tok 0)),(1,.ptr 0 0 0)]) (fun i=>⟨[[Af n]],[(sz (n.kids.take i)).length]⟩) (fun i=>n.kids.length-i) ?_ 0
  (Cc _) ⟨rfl,rfl,rfl,trivial⟩
 intro i hi IH;refine Dh (fun h=>?_) (fun h=>?_)
 ·have hlt:i<n.kids.length-1:=by have:=A7 h;rw[hw]at this;omega
  obtain⟨x,hx⟩:=Ab n.kids (i:=i) (by omega);have hle:=szle (n.kids.take i);have htl:(n.kids.take i).length=i:=by simp;omega
  refine B7 i (by omega) (Am hx) ?_;refine Ag (fun h2=>?_) (fun h2=>?_)
  ·have h2':(x.kind==32)=true:=h2;have hs:sz (n.kids.take (i+1))=sz (n.kids.take i)++[x.num]:=by simp[sz,G7,hx,Abm,Abn,h2']
   refine B7 i (by omega) (Am hx) ?_;refine Bm (Bv (res:=Ei (sz (n.kids.take i)++[x.num])) rfl rfl rfl rfl rfl rfl rfl rfl rfl rfl rfl rfl rfl rfl (C2 _) (Amx _) rfl rfl rfl ?_ ?_ rfl) ?_
   ·rw[C2];simp;omega
   ·simp[Ei]
   refine IH (i+1) (by omega) (by omega) _ _ ⟨vsx (by omega),?_,rfl,trivial⟩ ?_ rfl rfl
   ·rw[hs];rfl
   ·rw[hs];simp[St.drop,C2]
  ·have h2':(x.kind==32)=false:=h2;have hs:sz (n.kids.take (i+1))=sz (n.kids.take i):=by simp[sz,G7,hx,Abm,Abn,h2']
   refine IH (i+1) (by omega) (by omega) _ _ ⟨vsx (by omega),?_,rfl,trivial⟩ ?_ rfl rfl
   ·rw[hs];rfl
   ·rw[hs];rfl
 ·have:i=n.kids.length-1:=by have:=Bd h;rw[hw]at this;omega
  refine Au func99 ?_;rw[this,D9,M9,Akj]
end Go.V
namespace Go.V
open Go
section
variable {X:Cx}{B:Bx}{E:Env}{S:St}{w:World}{F:C3}{a:Act}{N:Nat}{R:AE→St→Prop}
def DrvP(X:Cx)(N:Nat)(ops:Array Oper)(ix:Nat→Nat)(bp:Nat→Nat→Bool)(em:Nat→Bool):List Oper→Nat→C3→St→List St→List Jx→(C3→St→Prop)→Prop
 |[],_,F,S,_,_,K=>K F S
 |o::os,i,F,S,Hs,pend,K=>
  (∃x,D1 N o.dst=true∧(∀S',Ndo X N ops (ix i) o F x S' S')∧DrvP X N ops ix bp em os (i+1) (putF o.dst x F) S Hs pend K) ∨
  (∃x,D1 N o.dst=true∧(∀S',S'∈Hs→Ndo X N ops (ix i) o F x S' S')∧DrvP X N ops ix bp em os (i+1) (putF o.dst x F) S Hs ((i,o,F,x)::pend) K) ∨
  (∃x S' pend',em i=true∧D1 N o.dst=true∧Ndo X N ops (ix i) o F x S S'∧pend.filter (fun p=>!bp p.1 i)=pend'∧(∀p,p∈pend'→Ndo X N ops (ix p.1) p.2.1 p.2.2.1 p.2.2.2 S' S') ∧
    DrvP X N ops ix bp em os (i+1) (putF o.dst x F) S' (S'::Hs) pend' K)
structure DDataP (X:Cx)(N:Nat)(ops:Array Oper)(ix:Nat→Nat)(bp:Nat→Nat→Bool)(em:Nat→Bool)(i n:Nat)(eff:Nat→Bool)(x:Nat→AV)(FF:Nat→C3)(SS:Nat→St)(Hs:List St)(pend:List Jx):Prop where
 step:∀j,i≤j→j<n→∀o,ops[ix j]?=some o→FF (j+1)=putF o.dst (x j) (FF j)∧D1 N o.dst=true
 eff0:∀j,i≤j→j<n→eff j=false→SS (j+1)=SS j
 eff1:∀j,i≤j→j<n→eff j=true→∀o,ops[ix j]?=some o→em j=true∧Ndo X N ops (ix j) o (FF j) (x j) (SS j) (SS (j+1))
 was:∀j,i≤j→j<n→eff j=false→∀o,ops[ix j]?=some o→∀S',S'∈Hs→Ndo X N ops (ix j) o (FF j) (x j) S' S'
 will:∀j,i≤j→j<n→eff j=false→∀o,ops[ix j]?=some o→∀p,i≤p→p≤n→(∀e,j≤e→e<p→eff e=true→bp j e=false)→Ndo X N ops (ix j) o (FF j) (x j) (SS p) (SS p)
 pend:∀q,q∈pend→∀p,i≤p→p≤n→(∀e,i≤e→e<p→eff e=true→bp q.1 e=false)→Ndo X N ops (ix q.1) q.2.1 q.2.2.1 q.2.2.2 (SS p) (SS p)
theorem U9{ops:Array Oper}{ix:Nat→Nat}{bp:Nat→Nat→Bool}{em:Nat→Bool}:∀(os:List Oper)(i:Nat)(F:C3)(S:St)(Hs:List St)(pend:List Jx)(K:C3→St→Prop),
 DrvP X N ops ix bp em os i F S Hs pend K→(∀k,k<os.length→ops[ix (i+k)]?=os[k]?)→S∈Hs→(∀q,q∈pend→Ndo X N ops (ix q.1) q.2.1 q.2.2.1 q.2.2.2 S S) →
 ∃eff x FF SS,FF i=F∧SS i=S∧K (FF (i+os.length)) (SS (i+os.length))∧DDataP X N ops ix bp em i (i+os.length) eff x FF SS Hs pend
 |[],i,F,S,Hs,pend,K,h,_,hS,hp=>by
  refine⟨fun _=>false,fun _=>.junk,fun _=>F,fun _=>S,rfl,rfl,h,?_⟩
  exact{ step:=fun j h1 h2=>by simp at h2;omega
         eff0:=fun j h1 h2=>by simp at h2;omega
         eff1:=fun j h1 h2=>by simp at h2;omega
         was:=fun j h1 h2=>by simp at h2;omega
         will:=fun j h1 h2=>by simp at h2;omega
         pend:=fun q hq p _ _ _=>hp q hq }
 |o::os,i,F,S,Hs,pend,K,h,hops,hS,hp=>by
  have ho:ops[ix i]?=some o:=by have:=hops 0 (by simp);simpa using this
  have hops':∀k,k<os.length→ops[ix (i+1+k)]?=os[k]?:=fun k hk=>by
   have:=hops (k+1) (by simp;omega);rw[show i+1+k=i+(k+1) by omega];simpa using this
  have hlen:i+(o::os).length=i+1+os.length:=by simp;omega
  rw[hlen];simp only[DrvP]at h;have upd:∀{β:Type} (f:Nat→β) (v:β) (j:Nat),(fun j=>if j=i then v else f j) j=if j=i then v else f j:=fun _ _ _=>rfl;rcases h with⟨x,hd,hn,hk⟩|⟨x,hd,hn,hk⟩|⟨x,S',pend',he,hd,hn,hpf,hpn,hk⟩
  ·obtain⟨eff,xs,FF,SS,h1,h2,h3,D⟩:=U9 os (i+1) _ S Hs pend K hk hops' hS hp;refine⟨fun j=>if j=i then false else eff j,fun j=>if j=i then x else xs j,fun j=>if j=i then F else FF j,fun j=>if j=i then S else SS j,by simp,by simp,?_,?_⟩
   ·have:¬(i+1+os.length=i):=by omega
    simpa[this]using h3
   ·refine⟨fun j a b o' ho'=>?_,fun j a b c=>?_,fun j a b c o' ho'=>?_,fun j a b c o' ho' S' hS'=>?_,fun j a b c o' ho' p hp1 hp2 hpe=>?_,fun q hq p hp1 hp2 hpe=>?_⟩
    ·by_cases hj:j=i
     ·subst hj;rw[ho]at ho';cases ho';simp[h1,hd]
     ·have h4:¬(j+1=i):=by omega
      simp only[hj,h4,if_false];exact D.step j (by omega) b o' ho'
    ·by_cases hj:j=i
     ·subst hj;simp[h2]
     ·have h4:¬(j+1=i):=by omega
      simp only[hj,h4,if_false]at c⊢;exact D.eff0 j (by omega) b c
    ·by_cases hj:j=i
     ·subst hj;simp at c
     ·have h4:¬(j+1=i):=by omega
      simp only[hj,h4,if_false]at c⊢;exact D.eff1 j (by omega) b c o' ho'
    ·by_cases hj:j=i
     ·subst hj;rw[ho]at ho';cases ho';simp only[if_true];exact hn S'
     ·simp only[hj,if_false]at c⊢;exact D.was j (by omega) b c o' ho' S' hS'
    ·by_cases hj:j=i
     ·subst hj;rw[ho]at ho';cases ho';simp only[if_true];exact hn _
     ·simp only[hj,if_false]at c⊢;by_cases hpi:p=i
      ·subst hpi;simp only[if_true];exact D.was j (by omega) b c o' ho' S hS
      ·simp only[hpi,if_false];refine D.will j (by omega) b c o' ho' p (by omega) hp2 (fun e e1 e2 e3=>hpe e e1 e2 ?_);have:¬(e=i):=by omega
       simpa[this]using e3
    ·by_cases hpi:p=i
     ·subst hpi;simp only[if_true];exact hp q hq
     ·simp only[hpi,if_false];refine D.pend q hq p (by omega) hp2 (fun e e1 e2 e3=>hpe e (by omega) e2 ?_);have:¬(e=i):=by omega
      simpa[this]using e3
  ·obtain⟨eff,xs,FF,SS,h1,h2,h3,D⟩:=U9 os (i+1) _ S Hs ((i,o,F,x)::pend) K hk hops' hS (fun q hq=>by
    rcases zzq13.1 hq with rfl|hq
    ·exact hn S hS
    ·exact hp q hq)
   refine⟨fun j=>if j=i then false else eff j,fun j=>if j=i then x else xs j,fun j=>if j=i then F else FF j,fun j=>if j=i then S else SS j,by simp,by simp,?_,?_⟩
   ·have:¬(i+1+os.length=i):=by omega
    simpa[this]using h3
   ·refine⟨fun j a b o' ho'=>?_,fun j a b c=>?_,fun j a b c o' ho'=>?_,fun j a b c o' ho' S' hS'=>?_,fun j a b c o' ho' p hp1 hp2 hpe=>?_,fun q hq p hp1 hp2 hpe=>?_⟩
    ·by_cases hj:j=i
     ·subst hj;rw[ho]at ho';cases ho';simp[h1,hd]
     ·have h4:¬(j+1=i):=by omega
      simp only[hj,h4,if_false];exact D.step j (by omega) b o' ho'
    ·by_cases hj:j=i
     ·subst hj;simp[h2]
     ·have h4:¬(j+1=i):=by omega
      simp only[hj,h4,if_false]at c⊢;exact D.eff0 j (by omega) b c
    ·by_cases hj:j=i
     ·subst hj;simp at c
     ·have h4:¬(j+1=i):=by omega
      simp only[hj,h4,if_false]at c⊢;exact D.eff1 j (by omega) b c o' ho'
    ·by_cases hj:j=i
     ·subst hj;rw[ho]at ho';cases ho';simp only[if_true];exact hn S' hS'
     ·simp only[hj,if_false]at c⊢;exact D.was j (by omega) b c o' ho' S' hS'
    ·by_cases hpi:p=i
     ·subst hpi;simp only[if_true];by_cases hj:j=p
      ·subst hj;rw[ho]at ho';cases ho';simp only[if_true];exact hn S hS
      ·simp only[hj,if_false]at c⊢;exact D.was j (by omega) b c o' ho' S hS
     ·simp only[hpi,if_false];by_cases hj:j=i
      ·subst hj;rw[ho]at ho';cases ho';simp only[if_true];refine D.pend (j,o,F,x) (by simp) p (by omega) hp2 (fun e e1 e2 e3=>hpe e (by omega) e2 ?_);have:¬(e=j):=by omega
       simpa[this]using e3
      ·simp only[hj,if_false]at c⊢;refine D.will j (by omega) b c o' ho' p (by omega) hp2 (fun e e1 e2 e3=>hpe e e1 e2 ?_);have:¬(e=i):=by omega
       simpa[this]using e3
    ·by_cases hpi:p=i
     ·subst hpi;simp only[if_true];exact hp q hq
     ·simp only[hpi,if_false];refine D.pend q (by simp[hq]) p (by omega) hp2 (fun e e1 e2 e3=>hpe e (by omega) e2 ?_);have:¬(e=i):=by omega
      simpa[this]using e3
  ·obtain⟨eff,xs,FF,SS,h1,h2,h3,D⟩:=U9 os (i+1) _ S' (S'::Hs) pend' K hk hops' (by simp) hpn;refine⟨fun j=>if j=i then true else eff j,fun j=>if j=i then x else xs j,fun j=>if j=i then F else FF j,fun j=>if j=i then S else SS j,by simp,by simp,?_,?_⟩
   ·have:¬(i+1+os.length=i):=by omega
    simpa[this]using h3
   ·refine⟨fun j a b o' ho'=>?_,fun j a b c=>?_,fun j a b c o' ho'=>?_,fun j a b c o' ho' S' hS'=>?_,fun j a b c o' ho' p hp1 hp2 hpe=>?_,fun q hq p hp1 hp2 hpe=>?_⟩
    ·by_cases hj:j=i
     ·subst hj;rw[ho]at ho';cases ho';simp[h1,hd]
     ·have h4:¬(j+1=i):=by omega
      simp only[hj,h4,if_false];exact D.step j (by omega) b o' ho'
    ·by_cases hj:j=i
     ·subst hj;simp at c
     ·have h4:¬(j+1=i):=by omega
      simp only[hj,h4,if_false]at c⊢;exact D.eff0 j (by omega) b c
    ·by_cases hj:j=i
     ·subst hj;rw[ho]at ho';cases ho';simp[h2,he];exact hn
     ·have h4:¬(j+1=i):=by omega
      simp only[hj,h4,if_false]at c⊢;exact D.eff1 j (by omega) b c o' ho'
    ·by_cases hj:j=i
     ·subst hj;simp at c
     ·simp only[hj,if_false]at c⊢;exact D.was j (by omega) b c o' ho' S' (by simp[hS'])
    ·by_cases hj:j=i
     ·subst hj;simp at c
     ·simp only[hj,if_false]at c⊢;by_cases hpi:p=i
      ·subst hpi;simp only[if_true];exact D.was j (by omega) b c o' ho' S (by simp[hS])
      ·simp only[hpi,if_false];refine D.will j (by omega) b c o' ho' p (by omega) hp2 (fun e e1 e2 e3=>hpe e e1 e2 ?_);have:¬(e=i):=by omega
       simpa[this]using e3
    ·by_cases hpi:p=i
     ·subst hpi;simp only[if_true];exact hp q hq
     ·simp only[hpi,if_false];have hb:bp q.1 i=false:=hpe i (Bo _) (by omega) (by simp);refine D.pend q (by rw[←hpf];exact zzq58.2 ⟨hq,by simp[hb]⟩) p (by omega) hp2 (fun e e1 e2 e3=>hpe e (by omega) e2 ?_);have:¬(e=i):=by omega
      simpa[this]using e3
def Zi(ops:Array Oper)(ix:Nat→Nat)(x:Nat→AV)(listed:Nat→Bool)(F:C3):Nat→C3
 |0=>F
 |j+1=>match listed j with
  |true=>match ops[ix j]? with
   |some o=>putF o.dst (x j) (Zi ops ix x listed F j)
   |none=>Zi ops ix x listed F j
  |false=>Zi ops ix x listed F j
theorem Oz{ops:Array Oper}{ix:Nat→Nat}{x:Nat→AV}{listed:Nat→Bool}{t:Nat}:∀n,(∀j,j<n→listed j=true→∀o,ops[ix j]?=some o→o.dst≠some t)→lk (Zi ops ix x listed F n) t=lk F t
 |0,_=>rfl
 |n+1,h=>by
  have ih:lk (Zi ops ix x listed F n) t=lk F t:=Oz n (fun j hj=>h j (by omega));simp only[Zi];split
  ·rename_i hl;split
   ·rename_i o ho;rw[Hr,if_neg (h n (by omega) hl o ho),ih]
   ·exact ih
  ·exact ih
theorem Si{ops:Array Oper}{ix:Nat→Nat}{x:Nat→AV}{listed:Nat→Bool}{t j:Nat}{o:Oper}(ho:ops[ix j]?=some o)(hd:o.dst=some t)(hl:listed j=true) :
 ∀n,j<n→(∀(j':Nat) (o':Oper),j'<n→j≠j'→ops[ix j']?=some o'→o'.dst≠some t)→lk (Zi ops ix x listed F n) t=some (x j)
 |0,h,_=>by omega
 |n+1,h,hu=>by
  simp only[Zi];by_cases hj:j=n
  ·subst hj;simp only[hl,ho];rw[Hr,if_pos hd]
  ·have ih:lk (Zi ops ix x listed F n) t=some (x j):=Si ho hd hl n (by omega) (fun j' o' h'=>hu j' o' (by omega));split
   ·split
    ·rename_i o' ho';rw[Hr,if_neg (hu n o' (by omega) hj ho'),ih]
    ·exact ih
   ·exact ih
structure DrawOkP (ops:Array Oper)(ix:Nat→Nat)(n:Nat)(bp:Nat→Nat→Bool)(em:Nat→Bool):Prop where
 at_:∀j,j<n→∃o,ops[ix j]?=some o
 looks:∀(i j:Nat) (oi oj:Oper),i<n→j<n→ops[ix i]?=some oi→ops[ix j]?=some oj→∀t,oj.dst=some t→t∈oi.looksAt ops→(j<i∧bp j i=true)∨(i<j∧bp i j=true)
 dsts:∀(i j:Nat) (oi oj:Oper),i<n→j<n→ops[ix i]?=some oi→ops[ix j]?=some oj→i≠j→∀t,oi.dst=some t→oj.dst≠some t
 effs:∀(i j:Nat),i<j→j<n→em i=true→em j=true→bp i j=true
def OrdP(bp:Nat→Nat→Bool)(n:Nat):List Nat→(Nat→Bool)→Prop
 |[],listed=>∀j,j<n→listed j=true
 |i::l,listed=>i<n∧listed i=false∧(∀e,e<n→bp e i=true→listed e=true)∧OrdP bp n l (fun j=>if i=j then true else listed j)
def CloP(bp:Nat→Nat→Bool)(n:Nat)(listed:Nat→Bool):Prop:=∀j e,j<n→e<n→listed j=true→bp e j=true→listed e=true
theorem CloP.put{bp:Nat→Nat→Bool}{n i:Nat}{listed:Nat→Bool}(h:CloP bp n listed)(hb:∀e,e<n→bp e i=true→listed e=true):CloP bp n (fun j=>if i=j then true else listed j):=fun j e hj he hl hb'=>by
 by_cases h1:i=e
 ·simp[h1]
 ·simp only[h1,if_false];by_cases h2:i=j
  ·subst h2;exact hb e he hb'
  ·simp only[h2,if_false]at hl;exact h j e hj he hl hb'
theorem Asn{ops:Array Oper}{ix:Nat→Nat}{n:Nat}{bp:Nat→Nat→Bool}{em:Nat→Bool}(dk:DrawOkP ops ix n bp em){eff:Nat→Bool}{x:Nat→AV}{FF:Nat→C3}{SS:Nat→St}{Hs:List St}{pend:List Jx}
 (D:DDataP X N ops ix bp em 0 n eff x FF SS Hs pend)(hF0:FF 0=F)(k:List Item):∀(l:List Nat)(listed:Nat→Bool)(a:Act)(w:World)(E:Env)(p:Nat),
 OrdP bp n l listed→CloP bp n listed→p≤n→(∀e,e<n→eff e=true→(listed e=true↔e<p)) →
 Inv X E (SS p) w→FR E w (Zi ops ix x listed F n) a N→∀(b:Frame) (cs:List Frame),
  ∃E' w' a',Steps X.P (lone (b.at a (.inRegion ops (l.map ix)::k)) cs w) (lone (b.at a' k) cs w')∧Inv X E' (SS n) w' ∧
   FR E' w' (FF n) a' N∧Evol E w E' w' E.boxes.length E.toks.length:=by
 have hFF:∀m,m≤n→FF m=Zi ops ix x (fun _=>true) F m:=by
  intro m
  induction m with
  |zero=>intro _;exact hF0
  |succ m ih=>
   intro hn;obtain⟨o,ho⟩:=dk.at_ m (by omega);rw[(D.step m (Cc _) (by omega) _ ho).1,ih (by omega)];simp[Zi,ho]
 have hSS:∀p q,p≤q→q≤n→(∀e,p≤e→e<q→eff e=false)→SS q=SS p:=by
  intro p q hpq
  induction q with
  |zero=>intro _ _;rw[show p=0 by omega]
  |succ q ih=>
   intro hq he;by_cases h:p=q+1
   ·rw[h]
   ·rw[D.eff0 q (Cc _) (by omega) (he q (by omega) (by omega))];exact ih (by omega) (by omega) (fun e h1 h2=>he e h1 (by omega))
 intro l
 induction l with
 |nil=>
  intro listed a w E p hall hc hp hpe hI hF b cs;refine⟨E,w,a,.one step_region_end,?_,?_,Evol.refl _ _ _ _⟩
  ·rw[hSS p n hp (Bo _) fun e h1 h2=>by
    cases he:eff e with
    |false=>rfl
    |true=>have:=(hpe e h2 he).1 (hall e h2);omega]
   exact hI
  ·rw[hFF _ (Bo _)];have:Zi ops ix x listed F n=Zi ops ix x (fun _=>true) F n:=by
    have:∀m,m≤n→Zi ops ix x listed F m=Zi ops ix x (fun _=>true) F m:=by
     intro m
     induction m with
     |zero=>intro _;rfl
     |succ m ih=>intro hn;simp only[Zi,hall m (by omega),ih (by omega)]
    exact this _ (Bo _)
   rw[←this];exact hF
 |cons i l ih=>
  intro listed a w E p hord hc hp hpe hI hF b cs;obtain⟨hin,hilf,rbit,hrest⟩:=hord;obtain⟨o,ho⟩:=dk.at_ i hin;simp only[Nz];have notbit:∀e,e<n→listed e=true→bp i e=false:=fun e he hl=>by
   cases hb:bp i e with
   |false=>rfl
   |true=>have:=hc e i he hin hl hb;rw[hilf]at this;cases this
  have hagree:∀t,t∈o.looksAt ops→lk (Zi ops ix x listed F n) t=lk (FF i) t:=fun t ht=>by
   rw[hFF i (by omega)];by_cases hw:∃(j:Nat) (oj:Oper),j<n∧ops[ix j]?=some oj∧oj.dst=some t
   ·obtain⟨j,oj,hjn,hj,hd⟩:=hw;have hu:∀(j':Nat) (o':Oper),j'<n→j≠j'→ops[ix j']?=some o'→o'.dst≠some t:=fun j' o' hjn' hne ho'=>dk.dsts j j' oj o' hjn hjn' hj ho' hne t hd;rcases dk.looks i j o oj hin hjn ho hj t hd ht with⟨h1,h2⟩|⟨h1,h2⟩
    ·rw[Si (listed:=listed) hj hd (rbit j hjn h2) n hjn (fun j' o' hj'=>hu j' o' hj'),Si (listed:=fun _=>true) hj hd rfl i h1 (fun j' o' hj'=>hu j' o' (by omega))]
    ·have hjl:listed j=false:=by
      cases hl:listed j with
      |false=>rfl
      |true=>have:=notbit j hjn hl;rw[h2]at this;cases this
     rw[Oz n fun j' hj' hl' o' ho' hc'=>by
      by_cases hjj:j=j'
      ·subst hjj;rw[hjl]at hl';cases hl'
      ·exact hu j' o' hj' hjj ho' hc',
      Oz i fun j' hj' _ o' ho' hc'=>by
       by_cases hjj:j=j'
       ·omega
       ·exact hu j' o' (by omega) hjj ho' hc']
   ·rw[Oz n fun j' hj' _ o' ho' hc'=>hw ⟨j',o',hj',ho',hc'⟩,Oz i fun j' hj' _ o' ho' hc'=>hw ⟨j',o',by omega,ho',hc'⟩]
  have hcl':=hc.put rbit;have hlk':∀t,lk (Zi ops ix x (fun j=>if i=j then true else listed j) F n) t=lk (putF o.dst (x i) (Zi ops ix x listed F n)) t:=fun t=>by
   rw[Hr];by_cases hd:o.dst=some t
   ·rw[if_pos hd];exact Si ho hd (by simp) n hin (fun j' o' hj' hne ho'=>dk.dsts i j' o o' hin hj' ho ho' hne t hd)
   ·rw[if_neg hd];have:∀m,lk (Zi ops ix x (fun j=>if i=j then true else listed j) F m) t=lk (Zi ops ix x listed F m) t:=by
     intro m
     induction m with
     |zero=>rfl
     |succ m ihn=>
      simp only[Zi];by_cases hn:i=m
      ·subst hn;simp only[if_true,hilf,ho];rw[Hr,if_neg hd,ihn]
      ·simp only[hn,if_false];split
       ·split
        ·rw[Hr,Hr,ihn]
        ·exact ihn
       ·exact ihn
    exact this _
  have next:∀(p':Nat),p'≤n→(∀e,e<n→eff e=true→((if i=e then true else listed e)=true↔e<p'))→Ndo X N ops (ix i) o (FF i) (x i) (SS p) (SS p') →
   ∃E' w' a',Steps X.P (lone (b.at a (.inRegion ops (ix i::l.map ix)::k)) cs w) (lone (b.at a' k) cs w') ∧
    Inv X E' (SS n) w'∧FR E' w' (FF n) a' N∧Evol E w E' w' E.boxes.length E.toks.length:=fun p' hp' hpe' hn=>by
   obtain⟨v,w1,⟨E1,h1,h2,h3⟩,h4⟩:=hn _ E w a hagree hI hF b k cs (l.map ix);rw[ho]at h4;have hd:=(D.step i (Cc _) hin o ho).2;have hF1:FR E1 w1 (Zi ops ix x (fun j=>if i=j then true else listed j) F n) (a.put o.dst v) N:=by
    have:=(hF.step h2).putF hd h3;exact⟨this.size,this.nod,fun q y hq=>this.rel q y (by rw[←hlk' q];exact hq)⟩
   obtain⟨E',w',a',k1,k2,k3,k4⟩:=ih _ _ w1 E1 p' hrest hcl' hp' hpe' h1 hF1 b cs;have hlen:=h2.len;exact⟨E',w',a',h4.trans k1,k2,k3,h2.trans (k4.weaken hlen.1 hlen.2)⟩
  cases he:eff i with
  |false=>
   refine next p hp (fun e hen hee=>?_) ?_
   ·by_cases hie:i=e
    ·subst hie;rw[he]at hee;cases hee
    ·rw[if_neg hie];exact hpe e hen hee
   ·exact D.will i (Cc _) hin he o ho p (Cc _) hp (fun e h1 h2 h3=>notbit e (by omega) ((hpe e (by omega) h3).2 h2))
  |true=>
   obtain⟨es,hn⟩:=D.eff1 i (Cc _) hin he o ho;have hpi:p≤i:=by
    rcases Gu i p with h|h
    ·have:=(hpe i hin he).2 h;rw[hilf]at this;cases this
    ·exact h
   have before:∀e,e<i→eff e=true→listed e=true:=fun e hei hee=>by
    obtain⟨oe,hoe⟩:=dk.at_ e (by omega);exact rbit e (by omega) (dk.effs e i hei hin (D.eff1 e (Cc _) (by omega) hee _ hoe).1 es)
   have hSp:SS i=SS p:=hSS p i hpi (by omega) (fun e h1 h2=>by
    cases hee:eff e with
    |false=>rfl
    |true=>have:=(hpe e (by omega) hee).1 (before e h2 hee);omega)
   refine next (i+1) (by omega) (fun e hen hee=>?_) (by rw[←hSp];exact hn)
   by_cases hie:i=e
   ·subst hie;simp
   ·rw[if_neg hie];constructor
    ·intro hl;rcases Gu e (i+1)with h|h
     ·exact h
     ·obtain⟨oe,hoe⟩:=dk.at_ e hen;have:=dk.effs i e (by omega) hen es (D.eff1 e (Cc _) hen hee _ hoe).1;have h2:=notbit e hen hl;rw[this]at h2;cases h2
    ·intro hlt;exact before e (by omega) hee
end
def AB(a b:Nat):List Nat→(Nat→Bool)→Prop
 |[],_=>True
 |i::l,listed=>(i=b→listed a=true)∧AB a b l (fun j=>if i=j then true else listed j)
theorem Agg{a b:Nat}:∀(l:List Nat)(listed:Nat→Bool),listed a=true→AB a b l listed
 |[],_,_=>trivial
 |i::l,listed,h=>⟨fun _=>h,Agg l _ (by simp[h])⟩
theorem Are{a b:Nat}(hne:a≠b):∀(l:List Nat)(listed:Nat→Bool),AB a b l listed∨AB b a l listed
 |[],_=>.inl trivial
 |i::l,listed=>by
  by_cases ha:i=a
  ·subst ha;exact .inl ⟨fun h=>absurd h hne,Agg l _ (by simp)⟩
  ·by_cases hb:i=b
   ·subst hb;exact .inr ⟨fun h=>absurd h.symm hne,Agg l _ (by simp)⟩
   ·rcases Are hne l (fun j=>if i=j then true else listed j)with h|h
    ·exact .inl ⟨fun h'=>absurd h' hb,h⟩
    ·exact .inr ⟨fun h'=>absurd h' ha,h⟩
theorem Aza{bp:Nat→Nat→Bool}{n a b c:Nat}(hb:b<n)(hbc:bp b c=true):∀(l:List Nat)(listed:Nat→Bool),OrdP bp n l listed→AB a b l listed→(listed b=true→listed a=true)→AB a c l listed
 |[],_,_,_,_=>trivial
 |i::l,listed,⟨_,_,g3,g4⟩,⟨h1,h2⟩,h3=>⟨fun hi=>h3 (g3 b hb (by rw[hi];exact hbc)),Aza hb hbc l _ g4 h2 (fun hl=>by
   by_cases hib:i=b
   ·by_cases hia:i=a
    ·simp[hia]
    ·simp[hia,h1 hib]
   ·simp only[hib,if_false]at hl;by_cases hia:i=a
    ·simp[hia]
    ·simp[hia,h3 hl])⟩
theorem OrdP.congr{bp:Nat→Nat→Bool}{n:Nat}:∀(l:List Nat){f g:Nat→Bool},(∀p,p<n→f p=g p)→OrdP bp n l f→OrdP bp n l g
 |[],f,g,h,ho=>fun j hj=>by rw[←h j hj];exact ho j hj
 |i::l,f,g,h,⟨g1,g2,g3,g4⟩=>⟨g1,by rw[←h i g1];exact g2,fun e he hb=>by rw[←h e he];exact g3 e he hb,OrdP.congr l (fun p hp=>by
   by_cases hi:i=p
   ·simp[hi]
   ·simp[hi,h p hp]) g4⟩
theorem OrdP.map{bp:Nat→Nat→Bool}{n:Nat}{σ ix:Nat→Nat}(h1:∀i,i<n→σ i<n∧ix (σ i)=i)(h2:∀p,p<n→ix p<n∧σ (ix p)=p){asm:List (Nat×Nat)}:∀(l:List Nat)(listed:Nat→Bool),OrdP bp n l listed →
 (∀ab,ab∈asm→AB ab.1 ab.2 l listed)→OrdP (fun q p=>bp (ix q) (ix p)||asm.contains (ix q,ix p)) n (l.map σ) (fun p=>listed (ix p))∧(l.map σ).map ix=l
 |[],listed,h,_=>⟨fun j hj=>h _ (h2 j hj).1,rfl⟩
 |i::l,listed,h,ha=>by
  obtain⟨g1,g2,g3,g4⟩:=h;obtain⟨k1,k2⟩:=h1 i g1;have ih:=OrdP.map h1 h2 l _ g4 (fun ab hab=>(ha ab hab).2);refine⟨⟨k1,by simp only[k2];exact g2,fun e he hb=>?_,OrdP.congr _ (fun p hp=>?_) ih.1⟩,by simp only[Nz,k2,ih.2]⟩
  ·simp only[k2,O9]at hb;rcases hb with hb|hb
   ·exact g3 _ (h2 e he).1 hb
   ·have hm:=List.contains_iff_mem.1 hb;exact(ha _ hm).1 rfl
  ·by_cases hi:i=ix p
   ·have:σ i=p:=by rw[hi];exact(h2 p hp).2
    simp only[this,if_true,if_pos hi]
   ·have hs:¬σ i=p:=fun h=>hi (by rw[←h];exact k2.symm);simp[hi,hs]
theorem Axc{ops:Array Oper}{bs:List Nat}(hb:Zu ops bs=true):∀(fuel t:Nat)(listed:Array Bool),listed.size=ops.size→Closed ops listed→Abp listed ops.size≤fuel →
 OrdP (bitOf bs) ops.size (Region.linearise.go .any ops fuel t listed []) (fun j=>listed.getD j false):=by
 have fin:∀(listed:Array Bool),(∀j,j<ops.size→listed.getD j false=true)→OrdP (bitOf bs) ops.size [] (fun j=>listed.getD j false):=fun _ h=>h;intro fuel
 induction fuel with
 |zero=>
  intro t listed hs hc hcnt;refine fin listed fun j hj=>?_;cases hl:listed.getD j false with
  |true=>rfl
  |false=>
   have:j∈(List.range ops.size).filter fun j=>!listed.getD j false:=zzq58.2 ⟨zzq55.2 hj,by simp only[hl];rfl⟩;unfold Abp at hcnt;have:=List.length_pos_of_mem this;omega
 |succ fuel ih=>
  intro t listed hs hc hcnt;simp only[Region.linearise.go];change OrdP (bitOf bs) ops.size (match(Region.ready .any ops listed)[t%(Region.ready .any ops listed).length]? with
   |some i=>Region.linearise.go .any ops fuel (t/(Region.ready .any ops listed).length) (listed.setIfInBounds i true) [i]
   |none=>[].reverse) _
  cases hi:(Region.ready .any ops listed)[t%(Region.ready .any ops listed).length]? with
  |none=>
   have hnil:Region.ready .any ops listed=[]:=by
    cases hr:Region.ready .any ops listed with
    |nil=>rfl
    |cons y ys=>
     rw[hr]at hi;have hlt:t%(y::ys).length<(y::ys).length:=Ws _ (by simp);simp at hi;simp at hlt;omega
   exact fin listed (W6 hb hs hnil)
  |some i=>
   obtain⟨hin,hil,o,ho,hafter⟩:=Aaf (Bh hi);have hilf:listed.getD i false=false:=by
    have:i<listed.size:=by omega
    simp[Array.getD,this]at hil⊢;exact hil
   simp only[];rw[linearise_go_acc,List.reverse_singleton,Akh];have rbit:∀e,e<ops.size→bitOf bs e i=true→listed.getD e false=true:=fun e he hbit=>by
    have hk:=zzq50.1 hb i (zzq55.2 hin);rw[ho]at hk;simp only[Da,zzq56]at hk;unfold bitOf at hbit;rw[hk.1]at hbit;rcases Qd bs e _ 0 hbit with h|⟨e',he',hbe,h⟩
    ·simp at h
    ·have hl':=hafter e' he' hbe;rcases h with rfl|h
     ·exact hl'
     ·have:e'.on<ops.size:=by
       have h2:=zzq50.1 hk.2 e' he';simp only[hbe,Bool.not_true,U6]at h2;have:e'.on<i:=by simpa[Fs]using h2
       omega
      exact hc.bit hb e'.on e this hl' h
   have hcl':Closed ops (listed.setIfInBounds i true):=fun j oj hj hoj e he hb=>by
    rw[I3 (by omega)]at hj⊢;by_cases hie:i=e.on
    ·rw[if_pos hie]
    ·rw[if_neg hie];by_cases hij:i=j
     ·subst hij;rw[ho]at hoj;cases hoj;exact hafter e he hb
     ·rw[if_neg hij]at hj;exact hc j oj hj hoj e he hb
   have hcu:=Acv hin hs hilf;refine⟨hin,hilf,rbit,OrdP.congr _ (fun p _=>?_) (ih _ (listed.setIfInBounds i true) (by simp[hs]) hcl' (by omega))⟩;rw[I3 (by omega)]
def bpP(bs:List Nat)(π:List Nat)(asm:List (Nat×Nat))(q p:Nat):Bool:=bitOf bs (π.getD q 0) (π.getD p 0)||asm.contains (π.getD q 0,π.getD p 0)
def okP(ops:Array Oper)(bs π:List Nat)(asm:List (Nat×Nat))(em:Nat):Bool:=
 ((List.range ops.size).all fun i=>Nat.blt (π.idxOf i) ops.size&&π.getD (π.idxOf i) 0==i) &&
 ((List.range ops.size).all fun p=>Nat.blt (π.getD p 0) ops.size&&π.idxOf (π.getD p 0)==p) &&
 (List.range ops.size).all fun i=>match ops[π.getD i 0]? with
   |none=>false
   |some oi=>(List.range ops.size).all fun j=>match ops[π.getD j 0]? with
    |none=>false
    |some oj=>
     (match oj.dst with
       |some t=>!(oi.looksAt ops).contains t||(Nat.blt j i&&bpP bs π asm j i)||(Nat.blt i j&&bpP bs π asm i j)
       |none=>true) &&
     (i==j||(match oi.dst with
       |some t=>oj.dst != some t
       |none=>true)) &&
     (Nat.ble j i||!(em.testBit (π.getD i 0)&&em.testBit (π.getD j 0))||bpP bs π asm i j)
theorem Ati{ops:Array Oper}{bs π:List Nat}{asm:List (Nat×Nat)}{em:Nat}(h:okP ops bs π asm em=true) :
 (∀i,i<ops.size→π.idxOf i<ops.size∧π.getD (π.idxOf i) 0=i)∧(∀p,p<ops.size→π.getD p 0<ops.size∧π.idxOf (π.getD p 0)=p) ∧
 DrawOkP ops (π.getD · 0) ops.size (bpP bs π asm) (fun j=>em.testBit (π.getD j 0)):=by
 unfold okP at h;rw[Da,Da]at h;obtain⟨⟨h1,h2⟩,h3⟩:=h;have key:∀(i j:Nat) (oi oj:Oper),i<ops.size→j<ops.size→ops[π.getD i 0]?=some oi→ops[π.getD j 0]?=some oj →
  ((match oj.dst with
     |some t=>!(oi.looksAt ops).contains t||(Nat.blt j i&&bpP bs π asm j i)||(Nat.blt i j&&bpP bs π asm i j)
     |none=>true) &&
    (i==j||(match oi.dst with
      |some t=>oj.dst != some t
      |none=>true)) &&
    (Nat.ble j i||!(em.testBit (π.getD i 0)&&em.testBit (π.getD j 0))||bpP bs π asm i j))=true:=fun i j oi oj li lj hi hj=>by
  have a1:=zzq50.1 h3 i (zzq55.2 li);rw[hi]at a1;have a2:=zzq50.1 a1 j (zzq55.2 lj);rw[hj]at a2;exact a2
 have at_:∀j,j<ops.size→∃o,ops[π.getD j 0]?=some o:=fun j hj=>by
  have a1:=zzq50.1 h3 j (zzq55.2 hj);cases ho:ops[π.getD j 0]? with
  |none=>rw[ho]at a1;cases a1
  |some o=>exact⟨o,rfl⟩
 refine⟨fun i hi=>?_,fun p hp=>?_,at_,fun i j oi oj li lj hi hj t ht hm=>?_,fun i j oi oj li lj hi hj hne t ht hc=>?_,fun i j hij lj e1 e2=>?_⟩
 ·have:=zzq50.1 h1 i (zzq55.2 hi);simpa[Fs]using this
 ·have:=zzq50.1 h2 p (zzq55.2 hp);simpa[Fs]using this
 ·have:=key i j oi oj li lj hi hj;simp only[Da,ht,O9,Mh,Fs]at this;rcases this.1.1 with(h|h)|h
  ·have hc:(oi.looksAt ops).contains t=true:=List.contains_iff_mem.2 hm;rw[hc]at h;cases h
  ·exact .inl h
  ·exact .inr h
 ·have:=key i j oi oj li lj hi hj;simp only[Da,ht,O9]at this;rcases this.1.2 with h'|h'
  ·simp at h';exact hne h'
  ·rw[hc]at h';simp at h'
 ·obtain⟨oi,hi⟩:=at_ i (by omega);obtain⟨oj,hj⟩:=at_ j lj;have:=key i j oi oj (by omega) lj hi hj;simp only[Da,O9,e1,e2]at this;rcases this.2 with(h'|h')|h'
  ·have:=I7 h';omega
  ·simp at h'
  ·exact h'
section
variable {X:Cx}{B:Bx}{E:Env}{S:St}{w:World}{F:C3}{a:Act}{N:Nat}{R:AE→St→Prop}
def Way(X:Cx)(N:Nat)(ops:Array Oper)(F:C3)(S:St)(K:C3→St→Prop)(l:List Nat):Prop:=
 ∃(π:List Nat) (asm:List (Nat×Nat)) (em:Nat) (os:List Oper),(∀ab,ab∈asm→AB ab.1 ab.2 l fun _=>false)∧okP ops (Ip ops.toList []) π asm em=true∧os.length=ops.size ∧
  (π.map fun i=>ops[i]?)=os.map some∧DrvP X N ops (π.getD · 0) (bpP (Ip ops.toList []) π asm) (fun j=>em.testBit (π.getD j 0)) os 0 F S [S] [] K
theorem Ak3{ops:Array Oper}{K:C3→St→Prop}{l:List Nat}(π:List Nat)(asm:List (Nat×Nat))(em:Nat){os:List Oper}(ha:∀ab,ab∈asm→AB ab.1 ab.2 l fun _=>false)(hos:(π.filterMap fun i=>ops[i]?)=os)
 (hd:DrvP X N ops (π.getD · 0) (bpP (Ip ops.toList []) π asm) (fun j=>em.testBit (π.getD j 0)) os 0 F S [S] [] K)(hok:okP ops (Ip ops.toList []) π asm em=true:=by kernel_rfl)(hl:os.length=ops.size:=by rfl)(hm:(π.map fun i=>ops[i]?)=os.map some:=by rfl):Way X N ops F S K l:=
 ⟨π,asm,em,os,ha,hok,hl,hm,hd⟩
theorem Avq{id:Nat}{ops:Array Oper}{k:List Item}(h:∀l:List Nat,OrdP (bitOf (Ip ops.toList [])) ops.size l (fun _=>false)→Way X B.fn.ntmps ops F S (fun F' S'=>AK X B k F' S' R) l)(hb:Zu ops (Ip ops.toList [])=true:=by kernel_rfl):AK X B (.code (.region id ops true)::k) F S R:=by
 intro E w a b cs hI hF hn hm hbf;have hord:=Axc hb ops.size (w.tape w.drawn (.order b.fn id)) (Array.replicate ops.size false) (by simp) (fun j o hj=>by simp[Array.getD]at hj) (by
  unfold Abp;exact Nt (Ze _ _) (by simp))
 generalize hl:Region.linearise.go .any ops ops.size (w.tape w.drawn (.order b.fn id)) (Array.replicate ops.size false) []=l at hord;have hord':=OrdP.congr (g:=fun _=>false) l (fun p _=>by simp[Array.getD]) hord;obtain⟨π,asm,em,os,ha,hok,hos,hmap,hd⟩:=h l hord';obtain⟨k1,k2,dk⟩:=Ati hok;obtain⟨o1,o2⟩:=OrdP.map (σ:=π.idxOf) (ix:=(π.getD · 0)) k1 k2 l _ hord' ha;have hget:∀j,j<os.length→ops[π.getD (0+j) 0]?=os[j]?:=fun j hj=>by
  have h1:=congrArg (fun l=>l[j]?) hmap;simp only[Gm]at h1;rw[Jt];cases hp:π[j]? with
  |none=>rw[hp]at h1;simp[Wu hj]at h1
  |some i=>
   rw[hp]at h1;simp only[Km]at h1;have:π.getD j 0=i:=by simp[List.getD,hp]
   rw[this];cases ho:os[j]? with
   |none=>rw[Wu hj]at ho;cases ho
   |some o=>rw[ho]at h1;simpa using h1
 obtain⟨eff,x,FF,SS,h1,h2,h3,D⟩:=U9 os 0 F S [S] [] _ hd hget (by simp) (fun q hq=>by cases hq);have hlen:0+os.length=ops.size:=by omega
 rw[hlen]at h3 D;have hI1:Inv X E (SS 0) { w with drawn:=w.drawn+1 }:=by rw[h2];exact hI.keep (Gx E w _ _) (fun _ _=>rfl)
 have hF1:FR E { w with drawn:=w.drawn+1 } (Zi ops (π.getD · 0) x (fun _=>false) F ops.size) a B.fn.ntmps:=by
  have hF':=hF.step (Gx E w _ _);have:Zi ops (π.getD · 0) x (fun _=>false) F ops.size=F:=by
   have:∀n,Zi ops (π.getD · 0) x (fun _=>false) F n=F:=by
    intro n
    induction n with
    |zero=>rfl
    |succ n ih=>simp only[Zi];exact ih
   exact this _
  rw[this];exact hF'
 obtain⟨E',w',a',g1,g2,g3,g4⟩:=Asn dk D h1 k (l.map π.idxOf) (fun _=>false) a { w with drawn:=w.drawn+1 } E 0 o1
  (fun j e _ _ hj=>by cases hj) (Cc _) (fun e he hee=>by simp) hI1 hF1 b cs
 rw[o2]at g1;have hst:Steps X.P (lone (b.at a (.code (.region id ops true)::k)) cs w) (lone (b.at a' k) cs w'):=by
  refine .head step_region_draw ?_;simp only[Region.schedule,X.mixed,Bool.true_or,if_true];have hl':Region.linearise .any ops (w.tape w.drawn (.order b.fn id))=l:=hl;rw[hl'];exact g1
 have g4':=(Gx E w _ _).trans g4;have hll:=g4'.len;have nt:E.toks.length=S.toks.length:=by rw[←hI.nt];simp
 have nt':E'.toks.length=(SS ops.size).toks.length:=by rw[←g2.nt];simp
 exact Fin.from hst (g4'.weaken (by rw[hI.nb];exact hn) (by omega)) (h3 E' w' a' b cs g2 g3 (by rw[←g2.nb];have:=hI.nb;omega) (by omega) hbf)
end
section
variable {X:Cx}{B:Bx}{S S':St}{F F':C3}{R:AE→St→Prop}{ops:Array Oper}{N:Nat}{ix:Nat→Nat}{bp:Nat→Nat→Bool}{em:Nat→Bool}{KK:C3→St→Prop}
theorem Qa:∀(n:Nat)(os:List Oper)(i:Nat)(F:C3)(pend:List Jx),(∀k,k<os.length→ops[ix (i+k)]?=os[k]?) →
 DrvP X N ops ix bp em (Lk X N ops S n os i F pend).1 (Lk X N ops S n os i F pend).2.1 (Lk X N ops S n os i F pend).2.2.1 S [S] (Lk X N ops S n os i F pend).2.2.2 KK→DrvP X N ops ix bp em os i F S [S] pend KK
 |0,os,i,F,p,_,h=>h
 |n+1,[],i,F,p,_,h=>h
 |n+1,o::os,i,F,p,hos,h=>by
  have ho:ops[ix i]?=some o:=by have:=hos 0 (by simp);simpa using this
  have hos':∀k,k<os.length→ops[ix (i+1+k)]?=os[k]?:=fun k hk=>by
   have:=hos (k+1) (by simp;omega);rw[show i+1+k=i+(k+1) by omega];simpa using this
  unfold Lk at h;split at h
  ·rename_i hw;split at h
   ·rename_i x hx;split at h
    ·rename_i F' hF;obtain⟨h1,rfl⟩:=Gg hF;split at h
     ·exact .inr (.inl ⟨x,h1,fun S' hS'=>by simp at hS';subst hS';exact Cn ho hw hx,Qa n os (i+1) _ _ hos' h⟩)
     ·rename_i hl;exact .inl ⟨x,h1,fun S'=>Cn ho hw (by rw[←R2 (S:=S) hl];exact hx),Qa n os (i+1) _ _ hos' h⟩
    ·exact h
   ·split at h
    ·rename_i x hx;split at h
     ·rename_i F' hF;obtain⟨h1,rfl⟩:=Gg hF;exact .inl ⟨x,h1,fun S'=>Ls ho hw (R1 hx S'.boxes S'.toks),Qa n os (i+1) _ _ hos' h⟩
     ·exact h
    ·exact h
  ·rename_i hw;split at h
   ·rename_i F' hF;obtain⟨h1,rfl⟩:=Gg hF;exact .inl ⟨_,h1,fun S'=>X4 ho hw,Qa n os (i+1) _ _ hos' h⟩
   ·exact h
  ·exact h
theorem Agm{os os':List Oper}{i i':Nat}{F':C3}{pend pend':List Jx}(n:Nat)(k:DrvP X N ops ix bp em os' i' F' S [S] pend' KK)(h:Lk X N ops S n os i F pend=(os',i',F',pend'):=by rfl)
 (hos:((List.range os.length).map fun k=>ops[ix (i+k)]?)=os.map some:=by rfl):DrvP X N ops ix bp em os i F S [S] pend KK:=
 Qa n os i F pend (fun k hk=>by
  have h1:=congrArg (fun l=>l[k]?) hos;simp only[Gm,Abl hk,Km,Wu hk]at h1;rw[Wu hk];exact Option.some.inj h1) (by rw[h];exact k)
theorem Np{os:List Oper}{i:Nat}{o:Oper}{x:AV}{Hs:List St}{pend:List Jx}(k:DrvP X N ops ix bp em os (i+1) F' S Hs pend KK)(ho:ops[ix i]?=some o:=by rfl)(hw:A6 ops F o=some true:=by rfl)(h:∀S',Ec X F S' o.op=some x:=by intro;rfl)(hF:Py N o.dst x F=some F':=by rfl) :
 DrvP X N ops ix bp em (o::os) i F S Hs pend KK:=by
 obtain⟨h1,rfl⟩:=Gg hF;exact .inl ⟨x,h1,fun S'=>Cn ho hw (h S'),k⟩
theorem Akr{os:List Oper}{i:Nat}{o:Oper}{x:AV}{Hs:List St}{pend:List Jx}(h:Ndo X N ops (ix i) o F x S S')(hr:∀p,p∈pend→Ndo X N ops (ix p.1) p.2.1 p.2.2.1 p.2.2.2 S' S')
 (k:DrvP X N ops ix bp em os (i+1) F' S' (S'::Hs) (pend.filter fun p=>!bp p.1 i) KK)(he:em i=true:=by rfl)(hF:Py N o.dst x F=some F':=by rfl):DrvP X N ops ix bp em (o::os) i F S Hs pend KK:=by
 obtain⟨h1,rfl⟩:=Gg hF;exact .inr (.inr ⟨x,S',_,he,h1,h,rfl,fun p hp=>hr p (zzq58.1 hp).1,k⟩)
theorem N2{os:List Oper}{i:Nat}{o:Oper}{x:AV}{Hs:List St}{pend:List Jx}(h:Ndo X N ops (ix i) o F x S S')
 (k:DrvP X N ops ix bp em os (i+1) F' S' (S'::Hs) [] KK)(he:em i=true:=by rfl)(hF:Py N o.dst x F=some F':=by rfl)(hp:pend.filter (fun p=>!bp p.1 i)=[]:=by kernel_rfl):DrvP X N ops ix bp em (o::os) i F S Hs pend KK:=by
 obtain⟨h1,rfl⟩:=Gg hF;exact .inr (.inr ⟨x,S',[],he,h1,h,hp,fun p hp'=>(by cases hp'),k⟩)
theorem Agn{i:Nat}{Hs:List St}{pend:List Jx}{k K:List Item}{S2:St}(id:Nat)(hk:AK X B K F' S2 R)(he:evT X B.fn.ntmps id 100 k F S=(K,F',S2):=by rfl):DrvP X N ops ix bp em [] i F S Hs pend fun F1 S1=>AK X B k F1 S1 R:=
 Ks id 100 he hk
inductive SubR (σ:List Nat)(F:C3):C3→Prop where
 |nil:SubR σ F []
 |cons {k:Nat} {x y:AV} {G:C3} (hx:lk F k=some x) (hr:RinC σ [] x y) (t:SubR σ F G):SubR σ F ((k,y)::G)
theorem SubR.get{σ:List Nat}{G:C3}(h:SubR σ F G):∀k y,lk G k=some y→∃x,lk F k=some x∧Ren true σ [] x y:=by
 induction h with
 |nil=>intro k y hy;simp[lk]at hy
 |cons hx hr t ih=>
  intro k y hy;rw[J1]at hy;split at hy
  ·rename_i hk;subst hk;cases hy;exact⟨_,hx,hr.s⟩
  ·exact ih k y hy
instance{n m c:Nat}{x:List AV} [h:OKL n m x]:OKR n m (List.replicate c x):=⟨fun r hr=>by rw[Abi hr];exact h.ok⟩
theorem Avn{f:FuncId}{fn:Func}{K:List Item}{G:C3}{bx bx2:List (List (List AV))}(σ:List Nat)(hk:AK X ⟨f,fn,0,0⟩ K G ⟨bx2,[]⟩ R)(hG:SubR σ F G)(hS:S=⟨bx,[]⟩)(hn:Kc σ=true)(hl:σ.length=bx.length)(hlt:(σ.all fun i=>Nat.blt i bx.length)=true)(hal:((List.range bx.length).all fun i=>σ.contains i)=true)
 {bx3:List (List (List AV))}(hsb:(σ.map fun i=>bx.getD i [])=bx3:=by rfl) [hb:RinB σ [] bx3 bx2]:AK X ⟨f,fn,0,0⟩ K F S R:=by
 subst hS;subst hsb;intro E w a b cs hI hF _ _ hbf;have nt0:E.toks=[]:=by have:=hI.nt;simpa using this
 have hσ:=Od hn;have hσl:∀i,i∈σ→i<bx.length:=fun i hi=>by have:=zzq50.1 hlt i hi;simpa[Fs]using this
 have hτl:∀t,t∈([]:List Nat)→t<E.toks.length:=fun t h=>by cases h
 have hI2:=(hI.sub (Sc:=⟨bx2,[]⟩) hσ List.nodup_nil hτl hb.s hσl rfl).dfE E.df;have hall:∀i,i<bx.length→i∈σ:=by
  intro i hi;have:=zzq50.1 hal i (zzq55.2 hi);exact List.contains_iff_mem.1 this
 have hown:∀b,E.own b↔E.ownS σ [] b:=fun b=>by
  constructor
  ·rintro(⟨i,s,h⟩|⟨t,l,c,s,h⟩)
   ·have:=Aa h;rw[hI.nb]at this;exact .inl ⟨i,s,hall i this,h⟩
   ·rw[nt0]at h;simp at h
  ·exact O2
 have hfr:((E.sub σ []).dfs E.df).fr=E.fr:=by
  funext b o;apply propext;show (E.mt b o∧¬E.ownS σ [] b)↔E.fr b o;constructor
  ·rintro⟨h,hn⟩;rcases Aag hI h with h'|h'
   ·exact absurd ((hown b).1 h') hn
   ·exact h'
  ·exact fun h=>⟨.inl h,fun ho=>(hI.frlt b o h).1 ((hown b).2 ho)⟩
 have ev:Evol E w ((E.sub σ []).dfs E.df) w 0 0:=
  ⟨hfr,fun i hi=>absurd hi (Wp _),fun t ht=>absurd ht (Wp _),rfl,rfl,rfl,Bo _,fun _ _ _=>rfl,fun _ _ _ _ h=>h,fun b o _ h=>Sz hτl h,fun b _ h=>O2 ((Pr hτl).1 h),rfl,fun _ _ h=>h,fun t ht=>absurd ht (Wp _)⟩
 refine Fin.from (Steps.refl _ _) ev (hk _ w a b cs hI2 ⟨hF.size,hF.nod,fun k y hy=>?_⟩ (Cc _) (Cc _) hbf);obtain⟨x,hx,hr⟩:=hG.get k y hy;obtain⟨v,hv,hrel⟩:=hF.rel k x hx;exact⟨v,hv,(hr.fwd (Eb:=(E.sub σ []).dfs E.df) (fun b o h=>Sz hτl h) (fun i j q h1 h2=>(I2 (E:=E) (σ:=σ) (τ:=[])).2 ⟨i,h1,h2⟩) (fun i j k h1 h2=>by simp at h1) hrel)⟩
end
end Go.V
namespace Go.V
open Go Go.Proofs Go.Proofs.Tryz
theorem Yb{n:Nd}(h:Fe n=true):Ew n=(0,[])∧Do n=true∧Do (A5 n)=true:=by
 unfold Fe at h;have h0:(Ew n).1=0:=by simpa using h
 unfold Ew at h0⊢;split at h0
 ·rename_i h1;rw[if_pos h1];split at h0
  ·simp at h0
  ·rename_i h2;rw[if_neg h2];split at h0
   ·simp at h0
   ·rename_i h3;rw[if_neg h3];split at h0
    ·simp at h0
    ·rename_i h4;split at h0
     ·simp at h0
     ·rename_i h5;split at h0
      ·simp at h0
      ·rename_i h6;split at h0
       ·rename_i h7;simp[h1,h5,h6,h7]
       ·simp at h0
 ·simp at h0
theorem Iv{n:Nd}(h:Fe n=true):FP n∧Ai n≤500∧wN n≤4500∧n.kids≠[]∧n.kids.length≤4500:=by
 obtain⟨fp,hc,_⟩:=Su (Yb h).2.1;have hw:=Aaw n (Zp fp);have hk:=G6 n;have hne:n.kids≠[]:=by cases fp;simp
 exact⟨fp,hc,by omega,hne,by omega⟩
def V8(f:Eg→Int)(p:Nat)(k:Nat):List Eg→List Nat
 |[]=>[]
 |e::l=>if f e=p then k::V8 f p (k+1) l else V8 f p (k+1) l
def L0(f:Eg→Int)(l:List Eg)(p:Nat):List Nat:=V8 f p 0 l
theorem Aff(f:Eg→Int)(p:Nat)(e:Eg):∀(l:List Eg)(k:Nat),V8 f p k (l++[e])=V8 f p k l++(if f e=p then[k+l.length]else[])
 |[],k=>by simp[V8]
 |x::l,k=>by
  simp only[Pu,V8,Nl];rw[Aff f p e l (k+1),show k+1+l.length=k+(l.length+1) by omega];split<;>simp
theorem Adb(f:Eg→Int)(p:Nat):∀(l:List Eg)(k:Nat),(V8 f p k l).length≤l.length
 |[],k=>by simp[V8]
 |x::l,k=>by
  simp only[V8,Nl];have:=Adb f p l (k+1);split<;>simp<;>omega
def Wm(m:Nat)(f:Eg→Int)(l:List Eg)(pts:Nat):List (List AV):=(List.range pts).map fun p=>[AV.sl (Uf (L0 f l p)) (.tok (m+p))]
def Ri(f:Eg→Int)(l:List Eg)(pts:Nat):List Nat:=(List.range pts).map fun p=>(L0 f l p).length
theorem Ta(m:Nat)(f:Eg→Int)(l:List Eg)(pts:Nat):(Wm m f l pts).length=pts:=by simp[Wm]
theorem Jk(f:Eg→Int)(l:List Eg)(pts:Nat):(Ri f l pts).length=pts:=by simp[Ri]
theorem Hf(m:Nat)(f:Eg→Int)(l:List Eg){pts j:Nat}(h:j<pts):(Wm m f l pts)[j]?=some [AV.sl (Uf (L0 f l j)) (.tok (m+j))]:=by simp[Wm,h]
theorem Y6(f:Eg→Int)(l:List Eg){pts j:Nat}(h:j<pts):(Ri f l pts)[j]?=some (L0 f l j).length:=by simp[Ri,h]
theorem Yr(f:Eg→Int){l:List Eg}{i:Nat}{e:Eg}(h:l[i]?=some e)(p:Nat):L0 f (l.take (i+1)) p=L0 f (l.take i) p++(if f e=p then[i]else[]):=by
 have hi:=Aa h;unfold L0;rw[G7,h];simp only[Ad2];rw[Aff,Jt,Ti,Nat.min_eq_left (by omega)]
theorem Ao1(m:Nat)(f:Eg→Int){l:List Eg}{i j pts:Nat}{e:Eg}(h:l[i]?=some e)(hj:f e=j):(Wm m f (l.take i) pts).set j [AV.sl (Uf (L0 f (l.take i) j++[i])) (.tok (m+j))]=Wm m f (l.take (i+1)) pts:=by
 apply Abo;intro k;rw[U4,Ta];by_cases hk:j=k
 ·subst hk;rw[if_pos rfl];by_cases hp:j<pts
  ·rw[if_pos hp,Hf _ _ _ hp,Yr f h,if_pos hj]
  ·rw[if_neg hp,U3 (by rw[Ta];omega)]
 ·rw[if_neg hk];by_cases hp:k<pts
  ·rw[Hf _ _ _ hp,Hf _ _ _ hp,Yr f h,if_neg (by rw[hj];omega),G4]
  ·rw[U3 (by rw[Ta];omega),U3 (by rw[Ta];omega)]
theorem Ao0(f:Eg→Int){l:List Eg}{i j pts:Nat}{e:Eg}(h:l[i]?=some e)(hj:f e=j):(Ri f (l.take i) pts).set j ((L0 f (l.take i) j).length+1)=Ri f (l.take (i+1)) pts:=by
 apply Abo;intro k;rw[U4,Jk];by_cases hk:j=k
 ·subst hk;rw[if_pos rfl];by_cases hp:j<pts
  ·rw[if_pos hp,Y6 _ _ hp,Yr f h,if_pos hj];simp
  ·rw[if_neg hp,U3 (by rw[Jk];omega)]
 ·rw[if_neg hk];by_cases hp:k<pts
  ·rw[Y6 _ _ hp,Y6 _ _ hp,Yr f h,if_neg (by rw[hj];omega),G4]
  ·rw[U3 (by rw[Jk];omega),U3 (by rw[Jk];omega)]
theorem Au5{n M m pts:Nat}(f:Eg→Int)(l:List Eg)(h:m+pts≤M):He n M (Wm m f l pts):=fun r hr x hx=>by
 obtain⟨p,hp,rfl⟩:=zzq68.1 hr;simp at hx;subst hx;have:=zzq55.1 hp;exact .sl _ _ ((inferInstance:OKR n M (Uf (L0 f l p))).ok) (fun t ht=>by cases ht;omega)
def V9(f:Eg→Int)(l:List Eg)(pts:Nat):List (List AV):=(List.range pts).map fun p=>[.sl (Uf (L0 f l p)) .no]
def Mf(n:Nd):List AV:=
 vi (D4 (A9 n)).pts::.sl (Fq (Lv (A9 n))) .no::.sl (Dj (Ax n 31)) .no::.sl (Dj (Ax n 32)) .no::.sl (Ei (D9 n)) .no ::
  .sl (V9 Eg.f (Lv (A9 n)) (D4 (A9 n)).pts) .no::.sl (V9 Eg.t (Lv (A9 n)) (D4 (A9 n)).pts) .no::Af (A5 n)
theorem Atb{S:St}{m b pts:Nat}(f:Eg→Int)(l:List Eg)(hS:S.boxes[b]?=some (Wm m f l pts))(hp:pts≤O0):Fz S 0 0 (.bsl b pts) (.sl (V9 f l pts) .no):=by
 refine .bsl b pts (Wm m f l pts) (V9 f l pts) (Cc _) hS (by rw[Ta];exact Bo _) hp (by simp[V9]) (fun i r r' h1 h2=>?_) (fun i j r r' x y h1 h2 h3 h4=>?_)
 ·have hi:=Aa h1;rw[Ta]at hi;rw[Hf _ _ _ hi]at h1;simp only[V9,Gm,Abl hi,Km]at h2;cases h1;cases h2;rfl
 ·have hi:=Aa h1;rw[Ta]at hi;rw[Hf _ _ _ hi]at h1;simp only[V9,Gm,Abl hi,Km]at h2;cases h1;cases h2;cases j with
  |zero=>simp at h3 h4;subst h3;subst h4;exact Azc (FzR.same ((inferInstance:OKR 0 0 (Uf (L0 f l i))).ok))
  |succ j=>simp at h3
set_option maxHeartbeats 2000000 in
theorem Ah3(n:Nd)(hn:Ai n≤1000000000)(hnum:PrI n) :
 Pure X 52 [nd n] (if Fe n=true then .tup [.cptr (Mf n),vb true]else .tup [.val (.pointer none),vb false]):=by
 have hfl:R5 X.P 150=some [0,1]:=by kernel_rfl
 refine Pure.run func52 ?_;refine Al (Axz n hn hnum) ?_;refine Bm (Vb (r:=!(((Ew n).1==0)&&(((Ew n).2==[])&&true))) rfl rfl rfl rfl rfl hfl rfl (.inr ⟨rfl,rfl⟩)) ?_;by_cases hr:Fe n=true
 ·obtain⟨hC,h1,h2⟩:=Yb hr;obtain⟨fp,hc,hw,hne,hkl⟩:=Iv hr;rw[if_pos hr];have hpv:Ur n=A5 n:=by unfold Ur;rw[hC];rfl
  rw[hC,hpv];refine Ah ?_;obtain⟨ds,hpl,_,hps,hwl⟩:=Abt fp;have hpw:=(Po n).1;have hkp:=G6 (A5 n);have hgr:Pure X 105 [nd (A5 n)] (.agg [vi (D4 (A9 n)).pts,.sl (Fq (Lv (A9 n))) .no]):=Ap0 (A5 n) (by rw[hpl];simp) hps (show wL (A9 n)≤_ by omega) (by omega);refine D8 1024 ?_;refine Ci hgr ?_;refine Ci (Afo n 31 hne (by omega)) ?_;refine Ci (Afo n 32 hne (by omega)) ?_;refine Ci (Aqr n hne (by omega)) ?_;refine Ch (Ls rfl rfl rfl) ?_;refine Ar ?_;refine B6 ?_;have hps2:=Mn hps Cg ⟨1,0,[],[],[],0⟩ (by decide);have hpts:(D4 (A9 n)).pts≤2000000∧(Lv (A9 n)).length≤2000000∧∀e,e∈Lv (A9 n)→(0≤e.f∧e.f<(D4 (A9 n)).pts)∧0≤e.t∧e.t<(D4 (A9 n)).pts:=by
   have hl:=Ly 6 Cg hps2.pt;have hA:=hps2.trans hl (Bo _);obtain⟨es,e1,e2,e3⟩:=hA.es;have hpp:=hA.pts;simp only[bG]at e2 hpp;have hes:(D4 (A9 n)).es=es:=by unfold D4;rw[e1];rfl
   have hpt:(D4 (A9 n)).pt<(D4 (A9 n)).pts:=hA.pt;refine⟨by show _≤_;unfold D4;have:(1:Nat)=(⟨1,0,[],[],[],0⟩:Gr).pts:=rfl;omega,by unfold Lv;rw[hes,U7];omega,fun e he=>?_⟩;unfold Lv at he;rw[hes]at he;obtain⟨e0,h0,rfl⟩:=zzq68.1 he;obtain⟨q1,q2⟩:=e3 e0 h0;have q1':0≤e0.f∧e0.f<(D4 (A9 n)).pts:=q1;have q2':e0.t=-1∨(0≤e0.t∧e0.t<(D4 (A9 n)).pts):=q2;unfold Dy;split
   ·exact⟨q1',by simp;omega⟩
   ·exact⟨q1',by omega⟩
  obtain⟨hp1,hp2,hp3⟩:=hpts;unfold Mf;generalize Lv (A9 n)=es at *;generalize (D4 (A9 n)).pts=pts at *
  let prow (x y:AV):List AV:=vi pts::.sl (Fq es) .no::.sl (Dj (Ax n 31)) .no::.sl (Dj (Ax n 32)) .no::.sl (Ei (D9 n)) .no::x::y::Af (A5 n)
  let bxs (x y:AV):List (List (List AV)):=[[Af n],[Af (A5 n)],[[vi 0,str []]],[prow x y],List.replicate pts [.sl [] .tight],List.replicate pts [.sl [] .tight]]
  have L6:AK X ⟨52,f52,0,0⟩ (Lj false 6 f52) [(6,.ptr 3 0 0)] ⟨bxs (.bsl 4 pts) (.bsl 5 pts),[]⟩
   (fun e S=>e=.ret (.tup [.cptr (vi pts::.sl (Fq es) .no::.sl (Dj (Ax n 31)) .no::.sl (Dj (Ax n 32)) .no::.sl (Ei (D9 n)) .no::.sl (V9 Eg.f es pts) .no::.sl (V9 Eg.t es pts) .no::Af (A5 n)),vb true])∧S=⟨[],[]⟩):=by
   refine D3 ?_;refine Ace (bx:=[[Af n],[Af (A5 n)],[[vi 0,str []]],[prow (.bsl 4 pts) (.bsl 5 pts)],Wm 0 Eg.f [] pts,List.replicate pts [.sl [] .tight]]) (tk:=List.replicate pts 0) 4 pts 0 rfl rfl rfl rfl ?_;refine Ace (bx:=[[Af n],[Af (A5 n)],[[vi 0,str []]],[prow (.bsl 4 pts) (.bsl 5 pts)],Wm 0 Eg.f [] pts,Wm pts Eg.t [] pts]) (tk:=List.replicate pts 0++List.replicate pts 0) 5 pts pts rfl (by simp) rfl rfl ?_;refine Ba ⟨[[Af n],[Af (A5 n)],[[vi 0,str []]],[prow (.bsl 4 pts) (.bsl 5 pts)],Wm 0 Eg.f (es.take 0) pts,Wm pts Eg.t (es.take 0) pts],Ri Eg.f (es.take 0) pts++Ri Eg.t (es.take 0) pts⟩ ?_ (by
    have:∀f:Eg→Int,Ri f (es.take 0) pts=List.replicate pts 0:=fun f=>List.eq_replicate_iff.2 ⟨Jk f _ pts,fun b hb=>by obtain⟨p,_,rfl⟩:=zzq68.1 hb;rfl⟩;rw[this,this];rfl)
   refine Bj 100 rfl ?_;refine Av (ι:=Nat) 6 (pts+pts) (fun i=>i≤es.length) (fun i=>[(52,vi i),(51,vi es.length),(50,.sl (Fq es) .no),(6,.ptr 3 0 0)])
    (fun i=>⟨[[Af n],[Af (A5 n)],[[vi 0,str []]],[prow (.bsl 4 pts) (.bsl 5 pts)],Wm 0 Eg.f (es.take i) pts,Wm pts Eg.t (es.take i) pts],Ri Eg.f (es.take i) pts++Ri Eg.t (es.take i) pts⟩) (fun i=>es.length-i) ?_ 0
    (Cc _) ⟨rfl,by rw[←K9 es];rfl,rfl,rfl,trivial⟩ ?_ rfl (by simp) rfl ?_ (fun _=>inferInstance) (fun i=>⟨?_⟩)
   ·intro i hi IH;refine Dh (fun h=>?_) (fun h=>?_)
    ·have hlt:i<es.length:=by have:=A7 h;omega
     obtain⟨⟨ef,et,ek,ey,en⟩,he⟩:=Ab es hlt;obtain⟨⟨q1,q2⟩,q3,q4⟩:=hp3 _ (Bh he);simp only at q1 q2 q3 q4;obtain⟨j,rfl⟩:=Int.eq_ofNat_of_zero_le q1;obtain⟨j',rfl⟩:=Int.eq_ofNat_of_zero_le q3;have hj:j<pts:=by omega
     have hj':j'<pts:=by omega
     refine B7 i (by omega) (Gk he) ?_;refine D8 327680 ?_;refine A0 (F8 (j:=j) rfl rfl rfl rfl rfl rfl rfl rfl (by simpa[Fs]using hj) rfl (Hf 0 Eg.f _ hj) rfl) ?_;refine A0 (Qc rfl (Hf 0 Eg.f _ hj) rfl rfl rfl rfl rfl rfl rfl) ?_;refine Ft ?_;have hlf:=Adb Eg.f j (es.take i) 0;have hlt':=Adb Eg.t j' (es.take i) 0;have htk:(es.take i).length=i:=by simp;omega
     have hlF:(Ri Eg.f (es.take i) pts).length=pts:=Jk _ _ _;have hkF:(Ri Eg.f (es.take i) pts++Ri Eg.t (es.take i) pts)[0+j]?=some (L0 Eg.f (es.take i) j).length:=by
      rw[Jt,Cr (by omega)];exact Y6 _ _ hj
     refine Dx (S':=⟨[[Af n],[Af (A5 n)],[[vi 0,str []]],[prow (.bsl 4 pts) (.bsl 5 pts)],Wm 0 Eg.f (es.take i) pts,Wm pts Eg.t (es.take i) pts,[H4 ⟨j,j',ek,ey,en⟩]],Ri Eg.f (es.take (i+1)) pts++Ri Eg.t (es.take i) pts⟩)
      (Bv (res:=Uf (L0 Eg.f (es.take i) j++[i])) rfl rfl rfl rfl rfl rfl rfl rfl rfl rfl rfl rfl rfl hkF (N7 _) (Alp _) rfl rfl rfl ?_ (Ac7 _ i) ?_) ?_ ?_
     ·rw[N7];unfold L0;show _+1≤_;omega
     ·show (Ri Eg.f (es.take i) pts++Ri Eg.t (es.take i) pts).set (0+j) ((Uf (L0 Eg.f (es.take i) j)).length+1)=_;rw[Jt,N7,List.set_append_left _ _ (by omega),Ao0 Eg.f he rfl]
     ·refine An (Qc rfl (Hf 0 Eg.f _ hj) rfl rfl rfl rfl rfl rfl rfl) (An (F8 (j:=j) rfl rfl rfl rfl rfl rfl rfl rfl (by simpa[Fs]using hj) rfl (Hf 0 Eg.f _ hj) rfl) ?_);exact An (Cn rfl rfl rfl) (An (Cn rfl rfl rfl) (An (Cn rfl rfl rfl) (An (Cn rfl rfl rfl) G0)))
     refine P6 (An (F8 (j:=j) rfl rfl rfl rfl rfl rfl rfl rfl (by simpa[Fs]using hj) rfl (Hf 0 Eg.f _ hj) rfl) (An (F8 (j:=j) rfl rfl rfl rfl rfl rfl rfl rfl (by simpa[Fs]using hj) rfl (Hf 0 Eg.f _ hj) rfl) G0)) rfl ?_;refine Ch (A8 rfl rfl rfl rfl rfl rfl (Xu rfl (Hf 0 Eg.f _ hj) rfl rfl rfl)) ?_;refine B6 ?_;refine Ba ⟨[[Af n],[Af (A5 n)],[[vi 0,str []]],[prow (.bsl 4 pts) (.bsl 5 pts)],Wm 0 Eg.f (es.take (i+1)) pts,Wm pts Eg.t (es.take i) pts,[H4 ⟨j,j',ek,ey,en⟩]],Ri Eg.f (es.take (i+1)) pts++Ri Eg.t (es.take i) pts⟩ ?_ (by
      rw[←Ao1 0 Eg.f he rfl];rfl)
     refine D8 327680 ?_;refine A0 (F8 (j:=j') rfl rfl rfl rfl rfl rfl rfl rfl (by simpa[Fs]using hj') rfl (Hf pts Eg.t _ hj') rfl) ?_;refine A0 (Qc rfl (Hf pts Eg.t _ hj') rfl rfl rfl rfl rfl rfl rfl) ?_;refine Ft ?_;have hkT:(Ri Eg.f (es.take (i+1)) pts++Ri Eg.t (es.take i) pts)[pts+j']?=some (L0 Eg.t (es.take i) j').length:=by
      rw[Gj (by rw[Jk];omega),Jk,Nat.add_sub_cancel_left];exact Y6 _ _ hj'
     refine Dx (S':=⟨[[Af n],[Af (A5 n)],[[vi 0,str []]],[prow (.bsl 4 pts) (.bsl 5 pts)],Wm 0 Eg.f (es.take (i+1)) pts,Wm pts Eg.t (es.take i) pts,[H4 ⟨j,j',ek,ey,en⟩]],Ri Eg.f (es.take (i+1)) pts++Ri Eg.t (es.take (i+1)) pts⟩)
      (Bv (res:=Uf (L0 Eg.t (es.take i) j'++[i])) rfl rfl rfl rfl rfl rfl rfl rfl rfl rfl rfl rfl rfl hkT (N7 _) (Alp _) rfl rfl rfl ?_ (Ac7 _ i) ?_) ?_ ?_
     ·rw[N7];unfold L0;show _+1≤_;omega
     ·show (Ri Eg.f (es.take (i+1)) pts++Ri Eg.t (es.take i) pts).set (pts+j') ((Uf (L0 Eg.t (es.take i) j')).length+1)=_;rw[N7,Gi _ _ (by rw[Jk];omega),Jk,Nat.add_sub_cancel_left,Ao0 Eg.t he rfl]
     ·refine An (Qc rfl (Hf pts Eg.t _ hj') rfl rfl rfl rfl rfl rfl rfl) (An (F8 (j:=j') rfl rfl rfl rfl rfl rfl rfl rfl (by simpa[Fs]using hj') rfl (Hf pts Eg.t _ hj') rfl) ?_);exact An (Cn rfl rfl rfl) (An (Cn rfl rfl rfl) (An (Cn rfl rfl rfl) (An (Cn rfl rfl rfl) G0)))
     refine P6 (An (F8 (j:=j') rfl rfl rfl rfl rfl rfl rfl rfl (by simpa[Fs]using hj') rfl (Hf pts Eg.t _ hj') rfl) (An (F8 (j:=j') rfl rfl rfl rfl rfl rfl rfl rfl (by simpa[Fs]using hj') rfl (Hf pts Eg.t _ hj') rfl) G0)) rfl ?_;refine Ch (A8 rfl rfl rfl rfl rfl rfl (Xu rfl (Hf pts Eg.t _ hj') rfl rfl rfl)) ?_;refine B6 ?_;refine Ba ⟨[[Af n],[Af (A5 n)],[[vi 0,str []]],[prow (.bsl 4 pts) (.bsl 5 pts)],Wm 0 Eg.f (es.take (i+1)) pts,Wm pts Eg.t (es.take (i+1)) pts,[H4 ⟨j,j',ek,ey,en⟩]],Ri Eg.f (es.take (i+1)) pts++Ri Eg.t (es.take (i+1)) pts⟩ ?_ (by
      rw[←Ao1 pts Eg.t he rfl];rfl)
     refine IH (i+1) hlt (by omega) _ _ ⟨vsx (by omega),rfl,rfl,rfl,trivial⟩ ?_ rfl ?_
     ·exact congrArg (St.mk _) (List.take_of_length_le (by simp[Jk]))
     ·show Nat.ble (pts+pts) (Ri Eg.f (es.take (i+1)) pts++Ri Eg.t (es.take (i+1)) pts).length=true;simp[Jk]
    ·have:i=es.length:=by have:=Bd h;omega
     subst this;rw[I8];have f1:=Atb (S:=⟨[[Af n],[Af (A5 n)],[[vi 0,str []]],[prow (.bsl 4 pts) (.bsl 5 pts)],Wm 0 Eg.f es pts,Wm pts Eg.t es pts],Ri Eg.f es pts++Ri Eg.t es pts⟩) (b:=4) (m:=0) (pts:=pts) Eg.f es rfl (by unfold O0;omega);have f2:=Atb (S:=⟨[[Af n],[Af (A5 n)],[[vi 0,str []]],[prow (.bsl 4 pts) (.bsl 5 pts)],Wm 0 Eg.f es pts,Wm pts Eg.t es pts],Ri Eg.f es pts++Ri Eg.t es pts⟩) (b:=5) (m:=pts) (pts:=pts) Eg.t es rfl (by unfold O0;omega)
     haveI i1:FzC ⟨[[Af n],[Af (A5 n)],[[vi 0,str []]],[prow (.bsl 4 pts) (.bsl 5 pts)],Wm 0 Eg.f es pts,Wm pts Eg.t es pts],Ri Eg.f es pts++Ri Eg.t es pts⟩ 0 0 (.bsl 4 pts) (.sl (V9 Eg.f es pts) .no):=⟨f1⟩
     haveI i2:FzC ⟨[[Af n],[Af (A5 n)],[[vi 0,str []]],[prow (.bsl 4 pts) (.bsl 5 pts)],Wm 0 Eg.f es pts,Wm pts Eg.t es pts],Ri Eg.f es pts++Ri Eg.t es pts⟩ 0 0 (.bsl 5 pts) (.sl (V9 Eg.t es pts) .no):=⟨f2⟩
     exact Au func52 rfl
   ·exact congrArg (St.mk _) (List.take_of_length_le (by simp[Jk]))
   ·show Nat.ble (pts+pts) (Ri Eg.f (es.take 0) pts++Ri Eg.t (es.take 0) pts).length=true;simp[Jk]
   ·intro rows hrows;simp only[zzq13,Wv,or_false]at hrows;rcases hrows with rfl|rfl|rfl|rfl|rfl|rfl
    ·exact(inferInstance:OKR 6 (pts+pts) [Af n]).ok
    ·exact(inferInstance:OKR 6 (pts+pts) [Af (A5 n)]).ok
    ·exact(inferInstance:OKR 6 (pts+pts) [[vi 0,str []]]).ok
    ·exact(inferInstance:OKR 6 (pts+pts) [vi pts::.sl (Fq es) .no::.sl (Dj (Ax n 31)) .no::.sl (Dj (Ax n 32)) .no::.sl (Ei (D9 n)) .no::.bsl 4 pts::.bsl 5 pts::Af (A5 n)]).ok
    ·exact Au5 Eg.f _ (by omega)
    ·exact Au5 Eg.t _ (by omega)
  refine Ba ⟨[[Af n],[Af (A5 n)],[[vi 0,str []]],[prow (.sl [] .tight) (.sl [] .tight)]],[]⟩ ?_;refine Ie 6 (.ptr 3 0 0) ?_;refine Avq fun l hord=>?_;rcases Are (show 7≠13 by decide) l (fun _=>false)with h1|h1
  ·rcases Are (show 13≠16 by decide) l (fun _=>false)with h2|h2
   ·refine Ak3 [0,1,2,3,4,5,6,8,9,10,11,12,7,13,14,15,16,17,18,19] [(7,13),(13,16)] 598144 ?_ rfl ?_
    ·intro ab hab;simp only[zzq13,Wv,or_false]at hab;rcases hab with rfl|rfl
     ·exact h1
     ·exact h2
    refine Agm 12 ?_;refine Akr (Ik (n:=pts) (b:=4) (by omega) rfl rfl rfl rfl rfl rfl rfl rfl rfl rfl) ?_ ?_
    ·exact An (Cn rfl rfl rfl) (An (Cn rfl rfl rfl) G0)
    refine N2 (Ik (n:=pts) (b:=5) (by omega) rfl rfl rfl rfl rfl rfl rfl rfl rfl rfl) ?_;refine Np ?_;refine Np ?_;refine N2 (A8 rfl rfl rfl rfl rfl rfl rfl) ?_;refine Np ?_;refine Np ?_;refine N2 (A8 rfl rfl rfl rfl rfl rfl rfl) ?_;refine Agn 6 ?_;refine Ba ⟨bxs (.bsl 4 pts) (.bsl 5 pts),[]⟩ ?_;refine Tq (G:=[(6,.ptr 3 0 0)]) ⟨rfl,trivial⟩ ?_;exact L6
   ·refine Ak3 [0,1,2,3,4,5,6,8,9,10,11,12,7,14,15,16,13,17,18,19] [(7,13),(16,13)] 598144 ?_ rfl ?_
    ·intro ab hab;simp only[zzq13,Wv,or_false]at hab;rcases hab with rfl|rfl
     ·exact h1
     ·exact h2
    refine Agm 12 ?_;refine Akr (Ik (n:=pts) (b:=4) (by omega) rfl rfl rfl rfl rfl rfl rfl rfl rfl rfl) ?_ ?_
    ·exact An (Cn rfl rfl rfl) (An (Cn rfl rfl rfl) G0)
    refine Np ?_;refine Np ?_;refine N2 (A8 rfl rfl rfl rfl rfl rfl rfl) ?_;refine N2 (Ik (n:=pts) (b:=5) (by omega) rfl rfl rfl rfl rfl rfl rfl rfl rfl rfl) ?_;refine Np ?_;refine Np ?_;refine N2 (A8 rfl rfl rfl rfl rfl rfl rfl) ?_;refine Agn 6 ?_;refine Ba ⟨bxs (.bsl 4 pts) (.bsl 5 pts),[]⟩ ?_;refine Tq (G:=[(6,.ptr 3 0 0)]) ⟨rfl,trivial⟩ ?_;exact L6
  ·have h2:AB 13 16 l (fun _=>false):=Aza (b:=7) (by decide) (by kernel_rfl) l _ hord h1 (fun h=>by cases h);refine Ak3 [0,1,2,3,4,5,6,8,9,10,11,12,13,7,14,15,16,17,18,19] [(13,7),(13,16)] 598144 ?_ rfl ?_
   ·intro ab hab;simp only[zzq13,Wv,or_false]at hab;rcases hab with rfl|rfl
    ·exact h1
    ·exact h2
   refine Agm 12 ?_;refine Akr (Ik (n:=pts) (b:=4) (by omega) rfl rfl rfl rfl rfl rfl rfl rfl rfl rfl) ?_ ?_
   ·exact An (Cn rfl rfl rfl) (An (Cn rfl rfl rfl) G0)
   refine N2 (Ik (n:=pts) (b:=5) (by omega) rfl rfl rfl rfl rfl rfl rfl rfl rfl rfl) ?_;refine Np ?_;refine Np ?_;refine N2 (A8 rfl rfl rfl rfl rfl rfl rfl) ?_;refine Np ?_;refine Np ?_;refine N2 (A8 rfl rfl rfl rfl rfl rfl rfl) ?_;refine Agn 6 ?_;refine Ba ⟨bxs (.bsl 5 pts) (.bsl 4 pts),[]⟩ ?_;refine Avn (G:=[(6,.ptr 3 0 0)]) (bx3:=[[Af n],[Af (A5 n)],[[vi 0,str []]],[vi pts::.sl (Fq es) .no::.sl (Dj (Ax n 31)) .no::.sl (Dj (Ax n 32)) .no::.sl (Ei (D9 n)) .no::.bsl 5 pts::.bsl 4 pts::Af (A5 n)],List.replicate pts [.sl [] .tight],List.replicate pts [.sl [] .tight]]) (bx2:=[[Af n],[Af (A5 n)],[[vi 0,str []]],[vi pts::.sl (Fq es) .no::.sl (Dj (Ax n 31)) .no::.sl (Dj (Ax n 32)) .no::.sl (Ei (D9 n)) .no::.bsl 4 pts::.bsl 5 pts::Af (A5 n)],List.replicate pts [.sl [] .tight],List.replicate pts [.sl [] .tight]]) [0,1,2,3,5,4] ?_ (.cons rfl inferInstance .nil) rfl rfl rfl rfl rfl;exact L6
 ·rw[if_neg hr];have h0:((Ew n).1==0)=false:=by unfold Fe at hr;simpa using hr
  refine A1 ?_ (ht:=by rw[h0];rfl);exact Au func52 rfl
instance{n m:Nat}{f:Eg→Int}{l:List Eg}{pts:Nat}:OKR n m (V9 f l pts):=⟨fun r hr x hx=>by
 obtain⟨p,_,rfl⟩:=zzq68.1 hr;simp at hx;subst hx;exact(inferInstance:OK n m (.sl (Uf (L0 f l p)) .no)).ok⟩
instance{n m:Nat}{x:Nd}:OKL n m (Mf x):=⟨(inferInstance:OKL n m (vi (D4 (A9 x)).pts::.sl (Fq (Lv (A9 x))) .no::.sl (Dj (Ax x 31)) .no::.sl (Dj (Ax x 32)) .no::.sl (Ei (D9 x)) .no ::
 .sl (V9 Eg.f (Lv (A9 x)) (D4 (A9 x)).pts) .no::.sl (V9 Eg.t (Lv (A9 x)) (D4 (A9 x)).pts) .no::Af (A5 x))).ok⟩
theorem H3(n:Nd)(k:Int):(Ax n k).length≤n.kids.length:=by rw[Ag0,U7];exact Acx n k
section
variable (n:Nd)(hl:n.kids.length≤100000)
theorem Xl(s:List UInt8)(hl:n.kids.length≤100000):Pure X 188 [.cptr (Mf n),str s] (vi (Ey 0 (Ax n 31) s)):=by
 have:=H3 n 31;refine Pure.run func188 ?_;refine Al (Ab6 (Ax n 31) s (by omega)) ?_;exact Au func188 rfl
theorem Ah0(s:List UInt8)(hl:n.kids.length≤100000):Pure X 55 [.cptr (Mf n),str s] (vi (Ey 0 (Ax n 32) s)):=by
 have:=H3 n 32;refine Pure.run func55 ?_;refine Al (Ab6 (Ax n 32) s (by omega)) ?_;exact Au func55 rfl
end
def Kk(n:Nd):List AV:=[.sl (Dj (Ax n 31)) .no,.sl (Dj (Ax n 32)) .no,.sl (Ei (D9 n)) .no,vi (D4 (A9 n)).pts,.sl (Fq (Lv (A9 n))) .no]
instance{n m:Nat}{x:Nd}:OKL n m (Kk x):=⟨(inferInstance:OKL n m [.sl (Dj (Ax x 31)) .no,.sl (Dj (Ax x 32)) .no,.sl (Ei (D9 x)) .no,vi (D4 (A9 x)).pts,.sl (Fq (Lv (A9 x))) .no]).ok⟩
theorem A1l(n:Nd)(hr:Fe n=true):Pure X 48 [nd n] (.agg (Kk n)):=by
 obtain⟨fp,_,hw,_,_⟩:=Iv hr;refine Pure.run func48 ?_;refine D8 512 ?_;refine Ci (Sm n 31 (by omega)) ?_;refine Ci (Sm n 32 (by omega)) ?_;refine Ci (Axs n (by omega)) ?_;refine Ci (Aws n fp (by omega)) ?_;refine Ch (A8 rfl rfl rfl rfl rfl rfl rfl) ?_;refine B6 ?_;exact Au func48 rfl
end Go.V
namespace Go.V
open Go
section
variable {X:Cx}{B:Bx}{S:St}{F:C3}{N:Nat}{ops:Array Oper}{i:Nat}{o:Oper}{p q:Operand}
theorem Ach{t e m b r o1 o2:Nat}{ik:IntKind}{n:Int}{y ye:Ty}(h0:0≤n)(h1:n<(m:Int))(ho:ops[i]?=some o:=by rfl)(hw:A6 ops F o=some true:=by rfl)(hop:o.op=.indexAddr t p q:=by rfl)
 (hp:Dt X F p=some (.ptr b r o1):=by rfl)(hq:Dt X F q=some (.val (.int ik n)):=by rfl)(hy:X.ty t=some y:=by rfl)(hyk:y.k=.arr m e:=by rfl)(hye:X.ty e=some ye:=by rfl)(he:Api o1 (n.toNat*ye.size)=o2:=by rfl) :
 Ndo X N ops i o F (.ptr b r o2) S S:=by
 subst he;rw[Abx];refine Df ho hw fun F' E w a hc hI hF=>?_;rw[hop]at hc;have r1:=Ak hI hF ((hc p (by simp[Op.operands])).trans hp);have r2:=Ak hI hF ((hc q (by simp[Op.operands])).trans hq);obtain⟨d,hdd,hd2⟩:=(X.ty_ok t y hy).agg;simp only[hyk]at hd2;obtain⟨rfl,ye',hye',_⟩:=hd2;rw[hye]at hye';cases hye';generalize hu:a.eval p=u at r1;generalize hv:a.eval q=v at r2;cases r2;cases r1 with
 |ptr _ _ _ blk sz h=>
  refine⟨.pointer (some ⟨blk,r*sz+o1+n.toNat*ye.size,none⟩),?_,?_⟩
  ·simp[execOp,hop,hu,hv,Instr.indexAt,asIntOf,run_underlying hdd,Instr.sureAddr,h0,h1,De hye,F9]
  ·rw[Nx];exact .ptr b r _ blk sz h
theorem W5{t:TypeId}{m e:Nat}{y:Ty}(ho:ops[i]?=some o:=by rfl)(hw:A6 ops F o=some true:=by rfl)(hop:o.op=.build t #[]:=by rfl)(hy:X.ty t=some y:=by rfl)(hk:y.k=.arr m e:=by rfl):Ndo X N ops i o F (.agg y.zero) S S:=by
 refine Df ho hw fun F' E w a hc hI hF=>?_;obtain⟨d,hd,hdd⟩:=(X.ty_ok t y hy).agg;simp only[hk]at hdd;obtain⟨rfl,ye,hye,_⟩:=hdd;obtain⟨ie,_,hie,_⟩:=(X.ty_ok e ye hye).info;obtain⟨z,_,hzc,hl,i,hi,hiz,his,_⟩:=I6 hy w;have hrun:=run_build (P:=X.P) w t #[] z.cells (by simp[Program.built,hi,hd,hiz,hie,Instr.fill]);refine⟨.agg z.cells,by simp[execOp,hop,hrun],?_⟩;refine .agg z.cells _ (by rw[←hzc];simp) (fun j v x hv hx=>?_);rw[←hzc]at hx;simp only[Gm,Tc,hv,Km]at hx;cases hx;exact Mu v
end
end Go.V
namespace Go.V
open Go Go.Proofs Go.Proofs.Tryz
inductive LnI:Nd→Prop where
 |mk (k:Int) (s:List UInt8) (m:Int) (ks:List Nd) (hs:s.length≤9223372036854775807) (hl:ks.length≤9223372036854775807) (hk:∀x,x∈ks→LnI x):LnI (.mk k s m ks)
theorem LnI.get{n:Nd}(h:LnI n):n.name.length≤9223372036854775807∧n.kids.length≤9223372036854775807∧∀x,x∈n.kids→LnI x:=by
 cases h with|mk k s m ks h0 h1 hk=>exact⟨h0,h1,hk⟩
mutual
def swN:Nd→Nat
 |.mk _ s _ ks=>s.length+(ks.length+swL ks)
def swL:List Nd→Nat
 |[]=>0
 |x::l=>swN x+swL l
end
theorem A18(n:Nd):swN n=n.name.length+(n.kids.length+swL n.kids):=by cases n;rw[swN];rfl
theorem A4a:(∀n:Nd,wN n≤1+swN n)∧∀l:List Nd,wL l≤l.length+swL l:=by
 refine Ro (fun k s m ks ih=>?_) (Bo _) (fun x l hx hl=>?_)
 ·simp only[wN,swN];omega
 ·simp only[wL,swL,Nl];omega
def szR(w:Nat)(left:Int):Int:=if (w:Int)≤left then left-w else -1
theorem Aic{a b:Nat}{left:Int}(h:(a:Int)≤left):szR (a+b) left=szR b (left-a):=by
 unfold szR;by_cases h2:((a+b:Nat):Int)≤left
 ·rw[if_pos h2,if_pos (by omega)];omega
 ·rw[if_neg h2,if_neg (by omega)]
theorem Ams{a b:Nat}{left:Int}(h:left<a):szR (a+b) left=-1:=by
 unfold szR;rw[if_neg (by omega)]
theorem Aow{w:Nat}{left:Int}(h0:0≤left)(h:szR w left<0):szR w left=-1∧left<w:=by
 unfold szR at h⊢;split at h
 ·rename_i h2;rw[if_pos h2];omega
 ·rename_i h2;rw[if_neg h2];omega
theorem Aox{w:Nat}{left:Int}(h:0≤szR w left):szR w left=left-w∧(w:Int)≤left:=by
 unfold szR at h⊢;split at h
 ·rename_i h2;rw[if_pos h2];omega
 ·omega
theorem A37(l:List Nd)(left:Int)(h0:0≤left)(h1:left≤1048576)(hl:l.length≤9223372036854775807)(ih:∀x,x∈l→∀lf:Int,0≤lf→lf≤1048576→Pure X 10 [nd x,vi lf] (vi (szR (swN x) lf))) :
 Pure X 46 [.sl (Ap l) .no,vi left] (vi (szR (l.length+swL l) left)):=by
 have hw:IntKind.i64.wrap (left-(Ap l).length)=left-l.length:=by rw[Ad];exact Ac (by omega) (by omega)
 refine Pure.run func46 ?_;refine Ag (fun g=>?_) (fun g=>?_)
 ·have g':=A7 g;rw[hw]at g';refine Au func46 ?_;rw[Ams (by omega)]
 have g':=Bd g;rw[hw]at g';have e0:szR (l.length+swL l) left=szR (swL l) (IntKind.i64.wrap (left-(Ap l).length)):=by rw[hw,Aic (by omega)]
 rw[e0];have hb:0≤IntKind.i64.wrap (left-(Ap l).length)∧IntKind.i64.wrap (left-(Ap l).length)≤1048576:=by rw[hw];omega
 generalize IntKind.i64.wrap (left-(Ap l).length)=lf0 at hb;refine Av (ι:=Nat×Int) 0 0 (fun i=>i.1≤l.length∧0≤i.2∧i.2≤1048576∧szR (swL l) lf0=szR (swL (l.drop i.1)) i.2) (fun i=>[(5,vi i.1),(1,vi i.2),(0,.sl (Ap l) .no)]) (fun _=>⟨[],[]⟩) (fun i=>l.length-i.1) ?_ (0,lf0) ⟨Cc _,hb.1,hb.2,rfl⟩
  ⟨rfl,rfl,rfl,trivial⟩
 rintro⟨i,lf⟩ ⟨hi,hp0,hp1,hT⟩ IH;simp only at hi hp0 hp1 hT IH⊢;refine Dh (fun h=>?_) (fun h=>?_)
 ·have hlt:i<l.length:=by have:=A7 h;rw[Ad]at this;omega
  obtain⟨x,hx⟩:=Ab l hlt;rw[B5 hx]at hT;simp only[swL]at hT;refine B7 i (by omega) (Am hx) ?_;refine Al (ih x (Bh hx) lf hp0 hp1) ?_;refine Ag (fun g2=>?_) (fun g2=>?_)
  ·have g2':=Aow hp0 (A7 g2);refine Au func46 ?_;rw[hT,Ams g2'.2]
  ·have g2':=Aox (show 0≤szR (swN x) lf by have:=Bd g2;omega);refine IH (i+1,szR (swN x) lf) ⟨hlt,?_,?_,?_⟩ (by simp only;omega) _ _ ⟨Ct ((Ac (by omega) (by omega)).trans (by simp)),rfl,rfl,trivial⟩ rfl rfl rfl
   ·show 0≤szR (swN x) lf;omega
   ·show szR (swN x) lf≤_;omega
   ·rw[hT,Aic g2'.2,g2'.1]
 ·have:i=l.length:=by have:=Bd h;rw[Ad]at this;omega
  subst this;rw[Hw]at hT;refine Au func46 ?_;rw[hT];unfold szR swL;rw[if_pos (by simpa using hp0)];simp
theorem A4w(n:Nd)(hln:LnI n):∀left:Int,0≤left→left≤1048576→Pure X 10 [nd n,vi left] (vi (szR (swN n) left)):=by
 induction n using Nd.ind with
 |h n ih=>
 intro left h0 h1;obtain⟨ha,hb,hk⟩:=hln.get;have hw:IntKind.i64.wrap (left-(⟨⟨n.name⟩⟩:ByteArray).size)=left-n.name.length:=by rw[F6];exact Ac (by omega) (by omega)
 rw[A18];refine Pure.run func10 ?_;refine Ag (fun g=>?_) (fun g=>?_)
 ·have g':=A7 g;rw[hw]at g';refine Au func10 ?_;rw[Ams (by omega)]
 have g':=Bd g;rw[hw]at g';have e0:szR (n.name.length+(n.kids.length+swL n.kids)) left=szR (n.kids.length+swL n.kids) (IntKind.i64.wrap (left-(⟨⟨n.name⟩⟩:ByteArray).size)):=by rw[hw,Aic (by omega)]
 rw[e0];have hb2:0≤IntKind.i64.wrap (left-(⟨⟨n.name⟩⟩:ByteArray).size)∧IntKind.i64.wrap (left-(⟨⟨n.name⟩⟩:ByteArray).size)≤1048576:=by rw[hw];omega
 refine Al (A37 n.kids _ hb2.1 hb2.2 hb (fun x hx lf=>ih x hx (hk x hx) lf)) ?_;generalize IntKind.i64.wrap (left-(⟨⟨n.name⟩⟩:ByteArray).size)=lf at hb2⊢;refine Ag (fun g2=>?_) (fun g2=>?_)
 ·have g2':=Aow hb2.1 (A7 g2);refine Au func10 ?_;rw[g2'.1]
 ·exact Au func10 rfl
theorem Ayc{l:List Nd}{i:Nat}{x:Nd}(h:l[i]?=some x):(rB (l.take i) (l.length-i)).set i (Af x)=rB (l.take (i+1)) (l.length-(i+1)):=by
 have hi:=Aa h;obtain⟨c,hc⟩:∃c,l.length-i=c+1:=⟨l.length-i-1,by omega⟩
 have hc2:l.length-(i+1)=c:=by omega
 rw[hc,hc2,rB,rB,G7,h,Ad2,Aaj,List.replicate_succ];have:(Ap (l.take i)).length=i:=by rw[Ad,Ti];omega
 rw[Gi _ _ (by omega),this,Fv,List.set_cons_zero,Fi];rw[As [x]];rfl
theorem A38(l:List Nd)(hl:l.length≤1000000000)(ih:∀x,x∈l→Pure X 12 [nd x] (nd x)):Pure X 51 [.sl (Ap l) .no] (.sl (Ap l) .no):=by
 refine Pure.run func51 ?_;refine Bm (Ik (n:=(Ap l).length) (b:=0) (by rw[Ad];exact hl) rfl rfl rfl rfl rfl rfl rfl rfl rfl rfl) ?_;refine Av (ι:=Nat) 1 0 (fun i=>i≤l.length) (fun i=>[(4,vi i),(3,.bsl 0 l.length),(0,.sl (Ap l) .no)]) (fun i=>⟨[rB (l.take i) (l.length-i)],[]⟩) (fun i=>l.length-i) ?_ 0 (Cc _)
  ⟨rfl,by rw[←Ad l];rfl,rfl,trivial⟩ (by rw[←Ad l];rfl)
 intro i hi IH;refine Dh (fun h=>?_) (fun h=>?_)
 ·have hlt:i<l.length:=by have:=A7 h;rw[Ad]at this;omega
  obtain⟨x,hx⟩:=Ab l hlt;have hr:(rB (l.take i) (l.length-i))[i]?=some zN:=by
   have:(Ap (l.take i)).length=i:=by rw[Ad,Ti];omega
   rw[rB,Gj (by omega),this,Fv,Ao7,if_pos (by omega)]
  refine B7 i (by omega) (Am hx) ?_;refine Al (ih x (Bh hx)) ?_;refine Zl i hlt hr ?_;refine Agj hr ?_;refine IH (i+1) hlt (by omega) _ _ ⟨vsx (by omega),rfl,rfl,trivial⟩ ?_ rfl rfl;rw[←Ayc hx];rfl
 ·have:i=l.length:=by have:=Bd h;rw[Ad]at this;omega
  subst this;refine Am3 func51 (b:=0) (l:=l) (c:=l.length-l.length) ?_ hl;rw[I8];rfl
theorem Au2(n:Nd)(hn:Ai n≤1000000000):Pure X 12 [nd n] (nd n):=by
 induction n using Nd.ind with
 |h n ih=>
 have hcn:=Ck n;have hll:=Bn n.kids;refine Pure.run func12 ?_;refine Al (A38 n.kids (by omega) (fun x hx=>ih x hx (by have:=Ex hx;omega))) ?_;exact Au func12 rfl
theorem A36(l:List Nd)(hl:l.length≤1000000000)(ih:∀x,x∈l→Pure X 15 [nd x,nd x] (vb true)):Pure X 58 [.sl (Ap l) .no,.sl (Ap l) .no] (vb true):=by
 refine Pure.run func58 ?_;refine Ah ?_ (ht:=by simp);refine Av (ι:=Nat) 0 0 (fun i=>i≤l.length) (fun i=>[(5,vi i),(0,.sl (Ap l) .no),(1,.sl (Ap l) .no)]) (fun i=>⟨[],[]⟩) (fun i=>l.length-i) ?_ 0 (Cc _)
  ⟨rfl,rfl,rfl,trivial⟩
 intro i hi IH;refine Dh (fun h=>?_) (fun h=>?_)
 ·have hlt:i<l.length:=by have:=A7 h;rw[Ad]at this;omega
  obtain⟨x,hx⟩:=Ab l hlt;refine D8 0 ?_;refine Dv i (by omega) (Am hx) ?_;refine Dv i (by omega) (Am hx) ?_;refine Ci (ih x (Bh hx)) ?_;refine B6 ?_;refine Ah ?_;exact IH (i+1) hlt (by omega) _ _ ⟨vsx (by omega),rfl,rfl,trivial⟩ rfl rfl rfl
 ·exact Au func58 rfl
theorem A35(n:Nd)(hn:Ai n≤1000000000):Pure X 15 [nd n,nd n] (vb true):=by
 induction n using Nd.ind with
 |h n ih=>
 have hcn:=Ck n;have hll:=Bn n.kids;refine Pure.run func15 ?_;refine Ah ?_ (ht:=by simp);refine Ah ?_ (ht:=by simp);refine Ah ?_ (ht:=by simp);refine Al (A36 n.kids (by omega) (fun x hx=>ih x hx (by have:=Ex hx;omega))) ?_;refine Ah ?_;exact Au func15 rfl
def E0:Env:=⟨[],[],fun _ _=>False,[]⟩
theorem A2v(b o:Nat):¬E0.mt b o:=by
 rintro(h|⟨i,sz,h⟩|⟨t,l,c,sz,h,_⟩)
 ·exact h
 ·simp[E0]at h
 ·simp[E0]at h
theorem A3i{α:Type}{l:List α}(h:l.length=4):∃a b c d,l=[a,b,c,d]:=by
 rcases l with _|⟨a,_|⟨b,_|⟨c,_|⟨d,_|⟨e,l⟩⟩⟩⟩⟩<;>simp at h;exact⟨a,b,c,d,rfl⟩
def RelL(w:World)(cs:List Value)(l:List AV):Prop:=cs.length=l.length∧∀(j:Nat)(v:Value)(x:AV),cs[j]?=some v→l[j]?=some x→Rel E0 w v x
theorem RelL.one{w:World}{v:Value}{x:AV}(h:Rel E0 w v x):RelL w [v] [x]:=⟨rfl,fun j v' x' h1 h2=>by
 cases j with
 |zero=>simp at h1 h2;subst h1;subst h2;exact h
 |succ j=>simp at h1⟩
theorem Apf{w:World}{v:Value}{x:AV}(h:RelL w [v] [x]):Rel E0 w v x:=h.2 0 v x rfl rfl
theorem RelL.nil{w:World}:RelL w [] []:=⟨rfl,fun j v x h=>by simp at h⟩
theorem RelL.cons{w:World}{v:Value}{x:AV}{cs:List Value}{l:List AV}(h:Rel E0 w v x)(t:RelL w cs l):RelL w (v::cs) (x::l):=
 ⟨by simp[t.1],fun j v' x' h1 h2=>by
   cases j with
   |zero=>simp at h1 h2;subst h1;subst h2;exact h
   |succ j=>exact t.2 j v' x' (by simpa using h1) (by simpa using h2)⟩
theorem RelL.agg{w:World}{cs:Array Value}{l:List AV}(h:RelL w cs.toList l):Rel E0 w (.agg cs) (.agg l):=.agg cs l (by simpa using h.1) (fun j v x h1 h2=>h.2 j v x (by simpa using h1) h2)
theorem An2{α:Type}{Q:Nat→α→Prop}:∀n:Nat,(∀i,i<n→∃x,Q i x)→∃l:List α,l.length=n∧∀i x,l[i]?=some x→Q i x
 |0,_=>⟨[],rfl,fun i x h=>by simp at h⟩
 |n+1,h=>by
  obtain⟨l,hl,hq⟩:=An2 n (fun i hi=>h i (by omega));obtain⟨x,hx⟩:=h n (by omega);refine⟨l++[x],by simp[hl],fun i y hy=>?_⟩;rcases Gu i n with hi|hi
  ·rw[Cr (by omega)]at hy;exact hq i y hy
  ·rw[Gj (by omega)]at hy;have:i=n:=by
    have:=Aa hy;simp at this;omega
   subst this;simp[hl]at hy;subst hy;exact hx
section
variable {H:Type}{enc:TypeId×Value→H}{P:Program}{w:World}{sp:Nat→Bool}{held:Bool}
theorem Zw{a:Addr}{n:Nat}{cs:List Value}(h:w.cells? 0 a n=some cs):cs.length=n∧∀(j:Nat)(v:Value),cs[j]?=some v→w.cell? (a.add j)=some v:=by
 unfold World.cells? at h;rw[if_pos (Cc _)]at h;have key:∀(l:List Nat) (cs:List Value),(l.mapM fun i=>w.cell? (a.add i))=some cs→cs.length=l.length∧∀(j:Nat) (v:Value),cs[j]?=some v→∃k:Nat,l[j]?=some k∧w.cell? (a.add k)=some v:=by
  intro l
  induction l with
  |nil=>intro cs h;simp at h;subst h;exact⟨rfl,fun j v h=>by simp at h⟩
  |cons k l ih=>
   intro cs h;simp only[List.mapM_cons,Option.bind_eq_bind,Option.bind_eq_some_iff,Option.pure_def,Option.some.injEq]at h;obtain⟨v,hv,cs',hcs,rfl⟩:=h;obtain⟨h1,h2⟩:=ih cs' hcs;refine⟨by simp[h1],fun j u hu=>?_⟩;cases j with
   |zero=>simp at hu;subst hu;exact⟨k,rfl,hv⟩
   |succ j=>simpa using h2 j u (by simpa using hu)
 obtain⟨h1,h2⟩:=key _ _ h;refine⟨by simpa using h1,fun j v hv=>?_⟩;obtain⟨k,hk,hc⟩:=h2 j v hv;have:j<(List.range n).length:=Aa hk;simp at this;rw[Abl this]at hk;cases hk;exact hc
theorem X8{b o n:Nat}:(Addr.mk b o none).add n=⟨b,o+n,none⟩:=by
 unfold Addr.add;split
 ·rename_i h;subst h;rfl
 ·rfl
theorem Aft{α:Type}{t e sz fuel:Nat}{cs:List Value}{x:DataW H×List MemPlace}(cells:α→List AV)(Q:α→Prop)(ht:P.underlying t=some (.slice e))(hc:P.cellsOf e=sz)(hsz:0<sz)(hcell:∀y,(cells y).length=sz)
 (hel:∀n,fuel=n+1→∀(cs:List Value)(x:DataW H×List MemPlace),DataW.trod enc P w 0 sp held n e cs=some x→∃y:α,Q y∧RelL w cs (cells y))(h:DataW.trod enc P w 0 sp held fuel t cs=some x) :
 ∃l:List α,(∀y,y∈l→Q y)∧l.length≤9223372036854775807∧RelL w cs [.sl (l.map cells) .no]:=by
 rcases DataW.trod_slice ht h with⟨rfl,_⟩|⟨a,len,cap,elems,rest,n,hn,rfl,_,_,hcap,hmax,hlen,hall,_,_⟩
 ·refine⟨[],(fun y hy=>by cases hy),by simp,RelL.one ?_⟩;exact .sl [] .no none 0 0 0 0 0 (fun _ _=>default) rfl (Cc _) (fun h=>absurd rfl h) (fun r hr=>by cases hr) (fun i j h=>by omega) (fun i j h=>by omega) (fun i j r x h=>by simp at h) trivial (Bo _)
 ·have hml:maxLen=9223372036854775807:=by decide
  have hel':∀i,i<len→∃y:α,Q y∧∃cs',w.cells? 0 (a.add (i*sz)) sz=some cs'∧RelL w cs' (cells y):=fun i hi=>by
   have h1:=hall i hi;obtain⟨z,hz⟩:=Ab elems (i:=i) (by omega);rw[hz,hc]at h1;obtain⟨cs',h2,h3⟩:=Option.bind_eq_some_iff.1 h1;obtain⟨y,hq,hr⟩:=hel n hn cs' z h3;exact⟨y,hq,cs',h2,hr⟩
  obtain⟨l,hll,hl⟩:=An2 len hel';have hQ:∀y,y∈l→Q y:=fun y hy=>by obtain⟨i,hi⟩:=Bw hy;exact(hl i y hi).1
  refine⟨l,hQ,by omega,RelL.one ?_⟩;have ha:len≠0→a=⟨a.block,a.off,none⟩:=fun h0=>by
   obtain⟨y,hy⟩:=Ab l (i:=0) (by omega);obtain⟨_,cs',h1,h2⟩:=hl 0 y hy;obtain⟨h3,h4⟩:=Zw h1;obtain⟨v,hv⟩:=Ab cs' (i:=0) (by omega);have h5:=h4 0 v hv;have h6:(a.add (0*sz)).add 0=a:=by simp[Addr.add]
   rw[h6]at h5;obtain⟨b,o,s⟩:=a;unfold World.cell? at h5;simp only at h5;split at h5
   ·split at h5
    ·cases h5
    ·rename_i hs;cases s with
     |none=>rfl
     |some s=>simp at hs
   ·cases h5
  have hcl:∀i j:Nat,i<len→j<sz→∃v,w.cell? ⟨a.block,a.off+i*sz+j,none⟩=some v:=fun i j hi hj=>by
   obtain⟨y,hy⟩:=Ab l (i:=i) (by omega);obtain⟨_,cs',h1,h2⟩:=hl i y hy;obtain⟨h3,h4⟩:=Zw h1;obtain⟨v,hv⟩:=Ab cs' (i:=j) (by omega);have h5:=h4 j v hv;rw[ha (by omega),X8,X8]at h5;exact⟨v,h5⟩
  refine .sl _ .no (some a) len cap a.block a.off sz (fun i j=>(w.cell? ⟨a.block,a.off+i*sz+j,none⟩).getD default) (by simp[hll]) (by unfold O0;omega) (fun h0=>congrArg some (ha h0)) (fun r hr=>?_) (fun i j _ _=>A2v _ _) (fun i j hi hj=>?_) (fun i j r z h1 h2=>?_) trivial hcap
  ·obtain⟨y,_,rfl⟩:=zzq68.1 hr;exact hcell y
  ·obtain⟨v,hv⟩:=hcl i j hi hj;rw[hv];rfl
  ·simp only[Gm,zzq104]at h1;obtain⟨y,hy,rfl⟩:=h1;obtain⟨_,cs',h3,h4⟩:=hl i y hy;have hi:i<len:=by have:=Aa hy;omega
   have hj:j<sz:=by have:=Aa h2;rw[hcell]at this;exact this
   obtain⟨h5,h6⟩:=Zw h3;obtain⟨v,hv⟩:=Ab cs' (i:=j) (by omega);have h7:=h6 j v hv;rw[ha (by omega),X8,X8]at h7;show Rel E0 w ((w.cell? ⟨a.block,a.off+i*sz+j,none⟩).getD default) z;rw[h7];exact h4.2 j v z hv h2
theorem Amt{t fuel:Nat}{k:IntKind}{cs:List Value}{x:DataW H×List MemPlace}(ht:P.underlying t=some (.int k))(h:DataW.trod enc P w 0 sp held fuel t cs=some x):∃n:Int,k.min≤n∧n≤k.max∧cs=[.int k n]:=by
 obtain⟨n,rfl,_,h2⟩:=DataW.trod_int ht h;simp only[Lit.wf,Da,J9]at h2;exact⟨n,h2.1,h2.2,rfl⟩
theorem A2b{t fuel:Nat}{cs:List Value}{x:DataW H×List MemPlace}(ht:P.underlying t=some .string)(h:DataW.trod enc P w 0 sp held fuel t cs=some x):∃s:List UInt8,s.length≤9223372036854775807∧cs=[.string ⟨⟨s⟩⟩]:=by
 obtain⟨s,rfl,_,h2⟩:=DataW.trod_string ht h;obtain⟨⟨s⟩⟩:=s
 exact⟨s,by have:maxLen=9223372036854775807:=by decide
            have h3:s.length≤maxLen:=h2;omega,rfl⟩
end
theorem Awv{n:Int}(h0:IntKind.i64.min≤n)(h1:n≤IntKind.i64.max):-9223372036854775808≤n∧n≤9223372036854775807:=by
 have a:IntKind.i64.min=-9223372036854775808:=by decide
 have b:IntKind.i64.max=9223372036854775807:=by decide
 omega
section
variable {H:Type}{enc:TypeId×Value→H}{w:World}{sp:Nat→Bool}{held:Bool}
theorem Ay2:∀(fuel:Nat)(cs:List Value)(x:DataW H×List MemPlace),DataW.trod enc prog w 0 sp held fuel 24 cs=some x→∃n:Nd,(PrI n∧LnI n)∧RelL w cs (Af n):=by
 intro fuel
 induction fuel using Nat.strongRecOn with
 |ind fuel ih=>
  intro cs x h;obtain⟨xs,n1,rfl,_,hl,hxs,hf⟩:=DataW.trod_struct underlying24 h;have hl4:cs.length=4:=hl.trans (by kernel_rfl);have hx4:xs.length=4:=hxs;obtain⟨c0,c1,c2,c3,rfl⟩:=A3i hl4;obtain⟨x0,hx0⟩:=Ab xs (i:=0) (by omega);obtain⟨x1,hx1⟩:=Ab xs (i:=1) (by omega);obtain⟨x2,hx2⟩:=Ab xs (i:=2) (by omega);obtain⟨x3,hx3⟩:=Ab xs (i:=3) (by omega);have c3e:prog.cellsOf 3=1:=by kernel_rfl
  have c9e:prog.cellsOf 9=1:=by kernel_rfl
  have cse:prog.cellsOf 22=1:=by kernel_rfl
  have f0:DataW.trod enc prog w 0 sp held n1 3 (([c0,c1,c2,c3].drop 0).take (prog.cellsOf 3))=some x0:=(hf 0 _ rfl).trans hx0;have f1:DataW.trod enc prog w 0 sp held n1 9 (([c0,c1,c2,c3].drop 1).take (prog.cellsOf 9))=some x1:=(hf 1 _ rfl).trans hx1;have f2:DataW.trod enc prog w 0 sp held n1 3 (([c0,c1,c2,c3].drop 2).take (prog.cellsOf 3))=some x2:=(hf 2 _ rfl).trans hx2;have f3:DataW.trod enc prog w 0 sp held n1 22 (([c0,c1,c2,c3].drop 3).take (prog.cellsOf 22))=some x3:=(hf 3 _ rfl).trans hx3;rw[c3e]at f0 f2;rw[c9e]at f1;rw[cse]at f3;obtain⟨k,k0,k1,e0⟩:=Amt underlying3 f0;obtain⟨s,s0,e1⟩:=A2b underlying9 f1;obtain⟨m,m0,m1,e2⟩:=Amt underlying3 f2;obtain⟨l,hq,hll,e3⟩:=Aft Af (fun n=>PrI n∧LnI n) underlying22 (show prog.cellsOf 24=4 by kernel_rfl) (by decide) (fun y=>rfl) (fun n2 hn2 cs' x' hx'=>ih n2 (by omega) cs' x' hx') f3;have e0':c0=.int .i64 k:=(List.cons.inj e0).1;have e1':c1=.string ⟨⟨s⟩⟩:=(List.cons.inj e1).1;have e2':c2=.int .i64 m:=(List.cons.inj e2).1;have e3':RelL w [c3] [.sl (l.map Af) .no]:=e3;subst e0';subst e1';subst e2';obtain⟨m0,m1⟩:=Awv m0 m1;refine⟨.mk k s m l,⟨.mk k s m l m0 m1 fun x hx=>(hq x hx).1,.mk k s m l s0 hll fun x hx=>(hq x hx).2⟩,?_⟩;show RelL w _ [_,_,_,.sl (Ap l) .no];rw[As];exact .cons (.val _) (.cons (.val _) (.cons (.val _) e3'))
end
end Go.V
namespace Go.V
open Go Go.Proofs Go.ChangeShapes Go.WideShapes Go.ChangeAt Go.RowKit Go.Proofs.Tryz
section
variable {H:Type}{enc:TypeId×Value→H}{P:Program}{w:World}{sp:Nat→Bool}{held:Bool}
theorem Au6{t e n fuel:Nat}{cs:List Value}{d:DataW H}{ps:List MemPlace}(ht:P.underlying t=some (.array n e))(h:DataW.trod enc P w 0 sp held fuel t cs=some (d,ps)) :
 ∃(xs:List (DataW H×List MemPlace)) (f:Nat),d=.agg (xs.map (·.1))∧cs.length=P.cellsOf t∧∀i,i<n→DataW.trod enc P w 0 sp held f e ((cs.drop (i*P.cellsOf e)).take (P.cellsOf e))=xs[i]?:=by
 cases fuel with
 |zero=>simp[DataW.trod]at h
 |succ f=>
  unfold DataW.trod at h;rw[ht]at h;split at h<;>simp_all;obtain⟨hl,xs,hp,hd,_⟩:=h;exact⟨xs,hd.symm,f,fun i hi=>mapM_some_get hp i i (by simp[hi])⟩
theorem Au7{t fuel:Nat}{ms:Array (String×TypeId)}{cs:List Value}{x:DataW H×List MemPlace}(ht:P.underlying t=some (.interface ms))(h:DataW.trod enc P w 0 sp held fuel t cs=some x):∃v,cs=[v]∧(v=.nilIface∨∃te pe,v=.iface te pe):=by
 cases fuel with
 |zero=>simp[DataW.trod]at h
 |succ f=>
  unfold DataW.trod at h;rw[ht]at h;split at h<;>simp_all
theorem Wn(hl:laidOutB P=true){W W':World}{sp':Nat→Bool}:∀{ts:List TypeId}{vs:List Value}{ds:List (DataW H)}{ps:List MemPlace},(∀t,t∈ts→P.readableRec t=true∧t<P.types.size) →
 DataW.TrodAll enc P W 0 (fun _=>true) true ts vs ds ps→(∀p∈ps,W.sameAt W' p)→(∀p∈ps,sp' p.block=true)→DataW.TrodAll enc P W' 0 sp' true ts vs ds ps
 |[],[],[],_,_,h,_,_=>h
 |t::ts,v::vs,d::ds,_,hr,⟨p,q,h1,h2,rfl⟩,hs,hb=>
  ⟨p,q,WideElems.Trod_stays hl (hr t (by simp)).1 (hr t (by simp)).2 h1 (fun x hx=>hs x (by simp[hx])) (fun x hx=>hb x (by simp[hx])),Wn hl (fun x hx=>hr x (by simp[hx])) h2 (fun x hx=>hs x (by simp[hx])) (fun x hx=>hb x (by simp[hx])),rfl⟩
 |[],_::_,_,_,_,h,_,_=>h.elim
 |[],[],_::_,_,_,h,_,_=>h.elim
 |_::_,[],_,_,_,h,_,_=>h.elim
 |_::_,_::_,[],_,_,h,_,_=>h.elim
theorem Aei(hl:laidOutB P=true){W W':World}{sp':Nat→Bool}{n:String}{gs:List (DataW H)}{ps:List MemPlace}{g t:Nat}(hg:P.globalNamed n=some g)(ht:(P.globals[g]?).map (·.type)=some t)(hr:P.readableRec t=true)(hlt:t<P.types.size)
 (hb:Below W.heap.size W W')(h:DataW.TrodVars enc P W (fun _=>true) [n] gs ps)(hs:∀p∈ps,W.sameAt W' p)(hsp:∀p∈ps,sp' p.block=true):DataW.TrodVars enc P W' sp' [n] gs ps:=by
 obtain⟨g',t',cs,fuel,d,p,rfl,h1,h2,h3,h4,rfl⟩:=trodVars_one h;obtain rfl:=Option.some.inj (hg.symm.trans h1);obtain rfl:=Option.some.inj (ht.symm.trans h2);have h5:DataW.Trod enc P W 0 (fun _=>true) true t (.agg cs) d p:=⟨fuel,h4⟩
 obtain⟨fuel',h6⟩:=WideElems.Trod_stays (sp':=sp') hl hr hlt h5 (fun x hx=>hs x (by simp[hx])) (fun x hx=>hsp x (by simp[hx]));refine trodVars_mk1 hg ht ?_ h6;unfold World.var? at h3⊢;rw[hg]at h3⊢;simp only[Option.bind_some]at h3⊢;have hgl:g<W.heap.size:=by
  rcases Gu g W.heap.size with h'|h'
  ·exact h'
  ·simp[Abs h']at h3
 rw[hb.block g hgl];exact h3
end
def laidL:List (String×DataW Unit):=[("math/bits.deBruijn32tab",YtojhghmilenfkaaGreatDoor.Rows.laid_math_bits_deBruijn32tab),("math/bits.deBruijn64tab",YtojhghmilenfkaaGreatDoor.Rows.laid_math_bits_deBruijn64tab),("internal/strconv.uint64pow10",YtojhghmilenfkaaGreatDoor.Rows.laid_internal_strconv_uint64pow10),
 ("strconv.ErrRange",YtojhghmilenfkaaGreatDoor.Rows.laid_strconv_ErrRange),("strconv.ErrSyntax",YtojhghmilenfkaaGreatDoor.Rows.laid_strconv_ErrSyntax),("loop.example/g00093/impl.condWords",YtojhghmilenfkaaGreatDoor.Rows.laid_loop_example_g00093_impl_condWords)
 ]
theorem Ap2{W:World}(h:laidMetH prog laidL W):laidMet prog laidL W:=by
 have e:(laidL.filter fun x=>x.2.handleName?.isSome)=[]:=by kernel_rfl
 unfold laidMetH at h;rw[e]at h;exact h
def condB:List (List UInt8):=[[60],[60,61],[62],[62,61],[61,61],[33,61]]
theorem Ald:condG=condB.map fun b=>.val (.string ⟨⟨b⟩⟩):=rfl
theorem Apl:(YtojhghmilenfkaaGreatDoor.Rows.laid_loop_example_g00093_impl_condWords:DataW Unit)=.agg (condB.map fun b=>.lit (.string b)):=rfl
theorem As4{W:World}{n:String}{d:DataW Unit}{g:Nat}(hg:prog.globalNamed n=some g)(ht:(prog.globals[g]?).map (·.type)=some 340)(h:Lib.VarReads prog W n d):IfaceV W g:=by
 obtain⟨g',t',cs,fuel,p,h1,h2,h3,h4⟩:=h;obtain rfl:=Option.some.inj (hg.symm.trans h1);obtain rfl:=Option.some.inj (ht.symm.trans h2);obtain⟨v,h5,h6⟩:=Au7 underlying340 h4;refine⟨v,?_,h6⟩;rw[World.var?_cell hg h3 0,←Tc,h5];rfl
theorem A0r{W:World}(h:laidMetH prog laidL W):gOk W:=by
 have hm:=Ap2 h;constructor
 ·intro j x hx;obtain⟨g',t',cs,fuel,p,h1,h2,h3,h4⟩:=Lib.laidMet.reads hm (n := "loop.example/g00093/impl.condWords") (d:=YtojhghmilenfkaaGreatDoor.Rows.laid_loop_example_g00093_impl_condWords) (by unfold laidL;simp);have hg:prog.globalNamed "loop.example/g00093/impl.condWords" = some 1:=by kernel_rfl
  have ht:(prog.globals[1]?).map (·.type)=some 338:=by kernel_rfl
  obtain rfl:=Option.some.inj (hg.symm.trans h1);obtain rfl:=Option.some.inj (ht.symm.trans h2);obtain⟨xs,f,hd,hl,hall⟩:=Au6 underlying338 h4;have c9e:prog.cellsOf 9=1:=by kernel_rfl
  have cae:prog.cellsOf 338=6:=by kernel_rfl
  rw[cae]at hl;rw[Apl]at hd;have hd':condB.map (fun b=>(DataW.lit (.string b):DataW Unit))=xs.map (·.1):=DataW.agg.inj hd;rw[Ald]at hx;simp only[Gm,zzq104]at hx;obtain⟨b,hb,rfl⟩:=hx;have hj:j<6:=Aa hb;have h5:=hall j hj;rw[c9e,Nat.mul_one]at h5;have h6:=congrArg (fun l=>l[j]?) hd';simp only[Gm,hb,Km]at h6;cases hxj:xs[j]? with
  |none=>rw[hxj]at h6;cases h6
  |some z=>
   rw[hxj]at h5 h6;obtain⟨s,h7,h8,_⟩:=DataW.trod_string underlying9 h5;have h9:DataW.lit (.string b)=z.1:=Option.some.inj h6;rw[h8]at h9;have h10:b=s.data.toList:=Lit.string.inj (DataW.lit.inj h9);obtain⟨v,hv⟩:=Ab cs.toList (i:=j) (by omega);have h11:cs.toList.drop j=v::cs.toList.drop (j+1):=B5 hv;rw[h11]at h7;have h12:v=.string s:=(List.cons.inj h7).1;refine⟨.string s,?_,?_⟩
   ·rw[World.var?_cell hg h3 j,←Tc,hv,h12]
   ·rw[h10]
 ·obtain⟨g',t',cs,fuel,p,h1,h2,h3,h4⟩:=Lib.laidMet.reads hm (n := "internal/strconv.uint64pow10") (d:=YtojhghmilenfkaaGreatDoor.Rows.laid_internal_strconv_uint64pow10) (by unfold laidL;simp);have hg:prog.globalNamed "internal/strconv.uint64pow10" = some 2:=by kernel_rfl
  have ht:(prog.globals[2]?).map (·.type)=some 375:=by kernel_rfl
  obtain rfl:=Option.some.inj (hg.symm.trans h1);obtain rfl:=Option.some.inj (ht.symm.trans h2);have hd:(YtojhghmilenfkaaGreatDoor.Rows.laid_internal_strconv_uint64pow10:DataW Unit)=Lib.tabData .u64 Lib.pow10Tab:=by kernel_rfl
  rw[hd]at h4;have h5:=Lib.cells_of_tab underlying375 underlying361 (by kernel_rfl) (by kernel_rfl) h4;unfold World.var? at h3;rw[hg]at h3;simp only[Option.bind_some]at h3;split at h3
  ·rename_i c e z hh;refine⟨e,z,?_⟩;rw[hh];cases h3;rw[←Array.toArray_toList (xs:=cs),h5]
  ·cases h3
 ·exact As4 (by kernel_rfl) (by kernel_rfl) (Lib.laidMet.reads hm (n := "strconv.ErrSyntax") (d:=YtojhghmilenfkaaGreatDoor.Rows.laid_strconv_ErrSyntax) (by unfold laidL;simp))
 ·exact As4 (by kernel_rfl) (by kernel_rfl) (Lib.laidMet.reads hm (n := "strconv.ErrRange") (d:=YtojhghmilenfkaaGreatDoor.Rows.laid_strconv_ErrRange) (by unfold laidL;simp))
theorem A3b{W:World}(h:W.ShapedOpen prog):gK≤W.heap.size:=by
 obtain⟨o,_,h1,_⟩:=h.2 prog.globals.size (Bo _) (A7 (by kernel_rfl));have:=N6 h1;unfold gK;omega
theorem A4j{W:World}(h1:gK≤W.heap.size)(h2:gOk W):Inv X E0 ⟨[],[]⟩ W where
 nb:=rfl
 nt:=rfl
 np i h:=by simp[E0]at h
 box i b sz rows h:=by simp[E0]at h
 tok t l b c sz h:=by simp[E0]at h
 bb i j b s s' h:=by simp[E0]at h
 bt i t b s l c sz h:=by simp[E0]at h
 tt i j b l c s l' c' s' h:=by simp[E0]at h
 frlt b o h:=h.elim
 lo b h:=by
  rcases h with⟨i,sz,h⟩|⟨t,l,c,sz,h⟩
  ·simp[E0]at h
  ·simp[E0]at h
 frlo b o h:=h.elim
 sz:=h1
 glob:=h2
theorem Ayr{f:FuncId}{xs:List AV}{W:World}{args:Array Value}(hP:Pure X f xs (vb true))(hs:W.ShapedOpen prog)(hL:laidMetH prog laidL W)(hA:RelL W args.toList xs) :
 Calls prog f args W fun e W'=>e=.returned (.bool true)∧Below W.heap.size W W':=by
 refine(hP.2 E0 W args rfl (A4j (A3b hs) (A0r hL)) (by simpa using hA.1) (fun j v x h1 h2=>hA.2 j v x (by simpa using h1) h2)).mono fun e W' he=>?_;obtain⟨E',S',h1,h2,h3⟩:=he;have ho:∀b,¬E0.own b:=fun b h=>by
  rcases h with⟨i,sz,h⟩|⟨t,l,c,sz,h⟩
  ·simp[E0]at h
  ·simp[E0]at h
 refine⟨?_,⟨h2.os,h2.tape,h2.output,h2.size,fun k hk=>h2.block k hk (ho k)⟩⟩;cases e with
 |returned v=>
  obtain⟨r,h4,h5,_⟩:=h3;injection h5 with h5;subst h5;cases h4;rfl
 |panicked ch=>exact absurd h3.1 (by intro h;cases h)
 |outgrown=>exact h3.elim
set_option maxRecDepth 100000
theorem Aqj{H:Type}{enc:TypeId×Value→H}{P:Program}{fn:Func}{s:ChangeSpec}{apart fresh handsOn:Bool}{W W':World}{args:Array Value}{ds gs:List (DataW H)}{before:List MemPlace}{n:String}{g t:Nat}
 (hl:laidOutB P=true)(hp:∀t,t∈fn.params.toList→P.readableRec t=true∧t<P.types.size)(hn:s.vars=[n])(hg:P.globalNamed n=some g)(ht:(P.globals[g]?).map (·.type)=some t)(hr:P.readableRec t=true)(hlt:t<P.types.size)
 (hW:DataW.Whole enc P fn.params.toList s.vars apart W args.toList ds gs before)(hb:Below W.heap.size W W')
 (hargs:∀g1,gs=[g1]→s.fn H (ds++gs)={ results:=[.lit (.bool true)],args:=ds,vars:=gs }){tb:Nat}(hres:fn.resultTypes=#[tb])(htb:P.underlying tb=some .bool) :
 s.post enc P fn apart fresh handsOn false W args (.bool true) W':=by
 have hW':=hW;obtain⟨p,q,hA,hV,rfl,hfz,hnd⟩:=hW;have hlt':∀x,x∈p++q→x.block<W.heap.size:=fun x hx=>hW'.lt x hx;rw[hn]at hV;have hgs:∃g1,gs=[g1]:=by
  obtain⟨_,_,_,_,d,_,h,_⟩:=trodVars_one hV;exact⟨d,h⟩
 obtain⟨g1,hg1⟩:=hgs;have e:=hargs g1 hg1;refine⟨ds,gs,p++q,[],p,q,hW',?_,?_,?_,hb.frame _,fun h=>by cases h⟩
 ·rw[e,hres];exact trodAll_cons_mk (shut_bool htb _) trodAll_mk0
 ·rw[e];exact Wn hl hp hA (fun x hx=>hb.same (hlt' x (by simp[hx]))) (fun x hx=>by simpa using hlt' x (by simp[hx]))
 ·rw[e,hn];exact Aei hl hg ht hr hlt hb hV (fun x hx=>hb.same (hlt' x (by simp[hx]))) (fun x hx=>by simpa using hlt' x (by simp[hx]))
theorem Axh{H:Type}{enc:TypeId×Value→H}{W:World}{base:Nat}{v:Value}{d:DataW H}{ps:List MemPlace}(hv:Value.okWide prog W .any base 24 v)(h:DataW.Trod enc prog W 0 (fun _=>true) true 24 v d ps) :
 ∃n:Nd,PrI n∧LnI n∧Rel E0 W v (nd n):=by
 unfold Value.okWide at hv;rw[underlying24]at hv;obtain⟨cs,rfl,_⟩:=hv;obtain⟨fuel,h⟩:=h;obtain⟨n,⟨h1,h2⟩,h3⟩:=Ay2 fuel _ _ h;exact⟨n,h1,h2,h3.agg⟩
noncomputable def low:Nat:=(World.holding prog default ⟨#[],#[],[]⟩).heap.size
def A4n:DataW Unit→Value
 |.lit (.int k n)=>.int k n
 |.lit (.string s)=>.string ⟨⟨s⟩⟩
 |_=>.nilIface
def Av8:DataW Unit→Array Value
 |.agg l=>(l.map A4n).toArray
 |_=>#[]
def Azu:DataW Unit→Value
 |.iface _ (.ptr (.agg [.lit (.string s)]))=>.string ⟨⟨s⟩⟩
 |_=>.nilIface
def Aqm(cs:Array Value):Obj→Obj
 |.cells _ t frozen=>.cells cs t frozen
 |o=>o
noncomputable def As9(os:Os):World:=
 let w0:=World.holding prog os ⟨#[.cells #[Azu YtojhghmilenfkaaGreatDoor.Rows.laid_strconv_ErrSyntax] 400,.cells #[Azu YtojhghmilenfkaaGreatDoor.Rows.laid_strconv_ErrRange] 400],#[],[]⟩
 let h0:=(((((w0.heap.modify 1 (Aqm (Av8 YtojhghmilenfkaaGreatDoor.Rows.laid_loop_example_g00093_impl_condWords))).modify 6 (Aqm #[.iface 398 (.pointer (some ⟨low,0,none⟩))])).modify 7 (Aqm #[.iface 398 (.pointer (some ⟨low+1,0,none⟩))])).modify
  2 (Aqm (Av8 YtojhghmilenfkaaGreatDoor.Rows.laid_internal_strconv_uint64pow10))).modify 4 (Aqm (Av8 YtojhghmilenfkaaGreatDoor.Rows.laid_math_bits_deBruijn32tab))).modify 5 (Aqm (Av8 YtojhghmilenfkaaGreatDoor.Rows.laid_math_bits_deBruijn64tab))
 { w0 with heap:=h0 }
abbrev Axg:Value:=.agg #[.int .i64 0,.string ⟨#[]⟩,.int .i64 0,.slice none 0 0]
theorem A4q:ownKnob prog.godebug=none:=by kernel_rfl
theorem As8:laidOutB prog=true:=by kernel_rfl
theorem Awe:prog.globalNamed "loop.example/g00093/impl.condWords" = some 1:=by kernel_rfl
theorem A0m:(prog.globals[1]?).map (·.type)=some 338:=by kernel_rfl
theorem A0l:prog.readableRec 338=true:=by kernel_rfl
theorem A0k:338<prog.types.size:=A7 (by kernel_rfl)
end Go.V
namespace Go.V
open Go Go.Proofs Go.Proofs.Tryz
def cpR{α:Type}(f:α→List AV)(z:List AV)(l:List α)(i:Nat):List (List AV):=(l.take i).map f++List.replicate (l.length-i) z
theorem Anf{α:Type}(f:α→List AV)(z:List AV){l:List α}{i:Nat}(h:i<l.length):(cpR f z l i)[i]?=some z:=by
 have:((l.take i).map f).length=i:=by simp;omega
 rw[cpR,Gj (by omega),this,Fv,Ao7,if_pos (by omega)]
theorem Anh{α:Type}(f:α→List AV)(z:List AV){l:List α}{i:Nat}{x:α}(h:l[i]?=some x):(cpR f z l i).set i (f x)=cpR f z l (i+1):=by
 have hi:=Aa h;obtain⟨c,hc⟩:∃c,l.length-i=c+1:=⟨l.length-i-1,by omega⟩
 have hc2:l.length-(i+1)=c:=by omega
 rw[cpR,cpR,hc,hc2,G7,h,Ad2,J8,List.replicate_succ];have:((l.take i).map f).length=i:=by simp;omega
 rw[Gi _ _ (by omega),this,Fv,List.set_cons_zero,Fi];rfl
theorem Ane{α:Type}(f:α→List AV)(z:List AV)(l:List α):cpR f z l l.length=l.map f:=by simp[cpR]
theorem Ang{α:Type}(f:α→List AV)(z:List AV)(l:List α):cpR f z l 0=List.replicate (l.map f).length z:=by simp[cpR]
theorem Azz{f:FuncId}{fn:Func}{F:C3}{bx:List (List (List AV))}{b n:Nat}{rows:List (List AV)}{k:List Item}(hf:X.P.funcs[f]?=some fn)(hb:bx[b]?=some rows)(hn:rows.length=n)(hl:n≤1000000000) [hok:OKR 0 0 rows]
 (h:Md X F ⟨bx,[]⟩ fn.results.toList=some [.bsl b n]:=by rfl):AK X ⟨f,fn,0,0⟩ (.code .ret::k) F ⟨bx,[]⟩ fun e S'=>e=.ret (.sl rows .no)∧S'=⟨[],[]⟩:=by
 subst hn;refine E5 (B:=⟨f,fn,0,0⟩) hf h 0 (Bo _) (r:=.sl rows .no) ?_ (fun rows hr=>by simp at hr) ⟨rfl,rfl⟩;refine .bsl b rows.length rows rows (Cc _) hb (Bo _) (by unfold O0;omega) rfl (fun i r r' h1 h2=>?_) (fun i j r r' x y h1 h2 h3 h4=>?_)
 ·rw[h1]at h2;cases h2;rfl
 ·rw[h1]at h2;cases h2;rw[h3]at h4;cases h4;exact .same x (hok.ok r (Bh h1) x (Bh h3))
theorem Gf{α:Type}{f:α→List AV}{l:List α}{i:Nat}{x:α}(h:l[i]?=some x):(l.map f)[i]?=some (f x):=by simp[h]
abbrev Ji(n:Int):List AV:=[vi n]
instance{n m i:Nat}{l:List Int}:OKR n m (cpR Ji [vi 0] l i):=⟨fun r hr x hx=>by
 rcases zzq47.1 hr with h|h
 ·exact(inferInstance:OKR n m (Ei (l.take i))).ok r h x hx
 ·rw[Abi h]at hx;simp at hx;subst hx;exact .val _⟩
theorem Wl(l:List (Int))(hl:l.length≤1000000000)  : Pure X 20 [.sl (Ei l) .no] (.sl (Ei l) .no):=by
 have hlen:(Ei l).length=l.length:=by simp[Ei]
 refine Pure.run func20 ?_;refine Bm (Ik (n:=(Ei l).length) (b:=0) (by rw[hlen];exact hl) rfl rfl rfl rfl rfl rfl rfl rfl rfl rfl) ?_;refine Av (ι:=Nat) 1 0 (fun i=>i≤l.length) (fun i=>[(4,vi i),(3,.bsl 0 l.length),(0,.sl (Ei l) .no)]) (fun i=>⟨[cpR Ji [vi 0] l i],[]⟩) (fun i=>l.length-i) ?_ 0 (Cc _)
  ⟨rfl,by rw[←hlen];rfl,rfl,trivial⟩ (congrArg (fun b=>St.mk [b] []) (Ang Ji [vi 0] l).symm)
 intro i hi IH;refine Dh (fun h=>?_) (fun h=>?_)
 ·have hlt:i<l.length:=by have:=A7 h;rw[hlen]at this;omega
  obtain⟨x,hx⟩:=Ab l hlt;have hr:=Anf Ji [vi 0] hlt;refine B7 i (by omega) (Gf (f:=Ji) hx) ?_
  skip
  refine Zl i hlt hr ?_;refine Agj hr ?_;refine IH (i+1) hlt (by omega) _ _ ⟨vsx (by omega),rfl,rfl,trivial⟩ ?_ rfl rfl;exact congrArg (fun b=>St.mk [b] []) (Anh Ji [vi 0] hx)
 ·have:i=l.length:=by have:=Bd h;rw[hlen]at this;omega
  subst this;refine Azz func20 (b:=0) ?_ hlen hl;show some (cpR Ji [vi 0] l l.length)=_;rw[Ane];rfl
theorem Tg(l:List (Int))(hl:l.length≤1000000000)  : Pure X 23 [.sl (Ei l) .no,.sl (Ei l) .no] (vb true):=by
 have hlen:(Ei l).length=l.length:=by simp[Ei]
 refine Pure.run func23 ?_;refine Ah ?_ (ht:=by simp);refine Av (ι:=Nat) 0 0 (fun i=>i≤l.length) (fun i=>[(5,vi i),(0,.sl (Ei l) .no),(1,.sl (Ei l) .no)]) (fun i=>⟨[],[]⟩) (fun i=>l.length-i) ?_ 0 (Cc _)
  ⟨rfl,rfl,rfl,trivial⟩
 intro i hi IH;refine Dh (fun h=>?_) (fun h=>?_)
 ·have hlt:i<l.length:=by have:=A7 h;rw[hlen]at this;omega
  obtain⟨x,hx⟩:=Ab l hlt;refine D8 0 ?_;refine Dv i (by omega) (Gf (f:=Ji) hx) ?_;refine Dv i (by omega) (Gf (f:=Ji) hx) ?_
  skip
  refine B6 ?_;refine Ah ?_ (ht:=by simp);exact IH (i+1) hlt (by omega) _ _ ⟨vsx (by omega),rfl,rfl,trivial⟩ rfl rfl rfl
 ·exact Au func23 rfl
def Zk(x:Int):Bool:=Bl x (-1000000) 1000000
theorem Azq(x:Int):Pure X 121 [vi x] (vb (Zk x)):=by
 refine Pure.run func121 ?_;refine Al (H2 x (-1000000) 1000000) ?_;exact Au func121 rfl
structure Cf where
 pt:Int
 vars:List Int
 cells:List (List (Bool×Int))
 used:Int
 steps:Int
 trap:Int
 edge:Int
 acc:Int
abbrev Wi(c:Bool×Int):List AV:=[vb c.1,vi c.2]
def Rh(l:List (Bool×Int)):List (List AV):=l.map Wi
abbrev Awf(l:List (Bool×Int)):List AV:=[.sl (Rh l) .no]
def Yc(l:List (List (Bool×Int))):List (List AV):=l.map Awf
abbrev Iz(c:Cf):List AV:=[vi c.pt,.sl (Ei c.vars) .no,.sl (Yc c.cells) .no,vi c.used,vi c.steps,vi c.trap,vi c.edge,vi c.acc]
abbrev cf(c:Cf):AV:=.agg (Iz c)
instance{n m:Nat}{l:List (Bool×Int)}:OKR n m (Rh l):=⟨fun r hr x hx=>by
 obtain⟨e,_,rfl⟩:=zzq68.1 hr;simp at hx;rcases hx with rfl|rfl<;>exact .val _⟩
instance{n m:Nat}{l:List (List (Bool×Int))}:OKR n m (Yc l):=⟨fun r hr x hx=>by
 obtain⟨e,_,rfl⟩:=zzq68.1 hr;simp at hx;subst hx;exact(inferInstance:OK n m (.sl (Rh e) .no)).ok⟩
theorem Il(l:List (Bool×Int)):(Rh l).length=l.length:=by simp[Rh]
theorem Acw(l:List (List (Bool×Int))):(Yc l).length=l.length:=by simp[Yc]
def Abr{α:Type}(p:α→Bool):Nat→List α→Int
 |_,[]=>-1
 |i,x::l=>if p x then i else Abr p (i+1) l
theorem Ai8{α:Type}(p:α→Bool):∀(l:List α)(i:Nat),decide (Abr p i l≥0)=l.any p
 |[],i=>by simp[Abr]
 |x::l,i=>by
  have hb:(x::l).any p=(p x||l.any p):=rfl;rw[hb,←Ai8 p l (i+1)];by_cases h:p x=true
  ·simp[Abr,h]
  ·have h':p x=false:=by simpa using h
   have:Abr p i (x::l)=Abr p (i+1) l:=by simp only[Abr];rw[if_neg h]
   rw[this,h'];rfl
theorem Ajd(f:Eg→Int)(l:List Eg){pts j:Nat}(h:j<pts):(V9 f l pts)[j]?=some [.sl (Uf (L0 f l j)) .no]:=by simp[V9,h]
structure CfOk (c:Cf):Prop where
 vars:c.vars.length≤1000000000
 cells:c.cells.length≤1000000000
 rows:∀x,x∈c.cells→x.length≤1000000000
theorem Xs(n:Nd):(D9 n).length=(Ax n 32).length:=by rw[Ag0,D9,U7,U7]
theorem Zy{n:Nd}(hr:Fe n=true):(D4 (A9 n)).pts≤2000000∧(Lv (A9 n)).length≤2000000:=by
 obtain⟨fp,hc,hw,hne,hkl⟩:=Iv hr;obtain⟨ds,hpl,_,hps,hwl⟩:=Abt fp;have hpw:=(Po n).1;have hps2:=Mn hps Cg ⟨1,0,[],[],[],0⟩ (by decide);have hl:=Ly 6 Cg hps2.pt;have hA:=hps2.trans hl (Bo _);obtain⟨es,e1,e2,e3⟩:=hA.es;have hpp:=hA.pts;simp only[bG]at e2 hpp;have hes:(D4 (A9 n)).es=es:=by unfold D4;rw[e1];rfl
 refine⟨by show _≤_;unfold D4;have:(1:Nat)=(⟨1,0,[],[],[],0⟩:Gr).pts:=rfl;omega,by unfold Lv;rw[hes,U7];omega⟩
structure CfLn (c:Cf):Prop where
 vars:c.vars.length≤9223372036854775807
 cells:c.cells.length≤9223372036854775807
 rows:∀x,x∈c.cells→x.length≤9223372036854775807
set_option maxRecDepth 100000
section
variable {H:Type}{enc:TypeId×Value→H}{w:World}{sp:Nat→Bool}{held:Bool}
theorem Aq6(fuel:Nat)(cs:List Value)(x:DataW H×List MemPlace)(h:DataW.trod enc prog w 0 sp held fuel 3 cs=some x):∃n:Int,True∧RelL w cs (Ji n):=by
 obtain⟨n,_,_,rfl⟩:=Amt underlying3 h;exact⟨n,trivial,.one (.val _)⟩
theorem Aq7(fuel:Nat)(cs:List Value)(x:DataW H×List MemPlace)(h:DataW.trod enc prog w 0 sp held fuel 37 cs=some x):∃l:List Int,l.length≤9223372036854775807∧RelL w cs [.sl (Ei l) .no]:=by
 obtain⟨l,_,h1,h2⟩:=Aft Ji (fun _=>True) underlying37 (show prog.cellsOf 3=1 by kernel_rfl) (by decide) (fun y=>rfl) (fun n _ cs' x' hx'=>Aq6 n cs' x' hx') h;exact⟨l,h1,h2⟩
end
end Go.V
namespace Go.V
open Go Go.Proofs Go.ChangeShapes Go.WideShapes Go.ChangeAt Go.RowKit Go.Proofs.Tryz
set_option maxRecDepth 100000
abbrev inl(l:List Int):AV:=.sl (Ei l) .no
abbrev Aa7:Value:=.slice none 0 0
theorem Anw{H:Type}{enc:TypeId×Value→H}{W:World}{base:Nat}{v:Value}{d:DataW H}{ps:List MemPlace}(hv:Value.okWide prog W .any base 37 v)(h:DataW.Trod enc prog W 0 (fun _=>true) true 37 v d ps) :
 ∃l:List Int,l.length≤9223372036854775807∧Rel E0 W v (inl l):=by
 obtain⟨a0,len,cap,rfl⟩:=okWide_slice underlying37 hv;obtain⟨fuel,h⟩:=h;obtain⟨l,h0,h2⟩:=Aq7 fuel _ _ h;exact⟨l,h0,Apf h2⟩
theorem A05{H:Type}{enc:TypeId×Value→H}{W:World}{base:Nat}{v:Value}{d:DataW H}{ps:List MemPlace}(hv:Value.okWide prog W .any base 3 v)(_:DataW.Trod enc prog W 0 (fun _=>true) true 3 v d ps) :
 ∃k:Int,True∧Rel E0 W v (vi k):=by
 obtain⟨n,rfl⟩:=okWide_int underlying3 hv;exact⟨n,trivial,.val _⟩
end Go.V
namespace Go.V
open Go Go.Proofs Go.Proofs.Tryz
def Fr(p:Nat)(l:List Eg):List Eg:=l.filter fun e=>e.f==(p:Int)
theorem Lr(p:Nat)(a b:List Eg):Fr p (a++b)=Fr p a++Fr p b:=Abm ..
theorem Ars(p:Nat)(e:Eg):Fr p [e]=if e.f=(p:Int)then[e]else[]:=by
 by_cases h:e.f=(p:Int)
 ·simp[Fr,h]
 ·simp[Fr,h]
theorem W2{p:Nat}{e:Eg}(h:e.f=(p:Int)):Fr p [e]=[e]:=by rw[Ars,if_pos h]
theorem Aep{p:Nat}{e:Eg}(h:¬e.f=(p:Int)):Fr p [e]=[]:=by rw[Ars,if_neg h]
def X1(p:Nat)(l:List Eg):Prop:=(∃e,l=[e]∧¬e.k=4)∨∃t1 t2 c,l=[⟨p,t1,4,true,c⟩,⟨p,t2,4,false,c⟩]
structure Pc (lo hi a b:Nat)(l:List Eg):Prop where
 none:∀p,p≠a→p<lo∨hi≤p→Fr p l=[]
 last:Fr b l=[]
 done:(l=[]∧lo=hi∧b=a)∨(lo≤b∧b<hi∧X1 a (Fr a l)∧∀p,lo≤p→p<hi→p≠b→X1 p (Fr p l))
theorem Pc.trans{lo mid hi a b c:Nat}{l1 l2:List Eg}(h1:Pc lo mid a b l1)(h2:Pc mid hi b c l2)(ha:a<lo)(h3:lo≤mid)(h4:mid≤hi):Pc lo hi a c (l1++l2):=by
 have hb:b=a∨(lo≤b∧b<mid):=by rcases h1.done with⟨_,_,h⟩|⟨h,h',_⟩<;>omega
 have hc:c=b∨(mid≤c∧c<hi):=by rcases h2.done with⟨_,_,h⟩|⟨h,h',_⟩<;>omega
 refine⟨fun p hp hr=>?_,?_,?_⟩
 ·rw[Lr,h1.none p hp (by omega),h2.none p (by omega) (by omega)];rfl
 ·rw[Lr,h2.last,G4];rcases h2.done with⟨_,_,rfl⟩|⟨q1,q2,_⟩
  ·exact h1.last
  ·exact h1.none c (by omega) (by omega)
 ·rcases h1.done with⟨rfl,rfl,rfl⟩|⟨p1,p2,p3,p4⟩
  ·exact h2.done
  ·rcases h2.done with⟨rfl,rfl,rfl⟩|⟨q1,q2,q3,q4⟩
   ·rw[G4];exact .inr ⟨p1,p2,p3,p4⟩
   ·refine .inr ⟨by omega,q2,?_,fun p g1 g2 g3=>?_⟩
    ·rw[Lr,h2.none a (by omega) (by omega),G4];exact p3
    ·rw[Lr];rcases Gu p mid with hm|hm
     ·by_cases hpb:p=b
      ·subst hpb;rw[h1.last];exact q3
      ·rw[h2.none p hpb (.inl hm),G4];exact p4 p g1 hm hpb
     ·rw[h1.none p (by omega) (.inr hm)];exact q4 p hm g2 g3
structure Cl (lo hi a:Nat)(l:List Eg):Prop where
 none:∀p,p≠a→p<lo∨hi≤p→Fr p l=[]
 at_:X1 a (Fr a l)
 done:∀p,lo≤p→p<hi→X1 p (Fr p l)
theorem Pc.close{lo hi a b:Nat}{l:List Eg}{e:Eg}(h:Pc lo hi a b l)(ha:a<lo)(he:e.f=(b:Int))(hk:¬e.k=4):Cl lo hi a (l++[e]):=by
 have key:∀p,p≠b→Fr p (l++[e])=Fr p l:=fun p hp=>by rw[Lr,Aep (by rw[he];omega),G4]
 have kb:Fr b (l++[e])=[e]:=by rw[Lr,h.last,W2 he];rfl
 rcases h.done with⟨rfl,rfl,rfl⟩|⟨p1,p2,p3,p4⟩
 ·exact⟨fun p hp _=>by rw[key p hp];rfl,by rw[kb];exact .inl ⟨e,rfl,hk⟩,fun p _ _=>by omega⟩
 ·refine⟨fun p hp hr=>by rw[key p (by omega)];exact h.none p hp hr,by rw[key a (by omega)];exact p3,fun p g1 g2=>?_⟩;by_cases hpb:p=b
  ·subst hpb;rw[kb];exact .inl ⟨e,rfl,hk⟩
  ·rw[key p hpb];exact p4 p g1 g2 hpb
structure Out (g g':Gr):Prop where
 es:∃l,g'.es=g.es++l∧Pc g.pts g'.pts g.pt g'.pt l
 pts:g.pts≤g'.pts
 pt:g'.pt<g'.pts
theorem Out.refl{g:Gr}(h:g.pt<g.pts):Out g g:=⟨⟨[],by simp,⟨fun _ _ _=>rfl,rfl,.inl ⟨rfl,rfl,rfl⟩⟩⟩,Bo _,h⟩
theorem Out.trans{g g' g'':Gr}(hp:g.pt<g.pts)(h:Out g g')(h':Out g' g''):Out g g'':=by
 obtain⟨l1,e1,p1⟩:=h.es;obtain⟨l2,e2,p2⟩:=h'.es;exact⟨⟨l1++l2,by rw[e2,e1,Fi],p1.trans p2 hp h.pts h'.pts⟩,Nt h.pts h'.pts,h'.pt⟩
theorem An7{g:Gr}(hp:g.pt<g.pts){e:Eg}(he:e.f=(g.pt:Int))(hk:¬e.k=4):Pc g.pts (g.pts+1) g.pt g.pts [e]:=
 ⟨fun p h _=>Aep (by rw[he];omega),Aep (by rw[he];omega),.inr ⟨Bo _,by omega,by rw[W2 he];exact .inl ⟨e,rfl,hk⟩,fun p h1 h2 h3=>by omega⟩⟩
theorem Qo(k:Int)(n:Nd){g:Gr}(hp:g.pt<g.pts)(hk:¬k=4):Out g (Dl k n g):=⟨⟨_,rfl,An7 hp rfl hk⟩,by simp[Dl],by simp[Dl]⟩
theorem Auy{g:Gr}(hp:g.pt<g.pts):Out g (Ov g):=⟨⟨_,rfl,An7 hp rfl (by simp)⟩,by simp[Ov],by simp[Ov]⟩
theorem A03{c:Nd}{f1 f2:Gr→Gr}(h1:∀g:Gr,g.pt<g.pts→Out g (f1 g))(h2:∀g:Gr,g.pt<g.pts→Out g (f2 g)){g:Gr}(hp:g.pt<g.pts):Out g (gIf c f1 f2 g):=by
 have o1:=h1 (D5 g.pt c true g) (by simp[D5]);have o2:=h2 (D5 g.pt c false (f1 (D5 g.pt c true g))) (by simp[D5]);obtain⟨l1,e1,p1⟩:=o1.es;obtain⟨l2,e2,p2⟩:=o2.es;have b1:=o1.pts;have b2:=o2.pts;have c1:=o1.pt;have c2:=o2.pt;unfold gIf;generalize hA:f1 (D5 g.pt c true g)=A at *;generalize hB:f2 (D5 g.pt c false A)=B at *;simp only[D5]at e1 p1 b1 c1 e2 p2 b2;refine⟨⟨[⟨g.pt,g.pts,4,true,c⟩]++(l1++([⟨g.pt,A.pts,4,false,c⟩]++(l2++([⟨A.pt,B.pts,6,false,Cg⟩]++[⟨B.pt,B.pts,6,false,Cg⟩])))),by simp[Nw,Iu,e2,e1],?_⟩,by simp[Nw,Iu];omega,by simp[Nw,Iu]⟩;have k1:=p1.close (e:=⟨A.pt,B.pts,6,false,Cg⟩) (by omega) rfl (by simp);have k2:=p2.close (e:=⟨B.pt,B.pts,6,false,Cg⟩) (by omega) rfl (by simp);have hAp:A.pt=g.pts∨(g.pts+1≤A.pt∧A.pt<A.pts):=by rcases p1.done with⟨_,_,h⟩|⟨h,h',_⟩<;>omega
 have hBp:B.pt=A.pts∨(A.pts+1≤B.pt∧B.pt<B.pts):=by rcases p2.done with⟨_,_,h⟩|⟨h,h',_⟩<;>omega
 show Pc g.pts (B.pts+1) g.pt B.pts _;have tot:∀p,Fr p ([⟨g.pt,g.pts,4,true,c⟩]++(l1++([⟨g.pt,A.pts,4,false,c⟩]++(l2++([⟨A.pt,B.pts,6,false,Cg⟩]++[⟨B.pt,B.pts,6,false,Cg⟩]))))) =
  Fr p [⟨g.pt,g.pts,4,true,c⟩]++(Fr p l1++(Fr p [⟨g.pt,A.pts,4,false,c⟩]++(Fr p l2++(Fr p [⟨A.pt,B.pts,6,false,Cg⟩]++Fr p [⟨B.pt,B.pts,6,false,Cg⟩])))):=fun p=>by simp only[Lr]
 have n1:∀p,p≠g.pt→∀t y,Fr p [⟨g.pt,t,4,y,c⟩]=[]:=fun p hp t y=>Aep (by simp only;omega);have atA:∀p,(p=g.pts∨(g.pts+1≤p∧p<A.pts))→X1 p (Fr p (l1++[⟨A.pt,B.pts,6,false,Cg⟩])):=fun p hp=>by
  rcases hp with rfl|⟨h,h'⟩
  ·exact k1.at_
  ·exact k1.done p h h'
 have atB:∀p,(p=A.pts∨(A.pts+1≤p∧p<B.pts))→X1 p (Fr p (l2++[⟨B.pt,B.pts,6,false,Cg⟩])):=fun p hp=>by
  rcases hp with rfl|⟨h,h'⟩
  ·exact k2.at_
  ·exact k2.done p h h'
 have zA:∀p,p≠g.pts→p<g.pts+1∨A.pts≤p→Fr p l1=[]∧Fr p [⟨A.pt,B.pts,6,false,Cg⟩]=[]:=fun p h h'=>by
  have:=k1.none p h h';rw[Lr,List.append_eq_nil_iff]at this;exact this
 have zB:∀p,p≠A.pts→p<A.pts+1∨B.pts≤p→Fr p l2=[]∧Fr p [⟨B.pt,B.pts,6,false,Cg⟩]=[]:=fun p h h'=>by
  have:=k2.none p h h';rw[Lr,List.append_eq_nil_iff]at this;exact this
 refine⟨fun p h h'=>?_,?_,.inr ⟨by omega,by omega,?_,fun p h h' h''=>?_⟩⟩
 ·rw[tot,n1 p h,n1 p h,(zA p (by omega) (by omega)).1,(zA p (by omega) (by omega)).2,(zB p (by omega) (by omega)).1,(zB p (by omega) (by omega)).2];rfl
 ·rw[tot,n1 _ (by omega),n1 _ (by omega),(zA _ (by omega) (by omega)).1,(zA _ (by omega) (by omega)).2,(zB _ (by omega) (by omega)).1,(zB _ (by omega) (by omega)).2];rfl
 ·rw[tot,(zA _ (by omega) (by omega)).1,(zA _ (by omega) (by omega)).2,(zB _ (by omega) (by omega)).1,(zB _ (by omega) (by omega)).2,W2 rfl,W2 rfl];exact .inr ⟨_,_,_,rfl⟩
 ·rw[tot,n1 p (by omega),n1 p (by omega)];rcases Gu p A.pts with hA'|hA'
  ·rw[(zB p (by omega) (by omega)).1,(zB p (by omega) (by omega)).2];have:=atA p (by omega);rw[Lr]at this;simpa using this
  ·rw[(zA p (by omega) (by omega)).1,(zA p (by omega) (by omega)).2];have:=atB p (by omega);rw[Lr]at this;simpa using this
theorem A2l{n a c:Nd}{f:Gr→Gr}(h1:∀g:Gr,g.pt<g.pts→Out g (f g)){g:Gr}(hp:g.pt<g.pts):Out g (gWh n a c f g):=by
 have o1:=h1 (D5 g.pts c true (Hm a n (Dl 6 Cg g))) (by simp[D5]);obtain⟨l1,e1,p1⟩:=o1.es;have b1:=o1.pts;have c1:=o1.pt;unfold gWh;generalize hA:f (D5 g.pts c true (Hm a n (Dl 6 Cg g)))=A at *;simp only[D5,Hm,Dl]at e1 p1 b1 c1;refine⟨⟨[⟨g.pt,g.pts,6,false,Cg⟩]++([⟨g.pts,(g.pts+1:Nat),4,true,c⟩]++(l1++([⟨A.pt,g.pts,6,false,Cg⟩]++[⟨g.pts,A.pts,4,false,c⟩]))),by simp[Ub,D5,Lc,Iu,e1],?_⟩,by simp[Ub,D5,Lc,Iu];omega,by simp[Ub,D5,Lc,Iu]⟩;have k1:=p1.close (e:=⟨A.pt,g.pts,6,false,Cg⟩) (by omega) rfl (by simp);show Pc g.pts (A.pts+1) g.pt A.pts _;have tot:∀p,Fr p ([⟨g.pt,g.pts,6,false,Cg⟩]++([⟨g.pts,(g.pts+1:Nat),4,true,c⟩]++(l1++([⟨A.pt,g.pts,6,false,Cg⟩]++[⟨g.pts,A.pts,4,false,c⟩])))) =
  Fr p [⟨g.pt,g.pts,6,false,Cg⟩]++(Fr p [⟨g.pts,(g.pts+1:Nat),4,true,c⟩]++(Fr p l1++(Fr p [⟨A.pt,g.pts,6,false,Cg⟩]++Fr p [⟨g.pts,A.pts,4,false,c⟩]))):=fun p=>by simp only[Lr]
 have n0:∀p,p≠g.pt→Fr p [⟨g.pt,g.pts,6,false,Cg⟩]=[]:=fun p hp=>Aep (by simp only;omega);have n1:∀p,p≠g.pts→∀t y,Fr p [⟨g.pts,t,4,y,c⟩]=[]:=fun p hp t y=>Aep (by simp only;omega);have zA:∀p,p≠g.pts+1→p<g.pts+1+1∨A.pts≤p→Fr p l1=[]∧Fr p [⟨A.pt,g.pts,6,false,Cg⟩]=[]:=fun p h h'=>by
  have:=k1.none p h h';rw[Lr,List.append_eq_nil_iff]at this;exact this
 refine⟨fun p h h'=>?_,?_,.inr ⟨by omega,by omega,?_,fun p h h' h''=>?_⟩⟩
 ·rw[tot,n0 p h,n1 p (by omega),n1 p (by omega),(zA p (by omega) (by omega)).1,(zA p (by omega) (by omega)).2];rfl
 ·rw[tot,n0 _ (by omega),n1 _ (by omega),n1 _ (by omega),(zA _ (by omega) (by omega)).1,(zA _ (by omega) (by omega)).2];rfl
 ·rw[tot,n1 _ (by omega),n1 _ (by omega),(zA _ (by omega) (by omega)).1,(zA _ (by omega) (by omega)).2,W2 rfl];exact .inl ⟨_,rfl,by simp⟩
 ·rw[tot,n0 p (by omega)];by_cases hg:p=g.pts
  ·subst hg;rw[(zA _ (by omega) (by omega)).1,(zA _ (by omega) (by omega)).2,W2 rfl,W2 rfl];exact .inr ⟨_,_,_,rfl⟩
  ·rw[n1 p hg,n1 p hg];have:X1 p (Fr p (l1++[⟨A.pt,g.pts,6,false,Cg⟩])):=by
    by_cases hb:p=g.pts+1
    ·subst hb;exact k1.at_
    ·exact k1.done p (by omega) (by omega)
   rw[Lr]at this;simpa using this
theorem Ag9{l:List Nd}(h:∀x,x∈l→∀(a:Nd)(g:Gr),g.pt<g.pts→Out g (gS x a g)):∀(a:Nd)(g:Gr),g.pt<g.pts→Out g (gL l a g):=by
 induction l with
 |nil=>intro a g hp;exact .refl hp
 |cons x l ih=>
  intro a g hp;rw[Yl];have h1:=h x (by simp) a g hp;exact h1.trans hp (ih (fun y hy=>h y (by simp[hy])) x _ h1.pt)
theorem Az4{n:Nd}(h:PS n):∀(a:Nd)(g:Gr),g.pt<g.pts→Out g (gS n a g):=by
 induction h with
 |set s b h hb=>intro a g hp;rw[Z5];exact Qo _ _ hp (by omega)
 |put s b c h hb hc=>intro a g hp;rw[Z4];exact Qo _ _ hp (by omega)
 |read s h=>intro a g hp;rw[Vk];exact Qo _ _ hp (by omega)
 |ifs c l l' hc hl hl' ihl ihl'=>intro a g hp;rw[Ae7];exact A03 (Ag9 ihl Cg) (Ag9 ihl' Cg) hp
 |whil c l hc hl ihl=>intro a g hp;rw[Ae8];exact A2l (Ag9 ihl Cg) hp
 |check c hc=>intro a g hp;rw[Qk];exact Qo _ _ hp (by omega)
 |skip=>intro a g hp;rw[Vl];exact Qo _ _ hp (by omega)
 |stop=>intro a g hp;rw[Vm];exact Auy hp
theorem Ai4{l:List Nd}(h:∀x,x∈l→PS x):(D4 l).pt+1=(D4 l).pts∧∀p:Nat,p<(D4 l).pt→X1 p (Fr p (D4 l).es):=by
 have hp:(⟨1,0,[],[],[],0⟩:Gr).pt<(⟨1,0,[],[],[],0⟩:Gr).pts:=by simp
 have o1:=Ag9 (fun x hx=>Az4 (h x hx)) Cg _ hp;have o2:=Qo 6 Cg o1.pt (by omega);have o:=o1.trans hp o2;refine⟨rfl,fun p hp'=>?_⟩;obtain⟨es,he,hP⟩:=o.es;have hes:(D4 l).es=es:=by unfold D4;rw[he];rfl
 rw[hes];simp only at hP;rcases hP.done with⟨_,h1,_⟩|⟨_,_,h3,h4⟩
 ·have:=o1.pts;simp[Dl]at h1 this;omega
 ·by_cases h0:p=0
  ·subst h0;exact h3
  ·exact h4 p (by omega) (by have:(D4 l).pts=_:=rfl;unfold D4 at hp';simp[Dl]at hp'⊢;omega) (by unfold D4 at hp';simp[Dl]at hp'⊢;omega)
theorem Avs(p:Nat)(x:Int)(l:List Eg):Fr p (l.map (Dy x))=(Fr p l).map (Dy x):=by
 unfold Fr;rw[List.filter_map];congr 1;apply List.filter_congr;intro e _;simp only[Function.comp,Dy];split<;>rfl
theorem Awo{l:List Nd}(h:∀x,x∈l→PS x){p:Nat}(hp:(p:Int)<(D4 l).pts-1):X1 p (Fr p (Lv l)):=by
 obtain⟨h1,h2⟩:=Ai4 h;unfold Lv;rw[Avs];rcases h2 p (by omega)with⟨e,h3,h4⟩|⟨t1,t2,c,h3⟩
 ·rw[h3];exact .inl ⟨_,rfl,by unfold Dy;split<;>exact h4⟩
 ·rw[h3];have ht:∀(x:Int) (e:Eg),Dy x e=⟨e.f,(Dy x e).t,e.k,e.y,e.n⟩:=fun x e=>by unfold Dy;split<;>rfl
  refine .inr ⟨(Dy (D4 l).pt ⟨p,t1,4,true,c⟩).t,(Dy (D4 l).pt ⟨p,t2,4,false,c⟩).t,c,?_⟩;rw[Nz,Nz,List.map_nil,ht,ht _ ⟨p,t2,4,false,c⟩]
def Uh(vars arrs:List (List UInt8))(n:Nd):Bool:=
 if Gq n.kind=31 then decide (Ey 0 vars n.name≥0)else if Gq n.kind=32 then decide (Ey 0 arrs n.name≥0)else true
mutual
def E9(vars arrs:List (List UInt8)):Nd→Bool
 |.mk k s m ks=>Uh vars arrs (.mk k s m ks)&&Qn vars arrs ks
def Qn(vars arrs:List (List UInt8)):List Nd→Bool
 |[]=>true
 |x::l=>E9 vars arrs x&&Qn vars arrs l
end
theorem Lx(vars arrs:List (List UInt8))(n:Nd):E9 vars arrs n=(Uh vars arrs n&&Qn vars arrs n.kids):=by cases n;rw[E9];rfl
theorem An1(vars arrs:List (List UInt8))(n:Nd):Uh vars arrs n=!Ht vars arrs 8 n.kind n.name:=by
 unfold Uh Ht;rcases O8 n.kind with⟨h1,h2⟩|⟨h1,h2⟩|⟨h1,h2⟩<;>simp[h1,h2]
theorem A08(vars arrs:List (List UInt8))(n:Nd)(h:Uh vars arrs n=true):Ht vars arrs 7 n.kind n.name=false:=by
 unfold Uh at h;unfold Ht;rcases O8 n.kind with⟨h1,h2⟩|⟨h1,h2⟩|⟨h1,h2⟩<;>simp[h1]at h<;>simp[h2,h]
theorem Alr(vars arrs:List (List UInt8)):(∀n:Nd,E9 vars arrs n=(!(G3 vars arrs 7 n).2&&!(G3 vars arrs 8 n).2))∧∀l:List Nd,Qn vars arrs l=(!(Mw vars arrs 7 l).2&&!(Mw vars arrs 8 l).2):=by
 refine Ro (fun k s m ks ih=>?_) rfl (fun x l hx hl=>?_)
 ·rw[Lx,Ra,Ra];cases h:Uh vars arrs (.mk k s m ks)with
  |true=>
   have h7:=A08 _ _ _ h;have h8:=An1 vars arrs (.mk k s m ks);rw[h]at h8;have h8':Ht vars arrs 8 (Nd.mk k s m ks).kind (Nd.mk k s m ks).name=false:=by simpa using h8.symm
   rw[if_neg (by rw[h7];simp),if_neg (by rw[h8'];simp)];simpa using ih
  |false=>
   have h8:=An1 vars arrs (.mk k s m ks);rw[h]at h8;have h8':Ht vars arrs 8 (Nd.mk k s m ks).kind (Nd.mk k s m ks).name=true:=by simpa using h8.symm
   rw[if_pos h8'];simp
 ·simp only[Qn,Mw];rw[hx,hl];cases h7:(G3 vars arrs 7 x).2<;>cases h8:(G3 vars arrs 8 x).2<;>simp[h7,h8]
theorem Ahm{vs ars:List (List UInt8)}{k:Int}{s:List UInt8}{m:Int}{x:Nd}(h:E9 vs ars (.mk k s m [x])=true):E9 vs ars x=true:=by
 rw[Lx]at h;simp[Qn]at h;exact h.2
theorem Aab{vs ars:List (List UInt8)}{k:Int}{s:List UInt8}{m:Int}{x y:Nd}(h:E9 vs ars (.mk k s m [x,y])=true):E9 vs ars x=true∧E9 vs ars y=true:=by
 rw[Lx]at h;simp[Qn]at h;exact h.2
theorem Wk{vs ars:List (List UInt8)}{k:Int}{s:List UInt8}{m:Int}{l:List Nd}(h:E9 vs ars (.mk k s m l)=true):(Gq k=31→Ey 0 vs s≥0)∧(Gq k=32→Ey 0 ars s≥0):=by
 rw[Lx,Da]at h;have h1:=h.1;replace h1:(if Gq k=31 then decide (Ey 0 vs s≥0)else if Gq k=32 then decide (Ey 0 ars s≥0)else true)=true:=h1;constructor
 ·intro hw;rw[if_pos hw]at h1;exact A7 h1
 ·intro hw;rw[if_neg (by omega),if_pos hw]at h1;exact A7 h1
inductive PK (vs ars:List (List UInt8)):Nd→Prop
 |set (s:List UInt8) (a:Nd) (h:Ey 0 vs s≥0) (ha:FE a) (ka:E9 vs ars a=true):PK vs ars (.mk 21 s 0 [a])
 |put (s:List UInt8) (a b:Nd) (h:Ey 0 ars s≥0) (ha:FE a) (ka:E9 vs ars a=true) (hb:FE b) (kb:E9 vs ars b=true):PK vs ars (.mk 22 s 0 [a,b])
 |read (s:List UInt8) (h:Ey 0 vs s≥0):PK vs ars (.mk 23 s 0 [])
 |ifs (c:Nd) (l l':List Nd) (hc:FC c) (kc:E9 vs ars c=true) (hl:∀x,x∈l→PK vs ars x) (hl':∀x,x∈l'→PK vs ars x):PK vs ars (.mk 24 [] 0 [c,.mk 30 [] 0 l,.mk 30 [] 0 l'])
 |whil (c:Nd) (l:List Nd) (hc:FC c) (kc:E9 vs ars c=true) (hl:∀x,x∈l→PK vs ars x):PK vs ars (.mk 25 [] 0 [c,.mk 30 [] 0 l])
 |check (c:Nd) (hc:FC c) (kc:E9 vs ars c=true):PK vs ars (.mk 27 [] 0 [c])
 |skip:PK vs ars (.mk 28 [] 0 [])
 |stop:PK vs ars (.mk 29 [] 0 [])
section
variable {vs ars:List (List UInt8)}
theorem Ap1{l:List Nd}(h:Qn vs ars l=true):∀x,x∈l→E9 vs ars x=true:=by
 induction l with
 |nil=>intro x hx;cases hx
 |cons y l ih=>
  simp only[Qn,Da]at h;intro x hx;rcases zzq13.1 hx with rfl|hx
  ·exact h.1
  ·exact ih h.2 x hx
theorem G1{n x:Nd}(h:E9 vs ars n=true)(hx:x∈n.kids):E9 vs ars x=true:=by
 rw[Lx,Da]at h;exact Ap1 h.2 x hx
theorem O3{l:List Nd}(h:∀x,x∈l→∀y,y∈G2 x→PK vs ars y):∀y,y∈Bt l→PK vs ars y:=by
 induction l with
 |nil=>intro y hy;rw[A4]at hy;cases hy
 |cons x l ih=>
  intro y hy;rw[Ao]at hy;rcases zzq47.1 hy with hy|hy
  ·exact h x (by simp) y hy
  ·exact ih (fun z hz=>h z (by simp[hz])) y hy
theorem A2w{n:Nd}(h:FS n):E9 vs ars n=true→∀y,y∈G2 n→PK vs ars y:=by
 induction h with
 |set s a h ha=>
  intro hk y hy;rw[Be (by simp),Bc,Ao,A4,Iq ha]at hy;simp at hy;subst hy;exact .set s a ((Wk hk).1 rfl) ha (G1 hk (by simp))
 |put s a b h ha hb=>
  intro hk y hy;rw[Be (by simp),Bc,Ao,Ao,A4,Iq ha,Iq hb]at hy;simp at hy;subst hy;exact .put s a b ((Wk hk).2 rfl) ha (G1 hk (by simp)) hb (G1 hk (by simp))
 |read s h=>
  intro hk y hy;rw[Be (by simp),Bc,A4]at hy;simp at hy;subst hy;exact .read s ((Wk hk).1 rfl)
 |ifs c l l' hc hl hl' ihl ihl'=>
  intro hk y hy;rw[Be (by simp),Bc,Ao,Ao,Ao,A4,Qv hc,Lg,Lg]at hy;simp at hy;subst hy;have k1:E9 vs ars (.mk 30 [] 0 l)=true:=G1 hk (by simp);have k2:E9 vs ars (.mk 30 [] 0 l')=true:=G1 hk (by simp);exact .ifs c _ _ hc (G1 hk (by simp)) (O3 fun x hx=>ihl x hx (G1 k1 (by simpa using hx))) (O3 fun x hx=>ihl' x hx (G1 k2 (by simpa using hx)))
 |whil c l hc hl ihl=>
  intro hk y hy;rw[Be (by simp),Bc,Ao,Ao,A4,Qv hc,Lg]at hy;simp at hy;subst hy;have k1:E9 vs ars (.mk 30 [] 0 l)=true:=G1 hk (by simp);exact .whil c _ hc (G1 hk (by simp)) (O3 fun x hx=>ihl x hx (G1 k1 (by simpa using hx)))
 |for_ s a b l h ha hb hl ihl=>
  intro hk y hy;rw[K3,Ao,Ao,Ao,A4,Iq ha,Iq hb,Lg]at hy;simp only[Pu,U8,Aef,zzq13,Wv,or_false]at hy;have hi:Ey 0 vs s≥0:=(Wk hk).1 rfl;have kv:E9 vs ars (.mk 2 s 0 [])=true:=by rw[Lx];simp[Qn,Uh,Gq,Nd.kind,Nd.name,hi]
  have k1:E9 vs ars (.mk 1 [] 1 [])=true:=by rw[Lx];simp[Qn,Uh,Gq,Nd.kind]
  have kb:=G1 hk (x:=b) (by simp);rcases hy with rfl|rfl
  ·exact .set s a hi ha (G1 hk (by simp))
  ·refine .whil _ _ (.mk 11 _ _ (by omega) (by omega) (.var s h) hb) (by rw[Lx];simp[Qn,Uh,Gq,Nd.kind,kv,kb]) fun y hy=>?_;have k3:E9 vs ars (.mk 30 [] 0 l)=true:=G1 hk (by simp);rcases zzq47.1 hy with hy|hy
   ·exact O3 (fun x hx=>ihl x hx (G1 k3 (by simpa using hx))) y hy
   ·simp at hy;subst hy;exact .set s _ hi (.two 6 _ _ (.inl rfl) (.var s h) (.num 1 (by omega) (by omega))) (by rw[Lx];simp[Qn,Uh,Gq,Nd.kind,kv,k1])
 |check c hc=>
  intro hk y hy;rw[Be (by simp),Bc,Ao,A4,Qv hc]at hy;simp at hy;subst hy;exact .check c hc (G1 hk (by simp))
 |skip=>intro _ y hy;rw[Be (by simp),Bc,A4]at hy;simp at hy;subst hy;exact .skip
 |stop=>intro _ y hy;rw[Be (by simp),Bc,A4]at hy;simp at hy;subst hy;exact .stop
inductive EdK (vs ars:List (List UInt8)):Eg→Prop
 |set (f t:Int) (y:Bool) (s:List UInt8) (a:Nd) (h:Ey 0 vs s≥0) (ha:FE a) (ka:E9 vs ars a=true):EdK vs ars ⟨f,t,1,y,.mk 21 s 0 [a]⟩
 |put (f t:Int) (y:Bool) (s:List UInt8) (a b:Nd) (h:Ey 0 ars s≥0) (ha:FE a) (ka:E9 vs ars a=true) (hb:FE b) (kb:E9 vs ars b=true):EdK vs ars ⟨f,t,2,y,.mk 22 s 0 [a,b]⟩
 |read (f t:Int) (y:Bool) (s:List UInt8) (h:Ey 0 vs s≥0):EdK vs ars ⟨f,t,3,y,.mk 23 s 0 []⟩
 |guard (f t:Int) (y:Bool) (c:Nd) (hc:FC c) (kc:E9 vs ars c=true):EdK vs ars ⟨f,t,4,y,c⟩
 |check (f t:Int) (y:Bool) (c:Nd) (hc:FC c) (kc:E9 vs ars c=true):EdK vs ars ⟨f,t,5,y,c⟩
 |skip (f t:Int) (y:Bool) (n:Nd):EdK vs ars ⟨f,t,6,y,n⟩
 |stop (f t:Int) (y:Bool) (n:Nd):EdK vs ars ⟨f,t,7,y,n⟩
def EsK(vs ars:List (List UInt8))(g:Gr):Prop:=∀e,e∈g.es→EdK vs ars e
theorem EsK.snoc{g:Gr}{e:Eg}(h:EsK vs ars g)(he:EdK vs ars e){es:List Eg}(hes:es=g.es++[e]):∀x,x∈es→EdK vs ars x:=by
 subst hes;intro x hx;rcases zzq47.1 hx with hx|hx
 ·exact h x hx
 ·simp at hx;subst hx;exact he
theorem Ag8{l:List Nd}(h:∀x,x∈l→∀(a:Nd)(g:Gr),EsK vs ars g→EsK vs ars (gS x a g)):∀(a:Nd)(g:Gr),EsK vs ars g→EsK vs ars (gL l a g):=by
 induction l with
 |nil=>intro a g hg;exact hg
 |cons x l ih=>
  intro a g hg;rw[Yl];exact ih (fun y hy=>h y (by simp[hy])) x _ (h x (by simp) a g hg)
theorem Az3{n:Nd}(h:PK vs ars n):∀(a:Nd)(g:Gr),EsK vs ars g→EsK vs ars (gS n a g):=by
 induction h with
 |set s b h hb kb=>intro a g hg;rw[Z5];exact hg.snoc (.set _ _ _ s b h hb kb) rfl
 |put s b c h hb kb hc kc=>intro a g hg;rw[Z4];exact hg.snoc (.put _ _ _ s b c h hb kb hc kc) rfl
 |read s h=>intro a g hg;rw[Vk];exact hg.snoc (.read _ _ _ s h) rfl
 |ifs c l l' hc kc hl hl' ihl ihl'=>
  intro a g hg;rw[Ae7];have h1:EsK vs ars (gL l Cg (D5 g.pt c true g)):=Ag8 ihl Cg _ (hg.snoc (.guard _ _ _ c hc kc) rfl);have h2:EsK vs ars (gL l' Cg (D5 g.pt c false (gL l Cg (D5 g.pt c true g)))):=Ag8 ihl' Cg _ (h1.snoc (.guard _ _ _ c hc kc) rfl);have h3:EsK vs ars (Iu (gL l Cg (D5 g.pt c true g)).pt (gL l' Cg (D5 g.pt c false (gL l Cg (D5 g.pt c true g)))).pts (gL l' Cg (D5 g.pt c false (gL l Cg (D5 g.pt c true g))))):=h2.snoc (.skip _ _ _ _) rfl;exact h3.snoc (.skip _ _ _ _) rfl
 |whil c l hc kc hl ihl=>
  intro a g hg;rw[Ae8];have h1:EsK vs ars (Hm a (.mk 25 [] 0 [c,.mk 30 [] 0 l]) (Dl 6 Cg g)):=hg.snoc (.skip _ _ _ _) rfl;have h2:EsK vs ars (gL l Cg (D5 g.pts c true (Hm a (.mk 25 [] 0 [c,.mk 30 [] 0 l]) (Dl 6 Cg g)))):=Ag8 ihl Cg _ (h1.snoc (.guard _ _ _ c hc kc) rfl);have h3:EsK vs ars (Lc g.pts (gL l Cg (D5 g.pts c true (Hm a (.mk 25 [] 0 [c,.mk 30 [] 0 l]) (Dl 6 Cg g))))):=h2.snoc (.skip _ _ _ _) rfl;exact h3.snoc (.guard _ _ _ c hc kc) rfl
 |check c hc kc=>intro a g hg;rw[Qk];exact hg.snoc (.check _ _ _ c hc kc) rfl
 |skip=>intro a g hg;rw[Vl];exact hg.snoc (.skip _ _ _ _) rfl
 |stop=>intro a g hg;rw[Vm];exact hg.snoc (.stop _ _ _ _) rfl
end
theorem EdK.exit{vs ars:List (List UInt8)}{e:Eg}(h:EdK vs ars e)(x:Int):EdK vs ars (Dy x e):=by
 unfold Dy;split
 ·cases h<;>constructor<;>assumption
 ·exact h
theorem Aiw{n:Nd}(hr:Fe n=true):(∀x,x∈A9 n→PS x)∧∀e,e∈Lv (A9 n)→EdK (Ax n 31) (Ax n 32) e:=by
 have hF:=(Iv hr).1;obtain⟨ds,hpl,hdl,hPS,_⟩:=Abt hF;refine⟨hPS,?_⟩;have hk:E9 (Ax n 31) (Ax n 32) (Dp n)=true:=by
  have h0:=(Yb hr).1;rw[(Alr _ _).1];unfold Ew at h0;split at h0
  ·split at h0
   ·simp at h0
   ·split at h0
    ·simp at h0
    ·split at h0
     ·simp at h0
     ·split at h0
      ·simp at h0
      ·rename_i h7;split at h0
       ·simp at h0
       ·rename_i h8;simp[h7,h8]
  ·simp at h0
 have hPK:∀x,x∈A9 n→PK (Ax n 31) (Ax n 32) x:=by
  cases hF with
  |mk ds' l hd hl=>
   have e1:A9 (.mk 40 [] 0 (ds'++[.mk 30 [] 0 l]))=Bt l:=by unfold A9 Dp;rw[Yz hd];simp[Nd.kids]
   have e2:Dp (.mk 40 [] 0 (ds'++[.mk 30 [] 0 l]))=.mk 30 [] 0 l:=by unfold Dp;simp[Nd.kids]
   rw[e2]at hk;rw[e1];exact O3 fun x hx=>A2w (hl x hx) (G1 hk (by simpa[Nd.kids]using hx))
 intro e he;unfold Lv at he;obtain⟨e0,h0,rfl⟩:=zzq68.1 he;refine EdK.exit ?_ _;have hg:EsK (Ax n 31) (Ax n 32) (D4 (A9 n)):=by
  have h1:EsK (Ax n 31) (Ax n 32) (gL (A9 n) Cg ⟨1,0,[],[],[],0⟩):=Ag8 (fun x hx=>Az3 (hPK x hx)) Cg _ (fun e h=>by cases h);exact h1.snoc (.skip _ _ _ _) rfl
 exact hg e0 h0
abbrev VR:=Int×Int×Int
def Nr(x d:Int):VR:=if Zk x=true then(x,0,d)else(0,3,d)
def Nu(r:List (Bool×Int))(x d:Int):VR:=
 if Bl x 0 ((r.length:Int)-1)=true then(if (r.getD x.toNat (false,0)).1=true then((r.getD x.toNat (false,0)).2,0,IntKind.i64.wrap (d+1))else(0,2,d))else(0,1,d)
def Xo(n:Nd)(c:Cf)(s:List UInt8):List (Bool×Int):=c.cells.getD (Ey 0 (Ax n 32) s).toNat []
def To(n:Nd)(c:Cf)(k:Int)(s:List UInt8)(m:Int)(q:List Int×Int×Int):VR:=
 if q.2.1=0 then
  match q.1 with
  |[]=>(if k=1 then m else if k=2 then c.vars.getD (Ey 0 (Ax n 31) s).toNat 0 else(Xo n c s).length,0,q.2.2)
  |[a]=>if k=3 then Nu (Xo n c s) a q.2.2 else Nr (IntKind.i64.wrap (-a)) q.2.2
  |a::b::_=>Nr (IntKind.i64.wrap (if k=6 then a+b else if k=7 then a-b else a*b)) q.2.2
 else(0,q.2.1,q.2.2)
mutual
def C6(n:Nd)(c:Cf):Nd→Int→VR
 |.mk k s m ks,d=>To n c k s m (Ad0 n c ks d)
def Ad0(n:Nd)(c:Cf):List Nd→Int→List Int×Int×Int
 |[],d=>([],0,d)
 |x::l,d=>if (C6 n c x d).2.1=0 then((C6 n c x d).1::(Ad0 n c l (C6 n c x d).2.2).1,(Ad0 n c l (C6 n c x d).2.2).2)else([],(C6 n c x d).2)
end
theorem Y9(n:Nd)(c:Cf)(k:Int)(s:List UInt8)(m:Int)(ks:List Nd)(d:Int):C6 n c (.mk k s m ks) d=To n c k s m (Ad0 n c ks d):=by rw[C6]
theorem Azx(n:Nd)(c:Cf)(x:Nd)(d:Int):Ad0 n c [x] d=if (C6 n c x d).2.1=0 then([(C6 n c x d).1],0,(C6 n c x d).2.2)else([],(C6 n c x d).2):=by
 rw[Ad0,Ad0]
theorem Af7{n:Nd}{c:Cf}{k:Int}{s:List UInt8}{m:Int}{x:Nd}{d v t d1:Int}(hx:C6 n c x d=(v,t,d1)):C6 n c (.mk k s m [x]) d=if t=0 then To n c k s m ([v],0,d1)else(0,t,d1):=by
 rw[Y9,Azx,hx];by_cases h:t=0
 ·rw[if_pos h,if_pos h]
 ·rw[if_neg h,if_neg h];unfold To;rw[if_neg h]
theorem Ava{n:Nd}{c:Cf}{k:Int}{s:List UInt8}{m:Int}{x y:Nd}{d v t d1 v2 t2 d2:Int}(hx:C6 n c x d=(v,t,d1))(hy:C6 n c y d1=(v2,t2,d2)) :
 C6 n c (.mk k s m [x,y]) d=if t=0 then(if t2=0 then To n c k s m ([v,v2],0,d2)else(0,t2,d2))else(0,t,d1):=by
 rw[Y9,Ad0,hx];by_cases h:t=0
 ·simp only[h,if_true];rw[Azx,hy];by_cases h2:t2=0
  ·simp only[h2,if_true]
  ·simp only[h2,if_false];unfold To;rw[if_neg h2]
 ·simp only[h,if_false];unfold To;rw[if_neg h]
structure VOk (n:Nd)(c:Cf):Prop where
 kl:n.kids.length≤4500
 vars:c.vars.length=(Ax n 31).length
 cells:c.cells.length=(Ax n 32).length
 rows:∀x,x∈c.cells→x.length≤60
theorem Anv(l:List (List UInt8)):∀(i:Nat)(s:List UInt8),Ey i l s≥0→∃j:Nat,Ey i l s=(i+j:Nat)∧j<l.length:=by
 induction l with
 |nil=>intro i s h;simp[Ey]at h
 |cons x l ih=>
  intro i s h;by_cases hx:(s==x)=true
  ·exact⟨0,by simp[Ey,hx],by simp⟩
  ·have e:Ey i (x::l) s=Ey (i+1) l s:=by simp only[Ey];rw[if_neg hx]
   rw[e]at h⊢;obtain⟨j,h1,h2⟩:=ih (i+1) s h;exact⟨j+1,by rw[h1];congr 1;omega,by simp;omega⟩
theorem VOk.var{n:Nd}{c:Cf}(h:VOk n c){s:List UInt8}(hk:Ey 0 (Ax n 31) s≥0):∃(i:Nat)(v:Int),Ey 0 (Ax n 31) s=i∧c.vars[i]?=some v∧c.vars.getD (Ey 0 (Ax n 31) s).toNat 0=v:=by
 obtain⟨j,h1,h2⟩:=Anv _ 0 s hk;rw[Jt]at h1;obtain⟨v,hv⟩:=Ab c.vars (i:=j) (by rw[h.vars];exact h2);exact⟨j,v,h1,hv,by rw[h1];simp[List.getD,hv]⟩
theorem VOk.row{n:Nd}{c:Cf}(h:VOk n c){s:List UInt8}(hk:Ey 0 (Ax n 32) s≥0):∃(i:Nat)(r:List (Bool×Int)),Ey 0 (Ax n 32) s=i∧c.cells[i]?=some r∧Xo n c s=r∧r.length≤60:=by
 obtain⟨j,h1,h2⟩:=Anv _ 0 s hk;rw[Jt]at h1;obtain⟨v,hv⟩:=Ab c.cells (i:=j) (by rw[h.cells];exact h2);exact⟨j,v,h1,hv,by unfold Xo;rw[h1];simp[List.getD,hv],h.rows v (Bh hv)⟩
abbrev wk(n:Nd)(c:Cf)(d:Int):List AV:=[.cptr (Mf n),.cptr (Iz c),vi d]
abbrev vR(r:VR):AV:=.tup [vi r.1,vi r.2.1]
theorem Vs(x d:Int):Pure X 241 [vi x] (vR (Nr x d)):=by
 refine Pure.run func241 ?_;refine Al (Aol x) ?_;refine Ag (fun g=>?_) (fun g=>?_)
 ·have g':Zk x=false:=by simpa using(show (!Zk x)=true from g)
  refine Au func241 ?_;unfold Nr;rw[if_neg (by simp[g'])]
 ·have g':Zk x=true:=by simpa using(show (!Zk x)=false from g)
  refine Au func241 ?_;unfold Nr;rw[if_pos g']
abbrev vR3(r:VR):AV:=.tup [vi r.1,vi r.2.1,vi r.2.2]
abbrev SpV(n:Nd)(c:Cf)(e:Nd):St:=⟨[[Kk n],[Af e],[Iz c]],[]⟩
abbrev PVT(n:Nd)(c:Cf)(e:Nd)(d:Int)(T:VR):Prop:=Pure X 123 [.agg (Kk n),nd e,cf c,vi d] (vR3 T)
theorem Atx(n:Nd)(c:Cf)(hk:VOk n c)(s:List UInt8)(hs:Ey 0 (Ax n 32) s≥0)(x:Nd)(a d:Int):AK X ⟨123,f123,0,0⟩ (Lj false 11 f123) [(3,vi d),(4,.ptr 0 0 0),(5,.ptr 1 0 0),(6,.ptr 2 0 0),(11,vi a)] (SpV n c (.mk 3 s 0 [x]))
 (fun e S=>e=.ret (vR3 (Nu (Xo n c s) a d))∧S=⟨[],[]⟩):=by
 obtain⟨i,r,h1,h2,h3,h4⟩:=hk.row hs;have kl:=hk.kl;have hd:=H3 n 32;have hq:=Uo (Ax n 32) s (by omega);rw[h1]at hq;rw[h3];have hlen:((Rh r).length:Int)=r.length:=by rw[Il]
 have hw:IntKind.i64.wrap (((Rh r).length:Int)-1)=r.length-1:=by rw[hlen];exact Ac (by omega) (by omega)
 have hb0:=H2 a 0 (IntKind.i64.wrap (((Rh r).length:Int)-1));rw[hw]at hb0;refine D3 ?_;refine Bj 100 rfl ?_;refine A1 ?_;refine D8 0 ?_;refine Ci hq ?_;refine Ek (fun S'=>Cu rfl rfl rfl rfl rfl rfl rfl rfl rfl (by omega) (Gf (f:=Awf) h2)) ?_;refine Ft ?_;refine B6 ?_;refine Al (H2 a 0 (IntKind.i64.wrap (((Rh r).length:Int)-1))) ?_;rw[hw];cases hb:Bl a 0 ((r.length:Int)-1)with
 |false=>
  have e1:Nu r a d=(0,1,d):=by unfold Nu;rw[if_neg (by simp[hb])]
  rw[e1];refine A1 ?_;exact Au func123 rfl
 |true=>
  have hb':=Cj.1 hb;obtain⟨j,rfl⟩:∃j:Nat,a=j:=⟨a.toNat,by omega⟩
  obtain⟨y,hy⟩:=Ab r (i:=j) (by omega);obtain⟨w,m⟩:=y;have e1:Nu r j d=if w=true then(m,0,IntKind.i64.wrap (d+1))else(0,2,d):=by unfold Nu;rw[if_pos hb];simp[List.getD,hy]
  rw[e1];refine Ah ?_;refine B7 j (by omega) (Gf (f:=Wi) hy) ?_;cases w with
  |false=>
   refine A1 ?_;exact Au func123 rfl
  |true=>
   refine Ah ?_;refine B7 j (by omega) (Gf (f:=Wi) hy) ?_;exact Au func123 rfl
theorem Ab4(n:Nd)(c:Cf)(e:Nd)(x d:Int):AK X ⟨123,f123,0,0⟩ (Lj false 30 f123) [(3,vi d),(4,.ptr 0 0 0),(5,.ptr 1 0 0),(6,.ptr 2 0 0),(14,vi x)] (SpV n c e)
 (fun e S=>e=.ret (vR3 (Nr x d))∧S=⟨[],[]⟩):=by
 refine D3 ?_;refine Bj 100 rfl ?_;refine Al (Azq x) ?_;refine Ag (fun g=>?_) (fun g=>?_)
 ·have g':Zk x=false:=by simpa using(show (!Zk x)=true from g)
  refine Au func123 ?_;unfold Nr;rw[if_neg (by simp[g'])]
 ·have g':Zk x=true:=by simpa using(show (!Zk x)=false from g)
  refine Au func123 ?_;unfold Nr;rw[if_pos g']
theorem A3u(n:Nd)(c:Cf)(k:Int)(a b:Nd)(hk':k=6∨k=7∨k=8)(v v2 d2:Int):AK X ⟨123,f123,0,0⟩ (Lj false 24 f123) [(3,vi d2),(4,.ptr 0 0 0),(5,.ptr 1 0 0),(6,.ptr 2 0 0),(11,vi v),(15,vi v2)] (SpV n c (.mk k [] 0 [a,b]))
 (fun e S=>e=.ret (vR3 (To n c k [] 0 ([v,v2],0,d2)))∧S=⟨[],[]⟩):=by
 rcases hk' with rfl|rfl|rfl
 ·refine D3 ?_;refine Bj 100 rfl ?_;refine Eu (e:=true) 30 0 (fun _=>?_) (fun h=>nomatch h);exact B3 3 0 (Ab4 n c _ (IntKind.i64.wrap (v+v2)) d2) ⟨rfl,rfl,rfl,rfl,rfl,trivial⟩ rfl rfl rfl rfl rfl
 ·refine D3 ?_;refine Bj 100 rfl ?_;refine Ah ?_;refine Eu (e:=true) 30 0 (fun _=>?_) (fun h=>nomatch h);exact B3 3 0 (Ab4 n c _ (IntKind.i64.wrap (v-v2)) d2) ⟨rfl,rfl,rfl,rfl,rfl,trivial⟩ rfl rfl rfl rfl rfl
 ·refine D3 ?_;refine Bj 100 rfl ?_;refine Ah ?_;refine Eu (e:=false) 0 30 (fun h=>nomatch h) (fun _=>?_);exact B3 3 0 (Ab4 n c _ (IntKind.i64.wrap (v*v2)) d2) ⟨rfl,rfl,rfl,rfl,rfl,trivial⟩ rfl rfl rfl rfl rfl
theorem A3t(n:Nd)(c:Cf)(k:Int)(a b:Nd)(hk':k=6∨k=7∨k=8)(v d1 v2 t2 d2:Int)(hj:PVT n c b d1 (v2,t2,d2)):AK X ⟨123,f123,0,0⟩ (Lj false 20 f123) [(3,vi d1),(4,.ptr 0 0 0),(5,.ptr 1 0 0),(6,.ptr 2 0 0),(11,vi v)] (SpV n c (.mk k [] 0 [a,b]))
 (fun e S=>e=.ret (vR3 (if t2=0 then To n c k [] 0 ([v,v2],0,d2)else(0,t2,d2)))∧S=⟨[],[]⟩):=by
 have L:=A3u n c k a b hk' v v2 d2;refine D3 ?_;refine D8 0 ?_;refine Dv 1 (by omega) (Am (l:=[a,b]) rfl) ?_;refine Ci hj ?_;refine B6 ?_;refine Eu 0 24 (fun g2=>?_) (fun g2=>?_)
 ·have g':¬t2=0:=by simpa using(show (t2 != 0)=true from g2)
  rw[if_neg g'];refine Bj 100 rfl ?_;exact Au func123 rfl
 have gt2:t2=0:=by simpa using(show (t2 != 0)=false from g2)
 rw[if_pos gt2];exact B3 3 0 L ⟨rfl,rfl,rfl,rfl,rfl,rfl,trivial⟩ rfl rfl rfl rfl rfl
theorem Sr(n:Nd)(c:Cf)(hk:VOk n c){e:Nd}(h:FE e):E9 (Ax n 31) (Ax n 32) e=true→∀d,PVT n c e d (C6 n c e d):=by
 have kl:=hk.kl;have hd1:=H3 n 31;have hd2:=H3 n 32
 induction h with
 |num m h0 h1=>
  intro _ d;refine Pure.run func123 ?_;refine A1 ?_;exact Au func123 rfl
 |var s h=>
  intro hn d;obtain⟨i,v,h1,h2,h3⟩:=hk.var ((Wk hn).1 rfl);have hq:=Uo (Ax n 31) s (by omega);rw[h1]at hq;have e1:C6 n c (.mk 2 s 0 []) d=(c.vars.getD (Ey 0 (Ax n 31) s).toNat 0,0,d):=rfl;rw[e1,h3];refine Pure.run func123 ?_;refine Ah ?_;refine A1 ?_;refine D8 0 ?_;refine Ci hq ?_;refine Ek (fun S'=>Cu rfl rfl rfl rfl rfl rfl rfl rfl rfl (by omega) (Za h2)) ?_;refine Ft ?_;refine B6 ?_;exact Au func123 rfl
 |len s h=>
  intro hn d;obtain⟨i,r,h1,h2,h3,h4⟩:=hk.row ((Wk hn).2 rfl);have hq:=Uo (Ax n 32) s (by omega);rw[h1]at hq;have e1:C6 n c (.mk 4 s 0 []) d=(((Xo n c s).length:Int),0,d):=rfl;rw[e1,h3];refine Pure.run func123 ?_;refine Ah ?_;refine Ah ?_;refine A1 ?_;refine D8 0 ?_;refine Ci hq ?_;refine Ek (fun S'=>Cu rfl rfl rfl rfl rfl rfl rfl rfl rfl (by omega) (Gf (f:=Awf) h2)) ?_;refine Ft ?_;refine B6 ?_;refine Au func123 ?_;rw[Il]
 |cell s a h ha ih=>
  intro hn d;have hi:=ih (Ahm hn) d;rcases hv:C6 n c a d with⟨v,t,d1⟩
  rw[hv]at hi;rw[PVT,Af7 hv];have L:=Atx n c hk s ((Wk hn).2 rfl) a v d1;refine Pure.run func123 ?_;refine Ah ?_;refine Ah ?_;refine Ah ?_;refine D8 0 ?_;refine Dv 0 (by omega) (Am (l:=[a]) rfl) ?_;refine Ci hi ?_;refine B6 ?_;refine Eu 0 11 (fun g=>?_) (fun g=>?_)
  ·have g':¬t=0:=by simpa using(show (t != 0)=true from g)
   rw[if_neg g'];refine Bj 100 rfl ?_;exact Au func123 rfl
  have gt:t=0:=by simpa using(show (t != 0)=false from g)
  rw[if_pos gt];exact B3 3 0 L ⟨rfl,rfl,rfl,rfl,rfl,trivial⟩ rfl rfl rfl rfl rfl
 |neg a ha ih=>
  intro hn d;have hi:=ih (Ahm hn) d;rcases hv:C6 n c a d with⟨v,t,d1⟩
  rw[hv]at hi;rw[PVT,Af7 hv];refine Pure.run func123 ?_;refine Ah ?_;refine Ah ?_;refine Ah ?_;refine D8 0 ?_;refine Dv 0 (by omega) (Am (l:=[a]) rfl) ?_;refine Ci hi ?_;refine B6 ?_;refine Ag (fun g=>?_) (fun g=>?_)
  ·have g':¬t=0:=by simpa using(show (t != 0)=true from g)
   rw[if_neg g'];exact Au func123 rfl
  have gt:t=0:=by simpa using(show (t != 0)=false from g)
  rw[if_pos gt];refine Ah ?_;refine Eu (e:=false) 0 30 (fun h=>nomatch h) (fun _=>?_);exact B3 3 0 (Ab4 n c _ (IntKind.i64.wrap (-v)) d1) ⟨rfl,rfl,rfl,rfl,rfl,trivial⟩ rfl rfl rfl rfl rfl
 |two k a b hk' ha hb iha ihb=>
  intro hn d;have hi:=iha (Aab hn).1 d;rcases hv:C6 n c a d with⟨v,t,d1⟩
  rw[hv]at hi;have hj:=ihb (Aab hn).2 d1;rcases hw:C6 n c b d1 with⟨v2,t2,d2⟩
  rw[hw]at hj;rw[PVT,Ava hv hw];refine Pure.run func123 ?_;refine Ah ?_ (ht:=by rcases hk' with rfl|rfl|rfl<;>rfl);refine Ah ?_ (ht:=by rcases hk' with rfl|rfl|rfl<;>rfl);refine Ah ?_ (ht:=by rcases hk' with rfl|rfl|rfl<;>rfl);refine D8 0 ?_;refine Dv 0 (by omega) (Am (l:=[a,b]) rfl) ?_;refine Ci hi ?_;refine B6 ?_;refine Ag (fun g=>?_) (fun g=>?_)
  ·have g':¬t=0:=by simpa using(show (t != 0)=true from g)
   rw[if_neg g'];exact Au func123 rfl
  have gt:t=0:=by simpa using(show (t != 0)=false from g)
  rw[if_pos gt];refine Ah ?_ (ht:=by rcases hk' with rfl|rfl|rfl<;>rfl);refine Eu (e:=!(k==5)) 20 0 (fun _=>?_) (fun h=>?_)
  ·exact B3 3 0 (A3t n c k a b hk' v d1 v2 t2 d2 hj) ⟨rfl,rfl,rfl,rfl,rfl,trivial⟩ rfl rfl rfl rfl rfl
  ·exfalso;rcases hk' with rfl|rfl|rfl<;>cases h
def Ox(k a b:Int):Bool:=if k=11 then decide (a<b)else if k=12 then decide (a≤b)else if k=13 then decide (a>b)else if k=14 then decide (a≥b)else if k=15 then(a==b)else !(a==b)
abbrev DR:=Cf×Int×Int×Bool
def Nv(n:Nd)(c:Cf)(ks:List Nd)(g:Int→Int→Int→DR):DR:=match ks with
 |[a,b]=>
  if (C6 n c a 0).2.1=0 then
   if (C6 n c b (C6 n c a 0).2.2).2.1=0 then g (C6 n c a 0).1 (C6 n c b (C6 n c a 0).2.2).1 (C6 n c b (C6 n c a 0).2.2).2.2
   else(c,(C6 n c b (C6 n c a 0).2.2).2.1,(C6 n c b (C6 n c a 0).2.2).2.2,true)
  else(c,(C6 n c a 0).2.1,(C6 n c a 0).2.2,true)
 |_=>(c,0,0,true)
def We(n:Nd)(c:Cf)(s:List UInt8)(v:Int):Cf:={ c with vars:=c.vars.set (Ey 0 (Ax n 31) s).toNat v }
def Ah9(n:Nd)(c:Cf)(s:List UInt8)(i v:Int):Cf:={ c with cells:=c.cells.set (Ey 0 (Ax n 32) s).toNat ((Xo n c s).set i.toNat (true,v)) }
def Ry(n:Nd)(inp:List Int)(c:Cf)(k:Int)(y:Bool)(x:Nd):DR:=
 if k=1 then(match x.kids with
  |[a]=>if (C6 n c a 0).2.1=0 then(We n c x.name (C6 n c a 0).1,0,(C6 n c a 0).2.2,true)else(c,(C6 n c a 0).2.1,(C6 n c a 0).2.2,true)
  |_=>(c,0,0,true))
 else if k=2 then Nv n c x.kids fun i v d=>if Bl i 0 (((Xo n c x.name).length:Int)-1)=true then(Ah9 n c x.name i v,0,d,true)else(c,1,d,true)
 else if k=3 then(if (inp.length:Int)≤c.used then(c,5,0,true)else({ We n c x.name (inp.getD c.used.toNat 0)with used:=c.used+1 },0,0,true))
 else if k=4∨k=5 then Nv n c x.kids fun a b d=>if k=5 then(if Ox x.kind a b=true then(c,0,d,true)else(c,4,0,true))else(c,0,d,Ox x.kind a b==y)
 else(c,0,0,true)
def fIx(es:List Eg)(p:Int):Nat:=es.findIdx fun e=>e.f==p
def Hz(n:Nd)(c:Cf):Bool:=(!(c.trap==0))||((c.pt==(((D4 (A9 n)).pts:Nat):Int)-1)||(c.steps==5000))
def Gt(n:Nd)(inp:List Int)(c:Cf):Cf:=
 if Hz n c=true then c else
 match Fr c.pt.toNat (Lv (A9 n))with
 |[]=>c
 |e::l=>
  let q:=Ry n inp { c with steps:=c.steps+1 } e.k e.y e.n
  if q.2.1=0 then{ q.1 with pt:=if q.2.2.2=true then e.t else(l.headD e).t }
  else{ q.1 with trap:=q.2.1,edge:=fIx (Lv (A9 n)) c.pt,acc:=if q.2.1=4∨q.2.1=5 then 0 else q.2.2.1 }
structure StK (n:Nd)(c:Cf):Prop where
 vok:VOk n c
 pt:0≤c.pt∧c.pt<(D4 (A9 n)).pts
 used:0≤c.used∧c.used≤100
 steps:0≤c.steps∧c.steps≤5000
 none:c.trap=0→c.edge=0∧c.acc=0
theorem Am5(p:Nat)(e:Eg)(l:List Eg):Fr p (e::l)=if e.f=(p:Int)then e::Fr p l else Fr p l:=by
 unfold Fr;rw[Abn];by_cases h:e.f=(p:Int)
 ·simp[h]
 ·simp[h]
theorem Aho{p:Nat}:∀{l:List Eg}{k:Nat}{e:Eg}{r:List Eg},Fr p l=e::r→∃i,l[i]?=some e∧(∀j,j<i→∀x,l[j]?=some x→¬x.f=(p:Int))∧e.f=(p:Int)∧fIx l p=i∧V8 Eg.f p k l=(k+i)::V8 Eg.f p (k+i+1) (l.drop (i+1))∧Fr p (l.drop (i+1))=r
 |[],k,e,r,h=>by simp[Fr]at h
 |x::l,k,e,r,h=>by
  rw[Am5]at h;by_cases hx:x.f=(p:Int)
  ·rw[if_pos hx]at h;injection h with h1 h2;subst h1;exact⟨0,rfl,fun j hj=>absurd hj (Wp _),hx,by simp[fIx,List.findIdx_cons,hx],by simp[V8,hx],h2⟩
  ·rw[if_neg hx]at h;obtain⟨i,h1,h2,h3,h4,h5,h6⟩:=Aho (k:=k+1) h;refine⟨i+1,by simpa using h1,fun j hj y hy=>?_,h3,?_,?_,by simpa using h6⟩
   ·cases j with
    |zero=>simp at hy;subst hy;exact hx
    |succ j=>exact h2 j (by omega) y (by simpa using hy)
   ·unfold fIx at h4⊢;rw[List.findIdx_cons,show (x.f==(p:Int))=false by simpa using hx];simp[h4]
   ·rw[V8,if_neg hx,h5];simp only[List.drop_succ_cons];rw[show k+1+i=k+(i+1) by omega]
theorem Ahp{p:Nat}:∀{l:List Eg}{k:Nat},Fr p l=[]→V8 Eg.f p k l=[]
 |[],k,h=>rfl
 |x::l,k,h=>by
  rw[Am5]at h;by_cases hx:x.f=(p:Int)
  ·rw[if_pos hx]at h;cases h
  ·rw[if_neg hx]at h;rw[V8,if_neg hx];exact Ahp h
inductive EdO (es:List Eg)(p:Nat)(i:Nat)(e:Eg):List Eg→Prop
 |one (hi:es[i]?=some e) (hb:∀j,j<i→∀x,es[j]?=some x→¬x.f=(p:Int)) (hf:e.f=(p:Int)) (hx:fIx es p=i) (hl:L0 Eg.f es p=[i]) (hk:¬e.k=4):EdO es p i e []
 |two (j:Nat) (e2:Eg) (hi:es[i]?=some e) (hb:∀j,j<i→∀x,es[j]?=some x→¬x.f=(p:Int)) (hf:e.f=(p:Int)) (hx:fIx es p=i) (hl:L0 Eg.f es p=[i,j]) (hij:i<j) (hj:es[j]?=some e2)
   (hm:∀m,i<m→m<j→∀x,es[m]?=some x→¬x.f=(p:Int))(hk:e.k=4)(h2:e2=⟨p,e2.t,4,!e.y,e.n⟩):EdO es p i e [e2]
theorem Zx{n:Nd}(hr:Fe n=true){p:Nat}(hp:(p:Int)<(D4 (A9 n)).pts-1):∃i e l,Fr p (Lv (A9 n))=e::l∧EdO (Lv (A9 n)) p i e l:=by
 rcases Awo (Aiw hr).1 hp with⟨e,h1,h2⟩|⟨t1,t2,c,h1⟩
 ·obtain⟨i,g1,g2,g3,g4,g5,g6⟩:=Aho (k:=0) h1;exact⟨i,e,[],h1,.one g1 g2 g3 g4 (by unfold L0;rw[g5,Ahp g6,Jt]) h2⟩
 ·obtain⟨i,g1,g2,g3,g4,g5,g6⟩:=Aho (k:=0) h1;obtain⟨j,q1,q2,q3,q4,q5,q6⟩:=Aho (k:=0+i+1) g6;refine⟨i,_,_,h1,.two (i+1+j) ⟨p,t2,4,false,c⟩ g1 g2 g3 g4 (by unfold L0;rw[g5,q5,Ahp q6];simp) (by omega) (by rw[←q1,Ny]) (fun m h2 h3 x hx=>?_) rfl rfl⟩;exact q2 (m-(i+1)) (by omega) x (by rw[Ny,show i+1+(m-(i+1))=m by omega];exact hx)
theorem EdO.first{es:List Eg}{p i:Nat}{e:Eg}{l:List Eg}(h:EdO es p i e l):es[i]?=some e∧(∀j,j<i→∀x,es[j]?=some x→¬x.f=(p:Int))∧e.f=(p:Int)∧fIx es p=i∧∃m,L0 Eg.f es p=i::m:=by
 cases h with
 |one a b c d e f=>exact⟨a,b,c,d,[],e⟩
 |two j e2 a b c d e f g h i k=>exact⟨a,b,c,d,[j],e⟩
theorem A29{n:Nd}(hr:Fe n=true):∀e,e∈Lv (A9 n)→0≤e.t∧e.t<(D4 (A9 n)).pts:=by
 have h:=Mn (Aiw hr).1 Cg ⟨1,0,[],[],[],0⟩ (by simp);have h2:=Ly 6 Cg h.pt;have h3:=h.trans h2 (Bo _);obtain⟨l,g1,_,g2⟩:=h3.es;have hes:(D4 (A9 n)).es=l:=by unfold D4;rw[g1];rfl
 have hpt:=h3.pt;intro e he;unfold Lv at he;obtain⟨e0,h0,rfl⟩:=zzq68.1 he;rw[hes]at h0;have h4:=(g2 e0 h0).2;unfold Dy;have hpt':(D4 (A9 n)).pt<(D4 (A9 n)).pts:=hpt;split
 ·simp only;omega
 ·rcases h4 with h4|h4
  ·omega
  ·exact h4
structure Kept (inp:List Int)(c c':Cf):Prop where
 vars:c'.vars.length=c.vars.length
 cells:c'.cells.length=c.cells.length
 rows:(∀x,x∈c.cells→x.length≤60)→∀x,x∈c'.cells→x.length≤60
 pt:c'.pt=c.pt
 steps:c'.steps=c.steps
 trap:c'.trap=c.trap
 edge:c'.edge=c.edge
 acc:c'.acc=c.acc
 used:c'.used=c.used∨(c.used<inp.length∧c'.used=c.used+1)
theorem Kept.refl(inp:List Int)(c:Cf):Kept inp c c:=⟨rfl,rfl,fun h=>h,rfl,rfl,rfl,rfl,rfl,.inl rfl⟩
theorem Aqy(inp:List Int)(n:Nd)(c:Cf)(s:List UInt8)(i v:Int):Kept inp c (Ah9 n c s i v):=by
 refine⟨rfl,by simp[Ah9],fun h x hx=>?_,rfl,rfl,rfl,rfl,rfl,.inl rfl⟩;simp only[Ah9]at hx;rcases Wr hx with hx|rfl
 ·exact h x hx
 ·rw[Abk];unfold Xo;rw[Aie];cases hr:c.cells[(Ey 0 (Ax n 32) s).toNat]? with
  |none=>simp
  |some r=>exact h r (Bh hr)
theorem Aex{inp:List Int}{n:Nd}{c:Cf}{ks:List Nd}{g:Int→Int→Int→DR}(h:∀a b d,Kept inp c (g a b d).1):Kept inp c (Nv n c ks g).1:=by
 unfold Nv;split
 ·split
  ·split
   ·exact h _ _ _
   ·exact .refl _ _
  ·exact .refl _ _
 ·exact .refl _ _
theorem Acy(n:Nd)(inp:List Int)(c:Cf)(k:Int)(y:Bool)(x:Nd):Kept inp c (Ry n inp c k y x).1:=by
 unfold Ry;split
 ·split
  ·split
   ·exact⟨by simp[We],rfl,fun h=>h,rfl,rfl,rfl,rfl,rfl,.inl rfl⟩
   ·exact .refl _ _
  ·exact .refl _ _
 ·split
  ·refine Aex fun a b d=>?_;split
   ·exact Aqy inp n c _ _ _
   ·exact .refl _ _
  ·split
   ·split
    ·exact .refl _ _
    ·exact⟨by simp[We],rfl,fun h=>h,rfl,rfl,rfl,rfl,rfl,.inr ⟨by omega,rfl⟩⟩
   ·split
    ·refine Aex fun a b d=>?_;split
     ·split
      ·exact .refl _ _
      ·exact .refl _ _
     ·exact .refl _ _
    ·exact .refl _ _
theorem Uw{n:Nd}{inp:List Int}{c:Cf}(hr:Fe n=true)(h:StK n c)(hi:inp.length≤100):StK n (Gt n inp c):=by
 unfold Gt;split
 ·exact h
 ·rename_i hs;split
  ·exact h
  ·rename_i e l hF;have hK:=Acy n inp { c with steps:=c.steps+1 } e.k e.y e.n;generalize Ry n inp { c with steps:=c.steps+1 } e.k e.y e.n=q at hK;have hst:c.trap=0∧¬c.steps=5000∧¬c.pt=(((D4 (A9 n)).pts:Nat):Int)-1:=by
    unfold Hz at hs;simp only[O9,Mh,beq_eq_false_iff_ne,zzq56,not_or,ne_eq,Classical.not_not]at hs;exact⟨hs.1,hs.2.2,hs.2.1⟩
   have hv:VOk n q.1:=⟨h.vok.kl,hK.vars.trans h.vok.vars,hK.cells.trans h.vok.cells,hK.rows h.vok.rows⟩
   have hmem:∀x,x∈(e::l)→x∈Lv (A9 n):=fun x hx=>by rw[←hF]at hx;exact(zzq58.1 hx).1
   have hto:∀x,x∈(e::l)→0≤x.t∧x.t<(D4 (A9 n)).pts:=fun x hx=>A29 hr x (hmem x hx);have hu:=hK.used;have hu0:=h.used;have hs0:=h.steps;have hsq:=hK.steps;simp only at hsq;have hn:=h.none hst.1;have hq5:=hK.trap;have hq6:=hK.edge;have hq7:=hK.acc;simp only at hq5 hq6 hq7 hu;have husd:0≤q.1.used∧q.1.used≤100:=by rcases hu with hu|⟨hu,hu2⟩<;>omega
   simp only;split
   ·refine⟨⟨hv.kl,hv.vars,hv.cells,hv.rows⟩,?_,husd,?_,fun _=>?_⟩
    ·simp only;split
     ·exact hto e (by simp)
     ·cases l with
      |nil=>exact hto e (by simp)
      |cons x l=>exact hto x (by simp)
    ·simp only;omega
    ·simp only;omega
   ·rename_i ht;refine⟨⟨hv.kl,hv.vars,hv.cells,hv.rows⟩,?_,husd,?_,fun h0=>absurd h0 ht⟩
    ·have:=hK.pt;simp only at this⊢;rw[this];exact h.pt
    ·simp only;omega
end Go.V
