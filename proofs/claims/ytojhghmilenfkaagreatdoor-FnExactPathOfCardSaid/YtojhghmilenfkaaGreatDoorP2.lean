/- A part of the proof of the claim that the last text states: no condition of its own. -/
import Derived.Test.YtojhghmilenfkaaGreatDoorP1
import Derived.Laws.IdiomStrings
import Derived.Laws.StructEq
set_option linter.unusedVariables false
set_option linter.unusedSimpArgs false
namespace Go.V
open Go
def bitOf(bs:List Nat)(i j:Nat):Bool:=(bs.getD j 0).testBit i
def Asf(bs:List Nat)(es:List Edge):Nat:=es.foldl (fun s e=>if Region.binds .any e then s ||| 2^e.on ||| bs.getD e.on 0 else s) 0
def Zu(ops:Array Oper)(bs:List Nat):Bool:=
 (List.range ops.size).all fun j=>match ops[j]? with
   |some o=>(bs.getD j 0==Asf bs o.after.toList)&&o.after.toList.all fun e=>Nat.blt e.on j||!Region.binds .any e
   |none=>true
def Rz(ops:Array Oper)(bs:List Nat)(em:Nat):Bool:=
 Zu ops bs&&(List.range ops.size).all fun i=>match ops[i]? with
  |none=>true
  |some oi=>(List.range ops.size).all fun j=>match ops[j]? with
   |none=>true
   |some oj=>
    (match oj.dst with
      |some t=>!(oi.looksAt ops).contains t||(Nat.blt j i&&bitOf bs j i)||(Nat.blt i j&&bitOf bs i j)
      |none=>true) &&
    (Nat.ble j i||(match oi.dst with
      |some t=>oj.dst != some t
      |none=>true)) &&
    (Nat.ble j i||!(em.testBit i&&em.testBit j)||bitOf bs i j)
theorem Qd(bs:List Nat)(i:Nat):∀(es:List Edge)(s:Nat),(es.foldl (fun s e=>if Region.binds .any e then s ||| 2^e.on ||| bs.getD e.on 0 else s) s).testBit i=true →
 s.testBit i=true∨∃e,e∈es∧Region.binds .any e=true∧(e.on=i∨(bs.getD e.on 0).testBit i=true)
 |[],s,h=>.inl h
 |e::es,s,h=>by
  rcases Qd bs i es _ h with h|⟨e',h1,h2⟩
  ·dsimp only at h;split at h
   ·rename_i hb;simp only[Nat.testBit_or,O9]at h;rcases h with(h|h)|h
    ·exact .inl h
    ·exact .inr ⟨e,by simp,hb,.inl (by simpa[Nat.testBit_two_pow]using h)⟩
    ·exact .inr ⟨e,by simp,hb,.inr h⟩
   ·exact .inl h
  ·exact .inr ⟨e',by simp[h1],h2⟩
def Closed(ops:Array Oper)(listed:Array Bool):Prop:=
 ∀(j:Nat) (o:Oper),listed.getD j false=true→ops[j]?=some o→∀e,e∈o.after.toList→Region.binds .any e=true→listed.getD e.on false=true
theorem Closed.bit{ops:Array Oper}{bs:List Nat}(hb:Zu ops bs=true){listed:Array Bool}(hc:Closed ops listed):∀(j i:Nat),j<ops.size→listed.getD j false=true→bitOf bs i j=true→listed.getD i false=true:=by
 intro j
 induction j using Nat.strongRecOn with
 |ind j ih=>
  intro i hj hl hbit;have hk:=zzq50.1 hb j (zzq55.2 hj);have ho:ops[j]?=some ops[j]:=by simp[hj]
  rw[ho]at hk;simp only[Da,zzq56]at hk;unfold bitOf at hbit;rw[hk.1]at hbit;rcases Qd bs i _ 0 hbit with h|⟨e,he,hbe,h⟩
  ·simp at h
  ·have hlt:e.on<j:=by
    have:=zzq50.1 hk.2 e he;simp only[hbe,Bool.not_true,U6]at this;simpa[Fs]using this
   have hle:=hc j _ hl ho e he hbe;rcases h with rfl|h
   ·exact hle
   ·exact ih e.on hlt i (by omega) hle h
section
variable {X:Cx}{B:Bx}{E:Env}{S:St}{w:World}{F:C3}{a:Act}{N:Nat}{R:AE→St→Prop}
abbrev Jx:=Nat×Oper×C3×AV
def Drv(X:Cx)(N:Nat)(ops:Array Oper)(bs:List Nat)(em:Nat):List Oper→Nat→C3→St→List St→List Jx→(C3→St→Prop)→Prop
 |[],_,F,S,_,_,K=>K F S
 |o::os,i,F,S,Hs,pend,K=>
  (∃x,D1 N o.dst=true∧(∀S',Ndo X N ops i o F x S' S')∧Drv X N ops bs em os (i+1) (putF o.dst x F) S Hs pend K) ∨
  (∃x,D1 N o.dst=true∧(∀S',S'∈Hs→Ndo X N ops i o F x S' S')∧Drv X N ops bs em os (i+1) (putF o.dst x F) S Hs ((i,o,F,x)::pend) K) ∨
  (∃x S' pend',em.testBit i=true∧D1 N o.dst=true∧Ndo X N ops i o F x S S'∧pend.filter (fun p=>!bitOf bs p.1 i)=pend'∧(∀p,p∈pend'→Ndo X N ops p.1 p.2.1 p.2.2.1 p.2.2.2 S' S') ∧
    Drv X N ops bs em os (i+1) (putF o.dst x F) S' (S'::Hs) pend' K)
structure DData (X:Cx)(N:Nat)(ops:Array Oper)(bs:List Nat)(em:Nat)(i n:Nat)(eff:Nat→Bool)(x:Nat→AV)(FF:Nat→C3)(SS:Nat→St)(Hs:List St)(pend:List Jx):Prop where
 step:∀j,i≤j→j<n→∀o,ops[j]?=some o→FF (j+1)=putF o.dst (x j) (FF j)∧D1 N o.dst=true
 eff0:∀j,i≤j→j<n→eff j=false→SS (j+1)=SS j
 eff1:∀j,i≤j→j<n→eff j=true→∀o,ops[j]?=some o→em.testBit j=true∧Ndo X N ops j o (FF j) (x j) (SS j) (SS (j+1))
 was:∀j,i≤j→j<n→eff j=false→∀o,ops[j]?=some o→∀S',S'∈Hs→Ndo X N ops j o (FF j) (x j) S' S'
 will:∀j,i≤j→j<n→eff j=false→∀o,ops[j]?=some o→∀p,i≤p→p≤n→(∀e,j≤e→e<p→eff e=true→bitOf bs j e=false)→Ndo X N ops j o (FF j) (x j) (SS p) (SS p)
 pend:∀q,q∈pend→∀p,i≤p→p≤n→(∀e,i≤e→e<p→eff e=true→bitOf bs q.1 e=false)→Ndo X N ops q.1 q.2.1 q.2.2.1 q.2.2.2 (SS p) (SS p)
theorem Tr{ops:Array Oper}{bs:List Nat}{em:Nat}:∀(os:List Oper)(i:Nat)(F:C3)(S:St)(Hs:List St)(pend:List Jx)(K:C3→St→Prop),
 Drv X N ops bs em os i F S Hs pend K→(∀k,k<os.length→ops[i+k]?=os[k]?)→S∈Hs→(∀q,q∈pend→Ndo X N ops q.1 q.2.1 q.2.2.1 q.2.2.2 S S) →
 ∃eff x FF SS,FF i=F∧SS i=S∧K (FF (i+os.length)) (SS (i+os.length))∧DData X N ops bs em i (i+os.length) eff x FF SS Hs pend
 |[],i,F,S,Hs,pend,K,h,_,hS,hp=>by
  refine⟨fun _=>false,fun _=>.junk,fun _=>F,fun _=>S,rfl,rfl,h,?_⟩
  exact{ step:=fun j h1 h2=>by simp at h2;omega
         eff0:=fun j h1 h2=>by simp at h2;omega
         eff1:=fun j h1 h2=>by simp at h2;omega
         was:=fun j h1 h2=>by simp at h2;omega
         will:=fun j h1 h2=>by simp at h2;omega
         pend:=fun q hq p _ _ _=>hp q hq }
 |o::os,i,F,S,Hs,pend,K,h,hops,hS,hp=>by
  have ho:ops[i]?=some o:=by have:=hops 0 (by simp);simpa using this
  have hops':∀k,k<os.length→ops[i+1+k]?=os[k]?:=fun k hk=>by
   have:=hops (k+1) (by simp;omega);rw[show i+1+k=i+(k+1) by omega];simpa using this
  have hlen:i+(o::os).length=i+1+os.length:=by simp;omega
  rw[hlen];simp only[Drv]at h;have upd:∀{β:Type} (f:Nat→β) (v:β) (j:Nat),(fun j=>if j=i then v else f j) j=if j=i then v else f j:=fun _ _ _=>rfl;rcases h with⟨x,hd,hn,hk⟩|⟨x,hd,hn,hk⟩|⟨x,S',pend',he,hd,hn,hpf,hpn,hk⟩
  ·obtain⟨eff,xs,FF,SS,h1,h2,h3,D⟩:=Tr os (i+1) _ S Hs pend K hk hops' hS hp;refine⟨fun j=>if j=i then false else eff j,fun j=>if j=i then x else xs j,fun j=>if j=i then F else FF j,fun j=>if j=i then S else SS j,by simp,by simp,?_,?_⟩
   ·have:¬(i+1+os.length=i):=by omega
    simpa[this]using h3
   ·refine⟨fun j a b o' ho'=>?_,fun j a b c=>?_,fun j a b c o' ho'=>?_,fun j a b c o' ho' S' hS'=>?_,fun j a b c o' ho' p hp1 hp2 hpe=>?_,fun q hq p hp1 hp2 hpe=>?_⟩
    ·by_cases hj:j=i
     ·subst hj;rw[ho]at ho';cases ho';simp[h1,hd]
     ·have h4:¬(j+1=i):=by omega
      simp only[hj,h4,if_false];exact D.step j (by omega) b o' ho'
    ·by_cases hj:j=i
     ·subst hj;simp[h2]
     ·have h4:¬(j+1=i):=by omega
      simp only[hj,h4,if_false]at c⊢;exact D.eff0 j (by omega) b c
    ·by_cases hj:j=i
     ·subst hj;simp at c
     ·have h4:¬(j+1=i):=by omega
      simp only[hj,h4,if_false]at c⊢;exact D.eff1 j (by omega) b c o' ho'
    ·by_cases hj:j=i
     ·subst hj;rw[ho]at ho';cases ho';simp only[if_true];exact hn S'
     ·simp only[hj,if_false]at c⊢;exact D.was j (by omega) b c o' ho' S' hS'
    ·by_cases hj:j=i
     ·subst hj;rw[ho]at ho';cases ho';simp only[if_true];exact hn _
     ·simp only[hj,if_false]at c⊢;by_cases hpi:p=i
      ·subst hpi;simp only[if_true];exact D.was j (by omega) b c o' ho' S hS
      ·simp only[hpi,if_false];refine D.will j (by omega) b c o' ho' p (by omega) hp2 (fun e e1 e2 e3=>hpe e e1 e2 ?_);have:¬(e=i):=by omega
       simpa[this]using e3
    ·by_cases hpi:p=i
     ·subst hpi;simp only[if_true];exact hp q hq
     ·simp only[hpi,if_false];refine D.pend q hq p (by omega) hp2 (fun e e1 e2 e3=>hpe e (by omega) e2 ?_);have:¬(e=i):=by omega
      simpa[this]using e3
  ·obtain⟨eff,xs,FF,SS,h1,h2,h3,D⟩:=Tr os (i+1) _ S Hs ((i,o,F,x)::pend) K hk hops' hS (fun q hq=>by
    rcases zzq13.1 hq with rfl|hq
    ·exact hn S hS
    ·exact hp q hq)
   refine⟨fun j=>if j=i then false else eff j,fun j=>if j=i then x else xs j,fun j=>if j=i then F else FF j,fun j=>if j=i then S else SS j,by simp,by simp,?_,?_⟩
   ·have:¬(i+1+os.length=i):=by omega
    simpa[this]using h3
   ·refine⟨fun j a b o' ho'=>?_,fun j a b c=>?_,fun j a b c o' ho'=>?_,fun j a b c o' ho' S' hS'=>?_,fun j a b c o' ho' p hp1 hp2 hpe=>?_,fun q hq p hp1 hp2 hpe=>?_⟩
    ·by_cases hj:j=i
     ·subst hj;rw[ho]at ho';cases ho';simp[h1,hd]
     ·have h4:¬(j+1=i):=by omega
      simp only[hj,h4,if_false];exact D.step j (by omega) b o' ho'
    ·by_cases hj:j=i
     ·subst hj;simp[h2]
     ·have h4:¬(j+1=i):=by omega
      simp only[hj,h4,if_false]at c⊢;exact D.eff0 j (by omega) b c
    ·by_cases hj:j=i
     ·subst hj;simp at c
     ·have h4:¬(j+1=i):=by omega
      simp only[hj,h4,if_false]at c⊢;exact D.eff1 j (by omega) b c o' ho'
    ·by_cases hj:j=i
     ·subst hj;rw[ho]at ho';cases ho';simp only[if_true];exact hn S' hS'
     ·simp only[hj,if_false]at c⊢;exact D.was j (by omega) b c o' ho' S' hS'
    ·by_cases hpi:p=i
     ·subst hpi;simp only[if_true];by_cases hj:j=p
      ·subst hj;rw[ho]at ho';cases ho';simp only[if_true];exact hn S hS
      ·simp only[hj,if_false]at c⊢;exact D.was j (by omega) b c o' ho' S hS
     ·simp only[hpi,if_false];by_cases hj:j=i
      ·subst hj;rw[ho]at ho';cases ho';simp only[if_true];refine D.pend (j,o,F,x) (by simp) p (by omega) hp2 (fun e e1 e2 e3=>hpe e (by omega) e2 ?_);have:¬(e=j):=by omega
       simpa[this]using e3
      ·simp only[hj,if_false]at c⊢;refine D.will j (by omega) b c o' ho' p (by omega) hp2 (fun e e1 e2 e3=>hpe e e1 e2 ?_);have:¬(e=i):=by omega
       simpa[this]using e3
    ·by_cases hpi:p=i
     ·subst hpi;simp only[if_true];exact hp q hq
     ·simp only[hpi,if_false];refine D.pend q (by simp[hq]) p (by omega) hp2 (fun e e1 e2 e3=>hpe e (by omega) e2 ?_);have:¬(e=i):=by omega
      simpa[this]using e3
  ·obtain⟨eff,xs,FF,SS,h1,h2,h3,D⟩:=Tr os (i+1) _ S' (S'::Hs) pend' K hk hops' (by simp) hpn;refine⟨fun j=>if j=i then true else eff j,fun j=>if j=i then x else xs j,fun j=>if j=i then F else FF j,fun j=>if j=i then S else SS j,by simp,by simp,?_,?_⟩
   ·have:¬(i+1+os.length=i):=by omega
    simpa[this]using h3
   ·refine⟨fun j a b o' ho'=>?_,fun j a b c=>?_,fun j a b c o' ho'=>?_,fun j a b c o' ho' S' hS'=>?_,fun j a b c o' ho' p hp1 hp2 hpe=>?_,fun q hq p hp1 hp2 hpe=>?_⟩
    ·by_cases hj:j=i
     ·subst hj;rw[ho]at ho';cases ho';simp[h1,hd]
     ·have h4:¬(j+1=i):=by omega
      simp only[hj,h4,if_false];exact D.step j (by omega) b o' ho'
    ·by_cases hj:j=i
     ·subst hj;simp at c
     ·have h4:¬(j+1=i):=by omega
      simp only[hj,h4,if_false]at c⊢;exact D.eff0 j (by omega) b c
    ·by_cases hj:j=i
     ·subst hj;rw[ho]at ho';cases ho';simp[h2,he];exact hn
     ·have h4:¬(j+1=i):=by omega
      simp only[hj,h4,if_false]at c⊢;exact D.eff1 j (by omega) b c o' ho'
    ·by_cases hj:j=i
     ·subst hj;simp at c
     ·simp only[hj,if_false]at c⊢;exact D.was j (by omega) b c o' ho' S' (by simp[hS'])
    ·by_cases hj:j=i
     ·subst hj;simp at c
     ·simp only[hj,if_false]at c⊢;by_cases hpi:p=i
      ·subst hpi;simp only[if_true];exact D.was j (by omega) b c o' ho' S (by simp[hS])
      ·simp only[hpi,if_false];refine D.will j (by omega) b c o' ho' p (by omega) hp2 (fun e e1 e2 e3=>hpe e e1 e2 ?_);have:¬(e=i):=by omega
       simpa[this]using e3
    ·by_cases hpi:p=i
     ·subst hpi;simp only[if_true];exact hp q hq
     ·simp only[hpi,if_false];have hb:bitOf bs q.1 i=false:=hpe i (Bo _) (by omega) (by simp);refine D.pend q (by rw[←hpf];exact zzq58.2 ⟨hq,by simp[hb]⟩) p (by omega) hp2 (fun e e1 e2 e3=>hpe e (by omega) e2 ?_);have:¬(e=i):=by omega
      simpa[this]using e3
end
section
variable {X:Cx}{B:Bx}{E:Env}{S:St}{w:World}{F:C3}{a:Act}{N:Nat}{R:AE→St→Prop}
def FD(ops:Array Oper)(x:Nat→AV)(listed:Nat→Bool)(F:C3):Nat→C3
 |0=>F
 |j+1=>match listed j with
  |true=>match ops[j]? with
   |some o=>putF o.dst (x j) (FD ops x listed F j)
   |none=>FD ops x listed F j
  |false=>FD ops x listed F j
theorem Hr(dst:Option Nat)(x:AV)(F:C3)(t:Nat):lk (putF dst x F) t=if dst=some t then some x else lk F t:=by
 cases dst with
 |none=>simp[putF]
 |some d=>simp only[putF,J1,Option.some.injEq]
theorem J0{ops:Array Oper}{x:Nat→AV}{listed:Nat→Bool}{t:Nat}:∀n,(∀j,j<n→listed j=true→∀o,ops[j]?=some o→o.dst≠some t)→lk (FD ops x listed F n) t=lk F t
 |0,_=>rfl
 |n+1,h=>by
  have ih:lk (FD ops x listed F n) t=lk F t:=J0 n (fun j hj=>h j (by omega));simp only[FD];split
  ·rename_i hl;split
   ·rename_i o ho;rw[Hr,if_neg (h n (by omega) hl o ho),ih]
   ·exact ih
  ·exact ih
theorem Ms{ops:Array Oper}{x:Nat→AV}{listed:Nat→Bool}{t j:Nat}{o:Oper}(ho:ops[j]?=some o)(hd:o.dst=some t)(hl:listed j=true)
 (hu:∀(j':Nat)(o':Oper),j≠j'→ops[j']?=some o'→o'.dst≠some t):∀n,j<n→lk (FD ops x listed F n) t=some (x j)
 |0,h=>by omega
 |n+1,h=>by
  simp only[FD];by_cases hj:j=n
  ·subst hj;simp only[hl,ho];rw[Hr,if_pos hd]
  ·have ih:lk (FD ops x listed F n) t=some (x j):=Ms ho hd hl hu n (by omega);split
   ·split
    ·rename_i o' ho';rw[Hr,if_neg (hu n o' hj ho'),ih]
    ·exact ih
   ·exact ih
structure DrawOk (ops:Array Oper)(bs:List Nat)(em:Nat):Prop where
 bits:Zu ops bs=true
 looks:∀(i j:Nat) (oi oj:Oper),ops[i]?=some oi→ops[j]?=some oj→∀t,oj.dst=some t→t∈oi.looksAt ops→(j<i∧bitOf bs j i=true)∨(i<j∧bitOf bs i j=true)
 dsts:∀(i j:Nat) (oi oj:Oper),ops[i]?=some oi→ops[j]?=some oj→i≠j→∀t,oi.dst=some t→oj.dst≠some t
 effs:∀(i j:Nat) (oi oj:Oper),ops[i]?=some oi→ops[j]?=some oj→i<j→em.testBit i=true→em.testBit j=true→bitOf bs i j=true
theorem Aa3{ops:Array Oper}{bs:List Nat}{em:Nat}(h:Rz ops bs em=true):DrawOk ops bs em:=by
 unfold Rz at h;rw[Da]at h;obtain⟨h0,h1⟩:=h;have key:∀(i j:Nat) (oi oj:Oper),ops[i]?=some oi→ops[j]?=some oj →
  ((match oj.dst with
     |some t=>!(oi.looksAt ops).contains t||(Nat.blt j i&&bitOf bs j i)||(Nat.blt i j&&bitOf bs i j)
     |none=>true) &&
    (Nat.ble j i||(match oi.dst with
      |some t=>oj.dst != some t
      |none=>true)) &&
    (Nat.ble j i||!(em.testBit i&&em.testBit j)||bitOf bs i j))=true:=fun i j oi oj hi hj=>by
  have li:i<ops.size:=by
   rcases Gu i ops.size with h|h
   ·exact h
   ·rw[Abs h]at hi;cases hi
  have lj:j<ops.size:=by
   rcases Gu j ops.size with h|h
   ·exact h
   ·rw[Abs h]at hj;cases hj
  have a1:=zzq50.1 h1 i (zzq55.2 li);rw[hi]at a1;have a2:=zzq50.1 a1 j (zzq55.2 lj);rw[hj]at a2;exact a2
 refine⟨h0,fun i j oi oj hi hj t ht hm=>?_,fun i j oi oj hi hj hne t ht hc=>?_,fun i j oi oj hi hj hlt e1 e2=>?_⟩
 ·have:=key i j oi oj hi hj;simp only[Da,ht,O9,Mh,Fs]at this;rcases this.1.1 with(h|h)|h
  ·have hc:(oi.looksAt ops).contains t=true:=List.contains_iff_mem.2 hm;rw[hc]at h;cases h
  ·exact .inl h
  ·exact .inr h
 ·rcases Nat.lt_or_gt_of_ne hne with h|h
  ·have:=key i j oi oj hi hj;simp only[Da,ht,O9]at this;rcases this.1.2 with h'|h'
   ·have:=I7 h';omega
   ·rw[hc]at h';simp at h'
  ·have:=key j i oj oi hj hi;simp only[Da,hc,O9]at this;rcases this.1.2 with h'|h'
   ·have:=I7 h';omega
   ·rw[ht]at h';simp at h'
 ·have:=key i j oi oj hi hj;simp only[Da,O9,e1,e2]at this;rcases this.2 with(h'|h')|h'
  ·have:=I7 h';omega
  ·simp at h'
  ·exact h'
theorem I3{l:Array Bool}{i j:Nat}(hi:i<l.size):(l.setIfInBounds i true).getD j false=if i=j then true else l.getD j false:=by
 by_cases h:i=j
 ·subst h;simp[Ao6,Array.getElem?_setIfInBounds,hi]
 ·simp[Ao6,Array.getElem?_setIfInBounds_ne h,h]
def Abp(l:Array Bool)(n:Nat):Nat:=((List.range n).filter fun j=>!l.getD j false).length
theorem Acv{l:Array Bool}{n i:Nat}(hi:i<n)(hs:l.size=n)(hl:l.getD i false=false):Abp (l.setIfInBounds i true) n+1≤Abp l n:=by
 unfold Abp;have hsub:((List.range n).filter fun j=>!(l.setIfInBounds i true).getD j false)=((List.range n).filter fun j=>!l.getD j false).filter (fun j=>j != i):=by
  rw[List.filter_filter];apply List.filter_congr;intro j _;rw[I3 (by omega)];by_cases h:i=j
  ·subst h;simp
  ·simp[h,Ne.symm h]
 rw[hsub];have hm:i∈(List.range n).filter fun j=>!l.getD j false:=zzq58.2 ⟨zzq55.2 hi,by simp only[hl];rfl⟩;have:=(List.length_filter_lt_length_iff_exists (p:=fun j=>j != i) (l:=(List.range n).filter fun j=>!l.getD j false)).2 ⟨i,hm,by simp⟩;omega
theorem Aaf{ops:Array Oper}{listed:Array Bool}{i:Nat}(h:i∈Region.ready .any ops listed):i<ops.size∧listed.getD i true=false∧∃o,ops[i]?=some o ∧
 ∀e,e∈o.after.toList→Region.binds .any e=true→listed.getD e.on false=true:=by
 unfold Region.ready at h;obtain⟨h1,h2⟩:=zzq58.1 h;have hi:=zzq55.1 h1;have ho:ops[i]?=some ops[i]:=by simp[hi]
 rw[ho]at h2;simp only[Da,Mh,Km,Option.getD_some]at h2;refine⟨hi,h2.1,_,ho,fun e he hb=>?_⟩;have:=Array.all_eq_true'.1 h2.2 e (by simpa using he);simpa[hb]using this
theorem W6{ops:Array Oper}{bs:List Nat}(hb:Zu ops bs=true){listed:Array Bool}(hs:listed.size=ops.size)(hr:Region.ready .any ops listed=[]):∀j,j<ops.size→listed.getD j false=true:=by
 intro j
 induction j using Nat.strongRecOn with
 |ind j ih=>
  intro hj;cases hl:listed.getD j false with
  |true=>rfl
  |false=>
   have ho:ops[j]?=some ops[j]:=by simp[hj]
   have hk:=zzq50.1 hb j (zzq55.2 hj);rw[ho]at hk;simp only[Da]at hk;have:j∈Region.ready .any ops listed:=by
    unfold Region.ready;refine zzq58.2 ⟨zzq55.2 hj,?_⟩;have hl':listed.getD j true=false:=by
     have:j<listed.size:=by omega
     simp[Array.getD,this]at hl⊢;exact hl
    rw[ho];simp only[hl',Bool.not_false,Km,Option.getD_some,Re];refine Array.all_eq_true'.2 fun e he=>?_;cases hbe:Region.binds .any e with
    |false=>simp
    |true=>
     have hlt:e.on<j:=by
      have:=zzq50.1 hk.2 e (by simpa using he);simp only[hbe,Bool.not_true,U6]at this;simpa[Fs]using this
     simp[ih e.on hlt (by omega)]
   rw[hr]at this;cases this
theorem Awj{ops:Array Oper}{bs:List Nat}{em:Nat}(dk:DrawOk ops bs em){eff:Nat→Bool}{x:Nat→AV}{FF:Nat→C3}{SS:Nat→St}{Hs:List St}{pend:List Jx}
 (D:DData X N ops bs em 0 ops.size eff x FF SS Hs pend)(hF0:FF 0=F)(k:List Item):∀(fuel t:Nat)(listed:Array Bool)(a:Act)(w:World)(E:Env)(p:Nat),
 listed.size=ops.size→Closed ops listed→p≤ops.size→(∀e,e<ops.size→eff e=true→(listed.getD e false=true↔e<p))→Abp listed ops.size≤fuel →
 Inv X E (SS p) w→FR E w (FD ops x (listed.getD · false) F ops.size) a N→∀(b:Frame) (cs:List Frame),
  ∃E' w' a',Steps X.P (lone (b.at a (.inRegion ops (Region.linearise.go .any ops fuel t listed [])::k)) cs w) (lone (b.at a' k) cs w')∧Inv X E' (SS ops.size) w' ∧
   FR E' w' (FF ops.size) a' N∧Evol E w E' w' E.boxes.length E.toks.length:=by
 have hFF:∀n,n≤ops.size→FF n=FD ops x (fun _=>true) F n:=by
  intro n
  induction n with
  |zero=>intro _;exact hF0
  |succ n ih=>
   intro hn;have ho:ops[n]?=some ops[n]:=by simp[show n<ops.size by omega]
   rw[(D.step n (Cc _) (by omega) _ ho).1,ih (by omega)];simp[FD,ho]
 have hSS:∀p q,p≤q→q≤ops.size→(∀e,p≤e→e<q→eff e=false)→SS q=SS p:=by
  intro p q hpq
  induction q with
  |zero=>intro _ _;rw[show p=0 by omega]
  |succ q ih=>
   intro hq he;by_cases h:p=q+1
   ·rw[h]
   ·rw[D.eff0 q (Cc _) (by omega) (he q (by omega) (by omega))];exact ih (by omega) (by omega) (fun e h1 h2=>he e h1 (by omega))
 have fin:∀(listed:Array Bool) (a:Act) (w:World) (E:Env) (p:Nat),p≤ops.size→(∀e,e<ops.size→eff e=true→(listed.getD e false=true↔e<p)) →
  (∀j,j<ops.size→listed.getD j false=true)→Inv X E (SS p) w→FR E w (FD ops x (listed.getD · false) F ops.size) a N→∀(b:Frame)(cs:List Frame),
  ∃E' w' a',Steps X.P (lone (b.at a (.inRegion ops []::k)) cs w) (lone (b.at a' k) cs w')∧Inv X E' (SS ops.size) w' ∧
   FR E' w' (FF ops.size) a' N∧Evol E w E' w' E.boxes.length E.toks.length:=by
  intro listed a w E p hp hpe hall hI hF b cs;refine⟨E,w,a,.one step_region_end,?_,?_,Evol.refl _ _ _ _⟩
  ·rw[hSS p ops.size hp (Bo _) fun e h1 h2=>by
    cases he:eff e with
    |false=>rfl
    |true=>have:=(hpe e h2 he).1 (hall e h2);omega]
   exact hI
  ·rw[hFF _ (Bo _)];have:FD ops x (listed.getD · false) F ops.size=FD ops x (fun _=>true) F ops.size:=by
    have:∀n,n≤ops.size→FD ops x (listed.getD · false) F n=FD ops x (fun _=>true) F n:=by
     intro n
     induction n with
     |zero=>intro _;rfl
     |succ n ih=>intro hn;simp only[FD,hall n (by omega),ih (by omega)]
    exact this _ (Bo _)
   rw[←this];exact hF
 intro fuel
 induction fuel with
 |zero=>
  intro t listed a w E p hs hc hp hpe hcnt hI hF b cs;refine fin listed a w E p hp hpe (fun j hj=>?_) hI hF b cs;cases hl:listed.getD j false with
  |true=>rfl
  |false=>
   have:j∈(List.range ops.size).filter fun j=>!listed.getD j false:=zzq58.2 ⟨zzq55.2 hj,by simp only[hl];rfl⟩;unfold Abp at hcnt;have:=List.length_pos_of_mem this;omega
 |succ fuel ih=>
  intro t listed a w E p hs hc hp hpe hcnt hI hF b cs;simp only[Region.linearise.go];change ∃E' w' a',Steps X.P (lone (b.at a (.inRegion ops (match(Region.ready .any ops listed)[t%(Region.ready .any ops listed).length]? with
   |some i=>Region.linearise.go .any ops fuel (t/(Region.ready .any ops listed).length) (listed.setIfInBounds i true) [i]
   |none=>[].reverse)::k)) cs w) (lone (b.at a' k) cs w')∧_∧_∧_
  cases hi:(Region.ready .any ops listed)[t%(Region.ready .any ops listed).length]? with
  |none=>
   have hnil:Region.ready .any ops listed=[]:=by
    cases hr:Region.ready .any ops listed with
    |nil=>rfl
    |cons y ys=>
     rw[hr]at hi;have hlt:t%(y::ys).length<(y::ys).length:=Ws _ (by simp);simp at hi;simp at hlt;omega
   exact fin listed a w E p hp hpe (W6 dk.bits hs hnil) hI hF b cs
  |some i=>
   obtain⟨hin,hil,o,ho,hafter⟩:=Aaf (Bh hi);have hilf:listed.getD i false=false:=by
    have:i<listed.size:=by omega
    simp[Array.getD,this]at hil⊢;exact hil
   simp only[];rw[linearise_go_acc,List.reverse_singleton,Akh];have rbit:∀e,e<ops.size→bitOf bs e i=true→listed.getD e false=true:=fun e he hbit=>by
    have hk:=zzq50.1 dk.bits i (zzq55.2 hin);rw[ho]at hk;simp only[Da,zzq56]at hk;unfold bitOf at hbit;rw[hk.1]at hbit;rcases Qd bs e _ 0 hbit with h|⟨e',he',hbe,h⟩
    ·simp at h
    ·have hl':=hafter e' he' hbe;rcases h with rfl|h
     ·exact hl'
     ·have:e'.on<ops.size:=by
       have h2:=zzq50.1 hk.2 e' he';simp only[hbe,Bool.not_true,U6]at h2;have:e'.on<i:=by simpa[Fs]using h2
       omega
      exact hc.bit dk.bits e'.on e this hl' h
   have notbit:∀e,e<ops.size→listed.getD e false=true→bitOf bs i e=false:=fun e he hl=>by
    cases hb:bitOf bs i e with
    |false=>rfl
    |true=>have:=hc.bit dk.bits e i he hl hb;rw[hilf]at this;cases this
   have hagree:∀t,t∈o.looksAt ops→lk (FD ops x (listed.getD · false) F ops.size) t=lk (FF i) t:=fun t ht=>by
    rw[hFF i (by omega)];by_cases hw:∃(j:Nat) (oj:Oper),ops[j]?=some oj∧oj.dst=some t
    ·obtain⟨j,oj,hj,hd⟩:=hw;have hjn:j<ops.size:=by
      rcases Gu j ops.size with h|h
      ·exact h
      ·rw[Abs h]at hj;cases hj
     have hu:∀(j':Nat) (o':Oper),j≠j'→ops[j']?=some o'→o'.dst≠some t:=fun j' o' hne ho'=>dk.dsts j j' oj o' hj ho' hne t hd;rcases dk.looks i j o oj ho hj t hd ht with⟨h1,h2⟩|⟨h1,h2⟩
     ·rw[Ms (listed:=(listed.getD · false)) hj hd (rbit j hjn h2) hu ops.size hjn,Ms (listed:=fun _=>true) hj hd rfl hu i h1]
     ·have hjl:listed.getD j false=false:=by
       cases hl:listed.getD j false with
       |false=>rfl
       |true=>have:=notbit j hjn hl;rw[h2]at this;cases this
      rw[J0 ops.size fun j' _ hl' o' ho' hc'=>by
       by_cases hjj:j=j'
       ·subst hjj;rw[hjl]at hl';cases hl'
       ·exact hu j' o' hjj ho' hc',
       J0 i fun j' hj' _ o' ho' hc'=>by
        by_cases hjj:j=j'
        ·omega
        ·exact hu j' o' hjj ho' hc']
    ·rw[J0 ops.size fun j' _ _ o' ho' hc'=>hw ⟨j',o',ho',hc'⟩,J0 i fun j' _ _ o' ho' hc'=>hw ⟨j',o',ho',hc'⟩]
   have hcl':Closed ops (listed.setIfInBounds i true):=fun j oj hj hoj e he hb=>by
    rw[I3 (by omega)]at hj⊢;by_cases hie:i=e.on
    ·rw[if_pos hie]
    ·rw[if_neg hie];by_cases hij:i=j
     ·subst hij;rw[ho]at hoj;cases hoj;exact hafter e he hb
     ·rw[if_neg hij]at hj;exact hc j oj hj hoj e he hb
   have hlk':∀t,lk (FD ops x ((listed.setIfInBounds i true).getD · false) F ops.size) t=lk (putF o.dst (x i) (FD ops x (listed.getD · false) F ops.size)) t:=fun t=>by
    rw[Hr];have hset:∀j,(listed.setIfInBounds i true).getD j false=if i=j then true else listed.getD j false:=fun j=>I3 (by omega);by_cases hd:o.dst=some t
    ·rw[if_pos hd];exact Ms ho hd (by rw[hset];simp) (fun j' o' hne ho'=>dk.dsts i j' o o' ho ho' hne t hd) ops.size hin
    ·rw[if_neg hd];have:∀n,lk (FD ops x ((listed.setIfInBounds i true).getD · false) F n) t=lk (FD ops x (listed.getD · false) F n) t:=by
      intro n
      induction n with
      |zero=>rfl
      |succ n ihn=>
       have hn':=hset n;simp only[FD];by_cases hn:i=n
       ·subst hn;rw[hn',if_pos rfl,hilf,ho];rw[Hr,if_neg hd,ihn]
       ·rw[hn',if_neg hn];split
        ·split
         ·rw[Hr,Hr,ihn]
         ·exact ihn
        ·exact ihn
     exact this _
   have next:∀(p':Nat),p'≤ops.size→(∀e,e<ops.size→eff e=true→((listed.setIfInBounds i true).getD e false=true↔e<p'))→Ndo X N ops i o (FF i) (x i) (SS p) (SS p') →
    ∃E' w' a',Steps X.P (lone (b.at a (.inRegion ops (i::Region.linearise.go .any ops fuel (t/(Region.ready .any ops listed).length) (listed.setIfInBounds i true) [])::k)) cs w) (lone (b.at a' k) cs w') ∧
     Inv X E' (SS ops.size) w'∧FR E' w' (FF ops.size) a' N∧Evol E w E' w' E.boxes.length E.toks.length:=fun p' hp' hpe' hn=>by
    obtain⟨v,w1,⟨E1,h1,h2,h3⟩,h4⟩:=hn _ E w a hagree hI hF b k cs (Region.linearise.go .any ops fuel (t/(Region.ready .any ops listed).length) (listed.setIfInBounds i true) []);rw[ho]at h4;have hd:=(D.step i (Cc _) hin o ho).2;have hF1:FR E1 w1 (FD ops x ((listed.setIfInBounds i true).getD · false) F ops.size) (a.put o.dst v) N:=by
     have:=(hF.step h2).putF hd h3;exact⟨this.size,this.nod,fun q y hq=>this.rel q y (by rw[←hlk' q];exact hq)⟩
    have hcu:=Acv hin hs hilf;obtain⟨E',w',a',k1,k2,k3,k4⟩:=ih (t/(Region.ready .any ops listed).length) (listed.setIfInBounds i true) _ w1 E1 p' (by simp[hs]) hcl' hp' hpe' (by omega) h1 hF1 b cs;have hlen:=h2.len;exact⟨E',w',a',h4.trans k1,k2,k3,h2.trans (k4.weaken hlen.1 hlen.2)⟩
   cases he:eff i with
   |false=>
    refine next p hp (fun e hen hee=>?_) ?_
    ·rw[I3 (by omega)];by_cases hie:i=e
     ·subst hie;rw[he]at hee;cases hee
     ·rw[if_neg hie];exact hpe e hen hee
    ·exact D.will i (Cc _) hin he o ho p (Cc _) hp (fun e h1 h2 h3=>notbit e (by omega) ((hpe e (by omega) h3).2 h2))
   |true=>
    obtain⟨es,hn⟩:=D.eff1 i (Cc _) hin he o ho;have hpi:p≤i:=by
     rcases Gu i p with h|h
     ·have:=(hpe i hin he).2 h;rw[hilf]at this;cases this
     ·exact h
    have before:∀e,e<i→eff e=true→listed.getD e false=true:=fun e hei hee=>by
     have hoe:ops[e]?=some ops[e]:=by simp[show e<ops.size by omega]
     exact rbit e (by omega) (dk.effs e i _ o hoe ho hei (D.eff1 e (Cc _) (by omega) hee _ hoe).1 es)
    have hSp:SS i=SS p:=hSS p i hpi (by omega) (fun e h1 h2=>by
     cases hee:eff e with
     |false=>rfl
     |true=>have:=(hpe e (by omega) hee).1 (before e h2 hee);omega)
    refine next (i+1) (by omega) (fun e hen hee=>?_) (by rw[←hSp];exact hn)
    rw[I3 (by omega)];by_cases hie:i=e
    ·subst hie;simp
    ·rw[if_neg hie];constructor
     ·intro hl;rcases Gu e (i+1)with h|h
      ·exact h
      ·have hoe:ops[e]?=some ops[e]:=by simp[hen]
       have:=dk.effs i e o _ ho hoe (by omega) es (D.eff1 e (Cc _) hen hee _ hoe).1;have h2:=notbit e hen hl;rw[this]at h2;cases h2
     ·intro hlt;exact before e (by omega) hee
theorem Gx(E:Env)(w:World)(n m:Nat):Evol E w E { w with drawn:=w.drawn+1 } n m:=
 ⟨rfl,fun _ _ h=>⟨h,fun _ h=>h⟩,fun _ _ k h=>⟨k,h,.inl rfl⟩,rfl,rfl,rfl,Bo _,fun _ _ _=>rfl,fun _ _ _ _ h=>h,fun _ _ _ h=>h,fun _ _ h=>h,rfl,fun _ _ h=>h,fun _ _ _ _ _ _ _ _ _ h=>h⟩
theorem Avl{id:Nat}{ops:Array Oper}{k:List Item}(bs:List Nat)(em:Nat)(hst:Rz ops bs em=true)
 (h:Drv X B.fn.ntmps ops bs em ops.toList 0 F S [S] [] fun F' S'=>AK X B k F' S' R):AK X B (.code (.region id ops true)::k) F S R:=by
 obtain⟨eff,x,FF,SS,h1,h2,h3,D⟩:=Tr ops.toList 0 F S [S] [] _ h (fun j hj=>by simp) (by simp) (fun q hq=>by cases hq);have hlen:0+ops.toList.length=ops.size:=by simp
 rw[hlen]at h3 D;refine Pw h3 fun E w a b cs hI hF hb=>?_;have hI1:Inv X E (SS 0) { w with drawn:=w.drawn+1 }:=by rw[h2];exact hI.keep (Gx E w _ _) (fun _ _=>rfl)
 have hF1:FR E { w with drawn:=w.drawn+1 } (FD ops x ((Array.replicate ops.size false).getD · false) F ops.size) a B.fn.ntmps:=by
  have hF':=hF.step (Gx E w _ _);have:FD ops x ((Array.replicate ops.size false).getD · false) F ops.size=F:=by
   have:∀n,FD ops x ((Array.replicate ops.size false).getD · false) F n=F:=by
    intro n
    induction n with
    |zero=>rfl
    |succ n ih=>
     simp only[FD];have:(Array.replicate ops.size false).getD n false=false:=by
      simp[Array.getD]
     rw[this];exact ih
   exact this _
  rw[this];exact hF'
 have hz:∀j,(Array.replicate ops.size false).getD j false=false:=fun j=>by simp[Array.getD]
 obtain⟨E',w',a',g1,g2,g3,g4⟩:=Awj (Aa3 hst) D h1 k ops.size (w.tape w.drawn (.order b.fn id)) (Array.replicate ops.size false) a { w with drawn:=w.drawn+1 } E 0 (by simp)
  (fun j o hj=>by rw[hz]at hj;cases hj) (Cc _) (fun e he hee=>by rw[hz];simp) (by
    unfold Abp;exact Nt (Ze _ _) (by simp)) hI1 hF1 b cs
 refine⟨E',w',a',.head step_region_draw ?_,g2,(Gx E w _ _).trans g4,g3⟩;simp only[Region.schedule,X.mixed,Bool.true_or,if_true];exact g1
end
section
variable {X:Cx}{B:Bx}{E:Env}{S:St}{w w':World}{F:C3}{a:Act}{N:Nat}{R:AE→St→Prop}
def Env.setTok(E:Env)(t:Nat)(k:Tk):Env:={ E with toks:=E.toks.set t k }
theorem Ep{α:Type}{l:List α}{i j:Nat}{x y:α}(h:(l.set i x)[j]?=some y):(j=i∧y=x)∨(j≠i∧l[j]?=some y):=by
 rw[U4]at h;split at h
 ·rename_i hij;split at h
  ·cases h;exact .inl ⟨hij.symm,rfl⟩
  ·cases h
 ·rename_i hij;exact .inr ⟨fun e=>hij e.symm,h⟩
theorem Ps{w w':World}{b q:Nat}{e:TypeId}(h1:q=b→∃cs cs' te z,w.heap[q]?=some (.cells cs te z)∧w'.heap[q]?=some (.cells cs' te z))(h2:q≠b→w'.heap[q]?=w.heap[q]?)(h:Fu w q=some e):Fu w' q=some e:=by
 unfold Fu at h⊢;by_cases hq:q=b
 ·obtain⟨cs,cs',te,z,g1,g2⟩:=h1 hq;rw[g1]at h;rw[g2];exact h
 ·rw[h2 hq];exact h
theorem Nj(hI:Inv X E S w){t n m b c sz:Nat}{k:Tk}(hk:E.toks[t]?=some k)(hkn:k.len=n)(hlt:n<m)(hmc:sz≠0→m≤c)
 (hos:w'.os=w.os)(htp:w'.tape=w.tape)(hout:w'.output=w.output)(hsize:w.heap.size≤w'.heap.size)(hoth:∀q,q<w.heap.size→q≠b→w'.heap[q]?=w.heap[q]?)
 (hb:b=w.heap.size∨k.sp=some (b,c,sz))(hbs:b<w'.heap.size)(hcell:∀o v,o<n*sz→w.cell? ⟨b,o,none⟩=some v→w'.cell? ⟨b,o,none⟩=some v)
 (hnew:∃cs e,w'.heap[b]?=some (.cells cs e (0,0))∧(sz≠0→cs.size=c*sz))(hty:∀q e,Fu w q=some e→Fu w' q=some e) :
 Evol E w (E.setTok t ⟨m,some (b,c,sz)⟩) w' E.boxes.length E.toks.length∧Inv X (E.setTok t ⟨m,some (b,c,sz)⟩) ⟨S.boxes,S.toks.set t m⟩ w' ∧
  ∀o,o<m*sz→¬(E.setTok t ⟨m,some (b,c,sz)⟩).mt b o:=by
 have hkt:=Aa hk;obtain⟨kl,ksp⟩:=k;simp only at hkn hb;subst hkn;have hwas:∀{l' c' s':Nat} {q:Nat},E.toks[q]?=some (Tk.mk l' (some (b,c',s')))→q=t:=fun{l' c' s' q} h=>by
  rcases hb with hb|hb
  ·exact absurd (.inr ⟨q,l',c',s',hb▸h⟩) (Vj hI)
  ·subst hb;exact hI.tt q t b l' c' s' kl c sz h hk
 have nobox:∀{i s:Nat},E.boxes[i]?=some (some (b,s))→False:=fun{i s} h=>by
  rcases hb with hb|hb
  ·exact absurd (.inl ⟨i,s,hb▸h⟩) (Vj hI)
  ·subst hb;exact hI.bt i t b s kl c sz h hk
 have nofr:∀o,¬E.fr b o:=fun o h=>by
  rcases hb with hb|hb
  ·have:=(hI.frlt b o h).2;omega
  ·subst hb;exact(hI.frlt b o h).1 (.inr ⟨t,kl,c,sz,hk⟩)
 have hown:∀q,(E.setTok t ⟨m,some (b,c,sz)⟩).own q→E.own q∨q=b:=fun q h=>by
  rcases h with⟨i,s,h⟩|⟨i,l,c',s,h⟩
  ·exact .inl (.inl ⟨i,s,h⟩)
  ·rcases Ep h with⟨_,h⟩|⟨_,h⟩
   ·cases h;exact .inr rfl
   ·exact .inl (.inr ⟨i,l,c',s,h⟩)
 have hbown:b<w.heap.size→E.own b:=fun h=>by
  rcases hb with hb|hb
  ·omega
  ·subst hb;exact .inr ⟨t,kl,c,sz,hk⟩
 have hmt:∀q o,q<w.heap.size→(E.setTok t ⟨m,some (b,c,sz)⟩).mt q o→E.mt q o:=fun q o hq h=>by
  rcases h with h|⟨i,s,h⟩|⟨i,l,c',s,h,ho⟩
  ·exact .inl h
  ·exact .inr (.inl ⟨i,s,h⟩)
  ·rcases Ep h with⟨_,h⟩|⟨_,h⟩
   ·cases h;rcases hb with hb|hb
    ·omega
    ·subst hb;have:=Tp sz (Nat.le_of_lt hlt);exact .inr (.inr ⟨t,kl,c,sz,hk,by omega⟩)
   ·exact .inr (.inr ⟨i,l,c',s,h,ho⟩)
 have ev:Evol E w (E.setTok t ⟨m,some (b,c,sz)⟩) w' E.boxes.length E.toks.length:=by
  refine⟨rfl,fun _ _ h=>⟨h,fun _ h=>h⟩,fun q hq k' hk'=>?_,hos,htp,hout,hsize,fun q hq ho=>?_,fun q o v hm hc=>?_,fun q o hq h=>hmt q o hq h,fun q hq h=>?_,rfl,hty,fun q _ k' b1 c1 g1 g2 g3 o ho=>?_⟩
  ·by_cases hqt:q=t
   ·subst hqt;rw[hk]at hk';cases hk';exact⟨⟨m,some (b,c,sz)⟩,by simp[Env.setTok,hkt],.inr hlt⟩
   ·exact⟨k',by simp only[Env.setTok];rw[Fj (by omega)];exact hk',.inl rfl⟩
  ·exact hoth q hq fun h=>ho (by subst h;exact hbown hq)
  ·by_cases hqb:q=b
   ·subst hqb;refine hcell o v ?_ hc;rcases hb with hb|hb
    ·have:=Jf hc;omega
    ·subst hb;rcases Gu o (kl*sz)with h|h
     ·exact h
     ·exact absurd (.inr (.inr ⟨t,kl,c,sz,hk,h⟩)) hm
   ·have hq:=Jf hc;unfold World.cell? at hc⊢;simp only[hoth q hq hqb];exact hc
  ·rcases hown q h with h|h
   ·exact h
   ·subst h;exact hbown hq
  ·obtain⟨kl',ksp'⟩:=k';simp only at g2;subst g2;have hne:b1≠b:=fun h=>by
    have hqt:=hwas (h▸g1);subst hqt;rw[hk]at g1;simp only[Env.setTok]at g3;rw[Et hkt]at g3;cases g1;cases g3;omega
   rw[hoth b1 (N6 ho) hne];exact ho
 refine⟨ev,?_,fun o ho h=>?_⟩
 ·exact{
   nb:=hI.nb
   nt:=by simp only[Env.setTok,Zf,hI.nt]
   np:=hI.np
   box:=fun i b' s rr h1 h2=>by
    obtain⟨cs',e',hh',hs',hl',hr'⟩:=hI.box i b' s rr h1 h2;have hne:b'≠b:=fun h=>nobox (h▸h1);exact⟨cs',e',(hoth b' (hI.own_lt (.inl ⟨i,s,h1⟩)) hne).trans hh',hs',hl',fun k r j x v h3 h4 h5=>(hr' k r j x v h3 h4 h5).step ev⟩
   tok:=fun q l b' c' s h=>by
    rcases Ep h with⟨_,h⟩|⟨hq,h⟩
    ·cases h;obtain⟨cs,e,h1,h2⟩:=hnew;exact⟨hmc,by omega,cs,e,h1,h2⟩
    ·obtain⟨h1,h0,cs,e,hh',hs'⟩:=hI.tok q l b' c' s h;have hne:b'≠b:=fun hx=>hq (hwas (hx▸h));exact⟨h1,h0,cs,e,(hoth b' (hI.own_lt (.inr ⟨q,l,c',s,h⟩)) hne).trans hh',hs'⟩
   bb:=hI.bb
   bt:=fun i q b' s l c' s' h1 h2=>by
    rcases Ep h2 with⟨_,h2⟩|⟨_,h2⟩
    ·cases h2;exact nobox h1
    ·exact hI.bt i q b' s l c' s' h1 h2
   tt:=fun i j b' l c1 s l' c' s' h1 h2=>by
    rcases Ep h1 with⟨hi,h1⟩|⟨hi,h1⟩<;>rcases Ep h2 with⟨hj,h2⟩|⟨hj,h2⟩
    ·omega
    ·cases h1;exact absurd (hwas h2) hj
    ·cases h2;exact absurd (hwas h1) hi
    ·exact hI.tt i j b' l c1 s l' c' s' h1 h2
   frlt:=fun q o h=>⟨fun h'=>by
    rcases hown q h' with h'|h'
    ·exact(hI.frlt q o h).1 h'
    ·subst h';exact nofr o h,Mx (hI.frlt q o h).2 hsize⟩
   lo:=fun q h=>by
    rcases hown q h with h|h
    ·exact hI.lo q h
    ·subst h;rcases hb with hb|hb
     ·rw[hb];exact hI.sz
     ·subst hb;exact hI.lo _ (.inr ⟨t,kl,c,sz,hk⟩)
   frlo:=hI.frlo
   sz:=Nt hI.sz hsize
   glob:=X.glob_st w w' (fun q hq=>ev.block q (Mx hq hI.sz) (fun ho=>by have:=hI.lo q ho;omega)) hI.sz hos hI.glob }
 ·rcases h with h|⟨i,s,h⟩|⟨i,l,c',s,h,ho'⟩
  ·exact nofr o h
  ·exact nobox h
  ·rcases Ep h with⟨_,h⟩|⟨hq,h⟩
   ·cases h;omega
   ·exact hq (hwas h)
def D2(n sz:Nat)(vals:Nat→Nat→Value):List Value:=(List.range (n*sz)).map fun q=>vals (q/sz) (q%sz)
theorem Ee(n sz:Nat)(vals:Nat→Nat→Value):(D2 n sz vals).length=n*sz:=by simp[D2]
theorem La{n sz:Nat}{vals:Nat→Nat→Value}{i j:Nat}(hi:i<n)(hj:j<sz):(D2 n sz vals)[i*sz+j]?=some (vals i j):=by
 have:=Ig hi hj;simp only[D2,Gm];rw[Abl this];simp only[Km];rw[Nat.mul_comm i sz,Nat.mul_add_div (by omega),Nat.mul_add_mod,Nat.mod_eq_of_lt hj,Nat.div_eq_of_lt hj,Pt]
theorem Yj{n sz:Nat}{vals:Nat→Nat→Value}{q:Nat}(hq:q<n*sz):∃i j,i<n∧j<sz∧q=i*sz+j∧(D2 n sz vals)[q]?=some (vals i j):=by
 have hs:0<sz:=by
  rcases Nat.eq_zero_or_pos sz with h|h
  ·subst h;simp at hq
  ·exact h
 have hdm:=Nat.div_add_mod q sz;rw[Nat.mul_comm]at hdm;have hi:q/sz<n:=(Nat.div_lt_iff_lt_mul hs).2 hq;have hj:=Ws q hs;refine⟨q/sz,q%sz,hi,hj,hdm.symm,?_⟩;have h:=La (n:=n) (vals:=vals) hi hj;rw[hdm]at h;exact h
theorem Amp{tx e':TypeId}(hk:X.P.underlying tx=some (.slice e')){size:Nat}{new:List (List AV)}{sp:Sp}{u:Value}(hu:Rel E w u (.sl new sp))(hz:∀r,r∈new→r.length=size)
 (hc:∀r,r∈new→∀x,x∈r→Iy x=true)(hne:new≠[]) :
 ∃vals:Nat→Nat→Value,Src X.P size tx u new.length (D2 new.length size vals) w∧∀(i j:Nat) (r:List AV) (x:AV),new[i]?=some r→r[j]?=some x→Rel E w (vals i j) x:=by
 cases hu with
 |sl _ _ a n cap b o sz vals hn hx ha hsz hm hcl hr hs hcap=>
  subst hn;obtain⟨r0,l0,rfl⟩:∃r0 l0,new=r0::l0:=by
   cases new with
   |nil=>exact absurd rfl hne
   |cons r l=>exact⟨r,l,rfl⟩
  have hs0:sz=size:=by rw[←hsz r0 (by simp),hz r0 (by simp)]
  subst hs0;have ha':=ha (by simp);subst ha';refine⟨vals,Src.ofSlice w hk ⟨b,o,none⟩ _ cap _ (Ee _ _ _) (fun q v hq=>?_) (fun v hv=>?_),hr⟩
  ·obtain⟨i,j,hi,hj,rfl,he⟩:=Yj (vals:=vals) (by have:=Aa hq;rw[Ee]at this;exact this);rw[he]at hq;cases hq;rw[F9,←Nx];exact hcl i j hi hj
  ·obtain⟨q,hq⟩:=Bw hv;obtain⟨i,j,hi,hj,rfl,he⟩:=Yj (vals:=vals) (by have:=Aa hq;rw[Ee]at this;exact this);rw[he]at hq;cases hq;obtain⟨r,hri⟩:=Ab (r0::l0) hi;have hrl:=hz r (Bh hri);obtain⟨x,hxj⟩:=Ab r (i:=j) (by omega);exact L3 (hr i j r x hri hxj) (hc r (Bh hri) x (Bh hxj))
theorem Pz(t tx ty e:TypeId)(i:TypeInfo)(ht:X.P.underlying t=some (.slice e))(hi:X.P.info? e=some i)(b sLen sCap:Nat)(x:Value)(n:Nat)(news:List Value)(hs:Src X.P i.size tx x n news w)
 (hroom:sLen+n≤sCap){cur:Array Value}{te:TypeId}(hb:w.heap[b]?=some (.cells cur te (0,0)))(hfit:sLen*i.size+news.length≤cur.size) :
 (Builtin.append_ #[t,tx] ty #[.slice (some ⟨b,0,none⟩) sLen sCap,x]).run X.P w=.ok (.slice (some ⟨b,0,none⟩) (sLen+n) sCap)
   (w.setRow b (cur.toList.take (sLen*i.size)++news++cur.toList.drop (sLen*i.size+news.length)).toArray):=by
 have hst:=run_storeCells_at X.P b (sLen*i.size) te news 0 cur w hb (by simpa using hfit) hs.one;simp only[Pt]at hst;rcases hs.kind with⟨e',hk⟩|hk<;>simp[Builtin.append_,run_underlying ht,run_underlying hk,sizeOf,typeInfo,hi,hs.len,hroom,hs.cells,F9,hst]
theorem Ak5(hI:Inv X E S w){t:Nat}{tt tx ty e:TypeId}{ye:Ty}(hu:X.P.underlying tt=some (.slice e))(hye:X.ty e=some ye)(hne0:ye.size≠0)
 {rows new:List (List AV)}{u v:Value}{vals2:Nat→Nat→Value}(hp:Rel E w u (.sl rows (.tok t)))(hsrc:Src X.P ye.size tx v new.length (D2 new.length ye.size vals2) w)
 (hr2:∀(i j:Nat)(r:List AV)(x:AV),new[i]?=some r→r[j]?=some x→Rel E w (vals2 i j) x)(hS:S.toks[t]?=some rows.length)
 (hz:∀r,r∈rows→r.length=ye.size)(hz':∀r,r∈new→r.length=ye.size)(hne:new≠[])(hb:rows.length+new.length≤100000000000) :
 ∃r E' w',(Builtin.append_ #[tt,tx] ty #[u,v]).run X.P w=.ok r w'∧Inv X E' ⟨S.boxes,S.toks.set t (rows.length+new.length)⟩ w'∧Evol E w E' w' E.boxes.length E.toks.length ∧
  Rel E' w' r (.sl (rows++new) (.tok t)):=by
 obtain⟨i,z,hi,hsz,hby,hzv,hzc,hzl,_⟩:=(X.ty_ok e ye hye).info;have hnew:0<new.length:=zzq67.2 hne;rw[←hsz]at hsrc;generalize hR:rows=rows0 at hp;cases hp with
 |sl _ _ a n cap b o sz vals hn hx ha hszr hm hcl hr hs hcap=>
 subst hR;subst hn;obtain⟨k,hk1,hk2,hk3⟩:=hs;have hkl:k.len=rows.length:=by
  have h1:=hI.nt;have h2:(E.toks.map Tk.len)[t]?=some k.len:=by simp[hk1]
  rw[h1,hS]at h2;exact(Option.some.inj h2).symm
 have hk4:=hk3 hkl.symm;have hvals:∀(vals':Nat→Nat→Value),(∀i j,i<rows.length→vals' i j=vals i j)→(∀i j,rows.length≤i→vals' i j=vals2 (i-rows.length) j)→∀{E':Env} {w':World},Evol E w E' w' E.boxes.length E.toks.length →
  ∀(i j:Nat) (r:List AV) (x:AV),(rows++new)[i]?=some r→r[j]?=some x→Rel E' w' (vals' i j) x:=fun vals' h1 h2 {E' w'} ev i j r x hi hj=>by
  rcases Gu i rows.length with h|h
  ·rw[Cr h]at hi;rw[h1 i j h];exact(hr i j r x hi hj).step ev
  ·rw[Gj h]at hi;rw[h2 i j h];exact(hr2 _ j r x hi hj).step ev
 have hall:∀r,r∈rows++new→r.length=ye.size:=fun r h=>by
  rcases zzq47.1 h with h|h
  ·exact hz r h
  ·exact hz' r h
 have hlen:(rows++new).length=rows.length+new.length:=by simp
 have grow:cap<rows.length+new.length→∃r E' w',(Builtin.append_ #[tt,tx] ty #[.slice a rows.length cap,v]).run X.P w=.ok r w'∧Inv X E' ⟨S.boxes,S.toks.set t (rows.length+new.length)⟩ w'∧Evol E w E' w' E.boxes.length E.toks.length ∧
  Rel E' w' r (.sl (rows++new) (.tok t)):=fun hg=>by
  have hold:(Builtin.firstCells i.size rows.length (.slice a rows.length cap)).run X.P w.drew=.ok (D2 rows.length i.size vals).toArray w.drew:=by
   rcases Nat.eq_zero_or_pos rows.length with h0|h0
   ·rw[h0];have:D2 0 i.size vals=[]:=by simp[D2]
    rw[this];cases a with
    |none=>exact run_firstCells_none _ _ _ _ _
    |some a0=>exact run_firstCells_some _ _ _ _ _ _ _ (by simp) (fun j v hj=>by simp at hj)
   ·have ha':=ha (by omega);subst ha';obtain⟨r0,hr0⟩:=Ab rows h0;have:sz=i.size:=by rw[←hszr r0 (Bh hr0),hz r0 (Bh hr0),hsz]
    subst this;refine run_firstCells_some _ _ _ _ _ _ _ (Ee _ _ _) (fun q v hq=>?_);obtain⟨i',j',hi',hj',rfl,he⟩:=Yj (vals:=vals) (by have:=Aa hq;rw[Ee]at this;exact this);rw[he]at hq;cases hq;rw[F9,←Nx];exact hcl i' j' hi' hj'
  have hby':(rows.length+new.length)*i.bytes≤140737488355328:=Nt (Nat.mul_le_mul_left _ hby) (by omega);have hrun:=run_append_grow_src w tt tx ty e i z hu hi hzv a rows.length cap _ hold v new.length _ hsrc hg (by omega) (growslice_fits hg hby');have hcc:=grownCap_ge w (rows.length+new.length) cap e;generalize grownCap w (rows.length+new.length) cap e=cc at hrun hcc;have hfl:∀(i' j':Nat),i'<rows.length+new.length→j'<ye.size→(D2 rows.length i.size vals++D2 new.length i.size vals2)[i'*ye.size+j']?=some (if i'<rows.length then vals i' j' else vals2 (i'-rows.length) j'):=fun i' j' hi' hj'=>by
   rw[hsz];by_cases h:i'<rows.length
   ·have:=Ig h hj';rw[Cr (by rw[Ee];exact this),if_pos h];exact La h hj'
   ·have hle:rows.length*ye.size≤i'*ye.size:=Tp _ (by omega);rw[Gj (by rw[Ee];omega),if_neg h,Ee];rw[show i'*ye.size+j'-rows.length*ye.size=(i'-rows.length)*ye.size+j' by rw[Nat.sub_mul];omega];exact La (by omega) hj'
  have hcs:((D2 rows.length i.size vals++D2 new.length i.size vals2).toArray++Builtin.zeroCells z.cells (cc-(rows.length+new.length))).size=cc*ye.size:=by
   have hzs:z.cells.size=ye.size:=by rw[←hzl,←hzc];simp
   have:(Builtin.zeroCells z.cells (cc-(rows.length+new.length))).size=(cc-(rows.length+new.length))*ye.size:=by
    simp[Builtin.zeroCells,hzs]
   rw[Array.size_append,this,Abj,Es,Ee,Ee,hsz,←Rf,←Rf];congr 1;omega
  have hpush:∀o:Obj,(w.drew.alloc o).heap=w.heap.push o:=fun _=>rfl;obtain⟨ev,hI',hmt⟩:=Nj (w':=w.drew.alloc (.cells ((D2 rows.length i.size vals++D2 new.length i.size vals2).toArray++Builtin.zeroCells z.cells (cc-(rows.length+new.length))) e)) hI (t:=t) (n:=rows.length) (m:=rows.length+new.length)
   (b:=w.heap.size) (c:=cc) (sz:=ye.size) hk1 hkl (by omega) (fun _=>hcc) rfl rfl rfl (by rw[hpush];simp) (fun q hq _=>by rw[hpush,Wq hq];simp[hq]) (.inl rfl) (by rw[hpush];simp)
   (fun o v _ h=>by have:=Jf h;omega) ⟨_,e,by rw[hpush];simp,fun _=>hcs⟩ (Evol.push (E:=E) (w:=w) ⟨_,hpush _⟩ rfl rfl rfl 0 0).ty
  refine⟨_,_,_,hrun,hI',ev,?_⟩;have hkt:=Aa hk1;refine .sl (rows++new) (.tok t) _ _ cc w.heap.size 0 ye.size (fun i j=>if i<rows.length then vals i j else vals2 (i-rows.length) j) hlen (by unfold O0;omega) (fun _=>rfl) hall (fun i' j' hi' hj'=>?_) (fun i' j' hi' hj'=>?_)
   (hvals _ (fun i' j' h=>if_pos h) (fun i' j' h=>if_neg (by omega)) ev) ⟨⟨rows.length+new.length,some (w.heap.size,cc,ye.size)⟩,by simp[Env.setTok,hkt],Bo _,fun _=>⟨rfl,rfl,rfl⟩⟩ hcc
  ·have:=Ig hi' hj';exact hmt _ (by omega)
  ·have h:=hfl i' j' hi' hj';have hlt:=Aa h;simp only[Jt];have hheap:(w.drew.alloc (.cells ((D2 rows.length i.size vals++D2 new.length i.size vals2).toArray++Builtin.zeroCells z.cells (cc-(rows.length+new.length))) e)).heap[w.heap.size]? =
    some (.cells ((D2 rows.length i.size vals++D2 new.length i.size vals2).toArray++Builtin.zeroCells z.cells (cc-(rows.length+new.length))) e (0,0)):=by rw[hpush];simp
   simp only[World.cell?,hheap];rw[Zd (by simpa using hlt),Rc];exact h
 by_cases hg:cap<rows.length+new.length
 ·exact grow hg
 ·obtain⟨kl,ksp⟩:=k;cases ksp with
  |none=>simp only at hk4;omega
  |some q=>
   obtain⟨b',c',s'⟩:=q;simp only at hk4 hkl;obtain⟨rfl,rfl,rfl⟩:=hk4;subst hkl;obtain⟨h1,h00,cur,te,hh,hcs⟩:=hI.tok t _ b' cap s' hk1;have h0:s'≠0:=fun hs0=>by
    obtain⟨r0,hr0⟩:=Ab rows (i:=0) (by omega);have g1:=hszr r0 (Bh hr0);have g2:=hz r0 (Bh hr0);omega
   have h1:=h1 h0;have hcs:=hcs h0;have hab:=ha (by omega);simp only[Option.some.injEq,Addr.mk.injEq,and_true]at hab;obtain⟨rfl,rfl⟩:=hab;obtain⟨r0,hr0⟩:=Ab rows (i:=0) (by omega);have:s'=i.size:=by rw[←hszr r0 (Bh hr0),hz r0 (Bh hr0),hsz]
   subst this;have hsub:(rows.length+new.length)*i.size≤cap*i.size:=Tp _ (by omega);rw[Rf]at hsub;have hfit:rows.length*i.size+(D2 new.length i.size vals2).length≤cur.size:=by rw[Ee,hcs];exact hsub
   have hrun:=Pz tt tx ty e i hu hi b' rows.length cap v new.length _ hsrc (by omega) hh hfit;have hfl:=Ee new.length i.size vals2;have hat:=setRow_heap w b' cur (cur.toList.take (rows.length*i.size)++D2 new.length i.size vals2++cur.toList.drop (rows.length*i.size+(D2 new.length i.size vals2).length)).toArray te _ hh;have hoth:∀q,q≠b'→(w.setRow b' (cur.toList.take (rows.length*i.size)++D2 new.length i.size vals2++cur.toList.drop (rows.length*i.size+(D2 new.length i.size vals2).length)).toArray).heap[q]?=w.heap[q]?:=
    fun q hq=>setRow_other w b' q _ (by omega)
   have hspl:=fun q=>K4 cur.toList (D2 new.length i.size vals2) (rows.length*i.size) q (by simpa using hfit);have hsp1:∀q,q<rows.length*i.size→(cur.toList.take (rows.length*i.size)++D2 new.length i.size vals2++cur.toList.drop (rows.length*i.size+(D2 new.length i.size vals2).length))[q]?=cur.toList[q]?:=fun q h=>by
    rw[hspl,if_neg (by omega)]
   have hsp2:∀q,rows.length*i.size≤q→q<rows.length*i.size+(D2 new.length i.size vals2).length →
    (cur.toList.take (rows.length*i.size)++D2 new.length i.size vals2++cur.toList.drop (rows.length*i.size+(D2 new.length i.size vals2).length))[q]?=(D2 new.length i.size vals2)[q-rows.length*i.size]?:=fun q h1 h2=>by
    rw[hspl,if_pos ⟨h1,h2⟩]
   have hbw:b'<w.heap.size:=hI.own_lt (.inr ⟨t,_,cap,i.size,hk1⟩);obtain⟨ev,hI',hmt⟩:=Nj (w':=w.setRow b' (cur.toList.take (rows.length*i.size)++D2 new.length i.size vals2++cur.toList.drop (rows.length*i.size+(D2 new.length i.size vals2).length)).toArray) hI (t:=t) (n:=rows.length) (m:=rows.length+new.length)
    (b:=b') (c:=cap) (sz:=i.size) hk1 rfl (by omega) (fun _=>by omega) rfl rfl rfl (by simp) (fun q _ hq=>hoth q hq) (.inr rfl) (by simpa using hbw)
    (fun o v ho h=>by
      simp only[World.cell?,hh]at h;simp only[World.cell?,hat,Rc];rw[hsp1 o ho];simpa using h)
    ⟨_,_,hat,fun _=>by rw[Abj,K5 _ _ _ (by simpa using hfit)];simpa using hcs⟩
    (fun q e he=>Ps (fun h=>by subst h;exact⟨_,_,_,_,hh,hat⟩) (hoth q) he)
   refine⟨_,_,_,hrun,hI',ev,?_⟩;have hkt:=Aa hk1;have hnm:∀i' j',i'<rows.length+new.length→j'<i.size→i'*i.size+j'<(rows.length+new.length)*i.size:=fun i' j' hi' hj'=>Ig hi' hj';refine .sl (rows++new) (.tok t) _ _ cap b' 0 i.size (fun i j=>if i<rows.length then vals i j else vals2 (i-rows.length) j) hlen (by unfold O0;omega) (fun _=>rfl) (fun r hr=>by rw[hall r hr,hsz]) (fun i' j' hi' hj'=>?_) (fun i' j' hi' hj'=>?_)
    (hvals _ (fun i' j' h=>if_pos h) (fun i' j' h=>if_neg (by omega)) ev) ⟨⟨rows.length+new.length,some (b',cap,i.size)⟩,by simp[Env.setTok,hkt],Bo _,fun _=>⟨rfl,rfl,rfl⟩⟩ (by omega)
   ·have:=hnm i' j' hi' hj';exact hmt _ (by omega)
   ·simp only[Jt];by_cases h:i'<rows.length
    ·have h3:=hcl i' j' h hj';simp only[Jt]at h3;rw[if_pos h];exact ev.cell _ _ _ (by have:=hm i' j' h hj';simpa using this) h3
    ·rw[if_neg h];simp only[World.cell?,hat,Rc];have hle:rows.length*i.size≤i'*i.size:=Tp _ (by omega);have h4:=hnm i' j' hi' hj';rw[Rf]at h4;rw[hsp2 _ (by omega) (by omega)];rw[show i'*i.size+j'-rows.length*i.size=(i'-rows.length)*i.size+j' by rw[Nat.sub_mul];omega];exact La (by omega) hj'
theorem Agt(hI:Inv X E S w){t:Nat}{tt tx ty e e':TypeId}{ye:Ty}(hu:X.P.underlying tt=some (.slice e))(hk:X.P.underlying tx=some (.slice e'))(hye:X.ty e=some ye)(hne0:ye.size≠0)
 {rows new:List (List AV)}{sp:Sp}{u v:Value}(hp:Rel E w u (.sl rows (.tok t)))(hq:Rel E w v (.sl new sp))(hS:S.toks[t]?=some rows.length)
 (hz:∀r,r∈rows→r.length=ye.size)(hz':∀r,r∈new→r.length=ye.size)(hc:∀r,r∈new→∀x,x∈r→Iy x=true)(hne:new≠[])(hb:rows.length+new.length≤100000000000) :
 ∃r E' w',(Builtin.append_ #[tt,tx] ty #[u,v]).run X.P w=.ok r w'∧Inv X E' ⟨S.boxes,S.toks.set t (rows.length+new.length)⟩ w'∧Evol E w E' w' E.boxes.length E.toks.length ∧
  Rel E' w' r (.sl (rows++new) (.tok t)):=by
 obtain⟨vals2,hsrc,hr2⟩:=Amp hk hq hz' hc hne;exact Ak5 hI hu hye hne0 hp hsrc hr2 hS hz hz' hne hb
end
abbrev str(s:List UInt8):AV:=.val (.string ⟨⟨s⟩⟩)
def Ka(n:Nat):List (List AV)→Bool
 |[]=>true
 |r::l=>match Nat.beq r.length n with
  |true=>Ka n l
  |false=>false
def M8:List (List AV)→Bool
 |[]=>true
 |r::l=>match Jo r with
  |true=>M8 l
  |false=>false
theorem Io{n:Nat}:∀{l:List (List AV)},Ka n l=true↔∀r,r∈l→r.length=n
 |[]=>by simp[Ka]
 |r::l=>by
  simp only[Ka];constructor
  ·intro h;split at h
   ·rename_i hb;intro q hq;rcases zzq13.1 hq with rfl|hq
    ·exact U5 hb
    ·exact Io.1 h q hq
   ·cases h
  ·intro h;have h1:=h r (by simp);have:Nat.beq r.length n=true:=by rw[h1];exact Nat.beq_refl n
   rw[this];exact Io.2 fun q hq=>h q (by simp[hq])
theorem Mz:∀{l:List AV},Jo l=true↔∀x,x∈l→Iy x=true
 |[]=>by simp[Jo]
 |x::l=>by
  simp only[Jo];constructor
  ·intro h;split at h
   ·rename_i hb;intro q hq;rcases zzq13.1 hq with rfl|hq
    ·exact hb
    ·exact Mz.1 h q hq
   ·cases h
  ·intro h;rw[h x (by simp)];exact Mz.2 fun q hq=>h q (by simp[hq])
theorem K6:∀{l:List (List AV)},M8 l=true↔∀r,r∈l→∀x,x∈r→Iy x=true
 |[]=>by simp[M8]
 |r::l=>by
  simp only[M8];constructor
  ·intro h;split at h
   ·rename_i hb;intro q hq;rcases zzq13.1 hq with rfl|hq
    ·exact Mz.1 hb
    ·exact K6.1 h q hq
   ·cases h
  ·intro h;rw[Mz.2 (h r (by simp))];exact K6.2 fun q hq=>h q (by simp[hq])
theorem Ku{α:Type}{n:Nat}{f:α→List AV}(h:∀a,(f a).length=n)(l:List α):Ka n (l.map f)=true:=
 Io.2 fun r hr=>by obtain⟨a,_,rfl⟩:=zzq68.1 hr;exact h a
section
variable {X:Cx}{B:Bx}{E:Env}{S:St}{w w':World}{F:C3}{a:Act}{N:Nat}{R:AE→St→Prop}
def Env.mint(E:Env)(n:Nat):Env:={ E with toks:=E.toks++[⟨n,none⟩] }
theorem Add{n b:Nat}:(E.mint n).own b↔E.own b:=by
 constructor
 ·rintro(h|⟨t,l,c,sz,h⟩)
  ·exact .inl h
  ·rcases getElem?_snoc h with h|⟨_,h⟩
   ·exact .inr ⟨t,l,c,sz,h⟩
   ·cases h
 ·rintro(h|⟨t,l,c,sz,h⟩)
  ·exact .inl h
  ·exact .inr ⟨t,l,c,sz,getElem?_snoc_left h⟩
theorem Axd{n b o:Nat}:(E.mint n).mt b o↔E.mt b o:=by
 constructor
 ·rintro(h|h|⟨t,l,c,sz,h,h'⟩)
  ·exact .inl h
  ·exact .inr (.inl h)
  ·rcases getElem?_snoc h with h|⟨_,h⟩
   ·exact .inr (.inr ⟨t,l,c,sz,h,h'⟩)
   ·cases h
 ·rintro(h|h|⟨t,l,c,sz,h,h'⟩)
  ·exact .inl h
  ·exact .inr (.inl h)
  ·exact .inr (.inr ⟨t,l,c,sz,getElem?_snoc_left h,h'⟩)
theorem L1(E:Env)(w:World)(n:Nat):Evol E w (E.mint n) w E.boxes.length E.toks.length where
 fr:=rfl
 boxes _ _ h:=⟨h,fun _ h=>h⟩
 toks t _ k hk:=⟨k,getElem?_snoc_left hk,.inl rfl⟩
 os:=rfl
 tape:=rfl
 output:=rfl
 size:=Bo _
 block _ _ _:=rfl
 cell _ _ _ _ h:=h
 mt _ _ _ h:=Axd.1 h
 own _ _ h:=Add.1 h
 df:=rfl
 ty _ _ h:=h
 pv _ _ _ _ _ _ _ _ _ h:=h
theorem Inv.mint(hI:Inv X E S w)(n:Nat):Inv X (E.mint n) ⟨S.boxes,S.toks++[n]⟩ w where
 nb:=hI.nb
 nt:=by simp[Env.mint,hI.nt]
 np:=hI.np
 box i b sz rows h1 h2:=by
  obtain⟨cs,e,hh,hs,hl,hr⟩:=hI.box i b sz rows h1 h2;exact⟨cs,e,hh,hs,hl,fun k r j x v h3 h4 h5=>(hr k r j x v h3 h4 h5).step (L1 E w n)⟩
 tok t l b c sz h:=by
  rcases getElem?_snoc h with h|⟨_,h⟩
  ·exact hI.tok t l b c sz h
  ·cases h
 bb:=hI.bb
 bt i t b s l c sz h1 h2:=by
  rcases getElem?_snoc h2 with h|⟨_,h⟩
  ·exact hI.bt i t b s l c sz h1 h
  ·cases h
 tt i j b l c s l' c' s' h1 h2:=by
  rcases getElem?_snoc h1 with h1|⟨_,h1⟩
  ·rcases getElem?_snoc h2 with h2|⟨_,h2⟩
   ·exact hI.tt i j b l c s l' c' s' h1 h2
   ·cases h2
  ·cases h1
 frlt b o h:=⟨fun h'=>(hI.frlt b o h).1 (Add.1 h'),(hI.frlt b o h).2⟩
 lo b h:=hI.lo b (Add.1 h)
 frlo:=hI.frlo
 sz:=hI.sz
 glob:=hI.glob
theorem Rel.mint(hI:Inv X E S w){v:Value}{rows:List (List AV)}(h:Rel E w v (.sl rows .tight)):Rel (E.mint rows.length) w v (.sl rows (.tok S.toks.length)):=by
 have h':=h.step (L1 E w rows.length);have hl:S.toks.length=E.toks.length:=by rw[←hI.nt];simp
 cases h' with
 |sl _ _ a n cap b o sz vals hn hx ha hsz hm hc hr hs hcap=>
  refine .sl rows _ a n cap b o sz vals hn hx ha hsz hm hc hr ⟨⟨rows.length,none⟩,?_,by simp[hn],fun _=>hs⟩ hcap;rw[hl];exact getElem?_snoc_new _ _
theorem FR.mint(hF:FR E w F a N)(n:Nat):FR (E.mint n) w F a N:=hF.step (L1 E w n)
theorem N1{K:List Item}{d m:Nat}{rows:List (List AV)}{tk:List Nat}(hd:lk F d=some (.sl rows .tight))(hn:S.toks.length=m)(htk:S.toks++[rows.length]=tk)
 (hk:AK X B K ((d,.sl rows (.tok m))::F) ⟨S.boxes,tk⟩ R):AK X B K F S R:=by
 subst hn;subst htk;intro E w a b cs hI hF hn hm hb;have ev:=L1 E w rows.length;have hI':=hI.mint rows.length;have hF':FR (E.mint rows.length) w ((d,.sl rows (.tok S.toks.length))::F) a B.fn.ntmps:=by
  have h0:=hF.mint rows.length;refine⟨h0.size,h0.nod,fun k x hx=>?_⟩;rw[J1]at hx;split at hx
  ·rename_i hdk;subst hdk;cases hx;obtain⟨v,hv,hr⟩:=hF.rel d _ hd;exact⟨v,hv,Rel.mint hI hr⟩
  ·exact h0.rel k x hx
 have nt:E.toks.length=S.toks.length:=by rw[←hI.nt];simp
 exact Fin.from (Steps.refl _ _) (ev.weaken (by rw[hI.nb];exact hn) (by omega)) (hk (E.mint rows.length) w a b cs hI' hF' hn (by simp;omega) hb)
theorem Bv{ops:Array Oper}{i:Nat}{o:Oper}{c:Call}{p q:Operand}{t tt tx e e':Nat}{y yx ye:Ty}{rows new:List (List AV)}{sp:Sp}{n:Nat}{res:List (List AV)}{tk:List Nat}
 (ho:ops[i]?=some o)(hw:A6 ops F o=some true)(hop:o.op=.call c)(hcal:c.callee=.builtin .append)(hargs:c.args.toList=[p,q])(htys:c.argTypes.toList=[tt,tx])
 (hp:Dt X F p=some (.sl rows (.tok t)))(hq:Dt X F q=some (.sl new sp))(hy:X.ty tt=some y)(hyk:y.k=.slc e)(hye:X.ty e=some ye)(hyx:X.ty tx=some yx)(hyxk:yx.k=.slc e')
 (hS:S.toks[t]?=some n)(hn:rows.length=n)(hl:Ka ye.size rows=true)(hl':Ka ye.size new=true)(hc:M8 new=true)(hne:Nat.ble 1 new.length=true)(hb:rows.length+new.length≤100000000000)
 (hres:rows++new=res)(htk:S.toks.set t (rows.length+new.length)=tk):Ndo X N ops i o F (.sl res (.tok t)) S ⟨S.boxes,tk⟩:=by
 subst hres;subst htk;subst hn;intro F' E w a hlk hI hF;obtain⟨callee,args,argTypes⟩:=c;simp only at hcal hargs htys;subst hcal;have ha:args=#[p,q]:=by rw[←zzq34];exact hargs
 have ht:argTypes=#[tt,tx]:=by rw[←zzq34];exact htys
 subst ha;subst ht;have hlo:=Gs hlk;rw[hop]at hlo;have r1:=Ak hI hF ((Di (X:=X) (F:=F) (F':=F') (o:=p) fun s hs=>hlo s (by simp[Op.operands,Call.operands,hs])).trans hp);have r2:=Ak hI hF ((Di (X:=X) (F:=F) (F':=F') (o:=q) fun s hs=>hlo s (by simp[Op.operands,Call.operands,hs])).trans hq);obtain⟨d1,hd1,hk1⟩:=(X.ty_ok tt y hy).agg;simp only[hyk]at hk1;obtain⟨rfl,ye',hye',hne0⟩:=hk1;rw[hye]at hye';cases hye';obtain⟨d2,hd2,hk2⟩:=(X.ty_ok tx yx hyx).agg;simp only[hyxk]at hk2;obtain⟨rfl,_⟩:=hk2;obtain⟨v,E',w',h1,h2,h3,h4⟩:=Agt hI (ty:=o.type) hd1 hd2 hye hne0 r1 r2 hS (Io.1 hl) (Io.1 hl') (K6.1 hc) (fun h=>by rw[h]at hne;simp at hne) hb;exact Does.val ho (Cm hF (by rw[Cw hlk];exact hw)) (by simp[execOp,hop,resolve,invoke,builtin,h1]) (.inl rfl) ⟨E',h2,h3,h4⟩
def Tj(X:Cx)(F:C3):Option Operand→Int→Option Int
 |none,d=>some d
 |some x,_=>match Dt X F x with
  |some (.val (.int _ n))=>some n
  |_=>none
theorem X9(hI:Inv X E S w)(hF:FR E w F a N){lo:Option Operand}{d l:Int}(h:Tj X F lo d=some l):(lo=none∧l=d)∨∃x k,lo=some x∧a.eval x=.int k l:=by
 cases lo with
 |none=>simp only[Tj]at h;cases h;exact .inl ⟨rfl,rfl⟩
 |some x=>
  simp only[Tj]at h;split at h
  ·rename_i k n hx;cases h;have:=Ak hI hF hx;generalize hv:a.eval x=v at this;cases this;exact .inr ⟨x,k,rfl,hv⟩
  ·cases h
theorem Qf{F':C3}{lo:Option Operand}{d:Int}(h:∀x,lo=some x→Dt X F' x=Dt X F x):Tj X F' lo d=Tj X F lo d:=by
 cases lo with
 |none=>rfl
 |some x=>simp only[Tj,h x rfl]
theorem Kr{isS:Bool}{len cap:Nat}{lo hi:Option Value}{l h:Int}(hlo:(lo=none∧l=0)∨∃k,lo=some (.int k l))(hhi:(hi=none∧h=(len:Int))∨∃k,hi=some (.int k h))
 (h0:0≤l)(h1:l≤h)(h2:h≤(len:Int))(hc:len≤cap)(w:World):(Instr.sliceBounds isS len cap lo hi none).run X.P w=.ok (l.toNat,h.toNat,cap) w:=by
 have hh:(0:Int)≤h:=by omega
 have hhc:h≤(cap:Int):=by omega
 have hlh:l≤(h.toNat:Int):=by omega
 have hmx:max h 0=h:=by omega
 rcases hlo with⟨rfl,rfl⟩|⟨k,rfl⟩<;>rcases hhi with⟨rfl,rfl⟩|⟨k',rfl⟩ <;>
  simp[Instr.sliceBounds,Instr.sliceBound,asIntOf,h0,h1,hh,hhc,hlh,hmx]
theorem Ai0(s:List UInt8){l h:Nat}(hl:l≤h)(hs:h≤s.length):(⟨⟨s⟩⟩:ByteArray).extract l h=⟨⟨(s.take h).drop l⟩⟩:=by
 have:∀(x y:ByteArray),x.data.toList=y.data.toList→x=y:=fun x y h=>by
  cases x;cases y;simp only[ByteArray.mk.injEq];exact zzq34.1 h
 apply this;simp[ByteArray.extract,ByteArray.copySlice,List.drop_take]
theorem Pf{ops:Array Oper}{i:Nat}{o:Oper}{t:Nat}{p:Operand}{lo hi:Option Operand}{s r:List UInt8}{l h:Int}{y:Ty}
 (ho:ops[i]?=some o)(hw:A6 ops F o=some true)(hop:o.op=.slice t p lo hi none)(hp:Dt X F p=some (str s))(hlo:Tj X F lo 0=some l)(hhi:Tj X F hi (s.length:Int)=some h)
 (hy:X.ty t=some y)(hyk:y.k=.string)(h0:0≤l)(h1:l≤h)(h2:h≤(s.length:Int))(hr:(s.take h.toNat).drop l.toNat=r):Ndo X N ops i o F (str r) S S:=by
 subst hr;refine Df ho hw fun F' E w a hc hI hF=>?_;rw[hop]at hc;have r1:=Ak hI hF ((hc p (by simp[Op.operands])).trans hp);have b1:=X9 hI hF (show Tj X F' lo 0=some l by rw[Qf fun x hx=>hc x (by subst hx;simp[Op.operands])];exact hlo);have b2:=X9 hI hF (show Tj X F' hi (s.length:Int)=some h by rw[Qf fun x hx=>hc x (by subst hx;simp[Op.operands])];exact hhi);obtain⟨d,hdd,hd2⟩:=(X.ty_ok t y hy).agg;simp only[hyk]at hd2;subst hd2;generalize hu:a.eval p=u at r1;cases r1;have hb:=Kr (X:=X) (isS:=false) (len:=s.length) (cap:=s.length) (lo:=lo.map a.eval) (hi:=hi.map a.eval) (l:=l) (h:=h)
  (by rcases b1 with⟨rfl,rfl⟩|⟨x,k,rfl,hx⟩
      ·exact .inl ⟨rfl,rfl⟩
      ·exact .inr ⟨k,by simp[hx]⟩)
  (by rcases b2 with⟨rfl,rfl⟩|⟨x,k,rfl,hx⟩
      ·exact .inl ⟨rfl,rfl⟩
      ·exact .inr ⟨k,by simp[hx]⟩) h0 h1 h2 (Bo _) w
 have hsz:(⟨⟨s⟩⟩:ByteArray).size=s.length:=rfl;refine⟨.string ⟨⟨(s.take h.toNat).drop l.toNat⟩⟩,?_,.val _⟩;have he:=Ai0 s (l:=l.toNat) (h:=h.toNat) (by omega) (by omega);simp[execOp,hop,hu,Instr.sliceAt,Instr.slice,run_underlying hdd,hsz,hb,he]
theorem Abv{ops:Array Oper}{i:Nat}{o:Oper}{t:Nat}{p:Operand}{lo hi:Option Operand}{rows r:List (List AV)}{sp:Sp}{l h:Int}{y ye:Ty}{e:Nat}
 (ho:ops[i]?=some o)(hw:A6 ops F o=some true)(hop:o.op=.slice t p lo hi none)(hp:Dt X F p=some (.sl rows sp))(hlo:Tj X F lo 0=some l)(hhi:Tj X F hi (rows.length:Int)=some h)
 (hy:X.ty t=some y)(hyk:y.k=.slc e)(hye:X.ty e=some ye)(h0:0≤l)(h1:l≤h)(h2:h≤(rows.length:Int))(hl:Ka ye.size rows=true)(hr:(rows.take h.toNat).drop l.toNat=r):Ndo X N ops i o F (.sl r .no) S S:=by
 subst hr;refine Df ho hw fun F' E w a hc hI hF=>?_;rw[hop]at hc;have r1:=Ak hI hF ((hc p (by simp[Op.operands])).trans hp);have b1:=X9 hI hF (show Tj X F' lo 0=some l by rw[Qf fun x hx=>hc x (by subst hx;simp[Op.operands])];exact hlo);have b2:=X9 hI hF (show Tj X F' hi (rows.length:Int)=some h by rw[Qf fun x hx=>hc x (by subst hx;simp[Op.operands])];exact hhi);obtain⟨d,hdd,hd2⟩:=(X.ty_ok t y hy).agg;simp only[hyk]at hd2;obtain⟨rfl,ye',hye',hne0⟩:=hd2;rw[hye]at hye';cases hye';generalize hu:a.eval p=u at r1;cases r1 with
 |sl _ _ a' n cap b o' sz vals hn hx ha hsz hm hcl hrr hs hcap=>
 subst hn;have hb:=Kr (X:=X) (isS:=true) (len:=rows.length) (cap:=cap) (lo:=lo.map a.eval) (hi:=hi.map a.eval) (l:=l) (h:=h)
  (by rcases b1 with⟨rfl,rfl⟩|⟨x,k,rfl,hx⟩
      ·exact .inl ⟨rfl,rfl⟩
      ·exact .inr ⟨k,by simp[hx]⟩)
  (by rcases b2 with⟨rfl,rfl⟩|⟨x,k,rfl,hx⟩
      ·exact .inl ⟨rfl,rfl⟩
      ·exact .inr ⟨k,by simp[hx]⟩) h0 h1 h2 hcap w
 refine⟨.slice (if cap=l.toNat then a' else a'.map (·.add (l.toNat*ye.size))) (h.toNat-l.toNat) (cap-l.toNat),?_,?_⟩
 ·simp[execOp,hop,hu,Instr.sliceAt,Instr.slice,run_underlying hdd,hb,De hye]
 ·have hlen:((rows.take h.toNat).drop l.toNat).length=h.toNat-l.toNat:=by simp;omega
  have hget:∀i' r,((rows.take h.toNat).drop l.toNat)[i']?=some r→rows[l.toNat+i']?=some r:=fun i' r hi=>by
   rw[Ny,Ma]at hi;split at hi
   ·exact hi
   ·cases hi
  refine .sl _ .no _ _ _ b (o'+l.toNat*ye.size) ye.size (fun i' j'=>vals (l.toNat+i') j') hlen (by omega) (fun hne=>?_) (fun r hr=>Io.1 hl r (Agd (List.mem_of_mem_drop hr))) (fun i' j' hi hj=>?_) (fun i' j' hi hj=>?_)
   (fun i' j' r x hi hj=>hrr _ _ r x (hget i' r hi) hj) trivial (by omega)
  ·rw[if_neg (by omega),ha (by omega)];simp[F9]
  ·obtain⟨r0,hr0⟩:=Ab rows (i:=0) (by omega);have:sz=ye.size:=by rw[←hsz r0 (Bh hr0),Io.1 hl r0 (Bh hr0)]
   subst this;have:=hm (l.toNat+i') j' (by omega) hj;rw[Rf,←Nx]at this;exact this
  ·obtain⟨r0,hr0⟩:=Ab rows (i:=0) (by omega);have:sz=ye.size:=by rw[←hsz r0 (Bh hr0),Io.1 hl r0 (Bh hr0)]
   subst this;have:=hcl (l.toNat+i') j' (by omega) hj;rw[Rf,←Nx]at this;exact this
theorem Rq{ops:Array Oper}{i:Nat}{o:Oper}{t t':Nat}{p q:Operand}{s s' r:List UInt8}(ho:ops[i]?=some o)(hw:A6 ops F o=some true)(hop:o.op=.binOp .add t p q t')
 (hp:Dt X F p=some (str s))(hq:Dt X F q=some (str s'))(hl:s.length+s'.length≤1000000000000)(hr:s++s'=r):Ndo X N ops i o F (str r) S S:=by
 subst hr;refine Df ho hw fun F' E w a hc hI hF=>?_;rw[hop]at hc;have r1:=Ak hI hF ((hc p (by simp[Op.operands])).trans hp);have r2:=Ak hI hF ((hc q (by simp[Op.operands])).trans hq);generalize hu:a.eval p=u at r1;generalize hv:a.eval q=v at r2;cases r1;cases r2;have hcat:(⟨⟨s⟩⟩:ByteArray)++⟨⟨s'⟩⟩=⟨⟨s++s'⟩⟩:=by
  have:∀(x y:ByteArray),x.data.toList=y.data.toList→x=y:=fun x y h=>by
   cases x;cases y;simp only[ByteArray.mk.injEq];exact zzq34.1 h
  apply this;simp
 have h1:(⟨⟨s⟩⟩:ByteArray).size=s.length:=rfl;have h2:(⟨⟨s'⟩⟩:ByteArray).size=s'.length:=rfl;refine⟨.string ⟨⟨s++s'⟩⟩,?_,.val _⟩;have hm:¬(IntKind.i64.max<(s.length:Int)+(s'.length:Int)):=by simp[IntKind.max,IntKind.bits,IntKind.signed];omega
 simp[execOp,hop,hu,hv,eqGuard,binOp,Op.stringOp,h1,h2,hm,hcat];omega
end
def M1:List Nat→List AV→List AV→Option Bool
 |[],[],[]=>some true
 |0::ks,.val (.int k a)::l,.val (.int k' b)::l'=>match M1 ks l l' with
  |some r=>match decide (k=k')with
   |true=>some ((a==b)&&r)
   |false=>none
  |none=>none
 |1::ks,.val (.string a)::l,.val (.string b)::l'=>match M1 ks l l' with
  |some r=>some ((a.data.toList==b.data.toList)&&r)
  |none=>none
 |2::ks,.val (.bool a)::l,.val (.bool b)::l'=>match M1 ks l l' with
  |some r=>some ((a==b)&&r)
  |none=>none
 |_,_,_=>none
def Z2(P:Program):List Field→Nat→Option (List Nat)
 |[],_=>some []
 |f::l,j=>match f.name != "_" && Nat.beq f.offset j with
  |true=>match Z2 P l (j+1)with
   |some ks=>match P.underlying f.type with
    |some (.int _)=>some (0::ks)
    |some .string=>some (1::ks)
    |some .bool=>some (2::ks)
    |_=>none
   |none=>none
  |false=>none
def R5(P:Program)(t:Nat):Option (List Nat):=
 match !P.stoodInHeld t&&!P.eqGuardType P.depth t with
 |true=>match P.underlying t with
  |some (.struct fs)=>Z2 P fs.toList 0
  |_=>none
 |false=>none
theorem Alj{P:Program}{t:Nat}{ks:List Nat}(h:R5 P t=some ks):P.underlying t=some (.struct (P.fieldsOf t))∧P.stoodInHeld t=false∧P.eqGuardType P.depth t=false∧Z2 P (P.fieldsOf t).toList 0=some ks:=by
 unfold R5 at h;split at h
 ·rename_i hb;simp only[Da,Mh]at hb;split at h
  ·rename_i fs hfs;have:P.fieldsOf t=fs:=by unfold Program.fieldsOf;rw[hfs]
   rw[this];exact⟨hfs,hb.1,hb.2,h⟩
  ·cases h
 ·cases h
section
variable {X:Cx}{B:Bx}{E:Env}{S:St}{w w':World}{F:C3}{a:Act}{N:Nat}{R:AE→St→Prop}
theorem Og{f:Field}{P:Program}{d:TypeDesc}(hf:P.underlying f.type=some d)(h1:∀fs,d≠.struct fs)(h2:∀n e,d≠.array n e){xs:Array Value}{v:Value}(hv:xs[f.offset]?=some v)(w:World) :
 (part f.type xs f.offset).run P w=.ok v w:=by
 have:(isAgg f.type).run P w=.ok false w:=by
  unfold isAgg;simp only[Sem.run_bind,run_underlying hf,Result.andThen_ok];cases d<;>first|(exact absurd rfl (h1 _))|(exact absurd rfl (h2 _ _))|simp
 simp[part,this,hv]
theorem Yf{P:Program}(w:World)(d:Nat)(xs ys:Array Value)(E:Env):∀(fs:List Field)(j:Nat)(ks:List Nat)(cs ds:List AV)(r:Bool),Z2 P fs j=some ks→M1 ks cs ds=some r →
 (∀(i:Nat)(x:AV),cs[i]?=some x→∃v,xs[j+i]?=some v∧Rel E w v x)→(∀(i:Nat)(x:AV),ds[i]?=some x→∃v,ys[j+i]?=some v∧Rel E w v x) →
 (Op.eqFields (d+1) xs ys fs).run P w=.ok r w
 |[],j,ks,cs,ds,r,hf,he,_,_=>by
  simp only[Z2]at hf;cases hf;unfold M1 at he;split at he
  ·cases he;simp[Op.eqFields]
  ·cases ‹([]:List Nat)=_›
  ·cases ‹([]:List Nat)=_›
  ·cases ‹([]:List Nat)=_›
  ·cases he
 |f::fs,j,ks,cs,ds,r,hf,he,hx,hy=>by
  simp only[Z2]at hf;split at hf
  case h_2=>cases hf
  rename_i hno;simp only[Da,bne_iff_ne,ne_eq]at hno;obtain⟨hn,ho⟩:=hno;have ho':=U5 ho;split at hf
  case h_2=>cases hf
  rename_i ks' hrest;have shift:∀{zs:Array Value} {c:AV} {cs:List AV},(∀(i:Nat) (x:AV),(c::cs)[i]?=some x→∃v,zs[j+i]?=some v∧Rel E w v x) →
   (∃v,zs[f.offset]?=some v∧Rel E w v c)∧∀(i:Nat)(x:AV),cs[i]?=some x→∃v,zs[j+1+i]?=some v∧Rel E w v x:=fun{zs c cs} h=>by
   refine⟨by rw[ho'];exact h 0 c rfl,fun i x hi=>?_⟩;have:=h (i+1) x (by simpa using hi);rwa[show j+(i+1)=j+1+i by omega]at this
  have fin:∀{cs ds:List AV} {u v:Value} {b r':Bool},M1 ks' cs ds=some r'→(∀(i:Nat) (x:AV),cs[i]?=some x→∃v,xs[j+1+i]?=some v∧Rel E w v x) →
   (∀(i:Nat)(x:AV),ds[i]?=some x→∃v,ys[j+1+i]?=some v∧Rel E w v x)→(part f.type xs f.offset).run P w=.ok v w→(part f.type ys f.offset).run P w=.ok u w →
   (Op.equalIn (d+1) f.type v u).run P w=.ok b w→r=(b&&r')→(Op.eqFields (d+1) xs ys (f::fs)).run P w=.ok r w:=fun{cs ds u v b r'} h1 hx' hy' p1 p2 h2 h3=>by
   have ih:=Yf w d xs ys E fs (j+1) ks' cs ds r' hrest h1 hx' hy';simp only[Op.eqFields,hn,not_false_eq_true,if_true,Sem.run_bind,p1,p2,h2,Result.andThen_ok,ne_eq];subst h3;cases b
   ·simp
   ·simpa using ih
  split at hf
  ·rename_i k0 hu;cases hf;unfold M1 at he;split at he
   ·cases ‹(0::ks':List Nat)=_›
   ·cases ‹(0::ks':List Nat)=_›;split at he
    ·rename_i r' hr';split at he
     ·rename_i hk;cases he;obtain rfl:=A7 hk;obtain⟨⟨v,hv,hrv⟩,hx'⟩:=shift hx;obtain⟨⟨u,hu',hru⟩,hy'⟩:=shift hy;cases hrv;cases hru;exact fin hr' hx' hy' (Og hu (fun _ h=>by cases h) (fun _ _ h=>by cases h) hv w) (Og hu (fun _ h=>by cases h) (fun _ _ h=>by cases h) hu' w) (run_equalIn_int w d f.type _ _ _ _ hu) rfl
     ·cases he
    ·cases he
   ·cases ‹(0::ks':List Nat)=_›
   ·cases ‹(0::ks':List Nat)=_›
   ·cases he
  ·rename_i hu;cases hf;unfold M1 at he;split at he
   ·cases ‹(1::ks':List Nat)=_›
   ·cases ‹(1::ks':List Nat)=_›
   ·cases ‹(1::ks':List Nat)=_›;split at he
    ·rename_i r' hr';cases he;obtain⟨⟨v,hv,hrv⟩,hx'⟩:=shift hx;obtain⟨⟨u,hu',hru⟩,hy'⟩:=shift hy;cases hrv;cases hru;exact fin hr' hx' hy' (Og hu (fun _ h=>by cases h) (fun _ _ h=>by cases h) hv w) (Og hu (fun _ h=>by cases h) (fun _ _ h=>by cases h) hu' w) (run_equalIn_string w d f.type _ _ hu) (by rw[ByteArray.toList_eq,ByteArray.toList_eq])
    ·cases he
   ·cases ‹(1::ks':List Nat)=_›
   ·cases he
  ·rename_i hu;cases hf;unfold M1 at he;split at he
   ·cases ‹(2::ks':List Nat)=_›
   ·cases ‹(2::ks':List Nat)=_›
   ·cases ‹(2::ks':List Nat)=_›
   ·cases ‹(2::ks':List Nat)=_›;split at he
    ·rename_i r' hr';cases he;obtain⟨⟨v,hv,hrv⟩,hx'⟩:=shift hx;obtain⟨⟨u,hu',hru⟩,hy'⟩:=shift hy;cases hrv;cases hru;exact fin hr' hx' hy' (Og hu (fun _ h=>by cases h) (fun _ _ h=>by cases h) hv w) (Og hu (fun _ h=>by cases h) (fun _ _ h=>by cases h) hu' w) (run_equalIn_bool w d f.type _ _ hu) rfl
    ·cases he
   ·cases he
  ·cases hf
theorem Vb{ops:Array Oper}{i:Nat}{o:Oper}{op:BinOp}{t t':Nat}{p q:Operand}{cs ds:List AV}{ks:List Nat}{e r:Bool}(ho:ops[i]?=some o)(hw:A6 ops F o=some true)(hop:o.op=.binOp op t p q t')
 (hp:Dt X F p=some (.agg cs))(hq:Dt X F q=some (.agg ds))(hfl:R5 X.P t=some ks)(he:M1 ks cs ds=some e)(hr:(op=.eql∧e=r)∨(op=.neq∧(!e)=r)):Ndo X N ops i o F (.val (.bool r)) S S:=by
 refine Df ho hw fun F' E w a hc hI hF=>?_;rw[hop]at hc;have r1:=Ak hI hF ((hc p (by simp[Op.operands])).trans hp);have r2:=Ak hI hF ((hc q (by simp[Op.operands])).trans hq);obtain⟨h1,h2,h3,h4⟩:=Alj hfl;generalize hu:a.eval p=u at r1;generalize hv:a.eval q=v at r2;cases r1 with
 |agg xs _ hl hr1=>
 cases r2 with
 |agg ys _ hl' hr2=>
 have hrun:=Yf (P:=X.P) w 9998 xs ys E (X.P.fieldsOf t).toList 0 ks cs ds e h4 he
  (fun i x hi=>by obtain⟨v,hv⟩:=Kt xs (i:=i) (by rw[hl];exact Aa hi);exact⟨v,by simpa using hv,hr1 i v x hv hi⟩)
  (fun i x hi=>by obtain⟨v,hv⟩:=Kt ys (i:=i) (by rw[hl'];exact Aa hi);exact⟨v,by simpa using hv,hr2 i v x hv hi⟩)
 have heq:=run_equalIn_struct (P:=X.P) w 9999 t xs ys h1 h2;rw[hrun]at heq;have hg:=run_eqGuard_agg (P:=X.P) w op t p q xs ys h3;rcases hr with⟨rfl,rfl⟩|⟨rfl,rfl⟩
 ·exact⟨_,by simp[execOp,hop,hu,hv,hg,run_eql_struct,heq],.val _⟩
 ·exact⟨_,by simp[execOp,hop,hu,hv,hg,run_neq_struct,heq],.val _⟩
end
def Ip:List Oper→List Nat→List Nat
 |[],bs=>bs
 |o::os,bs=>Ip os (bs++[Asf bs o.after.toList])
def Alc(s:List UInt8):List (List AV):=s.map fun c=>[AV.val (.int .u8 c.toNat)]
theorem An{α:Type}{P:α→Prop}{l:List α}{x:α}(h:P x)(t:∀y,y∈l→P y):∀y,y∈x::l→P y:=fun y hy=>by
 rcases zzq13.1 hy with rfl|hy
 ·exact h
 ·exact t y hy
theorem G0{α:Type}{P:α→Prop}:∀y,y∈([]:List α)→P y:=fun y hy=>by cases hy
section
variable {X:Cx}{B:Bx}{E:Env}{S S':St}{w w':World}{F:C3}{a:Act}{N:Nat}{R:AE→St→Prop}{ops:Array Oper}{bs:List Nat}{em:Nat}{os:List Oper}{i:Nat}{o:Oper}{x:AV}{Hs:List St}{pend:List Jx}{K:C3→St→Prop}
theorem C8{id:Nat}{k:List Item}(em:Nat)(hst:Rz ops (Ip ops.toList []) em=true)
 (h:Drv X B.fn.ntmps ops (Ip ops.toList []) em ops.toList 0 F S [S] [] fun F' S'=>AK X B k F' S' R):AK X B (.code (.region id ops true)::k) F S R:=
 Avl _ em hst h
theorem Kf(h:∀S',Ndo X N ops i o F x S' S')(hd:D1 N o.dst=true)(k:Drv X N ops bs em os (i+1) (putF o.dst x F) S Hs pend K):Drv X N ops bs em (o::os) i F S Hs pend K:=
 .inl ⟨x,hd,h,k⟩
theorem Ako(ho:ops[i]?=some o)(hw:A6 ops F o=some true)(h:∀S',Ec X F S' o.op=some x)(hd:D1 N o.dst=true)(k:Drv X N ops bs em os (i+1) (putF o.dst x F) S Hs pend K) :
 Drv X N ops bs em (o::os) i F S Hs pend K:=
 Kf (fun S'=>Cn ho hw (h S')) hd k
theorem Agl(ho:ops[i]?=some o)(hw:A6 ops F o=some true)(h:∀bx tk,Kg X F ⟨bx,tk⟩ o.op=some (x,⟨bx,tk⟩))(hd:D1 N o.dst=true)(k:Drv X N ops bs em os (i+1) (putF o.dst x F) S Hs pend K) :
 Drv X N ops bs em (o::os) i F S Hs pend K:=
 Kf (fun⟨bx,tk⟩=>Ls ho hw (h bx tk)) hd k
theorem P6(h:∀S',S'∈Hs→Ndo X N ops i o F x S' S')(hd:D1 N o.dst=true)(k:Drv X N ops bs em os (i+1) (putF o.dst x F) S Hs ((i,o,F,x)::pend) K):Drv X N ops bs em (o::os) i F S Hs pend K:=
 .inr (.inl ⟨x,hd,h,k⟩)
theorem Aem{S0:St}(ho:ops[i]?=some o)(hw:A6 ops F o=some true)(h:Ec X F S0 o.op=some x)(hd:D1 N o.dst=true)(k:Drv X N ops bs em os (i+1) (putF o.dst x F) S [S0] ((i,o,F,x)::pend) K) :
 Drv X N ops bs em (o::os) i F S [S0] pend K:=
 P6 (An (Cn ho hw h) G0) hd k
theorem Am4{pend':List Jx}(h:Ndo X N ops i o F x S S')(he:em.testBit i=true)(hd:D1 N o.dst=true)(hp:pend.filter (fun p=>!bitOf bs p.1 i)=pend')
 (hr:∀p,p∈pend'→Ndo X N ops p.1 p.2.1 p.2.2.1 p.2.2.2 S' S')(k:Drv X N ops bs em os (i+1) (putF o.dst x F) S' (S'::Hs) pend' K):Drv X N ops bs em (o::os) i F S Hs pend K:=
 .inr (.inr ⟨x,S',pend',he,hd,h,hp,hr,k⟩)
theorem Arm(h:Ndo X N ops i o F x S S')(he:em.testBit i=true)(hd:D1 N o.dst=true)(hp:pend.filter (fun p=>!bitOf bs p.1 i)=[])
 (k:Drv X N ops bs em os (i+1) (putF o.dst x F) S' (S'::Hs) [] K):Drv X N ops bs em (o::os) i F S Hs pend K:=
 Am4 h he hd hp G0 k
theorem Arl(h:K F S):Drv X N ops bs em [] i F S Hs pend K:=h
theorem A8{t:Nat}{p q:Operand}{y:Ty}{u v:AV}(ho:ops[i]?=some o)(hw:A6 ops F o=some true)(hop:o.op=.store t p q)(hy:X.ty t=some y)(hp:Dt X F p=some u)(hq:Dt X F q=some v)
 (h:Ux S y.size u v=some S'):Ndo X N ops i o F .junk S S':=by
 intro F' E w a hl hI hF;have hlo:=Gs hl;rw[hop]at hlo;have r1:=Ak hI hF ((Di (X:=X) (F:=F) (F':=F') (o:=p) fun s hs=>hlo s (by simp[Op.operands,hs])).trans hp);have r2:=Ak hI hF ((Di (X:=X) (F:=F) (F':=F') (o:=q) fun s hs=>hlo s (by simp[Op.operands,hs])).trans hq);obtain⟨w',h1,h2,h3⟩:=Y4 hI hy r1 r2 h;exact Does.val (v:=undef) ho (Cm hF (by rw[Cw hl];exact hw)) (by simp[execOp,hop,h1]) (.inr ⟨rfl,rfl⟩) ⟨E,h2,h3,.junk _⟩
theorem X4(ho:ops[i]?=some o)(hw:A6 ops F o=some false):Ndo X N ops i o F (.val (.tuple #[])) S S:=by
 intro F' E w a hl hI hF b k cs rest;exact⟨undef,w,⟨E,hI,Evol.refl _ _ _ _,.val undef⟩,.one (by rw[ho];exact Xt ho (Cm hF (by rw[Cw hl];exact hw)))⟩
theorem Avx{b:Bool}(h:Ndo X N ops i o F (.val (.bool b)) S S'):Ndo X N ops i o F (.lit b) S S':=by
 intro F' E w a hl hI hF;intro b' k cs rest;obtain⟨v,w',⟨E',h1,h2,h3⟩,h4⟩:=h F' E w a hl hI hF b' k cs rest;refine⟨v,w',⟨E',h1,h2,?_⟩,h4⟩;cases h3;exact .lit b
theorem Mm{t e m:Nat}{p q:Operand}{cs r:List AV}{ik:IntKind}{n:Int}{y ye:Ty}(ho:ops[i]?=some o)(hw:A6 ops F o=some true)(hop:o.op=.indexAddr t p q)
 (hp:Dt X F p=some (.cptr cs))(hq:Dt X F q=some (.val (.int ik n)))(hy:X.ty t=some y)(hyk:y.k=.arr m e)(hye:X.ty e=some ye)(h0:0≤n)(h1:n<(m:Int))(hl:n.toNat*ye.size≤cs.length)
 (hr:cs.drop (n.toNat*ye.size)=r):Ndo X N ops i o F (.cptr r) S S:=by
 subst hr;refine Df ho hw fun F' E w a hc hI hF=>?_;rw[hop]at hc;have r1:=Ak hI hF ((hc p (by simp[Op.operands])).trans hp);have r2:=Ak hI hF ((hc q (by simp[Op.operands])).trans hq);obtain⟨d,hdd,hd2⟩:=(X.ty_ok t y hy).agg;simp only[hyk]at hd2;obtain⟨rfl,ye',hye',_⟩:=hd2;rw[hye]at hye';cases hye';generalize hu:a.eval p=u at r1;generalize hv:a.eval q=v at r2;cases r2;cases r1 with
 |cptr _ b o' vals hm hcl hrr=>
  refine⟨.pointer (some ⟨b,o'+n.toNat*ye.size,none⟩),?_,?_⟩
  ·simp[execOp,hop,hu,hv,Instr.indexAt,asIntOf,run_underlying hdd,Instr.sureAddr,h0,h1,De hye,F9]
  ·refine .cptr _ b _ (fun j=>vals (n.toNat*ye.size+j)) (fun j hj=>?_) (fun j hj=>?_) (fun j x hx=>hrr _ x (by simpa using hx))
   ·have:=hm (n.toNat*ye.size+j) (by simp at hj;omega);rwa[←Nx]at this
   ·have:=hcl (n.toNat*ye.size+j) (by simp at hj;omega);rwa[←Nx]at this
theorem W4{t e m:Nat}{p q:Operand}{cs:List AV}{ik:IntKind}{n:Int}{y ye:Ty}(ho:ops[i]?=some o)(hw:A6 ops F o=some true)(hop:o.op=.index t p q)
 (hp:Dt X F p=some (.agg cs))(hq:Dt X F q=some (.val (.int ik n)))(hy:X.ty t=some y)(hyk:y.k=.arr m e)(hye:X.ty e=some ye)(hone:Gd ye.k=false)(h0:0≤n)(h1:n<(m:Int))
 (hr:cs[n.toNat]?=some x):Ndo X N ops i o F x S S:=by
 refine Df ho hw fun F' E w a hc hI hF=>?_;rw[hop]at hc;have r1:=Ak hI hF ((hc p (by simp[Op.operands])).trans hp);have r2:=Ak hI hF ((hc q (by simp[Op.operands])).trans hq);obtain⟨d,hdd,hd2⟩:=(X.ty_ok t y hy).agg;simp only[hyk]at hd2;obtain⟨rfl,ye',hye',_⟩:=hd2;rw[hye]at hye';cases hye';obtain⟨_,_,_,_,_,_,_,_,hs1⟩:=(X.ty_ok e ye hye).info;have hs:=hs1 hone;generalize hu:a.eval p=u at r1;generalize hv:a.eval q=v at r2;cases r2;cases r1 with
 |agg vs _ hl hrr=>
  obtain⟨v,hv'⟩:=Kt vs (i:=n.toNat) (by rw[hl];exact Aa hr);exact⟨v,by simp[execOp,hop,hu,hv,Instr.index,asIntOf,run_underlying hdd,h0,h1,De hye,hs,part,Z9 hye,hone,hv'],hrr _ v x hv' hr⟩
theorem Acl{src dst e:Nat}{p:Operand}{rows:List (List AV)}{sp:Sp}{s:List UInt8}{y ye yd:Ty}(ho:ops[i]?=some o)(hw:A6 ops F o=some true)(hop:o.op=.convert src dst p)
 (hp:Dt X F p=some (.sl rows sp))(hy:X.ty src=some y)(hyk:y.k=.slc e)(hye:X.ty e=some ye)(hyek:ye.k=.int .u8)(hyd:X.ty dst=some yd)(hydk:yd.k=.string)(hr:rows=Alc s):Ndo X N ops i o F (str s) S S:=by
 subst hr;refine Df ho hw fun F' E w a hc hI hF=>?_;rw[hop]at hc;have r1:=Ak hI hF ((hc p (by simp[Op.operands])).trans hp);obtain⟨d,hdd,hd2⟩:=(X.ty_ok src y hy).agg;simp only[hyk]at hd2;obtain⟨rfl,_⟩:=hd2;obtain⟨d,hde,hd2⟩:=(X.ty_ok e ye hye).agg;simp only[hyek]at hd2;subst hd2;obtain⟨d,hds,hd2⟩:=(X.ty_ok dst yd hyd).agg;simp only[hydk]at hd2;subst hd2;generalize hu:a.eval p=u at r1;cases r1 with
 |sl _ _ a' n cap b o' sz vals hn hx ha hsz hm hcl hrr hs hcap=>
  have hlen:n=s.length:=by rw[←hn];simp[Alc]
  subst hlen;refine⟨.string ⟨⟨s⟩⟩,?_,.val _⟩;simp only[execOp,hop,hu];cases s with
  |nil=>
   cases a' with
   |none=>simp[run_convert_bytes_string w src dst e _ _ _ hdd hde hds,Conv.bytesToString];rfl
   |some a0=>
    have:=run_convert_bytes_back w src dst e a0 cap [] hdd hde hds (fun j hj=>by simp at hj);simp at this⊢;rw[this];rfl
  |cons c l=>
   have ha':=ha (by simp);subst ha';have hs1:sz=1:=by rw[←hsz _ (zzq68.2 ⟨c,by simp,rfl⟩)];rfl
   subst hs1;have:=run_convert_bytes_back w src dst e ⟨b,o',none⟩ cap (c::l) hdd hde hds (fun j hj=>by
    have h1:=hcl j 0 hj (by omega);have h2:=hrr j 0 [AV.val (.int .u8 ((c::l)[j]).toNat)] (.val (.int .u8 ((c::l)[j]).toNat)) (by simp only[Alc];rw[Gm,Wu hj];rfl) rfl;rw[F9];simp only[Nat.mul_one,Pt]at h1;rw[h1];generalize vals j 0=u at h2;cases h2;rfl)
   simp only[Sem.run_bind,this,Result.andThen_ok];rfl
end
def upd{α:Type}:List α→List Nat→List α→List α
 |l,t::ts,x::xs=>upd (l.set t x) ts xs
 |l,_,_=>l
theorem Acc{α:Type}:∀(l:List α)(ts:List Nat)(xs:List α),(upd l ts xs).length=l.length
 |l,t::ts,x::xs=>by simp[upd,Acc]
 |l,[],_=>by simp[upd]
 |l,_::_,[]=>by simp[upd]
theorem Y8{α:Type}:∀(l:List α)(ts:List Nat)(xs:List α)(i:Nat),i∉ts→(upd l ts xs)[i]?=l[i]?
 |l,t::ts,x::xs,i,h=>by
  simp only[upd];rw[Y8 _ ts xs i (fun h'=>h (by simp[h']))];have:t≠i:=fun e=>h (by simp[e]);simp[U4,this]
 |l,[],_,i,_=>by simp[upd]
 |l,_::_,[],i,_=>by simp[upd]
theorem Aid{α:Type}:∀(l:List α)(ts:List Nat)(xs:List α)(j i:Nat),ts.Nodup→ts[j]?=some i→i<l.length→j<xs.length→(upd l ts xs)[i]?=xs[j]?
 |l,t::ts,x::xs,0,i,hn,h,hi,_=>by
  simp at h;subst h;simp only[upd];rw[Y8 _ ts xs t (List.nodup_cons.1 hn).1];simp[hi]
 |l,t::ts,x::xs,j+1,i,hn,h,hi,hj=>by
  simp only[upd];rw[Aid _ ts xs j i (List.nodup_cons.1 hn).2 (by simpa using h) (by simpa using hi) (by simpa using hj)];simp
 |l,[],_,j,i,_,h,_,_=>by simp at h
 |l,_::_,[],j,i,_,_,_,hj=>by simp at hj
theorem An3{α β:Type}(f:α→β):∀(l:List α)(ts:List Nat)(xs:List α),(upd l ts xs).map f=upd (l.map f) ts (xs.map f)
 |l,t::ts,x::xs=>by simp only[upd,Nz];rw[An3 f,Zf]
 |l,[],_=>by simp[upd]
 |l,_::_,[]=>by simp[upd]
def Az5(d:Bool)(τ:List Nat)(sp sp':Sp):Prop:=
 (d=true∧sp'=.no)∨(d=false∧sp=.no)∨(sp=.no∧sp'=.no)∨(sp=.tight∧sp'=.tight)∨∃t t',sp=.tok t∧sp'=.tok t'∧τ[t']?=some t
inductive Ren (d:Bool)(σ τ:List Nat):AV→AV→Prop where
 |flat (x:AV) (h:Ok 0 0 x):Ren d σ τ x x
 |ptr (b b' r o:Nat) (h:σ[b']?=some b):Ren d σ τ (.ptr b r o) (.ptr b' r o)
 |bsl (b b' k:Nat) (h:σ[b']?=some b):Ren d σ τ (.bsl b k) (.bsl b' k)
 |tagN (te b b':Nat) (h:σ[b']?=some b):Ren d σ τ (.tagN te b) (.tagN te b')
 |buf (te:Nat) (s:List UInt8) (t t':Nat) (h:τ[t']?=some t):Ren d σ τ (.buf te s t) (.buf te s t')
 |psl (rows:List (List AV)) (t t' v:Nat) (h:τ[t']?=some t) (hl:He 0 0 rows):Ren d σ τ (.psl rows t v) (.psl rows t' v)
 |sl (rows rows':List (List AV)) (sp sp':Sp) (hl:rows'.length=rows.length) (hll:∀(i:Nat) (r r':List AV),rows[i]?=some r→rows'[i]?=some r'→r'.length=r.length)
   (hz:∀(i j:Nat)(r r':List AV)(x y:AV),rows[i]?=some r→rows'[i]?=some r'→r[j]?=some x→r'[j]?=some y→Ren d σ τ x y)(hs:Az5 d τ sp sp'):Ren d σ τ (.sl rows sp) (.sl rows' sp')
 |cptr (cs cs':List AV) (hl:cs'.length=cs.length) (hz:∀(j:Nat) (x y:AV),cs[j]?=some x→cs'[j]?=some y→Ren d σ τ x y):Ren d σ τ (.cptr cs) (.cptr cs')
 |agg (cs cs':List AV) (hl:cs'.length=cs.length) (hz:∀(j:Nat) (x y:AV),cs[j]?=some x→cs'[j]?=some y→Ren d σ τ x y):Ren d σ τ (.agg cs) (.agg cs')
 |tup (cs cs':List AV) (hl:cs'.length=cs.length) (hz:∀(j:Nat) (x y:AV),cs[j]?=some x→cs'[j]?=some y→Ren d σ τ x y):Ren d σ τ (.tup cs) (.tup cs')
 |fn (f:FuncId) (cs cs':List AV) (hl:cs'.length=cs.length) (hz:∀(j:Nat) (x y:AV),cs[j]?=some x→cs'[j]?=some y→Ren d σ τ x y):Ren d σ τ (.fn f cs) (.fn f cs')
inductive RenL (d:Bool)(σ τ:List Nat):List AV→List AV→Prop where
 |nil:RenL d σ τ [] []
 |cons {x y:AV} {l l':List AV} (h:Ren d σ τ x y) (t:RenL d σ τ l l'):RenL d σ τ (x::l) (y::l')
inductive RenR (d:Bool)(σ τ:List Nat):List (List AV)→List (List AV)→Prop where
 |nil:RenR d σ τ [] []
 |cons {x y:List AV} {l l':List (List AV)} (h:RenL d σ τ x y) (t:RenR d σ τ l l'):RenR d σ τ (x::l) (y::l')
inductive RenB (d:Bool)(σ τ:List Nat):List (List (List AV))→List (List (List AV))→Prop where
 |nil:RenB d σ τ [] []
 |cons {x y:List (List AV)} {l l':List (List (List AV))} (h:RenR d σ τ x y) (t:RenB d σ τ l l'):RenB d σ τ (x::l) (y::l')
section
variable {d:Bool}{σ τ:List Nat}
theorem RenL.get{l l':List AV}(h:RenL d σ τ l l'):l'.length=l.length∧∀(j:Nat)(x y:AV),l[j]?=some x→l'[j]?=some y→Ren d σ τ x y:=by
 induction h with
 |nil=>exact⟨rfl,fun j x y h=>by simp at h⟩
 |cons h t ih=>
  refine⟨by simp[ih.1],fun j x y hx hy=>?_⟩;cases j with
  |zero=>simp at hx hy;subst hx;subst hy;exact h
  |succ j=>exact ih.2 j x y (by simpa using hx) (by simpa using hy)
theorem RenR.get{l l':List (List AV)}(h:RenR d σ τ l l'):l'.length=l.length∧∀(j:Nat)(x y:List AV),l[j]?=some x→l'[j]?=some y→RenL d σ τ x y:=by
 induction h with
 |nil=>exact⟨rfl,fun j x y h=>by simp at h⟩
 |cons h t ih=>
  refine⟨by simp[ih.1],fun j x y hx hy=>?_⟩;cases j with
  |zero=>simp at hx hy;subst hx;subst hy;exact h
  |succ j=>exact ih.2 j x y (by simpa using hx) (by simpa using hy)
theorem RenB.get{l l':List (List (List AV))}(h:RenB d σ τ l l'):l'.length=l.length∧∀(j:Nat)(x y:List (List AV)),l[j]?=some x→l'[j]?=some y→RenR d σ τ x y:=by
 induction h with
 |nil=>exact⟨rfl,fun j x y h=>by simp at h⟩
 |cons h t ih=>
  refine⟨by simp[ih.1],fun j x y hx hy=>?_⟩;cases j with
  |zero=>simp at hx hy;subst hx;subst hy;exact h
  |succ j=>exact ih.2 j x y (by simpa using hx) (by simpa using hy)
theorem RenL.flat:∀{l:List AV},(∀x,x∈l→Ok 0 0 x)→RenL d σ τ l l
 |[],_=>.nil
 |x::l,h=>.cons (.flat x (h x (by simp))) (RenL.flat fun y hy=>h y (by simp[hy]))
theorem RenR.flat:∀{l:List (List AV)},He 0 0 l→RenR d σ τ l l
 |[],_=>.nil
 |x::l,h=>.cons (RenL.flat (h x (by simp))) (RenR.flat fun y hy=>h y (by simp[hy]))
theorem Zq{rows rows':List (List AV)}{sp sp':Sp}(h:RenR d σ τ rows rows')(hs:Az5 d τ sp sp'):Ren d σ τ (.sl rows sp) (.sl rows' sp'):=
 .sl rows rows' sp sp' h.get.1 (fun i r r' h1 h2=>(h.get.2 i r r' h1 h2).get.1) (fun i j r r' x y h1 h2 h3 h4=>(h.get.2 i r r' h1 h2).get.2 j x y h3 h4) hs
theorem Am7{l l':List AV}(h:RenL d σ τ l l'):Ren d σ τ (.agg l) (.agg l'):=.agg l l' h.get.1 h.get.2
theorem Am8{l l':List AV}(h:RenL d σ τ l l'):Ren d σ τ (.tup l) (.tup l'):=.tup l l' h.get.1 h.get.2
theorem Ar6{l l':List AV}(h:RenL d σ τ l l'):Ren d σ τ (.cptr l) (.cptr l'):=.cptr l l' h.get.1 h.get.2
theorem Az6{f:FuncId}{l l':List AV}(h:RenL d σ τ l l'):Ren d σ τ (.fn f l) (.fn f l'):=.fn f l l' h.get.1 h.get.2
end
section
variable {X:Cx}{B:Bx}{E:Env}{S:St}{w w':World}{F:C3}{a:Act}{N:Nat}{R:AE→St→Prop}{σ τ:List Nat}
theorem Ren.fwd{Ea Eb:Env}(hmt:∀b o,Eb.mt b o→Ea.mt b o)(hbox:∀(i j:Nat)(q:Nat×Nat),σ[j]?=some i→Ea.boxes[i]?=some (some q)→Eb.boxes[j]?=some (some q))
 (htok:∀(i j:Nat)(k:Tk),τ[j]?=some i→Ea.toks[i]?=some k→Eb.toks[j]?=some k){x y:AV}(h:Ren true σ τ x y):∀{v:Value},Rel Ea w v x→Rel Eb w v y:=by
 induction h with
 |flat x h=>exact fun hx=>hx.env h hmt
 |ptr b b' r o h=>
  intro v hx;cases hx with
  |ptr _ _ _ blk sz hB=>exact .ptr b' r o blk sz (hbox _ _ _ h hB)
 |bsl b b' k h=>
  intro v hx;cases hx with
  |bsl _ blk sz _ cap hB hcap=>exact .bsl b' blk sz k cap (hbox _ _ _ h hB) hcap
 |tagN te b b' h=>
  intro v hx;cases hx with
  |tagN _ _ blk sz hB ht=>exact .tagN te b' blk sz (hbox _ _ _ h hB) ht
 |buf te s t t' h=>
  intro v hx;cases hx with
  |buf _ _ _ a cap k hk hn hx hs hc=>exact .buf te s t' a cap k (htok _ _ _ h hk) hn hx (fun hl=>(hs hl).move (fun _ _ _ _ h=>h) (fun b o _ h=>hmt b o h) (fun _ _ h=>h)) hc
 |psl rows t t' ver h hl=>
  intro v hx;cases hx with
  |psl _ _ _ a n cap k sz vals hn hx hcap hk hv hsz hp hr hf=>
   exact .psl rows t' ver a n cap k sz vals hn hx hcap (htok _ _ _ h hk) hv hsz hp (fun i j r x h1 h2=>(hr i j r x h1 h2).env (hl r (Bh h1) x (Bh h2)) hmt) hf
 |sl rows rows' sp sp' hl hll hz hs ih=>
  intro v hx;cases hx with
  |sl _ _ a n cap b o sz vals hn hx ha hsz hm hc hr hsp hcap=>
   refine .sl rows' sp' a n cap b o sz vals (by omega) hx ha (fun r hr'=>?_) (fun i j hi hj hh=>hm i j hi hj (hmt _ _ hh)) hc (fun i j r' y hi hj=>?_) ?_ hcap
   ·obtain⟨i,hi⟩:=Bw hr';obtain⟨r0,hr0⟩:=Ab rows (i:=i) (by have:=Aa hi;omega);rw[hll i r0 r hr0 hi];exact hsz r0 (Bh hr0)
   ·obtain⟨r0,hr0⟩:=Ab rows (i:=i) (by have:=Aa hi;omega);obtain⟨x,hx'⟩:=Ab r0 (i:=j) (by have:=Aa hj;have:=hll i r0 r' hr0 hi;omega);exact ih i j r0 r' x y hr0 hi hx' hj (hr i j r0 x hr0 hx')
   ·rcases hs with⟨_,rfl⟩|⟨h,_⟩|⟨_,rfl⟩|⟨rfl,rfl⟩|⟨t,t',rfl,rfl,ht⟩
    ·trivial
    ·cases h
    ·trivial
    ·exact hsp
    ·obtain⟨k,hk,h1,h2⟩:=hsp;exact⟨k,htok _ _ _ ht hk,h1,h2⟩
 |cptr cs cs' hl hz ih=>
  intro v hx;cases hx with
  |cptr _ b o vals hm hc hr=>
   refine .cptr cs' b o vals (fun j hj hh=>hm j (by omega) (hmt _ _ hh)) (fun j hj=>hc j (by omega)) (fun j y hy=>?_);obtain⟨x,hx⟩:=Ab cs (i:=j) (by have:=Aa hy;omega);exact ih j x y hx hy (hr j x hx)
 |agg cs cs' hl hz ih=>
  intro v hx;cases hx with
  |agg vs _ hl' hr=>
   refine .agg vs cs' (by omega) (fun j v y hv hy=>?_);obtain⟨x,hx⟩:=Ab cs (i:=j) (by have:=Aa hy;omega);exact ih j x y hx hy (hr j v x hv hx)
 |tup cs cs' hl hz ih=>
  intro v hx;cases hx with
  |tup vs _ hl' hr=>
   refine .tup vs cs' (by omega) (fun j v y hv hy=>?_);obtain⟨x,hx⟩:=Ab cs (i:=j) (by have:=Aa hy;omega);exact ih j x y hx hy (hr j v x hv hx)
 |fn f cs cs' hl hz ih=>
  intro v hx;cases hx with
  |fn _ vs _ hl' hr=>
   refine .fn f vs cs' (by omega) (fun j v y hv hy=>?_);obtain⟨x,hx⟩:=Ab cs (i:=j) (by have:=Aa hy;omega);exact ih j x y hx hy (hr j v x hv hx)
theorem Ren.bwd{Ea Eb:Env}(hmt:∀b o,Eb.mt b o→Ea.mt b o)(hbox:∀(i j:Nat)(q:Nat×Nat),σ[j]?=some i→Ea.boxes[j]?=some (some q)→Eb.boxes[i]?=some (some q))
 (htok:∀(i j:Nat)(k:Tk),τ[j]?=some i→Ea.toks[j]?=some k→Eb.toks[i]?=some k){x y:AV}(h:Ren false σ τ x y):∀{v:Value},Rel Ea w v y→Rel Eb w v x:=by
 induction h with
 |flat x h=>exact fun hx=>hx.env h hmt
 |ptr b b' r o h=>
  intro v hx;cases hx with
  |ptr _ _ _ blk sz hB=>exact .ptr b r o blk sz (hbox _ _ _ h hB)
 |bsl b b' k h=>
  intro v hx;cases hx with
  |bsl _ blk sz _ cap hB hcap=>exact .bsl b blk sz k cap (hbox _ _ _ h hB) hcap
 |tagN te b b' h=>
  intro v hx;cases hx with
  |tagN _ _ blk sz hB ht=>exact .tagN te b blk sz (hbox _ _ _ h hB) ht
 |buf te s t t' h=>
  intro v hx;cases hx with
  |buf _ _ _ a cap k hk hn hx hs hc=>exact .buf te s t a cap k (htok _ _ _ h hk) hn hx (fun hl=>(hs hl).move (fun _ _ _ _ h=>h) (fun b o _ h=>hmt b o h) (fun _ _ h=>h)) hc
 |psl rows t t' ver h hl=>
  intro v hx;cases hx with
  |psl _ _ _ a n cap k sz vals hn hx hcap hk hv hsz hp hr hf=>
   exact .psl rows t ver a n cap k sz vals hn hx hcap (htok _ _ _ h hk) hv hsz hp (fun i j r x h1 h2=>(hr i j r x h1 h2).env (hl r (Bh h1) x (Bh h2)) hmt) hf
 |sl rows rows' sp sp' hl hll hz hs ih=>
  intro v hx;cases hx with
  |sl _ _ a n cap b o sz vals hn hx ha hsz hm hc hr hsp hcap=>
   refine .sl rows sp a n cap b o sz vals (by omega) hx ha (fun r hr'=>?_) (fun i j hi hj hh=>hm i j hi hj (hmt _ _ hh)) hc (fun i j r' y hi hj=>?_) ?_ hcap
   ·obtain⟨i,hi⟩:=Bw hr';obtain⟨r0,hr0⟩:=Ab rows' (i:=i) (by have:=Aa hi;omega);rw[←hll i r r0 hi hr0];exact hsz r0 (Bh hr0)
   ·obtain⟨r0,hr0⟩:=Ab rows' (i:=i) (by have:=Aa hi;omega);obtain⟨x,hx'⟩:=Ab r0 (i:=j) (by have:=Aa hj;have:=hll i r' r0 hi hr0;omega);exact ih i j r' r0 y x hi hr0 hj hx' (hr i j r0 x hr0 hx')
   ·rcases hs with⟨h,_⟩|⟨_,rfl⟩|⟨rfl,_⟩|⟨rfl,rfl⟩|⟨t,t',rfl,rfl,ht⟩
    ·cases h
    ·trivial
    ·trivial
    ·exact hsp
    ·obtain⟨k,hk,h1,h2⟩:=hsp;exact⟨k,htok _ _ _ ht hk,h1,h2⟩
 |cptr cs cs' hl hz ih=>
  intro v hx;cases hx with
  |cptr _ b o vals hm hc hr=>
   refine .cptr cs b o vals (fun j hj hh=>hm j (by omega) (hmt _ _ hh)) (fun j hj=>hc j (by omega)) (fun j y hy=>?_);obtain⟨x,hx⟩:=Ab cs' (i:=j) (by have:=Aa hy;omega);exact ih j y x hy hx (hr j x hx)
 |agg cs cs' hl hz ih=>
  intro v hx;cases hx with
  |agg vs _ hl' hr=>
   refine .agg vs cs (by omega) (fun j v y hv hy=>?_);obtain⟨x,hx⟩:=Ab cs' (i:=j) (by have:=Aa hy;omega);exact ih j y x hy hx (hr j v x hv hx)
 |tup cs cs' hl hz ih=>
  intro v hx;cases hx with
  |tup vs _ hl' hr=>
   refine .tup vs cs (by omega) (fun j v y hv hy=>?_);obtain⟨x,hx⟩:=Ab cs' (i:=j) (by have:=Aa hy;omega);exact ih j y x hy hx (hr j v x hv hx)
 |fn f cs cs' hl hz ih=>
  intro v hx;cases hx with
  |fn _ vs _ hl' hr=>
   refine .fn f vs cs (by omega) (fun j v y hv hy=>?_);obtain⟨x,hx⟩:=Ab cs' (i:=j) (by have:=Aa hy;omega);exact ih j y x hy hx (hr j v x hv hx)
def Env.ownS(E:Env)(σ τ:List Nat)(b:Nat):Prop:=
 (∃(i s:Nat),i∈σ∧E.boxes[i]?=some (some (b,s)))∨(∃(t l c sz:Nat),t∈τ∧E.toks[t]?=some (Tk.mk l (some (b,c,sz))))
def Env.sub(E:Env)(σ τ:List Nat):Env:=
 ⟨σ.map fun i=>E.boxes.getD i none,τ.map fun t=>E.toks.getD t ⟨0,none⟩,fun b o=>E.mt b o∧¬E.ownS σ τ b,[]⟩
theorem I2{j:Nat}{q:Nat×Nat}:(E.sub σ τ).boxes[j]?=some (some q)↔∃i,σ[j]?=some i∧E.boxes[i]?=some (some q):=by
 simp only[Env.sub,Gm];constructor
 ·intro h;cases hj:σ[j]? with
  |none=>rw[hj]at h;simp at h
  |some i=>
   rw[hj]at h;simp only[Km,Option.some.injEq]at h;refine⟨i,rfl,?_⟩;cases hb:E.boxes[i]? with
   |none=>simp[List.getD,hb]at h
   |some x=>simp[List.getD,hb]at h;rw[h]
 ·rintro⟨i,h1,h2⟩;rw[h1];simp[List.getD,h2]
theorem J3{j:Nat}{k:Tk}(ht:∀t,t∈τ→t<E.toks.length):(E.sub σ τ).toks[j]?=some k↔∃t,τ[j]?=some t∧E.toks[t]?=some k:=by
 simp only[Env.sub,Gm];constructor
 ·intro h;cases hj:τ[j]? with
  |none=>rw[hj]at h;simp at h
  |some i=>
   rw[hj]at h;simp only[Km,Option.some.injEq]at h;have hlt:=ht i (Bh hj);refine⟨i,rfl,?_⟩;simp[List.getD,hlt]at h⊢;exact h
 ·rintro⟨i,h1,h2⟩;rw[h1];simp[List.getD,h2]
theorem Pr(ht:∀t,t∈τ→t<E.toks.length){b:Nat}:(E.sub σ τ).own b↔E.ownS σ τ b:=by
 constructor
 ·rintro(⟨j,s,h⟩|⟨j,l,c,sz,h⟩)
  ·obtain⟨i,h1,h2⟩:=I2.1 h;exact .inl ⟨i,s,Bh h1,h2⟩
  ·obtain⟨t,h1,h2⟩:=(J3 ht).1 h;exact .inr ⟨t,l,c,sz,Bh h1,h2⟩
 ·rintro(⟨i,s,hi,h⟩|⟨t,l,c,sz,hi,h⟩)
  ·obtain⟨j,hj⟩:=Bw hi;exact .inl ⟨j,s,I2.2 ⟨i,hj,h⟩⟩
  ·obtain⟨j,hj⟩:=Bw hi;exact .inr ⟨j,l,c,sz,(J3 ht).2 ⟨t,hj,h⟩⟩
theorem O2{b:Nat}(h:E.ownS σ τ b):E.own b:=by
 rcases h with⟨i,s,_,h⟩|⟨t,l,c,sz,_,h⟩
 ·exact .inl ⟨i,s,h⟩
 ·exact .inr ⟨t,l,c,sz,h⟩
theorem Sz(ht:∀t,t∈τ→t<E.toks.length){b o:Nat}(h:(E.sub σ τ).mt b o):E.mt b o:=by
 rcases h with h|⟨j,s,h⟩|⟨j,l,c,sz,h,h'⟩
 ·exact h.1
 ·obtain⟨i,h1,h2⟩:=I2.1 h;exact .inr (.inl ⟨i,s,h2⟩)
 ·obtain⟨t,h1,h2⟩:=(J3 ht).1 h;exact .inr (.inr ⟨t,l,c,sz,h2,h'⟩)
theorem Aai{α:Type}{l:List α}(hn:l.Nodup){i j:Nat}{x:α}(hi:l[i]?=some x)(hj:l[j]?=some x):i=j:=by
 have h1:=Aa hi;have h2:=Aa hj;rw[Wu h1]at hi;rw[Wu h2]at hj;exact(List.getElem_inj hn).1 ((Option.some.inj hi).trans (Option.some.inj hj).symm)
theorem Inv.sub(hI:Inv X E S w)(hσ:σ.Nodup)(hτ:τ.Nodup)(hτl:∀t,t∈τ→t<E.toks.length){Sc:St}(hb:RenB true σ τ (σ.map fun i=>S.boxes.getD i []) Sc.boxes)
 (hσl:∀i,i∈σ→i<S.boxes.length)(ht:τ.map (fun t=>S.toks.getD t 0)=Sc.toks):Inv X (E.sub σ τ) Sc w where
 nb:=by have:=hb.get.1;simp only[U7]at this;simp[Env.sub,this]
 nt:=by
  rw[←ht,←hI.nt];simp only[Env.sub,List.map_map];apply List.map_congr_left;intro t htm;have:=hτl t htm;simp[List.getD,this]
 np j hj:=by
  obtain⟨i,hi⟩:=Ab σ (i:=j) (by simpa[Env.sub]using hj);obtain⟨q,hq⟩:=hI.np i (by rw[hI.nb];exact hσl i (Bh hi));exact⟨q,I2.2 ⟨i,hi,hq⟩⟩
 box j b sz rows' h1 h2:=by
  obtain⟨i,h3,h4⟩:=I2.1 h1;have hi:=hσl i (Bh h3);obtain⟨rows,hrows⟩:=Ab S.boxes hi;have hR:=hb.get.2 j rows rows' (by simp[h3,List.getD,hrows]) h2;obtain⟨cs,e,hh,hs,hl,hr⟩:=hI.box i b sz rows h4 hrows;refine⟨cs,e,hh,by rw[hR.get.1];exact hs,fun r' hr'=>?_,fun k r' q y v hk hq hv=>?_⟩
  ·obtain⟨k,hk⟩:=Bw hr';obtain⟨r,hr0⟩:=Ab rows (i:=k) (by have:=Aa hk;have:=hR.get.1;omega);rw[(hR.get.2 k r r' hr0 hk).get.1];exact hl r (Bh hr0)
  ·obtain⟨r,hr0⟩:=Ab rows (i:=k) (by have:=Aa hk;have:=hR.get.1;omega);have hL:=hR.get.2 k r r' hr0 hk;obtain⟨x,hx⟩:=Ab r (i:=q) (by have:=Aa hq;have:=hL.get.1;omega);exact(hL.get.2 q x y hx hq).fwd (fun b o=>Sz hτl) (fun i j q h1 h2=>I2.2 ⟨i,h1,h2⟩) (fun i j k h1 h2=>(J3 hτl).2 ⟨i,h1,h2⟩) (hr k r q x v hr0 hx hv)
 tok t l b c sz h:=by
  obtain⟨i,h1,h2⟩:=(J3 hτl).1 h;exact hI.tok i l b c sz h2
 bb i j b s s' h1 h2:=by
  obtain⟨i',h3,h4⟩:=I2.1 h1;obtain⟨j',h5,h6⟩:=I2.1 h2;have:=hI.bb i' j' b s s' h4 h6;subst this;exact Aai hσ h3 h5
 bt i t b s l c sz h1 h2:=by
  obtain⟨i',h3,h4⟩:=I2.1 h1;obtain⟨j',h5,h6⟩:=(J3 hτl).1 h2;exact hI.bt i' j' b s l c sz h4 h6
 tt i j b l c s l' c' s' h1 h2:=by
  obtain⟨i',h3,h4⟩:=(J3 hτl).1 h1;obtain⟨j',h5,h6⟩:=(J3 hτl).1 h2;have:=hI.tt i' j' b l c s l' c' s' h4 h6;subst this;exact Aai hτ h3 h5
 frlt b o h:=⟨fun h'=>h.2 ((Pr hτl).1 h'),by
  rcases Aag hI h.1 with h|h
  ·exact hI.own_lt h
  ·exact(hI.frlt b o h).2⟩
 lo b h:=hI.lo b (O2 ((Pr hτl).1 h))
 frlo b o h:=by
  rcases Aag hI h.1 with h|h
  ·exact hI.lo b h
  ·exact hI.frlo b o h
 sz:=hI.sz
 glob:=hI.glob
end
section
variable {X:Cx}{B:Bx}{E E1:Env}{S S1:St}{w w':World}{F:C3}{a:Act}{N:Nat}{R:AE→St→Prop}{σ τ:List Nat}
def Env.back(E E1:Env)(τ:List Nat):Env:=⟨E.boxes,upd E.toks τ E1.toks++E1.toks.drop τ.length,E.fr,E.df⟩
def H0(τ:List Nat)(m k:Nat):List Nat:=τ++(List.range k).map (·+m)
theorem Asb(hτ:τ.Nodup)(hτl:∀t,t∈τ→t<E.toks.length)(hl:τ.length≤E1.toks.length){t:Nat}{k:Tk} :
 (E.back E1 τ).toks[t]?=some k↔(t∉τ∧E.toks[t]?=some k)∨∃j:Nat,((H0 τ E.toks.length (E1.toks.length-τ.length)):List Nat)[j]?=some t∧E1.toks[j]?=some k:=by
 have hlen:=Acc E.toks τ E1.toks;constructor
 ·intro h;simp only[Env.back]at h;rcases Gu t E.toks.length with ht|ht
  ·rw[Cr (by omega)]at h;by_cases hm:t∈τ
   ·obtain⟨j,hj⟩:=Bw hm;have hjl:=Aa hj;rw[Aid _ _ _ j t hτ hj ht (by omega)]at h;refine .inr ⟨j,?_,h⟩;simp only[H0];rw[Cr hjl];exact hj
   ·rw[Y8 _ _ _ _ hm]at h;exact .inl ⟨hm,h⟩
  ·rw[Gj (by omega),hlen,Ny]at h;refine .inr ⟨τ.length+(t-E.toks.length),?_,h⟩;have:=Aa h;simp only[H0];rw[Gj (by omega),Gm,Abl (by omega)];simp;omega
 ·rintro(⟨hm,h⟩|⟨j,hj,h⟩)
  ·simp only[Env.back];rw[Cr (by rw[hlen];exact Aa h),Y8 _ _ _ _ hm];exact h
  ·simp only[Env.back,H0]at hj⊢;rcases Gu j τ.length with hjl|hjl
   ·rw[Cr hjl]at hj;have ht:=hτl t (Bh hj);rw[Cr (by omega),Aid _ _ _ j t hτ hj ht (by omega)];exact h
   ·rw[Gj hjl,Gm]at hj;have hlt:=Aa h;rw[Abl (by omega)]at hj;simp only[Km,Option.some.injEq]at hj;rw[Gj (by omega),hlen,Ny];rw[show τ.length+(t-E.toks.length)=j by omega];exact h
theorem Amy(hτ:τ.Nodup){m k:Nat}(hτl:∀t,t∈τ→t<m){i j t:Nat}(hi:(H0 τ m k)[i]?=some t)(hj:(H0 τ m k)[j]?=some t):i=j:=by
 have key:∀{i t:Nat},(H0 τ m k)[i]?=some t→(i<τ.length∧τ[i]?=some t)∨(τ.length≤i∧t=i-τ.length+m):=fun{i t} h=>by
  simp only[H0]at h;rcases Gu i τ.length with hl|hl
  ·rw[Cr hl]at h;exact .inl ⟨hl,h⟩
  ·rw[Gj hl,Gm]at h;have hlt:i-τ.length<k:=by
    rcases Gu (i-τ.length) k with h'|h'
    ·exact h'
    ·rw[U3 (by simpa using h')]at h;simp at h
   rw[Abl hlt]at h;simp only[Km,Option.some.injEq]at h;exact .inr ⟨hl,h.symm⟩
 rcases key hi with⟨h1,h2⟩|⟨h1,h2⟩<;>rcases key hj with⟨h3,h4⟩|⟨h3,h4⟩
 ·exact Aai hτ h2 h4
 ·have:=hτl t (Bh h2);omega
 ·have:=hτl t (Bh h4);omega
 ·omega
theorem Anb(hI:Inv X E S w)(hI1:Inv X E1 S1 w')(ev:Evol (E.sub σ τ) w E1 w' σ.length τ.length)(hσ:σ.Nodup)(hτ:τ.Nodup)(hσl:∀i,i∈σ→i<S.boxes.length)(hτl:∀t,t∈τ→t<E.toks.length)
 (hb1:S1.boxes.length=σ.length)(ht1:τ.length≤S1.toks.length){bx2:List (List (List AV))}(hR:RenB false σ (H0 τ S.toks.length (S1.toks.length-τ.length)) bx2 S1.boxes) :
 Evol E w (E.back E1 τ) w' E.boxes.length E.toks.length∧Inv X (E.back E1 τ) ⟨upd S.boxes σ bx2,upd S.toks τ S1.toks++S1.toks.drop τ.length⟩ w' ∧
  ∀{x y:AV} {v:Value},Ren false σ (H0 τ S.toks.length (S1.toks.length-τ.length)) x y→Rel E1 w' v y→Rel (E.back E1 τ) w' v x:=by
 have nt:E.toks.length=S.toks.length:=by rw[←hI.nt];simp
 have nt1:E1.toks.length=S1.toks.length:=by rw[←hI1.nt];simp
 have nb1:E1.boxes.length=σ.length:=by rw[hI1.nb,hb1]
 have hl:τ.length≤E1.toks.length:=by omega
 have bt:=@Asb E E1 τ hτ hτl hl;rw[nt,nt1]at bt;have boxS:∀{i b s:Nat},i∈σ→E.boxes[i]?=some (some (b,s))→∃j,σ[j]?=some i∧E1.boxes[j]?=some (some (b,s)):=fun{i b s} hi h=>by
  obtain⟨j,hj⟩:=Bw hi;have hs:=I2 (E:=E) (τ:=τ).2 ⟨i,hj,h⟩;have hjl:=Aa hj;exact⟨j,hj,(ev.boxes j hjl (by simpa[Env.sub]using hjl)).2 _ hs⟩
 have apartB:∀{i b s:Nat},i∉σ→E.boxes[i]?=some (some (b,s))→¬E.ownS σ τ b:=fun{i b s} hi h ho=>by
  rcases ho with⟨i',s',hi',h'⟩|⟨t,l,c,sz,_,h'⟩
  ·have:=hI.bb _ _ _ _ _ h h';subst this;exact hi hi'
  ·exact hI.bt _ _ _ _ _ _ _ h h'
 have apartT:∀{t l b c sz:Nat},t∉τ→E.toks[t]?=some (Tk.mk l (some (b,c,sz)))→¬E.ownS σ τ b:=fun{t l b c sz} hi h ho=>by
  rcases ho with⟨i',s',hi',h'⟩|⟨t',l',c',sz',ht',h'⟩
  ·exact hI.bt _ _ _ _ _ _ _ h' h
  ·have:=hI.tt _ _ _ _ _ _ _ _ _ h h';subst this;exact hi ht'
 have frE:∀{b o:Nat},E.mt b o→¬E.ownS σ τ b→E1.fr b o:=fun{b o} h1 h2=>by rw[ev.fr];exact⟨h1,h2⟩
 have hmt:∀b o,(E.back E1 τ).mt b o→E1.mt b o:=fun b o h=>by
  rcases h with h|⟨i,s,h⟩|⟨t,l,c,s,h,ho⟩
  ·exact .inl (frE (.inl h) (fun ho=>(hI.frlt b o h).1 (O2 ho)))
  ·by_cases hi:i∈σ
   ·obtain⟨j,_,hj⟩:=boxS hi h;exact .inr (.inl ⟨j,s,hj⟩)
   ·exact .inl (frE (.inr (.inl ⟨i,s,h⟩)) (apartB hi h))
  ·rcases bt.1 h with⟨ht,h⟩|⟨j,_,h⟩
   ·exact .inl (frE (.inr (.inr ⟨t,l,c,s,h,ho⟩)) (apartT ht h))
   ·exact .inr (.inr ⟨j,l,c,s,h,ho⟩)
 have howns:∀{b:Nat},E1.own b→b<w.heap.size→E.own b:=fun{b} h hb=>O2 ((Pr hτl).1 (ev.own b hb h));have hown:∀{b:Nat},(E.back E1 τ).own b→E.own b∨E1.own b:=fun{b} h=>by
  rcases h with⟨i,s,h⟩|⟨t,l,c,s,h⟩
  ·exact .inl (.inl ⟨i,s,h⟩)
  ·rcases bt.1 h with⟨ht,h⟩|⟨j,_,h⟩
   ·exact .inl (.inr ⟨t,l,c,s,h⟩)
   ·exact .inr (.inr ⟨j,l,c,s,h⟩)
 have ev2:Evol E w (E.back E1 τ) w' E.boxes.length E.toks.length:=by
  refine⟨rfl,fun _ _ h=>⟨h,fun _ h=>h⟩,fun t ht k hk=>?_,ev.os,ev.tape,ev.output,ev.size,fun b hb ho=>ev.block b hb (fun h=>ho (O2 ((Pr hτl).1 h))),
   fun b o v hm hc=>ev.cell b o v (fun h=>hm (Sz hτl h)) hc,fun b o hb h=>Sz hτl (ev.mt b o hb (hmt b o h)),fun b hb h=>?_,rfl,ev.ty,fun t ht k b c h1 h2 h3 o ho=>?_⟩
  ·by_cases hm:t∈τ
   ·obtain⟨j,hj⟩:=Bw hm;obtain⟨k',hk',h'⟩:=ev.toks j (Aa hj) k ((J3 hτl).2 ⟨t,hj,hk⟩);exact⟨k',bt.2 (.inr ⟨j,by simp only[H0];rw[Cr (Aa hj)];exact hj,hk'⟩),h'⟩
   ·exact⟨k,bt.2 (.inl ⟨hm,hk⟩),.inl rfl⟩
  ·rcases hown h with h|h
   ·exact h
   ·exact howns h hb
  ·by_cases hm:t∈τ
   ·rcases bt.1 h3 with⟨h4,_⟩|⟨j',hj',h5⟩
    ·exact absurd hm h4
    ·obtain⟨j,hj⟩:=Bw hm;have hjj:j'=j:=Amy hτ (fun t h=>by have:=hτl t h;omega) hj' (by simp only[H0];rw[Cr (Aa hj)];exact hj);subst hjj;exact ev.pv j' (Aa hj) k b c ((J3 hτl).2 ⟨t,hj,h1⟩) h2 h5 o ho
   ·obtain⟨kl,ksp⟩:=k;simp only at h2;subst h2;rw[ev.block b (N6 ho) (fun h=>apartT hm h1 ((Pr hτl).1 h))];exact ho
 have hbwd:∀{x y:AV} {v:Value},Ren false σ (H0 τ S.toks.length (S1.toks.length-τ.length)) x y→Rel E1 w' v y→Rel (E.back E1 τ) w' v x:=fun{x y v} h hv=>
  h.bwd hmt (fun i j q h1 h2=>by
   have hil:=hσl i (Bh h1);have hil':i<E.boxes.length:=by rw[hI.nb];exact hil
   obtain⟨q',hq'⟩:=hI.np i hil'
   ·have:=(ev.boxes j (Aa h1) (by have:=Aa h1;simpa[Env.sub]using this)).2 q' (I2.2 ⟨i,h1,hq'⟩);rw[h2]at this;cases this;exact hq') (fun i j k h1 h2=>bt.2 (.inr ⟨j,h1,h2⟩)) hv
 refine⟨ev2,?_,hbwd⟩;have hfar:∀{b:Nat},E.own b→¬E.ownS σ τ b→w'.heap[b]?=w.heap[b]?:=fun{b} h1 h2=>ev.block b (hI.own_lt h1) (fun h=>h2 ((Pr hτl).1 h));have hl2:=hR.get.1;exact{
  nb:=by simp[Env.back,Acc,hI.nb]
  nt:=by simp only[Env.back,J8,An3,hI.nt,hI1.nt,List.map_drop]
  np:=hI.np
  box:=fun i b sz rows h1 h2=>by
   have hil:i<S.boxes.length:=by have:=Aa h2;simpa[Acc]using this
   by_cases hi:i∈σ
   ·obtain⟨j,hj,hB⟩:=boxS hi h1;have hjl:=Aa hj;rw[Aid _ _ _ j i hσ hj hil (by omega)]at h2;obtain⟨rows1,hrows1⟩:=Ab S1.boxes (i:=j) (by omega);have hr:=hR.get.2 j rows rows1 h2 hrows1;obtain⟨cs,e,hh,hs,hll,hrel⟩:=hI1.box j b sz rows1 hB hrows1;refine⟨cs,e,hh,by rw[←hr.get.1];exact hs,fun r hr'=>?_,fun k r q x v hk hq hv=>?_⟩
    ·obtain⟨k,hk⟩:=Bw hr';obtain⟨r1,hr1⟩:=Ab rows1 (i:=k) (by have:=Aa hk;have:=hr.get.1;omega);rw[←(hr.get.2 k r r1 hk hr1).get.1];exact hll r1 (Bh hr1)
    ·obtain⟨r1,hr1⟩:=Ab rows1 (i:=k) (by have:=Aa hk;have:=hr.get.1;omega);have hL:=hr.get.2 k r r1 hk hr1;obtain⟨y,hy⟩:=Ab r1 (i:=q) (by have:=Aa hq;have:=hL.get.1;omega);exact hbwd (hL.get.2 q x y hq hy) (hrel k r1 q y v hr1 hy hv)
   ·rw[Y8 _ _ _ _ hi]at h2;obtain⟨cs,e,hh,hs,hll,hrel⟩:=hI.box i b sz rows h1 h2;exact⟨cs,e,(hfar (.inl ⟨i,sz,h1⟩) (apartB hi h1)).trans hh,hs,hll,fun k r q x v hk hq hv=>(hrel k r q x v hk hq hv).step ev2⟩
  tok:=fun t l b c sz h=>by
   rcases bt.1 h with⟨ht,h⟩|⟨j,_,h⟩
   ·obtain⟨h1,h0,cs,e,hh,hs⟩:=hI.tok t l b c sz h;exact⟨h1,h0,cs,e,(hfar (.inr ⟨t,l,c,sz,h⟩) (apartT ht h)).trans hh,hs⟩
   ·exact hI1.tok j l b c sz h
  bb:=hI.bb
  bt:=fun i t b s l c sz h1 h2=>by
   rcases bt.1 h2 with⟨ht,h⟩|⟨j,_,h⟩
   ·exact hI.bt i t b s l c sz h1 h
   ·by_cases hi:i∈σ
    ·obtain⟨j',_,hB⟩:=boxS hi h1;exact hI1.bt j' j b s l c sz hB h
    ·exact(hI1.frlt b 0 (frE (.inr (.inl ⟨i,s,h1⟩)) (apartB hi h1))).1 (.inr ⟨j,l,c,sz,h⟩)
  tt:=fun i j b l c s l' c' s' h1 h2=>by
   rcases bt.1 h1 with⟨ht1,h1⟩|⟨i1,hi1,h1⟩<;>rcases bt.1 h2 with⟨ht2,h2⟩|⟨j1,hj1,h2⟩
   ·exact hI.tt i j b l c s l' c' s' h1 h2
   ·exact absurd (.inr ⟨j1,l',c',s',h2⟩) (hI1.frlt b (l*s) (frE (.inr (.inr ⟨i,l,c,s,h1,Bo _⟩)) (apartT ht1 h1))).1
   ·exact absurd (.inr ⟨i1,l,c,s,h1⟩) (hI1.frlt b (l'*s') (frE (.inr (.inr ⟨j,l',c',s',h2,Bo _⟩)) (apartT ht2 h2))).1
   ·have:=hI1.tt i1 j1 b l c s l' c' s' h1 h2;subst this;rw[hi1]at hj1;exact Option.some.inj hj1
  frlt:=fun b o h=>by
   have h1:=frE (.inl h) (fun ho=>(hI.frlt b o h).1 (O2 ho));refine⟨fun h'=>?_,(hI1.frlt b o h1).2⟩;rcases hown h' with h'|h'
   ·exact(hI.frlt b o h).1 h'
   ·exact(hI1.frlt b o h1).1 h'
  lo:=fun b h=>by
   rcases hown h with h|h
   ·exact hI.lo b h
   ·exact hI1.lo b h
  frlo:=hI.frlo
  sz:=hI1.sz
  glob:=hI1.glob }
theorem Ain{ops:Array Oper}{i:Nat}{o:Oper}{c:Call}{fo:Operand}{f:FuncId}{caps xs zs ys:List AV}{r y:AV}{Sc S':St}{bx1 bx2:List (List (List AV))}{tk1:List Nat}
 (hE:Nq X.P f)(hc:ACalls X f ys Sc fun e S1=>e=.ret y∧S1=⟨bx1,tk1⟩)(σ τ:List Nat)(ho:ops[i]?=some o)(hw:A6 ops F o=some true)(hop:o.op=.call c)(hcal:c.callee=.value fo)
 (hfo:Dt X F fo=some (.fn f caps))(hx:Hk X F c.args.toList=some xs)(hzs:xs++caps=zs)(hσ:σ.Nodup)(hτ:τ.Nodup)(hσl:∀i,i∈σ→i<S.boxes.length)(hτl:∀t,t∈τ→t<S.toks.length)
 (hsb:σ.map (fun i=>S.boxes.getD i [])=bx2){bxc:List (List (List AV))}(hb:RenB true σ τ bx2 bxc)(ht:τ.map (fun t=>S.toks.getD t 0)=Sc.toks)(hSc:Sc.boxes=bxc)(ha:RenL true σ τ zs ys)
 (hb1:bx1.length=σ.length)(ht1:τ.length≤tk1.length){bx3:List (List (List AV))}(hR:RenB false σ (H0 τ S.toks.length (tk1.length-τ.length)) bx3 bx1)(hr:Ren false σ (H0 τ S.toks.length (tk1.length-τ.length)) r y)
 (hS':St.mk (upd S.boxes σ bx3) (upd S.toks τ tk1++tk1.drop τ.length)=S'):Ndo X N ops i o F r S S':=by
 subst hS';subst hzs;subst hsb;subst hSc;intro F' E w a hl hI hF;have nt:E.toks.length=S.toks.length:=by rw[←hI.nt];simp
 have hτl':∀t,t∈τ→t<E.toks.length:=fun t h=>by rw[nt];exact hτl t h
 obtain⟨l1,l2⟩:=Rt (X:=X) hop hcal hl;obtain⟨vs,h1,h2,h3⟩:=Qg hop hcal hE hI hF (l1.trans hfo) (l2.trans hx);have hsl:Sc.boxes.length=σ.length:=by have:=hb.get.1;simpa using this
 have htl:Sc.toks.length=τ.length:=by rw[←ht];simp
 refine Does.call ho (Cm hF (by rw[Cw hl];exact hw)) h1 ((hc (E.sub σ τ) w vs rfl (hI.sub hσ hτ hτl' hb hσl ht) (by rw[h2,ha.get.1]) (fun j v y hv hy=>?_)).mono fun e w' he=>?_)
 ·obtain⟨x,hx⟩:=Ab (xs++caps) (i:=j) (by have:=Aa hy;rw[ha.get.1]at this;exact this);exact(ha.get.2 j x y hx hy).fwd (fun b o=>Sz hτl') (fun i j q h1 h2=>I2.2 ⟨i,h1,h2⟩) (fun i j k h1 h2=>(J3 hτl').2 ⟨i,h1,h2⟩) (h3 j v x hv hx)
 ·obtain⟨E1,S1,d1,d2,d3⟩:=he;rw[hsl,htl]at d2;cases e with
  |returned v=>
   obtain⟨r',hr',hre,rfl⟩:=d3;cases hre;obtain⟨b1,b2,b3⟩:=Anb hI d1 d2 hσ hτ hσl hτl' hb1 ht1 hR;exact⟨v,rfl,E.back E1 τ,b2,b1,b3 hr hr'⟩
  |panicked ch=>obtain⟨h,_⟩:=d3;cases h
  |outgrown=>exact d3.elim
end
class IdxC (l:List Nat)(x:Nat)(j:outParam Nat):Prop where
 h:l[j]?=some x
instance{l:List Nat}{x:Nat}:IdxC (x::l) x 0:=⟨rfl⟩
instance(priority:=low){l:List Nat}{x y j:Nat} [h:IdxC l x j]:IdxC (y::l) x (j+1):=⟨by simpa using h.h⟩
class GetC (l:List Nat)(j:Nat)(x:outParam Nat):Prop where
 h:l[j]?=some x
instance{l:List Nat}{x:Nat}:GetC (x::l) 0 x:=⟨rfl⟩
instance{l:List Nat}{x y j:Nat} [h:GetC l j x]:GetC (y::l) (j+1) x:=⟨by simpa using h.h⟩
class RinC (σ τ:List Nat)(x:AV)(y:outParam AV):Prop where
 s:Ren true σ τ x y
class RinL (σ τ:List Nat)(x:List AV)(y:outParam (List AV)):Prop where
 s:RenL true σ τ x y
class RinR (σ τ:List Nat)(x:List (List AV))(y:outParam (List (List AV))):Prop where
 s:RenR true σ τ x y
class RinB (σ τ:List Nat)(x:List (List (List AV)))(y:outParam (List (List (List AV)))):Prop where
 s:RenB true σ τ x y
class RinS (τ:List Nat)(x:Sp)(y:outParam Sp):Prop where
 s:Az5 true τ x y
class RoutC (σ τ:List Nat)(x:outParam AV)(y:AV):Prop where
 s:Ren false σ τ x y
class RoutL (σ τ:List Nat)(x:outParam (List AV))(y:List AV):Prop where
 s:RenL false σ τ x y
class RoutR (σ τ:List Nat)(x:outParam (List (List AV)))(y:List (List AV)):Prop where
 s:RenR false σ τ x y
class RoutB (σ τ:List Nat)(x:outParam (List (List (List AV))))(y:List (List (List AV))):Prop where
 s:RenB false σ τ x y
section
variable {σ τ:List Nat}
instance:RinS τ .no .no:=⟨.inl ⟨rfl,rfl⟩⟩
instance:RinS τ .tight .no:=⟨.inl ⟨rfl,rfl⟩⟩
instance{t t':Nat} [h:IdxC τ t t']:RinS τ (.tok t) (.tok t'):=⟨.inr (.inr (.inr (.inr ⟨t,t',rfl,rfl,h.h⟩)))⟩
instance(priority:=low){t:Nat}:RinS τ (.tok t) .no:=⟨.inl ⟨rfl,rfl⟩⟩
instance{v:Value}:RinC σ τ (.val v) (.val v):=⟨.flat _ (.val v)⟩
instance{b b' r o:Nat} [h:IdxC σ b b']:RinC σ τ (.ptr b r o) (.ptr b' r o):=⟨.ptr b b' r o h.h⟩
instance{b b' k:Nat} [h:IdxC σ b b']:RinC σ τ (.bsl b k) (.bsl b' k):=⟨.bsl b b' k h.h⟩
instance{te b b':Nat} [h:IdxC σ b b']:RinC σ τ (.tagN te b) (.tagN te b'):=⟨.tagN te b b' h.h⟩
instance{te t t':Nat}{s:List UInt8} [h:IdxC τ t t']:RinC σ τ (.buf te s t) (.buf te s t'):=⟨.buf te s t t' h.h⟩
instance{rows:List (List AV)}{t t' v:Nat} [h:IdxC τ t t'] [hl:OKR 0 0 rows]:RinC σ τ (.psl rows t v) (.psl rows t' v):=⟨.psl rows t t' v h.h hl.ok⟩
instance{rows rows':List (List AV)}{sp sp':Sp} [h:RinR σ τ rows rows'] [hs:RinS τ sp sp']:RinC σ τ (.sl rows sp) (.sl rows' sp'):=⟨Zq h.s hs.s⟩
instance{l l':List AV} [h:RinL σ τ l l']:RinC σ τ (.agg l) (.agg l'):=⟨Am7 h.s⟩
instance{l l':List AV} [h:RinL σ τ l l']:RinC σ τ (.tup l) (.tup l'):=⟨Am8 h.s⟩
instance{l l':List AV} [h:RinL σ τ l l']:RinC σ τ (.cptr l) (.cptr l'):=⟨Ar6 h.s⟩
instance{f:FuncId}{l l':List AV} [h:RinL σ τ l l']:RinC σ τ (.fn f l) (.fn f l'):=⟨Az6 h.s⟩
instance:RinL σ τ [] []:=⟨.nil⟩
instance{x y:AV}{l l':List AV} [h:RinC σ τ x y] [t:RinL σ τ l l']:RinL σ τ (x::l) (y::l'):=⟨.cons h.s t.s⟩
instance(priority:=low){l:List AV} [h:OKL 0 0 l]:RinL σ τ l l:=⟨RenL.flat h.ok⟩
instance:RinR σ τ [] []:=⟨.nil⟩
instance{x y:List AV}{l l':List (List AV)} [h:RinL σ τ x y] [t:RinR σ τ l l']:RinR σ τ (x::l) (y::l'):=⟨.cons h.s t.s⟩
instance(priority:=low){l:List (List AV)} [h:OKR 0 0 l]:RinR σ τ l l:=⟨RenR.flat h.ok⟩
instance:RinB σ τ [] []:=⟨.nil⟩
instance{x y:List (List AV)}{l l':List (List (List AV))} [h:RinR σ τ x y] [t:RinB σ τ l l']:RinB σ τ (x::l) (y::l'):=⟨.cons h.s t.s⟩
instance{v:Value}:RoutC σ τ (.val v) (.val v):=⟨.flat _ (.val v)⟩
instance{b b' r o:Nat} [h:GetC σ b' b]:RoutC σ τ (.ptr b r o) (.ptr b' r o):=⟨.ptr b b' r o h.h⟩
instance{b b' k:Nat} [h:GetC σ b' b]:RoutC σ τ (.bsl b k) (.bsl b' k):=⟨.bsl b b' k h.h⟩
instance{te t t':Nat}{s:List UInt8} [h:GetC τ t' t]:RoutC σ τ (.buf te s t) (.buf te s t'):=⟨.buf te s t t' h.h⟩
instance{rows:List (List AV)}{t t' v:Nat} [h:GetC τ t' t] [hl:OKR 0 0 rows]:RoutC σ τ (.psl rows t v) (.psl rows t' v):=⟨.psl rows t t' v h.h hl.ok⟩
instance{rows rows':List (List AV)} [h:RoutR σ τ rows rows']:RoutC σ τ (.sl rows .no) (.sl rows' .no):=⟨Zq h.s (.inr (.inl ⟨rfl,rfl⟩))⟩
instance{rows rows':List (List AV)} [h:RoutR σ τ rows rows']:RoutC σ τ (.sl rows .tight) (.sl rows' .tight):=⟨Zq h.s (.inr (.inr (.inr (.inl ⟨rfl,rfl⟩))))⟩
instance{rows rows':List (List AV)}{t t':Nat} [h:RoutR σ τ rows rows'] [ht:GetC τ t' t]:RoutC σ τ (.sl rows (.tok t)) (.sl rows' (.tok t')):=⟨Zq h.s (.inr (.inr (.inr (.inr ⟨t,t',rfl,rfl,ht.h⟩))))⟩
instance{l l':List AV} [h:RoutL σ τ l l']:RoutC σ τ (.agg l) (.agg l'):=⟨Am7 h.s⟩
instance{l l':List AV} [h:RoutL σ τ l l']:RoutC σ τ (.tup l) (.tup l'):=⟨Am8 h.s⟩
instance:RoutL σ τ [] []:=⟨.nil⟩
instance{x y:AV}{l l':List AV} [h:RoutC σ τ x y] [t:RoutL σ τ l l']:RoutL σ τ (x::l) (y::l'):=⟨.cons h.s t.s⟩
instance(priority:=low){l:List AV} [h:OKL 0 0 l]:RoutL σ τ l l:=⟨RenL.flat h.ok⟩
instance:RoutR σ τ [] []:=⟨.nil⟩
instance{x y:List AV}{l l':List (List AV)} [h:RoutL σ τ x y] [t:RoutR σ τ l l']:RoutR σ τ (x::l) (y::l'):=⟨.cons h.s t.s⟩
instance(priority:=low){l:List (List AV)} [h:OKR 0 0 l]:RoutR σ τ l l:=⟨RenR.flat h.ok⟩
instance:RoutB σ τ [] []:=⟨.nil⟩
instance{x y:List (List AV)}{l l':List (List (List AV))} [h:RoutR σ τ x y] [t:RoutB σ τ l l']:RoutB σ τ (x::l) (y::l'):=⟨.cons h.s t.s⟩
end
def Hands(X:Cx)(f:FuncId)(args:List AV)(S:St)(y:AV)(S1:St):Prop:=
 Nq X.P f∧ACalls X f args S fun e S'=>e=.ret y∧S'=S1
theorem Hands.mk{X:Cx}{f:FuncId}{fn:Func}{c:Code}{args:List AV}{r:AV}{bx bx':List (List (List AV))}{tk tk':List Nat}{n m:Nat}(hf:X.P.funcs[f]?=some fn)(hb:fn.body=some c)
 (hl:Nat.ble args.length fn.ntmps=true)(hnm:(fn.name == "runtime.NumGoroutine")=false)(hn:bx.length=n)(hm:tk.length=m)
 (h:AK X ⟨f,fn,n,m⟩ [.code c] (Oq 0 args) ⟨bx,tk⟩ fun e S=>e=.ret r∧S=⟨bx',tk'⟩):Hands X f args ⟨bx,tk⟩ r ⟨bx',tk'⟩:=
 ⟨⟨fn,hf,hnm,by rw[hb];rfl⟩,Jn hf hb hl hn hm h⟩
def Kc:List Nat→Bool
 |[]=>true
 |x::l=>(l.all fun y=>!Nat.beq x y)&&Kc l
theorem Od:∀{l:List Nat},Kc l=true→l.Nodup
 |[],_=>List.nodup_nil
 |x::l,h=>by
  simp only[Kc,Da,zzq50,Mh]at h;refine List.nodup_cons.2 ⟨fun hm=>?_,Od h.2⟩;have:=h.1 x hm;rw[show Nat.beq x x=true from Nat.beq_refl x]at this;cases this
theorem Ags{l:List Nat}{n:Nat}(h:(l.all fun i=>Nat.blt i n)=true):∀i,i∈l→i<n:=fun i hi=>by
 have:=zzq50.1 h i hi;simpa[Fs]using this
def Aeg{α:Type}:List Nat→List α→Option (List α)
 |[],_=>some []
 |i::σ,l=>match Tm l i with
  |some x=>match Aeg σ l with
   |some xs=>some (x::xs)
   |none=>none
  |none=>none
theorem Ahc{α:Type}(d:α):∀{σ:List Nat}{l xs:List α},Aeg σ l=some xs→σ.map (fun i=>l.getD i d)=xs
 |[],l,xs,h=>by simp only[Aeg]at h;cases h;rfl
 |i::σ,l,xs,h=>by
  simp only[Aeg]at h;split at h
  ·rename_i x hx;split at h
   ·rename_i ys hys;cases h;rw[H7]at hx;rw[Nz,Ahc d hys];simp[List.getD,hx]
   ·cases h
  ·cases h
section
variable {X:Cx}{S:St}{F:C3}{N:Nat}
theorem Vd{ops:Array Oper}{i:Nat}{o:Oper}{c:Call}{fo:Operand}{f:FuncId}{caps xs zs ys:List AV}{r y:AV}{S':St}{bx1 bx2 bxc bx3:List (List (List AV))}{tkc tk1:List Nat}
 (σ τ:List Nat)(hc:Hands X f ys ⟨bxc,tkc⟩ y ⟨bx1,tk1⟩)(ho:ops[i]?=some o)(hw:A6 ops F o=some true)(hop:o.op=.call c)(hcal:c.callee=.value fo)(hfo:Dt X F fo=some (.fn f caps))
 (hx:Hk X F c.args.toList=some xs)(hzs:Kb xs caps=some zs)(hσ:Kc σ=true)(hτ:Kc τ=true)(hσl:(σ.all fun i=>Nat.blt i S.boxes.length)=true)(hτl:(τ.all fun t=>Nat.blt t S.toks.length)=true)
 (hsb:Aeg σ S.boxes=some bx2) [hb:RinB σ τ bx2 bxc](ht:τ.map (fun t=>S.toks.getD t 0)=tkc) [ha:RinL σ τ zs ys]
 (hb1:bx1.length=σ.length)(ht1:Nat.ble τ.length tk1.length=true){τ':List Nat}(hτ':H0 τ S.toks.length (tk1.length-τ.length)=τ') [hR:RoutB σ τ' bx3 bx1] [hr:RoutC σ τ' r y]
 (hS':St.mk (upd S.boxes σ bx3) (upd S.toks τ tk1++tk1.drop τ.length)=S'):Ndo X N ops i o F r S S':=by
 subst hτ';exact Ain hc.1 hc.2 σ τ ho hw hop hcal hfo hx (Ru hzs) (Od hσ) (Od hτ) (Ags hσl) (Ags hτl) (Ahc [] hsb) hb.s ht rfl ha.s hb1 (I7 ht1) hR.s hr.s hS'
end
def T9:Code→Option Nat
 |.region id _ _=>some id
 |.seq a b=>match T9 a with
  |some i=>some i
  |none=>T9 b
 |.cond _ a b=>match T9 a with
  |some i=>some i
  |none=>T9 b
 |.block _ c=>T9 c
 |.loop c=>T9 c
 |.scope c=>T9 c
 |_=>none
def isR(o:Option Nat)(id:Nat):Bool:=
 match o with
 |some i=>Nat.beq i id
 |none=>false
def orL(o:Option (List Item))(p:Option (List Item)):Option (List Item):=
 match o with
 |some x=>some x
 |none=>p
def Alv(lp:Bool)(id:Nat):Code→List Item→Option (List Item)
 |.region i ops d,k=>match lp with
  |true=>none
  |false=>match Nat.beq i id with
   |true=>some (.code (.region i ops d)::k)
   |false=>none
 |.loop c,k=>match lp&&isR (T9 c) id with
  |true=>some (.code (.loop c)::k)
  |false=>Alv lp id c (.inLoop c::k)
 |.seq a b,k=>orL (Alv lp id a (.code b::k)) (Alv lp id b k)
 |.cond _ a b,k=>orL (Alv lp id a k) (Alv lp id b k)
 |.block n c,k=>Alv lp id c (.inBlock n::k)
 |_,_=>none
def A3j(lp:Bool)(id:Nat)(fn:Func):Option (List Item):=
 match fn.body with
 |some c=>Alv lp id c []
 |none=>none
def Lj(lp:Bool)(id:Nat)(fn:Func):List Item:=
 match A3j lp id fn with
 |some K=>K
 |none=>[]
theorem Aco{X:Cx}{S:St}{F:C3}{N:Nat}{ops:Array Oper}{i:Nat}{o:Oper}{c:Call}{fo:Operand}{f:FuncId}{caps xs zs ys:List AV}{r:AV}(hc:Pure X f ys r)(ho:ops[i]?=some o)(hw:A6 ops F o=some true)
 (hop:o.op=.call c)(hcal:c.callee=.value fo)(hfo:Dt X F fo=some (.fn f caps))(hx:Hk X F c.args.toList=some xs)(hzs:Kb xs caps=some zs) [ha:RinL [] [] zs ys](hr:Ok 0 0 r):Ndo X N ops i o F r S S:=by
 refine Ain hc.1 hc.2 [] [] ho hw hop hcal hfo hx (Ru hzs) List.nodup_nil List.nodup_nil (fun _ h=>by cases h) (fun _ h=>by cases h) rfl .nil rfl rfl ha.s rfl (Bo _) (bx3:=[]) .nil (.flat r hr) ?_;obtain⟨bx,tk⟩:=S;simp[upd]
section
variable {X:Cx}{B:Bx}{S S':St}{F:C3}{R:AE→St→Prop}{ops:Array Oper}{i:Nat}{l:List Nat}{k:List Item}{o:Oper}{c:Call}{fo p q:Operand}{K:List Item}{F':C3}
theorem Bm{x:AV}{S2:St}(h:Ndo X B.fn.ntmps ops i o F x S S')(hk:AK X B K F' S2 R)(ho:ops[i]?=some o:=by rfl)(hd:D1 B.fn.ntmps o.dst=true:=by rfl)
 (he:Go.V.ev X B.fn.ntmps 200 (.inRegion ops l::k) (putF o.dst x F) S'=(K,F',S2):=by rfl):AK X B (.inRegion ops (i::l)::k) F S R:=
 G9 h ho hd (Bj 200 he hk)
theorem Al{f:FuncId}{caps xs zs ys:List AV}{r:AV}{S2:St}(hc:Pure X f ys r)(hk:AK X B K F' S2 R)(ho:ops[i]?=some o:=by rfl)(hw:A6 ops F o=some true:=by rfl)
 (hop:o.op=.call c:=by rfl)(hcal:c.callee=.value fo:=by rfl)(hfo:Dt X F fo=some (.fn f caps):=by rfl)(hx:Hk X F c.args.toList=some xs:=by rfl)(hzs:Kb xs caps=some zs:=by rfl)
 (hd:D1 B.fn.ntmps o.dst=true:=by rfl) [hs:RinL [] [] zs ys] [hok:OK 0 0 r](he:Go.V.ev X B.fn.ntmps 200 (.inRegion ops l::k) (putF o.dst r F) S=(K,F',S2):=by rfl):AK X B (.inRegion ops (i::l)::k) F S R:=
 G9 (Aco hc ho hw hop hcal hfo hx hzs hok.ok) ho hd (Bj 200 he hk)
theorem D3{lp:Bool}{id:Nat}{fn:Func}(hk:AK X B K F S R)(h:A3j lp id fn=some K:=by rfl):AK X B (Lj lp id fn) F S R:=by
 unfold Lj;rw[h];exact hk
theorem Ag{t:Nat}{x y:Code}{e:Bool}{K1 K2:List Item}{F1 F2:C3}{S1 S2:St}(h1:e=true→AK X B K1 F1 S1 R)(h2:e=false→AK X B K2 F2 S2 R)(hc:lk F t=some (.val (.bool e)):=by rfl)
 (he1:Go.V.ev X B.fn.ntmps 200 (.code x::k) ((t,.lit true)::F) S=(K1,F1,S1):=by rfl)(he2:Go.V.ev X B.fn.ntmps 200 (.code y::k) ((t,.lit false)::F) S=(K2,F2,S2):=by rfl) :
 AK X B (.code (.cond (.tmp t) x y)::k) F S R:=
 N0 hc (fun h=>Bj 200 he1 (h1 h)) (fun h=>Bj 200 he2 (h2 h))
theorem Dh{K1 K2:List Item}{t:Nat}{x y:Code}{e:Bool}{F0 F1 F2:C3}{S0 S1 S2:St}{k0:List Item}(h1:e=true→AK X B K1 F1 S1 R)(h2:e=false→AK X B K2 F2 S2 R)
 (h0:Go.V.ev X B.fn.ntmps 100 K F S=(.code (.cond (.tmp t) x y)::k0,F0,S0):=by rfl)(hc:lk F0 t=some (.val (.bool e)):=by rfl)
 (he1:Go.V.ev X B.fn.ntmps 200 (.code x::k0) ((t,.lit true)::F0) S0=(K1,F1,S1):=by rfl)(he2:Go.V.ev X B.fn.ntmps 200 (.code y::k0) ((t,.lit false)::F0) S0=(K2,F2,S2):=by rfl):AK X B K F S R:=
 Bj 100 h0 (Ag h1 h2 hc he1 he2)
theorem A1{t:Nat}{x y:Code}{e:Bool}{K1:List Item}{F1:C3}{S1:St}(h1:AK X B K1 F1 S1 R)(hc:lk F t=some (.val (.bool e)):=by rfl)
 (he1:Go.V.ev X B.fn.ntmps 200 (.code x::k) ((t,.lit true)::F) S=(K1,F1,S1):=by rfl)(ht:e=true:=by rfl):AK X B (.code (.cond (.tmp t) x y)::k) F S R:=
 N0 hc (fun _=>Bj 200 he1 h1) (fun h=>by rw[ht]at h;cases h)
theorem Ah{t:Nat}{x y:Code}{e:Bool}{K2:List Item}{F2:C3}{S2:St}(h2:AK X B K2 F2 S2 R)(hc:lk F t=some (.val (.bool e)):=by rfl)
 (he2:Go.V.ev X B.fn.ntmps 200 (.code y::k) ((t,.lit false)::F) S=(K2,F2,S2):=by rfl)(ht:e=false:=by rfl):AK X B (.code (.cond (.tmp t) x y)::k) F S R:=
 N0 hc (fun h=>by rw[ht]at h;cases h) (fun _=>Bj 200 he2 h2)
theorem Db{t j:Nat}{want e:Bool}{oj:Oper}{K1 K2:List Item}{F1 F2:C3}{S1 S2:St}(h1:e=true→AK X B K1 F1 S1 R)(h2:e=false→AK X B K2 F2 S2 R)(ho:ops[i]?=some o:=by rfl)(hg:o.guard=some (j,want):=by rfl)
 (hj:ops[j]?=some oj:=by rfl)(hd:oj.dst=some t:=by rfl)(hc:lk F t=some (.val (.bool e)):=by rfl)(he1:Go.V.ev X B.fn.ntmps 200 (.inRegion ops (i::l)::k) ((t,.lit true)::F) S=(K1,F1,S1):=by rfl)
 (he2:Go.V.ev X B.fn.ntmps 200 (.inRegion ops (i::l)::k) ((t,.lit false)::F) S=(K2,F2,S2):=by rfl):AK X B (.inRegion ops (i::l)::k) F S R:=
 X0 hc (fun h=>Bj 200 he1 (h1 h)) (fun h=>Bj 200 he2 (h2 h))
theorem Hh{t j:Nat}{want e:Bool}{oj:Oper}{K1:List Item}{F1:C3}{S1:St}(h1:AK X B K1 F1 S1 R)(ho:ops[i]?=some o:=by rfl)(hg:o.guard=some (j,want):=by rfl)
 (hj:ops[j]?=some oj:=by rfl)(hd:oj.dst=some t:=by rfl)(hc:lk F t=some (.val (.bool e)):=by rfl)(he1:Go.V.ev X B.fn.ntmps 200 (.inRegion ops (i::l)::k) ((t,.lit true)::F) S=(K1,F1,S1):=by rfl)(ht:e=true:=by rfl) :
 AK X B (.inRegion ops (i::l)::k) F S R:=
 X0 hc (fun _=>Bj 200 he1 h1) (fun h=>by rw[ht]at h;cases h)
theorem Ii{t j:Nat}{want e:Bool}{oj:Oper}{K2:List Item}{F2:C3}{S2:St}(h2:AK X B K2 F2 S2 R)(ho:ops[i]?=some o:=by rfl)(hg:o.guard=some (j,want):=by rfl)
 (hj:ops[j]?=some oj:=by rfl)(hd:oj.dst=some t:=by rfl)(hc:lk F t=some (.val (.bool e)):=by rfl)(he2:Go.V.ev X B.fn.ntmps 200 (.inRegion ops (i::l)::k) ((t,.lit false)::F) S=(K2,F2,S2):=by rfl)(ht:e=false:=by rfl) :
 AK X B (.inRegion ops (i::l)::k) F S R:=
 X0 hc (fun h=>by rw[ht]at h;cases h) (fun _=>Bj 200 he2 h2)
theorem B7{t e:Nat}{rows:List (List AV)}{sp:Sp}{ik:IntKind}{r:List AV}{y ye:Ty}{S2:St}(n:Int)(h0:0≤n)(hr:rows[n.toNat]?=some r)(hk:AK X B K F' S2 R)(ho:ops[i]?=some o:=by rfl)(hw:A6 ops F o=some true:=by rfl)
 (hop:o.op=.indexAddr t p q:=by rfl)(hp:Dt X F p=some (.sl rows sp):=by rfl)(hq:Dt X F q=some (.val (.int ik n)):=by rfl)
 (hy:X.ty t=some y:=by rfl)(hyk:y.k=.slc e:=by rfl)(hye:X.ty e=some ye:=by rfl)(hd:D1 B.fn.ntmps o.dst=true:=by rfl)(hl:r.length=ye.size:=by rfl)
 (he:Go.V.ev X B.fn.ntmps 200 (.inRegion ops l::k) (putF o.dst (.cptr r) F) S=(K,F',S2):=by rfl):AK X B (.inRegion ops (i::l)::k) F S R:=
 Acd ho hw hop hp hq hy hyk hye hd hl h0 hr (Bj 200 he hk)
theorem Je{t:Nat}{s:List UInt8}{ik:IntKind}{b:UInt8}{y:Ty}{S2:St}(n:Int)(h0:0≤n)(hr:s[n.toNat]?=some b)(hk:AK X B K F' S2 R)(ho:ops[i]?=some o:=by rfl)(hw:A6 ops F o=some true:=by rfl)
 (hop:o.op=.index t p q:=by rfl)(hp:Dt X F p=some (str s):=by rfl)(hq:Dt X F q=some (.val (.int ik n)):=by rfl)(hy:X.ty t=some y:=by rfl)(hyk:y.k=.string:=by rfl)
 (hd:D1 B.fn.ntmps o.dst=true:=by rfl)(he:Go.V.ev X B.fn.ntmps 200 (.inRegion ops l::k) (putF o.dst (.val (.int .u8 b.toNat)) F) S=(K,F',S2):=by rfl):AK X B (.inRegion ops (i::l)::k) F S R:=
 Avj ho hw hop hp hq hy hyk hd h0 hr (Bj 200 he hk)
theorem Pure.run{f:FuncId}{fn:Func}{c:Code}{args:List AV}{r:AV}{S2:St}(hf:X.P.funcs[f]?=some fn)(h:AK X ⟨f,fn,0,0⟩ K F' S2 fun e S=>e=.ret r∧S=⟨[],[]⟩)(hb:fn.body=some c:=by rfl)
 (hl:Nat.ble args.length fn.ntmps=true:=by rfl)(hnm:(fn.name == "runtime.NumGoroutine")=false:=by kernel_rfl)
 (he:Go.V.ev X fn.ntmps 200 [.code c] (Oq 0 args) ⟨[],[]⟩=(K,F',S2):=by rfl):Pure X f args r:=
 Pure.mk hf hb hl hnm (Bj 200 he h)
theorem Az{f:FuncId}{fn:Func}{r:AV}{xs:List AV}{k:List Item}(hf:X.P.funcs[f]?=some fn)(hr0:C5 xs=r)(h:Md X F S fn.results.toList=some xs:=by rfl) [hr:OK 0 0 r] :
 AK X ⟨f,fn,0,0⟩ (.code .ret::k) F S fun e S'=>e=.ret r∧S'=⟨[],[]⟩:=
 Zn (bx:=[]) (tk:=[]) hf h rfl (by simp[St.drop]) hr0
def Py(N:Nat)(dst:Option Nat)(x:AV)(F:C3):Option C3:=
 match dst with
 |some d=>match Nat.blt d N with
  |true=>some ((d,x)::F)
  |false=>none
 |none=>some F
theorem Gg{N:Nat}{dst:Option Nat}{x:AV}{F F':C3}(h:Py N dst x F=some F'):D1 N dst=true∧putF dst x F=F':=by
 unfold Py at h;split at h
 ·split at h
  ·rename_i hb;cases h;exact⟨hb,rfl⟩
  ·cases h
 ·cases h;exact⟨rfl,rfl⟩
variable {N:Nat}{bs:List Nat}{em:Nat}{os:List Oper}{x:AV}{Hs:List St}{pend pend':List Jx}{KK:C3→St→Prop}
theorem Ar(k:Drv X N ops bs em os (i+1) F' S Hs pend KK)(ho:ops[i]?=some o:=by rfl)(hw:A6 ops F o=some true:=by rfl)(h:∀S',Ec X F S' o.op=some x:=by intro;rfl)(hF:Py N o.dst x F=some F':=by rfl) :
 Drv X N ops bs em (o::os) i F S Hs pend KK:=by
 obtain⟨h1,rfl⟩:=Gg hF;exact Ako ho hw h h1 k
theorem Ts(k:Drv X N ops bs em os (i+1) F' S Hs pend KK)(ho:ops[i]?=some o:=by rfl)(hw:A6 ops F o=some true:=by rfl)(h:∀bx tk,Kg X F ⟨bx,tk⟩ o.op=some (x,⟨bx,tk⟩):=by intro _ _;rfl)(hF:Py N o.dst x F=some F':=by rfl) :
 Drv X N ops bs em (o::os) i F S Hs pend KK:=by
 obtain⟨h1,rfl⟩:=Gg hF;exact Agl ho hw h h1 k
theorem Ek(h:∀S',Ndo X N ops i o F x S' S')(k:Drv X N ops bs em os (i+1) F' S Hs pend KK)(hF:Py N o.dst x F=some F':=by rfl):Drv X N ops bs em (o::os) i F S Hs pend KK:=by
 obtain⟨h1,rfl⟩:=Gg hF;exact Kf h h1 k
theorem Ja{f:FuncId}{caps xs zs ys:List AV}{r:AV}(hc:Pure X f ys r)(k:Drv X N ops bs em os (i+1) F' S Hs pend KK)(ho:ops[i]?=some o:=by rfl)(hw:A6 ops F o=some true:=by rfl)
 (hop:o.op=.call c:=by rfl)(hcal:c.callee=.value fo:=by rfl)(hfo:Dt X F fo=some (.fn f caps):=by rfl)(hx:Hk X F c.args.toList=some xs:=by rfl)(hzs:Kb xs caps=some zs:=by rfl)
 (hF:Py N o.dst r F=some F':=by rfl) [hs:RinL [] [] zs ys] [hok:OK 0 0 r]:Drv X N ops bs em (o::os) i F S Hs pend KK:=by
 obtain⟨h1,rfl⟩:=Gg hF;exact Kf (fun S'=>Aco hc ho hw hop hcal hfo hx hzs hok.ok) h1 k
theorem P9{b:Bool}(b':Bool)(k:Drv X N ops bs em os (i+1) F' S Hs pend KK)(ho:ops[i]?=some o:=by rfl)(hw:A6 ops F o=some true:=by rfl)(h:∀S',Ec X F S' o.op=some (.val (.bool b)):=by intro;rfl)
 (hF:Py N o.dst (.lit b') F=some F':=by rfl)(hb:b=b':=by rfl):Drv X N ops bs em (o::os) i F S Hs pend KK:=by
 subst hb;obtain⟨h1,rfl⟩:=Gg hF;exact Kf (fun S'=>Avx (Cn ho hw (h S'))) h1 k
theorem Ch(h:Ndo X N ops i o F x S S')(k:Drv X N ops bs em os (i+1) F' S' (S'::Hs) [] KK)(he:em.testBit i=true:=by rfl)(hF:Py N o.dst x F=some F':=by rfl)(hp:pend.filter (fun p=>!bitOf bs p.1 i)=[]:=by kernel_rfl) :
 Drv X N ops bs em (o::os) i F S Hs pend KK:=by
 obtain⟨h1,rfl⟩:=Gg hF;exact Arm h he h1 hp k
theorem B6{k:List Item}{S2:St}(hk:AK X B K F' S2 R)(he:Go.V.ev X B.fn.ntmps 200 k F S=(K,F',S2):=by rfl):Drv X N ops bs em [] i F S Hs pend fun F1 S1=>AK X B k F1 S1 R:=
 Bj 200 he hk
end
def Amk:List AV→Option AV
 |[x]=>some x
 |xs=>some (.tup xs)
theorem Ah5:∀{xs:List AV}{x:AV},Amk xs=some x→C5 xs=x
 |[],x,h=>by simp only[Amk]at h;cases h;rfl
 |[y],x,h=>by simp only[Amk]at h;cases h;rfl
 |y::z::l,x,h=>by simp only[Amk]at h;cases h;rfl
inductive FzL (S:St)(n m:Nat):List AV→List AV→Prop where
 |nil:FzL S n m [] []
 |cons {x y:AV} {l l':List AV} (h:Fz S n m x y) (t:FzL S n m l l'):FzL S n m (x::l) (y::l')
theorem FzL.get{S:St}{n m:Nat}{l l':List AV}(h:FzL S n m l l'):l'.length=l.length∧∀(j:Nat)(x y:AV),l[j]?=some x→l'[j]?=some y→Fz S n m x y:=by
 induction h with
 |nil=>exact⟨rfl,fun j x y h=>by simp at h⟩
 |cons h t ih=>
  refine⟨by simp[ih.1],fun j x y hx hy=>?_⟩;cases j with
  |zero=>simp at hx hy;subst hx;subst hy;exact h
  |succ j=>exact ih.2 j x y (by simpa using hx) (by simpa using hy)
theorem FzL.same{S:St}{n m:Nat}:∀{l:List AV},(∀x,x∈l→Ok n m x)→FzL S n m l l
 |[],_=>.nil
 |x::l,h=>.cons (.same x (h x (by simp))) (FzL.same fun y hy=>h y (by simp[hy]))
inductive FzR (S:St)(n m:Nat):List (List AV)→List (List AV)→Prop where
 |nil:FzR S n m [] []
 |cons {x y:List AV} {l l':List (List AV)} (h:FzL S n m x y) (t:FzR S n m l l'):FzR S n m (x::l) (y::l')
theorem FzR.get{S:St}{n m:Nat}{l l':List (List AV)}(h:FzR S n m l l'):l'.length=l.length∧∀(j:Nat)(x y:List AV),l[j]?=some x→l'[j]?=some y→FzL S n m x y:=by
 induction h with
 |nil=>exact⟨rfl,fun j x y h=>by simp at h⟩
 |cons h t ih=>
  refine⟨by simp[ih.1],fun j x y hx hy=>?_⟩;cases j with
  |zero=>simp at hx hy;subst hx;subst hy;exact h
  |succ j=>exact ih.2 j x y (by simpa using hx) (by simpa using hy)
theorem FzR.same{S:St}{n m:Nat}:∀{l:List (List AV)},He n m l→FzR S n m l l
 |[],_=>.nil
 |x::l,h=>.cons (FzL.same (h x (by simp))) (FzR.same fun y hy=>h y (by simp[hy]))
theorem Azc{S:St}{n m:Nat}{rows rows':List (List AV)}{sp:Sp}(h:FzR S n m rows rows'):Fz S n m (.sl rows sp) (.sl rows' .no):=
 .strip rows rows' sp h.get.1 (fun i r r' h1 h2=>(h.get.2 i r r' h1 h2).get.1) (fun i j r r' x y h1 h2 h3 h4=>(h.get.2 i r r' h1 h2).get.2 j x y h3 h4)
class FzC (S:St)(n m:Nat)(x:AV)(y:outParam AV):Prop where
 s:Fz S n m x y
class FzLC (S:St)(n m:Nat)(x:List AV)(y:outParam (List AV)):Prop where
 s:FzL S n m x y
class FzRC (S:St)(n m:Nat)(x:List (List AV))(y:outParam (List (List AV))):Prop where
 s:FzR S n m x y
section
variable {S:St}{n m:Nat}
instance{v:Value}:FzC S n m (.val v) (.val v):=⟨.same _ (.val v)⟩
instance{rows rows':List (List AV)}{sp:Sp} [h:FzRC S n m rows rows']:FzC S n m (.sl rows sp) (.sl rows' .no):=⟨Azc h.s⟩
instance{l l':List AV} [h:FzLC S n m l l']:FzC S n m (.agg l) (.agg l'):=⟨.agg l l' h.s.get.1 h.s.get.2⟩
instance{l l':List AV} [h:FzLC S n m l l']:FzC S n m (.tup l) (.tup l'):=⟨.tup l l' h.s.get.1 h.s.get.2⟩
instance{f:FuncId}{l:List AV} [h:OKL n m l]:FzC S n m (.fn f l) (.fn f l):=⟨.same _ (.fn f l h.ok)⟩
instance:FzLC S n m [] []:=⟨.nil⟩
instance{x y:AV}{l l':List AV} [h:FzC S n m x y] [t:FzLC S n m l l']:FzLC S n m (x::l) (y::l'):=⟨.cons h.s t.s⟩
instance(priority:=low){l:List AV} [h:OKL n m l]:FzLC S n m l l:=⟨FzL.same h.ok⟩
instance:FzRC S n m [] []:=⟨.nil⟩
instance{x y:List AV}{l l':List (List AV)} [h:FzLC S n m x y] [t:FzRC S n m l l']:FzRC S n m (x::l) (y::l'):=⟨.cons h.s t.s⟩
instance(priority:=low){l:List (List AV)} [h:OKR n m l]:FzRC S n m l l:=⟨FzR.same h.ok⟩
end
section
variable {X:Cx}{B:Bx}{S:St}{F:C3}{R:AE→St→Prop}
theorem Au{f:FuncId}{fn:Func}{r x y:AV}{xs:List AV}{k:List Item}(hf:X.P.funcs[f]?=some fn)(hr:y=r)(h:Md X F S fn.results.toList=some xs:=by rfl)(hx:Amk xs=some x:=by rfl) [hz:FzC S 0 0 x y] :
 AK X ⟨f,fn,0,0⟩ (.code .ret::k) F S fun e S'=>e=.ret r∧S'=⟨[],[]⟩:=by
 subst hr;refine E5 (B:=⟨f,fn,0,0⟩) hf h 0 (Bo _) (by rw[Ah5 hx];exact hz.s) (fun rows hr=>by simp at hr) ⟨rfl,by simp[St.drop]⟩
end
def Ahi:Op→Bool
 |.load ..=>true
 |_=>false
def Aix(X:Cx)(F:C3)(S:St)(op:Op):Option AV:=
 match op with
 |.buildSlice ..=>match Kg X F S op with
  |some (x,_)=>some x
  |none=>none
 |_=>none
def Lk(X:Cx)(N:Nat)(ops:Array Oper)(S:St):Nat→List Oper→Nat→C3→List Jx→List Oper×Nat×C3×List Jx
 |0,os,i,F,p=>(os,i,F,p)
 |_+1,[],i,F,p=>([],i,F,p)
 |n+1,o::os,i,F,p=>match A6 ops F o with
  |some true=>match Ec X F S o.op with
   |some x=>match Py N o.dst x F with
    |some F'=>match Ahi o.op with
     |true=>Lk X N ops S n os (i+1) F' ((i,o,F,x)::p)
     |false=>Lk X N ops S n os (i+1) F' p
    |none=>(o::os,i,F,p)
   |none=>match Aix X F S o.op with
    |some x=>match Py N o.dst x F with
     |some F'=>Lk X N ops S n os (i+1) F' p
     |none=>(o::os,i,F,p)
    |none=>(o::os,i,F,p)
  |some false=>match Py N o.dst (.val (.tuple #[])) F with
   |some F'=>Lk X N ops S n os (i+1) F' p
   |none=>(o::os,i,F,p)
  |none=>(o::os,i,F,p)
theorem R2{X:Cx}{F:C3}{S S':St}{op:Op}(h:Ahi op=false):Ec X F S op=Ec X F S' op:=by
 cases op<;>first|rfl|(simp[Ahi]at h;done)|skip
 case pick c a b=>cases c<;>rfl
 case makeFunc f a b=>cases f<;>rfl
 case indexAddr t x y=>
  cases y with
  |const c=>cases c<;>rfl
  |_=>rfl
theorem R1{X:Cx}{F:C3}{S:St}{op:Op}{x:AV}(h:Aix X F S op=some x):∀bx tk,Kg X F ⟨bx,tk⟩ op=some (x,⟨bx,tk⟩):=by
 intro bx tk;cases op<;>first|(simp[Aix]at h;done)|skip
 case buildSlice t n ps=>
  simp only[Aix,Kg]at h⊢;split at h
  ·rename_i x' S' hm;cases h;split at hm
   ·rename_i y hy;split at hm
    ·rename_i e he;split at hm
     ·rename_i ye hye;split at hm
      ·rename_i hb;split at hm
       ·rename_i a ha;cases hm;rfl
       ·cases hm
      ·cases hm
     ·cases hm
    ·cases hm
   ·cases hm
  ·cases h
section
variable {X:Cx}{B:Bx}{S S':St}{F:C3}{R:AE→St→Prop}{ops:Array Oper}{N:Nat}{bs:List Nat}{em:Nat}{KK:C3→St→Prop}
theorem P7:∀(n:Nat)(os:List Oper)(i:Nat)(F:C3)(pend:List Jx),ops.toList.drop i=os →
 Drv X N ops bs em (Lk X N ops S n os i F pend).1 (Lk X N ops S n os i F pend).2.1 (Lk X N ops S n os i F pend).2.2.1 S [S] (Lk X N ops S n os i F pend).2.2.2 KK→Drv X N ops bs em os i F S [S] pend KK
 |0,os,i,F,p,_,h=>h
 |n+1,[],i,F,p,_,h=>h
 |n+1,o::os,i,F,p,hos,h=>by
  have ho:ops[i]?=some o:=by
   have:(ops.toList.drop i)[0]?=some o:=by rw[hos];rfl
   rw[Ny]at this;simpa using this
  have hos':ops.toList.drop (i+1)=os:=by
   have:(ops.toList.drop i).drop 1=os:=by rw[hos];rfl
   rw[Ad7]at this;exact this
  unfold Lk at h;split at h
  ·rename_i hw;split at h
   ·rename_i x hx;split at h
    ·rename_i F' hF;obtain⟨h1,rfl⟩:=Gg hF;split at h
     ·exact Aem ho hw hx h1 (P7 n os (i+1) _ _ hos' h)
     ·rename_i hl;exact Ako ho hw (fun S'=>by rw[R2 hl];exact hx) h1 (P7 n os (i+1) _ _ hos' h)
    ·exact h
   ·split at h
    ·rename_i x hx;split at h
     ·rename_i F' hF;obtain⟨h1,rfl⟩:=Gg hF;exact Agl ho hw (R1 hx) h1 (P7 n os (i+1) _ _ hos' h)
     ·exact h
    ·exact h
  ·rename_i hw;split at h
   ·rename_i F' hF;obtain⟨h1,rfl⟩:=Gg hF;exact Kf (fun S'=>X4 ho hw) h1 (P7 n os (i+1) _ _ hos' h)
   ·exact h
  ·exact h
theorem Ft{os os':List Oper}{i i':Nat}{F':C3}{pend pend':List Jx}(k:Drv X N ops bs em os' i' F' S [S] pend' KK)(h:Lk X N ops S 100 os i F pend=(os',i',F',pend'):=by rfl)(hos:ops.toList.drop i=os:=by rfl) :
 Drv X N ops bs em os i F S [S] pend KK:=
 P7 100 os i F pend hos (by rw[h];exact k)
theorem My{os os':List Oper}{i i':Nat}{F':C3}{pend pend':List Jx}(n:Nat)(k:Drv X N ops bs em os' i' F' S [S] pend' KK)(h:Lk X N ops S n os i F pend=(os',i',F',pend'):=by rfl)(hos:ops.toList.drop i=os:=by rfl) :
 Drv X N ops bs em os i F S [S] pend KK:=
 P7 n os i F pend hos (by rw[h];exact k)
theorem Hu{id i':Nat}{k:List Item}{os':List Oper}{F':C3}{pend':List Jx}(em n:Nat)(hk:Drv X B.fn.ntmps ops (Ip ops.toList []) em os' i' F' S [S] pend' fun F1 S1=>AK X B k F1 S1 R)
 (hst:Rz ops (Ip ops.toList []) em=true:=by kernel_rfl)(h:Lk X B.fn.ntmps ops S n ops.toList 0 F []=(os',i',F',pend'):=by rfl):AK X B (.code (.region id ops true)::k) F S R:=
 C8 em hst (My n hk h)
theorem Hd{i:Nat}{o:Oper}{c:Call}{fo:Operand}{f:FuncId}{caps xs zs ys:List AV}{r y:AV}{bx1 bx2 bxc bx3:List (List (List AV))}{tkc tk1:List Nat}
 (σ τ:List Nat)(hc:Hands X f ys ⟨bxc,tkc⟩ y ⟨bx1,tk1⟩)(ho:ops[i]?=some o:=by rfl)(hw:A6 ops F o=some true:=by rfl)(hop:o.op=.call c:=by rfl)(hcal:c.callee=.value fo:=by rfl)
 (hfo:Dt X F fo=some (.fn f caps):=by rfl)(hx:Hk X F c.args.toList=some xs:=by rfl)(hzs:Kb xs caps=some zs:=by rfl)(hσ:Kc σ=true:=by rfl)(hτ:Kc τ=true:=by rfl)
 (hσl:(σ.all fun i=>Nat.blt i S.boxes.length)=true:=by rfl)(hτl:(τ.all fun t=>Nat.blt t S.toks.length)=true:=by rfl)(hsb:Aeg σ S.boxes=some bx2:=by rfl) [hb:RinB σ τ bx2 bxc]
 (ht:τ.map (fun t=>S.toks.getD t 0)=tkc:=by rfl) [ha:RinL σ τ zs ys](hb1:bx1.length=σ.length:=by rfl)(ht1:Nat.ble τ.length tk1.length=true:=by rfl){τ':List Nat}
 (hτ':H0 τ S.toks.length (tk1.length-τ.length)=τ':=by rfl) [hR:RoutB σ τ' bx3 bx1] [hr:RoutC σ τ' r y](hS':St.mk (upd S.boxes σ bx3) (upd S.toks τ tk1++tk1.drop τ.length)=S':=by rfl) :
 Ndo X N ops i o F r S S':=
 Vd σ τ hc ho hw hop hcal hfo hx hzs hσ hτ hσl hτl hsb ht hb1 ht1 hτ' hS'
theorem Dx{os:List Oper}{i:Nat}{o:Oper}{x:AV}{F':C3}{Hs:List St}{pend:List Jx}(h:Ndo X N ops i o F x S S')(hr:∀p,p∈pend→Ndo X N ops p.1 p.2.1 p.2.2.1 p.2.2.2 S' S')
 (k:Drv X N ops bs em os (i+1) F' S' (S'::Hs) (pend.filter fun p=>!bitOf bs p.1 i) KK)(he:em.testBit i=true:=by rfl)(hF:Py N o.dst x F=some F':=by rfl):Drv X N ops bs em (o::os) i F S Hs pend KK:=by
 obtain⟨h1,rfl⟩:=Gg hF;exact Am4 h he h1 rfl (fun p hp=>hr p (zzq58.1 hp).1) k
theorem A0{os:List Oper}{i:Nat}{o:Oper}{x:AV}{F':C3}{pend:List Jx}(h:Ndo X N ops i o F x S S)(k:Drv X N ops bs em os (i+1) F' S [S] ((i,o,F,x)::pend) KK)(hF:Py N o.dst x F=some F':=by rfl) :
 Drv X N ops bs em (o::os) i F S [S] pend KK:=by
 obtain⟨h1,rfl⟩:=Gg hF;exact P6 (An h G0) h1 k
theorem Amz{id i':Nat}{k K:List Item}{F' F2:C3}{S2:St}{pend':List Jx}(hk:AK X B K F2 S2 R)(hst:Rz ops (Ip ops.toList []) 0=true:=by kernel_rfl)(h:Lk X B.fn.ntmps ops S 100 ops.toList 0 F []=([],i',F',pend'):=by rfl)
 (he:Go.V.ev X B.fn.ntmps 200 k F' S=(K,F2,S2):=by rfl):AK X B (.code (.region id ops true)::k) F S R:=
 C8 0 hst (Ft (os':=[]) (Arl (Bj 200 he hk)) h)
theorem D8{id i':Nat}{k:List Item}{os':List Oper}{F':C3}{pend':List Jx}(em:Nat)(hk:Drv X B.fn.ntmps ops (Ip ops.toList []) em os' i' F' S [S] pend' fun F1 S1=>AK X B k F1 S1 R)
 (hst:Rz ops (Ip ops.toList []) em=true:=by kernel_rfl)(h:Lk X B.fn.ntmps ops S 100 ops.toList 0 F []=(os',i',F',pend'):=by rfl):AK X B (.code (.region id ops true)::k) F S R:=
 C8 em hst (Ft hk h)
theorem Br{f:FuncId}{fn:Func}{n m:Nat}{bx:List (List (List AV))}{tk:List Nat}{r x y:AV}{xs:List AV}{k:List Item}(hf:X.P.funcs[f]?=some fn)(hr:y=r)(hS:S.drop n tk.length=⟨bx,tk⟩)
 (h:Md X F S fn.results.toList=some xs:=by rfl)(hx:Amk xs=some x:=by rfl)(hm:Nat.ble m tk.length=true:=by rfl) [hz:FzC S n tk.length x y] [hbox:OKB n tk.length bx] :
 AK X ⟨f,fn,n,m⟩ (.code .ret::k) F S fun e S'=>e=.ret r∧S'=⟨bx,tk⟩:=by
 subst hr;refine E5 (B:=⟨f,fn,n,m⟩) hf h tk.length (I7 hm) (by rw[Ah5 hx];exact hz.s) ?_ ⟨rfl,hS⟩;have:S.boxes.take n=bx:=by have:=congrArg St.boxes hS;exact this
 show ∀rows,rows∈S.boxes.take n→He n tk.length rows;rw[this];exact hbox.ok
theorem D6{f:FuncId}{fn:Func}{n m:Nat}{bx:List (List (List AV))}{tk:List Nat}{r x y:AV}{xs:List AV}(hf:X.P.funcs[f]?=some fn)(hr:y=r)(hS:S.drop n tk.length=⟨bx,tk⟩)
 (h:Md X F S fn.results.toList=some xs:=by rfl)(hx:Amk xs=some x:=by rfl)(hm:Nat.ble m tk.length=true:=by rfl) [hz:FzC S n tk.length x y] [hbox:OKB n tk.length bx] :
 AK X ⟨f,fn,n,m⟩ [] F S fun e S'=>e=.ret r∧S'=⟨bx,tk⟩:=by
 subst hr;refine Am0 (B:=⟨f,fn,n,m⟩) hf h tk.length (I7 hm) (by rw[Ah5 hx];exact hz.s) ?_ ⟨rfl,hS⟩;have:S.boxes.take n=bx:=by have:=congrArg St.boxes hS;exact this
 show ∀rows,rows∈S.boxes.take n→He n tk.length rows;rw[this];exact hbox.ok
theorem Hands.run{f:FuncId}{fn:Func}{c:Code}{args:List AV}{r:AV}{bx bx':List (List (List AV))}{tk tk':List Nat}{n m:Nat}{K:List Item}{F':C3}{S2:St}(hf:X.P.funcs[f]?=some fn)
 (h:AK X ⟨f,fn,n,m⟩ K F' S2 fun e S=>e=.ret r∧S=⟨bx',tk'⟩)(hb:fn.body=some c:=by rfl)(hl:Nat.ble args.length fn.ntmps=true:=by rfl)(hnm:(fn.name == "runtime.NumGoroutine")=false:=by kernel_rfl)
 (hn:Aac bx=n:=by rfl)(hm:tk.length=m:=by rfl)(he:Go.V.ev X fn.ntmps 200 [.code c] (Oq 0 args) ⟨bx,tk⟩=(K,F',S2):=by rfl):Hands X f args ⟨bx,tk⟩ r ⟨bx',tk'⟩:=
 Hands.mk hf hb hl hnm (by rw[←Jz];exact hn) hm (Bj 200 he h)
theorem Ae{i:Nat}{l:List Nat}{k:List Item}{o:Oper}{c:Call}{fo:Operand}{f:FuncId}{caps xs zs ys:List AV}{r y:AV}{bx1 bx2 bxc bx3:List (List (List AV))}{tkc tk1:List Nat}{K:List Item}{F':C3}{S2:St}
 (σ τ:List Nat)(hc:Hands X f ys ⟨bxc,tkc⟩ y ⟨bx1,tk1⟩)(hk:AK X B K F' S2 R)(ho:ops[i]?=some o:=by rfl)(hw:A6 ops F o=some true:=by rfl)(hop:o.op=.call c:=by rfl)(hcal:c.callee=.value fo:=by rfl)
 (hfo:Dt X F fo=some (.fn f caps):=by rfl)(hx:Hk X F c.args.toList=some xs:=by rfl)(hzs:Kb xs caps=some zs:=by rfl)(hσ:Kc σ=true:=by rfl)(hτ:Kc τ=true:=by rfl)
 (hσl:(σ.all fun i=>Nat.blt i S.boxes.length)=true:=by rfl)(hτl:(τ.all fun t=>Nat.blt t S.toks.length)=true:=by rfl)(hsb:Aeg σ S.boxes=some bx2:=by rfl) [hb:RinB σ τ bx2 bxc]
 (ht:τ.map (fun t=>S.toks.getD t 0)=tkc:=by rfl) [ha:RinL σ τ zs ys](hb1:bx1.length=σ.length:=by rfl)(ht1:Nat.ble τ.length tk1.length=true:=by rfl){τ':List Nat}
 (hτ':H0 τ S.toks.length (tk1.length-τ.length)=τ':=by rfl) [hR:RoutB σ τ' bx3 bx1] [hr:RoutC σ τ' r y](hS':St.mk (upd S.boxes σ bx3) (upd S.toks τ tk1++tk1.drop τ.length)=S':=by rfl)
 (hd:D1 B.fn.ntmps o.dst=true:=by rfl)(he:Go.V.ev X B.fn.ntmps 200 (.inRegion ops l::k) (putF o.dst r F) S'=(K,F',S2):=by rfl):AK X B (.inRegion ops (i::l)::k) F S R:=
 G9 (Vd σ τ hc ho hw hop hcal hfo hx hzs hσ hτ hσl hτl hsb ht hb1 ht1 hτ' hS') ho hd (Bj 200 he hk)
end
section
variable {X:Cx}{B:Bx}{E:Env}{S:St}{w:World}{F:C3}{R:AE→St→Prop}
theorem Inv.mintB(hI:Inv X E S w){b r j:Nat}{rows:List (List AV)}{cs:List AV}{sl:List (List AV)}(hb:S.boxes[b]?=some rows)(hr:rows[r]?=some cs)(hc:cs[j]?=some (.sl sl .tight)) :
 Inv X (E.mint sl.length) ⟨S.boxes.set b (rows.set r (cs.set j (.sl sl (.tok S.toks.length)))),S.toks++[sl.length]⟩ w:=by
 have h:=hI.mint sl.length;exact{ h with
  nb:=by have:=h.nb;simpa using this
  box:=fun i blk sz rows' h1 h2=>by
   rcases Ep h2 with⟨rfl,rfl⟩|⟨_,h2⟩
   ·obtain⟨arr,e,hh,hs,hl,hrel⟩:=hI.box i blk sz rows h1 hb;refine⟨arr,e,hh,by simpa using hs,fun q hq=>?_,fun k q p x v hk hp hv=>?_⟩
    ·rcases Wr hq with hq|rfl
     ·exact hl q hq
     ·simpa using hl cs (Bh hr)
    ·rcases Ep hk with⟨rfl,rfl⟩|⟨_,hk⟩
     ·rcases Ep hp with⟨rfl,rfl⟩|⟨_,hp⟩
      ·exact Rel.mint hI (hrel k cs p _ v hr hc hv)
      ·exact(hrel k cs p x v hr hp hv).step (L1 E w sl.length)
     ·exact(hrel k q p x v hk hp hv).step (L1 E w sl.length)
   ·exact h.box i blk sz rows' h1 h2 }
theorem Ej{K:List Item}(b r j:Nat){m:Nat}{rows:List (List AV)}{cs:List AV}{sl:List (List AV)}{bx:List (List (List AV))}{tk:List Nat}(hb:S.boxes[b]?=some rows)(hr:rows[r]?=some cs)
 (hc:cs[j]?=some (.sl sl .tight))(hn:S.toks.length=m)(hbx:S.boxes.set b (rows.set r (cs.set j (.sl sl (.tok m))))=bx)(htk:S.toks++[sl.length]=tk)(hk:AK X B K F ⟨bx,tk⟩ R):AK X B K F S R:=by
 subst hn;subst hbx;subst htk;intro E w a b' cs' hI hF hn hm hb';have ev:=L1 E w sl.length;have nt:E.toks.length=S.toks.length:=by rw[←hI.nt];simp
 exact Fin.from (Steps.refl _ _) (ev.weaken (by rw[hI.nb];exact hn) (by omega)) (hk (E.mint sl.length) w a b' cs' (hI.mintB hb hr hc) (hF.mint sl.length) (by simpa using hn) (by simp;omega) hb')
end
section
variable {X:Cx}{B:Bx}{S S':St}{F:C3}{N:Nat}{R:AE→St→Prop}{ops:Array Oper}{i:Nat}{o:Oper}{x y:AV}
theorem Ren.less{E:Env}{w:World}{v:Value}(h:Ren true [] [] x y)(hv:Rel E w v x):Rel E w v y:=
 h.fwd (fun _ _ h=>h) (fun _ _ _ h=>by simp at h) (fun _ _ _ h=>by simp at h) hv
theorem Ak1(h:Ndo X N ops i o F x S S') [hw:RinC [] [] x y]:Ndo X N ops i o F y S S':=by
 intro F' E w a hl hI hF b k cs rest;obtain⟨v,w',⟨E',h1,h2,h3⟩,h4⟩:=h F' E w a hl hI hF b k cs rest;exact⟨v,w',⟨E',h1,h2,hw.s.less h3⟩,h4⟩
theorem Aii{K:List Item}(d:Nat)(hk:AK X B K ((d,y)::F) S R)(hx:lk F d=some x:=by rfl) [hw:RinC [] [] x y]:AK X B K F S R:=by
 intro E w a b cs hI hF hn hm hb;refine hk E w a b cs hI ⟨hF.size,hF.nod,fun k z hz=>?_⟩ hn hm hb;rw[J1]at hz;split at hz
 ·rename_i he;subst he;cases hz;obtain⟨v,h1,h2⟩:=hF.rel _ _ hx;exact⟨v,h1,hw.s.less h2⟩
 ·exact hF.rel k z hz
end
section
variable {X:Cx}{B:Bx}{E:Env}{S S':St}{w:World}{F:C3}{a:Act}{N:Nat}{R:AE→St→Prop}{ops:Array Oper}{i:Nat}{o:Oper}
def Thr(X:Cx)(N:Nat)(ops:Array Oper)(i:Nat)(o:Oper)(F:C3)(S:St)(ch:List PanicEntry)(S':St):Prop:=
 ∀(F':C3) (E:Env) (w:World) (a:Act),(∀t,t∈o.looksAt ops→lk F' t=lk F t)→Inv X E S w→FR E w F' a N →
  ∀(b:Frame) (k:List Item) (cs:List Frame) (rest:List Nat),∃E' w' fr,Inv X E' S' w'∧Evol E w E' w' E.boxes.length E.toks.length∧fr.fn=b.fn∧fr.mode=.panicking ch∧fr.defers=a.defers∧fr.tmps=a.tmps∧fr.kind=b.kind ∧
   Steps X.P (lone (b.at a (.inRegion ops (i::rest)::k)) cs w) (lone fr cs w')
theorem Aez{K:List Item}(hf:X.P.funcs[B.f]?=some B.fn){ch:List PanicEntry}(m:Nat)(hm:B.m≤m)(hbox:∀rows,rows∈S'.boxes.take B.n→He B.n m rows)(hR:R (.panic ch) (S'.drop B.n m))
 (h:∀(E:Env)(w:World)(a:Act)(b:Frame)(cs:List Frame),Inv X E S w→FR E w F a B.fn.ntmps→b.fn=B.f→∃E' w' fr,Inv X E' S' w'∧Evol E w E' w' E.boxes.length E.toks.length∧fr.fn=b.fn∧fr.mode=.panicking ch ∧
   fr.defers=a.defers∧Steps X.P (lone (b.at a K) cs w) (lone fr cs w')):AK X B K F S R:=by
 intro E w a b cs hI hF hn hm' hb;obtain⟨E',w',fr,h1,h2,h3,h4,h5,h6⟩:=h E w a b cs hI hF hb;have nt:E.toks.length=S.toks.length:=by rw[←hI.nt];simp
 refine .inl ⟨.panicked ch,w',fr,⟨E'.drop B.n m,S'.drop B.n m,h1.drop hbox,(h2.weaken (by rw[hI.nb];exact hn) (by omega)).trans ((Evol.drop E' w' B.n m).weaken (Bo _) hm),hR⟩,h6,h3.trans hb,h4,h5.trans hF.nod,B.fn,?_⟩;rw[h3,hb];exact hf
theorem Ark{l:List Nat}{k:List Item}(hf:X.P.funcs[B.f]?=some B.fn){ch:List PanicEntry}(h:Thr X B.fn.ntmps ops i o F S ch S')(m:Nat)(hm:B.m≤m)
 (hbox:∀rows,rows∈S'.boxes.take B.n→He B.n m rows)(hR:R (.panic ch) (S'.drop B.n m)):AK X B (.inRegion ops (i::l)::k) F S R:=
 Aez hf m hm hbox hR fun E w a b cs hI hF _=>by
  obtain⟨E',w',fr,h1,h2,h3,h4,h5,_,_,h6⟩:=h F E w a (fun _ _=>rfl) hI hF b k cs l;exact⟨E',w',fr,h1,h2,h3,h4,h5,h6⟩
def Throws(X:Cx)(f:FuncId)(args:List AV)(S:St)(ch:List PanicEntry)(S1:St):Prop:=
 Nq X.P f∧ACalls X f args S fun e S'=>e=.panic ch∧S'=S1
theorem Thr.hand{c:Call}{fo:Operand}{f:FuncId}{caps xs zs ys:List AV}{ch:List PanicEntry}{Sc:St}{bx1 bx2:List (List (List AV))}{tk1:List Nat}
 (hE:Nq X.P f)(hc:ACalls X f ys Sc fun e S1=>e=.panic ch∧S1=⟨bx1,tk1⟩)(σ τ:List Nat)(ho:ops[i]?=some o)(hw:A6 ops F o=some true)(hop:o.op=.call c)(hcal:c.callee=.value fo)
 (hfo:Dt X F fo=some (.fn f caps))(hx:Hk X F c.args.toList=some xs)(hzs:xs++caps=zs)(hσ:σ.Nodup)(hτ:τ.Nodup)(hσl:∀i,i∈σ→i<S.boxes.length)(hτl:∀t,t∈τ→t<S.toks.length)
 (hsb:σ.map (fun i=>S.boxes.getD i [])=bx2){bxc:List (List (List AV))}(hb:RenB true σ τ bx2 bxc)(ht:τ.map (fun t=>S.toks.getD t 0)=Sc.toks)(hSc:Sc.boxes=bxc)(ha:RenL true σ τ zs ys)
 (hb1:bx1.length=σ.length)(ht1:τ.length≤tk1.length){bx3:List (List (List AV))}(hR:RenB false σ (H0 τ S.toks.length (tk1.length-τ.length)) bx3 bx1)
 (hS':St.mk (upd S.boxes σ bx3) (upd S.toks τ tk1++tk1.drop τ.length)=S'):Thr X N ops i o F S ch S':=by
 subst hS';subst hzs;subst hsb;subst hSc;intro F' E w a hl hI hF b k cs rest;have nt:E.toks.length=S.toks.length:=by rw[←hI.nt];simp
 have hτl':∀t,t∈τ→t<E.toks.length:=fun t h=>by rw[nt];exact hτl t h
 obtain⟨l1,l2⟩:=Rt (X:=X) hop hcal hl;obtain⟨vs,h1,h2,h3⟩:=Qg hop hcal hE hI hF (l1.trans hfo) (l2.trans hx);have hsl:Sc.boxes.length=σ.length:=by have:=hb.get.1;simpa using this
 have htl:Sc.toks.length=τ.length:=by rw[←ht];simp
 have hcalls:=hc (E.sub σ τ) w vs rfl (hI.sub hσ hτ hτl' hb hσl ht) (by rw[h2,ha.get.1]) (fun j v y hv hy=>by
  obtain⟨x,hx⟩:=Ab (xs++caps) (i:=j) (by have:=Aa hy;rw[ha.get.1]at this;exact this);exact(ha.get.2 j x y hx hy).fwd (fun b o=>Sz hτl') (fun i j q h1 h2=>I2.2 ⟨i,h1,h2⟩) (fun i j k h1 h2=>(J3 hτl').2 ⟨i,h1,h2⟩) (h3 j v x hv hx))
 have hg:=stepG_op (P:=X.P) (b:=b) (k:=k) (cs:=cs) (w:=w) (rest:=rest) ho (Cm hF (by rw[Cw hl];exact hw));obtain⟨e,w',fr,⟨E1,S1,d1,d2,d3⟩,h6,_,h8⟩:=hcalls (b.at a (.inRegion ops (i::rest)::k)::cs);rw[hsl,htl]at d2;have henter:Go.step X.P (lone (b.at a (.inRegion ops (i::rest)::k)) cs w) =
  .next (lone (Frame.enter X.P f vs .normal) (b.at a (.inRegion ops (i::rest)::k)::cs) w):=
  step_lone_go (by rw[hg];simp[stepG.apply,h1,Frame.at])
 cases e with
 |returned v=>obtain⟨r',_,h,_⟩:=d3;cases h
 |outgrown=>exact d3.elim
 |panicked ch'=>
  obtain⟨h,rfl⟩:=d3;cases h;obtain⟨b1,b2,_⟩:=Anb hI d1 d2 hσ hτ hσl hτl' hb1 ht1 hR;exact⟨E.back E1 τ,w',(b.at a (.inRegion ops (i::rest)::k)).raise ch,b2,b1,rfl,rfl,rfl,rfl,rfl,.head henter (Steps.trans h6 (.one (step_leave_panicked h8)))⟩
theorem Thr.hd{c:Call}{fo:Operand}{f:FuncId}{caps xs zs ys:List AV}{ch:List PanicEntry}{bx1 bx2 bxc bx3:List (List (List AV))}{tkc tk1:List Nat}
 (σ τ:List Nat)(hc:Throws X f ys ⟨bxc,tkc⟩ ch ⟨bx1,tk1⟩)(ho:ops[i]?=some o:=by rfl)(hw:A6 ops F o=some true:=by rfl)(hop:o.op=.call c:=by rfl)(hcal:c.callee=.value fo:=by rfl)
 (hfo:Dt X F fo=some (.fn f caps):=by rfl)(hx:Hk X F c.args.toList=some xs:=by rfl)(hzs:Kb xs caps=some zs:=by rfl)(hσ:Kc σ=true:=by rfl)(hτ:Kc τ=true:=by rfl)
 (hσl:(σ.all fun i=>Nat.blt i S.boxes.length)=true:=by rfl)(hτl:(τ.all fun t=>Nat.blt t S.toks.length)=true:=by rfl)(hsb:Aeg σ S.boxes=some bx2:=by rfl) [hb:RinB σ τ bx2 bxc]
 (ht:τ.map (fun t=>S.toks.getD t 0)=tkc:=by rfl) [ha:RinL σ τ zs ys](hb1:bx1.length=σ.length:=by rfl)(ht1:Nat.ble τ.length tk1.length=true:=by rfl){τ':List Nat}
 (hτ':H0 τ S.toks.length (tk1.length-τ.length)=τ':=by rfl) [hR:RoutB σ τ' bx3 bx1](hS':St.mk (upd S.boxes σ bx3) (upd S.toks τ tk1++tk1.drop τ.length)=S':=by rfl) :
 Thr X N ops i o F S ch S':=by
 subst hτ';exact Thr.hand hc.1 hc.2 σ τ ho hw hop hcal hfo hx (Ru hzs) (Od hσ) (Od hτ) (Ags hσl) (Ags hτl) (Ahc [] hsb) hb.s ht rfl ha.s hb1 (I7 ht1) hR.s hS'
theorem Thr.go{p:Operand}{t:TypeId}{v:Value}(ho:ops[i]?=some o:=by rfl)(hw:A6 ops F o=some true:=by rfl)(hop:o.op=.panic p:=by rfl)(hp:Dt X F p=some (.val (.iface t v)):=by rfl) :
 Thr X N ops i o F S [{ v:=.iface t v,recovered:=false }] S:=by
 intro F' E w a hl hI hF b k cs rest;have h1:=Ak hI hF (o:=p) (x:=.val (.iface t v)) (by
  have:=Gs hl;rw[hop]at this;rw[←hp];exact Di fun q hq=>this q (by simp[Op.operands,hq]))
 have hg:=stepG_op (P:=X.P) (b:=b) (k:=k) (cs:=cs) (w:=w) (rest:=rest) ho (Cm hF (by rw[Cw hl];exact hw));have hv:a.eval p=.iface t v:=by
  generalize a.eval p=u at h1;cases h1;rfl
 have hr:(execOp a.eval o).run X.P w=.halt (.panic (.iface t v)) w:=by
  simp[execOp,hop,hv,Instr.panic,goPanic]
 refine⟨E,w,(b.at a (.inRegion ops (i::rest)::k)).raise [{ v:=.iface t v,recovered:=false }],hI,Evol.refl _ _ _ _,rfl,rfl,rfl,rfl,rfl,.one (step_lone_go ?_)⟩;rw[hg];simp[stepG.apply,hr]
theorem Throws.run{f:FuncId}{fn:Func}{c:Code}{args:List AV}{ch:List PanicEntry}{bx bx':List (List (List AV))}{tk tk':List Nat}{n m:Nat}{K:List Item}{F':C3}{S2:St}(hf:X.P.funcs[f]?=some fn)
 (h:AK X ⟨f,fn,n,m⟩ K F' S2 fun e S=>e=.panic ch∧S=⟨bx',tk'⟩)(hb:fn.body=some c:=by rfl)(hl:Nat.ble args.length fn.ntmps=true:=by rfl)(hnm:(fn.name == "runtime.NumGoroutine")=false:=by kernel_rfl)
 (hn:Aac bx=n:=by rfl)(hm:tk.length=m:=by rfl)(he:Go.V.ev X fn.ntmps 200 [.code c] (Oq 0 args) ⟨bx,tk⟩=(K,F',S2):=by rfl):Throws X f args ⟨bx,tk⟩ ch ⟨bx',tk'⟩:=
 ⟨⟨fn,hf,hnm,by rw[hb];rfl⟩,Jn hf hb hl (by rw[←Jz];exact hn) hm (Bj 200 he h)⟩
theorem Fp{f:FuncId}{fn:Func}{n m:Nat}{ch:List PanicEntry}{bx:List (List (List AV))}{tk:List Nat}{l:List Nat}{k:List Item}(hf:X.P.funcs[f]?=some fn)(h:Thr X fn.ntmps ops i o F S ch S')
 (hS:S'.drop n tk.length=⟨bx,tk⟩)(hm:Nat.ble m tk.length=true:=by rfl) [hbox:OKB n tk.length bx] :
 AK X ⟨f,fn,n,m⟩ (.inRegion ops (i::l)::k) F S fun e S'=>e=.panic ch∧S'=⟨bx,tk⟩:=by
 refine Ark (B:=⟨f,fn,n,m⟩) hf h tk.length (I7 hm) ?_ ⟨rfl,hS⟩;have:S'.boxes.take n=bx:=by have:=congrArg St.boxes hS;exact this
 show ∀rows,rows∈S'.boxes.take n→He n tk.length rows;rw[this];exact hbox.ok
end
end Go.V
