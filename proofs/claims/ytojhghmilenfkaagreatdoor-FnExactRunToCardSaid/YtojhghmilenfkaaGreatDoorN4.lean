/- A part of the proof of the claim that the last text states: no condition of its own. -/
import Derived.Test.YtojhghmilenfkaaGreatDoorN3
set_option linter.unusedVariables false
set_option linter.unusedSimpArgs false
namespace Go.V
open Go
section
variable {X:Cx}{B:Bx}{E E1:Env}{S S1:St}{w w':World}{F:C5}{a:Act}{N:Nat}{R:AE→St→Prop}{σ τ:List Nat}
def Env.back(E E1:Env)(τ:List Nat):Env:=⟨E.boxes,upd E.toks τ E1.toks++E1.toks.drop τ.length,E.fr,E.df⟩
def H2(τ:List Nat)(m k:Nat):List Nat:=τ++(List.range k).map (·+m)
theorem Asp(hτ:τ.Nodup)(hτl:∀t,t∈τ→t<E.toks.length)(hl:τ.length≤E1.toks.length){t:Nat}{k:Tk} :
 (E.back E1 τ).toks[t]?=some k↔(t∉τ∧E.toks[t]?=some k)∨∃j:Nat,((H2 τ E.toks.length (E1.toks.length-τ.length)):List Nat)[j]?=some t∧E1.toks[j]?=some k:=by
 have hlen:=Acg E.toks τ E1.toks;constructor
 ·intro h;simp only[Env.back]at h;rcases Gs t E.toks.length with ht|ht
  ·rw[Cs (by omega)]at h;by_cases hm:t∈τ
   ·obtain⟨j,hj⟩:=Bs hm;have hjl:=Aa hj;rw[Aio _ _ _ j t hτ hj ht (by omega)]at h;refine .inr ⟨j,?_,h⟩;simp only[H2];rw[Cs hjl];exact hj
   ·rw[Y6 _ _ _ _ hm]at h;exact .inl ⟨hm,h⟩
  ·rw[Gk (by omega),hlen,Nz]at h;refine .inr ⟨τ.length+(t-E.toks.length),?_,h⟩;have:=Aa h;simp only[H2];rw[Gk (by omega),Gl,Abn (by omega)];simp;omega
 ·rintro(⟨hm,h⟩|⟨j,hj,h⟩)
  ·simp only[Env.back];rw[Cs (by rw[hlen];exact Aa h),Y6 _ _ _ _ hm];exact h
  ·simp only[Env.back,H2]at hj⊢;rcases Gs j τ.length with hjl|hjl
   ·rw[Cs hjl]at hj;have ht:=hτl t (Bh hj);rw[Cs (by omega),Aio _ _ _ j t hτ hj ht (by omega)];exact h
   ·rw[Gk hjl,Gl]at hj;have hlt:=Aa h;rw[Abn (by omega)]at hj;simp only[Lk,Option.some.injEq]at hj;rw[Gk (by omega),hlen,Nz];rw[show τ.length+(t-E.toks.length)=j by omega];exact h
theorem Am9(hτ:τ.Nodup){m k:Nat}(hτl:∀t,t∈τ→t<m){i j t:Nat}(hi:(H2 τ m k)[i]?=some t)(hj:(H2 τ m k)[j]?=some t):i=j:=by
 have key:∀{i t:Nat},(H2 τ m k)[i]?=some t→(i<τ.length∧τ[i]?=some t)∨(τ.length≤i∧t=i-τ.length+m):=fun{i t} h=>by
  simp only[H2]at h;rcases Gs i τ.length with hl|hl
  ·rw[Cs hl]at h;exact .inl ⟨hl,h⟩
  ·rw[Gk hl,Gl]at h;have hlt:i-τ.length<k:=by
    rcases Gs (i-τ.length) k with h'|h'
    ·exact h'
    ·rw[U9 (by simpa using h')]at h;simp at h
   rw[Abn hlt]at h;simp only[Lk,Option.some.injEq]at h;exact .inr ⟨hl,h.symm⟩
 rcases key hi with⟨h1,h2⟩|⟨h1,h2⟩<;>rcases key hj with⟨h3,h4⟩|⟨h3,h4⟩
 ·exact Aaf hτ h2 h4
 ·have:=hτl t (Bh h2);omega
 ·have:=hτl t (Bh h4);omega
 ·omega
theorem Anm(hI:Inv X E S w)(hI1:Inv X E1 S1 w')(ev:Evol (E.sub σ τ) w E1 w' σ.length τ.length)(hσ:σ.Nodup)(hτ:τ.Nodup)(hσl:∀i,i∈σ→i<S.boxes.length)(hτl:∀t,t∈τ→t<E.toks.length)
 (hb1:S1.boxes.length=σ.length)(ht1:τ.length≤S1.toks.length){bx2:List (List (List AV))}(hR:RenB false σ (H2 τ S.toks.length (S1.toks.length-τ.length)) bx2 S1.boxes) :
 Evol E w (E.back E1 τ) w' E.boxes.length E.toks.length∧Inv X (E.back E1 τ) ⟨upd S.boxes σ bx2,upd S.toks τ S1.toks++S1.toks.drop τ.length⟩ w' ∧
  ∀{x y:AV} {v:Value},Ren false σ (H2 τ S.toks.length (S1.toks.length-τ.length)) x y→Rel E1 w' v y→Rel (E.back E1 τ) w' v x:=by
 have nt:E.toks.length=S.toks.length:=by rw[←hI.nt];simp
 have nt1:E1.toks.length=S1.toks.length:=by rw[←hI1.nt];simp
 have nb1:E1.boxes.length=σ.length:=by rw[hI1.nb,hb1]
 have hl:τ.length≤E1.toks.length:=by omega
 have bt:=@Asp E E1 τ hτ hτl hl;rw[nt,nt1]at bt;have boxS:∀{i b s:Nat},i∈σ→E.boxes[i]?=some (some (b,s))→∃j,σ[j]?=some i∧E1.boxes[j]?=some (some (b,s)):=fun{i b s} hi h=>by
  obtain⟨j,hj⟩:=Bs hi;have hs:=I8 (E:=E) (τ:=τ).2 ⟨i,hj,h⟩;have hjl:=Aa hj;exact⟨j,hj,(ev.boxes j hjl (by simpa[Env.sub]using hjl)).2 _ hs⟩
 have apartB:∀{i b s:Nat},i∉σ→E.boxes[i]?=some (some (b,s))→¬E.ownS σ τ b:=fun{i b s} hi h ho=>by
  rcases ho with⟨i',s',hi',h'⟩|⟨t,l,c,sz,_,h'⟩
  ·have:=hI.bb _ _ _ _ _ h h';subst this;exact hi hi'
  ·exact hI.bt _ _ _ _ _ _ _ h h'
 have apartT:∀{t l b c sz:Nat},t∉τ→E.toks[t]?=some (Tk.mk l (some (b,c,sz)))→¬E.ownS σ τ b:=fun{t l b c sz} hi h ho=>by
  rcases ho with⟨i',s',hi',h'⟩|⟨t',l',c',sz',ht',h'⟩
  ·exact hI.bt _ _ _ _ _ _ _ h' h
  ·have:=hI.tt _ _ _ _ _ _ _ _ _ h h';subst this;exact hi ht'
 have frE:∀{b o:Nat},E.mt b o→¬E.ownS σ τ b→E1.fr b o:=fun{b o} h1 h2=>by rw[ev.fr];exact⟨h1,h2⟩
 have hmt:∀b o,(E.back E1 τ).mt b o→E1.mt b o:=fun b o h=>by
  rcases h with h|⟨i,s,h⟩|⟨t,l,c,s,h,ho⟩
  ·exact .inl (frE (.inl h) (fun ho=>(hI.frlt b o h).1 (O3 ho)))
  ·by_cases hi:i∈σ
   ·obtain⟨j,_,hj⟩:=boxS hi h;exact .inr (.inl ⟨j,s,hj⟩)
   ·exact .inl (frE (.inr (.inl ⟨i,s,h⟩)) (apartB hi h))
  ·rcases bt.1 h with⟨ht,h⟩|⟨j,_,h⟩
   ·exact .inl (frE (.inr (.inr ⟨t,l,c,s,h,ho⟩)) (apartT ht h))
   ·exact .inr (.inr ⟨j,l,c,s,h,ho⟩)
 have howns:∀{b:Nat},E1.own b→b<w.heap.size→E.own b:=fun{b} h hb=>O3 ((Pv hτl).1 (ev.own b hb h));have hown:∀{b:Nat},(E.back E1 τ).own b→E.own b∨E1.own b:=fun{b} h=>by
  rcases h with⟨i,s,h⟩|⟨t,l,c,s,h⟩
  ·exact .inl (.inl ⟨i,s,h⟩)
  ·rcases bt.1 h with⟨ht,h⟩|⟨j,_,h⟩
   ·exact .inl (.inr ⟨t,l,c,s,h⟩)
   ·exact .inr (.inr ⟨j,l,c,s,h⟩)
 have ev2:Evol E w (E.back E1 τ) w' E.boxes.length E.toks.length:=by
  refine⟨rfl,fun _ _ h=>⟨h,fun _ h=>h⟩,fun t ht k hk=>?_,ev.os,ev.tape,ev.output,ev.size,fun b hb ho=>ev.block b hb (fun h=>ho (O3 ((Pv hτl).1 h))),
   fun b o v hm hc=>ev.cell b o v (fun h=>hm (Sz hτl h)) hc,fun b o hb h=>Sz hτl (ev.mt b o hb (hmt b o h)),fun b hb h=>?_,rfl,ev.ty,fun t ht k b c h1 h2 h3 o ho=>?_⟩
  ·by_cases hm:t∈τ
   ·obtain⟨j,hj⟩:=Bs hm;obtain⟨k',hk',h'⟩:=ev.toks j (Aa hj) k ((J9 hτl).2 ⟨t,hj,hk⟩);exact⟨k',bt.2 (.inr ⟨j,by simp only[H2];rw[Cs (Aa hj)];exact hj,hk'⟩),h'⟩
   ·exact⟨k,bt.2 (.inl ⟨hm,hk⟩),.inl rfl⟩
  ·rcases hown h with h|h
   ·exact h
   ·exact howns h hb
  ·by_cases hm:t∈τ
   ·rcases bt.1 h3 with⟨h4,_⟩|⟨j',hj',h5⟩
    ·exact absurd hm h4
    ·obtain⟨j,hj⟩:=Bs hm;have hjj:j'=j:=Am9 hτ (fun t h=>by have:=hτl t h;omega) hj' (by simp only[H2];rw[Cs (Aa hj)];exact hj);subst hjj;exact ev.pv j' (Aa hj) k b c ((J9 hτl).2 ⟨t,hj,h1⟩) h2 h5 o ho
   ·obtain⟨kl,ksp⟩:=k;simp only at h2;subst h2;rw[ev.block b (N7 ho) (fun h=>apartT hm h1 ((Pv hτl).1 h))];exact ho
 have hbwd:∀{x y:AV} {v:Value},Ren false σ (H2 τ S.toks.length (S1.toks.length-τ.length)) x y→Rel E1 w' v y→Rel (E.back E1 τ) w' v x:=fun{x y v} h hv=>
  h.bwd hmt (fun i j q h1 h2=>by
   have hil:=hσl i (Bh h1);have hil':i<E.boxes.length:=by rw[hI.nb];exact hil
   obtain⟨q',hq'⟩:=hI.np i hil'
   ·have:=(ev.boxes j (Aa h1) (by have:=Aa h1;simpa[Env.sub]using this)).2 q' (I8.2 ⟨i,h1,hq'⟩);rw[h2]at this;cases this;exact hq') (fun i j k h1 h2=>bt.2 (.inr ⟨j,h1,h2⟩)) hv
 refine⟨ev2,?_,hbwd⟩;have hfar:∀{b:Nat},E.own b→¬E.ownS σ τ b→w'.heap[b]?=w.heap[b]?:=fun{b} h1 h2=>ev.block b (hI.own_lt h1) (fun h=>h2 ((Pv hτl).1 h));have hl2:=hR.get.1;exact{
  nb:=by simp[Env.back,Acg,hI.nb]
  nt:=by simp only[Env.back,Kr,Aod,hI.nt,hI1.nt,List.map_drop]
  np:=hI.np
  box:=fun i b sz rows h1 h2=>by
   have hil:i<S.boxes.length:=by have:=Aa h2;simpa[Acg]using this
   by_cases hi:i∈σ
   ·obtain⟨j,hj,hB⟩:=boxS hi h1;have hjl:=Aa hj;rw[Aio _ _ _ j i hσ hj hil (by omega)]at h2;obtain⟨rows1,hrows1⟩:=Ab S1.boxes (i:=j) (by omega);have hr:=hR.get.2 j rows rows1 h2 hrows1;obtain⟨cs,e,hh,hs,hll,hrel⟩:=hI1.box j b sz rows1 hB hrows1;refine⟨cs,e,hh,by rw[←hr.get.1];exact hs,fun r hr'=>?_,fun k r q x v hk hq hv=>?_⟩
    ·obtain⟨k,hk⟩:=Bs hr';obtain⟨r1,hr1⟩:=Ab rows1 (i:=k) (by have:=Aa hk;have:=hr.get.1;omega);rw[←(hr.get.2 k r r1 hk hr1).get.1];exact hll r1 (Bh hr1)
    ·obtain⟨r1,hr1⟩:=Ab rows1 (i:=k) (by have:=Aa hk;have:=hr.get.1;omega);have hL:=hr.get.2 k r r1 hk hr1;obtain⟨y,hy⟩:=Ab r1 (i:=q) (by have:=Aa hq;have:=hL.get.1;omega);exact hbwd (hL.get.2 q x y hq hy) (hrel k r1 q y v hr1 hy hv)
   ·rw[Y6 _ _ _ _ hi]at h2;obtain⟨cs,e,hh,hs,hll,hrel⟩:=hI.box i b sz rows h1 h2;exact⟨cs,e,(hfar (.inl ⟨i,sz,h1⟩) (apartB hi h1)).trans hh,hs,hll,fun k r q x v hk hq hv=>(hrel k r q x v hk hq hv).step ev2⟩
  tok:=fun t l b c sz h=>by
   rcases bt.1 h with⟨ht,h⟩|⟨j,_,h⟩
   ·obtain⟨h1,h0,cs,e,hh,hs⟩:=hI.tok t l b c sz h;exact⟨h1,h0,cs,e,(hfar (.inr ⟨t,l,c,sz,h⟩) (apartT ht h)).trans hh,hs⟩
   ·exact hI1.tok j l b c sz h
  bb:=hI.bb
  bt:=fun i t b s l c sz h1 h2=>by
   rcases bt.1 h2 with⟨ht,h⟩|⟨j,_,h⟩
   ·exact hI.bt i t b s l c sz h1 h
   ·by_cases hi:i∈σ
    ·obtain⟨j',_,hB⟩:=boxS hi h1;exact hI1.bt j' j b s l c sz hB h
    ·exact(hI1.frlt b 0 (frE (.inr (.inl ⟨i,s,h1⟩)) (apartB hi h1))).1 (.inr ⟨j,l,c,sz,h⟩)
  tt:=fun i j b l c s l' c' s' h1 h2=>by
   rcases bt.1 h1 with⟨ht1,h1⟩|⟨i1,hi1,h1⟩<;>rcases bt.1 h2 with⟨ht2,h2⟩|⟨j1,hj1,h2⟩
   ·exact hI.tt i j b l c s l' c' s' h1 h2
   ·exact absurd (.inr ⟨j1,l',c',s',h2⟩) (hI1.frlt b (l*s) (frE (.inr (.inr ⟨i,l,c,s,h1,Bo _⟩)) (apartT ht1 h1))).1
   ·exact absurd (.inr ⟨i1,l,c,s,h1⟩) (hI1.frlt b (l'*s') (frE (.inr (.inr ⟨j,l',c',s',h2,Bo _⟩)) (apartT ht2 h2))).1
   ·have:=hI1.tt i1 j1 b l c s l' c' s' h1 h2;subst this;rw[hi1]at hj1;exact Option.some.inj hj1
  frlt:=fun b o h=>by
   have h1:=frE (.inl h) (fun ho=>(hI.frlt b o h).1 (O3 ho));refine⟨fun h'=>?_,(hI1.frlt b o h1).2⟩;rcases hown h' with h'|h'
   ·exact(hI.frlt b o h).1 h'
   ·exact(hI1.frlt b o h1).1 h'
  lo:=fun b h=>by
   rcases hown h with h|h
   ·exact hI.lo b h
   ·exact hI1.lo b h
  frlo:=hI.frlo
  sz:=hI1.sz
  glob:=hI1.glob }
theorem Aiy{ops:Array Oper}{i:Nat}{o:Oper}{c:Call}{fo:Operand}{f:FuncId}{caps xs zs ys:List AV}{r y:AV}{Sc S':St}{bx1 bx2:List (List (List AV))}{tk1:List Nat}
 (hE:Nr X.P f)(hc:ACalls X f ys Sc fun e S1=>e=.ret y∧S1=⟨bx1,tk1⟩)(σ τ:List Nat)(ho:ops[i]?=some o)(hw:A8 ops F o=some true)(hop:o.op=.call c)(hcal:c.callee=.value fo)
 (hfo:Dw X F fo=some (.fn f caps))(hx:Hm X F c.args.toList=some xs)(hzs:xs++caps=zs)(hσ:σ.Nodup)(hτ:τ.Nodup)(hσl:∀i,i∈σ→i<S.boxes.length)(hτl:∀t,t∈τ→t<S.toks.length)
 (hsb:σ.map (fun i=>S.boxes.getD i [])=bx2){bxc:List (List (List AV))}(hb:RenB true σ τ bx2 bxc)(ht:τ.map (fun t=>S.toks.getD t 0)=Sc.toks)(hSc:Sc.boxes=bxc)(ha:RenL true σ τ zs ys)
 (hb1:bx1.length=σ.length)(ht1:τ.length≤tk1.length){bx3:List (List (List AV))}(hR:RenB false σ (H2 τ S.toks.length (tk1.length-τ.length)) bx3 bx1)(hr:Ren false σ (H2 τ S.toks.length (tk1.length-τ.length)) r y)
 (hS':St.mk (upd S.boxes σ bx3) (upd S.toks τ tk1++tk1.drop τ.length)=S'):Ndo X N ops i o F r S S':=by
 subst hS';subst hzs;subst hsb;subst hSc;intro F' E w a hl hI hF;have nt:E.toks.length=S.toks.length:=by rw[←hI.nt];simp
 have hτl':∀t,t∈τ→t<E.toks.length:=fun t h=>by rw[nt];exact hτl t h
 obtain⟨l1,l2⟩:=Ru (X:=X) hop hcal hl;obtain⟨vs,h1,h2,h3⟩:=Qh hop hcal hE hI hF (l1.trans hfo) (l2.trans hx);have hsl:Sc.boxes.length=σ.length:=by have:=hb.get.1;simpa using this
 have htl:Sc.toks.length=τ.length:=by rw[←ht];simp
 refine Does.call ho (Cr hF (by rw[C6 hl];exact hw)) h1 ((hc (E.sub σ τ) w vs rfl (hI.sub hσ hτ hτl' hb hσl ht) (by rw[h2,ha.get.1]) (fun j v y hv hy=>?_)).mono fun e w' he=>?_)
 ·obtain⟨x,hx⟩:=Ab (xs++caps) (i:=j) (by have:=Aa hy;rw[ha.get.1]at this;exact this);exact(ha.get.2 j x y hx hy).fwd (fun b o=>Sz hτl') (fun i j q h1 h2=>I8.2 ⟨i,h1,h2⟩) (fun i j k h1 h2=>(J9 hτl').2 ⟨i,h1,h2⟩) (h3 j v x hv hx)
 ·obtain⟨E1,S1,d1,d2,d3⟩:=he;rw[hsl,htl]at d2;cases e with
  |returned v=>
   obtain⟨r',hr',hre,rfl⟩:=d3;cases hre;obtain⟨b1,b2,b3⟩:=Anm hI d1 d2 hσ hτ hσl hτl' hb1 ht1 hR;exact⟨v,rfl,E.back E1 τ,b2,b1,b3 hr hr'⟩
  |panicked ch=>obtain⟨h,_⟩:=d3;cases h
  |outgrown=>exact d3.elim
end
class IdxC (l:List Nat)(x:Nat)(j:outParam Nat):Prop where
 h:l[j]?=some x
instance{l:List Nat}{x:Nat}:IdxC (x::l) x 0:=⟨rfl⟩
instance(priority:=low){l:List Nat}{x y j:Nat} [h:IdxC l x j]:IdxC (y::l) x (j+1):=⟨by simpa using h.h⟩
class GetC (l:List Nat)(j:Nat)(x:outParam Nat):Prop where
 h:l[j]?=some x
instance{l:List Nat}{x:Nat}:GetC (x::l) 0 x:=⟨rfl⟩
instance{l:List Nat}{x y j:Nat} [h:GetC l j x]:GetC (y::l) (j+1) x:=⟨by simpa using h.h⟩
class RinC (σ τ:List Nat)(x:AV)(y:outParam AV):Prop where
 s:Ren true σ τ x y
class RinL (σ τ:List Nat)(x:List AV)(y:outParam (List AV)):Prop where
 s:RenL true σ τ x y
class RinR (σ τ:List Nat)(x:List (List AV))(y:outParam (List (List AV))):Prop where
 s:RenR true σ τ x y
class RinB (σ τ:List Nat)(x:List (List (List AV)))(y:outParam (List (List (List AV)))):Prop where
 s:RenB true σ τ x y
class RinS (τ:List Nat)(x:Sp)(y:outParam Sp):Prop where
 s:A0p true τ x y
class RoutC (σ τ:List Nat)(x:outParam AV)(y:AV):Prop where
 s:Ren false σ τ x y
class RoutL (σ τ:List Nat)(x:outParam (List AV))(y:List AV):Prop where
 s:RenL false σ τ x y
class RoutR (σ τ:List Nat)(x:outParam (List (List AV)))(y:List (List AV)):Prop where
 s:RenR false σ τ x y
class RoutB (σ τ:List Nat)(x:outParam (List (List (List AV))))(y:List (List (List AV))):Prop where
 s:RenB false σ τ x y
section
variable {σ τ:List Nat}
instance:RinS τ .no .no:=⟨.inl ⟨rfl,rfl⟩⟩
instance:RinS τ .tight .no:=⟨.inl ⟨rfl,rfl⟩⟩
instance{t t':Nat} [h:IdxC τ t t']:RinS τ (.tok t) (.tok t'):=⟨.inr (.inr (.inr (.inr ⟨t,t',rfl,rfl,h.h⟩)))⟩
instance(priority:=low){t:Nat}:RinS τ (.tok t) .no:=⟨.inl ⟨rfl,rfl⟩⟩
instance{v:Value}:RinC σ τ (.val v) (.val v):=⟨.flat _ (.val v)⟩
instance{b b' r o:Nat} [h:IdxC σ b b']:RinC σ τ (.ptr b r o) (.ptr b' r o):=⟨.ptr b b' r o h.h⟩
instance{b b' k:Nat} [h:IdxC σ b b']:RinC σ τ (.bsl b k) (.bsl b' k):=⟨.bsl b b' k h.h⟩
instance{te b b':Nat} [h:IdxC σ b b']:RinC σ τ (.tagN te b) (.tagN te b'):=⟨.tagN te b b' h.h⟩
instance{te t t':Nat}{s:List UInt8} [h:IdxC τ t t']:RinC σ τ (.buf te s t) (.buf te s t'):=⟨.buf te s t t' h.h⟩
instance{rows:List (List AV)}{t t' v:Nat} [h:IdxC τ t t'] [hl:OKR 0 0 rows]:RinC σ τ (.psl rows t v) (.psl rows t' v):=⟨.psl rows t t' v h.h hl.ok⟩
instance{rows rows':List (List AV)}{sp sp':Sp} [h:RinR σ τ rows rows'] [hs:RinS τ sp sp']:RinC σ τ (.sl rows sp) (.sl rows' sp'):=⟨Zm h.s hs.s⟩
instance{l l':List AV} [h:RinL σ τ l l']:RinC σ τ (.agg l) (.agg l'):=⟨Anj h.s⟩
instance{l l':List AV} [h:RinL σ τ l l']:RinC σ τ (.tup l) (.tup l'):=⟨Ank h.s⟩
instance{l l':List AV} [h:RinL σ τ l l']:RinC σ τ (.cptr l) (.cptr l'):=⟨Asj h.s⟩
instance{f:FuncId}{l l':List AV} [h:RinL σ τ l l']:RinC σ τ (.fn f l) (.fn f l'):=⟨A0q h.s⟩
instance:RinL σ τ [] []:=⟨.nil⟩
instance{x y:AV}{l l':List AV} [h:RinC σ τ x y] [t:RinL σ τ l l']:RinL σ τ (x::l) (y::l'):=⟨.cons h.s t.s⟩
instance(priority:=low){l:List AV} [h:OKL 0 0 l]:RinL σ τ l l:=⟨RenL.flat h.ok⟩
instance:RinR σ τ [] []:=⟨.nil⟩
instance{x y:List AV}{l l':List (List AV)} [h:RinL σ τ x y] [t:RinR σ τ l l']:RinR σ τ (x::l) (y::l'):=⟨.cons h.s t.s⟩
instance(priority:=low){l:List (List AV)} [h:OKR 0 0 l]:RinR σ τ l l:=⟨RenR.flat h.ok⟩
instance:RinB σ τ [] []:=⟨.nil⟩
instance{x y:List (List AV)}{l l':List (List (List AV))} [h:RinR σ τ x y] [t:RinB σ τ l l']:RinB σ τ (x::l) (y::l'):=⟨.cons h.s t.s⟩
instance{v:Value}:RoutC σ τ (.val v) (.val v):=⟨.flat _ (.val v)⟩
instance{b b' r o:Nat} [h:GetC σ b' b]:RoutC σ τ (.ptr b r o) (.ptr b' r o):=⟨.ptr b b' r o h.h⟩
instance{b b' k:Nat} [h:GetC σ b' b]:RoutC σ τ (.bsl b k) (.bsl b' k):=⟨.bsl b b' k h.h⟩
instance{te t t':Nat}{s:List UInt8} [h:GetC τ t' t]:RoutC σ τ (.buf te s t) (.buf te s t'):=⟨.buf te s t t' h.h⟩
instance{rows:List (List AV)}{t t' v:Nat} [h:GetC τ t' t] [hl:OKR 0 0 rows]:RoutC σ τ (.psl rows t v) (.psl rows t' v):=⟨.psl rows t t' v h.h hl.ok⟩
instance{rows rows':List (List AV)} [h:RoutR σ τ rows rows']:RoutC σ τ (.sl rows .no) (.sl rows' .no):=⟨Zm h.s (.inr (.inl ⟨rfl,rfl⟩))⟩
instance{rows rows':List (List AV)} [h:RoutR σ τ rows rows']:RoutC σ τ (.sl rows .tight) (.sl rows' .tight):=⟨Zm h.s (.inr (.inr (.inr (.inl ⟨rfl,rfl⟩))))⟩
instance{rows rows':List (List AV)}{t t':Nat} [h:RoutR σ τ rows rows'] [ht:GetC τ t' t]:RoutC σ τ (.sl rows (.tok t)) (.sl rows' (.tok t')):=⟨Zm h.s (.inr (.inr (.inr (.inr ⟨t,t',rfl,rfl,ht.h⟩))))⟩
instance{l l':List AV} [h:RoutL σ τ l l']:RoutC σ τ (.agg l) (.agg l'):=⟨Anj h.s⟩
instance{l l':List AV} [h:RoutL σ τ l l']:RoutC σ τ (.tup l) (.tup l'):=⟨Ank h.s⟩
instance:RoutL σ τ [] []:=⟨.nil⟩
instance{x y:AV}{l l':List AV} [h:RoutC σ τ x y] [t:RoutL σ τ l l']:RoutL σ τ (x::l) (y::l'):=⟨.cons h.s t.s⟩
instance(priority:=low){l:List AV} [h:OKL 0 0 l]:RoutL σ τ l l:=⟨RenL.flat h.ok⟩
instance:RoutR σ τ [] []:=⟨.nil⟩
instance{x y:List AV}{l l':List (List AV)} [h:RoutL σ τ x y] [t:RoutR σ τ l l']:RoutR σ τ (x::l) (y::l'):=⟨.cons h.s t.s⟩
instance(priority:=low){l:List (List AV)} [h:OKR 0 0 l]:RoutR σ τ l l:=⟨RenR.flat h.ok⟩
instance:RoutB σ τ [] []:=⟨.nil⟩
instance{x y:List (List AV)}{l l':List (List (List AV))} [h:RoutR σ τ x y] [t:RoutB σ τ l l']:RoutB σ τ (x::l) (y::l'):=⟨.cons h.s t.s⟩
end
def Hands(X:Cx)(f:FuncId)(args:List AV)(S:St)(y:AV)(S1:St):Prop:=
 Nr X.P f∧ACalls X f args S fun e S'=>e=.ret y∧S'=S1
theorem Hands.mk{X:Cx}{f:FuncId}{fn:Func}{c:Code}{args:List AV}{r:AV}{bx bx':List (List (List AV))}{tk tk':List Nat}{n m:Nat}(hf:X.P.funcs[f]?=some fn)(hb:fn.body=some c)
 (hl:Nat.ble args.length fn.ntmps=true)(hnm:(fn.name == "runtime.NumGoroutine")=false)(hn:bx.length=n)(hm:tk.length=m)
 (h:AK X ⟨f,fn,n,m⟩ [.code c] (Ot 0 args) ⟨bx,tk⟩ fun e S=>e=.ret r∧S=⟨bx',tk'⟩):Hands X f args ⟨bx,tk⟩ r ⟨bx',tk'⟩:=
 ⟨⟨fn,hf,hnm,by rw[hb];rfl⟩,Jq hf hb hl hn hm h⟩
def Kh:List Nat→Bool
 |[]=>true
 |x::l=>(l.all fun y=>!Nat.beq x y)&&Kh l
theorem Od:∀{l:List Nat},Kh l=true→l.Nodup
 |[],_=>List.nodup_nil
 |x::l,h=>by
  simp only[Kh,Dd,zzq48,Ml]at h;refine List.nodup_cons.2 ⟨fun hm=>?_,Od h.2⟩;have:=h.1 x hm;rw[show Nat.beq x x=true from Nat.beq_refl x]at this;cases this
theorem Ag1{l:List Nat}{n:Nat}(h:(l.all fun i=>Nat.blt i n)=true):∀i,i∈l→i<n:=fun i hi=>by
 have:=zzq48.1 h i hi;simpa[Fw]using this
def Aen{α:Type}:List Nat→List α→Option (List α)
 |[],_=>some []
 |i::σ,l=>match Tn l i with
  |some x=>match Aen σ l with
   |some xs=>some (x::xs)
   |none=>none
  |none=>none
theorem Ahl{α:Type}(d:α):∀{σ:List Nat}{l xs:List α},Aen σ l=some xs→σ.map (fun i=>l.getD i d)=xs
 |[],l,xs,h=>by simp only[Aen]at h;cases h;rfl
 |i::σ,l,xs,h=>by
  simp only[Aen]at h;split at h
  ·rename_i x hx;split at h
   ·rename_i ys hys;cases h;rw[H8]at hx;rw[N0,Ahl d hys];simp[List.getD,hx]
   ·cases h
  ·cases h
section
variable {X:Cx}{S:St}{F:C5}{N:Nat}
theorem Vj{ops:Array Oper}{i:Nat}{o:Oper}{c:Call}{fo:Operand}{f:FuncId}{caps xs zs ys:List AV}{r y:AV}{S':St}{bx1 bx2 bxc bx3:List (List (List AV))}{tkc tk1:List Nat}
 (σ τ:List Nat)(hc:Hands X f ys ⟨bxc,tkc⟩ y ⟨bx1,tk1⟩)(ho:ops[i]?=some o)(hw:A8 ops F o=some true)(hop:o.op=.call c)(hcal:c.callee=.value fo)(hfo:Dw X F fo=some (.fn f caps))
 (hx:Hm X F c.args.toList=some xs)(hzs:Kg xs caps=some zs)(hσ:Kh σ=true)(hτ:Kh τ=true)(hσl:(σ.all fun i=>Nat.blt i S.boxes.length)=true)(hτl:(τ.all fun t=>Nat.blt t S.toks.length)=true)
 (hsb:Aen σ S.boxes=some bx2) [hb:RinB σ τ bx2 bxc](ht:τ.map (fun t=>S.toks.getD t 0)=tkc) [ha:RinL σ τ zs ys]
 (hb1:bx1.length=σ.length)(ht1:Nat.ble τ.length tk1.length=true){τ':List Nat}(hτ':H2 τ S.toks.length (tk1.length-τ.length)=τ') [hR:RoutB σ τ' bx3 bx1] [hr:RoutC σ τ' r y]
 (hS':St.mk (upd S.boxes σ bx3) (upd S.toks τ tk1++tk1.drop τ.length)=S'):Ndo X N ops i o F r S S':=by
 subst hτ';exact Aiy hc.1 hc.2 σ τ ho hw hop hcal hfo hx (Rv hzs) (Od hσ) (Od hτ) (Ag1 hσl) (Ag1 hτl) (Ahl [] hsb) hb.s ht rfl ha.s hb1 (Jz ht1) hR.s hr.s hS'
end
def Ub:Code→Option Nat
 |.region id _ _=>some id
 |.seq a b=>match Ub a with
  |some i=>some i
  |none=>Ub b
 |.cond _ a b=>match Ub a with
  |some i=>some i
  |none=>Ub b
 |.block _ c=>Ub c
 |.loop c=>Ub c
 |.scope c=>Ub c
 |_=>none
def isR(o:Option Nat)(id:Nat):Bool:=
 match o with
 |some i=>Nat.beq i id
 |none=>false
def orL(o:Option (List Item))(p:Option (List Item)):Option (List Item):=
 match o with
 |some x=>some x
 |none=>p
def Al9(lp:Bool)(id:Nat):Code→List Item→Option (List Item)
 |.region i ops d,k=>match lp with
  |true=>none
  |false=>match Nat.beq i id with
   |true=>some (.code (.region i ops d)::k)
   |false=>none
 |.loop c,k=>match lp&&isR (Ub c) id with
  |true=>some (.code (.loop c)::k)
  |false=>Al9 lp id c (.inLoop c::k)
 |.seq a b,k=>orL (Al9 lp id a (.code b::k)) (Al9 lp id b k)
 |.cond _ a b,k=>orL (Al9 lp id a k) (Al9 lp id b k)
 |.block n c,k=>Al9 lp id c (.inBlock n::k)
 |_,_=>none
def A33(lp:Bool)(id:Nat)(fn:Func):Option (List Item):=
 match fn.body with
 |some c=>Al9 lp id c []
 |none=>none
def Lm(lp:Bool)(id:Nat)(fn:Func):List Item:=
 match A33 lp id fn with
 |some K=>K
 |none=>[]
theorem Acu{X:Cx}{S:St}{F:C5}{N:Nat}{ops:Array Oper}{i:Nat}{o:Oper}{c:Call}{fo:Operand}{f:FuncId}{caps xs zs ys:List AV}{r:AV}(hc:Pure X f ys r)(ho:ops[i]?=some o)(hw:A8 ops F o=some true)
 (hop:o.op=.call c)(hcal:c.callee=.value fo)(hfo:Dw X F fo=some (.fn f caps))(hx:Hm X F c.args.toList=some xs)(hzs:Kg xs caps=some zs) [ha:RinL [] [] zs ys](hr:Ok 0 0 r):Ndo X N ops i o F r S S:=by
 refine Aiy hc.1 hc.2 [] [] ho hw hop hcal hfo hx (Rv hzs) List.nodup_nil List.nodup_nil (fun _ h=>by cases h) (fun _ h=>by cases h) rfl .nil rfl rfl ha.s rfl (Bo _) (bx3:=[]) .nil (.flat r hr) ?_;obtain⟨bx,tk⟩:=S;simp[upd]
section
variable {X:Cx}{B:Bx}{S S':St}{F:C5}{R:AE→St→Prop}{ops:Array Oper}{i:Nat}{l:List Nat}{k:List Item}{o:Oper}{c:Call}{fo p q:Operand}{K:List Item}{F':C5}
theorem Bn{x:AV}{S2:St}(h:Ndo X B.fn.ntmps ops i o F x S S')(hk:AK X B K F' S2 R)(ho:ops[i]?=some o:=by rfl)(hd:D3 B.fn.ntmps o.dst=true:=by rfl)
 (he:Go.V.ev X B.fn.ntmps 200 (.inRegion ops l::k) (putF o.dst x F) S'=(K,F',S2):=by rfl):AK X B (.inRegion ops (i::l)::k) F S R:=
 Hi h ho hd (Bi 200 he hk)
theorem Al{f:FuncId}{caps xs zs ys:List AV}{r:AV}{S2:St}(hc:Pure X f ys r)(hk:AK X B K F' S2 R)(ho:ops[i]?=some o:=by rfl)(hw:A8 ops F o=some true:=by rfl)
 (hop:o.op=.call c:=by rfl)(hcal:c.callee=.value fo:=by rfl)(hfo:Dw X F fo=some (.fn f caps):=by rfl)(hx:Hm X F c.args.toList=some xs:=by rfl)(hzs:Kg xs caps=some zs:=by rfl)
 (hd:D3 B.fn.ntmps o.dst=true:=by rfl) [hs:RinL [] [] zs ys] [hok:OK 0 0 r](he:Go.V.ev X B.fn.ntmps 200 (.inRegion ops l::k) (putF o.dst r F) S=(K,F',S2):=by rfl):AK X B (.inRegion ops (i::l)::k) F S R:=
 Hi (Acu hc ho hw hop hcal hfo hx hzs hok.ok) ho hd (Bi 200 he hk)
theorem D5{lp:Bool}{id:Nat}{fn:Func}(hk:AK X B K F S R)(h:A33 lp id fn=some K:=by rfl):AK X B (Lm lp id fn) F S R:=by
 unfold Lm;rw[h];exact hk
theorem Ah{t:Nat}{x y:Code}{e:Bool}{K1 K2:List Item}{F1 F2:C5}{S1 S2:St}(h1:e=true→AK X B K1 F1 S1 R)(h2:e=false→AK X B K2 F2 S2 R)(hc:lk F t=some (.val (.bool e)):=by rfl)
 (he1:Go.V.ev X B.fn.ntmps 200 (.code x::k) ((t,.lit true)::F) S=(K1,F1,S1):=by rfl)(he2:Go.V.ev X B.fn.ntmps 200 (.code y::k) ((t,.lit false)::F) S=(K2,F2,S2):=by rfl) :
 AK X B (.code (.cond (.tmp t) x y)::k) F S R:=
 Ph hc (fun h=>Bi 200 he1 (h1 h)) (fun h=>Bi 200 he2 (h2 h))
theorem C7{K1 K2:List Item}{t:Nat}{x y:Code}{e:Bool}{F0 F1 F2:C5}{S0 S1 S2:St}{k0:List Item}(h1:e=true→AK X B K1 F1 S1 R)(h2:e=false→AK X B K2 F2 S2 R)
 (h0:Go.V.ev X B.fn.ntmps 100 K F S=(.code (.cond (.tmp t) x y)::k0,F0,S0):=by rfl)(hc:lk F0 t=some (.val (.bool e)):=by rfl)
 (he1:Go.V.ev X B.fn.ntmps 200 (.code x::k0) ((t,.lit true)::F0) S0=(K1,F1,S1):=by rfl)(he2:Go.V.ev X B.fn.ntmps 200 (.code y::k0) ((t,.lit false)::F0) S0=(K2,F2,S2):=by rfl):AK X B K F S R:=
 Bi 100 h0 (Ah h1 h2 hc he1 he2)
theorem A0{t:Nat}{x y:Code}{e:Bool}{K1:List Item}{F1:C5}{S1:St}(h1:AK X B K1 F1 S1 R)(hc:lk F t=some (.val (.bool e)):=by rfl)
 (he1:Go.V.ev X B.fn.ntmps 200 (.code x::k) ((t,.lit true)::F) S=(K1,F1,S1):=by rfl)(ht:e=true:=by rfl):AK X B (.code (.cond (.tmp t) x y)::k) F S R:=
 Ph hc (fun _=>Bi 200 he1 h1) (fun h=>by rw[ht]at h;cases h)
theorem Ag{t:Nat}{x y:Code}{e:Bool}{K2:List Item}{F2:C5}{S2:St}(h2:AK X B K2 F2 S2 R)(hc:lk F t=some (.val (.bool e)):=by rfl)
 (he2:Go.V.ev X B.fn.ntmps 200 (.code y::k) ((t,.lit false)::F) S=(K2,F2,S2):=by rfl)(ht:e=false:=by rfl):AK X B (.code (.cond (.tmp t) x y)::k) F S R:=
 Ph hc (fun h=>by rw[ht]at h;cases h) (fun _=>Bi 200 he2 h2)
theorem Df{t j:Nat}{want e:Bool}{oj:Oper}{K1 K2:List Item}{F1 F2:C5}{S1 S2:St}(h1:e=true→AK X B K1 F1 S1 R)(h2:e=false→AK X B K2 F2 S2 R)(ho:ops[i]?=some o:=by rfl)(hg:o.guard=some (j,want):=by rfl)
 (hj:ops[j]?=some oj:=by rfl)(hd:oj.dst=some t:=by rfl)(hc:lk F t=some (.val (.bool e)):=by rfl)(he1:Go.V.ev X B.fn.ntmps 200 (.inRegion ops (i::l)::k) ((t,.lit true)::F) S=(K1,F1,S1):=by rfl)
 (he2:Go.V.ev X B.fn.ntmps 200 (.inRegion ops (i::l)::k) ((t,.lit false)::F) S=(K2,F2,S2):=by rfl):AK X B (.inRegion ops (i::l)::k) F S R:=
 Xx hc (fun h=>Bi 200 he1 (h1 h)) (fun h=>Bi 200 he2 (h2 h))
theorem Hh{t j:Nat}{want e:Bool}{oj:Oper}{K1:List Item}{F1:C5}{S1:St}(h1:AK X B K1 F1 S1 R)(ho:ops[i]?=some o:=by rfl)(hg:o.guard=some (j,want):=by rfl)
 (hj:ops[j]?=some oj:=by rfl)(hd:oj.dst=some t:=by rfl)(hc:lk F t=some (.val (.bool e)):=by rfl)(he1:Go.V.ev X B.fn.ntmps 200 (.inRegion ops (i::l)::k) ((t,.lit true)::F) S=(K1,F1,S1):=by rfl)(ht:e=true:=by rfl) :
 AK X B (.inRegion ops (i::l)::k) F S R:=
 Xx hc (fun _=>Bi 200 he1 h1) (fun h=>by rw[ht]at h;cases h)
theorem Ii{t j:Nat}{want e:Bool}{oj:Oper}{K2:List Item}{F2:C5}{S2:St}(h2:AK X B K2 F2 S2 R)(ho:ops[i]?=some o:=by rfl)(hg:o.guard=some (j,want):=by rfl)
 (hj:ops[j]?=some oj:=by rfl)(hd:oj.dst=some t:=by rfl)(hc:lk F t=some (.val (.bool e)):=by rfl)(he2:Go.V.ev X B.fn.ntmps 200 (.inRegion ops (i::l)::k) ((t,.lit false)::F) S=(K2,F2,S2):=by rfl)(ht:e=false:=by rfl) :
 AK X B (.inRegion ops (i::l)::k) F S R:=
 Xx hc (fun h=>by rw[ht]at h;cases h) (fun _=>Bi 200 he2 h2)
theorem B4{t e:Nat}{rows:List (List AV)}{sp:Sp}{ik:IntKind}{r:List AV}{y ye:Ty}{S2:St}(n:Int)(h0:0≤n)(hr:rows[n.toNat]?=some r)(hk:AK X B K F' S2 R)(ho:ops[i]?=some o:=by rfl)(hw:A8 ops F o=some true:=by rfl)
 (hop:o.op=.indexAddr t p q:=by rfl)(hp:Dw X F p=some (.sl rows sp):=by rfl)(hq:Dw X F q=some (.val (.int ik n)):=by rfl)
 (hy:X.ty t=some y:=by rfl)(hyk:y.k=.slc e:=by rfl)(hye:X.ty e=some ye:=by rfl)(hd:D3 B.fn.ntmps o.dst=true:=by rfl)(hl:r.length=ye.size:=by rfl)
 (he:Go.V.ev X B.fn.ntmps 200 (.inRegion ops l::k) (putF o.dst (.cptr r) F) S=(K,F',S2):=by rfl):AK X B (.inRegion ops (i::l)::k) F S R:=
 Ach ho hw hop hp hq hy hyk hye hd hl h0 hr (Bi 200 he hk)
theorem Jh{t:Nat}{s:List UInt8}{ik:IntKind}{b:UInt8}{y:Ty}{S2:St}(n:Int)(h0:0≤n)(hr:s[n.toNat]?=some b)(hk:AK X B K F' S2 R)(ho:ops[i]?=some o:=by rfl)(hw:A8 ops F o=some true:=by rfl)
 (hop:o.op=.index t p q:=by rfl)(hp:Dw X F p=some (str s):=by rfl)(hq:Dw X F q=some (.val (.int ik n)):=by rfl)(hy:X.ty t=some y:=by rfl)(hyk:y.k=.string:=by rfl)
 (hd:D3 B.fn.ntmps o.dst=true:=by rfl)(he:Go.V.ev X B.fn.ntmps 200 (.inRegion ops l::k) (putF o.dst (.val (.int .u8 b.toNat)) F) S=(K,F',S2):=by rfl):AK X B (.inRegion ops (i::l)::k) F S R:=
 Avy ho hw hop hp hq hy hyk hd h0 hr (Bi 200 he hk)
theorem Pure.run{f:FuncId}{fn:Func}{c:Code}{args:List AV}{r:AV}{S2:St}(hf:X.P.funcs[f]?=some fn)(h:AK X ⟨f,fn,0,0⟩ K F' S2 fun e S=>e=.ret r∧S=⟨[],[]⟩)(hb:fn.body=some c:=by rfl)
 (hl:Nat.ble args.length fn.ntmps=true:=by rfl)(hnm:(fn.name == "runtime.NumGoroutine")=false:=by kernel_rfl)
 (he:Go.V.ev X fn.ntmps 200 [.code c] (Ot 0 args) ⟨[],[]⟩=(K,F',S2):=by rfl):Pure X f args r:=
 Pure.mk hf hb hl hnm (Bi 200 he h)
theorem Az{f:FuncId}{fn:Func}{r:AV}{xs:List AV}{k:List Item}(hf:X.P.funcs[f]?=some fn)(hr0:C8 xs=r)(h:Mf X F S fn.results.toList=some xs:=by rfl) [hr:OK 0 0 r] :
 AK X ⟨f,fn,0,0⟩ (.code .ret::k) F S fun e S'=>e=.ret r∧S'=⟨[],[]⟩:=
 Zj (bx:=[]) (tk:=[]) hf h rfl (by simp[St.drop]) hr0
def P2(N:Nat)(dst:Option Nat)(x:AV)(F:C5):Option C5:=
 match dst with
 |some d=>match Nat.blt d N with
  |true=>some ((d,x)::F)
  |false=>none
 |none=>some F
theorem Gi{N:Nat}{dst:Option Nat}{x:AV}{F F':C5}(h:P2 N dst x F=some F'):D3 N dst=true∧putF dst x F=F':=by
 unfold P2 at h;split at h
 ·split at h
  ·rename_i hb;cases h;exact⟨hb,rfl⟩
  ·cases h
 ·cases h;exact⟨rfl,rfl⟩
variable {N:Nat}{bs:List Nat}{em:Nat}{os:List Oper}{x:AV}{Hs:List St}{pend pend':List J2}{KK:C5→St→Prop}
theorem Av(k:Drv X N ops bs em os (i+1) F' S Hs pend KK)(ho:ops[i]?=some o:=by rfl)(hw:A8 ops F o=some true:=by rfl)(h:∀S',Ej X F S' o.op=some x:=by intro;rfl)(hF:P2 N o.dst x F=some F':=by rfl) :
 Drv X N ops bs em (o::os) i F S Hs pend KK:=by
 obtain⟨h1,rfl⟩:=Gi hF;exact Ak1 ho hw h h1 k
theorem Tu(k:Drv X N ops bs em os (i+1) F' S Hs pend KK)(ho:ops[i]?=some o:=by rfl)(hw:A8 ops F o=some true:=by rfl)(h:∀bx tk,Kl X F ⟨bx,tk⟩ o.op=some (x,⟨bx,tk⟩):=by intro _ _;rfl)(hF:P2 N o.dst x F=some F':=by rfl) :
 Drv X N ops bs em (o::os) i F S Hs pend KK:=by
 obtain⟨h1,rfl⟩:=Gi hF;exact Agu ho hw h h1 k
theorem Eo(h:∀S',Ndo X N ops i o F x S' S')(k:Drv X N ops bs em os (i+1) F' S Hs pend KK)(hF:P2 N o.dst x F=some F':=by rfl):Drv X N ops bs em (o::os) i F S Hs pend KK:=by
 obtain⟨h1,rfl⟩:=Gi hF;exact Kk h h1 k
theorem Js{f:FuncId}{caps xs zs ys:List AV}{r:AV}(hc:Pure X f ys r)(k:Drv X N ops bs em os (i+1) F' S Hs pend KK)(ho:ops[i]?=some o:=by rfl)(hw:A8 ops F o=some true:=by rfl)
 (hop:o.op=.call c:=by rfl)(hcal:c.callee=.value fo:=by rfl)(hfo:Dw X F fo=some (.fn f caps):=by rfl)(hx:Hm X F c.args.toList=some xs:=by rfl)(hzs:Kg xs caps=some zs:=by rfl)
 (hF:P2 N o.dst r F=some F':=by rfl) [hs:RinL [] [] zs ys] [hok:OK 0 0 r]:Drv X N ops bs em (o::os) i F S Hs pend KK:=by
 obtain⟨h1,rfl⟩:=Gi hF;exact Kk (fun S'=>Acu hc ho hw hop hcal hfo hx hzs hok.ok) h1 k
theorem Qb{b:Bool}(b':Bool)(k:Drv X N ops bs em os (i+1) F' S Hs pend KK)(ho:ops[i]?=some o:=by rfl)(hw:A8 ops F o=some true:=by rfl)(h:∀S',Ej X F S' o.op=some (.val (.bool b)):=by intro;rfl)
 (hF:P2 N o.dst (.lit b') F=some F':=by rfl)(hb:b=b':=by rfl):Drv X N ops bs em (o::os) i F S Hs pend KK:=by
 subst hb;obtain⟨h1,rfl⟩:=Gi hF;exact Kk (fun S'=>Awc (Ck ho hw (h S'))) h1 k
theorem Ch(h:Ndo X N ops i o F x S S')(k:Drv X N ops bs em os (i+1) F' S' (S'::Hs) [] KK)(he:em.testBit i=true:=by rfl)(hF:P2 N o.dst x F=some F':=by rfl)(hp:pend.filter (fun p=>!bitOf bs p.1 i)=[]:=by kernel_rfl) :
 Drv X N ops bs em (o::os) i F S Hs pend KK:=by
 obtain⟨h1,rfl⟩:=Gi hF;exact Ary h he h1 hp k
theorem B2{k:List Item}{S2:St}(hk:AK X B K F' S2 R)(he:Go.V.ev X B.fn.ntmps 200 k F S=(K,F',S2):=by rfl):Drv X N ops bs em [] i F S Hs pend fun F1 S1=>AK X B k F1 S1 R:=
 Bi 200 he hk
end
def Amu:List AV→Option AV
 |[x]=>some x
 |xs=>some (.tup xs)
theorem Aif:∀{xs:List AV}{x:AV},Amu xs=some x→C8 xs=x
 |[],x,h=>by simp only[Amu]at h;cases h;rfl
 |[y],x,h=>by simp only[Amu]at h;cases h;rfl
 |y::z::l,x,h=>by simp only[Amu]at h;cases h;rfl
inductive FzL (S:St)(n m:Nat):List AV→List AV→Prop where
 |nil:FzL S n m [] []
 |cons {x y:AV} {l l':List AV} (h:Fz S n m x y) (t:FzL S n m l l'):FzL S n m (x::l) (y::l')
theorem FzL.get{S:St}{n m:Nat}{l l':List AV}(h:FzL S n m l l'):l'.length=l.length∧∀(j:Nat)(x y:AV),l[j]?=some x→l'[j]?=some y→Fz S n m x y:=by
 induction h with
 |nil=>exact⟨rfl,fun j x y h=>by simp at h⟩
 |cons h t ih=>
  refine⟨by simp[ih.1],fun j x y hx hy=>?_⟩;cases j with
  |zero=>simp at hx hy;subst hx;subst hy;exact h
  |succ j=>exact ih.2 j x y (by simpa using hx) (by simpa using hy)
theorem FzL.same{S:St}{n m:Nat}:∀{l:List AV},(∀x,x∈l→Ok n m x)→FzL S n m l l
 |[],_=>.nil
 |x::l,h=>.cons (.same x (h x (by simp))) (FzL.same fun y hy=>h y (by simp[hy]))
inductive FzR (S:St)(n m:Nat):List (List AV)→List (List AV)→Prop where
 |nil:FzR S n m [] []
 |cons {x y:List AV} {l l':List (List AV)} (h:FzL S n m x y) (t:FzR S n m l l'):FzR S n m (x::l) (y::l')
theorem FzR.get{S:St}{n m:Nat}{l l':List (List AV)}(h:FzR S n m l l'):l'.length=l.length∧∀(j:Nat)(x y:List AV),l[j]?=some x→l'[j]?=some y→FzL S n m x y:=by
 induction h with
 |nil=>exact⟨rfl,fun j x y h=>by simp at h⟩
 |cons h t ih=>
  refine⟨by simp[ih.1],fun j x y hx hy=>?_⟩;cases j with
  |zero=>simp at hx hy;subst hx;subst hy;exact h
  |succ j=>exact ih.2 j x y (by simpa using hx) (by simpa using hy)
theorem FzR.same{S:St}{n m:Nat}:∀{l:List (List AV)},He n m l→FzR S n m l l
 |[],_=>.nil
 |x::l,h=>.cons (FzL.same (h x (by simp))) (FzR.same fun y hy=>h y (by simp[hy]))
theorem Azw{S:St}{n m:Nat}{rows rows':List (List AV)}{sp:Sp}(h:FzR S n m rows rows'):Fz S n m (.sl rows sp) (.sl rows' .no):=
 .strip rows rows' sp h.get.1 (fun i r r' h1 h2=>(h.get.2 i r r' h1 h2).get.1) (fun i j r r' x y h1 h2 h3 h4=>(h.get.2 i r r' h1 h2).get.2 j x y h3 h4)
class FzC (S:St)(n m:Nat)(x:AV)(y:outParam AV):Prop where
 s:Fz S n m x y
class FzLC (S:St)(n m:Nat)(x:List AV)(y:outParam (List AV)):Prop where
 s:FzL S n m x y
class FzRC (S:St)(n m:Nat)(x:List (List AV))(y:outParam (List (List AV))):Prop where
 s:FzR S n m x y
section
variable {S:St}{n m:Nat}
instance{v:Value}:FzC S n m (.val v) (.val v):=⟨.same _ (.val v)⟩
instance{rows rows':List (List AV)}{sp:Sp} [h:FzRC S n m rows rows']:FzC S n m (.sl rows sp) (.sl rows' .no):=⟨Azw h.s⟩
instance{l l':List AV} [h:FzLC S n m l l']:FzC S n m (.agg l) (.agg l'):=⟨.agg l l' h.s.get.1 h.s.get.2⟩
instance{l l':List AV} [h:FzLC S n m l l']:FzC S n m (.tup l) (.tup l'):=⟨.tup l l' h.s.get.1 h.s.get.2⟩
instance{f:FuncId}{l:List AV} [h:OKL n m l]:FzC S n m (.fn f l) (.fn f l):=⟨.same _ (.fn f l h.ok)⟩
instance:FzLC S n m [] []:=⟨.nil⟩
instance{x y:AV}{l l':List AV} [h:FzC S n m x y] [t:FzLC S n m l l']:FzLC S n m (x::l) (y::l'):=⟨.cons h.s t.s⟩
instance(priority:=low){l:List AV} [h:OKL n m l]:FzLC S n m l l:=⟨FzL.same h.ok⟩
instance:FzRC S n m [] []:=⟨.nil⟩
instance{x y:List AV}{l l':List (List AV)} [h:FzLC S n m x y] [t:FzRC S n m l l']:FzRC S n m (x::l) (y::l'):=⟨.cons h.s t.s⟩
instance(priority:=low){l:List (List AV)} [h:OKR n m l]:FzRC S n m l l:=⟨FzR.same h.ok⟩
end
section
variable {X:Cx}{B:Bx}{S:St}{F:C5}{R:AE→St→Prop}
theorem As{f:FuncId}{fn:Func}{r x y:AV}{xs:List AV}{k:List Item}(hf:X.P.funcs[f]?=some fn)(hr:y=r)(h:Mf X F S fn.results.toList=some xs:=by rfl)(hx:Amu xs=some x:=by rfl) [hz:FzC S 0 0 x y] :
 AK X ⟨f,fn,0,0⟩ (.code .ret::k) F S fun e S'=>e=.ret r∧S'=⟨[],[]⟩:=by
 subst hr;refine E8 (B:=⟨f,fn,0,0⟩) hf h 0 (Bo _) (by rw[Aif hx];exact hz.s) (fun rows hr=>by simp at hr) ⟨rfl,by simp[St.drop]⟩
end
def Ahr:Op→Bool
 |.load ..=>true
 |_=>false
def Ai8(X:Cx)(F:C5)(S:St)(op:Op):Option AV:=
 match op with
 |.buildSlice ..=>match Kl X F S op with
  |some (x,_)=>some x
  |none=>none
 |_=>none
def Ln(X:Cx)(N:Nat)(ops:Array Oper)(S:St):Nat→List Oper→Nat→C5→List J2→List Oper×Nat×C5×List J2
 |0,os,i,F,p=>(os,i,F,p)
 |_+1,[],i,F,p=>([],i,F,p)
 |n+1,o::os,i,F,p=>match A8 ops F o with
  |some true=>match Ej X F S o.op with
   |some x=>match P2 N o.dst x F with
    |some F'=>match Ahr o.op with
     |true=>Ln X N ops S n os (i+1) F' ((i,o,F,x)::p)
     |false=>Ln X N ops S n os (i+1) F' p
    |none=>(o::os,i,F,p)
   |none=>match Ai8 X F S o.op with
    |some x=>match P2 N o.dst x F with
     |some F'=>Ln X N ops S n os (i+1) F' p
     |none=>(o::os,i,F,p)
    |none=>(o::os,i,F,p)
  |some false=>match P2 N o.dst (.val (.tuple #[])) F with
   |some F'=>Ln X N ops S n os (i+1) F' p
   |none=>(o::os,i,F,p)
  |none=>(o::os,i,F,p)
theorem R4{X:Cx}{F:C5}{S S':St}{op:Op}(h:Ahr op=false):Ej X F S op=Ej X F S' op:=by
 cases op<;>first|rfl|(simp[Ahr]at h;done)|skip
 case pick c a b=>cases c<;>rfl
 case makeFunc f a b=>cases f<;>rfl
 case indexAddr t x y=>
  cases y with
  |const c=>cases c<;>rfl
  |_=>rfl
theorem R2{X:Cx}{F:C5}{S:St}{op:Op}{x:AV}(h:Ai8 X F S op=some x):∀bx tk,Kl X F ⟨bx,tk⟩ op=some (x,⟨bx,tk⟩):=by
 intro bx tk;cases op<;>first|(simp[Ai8]at h;done)|skip
 case buildSlice t n ps=>
  simp only[Ai8,Kl]at h⊢;split at h
  ·rename_i x' S' hm;cases h;split at hm
   ·rename_i y hy;split at hm
    ·rename_i e he;split at hm
     ·rename_i ye hye;split at hm
      ·rename_i hb;split at hm
       ·rename_i a ha;cases hm;rfl
       ·cases hm
      ·cases hm
     ·cases hm
    ·cases hm
   ·cases hm
  ·cases h
section
variable {X:Cx}{B:Bx}{S S':St}{F:C5}{R:AE→St→Prop}{ops:Array Oper}{N:Nat}{bs:List Nat}{em:Nat}{KK:C5→St→Prop}
theorem P9:∀(n:Nat)(os:List Oper)(i:Nat)(F:C5)(pend:List J2),ops.toList.drop i=os →
 Drv X N ops bs em (Ln X N ops S n os i F pend).1 (Ln X N ops S n os i F pend).2.1 (Ln X N ops S n os i F pend).2.2.1 S [S] (Ln X N ops S n os i F pend).2.2.2 KK→Drv X N ops bs em os i F S [S] pend KK
 |0,os,i,F,p,_,h=>h
 |n+1,[],i,F,p,_,h=>h
 |n+1,o::os,i,F,p,hos,h=>by
  have ho:ops[i]?=some o:=by
   have:(ops.toList.drop i)[0]?=some o:=by rw[hos];rfl
   rw[Nz]at this;simpa using this
  have hos':ops.toList.drop (i+1)=os:=by
   have:(ops.toList.drop i).drop 1=os:=by rw[hos];rfl
   rw[Aed]at this;exact this
  unfold Ln at h;split at h
  ·rename_i hw;split at h
   ·rename_i x hx;split at h
    ·rename_i F' hF;obtain⟨h1,rfl⟩:=Gi hF;split at h
     ·exact Aet ho hw hx h1 (P9 n os (i+1) _ _ hos' h)
     ·rename_i hl;exact Ak1 ho hw (fun S'=>by rw[R4 hl];exact hx) h1 (P9 n os (i+1) _ _ hos' h)
    ·exact h
   ·split at h
    ·rename_i x hx;split at h
     ·rename_i F' hF;obtain⟨h1,rfl⟩:=Gi hF;exact Agu ho hw (R2 hx) h1 (P9 n os (i+1) _ _ hos' h)
     ·exact h
    ·exact h
  ·rename_i hw;split at h
   ·rename_i F' hF;obtain⟨h1,rfl⟩:=Gi hF;exact Kk (fun S'=>X1 ho hw) h1 (P9 n os (i+1) _ _ hos' h)
   ·exact h
  ·exact h
theorem Fx{os os':List Oper}{i i':Nat}{F':C5}{pend pend':List J2}(k:Drv X N ops bs em os' i' F' S [S] pend' KK)(h:Ln X N ops S 100 os i F pend=(os',i',F',pend'):=by rfl)(hos:ops.toList.drop i=os:=by rfl) :
 Drv X N ops bs em os i F S [S] pend KK:=
 P9 100 os i F pend hos (by rw[h];exact k)
theorem M0{os os':List Oper}{i i':Nat}{F':C5}{pend pend':List J2}(n:Nat)(k:Drv X N ops bs em os' i' F' S [S] pend' KK)(h:Ln X N ops S n os i F pend=(os',i',F',pend'):=by rfl)(hos:ops.toList.drop i=os:=by rfl) :
 Drv X N ops bs em os i F S [S] pend KK:=
 P9 n os i F pend hos (by rw[h];exact k)
theorem Hw{id i':Nat}{k:List Item}{os':List Oper}{F':C5}{pend':List J2}(em n:Nat)(hk:Drv X B.fn.ntmps ops (Iq ops.toList []) em os' i' F' S [S] pend' fun F1 S1=>AK X B k F1 S1 R)
 (hst:R0 ops (Iq ops.toList []) em=true:=by kernel_rfl)(h:Ln X B.fn.ntmps ops S n ops.toList 0 F []=(os',i',F',pend'):=by rfl):AK X B (.code (.region id ops true)::k) F S R:=
 De em hst (M0 n hk h)
theorem Hd{i:Nat}{o:Oper}{c:Call}{fo:Operand}{f:FuncId}{caps xs zs ys:List AV}{r y:AV}{bx1 bx2 bxc bx3:List (List (List AV))}{tkc tk1:List Nat}
 (σ τ:List Nat)(hc:Hands X f ys ⟨bxc,tkc⟩ y ⟨bx1,tk1⟩)(ho:ops[i]?=some o:=by rfl)(hw:A8 ops F o=some true:=by rfl)(hop:o.op=.call c:=by rfl)(hcal:c.callee=.value fo:=by rfl)
 (hfo:Dw X F fo=some (.fn f caps):=by rfl)(hx:Hm X F c.args.toList=some xs:=by rfl)(hzs:Kg xs caps=some zs:=by rfl)(hσ:Kh σ=true:=by rfl)(hτ:Kh τ=true:=by rfl)
 (hσl:(σ.all fun i=>Nat.blt i S.boxes.length)=true:=by rfl)(hτl:(τ.all fun t=>Nat.blt t S.toks.length)=true:=by rfl)(hsb:Aen σ S.boxes=some bx2:=by rfl) [hb:RinB σ τ bx2 bxc]
 (ht:τ.map (fun t=>S.toks.getD t 0)=tkc:=by rfl) [ha:RinL σ τ zs ys](hb1:bx1.length=σ.length:=by rfl)(ht1:Nat.ble τ.length tk1.length=true:=by rfl){τ':List Nat}
 (hτ':H2 τ S.toks.length (tk1.length-τ.length)=τ':=by rfl) [hR:RoutB σ τ' bx3 bx1] [hr:RoutC σ τ' r y](hS':St.mk (upd S.boxes σ bx3) (upd S.toks τ tk1++tk1.drop τ.length)=S':=by rfl) :
 Ndo X N ops i o F r S S':=
 Vj σ τ hc ho hw hop hcal hfo hx hzs hσ hτ hσl hτl hsb ht hb1 ht1 hτ' hS'
theorem Dz{os:List Oper}{i:Nat}{o:Oper}{x:AV}{F':C5}{Hs:List St}{pend:List J2}(h:Ndo X N ops i o F x S S')(hr:∀p,p∈pend→Ndo X N ops p.1 p.2.1 p.2.2.1 p.2.2.2 S' S')
 (k:Drv X N ops bs em os (i+1) F' S' (S'::Hs) (pend.filter fun p=>!bitOf bs p.1 i) KK)(he:em.testBit i=true:=by rfl)(hF:P2 N o.dst x F=some F':=by rfl):Drv X N ops bs em (o::os) i F S Hs pend KK:=by
 obtain⟨h1,rfl⟩:=Gi hF;exact Ang h he h1 rfl (fun p hp=>hr p (zzq56.1 hp).1) k
theorem A2{os:List Oper}{i:Nat}{o:Oper}{x:AV}{F':C5}{pend:List J2}(h:Ndo X N ops i o F x S S)(k:Drv X N ops bs em os (i+1) F' S [S] ((i,o,F,x)::pend) KK)(hF:P2 N o.dst x F=some F':=by rfl) :
 Drv X N ops bs em (o::os) i F S [S] pend KK:=by
 obtain⟨h1,rfl⟩:=Gi hF;exact P8 (An h Gy) h1 k
theorem Ana{id i':Nat}{k K:List Item}{F' F2:C5}{S2:St}{pend':List J2}(hk:AK X B K F2 S2 R)(hst:R0 ops (Iq ops.toList []) 0=true:=by kernel_rfl)(h:Ln X B.fn.ntmps ops S 100 ops.toList 0 F []=([],i',F',pend'):=by rfl)
 (he:Go.V.ev X B.fn.ntmps 200 k F' S=(K,F2,S2):=by rfl):AK X B (.code (.region id ops true)::k) F S R:=
 De 0 hst (Fx (os':=[]) (Arx (Bi 200 he hk)) h)
theorem D8{id i':Nat}{k:List Item}{os':List Oper}{F':C5}{pend':List J2}(em:Nat)(hk:Drv X B.fn.ntmps ops (Iq ops.toList []) em os' i' F' S [S] pend' fun F1 S1=>AK X B k F1 S1 R)
 (hst:R0 ops (Iq ops.toList []) em=true:=by kernel_rfl)(h:Ln X B.fn.ntmps ops S 100 ops.toList 0 F []=(os',i',F',pend'):=by rfl):AK X B (.code (.region id ops true)::k) F S R:=
 De em hst (Fx hk h)
theorem Bq{f:FuncId}{fn:Func}{n m:Nat}{bx:List (List (List AV))}{tk:List Nat}{r x y:AV}{xs:List AV}{k:List Item}(hf:X.P.funcs[f]?=some fn)(hr:y=r)(hS:S.drop n tk.length=⟨bx,tk⟩)
 (h:Mf X F S fn.results.toList=some xs:=by rfl)(hx:Amu xs=some x:=by rfl)(hm:Nat.ble m tk.length=true:=by rfl) [hz:FzC S n tk.length x y] [hbox:OKB n tk.length bx] :
 AK X ⟨f,fn,n,m⟩ (.code .ret::k) F S fun e S'=>e=.ret r∧S'=⟨bx,tk⟩:=by
 subst hr;refine E8 (B:=⟨f,fn,n,m⟩) hf h tk.length (Jz hm) (by rw[Aif hx];exact hz.s) ?_ ⟨rfl,hS⟩;have:S.boxes.take n=bx:=by have:=congrArg St.boxes hS;exact this
 show ∀rows,rows∈S.boxes.take n→He n tk.length rows;rw[this];exact hbox.ok
theorem Ec{f:FuncId}{fn:Func}{n m:Nat}{bx:List (List (List AV))}{tk:List Nat}{r x y:AV}{xs:List AV}(hf:X.P.funcs[f]?=some fn)(hr:y=r)(hS:S.drop n tk.length=⟨bx,tk⟩)
 (h:Mf X F S fn.results.toList=some xs:=by rfl)(hx:Amu xs=some x:=by rfl)(hm:Nat.ble m tk.length=true:=by rfl) [hz:FzC S n tk.length x y] [hbox:OKB n tk.length bx] :
 AK X ⟨f,fn,n,m⟩ [] F S fun e S'=>e=.ret r∧S'=⟨bx,tk⟩:=by
 subst hr;refine Anb (B:=⟨f,fn,n,m⟩) hf h tk.length (Jz hm) (by rw[Aif hx];exact hz.s) ?_ ⟨rfl,hS⟩;have:S.boxes.take n=bx:=by have:=congrArg St.boxes hS;exact this
 show ∀rows,rows∈S.boxes.take n→He n tk.length rows;rw[this];exact hbox.ok
theorem Hands.run{f:FuncId}{fn:Func}{c:Code}{args:List AV}{r:AV}{bx bx':List (List (List AV))}{tk tk':List Nat}{n m:Nat}{K:List Item}{F':C5}{S2:St}(hf:X.P.funcs[f]?=some fn)
 (h:AK X ⟨f,fn,n,m⟩ K F' S2 fun e S=>e=.ret r∧S=⟨bx',tk'⟩)(hb:fn.body=some c:=by rfl)(hl:Nat.ble args.length fn.ntmps=true:=by rfl)(hnm:(fn.name == "runtime.NumGoroutine")=false:=by kernel_rfl)
 (hn:Z8 bx=n:=by rfl)(hm:tk.length=m:=by rfl)(he:Go.V.ev X fn.ntmps 200 [.code c] (Ot 0 args) ⟨bx,tk⟩=(K,F',S2):=by rfl):Hands X f args ⟨bx,tk⟩ r ⟨bx',tk'⟩:=
 Hands.mk hf hb hl hnm (by rw[←J5];exact hn) hm (Bi 200 he h)
theorem Ae{i:Nat}{l:List Nat}{k:List Item}{o:Oper}{c:Call}{fo:Operand}{f:FuncId}{caps xs zs ys:List AV}{r y:AV}{bx1 bx2 bxc bx3:List (List (List AV))}{tkc tk1:List Nat}{K:List Item}{F':C5}{S2:St}
 (σ τ:List Nat)(hc:Hands X f ys ⟨bxc,tkc⟩ y ⟨bx1,tk1⟩)(hk:AK X B K F' S2 R)(ho:ops[i]?=some o:=by rfl)(hw:A8 ops F o=some true:=by rfl)(hop:o.op=.call c:=by rfl)(hcal:c.callee=.value fo:=by rfl)
 (hfo:Dw X F fo=some (.fn f caps):=by rfl)(hx:Hm X F c.args.toList=some xs:=by rfl)(hzs:Kg xs caps=some zs:=by rfl)(hσ:Kh σ=true:=by rfl)(hτ:Kh τ=true:=by rfl)
 (hσl:(σ.all fun i=>Nat.blt i S.boxes.length)=true:=by rfl)(hτl:(τ.all fun t=>Nat.blt t S.toks.length)=true:=by rfl)(hsb:Aen σ S.boxes=some bx2:=by rfl) [hb:RinB σ τ bx2 bxc]
 (ht:τ.map (fun t=>S.toks.getD t 0)=tkc:=by rfl) [ha:RinL σ τ zs ys](hb1:bx1.length=σ.length:=by rfl)(ht1:Nat.ble τ.length tk1.length=true:=by rfl){τ':List Nat}
 (hτ':H2 τ S.toks.length (tk1.length-τ.length)=τ':=by rfl) [hR:RoutB σ τ' bx3 bx1] [hr:RoutC σ τ' r y](hS':St.mk (upd S.boxes σ bx3) (upd S.toks τ tk1++tk1.drop τ.length)=S':=by rfl)
 (hd:D3 B.fn.ntmps o.dst=true:=by rfl)(he:Go.V.ev X B.fn.ntmps 200 (.inRegion ops l::k) (putF o.dst r F) S'=(K,F',S2):=by rfl):AK X B (.inRegion ops (i::l)::k) F S R:=
 Hi (Vj σ τ hc ho hw hop hcal hfo hx hzs hσ hτ hσl hτl hsb ht hb1 ht1 hτ' hS') ho hd (Bi 200 he hk)
end
section
variable {X:Cx}{B:Bx}{E:Env}{S:St}{w:World}{F:C5}{R:AE→St→Prop}
theorem Inv.mintB(hI:Inv X E S w){b r j:Nat}{rows:List (List AV)}{cs:List AV}{sl:List (List AV)}(hb:S.boxes[b]?=some rows)(hr:rows[r]?=some cs)(hc:cs[j]?=some (.sl sl .tight)) :
 Inv X (E.mint sl.length) ⟨S.boxes.set b (rows.set r (cs.set j (.sl sl (.tok S.toks.length)))),S.toks++[sl.length]⟩ w:=by
 have h:=hI.mint sl.length;exact{ h with
  nb:=by have:=h.nb;simpa using this
  box:=fun i blk sz rows' h1 h2=>by
   rcases Eu h2 with⟨rfl,rfl⟩|⟨_,h2⟩
   ·obtain⟨arr,e,hh,hs,hl,hrel⟩:=hI.box i blk sz rows h1 hb;refine⟨arr,e,hh,by simpa using hs,fun q hq=>?_,fun k q p x v hk hp hv=>?_⟩
    ·rcases Wt hq with hq|rfl
     ·exact hl q hq
     ·simpa using hl cs (Bh hr)
    ·rcases Eu hk with⟨rfl,rfl⟩|⟨_,hk⟩
     ·rcases Eu hp with⟨rfl,rfl⟩|⟨_,hp⟩
      ·exact Rel.mint hI (hrel k cs p _ v hr hc hv)
      ·exact(hrel k cs p x v hr hp hv).step (M7 E w sl.length)
     ·exact(hrel k q p x v hk hp hv).step (M7 E w sl.length)
   ·exact h.box i blk sz rows' h1 h2 }
theorem En{K:List Item}(b r j:Nat){m:Nat}{rows:List (List AV)}{cs:List AV}{sl:List (List AV)}{bx:List (List (List AV))}{tk:List Nat}(hb:S.boxes[b]?=some rows)(hr:rows[r]?=some cs)
 (hc:cs[j]?=some (.sl sl .tight))(hn:S.toks.length=m)(hbx:S.boxes.set b (rows.set r (cs.set j (.sl sl (.tok m))))=bx)(htk:S.toks++[sl.length]=tk)(hk:AK X B K F ⟨bx,tk⟩ R):AK X B K F S R:=by
 subst hn;subst hbx;subst htk;intro E w a b' cs' hI hF hn hm hb';have ev:=M7 E w sl.length;have nt:E.toks.length=S.toks.length:=by rw[←hI.nt];simp
 exact Fin.from (Steps.refl _ _) (ev.weaken (by rw[hI.nb];exact hn) (by omega)) (hk (E.mint sl.length) w a b' cs' (hI.mintB hb hr hc) (hF.mint sl.length) (by simpa using hn) (by simp;omega) hb')
end
section
variable {X:Cx}{B:Bx}{S S':St}{F:C5}{N:Nat}{R:AE→St→Prop}{ops:Array Oper}{i:Nat}{o:Oper}{x y:AV}
theorem Ren.less{E:Env}{w:World}{v:Value}(h:Ren true [] [] x y)(hv:Rel E w v x):Rel E w v y:=
 h.fwd (fun _ _ h=>h) (fun _ _ _ h=>by simp at h) (fun _ _ _ h=>by simp at h) hv
theorem Ale(h:Ndo X N ops i o F x S S') [hw:RinC [] [] x y]:Ndo X N ops i o F y S S':=by
 intro F' E w a hl hI hF b k cs rest;obtain⟨v,w',⟨E',h1,h2,h3⟩,h4⟩:=h F' E w a hl hI hF b k cs rest;exact⟨v,w',⟨E',h1,h2,hw.s.less h3⟩,h4⟩
theorem Ait{K:List Item}(d:Nat)(hk:AK X B K ((d,y)::F) S R)(hx:lk F d=some x:=by rfl) [hw:RinC [] [] x y]:AK X B K F S R:=by
 intro E w a b cs hI hF hn hm hb;refine hk E w a b cs hI ⟨hF.size,hF.nod,fun k z hz=>?_⟩ hn hm hb;rw[J7]at hz;split at hz
 ·rename_i he;subst he;cases hz;obtain⟨v,h1,h2⟩:=hF.rel _ _ hx;exact⟨v,h1,hw.s.less h2⟩
 ·exact hF.rel k z hz
end
section
variable {X:Cx}{B:Bx}{E:Env}{S S':St}{w:World}{F:C5}{a:Act}{N:Nat}{R:AE→St→Prop}{ops:Array Oper}{i:Nat}{o:Oper}
def Thr(X:Cx)(N:Nat)(ops:Array Oper)(i:Nat)(o:Oper)(F:C5)(S:St)(ch:List PanicEntry)(S':St):Prop:=
 ∀(F':C5) (E:Env) (w:World) (a:Act),(∀t,t∈o.looksAt ops→lk F' t=lk F t)→Inv X E S w→FR E w F' a N →
  ∀(b:Frame) (k:List Item) (cs:List Frame) (rest:List Nat),∃E' w' fr,Inv X E' S' w'∧Evol E w E' w' E.boxes.length E.toks.length∧fr.fn=b.fn∧fr.mode=.panicking ch∧fr.defers=a.defers∧fr.tmps=a.tmps∧fr.kind=b.kind ∧
   Steps X.P (lone (b.at a (.inRegion ops (i::rest)::k)) cs w) (lone fr cs w')
theorem Ae6{K:List Item}(hf:X.P.funcs[B.f]?=some B.fn){ch:List PanicEntry}(m:Nat)(hm:B.m≤m)(hbox:∀rows,rows∈S'.boxes.take B.n→He B.n m rows)(hR:R (.panic ch) (S'.drop B.n m))
 (h:∀(E:Env)(w:World)(a:Act)(b:Frame)(cs:List Frame),Inv X E S w→FR E w F a B.fn.ntmps→b.fn=B.f→∃E' w' fr,Inv X E' S' w'∧Evol E w E' w' E.boxes.length E.toks.length∧fr.fn=b.fn∧fr.mode=.panicking ch ∧
   fr.defers=a.defers∧Steps X.P (lone (b.at a K) cs w) (lone fr cs w')):AK X B K F S R:=by
 intro E w a b cs hI hF hn hm' hb;obtain⟨E',w',fr,h1,h2,h3,h4,h5,h6⟩:=h E w a b cs hI hF hb;have nt:E.toks.length=S.toks.length:=by rw[←hI.nt];simp
 refine .inl ⟨.panicked ch,w',fr,⟨E'.drop B.n m,S'.drop B.n m,h1.drop hbox,(h2.weaken (by rw[hI.nb];exact hn) (by omega)).trans ((Evol.drop E' w' B.n m).weaken (Bo _) hm),hR⟩,h6,h3.trans hb,h4,h5.trans hF.nod,B.fn,?_⟩;rw[h3,hb];exact hf
theorem Arw{l:List Nat}{k:List Item}(hf:X.P.funcs[B.f]?=some B.fn){ch:List PanicEntry}(h:Thr X B.fn.ntmps ops i o F S ch S')(m:Nat)(hm:B.m≤m)
 (hbox:∀rows,rows∈S'.boxes.take B.n→He B.n m rows)(hR:R (.panic ch) (S'.drop B.n m)):AK X B (.inRegion ops (i::l)::k) F S R:=
 Ae6 hf m hm hbox hR fun E w a b cs hI hF _=>by
  obtain⟨E',w',fr,h1,h2,h3,h4,h5,_,_,h6⟩:=h F E w a (fun _ _=>rfl) hI hF b k cs l;exact⟨E',w',fr,h1,h2,h3,h4,h5,h6⟩
def Throws(X:Cx)(f:FuncId)(args:List AV)(S:St)(ch:List PanicEntry)(S1:St):Prop:=
 Nr X.P f∧ACalls X f args S fun e S'=>e=.panic ch∧S'=S1
theorem Thr.hand{c:Call}{fo:Operand}{f:FuncId}{caps xs zs ys:List AV}{ch:List PanicEntry}{Sc:St}{bx1 bx2:List (List (List AV))}{tk1:List Nat}
 (hE:Nr X.P f)(hc:ACalls X f ys Sc fun e S1=>e=.panic ch∧S1=⟨bx1,tk1⟩)(σ τ:List Nat)(ho:ops[i]?=some o)(hw:A8 ops F o=some true)(hop:o.op=.call c)(hcal:c.callee=.value fo)
 (hfo:Dw X F fo=some (.fn f caps))(hx:Hm X F c.args.toList=some xs)(hzs:xs++caps=zs)(hσ:σ.Nodup)(hτ:τ.Nodup)(hσl:∀i,i∈σ→i<S.boxes.length)(hτl:∀t,t∈τ→t<S.toks.length)
 (hsb:σ.map (fun i=>S.boxes.getD i [])=bx2){bxc:List (List (List AV))}(hb:RenB true σ τ bx2 bxc)(ht:τ.map (fun t=>S.toks.getD t 0)=Sc.toks)(hSc:Sc.boxes=bxc)(ha:RenL true σ τ zs ys)
 (hb1:bx1.length=σ.length)(ht1:τ.length≤tk1.length){bx3:List (List (List AV))}(hR:RenB false σ (H2 τ S.toks.length (tk1.length-τ.length)) bx3 bx1)
 (hS':St.mk (upd S.boxes σ bx3) (upd S.toks τ tk1++tk1.drop τ.length)=S'):Thr X N ops i o F S ch S':=by
 subst hS';subst hzs;subst hsb;subst hSc;intro F' E w a hl hI hF b k cs rest;have nt:E.toks.length=S.toks.length:=by rw[←hI.nt];simp
 have hτl':∀t,t∈τ→t<E.toks.length:=fun t h=>by rw[nt];exact hτl t h
 obtain⟨l1,l2⟩:=Ru (X:=X) hop hcal hl;obtain⟨vs,h1,h2,h3⟩:=Qh hop hcal hE hI hF (l1.trans hfo) (l2.trans hx);have hsl:Sc.boxes.length=σ.length:=by have:=hb.get.1;simpa using this
 have htl:Sc.toks.length=τ.length:=by rw[←ht];simp
 have hcalls:=hc (E.sub σ τ) w vs rfl (hI.sub hσ hτ hτl' hb hσl ht) (by rw[h2,ha.get.1]) (fun j v y hv hy=>by
  obtain⟨x,hx⟩:=Ab (xs++caps) (i:=j) (by have:=Aa hy;rw[ha.get.1]at this;exact this);exact(ha.get.2 j x y hx hy).fwd (fun b o=>Sz hτl') (fun i j q h1 h2=>I8.2 ⟨i,h1,h2⟩) (fun i j k h1 h2=>(J9 hτl').2 ⟨i,h1,h2⟩) (h3 j v x hv hx))
 have hg:=stepG_op (P:=X.P) (b:=b) (k:=k) (cs:=cs) (w:=w) (rest:=rest) ho (Cr hF (by rw[C6 hl];exact hw));obtain⟨e,w',fr,⟨E1,S1,d1,d2,d3⟩,h6,_,h8⟩:=hcalls (b.at a (.inRegion ops (i::rest)::k)::cs);rw[hsl,htl]at d2;have henter:Go.step X.P (lone (b.at a (.inRegion ops (i::rest)::k)) cs w) =
  .next (lone (Frame.enter X.P f vs .normal) (b.at a (.inRegion ops (i::rest)::k)::cs) w):=
  step_lone_go (by rw[hg];simp[stepG.apply,h1,Frame.at])
 cases e with
 |returned v=>obtain⟨r',_,h,_⟩:=d3;cases h
 |outgrown=>exact d3.elim
 |panicked ch'=>
  obtain⟨h,rfl⟩:=d3;cases h;obtain⟨b1,b2,_⟩:=Anm hI d1 d2 hσ hτ hσl hτl' hb1 ht1 hR;exact⟨E.back E1 τ,w',(b.at a (.inRegion ops (i::rest)::k)).raise ch,b2,b1,rfl,rfl,rfl,rfl,rfl,.head henter (Steps.trans h6 (.one (step_leave_panicked h8)))⟩
theorem Thr.hd{c:Call}{fo:Operand}{f:FuncId}{caps xs zs ys:List AV}{ch:List PanicEntry}{bx1 bx2 bxc bx3:List (List (List AV))}{tkc tk1:List Nat}
 (σ τ:List Nat)(hc:Throws X f ys ⟨bxc,tkc⟩ ch ⟨bx1,tk1⟩)(ho:ops[i]?=some o:=by rfl)(hw:A8 ops F o=some true:=by rfl)(hop:o.op=.call c:=by rfl)(hcal:c.callee=.value fo:=by rfl)
 (hfo:Dw X F fo=some (.fn f caps):=by rfl)(hx:Hm X F c.args.toList=some xs:=by rfl)(hzs:Kg xs caps=some zs:=by rfl)(hσ:Kh σ=true:=by rfl)(hτ:Kh τ=true:=by rfl)
 (hσl:(σ.all fun i=>Nat.blt i S.boxes.length)=true:=by rfl)(hτl:(τ.all fun t=>Nat.blt t S.toks.length)=true:=by rfl)(hsb:Aen σ S.boxes=some bx2:=by rfl) [hb:RinB σ τ bx2 bxc]
 (ht:τ.map (fun t=>S.toks.getD t 0)=tkc:=by rfl) [ha:RinL σ τ zs ys](hb1:bx1.length=σ.length:=by rfl)(ht1:Nat.ble τ.length tk1.length=true:=by rfl){τ':List Nat}
 (hτ':H2 τ S.toks.length (tk1.length-τ.length)=τ':=by rfl) [hR:RoutB σ τ' bx3 bx1](hS':St.mk (upd S.boxes σ bx3) (upd S.toks τ tk1++tk1.drop τ.length)=S':=by rfl) :
 Thr X N ops i o F S ch S':=by
 subst hτ';exact Thr.hand hc.1 hc.2 σ τ ho hw hop hcal hfo hx (Rv hzs) (Od hσ) (Od hτ) (Ag1 hσl) (Ag1 hτl) (Ahl [] hsb) hb.s ht rfl ha.s hb1 (Jz ht1) hR.s hS'
theorem Thr.go{p:Operand}{t:TypeId}{v:Value}(ho:ops[i]?=some o:=by rfl)(hw:A8 ops F o=some true:=by rfl)(hop:o.op=.panic p:=by rfl)(hp:Dw X F p=some (.val (.iface t v)):=by rfl) :
 Thr X N ops i o F S [{ v:=.iface t v,recovered:=false }] S:=by
 intro F' E w a hl hI hF b k cs rest;have h1:=Ak hI hF (o:=p) (x:=.val (.iface t v)) (by
  have:=G0 hl;rw[hop]at this;rw[←hp];exact Dk fun q hq=>this q (by simp[Op.operands,hq]))
 have hg:=stepG_op (P:=X.P) (b:=b) (k:=k) (cs:=cs) (w:=w) (rest:=rest) ho (Cr hF (by rw[C6 hl];exact hw));have hv:a.eval p=.iface t v:=by
  generalize a.eval p=u at h1;cases h1;rfl
 have hr:(execOp a.eval o).run X.P w=.halt (.panic (.iface t v)) w:=by
  simp[execOp,hop,hv,Instr.panic,goPanic]
 refine⟨E,w,(b.at a (.inRegion ops (i::rest)::k)).raise [{ v:=.iface t v,recovered:=false }],hI,Evol.refl _ _ _ _,rfl,rfl,rfl,rfl,rfl,.one (step_lone_go ?_)⟩;rw[hg];simp[stepG.apply,hr]
theorem Throws.run{f:FuncId}{fn:Func}{c:Code}{args:List AV}{ch:List PanicEntry}{bx bx':List (List (List AV))}{tk tk':List Nat}{n m:Nat}{K:List Item}{F':C5}{S2:St}(hf:X.P.funcs[f]?=some fn)
 (h:AK X ⟨f,fn,n,m⟩ K F' S2 fun e S=>e=.panic ch∧S=⟨bx',tk'⟩)(hb:fn.body=some c:=by rfl)(hl:Nat.ble args.length fn.ntmps=true:=by rfl)(hnm:(fn.name == "runtime.NumGoroutine")=false:=by kernel_rfl)
 (hn:Z8 bx=n:=by rfl)(hm:tk.length=m:=by rfl)(he:Go.V.ev X fn.ntmps 200 [.code c] (Ot 0 args) ⟨bx,tk⟩=(K,F',S2):=by rfl):Throws X f args ⟨bx,tk⟩ ch ⟨bx',tk'⟩:=
 ⟨⟨fn,hf,hnm,by rw[hb];rfl⟩,Jq hf hb hl (by rw[←J5];exact hn) hm (Bi 200 he h)⟩
theorem Fu{f:FuncId}{fn:Func}{n m:Nat}{ch:List PanicEntry}{bx:List (List (List AV))}{tk:List Nat}{l:List Nat}{k:List Item}(hf:X.P.funcs[f]?=some fn)(h:Thr X fn.ntmps ops i o F S ch S')
 (hS:S'.drop n tk.length=⟨bx,tk⟩)(hm:Nat.ble m tk.length=true:=by rfl) [hbox:OKB n tk.length bx] :
 AK X ⟨f,fn,n,m⟩ (.inRegion ops (i::l)::k) F S fun e S'=>e=.panic ch∧S'=⟨bx,tk⟩:=by
 refine Arw (B:=⟨f,fn,n,m⟩) hf h tk.length (Jz hm) ?_ ⟨rfl,hS⟩;have:S'.boxes.take n=bx:=by have:=congrArg St.boxes hS;exact this
 show ∀rows,rows∈S'.boxes.take n→He n tk.length rows;rw[this];exact hbox.ok
end
section
variable {X:Cx}{B:Bx}{E:Env}{S S1:St}{w:World}{F:C5}{a:Act}{N:Nat}{R:AE→St→Prop}{ops:Array Oper}{bs:List Nat}{em i0:Nat}{ch:List PanicEntry}
def Asd(bs:List Nat)(i0 j:Nat):Prop:=bitOf bs i0 j=false∧j≠i0
structure DT (X:Cx)(N:Nat)(ops:Array Oper)(bs:List Nat)(em i0:Nat)(ch:List PanicEntry)(S1:St)(eff:Nat→Bool)(x:Nat→AV)(FF:Nat→C5)(SS:Nat→St):Prop where
 step:∀j,j<ops.size→∀o,ops[j]?=some o→FF (j+1)=putF o.dst (x j) (FF j)
 dok:∀j,j<ops.size→Asd bs i0 j→∀o,ops[j]?=some o→D3 N o.dst=true
 eff0:∀j,j<ops.size→eff j=false→SS (j+1)=SS j
 eff1:∀j,j<ops.size→eff j=true→∀o,ops[j]?=some o→j<i0∧em.testBit j=true∧Ndo X N ops j o (FF j) (x j) (SS j) (SS (j+1))
 will:∀j,j<ops.size→Asd bs i0 j→eff j=false→∀o,ops[j]?=some o→∀p,p≤i0→(∀e,j≤e→e<p→eff e=true→bitOf bs j e=false)→Ndo X N ops j o (FF j) (x j) (SS p) (SS p)
 lt:i0<ops.size
 bit:em.testBit i0=true
 thr:∀o,ops[i0]?=some o→Thr X N ops i0 o (FF i0) (SS i0) ch S1
theorem As0(dk:DrawOk ops bs em){eff:Nat→Bool}{x:Nat→AV}{FF:Nat→C5}{SS:Nat→St}
 (D:DT X N ops bs em i0 ch S1 eff x FF SS)(hF0:FF 0=F)(k:List Item):∀(fuel t:Nat)(listed:Array Bool)(a:Act)(w:World)(E:Env)(p:Nat),
 listed.size=ops.size→Closed ops listed→p≤i0→(∀e,e<ops.size→eff e=true→(listed.getD e false=true↔e<p))→(∀j,listed.getD j false=true→Asd bs i0 j)→Abs listed ops.size≤fuel →
 Inv X E (SS p) w→FR E w (FD ops x (listed.getD · false) F ops.size) a N→∀(b:Frame) (cs:List Frame),
  ∃E' w' fr,Inv X E' S1 w'∧Evol E w E' w' E.boxes.length E.toks.length∧fr.fn=b.fn∧fr.mode=.panicking ch∧fr.defers=E.df ∧
   Steps X.P (lone (b.at a (.inRegion ops (Region.linearise.go .any ops fuel t listed [])::k)) cs w) (lone fr cs w'):=by
 have hFF:∀n,n≤ops.size→FF n=FD ops x (fun _=>true) F n:=by
  intro n
  induction n with
  |zero=>intro _;exact hF0
  |succ n ih=>
   intro hn;have ho:ops[n]?=some ops[n]:=by simp[show n<ops.size by omega]
   rw[D.step n (by omega) _ ho,ih (by omega)];simp[FD,ho]
 have hSS:∀p q,p≤q→q≤ops.size→(∀e,p≤e→e<q→eff e=false)→SS q=SS p:=by
  intro p q hpq
  induction q with
  |zero=>intro _ _;rw[show p=0 by omega]
  |succ q ih=>
   intro hq he;by_cases h:p=q+1
   ·rw[h]
   ·rw[D.eff0 q (by omega) (he q (by omega) (by omega))];exact ih (by omega) (by omega) (fun e h1 h2=>he e h1 (by omega))
 have hlt:=D.lt;intro fuel
 induction fuel with
 |zero=>
  intro t listed a w E p hs hc hp hpe hlive hcnt hI hF b cs;exfalso;cases hl:listed.getD i0 false with
  |true=>exact(hlive _ hl).2 rfl
  |false=>
   have:i0∈(List.range ops.size).filter fun j=>!listed.getD j false:=zzq56.2 ⟨zzq53.2 hlt,by simp only[hl];rfl⟩;unfold Abs at hcnt;have:=List.length_pos_of_mem this;omega
 |succ fuel ih=>
  intro t listed a w E p hs hc hp hpe hlive hcnt hI hF b cs;simp only[Region.linearise.go];change ∃E' w' fr,_∧_∧_∧_∧_∧Steps X.P (lone (b.at a (.inRegion ops (match(Region.ready .any ops listed)[t%(Region.ready .any ops listed).length]? with
   |some i=>Region.linearise.go .any ops fuel (t/(Region.ready .any ops listed).length) (listed.setIfInBounds i true) [i]
   |none=>[].reverse)::k)) cs w) (lone fr cs w')
  cases hi:(Region.ready .any ops listed)[t%(Region.ready .any ops listed).length]? with
  |none=>
   exfalso;have hnil:Region.ready .any ops listed=[]:=by
    cases hr:Region.ready .any ops listed with
    |nil=>rfl
    |cons y ys=>
     rw[hr]at hi;have hlt:t%(y::ys).length<(y::ys).length:=Nat.mod_lt _ (by simp);simp at hi;simp at hlt;omega
   exact(hlive _ (W6 dk.bits hs hnil i0 hlt)).2 rfl
  |some i=>
   obtain⟨hin,hil,o,ho,hafter⟩:=Aab (Bh hi);have hilf:listed.getD i false=false:=by
    have:i<listed.size:=by omega
    simp[Array.getD,this]at hil⊢;exact hil
   simp only[];rw[linearise_go_acc,List.reverse_singleton,Akv];have rbit:∀e,e<ops.size→bitOf bs e i=true→listed.getD e false=true:=fun e he hbit=>by
    have hk:=zzq48.1 dk.bits i (zzq53.2 hin);rw[ho]at hk;simp only[Dd,zzq54]at hk;unfold bitOf at hbit;rw[hk.1]at hbit;rcases Qe bs e _ 0 hbit with h|⟨e',he',hbe,h⟩
    ·simp at h
    ·have hl':=hafter e' he' hbe;rcases h with rfl|h
     ·exact hl'
     ·have:e'.on<ops.size:=by
       have h2:=zzq48.1 hk.2 e' he';simp only[hbe,Bool.not_true,Vf]at h2;have:e'.on<i:=by simpa[Fw]using h2
       omega
      exact hc.bit dk.bits e'.on e this hl' h
   have notbit:∀e,e<ops.size→listed.getD e false=true→bitOf bs i e=false:=fun e he hl=>by
    cases hb:bitOf bs i e with
    |false=>rfl
    |true=>have:=hc.bit dk.bits e i he hl hb;rw[hilf]at this;cases this
   have hagree:∀t,t∈o.looksAt ops→lk (FD ops x (listed.getD · false) F ops.size) t=lk (FF i) t:=fun t ht=>by
    rw[hFF i (by omega)];by_cases hw:∃(j:Nat) (oj:Oper),ops[j]?=some oj∧oj.dst=some t
    ·obtain⟨j,oj,hj,hd⟩:=hw;have hjn:j<ops.size:=by
      rcases Gs j ops.size with h|h
      ·exact h
      ·rw[Abv h]at hj;cases hj
     have hu:∀(j':Nat) (o':Oper),j≠j'→ops[j']?=some o'→o'.dst≠some t:=fun j' o' hne ho'=>dk.dsts j j' oj o' hj ho' hne t hd;rcases dk.looks i j o oj ho hj t hd ht with⟨h1,h2⟩|⟨h1,h2⟩
     ·rw[Mv (listed:=(listed.getD · false)) hj hd (rbit j hjn h2) hu ops.size hjn,Mv (listed:=fun _=>true) hj hd rfl hu i h1]
     ·have hjl:listed.getD j false=false:=by
       cases hl:listed.getD j false with
       |false=>rfl
       |true=>have:=notbit j hjn hl;rw[h2]at this;cases this
      rw[J6 ops.size fun j' _ hl' o' ho' hc'=>by
       by_cases hjj:j=j'
       ·subst hjj;rw[hjl]at hl';cases hl'
       ·exact hu j' o' hjj ho' hc',
       J6 i fun j' hj' _ o' ho' hc'=>by
        by_cases hjj:j=j'
        ·omega
        ·exact hu j' o' hjj ho' hc']
    ·rw[J6 ops.size fun j' _ _ o' ho' hc'=>hw ⟨j',o',ho',hc'⟩,J6 i fun j' _ _ o' ho' hc'=>hw ⟨j',o',ho',hc'⟩]
   have hcl':Closed ops (listed.setIfInBounds i true):=fun j oj hj hoj e he hb=>by
    rw[Ja (by omega)]at hj⊢;by_cases hie:i=e.on
    ·rw[if_pos hie]
    ·rw[if_neg hie];by_cases hij:i=j
     ·subst hij;rw[ho]at hoj;cases hoj;exact hafter e he hb
     ·rw[if_neg hij]at hj;exact hc j oj hj hoj e he hb
   have hlk':∀t,lk (FD ops x ((listed.setIfInBounds i true).getD · false) F ops.size) t=lk (putF o.dst (x i) (FD ops x (listed.getD · false) F ops.size)) t:=fun t=>by
    rw[Hu];have hset:∀j,(listed.setIfInBounds i true).getD j false=if i=j then true else listed.getD j false:=fun j=>Ja (by omega);by_cases hd:o.dst=some t
    ·rw[if_pos hd];exact Mv ho hd (by rw[hset];simp) (fun j' o' hne ho'=>dk.dsts i j' o o' ho ho' hne t hd) ops.size hin
    ·rw[if_neg hd];have:∀n,lk (FD ops x ((listed.setIfInBounds i true).getD · false) F n) t=lk (FD ops x (listed.getD · false) F n) t:=by
      intro n
      induction n with
      |zero=>rfl
      |succ n ihn=>
       have hn':=hset n;simp only[FD];by_cases hn:i=n
       ·subst hn;rw[hn',if_pos rfl,hilf,ho];rw[Hu,if_neg hd,ihn]
       ·rw[hn',if_neg hn];split
        ·split
         ·rw[Hu,Hu,ihn]
         ·exact ihn
        ·exact ihn
     exact this _
   have i0f:listed.getD i0 false=false:=by
    cases hl:listed.getD i0 false with
    |true=>exact absurd rfl (hlive _ hl).2
    |false=>rfl
   by_cases hii:i=i0
   ·subst hii;have before:∀e,e<i→eff e=true→listed.getD e false=true:=fun e hei hee=>by
     have hoe:ops[e]?=some ops[e]:=by simp[show e<ops.size by omega]
     exact rbit e (by omega) (dk.effs e i _ o hoe ho hei (D.eff1 e (by omega) hee _ hoe).2.1 D.bit)
    have hSp:SS i=SS p:=hSS p i hp (by omega) (fun e h1 h2=>by
     cases hee:eff e with
     |false=>rfl
     |true=>have:=(hpe e (by omega) hee).1 (before e h2 hee);omega)
    obtain⟨E',w',fr,h1,h2,h3,h4,h5,_,_,h6⟩:=D.thr o ho _ E w a hagree (by rw[hSp];exact hI) hF b k cs (Region.linearise.go .any ops fuel (t/(Region.ready .any ops listed).length) (listed.setIfInBounds i true) []);exact⟨E',w',fr,h1,h2,h3,h4,h5.trans hF.nod,h6⟩
   have hLi:Asd bs i0 i:=by
    refine⟨?_,hii⟩;cases hb:bitOf bs i0 i with
    |false=>rfl
    |true=>have:=rbit i0 hlt hb;rw[i0f]at this;cases this
   have hlive':∀j,(listed.setIfInBounds i true).getD j false=true→Asd bs i0 j:=fun j hj=>by
    rw[Ja (by omega)]at hj;by_cases hij:i=j
    ·subst hij;exact hLi
    ·rw[if_neg hij]at hj;exact hlive j hj
   have next:∀(p':Nat),p'≤i0→(∀e,e<ops.size→eff e=true→((listed.setIfInBounds i true).getD e false=true↔e<p'))→Ndo X N ops i o (FF i) (x i) (SS p) (SS p') →
    ∃E' w' fr,Inv X E' S1 w'∧Evol E w E' w' E.boxes.length E.toks.length∧fr.fn=b.fn∧fr.mode=.panicking ch∧fr.defers=E.df ∧
     Steps X.P (lone (b.at a (.inRegion ops (i::Region.linearise.go .any ops fuel (t/(Region.ready .any ops listed).length) (listed.setIfInBounds i true) [])::k)) cs w) (lone fr cs w'):=fun p' hp' hpe' hn=>by
    obtain⟨v,w1,⟨E1,h1,h2,h3⟩,h4⟩:=hn _ E w a hagree hI hF b k cs (Region.linearise.go .any ops fuel (t/(Region.ready .any ops listed).length) (listed.setIfInBounds i true) []);rw[ho]at h4;have hd:=D.dok i hin hLi o ho;have hF1:FR E1 w1 (FD ops x ((listed.setIfInBounds i true).getD · false) F ops.size) (a.put o.dst v) N:=by
     have:=(hF.step h2).putF hd h3;exact⟨this.size,this.nod,fun q y hq=>this.rel q y (by rw[←hlk' q];exact hq)⟩
    have hcu:=Acz hin hs hilf;obtain⟨E',w',fr,k1,k2,k3,k4,k5,k6⟩:=ih (t/(Region.ready .any ops listed).length) (listed.setIfInBounds i true) _ w1 E1 p' (by simp[hs]) hcl' hp' hpe' hlive' (by omega) h1 hF1 b cs;have hlen:=h2.len;exact⟨E',w',fr,k1,h2.trans (k2.weaken hlen.1 hlen.2),k3,k4,k5.trans h2.df,h4.trans k6⟩
   cases he:eff i with
   |false=>
    refine next p hp (fun e hen hee=>?_) ?_
    ·rw[Ja (by omega)];by_cases hie:i=e
     ·subst hie;rw[he]at hee;cases hee
     ·rw[if_neg hie];exact hpe e hen hee
    ·exact D.will i hin hLi he o ho p hp (fun e h1 h2 h3=>notbit e (by omega) ((hpe e (by omega) h3).2 h2))
   |true=>
    obtain⟨hii0,es,hn⟩:=D.eff1 i hin he o ho;have hpi:p≤i:=by
     rcases Gs i p with h|h
     ·have:=(hpe i hin he).2 h;rw[hilf]at this;cases this
     ·exact h
    have before:∀e,e<i→eff e=true→listed.getD e false=true:=fun e hei hee=>by
     have hoe:ops[e]?=some ops[e]:=by simp[show e<ops.size by omega]
     exact rbit e (by omega) (dk.effs e i _ o hoe ho hei (D.eff1 e (by omega) hee _ hoe).2.1 es)
    have hSp:SS i=SS p:=hSS p i hpi (by omega) (fun e h1 h2=>by
     cases hee:eff e with
     |false=>rfl
     |true=>have:=(hpe e (by omega) hee).1 (before e h2 hee);omega)
    refine next (i+1) (by omega) (fun e hen hee=>?_) (by rw[←hSp];exact hn)
    rw[Ja (by omega)];by_cases hie:i=e
    ·subst hie;simp
    ·rw[if_neg hie];constructor
     ·intro hl;rcases Gs e (i+1)with h|h
      ·exact h
      ·have hoe:ops[e]?=some ops[e]:=by simp[hen]
       have:=dk.effs i e o _ ho hoe (by omega) es (D.eff1 e hen hee _ hoe).2.1;have h2:=notbit e hen hl;rw[this]at h2;cases h2
     ·intro hlt;exact before e (by omega) hee
def RestT(X:Cx)(N:Nat)(ops:Array Oper)(bs:List Nat)(i0:Nat):List Oper→Nat→C5→Prop
 |[],_,_=>True
 |o::os,j,F=>(bitOf bs i0 j=true∧RestT X N ops bs i0 os (j+1) (putF o.dst .junk F)) ∨
  (∃x,D3 N o.dst=true∧(∀S',Ndo X N ops j o F x S' S')∧RestT X N ops bs i0 os (j+1) (putF o.dst x F))
theorem Acv:∀(os:List Oper)(j:Nat)(F:C5),RestT X N ops bs i0 os j F→(∀k,k<os.length→ops[j+k]?=os[k]?) →
 ∃(x:Nat→AV) (FF:Nat→C5),FF j=F∧(∀q,j≤q→q<j+os.length→∀o,ops[q]?=some o→FF (q+1)=putF o.dst (x q) (FF q)) ∧
  (∀q,j≤q→q<j+os.length→bitOf bs i0 q=false→∀o,ops[q]?=some o→D3 N o.dst=true∧∀S',Ndo X N ops q o (FF q) (x q) S' S')
 |[],j,F,_,_=>⟨fun _=>.junk,fun _=>F,rfl,fun q h1 h2=>by simp at h2;omega,fun q h1 h2=>by simp at h2;omega⟩
 |o::os,j,F,h,hops=>by
  have ho:ops[j]?=some o:=by have:=hops 0 (by simp);simpa using this
  have hops':∀k,k<os.length→ops[j+1+k]?=os[k]?:=fun k hk=>by
   have:=hops (k+1) (by simp;omega);rw[show j+1+k=j+(k+1) by omega];simpa using this
  have key:∀x,(bitOf bs i0 j=false→D3 N o.dst=true∧∀S',Ndo X N ops j o F x S' S')→RestT X N ops bs i0 os (j+1) (putF o.dst x F)→∃(x:Nat→AV) (FF:Nat→C5),FF j=F∧(∀q,j≤q→q<j+(o::os).length→∀o,ops[q]?=some o→FF (q+1)=putF o.dst (x q) (FF q)) ∧
   (∀q,j≤q→q<j+(o::os).length→bitOf bs i0 q=false→∀o,ops[q]?=some o→D3 N o.dst=true∧∀S',Ndo X N ops q o (FF q) (x q) S' S'):=fun x hx hr=>by
   obtain⟨xs,FF,h1,h2,h3⟩:=Acv os (j+1) _ hr hops';refine⟨fun q=>if q=j then x else xs q,fun q=>if q=j then F else FF q,by simp,fun q q1 q2 o' ho'=>?_,fun q q1 q2 hb o' ho'=>?_⟩
   ·by_cases hq:q=j
    ·subst hq;rw[ho]at ho';cases ho';simp[h1]
    ·have h4:¬(q+1=j):=by omega
     simp only[hq,h4,if_false];exact h2 q (by omega) (by simp at q2;omega) o' ho'
   ·by_cases hq:q=j
    ·subst hq;rw[ho]at ho';cases ho';simp only[if_true];exact hx hb
    ·simp only[hq,if_false];exact h3 q (by omega) (by simp at q2;omega) hb o' ho'
  simp only[RestT]at h;rcases h with⟨hb,hr⟩|⟨x,hd,hn,hr⟩
  ·exact key .junk (fun h=>by rw[hb]at h;cases h) hr
  ·exact key x (fun _=>⟨hd,hn⟩) hr
def AtT(X:Cx)(N:Nat)(ops:Array Oper)(bs:List Nat)(i0:Nat)(ch:List PanicEntry)(S1:St)(F:C5)(S:St):Prop:=
 ∃o,ops[i0]?=some o∧Thr X N ops i0 o F S ch S1∧RestT X N ops bs i0 (ops.toList.drop (i0+1)) (i0+1) (putF o.dst .junk F)
theorem DT.of(hem:em.testBit i0=true)(h:Drv X N ops bs em (ops.toList.take i0) 0 F S [S] [] (AtT X N ops bs i0 ch S1)) :
 ∃eff x FF SS,FF 0=F∧SS 0=S∧DT X N ops bs em i0 ch S1 eff x FF SS:=by
 obtain⟨eff,x,FF,SS,h1,h2,⟨o0,ho0,ht,hr⟩,D⟩:=Tt _ 0 F S [S] [] _ h (fun j hj=>by
  simp only[Vd,Array.length_toList]at hj;simp[Mb,show j<i0 by omega]) (by simp) (fun q hq=>by cases hq)
 have hlt:i0<ops.size:=by
  rcases Gs i0 ops.size with h|h
  ·exact h
  ·rw[Abv h]at ho0;cases ho0
 have hlen:0+(ops.toList.take i0).length=i0:=by simp;omega
 rw[hlen]at ht hr D;obtain⟨x2,FF2,k1,k2,k3⟩:=Acv _ _ _ hr (fun k hk=>by simp[Nz]);have hl2:i0+1+(ops.toList.drop (i0+1)).length=ops.size:=by simp;omega
 rw[hl2]at k2 k3;refine⟨fun j=>decide (j<i0)&&eff j,fun j=>if j<i0 then x j else if j=i0 then .junk else x2 j,fun j=>if j≤i0 then FF j else FF2 j,fun j=>if j≤i0 then SS j else SS i0,by simp[h1],by simp[h2],?_⟩;refine{ step:=fun j hj o ho=>?_,dok:=fun j hj hL o ho=>?_,eff0:=fun j hj he=>?_,eff1:=fun j hj he o ho=>?_,will:=fun j hj hL he o ho p hp hpe=>?_,lt:=hlt,bit:=hem,thr:=fun o ho=>?_ }
 ·rcases Nat.lt_trichotomy j i0 with h|h|h
  ·simp only[show j+1≤i0 by omega,show j≤i0 by omega,h,if_true];exact(D.step j (B3 _) h o ho).1
  ·subst h;rw[ho0]at ho;cases ho;simp only[show ¬(j+1≤j) by omega,Bo,Nat.lt_irrefl,if_true,if_false];exact k1
  ·simp only[show ¬(j+1≤i0) by omega,show ¬(j≤i0) by omega,show ¬(j<i0) by omega,show ¬(j=i0) by omega,if_false];exact k2 j (by omega) hj o ho
 ·rcases Nat.lt_trichotomy j i0 with h|h|h
  ·exact(D.step j (B3 _) h o ho).2
  ·exact absurd h hL.2
  ·exact(k3 j (by omega) hj hL.1 o ho).1
 ·rcases Gs j i0 with h|h
  ·simp only[h,decide_true,Re]at he;simp only[show j+1≤i0 by omega,show j≤i0 by omega,if_true];exact D.eff0 j (B3 _) h he
  ·rcases Gs i0 j with h'|h'
   ·simp only[show ¬(j+1≤i0) by omega,show ¬(j≤i0) by omega,if_false]
   ·obtain rfl:j=i0:=by omega
    simp only[show ¬(j+1≤j) by omega,Bo,if_true,if_false]
 ·simp only[Dd,Ke]at he;simp only[show j+1≤i0 by omega,show j≤i0 by omega,he.1,if_true];exact⟨trivial,D.eff1 j (B3 _) he.1 he.2 o ho⟩
 ·simp only[hp,if_true];rcases Nat.lt_trichotomy j i0 with h|h|h
  ·simp only[h,decide_true,Re]at he;simp only[show j≤i0 by omega,h,if_true];exact D.will j (B3 _) h he o ho p (B3 _) hp (fun e h1 h2 h3=>hpe e h1 h2 (by simp[h3,show e<i0 by omega]))
  ·exact absurd h hL.2
  ·simp only[show ¬(j≤i0) by omega,show ¬(j<i0) by omega,show ¬(j=i0) by omega,if_false];exact(k3 j (by omega) hj hL.1 o ho).2 _
 ·rw[ho0]at ho;cases ho;simp only[Bo,if_true];exact ht
theorem Ars{id:Nat}{k:List Item}(i0 em:Nat)(hf:X.P.funcs[B.f]?=some B.fn)(hst:R0 ops (Iq ops.toList []) em=true)(hem:em.testBit i0=true)
 (h:Drv X B.fn.ntmps ops (Iq ops.toList []) em (ops.toList.take i0) 0 F S [S] [] (AtT X B.fn.ntmps ops (Iq ops.toList []) i0 ch S1))(m:Nat)(hm:B.m≤m)
 (hbox:∀rows,rows∈S1.boxes.take B.n→He B.n m rows)(hR:R (.panic ch) (S1.drop B.n m)):AK X B (.code (.region id ops true)::k) F S R:=by
 obtain⟨eff,x,FF,SS,h1,h2,D⟩:=DT.of hem h;refine Ae6 hf m hm hbox hR fun E w a b cs hI hF hb=>?_;have hI1:Inv X E (SS 0) { w with drawn:=w.drawn+1 }:=by rw[h2];exact hI.keep (Gw E w _ _) (fun _ _=>rfl)
 have hz:∀j,(Array.replicate ops.size false).getD j false=false:=fun j=>by simp[Array.getD]
 have hF1:FR E { w with drawn:=w.drawn+1 } (FD ops x ((Array.replicate ops.size false).getD · false) F ops.size) a B.fn.ntmps:=by
  have hF':=hF.step (Gw E w _ _);have:FD ops x ((Array.replicate ops.size false).getD · false) F ops.size=F:=by
   have:∀n,FD ops x ((Array.replicate ops.size false).getD · false) F n=F:=by
    intro n
    induction n with
    |zero=>rfl
    |succ n ih=>
     simp only[FD];rw[hz n];exact ih
   exact this _
  rw[this];exact hF'
 obtain⟨E',w',fr,g1,g2,g3,g4,g5,g6⟩:=As0 (Aa4 hst) D h1 k ops.size (w.tape w.drawn (.order b.fn id)) (Array.replicate ops.size false) a { w with drawn:=w.drawn+1 } E 0 (by simp)
  (fun j o hj=>by rw[hz]at hj;cases hj) (B3 _) (fun e he hee=>by rw[hz];simp) (fun j hj=>by rw[hz]at hj;cases hj) (by
    unfold Abs;exact Pb (Abm _ _) (by simp)) hI1 hF1 b cs
 refine⟨E',w',fr,g1,(Gw E w _ _).trans g2,g3,g4,g5.trans hF.nod.symm,.head step_region_draw ?_⟩;simp only[Region.schedule,X.mixed,Bool.true_or,if_true];exact g6
theorem Qa{KK:C5→St→Prop}:∀(n:Nat)(os:List Oper)(i:Nat)(F:C5)(pend:List J2),(∀k,k<os.length→ops[i+k]?=os[k]?) →
 Drv X N ops bs em (Ln X N ops S n os i F pend).1 (Ln X N ops S n os i F pend).2.1 (Ln X N ops S n os i F pend).2.2.1 S [S] (Ln X N ops S n os i F pend).2.2.2 KK→Drv X N ops bs em os i F S [S] pend KK
 |0,os,i,F,p,_,h=>h
 |n+1,[],i,F,p,_,h=>h
 |n+1,o::os,i,F,p,hos,h=>by
  have ho:ops[i]?=some o:=by have:=hos 0 (by simp);simpa using this
  have hos':∀k,k<os.length→ops[i+1+k]?=os[k]?:=fun k hk=>by
   have:=hos (k+1) (by simp;omega);rw[show i+1+k=i+(k+1) by omega];simpa using this
  unfold Ln at h;split at h
  ·rename_i hw;split at h
   ·rename_i x hx;split at h
    ·rename_i F' hF;obtain⟨h1,rfl⟩:=Gi hF;split at h
     ·exact Aet ho hw hx h1 (Qa n os (i+1) _ _ hos' h)
     ·rename_i hl;exact Ak1 ho hw (fun S'=>by rw[R4 hl];exact hx) h1 (Qa n os (i+1) _ _ hos' h)
    ·exact h
   ·split at h
    ·rename_i x hx;split at h
     ·rename_i F' hF;obtain⟨h1,rfl⟩:=Gi hF;exact Agu ho hw (R2 hx) h1 (Qa n os (i+1) _ _ hos' h)
     ·exact h
    ·exact h
  ·rename_i hw;split at h
   ·rename_i F' hF;obtain⟨h1,rfl⟩:=Gi hF;exact Kk (fun S'=>X1 ho hw) h1 (Qa n os (i+1) _ _ hos' h)
   ·exact h
  ·exact h
theorem Aye{os:List Oper}{i n:Nat}(h:(ops.toList.drop i).take n=os):∀k,k<os.length→ops[i+k]?=os[k]?:=fun k hk=>by
 subst h;simp only[Vd]at hk;simp[Mb,Nz,show k<n by omega]
theorem Lr{id i':Nat}{k:List Item}{f:FuncId}{fn:Func}{n m:Nat}{bx:List (List (List AV))}{tk:List Nat}{os':List Oper}{F':C5}{pend':List J2}(i0 em q:Nat)(hf:X.P.funcs[f]?=some fn)
 (hk:Drv X fn.ntmps ops (Iq ops.toList []) em os' i' F' S [S] pend' (AtT X fn.ntmps ops (Iq ops.toList []) i0 ch S1))(hS:S1.drop n tk.length=⟨bx,tk⟩)
 (hst:R0 ops (Iq ops.toList []) em=true:=by kernel_rfl)(hem:em.testBit i0=true:=by rfl)(h:Ln X fn.ntmps ops S q (ops.toList.take i0) 0 F []=(os',i',F',pend'):=by rfl)(hm:Nat.ble m tk.length=true:=by rfl) [hbox:OKB n tk.length bx] :
 AK X ⟨f,fn,n,m⟩ (.code (.region id ops true)::k) F S fun e S'=>e=.panic ch∧S'=⟨bx,tk⟩:=by
 refine Ars (B:=⟨f,fn,n,m⟩) i0 em hf hst hem (Qa q _ 0 F [] (Aye (n:=i0) (by simp)) (by rw[h];exact hk)) tk.length (Jz hm) ?_ ⟨rfl,hS⟩;have:S1.boxes.take n=bx:=by have:=congrArg St.boxes hS;exact this
 show ∀rows,rows∈S1.boxes.take n→He n tk.length rows;rw[this];exact hbox.ok
def Ady(X:Cx)(N:Nat)(ops:Array Oper)(bs:List Nat)(i0:Nat):List Oper→Nat→C5→Bool
 |[],_,_=>true
 |o::os,j,F=>match bitOf bs i0 j with
  |true=>Ady X N ops bs i0 os (j+1) (putF o.dst .junk F)
  |false=>match A8 ops F o with
   |some true=>match Ahr o.op with
    |true=>false
    |false=>match Ej X F ⟨[],[]⟩ o.op with
     |some x=>match D3 N o.dst with
      |true=>Ady X N ops bs i0 os (j+1) (putF o.dst x F)
      |false=>false
     |none=>match Ai8 X F ⟨[],[]⟩ o.op with
      |some x=>match D3 N o.dst with
       |true=>Ady X N ops bs i0 os (j+1) (putF o.dst x F)
       |false=>false
      |none=>false
   |some false=>match D3 N o.dst with
    |true=>Ady X N ops bs i0 os (j+1) (putF o.dst (.val (.tuple #[])) F)
    |false=>false
   |none=>false
theorem Nj:∀(os:List Oper)(j:Nat)(F:C5),ops.toList.drop j=os→Ady X N ops bs i0 os j F=true→RestT X N ops bs i0 os j F
 |[],_,_,_,_=>trivial
 |o::os,j,F,hos,h=>by
  have ho:ops[j]?=some o:=by
   have:(ops.toList.drop j)[0]?=some o:=by rw[hos];rfl
   rw[Nz]at this;simpa using this
  have hos':ops.toList.drop (j+1)=os:=by
   have:(ops.toList.drop j).drop 1=os:=by rw[hos];rfl
   rw[Aed]at this;exact this
  unfold Ady at h;split at h
  ·rename_i hb;exact .inl ⟨hb,Nj os _ _ hos' h⟩
  ·split at h
   ·rename_i hw;split at h
    ·cases h
    ·rename_i hl;split at h
     ·rename_i x hx;split at h
      ·rename_i hd;exact .inr ⟨x,hd,fun S'=>Ck ho hw (by rw[R4 hl];exact hx),Nj os _ _ hos' h⟩
      ·cases h
     ·split at h
      ·rename_i x hx;split at h
       ·rename_i hd;exact .inr ⟨x,hd,fun⟨bx,tk⟩=>Lu ho hw (R2 hx bx tk),Nj os _ _ hos' h⟩
       ·cases h
      ·cases h
   ·rename_i hw;split at h
    ·rename_i hd;exact .inr ⟨_,hd,fun S'=>X1 ho hw,Nj os _ _ hos' h⟩
    ·cases h
   ·cases h
theorem Ls{i:Nat}{o:Oper}{Hs:List St}{pend:List J2}(h:Thr X N ops i0 o F S ch S1)(ho:ops[i0]?=some o:=by rfl)(hr:Ady X N ops bs i0 (ops.toList.drop (i0+1)) (i0+1) (putF o.dst .junk F)=true:=by rfl) :
 Drv X N ops bs em [] i F S Hs pend (AtT X N ops bs i0 ch S1):=
 ⟨o,ho,h,Nj _ _ _ rfl hr⟩
end
section
variable {X:Cx}{B:Bx}{S S':St}{F:C5}{R:AE→St→Prop}{ops:Array Oper}{i:Nat}{l:List Nat}{k:List Item}{o:Oper}{c:Call}{fo p q:Operand}{K:List Item}{F':C5}
def atR(id:Nat):List Item→Bool
 |.code (.region j _ _)::_=>Nat.beq j id
 |_=>false
def evT(X:Cx)(N:Nat)(id:Nat):Nat→List Item→C5→St→List Item×C5×St
 |0,K,F,S=>(K,F,S)
 |n+1,K,F,S=>match atR id K with
  |true=>(K,F,S)
  |false=>match ev X N 1 K F S with
   |(K',F',S')=>evT X N id n K' F' S'
theorem Kv{K':List Item}{F':C5}{S':St}(id:Nat):∀(n:Nat){K:List Item}{F:C5}{S:St},evT X B.fn.ntmps id n K F S=(K',F',S')→AK X B K' F' S' R→AK X B K F S R
 |0,K,F,S,h,hk=>by
  simp only[evT]at h;cases h;exact hk
 |n+1,K,F,S,h,hk=>by
  simp only[evT]at h;split at h
  ·cases h;exact hk
  ·generalize he:Go.V.ev X B.fn.ntmps 1 K F S=t at h;obtain⟨K1,F1,S1⟩:=t;exact Bi 1 he (Kv id n h hk)
theorem Ak0{f:FuncId}{caps xs zs ys:List AV}{r y:AV}{bx1 bx2 bxc bx3:List (List (List AV))}{tkc tk1:List Nat}{S2:St}
 (n:Nat)(σ τ:List Nat)(hc:Hands X f ys ⟨bxc,tkc⟩ y ⟨bx1,tk1⟩)(hk:AK X B K F' S2 R)(ho:ops[i]?=some o:=by rfl)(hw:A8 ops F o=some true:=by rfl)(hop:o.op=.call c:=by rfl)(hcal:c.callee=.value fo:=by rfl)
 (hfo:Dw X F fo=some (.fn f caps):=by rfl)(hx:Hm X F c.args.toList=some xs:=by rfl)(hzs:Kg xs caps=some zs:=by rfl)(hσ:Kh σ=true:=by rfl)(hτ:Kh τ=true:=by rfl)
 (hσl:(σ.all fun i=>Nat.blt i S.boxes.length)=true:=by rfl)(hτl:(τ.all fun t=>Nat.blt t S.toks.length)=true:=by rfl)(hsb:Aen σ S.boxes=some bx2:=by rfl) [hb:RinB σ τ bx2 bxc]
 (ht:τ.map (fun t=>S.toks.getD t 0)=tkc:=by rfl) [ha:RinL σ τ zs ys](hb1:bx1.length=σ.length:=by rfl)(ht1:Nat.ble τ.length tk1.length=true:=by rfl){τ':List Nat}
 (hτ':H2 τ S.toks.length (tk1.length-τ.length)=τ':=by rfl) [hR:RoutB σ τ' bx3 bx1] [hr:RoutC σ τ' r y](hS':St.mk (upd S.boxes σ bx3) (upd S.toks τ tk1++tk1.drop τ.length)=S':=by rfl)
 (hd:D3 B.fn.ntmps o.dst=true:=by rfl)(he:Go.V.ev X B.fn.ntmps n (.inRegion ops l::k) (putF o.dst r F) S'=(K,F',S2):=by rfl):AK X B (.inRegion ops (i::l)::k) F S R:=
 Hi (Vj σ τ hc ho hw hop hcal hfo hx hzs hσ hτ hσl hτl hsb ht hb1 ht1 hτ' hS') ho hd (Bi n he hk)
theorem Arv{f:FuncId}{caps xs zs ys:List AV}{r:AV}{S2:St}(n:Nat)(hc:Pure X f ys r)(hk:AK X B K F' S2 R)(ho:ops[i]?=some o:=by rfl)(hw:A8 ops F o=some true:=by rfl)
 (hop:o.op=.call c:=by rfl)(hcal:c.callee=.value fo:=by rfl)(hfo:Dw X F fo=some (.fn f caps):=by rfl)(hx:Hm X F c.args.toList=some xs:=by rfl)(hzs:Kg xs caps=some zs:=by rfl)
 (hd:D3 B.fn.ntmps o.dst=true:=by rfl) [hs:RinL [] [] zs ys] [hok:OK 0 0 r](he:evT X B.fn.ntmps n 100 (.inRegion ops l::k) (putF o.dst r F) S=(K,F',S2):=by rfl):AK X B (.inRegion ops (i::l)::k) F S R:=
 Hi (Acu hc ho hw hop hcal hfo hx hzs hok.ok) ho hd (Kv n 100 he hk)
theorem Agr{f:FuncId}{caps xs zs ys:List AV}{r y:AV}{bx1 bx2 bxc bx3:List (List (List AV))}{tkc tk1:List Nat}{S2:St}
 (n:Nat)(σ τ:List Nat)(hc:Hands X f ys ⟨bxc,tkc⟩ y ⟨bx1,tk1⟩)(hk:AK X B K F' S2 R)(ho:ops[i]?=some o:=by rfl)(hw:A8 ops F o=some true:=by rfl)(hop:o.op=.call c:=by rfl)(hcal:c.callee=.value fo:=by rfl)
 (hfo:Dw X F fo=some (.fn f caps):=by rfl)(hx:Hm X F c.args.toList=some xs:=by rfl)(hzs:Kg xs caps=some zs:=by rfl)(hσ:Kh σ=true:=by rfl)(hτ:Kh τ=true:=by rfl)
 (hσl:(σ.all fun i=>Nat.blt i S.boxes.length)=true:=by rfl)(hτl:(τ.all fun t=>Nat.blt t S.toks.length)=true:=by rfl)(hsb:Aen σ S.boxes=some bx2:=by rfl) [hb:RinB σ τ bx2 bxc]
 (ht:τ.map (fun t=>S.toks.getD t 0)=tkc:=by rfl) [ha:RinL σ τ zs ys](hb1:bx1.length=σ.length:=by rfl)(ht1:Nat.ble τ.length tk1.length=true:=by rfl){τ':List Nat}
 (hτ':H2 τ S.toks.length (tk1.length-τ.length)=τ':=by rfl) [hR:RoutB σ τ' bx3 bx1] [hr:RoutC σ τ' r y](hS':St.mk (upd S.boxes σ bx3) (upd S.toks τ tk1++tk1.drop τ.length)=S':=by rfl)
 (hd:D3 B.fn.ntmps o.dst=true:=by rfl)(he:evT X B.fn.ntmps n 100 (.inRegion ops l::k) (putF o.dst r F) S'=(K,F',S2):=by rfl):AK X B (.inRegion ops (i::l)::k) F S R:=
 Hi (Vj σ τ hc ho hw hop hcal hfo hx hzs hσ hτ hσl hτl hsb ht hb1 ht1 hτ' hS') ho hd (Kv n 100 he hk)
theorem Ey{t:Nat}{x y:Code}{e:Bool}{K1 K2:List Item}{F1 F2:C5}{S1 S2:St}(n1 n2:Nat)(h1:e=true→AK X B K1 F1 S1 R)(h2:e=false→AK X B K2 F2 S2 R)(hc:lk F t=some (.val (.bool e)):=by rfl)
 (he1:evT X B.fn.ntmps n1 100 (.code x::k) ((t,.lit true)::F) S=(K1,F1,S1):=by rfl)(he2:evT X B.fn.ntmps n2 100 (.code y::k) ((t,.lit false)::F) S=(K2,F2,S2):=by rfl) :
 AK X B (.code (.cond (.tmp t) x y)::k) F S R:=
 Ph hc (fun h=>Kv n1 100 he1 (h1 h)) (fun h=>Kv n2 100 he2 (h2 h))
theorem Aat:∀{cs:List AV}{us:List Value},Aas cs=some us→cs=us.map .val
 |[],us,h=>by simp only[Aas]at h;cases h;rfl
 |x::l,us,h=>by
  simp only[Aas]at h;split at h
  ·rename_i v hv;split at h
   ·rename_i vs hvs;cases h;have:x=.val v:=by
     cases x<;>simp[A0e]at hv;rw[hv]
    rw[this,Aat hvs];rfl
   ·cases h
  ·cases h
theorem Apl{N:Nat}{t:TypeId}{cs:List AV}{us:List Value}{y:Ty}{fs:List (Nat×Nat)}(ho:ops[i]?=some o:=by rfl)(hw:A8 ops F o=some true:=by rfl)(hop:o.op=.makeInterface t p:=by rfl)
 (hp:Dw X F p=some (.agg cs):=by rfl)(hu:Aas cs=some us:=by rfl)(hy:X.ty t=some y:=by rfl)(hk:y.k=.str fs:=by rfl):Ndo X N ops i o F (.val (.iface t (.agg ⟨us⟩))) S S:=by
 refine Dj ho hw fun F' E w a hc hI hF=>?_;rw[hop]at hc;have h1:=Ak hI hF ((hc p (by simp[Op.operands])).trans hp);obtain⟨d,hdd,hd2⟩:=(X.ty_ok t y hy).agg;simp only[hk]at hd2;obtain⟨fields,rfl,_⟩:=hd2;generalize hu':a.eval p=u at h1;have:=Aat hu;subst this;cases h1 with
 |agg vs _ hl hr=>
  have:vs=⟨us⟩:=by
   apply Array.ext
   ·simpa using hl
   ·intro j h1 h2;have:=hr j vs[j] (.val us[j]) (by simp[h1]) (by simp at h2;simp[h2]);generalize vs[j]=z at this;cases this;simp
  subst this;exact⟨.iface t (.agg ⟨us⟩),by simp[execOp,hop,hu',Instr.makeInterface,run_underlying hdd],.val _⟩
end
section
variable {X:Cx}{B:Bx}{S:St}{F F1 F2:C5}{N:Nat}{R:AE→St→Prop}{ops:Array Oper}{i i':Nat}{o:Oper}{os os':List Oper}{x:AV}{bs:List Nat}{em:Nat}{pend pend':List J2}{KK:C5→St→Prop}{c:Call}{fo p q:Operand}
theorem Ak2(h:∀S',Ndo X N ops i o F x S' S')(k:Drv X N ops bs em os' i' F2 S [S] pend' KK)(hF:P2 N o.dst x F=some F1:=by rfl)(hg:Ln X N ops S 100 os (i+1) F1 pend=(os',i',F2,pend'):=by rfl)
 (hos:ops.toList.drop (i+1)=os:=by rfl):Drv X N ops bs em (o::os) i F S [S] pend KK:=by
 obtain⟨h1,rfl⟩:=Gi hF;exact Kk h h1 (Fx k hg hos)
theorem Ce{f:FuncId}{caps xs zs ys:List AV}{r:AV}(hc:Pure X f ys r)(k:Drv X N ops bs em os' i' F2 S [S] pend' KK)(ho:ops[i]?=some o:=by rfl)(hw:A8 ops F o=some true:=by rfl)
 (hop:o.op=.call c:=by rfl)(hcal:c.callee=.value fo:=by rfl)(hfo:Dw X F fo=some (.fn f caps):=by rfl)(hx:Hm X F c.args.toList=some xs:=by rfl)(hzs:Kg xs caps=some zs:=by rfl)
 (hF:P2 N o.dst r F=some F1:=by rfl) [hs:RinL [] [] zs ys] [hok:OK 0 0 r](hg:Ln X N ops S 100 os (i+1) F1 pend=(os',i',F2,pend'):=by rfl)
 (hos:ops.toList.drop (i+1)=os:=by rfl):Drv X N ops bs em (o::os) i F S [S] pend KK:=by
 obtain⟨h1,rfl⟩:=Gi hF;exact Kk (fun S'=>Acu hc ho hw hop hcal hfo hx hzs hok.ok) h1 (Fx k hg hos)
theorem Db{t e:Nat}{rows:List (List AV)}{sp:Sp}{ik:IntKind}{r:List AV}{y ye:Ty}(n:Int)(h0:0≤n)(hr:rows[n.toNat]?=some r)(k:Drv X N ops bs em os' i' F2 S [S] pend' KK)(ho:ops[i]?=some o:=by rfl)
 (hw:A8 ops F o=some true:=by rfl)(hop:o.op=.indexAddr t p q:=by rfl)(hp:Dw X F p=some (.sl rows sp):=by rfl)(hq:Dw X F q=some (.val (.int ik n)):=by rfl)
 (hy:X.ty t=some y:=by rfl)(hyk:y.k=.slc e:=by rfl)(hye:X.ty e=some ye:=by rfl)(hl:r.length=ye.size:=by rfl)(hF:P2 N o.dst (.cptr r) F=some F1:=by rfl)
 (hg:Ln X N ops S 100 os (i+1) F1 pend=(os',i',F2,pend'):=by rfl)(hos:ops.toList.drop (i+1)=os:=by rfl):Drv X N ops bs em (o::os) i F S [S] pend KK:=
 Ak2 (fun _=>Cu ho hw hop hp hq hy hyk hye hl h0 hr) k hF hg hos
theorem Dx{t t':Nat}{s s':List UInt8}(hl:s.length+s'.length≤1000000000000)(k:Drv X N ops bs em os' i' F2 S [S] pend' KK)(ho:ops[i]?=some o:=by rfl)(hw:A8 ops F o=some true:=by rfl)
 (hop:o.op=.binOp .add t p q t':=by rfl)(hp:Dw X F p=some (str s):=by rfl)(hq:Dw X F q=some (str s'):=by rfl)(hF:P2 N o.dst (str (s++s')) F=some F1:=by rfl)
 (hg:Ln X N ops S 100 os (i+1) F1 pend=(os',i',F2,pend'):=by rfl)(hos:ops.toList.drop (i+1)=os:=by rfl):Drv X N ops bs em (o::os) i F S [S] pend KK:=
 Ak2 (fun _=>Rq ho hw hop hp hq hl rfl) k hF hg hos
theorem Fl{l:List Nat}{k:List Item}{K:List Item}{F':C5}{S2:St}{t t':Nat}{s s':List UInt8}(hl:s.length+s'.length≤1000000000000)(hk:AK X B K F' S2 R)(ho:ops[i]?=some o:=by rfl)(hw:A8 ops F o=some true:=by rfl)
 (hop:o.op=.binOp .add t p q t':=by rfl)(hp:Dw X F p=some (str s):=by rfl)(hq:Dw X F q=some (str s'):=by rfl)(hd:D3 B.fn.ntmps o.dst=true:=by rfl)
 (he:Go.V.ev X B.fn.ntmps 200 (.inRegion ops l::k) (putF o.dst (str (s++s')) F) S=(K,F',S2):=by rfl):AK X B (.inRegion ops (i::l)::k) F S R:=
 Hi (Rq ho hw hop hp hq hl rfl) ho hd (Bi 200 he hk)
end
end Go.V
