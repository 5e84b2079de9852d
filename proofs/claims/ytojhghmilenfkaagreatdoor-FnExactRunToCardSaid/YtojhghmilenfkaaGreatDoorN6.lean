/- A part of the proof of the claim that the last text states: no condition of its own. -/
import Derived.Test.YtojhghmilenfkaaGreatDoorN5
set_option linter.unusedVariables false
set_option linter.unusedSimpArgs false
namespace Go.V
open Go Go.Proofs Go.Proofs.Tryz
theorem Ew(l:List Nd):Kf 4 (Ap l)=true:=by rw[Au];exact Kx (f:=Af) (fun _=>rfl) l
theorem A2d(f:Nat)(ih:∀g,g<f→Ar7 g):Ar6 f:=by
 intro r hr hf hF;refine Hands.run func291 ?_;generalize hTT:Ed f [] r=T;refine En 2 0 3 rfl rfl rfl rfl rfl rfl ?_;refine Ar (ι:=Nat×List Nd×RS) 3 1 (fun i=>i.2.2.ok∧i.2.1.length+i.1≤f∧(i.2.2.bad=true∨3*i.2.2.left+2≤i.1)∧T=Ed i.1 i.2.1 i.2.2)
  (fun i=>[(0,.ptr 0 0 0),(2,.ptr 1 0 0),(3,.ptr 2 0 0)])
  (fun i=>⟨[[rc i.2.2],[zN],[[vi 30,str [],vi 0,.sl (Ap i.2.1) (.tok 0)]]],[i.2.1.length]⟩) (fun i=>i.1) ?_ (f,[],r) ⟨hr,by simp,.inr hf,hTT.symm⟩ ⟨rfl,rfl,rfl,trivial⟩
 rintro⟨n,acc,q⟩ ⟨hq,hlen,hfu,hTn⟩ IH;simp only at hq hlen hfu hTn IH⊢;refine Bi 100 rfl ?_;cases hb:q.bad with
 |true=>
  have hT:T=(acc,q):=by
   rw[hTn];cases n with
   |zero=>rfl
   |succ n=>simp only[Ed];rw[if_neg (by simp[hb])]
  refine Hw 0 5 ?_;refine Qb false ?_ (hb:=by simp[hb]);refine M0 11 ?_;refine Qb false ?_;refine Fx ?_;refine B2 ?_;refine Ag ?_;rw[hT,Lh];refine Bq func291 ?_ rfl;rw[Au]
 |false=>
  by_cases hlt:q.at_<q.ws.length
  ·refine Hw 0 5 ?_;refine Qb true ?_ (hb:=by simp[hb]);refine M0 11 ?_;refine Qb true ?_ (hb:=Zd (by rw[D2];omega));refine M0 1 ?_;refine A2 (Hd [0] [] (Aie q)) ?_;refine Fx ?_;refine B2 ?_;refine Ah (fun h=>?_) (fun h=>?_)
   ·have h':(!(q.text==[125]))=true:=h;have hn1:2≤n:=by
     rcases hfu with h|h
     ·rw[hb]at h;cases h
     ·omega
    obtain⟨m,rfl⟩:∃m,n=m+1:=⟨n-1,by omega⟩
    have hfu':3*q.left+2≤m+1:=by
     rcases hfu with h|h
     ·rw[hb]at h;cases h
     ·exact h
    have hT:T=Ed m (acc++[(Dc m q).1]) (Dc m q).2:=by
     rw[hTn];simp only[Ed];rw[if_pos (by simp only[hb,h',Bool.not_false,Re,Bool.and_true];exact Zd hlt)]
    have af:=(F5 m).1 q hq;have lf:=Bg af;have hon:q.on (Dc m q).2:=by
     obtain⟨p,rfl⟩:∃p,m=p+1:=⟨m-1,by omega⟩
     exact Y1 p hq
    refine Hw 168 3 ?_;refine Dz (Hd [0] [] (ih m (by omega) q hq (by omega) (by omega))) ?_ ?_
    ·exact An (Ck rfl rfl rfl) Gy
    refine Tu ?_;refine Ch (Bu (res:=Ap (acc++[(Dc m q).1])) rfl rfl rfl rfl rfl rfl rfl rfl rfl rfl rfl rfl rfl rfl (Ad acc) (Ew acc) rfl rfl rfl ?_ ?_ rfl) ?_
    ·rw[Ad];simp;omega
    ·rw[Au,Au,Kr];rfl
    refine Av ?_;refine Ch (A7 rfl rfl rfl rfl rfl rfl rfl) ?_;refine B2 ?_;refine IH (m,acc++[(Dc m q).1],(Dc m q).2) ⟨af.ok hq,by simp;omega,?_,hT⟩ (by simp only;omega) _ _ ⟨rfl,rfl,rfl,trivial⟩ ?_ rfl rfl
    ·rcases hon with h|h
     ·exact .inl h
     ·refine .inr ?_;simp only;have h3:(Dc m q).2.left+1≤q.left:=by
       have e1:=af.1;have e2:=af.2.2;simp only[RS.left,e1]at *;omega
      omega
    ·simp[St.drop,Ad,upd]
   ·have h':(!(q.text==[125]))=false:=h;have hT:T=(acc,q):=by
     rw[hTn];cases n with
     |zero=>rfl
     |succ n=>simp only[Ed];rw[if_neg (by simp[h'])]
    rw[hT,Lh];refine Bq func291 ?_ rfl;rw[Au]
  ·have hT:T=(acc,q):=by
    rw[hTn];cases n with
    |zero=>rfl
    |succ n=>simp only[Ed];rw[if_neg (by simp[hlt])]
   refine Hw 0 5 ?_;refine Qb true ?_ (hb:=by simp[hb]);refine M0 11 ?_;refine Qb false ?_ (hb:=Mc (by rw[D2];omega));refine Fx ?_;refine B2 ?_;refine Ag ?_;rw[hT,Lh];refine Bq func291 ?_ rfl;rw[Au]
theorem Ayx:∀f,Ar7 f∧Ak5 f∧Ar6 f:=by
 intro f
 induction f using Nat.strongRecOn with
 |ind f ih=>exact⟨A2g f (fun g h=>(ih g h).2.1),Ayv f (fun g h=>(ih g h).2.2),A2d f (fun g h=>(ih g h).1)⟩
def I0(q:RS):Int×RS:=if !q.bad&&q.kind==2 then(Dp q.text,q.step)else(-1,q.need [63])
def Ji(r:RS):Nd×RS:=
 if r.takes Nm then(.mk 31 r.step.name 0 [],r.step.nameR)
 else(.mk 32 r.step.name (I0 (r.step.nameR.need [91])).1 [],(I0 (r.step.nameR.need [91])).2.need [93])
def Hq(r:RS):Bool:=r.takes Nm||r.takes Fj
def E9:Nat→List Nd→RS→List Nd×RS
 |0,acc,r=>(acc,r)
 |f+1,acc,r=>if Hq r then E9 f (acc++[(Ji r).1]) ((Ji r).2.need [59])else(acc,r)
def RS.ends(r:RS):RS:=if r.at_<r.ws.length then r.spoil else r
def Ep(r:RS):Nd×RS:=
 (.mk 40 [] 0 ((E9 2000 [] r).1++[.mk 30 [] 0 (Ed 5000 [] (E9 2000 [] r).2).1]),(Ed 5000 [] (E9 2000 [] r).2).2.ends)
theorem Abf{q:RS}(h:q.ok):q.after (I0 q).2:=by
 simp only[I0];split
 ·rename_i hc;simp only[Dd,zzq54]at hc;exact Aj (Se (by omega))
 ·exact Bb h (by simp)
theorem La{r:RS}(h:r.ok)(hd:Hq r=true):r.step.after (Ji r).2∧r.at_<r.ws.length:=by
 simp only[Hq,Pd]at hd;have hlt:r.at_<r.ws.length:=by
  rcases hd with hd|hd
  ·exact(Ay hd (by simp)).1
  ·exact(Ay hd (by simp)).1
 have so:=(Aj hlt).ok h;refine⟨?_,hlt⟩;simp only[Ji];split
 ·exact Cv so
 ·have a:=Cv so;have b:=a.trans (Bb (s:=[91]) (a.ok so) (by simp));have c:=b.trans (Abf (b.ok so));exact c.trans (Bb (c.ok so) (by simp))
theorem N6:∀(f:Nat)(acc:List Nd)(r:RS),r.ok→r.after (E9 f acc r).2
 |0,acc,r,h=>by simp only[E9];exact Fg h
 |f+1,acc,r,h=>by
  simp only[E9];split
  ·rename_i hd;obtain⟨a,hlt⟩:=La h hd;have b:=(Aj hlt).trans a;have c:=b.trans (Bb (s:=[59]) (b.ok h) (by simp));exact c.trans (N6 f _ _ (c.ok h))
  ·exact Fg h
abbrev gP:C5:=[(0,.ptr 0 0 0),(2,.ptr 1 0 0),(3,.ptr 2 0 0)]
abbrev sP(q:RS)(acc:List Nd):St:=⟨[[rc q],[zN],[[vi 40,str [],vi 0,.sl (Ap acc) (.tok 0)]]],[acc.length]⟩
theorem A2e(r:RS)(hr:r.ok):Hands X 263 [.ptr 0 0 0] ⟨[[rc r]],[]⟩ (nd (Ep r).1) ⟨[[rc (Ep r).2]],[]⟩:=by
 refine Hands.run func263 ?_;obtain⟨T,hTT⟩:∃T,E9 2000 [] r=T:=⟨_,rfl⟩
 have hleft:r.left≤1500:=by have:=hr.1;simp only[RS.left];omega
 have aT:r.after T.2:=by rw[←hTT];exact N6 2000 [] r hr
 have hTl:T.1.length≤2000→AK X ⟨263,f263,1,0⟩ (Lm false 16 f263) gP (sP T.2 T.1) (fun e S=>e=.ret (nd (Ep r).1)∧S=⟨[[rc (Ep r).2]],[]⟩):=fun hlen=>by
  refine D5 ?_;have to:=aT.ok hr;have al:=(F5 5000).2.2 [] T.2 to;have hl5:3*T.2.left+2≤5000:=by have:=to.1;simp only[RS.left];omega
  refine Hw 168 3 ?_;refine Dz (Hd [0] [] ((Ayx 5000).2.2 T.2 to hl5 (by omega))) ?_ ?_
  ·exact An (Ck rfl rfl rfl) Gy
  refine Tu ?_;refine Ch (Bu (res:=Ap (T.1++[.mk 30 [] 0 (Ed 5000 [] T.2).1])) rfl rfl rfl rfl rfl rfl rfl rfl rfl rfl rfl rfl rfl rfl (Ad T.1) (Ew T.1) rfl rfl rfl ?_ ?_ rfl) ?_
  ·rw[Ad];simp;omega
  ·rw[Au,Au,Kr];rfl
  refine Av ?_;refine Ch (A7 rfl rfl rfl rfl rfl rfl rfl) ?_;refine B2 ?_;refine Ana ?_;have hP:Ep r=(.mk 40 [] 0 (T.1++[.mk 30 [] 0 (Ed 5000 [] T.2).1]),(Ed 5000 [] T.2).2.ends):=by simp only[Ep];rw[hTT]
  rw[hP];refine Ah (fun h=>?_) (fun h=>?_)
  ·have h':(Ed 5000 [] T.2).2.at_<(Ed 5000 [] T.2).2.ws.length:=by have:=A5 h;rw[D2]at this;omega
   have he:(Ed 5000 [] T.2).2.ends=(Ed 5000 [] T.2).2.spoil:=by simp only[RS.ends];rw[if_pos h']
   rw[he,Lh];refine Bq func263 ?_ rfl;rw[Au]
  ·have h':¬(Ed 5000 [] T.2).2.at_<(Ed 5000 [] T.2).2.ws.length:=by have:=Ba h;rw[D2]at this;omega
   have he:(Ed 5000 [] T.2).2.ends=(Ed 5000 [] T.2).2:=by simp only[RS.ends];rw[if_neg h']
   rw[he,Lh];refine Bq func263 ?_ rfl;rw[Au]
 refine En 2 0 3 rfl rfl rfl rfl rfl rfl ?_;refine Ar (ι:=Nat×List Nd×RS) 3 1 (fun i=>i.2.2.ok∧i.2.1.length+i.1≤2000∧i.2.2.left+1≤i.1∧T=E9 i.1 i.2.1 i.2.2) (fun _=>gP) (fun i=>sP i.2.2 i.2.1) (fun i=>i.1) ?_ (2000,[],r)
  ⟨hr,by simp,by simp only;omega,hTT.symm⟩ ⟨rfl,rfl,rfl,trivial⟩
 rintro⟨n,acc,q⟩ ⟨hq,hlen,hfu,hTn⟩ IH;simp only at hq hlen hfu hTn IH⊢;obtain⟨m,rfl⟩:∃m,n=m+1:=⟨n-1,by omega⟩
 have out:Hq q=false→T=(acc,q):=fun h=>by rw[hTn];simp only[E9];rw[if_neg (by simp[h])]
 refine C7 (fun h=>?_) (fun h=>?_)
 ·have hb:q.bad=false:=by have:(!q.bad)=true:=h;simpa using this
  have fin:∀(d:Nd) (q':RS),Ji q=(d,q')→Hq q=true→d.kids=[] →
   AK X ⟨263,f263,1,0⟩ (Lm false 14 f263) ((4,.ptr 3 0 0)::gP)
    ⟨[[rc q'],[zN],[[vi 40,str [],vi 0,.sl (Ap acc) (.tok 0)]],[[vi d.kind,str d.name,vi d.num,.sl [] .tight]]],[acc.length]⟩ (fun e S=>e=.ret (nd (Ep r).1)∧S=⟨[[rc (Ep r).2]],[]⟩):=fun d q' hd hD hk=>by
   obtain⟨af,hlt⟩:=La hq hD;rw[hd]at af;have aq:=(Aj hlt).trans af;have an:=aq.trans (Bb (s:=[59]) (aq.ok hq) (by simp));have l1:=Ca hlt;have l2:(q'.need [59]).left≤q.step.left:=Bg (af.trans (Bb (s:=[59]) (aq.ok hq) (by simp)));refine D5 ?_;refine Bi 100 rfl ?_;refine Ae [0] [] (Ig q' [59] (aq.ok hq)) ?_;refine Ait 54 ?_;refine Bn (Bu (res:=Ap (acc++[d])) rfl rfl rfl rfl rfl rfl rfl rfl rfl rfl rfl rfl rfl rfl (Ad acc) (Ew acc) rfl rfl rfl ?_ ?_ rfl) ?_
   ·rw[Ad];simp;omega
   ·rw[Au,Au,Kr];obtain⟨k,s,v,ks⟩:=d;simp only[Nd.kids]at hk;subst hk;rfl
   refine IH (m,acc++[d],q'.need [59]) ⟨an.ok hq,by simp;omega,by simp only;omega,?_⟩ (by simp only;omega) _ _ ⟨rfl,rfl,rfl,trivial⟩ ?_ rfl rfl
   ·rw[hTn];simp only[E9];rw[if_pos hD,hd]
   ·simp[St.drop,Ad,upd]
  refine Ae [0] [] (I5 q Nm hq) ?_;refine Ah (fun h1=>?_) (fun h1=>?_)
  ·have ht:=Ay h1 (by simp);have hk:q.take Nm=q.step:=by simp[RS.take,h1]
   have a:=Aj ht.1;rw[hk];refine Agr 14 [0] [] (Xl q.step (a.ok hq)) ?_;exact Bz 4 1 (fin (.mk 31 q.step.name 0 []) q.step.nameR (by simp only[Ji];rw[if_pos h1]) (by simp[Hq,h1]) rfl) ⟨rfl,rfl,rfl,rfl,trivial⟩ rfl rfl rfl rfl rfl
  have hk1:q.take Nm=q:=by simp[RS.take,h1]
  rw[hk1];refine Ae [0] [] (I5 q Fj hq) ?_;refine Ah (fun h2=>?_) (fun h2=>?_)
  ·have ht:=Ay h2 (by simp);have hk:q.take Fj=q.step:=by simp[RS.take,h2]
   have a:=Aj ht.1;have b:=a.trans (Cv (a.ok hq));have c:=b.trans (Bb (s:=[91]) (b.ok hq) (by simp));have hD:Hq q=true:=by simp[Hq,h2]
   have hR:Ji q=(.mk 32 q.step.name (I0 (q.step.nameR.need [91])).1 [],(I0 (q.step.nameR.need [91])).2.need [93]):=by simp only[Ji];rw[if_neg (by simp[h1])]
   rw[hk];refine Ae [0] [] (Xl q.step (a.ok hq)) ?_;refine Ae [0] [] (Ig q.step.nameR [91] (b.ok hq)) ?_;generalize hu:q.step.nameR.need [91]=u at hR c⊢;have hok:=c.ok hq;have e:=c.trans (Abf hok);have fin13:∀(v:Int) (u':RS),I0 u=(v,u')→AK X ⟨263,f263,1,0⟩ (Lm false 13 f263) ((4,.ptr 3 0 0)::gP)
    ⟨[[rc u'],[zN],[[vi 40,str [],vi 0,.sl (Ap acc) (.tok 0)]],[[vi 32,str q.step.name,vi v,.sl [] .tight]]],[acc.length]⟩ (fun e S=>e=.ret (nd (Ep r).1)∧S=⟨[[rc (Ep r).2]],[]⟩):=fun v u' hv=>by
    rw[hv]at hR e;refine D5 ?_;refine Bi 100 rfl ?_;refine Agr 14 [0] [] (Ig u' [93] (e.ok hq)) ?_;exact Bz 4 1 (fin (.mk 32 q.step.name v []) (u'.need [93]) hR hD rfl) ⟨rfl,rfl,rfl,rfl,trivial⟩ rfl rfl rfl rfl rfl
   have hno:(!u.bad&&u.kind==2)=false→AK X ⟨263,f263,1,0⟩ (Lm false 12 f263) ((4,.ptr 3 0 0)::gP)
    ⟨[[rc u],[zN],[[vi 40,str [],vi 0,.sl (Ap acc) (.tok 0)]],[[vi 32,str q.step.name,vi (-1),.sl [] .tight]]],[acc.length]⟩ (fun e S=>e=.ret (nd (Ep r).1)∧S=⟨[[rc (Ep r).2]],[]⟩):=fun hc=>by
    refine D5 ?_;refine Bi 100 rfl ?_;refine Agr 13 [0] [] (Ig u [63] hok) ?_;exact Bz 4 1 (fin13 (-1) (u.need [63]) (by simp only[I0];rw[if_neg (by simp[hc])])) ⟨rfl,rfl,rfl,rfl,trivial⟩ rfl rfl rfl rfl rfl
   refine Df (fun h3=>?_) (fun h3=>?_)
   ·refine Ae [0] [] (Amr u) ?_;refine Ey 0 12 (fun h4=>?_) (fun h4=>?_)
    ·have hk2:u.kind=2:=by have:(u.kind==2)=true:=h4;simpa using this
     have hlt:=Se (r:=u) (by omega);refine Ae [0] [] (Aie u) ?_;have hsz:I0 u=(Dp u.text,u.step):=by simp only[I0];rw[if_pos (by simp[hk2];simpa using h3)]
     have hu1:=hok.1;refine Arv 13 (Ado u.text) ?_;refine Bz 4 1 (fin13 (Dp u.text) u.step hsz) ⟨rfl,rfl,rfl,rfl,trivial⟩ ?_ rfl rfl rfl rfl;simp only[rc,rd,RS.step];rw[show ((u.at_+1:Nat):Int)=IntKind.i64.wrap ((u.at_:Int)+1)from((Ac (by omega) (by omega)).trans (by omega)).symm];rfl
    ·have hk2:(u.kind==2)=false:=h4;exact Bz 4 1 (hno (by simp[hk2])) ⟨rfl,rfl,rfl,rfl,trivial⟩ rfl rfl rfl rfl rfl
   ·refine Ey 0 12 (fun h4=>?_) (fun _=>?_)
    ·cases h4
    exact Bz 4 1 (hno (by simp[h3])) ⟨rfl,rfl,rfl,rfl,trivial⟩ rfl rfl rfl rfl rfl
  ·have hk2:q.take Fj=q:=by simp[RS.take,h2]
   have hT:=out (by simp[Hq,h1,h2]);rw[hT]at hTl;rw[hk2];exact Bz 3 1 (hTl (by simp only;omega)) ⟨rfl,rfl,rfl,trivial⟩ rfl rfl rfl rfl rfl
 ·have hb:q.bad=true:=by have:(!q.bad)=false:=h;simpa using this
  have hT:=out (by simp[Hq,Du hb]);rw[hT]at hTl;exact Bz 3 1 (hTl (by simp only;omega)) ⟨rfl,rfl,rfl,trivial⟩ rfl rfl rfl rfl rfl
mutual
def Dh:Nd→Nat
 |.mk _ _ _ ks=>Gu ks+1
def Gu:List Nd→Nat
 |[]=>0
 |n::l=>max (Dh n) (Gu l)
end
theorem J4(n:Nd):Dh n=Gu n.kids+1:=by cases n;simp[Dh,Nd.kids]
theorem Aej(a b:List Nd):Gu (a++b)=max (Gu a) (Gu b):=by
 induction a with
 |nil=>simp[Gu]
 |cons x a ih=>simp only[Pz,Gu,ih];omega
theorem Aa2{l:List Nd}{i:Nat}{n:Nd}(h:l[i]?=some n):Gu (l.take (i+1))=max (Gu (l.take i)) (Dh n):=by
 rw[G8,h,Aej];simp[Gu]
theorem T6(n:Nd):Dh n≤Ai n:=by
 induction n using Nd.ind with
 |h n ih=>
  have key:∀l:List Nd,(∀k,k∈l→Dh k≤Ai k)→Gu l≤A3 l:=by
   intro l
   induction l with
   |nil=>intro _;simp[Gu]
   |cons x l ihl=>
    intro h;have h1:=h x (by simp);have h2:=ihl (fun k hk=>h k (by simp[hk]));simp only[Gu,A3];omega
  rw[J4,Cj];have:=key n.kids ih;omega
mutual
def wN:Nd→Nat
 |.mk _ s _ ks=>1+s.length+wL ks
def wL:List Nd→Nat
 |[]=>0
 |n::l=>wN n+wL l
end
theorem Ws(n:Nd):wN n=1+n.name.length+wL n.kids:=by cases n;rfl
theorem P5{l:List Nd}{k:Nd}(h:k∈l):wN k≤wL l:=by
 induction l with
 |nil=>cases h
 |cons x l ih=>
  simp only[wL];rcases zzq13.1 h with rfl|h
  ·omega
  ·have:=ih h;omega
theorem Jg{n k:Nd}(h:k∈n.kids):wN k<wN n:=by
 have:=P5 h;rw[Ws n];omega
theorem Ry(n:Nd):Ai n≤wN n:=by
 induction n using Nd.ind with
 |h n ih=>
  have key:∀l:List Nd,(∀k,k∈l→Ai k≤wN k)→A3 l≤wL l:=by
   intro l
   induction l with
   |nil=>intro _;simp[A3]
   |cons x l ihl=>
    intro h;have h1:=h x (by simp);have h2:=ihl (fun k hk=>h k (by simp[hk]));simp only[A3,wL];omega
  rw[Ws,Cj];have:=key n.kids ih;omega
theorem G7(n:Nd):n.kids.length<wN n:=by
 have:=Bm n.kids;have:=Ry n;rw[Cj]at this;omega
theorem Aqo(n:Nd):n.name.length<wN n:=by rw[Ws];omega
theorem Aon(n:Nd)(hn:Ai n≤4000000000):Pure X 257 [nd n] (vi (Ai n)):=by
 induction n using Nd.ind with
 |h n ih=>
 refine Pure.run func257 ?_;have hc:=Cj n;have hll:=Bm n.kids;refine Ar (ι:=Nat) 1 0 (fun i=>i≤n.kids.length) (fun i=>[(4,vi i),(3,vi (1+A3 (n.kids.take i):Nat)),(1,.ptr 0 0 0)]) (fun _=>⟨[[Af n]],[]⟩) (fun i=>n.kids.length-i) ?_ 0 (B3 _)
  ⟨rfl,rfl,rfl,trivial⟩
 intro i hi IH;refine C7 (fun h=>?_) (fun h=>?_)
 ·have hlt:i<n.kids.length:=by have:=A5 h;rw[Ad]at this;omega
  obtain⟨kid,hkid⟩:=Ab n.kids hlt;have hsn:=Pm hkid;have hle:=Qi (l:=n.kids) (i:=i+1);refine B4 i (by omega) (Am hkid) ?_;refine Al (ih kid (Bh hkid) (by omega)) ?_;exact IH (i+1) hlt (by omega) _ _ ⟨vsx (by omega),vsx (by omega),rfl,trivial⟩ rfl rfl rfl
 ·have:i=n.kids.length:=by have:=Ba h;rw[Ad]at this;omega
  subst this;refine Az func257 ?_;rw[hc,I2];rfl
theorem Aoo(n:Nd)(hn:Ai n≤4000000000):Pure X 258 [nd n] (vi (Dh n)):=by
 induction n using Nd.ind with
 |h n ih=>
 refine Pure.run func258 ?_;have hc:=Cj n;have hll:=Bm n.kids;have hd:=T6 n;rw[J4]at hd⊢;refine Ar (ι:=Nat) 1 0 (fun i=>i≤n.kids.length) (fun i=>[(4,vi i),(3,vi (Gu (n.kids.take i):Nat)),(1,.ptr 0 0 0)]) (fun _=>⟨[[Af n]],[]⟩) (fun i=>n.kids.length-i) ?_ 0 (B3 _)
  ⟨rfl,rfl,rfl,trivial⟩
 intro i hi IH;refine C7 (fun h=>?_) (fun h=>?_)
 ·have hlt:i<n.kids.length:=by have:=A5 h;rw[Ad]at this;omega
  obtain⟨kid,hkid⟩:=Ab n.kids hlt;have hsn:=Aa2 hkid;have hcs:=Pm hkid;have hle:=Qi (l:=n.kids) (i:=i+1);refine B4 i (by omega) (Am hkid) ?_;refine Al (ih kid (Bh hkid) (by omega)) ?_;refine Ah (fun h2=>?_) (fun h2=>?_)
  ·have:=A5 h2;exact IH (i+1) hlt (by omega) _ _ ⟨vsx (by omega),Ci (by omega),rfl,trivial⟩ rfl rfl rfl
  ·have:=Ba h2;exact IH (i+1) hlt (by omega) _ _ ⟨vsx (by omega),Ci (by omega),rfl,trivial⟩ rfl rfl rfl
 ·have:i=n.kids.length:=by have:=Ba h;rw[Ad]at this;omega
  subst this;refine Az func258 ?_;rw[I2];exact congrArg (fun x=>AV.val (.int .i64 x)) ((Ac (by omega) (by omega)).trans (by omega))
def Kt(k:Int):Bool:=Bl k 1 8
def Sd(k:Int):Bool:=Bl k 11 16
def Ym(k:Int):Bool:=Bl k 21 29
theorem At6(k:Int):Pure X 309 [vi k] (vb (Kt k)):=by
 refine Pure.run func309 ?_;refine Al (H4 k 1 8) ?_;exact Az func309 rfl
theorem At5(k:Int):Pure X 307 [vi k] (vb (Sd k)):=by
 refine Pure.run func307 ?_;refine Al (H4 k 11 16) ?_;exact Az func307 rfl
theorem At7(k:Int):Pure X 308 [vi k] (vb (Ym k)):=by
 refine Pure.run func308 ?_;refine Al (H4 k 21 29) ?_;exact Az func308 rfl
def Bj(k:Int):Int×Bool×Bool:=
 if k=1∨k=28∨k=29 then(0,false,true)
 else if k=2∨k=4∨k=23∨k=31∨k=32 then(0,true,true)
 else if k=3∨k=21 then(1,true,true)
 else if k=5∨k=27 then(1,false,true)
 else if k=6∨k=7∨k=8∨k=11∨k=12∨k=13∨k=14∨k=15∨k=16∨k=25 then(2,false,true)
 else if k=22 then(2,true,true)
 else if k=24 then(3,false,true)
 else if k=26 then(3,true,true)
 else if k=30∨k=40 then(-1,false,true)
 else(0,false,false)
theorem Ax8(k:Int):Pure X 278 [vi k] (.tup [vi (Bj k).1,vb (Bj k).2.1,vb (Bj k).2.2]):=by
 refine Pure.run func278 ?_
 repeat' (refine Ah (fun _=>?_) (fun _=>?_))
 all_goals refine Az func278 ?_
 all_goals (simp_all [Bj,C8])
def K5(n:Nd)(i k:Int):Bool:=
 if n.kind=24∨n.kind=25∨n.kind=27 then(if i=0 then Sd k else k==30)
 else if n.kind=26∧i=2 then k==30
 else if n.kind=30 then Ym k
 else if n.kind=40 then(if i=n.kids.length-1 then k==30 else k==31||k==32)
 else Kt k
theorem A38(n:Nd)(i k:Int)(hn:n.kids.length≤4000000000):Pure X 280 [nd n,vi i,vi k] (vb (K5 n i k)):=by
 refine Pure.run func280 ?_;have hw:IntKind.i64.wrap ((Ap n.kids).length-1:Int)=n.kids.length-1:=by rw[Ad];exact Ac (by omega) (by omega)
 repeat' (first|refine Ah (fun _=>?_) (fun _=>?_)|refine Df (fun _=>?_) (fun _=>?_)|refine Al (At5 k) ?_|refine Al (At7 k) ?_|refine Al (At6 k) ?_)
 all_goals refine Az func280 ?_
 all_goals (simp_all [K5,C8])
def Fh(k m:Int):Bool:=if k=1 then Bl m 0 1000000 else if k=32 then Bl m (-1) 1000000 else m==0
def H9(k:Int)(s:List UInt8)(m:Int)(len:Nat):Bool:=
 (Bj k).2.2&&(decide ((Bj k).1<0)||((len:Int)==(Bj k).1))&&((Bj k).2.1==!(s==[]))&&(!(Bj k).2.1||nameS s)&&!(k==40&&len==0)&&Fh k m
mutual
def Co:Nd→Bool
 |.mk k s m ks=>H9 k s m ks.length&&Et (.mk k s m ks) 0 ks
def Et:Nd→Nat→List Nd→Bool
 |_,_,[]=>true
 |p,i,x::l=>K5 p i x.kind&&(Co x&&Et p (i+1) l)
end
theorem K4(n:Nd):Co n=(H9 n.kind n.name n.num n.kids.length&&Et n 0 n.kids):=by cases n;rfl
theorem At3(n:Nd)(hn:wN n≤1000000000):Pure X 259 [nd n] (vb (Co n)):=by
 induction n using Nd.ind with
 |h n ih=>
 have hll:=G7 n;have hloop:∀T:Bool,Et n 0 n.kids=T→AK X ⟨259,f259,0,0⟩ (Lm false 13 f259) [(1,.ptr 0 0 0)] ⟨[[Af n]],[]⟩ (fun e S=>e=.ret (vb T)∧S=⟨[],[]⟩):=fun T hT=>by
  refine D5 ?_;refine Bi 100 rfl ?_;refine Ar (ι:=Nat) 1 0 (fun i=>i≤n.kids.length∧T=Et n i (n.kids.drop i)) (fun i=>[(6,vi i),(1,.ptr 0 0 0)]) (fun _=>⟨[[Af n]],[]⟩) (fun i=>n.kids.length-i) ?_ 0 ⟨B3 _,hT.symm⟩
   ⟨rfl,rfl,trivial⟩
  rintro i ⟨hi,hTi⟩ IH;refine C7 (fun h=>?_) (fun h=>?_)
  ·have hlt:i<n.kids.length:=by have:=A5 h;rw[Ad]at this;omega
   obtain⟨kid,hkid⟩:=Ab n.kids hlt;have hkw:=Jg (Bh hkid);rw[B6 hkid]at hTi;simp only[Et]at hTi;refine D8 0 ?_;refine Eo (fun S'=>Cu rfl rfl rfl rfl rfl rfl rfl rfl rfl (by omega) (Am hkid)) ?_;refine Fx ?_;refine Js (A38 n i kid.kind (by omega)) ?_;refine M0 1 ?_;cases hk:K5 n i kid.kind with
   |false=>
    refine Qb true ?_;refine Fx ?_;refine B2 ?_;refine A0 ?_;refine Az func259 ?_;rw[hTi,hk];rfl
   |true=>
    refine Qb false ?_;refine Fx ?_;refine Eo (fun S'=>Cu rfl rfl rfl rfl rfl rfl rfl rfl rfl (by omega) (Am hkid)) ?_;refine Fx ?_;refine Js (ih kid (Bh hkid) (by omega)) ?_;refine Fx ?_;refine B2 ?_;refine Ah (fun h2=>?_) (fun h2=>?_)
    ·have h2':(!Co kid)=true:=h2;refine Az func259 ?_;rw[hTi];simp at h2';simp[h2',C8]
    ·have h2':(!Co kid)=false:=h2;simp at h2';refine IH (i+1) ⟨hlt,?_⟩ (by omega) _ _ ⟨vsx (by omega),rfl,trivial⟩ rfl rfl rfl;rw[hTi,hk,h2'];simp
  ·have:i=n.kids.length:=by have:=Ba h;rw[Ad]at this;omega
   subst this;refine Az func259 ?_;rw[hTi,Hz];rfl
 have hnl:n.name.length≤1000000000:=by have:=Aqo n;omega
 have hF:=K4 n;have hcont:H9 n.kind n.name 0 n.kids.length=H9 n.kind n.name 0 n.kids.length→∀z,(H9 n.kind n.name n.num n.kids.length=Fh n.kind n.num)→z=Co n →
  AK X ⟨259,f259,0,0⟩ (Lm false 4 f259) [(1,.ptr 0 0 0)] ⟨[[Af n]],[]⟩ (fun e S=>e=.ret (vb z)∧S=⟨[],[]⟩):=fun _ z hH hz=>by
  subst hz;rw[hH]at hF;refine D5 ?_;refine C7 (fun h1=>?_) (fun h1=>?_)
  ·refine Al (H4 n.num 0 1000000) ?_;refine Ey 0 13 (fun h2=>?_) (fun h2=>?_)
   ·refine Az func259 ?_;rw[hF];simp_all [Fh,C8]
   ·refine Bz 1 0 (hloop _ ?_) ⟨rfl,trivial⟩ rfl rfl rfl rfl rfl;simp_all [Fh]
  ·refine Ah (fun h2=>?_) (fun h2=>?_)
   ·refine Al (H4 n.num (-1) 1000000) ?_;refine Ey 0 13 (fun h2=>?_) (fun h2=>?_)
    ·refine Az func259 ?_;rw[hF];simp_all [Fh,C8]
    ·refine Bz 1 0 (hloop _ ?_) ⟨rfl,trivial⟩ rfl rfl rfl rfl rfl;simp_all [Fh]
   ·refine Ey 0 13 (fun h2=>?_) (fun h2=>?_)
    ·refine Az func259 ?_;rw[hF];simp_all [Fh,C8]
    ·refine Bz 1 0 (hloop _ ?_) ⟨rfl,trivial⟩ rfl rfl rfl rfl rfl;simp_all [Fh]
 refine Pure.run func259 ?_;refine Al (Ax8 n.kind) ?_;generalize hsh:Bj n.kind=sh;obtain⟨a,b,c⟩:=sh;have hlen:((Ap n.kids).length:Int)=n.kids.length:=by rw[Ad]
 have hH:H9 n.kind n.name n.num n.kids.length=(c&&(decide (a<0)||((n.kids.length:Int)==a))&&(b==!(n.name==[]))&&(!b||nameS n.name)&&!(n.kind==40&&n.kids.length==0)&&Fh n.kind n.num):=by simp only[H9,hsh]
 cases c with
 |false=>
  refine Hh ?_;refine Hh ?_;refine Hh ?_;refine Hh ?_;refine A0 ?_;refine Az func259 ?_;rw[hF,hH];simp_all [C8]<;>(intros;omega)
 |true=>
  refine Ii ?_;refine Df (fun h1=>?_) (fun h1=>?_)
  ·refine Df (fun h2=>?_) (fun h2=>?_)
   ·refine Hh ?_;refine Hh ?_;refine A0 ?_;refine Az func259 ?_;rw[hF,hH];simp_all [C8]<;>(intros;omega)
   ·skip
    refine Df (fun h3=>?_) (fun h3=>?_)
    ·refine Hh ?_;refine A0 ?_;refine Az func259 ?_;rw[hF,hH];simp_all [C8]<;>(intros;omega)
    ·cases b with
     |true=>
      refine Hh ?_;refine Al (Amh n.name hnl) ?_;refine Df (fun h4=>?_) (fun h4=>?_)
      ·skip
       refine A0 ?_;refine Az func259 ?_;rw[hF,hH];simp_all [C8]<;>(intros;omega)
      ·skip
       refine Df (fun h5=>?_) (fun h5=>?_)
       ·refine Ey 0 4 (fun h6=>?_) (fun h6=>?_)
        ·refine Az func259 ?_;rw[hF,hH];simp_all [C8]<;>(intros;omega)
        ·refine Bz 1 0 (hcont rfl _ ?_ rfl) ⟨rfl,trivial⟩ rfl rfl rfl rfl rfl;rw[hH];simp_all<;>(intro _ hk;rw[Ad,hk]at hlen;simp at hlen;omega)
       ·refine Ey 0 4 (fun h6=>?_) (fun h6=>?_)
        ·cases h6
        ·refine Bz 1 0 (hcont rfl _ ?_ rfl) ⟨rfl,trivial⟩ rfl rfl rfl rfl rfl;rw[hH];simp_all<;>(intro _ hk;rw[Ad,hk]at hlen;simp at hlen;omega)
     |false=>
      refine Ii ?_;refine Ii ?_;refine Df (fun h5=>?_) (fun h5=>?_)
      ·refine Ey 0 4 (fun h6=>?_) (fun h6=>?_)
       ·refine Az func259 ?_;rw[hF,hH];simp_all [C8]<;>(intros;omega)
       ·refine Bz 1 0 (hcont rfl _ ?_ rfl) ⟨rfl,trivial⟩ rfl rfl rfl rfl rfl;rw[hH];simp_all<;>(intro _ hk;rw[Ad,hk]at hlen;simp at hlen;omega)
      ·refine Ey 0 4 (fun h6=>?_) (fun h6=>?_)
       ·cases h6
       ·refine Bz 1 0 (hcont rfl _ ?_ rfl) ⟨rfl,trivial⟩ rfl rfl rfl rfl rfl;rw[hH];simp_all<;>(intro _ hk;rw[Ad,hk]at hlen;simp at hlen;omega)
  ·refine Ii ?_;refine Df (fun h3=>?_) (fun h3=>?_)
   ·refine Hh ?_;refine A0 ?_;refine Az func259 ?_;rw[hF,hH];simp_all [C8]<;>(intros;omega)
   ·cases b with
    |true=>
     refine Hh ?_;refine Al (Amh n.name hnl) ?_;refine Df (fun h4=>?_) (fun h4=>?_)
     ·skip
      refine A0 ?_;refine Az func259 ?_;rw[hF,hH];simp_all [C8]<;>(intros;omega)
     ·skip
      refine Df (fun h5=>?_) (fun h5=>?_)
      ·refine Ey 0 4 (fun h6=>?_) (fun h6=>?_)
       ·refine Az func259 ?_;rw[hF,hH];simp_all [C8]<;>(intros;omega)
       ·refine Bz 1 0 (hcont rfl _ ?_ rfl) ⟨rfl,trivial⟩ rfl rfl rfl rfl rfl;rw[hH];simp_all<;>(intro _ hk;rw[Ad,hk]at hlen;simp at hlen;omega)
      ·refine Ey 0 4 (fun h6=>?_) (fun h6=>?_)
       ·cases h6
       ·refine Bz 1 0 (hcont rfl _ ?_ rfl) ⟨rfl,trivial⟩ rfl rfl rfl rfl rfl;rw[hH];simp_all<;>(intro _ hk;rw[Ad,hk]at hlen;simp at hlen;omega)
    |false=>
     refine Ii ?_;refine Ii ?_;refine Df (fun h5=>?_) (fun h5=>?_)
     ·refine Ey 0 4 (fun h6=>?_) (fun h6=>?_)
      ·refine Az func259 ?_;rw[hF,hH];simp_all [C8]<;>(intros;omega)
      ·refine Bz 1 0 (hcont rfl _ ?_ rfl) ⟨rfl,trivial⟩ rfl rfl rfl rfl rfl;rw[hH];simp_all<;>(intro _ hk;rw[Ad,hk]at hlen;simp at hlen;omega)
     ·refine Ey 0 4 (fun h6=>?_) (fun h6=>?_)
      ·cases h6
      ·refine Bz 1 0 (hcont rfl _ ?_ rfl) ⟨rfl,trivial⟩ rfl rfl rfl rfl rfl;rw[hH];simp_all<;>(intro _ hk;rw[Ad,hk]at hlen;simp at hlen;omega)
def Tf(n:Nd):Bool:=decide (Ai n≤500)&&decide (Dh n≤24)&&Co n
theorem A12(n:Nd)(hn:wN n≤1000000000):Pure X 216 [nd n] (vb (Tf n)):=by
 have hc:=Ry n;have hz:∀a b:Nat,((a:Int)≤(b:Int))↔a≤b:=fun a b=>by omega
 refine Pure.run func216 ?_;refine Al (Aon n (by omega)) ?_;refine Df (fun h1=>?_) (fun h1=>?_)
 ·have h1':Ai n≤500:=by have:=A5 h1;omega
  refine Al (Aoo n (by omega)) ?_;refine Df (fun h2=>?_) (fun h2=>?_)
  ·have h2':Dh n≤24:=by have:=A5 h2;omega
   refine Al (At3 n hn) ?_;refine Az func216 ?_;simp[Tf,h1',h2',C8]
  ·have h2':¬Dh n≤24:=by have:=Ba h2;omega
   refine Az func216 ?_;simp[Tf,h2',C8]
 ·have h1':¬Ai n≤500:=by have:=Ba h1;omega
  refine Ii ?_;refine Az func216 ?_;simp[Tf,h1',C8]
inductive FE:Nd→Prop
 |num (m:Int) (h0:0≤m) (h1:m≤1000000):FE (.mk 1 [] m [])
 |var (s:List UInt8) (h:nameS s=true):FE (.mk 2 s 0 [])
 |cell (s:List UInt8) (a:Nd) (h:nameS s=true) (ha:FE a):FE (.mk 3 s 0 [a])
 |len (s:List UInt8) (h:nameS s=true):FE (.mk 4 s 0 [])
 |neg (a:Nd) (ha:FE a):FE (.mk 5 [] 0 [a])
 |two (k:Int) (a b:Nd) (hk:k=6∨k=7∨k=8) (ha:FE a) (hb:FE b):FE (.mk k [] 0 [a,b])
inductive FC:Nd→Prop
 |mk (k:Int) (a b:Nd) (h0:11≤k) (h1:k≤16) (ha:FE a) (hb:FE b):FC (.mk k [] 0 [a,b])
inductive FS:Nd→Prop
 |set (s:List UInt8) (a:Nd) (h:nameS s=true) (ha:FE a):FS (.mk 21 s 0 [a])
 |put (s:List UInt8) (a b:Nd) (h:nameS s=true) (ha:FE a) (hb:FE b):FS (.mk 22 s 0 [a,b])
 |read (s:List UInt8) (h:nameS s=true):FS (.mk 23 s 0 [])
 |ifs (c:Nd) (l l':List Nd) (hc:FC c) (hl:∀x,x∈l→FS x) (hl':∀x,x∈l'→FS x):FS (.mk 24 [] 0 [c,.mk 30 [] 0 l,.mk 30 [] 0 l'])
 |whil (c:Nd) (l:List Nd) (hc:FC c) (hl:∀x,x∈l→FS x):FS (.mk 25 [] 0 [c,.mk 30 [] 0 l])
 |for_ (s:List UInt8) (a b:Nd) (l:List Nd) (h:nameS s=true) (ha:FE a) (hb:FE b) (hl:∀x,x∈l→FS x):FS (.mk 26 s 0 [a,b,.mk 30 [] 0 l])
 |check (c:Nd) (hc:FC c):FS (.mk 27 [] 0 [c])
 |skip:FS (.mk 28 [] 0 [])
 |stop:FS (.mk 29 [] 0 [])
inductive FV:Nd→Prop
 |var (s:List UInt8) (h:nameS s=true):FV (.mk 31 s 0 [])
 |arr (s:List UInt8) (m:Int) (h:nameS s=true) (h0:-1≤m) (h1:m≤1000000):FV (.mk 32 s m [])
inductive FP:Nd→Prop
 |mk (ds l:List Nd) (hd:∀x,x∈ds→FV x) (hl:∀x,x∈l→FS x):FP (.mk 40 [] 0 (ds++[.mk 30 [] 0 l]))
theorem N9{s:List UInt8}(h:nameS s=true):s≠[]:=by rintro rfl;simp[nameS]at h
theorem Ajp{l:List Nd}(h:(l.length:Int)=0):l=[]:=by
 cases l with
 |nil=>rfl
 |cons x l=>simp at h;omega
theorem Axo{l:List Nd}(h:(l.length:Int)=1):∃a,l=[a]:=by
 match l with
 |[]=>simp at h
 |[a]=>exact⟨a,rfl⟩
 |_::_::_=>simp at h;omega
theorem Aqd{l:List Nd}(h:(l.length:Int)=2):∃a b,l=[a,b]:=by
 match l with
 |[]=>simp at h
 |[_]=>simp at h
 |[a,b]=>exact⟨a,b,rfl⟩
 |_::_::_::_=>simp at h;omega
theorem A31{l:List Nd}(h:(l.length:Int)=3):∃a b c,l=[a,b,c]:=by
 match l with
 |[]=>simp at h
 |[_]=>simp at h
 |[_,_]=>simp at h
 |[a,b,c]=>exact⟨a,b,c,rfl⟩
 |_::_::_::_::_=>simp at h;omega
structure HeadF (k:Int)(s:List UInt8)(m:Int)(ks:List Nd)(len:Int)(nm:Bool):Prop where
 hl:0≤len→(ks.length:Int)=len
 hs:nm=!(s==[])
 hn:nm=true→nameS s=true
 hk:k=40→ks≠[]
 hm:Fh k m=true
theorem Afg{k:Int}{s:List UInt8}{m:Int}{ks:List Nd}(h:H9 k s m ks.length=true):(Bj k).2.2=true∧HeadF k s m ks (Bj k).1 (Bj k).2.1:=by
 simp only[H9,Dd,Pd,Ke,zzq54,Ml]at h;obtain⟨⟨⟨⟨⟨h1,h2⟩,h3⟩,h4⟩,h5⟩,h6⟩:=h;refine⟨h1,⟨fun h0=>?_,h3,fun hn=>?_,fun h40 hnil=>?_,h6⟩⟩
 ·rcases h2 with h2|h2
  ·omega
  ·exact h2
 ·rcases h4 with h4|h4
  ·rw[hn]at h4;cases h4
  ·exact h4
 ·subst h40;subst hnil;simp at h5
theorem HeadF.no{k:Int}{s:List UInt8}{m:Int}{ks:List Nd}{len:Int}(h:HeadF k s m ks len false):s=[]:=by
 have:=h.hs;simpa using this
theorem HeadF.num0{k:Int}{s:List UInt8}{m:Int}{ks:List Nd}{len:Int}{b:Bool}(h:HeadF k s m ks len b)(h1:k≠1)(h2:k≠32):m=0:=by
 have:=h.hm;simpa[Fh,h1,h2]using this
theorem Le{p:Nd}:∀{l:List Nd}{i:Nat},Et p i l=true→∀(j:Nat)(x:Nd),l[j]?=some x→K5 p ((i+j:Nat):Int) x.kind=true∧Co x=true
 |[],i,_,j,x,h=>by simp at h
 |y::l,i,hf,j,x,h=>by
  simp only[Et,Dd]at hf;cases j with
  |zero=>simp at h;subst h;exact⟨hf.1,hf.2.1⟩
  |succ j=>
   have:=Le hf.2.2 j x (by simpa using h);rw[show i+(j+1)=i+1+j by omega];exact this
theorem Cn{n lo hi:Int}:Bl n lo hi=true↔lo≤n∧n≤hi:=by simp[Bl]
@[simp] theorem M6(k:Int)(s:List UInt8)(m:Int)(ks:List Nd):(Nd.mk k s m ks).kind=k:=rfl
@[simp] theorem Vw(k:Int)(s:List UInt8)(m:Int)(ks:List Nd):(Nd.mk k s m ks).name=s:=rfl
@[simp] theorem Aai(k:Int)(s:List UInt8)(m:Int)(ks:List Nd):(Nd.mk k s m ks).num=m:=rfl
@[simp] theorem Gh(k:Int)(s:List UInt8)(m:Int)(ks:List Nd):(Nd.mk k s m ks).kids=ks:=rfl
theorem Atj{n:Nd}{i k:Int}(h:n.kind<24):K5 n i k=Kt k:=by
 unfold K5;rw[if_neg (show ¬(n.kind=24∨n.kind=25∨n.kind=27) by omega),if_neg (show ¬(n.kind=26∧i=2) by omega),if_neg (show ¬n.kind=30 by omega),if_neg (show ¬n.kind=40 by omega)]
theorem Ahu{n:Nd}{i k:Int}(h:n.kind=40):K5 n i k=if i=n.kids.length-1 then k==30 else k==31||k==32:=by
 unfold K5;rw[if_neg (show ¬(n.kind=24∨n.kind=25∨n.kind=27) by omega),if_neg (show ¬(n.kind=26∧i=2) by omega),if_neg (show ¬n.kind=30 by omega),if_pos h]
theorem Aeu(n:Nd)(hf:Co n=true)(hk:Kt n.kind=true):FE n:=by
 induction n using Nd.ind with
 |h n ih=>
 obtain⟨k,s,m,ks⟩:=n;simp only[M6,Kt,Cn]at hk;rw[K4,Dd]at hf;simp only[M6,Vw,Aai,Gh]at hf ih;obtain⟨h1,h2⟩:=hf;have hall:=Le h2;have kidE:∀(j:Nat) (x:Nd),ks[j]?=some x→FE x:=fun j x hx=>by
  obtain⟨h3,h4⟩:=hall j x hx;refine ih x (Bh hx) h4 ?_;rwa[Atj (by simp;omega)]at h3
 obtain⟨_,hH⟩:=Afg h1;have:k=1∨k=2∨k=3∨k=4∨k=5∨k=6∨k=7∨k=8:=by omega
 rcases this with rfl|rfl|rfl|rfl|rfl|rfl|rfl|rfl
 ·rw[show Bj 1=(0,false,true) by simp[Bj]]at hH;obtain rfl:=Ajp (hH.hl (by simp));obtain rfl:=hH.no;have:=hH.hm;simp only[Fh,if_true,Cn]at this;exact .num m this.1 this.2
 ·rw[show Bj 2=(0,true,true) by simp[Bj]]at hH;obtain rfl:=Ajp (hH.hl (by simp));obtain rfl:=hH.num0 (by simp) (by simp);exact .var s (hH.hn rfl)
 ·rw[show Bj 3=(1,true,true) by simp[Bj]]at hH;obtain⟨a,rfl⟩:=Axo (hH.hl (by simp));obtain rfl:=hH.num0 (by simp) (by simp);exact .cell s a (hH.hn rfl) (kidE 0 a rfl)
 ·rw[show Bj 4=(0,true,true) by simp[Bj]]at hH;obtain rfl:=Ajp (hH.hl (by simp));obtain rfl:=hH.num0 (by simp) (by simp);exact .len s (hH.hn rfl)
 ·rw[show Bj 5=(1,false,true) by simp[Bj]]at hH;obtain⟨a,rfl⟩:=Axo (hH.hl (by simp));obtain rfl:=hH.num0 (by simp) (by simp);obtain rfl:=hH.no;exact .neg a (kidE 0 a rfl)
 ·rw[show Bj 6=(2,false,true) by simp[Bj]]at hH;obtain⟨a,b,rfl⟩:=Aqd (hH.hl (by simp));obtain rfl:=hH.num0 (by simp) (by simp);obtain rfl:=hH.no;exact .two 6 a b (by simp) (kidE 0 a rfl) (kidE 1 b rfl)
 ·rw[show Bj 7=(2,false,true) by simp[Bj]]at hH;obtain⟨a,b,rfl⟩:=Aqd (hH.hl (by simp));obtain rfl:=hH.num0 (by simp) (by simp);obtain rfl:=hH.no;exact .two 7 a b (by simp) (kidE 0 a rfl) (kidE 1 b rfl)
 ·rw[show Bj 8=(2,false,true) by simp[Bj]]at hH;obtain⟨a,b,rfl⟩:=Aqd (hH.hl (by simp));obtain rfl:=hH.num0 (by simp) (by simp);obtain rfl:=hH.no;exact .two 8 a b (by simp) (kidE 0 a rfl) (kidE 1 b rfl)
theorem Arz(n:Nd)(hf:Co n=true)(hk:Sd n.kind=true):FC n:=by
 obtain⟨k,s,m,ks⟩:=n;simp only[M6,Sd,Cn]at hk;rw[K4,Dd]at hf;simp only[M6,Vw,Aai,Gh]at hf;obtain⟨h1,h2⟩:=hf;have hall:=Le h2;have kidE:∀(j:Nat) (x:Nd),ks[j]?=some x→FE x:=fun j x hx=>by
  obtain⟨h3,h4⟩:=hall j x hx;refine Aeu x h4 ?_;rwa[Atj (by simp;omega)]at h3
 obtain⟨_,hH⟩:=Afg h1;rw[show Bj k=(2,false,true) by simp only[Bj];rw[if_neg (by omega),if_neg (by omega),if_neg (by omega),if_neg (by omega),if_pos (by omega)]]at hH;obtain⟨a,b,rfl⟩:=Aqd (hH.hl (by simp));obtain rfl:=hH.num0 (by omega) (by omega);obtain rfl:=hH.no;exact .mk k a b hk.1 hk.2 (kidE 0 a rfl) (kidE 1 b rfl)
theorem A3i(n:Nd):Co n=true→(Ym n.kind=true→FS n)∧(n.kind=30→∃l,n=.mk 30 [] 0 l∧∀x,x∈l→FS x):=by
 induction n using Nd.ind with
 |h n ih=>
 intro hf;obtain⟨k,s,m,ks⟩:=n;rw[K4,Dd]at hf;simp only[M6,Vw,Aai,Gh]at hf ih⊢;obtain⟨h1,h2⟩:=hf;have hall:=Le h2;obtain⟨_,hH⟩:=Afg h1;have kid:∀(j:Nat) (x:Nd),ks[j]?=some x→K5 (.mk k s m ks) j x.kind=true:=fun j x hx=>by have:=(hall j x hx).1;rwa[Jy]at this
 have fm:∀(j:Nat) (x:Nd),ks[j]?=some x→Co x=true:=fun j x hx=>(hall j x hx).2;have ihs:∀(j:Nat) (x:Nd),ks[j]?=some x→x.kind=30→∃l,x=.mk 30 [] 0 l∧∀x,x∈l→FS x:=fun j x hx=>(ih x (Bh hx) (fm j x hx)).2;refine⟨fun hk=>?_,fun hk=>?_⟩
 ·simp only[Ym,Cn]at hk;have:k=21∨k=22∨k=23∨k=24∨k=25∨k=26∨k=27∨k=28∨k=29:=by omega
  rcases this with rfl|rfl|rfl|rfl|rfl|rfl|rfl|rfl|rfl
  ·rw[show Bj 21=(1,true,true) by simp[Bj]]at hH;obtain⟨a,rfl⟩:=Axo (hH.hl (by simp));obtain rfl:=hH.num0 (by simp) (by simp);have k0:=kid 0 a rfl;simp[K5]at k0;exact .set s a (hH.hn rfl) (Aeu a (fm 0 a rfl) k0)
  ·rw[show Bj 22=(2,true,true) by simp[Bj]]at hH;obtain⟨a,b,rfl⟩:=Aqd (hH.hl (by simp));obtain rfl:=hH.num0 (by simp) (by simp);have k0:=kid 0 a rfl;have k1:=kid 1 b rfl;simp[K5]at k0 k1;exact .put s a b (hH.hn rfl) (Aeu a (fm 0 a rfl) k0) (Aeu b (fm 1 b rfl) k1)
  ·rw[show Bj 23=(0,true,true) by simp[Bj]]at hH;obtain rfl:=Ajp (hH.hl (by simp));obtain rfl:=hH.num0 (by simp) (by simp);exact .read s (hH.hn rfl)
  ·rw[show Bj 24=(3,false,true) by simp[Bj]]at hH;obtain⟨c,a,b,rfl⟩:=A31 (hH.hl (by simp));obtain rfl:=hH.num0 (by simp) (by simp);obtain rfl:=hH.no;have k0:=kid 0 c rfl;have k1:=kid 1 a rfl;have k2:=kid 2 b rfl;simp[K5]at k0 k1 k2;obtain⟨l,rfl,hl⟩:=ihs 1 a rfl k1;obtain⟨l',rfl,hl'⟩:=ihs 2 b rfl k2;exact .ifs c l l' (Arz c (fm 0 c rfl) k0) hl hl'
  ·rw[show Bj 25=(2,false,true) by simp[Bj]]at hH;obtain⟨c,a,rfl⟩:=Aqd (hH.hl (by simp));obtain rfl:=hH.num0 (by simp) (by simp);obtain rfl:=hH.no;have k0:=kid 0 c rfl;have k1:=kid 1 a rfl;simp[K5]at k0 k1;obtain⟨l,rfl,hl⟩:=ihs 1 a rfl k1;exact .whil c l (Arz c (fm 0 c rfl) k0) hl
  ·rw[show Bj 26=(3,true,true) by simp[Bj]]at hH;obtain⟨a,b,d,rfl⟩:=A31 (hH.hl (by simp));obtain rfl:=hH.num0 (by simp) (by simp);have k0:=kid 0 a rfl;have k1:=kid 1 b rfl;have k2:=kid 2 d rfl;simp[K5]at k0 k1 k2;obtain⟨l,rfl,hl⟩:=ihs 2 d rfl k2;exact .for_ s a b l (hH.hn rfl) (Aeu a (fm 0 a rfl) k0) (Aeu b (fm 1 b rfl) k1) hl
  ·rw[show Bj 27=(1,false,true) by simp[Bj]]at hH;obtain⟨c,rfl⟩:=Axo (hH.hl (by simp));obtain rfl:=hH.num0 (by simp) (by simp);obtain rfl:=hH.no;have k0:=kid 0 c rfl;simp[K5]at k0;exact .check c (Arz c (fm 0 c rfl) k0)
  ·rw[show Bj 28=(0,false,true) by simp[Bj]]at hH;obtain rfl:=Ajp (hH.hl (by simp));obtain rfl:=hH.num0 (by simp) (by simp);obtain rfl:=hH.no;exact .skip
  ·rw[show Bj 29=(0,false,true) by simp[Bj]]at hH;obtain rfl:=Ajp (hH.hl (by simp));obtain rfl:=hH.num0 (by simp) (by simp);obtain rfl:=hH.no;exact .stop
 ·subst hk;rw[show Bj 30=(-1,false,true) by simp[Bj]]at hH;obtain rfl:=hH.num0 (by simp) (by simp);obtain rfl:=hH.no;refine⟨ks,rfl,fun x hx=>?_⟩;obtain⟨j,hj⟩:=Bs hx;have k0:=kid j x hj;simp[K5]at k0;exact(ih x hx (fm j x hj)).1 k0
theorem A3j(n:Nd)(hf:Co n=true)(hk:n.kind=31∨n.kind=32):FV n:=by
 obtain⟨k,s,m,ks⟩:=n;rw[K4,Dd]at hf;simp only[M6,Vw,Aai,Gh]at hf hk;obtain⟨h1,h2⟩:=hf;obtain⟨_,hH⟩:=Afg h1;rcases hk with rfl|rfl
 ·rw[show Bj 31=(0,true,true) by simp[Bj]]at hH;obtain rfl:=Ajp (hH.hl (by simp));obtain rfl:=hH.num0 (by simp) (by simp);exact .var s (hH.hn rfl)
 ·rw[show Bj 32=(0,true,true) by simp[Bj]]at hH;obtain rfl:=Ajp (hH.hl (by simp));have:=hH.hm;simp[Fh,Cn]at this;exact .arr s m (hH.hn rfl) this.1 this.2
theorem Azv(n:Nd)(hf:Co n=true)(hk:n.kind=40):FP n:=by
 obtain⟨k,s,m,ks⟩:=n;rw[K4,Dd]at hf;simp only[M6,Vw,Aai,Gh]at hf hk;subst hk;obtain⟨h1,h2⟩:=hf;have hall:=Le h2;obtain⟨_,hH⟩:=Afg h1;rw[show Bj 40=(-1,false,true) by simp[Bj]]at hH;obtain rfl:=hH.num0 (by simp) (by simp);obtain rfl:=hH.no;have hne:=hH.hk rfl;have kid:∀(j:Nat) (x:Nd),ks[j]?=some x→K5 (.mk 40 [] 0 ks) j x.kind=true:=fun j x hx=>by have:=(hall j x hx).1;rwa[Jy]at this
 have fm:∀(j:Nat) (x:Nd),ks[j]?=some x→Co x=true:=fun j x hx=>(hall j x hx).2;have hpos:0<ks.length:=zzq65.2 hne;obtain⟨b,hb⟩:=Ab ks (i:=ks.length-1) (by omega);have hsplit:ks=ks.take (ks.length-1)++[b]:=by
  conv=>lhs;rw[←Aee (ks.length-1) ks]
  congr 1;rw[Akw (by omega),Aef (by omega)];have:=Wv (l:=ks) (i:=ks.length-1) (by omega);rw[hb]at this;rw[←Option.some.inj this]
 have kb:=kid _ b hb;rw[Ahu rfl,if_pos (by rw[Gh];omega)]at kb;obtain⟨l,rfl,hl⟩:=(A3i b (fm _ b hb)).2 (by simpa using kb);rw[hsplit];refine .mk _ l (fun x hx=>?_) hl;obtain⟨j,hj⟩:=Bs hx;have hjl:=Aa hj;rw[Vd]at hjl;have hj':ks[j]?=some x:=by rw[Mb,if_pos (by omega)]at hj;exact hj
 have kx:=kid j x hj';rw[Ahu rfl,if_neg (by rw[Gh];omega)]at kx;exact A3j x (fm j x hj') (by simpa using kx)
def L8(k:Int):Int:=if k=6∨k=7 then 1 else if k=8 then 2 else 3
def Me(l:Int)(k:Int)(t:List UInt8):List UInt8:=if L8 k<l then[40]++t++[41]else t
def Ux(k:Int):List UInt8:=if k=11 then[60]else if k=12 then[60,61]else if k=13 then[62]else if k=14 then[62,61]else if k=15 then[61,61]else[33,61]
def Bt:Nd→List UInt8
 |.mk k s m []=>if k=1 then Md m.toNat else if k=4 then[108,101,110,40]++s++[41]else s
 |.mk k s _ [a]=>if k=3 then s++[91]++Bt a++[93]else[45]++Me 3 a.kind (Bt a)
 |.mk k _ _ (a::b::_)=>
  if k=6 then Me 1 a.kind (Bt a)++[32,43,32]++Me 2 b.kind (Bt b)
  else if k=7 then Me 1 a.kind (Bt a)++[32,45,32]++Me 2 b.kind (Bt b)
  else if k=8 then Me 2 a.kind (Bt a)++[32,42,32]++Me 3 b.kind (Bt b)
  else Bt a++[32]++Ux k++[32]++Bt b
theorem Ko(l k:Int)(t:List UInt8):(Me l k t).length≤t.length+2:=by
 unfold Me;split<;>simp
theorem Adx(k:Int):(Ux k).length≤2:=by
 unfold Ux;repeat' split
 all_goals simp
theorem A09(d n:Nat)(h:n<10^(d+1)):(Md n).length≤d+1:=by
 induction d generalizing n with
 |zero=>unfold Md;rw[if_pos (by simpa using h)];simp
 |succ d ih=>
  unfold Md;split
  ·simp
  ·have:=ih (n/10) (by rw[Nat.pow_succ]at h;omega);simp;omega
theorem Vm(n:Nat)(h:n≤1000000):(Md n).length≤7:=A09 6 n (by omega)
theorem Ft(n:Nd)(h:FE n):(Bt n).length≤12*wN n:=by
 induction h with
 |num m h0 h1=>
  have:=Vm m.toNat (by omega)
  simp only[Bt,wN,if_true];omega
 |var s h=>simp[Bt,wN];omega
 |cell s a h ha ih=>simp[Bt,wN,wL];omega
 |len s h=>simp[Bt,wN];omega
 |neg a ha ih=>have:=Ko 3 a.kind (Bt a);simp[Bt,wN,wL];omega
 |two k a b hk ha hb iha ihb=>
  have h1:=Ko 1 a.kind (Bt a);have h2:=Ko 2 a.kind (Bt a);have h3:=Ko 2 b.kind (Bt b);have h4:=Ko 3 b.kind (Bt b);rcases hk with rfl|rfl|rfl
  ·simp[Bt,wN,wL];omega
  ·simp[Bt,wN,wL];omega
  ·simp[Bt,wN,wL];omega
theorem Oh(n:Nd)(h:FC n):(Bt n).length≤12*wN n:=by
 cases h with
 |mk k a b h0 h1 ha hb=>
  have:=Ft a ha;have:=Ft b hb;have:=Adx k;simp only[Bt];rw[if_neg (by omega),if_neg (by omega),if_neg (by omega)];simp[wN,wL];omega
theorem Wj(a:Nd)(l:List Nd):(Ap (a::l))[(0:Int).toNat]?=some (Af a):=by cases a;rfl
theorem Aeo(a b:Nd)(l:List Nd):(Ap (a::b::l))[(1:Int).toNat]?=some (Af b):=by cases b;rfl
theorem Ay6(a b c:Nd)(l:List Nd):(Ap (a::b::c::l))[(2:Int).toNat]?=some (Af c):=by cases c;rfl
theorem Aya(k:Int):Pure X 310 [vi k] (vi (L8 k)):=by
 refine Pure.run func310 ?_
 repeat' (refine Ah (fun _=>?_) (fun _=>?_))
 all_goals refine Az func310 ?_
 all_goals (simp_all [L8,C8])
theorem Sm(n:Nd)(l:Int)(t:List UInt8)(ht:t.length≤100000000000)(h:Pure X 261 [nd n] (str t)):Pure X 281 [nd n,vi l] (str (Me l n.kind t)):=by
 refine Pure.run func281 ?_;refine Al (Aya n.kind) ?_;refine Ah (fun h1=>?_) (fun h1=>?_)
 ·have h1':=A5 h1;refine Al h ?_;refine Fl ?_ ?_
  ·simp;omega
  refine Fl ?_ ?_
  ·simp;omega
  refine Az func281 ?_;simp[Me,h1',C8]
 ·have h1':=Ba h1;refine Al h ?_;refine Az func281 ?_;simp[Me,h1',C8]
theorem Sn(n:Nd)(h:FE n)(hn:wN n≤1000000000):Pure X 261 [nd n] (str (Bt n)):=by
 induction h with
 |num m h0 h1=>
  obtain⟨q,rfl⟩:∃q:Nat,m=q:=⟨m.toNat,by omega⟩
  refine Pure.run func261 ?_;refine A0 ?_;refine Al (Aj0 q (by omega)) ?_;refine Az func261 ?_;simp[Bt,C8]
 |var s h=>
  refine Pure.run func261 ?_;refine Ag ?_;refine A0 ?_;refine Az func261 ?_;simp[Bt,C8]
 |cell s a h ha ih=>
  have hl:=Ft a ha;simp[wN,wL]at hn;refine Pure.run func261 ?_;refine Ag ?_;refine Ag ?_;refine A0 ?_;refine D8 0 ?_;refine Dx ?_ ?_
  ·simp;omega
  refine Db 0 (by omega) (Wj a _) ?_;refine Ce (ih (by omega)) ?_;refine Dx ?_ ?_
  ·simp;omega
  refine Dx ?_ ?_
  ·simp;omega
  refine B2 ?_;refine Az func261 ?_;simp[Bt,C8]
 |len s h=>
  simp[wN,wL]at hn;refine Pure.run func261 ?_;refine Ag ?_;refine Ag ?_;refine Ag ?_;refine A0 ?_;refine Fl ?_ ?_
  ·simp;omega
  refine Fl ?_ ?_
  ·simp;omega
  refine Az func261 ?_;simp[Bt,C8]
 |neg a ha ih=>
  have hl:=Ft a ha;have hp:=Ko 3 a.kind (Bt a);simp[wN,wL]at hn;refine Pure.run func261 ?_;refine Ag ?_;refine Ag ?_;refine Ag ?_;refine Ag ?_;refine A0 ?_;refine B4 0 (by omega) (Wj a _) ?_;refine Al (Sm a 3 (Bt a) (by omega) (ih (by omega))) ?_;refine Fl ?_ ?_
  ·simp;omega
  refine Az func261 ?_;simp[Bt,C8]
 |two k a b hk ha hb iha ihb=>
  have hla:=Ft a ha;have hlb:=Ft b hb;have h1:=Ko 1 a.kind (Bt a);have h2:=Ko 2 a.kind (Bt a);have h3:=Ko 2 b.kind (Bt b);have h4:=Ko 3 b.kind (Bt b);simp[wN,wL]at hn;refine Pure.run func261 ?_;rcases hk with rfl|rfl|rfl
  ·refine Ag ?_;refine Ag ?_;refine Ag ?_;refine Ag ?_;refine Ag ?_;refine A0 ?_;refine D8 0 ?_;refine Db 0 (by omega) (Wj a _) ?_;refine Ce (Sm a 1 (Bt a) (by omega) (iha (by omega))) ?_;refine Dx ?_ ?_
   ·simp;omega
   refine Db 1 (by omega) (Aeo a b _) ?_;refine Ce (Sm b 2 (Bt b) (by omega) (ihb (by omega))) ?_;refine Dx ?_ ?_
   ·simp;omega
   refine B2 ?_;refine Az func261 ?_;simp[Bt,C8]
  ·refine Ag ?_;refine Ag ?_;refine Ag ?_;refine Ag ?_;refine Ag ?_;refine Ag ?_;refine A0 ?_;refine D8 0 ?_;refine Db 0 (by omega) (Wj a _) ?_;refine Ce (Sm a 1 (Bt a) (by omega) (iha (by omega))) ?_;refine Dx ?_ ?_
   ·simp;omega
   refine Db 1 (by omega) (Aeo a b _) ?_;refine Ce (Sm b 2 (Bt b) (by omega) (ihb (by omega))) ?_;refine Dx ?_ ?_
   ·simp;omega
   refine B2 ?_;refine Az func261 ?_;simp[Bt,C8]
  ·refine Ag ?_;refine Ag ?_;refine Ag ?_;refine Ag ?_;refine Ag ?_;refine Ag ?_;refine Ag ?_;refine A0 ?_;refine D8 0 ?_;refine Db 0 (by omega) (Wj a _) ?_;refine Ce (Sm a 2 (Bt a) (by omega) (iha (by omega))) ?_;refine Dx ?_ ?_
   ·simp;omega
   refine Db 1 (by omega) (Aeo a b _) ?_;refine Ce (Sm b 3 (Bt b) (by omega) (ihb (by omega))) ?_;refine Dx ?_ ?_
   ·simp;omega
   refine B2 ?_;refine Az func261 ?_;simp[Bt,C8]
theorem Ah6(n:Nd)(h:FC n)(hn:wN n≤1000000000):Pure X 261 [nd n] (str (Bt n)):=by
 cases h with
 |mk k a b h0 h1 ha hb=>
  have hla:=Ft a ha;have hlb:=Ft b hb;have hr:=Adx k;simp[wN,wL]at hn;refine Pure.run func261 ?_;have ne:∀j:Int,j<11→(k==j)=false:=fun j hj=>by simp;omega
  refine Ag ?_ (ht:=ne 1 (by omega));refine Ag ?_ (ht:=ne 2 (by omega));refine Ag ?_ (ht:=ne 3 (by omega));refine Ag ?_ (ht:=ne 4 (by omega));refine Ag ?_ (ht:=ne 5 (by omega));refine Ag ?_ (ht:=ne 6 (by omega));refine Ag ?_ (ht:=ne 7 (by omega));refine Ag ?_ (ht:=ne 8 (by omega));have hw:IntKind.i64.wrap (k-11)=k-11:=Ac (by omega) (by omega);have hrel:(Dl [[60],[60,61],[62],[62,61],[61,61],[33,61]])[(IntKind.i64.wrap (k-11)).toNat]?=some [str (Ux k)]:=by
   rw[hw];have:k=11∨k=12∨k=13∨k=14∨k=15∨k=16:=by omega
   rcases this with rfl|rfl|rfl|rfl|rfl|rfl<;>rfl
  have hT:Bt (.mk k [] 0 [a,b])=Bt a++[32]++Ux k++[32]++Bt b:=by
   simp only[Bt];rw[if_neg (by omega),if_neg (by omega),if_neg (by omega)]
  rw[hT];refine D8 0 ?_;refine Db 0 (by omega) (Wj a _) ?_;refine Ce (Sn a ha (by omega)) ?_;refine Dx ?_ ?_
  ·simp;omega
  refine Db (IntKind.i64.wrap (k-11)) (by omega) hrel ?_;refine Dx ?_ ?_
  ·simp;omega
  refine Dx ?_ ?_
  ·simp;omega
  refine Db 1 (by omega) (Aeo a b _) ?_;refine Ce (Sn b hb (by omega)) ?_;refine Dx ?_ ?_
  ·simp;omega
  refine B2 ?_;refine Az func261 ?_;simp[C8]
mutual
def Cp:Nd→List UInt8→List UInt8
 |.mk k s m [],p=>
  if k=31 then p++[118,97,114,32]++s++[59,10]
  else if k=32 then p++[97,114,114,97,121,32]++s++[91]++(if 0≤m then Md m.toNat else[63])++[93,59,10]
  else if k=23 then p++[114,101,97,100,32]++s++[59,10]
  else if k=28 then p++[115,107,105,112,59,10]
  else p++[115,116,111,112,59,10]
 |.mk k s _ [a],p=>
  if k=21 then p++s++[32,61,32]++Bt a++[59,10]
  else p++[99,104,101,99,107,32]++Bt a++[59,10]
 |.mk k s _ [a,.mk k' s' m' l],p=>
  if k=22 then p++s++[91]++Bt a++[93,32,61,32]++Bt (.mk k' s' m' l)++[59,10]
  else p++[119,104,105,108,101,32]++Bt a++[32,123,10]++Ij l (p++[32,32])++p++[125,10]
 |.mk k s _ (a::.mk k' s' m' l'::.mk _ _ _ l::_),p=>
  if k=26 then p++[102,111,114,32]++s++[32,102,114,111,109,32]++Bt a++[32,116,111,32]++Bt (.mk k' s' m' l')++[32,123,10]++Ij l (p++[32,32])++p++[125,10]
  else p++[105,102,32]++Bt a++[32,123,10]++Ij l' (p++[32,32])++p ++
   (match l with
     |[]=>[]
     |_=>[125,32,101,108,115,101,32,123,10]++Ij l (p++[32,32])++p)++[125,10]
def Ij:List Nd→List UInt8→List UInt8
 |[],_=>[]
 |x::l,p=>Cp x p++Ij l p
end
theorem Gv{l:List Nd}{x:Nd}(h:x∈l):Dh x≤Gu l:=by
 induction l with
 |nil=>cases h
 |cons y l ih=>
  simp only[Gu];rcases zzq13.1 h with rfl|h
  ·omega
  ·have:=ih h;omega
theorem Sf(l:List Nd)(p:List UInt8):Ij l p=(l.map fun x=>Cp x p).flatten:=by
 induction l with
 |nil=>simp[Ij]
 |cons x l ih=>simp[Ij,ih]
theorem Ac6{l:List Nd}{f:Nd→List UInt8}(h:∀x,x∈l→(f x).length≤4060*wN x):(l.map f).flatten.length≤4060*wL l:=by
 induction l with
 |nil=>simp
 |cons x l ih=>
  have h1:=h x (by simp);have h2:=ih fun y hy=>h y (by simp[hy]);simp only[N0,List.flatten_cons,Ex,wL];omega
theorem Qp{l:List Nd}{p:List UInt8}(h:∀x,x∈l→(Cp x p).length≤4060*wN x):(Ij l p).length≤4060*wL l:=by
 rw[Sf];exact Ac6 h
theorem Aqf(x:Nd)(h:FV x)(p:List UInt8)(hp:p.length≤1000):(Cp x p).length≤4060*wN x:=by
 cases h with
 |var s h=>simp[Cp,wN];omega
 |arr s m h h0 h1=>
  have:=Vm m.toNat (by omega)
  simp[Cp,wN];by_cases h0:0≤m
  ·simp[h0];omega
  ·simp[h0];omega
theorem Afo(x:Nd)(h:FS x):∀p:List UInt8,p.length+2*Dh x≤1000→(Cp x p).length≤4060*wN x:=by
 induction h with
 |set s a h ha=>intro p hp;have:=Ft a ha;simp[Cp,wN,wL];omega
 |put s a b h ha hb=>
  intro p hp;have h1:=Ft a ha;have h2:=Ft b hb;obtain⟨k',s',m',l'⟩:=b;simp only[Cp,wN,wL]at h2⊢;simp;omega
 |read s h=>intro p hp;simp[Cp,wN];omega
 |ifs c l l' hc hl hl' ihl ihl'=>
  intro p hp;have h1:=Oh c hc;simp only[Dh,Gu]at hp;have hL:=Qp (l:=l) (p:=p++[32,32]) fun x hx=>ihl x hx _ (by have:=Gv hx;simp;omega);have hL':=Qp (l:=l') (p:=p++[32,32]) fun x hx=>ihl' x hx _ (by have:=Gv hx;simp;omega);simp only[Cp,wN,wL];cases l' with
  |nil=>simp;omega
  |cons y l'=>simp at hL'⊢;omega
 |whil c l hc hl ihl=>
  intro p hp;have h1:=Oh c hc;simp only[Dh,Gu]at hp;have hL:=Qp (l:=l) (p:=p++[32,32]) fun x hx=>ihl x hx _ (by have:=Gv hx;simp;omega);simp[Cp,wN,wL];omega
 |for_ s a b l h ha hb hl ihl=>
  intro p hp;have h1:=Ft a ha;have h2:=Ft b hb;simp only[Dh,Gu]at hp;have hL:=Qp (l:=l) (p:=p++[32,32]) fun x hx=>ihl x hx _ (by have:=Gv hx;simp;omega);obtain⟨k',s',m',l'⟩:=b;simp only[Cp,wN,wL]at h2⊢;simp;omega
 |check c hc=>intro p hp;have:=Oh c hc;simp[Cp,wN,wL];omega
 |skip=>intro p hp;simp[Cp,wN];omega
 |stop=>intro p hp;simp[Cp,wN];omega
theorem Aop(k:Int)(hk:k=30∨k=40)(ks:List Nd)(f:Nd→List UInt8)(p:List UInt8)(hp:p.length≤1000)(hw:wL ks≤100000)
 (hf:∀x,x∈ks→Pure X 217 [nd x,str p] (str (f x))∧(f x).length≤4060*wN x):Pure X 217 [nd (.mk k [] 0 ks),str p] (str (ks.map f).flatten):=by
 generalize hT:(ks.map f).flatten=T;have ne:∀j:Int,j≠30→j≠40→(k==j)=false:=fun j h1 h2=>by simp;omega
 have hkl:ks.length≤100000:=by
  have h1:=G7 (.mk k [] 0 ks);rw[Ws]at h1;simp at h1;omega
 refine Pure.run func217 ?_;refine Fl ?_ ?_
 ·simp;omega
 refine Ag ?_ (ht:=ne 31 (by omega) (by omega));refine Ag ?_ (ht:=ne 32 (by omega) (by omega));refine Ag ?_ (ht:=ne 21 (by omega) (by omega));refine Ag ?_ (ht:=ne 22 (by omega) (by omega));refine Ag ?_ (ht:=ne 23 (by omega) (by omega));refine Ag ?_ (ht:=ne 27 (by omega) (by omega));refine Ag ?_ (ht:=ne 28 (by omega) (by omega));refine Ag ?_ (ht:=ne 29 (by omega) (by omega));refine Ag ?_ (ht:=ne 25 (by omega) (by omega));refine Ag ?_ (ht:=ne 26 (by omega) (by omega));refine Ag ?_ (ht:=ne 24 (by omega) (by omega));refine Ar (ι:=Nat) 1 0 (fun i=>i≤ks.length) (fun i=>[(9,vi i),(8,str ((ks.take i).map f).flatten),(2,.ptr 0 0 0),(1,str p)]) (fun _=>⟨[[Af (.mk k [] 0 ks)]],[]⟩) (fun i=>ks.length-i) ?_ 0 (B3 _)
  ⟨rfl,rfl,rfl,rfl,trivial⟩
 intro i hi IH;refine C7 (fun h=>?_) (fun h=>?_)
 ·have hlt:i<ks.length:=by have:=A5 h;rw[Ad]at this;simp at this;omega
  obtain⟨x,hx⟩:=Ab ks hlt;obtain⟨h1,h2⟩:=hf x (Bh hx);have hwx:=P5 (Bh hx);have h3:=Ac6 (l:=ks.take i) (f:=f) fun y hy=>(hf y (Agn hy)).2;have h4:wL (ks.take i)≤wL ks:=by
   have:∀(l:List Nd) (j:Nat),wL (l.take j)≤wL l:=by
    intro l
    induction l with
    |nil=>intro j;simp[wL]
    |cons y l ih=>intro j;cases j with
     |zero=>simp[wL]
     |succ j=>have:=ih j;simp only[List.take_succ_cons,wL];omega
   exact this ks i
  refine B4 i (by omega) (Am hx) ?_;refine Al h1 ?_;refine Fl ?_ ?_
  ·omega
  refine IH (i+1) hlt (by omega) _ _ ⟨vsx (by omega),?_,rfl,rfl,trivial⟩ rfl rfl rfl;rw[G8,hx];simp;rfl
 ·have:i=ks.length:=by have:=Ba h;rw[Ad]at this;simp at this;omega
  subst this;refine Az func217 ?_;rw[I2,hT];rfl
theorem Qq(x:Nd)(l:List Nd)(p:List UInt8)(h:∀x,x∈l→FS x)(hp:p.length+2*Gu l≤1000):(Ij l p).length≤4060*wL l:=
 Qp fun x hx=>Afo x (h x hx) p (by have:=Gv hx;omega)
theorem Ys(l:List Nd)(p:List UInt8)(hl:∀x,x∈l→FS x)(hp:p.length+2*Gu l≤1000)(hw:wL l≤100000)
 (ih:∀x,x∈l→∀p:List UInt8,p.length+2*Dh x≤1000→wN x≤100000→Pure X 217 [nd x,str p] (str (Cp x p))) :
 Pure X 217 [nd (.mk 30 [] 0 l),str p] (str (Ij l p)):=by
 rw[Sf];refine Aop 30 (.inl rfl) l _ p (by omega) hw fun x hx=>⟨ih x hx p (by have:=Gv hx;omega) (by have:=P5 hx;omega),Afo x (hl x hx) p (by have:=Gv hx;omega)⟩
theorem Ax3(x:Nd)(h:FV x)(p:List UInt8)(hp:p.length≤1000)(hw:wN x≤100000):Pure X 217 [nd x,str p] (str (Cp x p)):=by
 cases h with
 |var s h=>
  simp[wN,wL]at hw;refine Pure.run func217 ?_;refine Fl ?_ ?_
  ·simp;omega
  refine A0 ?_;refine Fl ?_ ?_
  ·simp;omega
  refine Fl ?_ ?_
  ·simp;omega
  refine Fl ?_ ?_
  ·simp;omega
  refine Az func217 ?_;simp[Cp,C8]
 |arr s m h h0 h1=>
  simp[wN,wL]at hw;have hd:=Vm m.toNat (by omega)
  refine Pure.run func217 ?_;refine Fl ?_ ?_
  ·simp;omega
  refine Ag ?_;refine A0 ?_;refine Ah (fun h2=>?_) (fun h2=>?_)
  ·have h2':0≤m:=A5 h2;obtain⟨q,rfl⟩:∃q:Nat,m=q:=⟨m.toNat,by omega⟩
   refine Al (Aj0 q (by omega)) ?_;simp only[Hl]at hd;refine Fl ?_ ?_
   ·simp;omega
   refine Fl ?_ ?_
   ·simp;omega
   refine Fl ?_ ?_
   ·simp;omega
   refine Fl ?_ ?_
   ·simp;omega
   refine Fl ?_ ?_
   ·simp;omega
   refine Az func217 ?_;simp[Cp,C8,h2']
  ·have h2':¬0≤m:=Ba h2;refine Fl ?_ ?_
   ·simp;omega
   refine Fl ?_ ?_
   ·simp;omega
   refine Fl ?_ ?_
   ·simp;omega
   refine Fl ?_ ?_
   ·simp;omega
   refine Fl ?_ ?_
   ·simp;omega
   refine Az func217 ?_;simp[Cp,C8,h2']
theorem Ax2(x:Nd)(h:FS x):∀p:List UInt8,p.length+2*Dh x≤1000→wN x≤100000→Pure X 217 [nd x,str p] (str (Cp x p)):=by
 induction h with
 |set s a h ha=>
  intro p hp hw;refine Pure.run func217 ?_;refine Fl ?_ ?_
  ·simp;omega
  refine Ag ?_;refine Ag ?_;have hl:=Ft a ha;simp[wN,wL]at hw;refine A0 ?_;refine D8 0 ?_;refine Dx ?_ ?_
  ·simp;omega
  refine Dx ?_ ?_
  ·simp;omega
  refine Db 0 (by omega) (Wj a _) ?_;refine Ce (Sn a ha (by omega)) ?_;refine Dx ?_ ?_
  ·simp;omega
  refine Dx ?_ ?_
  ·simp;omega
  refine B2 ?_;refine Az func217 ?_;simp[Cp,C8]
 |put s a b h ha hb=>
  intro p hp hw;refine Pure.run func217 ?_;refine Fl ?_ ?_
  ·simp;omega
  refine Ag ?_;refine Ag ?_;have hl:=Ft a ha;have hl2:=Ft b hb;simp[wN,wL]at hw;have hT:Cp (.mk 22 s 0 [a,b]) p=p++s++[91]++Bt a++[93,32,61,32]++Bt b++[59,10]:=by cases b;simp[Cp]
  rw[hT];refine Ag ?_;refine A0 ?_;refine D8 0 ?_;refine Dx ?_ ?_
  ·simp;omega
  refine Dx ?_ ?_
  ·simp;omega
  refine Db 0 (by omega) (Wj a _) ?_;refine Ce (Sn a ha (by omega)) ?_;refine Dx ?_ ?_
  ·simp;omega
  refine Dx ?_ ?_
  ·simp;omega
  refine Db 1 (by omega) (Aeo a b _) ?_;refine Ce (Sn b hb (by omega)) ?_;refine Dx ?_ ?_
  ·simp;omega
  refine Dx ?_ ?_
  ·simp;omega
  refine B2 ?_;refine Az func217 ?_;simp[C8]
 |read s h=>
  intro p hp hw;refine Pure.run func217 ?_;refine Fl ?_ ?_
  ·simp;omega
  refine Ag ?_;refine Ag ?_;simp[wN,wL]at hw;refine Ag ?_;refine Ag ?_;refine A0 ?_;refine Fl ?_ ?_
  ·simp;omega
  refine Fl ?_ ?_
  ·simp;omega
  refine Fl ?_ ?_
  ·simp;omega
  refine Az func217 ?_;simp[Cp,C8]
 |check c hc=>
  intro p hp hw;refine Pure.run func217 ?_;refine Fl ?_ ?_
  ·simp;omega
  refine Ag ?_;refine Ag ?_;have hl:=Oh c hc;simp[wN,wL]at hw;refine Ag ?_;refine Ag ?_;refine Ag ?_;refine A0 ?_;refine Fl ?_ ?_
  ·simp;omega
  refine B4 0 (by omega) (Wj c _) ?_;refine Al (Ah6 c hc (by omega)) ?_;refine Fl ?_ ?_
  ·simp;omega
  refine Fl ?_ ?_
  ·simp;omega
  refine Az func217 ?_;simp[Cp,C8]
 |skip=>
  intro p hp hw;refine Pure.run func217 ?_;refine Fl ?_ ?_
  ·simp;omega
  refine Ag ?_;refine Ag ?_;refine Ag ?_;refine Ag ?_;refine Ag ?_;refine Ag ?_;refine A0 ?_;refine Fl ?_ ?_
  ·simp;omega
  refine Az func217 ?_;simp[Cp,C8]
 |stop=>
  intro p hp hw;refine Pure.run func217 ?_;refine Fl ?_ ?_
  ·simp;omega
  refine Ag ?_;refine Ag ?_;refine Ag ?_;refine Ag ?_;refine Ag ?_;refine Ag ?_;refine Ag ?_;refine A0 ?_;refine Fl ?_ ?_
  ·simp;omega
  refine Az func217 ?_;simp[Cp,C8]
 |whil c l hc hl ihl=>
  intro p hp hw;refine Pure.run func217 ?_;refine Fl ?_ ?_
  ·simp;omega
  refine Ag ?_;refine Ag ?_;have h1:=Oh c hc;simp only[Dh,Gu]at hp;simp[wN,wL]at hw;have hlen:=Qq c l (p++[32,32]) hl (by simp;omega);have hB:=Ys l (p++[32,32]) hl (by simp;omega) (by omega) ihl;refine Ag ?_;refine Ag ?_;refine Ag ?_;refine Ag ?_;refine Ag ?_;refine Ag ?_;refine A0 ?_;refine D8 0 ?_;refine Dx ?_ ?_
  ·simp;omega
  refine Db 0 (by omega) (Wj c _) ?_;refine Ce (Ah6 c hc (by omega)) ?_;refine Dx ?_ ?_
  ·simp;omega
  refine Dx ?_ ?_
  ·simp;omega
  refine Db 1 (by omega) (Aeo c _ _) ?_;refine Ce hB ?_;refine Dx ?_ ?_
  ·simp;omega
  refine Dx ?_ ?_
  ·simp;omega
  refine Dx ?_ ?_
  ·simp;omega
  refine B2 ?_;refine Az func217 ?_;simp[Cp,C8]
 |for_ s a b l h ha hb hl ihl=>
  intro p hp hw;refine Pure.run func217 ?_;refine Fl ?_ ?_
  ·simp;omega
  refine Ag ?_;refine Ag ?_;have h1:=Ft a ha;have h2:=Ft b hb;simp only[Dh,Gu]at hp;simp[wN,wL]at hw;have hlen:=Qq a l (p++[32,32]) hl (by simp;omega);have hB:=Ys l (p++[32,32]) hl (by simp;omega) (by omega) ihl;have hT:Cp (.mk 26 s 0 [a,b,.mk 30 [] 0 l]) p=p++[102,111,114,32]++s++[32,102,114,111,109,32]++Bt a++[32,116,111,32]++Bt b++[32,123,10]++Ij l (p++[32,32])++p++[125,10]:=by
   cases b;simp[Cp]
  rw[hT];refine Ag ?_;refine Ag ?_;refine Ag ?_;refine Ag ?_;refine Ag ?_;refine Ag ?_;refine Ag ?_;refine A0 ?_;refine D8 0 ?_;refine Dx ?_ ?_
  ·simp;omega
  refine Dx ?_ ?_
  ·simp;omega
  refine Dx ?_ ?_
  ·simp;omega
  refine Db 0 (by omega) (Wj a _) ?_;refine Ce (Sn a ha (by omega)) ?_;refine Dx ?_ ?_
  ·simp;omega
  refine Dx ?_ ?_
  ·simp;omega
  refine Db 1 (by omega) (Aeo a b _) ?_;refine Ce (Sn b hb (by omega)) ?_;refine Dx ?_ ?_
  ·simp;omega
  refine Dx ?_ ?_
  ·simp;omega
  refine Db 2 (by omega) (Ay6 a b _ _) ?_;refine Ce hB ?_;refine Dx ?_ ?_
  ·simp;omega
  refine Dx ?_ ?_
  ·simp;omega
  refine Dx ?_ ?_
  ·simp;omega
  refine B2 ?_;refine Az func217 ?_;simp[C8]
 |ifs c l l' hc hl hl' ihl ihl'=>
  intro p hp hw;refine Pure.run func217 ?_;refine Fl ?_ ?_
  ·simp;omega
  refine Ag ?_;refine Ag ?_;have h1:=Oh c hc;simp only[Dh,Gu]at hp;simp[wN,wL]at hw;have hlen:=Qq c l (p++[32,32]) hl (by simp;omega);have hB:=Ys l (p++[32,32]) hl (by simp;omega) (by omega) ihl;have hlen':=Qq c l' (p++[32,32]) hl' (by simp;omega);have hB':=Ys l' (p++[32,32]) hl' (by simp;omega) (by omega) ihl';refine Ag ?_;refine Ag ?_;refine Ag ?_;refine Ag ?_;refine Ag ?_;refine Ag ?_;refine Ag ?_;refine Ag ?_;refine A0 ?_;refine D8 0 ?_;refine Dx ?_ ?_
  ·simp;omega
  refine Db 0 (by omega) (Wj c _) ?_;refine Ce (Ah6 c hc (by omega)) ?_;refine Dx ?_ ?_
  ·simp;omega
  refine Dx ?_ ?_
  ·simp;omega
  refine Db 1 (by omega) (Aeo c _ _) ?_;refine Ce hB ?_;refine Dx ?_ ?_
  ·simp;omega
  refine Dx ?_ ?_
  ·simp;omega
  refine B2 ?_;refine B4 2 (by omega) (Ay6 c _ _ _) ?_;cases l' with
  |nil=>
   refine Ag ?_;refine Fl ?_ ?_
   ·simp;omega
   refine Az func217 ?_;simp[Cp,C8]
  |cons y l'=>
   refine A0 ?_ (ht:=Zd (by simp[Ap]));refine Fl ?_ ?_
   ·simp;omega
   refine B4 2 (by omega) (Ay6 c _ _ _) ?_;refine Al hB' ?_;refine Fl ?_ ?_
   ·simp;omega
   refine Fl ?_ ?_
   ·simp;omega
   refine Fl ?_ ?_
   ·simp;omega
   refine Az func217 ?_;simp[Cp,C8]
def RS.wk(r:RS):Prop:=∀w:Wd,w∈r.ws→w.kind=Di w.text
theorem RS.after.wk{r r':RS}(h:r.after r')(hw:r.wk):r'.wk:=by unfold RS.wk;rw[h.1];exact hw
theorem Al4{s:List UInt8}(h:Di s=1):nameS s=true:=by
 simp only[Di]at h;split at h
 ·simp at h
 ·split at h
  ·assumption
  ·split at h
   ·simp at h
   ·split at h<;>simp at h
theorem Z6{s:List UInt8}(h:Di s=2):0≤Dp s:=by
 simp only[Di]at h;split at h
 ·simp at h
 ·split at h
  ·simp at h
  ·split at h
   ·assumption
   ·split at h<;>simp at h
theorem Ajy:∀(l:List UInt8)(n:Int),Qt n l≤1000000
 |[],n=>by simp only[Qt];split<;>omega
 |c::l,n=>by
  simp only[Qt];split
  ·exact Ajy l _
  ·omega
theorem Adm(s:List UInt8):Dp s≤1000000:=by
 unfold Dp;split
 ·omega
 ·split
  ·omega
  ·split
   ·omega
   ·exact Ajy _ _
theorem Oj{r:RS}(hw:r.wk)(h:r.kind≠0):r.kind=Di r.text:=by
 have hlt:=Se h;obtain⟨w,hwd⟩:=Ab r.ws hlt;have:=hw w (Bh hwd);simp only[RS.kind,RS.text,hwd];exact this
theorem Ame{r:RS}(hw:r.wk)(h:r.named=true):nameS r.text=true:=by
 simp only[RS.named,Ml,Pe,Ago,zzq54]at h;have:=Oj hw (by rw[h.2];simp);exact Al4 (by rw[←this];exact h.2)
theorem J8{r:RS}(hw:r.wk)(h:r.nameR.bad=false):r.named=true∧nameS r.name=true∧r.nameR=r.step∧r.bad=false:=by
 by_cases hn:r.named=true
 ·have hb:r.bad=false:=by simp only[RS.named,Ml,Pe]at hn;exact hn.1
  refine⟨hn,?_,by simp[RS.nameR,hn],hb⟩;simp only[RS.name,hn,if_true];exact Ame hw hn
 ·simp only[RS.nameR,hn,RS.spoil]at h;simp at h
theorem F4{r:RS}{s:List UInt8}(h:(r.need s).bad=false):r.takes s=true∧r.need s=r.step∧r.bad=false:=by
 by_cases hn:r.takes s=true
 ·refine⟨hn,by simp[RS.need,hn],?_⟩;simp only[RS.takes,Ml,Pe]at hn;exact hn.1
 ·simp only[RS.need,hn,RS.spoil]at h;simp at h
theorem Aaq{r:RS}{s:List UInt8}(h:r.takes s=true):r.bad=false:=by
 simp only[RS.takes,Ml,Pe]at h;exact h.1
theorem Je{b c:Bool}(h:b=true→c=true)(hc:c=false):b=false:=by
 cases b
 ·rfl
 ·rw[h rfl]at hc;cases hc
theorem Alx:∀(f:Nat),(∀r:RS,r.ok→r.wk→4*r.left+1≤f→(Fi f r).2.bad=false→FE (Fi f r).1∧r.at_+Ai (Fi f r).1≤(Fi f r).2.at_) ∧
 (∀r:RS,r.ok→r.wk→4*r.left+2≤f→(Ek f r).2.bad=false→FE (Ek f r).1∧r.at_+Ai (Ek f r).1≤(Ek f r).2.at_) ∧
 (∀(x:Nd)(a:Nat)(r:RS),r.ok→r.wk→FE x→a+Ai x≤r.at_→4*r.left+1≤f→(Hy f x r).2.bad=false→FE (Hy f x r).1∧a+Ai (Hy f x r).1≤(Hy f x r).2.at_) ∧
 (∀r:RS,r.ok→r.wk→4*r.left+3≤f→(Ez f r).2.bad=false→FE (Ez f r).1∧r.at_+Ai (Ez f r).1≤(Ez f r).2.at_) ∧
 (∀(x:Nd)(a:Nat)(r:RS),r.ok→r.wk→FE x→a+Ai x≤r.at_→4*r.left+2≤f→(G6 f x r).2.bad=false→FE (G6 f x r).1∧a+Ai (G6 f x r).1≤(G6 f x r).2.at_):=by
 intro f
 induction f with
 |zero=>exact⟨fun r _ _ h=>by omega,fun r _ _ h=>by omega,fun x a r _ _ _ _ h=>by omega,fun r _ _ h=>by omega,fun x a r _ _ _ _ h=>by omega⟩
 |succ f ih=>
  obtain⟨i1,i2,i3,i4,i5⟩:=ih;obtain⟨b1,b2,b3,b4,b5⟩:=Zw f;obtain⟨a1,a2,a3,a4,a5⟩:=Fo f;refine⟨fun r ho hw hf hg=>?_,fun r ho hw hf hg=>?_,fun x a r ho hw hx ha hf hg=>?_,fun r ho hw hf hg=>?_,fun x a r ho hw hx ha hf hg=>?_⟩
  ·have hb:r.bad=false:=Je (fun h=>(Zw (f+1)).1 r h) hg;simp only[Fi]at hg⊢;rw[if_neg (by simp[hb])]at hg⊢;split at hg
   ·rename_i ht;have hl:=(Ay ht (by simp)).1;have ls:=Ca hl;have s:=Aj hl;obtain⟨g1,g2⟩:=i1 r.step (s.ok ho) (s.wk hw) (by omega) hg;rw[if_pos ht];refine⟨.neg _ g1,?_⟩;simp only[Ai,A3,RS.step]at g2⊢;omega
   rename_i ht1;rw[if_neg ht1];split at hg
   ·rename_i hk;rw[if_pos hk];have hk':r.kind=2:=by simpa using hk
    have:=Oj hw (by rw[hk'];simp);refine⟨.num _ (Z6 (by rw[←this];exact hk')) (Adm _),?_⟩;simp[Ai,A3,RS.step]
   rename_i hk;rw[if_neg hk];split at hg
   ·rename_i ht;have hl:=(Ay ht (by simp)).1;have ls:=Ca hl;have s:=Aj hl;obtain⟨n1,n2,n3⟩:=F4 hg;obtain⟨g1,g2⟩:=i4 r.step (s.ok ho) (s.wk hw) (by omega) n3;rw[if_pos ht];refine⟨g1,?_⟩;simp only[n2];simp only[RS.step]at g2⊢;omega
   rename_i ht2;rw[if_neg ht2];split at hg
   ·rename_i ht;have hl:=(Ay ht (by simp)).1;have s:=Aj hl;obtain⟨n1,n2,n3⟩:=F4 hg;have s2:=s.trans (Bb (s:=[40]) (s.ok ho) (by simp));obtain⟨m1,m2,m3,m4⟩:=J8 (s2.wk hw) n3;rw[if_pos ht];refine⟨.len _ m2,?_⟩;have e4:=(F4 m4).2.1;have:((r.step.need [40]).nameR.need [41]).at_=r.at_+4:=by rw[n2,m3,e4];rfl
    simp only[Ai,A3];omega
   rename_i ht3;rw[if_neg ht3];split at hg
   ·rename_i ht;rw[if_pos ht];obtain⟨m1,m2,m3,m4⟩:=J8 hw (Aaq ht);have hl:=(Ay ht (by simp)).1;have s:=(Cv ho).trans (Aj hl);have s':=Bg (Cv ho);have ls:=Ca hl;obtain⟨n1,n2,n3⟩:=F4 hg;obtain⟨g1,g2⟩:=i4 r.nameR.step (s.ok ho) (s.wk hw) (by omega) n3;refine⟨.cell _ _ m2 g1,?_⟩;simp only[n2];simp only[m3,RS.step,Ai,A3]at g2⊢;omega
   ·rename_i ht;rw[if_neg ht];obtain⟨m1,m2,m3,m4⟩:=J8 hw hg;refine⟨.var _ m2,?_⟩;simp[m3,RS.step,Ai,A3]
  ·simp only[Ek]at hg⊢;have h1:=Je (b3 (Fi f r).1 (Fi f r).2) hg;obtain⟨g1,g2⟩:=i1 r ho hw (by omega) h1;have af:=a1 r ho;have lf:=Bg af;exact i3 _ r.at_ _ (af.ok ho) (af.wk hw) g1 g2 (by omega) hg
  ·simp only[Hy]at hg⊢;split at hg
   ·rename_i ht;rw[if_pos ht];have hl:=(Ay ht (by simp)).1;have ls:=Ca hl;have s:=Aj hl;have h1:=Je (b3 _ (Fi f r.step).2) hg;obtain⟨g1,g2⟩:=i1 r.step (s.ok ho) (s.wk hw) (by omega) h1;have af:=s.trans (a1 r.step (s.ok ho));have lf:=Bg (a1 r.step (s.ok ho));refine i3 _ a _ (af.ok ho) (af.wk hw) (.two 8 _ _ (by simp) hx g1) ?_ (by omega) hg;simp only[RS.step,Ai,A3]at g2⊢;omega
   ·rename_i ht;rw[if_neg ht];exact⟨hx,ha⟩
  ·simp only[Ez]at hg⊢;have h1:=Je (b5 (Ek f r).1 (Ek f r).2) hg;obtain⟨g1,g2⟩:=i2 r ho hw (by omega) h1;have af:=a2 r ho;have lf:=Bg af;exact i5 _ r.at_ _ (af.ok ho) (af.wk hw) g1 g2 (by omega) hg
  ·simp only[G6]at hg⊢;split at hg
   ·rename_i ht;rw[if_pos ht];have hl:=(Ay ht (by simp)).1;have ls:=Ca hl;have s:=Aj hl;have h1:=Je (b5 _ (Ek f r.step).2) hg;obtain⟨g1,g2⟩:=i2 r.step (s.ok ho) (s.wk hw) (by omega) h1;have af:=s.trans (a2 r.step (s.ok ho));have lf:=Bg (a2 r.step (s.ok ho));refine i5 _ a _ (af.ok ho) (af.wk hw) (.two 6 _ _ (by simp) hx g1) ?_ (by omega) hg;simp only[RS.step,Ai,A3]at g2⊢;omega
   ·rename_i ht1;rw[if_neg ht1];split at hg
    ·rename_i ht;rw[if_pos ht];have hl:=(Ay ht (by simp)).1;have ls:=Ca hl;have s:=Aj hl;have h1:=Je (b5 _ (Ek f r.step).2) hg;obtain⟨g1,g2⟩:=i2 r.step (s.ok ho) (s.wk hw) (by omega) h1;have af:=s.trans (a2 r.step (s.ok ho));have lf:=Bg (a2 r.step (s.ok ho));refine i5 _ a _ (af.ok ho) (af.wk hw) (.two 7 _ _ (by simp) hx g1) ?_ (by omega) hg;simp only[RS.step,Ai,A3]at g2⊢;omega
    ·rename_i ht;rw[if_neg ht];exact⟨hx,ha⟩
theorem Kz{r:RS}(ho:r.ok)(hw:r.wk)(h:(B8 r).2.bad=false):FE (B8 r).1∧r.at_+Ai (B8 r).1≤(B8 r).2.at_:=
 (Alx 6010).2.2.2.1 r ho hw (by have:=ho.1;simp only[RS.left];omega) h
theorem Adw{s:List UInt8}(h:relS s≠0):11≤relS s∧relS s≤16:=by
 unfold relS at h⊢
 repeat' split
 all_goals (first|omega|simp_all)
theorem Rw{r:RS}(ho:r.ok)(hw:r.wk)(h:(Dm r).2.bad=false):FC (Dm r).1∧r.at_+Ai (Dm r).1≤(Dm r).2.at_:=by
 simp only[Dm]at h⊢;split at h
 ·simp[RS.spoil]at h
 ·rename_i hc;rw[if_neg hc];simp only[Pd,not_or,zzq54,Bool.not_eq_true]at hc;have hl:=V4 hc.2;have a:=B9 ho;have b:=a.trans (Aj hl);obtain⟨g1,g2⟩:=Kz ho hw hc.1;obtain⟨g3,g4⟩:=Kz (b.ok ho) (b.wk hw) h;have hr:=Adw hc.2;refine⟨.mk _ _ _ hr.1 hr.2 g1 g3,?_⟩;simp only[RS.step,Ai,A3]at g4⊢;omega
theorem Asq{r:RS}(h:r.bad=true):(Qz r).2.bad=true:=by
 simp only[Qz];rw[if_neg (by simp[Du (Ae2 h)])];exact Ob (T4 (Ae2 h) _)
theorem Ai1{r:RS}(h:r.bad=true):(Cz r).2.bad=true:=by
 simp only[Cz];rw[if_neg (by simp[Du h]),if_neg (by simp[Du h]),if_neg (by simp[Du h]),if_neg (by simp[Du h])];exact Asq h
theorem Aik{r:RS}(ho:r.ok)(hw:r.wk)(h:(Cz r).2.bad=false):FS (Cz r).1∧r.at_+Ai (Cz r).1≤(Cz r).2.at_:=by
 simp only[Cz]at h⊢;split at h
 ·rename_i ht;rw[if_pos ht];have s:=Aj (Ay ht (by simp)).1;obtain⟨g1,g2⟩:=Rw (s.ok ho) (s.wk hw) h;refine⟨.check _ g1,?_⟩;simp only[RS.step,Ai,A3]at g2⊢;omega
 rename_i ht1;rw[if_neg ht1];split at h
 ·rename_i ht;rw[if_pos ht];have s:=Aj (Ay ht (by simp)).1;obtain⟨m1,m2,m3,m4⟩:=J8 (s.wk hw) h;refine⟨.read _ m2,?_⟩;rw[m3];simp[RS.step,Ai,A3]
 rename_i ht2;rw[if_neg ht2];split at h
 ·rename_i ht;rw[if_pos ht];exact⟨.skip,by simp[RS.step,Ai,A3]⟩
 rename_i ht3;rw[if_neg ht3];split at h
 ·rename_i ht;rw[if_pos ht];exact⟨.stop,by simp[RS.step,Ai,A3]⟩
 rename_i ht4;rw[if_neg ht4];simp only[Qz]at h⊢;split at h
 ·rename_i ht;rw[if_pos ht];obtain⟨m1,m2,m3,m4⟩:=J8 hw (Aaq ht);have s:=(Cv ho).trans (Aj (Ay ht (by simp)).1);have a1:=s.trans (B9 (s.ok ho));have a2:=a1.trans (Bb (s:=[93]) (a1.ok ho) (by simp));have a3:=a2.trans (Bb (s:=[61]) (a2.ok ho) (by simp));have hb:=Je (fun h=>Ob h) h;obtain⟨n1,n2,n3⟩:=F4 hb;obtain⟨n4,n5,n6⟩:=F4 n3;obtain⟨g1,g2⟩:=Kz (s.ok ho) (s.wk hw) n6;obtain⟨g3,g4⟩:=Kz (a3.ok ho) (a3.wk hw) h;refine⟨.put _ _ _ m2 g1 g3,?_⟩;have e1:(((B8 r.nameR.step).2.need [93]).need [61]).at_=(B8 r.nameR.step).2.at_+2:=by rw[n2,n5];rfl
  have e2:r.nameR.step.at_=r.at_+2:=by rw[m3];rfl
  simp only[Ai,A3];omega
 ·rename_i ht;rw[if_neg ht];have a1:=Cv ho;have a2:=a1.trans (Bb (s:=[61]) (a1.ok ho) (by simp));have hb:=Je (fun h=>Ob h) h;obtain⟨n1,n2,n3⟩:=F4 hb;obtain⟨m1,m2,m3,m4⟩:=J8 hw n3;obtain⟨g3,g4⟩:=Kz (a2.ok ho) (a2.wk hw) h;refine⟨.set _ _ m2 g3,?_⟩;have e1:(r.nameR.need [61]).at_=r.at_+2:=by rw[n2,m3];rfl
  simp only[Ai,A3];omega
theorem Af9:∀(f:Nat),(∀r:RS,r.bad=true→(Dc f r).2.bad=true)∧(∀r:RS,r.bad=true→(Ct f r).2.bad=true)∧(∀(acc:List Nd)(r:RS),r.bad=true→(Ed f acc r).2.bad=true):=by
 intro f
 induction f with
 |zero=>exact⟨fun r h=>by simpa only[Dc]using h,fun r h=>by simpa only[Ct]using h,fun x r h=>by simpa only[Ed]using h⟩
 |succ f ih=>
  obtain⟨i1,i2,i3⟩:=ih;refine⟨fun r h=>?_,fun r h=>?_,fun acc r h=>?_⟩
  ·simp only[Dc];rw[if_neg (by simp[Du h]),if_neg (by simp[Du h]),if_neg (by simp[Du h])];exact T4 (Ai1 h) _
  ·simp only[Ct];exact T4 (i3 _ _ (T4 h _)) _
  ·simp only[Ed];rw[if_neg (by simp[h])];exact h
theorem Rx(l:List Nd)(x:Nd):A3 (l++[x])=A3 l+Ai x:=by rw[M3];simp[A3]
theorem V7(r:RS):r.step.at_=r.at_+1:=rfl
theorem Am1:∀(f:Nat),(∀r:RS,r.ok→r.wk→3*r.left+1≤f→(Dc f r).2.bad=false→FS (Dc f r).1∧r.at_+Ai (Dc f r).1≤(Dc f r).2.at_) ∧
 (∀r:RS,r.ok→r.wk→3*r.left+3≤f→(Ct f r).2.bad=false→∃l,(Ct f r).1=.mk 30 [] 0 l∧(∀x,x∈l→FS x)∧r.at_+2+A3 l≤(Ct f r).2.at_) ∧
 (∀(acc:List Nd)(a:Nat)(r:RS),r.ok→r.wk→(∀x,x∈acc→FS x)→a+A3 acc≤r.at_→3*r.left+2≤f→(Ed f acc r).2.bad=false→(∀x,x∈(Ed f acc r).1→FS x)∧a+A3 (Ed f acc r).1≤(Ed f acc r).2.at_):=by
 intro f
 induction f with
 |zero=>exact⟨fun r _ _ h=>by omega,fun r _ _ h=>by omega,fun x a r _ _ _ _ h=>by omega⟩
 |succ f ih=>
  obtain⟨i1,i2,i3⟩:=ih;obtain⟨b1,b2,b3⟩:=Af9 f;obtain⟨a1,a2,a3⟩:=F5 f;refine⟨fun r ho hw hf hg=>?_,fun r ho hw hf hg=>?_,fun acc a r ho hw hx ha hf hg=>?_⟩
  ·simp only[Dc]at hg⊢;split at hg
   ·rename_i ht;rw[if_pos ht];have hl:=(Ay ht (by simp)).1;have ls:=Ca hl;have s:=Aj hl;have c:=s.trans (Dy (s.ok ho));have lc:=Bg (Dy (s.ok ho));split at hg
    ·rename_i ht2;rw[if_pos ht2];have hl2:=(Ay ht2 (by simp)).1;have ls2:=Ca hl2;have d:=c.trans (a2 _ (c.ok ho));have ld:=Bg (a2 _ (c.ok ho));have e:=d.trans (Aj hl2);have hb1:=Aaq ht2;have hb2:=Je (b2 (Dm r.step).2) hb1;obtain⟨g1,g2⟩:=Rw (s.ok ho) (s.wk hw) hb2;obtain⟨l,e1,h1,h2⟩:=i2 _ (c.ok ho) (c.wk hw) (by omega) hb1;obtain⟨l',e2,h3,h4⟩:=i2 _ (e.ok ho) (e.wk hw) (by omega) hg;rw[e1,e2];refine⟨.ifs _ _ _ g1 h1 h3,?_⟩;simp only[V7,Ai,A3]at g2 h4⊢;omega
    ·rename_i ht2;rw[if_neg ht2];have hb2:=Je (b2 (Dm r.step).2) hg;obtain⟨g1,g2⟩:=Rw (s.ok ho) (s.wk hw) hb2;obtain⟨l,e1,h1,h2⟩:=i2 _ (c.ok ho) (c.wk hw) (by omega) hg;rw[e1];refine⟨.ifs _ _ [] g1 h1 (fun x hx=>by cases hx),?_⟩;simp only[V7,Ai,A3]at g2⊢;omega
   rename_i ht1;rw[if_neg ht1];split at hg
   ·rename_i ht;rw[if_pos ht];have hl:=(Ay ht (by simp)).1;have ls:=Ca hl;have s:=Aj hl;have c:=s.trans (Dy (s.ok ho));have lc:=Bg (Dy (s.ok ho));have hb2:=Je (b2 (Dm r.step).2) hg;obtain⟨g1,g2⟩:=Rw (s.ok ho) (s.wk hw) hb2;obtain⟨l,e1,h1,h2⟩:=i2 _ (c.ok ho) (c.wk hw) (by omega) hg;rw[e1];refine⟨.whil _ _ g1 h1,?_⟩;simp only[V7,Ai,A3]at g2⊢;omega
   rename_i ht2;rw[if_neg ht2];split at hg
   ·rename_i ht;rw[if_pos ht];have hl:=(Ay ht (by simp)).1;have ls:=Ca hl;have s:=Aj hl;have fa:=s.trans (R7 (s.ok ho));have fb:=s.trans (K3 (s.ok ho));have lb:=Bg (K3 (s.ok ho));have d:=fb.trans (B9 (fb.ok ho));have ld:=Bg (B9 (fb.ok ho));have hb2:=Je (b2 _) hg;have hb3:=Je (fun h=>Ob h) hb2;obtain⟨n1,n2,n3⟩:=F4 (r:=(B8 (Yh r.step)).2) (s:=wTo) hb3;have hb4:=Je (fun h=>Ob h) n3;obtain⟨n4,n5,n6⟩:=F4 (r:=r.step.nameR) (s:=Jn) hb4;obtain⟨m1,m2,m3,m4⟩:=J8 (s.wk hw) n6;obtain⟨g1,g2⟩:=Kz (fa.ok ho) (fa.wk hw) n3;obtain⟨g3,g4⟩:=Kz (fb.ok ho) (fb.wk hw) hb2;obtain⟨l,e1,h1,h2⟩:=i2 _ (d.ok ho) (d.wk hw) (by omega) hg;rw[e1];refine⟨.for_ _ _ _ _ m2 g1 g3 h1,?_⟩;have e2:(Zz r.step).at_=(B8 (Yh r.step)).2.at_+1:=by show ((B8 (Yh r.step)).2.need wTo).at_=_;rw[n2];rfl
    have e3:(Yh r.step).at_=r.at_+3:=by show (r.step.nameR.need Jn).at_=_;rw[n5,m3];rfl
    simp only[Ai,A3];omega
   ·rename_i ht3;rw[if_neg ht3];obtain⟨n1,n2,n3⟩:=F4 hg;obtain⟨g1,g2⟩:=Aik ho hw n3;refine⟨g1,?_⟩;rw[n2];show r.at_+Ai (Cz r).1≤(Cz r).2.at_+1;omega
  ·simp only[Ct]at hg⊢;obtain⟨n1,n2,n3⟩:=F4 hg;have hb:=Je (b3 [] _) n3;obtain⟨n4,n5,n6⟩:=F4 hb;have hl:=(Ay n4 (by simp)).1;have ls:=Ca hl;have s:=Bb (s:=[123]) ho (by simp);rw[n5]at s n3 n2⊢;obtain⟨g1,g2⟩:=i3 [] r.step.at_ _ (s.ok ho) (s.wk hw) (fun x hx=>by cases hx) (by simp[A3]) (by omega) n3;refine⟨_,rfl,g1,?_⟩;rw[n2];simp only[V7]at g2⊢;omega
  ·simp only[Ed]at hg⊢;split at hg
   ·rename_i hc;rw[if_pos hc];have af:=a1 r ho;have lf:=Bg af;obtain⟨p,rfl⟩:∃p,f=p+1:=⟨f-1,by omega⟩
    have hb:=Je (b3 _ (Dc (p+1) r).2) hg;obtain⟨g1,g2⟩:=i1 r ho hw (by omega) hb;have hon:r.at_<(Dc (p+1) r).2.at_:=by
     rcases Y1 p ho with h|h
     ·rw[hb]at h;cases h
     ·exact h
    have hlt:(Dc (p+1) r).2.left+1≤r.left:=by
     have e1:=af.1;have e2:=af.2.2;simp only[RS.left,e1]at *;omega
    refine i3 _ a _ (af.ok ho) (af.wk hw) (fun x hx'=>?_) ?_ (by omega) hg
    ·rcases zzq45.1 hx' with h|h
     ·exact hx x h
     ·simp at h;subst h;exact g1
    ·rw[Rx];omega
   ·rename_i hc;rw[if_neg hc];exact⟨hx,ha⟩
theorem Amx{r:RS}(hw:r.wk)(h:(I0 r).2.bad=false):-1≤(I0 r).1∧(I0 r).1≤1000000∧(I0 r).2.at_=r.at_+1∧r.bad=false:=by
 simp only[I0]at h⊢;split at h
 ·rename_i hc;rw[if_pos hc];simp only[Dd,Ml,zzq54]at hc;have hk:=Oj hw (by rw[hc.2];simp);have:=Z6 (by rw[←hk];exact hc.2);exact⟨by simp only;omega,Adm _,rfl,hc.1⟩
 ·rename_i hc;rw[if_neg hc];obtain⟨n1,n2,n3⟩:=F4 h;exact⟨by simp,by simp,by rw[n2];rfl,n3⟩
theorem Alv{r:RS}(ho:r.ok)(hw:r.wk)(hd:Hq r=true)(h:(Ji r).2.bad=false):FV (Ji r).1∧Ai (Ji r).1=1∧r.at_+1≤(Ji r).2.at_:=by
 have af:=La ho hd;have hlt:=af.2;have s:=Aj hlt;refine⟨?_,?_,?_⟩
 ·simp only[Ji]at h⊢;split at h
  ·rename_i ht;rw[if_pos ht];exact .var _ (J8 (s.wk hw) h).2.1
  ·rename_i ht;rw[if_neg ht];obtain⟨n1,n2,n3⟩:=F4 h;have s2:=s.trans (Cv (s.ok ho));have s3:=s2.trans (Bb (s:=[91]) (s2.ok ho) (by simp));obtain⟨g1,g2,g3,g4⟩:=Amx (s3.wk hw) n3;obtain⟨n4,n5,n6⟩:=F4 g4;exact .arr _ _ (J8 (s.wk hw) n6).2.1 g1 g2
 ·simp only[Ji];split<;>simp[Ai,A3]
 ·have:=af.1.2.1;rw[V7]at this;exact this
theorem Alk:∀(f:Nat)(acc:List Nd)(r:RS),r.bad=true→(E9 f acc r).2.bad=true
 |0,acc,r,h=>by simpa only[E9]using h
 |f+1,acc,r,h=>by simp only[E9];rw[if_neg (by simp[Hq,Du h])];exact h
theorem Aa1:∀(f:Nat)(acc:List Nd)(a:Nat)(r:RS),r.ok→r.wk→(∀x,x∈acc→FV x)→a+A3 acc≤r.at_→(E9 f acc r).2.bad=false →
 (∀x,x∈(E9 f acc r).1→FV x)∧a+A3 (E9 f acc r).1≤(E9 f acc r).2.at_
 |0,acc,a,r,ho,hw,hx,ha,h=>by simp only[E9]at h⊢;exact⟨hx,ha⟩
 |f+1,acc,a,r,ho,hw,hx,ha,h=>by
  simp only[E9]at h⊢;split at h
  ·rename_i hd;rw[if_pos hd];have hb:=Je (Alk f _ _) h;obtain⟨n1,n2,n3⟩:=F4 hb;obtain⟨g1,g2,g3⟩:=Alv ho hw hd n3;obtain⟨d1,d2⟩:=La ho hd;have s:=(Aj d2).trans d1;have s2:=s.trans (Bb (s:=[59]) (s.ok ho) (by simp));refine Aa1 f _ a _ (s2.ok ho) (s2.wk hw) (fun x hx'=>?_) ?_ h
   ·rcases zzq45.1 hx' with h'|h'
    ·exact hx x h'
    ·simp at h';subst h';exact g1
   ·rw[Rx,n2,V7];omega
  ·rename_i hd;rw[if_neg hd];exact⟨hx,ha⟩
theorem Xi{r:RS}(ho:r.ok)(hw:r.wk)(h:(Ep r).2.bad=false):FP (Ep r).1∧r.at_+Ai (Ep r).1≤(Ep r).2.at_+2∧(Ep r).2.at_=r.ws.length:=by
 simp only[Ep]at h⊢;generalize hT:E9 2000 [] r=T at h⊢;have aT:r.after T.2:=by rw[←hT];exact N6 2000 [] r ho
 have aL:=(F5 5000).2.2 [] T.2 (aT.ok ho);simp only[RS.ends]at h⊢;split at h
 ·simp[RS.spoil]at h
 ·rename_i hc;rw[if_neg hc];have hb:=Je ((Af9 5000).2.2 [] T.2) h;obtain⟨g1,g2⟩:=(Am1 5000).2.2 [] T.2.at_ T.2 (aT.ok ho) (aT.wk hw) (fun x hx=>by cases hx) (by simp[A3]) (by have:=(aT.ok ho).1;simp only[RS.left];omega) h;obtain⟨g3,g4⟩:=Aa1 2000 [] r.at_ r ho hw (fun x hx=>by cases hx) (by simp[A3]) (by rw[hT];exact hb);rw[hT]at g3 g4;refine⟨.mk _ _ g3 g1,?_,?_⟩
  ·simp only[Ai,Rx,A3];omega
  ·have e:=(aT.trans aL).1;have:=aL.2.2;have e2:(Ed 5000 [] T.2).2.ws=r.ws:=e;rw[e2]at this hc;omega
end Go.V
