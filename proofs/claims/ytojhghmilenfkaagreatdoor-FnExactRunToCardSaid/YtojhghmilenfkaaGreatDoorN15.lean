/- A part of the proof of the claim that the last text states: no condition of its own. -/
import Derived.Test.YtojhghmilenfkaaGreatDoorN14
set_option linter.unusedVariables false
set_option linter.unusedSimpArgs false
namespace Go.V
open Go Go.Proofs Go.Proofs.Tryz
abbrev VR:=Int×Int×Int
def Ns(x d:Int):VR:=if Zg x=true then(x,0,d)else(0,3,d)
def Nw(r:List (Bool×Int))(x d:Int):VR:=
 if Bl x 0 ((r.length:Int)-1)=true then(if (r.getD x.toNat (false,0)).1=true then((r.getD x.toNat (false,0)).2,0,IntKind.i64.wrap (d+1))else(0,2,d))else(0,1,d)
def Xn(n:Nd)(c:Cf)(s:List UInt8):List (Bool×Int):=c.cells.getD (E6 0 (Ax n 32) s).toNat []
def Tp(n:Nd)(c:Cf)(k:Int)(s:List UInt8)(m:Int)(q:List Int×Int×Int):VR:=
 if q.2.1=0 then
  match q.1 with
  |[]=>(if k=1 then m else if k=2 then c.vars.getD (E6 0 (Ax n 31) s).toNat 0 else(Xn n c s).length,0,q.2.2)
  |[a]=>if k=3 then Nw (Xn n c s) a q.2.2 else Ns (IntKind.i64.wrap (-a)) q.2.2
  |a::b::_=>Ns (IntKind.i64.wrap (if k=6 then a+b else if k=7 then a-b else a*b)) q.2.2
 else(0,q.2.1,q.2.2)
mutual
def C9(n:Nd)(c:Cf):Nd→Int→VR
 |.mk k s m ks,d=>Tp n c k s m (Ad6 n c ks d)
def Ad6(n:Nd)(c:Cf):List Nd→Int→List Int×Int×Int
 |[],d=>([],0,d)
 |x::l,d=>if (C9 n c x d).2.1=0 then((C9 n c x d).1::(Ad6 n c l (C9 n c x d).2.2).1,(Ad6 n c l (C9 n c x d).2.2).2)else([],(C9 n c x d).2)
end
theorem Y7(n:Nd)(c:Cf)(k:Int)(s:List UInt8)(m:Int)(ks:List Nd)(d:Int):C9 n c (.mk k s m ks) d=Tp n c k s m (Ad6 n c ks d):=by rw[C9]
theorem A0g(n:Nd)(c:Cf)(x:Nd)(d:Int):Ad6 n c [x] d=if (C9 n c x d).2.1=0 then([(C9 n c x d).1],0,(C9 n c x d).2.2)else([],(C9 n c x d).2):=by
 rw[Ad6,Ad6]
theorem Agh{n:Nd}{c:Cf}{k:Int}{s:List UInt8}{m:Int}{x:Nd}{d v t d1:Int}(hx:C9 n c x d=(v,t,d1)):C9 n c (.mk k s m [x]) d=if t=0 then Tp n c k s m ([v],0,d1)else(0,t,d1):=by
 rw[Y7,A0g,hx];by_cases h:t=0
 ·rw[if_pos h,if_pos h]
 ·rw[if_neg h,if_neg h];unfold Tp;rw[if_neg h]
theorem Avp{n:Nd}{c:Cf}{k:Int}{s:List UInt8}{m:Int}{x y:Nd}{d v t d1 v2 t2 d2:Int}(hx:C9 n c x d=(v,t,d1))(hy:C9 n c y d1=(v2,t2,d2)) :
 C9 n c (.mk k s m [x,y]) d=if t=0 then(if t2=0 then Tp n c k s m ([v,v2],0,d2)else(0,t2,d2))else(0,t,d1):=by
 rw[Y7,Ad6,hx];by_cases h:t=0
 ·simp only[h,if_true];rw[A0g,hy];by_cases h2:t2=0
  ·simp only[h2,if_true]
  ·simp only[h2,if_false];unfold Tp;rw[if_neg h2]
 ·simp only[h,if_false];unfold Tp;rw[if_neg h]
structure VOk (n:Nd)(c:Cf):Prop where
 kl:n.kids.length≤4500
 vars:c.vars.length=(Ax n 31).length
 cells:c.cells.length=(Ax n 32).length
 rows:∀x,x∈c.cells→x.length≤60
theorem An6(l:List (List UInt8)):∀(i:Nat)(s:List UInt8),E6 i l s≥0→∃j:Nat,E6 i l s=(i+j:Nat)∧j<l.length:=by
 induction l with
 |nil=>intro i s h;simp[E6]at h
 |cons x l ih=>
  intro i s h;by_cases hx:(s==x)=true
  ·exact⟨0,by simp[E6,hx],by simp⟩
  ·have e:E6 i (x::l) s=E6 (i+1) l s:=by simp only[E6];rw[if_neg hx]
   rw[e]at h⊢;obtain⟨j,h1,h2⟩:=ih (i+1) s h;exact⟨j+1,by rw[h1];congr 1;omega,by simp;omega⟩
theorem VOk.var{n:Nd}{c:Cf}(h:VOk n c){s:List UInt8}(hk:E6 0 (Ax n 31) s≥0):∃(i:Nat)(v:Int),E6 0 (Ax n 31) s=i∧c.vars[i]?=some v∧c.vars.getD (E6 0 (Ax n 31) s).toNat 0=v:=by
 obtain⟨j,h1,h2⟩:=An6 _ 0 s hk;rw[Jy]at h1;obtain⟨v,hv⟩:=Ab c.vars (i:=j) (by rw[h.vars];exact h2);exact⟨j,v,h1,hv,by rw[h1];simp[List.getD,hv]⟩
theorem VOk.row{n:Nd}{c:Cf}(h:VOk n c){s:List UInt8}(hk:E6 0 (Ax n 32) s≥0):∃(i:Nat)(r:List (Bool×Int)),E6 0 (Ax n 32) s=i∧c.cells[i]?=some r∧Xn n c s=r∧r.length≤60:=by
 obtain⟨j,h1,h2⟩:=An6 _ 0 s hk;rw[Jy]at h1;obtain⟨v,hv⟩:=Ab c.cells (i:=j) (by rw[h.cells];exact h2);exact⟨j,v,h1,hv,by unfold Xn;rw[h1];simp[List.getD,hv],h.rows v (Bh hv)⟩
abbrev wk(n:Nd)(c:Cf)(d:Int):List AV:=[.cptr (Mh n),.cptr (G4 c),vi d]
abbrev vR(r:VR):AV:=.tup [vi r.1,vi r.2.1]
theorem Vy(x d:Int):Pure X 241 [vi x] (vR (Ns x d)):=by
 refine Pure.run func241 ?_;refine Al (Aow x) ?_;refine Ah (fun g=>?_) (fun g=>?_)
 ·have g':Zg x=false:=by simpa using(show (!Zg x)=true from g)
  refine As func241 ?_;unfold Ns;rw[if_neg (by simp[g'])]
 ·have g':Zg x=true:=by simpa using(show (!Zg x)=false from g)
  refine As func241 ?_;unfold Ns;rw[if_pos g']
abbrev vR3(r:VR):AV:=.tup [vi r.1,vi r.2.1,vi r.2.2]
abbrev SpV(n:Nd)(c:Cf)(e:Nd):St:=⟨[[Kp n],[Af e],[G4 c]],[]⟩
abbrev PVT(n:Nd)(c:Cf)(e:Nd)(d:Int)(T:VR):Prop:=Pure X 123 [.agg (Kp n),nd e,cf c,vi d] (vR3 T)
theorem Auc(n:Nd)(c:Cf)(hk:VOk n c)(s:List UInt8)(hs:E6 0 (Ax n 32) s≥0)(x:Nd)(a d:Int):AK X ⟨123,f123,0,0⟩ (Lm false 11 f123) [(3,vi d),(4,.ptr 0 0 0),(5,.ptr 1 0 0),(6,.ptr 2 0 0),(11,vi a)] (SpV n c (.mk 3 s 0 [x]))
 (fun e S=>e=.ret (vR3 (Nw (Xn n c s) a d))∧S=⟨[],[]⟩):=by
 obtain⟨i,r,h1,h2,h3,h4⟩:=hk.row hs;have kl:=hk.kl;have hd:=G9 n 32;have hq:=Us (Ax n 32) s (by omega);rw[h1]at hq;rw[h3];have hlen:((I9 r).length:Int)=r.length:=by rw[G5]
 have hw:IntKind.i64.wrap (((I9 r).length:Int)-1)=r.length-1:=by rw[hlen];exact Ac (by omega) (by omega)
 have hb0:=H4 a 0 (IntKind.i64.wrap (((I9 r).length:Int)-1));rw[hw]at hb0;refine D5 ?_;refine Bi 100 rfl ?_;refine A0 ?_;refine D8 0 ?_;refine Ce hq ?_;refine Eo (fun S'=>Cu rfl rfl rfl rfl rfl rfl rfl rfl rfl (by omega) (Ev (f:=Alu) h2)) ?_;refine Fx ?_;refine B2 ?_;refine Al (H4 a 0 (IntKind.i64.wrap (((I9 r).length:Int)-1))) ?_;rw[hw];cases hb:Bl a 0 ((r.length:Int)-1)with
 |false=>
  have e1:Nw r a d=(0,1,d):=by unfold Nw;rw[if_neg (by simp[hb])]
  rw[e1];refine A0 ?_;exact As func123 rfl
 |true=>
  have hb':=Cn.1 hb;obtain⟨j,rfl⟩:∃j:Nat,a=j:=⟨a.toNat,by omega⟩
  obtain⟨y,hy⟩:=Ab r (i:=j) (by omega);obtain⟨w,m⟩:=y;have e1:Nw r j d=if w=true then(m,0,IntKind.i64.wrap (d+1))else(0,2,d):=by unfold Nw;rw[if_pos hb];simp[List.getD,hy]
  rw[e1];refine Ag ?_;refine B4 j (by omega) (Ev (f:=Nv) hy) ?_;cases w with
  |false=>
   refine A0 ?_;exact As func123 rfl
  |true=>
   refine Ag ?_;refine B4 j (by omega) (Ev (f:=Nv) hy) ?_;exact As func123 rfl
theorem Ab9(n:Nd)(c:Cf)(e:Nd)(x d:Int):AK X ⟨123,f123,0,0⟩ (Lm false 30 f123) [(3,vi d),(4,.ptr 0 0 0),(5,.ptr 1 0 0),(6,.ptr 2 0 0),(14,vi x)] (SpV n c e)
 (fun e S=>e=.ret (vR3 (Ns x d))∧S=⟨[],[]⟩):=by
 refine D5 ?_;refine Bi 100 rfl ?_;refine Al (Az9 x) ?_;refine Ah (fun g=>?_) (fun g=>?_)
 ·have g':Zg x=false:=by simpa using(show (!Zg x)=true from g)
  refine As func123 ?_;unfold Ns;rw[if_neg (by simp[g'])]
 ·have g':Zg x=true:=by simpa using(show (!Zg x)=false from g)
  refine As func123 ?_;unfold Ns;rw[if_pos g']
theorem A4d(n:Nd)(c:Cf)(k:Int)(a b:Nd)(hk':k=6∨k=7∨k=8)(v v2 d2:Int):AK X ⟨123,f123,0,0⟩ (Lm false 24 f123) [(3,vi d2),(4,.ptr 0 0 0),(5,.ptr 1 0 0),(6,.ptr 2 0 0),(11,vi v),(15,vi v2)] (SpV n c (.mk k [] 0 [a,b]))
 (fun e S=>e=.ret (vR3 (Tp n c k [] 0 ([v,v2],0,d2)))∧S=⟨[],[]⟩):=by
 rcases hk' with rfl|rfl|rfl
 ·refine D5 ?_;refine Bi 100 rfl ?_;refine Ey (e:=true) 30 0 (fun _=>?_) (fun h=>nomatch h);exact Bz 3 0 (Ab9 n c _ (IntKind.i64.wrap (v+v2)) d2) ⟨rfl,rfl,rfl,rfl,rfl,trivial⟩ rfl rfl rfl rfl rfl
 ·refine D5 ?_;refine Bi 100 rfl ?_;refine Ag ?_;refine Ey (e:=true) 30 0 (fun _=>?_) (fun h=>nomatch h);exact Bz 3 0 (Ab9 n c _ (IntKind.i64.wrap (v-v2)) d2) ⟨rfl,rfl,rfl,rfl,rfl,trivial⟩ rfl rfl rfl rfl rfl
 ·refine D5 ?_;refine Bi 100 rfl ?_;refine Ag ?_;refine Ey (e:=false) 0 30 (fun h=>nomatch h) (fun _=>?_);exact Bz 3 0 (Ab9 n c _ (IntKind.i64.wrap (v*v2)) d2) ⟨rfl,rfl,rfl,rfl,rfl,trivial⟩ rfl rfl rfl rfl rfl
theorem A4c(n:Nd)(c:Cf)(k:Int)(a b:Nd)(hk':k=6∨k=7∨k=8)(v d1 v2 t2 d2:Int)(hj:PVT n c b d1 (v2,t2,d2)):AK X ⟨123,f123,0,0⟩ (Lm false 20 f123) [(3,vi d1),(4,.ptr 0 0 0),(5,.ptr 1 0 0),(6,.ptr 2 0 0),(11,vi v)] (SpV n c (.mk k [] 0 [a,b]))
 (fun e S=>e=.ret (vR3 (if t2=0 then Tp n c k [] 0 ([v,v2],0,d2)else(0,t2,d2)))∧S=⟨[],[]⟩):=by
 have L:=A4d n c k a b hk' v v2 d2;refine D5 ?_;refine D8 0 ?_;refine Db 1 (by omega) (Am (l:=[a,b]) rfl) ?_;refine Ce hj ?_;refine B2 ?_;refine Ey 0 24 (fun g2=>?_) (fun g2=>?_)
 ·have g':¬t2=0:=by simpa using(show (t2 != 0)=true from g2)
  rw[if_neg g'];refine Bi 100 rfl ?_;exact As func123 rfl
 have gt2:t2=0:=by simpa using(show (t2 != 0)=false from g2)
 rw[if_pos gt2];exact Bz 3 0 L ⟨rfl,rfl,rfl,rfl,rfl,rfl,trivial⟩ rfl rfl rfl rfl rfl
theorem Sq(n:Nd)(c:Cf)(hk:VOk n c){e:Nd}(h:FE e):Ff (Ax n 31) (Ax n 32) e=true→∀d,PVT n c e d (C9 n c e d):=by
 have kl:=hk.kl;have hd1:=G9 n 31;have hd2:=G9 n 32
 induction h with
 |num m h0 h1=>
  intro _ d;refine Pure.run func123 ?_;refine A0 ?_;exact As func123 rfl
 |var s h=>
  intro hn d;obtain⟨i,v,h1,h2,h3⟩:=hk.var ((Wo hn).1 rfl);have hq:=Us (Ax n 31) s (by omega);rw[h1]at hq;have e1:C9 n c (.mk 2 s 0 []) d=(c.vars.getD (E6 0 (Ax n 31) s).toNat 0,0,d):=rfl;rw[e1,h3];refine Pure.run func123 ?_;refine Ag ?_;refine A0 ?_;refine D8 0 ?_;refine Ce hq ?_;refine Eo (fun S'=>Cu rfl rfl rfl rfl rfl rfl rfl rfl rfl (by omega) (Y8 h2)) ?_;refine Fx ?_;refine B2 ?_;exact As func123 rfl
 |len s h=>
  intro hn d;obtain⟨i,r,h1,h2,h3,h4⟩:=hk.row ((Wo hn).2 rfl);have hq:=Us (Ax n 32) s (by omega);rw[h1]at hq;have e1:C9 n c (.mk 4 s 0 []) d=(((Xn n c s).length:Int),0,d):=rfl;rw[e1,h3];refine Pure.run func123 ?_;refine Ag ?_;refine Ag ?_;refine A0 ?_;refine D8 0 ?_;refine Ce hq ?_;refine Eo (fun S'=>Cu rfl rfl rfl rfl rfl rfl rfl rfl rfl (by omega) (Ev (f:=Alu) h2)) ?_;refine Fx ?_;refine B2 ?_;refine As func123 ?_;rw[G5]
 |cell s a h ha ih=>
  intro hn d;have hi:=ih (Ahv hn) d;rcases hv:C9 n c a d with⟨v,t,d1⟩
  rw[hv]at hi;rw[PVT,Agh hv];have L:=Auc n c hk s ((Wo hn).2 rfl) a v d1;refine Pure.run func123 ?_;refine Ag ?_;refine Ag ?_;refine Ag ?_;refine D8 0 ?_;refine Db 0 (by omega) (Am (l:=[a]) rfl) ?_;refine Ce hi ?_;refine B2 ?_;refine Ey 0 11 (fun g=>?_) (fun g=>?_)
  ·have g':¬t=0:=by simpa using(show (t != 0)=true from g)
   rw[if_neg g'];refine Bi 100 rfl ?_;exact As func123 rfl
  have gt:t=0:=by simpa using(show (t != 0)=false from g)
  rw[if_pos gt];exact Bz 3 0 L ⟨rfl,rfl,rfl,rfl,rfl,trivial⟩ rfl rfl rfl rfl rfl
 |neg a ha ih=>
  intro hn d;have hi:=ih (Ahv hn) d;rcases hv:C9 n c a d with⟨v,t,d1⟩
  rw[hv]at hi;rw[PVT,Agh hv];refine Pure.run func123 ?_;refine Ag ?_;refine Ag ?_;refine Ag ?_;refine D8 0 ?_;refine Db 0 (by omega) (Am (l:=[a]) rfl) ?_;refine Ce hi ?_;refine B2 ?_;refine Ah (fun g=>?_) (fun g=>?_)
  ·have g':¬t=0:=by simpa using(show (t != 0)=true from g)
   rw[if_neg g'];exact As func123 rfl
  have gt:t=0:=by simpa using(show (t != 0)=false from g)
  rw[if_pos gt];refine Ag ?_;refine Ey (e:=false) 0 30 (fun h=>nomatch h) (fun _=>?_);exact Bz 3 0 (Ab9 n c _ (IntKind.i64.wrap (-v)) d1) ⟨rfl,rfl,rfl,rfl,rfl,trivial⟩ rfl rfl rfl rfl rfl
 |two k a b hk' ha hb iha ihb=>
  intro hn d;have hi:=iha (Z7 hn).1 d;rcases hv:C9 n c a d with⟨v,t,d1⟩
  rw[hv]at hi;have hj:=ihb (Z7 hn).2 d1;rcases hw:C9 n c b d1 with⟨v2,t2,d2⟩
  rw[hw]at hj;rw[PVT,Avp hv hw];refine Pure.run func123 ?_;refine Ag ?_ (ht:=by rcases hk' with rfl|rfl|rfl<;>rfl);refine Ag ?_ (ht:=by rcases hk' with rfl|rfl|rfl<;>rfl);refine Ag ?_ (ht:=by rcases hk' with rfl|rfl|rfl<;>rfl);refine D8 0 ?_;refine Db 0 (by omega) (Am (l:=[a,b]) rfl) ?_;refine Ce hi ?_;refine B2 ?_;refine Ah (fun g=>?_) (fun g=>?_)
  ·have g':¬t=0:=by simpa using(show (t != 0)=true from g)
   rw[if_neg g'];exact As func123 rfl
  have gt:t=0:=by simpa using(show (t != 0)=false from g)
  rw[if_pos gt];refine Ag ?_ (ht:=by rcases hk' with rfl|rfl|rfl<;>rfl);refine Ey (e:=!(k==5)) 20 0 (fun _=>?_) (fun h=>?_)
  ·exact Bz 3 0 (A4c n c k a b hk' v d1 v2 t2 d2 hj) ⟨rfl,rfl,rfl,rfl,rfl,trivial⟩ rfl rfl rfl rfl rfl
  ·exfalso;rcases hk' with rfl|rfl|rfl<;>cases h
def Oz(k a b:Int):Bool:=if k=11 then decide (a<b)else if k=12 then decide (a≤b)else if k=13 then decide (a>b)else if k=14 then decide (a≥b)else if k=15 then(a==b)else !(a==b)
abbrev DR:=Cf×Int×Int×Bool
def Nx(n:Nd)(c:Cf)(ks:List Nd)(g:Int→Int→Int→DR):DR:=match ks with
 |[a,b]=>
  if (C9 n c a 0).2.1=0 then
   if (C9 n c b (C9 n c a 0).2.2).2.1=0 then g (C9 n c a 0).1 (C9 n c b (C9 n c a 0).2.2).1 (C9 n c b (C9 n c a 0).2.2).2.2
   else(c,(C9 n c b (C9 n c a 0).2.2).2.1,(C9 n c b (C9 n c a 0).2.2).2.2,true)
  else(c,(C9 n c a 0).2.1,(C9 n c a 0).2.2,true)
 |_=>(c,0,0,true)
def Wk(n:Nd)(c:Cf)(s:List UInt8)(v:Int):Cf:={ c with vars:=c.vars.set (E6 0 (Ax n 31) s).toNat v }
def Aij(n:Nd)(c:Cf)(s:List UInt8)(i v:Int):Cf:={ c with cells:=c.cells.set (E6 0 (Ax n 32) s).toNat ((Xn n c s).set i.toNat (true,v)) }
def Rz(n:Nd)(inp:List Int)(c:Cf)(k:Int)(y:Bool)(x:Nd):DR:=
 if k=1 then(match x.kids with
  |[a]=>if (C9 n c a 0).2.1=0 then(Wk n c x.name (C9 n c a 0).1,0,(C9 n c a 0).2.2,true)else(c,(C9 n c a 0).2.1,(C9 n c a 0).2.2,true)
  |_=>(c,0,0,true))
 else if k=2 then Nx n c x.kids fun i v d=>if Bl i 0 (((Xn n c x.name).length:Int)-1)=true then(Aij n c x.name i v,0,d,true)else(c,1,d,true)
 else if k=3 then(if (inp.length:Int)≤c.used then(c,5,0,true)else({ Wk n c x.name (inp.getD c.used.toNat 0)with used:=c.used+1 },0,0,true))
 else if k=4∨k=5 then Nx n c x.kids fun a b d=>if k=5 then(if Oz x.kind a b=true then(c,0,d,true)else(c,4,0,true))else(c,0,d,Oz x.kind a b==y)
 else(c,0,0,true)
def fIx(es:List Eg)(p:Int):Nat:=es.findIdx fun e=>e.f==p
def I7(n:Nd)(c:Cf):Bool:=(!(c.trap==0))||((c.pt==(((D6 (A9 n)).pts:Nat):Int)-1)||(c.steps==5000))
def Is(n:Nd)(inp:List Int)(c:Cf):Cf:=
 if I7 n c=true then c else
 match Fr c.pt.toNat (Lx (A9 n))with
 |[]=>c
 |e::l=>
  let q:=Rz n inp { c with steps:=c.steps+1 } e.k e.y e.n
  if q.2.1=0 then{ q.1 with pt:=if q.2.2.2=true then e.t else(l.headD e).t }
  else{ q.1 with trap:=q.2.1,edge:=fIx (Lx (A9 n)) c.pt,acc:=if q.2.1=4∨q.2.1=5 then 0 else q.2.2.1 }
structure StK (n:Nd)(c:Cf):Prop where
 vok:VOk n c
 pt:0≤c.pt∧c.pt<(D6 (A9 n)).pts
 used:0≤c.used∧c.used≤100
 steps:0≤c.steps∧c.steps≤5000
 none:c.trap=0→c.edge=0∧c.acc=0
theorem Anh(p:Nat)(e:Eg)(l:List Eg):Fr p (e::l)=if e.f=(p:Int)then e::Fr p l else Fr p l:=by
 unfold Fr;rw[Abo];by_cases h:e.f=(p:Int)
 ·simp[h]
 ·simp[h]
theorem Ahx{p:Nat}:∀{l:List Eg}{k:Nat}{e:Eg}{r:List Eg},Fr p l=e::r→∃i,l[i]?=some e∧(∀j,j<i→∀x,l[j]?=some x→¬x.f=(p:Int))∧e.f=(p:Int)∧fIx l p=i∧We Eg.f p k l=(k+i)::We Eg.f p (k+i+1) (l.drop (i+1))∧Fr p (l.drop (i+1))=r
 |[],k,e,r,h=>by simp[Fr]at h
 |x::l,k,e,r,h=>by
  rw[Anh]at h;by_cases hx:x.f=(p:Int)
  ·rw[if_pos hx]at h;injection h with h1 h2;subst h1;exact⟨0,rfl,fun j hj=>absurd hj (Va _),hx,by simp[fIx,List.findIdx_cons,hx],by simp[We,hx],h2⟩
  ·rw[if_neg hx]at h;obtain⟨i,h1,h2,h3,h4,h5,h6⟩:=Ahx (k:=k+1) h;refine⟨i+1,by simpa using h1,fun j hj y hy=>?_,h3,?_,?_,by simpa using h6⟩
   ·cases j with
    |zero=>simp at hy;subst hy;exact hx
    |succ j=>exact h2 j (by omega) y (by simpa using hy)
   ·unfold fIx at h4⊢;rw[List.findIdx_cons,show (x.f==(p:Int))=false by simpa using hx];simp[h4]
   ·rw[We,if_neg hx,h5];simp only[List.drop_succ_cons];rw[show k+1+i=k+(i+1) by omega]
theorem Ahy{p:Nat}:∀{l:List Eg}{k:Nat},Fr p l=[]→We Eg.f p k l=[]
 |[],k,h=>rfl
 |x::l,k,h=>by
  rw[Anh]at h;by_cases hx:x.f=(p:Int)
  ·rw[if_pos hx]at h;cases h
  ·rw[if_neg hx]at h;rw[We,if_neg hx];exact Ahy h
inductive EdO (es:List Eg)(p:Nat)(i:Nat)(e:Eg):List Eg→Prop
 |one (hi:es[i]?=some e) (hb:∀j,j<i→∀x,es[j]?=some x→¬x.f=(p:Int)) (hf:e.f=(p:Int)) (hx:fIx es p=i) (hl:L3 Eg.f es p=[i]) (hk:¬e.k=4):EdO es p i e []
 |two (j:Nat) (e2:Eg) (hi:es[i]?=some e) (hb:∀j,j<i→∀x,es[j]?=some x→¬x.f=(p:Int)) (hf:e.f=(p:Int)) (hx:fIx es p=i) (hl:L3 Eg.f es p=[i,j]) (hij:i<j) (hj:es[j]?=some e2)
   (hm:∀m,i<m→m<j→∀x,es[m]?=some x→¬x.f=(p:Int))(hk:e.k=4)(h2:e2=⟨p,e2.t,4,!e.y,e.n⟩):EdO es p i e [e2]
theorem Zt{n:Nd}(hr:Fy n=true){p:Nat}(hp:(p:Int)<(D6 (A9 n)).pts-1):∃i e l,Fr p (Lx (A9 n))=e::l∧EdO (Lx (A9 n)) p i e l:=by
 rcases Aw3 (Ai7 hr).1 hp with⟨e,h1,h2⟩|⟨t1,t2,c,h1⟩
 ·obtain⟨i,g1,g2,g3,g4,g5,g6⟩:=Ahx (k:=0) h1;exact⟨i,e,[],h1,.one g1 g2 g3 g4 (by unfold L3;rw[g5,Ahy g6,Jy]) h2⟩
 ·obtain⟨i,g1,g2,g3,g4,g5,g6⟩:=Ahx (k:=0) h1;obtain⟨j,q1,q2,q3,q4,q5,q6⟩:=Ahx (k:=0+i+1) g6;refine⟨i,_,_,h1,.two (i+1+j) ⟨p,t2,4,false,c⟩ g1 g2 g3 g4 (by unfold L3;rw[g5,q5,Ahy q6];simp) (by omega) (by rw[←q1,Nz]) (fun m h2 h3 x hx=>?_) rfl rfl⟩;exact q2 (m-(i+1)) (by omega) x (by rw[Nz,show i+1+(m-(i+1))=m by omega];exact hx)
theorem EdO.first{es:List Eg}{p i:Nat}{e:Eg}{l:List Eg}(h:EdO es p i e l):es[i]?=some e∧(∀j,j<i→∀x,es[j]?=some x→¬x.f=(p:Int))∧e.f=(p:Int)∧fIx es p=i∧∃m,L3 Eg.f es p=i::m:=by
 cases h with
 |one a b c d e f=>exact⟨a,b,c,d,[],e⟩
 |two j e2 a b c d e f g h i k=>exact⟨a,b,c,d,[j],e⟩
theorem A3t{n:Nd}(hr:Fy n=true):∀e,e∈Lx (A9 n)→0≤e.t∧e.t<(D6 (A9 n)).pts:=by
 have h:=Mq (Ai7 hr).1 Cg ⟨1,0,[],[],[],0⟩ (by simp);have h2:=L1 6 Cg h.pt;have h3:=h.trans h2 (Bo _);obtain⟨l,g1,_,g2⟩:=h3.es;have hes:(D6 (A9 n)).es=l:=by unfold D6;rw[g1];rfl
 have hpt:=h3.pt;intro e he;unfold Lx at he;obtain⟨e0,h0,rfl⟩:=zzq66.1 he;rw[hes]at h0;have h4:=(g2 e0 h0).2;unfold D1;have hpt':(D6 (A9 n)).pt<(D6 (A9 n)).pts:=hpt;split
 ·simp only;omega
 ·rcases h4 with h4|h4
  ·omega
  ·exact h4
structure Kept (inp:List Int)(c c':Cf):Prop where
 vars:c'.vars.length=c.vars.length
 cells:c'.cells.length=c.cells.length
 rows:(∀x,x∈c.cells→x.length≤60)→∀x,x∈c'.cells→x.length≤60
 pt:c'.pt=c.pt
 steps:c'.steps=c.steps
 trap:c'.trap=c.trap
 edge:c'.edge=c.edge
 acc:c'.acc=c.acc
 used:c'.used=c.used∨(c.used<inp.length∧c'.used=c.used+1)
theorem Kept.refl(inp:List Int)(c:Cf):Kept inp c c:=⟨rfl,rfl,fun h=>h,rfl,rfl,rfl,rfl,rfl,.inl rfl⟩
theorem Ara(inp:List Int)(n:Nd)(c:Cf)(s:List UInt8)(i v:Int):Kept inp c (Aij n c s i v):=by
 refine⟨rfl,by simp[Aij],fun h x hx=>?_,rfl,rfl,rfl,rfl,rfl,.inl rfl⟩;simp only[Aij]at hx;rcases Wt hx with hx|rfl
 ·exact h x hx
 ·rw[Agm];unfold Xn;rw[Air];cases hr:c.cells[(E6 0 (Ax n 32) s).toNat]? with
  |none=>simp
  |some r=>exact h r (Bh hr)
theorem Ae4{inp:List Int}{n:Nd}{c:Cf}{ks:List Nd}{g:Int→Int→Int→DR}(h:∀a b d,Kept inp c (g a b d).1):Kept inp c (Nx n c ks g).1:=by
 unfold Nx;split
 ·split
  ·split
   ·exact h _ _ _
   ·exact .refl _ _
  ·exact .refl _ _
 ·exact .refl _ _
theorem Ac1(n:Nd)(inp:List Int)(c:Cf)(k:Int)(y:Bool)(x:Nd):Kept inp c (Rz n inp c k y x).1:=by
 unfold Rz;split
 ·split
  ·split
   ·exact⟨by simp[Wk],rfl,fun h=>h,rfl,rfl,rfl,rfl,rfl,.inl rfl⟩
   ·exact .refl _ _
  ·exact .refl _ _
 ·split
  ·refine Ae4 fun a b d=>?_;split
   ·exact Ara inp n c _ _ _
   ·exact .refl _ _
  ·split
   ·split
    ·exact .refl _ _
    ·exact⟨by simp[Wk],rfl,fun h=>h,rfl,rfl,rfl,rfl,rfl,.inr ⟨by omega,rfl⟩⟩
   ·split
    ·refine Ae4 fun a b d=>?_;split
     ·split
      ·exact .refl _ _
      ·exact .refl _ _
     ·exact .refl _ _
    ·exact .refl _ _
theorem U4{n:Nd}{inp:List Int}{c:Cf}(hr:Fy n=true)(h:StK n c)(hi:inp.length≤100):StK n (Is n inp c):=by
 unfold Is;split
 ·exact h
 ·rename_i hs;split
  ·exact h
  ·rename_i e l hF;have hK:=Ac1 n inp { c with steps:=c.steps+1 } e.k e.y e.n;generalize Rz n inp { c with steps:=c.steps+1 } e.k e.y e.n=q at hK;have hst:c.trap=0∧¬c.steps=5000∧¬c.pt=(((D6 (A9 n)).pts:Nat):Int)-1:=by
    unfold I7 at hs;simp only[Pd,Ml,beq_eq_false_iff_ne,zzq54,not_or,ne_eq,Classical.not_not]at hs;exact⟨hs.1,hs.2.2,hs.2.1⟩
   have hv:VOk n q.1:=⟨h.vok.kl,hK.vars.trans h.vok.vars,hK.cells.trans h.vok.cells,hK.rows h.vok.rows⟩
   have hmem:∀x,x∈(e::l)→x∈Lx (A9 n):=fun x hx=>by rw[←hF]at hx;exact(zzq56.1 hx).1
   have hto:∀x,x∈(e::l)→0≤x.t∧x.t<(D6 (A9 n)).pts:=fun x hx=>A3t hr x (hmem x hx);have hu:=hK.used;have hu0:=h.used;have hs0:=h.steps;have hsq:=hK.steps;simp only at hsq;have hn:=h.none hst.1;have hq5:=hK.trap;have hq6:=hK.edge;have hq7:=hK.acc;simp only at hq5 hq6 hq7 hu;have husd:0≤q.1.used∧q.1.used≤100:=by rcases hu with hu|⟨hu,hu2⟩<;>omega
   simp only;split
   ·refine⟨⟨hv.kl,hv.vars,hv.cells,hv.rows⟩,?_,husd,?_,fun _=>?_⟩
    ·simp only;split
     ·exact hto e (by simp)
     ·cases l with
      |nil=>exact hto e (by simp)
      |cons x l=>exact hto x (by simp)
    ·simp only;omega
    ·simp only;omega
   ·rename_i ht;refine⟨⟨hv.kl,hv.vars,hv.cells,hv.rows⟩,?_,husd,?_,fun h0=>absurd h0 ht⟩
    ·have:=hK.pt;simp only at this⊢;rw[this];exact h.pt
    ·simp only;omega
end Go.V
namespace Go.V
open Go
inductive Sh (d:Nat):AV→AV→Prop where
 |val (v:Value):Sh d (.val v) (.val v)
 |junk (x:AV):Sh d x .junk
 |nil (sp:Sp):Sh d (.sl [] sp) (.sl [] .no)
 |pnil (t v:Nat):Sh d (.psl [] t v) (.sl [] .no)
 |bsl (b k:Nat):Sh d (.bsl b k) (.bsl (b+d) k)
 |agg (cs cs':List AV) (hl:cs'.length=cs.length) (hz:∀(j:Nat) (x y:AV),cs[j]?=some x→cs'[j]?=some y→Sh d x y):Sh d (.agg cs) (.agg cs')
 |tup (cs cs':List AV) (hl:cs'.length=cs.length) (hz:∀(j:Nat) (x y:AV),cs[j]?=some x→cs'[j]?=some y→Sh d x y):Sh d (.tup cs) (.tup cs')
theorem Sh.rel{d:Nat}{E1 E':Env}{w:World}{x y:AV}(h:Sh d x y)(hb:∀(b:Nat)(q:Nat×Nat),E1.boxes[b]?=some (some q)→E'.boxes[b+d]?=some (some q)):∀{v:Value},Rel E1 w v x→Rel E' w v y:=by
 induction h with
 |val v=>intro v' hx;cases hx;exact .val _
 |junk x=>intro v hx;exact .junk v
 |nil sp=>
  intro v hx;cases hx with
  |sl _ _ a n cap b o sz vals hn hx ha hsz hm hc hr hs hcap=>
   have h0:n=0:=by simpa using hn.symm
   subst h0;exact .sl [] .no a 0 cap b o sz vals rfl hx (fun h=>absurd rfl h) (fun r hr=>by cases hr) (fun i j hi=>by omega) (fun i j hi=>by omega) (fun i j r x hi=>by simp at hi) trivial hcap
 |pnil t ver=>
  intro v hx;cases hx with
  |psl _ _ _ a n cap k sz vals hn hx hcap hk hv hsz hp hr hf=>
   have h0:n=0:=by simpa using hn.symm
   subst h0;exact .sl [] .no a 0 cap 0 0 sz vals rfl hx (fun h=>absurd rfl h) (fun r hr=>by cases hr) (fun i j hi=>by omega) (fun i j hi=>by omega) (fun i j r x hi=>by simp at hi) trivial hcap
 |bsl b k=>
  intro v hx;cases hx with
  |bsl _ blk sz _ cap h hc=>exact .bsl _ blk sz k cap (hb b _ h) hc
 |agg cs cs' hl hz ih=>
  intro v hx;cases hx with
  |agg vs _ hl' hr=>
   refine .agg vs cs' (by omega) (fun j v y hv hy=>?_);obtain⟨x,hx⟩:=Ab cs (i:=j) (by have:=Aa hy;omega);exact ih j x y hx hy (hr j v x hv hx)
 |tup cs cs' hl hz ih=>
  intro v hx;cases hx with
  |tup vs _ hl' hr=>
   refine .tup vs cs' (by omega) (fun j v y hv hy=>?_);obtain⟨x,hx⟩:=Ab cs (i:=j) (by have:=Aa hy;omega);exact ih j x y hx hy (hr j v x hv hx)
inductive ShL (d:Nat):List AV→List AV→Prop where
 |nil:ShL d [] []
 |cons {x y:AV} {l l':List AV} (h:Sh d x y) (t:ShL d l l'):ShL d (x::l) (y::l')
theorem ShL.get{d:Nat}{l l':List AV}(h:ShL d l l'):l'.length=l.length∧∀(j:Nat)(x y:AV),l[j]?=some x→l'[j]?=some y→Sh d x y:=by
 induction h with
 |nil=>exact⟨rfl,fun j x y h=>by simp at h⟩
 |cons h t ih=>
  refine⟨by simp[ih.1],fun j x y hx hy=>?_⟩;cases j with
  |zero=>simp at hx hy;subst hx;subst hy;exact h
  |succ j=>exact ih.2 j x y (by simpa using hx) (by simpa using hy)
theorem Sh.aggL{d:Nat}{l l':List AV}(h:ShL d l l'):Sh d (.agg l) (.agg l'):=.agg l l' h.get.1 h.get.2
def ShR(d:Nat)(r r':List (List AV)):Prop:=r'.length=r.length∧∀(i:Nat)(x y:List AV),r[i]?=some x→r'[i]?=some y→ShL d x y
def ShB(d:Nat)(b b':List (List (List AV))):Prop:=b'.length=b.length∧∀(i:Nat)(x y:List (List AV)),b[i]?=some x→b'[i]?=some y→ShR d x y
section
variable {X:Cx}{B:Bx}{E E1:Env}{S S1:St}{w w':World}{F:C5}{a:Act}{N:Nat}{R:AE→St→Prop}{ops:Array Oper}{i:Nat}{o:Oper}
def Env.lent(E:Env):Env:=⟨[],[],E.fr,[]⟩
theorem N4{b:Nat}:¬E.lent.own b:=fun h=>by
 rcases h with⟨i,s,h⟩|⟨t,l,c,s,h⟩<;>simp[Env.lent]at h
theorem Aiv{b o:Nat}(h:E.lent.mt b o):E.fr b o:=by
 rcases h with h|⟨i,s,h⟩|⟨t,l,c,s,h,_⟩
 ·exact h
 ·simp[Env.lent]at h
 ·simp[Env.lent]at h
theorem Inv.lent(hI:Inv X E S w):Inv X E.lent ⟨[],[]⟩ w where
 nb:=rfl
 nt:=rfl
 np i hi:=by simp[Env.lent]at hi
 box i b sz rows h:=by simp[Env.lent]at h
 tok t l b c sz h:=by simp[Env.lent]at h
 bb i j b s s' h:=by simp[Env.lent]at h
 bt i t b s l c sz h:=by simp[Env.lent]at h
 tt i j b l c s l' c' s' h:=by simp[Env.lent]at h
 frlt b o h:=⟨N4,(hI.frlt b o h).2⟩
 lo b h:=absurd h N4
 frlo:=hI.frlo
 sz:=hI.sz
 glob:=hI.glob
theorem Fz.lent(hI:Inv X E S w){x y:AV}(h:Fz S 0 0 x y){v:Value}(hx:Rel E w v x):Rel E.lent w v y:=by
 have h1:=h.rel hI hx;have h2:=h1.ok;refine h1.env (by simpa[Env.drop]using h2) fun b o h=>.inl (Aiv h)
def Env.gain(E E1:Env):Env:=⟨E.boxes++E1.boxes,E.toks,E.fr,E.df⟩
theorem Qm{j:Nat}{q:Nat×Nat}(h:(E.gain E1).boxes[j]?=some (some q)):E.boxes[j]?=some (some q)∨(E.boxes.length≤j∧E1.boxes[j-E.boxes.length]?=some (some q)):=by
 simp only[Env.gain]at h;rcases Gs j E.boxes.length with hj|hj
 ·rw[Cs hj]at h;exact .inl h
 ·rw[Gk hj]at h;exact .inr ⟨hj,h⟩
theorem Ac7(hI:Inv X E S w)(hI1:Inv X E1 S1 w')(ev:Evol E.lent w E1 w' 0 0){bx:List (List (List AV))}(hsh:ShB E.boxes.length S1.boxes bx) :
 Evol E w (E.gain E1) w' E.boxes.length E.toks.length∧Inv X (E.gain E1) ⟨S.boxes++bx,S.toks⟩ w':=by
 have hfar:∀{b:Nat},b<w.heap.size→w'.heap[b]?=w.heap[b]?:=fun{b} h=>ev.block b h N4;have hge:∀{b j s:Nat},E1.boxes[j]?=some (some (b,s))→w.heap.size≤b:=fun{b j s} h=>by
  rcases Gs b w.heap.size with h'|h'
  ·exact absurd (ev.own b h' (.inl ⟨j,s,h⟩)) N4
  ·exact h'
 have hownx:∀{b:Nat},(E.gain E1).own b→E.own b∨∃j s,E1.boxes[j]?=some (some (b,s)):=fun{b} h=>by
  rcases h with⟨j,s,h⟩|h
  ·rcases Qm h with h|⟨_,h⟩
   ·exact .inl (.inl ⟨j,s,h⟩)
   ·exact .inr ⟨_,s,h⟩
  ·exact .inl (.inr h)
 have ev2:Evol E w (E.gain E1) w' E.boxes.length E.toks.length:=by
  refine⟨rfl,fun j hj hl=>⟨by simp[Env.gain];omega,fun x hx=>by simp only[Env.gain];rw[Cs hl];exact hx⟩,fun t ht k hk=>⟨k,hk,.inl rfl⟩,ev.os,ev.tape,ev.output,ev.size,fun b hb _=>hfar hb,
   fun b o v hm hc=>?_,fun b o hb h=>?_,fun b hb h=>?_,rfl,ev.ty,fun _ _ _ b _ _ _ _ o ho=>by rw[hfar (N7 ho)];exact ho⟩
  ·have hb:=J3 hc;unfold World.cell? at hc⊢;rw[hfar hb];exact hc
  ·rcases h with h|⟨j,s,h⟩|h
   ·exact .inl h
   ·rcases Qm h with h|⟨_,h⟩
    ·exact .inr (.inl ⟨j,s,h⟩)
    ·have:=hge h;omega
   ·exact .inr (.inr h)
  ·rcases hownx h with h|⟨j,s,h⟩
   ·exact h
   ·have:=hge h;omega
 refine⟨ev2,?_⟩;have hnb:=hI.nb;have hnb1:=hI1.nb;have hsl:=hsh.1;exact{
  nb:=by simp[Env.gain];omega
  nt:=hI.nt
  np:=fun j hj=>by
   simp only[Env.gain,Ex]at hj⊢;rcases Gs j E.boxes.length with h|h
   ·rw[Cs h];exact hI.np j h
   ·rw[Gk h];exact hI1.np _ (by omega)
  box:=fun j b s rows' h1 h2=>by
   simp only at h2;rcases Qm h1 with h1|⟨hj,h1⟩
   ·have:=Aa h1;rw[Cs (by omega)]at h2;obtain⟨cs',e',hh',hs',hl',hr'⟩:=hI.box j b s rows' h1 h2;exact⟨cs',e',(hfar (hI.own_lt (.inl ⟨j,s,h1⟩))).trans hh',hs',hl',fun k r q x v h3 h4 h5=>(hr' k r q x v h3 h4 h5).step ev2⟩
   ·rw[Gk (by omega),←hnb]at h2;obtain⟨rows,hrw⟩:=Ab S1.boxes (i:=j-E.boxes.length) (by have:=Aa h1;omega);obtain⟨cs,e,hh,hs,hl,hr⟩:=hI1.box _ b s rows h1 hrw;obtain⟨hrl,hrr⟩:=hsh.2 _ _ _ hrw h2;refine⟨cs,e,hh,by rw[hrl];exact hs,fun r hr'=>?_,fun k r q x v h3 h4 h5=>?_⟩
    ·obtain⟨k,hk⟩:=Bs hr';obtain⟨r0,hr0⟩:=Ab rows (i:=k) (by have:=Aa hk;omega);rw[(hrr k r0 r hr0 hk).get.1];exact hl r0 (Bh hr0)
    ·obtain⟨r0,hr0⟩:=Ab rows (i:=k) (by have:=Aa h3;omega);have hrl2:=(hrr k r0 r hr0 h3).get;obtain⟨x0,hx0⟩:=Ab r0 (i:=q) (by have:=Aa h4;omega);refine(hrl2.2 q x0 x hx0 h4).rel (fun b' q' hb'=>?_) (hr k r0 q x0 v hr0 hx0 h5);simp only[Env.gain];rw[Gk (by omega)];simpa using hb'
  tok:=fun t l b c s h=>by
   obtain⟨h1,h0,cs,e,hh,hs⟩:=hI.tok t l b c s h;exact⟨h1,h0,cs,e,(hfar (hI.own_lt (.inr ⟨t,l,c,s,h⟩))).trans hh,hs⟩
  bb:=fun i j b s s' h1 h2=>by
   rcases Qm h1 with h1|⟨hi,h1⟩<;>rcases Qm h2 with h2|⟨hj,h2⟩
   ·exact hI.bb i j b s s' h1 h2
   ·have:=hge h2;have:=hI.own_lt (.inl ⟨i,s,h1⟩);omega
   ·have:=hge h1;have:=hI.own_lt (.inl ⟨j,s',h2⟩);omega
   ·have:=hI1.bb _ _ b s s' h1 h2;omega
  bt:=fun i t b s l c sz' h1 h2=>by
   rcases Qm h1 with h1|⟨hi,h1⟩
   ·exact hI.bt i t b s l c sz' h1 h2
   ·have:=hge h1;have:=hI.own_lt (.inr ⟨t,l,c,sz',h2⟩);omega
  tt:=hI.tt
  frlt:=fun b o h=>⟨fun h'=>by
   rcases hownx h' with h'|⟨j,s,h'⟩
   ·exact(hI.frlt b o h).1 h'
   ·have:=(hI.frlt b o h).2;have:=hge h';omega,Mz (hI.frlt b o h).2 ev.size⟩
  lo:=fun b h=>by
   rcases hownx h with h|⟨j,s,h⟩
   ·exact hI.lo b h
   ·exact hI1.lo b (.inl ⟨j,s,h⟩)
  frlo:=hI.frlo
  sz:=hI1.sz
  glob:=hI1.glob }
def Gives(X:Cx)(f:FuncId)(args:List AV)(P:AV→List (List (List AV))→Prop):Prop:=
 Nr X.P f∧ACalls X f args ⟨[],[]⟩ fun e S'=>∃r,e=.ret r∧P r S'.boxes
theorem Gives.mk{f:FuncId}{fn:Func}{c:Code}{args:List AV}{P:AV→List (List (List AV))→Prop}(hf:X.P.funcs[f]?=some fn)(hb:fn.body=some c)(hl:Nat.ble args.length fn.ntmps=true)(hnm:(fn.name == "runtime.NumGoroutine")=false)
 (h:AK X ⟨f,fn,0,0⟩ [.code c] (Ot 0 args) ⟨[],[]⟩ fun e S'=>∃r,e=.ret r∧P r S'.boxes):Gives X f args P:=
 ⟨⟨fn,hf,hnm,by rw[hb];rfl⟩,Jq (n:=0) (m:=0) (hh:=fun C S' hx=>by obtain⟨r,hx,_⟩:=hx;cases hx) hf hb hl rfl rfl h⟩
theorem Pure.gives{f:FuncId}{args:List AV}{r:AV}(h:Pure X f args r):Gives X f args fun r' bx=>r'=r∧bx=[]:=
 ⟨h.1,fun E w vs h1 h2 h3 h4=>(h.2 E w vs h1 h2 h3 h4).mono fun e w' ⟨E',S',g1,g2,g3⟩=>⟨E',S',g1,g2,by
   cases e with
   |returned v=>obtain⟨r',h1,h2,rfl⟩:=g3;cases h2;exact⟨_,h1,_,rfl,rfl,rfl⟩
   |panicked ch=>obtain⟨h,_⟩:=g3;cases h
   |outgrown=>exact g3⟩⟩
theorem Ack{c:Call}{fo:Operand}{f:FuncId}{caps xs zs ys:List AV}{P:AV→List (List (List AV))→Prop}{F':C5}(hc:Gives X f ys P)(hl:∀t,t∈o.looksAt ops→lk F' t=lk F t)(hI:Inv X E S w)(hF:FR E w F' a N)
 (ho:ops[i]?=some o)(hw:A8 ops F o=some true)(hop:o.op=.call c)(hcal:c.callee=.value fo)(hfo:Dw X F fo=some (.fn f caps))(hx:Hm X F c.args.toList=some xs)(hzs:Kg xs caps=some zs)(ha:FzL S 0 0 zs ys) :
 Does X ops i a w fun v w'=>∃r E1 S1,P r S1.boxes∧Inv X E1 S1 w'∧Evol E.lent w E1 w' 0 0∧Rel E1 w' v r:=by
 obtain⟨l1,l2⟩:=Ru (X:=X) hop hcal hl;have hz:=Rv hzs;obtain⟨vs,h1,h2,h3⟩:=Qh hop hcal hc.1 hI hF (l1.trans hfo) (l2.trans hx);refine Does.call ho (Cr hF (by rw[C6 hl];exact hw)) h1 ((hc.2 E.lent w vs rfl hI.lent (by rw[h2,hz,ha.get.1]) (fun j v y hv hy=>?_)).mono fun e w' he=>?_)
 ·obtain⟨x,hxj⟩:=Ab zs (i:=j) (by have:=Aa hy;rw[ha.get.1]at this;exact this);exact(ha.get.2 j x y hxj hy).lent hI (h3 j v x hv (by rw[hz];exact hxj))
 ·obtain⟨E1,S1,d1,d2,d3⟩:=he;cases e with
  |returned v=>
   obtain⟨r',hr',r,hre,hP⟩:=d3;cases hre;exact⟨v,rfl,_,E1,S1,hP,d1,d2,hr'⟩
  |panicked ch=>obtain⟨r,h,_⟩:=d3;cases h
  |outgrown=>exact d3.elim
theorem A0m{c:Call}{fo:Operand}{f:FuncId}{caps xs zs ys:List AV}{r r':AV}{bx bx':List (List (List AV))}(hc:Gives X f ys fun r0 b0=>r0=r∧b0=bx)(ha:FzL S 0 0 zs ys)(hr:Sh S.boxes.length r r')(hb:ShB S.boxes.length bx bx')
 (ho:ops[i]?=some o:=by rfl)(hw:A8 ops F o=some true:=by rfl)(hop:o.op=.call c:=by rfl)(hcal:c.callee=.value fo:=by rfl)(hfo:Dw X F fo=some (.fn f caps):=by rfl)(hx:Hm X F c.args.toList=some xs:=by rfl)(hzs:Kg xs caps=some zs:=by rfl) :
 Ndo X N ops i o F r' S ⟨S.boxes++bx',S.toks⟩:=by
 intro F' E w a hl hI hF;obtain hd:=Ack hc hl hI hF ho hw hop hcal hfo hx hzs ha;intro b k cs rest;obtain⟨v,w',⟨r0,E1,S1,⟨rfl,rfl⟩,d1,d2,d3⟩,hst⟩:=hd b k cs rest;have nb:=hI.nb;obtain⟨g1,g2⟩:=Ac7 hI d1 d2 (by rw[nb];exact hb);refine⟨v,w',⟨_,g2,g1,hr.rel (fun b' q hq=>?_) d3⟩,hst⟩;simp only[Env.gain];rw[Gk (by omega)];rw[←nb,Ad8];exact hq
theorem Rr{c:Call}{fo:Operand}{f:FuncId}{caps xs zs ys:List AV}{r r':AV}(hc:Pure X f ys r)(ha:FzL S 0 0 zs ys)(hr:Sh S.boxes.length r r')
 (ho:ops[i]?=some o:=by rfl)(hw:A8 ops F o=some true:=by rfl)(hop:o.op=.call c:=by rfl)(hcal:c.callee=.value fo:=by rfl)(hfo:Dw X F fo=some (.fn f caps):=by rfl)(hx:Hm X F c.args.toList=some xs:=by rfl)(hzs:Kg xs caps=some zs:=by rfl) :
 Ndo X N ops i o F r' S S:=by
 have h:=A0m (X:=X) (N:=N) (F:=F) (S:=S) (i:=i) (bx:=[]) (bx':=[]) hc.gives ha hr ⟨rfl,fun i x y hx=>by simp at hx⟩ ho hw hop hcal hfo hx hzs;rw[H0]at h;exact h
theorem Te{l:List Nat}{k:List Item}{c:Call}{fo:Operand}{f:FuncId}{caps xs zs ys:List AV}{P:AV→List (List (List AV))→Prop}(hc:Gives X f ys P)(ha:FzL S 0 0 zs ys)
 (hk:∀r bx,P r bx→∃r' bx',Sh S.boxes.length r r'∧ShB S.boxes.length bx bx'∧AK X B (.inRegion ops l::k) (putF o.dst r' F) ⟨S.boxes++bx',S.toks⟩ R)(ho:ops[i]?=some o:=by rfl)(hw:A8 ops F o=some true:=by rfl)(hop:o.op=.call c:=by rfl)
 (hcal:c.callee=.value fo:=by rfl)(hfo:Dw X F fo=some (.fn f caps):=by rfl)(hx:Hm X F c.args.toList=some xs:=by rfl)(hzs:Kg xs caps=some zs:=by rfl)(hd:D3 B.fn.ntmps o.dst=true:=by rfl) :
 AK X B (.inRegion ops (i::l)::k) F S R:=by
 intro E w a b cs hI hF hn hm hb;have nt:E.toks.length=S.toks.length:=by rw[←hI.nt];simp
 have nb:=hI.nb;obtain⟨v,w',⟨r0,E1,S1,hP,d1,d2,d3⟩,hst⟩:=Ack (F':=F) hc (fun _ _=>rfl) hI hF ho hw hop hcal hfo hx hzs ha b k cs l;obtain⟨r',bx',hr,hbx,hK⟩:=hk _ _ hP;obtain⟨g1,g2⟩:=Ac7 hI d1 d2 (by rw[nb];exact hbx);have hF':=(hF.step g1).putF hd (hr.rel (E':=E.gain E1) (fun b' q hq=>by
  simp only[Env.gain];rw[Gk (by omega)];rw[←nb,Ad8];exact hq) d3)
 rw[ho]at hst;exact Fin.from hst (g1.weaken (by rw[hI.nb];exact hn) (by omega)) (hK _ w' _ b cs g2 hF' (by simp;omega) hm hb)
end
section
variable {X:Cx}{B:Bx}{E E1:Env}{S S1:St}{w w':World}{F:C5}{a:Act}{N:Nat}{R:AE→St→Prop}{ops:Array Oper}{i:Nat}{o:Oper}
def Y0(m sz:Nat):List (List AV):=List.replicate m (List.replicate sz .junk)
theorem Ard(m sz:Nat):∀r,r∈Y0 m sz→r.length=sz:=fun r h=>by rw[Abk h,List.length_replicate]
theorem Auh(hI:Inv X E S w){u:Value}{rows:List (List AV)}{t v:Nat}(h:Rel E w u (.psl rows t v))(hS:S.toks[t]?=some v)(hne:rows≠[]) :
 ∃b c sz,E.toks[t]?=some ⟨v,some (b,c,0)⟩∧u=.slice (some ⟨b,0,none⟩) rows.length c∧rows.length≤c∧Agt E w b sz (rows++Y0 (c-rows.length) sz):=by
 cases h with
 |psl _ _ _ a n cap k sz vals hn hx hcap hk hv hsz hp hr hf=>
  have hcur:=Y5 hI hk hS;have hp:=hp hcur;obtain⟨kl,ksp⟩:=k;simp only at hcur;subst hcur;subst hn;cases ksp with
  |none=>exact absurd (zzq94.1 hp.1) hne
  |some q=>
   obtain⟨b,c,s⟩:=q;obtain⟨_,rfl,rfl,rfl,cs,e,hh,hcs,hcl⟩:=hp;refine⟨b,c,sz,hk,rfl,hcap,cs,e,hh,by rw[hcs,Ex,Y0,List.length_replicate];congr 1;omega,fun r hr'=>?_,fun k r j x v' hk' hj hv'=>?_⟩
   ·rcases zzq45.1 hr' with h|h
    ·exact hsz r h
    ·exact Ard _ _ r h
   ·rcases Gs k rows.length with hlt|hge
    ·rw[Cs hlt]at hk';have hjl:j<sz:=by rw[←hsz r (Bh hk')];exact Aa hj
     have:=hcl k j (Aa hk') hjl;rw[this]at hv';cases hv';exact hr k j r x hk' hj
    ·rw[Gk hge]at hk';rw[Abk (Bh hk')]at hj;rw[Abk (Bh hj)];exact .junk v'
def Env.box1(E:Env)(t v b sz:Nat):Env:=⟨E.boxes++[some (b,sz)],E.toks.set t ⟨v+1,none⟩,E.fr,E.df⟩
theorem Aom(hI:Inv X E S w){u:Value}{rows:List (List AV)}{t v:Nat}(h:Rel E w u (.psl rows t v))(hS:S.toks[t]?=some v)(hne:rows≠[]) :
 ∃E' m sz,Evol E w E' w E.boxes.length E.toks.length∧Inv X E' ⟨S.boxes++[rows++Y0 m sz],S.toks.set t (v+1)⟩ w∧(E'.boxes.take E.boxes.length=E.boxes)∧∀u',Rel E w u' (.psl rows t v)→Rel E' w u' (.bsl S.boxes.length rows.length):=by
 obtain⟨b,c,sz,hk,_,_,hbx⟩:=Auh hI h hS hne;have nb:=hI.nb;have hmtx:∀{b' o:Nat},(E.box1 t v b sz).mt b' o→E.mt b' o:=fun{b' o} h=>by
  rcases h with h|⟨j,s,h⟩|⟨t',l,c',s,h,hl⟩
  ·exact .inl h
  ·rcases getElem?_snoc h with h|⟨_,h⟩
   ·exact .inr (.inl ⟨j,s,h⟩)
   ·cases h;exact .inr (.inr ⟨t,v,c,0,hk,by omega⟩)
  ·rcases Eu h with⟨_,h⟩|⟨_,h⟩
   ·cases h
   ·exact .inr (.inr ⟨t',l,c',s,h,hl⟩)
 have hownx:∀{b':Nat},(E.box1 t v b sz).own b'→E.own b':=fun{b'} h=>by
  rcases h with⟨j,s,h⟩|⟨t',l,c',s,h⟩
  ·rcases getElem?_snoc h with h|⟨_,h⟩
   ·exact .inl ⟨j,s,h⟩
   ·cases h;exact .inr ⟨t,v,c,0,hk⟩
  ·rcases Eu h with⟨_,h⟩|⟨_,h⟩
   ·cases h
   ·exact .inr ⟨t',l,c',s,h⟩
 have ev:Evol E w (E.box1 t v b sz) w E.boxes.length E.toks.length:=by
  refine⟨rfl,fun j hj hl=>⟨by simp[Env.box1];omega,fun x hx=>getElem?_snoc_left hx⟩,fun t' ht k hk'=>?_,rfl,rfl,rfl,Bo _,fun _ _ _=>rfl,fun _ _ _ _ h=>h,fun _ _ _ h=>hmtx h,fun _ _ h=>hownx h,rfl,fun _ _ h=>h,fun _ _ _ _ _ _ _ _ _ h=>h⟩;by_cases he:t'=t
  ·subst he;rw[hk]at hk';cases hk';exact⟨⟨v+1,none⟩,by simp[Env.box1,ht],.inr (by simp)⟩
  ·exact⟨k,by simp only[Env.box1];rw[Fq (Ne.symm he)];exact hk',.inl rfl⟩
 have hbx':∀{b' s:Nat} {rows':List (List AV)},Agt E w b' s rows'→Agt (E.box1 t v b sz) w b' s rows':=fun{b' s rows'} ⟨cs,e,h1,h2,h3,h4⟩=>⟨cs,e,h1,h2,h3,fun k r j x v' g1 g2 g3=>(h4 k r j x v' g1 g2 g3).step ev⟩
 refine⟨E.box1 t v b sz,c-rows.length,sz,ev,?_,by simp[Env.box1],fun u' hu'=>?_⟩
 ·exact{
   nb:=by simp[Env.box1,nb]
   nt:=by simp only[Env.box1,Zc,hI.nt]
   np:=fun j hj=>by
    simp only[Env.box1,Ex,Za]at hj⊢;rcases Gs j E.boxes.length with h|h
    ·rw[Cs h];exact hI.np j h
    ·have:j=E.boxes.length:=by omega
     subst this;exact⟨_,getElem?_snoc_new _ _⟩
   box:=fun j b' s rows' h1 h2=>by
    rcases getElem?_snoc h1 with h1|⟨hj,h1⟩
    ·rcases getElem?_snoc h2 with h2|⟨hj,_⟩
     ·exact hbx' (hI.box j b' s rows' h1 h2)
     ·have:=Aa h1;omega
    ·cases h1;rcases getElem?_snoc h2 with h2|⟨_,h2⟩
     ·have:=Aa h2;omega
     ·subst h2;exact hbx' hbx
   tok:=fun t' l b' c' s h=>by
    rcases Eu h with⟨_,h⟩|⟨_,h⟩
    ·cases h
    ·exact hI.tok t' l b' c' s h
   bb:=fun i j b' s s' h1 h2=>by
    rcases getElem?_snoc h1 with h1|⟨hi,h1⟩<;>rcases getElem?_snoc h2 with h2|⟨hj,h2⟩
    ·exact hI.bb i j b' s s' h1 h2
    ·cases h2;exact(hI.bt _ _ _ _ _ _ _ h1 hk).elim
    ·cases h1;exact(hI.bt _ _ _ _ _ _ _ h2 hk).elim
    ·omega
   bt:=fun i t' b' s l c' s' h1 h2=>by
    rcases Eu h2 with⟨_,h2⟩|⟨ht,h2⟩
    ·cases h2
    ·rcases getElem?_snoc h1 with h1|⟨hi,h1⟩
     ·exact hI.bt i t' b' s l c' s' h1 h2
     ·cases h1;exact ht (hI.tt _ _ _ _ _ _ _ _ _ h2 hk)
   tt:=fun i j b' l c' s l' c'' s' h1 h2=>by
    rcases Eu h1 with⟨_,h1⟩|⟨_,h1⟩
    ·cases h1
    ·rcases Eu h2 with⟨_,h2⟩|⟨_,h2⟩
     ·cases h2
     ·exact hI.tt i j b' l c' s l' c'' s' h1 h2
   frlt:=fun b' o h=>⟨fun h'=>(hI.frlt b' o h).1 (hownx h'),(hI.frlt b' o h).2⟩
   lo:=fun b' h=>hI.lo b' (hownx h)
   frlo:=hI.frlo
   sz:=hI.sz
   glob:=hI.glob }
 ·obtain⟨b2,c2,s2,hk2,rfl,hc2,_⟩:=Auh hI hu' hS hne;rw[hk]at hk2;cases hk2;exact .bsl _ b sz _ c (by rw[←nb];exact getElem?_snoc_new _ _) hc2
theorem A0i{K:List Item}(d:Nat){rows:List (List AV)}{t v m n:Nat}{tk:List Nat}(hne:rows≠[])(hk:∀k sz,AK X B K ((d,.bsl m n)::F) ⟨S.boxes++[rows++Y0 k sz],tk⟩ R)(hd:lk F d=some (.psl rows t v):=by rfl)(hS:S.toks[t]?=some v:=by rfl)
 (hm:S.boxes.length=m:=by rfl)(hn:rows.length=n:=by rfl)(htk:S.toks.set t (v+1)=tk:=by rfl):AK X B K F S R:=by
 subst hm;subst hn;subst htk;intro E w a b cs hI hF hn hm hb;obtain⟨u,hu,hr⟩:=hF.rel d _ hd;obtain⟨E',k0,z0,ev,hI',_,hrel⟩:=Aom hI hr hS hne;have nt:E.toks.length=S.toks.length:=by rw[←hI.nt];simp
 have hF':FR E' w ((d,.bsl S.boxes.length rows.length)::F) a B.fn.ntmps:=by
  have h0:=hF.step ev;refine⟨h0.size,h0.nod,fun k x hx=>?_⟩;rw[J7]at hx;split at hx
  ·rename_i hdk;cases hx;subst hdk;exact⟨u,hu,hrel u hr⟩
  ·exact h0.rel k x hx
 exact Fin.from (Steps.refl _ _) (ev.weaken (by rw[hI.nb];exact hn) (by omega)) (hk k0 z0 E' w a b cs hI' hF' (by simp;omega) (by simp;omega) hb)
theorem Av1{K:List Item}(b r j:Nat){brows:List (List AV)}{cs:List AV}{rows:List (List AV)}{t v m n:Nat}{bx:List (List (List AV))}{tk:List Nat}(hne:rows≠[])(hk:∀k sz,AK X B K F ⟨bx++[rows++Y0 k sz],tk⟩ R)(hb:S.boxes[b]?=some brows:=by rfl)(hr:brows[r]?=some cs:=by rfl)
 (hc:cs[j]?=some (.psl rows t v):=by rfl)(hS:S.toks[t]?=some v:=by rfl)(hm:S.boxes.length=m:=by rfl)(hn:rows.length=n:=by rfl)(hbx:S.boxes.set b (brows.set r (cs.set j (.bsl m n)))=bx:=by rfl)(htk:S.toks.set t (v+1)=tk:=by rfl) :
 AK X B K F S R:=by
 subst hm;subst hn;subst hbx;subst htk;intro E w a b' cs' hI hF hn hm hb';have hbl:=Aa hb;have nb:=hI.nb;obtain⟨⟨blk,sz⟩,hB⟩:=hI.np b (by omega);obtain⟨arr,e,hh,hs,hl,hrel0⟩:=hI.box b blk sz brows hB hb;have hrl:=Aa hr;have hjl:j<sz:=by rw[←hl cs (Bh hr)];exact Aa hc
 have hin:=I6 (sz:=sz) hrl hjl;obtain⟨u,hu⟩:=Kw arr (i:=r*sz+j) (by omega);have hur:=hrel0 r cs j _ u hr hc hu;obtain⟨E',k0,z0,ev,hI',hpre,hrel⟩:=Aom hI hur hS hne;have nt:E.toks.length=S.toks.length:=by rw[←hI.nt];simp
 have hI2:Inv X E' ⟨S.boxes.set b (brows.set r (cs.set j (.bsl S.boxes.length rows.length)))++[rows++Y0 k0 z0],S.toks.set t (v+1)⟩ w:=
  { hI' with
    nb:=by have:=hI'.nb;simpa using this
    box:=fun i blk' sz' rows' h1 h2=>by
     rcases Gs i S.boxes.length with hi|hi
     ·rw[Cs (by simpa using hi)]at h2;rcases Eu h2 with⟨rfl,rfl⟩|⟨_,h2⟩
      ·have h3:=hI'.box i blk' sz' brows h1 (by rw[Cs hi];exact hb);have h1o:E.boxes[i]?=some (some (blk',sz')):=by
        rw[←hpre,Mb,if_pos (by omega)];exact h1
       rw[hB]at h1o;cases h1o;obtain⟨arr1,e1,g1,g2,g3,g4⟩:=h3;rw[hh]at g1;cases g1;refine⟨arr,e,hh,by simpa using g2,fun q hq=>?_,fun k q p x v' hk' hp hv=>?_⟩
       ·rcases Wt hq with hq|rfl
        ·exact g3 q hq
        ·simpa using g3 cs (Bh hr)
       ·rcases Eu hk' with⟨rfl,rfl⟩|⟨_,hk'⟩
        ·rcases Eu hp with⟨rfl,rfl⟩|⟨_,hp⟩
         ·rw[hu]at hv;cases hv;exact hrel _ hur
         ·exact g4 k cs p x v' hr hp hv
        ·exact g4 k q p x v' hk' hp hv
      ·exact hI'.box i blk' sz' rows' h1 (by rw[Cs hi];exact h2)
     ·rw[Gk (by simpa using hi)]at h2;exact hI'.box i blk' sz' rows' h1 (by rw[Gk hi];simpa using h2) }
 exact Fin.from (Steps.refl _ _) (ev.weaken (by rw[hI.nb];exact hn) (by omega)) (hk k0 z0 E' w a b' cs' hI2 (hF.step ev) (by simp;omega) (by simp;omega) hb')
def Runs(X:Cx)(f:FuncId)(args:List AV)(S:St)(P:AV→St→Prop):Prop:=
 Nr X.P f∧ACalls X f args S fun e S'=>∃r,e=.ret r∧P r S'
theorem Runs.mk{f:FuncId}{fn:Func}{c:Code}{args:List AV}{P:AV→St→Prop}(hf:X.P.funcs[f]?=some fn)(hb:fn.body=some c)(hl:Nat.ble args.length fn.ntmps=true)(hnm:(fn.name == "runtime.NumGoroutine")=false)
 (h:AK X ⟨f,fn,S.boxes.length,S.toks.length⟩ [.code c] (Ot 0 args) S fun e S'=>∃r,e=.ret r∧P r S'):Runs X f args S P:=
 ⟨⟨fn,hf,hnm,by rw[hb];rfl⟩,Jq (n:=S.boxes.length) (m:=S.toks.length) (hh:=fun C S' hx=>by obtain⟨r,hx,_⟩:=hx;cases hx) hf hb hl rfl rfl h⟩
def Env.all_(E:Env):Env:=⟨E.boxes,E.toks,E.fr,[]⟩
theorem Rel.df{E E':Env}{v:Value}{x:AV}(h:Rel E w v x)(hb:E'.boxes=E.boxes)(ht:E'.toks=E.toks)(hf:E'.fr=E.fr):Rel E' w v x:=by
 refine h.move (n:=E.boxes.length) (m:=E.toks.length) (fun i _ hi=>by rw[hb];exact⟨hi,fun x h=>h⟩) (fun t _ k hk=>⟨k,by rw[ht];exact hk,.inl rfl⟩) (fun _ _ _ _ h=>h) (fun b o _ h=>?_) (fun _ _ h=>h) (fun _ _ _ _ _ _ _ _ _ h=>h) h.ok;unfold Env.mt at h⊢;rw[hb,ht,hf]at h;exact h
theorem Inv.df{E':Env}(h:Inv X E S w)(hb:E'.boxes=E.boxes)(ht:E'.toks=E.toks)(hf:E'.fr=E.fr):Inv X E' S w where
 nb:=by rw[hb];exact h.nb
 nt:=by rw[ht];exact h.nt
 np:=by rw[hb];exact h.np
 box i b sz rows h1 h2:=by
  rw[hb]at h1;obtain⟨cs,e,g1,g2,g3,g4⟩:=h.box i b sz rows h1 h2;exact⟨cs,e,g1,g2,g3,fun k r j x v a1 a2 a3=>(g4 k r j x v a1 a2 a3).df hb ht hf⟩
 tok:=by rw[ht];exact h.tok
 bb:=by rw[hb];exact h.bb
 bt:=by rw[hb,ht];exact h.bt
 tt:=by rw[ht];exact h.tt
 frlt b o g:=by
  have:=h.frlt b o (by rw[←hf];exact g);unfold Env.own at this⊢;rw[hb,ht];exact this
 lo b g:=h.lo b (by unfold Env.own at g⊢;rw[←hb,←ht];exact g)
 frlo b o g:=h.frlo b o (by rw[←hf];exact g)
 sz:=h.sz
 glob:=h.glob
theorem G3{l:List Nat}{k:List Item}{c:Call}{fo:Operand}{f:FuncId}{caps xs zs:List AV}{P:AV→St→Prop}(hc:Runs X f zs S P)(hk:∀r S',P r S'→S.boxes.length≤S'.boxes.length→S.toks.length≤S'.toks.length→AK X B (.inRegion ops l::k) (putF o.dst r F) S' R)
 (ho:ops[i]?=some o:=by rfl)(hw:A8 ops F o=some true:=by rfl)(hop:o.op=.call c:=by rfl)
 (hcal:c.callee=.value fo:=by rfl)(hfo:Dw X F fo=some (.fn f caps):=by rfl)(hx:Hm X F c.args.toList=some xs:=by rfl)(hzs:Kg xs caps=some zs:=by rfl)(hd:D3 B.fn.ntmps o.dst=true:=by rfl) :
 AK X B (.inRegion ops (i::l)::k) F S R:=by
 intro E w a b cs hI hF hn hm hb;have nt:E.toks.length=S.toks.length:=by rw[←hI.nt];simp
 have nb:=hI.nb;have hz:=Rv hzs;obtain⟨vs,h1,h2,h3⟩:=Qh hop hcal hc.1 hI hF hfo hx;have hdo:Does X ops i a w fun v w'=>∃r E' S',P r S'∧Inv X E' S' w'∧Evol E w E' w' E.boxes.length E.toks.length∧Rel E' w' v r:=by
  refine Does.call ho (Cr hF hw) h1 ((hc.2 E.all_ w vs rfl (hI.df rfl rfl rfl) (by rw[h2,hz]) (fun j v y hv hy=>?_)).mono fun e w' he=>?_)
  ·exact(h3 j v y hv (by rw[hz];exact hy)).df rfl rfl rfl
  ·obtain⟨E1,S1,d1,d2,d3⟩:=he;cases e with
   |returned v=>
    obtain⟨r',hr',r,hre,hP⟩:=d3;cases hre;have ev:Evol E w ⟨E1.boxes,E1.toks,E1.fr,E.df⟩ w' E.boxes.length E.toks.length:=by
     have d2':=d2;rw[←nb,←nt]at d2';exact{ d2' with df:=rfl }
    exact⟨v,rfl,_,⟨E1.boxes,E1.toks,E1.fr,E.df⟩,S1,hP,d1.df rfl rfl rfl,ev,hr'.df rfl rfl rfl⟩
   |panicked ch=>obtain⟨r,h,_⟩:=d3;cases h
   |outgrown=>exact d3.elim
 obtain⟨v,w',⟨r,E',S',hP,g1,g2,g3⟩,g4⟩:=hdo b k cs l;have hF':=(hF.step g2).putF hd g3;have hlen:=g2.len;have nt':E'.toks.length=S'.toks.length:=by rw[←g1.nt];simp
 have nb':=g1.nb;rw[ho]at g4;exact Fin.from g4 (g2.weaken (by omega) (by omega)) (hk r S' hP (by omega) (by omega) E' w' _ b cs g1 hF' (by omega) (by omega) hb)
end
section
variable {X:Cx}{B:Bx}{S:St}{F:C5}{R:AE→St→Prop}
theorem Io{c:Code}{k:List Item}{ι:Type}(I:ι→Prop)(st:ι→C5)(ss:ι→St)(μ:ι→Nat)
 (hstep:∀i,I i→(∀j,I j→μ j<μ i→∀F' S',Sub (st j) F'→S'=ss j→AK X B (.inLoop c::k) F' S' R)→AK X B (.code c::.inLoop c::k) (st i) (ss i) R)
 (i0:ι)(h0:I i0)(hF:Sub (st i0) F)(hS:S=ss i0):AK X B (.code (.loop c)::k) F S R:=by
 have key:∀(q:Nat) (i:ι),μ i<q→I i→AK X B (.code c::.inLoop c::k) (st i) (ss i) R:=by
  intro q
  induction q with
  |zero=>intro i h;omega
  |succ q ih=>
   intro i h hi;refine hstep i hi fun j hj hlt F' S' h1 h2=>?_;subst h2;exact P7 (Ts h1 (ih j (by omega) hj))
 subst hS;exact N1 (Ts hF (key _ i0 (Aec _) h0))
section
variable {ops:Array Oper}{i:Nat}{o:Oper}{l:List Nat}{k K:List Item}{F':C5}{S2:St}{p q:Operand}
def A42(X:Cx)(F:C5):List Item→Bool
 |.inRegion ops (i::_)::_=>match ops[i]? with
  |some o=>match o.op with
   |.alloc _=>true
   |.box _ _=>true
   |.store _ p _=>match Dw X F p with
    |some (.ptr _ _ _)=>true
    |_=>false
   |.load _ p=>match Dw X F p with
    |some (.ptr _ _ _)=>true
    |_=>false
   |_=>false
  |none=>true
 |_=>false
def ev0(X:Cx)(N:Nat):Nat→List Item→C5→St→List Item×C5×St
 |0,K,F,S=>(K,F,S)
 |n+1,K,F,S=>match A42 X F K with
  |true=>(K,F,S)
  |false=>match Go.V.ev X N 1 K F S with
   |(K',F',S')=>ev0 X N n K' F' S'
theorem Cb{K':List Item}{F':C5}{S':St}:∀(n:Nat){K:List Item}{F:C5}{S:St},ev0 X B.fn.ntmps n K F S=(K',F',S')→AK X B K' F' S' R→AK X B K F S R
 |0,K,F,S,h,hk=>by simp only[ev0]at h;cases h;exact hk
 |n+1,K,F,S,h,hk=>by
  simp only[ev0]at h;split at h
  ·cases h;exact hk
  ·rcases hq:Go.V.ev X B.fn.ntmps 1 K F S with⟨K1,F1,S1⟩
   rw[hq]at h;exact Bi 1 hq (Cb n h hk)
theorem Lq{t b:Nat}{y:Ty}{bx:List (List (List AV))}(hb:S.boxes.length=b)(hbx:S.boxes++[[y.zero]]=bx)(hk:AK X B K F' S2 R)(ho:ops[i]?=some o:=by rfl)(hw:A8 ops F o=some true:=by rfl)(hop:o.op=.alloc t:=by rfl)(hy:X.ty t=some y:=by rfl)
 (hd:D3 B.fn.ntmps o.dst=true:=by rfl)(he:ev0 X B.fn.ntmps 60 (.inRegion ops l::k) (putF o.dst (.ptr b 0 0) F) ⟨bx,S.toks⟩=(K,F',S2):=by rfl):AK X B (.inRegion ops (i::l)::k) F S R:=by
 subst hb;subst hbx;refine Hi (Lu ho hw ?_) ho hd (Cb 60 he hk);rw[hop];obtain⟨y1,y2,y3,y4⟩:=y;simp only[Kl,hy,Q4,J5]
theorem Tr{t b:Nat}{x:AV}{cs:List AV}{bx:List (List (List AV))}(hb:S.boxes.length=b)(hbx:S.boxes++[[cs]]=bx)(hk:AK X B K F' S2 R)(ho:ops[i]?=some o:=by rfl)(hw:A8 ops F o=some true:=by rfl)(hop:o.op=.box t p:=by rfl)(hp:Dw X F p=some x:=by rfl)(hc:cellsOf x=some cs:=by rfl)
 (hd:D3 B.fn.ntmps o.dst=true:=by rfl)(he:ev0 X B.fn.ntmps 60 (.inRegion ops l::k) (putF o.dst (.ptr b 0 0) F) ⟨bx,S.toks⟩=(K,F',S2):=by rfl):AK X B (.inRegion ops (i::l)::k) F S R:=by
 subst hb;subst hbx;refine Hi (Lu ho hw ?_) ho hd (Cb 60 he hk);rw[hop];simp only[Kl,hp,hc,Q4,J5]
theorem Mn{t b r f:Nat}{y:Ty}{x:AV}{xs cs cs':List AV}{rows:List (List AV)}{bx:List (List (List AV))}(hb:S.boxes[b]?=some rows)(hr:rows[r]?=some cs)(hbx:S.boxes.set b (rows.set r cs')=bx)(hk:AK X B K F' S2 R)(ho:ops[i]?=some o:=by rfl)(hw:A8 ops F o=some true:=by rfl)
 (hop:o.op=.store t p q:=by rfl)(hp:Dw X F p=some (.ptr b r f):=by rfl)(hq:Dw X F q=some x:=by rfl)(hy:X.ty t=some y:=by rfl)(hc:cellsOf x=some xs:=by rfl)(hl:Nat.beq xs.length y.size=true:=by rfl)
 (hput:∀g:List AV→Option St,Wi cs f xs g=g cs':=by intro;rfl)(hd:D3 B.fn.ntmps o.dst=true:=by rfl)(he:ev0 X B.fn.ntmps 60 (.inRegion ops l::k) (putF o.dst .junk F) ⟨bx,S.toks⟩=(K,F',S2):=by rfl):AK X B (.inRegion ops (i::l)::k) F S R:=by
 subst hbx;refine Hi (A7 ho hw hop hy hp hq ?_) ho hd (Cb 60 he hk);obtain⟨bx,tk⟩:=S;simp only at hb;simp only[U5,hc,hl,H8,hb,hr,hput];rw[Sx _ _ _ _ (Aa hr),Sx _ _ _ _ (Aa hb)]
theorem Hc{t b r f:Nat}{y:Ty}{x:AV}{cs:List AV}{rows:List (List AV)}(hb:S.boxes[b]?=some rows)(hr:rows[r]?=some cs)(hk:AK X B K F' S2 R)(ho:ops[i]?=some o:=by rfl)(hw:A8 ops F o=some true:=by rfl)
 (hop:o.op=.load t p:=by rfl)(hp:Dw X F p=some (.ptr b r f):=by rfl)(hy:X.ty t=some y:=by rfl)(hx:(Ow f cs fun c=>Nl y.size c fun c'=>Wb (Gg y.k) c')=some x:=by rfl)
 (hd:D3 B.fn.ntmps o.dst=true:=by rfl)(he:ev0 X B.fn.ntmps 60 (.inRegion ops l::k) (putF o.dst x F) S=(K,F',S2):=by rfl):AK X B (.inRegion ops (i::l)::k) F S R:=by
 refine Hi (Ck ho hw ?_) ho hd (Cb 60 he hk);rw[hop];simp only[Ej,Q0,hy,hp,Ti,H8,hb,hr];exact hx
theorem Jr{t e b n:Nat}{ik:IntKind}{y ye:Ty}{rows:List (List AV)}{r:List AV}(j:Nat)(hj:j<n)(hb:S.boxes[b]?=some rows)(hr:rows[j]?=some r)(hl:r.length=ye.size)(hk:AK X B K F' S2 R)(ho:ops[i]?=some o:=by rfl)(hw:A8 ops F o=some true:=by rfl)
 (hop:o.op=.indexAddr t p q:=by rfl)(hp:Dw X F p=some (.bsl b n):=by rfl)(hq:Dw X F q=some (.val (.int ik j)):=by rfl)(hy:X.ty t=some y:=by rfl)(hyk:y.k=.slc e:=by rfl)(hye:X.ty e=some ye:=by rfl)
 (hd:D3 B.fn.ntmps o.dst=true:=by rfl)(he:ev0 X B.fn.ntmps 60 (.inRegion ops l::k) (putF o.dst (.ptr b j 0) F) S=(K,F',S2):=by rfl):AK X B (.inRegion ops (i::l)::k) F S R:=
 Hi (Gd (j:=j) ho hw hop hp hq hy hyk hye (by simpa[Fw]using hj) hb hr hl) ho hd (Cb 60 he hk)
theorem M1{N t b r f:Nat}{y:Ty}{x:AV}{cs:List AV}{rows:List (List AV)}(hb:S.boxes[b]?=some rows)(hr:rows[r]?=some cs)(ho:ops[i]?=some o:=by rfl)(hw:A8 ops F o=some true:=by rfl)
 (hop:o.op=.load t p:=by rfl)(hp:Dw X F p=some (.ptr b r f):=by rfl)(hy:X.ty t=some y:=by rfl)(hx:(Ow f cs fun c=>Nl y.size c fun c'=>Wb (Gg y.k) c')=some x:=by rfl):Ndo X N ops i o F x S S:=by
 refine Ck ho hw ?_;rw[hop];simp only[Ej,Q0,hy,hp,Ti,H8,hb,hr];exact hx
theorem Pi{N t b:Nat}{y:Ty}{bx:List (List (List AV))}(hb:S.boxes.length=b)(hbx:S.boxes++[[y.zero]]=bx)(ho:ops[i]?=some o:=by rfl)(hw:A8 ops F o=some true:=by rfl)(hop:o.op=.alloc t:=by rfl)(hy:X.ty t=some y:=by rfl) :
 Ndo X N ops i o F (.ptr b 0 0) S ⟨bx,S.toks⟩:=by
 subst hb;subst hbx;refine Lu ho hw ?_;rw[hop];obtain⟨y1,y2,y3,y4⟩:=y;simp only[Kl,hy,Q4,J5]
theorem J1{N t b r f:Nat}{y:Ty}{x:AV}{xs cs cs':List AV}{rows:List (List AV)}{bx:List (List (List AV))}(hb:S.boxes[b]?=some rows)(hr:rows[r]?=some cs)(hbx:S.boxes.set b (rows.set r cs')=bx)(ho:ops[i]?=some o:=by rfl)(hw:A8 ops F o=some true:=by rfl)
 (hop:o.op=.store t p q:=by rfl)(hp:Dw X F p=some (.ptr b r f):=by rfl)(hq:Dw X F q=some x:=by rfl)(hy:X.ty t=some y:=by rfl)(hc:cellsOf x=some xs:=by rfl)(hl:Nat.beq xs.length y.size=true:=by rfl)
 (hput:∀g:List AV→Option St,Wi cs f xs g=g cs':=by intro;rfl):Ndo X N ops i o F .junk S ⟨bx,S.toks⟩:=by
 subst hbx;refine A7 ho hw hop hy hp hq ?_;obtain⟨bx,tk⟩:=S;simp only at hb;simp only[U5,hc,hl,H8,hb,hr,hput];rw[Sx _ _ _ _ (Aa hr),Sx _ _ _ _ (Aa hb)]
theorem Ak9{N t m e:Nat}{ps:Array (Nat×Operand)}{y ye:Ty}{r:AV}(ho:ops[i]?=some o:=by rfl)(hw:A8 ops F o=some true:=by rfl)(hop:o.op=.build t ps:=by rfl)(hy:X.ty t=some y:=by rfl)(hk:y.k=.arr m e:=by rfl)(hye:X.ty e=some ye:=by rfl)
 (h:Yn X F ((List.range m).map fun i=>(i*ye.size,ye.size)) ps.toList y.zero=some r:=by rfl):Ndo X N ops i o F r S S:=by
 intro F' E w a hl hI hF;have hlo:=G0 hl;rw[hop]at hlo;obtain⟨d,hd,hdd⟩:=(X.ty_ok t y hy).agg;simp only[hk]at hdd;obtain⟨rfl,ye',hye',_⟩:=hdd;rw[hye]at hye';cases hye';obtain⟨ze,_,_,_,ie,hie,_,hies,_⟩:=Jx hye w;obtain⟨z,_,hzc,_,i',hi,hiz,his,_⟩:=Jx hy w;obtain⟨cells,hc,hr⟩:=Xe hI hF (fs:=(List.range m).map fun i=>(i*ye.size,ye.size)) (place:=fun i=>some (i*ie.size,ie.size)) (fun j p hp=>by
  rw[H8,Gl]at hp;cases hj:(List.range m)[j]? with
  |none=>rw[hj]at hp;cases hp
  |some q=>
   rw[hj]at hp;cases hp;obtain⟨h1,h2⟩:=zzq105.1 hj;rw[List.getElem_range]at h2;subst h2;rw[hies]) ps.toList z.cells y.zero r (Wa hzc) (by rw[Xd fun t ht=>hlo t (by simpa[Op.operands]using ht)];exact h)
 have hrun:=run_build (P:=X.P) w t (ps.map fun(i,x)=>(i,a.eval x)) cells (by simp only[Program.built,hi,hd,hiz,hie];simpa using hc);exact Does.val ho (Cr hF (by rw[C6 hl];exact hw)) (by simp[execOp,hop,hrun]) (.inl rfl) ⟨E,hI,Evol.refl _ _ _ _,hr⟩
theorem Aw{t b f:Nat}{y:Ty}{x:AV}{cs:List AV}(hb:S.boxes[b]?=some [cs])(hk:AK X B K F' S2 R)(ho:ops[i]?=some o:=by rfl)(hw:A8 ops F o=some true:=by rfl)
 (hop:o.op=.load t p:=by rfl)(hp:Dw X F p=some (.ptr b 0 f):=by rfl)(hy:X.ty t=some y:=by rfl)(hx:(Ow f cs fun c=>Nl y.size c fun c'=>Wb (Gg y.k) c')=some x:=by rfl)
 (hd:D3 B.fn.ntmps o.dst=true:=by rfl)(he:ev0 X B.fn.ntmps 60 (.inRegion ops l::k) (putF o.dst x F) S=(K,F',S2):=by rfl):AK X B (.inRegion ops (i::l)::k) F S R:=
 Hc hb rfl hk ho hw hop hp hy hx hd he
theorem Aq{N t b f:Nat}{y:Ty}{x:AV}{cs:List AV}(hb:S.boxes[b]?=some [cs])(ho:ops[i]?=some o:=by rfl)(hw:A8 ops F o=some true:=by rfl)
 (hop:o.op=.load t p:=by rfl)(hp:Dw X F p=some (.ptr b 0 f):=by rfl)(hy:X.ty t=some y:=by rfl)(hx:(Ow f cs fun c=>Nl y.size c fun c'=>Wb (Gg y.k) c')=some x:=by rfl):Ndo X N ops i o F x S S:=
 M1 hb rfl ho hw hop hp hy hx
theorem Cc{t b f:Nat}{y:Ty}{x:AV}{xs cs cs':List AV}{bx:List (List (List AV))}(hb:S.boxes[b]?=some [cs])(hbx:S.boxes.set b [cs']=bx)(hk:AK X B K F' S2 R)(ho:ops[i]?=some o:=by rfl)(hw:A8 ops F o=some true:=by rfl)
 (hop:o.op=.store t p q:=by rfl)(hp:Dw X F p=some (.ptr b 0 f):=by rfl)(hq:Dw X F q=some x:=by rfl)(hy:X.ty t=some y:=by rfl)(hc:cellsOf x=some xs:=by rfl)(hl:Nat.beq xs.length y.size=true:=by rfl)
 (hput:∀g:List AV→Option St,Wi cs f xs g=g cs':=by intro;rfl)(hd:D3 B.fn.ntmps o.dst=true:=by rfl)(he:ev0 X B.fn.ntmps 60 (.inRegion ops l::k) (putF o.dst .junk F) ⟨bx,S.toks⟩=(K,F',S2):=by rfl):AK X B (.inRegion ops (i::l)::k) F S R:=
 Mn (r:=0) (cs:=cs) (cs':=cs') hb rfl hbx hk ho hw hop hp hq hy hc hl hput hd he
theorem Cq{t:Nat}{x y:Code}{e:Bool}(h2:AK X B K F' S2 R)(hc:lk F t=some (.val (.bool e)):=by rfl)
 (he2:ev0 X B.fn.ntmps 60 (.code y::k) ((t,.lit false)::F) S=(K,F',S2):=by rfl)(ht:e=false:=by rfl):AK X B (.code (.cond (.tmp t) x y)::k) F S R:=
 Ph hc (fun h=>by rw[ht]at h;cases h) (fun _=>Cb 60 he2 h2)
theorem Do{t:Nat}{x y:Code}{e:Bool}(h1:AK X B K F' S2 R)(hc:lk F t=some (.val (.bool e)):=by rfl)
 (he1:ev0 X B.fn.ntmps 60 (.code x::k) ((t,.lit true)::F) S=(K,F',S2):=by rfl)(ht:e=true:=by rfl):AK X B (.code (.cond (.tmp t) x y)::k) F S R:=
 Ph hc (fun _=>Cb 60 he1 h1) (fun h=>by rw[ht]at h;cases h)
theorem F7{t:Nat}{x y:Code}{e:Bool}{K1 K2:List Item}{F1 F2:C5}{S1:St}(h1:e=true→AK X B K1 F1 S1 R)(h2:e=false→AK X B K2 F2 S2 R)(hc:lk F t=some (.val (.bool e)):=by rfl)
 (he1:ev0 X B.fn.ntmps 60 (.code x::k) ((t,.lit true)::F) S=(K1,F1,S1):=by rfl)(he2:ev0 X B.fn.ntmps 60 (.code y::k) ((t,.lit false)::F) S=(K2,F2,S2):=by rfl):AK X B (.code (.cond (.tmp t) x y)::k) F S R:=
 Ph hc (fun h=>Cb 60 he1 (h1 h)) (fun h=>Cb 60 he2 (h2 h))
theorem Om{t j:Nat}{want e:Bool}{oj:Oper}(h2:AK X B K F' S2 R)(ho:ops[i]?=some o:=by rfl)(hg:o.guard=some (j,want):=by rfl)
 (hj:ops[j]?=some oj:=by rfl)(hd:oj.dst=some t:=by rfl)(hc:lk F t=some (.val (.bool e)):=by rfl)(he2:ev0 X B.fn.ntmps 60 (.inRegion ops (i::l)::k) ((t,.lit true)::F) S=(K,F',S2):=by rfl)(ht:e=true:=by rfl) :
 AK X B (.inRegion ops (i::l)::k) F S R:=
 Xx hc (fun _=>Cb 60 he2 h2) (fun h=>by rw[ht]at h;cases h)
theorem Ol{t j:Nat}{want e:Bool}{oj:Oper}(h2:AK X B K F' S2 R)(ho:ops[i]?=some o:=by rfl)(hg:o.guard=some (j,want):=by rfl)
 (hj:ops[j]?=some oj:=by rfl)(hd:oj.dst=some t:=by rfl)(hc:lk F t=some (.val (.bool e)):=by rfl)(he2:ev0 X B.fn.ntmps 60 (.inRegion ops (i::l)::k) ((t,.lit false)::F) S=(K,F',S2):=by rfl)(ht:e=false:=by rfl) :
 AK X B (.inRegion ops (i::l)::k) F S R:=
 Xx hc (fun h=>by rw[ht]at h;cases h) (fun _=>Cb 60 he2 h2)
theorem Im{c:Call}{fo:Operand}{f:FuncId}{caps xs zs ys:List AV}{r:AV}(hc:Pure X f ys r)(hk:AK X B K F' S2 R)(ho:ops[i]?=some o:=by rfl)(hw:A8 ops F o=some true:=by rfl)
 (hop:o.op=.call c:=by rfl)(hcal:c.callee=.value fo:=by rfl)(hfo:Dw X F fo=some (.fn f caps):=by rfl)(hx:Hm X F c.args.toList=some xs:=by rfl)(hzs:Kg xs caps=some zs:=by rfl)
 (hd:D3 B.fn.ntmps o.dst=true:=by rfl) [hs:RinL [] [] zs ys] [hok:OK 0 0 r](he:ev0 X B.fn.ntmps 60 (.inRegion ops l::k) (putF o.dst r F) S=(K,F',S2):=by rfl):AK X B (.inRegion ops (i::l)::k) F S R:=
 Hi (Acu hc ho hw hop hcal hfo hx hzs hok.ok) ho hd (Cb 60 he hk)
theorem Mm{t e:Nat}{rows:List (List AV)}{sp:Sp}{ik:IntKind}{r:List AV}{y ye:Ty}(n:Int)(h0:0≤n)(hr:rows[n.toNat]?=some r)(hk:AK X B K F' S2 R)(ho:ops[i]?=some o:=by rfl)(hw:A8 ops F o=some true:=by rfl)
 (hop:o.op=.indexAddr t p q:=by rfl)(hp:Dw X F p=some (.sl rows sp):=by rfl)(hq:Dw X F q=some (.val (.int ik n)):=by rfl)
 (hy:X.ty t=some y:=by rfl)(hyk:y.k=.slc e:=by rfl)(hye:X.ty e=some ye:=by rfl)(hd:D3 B.fn.ntmps o.dst=true:=by rfl)(hl:r.length=ye.size:=by rfl)
 (he:ev0 X B.fn.ntmps 60 (.inRegion ops l::k) (putF o.dst (.cptr r) F) S=(K,F',S2):=by rfl):AK X B (.inRegion ops (i::l)::k) F S R:=
 Ach ho hw hop hp hq hy hyk hye hd hl h0 hr (Cb 60 he hk)
theorem Rj{c:Call}{fo:Operand}{f:FuncId}{caps xs zs ys:List AV}{r r':AV}(hc:Pure X f ys r)(ha:FzL S 0 0 zs ys)(hr:Sh S.boxes.length r r')(hk:AK X B K F' S2 R)(ho:ops[i]?=some o:=by rfl)(hw:A8 ops F o=some true:=by rfl)
 (hop:o.op=.call c:=by rfl)(hcal:c.callee=.value fo:=by rfl)(hfo:Dw X F fo=some (.fn f caps):=by rfl)(hx:Hm X F c.args.toList=some xs:=by rfl)(hzs:Kg xs caps=some zs:=by rfl)
 (hd:D3 B.fn.ntmps o.dst=true:=by rfl)(he:ev0 X B.fn.ntmps 60 (.inRegion ops l::k) (putF o.dst r' F) S=(K,F',S2):=by rfl):AK X B (.inRegion ops (i::l)::k) F S R:=
 Hi (Rr hc ha hr ho hw hop hcal hfo hx hzs) ho hd (Cb 60 he hk)
theorem Gt{N em:Nat}{bs:List Nat}{Hs:List St}{pend:List J2}(hk:AK X B K F' S2 R)(he:ev0 X B.fn.ntmps 60 k F S=(K,F',S2):=by rfl):Drv X N ops bs em [] i F S Hs pend fun F1 S1=>AK X B k F1 S1 R:=
 Cb 60 he hk
end
theorem Aru{K:List Item}(d:Nat){m:Nat}{tk:List Nat}(hk:AK X B K ((d,.psl [] m 0)::F) ⟨S.boxes,tk⟩ R)(hd:lk F d=some (.sl [] .tight):=by rfl)(hn:S.toks.length=m:=by rfl)(htk:S.toks++[0]=tk:=by rfl):AK X B K F S R:=by
 subst hn;subst htk;intro E w a b cs hI hF hn hm hb;have ev:=M7 E w 0;have hF':FR (E.mint 0) w ((d,.psl [] S.toks.length 0)::F) a B.fn.ntmps:=by
  have h0:=hF.mint 0;refine⟨h0.size,h0.nod,fun k x hx=>?_⟩;rw[J7]at hx;split at hx
  ·rename_i hdk;subst hdk;cases hx;obtain⟨v,hv,hr⟩:=hF.rel d _ hd;exact⟨v,hv,Ae1 hI hr⟩
  ·exact h0.rel k x hx
 have nt:E.toks.length=S.toks.length:=by rw[←hI.nt];simp
 exact Fin.from (Steps.refl _ _) (ev.weaken (by rw[hI.nb];exact hn) (by omega)) (hk (E.mint 0) w a b cs (hI.mint 0) hF' hn (by simp;omega) hb)
theorem Agq{xs:List AV}(hf:X.P.funcs[B.f]?=some B.fn)(hR:R (.ret (C8 xs)) S)(h:Mf X F S B.fn.results.toList=some xs:=by rfl):AK X B [] F S R:=by
 intro E w a b cs hI hF hn hm hb;obtain⟨v,h1,h2⟩:=M8 hI hF h;refine .inl ⟨.returned v,w,{ b.at a []with mode:=.returning },⟨E,S,hI,Evol.refl _ _ _ _,_,h2,hR⟩,.one step_end,hb,⟨rfl,hF.nod,rfl,B.fn,by rw[←hf];exact congrArg (X.P.funcs[·]?) hb,h1⟩⟩
theorem Gives.run{f:FuncId}{fn:Func}{c:Code}{args:List AV}{P:AV→List (List (List AV))→Prop}{K:List Item}{F':C5}{S2:St}(hf:X.P.funcs[f]?=some fn)(h:AK X ⟨f,fn,0,0⟩ K F' S2 fun e S'=>∃r,e=.ret r∧P r S'.boxes)(hb:fn.body=some c:=by rfl)
 (hl:Nat.ble args.length fn.ntmps=true:=by rfl)(hnm:(fn.name == "runtime.NumGoroutine")=false:=by kernel_rfl)
 (he:Go.V.ev X fn.ntmps 200 [.code c] (Ot 0 args) ⟨[],[]⟩=(K,F',S2):=by rfl):Gives X f args P:=Gives.mk hf hb hl hnm (Bi 200 he h)
theorem Runs.run{f:FuncId}{fn:Func}{c:Code}{args:List AV}{P:AV→St→Prop}{K:List Item}{F':C5}{S2:St}(hf:X.P.funcs[f]?=some fn)(h:AK X ⟨f,fn,S.boxes.length,S.toks.length⟩ K F' S2 fun e S'=>∃r,e=.ret r∧P r S')(hb:fn.body=some c:=by rfl)
 (hl:Nat.ble args.length fn.ntmps=true:=by rfl)(hnm:(fn.name == "runtime.NumGoroutine")=false:=by kernel_rfl)
 (he:ev0 X fn.ntmps 60 [.code c] (Ot 0 args) S=(K,F',S2):=by rfl):Runs X f args S P:=Runs.mk hf hb hl hnm (Cb 60 he h)
end
end Go.V
namespace Go.V
open Go Go.Proofs Go.Proofs.Tryz
def Awe(q:Bool)(x:Nd)(r:List AV)(c:Nat):Prop:=
 ∃a1 a2 a3:Value,r=[.val a1,.val a2,.val a3,.bsl c x.kids.length]∧(q=true→[AV.val a1,.val a2,.val a3]=[vi x.kind,str x.name,vi x.num])
mutual
def Zo(q:Bool)(lo hi:Nat)(bx:List (List (List AV)))(b:Nat):Nd→Prop
 |.mk _ _ _ ks=>(lo≤b∧b<hi)∧∃rows,bx[b]?=some rows∧TRl q lo hi bx rows ks
def TRl(q:Bool)(lo hi:Nat)(bx:List (List (List AV))):List (List AV)→List Nd→Prop
 |[],[]=>True
 |r::rs,x::l=>(∃c,Awe q x r c∧Zo q lo hi bx c x)∧TRl q lo hi bx rs l
 |_,_=>False
end
theorem Mr{q:Bool}{lo hi:Nat}{bx:List (List (List AV))}{b:Nat}{n:Nd}:Zo q lo hi bx b n↔(lo≤b∧b<hi)∧∃rows,bx[b]?=some rows∧TRl q lo hi bx rows n.kids:=by cases n;simp[Zo,Nd.kids]
theorem Vl{q:Bool}{lo hi:Nat}{bx:List (List (List AV))}:∀{rs:List (List AV)}{l:List Nd},TRl q lo hi bx rs l→rs.length=l.length
 |[],[],_=>rfl
 |r::rs,x::l,h=>by simp only[TRl]at h;simp[Vl h.2]
 |[],_::_,h=>by simp[TRl]at h
 |_::_,[],h=>by simp[TRl]at h
theorem Rt{q:Bool}{lo hi:Nat}{bx:List (List (List AV))}:∀{rs:List (List AV)}{l:List Nd},TRl q lo hi bx rs l→∀(i:Nat)(x:Nd),l[i]?=some x→∃r c,rs[i]?=some r∧Awe q x r c∧Zo q lo hi bx c x
 |[],[],_,i,x,h=>by simp at h
 |r::rs,y::l,h,i,x,hx=>by
  simp only[TRl]at h;cases i with
  |zero=>simp at hx;subst hx;obtain⟨⟨c,h1,h2⟩,_⟩:=h;exact⟨r,c,rfl,h1,h2⟩
  |succ i=>simpa using Rt h.2 i x (by simpa using hx)
 |[],_::_,h,_,_,_=>by simp[TRl]at h
 |_::_,[],h,_,_,_=>by simp[TRl]at h
theorem Zn{q:Bool}{lo hi:Nat}{bx:List (List (List AV))}:∀{rs:List (List AV)}{l:List Nd},rs.length=l.length→(∀(i:Nat)(x:Nd),l[i]?=some x→∃r c,rs[i]?=some r∧Awe q x r c∧Zo q lo hi bx c x)→TRl q lo hi bx rs l
 |[],[],_,_=>trivial
 |r::rs,y::l,h,hg=>by
  simp only[TRl];obtain⟨r',c,h1,h2,h3⟩:=hg 0 y rfl;simp at h1;subst h1;exact⟨⟨c,h2,h3⟩,Zn (by simpa using h) fun i x hx=>by simpa using hg (i+1) x (by simpa using hx)⟩
 |[],_::_,h,_=>by simp at h
 |_::_,[],h,_=>by simp at h
theorem Awm(n:Nd):∀{lo hi b:Nat}{bx:List (List (List AV))},Zo true lo hi bx b n→Zo false lo hi bx b n:=by
 induction n using Nd.ind with
 |h n ih=>
 intro lo hi b bx h;obtain⟨h1,rows,h2,h3⟩:=Mr.1 h;refine Mr.2 ⟨h1,rows,h2,Zn (Vl h3) fun i x hx=>?_⟩;obtain⟨r,c,g1,⟨a1,a2,a3,g2,_⟩,g4⟩:=Rt h3 i x hx;exact⟨r,c,g1,⟨a1,a2,a3,g2,fun h=>by cases h⟩,ih x (Bh hx) g4⟩
theorem Pk{q:Bool}(n:Nd):∀{lo hi lo' hi' b:Nat}{bx bx':List (List (List AV))},lo'≤lo→hi≤hi'→(∀(i:Nat) y,lo≤i→i<hi→bx[i]?=some y→bx'[i]?=some y)→Zo q lo hi bx b n→Zo q lo' hi' bx' b n:=by
 induction n using Nd.ind with
 |h n ih=>
 intro lo hi lo' hi' b bx bx' h0 h9 hb h;obtain⟨h1,rows,h2,h3⟩:=Mr.1 h;refine Mr.2 ⟨by omega,rows,hb b rows h1.1 h1.2 h2,Zn (Vl h3) fun i x hx=>?_⟩;obtain⟨r,c,g1,g2,g4⟩:=Rt h3 i x hx;exact⟨r,c,g1,g2,ih x (Bh hx) h0 h9 hb g4⟩
theorem A3o(n:Nd):∀{lo hi b:Nat}{S:St},Ai n≤1000000000→Zo true lo hi S.boxes b n→Fz S 0 0 (.bsl b n.kids.length) (.sl (Ap n.kids) .no):=by
 induction n using Nd.ind with
 |h n ih=>
 intro lo hi b S hn h;obtain⟨h1,rows,h2,h3⟩:=Mr.1 h;have hlen:=Vl h3;have hcn:=Cj n;have hll:=Bm n.kids;have hrow:∀(i:Nat) (r r':List AV),rows[i]?=some r→(Ap n.kids)[i]?=some r'→∃x c,x∈n.kids∧r'=Af x∧r=[vi x.kind,str x.name,vi x.num,.bsl c x.kids.length]∧Zo true lo hi S.boxes c x:=by
  intro i r r' hr hr';obtain⟨x,hx⟩:=Ab n.kids (i:=i) (by have:=Aa hr;omega);obtain⟨r0,c,g1,⟨a1,a2,a3,g2,g3⟩,g4⟩:=Rt h3 i x hx;rw[hr]at g1;cases g1;have:=g3 rfl;simp only[List.cons.injEq,and_true]at this;rw[Am hx]at hr';exact⟨x,c,Bh hx,(Option.some.inj hr').symm,by rw[g2,this.1,this.2.1,this.2.2],g4⟩
 refine .bsl b n.kids.length rows (Ap n.kids) (B3 _) h2 (by omega) (by unfold Pg;omega) (Ad _) (fun i r r' hr hr'=>?_) (fun i j r r' x y hr hr' hx hy=>?_)
 ·obtain⟨x,c,_,rfl,rfl,_⟩:=hrow i r r' hr hr';rfl
 ·obtain⟨z,c,hz,rfl,rfl,hT⟩:=hrow i r r' hr hr'
  match j,hx,hy with
  |0,hx,hy=>simp[Af]at hx hy;subst hx;subst hy;exact .same _ (.val _)
  |1,hx,hy=>simp[Af]at hx hy;subst hx;subst hy;exact .same _ (.val _)
  |2,hx,hy=>simp[Af]at hx hy;subst hx;subst hy;exact .same _ (.val _)
  |3,hx,hy=>simp[Af]at hx hy;subst hx;subst hy;exact ih z hz (by have:=E5 hz;omega) hT
  |j+4,hx,_=>simp at hx
structure Mk (lo hi:Nat)(bx bx':List (List (List AV))):Prop where
 len:bx.length≤bx'.length
 far:∀b,b<bx.length→b<lo∨hi≤b→bx'[b]?=bx[b]?
 row:∀(b:Nat) rows,bx[b]?=some rows→∃rows',bx'[b]?=some rows'∧rows'.length=rows.length ∧
  ∀(i:Nat) (a1 a2 a3:Value) (x:AV),rows[i]?=some [.val a1,.val a2,.val a3,x]→∃b1 b2 b3:Value,rows'[i]?=some [.val b1,.val b2,.val b3,x]
theorem Mk.refl(lo hi:Nat)(bx:List (List (List AV))):Mk lo hi bx bx:=⟨Bo _,fun _ _ _=>rfl,fun b rows h=>⟨rows,h,rfl,fun i a1 a2 a3 x h=>⟨a1,a2,a3,h⟩⟩⟩
theorem Mk.trans{lo hi:Nat}{bx bx' bx'':List (List (List AV))}(h:Mk lo hi bx bx')(h':Mk lo hi bx' bx''):Mk lo hi bx bx'':=by
 refine⟨Pb h.len h'.len,fun b hl hb=>(h'.far b (Mz hl h.len) hb).trans (h.far b hl hb),fun b rows hr=>?_⟩;obtain⟨rows1,h1,h2,h3⟩:=h.row b rows hr;obtain⟨rows2,g1,g2,g3⟩:=h'.row b rows1 h1;refine⟨rows2,g1,g2.trans h2,fun i a1 a2 a3 x hx=>?_⟩;obtain⟨b1,b2,b3,h4⟩:=h3 i a1 a2 a3 x hx;exact g3 i b1 b2 b3 x h4
theorem Mk.set{lo hi b i:Nat}{bx:List (List (List AV))}{rows:List (List AV)}{a1 a2 a3 b1 b2 b3:Value}{x:AV}(h1:lo≤b)(h2:b<hi)(hb:bx[b]?=some rows)(hr:rows[i]?=some [.val a1,.val a2,.val a3,x]) :
 Mk lo hi bx (bx.set b (rows.set i [.val b1,.val b2,.val b3,x])):=by
 have hbl:=Aa hb;have hil:=Aa hr;refine⟨by simp,fun c _ hc=>Fq (by omega),fun c rows' hc=>?_⟩;by_cases he:c=b
 ·subst he;rw[hb]at hc;cases hc;refine⟨_,Eh hbl,by simp,fun j c1 c2 c3 y hy=>?_⟩;by_cases hj:j=i
  ·subst hj;rw[hr]at hy;cases hy;exact⟨b1,b2,b3,Eh hil⟩
  ·exact⟨c1,c2,c3,by rw[Fq (Ne.symm hj)];exact hy⟩
 ·exact⟨rows',by rw[Fq (Ne.symm he)];exact hc,rfl,fun j c1 c2 c3 y hy=>⟨c1,c2,c3,hy⟩⟩
theorem Mk.snoc(lo hi:Nat)(bx:List (List (List AV)))(r:List (List AV)):Mk lo hi bx (bx++[r]):=
 ⟨by simp,fun b hl _=>Cs hl,fun b rows h=>⟨rows,by rw[Cs (Aa h)];exact h,rfl,fun i a1 a2 a3 x h=>⟨a1,a2,a3,h⟩⟩⟩
theorem Mk.tree(n:Nd):∀{lo hi b:Nat}{bx bx':List (List (List AV))},Mk lo hi bx bx'→Zo false lo hi bx b n→Zo false lo hi bx' b n:=by
 induction n using Nd.ind with
 |h n ih=>
 intro lo hi b bx bx' hm h;obtain⟨h1,rows,h2,h3⟩:=Mr.1 h;obtain⟨rows',g1,g2,g3⟩:=hm.row b rows h2;refine Mr.2 ⟨h1,rows',g1,Zn (by rw[g2];exact Vl h3) fun i x hx=>?_⟩;obtain⟨r,c,k1,⟨a1,a2,a3,rfl,_⟩,k4⟩:=Rt h3 i x hx;obtain⟨b1,b2,b3,k5⟩:=g3 i a1 a2 a3 _ k1;exact⟨_,c,k5,⟨b1,b2,b3,rfl,fun h=>by cases h⟩,ih x (Bh hx) hm k4⟩
mutual
def Hn(d:Nat):AV→AV
 |.val v=>.val v
 |.bsl b k=>.bsl (b+d) k
 |.sl [] _=>.sl [] .no
 |.psl [] _ _=>.sl [] .no
 |.agg cs=>.agg (Sy d cs)
 |.tup cs=>.tup (Sy d cs)
 |_=>.junk
def Sy(d:Nat):List AV→List AV
 |[]=>[]
 |x::l=>Hn d x::Sy d l
end
theorem Ao4(d:Nat):∀l:List AV,Sy d l=l.map (Hn d)
 |[]=>rfl
 |x::l=>by simp[Sy,Ao4 d l]
def Rh(d:Nat)(bx:List (List (List AV))):List (List (List AV)):=bx.map fun rows=>rows.map fun r=>r.map (Hn d)
mutual
theorem U3(d:Nat):∀x:AV,Sh d x (Hn d x)
 |.val v=>by simp only[Hn];exact .val v
 |.bsl b k=>by simp only[Hn];exact .bsl b k
 |.sl [] sp=>by simp only[Hn];exact .nil sp
 |.psl [] t v=>by simp only[Hn];exact .pnil t v
 |.agg cs=>by simp only[Hn];exact .aggL (Ace d cs)
 |.tup cs=>by simp only[Hn];have h:=(Ace d cs).get;exact .tup _ _ h.1 h.2
 |.sl (r::l) sp=>by simp only[Hn];exact .junk _
 |.psl (r::l) t v=>by simp only[Hn];exact .junk _
 |.ptr _ _ _=>by simp only[Hn];exact .junk _
 |.cptr _=>by simp only[Hn];exact .junk _
 |.bst _ _ _=>by simp only[Hn];exact .junk _
 |.fn _ _=>by simp only[Hn];exact .junk _
 |.lit _=>by simp only[Hn];exact .junk _
 |.junk=>by simp only[Hn];exact .junk _
 |.err=>by simp only[Hn];exact .junk _
 |.tagN _ _=>by simp only[Hn];exact .junk _
 |.buf _ _ _=>by simp only[Hn];exact .junk _
 |.dat _ _ _=>by simp only[Hn];exact .junk _
 |.pp _ _ _ _ _=>by simp only[Hn];exact .junk _
theorem Ace(d:Nat):∀l:List AV,ShL d l (Sy d l)
 |[]=>by simp only[Sy];exact .nil
 |x::l=>by simp only[Sy];exact .cons (U3 d x) (Ace d l)
end
theorem Azb(d:Nat)(l:List AV):ShL d l (l.map (Hn d)):=by rw[←Ao4];exact Ace d l
theorem Nu(d:Nat)(bx:List (List (List AV))):ShB d bx (Rh d bx):=by
 refine⟨by simp[Rh],fun i x y hx hy=>?_⟩;simp only[Rh,Gl,hx,Lk,Option.some.injEq]at hy;subst hy;refine⟨by simp,fun j a b ha hb=>?_⟩;simp only[Gl,ha,Lk,Option.some.injEq]at hb;subst hb;exact Azb d a
theorem Pt(d:Nat)(bx:List (List (List AV))):(Rh d bx).length=bx.length:=by simp[Rh]
def Jo:AV→List Nat
 |.bsl b _=>[b]
 |_=>[]
def SlG(bx:List (List (List AV)))(x:AV)(rows:List (List AV)):Prop:=(∃b ex,x=.bsl b rows.length∧bx[b]?=some (rows++ex))∨(rows=[]∧Hn 0 x=.sl [] .no∧Jo x=[])
def SlB(bx:List (List (List AV)))(x:AV)(rows:List (List AV)):Prop:=(∃b ex,x=.bsl b rows.length∧bx[b]?=some (rows++ex))∨(rows=[]∧∃sp,x=.sl [] sp)
theorem Azc{d:Nat}{x:AV}(h:Hn 0 x=.sl [] .no):Hn d x=.sl [] .no:=by
 revert h;cases x with
 |sl l sp=>cases l<;>simp[Hn]
 |psl l t v=>cases l<;>simp[Hn]
 |_=>simp[Hn]
theorem SlG.held{pre bx:List (List (List AV))}{x:AV}{rows:List (List AV)}(h:SlG bx x rows):SlB (pre++Rh pre.length bx) (Hn pre.length x) (rows.map fun r=>r.map (Hn pre.length)):=by
 rcases h with⟨b,ex,rfl,h⟩|⟨rfl,h,_⟩
 ·refine .inl ⟨b+pre.length,ex.map fun r=>r.map (Hn pre.length),by simp[Hn],?_⟩;rw[Gk (by omega),Ad8,Rh,Gl,h];simp
 ·exact .inr ⟨rfl,.no,Azc h⟩
theorem Ah3(d:Nat)(x:AV):Jo (Hn d x)=(Jo x).map (·+d):=by
 cases x with
 |sl l sp=>cases l<;>simp[Hn,Jo]
 |psl l t v=>cases l<;>simp[Hn,Jo]
 |_=>simp[Hn,Jo]
theorem Aba(d:Nat)(l:List Int):(Fe l).map (fun r=>r.map (Hn d))=Fe l:=by
 simp[Fe,Hn]
theorem Un(d:Nat)(l:List (Bool×Int)):(I9 l).map (fun r=>r.map (Hn d))=I9 l:=by
 simp[I9,Hn]
theorem SlB.fz{S:St}{x:AV}{rows rows':List (List AV)}(h:SlB S.boxes x rows)(hl:rows.length≤1000000000000)(hlen:rows'.length=rows.length)(hll:∀(i:Nat)(r r':List AV),rows[i]?=some r→rows'[i]?=some r'→r'.length=r.length)
 (hz:∀(i j:Nat)(r r':List AV)(x y:AV),rows[i]?=some r→rows'[i]?=some r'→r[j]?=some x→r'[j]?=some y→Fz S 0 0 x y):Fz S 0 0 x (.sl rows' .no):=by
 rcases h with⟨b,ex,rfl,h⟩|⟨rfl,sp,rfl⟩
 ·have hg:∀{i:Nat} {r:List AV},i<rows'.length→(rows++ex)[i]?=some r→rows[i]?=some r:=fun{i r} hi h=>by rw[Cs (by omega)]at h;exact h
  refine .bsl b rows.length (rows++ex) rows' (B3 _) h (by simp) (by unfold Pg;omega) hlen (fun i r r' h1 h2=>hll i r r' (hg (Aa h2) h1) h2) (fun i j r r' x y h1 h2 h3 h4=>hz i j r r' x y (hg (Aa h2) h1) h2 h3 h4)
 ·have:rows'=[]:=zzq94.1 hlen;subst this;exact .strip [] [] sp rfl (fun i r r' h=>by simp at h) (fun i j r r' x y h=>by simp at h)
theorem SlB.flat{S:St}{x:AV}{rows:List (List AV)}(h:SlB S.boxes x rows)(hl:rows.length≤1000000000000)(hok:OKR 0 0 rows):Fz S 0 0 x (.sl rows .no):=by
 refine h.fz hl rfl (fun i r r' h1 h2=>by rw[h1]at h2;cases h2;rfl) fun i j r r' x y h1 h2 h3 h4=>?_;rw[h1]at h2;cases h2;rw[h3]at h4;cases h4;exact .same _ (hok.ok r (Bh h1) x (Bh h3))
def Chg(ids:List Nat)(bx bx':List (List (List AV))):Prop:=bx.length≤bx'.length∧∀b,b<bx.length→b∉ids→bx'[b]?=bx[b]?
theorem Chg.refl(ids:List Nat)(bx:List (List (List AV))):Chg ids bx bx:=⟨Bo _,fun _ _ _=>rfl⟩
theorem Chg.trans{a b:List Nat}{bx bx' bx'':List (List (List AV))}(h:Chg a bx bx')(h':Chg b bx' bx''):Chg (a++b) bx bx'':=
 ⟨Pb h.1 h'.1,fun i hl hi=>by rw[zzq45,not_or]at hi;exact(h'.2 i (Mz hl h.1) hi.2).trans (h.2 i hl hi.1)⟩
theorem Chg.more{a b:List Nat}{bx bx':List (List (List AV))}(h:Chg a bx bx')(hs:∀i,i∈a→i∈b):Chg b bx bx':=⟨h.1,fun i hl hi=>h.2 i hl fun hh=>hi (hs i hh)⟩
theorem Chg.snoc(ids:List Nat)(bx:List (List (List AV)))(r:List (List AV)):Chg ids bx (bx++[r]):=⟨by simp,fun b hl _=>Cs hl⟩
theorem Mk.chg{lo hi:Nat}{bx bx':List (List (List AV))}(h:Mk lo hi bx bx'):Chg ((List.range (hi-lo)).map (lo+·)) bx bx':=
 ⟨h.len,fun b hl hb=>h.far b hl (by
   rcases Gs b lo with h1|h1
   ·exact .inl h1
   ·refine .inr (Nat.le_of_not_lt fun h2=>hb (zzq66.2 ⟨b-lo,zzq53.2 (by omega),by omega⟩)))⟩
theorem SlB.chg{ids:List Nat}{bx bx':List (List (List AV))}{x:AV}{rows:List (List AV)}(h:SlB bx x rows)(hc:Chg ids bx bx')(hd:∀i,i∈Jo x→i∉ids):SlB bx' x rows:=by
 rcases h with⟨b,ex,rfl,h⟩|⟨rfl,sp,rfl⟩
 ·exact .inl ⟨b,ex,rfl,by rw[hc.2 b (Aa h) (hd b (by simp[Jo]))];exact h⟩
 ·exact .inr ⟨rfl,sp,rfl⟩
theorem SlB.more{bx bx':List (List (List AV))}{x:AV}{rows:List (List AV)}(h:SlB bx x rows):SlB (bx++bx') x rows:=by
 rcases h with⟨b,ex,rfl,h⟩|⟨rfl,sp,rfl⟩
 ·exact .inl ⟨b,ex,rfl,by rw[Cs (Aa h)];exact h⟩
 ·exact .inr ⟨rfl,sp,rfl⟩
structure CfB (Sl:List (List (List AV))→AV→List (List AV)→Prop)(bx:List (List (List AV)))(x:AV)(ids:List Nat)(c:Cf):Prop where
 ex:∃(V C:AV) (ys:List AV),x=.agg [vi c.pt,V,C,vi c.used,vi c.steps,vi c.trap,vi c.edge,vi c.acc]∧ids=Jo V++(Jo C++ys.flatMap Jo)∧ids.Nodup∧Sl bx V (Fe c.vars)∧Sl bx C (ys.map fun y=>[y]) ∧
  ys.length=c.cells.length∧∀(j:Nat) (y:AV) (l:List (Bool×Int)),ys[j]?=some y→c.cells[j]?=some l→Sl bx y (I9 l)
theorem CfB.held{pre bx:List (List (List AV))}{x:AV}{ids:List Nat}{c:Cf}(h:CfB SlG bx x ids c):CfB SlB (pre++Rh pre.length bx) (Hn pre.length x) (ids.map (·+pre.length)) c:=by
 obtain⟨V,C,ys,rfl,rfl,h3,h4,h5,h6,h7⟩:=h.ex;refine⟨Hn pre.length V,Hn pre.length C,ys.map (Hn pre.length),by simp[Hn,Sy],?_,?_,?_,?_,by simpa using h6,fun j y l hy hl=>?_⟩
 ·simp only[Kr,Ah3,List.map_flatMap,List.flatMap_map]
 ·exact List.Pairwise.map _ (fun a b h=>by simp only[ne_eq]at h⊢;omega) h3
 ·have:=h4.held (pre:=pre);rw[Aba]at this;exact this
 ·have:=h5.held (pre:=pre);rw[List.map_map]at this;rw[List.map_map];exact this
 ·rw[Gl]at hy;cases hy':ys[j]? with
  |none=>rw[hy']at hy;cases hy
  |some y0=>
   rw[hy']at hy;cases hy;have:=(h7 j y0 l hy' hl).held (pre:=pre);rw[Un]at this;exact this
theorem CfB.more{bx bx':List (List (List AV))}{x:AV}{ids:List Nat}{c:Cf}(h:CfB SlB bx x ids c):CfB SlB (bx++bx') x ids c:=by
 obtain⟨V,C,ys,h1,h2,h3,h4,h5,h6,h7⟩:=h.ex;exact⟨V,C,ys,h1,h2,h3,h4.more,h5.more,h6,fun j y l hy hl=>(h7 j y l hy hl).more⟩
theorem CfB.chg{js:List Nat}{bx bx':List (List (List AV))}{x:AV}{ids:List Nat}{c:Cf}(h:CfB SlB bx x ids c)(hc:Chg js bx bx')(hd:∀i,i∈ids→i∉js):CfB SlB bx' x ids c:=by
 obtain⟨V,C,ys,h1,h2,h3,h4,h5,h6,h7⟩:=h.ex;refine⟨V,C,ys,h1,h2,h3,h4.chg hc fun i hi=>hd i (by simp[h2,hi]),h5.chg hc fun i hi=>hd i (by simp[h2,hi]),h6,fun j y l hy hl=>(h7 j y l hy hl).chg hc fun i hi=>hd i ?_⟩;rw[h2,zzq45,zzq45,zzq106];exact .inr (.inr ⟨y,Bh hy,hi⟩)
theorem CfB.fzC{S:St}{x:AV}{ids:List Nat}{c:Cf}(h:CfB SlB S.boxes x ids c)(hc:CfOk c):∃cs,x=.agg cs∧cs.length=8∧∀(j:Nat)(a b:AV),cs[j]?=some a→(G4 c)[j]?=some b→Fz S 0 0 a b:=by
 obtain⟨V,C,ys,rfl,_,_,h4,h5,h6,h7⟩:=h.ex;have l1:=hc.vars;have l2:=hc.cells;have fV:Fz S 0 0 V (.sl (Fe c.vars) .no):=h4.flat (by rw[D9];omega) inferInstance;have fC:Fz S 0 0 C (.sl (Ov c.cells) .no):=by
  refine h5.fz (by simp;omega) (by rw[X9];simp[h6]) (fun i r r' h1 h2=>?_) fun i j r r' x y h1 h2 h3 h4=>?_
  ·rw[Gl]at h1;cases hy:ys[i]? with
   |none=>rw[hy]at h1;cases h1
   |some y=>
    rw[hy]at h1;cases h1;simp only[Ov,Gl]at h2;cases hl:c.cells[i]? with
    |none=>rw[hl]at h2;cases h2
    |some l=>rw[hl]at h2;cases h2;rfl
  ·rw[Gl]at h1;cases hy:ys[i]? with
   |none=>rw[hy]at h1;cases h1
   |some y0=>
    rw[hy]at h1;cases h1;simp only[Ov,Gl]at h2;cases hl:c.cells[i]? with
    |none=>rw[hl]at h2;cases h2
    |some l=>
     rw[hl]at h2;cases h2;have hj:j=0:=by have:=Aa h3;simp at this;omega
     subst hj;simp at h3 h4;subst h3;subst h4;exact(h7 i _ l hy hl).flat (by have:=hc.rows l (Bh hl);rw[G5];omega) inferInstance
 refine⟨_,rfl,rfl,fun j a b ha hb=>?_⟩
 match j,ha,hb with
 |0,ha,hb=>simp at ha hb;subst ha;subst hb;exact .same _ (.val _)
 |1,ha,hb=>simp at ha hb;subst ha;subst hb;exact fV
 |2,ha,hb=>simp at ha hb;subst ha;subst hb;exact fC
 |3,ha,hb=>simp at ha hb;subst ha;subst hb;exact .same _ (.val _)
 |4,ha,hb=>simp at ha hb;subst ha;subst hb;exact .same _ (.val _)
 |5,ha,hb=>simp at ha hb;subst ha;subst hb;exact .same _ (.val _)
 |6,ha,hb=>simp at ha hb;subst ha;subst hb;exact .same _ (.val _)
 |7,ha,hb=>simp at ha hb;subst ha;subst hb;exact .same _ (.val _)
 |j+8,ha,_=>simp at ha
theorem CfB.fz{S:St}{x:AV}{ids:List Nat}{c:Cf}(h:CfB SlB S.boxes x ids c)(hc:CfOk c):Fz S 0 0 x (cf c):=by
 obtain⟨cs,rfl,h1,h2⟩:=h.fzC hc;exact .agg _ _ h1.symm h2
def Xv:List Int→List Int→Option (List Nat)
 |[],[]=>some []
 |[],_::_=>none
 |s::ss,ls=>if s<0 then(match ls with
   |[]=>none
   |l::ls'=>if Bl l 0 60 then(Xv ss ls').map (l.toNat::·)else none)else(Xv ss ls).map (s.toNat::·)
def bgC(nv:Nat)(cs:List Nat):Cf:=⟨0,List.replicate nv 0,cs.map fun k=>List.replicate k (false,0),0,0,0,0,0⟩
def zC:Cf:=⟨0,[],[],0,0,0,0,0⟩
theorem Akh{n:Nd}(hr:Fy n=true):∀s,s∈Ei n→s≤1000000:=by
 intro s hs;obtain⟨x,hx,rfl⟩:=zzq66.1 hs;have hx':=(zzq56.1 hx).1;have hF:=(Iz hr).1;cases hF with
 |mk ds l hd hl=>
  simp only[Gh,List.dropLast_concat]at hx';have:=hd x hx';cases this with
  |var s h=>simp[Nd.num]
  |arr s m h h0 h1=>simpa[Nd.num]using h1
theorem Ag4:∀{ss ls:List Int}{cs:List Nat},Xv ss ls=some cs→cs.length=ss.length
 |[],[],cs,h=>by simp[Xv]at h;simp[←h]
 |[],_::_,cs,h=>by simp[Xv]at h
 |s::ss,ls,cs,h=>by
  simp only[Xv]at h;split at h
  ·split at h
   ·cases h
   ·split at h
    ·obtain⟨r,hr,rfl⟩:=zzq102.1 h;simp[Ag4 hr]
    ·cases h
  ·obtain⟨r,hr,rfl⟩:=zzq102.1 h;simp[Ag4 hr]
def Ah1(n:Nat)(s:List UInt8):List UInt8:=if h:n=0 then s else Ah1 (n/10) (UInt8.ofNat (48+n%10)::s)
theorem Azk(k:Nat)(h1:1≤k)(h2:k≤100000000000):Pure X 60 [vi k] (str (109::Ah1 k [])):=by
 refine Pure.run func60 ?_;refine Ag ?_ (ht:=Mc (by omega));refine Ar (ι:=Nat×List UInt8) 0 0 (fun i=>i.1≤k∧i.2.length+i.1≤k∧Ah1 i.1 i.2=Ah1 k []) (fun i=>[(0,vi i.1),(3,str i.2)]) (fun _=>⟨[],[]⟩) (fun i=>i.1) ?_ (k,[]) ⟨Bo _,by simp,rfl⟩
  ⟨rfl,rfl,trivial⟩
 intro i hi IH;obtain⟨m,s⟩:=i;obtain⟨hm,hl,he⟩:=hi;simp only at hm hl he;refine C7 (fun h=>?_) (fun h=>?_)
 ·have h':0<m:=by have:=A5 h;simp only at this;omega
  have hd:(m:Int).tdiv 10=((m/10:Nat):Int):=by rw[Int.tdiv_eq_ediv_of_nonneg (by omega)];omega
  have hr:((m:Int).tmod 10)=((m%10:Nat):Int):=by rw[Int.tmod_eq_emod_of_nonneg (by omega)];omega
  refine Bn (Acp (s:=[UInt8.ofNat (48+m%10)]) rfl rfl rfl rfl rfl rfl rfl rfl rfl rfl ?_) ?_
  ·show [[_]]=[[_]]
   simp only[hr,W7 (m%10) (by omega)]
  refine Bn (Rq rfl rfl rfl rfl rfl ?_ rfl) ?_
  ·simp;omega
  refine IH (m/10,UInt8.ofNat (48+m%10)::s) ⟨by simp only;omega,by simp;omega,?_⟩ (by simp only;omega) _ _ ⟨Ci ?_,rfl,trivial⟩ rfl rfl rfl
  ·rw[←he];conv=>rhs;rw[Ah1]
   rw[dif_neg (by omega)]
  ·simp only[hd];exact Ac (by omega) (by omega)
 ·have h':m=0:=by have:=Ba h;simp only at this;omega
  subst h';have:Ah1 0 s=s:=by rw[Ah1];rfl
  rw[this]at he;simp only[Px]at hl;refine Bn (Rq rfl rfl rfl rfl rfl ?_ rfl) ?_
  ·simp;omega
  refine As func60 ?_;rw[←he];rfl
mutual
def mcN:Nd→Nat
 |.mk _ _ _ ks=>mcL ks
def mcL:List Nd→Nat
 |[]=>0
 |x::l=>3+mcN x+mcL l
end
theorem A1x(n:Nd):mcN n=mcL n.kids:=by cases n;simp[mcN,Nd.kids]
theorem Ah0:∀l l':List Nd,mcL (l++l')=mcL l+mcL l'
 |[],l'=>by simp[mcL]
 |x::l,l'=>by simp[mcL,Ah0 l l'];omega
def MkP(lo hi:Nat)(S:St)(k:Nat)(r:AV)(S':St):Prop:=r=vi k∧S'.toks=S.toks∧Mk lo hi S.boxes S'.boxes
theorem Aoe:∀l:List Nd,l.length≤mcL l
 |[]=>B3 _
 |x::l=>by have:=Aoe l;simp[mcL];omega
theorem Amc{lo hi b i:Nat}{S:St}{rows:List (List AV)}{a1 a2 a3:Value}{x:AV}(h12:lo≤b∧b<hi)(hb:S.boxes[b]?=some rows)(hr:rows[i]?=some [.val a1,.val a2,.val a3,x])(b1 b2 b3:Value) :
 ∃S2 rows2,S2=(⟨S.boxes.set b (rows.set i [.val b1,.val b2,.val b3,x]),S.toks⟩:St)∧S2.boxes[b]?=some rows2∧rows2[i]?=some [.val b1,.val b2,.val b3,x]∧Mk lo hi S.boxes S2.boxes∧S2.toks=S.toks:=
 ⟨_,_,rfl,Eh (Aa hb),Eh (Aa hr),Mk.set h12.1 h12.2 hb hr,rfl⟩
theorem Avh(n:Nd):∀{lo hi b:Nat}{S:St}{k:Nat},Zo false lo hi S.boxes b n→1≤k→k+mcN n≤100000000000 →
 Runs X 59 [.bsl b n.kids.length,vi k] S (MkP lo hi S (k+mcN n)):=by
 induction n using Nd.ind with
 |h n ih=>
 intro lo hi b S k hT hk1 hk2;rw[A1x]at hk2⊢;have hlm:=Aoe n.kids;refine Runs.run func59 ?_;refine Io (ι:=Nat×St) (fun i=>i.1≤n.kids.length∧i.2.toks=S.toks∧Mk lo hi S.boxes i.2.boxes) (fun i=>[(5,vi i.1),(1,vi ((k+mcL (n.kids.take i.1):Nat):Int)),(0,.bsl b n.kids.length)]) (fun i=>i.2) (fun i=>n.kids.length-i.1) ?_ (0,S)
  ⟨B3 _,rfl,Mk.refl _ _ _⟩ ⟨rfl,rfl,rfl,trivial⟩ rfl
 intro i hi IH;obtain⟨i,S1⟩:=i;obtain⟨hi,ht,hM⟩:=hi;simp only at hi ht hM;refine C7 (fun g=>?_) (fun g=>?_)
 ·have hlt:i<n.kids.length:=by have:=A5 g;simp only at this;omega
  obtain⟨x,hx⟩:=Ab n.kids hlt;have hxm:=Bh hx;have hmc:mcL (n.kids.take (i+1))=mcL (n.kids.take i)+(3+mcN x):=by rw[G8,hx,Aav,Ah0];simp[mcL]
  have hle:mcL (n.kids.take (i+1))≤mcL n.kids:=by
   have h0:mcL n.kids=mcL (n.kids.take (i+1))+mcL (n.kids.drop (i+1)):=by rw[←Ah0,Aee]
   omega
  have hT1:=hM.tree n hT;obtain⟨hb12,rows,hb,hR⟩:=Mr.1 hT1;obtain⟨r,c,hr,⟨a1,a2,a3,rfl,_⟩,hTx⟩:=Rt hR i x hx;generalize hq:mcL (n.kids.take i)=q at *;have e1:IntKind.i64.wrap (((k+q:Nat):Int)+1)=((k+q+1:Nat):Int):=by rw[Ac (by omega) (by omega)];omega
  have e2:IntKind.i64.wrap (IntKind.i64.wrap (((k+q:Nat):Int)+1)+1)=((k+q+2:Nat):Int):=by rw[e1,Ac (by omega) (by omega)];omega
  have e3:IntKind.i64.wrap (IntKind.i64.wrap (IntKind.i64.wrap (((k+q:Nat):Int)+1)+1)+1)=((k+q+3:Nat):Int):=by rw[e2,Ac (by omega) (by omega)];omega
  have p1:=Azk (k+q+1) (by omega) (by omega);rw[←e1]at p1;obtain⟨S2,rows2,hS2,hb2,hr2,hM2,ht2⟩:=Amc hb12 hb hr (.int .i64 ((k+q:Nat):Int)) a2 a3;obtain⟨S3,rows3,hS3,hb3,hr3,hM3,ht3⟩:=Amc hb12 hb2 hr2 (.int .i64 ((k+q:Nat):Int)) (.string ⟨⟨109::Ah1 (k+q+1) []⟩⟩) a3;obtain⟨S4,rows4,hS4,hb4,hr4,hM4,ht4⟩:=Amc hb12 hb3 hr3 (.int .i64 ((k+q:Nat):Int)) (.string ⟨⟨109::Ah1 (k+q+1) []⟩⟩) (.int .i64 (IntKind.i64.wrap (IntKind.i64.wrap (((k+q:Nat):Int)+1)+1)));have hM4':=((hM.trans hM2).trans hM3).trans hM4;have hTx4:=(((hM2.trans hM3).trans hM4).tree x hTx)
  have ih4:=@ih x hxm _ _ _ _ (k+q+3) hTx4 (by omega) (by omega);have e3':(vi ((k+q+3:Nat):Int))=vi (IntKind.i64.wrap (IntKind.i64.wrap (IntKind.i64.wrap (((k+q:Nat):Int)+1)+1)+1)):=by rw[e3]
  rw[e3']at ih4;refine Jr i hlt hb hr rfl ?_;refine Mn hb hr rfl ?_;refine Be S2 ?_ hS2.symm;refine Al p1 ?_;refine Jr i hlt hb2 hr2 rfl ?_;refine Mn hb2 hr2 rfl ?_;refine Be S3 ?_ hS3.symm;refine Jr i hlt hb3 hr3 rfl ?_;refine Mn hb3 hr3 rfl ?_;refine Be S4 ?_ hS4.symm;refine Jr i hlt hb4 hr4 rfl ?_;refine Hc hb4 hr4 ?_;refine G3 ih4 ?_;intro r5 S5 hP _ _;obtain⟨rfl,ht5,hM5⟩:=hP;refine Bi 100 rfl ?_;refine IH (i+1,S5) ⟨hlt,by rw[ht5,ht4,ht3,ht2];exact ht,hM4'.trans hM5⟩ (by simp only;omega) _ _ ⟨Ci ((Ac (by omega) (by omega)).trans (by simp only;omega)),?_,rfl,trivial⟩ rfl;exact Ci (by simp only[hmc];omega)
 ·have:i=n.kids.length:=by have:=Ba g;simp only at this;omega
  subst this;rw[I2];refine Bc func59 (h:=rfl) ⟨_,rfl,rfl,ht,hM⟩
theorem Azj(n:Nd){lo hi b:Nat}{S:St}{k:Nat}(hT:Zo false lo hi S.boxes b n)(hk1:1≤k)(hk2:k+mcN n≤100000000000) :
 Runs X 16 [.agg [vi n.kind,str n.name,vi n.num,.bsl b n.kids.length],vi k] S (MkP lo hi S (k+mcN n)):=by
 have hM:=Mk.snoc lo hi S.boxes [[vi n.kind,str n.name,vi n.num,.bsl b n.kids.length]];refine Runs.run func16 ?_;refine Tr rfl rfl ?_;have hb:(S.boxes++[[[vi n.kind,str n.name,vi n.num,AV.bsl b n.kids.length]]])[S.boxes.length]?=some [[vi n.kind,str n.name,vi n.num,.bsl b n.kids.length]]:=by simp
 have hr:([[vi n.kind,str n.name,vi n.num,AV.bsl b n.kids.length]]:List (List AV))[0]?=some [vi n.kind,str n.name,vi n.num,.bsl b n.kids.length]:=rfl;refine Hc hb hr ?_;refine G3 (Avh n (S:=⟨_,S.toks⟩) (hM.tree n hT) hk1 hk2) ?_;intro r S2 hP _ _;obtain⟨rfl,ht,hM2⟩:=hP;refine Bi 100 rfl ?_;exact Bc func16 (h:=rfl) ⟨_,rfl,rfl,ht,hM.trans hM2⟩
end Go.V
