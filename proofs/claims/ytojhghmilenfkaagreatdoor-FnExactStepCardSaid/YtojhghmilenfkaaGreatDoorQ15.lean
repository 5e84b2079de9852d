/- A part of the proof of the claim that the last text states: no condition of its own. -/
import Derived.Test.YtojhghmilenfkaaGreatDoorQ14
set_option linter.unusedVariables false
set_option linter.unusedSimpArgs false
namespace Go.V
open Go Go.Proofs Go.ChangeShapes Go.WideShapes Go.ChangeAt Go.RowKit
set_option maxRecDepth 100000
abbrev inl(l:List Int):AV:=.sl (Fh l) .no
abbrev Aou:Value:=.slice none 0 0
theorem Ayf{H:Type}{enc:TypeId×Value→H}{W:World}{base:Nat}{v:Value}{d:DataW H}{ps:List MemPlace}(hv:Value.okWide Tryz.prog W .any base 37 v)(h:DataW.Trod enc Tryz.prog W 0 (fun _=>true) true 37 v d ps) :
 ∃l:List Int,l.length≤9223372036854775807∧Rel E0 W v (inl l):=by
 obtain⟨a0,len,cap,rfl⟩:=okWide_slice Tryz.underlying37 hv;obtain⟨fuel,h⟩:=h;obtain⟨l,h0,h2⟩:=Agx fuel _ _ h;exact⟨l,h0,RelL.get1 h2⟩
end Go.V
namespace Go.V
open Go Go.Proofs Go.Proofs.Tryz
def Fr(p:Nat)(l:List Eg):List Eg:=l.filter fun e=>e.f==(p:Int)
theorem Mc(p:Nat)(a b:List Eg):Fr p (a++b)=Fr p a++Fr p b:=Aev ..
theorem Asz(p:Nat)(e:Eg):Fr p [e]=if e.f=(p:Int)then[e]else[]:=by
 by_cases h:e.f=(p:Int)
 ·simp[Fr,h]
 ·simp[Fr,h]
theorem Xn{p:Nat}{e:Eg}(h:e.f=(p:Int)):Fr p [e]=[e]:=by rw[Asz,if_pos h]
theorem Afe{p:Nat}{e:Eg}(h:¬e.f=(p:Int)):Fr p [e]=[]:=by rw[Asz,if_neg h]
def Yj(p:Nat)(l:List Eg):Prop:=(∃e,l=[e]∧¬e.k=4)∨∃t1 t2 c,l=[⟨p,t1,4,true,c⟩,⟨p,t2,4,false,c⟩]
structure Pc (lo hi a b:Nat)(l:List Eg):Prop where
 none:∀p,p≠a→p<lo∨hi≤p→Fr p l=[]
 last:Fr b l=[]
 done:(l=[]∧lo=hi∧b=a)∨(lo≤b∧b<hi∧Yj a (Fr a l)∧∀p,lo≤p→p<hi→p≠b→Yj p (Fr p l))
theorem Pc.trans{lo mid hi a b c:Nat}{l1 l2:List Eg}(h1:Pc lo mid a b l1)(h2:Pc mid hi b c l2)(ha:a<lo)(h3:lo≤mid)(h4:mid≤hi):Pc lo hi a c (l1++l2):=by
 have hb:b=a∨(lo≤b∧b<mid):=by rcases h1.done with⟨_,_,h⟩|⟨h,h',_⟩<;>omega
 have hc:c=b∨(mid≤c∧c<hi):=by rcases h2.done with⟨_,_,h⟩|⟨h,h',_⟩<;>omega
 refine⟨fun p hp hr=>?_,?_,?_⟩
 ·rw[Mc,h1.none p hp (by omega),h2.none p (by omega) (by omega)];rfl
 ·rw[Mc,h2.last,I4];rcases h2.done with⟨_,_,rfl⟩|⟨q1,q2,_⟩
  ·exact h1.last
  ·exact h1.none c (by omega) (by omega)
 ·rcases h1.done with⟨rfl,rfl,rfl⟩|⟨p1,p2,p3,p4⟩
  ·exact h2.done
  ·rcases h2.done with⟨rfl,rfl,rfl⟩|⟨q1,q2,q3,q4⟩
   ·rw[I4];exact .inr ⟨p1,p2,p3,p4⟩
   ·refine .inr ⟨by omega,q2,?_,fun p g1 g2 g3=>?_⟩
    ·rw[Mc,h2.none a (by omega) (by omega),I4];exact p3
    ·rw[Mc];rcases Ga p mid with hm|hm
     ·by_cases hpb:p=b
      ·subst hpb;rw[h1.last];exact q3
      ·rw[h2.none p hpb (.inl hm),I4];exact p4 p g1 hm hpb
     ·rw[h1.none p (by omega) (.inr hm)];exact q4 p hm g2 g3
structure Cl (lo hi a:Nat)(l:List Eg):Prop where
 none:∀p,p≠a→p<lo∨hi≤p→Fr p l=[]
 at_:Yj a (Fr a l)
 done:∀p,lo≤p→p<hi→Yj p (Fr p l)
theorem Pc.close{lo hi a b:Nat}{l:List Eg}{e:Eg}(h:Pc lo hi a b l)(ha:a<lo)(he:e.f=(b:Int))(hk:¬e.k=4):Cl lo hi a (l++[e]):=by
 have key:∀p,p≠b→Fr p (l++[e])=Fr p l:=fun p hp=>by rw[Mc,Afe (by rw[he];omega),I4]
 have kb:Fr b (l++[e])=[e]:=by rw[Mc,h.last,Xn he];rfl
 rcases h.done with⟨rfl,rfl,rfl⟩|⟨p1,p2,p3,p4⟩
 ·exact⟨fun p hp _=>by rw[key p hp];rfl,by rw[kb];exact .inl ⟨e,rfl,hk⟩,fun p _ _=>by omega⟩
 ·refine⟨fun p hp hr=>by rw[key p (by omega)];exact h.none p hp hr,by rw[key a (by omega)];exact p3,fun p g1 g2=>?_⟩;by_cases hpb:p=b
  ·subst hpb;rw[kb];exact .inl ⟨e,rfl,hk⟩
  ·rw[key p hpb];exact p4 p g1 g2 hpb
structure Out (g g':Gr):Prop where
 es:∃l,g'.es=g.es++l∧Pc g.pts g'.pts g.pt g'.pt l
 pts:g.pts≤g'.pts
 pt:g'.pt<g'.pts
theorem Out.refl{g:Gr}(h:g.pt<g.pts):Out g g:=⟨⟨[],by simp,⟨fun _ _ _=>rfl,rfl,.inl ⟨rfl,rfl,rfl⟩⟩⟩,Bt _,h⟩
theorem Out.trans{g g' g'':Gr}(hp:g.pt<g.pts)(h:Out g g')(h':Out g' g''):Out g g'':=by
 obtain⟨l1,e1,p1⟩:=h.es;obtain⟨l2,e2,p2⟩:=h'.es;exact⟨⟨l1++l2,by rw[e2,e1,Gv],p1.trans p2 hp h.pts h'.pts⟩,Vt h.pts h'.pts,h'.pt⟩
theorem Ao8{g:Gr}(hp:g.pt<g.pts){e:Eg}(he:e.f=(g.pt:Int))(hk:¬e.k=4):Pc g.pts (g.pts+1) g.pt g.pts [e]:=
 ⟨fun p h _=>Afe (by rw[he];omega),Afe (by rw[he];omega),.inr ⟨Bt _,by omega,by rw[Xn he];exact .inl ⟨e,rfl,hk⟩,fun p h1 h2 h3=>by omega⟩⟩
theorem Rc(k:Int)(n:Nd){g:Gr}(hp:g.pt<g.pts)(hk:¬k=4):Out g (Dt k n g):=⟨⟨_,rfl,Ao8 hp rfl hk⟩,by simp[Dt],by simp[Dt]⟩
theorem Av5{g:Gr}(hp:g.pt<g.pts):Out g (Pj g):=⟨⟨_,rfl,Ao8 hp rfl (by simp)⟩,by simp[Pj],by simp[Pj]⟩
theorem A2m{c:Nd}{f1 f2:Gr→Gr}(h1:∀g:Gr,g.pt<g.pts→Out g (f1 g))(h2:∀g:Gr,g.pt<g.pts→Out g (f2 g)){g:Gr}(hp:g.pt<g.pts):Out g (gIf c f1 f2 g):=by
 have o1:=h1 (Ei g.pt c true g) (by simp[Ei]);have o2:=h2 (Ei g.pt c false (f1 (Ei g.pt c true g))) (by simp[Ei]);obtain⟨l1,e1,p1⟩:=o1.es;obtain⟨l2,e2,p2⟩:=o2.es;have b1:=o1.pts;have b2:=o2.pts;have c1:=o1.pt;have c2:=o2.pt;unfold gIf;generalize hA:f1 (Ei g.pt c true g)=A at *;generalize hB:f2 (Ei g.pt c false A)=B at *;simp only[Ei]at e1 p1 b1 c1 e2 p2 b2;refine⟨⟨[⟨g.pt,g.pts,4,true,c⟩]++(l1++([⟨g.pt,A.pts,4,false,c⟩]++(l2++([⟨A.pt,B.pts,6,false,Cm⟩]++[⟨B.pt,B.pts,6,false,Cm⟩])))),by simp[Oi,Jd,e2,e1],?_⟩,by simp[Oi,Jd];omega,by simp[Oi,Jd]⟩;have k1:=p1.close (e:=⟨A.pt,B.pts,6,false,Cm⟩) (by omega) rfl (by simp);have k2:=p2.close (e:=⟨B.pt,B.pts,6,false,Cm⟩) (by omega) rfl (by simp);have hAp:A.pt=g.pts∨(g.pts+1≤A.pt∧A.pt<A.pts):=by rcases p1.done with⟨_,_,h⟩|⟨h,h',_⟩<;>omega
 have hBp:B.pt=A.pts∨(A.pts+1≤B.pt∧B.pt<B.pts):=by rcases p2.done with⟨_,_,h⟩|⟨h,h',_⟩<;>omega
 show Pc g.pts (B.pts+1) g.pt B.pts _;have tot:∀p,Fr p ([⟨g.pt,g.pts,4,true,c⟩]++(l1++([⟨g.pt,A.pts,4,false,c⟩]++(l2++([⟨A.pt,B.pts,6,false,Cm⟩]++[⟨B.pt,B.pts,6,false,Cm⟩]))))) =
  Fr p [⟨g.pt,g.pts,4,true,c⟩]++(Fr p l1++(Fr p [⟨g.pt,A.pts,4,false,c⟩]++(Fr p l2++(Fr p [⟨A.pt,B.pts,6,false,Cm⟩]++Fr p [⟨B.pt,B.pts,6,false,Cm⟩])))):=fun p=>by simp only[Mc]
 have n1:∀p,p≠g.pt→∀t y,Fr p [⟨g.pt,t,4,y,c⟩]=[]:=fun p hp t y=>Afe (by simp only;omega);have atA:∀p,(p=g.pts∨(g.pts+1≤p∧p<A.pts))→Yj p (Fr p (l1++[⟨A.pt,B.pts,6,false,Cm⟩])):=fun p hp=>by
  rcases hp with rfl|⟨h,h'⟩
  ·exact k1.at_
  ·exact k1.done p h h'
 have atB:∀p,(p=A.pts∨(A.pts+1≤p∧p<B.pts))→Yj p (Fr p (l2++[⟨B.pt,B.pts,6,false,Cm⟩])):=fun p hp=>by
  rcases hp with rfl|⟨h,h'⟩
  ·exact k2.at_
  ·exact k2.done p h h'
 have zA:∀p,p≠g.pts→p<g.pts+1∨A.pts≤p→Fr p l1=[]∧Fr p [⟨A.pt,B.pts,6,false,Cm⟩]=[]:=fun p h h'=>by
  have:=k1.none p h h';rw[Mc,List.append_eq_nil_iff]at this;exact this
 have zB:∀p,p≠A.pts→p<A.pts+1∨B.pts≤p→Fr p l2=[]∧Fr p [⟨B.pt,B.pts,6,false,Cm⟩]=[]:=fun p h h'=>by
  have:=k2.none p h h';rw[Mc,List.append_eq_nil_iff]at this;exact this
 refine⟨fun p h h'=>?_,?_,.inr ⟨by omega,by omega,?_,fun p h h' h''=>?_⟩⟩
 ·rw[tot,n1 p h,n1 p h,(zA p (by omega) (by omega)).1,(zA p (by omega) (by omega)).2,(zB p (by omega) (by omega)).1,(zB p (by omega) (by omega)).2];rfl
 ·rw[tot,n1 _ (by omega),n1 _ (by omega),(zA _ (by omega) (by omega)).1,(zA _ (by omega) (by omega)).2,(zB _ (by omega) (by omega)).1,(zB _ (by omega) (by omega)).2];rfl
 ·rw[tot,(zA _ (by omega) (by omega)).1,(zA _ (by omega) (by omega)).2,(zB _ (by omega) (by omega)).1,(zB _ (by omega) (by omega)).2,Xn rfl,Xn rfl];exact .inr ⟨_,_,_,rfl⟩
 ·rw[tot,n1 p (by omega),n1 p (by omega)];rcases Ga p A.pts with hA'|hA'
  ·rw[(zB p (by omega) (by omega)).1,(zB p (by omega) (by omega)).2];have:=atA p (by omega);rw[Mc]at this;simpa using this
  ·rw[(zA p (by omega) (by omega)).1,(zA p (by omega) (by omega)).2];have:=atB p (by omega);rw[Mc]at this;simpa using this
theorem A4i{n a c:Nd}{f:Gr→Gr}(h1:∀g:Gr,g.pt<g.pts→Out g (f g)){g:Gr}(hp:g.pt<g.pts):Out g (gWh n a c f g):=by
 have o1:=h1 (Ei g.pts c true (Ic a n (Dt 6 Cm g))) (by simp[Ei]);obtain⟨l1,e1,p1⟩:=o1.es;have b1:=o1.pts;have c1:=o1.pt;unfold gWh;generalize hA:f (Ei g.pts c true (Ic a n (Dt 6 Cm g)))=A at *;simp only[Ei,Ic,Dt]at e1 p1 b1 c1;refine⟨⟨[⟨g.pt,g.pts,6,false,Cm⟩]++([⟨g.pts,(g.pts+1:Nat),4,true,c⟩]++(l1++([⟨A.pt,g.pts,6,false,Cm⟩]++[⟨g.pts,A.pts,4,false,c⟩]))),by simp[Uy,Ei,Ln,Jd,e1],?_⟩,by simp[Uy,Ei,Ln,Jd];omega,by simp[Uy,Ei,Ln,Jd]⟩;have k1:=p1.close (e:=⟨A.pt,g.pts,6,false,Cm⟩) (by omega) rfl (by simp);show Pc g.pts (A.pts+1) g.pt A.pts _;have tot:∀p,Fr p ([⟨g.pt,g.pts,6,false,Cm⟩]++([⟨g.pts,(g.pts+1:Nat),4,true,c⟩]++(l1++([⟨A.pt,g.pts,6,false,Cm⟩]++[⟨g.pts,A.pts,4,false,c⟩])))) =
  Fr p [⟨g.pt,g.pts,6,false,Cm⟩]++(Fr p [⟨g.pts,(g.pts+1:Nat),4,true,c⟩]++(Fr p l1++(Fr p [⟨A.pt,g.pts,6,false,Cm⟩]++Fr p [⟨g.pts,A.pts,4,false,c⟩]))):=fun p=>by simp only[Mc]
 have n0:∀p,p≠g.pt→Fr p [⟨g.pt,g.pts,6,false,Cm⟩]=[]:=fun p hp=>Afe (by simp only;omega);have n1:∀p,p≠g.pts→∀t y,Fr p [⟨g.pts,t,4,y,c⟩]=[]:=fun p hp t y=>Afe (by simp only;omega);have zA:∀p,p≠g.pts+1→p<g.pts+1+1∨A.pts≤p→Fr p l1=[]∧Fr p [⟨A.pt,g.pts,6,false,Cm⟩]=[]:=fun p h h'=>by
  have:=k1.none p h h';rw[Mc,List.append_eq_nil_iff]at this;exact this
 refine⟨fun p h h'=>?_,?_,.inr ⟨by omega,by omega,?_,fun p h h' h''=>?_⟩⟩
 ·rw[tot,n0 p h,n1 p (by omega),n1 p (by omega),(zA p (by omega) (by omega)).1,(zA p (by omega) (by omega)).2];rfl
 ·rw[tot,n0 _ (by omega),n1 _ (by omega),n1 _ (by omega),(zA _ (by omega) (by omega)).1,(zA _ (by omega) (by omega)).2];rfl
 ·rw[tot,n1 _ (by omega),n1 _ (by omega),(zA _ (by omega) (by omega)).1,(zA _ (by omega) (by omega)).2,Xn rfl];exact .inl ⟨_,rfl,by simp⟩
 ·rw[tot,n0 p (by omega)];by_cases hg:p=g.pts
  ·subst hg;rw[(zA _ (by omega) (by omega)).1,(zA _ (by omega) (by omega)).2,Xn rfl,Xn rfl];exact .inr ⟨_,_,_,rfl⟩
  ·rw[n1 p hg,n1 p hg];have:Yj p (Fr p (l1++[⟨A.pt,g.pts,6,false,Cm⟩])):=by
    by_cases hb:p=g.pts+1
    ·subst hb;exact k1.at_
    ·exact k1.done p (by omega) (by omega)
   rw[Mc]at this;simpa using this
theorem Ah3{l:List Nd}(h:∀x,x∈l→∀(a:Nd)(g:Gr),g.pt<g.pts→Out g (gS x a g)):∀(a:Nd)(g:Gr),g.pt<g.pts→Out g (gL l a g):=by
 induction l with
 |nil=>intro a g hp;exact .refl hp
 |cons x l ih=>
  intro a g hp;rw[Y5];have h1:=h x (by simp) a g hp;exact h1.trans hp (ih (fun y hy=>h y (by simp[hy])) x _ h1.pt)
theorem A1k{n:Nd}(h:PS n):∀(a:Nd)(g:Gr),g.pt<g.pts→Out g (gS n a g):=by
 induction h with
 |set s b h hb=>intro a g hp;rw[Aam];exact Rc _ _ hp (by omega)
 |put s b c h hb hc=>intro a g hp;rw[Aal];exact Rc _ _ hp (by omega)
 |read s h=>intro a g hp;rw[Wc];exact Rc _ _ hp (by omega)
 |ifs c l l' hc hl hl' ihl ihl'=>intro a g hp;rw[Afy];exact A2m (Ah3 ihl Cm) (Ah3 ihl' Cm) hp
 |whil c l hc hl ihl=>intro a g hp;rw[Afz];exact A4i (Ah3 ihl Cm) hp
 |check c hc=>intro a g hp;rw[Q9];exact Rc _ _ hp (by omega)
 |skip=>intro a g hp;rw[We];exact Rc _ _ hp (by omega)
 |stop=>intro a g hp;rw[Wg];exact Av5 hp
theorem Atx{l:List Nd}(h:∀x,x∈l→PS x):(D9 l).pt+1=(D9 l).pts∧∀p:Nat,p<(D9 l).pt→Yj p (Fr p (D9 l).es):=by
 have hp:(⟨1,0,[],[],[],0⟩:Gr).pt<(⟨1,0,[],[],[],0⟩:Gr).pts:=by simp
 have o1:=Ah3 (fun x hx=>A1k (h x hx)) Cm _ hp;have o2:=Rc 6 Cm o1.pt (by omega);have o:=o1.trans hp o2;refine⟨rfl,fun p hp'=>?_⟩;obtain⟨es,he,hP⟩:=o.es;have hes:(D9 l).es=es:=by unfold D9;rw[he];rfl
 rw[hes];simp only at hP;rcases hP.done with⟨_,h1,_⟩|⟨_,_,h3,h4⟩
 ·have:=o1.pts;simp[Dt]at h1 this;omega
 ·by_cases h0:p=0
  ·subst h0;exact h3
  ·exact h4 p (by omega) (by have:(D9 l).pts=_:=rfl;unfold D9 at hp';simp[Dt]at hp'⊢;omega) (by unfold D9 at hp';simp[Dt]at hp'⊢;omega)
theorem Aw0(p:Nat)(x:Int)(l:List Eg):Fr p (l.map (Ed x))=(Fr p l).map (Ed x):=by
 unfold Fr;rw[List.filter_map];congr 1;apply List.filter_congr;intro e _;simp only[Function.comp,Ed];split<;>rfl
theorem Axx{l:List Nd}(h:∀x,x∈l→PS x){p:Nat}(hp:(p:Int)<(D9 l).pts-1):Yj p (Fr p (Ia l)):=by
 obtain⟨h1,h2⟩:=Atx h;unfold Ia;rw[Aw0];rcases h2 p (by omega)with⟨e,h3,h4⟩|⟨t1,t2,c,h3⟩
 ·rw[h3];exact .inl ⟨_,rfl,by unfold Ed;split<;>exact h4⟩
 ·rw[h3];have ht:∀(x:Int) (e:Eg),Ed x e=⟨e.f,(Ed x e).t,e.k,e.y,e.n⟩:=fun x e=>by unfold Ed;split<;>rfl
  refine .inr ⟨(Ed (D9 l).pt ⟨p,t1,4,true,c⟩).t,(Ed (D9 l).pt ⟨p,t2,4,false,c⟩).t,c,?_⟩;rw[Om,Om,List.map_nil,ht,ht _ ⟨p,t2,4,false,c⟩]
def U8(vars arrs:List Ad)(n:Nd):Bool:=
 if G2 n.kind=31 then decide (Fe 0 vars n.name≥0)else if G2 n.kind=32 then decide (Fe 0 arrs n.name≥0)else true
mutual
def Fs(vars arrs:List (List UInt8)):Nd→Bool
 |.mk k s m ks=>U8 vars arrs (.mk k s m ks)&&Rb vars arrs ks
def Rb(vars arrs:List (List UInt8)):List Nd→Bool
 |[]=>true
 |x::l=>Fs vars arrs x&&Rb vars arrs l
end
theorem Ml(vars arrs:List Ad)(n:Nd):Fs vars arrs n=(U8 vars arrs n&&Rb vars arrs n.kids):=by cases n;rw[Fs];rfl
theorem Aoz(vars arrs:List Ad)(n:Nd):U8 vars arrs n=!Ih vars arrs 8 n.kind n.name:=by
 unfold U8 Ih;rcases Px n.kind with⟨h1,h2⟩|⟨h1,h2⟩|⟨h1,h2⟩<;>simp[h1,h2]
theorem A2q(vars arrs:List Ad)(n:Nd)(h:U8 vars arrs n=true):Ih vars arrs 7 n.kind n.name=false:=by
 unfold U8 at h;unfold Ih;rcases Px n.kind with⟨h1,h2⟩|⟨h1,h2⟩|⟨h1,h2⟩<;>simp[h1]at h<;>simp[h2,h]
theorem Amt(vars arrs:List Ad):(∀n:Nd,Fs vars arrs n=(!(Hk vars arrs 7 n).2&&!(Hk vars arrs 8 n).2))∧∀l:List Nd,Rb vars arrs l=(!(Nf vars arrs 7 l).2&&!(Nf vars arrs 8 l).2):=by
 refine Sd (fun k s m ks ih=>?_) rfl (fun x l hx hl=>?_)
 ·rw[Ml,Rv,Rv];cases h:U8 vars arrs (.mk k s m ks)with
  |true=>
   have h7:=A2q _ _ _ h;have h8:=Aoz vars arrs (.mk k s m ks);rw[h]at h8;have h8':Ih vars arrs 8 (Nd.mk k s m ks).kind (Nd.mk k s m ks).name=false:=by simpa using h8.symm
   rw[if_neg (by rw[h7];simp),if_neg (by rw[h8'];simp)];simpa using ih
  |false=>
   have h8:=Aoz vars arrs (.mk k s m ks);rw[h]at h8;have h8':Ih vars arrs 8 (Nd.mk k s m ks).kind (Nd.mk k s m ks).name=true:=by simpa using h8.symm
   rw[if_pos h8'];simp
 ·simp only[Rb,Nf];rw[hx,hl];cases h7:(Hk vars arrs 7 x).2<;>cases h8:(Hk vars arrs 8 x).2<;>simp[h7,h8]
theorem Aih{vs ars:List Ad}{k:Int}{s:Ad}{m:Int}{x:Nd}(h:Fs vs ars (.mk k s m [x])=true):Fs vs ars x=true:=by
 rw[Ml]at h;simp[Rb]at h;exact h.2
theorem Aas{vs ars:List Ad}{k:Int}{s:Ad}{m:Int}{x y:Nd}(h:Fs vs ars (.mk k s m [x,y])=true):Fs vs ars x=true∧Fs vs ars y=true:=by
 rw[Ml]at h;simp[Rb]at h;exact h.2
theorem Xa{vs ars:List Ad}{k:Int}{s:Ad}{m:Int}{l:List Nd}(h:Fs vs ars (.mk k s m l)=true):(G2 k=31→Fe 0 vs s≥0)∧(G2 k=32→Fe 0 ars s≥0):=by
 rw[Ml,Du]at h;have h1:=h.1;replace h1:(if G2 k=31 then decide (Fe 0 vs s≥0)else if G2 k=32 then decide (Fe 0 ars s≥0)else true)=true:=h1;constructor
 ·intro hw;rw[if_pos hw]at h1;exact A6 h1
 ·intro hw;rw[if_neg (by omega),if_pos hw]at h1;exact A6 h1
inductive PK (vs ars:List (List UInt8)):Nd→Prop
 |set (s:List UInt8) (a:Nd) (h:Fe 0 vs s≥0) (ha:FE a) (ka:Fs vs ars a=true):PK vs ars (.mk 21 s 0 [a])
 |put (s:List UInt8) (a b:Nd) (h:Fe 0 ars s≥0) (ha:FE a) (ka:Fs vs ars a=true) (hb:FE b) (kb:Fs vs ars b=true):PK vs ars (.mk 22 s 0 [a,b])
 |read (s:List UInt8) (h:Fe 0 vs s≥0):PK vs ars (.mk 23 s 0 [])
 |ifs (c:Nd) (l l':List Nd) (hc:FC c) (kc:Fs vs ars c=true) (hl:∀x,x∈l→PK vs ars x) (hl':∀x,x∈l'→PK vs ars x):PK vs ars (.mk 24 [] 0 [c,.mk 30 [] 0 l,.mk 30 [] 0 l'])
 |whil (c:Nd) (l:List Nd) (hc:FC c) (kc:Fs vs ars c=true) (hl:∀x,x∈l→PK vs ars x):PK vs ars (.mk 25 [] 0 [c,.mk 30 [] 0 l])
 |check (c:Nd) (hc:FC c) (kc:Fs vs ars c=true):PK vs ars (.mk 27 [] 0 [c])
 |skip:PK vs ars (.mk 28 [] 0 [])
 |stop:PK vs ars (.mk 29 [] 0 [])
section
variable {vs ars:List Ad}
theorem Aq1{l:List Nd}(h:Rb vs ars l=true):∀x,x∈l→Fs vs ars x=true:=by
 induction l with
 |nil=>intro x hx;cases hx
 |cons y l ih=>
  simp only[Rb,Du]at h;intro x hx;rcases zzq8.1 hx with rfl|hx
  ·exact h.1
  ·exact ih h.2 x hx
theorem Hh{n x:Nd}(h:Fs vs ars n=true)(hx:x∈n.kids):Fs vs ars x=true:=by
 rw[Ml,Du]at h;exact Aq1 h.2 x hx
theorem Pr{l:List Nd}(h:∀x,x∈l→∀y,y∈Hj x→PK vs ars y):∀y,y∈B4 l→PK vs ars y:=by
 induction l with
 |nil=>intro y hy;rw[A9]at hy;cases hy
 |cons x l ih=>
  intro y hy;rw[Au]at hy;rcases zzq26.1 hy with hy|hy
  ·exact h x (by simp) y hy
  ·exact ih (fun z hz=>h z (by simp[hz])) y hy
theorem A4s{n:Nd}(h:FS n):Fs vs ars n=true→∀y,y∈Hj n→PK vs ars y:=by
 induction h with
 |set s a h ha=>
  intro hk y hy;rw[Bj (by simp),Bi,Au,A9,I8 ha]at hy;simp at hy;subst hy;exact .set s a ((Xa hk).1 rfl) ha (Hh hk (by simp))
 |put s a b h ha hb=>
  intro hk y hy;rw[Bj (by simp),Bi,Au,Au,A9,I8 ha,I8 hb]at hy;simp at hy;subst hy;exact .put s a b ((Xa hk).2 rfl) ha (Hh hk (by simp)) hb (Hh hk (by simp))
 |read s h=>
  intro hk y hy;rw[Bj (by simp),Bi,A9]at hy;simp at hy;subst hy;exact .read s ((Xa hk).1 rfl)
 |ifs c l l' hc hl hl' ihl ihl'=>
  intro hk y hy;rw[Bj (by simp),Bi,Au,Au,Au,A9,Rk hc,Ls,Ls]at hy;simp at hy;subst hy;have k1:Fs vs ars (.mk 30 [] 0 l)=true:=Hh hk (by simp);have k2:Fs vs ars (.mk 30 [] 0 l')=true:=Hh hk (by simp);exact .ifs c _ _ hc (Hh hk (by simp)) (Pr fun x hx=>ihl x hx (Hh k1 (by simpa using hx))) (Pr fun x hx=>ihl' x hx (Hh k2 (by simpa using hx)))
 |whil c l hc hl ihl=>
  intro hk y hy;rw[Bj (by simp),Bi,Au,Au,A9,Rk hc,Ls]at hy;simp at hy;subst hy;have k1:Fs vs ars (.mk 30 [] 0 l)=true:=Hh hk (by simp);exact .whil c _ hc (Hh hk (by simp)) (Pr fun x hx=>ihl x hx (Hh k1 (by simpa using hx)))
 |for_ s a b l h ha hb hl ihl=>
  intro hk y hy;rw[Lg,Au,Au,Au,A9,I8 ha,I8 hb,Ls]at hy;simp only[R1,T8,Ae3,zzq8,Xh,or_false]at hy;have hi:Fe 0 vs s≥0:=(Xa hk).1 rfl;have kv:Fs vs ars (.mk 2 s 0 [])=true:=by rw[Ml];simp[Rb,U8,G2,Nd.kind,Nd.name,hi]
  have k1:Fs vs ars (.mk 1 [] 1 [])=true:=by rw[Ml];simp[Rb,U8,G2,Nd.kind]
  have kb:=Hh hk (x:=b) (by simp);rcases hy with rfl|rfl
  ·exact .set s a hi ha (Hh hk (by simp))
  ·refine .whil _ _ (.mk 11 _ _ (by omega) (by omega) (.var s h) hb) (by rw[Ml];simp[Rb,U8,G2,Nd.kind,kv,kb]) fun y hy=>?_;have k3:Fs vs ars (.mk 30 [] 0 l)=true:=Hh hk (by simp);rcases zzq26.1 hy with hy|hy
   ·exact Pr (fun x hx=>ihl x hx (Hh k3 (by simpa using hx))) y hy
   ·simp at hy;subst hy;exact .set s _ hi (.two 6 _ _ (.inl rfl) (.var s h) (.num 1 (by omega) (by omega))) (by rw[Ml];simp[Rb,U8,G2,Nd.kind,kv,k1])
 |check c hc=>
  intro hk y hy;rw[Bj (by simp),Bi,Au,A9,Rk hc]at hy;simp at hy;subst hy;exact .check c hc (Hh hk (by simp))
 |skip=>intro _ y hy;rw[Bj (by simp),Bi,A9]at hy;simp at hy;subst hy;exact .skip
 |stop=>intro _ y hy;rw[Bj (by simp),Bi,A9]at hy;simp at hy;subst hy;exact .stop
inductive EdK (vs ars:List (List UInt8)):Eg→Prop
 |set (f t:Int) (y:Bool) (s:List UInt8) (a:Nd) (h:Fe 0 vs s≥0) (ha:FE a) (ka:Fs vs ars a=true):EdK vs ars ⟨f,t,1,y,.mk 21 s 0 [a]⟩
 |put (f t:Int) (y:Bool) (s:List UInt8) (a b:Nd) (h:Fe 0 ars s≥0) (ha:FE a) (ka:Fs vs ars a=true) (hb:FE b) (kb:Fs vs ars b=true):EdK vs ars ⟨f,t,2,y,.mk 22 s 0 [a,b]⟩
 |read (f t:Int) (y:Bool) (s:List UInt8) (h:Fe 0 vs s≥0):EdK vs ars ⟨f,t,3,y,.mk 23 s 0 []⟩
 |guard (f t:Int) (y:Bool) (c:Nd) (hc:FC c) (kc:Fs vs ars c=true):EdK vs ars ⟨f,t,4,y,c⟩
 |check (f t:Int) (y:Bool) (c:Nd) (hc:FC c) (kc:Fs vs ars c=true):EdK vs ars ⟨f,t,5,y,c⟩
 |skip (f t:Int) (y:Bool) (n:Nd):EdK vs ars ⟨f,t,6,y,n⟩
 |stop (f t:Int) (y:Bool) (n:Nd):EdK vs ars ⟨f,t,7,y,n⟩
def EsK(vs ars:List Ad)(g:Gr):Prop:=∀e,e∈g.es→EdK vs ars e
theorem EsK.snoc{g:Gr}{e:Eg}(h:EsK vs ars g)(he:EdK vs ars e){es:List Eg}(hes:es=g.es++[e]):∀x,x∈es→EdK vs ars x:=by
 subst hes;intro x hx;rcases zzq26.1 hx with hx|hx
 ·exact h x hx
 ·simp at hx;subst hx;exact he
theorem Ah2{l:List Nd}(h:∀x,x∈l→∀(a:Nd)(g:Gr),EsK vs ars g→EsK vs ars (gS x a g)):∀(a:Nd)(g:Gr),EsK vs ars g→EsK vs ars (gL l a g):=by
 induction l with
 |nil=>intro a g hg;exact hg
 |cons x l ih=>
  intro a g hg;rw[Y5];exact ih (fun y hy=>h y (by simp[hy])) x _ (h x (by simp) a g hg)
theorem A1j{n:Nd}(h:PK vs ars n):∀(a:Nd)(g:Gr),EsK vs ars g→EsK vs ars (gS n a g):=by
 induction h with
 |set s b h hb kb=>intro a g hg;rw[Aam];exact hg.snoc (.set _ _ _ s b h hb kb) rfl
 |put s b c h hb kb hc kc=>intro a g hg;rw[Aal];exact hg.snoc (.put _ _ _ s b c h hb kb hc kc) rfl
 |read s h=>intro a g hg;rw[Wc];exact hg.snoc (.read _ _ _ s h) rfl
 |ifs c l l' hc kc hl hl' ihl ihl'=>
  intro a g hg;rw[Afy];have h1:EsK vs ars (gL l Cm (Ei g.pt c true g)):=Ah2 ihl Cm _ (hg.snoc (.guard _ _ _ c hc kc) rfl);have h2:EsK vs ars (gL l' Cm (Ei g.pt c false (gL l Cm (Ei g.pt c true g)))):=Ah2 ihl' Cm _ (h1.snoc (.guard _ _ _ c hc kc) rfl);have h3:EsK vs ars (Jd (gL l Cm (Ei g.pt c true g)).pt (gL l' Cm (Ei g.pt c false (gL l Cm (Ei g.pt c true g)))).pts (gL l' Cm (Ei g.pt c false (gL l Cm (Ei g.pt c true g))))):=h2.snoc (.skip _ _ _ _) rfl;exact h3.snoc (.skip _ _ _ _) rfl
 |whil c l hc kc hl ihl=>
  intro a g hg;rw[Afz];have h1:EsK vs ars (Ic a (.mk 25 [] 0 [c,.mk 30 [] 0 l]) (Dt 6 Cm g)):=hg.snoc (.skip _ _ _ _) rfl;have h2:EsK vs ars (gL l Cm (Ei g.pts c true (Ic a (.mk 25 [] 0 [c,.mk 30 [] 0 l]) (Dt 6 Cm g)))):=Ah2 ihl Cm _ (h1.snoc (.guard _ _ _ c hc kc) rfl);have h3:EsK vs ars (Ln g.pts (gL l Cm (Ei g.pts c true (Ic a (.mk 25 [] 0 [c,.mk 30 [] 0 l]) (Dt 6 Cm g))))):=h2.snoc (.skip _ _ _ _) rfl;exact h3.snoc (.guard _ _ _ c hc kc) rfl
 |check c hc kc=>intro a g hg;rw[Q9];exact hg.snoc (.check _ _ _ c hc kc) rfl
 |skip=>intro a g hg;rw[We];exact hg.snoc (.skip _ _ _ _) rfl
 |stop=>intro a g hg;rw[Wg];exact hg.snoc (.stop _ _ _ _) rfl
end
theorem EdK.exit{vs ars:List Ad}{e:Eg}(h:EdK vs ars e)(x:Int):EdK vs ars (Ed x e):=by
 unfold Ed;split
 ·cases h<;>constructor<;>assumption
 ·exact h
theorem Aoh{n:Nd}(hr:H4 n=true):(∀x,x∈A1 n→PS x)∧∀e,e∈Ia (A1 n)→EdK (A3 n 31) (A3 n 32) e:=by
 have hF:=(Kc hr).1;obtain⟨ds,hpl,hdl,hPS,_⟩:=Acc hF;refine⟨hPS,?_⟩;have hk:Fs (A3 n 31) (A3 n 32) (Dy n)=true:=by
  have h0:=(Adc hr).1;rw[(Amt _ _).1];unfold Fj at h0;split at h0
  ·split at h0
   ·simp at h0
   ·split at h0
    ·simp at h0
    ·split at h0
     ·simp at h0
     ·split at h0
      ·simp at h0
      ·rename_i h7;split at h0
       ·simp at h0
       ·rename_i h8;simp[h7,h8]
  ·simp at h0
 have hPK:∀x,x∈A1 n→PK (A3 n 31) (A3 n 32) x:=by
  cases hF with
  |mk ds' l hd hl=>
   have e1:A1 (.mk 40 [] 0 (ds'++[.mk 30 [] 0 l]))=B4 l:=by unfold A1 Dy;rw[Zk hd];simp[Nd.kids]
   have e2:Dy (.mk 40 [] 0 (ds'++[.mk 30 [] 0 l]))=.mk 30 [] 0 l:=by unfold Dy;simp[Nd.kids]
   rw[e2]at hk;rw[e1];exact Pr fun x hx=>A4s (hl x hx) (Hh hk (by simpa[Nd.kids]using hx))
 intro e he;unfold Ia at he;obtain⟨e0,h0,rfl⟩:=zzq50.1 he;refine EdK.exit ?_ _;have hg:EsK (A3 n 31) (A3 n 32) (D9 (A1 n)):=by
  have h1:EsK (A3 n 31) (A3 n 32) (gL (A1 n) Cm ⟨1,0,[],[],[],0⟩):=Ah2 (fun x hx=>A1j (hPK x hx)) Cm _ (fun e h=>by cases h);exact h1.snoc (.skip _ _ _ _) rfl
 exact hg e0 h0
abbrev VR:=Int×Int×Int
def N9(x d:Int):VR:=if Mv x=true then(x,0,d)else(0,3,d)
def Og(r:List (Bool×Int))(x d:Int):VR:=
 if A8 x 0 ((r.length:Int)-1)=true then(if (r.getD x.toNat (false,0)).1=true then((r.getD x.toNat (false,0)).2,0,IntKind.i64.wrap (d+1))else(0,2,d))else(0,1,d)
def X9(n:Nd)(c:Cf)(s:Ad):List (Bool×Int):=c.cells.getD (Fe 0 (A3 n 32) s).toNat []
def Ue(n:Nd)(c:Cf)(k:Int)(s:Ad)(m:Int)(q:List Int×Int×Int):VR:=
 if q.2.1=0 then
  match q.1 with
  |[]=>(if k=1 then m else if k=2 then c.vars.getD (Fe 0 (A3 n 31) s).toNat 0 else(X9 n c s).length,0,q.2.2)
  |[a]=>if k=3 then Og (X9 n c s) a q.2.2 else N9 (IntKind.i64.wrap (-a)) q.2.2
  |a::b::_=>N9 (IntKind.i64.wrap (if k=6 then a+b else if k=7 then a-b else a*b)) q.2.2
 else(0,q.2.1,q.2.2)
mutual
def Df(n:Nd)(c:Cf):Nd→Int→VR
 |.mk k s m ks,d=>Ue n c k s m (Aem n c ks d)
def Aem(n:Nd)(c:Cf):List Nd→Int→List Int×Int×Int
 |[],d=>([],0,d)
 |x::l,d=>if (Df n c x d).2.1=0 then((Df n c x d).1::(Aem n c l (Df n c x d).2.2).1,(Aem n c l (Df n c x d).2.2).2)else([],(Df n c x d).2)
end
theorem Zx(n:Nd)(c:Cf)(k:Int)(s:Ad)(m:Int)(ks:List Nd)(d:Int):Df n c (.mk k s m ks) d=Ue n c k s m (Aem n c ks d):=by rw[Df]
theorem A1d(n:Nd)(c:Cf)(x:Nd)(d:Int):Aem n c [x] d=if (Df n c x d).2.1=0 then([(Df n c x d).1],0,(Df n c x d).2.2)else([],(Df n c x d).2):=by
 rw[Aem,Aem]
theorem Agy{n:Nd}{c:Cf}{k:Int}{s:Ad}{m:Int}{x:Nd}{d v t d1:Int}(hx:Df n c x d=(v,t,d1)):Df n c (.mk k s m [x]) d=if t=0 then Ue n c k s m ([v],0,d1)else(0,t,d1):=by
 rw[Zx,A1d,hx];by_cases h:t=0
 ·rw[if_pos h,if_pos h]
 ·rw[if_neg h,if_neg h];unfold Ue;rw[if_neg h]
theorem Awh{n:Nd}{c:Cf}{k:Int}{s:Ad}{m:Int}{x y:Nd}{d v t d1 v2 t2 d2:Int}(hx:Df n c x d=(v,t,d1))(hy:Df n c y d1=(v2,t2,d2)) :
 Df n c (.mk k s m [x,y]) d=if t=0 then(if t2=0 then Ue n c k s m ([v,v2],0,d2)else(0,t2,d2))else(0,t,d1):=by
 rw[Zx,Aem,hx];by_cases h:t=0
 ·simp only[h,if_true];rw[A1d,hy];by_cases h2:t2=0
  ·simp only[h2,if_true]
  ·simp only[h2,if_false];unfold Ue;rw[if_neg h2]
 ·simp only[h,if_false];unfold Ue;rw[if_neg h]
structure VOk (n:Nd)(c:Cf):Prop where
 kl:n.kids.length≤4500
 vars:c.vars.length=(A3 n 31).length
 cells:c.cells.length=(A3 n 32).length
 rows:∀x,x∈c.cells→x.length≤60
theorem Agm:∀(l:List (List (Bool×Int)))(ss:List Int),l.length=ss.length→Lt l ss=true→∀x,x∈l→x.length≤60
 |[],_,_,_=>fun x hx=>by cases hx
 |y::l,[],h,_=>by simp at h
 |y::l,s::ss,h,hb=>fun x hx=>by
  simp only[Lt,Du]at hb;rcases zzq8.1 hx with rfl|hx
  ·have:=hb.1;simp only[Ud,Du,Mz]at this;exact this.1
  ·exact Agm l ss (by simpa using h) hb.2 x hx
theorem A1q{n:Nd}{c:Cf}(h:Nj n c=true):H4 n=true∧VOk n c:=by
 simp only[Nj,Du]at h;obtain⟨hr,hc⟩:=h;obtain⟨fp,_,hw,hne,hkl⟩:=Kc hr;unfold Add Ade at hc;simp only[Du,zzq34]at hc;obtain⟨_,h1,h2,_,_,_,_,h3,_⟩:=hc;exact⟨hr,hkl,h1,h2,Agm _ _ (by rw[Yb];exact h2) h3⟩
theorem Aot(l:List Ad):∀(i:Nat)(s:Ad),Fe i l s≥0→∃j:Nat,Fe i l s=(i+j:Nat)∧j<l.length:=by
 induction l with
 |nil=>intro i s h;simp[Fe]at h
 |cons x l ih=>
  intro i s h;by_cases hx:(s==x)=true
  ·exact⟨0,by simp[Fe,hx],by simp⟩
  ·have e:Fe i (x::l) s=Fe (i+1) l s:=by simp only[Fe];rw[if_neg hx]
   rw[e]at h⊢;obtain⟨j,h1,h2⟩:=ih (i+1) s h;exact⟨j+1,by rw[h1];congr 1;omega,by simp;omega⟩
theorem VOk.var{n:Nd}{c:Cf}(h:VOk n c){s:Ad}(hk:Fe 0 (A3 n 31) s≥0):∃(i:Nat)(v:Int),Fe 0 (A3 n 31) s=i∧c.vars[i]?=some v∧c.vars.getD (Fe 0 (A3 n 31) s).toNat 0=v:=by
 obtain⟨j,h1,h2⟩:=Aot _ 0 s hk;rw[Kr]at h1;obtain⟨v,hv⟩:=Ab c.vars (i:=j) (by rw[h.vars];exact h2);exact⟨j,v,h1,hv,by rw[h1];simp[List.getD,hv]⟩
theorem VOk.row{n:Nd}{c:Cf}(h:VOk n c){s:Ad}(hk:Fe 0 (A3 n 32) s≥0):∃(i:Nat)(r:List (Bool×Int)),Fe 0 (A3 n 32) s=i∧c.cells[i]?=some r∧X9 n c s=r∧r.length≤60:=by
 obtain⟨j,h1,h2⟩:=Aot _ 0 s hk;rw[Kr]at h1;obtain⟨v,hv⟩:=Ab c.cells (i:=j) (by rw[h.cells];exact h2);exact⟨j,v,h1,hv,by unfold X9;rw[h1];simp[List.getD,hv],h.rows v (Bn hv)⟩
abbrev wk(n:Nd)(c:Cf)(d:Int):An:=[.cptr (Oj n),.cptr (G3 c),vi d]
abbrev vR(r:VR):AV:=.tup [vi r.1,vi r.2.1]
theorem Wn(x d:Int):Pure X 241 [vi x] (vR (N9 x d)):=by
 refine Pure.run func241 ?_;refine Aj (Acr x) ?_;refine Ai (fun g=>?_) (fun g=>?_)
 ·have g':Mv x=false:=by simpa using(show (!Mv x)=true from g)
  refine Ao func241 ?_;unfold N9;rw[if_neg (by simp[g'])]
 ·have g':Mv x=true:=by simpa using(show (!Mv x)=false from g)
  refine Ao func241 ?_;unfold N9;rw[if_pos g']
abbrev vR3(r:VR):AV:=.tup [vi r.1,vi r.2.1,vi r.2.2]
abbrev SpV(n:Nd)(c:Cf)(e:Nd):St:=⟨[[Lw n],[Ag e],[G3 c]],[]⟩
abbrev PVT(n:Nd)(c:Cf)(e:Nd)(d:Int)(T:VR):Prop:=Pure X 123 [.agg (Lw n),nd e,cf c,vi d] (vR3 T)
theorem Au5(n:Nd)(c:Cf)(hk:VOk n c)(s:Ad)(hs:Fe 0 (A3 n 32) s≥0)(x:Nd)(a d:Int):AK X ⟨123,f123,0,0⟩ (J6 false 11 f123) [(3,vi d),(4,.ptr 0 0 0),(5,.ptr 1 0 0),(6,.ptr 2 0 0),(11,vi a)] (SpV n c (.mk 3 s 0 [x]))
 (fun e S=>e=.ret (vR3 (Og (X9 n c s) a d))∧S=⟨[],[]⟩):=by
 obtain⟨i,r,h1,h2,h3,h4⟩:=hk.row hs;have kl:=hk.kl;have hd:=Ht n 32;have hq:=Vi (A3 n 32) s (by omega);rw[h1]at hq;rw[h3];have hlen:((G5 r).length:Int)=r.length:=by rw[Gs]
 have hw:IntKind.i64.wrap (((G5 r).length:Int)-1)=r.length-1:=by rw[hlen];exact Ac (by omega) (by omega)
 have hb0:=Gg a 0 (IntKind.i64.wrap (((G5 r).length:Int)-1));rw[hw]at hb0;refine Dj ?_;refine Ba 100 rfl ?_;refine Ay ?_;refine Eo 0 ?_;refine B2 hq ?_;refine D6 (fun S'=>Ca rfl rfl rfl rfl rfl rfl rfl rfl rfl (by omega) (Dl (f:=Oa) h2)) ?_;refine C9 ?_;refine Bu ?_;refine Aj (Gg a 0 (IntKind.i64.wrap (((G5 r).length:Int)-1))) ?_;rw[hw];cases hb:A8 a 0 ((r.length:Int)-1)with
 |false=>
  have e1:Og r a d=(0,1,d):=by unfold Og;rw[if_neg (by simp[hb])]
  rw[e1];refine Ay ?_;exact Ao func123 rfl
 |true=>
  have hb':=Ck.1 hb;obtain⟨j,rfl⟩:∃j:Nat,a=j:=⟨a.toNat,by omega⟩
  obtain⟨y,hy⟩:=Ab r (i:=j) (by omega);obtain⟨w,m⟩:=y;have e1:Og r j d=if w=true then(m,0,IntKind.i64.wrap (d+1))else(0,2,d):=by unfold Og;rw[if_pos hb];simp[List.getD,hy]
  rw[e1];refine Ah ?_;refine Bv j (by omega) (Dl (f:=Hc) hy) ?_;cases w with
  |false=>
   refine Ay ?_;exact Ao func123 rfl
  |true=>
   refine Ah ?_;refine Bv j (by omega) (Dl (f:=Hc) hy) ?_;exact Ao func123 rfl
theorem Acn(n:Nd)(c:Cf)(e:Nd)(x d:Int):AK X ⟨123,f123,0,0⟩ (J6 false 30 f123) [(3,vi d),(4,.ptr 0 0 0),(5,.ptr 1 0 0),(6,.ptr 2 0 0),(14,vi x)] (SpV n c e)
 (fun e S=>e=.ret (vR3 (N9 x d))∧S=⟨[],[]⟩):=by
 refine Dj ?_;refine Ba 100 rfl ?_;refine Aj (Apg x) ?_;refine Ai (fun g=>?_) (fun g=>?_)
 ·have g':Mv x=false:=by simpa using(show (!Mv x)=true from g)
  refine Ao func123 ?_;unfold N9;rw[if_neg (by simp[g'])]
 ·have g':Mv x=true:=by simpa using(show (!Mv x)=false from g)
  refine Ao func123 ?_;unfold N9;rw[if_pos g']
theorem A5o(n:Nd)(c:Cf)(k:Int)(a b:Nd)(hk':k=6∨k=7∨k=8)(v v2 d2:Int):AK X ⟨123,f123,0,0⟩ (J6 false 24 f123) [(3,vi d2),(4,.ptr 0 0 0),(5,.ptr 1 0 0),(6,.ptr 2 0 0),(11,vi v),(15,vi v2)] (SpV n c (.mk k [] 0 [a,b]))
 (fun e S=>e=.ret (vR3 (Ue n c k [] 0 ([v,v2],0,d2)))∧S=⟨[],[]⟩):=by
 rcases hk' with rfl|rfl|rfl
 ·refine Dj ?_;refine Ba 100 rfl ?_;refine Ec (e:=true) 30 0 (fun _=>?_) (fun h=>nomatch h);exact Br 3 0 (Acn n c _ (IntKind.i64.wrap (v+v2)) d2) ⟨rfl,rfl,rfl,rfl,rfl,trivial⟩ rfl rfl rfl rfl rfl
 ·refine Dj ?_;refine Ba 100 rfl ?_;refine Ah ?_;refine Ec (e:=true) 30 0 (fun _=>?_) (fun h=>nomatch h);exact Br 3 0 (Acn n c _ (IntKind.i64.wrap (v-v2)) d2) ⟨rfl,rfl,rfl,rfl,rfl,trivial⟩ rfl rfl rfl rfl rfl
 ·refine Dj ?_;refine Ba 100 rfl ?_;refine Ah ?_;refine Ec (e:=false) 0 30 (fun h=>nomatch h) (fun _=>?_);exact Br 3 0 (Acn n c _ (IntKind.i64.wrap (v*v2)) d2) ⟨rfl,rfl,rfl,rfl,rfl,trivial⟩ rfl rfl rfl rfl rfl
theorem A5n(n:Nd)(c:Cf)(k:Int)(a b:Nd)(hk':k=6∨k=7∨k=8)(v d1 v2 t2 d2:Int)(hj:PVT n c b d1 (v2,t2,d2)):AK X ⟨123,f123,0,0⟩ (J6 false 20 f123) [(3,vi d1),(4,.ptr 0 0 0),(5,.ptr 1 0 0),(6,.ptr 2 0 0),(11,vi v)] (SpV n c (.mk k [] 0 [a,b]))
 (fun e S=>e=.ret (vR3 (if t2=0 then Ue n c k [] 0 ([v,v2],0,d2)else(0,t2,d2)))∧S=⟨[],[]⟩):=by
 have L:=A5o n c k a b hk' v v2 d2;refine Dj ?_;refine Eo 0 ?_;refine Dk 1 (by omega) (Ap (l:=[a,b]) rfl) ?_;refine B2 hj ?_;refine Bu ?_;refine Ec 0 24 (fun g2=>?_) (fun g2=>?_)
 ·have g':¬t2=0:=by simpa using(show (t2 != 0)=true from g2)
  rw[if_neg g'];refine Ba 100 rfl ?_;exact Ao func123 rfl
 have gt2:t2=0:=by simpa using(show (t2 != 0)=false from g2)
 rw[if_pos gt2];exact Br 3 0 L ⟨rfl,rfl,rfl,rfl,rfl,rfl,trivial⟩ rfl rfl rfl rfl rfl
theorem Tn(n:Nd)(c:Cf)(hk:VOk n c){e:Nd}(h:FE e):Fs (A3 n 31) (A3 n 32) e=true→∀d,PVT n c e d (Df n c e d):=by
 have kl:=hk.kl;have hd1:=Ht n 31;have hd2:=Ht n 32
 induction h with
 |num m h0 h1=>
  intro _ d;refine Pure.run func123 ?_;refine Ay ?_;exact Ao func123 rfl
 |var s h=>
  intro hn d;obtain⟨i,v,h1,h2,h3⟩:=hk.var ((Xa hn).1 rfl);have hq:=Vi (A3 n 31) s (by omega);rw[h1]at hq;have e1:Df n c (.mk 2 s 0 []) d=(c.vars.getD (Fe 0 (A3 n 31) s).toNat 0,0,d):=rfl;rw[e1,h3];refine Pure.run func123 ?_;refine Ah ?_;refine Ay ?_;refine Eo 0 ?_;refine B2 hq ?_;refine D6 (fun S'=>Ca rfl rfl rfl rfl rfl rfl rfl rfl rfl (by omega) (Nr h2)) ?_;refine C9 ?_;refine Bu ?_;exact Ao func123 rfl
 |len s h=>
  intro hn d;obtain⟨i,r,h1,h2,h3,h4⟩:=hk.row ((Xa hn).2 rfl);have hq:=Vi (A3 n 32) s (by omega);rw[h1]at hq;have e1:Df n c (.mk 4 s 0 []) d=(((X9 n c s).length:Int),0,d):=rfl;rw[e1,h3];refine Pure.run func123 ?_;refine Ah ?_;refine Ah ?_;refine Ay ?_;refine Eo 0 ?_;refine B2 hq ?_;refine D6 (fun S'=>Ca rfl rfl rfl rfl rfl rfl rfl rfl rfl (by omega) (Dl (f:=Oa) h2)) ?_;refine C9 ?_;refine Bu ?_;refine Ao func123 ?_;rw[Gs]
 |cell s a h ha ih=>
  intro hn d;have hi:=ih (Aih hn) d;rcases hv:Df n c a d with⟨v,t,d1⟩
  rw[hv]at hi;rw[PVT,Agy hv];have L:=Au5 n c hk s ((Xa hn).2 rfl) a v d1;refine Pure.run func123 ?_;refine Ah ?_;refine Ah ?_;refine Ah ?_;refine Eo 0 ?_;refine Dk 0 (by omega) (Ap (l:=[a]) rfl) ?_;refine B2 hi ?_;refine Bu ?_;refine Ec 0 11 (fun g=>?_) (fun g=>?_)
  ·have g':¬t=0:=by simpa using(show (t != 0)=true from g)
   rw[if_neg g'];refine Ba 100 rfl ?_;exact Ao func123 rfl
  have gt:t=0:=by simpa using(show (t != 0)=false from g)
  rw[if_pos gt];exact Br 3 0 L ⟨rfl,rfl,rfl,rfl,rfl,trivial⟩ rfl rfl rfl rfl rfl
 |neg a ha ih=>
  intro hn d;have hi:=ih (Aih hn) d;rcases hv:Df n c a d with⟨v,t,d1⟩
  rw[hv]at hi;rw[PVT,Agy hv];refine Pure.run func123 ?_;refine Ah ?_;refine Ah ?_;refine Ah ?_;refine Eo 0 ?_;refine Dk 0 (by omega) (Ap (l:=[a]) rfl) ?_;refine B2 hi ?_;refine Bu ?_;refine Ai (fun g=>?_) (fun g=>?_)
  ·have g':¬t=0:=by simpa using(show (t != 0)=true from g)
   rw[if_neg g'];exact Ao func123 rfl
  have gt:t=0:=by simpa using(show (t != 0)=false from g)
  rw[if_pos gt];refine Ah ?_;refine Ec (e:=false) 0 30 (fun h=>nomatch h) (fun _=>?_);exact Br 3 0 (Acn n c _ (IntKind.i64.wrap (-v)) d1) ⟨rfl,rfl,rfl,rfl,rfl,trivial⟩ rfl rfl rfl rfl rfl
 |two k a b hk' ha hb iha ihb=>
  intro hn d;have hi:=iha (Aas hn).1 d;rcases hv:Df n c a d with⟨v,t,d1⟩
  rw[hv]at hi;have hj:=ihb (Aas hn).2 d1;rcases hw:Df n c b d1 with⟨v2,t2,d2⟩
  rw[hw]at hj;rw[PVT,Awh hv hw];refine Pure.run func123 ?_;refine Ah ?_ (ht:=by rcases hk' with rfl|rfl|rfl<;>rfl);refine Ah ?_ (ht:=by rcases hk' with rfl|rfl|rfl<;>rfl);refine Ah ?_ (ht:=by rcases hk' with rfl|rfl|rfl<;>rfl);refine Eo 0 ?_;refine Dk 0 (by omega) (Ap (l:=[a,b]) rfl) ?_;refine B2 hi ?_;refine Bu ?_;refine Ai (fun g=>?_) (fun g=>?_)
  ·have g':¬t=0:=by simpa using(show (t != 0)=true from g)
   rw[if_neg g'];exact Ao func123 rfl
  have gt:t=0:=by simpa using(show (t != 0)=false from g)
  rw[if_pos gt];refine Ah ?_ (ht:=by rcases hk' with rfl|rfl|rfl<;>rfl);refine Ec (e:=!(k==5)) 20 0 (fun _=>?_) (fun h=>?_)
  ·exact Br 3 0 (A5n n c k a b hk' v d1 v2 t2 d2 hj) ⟨rfl,rfl,rfl,rfl,rfl,trivial⟩ rfl rfl rfl rfl rfl
  ·exfalso;rcases hk' with rfl|rfl|rfl<;>cases h
def Pl(k a b:Int):Bool:=if k=11 then decide (a<b)else if k=12 then decide (a≤b)else if k=13 then decide (a>b)else if k=14 then decide (a≥b)else if k=15 then(a==b)else !(a==b)
abbrev DR:=Cf×Int×Int×Bool
def Oh(n:Nd)(c:Cf)(ks:List Nd)(g:Int→Int→Int→DR):DR:=match ks with
 |[a,b]=>
  if (Df n c a 0).2.1=0 then
   if (Df n c b (Df n c a 0).2.2).2.1=0 then g (Df n c a 0).1 (Df n c b (Df n c a 0).2.2).1 (Df n c b (Df n c a 0).2.2).2.2
   else(c,(Df n c b (Df n c a 0).2.2).2.1,(Df n c b (Df n c a 0).2.2).2.2,true)
  else(c,(Df n c a 0).2.1,(Df n c a 0).2.2,true)
 |_=>(c,0,0,true)
def W5(n:Nd)(c:Cf)(s:Ad)(v:Int):Cf:={ c with vars:=c.vars.set (Fe 0 (A3 n 31) s).toNat v }
def Ai4(n:Nd)(c:Cf)(s:Ad)(i v:Int):Cf:={ c with cells:=c.cells.set (Fe 0 (A3 n 32) s).toNat ((X9 n c s).set i.toNat (true,v)) }
def Sq(n:Nd)(inp:List Int)(c:Cf)(k:Int)(y:Bool)(x:Nd):DR:=
 if k=1 then(match x.kids with
  |[a]=>if (Df n c a 0).2.1=0 then(W5 n c x.name (Df n c a 0).1,0,(Df n c a 0).2.2,true)else(c,(Df n c a 0).2.1,(Df n c a 0).2.2,true)
  |_=>(c,0,0,true))
 else if k=2 then Oh n c x.kids fun i v d=>if A8 i 0 (((X9 n c x.name).length:Int)-1)=true then(Ai4 n c x.name i v,0,d,true)else(c,1,d,true)
 else if k=3 then(if (inp.length:Int)≤c.used then(c,5,0,true)else({ W5 n c x.name (inp.getD c.used.toNat 0)with used:=c.used+1 },0,0,true))
 else if k=4∨k=5 then Oh n c x.kids fun a b d=>if k=5 then(if Pl x.kind a b=true then(c,0,d,true)else(c,4,0,true))else(c,0,d,Pl x.kind a b==y)
 else(c,0,0,true)
def fIx(es:List Eg)(p:Int):Nat:=es.findIdx fun e=>e.f==p
def Pu(n:Nd)(c:Cf):Bool:=(!(c.trap==0))||((c.pt==(((D9 (A1 n)).pts:Nat):Int)-1)||(c.steps==5000))
def N1(n:Nd)(inp:List Int)(c:Cf):Cf:=
 if Pu n c=true then c else
 match Fr c.pt.toNat (Ia (A1 n))with
 |[]=>c
 |e::l=>
  let q:=Sq n inp { c with steps:=c.steps+1 } e.k e.y e.n
  if q.2.1=0 then{ q.1 with pt:=if q.2.2.2=true then e.t else(l.headD e).t }
  else{ q.1 with trap:=q.2.1,edge:=fIx (Ia (A1 n)) c.pt,acc:=if q.2.1=4∨q.2.1=5 then 0 else q.2.2.1 }
structure StK (n:Nd)(c:Cf):Prop where
 vok:VOk n c
 pt:0≤c.pt∧c.pt<(D9 (A1 n)).pts
 used:0≤c.used∧c.used≤100
 steps:0≤c.steps∧c.steps≤5000
 none:c.trap=0→c.edge=0∧c.acc=0
theorem An6(p:Nat)(e:Eg)(l:List Eg):Fr p (e::l)=if e.f=(p:Int)then e::Fr p l else Fr p l:=by
 unfold Fr;rw[Ab3];by_cases h:e.f=(p:Int)
 ·simp[h]
 ·simp[h]
theorem Aij{p:Nat}:∀{l:List Eg}{k:Nat}{e:Eg}{r:List Eg},Fr p l=e::r→∃i,l[i]?=some e∧(∀j,j<i→∀x,l[j]?=some x→¬x.f=(p:Int))∧e.f=(p:Int)∧fIx l p=i∧P0 Eg.f p k l=(k+i)::P0 Eg.f p (k+i+1) (l.drop (i+1))∧Fr p (l.drop (i+1))=r
 |[],k,e,r,h=>by simp[Fr]at h
 |x::l,k,e,r,h=>by
  rw[An6]at h;by_cases hx:x.f=(p:Int)
  ·rw[if_pos hx]at h;injection h with h1 h2;subst h1;exact⟨0,rfl,fun j hj=>absurd hj (Aeu _),hx,by simp[fIx,List.findIdx_cons,hx],by simp[P0,hx],h2⟩
  ·rw[if_neg hx]at h;obtain⟨i,h1,h2,h3,h4,h5,h6⟩:=Aij (k:=k+1) h;refine⟨i+1,by simpa using h1,fun j hj y hy=>?_,h3,?_,?_,by simpa using h6⟩
   ·cases j with
    |zero=>simp at hy;subst hy;exact hx
    |succ j=>exact h2 j (by omega) y (by simpa using hy)
   ·unfold fIx at h4⊢;rw[List.findIdx_cons,show (x.f==(p:Int))=false by simpa using hx];simp[h4]
   ·rw[P0,if_neg hx,h5];simp only[List.drop_succ_cons];rw[show k+1+i=k+(i+1) by omega]
theorem Aik{p:Nat}:∀{l:List Eg}{k:Nat},Fr p l=[]→P0 Eg.f p k l=[]
 |[],k,h=>rfl
 |x::l,k,h=>by
  rw[An6]at h;by_cases hx:x.f=(p:Int)
  ·rw[if_pos hx]at h;cases h
  ·rw[if_neg hx]at h;rw[P0,if_neg hx];exact Aik h
inductive EdO (es:List Eg)(p:Nat)(i:Nat)(e:Eg):List Eg→Prop
 |one (hi:es[i]?=some e) (hb:∀j,j<i→∀x,es[j]?=some x→¬x.f=(p:Int)) (hf:e.f=(p:Int)) (hx:fIx es p=i) (hl:Ki Eg.f es p=[i]) (hk:¬e.k=4):EdO es p i e []
 |two (j:Nat) (e2:Eg) (hi:es[i]?=some e) (hb:∀j,j<i→∀x,es[j]?=some x→¬x.f=(p:Int)) (hf:e.f=(p:Int)) (hx:fIx es p=i) (hl:Ki Eg.f es p=[i,j]) (hij:i<j) (hj:es[j]?=some e2)
   (hm:∀m,i<m→m<j→∀x,es[m]?=some x→¬x.f=(p:Int))(hk:e.k=4)(h2:e2=⟨p,e2.t,4,!e.y,e.n⟩):EdO es p i e [e2]
theorem Afp{n:Nd}(hr:H4 n=true){p:Nat}(hp:(p:Int)<(D9 (A1 n)).pts-1):∃i e l,Fr p (Ia (A1 n))=e::l∧EdO (Ia (A1 n)) p i e l:=by
 rcases Axx (Aoh hr).1 hp with⟨e,h1,h2⟩|⟨t1,t2,c,h1⟩
 ·obtain⟨i,g1,g2,g3,g4,g5,g6⟩:=Aij (k:=0) h1;exact⟨i,e,[],h1,.one g1 g2 g3 g4 (by unfold Ki;rw[g5,Aik g6,Kr]) h2⟩
 ·obtain⟨i,g1,g2,g3,g4,g5,g6⟩:=Aij (k:=0) h1;obtain⟨j,q1,q2,q3,q4,q5,q6⟩:=Aij (k:=0+i+1) g6;refine⟨i,_,_,h1,.two (i+1+j) ⟨p,t2,4,false,c⟩ g1 g2 g3 g4 (by unfold Ki;rw[g5,q5,Aik q6];simp) (by omega) (by rw[←q1,R0]) (fun m h2 h3 x hx=>?_) rfl rfl⟩;exact q2 (m-(i+1)) (by omega) x (by rw[R0,show i+1+(m-(i+1))=m by omega];exact hx)
theorem EdO.first{es:List Eg}{p i:Nat}{e:Eg}{l:List Eg}(h:EdO es p i e l):es[i]?=some e∧(∀j,j<i→∀x,es[j]?=some x→¬x.f=(p:Int))∧e.f=(p:Int)∧fIx es p=i∧∃m,Ki Eg.f es p=i::m:=by
 cases h with
 |one a b c d e f=>exact⟨a,b,c,d,[],e⟩
 |two j e2 a b c d e f g h i k=>exact⟨a,b,c,d,[j],e⟩
theorem A44{n:Nd}(hr:H4 n=true):∀e,e∈Ia (A1 n)→0≤e.t∧e.t<(D9 (A1 n)).pts:=by
 have h:=M4 (Aoh hr).1 Cm ⟨1,0,[],[],[],0⟩ (by simp);have h2:=Mm 6 Cm h.pt;have h3:=h.trans h2 (Bt _);obtain⟨l,g1,_,g2⟩:=h3.es;have hes:(D9 (A1 n)).es=l:=by unfold D9;rw[g1];rfl
 have hpt:=h3.pt;intro e he;unfold Ia at he;obtain⟨e0,h0,rfl⟩:=zzq50.1 he;rw[hes]at h0;have h4:=(g2 e0 h0).2;unfold Ed;have hpt':(D9 (A1 n)).pt<(D9 (A1 n)).pts:=hpt;split
 ·simp only;omega
 ·rcases h4 with h4|h4
  ·omega
  ·exact h4
structure Kept (inp:List Int)(c c':Cf):Prop where
 vars:c'.vars.length=c.vars.length
 cells:c'.cells.length=c.cells.length
 rows:(∀x,x∈c.cells→x.length≤60)→∀x,x∈c'.cells→x.length≤60
 pt:c'.pt=c.pt
 steps:c'.steps=c.steps
 trap:c'.trap=c.trap
 edge:c'.edge=c.edge
 acc:c'.acc=c.acc
 used:c'.used=c.used∨(c.used<inp.length∧c'.used=c.used+1)
theorem Kept.refl(inp:List Int)(c:Cf):Kept inp c c:=⟨rfl,rfl,fun h=>h,rfl,rfl,rfl,rfl,rfl,.inl rfl⟩
theorem Ar3(inp:List Int)(n:Nd)(c:Cf)(s:Ad)(i v:Int):Kept inp c (Ai4 n c s i v):=by
 refine⟨rfl,by simp[Ai4],fun h x hx=>?_,rfl,rfl,rfl,rfl,rfl,.inl rfl⟩;simp only[Ai4]at hx;rcases Zy hx with hx|rfl
 ·exact h x hx
 ·rw[List.length_set];unfold X9;rw[Ap7];cases hr:c.cells[(Fe 0 (A3 n 32) s).toNat]? with
  |none=>simp
  |some r=>exact h r (Bn hr)
theorem Afn{inp:List Int}{n:Nd}{c:Cf}{ks:List Nd}{g:Int→Int→Int→DR}(h:∀a b d,Kept inp c (g a b d).1):Kept inp c (Oh n c ks g).1:=by
 unfold Oh;split
 ·split
  ·split
   ·exact h _ _ _
   ·exact .refl _ _
  ·exact .refl _ _
 ·exact .refl _ _
theorem Ajw(n:Nd)(inp:List Int)(c:Cf)(k:Int)(y:Bool)(x:Nd):Kept inp c (Sq n inp c k y x).1:=by
 unfold Sq;split
 ·split
  ·split
   ·exact⟨by simp[W5],rfl,fun h=>h,rfl,rfl,rfl,rfl,rfl,.inl rfl⟩
   ·exact .refl _ _
  ·exact .refl _ _
 ·split
  ·refine Afn fun a b d=>?_;split
   ·exact Ar3 inp n c _ _ _
   ·exact .refl _ _
  ·split
   ·split
    ·exact .refl _ _
    ·exact⟨by simp[W5],rfl,fun h=>h,rfl,rfl,rfl,rfl,rfl,.inr ⟨by omega,rfl⟩⟩
   ·split
    ·refine Afn fun a b d=>?_;split
     ·split
      ·exact .refl _ _
      ·exact .refl _ _
     ·exact .refl _ _
    ·exact .refl _ _
theorem Ak3{n:Nd}{inp:List Int}{c:Cf}(hr:H4 n=true)(h:StK n c)(hi:inp.length≤100):StK n (N1 n inp c):=by
 unfold N1;split
 ·exact h
 ·rename_i hs;split
  ·exact h
  ·rename_i e l hF;have hK:=Ajw n inp { c with steps:=c.steps+1 } e.k e.y e.n;generalize Sq n inp { c with steps:=c.steps+1 } e.k e.y e.n=q at hK;have hst:c.trap=0∧¬c.steps=5000∧¬c.pt=(((D9 (A1 n)).pts:Nat):Int)-1:=by
    unfold Pu at hs;simp only[My,N4,beq_eq_false_iff_ne,zzq34,not_or,ne_eq,Classical.not_not]at hs;exact⟨hs.1,hs.2.2,hs.2.1⟩
   have hv:VOk n q.1:=⟨h.vok.kl,hK.vars.trans h.vok.vars,hK.cells.trans h.vok.cells,hK.rows h.vok.rows⟩
   have hmem:∀x,x∈(e::l)→x∈Ia (A1 n):=fun x hx=>by rw[←hF]at hx;exact(zzq35.1 hx).1
   have hto:∀x,x∈(e::l)→0≤x.t∧x.t<(D9 (A1 n)).pts:=fun x hx=>A44 hr x (hmem x hx);have hu:=hK.used;have hu0:=h.used;have hs0:=h.steps;have hsq:=hK.steps;simp only at hsq;have hn:=h.none hst.1;have hq5:=hK.trap;have hq6:=hK.edge;have hq7:=hK.acc;simp only at hq5 hq6 hq7 hu;have husd:0≤q.1.used∧q.1.used≤100:=by rcases hu with hu|⟨hu,hu2⟩<;>omega
   simp only;split
   ·refine⟨⟨hv.kl,hv.vars,hv.cells,hv.rows⟩,?_,husd,?_,fun _=>?_⟩
    ·simp only;split
     ·exact hto e (by simp)
     ·cases l with
      |nil=>exact hto e (by simp)
      |cons x l=>exact hto x (by simp)
    ·simp only;omega
    ·simp only;omega
   ·rename_i ht;refine⟨⟨hv.kl,hv.vars,hv.cells,hv.rows⟩,?_,husd,?_,fun h0=>absurd h0 ht⟩
    ·have:=hK.pt;simp only at this⊢;rw[this];exact h.pt
    ·simp only;omega
theorem Al4{n:Nd}{c:Cf}(h:Nj n c=true):H4 n=true∧StK n c:=by
 obtain⟨hr,hv⟩:=A1q h;simp only[Nj,Du]at h;obtain⟨_,hc⟩:=h;unfold Add Ade at hc;simp only[Du,zzq34]at hc;obtain⟨h0,_,_,h3,h4,_,_,_,h5⟩:=hc;simp only[A8,Du,Mz]at h0 h3 h4;refine⟨hr,hv,by omega,h3,h4,fun ht=>?_⟩;unfold Mx at h5;rw[if_pos ht,Du]at h5;exact⟨by simpa using h5.1,by simpa using h5.2⟩
end Go.V
namespace Go.V
open Go
inductive Sh (d:Nat):AV→AV→Prop where
 |val (v:Value):Sh d (.val v) (.val v)
 |junk (x:AV):Sh d x .junk
 |nil (sp:Sp):Sh d (.sl [] sp) (.sl [] .no)
 |pnil (t v:Nat):Sh d (.psl [] t v) (.sl [] .no)
 |bsl (b k:Nat):Sh d (.bsl b k) (.bsl (b+d) k)
 |agg (cs cs':List AV) (hl:cs'.length=cs.length) (hz:∀(j:Nat) (x y:AV),cs[j]?=some x→cs'[j]?=some y→Sh d x y):Sh d (.agg cs) (.agg cs')
 |tup (cs cs':List AV) (hl:cs'.length=cs.length) (hz:∀(j:Nat) (x y:AV),cs[j]?=some x→cs'[j]?=some y→Sh d x y):Sh d (.tup cs) (.tup cs')
theorem Sh.rel{d:Nat}{E1 E':Env}{w:World}{x y:AV}(h:Sh d x y)(hb:∀(b:Nat)(q:Nat×Nat),E1.boxes[b]?=some (some q)→E'.boxes[b+d]?=some (some q)):∀{v:Value},Rel E1 w v x→Rel E' w v y:=by
 induction h with
 |val v=>intro v' hx;cases hx;exact .val _
 |junk x=>intro v hx;exact .junk v
 |nil sp=>
  intro v hx;cases hx with
  |sl _ _ a n cap b o sz vals hn hx ha hsz hm hc hr hs hcap=>
   have h0:n=0:=by simpa using hn.symm
   subst h0;exact .sl [] .no a 0 cap b o sz vals rfl hx (fun h=>absurd rfl h) (fun r hr=>by cases hr) (fun i j hi=>by omega) (fun i j hi=>by omega) (fun i j r x hi=>by simp at hi) trivial hcap
 |pnil t ver=>
  intro v hx;cases hx with
  |psl _ _ _ a n cap k sz vals hn hx hcap hk hv hsz hp hr hf=>
   have h0:n=0:=by simpa using hn.symm
   subst h0;exact .sl [] .no a 0 cap 0 0 sz vals rfl hx (fun h=>absurd rfl h) (fun r hr=>by cases hr) (fun i j hi=>by omega) (fun i j hi=>by omega) (fun i j r x hi=>by simp at hi) trivial hcap
 |bsl b k=>
  intro v hx;cases hx with
  |bsl _ blk sz _ cap h hc=>exact .bsl _ blk sz k cap (hb b _ h) hc
 |agg cs cs' hl hz ih=>
  intro v hx;cases hx with
  |agg vs _ hl' hr=>
   refine .agg vs cs' (by omega) (fun j v y hv hy=>?_);obtain⟨x,hx⟩:=Ab cs (i:=j) (by have:=Aa hy;omega);exact ih j x y hx hy (hr j v x hv hx)
 |tup cs cs' hl hz ih=>
  intro v hx;cases hx with
  |tup vs _ hl' hr=>
   refine .tup vs cs' (by omega) (fun j v y hv hy=>?_);obtain⟨x,hx⟩:=Ab cs (i:=j) (by have:=Aa hy;omega);exact ih j x y hx hy (hr j v x hv hx)
inductive ShL (d:Nat):List AV→List AV→Prop where
 |nil:ShL d [] []
 |cons {x y:AV} {l l':List AV} (h:Sh d x y) (t:ShL d l l'):ShL d (x::l) (y::l')
theorem ShL.get{d:Nat}{l l':An}(h:ShL d l l'):l'.length=l.length∧∀(j:Nat)(x y:AV),l[j]?=some x→l'[j]?=some y→Sh d x y:=by
 induction h with
 |nil=>exact⟨rfl,fun j x y h=>by simp at h⟩
 |cons h t ih=>
  refine⟨by simp[ih.1],fun j x y hx hy=>?_⟩;cases j with
  |zero=>simp at hx hy;subst hx;subst hy;exact h
  |succ j=>exact ih.2 j x y (by simpa using hx) (by simpa using hy)
theorem Sh.aggL{d:Nat}{l l':An}(h:ShL d l l'):Sh d (.agg l) (.agg l'):=.agg l l' h.get.1 h.get.2
def ShR(d:Nat)(r r':A7):Prop:=r'.length=r.length∧∀(i:Nat)(x y:An),r[i]?=some x→r'[i]?=some y→ShL d x y
def ShB(d:Nat)(b b':B3):Prop:=b'.length=b.length∧∀(i:Nat)(x y:A7),b[i]?=some x→b'[i]?=some y→ShR d x y
section
variable {X:Cx}{B:Bx}{E E1:Env}{S S1:St}{w w':World}{F:Cw}{a:Act}{N:Nat}{R:AE→St→Prop}{ops:Array Oper}{i:Nat}{o:Oper}
def Env.lent(E:Env):Env:=⟨[],[],E.fr,[]⟩
theorem Ot{b:Nat}:¬E.lent.own b:=fun h=>by
 rcases h with⟨i,s,h⟩|⟨t,l,c,s,h⟩<;>simp[Env.lent]at h
theorem Ajg{b o:Nat}(h:E.lent.mt b o):E.fr b o:=by
 rcases h with h|⟨i,s,h⟩|⟨t,l,c,s,h,_⟩
 ·exact h
 ·simp[Env.lent]at h
 ·simp[Env.lent]at h
theorem Inv.lent(hI:Inv X E S w):Inv X E.lent ⟨[],[]⟩ w where
 nb:=rfl
 nt:=rfl
 np i hi:=by simp[Env.lent]at hi
 box i b sz rows h:=by simp[Env.lent]at h
 tok t l b c sz h:=by simp[Env.lent]at h
 bb i j b s s' h:=by simp[Env.lent]at h
 bt i t b s l c sz h:=by simp[Env.lent]at h
 tt i j b l c s l' c' s' h:=by simp[Env.lent]at h
 frlt b o h:=⟨Ot,(hI.frlt b o h).2⟩
 lo b h:=absurd h Ot
 frlo:=hI.frlo
 sz:=hI.sz
 glob:=hI.glob
theorem Fz.lent(hI:Inv X E S w){x y:AV}(h:Fz S 0 0 x y){v:Value}(hx:Rel E w v x):Rel E.lent w v y:=by
 have h1:=h.rel hI hx;have h2:=h1.ok;refine h1.env (by simpa[Env.drop]using h2) fun b o h=>.inl (Ajg h)
def Env.gain(E E1:Env):Env:=⟨E.boxes++E1.boxes,E.toks,E.fr,E.df⟩
theorem Ra{j:Nat}{q:Nat×Nat}(h:(E.gain E1).boxes[j]?=some (some q)):E.boxes[j]?=some (some q)∨(E.boxes.length≤j∧E1.boxes[j-E.boxes.length]?=some (some q)):=by
 simp only[Env.gain]at h;rcases Ga j E.boxes.length with hj|hj
 ·rw[Dd hj]at h;exact .inl h
 ·rw[Gz hj]at h;exact .inr ⟨hj,h⟩
theorem Xw(hI:Inv X E S w)(hI1:Inv X E1 S1 w')(ev:Evol E.lent w E1 w' 0 0){bx:B3}(hsh:ShB E.boxes.length S1.boxes bx) :
 Evol E w (E.gain E1) w' E.boxes.length E.toks.length∧Inv X (E.gain E1) ⟨S.boxes++bx,S.toks⟩ w':=by
 have hfar:∀{b:Nat},b<w.heap.size→w'.heap[b]?=w.heap[b]?:=fun{b} h=>ev.block b h Ot;have hge:∀{b j s:Nat},E1.boxes[j]?=some (some (b,s))→w.heap.size≤b:=fun{b j s} h=>by
  rcases Ga b w.heap.size with h'|h'
  ·exact absurd (ev.own b h' (.inl ⟨j,s,h⟩)) Ot
  ·exact h'
 have hownx:∀{b:Nat},(E.gain E1).own b→E.own b∨∃j s,E1.boxes[j]?=some (some (b,s)):=fun{b} h=>by
  rcases h with⟨j,s,h⟩|h
  ·rcases Ra h with h|⟨_,h⟩
   ·exact .inl (.inl ⟨j,s,h⟩)
   ·exact .inr ⟨_,s,h⟩
  ·exact .inl (.inr h)
 have ev2:Evol E w (E.gain E1) w' E.boxes.length E.toks.length:=by
  refine⟨rfl,fun j hj hl=>⟨by simp[Env.gain];omega,fun x hx=>by simp only[Env.gain];rw[Dd hl];exact hx⟩,fun t ht k hk=>⟨k,hk,.inl rfl⟩,ev.os,ev.tape,ev.output,ev.size,fun b hb _=>hfar hb,
   fun b o v hm hc=>?_,fun b o hb h=>?_,fun b hb h=>?_,rfl,ev.ty,fun _ _ _ b _ _ _ _ o ho=>by rw[hfar (Wj ho)];exact ho⟩
  ·have hb:=Ni hc;unfold World.cell? at hc⊢;rw[hfar hb];exact hc
  ·rcases h with h|⟨j,s,h⟩|h
   ·exact .inl h
   ·rcases Ra h with h|⟨_,h⟩
    ·exact .inr (.inl ⟨j,s,h⟩)
    ·have:=hge h;omega
   ·exact .inr (.inr h)
  ·rcases hownx h with h|⟨j,s,h⟩
   ·exact h
   ·have:=hge h;omega
 refine⟨ev2,?_⟩;have hnb:=hI.nb;have hnb1:=hI1.nb;have hsl:=hsh.1;exact{
  nb:=by simp[Env.gain];omega
  nt:=hI.nt
  np:=fun j hj=>by
   simp only[Env.gain,F5]at hj⊢;rcases Ga j E.boxes.length with h|h
   ·rw[Dd h];exact hI.np j h
   ·rw[Gz h];exact hI1.np _ (by omega)
  box:=fun j b s rows' h1 h2=>by
   simp only at h2;rcases Ra h1 with h1|⟨hj,h1⟩
   ·have:=Aa h1;rw[Dd (by omega)]at h2;obtain⟨cs',e',hh',hs',hl',hr'⟩:=hI.box j b s rows' h1 h2;exact⟨cs',e',(hfar (hI.own_lt (.inl ⟨j,s,h1⟩))).trans hh',hs',hl',fun k r q x v h3 h4 h5=>(hr' k r q x v h3 h4 h5).step ev2⟩
   ·rw[Gz (by omega),←hnb]at h2;obtain⟨rows,hrw⟩:=Ab S1.boxes (i:=j-E.boxes.length) (by have:=Aa h1;omega);obtain⟨cs,e,hh,hs,hl,hr⟩:=hI1.box _ b s rows h1 hrw;obtain⟨hrl,hrr⟩:=hsh.2 _ _ _ hrw h2;refine⟨cs,e,hh,by rw[hrl];exact hs,fun r hr'=>?_,fun k r q x v h3 h4 h5=>?_⟩
    ·obtain⟨k,hk⟩:=B9 hr';obtain⟨r0,hr0⟩:=Ab rows (i:=k) (by have:=Aa hk;omega);rw[(hrr k r0 r hr0 hk).get.1];exact hl r0 (Bn hr0)
    ·obtain⟨r0,hr0⟩:=Ab rows (i:=k) (by have:=Aa h3;omega);have hrl2:=(hrr k r0 r hr0 h3).get;obtain⟨x0,hx0⟩:=Ab r0 (i:=q) (by have:=Aa h4;omega);refine(hrl2.2 q x0 x hx0 h4).rel (fun b' q' hb'=>?_) (hr k r0 q x0 v hr0 hx0 h5);simp only[Env.gain];rw[Gz (by omega)];simpa using hb'
  tok:=fun t l b c s h=>by
   obtain⟨h1,h0,cs,e,hh,hs⟩:=hI.tok t l b c s h;exact⟨h1,h0,cs,e,(hfar (hI.own_lt (.inr ⟨t,l,c,s,h⟩))).trans hh,hs⟩
  bb:=fun i j b s s' h1 h2=>by
   rcases Ra h1 with h1|⟨hi,h1⟩<;>rcases Ra h2 with h2|⟨hj,h2⟩
   ·exact hI.bb i j b s s' h1 h2
   ·have:=hge h2;have:=hI.own_lt (.inl ⟨i,s,h1⟩);omega
   ·have:=hge h1;have:=hI.own_lt (.inl ⟨j,s',h2⟩);omega
   ·have:=hI1.bb _ _ b s s' h1 h2;omega
  bt:=fun i t b s l c sz' h1 h2=>by
   rcases Ra h1 with h1|⟨hi,h1⟩
   ·exact hI.bt i t b s l c sz' h1 h2
   ·have:=hge h1;have:=hI.own_lt (.inr ⟨t,l,c,sz',h2⟩);omega
  tt:=hI.tt
  frlt:=fun b o h=>⟨fun h'=>by
   rcases hownx h' with h'|⟨j,s,h'⟩
   ·exact(hI.frlt b o h).1 h'
   ·have:=(hI.frlt b o h).2;have:=hge h';omega,Ng (hI.frlt b o h).2 ev.size⟩
  lo:=fun b h=>by
   rcases hownx h with h|⟨j,s,h⟩
   ·exact hI.lo b h
   ·exact hI1.lo b (.inl ⟨j,s,h⟩)
  frlo:=hI.frlo
  sz:=hI1.sz
  glob:=hI1.glob }
def Gives(X:Cx)(f:FuncId)(args:An)(P:AV→B3→Prop):Prop:=
 N8 X.P f∧ACalls X f args ⟨[],[]⟩ fun e S'=>∃r,e=.ret r∧P r S'.boxes
theorem Gives.mk{f:FuncId}{fn:Func}{c:Code}{args:An}{P:AV→B3→Prop}(hf:X.P.funcs[f]?=some fn)(hb:fn.body=some c)(hl:Nat.ble args.length fn.ntmps=true)(hnm:(fn.name == "runtime.NumGoroutine")=false)
 (h:AK X ⟨f,fn,0,0⟩ [.code c] (Pg 0 args) ⟨[],[]⟩ fun e S'=>∃r,e=.ret r∧P r S'.boxes):Gives X f args P:=
 ⟨⟨fn,hf,hnm,by rw[hb];rfl⟩,J8 (n:=0) (m:=0) (hh:=fun C S' hx=>by obtain⟨r,hx,_⟩:=hx;cases hx) hf hb hl rfl rfl h⟩
theorem Pure.gives{f:FuncId}{args:An}{r:AV}(h:Pure X f args r):Gives X f args fun r' bx=>r'=r∧bx=[]:=
 ⟨h.1,fun E w vs h1 h2 h3 h4=>(h.2 E w vs h1 h2 h3 h4).mono fun e w' ⟨E',S',g1,g2,g3⟩=>⟨E',S',g1,g2,by
   cases e with
   |returned v=>obtain⟨r',h1,h2,rfl⟩:=g3;cases h2;exact⟨_,h1,_,rfl,rfl,rfl⟩
   |panicked ch=>obtain⟨h,_⟩:=g3;cases h
   |outgrown=>exact g3⟩⟩
theorem Xo{c:Call}{fo:Operand}{f:FuncId}{caps xs zs ys:An}{P:AV→B3→Prop}{F':Cw}(hc:Gives X f ys P)(hl:∀t,t∈o.looksAt ops→lk F' t=lk F t)(hI:Inv X E S w)(hF:FR E w F' a N)
 (ho:ops[i]?=some o)(hw:Bc ops F o=some true)(hop:o.op=.call c)(hcal:c.callee=.value fo)(hfo:Dv X F fo=some (.fn f caps))(hx:Hv X F c.args.toList=some xs)(hzs:Jt xs caps=some zs)(ha:FzL S 0 0 zs ys) :
 Does X ops i a w fun v w'=>∃r E1 S1,P r S1.boxes∧Inv X E1 S1 w'∧Evol E.lent w E1 w' 0 0∧Rel E1 w' v r:=by
 obtain⟨l1,l2⟩:=Sj (X:=X) hop hcal hl;have hz:=Sk hzs;obtain⟨vs,h1,h2,h3⟩:=Q4 hop hcal hc.1 hI hF (l1.trans hfo) (l2.trans hx);refine Does.call ho (Cu hF (by rw[Dc hl];exact hw)) h1 ((hc.2 E.lent w vs rfl hI.lent (by rw[h2,hz,ha.get.1]) (fun j v y hv hy=>?_)).mono fun e w' he=>?_)
 ·obtain⟨x,hxj⟩:=Ab zs (i:=j) (by have:=Aa hy;rw[ha.get.1]at this;exact this);exact(ha.get.2 j x y hxj hy).lent hI (h3 j v x hv (by rw[hz];exact hxj))
 ·obtain⟨E1,S1,d1,d2,d3⟩:=he;cases e with
  |returned v=>
   obtain⟨r',hr',r,hre,hP⟩:=d3;cases hre;exact⟨v,rfl,_,E1,S1,hP,d1,d2,hr'⟩
  |panicked ch=>obtain⟨r,h,_⟩:=d3;cases h
  |outgrown=>exact d3.elim
theorem A1i{c:Call}{fo:Operand}{f:FuncId}{caps xs zs ys:An}{r r':AV}{bx bx':B3}(hc:Gives X f ys fun r0 b0=>r0=r∧b0=bx)(ha:FzL S 0 0 zs ys)(hr:Sh S.boxes.length r r')(hb:ShB S.boxes.length bx bx')
 (ho:ops[i]?=some o:=by rfl)(hw:Bc ops F o=some true:=by rfl)(hop:o.op=.call c:=by rfl)(hcal:c.callee=.value fo:=by rfl)(hfo:Dv X F fo=some (.fn f caps):=by rfl)(hx:Hv X F c.args.toList=some xs:=by rfl)(hzs:Jt xs caps=some zs:=by rfl) :
 Ndo X N ops i o F r' S ⟨S.boxes++bx',S.toks⟩:=by
 intro F' E w a hl hI hF;obtain hd:=Xo hc hl hI hF ho hw hop hcal hfo hx hzs ha;intro b k cs rest;obtain⟨v,w',⟨r0,E1,S1,⟨rfl,rfl⟩,d1,d2,d3⟩,hst⟩:=hd b k cs rest;have nb:=hI.nb;obtain⟨g1,g2⟩:=Xw hI d1 d2 (by rw[nb];exact hb);refine⟨v,w',⟨_,g2,g1,hr.rel (fun b' q hq=>?_) d3⟩,hst⟩;simp only[Env.gain];rw[Gz (by omega)];rw[←nb,Aex];exact hq
theorem Qk{c:Call}{fo:Operand}{f:FuncId}{caps xs zs ys:An}{r r':AV}(hc:Pure X f ys r)(ha:FzL S 0 0 zs ys)(hr:Sh S.boxes.length r r')
 (ho:ops[i]?=some o:=by rfl)(hw:Bc ops F o=some true:=by rfl)(hop:o.op=.call c:=by rfl)(hcal:c.callee=.value fo:=by rfl)(hfo:Dv X F fo=some (.fn f caps):=by rfl)(hx:Hv X F c.args.toList=some xs:=by rfl)(hzs:Jt xs caps=some zs:=by rfl) :
 Ndo X N ops i o F r' S S:=by
 have h:=A1i (X:=X) (N:=N) (F:=F) (S:=S) (i:=i) (bx:=[]) (bx':=[]) hc.gives ha hr ⟨rfl,fun i x y hx=>by simp at hx⟩ ho hw hop hcal hfo hx hzs;rw[I4]at h;exact h
theorem Oe{l:List Nat}{k:List Item}{c:Call}{fo:Operand}{f:FuncId}{caps xs zs ys:An}{P:AV→B3→Prop}(hc:Gives X f ys P)(ha:FzL S 0 0 zs ys)
 (hk:∀r bx,P r bx→∃r' bx',Sh S.boxes.length r r'∧ShB S.boxes.length bx bx'∧AK X B (.inRegion ops l::k) (putF o.dst r' F) ⟨S.boxes++bx',S.toks⟩ R)(ho:ops[i]?=some o:=by rfl)(hw:Bc ops F o=some true:=by rfl)(hop:o.op=.call c:=by rfl)
 (hcal:c.callee=.value fo:=by rfl)(hfo:Dv X F fo=some (.fn f caps):=by rfl)(hx:Hv X F c.args.toList=some xs:=by rfl)(hzs:Jt xs caps=some zs:=by rfl)(hd:Eh B.fn.ntmps o.dst=true:=by rfl) :
 AK X B (.inRegion ops (i::l)::k) F S R:=by
 intro E w a b cs hI hF hn hm hb;have nt:E.toks.length=S.toks.length:=by rw[←hI.nt];simp
 have nb:=hI.nb;obtain⟨v,w',⟨r0,E1,S1,hP,d1,d2,d3⟩,hst⟩:=Xo (F':=F) hc (fun _ _=>rfl) hI hF ho hw hop hcal hfo hx hzs ha b k cs l;obtain⟨r',bx',hr,hbx,hK⟩:=hk _ _ hP;obtain⟨g1,g2⟩:=Xw hI d1 d2 (by rw[nb];exact hbx);have hF':=(hF.step g1).putF hd (hr.rel (E':=E.gain E1) (fun b' q hq=>by
  simp only[Env.gain];rw[Gz (by omega)];rw[←nb,Aex];exact hq) d3)
 rw[ho]at hst;exact Fin.from hst (g1.weaken (by rw[hI.nb];exact hn) (by omega)) (hK _ w' _ b cs g2 hF' (by simp;omega) hm hb)
end
section
variable {X:Cx}{B:Bx}{E E1:Env}{S S1:St}{w w':World}{F:Cw}{a:Act}{N:Nat}{R:AE→St→Prop}{ops:Array Oper}{i:Nat}{o:Oper}
def Zo(m sz:Nat):A7:=List.replicate m (List.replicate sz .junk)
theorem Ar6(m sz:Nat):∀r,r∈Zo m sz→r.length=sz:=fun r h=>by rw[Z3 h,List.length_replicate]
theorem Ava(hI:Inv X E S w){u:Value}{rows:A7}{t v:Nat}(h:Rel E w u (.psl rows t v))(hS:S.toks[t]?=some v)(hne:rows≠[]) :
 ∃b c sz,E.toks[t]?=some ⟨v,some (b,c,0)⟩∧u=.slice (some ⟨b,0,none⟩) rows.length c∧rows.length≤c∧Ahe E w b sz (rows++Zo (c-rows.length) sz):=by
 cases h with
 |psl _ _ _ a n cap k sz vals hn hx hcap hk hv hsz hp hr hf=>
  have hcur:=Zv hI hk hS;have hp:=hp hcur;obtain⟨kl,ksp⟩:=k;simp only at hcur;subst hcur;subst hn;cases ksp with
  |none=>exact absurd (zzq84.1 hp.1) hne
  |some q=>
   obtain⟨b,c,s⟩:=q;obtain⟨_,rfl,rfl,rfl,cs,e,hh,hcs,hcl⟩:=hp;refine⟨b,c,sz,hk,rfl,hcap,cs,e,hh,by rw[hcs,F5,Zo,List.length_replicate];congr 1;omega,fun r hr'=>?_,fun k r j x v' hk' hj hv'=>?_⟩
   ·rcases zzq26.1 hr' with h|h
    ·exact hsz r h
    ·exact Ar6 _ _ r h
   ·rcases Ga k rows.length with hlt|hge
    ·rw[Dd hlt]at hk';have hjl:j<sz:=by rw[←hsz r (Bn hk')];exact Aa hj
     have:=hcl k j (Aa hk') hjl;rw[this]at hv';cases hv';exact hr k j r x hk' hj
    ·rw[Gz hge]at hk';rw[Z3 (Bn hk')]at hj;rw[Z3 (Bn hj)];exact .junk v'
def Env.box1(E:Env)(t v b sz:Nat):Env:=⟨E.boxes++[some (b,sz)],E.toks.set t ⟨v+1,none⟩,E.fr,E.df⟩
theorem Apb(hI:Inv X E S w){u:Value}{rows:A7}{t v:Nat}(h:Rel E w u (.psl rows t v))(hS:S.toks[t]?=some v)(hne:rows≠[]) :
 ∃E' m sz,Evol E w E' w E.boxes.length E.toks.length∧Inv X E' ⟨S.boxes++[rows++Zo m sz],S.toks.set t (v+1)⟩ w∧(E'.boxes.take E.boxes.length=E.boxes)∧∀u',Rel E w u' (.psl rows t v)→Rel E' w u' (.bsl S.boxes.length rows.length):=by
 obtain⟨b,c,sz,hk,_,_,hbx⟩:=Ava hI h hS hne;have nb:=hI.nb;have hmtx:∀{b' o:Nat},(E.box1 t v b sz).mt b' o→E.mt b' o:=fun{b' o} h=>by
  rcases h with h|⟨j,s,h⟩|⟨t',l,c',s,h,hl⟩
  ·exact .inl h
  ·rcases getElem?_snoc h with h|⟨_,h⟩
   ·exact .inr (.inl ⟨j,s,h⟩)
   ·cases h;exact .inr (.inr ⟨t,v,c,0,hk,by omega⟩)
  ·rcases E8 h with⟨_,h⟩|⟨_,h⟩
   ·cases h
   ·exact .inr (.inr ⟨t',l,c',s,h,hl⟩)
 have hownx:∀{b':Nat},(E.box1 t v b sz).own b'→E.own b':=fun{b'} h=>by
  rcases h with⟨j,s,h⟩|⟨t',l,c',s,h⟩
  ·rcases getElem?_snoc h with h|⟨_,h⟩
   ·exact .inl ⟨j,s,h⟩
   ·cases h;exact .inr ⟨t,v,c,0,hk⟩
  ·rcases E8 h with⟨_,h⟩|⟨_,h⟩
   ·cases h
   ·exact .inr ⟨t',l,c',s,h⟩
 have ev:Evol E w (E.box1 t v b sz) w E.boxes.length E.toks.length:=by
  refine⟨rfl,fun j hj hl=>⟨by simp[Env.box1];omega,fun x hx=>getElem?_snoc_left hx⟩,fun t' ht k hk'=>?_,rfl,rfl,rfl,Bt _,fun _ _ _=>rfl,fun _ _ _ _ h=>h,fun _ _ _ h=>hmtx h,fun _ _ h=>hownx h,rfl,fun _ _ h=>h,fun _ _ _ _ _ _ _ _ _ h=>h⟩;by_cases he:t'=t
  ·subst he;rw[hk]at hk';cases hk';exact⟨⟨v+1,none⟩,by simp[Env.box1,ht],.inr (by simp)⟩
  ·exact⟨k,by simp only[Env.box1];rw[Fi (Ne.symm he)];exact hk',.inl rfl⟩
 have hbx':∀{b' s:Nat} {rows':A7},Ahe E w b' s rows'→Ahe (E.box1 t v b sz) w b' s rows':=fun{b' s rows'} ⟨cs,e,h1,h2,h3,h4⟩=>⟨cs,e,h1,h2,h3,fun k r j x v' g1 g2 g3=>(h4 k r j x v' g1 g2 g3).step ev⟩
 refine⟨E.box1 t v b sz,c-rows.length,sz,ev,?_,by simp[Env.box1],fun u' hu'=>?_⟩
 ·exact{
   nb:=by simp[Env.box1,nb]
   nt:=by simp only[Env.box1,Z1,hI.nt]
   np:=fun j hj=>by
    simp only[Env.box1,F5,Ab0]at hj⊢;rcases Ga j E.boxes.length with h|h
    ·rw[Dd h];exact hI.np j h
    ·have:j=E.boxes.length:=by omega
     subst this;exact⟨_,getElem?_snoc_new _ _⟩
   box:=fun j b' s rows' h1 h2=>by
    rcases getElem?_snoc h1 with h1|⟨hj,h1⟩
    ·rcases getElem?_snoc h2 with h2|⟨hj,_⟩
     ·exact hbx' (hI.box j b' s rows' h1 h2)
     ·have:=Aa h1;omega
    ·cases h1;rcases getElem?_snoc h2 with h2|⟨_,h2⟩
     ·have:=Aa h2;omega
     ·subst h2;exact hbx' hbx
   tok:=fun t' l b' c' s h=>by
    rcases E8 h with⟨_,h⟩|⟨_,h⟩
    ·cases h
    ·exact hI.tok t' l b' c' s h
   bb:=fun i j b' s s' h1 h2=>by
    rcases getElem?_snoc h1 with h1|⟨hi,h1⟩<;>rcases getElem?_snoc h2 with h2|⟨hj,h2⟩
    ·exact hI.bb i j b' s s' h1 h2
    ·cases h2;exact(hI.bt _ _ _ _ _ _ _ h1 hk).elim
    ·cases h1;exact(hI.bt _ _ _ _ _ _ _ h2 hk).elim
    ·omega
   bt:=fun i t' b' s l c' s' h1 h2=>by
    rcases E8 h2 with⟨_,h2⟩|⟨ht,h2⟩
    ·cases h2
    ·rcases getElem?_snoc h1 with h1|⟨hi,h1⟩
     ·exact hI.bt i t' b' s l c' s' h1 h2
     ·cases h1;exact ht (hI.tt _ _ _ _ _ _ _ _ _ h2 hk)
   tt:=fun i j b' l c' s l' c'' s' h1 h2=>by
    rcases E8 h1 with⟨_,h1⟩|⟨_,h1⟩
    ·cases h1
    ·rcases E8 h2 with⟨_,h2⟩|⟨_,h2⟩
     ·cases h2
     ·exact hI.tt i j b' l c' s l' c'' s' h1 h2
   frlt:=fun b' o h=>⟨fun h'=>(hI.frlt b' o h).1 (hownx h'),(hI.frlt b' o h).2⟩
   lo:=fun b' h=>hI.lo b' (hownx h)
   frlo:=hI.frlo
   sz:=hI.sz
   glob:=hI.glob }
 ·obtain⟨b2,c2,s2,hk2,rfl,hc2,_⟩:=Ava hI hu' hS hne;rw[hk]at hk2;cases hk2;exact .bsl _ b sz _ c (by rw[←nb];exact getElem?_snoc_new _ _) hc2
theorem A1f{K:List Item}(d:Nat){rows:A7}{t v m n:Nat}{tk:List Nat}(hne:rows≠[])(hk:∀k sz,AK X B K ((d,.bsl m n)::F) ⟨S.boxes++[rows++Zo k sz],tk⟩ R)(hd:lk F d=some (.psl rows t v):=by rfl)(hS:S.toks[t]?=some v:=by rfl)
 (hm:S.boxes.length=m:=by rfl)(hn:rows.length=n:=by rfl)(htk:S.toks.set t (v+1)=tk:=by rfl):AK X B K F S R:=by
 subst hm;subst hn;subst htk;intro E w a b cs hI hF hn hm hb;obtain⟨u,hu,hr⟩:=hF.rel d _ hd;obtain⟨E',k0,z0,ev,hI',_,hrel⟩:=Apb hI hr hS hne;have nt:E.toks.length=S.toks.length:=by rw[←hI.nt];simp
 have hF':FR E' w ((d,.bsl S.boxes.length rows.length)::F) a B.fn.ntmps:=by
  have h0:=hF.step ev;refine⟨h0.size,h0.nod,fun k x hx=>?_⟩;rw[Kk]at hx;split at hx
  ·rename_i hdk;cases hx;subst hdk;exact⟨u,hu,hrel u hr⟩
  ·exact h0.rel k x hx
 exact Fin.from (Steps.refl _ _) (ev.weaken (by rw[hI.nb];exact hn) (by omega)) (hk k0 z0 E' w a b cs hI' hF' (by simp;omega) (by simp;omega) hb)
theorem An1{K:List Item}(b r j:Nat){brows:A7}{cs:An}{rows:A7}{t v m n:Nat}{bx:B3}{tk:List Nat}(hne:rows≠[])(hk:∀k sz,AK X B K F ⟨bx++[rows++Zo k sz],tk⟩ R)(hb:S.boxes[b]?=some brows:=by rfl)(hr:brows[r]?=some cs:=by rfl)
 (hc:cs[j]?=some (.psl rows t v):=by rfl)(hS:S.toks[t]?=some v:=by rfl)(hm:S.boxes.length=m:=by rfl)(hn:rows.length=n:=by rfl)(hbx:S.boxes.set b (brows.set r (cs.set j (.bsl m n)))=bx:=by rfl)(htk:S.toks.set t (v+1)=tk:=by rfl) :
 AK X B K F S R:=by
 subst hm;subst hn;subst hbx;subst htk;intro E w a b' cs' hI hF hn hm hb';have hbl:=Aa hb;have nb:=hI.nb;obtain⟨⟨blk,sz⟩,hB⟩:=hI.np b (by omega);obtain⟨arr,e,hh,hs,hl,hrel0⟩:=hI.box b blk sz brows hB hb;have hrl:=Aa hr;have hjl:j<sz:=by rw[←hl cs (Bn hr)];exact Aa hc
 have hin:=Jv (sz:=sz) hrl hjl;obtain⟨u,hu⟩:=La arr (i:=r*sz+j) (by omega);have hur:=hrel0 r cs j _ u hr hc hu;obtain⟨E',k0,z0,ev,hI',hpre,hrel⟩:=Apb hI hur hS hne;have nt:E.toks.length=S.toks.length:=by rw[←hI.nt];simp
 have hI2:Inv X E' ⟨S.boxes.set b (brows.set r (cs.set j (.bsl S.boxes.length rows.length)))++[rows++Zo k0 z0],S.toks.set t (v+1)⟩ w:=
  { hI' with
    nb:=by have:=hI'.nb;simpa using this
    box:=fun i blk' sz' rows' h1 h2=>by
     rcases Ga i S.boxes.length with hi|hi
     ·rw[Dd (by simpa using hi)]at h2;rcases E8 h2 with⟨rfl,rfl⟩|⟨_,h2⟩
      ·have h3:=hI'.box i blk' sz' brows h1 (by rw[Dd hi];exact hb);have h1o:E.boxes[i]?=some (some (blk',sz')):=by
        rw[←hpre,Z0,if_pos (by omega)];exact h1
       rw[hB]at h1o;cases h1o;obtain⟨arr1,e1,g1,g2,g3,g4⟩:=h3;rw[hh]at g1;cases g1;refine⟨arr,e,hh,by simpa using g2,fun q hq=>?_,fun k q p x v' hk' hp hv=>?_⟩
       ·rcases Zy hq with hq|rfl
        ·exact g3 q hq
        ·simpa using g3 cs (Bn hr)
       ·rcases E8 hk' with⟨rfl,rfl⟩|⟨_,hk'⟩
        ·rcases E8 hp with⟨rfl,rfl⟩|⟨_,hp⟩
         ·rw[hu]at hv;cases hv;exact hrel _ hur
         ·exact g4 k cs p x v' hr hp hv
        ·exact g4 k q p x v' hk' hp hv
      ·exact hI'.box i blk' sz' rows' h1 (by rw[Dd hi];exact h2)
     ·rw[Gz (by simpa using hi)]at h2;exact hI'.box i blk' sz' rows' h1 (by rw[Gz hi];simpa using h2) }
 exact Fin.from (Steps.refl _ _) (ev.weaken (by rw[hI.nb];exact hn) (by omega)) (hk k0 z0 E' w a b' cs' hI2 (hF.step ev) (by simp;omega) (by simp;omega) hb')
def Runs(X:Cx)(f:FuncId)(args:An)(S:St)(P:AV→St→Prop):Prop:=
 N8 X.P f∧ACalls X f args S fun e S'=>∃r,e=.ret r∧P r S'
theorem Runs.mk{f:FuncId}{fn:Func}{c:Code}{args:An}{P:AV→St→Prop}(hf:X.P.funcs[f]?=some fn)(hb:fn.body=some c)(hl:Nat.ble args.length fn.ntmps=true)(hnm:(fn.name == "runtime.NumGoroutine")=false)
 (h:AK X ⟨f,fn,S.boxes.length,S.toks.length⟩ [.code c] (Pg 0 args) S fun e S'=>∃r,e=.ret r∧P r S'):Runs X f args S P:=
 ⟨⟨fn,hf,hnm,by rw[hb];rfl⟩,J8 (n:=S.boxes.length) (m:=S.toks.length) (hh:=fun C S' hx=>by obtain⟨r,hx,_⟩:=hx;cases hx) hf hb hl rfl rfl h⟩
def Env.all_(E:Env):Env:=⟨E.boxes,E.toks,E.fr,[]⟩
theorem Rel.df{E E':Env}{v:Value}{x:AV}(h:Rel E w v x)(hb:E'.boxes=E.boxes)(ht:E'.toks=E.toks)(hf:E'.fr=E.fr):Rel E' w v x:=by
 refine h.move (n:=E.boxes.length) (m:=E.toks.length) (fun i _ hi=>by rw[hb];exact⟨hi,fun x h=>h⟩) (fun t _ k hk=>⟨k,by rw[ht];exact hk,.inl rfl⟩) (fun _ _ _ _ h=>h) (fun b o _ h=>?_) (fun _ _ h=>h) (fun _ _ _ _ _ _ _ _ _ h=>h) h.ok;unfold Env.mt at h⊢;rw[hb,ht,hf]at h;exact h
theorem Inv.df{E':Env}(h:Inv X E S w)(hb:E'.boxes=E.boxes)(ht:E'.toks=E.toks)(hf:E'.fr=E.fr):Inv X E' S w where
 nb:=by rw[hb];exact h.nb
 nt:=by rw[ht];exact h.nt
 np:=by rw[hb];exact h.np
 box i b sz rows h1 h2:=by
  rw[hb]at h1;obtain⟨cs,e,g1,g2,g3,g4⟩:=h.box i b sz rows h1 h2;exact⟨cs,e,g1,g2,g3,fun k r j x v a1 a2 a3=>(g4 k r j x v a1 a2 a3).df hb ht hf⟩
 tok:=by rw[ht];exact h.tok
 bb:=by rw[hb];exact h.bb
 bt:=by rw[hb,ht];exact h.bt
 tt:=by rw[ht];exact h.tt
 frlt b o g:=by
  have:=h.frlt b o (by rw[←hf];exact g);unfold Env.own at this⊢;rw[hb,ht];exact this
 lo b g:=h.lo b (by unfold Env.own at g⊢;rw[←hb,←ht];exact g)
 frlo b o g:=h.frlo b o (by rw[←hf];exact g)
 sz:=h.sz
 glob:=h.glob
theorem Hl{l:List Nat}{k:List Item}{c:Call}{fo:Operand}{f:FuncId}{caps xs zs:An}{P:AV→St→Prop}(hc:Runs X f zs S P)(hk:∀r S',P r S'→S.boxes.length≤S'.boxes.length→S.toks.length≤S'.toks.length→AK X B (.inRegion ops l::k) (putF o.dst r F) S' R)
 (ho:ops[i]?=some o:=by rfl)(hw:Bc ops F o=some true:=by rfl)(hop:o.op=.call c:=by rfl)
 (hcal:c.callee=.value fo:=by rfl)(hfo:Dv X F fo=some (.fn f caps):=by rfl)(hx:Hv X F c.args.toList=some xs:=by rfl)(hzs:Jt xs caps=some zs:=by rfl)(hd:Eh B.fn.ntmps o.dst=true:=by rfl) :
 AK X B (.inRegion ops (i::l)::k) F S R:=by
 intro E w a b cs hI hF hn hm hb;have nt:E.toks.length=S.toks.length:=by rw[←hI.nt];simp
 have nb:=hI.nb;have hz:=Sk hzs;obtain⟨vs,h1,h2,h3⟩:=Q4 hop hcal hc.1 hI hF hfo hx;have hdo:Does X ops i a w fun v w'=>∃r E' S',P r S'∧Inv X E' S' w'∧Evol E w E' w' E.boxes.length E.toks.length∧Rel E' w' v r:=by
  refine Does.call ho (Cu hF hw) h1 ((hc.2 E.all_ w vs rfl (hI.df rfl rfl rfl) (by rw[h2,hz]) (fun j v y hv hy=>?_)).mono fun e w' he=>?_)
  ·exact(h3 j v y hv (by rw[hz];exact hy)).df rfl rfl rfl
  ·obtain⟨E1,S1,d1,d2,d3⟩:=he;cases e with
   |returned v=>
    obtain⟨r',hr',r,hre,hP⟩:=d3;cases hre;have ev:Evol E w ⟨E1.boxes,E1.toks,E1.fr,E.df⟩ w' E.boxes.length E.toks.length:=by
     have d2':=d2;rw[←nb,←nt]at d2';exact{ d2' with df:=rfl }
    exact⟨v,rfl,_,⟨E1.boxes,E1.toks,E1.fr,E.df⟩,S1,hP,d1.df rfl rfl rfl,ev,hr'.df rfl rfl rfl⟩
   |panicked ch=>obtain⟨r,h,_⟩:=d3;cases h
   |outgrown=>exact d3.elim
 obtain⟨v,w',⟨r,E',S',hP,g1,g2,g3⟩,g4⟩:=hdo b k cs l;have hF':=(hF.step g2).putF hd g3;have hlen:=g2.len;have nt':E'.toks.length=S'.toks.length:=by rw[←g1.nt];simp
 have nb':=g1.nb;rw[ho]at g4;exact Fin.from g4 (g2.weaken (by omega) (by omega)) (hk r S' hP (by omega) (by omega) E' w' _ b cs g1 hF' (by omega) (by omega) hb)
end
section
variable {X:Cx}{B:Bx}{S:St}{F:Cw}{R:AE→St→Prop}
theorem I6{c:Code}{k:List Item}{ι:Type}(I:ι→Prop)(st:ι→Cw)(ss:ι→St)(μ:ι→Nat)
 (hstep:∀i,I i→(∀j,I j→μ j<μ i→∀F' S',Sub (st j) F'→S'=ss j→AK X B (.inLoop c::k) F' S' R)→AK X B (.code c::.inLoop c::k) (st i) (ss i) R)
 (i0:ι)(h0:I i0)(hF:Sub (st i0) F)(hS:S=ss i0):AK X B (.code (.loop c)::k) F S R:=by
 have key:∀(q:Nat) (i:ι),μ i<q→I i→AK X B (.code c::.inLoop c::k) (st i) (ss i) R:=by
  intro q
  induction q with
  |zero=>intro i h;omega
  |succ q ih=>
   intro i h hi;refine hstep i hi fun j hj hlt F' S' h1 h2=>?_;subst h2;exact Qr (Qj h1 (ih j (by omega) hj))
 subst hS;exact Oq (Qj hF (key _ i0 (Aeq _) h0))
section
variable {ops:Array Oper}{i:Nat}{o:Oper}{l:List Nat}{k K:List Item}{F':Cw}{S2:St}{p q:Operand}
def A6j(X:Cx)(F:Cw):List Item→Bool
 |.inRegion ops (i::_)::_=>match ops[i]? with
  |some o=>match o.op with
   |.alloc _=>true
   |.box _ _=>true
   |.store _ p _=>match Dv X F p with
    |some (.ptr _ _ _)=>true
    |_=>false
   |.load _ p=>match Dv X F p with
    |some (.ptr _ _ _)=>true
    |_=>false
   |_=>false
  |none=>true
 |_=>false
def ev0(X:Cx)(N:Nat):Nat→List Item→Cw→St→List Item×Cw×St
 |0,K,F,S=>(K,F,S)
 |n+1,K,F,S=>match A6j X F K with
  |true=>(K,F,S)
  |false=>match Go.V.ev X N 1 K F S with
   |(K',F',S')=>ev0 X N n K' F' S'
theorem Ce{K':List Item}{F':Cw}{S':St}:∀(n:Nat){K:List Item}{F:Cw}{S:St},ev0 X B.fn.ntmps n K F S=(K',F',S')→AK X B K' F' S' R→AK X B K F S R
 |0,K,F,S,h,hk=>by simp only[ev0]at h;cases h;exact hk
 |n+1,K,F,S,h,hk=>by
  simp only[ev0]at h;split at h
  ·cases h;exact hk
  ·rcases hq:Go.V.ev X B.fn.ntmps 1 K F S with⟨K1,F1,S1⟩
   rw[hq]at h;exact Ba 1 hq (Ce n h hk)
theorem M0{t b:Nat}{y:Ty}{bx:B3}(hb:S.boxes.length=b)(hbx:S.boxes++[[y.zero]]=bx)(hk:AK X B K F' S2 R)(ho:ops[i]?=some o:=by rfl)(hw:Bc ops F o=some true:=by rfl)(hop:o.op=.alloc t:=by rfl)(hy:X.ty t=some y:=by rfl)
 (hd:Eh B.fn.ntmps o.dst=true:=by rfl)(he:ev0 X B.fn.ntmps 60 (.inRegion ops l::k) (putF o.dst (.ptr b 0 0) F) ⟨bx,S.toks⟩=(K,F',S2):=by rfl):AK X B (.inRegion ops (i::l)::k) F S R:=by
 subst hb;subst hbx;refine Hg (Me ho hw ?_) ho hd (Ce 60 he hk);rw[hop];obtain⟨y1,y2,y3,y4⟩:=y;simp only[Kx,hy,Rq,Kj]
theorem Ug{t b:Nat}{x:AV}{cs:An}{bx:B3}(hb:S.boxes.length=b)(hbx:S.boxes++[[cs]]=bx)(hk:AK X B K F' S2 R)(ho:ops[i]?=some o:=by rfl)(hw:Bc ops F o=some true:=by rfl)(hop:o.op=.box t p:=by rfl)(hp:Dv X F p=some x:=by rfl)(hc:cellsOf x=some cs:=by rfl)
 (hd:Eh B.fn.ntmps o.dst=true:=by rfl)(he:ev0 X B.fn.ntmps 60 (.inRegion ops l::k) (putF o.dst (.ptr b 0 0) F) ⟨bx,S.toks⟩=(K,F',S2):=by rfl):AK X B (.inRegion ops (i::l)::k) F S R:=by
 subst hb;subst hbx;refine Hg (Me ho hw ?_) ho hd (Ce 60 he hk);rw[hop];simp only[Kx,hp,hc,Rq,Kj]
theorem L5{t b r f:Nat}{y:Ty}{x:AV}{xs cs cs':An}{rows:A7}{bx:B3}(hb:S.boxes[b]?=some rows)(hr:rows[r]?=some cs)(hbx:S.boxes.set b (rows.set r cs')=bx)(hk:AK X B K F' S2 R)(ho:ops[i]?=some o:=by rfl)(hw:Bc ops F o=some true:=by rfl)
 (hop:o.op=.store t p q:=by rfl)(hp:Dv X F p=some (.ptr b r f):=by rfl)(hq:Dv X F q=some x:=by rfl)(hy:X.ty t=some y:=by rfl)(hc:cellsOf x=some xs:=by rfl)(hl:Nat.beq xs.length y.size=true:=by rfl)
 (hput:∀g:An→Option St,W2 cs f xs g=g cs':=by intro;rfl)(hd:Eh B.fn.ntmps o.dst=true:=by rfl)(he:ev0 X B.fn.ntmps 60 (.inRegion ops l::k) (putF o.dst .junk F) ⟨bx,S.toks⟩=(K,F',S2):=by rfl):AK X B (.inRegion ops (i::l)::k) F S R:=by
 subst hbx;refine Hg (Bg ho hw hop hy hp hq ?_) ho hd (Ce 60 he hk);obtain⟨bx,tk⟩:=S;simp only at hb;simp only[Vp,hc,hl,I5,hb,hr,hput];rw[Tt _ _ _ _ (Aa hr),Tt _ _ _ _ (Aa hb)]
theorem L3{t b r f:Nat}{y:Ty}{x:AV}{cs:An}{rows:A7}(hb:S.boxes[b]?=some rows)(hr:rows[r]?=some cs)(hk:AK X B K F' S2 R)(ho:ops[i]?=some o:=by rfl)(hw:Bc ops F o=some true:=by rfl)
 (hop:o.op=.load t p:=by rfl)(hp:Dv X F p=some (.ptr b r f):=by rfl)(hy:X.ty t=some y:=by rfl)(hx:(P7 f cs fun c=>Ol y.size c fun c'=>Xs (G9 y.k) c')=some x:=by rfl)
 (hd:Eh B.fn.ntmps o.dst=true:=by rfl)(he:ev0 X B.fn.ntmps 60 (.inRegion ops l::k) (putF o.dst x F) S=(K,F',S2):=by rfl):AK X B (.inRegion ops (i::l)::k) F S R:=by
 refine Hg (Cy ho hw ?_) ho hd (Ce 60 he hk);rw[hop];simp only[Es,T5,hy,hp,Xb,I5,hb,hr];exact hx
theorem Jr{t e b n:Nat}{ik:IntKind}{y ye:Ty}{rows:A7}{r:An}(j:Nat)(hj:j<n)(hb:S.boxes[b]?=some rows)(hr:rows[j]?=some r)(hl:r.length=ye.size)(hk:AK X B K F' S2 R)(ho:ops[i]?=some o:=by rfl)(hw:Bc ops F o=some true:=by rfl)
 (hop:o.op=.indexAddr t p q:=by rfl)(hp:Dv X F p=some (.bsl b n):=by rfl)(hq:Dv X F q=some (.val (.int ik j)):=by rfl)(hy:X.ty t=some y:=by rfl)(hyk:y.k=.slc e:=by rfl)(hye:X.ty e=some ye:=by rfl)
 (hd:Eh B.fn.ntmps o.dst=true:=by rfl)(he:ev0 X B.fn.ntmps 60 (.inRegion ops l::k) (putF o.dst (.ptr b j 0) F) S=(K,F',S2):=by rfl):AK X B (.inRegion ops (i::l)::k) F S R:=
 Hg (Gp (j:=j) ho hw hop hp hq hy hyk hye (by simpa[Hp]using hj) hb hr hl) ho hd (Ce 60 he hk)
theorem Ou{N t b r f:Nat}{y:Ty}{x:AV}{cs:An}{rows:A7}(hb:S.boxes[b]?=some rows)(hr:rows[r]?=some cs)(ho:ops[i]?=some o:=by rfl)(hw:Bc ops F o=some true:=by rfl)
 (hop:o.op=.load t p:=by rfl)(hp:Dv X F p=some (.ptr b r f):=by rfl)(hy:X.ty t=some y:=by rfl)(hx:(P7 f cs fun c=>Ol y.size c fun c'=>Xs (G9 y.k) c')=some x:=by rfl):Ndo X N ops i o F x S S:=by
 refine Cy ho hw ?_;rw[hop];simp only[Es,T5,hy,hp,Xb,I5,hb,hr];exact hx
theorem Md{N t b:Nat}{y:Ty}{bx:B3}(hb:S.boxes.length=b)(hbx:S.boxes++[[y.zero]]=bx)(ho:ops[i]?=some o:=by rfl)(hw:Bc ops F o=some true:=by rfl)(hop:o.op=.alloc t:=by rfl)(hy:X.ty t=some y:=by rfl) :
 Ndo X N ops i o F (.ptr b 0 0) S ⟨bx,S.toks⟩:=by
 subst hb;subst hbx;refine Me ho hw ?_;rw[hop];obtain⟨y1,y2,y3,y4⟩:=y;simp only[Kx,hy,Rq,Kj]
theorem Ji{N t b r f:Nat}{y:Ty}{x:AV}{xs cs cs':An}{rows:A7}{bx:B3}(hb:S.boxes[b]?=some rows)(hr:rows[r]?=some cs)(hbx:S.boxes.set b (rows.set r cs')=bx)(ho:ops[i]?=some o:=by rfl)(hw:Bc ops F o=some true:=by rfl)
 (hop:o.op=.store t p q:=by rfl)(hp:Dv X F p=some (.ptr b r f):=by rfl)(hq:Dv X F q=some x:=by rfl)(hy:X.ty t=some y:=by rfl)(hc:cellsOf x=some xs:=by rfl)(hl:Nat.beq xs.length y.size=true:=by rfl)
 (hput:∀g:An→Option St,W2 cs f xs g=g cs':=by intro;rfl):Ndo X N ops i o F .junk S ⟨bx,S.toks⟩:=by
 subst hbx;refine Bg ho hw hop hy hp hq ?_;obtain⟨bx,tk⟩:=S;simp only at hb;simp only[Vp,hc,hl,I5,hb,hr,hput];rw[Tt _ _ _ _ (Aa hr),Tt _ _ _ _ (Aa hb)]
theorem Aly{N t m e:Nat}{ps:Array (Nat×Operand)}{y ye:Ty}{r:AV}(ho:ops[i]?=some o:=by rfl)(hw:Bc ops F o=some true:=by rfl)(hop:o.op=.build t ps:=by rfl)(hy:X.ty t=some y:=by rfl)(hk:y.k=.arr m e:=by rfl)(hye:X.ty e=some ye:=by rfl)
 (h:Ab9 X F ((List.range m).map fun i=>(i*ye.size,ye.size)) ps.toList y.zero=some r:=by rfl):Ndo X N ops i o F r S S:=by
 intro F' E w a hl hI hF;have hlo:=Hi hl;rw[hop]at hlo;obtain⟨d,hd,hdd⟩:=(X.ty_ok t y hy).agg;simp only[hk]at hdd;obtain⟨rfl,ye',hye',_⟩:=hdd;rw[hye]at hye';cases hye';obtain⟨ze,_,_,_,ie,hie,_,hies,_⟩:=Ke hye w;obtain⟨z,_,hzc,_,i',hi,hiz,his,_⟩:=Ke hy w;obtain⟨cells,hc,hr⟩:=X0 hI hF (fs:=(List.range m).map fun i=>(i*ye.size,ye.size)) (place:=fun i=>some (i*ie.size,ie.size)) (fun j p hp=>by
  rw[I5,Hd]at hp;cases hj:(List.range m)[j]? with
  |none=>rw[hj]at hp;cases hp
  |some q=>
   rw[hj]at hp;cases hp;obtain⟨h1,h2⟩:=zzq99.1 hj;rw[List.getElem_range]at h2;subst h2;rw[hies]) ps.toList z.cells y.zero r (Ww hzc) (by rw[Xz fun t ht=>hlo t (by simpa[Op.operands]using ht)];exact h)
 have hrun:=run_build (P:=X.P) w t (ps.map fun(i,x)=>(i,a.eval x)) cells (by simp only[Program.built,hi,hd,hiz,hie];simpa using hc);exact Does.val ho (Cu hF (by rw[Dc hl];exact hw)) (by simp[execOp,hop,hrun]) (.inl rfl) ⟨E,hI,Evol.refl _ _ _ _,hr⟩
theorem Aw{t b f:Nat}{y:Ty}{x:AV}{cs:An}(hb:S.boxes[b]?=some [cs])(hk:AK X B K F' S2 R)(ho:ops[i]?=some o:=by rfl)(hw:Bc ops F o=some true:=by rfl)
 (hop:o.op=.load t p:=by rfl)(hp:Dv X F p=some (.ptr b 0 f):=by rfl)(hy:X.ty t=some y:=by rfl)(hx:(P7 f cs fun c=>Ol y.size c fun c'=>Xs (G9 y.k) c')=some x:=by rfl)
 (hd:Eh B.fn.ntmps o.dst=true:=by rfl)(he:ev0 X B.fn.ntmps 60 (.inRegion ops l::k) (putF o.dst x F) S=(K,F',S2):=by rfl):AK X B (.inRegion ops (i::l)::k) F S R:=
 L3 hb rfl hk ho hw hop hp hy hx hd he
theorem As{N t b f:Nat}{y:Ty}{x:AV}{cs:An}(hb:S.boxes[b]?=some [cs])(ho:ops[i]?=some o:=by rfl)(hw:Bc ops F o=some true:=by rfl)
 (hop:o.op=.load t p:=by rfl)(hp:Dv X F p=some (.ptr b 0 f):=by rfl)(hy:X.ty t=some y:=by rfl)(hx:(P7 f cs fun c=>Ol y.size c fun c'=>Xs (G9 y.k) c')=some x:=by rfl):Ndo X N ops i o F x S S:=
 Ou hb rfl ho hw hop hp hy hx
theorem Ct{t b f:Nat}{y:Ty}{x:AV}{xs cs cs':An}{bx:B3}(hb:S.boxes[b]?=some [cs])(hbx:S.boxes.set b [cs']=bx)(hk:AK X B K F' S2 R)(ho:ops[i]?=some o:=by rfl)(hw:Bc ops F o=some true:=by rfl)
 (hop:o.op=.store t p q:=by rfl)(hp:Dv X F p=some (.ptr b 0 f):=by rfl)(hq:Dv X F q=some x:=by rfl)(hy:X.ty t=some y:=by rfl)(hc:cellsOf x=some xs:=by rfl)(hl:Nat.beq xs.length y.size=true:=by rfl)
 (hput:∀g:An→Option St,W2 cs f xs g=g cs':=by intro;rfl)(hd:Eh B.fn.ntmps o.dst=true:=by rfl)(he:ev0 X B.fn.ntmps 60 (.inRegion ops l::k) (putF o.dst .junk F) ⟨bx,S.toks⟩=(K,F',S2):=by rfl):AK X B (.inRegion ops (i::l)::k) F S R:=
 L5 (r:=0) (cs:=cs) (cs':=cs') hb rfl hbx hk ho hw hop hp hq hy hc hl hput hd he
theorem Cv{t:Nat}{x y:Code}{e:Bool}(h2:AK X B K F' S2 R)(hc:lk F t=some (.val (.bool e)):=by rfl)
 (he2:ev0 X B.fn.ntmps 60 (.code y::k) ((t,.lit false)::F) S=(K,F',S2):=by rfl)(ht:e=false:=by rfl):AK X B (.code (.cond (.tmp t) x y)::k) F S R:=
 P2 hc (fun h=>by rw[ht]at h;cases h) (fun _=>Ce 60 he2 h2)
theorem Ej{t:Nat}{x y:Code}{e:Bool}(h1:AK X B K F' S2 R)(hc:lk F t=some (.val (.bool e)):=by rfl)
 (he1:ev0 X B.fn.ntmps 60 (.code x::k) ((t,.lit true)::F) S=(K,F',S2):=by rfl)(ht:e=true:=by rfl):AK X B (.code (.cond (.tmp t) x y)::k) F S R:=
 P2 hc (fun _=>Ce 60 he1 h1) (fun h=>by rw[ht]at h;cases h)
theorem Gn{t:Nat}{x y:Code}{e:Bool}{K1 K2:List Item}{F1 F2:Cw}{S1:St}(h1:e=true→AK X B K1 F1 S1 R)(h2:e=false→AK X B K2 F2 S2 R)(hc:lk F t=some (.val (.bool e)):=by rfl)
 (he1:ev0 X B.fn.ntmps 60 (.code x::k) ((t,.lit true)::F) S=(K1,F1,S1):=by rfl)(he2:ev0 X B.fn.ntmps 60 (.code y::k) ((t,.lit false)::F) S=(K2,F2,S2):=by rfl):AK X B (.code (.cond (.tmp t) x y)::k) F S R:=
 P2 hc (fun h=>Ce 60 he1 (h1 h)) (fun h=>Ce 60 he2 (h2 h))
theorem Uh{t j:Nat}{want e:Bool}{oj:Oper}(h2:AK X B K F' S2 R)(ho:ops[i]?=some o:=by rfl)(hg:o.guard=some (j,want):=by rfl)
 (hj:ops[j]?=some oj:=by rfl)(hd:oj.dst=some t:=by rfl)(hc:lk F t=some (.val (.bool e)):=by rfl)(he2:ev0 X B.fn.ntmps 60 (.inRegion ops (i::l)::k) ((t,.lit true)::F) S=(K,F',S2):=by rfl)(ht:e=true:=by rfl) :
 AK X B (.inRegion ops (i::l)::k) F S R:=
 Yi hc (fun _=>Ce 60 he2 h2) (fun h=>by rw[ht]at h;cases h)
theorem R5{t j:Nat}{want e:Bool}{oj:Oper}(h2:AK X B K F' S2 R)(ho:ops[i]?=some o:=by rfl)(hg:o.guard=some (j,want):=by rfl)
 (hj:ops[j]?=some oj:=by rfl)(hd:oj.dst=some t:=by rfl)(hc:lk F t=some (.val (.bool e)):=by rfl)(he2:ev0 X B.fn.ntmps 60 (.inRegion ops (i::l)::k) ((t,.lit false)::F) S=(K,F',S2):=by rfl)(ht:e=false:=by rfl) :
 AK X B (.inRegion ops (i::l)::k) F S R:=
 Yi hc (fun h=>by rw[ht]at h;cases h) (fun _=>Ce 60 he2 h2)
theorem L4{c:Call}{fo:Operand}{f:FuncId}{caps xs zs ys:An}{r:AV}(hc:Pure X f ys r)(hk:AK X B K F' S2 R)(ho:ops[i]?=some o:=by rfl)(hw:Bc ops F o=some true:=by rfl)
 (hop:o.op=.call c:=by rfl)(hcal:c.callee=.value fo:=by rfl)(hfo:Dv X F fo=some (.fn f caps):=by rfl)(hx:Hv X F c.args.toList=some xs:=by rfl)(hzs:Jt xs caps=some zs:=by rfl)
 (hd:Eh B.fn.ntmps o.dst=true:=by rfl) [hs:RinL [] [] zs ys] [hok:OK 0 0 r](he:ev0 X B.fn.ntmps 60 (.inRegion ops l::k) (putF o.dst r F) S=(K,F',S2):=by rfl):AK X B (.inRegion ops (i::l)::k) F S R:=
 Hg (Z8 hc ho hw hop hcal hfo hx hzs hok.ok) ho hd (Ce 60 he hk)
theorem M1{t e:Nat}{rows:A7}{sp:Sp}{ik:IntKind}{r:An}{y ye:Ty}(n:Int)(h0:0≤n)(hr:rows[n.toNat]?=some r)(hk:AK X B K F' S2 R)(ho:ops[i]?=some o:=by rfl)(hw:Bc ops F o=some true:=by rfl)
 (hop:o.op=.indexAddr t p q:=by rfl)(hp:Dv X F p=some (.sl rows sp):=by rfl)(hq:Dv X F q=some (.val (.int ik n)):=by rfl)
 (hy:X.ty t=some y:=by rfl)(hyk:y.k=.slc e:=by rfl)(hye:X.ty e=some ye:=by rfl)(hd:Eh B.fn.ntmps o.dst=true:=by rfl)(hl:r.length=ye.size:=by rfl)
 (he:ev0 X B.fn.ntmps 60 (.inRegion ops l::k) (putF o.dst (.cptr r) F) S=(K,F',S2):=by rfl):AK X B (.inRegion ops (i::l)::k) F S R:=
 Acy ho hw hop hp hq hy hyk hye hd hl h0 hr (Ce 60 he hk)
theorem Xj{c:Call}{fo:Operand}{f:FuncId}{caps xs zs ys:An}{r r':AV}(hc:Pure X f ys r)(ha:FzL S 0 0 zs ys)(hr:Sh S.boxes.length r r')(hk:AK X B K F' S2 R)(ho:ops[i]?=some o:=by rfl)(hw:Bc ops F o=some true:=by rfl)
 (hop:o.op=.call c:=by rfl)(hcal:c.callee=.value fo:=by rfl)(hfo:Dv X F fo=some (.fn f caps):=by rfl)(hx:Hv X F c.args.toList=some xs:=by rfl)(hzs:Jt xs caps=some zs:=by rfl)
 (hd:Eh B.fn.ntmps o.dst=true:=by rfl)(he:ev0 X B.fn.ntmps 60 (.inRegion ops l::k) (putF o.dst r' F) S=(K,F',S2):=by rfl):AK X B (.inRegion ops (i::l)::k) F S R:=
 Hg (Qk hc ha hr ho hw hop hcal hfo hx hzs) ho hd (Ce 60 he hk)
theorem G0{N em:Nat}{bs:List Nat}{Hs:List St}{pend:List Jc}(hk:AK X B K F' S2 R)(he:ev0 X B.fn.ntmps 60 k F S=(K,F',S2):=by rfl):Drv X N ops bs em [] i F S Hs pend fun F1 S1=>AK X B k F1 S1 R:=
 Ce 60 he hk
end
theorem Aso{K:List Item}(d:Nat){m:Nat}{tk:List Nat}(hk:AK X B K ((d,.psl [] m 0)::F) ⟨S.boxes,tk⟩ R)(hd:lk F d=some (.sl [] .tight):=by rfl)(hn:S.toks.length=m:=by rfl)(htk:S.toks++[0]=tk:=by rfl):AK X B K F S R:=by
 subst hn;subst htk;intro E w a b cs hI hF hn hm hb;have ev:=Np E w 0;have hF':FR (E.mint 0) w ((d,.psl [] S.toks.length 0)::F) a B.fn.ntmps:=by
  have h0:=hF.mint 0;refine⟨h0.size,h0.nod,fun k x hx=>?_⟩;rw[Kk]at hx;split at hx
  ·rename_i hdk;subst hdk;cases hx;obtain⟨v,hv,hr⟩:=hF.rel d _ hd;exact⟨v,hv,Afj hI hr⟩
  ·exact h0.rel k x hx
 have nt:E.toks.length=S.toks.length:=by rw[←hI.nt];simp
 exact Fin.from (Steps.refl _ _) (ev.weaken (by rw[hI.nb];exact hn) (by omega)) (hk (E.mint 0) w a b cs (hI.mint 0) hF' hn (by simp;omega) hb)
theorem Ahc{xs:An}(hf:X.P.funcs[B.f]?=some B.fn)(hR:R (.ret (De xs)) S)(h:Oc X F S B.fn.results.toList=some xs:=by rfl):AK X B [] F S R:=by
 intro E w a b cs hI hF hn hm hb;obtain⟨v,h1,h2⟩:=Nq hI hF h;refine .inl ⟨.returned v,w,{ b.at a []with mode:=.returning },⟨E,S,hI,Evol.refl _ _ _ _,_,h2,hR⟩,.one step_end,hb,⟨rfl,hF.nod,rfl,B.fn,by rw[←hf];exact congrArg (X.P.funcs[·]?) hb,h1⟩⟩
theorem Gives.run{f:FuncId}{fn:Func}{c:Code}{args:An}{P:AV→B3→Prop}{K:List Item}{F':Cw}{S2:St}(hf:X.P.funcs[f]?=some fn)(h:AK X ⟨f,fn,0,0⟩ K F' S2 fun e S'=>∃r,e=.ret r∧P r S'.boxes)(hb:fn.body=some c:=by rfl)
 (hl:Nat.ble args.length fn.ntmps=true:=by rfl)(hnm:(fn.name == "runtime.NumGoroutine")=false:=by kernel_rfl)
 (he:Go.V.ev X fn.ntmps 200 [.code c] (Pg 0 args) ⟨[],[]⟩=(K,F',S2):=by rfl):Gives X f args P:=Gives.mk hf hb hl hnm (Ba 200 he h)
theorem Runs.run{f:FuncId}{fn:Func}{c:Code}{args:An}{P:AV→St→Prop}{K:List Item}{F':Cw}{S2:St}(hf:X.P.funcs[f]?=some fn)(h:AK X ⟨f,fn,S.boxes.length,S.toks.length⟩ K F' S2 fun e S'=>∃r,e=.ret r∧P r S')(hb:fn.body=some c:=by rfl)
 (hl:Nat.ble args.length fn.ntmps=true:=by rfl)(hnm:(fn.name == "runtime.NumGoroutine")=false:=by kernel_rfl)
 (he:ev0 X fn.ntmps 60 [.code c] (Pg 0 args) S=(K,F',S2):=by rfl):Runs X f args S P:=Runs.mk hf hb hl hnm (Ce 60 he h)
end
end Go.V
