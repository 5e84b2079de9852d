/- A part of the proof of the claim that the last text states: no condition of its own. -/
import Derived.Test.YtojhghmilenfkaaGreatDoorN6
import Derived.Ground.NamesProg
import Derived.Lib.AtoiTie
import Derived.Lib.Bytealg
import Derived.Lib.ConvBytes
import Derived.Shelf.Strconv.AtoiAll
import Derived.Shelf.Strconv.Itoa3
import Derived.Test.YtojhghmilenfkaaGreatDoorChecked
import Derived.WideLaws
set_option linter.unusedVariables false
set_option linter.unusedSimpArgs false
namespace Go.V
open Go Go.Proofs Go.Proofs.Tryz
theorem If{X:Cx}{B:Bx}{F:C5}{S:St}{R:AE→St→Prop}{K:List Item}(d:Nat)(y:AV)(hk:AK X B K ((d,y)::F) S R)(h:lk F d=some y:=by rfl):AK X B K F S R:=by
 intro E w a b cs hI hF hn hm hb;refine hk E w a b cs hI ⟨hF.size,hF.nod,fun k z hz=>?_⟩ hn hm hb;rw[J7]at hz;split at hz
 ·rename_i he;subst he;cases hz;exact hF.rel _ _ h
 ·exact hF.rel k z hz
theorem Agk:∀(f a:Nat)(r:List UInt8)(out:List Wd),out.length≤1500→(∀w,w∈out→w.kind=Di w.text)→(Hg f a r out).1.length≤1500∧∀w,w∈(Hg f a r out).1→w.kind=Di w.text
 |0,a,r,out,h1,h2=>by simp only[Hg];exact⟨h1,h2⟩
 |f+1,a,[],out,h1,h2=>by simp only[Hg];exact⟨h1,h2⟩
 |f+1,a,c::l,out,h1,h2=>by
  simp only[Hg];split
  ·exact⟨by simp,fun w hw=>by cases hw⟩
  ·split
   ·exact⟨by simp,fun w hw=>by cases hw⟩
   ·rename_i hk;refine Agk f _ _ _ ?_ fun w hw=>?_
    ·simp at hk⊢;omega
    ·rcases zzq45.1 hw with h|h
     ·exact h2 w h
     ·simp at h;subst h;rfl
theorem Agl(s:List UInt8):(C4 s).1.length≤1500∧∀w,w∈(C4 s).1→w.kind=Di w.text:=by
 unfold C4;split
 ·exact⟨by simp,fun w hw=>by cases hw⟩
 ·exact Agk _ _ _ _ (by simp) (fun w hw=>by cases hw)
def RS.place(r:RS)(e:Nat):Nat:=match r.ws[r.at_]? with
 |some w=>w.pos
 |none=>e
def rs0(s:List UInt8):RS:=⟨(C4 s).1,0,false⟩
theorem Aih(s:List UInt8):(rs0 s).ok:=⟨(Agl s).1,B3 _⟩
theorem Aii(s:List UInt8):(rs0 s).wk:=(Agl s).2
def Fb(s:List UInt8):Nd×Int×Int:=
 if (C4 s).2.1=0 then
  (if (Ep (rs0 s)).2.bad then(Cg,4,(Ep (rs0 s)).2.place s.length)
  else if 500<Ai (Ep (rs0 s)).1∨24<Dh (Ep (rs0 s)).1 then(Cg,5,0)else((Ep (rs0 s)).1,0,0))
 else(Cg,(C4 s).2.1,(C4 s).2.2)
theorem Aj3{s:List UInt8}(h:(Fb s).2.1=0):FP (Fb s).1∧Ai (Fb s).1≤500∧Dh (Fb s).1≤24:=by
 unfold Fb at h⊢;split at h
 ·rename_i h0;rw[if_pos h0];split at h
  ·simp at h
  ·rename_i hb;rw[if_neg hb];split at h
   ·simp at h
   ·rename_i hl;rw[if_neg hl];have:=Xi (Aih s) (Aii s) (by simpa using hb);exact⟨this.1,by simp only;omega,by simp only;omega⟩
 ·rename_i h0;exact absurd h h0
theorem Aj4{r:RS}(ho:r.ok):r.after (Ep r).2:=by
 simp only[Ep];have aT:r.after (E9 2000 [] r).2:=N6 2000 [] r ho;have aL:=(F5 5000).2.2 [] (E9 2000 [] r).2 (aT.ok ho);have a:=aT.trans aL;simp only[RS.ends];split
 ·exact a.trans (Pu (a.ok ho))
 ·exact a
theorem Jd{s:List UInt8}(h:nameS s=true):s.length≤8:=by
 unfold nameS at h;split at h
 ·simp
 ·simp only[Dd,Ke]at h;have:=h.1.1.1;simp;omega
theorem Ax5(s:List UInt8)(hs:s.length≤1000000000):Pure X 218 [str s] (.tup [nd (Fb s).1,.agg [vi (Fb s).2.1,vi (Fb s).2.2]]):=by
 have hw:Pure X 262 [str s] (.tup [.sl (Hk (C4 s).1) .no,.agg [vi (C4 s).2.1,vi (C4 s).2.2]]):=Ayc s hs;refine Pure.run func218 ?_;refine Al hw ?_;refine Ah (fun h=>?_) (fun h=>?_)
 ·have h':(C4 s).2.1≠0:=by have:(!((C4 s).2.1==0))=true:=h;simpa using this
  have hP:Fb s=(Cg,(C4 s).2.1,((C4 s).2.2:Int)):=by simp only[Fb];rw[if_neg h']
  rw[hP];refine D8 12 ?_;refine Dz (A7 rfl rfl rfl rfl rfl rfl rfl) ?_ ?_
  ·exact An (Ck rfl rfl rfl) Gy
  refine Ch (A7 rfl rfl rfl rfl rfl rfl rfl) ?_;refine B2 ?_;refine As func218 ?_;rfl
 have h':(C4 s).2.1=0:=by have:(!((C4 s).2.1==0))=false:=h;simpa using this
 have hP:Fb s=if (Ep (rs0 s)).2.bad then(Cg,4,((Ep (rs0 s)).2.place s.length:Int))else if 500<Ai (Ep (rs0 s)).1∨24<Dh (Ep (rs0 s)).1 then(Cg,5,0)else((Ep (rs0 s)).1,0,0):=by
  simp only[Fb];rw[if_pos h']
 rw[hP];have ho:=Aih s;refine If 6 (.ptr 3 0 0) ?_;refine If 22 (.ptr 3 0 0) ?_;refine Ae [3] [] (A2e (rs0 s) ho) ?_;have hws:(Ep (rs0 s)).2.ws=(C4 s).1:=(Aj4 ho).1;have good:=Xi ho (Aii s);have hl0:=(Aih s).1;generalize Ep (rs0 s)=q at good hws⊢;refine Ah (fun h1=>?_) (fun h1=>?_)
 ·have h1':q.2.bad=true:=h1;rw[if_pos h1'];refine Ah (fun h2=>?_) (fun h2=>?_)
  ·have hlt:q.2.at_<(C4 s).1.length:=by have:=A5 h2;rw[D2]at this;omega
   obtain⟨w,hw⟩:=Ab (C4 s).1 hlt;have hp:q.2.place s.length=w.pos:=by simp[RS.place,hws,hw]
   refine B4 q.2.at_ (by omega) (Rb hw) ?_;refine As func218 ?_;rw[hp];rfl
  ·have hlt:(C4 s).1.length≤q.2.at_:=by have:=Ba h2;rw[D2]at this;omega
   have hp:q.2.place s.length=s.length:=by simp[RS.place,hws,U9 hlt]
   refine As func218 ?_;rw[hp];rfl
 ·have h1':q.2.bad=false:=h1;obtain⟨g1,g2,g3⟩:=good h1';have hc:Ai q.1≤4000000000:=by
   have e:(rs0 s).at_=0:=rfl;omega
  rw[if_neg (by simp[h1'])];refine Al (Aon q.1 hc) ?_;refine Df (fun h2=>?_) (fun h2=>?_)
  ·have h2':500<Ai q.1:=by have:=A5 h2;omega
   rw[if_pos (.inl h2')];refine A0 ?_;refine As func218 ?_;rfl
  ·have h2':¬500<Ai q.1:=by have:=Ba h2;omega
   refine Al (Aoo q.1 hc) ?_;refine Ah (fun h3=>?_) (fun h3=>?_)
   ·have h3':24<Dh q.1:=by have:=A5 h3;omega
    rw[if_pos (.inr h3')];refine As func218 ?_;rfl
   ·have h3':¬24<Dh q.1:=by have:=Ba h3;omega
    rw[if_neg (by omega)];refine As func218 ?_;rfl
def Kb(n:Nd):List UInt8:=((n.kids.dropLast).map fun x=>Cp x []).flatten++(match n.kids.getLast? with
 |some b=>Ij b.kids []
 |none=>[])
def Dq(n:Nd):Bool:=(n.kind==40&&Tf n)&&((!(Kb n==[])&&decide ((Kb n).length≤4000))&&(Fb (Kb n)).2.1==0)
theorem Adq(ds l:List Nd):Kb (.mk 40 [] 0 (ds++[.mk 30 [] 0 l]))=(ds.map fun x=>Cp x []).flatten++Ij l []:=by
 simp[Kb]
theorem Ax6(n:Nd)(h:FP n)(hd:Dh n≤24)(hw:wN n≤100000):Pure X 217 [nd n,str []] (str (Kb n))∧(Kb n).length≤4060*wN n:=by
 cases h with
 |mk ds l hd' hl=>
  rw[Adq];simp only[Dh]at hd;have hdl:Gu l≤22:=by
   have:=Gv (l:=ds++[.mk 30 [] 0 l]) (x:=.mk 30 [] 0 l) (by simp);simp only[Dh]at this;omega
  have hwl:wL (ds++[.mk 30 [] 0 l])≤100000:=by simp[wN]at hw;omega
  have hwb:=P5 (l:=ds++[.mk 30 [] 0 l]) (k:=.mk 30 [] 0 l) (by simp);simp only[wN]at hwb;have hf:∀x,x∈ds++[.mk 30 [] 0 l]→Pure X 217 [nd x,str []] (str (if x.kind=30 then Ij x.kids []else Cp x []))∧(if x.kind=30 then Ij x.kids []else Cp x []).length≤4060*wN x:=fun x hx=>by
   have hwx:=P5 hx;rcases zzq45.1 hx with h|h
   ·have hv:=hd' x h;have hk:¬x.kind=30:=by cases hv<;>simp
    rw[if_neg hk];exact⟨Ax3 x hv [] (by simp) (by omega),Aqf x hv [] (by simp)⟩
   ·simp only[List.mem_singleton]at h;subst h;rw[if_pos (M6 30 [] 0 l),Gh];refine⟨Ys l [] hl (by simp;omega) (by simp at hwb;omega) fun x hx=>Ax2 x (hl x hx),?_⟩;have:=Qq (.mk 30 [] 0 l) l [] hl (by simp;omega);simp only[wN];omega
  have hp:=Aop 40 (.inr rfl) _ _ [] (by simp) hwl hf;have hT:((ds++[Nd.mk 30 [] 0 l]).map fun x=>if x.kind=30 then Ij x.kids []else Cp x []).flatten=(ds.map fun x=>Cp x []).flatten++Ij l []:=by
   have e:(ds.map fun x=>if x.kind=30 then Ij x.kids []else Cp x [])=ds.map fun x=>Cp x []:=by
    apply List.map_congr_left;intro x hx;have hv:=hd' x hx;have hk:¬x.kind=30:=by cases hv<;>simp
    rw[if_neg hk]
   rw[Kr,List.flatten_append,e];simp
  rw[hT]at hp;refine⟨hp,?_⟩;have:=Ac6 fun x hx=>(hf x hx).2;rw[hT]at this;simp only[wN];omega
theorem Aau(n:Nd)(h:Co n=true):wN n≤9*Ai n:=by
 induction n using Nd.ind with
 |h n ih=>
  rw[K4,Dd]at h;have hall:=Le h.2;obtain⟨_,hH⟩:=Afg h.1;have hs:n.name.length≤8:=by
   have e:=hH.hs;cases hb:(Bj n.kind).2.1 with
   |false=>rw[hb]at e;have h0:n.name=[]:=(by simpa using e);rw[h0];simp
   |true=>exact Jd (hH.hn hb)
  have key:∀l:List Nd,(∀x,x∈l→wN x≤9*Ai x)→wL l≤9*A3 l:=by
   intro l
   induction l with
   |nil=>intro _;simp[wL]
   |cons x l ihl=>
    intro hx;have h1:=hx x (by simp);have h2:=ihl fun y hy=>hx y (by simp[hy]);simp only[wL,A3];omega
  have:=key n.kids fun x hx=>by
   obtain⟨j,hj⟩:=Bs hx;exact ih x hx (hall j x hj).2
  rw[Ws,Cj];omega
theorem Aj2(n:Nd)(hn:wN n≤1000000000):Pure X 156 [nd n] (vb (Dq n)):=by
 refine Pure.run func156 ?_;refine Df (fun h1=>?_) (fun h1=>?_)
 ·have h1':¬n.kind=40:=by have:(!(n.kind==40))=true:=h1;simpa using this
  refine A0 ?_;refine Az func156 ?_;simp[Dq,h1',C8]
 have h1':n.kind=40:=by have:(!(n.kind==40))=false:=h1;simpa using this
 refine Al (A12 n hn) ?_;refine Ah (fun h2=>?_) (fun h2=>?_)
 ·have h2':Tf n=false:=by have:(!Tf n)=true:=h2;simpa using this
  refine Az func156 ?_;simp[Dq,h2',C8]
 have h2':Tf n=true:=by have:(!Tf n)=false:=h2;simpa using this
 have h2'':=h2';simp only[Tf,Dd,Ke]at h2'';obtain⟨⟨hc,hd⟩,hf⟩:=h2'';have hw:=Aau n hf;have hP:=Azv n hf h1';obtain⟨hp,hl⟩:=Ax6 n hP hd (by omega);refine Al hp ?_;have hO:Dq n=((!(Kb n==[])&&decide ((Kb n).length≤4000))&&(Fb (Kb n)).2.1==0):=by simp[Dq,h1',h2']
 rw[hO];refine Df (fun h3=>?_) (fun h3=>?_)
 ·have h3':(Kb n==[])=true:=h3;refine A0 ?_;refine Az func156 ?_;rw[h3'];rfl
 have h3':(Kb n==[])=false:=h3;refine Ah (fun h4=>?_) (fun h4=>?_)
 ·have h4':¬(Kb n).length≤4000:=by have:=A5 h4;rw[F9]at this;omega
  refine Az func156 ?_;simp[h4',C8]
 have h4':(Kb n).length≤4000:=by have:=Ba h4;rw[F9]at this;omega
 refine Al (Ax5 (Kb n) (by omega)) ?_;refine Az func156 ?_;simp[h3',h4',C8]
theorem Us(l:List (List UInt8))(s:List UInt8)(hl:l.length≤1000000000):Pure X 102 [.sl (Dl l) .no,str s] (vi (E6 0 l s)):=by
 refine Pure.run func102 ?_;refine Ar (ι:=Nat) 0 0 (fun i=>i≤l.length∧E6 0 l s=E6 i (l.drop i) s) (fun i=>[(5,vi i),(0,.sl (Dl l) .no),(1,str s)]) (fun _=>⟨[],[]⟩) (fun i=>l.length-i) ?_ 0 ⟨B3 _,rfl⟩
  ⟨rfl,rfl,rfl,trivial⟩
 intro i hi IH;refine C7 (fun h=>?_) (fun h=>?_)
 ·have hlt:i<l.length:=by have:=A5 h;rw[F6]at this;omega
  obtain⟨x,hx⟩:=Ab l hlt;have hd:E6 i (l.drop i) s=if s==x then(i:Int)else E6 (i+1) (l.drop (i+1)) s:=by rw[B6 hx];rfl
  refine B4 i (by omega) (Q5 hx) ?_;refine Ah (fun h2=>?_) (fun h2=>?_)
  ·refine Az func102 ?_;have h3:(s==x)=true:=by have:(x==s)=true:=h2;rw[zzq54]at this⊢;exact this.symm
   rw[hi.2,hd,h3];rfl
  ·have h3:(s==x)=false:=by have:(x==s)=false:=h2;rw[beq_eq_false_iff_ne]at this⊢;exact Ne.symm this
   exact IH (i+1) ⟨hlt,by rw[hi.2,hd,h3];rfl⟩ (by omega) _ _ ⟨vsx (by omega),rfl,rfl,trivial⟩ rfl rfl rfl
 ·have:i=l.length:=by have:=Ba h;rw[F6]at this;omega
  refine Az func102 ?_;rw[hi.2,this,Hz];rfl
theorem Acf(l:List (List UInt8)):Kf 1 (Dl l)=true:=Kx (f:=fun s=>[str s]) (fun _=>rfl) l
def Kj(k:Int):Int:=if k=2∨k=21∨k=23∨k=26 then 1 else if k=3∨k=4∨k=22 then 2 else 0
theorem Ayb(k:Int):Pure X 219 [vi k] (vi (Kj k)):=by
 refine Pure.run func219 ?_
 repeat' (refine Ah (fun _=>?_) (fun _=>?_))
 all_goals refine Az func219 ?_
 all_goals (simp_all [Kj,C8])
def Fa(l:List Nd)(k:Int):List (List UInt8):=(l.filter fun x=>x.kind==k).map Nd.name
def Ax(n:Nd)(k:Int):List (List UInt8):=Fa n.kids.dropLast k
theorem Aae(l:List Nd)(k:Int):(Fa l k).length≤l.length:=by simp only[Fa,Py];exact Abm _ _
theorem Sk(n:Nd)(k:Int)(hn:wN n≤1000000000):Pure X 98 [nd n,vi k] (.sl (Dl (Ax n k)) .no):=by
 refine Pure.run func98 ?_;have hkl:=G7 n;have hw:IntKind.i64.wrap ((Ap n.kids).length-1:Int)=n.kids.length-1:=by rw[Ad];exact Ac (by omega) (by omega)
 refine N2 (d:=5) rfl rfl rfl ?_;refine Ar (ι:=Nat) 1 1 (fun i=>i≤n.kids.length-1) (fun i=>[(6,vi i),(5,.sl (Dl (Fa (n.kids.take i) k)) (.tok 0)),(1,vi k),(2,.ptr 0 0 0)]) (fun i=>⟨[[Af n]],[(Fa (n.kids.take i) k).length]⟩) (fun i=>n.kids.length-i) ?_ 0
  (B3 _) ⟨rfl,rfl,rfl,rfl,trivial⟩
 intro i hi IH;refine C7 (fun h=>?_) (fun h=>?_)
 ·have hlt:i<n.kids.length-1:=by have:=A5 h;rw[hw]at this;omega
  obtain⟨x,hx⟩:=Ab n.kids (i:=i) (by omega);have hle:=Aae (n.kids.take i) k;have htl:(n.kids.take i).length=i:=by simp;omega
  refine B4 i (by omega) (Am hx) ?_;refine Ah (fun h2=>?_) (fun h2=>?_)
  ·have h2':(x.kind==k)=true:=h2;have hs:Fa (n.kids.take (i+1)) k=Fa (n.kids.take i) k++[x.name]:=by simp[Fa,G8,hx,Aeg,Abo,h2']
   refine B4 i (by omega) (Am hx) ?_;refine Bn (Bu (res:=Dl (Fa (n.kids.take i) k++[x.name])) rfl rfl rfl rfl rfl rfl rfl rfl rfl rfl rfl rfl rfl rfl (F6 _) (Acf _) rfl rfl rfl ?_ ?_ rfl) ?_
   ·rw[F6];simp;omega
   ·simp[Dl]
   refine IH (i+1) (by omega) (by omega) _ _ ⟨vsx (by omega),?_,rfl,rfl,trivial⟩ ?_ rfl rfl
   ·rw[hs];rfl
   ·rw[hs];simp[St.drop,F6]
  ·have h2':(x.kind==k)=false:=h2;have hs:Fa (n.kids.take (i+1)) k=Fa (n.kids.take i) k:=by simp[Fa,G8,hx,Aeg,Abo,h2']
   refine IH (i+1) (by omega) (by omega) _ _ ⟨vsx (by omega),?_,rfl,rfl,trivial⟩ ?_ rfl rfl
   ·rw[hs];rfl
   ·rw[hs];rfl
 ·have:i=n.kids.length-1:=by have:=Ba h;rw[hw]at this;omega
  refine As func98 ?_;rw[this,Ax,Akx]
theorem Adn(n:Nd)(hn:wN n≤1000000000):Pure X 103 [nd n] (nd n):=by
 induction n using Nd.ind with
 |h n ih=>
 refine Pure.run func103 ?_;have hkl:=G7 n;refine N2 (d:=3) rfl rfl rfl ?_;refine Ar (ι:=Nat) 2 1 (fun i=>i≤n.kids.length) (fun i=>[(4,vi i),(3,.sl (Ap (n.kids.take i)) (.tok 0)),(1,.ptr 0 0 0),(2,.ptr 1 0 0)]) (fun i=>⟨[[Af n],[zN]],[i]⟩) (fun i=>n.kids.length-i) ?_ 0
  (B3 _) ⟨rfl,rfl,rfl,rfl,trivial⟩
 intro i hi IH;refine C7 (fun h=>?_) (fun h=>?_)
 ·have hlt:i<n.kids.length:=by have:=A5 h;rw[Ad]at this;omega
  obtain⟨x,hx⟩:=Ab n.kids hlt;have hwx:=Jg (Bh hx);have htl:(n.kids.take i).length=i:=by simp;omega
  refine B4 i (by omega) (Am hx) ?_;refine Al (ih x (Bh hx) (by omega)) ?_;refine Bn (Bu (res:=Ap (n.kids.take (i+1))) rfl rfl rfl rfl rfl rfl rfl rfl rfl rfl rfl rfl rfl rfl (by rw[Ad,htl]) (Ew _) rfl rfl rfl ?_ ?_ rfl) ?_
  ·rw[Ad];simp;omega
  ·rw[G8,hx,Au,Au];simp
  refine IH (i+1) hlt (by omega) _ _ ⟨vsx (by omega),rfl,rfl,rfl,trivial⟩ ?_ rfl rfl;simp[St.drop,Ad,htl]
 ·have:i=n.kids.length:=by have:=Ba h;rw[Ad]at this;omega
  subst this;refine As func103 ?_;rw[I2];rfl
theorem Az8(s:List UInt8)(a:Nd):Pure X 230 [str s,nd a] (nd (.mk 21 s 0 [a])):=by
 refine Pure.run func230 ?_;refine As func230 ?_;show AV.agg [_,_,_,.sl _ _]=AV.agg [_,_,_,.sl (Ap [a]) _];rw[Au [a]];rfl
theorem At8(s:List UInt8):Pure X 232 [str s] (nd (.mk 2 s 0 [])):=by
 refine Pure.run func232 ?_;exact As func232 rfl
theorem Ax4:Pure X 233 [vi 1] (nd (.mk 1 [] 1 [])):=by
 refine Pure.run func233 ?_;refine Ag ?_;exact As func233 rfl
def Hv(vars arrs:List (List UInt8))(code:Int)(k:Int)(s:List UInt8):Bool:=
 decide (Kj k>0)&&((code==7&&!decide (E6 0 vars s≥0)&&!decide (E6 0 arrs s≥0))||(code==8&&((Kj k==1&&!decide (E6 0 vars s≥0))||(Kj k==2&&!decide (E6 0 arrs s≥0)))))
mutual
def G2(vars arrs:List (List UInt8))(code:Int):Nd→List UInt8×Bool
 |.mk k s _ ks=>if Hv vars arrs code k s then(s,true)else My vars arrs code ks
def My(vars arrs:List (List UInt8))(code:Int):List Nd→List UInt8×Bool
 |[]=>([],false)
 |x::l=>if (G2 vars arrs code x).2 then(G2 vars arrs code x)else My vars arrs code l
end
theorem Ra(vars arrs:List (List UInt8))(code:Int)(n:Nd):G2 vars arrs code n=if Hv vars arrs code n.kind n.name then(n.name,true)else My vars arrs code n.kids:=by cases n;rw[G2];rfl
theorem A5m(n:Nd)(vars arrs:List (List UInt8))(T:List UInt8×Bool)(code w:Int)(v a:Bool)(hc:code=7∨code=8)(hw:w=1∨w=2)
 (h7:AK X ⟨157,f157,0,0⟩ (Lm false 7 f157) [(4,.ptr 0 0 0),(1,.sl (Dl vars) .no),(2,.sl (Dl arrs) .no),(3,vi code)] ⟨[[Af n]],[]⟩ (fun e S=>e=.ret (.tup [str T.1,vb T.2])∧S=⟨[],[]⟩)) :
 AK X ⟨157,f157,0,0⟩ (Lm false 5 f157) [(4,.ptr 0 0 0),(1,.sl (Dl vars) .no),(2,.sl (Dl arrs) .no),(3,vi code),(10,vi w),(11,vb v),(12,vb a)] ⟨[[Af n]],[]⟩
  (fun e S=>e=.ret (.tup [str (if ((code==7&&!v&&!a)||(code==8&&((w==1&&!v)||(w==2&&!a))))then(n.name,true)else T).1,vb (if ((code==7&&!v&&!a)||(code==8&&((w==1&&!v)||(w==2&&!a))))then(n.name,true)else T).2])∧S=⟨[],[]⟩):=by
 refine D5 ?_;rcases hc with rfl|rfl<;>rcases hw with rfl|rfl<;>cases v<;>cases a
 all_goals
  refine Bi 100 rfl ?_
  repeat' (first|refine Ii ?_|refine Hh ?_)
  first
   |(refine A0 ?_;exact Az func157 rfl)
   |(refine Ey 0 7 (fun h=>?_) (fun h=>?_);· cases h
     exact Bz 1 0 h7 ⟨rfl,rfl,rfl,rfl,trivial⟩ rfl rfl rfl rfl rfl)
theorem Aor(vars arrs:List (List UInt8))(code:Int)(hc:code=7∨code=8)(hv:vars.length≤1000000000)(ha:arrs.length≤1000000000)(n:Nd)(hn:wN n≤1000000000) :
 Pure X 157 [nd n,.sl (Dl vars) .no,.sl (Dl arrs) .no,vi code] (.tup [str (G2 vars arrs code n).1,vb (G2 vars arrs code n).2]):=by
 induction n using Nd.ind with
 |h n ih=>
 have hkl:=G7 n;have hloop:∀T,My vars arrs code n.kids=T→AK X ⟨157,f157,0,0⟩ (Lm false 7 f157) [(4,.ptr 0 0 0),(1,.sl (Dl vars) .no),(2,.sl (Dl arrs) .no),(3,vi code)] ⟨[[Af n]],[]⟩
  (fun e S=>e=.ret (.tup [str T.1,vb T.2])∧S=⟨[],[]⟩):=fun T hT=>by
  refine D5 ?_;refine Bi 100 rfl ?_;refine Ar (ι:=Nat) 1 0 (fun i=>i≤n.kids.length∧T=My vars arrs code (n.kids.drop i)) (fun i=>[(13,vi i),(4,.ptr 0 0 0),(1,.sl (Dl vars) .no),(2,.sl (Dl arrs) .no),(3,vi code)]) (fun _=>⟨[[Af n]],[]⟩)
   (fun i=>n.kids.length-i) ?_ 0 ⟨B3 _,hT.symm⟩ ⟨rfl,rfl,rfl,rfl,rfl,trivial⟩
  rintro i ⟨hi,hTi⟩ IH;refine C7 (fun h=>?_) (fun h=>?_)
  ·have hlt:i<n.kids.length:=by have:=A5 h;rw[Ad]at this;omega
   obtain⟨x,hx⟩:=Ab n.kids hlt;have hwx:=Jg (Bh hx);rw[B6 hx]at hTi;simp only[My]at hTi;refine B4 i (by omega) (Am hx) ?_;refine Al (ih x (Bh hx) (by omega)) ?_;refine Ah (fun h2=>?_) (fun h2=>?_)
   ·have h2':(G2 vars arrs code x).2=true:=h2;refine Az func157 ?_;rw[hTi,if_pos h2',h2'];rfl
   ·have h2':(G2 vars arrs code x).2=false:=h2;exact IH (i+1) ⟨hlt,by rw[hTi,if_neg (by simp[h2'])]⟩ (by omega) _ _ ⟨vsx (by omega),rfl,rfl,rfl,rfl,trivial⟩ rfl rfl rfl
  ·have:i=n.kids.length:=by have:=Ba h;rw[Ad]at this;omega
   refine Az func157 ?_;rw[hTi,this,Hz];rfl
 refine Pure.run func157 ?_;refine Al (Ayb n.kind) ?_;rw[Ra];refine Ey 0 7 (fun h1=>?_) (fun h1=>?_)
 ·have h1':decide (Kj n.kind>0)=true:=h1;have hw:Kj n.kind=1∨Kj n.kind=2:=by
   have:=A5 h1';unfold Kj at this⊢;split
   ·simp
   ·split
    ·simp
    ·rename_i h2 h3;rw[if_neg h2,if_neg h3]at this;omega
  refine Bi 100 rfl ?_;refine Al (Us vars n.name hv) ?_;refine Arv 5 (Us arrs n.name ha) ?_;have hA:Hv vars arrs code n.kind n.name=((code==7&&!decide (E6 0 vars n.name≥0)&&!decide (E6 0 arrs n.name≥0))||(code==8&&((Kj n.kind==1&&!decide (E6 0 vars n.name≥0))||(Kj n.kind==2&&!decide (E6 0 arrs n.name≥0))))):=by simp only[Hv,h1',Re]
  rw[hA];exact Bz 1 0 (A5m n vars arrs _ code _ _ _ hc hw (hloop _ rfl)) ⟨rfl,rfl,rfl,rfl,rfl,rfl,rfl,trivial⟩ rfl rfl rfl rfl rfl
 ·have h1':decide (Kj n.kind>0)=false:=h1;have hA:Hv vars arrs code n.kind n.name=false:=by simp[Hv,h1']
  rw[hA];exact Bz 1 0 (hloop _ rfl) ⟨rfl,rfl,rfl,rfl,trivial⟩ rfl rfl rfl rfl rfl
theorem Ak3{X:Cx}{B:Bx}{S S2:St}{F F':C5}{N:Nat}{R:AE→St→Prop}{ops:Array Oper}{i:Nat}{bs:List Nat}{em:Nat}{Hs:List St}{pend:List J2}{k K:List Item}(id:Nat)(hk:AK X B K F' S2 R)
 (he:evT X B.fn.ntmps id 100 k F S=(K,F',S2):=by rfl):Drv X N ops bs em [] i F S Hs pend fun F1 S1=>AK X B k F1 S1 R:=
 Kv id 100 he hk
def Aem(s:List UInt8):List Nd→List Nd
 |[a,b,.mk k' s' m' l]=>[.mk 21 s 0 [a],.mk 25 [] 0 [.mk 11 [] 0 [.mk 2 s 0 [],b],.mk k' s' m' (l++[.mk 21 s 0 [.mk 6 [] 0 [.mk 2 s 0 [],.mk 1 [] 1 []]]])]]
 |_=>[]
mutual
def A6:Nd→Nd
 |.mk k s m ks=>.mk k s m (Br ks)
def Br:List Nd→List Nd
 |[]=>[]
 |x::l=>G1 x++Br l
def G1:Nd→List Nd
 |.mk k s m ks=>if k=26 then Aem s (Br ks)else[.mk k s m (Br ks)]
end
theorem Bd(k:Int)(s:List UInt8)(m:Int)(ks:List Nd):A6 (.mk k s m ks)=.mk k s m (Br ks):=by rw[A6]
theorem A4:Br []=[]:=by rw[Br]
theorem Ao(x:Nd)(l:List Nd):Br (x::l)=G1 x++Br l:=by rw[Br]
theorem Bf{x:Nd}(h:x.kind≠26):G1 x=[A6 x]:=by
 obtain⟨k,s,m,ks⟩:=x;have h':k≠26:=h;rw[G1,if_neg h',A6]
theorem K6(s:List UInt8)(m:Int)(ks:List Nd):G1 (.mk 26 s m ks)=Aem s (Br ks):=by rw[G1,if_pos rfl]
theorem Uu(a b:List Nd):Br (a++b)=Br a++Br b:=by
 induction a with
 |nil=>simp[A4]
 |cons x a ih=>simp[Ao,ih]
theorem Ie{l:List Nd}(h:∀x,x∈l→x.kind≠26):Br l=l.map A6:=by
 induction l with
 |nil=>simp[A4]
 |cons x l ih=>rw[Ao,Bf (h x (by simp)),ih fun y hy=>h y (by simp[hy])];simp
theorem Cy{x:Nd}(h:FE x):1≤x.kind∧x.kind≤8:=by
 cases h<;>simp;omega
theorem J0{x:Nd}(h:FC x):11≤x.kind∧x.kind≤16:=by
 cases h;simp;omega
theorem Av6{x:Nd}(h:FS x):21≤x.kind∧x.kind≤29:=by
 cases h<;>simp
theorem Abx{x:Nd}(h:FV x):x.kind=31∨x.kind=32:=by
 cases h<;>simp
theorem Ut{x:Nd}(h:FE x):A6 x=x:=by
 induction h with
 |num m h0 h1=>rw[Bd,A4]
 |var s h=>rw[Bd,A4]
 |cell s a h ha ih=>rw[Bd,Ao,A4,Bf (by have:=Cy ha;omega),ih];rfl
 |len s h=>rw[Bd,A4]
 |neg a ha ih=>rw[Bd,Ao,A4,Bf (by have:=Cy ha;omega),ih];rfl
 |two k a b hk ha hb iha ihb=>rw[Bd,Ao,Ao,A4,Bf (by have:=Cy ha;omega),Bf (by have:=Cy hb;omega),iha,ihb];rfl
theorem Sr{x:Nd}(h:FC x):A6 x=x:=by
 cases h with
 |mk k a b h0 h1 ha hb=>rw[Bd,Ao,Ao,A4,Bf (by have:=Cy ha;omega),Bf (by have:=Cy hb;omega),Ut ha,Ut hb];rfl
theorem A16{x:Nd}(h:FV x):A6 x=x:=by
 cases h<;>rw[Bd,A4]
theorem U7(a b:List Nd):wL (a++b)=wL a+wL b:=by
 induction a with
 |nil=>simp[wL]
 |cons x a ih=>simp only[Pz,wL,ih];omega
theorem A1a(s:List UInt8)(l:List Nd):wL (Aem s l)≤wL l+10+5*s.length:=by
 unfold Aem;split
 ·simp only[wL,wN,U7,Wx];omega
 ·simp[wL]
theorem Ro{P:Nd→Prop}{Q:List Nd→Prop}(h1:∀(k:Int)(s:List UInt8)(m:Int)(ks:List Nd),Q ks→P (.mk k s m ks))(h2:Q [])(h3:∀(x:Nd)(l:List Nd),P x→Q l→Q (x::l)):(∀x,P x)∧∀l,Q l:=by
 have hP:∀x,P x:=fun x=>Nd.rec (motive_1:=P) (motive_2:=Q) h1 h2 h3 x;refine⟨hP,fun l=>?_⟩
 induction l with
 |nil=>exact h2
 |cons x l ih=>exact h3 x l (hP x) ih
theorem Aue:(∀n:Nd,wN (A6 n)≤10*wN n∧wL (G1 n)≤10*wN n)∧∀l:List Nd,wL (Br l)≤10*wL l:=by
 refine Ro (fun k s m ks ih=>?_) ?_ (fun x l hx hl=>?_)
 ·have hM:wN (A6 (.mk k s m ks))≤10*wN (.mk k s m ks):=by rw[Bd];simp only[wN];omega
  refine⟨hM,?_⟩;by_cases hk:k=26
  ·subst hk;rw[K6];have:=A1a s (Br ks);simp only[wN];omega
  ·rw[Bf (by simpa using hk)];simp only[wL];omega
 ·simp[A4,wL]
 ·rw[Ao,U7];simp only[wL];omega
theorem Ps(n:Nd):wN (A6 n)≤10*wN n∧wL (G1 n)≤10*wN n:=Aue.1 n
theorem Vx(l:List Nd):wL (Br l)≤10*wL l:=by
 induction l with
 |nil=>simp[A4,wL]
 |cons x l ih=>rw[Ao,U7];have:=(Ps x).2;simp only[wL];omega
theorem Mu(l:List Nd):l.length≤wL l:=by
 induction l with
 |nil=>simp
 |cons x l ih=>have:=Ws x;simp[wL];omega
theorem Ni(k:Int)(s:List UInt8)(m:Int)(ks:List Nd)(hk:k≠26)(hk':k≠30)(hw:wN (.mk k s m ks)≤1000000000)
 (hx:∀x,x∈ks→(x.kind=30∧Pure X 170 [nd x] (.sl (Ap [A6 x]) .no))∨(x.kind≠30∧A6 x=x)) :
 Pure X 170 [nd (.mk k s m ks)] (.sl (Ap [.mk k s m (ks.map A6)]) .no):=by
 have ne1:(k==30)=false:=by simpa using hk'
 have ne2:(k==26)=false:=by simpa using hk
 have hkl:=G7 (.mk k s m ks);simp only[Gh]at hkl;refine Pure.run func170 ?_;refine Ag ?_ (ht:=ne1);refine Ag ?_ (ht:=ne2);refine En 1 0 3 rfl rfl rfl rfl rfl rfl ?_;refine Ar (ι:=Nat) 2 1 (fun i=>i≤ks.length) (fun i=>[(6,vi i),(1,.ptr 0 0 0),(3,.ptr 1 0 0)]) (fun i=>⟨[[Af (.mk k s m ks)],[[vi k,str s,vi m,.sl (Ap ((ks.take i).map A6)) (.tok 0)]]],[i]⟩) (fun i=>ks.length-i) ?_ 0
  (B3 _) ⟨rfl,rfl,rfl,trivial⟩
 intro i hi IH;refine C7 (fun h=>?_) (fun h=>?_)
 ·have hlt:i<ks.length:=by have:=A5 h;rw[Ad]at this;simp at this;omega
  obtain⟨x,hxg⟩:=Ab ks hlt;have hwx:wN x<wN (.mk k s m ks):=Jg (n:=.mk k s m ks) (Bh hxg);have htl:(Ap ((ks.take i).map A6)).length=i:=by rw[Ad];simp;omega
  have hres:Ap ((ks.take i).map A6)++[Af (A6 x)]=Ap ((ks.take (i+1)).map A6):=by simp[Au,G8,hxg]
  have hgo:AK X ⟨170,f170,0,0⟩ (Lm false 15 f170) [(6,vi i),(1,.ptr 0 0 0),(3,.ptr 1 0 0)] ⟨[[Af (.mk k s m ks)],[[vi k,str s,vi m,.sl (Ap ((ks.take (i+1)).map A6)) (.tok 0)]]],[i+1]⟩
   (fun e S=>e=.ret (.sl (Ap [.mk k s m (ks.map A6)]) .no)∧S=⟨[],[]⟩):=by
   refine D5 ?_;refine Bi 100 rfl ?_;exact IH (i+1) hlt (by omega) _ _ ⟨vsx (by omega),rfl,rfl,trivial⟩ rfl rfl rfl
  refine B4 i (by omega) (Am (l:=ks) hxg) ?_;rcases hx x (Bh hxg)with⟨h30,hp⟩|⟨h30,hp⟩
  ·refine A0 ?_ (ht:=by simpa using h30);refine D8 10240 ?_;refine Db i (by omega) (Am (l:=ks) hxg) ?_;refine Ce hp ?_;refine Db 0 (by omega) (Wj (A6 x) []) ?_;refine Ch (Bu (res:=Ap ((ks.take (i+1)).map A6)) rfl rfl rfl rfl rfl rfl rfl rfl rfl rfl rfl rfl rfl rfl htl (Ew _) rfl rfl rfl ?_ hres rfl) ?_
   ·rw[htl];simp;omega
   refine Av ?_;refine Ch (A7 rfl rfl rfl rfl rfl rfl rfl) ?_;refine Ak3 15 ?_;exact Bz 2 1 hgo ⟨rfl,rfl,rfl,trivial⟩ (by simp[St.drop,Ad];omega) rfl rfl rfl rfl
  ·refine Ag ?_ (ht:=by simpa using h30);refine D8 2560 ?_;refine Db i (by omega) (Am (l:=ks) hxg) ?_;refine Ce (Adn x (by omega)) ?_;rw[hp]at hres;refine Ch (Bu (res:=Ap ((ks.take (i+1)).map A6)) rfl rfl rfl rfl rfl rfl rfl rfl rfl rfl rfl rfl rfl rfl htl (Ew _) rfl rfl rfl ?_ hres rfl) ?_
   ·rw[htl];simp;omega
   refine Av ?_;refine Ch (A7 rfl rfl rfl rfl rfl rfl rfl) ?_;refine Ak3 15 ?_;exact Bz 2 1 hgo ⟨rfl,rfl,rfl,trivial⟩ (by simp[St.drop,Ad];omega) rfl rfl rfl rfl
 ·have:i=ks.length:=by have:=Ba h;rw[Ad]at this;simp at this;omega
  subst this;refine As func170 ?_;rw[I2,Au [_]];rfl
theorem Ajx(l:List Nd):Nb (Ap l)=true:=K9.2 fun r hr x hx=>by
 rw[Au]at hr;obtain⟨k,_,rfl⟩:=zzq66.1 hr;simp[Af]at hx;rcases hx with rfl|rfl|rfl|rfl<;>rfl
theorem Hands.pure{X:Cx}{f:FuncId}{args:List AV}{y r:AV}{tk:List Nat}(h:Hands X f args ⟨[],[]⟩ y ⟨[],tk⟩) [hz:FzC ⟨[],tk⟩ 0 0 y r]:Pure X f args r:=by
 refine⟨h.1,fun E w vs hd hI hs hr=>(h.2 E w vs hd hI hs hr).mono fun e w' he=>?_⟩;obtain⟨E1,S1,d1,d2,d3⟩:=he;cases e with
 |returned v=>
  obtain⟨r',hr',hre,rfl⟩:=d3;cases hre;exact⟨E1.drop 0 0,_,d1.drop (fun rows hr=>by simp at hr),d2.trans (Evol.drop E1 w' 0 0),r,hz.s.rel d1 hr',rfl,by simp[St.drop]⟩
 |panicked ch=>obtain⟨h,_⟩:=d3;cases h
 |outgrown=>exact d3.elim
theorem Ajh(m:Int)(s:List UInt8)(ks:List Nd)(hw:wN (.mk 30 s m ks)≤1000000000)
 (hx:∀x,x∈ks→Pure X 170 [nd x] (.sl (Ap (G1 x)) .no)∧Nat.ble 1 (G1 x).length=true) :
 Hands X 170 [nd (.mk 30 s m ks)] ⟨[],[]⟩ (.sl [[vi 30,str s,vi m,.sl (Ap (Br ks)) (.tok 0)]] .tight) ⟨[],[(Br ks).length]⟩:=by
 have hkl:=G7 (.mk 30 s m ks);simp only[Gh]at hkl;refine Hands.run func170 ?_;refine A0 ?_;refine En 1 0 3 rfl rfl rfl rfl rfl rfl ?_;refine Ar (ι:=Nat) 2 1 (fun i=>i≤ks.length) (fun i=>[(4,vi i),(1,.ptr 0 0 0),(3,.ptr 1 0 0)]) (fun i=>⟨[[Af (.mk 30 s m ks)],[[vi 30,str s,vi m,.sl (Ap (Br (ks.take i))) (.tok 0)]]],[(Br (ks.take i)).length]⟩) (fun i=>ks.length-i) ?_ 0
  (B3 _) ⟨rfl,rfl,rfl,trivial⟩ (by simp[A4];rfl)
 intro i hi IH;refine C7 (fun h=>?_) (fun h=>?_)
 ·have hlt:i<ks.length:=by have:=A5 h;rw[Ad]at this;simp at this;omega
  obtain⟨x,hxg⟩:=Ab ks hlt;have hwx:wN x<wN (.mk 30 s m ks):=Jg (n:=.mk 30 s m ks) (Bh hxg);have hsn:Br (ks.take (i+1))=Br (ks.take i)++G1 x:=by rw[G8,hxg,Uu];simp[Ao,A4]
  have hl1:=Mu (Br (ks.take i));have hl2:=Vx (ks.take i);have hl3:wL (ks.take i)≤wL ks:=by
   have:=U7 (ks.take i) (ks.drop i);rw[Aee]at this;omega
  have hl4:=Mu (G1 x);have hl5:=(Ps x).2;have hw':=hw;simp only[wN]at hw';obtain⟨hp,hne⟩:=hx x (Bh hxg);refine D8 1280 ?_;refine Db i (by omega) (Am (l:=ks) hxg) ?_;refine Ce hp ?_;refine Ch (Bu (res:=Ap (Br (ks.take (i+1)))) rfl rfl rfl rfl rfl rfl rfl rfl rfl rfl rfl rfl rfl rfl (Ad _) (Ew _) (Ew _) (Ajx _) (by rw[Ad];exact hne) ?_ ?_ rfl) ?_
  ·rw[Ad,Ad];simp only[wN]at hwx;omega
  ·rw[hsn,Au,Au,Au,Kr]
  refine Av ?_;refine Ch (A7 rfl rfl rfl rfl rfl rfl rfl) ?_;refine B2 ?_;refine IH (i+1) hlt (by omega) _ _ ⟨vsx (by omega),rfl,rfl,trivial⟩ ?_ rfl rfl;simp[St.drop,Ad,hsn]
 ·have:i=ks.length:=by have:=Ba h;rw[Ad]at this;simp at this;omega
  subst this;rw[I2];exact Zj func170 rfl rfl rfl rfl
theorem Yu(m:Int)(s:List UInt8)(ks:List Nd)(hw:wN (.mk 30 s m ks)≤1000000000)
 (hx:∀x,x∈ks→Pure X 170 [nd x] (.sl (Ap (G1 x)) .no)∧Nat.ble 1 (G1 x).length=true) :
 Pure X 170 [nd (.mk 30 s m ks)] (.sl (Ap [.mk 30 s m (Br ks)]) .no):=by
 have:=(Ajh m s ks hw hx).pure;rw[Au [_]];exact this
theorem Qv{x:Nd}(h:FS x):Nat.ble 1 (G1 x).length=true:=by
 by_cases hk:x.kind=26
 ·cases h with
  |for_ s a b l h ha hb hl=>
   rw[K6,Ao,Ao,Ao,A4,Bf (by have:=Cy ha;omega),Bf (by have:=Cy hb;omega),Bf (by simp),Bd];rfl
  |_=>simp at hk
 ·rw[Bf hk];rfl
theorem At9(x:Nd)(h:FS x)(hw:wN x≤1000000000):Pure X 170 [nd x] (.sl (Ap (G1 x)) .no):=by
 induction h with
 |set s a h ha=>
  rw[Bf (by simp),Bd,Ie (by simp;have:=Cy ha;omega)];exact Ni 21 s 0 _ (by simp) (by simp) hw fun x hx=>by simp at hx;subst hx;exact .inr ⟨by have:=Cy ha;omega,Ut ha⟩
 |put s a b h ha hb=>
  rw[Bf (by simp),Bd,Ie (by simp;have:=Cy ha;have:=Cy hb;omega)];refine Ni 22 s 0 _ (by simp) (by simp) hw fun x hx=>?_;simp at hx;rcases hx with rfl|rfl
  ·exact .inr ⟨by have:=Cy ha;omega,Ut ha⟩
  ·exact .inr ⟨by have:=Cy hb;omega,Ut hb⟩
 |read s h=>
  rw[Bf (by simp),Bd,Ie (by simp)];exact Ni 23 s 0 _ (by simp) (by simp) hw fun x hx=>by cases hx
 |skip=>
  rw[Bf (by simp),Bd,Ie (by simp)];exact Ni 28 [] 0 _ (by simp) (by simp) hw fun x hx=>by cases hx
 |stop=>
  rw[Bf (by simp),Bd,Ie (by simp)];exact Ni 29 [] 0 _ (by simp) (by simp) hw fun x hx=>by cases hx
 |check c hc=>
  rw[Bf (by simp),Bd,Ie (by simp;have:=J0 hc;omega)];exact Ni 27 [] 0 _ (by simp) (by simp) hw fun x hx=>by simp at hx;subst hx;exact .inr ⟨by have:=J0 hc;omega,Sr hc⟩
 |whil c l hc hl ihl=>
  rw[Bf (by simp),Bd,Ie (by simp;have:=J0 hc;omega)];simp[wN,wL]at hw;refine Ni 25 [] 0 _ (by simp) (by simp) (by simp[wN,wL];omega) fun x hx=>?_;simp at hx;rcases hx with rfl|rfl
  ·exact .inr ⟨by have:=J0 hc;omega,Sr hc⟩
  ·exact .inl ⟨rfl,by rw[Bd];exact Yu 0 [] l (by simp[wN];omega) fun x hx=>⟨ihl x hx (by have:=P5 hx;omega),Qv (hl x hx)⟩⟩
 |ifs c l l' hc hl hl' ihl ihl'=>
  rw[Bf (by simp),Bd,Ie (by simp;have:=J0 hc;omega)];simp[wN,wL]at hw;refine Ni 24 [] 0 _ (by simp) (by simp) (by simp[wN,wL];omega) fun x hx=>?_;simp at hx;rcases hx with rfl|rfl|rfl
  ·exact .inr ⟨by have:=J0 hc;omega,Sr hc⟩
  ·exact .inl ⟨rfl,by rw[Bd];exact Yu 0 [] l (by simp[wN];omega) fun x hx=>⟨ihl x hx (by have:=P5 hx;omega),Qv (hl x hx)⟩⟩
  ·exact .inl ⟨rfl,by rw[Bd];exact Yu 0 [] l' (by simp[wN];omega) fun x hx=>⟨ihl' x hx (by have:=P5 hx;omega),Qv (hl' x hx)⟩⟩
 |for_ s a b l h ha hb hl ihl=>
  simp[wN,wL]at hw;have hB:=Ajh 0 [] l (by simp[wN];omega) fun x hx=>⟨ihl x hx (by have:=P5 hx;omega),Qv (hl x hx)⟩
  have hl1:=Mu (Br l);have hl2:=Vx l;rw[K6,Ao,Ao,Ao,A4,Bf (by have:=Cy ha;omega),Bf (by have:=Cy hb;omega),Bf (by simp),Bd,Ut ha,Ut hb];refine Pure.run func170 ?_;refine Ag ?_;refine A0 ?_;refine B4 2 (by omega) (Ay6 a b _ []) ?_;refine Ae (τ':=[0]) [] [] hB ?_;refine B4 0 (by omega) (rows:=[_]) rfl ?_;refine D8 10240 ?_;refine Ce (At8 s) ?_;refine Ce Ax4 ?_;refine Ce (Yv 6 (.mk 2 s 0 []) (.mk 1 [] 1 [])) ?_;refine Ce (Az8 s (.mk 6 [] 0 [.mk 2 s 0 [],.mk 1 [] 1 []])) ?_;refine Ch (Bu (res:=Ap (Br l++[.mk 21 s 0 [.mk 6 [] 0 [.mk 2 s 0 [],.mk 1 [] 1 []]]])) rfl rfl rfl rfl rfl rfl rfl rfl rfl rfl rfl rfl rfl rfl (Ad _) (Ew _) rfl rfl rfl ?_ ?_ rfl) ?_
  ·rw[Ad];simp;omega
  ·simp[Au]
  refine Av ?_;refine Ch (A7 rfl rfl rfl rfl rfl rfl rfl) ?_;refine B2 ?_;refine D8 0 ?_;refine Db 0 (by omega) (Wj a _) ?_;refine Ce (Adn a (by omega)) ?_;refine Ce (Az8 s a) ?_;refine Ce (At8 s) ?_;refine Db 1 (by omega) (Aeo a b _) ?_;refine Ce (Adn b (by omega)) ?_;refine Ce (Yv 11 (.mk 2 s 0 []) b) ?_;refine Ce (Yv 25 (.mk 11 [] 0 [.mk 2 s 0 [],b]) (.mk 30 [] 0 (Br l++[.mk 21 s 0 [.mk 6 [] 0 [.mk 2 s 0 [],.mk 1 [] 1 []]]]))) ?_;refine B2 ?_;refine As func170 ?_;show AV.sl _ _=AV.sl (Ap (Aem s [a,b,.mk 30 [] 0 (Br l)])) _;rw[Au (Aem s _)];rfl
theorem Yx{ds l:List Nd}(hd:∀x,x∈ds→FV x):A6 (.mk 40 [] 0 (ds++[.mk 30 [] 0 l]))=.mk 40 [] 0 (ds++[.mk 30 [] 0 (Br l)]):=by
 rw[Bd,Uu,Ao,A4,Bf (by simp),Bd];congr 2;rw[Ie fun x hx=>by have:=Abx (hd x hx);omega];have:ds.map A6=ds:=by
  conv=>rhs;rw[←List.map_id ds]
  exact List.map_congr_left fun x hx=>A16 (hd x hx)
 rw[this]
theorem Abd(n:Nd)(h:FP n)(hw:wN n≤100000000):Pure X 113 [nd n] (nd (A6 n)):=by
 cases h with
 |mk ds l hd hl=>
 rw[Yx hd];have hkl:=G7 (.mk 40 [] 0 (ds++[.mk 30 [] 0 l]));simp only[Gh,Ex,Za]at hkl;have hwl:wN (.mk 30 [] 0 l)<wN (.mk 40 [] 0 (ds++[.mk 30 [] 0 l])):=Jg (n:=.mk 40 [] 0 (ds++[.mk 30 [] 0 l])) (by simp);have hwl':wN (.mk 30 [] 0 l)=1+wL l:=by simp[wN]
 have hN:((Ap (ds++[.mk 30 [] 0 l])).length:Int)=ds.length+1:=by rw[Ad];simp
 have hwr:IntKind.i64.wrap (((Ap (ds++[.mk 30 [] 0 l])).length:Int)-1)=ds.length:=by rw[hN,Ac (by omega) (by omega)];omega
 refine Pure.run func113 ?_;refine En 2 0 3 rfl rfl rfl rfl rfl rfl ?_;refine Ar (ι:=Nat) 3 1 (fun i=>i≤ds.length) (fun i=>[(4,vi i),(1,.ptr 0 0 0),(2,.ptr 1 0 0),(3,.ptr 2 0 0)])
  (fun i=>⟨[[Af (.mk 40 [] 0 (ds++[.mk 30 [] 0 l]))],[zN],[[vi 40,str [],vi 0,.sl (Ap (ds.take i)) (.tok 0)]]],[i]⟩) (fun i=>ds.length-i) ?_ 0
  (B3 _) ⟨rfl,rfl,rfl,rfl,trivial⟩
 intro i hi IH;have htl:(Ap (ds.take i)).length=i:=by rw[Ad];simp;omega
 refine C7 (fun h=>?_) (fun h=>?_)
 ·have hlt:i<ds.length:=by have:=A5 h;rw[Gh,hwr]at this;omega
  obtain⟨x,hx⟩:=Ab ds hlt;have hx':(ds++[Nd.mk 30 [] 0 l])[i]?=some x:=by rw[Cs hlt];exact hx
  have hwx:wN x<wN (.mk 40 [] 0 (ds++[.mk 30 [] 0 l])):=Jg (n:=.mk 40 [] 0 (ds++[.mk 30 [] 0 l])) (Bh hx');refine D8 2560 ?_;refine Db i (by omega) (Am hx') ?_;refine Ce (Adn x (by omega)) ?_;refine Ch (Bu (res:=Ap (ds.take (i+1))) rfl rfl rfl rfl rfl rfl rfl rfl rfl rfl rfl rfl rfl rfl htl (Ew _) rfl rfl rfl ?_ ?_ rfl) ?_
  ·rw[htl];simp;omega
  ·simp[Au,G8,hx]
  refine Av ?_;refine Ch (A7 rfl rfl rfl rfl rfl rfl rfl) ?_;refine B2 ?_;refine IH (i+1) hlt (by omega) _ _ ⟨vsx (by omega),rfl,rfl,rfl,trivial⟩ ?_ rfl rfl;simp[St.drop,htl]
 ·have:i=ds.length:=by have:=Ba h;rw[Gh,hwr]at this;omega
  subst this;rw[I2]at htl⊢;have hlast:(Ap (ds++[Nd.mk 30 [] 0 l]))[(IntKind.i64.wrap (((Ap (ds++[.mk 30 [] 0 l])).length:Int)-1)).toNat]?=some (Af (.mk 30 [] 0 l)):=by
   rw[hwr];exact Am (by simp)
  have hB:=Yu 0 [] l (by omega) fun x hx=>⟨At9 x (hl x hx) (by have:=P5 hx;omega),Qv (hl x hx)⟩
  refine D8 81920 ?_;refine Db _ (by rw[hwr];omega) hlast ?_;refine Ce hB ?_;refine Db 0 (by omega) (Wj _ []) ?_;refine Ch (Bu (res:=Ap (ds++[.mk 30 [] 0 (Br l)])) rfl rfl rfl rfl rfl rfl rfl rfl rfl rfl rfl rfl rfl rfl htl (Ew _) rfl rfl rfl ?_ ?_ rfl) ?_
  ·rw[htl];simp;omega
  ·rw[Au (ds++_),Au ds,Kr];rfl
  refine Av ?_;refine Ch (A7 rfl rfl rfl rfl rfl rfl rfl) ?_;refine B2 ?_;refine As func113 ?_;rfl
def twG(pre:List (List UInt8)):List Nd→Option (List UInt8)
 |[]=>none
 |d::l=>if has pre d.name then some d.name else twG (pre++[d.name]) l
def Um(n:Nd):Bool:=decide (8<(Ax n 31).length)||decide (4<(Ax n 32).length)
def bigS(l:List Nd):Bool:=l.any fun d=>decide (60<d.num)
def Dt(n:Nd):Nd:=n.kids.getLastD Cg
def E4(n:Nd):Int×List UInt8:=
 if Dq n then
  (if Um n then(3,[])else if bigS n.kids.dropLast then(3,[])else
    match twG [] n.kids.dropLast with
    |some s=>(6,s)
    |none=>
     if (G2 (Ax n 31) (Ax n 32) 7 (Dt n)).2 then(7,(G2 (Ax n 31) (Ax n 32) 7 (Dt n)).1)
     else if (G2 (Ax n 31) (Ax n 32) 8 (Dt n)).2 then(8,(G2 (Ax n 31) (Ax n 32) 8 (Dt n)).1)
     else if Dq (A6 n)then(0,[])else(5,[]))
 else(4,[])
theorem Ss{n:Nd}(h:Dq n=true):FP n∧Ai n≤500∧Dh n≤24:=by
 simp only[Dq,Tf,Dd,Ke,zzq54]at h;exact⟨Azv n h.1.2.2 h.1.1,h.1.2.1.1,h.1.2.1.2⟩
theorem Aho(a b:List (List UInt8))(s:List UInt8):has (a++b) s=(has a s||has b s):=by simp[has]
abbrev gC(v a:List (List UInt8)):C5:=[(1,.ptr 0 0 0),(2,.ptr 1 0 0),(3,.sl (Dl v) .no),(4,.sl (Dl a) .no)]
theorem Ax0(n:Nd)(hn:wN n≤100000000):Pure X 97 [nd n] (.agg [vi (E4 n).1,str (E4 n).2]):=by
 refine Pure.run func97 ?_;refine Al (Aj2 n (by omega)) ?_;refine Ah (fun h1=>?_) (fun h1=>?_)
 ·have h1':Dq n=false:=by have:(!Dq n)=true:=h1;simpa using this
  refine As func97 ?_;simp only[E4];rw[if_neg (by simp[h1'])]
 have h1':Dq n=true:=by have:(!Dq n)=false:=h1;simpa using this
 obtain⟨hP,hc,hdp⟩:=Ss h1';have hkl:=G7 n;have hC:E4 n=(if Um n then(3,[])else if bigS n.kids.dropLast then(3,[])else
  match twG [] n.kids.dropLast with
  |some s=>(6,s)
  |none=>
   if (G2 (Ax n 31) (Ax n 32) 7 (Dt n)).2 then(7,(G2 (Ax n 31) (Ax n 32) 7 (Dt n)).1)
   else if (G2 (Ax n 31) (Ax n 32) 8 (Dt n)).2 then(8,(G2 (Ax n 31) (Ax n 32) 8 (Dt n)).1)
   else if Dq (A6 n)then(0,[])else(5,[]):Int×List UInt8):=by simp only[E4];rw[if_pos h1']
 have hvl:(Ax n 31).length≤1000000000:=by have:=Aae n.kids.dropLast 31;simp[Ax]at this⊢;omega
 have hal:(Ax n 32).length≤1000000000:=by have:=Aae n.kids.dropLast 32;simp[Ax]at this⊢;omega
 refine Al (Sk n 31 (by omega)) ?_;refine Al (Sk n 32 (by omega)) ?_;generalize hv:Ax n 31=v at hC hvl⊢;generalize ha:Ax n 32=a at hC hal⊢;have hvs:((Dl v).length:Int)=v.length:=by rw[F6]
 have has':((Dl a).length:Int)=a.length:=by rw[F6]
 have hM:Um n=(decide (8<v.length)||decide (4<a.length)):=by simp only[Um,hv,ha]
 have hne:n.kids≠[]:=by cases hP;simp
 have hpos:0<n.kids.length:=zzq65.2 hne;have hw:IntKind.i64.wrap (((Ap n.kids).length:Int)-1)=((n.kids.length-1:Nat):Int):=by rw[Ad,Ac (by omega) (by omega)];omega
 have hgetD:∀i,i<n.kids.length-1→∀x,n.kids[i]?=some x→n.kids.dropLast[i]?=some x:=fun i hi x hx=>by
  rw[Akx,Mb,if_pos hi];exact hx
 have hdl:n.kids.dropLast.length=n.kids.length-1:=by simp
 have h20:Um n=false→bigS n.kids.dropLast=false→twG [] n.kids.dropLast=none→AK X ⟨97,f97,0,0⟩ (Lm false 20 f97) (gC v a) ⟨[[Af n],[[vi 0,str []]]],[]⟩
  (fun e S=>e=.ret (.agg [vi (E4 n).1,str (E4 n).2])∧S=⟨[],[]⟩):=fun g1 g2 g3=>by
  rw[hC,if_neg (by simp[g1]),if_neg (by simp[g2]),g3];simp only;have hl:n.kids[n.kids.length-1]?=some (Dt n):=by
   simp only[Dt];cases hk:n.kids with
   |nil=>exact absurd hk hne
   |cons y l=>rw[Aky,List.getLast?_eq_getElem?];simp
  have hlast:(Ap n.kids)[(IntKind.i64.wrap (((Ap n.kids).length:Int)-1)).toNat]?=some (Af (Dt n)):=by
   rw[hw];exact Am (by simpa using hl)
  have hwl:wN (Dt n)≤100000000:=by
   have:=Jg (Bh hl);omega
  refine D5 ?_;refine Bi 100 rfl ?_;refine B4 _ (by rw[hw];omega) hlast ?_;refine Al (Aor v a 7 (.inl rfl) hvl hal (Dt n) (by omega)) ?_;refine Ah (fun h2=>?_) (fun h2=>?_)
  ·have h2':(G2 v a 7 (Dt n)).2=true:=h2;rw[if_pos h2'];refine As func97 ?_;rfl
  have h2':(G2 v a 7 (Dt n)).2=false:=h2;rw[if_neg (by simp[h2'])];refine Al (Aor v a 8 (.inr rfl) hvl hal (Dt n) (by omega)) ?_;refine Ah (fun h3=>?_) (fun h3=>?_)
  ·have h3':(G2 v a 8 (Dt n)).2=true:=h3;rw[if_pos h3'];refine As func97 ?_;rfl
  have h3':(G2 v a 8 (Dt n)).2=false:=h3;rw[if_neg (by simp[h3'])];refine Al (Abd n hP hn) ?_;refine Al (Aj2 (A6 n) (by have:=(Ps n).1;omega)) ?_;refine Ah (fun h4=>?_) (fun h4=>?_)
  ·have h4':Dq (A6 n)=false:=by have:(!Dq (A6 n))=true:=h4;simpa using this
   rw[if_neg (by simp[h4'])];refine As func97 ?_;rfl
  ·have h4':Dq (A6 n)=true:=by have:(!Dq (A6 n))=false:=h4;simpa using this
   rw[if_pos h4'];refine As func97 ?_;rfl
 have h12:Um n=false→bigS n.kids.dropLast=false→AK X ⟨97,f97,0,0⟩ (Lm false 12 f97) (gC v a) ⟨[[Af n],[[vi 0,str []]]],[]⟩
  (fun e S=>e=.ret (.agg [vi (E4 n).1,str (E4 n).2])∧S=⟨[],[]⟩):=fun g1 g2=>by
  refine D5 ?_;refine Bi 100 rfl ?_;refine Ar (ι:=Nat) 2 0 (fun i=>i≤n.kids.length-1∧twG [] n.kids.dropLast=twG ((n.kids.dropLast.take i).map Nd.name) (n.kids.dropLast.drop i)) (fun i=>(6,vi i)::gC v a) (fun _=>⟨[[Af n],[[vi 0,str []]]],[]⟩)
   (fun i=>n.kids.length-i) ?_ 0 ⟨B3 _,by simp⟩ ⟨rfl,rfl,rfl,rfl,rfl,trivial⟩
  rintro i ⟨hi,hT⟩ IH;refine Bi 100 rfl ?_;refine Ey 0 20 (fun h=>?_) (fun h=>?_)
  ·have hlt:i<n.kids.length-1:=by have:=A5 h;rw[hw]at this;omega
   obtain⟨x,hx⟩:=Ab n.kids (i:=i) (by omega);have hx':=hgetD i hlt x hx;have hd:twG ((n.kids.dropLast.take i).map Nd.name) (n.kids.dropLast.drop i)=if has ((n.kids.dropLast.take i).map Nd.name) x.name then some x.name else twG ((n.kids.dropLast.take (i+1)).map Nd.name) (n.kids.dropLast.drop (i+1)):=by
    rw[B6 hx'];simp only[twG];rw[show (n.kids.dropLast.take (i+1)).map Nd.name=(n.kids.dropLast.take i).map Nd.name++[x.name] by rw[G8,hx'];simp]
   rw[hd]at hT;refine Bi 100 rfl ?_;refine Ar (ι:=Nat) 2 0 (fun k=>k≤i∧has ((n.kids.dropLast.take k).map Nd.name) x.name=false) (fun k=>(7,vi k)::(6,vi i)::gC v a) (fun _=>⟨[[Af n],[[vi 0,str []]]],[]⟩)
    (fun k=>i-k) ?_ 0 ⟨B3 _,by simp[has]⟩ ⟨rfl,rfl,rfl,rfl,rfl,rfl,trivial⟩
   rintro k ⟨hk,hno⟩ IH2;refine C7 (fun h2=>?_) (fun h2=>?_)
   ·have hkl':k<i:=by have:=A5 h2;omega
    obtain⟨y,hy⟩:=Ab n.kids (i:=k) (by omega);have hy':=hgetD k (by omega) y hy;have hsn:has ((n.kids.dropLast.take (k+1)).map Nd.name) x.name=(y.name==x.name):=by
     rw[show (n.kids.dropLast.take (k+1)).map Nd.name=(n.kids.dropLast.take k).map Nd.name++[y.name] by rw[G8,hy'];simp,Aho,hno];simp[has]
    refine D8 0 ?_;refine Db k (by omega) (Am hy) ?_;refine Db i (by omega) (Am hx) ?_;refine B2 ?_;refine Ah (fun h3=>?_) (fun h3=>?_)
    ·have h3':(y.name==x.name)=true:=h3;have hin:has ((n.kids.dropLast.take i).map Nd.name) x.name=true:=by
      have e:n.kids.dropLast.take i=n.kids.dropLast.take (k+1)++(n.kids.dropLast.take i).drop (k+1):=by
       conv=>lhs;rw[←Aee (k+1) (n.kids.dropLast.take i)]
       rw[List.take_take,Nat.min_eq_left (by omega)]
      rw[e,Kr,Aho,hsn,h3'];rfl
     rw[if_pos hin]at hT;refine B4 i (by omega) (Am hx) ?_;refine As func97 ?_;rw[hC,if_neg (by simp[g1]),if_neg (by simp[g2]),hT]
    ·have h3':(y.name==x.name)=false:=h3;exact IH2 (k+1) ⟨hkl',by rw[hsn,h3']⟩ (by omega) _ _ ⟨vsx (by omega),rfl,rfl,rfl,rfl,rfl,trivial⟩ rfl rfl rfl
   ·have:k=i:=by have:=Ba h2;omega
    subst this;rw[if_neg (by rw[hno];simp)]at hT;exact IH (k+1) ⟨by omega,hT⟩ (by omega) _ _ ⟨vsx (by omega),rfl,rfl,rfl,rfl,trivial⟩ rfl rfl rfl
  ·have:i=n.kids.length-1:=by have:=Ba h;rw[hw]at this;omega
   rw[this,←hdl,Hz,I2]at hT;exact Bz 2 0 (h20 g1 g2 (by rw[hT];rfl)) ⟨rfl,rfl,rfl,rfl,trivial⟩ rfl rfl rfl rfl rfl
 have h7:Um n=false→AK X ⟨97,f97,0,0⟩ (Lm false 7 f97) (gC v a) ⟨[[Af n],[[vi 0,str []]]],[]⟩
  (fun e S=>e=.ret (.agg [vi (E4 n).1,str (E4 n).2])∧S=⟨[],[]⟩):=fun g1=>by
  refine D5 ?_;refine Bi 100 rfl ?_;refine Ar (ι:=Nat) 2 0 (fun i=>i≤n.kids.length-1∧bigS n.kids.dropLast=bigS (n.kids.dropLast.drop i)) (fun i=>(5,vi i)::gC v a) (fun _=>⟨[[Af n],[[vi 0,str []]]],[]⟩)
   (fun i=>n.kids.length-i) ?_ 0 ⟨B3 _,by simp⟩ ⟨rfl,rfl,rfl,rfl,rfl,trivial⟩
  rintro i ⟨hi,hT⟩ IH;refine Bi 100 rfl ?_;refine Ey 0 12 (fun h=>?_) (fun h=>?_)
  ·have hlt:i<n.kids.length-1:=by have:=A5 h;rw[hw]at this;omega
   obtain⟨x,hx⟩:=Ab n.kids (i:=i) (by omega);have hx':=hgetD i hlt x hx;have hd:bigS (n.kids.dropLast.drop i)=(decide (60<x.num)||bigS (n.kids.dropLast.drop (i+1))):=by rw[B6 hx'];rfl
   rw[hd]at hT;refine Bi 100 rfl ?_;refine B4 i (by omega) (Am hx) ?_;refine Ah (fun h2=>?_) (fun h2=>?_)
   ·have h2':decide (60<x.num)=true:=by simpa using A5 h2
    refine As func97 ?_;rw[hC,if_neg (by simp[g1]),if_pos (by rw[hT,h2'];rfl)]
   ·have h2':decide (60<x.num)=false:=by simpa using Ba h2
    exact IH (i+1) ⟨by omega,by rw[hT,h2'];rfl⟩ (by omega) _ _ ⟨vsx (by omega),rfl,rfl,rfl,rfl,trivial⟩ rfl rfl rfl
  ·have:i=n.kids.length-1:=by have:=Ba h;rw[hw]at this;omega
   rw[this,←hdl,Hz]at hT;exact Bz 2 0 (h12 g1 (by rw[hT];rfl)) ⟨rfl,rfl,rfl,rfl,trivial⟩ rfl rfl rfl rfl rfl
 refine Df (fun h2=>?_) (fun h2=>?_)
 ·have h2':decide (8<v.length)=true:=by have:=A5 h2;rw[hvs]at this;simp;omega
  refine A0 ?_;refine As func97 ?_;rw[hC,if_pos (by rw[hM,h2'];rfl)]
 ·have h2':decide (8<v.length)=false:=by have:=Ba h2;rw[hvs]at this;simp;omega
  refine Ey 0 7 (fun h3=>?_) (fun h3=>?_)
  ·have h3':decide (4<a.length)=true:=by have:=A5 h3;rw[has']at this;simp;omega
   refine Bi 100 rfl ?_;refine As func97 ?_;rw[hC,if_pos (by rw[hM,h2',h3'];rfl)]
  ·have h3':decide (4<a.length)=false:=by have:=Ba h3;rw[has']at this;simp;omega
   exact Bz 2 0 (h7 (by rw[hM,h2',h3'];rfl)) ⟨rfl,rfl,rfl,rfl,trivial⟩ rfl rfl rfl rfl rfl
def Fy(n:Nd):Bool:=(E4 n).1==0
theorem Ax7(n:Nd)(hn:wN n≤100000000):Pure X 47 [nd n] (vb (Fy n)):=by
 refine Pure.run func47 ?_;refine Al (Ax0 n hn) ?_;exact Az func47 rfl
end Go.V
namespace Go.V
open Go
section
variable {X:Cx}{S:St}{F:C5}{N:Nat}{ops:Array Oper}{i:Nat}{o:Oper}{p q:Operand}{t t':TypeId}
theorem Apm(hu:X.P.underlying t=some (.interface (X.P.methodsAt t)))(ho:ops[i]?=some o:=by rfl)(hw:A8 ops F o=some true:=by rfl)(hop:o.op=.binOp .eql t p (.const .nilIface) t':=by rfl)
 (hp:Dw X F p=some (.val .nilIface):=by rfl):Ndo X N ops i o F (.val (.bool true)) S S:=by
 refine Dj ho hw fun F' E w a hc hI hF=>?_;rw[hop]at hc;have r1:=Ak hI hF ((hc p (by simp[Op.operands])).trans hp);generalize hx:a.eval p=x at r1;cases r1;exact⟨.bool true,by simp[execOp,hop,hx,show a.eval (.const .nilIface)=.nilIface from rfl,eqGuard,run_eql_nil_nil w t hu],.val _⟩
theorem Acs(hu:X.P.underlying t=some (.interface (X.P.methodsAt t)))(ho:ops[i]?=some o:=by rfl)(hw:A8 ops F o=some true:=by rfl)(hop:o.op=.binOp .eql t p (.const .nilIface) t':=by rfl)
 (hp:Dw X F p=some .err:=by rfl):Ndo X N ops i o F (.val (.bool false)) S S:=by
 refine Dj ho hw fun F' E w a hc hI hF=>?_;rw[hop]at hc;have r1:=Ak hI hF ((hc p (by simp[Op.operands])).trans hp);generalize hx:a.eval p=x at r1;cases r1;exact⟨.bool false,by simp[execOp,hop,hx,show a.eval (.const .nilIface)=.nilIface from rfl,eqGuard,run_eql_held_nil w t _ _ hu],.val _⟩
end
end Go.V
namespace Go.Proofs
open Go.Shelf
def X3:Go.Shelf.Ren:=⟨fun|172=>365|244=>375|245=>376|247=>381|279=>382|280=>383|281=>384|282=>385|287=>390|316=>391|171=>295|205=>392|321=>395|322=>396|243=>313|246=>332|283=>355|284=>356|285=>357|286=>358|129=>370|317=>369|318=>371|319=>372|320=>373|337=>379|338=>380|n=>n,fun|9=>9|3=>3|75=>340|76=>341|4=>4|5=>5|167=>381|37=>159|0=>0|85=>382|2=>2|168=>384|53=>361|175=>390|46=>351|210=>394|127=>330|145=>400|143=>398|21=>21|171=>360|173=>364|212=>375|51=>368|20=>20|213=>376|232=>388|233=>389|80=>314|n=>n,fun|15=>6|16=>7|17=>2|18=>4|19=>5|n=>n⟩
theorem Tryz.laysC172:Go.Proofs.LaysC.n172 Tryz.prog X3:={
 mixed:=by kernel_rfl,
 f129:=Tryz.func370.trans (congrArg some (by kernel_rfl)),
 f171:=Tryz.func295.trans (congrArg some (by kernel_rfl)),
 f172:=Tryz.func365.trans (congrArg some (by kernel_rfl)),
 f205:=Tryz.func392.trans (congrArg some (by kernel_rfl)),
 f243:=Tryz.func313.trans (congrArg some (by kernel_rfl)),
 f244:=Tryz.func375.trans (congrArg some (by kernel_rfl)),
 f245:=Tryz.func376.trans (congrArg some (by kernel_rfl)),
 f246:=Tryz.func332.trans (congrArg some (by kernel_rfl)),
 f247:=Tryz.func381.trans (congrArg some (by kernel_rfl)),
 f279:=Tryz.func382.trans (congrArg some (by kernel_rfl)),
 f280:=Tryz.func383.trans (congrArg some (by kernel_rfl)),
 f281:=Tryz.func384.trans (congrArg some (by kernel_rfl)),
 f282:=Tryz.func385.trans (congrArg some (by kernel_rfl)),
 f283:=Tryz.func355.trans (congrArg some (by kernel_rfl)),
 f284:=Tryz.func356.trans (congrArg some (by kernel_rfl)),
 f285:=Tryz.func357.trans (congrArg some (by kernel_rfl)),
 f286:=Tryz.func358.trans (congrArg some (by kernel_rfl)),
 f287:=Tryz.func390.trans (congrArg some (by kernel_rfl)),
 f316:=Tryz.func391.trans (congrArg some (by kernel_rfl)),
 f317:=Tryz.func369.trans (congrArg some (by kernel_rfl)),
 f318:=Tryz.func371.trans (congrArg some (by kernel_rfl)),
 f319:=Tryz.func372.trans (congrArg some (by kernel_rfl)),
 f320:=Tryz.func373.trans (congrArg some (by kernel_rfl)),
 f321:=Tryz.func395.trans (congrArg some (by kernel_rfl)),
 f322:=Tryz.func396.trans (congrArg some (by kernel_rfl)),
 f337:=Tryz.func379.trans (congrArg some (by kernel_rfl)),
 f338:=Tryz.func380.trans (congrArg some (by kernel_rfl)),
 t0:=Tryz.underlying0,
 a0:=Tryz.isAgg0,
 z0:=Tryz.sizeOf0,
 v0:=Tryz.zeroValue0,
 t2:=Tryz.underlying2,
 a2:=Tryz.isAgg2,
 z2:=Tryz.sizeOf2,
 v2:=Tryz.zeroValue2,
 t3:=Tryz.underlying3,
 a3:=Tryz.isAgg3,
 z3:=Tryz.sizeOf3,
 v3:=Tryz.zeroValue3,
 t4:=Tryz.underlying4,
 a4:=Tryz.isAgg4,
 z4:=Tryz.sizeOf4,
 v4:=Tryz.zeroValue4,
 t5:=Tryz.underlying5,
 a5:=Tryz.isAgg5,
 z5:=Tryz.sizeOf5,
 v5:=Tryz.zeroValue5,
 t9:=Tryz.underlying9,
 a9:=Tryz.isAgg9,
 z9:=Tryz.sizeOf9,
 v9:=Tryz.zeroValue9,
 t20:=Tryz.underlying20,
 a20:=Tryz.isAgg20,
 z20:=Tryz.sizeOf20,
 v20:=Tryz.zeroValue20,
 t21:=Tryz.underlying21,
 a21:=Tryz.isAgg21,
 z21:=Tryz.sizeOf21,
 v21:=Tryz.zeroValue21,
 t37:=Tryz.underlying159,
 a37:=Tryz.isAgg159,
 z37:=Tryz.sizeOf159,
 v37:=Tryz.zeroValue159,
 t46:=Tryz.underlying351,
 a46:=Tryz.isAgg351,
 z46:=Tryz.sizeOf351,
 v46:=Tryz.zeroValue351,
 t51:=Tryz.underlying368,
 a51:=Tryz.isAgg368,
 z51:=Tryz.sizeOf368,
 v51:=Tryz.zeroValue368,
 t53:=Tryz.underlying361,
 a53:=Tryz.isAgg361,
 z53:=Tryz.sizeOf361,
 v53:=Tryz.zeroValue361,
 t75:=Tryz.underlying340,
 a75:=Tryz.isAgg340,
 z75:=Tryz.sizeOf340,
 v75:=Tryz.zeroValue340,
 t76:=Tryz.underlying341,
 a76:=Tryz.isAgg341,
 z76:=Tryz.sizeOf341,
 v76:=Tryz.zeroValue341,
 t85:=Tryz.underlying382,
 a85:=Tryz.isAgg382,
 z85:=Tryz.sizeOf382,
 v85:=Tryz.zeroValue382,
 t127:=Tryz.underlying330,
 a127:=Tryz.isAgg330,
 z127:=Tryz.sizeOf330,
 v127:=Tryz.zeroValue330,
 t143:=Tryz.underlying398,
 a143:=Tryz.isAgg398,
 z143:=Tryz.sizeOf398,
 v143:=Tryz.zeroValue398,
 t145:=Tryz.underlying400,
 a145:=Tryz.isAgg400,
 z145:=Tryz.sizeOf400,
 v145:=Tryz.zeroValue400,
 t167:=Tryz.underlying381,
 a167:=Tryz.isAgg381,
 z167:=Tryz.sizeOf381,
 v167:=Tryz.zeroValue381,
 t168:=Tryz.underlying384,
 a168:=Tryz.isAgg384,
 z168:=Tryz.sizeOf384,
 v168:=Tryz.zeroValue384,
 t171:=Tryz.underlying360,
 a171:=Tryz.isAgg360,
 z171:=Tryz.sizeOf360,
 v171:=Tryz.zeroValue360,
 t173:=Tryz.underlying364,
 a173:=Tryz.isAgg364,
 z173:=Tryz.sizeOf364,
 v173:=Tryz.zeroValue364,
 t175:=Tryz.underlying390,
 a175:=Tryz.isAgg390,
 z175:=Tryz.sizeOf390,
 v175:=Tryz.zeroValue390,
 t210:=Tryz.underlying394,
 a210:=Tryz.isAgg394,
 z210:=Tryz.sizeOf394,
 v210:=Tryz.zeroValue394,
 t212:=Tryz.underlying375,
 a212:=Tryz.isAgg375,
 z212:=Tryz.sizeOf375,
 v212:=Tryz.zeroValue375,
 t213:=Tryz.underlying376,
 a213:=Tryz.isAgg376,
 z213:=Tryz.sizeOf376,
 t232:=Tryz.underlying388,
 a232:=Tryz.isAgg388,
 z232:=Tryz.sizeOf388,
 v232:=Tryz.zeroValue388,
 t233:=Tryz.underlying389,
 a233:=Tryz.isAgg389,
 z233:=Tryz.sizeOf389,
 v233:=Tryz.zeroValue389,
 g15:=by kernel_rfl,
 g16:=by kernel_rfl,
 g17:=by kernel_rfl,
 g18:=by kernel_rfl,
 g19:=by kernel_rfl,
 t80:=Tryz.underlying314,
 a80:=Tryz.isAgg314,
 z80:=Tryz.sizeOf314,
 v80:=Tryz.zeroValue314,
 i0:=by kernel_rfl,
 i2:=by kernel_rfl,
 i3:=by kernel_rfl,
 i4:=by kernel_rfl,
 i5:=by kernel_rfl,
 i9:=by kernel_rfl,
 i20:=by kernel_rfl,
 i21:=by kernel_rfl,
 i37:=by kernel_rfl,
 i46:=by kernel_rfl,
 i51:=by kernel_rfl,
 i53:=by kernel_rfl,
 i75:=by kernel_rfl,
 i76:=by kernel_rfl,
 i80:=by kernel_rfl,
 i85:=by kernel_rfl,
 i127:=by kernel_rfl,
 i143:=by kernel_rfl,
 i145:=by kernel_rfl,
 i167:=by kernel_rfl,
 i168:=by kernel_rfl,
 i171:=by kernel_rfl,
 i173:=by kernel_rfl,
 i175:=by kernel_rfl,
 i210:=by kernel_rfl,
 i212:=by kernel_rfl,
 i232:=by kernel_rfl,
 i233:=by kernel_rfl,
 m15:=by kernel_rfl,
 m16:=by kernel_rfl,
 m17:=by kernel_rfl,
 m18:=by kernel_rfl,
 m19:=by kernel_rfl,
 c0:=by kernel_rfl,
 c2:=by kernel_rfl,
 c3:=by kernel_rfl,
 c4:=by kernel_rfl,
 c5:=by kernel_rfl,
 c9:=by kernel_rfl,
 c20:=by kernel_rfl,
 c21:=by kernel_rfl,
 c37:=by kernel_rfl,
 c46:=by kernel_rfl,
 c51:=by kernel_rfl,
 c53:=by kernel_rfl,
 c75:=by kernel_rfl,
 c76:=by kernel_rfl,
 c80:=by kernel_rfl,
 c85:=by kernel_rfl,
 c127:=by kernel_rfl,
 c143:=by kernel_rfl,
 c145:=by kernel_rfl,
 c167:=by kernel_rfl,
 c168:=by kernel_rfl,
 c171:=by kernel_rfl,
 c173:=by kernel_rfl,
 c175:=by kernel_rfl,
 c210:=by kernel_rfl,
 c212:=by kernel_rfl,
 c213:=by kernel_rfl,
 c232:=by kernel_rfl,
 c233:=by kernel_rfl }
def X4:Go.Shelf.Ren:=⟨fun|171=>295|243=>313|246=>332|283=>355|284=>356|285=>357|286=>358|129=>370|317=>369|318=>371|319=>372|320=>373|337=>379|338=>380|n=>n,fun|3=>3|9=>9|2=>2|4=>4|171=>360|0=>0|53=>361|37=>159|5=>5|173=>364|212=>375|51=>368|20=>20|213=>376|46=>351|232=>388|233=>389|n=>n,fun|17=>2|18=>4|19=>5|n=>n⟩
theorem Tryz.laysM171:Go.Proofs.LaysM.n171 Tryz.prog X4:={
 mixed:=by kernel_rfl,
 f129:=Tryz.func370.trans (congrArg some (by kernel_rfl)),
 f171:=Tryz.func295.trans (congrArg some (by kernel_rfl)),
 f243:=Tryz.func313.trans (congrArg some (by kernel_rfl)),
 f246:=Tryz.func332.trans (congrArg some (by kernel_rfl)),
 f283:=Tryz.func355.trans (congrArg some (by kernel_rfl)),
 f284:=Tryz.func356.trans (congrArg some (by kernel_rfl)),
 f285:=Tryz.func357.trans (congrArg some (by kernel_rfl)),
 f286:=Tryz.func358.trans (congrArg some (by kernel_rfl)),
 f317:=Tryz.func369.trans (congrArg some (by kernel_rfl)),
 f318:=Tryz.func371.trans (congrArg some (by kernel_rfl)),
 f319:=Tryz.func372.trans (congrArg some (by kernel_rfl)),
 f320:=Tryz.func373.trans (congrArg some (by kernel_rfl)),
 f337:=Tryz.func379.trans (congrArg some (by kernel_rfl)),
 f338:=Tryz.func380.trans (congrArg some (by kernel_rfl)),
 t0:=Tryz.underlying0,
 a0:=Tryz.isAgg0,
 z0:=Tryz.sizeOf0,
 v0:=Tryz.zeroValue0,
 t2:=Tryz.underlying2,
 a2:=Tryz.isAgg2,
 z2:=Tryz.sizeOf2,
 v2:=Tryz.zeroValue2,
 t3:=Tryz.underlying3,
 a3:=Tryz.isAgg3,
 z3:=Tryz.sizeOf3,
 v3:=Tryz.zeroValue3,
 t4:=Tryz.underlying4,
 a4:=Tryz.isAgg4,
 z4:=Tryz.sizeOf4,
 v4:=Tryz.zeroValue4,
 t5:=Tryz.underlying5,
 a5:=Tryz.isAgg5,
 z5:=Tryz.sizeOf5,
 v5:=Tryz.zeroValue5,
 t9:=Tryz.underlying9,
 a9:=Tryz.isAgg9,
 z9:=Tryz.sizeOf9,
 v9:=Tryz.zeroValue9,
 t20:=Tryz.underlying20,
 a20:=Tryz.isAgg20,
 z20:=Tryz.sizeOf20,
 v20:=Tryz.zeroValue20,
 t37:=Tryz.underlying159,
 a37:=Tryz.isAgg159,
 z37:=Tryz.sizeOf159,
 v37:=Tryz.zeroValue159,
 t46:=Tryz.underlying351,
 a46:=Tryz.isAgg351,
 z46:=Tryz.sizeOf351,
 v46:=Tryz.zeroValue351,
 t51:=Tryz.underlying368,
 a51:=Tryz.isAgg368,
 z51:=Tryz.sizeOf368,
 v51:=Tryz.zeroValue368,
 t53:=Tryz.underlying361,
 a53:=Tryz.isAgg361,
 z53:=Tryz.sizeOf361,
 v53:=Tryz.zeroValue361,
 t171:=Tryz.underlying360,
 a171:=Tryz.isAgg360,
 z171:=Tryz.sizeOf360,
 v171:=Tryz.zeroValue360,
 t173:=Tryz.underlying364,
 a173:=Tryz.isAgg364,
 z173:=Tryz.sizeOf364,
 v173:=Tryz.zeroValue364,
 t212:=Tryz.underlying375,
 a212:=Tryz.isAgg375,
 z212:=Tryz.sizeOf375,
 v212:=Tryz.zeroValue375,
 t213:=Tryz.underlying376,
 a213:=Tryz.isAgg376,
 z213:=Tryz.sizeOf376,
 t232:=Tryz.underlying388,
 a232:=Tryz.isAgg388,
 z232:=Tryz.sizeOf388,
 v232:=Tryz.zeroValue388,
 t233:=Tryz.underlying389,
 a233:=Tryz.isAgg389,
 z233:=Tryz.sizeOf389,
 v233:=Tryz.zeroValue389,
 g17:=by kernel_rfl,
 g18:=by kernel_rfl,
 g19:=by kernel_rfl,
 i0:=by kernel_rfl,
 i2:=by kernel_rfl,
 i3:=by kernel_rfl,
 i4:=by kernel_rfl,
 i5:=by kernel_rfl,
 i9:=by kernel_rfl,
 i20:=by kernel_rfl,
 i37:=by kernel_rfl,
 i46:=by kernel_rfl,
 i51:=by kernel_rfl,
 i53:=by kernel_rfl,
 i171:=by kernel_rfl,
 i173:=by kernel_rfl,
 i212:=by kernel_rfl,
 i232:=by kernel_rfl,
 i233:=by kernel_rfl,
 m17:=by kernel_rfl,
 m18:=by kernel_rfl,
 m19:=by kernel_rfl }
end Go.Proofs
namespace Go.V
open Go Go.Proofs Go.Proofs.Tryz
theorem Amg(n:Int)(h0:-9223372036854775808≤n)(h1:n≤9223372036854775807):Pure X 295 [vi n] (str (Lib.itoa n)):=by
 refine Wm (vs:=[.int .i64 n]) ⟨_,func295,by kernel_rfl,by rfl⟩ rfl fun w hw=>?_;obtain⟨e,z,ht⟩:=hw.tab;have hg:(X.P.globalNamed "internal/strconv.uint64pow10")=some 2:=by kernel_rfl
 have htab:Lib.TabIs X.P w "internal/strconv.uint64pow10" .u64 Lib.pow10Tab:=by
  unfold Lib.TabIs World.var?;rw[hg];simp[ht]
 have h:=Any.strconv_Itoa laysM171 n h0 h1 w htab;refine h.mono fun e w' he=>?_;obtain⟨rfl,k,os,rfl⟩:=he;refine⟨⟨_,rfl,fun E w=>.val _⟩,rfl,rfl,rfl,?_,fun j hj=>?_⟩
 ·simp[Sort.grow,World.drewN]
 ·simp only[Sort.grow,World.drewN];rw[Zb hj]
def Ou(s:List UInt8):Int:=match Lib.atoiAll s with
 |.ok v=>v
 |.range=>Lib.atoiSat s
 |_=>0
def Acx(s:List UInt8):AV:=match Lib.atoiAll s with
 |.ok _=>.val .nilIface
 |_=>.err
theorem A11(s:List UInt8)(hs:s.length≤1000000000):Pure X 365 [str s] (.tup [vi (Ou s),Acx s]):=by
 refine Wm (vs:=[.string ⟨⟨s⟩⟩]) ⟨_,func365,by kernel_rfl,by rfl⟩ rfl fun w hw=>?_;have hsz:(⟨⟨s⟩⟩:ByteArray).size=s.length:=rfl;have tup:∀(a b:Value) (x:AV),(∀E w,Rel E w b x)→∀E w,Rel E w (.tuple #[a,b]) (.tup [.val a,x]):=fun a b x h E w=>by
  refine .tup _ _ rfl fun j v y hv hy=>?_
  match j with
  |0=>simp at hv hy;subst hv;subst hy;exact .val _
  |1=>simp at hv hy;subst hv;subst hy;exact h E w
  |j+2=>simp at hy
 cases h:Lib.atoiAll s with
 |ok v=>
  have hc:=Any.strconv_Atoi_ok laysC172 ⟨⟨s⟩⟩ (by rw[hsz];omega) v h w;refine hc.mono fun e w' he=>?_;obtain⟨rfl,hw'⟩:=he;refine⟨⟨_,rfl,?_⟩,?_⟩
  ·simp only[Ou,Acx,h];exact tup _ _ _ fun E w=>.val _
  ·rcases hw' with rfl|⟨t,rfl⟩
   ·exact RowKit.Below.refl _ _
   ·exact Lib.bytesWorld_below _ _ _
 |range=>
  obtain⟨ev,h1,h2⟩:=hw.rng;have hc:=Any.strconv_Atoi_range laysC172 ⟨⟨s⟩⟩ (by rw[hsz];omega) h ev w h1 h2;refine hc.mono fun e w' he=>?_;obtain⟨N,rfl,_,_,hb⟩:=he;refine⟨⟨_,rfl,?_⟩,hb⟩;simp only[Ou,Acx,h];exact tup _ _ _ fun E w=>.err _ _
 |_=>
  obtain⟨ev,h1,h2⟩:=hw.syn;have hc:=Any.strconv_Atoi_syntax laysC172 ⟨⟨s⟩⟩ (by rw[hsz];omega) h ev w h1 h2;refine hc.mono fun e w' he=>?_;obtain⟨N,rfl,_,_,hb⟩:=he;refine⟨⟨_,rfl,?_⟩,hb⟩;simp only[Ou,Acx,h];exact tup _ _ _ fun E w=>.err _ _
def T8(l:List UInt8):Bool:=l.all digit
def O8(n:Nat)(l:List UInt8):Nat:=l.foldl (fun a c=>10*a+(c.toNat-48)) n
theorem Azr(l:List UInt8):∀n,n≤O8 n l:=by
 induction l with
 |nil=>intro n;simp[O8]
 |cons c l ih=>intro n;have:=ih (10*n+(c.toNat-48));simp only[O8,Aea]at this⊢;omega
theorem Lb{c:UInt8}(h:digit c=true):48≤c.toNat∧c.toNat≤57:=by have:=Aa3 h;omega
theorem Aah:∀(l:List UInt8)(n:Nat),Qt n l=if T8 l then(if O8 n l>1000000 then -1 else(O8 n l:Int))else -1
 |[],n=>by
  have e:Qt n []=if (n:Int)>1000000 then -1 else(n:Int):=rfl;have e2:O8 n []=n:=rfl;have e3:T8 []=true:=rfl;rw[e,e2,e3,if_pos rfl];by_cases h:n>1000000
  ·rw[if_pos h,if_pos (by omega)]
  ·rw[if_neg h,if_neg (by omega)]
 |c::l,n=>by
  simp only[Qt];by_cases hc:digit c=true
  ·rw[if_pos hc];have hd:=Lb hc;have:=Aah l (10*n+(c.toNat-48));rw[show (10*(n:Int)+c.toNat-48)=((10*n+(c.toNat-48):Nat):Int) by omega,this];simp only[T8,P0,hc,Re,O8,Aea];rfl
  ·rw[if_neg hc];have hc':digit c=false:=by simpa using hc
   simp[T8,hc']
theorem Agg(l:List UInt8)(c:UInt8)(n:Nat):O8 n (l++[c])=10*O8 n l+(c.toNat-48):=by simp[O8]
theorem T9(n:Nat):T8 (Md n)=true:=by
 induction n using Nat.strongRecOn with
 |ind n ih=>
  unfold Md;have hd:∀k,k<10→digit (UInt8.ofNat (48+k))=true:=fun k hk=>by
   have:k=0∨k=1∨k=2∨k=3∨k=4∨k=5∨k=6∨k=7∨k=8∨k=9:=by omega
   rcases this with rfl|rfl|rfl|rfl|rfl|rfl|rfl|rfl|rfl|rfl<;>decide
  split
  ·rename_i h;have:=hd n h;simp only[T8,P0,List.all_nil,Bool.and_true];exact this
  ·have:=ih (n/10) (by omega);simp only[T8,List.all_append,P0,List.all_nil,Bool.and_true]at this⊢;rw[this,hd _ (by omega)];rfl
theorem T7(k:Nat)(hk:k<10):(UInt8.ofNat (48+k)).toNat=48+k:=by
 simp;omega
theorem Akr(n:Nat):O8 0 (Md n)=n:=by
 induction n using Nat.strongRecOn with
 |ind n ih=>
  unfold Md;split
  ·rename_i h;simp only[O8,Aea,List.foldl_nil];rw[T7 n h];omega
  ·rw[Agg,ih (n/10) (by omega),T7 _ (by omega)];omega
theorem Ant:∀(q:Nat)(l:List UInt8),l.length=q+1→T8 l=true→(l.length=1∨l.head?≠some 48)→Md (O8 0 l)=l
 |0,l,hl,hd,_=>by
  match l,hl with
  |[c],_=>
   have hc:digit c=true:=by simpa[T8]using hd
   have:=Lb hc;simp only[O8,Aea,List.foldl_nil];unfold Md;rw[if_pos (by omega)];congr 1;apply UInt8.toNat_inj.1;rw[T7 _ (by omega)];omega
 |q+1,l,hl,hd,h0=>by
  have hne:l≠[]:=by rintro rfl;simp at hl
  obtain⟨l',c,rfl⟩:∃l' c,l=l'++[c]:=⟨l.dropLast,l.getLast hne,(List.dropLast_concat_getLast hne).symm⟩
  simp at hl;have hl':l'.length=q+1:=by omega
  simp only[T8,List.all_append,Dd,P0,List.all_nil,Bool.and_true]at hd;have hc:=Lb hd.2;have hhead:l'.head?≠some 48:=by
   rcases h0 with h|h
   ·rw[Ex,hl']at h;simp at h
   ·cases l' with
    |nil=>simp at hl'
    |cons y l'=>simpa using h
  have ih:=Ant q l' hl' hd.1 (.inr hhead);have hpos:1≤O8 0 l':=by
   cases l' with
   |nil=>simp at hl'
   |cons y l'=>
    simp only[T8,P0,Dd]at hd;have hy:=Lb hd.1.1;have:y.toNat≠48:=fun h=>hhead (by simp;exact UInt8.toNat_inj.1 h);have:=Azr l' (10*0+(y.toNat-48));simp only[O8,Aea]at this⊢;omega
  rw[Agg];unfold Md;rw[if_neg (by omega),show (10*O8 0 l'+(c.toNat-48))/10=O8 0 l' by omega,ih,show (10*O8 0 l'+(c.toNat-48))%10=c.toNat-48 by omega];congr 2;apply UInt8.toNat_inj.1;rw[T7 _ (by omega)];omega
theorem Ag7(n:Nat):Lib.decDigits n=Md n:=by
 induction n using Nat.strongRecOn with
 |ind n ih=>
  unfold Md;rw[Lib.decDigits];split
  ·rfl
  ·rw[ih (n/10) (by omega)]
theorem Pr(s:List UInt8):0≤Dp s↔∃n:Nat,n≤1000000∧s=Md n∧Dp s=n:=by
 constructor
 ·intro h;cases s with
  |nil=>simp[Dp]at h
  |cons c l=>
   simp only[Dp]at h⊢;split at h
   ·omega
   ·rename_i h1;split at h
    ·omega
    ·rename_i h2;rw[if_neg h1,if_neg h2];have hv:=Aah (c::l) 0;simp only[Int.ofNat_zero]at hv;rw[hv]at h⊢;split at h
     ·rename_i hd;rw[if_pos hd];split at h
      ·omega
      ·rename_i hle;rw[if_neg hle];refine⟨O8 0 (c::l),by omega,?_,rfl⟩;refine(Ant l.length (c::l) (by simp) hd ?_).symm;simp only[Dd,Ke,zzq54,not_and]at h2;by_cases hl:l.length>0
       ·right;simp;exact h2 hl
       ·have:l=[]:=List.eq_nil_of_length_eq_zero (by omega);subst this;left;rfl
     ·omega
 ·rintro⟨n,_,_,h⟩;omega
theorem Asx(n:Nat)(h:10≤n):(Md n).head?≠some 48:=by
 induction n using Nat.strongRecOn with
 |ind n ih=>
  unfold Md;rw[if_neg (by omega)];have hne:Md (n/10)≠[]:=by unfold Md;split<;>simp
  have ih':(Md (n/10)).head?≠some 48:=by
   by_cases h2:10≤n/10
   ·exact ih (n/10) (by omega) h2
   ·unfold Md;rw[if_pos (by omega)];intro h;have:=congrArg UInt8.toNat (Option.some.inj h)
    rw[T7 _ (by omega)]at this;simp at this;omega
  cases hq:Md (n/10)with
  |nil=>exact absurd hq hne
  |cons y l=>rw[hq]at ih';simpa using ih'
theorem Ag8(n:Nat):1≤(Md n).length:=by
 unfold Md;split<;>simp
theorem Pq(n:Nat)(h:n≤1000000):Dp (Md n)=n:=by
 have hl:=Vm n h;have hp:=Ag8 n;have hv:=Aah (Md n) 0;rw[T9,if_pos rfl,Akr,if_neg (by omega)]at hv;cases hs:Md n with
 |nil=>rw[hs]at hp;simp at hp
 |cons c l=>
  rw[hs]at hl hv;simp at hl;simp only[Dp];rw[if_neg (by omega)];have:¬((decide (l.length>0)&&c==48)=true):=by
   simp only[Dd,Ke,zzq54,not_and];intro h1 h2;have h10:10≤n:=by
    rcases Gs n 10 with h'|h'
    ·unfold Md at hs;rw[if_pos h']at hs;simp at hs;rw[hs.2]at h1;simp at h1
    ·exact h'
   have:=Asx n h10;rw[hs]at this;simp at this;exact this h2
  rw[if_neg this];exact hv
theorem Aa0:∀(l:List UInt8)(n:Nat),T8 l=true→Lib.decFrom n l=some (O8 n l)
 |[],n,_=>by simp[Lib.decFrom,O8]
 |c::l,n,h=>by
  simp only[T8,P0,Dd]at h;have hc:=Lb h.1;have hd:Lib.digitVal c=some (c.toNat-48):=by unfold Lib.digitVal;rw[if_pos (by omega)]
  simp only[Lib.decFrom,hd];rw[Aa0 l _ h.2];simp only[O8,Aea];rw[Nat.mul_comm]
theorem Asn(n:Nat)(h:n≤1000000):Lib.atoiAll (Md n)=.ok (n:Int):=by
 have hl:=Vm n h;have hp:=Ag8 n;have hd:=T9 n;have hv:=Akr n;rw[Lib.atoiAll_short _ (by omega)];cases hs:Md n with
 |nil=>rw[hs]at hp;simp at hp
 |cons c l=>
  rw[hs]at hd hv;have hc:digit c=true:=by simp only[T8,P0,Dd]at hd;exact hd.1
  have hr:=Lb hc;have h45:(c==45)=false:=by rw[beq_eq_false_iff_ne];rintro rfl;simp at hr
  have h43:(c==43)=false:=by rw[beq_eq_false_iff_ne];rintro rfl;simp at hr
  simp only[Lib.atoi,h45,h43,Lib.decNat,Aa0 _ 0 hd,hv];rfl
def Qw(s:List UInt8):Bool:=match Lib.atoiAll s with
 |.ok v=>Lib.itoa v==s
 |_=>false
theorem Af0{s:List UInt8}{n:Nat}(h:n≤1000000)(hs:s=Md n):Qw s=true∧Ou s=n:=by
 subst hs;simp only[Qw,Ou,Asn n h];have:Lib.itoa (n:Int)=Md n:=by unfold Lib.itoa;rw[if_neg (by omega),Hl,Ag7]
 simp[this]
theorem Aq5(c:UInt8)(l:List UInt8)(hc:digit c=true):(Qw (c::l)&&decide (Ou (c::l)≤1000000))=decide (0≤Dp (c::l)):=by
 rw[Bool.eq_iff_iff];simp only[Dd,Ke];rw[Pr];constructor
 ·rintro⟨h1,h2⟩;cases h:Lib.atoiAll (c::l)with
  |ok v=>
   simp only[Qw,Ou,h,zzq54]at h1 h2;have h1:=h1.symm;have hv:¬v<0:=fun hv=>by
    unfold Lib.itoa at h1;rw[if_pos hv]at h1;simp at h1;have:=Lb hc;rw[h1.1]at this;simp at this
   obtain⟨n,rfl⟩:∃n:Nat,v=n:=⟨v.toNat,by omega⟩
   unfold Lib.itoa at h1;rw[if_neg hv,Hl,Ag7]at h1;exact⟨n,by omega,h1,by rw[h1];exact Pq n (by omega)⟩
  |range=>simp[Qw,h]at h1
  |_=>simp[Qw,h]at h1
 ·rintro⟨n,hn,hs,_⟩;obtain⟨a,b⟩:=Af0 hn hs;exact⟨a,by rw[b];omega⟩
theorem Afy(s:List UInt8)(hs:s.length≤1000000000):Pure X 343 [str s] (.tup [vi (Ou s),vb (Qw s)]):=by
 have hu:X.P.underlying 340=some (.interface (X.P.methodsAt 340)):=by kernel_rfl
 have ha:=A11 s hs;refine Pure.run func343 ?_;cases h:Lib.atoiAll s with
 |ok v=>
  simp only[Ou,Acx,Qw,h]at ha⊢;obtain⟨b0,b1⟩:=Lib.atoiAll_bounds h;refine Al ha ?_;refine Bn (Apm hu) ?_;refine Hh ?_;refine Al (Amg v (by omega) (by omega)) ?_;exact Az func343 rfl
 |range=>
  simp only[Ou,Acx,Qw,h]at ha⊢;refine Al ha ?_;refine Bn (Acs hu) ?_;refine Ii ?_;exact Az func343 rfl
 |_=>
  simp only[Ou,Acx,Qw,h]at ha⊢;refine Al ha ?_;refine Bn (Acs hu) ?_;refine Ii ?_;exact Az func343 rfl
theorem Aka(s:List UInt8)(c:UInt8):Pure X 386 [str s,vc c] (vi (Lib.indexByte s c)):=by
 have hr:∀w,(callFunc 393 ⟨[.string ⟨⟨s⟩⟩,.int .u8 c.toNat]⟩).run X.P w=.ok (.value (.int .i64 (Lib.indexByte s c))) w:=fun w=>by
  refine(run_callFunc_extern func393 (by kernel_rfl) (by kernel_rfl) (by kernel_rfl) (e:=Extern.BytealgIndexByte.indexByte) (by kernel_rfl) _ w).trans ?_;have:=Lib.run_indexByteString (P:=prog) ⟨⟨s⟩⟩ (c.toNat:Int) w;have e:((c.toNat:Int)).toNat.toUInt8=c:=by simp
  rw[e]at this;rw[show (⟨[.string ⟨⟨s⟩⟩,.int .u8 c.toNat]⟩:Array Value)=#[.string ⟨⟨s⟩⟩,.int .u8 c.toNat]from rfl,this];rfl
 refine Pure.run func386 ?_;refine Bn (Alc hr) ?_;exact Az func386 rfl
theorem Aq3(s:List UInt8)(c:UInt8):Pure X 377 [str s,str [c]] (vi (Lib.indexByte s c)):=by
 refine Pure.run func377 ?_;refine Ii ?_;refine Ah (fun h=>?_) (fun h=>?_)
 ·have h':([c]==s)=true:=h;have:s=[c]:=by rw[zzq54]at h';exact h'.symm
  subst this;refine Az func377 ?_;simp[Lib.indexByte,C8]
 ·refine A0 ?_;refine Jh 0 (by omega) (b:=c) rfl ?_;refine Al (Aka s c) ?_;exact Az func377 rfl
theorem Aun(s:List UInt8)(c:UInt8):Pure X 366 [str s,str [c]] (vi (Lib.indexByte s c)):=by
 refine Pure.run func366 ?_;refine Al (Aq3 s c) ?_;exact Az func366 rfl
theorem Aj8(s:List UInt8)(c:UInt8):Pure X 345 [str s,str [c]] (vb (decide (Lib.indexByte s c≥0))):=by
 refine Pure.run func345 ?_;refine Al (Aun s c) ?_;exact Az func345 rfl
def oneSigns:List UInt8:=[43,45,42,40,41,91,93,123,125,59,61,60,62,63]
def Kq:List (List UInt8):=[[61,61],[33,61],[60,61],[62,61]]
theorem Wn(l:List UInt8)(c:UInt8):decide (Lib.indexByte l c≥0)=l.contains c:=by
 induction l with
 |nil=>rfl
 |cons b l ih=>
  unfold Lib.indexByte;by_cases h:b=c
  ·subst h;simp
  ·have h':(b==c)=false:=by simpa using h
   have h2:(c==b)=false:=by simpa using Ne.symm h
   rw[h'];simp only[Bool.false_eq_true,if_false,List.contains_cons,h2,Bool.false_or,←ih];have:=Lib.indexByte_ge l c;split
   ·rename_i h3;have:Lib.indexByte l c=-1:=by simpa using h3
    rw[this]
   ·rename_i h3;have:Lib.indexByte l c≠-1:=by simpa using h3
    by_cases h4:Lib.indexByte l c≥0
    ·simp[h4];omega
    ·omega
theorem Add(c:UInt8)(l:List UInt8)(h1:Em c=false)(h2:digit c=false):Di (c::l)=if has Kq (c::l)||(l.isEmpty&&oneSigns.contains c)then 3 else 0:=by
 have k1:has Ui (c::l)=false:=by
  simp only[has,Ui,Ze,List.any_nil,Vf,Pe,beq_eq_false_iff_ne];refine⟨?_,?_,?_,?_,?_,?_,?_,?_,?_,?_,?_,?_,?_⟩<;>(intro h;injection h with h _;subst h;revert h1;decide)
 have k2:nameS (c::l)=false:=by simp[nameS,h1]
 have k3:¬Dp (c::l)≥0:=by
  intro h;obtain⟨n,_,hs,_⟩:=(Pr _).1 h;have:=T9 n;rw[←hs]at this;simp only[T8,P0,h2,Bool.false_and]at this;cases this
 simp only[Di,k1,k2];rw[if_neg (by simp),if_neg (by simp),if_neg k3];have:has Kc (c::l)=(has Kq (c::l)||(l.isEmpty&&oneSigns.contains c)):=by
  cases l with
  |nil=>
   simp only[has,Kc,Kq,oneSigns,Ze,List.any_nil,List.contains_cons,List.contains_nil,List.isEmpty_nil,Re,Vf];have e:∀a:UInt8,(a==c)=(c==a):=fun a=>by rw[Bool.eq_iff_iff,zzq54,zzq54];exact eq_comm
   simp[e,Bool.or_assoc]
  |cons d l=>
   simp only[has,Kc,Kq,Ze,List.any_nil,List.isEmpty_cons,Bool.false_and,Vf];simp
 rw[this]
theorem Akc(s:List UInt8)(hs:s.length≤1000000000):Pure X 320 [str s] (vi (Di s)):=by
 cases s with
 |nil=>
  refine Pure.run func320 ?_;refine A0 ?_;refine Az func320 ?_;rfl
 |cons c l=>
  simp only[Nn]at hs;have hsz:((⟨⟨c::l⟩⟩:ByteArray).size:Int)=l.length+1:=M9 c l;refine Pure.run func320 ?_;refine Ag ?_;refine Al (Ayn (c::l)) ?_;refine Ah (fun h1=>?_) (fun h1=>?_)
  ·have h1':has Ui (c::l)=true:=h1;refine Az func320 ?_;simp[Di,h1',C8]
  have h1':has Ui (c::l)=false:=h1;refine Jh 0 (by omega) (b:=c) rfl ?_;refine Al (Adt c) ?_;refine Ah (fun h2=>?_) (fun h2=>?_)
  ·have h2':Em c=true:=h2;have hk:Di (c::l)=if Q9 (c::l)&&decide (l.length<8)then 1 else 0:=by
    have hn:nameS (c::l)=(Q9 (c::l)&&decide (l.length<8)):=by simp[nameS,h1',h2',Bool.and_comm]
    have hd:digit c=false:=by
     simp only[Em,digit,Bl,Dd,Ke,Bool.and_eq_false_iff,decide_eq_false_iff_not]at h2'⊢;omega
    have k3:¬Dp (c::l)≥0:=by
     intro h;obtain⟨n,_,hs,_⟩:=(Pr _).1 h;have:=T9 n;rw[←hs]at this;simp only[T8,P0,hd,Bool.false_and]at this;cases this
    have k4:has Kc (c::l)=false:=by
     simp only[has,Kc,Ze,List.any_nil,Vf,Pe,beq_eq_false_iff_ne];refine⟨?_,?_,?_,?_,?_,?_,?_,?_,?_,?_,?_,?_,?_,?_,?_,?_,?_,?_⟩<;>(intro h;injection h with h _;subst h;revert h2';decide)
    simp only[Di,h1',hn];rw[if_neg (by simp)];split
    ·rfl
    ·first|(rw[if_neg k3,k4];rfl)|(rw[k4];rfl)
   rw[hk];generalize hT:Q9 (c::l)=T;refine Ar (ι:=Nat) 0 0 (fun i=>i≤l.length+1∧T=Q9 ((c::l).drop i)) (fun i=>[(18,vi i),(17,vi (l.length+1)),(0,str (c::l))]) (fun _=>⟨[],[]⟩) (fun i=>l.length+1-i) ?_ 0 ⟨B3 _,hT.symm⟩
    ⟨rfl,by rw[←hsz];rfl,rfl,trivial⟩
   rintro i ⟨hi,hTi⟩ IH;refine C7 (fun h3=>?_) (fun h3=>?_)
   ·have hlt:i<(c::l).length:=by have:=A5 h3;simp;omega
    obtain⟨b,hb⟩:=Ab (c::l) hlt;rw[B6 hb]at hTi;have hw:Q9 (b::(c::l).drop (i+1))=((Em b||digit b)&&Q9 ((c::l).drop (i+1))):=rfl;rw[hw]at hTi;refine Jh i (by omega) hb ?_;refine Al (Adt b) ?_;refine Df (fun h4=>?_) (fun h4=>?_)
    ·have h4':Em b=false:=by have:(!Em b)=true:=h4;simpa using this
     refine Jh i (by omega) hb ?_;refine Al (Aic b) ?_;refine Ah (fun h5=>?_) (fun h5=>?_)
     ·have h5':digit b=false:=by have:(!digit b)=true:=h5;simpa using this
      refine Az func320 ?_;rw[hTi,h4',h5'];rfl
     ·have h5':digit b=true:=by have:(!digit b)=false:=h5;simpa using this
      exact IH (i+1) ⟨by simp at hlt;omega,by rw[hTi,h5'];simp⟩ (by simp at hlt;omega) _ _ ⟨vsx (by omega),rfl,rfl,trivial⟩ rfl rfl rfl
    ·have h4':Em b=true:=by have:(!Em b)=false:=h4;simpa using this
     refine Ag ?_;exact IH (i+1) ⟨by simp at hlt;omega,by rw[hTi,h4'];simp⟩ (by simp at hlt;omega) _ _ ⟨vsx (by omega),rfl,rfl,trivial⟩ rfl rfl rfl
   ·have:i=(c::l).length:=by have:=Ba h3;simp;omega
    rw[this,Hz]at hTi;have hT1:T=true:=hTi;subst hT1;refine Ah (fun h4=>?_) (fun h4=>?_)
    ·have h4':l.length<8:=by have:=A5 h4;rw[hsz]at this;omega
     refine Az func320 ?_;simp[h4',C8]
    ·have h4':¬l.length<8:=by have:=Ba h4;rw[hsz]at this;omega
     refine Az func320 ?_;simp[h4',C8]
  have h2':Em c=false:=h2;refine Jh 0 (by omega) (b:=c) rfl ?_;refine Al (Aic c) ?_;refine Ah (fun h3=>?_) (fun h3=>?_)
  ·have h3':digit c=true:=h3;have hr:=Aq5 c l h3';have hk:Di (c::l)=if Qw (c::l)&&decide (Ou (c::l)≤1000000)then 2 else 0:=by
    have k2:nameS (c::l)=false:=by simp[nameS,h2']
    have k4:has Kc (c::l)=false:=by
     simp only[has,Kc,Ze,List.any_nil,Vf,Pe,beq_eq_false_iff_ne];refine⟨?_,?_,?_,?_,?_,?_,?_,?_,?_,?_,?_,?_,?_,?_,?_,?_,?_,?_⟩<;>(intro h;injection h with h _;subst h;revert h3';decide)
    simp only[Di,h1',k2,hr];rw[if_neg (by simp),if_neg (by simp)];by_cases h:0≤Dp (c::l)
    ·simp[h]
    ·rw[if_neg (by omega),k4];simp[h]
   rw[hk];refine Al (Afy (c::l) (by simp;omega)) ?_;refine Df (fun h4=>?_) (fun h4=>?_)
   ·have h4':Qw (c::l)=true:=h4;refine Ah (fun h5=>?_) (fun h5=>?_)
    ·have h5':Ou (c::l)≤1000000:=A5 h5;refine Az func320 ?_;simp[h4',h5',C8]
    ·have h5':¬Ou (c::l)≤1000000:=Ba h5;refine Az func320 ?_;simp[h4',h5',C8]
   ·have h4':Qw (c::l)=false:=h4;refine Ag ?_;refine Az func320 ?_;simp[h4',C8]
  have h3':digit c=false:=h3;rw[Add c l h2' h3'];refine Al (Su Kq (c::l) (by decide)) ?_;refine Df (fun h4=>?_) (fun h4=>?_)
  ·have h4':has Kq (c::l)=true:=h4;refine A0 ?_;refine Az func320 ?_;simp[h4',C8]
  have h4':has Kq (c::l)=false:=h4;cases l with
  |nil=>
   refine Hh ?_;refine Al (Aj8 oneSigns c) ?_;refine Ah (fun h5=>?_) (fun h5=>?_)
   ·have h5':oneSigns.contains c=true:=by rw[←Wn];exact h5
    refine Az func320 ?_;rw[h4',h5'];rfl
   ·have h5':oneSigns.contains c=false:=by rw[←Wn];exact h5
    refine Az func320 ?_;rw[h4',h5'];rfl
  |cons d l=>
   have:(((⟨⟨c::d::l⟩⟩:ByteArray).size:Int)==1)=false:=by rw[M9];simp;omega
   refine Ii ?_ (ht:=this);refine Ag ?_;refine Az func320 ?_;simp[h4',C8]
end Go.V
