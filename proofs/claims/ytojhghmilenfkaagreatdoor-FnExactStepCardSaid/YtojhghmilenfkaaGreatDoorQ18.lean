/- A part of the proof of the claim that the last text states: no condition of its own. -/
import Derived.Test.YtojhghmilenfkaaGreatDoorQ17
set_option linter.unusedVariables false
set_option linter.unusedSimpArgs false
namespace Go.V
open Go Go.Proofs Go.Proofs.Tryz
theorem Ako(k a b:Int)(h0:11≤k)(h1:k≤16):Pure X 125 [vi k,vi a,vi b] (vb (Pl k a b)):=by
 have:k=11∨k=12∨k=13∨k=14∨k=15∨k=16:=by omega
 rcases this with rfl|rfl|rfl|rfl|rfl|rfl <;>
 ·refine Pure.run func125 ?_
  repeat' (first|refine Ay ?_|refine Ah ?_)
  exact Ao func125 rfl
theorem Em{F:Cw}{S:St}{t ty b:Nat}{y:Ty}{cs:An}{x:AV}(hl:lk F t=some (.ptr b 0 0))(hy:X.ty ty=some y)(hb:S.boxes[b]?=some [cs])(hx:(Ol y.size cs fun c'=>Xs (G9 y.k) c')=some x):Oc X F S [.cell t ty]=some [x]:=by
 have:Xb S y.size (G9 y.k) (.ptr b 0 0)=some x:=by
  simp only[Xb,I5,hb,List.getElem?_cons_zero,P7];exact hx
 simp only[Oc,hl,T5,hy,this]
abbrev zCf:An:=[vi 0,.sl [] .tight,.sl [] .tight,vi 0,vi 0,vi 0,vi 0,vi 0]
theorem Av1{α:Type}(B:List α)(x y z:α):(B++[x]++[y]).set B.length z=B++[z]++[y]:=by rw[Gv,Jb _ _ (Bt _),Iw];simp
theorem A51{α:Type}(B:List α)(x y z:α):(B++[x]++[y]).set (B.length+1) z=B++[x]++[z]:=by rw[Jb _ _ (by simp)];simp
theorem Pt{S:St}{V C:AV}{ids:List Nat}{c:Cf}(h:CfB SlB S.boxes (.agg (En c V C)) ids c)(t e a:Int):Runs X 124 [.agg (En c V C),vi t,vi e,vi a] S (fun r S'=>r=.agg (En { c with trap:=t,edge:=e,acc:=a } V C)∧S'.toks=S.toks∧∃m,S'.boxes=S.boxes++m):=by
 have hc:=F8 h;have hc2:cellsOf (.agg (En { c with trap:=t,edge:=e,acc:=a } V C))=some (En { c with trap:=t,edge:=e,acc:=a } V C):=by
  rcases h.shapes with⟨⟨v1,v2,rfl⟩|⟨v1,rfl⟩,⟨c1,c2,rfl⟩|⟨c1,rfl⟩⟩<;>rfl
 refine Runs.run func124 ?_;refine Ug (b:=S.boxes.length) (cs:=En c V C) rfl rfl ?_ (hc:=hc);refine M0 (b:=S.boxes.length+1) (by simp) rfl ?_;obtain⟨T,hT⟩:∃T:St,T=⟨S.boxes++[[En c V C]]++[[zCf]],S.toks⟩:=⟨_,rfl⟩
 refine Bl T ?_ hT.symm;have z1:T.boxes[S.boxes.length]?=some [En c V C]:=by rw[hT];simp
 have l1:S.boxes.length+1<T.boxes.length:=by rw[hT];simp
 have z2:T.boxes[S.boxes.length+1]?=some [zCf]:=by rw[hT];simp
 refine Ct z1 rfl ?_;refine Ct (b:=S.boxes.length) (Ez (by omega)) rfl ?_;refine Ct (b:=S.boxes.length) (Ez (by simp;omega)) rfl ?_;refine Aw (b:=S.boxes.length) (Ez (by simp;omega)) ?_;refine Ct (b:=S.boxes.length+1) (cs:=zCf) (xs:=En { c with trap:=t,edge:=e,acc:=a } V C) (cs':=En { c with trap:=t,edge:=e,acc:=a } V C) (by rw[Fi (by omega),Fi (by omega),Fi (by omega)];exact z2) rfl ?_ (hc:=hc2);refine Bf func124 (h:=Em rfl rfl (Ez (by simp;omega)) rfl) ⟨_,rfl,rfl,by rw[hT],?_⟩;rw[hT];refine⟨[[En { c with trap:=t,edge:=e,acc:=a } V C],[En { c with trap:=t,edge:=e,acc:=a } V C]],?_⟩;rw[Av1,Av1,Av1,A51,Gv];rfl
structure SpS (n:Nd)(S:St)(bc le:Nat)(V C:AV)(ids:List Nat)(c:Cf)(e:Eg):Prop where
 z0:S.boxes[0]?=some [Lw n]
 z2:S.boxes[2]?=some [zCf]
 c:CfS S bc V C ids c
 e:S.boxes[le]?=some [Io e]
 ge:3≤bc∧3≤le∧le≠bc∧∀i,i∈ids→3≤i∧i≠le
section
variable {n:Nd}{S:St}{bc le:Nat}{V C:AV}{ids:List Nat}{c:Cf}{e:Eg}
theorem SpS.chg{S':St}{c':Cf}(h:SpS n S bc le V C ids c e)(hc:CfS S' bc V C ids c')(hch:Chg (bc::ids) S.boxes S'.boxes):SpS n S' bc le V C ids c' e:=by
 have hg:=h.ge;have key:∀i,i<3∨i=le→i∉bc::ids:=fun i hi hm=>by
  rcases zzq8.1 hm with rfl|hm
  ·omega
  ·have:=hg.2.2.2 i hm;omega
 exact⟨(hch.2 0 (Aa h.z0) (key 0 (by omega))).trans h.z0,(hch.2 2 (Aa h.z2) (key 2 (by omega))).trans h.z2,hc,(hch.2 le (Aa h.e) (key le (.inr rfl))).trans h.e,hg⟩
theorem SpS.more{S':St}{m:B3}(h:SpS n S bc le V C ids c e)(hb:S'.boxes=S.boxes++m):SpS n S' bc le V C ids c e:=by
 have gx:∀{i:Nat} {y:A7},S.boxes[i]?=some y→S'.boxes[i]?=some y:=fun{i y} h=>by rw[hb,Dd (Aa h)];exact h
 exact⟨gx h.z0,gx h.z2,h.c.more hb,gx h.e,h.ge⟩
end
theorem Tx{d:Nat}(r:VR):Sh d (vR3 r) (vR3 r):=by
 have h:=(ShL.cons (.val _) (.cons (.val _) (.cons (.val _) .nil)):ShL d [vi r.1,vi r.2.1,vi r.2.2] [vi r.1,vi r.2.1,vi r.2.2]).get;exact .tup _ _ h.1 h.2
theorem Axk(r:List (Bool×Int))(x d:Int):(Og r x d).2.1=0∨(Og r x d).2.1=1∨(Og r x d).2.1=2:=by
 unfold Og;split
 ·split<;>simp
 ·simp
theorem Atl(x d:Int):(N9 x d).2.1=0∨(N9 x d).2.1=3:=by
 unfold N9;split<;>simp
theorem Ye(n:Nd)(c:Cf){e:Nd}(h:FE e):∀d,0≤(Df n c e d).2.1∧(Df n c e d).2.1≤3:=by
 induction h with
 |num m h0 h1=>intro d;rw[Zx];simp[Aem,Ue]
 |var s h=>intro d;rw[Zx];simp[Aem,Ue]
 |len s h=>intro d;rw[Zx];simp[Aem,Ue]
 |cell s a h ha ih=>
  intro d;have:=ih d;rcases hv:Df n c a d with⟨v,t,d1⟩
  rw[hv]at this;rw[Agy hv];split
  ·have h3:Ue n c 3 s 0 ([v],0,d1)=Og (X9 n c s) v d1:=by simp[Ue]
   rw[h3];have:=Axk (X9 n c s) v d1;omega
  ·exact this
 |neg a ha ih=>
  intro d;have:=ih d;rcases hv:Df n c a d with⟨v,t,d1⟩
  rw[hv]at this;rw[Agy hv];split
  ·have h3:Ue n c 5 [] 0 ([v],0,d1)=N9 (IntKind.i64.wrap (-v)) d1:=by simp[Ue]
   rw[h3];have:=Atl (IntKind.i64.wrap (-v)) d1;omega
  ·exact this
 |two k a b hk' ha hb iha ihb=>
  intro d;have h1:=iha d;rcases hv:Df n c a d with⟨v,t,d1⟩
  rw[hv]at h1;have h2:=ihb d1;rcases hv2:Df n c b d1 with⟨v2,t2,d2⟩
  rw[hv2]at h2;rw[Awh hv hv2];split
  ·split
   ·have h3:∃x,Ue n c k [] 0 ([v,v2],0,d2)=N9 x d2:=⟨_,by simp[Ue];rfl⟩
    obtain⟨x,h3⟩:=h3;rw[h3];have:=Atl x d2;omega
   ·exact h2
  ·exact h1
def Iy(i:Nat)(t1 t2:Int)(q:DR):Cf:=if q.2.1=0 then{ q.1 with pt:=if q.2.2.2=true then t1 else t2 }else{ q.1 with trap:=q.2.1,edge:=(i:Int),acc:=if q.2.1=4∨q.2.1=5 then 0 else q.2.2.1 }
section
variable {n:Nd}{S:St}{bc le:Nat}{V C:AV}{ids:List Nat}{c:Cf}
abbrev SpA(n:Nd)(S:St)(bc le:Nat)(inp:List Int)(at_:Nat)(M:Cf):Prop:=
 AK X ⟨76,f76,0,0⟩ (J6 false 9 f76) [(2,.sl (Fh inp) .no),(3,.ptr 0 0 0),(6,.ptr 2 0 0),(7,.ptr bc 0 0),(8,vi at_),(9,.ptr le 0 0)] S (fun e S'=>e=.ret (cf M)∧S'=⟨[],[]⟩)
theorem Avz{inp:List Int}{i:Nat}{f t k t2:Int}{y:Bool}{x:Nd}(hk':k=6∨k=7)(hA:SpS n S bc le V C ids c ⟨f,t,k,y,x⟩)(hok:CfOk c):SpA n S bc le inp i (Iy i t t2 (c,0,0,true)):=by
 have e1:Iy i t t2 (c,0,0,true)={ c with pt:=t }:=by simp[Iy]
 rw[e1];have hc2:=hA.c.upd (c':={ c with pt:=t }) rfl rfl;have hB:=hA.chg hc2 ((C6 S.boxes bc _).more fun i hi=>by simp at hi;simp[hi]);have hOK:CfOk { c with pt:=t }:=⟨hok.vars,hok.cells,hok.rows⟩
 rcases hk' with rfl|rfl <;>
 ·refine Dj ?_;refine Ce 60 rfl ?_;refine Aw hA.e ?_
  iterate 5 refine Cv ?_
  refine Aw hA.e ?_;refine Ct hA.c.box rfl ?_;refine Aw hB.c.box ?_;refine Ct (xs:=En ({ c with pt:=t }) V C) (cs':=En ({ c with pt:=t }) V C) hB.z2 rfl ?_ (hc:=F8 hB.c.cf);refine F3 (B:=⟨76,_,0,0⟩) func76 (h:=Em rfl rfl (Ez (Aa hB.z2)) rfl) 0 (Bt _) ?_ (fun rows hr=>by simp at hr) ⟨rfl,rfl⟩;exact(hB.c.cf.chg (C6 _ 2 _) fun i hi hi2=>by simp at hi2;have:=hB.ge.2.2.2 i hi;omega).fz hOK
theorem A50(hk:VOk n c){inp:List Int}{i:Nat}{f t t2:Int}{y:Bool}{s:Ad}{a:Nd}(hA:SpS n S bc le V C ids c ⟨f,t,1,y,.mk 21 s 0 [a]⟩)(hs:Fe 0 (A3 n 31) s≥0)(ha:FE a)(ka:Fs (A3 n 31) (A3 n 32) a=true) :
 SpA n S bc le inp i (Iy i t t2 (Sq n inp c 1 y (.mk 21 s 0 [a]))):=by
 have hok:=hk.ok;obtain⟨iv,v0,h1,h2,_⟩:=hk.var hs;have kl:=hk.kl;have hd1:=Ht n 31;have hq:=Vi (A3 n 31) s (by omega);rw[h1]at hq;have hiv:=Aa h2;have hpv:=Tn n c hk ha ka 0;have okP:Ok 0 0 (.agg (Lw n)):=(inferInstance:OK 0 0 (.agg (Lw n))).ok;have hvt:=Ye n c ha 0;have e0:Sq n inp c 1 y (.mk 21 s 0 [a])=if (Df n c a 0).2.1=0 then(W5 n c s (Df n c a 0).1,0,(Df n c a 0).2.2,true)else(c,(Df n c a 0).2.1,(Df n c a 0).2.2,true):=rfl;rw[e0];rcases hv:Df n c a 0 with⟨v,tt,d1⟩
 rw[hv]at hpv hvt;simp only at hvt⊢;refine Dj ?_;refine Ce 60 rfl ?_;refine Aw hA.e ?_;refine Ej ?_;refine Di 0 (by kernel_rfl) ?_;refine A4 (As hA.z0) ?_
 iterate 2 refine A0 ?_
 refine A4 (As hA.e) ?_;refine D6 (fun S'=>Ca rfl rfl rfl rfl rfl rfl rfl rfl rfl (by decide) (Ap (l:=[a]) (i:=0) rfl)) ?_;refine A0 ?_;refine A4 (As hA.c.box) ?_
 iterate 0 refine A0 ?_
 refine A4 (Qk hpv (.cons (.same _ okP) (.cons (.same _ (inferInstance:OK 0 0 (nd a)).ok) (.cons (hA.c.cf.fz hok) (.cons (.same _ (.val _)) .nil)))) (Tx _)) ?_
 iterate 7 refine A0 ?_
 refine G0 ?_;refine Gn (fun g=>?_) (fun g=>?_)
 ·have gt:¬tt=0:=by simpa using(show (tt != 0)=true from g)
  have e1:Iy i t t2 (if tt=0 then(W5 n c s v,0,d1,true)else(c,tt,d1,true))={ c with trap:=tt,edge:=(i:Int),acc:=d1 }:=by
   rw[if_neg gt];unfold Iy;rw[if_neg gt,if_neg (by simp only;omega)]
  rw[e1];refine Aw hA.c.box ?_;refine Hl (Pt hA.c.cf (tt) i (d1)) ?_;intro r W hP _ _;obtain⟨rfl,htW,mW,hmW⟩:=hP;have hW:=hA.more hmW;have hc2:cellsOf (.agg (En { c with trap:=tt,edge:=(i:Int),acc:=d1 } V C))=some (En { c with trap:=tt,edge:=(i:Int),acc:=d1 } V C):=by
   rcases hA.c.cf.shapes with⟨⟨v1,v2,rfl⟩|⟨v1,rfl⟩,⟨c1,c2,rfl⟩|⟨c1,rfl⟩⟩<;>rfl
  refine Ce 60 rfl ?_;refine Ct (xs:=En { c with trap:=tt,edge:=(i:Int),acc:=d1 } V C) (cs':=En { c with trap:=tt,edge:=(i:Int),acc:=d1 } V C) hW.z2 rfl ?_ (hc:=hc2);refine F3 (B:=⟨76,_,0,0⟩) func76 (h:=Em rfl rfl (Ez (Aa hW.z2)) rfl) 0 (Bt _) ?_ (fun rows hr=>by simp at hr) ⟨rfl,rfl⟩;have hcf:=hW.c.cf.chg (C6 W.boxes 2 [En { c with trap:=tt,edge:=(i:Int),acc:=d1 } V C]) fun i hi hi2=>by simp at hi2;have:=hW.ge.2.2.2 i hi;omega
  obtain⟨V',C',ys,q1,q2,q3,q4,q5,q6,q7⟩:=hcf.ex;simp only[AV.agg.injEq,List.cons.injEq,and_true,true_and]at q1;obtain⟨rfl,rfl⟩:=q1;have hfz:=CfB.fz (S:=⟨W.boxes.set 2 [En { c with trap:=tt,edge:=(i:Int),acc:=d1 } V C],W.toks⟩) (ids:=ids) (c:={ c with trap:=tt,edge:=(i:Int),acc:=d1 }) ⟨V,C,ys,rfl,q2,q3,q4,q5,q6,q7⟩ ⟨hok.vars,hok.cells,hok.rows⟩;exact hfz
 ·have gt:tt=0:=by simpa using(show (tt != 0)=false from g)
  have e1:Iy i t t2 (if tt=0 then(W5 n c s v,0,d1,true)else(c,tt,d1,true))={ c with vars:=c.vars.set iv v,pt:=t }:=by
   rw[if_pos gt];unfold Iy W5;rw[h1];rfl
  rw[e1];obtain⟨bv,ex,hV,hb,hrow⟩:=hA.c.vars h2;obtain⟨hwr,hch⟩:=hA.c.wrV v hiv hV hb;have hA1:=hA.chg hwr (hch.more fun i hi=>by simp[hi]);subst hV;refine Di 1024 (by kernel_rfl) ?_;refine A0 ?_;refine A4 (As hA.c.box) ?_;refine A0 ?_;refine A4 (As hA.z0) ?_
  iterate 2 refine A0 ?_
  refine A4 (As hA.e) ?_;refine Hz hq ?_;refine A0 ?_;refine A4 (Gp (hj:=by simpa[Hp]using hiv) (hb:=hb) (hr:=hrow) (hl:=rfl)) ?_;refine C4 (Ji hb hrow rfl) ?_;refine G0 ?_;refine Aw hA1.e ?_;refine Ct hA1.c.box rfl ?_;have hc2:=hA1.c.upd (c':={ c with vars:=c.vars.set iv v,pt:=t }) rfl rfl;have hB:=hA1.chg hc2 ((C6 _ bc _).more fun i hi=>by simp at hi;simp[hi]);have hOK:CfOk { c with vars:=c.vars.set iv v,pt:=t }:=⟨by simpa using hok.vars,hok.cells,hok.rows⟩
  refine Aw hB.c.box ?_;refine Ct (xs:=En { c with vars:=c.vars.set iv v,pt:=t } (.bsl bv c.vars.length) C) (cs':=En { c with vars:=c.vars.set iv v,pt:=t } (.bsl bv c.vars.length) C) hB.z2 rfl ?_ (hc:=F8 hB.c.cf);refine F3 (B:=⟨76,_,0,0⟩) func76 (h:=Em rfl rfl (Ez (Aa hB.z2)) rfl) 0 (Bt _) ?_ (fun rows hr=>by simp at hr) ⟨rfl,rfl⟩;exact(hB.c.cf.chg (C6 _ 2 _) fun i hi hi2=>by simp at hi2;have:=hB.ge.2.2.2 i hi;omega).fz hOK
theorem A5z(hk:VOk n c){inp:List Int}{i:Nat}{f t t2:Int}{y:Bool}{s:Ad}{a b:Nd}(hA:SpS n S bc le V C ids c ⟨f,t,2,y,.mk 22 s 0 [a,b]⟩)(hs:Fe 0 (A3 n 32) s≥0)(ha:FE a)(ka:Fs (A3 n 31) (A3 n 32) a=true)(hb':FE b)(kb:Fs (A3 n 31) (A3 n 32) b=true) :
 SpA n S bc le inp i (Iy i t t2 (Sq n inp c 2 y (.mk 22 s 0 [a,b]))):=by
 have hok:=hk.ok;obtain⟨iv,r,h1,h2,h3,h4⟩:=hk.row hs;have kl:=hk.kl;have hd1:=Ht n 32;have hq:=Vi (A3 n 32) s (by omega);rw[h1]at hq;have hiv:=Aa h2;have hpv:=Tn n c hk ha ka 0;have hpw:=Tn n c hk hb' kb (Df n c a 0).2.2;have okP:Ok 0 0 (.agg (Lw n)):=(inferInstance:OK 0 0 (.agg (Lw n))).ok;have hvt:=Ye n c ha 0;have hvw:=Ye n c hb' (Df n c a 0).2.2;have e0:Sq n inp c 2 y (.mk 22 s 0 [a,b])=Oh n c [a,b] fun i v d=>if A8 i 0 (((X9 n c s).length:Int)-1)=true then(Ai4 n c s i v,0,d,true)else(c,1,d,true):=rfl;rw[e0];unfold Oh;simp only;rw[h3];rcases hv:Df n c a 0 with⟨v,tt,d1⟩
 rw[hv]at hpv hvt hpw hvw;simp only at hvt hpw hvw⊢;rcases hv2:Df n c b d1 with⟨v2,tt2,d2⟩
 rw[hv2]at hpw hvw;simp only at hvw⊢;refine Dj ?_;refine Ce 60 rfl ?_;refine Aw hA.e ?_;refine Cv ?_;refine Ej ?_;refine Di 0 (by kernel_rfl) ?_;refine A4 (As hA.z0) ?_
 iterate 2 refine A0 ?_
 refine A4 (As hA.e) ?_;refine D6 (fun S'=>Ca rfl rfl rfl rfl rfl rfl rfl rfl rfl (by decide) (Ap (l:=[a,b]) (i:=0) rfl)) ?_;refine A0 ?_;refine A4 (As hA.c.box) ?_
 iterate 0 refine A0 ?_
 refine A4 (Qk hpv (.cons (.same _ okP) (.cons (.same _ (inferInstance:OK 0 0 (nd a)).ok) (.cons (hA.c.cf.fz hok) (.cons (.same _ (.val _)) .nil)))) (Tx _)) ?_
 iterate 7 refine A0 ?_
 refine G0 ?_;refine Gn (fun g=>?_) (fun g=>?_)
 ·have gt:¬tt=0:=by simpa using(show (tt != 0)=true from g)
  rw[if_neg gt];have e1:Iy i t t2 (c,tt,d1,true)={ c with trap:=tt,edge:=(i:Int),acc:=d1 }:=by unfold Iy;rw[if_neg gt,if_neg (by simp only;omega)]
  rw[e1];refine Aw hA.c.box ?_;refine Hl (Pt hA.c.cf (tt) i (d1)) ?_;intro r W hP _ _;obtain⟨rfl,htW,mW,hmW⟩:=hP;have hW:=hA.more hmW;have hc2:cellsOf (.agg (En { c with trap:=tt,edge:=(i:Int),acc:=d1 } V C))=some (En { c with trap:=tt,edge:=(i:Int),acc:=d1 } V C):=by
   rcases hA.c.cf.shapes with⟨⟨v1,v2,rfl⟩|⟨v1,rfl⟩,⟨c1,c2,rfl⟩|⟨c1,rfl⟩⟩<;>rfl
  refine Ce 60 rfl ?_;refine Ct (xs:=En { c with trap:=tt,edge:=(i:Int),acc:=d1 } V C) (cs':=En { c with trap:=tt,edge:=(i:Int),acc:=d1 } V C) hW.z2 rfl ?_ (hc:=hc2);refine F3 (B:=⟨76,_,0,0⟩) func76 (h:=Em rfl rfl (Ez (Aa hW.z2)) rfl) 0 (Bt _) ?_ (fun rows hr=>by simp at hr) ⟨rfl,rfl⟩;have hcf:=hW.c.cf.chg (C6 W.boxes 2 [En { c with trap:=tt,edge:=(i:Int),acc:=d1 } V C]) fun i hi hi2=>by simp at hi2;have:=hW.ge.2.2.2 i hi;omega
  obtain⟨V',C',ys,q1,q2,q3,q4,q5,q6,q7⟩:=hcf.ex;simp only[AV.agg.injEq,List.cons.injEq,and_true,true_and]at q1;obtain⟨rfl,rfl⟩:=q1;have hfz:=CfB.fz (S:=⟨W.boxes.set 2 [En { c with trap:=tt,edge:=(i:Int),acc:=d1 } V C],W.toks⟩) (ids:=ids) (c:={ c with trap:=tt,edge:=(i:Int),acc:=d1 }) ⟨V,C,ys,rfl,q2,q3,q4,q5,q6,q7⟩ ⟨hok.vars,hok.cells,hok.rows⟩;exact hfz
 have gt:tt=0:=by simpa using(show (tt != 0)=false from g)
 rw[if_pos gt];refine Di 0 (by kernel_rfl) ?_;refine A4 (As hA.z0) ?_
 iterate 2 refine A0 ?_
 refine A4 (As hA.e) ?_;refine D6 (fun S'=>Ca rfl rfl rfl rfl rfl rfl rfl rfl rfl (by decide) (Ap (l:=[a,b]) (i:=1) rfl)) ?_;refine A0 ?_;refine A4 (As hA.c.box) ?_
 iterate 1 refine A0 ?_
 refine A4 (Qk hpw (.cons (.same _ okP) (.cons (.same _ (inferInstance:OK 0 0 (nd b)).ok) (.cons (hA.c.cf.fz hok) (.cons (.same _ (.val _)) .nil)))) (Tx _)) ?_
 iterate 7 refine A0 ?_
 refine G0 ?_;refine Gn (fun g2=>?_) (fun g2=>?_)
 ·have gt2:¬tt2=0:=by simpa using(show (tt2 != 0)=true from g2)
  rw[if_neg gt2];have e1:Iy i t t2 (c,tt2,d2,true)={ c with trap:=tt2,edge:=(i:Int),acc:=d2 }:=by unfold Iy;rw[if_neg gt2,if_neg (by simp only;omega)]
  rw[e1];refine Aw hA.c.box ?_;refine Hl (Pt hA.c.cf (tt2) i (d2)) ?_;intro r W hP _ _;obtain⟨rfl,htW,mW,hmW⟩:=hP;have hW:=hA.more hmW;have hc2:cellsOf (.agg (En { c with trap:=tt2,edge:=(i:Int),acc:=d2 } V C))=some (En { c with trap:=tt2,edge:=(i:Int),acc:=d2 } V C):=by
   rcases hA.c.cf.shapes with⟨⟨v1,v2,rfl⟩|⟨v1,rfl⟩,⟨c1,c2,rfl⟩|⟨c1,rfl⟩⟩<;>rfl
  refine Ce 60 rfl ?_;refine Ct (xs:=En { c with trap:=tt2,edge:=(i:Int),acc:=d2 } V C) (cs':=En { c with trap:=tt2,edge:=(i:Int),acc:=d2 } V C) hW.z2 rfl ?_ (hc:=hc2);refine F3 (B:=⟨76,_,0,0⟩) func76 (h:=Em rfl rfl (Ez (Aa hW.z2)) rfl) 0 (Bt _) ?_ (fun rows hr=>by simp at hr) ⟨rfl,rfl⟩;have hcf:=hW.c.cf.chg (C6 W.boxes 2 [En { c with trap:=tt2,edge:=(i:Int),acc:=d2 } V C]) fun i hi hi2=>by simp at hi2;have:=hW.ge.2.2.2 i hi;omega
  obtain⟨V',C',ys,q1,q2,q3,q4,q5,q6,q7⟩:=hcf.ex;simp only[AV.agg.injEq,List.cons.injEq,and_true,true_and]at q1;obtain⟨rfl,rfl⟩:=q1;have hfz:=CfB.fz (S:=⟨W.boxes.set 2 [En { c with trap:=tt2,edge:=(i:Int),acc:=d2 } V C],W.toks⟩) (ids:=ids) (c:={ c with trap:=tt2,edge:=(i:Int),acc:=d2 }) ⟨V,C,ys,rfl,q2,q3,q4,q5,q6,q7⟩ ⟨hok.vars,hok.cells,hok.rows⟩;exact hfz
 have gt2:tt2=0:=by simpa using(show (tt2 != 0)=false from g2)
 rw[if_pos gt2];have e1:Iy i t t2 (c,1,d2,true)={ c with trap:=1,edge:=(i:Int),acc:=d2 }:=by unfold Iy;rw[if_neg (by simp),if_neg (by simp)]
 obtain⟨bb,ys,ex,yy,hC,hyl,hb,hyy,hrow,hsl⟩:=hA.c.row h2;have hw1:IntKind.i64.wrap ((r.length:Int)-1)=(r.length:Int)-1:=Ac (by omega) (by omega);subst hC;rcases hsl with⟨b2,ex2,rfl,hb2⟩|⟨hemp,sp,rfl⟩
 ·rw[Gs]at hyy hrow;refine Aw hA.z0 ?_;refine Aw hA.e ?_;refine L4 hq ?_;refine Aw hA.c.box ?_;refine Jr iv hiv hb hrow rfl ?_;refine L3 hb hrow ?_;refine L4 (Gg v 0 (IntKind.i64.wrap ((r.length:Int)-1))) ?_;rw[hw1];refine Gn (fun g3=>?_) (fun g3=>?_)
  ·have g3':A8 v 0 ((r.length:Int)-1)=false:=by simpa using g3
   rw[g3',if_neg (by decide),e1];generalize hCC:AV.bsl bb c.cells.length=C at *;refine Aw hA.c.box ?_;refine Hl (Pt hA.c.cf (1) i (d2)) ?_;intro r W hP _ _;obtain⟨rfl,htW,mW,hmW⟩:=hP;have hW:=hA.more hmW;have hc2:cellsOf (.agg (En { c with trap:=1,edge:=(i:Int),acc:=d2 } V C))=some (En { c with trap:=1,edge:=(i:Int),acc:=d2 } V C):=by
    rcases hA.c.cf.shapes with⟨⟨v1,v2,rfl⟩|⟨v1,rfl⟩,⟨c1,c2,rfl⟩|⟨c1,rfl⟩⟩<;>rfl
   refine Ce 60 rfl ?_;refine Ct (xs:=En { c with trap:=1,edge:=(i:Int),acc:=d2 } V C) (cs':=En { c with trap:=1,edge:=(i:Int),acc:=d2 } V C) hW.z2 rfl ?_ (hc:=hc2);refine F3 (B:=⟨76,_,0,0⟩) func76 (h:=Em rfl rfl (Ez (Aa hW.z2)) rfl) 0 (Bt _) ?_ (fun rows hr=>by simp at hr) ⟨rfl,rfl⟩;have hcf:=hW.c.cf.chg (C6 W.boxes 2 [En { c with trap:=1,edge:=(i:Int),acc:=d2 } V C]) fun i hi hi2=>by simp at hi2;have:=hW.ge.2.2.2 i hi;omega
   obtain⟨V',C',ys,q1,q2,q3,q4,q5,q6,q7⟩:=hcf.ex;simp only[AV.agg.injEq,List.cons.injEq,and_true,true_and]at q1;obtain⟨rfl,rfl⟩:=q1;have hfz:=CfB.fz (S:=⟨W.boxes.set 2 [En { c with trap:=1,edge:=(i:Int),acc:=d2 } V C],W.toks⟩) (ids:=ids) (c:={ c with trap:=1,edge:=(i:Int),acc:=d2 }) ⟨V,C,ys,rfl,q2,q3,q4,q5,q6,q7⟩ ⟨hok.vars,hok.cells,hok.rows⟩;exact hfz
  ·have g3':A8 v 0 ((r.length:Int)-1)=true:=by simpa using g3
   rw[g3',if_pos rfl];have hb1:=Ck.1 g3';obtain⟨jj,rfl⟩:∃jj:Nat,v=jj:=⟨v.toNat,by omega⟩
   have hjl:jj<r.length:=by omega
   obtain⟨z,hz⟩:=Ab r hjl;have hrow2:(G5 r++ex2)[jj]?=some (Hc z):=by rw[Dd (by rw[Gs];exact hjl)];exact Dl (f:=Hc) hz
   obtain⟨_,hwr,hch⟩:=hA.c.wrC v2 h2 hjl rfl hyl hb hyy hb2;have hA1:=hA.chg hwr (hch.more fun i hi=>by simp[hi]);have e2:Iy i t t2 (Ai4 n c s (jj:Int) v2,0,d2,true)={ c with cells:=c.cells.set iv (r.set jj (true,v2)),pt:=t }:=by
    unfold Iy Ai4;rw[h1,h3];rfl
   rw[e2];refine Aw hA.c.box ?_;refine Jr iv hiv hb hrow rfl ?_;refine L3 hb hrow ?_;refine Jr jj hjl hb2 hrow2 rfl ?_;refine L5 hb2 hrow2 rfl ?_;refine Aw hA1.e ?_;refine Ct hA1.c.box rfl ?_;have hc2:=hA1.c.upd (c':={ c with cells:=c.cells.set iv (r.set jj (true,v2)),pt:=t }) rfl rfl;have hB:=hA1.chg hc2 ((C6 _ bc _).more fun i hi=>by simp at hi;simp[hi]);have hOK:CfOk { c with cells:=c.cells.set iv (r.set jj (true,v2)),pt:=t }:=⟨hok.vars,by simpa using hok.cells,fun x hx=>by
    rcases Zy hx with hx|rfl
    ·exact hok.rows x hx
    ·rw[List.length_set];omega⟩
   refine Aw hB.c.box ?_;refine Ct (xs:=En ({ c with cells:=c.cells.set iv (r.set jj (true,v2)),pt:=t }) (V) (.bsl bb c.cells.length)) (cs':=En ({ c with cells:=c.cells.set iv (r.set jj (true,v2)),pt:=t }) (V) (.bsl bb c.cells.length)) hB.z2 rfl ?_ (hc:=F8 hB.c.cf);refine F3 (B:=⟨76,_,0,0⟩) func76 (h:=Em rfl rfl (Ez (Aa hB.z2)) rfl) 0 (Bt _) ?_ (fun rows hr=>by simp at hr) ⟨rfl,rfl⟩;exact(hB.c.cf.chg (C6 _ 2 _) fun i hi hi2=>by simp at hi2;have:=hB.ge.2.2.2 i hi;omega).fz hOK
 ·have h0:r=[]:=by cases r with|nil=>rfl|cons a l=>simp[G5]at hemp
  subst h0;refine Aw hA.z0 ?_;refine Aw hA.e ?_;refine L4 hq ?_;refine Aw hA.c.box ?_;refine Jr iv hiv hb hrow rfl ?_;refine L3 hb hrow ?_;refine L4 (Gg v 0 (IntKind.i64.wrap (((([]:List (Bool×Int)).length:Nat):Int)-1))) ?_;rw[hw1];refine Gn (fun g3=>?_) (fun g3=>?_)
  ·have g3':A8 v 0 (((([]:List (Bool×Int)).length:Nat):Int)-1)=false:=by simpa using g3
   rw[g3',if_neg (by decide),e1];generalize hCC:AV.bsl bb c.cells.length=C at *;refine Aw hA.c.box ?_;refine Hl (Pt hA.c.cf (1) i (d2)) ?_;intro r W hP _ _;obtain⟨rfl,htW,mW,hmW⟩:=hP;have hW:=hA.more hmW;have hc2:cellsOf (.agg (En { c with trap:=1,edge:=(i:Int),acc:=d2 } V C))=some (En { c with trap:=1,edge:=(i:Int),acc:=d2 } V C):=by
    rcases hA.c.cf.shapes with⟨⟨v1,v2,rfl⟩|⟨v1,rfl⟩,⟨c1,c2,rfl⟩|⟨c1,rfl⟩⟩<;>rfl
   refine Ce 60 rfl ?_;refine Ct (xs:=En { c with trap:=1,edge:=(i:Int),acc:=d2 } V C) (cs':=En { c with trap:=1,edge:=(i:Int),acc:=d2 } V C) hW.z2 rfl ?_ (hc:=hc2);refine F3 (B:=⟨76,_,0,0⟩) func76 (h:=Em rfl rfl (Ez (Aa hW.z2)) rfl) 0 (Bt _) ?_ (fun rows hr=>by simp at hr) ⟨rfl,rfl⟩;have hcf:=hW.c.cf.chg (C6 W.boxes 2 [En { c with trap:=1,edge:=(i:Int),acc:=d2 } V C]) fun i hi hi2=>by simp at hi2;have:=hW.ge.2.2.2 i hi;omega
   obtain⟨V',C',ys,q1,q2,q3,q4,q5,q6,q7⟩:=hcf.ex;simp only[AV.agg.injEq,List.cons.injEq,and_true,true_and]at q1;obtain⟨rfl,rfl⟩:=q1;have hfz:=CfB.fz (S:=⟨W.boxes.set 2 [En { c with trap:=1,edge:=(i:Int),acc:=d2 } V C],W.toks⟩) (ids:=ids) (c:={ c with trap:=1,edge:=(i:Int),acc:=d2 }) ⟨V,C,ys,rfl,q2,q3,q4,q5,q6,q7⟩ ⟨hok.vars,hok.cells,hok.rows⟩;exact hfz
  ·have g3':A8 v 0 (((([]:List (Bool×Int)).length:Nat):Int)-1)=true:=by simpa using g3
   have:=Ck.1 g3';simp only[Xi]at this;omega
theorem A3u(hk:VOk n c){inp:List Int}(hu:0≤c.used∧c.used≤100){i:Nat}{f t t2:Int}{y:Bool}{s:Ad}(hA:SpS n S bc le V C ids c ⟨f,t,3,y,.mk 23 s 0 []⟩)(hs:Fe 0 (A3 n 31) s≥0):SpA n S bc le inp i (Iy i t t2 (Sq n inp c 3 y (.mk 23 s 0 []))):=by
 have hok:=hk.ok;obtain⟨iv,v0,h1,h2,_⟩:=hk.var hs;have kl:=hk.kl;have hd1:=Ht n 31;have hq:=Vi (A3 n 31) s (by omega);rw[h1]at hq;have hiv:=Aa h2;have hil:=Fb inp;have e0:Sq n inp c 3 y (.mk 23 s 0 [])=if (inp.length:Int)≤c.used then(c,5,0,true)else({ W5 n c s (inp.getD c.used.toNat 0)with used:=c.used+1 },0,0,true):=rfl;rw[e0];refine Dj ?_;refine Ce 60 rfl ?_;refine Aw hA.e ?_
 iterate 2 refine Cv ?_
 refine Ej ?_;refine Aw hA.c.box ?_;refine Gn (fun g=>?_) (fun g=>?_)
 ·have g':(inp.length:Int)≤c.used:=by have:=A6 g;rw[hil]at this;exact this
  rw[if_pos g'];have e1:Iy i t t2 (c,5,0,true)={ c with trap:=5,edge:=(i:Int),acc:=0 }:=by unfold Iy;rw[if_neg (by simp),if_pos (by simp)]
  rw[e1];refine Aw hA.c.box ?_;refine Hl (Pt hA.c.cf (5) i (0)) ?_;intro r W hP _ _;obtain⟨rfl,htW,mW,hmW⟩:=hP;have hW:=hA.more hmW;have hc2:cellsOf (.agg (En { c with trap:=5,edge:=(i:Int),acc:=0 } V C))=some (En { c with trap:=5,edge:=(i:Int),acc:=0 } V C):=by
   rcases hA.c.cf.shapes with⟨⟨v1,v2,rfl⟩|⟨v1,rfl⟩,⟨c1,c2,rfl⟩|⟨c1,rfl⟩⟩<;>rfl
  refine Ce 60 rfl ?_;refine Ct (xs:=En { c with trap:=5,edge:=(i:Int),acc:=0 } V C) (cs':=En { c with trap:=5,edge:=(i:Int),acc:=0 } V C) hW.z2 rfl ?_ (hc:=hc2);refine F3 (B:=⟨76,_,0,0⟩) func76 (h:=Em rfl rfl (Ez (Aa hW.z2)) rfl) 0 (Bt _) ?_ (fun rows hr=>by simp at hr) ⟨rfl,rfl⟩;have hcf:=hW.c.cf.chg (C6 W.boxes 2 [En { c with trap:=5,edge:=(i:Int),acc:=0 } V C]) fun i hi hi2=>by simp at hi2;have:=hW.ge.2.2.2 i hi;omega
  obtain⟨V',C',ys,q1,q2,q3,q4,q5,q6,q7⟩:=hcf.ex;simp only[AV.agg.injEq,List.cons.injEq,and_true,true_and]at q1;obtain⟨rfl,rfl⟩:=q1;have hfz:=CfB.fz (S:=⟨W.boxes.set 2 [En { c with trap:=5,edge:=(i:Int),acc:=0 } V C],W.toks⟩) (ids:=ids) (c:={ c with trap:=5,edge:=(i:Int),acc:=0 }) ⟨V,C,ys,rfl,q2,q3,q4,q5,q6,q7⟩ ⟨hok.vars,hok.cells,hok.rows⟩;exact hfz
 ·have g':¬(inp.length:Int)≤c.used:=by have:=Bd g;rw[hil]at this;exact this
  rw[if_neg g'];obtain⟨un,hun⟩:∃un:Nat,c.used=un:=⟨c.used.toNat,by omega⟩
  obtain⟨w,hw⟩:=Ab inp (i:=un) (by omega);have hw1:IntKind.i64.wrap (c.used+1)=c.used+1:=Ac (by omega) (by omega);have e1:Iy i t t2 ({ W5 n c s (inp.getD c.used.toNat 0)with used:=c.used+1 },0,0,true)={ c with vars:=c.vars.set iv w,used:=IntKind.i64.wrap (c.used+1),pt:=t }:=by
   unfold Iy W5;rw[h1,I3,hun,I3,Ap7,hw,←hun,hw1];rfl
  rw[e1];obtain⟨bv,ex,hV,hb,hrow⟩:=hA.c.vars h2;obtain⟨hwr,hch⟩:=hA.c.wrV w hiv hV hb;have hA1:=hA.chg hwr (hch.more fun i hi=>by simp[hi]);subst hV;refine Di 16384 (by kernel_rfl) ?_;refine A0 ?_;refine A4 (As hA.c.box) ?_;refine A0 ?_;refine A4 (As hA.z0) ?_
  iterate 2 refine A0 ?_
  refine A4 (As hA.e) ?_;refine Hz hq ?_
  iterate 2 refine A0 ?_
  refine A4 (As hA.c.box) ?_;refine D6 (fun S'=>Ca rfl rfl rfl rfl rfl rfl rfl rfl rfl hu.1 (by rw[hun,I3];exact Nr hw)) ?_;refine A0 ?_;refine A4 (Gp (hj:=by simpa[Hp]using hiv) (hb:=hb) (hr:=hrow) (hl:=rfl)) ?_;refine C4 (Ji hb hrow rfl) ?_;refine G0 ?_;refine Aw hA1.c.box ?_;refine Ct hA1.c.box rfl ?_;have hc2:=hA1.c.upd (c':={ c with vars:=c.vars.set iv w,used:=IntKind.i64.wrap (c.used+1) }) rfl rfl;have hA2:=hA1.chg hc2 ((C6 _ bc _).more fun i hi=>by simp at hi;simp[hi]);refine Aw hA2.e ?_;refine Ct hA2.c.box rfl ?_;have hc3:=hA2.c.upd (c':={ c with vars:=c.vars.set iv w,used:=IntKind.i64.wrap (c.used+1),pt:=t }) rfl rfl;have hB:=hA2.chg hc3 ((C6 _ bc _).more fun i hi=>by simp at hi;simp[hi]);have hOK:CfOk { c with vars:=c.vars.set iv w,used:=IntKind.i64.wrap (c.used+1),pt:=t }:=⟨by simpa using hok.vars,hok.cells,hok.rows⟩
  refine Aw hB.c.box ?_;refine Ct (xs:=En ({ c with vars:=c.vars.set iv w,used:=IntKind.i64.wrap (c.used+1),pt:=t }) (.bsl bv c.vars.length) (C)) (cs':=En ({ c with vars:=c.vars.set iv w,used:=IntKind.i64.wrap (c.used+1),pt:=t }) (.bsl bv c.vars.length) (C)) hB.z2 rfl ?_ (hc:=F8 hB.c.cf);refine F3 (B:=⟨76,_,0,0⟩) func76 (h:=Em rfl rfl (Ez (Aa hB.z2)) rfl) 0 (Bt _) ?_ (fun rows hr=>by simp at hr) ⟨rfl,rfl⟩;exact(hB.c.cf.chg (C6 _ 2 _) fun i hi hi2=>by simp at hi2;have:=hB.ge.2.2.2 i hi;omega).fz hOK
theorem SpS.setE{e:Eg}(h:SpS n S bc le V C ids c e)(e':Eg):SpS n ⟨S.boxes.set le [Io e'],S.toks⟩ bc le V C ids c e':=by
 have hg:=h.ge;exact⟨by rw[Fi (by omega)];exact h.z0,by rw[Fi (by omega)];exact h.z2,h.c.chg (C6 S.boxes le _) (by simp;omega) fun i hi hi2=>by simp at hi2;have:=hg.2.2.2 i hi;omega,Ez (Aa h.e),hg⟩
theorem Az3(hk:VOk n c){inp:List Int}{i:Nat}{f t t2:Int}{y:Bool}{x:Nd}(hA:SpS n S bc le V C ids c ⟨f,t,5,y,x⟩)(hx:FC x)(kx:Fs (A3 n 31) (A3 n 32) x=true):SpA n S bc le inp i (Iy i t t2 (Sq n inp c 5 y x)):=by
 have hok:=hk.ok;cases hx with
 |mk k a b h0 h1 ha hb=>
 obtain⟨n1,n2⟩:=Aas kx;have hpv:=Tn n c hk ha n1 0;have hpw:=Tn n c hk hb n2 (Df n c a 0).2.2;have okP:Ok 0 0 (.agg (Lw n)):=(inferInstance:OK 0 0 (.agg (Lw n))).ok;have hvt:=Ye n c ha 0;have hvw:=Ye n c hb (Df n c a 0).2.2;have e0:Sq n inp c 5 y (.mk k [] 0 [a,b])=Oh n c [a,b] fun a b d=>if Pl k a b=true then(c,0,d,true)else(c,4,0,true):=rfl;rw[e0];unfold Oh;simp only;rcases hv:Df n c a 0 with⟨v,tt,d1⟩
 rw[hv]at hpv hvt hpw hvw;simp only at hvt hpw hvw⊢;rcases hv2:Df n c b d1 with⟨v2,tt2,d2⟩
 rw[hv2]at hpw hvw;simp only at hvw⊢;refine Dj ?_;refine Ce 60 rfl ?_;refine Aw hA.e ?_
 iterate 3 refine Cv ?_
 refine Cv ?_;refine Ej ?_;refine Di 0 (by kernel_rfl) ?_;refine A4 (As hA.z0) ?_
 iterate 2 refine A0 ?_
 refine A4 (As hA.e) ?_;refine D6 (fun S'=>Ca rfl rfl rfl rfl rfl rfl rfl rfl rfl (by decide) (Ap (l:=[a,b]) (i:=0) rfl)) ?_;refine A0 ?_;refine A4 (As hA.c.box) ?_
 iterate 0 refine A0 ?_
 refine A4 (Qk hpv (.cons (.same _ okP) (.cons (.same _ (inferInstance:OK 0 0 (nd a)).ok) (.cons (hA.c.cf.fz hok) (.cons (.same _ (.val _)) .nil)))) (Tx _)) ?_
 iterate 7 refine A0 ?_
 refine G0 ?_;refine Gn (fun g=>?_) (fun g=>?_)
 ·have gt:¬tt=0:=by simpa using(show (tt != 0)=true from g)
  rw[if_neg gt];have e1:Iy i t t2 (c,tt,d1,true)={ c with trap:=tt,edge:=(i:Int),acc:=d1 }:=by unfold Iy;rw[if_neg gt,if_neg (by simp only;omega)]
  rw[e1];refine Aw hA.c.box ?_;refine Hl (Pt hA.c.cf (tt) i (d1)) ?_;intro r W hP _ _;obtain⟨rfl,htW,mW,hmW⟩:=hP;have hW:=hA.more hmW;have hc2:cellsOf (.agg (En { c with trap:=tt,edge:=(i:Int),acc:=d1 } V C))=some (En { c with trap:=tt,edge:=(i:Int),acc:=d1 } V C):=by
   rcases hA.c.cf.shapes with⟨⟨v1,v2,rfl⟩|⟨v1,rfl⟩,⟨c1,c2,rfl⟩|⟨c1,rfl⟩⟩<;>rfl
  refine Ce 60 rfl ?_;refine Ct (xs:=En { c with trap:=tt,edge:=(i:Int),acc:=d1 } V C) (cs':=En { c with trap:=tt,edge:=(i:Int),acc:=d1 } V C) hW.z2 rfl ?_ (hc:=hc2);refine F3 (B:=⟨76,_,0,0⟩) func76 (h:=Em rfl rfl (Ez (Aa hW.z2)) rfl) 0 (Bt _) ?_ (fun rows hr=>by simp at hr) ⟨rfl,rfl⟩;have hcf:=hW.c.cf.chg (C6 W.boxes 2 [En { c with trap:=tt,edge:=(i:Int),acc:=d1 } V C]) fun i hi hi2=>by simp at hi2;have:=hW.ge.2.2.2 i hi;omega
  obtain⟨V',C',ys,q1,q2,q3,q4,q5,q6,q7⟩:=hcf.ex;simp only[AV.agg.injEq,List.cons.injEq,and_true,true_and]at q1;obtain⟨rfl,rfl⟩:=q1;have hfz:=CfB.fz (S:=⟨W.boxes.set 2 [En { c with trap:=tt,edge:=(i:Int),acc:=d1 } V C],W.toks⟩) (ids:=ids) (c:={ c with trap:=tt,edge:=(i:Int),acc:=d1 }) ⟨V,C,ys,rfl,q2,q3,q4,q5,q6,q7⟩ ⟨hok.vars,hok.cells,hok.rows⟩;exact hfz
 have gt:tt=0:=by simpa using(show (tt != 0)=false from g)
 rw[if_pos gt];refine Di 0 (by kernel_rfl) ?_;refine A4 (As hA.z0) ?_
 iterate 2 refine A0 ?_
 refine A4 (As hA.e) ?_;refine D6 (fun S'=>Ca rfl rfl rfl rfl rfl rfl rfl rfl rfl (by decide) (Ap (l:=[a,b]) (i:=1) rfl)) ?_;refine A0 ?_;refine A4 (As hA.c.box) ?_
 iterate 1 refine A0 ?_
 refine A4 (Qk hpw (.cons (.same _ okP) (.cons (.same _ (inferInstance:OK 0 0 (nd b)).ok) (.cons (hA.c.cf.fz hok) (.cons (.same _ (.val _)) .nil)))) (Tx _)) ?_
 iterate 7 refine A0 ?_
 refine G0 ?_;refine Gn (fun g2=>?_) (fun g2=>?_)
 ·have gt2:¬tt2=0:=by simpa using(show (tt2 != 0)=true from g2)
  rw[if_neg gt2];have e1:Iy i t t2 (c,tt2,d2,true)={ c with trap:=tt2,edge:=(i:Int),acc:=d2 }:=by unfold Iy;rw[if_neg gt2,if_neg (by simp only;omega)]
  rw[e1];refine Aw hA.c.box ?_;refine Hl (Pt hA.c.cf (tt2) i (d2)) ?_;intro r W hP _ _;obtain⟨rfl,htW,mW,hmW⟩:=hP;have hW:=hA.more hmW;have hc2:cellsOf (.agg (En { c with trap:=tt2,edge:=(i:Int),acc:=d2 } V C))=some (En { c with trap:=tt2,edge:=(i:Int),acc:=d2 } V C):=by
   rcases hA.c.cf.shapes with⟨⟨v1,v2,rfl⟩|⟨v1,rfl⟩,⟨c1,c2,rfl⟩|⟨c1,rfl⟩⟩<;>rfl
  refine Ce 60 rfl ?_;refine Ct (xs:=En { c with trap:=tt2,edge:=(i:Int),acc:=d2 } V C) (cs':=En { c with trap:=tt2,edge:=(i:Int),acc:=d2 } V C) hW.z2 rfl ?_ (hc:=hc2);refine F3 (B:=⟨76,_,0,0⟩) func76 (h:=Em rfl rfl (Ez (Aa hW.z2)) rfl) 0 (Bt _) ?_ (fun rows hr=>by simp at hr) ⟨rfl,rfl⟩;have hcf:=hW.c.cf.chg (C6 W.boxes 2 [En { c with trap:=tt2,edge:=(i:Int),acc:=d2 } V C]) fun i hi hi2=>by simp at hi2;have:=hW.ge.2.2.2 i hi;omega
  obtain⟨V',C',ys,q1,q2,q3,q4,q5,q6,q7⟩:=hcf.ex;simp only[AV.agg.injEq,List.cons.injEq,and_true,true_and]at q1;obtain⟨rfl,rfl⟩:=q1;have hfz:=CfB.fz (S:=⟨W.boxes.set 2 [En { c with trap:=tt2,edge:=(i:Int),acc:=d2 } V C],W.toks⟩) (ids:=ids) (c:={ c with trap:=tt2,edge:=(i:Int),acc:=d2 }) ⟨V,C,ys,rfl,q2,q3,q4,q5,q6,q7⟩ ⟨hok.vars,hok.cells,hok.rows⟩;exact hfz
 have gt2:tt2=0:=by simpa using(show (tt2 != 0)=false from g2)
 rw[if_pos gt2];refine Aw hA.e ?_;refine L4 (Ako k v v2 h0 h1) ?_;refine Aw hA.e ?_;refine Uh ?_;cases hh:Pl k v v2 with
 |false=>
  refine Ej ?_ (ht:=by simp[hh]);rw[if_neg (by decide)];have e1:Iy i t t2 (c,4,0,true)={ c with trap:=4,edge:=(i:Int),acc:=0 }:=by unfold Iy;rw[if_neg (by simp),if_pos (by simp)]
  rw[e1];refine Aw hA.c.box ?_;refine Hl (Pt hA.c.cf (4) i (0)) ?_;intro r W hP _ _;obtain⟨rfl,htW,mW,hmW⟩:=hP;have hW:=hA.more hmW;have hc2:cellsOf (.agg (En { c with trap:=4,edge:=(i:Int),acc:=0 } V C))=some (En { c with trap:=4,edge:=(i:Int),acc:=0 } V C):=by
   rcases hA.c.cf.shapes with⟨⟨v1,v2,rfl⟩|⟨v1,rfl⟩,⟨c1,c2,rfl⟩|⟨c1,rfl⟩⟩<;>rfl
  refine Ce 60 rfl ?_;refine Ct (xs:=En { c with trap:=4,edge:=(i:Int),acc:=0 } V C) (cs':=En { c with trap:=4,edge:=(i:Int),acc:=0 } V C) hW.z2 rfl ?_ (hc:=hc2);refine F3 (B:=⟨76,_,0,0⟩) func76 (h:=Em rfl rfl (Ez (Aa hW.z2)) rfl) 0 (Bt _) ?_ (fun rows hr=>by simp at hr) ⟨rfl,rfl⟩;have hcf:=hW.c.cf.chg (C6 W.boxes 2 [En { c with trap:=4,edge:=(i:Int),acc:=0 } V C]) fun i hi hi2=>by simp at hi2;have:=hW.ge.2.2.2 i hi;omega
  obtain⟨V',C',ys,q1,q2,q3,q4,q5,q6,q7⟩:=hcf.ex;simp only[AV.agg.injEq,List.cons.injEq,and_true,true_and]at q1;obtain⟨rfl,rfl⟩:=q1;have hfz:=CfB.fz (S:=⟨W.boxes.set 2 [En { c with trap:=4,edge:=(i:Int),acc:=0 } V C],W.toks⟩) (ids:=ids) (c:={ c with trap:=4,edge:=(i:Int),acc:=0 }) ⟨V,C,ys,rfl,q2,q3,q4,q5,q6,q7⟩ ⟨hok.vars,hok.cells,hok.rows⟩;exact hfz
 |true=>
  refine Cv ?_ (ht:=by simp[hh]);rw[if_pos rfl];have e1:Iy i t t2 (c,0,d2,true)={ c with pt:=t }:=by simp[Iy]
  rw[e1];refine Aw hA.e ?_;refine Cv ?_;refine Aw hA.e ?_;refine Ct hA.c.box rfl ?_;have hc2:=hA.c.upd (c':={ c with pt:=t }) rfl rfl;have hB:=hA.chg hc2 ((C6 S.boxes bc _).more fun i hi=>by simp at hi;simp[hi]);have hOK:CfOk { c with pt:=t }:=⟨hok.vars,hok.cells,hok.rows⟩
  refine Aw hB.c.box ?_;refine Ct (xs:=En ({ c with pt:=t }) (V) (C)) (cs':=En ({ c with pt:=t }) (V) (C)) hB.z2 rfl ?_ (hc:=F8 hB.c.cf);refine F3 (B:=⟨76,_,0,0⟩) func76 (h:=Em rfl rfl (Ez (Aa hB.z2)) rfl) 0 (Bt _) ?_ (fun rows hr=>by simp at hr) ⟨rfl,rfl⟩;exact(hB.c.cf.chg (C6 _ 2 _) fun i hi hi2=>by simp at hi2;have:=hB.ge.2.2.2 i hi;omega).fz hOK
theorem Axi{y h:Bool}(g:(y != h)=false):h=y:=by cases y<;>cases h<;>simp at g⊢
theorem A1v{y h:Bool}(g:¬h=y):((!y) != h)=false:=by cases y<;>cases h<;>simp at g⊢
theorem Az4(hk:VOk n c){inp:List Int}{i j p:Nat}{t t2:Int}{y:Bool}{x:Nd}(hA:SpS n S bc le V C ids c ⟨(p:Int),t,4,y,x⟩)(hx:FC x)(kx:Fs (A3 n 31) (A3 n 32) x=true)(hp:c.pt=(p:Int))(hes:(Ia (A1 n)).length≤2000000)
 (hi:(Ia (A1 n))[i]?=some ⟨(p:Int),t,4,y,x⟩)(hij:i<j)(hj:(Ia (A1 n))[j]?=some ⟨(p:Int),t2,4,!y,x⟩)(hm:∀m,i<m→m<j→∀z,(Ia (A1 n))[m]?=some z→¬z.f=(p:Int)) :
 SpA n S bc le inp i (Iy i t t2 (Sq n inp c 4 y x)):=by
 have hok:=hk.ok;cases hx with
 |mk k a b h0 h1 ha hb=>
 obtain⟨n1,n2⟩:=Aas kx;have hpv:=Tn n c hk ha n1 0;have hpw:=Tn n c hk hb n2 (Df n c a 0).2.2;have okP:Ok 0 0 (.agg (Lw n)):=(inferInstance:OK 0 0 (.agg (Lw n))).ok;have hvt:=Ye n c ha 0;have hvw:=Ye n c hb (Df n c a 0).2.2;have e0:Sq n inp c 4 y (.mk k [] 0 [a,b])=Oh n c [a,b] fun a b d=>(c,0,d,Pl k a b==y):=rfl;rw[e0];unfold Oh;simp only;rcases hv:Df n c a 0 with⟨v,tt,d1⟩
 rw[hv]at hpv hvt hpw hvw;simp only at hvt hpw hvw⊢;rcases hv2:Df n c b d1 with⟨v2,tt2,d2⟩
 rw[hv2]at hpw hvw;simp only at hvw⊢;refine Dj ?_;refine Ce 60 rfl ?_;refine Aw hA.e ?_
 iterate 3 refine Cv ?_
 refine Ej ?_;refine Di 0 (by kernel_rfl) ?_;refine A4 (As hA.z0) ?_
 iterate 2 refine A0 ?_
 refine A4 (As hA.e) ?_;refine D6 (fun S'=>Ca rfl rfl rfl rfl rfl rfl rfl rfl rfl (by decide) (Ap (l:=[a,b]) (i:=0) rfl)) ?_;refine A0 ?_;refine A4 (As hA.c.box) ?_
 iterate 0 refine A0 ?_
 refine A4 (Qk hpv (.cons (.same _ okP) (.cons (.same _ (inferInstance:OK 0 0 (nd a)).ok) (.cons (hA.c.cf.fz hok) (.cons (.same _ (.val _)) .nil)))) (Tx _)) ?_
 iterate 7 refine A0 ?_
 refine G0 ?_;refine Gn (fun g=>?_) (fun g=>?_)
 ·have gt:¬tt=0:=by simpa using(show (tt != 0)=true from g)
  rw[if_neg gt];have e1:Iy i t t2 (c,tt,d1,true)={ c with trap:=tt,edge:=(i:Int),acc:=d1 }:=by unfold Iy;rw[if_neg gt,if_neg (by simp only;omega)]
  rw[e1];refine Aw hA.c.box ?_;refine Hl (Pt hA.c.cf (tt) i (d1)) ?_;intro r W hP _ _;obtain⟨rfl,htW,mW,hmW⟩:=hP;have hW:=hA.more hmW;have hc2:cellsOf (.agg (En { c with trap:=tt,edge:=(i:Int),acc:=d1 } V C))=some (En { c with trap:=tt,edge:=(i:Int),acc:=d1 } V C):=by
   rcases hA.c.cf.shapes with⟨⟨v1,v2,rfl⟩|⟨v1,rfl⟩,⟨c1,c2,rfl⟩|⟨c1,rfl⟩⟩<;>rfl
  refine Ce 60 rfl ?_;refine Ct (xs:=En { c with trap:=tt,edge:=(i:Int),acc:=d1 } V C) (cs':=En { c with trap:=tt,edge:=(i:Int),acc:=d1 } V C) hW.z2 rfl ?_ (hc:=hc2);refine F3 (B:=⟨76,_,0,0⟩) func76 (h:=Em rfl rfl (Ez (Aa hW.z2)) rfl) 0 (Bt _) ?_ (fun rows hr=>by simp at hr) ⟨rfl,rfl⟩;have hcf:=hW.c.cf.chg (C6 W.boxes 2 [En { c with trap:=tt,edge:=(i:Int),acc:=d1 } V C]) fun i hi hi2=>by simp at hi2;have:=hW.ge.2.2.2 i hi;omega
  obtain⟨V',C',ys,q1,q2,q3,q4,q5,q6,q7⟩:=hcf.ex;simp only[AV.agg.injEq,List.cons.injEq,and_true,true_and]at q1;obtain⟨rfl,rfl⟩:=q1;have hfz:=CfB.fz (S:=⟨W.boxes.set 2 [En { c with trap:=tt,edge:=(i:Int),acc:=d1 } V C],W.toks⟩) (ids:=ids) (c:={ c with trap:=tt,edge:=(i:Int),acc:=d1 }) ⟨V,C,ys,rfl,q2,q3,q4,q5,q6,q7⟩ ⟨hok.vars,hok.cells,hok.rows⟩;exact hfz
 have gt:tt=0:=by simpa using(show (tt != 0)=false from g)
 rw[if_pos gt];refine Di 0 (by kernel_rfl) ?_;refine A4 (As hA.z0) ?_
 iterate 2 refine A0 ?_
 refine A4 (As hA.e) ?_;refine D6 (fun S'=>Ca rfl rfl rfl rfl rfl rfl rfl rfl rfl (by decide) (Ap (l:=[a,b]) (i:=1) rfl)) ?_;refine A0 ?_;refine A4 (As hA.c.box) ?_
 iterate 1 refine A0 ?_
 refine A4 (Qk hpw (.cons (.same _ okP) (.cons (.same _ (inferInstance:OK 0 0 (nd b)).ok) (.cons (hA.c.cf.fz hok) (.cons (.same _ (.val _)) .nil)))) (Tx _)) ?_
 iterate 7 refine A0 ?_
 refine G0 ?_;refine Gn (fun g2=>?_) (fun g2=>?_)
 ·have gt2:¬tt2=0:=by simpa using(show (tt2 != 0)=true from g2)
  rw[if_neg gt2];have e1:Iy i t t2 (c,tt2,d2,true)={ c with trap:=tt2,edge:=(i:Int),acc:=d2 }:=by unfold Iy;rw[if_neg gt2,if_neg (by simp only;omega)]
  rw[e1];refine Aw hA.c.box ?_;refine Hl (Pt hA.c.cf (tt2) i (d2)) ?_;intro r W hP _ _;obtain⟨rfl,htW,mW,hmW⟩:=hP;have hW:=hA.more hmW;have hc2:cellsOf (.agg (En { c with trap:=tt2,edge:=(i:Int),acc:=d2 } V C))=some (En { c with trap:=tt2,edge:=(i:Int),acc:=d2 } V C):=by
   rcases hA.c.cf.shapes with⟨⟨v1,v2,rfl⟩|⟨v1,rfl⟩,⟨c1,c2,rfl⟩|⟨c1,rfl⟩⟩<;>rfl
  refine Ce 60 rfl ?_;refine Ct (xs:=En { c with trap:=tt2,edge:=(i:Int),acc:=d2 } V C) (cs':=En { c with trap:=tt2,edge:=(i:Int),acc:=d2 } V C) hW.z2 rfl ?_ (hc:=hc2);refine F3 (B:=⟨76,_,0,0⟩) func76 (h:=Em rfl rfl (Ez (Aa hW.z2)) rfl) 0 (Bt _) ?_ (fun rows hr=>by simp at hr) ⟨rfl,rfl⟩;have hcf:=hW.c.cf.chg (C6 W.boxes 2 [En { c with trap:=tt2,edge:=(i:Int),acc:=d2 } V C]) fun i hi hi2=>by simp at hi2;have:=hW.ge.2.2.2 i hi;omega
  obtain⟨V',C',ys,q1,q2,q3,q4,q5,q6,q7⟩:=hcf.ex;simp only[AV.agg.injEq,List.cons.injEq,and_true,true_and]at q1;obtain⟨rfl,rfl⟩:=q1;have hfz:=CfB.fz (S:=⟨W.boxes.set 2 [En { c with trap:=tt2,edge:=(i:Int),acc:=d2 } V C],W.toks⟩) (ids:=ids) (c:={ c with trap:=tt2,edge:=(i:Int),acc:=d2 }) ⟨V,C,ys,rfl,q2,q3,q4,q5,q6,q7⟩ ⟨hok.vars,hok.cells,hok.rows⟩;exact hfz
 have gt2:tt2=0:=by simpa using(show (tt2 != 0)=false from g2)
 rw[if_pos gt2];refine Aw hA.e ?_;refine L4 (Ako k v v2 h0 h1) ?_;refine Aw hA.e ?_;refine R5 ?_;refine Cv ?_;refine Aw hA.e ?_;refine Ej ?_;generalize Pl k v v2=hh;have hjl:=Aa hj;refine I6 (ι:=Nat×Eg) (fun q=>i≤q.1∧q.1≤j∧(Ia (A1 n))[q.1]?=some q.2∧(hh=y→q.1=i)) (fun q=>[(22,vb hh),(3,.ptr 0 0 0),(6,.ptr 2 0 0),(7,.ptr bc 0 0),(8,vi q.1),(9,.ptr le 0 0)]) (fun q=>⟨S.boxes.set le [Io q.2],S.toks⟩) (fun q=>j-q.1) ?_ (i,⟨(p:Int),t,4,y,.mk k [] 0 [a,b]⟩)
  ⟨Bt _,by omega,hi,fun _=>rfl⟩ ⟨rfl,rfl,rfl,rfl,rfl,rfl,trivial⟩ (by obtain⟨bx,tk⟩:=S;simp only[St.mk.injEq,and_true];obtain⟨_,e⟩:=zzq99.1 hA.e;rw[←e,List.set_getElem_self])
 intro q hq IH;obtain⟨m,em⟩:=q;obtain⟨q1,q2,q3,q4⟩:=hq;simp only at q1 q2 q3 q4;have hA1:=hA.setE em;refine Ce 60 rfl ?_;refine Aw hA1.e ?_;refine Aw hA1.c.box ?_;have hf0:∀e:Eg,e.f=(p:Int)→(e.f != c.pt)=false:=fun e he=>by rw[he,hp];simp
 rcases Nat.lt_trichotomy m i with h|h|h
 ·omega
 ·rw[h,hi]at q3;have hem:=Option.some.inj q3;refine R5 ?_ (ht:=hf0 em (by rw[←hem]));refine Aw hA1.e ?_;refine Gn (fun g3=>?_) (fun g3=>?_)
  ·have g3':¬hh=y:=fun h=>by rw[←hem]at g3;simp[h]at g3
   have hlt:m<j:=by omega
   obtain⟨em',hem'⟩:=Ab (Ia (A1 n)) (i:=m+1) (by omega);have hw1:IntKind.i64.wrap ((m:Int)+1)=((m+1:Nat):Int):=(Ac (by omega) (by omega)).trans (by omega);refine Aw hA1.z0 ?_;refine M1 (r:=Io em') (IntKind.i64.wrap ((m:Int)+1)) (by rw[hw1];omega) (by rw[hw1,I3];exact Ge hem') ?_;refine Ct hA1.e rfl ?_;refine IH (m+1,em') ⟨by simp only;omega,by simp only;omega,hem',fun h=>absurd h g3'⟩ (by simp only;omega) _ _ ⟨rfl,rfl,rfl,rfl,Ci hw1,rfl,trivial⟩ (by simp only[List.set_set];rfl)
  ·have g3':hh=y:=Axi (by rw[←hem]at g3;exact g3);have e1:Iy i t t2 (c,0,d2,hh==y)={ c with pt:=em.t }:=by rw[g3',←hem];simp[Iy]
   rw[e1];refine Aw hA1.e ?_;refine Ct hA1.c.box rfl ?_;have hc2:=hA1.c.upd (c':={ c with pt:=em.t }) rfl rfl;have hB:=hA1.chg hc2 ((C6 _ bc _).more fun i hi=>by simp at hi;simp[hi]);have hOK:CfOk { c with pt:=em.t }:=⟨hok.vars,hok.cells,hok.rows⟩
   refine Aw hB.c.box ?_;refine Ct (xs:=En ({ c with pt:=em.t }) (V) (C)) (cs':=En ({ c with pt:=em.t }) (V) (C)) hB.z2 rfl ?_ (hc:=F8 hB.c.cf);refine F3 (B:=⟨76,_,0,0⟩) func76 (h:=Em rfl rfl (Ez (Aa hB.z2)) rfl) 0 (Bt _) ?_ (fun rows hr=>by simp at hr) ⟨rfl,rfl⟩;exact(hB.c.cf.chg (C6 _ 2 _) fun i hi hi2=>by simp at hi2;have:=hB.ge.2.2.2 i hi;omega).fz hOK
 ·rcases Ga m j with hmj|hmj
  ·have hfm:=hm m h hmj em q3;refine Uh ?_ (ht:=by rw[hp];simpa using hfm);refine Ej ?_;have hlt:m<j:=hmj;obtain⟨em',hem'⟩:=Ab (Ia (A1 n)) (i:=m+1) (by omega);have hw1:IntKind.i64.wrap ((m:Int)+1)=((m+1:Nat):Int):=(Ac (by omega) (by omega)).trans (by omega);refine Aw hA1.z0 ?_;refine M1 (r:=Io em') (IntKind.i64.wrap ((m:Int)+1)) (by rw[hw1];omega) (by rw[hw1,I3];exact Ge hem') ?_;refine Ct hA1.e rfl ?_;refine IH (m+1,em') ⟨by simp only;omega,by simp only;omega,hem',fun h=>absurd h (by have:=q4 h;omega)⟩ (by simp only;omega) _ _ ⟨rfl,rfl,rfl,rfl,Ci hw1,rfl,trivial⟩ (by simp only[List.set_set];rfl)
  ·have hmj':m=j:=by omega
   subst hmj';rw[hj]at q3;have hem:=Option.some.inj q3;have hny:¬hh=y:=fun h2=>by have:=q4 h2;omega
   refine R5 ?_ (ht:=hf0 em (by rw[←hem]));refine Aw hA1.e ?_;refine Cv ?_ (ht:=by rw[←hem];exact A1v hny);have e1:Iy i t t2 (c,0,d2,hh==y)={ c with pt:=em.t }:=by rw[show (hh==y)=false by simpa using hny,←hem];simp[Iy]
   rw[e1];refine Aw hA1.e ?_;refine Ct hA1.c.box rfl ?_;have hc2:=hA1.c.upd (c':={ c with pt:=em.t }) rfl rfl;have hB:=hA1.chg hc2 ((C6 _ bc _).more fun i hi=>by simp at hi;simp[hi]);have hOK:CfOk { c with pt:=em.t }:=⟨hok.vars,hok.cells,hok.rows⟩
   refine Aw hB.c.box ?_;refine Ct (xs:=En ({ c with pt:=em.t }) (V) (C)) (cs':=En ({ c with pt:=em.t }) (V) (C)) hB.z2 rfl ?_ (hc:=F8 hB.c.cf);refine F3 (B:=⟨76,_,0,0⟩) func76 (h:=Em rfl rfl (Ez (Aa hB.z2)) rfl) 0 (Bt _) ?_ (fun rows hr=>by simp at hr) ⟨rfl,rfl⟩;exact(hB.c.cf.chg (C6 _ 2 _) fun i hi hi2=>by simp at hi2;have:=hB.ge.2.2.2 i hi;omega).fz hOK
end
theorem A5y{n:Nd}{S:St}{bc le:Nat}{V C:AV}{ids:List Nat}{c:Cf}(hr:H4 n=true)(hk:VOk n c)(hu:0≤c.used∧c.used≤100){inp:List Int}{p i:Nat}{e:Eg}{l:List Eg}(hp:c.pt=(p:Int))(hO:EdO (Ia (A1 n)) p i e l)(hA:SpS n S bc le V C ids c e) :
 SpA n S bc le inp i (Iy i e.t (l.headD e).t (Sq n inp c e.k e.y e.n)):=by
 have he:=hO.first.1;have hf:=hO.first.2.2.1;have hE:=(Aoh hr).2 e (Bn he);have hel:=(Aaf hr).2;cases hE with
 |set f t y s a h ha ka=>exact A50 hk hA h ha ka
 |put f t y s a b h ha ka hb kb=>exact A5z hk hA h ha ka hb kb
 |read f t y s h=>exact A3u hk hu hA h
 |guard f t y x hx kx=>cases hO with
  |one _ _ _ _ _ h4=>exact absurd rfl h4
  |two j e2 _ _ _ _ hl hij hj hm _ h2=>
   simp only at hf;subst hf;rw[h2]at hj;exact Az4 hk hA hx kx hp hel he hij hj hm
 |check f t y x hx kx=>exact Az3 hk hA hx kx
 |skip f t y x=>exact Avz (.inl rfl) hA hk.ok
 |stop f t y x=>exact Avz (.inr rfl) hA hk.ok
theorem Ar8{n:Nd}{inp:List Int}{c c1:Cf}{p i:Nat}{e:Eg}{l:List Eg}(g:Pu n c=false)(hp:c.pt=(p:Int))(hF:Fr p (Ia (A1 n))=e::l)(hix:fIx (Ia (A1 n)) p=i)(hcc:({ c with steps:=c.steps+1 }:Cf)=c1):N1 n inp c=Iy i e.t (l.headD e).t (Sq n inp c1 e.k e.y e.n):=by
 unfold N1 Iy;rw[if_neg (by simp[g]),show c.pt.toNat=p by rw[hp];rfl,hF,show fIx (Ia (A1 n)) c.pt=i by rw[hp];exact hix];simp only[hcc]
theorem A26{n:Nd}{c:Cf}{inp:List Int}(hr:H4 n=true)(hS:StK n c)(hin:inp.length≤100):Pure X 76 [.agg (Lw n),cf c,.sl (Fh inp) .no] (cf (N1 n inp c)):=by
 have hok:=hS.vok.ok;have hpts:=(Aaf hr).1;have hel:=(Aaf hr).2;have hokM:=(Ak3 hr hS hin).vok.ok;refine Pure.run func76 ?_;refine Oe (Ayw c hok) (.cons (.same _ (inferInstance:OK 0 0 (cf c)).ok) .nil) ?_;intro r bx hP;obtain⟨ids0,hC⟩:=hP;obtain⟨V0,C0,rfl⟩:=hC.parts;have hlt0:=hC.ltG;have hH:=hC.held (pre:=[[Lw n],[G3 c],[zCf]]);simp only[Gx,Qm]at hH;refine⟨.agg (En c (Gx 3 V0) (Gx 3 C0)),Lu 3 bx,(by have:=Od 3 (.agg (En c V0 C0));simpa[Gx,Qm]using this),Jw _ _,?_⟩;obtain⟨ids,hids⟩:∃ids,ids=ids0.map (·+3):=⟨_,rfl⟩
 have hH2:CfB SlB ([Lw n]::[G3 c]::[zCf]::Lu 3 bx) (.agg (En c (Gx 3 V0) (Gx 3 C0))) ids c:=by rw[hids];exact hH
 clear hH;generalize Gx 3 V0=V at hH2⊢;generalize Gx 3 C0=C at hH2⊢;obtain⟨T,hT⟩:∃T:St,T=⟨[Lw n]::[G3 c]::[zCf]::Lu 3 bx,[]⟩:=⟨_,rfl⟩
 refine Bl T ?_ hT.symm;have hTl:T.boxes.length=bx.length+3:=by rw[hT];simp[O0]
 have hcT:CfB SlB T.boxes (.agg (En c V C)) ids c:=by rw[hT];exact hH2
 have hid:∀i,i∈ids→3≤i∧i<T.boxes.length:=fun i hi=>by
  rw[hids]at hi;obtain⟨k,hk,rfl⟩:=zzq50.1 hi;have:=hlt0 k hk;omega
 refine M0 (b:=T.boxes.length) rfl rfl ?_;refine Ct (b:=T.boxes.length) (cs:=zCf) (xs:=En c V C) (cs':=En c V C) (by simp) rfl ?_ (hc:=F8 hcT);obtain⟨S,hSt⟩:∃S:St,S=⟨T.boxes++[[En c V C]],T.toks⟩:=⟨_,rfl⟩
 refine Bl S ?_ (by rw[hSt];exact congrArg (fun x=>St.mk x _) (by rw[Jb _ _ (Bt _),Iw];rfl));have hSl:S.boxes.length=T.boxes.length+1:=by rw[hSt];simp
 have gx:∀{i:Nat} {y:A7},T.boxes[i]?=some y→S.boxes[i]?=some y:=fun{i y} h=>by rw[hSt,Dd (Aa h)];exact h
 have z0:S.boxes[0]?=some [Lw n]:=gx (by rw[hT];rfl);have z2:S.boxes[2]?=some [zCf]:=gx (by rw[hT];rfl);have hc:CfS S T.boxes.length V C ids c:=⟨by rw[hSt];simp,by rw[hSt];exact hcT.more,fun h=>by have:=hid _ h;omega⟩
 have hw:IntKind.i64.wrap ((((D9 (A1 n)).pts:Nat):Int)-1)=(((D9 (A1 n)).pts:Nat):Int)-1:=Ac (by omega) (by omega);refine Aw hc.box ?_;by_cases q1:c.trap=0
 case neg=>
  refine Uh ?_ (ht:=by simpa using q1);refine Uh ?_;refine Ej ?_;refine Aw hc.box ?_;refine Ct (xs:=En c V C) (cs':=En c V C) z2 rfl ?_ (hc:=F8 hc.cf);rw[show N1 n inp c=c by unfold N1;rw[if_pos (by unfold Pu;simp[q1])]];refine F3 (B:=⟨76,_,0,0⟩) func76 (h:=Em rfl rfl (Ez (Aa z2)) rfl) 0 (Bt _) ?_ (fun rows hr=>by simp at hr) ⟨rfl,rfl⟩;exact(hc.cf.chg (C6 _ 2 _) fun i hi hi2=>by simp at hi2;have:=hid i hi;omega).fz hok
 refine R5 ?_ (ht:=by simpa using q1);refine Aw hc.box ?_;refine Aw z0 ?_;by_cases q2:c.pt=(((D9 (A1 n)).pts:Nat):Int)-1
 ·refine Uh ?_ (ht:=by rw[hw];simpa using q2);refine Ej ?_;refine Aw hc.box ?_;refine Ct (xs:=En c V C) (cs':=En c V C) z2 rfl ?_ (hc:=F8 hc.cf);rw[show N1 n inp c=c by unfold N1;rw[if_pos (by unfold Pu;simp[q2])]];refine F3 (B:=⟨76,_,0,0⟩) func76 (h:=Em rfl rfl (Ez (Aa z2)) rfl) 0 (Bt _) ?_ (fun rows hr=>by simp at hr) ⟨rfl,rfl⟩;exact(hc.cf.chg (C6 _ 2 _) fun i hi hi2=>by simp at hi2;have:=hid i hi;omega).fz hok
 refine R5 ?_ (ht:=by rw[hw];simpa using q2);refine Aw hc.box ?_;by_cases q3:c.steps=5000
 ·refine Ej ?_ (ht:=by simpa using q3);refine Aw hc.box ?_;refine Ct (xs:=En c V C) (cs':=En c V C) z2 rfl ?_ (hc:=F8 hc.cf);rw[show N1 n inp c=c by unfold N1;rw[if_pos (by unfold Pu;simp[q3])]];refine F3 (B:=⟨76,_,0,0⟩) func76 (h:=Em rfl rfl (Ez (Aa z2)) rfl) 0 (Bt _) ?_ (fun rows hr=>by simp at hr) ⟨rfl,rfl⟩;exact(hc.cf.chg (C6 _ 2 _) fun i hi hi2=>by simp at hi2;have:=hid i hi;omega).fz hok
 refine Cv ?_ (ht:=by simpa using q3);have hg:Pu n c=false:=by unfold Pu;simp[q1,q2,q3]
 have hpt:=hS.pt;have hsp:=hS.steps;obtain⟨p,hp⟩:∃p:Nat,c.pt=p:=⟨c.pt.toNat,by omega⟩
 obtain⟨i,e,l,hF,hO⟩:=Afp hr (p:=p) (by omega);obtain⟨he,hbe,hef,hix,_⟩:=hO.first;have hw1:IntKind.i64.wrap (c.steps+1)=c.steps+1:=Ac (by omega) (by omega);obtain⟨c1,hc1⟩:∃c1:Cf,c1={ c with steps:=IntKind.i64.wrap (c.steps+1) }:=⟨_,rfl⟩
 have hk1:VOk n c1:=by rw[hc1];exact⟨hS.vok.kl,hS.vok.vars,hS.vok.cells,hS.vok.rows⟩
 have hcc:({ c with steps:=c.steps+1 }:Cf)=c1:=by rw[hc1,hw1]
 have hM:=Ar8 (inp:=inp) hg hp hF hix hcc;rw[hM];have hil:=Aa he;refine I6 (ι:=Nat) (fun m=>m≤i) (fun m=>[(8,vi m),(2,.sl (Fh inp) .no),(3,.ptr 0 0 0),(6,.ptr 2 0 0),(7,.ptr T.boxes.length 0 0)]) (fun _=>S) (fun m=>i-m) ?_ 0 (Cb _) ⟨rfl,rfl,rfl,rfl,rfl,trivial⟩ rfl;intro m hm IH;obtain⟨em,hem⟩:=Ab (Ia (A1 n)) (i:=m) (by omega);refine Ce 60 rfl ?_;refine Di 0 (by kernel_rfl) ?_
 iterate 2 refine A0 ?_
 refine A4 (As z0) ?_;refine A0 ?_;refine D6 (fun S'=>Ca rfl rfl rfl rfl rfl rfl rfl rfl rfl (by omega) (Ge hem)) ?_
 iterate 3 refine A0 ?_
 refine A4 (As hc.box) ?_;refine A0 ?_;refine G0 ?_;rcases Ga m i with hmi|hmi
 ·have:=hbe m hmi em hem;refine Ej ?_ (ht:=by rw[hp];simpa using this);exact IH (m+1) (by omega) (by omega) _ _ ⟨vsx (by omega),rfl,rfl,rfl,rfl,trivial⟩ rfl
 ·have hmi':m=i:=by omega
  subst hmi';rw[he]at hem;cases hem;refine Cv ?_ (ht:=by rw[hp,hef];simp);refine Aw z0 ?_;refine M1 m (by omega) (by rw[I3];exact Ge he) ?_;refine M0 (b:=S.boxes.length) rfl rfl ?_;refine Ct (b:=S.boxes.length) (cs:=zEg) (by simp) rfl ?_;obtain⟨U,hU⟩:∃U:St,U=⟨S.boxes++[[Io e]],S.toks⟩:=⟨_,rfl⟩
  refine Bl U ?_ (by rw[hU];exact congrArg (fun x=>St.mk x _) (by rw[Jb _ _ (Bt _),Iw];rfl));have hcU:CfS U T.boxes.length V C ids c:=hc.more (by rw[hU]);refine Aw hcU.box ?_;refine Hg (Ji (r:=0) hcU.box rfl rfl) rfl rfl ?_;refine K9 9 100 rfl ?_;have hup:=hcU.upd (c':=c1) (by rw[hc1]) (by rw[hc1]);rw[hc1]at hup;have hA:SpS n ⟨U.boxes.set T.boxes.length [En { c with steps:=IntKind.i64.wrap (c.steps+1) } V C],U.toks⟩ T.boxes.length S.boxes.length V C ids c1 e:=by
   rw[hc1];have gU:∀{i:Nat} {y:A7},i≠T.boxes.length→S.boxes[i]?=some y→(U.boxes.set T.boxes.length [En { c with steps:=IntKind.i64.wrap (c.steps+1) } V C])[i]?=some y:=fun{i y} hi h=>by rw[Fi (Ne.symm hi),hU,Dd (Aa h)];exact h
   exact⟨gU (by omega) z0,gU (by omega) z2,hup,by rw[Fi (by omega),hU];simp,by omega,by omega,by omega,fun i hi=>by have:=hid i hi;omega⟩
  exact Qj (G:=[(2,.sl (Fh inp) .no),(3,.ptr 0 0 0),(6,.ptr 2 0 0),(7,.ptr T.boxes.length 0 0),(8,vi m),(9,.ptr S.boxes.length 0 0)]) ⟨rfl,rfl,rfl,rfl,rfl,rfl,trivial⟩ (A5y hr hk1 (by rw[hc1];exact hS.used) (by rw[hc1];exact hp) hO hA)
def Ab8(inp:List Int):Bool:=decide ((inp.length:Int)≤100)&&inp.all Mv
theorem A5u(x:Int):Pure X 134 [vi x] (vb (!Mv x)):=by
 refine Pure.run func134 ?_;refine Aj (Acr x) ?_;exact Ao func134 rfl
theorem Azh(l:List (Int))(hl:l.length≤1000000000)  : Pure X 185 [.sl (Fh l) .no,.fn 134 []] (vi (M7 (fun x=>!Mv x) 0 l)):=by
 have hlen:(Fh l).length=l.length:=by simp[Fh]
 refine Pure.run func185 ?_;refine Ar (ι:=Nat) 0 0 (fun i=>i≤l.length∧M7 (fun x=>!Mv x) 0 l=M7 (fun x=>!Mv x) i (l.drop i)) (fun i=>[(8,vi i),(7,vi l.length),(0,.sl (Fh l) .no),(1,.fn 134 [])]) (fun _=>⟨[],[]⟩) (fun i=>l.length-i) ?_ 0 ⟨Cb _,rfl⟩
  ⟨rfl,by rw[←hlen];rfl,rfl,rfl,trivial⟩
 intro i hi IH;refine Cp (fun h=>?_) (fun h=>?_)
 ·have hlt:i<l.length:=by have:=A6 h;omega
  obtain⟨x,hx⟩:=Ab l hlt;have hd:M7 (fun x=>!Mv x) i (l.drop i)=if ((fun x=>!Mv x)) x then(i:Int)else M7 (fun x=>!Mv x) (i+1) (l.drop (i+1)):=by rw[Bp hx];rfl
  refine Bv i (by omega) (Dl (f:=Lq) hx) ?_;refine Aj (A5u x) ?_;refine Ai (fun h2=>?_) (fun h2=>?_)
  ·refine Az func185 ?_;have h3:((fun x=>!Mv x)) x=true:=h2;rw[hi.2,hd,h3];rfl
  ·have h3:((fun x=>!Mv x)) x=false:=h2;exact IH (i+1) ⟨hlt,by rw[hi.2,hd,h3];rfl⟩ (by omega) _ _ ⟨vsx (by omega),rfl,rfl,rfl,trivial⟩ rfl rfl rfl
 ·have:i=l.length:=by have:=Bd h;omega
  refine Az func185 ?_;rw[hi.2,this,Hr];rfl
theorem Azd(l:List Int)(hl:l.length≤1000000000):Pure X 130 [.sl (Fh l) .no,.fn 134 []] (vb (!(l.all Mv))):=by
 have e:(!(l.all Mv))=l.any fun x=>!Mv x:=List.not_all_eq_any_not;rw[e];refine Pure.run func130 ?_;refine Aj (Azh l hl) ?_;refine Az func130 ?_;rw[←U5 _ l 0];rfl
theorem Ana(l:List Int)(hl:l.length≤1000000000):Pure X 79 [.sl (Fh l) .no] (vb (Ab8 l)):=by
 have hlen:=Fb l;refine Pure.run func79 ?_;unfold Ab8;rw[←hlen];cases h:decide (((Fh l).length:Int)≤100)with
 |false=>
  refine Gm ?_;exact Ao func79 rfl
 |true=>
  refine Ep ?_;refine Aj (Azd l hl) ?_;refine Ao func79 ?_;simp
theorem Auw(l:List Int)(hl:l.length≤1000000000):Pure X 75 [.sl (Fh l) .no] (vb (Ab8 l)):=by
 have hlen:=Fb l;refine Pure.run func75 ?_;refine Ai (fun g=>?_) (fun g=>?_)
 ·have h:Ab8 l=false:=by unfold Ab8;have:=A6 g;rw[hlen]at this;rw[Ks (by omega)];rfl
  rw[h];exact Ao func75 rfl
 have hle:(l.length:Int)≤100:=by have:=Bd g;rw[hlen]at this;omega
 have h0:Ab8 l=l.all Mv:=by unfold Ab8;rw[Ry hle];rfl
 rw[h0];refine Ar (ι:=Nat) 0 0 (fun i=>i≤l.length∧l.all Mv=(l.drop i).all Mv) (fun i=>[(3,vi i),(0,.sl (Fh l) .no)]) (fun _=>⟨[],[]⟩) (fun i=>l.length-i) ?_ 0 ⟨Cb _,rfl⟩ ⟨rfl,rfl,trivial⟩;intro i hi IH;refine Cp (fun h=>?_) (fun h=>?_)
 ·have hlt:i<l.length:=by have:=A6 h;rw[hlen]at this;omega
  obtain⟨x,hx⟩:=Ab l hlt;have hd:=Axs hx;refine Bv i (by omega) (Nr hx) ?_;refine Aj (Apg x) ?_;refine Ai (fun g2=>?_) (fun g2=>?_)
  ·have g3:Mv x=false:=by simpa using g2
   rw[hi.2,hd,T7,g3];exact Ao func75 rfl
  ·have g3:Mv x=true:=by simpa using g2
   exact IH (i+1) ⟨hlt,by rw[hi.2,hd,T7,g3,N5]⟩ (by omega) _ _ ⟨vsx (by omega),rfl,trivial⟩ rfl rfl rfl
 ·have:i=l.length:=by have:=Bd h;rw[hlen]at this;omega
  rw[hi.2,this,Hr];exact Ao func75 rfl
def Wx(f:Nat→Bool):Nat→Nat
 |0=>0
 |n+1=>Wx f n+(match f n with|true=>0|false=>1)
theorem Ajq{f:Nat→Bool}:∀{n:Nat},(∀j,j<n→f j=true)→Wx f n=0
 |0,_=>rfl
 |n+1,h=>by rw[Wx,Ajq fun j hj=>h j (by omega),h n (by omega)];rfl
theorem Ajr{f g:Nat→Bool}:∀{n:Nat},(∀j,j<n→f j=g j)→Wx f n=Wx g n
 |0,_=>rfl
 |n+1,h=>by rw[Wx,Wx,Ajr fun j hj=>h j (by omega),h n (by omega)]
theorem Ajs{f:Nat→Bool}{i:Nat}(hi:f i=false):∀{n:Nat},i<n→Wx (fun j=>if i=j then true else f j) n+1=Wx f n
 |0,h=>by omega
 |n+1,h=>by
  by_cases hin:i=n
  ·subst hin;rw[Wx,Wx,Ajr (f:=fun j=>if i=j then true else f j) (g:=f) fun j hj=>if_neg (by omega),if_pos rfl,hi];rfl
  ·rw[Wx,Wx,if_neg hin];have:=Ajs hi (n:=n) (by omega);omega
theorem Aoe:∀n:Nat,Wx (fun _=>false) n=n
 |0=>rfl
 |n+1=>by rw[Wx,Aoe n]
theorem OrdP.len{bp:Nat→Nat→Bool}{n:Nat}:∀{l:List Nat}{f:Nat→Bool},OrdP bp n l f→l.length=Wx f n
 |[],f,h=>by rw[Ajq h];rfl
 |i::l,f,⟨h1,h2,_,h4⟩=>by rw[←Ajs h2 h1,←OrdP.len h4];rfl
def Ad3(bp:Nat→Nat→Bool)(n:Nat):Nat→(Nat→Bool)→List (List Nat)
 |0,_=>[[]]
 |k+1,f=>(List.range n).flatMap fun i=>match !f i&&(List.range n).all (fun e=>!bp e i||f e)with
  |true=>(Ad3 bp n k (fun j=>if i=j then true else f j)).map (i::·)
  |false=>[]
theorem Ajl{bp:Nat→Nat→Bool}{n:Nat}:∀{l:List Nat}{f:Nat→Bool},OrdP bp n l f→l∈Ad3 bp n l.length f
 |[],f,h=>by simp[Ad3]
 |i::l,f,⟨h1,h2,h3,h4⟩=>by
  simp only[N6,Ad3];refine zzq100.2 ⟨i,zzq33.2 h1,?_⟩;have:(!f i&&(List.range n).all (fun e=>!bp e i||f e))=true:=by
   rw[h2];simp only[Bool.not_false,N5,zzq32,zzq33];intro e he;cases hb:bp e i with
   |false=>rfl
   |true=>rw[h3 e he hb];rfl
  rw[this];exact zzq50.2 ⟨l,Ajl h4,rfl⟩
def AllL{α:Type}(P:α→Prop):List α→Prop
 |[]=>True
 |a::l=>P a∧AllL P l
theorem AllL.at{α:Type}{P:α→Prop}:∀{l:List α},AllL P l→∀{a:α},a∈l→P a
 |x::l,⟨h1,h2⟩,a,h=>by
  rcases zzq8.1 h with rfl|h
  ·exact h1
  ·exact AllL.at h2 h
section
variable {X:Cx}{B:Bx}{S:St}{F:Cw}{R:AE→St→Prop}
theorem Afa{id:Nat}{ops:Array Oper}{k:List Item}(L:List (List Nat))(h:AllL (fun l=>AK X B (.inRegion ops l::k) F S R) L)(hL:Ad3 (bitOf (Ha ops.toList [])) ops.size ops.size (fun _=>false)=L:=by kernel_rfl)(hb:Uq ops (Ha ops.toList [])=true:=by kernel_rfl) :
 AK X B (.code (.region id ops true)::k) F S R:=by
 intro E w a b cs hI hF hn hm hbf;obtain⟨l,hord,hst⟩:=V8 (X:=X) (id:=id) hb k a b cs w;have hlen:=OrdP.len hord;rw[Aoe]at hlen;have hmem:=Ajl hord;rw[hlen,hL]at hmem;have ev:=He E w B.n B.m;exact Fin.from hst ev (h.at hmem E { w with drawn:=w.drawn+1 } a b cs (hI.keep (He E w _ _) (fun _ _=>rfl)) (hF.step (He E w _ _)) hn hm hbf)
end
theorem Ars(l:List (Int))(hl:l.length≤1000000000):Gives X 135 [.sl (Fh l) .no] (fun r bx=>SlG bx r (Fh l)):=by
 have hu:X.P.underlying 37=some (.slice 3):=by kernel_rfl
 have hlen:(Fh l).length=l.length:=by simp[Fh]
 refine Gives.run func135 ?_;refine Aca hu (fun c hc=>?_);by_cases hne:l=[]
 ·subst hne;refine Cp (fun h=>?_) (fun h=>?_)
  ·exact Bf func135 (h:=rfl) ⟨_,rfl,.inr ⟨rfl,rfl,rfl⟩⟩
  ·refine Hg Um rfl rfl ?_;refine Ba 100 rfl ?_;exact Bf func135 (h:=rfl) ⟨_,rfl,.inr ⟨rfl,rfl,rfl⟩⟩
 ·have hne2:Fh l≠[]:=by simpa[Fh]using hne
  have:=hc hne2;subst this;refine Ba 100 rfl ?_;refine Ah ?_;refine Qs (new:=Fh l) (fun cc=>?_) ?_ ?_ hne2 (by omega)
  ·refine Ba 100 rfl ?_;refine Bf func135 (h:=rfl) ⟨_,rfl,?_⟩;exact .inl ⟨0,List.replicate cc [vi 0],rfl,rfl⟩
  ·exact fun r hr=>by obtain⟨z,_,rfl⟩:=zzq50.1 hr;rfl
  ·exact fun r hr x hx=>by
    obtain⟨z,_,rfl⟩:=zzq50.1 hr;simp at hx
    (subst hx;rfl)
theorem Agc(l:List (Bool×Int))(hl:l.length≤1000000000):Gives X 136 [.sl (G5 l) .no] (fun r bx=>SlG bx r (G5 l)):=by
 have hu:X.P.underlying 137=some (.slice 185):=by kernel_rfl
 have hlen:(G5 l).length=l.length:=by simp[G5]
 refine Gives.run func136 ?_;refine Aca hu (fun c hc=>?_);by_cases hne:l=[]
 ·subst hne;refine Cp (fun h=>?_) (fun h=>?_)
  ·exact Bf func136 (h:=rfl) ⟨_,rfl,.inr ⟨rfl,rfl,rfl⟩⟩
  ·refine Hg Um rfl rfl ?_;refine Ba 100 rfl ?_;exact Bf func136 (h:=rfl) ⟨_,rfl,.inr ⟨rfl,rfl,rfl⟩⟩
 ·have hne2:G5 l≠[]:=by simpa[G5]using hne
  have:=hc hne2;subst this;refine Ba 100 rfl ?_;refine Ah ?_;refine Qs (new:=G5 l) (fun cc=>?_) ?_ ?_ hne2 (by omega)
  ·refine Ba 100 rfl ?_;refine Bf func136 (h:=rfl) ⟨_,rfl,?_⟩;exact .inl ⟨0,List.replicate cc [vb false,vi 0],rfl,rfl⟩
  ·exact fun r hr=>by obtain⟨z,_,rfl⟩:=zzq50.1 hr;rfl
  ·exact fun r hr x hx=>by
    obtain⟨z,_,rfl⟩:=zzq50.1 hr;simp at hx
    (rcases hx with rfl|rfl<;>rfl)
theorem Afk{bx:B3}{r:AV}{rows:A7}(h:SlG bx r rows)(d:Nat):∀b,b∈Ik (Gx d r)→d≤b:=fun b hb=>by
 rw[Ze]at hb;obtain⟨z,_,rfl⟩:=zzq50.1 hb;omega
structure ClI (c:Cf)(V:AV)(r:List (List (List AV)))(ys:List AV):Prop where
 cc:∀a b,CcI c.cells ⟨a::b::r,[]⟩ ys
 v:∀a b,SlB (a::b::r) V (Fh c.vars)
 vn:(Ik V).Nodup
 vt:∀b,b∈Ik V→2≤b
 far:∀b,b∈ys.flatMap Ik→2≤b∧b∉Ik V
theorem ClI.snoc{c:Cf}{V:AV}{r bx:B3}{ys:An}{y:AV}{l:List (Bool×Int)}(h:ClI c V r ys)(hl:c.cells[ys.length]?=some l)(hy:SlG bx y (G5 l)):ClI c V (r++Lu (r.length+2) bx) (ys++[Gx (r.length+2) y]):=by
 have hge:=Afk hy (r.length+2);have hB:∀a b,SlB (a::b::(r++Lu (r.length+2) bx)) (Gx (r.length+2) y) (G5 l):=fun a b=>by
  have:=hy.held (pre:=a::b::r);rw[Je]at this;exact this
 have hsh:=(hB [] []).shape;have hnd:(Ik (Gx (r.length+2) y)).Nodup:=by rcases hsh with⟨b,n,h⟩|⟨sp,h⟩<;>rw[h]<;>simp[Ik]
 have hnt:NoT (Gx (r.length+2) y):=by
  rcases(hB [] [])with⟨b,ex,h,_⟩|⟨_,sp,h⟩
  ·rw[h];exact .bsl _ _
  ·rcases hsh with⟨b,n,h'⟩|⟨sp',h'⟩
   ·rw[h']at h;cases h
   ·have h0:Gx (r.length+2) y=.sl [] .no:=by
     rcases hy with⟨b,ex,rfl,_⟩|⟨_,h1,_⟩
     ·simp only[Gx]at h';cases h'
     ·exact Apt h1
    rw[h0];exact .sl _ _ (fun r h=>by cases h) fun t h=>by cases h
 refine⟨fun a b=>(h.cc a b).snoc hl rfl (hB a b) hnd (fun b' hb=>by have:=hge b' hb;simp;omega) hnt,fun a b=>(h.v a b).more,h.vn,h.vt,fun b hb=>?_⟩;rw[Aep]at hb;rcases zzq26.1 hb with hb|hb
 ·exact h.far b hb
 ·have:=hge b (by simpa using hb);exact⟨by omega,fun hv=>by have:=(h.v [] []).lt b hv;simp at this;omega⟩
theorem ClI.give{c:Cf}{V C:AV}{r m:B3}{ys:An}(h:ClI c V r ys)(hl:ys.length=c.cells.length)(hC:(ys=[]∧Gx 0 C=.sl [] .no∧Ik C=[])∨∃ex,C=.bsl (r.length+2) ys.length∧m=[ys.map (fun y=>[y])++ex])(a b:A7):CfB SlG (a::b::(r++m)) (.agg (En c V C)) (Ik V++(Ik C++ys.flatMap Ik)) c:=by
 obtain⟨zs,g1,g2,g3,g4,g5⟩:=(h.cc a b).give (r:=C) (m:=m) hl hC;have:=(h.cc a b).give (r:=C) (m:=m) hl hC;have hsl:SlG (a::b::(r++m)) C (ys.map fun y=>[y]):=by
  rcases hC with⟨rfl,h1,h2⟩|⟨ex,rfl,rfl⟩
  ·exact .inr ⟨rfl,h1,h2⟩
  ·exact .inl ⟨r.length+2,ex,by simp,by simp⟩
 refine⟨V,C,ys,rfl,rfl,?_,(h.v a b).more.given,hsl,hl,fun j y l hy hl=>((h.cc a b).rows j y l hy hl).more.given⟩;refine zzq101.2 ⟨h.vn,zzq101.2 ⟨?_,(h.cc a b).nd,fun x hx y hy=>?_⟩,fun x hx y hy hxy=>?_⟩
 ·rcases hC with⟨_,_,h2⟩|⟨ex,rfl,rfl⟩
  ·rw[h2];exact .nil
  ·simp[Ik]
 ·rcases hC with⟨_,_,h2⟩|⟨ex,rfl,rfl⟩
  ·rw[h2]at hx;cases hx
  ·simp[Ik]at hx;subst hx;have:=(h.cc [] []).lt y hy;simp at this;omega
 ·subst hxy;rcases zzq26.1 hy with hy|hy
  ·rcases hC with⟨_,_,h2⟩|⟨ex,rfl,rfl⟩
   ·rw[h2]at hy;cases hy
   ·simp[Ik]at hy;subst hy;have:=(h.v [] []).lt _ hx;simp at this
  ·exact(h.far _ hy).2 hx
theorem Arr(c:Cf)(hc:CfOk c):Gives X 80 [cf c] (fun r bx=>∃ids,CfB SlG bx r ids c):=by
 have hlen:=Mi c.cells;have hcl:=hc.cells;refine Gives.run func80 ?_;refine Oe (Ars c.vars hc.vars) (.cons (.same _ (inferInstance:OK 0 0 (.sl (Fh c.vars) .no)).ok) .nil) ?_;intro r bx hP;have hV:∀a b,SlB (a::b::Lu 2 bx) (Gx 2 r) (Fh c.vars):=fun a b=>by
  have:=hP.held (pre:=[a,b]);rw[Qb]at this;exact this
 refine⟨Gx 2 r,Lu 2 bx,Od _ _,Jw _ _,?_⟩;have hI:ClI c (Gx 2 r) (Lu 2 bx) []:=⟨fun a b=>CcI.nil _ _,hV,by rcases(hV [] []).shape with⟨b,n,h⟩|⟨sp,h⟩<;>rw[h]<;>simp[Ik],Afk hP 2,fun b h=>by simp at h⟩
 generalize Gx 2 r=V at hI⊢;generalize Lu 2 bx=rs at hI⊢;rcases(hI.v [] []).shape with⟨b,n,rfl⟩|⟨sp,rfl⟩
 ·skip
  refine Ba 100 rfl ?_;refine Ui 0 0 2 ?_;refine I6 (ι:=B3×An) (fun i=>ClI c (.bsl b n) i.1 i.2) (fun i=>[(15,vi i.2.length),(14,vi c.cells.length),(13,.sl (H9 c.cells) .no),(1,.ptr 0 0 0),(2,.ptr 1 0 0)])
   (fun i=>⟨[[vi c.pt,.bsl b n,.psl (i.2.map fun y=>[y]) 0 i.2.length,vi c.used,vi c.steps,vi c.trap,vi c.edge,vi c.acc]]::[zCf]::i.1,[i.2.length]⟩) (fun i=>c.cells.length-i.2.length) ?_ (rs,[]) hI ⟨rfl,by rw[←hlen];rfl,rfl,rfl,rfl,trivial⟩ rfl
  intro i hi IH;obtain⟨r1,ys⟩:=i;simp only at hi;have hle:=(hi.cc [] []).len;refine Ce 60 rfl ?_;refine Gn (fun g=>?_) (fun g=>?_)
  ·have hlt:ys.length<c.cells.length:=by have:=A6 g;simp only at this;omega
   obtain⟨l,hl⟩:=Ab c.cells hlt;have hll:=hc.rows l (Bn hl);refine Bv ys.length (by omega) (Dl (f:=Oa) hl) ?_;refine Afa [[0,1,2,3,4,5,6,7],[0,2,1,3,4,5,6,7],[0,2,3,1,4,5,6,7],[0,2,3,4,1,5,6,7],[2,0,1,3,4,5,6,7],[2,0,3,1,4,5,6,7],[2,0,3,4,1,5,6,7],[2,3,0,1,4,5,6,7],[2,3,0,4,1,5,6,7],[2,3,4,0,1,5,6,7]] ?_;refine⟨?_,?_,?_,?_,?_,?_,?_,?_,?_,?_,trivial⟩ <;>
   ·refine Ba 100 rfl ?_;refine Oe (Agc l hll) (.cons (.same _ (inferInstance:OK 0 0 (.sl (G5 l) .no)).ok) .nil) ?_;intro r bx hP;refine⟨Gx (r1.length+2) r,Lu (r1.length+2) bx,Od _ _,Jw _ _,?_⟩;have hN:=hi.snoc hl hP;have hsh:SlB ([]::[]::(r1++Lu (r1.length+2) bx)) (Gx (r1.length+2) r) (G5 l):=by
     have:=hP.held (pre:=[]::[]::r1);rw[Je]at this;exact this
    have hnt:=(hN.cc [] []).not (Gx (r1.length+2) r) (by simp);replace hsh:=hsh.shape;generalize Gx (r1.length+2) r=Y at *;generalize Lu (r1.length+2) bx=more at *;rcases hsh with⟨b,n,rfl⟩|⟨sp,rfl⟩ <;>
    ·refine Ba 100 rfl ?_;refine Hg (Pe (ver:=ys.length) (res:=(ys++[_]).map fun y=>[y]) rfl (fun r hr=>by obtain⟨y,_,rfl⟩:=zzq50.1 hr;rfl) (fun r hr x hx=>by simp at hr;subst hr;simp at hx;subst hx;exact hnt) (by simp;omega) (by rw[Jp];rfl) rfl rfl rfl rfl rfl rfl rfl rfl rfl rfl rfl rfl rfl rfl rfl rfl rfl) rfl rfl ?_;refine Ba 100 rfl ?_;refine IH (_,ys++[_]) hN (by simp;omega) _ _ ⟨Ci ?_,rfl,rfl,rfl,rfl,trivial⟩ (by simp);rw[Ac (by simp only;omega) (by simp only;omega)];simp
  ·have he:ys.length=c.cells.length:=by have:=Bd g;simp only at this;omega
   by_cases hne:ys=[]
   ·subst hne;have hg:=fun a b=>ClI.give (C:=.psl [] 0 0) (m:=[]) hi he (.inl ⟨rfl,rfl,rfl⟩) a b;rw[I4]at hg;refine Ba 100 rfl ?_;exact Bf func80 (h:=rfl) ⟨_,rfl,_,hg _ _⟩
   ·refine An1 0 0 2 (rows:=ys.map fun y=>[y]) (m:=r1.length+2) (n:=ys.length) (by simpa using hne) (fun k z=>?_) (hn:=by simp);have hg:=fun a b=>ClI.give (C:=.bsl (r1.length+2) ys.length) (m:=[ys.map (fun y=>[y])++Zo k z]) hi he (.inr ⟨_,rfl,rfl⟩) a b;refine Ba 100 rfl ?_;exact Bf func80 (h:=rfl) ⟨_,rfl,_,hg _ _⟩
 ·skip
  refine Ba 100 rfl ?_;refine Ui 0 0 2 ?_;refine I6 (ι:=B3×An) (fun i=>ClI c (.sl [] sp) i.1 i.2) (fun i=>[(15,vi i.2.length),(14,vi c.cells.length),(13,.sl (H9 c.cells) .no),(1,.ptr 0 0 0),(2,.ptr 1 0 0)])
   (fun i=>⟨[[vi c.pt,.sl [] sp,.psl (i.2.map fun y=>[y]) 0 i.2.length,vi c.used,vi c.steps,vi c.trap,vi c.edge,vi c.acc]]::[zCf]::i.1,[i.2.length]⟩) (fun i=>c.cells.length-i.2.length) ?_ (rs,[]) hI ⟨rfl,by rw[←hlen];rfl,rfl,rfl,rfl,trivial⟩ rfl
  intro i hi IH;obtain⟨r1,ys⟩:=i;simp only at hi;have hle:=(hi.cc [] []).len;refine Ce 60 rfl ?_;refine Gn (fun g=>?_) (fun g=>?_)
  ·have hlt:ys.length<c.cells.length:=by have:=A6 g;simp only at this;omega
   obtain⟨l,hl⟩:=Ab c.cells hlt;have hll:=hc.rows l (Bn hl);refine Bv ys.length (by omega) (Dl (f:=Oa) hl) ?_;refine Afa [[0,1,2,3,4,5,6,7],[0,2,1,3,4,5,6,7],[0,2,3,1,4,5,6,7],[0,2,3,4,1,5,6,7],[2,0,1,3,4,5,6,7],[2,0,3,1,4,5,6,7],[2,0,3,4,1,5,6,7],[2,3,0,1,4,5,6,7],[2,3,0,4,1,5,6,7],[2,3,4,0,1,5,6,7]] ?_;refine⟨?_,?_,?_,?_,?_,?_,?_,?_,?_,?_,trivial⟩ <;>
   ·refine Ba 100 rfl ?_;refine Oe (Agc l hll) (.cons (.same _ (inferInstance:OK 0 0 (.sl (G5 l) .no)).ok) .nil) ?_;intro r bx hP;refine⟨Gx (r1.length+2) r,Lu (r1.length+2) bx,Od _ _,Jw _ _,?_⟩;have hN:=hi.snoc hl hP;have hsh:SlB ([]::[]::(r1++Lu (r1.length+2) bx)) (Gx (r1.length+2) r) (G5 l):=by
     have:=hP.held (pre:=[]::[]::r1);rw[Je]at this;exact this
    have hnt:=(hN.cc [] []).not (Gx (r1.length+2) r) (by simp);replace hsh:=hsh.shape;generalize Gx (r1.length+2) r=Y at *;generalize Lu (r1.length+2) bx=more at *;rcases hsh with⟨b,n,rfl⟩|⟨sp,rfl⟩ <;>
    ·refine Ba 100 rfl ?_;refine Hg (Pe (ver:=ys.length) (res:=(ys++[_]).map fun y=>[y]) rfl (fun r hr=>by obtain⟨y,_,rfl⟩:=zzq50.1 hr;rfl) (fun r hr x hx=>by simp at hr;subst hr;simp at hx;subst hx;exact hnt) (by simp;omega) (by rw[Jp];rfl) rfl rfl rfl rfl rfl rfl rfl rfl rfl rfl rfl rfl rfl rfl rfl rfl rfl) rfl rfl ?_;refine Ba 100 rfl ?_;refine IH (_,ys++[_]) hN (by simp;omega) _ _ ⟨Ci ?_,rfl,rfl,rfl,rfl,trivial⟩ (by simp);rw[Ac (by simp only;omega) (by simp only;omega)];simp
  ·have he:ys.length=c.cells.length:=by have:=Bd g;simp only at this;omega
   by_cases hne:ys=[]
   ·subst hne;have hg:=fun a b=>ClI.give (C:=.psl [] 0 0) (m:=[]) hi he (.inl ⟨rfl,rfl,rfl⟩) a b;rw[I4]at hg;refine Ba 100 rfl ?_;exact Bf func80 (h:=rfl) ⟨_,rfl,_,hg _ _⟩
   ·refine An1 0 0 2 (rows:=ys.map fun y=>[y]) (m:=r1.length+2) (n:=ys.length) (by simpa using hne) (fun k z=>?_) (hn:=by simp);have hg:=fun a b=>ClI.give (C:=.bsl (r1.length+2) ys.length) (m:=[ys.map (fun y=>[y])++Zo k z]) hi he (.inr ⟨_,rfl,rfl⟩) a b;refine Ba 100 rfl ?_;exact Bf func80 (h:=rfl) ⟨_,rfl,_,hg _ _⟩
def spM(n:Nd)(c:Cf)(inp:List Int):Cf:=if (Nj n c&&Ab8 inp)=true then N1 n inp c else zC
theorem A29(n:Nd)(hn:wN n≤100000000)(hnum:PrI n)(c:Cf)(hc:CfOk c)(inp:List Int)(hil:inp.length≤1000000000):Gives X 40 [nd n,cf c,.sl (Fh inp) .no] (fun r bx=>∃ids,CfB SlG bx r ids (spM n c inp)):=by
 have hcw:=Pi n;have hp:=Aiy n (by omega) hnum;unfold spM Nj;refine Gives.run func40 ?_;cases hr:H4 n with
 |false=>
  rw[if_neg (by simp[hr])]at hp;refine Aj hp ?_;refine Ep ?_;refine Ep ?_;refine Ay ?_;rw[if_neg (by simp)];exact Bf func40 (h:=rfl) ⟨_,rfl,[],Aja _⟩
 |true=>
 rw[if_pos hr]at hp;refine Aj hp ?_;refine Gm ?_;refine Aj (Avh n hr c hc) ?_;cases hcf:Add n c with
 |false=>
  refine Ep ?_;refine Ay ?_;rw[if_neg (by simp)];exact Bf func40 (h:=rfl) ⟨_,rfl,[],Aja _⟩
 |true=>
 refine Gm ?_;refine Aj (Ana inp hil) ?_;cases hin:Ab8 inp with
 |false=>
  refine Ay ?_;rw[if_neg (by simp)];exact Bf func40 (h:=rfl) ⟨_,rfl,[],Aja _⟩
 |true=>
 rw[if_pos (by simp)];have hS:=(Al4 (n:=n) (c:=c) (by unfold Nj;rw[hr,hcf];rfl)).2;refine Ah ?_;refine Oe (Arr c hc) (.cons (.same _ (inferInstance:OK 0 0 (cf c)).ok) .nil) ?_;intro r bx hP;obtain⟨ids0,hC⟩:=hP;obtain⟨V0,C0,rfl⟩:=hC.parts;have hlt0:=hC.ltG;have hH:=fun a b d=>CfB.held (pre:=[a,b,d]) hC;refine⟨.agg (En c (Gx 3 V0) (Gx 3 C0)),Lu 3 bx,(by have:=Od 3 (.agg (En c V0 C0));simpa[Gx,Qm]using this),Jw _ _,?_⟩;have hH2:∀a b d,CfB SlB (a::b::d::Lu 3 bx) (.agg (En c (Gx 3 V0) (Gx 3 C0))) (ids0.map (·+3)) c:=fun a b d=>by
  have:=hH a b d;simpa[Gx,Qm]using this
 obtain⟨ids,hids⟩:∃ids,ids=ids0.map (·+3):=⟨_,rfl⟩
 rw[←hids]at hH2;generalize Gx 3 V0=V at hH2⊢;generalize Gx 3 C0=C at hH2⊢;refine Ce 60 rfl ?_;obtain⟨B0,hB0⟩:∃B0,B0=[Ag n]::[G3 c]::[zCf]::Lu 3 bx:=⟨_,rfl⟩
 refine Bl ⟨B0,[]⟩ ?_ (by rw[hB0];rfl);have hcf:CfB SlB B0 (.agg (En c V C)) ids c:=by rw[hB0];exact hH2 _ _ _
 have hBl:B0.length=bx.length+3:=by rw[hB0];simp[O0]
 have hid:∀i,i∈ids→3≤i∧i<B0.length:=fun i hi=>by
  rw[hids]at hi;obtain⟨k,hk,rfl⟩:=zzq50.1 hi;have:=hlt0 k hk;omega
 refine M0 (b:=B0.length) rfl rfl ?_;refine Ct (b:=B0.length) (cs:=zCf) (xs:=En c V C) (cs':=En c V C) (by simp) rfl ?_ (hc:=F8 hcf);obtain⟨B1,hB1⟩:∃B1,B1=B0++[[En c V C]]:=⟨_,rfl⟩
 refine Bl ⟨B1,[]⟩ ?_ (by rw[hB1];exact congrArg (fun x=>St.mk x _) (by rw[Jb _ _ (Bt _),Iw];rfl));have z2:B1[2]?=some [zCf]:=by rw[hB1,hB0];rfl
 have hS1:CfS ⟨B1,[]⟩ B0.length V C ids c:=⟨by simp[hB1],by simp only[hB1];exact hcf.more,fun h=>by have:=hid _ h;omega⟩
 refine Hl (A3l hr hS ⟨B1,[]⟩ hS1) ?_;intro r S' hP _ _;obtain⟨rfl,ht',hch,hcS⟩:=hP;obtain⟨B',tk'⟩:=S';simp only at ht' hch;subst ht';have z2':B'[2]?=some [zCf]:=(hch.2 2 (Aa z2) fun h=>by
  rcases zzq8.1 h with h|h
  ·omega
  ·have:=hid 2 h;omega).trans z2
 generalize N1 n inp c=c' at *;refine Ce 60 rfl ?_;refine Aw hcS.box ?_;refine Ct (xs:=En c' V C) (cs':=En c' V C) z2' rfl ?_ (hc:=F8 hcS.cf);refine Bf func40 (h:=Em rfl rfl (Ez (Aa z2')) rfl) ⟨_,rfl,ids,?_⟩;exact(hcS.cf.chg (C6 _ 2 _) fun i hi hi2=>by
  simp at hi2;have:=hid i hi;omega).given
theorem A20(n:Nd)(hn:wN n≤100000000)(c:Cf)(hc:CfOk c)(inp:List Int)(hil:inp.length≤1000000000):Pure X 38 [nd n,cf c,.sl (Fh inp) .no] (cf (spM n c inp)):=by
 refine Pure.run func38 ?_;unfold spM;refine Aj (Arj n hn c hc) ?_;cases hcf:Nj n c with
 |false=>
  refine Ep ?_;refine Ay ?_;rw[if_neg (by simp)];exact Ao func38 rfl
 |true=>
 refine Gm ?_;refine Aj (Auw inp hil) ?_;cases hin:Ab8 inp with
 |false=>
  refine Ay ?_;rw[if_neg (by simp)];exact Ao func38 rfl
 |true=>
 obtain⟨hr,hS⟩:=Al4 hcf;have hil2:inp.length≤100:=by
  unfold Ab8 at hin;simp only[Du,Mz]at hin;omega
 rw[if_pos (by simp)];refine Ah ?_;refine Eo 32 ?_;refine B2 (Au4 n hr) ?_;refine B2 (A26 hr hS hil2) ?_;refine C4 (Bg rfl rfl rfl rfl rfl rfl rfl) ?_;refine Bu ?_;exact Ao func38 rfl
theorem Zn{α:Type}(l:List α)(a b:α):(l++[a]).set l.length b=l++[b]:=by
 rw[Jb _ _ (Bt _),Iw];rfl
theorem InG.held{l:List Int}{r:AV}{bx pre:B3}{d:Nat}(hd:pre.length=d)(h:InG l r bx):∃b,b<bx.length∧r=.bsl b l.length∧(pre++Lu d bx)[b+d]?=some (Fh l):=by
 obtain⟨b,rfl,hb⟩:=h;refine⟨b,Aa hb,rfl,?_⟩;rw[Gz (by omega),hd,Aex,Lu,Hd,hb,K4,Qb]
theorem Aun{S:St}{n:Nd}{lo hi b:Nat}(hn:Al n≤1000000000)(h:TRn true lo hi S.boxes b n):Fz S 0 0 (ndB b n) (nd n):=by
 refine .agg _ _ rfl fun j x y hx hy=>?_
 match j,hx,hy with
 |0,hx,hy=>simp[Ag]at hx hy;subst hx;subst hy;exact .same _ (.val _)
 |1,hx,hy=>simp[Ag]at hx hy;subst hx;subst hy;exact .same _ (.val _)
 |2,hx,hy=>simp[Ag]at hx hy;subst hx;subst hy;exact .same _ (.val _)
 |3,hx,hy=>simp[Ag]at hx hy;subst hx;subst hy;exact A40 n hn h
 |j+4,hx,_=>simp at hx
theorem Aov{S:St}{l:List Int}{b:Nat}(hl:l.length≤1000000000)(h:S.boxes[b]?=some (Fh l)):Fz S 0 0 (.bsl b l.length) (.sl (Fh l) .no):=
 SlB.flat (.inl ⟨b,[],by rw[Fb],by rw[I4];exact h⟩) (by rw[Fb];omega) inferInstance
theorem A5g:(∀n:Nd,mcN n+3≤3*Al n)∧∀l:List Nd,mcL l≤3*Bb l:=by
 refine Sd (fun k s m ks h=>?_) (by simp[mcL]) fun x l h1 h2=>?_
 ·have:=Co (.mk k s m ks);simp only[G4]at this;simp only[mcN];omega
 ·simp only[mcL,Bb];omega
theorem A3w{cs:List Nat}(h:∀c,c∈cs→c≤1000000):cs.sum≤1000000*cs.length:=by
 induction cs with
 |nil=>simp
 |cons c cs ih=>
  have:=ih fun x hx=>h x (by simp[hx]);have:=h c (by simp);simp;omega
def CrG(l:List (Bool×Int))(r:AV)(bx:B3):Prop:=∃b,r=.bsl b l.length∧bx[b]?=some (G5 l)
theorem A34(l:List (Bool×Int))(hl:l.length≤1000000000):Gives X 126 [.sl (G5 l) .no] (CrG l):=by
 have hlen:=Gs l;refine Gives.run func126 ?_;refine Bs (Jz (n:=(G5 l).length) (b:=0) (by rw[hlen];exact hl) rfl rfl rfl rfl rfl rfl rfl rfl rfl rfl) ?_;refine Ar (ι:=Nat) 1 0 (fun i=>i≤l.length) (fun i=>[(4,vi i),(3,.bsl 0 l.length),(0,.sl (G5 l) .no)]) (fun i=>⟨[cpR Hc [vb false,vi 0] l i],[]⟩) (fun i=>l.length-i) ?_ 0 (Cb _)
  ⟨rfl,by rw[←hlen];rfl,rfl,trivial⟩ (congrArg (fun b=>St.mk [b] []) (Yu Hc [vb false,vi 0] l).symm)
 intro i hi IH;refine Cp (fun h=>?_) (fun h=>?_)
 ·have hlt:i<l.length:=by have:=A6 h;rw[hlen]at this;omega
  obtain⟨x,hx⟩:=Ab l hlt;have hr:=Yt Hc [vb false,vi 0] hlt;refine Bv i (by omega) (Dl (f:=Hc) hx) ?_;refine Aj (Ak9 x) ?_;refine R4 i hlt hr ?_;refine Xk hr ?_;refine IH (i+1) hlt (by omega) _ _ ⟨vsx (by omega),rfl,rfl,trivial⟩ ?_ rfl rfl;exact congrArg (fun b=>St.mk [b] []) (Yv Hc [vb false,vi 0] hx)
 ·have:i=l.length:=by have:=Bd h;rw[hlen]at this;omega
  subst this;refine Bf func126 (h:=rfl) ⟨_,rfl,0,rfl,?_⟩;show some (cpR Hc [vb false,vi 0] l l.length)=_;rw[Ys];rfl
structure CcB (cells:List (List (Bool×Int)))(S:St)(ys:List AV):Prop where
 box:S.boxes[0]?=some (ys.map (fun y=>[y])++List.replicate (cells.length-ys.length) [AV.sl [] .tight])
 len:ys.length≤cells.length
 rows:∀(j:Nat) (y:AV) (l:List (Bool×Int)),ys[j]?=some y→cells[j]?=some l→SlB S.boxes y (G5 l)
 nd:(ys.flatMap Ik).Nodup
 lt:∀b,b∈ys.flatMap Ik→1≤b∧b<S.boxes.length
theorem CcB.snoc{cells:List (List (Bool×Int))}{S:St}{ys:An}{l:List (Bool×Int)}{b:Nat}{m:B3}(h:CcB cells S ys)(hl:cells[ys.length]?=some l)(hb:m[b]?=some (G5 l)) :
 CcB cells ⟨(S.boxes++m).set 0 (((ys.map fun y=>[y])++List.replicate (cells.length-ys.length) [AV.sl [] .tight]).set ys.length [AV.bsl (b+S.boxes.length) l.length]),S.toks⟩ (ys++[.bsl (b+S.boxes.length) l.length]):=by
 have hlt:=Aa hl;have h0:=Aa h.box;have hbl:=Aa hb;have hcl:=Gs l;have hne:∀{i:Nat} {y:A7},1≤i→(S.boxes++m)[i]?=some y→((S.boxes++m).set 0 (((ys.map fun y=>[y])++List.replicate (cells.length-ys.length) [AV.sl [] .tight]).set ys.length [AV.bsl (b+S.boxes.length) l.length]))[i]?=some y:=fun{i y} hi h=>by rw[Fi (by omega)];exact h
 have hnew:(S.boxes++m)[b+S.boxes.length]?=some (G5 l):=by rw[Gz (by omega),Aex];exact hb
 refine⟨?_,by simp;omega,fun j z q hz hq=>?_,?_,fun i hi=>?_⟩
 ·rw[Ez (by simp;omega)];obtain⟨d,hd⟩:∃d,cells.length-ys.length=d+1:=⟨cells.length-ys.length-1,by omega⟩
  rw[hd,Jb _ _ (by simp)];simp only[Py,Iw,Awk,List.set_cons_zero,Jp,F5,Ab0];rw[show cells.length-(ys.length+1)=d by omega];simp
 ·rcases getElem?_snoc hz with hz|⟨hj,rfl⟩
  ·have:=h.rows j z q hz hq;rcases this with⟨b0,ex,rfl,hg⟩|h2
   ·refine .inl ⟨b0,ex,rfl,hne (h.lt b0 (zzq100.2 ⟨_,Bn hz,by simp[Ik]⟩)).1 ?_⟩;rw[Dd (Aa hg)];exact hg
   ·exact .inr h2
  ·subst hj;rw[hl]at hq;cases hq;exact .inl ⟨b+S.boxes.length,[],by rw[hcl],by rw[I4];exact hne (by omega) hnew⟩
 ·rw[Aep];exact zzq101.2 ⟨h.nd,by simp[Ik],fun a ha c hc=>by have:=h.lt a ha;simp[Ik]at hc;omega⟩
 ·rw[Aep]at hi;rcases zzq26.1 hi with h1|h1
  ·have:=h.lt i h1;simp;omega
  ·simp[Ik]at h1;subst h1;simp;omega
theorem A0g(cells:List (List (Bool×Int)))(hcl:cells.length≤1000000000)(hcx:∀x,x∈cells→x.length≤1000000000):Gives X 77 [.sl (H9 cells) .no] (fun r bx=>(∃b,r=.bsl b cells.length)∧CcG cells r bx):=by
 have hlen:=Mi cells;refine Gives.run func77 ?_;refine Bs (Jz (n:=(H9 cells).length) (b:=0) (by rw[hlen];exact hcl) rfl rfl rfl rfl rfl rfl rfl rfl rfl rfl) ?_;refine I6 (ι:=St×An) (fun i=>i.1.toks=[]∧CcB cells i.1 i.2) (fun i=>[(4,vi i.2.length),(3,.bsl 0 cells.length),(0,.sl (H9 cells) .no)]) (fun i=>i.1) (fun i=>cells.length-i.2.length) ?_ (⟨[List.replicate (H9 cells).length [.sl [] .tight]],[]⟩,[])
  ⟨rfl,by simp[hlen],Cb _,fun j y l h=>by simp at h,.nil,fun b h=>by simp at h⟩ ⟨rfl,by rw[←hlen];rfl,rfl,trivial⟩ rfl
 intro i hi IH;obtain⟨S1,ys⟩:=i;obtain⟨htk,hI⟩:=hi;simp only at htk hI;refine Cp (fun g=>?_) (fun g=>?_)
 ·have hlt:ys.length<cells.length:=by have:=A6 g;rw[hlen]at this;simp only at this;omega
  obtain⟨l,hl⟩:=Ab cells hlt;have hll:=hcx l (Bn hl);refine Bv ys.length (by omega) (Dl (f:=Oa) hl) ?_;refine Oe (A34 l hll) (.cons (.same _ (inferInstance:OK 0 0 (.sl (G5 l) .no)).ok) .nil) ?_;intro r bx hP;obtain⟨b,rfl,hb⟩:=hP;refine⟨.bsl (b+S1.boxes.length) l.length,Lu S1.boxes.length bx,.bsl b _,Jw _ _,?_⟩;have hb2:(Lu S1.boxes.length bx)[b]?=some (G5 l):=by
   simp only[Lu,Hd,hb,K4,Je]
  have hbox:(S1.boxes++Lu S1.boxes.length bx)[0]?=some (ys.map (fun y=>[y])++List.replicate (cells.length-ys.length) [AV.sl [] .tight]):=by rw[Dd (Aa hI.box)];exact hI.box
  have hrow:(ys.map (fun y=>[y])++List.replicate (cells.length-ys.length) [AV.sl [] .tight])[ys.length]?=some [.sl [] .tight]:=by
   rw[Gz (by simp),Aln,if_pos (by simp;omega)]
  refine Jr ys.length hlt hbox hrow rfl ?_;refine L5 hbox hrow rfl ?_;refine IH (⟨(S1.boxes++Lu S1.boxes.length bx).set 0 (((ys.map fun y=>[y])++List.replicate (cells.length-ys.length) [AV.sl [] .tight]).set ys.length [AV.bsl (b+S1.boxes.length) l.length]),S1.toks⟩,ys++[AV.bsl (b+S1.boxes.length) l.length]) ⟨htk,hI.snoc hl hb2⟩ (by simp;omega) _ _ ⟨Ci ?_,rfl,rfl,trivial⟩ rfl;rw[Ac (by simp only;omega) (by simp only;omega)];simp
 ·have he:ys.length=cells.length:=by have:=Bd g;rw[hlen]at this;simp only at this;have:=hI.len;omega
  refine Bf func77 (h:=rfl) ⟨.bsl 0 cells.length,rfl,⟨0,rfl⟩,ys,.inl ⟨0,[],by simp[he],?_⟩,he,fun j y l hy hl=>(hI.rows j y l hy hl).given,?_,fun b hb=>?_⟩
  ·have:=hI.box;rw[he,Iw,List.replicate_zero]at this;exact this
  ·exact zzq101.2 ⟨by simp[Ik],hI.nd,fun a ha b hb=>by simp[Ik]at ha;subst ha;have:=hI.lt b hb;omega⟩
  ·rcases zzq26.1 hb with h1|h1
   ·simp[Ik]at h1;subst h1;exact Aa hI.box
   ·exact(hI.lt b h1).2
theorem A0h(c:Cf)(hc:CfOk c):Gives X 39 [cf c] (fun r bx=>∃ids,CfB SlG bx r ids c):=by
 refine Gives.run func39 ?_;refine Oe (Awb c.vars hc.vars) (.cons (.same _ (inferInstance:OK 0 0 (.sl (Fh c.vars) .no)).ok) .nil) ?_;intro r bx1 hP;obtain⟨b1,rfl,hb1⟩:=hP;have hV:∀a b d,SlB (a::b::d::Lu 3 bx1) (.bsl (b1+3) c.vars.length) (Fh c.vars):=fun a b d=>.inl ⟨b1+3,[],by rw[Fb],by
  simp only[Ap6,Lu,Hd,hb1,K4,Qb,I4]⟩
 have hb1:=Aa hb1;refine⟨.bsl (b1+3) c.vars.length,Lu 3 bx1,.bsl b1 _,Jw _ _,?_⟩;have hsl:=O0 3 bx1;generalize Lu 3 bx1=rs at *;refine Ba 100 rfl ?_;refine Oe (A0g c.cells hc.cells hc.rows) (.cons (.same _ (inferInstance:OK 0 0 (.sl (H9 c.cells) .no)).ok) .nil) ?_;intro r bx2 hP;obtain⟨⟨b2,rfl⟩,ys,h1,h2,h3,h4,h5⟩:=hP;refine⟨.bsl (b2+(rs.length+3)) c.cells.length,Lu (rs.length+3) bx2,.bsl b2 _,Jw _ _,?_⟩;have hR:∀a b d,CfB SlB (a::b::d::(rs++Lu (rs.length+3) bx2)) (.agg (En c (.bsl (b1+3) c.vars.length) (.bsl (b2+(rs.length+3)) c.cells.length))) (Ik (.bsl (b1+3) c.vars.length)++(Ik (.bsl b2 c.cells.length)++ys.flatMap Ik).map (·+(rs.length+3))) c:=fun a b d=>
  ⟨_,_,ys.map (Gx (rs.length+3)),rfl,by simp only[Jp,Ze,List.map_flatMap,List.flatMap_map];rfl,
    zzq101.2 ⟨by simp[Ik],List.Pairwise.map _ (fun a b h=>by simp only[ne_eq]at h⊢;omega) h4,fun x hx y hy=>by simp[Ik]at hx;obtain⟨z,_,rfl⟩:=zzq50.1 hy;omega⟩,(hV a b d).more,by
     have:=h1.held (pre:=a::b::d::rs);rw[Z2]at this;rw[Z2];simp only[Gx]at this;exact this,by simpa using h2,fun j y l hy hl=>by
     rw[Hd]at hy;cases hy':ys[j]? with
     |none=>rw[hy']at hy;cases hy
     |some y0=>
      rw[hy']at hy;cases hy;have:=(h3 j y0 l hy' hl).held (pre:=a::b::d::rs);rw[Je]at this;exact this⟩
 refine Ba 100 rfl ?_;exact Bf func39 (h:=rfl) ⟨_,rfl,_,(hR _ _ _).given⟩
end Go.V
namespace Go.V
open Go
section
variable {X:Cx}{B:Bx}{E:Env}{S S':St}{w:World}{F F':Cw}{a:Act}{N:Nat}{R:AE→St→Prop}{ops:Array Oper}{ix:Nat→Nat}{bp:Nat→Nat→Bool}{em:Nat→Bool}{os os2:List Oper}{i:Nat}{o:Oper}{x:AV}{Hs:List St}{pend:List Jc}{K:Cw→St→Prop}{tl:List (Oper×List Oper)}
 {KK:Nat→Cw→St→List St→List Jc→Prop}
theorem Aw7{c:Call}{fo:Operand}{f:FuncId}{caps xs zs ys:An}{P:AV→B3→Prop}{Q:AV→St→Prop}(hc:Gives X f ys P)(ha:FzL S 0 0 zs ys)
 (hk:∀r bx,P r bx→∃r' bx',Sh S.boxes.length r r'∧ShB S.boxes.length bx bx'∧Q r' ⟨S.boxes++bx',S.toks⟩)(ho:ops[i]?=some o)(hw:Bc ops F o=some true)(hop:o.op=.call c)
 (hcal:c.callee=.value fo)(hfo:Dv X F fo=some (.fn f caps))(hx:Hv X F c.args.toList=some xs)(hzs:Jt xs caps=some zs):NdoG X N ops i o F S Q:=by
 intro F' E w a hl hI hF b k cs rest;obtain⟨v,w',⟨r0,E1,S1,hP,d1,d2,d3⟩,hst⟩:=Xo (F':=F') hc hl hI hF ho hw hop hcal hfo hx hzs ha b k cs rest;obtain⟨r',bx',hr,hbx,hQ⟩:=hk _ _ hP;have nb:=hI.nb;obtain⟨g1,g2⟩:=Xw hI d1 d2 (by rw[nb];exact hbx);refine⟨v,w',⟨E.gain E1,r',_,hQ,g2,g1,hr.rel (fun b' q hq=>?_) d3⟩,hst⟩;simp only[Env.gain];rw[Gz (by omega),←nb,Aex];exact hq
theorem Awy{c:Call}{fo:Operand}{f:FuncId}{caps xs zs ys:An}{P:AV→B3→Prop}(hc:Gives X f ys P)(ha:FzL S 0 0 zs ys)
 (hk:∀r bx,P r bx→∃r' bx',Sh S.boxes.length r r'∧ShB S.boxes.length bx bx'∧(∀q,q∈pend.filter (fun q=>!bp q.1 i)→Ndo X N ops (ix q.1) q.2.1 q.2.2.1 q.2.2.2 ⟨S.boxes++bx',S.toks⟩ ⟨S.boxes++bx',S.toks⟩) ∧
   DrvS X N ops ix bp em K tl os2 (i+1) (putF o.dst r' F) ⟨S.boxes++bx',S.toks⟩ (⟨S.boxes++bx',S.toks⟩::Hs) (pend.filter fun q=>!bp q.1 i)) (he:em i=true:=by rfl) (hd:Eh N o.dst=true:=by rfl) (ho:ops[ix i]?=some o:=by rfl) (hw:Bc ops F o=some true:=by rfl) (hop:o.op=.call c:=by rfl)
 (hcal:c.callee=.value fo:=by rfl)(hfo:Dv X F fo=some (.fn f caps):=by rfl)(hx:Hv X F c.args.toList=some xs:=by rfl)(hzs:Jt xs caps=some zs:=by rfl):DrvS X N ops ix bp em K ((o,os2)::tl) [] i F S Hs pend:=
 ⟨he,hd,fun r S'=>(∀q,q∈pend.filter (fun q=>!bp q.1 i)→Ndo X N ops (ix q.1) q.2.1 q.2.2.1 q.2.2.2 S' S')∧DrvS X N ops ix bp em K tl os2 (i+1) (putF o.dst r F) S' (S'::Hs) (pend.filter fun q=>!bp q.1 i),Aw7 hc ha hk ho hw hop hcal hfo hx hzs,fun _ _ h=>h⟩
theorem Ajf{c:Call}{fo:Operand}{f:FuncId}{caps xs zs ys:An}{P:AV→B3→Prop}(hc:Gives X f ys P)(ha:FzL S 0 0 zs ys)
 (hk:∀r bx,P r bx→∃r' bx',Sh S.boxes.length r r'∧ShB S.boxes.length bx bx'∧DrvS X N ops ix bp em K tl os2 (i+1) (putF o.dst r' F) ⟨S.boxes++bx',S.toks⟩ (⟨S.boxes++bx',S.toks⟩::Hs) [])(he:em i=true:=by rfl)(hd:Eh N o.dst=true:=by rfl)(ho:ops[ix i]?=some o:=by rfl)(hw:Bc ops F o=some true:=by rfl)(hop:o.op=.call c:=by rfl)
 (hcal:c.callee=.value fo:=by rfl)(hfo:Dv X F fo=some (.fn f caps):=by rfl)(hx:Hv X F c.args.toList=some xs:=by rfl)(hzs:Jt xs caps=some zs:=by rfl)(hp:pend.filter (fun q=>!bp q.1 i)=[]:=by kernel_rfl):DrvS X N ops ix bp em K ((o,os2)::tl) [] i F S Hs pend:=
 Awy hc ha (fun r bx h=>by
  obtain⟨r',bx',h1,h2,h3⟩:=hk r bx h;rw[hp];exact⟨r',bx',h1,h2,G6,h3⟩) he hd ho hw hop hcal hfo hx hzs
theorem Awx(h:∀S',Ndo X N ops (ix i) o F x S' S')(k:DrvK X N ops ix bp em os (i+1) F' S Hs pend KK)(hF:Oz N o.dst x F=some F':=by rfl):DrvK X N ops ix bp em (o::os) i F S Hs pend KK:=by
 obtain⟨h1,rfl⟩:=Gd hF;exact .inl ⟨x,h1,h,k⟩
theorem Acb(h:Ndo X N ops (ix i) o F x S S)(k:DrvK X N ops ix bp em os (i+1) F' S [S] ((i,o,F,x)::pend) KK)(hF:Oz N o.dst x F=some F':=by rfl):DrvK X N ops ix bp em (o::os) i F S [S] pend KK:=by
 obtain⟨h1,rfl⟩:=Gd hF;exact .inr (.inl ⟨x,h1,Aq h G6,k⟩)
theorem Vw{c:Call}{fo:Operand}{f:FuncId}{caps xs zs ys:An}{r:AV}(hc:Pure X f ys r)(k:DrvK X N ops ix bp em os (i+1) F' S Hs pend KK)(ho:ops[ix i]?=some o:=by rfl)(hw:Bc ops F o=some true:=by rfl)(hop:o.op=.call c:=by rfl)(hcal:c.callee=.value fo:=by rfl)(hfo:Dv X F fo=some (.fn f caps):=by rfl)(hx:Hv X F c.args.toList=some xs:=by rfl)(hzs:Jt xs caps=some zs:=by rfl)
 (hF:Oz N o.dst r F=some F':=by rfl) [hs:RinL [] [] zs ys] [hok:OK 0 0 r]:DrvK X N ops ix bp em (o::os) i F S Hs pend KK:=
 Awx (fun S'=>Z8 hc ho hw hop hcal hfo hx hzs hok.ok) k hF
theorem Ast{k:List Item}(h:AK X B k F S R):DrvK X N ops ix bp em [] i F S Hs pend fun _ F1 S1 _ _=>AK X B k F1 S1 R:=h
end
end Go.V
