/- A part of the proof of the claim that the last text states: no condition of its own. -/
import Derived.Test.YtojhghmilenfkaaGreatDoorQ12
import Derived.Laws.MakeOwn
set_option linter.unusedVariables false
set_option linter.unusedSimpArgs false
namespace Go.V
open Go Go.Proofs Go.Proofs.Tryz
def Ed(x:Int)(e:Eg):Eg:=if e.t<0 then{ e with t:=x }else e
def Uc(x:Int)(l:List Eg)(i:Nat):List Eg:=(l.take i).map (Ed x)++l.drop i
def W6(l:List Eg)(i:Nat):Nat:=l.length+((l.take i).filter fun e=>decide (e.t<0)).length
theorem Zb(x:Int)(l:List Eg)(i:Nat):(Uc x l i).length=l.length:=by simp[Uc];omega
theorem Arc(x:Int)(l:List Eg):Uc x l 0=l:=by simp[Uc]
theorem Aui(x:Int)(l:List Eg):Uc x l l.length=l.map (Ed x):=by simp[Uc]
theorem Ash(l:List Eg):W6 l 0=l.length:=by simp[W6]
theorem Akg{x:Int}{l:List Eg}{i:Nat}{e:Eg}(h:l[i]?=some e):(Uc x l i)[i]?=some e:=by
 have hi:=Aa h;simp only[Uc];rw[Gz (by simp;omega),R0];simp[show i+(i-min i l.length)=i by omega,h]
theorem Akh{x:Int}{l:List Eg}{i:Nat}{e:Eg}(h:l[i]?=some e):(Uc x l i).set i (Ed x e)=Uc x l (i+1):=by
 have hi:=Aa h;simp only[Uc];rw[Jb _ _ (by simp;omega),Hq,h,Jp,Bp h];simp[show i-min i l.length=0 by omega]
theorem Arb{x:Int}{l:List Eg}{i:Nat}{e:Eg}(h:l[i]?=some e)(ht:¬e.t<0):Uc x l (i+1)=Uc x l i:=by
 rw[←Akh h];have:Ed x e=e:=by simp[Ed,ht]
 rw[this];apply Ab4;intro j;rw[Aer];split
 ·rename_i hj;subst hj;rw[Akg h];simp[Zb,Aa h]
 ·rfl
theorem Alg{l:List Eg}{i:Nat}{e:Eg}(h:l[i]?=some e)(ht:e.t<0):W6 l (i+1)=W6 l i+1:=by
 simp only[W6];rw[Hq,h];simp[ht];omega
theorem Awi{l:List Eg}{i:Nat}{e:Eg}(h:l[i]?=some e)(ht:¬e.t<0):W6 l (i+1)=W6 l i:=by
 simp only[W6];rw[Hq,h];simp[ht]
def D9(l:List Nd):Gr:=Dt 6 Cm (gL l Cm ⟨1,0,[],[],[],0⟩)
def Ia(l:List Nd):List Eg:=(D9 l).es.map (Ed (D9 l).pt)
def A1(n:Nd):List Nd:=(Dy (Be n)).kids
theorem Acc{n:Nd}(h:FP n):∃ds,Be n=.mk 40 [] 0 (ds++[.mk 30 [] 0 (A1 n)])∧n.kids.dropLast=ds∧(∀x,x∈A1 n→PS x)∧wL (A1 n)≤10*wN n:=by
 have hw:=(Qe n).1;cases h with
 |mk ds l hd hl=>
  have e1:A1 (.mk 40 [] 0 (ds++[.mk 30 [] 0 l]))=B4 l:=by
   unfold A1 Dy;rw[Zk hd,G4];simp[G4]
  rw[e1];refine⟨ds,Zk hd,by rw[G4];simp,Ps fun x hx=>A4t (hl x hx),?_⟩;rw[Zk hd]at hw;simp only[wN,wL,Vr]at hw⊢;omega
theorem Ats(e:Eg)(x:Int)(h:e.t<0):(Io e).take 1++[vi x]++(Io e).drop (1+[vi x].length)=Io (Ed x e):=by simp[Io,Ed,h]
theorem Afs(l:List Eg)(i:Nat)(e:Eg):(Fg l).set i (Io e)=Fg (l.set i e):=by simp[Fg,Z1]
theorem Ge{l:List Eg}{i:Nat}{e:Eg}(h:l[i]?=some e):(Fg l)[i]?=some (Io e):=by simp[Fg,h]
abbrev gBx(n:Nd)(p:Nat)(rows:A7)(v:Nat):B3:=[[Ag n],[[vi 0,.sl [] .tight]],[Ag (Be n)],[[vi p,.psl rows 0 v]]]
theorem Ax1(n:Nd)(h:FP n)(hw:wN n≤1000000):Pure X 100 [nd n] (.agg [vi (D9 (A1 n)).pts,.sl (Fg (Ia (A1 n))) .no]):=by
 obtain⟨ds,hpl,_,hps,hwl⟩:=Acc h;have hpw:=(Qe n).1;have hdl:IntKind.i64.wrap (((Av (Be n).kids).length:Int)-1)=ds.length:=by
  have hkl:=Ho (Be n);have e:(Av (Be n).kids).length=ds.length+1:=by rw[Ae,hpl,G4];simp
  rw[Ae]at e;rw[Ae,Ac (by omega) (by omega)];omega
 have hlast:(Av (Be n).kids)[(IntKind.i64.wrap (((Av (Be n).kids).length:Int)-1)).toNat]?=some (Ag (.mk 30 [] 0 (A1 n))):=by
  rw[hdl,hpl,G4];exact Ap (by simp)
 have h0:0≤IntKind.i64.wrap (((Av (Be n).kids).length:Int)-1):=by rw[hdl];omega
 refine Pure.run func100 ?_;refine Aj (Abu n h (by omega)) ?_;refine Ui (bx:=gBx n 0 [] 0) (tk:=[0]) 3 0 1 ?_;refine Ix 4 (.ptr 3 0 0) ?_;refine Eo 3072 ?_;refine Dk _ h0 hlast ?_;refine Er (H0 (τ':=[0]) [3] [0] (J1 0 [] (by omega))) ?_ ?_
 ·exact Aq (Cy rfl rfl rfl) (Aq (Cy rfl rfl rfl) (Aq (Cy rfl rfl rfl) G6))
 have c0:Gb ⟨1,0,[],[],[],0⟩ (wL (A1 n)):=⟨by decide,by show 1+_≤_;omega,by show 0+_≤_;omega⟩
 have l0:=M4 hps Cm _ c0.pt;have i0:Hands X 158 [.ptr 0 0 0,nd (.mk 30 [] 0 (A1 n)),vi (0:Nat)] ⟨[mbx (0+1) []],[([]:List Eg).length]⟩ (vi (gL (A1 n) Cm ⟨1,0,[],[],[],0⟩).pt) (gSt (gL (A1 n) Cm ⟨1,0,[],[],[],0⟩)):=
  Ah5 hps (fun x hx=>A2b (hps x hx)) Cm _ c0
 have c1:Gb (gL (A1 n) Cm ⟨1,0,[],[],[],0⟩) 0:=c0.step l0 (by omega);generalize hg:gL (A1 n) Cm ⟨1,0,[],[],[],0⟩=g at *;refine C4 (H0 (τ':=[0]) [3] [0] i0) ?_;refine A0 ?_;refine Bu ?_;have b1:=c1.pts;have b2:=c1.es;refine Af (τ':=[0]) [3] [0] (J1 g.pts g.es (by omega)) ?_;refine Af (τ':=[0]) [3] [0] (Sy (g.pts+1) g.es g.pt g.pts 6 false (by omega)) ?_;have hG:D9 (A1 n)=Dt 6 Cm g:=by unfold D9;rw[hg]
 have hE:Ia (A1 n)=(g.es++[(⟨g.pt,g.pts,6,false,Cm⟩:Eg)]).map (Ed g.pts):=by unfold Ia;rw[hG];rfl
 rw[hE,hG];show AK X _ _ _ _ fun e S=>e=.ret (.agg [vi (g.pts+1:Nat),.sl (Fg ((g.es++[(⟨g.pt,g.pts,6,false,Cm⟩:Eg)]).map (Ed g.pts))) .no])∧S=⟨[],[]⟩
 have hel:(g.es++[(⟨g.pt,g.pts,6,false,Cm⟩:Eg)]).length≤1000000001:=by simp;omega
 generalize g.es++[(⟨g.pt,g.pts,6,false,Cm⟩:Eg)]=es at *;refine Bl ⟨gBx n (g.pts+1) (Fg (Uc g.pts es 0)) (W6 es 0),[W6 es 0]⟩ ?_ (by rw[Arc,Ash];rfl);refine Ar (ι:=Nat) 4 1 (fun i=>i≤es.length) (fun i=>[(7,vi i),(4,.ptr 3 0 0),(6,vi g.pts),(2,.ptr 1 0 0)])
  (fun i=>⟨gBx n (g.pts+1) (Fg (Uc g.pts es i)) (W6 es i),[W6 es i]⟩) (fun i=>es.length-i) ?_ 0
  (Cb _) ⟨rfl,rfl,rfl,rfl,trivial⟩
 intro i hi IH;refine Cp (fun h=>?_) (fun h=>?_)
 ·have hlt:i<es.length:=by have:=A6 h;rw[Kh,Zb]at this;omega
  obtain⟨e,he⟩:=Ab es hlt;have hil:i<(Fg (Uc g.pts es i)).length:=by rw[Kh,Zb];exact hlt
  have hrow:=Ge (Akg (x:=g.pts) he);refine Bs (Acf (n:=i) hil rfl (Uv _) rfl rfl rfl rfl rfl rfl rfl rfl) ?_;refine Bs (Aw4 (x:=vi e.t) hrow rfl (by show 1+1≤8;omega) rfl rfl rfl rfl rfl rfl) ?_;refine Ai (fun h2=>?_) (fun h2=>?_)
  ·have h2':e.t<0:=A6 h2;refine Bs (Acf (n:=i) hil rfl (Uv _) rfl rfl rfl rfl rfl rfl rfl rfl) ?_;refine Bs (Ahl (b:=3) (r:=0) (g:=1) (xs:=[vi g.pts]) (bx:=gBx n (g.pts+1) (Fg (Uc g.pts es (i+1))) (W6 es (i+1))) (tk':=[W6 es (i+1)]) rfl hrow (by show 1+1≤8;omega) (fun z hz=>by simp at hz;subst hz;exact .val _) rfl rfl rfl
    ?_ ?_ rfl rfl rfl rfl rfl rfl rfl rfl) ?_
   ·show gBx n (g.pts+1) ((Fg (Uc g.pts es i)).set i ((Io e).take 1++[vi g.pts]++(Io e).drop (1+[vi g.pts].length))) (W6 es i+1)=_;rw[Ats e _ h2',Afs,Akh he,←Alg he h2']
   ·show [W6 es i+1]=_;rw[←Alg he h2']
   exact IH (i+1) hlt (by omega) _ _ ⟨vsx (by omega),rfl,rfl,rfl,trivial⟩ rfl rfl rfl
  ·have h2':¬e.t<0:=Bd h2;rw[←Arb (x:=g.pts) he h2',←Awi he h2'];exact IH (i+1) hlt (by omega) _ _ ⟨vsx (by omega),rfl,rfl,rfl,trivial⟩ rfl rfl rfl
 ·have:i=es.length:=by have:=Bd h;rw[Kh,Zb]at this;omega
  subst this;rw[Aui];refine Eo 512 ?_;refine C4 (Bg rfl rfl rfl rfl rfl rfl rfl) ?_;refine Bu ?_;exact Ao func100 rfl
def T4(l:List Nat):A7:=l.map fun(i:Nat)=>[vi i]
theorem Ox(l:List Nat):(T4 l).length=l.length:=by simp[T4]
theorem Amr(l:List Nat):Mf 1 (T4 l)=true:=Pf (f:=fun(i:Nat)=>[vi i]) (fun _=>rfl) l
theorem Adq(l:List Nat)(i:Nat):T4 l++[[vi i]]=T4 (l++[i]):=by simp[T4]
instance{n m:Nat}{l:List Nat}:OKR n m (T4 l):=⟨fun r hr x hx=>by obtain⟨e,_,rfl⟩:=zzq50.1 hr;simp at hx;subst hx;exact .val _⟩
def Aau(l:Lp):An:=Ag l.a++Ag l.l++[vi l.h,vi l.x]
def Kz(l:List Lp):A7:=l.map Aau
theorem Aav(l:List Lp):(Kz l).length=l.length:=by simp[Kz]
theorem Ake(l:List Lp):∀r,r∈Kz l→r.length=10:=fun r h=>by obtain⟨e,_,rfl⟩:=zzq50.1 h;rfl
theorem Amz(l:List Lp)(e:Lp):Kz l++[Aau e]=Kz (l++[e]):=by simp[Kz]
theorem Af9(e:Lp):∀x,x∈Aau e→Flat x:=fun x hx=>by
 simp only[Aau,zzq26,zzq8,Xh,or_false]at hx;rcases hx with(hx|hx)|rfl|rfl
 ·exact Vf _ x hx
 ·exact Vf _ x hx
 ·exact .val _
 ·exact .val _
theorem Amy(e:Lp):∀r,r∈[Aau e]→∀x,x∈r→NoT x:=fun r hr x hx=>by simp at hr;subst hr;exact(Af9 e x hx).noT
instance{n m:Nat}{l:List Lp}:OKR n m (Kz l):=⟨fun r hr x hx=>by obtain⟨e,_,rfl⟩:=zzq50.1 hr;exact(Af9 e x hx).ok⟩
abbrev mx(p:Nat)(es:List Eg)(at_:Nat)(sts:List Nat)(lps:List Lp)(v:Nat):A7:=[[vi p,.psl (Fg es) 0 es.length,vi at_,.sl (T4 sts) (.tok 1),.psl (Kz lps) 2 v]]
abbrev mS(p:Nat)(es:List Eg)(at_:Nat)(sts:List Nat)(lps:List Lp)(v:Nat):St:=⟨[mx p es at_ sts lps v],[es.length,sts.length,v]⟩
def iE(g:Gr):List Eg:=g.es.map (Ed 0)
abbrev gM(g:Gr):St:=mS g.pts (iE g) g.pt g.sts g.lps g.ver
theorem U4(g:Gr):(iE g).length=g.es.length:=by simp[iE]
theorem Ax7(k:Int)(n:Nd)(g:Gr):iE (Dt k n g)=iE g++[⟨g.pt,g.pts,k,false,n⟩]:=by simp[iE,Dt,Ed];intro h;omega
theorem A2e(p:Nat)(c:Nd)(y:Bool)(g:Gr):iE (Ei p c y g)=iE g++[⟨p,g.pts,4,y,c⟩]:=by simp[iE,Ei,Ed];intro h;omega
theorem Ax8(g:Gr):iE (Pj g)=iE g++[⟨g.pt,0,7,false,Cm⟩]:=by simp[iE,Pj,Ed]
theorem Ax5(h:Nat)(g:Gr):iE (Ln h g)=iE g++[⟨g.pt,h,6,false,Cm⟩]:=by simp[iE,Ln,Jd,Ed];intro h;omega
theorem Ax6(p:Nat)(g:Gr):iE (Oi p g)=iE g++[⟨p,g.pts,6,false,Cm⟩]++[⟨g.pt,g.pts,6,false,Cm⟩]:=by simp[iE,Oi,Jd,Ed];intro h;omega
section
variable (p:Nat)(es:List Eg)(a:Nat)(sts:List Nat)(lps:List Lp)(v:Nat)
theorem Aci(h:p≤1000000000000):Hands X 237 [.ptr 0 0 0] (mS p es a sts lps v) (vi p) (mS (p+1) es a sts lps v):=by
 refine Hands.run func237 ?_;have e1:IntKind.i64.wrap ((p:Int)+1)=((p+1:Nat):Int):=(Ac (by omega) (by omega)).trans (by omega);have e2:IntKind.i64.wrap (IntKind.i64.wrap ((p:Int)+1)-1)=(p:Int):=by rw[e1];exact(Ac (by omega) (by omega)).trans (by omega)
 refine Ix 2 (vi p) ?_ (Ci e2);refine Bl (mS (p+1) es a sts lps v) ?_ (by rw[mS,mx,←e1]);exact Bz func237 rfl rfl
theorem Aua(e:Eg)(hp:PlO e.n)(hpl:Be e.n=e.n)(hw:wN e.n≤1000000000)(hl:es.length≤1000000000) :
 Hands X 238 [.ptr 0 0 0,vi e.f,vi e.t,vi e.k,vb e.y,nd e.n] (mS p es a sts lps v) (.tup []) (mS p (es++[e]) a sts lps v):=by
 have hq:=Agi e.n hp hw;rw[hpl]at hq;refine Hands.run func238 ?_;refine Eo 278528 ?_;refine B2 hq ?_;refine C4 (Pe (ver:=es.length) rfl (Uv es) (Adh e) ?_ (Adi es e) rfl rfl rfl rfl rfl rfl rfl rfl rfl rfl rfl rfl rfl rfl rfl rfl rfl) ?_
 ·rw[Kh];simp;omega
 refine A0 ?_;refine A0 ?_;refine A0 ?_;refine C4 (Bg rfl rfl rfl rfl rfl rfl rfl) ?_;refine Bu ?_;refine Bl ⟨[mx p (es++[e]) a sts lps v,[Ag e.n]],[(es++[e]).length,sts.length,v]⟩ ?_ (by simp);exact Ek func238 rfl rfl
theorem Aox(f t k:Int)(y:Bool)(n:Nd)(hp:PlO n)(hpl:Be n=n)(hw:wN n≤1000000000)(hl:es.length≤1000000000) :
 Hands X 238 [.ptr 0 0 0,vi f,vi t,vi k,vb y,nd n] (mS p es a sts lps v) (.tup []) (mS p (es++[⟨f,t,k,y,n⟩]) a sts lps v):=Aua p es a sts lps v ⟨f,t,k,y,n⟩ hp hpl hw hl
theorem Ach(f t k:Int)(y:Bool)(hl:es.length≤1000000000) :
 Hands X 238 [.ptr 0 0 0,vi f,vi t,vi k,vb y,.agg [vi 0,str [],vi 0,.sl [] .no]] (mS p es a sts lps v) (.tup []) (mS p (es++[⟨f,t,k,y,Cm⟩]) a sts lps v):=
 Aua p es a sts lps v ⟨f,t,k,y,Cm⟩ .leaf (by show Be Cm=Cm;rw[Cm,Bi,A9]) (by show wN Cm≤1000000000;decide) hl
end
theorem Adr(g:Gr)(k:Int)(n:Nd)(hp:PlO n)(hpl:Be n=n)(hw:wN n≤1000000000)(h1:g.pts≤1000000000000)(hl:g.es.length≤1000000000) :
 Hands X 175 [.ptr 0 0 0,vi k,nd n] (gM g) (.tup []) (gM (Dt k n g)):=by
 refine Hands.run func175 ?_;refine Af (τ':=[0,1,2]) [0] [0,1,2] (Aci g.pts (iE g) g.pt g.sts g.lps g.ver h1) ?_;refine Eo 256 ?_;refine C4 (H0 (τ':=[0,1,2]) [0] [0,1,2] (Aox (g.pts+1) (iE g) g.pt g.sts g.lps g.ver g.pt g.pts k false n hp hpl hw (by rw[U4];exact hl))) ?_;refine Bu ?_;rw[←Ax7];exact Ek func175 rfl rfl
theorem Aoy(g:Gr)(q:Nat)(c:Nd)(y:Bool)(hp:PlO c)(hpl:Be c=c)(hw:wN c≤1000000000)(h1:g.pts≤1000000000000)(hl:g.es.length≤1000000000) :
 Hands X 271 [.ptr 0 0 0,vi q,nd c,vb y] (gM g) (.tup []) (gM (Ei q c y g)):=by
 refine Hands.run func271 ?_;refine Af (τ':=[0,1,2]) [0] [0,1,2] (Aci g.pts (iE g) g.pt g.sts g.lps g.ver h1) ?_;refine Eo 256 ?_;refine C4 (H0 (τ':=[0,1,2]) [0] [0,1,2] (Aox (g.pts+1) (iE g) g.pts g.sts g.lps g.ver q g.pts 4 y c hp hpl hw (by rw[U4];exact hl))) ?_;refine Bu ?_;rw[←A2e];exact Ek func271 rfl rfl
structure Gc (g:Gr)(k:Nat):Prop where
 b:Gb g k
 lps:g.lps.length+24*k≤1000000000
 sts:g.sts.length+24*k≤1000000000
theorem Gc.step1{g g':Gr}{j k m:Nat}(h:Gc g m)(hl:g.le g' j)(hj:j≤6*m)(hm:j+6*k≤6*m):Gc g' k:=by
 obtain⟨l,h1,h2⟩:=hl.lps;obtain⟨s,h3,h4⟩:=hl.sts;have:=h.lps;have:=h.sts;refine⟨h.b.step1 hl hj hm,?_,?_⟩
 ·rw[h1,F5];omega
 ·rw[h3,F5];omega
def JSt(n:Nd):Prop:=∀(a:Nd)(g:Gr),Gc g (wN n)→Hands X 236 [.ptr 0 0 0,nd n,nd a] (gM g) (.tup []) (gM (gS n a g))
def JLs(l:List Nd):Prop:=∀(g:Gr),Gc g (wL l)→Hands X 174 [.ptr 0 0 0,.sl (Av l) .no] (gM g) (.tup []) (gM (gL l Cm g))
theorem Aif{l:List Nd}(hp:∀x,x∈l→PS x)(hs:∀x,x∈l→JSt x):JLs l:=by
 intro g hb;have hlw:=M9 l;have hbe:=hb.b.es;refine Hands.run func174 ?_;refine R8 1 0 3 (.sl [] .no) ?_;refine Ar (ι:=Nat) 2 3 (fun i=>i≤l.length) (fun i=>[(10,vi i),(9,vi l.length),(8,.sl (Av l) .no),(0,.ptr 0 0 0),(4,.ptr 1 0 0)])
  (fun i=>⟨[mx (gL (l.take i) Cm g).pts (iE (gL (l.take i) Cm g)) (gL (l.take i) Cm g).pt (gL (l.take i) Cm g).sts (gL (l.take i) Cm g).lps (gL (l.take i) Cm g).ver,[Ag ((l.take i).getLastD Cm)]],[(iE (gL (l.take i) Cm g)).length,(gL (l.take i) Cm g).sts.length,(gL (l.take i) Cm g).ver]⟩) (fun i=>l.length-i) ?_ 0
  (Cb _) ⟨rfl,by rw[←Ae l];rfl,rfl,rfl,rfl,trivial⟩
 intro i hi IH;have hgi:g.le (gL (l.take i) Cm g) (bG (wL (l.take i))):=M4 (fun x hx=>hp x (Ag7 hx)) Cm g hb.b.pt;refine Cp (fun h=>?_) (fun h=>?_)
 ·have hlt:i<l.length:=by have:=A6 h;omega
  obtain⟨x,hx⟩:=Ab l hlt;have hwt:=Ap4 hx;have hbi:Gc (gL (l.take i) Cm g) (wN x):=hb.step1 hgi (by simp only[bG];omega) (by simp only[bG];omega);refine Bv i (by omega) (Ap (l:=l) hx) ?_;refine Af (τ':=[0,1,2]) [0] [0,1,2] (hs x (Bn hx) ((l.take i).getLastD Cm) _ hbi) ?_;rw[←Aon hx];have hla:(l.take (i+1)).getLastD Cm=x:=by rw[Hq,hx];simp
  refine IH (i+1) hlt (by omega) _ _ ⟨vsx (by omega),rfl,rfl,rfl,rfl,trivial⟩ ?_ rfl rfl;simp only;rw[hla];rfl
 ·have:i=l.length:=by have:=Bd h;omega
  subst this;rw[Jh]at hgi⊢;exact Ek func174 rfl rfl
theorem Aie(g:Gr)(h1:g.pts≤1000000000000)(hl:g.es.length≤1000000000) :
 Hands X 175 [.ptr 0 0 0,vi 6,.agg [vi 0,str [],vi 0,.sl [] .no]] (gM g) (.tup []) (gM (Dt 6 Cm g)):=
 Adr g 6 Cm .leaf (by rw[Cm,Bi,A9]) (by decide) h1 hl
theorem Arm(s:Ad){a:Nd}(ha:FE a):Be (.mk 21 s 0 [a])=.mk 21 s 0 [a]:=by rw[Bi,Au,A9,I8 ha];rfl
theorem Arl(s:Ad){a b:Nd}(ha:FE a)(hb:FE b):Be (.mk 22 s 0 [a,b])=.mk 22 s 0 [a,b]:=by rw[Bi,Au,Au,A9,I8 ha,I8 hb];rfl
theorem Am7(s:Ad):Be (.mk 23 s 0 [])=.mk 23 s 0 []:=by rw[Bi,A9]
theorem Auh(l:Lp)(x:Int):(Aau l).take 9++[vi x]++(Aau l).drop (9+[vi x].length)=Aau { l with x:=x }:=by simp[Aau,Ag]
theorem Aq8(l:List Lp)(i:Nat)(e:Lp):(Kz l).set i (Aau e)=Kz (l.set i e):=by simp[Kz,Z1]
theorem Aq7{l:List Lp}{i:Nat}{e:Lp}(h:l[i]?=some e):(Kz l)[i]?=some (Aau e):=by simp[Kz,h]
theorem Ard{l:List Lp}{i:Nat}{e:Lp}(h:l[i]?=some e)(f:Lp→Lp):l.modify i f=l.set i (f e):=by
 apply Ab4;intro j;rw[List.getElem?_modify,Aer];by_cases hj:i=j
 ·subst hj;rw[h];simp[Aa h]
 ·simp[hj]
abbrev mS3(p:Nat)(es:List Eg)(at_:Nat)(sts:List Nat)(lps:List Lp)(v:Nat)(n a:Nd):St:=⟨[mx p es at_ sts lps v,[Ag n],[Ag a]],[es.length,sts.length,v]⟩
abbrev gM3(g:Gr)(n a:Nd):St:=mS3 g.pts (iE g) g.pt g.sts g.lps g.ver n a
set_option maxHeartbeats 4000000 in
theorem A2p{n:Nd}(h:PS n):JSt n:=by
 induction h with
 |set s x h hx=>
  intro a g hb;have b1:=hb.b.pts;have b2:=hb.b.es;have b3:=hb.lps;have b4:=hb.sts;refine Hands.run func236 ?_;rw[Aam];refine Ay ?_;refine Af (τ':=[0,1,2]) [0] [0,1,2] (Adr g 1 (.mk 21 s 0 [x]) (Ahk (.set s x h hx)) (Arm s hx) (by omega) (by omega) (by omega)) ?_;exact Ek func236 rfl rfl
 |put s x y h hx hy=>
  intro a g hb;have b1:=hb.b.pts;have b2:=hb.b.es;have b3:=hb.lps;have b4:=hb.sts;refine Hands.run func236 ?_;rw[Aal];refine Ah ?_;refine Ay ?_;refine Af (τ':=[0,1,2]) [0] [0,1,2] (Adr g 2 (.mk 22 s 0 [x,y]) (Ahk (.put s x y h hx hy)) (Arl s hx hy) (by omega) (by omega) (by omega)) ?_;exact Ek func236 rfl rfl
 |read s h=>
  intro a g hb;have b1:=hb.b.pts;have b2:=hb.b.es;have b3:=hb.lps;have b4:=hb.sts;refine Hands.run func236 ?_;rw[Wc];refine Ah ?_;refine Ah ?_;refine Ay ?_;refine Af (τ':=[0,1,2]) [0] [0,1,2] (Adr g 3 (.mk 23 s 0 []) (Ahk (.read s h)) (Am7 s) (by omega) (by omega) (by omega)) ?_;exact Ek func236 rfl rfl
 |check c hc=>
  intro a g hb;have b1:=hb.b.pts;have b2:=hb.b.es;have b3:=hb.lps;have b4:=hb.sts;refine Hands.run func236 ?_;have hwc:wN c<wN (.mk 27 [] 0 [c]):=Jx (n:=.mk 27 [] 0 [c]) (by simp);rw[Q9];refine Ah ?_;refine Ah ?_;refine Ah ?_;refine Ay ?_;refine Bv 0 (by omega) (Ap (l:=[c]) rfl) ?_;refine Af (τ':=[0,1,2]) [0] [0,1,2] (Adr g 5 c (Uk hc) (To hc) (by omega) (by omega) (by omega)) ?_;exact Ek func236 rfl rfl
 |skip=>
  intro a g hb;have b1:=hb.b.pts;have b2:=hb.b.es;have b3:=hb.lps;have b4:=hb.sts;refine Hands.run func236 ?_;rw[We];refine Ah ?_;refine Ah ?_;refine Ah ?_;refine Ah ?_;refine Ay ?_;refine Af (τ':=[0,1,2]) [0] [0,1,2] (Aie g (by omega) (by omega)) ?_;exact Ek func236 rfl rfl
 |stop=>
  intro a g hb;have b1:=hb.b.pts;have b2:=hb.b.es;have b3:=hb.lps;have b4:=hb.sts;refine Hands.run func236 ?_;rw[Wg];refine Ah ?_;refine Ah ?_;refine Ah ?_;refine Ah ?_;refine Ah ?_;refine Ay ?_;refine Eo 36864 ?_;refine C4 (Cn (res:=T4 (g.sts++[g.es.length])) rfl rfl rfl rfl rfl rfl rfl rfl rfl rfl rfl rfl rfl rfl (Ox _) (Amr _) rfl rfl rfl ?_ ?_ rfl) ?_
  ·rw[Ox];show g.sts.length+1≤_;omega
  ·show T4 g.sts++[[vi (Fg (iE g)).length]]=_;rw[Kh,U4,Adq]
  refine A0 ?_;refine A0 ?_;refine C4 (Bg rfl rfl rfl rfl rfl rfl rfl) ?_;refine Bu ?_;refine Bl ⟨[mx g.pts (iE g) g.pt (g.sts++[g.es.length]) g.lps g.ver,[Ag (.mk 29 [] 0 [])],[Ag a]],[(iE g).length,(g.sts++[g.es.length]).length,g.ver]⟩ ?_ (by simp[T4]);refine Af (τ':=[0,1,2]) [0] [0,1,2] (Ach g.pts (iE g) g.pt (g.sts++[g.es.length]) g.lps g.ver g.pt 0 7 false (by rw[U4];omega)) ?_;refine Af (τ':=[0,1,2]) [0] [0,1,2] (Aci g.pts _ g.pt (g.sts++[g.es.length]) g.lps g.ver (by omega)) ?_;rw[←Ax8];exact Ek func236 rfl rfl
 |ifs c l l' hc hl hl' ihl ihl'=>
  intro a g hb;have b1:=hb.b.pts;have b2:=hb.b.es;have b3:=hb.lps;have b4:=hb.sts;refine Hands.run func236 ?_;have hwc:wN c<wN (.mk 24 [] 0 [c,.mk 30 [] 0 l,.mk 30 [] 0 l']):=Jx (n:=.mk 24 [] 0 [c,.mk 30 [] 0 l,.mk 30 [] 0 l']) (by simp);have hws:wN (.mk 24 [] 0 [c,.mk 30 [] 0 l,.mk 30 [] 0 l'])=3+wN c+wL l+wL l':=by simp only[wN,wL,Xi];omega
  rw[Afy];unfold gIf;refine Ah ?_;refine Ah ?_;refine Ah ?_;refine Ah ?_;refine Ah ?_;refine Ah ?_;refine Ay ?_;refine Bv 0 (by omega) (Ap (l:=[c,.mk 30 [] 0 l,.mk 30 [] 0 l']) rfl) ?_;refine Af (τ':=[0,1,2]) [0] [0,1,2] (Aoy g g.pt c true (Uk hc) (To hc) (by omega) (by omega) (by omega)) ?_;refine Bl (gM3 (Ei g.pt c true g) (.mk 24 [] 0 [c,.mk 30 [] 0 l,.mk 30 [] 0 l']) a) ?_;have l1:=Qq g.pt c true hb.b.pt;have c1:Gc (Ei g.pt c true g) (wL l):=hb.step1 l1 (by omega) (by omega);have a2:=M4 hl Cm _ c1.b.pt;refine Bv 1 (by omega) (Ap (l:=[c,.mk 30 [] 0 l,.mk 30 [] 0 l']) rfl) ?_;refine Af (τ':=[0,1,2]) [0] [0,1,2] (Aif hl ihl (Ei g.pt c true g) c1) ?_;refine Bl (gM3 (gL l Cm (Ei g.pt c true g)) (.mk 24 [] 0 [c,.mk 30 [] 0 l,.mk 30 [] 0 l']) a) ?_;have l12:=l1.trans a2 (Bt _);generalize gL l Cm (Ei g.pt c true g)=g2 at *;have c2:Gc g2 (wL l'+1):=hb.step1 l12 (by simp only[bG];omega) (by simp only[bG];omega);have b5:=c2.b.pts;have b6:=c2.b.es;refine Bv 0 (by omega) (Ap (l:=[c,.mk 30 [] 0 l,.mk 30 [] 0 l']) rfl) ?_;refine Af (τ':=[0,1,2]) [0] [0,1,2] (Aoy g2 g.pt c false (Uk hc) (To hc) (by omega) (by omega) (by omega)) ?_;refine Bl (gM3 (Ei g.pt c false g2) (.mk 24 [] 0 [c,.mk 30 [] 0 l,.mk 30 [] 0 l']) a) ?_;have hp2:g.pt<g2.pts:=Ng hb.b.pt l12.pts.1;have l3:=Qq g.pt c false hp2;have c3:Gc (Ei g.pt c false g2) (wL l'):=c2.step1 l3 (by omega) (by omega);have a4:=M4 hl' Cm _ c3.b.pt;refine Bv 2 (by omega) (Ap (l:=[c,.mk 30 [] 0 l,.mk 30 [] 0 l']) rfl) ?_;refine Af (τ':=[0,1,2]) [0] [0,1,2] (Aif hl' ihl' (Ei g.pt c false g2) c3) ?_;refine Bl (gM3 (gL l' Cm (Ei g.pt c false g2)) (.mk 24 [] 0 [c,.mk 30 [] 0 l,.mk 30 [] 0 l']) a) ?_;have l34:=l3.trans a4 (Bt _);generalize gL l' Cm (Ei g.pt c false g2)=g4 at *;have c4:Gc g4 0:=c2.step1 l34 (by simp only[bG];omega) (by simp only[bG];omega);have b7:=c4.b.pts;have b8:=c4.b.es;refine Af (τ':=[0,1,2]) [0] [0,1,2] (Aci g4.pts (iE g4) g4.pt g4.sts g4.lps g4.ver (by omega)) ?_;refine Bl (mS3 (g4.pts+1) (iE g4) g4.pt g4.sts g4.lps g4.ver (.mk 24 [] 0 [c,.mk 30 [] 0 l,.mk 30 [] 0 l']) a) ?_;refine Af (τ':=[0,1,2]) [0] [0,1,2] (Ach (g4.pts+1) (iE g4) g4.pt g4.sts g4.lps g4.ver g2.pt g4.pts 6 false (by rw[U4];omega)) ?_;refine Bl (mS3 (g4.pts+1) (iE g4++[⟨g2.pt,g4.pts,6,false,Cm⟩]) g4.pt g4.sts g4.lps g4.ver (.mk 24 [] 0 [c,.mk 30 [] 0 l,.mk 30 [] 0 l']) a) ?_;refine Af (τ':=[0,1,2]) [0] [0,1,2] (Ach (g4.pts+1) (iE g4++[⟨g2.pt,g4.pts,6,false,Cm⟩]) g4.pt g4.sts g4.lps g4.ver g4.pt g4.pts 6 false ?_) ?_
  ·obtain⟨e1,e2,e3,_⟩:=l34.es;have:=c2.b.es;simp only[bG]at e3;rw[F5,U4,e2,F5];simp only[Ab0];omega
  rw[←Ax6];exact Ek func236 rfl rfl
 |whil c l hc hl ihl=>
  intro a g hb;have b1:=hb.b.pts;have b2:=hb.b.es;have b3:=hb.lps;have b4:=hb.sts;refine Hands.run func236 ?_;have hwc:wN c<wN (.mk 25 [] 0 [c,.mk 30 [] 0 l]):=Jx (n:=.mk 25 [] 0 [c,.mk 30 [] 0 l]) (by simp);have hws:wN (.mk 25 [] 0 [c,.mk 30 [] 0 l])=2+wN c+wL l:=by simp only[wN,wL,Xi];omega
  have hwn:=Xf c;rw[Afz];unfold gWh;refine Ah ?_;refine Ah ?_;refine Ah ?_;refine Ah ?_;refine Ah ?_;refine Ah ?_;refine Ah ?_;refine Ay ?_;refine Af (τ':=[0,1,2]) [0] [0,1,2] (Aie g (by omega) (by omega)) ?_;refine Bl (gM3 (Dt 6 Cm g) (.mk 25 [] 0 [c,.mk 30 [] 0 l]) a) ?_;refine Anx ?_;refine Eo 9216 ?_;refine C4 (Pe (ver:=g.ver) rfl (Ake g.lps) (Amy ⟨a,(.mk 25 [] 0 [c,.mk 30 [] 0 l]),g.pts,0⟩) ?_ (Amz g.lps ⟨a,(.mk 25 [] 0 [c,.mk 30 [] 0 l]),g.pts,0⟩) rfl rfl rfl rfl rfl rfl rfl rfl rfl rfl rfl rfl rfl rfl rfl rfl rfl) ?_
  ·rw[Aav];simp;omega
  refine A0 ?_;refine A0 ?_;refine C4 (Bg rfl rfl rfl rfl rfl rfl rfl) ?_;refine Bu ?_;have l1:=Mm 6 Cm hb.b.pt;have l2:=Ail a (.mk 25 [] 0 [c,.mk 30 [] 0 l]) l1.pt;have l12:=l1.trans l2 (Bt _);have c0:Gc (Ic a (.mk 25 [] 0 [c,.mk 30 [] 0 l]) (Dt 6 Cm g)) (wL l+1):=hb.step1 l12 (by omega) (by omega);refine Bl (gM3 (Ic a (.mk 25 [] 0 [c,.mk 30 [] 0 l]) (Dt 6 Cm g)) (.mk 25 [] 0 [c,.mk 30 [] 0 l]) a) ?_;refine Ix 9 (vi g.pts) ?_;refine Ix 10 (vi g.lps.length) ?_ (by show lk _ 10=_;rw[←Aav];rfl);refine Bv 0 (by omega) (Ap (l:=[c,.mk 30 [] 0 l]) rfl) ?_;have hh:g.pts<(Ic a (.mk 25 [] 0 [c,.mk 30 [] 0 l]) (Dt 6 Cm g)).pts:=by simp[Ic,Dt]
  have hlk:(Ic a (.mk 25 [] 0 [c,.mk 30 [] 0 l]) (Dt 6 Cm g)).lps[g.lps.length]?=some ⟨a,(.mk 25 [] 0 [c,.mk 30 [] 0 l]),g.pts,0⟩:=by simp[Ic,Dt]
  generalize Ic a (.mk 25 [] 0 [c,.mk 30 [] 0 l]) (Dt 6 Cm g)=g1 at *;have b5:=c0.b.pts;have b6:=c0.b.es;refine Af (τ':=[0,1,2]) [0] [0,1,2] (Aoy g1 g.pts c true (Uk hc) (To hc) (by omega) (by omega) (by omega)) ?_;refine Bl (gM3 (Ei g.pts c true g1) (.mk 25 [] 0 [c,.mk 30 [] 0 l]) a) ?_;have l3:=Qq g.pts c true hh;have c1:Gc (Ei g.pts c true g1) (wL l):=c0.step1 l3 (by omega) (by omega);have a2:=M4 hl Cm _ c1.b.pt;refine Bv 1 (by omega) (Ap (l:=[c,.mk 30 [] 0 l]) rfl) ?_;refine Af (τ':=[0,1,2]) [0] [0,1,2] (Aif hl ihl (Ei g.pts c true g1) c1) ?_;refine Bl (gM3 (gL l Cm (Ei g.pts c true g1)) (.mk 25 [] 0 [c,.mk 30 [] 0 l]) a) ?_;have l34:=l3.trans a2 (Bt _);have hh2:=Ng hh l34.pts.1;obtain⟨lx,hlx,_⟩:=l34.lps;have hlk2:(gL l Cm (Ei g.pts c true g1)).lps[g.lps.length]?=some ⟨a,(.mk 25 [] 0 [c,.mk 30 [] 0 l]),g.pts,0⟩:=by rw[hlx,Dd (Aa hlk)];exact hlk
  generalize gL l Cm (Ei g.pts c true g1)=g2 at *;have c2:Gc g2 0:=c0.step1 l34 (by simp only[bG];omega) (by simp only[bG];omega);have b7:=c2.b.pts;have b8:=c2.b.es;have b9:g2.es.length+1≤1000000000:=by
   obtain⟨e1,e2,e3,_⟩:=l34.es;have:=c0.b.es;simp only[bG]at e3;rw[e2,F5];omega
  refine Af (τ':=[0,1,2]) [0] [0,1,2] (Ach g2.pts (iE g2) g2.pt g2.sts g2.lps g2.ver g2.pt g.pts 6 false (by rw[U4];omega)) ?_;rw[←Ax5];refine Bl (gM3 (Ln g.pts g2) (.mk 25 [] 0 [c,.mk 30 [] 0 l]) a) ?_;refine Bv 0 (by omega) (Ap (l:=[c,.mk 30 [] 0 l]) rfl) ?_;refine Af (τ':=[0,1,2]) [0] [0,1,2] (Aoy (Ln g.pts g2) g.pts c false (Uk hc) (To hc) (by omega) (by show g2.pts≤_;omega) (by simp only[Ln,Jd];rw[F5];simp;omega)) ?_;refine Bl (gM3 (Ei g.pts c false (Ln g.pts g2)) (.mk 25 [] 0 [c,.mk 30 [] 0 l]) a) ?_;have hlk3:(Ei g.pts c false (Ln g.pts g2)).lps[g.lps.length]?=some ⟨a,(.mk 25 [] 0 [c,.mk 30 [] 0 l]),g.pts,0⟩:=hlk2;generalize Ei g.pts c false (Ln g.pts g2)=g3 at *;have hll:g.lps.length<(Kz g3.lps).length:=by rw[Aav];exact Aa hlk3
  have hlr:=Aq7 hlk3;have hmod:=Ard hlk3 fun l=>{ l with x:=g3.pt }
  refine Eo 2048 ?_;refine A4 (Acf (n:=g.lps.length) hll rfl (Ake _) rfl rfl rfl rfl rfl rfl rfl rfl) ?_;refine A0 ?_;refine C4 (Ahl (b:=0) (r:=0) (g:=4) (xs:=[vi g3.pt]) (bx:=[mx g3.pts (iE g3) g3.pt g3.sts (g3.lps.modify g.lps.length fun l=>{ l with x:=g3.pt }) (g3.ver+1),[Ag (.mk 25 [] 0 [c,.mk 30 [] 0 l])],[Ag a]]) (tk':=[(iE g3).length,g3.sts.length,g3.ver+1])
   rfl hlr (by show 9+1≤10;omega) (fun z hz=>by simp at hz;subst hz;exact .val _) rfl rfl rfl ?_ rfl rfl rfl rfl rfl rfl rfl rfl rfl) ?_
  ·show [[[vi g3.pts,.psl (Fg (iE g3)) 0 (iE g3).length,vi g3.pt,.sl (T4 g3.sts) (.tok 1),.psl ((Kz g3.lps).set g.lps.length ((Aau ⟨a,(.mk 25 [] 0 [c,.mk 30 [] 0 l]),g.pts,0⟩).take 9++[vi g3.pt]++(Aau ⟨a,(.mk 25 [] 0 [c,.mk 30 [] 0 l]),g.pts,0⟩).drop (9+[vi g3.pt].length))) 2 (g3.ver+1)]],[Ag (.mk 25 [] 0 [c,.mk 30 [] 0 l])],[Ag a]]=_;rw[Auh,Aq8,hmod]
  refine Bu ?_;exact Ek func236 rfl rfl
def stI(k:Nat):List Eg→List Nat
 |[]=>[]
 |e::l=>if e.t<0 then k::stI (k+1) l else stI (k+1) l
theorem Ai6:∀(l l':List Eg)(k:Nat),stI k (l++l')=stI k l++stI (k+l.length) l'
 |[],l',k=>by simp[stI]
 |e::l,l',k=>by
  simp only[R1,stI,N6];rw[Ai6 l l' (k+1),show k+1+l.length=k+(l.length+1) by omega];split<;>simp
theorem Av3{l:List Eg}(h:∀e,e∈l→0≤e.t)(k:Nat):stI k l=[]:=by
 induction l generalizing k with
 |nil=>rfl
 |cons e l ih=>
  have:=h e (by simp);simp only[stI];rw[if_neg (by omega)];exact ih (fun x hx=>h x (by simp[hx])) (k+1)
theorem Anp:∀(l:List Eg)(k i:Nat),i∈stI k l→i<k+l.length
 |[],k,i,h=>by simp[stI]at h
 |e::l,k,i,h=>by
  simp only[stI]at h;simp only[N6];split at h
  ·rcases zzq8.1 h with rfl|h
   ·omega
   ·have:=Anp l (k+1) i h;omega
  ·have:=Anp l (k+1) i h;omega
theorem Apu:∀(l:List Eg)(k:Nat),(stI k l).length≤l.length
 |[],k=>by simp[stI]
 |e::l,k=>by
  simp only[stI,N6];have:=Apu l (k+1);split<;>simp<;>omega
def SI(g:Gr):Prop:=g.sts=stI 0 g.es
theorem Ahm{g g':Gr}(h:SI g)(l:List Eg)(he:g'.es=g.es++l)(hl:∀e,e∈l→0≤e.t)(hs:g'.sts=g.sts):SI g':=by
 unfold SI at h⊢;rw[he,hs,h,Ai6,Av3 hl];simp
theorem Sf{g:Gr}(k:Int)(n:Nd)(h:SI g):SI (Dt k n g):=Ahm h _ rfl (fun e he=>by simp at he;subst he;simp) rfl
theorem Ahn{g:Gr}(p:Nat)(c:Nd)(y:Bool)(h:SI g):SI (Ei p c y g):=Ahm h _ rfl (fun e he=>by simp at he;subst he;simp) rfl
theorem Axa{g:Gr}(p:Nat)(h:SI g):SI (Ln p g):=Ahm h _ rfl (fun e he=>by simp at he;subst he;simp) rfl
theorem Axc{g:Gr}(p:Nat)(h:SI g):SI (Oi p g):=Ahm h [⟨p,g.pts,6,false,Cm⟩,⟨g.pt,g.pts,6,false,Cm⟩] (by simp[Oi,Jd]) (fun e he=>by simp at he;rcases he with rfl|rfl<;>simp) rfl
theorem Axe{g:Gr}(h:SI g):SI (Pj g):=by
 unfold SI at h⊢;simp only[Pj];rw[h,Ai6];simp[stI]
theorem Axd{g:Gr}(a n:Nd)(h:SI g):SI (Ic a n g):=h
theorem Axb{g:Gr}(i:Nat)(h:SI g):SI (Uy i g):=h
theorem Aw9{l:List Nd}(h:∀x,x∈l→∀(a:Nd)(g:Gr),SI g→SI (gS x a g)):∀(a:Nd)(g:Gr),SI g→SI (gL l a g):=by
 induction l with
 |nil=>intro a g hg;exact hg
 |cons x l ih=>intro a g hg;rw[Y5];exact ih (fun y hy=>h y (by simp[hy])) x _ (h x (by simp) a g hg)
theorem A4w{n:Nd}(h:PS n):∀(a:Nd)(g:Gr),SI g→SI (gS n a g):=by
 induction h with
 |set s b h hb=>intro a g hg;rw[Aam];exact Sf _ _ hg
 |put s b c h hb hc=>intro a g hg;rw[Aal];exact Sf _ _ hg
 |read s h=>intro a g hg;rw[Wc];exact Sf _ _ hg
 |ifs c l l' hc hl hl' ihl ihl'=>intro a g hg;rw[Afy];unfold gIf;exact Axc _ (Aw9 ihl' _ _ (Ahn _ _ _ (Aw9 ihl _ _ (Ahn _ _ _ hg))))
 |whil c l hc hl ihl=>intro a g hg;rw[Afz];unfold gWh;exact Axb _ (Ahn _ _ _ (Axa _ (Aw9 ihl _ _ (Ahn _ _ _ (Axd _ _ (Sf 6 Cm hg))))))
 |check c hc=>intro a g hg;rw[Q9];exact Sf _ _ hg
 |skip=>intro a g hg;rw[We];exact Sf _ _ hg
 |stop=>intro a g hg;rw[Wg];exact Axe hg
def N0(x:Int):List Eg→List Nat→List Eg
 |l,[]=>l
 |l,i::s=>N0 x (l.modify i fun e=>{ e with t:=x }) s
theorem Aej(x:Int):∀(l:List Eg)(s:List Nat)(i:Nat),N0 x l (s++[i])=(N0 x l s).modify i fun e=>{ e with t:=x }
 |l,[],i=>rfl
 |l,j::s,i=>Aej x _ s i
theorem Aa8(x:Int):∀(l:List Eg)(s:List Nat),(N0 x l s).length=l.length
 |l,[]=>rfl
 |l,j::s=>by simp only[N0];rw[Aa8];simp
theorem Agn(x:Int):∀(l pre:List Eg),N0 x (pre++l.map (Ed 0)) (stI pre.length l)=pre++l.map (Ed x)
 |[],pre=>by simp[stI,N0]
 |e::l,pre=>by
  simp only[stI,Om];have ih:=Agn x l (pre++[Ed x e]);have e1:(pre++[Ed x e]).length=pre.length+1:=by simp
  rw[e1]at ih;split
  ·rename_i ht;simp only[N0];rw[Ady];have:(Ed 0 e::l.map (Ed 0)).modify 0 (fun e=>{ e with t:=x })=Ed x e::l.map (Ed 0):=by simp[Ed,ht]
   rw[this];simpa using ih
  ·rename_i ht;have:Ed 0 e=Ed x e:=by simp[Ed,ht]
   rw[this];simpa using ih
theorem Aqt(e:Eg)(x:Int):(Io e).take 1++[vi x]++(Io e).drop (1+[vi x].length)=Io { e with t:=x }:=by simp[Io]
theorem Am1{l:List Eg}{i:Nat}{e:Eg}(h:l[i]?=some e)(f:Eg→Eg):l.modify i f=l.set i (f e):=by
 apply Ab4;intro j;rw[List.getElem?_modify,Aer];by_cases hj:i=j
 ·subst hj;rw[h];simp[Aa h]
 ·simp[hj]
abbrev A5f(l:List Nd):An:=[vi (D9 l).pts,.sl (Fg (Ia l)) .no,vi (D9 l).pt,.sl (T4 (D9 l).sts) .no,.sl (Kz (D9 l).lps) .no]
theorem A2o(P:Nd)(hne:P.kids≠[])(hps:∀x,x∈(Dy P).kids→PS x)(hw:wL (Dy P).kids≤10000000)(hk:P.kids.length≤1000000000) :
 Pure X 116 [nd P] (.cptr (A5f (Dy P).kids)):=by
 show Pure X 116 [nd P] (.cptr [vi (D9 (Dy P).kids).pts,.sl (Fg ((D9 (Dy P).kids).es.map (Ed (D9 (Dy P).kids).pt))) .no,vi (D9 (Dy P).kids).pt,.sl (T4 (D9 (Dy P).kids).sts) .no,.sl (Kz (D9 (Dy P).kids).lps) .no]);refine Pure.run func116 ?_;refine Ui (bx:=[[Ag P],[[vi 1,.psl [] 0 0,vi 0,.sl [] .tight,.sl [] .tight]]]) (tk:=[0]) 1 0 1 ?_;refine E6 (bx:=[[Ag P],[[vi 1,.psl [] 0 0,vi 0,.sl [] (.tok 1),.sl [] .tight]]]) (tk:=[0,0]) 1 0 3 rfl rfl rfl rfl rfl rfl ?_;refine Ui (bx:=[[Ag P],mx 1 (iE ⟨1,0,[],[],[],0⟩) 0 [] [] 0]) (tk:=[0,0,0]) 1 0 4 ?_;refine Ix 3 (.ptr 1 0 0) ?_;refine Ix 9 (.ptr 1 0 0) ?_;have c0:Gc ⟨1,0,[],[],[],0⟩ (wL (Dy P).kids):=⟨⟨by decide,by show 1+_≤_;omega,by show 0+_≤_;omega⟩,by show 0+_≤_;omega,by show 0+_≤_;omega⟩
 have l0:=M4 hps Cm _ c0.b.pt;have s0:SI (gL (Dy P).kids Cm ⟨1,0,[],[],[],0⟩):=Aw9 (fun x hx=>A4w (hps x hx)) _ _ rfl;refine Aj (Avc P hne hk) ?_;refine Af (τ':=[0,1,2]) [1] [0,1,2] (Aif hps (fun x hx=>A2p (hps x hx)) _ c0) ?_;have c1:Gc (gL (Dy P).kids Cm ⟨1,0,[],[],[],0⟩) 0:=c0.step1 l0 (by simp only[bG];omega) (by simp only[bG];omega);have hA:D9 (Dy P).kids=Dt 6 Cm (gL (Dy P).kids Cm ⟨1,0,[],[],[],0⟩):=rfl;rw[hA];generalize gL (Dy P).kids Cm ⟨1,0,[],[],[],0⟩=g at *;have b1:=c1.b.pts;have b2:=c1.b.es;refine Bl ⟨[[Ag P],mx g.pts (iE g) g.pt g.sts g.lps g.ver],[(iE g).length,g.sts.length,g.ver]⟩ ?_;refine Af (τ':=[0,1,2]) [1] [0,1,2] (Aie g (by omega) (by omega)) ?_;have s1:SI (Dt 6 Cm g):=Sf 6 Cm s0;have b3:(Dt 6 Cm g).es.length≤1000000001:=by simp[Dt];omega
 generalize Dt 6 Cm g=h at *;have hst:N0 h.pt (iE h) h.sts=h.es.map (Ed h.pt):=by
  rw[s1];exact Agn h.pt h.es []
 have hsl:h.sts.length≤h.es.length:=by rw[s1];exact Apu _ _
 have hslt:∀i,i∈h.sts→i<(iE h).length:=fun i hi=>by
  rw[s1]at hi;have:=Anp _ _ _ hi;rw[U4];omega
 refine Bl ⟨[[Ag P],[[vi h.pts,.psl (Fg (N0 h.pt (iE h) (h.sts.take 0))) 0 ((iE h).length+0),vi h.pt,.sl (T4 h.sts) (.tok 1),.psl (Kz h.lps) 2 h.ver]]],[(iE h).length+0,h.sts.length,h.ver]⟩ ?_;refine Ar (ι:=Nat) 2 3 (fun i=>i≤h.sts.length) (fun i=>[(22,vi i),(21,vi h.sts.length),(20,.sl (T4 h.sts) (.tok 1)),(3,.ptr 1 0 0)])
  (fun i=>⟨[[Ag P],[[vi h.pts,.psl (Fg (N0 h.pt (iE h) (h.sts.take i))) 0 ((iE h).length+i),vi h.pt,.sl (T4 h.sts) (.tok 1),.psl (Kz h.lps) 2 h.ver]]],[(iE h).length+i,h.sts.length,h.ver]⟩) (fun i=>h.sts.length-i) ?_ 0
  (Cb _) ⟨rfl,by rw[←Ox h.sts];rfl,rfl,rfl,trivial⟩
 intro i hi IH;refine Cp (fun h2=>?_) (fun h2=>?_)
 ·have hlt:i<h.sts.length:=by have:=A6 h2;omega
  obtain⟨k,hk⟩:=Ab h.sts hlt;have hkl:=hslt k (Bn hk);have hgk:(T4 h.sts)[i]?=some [vi k]:=by simp[T4,hk]
  have hkr:k<(Fg (N0 h.pt (iE h) (h.sts.take i))).length:=by rw[Kh,Aa8];exact hkl
  obtain⟨e,he⟩:=Ab (N0 h.pt (iE h) (h.sts.take i)) (i:=k) (by rw[Aa8];exact hkl);have hrow:=Ge he;have hsn:N0 h.pt (iE h) (h.sts.take (i+1))=(N0 h.pt (iE h) (h.sts.take i)).modify k fun e=>{ e with t:=h.pt }:=by
   rw[Hq,hk];exact Aej _ _ _ _
  refine Bv i (by omega) hgk ?_;refine Eo 4096 ?_;refine A4 (Acf (n:=k) hkr rfl (Uv _) rfl rfl rfl rfl rfl rfl rfl rfl) ?_;refine A0 ?_;refine C4 (Ahl (b:=1) (r:=0) (g:=1) (xs:=[vi h.pt]) (bx:=[[Ag P],[[vi h.pts,.psl (Fg (N0 h.pt (iE h) (h.sts.take (i+1)))) 0 ((iE h).length+(i+1)),vi h.pt,.sl (T4 h.sts) (.tok 1),.psl (Kz h.lps) 2 h.ver]]]) (tk':=[(iE h).length+(i+1),h.sts.length,h.ver])
   rfl hrow (by show 1+1≤8;omega) (fun z hz=>by simp at hz;subst hz;exact .val _) rfl rfl rfl ?_ rfl rfl rfl rfl rfl rfl rfl rfl rfl) ?_
  ·show [[Ag P],[[vi h.pts,.psl ((Fg (N0 h.pt (iE h) (h.sts.take i))).set k ((Io e).take 1++[vi h.pt]++(Io e).drop (1+[vi h.pt].length))) 0 ((iE h).length+i+1),vi h.pt,.sl (T4 h.sts) (.tok 1),.psl (Kz h.lps) 2 h.ver]]]=_;rw[Aqt,Afs,hsn,Am1 he];rfl
  refine Bu ?_;exact IH (i+1) hlt (by omega) _ _ ⟨vsx (by omega),rfl,rfl,rfl,trivial⟩ rfl rfl rfl
 ·have:i=h.sts.length:=by have:=Bd h2;omega
  subst this;rw[Jh,hst];exact Ao func116 rfl
theorem Aq0(P:Nd)(hne:P.kids≠[])(hps:∀x,x∈(Dy P).kids→PS x)(hw:wL (Dy P).kids≤10000000)(hk:P.kids.length≤1000000000) :
 Pure X 105 [nd P] (.agg [vi (D9 (Dy P).kids).pts,.sl (Fg (Ia (Dy P).kids)) .no]):=by
 refine Pure.run func105 ?_;refine Aj (A2o P hne hps hw hk) ?_;exact Ao func105 rfl
end Go.V
namespace Go.V
open Go
section
variable {X:Cx}{E:Env}{S:St}{w:World}{F:Cw}{N:Nat}{ops:Array Oper}{i:Nat}{o:Oper}{p q:Operand}
theorem Jz{t e n b:Nat}{ik ik':IntKind}{y ye:Ty}{bx:B3}(hn:n≤1000000000)(hb:S.boxes.length=b)(hbx:S.boxes++[List.replicate n ye.zero]=bx)(ho:ops[i]?=some o)(hw:Bc ops F o=some true)(hop:o.op=.makeSlice t p q)
 (hp:Dv X F p=some (.val (.int ik n)))(hq:Dv X F q=some (.val (.int ik' n)))(hy:X.ty t=some y)(hk:y.k=.slc e)(hye:X.ty e=some ye):Ndo X N ops i o F (.bsl b n) S ⟨bx,S.toks⟩:=by
 subst hbx;subst hb;intro F' E w a hl hI hF;have hlo:=Hi hl;rw[hop]at hlo;have r1:=Am hI hF ((Dq (X:=X) (F:=F) (F':=F') (o:=p) fun s hs=>hlo s (by simp[Op.operands,hs])).trans hp);have r2:=Am hI hF ((Dq (X:=X) (F:=F) (F':=F') (o:=q) fun s hs=>hlo s (by simp[Op.operands,hs])).trans hq);cases hh1:a.eval p<;>rw[hh1]at r1<;>cases r1;cases hh2:a.eval q<;>rw[hh2]at r2<;>cases r2;obtain⟨d,hd,hdd⟩:=(X.ty_ok t y hy).agg;simp only[hk]at hdd;obtain⟨rfl,ye',hye',hne⟩:=hdd;rw[hye]at hye';cases hye';obtain⟨z,hz,hzc,hzl,i',hi,hiz,his,hib⟩:=Ke hye w;have hzs:z.cells.size=ye.size:=by rw[←hzl,←hzc];simp
 have hbn:i'.bytes*n≤1024*n:=Uf _ hib;have hrun:=run_make (P:=X.P) w t e i' z hd hi hiz ik ik' (n:Int) (n:Int) (by omega) (Int.le_refl _) (by
  have:((i'.bytes*n:Nat):Int)≤281474976710656:=by omega
  rwa[Int.natCast_mul]at this) (by omega)
 simp only[I3]at hrun;have hg0:Sb E w ye.size (madeCells z.cells (n*i'.size)) (List.replicate n ye.zero):=by
  refine Wh hzc hzl _ (by rw[size_madeCells,his]) (fun j hj=>?_);have hm:j%ye.size<z.cells.size:=by rw[hzs];exact Nat.mod_lt _ (Ali hne)
  unfold madeCells;rw[his];have hr0:(Array.range (n*ye.size))[j]?=some j:=by simp[hj]
  rw[Array.getElem?_map,hr0];simp only[K4];rw[hzs,getElem!_pos z.cells (j%ye.size) hm,Ag4 hm]
 obtain⟨ev,hI'⟩:=hI.newBox (w':=w.alloc (.cells (madeCells z.cells (n*i'.size)) e)) (cs:=madeCells z.cells (n*i'.size)) (e:=e) (sz:=ye.size) (rows:=List.replicate n ye.zero) rfl rfl rfl rfl hg0.1 hg0.2.1 hg0.2.2;refine Does.val ho (Cu hF (by rw[Dc hl];exact hw)) (v:=.slice (some ⟨w.heap.size,0,none⟩) n n) (by simp[execOp,hop,hh1,hh2,hrun]) (.inl rfl) ⟨_,hI',ev,?_⟩;exact .bsl S.boxes.length w.heap.size ye.size n n (by rw[←hI.nb];exact getElem?_snoc_new _ _) (Bt _)
end
end Go.V
namespace Go.V
open Go Go.Proofs Go.Proofs.Tryz
def Fh(l:List Int):A7:=l.map fun m=>[vi m]
theorem Fb(l:List Int):(Fh l).length=l.length:=by simp[Fh]
theorem Awj(l:List Int):Mf 1 (Fh l)=true:=Pf (f:=fun(i:Int)=>[vi i]) (fun _=>rfl) l
theorem Nr{l:List Int}{i:Nat}{m:Int}(h:l[i]?=some m):(Fh l)[i]?=some [vi m]:=by simp[Fh,h]
instance{n m:Nat}{l:List Int}:OKR n m (Fh l):=⟨fun r hr x hx=>by obtain⟨e,_,rfl⟩:=zzq50.1 hr;simp at hx;subst hx;exact .val _⟩
def Fq(n:Nd):List Int:=(Nu n 32).map Nd.num
theorem Ahu(n:Nd)(k:Int):A3 n k=(Nu n k).map Nd.name:=rfl
theorem Adg(n:Nd)(k:Int):(Nu n k).length≤n.kids.length:=by
 unfold Nu;exact Vt (Ag5 _ _) (by simp)
theorem Agh(n:Nd)(k:Int)(hne:n.kids≠[])(hl:n.kids.length≤1000000000):Pure X 106 [nd n,vi k] (.sl (Eu (A3 n k)) .no):=by
 have hdl:=Adg n k;rw[Ahu];refine Pure.run func106 ?_;refine Aj (Tr n k hne hl) ?_;generalize Nu n k=ds at *;refine R6 (d:=5) rfl rfl rfl ?_;refine Ar (ι:=Nat) 1 1 (fun i=>i≤ds.length) (fun i=>[(13,vi i),(12,vi ds.length),(11,.sl (Av ds) .no),(5,.sl (Eu ((ds.take i).map Nd.name)) (.tok 0))]) (fun i=>⟨[[Ag n]],[i]⟩) (fun i=>ds.length-i) ?_ 0
  (Cb _) ⟨rfl,by rw[←Ae ds];rfl,rfl,rfl,trivial⟩
 intro i hi IH;have htl:(Eu ((ds.take i).map Nd.name)).length=i:=by rw[Ft];simp;omega
 refine Cp (fun h=>?_) (fun h=>?_)
 ·have hlt:i<ds.length:=by have:=A6 h;omega
  obtain⟨x,hx⟩:=Ab ds hlt;refine Bv i (by omega) (Ap hx) ?_;refine Bs (Cn (res:=Eu ((ds.take (i+1)).map Nd.name)) rfl rfl rfl rfl rfl rfl rfl rfl rfl rfl rfl rfl rfl rfl htl (Acw _) rfl rfl rfl ?_ ?_ rfl) ?_
  ·rw[htl];simp;omega
  ·rw[Hq,hx];simp[Eu]
  refine IH (i+1) hlt (by omega) _ _ ⟨vsx (by omega),rfl,rfl,rfl,trivial⟩ ?_ rfl rfl;show St.mk [[Ag n]] [_+1]=St.mk [[Ag n]] [i+1];rw[htl]
 ·have:i=ds.length:=by have:=Bd h;omega
  subst this;rw[Jh];exact Ao func106 rfl
theorem Arw(n:Nd)(hne:n.kids≠[])(hl:n.kids.length≤1000000000):Pure X 107 [nd n] (.sl (Fh (Fq n)) .no):=by
 have hdl:=Adg n 32;unfold Fq;refine Pure.run func107 ?_;refine Aj (Tr n 32 hne hl) ?_;generalize Nu n 32=ds at *;refine R6 (d:=3) rfl rfl rfl ?_;refine Ar (ι:=Nat) 1 1 (fun i=>i≤ds.length) (fun i=>[(10,vi i),(9,vi ds.length),(8,.sl (Av ds) .no),(3,.sl (Fh ((ds.take i).map Nd.num)) (.tok 0))]) (fun i=>⟨[[Ag n]],[i]⟩) (fun i=>ds.length-i) ?_ 0
  (Cb _) ⟨rfl,by rw[←Ae ds];rfl,rfl,rfl,trivial⟩
 intro i hi IH;have htl:(Fh ((ds.take i).map Nd.num)).length=i:=by rw[Fb];simp;omega
 refine Cp (fun h=>?_) (fun h=>?_)
 ·have hlt:i<ds.length:=by have:=A6 h;omega
  obtain⟨x,hx⟩:=Ab ds hlt;refine Bv i (by omega) (Ap hx) ?_;refine Bs (Cn (res:=Fh ((ds.take (i+1)).map Nd.num)) rfl rfl rfl rfl rfl rfl rfl rfl rfl rfl rfl rfl rfl rfl htl (Awj _) rfl rfl rfl ?_ ?_ rfl) ?_
  ·rw[htl];simp;omega
  ·rw[Hq,hx];simp[Fh]
  refine IH (i+1) hlt (by omega) _ _ ⟨vsx (by omega),rfl,rfl,rfl,trivial⟩ ?_ rfl rfl;show St.mk [[Ag n]] [_+1]=St.mk [[Ag n]] [i+1];rw[htl]
 ·have:i=ds.length:=by have:=Bd h;omega
  subst this;rw[Jh];exact Ao func107 rfl
theorem Ay4(n:Nd)(hn:wN n≤1000000000):Pure X 99 [nd n] (.sl (Fh (Fq n)) .no):=by
 let sz (l:List Nd):List Int:=(l.filter fun x=>x.kind==32).map Nd.num
 have szle:∀l:List Nd,(sz l).length≤l.length:=fun l=>by simp only[sz,Py];exact Ag5 _ _
 refine Pure.run func99 ?_;have hkl:=Ho n;have hw:IntKind.i64.wrap ((Av n.kids).length-1:Int)=n.kids.length-1:=by rw[Ae];exact Ac (by omega) (by omega)
 refine R6 (d:=3) rfl rfl rfl ?_;refine Ar (ι:=Nat) 1 1 (fun i=>i≤n.kids.length-1) (fun i=>[(4,vi i),(3,.sl (Fh (sz (n.kids.take i))) (.tok 0)),(1,.ptr 0 0 0)]) (fun i=>⟨[[Ag n]],[(sz (n.kids.take i)).length]⟩) (fun i=>n.kids.length-i) ?_ 0
  (Cb _) ⟨rfl,rfl,rfl,trivial⟩
 intro i hi IH;refine Cp (fun h=>?_) (fun h=>?_)
 ·have hlt:i<n.kids.length-1:=by have:=A6 h;rw[hw]at this;omega
  obtain⟨x,hx⟩:=Ab n.kids (i:=i) (by omega);have hle:=szle (n.kids.take i);have htl:(n.kids.take i).length=i:=by simp;omega
  refine Bv i (by omega) (Ap hx) ?_;refine Ai (fun h2=>?_) (fun h2=>?_)
  ·have h2':(x.kind==32)=true:=h2;have hs:sz (n.kids.take (i+1))=sz (n.kids.take i)++[x.num]:=by simp[sz,Hq,hx,Aev,Ab3,h2']
   refine Bv i (by omega) (Ap hx) ?_;refine Bs (Cn (res:=Fh (sz (n.kids.take i)++[x.num])) rfl rfl rfl rfl rfl rfl rfl rfl rfl rfl rfl rfl rfl rfl (Fb _) (Awj _) rfl rfl rfl ?_ ?_ rfl) ?_
   ·rw[Fb];simp;omega
   ·simp[Fh]
   refine IH (i+1) (by omega) (by omega) _ _ ⟨vsx (by omega),?_,rfl,trivial⟩ ?_ rfl rfl
   ·rw[hs];rfl
   ·rw[hs];simp[St.drop,Fb]
  ·have h2':(x.kind==32)=false:=h2;have hs:sz (n.kids.take (i+1))=sz (n.kids.take i):=by simp[sz,Hq,hx,Aev,Ab3,h2']
   refine IH (i+1) (by omega) (by omega) _ _ ⟨vsx (by omega),?_,rfl,trivial⟩ ?_ rfl rfl
   ·rw[hs];rfl
   ·rw[hs];rfl
 ·have:i=n.kids.length-1:=by have:=Bd h;rw[hw]at this;omega
  refine Ao func99 ?_;rw[this,Fq,Nu,Alj]
end Go.V
namespace Go.V
open Go
section
variable {X:Cx}{B:Bx}{E:Env}{S:St}{w:World}{F:Cw}{a:Act}{N:Nat}{R:AE→St→Prop}
def NdoG(X:Cx)(N:Nat)(ops:Array Oper)(i:Nat)(o:Oper)(F:Cw)(S:St)(P:AV→St→Prop):Prop:=
 ∀(F':Cw) (E:Env) (w:World) (a:Act),(∀t,t∈o.looksAt ops→lk F' t=lk F t)→Inv X E S w→FR E w F' a N →
  Does X ops i a w fun v w'=>∃E' r S',P r S'∧Inv X E' S' w'∧Evol E w E' w' E.boxes.length E.toks.length∧Rel E' w' v r
def DrvS(X:Cx)(N:Nat)(ops:Array Oper)(ix:Nat→Nat)(bp:Nat→Nat→Bool)(em:Nat→Bool)(K:Cw→St→Prop):List (Oper×List Oper)→List Oper→Nat→Cw→St→List St→List Jc→Prop
 |[],os,i,F,S,Hs,pend=>DrvK X N ops ix bp em os i F S Hs pend fun _ F S _ _=>K F S
 |(o,os2)::tl,os,i,F,S,Hs,pend=>DrvK X N ops ix bp em os i F S Hs pend fun m F1 S1 H1 p1=>em m=true∧Eh N o.dst=true∧∃P,NdoG X N ops (ix m) o F1 S1 P ∧
    ∀r S',P r S'→(∀q,q∈p1.filter (fun q=>!bp q.1 m)→Ndo X N ops (ix q.1) q.2.1 q.2.2.1 q.2.2.2 S' S')∧DrvS X N ops ix bp em K tl os2 (m+1) (putF o.dst r F1) S' (S'::H1) (p1.filter fun q=>!bp q.1 m)
def W8:List (Oper×List Oper)→List Oper→List Oper
 |[],os=>os
 |(o,os2)::tl,os=>os++o::W8 tl os2
def okN(bp:Nat→Nat→Bool)(n:Nat):List (Oper×List Oper)→Nat→Bool
 |[],_=>true
 |(_,os2)::tl,m=>((List.range n).all fun k=>Nat.ble k m||bp m k)&&okN bp n tl (m+1+os2.length)
theorem Z6{ops:Array Oper}{ix:Nat→Nat}{x x':Nat→AV}{listed:Nat→Bool}(h:∀j,listed j=true→x' j=x j):∀n,Yh ops ix x' listed F n=Yh ops ix x listed F n
 |0=>rfl
 |n+1=>by
  simp only[Yh,Z6 h n];split
  ·rename_i hl;rw[h n hl]
  ·rfl
theorem Uz{β:Type}{m p:Nat}{f g:Nat→β}(h:g m=f m)(hp:p≤m):Qa m f g p=f p:=by
 unfold Qa;split
 ·rfl
 ·obtain rfl:p=m:=by omega
  exact h
theorem Abq{β:Type}{m p:Nat}{f:Nat→β}(hp:p≤m):Qa m f (fun _=>f m) p=f p:=Uz rfl hp
theorem Ah7{β:Type}{m p:Nat}{f g:Nat→β}(hp:p<m):Qa m f g p=f p:=if_pos hp
theorem Amn{β:Type}{m p:Nat}{f g:Nat→β}(hp:m≤p):Qa m f g p=g p:=if_neg (by omega)
theorem DrvS.run{ops:Array Oper}{ix:Nat→Nat}{n:Nat}{bp:Nat→Nat→Bool}{em:Nat→Bool}(dk:DrawOkP ops ix n bp em){K:Cw→St→Prop}{F0:Cw}{S0:St}(k:List Item):∀(tl:List (Oper×List Oper))(os:List Oper)(i:Nat)(F:Cw)(S:St)(Hs:List St)(pend:List Jc)(pj eff0:Nat→Bool)(x0:Nat→AV)(FF0:Nat→Cw)(SS0:Nat→St),
 DrvS X N ops ix bp em K tl os i F S Hs pend→(∀q,q<(W8 tl os).length→ops[ix (i+q)]?=(W8 tl os)[q]?)→i+(W8 tl os).length=n→okN bp n tl (i+os.length)=true→S∈Hs→(∀q,q∈pend→Ndo X N ops (ix q.1) q.2.1 q.2.2.1 q.2.2.2 S S) →
 FF0 0=F0→FF0 i=F→SS0 i=S→(∀nd n' eff2 x2 FF2 SS2,i≤n'→FF2 i=F→SS2 i=S→(∀j,pj j=true→nd j=true)→DG X N ops ix bp em nd i n' eff2 x2 FF2 SS2 Hs pend→DG X N ops ix bp em nd 0 n' (Qa i eff0 eff2) (Qa i x0 x2) (Qa i FF0 FF2) (Qa i SS0 SS2) [S0] []) →
 ∀(l:List Nat) (listed:Nat→Bool) (a:Act) (w:World) (E:Env) (p:Nat),OrdP bp n l listed→CloP bp n listed→(∀j,listed j=true→j<i)→(∀j,pj j=true→listed j=true)→p≤i→(∀e,e<i→eff0 e=true→(listed e=true↔e<p)) →
 Inv X E (SS0 p) w→FR E w (Yh ops ix x0 listed F0 n) a N→∀(b:Frame) (cs:List Frame),∃E' w' a' F' S',K F' S'∧Evol E w E' w' E.boxes.length E.toks.length∧Steps X.P (lone (b.at a (.inRegion ops (l.map ix)::k)) cs w) (lone (b.at a' k) cs w')∧Inv X E' S' w'∧FR E' w' F' a' N
 |[],os,i,F,S,Hs,pend,pj,eff0,x0,FF0,SS0,h,hops,hn,hok,hS,hp,hF0,hFi,hSi,G,l,listed,a,w,E,p,hord,hclo,hlt,hpj,hpi,hpe,hI,hF,b,cs=>by
  obtain⟨eff,x,FF,SS,H2,p2,m,hm,g1,g2,g3,g4,g5,g6⟩:=Qw os i F S Hs pend h hops hS hp;obtain rfl:m=n:=by rw[hm];exact hn
  have D:=G (fun j=>pj j||decide (m≤j)) m _ _ _ _ (by omega) (by rw[Abq (by omega)];exact g1) (by rw[Abq (by omega)];exact g2) (fun j h=>by simp[h]) (g6 _ m (fun _=>false) (fun _=>.junk) (fun _=>FF m) (fun _=>SS m) (Bt _) rfl rfl (DG.nil g5));have s1:Qa m SS (fun _=>SS m) i=SS0 i:=by rw[Abq (by omega),g2,hSi]
  have s2:Qa m FF (fun _=>FF m) i=FF0 i:=by rw[Abq (by omega),g1,hFi]
  obtain⟨E',w',a',k1,k2⟩:=Yx dk D (Bt _) (fun j h=>by simp[h]) ((Uz s2 (Cb _)).trans hF0) k l listed a w E p hord hclo (fun j hj=>by have:=hlt j hj;omega) (by omega) (fun e he hee=>by
   rcases Ga e i with h|h
   ·rw[Ah7 h]at hee;exact hpe e h hee
   ·exact⟨fun hl=>by have:=hlt e hl;omega,fun h2=>by omega⟩) (by rw[Uz s1 hpi];exact hI) (by rw[Z6 fun j hj=>Ah7 (hlt j hj)];exact hF) b cs
  rcases k2 with⟨_,_,q2,q3,q4⟩|⟨i2,l2,ls,p2,q1,q2,q3,q4,q5,q6,q7,q8,q9,q10,q11,q12,q13⟩
  ·rw[Amn (by omega),Adn]at q3 q4;exact⟨E',w',a',_,_,g3,k1,q2,q3,q4⟩
  ·exfalso;simp only[My,Mz]at q1;rcases q1 with h|h
   ·have:=q8 _ (hpj _ h);rw[q3.2.1]at this;cases this
   ·have:=q3.1;omega
 |(o,os2)::tl,os,i,F,S,Hs,pend,pj,eff0,x0,FF0,SS0,h,hops,hn,hok,hS,hp,hF0,hFi,hSi,G,l,listed,a,w,E,p,hord,hclo,hlt,hpj,hpi,hpe,hI,hF,b,cs=>by
  simp only[W8,F5,N6]at hn hops;obtain⟨eff,x,FF,SS,H2,p2,m,hm,g1,g2,⟨hem,hd,P,hN,hR⟩,g4,g5,g6⟩:=Qw os i F S Hs pend h (fun q hq=>by rw[hops q (by omega),Dd hq]) hS hp;have ho:ops[ix m]?=some o:=by
   have:=hops os.length (by omega);rw[Gz (Bt _),Iw]at this;rw[hm];exact this
  simp only[okN,Du,←hm]at hok;have D:=G (fun j=>pj j||decide (m≤j)) m _ _ _ _ (by omega) (by rw[Abq (by omega)];exact g1) (by rw[Abq (by omega)];exact g2) (fun j h=>by simp[h]) (g6 _ m (fun _=>false) (fun _=>.junk) (fun _=>FF m) (fun _=>SS m) (Bt _) rfl rfl (DG.nil g5));have s1:Qa m SS (fun _=>SS m) i=SS0 i:=by rw[Abq (by omega),g2,hSi]
  have s2:Qa m FF (fun _=>FF m) i=FF0 i:=by rw[Abq (by omega),g1,hFi]
  obtain⟨E',w',a',k1,k2⟩:=Yx dk D (by omega) (fun j h=>by simp[h]) ((Uz s2 (Cb _)).trans hF0) k l listed a w E p hord hclo (fun j hj=>by have:=hlt j hj;omega) (by omega) (fun e he hee=>by
   rcases Ga e i with h|h
   ·rw[Ah7 h]at hee;exact hpe e h hee
   ·exact⟨fun hl=>by have:=hlt e hl;omega,fun h2=>by omega⟩) (by rw[Uz s1 hpi];exact hI) (by rw[Z6 fun j hj=>Ah7 (hlt j hj)];exact hF) b cs
  rcases k2 with⟨q1,_⟩|⟨i2,l2,ls,p2',q1,q2,q3,q4,q5,q6,q7,q8,q9,q10,q11,q12,q13⟩
  ·omega
  have hii:i2=m:=by
   simp only[My,Mz]at q1;rcases q1 with h|h
   ·have:=q8 _ (hpj _ h);rw[q3.2.1]at this;cases this
   ·rcases Ga m i2 with h2|h2
    ·have hb:=zzq32.1 hok.1 i2 (zzq33.2 q3.1);simp only[My]at hb;rcases hb with hb|hb
     ·have:=J5 hb;omega
     ·have:=q5 m (q3.2.2.1 m (by omega) hb);omega
    ·omega
  subst hii;have hS2:=q12 (Bt _) hem;rw[Amn (by omega),Adn]at hS2;have hag:=q13 (Bt _) o ho;rw[Amn (by omega),Adn]at hag;obtain⟨v,w1,⟨E1,r,S',hP,e1,e2,e3⟩,e4⟩:=hN _ E' w' a' hag (by rw[hS2];exact q10) q11 b k cs (l2.map ix);rw[ho]at e4;obtain⟨hq,hK⟩:=hR r S' hP;have hin:=q3.1;have hb4:∀e,e<i2→(Qa i eff0 (Qa i2 eff fun _=>false)) e=true→ls e=true:=fun e he hee=>q3.2.2.1 e (by omega) (dk.effs e i2 he hin (D.effE e (Cb _) he hee) hem);have hlen:=e2.len;obtain⟨E2,w2,a2,F',S2,r1,r2,r3,r4,r5⟩:=DrvS.run dk (F0:=F0) (S0:=S0) k tl os2 (i2+1) (putF o.dst r (FF i2)) S' (S'::H2) _ (fun j=>pj j||j==i2) (Xe i2 true (Qa i eff0 (Qa i2 eff fun _=>false))) (Xe i2 r (Qa i x0 (Qa i2 x fun _=>.junk)))
   (fun j=>if j≤i2 then Qa i FF0 FF j else putF o.dst r (FF i2)) (fun j=>if j≤i2 then Qa i SS0 SS j else S') hK (fun q hq=>by
     have:=hops (os.length+(q+1)) (by omega);rw[Gz (by omega),Nat.add_sub_cancel_left,Ap6]at this;rw[←this,hm];congr 2;omega) (by omega) hok.2 (by simp) hq (by
     rw[if_pos (Cb _),Uz (g1.trans hFi.symm) (Cb _)];exact hF0) (if_neg (by omega)) (if_neg (by omega)) (fun nd n' eff2 x2 FF2 SS2 c1 c2 c3 c4 D2=>by
     have hnd:nd i2=true:=c4 i2 (by simp);have D3:=D2.cons (b:=true) (o:=o) (v:=r) (F:=FF i2) (S:=SS i2) (Hs:=H2) (pend:=p2) (by omega) c2 c3 ho g5 g4 (fun h=>by rw[hnd]at h;cases h) (fun e=>by cases e) (fun _=>⟨hem,fun h=>by rw[hnd]at h;cases h⟩) (fun T hT=>by simp[hT]) (fun q hq hb=>zzq35.2 ⟨hq,by simp[hb rfl]⟩);have D4:=g6 nd n' _ _ _ _ (by omega) (if_pos rfl) (if_pos rfl) D3;have D5:=G nd n' _ _ _ _ (by omega) ((Uz (f:=FF) (g:=Xe i2 (FF i2) FF2) (m:=i2) (p:=i) (if_pos rfl) (by omega)).trans g1) ((Uz (f:=SS) (g:=Xe i2 (SS i2) SS2) (m:=i2) (p:=i) (if_pos rfl) (by omega)).trans g2) (fun j h=>c4 j (by simp[h])) D4;refine D5.congr fun j _=>?_;have:i≤i2:=by omega
     unfold Qa Xe;refine⟨?_,?_,?_,?_⟩<;>grind) l2 (fun j=>if i2=j then true else ls j) (a'.put o.dst v) w1 E1 (i2+1) q3.2.2.2 (q4.put q3.2.2.1) (fun j hj=>by
     by_cases h:i2=j
     ·omega
     ·rw[if_neg h]at hj;have:=q5 j hj;omega) (fun j hj=>by
     simp only[My,zzq34]at hj;rcases hj with h|h
     ·by_cases h2:i2=j
      ·rw[if_pos h2]
      ·rw[if_neg h2];exact q8 j (hpj j h)
     ·rw[if_pos h.symm]) (Bt _) (fun e he hee=>by
     by_cases h2:i2=e
     ·rw[if_pos h2];exact⟨fun _=>he,fun _=>rfl⟩
     ·rw[if_neg h2];unfold Xe at hee;rw[if_neg (Ne.symm h2)]at hee;exact⟨fun _=>he,fun _=>hb4 e (by omega) hee⟩) (by rw[if_neg (by omega)];exact e1) (by
     have:=(q11.step e2).putF hd e3;exact⟨this.size,this.nod,fun q y hq=>this.rel q y (by
      rw[←hq,An5 dk (x:=Qa i x0 (Qa i2 x fun _=>.junk)) hin q3.2.1 ho (fun j _ hj=>by unfold Xe;rw[if_neg (fun h=>by subst h;rw[q3.2.1]at hj;cases hj)]) q];unfold Xe;rw[if_pos rfl])⟩) b cs
  exact⟨E2,w2,a2,F',S2,r1,k1.trans ((e2.trans (r2.weaken hlen.1 hlen.2)).weaken k1.len.1 k1.len.2),q2.trans (e4.trans r3),r4,r5⟩
end
def AB(a b:Nat):List Nat→(Nat→Bool)→Prop
 |[],_=>True
 |i::l,listed=>(i=b→listed a=true)∧AB a b l (fun j=>if i=j then true else listed j)
theorem Ahb{a b:Nat}:∀(l:List Nat)(listed:Nat→Bool),listed a=true→AB a b l listed
 |[],_,_=>trivial
 |i::l,listed,h=>⟨fun _=>h,Ahb l _ (by simp[h])⟩
theorem Anw{a b:Nat}(hne:a≠b):∀(l:List Nat)(listed:Nat→Bool),AB a b l listed∨AB b a l listed
 |[],_=>.inl trivial
 |i::l,listed=>by
  by_cases ha:i=a
  ·subst ha;exact .inl ⟨fun h=>absurd h hne,Ahb l _ (by simp)⟩
  ·by_cases hb:i=b
   ·subst hb;exact .inr ⟨fun h=>absurd h.symm hne,Ahb l _ (by simp)⟩
   ·rcases Anw hne l (fun j=>if i=j then true else listed j)with h|h
    ·exact .inl ⟨fun h'=>absurd h' hb,h⟩
    ·exact .inr ⟨fun h'=>absurd h' ha,h⟩
theorem A0q{bp:Nat→Nat→Bool}{n a b c:Nat}(hb:b<n)(hbc:bp b c=true):∀(l:List Nat)(listed:Nat→Bool),OrdP bp n l listed→AB a b l listed→(listed b=true→listed a=true)→AB a c l listed
 |[],_,_,_,_=>trivial
 |i::l,listed,⟨_,_,g3,g4⟩,⟨h1,h2⟩,h3=>⟨fun hi=>h3 (g3 b hb (by rw[hi];exact hbc)),A0q hb hbc l _ g4 h2 (fun hl=>by
   by_cases hib:i=b
   ·by_cases hia:i=a
    ·simp[hia]
    ·simp[hia,h1 hib]
   ·simp only[hib,if_false]at hl;by_cases hia:i=a
    ·simp[hia]
    ·simp[hia,h3 hl])⟩
theorem OrdP.map{bp:Nat→Nat→Bool}{n:Nat}{σ ix:Nat→Nat}(h1:∀i,i<n→σ i<n∧ix (σ i)=i)(h2:∀p,p<n→ix p<n∧σ (ix p)=p){asm:List (Nat×Nat)}:∀(l:List Nat)(listed:Nat→Bool),OrdP bp n l listed →
 (∀ab,ab∈asm→AB ab.1 ab.2 l listed)→OrdP (fun q p=>bp (ix q) (ix p)||asm.contains (ix q,ix p)) n (l.map σ) (fun p=>listed (ix p))∧(l.map σ).map ix=l
 |[],listed,h,_=>⟨fun j hj=>h _ (h2 j hj).1,rfl⟩
 |i::l,listed,h,ha=>by
  obtain⟨g1,g2,g3,g4⟩:=h;obtain⟨k1,k2⟩:=h1 i g1;have ih:=OrdP.map h1 h2 l _ g4 (fun ab hab=>(ha ab hab).2);refine⟨⟨k1,by simp only[k2];exact g2,fun e he hb=>?_,OrdP.congr _ (fun p hp=>?_) ih.1⟩,by simp only[Om,k2,ih.2]⟩
  ·simp only[k2,My]at hb;rcases hb with hb|hb
   ·exact g3 _ (h2 e he).1 hb
   ·have hm:=List.contains_iff_mem.1 hb;exact(ha _ hm).1 rfl
  ·by_cases hi:i=ix p
   ·have:σ i=p:=by rw[hi];exact(h2 p hp).2
    simp only[this,if_true,if_pos hi]
   ·have hs:¬σ i=p:=fun h=>hi (by rw[←h];exact k2.symm);simp[hi,hs]
def bpP(bs:List Nat)(π:List Nat)(asm:List (Nat×Nat))(q p:Nat):Bool:=bitOf bs (π.getD q 0) (π.getD p 0)||asm.contains (π.getD q 0,π.getD p 0)
def okP(ops:Array Oper)(bs π:List Nat)(asm:List (Nat×Nat))(em:Nat):Bool:=
 ((List.range ops.size).all fun i=>Nat.blt (π.idxOf i) ops.size&&π.getD (π.idxOf i) 0==i) &&
 ((List.range ops.size).all fun p=>Nat.blt (π.getD p 0) ops.size&&π.idxOf (π.getD p 0)==p) &&
 (List.range ops.size).all fun i=>match ops[π.getD i 0]? with
   |none=>false
   |some oi=>(List.range ops.size).all fun j=>match ops[π.getD j 0]? with
    |none=>false
    |some oj=>
     (match oj.dst with
       |some t=>!(oi.looksAt ops).contains t||(Nat.blt j i&&bpP bs π asm j i)||(Nat.blt i j&&bpP bs π asm i j)
       |none=>true) &&
     (i==j||(match oi.dst with
       |some t=>oj.dst != some t
       |none=>true)) &&
     (Nat.ble j i||!(em.testBit (π.getD i 0)&&em.testBit (π.getD j 0))||bpP bs π asm i j)
theorem Aup{ops:Array Oper}{bs π:List Nat}{asm:List (Nat×Nat)}{em:Nat}(h:okP ops bs π asm em=true) :
 (∀i,i<ops.size→π.idxOf i<ops.size∧π.getD (π.idxOf i) 0=i)∧(∀p,p<ops.size→π.getD p 0<ops.size∧π.idxOf (π.getD p 0)=p) ∧
 DrawOkP ops (π.getD · 0) ops.size (bpP bs π asm) (fun j=>em.testBit (π.getD j 0)):=by
 unfold okP at h;rw[Du,Du]at h;obtain⟨⟨h1,h2⟩,h3⟩:=h;have key:∀(i j:Nat) (oi oj:Oper),i<ops.size→j<ops.size→ops[π.getD i 0]?=some oi→ops[π.getD j 0]?=some oj →
  ((match oj.dst with
     |some t=>!(oi.looksAt ops).contains t||(Nat.blt j i&&bpP bs π asm j i)||(Nat.blt i j&&bpP bs π asm i j)
     |none=>true) &&
    (i==j||(match oi.dst with
      |some t=>oj.dst != some t
      |none=>true)) &&
    (Nat.ble j i||!(em.testBit (π.getD i 0)&&em.testBit (π.getD j 0))||bpP bs π asm i j))=true:=fun i j oi oj li lj hi hj=>by
  have a1:=zzq32.1 h3 i (zzq33.2 li);rw[hi]at a1;have a2:=zzq32.1 a1 j (zzq33.2 lj);rw[hj]at a2;exact a2
 have at_:∀j,j<ops.size→∃o,ops[π.getD j 0]?=some o:=fun j hj=>by
  have a1:=zzq32.1 h3 j (zzq33.2 hj);cases ho:ops[π.getD j 0]? with
  |none=>rw[ho]at a1;cases a1
  |some o=>exact⟨o,rfl⟩
 refine⟨fun i hi=>?_,fun p hp=>?_,at_,fun i j oi oj li lj hi hj t ht hm=>?_,fun i j oi oj li lj hi hj hne t ht hc=>?_,fun i j hij lj e1 e2=>?_⟩
 ·have:=zzq32.1 h1 i (zzq33.2 hi);simpa[Hp]using this
 ·have:=zzq32.1 h2 p (zzq33.2 hp);simpa[Hp]using this
 ·have:=key i j oi oj li lj hi hj;simp only[Du,ht,My,N4,Hp]at this;rcases this.1.1 with(h|h)|h
  ·have hc:(oi.looksAt ops).contains t=true:=List.contains_iff_mem.2 hm;rw[hc]at h;cases h
  ·exact .inl h
  ·exact .inr h
 ·have:=key i j oi oj li lj hi hj;simp only[Du,ht,My]at this;rcases this.1.2 with h'|h'
  ·simp at h';exact hne h'
  ·rw[hc]at h';simp at h'
 ·obtain⟨oi,hi⟩:=at_ i (by omega);obtain⟨oj,hj⟩:=at_ j lj;have:=key i j oi oj (by omega) lj hi hj;simp only[Du,My,e1,e2]at this;rcases this.2 with(h'|h')|h'
  ·have:=J5 h';omega
  ·simp at h'
  ·exact h'
section
variable {X:Cx}{B:Bx}{E:Env}{S:St}{w:World}{F:Cw}{a:Act}{N:Nat}{R:AE→St→Prop}
def Way(X:Cx)(N:Nat)(ops:Array Oper)(F:Cw)(S:St)(K:Cw→St→Prop)(l:List Nat):Prop:=
 ∃(π:List Nat) (asm:List (Nat×Nat)) (em:Nat) (tl:List (Oper×List Oper)) (os:List Oper),(∀ab,ab∈asm→AB ab.1 ab.2 l fun _=>false)∧okP ops (Ha ops.toList []) π asm em=true∧okN (bpP (Ha ops.toList []) π asm) ops.size tl os.length=true∧(W8 tl os).length=ops.size ∧
  (π.map fun i=>ops[i]?)=(W8 tl os).map some∧DrvS X N ops (π.getD · 0) (bpP (Ha ops.toList []) π asm) (fun j=>em.testBit (π.getD j 0)) K tl os 0 F S [S] []
theorem Al6{ops:Array Oper}{K:Cw→St→Prop}{l:List Nat}(π:List Nat)(asm:List (Nat×Nat))(em:Nat){os:List Oper}(ha:∀ab,ab∈asm→AB ab.1 ab.2 l fun _=>false)(hos:(π.filterMap fun i=>ops[i]?)=os)
 (hd:DrvK X N ops (π.getD · 0) (bpP (Ha ops.toList []) π asm) (fun j=>em.testBit (π.getD j 0)) os 0 F S [S] [] fun _ F S _ _=>K F S)(hok:okP ops (Ha ops.toList []) π asm em=true:=by kernel_rfl)(hl:os.length=ops.size:=by rfl)(hm:(π.map fun i=>ops[i]?)=os.map some:=by rfl):Way X N ops F S K l:=
 ⟨π,asm,em,[],os,ha,hok,rfl,hl,hm,hd⟩
theorem Aob{ops:Array Oper}{K:Cw→St→Prop}{l:List Nat}(π:List Nat)(asm:List (Nat×Nat))(em n:Nat){os os2:List Oper}{o:Oper}(ha:∀ab,ab∈asm→AB ab.1 ab.2 l fun _=>false)(hos:((π.filterMap fun i=>ops[i]?).take n,(π.filterMap fun i=>ops[i]?).drop n)=(os,o::os2))
 (hd:DrvS X N ops (π.getD · 0) (bpP (Ha ops.toList []) π asm) (fun j=>em.testBit (π.getD j 0)) K [(o,os2)] os 0 F S [S] [])(hok:okP ops (Ha ops.toList []) π asm em=true:=by kernel_rfl)(hn:okN (bpP (Ha ops.toList []) π asm) ops.size [(o,os2)] os.length=true:=by kernel_rfl)(hl:(os++o::os2).length=ops.size:=by rfl)(hm:(π.map fun i=>ops[i]?)=(os++o::os2).map some:=by rfl):Way X N ops F S K l:=
 ⟨π,asm,em,_,os,ha,hok,hn,hl,hm,hd⟩
theorem An3{id:Nat}{ops:Array Oper}{k:List Item}(h:∀l:List Nat,OrdP (bitOf (Ha ops.toList [])) ops.size l (fun _=>false)→Way X B.fn.ntmps ops F S (fun F' S'=>AK X B k F' S' R) l)(hb:Uq ops (Ha ops.toList [])=true:=by kernel_rfl):AK X B (.code (.region id ops true)::k) F S R:=by
 intro E w a b cs hI hF hn hm hbf;obtain⟨l,hord,hst1⟩:=V8 (X:=X) (id:=id) hb k a b cs w;obtain⟨π,asm,em,tl,os,ha,hok,hokn,hos,hmap,hd⟩:=h l hord;obtain⟨k1,k2,dk⟩:=Aup hok;obtain⟨o1,o2⟩:=OrdP.map (σ:=π.idxOf) (ix:=(π.getD · 0)) k1 k2 l _ hord ha;have hget:∀j,j<(W8 tl os).length→ops[π.getD (0+j) 0]?=(W8 tl os)[j]?:=fun j hj=>by
  have h1:=congrArg (fun l=>l[j]?) hmap;simp only[Hd]at h1;rw[Kr];cases hp:π[j]? with
  |none=>rw[hp]at h1;simp[Xg hj]at h1
  |some i=>
   rw[hp]at h1;simp only[K4]at h1;have:π.getD j 0=i:=by simp[List.getD,hp]
   rw[this];cases ho:(W8 tl os)[j]? with
   |none=>rw[Xg hj]at ho;cases ho
   |some o=>rw[ho]at h1;simpa using h1
 have ev:=He E w E.boxes.length E.toks.length;obtain⟨E',w',a',F',S',r1,r2,r3,r4,r5⟩:=DrvS.run dk (F0:=F) (S0:=S) k tl os 0 F S [S] [] (fun _=>false) (fun _=>false) (fun _=>.junk) (fun _=>F) (fun _=>S) hd hget (by rw[Kr];exact hos) (by rw[Kr];exact hokn) (by simp) (fun q hq=>by cases hq) rfl rfl rfl
  (fun nd n' eff2 x2 FF2 SS2 _ _ _ _ D=>D.congr fun j _=>⟨rfl,rfl,rfl,rfl⟩) (l.map π.idxOf) (fun _=>false) a { w with drawn:=w.drawn+1 } E 0 o1 (fun j e _ _ hj=>by cases hj) (fun j h=>by cases h) (fun j h=>by cases h) (Bt _) (fun e he _=>by omega)
  (hI.keep (He E w _ _) (fun _ _=>rfl)) (by rw[Ahj];exact hF.step ev) b cs
 rw[o2]at r3;have ev2:=ev.trans r2;have hll:=ev2.len;have nt:E.toks.length=S.toks.length:=by rw[←hI.nt];simp
 have nt':E'.toks.length=S'.toks.length:=by rw[←r4.nt];simp
 exact Fin.from (hst1.trans r3) (ev2.weaken (by rw[hI.nb];exact hn) (by omega)) (r1 E' w' a' b cs r4 r5 (by rw[←r4.nb];have:=hI.nb;omega) (by omega) hbf)
end
section
variable {X:Cx}{B:Bx}{S S':St}{F F':Cw}{R:AE→St→Prop}{ops:Array Oper}{N:Nat}{ix:Nat→Nat}{bp:Nat→Nat→Bool}{em:Nat→Bool}{KK:Nat→Cw→St→List St→List Jc→Prop}
theorem Qx:∀(n:Nat)(os:List Oper)(i:Nat)(F:Cw)(pend:List Jc),(∀k,k<os.length→ops[ix (i+k)]?=os[k]?) →
 DrvK X N ops ix bp em (Ly X N ops S n os i F pend).1 (Ly X N ops S n os i F pend).2.1 (Ly X N ops S n os i F pend).2.2.1 S [S] (Ly X N ops S n os i F pend).2.2.2 KK→DrvK X N ops ix bp em os i F S [S] pend KK
 |0,os,i,F,p,_,h=>h
 |n+1,[],i,F,p,_,h=>h
 |n+1,o::os,i,F,p,hos,h=>by
  have ho:ops[ix i]?=some o:=by have:=hos 0 (by simp);simpa using this
  have hos':∀k,k<os.length→ops[ix (i+1+k)]?=os[k]?:=fun k hk=>by
   have:=hos (k+1) (by simp;omega);rw[show i+1+k=i+(k+1) by omega];simpa using this
  unfold Ly at h;split at h
  ·rename_i hw;split at h
   ·rename_i x hx;split at h
    ·rename_i F' hF;obtain⟨h1,rfl⟩:=Gd hF;split at h
     ·exact .inr (.inl ⟨x,h1,fun S' hS'=>by simp at hS';subst hS';exact Cy ho hw hx,Qx n os (i+1) _ _ hos' h⟩)
     ·rename_i hl;exact .inl ⟨x,h1,fun S'=>Cy ho hw (by rw[←Su (S:=S) hl];exact hx),Qx n os (i+1) _ _ hos' h⟩
    ·exact h
   ·split at h
    ·rename_i x hx;split at h
     ·rename_i F' hF;obtain⟨h1,rfl⟩:=Gd hF;exact .inl ⟨x,h1,fun S'=>Me ho hw (Ss hx S'.boxes S'.toks),Qx n os (i+1) _ _ hos' h⟩
     ·exact h
    ·exact h
  ·rename_i hw;split at h
   ·rename_i F' hF;obtain⟨h1,rfl⟩:=Gd hF;exact .inl ⟨_,h1,fun S'=>Ym ho hw,Qx n os (i+1) _ _ hos' h⟩
   ·exact h
  ·exact h
theorem Ahg{os os':List Oper}{i i':Nat}{F':Cw}{pend pend':List Jc}(n:Nat)(k:DrvK X N ops ix bp em os' i' F' S [S] pend' KK)(h:Ly X N ops S n os i F pend=(os',i',F',pend'):=by rfl)
 (hos:((List.range os.length).map fun k=>ops[ix (i+k)]?)=os.map some:=by rfl):DrvK X N ops ix bp em os i F S [S] pend KK:=
 Qx n os i F pend (fun k hk=>by
  have h1:=congrArg (fun l=>l[k]?) hos;simp only[Hd,Ab2 hk,K4,Xg hk]at h1;rw[Xg hk];exact Option.some.inj h1) (by rw[h];exact k)
theorem Mb{os:List Oper}{i:Nat}{o:Oper}{x:AV}{Hs:List St}{pend:List Jc}(k:DrvK X N ops ix bp em os (i+1) F' S Hs pend KK)(ho:ops[ix i]?=some o:=by rfl)(hw:Bc ops F o=some true:=by rfl)(h:∀S',Es X F S' o.op=some x:=by intro;rfl)(hF:Oz N o.dst x F=some F':=by rfl) :
 DrvK X N ops ix bp em (o::os) i F S Hs pend KK:=by
 obtain⟨h1,rfl⟩:=Gd hF;exact .inl ⟨x,h1,fun S'=>Cy ho hw (h S'),k⟩
theorem Ahh{os:List Oper}{i:Nat}{o:Oper}{x:AV}{Hs:List St}{pend:List Jc}(h:Ndo X N ops (ix i) o F x S S')(hr:∀p,p∈pend→Ndo X N ops (ix p.1) p.2.1 p.2.2.1 p.2.2.2 S' S')
 (k:DrvK X N ops ix bp em os (i+1) F' S' (S'::Hs) (pend.filter fun p=>!bp p.1 i) KK)(he:em i=true:=by rfl)(hF:Oz N o.dst x F=some F':=by rfl):DrvK X N ops ix bp em (o::os) i F S Hs pend KK:=by
 obtain⟨h1,rfl⟩:=Gd hF;exact .inr (.inr ⟨x,S',_,he,h1,h,rfl,fun p hp=>hr p (zzq35.1 hp).1,k⟩)
theorem K6{os:List Oper}{i:Nat}{o:Oper}{x:AV}{Hs:List St}{pend:List Jc}(h:Ndo X N ops (ix i) o F x S S')
 (k:DrvK X N ops ix bp em os (i+1) F' S' (S'::Hs) [] KK)(he:em i=true:=by rfl)(hF:Oz N o.dst x F=some F':=by rfl)(hp:pend.filter (fun p=>!bp p.1 i)=[]:=by kernel_rfl):DrvK X N ops ix bp em (o::os) i F S Hs pend KK:=by
 obtain⟨h1,rfl⟩:=Gd hF;exact .inr (.inr ⟨x,S',[],he,h1,h,hp,fun p hp'=>(by cases hp'),k⟩)
theorem Ahi{i:Nat}{Hs:List St}{pend:List Jc}{k K:List Item}{S2:St}(id:Nat)(hk:AK X B K F' S2 R)(he:evT X B.fn.ntmps id 100 k F S=(K,F',S2):=by rfl):DrvK X N ops ix bp em [] i F S Hs pend fun _ F1 S1 _ _=>AK X B k F1 S1 R:=
 K9 id 100 he hk
inductive SubR (σ:List Nat)(F:Cw):Cw→Prop where
 |nil:SubR σ F []
 |cons {k:Nat} {x y:AV} {G:Cw} (hx:lk F k=some x) (hr:RinC σ [] x y) (t:SubR σ F G):SubR σ F ((k,y)::G)
theorem SubR.get{σ:List Nat}{G:Cw}(h:SubR σ F G):∀k y,lk G k=some y→∃x,lk F k=some x∧Ren true σ [] x y:=by
 induction h with
 |nil=>intro k y hy;simp[lk]at hy
 |cons hx hr t ih=>
  intro k y hy;rw[Kk]at hy;split at hy
  ·rename_i hk;subst hk;cases hy;exact⟨_,hx,hr.s⟩
  ·exact ih k y hy
instance{n m c:Nat}{x:An} [h:OKL n m x]:OKR n m (List.replicate c x):=⟨fun r hr=>by rw[Z3 hr];exact h.ok⟩
theorem Awu{f:FuncId}{fn:Func}{K:List Item}{G:Cw}{bx bx2:B3}(σ:List Nat)(hk:AK X ⟨f,fn,0,0⟩ K G ⟨bx2,[]⟩ R)(hG:SubR σ F G)(hS:S=⟨bx,[]⟩)(hn:Kt σ=true)(hl:σ.length=bx.length)(hlt:(σ.all fun i=>Nat.blt i bx.length)=true)(hal:((List.range bx.length).all fun i=>σ.contains i)=true)
 {bx3:B3}(hsb:(σ.map fun i=>bx.getD i [])=bx3:=by rfl) [hb:RinB σ [] bx3 bx2]:AK X ⟨f,fn,0,0⟩ K F S R:=by
 subst hS;subst hsb;intro E w a b cs hI hF _ _ hbf;have nt0:E.toks=[]:=by have:=hI.nt;simpa using this
 have hσ:=O5 hn;have hσl:∀i,i∈σ→i<bx.length:=fun i hi=>by have:=zzq32.1 hlt i hi;simpa[Hp]using this
 have hτl:∀t,t∈([]:List Nat)→t<E.toks.length:=fun t h=>by cases h
 have hI2:=(hI.sub (Sc:=⟨bx2,[]⟩) hσ List.nodup_nil hτl hb.s hσl rfl).dfE E.df;have hall:∀i,i<bx.length→i∈σ:=by
  intro i hi;have:=zzq32.1 hal i (zzq33.2 hi);exact List.contains_iff_mem.1 this
 have hown:∀b,E.own b↔E.ownS σ [] b:=fun b=>by
  constructor
  ·rintro(⟨i,s,h⟩|⟨t,l,c,s,h⟩)
   ·have:=Aa h;rw[hI.nb]at this;exact .inl ⟨i,s,hall i this,h⟩
   ·rw[nt0]at h;simp at h
  ·exact Pq
 have hfr:((E.sub σ []).dfs E.df).fr=E.fr:=by
  funext b o;apply propext;show (E.mt b o∧¬E.ownS σ [] b)↔E.fr b o;constructor
  ·rintro⟨h,hn⟩;rcases Aax hI h with h'|h'
   ·exact absurd ((hown b).1 h') hn
   ·exact h'
  ·exact fun h=>⟨.inl h,fun ho=>(hI.frlt b o h).1 ((hown b).2 ho)⟩
 have ev:Evol E w ((E.sub σ []).dfs E.df) w 0 0:=
  ⟨hfr,fun i hi=>absurd hi (Aeu _),fun t ht=>absurd ht (Aeu _),rfl,rfl,rfl,Bt _,fun _ _ _=>rfl,fun _ _ _ _ h=>h,fun b o _ h=>Tv hτl h,fun b _ h=>Pq ((Qg hτl).1 h),rfl,fun _ _ h=>h,fun t ht=>absurd ht (Aeu _)⟩
 refine Fin.from (Steps.refl _ _) ev (hk _ w a b cs hI2 ⟨hF.size,hF.nod,fun k y hy=>?_⟩ (Cb _) (Cb _) hbf);obtain⟨x,hx,hr⟩:=hG.get k y hy;obtain⟨v,hv,hrel⟩:=hF.rel k x hx;exact⟨v,hv,(hr.fwd (Eb:=(E.sub σ []).dfs E.df) (fun b o h=>Tv hτl h) (fun i j q h1 h2=>(Jm (E:=E) (σ:=σ) (τ:=[])).2 ⟨i,h1,h2⟩) (fun i j k h1 h2=>by simp at h1) hrel)⟩
end
end Go.V
namespace Go.V
open Go Go.Proofs Go.Proofs.Tryz
theorem Adc{n:Nd}(h:H4 n=true):Fj n=(0,[])∧Dw n=true∧Dw (Be n)=true:=by
 unfold H4 at h;have h0:(Fj n).1=0:=by simpa using h
 unfold Fj at h0⊢;split at h0
 ·rename_i h1;rw[if_pos h1];split at h0
  ·simp at h0
  ·rename_i h2;rw[if_neg h2];split at h0
   ·simp at h0
   ·rename_i h3;rw[if_neg h3];split at h0
    ·simp at h0
    ·rename_i h4;split at h0
     ·simp at h0
     ·rename_i h5;split at h0
      ·simp at h0
      ·rename_i h6;split at h0
       ·rename_i h7;simp[h1,h5,h6,h7]
       ·simp at h0
 ·simp at h0
theorem Kc{n:Nd}(h:H4 n=true):FP n∧Al n≤500∧wN n≤4500∧n.kids≠[]∧n.kids.length≤4500:=by
 obtain⟨fp,hc,_⟩:=Tp (Adc h).2.1;have hw:=Abe n (Z7 fp);have hk:=Ho n;have hne:n.kids≠[]:=by cases fp;simp
 exact⟨fp,hc,by omega,hne,by omega⟩
def P0(f:Eg→Int)(p:Nat)(k:Nat):List Eg→List Nat
 |[]=>[]
 |e::l=>if f e=p then k::P0 f p (k+1) l else P0 f p (k+1) l
def Ki(f:Eg→Int)(l:List Eg)(p:Nat):List Nat:=P0 f p 0 l
theorem Af6(f:Eg→Int)(p:Nat)(e:Eg):∀(l:List Eg)(k:Nat),P0 f p k (l++[e])=P0 f p k l++(if f e=p then[k+l.length]else[])
 |[],k=>by simp[P0]
 |x::l,k=>by
  simp only[R1,P0,N6];rw[Af6 f p e l (k+1),show k+1+l.length=k+(l.length+1) by omega];split<;>simp
theorem Y9(f:Eg→Int)(p:Nat):∀(l:List Eg)(k:Nat),(P0 f p k l).length≤l.length
 |[],k=>by simp[P0]
 |x::l,k=>by
  simp only[P0,N6];have:=Y9 f p l (k+1);split<;>simp<;>omega
def Xc(m:Nat)(f:Eg→Int)(l:List Eg)(pts:Nat):A7:=(List.range pts).map fun p=>[AV.sl (T4 (Ki f l p)) (.tok (m+p))]
def R2(f:Eg→Int)(l:List Eg)(pts:Nat):List Nat:=(List.range pts).map fun p=>(Ki f l p).length
theorem Tw(m:Nat)(f:Eg→Int)(l:List Eg)(pts:Nat):(Xc m f l pts).length=pts:=by simp[Xc]
theorem J3(f:Eg→Int)(l:List Eg)(pts:Nat):(R2 f l pts).length=pts:=by simp[R2]
theorem H5(m:Nat)(f:Eg→Int)(l:List Eg){pts j:Nat}(h:j<pts):(Xc m f l pts)[j]?=some [AV.sl (T4 (Ki f l j)) (.tok (m+j))]:=by simp[Xc,h]
theorem Zu(f:Eg→Int)(l:List Eg){pts j:Nat}(h:j<pts):(R2 f l pts)[j]?=some (Ki f l j).length:=by simp[R2,h]
theorem Za(f:Eg→Int){l:List Eg}{i:Nat}{e:Eg}(h:l[i]?=some e)(p:Nat):Ki f (l.take (i+1)) p=Ki f (l.take i) p++(if f e=p then[i]else[]):=by
 have hi:=Aa h;unfold Ki;rw[Hq,h];simp only[Aha];rw[Af6,Kr,Zz,Nat.min_eq_left (by omega)]
theorem Ap1(m:Nat)(f:Eg→Int){l:List Eg}{i j pts:Nat}{e:Eg}(h:l[i]?=some e)(hj:f e=j):(Xc m f (l.take i) pts).set j [AV.sl (T4 (Ki f (l.take i) j++[i])) (.tok (m+j))]=Xc m f (l.take (i+1)) pts:=by
 apply Ab4;intro k;rw[Aer,Tw];by_cases hk:j=k
 ·subst hk;rw[if_pos rfl];by_cases hp:j<pts
  ·rw[if_pos hp,H5 _ _ _ hp,Za f h,if_pos hj]
  ·rw[if_neg hp,Oo (by rw[Tw];omega)]
 ·rw[if_neg hk];by_cases hp:k<pts
  ·rw[H5 _ _ _ hp,H5 _ _ _ hp,Za f h,if_neg (by rw[hj];omega),I4]
  ·rw[Oo (by rw[Tw];omega),Oo (by rw[Tw];omega)]
theorem Ap0(f:Eg→Int){l:List Eg}{i j pts:Nat}{e:Eg}(h:l[i]?=some e)(hj:f e=j):(R2 f (l.take i) pts).set j ((Ki f (l.take i) j).length+1)=R2 f (l.take (i+1)) pts:=by
 apply Ab4;intro k;rw[Aer,J3];by_cases hk:j=k
 ·subst hk;rw[if_pos rfl];by_cases hp:j<pts
  ·rw[if_pos hp,Zu _ _ hp,Za f h,if_pos hj];simp
  ·rw[if_neg hp,Oo (by rw[J3];omega)]
 ·rw[if_neg hk];by_cases hp:k<pts
  ·rw[Zu _ _ hp,Zu _ _ hp,Za f h,if_neg (by rw[hj];omega),I4]
  ·rw[Oo (by rw[J3];omega),Oo (by rw[J3];omega)]
theorem Awd{n M m pts:Nat}(f:Eg→Int)(l:List Eg)(h:m+pts≤M):H3 n M (Xc m f l pts):=fun r hr x hx=>by
 obtain⟨p,hp,rfl⟩:=zzq50.1 hr;simp at hx;subst hx;have:=zzq33.1 hp;exact .sl _ _ ((inferInstance:OKR n M (T4 (Ki f l p))).ok) (fun t ht=>by cases ht;omega)
def Va(f:Eg→Int)(l:List Eg)(pts:Nat):A7:=(List.range pts).map fun p=>[.sl (T4 (Ki f l p)) .no]
def Oj(n:Nd):An:=
 vi (D9 (A1 n)).pts::.sl (Fg (Ia (A1 n))) .no::.sl (Eu (A3 n 31)) .no::.sl (Eu (A3 n 32)) .no::.sl (Fh (Fq n)) .no ::
  .sl (Va Eg.f (Ia (A1 n)) (D9 (A1 n)).pts) .no::.sl (Va Eg.t (Ia (A1 n)) (D9 (A1 n)).pts) .no::Ag (Be n)
theorem Auf{S:St}{m b pts:Nat}(f:Eg→Int)(l:List Eg)(hS:S.boxes[b]?=some (Xc m f l pts))(hp:pts≤P1):Fz S 0 0 (.bsl b pts) (.sl (Va f l pts) .no):=by
 refine .bsl b pts (Xc m f l pts) (Va f l pts) (Cb _) hS (by rw[Tw];exact Bt _) hp (by simp[Va]) (fun i r r' h1 h2=>?_) (fun i j r r' x y h1 h2 h3 h4=>?_)
 ·have hi:=Aa h1;rw[Tw]at hi;rw[H5 _ _ _ hi]at h1;simp only[Va,Hd,Ab2 hi,K4]at h2;cases h1;cases h2;rfl
 ·have hi:=Aa h1;rw[Tw]at hi;rw[H5 _ _ _ hi]at h1;simp only[Va,Hd,Ab2 hi,K4]at h2;cases h1;cases h2;cases j with
  |zero=>simp at h3 h4;subst h3;subst h4;exact A0s (FzR.same ((inferInstance:OKR 0 0 (T4 (Ki f l i))).ok))
  |succ j=>simp at h3
set_option maxHeartbeats 2000000 in
theorem Aiy(n:Nd)(hn:Al n≤1000000000)(hnum:PrI n) :
 Pure X 52 [nd n] (if H4 n=true then .tup [.cptr (Oj n),vb true]else .tup [.val (.pointer none),vb false]):=by
 have hfl:Sw X.P 150=some [0,1]:=by kernel_rfl
 refine Pure.run func52 ?_;refine Aj (Aza n hn hnum) ?_;refine Bs (Vz (r:=!(((Fj n).1==0)&&(((Fj n).2==[])&&true))) rfl rfl rfl rfl rfl hfl rfl (.inr ⟨rfl,rfl⟩)) ?_;by_cases hr:H4 n=true
 ·obtain⟨hC,h1,h2⟩:=Adc hr;obtain⟨fp,hc,hw,hne,hkl⟩:=Kc hr;rw[if_pos hr];have hpv:Vl n=Be n:=by unfold Vl;rw[hC];rfl
  rw[hC,hpv];refine Ah ?_;obtain⟨ds,hpl,_,hps,hwl⟩:=Acc fp;have hpw:=(Qe n).1;have hkp:=Ho (Be n);have hgr:Pure X 105 [nd (Be n)] (.agg [vi (D9 (A1 n)).pts,.sl (Fg (Ia (A1 n))) .no]):=Aq0 (Be n) (by rw[hpl];simp) hps (show wL (A1 n)≤_ by omega) (by omega);refine Eo 1024 ?_;refine B2 hgr ?_;refine B2 (Agh n 31 hne (by omega)) ?_;refine B2 (Agh n 32 hne (by omega)) ?_;refine B2 (Arw n hne (by omega)) ?_;refine C4 (Me rfl rfl rfl) ?_;refine A0 ?_;refine Bu ?_;have hps2:=M4 hps Cm ⟨1,0,[],[],[],0⟩ (by decide);have hpts:(D9 (A1 n)).pts≤2000000∧(Ia (A1 n)).length≤2000000∧∀e,e∈Ia (A1 n)→(0≤e.f∧e.f<(D9 (A1 n)).pts)∧0≤e.t∧e.t<(D9 (A1 n)).pts:=by
   have hl:=Mm 6 Cm hps2.pt;have hA:=hps2.trans hl (Bt _);obtain⟨es,e1,e2,e3⟩:=hA.es;have hpp:=hA.pts;simp only[bG]at e2 hpp;have hes:(D9 (A1 n)).es=es:=by unfold D9;rw[e1];rfl
   have hpt:(D9 (A1 n)).pt<(D9 (A1 n)).pts:=hA.pt;refine⟨by show _≤_;unfold D9;have:(1:Nat)=(⟨1,0,[],[],[],0⟩:Gr).pts:=rfl;omega,by unfold Ia;rw[hes,Py];omega,fun e he=>?_⟩;unfold Ia at he;rw[hes]at he;obtain⟨e0,h0,rfl⟩:=zzq50.1 he;obtain⟨q1,q2⟩:=e3 e0 h0;have q1':0≤e0.f∧e0.f<(D9 (A1 n)).pts:=q1;have q2':e0.t=-1∨(0≤e0.t∧e0.t<(D9 (A1 n)).pts):=q2;unfold Ed;split
   ·exact⟨q1',by simp;omega⟩
   ·exact⟨q1',by omega⟩
  obtain⟨hp1,hp2,hp3⟩:=hpts;unfold Oj;generalize Ia (A1 n)=es at *;generalize (D9 (A1 n)).pts=pts at *
  let prow (x y:AV):An:=vi pts::.sl (Fg es) .no::.sl (Eu (A3 n 31)) .no::.sl (Eu (A3 n 32)) .no::.sl (Fh (Fq n)) .no::x::y::Ag (Be n)
  let bxs (x y:AV):B3:=[[Ag n],[Ag (Be n)],[[vi 0,str []]],[prow x y],List.replicate pts [.sl [] .tight],List.replicate pts [.sl [] .tight]]
  have L6:AK X ⟨52,f52,0,0⟩ (J6 false 6 f52) [(6,.ptr 3 0 0)] ⟨bxs (.bsl 4 pts) (.bsl 5 pts),[]⟩
   (fun e S=>e=.ret (.tup [.cptr (vi pts::.sl (Fg es) .no::.sl (Eu (A3 n 31)) .no::.sl (Eu (A3 n 32)) .no::.sl (Fh (Fq n)) .no::.sl (Va Eg.f es pts) .no::.sl (Va Eg.t es pts) .no::Ag (Be n)),vb true])∧S=⟨[],[]⟩):=by
   refine Dj ?_;refine Acz (bx:=[[Ag n],[Ag (Be n)],[[vi 0,str []]],[prow (.bsl 4 pts) (.bsl 5 pts)],Xc 0 Eg.f [] pts,List.replicate pts [.sl [] .tight]]) (tk:=List.replicate pts 0) 4 pts 0 rfl rfl rfl rfl ?_;refine Acz (bx:=[[Ag n],[Ag (Be n)],[[vi 0,str []]],[prow (.bsl 4 pts) (.bsl 5 pts)],Xc 0 Eg.f [] pts,Xc pts Eg.t [] pts]) (tk:=List.replicate pts 0++List.replicate pts 0) 5 pts pts rfl (by simp) rfl rfl ?_;refine Bl ⟨[[Ag n],[Ag (Be n)],[[vi 0,str []]],[prow (.bsl 4 pts) (.bsl 5 pts)],Xc 0 Eg.f (es.take 0) pts,Xc pts Eg.t (es.take 0) pts],R2 Eg.f (es.take 0) pts++R2 Eg.t (es.take 0) pts⟩ ?_ (by
    have:∀f:Eg→Int,R2 f (es.take 0) pts=List.replicate pts 0:=fun f=>List.eq_replicate_iff.2 ⟨J3 f _ pts,fun b hb=>by obtain⟨p,_,rfl⟩:=zzq50.1 hb;rfl⟩;rw[this,this];rfl)
   refine Ba 100 rfl ?_;refine Ar (ι:=Nat) 6 (pts+pts) (fun i=>i≤es.length) (fun i=>[(52,vi i),(51,vi es.length),(50,.sl (Fg es) .no),(6,.ptr 3 0 0)])
    (fun i=>⟨[[Ag n],[Ag (Be n)],[[vi 0,str []]],[prow (.bsl 4 pts) (.bsl 5 pts)],Xc 0 Eg.f (es.take i) pts,Xc pts Eg.t (es.take i) pts],R2 Eg.f (es.take i) pts++R2 Eg.t (es.take i) pts⟩) (fun i=>es.length-i) ?_ 0
    (Cb _) ⟨rfl,by rw[←Kh es];rfl,rfl,rfl,trivial⟩ ?_ rfl (by simp) rfl ?_ (fun _=>inferInstance) (fun i=>⟨?_⟩)
   ·intro i hi IH;refine Cp (fun h=>?_) (fun h=>?_)
    ·have hlt:i<es.length:=by have:=A6 h;omega
     obtain⟨⟨ef,et,ek,ey,en⟩,he⟩:=Ab es hlt;obtain⟨⟨q1,q2⟩,q3,q4⟩:=hp3 _ (Bn he);simp only at q1 q2 q3 q4;obtain⟨j,rfl⟩:=Int.eq_ofNat_of_zero_le q1;obtain⟨j',rfl⟩:=Int.eq_ofNat_of_zero_le q3;have hj:j<pts:=by omega
     have hj':j'<pts:=by omega
     refine Bv i (by omega) (Ge he) ?_;refine Eo 327680 ?_;refine A4 (Gp (j:=j) rfl rfl rfl rfl rfl rfl rfl rfl (by simpa[Hp]using hj) rfl (H5 0 Eg.f _ hj) rfl) ?_;refine A4 (Qy rfl (H5 0 Eg.f _ hj) rfl rfl rfl rfl rfl rfl rfl) ?_;refine C9 ?_;have hlf:=Y9 Eg.f j (es.take i) 0;have hlt':=Y9 Eg.t j' (es.take i) 0;have htk:(es.take i).length=i:=by simp;omega
     have hlF:(R2 Eg.f (es.take i) pts).length=pts:=J3 _ _ _;have hkF:(R2 Eg.f (es.take i) pts++R2 Eg.t (es.take i) pts)[0+j]?=some (Ki Eg.f (es.take i) j).length:=by
      rw[Kr,Dd (by omega)];exact Zu _ _ hj
     refine Er (S':=⟨[[Ag n],[Ag (Be n)],[[vi 0,str []]],[prow (.bsl 4 pts) (.bsl 5 pts)],Xc 0 Eg.f (es.take i) pts,Xc pts Eg.t (es.take i) pts,[Io ⟨j,j',ek,ey,en⟩]],R2 Eg.f (es.take (i+1)) pts++R2 Eg.t (es.take i) pts⟩)
      (Cn (res:=T4 (Ki Eg.f (es.take i) j++[i])) rfl rfl rfl rfl rfl rfl rfl rfl rfl rfl rfl rfl rfl hkF (Ox _) (Amr _) rfl rfl rfl ?_ (Adq _ i) ?_) ?_ ?_
     ·rw[Ox];unfold Ki;show _+1≤_;omega
     ·show (R2 Eg.f (es.take i) pts++R2 Eg.t (es.take i) pts).set (0+j) ((T4 (Ki Eg.f (es.take i) j)).length+1)=_;rw[Kr,Ox,List.set_append_left _ _ (by omega),Ap0 Eg.f he rfl]
     ·refine Aq (Qy rfl (H5 0 Eg.f _ hj) rfl rfl rfl rfl rfl rfl rfl) (Aq (Gp (j:=j) rfl rfl rfl rfl rfl rfl rfl rfl (by simpa[Hp]using hj) rfl (H5 0 Eg.f _ hj) rfl) ?_);exact Aq (Cy rfl rfl rfl) (Aq (Cy rfl rfl rfl) (Aq (Cy rfl rfl rfl) (Aq (Cy rfl rfl rfl) G6)))
     refine Qt (Aq (Gp (j:=j) rfl rfl rfl rfl rfl rfl rfl rfl (by simpa[Hp]using hj) rfl (H5 0 Eg.f _ hj) rfl) (Aq (Gp (j:=j) rfl rfl rfl rfl rfl rfl rfl rfl (by simpa[Hp]using hj) rfl (H5 0 Eg.f _ hj) rfl) G6)) rfl ?_;refine C4 (Bg rfl rfl rfl rfl rfl rfl (Yd rfl (H5 0 Eg.f _ hj) rfl rfl rfl)) ?_;refine Bu ?_;refine Bl ⟨[[Ag n],[Ag (Be n)],[[vi 0,str []]],[prow (.bsl 4 pts) (.bsl 5 pts)],Xc 0 Eg.f (es.take (i+1)) pts,Xc pts Eg.t (es.take i) pts,[Io ⟨j,j',ek,ey,en⟩]],R2 Eg.f (es.take (i+1)) pts++R2 Eg.t (es.take i) pts⟩ ?_ (by
      rw[←Ap1 0 Eg.f he rfl];rfl)
     refine Eo 327680 ?_;refine A4 (Gp (j:=j') rfl rfl rfl rfl rfl rfl rfl rfl (by simpa[Hp]using hj') rfl (H5 pts Eg.t _ hj') rfl) ?_;refine A4 (Qy rfl (H5 pts Eg.t _ hj') rfl rfl rfl rfl rfl rfl rfl) ?_;refine C9 ?_;have hkT:(R2 Eg.f (es.take (i+1)) pts++R2 Eg.t (es.take i) pts)[pts+j']?=some (Ki Eg.t (es.take i) j').length:=by
      rw[Gz (by rw[J3];omega),J3,Nat.add_sub_cancel_left];exact Zu _ _ hj'
     refine Er (S':=⟨[[Ag n],[Ag (Be n)],[[vi 0,str []]],[prow (.bsl 4 pts) (.bsl 5 pts)],Xc 0 Eg.f (es.take (i+1)) pts,Xc pts Eg.t (es.take i) pts,[Io ⟨j,j',ek,ey,en⟩]],R2 Eg.f (es.take (i+1)) pts++R2 Eg.t (es.take (i+1)) pts⟩)
      (Cn (res:=T4 (Ki Eg.t (es.take i) j'++[i])) rfl rfl rfl rfl rfl rfl rfl rfl rfl rfl rfl rfl rfl hkT (Ox _) (Amr _) rfl rfl rfl ?_ (Adq _ i) ?_) ?_ ?_
     ·rw[Ox];unfold Ki;show _+1≤_;omega
     ·show (R2 Eg.f (es.take (i+1)) pts++R2 Eg.t (es.take i) pts).set (pts+j') ((T4 (Ki Eg.t (es.take i) j')).length+1)=_;rw[Ox,Jb _ _ (by rw[J3];omega),J3,Nat.add_sub_cancel_left,Ap0 Eg.t he rfl]
     ·refine Aq (Qy rfl (H5 pts Eg.t _ hj') rfl rfl rfl rfl rfl rfl rfl) (Aq (Gp (j:=j') rfl rfl rfl rfl rfl rfl rfl rfl (by simpa[Hp]using hj') rfl (H5 pts Eg.t _ hj') rfl) ?_);exact Aq (Cy rfl rfl rfl) (Aq (Cy rfl rfl rfl) (Aq (Cy rfl rfl rfl) (Aq (Cy rfl rfl rfl) G6)))
     refine Qt (Aq (Gp (j:=j') rfl rfl rfl rfl rfl rfl rfl rfl (by simpa[Hp]using hj') rfl (H5 pts Eg.t _ hj') rfl) (Aq (Gp (j:=j') rfl rfl rfl rfl rfl rfl rfl rfl (by simpa[Hp]using hj') rfl (H5 pts Eg.t _ hj') rfl) G6)) rfl ?_;refine C4 (Bg rfl rfl rfl rfl rfl rfl (Yd rfl (H5 pts Eg.t _ hj') rfl rfl rfl)) ?_;refine Bu ?_;refine Bl ⟨[[Ag n],[Ag (Be n)],[[vi 0,str []]],[prow (.bsl 4 pts) (.bsl 5 pts)],Xc 0 Eg.f (es.take (i+1)) pts,Xc pts Eg.t (es.take (i+1)) pts,[Io ⟨j,j',ek,ey,en⟩]],R2 Eg.f (es.take (i+1)) pts++R2 Eg.t (es.take (i+1)) pts⟩ ?_ (by
      rw[←Ap1 pts Eg.t he rfl];rfl)
     refine IH (i+1) hlt (by omega) _ _ ⟨vsx (by omega),rfl,rfl,rfl,trivial⟩ ?_ rfl ?_
     ·exact congrArg (St.mk _) (List.take_of_length_le (by simp[J3]))
     ·show Nat.ble (pts+pts) (R2 Eg.f (es.take (i+1)) pts++R2 Eg.t (es.take (i+1)) pts).length=true;simp[J3]
    ·have:i=es.length:=by have:=Bd h;omega
     subst this;rw[Jh];have f1:=Auf (S:=⟨[[Ag n],[Ag (Be n)],[[vi 0,str []]],[prow (.bsl 4 pts) (.bsl 5 pts)],Xc 0 Eg.f es pts,Xc pts Eg.t es pts],R2 Eg.f es pts++R2 Eg.t es pts⟩) (b:=4) (m:=0) (pts:=pts) Eg.f es rfl (by unfold P1;omega);have f2:=Auf (S:=⟨[[Ag n],[Ag (Be n)],[[vi 0,str []]],[prow (.bsl 4 pts) (.bsl 5 pts)],Xc 0 Eg.f es pts,Xc pts Eg.t es pts],R2 Eg.f es pts++R2 Eg.t es pts⟩) (b:=5) (m:=pts) (pts:=pts) Eg.t es rfl (by unfold P1;omega)
     haveI i1:FzC ⟨[[Ag n],[Ag (Be n)],[[vi 0,str []]],[prow (.bsl 4 pts) (.bsl 5 pts)],Xc 0 Eg.f es pts,Xc pts Eg.t es pts],R2 Eg.f es pts++R2 Eg.t es pts⟩ 0 0 (.bsl 4 pts) (.sl (Va Eg.f es pts) .no):=⟨f1⟩
     haveI i2:FzC ⟨[[Ag n],[Ag (Be n)],[[vi 0,str []]],[prow (.bsl 4 pts) (.bsl 5 pts)],Xc 0 Eg.f es pts,Xc pts Eg.t es pts],R2 Eg.f es pts++R2 Eg.t es pts⟩ 0 0 (.bsl 5 pts) (.sl (Va Eg.t es pts) .no):=⟨f2⟩
     exact Ao func52 rfl
   ·exact congrArg (St.mk _) (List.take_of_length_le (by simp[J3]))
   ·show Nat.ble (pts+pts) (R2 Eg.f (es.take 0) pts++R2 Eg.t (es.take 0) pts).length=true;simp[J3]
   ·intro rows hrows;simp only[zzq8,Xh,or_false]at hrows;rcases hrows with rfl|rfl|rfl|rfl|rfl|rfl
    ·exact(inferInstance:OKR 6 (pts+pts) [Ag n]).ok
    ·exact(inferInstance:OKR 6 (pts+pts) [Ag (Be n)]).ok
    ·exact(inferInstance:OKR 6 (pts+pts) [[vi 0,str []]]).ok
    ·exact(inferInstance:OKR 6 (pts+pts) [vi pts::.sl (Fg es) .no::.sl (Eu (A3 n 31)) .no::.sl (Eu (A3 n 32)) .no::.sl (Fh (Fq n)) .no::.bsl 4 pts::.bsl 5 pts::Ag (Be n)]).ok
    ·exact Awd Eg.f _ (by omega)
    ·exact Awd Eg.t _ (by omega)
  refine Bl ⟨[[Ag n],[Ag (Be n)],[[vi 0,str []]],[prow (.sl [] .tight) (.sl [] .tight)]],[]⟩ ?_;refine Ix 6 (.ptr 3 0 0) ?_;refine An3 fun l hord=>?_;rcases Anw (show 7≠13 by decide) l (fun _=>false)with h1|h1
  ·rcases Anw (show 13≠16 by decide) l (fun _=>false)with h2|h2
   ·refine Al6 [0,1,2,3,4,5,6,8,9,10,11,12,7,13,14,15,16,17,18,19] [(7,13),(13,16)] 598144 ?_ rfl ?_
    ·intro ab hab;simp only[zzq8,Xh,or_false]at hab;rcases hab with rfl|rfl
     ·exact h1
     ·exact h2
    refine Ahg 12 ?_;refine Ahh (Jz (n:=pts) (b:=4) (by omega) rfl rfl rfl rfl rfl rfl rfl rfl rfl rfl) ?_ ?_
    ·exact Aq (Cy rfl rfl rfl) (Aq (Cy rfl rfl rfl) G6)
    refine K6 (Jz (n:=pts) (b:=5) (by omega) rfl rfl rfl rfl rfl rfl rfl rfl rfl rfl) ?_;refine Mb ?_;refine Mb ?_;refine K6 (Bg rfl rfl rfl rfl rfl rfl rfl) ?_;refine Mb ?_;refine Mb ?_;refine K6 (Bg rfl rfl rfl rfl rfl rfl rfl) ?_;refine Ahi 6 ?_;refine Bl ⟨bxs (.bsl 4 pts) (.bsl 5 pts),[]⟩ ?_;refine Qj (G:=[(6,.ptr 3 0 0)]) ⟨rfl,trivial⟩ ?_;exact L6
   ·refine Al6 [0,1,2,3,4,5,6,8,9,10,11,12,7,14,15,16,13,17,18,19] [(7,13),(16,13)] 598144 ?_ rfl ?_
    ·intro ab hab;simp only[zzq8,Xh,or_false]at hab;rcases hab with rfl|rfl
     ·exact h1
     ·exact h2
    refine Ahg 12 ?_;refine Ahh (Jz (n:=pts) (b:=4) (by omega) rfl rfl rfl rfl rfl rfl rfl rfl rfl rfl) ?_ ?_
    ·exact Aq (Cy rfl rfl rfl) (Aq (Cy rfl rfl rfl) G6)
    refine Mb ?_;refine Mb ?_;refine K6 (Bg rfl rfl rfl rfl rfl rfl rfl) ?_;refine K6 (Jz (n:=pts) (b:=5) (by omega) rfl rfl rfl rfl rfl rfl rfl rfl rfl rfl) ?_;refine Mb ?_;refine Mb ?_;refine K6 (Bg rfl rfl rfl rfl rfl rfl rfl) ?_;refine Ahi 6 ?_;refine Bl ⟨bxs (.bsl 4 pts) (.bsl 5 pts),[]⟩ ?_;refine Qj (G:=[(6,.ptr 3 0 0)]) ⟨rfl,trivial⟩ ?_;exact L6
  ·have h2:AB 13 16 l (fun _=>false):=A0q (b:=7) (by decide) (by kernel_rfl) l _ hord h1 (fun h=>by cases h);refine Al6 [0,1,2,3,4,5,6,8,9,10,11,12,13,7,14,15,16,17,18,19] [(13,7),(13,16)] 598144 ?_ rfl ?_
   ·intro ab hab;simp only[zzq8,Xh,or_false]at hab;rcases hab with rfl|rfl
    ·exact h1
    ·exact h2
   refine Ahg 12 ?_;refine Ahh (Jz (n:=pts) (b:=4) (by omega) rfl rfl rfl rfl rfl rfl rfl rfl rfl rfl) ?_ ?_
   ·exact Aq (Cy rfl rfl rfl) (Aq (Cy rfl rfl rfl) G6)
   refine K6 (Jz (n:=pts) (b:=5) (by omega) rfl rfl rfl rfl rfl rfl rfl rfl rfl rfl) ?_;refine Mb ?_;refine Mb ?_;refine K6 (Bg rfl rfl rfl rfl rfl rfl rfl) ?_;refine Mb ?_;refine Mb ?_;refine K6 (Bg rfl rfl rfl rfl rfl rfl rfl) ?_;refine Ahi 6 ?_;refine Bl ⟨bxs (.bsl 5 pts) (.bsl 4 pts),[]⟩ ?_;refine Awu (G:=[(6,.ptr 3 0 0)]) (bx3:=[[Ag n],[Ag (Be n)],[[vi 0,str []]],[vi pts::.sl (Fg es) .no::.sl (Eu (A3 n 31)) .no::.sl (Eu (A3 n 32)) .no::.sl (Fh (Fq n)) .no::.bsl 5 pts::.bsl 4 pts::Ag (Be n)],List.replicate pts [.sl [] .tight],List.replicate pts [.sl [] .tight]]) (bx2:=[[Ag n],[Ag (Be n)],[[vi 0,str []]],[vi pts::.sl (Fg es) .no::.sl (Eu (A3 n 31)) .no::.sl (Eu (A3 n 32)) .no::.sl (Fh (Fq n)) .no::.bsl 4 pts::.bsl 5 pts::Ag (Be n)],List.replicate pts [.sl [] .tight],List.replicate pts [.sl [] .tight]]) [0,1,2,3,5,4] ?_ (.cons rfl inferInstance .nil) rfl rfl rfl rfl rfl;exact L6
 ·rw[if_neg hr];have h0:((Fj n).1==0)=false:=by unfold H4 at hr;simpa using hr
  refine Ay ?_ (ht:=by rw[h0];rfl);exact Ao func52 rfl
end Go.V
