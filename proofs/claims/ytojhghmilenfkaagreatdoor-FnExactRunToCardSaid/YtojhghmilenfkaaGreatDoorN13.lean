/- A part of the proof of the claim that the last text states: no condition of its own. -/
import Derived.Test.YtojhghmilenfkaaGreatDoorN12
import Derived.Laws.MakeOwn
set_option linter.unusedVariables false
set_option linter.unusedSimpArgs false
namespace Go.V
open Go Go.Proofs Go.Proofs.Tryz
def D1(x:Int)(e:Eg):Eg:=if e.t<0 then{ e with t:=x }else e
def To(x:Int)(l:List Eg)(i:Nat):List Eg:=(l.take i).map (D1 x)++l.drop i
def Wl(l:List Eg)(i:Nat):Nat:=l.length+((l.take i).filter fun e=>decide (e.t<0)).length
theorem Yp(x:Int)(l:List Eg)(i:Nat):(To x l i).length=l.length:=by simp[To];omega
theorem Aql(x:Int)(l:List Eg):To x l 0=l:=by simp[To]
theorem Atr(x:Int)(l:List Eg):To x l l.length=l.map (D1 x):=by simp[To]
theorem Arm(l:List Eg):Wl l 0=l.length:=by simp[Wl]
theorem Ajt{x:Int}{l:List Eg}{i:Nat}{e:Eg}(h:l[i]?=some e):(To x l i)[i]?=some e:=by
 have hi:=Aa h;simp only[To];rw[Gk (by simp;omega),Nz];simp[show i+(i-min i l.length)=i by omega,h]
theorem Aju{x:Int}{l:List Eg}{i:Nat}{e:Eg}(h:l[i]?=some e):(To x l i).set i (D1 x e)=To x l (i+1):=by
 have hi:=Aa h;simp only[To];rw[Iw _ _ (by simp;omega),G8,h,Kr,B6 h];simp[show i-min i l.length=0 by omega]
theorem Aqk{x:Int}{l:List Eg}{i:Nat}{e:Eg}(h:l[i]?=some e)(ht:¬e.t<0):To x l (i+1)=To x l i:=by
 rw[←Aju h];have:D1 x e=e:=by simp[D1,ht]
 rw[this];apply Abp;intro j;rw[Vb];split
 ·rename_i hj;subst hj;rw[Ajt h];simp[Yp,Aa h]
 ·rfl
theorem Aks{l:List Eg}{i:Nat}{e:Eg}(h:l[i]?=some e)(ht:e.t<0):Wl l (i+1)=Wl l i+1:=by
 simp only[Wl];rw[G8,h];simp[ht];omega
theorem Avq{l:List Eg}{i:Nat}{e:Eg}(h:l[i]?=some e)(ht:¬e.t<0):Wl l (i+1)=Wl l i:=by
 simp only[Wl];rw[G8,h];simp[ht]
def D6(l:List Nd):Gr:=Dn 6 Cg (gL l Cg ⟨1,0,[],[],[],0⟩)
def Lx(l:List Nd):List Eg:=(D6 l).es.map (D1 (D6 l).pt)
def A9(n:Nd):List Nd:=(Dt (A6 n)).kids
theorem Abw{n:Nd}(h:FP n):∃ds,A6 n=.mk 40 [] 0 (ds++[.mk 30 [] 0 (A9 n)])∧n.kids.dropLast=ds∧(∀x,x∈A9 n→PS x)∧wL (A9 n)≤10*wN n:=by
 have hw:=(Ps n).1;cases h with
 |mk ds l hd hl=>
  have e1:A9 (.mk 40 [] 0 (ds++[.mk 30 [] 0 l]))=Br l:=by
   unfold A9 Dt;rw[Yx hd,Gh];simp[Gh]
  rw[e1];refine⟨ds,Yx hd,by rw[Gh];simp,O5 fun x hx=>A3h (hl x hx),?_⟩;rw[Yx hd]at hw;simp only[wN,wL,U7]at hw⊢;omega
theorem As1(e:Eg)(x:Int)(h:e.t<0):(H5 e).take 1++[vi x]++(H5 e).drop (1+[vi x].length)=H5 (D1 x e):=by simp[H5,D1,h]
theorem Ae8(l:List Eg)(i:Nat)(e:Eg):(Fv l).set i (H5 e)=Fv (l.set i e):=by simp[Fv,Zc]
theorem Gm{l:List Eg}{i:Nat}{e:Eg}(h:l[i]?=some e):(Fv l)[i]?=some (H5 e):=by simp[Fv,h]
abbrev gBx(n:Nd)(p:Nat)(rows:List (List AV))(v:Nat):List (List (List AV)):=[[Af n],[[vi 0,.sl [] .tight]],[Af (A6 n)],[[vi p,.psl rows 0 v]]]
theorem Aw7(n:Nd)(h:FP n)(hw:wN n≤1000000):Pure X 100 [nd n] (.agg [vi (D6 (A9 n)).pts,.sl (Fv (Lx (A9 n))) .no]):=by
 obtain⟨ds,hpl,_,hps,hwl⟩:=Abw h;have hpw:=(Ps n).1;have hdl:IntKind.i64.wrap (((Ap (A6 n).kids).length:Int)-1)=ds.length:=by
  have hkl:=G7 (A6 n);have e:(Ap (A6 n).kids).length=ds.length+1:=by rw[Ad,hpl,Gh];simp
  rw[Ad]at e;rw[Ad,Ac (by omega) (by omega)];omega
 have hlast:(Ap (A6 n).kids)[(IntKind.i64.wrap (((Ap (A6 n).kids).length:Int)-1)).toNat]?=some (Af (.mk 30 [] 0 (A9 n))):=by
  rw[hdl,hpl,Gh];exact Am (by simp)
 have h0:0≤IntKind.i64.wrap (((Ap (A6 n).kids).length:Int)-1):=by rw[hdl];omega
 refine Pure.run func100 ?_;refine Al (Abd n h (by omega)) ?_;refine Xw (bx:=gBx n 0 [] 0) (tk:=[0]) 3 0 1 ?_;refine If 4 (.ptr 3 0 0) ?_;refine D8 3072 ?_;refine Db _ h0 hlast ?_;refine Dz (Hd (τ':=[0]) [3] [0] (Jj 0 [] (by omega))) ?_ ?_
 ·exact An (Ck rfl rfl rfl) (An (Ck rfl rfl rfl) (An (Ck rfl rfl rfl) Gy))
 have c0:Gb ⟨1,0,[],[],[],0⟩ (wL (A9 n)):=⟨by decide,by show 1+_≤_;omega,by show 0+_≤_;omega⟩
 have l0:=Mq hps Cg _ c0.pt;have i0:Hands X 158 [.ptr 0 0 0,nd (.mk 30 [] 0 (A9 n)),vi (0:Nat)] ⟨[mbx (0+1) []],[([]:List Eg).length]⟩ (vi (gL (A9 n) Cg ⟨1,0,[],[],[],0⟩).pt) (gSt (gL (A9 n) Cg ⟨1,0,[],[],[],0⟩)):=
  Ahk hps (fun x hx=>A1c (hps x hx)) Cg _ c0
 have c1:Gb (gL (A9 n) Cg ⟨1,0,[],[],[],0⟩) 0:=c0.step l0 (by omega);generalize hg:gL (A9 n) Cg ⟨1,0,[],[],[],0⟩=g at *;refine Ch (Hd (τ':=[0]) [3] [0] i0) ?_;refine Av ?_;refine B2 ?_;have b1:=c1.pts;have b2:=c1.es;refine Ae (τ':=[0]) [3] [0] (Jj g.pts g.es (by omega)) ?_;refine Ae (τ':=[0]) [3] [0] (R8 (g.pts+1) g.es g.pt g.pts 6 false (by omega)) ?_;have hG:D6 (A9 n)=Dn 6 Cg g:=by unfold D6;rw[hg]
 have hE:Lx (A9 n)=(g.es++[(⟨g.pt,g.pts,6,false,Cg⟩:Eg)]).map (D1 g.pts):=by unfold Lx;rw[hG];rfl
 rw[hE,hG];show AK X _ _ _ _ fun e S=>e=.ret (.agg [vi (g.pts+1:Nat),.sl (Fv ((g.es++[(⟨g.pt,g.pts,6,false,Cg⟩:Eg)]).map (D1 g.pts))) .no])∧S=⟨[],[]⟩
 have hel:(g.es++[(⟨g.pt,g.pts,6,false,Cg⟩:Eg)]).length≤1000000001:=by simp;omega
 generalize g.es++[(⟨g.pt,g.pts,6,false,Cg⟩:Eg)]=es at *;refine Be ⟨gBx n (g.pts+1) (Fv (To g.pts es 0)) (Wl es 0),[Wl es 0]⟩ ?_ (by rw[Aql,Arm];rfl);refine Ar (ι:=Nat) 4 1 (fun i=>i≤es.length) (fun i=>[(7,vi i),(4,.ptr 3 0 0),(6,vi g.pts),(2,.ptr 1 0 0)])
  (fun i=>⟨gBx n (g.pts+1) (Fv (To g.pts es i)) (Wl es i),[Wl es i]⟩) (fun i=>es.length-i) ?_ 0
  (B3 _) ⟨rfl,rfl,rfl,rfl,trivial⟩
 intro i hi IH;refine C7 (fun h=>?_) (fun h=>?_)
 ·have hlt:i<es.length:=by have:=A5 h;rw[Lc,Yp]at this;omega
  obtain⟨e,he⟩:=Ab es hlt;have hil:i<(Fv (To g.pts es i)).length:=by rw[Lc,Yp];exact hlt
  have hrow:=Gm (Ajt (x:=g.pts) he);refine Bn (Abz (n:=i) hil rfl (Ua _) rfl rfl rfl rfl rfl rfl rfl rfl) ?_;refine Bn (Awb (x:=vi e.t) hrow rfl (by show 1+1≤8;omega) rfl rfl rfl rfl rfl rfl) ?_;refine Ah (fun h2=>?_) (fun h2=>?_)
  ·have h2':e.t<0:=A5 h2;refine Bn (Abz (n:=i) hil rfl (Ua _) rfl rfl rfl rfl rfl rfl rfl rfl) ?_;refine Bn (Agy (b:=3) (r:=0) (g:=1) (xs:=[vi g.pts]) (bx:=gBx n (g.pts+1) (Fv (To g.pts es (i+1))) (Wl es (i+1))) (tk':=[Wl es (i+1)]) rfl hrow (by show 1+1≤8;omega) (fun z hz=>by simp at hz;subst hz;exact .val _) rfl rfl rfl
    ?_ ?_ rfl rfl rfl rfl rfl rfl rfl rfl) ?_
   ·show gBx n (g.pts+1) ((Fv (To g.pts es i)).set i ((H5 e).take 1++[vi g.pts]++(H5 e).drop (1+[vi g.pts].length))) (Wl es i+1)=_;rw[As1 e _ h2',Ae8,Aju he,←Aks he h2']
   ·show [Wl es i+1]=_;rw[←Aks he h2']
   exact IH (i+1) hlt (by omega) _ _ ⟨vsx (by omega),rfl,rfl,rfl,trivial⟩ rfl rfl rfl
  ·have h2':¬e.t<0:=Ba h2;rw[←Aqk (x:=g.pts) he h2',←Avq he h2'];exact IH (i+1) hlt (by omega) _ _ ⟨vsx (by omega),rfl,rfl,rfl,trivial⟩ rfl rfl rfl
 ·have:i=es.length:=by have:=Ba h;rw[Lc,Yp]at this;omega
  subst this;rw[Atr];refine D8 512 ?_;refine Ch (A7 rfl rfl rfl rfl rfl rfl rfl) ?_;refine B2 ?_;exact As func100 rfl
def Uh(l:List Nat):List (List AV):=l.map fun(i:Nat)=>[vi i]
theorem N8(l:List Nat):(Uh l).length=l.length:=by simp[Uh]
theorem Al3(l:List Nat):Kf 1 (Uh l)=true:=Kx (f:=fun(i:Nat)=>[vi i]) (fun _=>rfl) l
theorem Ada(l:List Nat)(i:Nat):Uh l++[[vi i]]=Uh (l++[i]):=by simp[Uh]
instance{n m:Nat}{l:List Nat}:OKR n m (Uh l):=⟨fun r hr x hx=>by obtain⟨e,_,rfl⟩:=zzq66.1 hr;simp at hx;subst hx;exact .val _⟩
def Z9(l:Lp):List AV:=Af l.a++Af l.l++[vi l.h,vi l.x]
def Kn(l:List Lp):List (List AV):=l.map Z9
theorem Aaa(l:List Lp):(Kn l).length=l.length:=by simp[Kn]
theorem Ajr(l:List Lp):∀r,r∈Kn l→r.length=10:=fun r h=>by obtain⟨e,_,rfl⟩:=zzq66.1 h;rfl
theorem Amb(l:List Lp)(e:Lp):Kn l++[Z9 e]=Kn (l++[e]):=by simp[Kn]
theorem Afp(e:Lp):∀x,x∈Z9 e→Flat x:=fun x hx=>by
 simp only[Z9,zzq45,zzq13,Ww,or_false]at hx;rcases hx with(hx|hx)|rfl|rfl
 ·exact Up _ x hx
 ·exact Up _ x hx
 ·exact .val _
 ·exact .val _
theorem Ama(e:Lp):∀r,r∈[Z9 e]→∀x,x∈r→NoT x:=fun r hr x hx=>by simp at hr;subst hr;exact(Afp e x hx).noT
instance{n m:Nat}{l:List Lp}:OKR n m (Kn l):=⟨fun r hr x hx=>by obtain⟨e,_,rfl⟩:=zzq66.1 hr;exact(Afp e x hx).ok⟩
abbrev mx(p:Nat)(es:List Eg)(at_:Nat)(sts:List Nat)(lps:List Lp)(v:Nat):List (List AV):=[[vi p,.psl (Fv es) 0 es.length,vi at_,.sl (Uh sts) (.tok 1),.psl (Kn lps) 2 v]]
abbrev mS(p:Nat)(es:List Eg)(at_:Nat)(sts:List Nat)(lps:List Lp)(v:Nat):St:=⟨[mx p es at_ sts lps v],[es.length,sts.length,v]⟩
def iE(g:Gr):List Eg:=g.es.map (D1 0)
abbrev gM(g:Gr):St:=mS g.pts (iE g) g.pt g.sts g.lps g.ver
theorem Uf(g:Gr):(iE g).length=g.es.length:=by simp[iE]
theorem Axd(k:Int)(n:Nd)(g:Gr):iE (Dn k n g)=iE g++[⟨g.pt,g.pts,k,false,n⟩]:=by simp[iE,Dn,D1];intro h;omega
theorem A1f(p:Nat)(c:Nd)(y:Bool)(g:Gr):iE (D7 p c y g)=iE g++[⟨p,g.pts,4,y,c⟩]:=by simp[iE,D7,D1];intro h;omega
theorem Axe(g:Gr):iE (Ox g)=iE g++[⟨g.pt,0,7,false,Cg⟩]:=by simp[iE,Ox,D1]
theorem Axb(h:Nat)(g:Gr):iE (Lf h g)=iE g++[⟨g.pt,h,6,false,Cg⟩]:=by simp[iE,Lf,Ix,D1];intro h;omega
theorem Axc(p:Nat)(g:Gr):iE (Ny p g)=iE g++[⟨p,g.pts,6,false,Cg⟩]++[⟨g.pt,g.pts,6,false,Cg⟩]:=by simp[iE,Ny,Ix,D1];intro h;omega
section
variable (p:Nat)(es:List Eg)(a:Nat)(sts:List Nat)(lps:List Lp)(v:Nat)
theorem Ab4(h:p≤1000000000000):Hands X 237 [.ptr 0 0 0] (mS p es a sts lps v) (vi p) (mS (p+1) es a sts lps v):=by
 refine Hands.run func237 ?_;have e1:IntKind.i64.wrap ((p:Int)+1)=((p+1:Nat):Int):=(Ac (by omega) (by omega)).trans (by omega);have e2:IntKind.i64.wrap (IntKind.i64.wrap ((p:Int)+1)-1)=(p:Int):=by rw[e1];exact(Ac (by omega) (by omega)).trans (by omega)
 refine If 2 (vi p) ?_ (Ci e2);refine Be (mS (p+1) es a sts lps v) ?_ (by rw[mS,mx,←e1]);exact Bq func237 rfl rfl
theorem Ati(e:Eg)(hp:PlO e.n)(hpl:A6 e.n=e.n)(hw:wN e.n≤1000000000)(hl:es.length≤1000000000) :
 Hands X 238 [.ptr 0 0 0,vi e.f,vi e.t,vi e.k,vb e.y,nd e.n] (mS p es a sts lps v) (.tup []) (mS p (es++[e]) a sts lps v):=by
 have hq:=Afx e.n hp hw;rw[hpl]at hq;refine Hands.run func238 ?_;refine D8 278528 ?_;refine Ce hq ?_;refine Ch (Oq (ver:=es.length) rfl (Ua es) (Ac2 e) ?_ (Ac3 es e) rfl rfl rfl rfl rfl rfl rfl rfl rfl rfl rfl rfl rfl rfl rfl rfl rfl) ?_
 ·rw[Lc];simp;omega
 refine Av ?_;refine Av ?_;refine Av ?_;refine Ch (A7 rfl rfl rfl rfl rfl rfl rfl) ?_;refine B2 ?_;refine Be ⟨[mx p (es++[e]) a sts lps v,[Af e.n]],[(es++[e]).length,sts.length,v]⟩ ?_ (by simp);exact Ec func238 rfl rfl
theorem An9(f t k:Int)(y:Bool)(n:Nd)(hp:PlO n)(hpl:A6 n=n)(hw:wN n≤1000000000)(hl:es.length≤1000000000) :
 Hands X 238 [.ptr 0 0 0,vi f,vi t,vi k,vb y,nd n] (mS p es a sts lps v) (.tup []) (mS p (es++[⟨f,t,k,y,n⟩]) a sts lps v):=Ati p es a sts lps v ⟨f,t,k,y,n⟩ hp hpl hw hl
theorem Ab3(f t k:Int)(y:Bool)(hl:es.length≤1000000000) :
 Hands X 238 [.ptr 0 0 0,vi f,vi t,vi k,vb y,.agg [vi 0,str [],vi 0,.sl [] .no]] (mS p es a sts lps v) (.tup []) (mS p (es++[⟨f,t,k,y,Cg⟩]) a sts lps v):=
 Ati p es a sts lps v ⟨f,t,k,y,Cg⟩ .leaf (by show A6 Cg=Cg;rw[Cg,Bd,A4]) (by show wN Cg≤1000000000;decide) hl
end
theorem Adb(g:Gr)(k:Int)(n:Nd)(hp:PlO n)(hpl:A6 n=n)(hw:wN n≤1000000000)(h1:g.pts≤1000000000000)(hl:g.es.length≤1000000000) :
 Hands X 175 [.ptr 0 0 0,vi k,nd n] (gM g) (.tup []) (gM (Dn k n g)):=by
 refine Hands.run func175 ?_;refine Ae (τ':=[0,1,2]) [0] [0,1,2] (Ab4 g.pts (iE g) g.pt g.sts g.lps g.ver h1) ?_;refine D8 256 ?_;refine Ch (Hd (τ':=[0,1,2]) [0] [0,1,2] (An9 (g.pts+1) (iE g) g.pt g.sts g.lps g.ver g.pt g.pts k false n hp hpl hw (by rw[Uf];exact hl))) ?_;refine B2 ?_;rw[←Axd];exact Ec func175 rfl rfl
theorem Aoa(g:Gr)(q:Nat)(c:Nd)(y:Bool)(hp:PlO c)(hpl:A6 c=c)(hw:wN c≤1000000000)(h1:g.pts≤1000000000000)(hl:g.es.length≤1000000000) :
 Hands X 271 [.ptr 0 0 0,vi q,nd c,vb y] (gM g) (.tup []) (gM (D7 q c y g)):=by
 refine Hands.run func271 ?_;refine Ae (τ':=[0,1,2]) [0] [0,1,2] (Ab4 g.pts (iE g) g.pt g.sts g.lps g.ver h1) ?_;refine D8 256 ?_;refine Ch (Hd (τ':=[0,1,2]) [0] [0,1,2] (An9 (g.pts+1) (iE g) g.pts g.sts g.lps g.ver q g.pts 4 y c hp hpl hw (by rw[Uf];exact hl))) ?_;refine B2 ?_;rw[←A1f];exact Ec func271 rfl rfl
structure Gc (g:Gr)(k:Nat):Prop where
 b:Gb g k
 lps:g.lps.length+24*k≤1000000000
 sts:g.sts.length+24*k≤1000000000
theorem Gc.step1{g g':Gr}{j k m:Nat}(h:Gc g m)(hl:g.le g' j)(hj:j≤6*m)(hm:j+6*k≤6*m):Gc g' k:=by
 obtain⟨l,h1,h2⟩:=hl.lps;obtain⟨s,h3,h4⟩:=hl.sts;have:=h.lps;have:=h.sts;refine⟨h.b.step1 hl hj hm,?_,?_⟩
 ·rw[h1,Ex];omega
 ·rw[h3,Ex];omega
def JSt(n:Nd):Prop:=∀(a:Nd)(g:Gr),Gc g (wN n)→Hands X 236 [.ptr 0 0 0,nd n,nd a] (gM g) (.tup []) (gM (gS n a g))
def JLs(l:List Nd):Prop:=∀(g:Gr),Gc g (wL l)→Hands X 174 [.ptr 0 0 0,.sl (Ap l) .no] (gM g) (.tup []) (gM (gL l Cg g))
theorem Aht{l:List Nd}(hp:∀x,x∈l→PS x)(hs:∀x,x∈l→JSt x):JLs l:=by
 intro g hb;have hlw:=Mu l;have hbe:=hb.b.es;refine Hands.run func174 ?_;refine Rk 1 0 3 (.sl [] .no) ?_;refine Ar (ι:=Nat) 2 3 (fun i=>i≤l.length) (fun i=>[(10,vi i),(9,vi l.length),(8,.sl (Ap l) .no),(0,.ptr 0 0 0),(4,.ptr 1 0 0)])
  (fun i=>⟨[mx (gL (l.take i) Cg g).pts (iE (gL (l.take i) Cg g)) (gL (l.take i) Cg g).pt (gL (l.take i) Cg g).sts (gL (l.take i) Cg g).lps (gL (l.take i) Cg g).ver,[Af ((l.take i).getLastD Cg)]],[(iE (gL (l.take i) Cg g)).length,(gL (l.take i) Cg g).sts.length,(gL (l.take i) Cg g).ver]⟩) (fun i=>l.length-i) ?_ 0
  (B3 _) ⟨rfl,by rw[←Ad l];rfl,rfl,rfl,rfl,trivial⟩
 intro i hi IH;have hgi:g.le (gL (l.take i) Cg g) (bG (wL (l.take i))):=Mq (fun x hx=>hp x (Agn hx)) Cg g hb.b.pt;refine C7 (fun h=>?_) (fun h=>?_)
 ·have hlt:i<l.length:=by have:=A5 h;omega
  obtain⟨x,hx⟩:=Ab l hlt;have hwt:=Ape hx;have hbi:Gc (gL (l.take i) Cg g) (wN x):=hb.step1 hgi (by simp only[bG];omega) (by simp only[bG];omega);refine B4 i (by omega) (Am (l:=l) hx) ?_;refine Ae (τ':=[0,1,2]) [0] [0,1,2] (hs x (Bh hx) ((l.take i).getLastD Cg) _ hbi) ?_;rw[←An1 hx];have hla:(l.take (i+1)).getLastD Cg=x:=by rw[G8,hx];simp
  refine IH (i+1) hlt (by omega) _ _ ⟨vsx (by omega),rfl,rfl,rfl,rfl,trivial⟩ ?_ rfl rfl;simp only;rw[hla];rfl
 ·have:i=l.length:=by have:=Ba h;omega
  subst this;rw[I2]at hgi⊢;exact Ec func174 rfl rfl
theorem Ahs(g:Gr)(h1:g.pts≤1000000000000)(hl:g.es.length≤1000000000) :
 Hands X 175 [.ptr 0 0 0,vi 6,.agg [vi 0,str [],vi 0,.sl [] .no]] (gM g) (.tup []) (gM (Dn 6 Cg g)):=
 Adb g 6 Cg .leaf (by rw[Cg,Bd,A4]) (by decide) h1 hl
theorem Aqt(s:List UInt8){a:Nd}(ha:FE a):A6 (.mk 21 s 0 [a])=.mk 21 s 0 [a]:=by rw[Bd,Ao,A4,Ir ha];rfl
theorem Aqs(s:List UInt8){a b:Nd}(ha:FE a)(hb:FE b):A6 (.mk 22 s 0 [a,b])=.mk 22 s 0 [a,b]:=by rw[Bd,Ao,Ao,A4,Ir ha,Ir hb];rfl
theorem Amj(s:List UInt8):A6 (.mk 23 s 0 [])=.mk 23 s 0 []:=by rw[Bd,A4]
theorem Atq(l:Lp)(x:Int):(Z9 l).take 9++[vi x]++(Z9 l).drop (9+[vi x].length)=Z9 { l with x:=x }:=by simp[Z9,Af]
theorem Aqi(l:List Lp)(i:Nat)(e:Lp):(Kn l).set i (Z9 e)=Kn (l.set i e):=by simp[Kn,Zc]
theorem Aqh{l:List Lp}{i:Nat}{e:Lp}(h:l[i]?=some e):(Kn l)[i]?=some (Z9 e):=by simp[Kn,h]
theorem Aqm{l:List Lp}{i:Nat}{e:Lp}(h:l[i]?=some e)(f:Lp→Lp):l.modify i f=l.set i (f e):=by
 apply Abp;intro j;rw[List.getElem?_modify,Vb];by_cases hj:i=j
 ·subst hj;rw[h];simp[Aa h]
 ·simp[hj]
abbrev mS3(p:Nat)(es:List Eg)(at_:Nat)(sts:List Nat)(lps:List Lp)(v:Nat)(n a:Nd):St:=⟨[mx p es at_ sts lps v,[Af n],[Af a]],[es.length,sts.length,v]⟩
abbrev gM3(g:Gr)(n a:Nd):St:=mS3 g.pts (iE g) g.pt g.sts g.lps g.ver n a
set_option maxHeartbeats 4000000 in
theorem A1r{n:Nd}(h:PS n):JSt n:=by
 induction h with
 |set s x h hx=>
  intro a g hb;have b1:=hb.b.pts;have b2:=hb.b.es;have b3:=hb.lps;have b4:=hb.sts;refine Hands.run func236 ?_;rw[Z1];refine A0 ?_;refine Ae (τ':=[0,1,2]) [0] [0,1,2] (Adb g 1 (.mk 21 s 0 [x]) (Agx (.set s x h hx)) (Aqt s hx) (by omega) (by omega) (by omega)) ?_;exact Ec func236 rfl rfl
 |put s x y h hx hy=>
  intro a g hb;have b1:=hb.b.pts;have b2:=hb.b.es;have b3:=hb.lps;have b4:=hb.sts;refine Hands.run func236 ?_;rw[Z0];refine Ag ?_;refine A0 ?_;refine Ae (τ':=[0,1,2]) [0] [0,1,2] (Adb g 2 (.mk 22 s 0 [x,y]) (Agx (.put s x y h hx hy)) (Aqs s hx hy) (by omega) (by omega) (by omega)) ?_;exact Ec func236 rfl rfl
 |read s h=>
  intro a g hb;have b1:=hb.b.pts;have b2:=hb.b.es;have b3:=hb.lps;have b4:=hb.sts;refine Hands.run func236 ?_;rw[Vq];refine Ag ?_;refine Ag ?_;refine A0 ?_;refine Ae (τ':=[0,1,2]) [0] [0,1,2] (Adb g 3 (.mk 23 s 0 []) (Agx (.read s h)) (Amj s) (by omega) (by omega) (by omega)) ?_;exact Ec func236 rfl rfl
 |check c hc=>
  intro a g hb;have b1:=hb.b.pts;have b2:=hb.b.es;have b3:=hb.lps;have b4:=hb.sts;refine Hands.run func236 ?_;have hwc:wN c<wN (.mk 27 [] 0 [c]):=Jg (n:=.mk 27 [] 0 [c]) (by simp);rw[Ql];refine Ag ?_;refine Ag ?_;refine Ag ?_;refine A0 ?_;refine B4 0 (by omega) (Am (l:=[c]) rfl) ?_;refine Ae (τ':=[0,1,2]) [0] [0,1,2] (Adb g 5 c (Tw hc) (Sr hc) (by omega) (by omega) (by omega)) ?_;exact Ec func236 rfl rfl
 |skip=>
  intro a g hb;have b1:=hb.b.pts;have b2:=hb.b.es;have b3:=hb.lps;have b4:=hb.sts;refine Hands.run func236 ?_;rw[Vr];refine Ag ?_;refine Ag ?_;refine Ag ?_;refine Ag ?_;refine A0 ?_;refine Ae (τ':=[0,1,2]) [0] [0,1,2] (Ahs g (by omega) (by omega)) ?_;exact Ec func236 rfl rfl
 |stop=>
  intro a g hb;have b1:=hb.b.pts;have b2:=hb.b.es;have b3:=hb.lps;have b4:=hb.sts;refine Hands.run func236 ?_;rw[Vs];refine Ag ?_;refine Ag ?_;refine Ag ?_;refine Ag ?_;refine Ag ?_;refine A0 ?_;refine D8 36864 ?_;refine Ch (Bu (res:=Uh (g.sts++[g.es.length])) rfl rfl rfl rfl rfl rfl rfl rfl rfl rfl rfl rfl rfl rfl (N8 _) (Al3 _) rfl rfl rfl ?_ ?_ rfl) ?_
  ·rw[N8];show g.sts.length+1≤_;omega
  ·show Uh g.sts++[[vi (Fv (iE g)).length]]=_;rw[Lc,Uf,Ada]
  refine Av ?_;refine Av ?_;refine Ch (A7 rfl rfl rfl rfl rfl rfl rfl) ?_;refine B2 ?_;refine Be ⟨[mx g.pts (iE g) g.pt (g.sts++[g.es.length]) g.lps g.ver,[Af (.mk 29 [] 0 [])],[Af a]],[(iE g).length,(g.sts++[g.es.length]).length,g.ver]⟩ ?_ (by simp[Uh]);refine Ae (τ':=[0,1,2]) [0] [0,1,2] (Ab3 g.pts (iE g) g.pt (g.sts++[g.es.length]) g.lps g.ver g.pt 0 7 false (by rw[Uf];omega)) ?_;refine Ae (τ':=[0,1,2]) [0] [0,1,2] (Ab4 g.pts _ g.pt (g.sts++[g.es.length]) g.lps g.ver (by omega)) ?_;rw[←Axe];exact Ec func236 rfl rfl
 |ifs c l l' hc hl hl' ihl ihl'=>
  intro a g hb;have b1:=hb.b.pts;have b2:=hb.b.es;have b3:=hb.lps;have b4:=hb.sts;refine Hands.run func236 ?_;have hwc:wN c<wN (.mk 24 [] 0 [c,.mk 30 [] 0 l,.mk 30 [] 0 l']):=Jg (n:=.mk 24 [] 0 [c,.mk 30 [] 0 l,.mk 30 [] 0 l']) (by simp);have hws:wN (.mk 24 [] 0 [c,.mk 30 [] 0 l,.mk 30 [] 0 l'])=3+wN c+wL l+wL l':=by simp only[wN,wL,Wx];omega
  rw[Afe];unfold gIf;refine Ag ?_;refine Ag ?_;refine Ag ?_;refine Ag ?_;refine Ag ?_;refine Ag ?_;refine A0 ?_;refine B4 0 (by omega) (Am (l:=[c,.mk 30 [] 0 l,.mk 30 [] 0 l']) rfl) ?_;refine Ae (τ':=[0,1,2]) [0] [0,1,2] (Aoa g g.pt c true (Tw hc) (Sr hc) (by omega) (by omega) (by omega)) ?_;refine Be (gM3 (D7 g.pt c true g) (.mk 24 [] 0 [c,.mk 30 [] 0 l,.mk 30 [] 0 l']) a) ?_;have l1:=P6 g.pt c true hb.b.pt;have c1:Gc (D7 g.pt c true g) (wL l):=hb.step1 l1 (by omega) (by omega);have a2:=Mq hl Cg _ c1.b.pt;refine B4 1 (by omega) (Am (l:=[c,.mk 30 [] 0 l,.mk 30 [] 0 l']) rfl) ?_;refine Ae (τ':=[0,1,2]) [0] [0,1,2] (Aht hl ihl (D7 g.pt c true g) c1) ?_;refine Be (gM3 (gL l Cg (D7 g.pt c true g)) (.mk 24 [] 0 [c,.mk 30 [] 0 l,.mk 30 [] 0 l']) a) ?_;have l12:=l1.trans a2 (Bo _);generalize gL l Cg (D7 g.pt c true g)=g2 at *;have c2:Gc g2 (wL l'+1):=hb.step1 l12 (by simp only[bG];omega) (by simp only[bG];omega);have b5:=c2.b.pts;have b6:=c2.b.es;refine B4 0 (by omega) (Am (l:=[c,.mk 30 [] 0 l,.mk 30 [] 0 l']) rfl) ?_;refine Ae (τ':=[0,1,2]) [0] [0,1,2] (Aoa g2 g.pt c false (Tw hc) (Sr hc) (by omega) (by omega) (by omega)) ?_;refine Be (gM3 (D7 g.pt c false g2) (.mk 24 [] 0 [c,.mk 30 [] 0 l,.mk 30 [] 0 l']) a) ?_;have hp2:g.pt<g2.pts:=Mz hb.b.pt l12.pts.1;have l3:=P6 g.pt c false hp2;have c3:Gc (D7 g.pt c false g2) (wL l'):=c2.step1 l3 (by omega) (by omega);have a4:=Mq hl' Cg _ c3.b.pt;refine B4 2 (by omega) (Am (l:=[c,.mk 30 [] 0 l,.mk 30 [] 0 l']) rfl) ?_;refine Ae (τ':=[0,1,2]) [0] [0,1,2] (Aht hl' ihl' (D7 g.pt c false g2) c3) ?_;refine Be (gM3 (gL l' Cg (D7 g.pt c false g2)) (.mk 24 [] 0 [c,.mk 30 [] 0 l,.mk 30 [] 0 l']) a) ?_;have l34:=l3.trans a4 (Bo _);generalize gL l' Cg (D7 g.pt c false g2)=g4 at *;have c4:Gc g4 0:=c2.step1 l34 (by simp only[bG];omega) (by simp only[bG];omega);have b7:=c4.b.pts;have b8:=c4.b.es;refine Ae (τ':=[0,1,2]) [0] [0,1,2] (Ab4 g4.pts (iE g4) g4.pt g4.sts g4.lps g4.ver (by omega)) ?_;refine Be (mS3 (g4.pts+1) (iE g4) g4.pt g4.sts g4.lps g4.ver (.mk 24 [] 0 [c,.mk 30 [] 0 l,.mk 30 [] 0 l']) a) ?_;refine Ae (τ':=[0,1,2]) [0] [0,1,2] (Ab3 (g4.pts+1) (iE g4) g4.pt g4.sts g4.lps g4.ver g2.pt g4.pts 6 false (by rw[Uf];omega)) ?_;refine Be (mS3 (g4.pts+1) (iE g4++[⟨g2.pt,g4.pts,6,false,Cg⟩]) g4.pt g4.sts g4.lps g4.ver (.mk 24 [] 0 [c,.mk 30 [] 0 l,.mk 30 [] 0 l']) a) ?_;refine Ae (τ':=[0,1,2]) [0] [0,1,2] (Ab3 (g4.pts+1) (iE g4++[⟨g2.pt,g4.pts,6,false,Cg⟩]) g4.pt g4.sts g4.lps g4.ver g4.pt g4.pts 6 false ?_) ?_
  ·obtain⟨e1,e2,e3,_⟩:=l34.es;have:=c2.b.es;simp only[bG]at e3;rw[Ex,Uf,e2,Ex];simp only[Za];omega
  rw[←Axc];exact Ec func236 rfl rfl
 |whil c l hc hl ihl=>
  intro a g hb;have b1:=hb.b.pts;have b2:=hb.b.es;have b3:=hb.lps;have b4:=hb.sts;refine Hands.run func236 ?_;have hwc:wN c<wN (.mk 25 [] 0 [c,.mk 30 [] 0 l]):=Jg (n:=.mk 25 [] 0 [c,.mk 30 [] 0 l]) (by simp);have hws:wN (.mk 25 [] 0 [c,.mk 30 [] 0 l])=2+wN c+wL l:=by simp only[wN,wL,Wx];omega
  have hwn:=Ws c;rw[Aff];unfold gWh;refine Ag ?_;refine Ag ?_;refine Ag ?_;refine Ag ?_;refine Ag ?_;refine Ag ?_;refine Ag ?_;refine A0 ?_;refine Ae (τ':=[0,1,2]) [0] [0,1,2] (Ahs g (by omega) (by omega)) ?_;refine Be (gM3 (Dn 6 Cg g) (.mk 25 [] 0 [c,.mk 30 [] 0 l]) a) ?_;refine Ana ?_;refine D8 9216 ?_;refine Ch (Oq (ver:=g.ver) rfl (Ajr g.lps) (Ama ⟨a,(.mk 25 [] 0 [c,.mk 30 [] 0 l]),g.pts,0⟩) ?_ (Amb g.lps ⟨a,(.mk 25 [] 0 [c,.mk 30 [] 0 l]),g.pts,0⟩) rfl rfl rfl rfl rfl rfl rfl rfl rfl rfl rfl rfl rfl rfl rfl rfl rfl) ?_
  ·rw[Aaa];simp;omega
  refine Av ?_;refine Av ?_;refine Ch (A7 rfl rfl rfl rfl rfl rfl rfl) ?_;refine B2 ?_;have l1:=L1 6 Cg hb.b.pt;have l2:=Ahz a (.mk 25 [] 0 [c,.mk 30 [] 0 l]) l1.pt;have l12:=l1.trans l2 (Bo _);have c0:Gc (Hp a (.mk 25 [] 0 [c,.mk 30 [] 0 l]) (Dn 6 Cg g)) (wL l+1):=hb.step1 l12 (by omega) (by omega);refine Be (gM3 (Hp a (.mk 25 [] 0 [c,.mk 30 [] 0 l]) (Dn 6 Cg g)) (.mk 25 [] 0 [c,.mk 30 [] 0 l]) a) ?_;refine If 9 (vi g.pts) ?_;refine If 10 (vi g.lps.length) ?_ (by show lk _ 10=_;rw[←Aaa];rfl);refine B4 0 (by omega) (Am (l:=[c,.mk 30 [] 0 l]) rfl) ?_;have hh:g.pts<(Hp a (.mk 25 [] 0 [c,.mk 30 [] 0 l]) (Dn 6 Cg g)).pts:=by simp[Hp,Dn]
  have hlk:(Hp a (.mk 25 [] 0 [c,.mk 30 [] 0 l]) (Dn 6 Cg g)).lps[g.lps.length]?=some ⟨a,(.mk 25 [] 0 [c,.mk 30 [] 0 l]),g.pts,0⟩:=by simp[Hp,Dn]
  generalize Hp a (.mk 25 [] 0 [c,.mk 30 [] 0 l]) (Dn 6 Cg g)=g1 at *;have b5:=c0.b.pts;have b6:=c0.b.es;refine Ae (τ':=[0,1,2]) [0] [0,1,2] (Aoa g1 g.pts c true (Tw hc) (Sr hc) (by omega) (by omega) (by omega)) ?_;refine Be (gM3 (D7 g.pts c true g1) (.mk 25 [] 0 [c,.mk 30 [] 0 l]) a) ?_;have l3:=P6 g.pts c true hh;have c1:Gc (D7 g.pts c true g1) (wL l):=c0.step1 l3 (by omega) (by omega);have a2:=Mq hl Cg _ c1.b.pt;refine B4 1 (by omega) (Am (l:=[c,.mk 30 [] 0 l]) rfl) ?_;refine Ae (τ':=[0,1,2]) [0] [0,1,2] (Aht hl ihl (D7 g.pts c true g1) c1) ?_;refine Be (gM3 (gL l Cg (D7 g.pts c true g1)) (.mk 25 [] 0 [c,.mk 30 [] 0 l]) a) ?_;have l34:=l3.trans a2 (Bo _);have hh2:=Mz hh l34.pts.1;obtain⟨lx,hlx,_⟩:=l34.lps;have hlk2:(gL l Cg (D7 g.pts c true g1)).lps[g.lps.length]?=some ⟨a,(.mk 25 [] 0 [c,.mk 30 [] 0 l]),g.pts,0⟩:=by rw[hlx,Cs (Aa hlk)];exact hlk
  generalize gL l Cg (D7 g.pts c true g1)=g2 at *;have c2:Gc g2 0:=c0.step1 l34 (by simp only[bG];omega) (by simp only[bG];omega);have b7:=c2.b.pts;have b8:=c2.b.es;have b9:g2.es.length+1≤1000000000:=by
   obtain⟨e1,e2,e3,_⟩:=l34.es;have:=c0.b.es;simp only[bG]at e3;rw[e2,Ex];omega
  refine Ae (τ':=[0,1,2]) [0] [0,1,2] (Ab3 g2.pts (iE g2) g2.pt g2.sts g2.lps g2.ver g2.pt g.pts 6 false (by rw[Uf];omega)) ?_;rw[←Axb];refine Be (gM3 (Lf g.pts g2) (.mk 25 [] 0 [c,.mk 30 [] 0 l]) a) ?_;refine B4 0 (by omega) (Am (l:=[c,.mk 30 [] 0 l]) rfl) ?_;refine Ae (τ':=[0,1,2]) [0] [0,1,2] (Aoa (Lf g.pts g2) g.pts c false (Tw hc) (Sr hc) (by omega) (by show g2.pts≤_;omega) (by simp only[Lf,Ix];rw[Ex];simp;omega)) ?_;refine Be (gM3 (D7 g.pts c false (Lf g.pts g2)) (.mk 25 [] 0 [c,.mk 30 [] 0 l]) a) ?_;have hlk3:(D7 g.pts c false (Lf g.pts g2)).lps[g.lps.length]?=some ⟨a,(.mk 25 [] 0 [c,.mk 30 [] 0 l]),g.pts,0⟩:=hlk2;generalize D7 g.pts c false (Lf g.pts g2)=g3 at *;have hll:g.lps.length<(Kn g3.lps).length:=by rw[Aaa];exact Aa hlk3
  have hlr:=Aqh hlk3;have hmod:=Aqm hlk3 fun l=>{ l with x:=g3.pt }
  refine D8 2048 ?_;refine A2 (Abz (n:=g.lps.length) hll rfl (Ajr _) rfl rfl rfl rfl rfl rfl rfl rfl) ?_;refine Av ?_;refine Ch (Agy (b:=0) (r:=0) (g:=4) (xs:=[vi g3.pt]) (bx:=[mx g3.pts (iE g3) g3.pt g3.sts (g3.lps.modify g.lps.length fun l=>{ l with x:=g3.pt }) (g3.ver+1),[Af (.mk 25 [] 0 [c,.mk 30 [] 0 l])],[Af a]]) (tk':=[(iE g3).length,g3.sts.length,g3.ver+1])
   rfl hlr (by show 9+1≤10;omega) (fun z hz=>by simp at hz;subst hz;exact .val _) rfl rfl rfl ?_ rfl rfl rfl rfl rfl rfl rfl rfl rfl) ?_
  ·show [[[vi g3.pts,.psl (Fv (iE g3)) 0 (iE g3).length,vi g3.pt,.sl (Uh g3.sts) (.tok 1),.psl ((Kn g3.lps).set g.lps.length ((Z9 ⟨a,(.mk 25 [] 0 [c,.mk 30 [] 0 l]),g.pts,0⟩).take 9++[vi g3.pt]++(Z9 ⟨a,(.mk 25 [] 0 [c,.mk 30 [] 0 l]),g.pts,0⟩).drop (9+[vi g3.pt].length))) 2 (g3.ver+1)]],[Af (.mk 25 [] 0 [c,.mk 30 [] 0 l])],[Af a]]=_;rw[Atq,Aqi,hmod]
  refine B2 ?_;exact Ec func236 rfl rfl
def stI(k:Nat):List Eg→List Nat
 |[]=>[]
 |e::l=>if e.t<0 then k::stI (k+1) l else stI (k+1) l
theorem Ail:∀(l l':List Eg)(k:Nat),stI k (l++l')=stI k l++stI (k+l.length) l'
 |[],l',k=>by simp[stI]
 |e::l,l',k=>by
  simp only[Pz,stI,Nn];rw[Ail l l' (k+1),show k+1+l.length=k+(l.length+1) by omega];split<;>simp
theorem Au8{l:List Eg}(h:∀e,e∈l→0≤e.t)(k:Nat):stI k l=[]:=by
 induction l generalizing k with
 |nil=>rfl
 |cons e l ih=>
  have:=h e (by simp);simp only[stI];rw[if_neg (by omega)];exact ih (fun x hx=>h x (by simp[hx])) (k+1)
theorem Am0:∀(l:List Eg)(k i:Nat),i∈stI k l→i<k+l.length
 |[],k,i,h=>by simp[stI]at h
 |e::l,k,i,h=>by
  simp only[stI]at h;simp only[Nn];split at h
  ·rcases zzq13.1 h with rfl|h
   ·omega
   ·have:=Am0 l (k+1) i h;omega
  ·have:=Am0 l (k+1) i h;omega
theorem Ao5:∀(l:List Eg)(k:Nat),(stI k l).length≤l.length
 |[],k=>by simp[stI]
 |e::l,k=>by
  simp only[stI,Nn];have:=Ao5 l (k+1);split<;>simp<;>omega
def SI(g:Gr):Prop:=g.sts=stI 0 g.es
theorem Agz{g g':Gr}(h:SI g)(l:List Eg)(he:g'.es=g.es++l)(hl:∀e,e∈l→0≤e.t)(hs:g'.sts=g.sts):SI g':=by
 unfold SI at h⊢;rw[he,hs,h,Ail,Au8 hl];simp
theorem Rs{g:Gr}(k:Int)(n:Nd)(h:SI g):SI (Dn k n g):=Agz h _ rfl (fun e he=>by simp at he;subst he;simp) rfl
theorem Ag0{g:Gr}(p:Nat)(c:Nd)(y:Bool)(h:SI g):SI (D7 p c y g):=Agz h _ rfl (fun e he=>by simp at he;subst he;simp) rfl
theorem Awg{g:Gr}(p:Nat)(h:SI g):SI (Lf p g):=Agz h _ rfl (fun e he=>by simp at he;subst he;simp) rfl
theorem Awi{g:Gr}(p:Nat)(h:SI g):SI (Ny p g):=Agz h [⟨p,g.pts,6,false,Cg⟩,⟨g.pt,g.pts,6,false,Cg⟩] (by simp[Ny,Ix]) (fun e he=>by simp at he;rcases he with rfl|rfl<;>simp) rfl
theorem Awk{g:Gr}(h:SI g):SI (Ox g):=by
 unfold SI at h⊢;simp only[Ox];rw[h,Ail];simp[stI]
theorem Awj{g:Gr}(a n:Nd)(h:SI g):SI (Hp a n g):=h
theorem Awh{g:Gr}(i:Nat)(h:SI g):SI (Ud i g):=h
theorem Awf{l:List Nd}(h:∀x,x∈l→∀(a:Nd)(g:Gr),SI g→SI (gS x a g)):∀(a:Nd)(g:Gr),SI g→SI (gL l a g):=by
 induction l with
 |nil=>intro a g hg;exact hg
 |cons x l ih=>intro a g hg;rw[Yi];exact ih (fun y hy=>h y (by simp[hy])) x _ (h x (by simp) a g hg)
theorem A3k{n:Nd}(h:PS n):∀(a:Nd)(g:Gr),SI g→SI (gS n a g):=by
 induction h with
 |set s b h hb=>intro a g hg;rw[Z1];exact Rs _ _ hg
 |put s b c h hb hc=>intro a g hg;rw[Z0];exact Rs _ _ hg
 |read s h=>intro a g hg;rw[Vq];exact Rs _ _ hg
 |ifs c l l' hc hl hl' ihl ihl'=>intro a g hg;rw[Afe];unfold gIf;exact Awi _ (Awf ihl' _ _ (Ag0 _ _ _ (Awf ihl _ _ (Ag0 _ _ _ hg))))
 |whil c l hc hl ihl=>intro a g hg;rw[Aff];unfold gWh;exact Awh _ (Ag0 _ _ _ (Awg _ (Awf ihl _ _ (Ag0 _ _ _ (Awj _ _ (Rs 6 Cg hg))))))
 |check c hc=>intro a g hg;rw[Ql];exact Rs _ _ hg
 |skip=>intro a g hg;rw[Vr];exact Rs _ _ hg
 |stop=>intro a g hg;rw[Vs];exact Awk hg
def Nk(x:Int):List Eg→List Nat→List Eg
 |l,[]=>l
 |l,i::s=>Nk x (l.modify i fun e=>{ e with t:=x }) s
theorem Ad2(x:Int):∀(l:List Eg)(s:List Nat)(i:Nat),Nk x l (s++[i])=(Nk x l s).modify i fun e=>{ e with t:=x }
 |l,[],i=>rfl
 |l,j::s,i=>Ad2 x _ s i
theorem Aap(x:Int):∀(l:List Eg)(s:List Nat),(Nk x l s).length=l.length
 |l,[]=>rfl
 |l,j::s=>by simp only[Nk];rw[Aap];simp
theorem Af3(x:Int):∀(l pre:List Eg),Nk x (pre++l.map (D1 0)) (stI pre.length l)=pre++l.map (D1 x)
 |[],pre=>by simp[stI,Nk]
 |e::l,pre=>by
  simp only[stI,N0];have ih:=Af3 x l (pre++[D1 x e]);have e1:(pre++[D1 x e]).length=pre.length+1:=by simp
  rw[e1]at ih;split
  ·rename_i ht;simp only[Nk];rw[Adi];have:(D1 0 e::l.map (D1 0)).modify 0 (fun e=>{ e with t:=x })=D1 x e::l.map (D1 0):=by simp[D1,ht]
   rw[this];simpa using ih
  ·rename_i ht;have:D1 0 e=D1 x e:=by simp[D1,ht]
   rw[this];simpa using ih
theorem Ap3(e:Eg)(x:Int):(H5 e).take 1++[vi x]++(H5 e).drop (1+[vi x].length)=H5 { e with t:=x }:=by simp[H5]
theorem Amd{l:List Eg}{i:Nat}{e:Eg}(h:l[i]?=some e)(f:Eg→Eg):l.modify i f=l.set i (f e):=by
 apply Abp;intro j;rw[List.getElem?_modify,Vb];by_cases hj:i=j
 ·subst hj;rw[h];simp[Aa h]
 ·simp[hj]
abbrev A34(l:List Nd):List AV:=[vi (D6 l).pts,.sl (Fv (Lx l)) .no,vi (D6 l).pt,.sl (Uh (D6 l).sts) .no,.sl (Kn (D6 l).lps) .no]
theorem A1q(P:Nd)(hne:P.kids≠[])(hps:∀x,x∈(Dt P).kids→PS x)(hw:wL (Dt P).kids≤10000000)(hk:P.kids.length≤1000000000) :
 Pure X 116 [nd P] (.cptr (A34 (Dt P).kids)):=by
 show Pure X 116 [nd P] (.cptr [vi (D6 (Dt P).kids).pts,.sl (Fv ((D6 (Dt P).kids).es.map (D1 (D6 (Dt P).kids).pt))) .no,vi (D6 (Dt P).kids).pt,.sl (Uh (D6 (Dt P).kids).sts) .no,.sl (Kn (D6 (Dt P).kids).lps) .no]);refine Pure.run func116 ?_;refine Xw (bx:=[[Af P],[[vi 1,.psl [] 0 0,vi 0,.sl [] .tight,.sl [] .tight]]]) (tk:=[0]) 1 0 1 ?_;refine En (bx:=[[Af P],[[vi 1,.psl [] 0 0,vi 0,.sl [] (.tok 1),.sl [] .tight]]]) (tk:=[0,0]) 1 0 3 rfl rfl rfl rfl rfl rfl ?_;refine Xw (bx:=[[Af P],mx 1 (iE ⟨1,0,[],[],[],0⟩) 0 [] [] 0]) (tk:=[0,0,0]) 1 0 4 ?_;refine If 3 (.ptr 1 0 0) ?_;refine If 9 (.ptr 1 0 0) ?_;have c0:Gc ⟨1,0,[],[],[],0⟩ (wL (Dt P).kids):=⟨⟨by decide,by show 1+_≤_;omega,by show 0+_≤_;omega⟩,by show 0+_≤_;omega,by show 0+_≤_;omega⟩
 have l0:=Mq hps Cg _ c0.b.pt;have s0:SI (gL (Dt P).kids Cg ⟨1,0,[],[],[],0⟩):=Awf (fun x hx=>A3k (hps x hx)) _ _ rfl;refine Al (Aui P hne hk) ?_;refine Ae (τ':=[0,1,2]) [1] [0,1,2] (Aht hps (fun x hx=>A1r (hps x hx)) _ c0) ?_;have c1:Gc (gL (Dt P).kids Cg ⟨1,0,[],[],[],0⟩) 0:=c0.step1 l0 (by simp only[bG];omega) (by simp only[bG];omega);have hA:D6 (Dt P).kids=Dn 6 Cg (gL (Dt P).kids Cg ⟨1,0,[],[],[],0⟩):=rfl;rw[hA];generalize gL (Dt P).kids Cg ⟨1,0,[],[],[],0⟩=g at *;have b1:=c1.b.pts;have b2:=c1.b.es;refine Be ⟨[[Af P],mx g.pts (iE g) g.pt g.sts g.lps g.ver],[(iE g).length,g.sts.length,g.ver]⟩ ?_;refine Ae (τ':=[0,1,2]) [1] [0,1,2] (Ahs g (by omega) (by omega)) ?_;have s1:SI (Dn 6 Cg g):=Rs 6 Cg s0;have b3:(Dn 6 Cg g).es.length≤1000000001:=by simp[Dn];omega
 generalize Dn 6 Cg g=h at *;have hst:Nk h.pt (iE h) h.sts=h.es.map (D1 h.pt):=by
  rw[s1];exact Af3 h.pt h.es []
 have hsl:h.sts.length≤h.es.length:=by rw[s1];exact Ao5 _ _
 have hslt:∀i,i∈h.sts→i<(iE h).length:=fun i hi=>by
  rw[s1]at hi;have:=Am0 _ _ _ hi;rw[Uf];omega
 refine Be ⟨[[Af P],[[vi h.pts,.psl (Fv (Nk h.pt (iE h) (h.sts.take 0))) 0 ((iE h).length+0),vi h.pt,.sl (Uh h.sts) (.tok 1),.psl (Kn h.lps) 2 h.ver]]],[(iE h).length+0,h.sts.length,h.ver]⟩ ?_;refine Ar (ι:=Nat) 2 3 (fun i=>i≤h.sts.length) (fun i=>[(22,vi i),(21,vi h.sts.length),(20,.sl (Uh h.sts) (.tok 1)),(3,.ptr 1 0 0)])
  (fun i=>⟨[[Af P],[[vi h.pts,.psl (Fv (Nk h.pt (iE h) (h.sts.take i))) 0 ((iE h).length+i),vi h.pt,.sl (Uh h.sts) (.tok 1),.psl (Kn h.lps) 2 h.ver]]],[(iE h).length+i,h.sts.length,h.ver]⟩) (fun i=>h.sts.length-i) ?_ 0
  (B3 _) ⟨rfl,by rw[←N8 h.sts];rfl,rfl,rfl,trivial⟩
 intro i hi IH;refine C7 (fun h2=>?_) (fun h2=>?_)
 ·have hlt:i<h.sts.length:=by have:=A5 h2;omega
  obtain⟨k,hk⟩:=Ab h.sts hlt;have hkl:=hslt k (Bh hk);have hgk:(Uh h.sts)[i]?=some [vi k]:=by simp[Uh,hk]
  have hkr:k<(Fv (Nk h.pt (iE h) (h.sts.take i))).length:=by rw[Lc,Aap];exact hkl
  obtain⟨e,he⟩:=Ab (Nk h.pt (iE h) (h.sts.take i)) (i:=k) (by rw[Aap];exact hkl);have hrow:=Gm he;have hsn:Nk h.pt (iE h) (h.sts.take (i+1))=(Nk h.pt (iE h) (h.sts.take i)).modify k fun e=>{ e with t:=h.pt }:=by
   rw[G8,hk];exact Ad2 _ _ _ _
  refine B4 i (by omega) hgk ?_;refine D8 4096 ?_;refine A2 (Abz (n:=k) hkr rfl (Ua _) rfl rfl rfl rfl rfl rfl rfl rfl) ?_;refine Av ?_;refine Ch (Agy (b:=1) (r:=0) (g:=1) (xs:=[vi h.pt]) (bx:=[[Af P],[[vi h.pts,.psl (Fv (Nk h.pt (iE h) (h.sts.take (i+1)))) 0 ((iE h).length+(i+1)),vi h.pt,.sl (Uh h.sts) (.tok 1),.psl (Kn h.lps) 2 h.ver]]]) (tk':=[(iE h).length+(i+1),h.sts.length,h.ver])
   rfl hrow (by show 1+1≤8;omega) (fun z hz=>by simp at hz;subst hz;exact .val _) rfl rfl rfl ?_ rfl rfl rfl rfl rfl rfl rfl rfl rfl) ?_
  ·show [[Af P],[[vi h.pts,.psl ((Fv (Nk h.pt (iE h) (h.sts.take i))).set k ((H5 e).take 1++[vi h.pt]++(H5 e).drop (1+[vi h.pt].length))) 0 ((iE h).length+i+1),vi h.pt,.sl (Uh h.sts) (.tok 1),.psl (Kn h.lps) 2 h.ver]]]=_;rw[Ap3,Ae8,hsn,Amd he];rfl
  refine B2 ?_;exact IH (i+1) hlt (by omega) _ _ ⟨vsx (by omega),rfl,rfl,rfl,trivial⟩ rfl rfl rfl
 ·have:i=h.sts.length:=by have:=Ba h2;omega
  subst this;rw[I2,hst];exact As func116 rfl
theorem Aqa(P:Nd)(hne:P.kids≠[])(hps:∀x,x∈(Dt P).kids→PS x)(hw:wL (Dt P).kids≤10000000)(hk:P.kids.length≤1000000000) :
 Pure X 105 [nd P] (.agg [vi (D6 (Dt P).kids).pts,.sl (Fv (Lx (Dt P).kids)) .no]):=by
 refine Pure.run func105 ?_;refine Al (A1q P hne hps hw hk) ?_;exact As func105 rfl
end Go.V
namespace Go.V
open Go
section
variable {X:Cx}{E:Env}{S:St}{w:World}{F:C5}{N:Nat}{ops:Array Oper}{i:Nat}{o:Oper}{p q:Operand}
theorem Il{t e n b:Nat}{ik ik':IntKind}{y ye:Ty}{bx:List (List (List AV))}(hn:n≤1000000000)(hb:S.boxes.length=b)(hbx:S.boxes++[List.replicate n ye.zero]=bx)(ho:ops[i]?=some o)(hw:A8 ops F o=some true)(hop:o.op=.makeSlice t p q)
 (hp:Dw X F p=some (.val (.int ik n)))(hq:Dw X F q=some (.val (.int ik' n)))(hy:X.ty t=some y)(hk:y.k=.slc e)(hye:X.ty e=some ye):Ndo X N ops i o F (.bsl b n) S ⟨bx,S.toks⟩:=by
 subst hbx;subst hb;intro F' E w a hl hI hF;have hlo:=G0 hl;rw[hop]at hlo;have r1:=Ak hI hF ((Dk (X:=X) (F:=F) (F':=F') (o:=p) fun s hs=>hlo s (by simp[Op.operands,hs])).trans hp);have r2:=Ak hI hF ((Dk (X:=X) (F:=F) (F':=F') (o:=q) fun s hs=>hlo s (by simp[Op.operands,hs])).trans hq);cases hh1:a.eval p<;>rw[hh1]at r1<;>cases r1;cases hh2:a.eval q<;>rw[hh2]at r2<;>cases r2;obtain⟨d,hd,hdd⟩:=(X.ty_ok t y hy).agg;simp only[hk]at hdd;obtain⟨rfl,ye',hye',hne⟩:=hdd;rw[hye]at hye';cases hye';obtain⟨z,hz,hzc,hzl,i',hi,hiz,his,hib⟩:=Jx hye w;have hzs:z.cells.size=ye.size:=by rw[←hzl,←hzc];simp
 have hbn:i'.bytes*n≤1024*n:=Tq _ hib;have hrun:=run_make (P:=X.P) w t e i' z hd hi hiz ik ik' (n:Int) (n:Int) (by omega) (Int.le_refl _) (by
  have:((i'.bytes*n:Nat):Int)≤281474976710656:=by omega
  rwa[Int.natCast_mul]at this) (by omega)
 simp only[Hl]at hrun;have hg0:Rn E w ye.size (madeCells z.cells (n*i'.size)) (List.replicate n ye.zero):=by
  refine Vt hzc hzl _ (by rw[size_madeCells,his]) (fun j hj=>?_);have hm:j%ye.size<z.cells.size:=by rw[hzs];exact Nat.mod_lt _ (Aeb hne)
  unfold madeCells;rw[his];have hr0:(Array.range (n*ye.size))[j]?=some j:=by simp[hj]
  rw[Array.getElem?_map,hr0];simp only[Lk];rw[hzs,getElem!_pos z.cells (j%ye.size) hm,Aku hm]
 obtain⟨ev,hI'⟩:=hI.newBox (w':=w.alloc (.cells (madeCells z.cells (n*i'.size)) e)) (cs:=madeCells z.cells (n*i'.size)) (e:=e) (sz:=ye.size) (rows:=List.replicate n ye.zero) rfl rfl rfl rfl hg0.1 hg0.2.1 hg0.2.2;refine Does.val ho (Cr hF (by rw[C6 hl];exact hw)) (v:=.slice (some ⟨w.heap.size,0,none⟩) n n) (by simp[execOp,hop,hh1,hh2,hrun]) (.inl rfl) ⟨_,hI',ev,?_⟩;exact .bsl S.boxes.length w.heap.size ye.size n n (by rw[←hI.nb];exact getElem?_snoc_new _ _) (Bo _)
end
end Go.V
namespace Go.V
open Go Go.Proofs Go.Proofs.Tryz
def Fe(l:List Int):List (List AV):=l.map fun m=>[vi m]
theorem D9(l:List Int):(Fe l).length=l.length:=by simp[Fe]
theorem Am8(l:List Int):Kf 1 (Fe l)=true:=Kx (f:=fun(i:Int)=>[vi i]) (fun _=>rfl) l
theorem Y8{l:List Int}{i:Nat}{m:Int}(h:l[i]?=some m):(Fe l)[i]?=some [vi m]:=by simp[Fe,h]
instance{n m:Nat}{l:List Int}:OKR n m (Fe l):=⟨fun r hr x hx=>by obtain⟨e,_,rfl⟩:=zzq66.1 hr;simp at hx;subst hx;exact .val _⟩
def Ei(n:Nd):List Int:=(Nc n 32).map Nd.num
theorem Ag9(n:Nd)(k:Int):Ax n k=(Nc n k).map Nd.name:=rfl
theorem Ac0(n:Nd)(k:Int):(Nc n k).length≤n.kids.length:=by
 unfold Nc;exact Pb (Abm _ _) (by simp)
theorem Afw(n:Nd)(k:Int)(hne:n.kids≠[])(hl:n.kids.length≤1000000000):Pure X 106 [nd n,vi k] (.sl (Dl (Ax n k)) .no):=by
 have hdl:=Ac0 n k;rw[Ag9];refine Pure.run func106 ?_;refine Al (Sv n k hne hl) ?_;generalize Nc n k=ds at *;refine N2 (d:=5) rfl rfl rfl ?_;refine Ar (ι:=Nat) 1 1 (fun i=>i≤ds.length) (fun i=>[(13,vi i),(12,vi ds.length),(11,.sl (Ap ds) .no),(5,.sl (Dl ((ds.take i).map Nd.name)) (.tok 0))]) (fun i=>⟨[[Af n]],[i]⟩) (fun i=>ds.length-i) ?_ 0
  (B3 _) ⟨rfl,by rw[←Ad ds];rfl,rfl,rfl,trivial⟩
 intro i hi IH;have htl:(Dl ((ds.take i).map Nd.name)).length=i:=by rw[F6];simp;omega
 refine C7 (fun h=>?_) (fun h=>?_)
 ·have hlt:i<ds.length:=by have:=A5 h;omega
  obtain⟨x,hx⟩:=Ab ds hlt;refine B4 i (by omega) (Am hx) ?_;refine Bn (Bu (res:=Dl ((ds.take (i+1)).map Nd.name)) rfl rfl rfl rfl rfl rfl rfl rfl rfl rfl rfl rfl rfl rfl htl (Acf _) rfl rfl rfl ?_ ?_ rfl) ?_
  ·rw[htl];simp;omega
  ·rw[G8,hx];simp[Dl]
  refine IH (i+1) hlt (by omega) _ _ ⟨vsx (by omega),rfl,rfl,rfl,trivial⟩ ?_ rfl rfl;show St.mk [[Af n]] [_+1]=St.mk [[Af n]] [i+1];rw[htl]
 ·have:i=ds.length:=by have:=Ba h;omega
  subst this;rw[I2];exact As func106 rfl
theorem Aq2(n:Nd)(hne:n.kids≠[])(hl:n.kids.length≤1000000000):Pure X 107 [nd n] (.sl (Fe (Ei n)) .no):=by
 have hdl:=Ac0 n 32;unfold Ei;refine Pure.run func107 ?_;refine Al (Sv n 32 hne hl) ?_;generalize Nc n 32=ds at *;refine N2 (d:=3) rfl rfl rfl ?_;refine Ar (ι:=Nat) 1 1 (fun i=>i≤ds.length) (fun i=>[(10,vi i),(9,vi ds.length),(8,.sl (Ap ds) .no),(3,.sl (Fe ((ds.take i).map Nd.num)) (.tok 0))]) (fun i=>⟨[[Af n]],[i]⟩) (fun i=>ds.length-i) ?_ 0
  (B3 _) ⟨rfl,by rw[←Ad ds];rfl,rfl,rfl,trivial⟩
 intro i hi IH;have htl:(Fe ((ds.take i).map Nd.num)).length=i:=by rw[D9];simp;omega
 refine C7 (fun h=>?_) (fun h=>?_)
 ·have hlt:i<ds.length:=by have:=A5 h;omega
  obtain⟨x,hx⟩:=Ab ds hlt;refine B4 i (by omega) (Am hx) ?_;refine Bn (Bu (res:=Fe ((ds.take (i+1)).map Nd.num)) rfl rfl rfl rfl rfl rfl rfl rfl rfl rfl rfl rfl rfl rfl htl (Am8 _) rfl rfl rfl ?_ ?_ rfl) ?_
  ·rw[htl];simp;omega
  ·rw[G8,hx];simp[Fe]
  refine IH (i+1) hlt (by omega) _ _ ⟨vsx (by omega),rfl,rfl,rfl,trivial⟩ ?_ rfl rfl;show St.mk [[Af n]] [_+1]=St.mk [[Af n]] [i+1];rw[htl]
 ·have:i=ds.length:=by have:=Ba h;omega
  subst this;rw[I2];exact As func107 rfl
theorem Ax9(n:Nd)(hn:wN n≤1000000000):Pure X 99 [nd n] (.sl (Fe (Ei n)) .no):=by
 let sz (l:List Nd):List Int:=(l.filter fun x=>x.kind==32).map Nd.num
 have szle:∀l:List Nd,(sz l).length≤l.length:=fun l=>by simp only[sz,Py];exact Abm _ _
 refine Pure.run func99 ?_;have hkl:=G7 n;have hw:IntKind.i64.wrap ((Ap n.kids).length-1:Int)=n.kids.length-1:=by rw[Ad];exact Ac (by omega) (by omega)
 refine N2 (d:=3) rfl rfl rfl ?_;refine Ar (ι:=Nat) 1 1 (fun i=>i≤n.kids.length-1) (fun i=>[(4,vi i),(3,.sl (Fe (sz (n.kids.take i))) (.tok 0)),(1,.ptr 0 0 0)]) (fun i=>⟨[[Af n]],[(sz (n.kids.take i)).length]⟩) (fun i=>n.kids.length-i) ?_ 0
  (B3 _) ⟨rfl,rfl,rfl,trivial⟩
 intro i hi IH;refine C7 (fun h=>?_) (fun h=>?_)
 ·have hlt:i<n.kids.length-1:=by have:=A5 h;rw[hw]at this;omega
  obtain⟨x,hx⟩:=Ab n.kids (i:=i) (by omega);have hle:=szle (n.kids.take i);have htl:(n.kids.take i).length=i:=by simp;omega
  refine B4 i (by omega) (Am hx) ?_;refine Ah (fun h2=>?_) (fun h2=>?_)
  ·have h2':(x.kind==32)=true:=h2;have hs:sz (n.kids.take (i+1))=sz (n.kids.take i)++[x.num]:=by simp[sz,G8,hx,Aeg,Abo,h2']
   refine B4 i (by omega) (Am hx) ?_;refine Bn (Bu (res:=Fe (sz (n.kids.take i)++[x.num])) rfl rfl rfl rfl rfl rfl rfl rfl rfl rfl rfl rfl rfl rfl (D9 _) (Am8 _) rfl rfl rfl ?_ ?_ rfl) ?_
   ·rw[D9];simp;omega
   ·simp[Fe]
   refine IH (i+1) (by omega) (by omega) _ _ ⟨vsx (by omega),?_,rfl,trivial⟩ ?_ rfl rfl
   ·rw[hs];rfl
   ·rw[hs];simp[St.drop,D9]
  ·have h2':(x.kind==32)=false:=h2;have hs:sz (n.kids.take (i+1))=sz (n.kids.take i):=by simp[sz,G8,hx,Aeg,Abo,h2']
   refine IH (i+1) (by omega) (by omega) _ _ ⟨vsx (by omega),?_,rfl,trivial⟩ ?_ rfl rfl
   ·rw[hs];rfl
   ·rw[hs];rfl
 ·have:i=n.kids.length-1:=by have:=Ba h;rw[hw]at this;omega
  refine As func99 ?_;rw[this,Ei,Nc,Akx]
end Go.V
namespace Go.V
open Go
section
variable {X:Cx}{B:Bx}{E:Env}{S:St}{w:World}{F:C5}{a:Act}{N:Nat}{R:AE→St→Prop}
def DrvP(X:Cx)(N:Nat)(ops:Array Oper)(ix:Nat→Nat)(bp:Nat→Nat→Bool)(em:Nat→Bool):List Oper→Nat→C5→St→List St→List J2→(C5→St→Prop)→Prop
 |[],_,F,S,_,_,K=>K F S
 |o::os,i,F,S,Hs,pend,K=>
  (∃x,D3 N o.dst=true∧(∀S',Ndo X N ops (ix i) o F x S' S')∧DrvP X N ops ix bp em os (i+1) (putF o.dst x F) S Hs pend K) ∨
  (∃x,D3 N o.dst=true∧(∀S',S'∈Hs→Ndo X N ops (ix i) o F x S' S')∧DrvP X N ops ix bp em os (i+1) (putF o.dst x F) S Hs ((i,o,F,x)::pend) K) ∨
  (∃x S' pend',em i=true∧D3 N o.dst=true∧Ndo X N ops (ix i) o F x S S'∧pend.filter (fun p=>!bp p.1 i)=pend'∧(∀p,p∈pend'→Ndo X N ops (ix p.1) p.2.1 p.2.2.1 p.2.2.2 S' S') ∧
    DrvP X N ops ix bp em os (i+1) (putF o.dst x F) S' (S'::Hs) pend' K)
structure DDataP (X:Cx)(N:Nat)(ops:Array Oper)(ix:Nat→Nat)(bp:Nat→Nat→Bool)(em:Nat→Bool)(i n:Nat)(eff:Nat→Bool)(x:Nat→AV)(FF:Nat→C5)(SS:Nat→St)(Hs:List St)(pend:List J2):Prop where
 step:∀j,i≤j→j<n→∀o,ops[ix j]?=some o→FF (j+1)=putF o.dst (x j) (FF j)∧D3 N o.dst=true
 eff0:∀j,i≤j→j<n→eff j=false→SS (j+1)=SS j
 eff1:∀j,i≤j→j<n→eff j=true→∀o,ops[ix j]?=some o→em j=true∧Ndo X N ops (ix j) o (FF j) (x j) (SS j) (SS (j+1))
 was:∀j,i≤j→j<n→eff j=false→∀o,ops[ix j]?=some o→∀S',S'∈Hs→Ndo X N ops (ix j) o (FF j) (x j) S' S'
 will:∀j,i≤j→j<n→eff j=false→∀o,ops[ix j]?=some o→∀p,i≤p→p≤n→(∀e,j≤e→e<p→eff e=true→bp j e=false)→Ndo X N ops (ix j) o (FF j) (x j) (SS p) (SS p)
 pend:∀q,q∈pend→∀p,i≤p→p≤n→(∀e,i≤e→e<p→eff e=true→bp q.1 e=false)→Ndo X N ops (ix q.1) q.2.1 q.2.2.1 q.2.2.2 (SS p) (SS p)
theorem Vg{ops:Array Oper}{ix:Nat→Nat}{bp:Nat→Nat→Bool}{em:Nat→Bool}:∀(os:List Oper)(i:Nat)(F:C5)(S:St)(Hs:List St)(pend:List J2)(K:C5→St→Prop),
 DrvP X N ops ix bp em os i F S Hs pend K→(∀k,k<os.length→ops[ix (i+k)]?=os[k]?)→S∈Hs→(∀q,q∈pend→Ndo X N ops (ix q.1) q.2.1 q.2.2.1 q.2.2.2 S S) →
 ∃eff x FF SS,FF i=F∧SS i=S∧K (FF (i+os.length)) (SS (i+os.length))∧DDataP X N ops ix bp em i (i+os.length) eff x FF SS Hs pend
 |[],i,F,S,Hs,pend,K,h,_,hS,hp=>by
  refine⟨fun _=>false,fun _=>.junk,fun _=>F,fun _=>S,rfl,rfl,h,?_⟩
  exact{ step:=fun j h1 h2=>by simp at h2;omega
         eff0:=fun j h1 h2=>by simp at h2;omega
         eff1:=fun j h1 h2=>by simp at h2;omega
         was:=fun j h1 h2=>by simp at h2;omega
         will:=fun j h1 h2=>by simp at h2;omega
         pend:=fun q hq p _ _ _=>hp q hq }
 |o::os,i,F,S,Hs,pend,K,h,hops,hS,hp=>by
  have ho:ops[ix i]?=some o:=by have:=hops 0 (by simp);simpa using this
  have hops':∀k,k<os.length→ops[ix (i+1+k)]?=os[k]?:=fun k hk=>by
   have:=hops (k+1) (by simp;omega);rw[show i+1+k=i+(k+1) by omega];simpa using this
  have hlen:i+(o::os).length=i+1+os.length:=by simp;omega
  rw[hlen];simp only[DrvP]at h;have upd:∀{β:Type} (f:Nat→β) (v:β) (j:Nat),(fun j=>if j=i then v else f j) j=if j=i then v else f j:=fun _ _ _=>rfl;rcases h with⟨x,hd,hn,hk⟩|⟨x,hd,hn,hk⟩|⟨x,S',pend',he,hd,hn,hpf,hpn,hk⟩
  ·obtain⟨eff,xs,FF,SS,h1,h2,h3,D⟩:=Vg os (i+1) _ S Hs pend K hk hops' hS hp;refine⟨fun j=>if j=i then false else eff j,fun j=>if j=i then x else xs j,fun j=>if j=i then F else FF j,fun j=>if j=i then S else SS j,by simp,by simp,?_,?_⟩
   ·have:¬(i+1+os.length=i):=by omega
    simpa[this]using h3
   ·refine⟨fun j a b o' ho'=>?_,fun j a b c=>?_,fun j a b c o' ho'=>?_,fun j a b c o' ho' S' hS'=>?_,fun j a b c o' ho' p hp1 hp2 hpe=>?_,fun q hq p hp1 hp2 hpe=>?_⟩
    ·by_cases hj:j=i
     ·subst hj;rw[ho]at ho';cases ho';simp[h1,hd]
     ·have h4:¬(j+1=i):=by omega
      simp only[hj,h4,if_false];exact D.step j (by omega) b o' ho'
    ·by_cases hj:j=i
     ·subst hj;simp[h2]
     ·have h4:¬(j+1=i):=by omega
      simp only[hj,h4,if_false]at c⊢;exact D.eff0 j (by omega) b c
    ·by_cases hj:j=i
     ·subst hj;simp at c
     ·have h4:¬(j+1=i):=by omega
      simp only[hj,h4,if_false]at c⊢;exact D.eff1 j (by omega) b c o' ho'
    ·by_cases hj:j=i
     ·subst hj;rw[ho]at ho';cases ho';simp only[if_true];exact hn S'
     ·simp only[hj,if_false]at c⊢;exact D.was j (by omega) b c o' ho' S' hS'
    ·by_cases hj:j=i
     ·subst hj;rw[ho]at ho';cases ho';simp only[if_true];exact hn _
     ·simp only[hj,if_false]at c⊢;by_cases hpi:p=i
      ·subst hpi;simp only[if_true];exact D.was j (by omega) b c o' ho' S hS
      ·simp only[hpi,if_false];refine D.will j (by omega) b c o' ho' p (by omega) hp2 (fun e e1 e2 e3=>hpe e e1 e2 ?_);have:¬(e=i):=by omega
       simpa[this]using e3
    ·by_cases hpi:p=i
     ·subst hpi;simp only[if_true];exact hp q hq
     ·simp only[hpi,if_false];refine D.pend q hq p (by omega) hp2 (fun e e1 e2 e3=>hpe e (by omega) e2 ?_);have:¬(e=i):=by omega
      simpa[this]using e3
  ·obtain⟨eff,xs,FF,SS,h1,h2,h3,D⟩:=Vg os (i+1) _ S Hs ((i,o,F,x)::pend) K hk hops' hS (fun q hq=>by
    rcases zzq13.1 hq with rfl|hq
    ·exact hn S hS
    ·exact hp q hq)
   refine⟨fun j=>if j=i then false else eff j,fun j=>if j=i then x else xs j,fun j=>if j=i then F else FF j,fun j=>if j=i then S else SS j,by simp,by simp,?_,?_⟩
   ·have:¬(i+1+os.length=i):=by omega
    simpa[this]using h3
   ·refine⟨fun j a b o' ho'=>?_,fun j a b c=>?_,fun j a b c o' ho'=>?_,fun j a b c o' ho' S' hS'=>?_,fun j a b c o' ho' p hp1 hp2 hpe=>?_,fun q hq p hp1 hp2 hpe=>?_⟩
    ·by_cases hj:j=i
     ·subst hj;rw[ho]at ho';cases ho';simp[h1,hd]
     ·have h4:¬(j+1=i):=by omega
      simp only[hj,h4,if_false];exact D.step j (by omega) b o' ho'
    ·by_cases hj:j=i
     ·subst hj;simp[h2]
     ·have h4:¬(j+1=i):=by omega
      simp only[hj,h4,if_false]at c⊢;exact D.eff0 j (by omega) b c
    ·by_cases hj:j=i
     ·subst hj;simp at c
     ·have h4:¬(j+1=i):=by omega
      simp only[hj,h4,if_false]at c⊢;exact D.eff1 j (by omega) b c o' ho'
    ·by_cases hj:j=i
     ·subst hj;rw[ho]at ho';cases ho';simp only[if_true];exact hn S' hS'
     ·simp only[hj,if_false]at c⊢;exact D.was j (by omega) b c o' ho' S' hS'
    ·by_cases hpi:p=i
     ·subst hpi;simp only[if_true];by_cases hj:j=p
      ·subst hj;rw[ho]at ho';cases ho';simp only[if_true];exact hn S hS
      ·simp only[hj,if_false]at c⊢;exact D.was j (by omega) b c o' ho' S hS
     ·simp only[hpi,if_false];by_cases hj:j=i
      ·subst hj;rw[ho]at ho';cases ho';simp only[if_true];refine D.pend (j,o,F,x) (by simp) p (by omega) hp2 (fun e e1 e2 e3=>hpe e (by omega) e2 ?_);have:¬(e=j):=by omega
       simpa[this]using e3
      ·simp only[hj,if_false]at c⊢;refine D.will j (by omega) b c o' ho' p (by omega) hp2 (fun e e1 e2 e3=>hpe e e1 e2 ?_);have:¬(e=i):=by omega
       simpa[this]using e3
    ·by_cases hpi:p=i
     ·subst hpi;simp only[if_true];exact hp q hq
     ·simp only[hpi,if_false];refine D.pend q (by simp[hq]) p (by omega) hp2 (fun e e1 e2 e3=>hpe e (by omega) e2 ?_);have:¬(e=i):=by omega
      simpa[this]using e3
  ·obtain⟨eff,xs,FF,SS,h1,h2,h3,D⟩:=Vg os (i+1) _ S' (S'::Hs) pend' K hk hops' (by simp) hpn;refine⟨fun j=>if j=i then true else eff j,fun j=>if j=i then x else xs j,fun j=>if j=i then F else FF j,fun j=>if j=i then S else SS j,by simp,by simp,?_,?_⟩
   ·have:¬(i+1+os.length=i):=by omega
    simpa[this]using h3
   ·refine⟨fun j a b o' ho'=>?_,fun j a b c=>?_,fun j a b c o' ho'=>?_,fun j a b c o' ho' S' hS'=>?_,fun j a b c o' ho' p hp1 hp2 hpe=>?_,fun q hq p hp1 hp2 hpe=>?_⟩
    ·by_cases hj:j=i
     ·subst hj;rw[ho]at ho';cases ho';simp[h1,hd]
     ·have h4:¬(j+1=i):=by omega
      simp only[hj,h4,if_false];exact D.step j (by omega) b o' ho'
    ·by_cases hj:j=i
     ·subst hj;simp at c
     ·have h4:¬(j+1=i):=by omega
      simp only[hj,h4,if_false]at c⊢;exact D.eff0 j (by omega) b c
    ·by_cases hj:j=i
     ·subst hj;rw[ho]at ho';cases ho';simp[h2,he];exact hn
     ·have h4:¬(j+1=i):=by omega
      simp only[hj,h4,if_false]at c⊢;exact D.eff1 j (by omega) b c o' ho'
    ·by_cases hj:j=i
     ·subst hj;simp at c
     ·simp only[hj,if_false]at c⊢;exact D.was j (by omega) b c o' ho' S' (by simp[hS'])
    ·by_cases hj:j=i
     ·subst hj;simp at c
     ·simp only[hj,if_false]at c⊢;by_cases hpi:p=i
      ·subst hpi;simp only[if_true];exact D.was j (by omega) b c o' ho' S (by simp[hS])
      ·simp only[hpi,if_false];refine D.will j (by omega) b c o' ho' p (by omega) hp2 (fun e e1 e2 e3=>hpe e e1 e2 ?_);have:¬(e=i):=by omega
       simpa[this]using e3
    ·by_cases hpi:p=i
     ·subst hpi;simp only[if_true];exact hp q hq
     ·simp only[hpi,if_false];have hb:bp q.1 i=false:=hpe i (Bo _) (by omega) (by simp);refine D.pend q (by rw[←hpf];exact zzq56.2 ⟨hq,by simp[hb]⟩) p (by omega) hp2 (fun e e1 e2 e3=>hpe e (by omega) e2 ?_);have:¬(e=i):=by omega
      simpa[this]using e3
def Zf(ops:Array Oper)(ix:Nat→Nat)(x:Nat→AV)(listed:Nat→Bool)(F:C5):Nat→C5
 |0=>F
 |j+1=>match listed j with
  |true=>match ops[ix j]? with
   |some o=>putF o.dst (x j) (Zf ops ix x listed F j)
   |none=>Zf ops ix x listed F j
  |false=>Zf ops ix x listed F j
theorem O1{ops:Array Oper}{ix:Nat→Nat}{x:Nat→AV}{listed:Nat→Bool}{t:Nat}:∀n,(∀j,j<n→listed j=true→∀o,ops[ix j]?=some o→o.dst≠some t)→lk (Zf ops ix x listed F n) t=lk F t
 |0,_=>rfl
 |n+1,h=>by
  have ih:lk (Zf ops ix x listed F n) t=lk F t:=O1 n (fun j hj=>h j (by omega));simp only[Zf];split
  ·rename_i hl;split
   ·rename_i o ho;rw[Hu,if_neg (h n (by omega) hl o ho),ih]
   ·exact ih
  ·exact ih
theorem Sg{ops:Array Oper}{ix:Nat→Nat}{x:Nat→AV}{listed:Nat→Bool}{t j:Nat}{o:Oper}(ho:ops[ix j]?=some o)(hd:o.dst=some t)(hl:listed j=true) :
 ∀n,j<n→(∀(j':Nat) (o':Oper),j'<n→j≠j'→ops[ix j']?=some o'→o'.dst≠some t)→lk (Zf ops ix x listed F n) t=some (x j)
 |0,h,_=>by omega
 |n+1,h,hu=>by
  simp only[Zf];by_cases hj:j=n
  ·subst hj;simp only[hl,ho];rw[Hu,if_pos hd]
  ·have ih:lk (Zf ops ix x listed F n) t=some (x j):=Sg ho hd hl n (by omega) (fun j' o' h'=>hu j' o' (by omega));split
   ·split
    ·rename_i o' ho';rw[Hu,if_neg (hu n o' (by omega) hj ho'),ih]
    ·exact ih
   ·exact ih
structure DrawOkP (ops:Array Oper)(ix:Nat→Nat)(n:Nat)(bp:Nat→Nat→Bool)(em:Nat→Bool):Prop where
 at_:∀j,j<n→∃o,ops[ix j]?=some o
 looks:∀(i j:Nat) (oi oj:Oper),i<n→j<n→ops[ix i]?=some oi→ops[ix j]?=some oj→∀t,oj.dst=some t→t∈oi.looksAt ops→(j<i∧bp j i=true)∨(i<j∧bp i j=true)
 dsts:∀(i j:Nat) (oi oj:Oper),i<n→j<n→ops[ix i]?=some oi→ops[ix j]?=some oj→i≠j→∀t,oi.dst=some t→oj.dst≠some t
 effs:∀(i j:Nat),i<j→j<n→em i=true→em j=true→bp i j=true
def OrdP(bp:Nat→Nat→Bool)(n:Nat):List Nat→(Nat→Bool)→Prop
 |[],listed=>∀j,j<n→listed j=true
 |i::l,listed=>i<n∧listed i=false∧(∀e,e<n→bp e i=true→listed e=true)∧OrdP bp n l (fun j=>if i=j then true else listed j)
def CloP(bp:Nat→Nat→Bool)(n:Nat)(listed:Nat→Bool):Prop:=∀j e,j<n→e<n→listed j=true→bp e j=true→listed e=true
theorem CloP.put{bp:Nat→Nat→Bool}{n i:Nat}{listed:Nat→Bool}(h:CloP bp n listed)(hb:∀e,e<n→bp e i=true→listed e=true):CloP bp n (fun j=>if i=j then true else listed j):=fun j e hj he hl hb'=>by
 by_cases h1:i=e
 ·simp[h1]
 ·simp only[h1,if_false];by_cases h2:i=j
  ·subst h2;exact hb e he hb'
  ·simp only[h2,if_false]at hl;exact h j e hj he hl hb'
theorem Asz{ops:Array Oper}{ix:Nat→Nat}{n:Nat}{bp:Nat→Nat→Bool}{em:Nat→Bool}(dk:DrawOkP ops ix n bp em){eff:Nat→Bool}{x:Nat→AV}{FF:Nat→C5}{SS:Nat→St}{Hs:List St}{pend:List J2}
 (D:DDataP X N ops ix bp em 0 n eff x FF SS Hs pend)(hF0:FF 0=F)(k:List Item):∀(l:List Nat)(listed:Nat→Bool)(a:Act)(w:World)(E:Env)(p:Nat),
 OrdP bp n l listed→CloP bp n listed→p≤n→(∀e,e<n→eff e=true→(listed e=true↔e<p)) →
 Inv X E (SS p) w→FR E w (Zf ops ix x listed F n) a N→∀(b:Frame) (cs:List Frame),
  ∃E' w' a',Steps X.P (lone (b.at a (.inRegion ops (l.map ix)::k)) cs w) (lone (b.at a' k) cs w')∧Inv X E' (SS n) w' ∧
   FR E' w' (FF n) a' N∧Evol E w E' w' E.boxes.length E.toks.length:=by
 have hFF:∀m,m≤n→FF m=Zf ops ix x (fun _=>true) F m:=by
  intro m
  induction m with
  |zero=>intro _;exact hF0
  |succ m ih=>
   intro hn;obtain⟨o,ho⟩:=dk.at_ m (by omega);rw[(D.step m (B3 _) (by omega) _ ho).1,ih (by omega)];simp[Zf,ho]
 have hSS:∀p q,p≤q→q≤n→(∀e,p≤e→e<q→eff e=false)→SS q=SS p:=by
  intro p q hpq
  induction q with
  |zero=>intro _ _;rw[show p=0 by omega]
  |succ q ih=>
   intro hq he;by_cases h:p=q+1
   ·rw[h]
   ·rw[D.eff0 q (B3 _) (by omega) (he q (by omega) (by omega))];exact ih (by omega) (by omega) (fun e h1 h2=>he e h1 (by omega))
 intro l
 induction l with
 |nil=>
  intro listed a w E p hall hc hp hpe hI hF b cs;refine⟨E,w,a,.one step_region_end,?_,?_,Evol.refl _ _ _ _⟩
  ·rw[hSS p n hp (Bo _) fun e h1 h2=>by
    cases he:eff e with
    |false=>rfl
    |true=>have:=(hpe e h2 he).1 (hall e h2);omega]
   exact hI
  ·rw[hFF _ (Bo _)];have:Zf ops ix x listed F n=Zf ops ix x (fun _=>true) F n:=by
    have:∀m,m≤n→Zf ops ix x listed F m=Zf ops ix x (fun _=>true) F m:=by
     intro m
     induction m with
     |zero=>intro _;rfl
     |succ m ih=>intro hn;simp only[Zf,hall m (by omega),ih (by omega)]
    exact this _ (Bo _)
   rw[←this];exact hF
 |cons i l ih=>
  intro listed a w E p hord hc hp hpe hI hF b cs;obtain⟨hin,hilf,rbit,hrest⟩:=hord;obtain⟨o,ho⟩:=dk.at_ i hin;simp only[N0];have notbit:∀e,e<n→listed e=true→bp i e=false:=fun e he hl=>by
   cases hb:bp i e with
   |false=>rfl
   |true=>have:=hc e i he hin hl hb;rw[hilf]at this;cases this
  have hagree:∀t,t∈o.looksAt ops→lk (Zf ops ix x listed F n) t=lk (FF i) t:=fun t ht=>by
   rw[hFF i (by omega)];by_cases hw:∃(j:Nat) (oj:Oper),j<n∧ops[ix j]?=some oj∧oj.dst=some t
   ·obtain⟨j,oj,hjn,hj,hd⟩:=hw;have hu:∀(j':Nat) (o':Oper),j'<n→j≠j'→ops[ix j']?=some o'→o'.dst≠some t:=fun j' o' hjn' hne ho'=>dk.dsts j j' oj o' hjn hjn' hj ho' hne t hd;rcases dk.looks i j o oj hin hjn ho hj t hd ht with⟨h1,h2⟩|⟨h1,h2⟩
    ·rw[Sg (listed:=listed) hj hd (rbit j hjn h2) n hjn (fun j' o' hj'=>hu j' o' hj'),Sg (listed:=fun _=>true) hj hd rfl i h1 (fun j' o' hj'=>hu j' o' (by omega))]
    ·have hjl:listed j=false:=by
      cases hl:listed j with
      |false=>rfl
      |true=>have:=notbit j hjn hl;rw[h2]at this;cases this
     rw[O1 n fun j' hj' hl' o' ho' hc'=>by
      by_cases hjj:j=j'
      ·subst hjj;rw[hjl]at hl';cases hl'
      ·exact hu j' o' hj' hjj ho' hc',
      O1 i fun j' hj' _ o' ho' hc'=>by
       by_cases hjj:j=j'
       ·omega
       ·exact hu j' o' (by omega) hjj ho' hc']
   ·rw[O1 n fun j' hj' _ o' ho' hc'=>hw ⟨j',o',hj',ho',hc'⟩,O1 i fun j' hj' _ o' ho' hc'=>hw ⟨j',o',by omega,ho',hc'⟩]
  have hcl':=hc.put rbit;have hlk':∀t,lk (Zf ops ix x (fun j=>if i=j then true else listed j) F n) t=lk (putF o.dst (x i) (Zf ops ix x listed F n)) t:=fun t=>by
   rw[Hu];by_cases hd:o.dst=some t
   ·rw[if_pos hd];exact Sg ho hd (by simp) n hin (fun j' o' hj' hne ho'=>dk.dsts i j' o o' hin hj' ho ho' hne t hd)
   ·rw[if_neg hd];have:∀m,lk (Zf ops ix x (fun j=>if i=j then true else listed j) F m) t=lk (Zf ops ix x listed F m) t:=by
     intro m
     induction m with
     |zero=>rfl
     |succ m ihn=>
      simp only[Zf];by_cases hn:i=m
      ·subst hn;simp only[if_true,hilf,ho];rw[Hu,if_neg hd,ihn]
      ·simp only[hn,if_false];split
       ·split
        ·rw[Hu,Hu,ihn]
        ·exact ihn
       ·exact ihn
    exact this _
  have next:∀(p':Nat),p'≤n→(∀e,e<n→eff e=true→((if i=e then true else listed e)=true↔e<p'))→Ndo X N ops (ix i) o (FF i) (x i) (SS p) (SS p') →
   ∃E' w' a',Steps X.P (lone (b.at a (.inRegion ops (ix i::l.map ix)::k)) cs w) (lone (b.at a' k) cs w') ∧
    Inv X E' (SS n) w'∧FR E' w' (FF n) a' N∧Evol E w E' w' E.boxes.length E.toks.length:=fun p' hp' hpe' hn=>by
   obtain⟨v,w1,⟨E1,h1,h2,h3⟩,h4⟩:=hn _ E w a hagree hI hF b k cs (l.map ix);rw[ho]at h4;have hd:=(D.step i (B3 _) hin o ho).2;have hF1:FR E1 w1 (Zf ops ix x (fun j=>if i=j then true else listed j) F n) (a.put o.dst v) N:=by
    have:=(hF.step h2).putF hd h3;exact⟨this.size,this.nod,fun q y hq=>this.rel q y (by rw[←hlk' q];exact hq)⟩
   obtain⟨E',w',a',k1,k2,k3,k4⟩:=ih _ _ w1 E1 p' hrest hcl' hp' hpe' h1 hF1 b cs;have hlen:=h2.len;exact⟨E',w',a',h4.trans k1,k2,k3,h2.trans (k4.weaken hlen.1 hlen.2)⟩
  cases he:eff i with
  |false=>
   refine next p hp (fun e hen hee=>?_) ?_
   ·by_cases hie:i=e
    ·subst hie;rw[he]at hee;cases hee
    ·rw[if_neg hie];exact hpe e hen hee
   ·exact D.will i (B3 _) hin he o ho p (B3 _) hp (fun e h1 h2 h3=>notbit e (by omega) ((hpe e (by omega) h3).2 h2))
  |true=>
   obtain⟨es,hn⟩:=D.eff1 i (B3 _) hin he o ho;have hpi:p≤i:=by
    rcases Gs i p with h|h
    ·have:=(hpe i hin he).2 h;rw[hilf]at this;cases this
    ·exact h
   have before:∀e,e<i→eff e=true→listed e=true:=fun e hei hee=>by
    obtain⟨oe,hoe⟩:=dk.at_ e (by omega);exact rbit e (by omega) (dk.effs e i hei hin (D.eff1 e (B3 _) (by omega) hee _ hoe).1 es)
   have hSp:SS i=SS p:=hSS p i hpi (by omega) (fun e h1 h2=>by
    cases hee:eff e with
    |false=>rfl
    |true=>have:=(hpe e (by omega) hee).1 (before e h2 hee);omega)
   refine next (i+1) (by omega) (fun e hen hee=>?_) (by rw[←hSp];exact hn)
   by_cases hie:i=e
   ·subst hie;simp
   ·rw[if_neg hie];constructor
    ·intro hl;rcases Gs e (i+1)with h|h
     ·exact h
     ·obtain⟨oe,hoe⟩:=dk.at_ e hen;have:=dk.effs i e (by omega) hen es (D.eff1 e (B3 _) hen hee _ hoe).1;have h2:=notbit e hen hl;rw[this]at h2;cases h2
    ·intro hlt;exact before e (by omega) hee
end
def AB(a b:Nat):List Nat→(Nat→Bool)→Prop
 |[],_=>True
 |i::l,listed=>(i=b→listed a=true)∧AB a b l (fun j=>if i=j then true else listed j)
theorem Agp{a b:Nat}:∀(l:List Nat)(listed:Nat→Bool),listed a=true→AB a b l listed
 |[],_,_=>trivial
 |i::l,listed,h=>⟨fun _=>h,Agp l _ (by simp[h])⟩
theorem Arr{a b:Nat}(hne:a≠b):∀(l:List Nat)(listed:Nat→Bool),AB a b l listed∨AB b a l listed
 |[],_=>.inl trivial
 |i::l,listed=>by
  by_cases ha:i=a
  ·subst ha;exact .inl ⟨fun h=>absurd h hne,Agp l _ (by simp)⟩
  ·by_cases hb:i=b
   ·subst hb;exact .inr ⟨fun h=>absurd h.symm hne,Agp l _ (by simp)⟩
   ·rcases Arr hne l (fun j=>if i=j then true else listed j)with h|h
    ·exact .inl ⟨fun h'=>absurd h' hb,h⟩
    ·exact .inr ⟨fun h'=>absurd h' ha,h⟩
theorem Azu{bp:Nat→Nat→Bool}{n a b c:Nat}(hb:b<n)(hbc:bp b c=true):∀(l:List Nat)(listed:Nat→Bool),OrdP bp n l listed→AB a b l listed→(listed b=true→listed a=true)→AB a c l listed
 |[],_,_,_,_=>trivial
 |i::l,listed,⟨_,_,g3,g4⟩,⟨h1,h2⟩,h3=>⟨fun hi=>h3 (g3 b hb (by rw[hi];exact hbc)),Azu hb hbc l _ g4 h2 (fun hl=>by
   by_cases hib:i=b
   ·by_cases hia:i=a
    ·simp[hia]
    ·simp[hia,h1 hib]
   ·simp only[hib,if_false]at hl;by_cases hia:i=a
    ·simp[hia]
    ·simp[hia,h3 hl])⟩
theorem OrdP.congr{bp:Nat→Nat→Bool}{n:Nat}:∀(l:List Nat){f g:Nat→Bool},(∀p,p<n→f p=g p)→OrdP bp n l f→OrdP bp n l g
 |[],f,g,h,ho=>fun j hj=>by rw[←h j hj];exact ho j hj
 |i::l,f,g,h,⟨g1,g2,g3,g4⟩=>⟨g1,by rw[←h i g1];exact g2,fun e he hb=>by rw[←h e he];exact g3 e he hb,OrdP.congr l (fun p hp=>by
   by_cases hi:i=p
   ·simp[hi]
   ·simp[hi,h p hp]) g4⟩
theorem OrdP.map{bp:Nat→Nat→Bool}{n:Nat}{σ ix:Nat→Nat}(h1:∀i,i<n→σ i<n∧ix (σ i)=i)(h2:∀p,p<n→ix p<n∧σ (ix p)=p){asm:List (Nat×Nat)}:∀(l:List Nat)(listed:Nat→Bool),OrdP bp n l listed →
 (∀ab,ab∈asm→AB ab.1 ab.2 l listed)→OrdP (fun q p=>bp (ix q) (ix p)||asm.contains (ix q,ix p)) n (l.map σ) (fun p=>listed (ix p))∧(l.map σ).map ix=l
 |[],listed,h,_=>⟨fun j hj=>h _ (h2 j hj).1,rfl⟩
 |i::l,listed,h,ha=>by
  obtain⟨g1,g2,g3,g4⟩:=h;obtain⟨k1,k2⟩:=h1 i g1;have ih:=OrdP.map h1 h2 l _ g4 (fun ab hab=>(ha ab hab).2);refine⟨⟨k1,by simp only[k2];exact g2,fun e he hb=>?_,OrdP.congr _ (fun p hp=>?_) ih.1⟩,by simp only[N0,k2,ih.2]⟩
  ·simp only[k2,Pd]at hb;rcases hb with hb|hb
   ·exact g3 _ (h2 e he).1 hb
   ·have hm:=List.contains_iff_mem.1 hb;exact(ha _ hm).1 rfl
  ·by_cases hi:i=ix p
   ·have:σ i=p:=by rw[hi];exact(h2 p hp).2
    simp only[this,if_true,if_pos hi]
   ·have hs:¬σ i=p:=fun h=>hi (by rw[←h];exact k2.symm);simp[hi,hs]
theorem Axr{ops:Array Oper}{bs:List Nat}(hb:Zq ops bs=true):∀(fuel t:Nat)(listed:Array Bool),listed.size=ops.size→Closed ops listed→Abs listed ops.size≤fuel →
 OrdP (bitOf bs) ops.size (Region.linearise.go .any ops fuel t listed []) (fun j=>listed.getD j false):=by
 have fin:∀(listed:Array Bool),(∀j,j<ops.size→listed.getD j false=true)→OrdP (bitOf bs) ops.size [] (fun j=>listed.getD j false):=fun _ h=>h;intro fuel
 induction fuel with
 |zero=>
  intro t listed hs hc hcnt;refine fin listed fun j hj=>?_;cases hl:listed.getD j false with
  |true=>rfl
  |false=>
   have:j∈(List.range ops.size).filter fun j=>!listed.getD j false:=zzq56.2 ⟨zzq53.2 hj,by simp only[hl];rfl⟩;unfold Abs at hcnt;have:=List.length_pos_of_mem this;omega
 |succ fuel ih=>
  intro t listed hs hc hcnt;simp only[Region.linearise.go];change OrdP (bitOf bs) ops.size (match(Region.ready .any ops listed)[t%(Region.ready .any ops listed).length]? with
   |some i=>Region.linearise.go .any ops fuel (t/(Region.ready .any ops listed).length) (listed.setIfInBounds i true) [i]
   |none=>[].reverse) _
  cases hi:(Region.ready .any ops listed)[t%(Region.ready .any ops listed).length]? with
  |none=>
   have hnil:Region.ready .any ops listed=[]:=by
    cases hr:Region.ready .any ops listed with
    |nil=>rfl
    |cons y ys=>
     rw[hr]at hi;have hlt:t%(y::ys).length<(y::ys).length:=Nat.mod_lt _ (by simp);simp at hi;simp at hlt;omega
   exact fin listed (W6 hb hs hnil)
  |some i=>
   obtain⟨hin,hil,o,ho,hafter⟩:=Aab (Bh hi);have hilf:listed.getD i false=false:=by
    have:i<listed.size:=by omega
    simp[Array.getD,this]at hil⊢;exact hil
   simp only[];rw[linearise_go_acc,List.reverse_singleton,Akv];have rbit:∀e,e<ops.size→bitOf bs e i=true→listed.getD e false=true:=fun e he hbit=>by
    have hk:=zzq48.1 hb i (zzq53.2 hin);rw[ho]at hk;simp only[Dd,zzq54]at hk;unfold bitOf at hbit;rw[hk.1]at hbit;rcases Qe bs e _ 0 hbit with h|⟨e',he',hbe,h⟩
    ·simp at h
    ·have hl':=hafter e' he' hbe;rcases h with rfl|h
     ·exact hl'
     ·have:e'.on<ops.size:=by
       have h2:=zzq48.1 hk.2 e' he';simp only[hbe,Bool.not_true,Vf]at h2;have:e'.on<i:=by simpa[Fw]using h2
       omega
      exact hc.bit hb e'.on e this hl' h
   have hcl':Closed ops (listed.setIfInBounds i true):=fun j oj hj hoj e he hb=>by
    rw[Ja (by omega)]at hj⊢;by_cases hie:i=e.on
    ·rw[if_pos hie]
    ·rw[if_neg hie];by_cases hij:i=j
     ·subst hij;rw[ho]at hoj;cases hoj;exact hafter e he hb
     ·rw[if_neg hij]at hj;exact hc j oj hj hoj e he hb
   have hcu:=Acz hin hs hilf;refine⟨hin,hilf,rbit,OrdP.congr _ (fun p _=>?_) (ih _ (listed.setIfInBounds i true) (by simp[hs]) hcl' (by omega))⟩;rw[Ja (by omega)]
def bpP(bs:List Nat)(π:List Nat)(asm:List (Nat×Nat))(q p:Nat):Bool:=bitOf bs (π.getD q 0) (π.getD p 0)||asm.contains (π.getD q 0,π.getD p 0)
def okP(ops:Array Oper)(bs π:List Nat)(asm:List (Nat×Nat))(em:Nat):Bool:=
 ((List.range ops.size).all fun i=>Nat.blt (π.idxOf i) ops.size&&π.getD (π.idxOf i) 0==i) &&
 ((List.range ops.size).all fun p=>Nat.blt (π.getD p 0) ops.size&&π.idxOf (π.getD p 0)==p) &&
 (List.range ops.size).all fun i=>match ops[π.getD i 0]? with
   |none=>false
   |some oi=>(List.range ops.size).all fun j=>match ops[π.getD j 0]? with
    |none=>false
    |some oj=>
     (match oj.dst with
       |some t=>!(oi.looksAt ops).contains t||(Nat.blt j i&&bpP bs π asm j i)||(Nat.blt i j&&bpP bs π asm i j)
       |none=>true) &&
     (i==j||(match oi.dst with
       |some t=>oj.dst != some t
       |none=>true)) &&
     (Nat.ble j i||!(em.testBit (π.getD i 0)&&em.testBit (π.getD j 0))||bpP bs π asm i j)
theorem Aty{ops:Array Oper}{bs π:List Nat}{asm:List (Nat×Nat)}{em:Nat}(h:okP ops bs π asm em=true) :
 (∀i,i<ops.size→π.idxOf i<ops.size∧π.getD (π.idxOf i) 0=i)∧(∀p,p<ops.size→π.getD p 0<ops.size∧π.idxOf (π.getD p 0)=p) ∧
 DrawOkP ops (π.getD · 0) ops.size (bpP bs π asm) (fun j=>em.testBit (π.getD j 0)):=by
 unfold okP at h;rw[Dd,Dd]at h;obtain⟨⟨h1,h2⟩,h3⟩:=h;have key:∀(i j:Nat) (oi oj:Oper),i<ops.size→j<ops.size→ops[π.getD i 0]?=some oi→ops[π.getD j 0]?=some oj →
  ((match oj.dst with
     |some t=>!(oi.looksAt ops).contains t||(Nat.blt j i&&bpP bs π asm j i)||(Nat.blt i j&&bpP bs π asm i j)
     |none=>true) &&
    (i==j||(match oi.dst with
      |some t=>oj.dst != some t
      |none=>true)) &&
    (Nat.ble j i||!(em.testBit (π.getD i 0)&&em.testBit (π.getD j 0))||bpP bs π asm i j))=true:=fun i j oi oj li lj hi hj=>by
  have a1:=zzq48.1 h3 i (zzq53.2 li);rw[hi]at a1;have a2:=zzq48.1 a1 j (zzq53.2 lj);rw[hj]at a2;exact a2
 have at_:∀j,j<ops.size→∃o,ops[π.getD j 0]?=some o:=fun j hj=>by
  have a1:=zzq48.1 h3 j (zzq53.2 hj);cases ho:ops[π.getD j 0]? with
  |none=>rw[ho]at a1;cases a1
  |some o=>exact⟨o,rfl⟩
 refine⟨fun i hi=>?_,fun p hp=>?_,at_,fun i j oi oj li lj hi hj t ht hm=>?_,fun i j oi oj li lj hi hj hne t ht hc=>?_,fun i j hij lj e1 e2=>?_⟩
 ·have:=zzq48.1 h1 i (zzq53.2 hi);simpa[Fw]using this
 ·have:=zzq48.1 h2 p (zzq53.2 hp);simpa[Fw]using this
 ·have:=key i j oi oj li lj hi hj;simp only[Dd,ht,Pd,Ml,Fw]at this;rcases this.1.1 with(h|h)|h
  ·have hc:(oi.looksAt ops).contains t=true:=List.contains_iff_mem.2 hm;rw[hc]at h;cases h
  ·exact .inl h
  ·exact .inr h
 ·have:=key i j oi oj li lj hi hj;simp only[Dd,ht,Pd]at this;rcases this.1.2 with h'|h'
  ·simp at h';exact hne h'
  ·rw[hc]at h';simp at h'
 ·obtain⟨oi,hi⟩:=at_ i (by omega);obtain⟨oj,hj⟩:=at_ j lj;have:=key i j oi oj (by omega) lj hi hj;simp only[Dd,Pd,e1,e2]at this;rcases this.2 with(h'|h')|h'
  ·have:=Jz h';omega
  ·simp at h'
  ·exact h'
section
variable {X:Cx}{B:Bx}{E:Env}{S:St}{w:World}{F:C5}{a:Act}{N:Nat}{R:AE→St→Prop}
def Way(X:Cx)(N:Nat)(ops:Array Oper)(F:C5)(S:St)(K:C5→St→Prop)(l:List Nat):Prop:=
 ∃(π:List Nat) (asm:List (Nat×Nat)) (em:Nat) (os:List Oper),(∀ab,ab∈asm→AB ab.1 ab.2 l fun _=>false)∧okP ops (Iq ops.toList []) π asm em=true∧os.length=ops.size ∧
  (π.map fun i=>ops[i]?)=os.map some∧DrvP X N ops (π.getD · 0) (bpP (Iq ops.toList []) π asm) (fun j=>em.testBit (π.getD j 0)) os 0 F S [S] [] K
theorem Alg{ops:Array Oper}{K:C5→St→Prop}{l:List Nat}(π:List Nat)(asm:List (Nat×Nat))(em:Nat){os:List Oper}(ha:∀ab,ab∈asm→AB ab.1 ab.2 l fun _=>false)(hos:(π.filterMap fun i=>ops[i]?)=os)
 (hd:DrvP X N ops (π.getD · 0) (bpP (Iq ops.toList []) π asm) (fun j=>em.testBit (π.getD j 0)) os 0 F S [S] [] K)(hok:okP ops (Iq ops.toList []) π asm em=true:=by kernel_rfl)(hl:os.length=ops.size:=by rfl)(hm:(π.map fun i=>ops[i]?)=os.map some:=by rfl):Way X N ops F S K l:=
 ⟨π,asm,em,os,ha,hok,hl,hm,hd⟩
theorem Av5{id:Nat}{ops:Array Oper}{k:List Item}(h:∀l:List Nat,OrdP (bitOf (Iq ops.toList [])) ops.size l (fun _=>false)→Way X B.fn.ntmps ops F S (fun F' S'=>AK X B k F' S' R) l)(hb:Zq ops (Iq ops.toList [])=true:=by kernel_rfl):AK X B (.code (.region id ops true)::k) F S R:=by
 intro E w a b cs hI hF hn hm hbf;have hord:=Axr hb ops.size (w.tape w.drawn (.order b.fn id)) (Array.replicate ops.size false) (by simp) (fun j o hj=>by simp[Array.getD]at hj) (by
  unfold Abs;exact Pb (Abm _ _) (by simp))
 generalize hl:Region.linearise.go .any ops ops.size (w.tape w.drawn (.order b.fn id)) (Array.replicate ops.size false) []=l at hord;have hord':=OrdP.congr (g:=fun _=>false) l (fun p _=>by simp[Array.getD]) hord;obtain⟨π,asm,em,os,ha,hok,hos,hmap,hd⟩:=h l hord';obtain⟨k1,k2,dk⟩:=Aty hok;obtain⟨o1,o2⟩:=OrdP.map (σ:=π.idxOf) (ix:=(π.getD · 0)) k1 k2 l _ hord' ha;have hget:∀j,j<os.length→ops[π.getD (0+j) 0]?=os[j]?:=fun j hj=>by
  have h1:=congrArg (fun l=>l[j]?) hmap;simp only[Gl]at h1;rw[Jy];cases hp:π[j]? with
  |none=>rw[hp]at h1;simp[Wv hj]at h1
  |some i=>
   rw[hp]at h1;simp only[Lk]at h1;have:π.getD j 0=i:=by simp[List.getD,hp]
   rw[this];cases ho:os[j]? with
   |none=>rw[Wv hj]at ho;cases ho
   |some o=>rw[ho]at h1;simpa using h1
 obtain⟨eff,x,FF,SS,h1,h2,h3,D⟩:=Vg os 0 F S [S] [] _ hd hget (by simp) (fun q hq=>by cases hq);have hlen:0+os.length=ops.size:=by omega
 rw[hlen]at h3 D;have hI1:Inv X E (SS 0) { w with drawn:=w.drawn+1 }:=by rw[h2];exact hI.keep (Gw E w _ _) (fun _ _=>rfl)
 have hF1:FR E { w with drawn:=w.drawn+1 } (Zf ops (π.getD · 0) x (fun _=>false) F ops.size) a B.fn.ntmps:=by
  have hF':=hF.step (Gw E w _ _);have:Zf ops (π.getD · 0) x (fun _=>false) F ops.size=F:=by
   have:∀n,Zf ops (π.getD · 0) x (fun _=>false) F n=F:=by
    intro n
    induction n with
    |zero=>rfl
    |succ n ih=>simp only[Zf];exact ih
   exact this _
  rw[this];exact hF'
 obtain⟨E',w',a',g1,g2,g3,g4⟩:=Asz dk D h1 k (l.map π.idxOf) (fun _=>false) a { w with drawn:=w.drawn+1 } E 0 o1
  (fun j e _ _ hj=>by cases hj) (B3 _) (fun e he hee=>by simp) hI1 hF1 b cs
 rw[o2]at g1;have hst:Steps X.P (lone (b.at a (.code (.region id ops true)::k)) cs w) (lone (b.at a' k) cs w'):=by
  refine .head step_region_draw ?_;simp only[Region.schedule,X.mixed,Bool.true_or,if_true];have hl':Region.linearise .any ops (w.tape w.drawn (.order b.fn id))=l:=hl;rw[hl'];exact g1
 have g4':=(Gw E w _ _).trans g4;have hll:=g4'.len;have nt:E.toks.length=S.toks.length:=by rw[←hI.nt];simp
 have nt':E'.toks.length=(SS ops.size).toks.length:=by rw[←g2.nt];simp
 exact Fin.from hst (g4'.weaken (by rw[hI.nb];exact hn) (by omega)) (h3 E' w' a' b cs g2 g3 (by rw[←g2.nb];have:=hI.nb;omega) (by omega) hbf)
end
section
variable {X:Cx}{B:Bx}{S S':St}{F F':C5}{R:AE→St→Prop}{ops:Array Oper}{N:Nat}{ix:Nat→Nat}{bp:Nat→Nat→Bool}{em:Nat→Bool}{KK:C5→St→Prop}
theorem Qc:∀(n:Nat)(os:List Oper)(i:Nat)(F:C5)(pend:List J2),(∀k,k<os.length→ops[ix (i+k)]?=os[k]?) →
 DrvP X N ops ix bp em (Ln X N ops S n os i F pend).1 (Ln X N ops S n os i F pend).2.1 (Ln X N ops S n os i F pend).2.2.1 S [S] (Ln X N ops S n os i F pend).2.2.2 KK→DrvP X N ops ix bp em os i F S [S] pend KK
 |0,os,i,F,p,_,h=>h
 |n+1,[],i,F,p,_,h=>h
 |n+1,o::os,i,F,p,hos,h=>by
  have ho:ops[ix i]?=some o:=by have:=hos 0 (by simp);simpa using this
  have hos':∀k,k<os.length→ops[ix (i+1+k)]?=os[k]?:=fun k hk=>by
   have:=hos (k+1) (by simp;omega);rw[show i+1+k=i+(k+1) by omega];simpa using this
  unfold Ln at h;split at h
  ·rename_i hw;split at h
   ·rename_i x hx;split at h
    ·rename_i F' hF;obtain⟨h1,rfl⟩:=Gi hF;split at h
     ·exact .inr (.inl ⟨x,h1,fun S' hS'=>by simp at hS';subst hS';exact Ck ho hw hx,Qc n os (i+1) _ _ hos' h⟩)
     ·rename_i hl;exact .inl ⟨x,h1,fun S'=>Ck ho hw (by rw[←R4 (S:=S) hl];exact hx),Qc n os (i+1) _ _ hos' h⟩
    ·exact h
   ·split at h
    ·rename_i x hx;split at h
     ·rename_i F' hF;obtain⟨h1,rfl⟩:=Gi hF;exact .inl ⟨x,h1,fun S'=>Lu ho hw (R2 hx S'.boxes S'.toks),Qc n os (i+1) _ _ hos' h⟩
     ·exact h
    ·exact h
  ·rename_i hw;split at h
   ·rename_i F' hF;obtain⟨h1,rfl⟩:=Gi hF;exact .inl ⟨_,h1,fun S'=>X1 ho hw,Qc n os (i+1) _ _ hos' h⟩
   ·exact h
  ·exact h
theorem Agv{os os':List Oper}{i i':Nat}{F':C5}{pend pend':List J2}(n:Nat)(k:DrvP X N ops ix bp em os' i' F' S [S] pend' KK)(h:Ln X N ops S n os i F pend=(os',i',F',pend'):=by rfl)
 (hos:((List.range os.length).map fun k=>ops[ix (i+k)]?)=os.map some:=by rfl):DrvP X N ops ix bp em os i F S [S] pend KK:=
 Qc n os i F pend (fun k hk=>by
  have h1:=congrArg (fun l=>l[k]?) hos;simp only[Gl,Abn hk,Lk,Wv hk]at h1;rw[Wv hk];exact Option.some.inj h1) (by rw[h];exact k)
theorem Nq{os:List Oper}{i:Nat}{o:Oper}{x:AV}{Hs:List St}{pend:List J2}(k:DrvP X N ops ix bp em os (i+1) F' S Hs pend KK)(ho:ops[ix i]?=some o:=by rfl)(hw:A8 ops F o=some true:=by rfl)(h:∀S',Ej X F S' o.op=some x:=by intro;rfl)(hF:P2 N o.dst x F=some F':=by rfl) :
 DrvP X N ops ix bp em (o::os) i F S Hs pend KK:=by
 obtain⟨h1,rfl⟩:=Gi hF;exact .inl ⟨x,h1,fun S'=>Ck ho hw (h S'),k⟩
theorem Ak4{os:List Oper}{i:Nat}{o:Oper}{x:AV}{Hs:List St}{pend:List J2}(h:Ndo X N ops (ix i) o F x S S')(hr:∀p,p∈pend→Ndo X N ops (ix p.1) p.2.1 p.2.2.1 p.2.2.2 S' S')
 (k:DrvP X N ops ix bp em os (i+1) F' S' (S'::Hs) (pend.filter fun p=>!bp p.1 i) KK)(he:em i=true:=by rfl)(hF:P2 N o.dst x F=some F':=by rfl):DrvP X N ops ix bp em (o::os) i F S Hs pend KK:=by
 obtain⟨h1,rfl⟩:=Gi hF;exact .inr (.inr ⟨x,S',_,he,h1,h,rfl,fun p hp=>hr p (zzq56.1 hp).1,k⟩)
theorem N3{os:List Oper}{i:Nat}{o:Oper}{x:AV}{Hs:List St}{pend:List J2}(h:Ndo X N ops (ix i) o F x S S')
 (k:DrvP X N ops ix bp em os (i+1) F' S' (S'::Hs) [] KK)(he:em i=true:=by rfl)(hF:P2 N o.dst x F=some F':=by rfl)(hp:pend.filter (fun p=>!bp p.1 i)=[]:=by kernel_rfl):DrvP X N ops ix bp em (o::os) i F S Hs pend KK:=by
 obtain⟨h1,rfl⟩:=Gi hF;exact .inr (.inr ⟨x,S',[],he,h1,h,hp,fun p hp'=>(by cases hp'),k⟩)
theorem Agw{i:Nat}{Hs:List St}{pend:List J2}{k K:List Item}{S2:St}(id:Nat)(hk:AK X B K F' S2 R)(he:evT X B.fn.ntmps id 100 k F S=(K,F',S2):=by rfl):DrvP X N ops ix bp em [] i F S Hs pend fun F1 S1=>AK X B k F1 S1 R:=
 Kv id 100 he hk
inductive SubR (σ:List Nat)(F:C5):C5→Prop where
 |nil:SubR σ F []
 |cons {k:Nat} {x y:AV} {G:C5} (hx:lk F k=some x) (hr:RinC σ [] x y) (t:SubR σ F G):SubR σ F ((k,y)::G)
theorem SubR.get{σ:List Nat}{G:C5}(h:SubR σ F G):∀k y,lk G k=some y→∃x,lk F k=some x∧Ren true σ [] x y:=by
 induction h with
 |nil=>intro k y hy;simp[lk]at hy
 |cons hx hr t ih=>
  intro k y hy;rw[J7]at hy;split at hy
  ·rename_i hk;subst hk;cases hy;exact⟨_,hx,hr.s⟩
  ·exact ih k y hy
instance{n m c:Nat}{x:List AV} [h:OKL n m x]:OKR n m (List.replicate c x):=⟨fun r hr=>by rw[Abk hr];exact h.ok⟩
theorem Av2{f:FuncId}{fn:Func}{K:List Item}{G:C5}{bx bx2:List (List (List AV))}(σ:List Nat)(hk:AK X ⟨f,fn,0,0⟩ K G ⟨bx2,[]⟩ R)(hG:SubR σ F G)(hS:S=⟨bx,[]⟩)(hn:Kh σ=true)(hl:σ.length=bx.length)(hlt:(σ.all fun i=>Nat.blt i bx.length)=true)(hal:((List.range bx.length).all fun i=>σ.contains i)=true)
 {bx3:List (List (List AV))}(hsb:(σ.map fun i=>bx.getD i [])=bx3:=by rfl) [hb:RinB σ [] bx3 bx2]:AK X ⟨f,fn,0,0⟩ K F S R:=by
 subst hS;subst hsb;intro E w a b cs hI hF _ _ hbf;have nt0:E.toks=[]:=by have:=hI.nt;simpa using this
 have hσ:=Od hn;have hσl:∀i,i∈σ→i<bx.length:=fun i hi=>by have:=zzq48.1 hlt i hi;simpa[Fw]using this
 have hτl:∀t,t∈([]:List Nat)→t<E.toks.length:=fun t h=>by cases h
 have hI2:=(hI.sub (Sc:=⟨bx2,[]⟩) hσ List.nodup_nil hτl hb.s hσl rfl).dfE E.df;have hall:∀i,i<bx.length→i∈σ:=by
  intro i hi;have:=zzq48.1 hal i (zzq53.2 hi);exact List.contains_iff_mem.1 this
 have hown:∀b,E.own b↔E.ownS σ [] b:=fun b=>by
  constructor
  ·rintro(⟨i,s,h⟩|⟨t,l,c,s,h⟩)
   ·have:=Aa h;rw[hI.nb]at this;exact .inl ⟨i,s,hall i this,h⟩
   ·rw[nt0]at h;simp at h
  ·exact O3
 have hfr:((E.sub σ []).dfs E.df).fr=E.fr:=by
  funext b o;apply propext;show (E.mt b o∧¬E.ownS σ [] b)↔E.fr b o;constructor
  ·rintro⟨h,hn⟩;rcases Aad hI h with h'|h'
   ·exact absurd ((hown b).1 h') hn
   ·exact h'
  ·exact fun h=>⟨.inl h,fun ho=>(hI.frlt b o h).1 ((hown b).2 ho)⟩
 have ev:Evol E w ((E.sub σ []).dfs E.df) w 0 0:=
  ⟨hfr,fun i hi=>absurd hi (Va _),fun t ht=>absurd ht (Va _),rfl,rfl,rfl,Bo _,fun _ _ _=>rfl,fun _ _ _ _ h=>h,fun b o _ h=>Sz hτl h,fun b _ h=>O3 ((Pv hτl).1 h),rfl,fun _ _ h=>h,fun t ht=>absurd ht (Va _)⟩
 refine Fin.from (Steps.refl _ _) ev (hk _ w a b cs hI2 ⟨hF.size,hF.nod,fun k y hy=>?_⟩ (B3 _) (B3 _) hbf);obtain⟨x,hx,hr⟩:=hG.get k y hy;obtain⟨v,hv,hrel⟩:=hF.rel k x hx;exact⟨v,hv,(hr.fwd (Eb:=(E.sub σ []).dfs E.df) (fun b o h=>Sz hτl h) (fun i j q h1 h2=>(I8 (E:=E) (σ:=σ) (τ:=[])).2 ⟨i,h1,h2⟩) (fun i j k h1 h2=>by simp at h1) hrel)⟩
end
end Go.V
