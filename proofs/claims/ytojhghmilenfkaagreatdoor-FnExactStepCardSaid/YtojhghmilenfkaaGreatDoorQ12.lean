/- A part of the proof of the claim that the last text states: no condition of its own. -/
import Derived.Test.YtojhghmilenfkaaGreatDoorQ11
set_option linter.unusedVariables false
set_option linter.unusedSimpArgs false
namespace Go.V
open Go Go.Proofs Go.Proofs.Tryz
def G2(k:Int):Int:=if k=2∨k=21∨k=23∨k=26 then 31 else if k=3∨k=4∨k=22 then 32 else 0
theorem Azn(n:Nd):Pure X 269 [nd n] (vi (G2 n.kind)):=by
 refine Pure.run func269 ?_
 repeat' (refine Ai (fun _=>?_) (fun _=>?_))
 all_goals first|refine Az func269 ?_|(refine Ay ?_;refine Az func269 ?_)
 all_goals (simp_all [G2,De])
theorem Aky(s:Ad):Pure X 166 [str s] (.fn 226 [.cptr [str s]]):=by
 refine Pure.mk func166 rfl rfl (by kernel_rfl) ?_;refine K9 0 100 rfl ?_;refine Ba 1 rfl ?_;refine Bs (Ac4 (x:=str s)) ?_;exact Ao func166 rfl
theorem Agf(x:Nd)(s:Ad):Pure X 226 [nd x,.cptr [str s]] (vb (x.name==s)):=by
 refine Pure.run func226 ?_;exact Ao func226 rfl
def Xy(l:List Nd)(s:Ad):Int:=Ky (fun d=>d.name==s) 0 l
mutual
def Nv(hit:Nd→Bool):Nd→Option (List UInt8)
 |.mk k s m ks=>if hit (.mk k s m ks)then some s else Xt hit ks
def Xt(hit:Nd→Bool):List Nd→Option (List UInt8)
 |[]=>none
 |x::l=>match Nv hit x with
  |some s=>some s
  |none=>Xt hit l
end
theorem Wa(hit:Nd→Bool)(n:Nd):Nv hit n=if hit n then some n.name else Xt hit n.kids:=by cases n;rw[Nv];rfl
def trC(code:Int)(o:Option Ad):Int:=match o with
 |some _=>code
 |none=>0
abbrev trV(code:Int)(o:Option Ad):AV:=.agg [vi (trC code o),str (o.getD [])]
set_option maxHeartbeats 1000000 in
theorem Apl(l:List Nd)(code:Int)(hc:code≠0)(g:FuncId)(caps:An)(hit:Nd→Bool)(Q:Nd→Prop)(hl:l.length≤1000000000) [hok:OKL 0 0 caps](hcat:∀xs,Jt xs caps=some (xs++caps))
 (hQ:∀x,Q x→(G2 x.kind=0→hit x=false)∧(G2 x.kind≠0→Pure X g (vi (G2 x.kind)::vi (Xy l x.name)::caps) (vb (hit x)))∧∀k,k∈x.kids→hit x=false→Q k)(n:Nd)(hn:Al n≤1000000000)(hq:Q n) :
 Pure X 227 [.sl (Av l) .no,nd n,vi code,.fn g caps] (trV code (Nv hit n)):=by
 have hok2:OKL 2 0 caps:=⟨fun x hx=>(hok.ok x hx).mono (by omega) (by omega)⟩
 have hfl:Sw X.P 150=some [0,1]:=by kernel_rfl
 induction n using Nd.ind with
 |h n ih=>
  have hcn:=Co n;have hll:=Bq n.kids;obtain⟨hq0,hq1,hq2⟩:=hQ n hq;have hloop:hit n=false→AK X ⟨227,f227,0,0⟩ (J6 false 4 f227) [(0,.sl (Av l) .no),(2,vi code),(3,.fn g caps),(5,.ptr 0 0 0),(8,.ptr 1 0 0)] ⟨[[Ag n],[[vi 0,str []]]],[]⟩
   (fun e S=>e=.ret (trV code (Nv hit n))∧S=⟨[],[]⟩):=fun hf=>by
   rw[Wa,if_neg (by simp[hf])];refine Dj ?_;refine Ba 100 rfl ?_;refine Ar (ι:=Nat) 2 0 (fun i=>i≤n.kids.length∧Xt hit n.kids=Xt hit (n.kids.drop i)) (fun i=>[(34,vi i),(33,vi n.kids.length),(32,.sl (Av n.kids) .no),(0,.sl (Av l) .no),(2,vi code),(3,.fn g caps),(5,.ptr 0 0 0),(8,.ptr 1 0 0)])
    (fun _=>⟨[[Ag n],[[vi 0,str []]]],[]⟩) (fun i=>n.kids.length-i) ?_ 0 ⟨Cb _,rfl⟩ ⟨rfl,by rw[←Ae n.kids];rfl,rfl,rfl,rfl,rfl,rfl,rfl,trivial⟩
   rintro i ⟨hi,hTi⟩ IH;refine Cp (fun h=>?_) (fun h=>?_)
   ·have hlt:i<n.kids.length:=by have:=A6 h;omega
    obtain⟨x,hx⟩:=Ab n.kids hlt;have hm:=Bn hx;rw[Bp hx]at hTi;simp only[Xt]at hTi;refine Bv i (by omega) (Ap hx) ?_;refine Aj (ih x hm (by have:=Fc hm;omega) (hq2 x hm hf)) ?_;generalize Nv hit x=o at hTi⊢;refine Bs (Vz (r:=!((trC code o==0)&&((o.getD []==[])&&true))) rfl rfl rfl rfl rfl hfl rfl (.inr ⟨rfl,rfl⟩)) ?_;cases o with
    |some s=>
     simp only at hTi;refine Ay ?_ (ht:=by simp[trC,hc]);refine Ao func227 ?_;rw[hTi]
    |none=>
     simp only at hTi;refine Ah ?_;exact IH (i+1) ⟨hlt,hTi⟩ (by omega) _ _ ⟨vsx (by omega),rfl,rfl,rfl,rfl,rfl,rfl,rfl,trivial⟩ rfl rfl rfl
   ·have hie:i=n.kids.length:=by have:=Bd h;omega
    rw[hie,Hr]at hTi;refine Ao func227 ?_;rw[hTi];rfl
  refine Pure.run func227 ?_;refine Aj (Azn n) ?_;refine Db (fun h1=>?_) (fun h1=>?_)
  ·have h1':G2 n.kind≠0:=by have:(!(G2 n.kind==0))=true:=h1;simpa using this
   refine Aj (Aky n.name) ?_;refine Aj (Ad8 l 226 [.cptr [str n.name]] (fun d=>d.name==n.name) hl (fun x _=>Agf x n.name) (Atm _)) ?_;refine Aj (hq1 h1') ?_ (hzs:=hcat _);refine Ec 0 4 (fun h2=>?_) (fun h2=>?_)
   ·have h2':hit n=true:=h2;rw[Wa,if_pos h2'];exact Ao func227 rfl
   ·exact Br 2 0 (hloop h2) ⟨rfl,rfl,rfl,rfl,rfl,trivial⟩ rfl rfl rfl rfl rfl
  ·have h1':G2 n.kind=0:=by have:(!(G2 n.kind==0))=false:=h1;simpa using this
   refine Ec (e:=false) 0 4 (fun h2=>nomatch h2) (fun _=>?_);exact Br 2 0 (hloop (hq0 h1')) ⟨rfl,rfl,rfl,rfl,rfl,trivial⟩ rfl rfl rfl rfl rfl
def Nw(l:List Nd)(x:Nd):Bool:=!(G2 x.kind==0)&&decide (Xy l x.name<0)
def Wy(l:List Nd)(x:Nd):Bool:=!(G2 x.kind==0)&&!((l.getD (Xy l x.name).toNat Cm).kind==G2 x.kind)
theorem Avl(a b:Int):Pure X 228 [vi a,vi b] (vb (decide (b<0))):=by
 refine Pure.run func228 ?_;exact Ao func228 rfl
theorem Avm(l:List Nd)(a b:Int)(h0:0≤b)(h1:b<l.length):Pure X 229 [vi a,vi b,.cptr [.sl (Av l) .no]] (vb (!((l.getD b.toNat Cm).kind==a))):=by
 obtain⟨x,hx⟩:=Ab l (i:=b.toNat) (by omega);have:l.getD b.toNat Cm=x:=by simp[List.getD,hx]
 rw[this];refine Pure.run func229 ?_;refine Bv b h0 (Ap hx) ?_;exact Ao func229 rfl
theorem Aos{p:Nd→Bool}:∀{l:List Nd}{i:Nat},Ky p i l<((i+l.length:Nat):Int)
 |[],i=>by simp only[Ky];omega
 |x::l,i=>by
  simp only[Ky,N6];split
  ·omega
  ·have:=Aos (p:=p) (l:=l) (i:=i+1);omega
def Adz(l:List Nd)(n:Nd):Int×Ad:=match Nv (Nw l) n with
 |some s=>(7,s)
 |none=>(trC 8 (Nv (Wy l) n),(Nv (Wy l) n).getD [])
theorem Aai{hit:Nd→Bool}:∀{l:List Nd},Xt hit l=none→∀x,x∈l→Nv hit x=none
 |[],_,x,hx=>by cases hx
 |y::l,h,x,hx=>by
  simp only[Xt]at h;split at h
  ·cases h
  ·rename_i hy;rcases zzq8.1 hx with rfl|hx
   ·exact hy
   ·exact Aai h x hx
theorem Aiw(l:List Nd)(n:Nd)(hl:l.length≤1000000000)(hn:Al n≤1000000000):Pure X 167 [.sl (Av l) .no,nd n] (.agg [vi (Adz l n).1,str (Adz l n).2]):=by
 have hfl:Sw X.P 150=some [0,1]:=by kernel_rfl
 have h7:=Apl l 7 (by decide) 228 [] (Nw l) (fun _=>True) hl A11 (fun x _=>⟨fun h=>by simp[Nw,h],fun h=>by
  have:Nw l x=decide (Xy l x.name<0):=by simp[Nw,h]
  rw[this];exact Avl _ _,fun _ _ _=>trivial⟩) n hn trivial
 have h8:Nv (Nw l) n=none→Pure X 227 [.sl (Av l) .no,nd n,vi 8,.fn 229 [.cptr [.sl (Av l) .no]]] (trV 8 (Nv (Wy l) n)):=fun h0=>
  Apl l 8 (by decide) 229 [.cptr [.sl (Av l) .no]] (Wy l) (fun x=>Nv (Nw l) x=none) hl (Atm _) (fun x hx=>by
   rw[Wa]at hx;have hx7:Nw l x=false:=by
    cases h:Nw l x with
    |false=>rfl
    |true=>rw[h]at hx;simp at hx
   rw[hx7]at hx;refine⟨fun h=>by simp[Wy,h],fun h=>?_,fun k hk _=>Aai (by simpa using hx) k hk⟩;have:Wy l x=!((l.getD (Xy l x.name).toNat Cm).kind==G2 x.kind):=by simp[Wy,h]
   rw[this];have hlt:=Aos (p:=fun d=>d.name==x.name) (l:=l) (i:=0);have h0:¬Xy l x.name<0:=by
    intro hh;simp[Nw,h,hh]at hx7
   exact Avm l _ _ (by omega) (by simpa[Xy]using hlt)) n hn h0
 unfold Adz;refine Pure.mk func167 rfl rfl (by kernel_rfl) ?_;refine K9 0 100 rfl ?_;refine Ba 1 rfl ?_;refine Bs (Ac4 (x:=.sl (Av l) .no)) ?_;refine Aj h7 ?_;generalize Nv (Nw l) n=o at h8⊢;refine Bs (Vz (r:=!((trC 7 o==0)&&((o.getD []==[])&&true))) rfl rfl rfl rfl rfl hfl rfl (.inr ⟨rfl,rfl⟩)) ?_;cases o with
 |some s=>
  refine Ay ?_;exact Ao func167 rfl
 |none=>
  refine Ah ?_;refine Aj (h8 rfl) ?_;exact Ao func167 rfl
inductive PlO:Nd→Prop where
 |mk (k:Int) (s:List UInt8) (m:Int) (ks:List Nd) (hk:∀x,x∈ks→PlO x)
   (hf:∀x,x∈ks→x.kind=26→∃a b k' s' m' l,x.kids=[a,b,.mk k' s' m' l]∧a.kind≠26∧b.kind≠26∧k'≠26):PlO (.mk k s m ks)
theorem PlO.kids{n:Nd}(h:PlO n):(∀x,x∈n.kids→PlO x)∧∀x,x∈n.kids→x.kind=26→∃a b k' s' m' l,x.kids=[a,b,.mk k' s' m' l]∧a.kind≠26∧b.kind≠26∧k'≠26:=by
 cases h with|mk k s m ks hk hf=>exact⟨hk,hf⟩
theorem PlO.leaf{k:Int}{s:Ad}{m:Int}:PlO (.mk k s m []):=.mk k s m [] (fun x h=>by cases h) (fun x h=>by cases h)
theorem Xm{n:Nd}(h:FE n):PlO n:=by
 induction h with
 |num m h0 h1=>exact .leaf
 |var s h=>exact .leaf
 |cell s a h ha ih=>exact .mk _ _ _ _ (fun x hx=>by simp at hx;subst hx;exact ih) (fun x hx h26=>by simp at hx;subst hx;have:=C7 ha;omega)
 |len s h=>exact .leaf
 |neg a ha ih=>exact .mk _ _ _ _ (fun x hx=>by simp at hx;subst hx;exact ih) (fun x hx h26=>by simp at hx;subst hx;have:=C7 ha;omega)
 |two k a b hk ha hb iha ihb=>
  exact .mk _ _ _ _ (fun x hx=>by simp at hx;rcases hx with rfl|rfl;exact iha;exact ihb) (fun x hx h26=>by
   simp at hx;rcases hx with rfl|rfl
   ·have:=C7 ha;omega
   ·have:=C7 hb;omega)
theorem Uk{n:Nd}(h:FC n):PlO n:=by
 cases h with
 |mk k a b h0 h1 ha hb=>
  exact .mk _ _ _ _ (fun x hx=>by simp at hx;rcases hx with rfl|rfl;exact Xm ha;exact Xm hb) (fun x hx h26=>by
   simp at hx;rcases hx with rfl|rfl
   ·have:=C7 ha;omega
   ·have:=C7 hb;omega)
theorem Qz{l:List Nd}(hl:∀x,x∈l→FS x)(h:∀x,x∈l→PlO x):PlO (.mk 30 [] 0 l):=
 .mk _ _ _ _ h fun x hx h26=>by
  have:=hl x hx;cases this with
  |for_ s a b l' hs ha hb hl'=>exact⟨a,b,30,[],0,l',rfl,by have:=C7 ha;omega,by have:=C7 hb;omega,by omega⟩
  |_=>simp at h26
theorem Ahk{n:Nd}(h:FS n):PlO n:=by
 induction h with
 |set s a h ha=>exact .mk _ _ _ _ (fun x hx=>by simp at hx;subst hx;exact Xm ha) (fun x hx h26=>by simp at hx;subst hx;have:=C7 ha;omega)
 |put s a b h ha hb=>
  exact .mk _ _ _ _ (fun x hx=>by simp at hx;rcases hx with rfl|rfl;exact Xm ha;exact Xm hb) (fun x hx h26=>by
   simp at hx;rcases hx with rfl|rfl
   ·have:=C7 ha;omega
   ·have:=C7 hb;omega)
 |read s h=>exact .leaf
 |ifs c l l' hc hl hl' ihl ihl'=>
  exact .mk _ _ _ _ (fun x hx=>by simp at hx;rcases hx with rfl|rfl|rfl;exact Uk hc;exact Qz hl ihl;exact Qz hl' ihl') (fun x hx h26=>by
   simp at hx;rcases hx with rfl|rfl|rfl
   ·have:=Kf hc;omega
   ·simp at h26
   ·simp at h26)
 |whil c l hc hl ihl=>
  exact .mk _ _ _ _ (fun x hx=>by simp at hx;rcases hx with rfl|rfl;exact Uk hc;exact Qz hl ihl) (fun x hx h26=>by
   simp at hx;rcases hx with rfl|rfl
   ·have:=Kf hc;omega
   ·simp at h26)
 |for_ s a b l h ha hb hl ihl=>
  exact .mk _ _ _ _ (fun x hx=>by simp at hx;rcases hx with rfl|rfl|rfl;exact Xm ha;exact Xm hb;exact Qz hl ihl) (fun x hx h26=>by
   simp at hx;rcases hx with rfl|rfl|rfl
   ·have:=C7 ha;omega
   ·have:=C7 hb;omega
   ·simp at h26)
 |check c hc=>exact .mk _ _ _ _ (fun x hx=>by simp at hx;subst hx;exact Uk hc) (fun x hx h26=>by simp at hx;subst hx;have:=Kf hc;omega)
 |skip=>exact .leaf
 |stop=>exact .leaf
theorem A1h{n:Nd}(h:FP n):PlO n:=by
 cases h with
 |mk ds l hd hl=>
  refine .mk _ _ _ _ (fun x hx=>?_) (fun x hx h26=>?_)
  ·rcases zzq26.1 hx with h|h
   ·cases hd x h with
    |var s h=>exact .leaf
    |arr s m h h0 h1=>exact .leaf
   ·simp at h;subst h;exact Qz hl fun x hx=>Ahk (hl x hx)
  ·rcases zzq26.1 hx with h|h
   ·have:=Acd (hd x h);omega
   ·simp at h;subst h;simp at h26
abbrev Aye(s:Ad):Nd:=.mk 21 s 0 [.mk 6 [] 0 [.mk 2 s 0 [],.mk 1 [] 1 []]]
def HPl(n:Nd):Prop:=Hands X 56 [nd n] ⟨[],[]⟩ (.agg [vi n.kind,str n.name,vi n.num,.sl (Av (B4 n.kids)) (.tok 0)]) ⟨[],[(B4 n.kids).length]⟩
theorem HPl.pure{n:Nd}(h:HPl n):Pure X 56 [nd n] (nd (Be n)):=by
 have:=Hands.pure h;obtain⟨k,s,m,ks⟩:=n;rw[Bi];exact this
theorem Avy(xs:Ad)(a' b':Nd)(k':Int)(s':Ad)(m':Int)(l':List Nd):Av [.mk 21 xs 0 [a'],.mk 25 [] 0 [.mk 11 [] 0 [.mk 2 xs 0 [],b'],.mk k' s' m' l']] =
 [[vi 21,str xs,vi 0,.sl [Ag a'] .no],[vi 25,str [],vi 0,.sl [[vi 11,str [],vi 0,.sl [[vi 2,str xs,vi 0,.sl [] .no],Ag b'] .no],[vi k',str s',vi m',.sl (Av l') .no]] .no]]:=by
 have e1:Av [a']=[Ag a']:=Ax _;have e2:Av [.mk 2 xs 0 [],b']=[Ag (.mk 2 xs 0 []),Ag b']:=Ax _;have e3:Av [.mk 11 [] 0 [.mk 2 xs 0 [],b'],.mk k' s' m' l']=[Ag (.mk 11 [] 0 [.mk 2 xs 0 [],b']),Ag (.mk k' s' m' l')]:=Ax _;have e4:Av [.mk 21 xs 0 [a'],.mk 25 [] 0 [.mk 11 [] 0 [.mk 2 xs 0 [],b'],.mk k' s' m' l']]=[Ag (.mk 21 xs 0 [a']),Ag (.mk 25 [] 0 [.mk 11 [] 0 [.mk 2 xs 0 [],b'],.mk k' s' m' l'])]:=Ax _;rw[e4];simp only[Ag,Nn,Wl,Aa2,G4,e1,e3,e2];rfl
set_option maxHeartbeats 2000000 in
theorem At5(n:Nd)(ih:∀x,x∈n.kids→PlO x→wN x≤1000000000→HPl x)(ih2:∀x,x∈n.kids→∀y,y∈x.kids→PlO y→wN y≤1000000000→HPl y)(hp:PlO n)(hw:wN n≤1000000000):HPl n:=by
 have hkl:=Ho n;obtain⟨hk,hf⟩:=hp.kids;unfold HPl;refine Hands.run func56 ?_;refine E6 2 0 3 rfl rfl rfl rfl rfl rfl ?_;refine Ar (ι:=Nat) 3 1 (fun i=>i≤n.kids.length) (fun i=>[(20,vi i),(19,vi n.kids.length),(18,.sl (Av n.kids) .no),(1,.ptr 0 0 0),(2,.ptr 1 0 0),(3,.ptr 2 0 0)])
  (fun i=>⟨[[Ag n],[zN],[[vi n.kind,str n.name,vi n.num,.sl (Av (B4 (n.kids.take i))) (.tok 0)]]],[(B4 (n.kids.take i)).length]⟩) (fun i=>n.kids.length-i) ?_ 0
  (Cb _) ⟨rfl,by rw[←Ae n.kids];rfl,rfl,rfl,rfl,rfl,trivial⟩ (by simp[A9];rfl)
 intro i hi IH;refine Cp (fun h=>?_) (fun h=>?_)
 ·have hlt:i<n.kids.length:=by have:=A6 h;omega
  obtain⟨x,hxg⟩:=Ab n.kids hlt;have hm:=Bn hxg;have hwx:wN x<wN n:=Jx hm;have hsn:B4 (n.kids.take (i+1))=B4 (n.kids.take i)++Hj x:=by rw[Hq,hxg,Vk];simp[Au,A9]
  have hl1:=M9 (B4 (n.kids.take i));have hl2:=Wm (n.kids.take i);have hwk:wL n.kids≤wN n:=by rw[Xf];omega
  have hl3:wL (n.kids.take i)≤wL n.kids:=by
   have:=Vr (n.kids.take i) (n.kids.drop i);rw[Ag9]at this;omega
  refine Bv i (by omega) (Ap hxg) ?_;refine Ec 0 8 (fun h2=>?_) (fun h2=>?_)
  ·have h2':x.kind≠26:=by have:(!(x.kind==26))=true:=h2;simpa using this
   have hr:=(ih x hm (hk x hm) (by omega)).pure;rw[Bj h2']at hsn;refine Hb 160 3 ?_;refine B2 hr ?_;refine C4 (Cn (res:=Av (B4 (n.kids.take (i+1)))) rfl rfl rfl rfl rfl rfl rfl rfl rfl rfl rfl rfl rfl rfl (Ae _) (E9 _) rfl rfl rfl ?_ ?_ rfl) ?_
   ·rw[Ae];simp;omega
   ·rw[hsn,Ax,Ax,Jp];rfl
   refine A0 ?_;refine C4 (Bg rfl rfl rfl rfl rfl rfl rfl) ?_;refine Bu ?_;refine IH (i+1) hlt (by omega) _ _ ⟨vsx (by omega),rfl,rfl,rfl,rfl,rfl,trivial⟩ ?_ rfl rfl;simp[St.drop,Ae,hsn]
  ·have h2':x.kind=26:=by have:(!(x.kind==26))=false:=h2;simpa using this
   obtain⟨a,b,k',s',m',l,hkx,ha,hb,hc⟩:=hf x hm h2';obtain⟨xk,xs,xm,xks⟩:=x;simp only[Nn,G4]at h2' hkx;subst h2';subst hkx;have hpx:=hk _ hm;have ma:a∈(Nd.mk 26 xs xm [a,b,.mk k' s' m' l]).kids:=by simp
   have mb:b∈(Nd.mk 26 xs xm [a,b,.mk k' s' m' l]).kids:=by simp
   have mc:Nd.mk k' s' m' l∈(Nd.mk 26 xs xm [a,b,.mk k' s' m' l]).kids:=by simp
   have wa:=Jx ma;have wb:=Jx mb;have wc:=Jx mc;have ra:=(ih2 _ hm a ma (hpx.kids.1 a ma) (by omega)).pure;have rb:=(ih2 _ hm b mb (hpx.kids.1 b mb) (by omega)).pure;have rc:=ih2 _ hm _ mc (hpx.kids.1 _ mc) (by omega);have hlc:=M9 (B4 l);have hlc2:=Wm l;have hlc3:wL l≤1000000000:=by
    have:=Xf (Nd.mk k' s' m' l);simp only[G4]at this;omega
   have hp1:Hj (.mk 26 xs xm [a,b,.mk k' s' m' l])=[.mk 21 xs 0 [Be a],.mk 25 [] 0 [.mk 11 [] 0 [.mk 2 xs 0 [],Be b],.mk k' s' m' (B4 l++[Aye xs])]]:=by
    rw[Lg,Au,Au,Au,A9,Bj ha,Bj hb,Bj (x:=.mk k' s' m' l) hc,Bi k'];rfl
   rw[hp1]at hsn;refine R8 4 0 3 (.sl [] .no) ?_;refine K9 9 100 rfl ?_;refine R8 5 0 3 (.sl (Av [.mk 2 xs 0 [],.mk 1 [] 1 []]) .no) ?_;refine Ba 100 rfl ?_;refine Bv 2 (by omega) (rows:=Av [a,b,.mk k' s' m' l]) (r:=Ag (.mk k' s' m' l)) rfl ?_;refine Af (τ':=[1]) [] [] rc ?_;refine Ajd 53 ?_;refine Bs (Cn (res:=Av (B4 l++[Aye xs])) rfl rfl rfl rfl rfl rfl rfl rfl rfl rfl rfl rfl rfl rfl (Ae _) (E9 _) rfl rfl rfl ?_ ?_ rfl) ?_
   ·rw[Ae];simp;omega
   ·show Av (B4 l)++Av [Aye xs]=_;rw[Aa0]
   refine Hb 768 3 ?_;refine Dk 1 (by omega) (Ae5 a b _) ?_;refine B2 rb ?_;refine Er (Me rfl rfl rfl) ?_ ?_
   ·exact Aq (Cy rfl rfl rfl) (Aq (Cy rfl rfl rfl) (Aq (Cy rfl rfl rfl) G6))
   refine C4 (Bg rfl rfl rfl rfl rfl rfl rfl) ?_;refine Alt 12 ?_;refine R8 7 0 3 (.sl [[vi 2,str xs,vi 0,.sl [] .no],Ag (Be b)] .no) ?_;refine Hb 327680 6 ?_;refine Dk 0 (by omega) (W4 a _) ?_;refine Hz ra ?_;refine Hy 6 ?_;refine Xl ?_;refine C4 (Cn (res:=Av (B4 (n.kids.take (i+1)))) rfl rfl rfl rfl rfl rfl rfl rfl rfl rfl rfl rfl rfl rfl (Ae _) (E9 _) rfl rfl rfl ?_ ?_ rfl) ?_
   ·rw[Ae];simp;omega
   ·rw[hsn,Aa0 (B4 (n.kids.take i)),Avy];rfl
   refine A0 ?_;refine C4 (Bg rfl rfl rfl rfl rfl rfl rfl) ?_;refine Bu ?_;refine IH (i+1) hlt (by omega) _ _ ⟨vsx (by omega),rfl,rfl,rfl,rfl,rfl,trivial⟩ ?_ rfl rfl;show St.mk [[Ag n],[zN],[[vi n.kind,str n.name,vi n.num,.sl (Av (B4 (n.kids.take (i+1)))) (.tok 0)]]] [(Av (B4 (n.kids.take i))).length+2]=_;rw[Ae,hsn];simp
 ·have hie:i=n.kids.length:=by have:=Bd h;omega
  subst hie;rw[Jh];exact Z4 func56 rfl rfl rfl rfl
theorem At4(n:Nd)(hp:PlO n)(hw:wN n≤1000000000):HPl n:=by
 have:∀n:Nd,(PlO n→wN n≤1000000000→HPl n)∧∀y,y∈n.kids→PlO y→wN y≤1000000000→HPl y:=by
  intro n
  induction n using Nd.ind with
  |h n ih=>exact⟨At5 n (fun x hx=>(ih x hx).1) (fun x hx y hy=>(ih x hx).2 y hy),fun y hy=>(ih y hy).1⟩
 exact(this n).1 hp hw
theorem Agi(n:Nd)(hp:PlO n)(hw:wN n≤1000000000):Pure X 56 [nd n] (nd (Be n)):=(At4 n hp hw).pure
theorem PrI.get{n:Nd}(h:PrI n):-9223372036854775808≤n.num∧n.num≤9223372036854775807∧∀x,x∈n.kids→PrI x:=by
 cases h with|mk k s m ks h0 h1 hk=>exact⟨h0,h1,hk⟩
theorem PrI.num1{k:Int}{s:Ad}{m:Int}{ks:List Nd}(h0:0≤m)(h1:m≤1)(hk:∀x,x∈ks→PrI x):PrI (.mk k s m ks):=.mk k s m ks (by omega) (by omega) hk
theorem Au8{x:Nd}(h:PrI x):∀y,y∈[x]→PrI y:=fun y hy=>by simp at hy;subst hy;exact h
theorem Ait{a b:Nd}(ha:PrI a)(hb:PrI b):∀y,y∈[a,b]→PrI y:=fun y hy=>by
 simp at hy;rcases hy with rfl|rfl
 ·exact ha
 ·exact hb
theorem A28(s:Ad):PrI (Aye s):=.num1 (by omega) (by omega) (Au8 (.num1 (by omega) (by omega) (Ait (.num1 (by omega) (by omega) (fun x h=>by cases h)) (.num1 (by omega) (by omega) (fun x h=>by cases h)))))
theorem Ay8(s:Ad)(l:List Nd)(h:∀x,x∈l→PrI x):∀y,y∈Ae3 s l→PrI y:=by
 unfold Ae3;split
 ·rename_i a b k' s' m' l';have ha:=h a (by simp);have hb:=h b (by simp);have hc:=(h (.mk k' s' m' l') (by simp)).get;refine Ait (.num1 (by omega) (by omega) (Au8 ha)) (.num1 (by omega) (by omega) (Ait (.num1 (by omega) (by omega) (Ait (.num1 (by omega) (by omega) (fun x h=>by cases h)) hb)) (.mk k' s' m' _ hc.1 hc.2.1 fun x hx=>?_)));rcases zzq26.1 hx with hx|hx
  ·exact hc.2.2 x hx
  ·simp at hx;subst hx;exact A28 s
 ·intro y hy;cases hy
theorem Au9:(∀n:Nd,PrI n→PrI (Be n)∧∀y,y∈Hj n→PrI y)∧∀l:List Nd,(∀x,x∈l→PrI x)→∀y,y∈B4 l→PrI y:=by
 refine Sd (fun k s m ks ih hp=>?_) (fun _ y hy=>by rw[A9]at hy;cases hy) (fun x l hx hl hp y hy=>?_)
 ·have hg:=hp.get;have h1:PrI (Be (.mk k s m ks)):=by rw[Bi];exact .mk k s m _ hg.1 hg.2.1 (ih hg.2.2)
  refine⟨h1,fun y hy=>?_⟩;by_cases hk:k=26
  ·subst hk;rw[Lg]at hy;exact Ay8 s _ (ih hg.2.2) y hy
  ·rw[Bj (x:=.mk k s m ks) hk]at hy;simp at hy;subst hy;exact h1
 ·rw[Au]at hy;rcases zzq26.1 hy with hy|hy
  ·exact(hx (hp x (by simp))).2 y hy
  ·exact hl (fun z hz=>hp z (by simp[hz])) y hy
theorem PrI.plain{n:Nd}(h:PrI n):PrI (Be n):=(Au9.1 n h).1
theorem Ale:∀{l:List Nd}{pre:List Ad},twG pre l=none→(∀d,d∈l→has pre d.name=false)∧∀x,x∈l→∀y,y∈l→x.name=y.name→x=y
 |[],pre,_=>⟨fun d h=>(by cases h),fun x h _ _ _=>(by cases h)⟩
 |d::l,pre,h=>by
  simp only[twG]at h;split at h
  ·cases h
  ·rename_i hd;obtain⟨h1,h2⟩:=Ale h;have h3:∀e,e∈l→has pre e.name=false∧d.name≠e.name:=fun e he=>by
    have:=h1 e he;rw[Aia,T6]at this;refine⟨this.1,fun hh=>?_⟩;have:=this.2;simp[has,hh]at this
   refine⟨fun e he=>?_,fun x hx y hy hxy=>?_⟩
   ·rcases zzq8.1 he with rfl|he
    ·simpa using hd
    ·exact(h3 e he).1
   ·rcases zzq8.1 hx with rfl|hx<;>rcases zzq8.1 hy with rfl|hy
    ·rfl
    ·exact absurd hxy (h3 y hy).2
    ·exact absurd hxy.symm (h3 x (by assumption)).2
    ·exact h2 x hx y hy hxy
theorem Wi(l:List Nd)(k:Int)(s:Ad):has (Fo l k) s=l.any fun d=>(d.kind==k)&&(d.name==s):=by
 induction l with
 |nil=>rfl
 |cons d l ih=>
  simp only[Fo,has,Ab3]at ih⊢;by_cases h:(d.kind==k)=true
  ·rw[if_pos h];simp only[Om,Aew,h,N5,ih]
  ·rw[if_neg h];have h':(d.kind==k)=false:=by simpa using h
   simp only[Aew,h',Bool.false_and,Bool.false_or,ih]
theorem Aj8(l:List Nd)(s:Ad):decide (Xy l s<0)=!(l.any fun d=>d.name==s):=by
 rw[←Y7 _ l 0];show decide (Xy l s<0)=!decide (Xy l s≥0);by_cases h:Xy l s<0
 ·rw[Ry h,Ks (show ¬Xy l s≥0 by omega)];rfl
 ·rw[Ks h,Ry (show Xy l s≥0 by omega)];rfl
theorem Px(k:Int):(G2 k=31∧Kv k=1)∨(G2 k=32∧Kv k=2)∨(G2 k=0∧Kv k=0):=by
 unfold G2 Kv
 repeat' split
 all_goals simp
theorem At6{l:List Nd}(hk:∀d,d∈l→d.kind=31∨d.kind=32)(s:Ad):(l.any fun d=>d.name==s)=(has (Fo l 31) s||has (Fo l 32) s):=by
 rw[Wi,Wi]
 induction l with
 |nil=>rfl
 |cons d l ih=>
  simp only[Aew];rw[ih fun e he=>hk e (by simp[he])];rcases hk d (by simp)with h|h<;>simp[h]
  ·cases (d.name==s)<;>simp
  ·cases (d.name==s)<;>simp[Bool.or_comm,Bool.or_left_comm]
theorem Ax2{l:List Nd}(hk:∀d,d∈l→d.kind=31∨d.kind=32)(x:Nd):Nw l x=Ih (Fo l 31) (Fo l 32) 7 x.kind x.name:=by
 unfold Nw Ih;rw[Aj8,At6 hk,U6,U6];rcases Px x.kind with⟨h1,h2⟩|⟨h1,h2⟩|⟨h1,h2⟩<;>simp[h1,h2]
theorem Ayd{p:Nd→Bool}{l:List Nd}(h:(l.any p)=true):∃d,d∈l∧p d=true∧l.getD (Ky p 0 l).toNat Cm=d:=by
 have h0:Ky p 0 l≠-1:=by
  intro e;have:=Y7 p l 0;rw[h,e]at this;simp at this
 obtain⟨j,d,h1,h2,h3,_⟩:=Aap h0;refine⟨d,Bn h2,h3,?_⟩;rw[h1];simp[List.getD,h2]
theorem Ax3{l:List Nd}(hk:∀d,d∈l→d.kind=31∨d.kind=32)(hu:∀x,x∈l→∀y,y∈l→x.name=y.name→x=y)(x:Nd)(h7:Nw l x=false):Wy l x=Ih (Fo l 31) (Fo l 32) 8 x.kind x.name:=by
 unfold Nw at h7;unfold Wy Ih;rw[Aj8]at h7;rw[U6,U6,Wi,Wi];by_cases hw:G2 x.kind=0
 ·rcases Px x.kind with⟨h1,h2⟩|⟨h1,h2⟩|⟨h1,h2⟩<;>simp[h1,h2]<;>omega
 ·have ha:(l.any fun d=>d.name==x.name)=true:=by
   simp[hw]at h7;simpa using h7
  obtain⟨d,hd,hn,hg⟩:=Ayd ha;have hn':d.name=x.name:=by simpa using hn
  have one:∀k:Int,(l.any fun e=>(e.kind==k)&&(e.name==x.name))=(d.kind==k):=fun k=>by
   cases hdk:(d.kind==k)with
   |true=>exact List.any_eq_true.2 ⟨d,hd,by simp[hdk,hn']⟩
   |false=>
    rw[List.any_eq_false];intro e he hh;simp at hh;have:=hu e he d hd (by rw[hh.2,hn']);subst this;simp at hdk;exact hdk hh.1
  have hgk:(l.getD (Xy l x.name).toNat Cm).kind=d.kind:=by rw[Xy,hg]
  rw[one,one,hgk];rcases Px x.kind with⟨h1,h2⟩|⟨h1,h2⟩|⟨h1,h2⟩<;>rcases hk d hd with h3|h3<;>simp[h1,h2,h3]
def oV(o:Option Ad):Ad×Bool:=match o with
 |some s=>(s,true)
 |none=>([],false)
theorem A4k{l:List Nd}(hk:∀d,d∈l→d.kind=31∨d.kind=32):(∀n:Nd,Hk (Fo l 31) (Fo l 32) 7 n=oV (Nv (Nw l) n))∧∀ks:List Nd,Nf (Fo l 31) (Fo l 32) 7 ks=oV (Xt (Nw l) ks):=by
 refine Sd (fun k s m ks ih=>?_) rfl (fun x ks hx hl=>?_)
 ·rw[Rv,Wa,Ax2 hk];by_cases hh:Ih (Fo l 31) (Fo l 32) 7 (Nd.mk k s m ks).kind (Nd.mk k s m ks).name=true
  ·rw[if_pos hh,if_pos hh];rfl
  ·rw[if_neg hh,if_neg hh];exact ih
 ·simp only[Nf,Xt];rw[hx];cases Nv (Nw l) x with
  |some s=>rfl
  |none=>simp[oV];exact hl
theorem A4l{l:List Nd}(hk:∀d,d∈l→d.kind=31∨d.kind=32)(hu:∀x,x∈l→∀y,y∈l→x.name=y.name→x=y) :
 (∀n:Nd,Nv (Nw l) n=none→Hk (Fo l 31) (Fo l 32) 8 n=oV (Nv (Wy l) n))∧∀ks:List Nd,Xt (Nw l) ks=none→Nf (Fo l 31) (Fo l 32) 8 ks=oV (Xt (Wy l) ks):=by
 refine Sd (fun k s m ks ih h0=>?_) (fun _=>rfl) (fun x ks hx hl h0=>?_)
 ·rw[Wa]at h0;have h7:Nw l (.mk k s m ks)=false:=by
   cases h:Nw l (.mk k s m ks)with
   |false=>rfl
   |true=>rw[h]at h0;simp at h0
  rw[h7]at h0;rw[Rv,Wa,Ax3 hk hu _ h7];by_cases hh:Ih (Fo l 31) (Fo l 32) 8 (Nd.mk k s m ks).kind (Nd.mk k s m ks).name=true
  ·rw[if_pos hh,if_pos hh];rfl
  ·rw[if_neg hh,if_neg hh];exact ih (by simpa using h0)
 ·have h1:=Aai h0 x (by simp);have h2:Xt (Nw l) ks=none:=by simp only[Xt,h1]at h0;exact h0
  simp only[Nf,Xt];rw[hx h1];cases Nv (Wy l) x with
  |some s=>rfl
  |none=>simp[oV];exact hl h2
theorem Ave(x:Nd):Pure X 165 [nd x] (vb (decide (60<x.num))):=by
 refine Pure.run func165 ?_;exact Ao func165 rfl
theorem P6(n:Nd)(k:Int):(Nu n k).length=(A3 n k).length:=by simp[Nu,A3,Fo]
theorem Amc{n:Nd}(hd:∀d,d∈n.kids.dropLast→FV d):((Nu n 32).any fun d=>decide (60<d.num))=bigS n.kids.dropLast:=by
 unfold Nu bigS;rw[Bool.eq_iff_iff];simp only[List.any_eq_true,zzq35,Mz,zzq34];constructor
 ·rintro⟨d,⟨h1,_⟩,h3⟩;exact⟨d,h1,h3⟩
 ·rintro⟨d,h1,h3⟩;refine⟨d,⟨h1,?_⟩,h3⟩;have:=hd d h1;cases this with
  |var s h=>simp at h3
  |arr s m h h0 h1=>rfl
theorem Asv{n:Nd}(h:FP n):n.kids≠[]∧∀d,d∈n.kids.dropLast→FV d:=by
 cases h with
 |mk ds l hd hl=>exact⟨by simp,by simpa using hd⟩
def Vl(n:Nd):Nd:=if (Fj n).1=0 then Be n else Cm
set_option maxHeartbeats 1000000 in
theorem Aza(n:Nd)(hn:Al n≤1000000000)(hnum:PrI n):Pure X 104 [nd n] (.tup [nd (Vl n),.agg [vi (Fj n).1,str (Fj n).2]]):=by
 have hfl:Sw X.P 150=some [0,1]:=by kernel_rfl
 refine Pure.run func104 ?_;refine Aj (Ak0 n hn hnum) ?_;refine Ai (fun h1=>?_) (fun h1=>?_)
 ·have h1':Dw n=false:=by have:(!Dw n)=true:=h1;simpa using this
  have hC:Fj n=(4,[]):=by unfold Fj;rw[if_neg (by simp[h1'])]
  unfold Vl;rw[hC];exact Ao func104 rfl
 have h1':Dw n=true:=by have:(!Dw n)=false:=h1;simpa using this
 obtain⟨fp,hc,hdp⟩:=Tp h1';obtain⟨hkn,hFV⟩:=Asv fp;have hw9:wN n≤4500:=by
  have:=Abe n (Z7 fp);omega
 have hcn:=Co n;have hll:=Bq n.kids;have hdl:n.kids.dropLast.length≤1000:=by rw[List.length_dropLast];omega
 have hkind:∀d,d∈n.kids.dropLast→d.kind=31∨d.kind=32:=fun d hd=>Acd (hFV d hd);have hfK:∀k,(Nu n k).length≤1000:=fun k=>Vt (Ag5 _ _) hdl;have e0:Fj n=Fj n:=rfl
 conv at e0=>rhs;rw[Fj,if_pos h1']
 refine Hb 0 1 ?_;refine B2 (Apk n hkn (by omega)) ?_;refine B2 (Tr n 32 hkn (by omega)) ?_;refine Bu ?_;refine Aj (Tr n 31 hkn (by omega)) ?_;refine Db (fun h2=>?_) (fun h2=>?_)
 ·have h2':8<(A3 n 31).length:=by have:=A6 h2;rw[Ae,P6]at this;omega
  have hC:Fj n=(3,[]):=by rw[e0,if_pos (by simp[Vd,h2'])]
  refine Ep ?_;refine Ay ?_;unfold Vl;rw[hC];exact Ao func104 rfl
 have h2':¬8<(A3 n 31).length:=by have:=Bd h2;rw[Ae,P6]at this;omega
 refine Db (fun h3=>?_) (fun h3=>?_)
 ·have h3':4<(A3 n 32).length:=by have:=A6 h3;rw[Ae,P6]at this;omega
  have hC:Fj n=(3,[]):=by rw[e0,if_pos (by simp[Vd,h3'])]
  refine Ay ?_;unfold Vl;rw[hC];exact Ao func104 rfl
 have h3':¬4<(A3 n 32).length:=by have:=Bd h3;rw[Ae,P6]at this;omega
 have hmany:¬Vd n=true:=by simp[Vd]<;>omega
 rw[if_neg hmany]at e0;have hbig:=Vm (Nu n 32) 165 [] (fun d=>decide (60<d.num)) (by have:=hfK 32;omega) (fun x _=>Ave x) A11;rw[Amc hFV]at hbig;refine Aj hbig ?_;refine Ai (fun h4=>?_) (fun h4=>?_)
 ·have h4':bigS n.kids.dropLast=true:=h4;have hC:Fj n=(3,[]):=by rw[e0,if_pos h4']
  unfold Vl;rw[hC];exact Ao func104 rfl
 have h4':¬bigS n.kids.dropLast=true:=by have:bigS n.kids.dropLast=false:=h4;simp[this]
 rw[if_neg h4']at e0;have htw:∀i,twG ((n.kids.dropLast.take i).map Nd.name) (n.kids.dropLast.drop i)=twG [] n.kids.dropLast→True:=fun _ _=>trivial;refine Ar (ι:=Nat) 3 0 (fun i=>i≤n.kids.dropLast.length∧twG ((n.kids.dropLast.take i).map Nd.name) (n.kids.dropLast.drop i)=twG [] n.kids.dropLast)
  (fun i=>[(36,vi i),(35,vi n.kids.dropLast.length),(34,.sl (Av n.kids.dropLast) .no),(4,.sl (Av n.kids.dropLast) .no),(1,.ptr 0 0 0),(2,.ptr 1 0 0),(3,.ptr 2 0 0)])
  (fun i=>⟨[[Ag n],[zN],[[vi 0,str []]]],[]⟩) (fun i=>n.kids.dropLast.length-i) ?_ 0 ⟨Cb _,rfl⟩ ⟨rfl,by rw[←Ae n.kids.dropLast];rfl,rfl,rfl,rfl,rfl,rfl,trivial⟩ rfl rfl rfl rfl rfl
  (fun _=>inferInstance) (fun _=>inferInstance)
 rintro i ⟨hi,hT⟩ IH;refine Cp (fun h5=>?_) (fun h5=>?_)
 ·have hlt:i<n.kids.dropLast.length:=by have:=A6 h5;omega
  obtain⟨d,hd⟩:=Ab n.kids.dropLast hlt;rw[Bp hd]at hT;simp only[twG]at hT;have hin:((Av n.kids.dropLast).take i).drop 0=Av (n.kids.dropLast.take i):=by rw[Ax,Ax,List.drop_zero,List.map_take]
  have hany:((n.kids.dropLast.take i).any fun e=>e.name==d.name)=has ((n.kids.dropLast.take i).map Nd.name) d.name:=by rw[has,List.any_map];rfl
  refine Bv i (by omega) (Ap hd) ?_;refine Hb 0 2 ?_;refine Als (fun S'=>Ace (l:=0) (h:=(i:Int)) (r:=Av (n.kids.dropLast.take i)) rfl rfl rfl rfl rfl rfl rfl rfl rfl (by omega) (by omega) (by rw[Ae];omega) (E9 _) (by rw[I3];exact hin)) ?_;refine B2 (Aky d.name) ?_;refine B2 (Vm (n.kids.dropLast.take i) 226 [.cptr [str d.name]] (fun e=>e.name==d.name) (by rw[Zz];omega) (fun x _=>Agf x d.name) (Atm _)) ?_;refine Bu ?_;refine Ai (fun h6=>?_) (fun h6=>?_)
  ·have h6':has ((n.kids.dropLast.take i).map Nd.name) d.name=true:=by rw[←hany];exact h6
   rw[if_pos h6']at hT;have hC:Fj n=(6,d.name):=by rw[e0,←hT]
   refine Hb 48 4 ?_;refine Er (Bg rfl rfl rfl rfl rfl rfl rfl) ?_ ?_
   ·exact Aq (Cy rfl rfl rfl) G6
   refine C4 (Bg rfl rfl rfl rfl rfl rfl rfl) ?_;refine Bu ?_;unfold Vl;rw[hC];exact Ao func104 rfl
  ·have h6':¬has ((n.kids.dropLast.take i).map Nd.name) d.name=true:=by rw[←hany];simp[show _=false from h6]
   rw[if_neg h6']at hT;exact IH (i+1) ⟨hlt,by rw[Hq,hd,Jp];exact hT⟩ (by omega) _ _ ⟨vsx (by omega),rfl,rfl,rfl,rfl,rfl,rfl,trivial⟩ rfl rfl rfl
 have hie:i=n.kids.dropLast.length:=by have:=Bd h5;omega
 rw[hie,Hr]at hT;have hT':twG [] n.kids.dropLast=none:=hT.symm;rw[hT']at e0;simp only at e0;obtain⟨_,huq⟩:=Ale hT';have w7:=(A4k hkind).1 (Dy n);have w8:=(A4l hkind huq).1 (Dy n);have hdS:∀k,A3 n k=Fo n.kids.dropLast k:=fun k=>rfl;rw[hdS,hdS,w7]at e0;have hlc:Al (Dy n)≤1000:=by
  unfold Dy;cases hg:n.kids.getLast? with
  |none=>rw[Alk,hg];decide
  |some b=>
   rw[Alk,hg];have:=Fc (List.mem_of_getLast? hg);simp only[Option.getD_some];omega
 refine Aj (Avc n hkn (by omega)) ?_;refine Aj (Aiw n.kids.dropLast (Dy n) (by omega) (by omega)) ?_;have hnt:Adz n.kids.dropLast (Dy n)=match Nv (Nw n.kids.dropLast) (Dy n)with
  |some s=>(7,s)
  |none=>(trC 8 (Nv (Wy n.kids.dropLast) (Dy n)),(Nv (Wy n.kids.dropLast) (Dy n)).getD []):=rfl
 generalize Adz n.kids.dropLast (Dy n)=T at hnt⊢;refine Bs (Vz (r:=!((T.1==0)&&((T.2==[])&&true))) rfl rfl rfl rfl rfl hfl rfl (.inr ⟨rfl,rfl⟩)) ?_;by_cases hz:Nv (Nw n.kids.dropLast) (Dy n)=none∧Nv (Wy n.kids.dropLast) (Dy n)=none
 ·rw[hz.1,hz.2]at hnt;rw[w8 hz.1,hz.1,hz.2]at e0;simp only[oV,trC]at hnt e0;subst hnt;refine Ah ?_;refine Aj (Agi n (A1h fp) (by omega)) ?_;have hpw:=(Qe n).1;have hpc:=Pi (Be n);refine Aj (Ak0 (Be n) (by omega) hnum.plain) ?_;refine Ai (fun h7=>?_) (fun h7=>?_)
  ·have h7':Dw (Be n)=false:=by have:(!Dw (Be n))=true:=h7;simpa using this
   have hC:Fj n=(5,[]):=by rw[e0];simp[h7']
   unfold Vl;rw[hC];exact Ao func104 rfl
  ·have h7':Dw (Be n)=true:=by have:(!Dw (Be n))=false:=h7;simpa using this
   have hC:Fj n=(0,[]):=by rw[e0];simp[h7']
   unfold Vl;rw[hC];exact Ao func104 rfl
 ·have hC:Fj n=T∧T.1≠0:=by
   cases h7:Nv (Nw n.kids.dropLast) (Dy n)with
   |some s=>
    rw[h7]at hnt e0;simp only[oV]at e0;rw[hnt,e0];simp
   |none=>
    rw[w8 h7]at e0;rw[h7]at hnt e0;cases h8:Nv (Wy n.kids.dropLast) (Dy n)with
    |none=>exact absurd ⟨h7,h8⟩ hz
    |some s=>
     rw[h8]at hnt e0;simp only[oV,trC]at e0 hnt;rw[hnt,e0];simp
  obtain⟨hC,hC0⟩:=hC;refine Ay ?_ (ht:=by simp[hC0]);refine Hb 12 2 ?_;refine Er (Bg rfl rfl rfl rfl rfl rfl rfl) ?_ ?_
  ·exact Aq (Cy rfl rfl rfl) G6
  refine C4 (Bg rfl rfl rfl rfl rfl rfl rfl) ?_;refine Bu ?_;unfold Vl;rw[hC,if_neg hC0];exact Ao func104 rfl
structure Eg where
 f:Int
 t:Int
 k:Int
 y:Bool
 n:Nd
structure Lp where
 a:Nd
 l:Nd
 h:Int
 x:Int
structure Gr where
 pts:Nat
 pt:Nat
 es:List Eg
 sts:List Nat
 lps:List Lp
 ver:Nat
def Pj(g:Gr):Gr:={ g with es:=g.es++[⟨g.pt,-1,7,false,Cm⟩],sts:=g.sts++[g.es.length],pts:=g.pts+1,pt:=g.pts }
def Dt(k:Int)(n:Nd)(g:Gr):Gr:={ g with es:=g.es++[⟨g.pt,g.pts,k,false,n⟩],pts:=g.pts+1,pt:=g.pts }
def Ei(p:Nat)(c:Nd)(y:Bool)(g:Gr):Gr:={ g with es:=g.es++[⟨p,g.pts,4,y,c⟩],pts:=g.pts+1,pt:=g.pts }
def Jd(f t:Nat)(g:Gr):Gr:={ g with es:=g.es++[⟨f,t,6,false,Cm⟩] }
def Oi(p:Nat)(g:Gr):Gr:={ Jd g.pt g.pts (Jd p g.pts g)with pts:=g.pts+1,pt:=g.pts }
def gIf(c:Nd)(f1 f2:Gr→Gr)(g:Gr):Gr:=Oi (f1 (Ei g.pt c true g)).pt (f2 (Ei g.pt c false (f1 (Ei g.pt c true g))))
def Ic(a n:Nd)(g:Gr):Gr:={ g with lps:=g.lps++[⟨a,n,g.pt,0⟩],ver:=g.ver+1 }
def Uy(i:Nat)(g:Gr):Gr:={ g with lps:=g.lps.modify i fun l=>{ l with x:=g.pt },ver:=g.ver+1 }
def Ln(h:Nat)(g:Gr):Gr:=Jd g.pt h g
def gWh(n a c:Nd)(f:Gr→Gr)(g:Gr):Gr:=
 Uy g.lps.length (Ei g.pts c false (Ln g.pts (f (Ei g.pts c true (Ic a n (Dt 6 Cm g))))))
def gKs(k:Int)(n:Nd)(ks:List Nd)(fs:List (Gr→Gr))(a:Nd)(g:Gr):Gr:=
 if k=21 then Dt 1 n g else if k=22 then Dt 2 n g else if k=23 then Dt 3 n g else if k=27 then Dt 5 (ks.headD Cm) g else if k=28 then Dt 6 Cm g
 else if k=29 then Pj g else if k=24 then gIf (ks.headD Cm) (fs.getD 1 id) (fs.getD 2 id) g else gWh n a (ks.headD Cm) (fs.getD 1 id) g
def goL:List (Nd×(Nd→Gr→Gr)×(Gr→Gr))→Nd→Gr→Gr
 |[],_,g=>g
 |(x,f,_)::l,a,g=>goL l x (f a g)
mutual
def gN:Nd→Nd×(Nd→Gr→Gr)×(Gr→Gr)
 |.mk k s m ks=>(.mk k s m ks,gKs k (.mk k s m ks) ks ((gNs ks).map fun x=>x.2.2),goL (gNs ks) Cm)
def gNs:List Nd→List (Nd×(Nd→Gr→Gr)×(Gr→Gr))
 |[]=>[]
 |x::l=>gN x::gNs l
end
def gS(n a:Nd)(g:Gr):Gr:=(gN n).2.1 a g
def gL:List Nd→Nd→Gr→Gr
 |[],_,g=>g
 |x::l,a,g=>gL l x (gS x a g)
theorem T3(k:Int)(s:Ad)(m:Int)(ks:List Nd):gN (.mk k s m ks)=(.mk k s m ks,gKs k (.mk k s m ks) ks ((gNs ks).map fun x=>x.2.2),goL (gNs ks) Cm):=by rw[gN]
theorem Axz(x:Nd):(gN x).1=x:=by obtain⟨k,s,m,ks⟩:=x;rw[T3]
theorem Q8(x:Nd)(l:List Nd):gNs (x::l)=gN x::gNs l:=by rw[gNs]
theorem Ah4:gNs []=[]:=by rw[gNs]
theorem Ah8:∀(l:List Nd)(a:Nd)(g:Gr),goL (gNs l) a g=gL l a g
 |[],a,g=>by rw[Ah4];rfl
 |x::l,a,g=>by
  rw[Q8];have h:gN x=(x,(gN x).2):=Prod.ext (Axz x) rfl;rw[h];simp only[goL,gL,gS];exact Ah8 l x _
theorem Y5(x:Nd)(l:List Nd)(a:Nd)(g:Gr):gL (x::l) a g=gL l x (gS x a g):=rfl
theorem Aty:∀(l l':List Nd)(a:Nd)(g:Gr),gL (l++l') a g=gL l' (l.getLastD a) (gL l a g)
 |[],l',a,g=>rfl
 |x::l,l',a,g=>by simp only[R1,Y5];rw[Aty l l' x];cases l<;>simp[gL,List.getLastD]
theorem Aam(s:Ad)(ks:List Nd)(a:Nd)(g:Gr):gS (.mk 21 s 0 ks) a g=Dt 1 (.mk 21 s 0 ks) g:=by unfold gS;rw[T3];rfl
theorem Aal(s:Ad)(ks:List Nd)(a:Nd)(g:Gr):gS (.mk 22 s 0 ks) a g=Dt 2 (.mk 22 s 0 ks) g:=by unfold gS;rw[T3];rfl
theorem Wc(s:Ad)(ks:List Nd)(a:Nd)(g:Gr):gS (.mk 23 s 0 ks) a g=Dt 3 (.mk 23 s 0 ks) g:=by unfold gS;rw[T3];rfl
theorem Q9(c a:Nd)(g:Gr):gS (.mk 27 [] 0 [c]) a g=Dt 5 c g:=by unfold gS;rw[T3];rfl
theorem We(a:Nd)(g:Gr):gS (.mk 28 [] 0 []) a g=Dt 6 Cm g:=by unfold gS;rw[T3];rfl
theorem Wg(a:Nd)(g:Gr):gS (.mk 29 [] 0 []) a g=Pj g:=by unfold gS;rw[T3];rfl
theorem Afy(c a:Nd)(l l':List Nd)(g:Gr):gS (.mk 24 [] 0 [c,.mk 30 [] 0 l,.mk 30 [] 0 l']) a g=gIf c (gL l Cm) (gL l' Cm) g:=by
 unfold gS;rw[T3,Q8,Q8,Q8,Ah4,T3 30,T3 30,funext fun g=>Ah8 l Cm g,funext fun g=>Ah8 l' Cm g];rfl
theorem Afz(c a:Nd)(l:List Nd)(g:Gr):gS (.mk 25 [] 0 [c,.mk 30 [] 0 l]) a g=gWh (.mk 25 [] 0 [c,.mk 30 [] 0 l]) a c (gL l Cm) g:=by
 unfold gS;rw[T3,Q8,Q8,Ah4,T3 30,funext fun g=>Ah8 l Cm g];rfl
inductive PS:Nd→Prop
 |set (s:List UInt8) (a:Nd) (h:nameS s=true) (ha:FE a):PS (.mk 21 s 0 [a])
 |put (s:List UInt8) (a b:Nd) (h:nameS s=true) (ha:FE a) (hb:FE b):PS (.mk 22 s 0 [a,b])
 |read (s:List UInt8) (h:nameS s=true):PS (.mk 23 s 0 [])
 |ifs (c:Nd) (l l':List Nd) (hc:FC c) (hl:∀x,x∈l→PS x) (hl':∀x,x∈l'→PS x):PS (.mk 24 [] 0 [c,.mk 30 [] 0 l,.mk 30 [] 0 l'])
 |whil (c:Nd) (l:List Nd) (hc:FC c) (hl:∀x,x∈l→PS x):PS (.mk 25 [] 0 [c,.mk 30 [] 0 l])
 |check (c:Nd) (hc:FC c):PS (.mk 27 [] 0 [c])
 |skip:PS (.mk 28 [] 0 [])
 |stop:PS (.mk 29 [] 0 [])
theorem Ps{l:List Nd}(h:∀x,x∈l→∀y,y∈Hj x→PS y):∀y,y∈B4 l→PS y:=by
 induction l with
 |nil=>intro y hy;rw[A9]at hy;cases hy
 |cons x l ih=>
  intro y hy;rw[Au]at hy;rcases zzq26.1 hy with hy|hy
  ·exact h x (by simp) y hy
  ·exact ih (fun z hz=>h z (by simp[hz])) y hy
theorem Ls(l:List Nd):Hj (.mk 30 [] 0 l)=[.mk 30 [] 0 (B4 l)]:=by rw[Bj (by simp),Bi]
theorem I8{a:Nd}(h:FE a):Hj a=[a]:=by rw[Bj (by have:=C7 h;omega),Vj h]
theorem Rk{a:Nd}(h:FC a):Hj a=[a]:=by rw[Bj (by have:=Kf h;omega),To h]
theorem A4t{n:Nd}(h:FS n):∀y,y∈Hj n→PS y:=by
 induction h with
 |set s a h ha=>intro y hy;rw[Bj (by simp),Bi,Au,A9,I8 ha]at hy;simp at hy;subst hy;exact .set s a h ha
 |put s a b h ha hb=>intro y hy;rw[Bj (by simp),Bi,Au,Au,A9,I8 ha,I8 hb]at hy;simp at hy;subst hy;exact .put s a b h ha hb
 |read s h=>intro y hy;rw[Bj (by simp),Bi,A9]at hy;simp at hy;subst hy;exact .read s h
 |ifs c l l' hc hl hl' ihl ihl'=>
  intro y hy;rw[Bj (by simp),Bi,Au,Au,Au,A9,Rk hc,Ls,Ls]at hy;simp at hy;subst hy;exact .ifs c _ _ hc (Ps ihl) (Ps ihl')
 |whil c l hc hl ihl=>
  intro y hy;rw[Bj (by simp),Bi,Au,Au,A9,Rk hc,Ls]at hy;simp at hy;subst hy;exact .whil c _ hc (Ps ihl)
 |for_ s a b l h ha hb hl ihl=>
  intro y hy;rw[Lg,Au,Au,Au,A9,I8 ha,I8 hb,Ls]at hy;simp only[R1,T8,Ae3,zzq8,Xh,or_false]at hy;rcases hy with rfl|rfl
  ·exact .set s a h ha
  ·refine .whil _ _ (.mk 11 _ _ (by omega) (by omega) (.var s h) hb) fun y hy=>?_;rcases zzq26.1 hy with hy|hy
   ·exact Ps ihl y hy
   ·simp at hy;subst hy;exact .set s _ h (.two 6 _ _ (.inl rfl) (.var s h) (.num 1 (by omega) (by omega)))
 |check c hc=>intro y hy;rw[Bj (by simp),Bi,Au,A9,Rk hc]at hy;simp at hy;subst hy;exact .check c hc
 |skip=>intro y hy;rw[Bj (by simp),Bi,A9]at hy;simp at hy;subst hy;exact .skip
 |stop=>intro y hy;rw[Bj (by simp),Bi,A9]at hy;simp at hy;subst hy;exact .stop
structure Gr.le (g g':Gr)(k:Nat):Prop where
 pts:g.pts≤g'.pts∧g'.pts≤g.pts+4*k
 pt:g'.pt<g'.pts
 es:∃l,g'.es=g.es++l∧l.length≤4*k∧∀e,e∈l→(0≤e.f∧e.f<g'.pts)∧(e.t=-1∨(0≤e.t∧e.t<g'.pts))
 lps:∃l,g'.lps=g.lps++l∧l.length≤k
 ver:g.ver≤g'.ver∧g'.ver≤g.ver+2*k
 sts:∃l,g'.sts=g.sts++l∧l.length≤k
theorem Gr.le.refl{g:Gr}(h:g.pt<g.pts):g.le g 0:=⟨by omega,h,⟨[],by simp,by simp,fun e he=>by cases he⟩,⟨[],by simp,by simp⟩,by omega,⟨[],by simp,by simp⟩⟩
theorem Gr.le.trans{a b c:Gr}{k l m:Nat}(h:a.le b k)(h':b.le c l)(hm:k+l≤m):a.le c m:=by
 obtain⟨e1,h1,h2,h3⟩:=h.es;obtain⟨e2,h4,h5,h6⟩:=h'.es;obtain⟨l1,g1,g2⟩:=h.lps;obtain⟨l2,g3,g4⟩:=h'.lps;obtain⟨s1,g5,g6⟩:=h.sts;obtain⟨s2,g7,g8⟩:=h'.sts;have:=h.pts;have:=h'.pts;have:=h.ver;have:=h'.ver;refine⟨by omega,h'.pt,⟨e1++e2,by rw[h4,h1,Gv],by simp;omega,fun e he=>?_⟩,⟨l1++l2,by rw[g3,g1,Gv],by simp;omega⟩,by omega,⟨s1++s2,by rw[g7,g5,Gv],by simp;omega⟩⟩;rcases zzq26.1 he with he|he
 ·obtain⟨q1,q2⟩:=h3 e he;refine⟨by omega,?_⟩;rcases q2 with q2|q2
  ·exact .inl q2
  ·exact .inr (by omega)
 ·exact h6 e he
theorem Gr.le.up{a b:Gr}{k m:Nat}(h:a.le b k)(hm:k≤m):a.le b m:=h.trans (.refl h.pt) (by omega)
theorem Mm(k:Int)(n:Nd){g:Gr}(h:g.pt<g.pts):g.le (Dt k n g) 1:=
 ⟨by simp[Dt],by simp[Dt],⟨_,rfl,by simp,fun e he=>by simp at he;subst he;simp[Dt];omega⟩,⟨[],by simp[Dt],by simp⟩,by simp[Dt],⟨[],by simp[Dt],by simp⟩⟩
theorem Az9{g:Gr}(h:g.pt<g.pts):g.le (Pj g) 1:=
 ⟨by simp[Pj],by simp[Pj],⟨_,rfl,by simp,fun e he=>by simp at he;subst he;simp[Pj];omega⟩,⟨[],by simp[Pj],by simp⟩,by simp[Pj],⟨_,rfl,by simp⟩⟩
theorem Qq(p:Nat)(c:Nd)(y:Bool){g:Gr}(h:p<g.pts):g.le (Ei p c y g) 1:=
 ⟨by simp[Ei],by simp[Ei],⟨_,rfl,by simp,fun e he=>by simp at he;subst he;simp[Ei];omega⟩,⟨[],by simp[Ei],by simp⟩,by simp[Ei],⟨[],by simp[Ei],by simp⟩⟩
theorem Axt(t:Nat){g:Gr}(h:g.pt<g.pts)(ht:t<g.pts):g.le (Ln t g) 1:=
 ⟨by simp[Ln,Jd],h,⟨_,rfl,by simp,fun e he=>by simp at he;subst he;simp[Ln,Jd];omega⟩,⟨[],by simp[Ln,Jd],by simp⟩,by simp[Ln,Jd],⟨[],by simp[Ln,Jd],by simp⟩⟩
theorem Ayi(p:Nat){g:Gr}(h:g.pt<g.pts)(hp:p<g.pts):g.le (Oi p g) 1:=
 ⟨by simp[Oi,Jd],by simp[Oi,Jd],⟨[⟨p,g.pts,6,false,Cm⟩,⟨g.pt,g.pts,6,false,Cm⟩],by simp[Oi,Jd],by simp,fun e he=>by simp at he;rcases he with rfl|rfl<;>simp[Oi,Jd]<;>omega⟩,⟨[],by simp[Oi,Jd],by simp⟩,by simp[Oi,Jd],⟨[],by simp[Oi,Jd],by simp⟩⟩
theorem Ail(a n:Nd){g:Gr}(h:g.pt<g.pts):g.le (Ic a n g) 1:=
 ⟨by simp[Ic],h,⟨[],by simp[Ic],by simp,fun e he=>by cases he⟩,⟨_,rfl,by simp⟩,by simp[Ic],⟨[],by simp[Ic],by simp⟩⟩
theorem Ady{α:Type}(l l':List α)(f:α→α):(l++l').modify l.length f=l++l'.modify 0 f:=by
 apply Ab4;intro j;rw[List.getElem?_modify];rcases Ga j l.length with h|h
 ·rw[Dd h,Dd h];simp[show l.length≠j by omega]
 ·rw[Gz h,Gz h,List.getElem?_modify];by_cases hj:l.length=j
  ·simp[hj]
  ·simp[hj,show ¬0=j-l.length by omega]
theorem Axv{g g':Gr}{k:Nat}(h:g.le g' k):g.le (Uy g.lps.length g') (k+1):=by
 obtain⟨l,h1,h2⟩:=h.lps;obtain⟨e,h3,h4,h5⟩:=h.es;obtain⟨s,h6,h7⟩:=h.sts;have:=h.pts;have:=h.ver;exact⟨by simp only[Uy];omega,h.pt,⟨e,by simp only[Uy];exact h3,by omega,h5⟩,⟨l.modify 0 fun x=>{ x with x:=g'.pt },by simp only[Uy];rw[h1,Ady],by simp;omega⟩,by simp only[Uy];omega,⟨s,by simp only[Uy];exact h6,by omega⟩⟩
abbrev bG(k:Nat):Nat:=6*k
theorem Aom{l:List Nd}(h:∀x,x∈l→∀(a:Nd)(g:Gr),g.pt<g.pts→g.le (gS x a g) (bG (wN x))):∀(a:Nd)(g:Gr),g.pt<g.pts→g.le (gL l a g) (bG (wL l)):=by
 induction l with
 |nil=>intro a g hp;exact(Gr.le.refl hp).up (by simp[wL])
 |cons x l ih=>
  intro a g hp;rw[Y5];have h1:=h x (by simp) a g hp;exact h1.trans (ih (fun y hy=>h y (by simp[hy])) x _ h1.pt) (by simp only[wL,bG];omega)
theorem A5b{c:Nd}{f1 f2:Gr→Gr}{k1 k2:Nat}(h1:∀g:Gr,g.pt<g.pts→g.le (f1 g) k1)(h2:∀g:Gr,g.pt<g.pts→g.le (f2 g) k2){g:Gr}(hp:g.pt<g.pts):g.le (gIf c f1 f2 g) (k1+k2+3):=by
 unfold gIf;have a1:=Qq g.pt c true hp;have a2:=h1 _ a1.pt;have a12:=a1.trans a2 (Bt _);have hp2:g.pt<(f1 (Ei g.pt c true g)).pts:=Ng hp a12.pts.1;have a3:=Qq g.pt c false hp2;have a4:=h2 _ a3.pt;have a34:=a3.trans a4 (Bt _);have hq:(f1 (Ei g.pt c true g)).pt<(f2 (Ei g.pt c false (f1 (Ei g.pt c true g)))).pts:=Ng a2.pt a34.pts.1;exact(a12.trans a34 (Bt _)).trans (Ayi _ a4.pt hq) (by omega)
theorem A6b{n a c:Nd}{f:Gr→Gr}{k:Nat}(h1:∀g:Gr,g.pt<g.pts→g.le (f g) k){g:Gr}(hp:g.pt<g.pts):g.le (gWh n a c f g) (k+6):=by
 unfold gWh;have a1:=Mm 6 Cm hp;have a2:=Ail a n a1.pt;have a12:=a1.trans a2 (Bt _);have hh:g.pts<(Ic a n (Dt 6 Cm g)).pts:=by simp[Ic,Dt]
 have a3:=Qq g.pts c true hh;have a4:=h1 _ a3.pt;have a34:=a3.trans a4 (Bt _);have hh2:=Ng hh a34.pts.1;have a5:=Axt g.pts a4.pt hh2;have hh3:=Ng hh2 a5.pts.1;have a6:=Qq g.pts c false hh3;exact(Axv ((a12.trans a34 (Bt _)).trans (a5.trans a6 (Bt _)) (Bt _))).up (by omega)
theorem A4x{n:Nd}(h:PS n):∀(a:Nd)(g:Gr),g.pt<g.pts→g.le (gS n a g) (bG (wN n)):=by
 induction h with
 |set s b h hb=>intro a g hp;rw[Aam];exact(Mm _ _ hp).up (by simp only[wN,bG];omega)
 |put s b c h hb hc=>intro a g hp;rw[Aal];exact(Mm _ _ hp).up (by simp only[wN,bG];omega)
 |read s h=>intro a g hp;rw[Wc];exact(Mm _ _ hp).up (by simp only[wN,bG];omega)
 |ifs c l l' hc hl hl' ihl ihl'=>intro a g hp;rw[Afy];exact(A5b (Aom ihl Cm) (Aom ihl' Cm) hp).up (by simp only[wN,wL,bG,Xi];omega)
 |whil c l hc hl ihl=>intro a g hp;rw[Afz];exact(A6b (Aom ihl Cm) hp).up (by simp only[wN,wL,bG,Xi];omega)
 |check c hc=>intro a g hp;rw[Q9];exact(Mm _ _ hp).up (by simp only[wN,bG];omega)
 |skip=>intro a g hp;rw[We];exact(Mm _ _ hp).up (by simp only[wN,wL,bG,Xi];omega)
 |stop=>intro a g hp;rw[Wg];exact(Az9 hp).up (by simp only[wN,wL,bG,Xi];omega)
theorem M4{l:List Nd}(h:∀x,x∈l→PS x)(a:Nd)(g:Gr)(hp:g.pt<g.pts):g.le (gL l a g) (bG (wL l)):=Aom (fun x hx=>A4x (h x hx)) a g hp
end Go.V
namespace Go.V
open Go
section
variable {X:Cx}{B:Bx}{E E':Env}{S S':St}{w w':World}{F F':Cw}{a:Act}{N:Nat}{R:AE→St→Prop}{ops:Array Oper}{i:Nat}{o:Oper}{p q:Operand}
theorem Zv(hI:Inv X E S w){t v:Nat}{k:Tk}(hk:E.toks[t]?=some k)(hS:S.toks[t]?=some v):v=k.len:=by
 have h1:=hI.nt;have h2:(E.toks.map Tk.len)[t]?=some k.len:=by simp[hk]
 rw[h1,hS]at h2;exact Option.some.inj h2
theorem Inv.setZ(hI:Inv X E S w){tk:List Nat}(h:Inv X E' ⟨S.boxes,tk⟩ w')(hbx:E'.boxes=E.boxes)(hsame:∀(i b s:Nat),E.boxes[i]?=some (some (b,s))→w'.heap[b]?=w.heap[b]?){b r j:Nat}{rows:A7}{cs:An}{z z':AV}
 (hb:S.boxes[b]?=some rows)(hr:rows[r]?=some cs)(hc:cs[j]?=some z)(hz:∀u,Rel E w u z→Rel E' w' u z'):Inv X E' ⟨S.boxes.set b (rows.set r (cs.set j z')),tk⟩ w':=
 { h with
   nb:=by have:=h.nb;simpa using this
   box:=fun i blk sz rows' h1 h2=>by
    rcases E8 h2 with⟨rfl,rfl⟩|⟨_,h2⟩
    ·have h1o:=h1;rw[hbx]at h1o;obtain⟨arr,e,hh,hs,hl,hrel⟩:=hI.box i blk sz rows h1o hb;obtain⟨arr1,e1,hh1,hs1,hl1,hrel1⟩:=h.box i blk sz rows h1 hb;have:=hsame _ _ _ h1o;rw[hh,hh1]at this;cases this;refine⟨arr,e,hh1,by simpa using hs,fun q hq=>?_,fun k q p x v hk hp hv=>?_⟩
     ·rcases Zy hq with hq|rfl
      ·exact hl q hq
      ·simpa using hl cs (Bn hr)
     ·rcases E8 hk with⟨rfl,rfl⟩|⟨_,hk⟩
      ·rcases E8 hp with⟨rfl,rfl⟩|⟨_,hp⟩
       ·exact hz v (hrel k cs p _ v hr hc hv)
       ·exact hrel1 k cs p x v hr hp hv
      ·exact hrel1 k q p x v hk hp hv
    ·exact h.box i blk sz rows' h1 h2 }
theorem Afj(hI:Inv X E S w){v:Value}(h:Rel E w v (.sl [] .tight)):Rel (E.mint 0) w v (.psl [] S.toks.length 0):=by
 have hl:S.toks.length=E.toks.length:=by rw[←hI.nt];simp
 cases h with
 |sl _ _ a n cap b o sz vals hn hx ha hsz hm hc hr hs hcap=>
  subst hn;exact .psl [] _ 0 a _ cap ⟨0,none⟩ sz vals rfl hx hcap (by rw[hl];exact getElem?_snoc_new _ _) (Bt _) (fun r hr=>by cases hr) (fun _=>⟨rfl,hs⟩) (fun i j r x h=>by simp at h) (fun r hr=>by cases hr)
theorem Ui{K:List Item}(b r j:Nat){m:Nat}{rows:A7}{cs:An}{bx:B3}{tk:List Nat}(hk:AK X B K F ⟨bx,tk⟩ R)(hb:S.boxes[b]?=some rows:=by rfl)(hr:rows[r]?=some cs:=by rfl)
 (hc:cs[j]?=some (.sl [] .tight):=by rfl)(hn:S.toks.length=m:=by rfl)(hbx:S.boxes.set b (rows.set r (cs.set j (.psl [] m 0)))=bx:=by rfl)(htk:S.toks++[0]=tk:=by rfl):AK X B K F S R:=by
 subst hn;subst hbx;subst htk;intro E w a b' cs' hI hF hn hm hb';have ev:=Np E w 0;have nt:E.toks.length=S.toks.length:=by rw[←hI.nt];simp
 exact Fin.from (Steps.refl _ _) (ev.weaken (by rw[hI.nb];exact hn) (by omega)) (hk (E.mint 0) w a b' cs' (hI.setZ (hI.mint 0) rfl (fun _ _ _ _=>rfl) hb hr hc fun u hu=>Afj hI hu) (hF.mint 0) (by simpa using hn) (by simp;omega) hb')
theorem Acf{t e tk v n:Nat}{ik:IntKind}{y ye:Ty}{rows:A7}(hn:n<rows.length)(hS:S.toks[tk]?=some v)(hl:∀r,r∈rows→r.length=ye.size)(ho:ops[i]?=some o:=by rfl)(hw:Bc ops F o=some true:=by rfl)
 (hop:o.op=.indexAddr t p q:=by rfl)(hp:Dv X F p=some (.psl rows tk v):=by rfl)(hq:Dv X F q=some (.val (.int ik n)):=by rfl)(hy:X.ty t=some y:=by rfl)(hyk:y.k=.slc e:=by rfl)(hye:X.ty e=some ye:=by rfl) :
 Ndo X N ops i o F (.pp rows tk v n 0) S S:=by
 refine Dp ho hw fun F' E w a hc hI hF=>?_;rw[hop]at hc;have h1:=Am hI hF ((hc p (by simp[Op.operands])).trans hp);have h2:=Am hI hF ((hc q (by simp[Op.operands])).trans hq);obtain⟨d,hdd,hd2⟩:=(X.ty_ok t y hy).agg;simp only[hyk]at hd2;obtain⟨rfl,ye',hye',hne⟩:=hd2;rw[hye]at hye';cases hye';cases hh2:a.eval q<;>rw[hh2]at h2<;>cases h2;generalize hh1:a.eval p=u at h1;have h1':=h1;cases h1 with
 |psl _ _ _ ad m cap k sz vals hm hx hcap hk hv hsz hpv hr hf=>
  have hpv:=hpv (Zv hI hk hS);obtain⟨kl,ksp⟩:=k;cases ksp with
  |none=>obtain⟨h,_⟩:=hpv;omega
  |some q'=>
   obtain⟨b,c,s⟩:=q';obtain⟨_,rfl,rfl,rfl,_⟩:=hpv;refine⟨.pointer (some ⟨b,n*ye.size,none⟩),?_,?_⟩
   ·have hin:(n:Int)<(m:Int):=by omega
    simp[execOp,hop,hh1,hh2,Instr.indexAt,asIntOf,run_underlying hdd,hin,Dx hye,Gq];intro h;omega
   ·have:=Rel.pp (E:=E) (w:=w) rows tk v n 0 b ye.size m c h1' hn hl;simpa using this
theorem Aw4{t tk v j o':Nat}{y:Ty}{r:An}{rows:A7}{x:AV}(hr:rows[j]?=some r)(hS:S.toks[tk]?=some v)(hl:o'+y.size≤r.length)(ho:ops[i]?=some o:=by rfl)(hw:Bc ops F o=some true:=by rfl)
 (hop:o.op=.load t p:=by rfl)(hp:Dv X F p=some (.pp rows tk v j o'):=by rfl)(hy:X.ty t=some y:=by rfl)(hx:Xs (G9 y.k) ((r.drop o').take y.size)=some x:=by rfl):Ndo X N ops i o F x S S:=by
 refine Dp ho hw fun F' E w a hc hI hF=>?_;rw[hop]at hc;have h1:=Am hI hF ((hc p (by simp[Op.operands])).trans hp);obtain⟨b,sz,n,cap,hu,hrel,hi,hsz⟩:=h1.pp_inv;generalize hU:Value.slice (some ⟨b,0,none⟩) n cap=U at hrel;cases hrel with
 |psl _ _ _ a0 n0 cap0 k sz' vals hm hx hcap hk hv hsz' hpv hrr hf=>
  cases hU;have hpv:=hpv (Zv hI hk hS);obtain⟨kl,ksp⟩:=k;cases ksp with
  |none=>obtain⟨h,_⟩:=hpv;omega
  |some q'=>
   obtain⟨b',c,s⟩:=q';obtain⟨_,rfl,rfl,hab,arr,e,hh,hcs,hcl⟩:=hpv;simp only[Option.some.injEq,Addr.mk.injEq,and_true]at hab;subst hab;have hrl:=hsz r (Bn hr);have:sz'=sz:=by rw[←hsz' r (Bn hr),hrl]
   subst this;have hcell:∀jj,jj<y.size→w.cell? ⟨b,j*sz'+o'+jj,none⟩=some (vals j (o'+jj)):=fun jj hjj=>by
    have:=hcl j (o'+jj) (by omega) (by omega);rw[←Qi]at this;simp only[World.cell?,hh];exact this
   refine⟨_,by simp[execOp,hop,hu,Instr.loadAt,Instr.sureAddr,Vb hy _ hcell],Ahy (y:=y) (vals:=fun jj=>vals j (o'+jj)) (cs:=(r.drop o').take y.size) (by simp;omega) (fun jj x hx=>?_) ‹_›⟩;have hj:jj<y.size:=by have:=Aa hx;simp at this;omega
   exact hrr j (o'+jj) r x hr (by simpa[Z0,hj]using hx)
end
section
variable {X:Cx}{B:Bx}{E E':Env}{S S':St}{w w':World}{F F':Cw}{a:Act}{N:Nat}{R:AE→St→Prop}{ops:Array Oper}{i:Nat}{o:Oper}{p q:Operand}
theorem Ahl{t tk v j o' b r g:Nat}{y:Ty}{x:AV}{xs row cs:An}{rows brows:A7}{bx:B3}{tk':List Nat}(hS:S.toks[tk]?=some v)(hrow:rows[j]?=some row)(hl:o'+xs.length≤row.length)
 (hflat:∀z,z∈xs→NoT z)(hb:S.boxes[b]?=some brows)(hr:brows[r]?=some cs)(hg:cs[g]?=some (.psl rows tk v))
 (hbx:S.boxes.set b (brows.set r (cs.set g (.psl (rows.set j (row.take o'++xs++row.drop (o'+xs.length))) tk (v+1))))=bx)(htk:S.toks.set tk (v+1)=tk')(ho:ops[i]?=some o)(hw:Bc ops F o=some true)
 (hop:o.op=.store t p q)(hp:Dv X F p=some (.pp rows tk v j o'))(hq:Dv X F q=some x)(hy:X.ty t=some y)(hxs:cellsOf x=some xs)(hxl:xs.length=y.size):Ndo X N ops i o F .junk S ⟨bx,tk'⟩:=by
 subst hbx;subst htk;intro F' E w a hlk hI hF;have hlo:=Hi hlk;rw[hop]at hlo;have r1:=Am hI hF ((Dq (X:=X) (F:=F) (F':=F') (o:=p) fun s hs=>hlo s (by simp[Op.operands,hs])).trans hp);have r2:=Am hI hF ((Dq (X:=X) (F:=F) (F':=F') (o:=q) fun s hs=>hlo s (by simp[Op.operands,hs])).trans hq);generalize hva:a.eval q=u2 at r2;obtain⟨blk,sz,n,cap,hu,hrel,hi,hsz⟩:=r1.pp_inv;obtain⟨hs,hrx,hone⟩:=H7 r2 hxs;generalize hU:Value.slice (some ⟨blk,0,none⟩) n cap=U at hrel;have hrel0:=hrel;cases hrel with
 |psl _ _ _ a0 n0 cap0 k sz' vals hm hx hcap hk hv hsz' hpv hrr hf=>
  cases hU;have hcur:=Zv hI hk hS;have hpv:=hpv hcur;obtain⟨kl,ksp⟩:=k;cases ksp with
  |none=>obtain⟨h,_⟩:=hpv;omega
  |some q'=>
   obtain⟨b',c,s⟩:=q';obtain⟨hn0,rfl,rfl,hab,arr,e,hh,hcs,hcl⟩:=hpv;simp only[Option.some.injEq,Addr.mk.injEq,and_true]at hab;subst hab;have hrl:=hsz row (Bn hrow);have:sz'=sz:=by rw[←hsz' row (Bn hrow),hrl]
   subst this;simp only at hcur;subst hcur;have hjl:=Aa hrow;have hvl:u2.cells.toList.length=xs.length:=by simpa using hs
   have hin:j*sz'+o'+xs.length≤arr.toList.length:=by
    have:(j+1)*sz'≤c*sz':=Uf sz' (by omega);rw[Rz,Nat.one_mul]at this;simp;omega
   have hst:=run_storeCells_at X.P blk (j*sz'+o') e u2.cells.toList 0 arr w hh (by simp at hin⊢;omega) (fun u hu=>hone u (by simpa using hu));simp only[Rx]at hst;generalize harr:(arr.toList.take (j*sz'+o')++u2.cells.toList++arr.toList.drop (j*sz'+o'+u2.cells.toList.length)).toArray=arr' at hst;have hasz:arr'.size=arr.size:=by
    subst harr;have:=Tu arr.toList u2.cells.toList (j*sz'+o') (by omega);rw[Ag6,this];simp
   have hat:=setRow_heap w blk arr arr' e _ hh;have hoth:∀q,q≠blk→(w.setRow blk arr').heap[q]?=w.heap[q]?:=fun q hq=>setRow_other w blk q _ (by omega);have hbw:blk<w.heap.size:=hI.own_lt (.inr ⟨tk,_,c,0,hk⟩);obtain⟨ev,hI',_⟩:=Pv (w':=w.setRow blk arr') hI (t:=tk) (n:=v) (m:=v+1) (b:=blk) (c:=c) (sz:=0) hk rfl (by omega) (fun h=>absurd rfl h) rfl rfl rfl (by simp) (fun q _ hq=>hoth q hq) (.inr rfl) (by simpa using hbw)
    (fun o v ho h=>by omega) ⟨_,_,hat,fun h=>absurd rfl h⟩ (fun q e he=>Qh (fun h=>by subst h;exact⟨_,_,_,_,hh,hat⟩) (hoth q) he)
   have hsz2:u2.cells.size=y.size:=by omega
   refine Does.val (v:=undef) ho (Cu hF (by rw[Dc hlk];exact hw)) (by simp[execOp,hop,hu,hva,Instr.storeAt,Instr.sureAddr,storeVar,Dx hy,hsz2,hst]) (.inr ⟨rfl,rfl⟩)
    ⟨E.setTok tk ⟨v+1,some (blk,c,0)⟩,?_,ev,.junk _⟩
   refine hI.setZ hI' rfl (fun i b s h=>hoth b fun hb'=>hI.bt i tk b s v c 0 h (hb'▸hk)) hb hr hg fun u0 hu0=>?_;have hu0':=hu0;cases hu0 with
   |psl _ _ _ a1 n1 cap1 k1 sz1 vals1 hm1 hx1 hcap1 hk1 hv1 hsz1 hpv1 hrr1 hf1=>
    rw[hk]at hk1;cases hk1;obtain⟨_,_,rfl,rfl,arr1,e1,hh1,hcs1,hcl1⟩:=hpv1 rfl;rw[hh]at hh1;cases hh1;have:sz1=sz':=by rw[←hsz1 row (Bn hrow),hrl]
    subst this;have hrowlen:(row.take o'++xs++row.drop (o'+xs.length)).length=sz1:=by rw[Tu row xs o' hl,hrl]
    have hget:∀i' j',i'<n1→j'<sz1→i'*sz1+j'<arr'.size:=fun i' j' hi' hj'=>by
     have h1:=Jv (n:=n1) hi' hj';have h2:n1*sz1≤c*sz1:=Uf _ (by omega);omega
    refine .psl _ tk (v+1) _ n1 c ⟨v+1,some (blk,c,0)⟩ sz1 (fun i' j'=>arr'.getD (i'*sz1+j') default) (by simpa using hm1) hx1 hcap1 (by simp[Env.setTok,Aa hk]) (Bt _) (fun r' hr'=>?_)
     (fun _=>⟨by omega,rfl,rfl,rfl,arr',e,hat,by rw[hasz];exact hcs,fun i' j' hi' hj'=>by simp[Array.getD,hget i' j' hi' hj']⟩) (fun i' j' r' x' hi' hj'=>?_) (fun r' hr' z hz=>?_)
    ·rcases Zy hr' with h|rfl
     ·exact hsz1 r' h
     ·exact hrowlen
    ·have hil:i'<rows.length:=by have:=Aa hi';simpa using this
     have hjl':j'<sz1:=by
      have:=Aa hj';rcases E8 hi' with⟨_,rfl⟩|⟨_,h⟩
      ·omega
      ·have:=hsz1 r' (Bn h);omega
     have hlt:=hget i' j' (by omega) hjl';have hval:arr'.getD (i'*sz1+j') default=arr'[i'*sz1+j']:=by simp[Array.getD,hlt]
     rw[hval];have hu':(arr.toList.take (j*sz1+o')++u2.cells.toList++arr.toList.drop (j*sz1+o'+u2.cells.toList.length))[i'*sz1+j']?=some arr'[i'*sz1+j']:=by
      rw[←Vu,harr];simp[hlt]
     rw[Lh _ _ _ _ (by omega)]at hu';have hold:∀(r0:An),rows[i']?=some r0→r0[j']?=some x'→arr.toList[i'*sz1+j']?=some arr'[i'*sz1+j']→Rel (E.setTok tk ⟨v+1,some (blk,c,0)⟩) (w.setRow blk arr') arr'[i'*sz1+j'] x':=fun r0 h1 h2 h3=>by
      have h4:=hcl1 i' j' (by omega) hjl';rw[Ab6,h4]at h3;rw[←Option.some.inj h3];exact(hrr1 i' j' r0 x' h1 h2).step ev
     rcases E8 hi' with⟨rfl,rfl⟩|⟨hne,h⟩
     ·rw[Lh _ _ _ _ hl]at hj';split at hj'
      ·rename_i hjj;rw[if_pos (by omega),show i'*sz1+j'-(i'*sz1+o')=j'-o' by omega]at hu';exact(hrx (j'-o') _ x' (by simpa using hu') hj').step ev
      ·rename_i hjj;rw[if_neg (by omega)]at hu';exact hold row hrow hj' hu'
     ·have:=Aa7 hjl' hne;rw[if_neg (by omega)]at hu';exact hold r' h hj' hu'
    ·rcases Zy hr' with h|rfl
     ·exact hf1 r' h z hz
     ·rcases zzq26.1 hz with hz|hz
      ·rcases zzq26.1 hz with hz|hz
       ·exact hf1 row (Bn hrow) z (Ag7 hz)
       ·exact hflat z hz
      ·exact hf1 row (Bn hrow) z (List.mem_of_mem_drop hz)
end
section
variable {X:Cx}{B:Bx}{E E':Env}{S S':St}{w w':World}{F F':Cw}{a:Act}{N:Nat}{R:AE→St→Prop}{ops:Array Oper}{i:Nat}{o:Oper}{p q:Operand}
theorem Aez(hI:Inv X E S w){t ver:Nat}{tt tx ty e e':TypeId}{ye:Ty}(hu:X.P.underlying tt=some (.slice e))(hk:X.P.underlying tx=some (.slice e'))(hye:X.ty e=some ye)(hne0:ye.size≠0)
 {rows new:A7}{sp:Sp}{u v:Value}(hp:Rel E w u (.psl rows t ver))(hq:Rel E w v (.sl new sp))(hS:S.toks[t]?=some ver)(hflat:∀r,r∈new→∀x,x∈r→NoT x)
 (hz:∀r,r∈rows→r.length=ye.size)(hz':∀r,r∈new→r.length=ye.size)(hc:∀r,r∈new→∀x,x∈r→Jj x=true)(hne:new≠[])(hb:rows.length+new.length≤100000000000) :
 ∃r E' w',(Builtin.append_ #[tt,tx] ty #[u,v]).run X.P w=.ok r w'∧Inv X E' ⟨S.boxes,S.toks.set t (ver+1)⟩ w'∧Evol E w E' w' E.boxes.length E.toks.length ∧
  Rel E' w' r (.psl (rows++new) t (ver+1)):=by
 obtain⟨i,z,hi,hsz,hby,hzv,hzc,hzl,_⟩:=(X.ty_ok e ye hye).info;have hnew:0<new.length:=zzq45.2 hne;obtain⟨vals2,hsrc,hr2⟩:=Ano hk hq hz' hc hne;rw[←hsz]at hsrc;generalize hR:rows=rows0 at hp;cases hp with
 |psl _ _ _ a n cap k sz vals hn hx hcap hk1 hv hszr hpv hr hf=>
 subst hR;subst hn;have hcur:=Zv hI hk1 hS;have hpv:=hpv hcur;have hkt:=Aa hk1;have hvals:∀(vals':Nat→Nat→Value),(∀i j,i<rows.length→vals' i j=vals i j)→(∀i j,rows.length≤i→vals' i j=vals2 (i-rows.length) j)→∀{E':Env} {w':World},Evol E w E' w' E.boxes.length E.toks.length →
  ∀(i j:Nat) (r:An) (x:AV),(rows++new)[i]?=some r→r[j]?=some x→Rel E' w' (vals' i j) x:=fun vals' h1 h2 {E' w'} ev i j r x hi hj=>by
  rcases Ga i rows.length with h|h
  ·rw[Dd h]at hi;rw[h1 i j h];exact(hr i j r x hi hj).step ev
  ·rw[Gz h]at hi;rw[h2 i j h];exact(hr2 _ j r x hi hj).step ev
 have hall:∀r,r∈rows++new→r.length=ye.size:=fun r h=>by
  rcases zzq26.1 h with h|h
  ·exact hz r h
  ·exact hz' r h
 have hfl':∀r,r∈rows++new→∀x,x∈r→NoT x:=fun r h x hx'=>by
  rcases zzq26.1 h with h|h
  ·exact hf r h x hx'
  ·exact hflat r h x hx'
 have hlen:(rows++new).length=rows.length+new.length:=by simp
 have hszeq:rows.length≠0→sz=i.size:=fun h=>by
  obtain⟨r0,hr0⟩:=Ab rows (i:=0) (by omega);rw[←hszr r0 (Bn hr0),hz r0 (Bn hr0),hsz]
 have grow:cap<rows.length+new.length→∃r E' w',(Builtin.append_ #[tt,tx] ty #[.slice a rows.length cap,v]).run X.P w=.ok r w'∧Inv X E' ⟨S.boxes,S.toks.set t (ver+1)⟩ w'∧Evol E w E' w' E.boxes.length E.toks.length ∧
  Rel E' w' r (.psl (rows++new) t (ver+1)):=fun hg=>by
  have hold:(Builtin.firstCells i.size rows.length (.slice a rows.length cap)).run X.P w.drew=.ok (Et rows.length i.size vals).toArray w.drew:=by
   rcases Nat.eq_zero_or_pos rows.length with h0|h0
   ·rw[h0];have:Et 0 i.size vals=[]:=by simp[Et]
    rw[this];cases a with
    |none=>exact run_firstCells_none _ _ _ _ _
    |some a0=>exact run_firstCells_some _ _ _ _ _ _ _ (by simp) (fun j v hj=>by simp at hj)
   ·have hs':=hszeq (by omega);subst hs';obtain⟨kl,ksp⟩:=k;cases ksp with
    |none=>obtain⟨h,_⟩:=hpv;omega
    |some q'=>
     obtain⟨b,c,s⟩:=q';obtain⟨_,rfl,rfl,rfl,arr,e1,hh,hcs,hcl⟩:=hpv;refine run_firstCells_some _ _ _ _ _ _ _ (Ew _ _ _) (fun q v hq=>?_);obtain⟨i',j',hi',hj',rfl,he⟩:=Y3 (vals:=vals) (by have:=Aa hq;rw[Ew]at this;exact this);rw[he]at hq;cases hq;rw[Gq,Kr];have:=hcl i' j' hi' hj';have hdr:w.drew.heap[b]?=w.heap[b]?:=rfl;simp only[World.cell?,hdr,hh];exact this
  have hby':(rows.length+new.length)*i.bytes≤140737488355328:=Vt (Nat.mul_le_mul_left _ hby) (by omega);have hrun:=run_append_grow_src w tt tx ty e i z hu hi hzv a rows.length cap _ hold v new.length _ hsrc hg (by omega) (growslice_fits hg hby');have hcc:=grownCap_ge w (rows.length+new.length) cap e;generalize grownCap w (rows.length+new.length) cap e=cc at hrun hcc;have hfl:∀(i' j':Nat),i'<rows.length+new.length→j'<ye.size→(Et rows.length i.size vals++Et new.length i.size vals2)[i'*ye.size+j']?=some (if i'<rows.length then vals i' j' else vals2 (i'-rows.length) j'):=fun i' j' hi' hj'=>by
   rw[hsz];by_cases h:i'<rows.length
   ·have:=Jv h hj';rw[Dd (by rw[Ew];exact this),if_pos h];exact Ll h hj'
   ·have hle:rows.length*ye.size≤i'*ye.size:=Uf _ (by omega);rw[Gz (by rw[Ew];omega),if_neg h,Ew];rw[show i'*ye.size+j'-rows.length*ye.size=(i'-rows.length)*ye.size+j' by rw[Nat.sub_mul];omega];exact Ll (by omega) hj'
  have hcs:((Et rows.length i.size vals++Et new.length i.size vals2).toArray++Builtin.zeroCells z.cells (cc-(rows.length+new.length))).size=cc*ye.size:=by
   have hzs:z.cells.size=ye.size:=by rw[←hzl,←hzc];simp
   have:(Builtin.zeroCells z.cells (cc-(rows.length+new.length))).size=(cc-(rows.length+new.length))*ye.size:=by
    simp[Builtin.zeroCells,hzs]
   rw[Array.size_append,this,Ag6,F5,Ew,Ew,hsz,←Rz,←Rz];congr 1;omega
  have hpush:∀o:Obj,(w.drew.alloc o).heap=w.heap.push o:=fun _=>rfl;have hheap:(w.drew.alloc (.cells ((Et rows.length i.size vals++Et new.length i.size vals2).toArray++Builtin.zeroCells z.cells (cc-(rows.length+new.length))) e)).heap[w.heap.size]? =
   some (.cells ((Et rows.length i.size vals++Et new.length i.size vals2).toArray++Builtin.zeroCells z.cells (cc-(rows.length+new.length))) e (0,0)):=by rw[hpush];simp
  obtain⟨ev,hI',_⟩:=Pv (w':=w.drew.alloc (.cells ((Et rows.length i.size vals++Et new.length i.size vals2).toArray++Builtin.zeroCells z.cells (cc-(rows.length+new.length))) e)) hI (t:=t) (n:=ver) (m:=ver+1)
   (b:=w.heap.size) (c:=cc) (sz:=0) hk1 hcur.symm (by omega) (fun h=>absurd rfl h) rfl rfl rfl (by rw[hpush];simp) (fun q hq _=>by rw[hpush,Array.getElem?_push_lt hq];simp[hq]) (.inl rfl) (by rw[hpush];simp)
   (fun o v _ h=>by have:=Ni h;omega) ⟨_,e,hheap,fun h=>absurd rfl h⟩ (Evol.push (E:=E) (w:=w) ⟨_,hpush _⟩ rfl rfl rfl 0 0).ty
  refine⟨_,_,_,hrun,hI',ev,?_⟩;refine .psl (rows++new) t (ver+1) _ _ cc ⟨ver+1,some (w.heap.size,cc,0)⟩ ye.size (fun i j=>if i<rows.length then vals i j else vals2 (i-rows.length) j) hlen (by unfold P1;omega) hcc (by simp[Env.setTok,hkt]) (Bt _) hall
   (fun _=>⟨by omega,rfl,rfl,rfl,_,e,hheap,hcs,fun i' j' hi' hj'=>?_⟩) (hvals _ (fun i' j' h=>if_pos h) (fun i' j' h=>if_neg (by omega)) ev) hfl'
  have h:=hfl i' j' hi' hj';have hlt:=Aa h;rw[Alm (by simpa using hlt),Vu];exact h
 by_cases hg:cap<rows.length+new.length
 ·exact grow hg
 ·obtain⟨kl,ksp⟩:=k;cases ksp with
  |none=>obtain⟨h1,h2⟩:=hpv;omega
  |some q=>
   obtain⟨b',c',s'⟩:=q;obtain⟨hn0,rfl,rfl,rfl,cur,te,hh,hcs,hcl⟩:=hpv;have hs':=hszeq hn0;subst hs';simp only at hcur;subst hcur;have hsub:(rows.length+new.length)*i.size≤c'*i.size:=Uf _ (by omega);rw[Rz]at hsub;have hfit:rows.length*i.size+(Et new.length i.size vals2).length≤cur.size:=by rw[Ew,hcs];exact hsub
   have hrun:=Ql tt tx ty e i hu hi b' rows.length c' v new.length _ hsrc (by omega) hh hfit;have hfl:=Ew new.length i.size vals2;have hat:=setRow_heap w b' cur (cur.toList.take (rows.length*i.size)++Et new.length i.size vals2++cur.toList.drop (rows.length*i.size+(Et new.length i.size vals2).length)).toArray te _ hh;have hoth:∀q,q≠b'→(w.setRow b' (cur.toList.take (rows.length*i.size)++Et new.length i.size vals2++cur.toList.drop (rows.length*i.size+(Et new.length i.size vals2).length)).toArray).heap[q]?=w.heap[q]?:=
    fun q hq=>setRow_other w b' q _ (by omega)
   have hspl:=fun q=>Lh cur.toList (Et new.length i.size vals2) (rows.length*i.size) q (by simpa using hfit);have hbw:b'<w.heap.size:=hI.own_lt (.inr ⟨t,_,c',0,hk1⟩);obtain⟨ev,hI',_⟩:=Pv (w':=w.setRow b' (cur.toList.take (rows.length*i.size)++Et new.length i.size vals2++cur.toList.drop (rows.length*i.size+(Et new.length i.size vals2).length)).toArray) hI (t:=t) (n:=ver) (m:=ver+1)
    (b:=b') (c:=c') (sz:=0) hk1 rfl (by omega) (fun h=>absurd rfl h) rfl rfl rfl (by simp) (fun q _ hq=>hoth q hq) (.inr rfl) (by simpa using hbw)
    (fun o v ho h=>by omega) ⟨_,_,hat,fun h=>absurd rfl h⟩ (fun q e he=>Qh (fun h=>by subst h;exact⟨_,_,_,_,hh,hat⟩) (hoth q) he)
   refine⟨_,_,_,hrun,hI',ev,?_⟩;have hnm:∀i' j',i'<rows.length+new.length→j'<i.size→i'*i.size+j'<(rows.length+new.length)*i.size:=fun i' j' hi' hj'=>Jv hi' hj';refine .psl (rows++new) t (ver+1) _ _ c' ⟨ver+1,some (b',c',0)⟩ i.size (fun i j=>if i<rows.length then vals i j else vals2 (i-rows.length) j) hlen (by unfold P1;omega) (by omega) (by simp[Env.setTok,hkt]) (Bt _) (fun r hr=>by rw[hall r hr,hsz])
    (fun _=>⟨by omega,rfl,rfl,rfl,_,te,hat,by rw[Ag6,Tu _ _ _ (by simpa using hfit)];simpa using hcs,fun i' j' hi' hj'=>?_⟩) (hvals _ (fun i' j' h=>if_pos h) (fun i' j' h=>if_neg (by omega)) ev) hfl'
   rw[Vu,hspl];have h4:=hnm i' j' hi' hj';rw[Rz]at h4;by_cases h:i'<rows.length
   ·have h5:=Jv h hj';dsimp only;rw[if_neg (by omega),if_pos h,Ab6];exact hcl i' j' h hj'
   ·have hle:rows.length*i.size≤i'*i.size:=Uf _ (by omega);dsimp only;rw[if_pos ⟨by omega,by omega⟩,if_neg h];rw[show i'*i.size+j'-rows.length*i.size=(i'-rows.length)*i.size+j' by rw[Nat.sub_mul];omega];exact Ll (by omega) hj'
theorem Pe{c:Call}{t ver tt tx e e':Nat}{y yx ye:Ty}{rows new:A7}{sp:Sp}{res:A7}{tk:List Nat}(hS:S.toks[t]?=some ver)(hl:∀r,r∈rows→r.length=ye.size)(hflat:∀r,r∈new→∀x,x∈r→NoT x)
 (hb:rows.length+new.length≤100000000000)(hres:rows++new=res)(htk:S.toks.set t (ver+1)=tk)(ho:ops[i]?=some o)(hw:Bc ops F o=some true)(hop:o.op=.call c)(hcal:c.callee=.builtin .append)(hargs:c.args.toList=[p,q])(htys:c.argTypes.toList=[tt,tx])
 (hp:Dv X F p=some (.psl rows t ver))(hq:Dv X F q=some (.sl new sp))(hy:X.ty tt=some y)(hyk:y.k=.slc e)(hye:X.ty e=some ye)(hyx:X.ty tx=some yx)(hyxk:yx.k=.slc e')
 (hl':Mf ye.size new=true)(hc:Nt new=true)(hne:Nat.ble 1 new.length=true):Ndo X N ops i o F (.psl res t (ver+1)) S ⟨S.boxes,tk⟩:=by
 subst hres;subst htk;intro F' E w a hlk hI hF;obtain⟨callee,args,argTypes⟩:=c;simp only at hcal hargs htys;subst hcal;have ha:args=#[p,q]:=by rw[←Vv];exact hargs
 have ht:argTypes=#[tt,tx]:=by rw[←Vv];exact htys
 subst ha;subst ht;have hlo:=Hi hlk;rw[hop]at hlo;have r1:=Am hI hF ((Dq (X:=X) (F:=F) (F':=F') (o:=p) fun s hs=>hlo s (by simp[Op.operands,Call.operands,hs])).trans hp);have r2:=Am hI hF ((Dq (X:=X) (F:=F) (F':=F') (o:=q) fun s hs=>hlo s (by simp[Op.operands,Call.operands,hs])).trans hq);obtain⟨d1,hd1,hk1⟩:=(X.ty_ok tt y hy).agg;simp only[hyk]at hk1;obtain⟨rfl,ye',hye',hne0⟩:=hk1;rw[hye]at hye';cases hye';obtain⟨d2,hd2,hk2⟩:=(X.ty_ok tx yx hyx).agg;simp only[hyxk]at hk2;obtain⟨rfl,_⟩:=hk2;obtain⟨v,E',w',h1,h2,h3,h4⟩:=Aez hI (ty:=o.type) hd1 hd2 hye hne0 r1 r2 hS hflat hl (I7.1 hl') (Li.1 hc) (fun h=>by rw[h]at hne;simp at hne) hb;exact Does.val ho (Cu hF (by rw[Dc hlk];exact hw)) (by simp[execOp,hop,resolve,invoke,builtin,h1]) (.inl rfl) ⟨E',h2,h3,h4⟩
class TokC (tk:List Nat)(t v:Nat):Prop where
 h:tk[t]?=some v
instance{v:Nat}{l:List Nat}:TokC (v::l) 0 v:=⟨rfl⟩
instance{x v t:Nat}{l:List Nat} [h:TokC l t v]:TokC (x::l) (t+1) v:=⟨by simpa using h.h⟩
instance{bx:B3}{tk:List Nat}{n m t v:Nat}{rows:A7} [h1:TokC tk t v] [h2:LeC m t] [h3:OKR n m rows]:FzC ⟨bx,tk⟩ n m (.psl rows t v) (.sl rows .no):=⟨.psl rows t v h2.h h1.h h3.ok⟩
end
end Go.V
namespace Go.V
open Go Go.Proofs Go.Proofs.Tryz
def Io(e:Eg):An:=vi e.f::vi e.t::vi e.k::vb e.y::Ag e.n
def Fg(l:List Eg):A7:=l.map Io
theorem Kh(l:List Eg):(Fg l).length=l.length:=by simp[Fg]
theorem Uv(l:List Eg):∀r,r∈Fg l→r.length=8:=fun r h=>by obtain⟨e,_,rfl⟩:=zzq50.1 h;rfl
theorem Adi(l:List Eg)(e:Eg):Fg l++[Io e]=Fg (l++[e]):=by simp[Fg]
theorem Vf(n:Nd):∀x,x∈Ag n→Flat x:=fun x hx=>by
 have h:OKL 0 0 (Ag n):=inferInstance;exact(h.ok x hx).flat rfl rfl
theorem Afr(e:Eg):∀x,x∈Io e→Flat x:=fun x hx=>by
 simp only[Io,zzq8]at hx;rcases hx with rfl|rfl|rfl|rfl|hx
 ·exact .val _
 ·exact .val _
 ·exact .val _
 ·exact .val _
 ·exact Vf _ x hx
theorem Adh(e:Eg):∀r,r∈[Io e]→∀x,x∈r→NoT x:=fun r hr x hx=>by simp at hr;subst hr;exact(Afr e x hx).noT
instance{n m:Nat}{l:List Eg}:OKR n m (Fg l):=⟨fun r hr x hx=>by obtain⟨e,_,rfl⟩:=zzq50.1 hr;exact(Afr e x hx).ok⟩
abbrev mbx(p:Nat)(l:List Eg):A7:=[[vi p,.psl (Fg l) 0 l.length]]
theorem J1(p:Nat)(l:List Eg)(h:p≤1000000000000):Hands X 159 [.ptr 0 0 0] ⟨[mbx p l],[l.length]⟩ (vi p) ⟨[mbx (p+1) l],[l.length]⟩:=by
 refine Hands.run func159 ?_;have e1:IntKind.i64.wrap ((p:Int)+1)=((p+1:Nat):Int):=(Ac (by omega) (by omega)).trans (by omega);have e2:IntKind.i64.wrap (IntKind.i64.wrap ((p:Int)+1)-1)=(p:Int):=by rw[e1];exact(Ac (by omega) (by omega)).trans (by omega)
 refine Ix 2 (vi p) ?_ (Ci e2);refine Bl ⟨[mbx (p+1) l],[l.length]⟩ ?_ (by rw[mbx,←e1]);exact Bz func159 rfl rfl
theorem At0(p:Nat)(l:List Eg)(e:Eg)(hw:wN e.n≤1000000000)(hl:l.length≤1000000000) :
 Hands X 160 [.ptr 0 0 0,vi e.f,vi e.t,vi e.k,vb e.y,.agg (Ag e.n)] ⟨[mbx p l],[l.length]⟩ (.tup []) ⟨[mbx p (l++[e])],[(l++[e]).length]⟩:=by
 refine Hands.run func160 ?_;refine Eo 73728 ?_;refine B2 (Ad4 e.n hw) ?_;refine C4 (Pe (ver:=l.length) rfl (Uv l) (Adh e) ?_ (Adi l e) rfl rfl rfl rfl rfl rfl rfl rfl rfl rfl rfl rfl rfl rfl rfl rfl rfl) ?_
 ·rw[Kh];simp;omega
 refine A0 ?_;refine A0 ?_;refine C4 (Bg rfl rfl rfl rfl rfl rfl rfl) ?_;refine Bu ?_;refine Bl ⟨[mbx p (l++[e]),[Ag e.n]],[(l++[e]).length]⟩ ?_ (by simp);exact Ek func160 rfl rfl
structure Gb (g:Gr)(k:Nat):Prop where
 pt:g.pt<g.pts
 pts:g.pts+24*k≤100000000000
 es:g.es.length+24*k≤1000000000
theorem Gb.step{g g':Gr}{j k m:Nat}(h:Gb g m)(hl:g.le g' (bG j))(hm:j+k≤m):Gb g' k:=by
 obtain⟨l,h1,h2,_⟩:=hl.es;have:=hl.pts;have:=h.pts;have:=h.es;simp only[bG]at h2 this;refine⟨hl.pt,?_,?_⟩
 ·have:=hl.pts.2;simp only[bG]at this;omega
 ·rw[h1,F5];omega
theorem Gb.step1{g g':Gr}{j k m:Nat}(h:Gb g m)(hl:g.le g' j)(hj:j≤6*m)(hm:j+6*k≤6*m):Gb g' k:=by
 obtain⟨l,h1,h2,_⟩:=hl.es;have:=hl.pts;have:=h.pts;have:=h.es;refine⟨hl.pt,by omega,?_⟩;rw[h1,F5];omega
abbrev gSt(g:Gr):St:=⟨[mbx g.pts g.es],[g.es.length]⟩
def HSt(n:Nd):Prop:=∀(a:Nd)(g:Gr),Gb g (wN n)→Hands X 220 [.ptr 0 0 0,nd n,vi g.pt] (gSt g) (vi (gS n a g).pt) (gSt (gS n a g))
def HLs(l:List Nd):Prop:=∀(a:Nd)(g:Gr),Gb g (wL l)→Hands X 158 [.ptr 0 0 0,nd (.mk 30 [] 0 l),vi g.pt] (gSt g) (vi (gL l a g).pt) (gSt (gL l a g))
theorem Aon{l:List Nd}{i:Nat}{x:Nd}(hx:l[i]?=some x)(a:Nd)(g:Gr):gL (l.take (i+1)) a g=gS x ((l.take i).getLastD a) (gL (l.take i) a g):=by
 rw[Hq,hx];simp only[Aha];rw[Aty];rfl
theorem Ap4{l:List Nd}{i:Nat}{x:Nd}(hx:l[i]?=some x):wL (l.take i)+wN x≤wL l:=by
 have h:l.take (i+1)=l.take i++[x]:=by rw[Hq,hx];rfl
 have h1:wL (l.take (i+1))+wL (l.drop (i+1))=wL l:=by rw[←Vr,Ag9]
 rw[h,Vr]at h1;simp only[wL]at h1;omega
theorem Ah5{l:List Nd}(hp:∀x,x∈l→PS x)(hs:∀x,x∈l→HSt x):HLs l:=by
 intro a g hb;have hlw:=M9 l;have hbe:=hb.es;refine Hands.run func158 ?_;refine Ar (ι:=Nat) 2 1 (fun i=>i≤l.length) (fun i=>[(7,vi i),(0,.ptr 0 0 0),(2,vi (gL (l.take i) a g).pt),(4,.ptr 1 0 0)])
  (fun i=>⟨[mbx (gL (l.take i) a g).pts (gL (l.take i) a g).es,[Ag (.mk 30 [] 0 l)]],[(gL (l.take i) a g).es.length]⟩) (fun i=>l.length-i) ?_ 0
  (Cb _) ⟨rfl,rfl,rfl,rfl,trivial⟩
 intro i hi IH;have hgi:g.le (gL (l.take i) a g) (bG (wL (l.take i))):=M4 (fun x hx=>hp x (Ag7 hx)) a g hb.pt;refine Cp (fun h=>?_) (fun h=>?_)
 ·have hlt:i<l.length:=by have:=A6 h;rw[Ae]at this;simp at this;omega
  obtain⟨x,hx⟩:=Ab l hlt;have hwt:=Ap4 hx;have hbi:Gb (gL (l.take i) a g) (wN x):=hb.step hgi hwt;refine Bv i (by omega) (Ap (l:=l) hx) ?_;refine Af (τ':=[0]) [0] [0] (hs x (Bn hx) ((l.take i).getLastD a) _ hbi) ?_;rw[←Aon hx];exact IH (i+1) hlt (by omega) _ _ ⟨vsx (by omega),rfl,rfl,rfl,trivial⟩ rfl rfl rfl
 ·have:i=l.length:=by have:=Bd h;rw[Ae]at this;simp at this;omega
  subst this;rw[Jh]at hgi⊢;exact Bz func158 rfl rfl
theorem P9(p:Nat)(l:List Eg)(f t k:Int)(y:Bool)(n:Nd)(hw:wN n≤1000000000)(hl:l.length≤1000000000) :
 Hands X 160 [.ptr 0 0 0,vi f,vi t,vi k,vb y,nd n] ⟨[mbx p l],[l.length]⟩ (.tup []) ⟨[mbx p (l++[⟨f,t,k,y,n⟩])],[(l++[(⟨f,t,k,y,n⟩:Eg)]).length]⟩:=At0 p l ⟨f,t,k,y,n⟩ hw hl
theorem Sy(p:Nat)(l:List Eg)(f t k:Int)(y:Bool)(hl:l.length≤1000000000) :
 Hands X 160 [.ptr 0 0 0,vi f,vi t,vi k,vb y,.agg [vi 0,str [],vi 0,.sl [] .no]] ⟨[mbx p l],[l.length]⟩ (.tup []) ⟨[mbx p (l++[⟨f,t,k,y,Cm⟩])],[(l++[(⟨f,t,k,y,Cm⟩:Eg)]).length]⟩:=At0 p l ⟨f,t,k,y,Cm⟩ (by show wN Cm≤1000000000;decide) hl
abbrev gS3(p:Nat)(es:List Eg)(n:Nd):St:=⟨[mbx p es,[Ag n],[zN]],[es.length]⟩
set_option maxHeartbeats 2000000 in
theorem A2b{n:Nd}(h:PS n):HSt n:=by
 induction h with
 |set s x h hx=>
  intro a g hb;have b1:=hb.pts;have b2:=hb.es;refine Hands.run func220 ?_;rw[Aam];refine Ah ?_;refine Ah ?_;refine Ah ?_;refine Af (τ':=[0]) [0] [0] (J1 g.pts g.es (by omega)) ?_;refine Ay ?_;refine Af (τ':=[0]) [0] [0] (P9 (g.pts+1) g.es g.pt g.pts 1 false (.mk 21 s 0 [x]) (by omega) (by omega)) ?_;exact Bz func220 rfl rfl
 |put s x y h hx hy=>
  intro a g hb;have b1:=hb.pts;have b2:=hb.es;refine Hands.run func220 ?_;rw[Aal];refine Ah ?_;refine Ah ?_;refine Ah ?_;refine Af (τ':=[0]) [0] [0] (J1 g.pts g.es (by omega)) ?_;refine Ah ?_;refine Ay ?_;refine Af (τ':=[0]) [0] [0] (P9 (g.pts+1) g.es g.pt g.pts 2 false (.mk 22 s 0 [x,y]) (by omega) (by omega)) ?_;exact Bz func220 rfl rfl
 |read s h=>
  intro a g hb;have b1:=hb.pts;have b2:=hb.es;refine Hands.run func220 ?_;rw[Wc];refine Ah ?_;refine Ah ?_;refine Ah ?_;refine Af (τ':=[0]) [0] [0] (J1 g.pts g.es (by omega)) ?_;refine Ah ?_;refine Ah ?_;refine Ay ?_;refine Af (τ':=[0]) [0] [0] (P9 (g.pts+1) g.es g.pt g.pts 3 false (.mk 23 s 0 []) (by omega) (by omega)) ?_;exact Bz func220 rfl rfl
 |ifs c l l' hc hl hl' ihl ihl'=>
  intro a g hb;have b1:=hb.pts;have b2:=hb.es;refine Hands.run func220 ?_;have hwc:wN c<wN (.mk 24 [] 0 [c,.mk 30 [] 0 l,.mk 30 [] 0 l']):=Jx (n:=.mk 24 [] 0 [c,.mk 30 [] 0 l,.mk 30 [] 0 l']) (by simp);have hws:wN (.mk 24 [] 0 [c,.mk 30 [] 0 l,.mk 30 [] 0 l'])=3+wN c+wL l+wL l':=by simp only[wN,wL,Xi];omega
  rw[Afy];unfold gIf;refine Ah ?_;refine Ay ?_;refine Af (τ':=[0]) [0] [0] (J1 g.pts g.es (by omega)) ?_;refine Bl (gS3 (g.pts+1) g.es (.mk 24 [] 0 [c,.mk 30 [] 0 l,.mk 30 [] 0 l'])) ?_;refine Bv 0 (by omega) (Ap (l:=[c,.mk 30 [] 0 l,.mk 30 [] 0 l']) rfl) ?_;refine Af (τ':=[0]) [0] [0] (P9 (g.pts+1) g.es g.pt g.pts 4 true c (by omega) (by omega)) ?_;refine Bl (gS3 (g.pts+1) (g.es++[⟨g.pt,g.pts,4,true,c⟩]) (.mk 24 [] 0 [c,.mk 30 [] 0 l,.mk 30 [] 0 l'])) ?_;have l1:=Qq g.pt c true hb.pt;have c1:Gb (Ei g.pt c true g) (wL l):=hb.step1 l1 (by omega) (by omega);have a2:=M4 hl Cm _ c1.pt;have i1:Hands X 158 [.ptr 0 0 0,nd (.mk 30 [] 0 l),vi g.pts] ⟨[mbx (g.pts+1) (g.es++[⟨g.pt,g.pts,4,true,c⟩])],[(g.es++[(⟨g.pt,g.pts,4,true,c⟩:Eg)]).length]⟩ (vi (gL l Cm (Ei g.pt c true g)).pt) (gSt (gL l Cm (Ei g.pt c true g))):=Ah5 hl ihl Cm (Ei g.pt c true g) c1;refine Bv 1 (by omega) (Ap (l:=[c,.mk 30 [] 0 l,.mk 30 [] 0 l']) rfl) ?_;refine Af (τ':=[0]) [0] [0] i1 ?_;refine Bl (gS3 (gL l Cm (Ei g.pt c true g)).pts (gL l Cm (Ei g.pt c true g)).es (.mk 24 [] 0 [c,.mk 30 [] 0 l,.mk 30 [] 0 l'])) ?_;have l12:=l1.trans a2 (Bt _);generalize gL l Cm (Ei g.pt c true g)=g2 at *;have c2:Gb g2 (wL l'+1):=hb.step1 l12 (by simp only[bG];omega) (by simp only[bG];omega);have b3:=c2.pts;have b4:=c2.es;refine Af (τ':=[0]) [0] [0] (J1 g2.pts g2.es (by omega)) ?_;refine Bl (gS3 (g2.pts+1) g2.es (.mk 24 [] 0 [c,.mk 30 [] 0 l,.mk 30 [] 0 l'])) ?_;refine Bv 0 (by omega) (Ap (l:=[c,.mk 30 [] 0 l,.mk 30 [] 0 l']) rfl) ?_;refine Af (τ':=[0]) [0] [0] (P9 (g2.pts+1) g2.es g.pt g2.pts 4 false c (by omega) (by omega)) ?_;refine Bl (gS3 (g2.pts+1) (g2.es++[⟨g.pt,g2.pts,4,false,c⟩]) (.mk 24 [] 0 [c,.mk 30 [] 0 l,.mk 30 [] 0 l'])) ?_;have hp2:g.pt<g2.pts:=Ng hb.pt l12.pts.1;have l3:=Qq g.pt c false hp2;have c3:Gb (Ei g.pt c false g2) (wL l'):=c2.step1 l3 (by omega) (by omega);have a4:=M4 hl' Cm _ c3.pt;have i3:Hands X 158 [.ptr 0 0 0,nd (.mk 30 [] 0 l'),vi g2.pts] ⟨[mbx (g2.pts+1) (g2.es++[⟨g.pt,g2.pts,4,false,c⟩])],[(g2.es++[(⟨g.pt,g2.pts,4,false,c⟩:Eg)]).length]⟩ (vi (gL l' Cm (Ei g.pt c false g2)).pt) (gSt (gL l' Cm (Ei g.pt c false g2))):=Ah5 hl' ihl' Cm (Ei g.pt c false g2) c3;refine Bv 2 (by omega) (Ap (l:=[c,.mk 30 [] 0 l,.mk 30 [] 0 l']) rfl) ?_;refine Af (τ':=[0]) [0] [0] i3 ?_;refine Bl (gS3 (gL l' Cm (Ei g.pt c false g2)).pts (gL l' Cm (Ei g.pt c false g2)).es (.mk 24 [] 0 [c,.mk 30 [] 0 l,.mk 30 [] 0 l'])) ?_;have l34:=l3.trans a4 (Bt _);generalize gL l' Cm (Ei g.pt c false g2)=g4 at *;have c4:Gb g4 0:=c2.step1 l34 (by simp only[bG];omega) (by simp only[bG];omega);have b5:=c4.pts;have b6:=c4.es;have b7:=l34.es;refine Af (τ':=[0]) [0] [0] (J1 g4.pts g4.es (by omega)) ?_;refine Bl (gS3 (g4.pts+1) g4.es (.mk 24 [] 0 [c,.mk 30 [] 0 l,.mk 30 [] 0 l'])) ?_;refine Af (τ':=[0]) [0] [0] (Sy (g4.pts+1) g4.es g2.pt g4.pts 6 false (by omega)) ?_;refine Bl (gS3 (g4.pts+1) (g4.es++[⟨g2.pt,g4.pts,6,false,Cm⟩]) (.mk 24 [] 0 [c,.mk 30 [] 0 l,.mk 30 [] 0 l'])) ?_;refine Af (τ':=[0]) [0] [0] (Sy (g4.pts+1) (g4.es++[⟨g2.pt,g4.pts,6,false,Cm⟩]) g4.pt g4.pts 6 false ?_) ?_
  ·obtain⟨e1,e2,e3,_⟩:=l34.es;have:=c2.es;simp only[bG]at e3;rw[F5,e2,F5];simp only[Ab0];omega
  exact Bz func220 rfl rfl
 |whil c l hc hl ihl=>
  intro a g hb;have b1:=hb.pts;have b2:=hb.es;refine Hands.run func220 ?_;have hwc:wN c<wN (.mk 25 [] 0 [c,.mk 30 [] 0 l]):=Jx (n:=.mk 25 [] 0 [c,.mk 30 [] 0 l]) (by simp);have hws:wN (.mk 25 [] 0 [c,.mk 30 [] 0 l])=2+wN c+wL l:=by simp only[wN,wL,Xi];omega
  have hwn:=Xf c;rw[Afz];unfold gWh;refine Ah ?_;refine Ah ?_;refine Ay ?_;refine Af (τ':=[0]) [0] [0] (J1 g.pts g.es (by omega)) ?_;refine Bl (gS3 (g.pts+1) g.es (.mk 25 [] 0 [c,.mk 30 [] 0 l])) ?_;refine Af (τ':=[0]) [0] [0] (Sy (g.pts+1) g.es g.pt g.pts 6 false (by omega)) ?_;refine Bl (gS3 (g.pts+1) (g.es++[⟨g.pt,g.pts,6,false,Cm⟩]) (.mk 25 [] 0 [c,.mk 30 [] 0 l])) ?_;refine Af (τ':=[0]) [0] [0] (J1 (g.pts+1) _ (by omega)) ?_;refine Bl (gS3 (g.pts+1+1) (g.es++[⟨g.pt,g.pts,6,false,Cm⟩]) (.mk 25 [] 0 [c,.mk 30 [] 0 l])) ?_;refine Bv 0 (by omega) (Ap (l:=[c,.mk 30 [] 0 l]) rfl) ?_;refine Af (τ':=[0]) [0] [0] (P9 (g.pts+1+1) (g.es++[⟨g.pt,g.pts,6,false,Cm⟩]) g.pts (g.pts+1:Nat) 4 true c (by omega) (by simp;omega)) ?_;refine Bl (gS3 (g.pts+1+1) (g.es++[⟨g.pt,g.pts,6,false,Cm⟩]++[⟨g.pts,(g.pts+1:Nat),4,true,c⟩]) (.mk 25 [] 0 [c,.mk 30 [] 0 l])) ?_;have l1:=Mm 6 Cm hb.pt;have l2:=Ail a (.mk 25 [] 0 [c,.mk 30 [] 0 l]) l1.pt;have l12:=l1.trans l2 (Bt _);have hh:g.pts<(Ic a (.mk 25 [] 0 [c,.mk 30 [] 0 l]) (Dt 6 Cm g)).pts:=by simp[Ic,Dt]
  have l3:=Qq g.pts c true hh;have l123:=l12.trans l3 (Bt _);have c1:Gb (Ei g.pts c true (Ic a (.mk 25 [] 0 [c,.mk 30 [] 0 l]) (Dt 6 Cm g))) (wL l+1):=hb.step1 l123 (by omega) (by omega);have c1':Gb (Ei g.pts c true (Ic a (.mk 25 [] 0 [c,.mk 30 [] 0 l]) (Dt 6 Cm g))) (wL l):=⟨c1.pt,by have:=c1.pts;omega,by have:=c1.es;omega⟩
  have a2:=M4 hl Cm _ c1'.pt;have i1:Hands X 158 [.ptr 0 0 0,nd (.mk 30 [] 0 l),vi (g.pts+1:Nat)] ⟨[mbx (g.pts+1+1) (g.es++[⟨g.pt,g.pts,6,false,Cm⟩]++[⟨g.pts,(g.pts+1:Nat),4,true,c⟩])],[(g.es++[(⟨g.pt,g.pts,6,false,Cm⟩:Eg)]++[(⟨g.pts,(g.pts+1:Nat),4,true,c⟩:Eg)]).length]⟩
   (vi (gL l Cm (Ei g.pts c true (Ic a (.mk 25 [] 0 [c,.mk 30 [] 0 l]) (Dt 6 Cm g)))).pt) (gSt (gL l Cm (Ei g.pts c true (Ic a (.mk 25 [] 0 [c,.mk 30 [] 0 l]) (Dt 6 Cm g))))):=Ah5 hl ihl Cm _ c1'
  refine Bv 1 (by omega) (Ap (l:=[c,.mk 30 [] 0 l]) rfl) ?_;refine Af (τ':=[0]) [0] [0] i1 ?_;refine Bl (gS3 (gL l Cm (Ei g.pts c true (Ic a (.mk 25 [] 0 [c,.mk 30 [] 0 l]) (Dt 6 Cm g)))).pts (gL l Cm (Ei g.pts c true (Ic a (.mk 25 [] 0 [c,.mk 30 [] 0 l]) (Dt 6 Cm g)))).es (.mk 25 [] 0 [c,.mk 30 [] 0 l])) ?_;have l1234:=l123.trans a2 (Bt _);generalize gL l Cm (Ei g.pts c true (Ic a (.mk 25 [] 0 [c,.mk 30 [] 0 l]) (Dt 6 Cm g)))=g2 at *;have c2:Gb g2 0:=c1.step1 a2 (by simp only[bG];omega) (by simp only[bG];omega);have b3:=c2.pts;have b4:=c2.es;have b5:g2.es.length+1≤1000000000:=by
   obtain⟨e1,e2,e3,_⟩:=a2.es;have:=c1.es;simp only[bG]at e3;rw[e2,F5];omega
  refine Af (τ':=[0]) [0] [0] (Sy g2.pts g2.es g2.pt g.pts 6 false (by omega)) ?_;refine Bl (gS3 g2.pts (g2.es++[⟨g2.pt,g.pts,6,false,Cm⟩]) (.mk 25 [] 0 [c,.mk 30 [] 0 l])) ?_;refine Af (τ':=[0]) [0] [0] (J1 g2.pts _ (by omega)) ?_;refine Bl (gS3 (g2.pts+1) (g2.es++[⟨g2.pt,g.pts,6,false,Cm⟩]) (.mk 25 [] 0 [c,.mk 30 [] 0 l])) ?_;refine Bv 0 (by omega) (Ap (l:=[c,.mk 30 [] 0 l]) rfl) ?_;refine Af (τ':=[0]) [0] [0] (P9 (g2.pts+1) (g2.es++[⟨g2.pt,g.pts,6,false,Cm⟩]) g.pts g2.pts 4 false c (by omega) (by simp;omega)) ?_;exact Bz func220 rfl rfl
 |check c hc=>
  intro a g hb;have b1:=hb.pts;have b2:=hb.es;refine Hands.run func220 ?_;have hwc:wN c<wN (.mk 27 [] 0 [c]):=Jx (n:=.mk 27 [] 0 [c]) (by simp);rw[Q9];refine Ah ?_;refine Ah ?_;refine Ah ?_;refine Af (τ':=[0]) [0] [0] (J1 g.pts g.es (by omega)) ?_;refine Ah ?_;refine Ah ?_;refine Ah ?_;refine Ay ?_;refine Bv 0 (by omega) (Ap (l:=[c]) rfl) ?_;refine Af (τ':=[0]) [0] [0] (P9 (g.pts+1) g.es g.pt g.pts 5 false c (by omega) (by omega)) ?_;exact Bz func220 rfl rfl
 |skip=>
  intro a g hb;have b1:=hb.pts;have b2:=hb.es;refine Hands.run func220 ?_;rw[We];refine Ah ?_;refine Ah ?_;refine Ah ?_;refine Af (τ':=[0]) [0] [0] (J1 g.pts g.es (by omega)) ?_;refine Ah ?_;refine Ah ?_;refine Ah ?_;refine Ah ?_;refine Af (τ':=[0]) [0] [0] (Sy (g.pts+1) g.es g.pt g.pts 6 false (by omega)) ?_;exact Bz func220 rfl rfl
 |stop=>
  intro a g hb;have b1:=hb.pts;have b2:=hb.es;refine Hands.run func220 ?_;rw[Wg];refine Ay ?_;refine Af (τ':=[0]) [0] [0] (Sy g.pts g.es g.pt (-1) 7 false (by omega)) ?_;refine Af (τ':=[0]) [0] [0] (J1 g.pts _ (by omega)) ?_;exact Bz func220 rfl rfl
end Go.V
