/- A part of the proof of the claim that the last text states: no condition of its own. -/
import Derived.Test.YtojhghmilenfkaaGreatDoorQ5
set_option linter.unusedVariables false
set_option linter.unusedSimpArgs false
namespace Go.V
open Go Go.Proofs Go.Proofs.Tryz
def Tz(n:Nd):Bool:=decide (Al n≤500)&&decide (Dn n≤24)&&Cr n
theorem A24(n:Nd)(hn:wN n≤1000000000):Pure X 216 [nd n] (vb (Tz n)):=by
 have hc:=Pi n;have hz:∀a b:Nat,((a:Int)≤(b:Int))↔a≤b:=fun a b=>by omega
 refine Pure.run func216 ?_;refine Aj (Apc n (by omega)) ?_;refine Db (fun h1=>?_) (fun h1=>?_)
 ·have h1':Al n≤500:=by have:=A6 h1;omega
  refine Aj (Apd n (by omega)) ?_;refine Db (fun h2=>?_) (fun h2=>?_)
  ·have h2':Dn n≤24:=by have:=A6 h2;omega
   refine Aj (Auv n hn) ?_;refine Az func216 ?_;simp[Tz,h1',h2',De]
  ·have h2':¬Dn n≤24:=by have:=Bd h2;omega
   refine Az func216 ?_;simp[Tz,h2',De]
 ·have h1':¬Al n≤500:=by have:=Bd h1;omega
  refine Gm ?_;refine Az func216 ?_;simp[Tz,h1',De]
inductive FE:Nd→Prop
 |num (m:Int) (h0:0≤m) (h1:m≤1000000):FE (.mk 1 [] m [])
 |var (s:List UInt8) (h:nameS s=true):FE (.mk 2 s 0 [])
 |cell (s:List UInt8) (a:Nd) (h:nameS s=true) (ha:FE a):FE (.mk 3 s 0 [a])
 |len (s:List UInt8) (h:nameS s=true):FE (.mk 4 s 0 [])
 |neg (a:Nd) (ha:FE a):FE (.mk 5 [] 0 [a])
 |two (k:Int) (a b:Nd) (hk:k=6∨k=7∨k=8) (ha:FE a) (hb:FE b):FE (.mk k [] 0 [a,b])
inductive FC:Nd→Prop
 |mk (k:Int) (a b:Nd) (h0:11≤k) (h1:k≤16) (ha:FE a) (hb:FE b):FC (.mk k [] 0 [a,b])
inductive FS:Nd→Prop
 |set (s:List UInt8) (a:Nd) (h:nameS s=true) (ha:FE a):FS (.mk 21 s 0 [a])
 |put (s:List UInt8) (a b:Nd) (h:nameS s=true) (ha:FE a) (hb:FE b):FS (.mk 22 s 0 [a,b])
 |read (s:List UInt8) (h:nameS s=true):FS (.mk 23 s 0 [])
 |ifs (c:Nd) (l l':List Nd) (hc:FC c) (hl:∀x,x∈l→FS x) (hl':∀x,x∈l'→FS x):FS (.mk 24 [] 0 [c,.mk 30 [] 0 l,.mk 30 [] 0 l'])
 |whil (c:Nd) (l:List Nd) (hc:FC c) (hl:∀x,x∈l→FS x):FS (.mk 25 [] 0 [c,.mk 30 [] 0 l])
 |for_ (s:List UInt8) (a b:Nd) (l:List Nd) (h:nameS s=true) (ha:FE a) (hb:FE b) (hl:∀x,x∈l→FS x):FS (.mk 26 s 0 [a,b,.mk 30 [] 0 l])
 |check (c:Nd) (hc:FC c):FS (.mk 27 [] 0 [c])
 |skip:FS (.mk 28 [] 0 [])
 |stop:FS (.mk 29 [] 0 [])
inductive FV:Nd→Prop
 |var (s:List UInt8) (h:nameS s=true):FV (.mk 31 s 0 [])
 |arr (s:List UInt8) (m:Int) (h:nameS s=true) (h0:-1≤m) (h1:m≤1000000):FV (.mk 32 s m [])
inductive FP:Nd→Prop
 |mk (ds l:List Nd) (hd:∀x,x∈ds→FV x) (hl:∀x,x∈l→FS x):FP (.mk 40 [] 0 (ds++[.mk 30 [] 0 l]))
theorem Oy{s:Ad}(h:nameS s=true):s≠[]:=by rintro rfl;simp[nameS]at h
theorem Akc{l:List Nd}(h:(l.length:Int)=0):l=[]:=by
 cases l with
 |nil=>rfl
 |cons x l=>simp at h;omega
theorem Ayl{l:List Nd}(h:(l.length:Int)=1):∃a,l=[a]:=by
 match l with
 |[]=>simp at h
 |[a]=>exact⟨a,rfl⟩
 |_::_::_=>simp at h;omega
theorem Aq3{l:List Nd}(h:(l.length:Int)=2):∃a b,l=[a,b]:=by
 match l with
 |[]=>simp at h
 |[_]=>simp at h
 |[a,b]=>exact⟨a,b,rfl⟩
 |_::_::_::_=>simp at h;omega
theorem A5c{l:List Nd}(h:(l.length:Int)=3):∃a b c,l=[a,b,c]:=by
 match l with
 |[]=>simp at h
 |[_]=>simp at h
 |[_,_]=>simp at h
 |[a,b,c]=>exact⟨a,b,c,rfl⟩
 |_::_::_::_::_=>simp at h;omega
structure HeadF (k:Int)(s:List UInt8)(m:Int)(ks:List Nd)(len:Int)(nm:Bool):Prop where
 hl:0≤len→(ks.length:Int)=len
 hs:nm=!(s==[])
 hn:nm=true→nameS s=true
 hk:k=40→ks≠[]
 hm:Fv k m=true
theorem Af0{k:Int}{s:Ad}{m:Int}{ks:List Nd}(h:Iq k s m ks.length=true):(Bo k).2.2=true∧HeadF k s m ks (Bo k).1 (Bo k).2.1:=by
 simp only[Iq,Du,My,Mz,zzq34,N4]at h;obtain⟨⟨⟨⟨⟨h1,h2⟩,h3⟩,h4⟩,h5⟩,h6⟩:=h;refine⟨h1,⟨fun h0=>?_,h3,fun hn=>?_,fun h40 hnil=>?_,h6⟩⟩
 ·rcases h2 with h2|h2
  ·omega
  ·exact h2
 ·rcases h4 with h4|h4
  ·rw[hn]at h4;cases h4
  ·exact h4
 ·subst h40;subst hnil;simp at h5
theorem HeadF.no{k:Int}{s:Ad}{m:Int}{ks:List Nd}{len:Int}(h:HeadF k s m ks len false):s=[]:=by
 have:=h.hs;simpa using this
theorem HeadF.num0{k:Int}{s:Ad}{m:Int}{ks:List Nd}{len:Int}{b:Bool}(h:HeadF k s m ks len b)(h1:k≠1)(h2:k≠32):m=0:=by
 have:=h.hm;simpa[Fv,h1,h2]using this
theorem Lm{p:Nd}:∀{l:List Nd}{i:Nat},E7 p i l=true→∀(j:Nat)(x:Nd),l[j]?=some x→Lf p ((i+j:Nat):Int) x.kind=true∧Cr x=true
 |[],i,_,j,x,h=>by simp at h
 |y::l,i,hf,j,x,h=>by
  simp only[E7,Du]at hf;cases j with
  |zero=>simp at h;subst h;exact⟨hf.1,hf.2.1⟩
  |succ j=>
   have:=Lm hf.2.2 j x (by simpa using h);rw[show i+(j+1)=i+1+j by omega];exact this
theorem Ck{n lo hi:Int}:A8 n lo hi=true↔lo≤n∧n≤hi:=by simp[A8]
@[simp] theorem Nn(k:Int)(s:Ad)(m:Int)(ks:List Nd):(Nd.mk k s m ks).kind=k:=rfl
@[simp] theorem Wl(k:Int)(s:Ad)(m:Int)(ks:List Nd):(Nd.mk k s m ks).name=s:=rfl
@[simp] theorem Aa2(k:Int)(s:Ad)(m:Int)(ks:List Nd):(Nd.mk k s m ks).num=m:=rfl
@[simp] theorem G4(k:Int)(s:Ad)(m:Int)(ks:List Nd):(Nd.mk k s m ks).kids=ks:=rfl
theorem Aub{n:Nd}{i k:Int}(h:n.kind<24):Lf n i k=K7 k:=by
 unfold Lf;rw[if_neg (show ¬(n.kind=24∨n.kind=25∨n.kind=27) by omega),if_neg (show ¬(n.kind=26∧i=2) by omega),if_neg (show ¬n.kind=30 by omega),if_neg (show ¬n.kind=40 by omega)]
theorem Aig{n:Nd}{i k:Int}(h:n.kind=40):Lf n i k=if i=n.kids.length-1 then k==30 else k==31||k==32:=by
 unfold Lf;rw[if_neg (show ¬(n.kind=24∨n.kind=25∨n.kind=27) by omega),if_neg (show ¬(n.kind=26∧i=2) by omega),if_neg (show ¬n.kind=30 by omega),if_pos h]
theorem Afc(n:Nd)(hf:Cr n=true)(hk:K7 n.kind=true):FE n:=by
 induction n using Nd.ind with
 |h n ih=>
 obtain⟨k,s,m,ks⟩:=n;simp only[Nn,K7,Ck]at hk;rw[Le,Du]at hf;simp only[Nn,Wl,Aa2,G4]at hf ih;obtain⟨h1,h2⟩:=hf;have hall:=Lm h2;have kidE:∀(j:Nat) (x:Nd),ks[j]?=some x→FE x:=fun j x hx=>by
  obtain⟨h3,h4⟩:=hall j x hx;refine ih x (Bn hx) h4 ?_;rwa[Aub (by simp;omega)]at h3
 obtain⟨_,hH⟩:=Af0 h1;have:k=1∨k=2∨k=3∨k=4∨k=5∨k=6∨k=7∨k=8:=by omega
 rcases this with rfl|rfl|rfl|rfl|rfl|rfl|rfl|rfl
 ·rw[show Bo 1=(0,false,true) by simp[Bo]]at hH;obtain rfl:=Akc (hH.hl (by simp));obtain rfl:=hH.no;have:=hH.hm;simp only[Fv,if_true,Ck]at this;exact .num m this.1 this.2
 ·rw[show Bo 2=(0,true,true) by simp[Bo]]at hH;obtain rfl:=Akc (hH.hl (by simp));obtain rfl:=hH.num0 (by simp) (by simp);exact .var s (hH.hn rfl)
 ·rw[show Bo 3=(1,true,true) by simp[Bo]]at hH;obtain⟨a,rfl⟩:=Ayl (hH.hl (by simp));obtain rfl:=hH.num0 (by simp) (by simp);exact .cell s a (hH.hn rfl) (kidE 0 a rfl)
 ·rw[show Bo 4=(0,true,true) by simp[Bo]]at hH;obtain rfl:=Akc (hH.hl (by simp));obtain rfl:=hH.num0 (by simp) (by simp);exact .len s (hH.hn rfl)
 ·rw[show Bo 5=(1,false,true) by simp[Bo]]at hH;obtain⟨a,rfl⟩:=Ayl (hH.hl (by simp));obtain rfl:=hH.num0 (by simp) (by simp);obtain rfl:=hH.no;exact .neg a (kidE 0 a rfl)
 ·rw[show Bo 6=(2,false,true) by simp[Bo]]at hH;obtain⟨a,b,rfl⟩:=Aq3 (hH.hl (by simp));obtain rfl:=hH.num0 (by simp) (by simp);obtain rfl:=hH.no;exact .two 6 a b (by simp) (kidE 0 a rfl) (kidE 1 b rfl)
 ·rw[show Bo 7=(2,false,true) by simp[Bo]]at hH;obtain⟨a,b,rfl⟩:=Aq3 (hH.hl (by simp));obtain rfl:=hH.num0 (by simp) (by simp);obtain rfl:=hH.no;exact .two 7 a b (by simp) (kidE 0 a rfl) (kidE 1 b rfl)
 ·rw[show Bo 8=(2,false,true) by simp[Bo]]at hH;obtain⟨a,b,rfl⟩:=Aq3 (hH.hl (by simp));obtain rfl:=hH.num0 (by simp) (by simp);obtain rfl:=hH.no;exact .two 8 a b (by simp) (kidE 0 a rfl) (kidE 1 b rfl)
theorem Asu(n:Nd)(hf:Cr n=true)(hk:Tb n.kind=true):FC n:=by
 obtain⟨k,s,m,ks⟩:=n;simp only[Nn,Tb,Ck]at hk;rw[Le,Du]at hf;simp only[Nn,Wl,Aa2,G4]at hf;obtain⟨h1,h2⟩:=hf;have hall:=Lm h2;have kidE:∀(j:Nat) (x:Nd),ks[j]?=some x→FE x:=fun j x hx=>by
  obtain⟨h3,h4⟩:=hall j x hx;refine Afc x h4 ?_;rwa[Aub (by simp;omega)]at h3
 obtain⟨_,hH⟩:=Af0 h1;rw[show Bo k=(2,false,true) by simp only[Bo];rw[if_neg (by omega),if_neg (by omega),if_neg (by omega),if_neg (by omega),if_pos (by omega)]]at hH;obtain⟨a,b,rfl⟩:=Aq3 (hH.hl (by simp));obtain rfl:=hH.num0 (by omega) (by omega);obtain rfl:=hH.no;exact .mk k a b hk.1 hk.2 (kidE 0 a rfl) (kidE 1 b rfl)
theorem A4u(n:Nd):Cr n=true→(Y8 n.kind=true→FS n)∧(n.kind=30→∃l,n=.mk 30 [] 0 l∧∀x,x∈l→FS x):=by
 induction n using Nd.ind with
 |h n ih=>
 intro hf;obtain⟨k,s,m,ks⟩:=n;rw[Le,Du]at hf;simp only[Nn,Wl,Aa2,G4]at hf ih⊢;obtain⟨h1,h2⟩:=hf;have hall:=Lm h2;obtain⟨_,hH⟩:=Af0 h1;have kid:∀(j:Nat) (x:Nd),ks[j]?=some x→Lf (.mk k s m ks) j x.kind=true:=fun j x hx=>by have:=(hall j x hx).1;rwa[Kr]at this
 have fm:∀(j:Nat) (x:Nd),ks[j]?=some x→Cr x=true:=fun j x hx=>(hall j x hx).2;have ihs:∀(j:Nat) (x:Nd),ks[j]?=some x→x.kind=30→∃l,x=.mk 30 [] 0 l∧∀x,x∈l→FS x:=fun j x hx=>(ih x (Bn hx) (fm j x hx)).2;refine⟨fun hk=>?_,fun hk=>?_⟩
 ·simp only[Y8,Ck]at hk;have:k=21∨k=22∨k=23∨k=24∨k=25∨k=26∨k=27∨k=28∨k=29:=by omega
  rcases this with rfl|rfl|rfl|rfl|rfl|rfl|rfl|rfl|rfl
  ·rw[show Bo 21=(1,true,true) by simp[Bo]]at hH;obtain⟨a,rfl⟩:=Ayl (hH.hl (by simp));obtain rfl:=hH.num0 (by simp) (by simp);have k0:=kid 0 a rfl;simp[Lf]at k0;exact .set s a (hH.hn rfl) (Afc a (fm 0 a rfl) k0)
  ·rw[show Bo 22=(2,true,true) by simp[Bo]]at hH;obtain⟨a,b,rfl⟩:=Aq3 (hH.hl (by simp));obtain rfl:=hH.num0 (by simp) (by simp);have k0:=kid 0 a rfl;have k1:=kid 1 b rfl;simp[Lf]at k0 k1;exact .put s a b (hH.hn rfl) (Afc a (fm 0 a rfl) k0) (Afc b (fm 1 b rfl) k1)
  ·rw[show Bo 23=(0,true,true) by simp[Bo]]at hH;obtain rfl:=Akc (hH.hl (by simp));obtain rfl:=hH.num0 (by simp) (by simp);exact .read s (hH.hn rfl)
  ·rw[show Bo 24=(3,false,true) by simp[Bo]]at hH;obtain⟨c,a,b,rfl⟩:=A5c (hH.hl (by simp));obtain rfl:=hH.num0 (by simp) (by simp);obtain rfl:=hH.no;have k0:=kid 0 c rfl;have k1:=kid 1 a rfl;have k2:=kid 2 b rfl;simp[Lf]at k0 k1 k2;obtain⟨l,rfl,hl⟩:=ihs 1 a rfl k1;obtain⟨l',rfl,hl'⟩:=ihs 2 b rfl k2;exact .ifs c l l' (Asu c (fm 0 c rfl) k0) hl hl'
  ·rw[show Bo 25=(2,false,true) by simp[Bo]]at hH;obtain⟨c,a,rfl⟩:=Aq3 (hH.hl (by simp));obtain rfl:=hH.num0 (by simp) (by simp);obtain rfl:=hH.no;have k0:=kid 0 c rfl;have k1:=kid 1 a rfl;simp[Lf]at k0 k1;obtain⟨l,rfl,hl⟩:=ihs 1 a rfl k1;exact .whil c l (Asu c (fm 0 c rfl) k0) hl
  ·rw[show Bo 26=(3,true,true) by simp[Bo]]at hH;obtain⟨a,b,d,rfl⟩:=A5c (hH.hl (by simp));obtain rfl:=hH.num0 (by simp) (by simp);have k0:=kid 0 a rfl;have k1:=kid 1 b rfl;have k2:=kid 2 d rfl;simp[Lf]at k0 k1 k2;obtain⟨l,rfl,hl⟩:=ihs 2 d rfl k2;exact .for_ s a b l (hH.hn rfl) (Afc a (fm 0 a rfl) k0) (Afc b (fm 1 b rfl) k1) hl
  ·rw[show Bo 27=(1,false,true) by simp[Bo]]at hH;obtain⟨c,rfl⟩:=Ayl (hH.hl (by simp));obtain rfl:=hH.num0 (by simp) (by simp);obtain rfl:=hH.no;have k0:=kid 0 c rfl;simp[Lf]at k0;exact .check c (Asu c (fm 0 c rfl) k0)
  ·rw[show Bo 28=(0,false,true) by simp[Bo]]at hH;obtain rfl:=Akc (hH.hl (by simp));obtain rfl:=hH.num0 (by simp) (by simp);obtain rfl:=hH.no;exact .skip
  ·rw[show Bo 29=(0,false,true) by simp[Bo]]at hH;obtain rfl:=Akc (hH.hl (by simp));obtain rfl:=hH.num0 (by simp) (by simp);obtain rfl:=hH.no;exact .stop
 ·subst hk;rw[show Bo 30=(-1,false,true) by simp[Bo]]at hH;obtain rfl:=hH.num0 (by simp) (by simp);obtain rfl:=hH.no;refine⟨ks,rfl,fun x hx=>?_⟩;obtain⟨j,hj⟩:=B9 hx;have k0:=kid j x hj;simp[Lf]at k0;exact(ih x hx (fm j x hj)).1 k0
theorem A4v(n:Nd)(hf:Cr n=true)(hk:n.kind=31∨n.kind=32):FV n:=by
 obtain⟨k,s,m,ks⟩:=n;rw[Le,Du]at hf;simp only[Nn,Wl,Aa2,G4]at hf hk;obtain⟨h1,h2⟩:=hf;obtain⟨_,hH⟩:=Af0 h1;rcases hk with rfl|rfl
 ·rw[show Bo 31=(0,true,true) by simp[Bo]]at hH;obtain rfl:=Akc (hH.hl (by simp));obtain rfl:=hH.num0 (by simp) (by simp);exact .var s (hH.hn rfl)
 ·rw[show Bo 32=(0,true,true) by simp[Bo]]at hH;obtain rfl:=Akc (hH.hl (by simp));have:=hH.hm;simp[Fv,Ck]at this;exact .arr s m (hH.hn rfl) this.1 this.2
theorem A0r(n:Nd)(hf:Cr n=true)(hk:n.kind=40):FP n:=by
 obtain⟨k,s,m,ks⟩:=n;rw[Le,Du]at hf;simp only[Nn,Wl,Aa2,G4]at hf hk;subst hk;obtain⟨h1,h2⟩:=hf;have hall:=Lm h2;obtain⟨_,hH⟩:=Af0 h1;rw[show Bo 40=(-1,false,true) by simp[Bo]]at hH;obtain rfl:=hH.num0 (by simp) (by simp);obtain rfl:=hH.no;have hne:=hH.hk rfl;have kid:∀(j:Nat) (x:Nd),ks[j]?=some x→Lf (.mk 40 [] 0 ks) j x.kind=true:=fun j x hx=>by have:=(hall j x hx).1;rwa[Kr]at this
 have fm:∀(j:Nat) (x:Nd),ks[j]?=some x→Cr x=true:=fun j x hx=>(hall j x hx).2;have hpos:0<ks.length:=zzq45.2 hne;obtain⟨b,hb⟩:=Ab ks (i:=ks.length-1) (by omega);have hsplit:ks=ks.take (ks.length-1)++[b]:=by
  conv=>lhs;rw[←Ag9 (ks.length-1) ks]
  congr 1;rw[Ap5 (by omega),Aet (by omega)];have:=Xg (l:=ks) (i:=ks.length-1) (by omega);rw[hb]at this;rw[←Option.some.inj this]
 have kb:=kid _ b hb;rw[Aig rfl,if_pos (by rw[G4];omega)]at kb;obtain⟨l,rfl,hl⟩:=(A4u b (fm _ b hb)).2 (by simpa using kb);rw[hsplit];refine .mk _ l (fun x hx=>?_) hl;obtain⟨j,hj⟩:=B9 hx;have hjl:=Aa hj;rw[Zz]at hjl;have hj':ks[j]?=some x:=by rw[Z0,if_pos (by omega)]at hj;exact hj
 have kx:=kid j x hj';rw[Aig rfl,if_neg (by rw[G4];omega)]at kx;exact A4v x (fm j x hj') (by simpa using kx)
def Mp(k:Int):Int:=if k=6∨k=7 then 1 else if k=8 then 2 else 3
def Mt(l:Int)(k:Int)(t:Ad):Ad:=if Mp k<l then[40]++t++[41]else t
def Vn(k:Int):Ad:=if k=11 then[60]else if k=12 then[60,61]else if k=13 then[62]else if k=14 then[62,61]else if k=15 then[61,61]else[33,61]
def B5:Nd→Ad
 |.mk k s m []=>if k=1 then Ms m.toNat else if k=4 then[108,101,110,40]++s++[41]else s
 |.mk k s _ [a]=>if k=3 then s++[91]++B5 a++[93]else[45]++Mt 3 a.kind (B5 a)
 |.mk k _ _ (a::b::_)=>
  if k=6 then Mt 1 a.kind (B5 a)++[32,43,32]++Mt 2 b.kind (B5 b)
  else if k=7 then Mt 1 a.kind (B5 a)++[32,45,32]++Mt 2 b.kind (B5 b)
  else if k=8 then Mt 2 a.kind (B5 a)++[32,42,32]++Mt 3 b.kind (B5 b)
  else B5 a++[32]++Vn k++[32]++B5 b
theorem K3(l k:Int)(t:Ad):(Mt l k t).length≤t.length+2:=by
 unfold Mt;split<;>simp
theorem Aee(k:Int):(Vn k).length≤2:=by
 unfold Vn;repeat' split
 all_goals simp
theorem A18(d n:Nat)(h:n<10^(d+1)):(Ms n).length≤d+1:=by
 induction d generalizing n with
 |zero=>unfold Ms;rw[if_pos (by simpa using h)];simp
 |succ d ih=>
  unfold Ms;split
  ·simp
  ·have:=ih (n/10) (by rw[Nat.pow_succ]at h;omega);simp;omega
theorem V7(n:Nat)(h:n≤1000000):(Ms n).length≤7:=A18 6 n (by omega)
theorem F7(n:Nd)(h:FE n):(B5 n).length≤12*wN n:=by
 induction h with
 |num m h0 h1=>
  have:=V7 m.toNat (by omega)
  simp only[B5,wN,if_true];omega
 |var s h=>simp[B5,wN];omega
 |cell s a h ha ih=>simp[B5,wN,wL];omega
 |len s h=>simp[B5,wN];omega
 |neg a ha ih=>have:=K3 3 a.kind (B5 a);simp[B5,wN,wL];omega
 |two k a b hk ha hb iha ihb=>
  have h1:=K3 1 a.kind (B5 a);have h2:=K3 2 a.kind (B5 a);have h3:=K3 2 b.kind (B5 b);have h4:=K3 3 b.kind (B5 b);rcases hk with rfl|rfl|rfl
  ·simp[B5,wN,wL];omega
  ·simp[B5,wN,wL];omega
  ·simp[B5,wN,wL];omega
theorem O8(n:Nd)(h:FC n):(B5 n).length≤12*wN n:=by
 cases h with
 |mk k a b h0 h1 ha hb=>
  have:=F7 a ha;have:=F7 b hb;have:=Aee k;simp only[B5];rw[if_neg (by omega),if_neg (by omega),if_neg (by omega)];simp[wN,wL];omega
theorem W4(a:Nd)(l:List Nd):(Av (a::l))[(0:Int).toNat]?=some (Ag a):=by cases a;rfl
theorem Ae5(a b:Nd)(l:List Nd):(Av (a::b::l))[(1:Int).toNat]?=some (Ag b):=by cases b;rfl
theorem Az1(a b c:Nd)(l:List Nd):(Av (a::b::c::l))[(2:Int).toNat]?=some (Ag c):=by cases c;rfl
theorem Ay5(k:Int):Pure X 310 [vi k] (vi (Mp k)):=by
 refine Pure.run func310 ?_
 repeat' (refine Ai (fun _=>?_) (fun _=>?_))
 all_goals refine Az func310 ?_
 all_goals (simp_all [Mp,De])
theorem Tl(n:Nd)(l:Int)(t:Ad)(ht:t.length≤100000000000)(h:Pure X 261 [nd n] (str t)):Pure X 281 [nd n,vi l] (str (Mt l n.kind t)):=by
 refine Pure.run func281 ?_;refine Aj (Ay5 n.kind) ?_;refine Ai (fun h1=>?_) (fun h1=>?_)
 ·have h1':=A6 h1;refine Aj h ?_;refine Fy ?_ ?_
  ·simp;omega
  refine Fy ?_ ?_
  ·simp;omega
  refine Az func281 ?_;simp[Mt,h1',De]
 ·have h1':=Bd h1;refine Aj h ?_;refine Az func281 ?_;simp[Mt,h1',De]
theorem Tm(n:Nd)(h:FE n)(hn:wN n≤1000000000):Pure X 261 [nd n] (str (B5 n)):=by
 induction h with
 |num m h0 h1=>
  obtain⟨q,rfl⟩:∃q:Nat,m=q:=⟨m.toNat,by omega⟩
  refine Pure.run func261 ?_;refine Ay ?_;refine Aj (Akn q (by omega)) ?_;refine Az func261 ?_;simp[B5,De]
 |var s h=>
  refine Pure.run func261 ?_;refine Ah ?_;refine Ay ?_;refine Az func261 ?_;simp[B5,De]
 |cell s a h ha ih=>
  have hl:=F7 a ha;simp[wN,wL]at hn;refine Pure.run func261 ?_;refine Ah ?_;refine Ah ?_;refine Ay ?_;refine Eo 0 ?_;refine D1 ?_ ?_
  ·simp;omega
  refine Dk 0 (by omega) (W4 a _) ?_;refine B2 (ih (by omega)) ?_;refine D1 ?_ ?_
  ·simp;omega
  refine D1 ?_ ?_
  ·simp;omega
  refine Bu ?_;refine Az func261 ?_;simp[B5,De]
 |len s h=>
  simp[wN,wL]at hn;refine Pure.run func261 ?_;refine Ah ?_;refine Ah ?_;refine Ah ?_;refine Ay ?_;refine Fy ?_ ?_
  ·simp;omega
  refine Fy ?_ ?_
  ·simp;omega
  refine Az func261 ?_;simp[B5,De]
 |neg a ha ih=>
  have hl:=F7 a ha;have hp:=K3 3 a.kind (B5 a);simp[wN,wL]at hn;refine Pure.run func261 ?_;refine Ah ?_;refine Ah ?_;refine Ah ?_;refine Ah ?_;refine Ay ?_;refine Bv 0 (by omega) (W4 a _) ?_;refine Aj (Tl a 3 (B5 a) (by omega) (ih (by omega))) ?_;refine Fy ?_ ?_
  ·simp;omega
  refine Az func261 ?_;simp[B5,De]
 |two k a b hk ha hb iha ihb=>
  have hla:=F7 a ha;have hlb:=F7 b hb;have h1:=K3 1 a.kind (B5 a);have h2:=K3 2 a.kind (B5 a);have h3:=K3 2 b.kind (B5 b);have h4:=K3 3 b.kind (B5 b);simp[wN,wL]at hn;refine Pure.run func261 ?_;rcases hk with rfl|rfl|rfl
  ·refine Ah ?_;refine Ah ?_;refine Ah ?_;refine Ah ?_;refine Ah ?_;refine Ay ?_;refine Eo 0 ?_;refine Dk 0 (by omega) (W4 a _) ?_;refine B2 (Tl a 1 (B5 a) (by omega) (iha (by omega))) ?_;refine D1 ?_ ?_
   ·simp;omega
   refine Dk 1 (by omega) (Ae5 a b _) ?_;refine B2 (Tl b 2 (B5 b) (by omega) (ihb (by omega))) ?_;refine D1 ?_ ?_
   ·simp;omega
   refine Bu ?_;refine Az func261 ?_;simp[B5,De]
  ·refine Ah ?_;refine Ah ?_;refine Ah ?_;refine Ah ?_;refine Ah ?_;refine Ah ?_;refine Ay ?_;refine Eo 0 ?_;refine Dk 0 (by omega) (W4 a _) ?_;refine B2 (Tl a 1 (B5 a) (by omega) (iha (by omega))) ?_;refine D1 ?_ ?_
   ·simp;omega
   refine Dk 1 (by omega) (Ae5 a b _) ?_;refine B2 (Tl b 2 (B5 b) (by omega) (ihb (by omega))) ?_;refine D1 ?_ ?_
   ·simp;omega
   refine Bu ?_;refine Az func261 ?_;simp[B5,De]
  ·refine Ah ?_;refine Ah ?_;refine Ah ?_;refine Ah ?_;refine Ah ?_;refine Ah ?_;refine Ah ?_;refine Ay ?_;refine Eo 0 ?_;refine Dk 0 (by omega) (W4 a _) ?_;refine B2 (Tl a 2 (B5 a) (by omega) (iha (by omega))) ?_;refine D1 ?_ ?_
   ·simp;omega
   refine Dk 1 (by omega) (Ae5 a b _) ?_;refine B2 (Tl b 3 (B5 b) (by omega) (ihb (by omega))) ?_;refine D1 ?_ ?_
   ·simp;omega
   refine Bu ?_;refine Az func261 ?_;simp[B5,De]
theorem Air(n:Nd)(h:FC n)(hn:wN n≤1000000000):Pure X 261 [nd n] (str (B5 n)):=by
 cases h with
 |mk k a b h0 h1 ha hb=>
  have hla:=F7 a ha;have hlb:=F7 b hb;have hr:=Aee k;simp[wN,wL]at hn;refine Pure.run func261 ?_;have ne:∀j:Int,j<11→(k==j)=false:=fun j hj=>by simp;omega
  refine Ah ?_ (ht:=ne 1 (by omega));refine Ah ?_ (ht:=ne 2 (by omega));refine Ah ?_ (ht:=ne 3 (by omega));refine Ah ?_ (ht:=ne 4 (by omega));refine Ah ?_ (ht:=ne 5 (by omega));refine Ah ?_ (ht:=ne 6 (by omega));refine Ah ?_ (ht:=ne 7 (by omega));refine Ah ?_ (ht:=ne 8 (by omega));have hw:IntKind.i64.wrap (k-11)=k-11:=Ac (by omega) (by omega);have hrel:(Eu [[60],[60,61],[62],[62,61],[61,61],[33,61]])[(IntKind.i64.wrap (k-11)).toNat]?=some [str (Vn k)]:=by
   rw[hw];have:k=11∨k=12∨k=13∨k=14∨k=15∨k=16:=by omega
   rcases this with rfl|rfl|rfl|rfl|rfl|rfl<;>rfl
  have hT:B5 (.mk k [] 0 [a,b])=B5 a++[32]++Vn k++[32]++B5 b:=by
   simp only[B5];rw[if_neg (by omega),if_neg (by omega),if_neg (by omega)]
  rw[hT];refine Eo 0 ?_;refine Dk 0 (by omega) (W4 a _) ?_;refine B2 (Tm a ha (by omega)) ?_;refine D1 ?_ ?_
  ·simp;omega
  refine Dk (IntKind.i64.wrap (k-11)) (by omega) hrel ?_;refine D1 ?_ ?_
  ·simp;omega
  refine D1 ?_ ?_
  ·simp;omega
  refine Dk 1 (by omega) (Ae5 a b _) ?_;refine B2 (Tm b hb (by omega)) ?_;refine D1 ?_ ?_
  ·simp;omega
  refine Bu ?_;refine Az func261 ?_;simp[De]
mutual
def Cs:Nd→List UInt8→List UInt8
 |.mk k s m [],p=>
  if k=31 then p++[118,97,114,32]++s++[59,10]
  else if k=32 then p++[97,114,114,97,121,32]++s++[91]++(if 0≤m then Ms m.toNat else[63])++[93,59,10]
  else if k=23 then p++[114,101,97,100,32]++s++[59,10]
  else if k=28 then p++[115,107,105,112,59,10]
  else p++[115,116,111,112,59,10]
 |.mk k s _ [a],p=>
  if k=21 then p++s++[32,61,32]++B5 a++[59,10]
  else p++[99,104,101,99,107,32]++B5 a++[59,10]
 |.mk k s _ [a,.mk k' s' m' l],p=>
  if k=22 then p++s++[91]++B5 a++[93,32,61,32]++B5 (.mk k' s' m' l)++[59,10]
  else p++[119,104,105,108,101,32]++B5 a++[32,123,10]++I2 l (p++[32,32])++p++[125,10]
 |.mk k s _ (a::.mk k' s' m' l'::.mk _ _ _ l::_),p=>
  if k=26 then p++[102,111,114,32]++s++[32,102,114,111,109,32]++B5 a++[32,116,111,32]++B5 (.mk k' s' m' l')++[32,123,10]++I2 l (p++[32,32])++p++[125,10]
  else p++[105,102,32]++B5 a++[32,123,10]++I2 l' (p++[32,32])++p ++
   (match l with
     |[]=>[]
     |_=>[125,32,101,108,115,101,32,123,10]++I2 l (p++[32,32])++p)++[125,10]
def I2:List Nd→List UInt8→List UInt8
 |[],_=>[]
 |x::l,p=>Cs x p++I2 l p
end
theorem G8{l:List Nd}{x:Nd}(h:x∈l):Dn x≤G7 l:=by
 induction l with
 |nil=>cases h
 |cons y l ih=>
  simp only[G7];rcases zzq8.1 h with rfl|h
  ·omega
  ·have:=ih h;omega
theorem Td(l:List Nd)(p:Ad):I2 l p=(l.map fun x=>Cs x p).flatten:=by
 induction l with
 |nil=>simp[I2]
 |cons x l ih=>simp[I2,ih]
theorem Adl{l:List Nd}{f:Nd→Ad}(h:∀x,x∈l→(f x).length≤4060*wN x):(l.map f).flatten.length≤4060*wL l:=by
 induction l with
 |nil=>simp
 |cons x l ih=>
  have h1:=h x (by simp);have h2:=ih fun y hy=>h y (by simp[hy]);simp only[Om,List.flatten_cons,F5,wL];omega
theorem Re{l:List Nd}{p:Ad}(h:∀x,x∈l→(Cs x p).length≤4060*wN x):(I2 l p).length≤4060*wL l:=by
 rw[Td];exact Adl h
theorem Aq5(x:Nd)(h:FV x)(p:Ad)(hp:p.length≤1000):(Cs x p).length≤4060*wN x:=by
 cases h with
 |var s h=>simp[Cs,wN];omega
 |arr s m h h0 h1=>
  have:=V7 m.toNat (by omega)
  simp[Cs,wN];by_cases h0:0≤m
  ·simp[h0];omega
  ·simp[h0];omega
theorem Af8(x:Nd)(h:FS x):∀p:Ad,p.length+2*Dn x≤1000→(Cs x p).length≤4060*wN x:=by
 induction h with
 |set s a h ha=>intro p hp;have:=F7 a ha;simp[Cs,wN,wL];omega
 |put s a b h ha hb=>
  intro p hp;have h1:=F7 a ha;have h2:=F7 b hb;obtain⟨k',s',m',l'⟩:=b;simp only[Cs,wN,wL]at h2⊢;simp;omega
 |read s h=>intro p hp;simp[Cs,wN];omega
 |ifs c l l' hc hl hl' ihl ihl'=>
  intro p hp;have h1:=O8 c hc;simp only[Dn,G7]at hp;have hL:=Re (l:=l) (p:=p++[32,32]) fun x hx=>ihl x hx _ (by have:=G8 hx;simp;omega);have hL':=Re (l:=l') (p:=p++[32,32]) fun x hx=>ihl' x hx _ (by have:=G8 hx;simp;omega);simp only[Cs,wN,wL];cases l' with
  |nil=>simp;omega
  |cons y l'=>simp at hL'⊢;omega
 |whil c l hc hl ihl=>
  intro p hp;have h1:=O8 c hc;simp only[Dn,G7]at hp;have hL:=Re (l:=l) (p:=p++[32,32]) fun x hx=>ihl x hx _ (by have:=G8 hx;simp;omega);simp[Cs,wN,wL];omega
 |for_ s a b l h ha hb hl ihl=>
  intro p hp;have h1:=F7 a ha;have h2:=F7 b hb;simp only[Dn,G7]at hp;have hL:=Re (l:=l) (p:=p++[32,32]) fun x hx=>ihl x hx _ (by have:=G8 hx;simp;omega);obtain⟨k',s',m',l'⟩:=b;simp only[Cs,wN,wL]at h2⊢;simp;omega
 |check c hc=>intro p hp;have:=O8 c hc;simp[Cs,wN,wL];omega
 |skip=>intro p hp;simp[Cs,wN];omega
 |stop=>intro p hp;simp[Cs,wN];omega
theorem Ape(k:Int)(hk:k=30∨k=40)(ks:List Nd)(f:Nd→Ad)(p:Ad)(hp:p.length≤1000)(hw:wL ks≤100000)
 (hf:∀x,x∈ks→Pure X 217 [nd x,str p] (str (f x))∧(f x).length≤4060*wN x):Pure X 217 [nd (.mk k [] 0 ks),str p] (str (ks.map f).flatten):=by
 generalize hT:(ks.map f).flatten=T;have ne:∀j:Int,j≠30→j≠40→(k==j)=false:=fun j h1 h2=>by simp;omega
 have hkl:ks.length≤100000:=by
  have h1:=Ho (.mk k [] 0 ks);rw[Xf]at h1;simp at h1;omega
 refine Pure.run func217 ?_;refine Fy ?_ ?_
 ·simp;omega
 refine Ah ?_ (ht:=ne 31 (by omega) (by omega));refine Ah ?_ (ht:=ne 32 (by omega) (by omega));refine Ah ?_ (ht:=ne 21 (by omega) (by omega));refine Ah ?_ (ht:=ne 22 (by omega) (by omega));refine Ah ?_ (ht:=ne 23 (by omega) (by omega));refine Ah ?_ (ht:=ne 27 (by omega) (by omega));refine Ah ?_ (ht:=ne 28 (by omega) (by omega));refine Ah ?_ (ht:=ne 29 (by omega) (by omega));refine Ah ?_ (ht:=ne 25 (by omega) (by omega));refine Ah ?_ (ht:=ne 26 (by omega) (by omega));refine Ah ?_ (ht:=ne 24 (by omega) (by omega));refine Ar (ι:=Nat) 1 0 (fun i=>i≤ks.length) (fun i=>[(9,vi i),(8,str ((ks.take i).map f).flatten),(2,.ptr 0 0 0),(1,str p)]) (fun _=>⟨[[Ag (.mk k [] 0 ks)]],[]⟩) (fun i=>ks.length-i) ?_ 0 (Cb _)
  ⟨rfl,rfl,rfl,rfl,trivial⟩
 intro i hi IH;refine Cp (fun h=>?_) (fun h=>?_)
 ·have hlt:i<ks.length:=by have:=A6 h;rw[Ae]at this;simp at this;omega
  obtain⟨x,hx⟩:=Ab ks hlt;obtain⟨h1,h2⟩:=hf x (Bn hx);have hwx:=Qp (Bn hx);have h3:=Adl (l:=ks.take i) (f:=f) fun y hy=>(hf y (Ag7 hy)).2;have h4:wL (ks.take i)≤wL ks:=by
   have:∀(l:List Nd) (j:Nat),wL (l.take j)≤wL l:=by
    intro l
    induction l with
    |nil=>intro j;simp[wL]
    |cons y l ih=>intro j;cases j with
     |zero=>simp[wL]
     |succ j=>have:=ih j;simp only[List.take_succ_cons,wL];omega
   exact this ks i
  refine Bv i (by omega) (Ap hx) ?_;refine Aj h1 ?_;refine Fy ?_ ?_
  ·omega
  refine IH (i+1) hlt (by omega) _ _ ⟨vsx (by omega),?_,rfl,rfl,trivial⟩ rfl rfl rfl;rw[Hq,hx];simp;rfl
 ·have:i=ks.length:=by have:=Bd h;rw[Ae]at this;simp at this;omega
  subst this;refine Az func217 ?_;rw[Jh,hT];rfl
theorem Rf(x:Nd)(l:List Nd)(p:Ad)(h:∀x,x∈l→FS x)(hp:p.length+2*G7 l≤1000):(I2 l p).length≤4060*wL l:=
 Re fun x hx=>Af8 x (h x hx) p (by have:=G8 hx;omega)
theorem Zf(l:List Nd)(p:Ad)(hl:∀x,x∈l→FS x)(hp:p.length+2*G7 l≤1000)(hw:wL l≤100000)
 (ih:∀x,x∈l→∀p:Ad,p.length+2*Dn x≤1000→wN x≤100000→Pure X 217 [nd x,str p] (str (Cs x p))) :
 Pure X 217 [nd (.mk 30 [] 0 l),str p] (str (I2 l p)):=by
 rw[Td];refine Ape 30 (.inl rfl) l _ p (by omega) hw fun x hx=>⟨ih x hx p (by have:=G8 hx;omega) (by have:=Qp hx;omega),Af8 x (hl x hx) p (by have:=G8 hx;omega)⟩
theorem Ayy(x:Nd)(h:FV x)(p:Ad)(hp:p.length≤1000)(hw:wN x≤100000):Pure X 217 [nd x,str p] (str (Cs x p)):=by
 cases h with
 |var s h=>
  simp[wN,wL]at hw;refine Pure.run func217 ?_;refine Fy ?_ ?_
  ·simp;omega
  refine Ay ?_;refine Fy ?_ ?_
  ·simp;omega
  refine Fy ?_ ?_
  ·simp;omega
  refine Fy ?_ ?_
  ·simp;omega
  refine Az func217 ?_;simp[Cs,De]
 |arr s m h h0 h1=>
  simp[wN,wL]at hw;have hd:=V7 m.toNat (by omega)
  refine Pure.run func217 ?_;refine Fy ?_ ?_
  ·simp;omega
  refine Ah ?_;refine Ay ?_;refine Ai (fun h2=>?_) (fun h2=>?_)
  ·have h2':0≤m:=A6 h2;obtain⟨q,rfl⟩:∃q:Nat,m=q:=⟨m.toNat,by omega⟩
   refine Aj (Akn q (by omega)) ?_;simp only[I3]at hd;refine Fy ?_ ?_
   ·simp;omega
   refine Fy ?_ ?_
   ·simp;omega
   refine Fy ?_ ?_
   ·simp;omega
   refine Fy ?_ ?_
   ·simp;omega
   refine Fy ?_ ?_
   ·simp;omega
   refine Az func217 ?_;simp[Cs,De,h2']
  ·have h2':¬0≤m:=Bd h2;refine Fy ?_ ?_
   ·simp;omega
   refine Fy ?_ ?_
   ·simp;omega
   refine Fy ?_ ?_
   ·simp;omega
   refine Fy ?_ ?_
   ·simp;omega
   refine Fy ?_ ?_
   ·simp;omega
   refine Az func217 ?_;simp[Cs,De,h2']
theorem Ayx(x:Nd)(h:FS x):∀p:Ad,p.length+2*Dn x≤1000→wN x≤100000→Pure X 217 [nd x,str p] (str (Cs x p)):=by
 induction h with
 |set s a h ha=>
  intro p hp hw;refine Pure.run func217 ?_;refine Fy ?_ ?_
  ·simp;omega
  refine Ah ?_;refine Ah ?_;have hl:=F7 a ha;simp[wN,wL]at hw;refine Ay ?_;refine Eo 0 ?_;refine D1 ?_ ?_
  ·simp;omega
  refine D1 ?_ ?_
  ·simp;omega
  refine Dk 0 (by omega) (W4 a _) ?_;refine B2 (Tm a ha (by omega)) ?_;refine D1 ?_ ?_
  ·simp;omega
  refine D1 ?_ ?_
  ·simp;omega
  refine Bu ?_;refine Az func217 ?_;simp[Cs,De]
 |put s a b h ha hb=>
  intro p hp hw;refine Pure.run func217 ?_;refine Fy ?_ ?_
  ·simp;omega
  refine Ah ?_;refine Ah ?_;have hl:=F7 a ha;have hl2:=F7 b hb;simp[wN,wL]at hw;have hT:Cs (.mk 22 s 0 [a,b]) p=p++s++[91]++B5 a++[93,32,61,32]++B5 b++[59,10]:=by cases b;simp[Cs]
  rw[hT];refine Ah ?_;refine Ay ?_;refine Eo 0 ?_;refine D1 ?_ ?_
  ·simp;omega
  refine D1 ?_ ?_
  ·simp;omega
  refine Dk 0 (by omega) (W4 a _) ?_;refine B2 (Tm a ha (by omega)) ?_;refine D1 ?_ ?_
  ·simp;omega
  refine D1 ?_ ?_
  ·simp;omega
  refine Dk 1 (by omega) (Ae5 a b _) ?_;refine B2 (Tm b hb (by omega)) ?_;refine D1 ?_ ?_
  ·simp;omega
  refine D1 ?_ ?_
  ·simp;omega
  refine Bu ?_;refine Az func217 ?_;simp[De]
 |read s h=>
  intro p hp hw;refine Pure.run func217 ?_;refine Fy ?_ ?_
  ·simp;omega
  refine Ah ?_;refine Ah ?_;simp[wN,wL]at hw;refine Ah ?_;refine Ah ?_;refine Ay ?_;refine Fy ?_ ?_
  ·simp;omega
  refine Fy ?_ ?_
  ·simp;omega
  refine Fy ?_ ?_
  ·simp;omega
  refine Az func217 ?_;simp[Cs,De]
 |check c hc=>
  intro p hp hw;refine Pure.run func217 ?_;refine Fy ?_ ?_
  ·simp;omega
  refine Ah ?_;refine Ah ?_;have hl:=O8 c hc;simp[wN,wL]at hw;refine Ah ?_;refine Ah ?_;refine Ah ?_;refine Ay ?_;refine Fy ?_ ?_
  ·simp;omega
  refine Bv 0 (by omega) (W4 c _) ?_;refine Aj (Air c hc (by omega)) ?_;refine Fy ?_ ?_
  ·simp;omega
  refine Fy ?_ ?_
  ·simp;omega
  refine Az func217 ?_;simp[Cs,De]
 |skip=>
  intro p hp hw;refine Pure.run func217 ?_;refine Fy ?_ ?_
  ·simp;omega
  refine Ah ?_;refine Ah ?_;refine Ah ?_;refine Ah ?_;refine Ah ?_;refine Ah ?_;refine Ay ?_;refine Fy ?_ ?_
  ·simp;omega
  refine Az func217 ?_;simp[Cs,De]
 |stop=>
  intro p hp hw;refine Pure.run func217 ?_;refine Fy ?_ ?_
  ·simp;omega
  refine Ah ?_;refine Ah ?_;refine Ah ?_;refine Ah ?_;refine Ah ?_;refine Ah ?_;refine Ah ?_;refine Ay ?_;refine Fy ?_ ?_
  ·simp;omega
  refine Az func217 ?_;simp[Cs,De]
 |whil c l hc hl ihl=>
  intro p hp hw;refine Pure.run func217 ?_;refine Fy ?_ ?_
  ·simp;omega
  refine Ah ?_;refine Ah ?_;have h1:=O8 c hc;simp only[Dn,G7]at hp;simp[wN,wL]at hw;have hlen:=Rf c l (p++[32,32]) hl (by simp;omega);have hB:=Zf l (p++[32,32]) hl (by simp;omega) (by omega) ihl;refine Ah ?_;refine Ah ?_;refine Ah ?_;refine Ah ?_;refine Ah ?_;refine Ah ?_;refine Ay ?_;refine Eo 0 ?_;refine D1 ?_ ?_
  ·simp;omega
  refine Dk 0 (by omega) (W4 c _) ?_;refine B2 (Air c hc (by omega)) ?_;refine D1 ?_ ?_
  ·simp;omega
  refine D1 ?_ ?_
  ·simp;omega
  refine Dk 1 (by omega) (Ae5 c _ _) ?_;refine B2 hB ?_;refine D1 ?_ ?_
  ·simp;omega
  refine D1 ?_ ?_
  ·simp;omega
  refine D1 ?_ ?_
  ·simp;omega
  refine Bu ?_;refine Az func217 ?_;simp[Cs,De]
 |for_ s a b l h ha hb hl ihl=>
  intro p hp hw;refine Pure.run func217 ?_;refine Fy ?_ ?_
  ·simp;omega
  refine Ah ?_;refine Ah ?_;have h1:=F7 a ha;have h2:=F7 b hb;simp only[Dn,G7]at hp;simp[wN,wL]at hw;have hlen:=Rf a l (p++[32,32]) hl (by simp;omega);have hB:=Zf l (p++[32,32]) hl (by simp;omega) (by omega) ihl;have hT:Cs (.mk 26 s 0 [a,b,.mk 30 [] 0 l]) p=p++[102,111,114,32]++s++[32,102,114,111,109,32]++B5 a++[32,116,111,32]++B5 b++[32,123,10]++I2 l (p++[32,32])++p++[125,10]:=by
   cases b;simp[Cs]
  rw[hT];refine Ah ?_;refine Ah ?_;refine Ah ?_;refine Ah ?_;refine Ah ?_;refine Ah ?_;refine Ah ?_;refine Ay ?_;refine Eo 0 ?_;refine D1 ?_ ?_
  ·simp;omega
  refine D1 ?_ ?_
  ·simp;omega
  refine D1 ?_ ?_
  ·simp;omega
  refine Dk 0 (by omega) (W4 a _) ?_;refine B2 (Tm a ha (by omega)) ?_;refine D1 ?_ ?_
  ·simp;omega
  refine D1 ?_ ?_
  ·simp;omega
  refine Dk 1 (by omega) (Ae5 a b _) ?_;refine B2 (Tm b hb (by omega)) ?_;refine D1 ?_ ?_
  ·simp;omega
  refine D1 ?_ ?_
  ·simp;omega
  refine Dk 2 (by omega) (Az1 a b _ _) ?_;refine B2 hB ?_;refine D1 ?_ ?_
  ·simp;omega
  refine D1 ?_ ?_
  ·simp;omega
  refine D1 ?_ ?_
  ·simp;omega
  refine Bu ?_;refine Az func217 ?_;simp[De]
 |ifs c l l' hc hl hl' ihl ihl'=>
  intro p hp hw;refine Pure.run func217 ?_;refine Fy ?_ ?_
  ·simp;omega
  refine Ah ?_;refine Ah ?_;have h1:=O8 c hc;simp only[Dn,G7]at hp;simp[wN,wL]at hw;have hlen:=Rf c l (p++[32,32]) hl (by simp;omega);have hB:=Zf l (p++[32,32]) hl (by simp;omega) (by omega) ihl;have hlen':=Rf c l' (p++[32,32]) hl' (by simp;omega);have hB':=Zf l' (p++[32,32]) hl' (by simp;omega) (by omega) ihl';refine Ah ?_;refine Ah ?_;refine Ah ?_;refine Ah ?_;refine Ah ?_;refine Ah ?_;refine Ah ?_;refine Ah ?_;refine Ay ?_;refine Eo 0 ?_;refine D1 ?_ ?_
  ·simp;omega
  refine Dk 0 (by omega) (W4 c _) ?_;refine B2 (Air c hc (by omega)) ?_;refine D1 ?_ ?_
  ·simp;omega
  refine D1 ?_ ?_
  ·simp;omega
  refine Dk 1 (by omega) (Ae5 c _ _) ?_;refine B2 hB ?_;refine D1 ?_ ?_
  ·simp;omega
  refine D1 ?_ ?_
  ·simp;omega
  refine Bu ?_;refine Bv 2 (by omega) (Az1 c _ _ _) ?_;cases l' with
  |nil=>
   refine Ah ?_;refine Fy ?_ ?_
   ·simp;omega
   refine Az func217 ?_;simp[Cs,De]
  |cons y l'=>
   refine Ay ?_ (ht:=Ry (by simp[Av]));refine Fy ?_ ?_
   ·simp;omega
   refine Bv 2 (by omega) (Az1 c _ _ _) ?_;refine Aj hB' ?_;refine Fy ?_ ?_
   ·simp;omega
   refine Fy ?_ ?_
   ·simp;omega
   refine Fy ?_ ?_
   ·simp;omega
   refine Az func217 ?_;simp[Cs,De]
def RS.wk(r:RS):Prop:=∀w:Wd,w∈r.ws→w.kind=Do w.text
theorem RS.after.wk{r r':RS}(h:r.after r')(hw:r.wk):r'.wk:=by unfold RS.wk;rw[h.1];exact hw
theorem Ams{s:Ad}(h:Do s=1):nameS s=true:=by
 simp only[Do]at h;split at h
 ·simp at h
 ·split at h
  ·assumption
  ·split at h
   ·simp at h
   ·split at h<;>simp at h
theorem Aar{s:Ad}(h:Do s=2):0≤D8 s:=by
 simp only[Do]at h;split at h
 ·simp at h
 ·split at h
  ·simp at h
  ·split at h
   ·assumption
   ·split at h<;>simp at h
theorem Akl:∀(l:Ad)(n:Int),Rj n l≤1000000
 |[],n=>by simp only[Rj];split<;>omega
 |c::l,n=>by
  simp only[Rj];split
  ·exact Akl l _
  ·omega
theorem Ad2(s:Ad):D8 s≤1000000:=by
 unfold D8;split
 ·omega
 ·split
  ·omega
  ·split
   ·omega
   ·exact Akl _ _
theorem Pb{r:RS}(hw:r.wk)(h:r.kind≠0):r.kind=Do r.text:=by
 have hlt:=Tc h;obtain⟨w,hwd⟩:=Ab r.ws hlt;have:=hw w (Bn hwd);simp only[RS.kind,RS.text,hwd];exact this
theorem Am2{r:RS}(hw:r.wk)(h:r.named=true):nameS r.text=true:=by
 simp only[RS.named,N4,T6,Bool.not_eq_false',zzq34]at h;have:=Pb hw (by rw[h.2];simp);exact Ams (by rw[←this];exact h.2)
theorem Kl{r:RS}(hw:r.wk)(h:r.nameR.bad=false):r.named=true∧nameS r.name=true∧r.nameR=r.step∧r.bad=false:=by
 by_cases hn:r.named=true
 ·have hb:r.bad=false:=by simp only[RS.named,N4,T6]at hn;exact hn.1
  refine⟨hn,?_,by simp[RS.nameR,hn],hb⟩;simp only[RS.name,hn,if_true];exact Am2 hw hn
 ·simp only[RS.nameR,hn,RS.spoil]at h;simp at h
theorem Gf{r:RS}{s:Ad}(h:(r.need s).bad=false):r.takes s=true∧r.need s=r.step∧r.bad=false:=by
 by_cases hn:r.takes s=true
 ·refine⟨hn,by simp[RS.need,hn],?_⟩;simp only[RS.takes,N4,T6]at hn;exact hn.1
 ·simp only[RS.need,hn,RS.spoil]at h;simp at h
theorem Aba{r:RS}{s:Ad}(h:r.takes s=true):r.bad=false:=by
 simp only[RS.takes,N4,T6]at h;exact h.1
theorem Js{b c:Bool}(h:b=true→c=true)(hc:c=false):b=false:=by
 cases b
 ·rfl
 ·rw[h rfl]at hc;cases hc
theorem Amk:∀(f:Nat),(∀r:RS,r.ok→r.wk→4*r.left+1≤f→(Fw f r).2.bad=false→FE (Fw f r).1∧r.at_+Al (Fw f r).1≤(Fw f r).2.at_) ∧
 (∀r:RS,r.ok→r.wk→4*r.left+2≤f→(Ev f r).2.bad=false→FE (Ev f r).1∧r.at_+Al (Ev f r).1≤(Ev f r).2.at_) ∧
 (∀(x:Nd)(a:Nat)(r:RS),r.ok→r.wk→FE x→a+Al x≤r.at_→4*r.left+1≤f→(Ii f x r).2.bad=false→FE (Ii f x r).1∧a+Al (Ii f x r).1≤(Ii f x r).2.at_) ∧
 (∀r:RS,r.ok→r.wk→4*r.left+3≤f→(Fa f r).2.bad=false→FE (Fa f r).1∧r.at_+Al (Fa f r).1≤(Fa f r).2.at_) ∧
 (∀(x:Nd)(a:Nat)(r:RS),r.ok→r.wk→FE x→a+Al x≤r.at_→4*r.left+2≤f→(Hn f x r).2.bad=false→FE (Hn f x r).1∧a+Al (Hn f x r).1≤(Hn f x r).2.at_):=by
 intro f
 induction f with
 |zero=>exact⟨fun r _ _ h=>by omega,fun r _ _ h=>by omega,fun x a r _ _ _ _ h=>by omega,fun r _ _ h=>by omega,fun x a r _ _ _ _ h=>by omega⟩
 |succ f ih=>
  obtain⟨i1,i2,i3,i4,i5⟩:=ih;obtain⟨b1,b2,b3,b4,b5⟩:=Aah f;obtain⟨a1,a2,a3,a4,a5⟩:=F4 f;refine⟨fun r ho hw hf hg=>?_,fun r ho hw hf hg=>?_,fun x a r ho hw hx ha hf hg=>?_,fun r ho hw hf hg=>?_,fun x a r ho hw hx ha hf hg=>?_⟩
  ·have hb:r.bad=false:=Js (fun h=>(Aah (f+1)).1 r h) hg;simp only[Fw]at hg⊢;rw[if_neg (by simp[hb])]at hg⊢;split at hg
   ·rename_i ht;have hl:=(A2 ht (by simp)).1;have ls:=Ch hl;have s:=Ak hl;obtain⟨g1,g2⟩:=i1 r.step (s.ok ho) (s.wk hw) (by omega) hg;rw[if_pos ht];refine⟨.neg _ g1,?_⟩;simp only[Al,Bb,RS.step]at g2⊢;omega
   rename_i ht1;rw[if_neg ht1];split at hg
   ·rename_i hk;rw[if_pos hk];have hk':r.kind=2:=by simpa using hk
    have:=Pb hw (by rw[hk'];simp);refine⟨.num _ (Aar (by rw[←this];exact hk')) (Ad2 _),?_⟩;simp[Al,Bb,RS.step]
   rename_i hk;rw[if_neg hk];split at hg
   ·rename_i ht;have hl:=(A2 ht (by simp)).1;have ls:=Ch hl;have s:=Ak hl;obtain⟨n1,n2,n3⟩:=Gf hg;obtain⟨g1,g2⟩:=i4 r.step (s.ok ho) (s.wk hw) (by omega) n3;rw[if_pos ht];refine⟨g1,?_⟩;simp only[n2];simp only[RS.step]at g2⊢;omega
   rename_i ht2;rw[if_neg ht2];split at hg
   ·rename_i ht;have hl:=(A2 ht (by simp)).1;have s:=Ak hl;obtain⟨n1,n2,n3⟩:=Gf hg;have s2:=s.trans (Bh (s:=[40]) (s.ok ho) (by simp));obtain⟨m1,m2,m3,m4⟩:=Kl (s2.wk hw) n3;rw[if_pos ht];refine⟨.len _ m2,?_⟩;have e4:=(Gf m4).2.1;have:((r.step.need [40]).nameR.need [41]).at_=r.at_+4:=by rw[n2,m3,e4];rfl
    simp only[Al,Bb];omega
   rename_i ht3;rw[if_neg ht3];split at hg
   ·rename_i ht;rw[if_pos ht];obtain⟨m1,m2,m3,m4⟩:=Kl hw (Aba ht);have hl:=(A2 ht (by simp)).1;have s:=(C5 ho).trans (Ak hl);have s':=Bm (C5 ho);have ls:=Ch hl;obtain⟨n1,n2,n3⟩:=Gf hg;obtain⟨g1,g2⟩:=i4 r.nameR.step (s.ok ho) (s.wk hw) (by omega) n3;refine⟨.cell _ _ m2 g1,?_⟩;simp only[n2];simp only[m3,RS.step,Al,Bb]at g2⊢;omega
   ·rename_i ht;rw[if_neg ht];obtain⟨m1,m2,m3,m4⟩:=Kl hw hg;refine⟨.var _ m2,?_⟩;simp[m3,RS.step,Al,Bb]
  ·simp only[Ev]at hg⊢;have h1:=Js (b3 (Fw f r).1 (Fw f r).2) hg;obtain⟨g1,g2⟩:=i1 r ho hw (by omega) h1;have af:=a1 r ho;have lf:=Bm af;exact i3 _ r.at_ _ (af.ok ho) (af.wk hw) g1 g2 (by omega) hg
  ·simp only[Ii]at hg⊢;split at hg
   ·rename_i ht;rw[if_pos ht];have hl:=(A2 ht (by simp)).1;have ls:=Ch hl;have s:=Ak hl;have h1:=Js (b3 _ (Fw f r.step).2) hg;obtain⟨g1,g2⟩:=i1 r.step (s.ok ho) (s.wk hw) (by omega) h1;have af:=s.trans (a1 r.step (s.ok ho));have lf:=Bm (a1 r.step (s.ok ho));refine i3 _ a _ (af.ok ho) (af.wk hw) (.two 8 _ _ (by simp) hx g1) ?_ (by omega) hg;simp only[RS.step,Al,Bb]at g2⊢;omega
   ·rename_i ht;rw[if_neg ht];exact⟨hx,ha⟩
  ·simp only[Fa]at hg⊢;have h1:=Js (b5 (Ev f r).1 (Ev f r).2) hg;obtain⟨g1,g2⟩:=i2 r ho hw (by omega) h1;have af:=a2 r ho;have lf:=Bm af;exact i5 _ r.at_ _ (af.ok ho) (af.wk hw) g1 g2 (by omega) hg
  ·simp only[Hn]at hg⊢;split at hg
   ·rename_i ht;rw[if_pos ht];have hl:=(A2 ht (by simp)).1;have ls:=Ch hl;have s:=Ak hl;have h1:=Js (b5 _ (Ev f r.step).2) hg;obtain⟨g1,g2⟩:=i2 r.step (s.ok ho) (s.wk hw) (by omega) h1;have af:=s.trans (a2 r.step (s.ok ho));have lf:=Bm (a2 r.step (s.ok ho));refine i5 _ a _ (af.ok ho) (af.wk hw) (.two 6 _ _ (by simp) hx g1) ?_ (by omega) hg;simp only[RS.step,Al,Bb]at g2⊢;omega
   ·rename_i ht1;rw[if_neg ht1];split at hg
    ·rename_i ht;rw[if_pos ht];have hl:=(A2 ht (by simp)).1;have ls:=Ch hl;have s:=Ak hl;have h1:=Js (b5 _ (Ev f r.step).2) hg;obtain⟨g1,g2⟩:=i2 r.step (s.ok ho) (s.wk hw) (by omega) h1;have af:=s.trans (a2 r.step (s.ok ho));have lf:=Bm (a2 r.step (s.ok ho));refine i5 _ a _ (af.ok ho) (af.wk hw) (.two 7 _ _ (by simp) hx g1) ?_ (by omega) hg;simp only[RS.step,Al,Bb]at g2⊢;omega
    ·rename_i ht;rw[if_neg ht];exact⟨hx,ha⟩
theorem Lc{r:RS}(ho:r.ok)(hw:r.wk)(h:(Cd r).2.bad=false):FE (Cd r).1∧r.at_+Al (Cd r).1≤(Cd r).2.at_:=
 (Amk 6010).2.2.2.1 r ho hw (by have:=ho.1;simp only[RS.left];omega) h
theorem Aed{s:Ad}(h:relS s≠0):11≤relS s∧relS s≤16:=by
 unfold relS at h⊢
 repeat' split
 all_goals (first|omega|simp_all)
theorem Sm{r:RS}(ho:r.ok)(hw:r.wk)(h:(Dr r).2.bad=false):FC (Dr r).1∧r.at_+Al (Dr r).1≤(Dr r).2.at_:=by
 simp only[Dr]at h⊢;split at h
 ·simp[RS.spoil]at h
 ·rename_i hc;rw[if_neg hc];simp only[My,not_or,zzq34,Bool.not_eq_true]at hc;have hl:=Wo hc.2;have a:=Cg ho;have b:=a.trans (Ak hl);obtain⟨g1,g2⟩:=Lc ho hw hc.1;obtain⟨g3,g4⟩:=Lc (b.ok ho) (b.wk hw) h;have hr:=Aed hc.2;refine⟨.mk _ _ _ hr.1 hr.2 g1 g3,?_⟩;simp only[RS.step,Al,Bb]at g4⊢;omega
theorem Ati{r:RS}(h:r.bad=true):(Ro r).2.bad=true:=by
 simp only[Ro];rw[if_neg (by simp[Ee (Afl h)])];exact O3 (Up (Afl h) _)
theorem Ajn{r:RS}(h:r.bad=true):(C8 r).2.bad=true:=by
 simp only[C8];rw[if_neg (by simp[Ee h]),if_neg (by simp[Ee h]),if_neg (by simp[Ee h]),if_neg (by simp[Ee h])];exact Ati h
theorem Ai5{r:RS}(ho:r.ok)(hw:r.wk)(h:(C8 r).2.bad=false):FS (C8 r).1∧r.at_+Al (C8 r).1≤(C8 r).2.at_:=by
 simp only[C8]at h⊢;split at h
 ·rename_i ht;rw[if_pos ht];have s:=Ak (A2 ht (by simp)).1;obtain⟨g1,g2⟩:=Sm (s.ok ho) (s.wk hw) h;refine⟨.check _ g1,?_⟩;simp only[RS.step,Al,Bb]at g2⊢;omega
 rename_i ht1;rw[if_neg ht1];split at h
 ·rename_i ht;rw[if_pos ht];have s:=Ak (A2 ht (by simp)).1;obtain⟨m1,m2,m3,m4⟩:=Kl (s.wk hw) h;refine⟨.read _ m2,?_⟩;rw[m3];simp[RS.step,Al,Bb]
 rename_i ht2;rw[if_neg ht2];split at h
 ·rename_i ht;rw[if_pos ht];exact⟨.skip,by simp[RS.step,Al,Bb]⟩
 rename_i ht3;rw[if_neg ht3];split at h
 ·rename_i ht;rw[if_pos ht];exact⟨.stop,by simp[RS.step,Al,Bb]⟩
 rename_i ht4;rw[if_neg ht4];simp only[Ro]at h⊢;split at h
 ·rename_i ht;rw[if_pos ht];obtain⟨m1,m2,m3,m4⟩:=Kl hw (Aba ht);have s:=(C5 ho).trans (Ak (A2 ht (by simp)).1);have a1:=s.trans (Cg (s.ok ho));have a2:=a1.trans (Bh (s:=[93]) (a1.ok ho) (by simp));have a3:=a2.trans (Bh (s:=[61]) (a2.ok ho) (by simp));have hb:=Js (fun h=>O3 h) h;obtain⟨n1,n2,n3⟩:=Gf hb;obtain⟨n4,n5,n6⟩:=Gf n3;obtain⟨g1,g2⟩:=Lc (s.ok ho) (s.wk hw) n6;obtain⟨g3,g4⟩:=Lc (a3.ok ho) (a3.wk hw) h;refine⟨.put _ _ _ m2 g1 g3,?_⟩;have e1:(((Cd r.nameR.step).2.need [93]).need [61]).at_=(Cd r.nameR.step).2.at_+2:=by rw[n2,n5];rfl
  have e2:r.nameR.step.at_=r.at_+2:=by rw[m3];rfl
  simp only[Al,Bb];omega
 ·rename_i ht;rw[if_neg ht];have a1:=C5 ho;have a2:=a1.trans (Bh (s:=[61]) (a1.ok ho) (by simp));have hb:=Js (fun h=>O3 h) h;obtain⟨n1,n2,n3⟩:=Gf hb;obtain⟨m1,m2,m3,m4⟩:=Kl hw n3;obtain⟨g3,g4⟩:=Lc (a2.ok ho) (a2.wk hw) h;refine⟨.set _ _ m2 g3,?_⟩;have e1:(r.nameR.need [61]).at_=r.at_+2:=by rw[n2,m3];rfl
  simp only[Al,Bb];omega
theorem Agr:∀(f:Nat),(∀r:RS,r.bad=true→(Dm f r).2.bad=true)∧(∀r:RS,r.bad=true→(Cz f r).2.bad=true)∧(∀(acc:List Nd)(r:RS),r.bad=true→(El f acc r).2.bad=true):=by
 intro f
 induction f with
 |zero=>exact⟨fun r h=>by simpa only[Dm]using h,fun r h=>by simpa only[Cz]using h,fun x r h=>by simpa only[El]using h⟩
 |succ f ih=>
  obtain⟨i1,i2,i3⟩:=ih;refine⟨fun r h=>?_,fun r h=>?_,fun acc r h=>?_⟩
  ·simp only[Dm];rw[if_neg (by simp[Ee h]),if_neg (by simp[Ee h]),if_neg (by simp[Ee h])];exact Up (Ajn h) _
  ·simp only[Cz];exact Up (i3 _ _ (Up h _)) _
  ·simp only[El];rw[if_neg (by simp[h])];exact h
theorem Sn(l:List Nd)(x:Nd):Bb (l++[x])=Bb l+Al x:=by rw[Nk];simp[Bb]
theorem Ws(r:RS):r.step.at_=r.at_+1:=rfl
theorem Anq:∀(f:Nat),(∀r:RS,r.ok→r.wk→3*r.left+1≤f→(Dm f r).2.bad=false→FS (Dm f r).1∧r.at_+Al (Dm f r).1≤(Dm f r).2.at_) ∧
 (∀r:RS,r.ok→r.wk→3*r.left+3≤f→(Cz f r).2.bad=false→∃l,(Cz f r).1=.mk 30 [] 0 l∧(∀x,x∈l→FS x)∧r.at_+2+Bb l≤(Cz f r).2.at_) ∧
 (∀(acc:List Nd)(a:Nat)(r:RS),r.ok→r.wk→(∀x,x∈acc→FS x)→a+Bb acc≤r.at_→3*r.left+2≤f→(El f acc r).2.bad=false→(∀x,x∈(El f acc r).1→FS x)∧a+Bb (El f acc r).1≤(El f acc r).2.at_):=by
 intro f
 induction f with
 |zero=>exact⟨fun r _ _ h=>by omega,fun r _ _ h=>by omega,fun x a r _ _ _ _ h=>by omega⟩
 |succ f ih=>
  obtain⟨i1,i2,i3⟩:=ih;obtain⟨b1,b2,b3⟩:=Agr f;obtain⟨a1,a2,a3⟩:=Gh f;refine⟨fun r ho hw hf hg=>?_,fun r ho hw hf hg=>?_,fun acc a r ho hw hx ha hf hg=>?_⟩
  ·simp only[Dm]at hg⊢;split at hg
   ·rename_i ht;rw[if_pos ht];have hl:=(A2 ht (by simp)).1;have ls:=Ch hl;have s:=Ak hl;have c:=s.trans (D7 (s.ok ho));have lc:=Bm (D7 (s.ok ho));split at hg
    ·rename_i ht2;rw[if_pos ht2];have hl2:=(A2 ht2 (by simp)).1;have ls2:=Ch hl2;have d:=c.trans (a2 _ (c.ok ho));have ld:=Bm (a2 _ (c.ok ho));have e:=d.trans (Ak hl2);have hb1:=Aba ht2;have hb2:=Js (b2 (Dr r.step).2) hb1;obtain⟨g1,g2⟩:=Sm (s.ok ho) (s.wk hw) hb2;obtain⟨l,e1,h1,h2⟩:=i2 _ (c.ok ho) (c.wk hw) (by omega) hb1;obtain⟨l',e2,h3,h4⟩:=i2 _ (e.ok ho) (e.wk hw) (by omega) hg;rw[e1,e2];refine⟨.ifs _ _ _ g1 h1 h3,?_⟩;simp only[Ws,Al,Bb]at g2 h4⊢;omega
    ·rename_i ht2;rw[if_neg ht2];have hb2:=Js (b2 (Dr r.step).2) hg;obtain⟨g1,g2⟩:=Sm (s.ok ho) (s.wk hw) hb2;obtain⟨l,e1,h1,h2⟩:=i2 _ (c.ok ho) (c.wk hw) (by omega) hg;rw[e1];refine⟨.ifs _ _ [] g1 h1 (fun x hx=>by cases hx),?_⟩;simp only[Ws,Al,Bb]at g2⊢;omega
   rename_i ht1;rw[if_neg ht1];split at hg
   ·rename_i ht;rw[if_pos ht];have hl:=(A2 ht (by simp)).1;have ls:=Ch hl;have s:=Ak hl;have c:=s.trans (D7 (s.ok ho));have lc:=Bm (D7 (s.ok ho));have hb2:=Js (b2 (Dr r.step).2) hg;obtain⟨g1,g2⟩:=Sm (s.ok ho) (s.wk hw) hb2;obtain⟨l,e1,h1,h2⟩:=i2 _ (c.ok ho) (c.wk hw) (by omega) hg;rw[e1];refine⟨.whil _ _ g1 h1,?_⟩;simp only[Ws,Al,Bb]at g2⊢;omega
   rename_i ht2;rw[if_neg ht2];split at hg
   ·rename_i ht;rw[if_pos ht];have hl:=(A2 ht (by simp)).1;have ls:=Ch hl;have s:=Ak hl;have fa:=s.trans (Sx (s.ok ho));have fb:=s.trans (Ld (s.ok ho));have lb:=Bm (Ld (s.ok ho));have d:=fb.trans (Cg (fb.ok ho));have ld:=Bm (Cg (fb.ok ho));have hb2:=Js (b2 _) hg;have hb3:=Js (fun h=>O3 h) hb2;obtain⟨n1,n2,n3⟩:=Gf (r:=(Cd (Y4 r.step)).2) (s:=wTo) hb3;have hb4:=Js (fun h=>O3 h) n3;obtain⟨n4,n5,n6⟩:=Gf (r:=r.step.nameR) (s:=J4) hb4;obtain⟨m1,m2,m3,m4⟩:=Kl (s.wk hw) n6;obtain⟨g1,g2⟩:=Lc (fa.ok ho) (fa.wk hw) n3;obtain⟨g3,g4⟩:=Lc (fb.ok ho) (fb.wk hw) hb2;obtain⟨l,e1,h1,h2⟩:=i2 _ (d.ok ho) (d.wk hw) (by omega) hg;rw[e1];refine⟨.for_ _ _ _ _ m2 g1 g3 h1,?_⟩;have e2:(Aak r.step).at_=(Cd (Y4 r.step)).2.at_+1:=by show ((Cd (Y4 r.step)).2.need wTo).at_=_;rw[n2];rfl
    have e3:(Y4 r.step).at_=r.at_+3:=by show (r.step.nameR.need J4).at_=_;rw[n5,m3];rfl
    simp only[Al,Bb];omega
   ·rename_i ht3;rw[if_neg ht3];obtain⟨n1,n2,n3⟩:=Gf hg;obtain⟨g1,g2⟩:=Ai5 ho hw n3;refine⟨g1,?_⟩;rw[n2];show r.at_+Al (C8 r).1≤(C8 r).2.at_+1;omega
  ·simp only[Cz]at hg⊢;obtain⟨n1,n2,n3⟩:=Gf hg;have hb:=Js (b3 [] _) n3;obtain⟨n4,n5,n6⟩:=Gf hb;have hl:=(A2 n4 (by simp)).1;have ls:=Ch hl;have s:=Bh (s:=[123]) ho (by simp);rw[n5]at s n3 n2⊢;obtain⟨g1,g2⟩:=i3 [] r.step.at_ _ (s.ok ho) (s.wk hw) (fun x hx=>by cases hx) (by simp[Bb]) (by omega) n3;refine⟨_,rfl,g1,?_⟩;rw[n2];simp only[Ws]at g2⊢;omega
  ·simp only[El]at hg⊢;split at hg
   ·rename_i hc;rw[if_pos hc];have af:=a1 r ho;have lf:=Bm af;obtain⟨p,rfl⟩:∃p,f=p+1:=⟨f-1,by omega⟩
    have hb:=Js (b3 _ (Dm (p+1) r).2) hg;obtain⟨g1,g2⟩:=i1 r ho hw (by omega) hb;have hon:r.at_<(Dm (p+1) r).2.at_:=by
     rcases Zp p ho with h|h
     ·rw[hb]at h;cases h
     ·exact h
    have hlt:(Dm (p+1) r).2.left+1≤r.left:=by
     have e1:=af.1;have e2:=af.2.2;simp only[RS.left,e1]at *;omega
    refine i3 _ a _ (af.ok ho) (af.wk hw) (fun x hx'=>?_) ?_ (by omega) hg
    ·rcases zzq26.1 hx' with h|h
     ·exact hx x h
     ·simp at h;subst h;exact g1
    ·rw[Sn];omega
   ·rename_i hc;rw[if_neg hc];exact⟨hx,ha⟩
theorem Anm{r:RS}(hw:r.wk)(h:(Jf r).2.bad=false):-1≤(Jf r).1∧(Jf r).1≤1000000∧(Jf r).2.at_=r.at_+1∧r.bad=false:=by
 simp only[Jf]at h⊢;split at h
 ·rename_i hc;rw[if_pos hc];simp only[Du,N4,zzq34]at hc;have hk:=Pb hw (by rw[hc.2];simp);have:=Aar (by rw[←hk];exact hc.2);exact⟨by simp only;omega,Ad2 _,rfl,hc.1⟩
 ·rename_i hc;rw[if_neg hc];obtain⟨n1,n2,n3⟩:=Gf h;exact⟨by simp,by simp,by rw[n2];rfl,n3⟩
theorem Ami{r:RS}(ho:r.ok)(hw:r.wk)(hd:Ie r=true)(h:(J0 r).2.bad=false):FV (J0 r).1∧Al (J0 r).1=1∧r.at_+1≤(J0 r).2.at_:=by
 have af:=Lj ho hd;have hlt:=af.2;have s:=Ak hlt;refine⟨?_,?_,?_⟩
 ·simp only[J0]at h⊢;split at h
  ·rename_i ht;rw[if_pos ht];exact .var _ (Kl (s.wk hw) h).2.1
  ·rename_i ht;rw[if_neg ht];obtain⟨n1,n2,n3⟩:=Gf h;have s2:=s.trans (C5 (s.ok ho));have s3:=s2.trans (Bh (s:=[91]) (s2.ok ho) (by simp));obtain⟨g1,g2,g3,g4⟩:=Anm (s3.wk hw) n3;obtain⟨n4,n5,n6⟩:=Gf g4;exact .arr _ _ (Kl (s.wk hw) n6).2.1 g1 g2
 ·simp only[J0];split<;>simp[Al,Bb]
 ·have:=af.1.2.1;rw[Ws]at this;exact this
theorem Amb:∀(f:Nat)(acc:List Nd)(r:RS),r.bad=true→(Fl f acc r).2.bad=true
 |0,acc,r,h=>by simpa only[Fl]using h
 |f+1,acc,r,h=>by simp only[Fl];rw[if_neg (by simp[Ie,Ee h])];exact h
theorem Abj:∀(f:Nat)(acc:List Nd)(a:Nat)(r:RS),r.ok→r.wk→(∀x,x∈acc→FV x)→a+Bb acc≤r.at_→(Fl f acc r).2.bad=false →
 (∀x,x∈(Fl f acc r).1→FV x)∧a+Bb (Fl f acc r).1≤(Fl f acc r).2.at_
 |0,acc,a,r,ho,hw,hx,ha,h=>by simp only[Fl]at h⊢;exact⟨hx,ha⟩
 |f+1,acc,a,r,ho,hw,hx,ha,h=>by
  simp only[Fl]at h⊢;split at h
  ·rename_i hd;rw[if_pos hd];have hb:=Js (Amb f _ _) h;obtain⟨n1,n2,n3⟩:=Gf hb;obtain⟨g1,g2,g3⟩:=Ami ho hw hd n3;obtain⟨d1,d2⟩:=Lj ho hd;have s:=(Ak d2).trans d1;have s2:=s.trans (Bh (s:=[59]) (s.ok ho) (by simp));refine Abj f _ a _ (s2.ok ho) (s2.wk hw) (fun x hx'=>?_) ?_ h
   ·rcases zzq26.1 hx' with h'|h'
    ·exact hx x h'
    ·simp at h';subst h';exact g1
   ·rw[Sn,n2,Ws];omega
  ·rename_i hd;rw[if_neg hd];exact⟨hx,ha⟩
theorem X4{r:RS}(ho:r.ok)(hw:r.wk)(h:(Ex r).2.bad=false):FP (Ex r).1∧r.at_+Al (Ex r).1≤(Ex r).2.at_+2∧(Ex r).2.at_=r.ws.length:=by
 simp only[Ex]at h⊢;generalize hT:Fl 2000 [] r=T at h⊢;have aT:r.after T.2:=by rw[←hT];exact Ow 2000 [] r ho
 have aL:=(Gh 5000).2.2 [] T.2 (aT.ok ho);simp only[RS.ends]at h⊢;split at h
 ·simp[RS.spoil]at h
 ·rename_i hc;rw[if_neg hc];have hb:=Js ((Agr 5000).2.2 [] T.2) h;obtain⟨g1,g2⟩:=(Anq 5000).2.2 [] T.2.at_ T.2 (aT.ok ho) (aT.wk hw) (fun x hx=>by cases hx) (by simp[Bb]) (by have:=(aT.ok ho).1;simp only[RS.left];omega) h;obtain⟨g3,g4⟩:=Abj 2000 [] r.at_ r ho hw (fun x hx=>by cases hx) (by simp[Bb]) (by rw[hT];exact hb);rw[hT]at g3 g4;refine⟨.mk _ _ g3 g1,?_,?_⟩
  ·simp only[Al,Sn,Bb];omega
  ·have e:=(aT.trans aL).1;have:=aL.2.2;have e2:(El 5000 [] T.2).2.ws=r.ws:=e;rw[e2]at this hc;omega
theorem Ix{X:Cx}{B:Bx}{F:Cw}{S:St}{R:AE→St→Prop}{K:List Item}(d:Nat)(y:AV)(hk:AK X B K ((d,y)::F) S R)(h:lk F d=some y:=by rfl):AK X B K F S R:=by
 intro E w a b cs hI hF hn hm hb;refine hk E w a b cs hI ⟨hF.size,hF.nod,fun k z hz=>?_⟩ hn hm hb;rw[Kk]at hz;split at hz
 ·rename_i he;subst he;cases hz;exact hF.rel _ _ h
 ·exact hF.rel k z hz
theorem Ag2:∀(f a:Nat)(r:Ad)(out:List Wd),out.length≤1500→(∀w,w∈out→w.kind=Do w.text)→(H6 f a r out).1.length≤1500∧∀w,w∈(H6 f a r out).1→w.kind=Do w.text
 |0,a,r,out,h1,h2=>by simp only[H6];exact⟨h1,h2⟩
 |f+1,a,[],out,h1,h2=>by simp only[H6];exact⟨h1,h2⟩
 |f+1,a,c::l,out,h1,h2=>by
  simp only[H6];split
  ·exact⟨by simp,fun w hw=>by cases hw⟩
  ·split
   ·exact⟨by simp,fun w hw=>by cases hw⟩
   ·rename_i hk;refine Ag2 f _ _ _ ?_ fun w hw=>?_
    ·simp at hk⊢;omega
    ·rcases zzq26.1 hw with h|h
     ·exact h2 w h
     ·simp at h;subst h;rfl
theorem Ag3(s:Ad):(Da s).1.length≤1500∧∀w,w∈(Da s).1→w.kind=Do w.text:=by
 unfold Da;split
 ·exact⟨by simp,fun w hw=>by cases hw⟩
 ·exact Ag2 _ _ _ _ (by simp) (fun w hw=>by cases hw)
def RS.place(r:RS)(e:Nat):Nat:=match r.ws[r.at_]? with
 |some w=>w.pos
 |none=>e
def rs0(s:Ad):RS:=⟨(Da s).1,0,false⟩
theorem Ai2(s:Ad):(rs0 s).ok:=⟨(Ag3 s).1,Cb _⟩
theorem Ai3(s:Ad):(rs0 s).wk:=(Ag3 s).2
def Fp(s:Ad):Nd×Int×Int:=
 if (Da s).2.1=0 then
  (if (Ex (rs0 s)).2.bad then(Cm,4,(Ex (rs0 s)).2.place s.length)
  else if 500<Al (Ex (rs0 s)).1∨24<Dn (Ex (rs0 s)).1 then(Cm,5,0)else((Ex (rs0 s)).1,0,0))
 else(Cm,(Da s).2.1,(Da s).2.2)
theorem Akq{s:Ad}(h:(Fp s).2.1=0):FP (Fp s).1∧Al (Fp s).1≤500∧Dn (Fp s).1≤24:=by
 unfold Fp at h⊢;split at h
 ·rename_i h0;rw[if_pos h0];split at h
  ·simp at h
  ·rename_i hb;rw[if_neg hb];split at h
   ·simp at h
   ·rename_i hl;rw[if_neg hl];have:=X4 (Ai2 s) (Ai3 s) (by simpa using hb);exact⟨this.1,by simp only;omega,by simp only;omega⟩
 ·rename_i h0;exact absurd h h0
theorem Akr{r:RS}(ho:r.ok):r.after (Ex r).2:=by
 simp only[Ex];have aT:r.after (Fl 2000 [] r).2:=Ow 2000 [] r ho;have aL:=(Gh 5000).2.2 [] (Fl 2000 [] r).2 (aT.ok ho);have a:=aT.trans aL;simp only[RS.ends];split
 ·exact a.trans (Qf (a.ok ho))
 ·exact a
theorem Jq{s:Ad}(h:nameS s=true):s.length≤8:=by
 unfold nameS at h;split at h
 ·simp
 ·simp only[Du,Mz]at h;have:=h.1.1.1;simp;omega
theorem Ay0(s:Ad)(hs:s.length≤1000000000):Pure X 218 [str s] (.tup [nd (Fp s).1,.agg [vi (Fp s).2.1,vi (Fp s).2.2]]):=by
 have hw:Pure X 262 [str s] (.tup [.sl (H8 (Da s).1) .no,.agg [vi (Da s).2.1,vi (Da s).2.2]]):=Ay7 s hs;refine Pure.run func218 ?_;refine Aj hw ?_;refine Ai (fun h=>?_) (fun h=>?_)
 ·have h':(Da s).2.1≠0:=by have:(!((Da s).2.1==0))=true:=h;simpa using this
  have hP:Fp s=(Cm,(Da s).2.1,((Da s).2.2:Int)):=by simp only[Fp];rw[if_neg h']
  rw[hP];refine Eo 12 ?_;refine Er (Bg rfl rfl rfl rfl rfl rfl rfl) ?_ ?_
  ·exact Aq (Cy rfl rfl rfl) G6
  refine C4 (Bg rfl rfl rfl rfl rfl rfl rfl) ?_;refine Bu ?_;refine Ao func218 ?_;rfl
 have h':(Da s).2.1=0:=by have:(!((Da s).2.1==0))=false:=h;simpa using this
 have hP:Fp s=if (Ex (rs0 s)).2.bad then(Cm,4,((Ex (rs0 s)).2.place s.length:Int))else if 500<Al (Ex (rs0 s)).1∨24<Dn (Ex (rs0 s)).1 then(Cm,5,0)else((Ex (rs0 s)).1,0,0):=by
  simp only[Fp];rw[if_pos h']
 rw[hP];have ho:=Ai2 s;refine Ix 6 (.ptr 3 0 0) ?_;refine Ix 22 (.ptr 3 0 0) ?_;refine Af [3] [] (A3k (rs0 s) ho) ?_;have hws:(Ex (rs0 s)).2.ws=(Da s).1:=(Akr ho).1;have good:=X4 ho (Ai3 s);have hl0:=(Ai2 s).1;generalize Ex (rs0 s)=q at good hws⊢;refine Ai (fun h1=>?_) (fun h1=>?_)
 ·have h1':q.2.bad=true:=h1;rw[if_pos h1'];refine Ai (fun h2=>?_) (fun h2=>?_)
  ·have hlt:q.2.at_<(Da s).1.length:=by have:=A6 h2;rw[Ef]at this;omega
   obtain⟨w,hw⟩:=Ab (Da s).1 hlt;have hp:q.2.place s.length=w.pos:=by simp[RS.place,hws,hw]
   refine Bv q.2.at_ (by omega) (Rw hw) ?_;refine Ao func218 ?_;rw[hp];rfl
  ·have hlt:(Da s).1.length≤q.2.at_:=by have:=Bd h2;rw[Ef]at this;omega
   have hp:q.2.place s.length=s.length:=by simp[RS.place,hws,Oo hlt]
   refine Ao func218 ?_;rw[hp];rfl
 ·have h1':q.2.bad=false:=h1;obtain⟨g1,g2,g3⟩:=good h1';have hc:Al q.1≤4000000000:=by
   have e:(rs0 s).at_=0:=rfl;omega
  rw[if_neg (by simp[h1'])];refine Aj (Apc q.1 hc) ?_;refine Db (fun h2=>?_) (fun h2=>?_)
  ·have h2':500<Al q.1:=by have:=A6 h2;omega
   rw[if_pos (.inl h2')];refine Ay ?_;refine Ao func218 ?_;rfl
  ·have h2':¬500<Al q.1:=by have:=Bd h2;omega
   refine Aj (Apd q.1 hc) ?_;refine Ai (fun h3=>?_) (fun h3=>?_)
   ·have h3':24<Dn q.1:=by have:=A6 h3;omega
    rw[if_pos (.inr h3')];refine Ao func218 ?_;rfl
   ·have h3':¬24<Dn q.1:=by have:=Bd h3;omega
    rw[if_neg (by omega)];refine Ao func218 ?_;rfl
def Ko(n:Nd):Ad:=((n.kids.dropLast).map fun x=>Cs x []).flatten++(match n.kids.getLast? with
 |some b=>I2 b.kids []
 |none=>[])
def Dw(n:Nd):Bool:=(n.kind==40&&Tz n)&&((!(Ko n==[])&&decide ((Ko n).length≤4000))&&(Fp (Ko n)).2.1==0)
theorem Ad7(ds l:List Nd):Ko (.mk 40 [] 0 (ds++[.mk 30 [] 0 l]))=(ds.map fun x=>Cs x []).flatten++I2 l []:=by
 simp[Ko]
theorem Ay1(n:Nd)(h:FP n)(hd:Dn n≤24)(hw:wN n≤100000):Pure X 217 [nd n,str []] (str (Ko n))∧(Ko n).length≤4060*wN n:=by
 cases h with
 |mk ds l hd' hl=>
  rw[Ad7];simp only[Dn]at hd;have hdl:G7 l≤22:=by
   have:=G8 (l:=ds++[.mk 30 [] 0 l]) (x:=.mk 30 [] 0 l) (by simp);simp only[Dn]at this;omega
  have hwl:wL (ds++[.mk 30 [] 0 l])≤100000:=by simp[wN]at hw;omega
  have hwb:=Qp (l:=ds++[.mk 30 [] 0 l]) (k:=.mk 30 [] 0 l) (by simp);simp only[wN]at hwb;have hf:∀x,x∈ds++[.mk 30 [] 0 l]→Pure X 217 [nd x,str []] (str (if x.kind=30 then I2 x.kids []else Cs x []))∧(if x.kind=30 then I2 x.kids []else Cs x []).length≤4060*wN x:=fun x hx=>by
   have hwx:=Qp hx;rcases zzq26.1 hx with h|h
   ·have hv:=hd' x h;have hk:¬x.kind=30:=by cases hv<;>simp
    rw[if_neg hk];exact⟨Ayy x hv [] (by simp) (by omega),Aq5 x hv [] (by simp)⟩
   ·simp only[List.mem_singleton]at h;subst h;rw[if_pos (Nn 30 [] 0 l),G4];refine⟨Zf l [] hl (by simp;omega) (by simp at hwb;omega) fun x hx=>Ayx x (hl x hx),?_⟩;have:=Rf (.mk 30 [] 0 l) l [] hl (by simp;omega);simp only[wN];omega
  have hp:=Ape 40 (.inr rfl) _ _ [] (by simp) hwl hf;have hT:((ds++[Nd.mk 30 [] 0 l]).map fun x=>if x.kind=30 then I2 x.kids []else Cs x []).flatten=(ds.map fun x=>Cs x []).flatten++I2 l []:=by
   have e:(ds.map fun x=>if x.kind=30 then I2 x.kids []else Cs x [])=ds.map fun x=>Cs x []:=by
    apply List.map_congr_left;intro x hx;have hv:=hd' x hx;have hk:¬x.kind=30:=by cases hv<;>simp
    rw[if_neg hk]
   rw[Jp,List.flatten_append,e];simp
  rw[hT]at hp;refine⟨hp,?_⟩;have:=Adl fun x hx=>(hf x hx).2;rw[hT]at this;simp only[wN];omega
theorem Abe(n:Nd)(h:Cr n=true):wN n≤9*Al n:=by
 induction n using Nd.ind with
 |h n ih=>
  rw[Le,Du]at h;have hall:=Lm h.2;obtain⟨_,hH⟩:=Af0 h.1;have hs:n.name.length≤8:=by
   have e:=hH.hs;cases hb:(Bo n.kind).2.1 with
   |false=>rw[hb]at e;have h0:n.name=[]:=(by simpa using e);rw[h0];simp
   |true=>exact Jq (hH.hn hb)
  have key:∀l:List Nd,(∀x,x∈l→wN x≤9*Al x)→wL l≤9*Bb l:=by
   intro l
   induction l with
   |nil=>intro _;simp[wL]
   |cons x l ihl=>
    intro hx;have h1:=hx x (by simp);have h2:=ihl fun y hy=>hx y (by simp[hy]);simp only[wL,Bb];omega
  have:=key n.kids fun x hx=>by
   obtain⟨j,hj⟩:=B9 hx;exact ih x hx (hall j x hj).2
  rw[Xf,Co];omega
theorem Akp(n:Nd)(hn:wN n≤1000000000):Pure X 156 [nd n] (vb (Dw n)):=by
 refine Pure.run func156 ?_;refine Db (fun h1=>?_) (fun h1=>?_)
 ·have h1':¬n.kind=40:=by have:(!(n.kind==40))=true:=h1;simpa using this
  refine Ay ?_;refine Az func156 ?_;simp[Dw,h1',De]
 have h1':n.kind=40:=by have:(!(n.kind==40))=false:=h1;simpa using this
 refine Aj (A24 n hn) ?_;refine Ai (fun h2=>?_) (fun h2=>?_)
 ·have h2':Tz n=false:=by have:(!Tz n)=true:=h2;simpa using this
  refine Az func156 ?_;simp[Dw,h2',De]
 have h2':Tz n=true:=by have:(!Tz n)=false:=h2;simpa using this
 have h2'':=h2';simp only[Tz,Du,Mz]at h2'';obtain⟨⟨hc,hd⟩,hf⟩:=h2'';have hw:=Abe n hf;have hP:=A0r n hf h1';obtain⟨hp,hl⟩:=Ay1 n hP hd (by omega);refine Aj hp ?_;have hO:Dw n=((!(Ko n==[])&&decide ((Ko n).length≤4000))&&(Fp (Ko n)).2.1==0):=by simp[Dw,h1',h2']
 rw[hO];refine Db (fun h3=>?_) (fun h3=>?_)
 ·have h3':(Ko n==[])=true:=h3;refine Ay ?_;refine Az func156 ?_;rw[h3'];rfl
 have h3':(Ko n==[])=false:=h3;refine Ai (fun h4=>?_) (fun h4=>?_)
 ·have h4':¬(Ko n).length≤4000:=by have:=A6 h4;rw[Gj]at this;omega
  refine Az func156 ?_;simp[h4',De]
 have h4':(Ko n).length≤4000:=by have:=Bd h4;rw[Gj]at this;omega
 refine Aj (Ay0 (Ko n) (by omega)) ?_;refine Az func156 ?_;simp[h3',h4',De]
theorem Vi(l:List Ad)(s:Ad)(hl:l.length≤1000000000):Pure X 102 [.sl (Eu l) .no,str s] (vi (Fe 0 l s)):=by
 refine Pure.run func102 ?_;refine Ar (ι:=Nat) 0 0 (fun i=>i≤l.length∧Fe 0 l s=Fe i (l.drop i) s) (fun i=>[(5,vi i),(0,.sl (Eu l) .no),(1,str s)]) (fun _=>⟨[],[]⟩) (fun i=>l.length-i) ?_ 0 ⟨Cb _,rfl⟩
  ⟨rfl,rfl,rfl,trivial⟩
 intro i hi IH;refine Cp (fun h=>?_) (fun h=>?_)
 ·have hlt:i<l.length:=by have:=A6 h;rw[Ft]at this;omega
  obtain⟨x,hx⟩:=Ab l hlt;have hd:Fe i (l.drop i) s=if s==x then(i:Int)else Fe (i+1) (l.drop (i+1)) s:=by rw[Bp hx];rfl
  refine Bv i (by omega) (Rr hx) ?_;refine Ai (fun h2=>?_) (fun h2=>?_)
  ·refine Az func102 ?_;have h3:(s==x)=true:=by have:(x==s)=true:=h2;rw[zzq34]at this⊢;exact this.symm
   rw[hi.2,hd,h3];rfl
  ·have h3:(s==x)=false:=by have:(x==s)=false:=h2;rw[beq_eq_false_iff_ne]at this⊢;exact Ne.symm this
   exact IH (i+1) ⟨hlt,by rw[hi.2,hd,h3];rfl⟩ (by omega) _ _ ⟨vsx (by omega),rfl,rfl,trivial⟩ rfl rfl rfl
 ·have:i=l.length:=by have:=Bd h;rw[Ft]at this;omega
  refine Az func102 ?_;rw[hi.2,this,Hr];rfl
theorem Acw(l:List Ad):Mf 1 (Eu l)=true:=Pf (f:=fun s=>[str s]) (fun _=>rfl) l
def Kv(k:Int):Int:=if k=2∨k=21∨k=23∨k=26 then 1 else if k=3∨k=4∨k=22 then 2 else 0
theorem Ay6(k:Int):Pure X 219 [vi k] (vi (Kv k)):=by
 refine Pure.run func219 ?_
 repeat' (refine Ai (fun _=>?_) (fun _=>?_))
 all_goals refine Az func219 ?_
 all_goals (simp_all [Kv,De])
def Fo(l:List Nd)(k:Int):List Ad:=(l.filter fun x=>x.kind==k).map Nd.name
def A3(n:Nd)(k:Int):List Ad:=Fo n.kids.dropLast k
theorem Aay(l:List Nd)(k:Int):(Fo l k).length≤l.length:=by simp only[Fo,Py];exact Ag5 _ _
theorem Tj(n:Nd)(k:Int)(hn:wN n≤1000000000):Pure X 98 [nd n,vi k] (.sl (Eu (A3 n k)) .no):=by
 refine Pure.run func98 ?_;have hkl:=Ho n;have hw:IntKind.i64.wrap ((Av n.kids).length-1:Int)=n.kids.length-1:=by rw[Ae];exact Ac (by omega) (by omega)
 refine R6 (d:=5) rfl rfl rfl ?_;refine Ar (ι:=Nat) 1 1 (fun i=>i≤n.kids.length-1) (fun i=>[(6,vi i),(5,.sl (Eu (Fo (n.kids.take i) k)) (.tok 0)),(1,vi k),(2,.ptr 0 0 0)]) (fun i=>⟨[[Ag n]],[(Fo (n.kids.take i) k).length]⟩) (fun i=>n.kids.length-i) ?_ 0
  (Cb _) ⟨rfl,rfl,rfl,rfl,trivial⟩
 intro i hi IH;refine Cp (fun h=>?_) (fun h=>?_)
 ·have hlt:i<n.kids.length-1:=by have:=A6 h;rw[hw]at this;omega
  obtain⟨x,hx⟩:=Ab n.kids (i:=i) (by omega);have hle:=Aay (n.kids.take i) k;have htl:(n.kids.take i).length=i:=by simp;omega
  refine Bv i (by omega) (Ap hx) ?_;refine Ai (fun h2=>?_) (fun h2=>?_)
  ·have h2':(x.kind==k)=true:=h2;have hs:Fo (n.kids.take (i+1)) k=Fo (n.kids.take i) k++[x.name]:=by simp[Fo,Hq,hx,Aev,Ab3,h2']
   refine Bv i (by omega) (Ap hx) ?_;refine Bs (Cn (res:=Eu (Fo (n.kids.take i) k++[x.name])) rfl rfl rfl rfl rfl rfl rfl rfl rfl rfl rfl rfl rfl rfl (Ft _) (Acw _) rfl rfl rfl ?_ ?_ rfl) ?_
   ·rw[Ft];simp;omega
   ·simp[Eu]
   refine IH (i+1) (by omega) (by omega) _ _ ⟨vsx (by omega),?_,rfl,rfl,trivial⟩ ?_ rfl rfl
   ·rw[hs];rfl
   ·rw[hs];simp[St.drop,Ft]
  ·have h2':(x.kind==k)=false:=h2;have hs:Fo (n.kids.take (i+1)) k=Fo (n.kids.take i) k:=by simp[Fo,Hq,hx,Aev,Ab3,h2']
   refine IH (i+1) (by omega) (by omega) _ _ ⟨vsx (by omega),?_,rfl,rfl,trivial⟩ ?_ rfl rfl
   ·rw[hs];rfl
   ·rw[hs];rfl
 ·have:i=n.kids.length-1:=by have:=Bd h;rw[hw]at this;omega
  refine Ao func98 ?_;rw[this,A3,Alj]
theorem Ad4(n:Nd)(hn:wN n≤1000000000):Pure X 103 [nd n] (nd n):=by
 induction n using Nd.ind with
 |h n ih=>
 refine Pure.run func103 ?_;have hkl:=Ho n;refine R6 (d:=3) rfl rfl rfl ?_;refine Ar (ι:=Nat) 2 1 (fun i=>i≤n.kids.length) (fun i=>[(4,vi i),(3,.sl (Av (n.kids.take i)) (.tok 0)),(1,.ptr 0 0 0),(2,.ptr 1 0 0)]) (fun i=>⟨[[Ag n],[zN]],[i]⟩) (fun i=>n.kids.length-i) ?_ 0
  (Cb _) ⟨rfl,rfl,rfl,rfl,trivial⟩
 intro i hi IH;refine Cp (fun h=>?_) (fun h=>?_)
 ·have hlt:i<n.kids.length:=by have:=A6 h;rw[Ae]at this;omega
  obtain⟨x,hx⟩:=Ab n.kids hlt;have hwx:=Jx (Bn hx);have htl:(n.kids.take i).length=i:=by simp;omega
  refine Bv i (by omega) (Ap hx) ?_;refine Aj (ih x (Bn hx) (by omega)) ?_;refine Bs (Cn (res:=Av (n.kids.take (i+1))) rfl rfl rfl rfl rfl rfl rfl rfl rfl rfl rfl rfl rfl rfl (by rw[Ae,htl]) (E9 _) rfl rfl rfl ?_ ?_ rfl) ?_
  ·rw[Ae];simp;omega
  ·rw[Hq,hx,Ax,Ax];simp
  refine IH (i+1) hlt (by omega) _ _ ⟨vsx (by omega),rfl,rfl,rfl,trivial⟩ ?_ rfl rfl;simp[St.drop,Ae,htl]
 ·have:i=n.kids.length:=by have:=Bd h;rw[Ae]at this;omega
  subst this;refine Ao func103 ?_;rw[Jh];rfl
theorem A04(s:Ad)(a:Nd):Pure X 230 [str s,nd a] (nd (.mk 21 s 0 [a])):=by
 refine Pure.run func230 ?_;refine Ao func230 ?_;show AV.agg [_,_,_,.sl _ _]=AV.agg [_,_,_,.sl (Av [a]) _];rw[Ax [a]];rfl
theorem Au0(s:Ad):Pure X 232 [str s] (nd (.mk 2 s 0 [])):=by
 refine Pure.run func232 ?_;exact Ao func232 rfl
theorem Ayz:Pure X 233 [vi 1] (nd (.mk 1 [] 1 [])):=by
 refine Pure.run func233 ?_;refine Ah ?_;exact Ao func233 rfl
def Ih(vars arrs:List Ad)(code:Int)(k:Int)(s:Ad):Bool:=
 decide (Kv k>0)&&((code==7&&!decide (Fe 0 vars s≥0)&&!decide (Fe 0 arrs s≥0))||(code==8&&((Kv k==1&&!decide (Fe 0 vars s≥0))||(Kv k==2&&!decide (Fe 0 arrs s≥0)))))
mutual
def Hk(vars arrs:List (List UInt8))(code:Int):Nd→List UInt8×Bool
 |.mk k s _ ks=>if Ih vars arrs code k s then(s,true)else Nf vars arrs code ks
def Nf(vars arrs:List (List UInt8))(code:Int):List Nd→List UInt8×Bool
 |[]=>([],false)
 |x::l=>if (Hk vars arrs code x).2 then(Hk vars arrs code x)else Nf vars arrs code l
end
theorem Rv(vars arrs:List Ad)(code:Int)(n:Nd):Hk vars arrs code n=if Ih vars arrs code n.kind n.name then(n.name,true)else Nf vars arrs code n.kids:=by cases n;rw[Hk];rfl
theorem A63(n:Nd)(vars arrs:List Ad)(T:Ad×Bool)(code w:Int)(v a:Bool)(hc:code=7∨code=8)(hw:w=1∨w=2)
 (h7:AK X ⟨157,f157,0,0⟩ (J6 false 7 f157) [(4,.ptr 0 0 0),(1,.sl (Eu vars) .no),(2,.sl (Eu arrs) .no),(3,vi code)] ⟨[[Ag n]],[]⟩ (fun e S=>e=.ret (.tup [str T.1,vb T.2])∧S=⟨[],[]⟩)) :
 AK X ⟨157,f157,0,0⟩ (J6 false 5 f157) [(4,.ptr 0 0 0),(1,.sl (Eu vars) .no),(2,.sl (Eu arrs) .no),(3,vi code),(10,vi w),(11,vb v),(12,vb a)] ⟨[[Ag n]],[]⟩
  (fun e S=>e=.ret (.tup [str (if ((code==7&&!v&&!a)||(code==8&&((w==1&&!v)||(w==2&&!a))))then(n.name,true)else T).1,vb (if ((code==7&&!v&&!a)||(code==8&&((w==1&&!v)||(w==2&&!a))))then(n.name,true)else T).2])∧S=⟨[],[]⟩):=by
 refine Dj ?_;rcases hc with rfl|rfl<;>rcases hw with rfl|rfl<;>cases v<;>cases a
 all_goals
  refine Ba 100 rfl ?_
  repeat' (first|refine Gm ?_|refine Ep ?_)
  first
   |(refine Ay ?_;exact Az func157 rfl)
   |(refine Ec 0 7 (fun h=>?_) (fun h=>?_);· cases h
     exact Br 1 0 h7 ⟨rfl,rfl,rfl,rfl,trivial⟩ rfl rfl rfl rfl rfl)
theorem Aph(vars arrs:List Ad)(code:Int)(hc:code=7∨code=8)(hv:vars.length≤1000000000)(ha:arrs.length≤1000000000)(n:Nd)(hn:wN n≤1000000000) :
 Pure X 157 [nd n,.sl (Eu vars) .no,.sl (Eu arrs) .no,vi code] (.tup [str (Hk vars arrs code n).1,vb (Hk vars arrs code n).2]):=by
 induction n using Nd.ind with
 |h n ih=>
 have hkl:=Ho n;have hloop:∀T,Nf vars arrs code n.kids=T→AK X ⟨157,f157,0,0⟩ (J6 false 7 f157) [(4,.ptr 0 0 0),(1,.sl (Eu vars) .no),(2,.sl (Eu arrs) .no),(3,vi code)] ⟨[[Ag n]],[]⟩
  (fun e S=>e=.ret (.tup [str T.1,vb T.2])∧S=⟨[],[]⟩):=fun T hT=>by
  refine Dj ?_;refine Ba 100 rfl ?_;refine Ar (ι:=Nat) 1 0 (fun i=>i≤n.kids.length∧T=Nf vars arrs code (n.kids.drop i)) (fun i=>[(13,vi i),(4,.ptr 0 0 0),(1,.sl (Eu vars) .no),(2,.sl (Eu arrs) .no),(3,vi code)]) (fun _=>⟨[[Ag n]],[]⟩)
   (fun i=>n.kids.length-i) ?_ 0 ⟨Cb _,hT.symm⟩ ⟨rfl,rfl,rfl,rfl,rfl,trivial⟩
  rintro i ⟨hi,hTi⟩ IH;refine Cp (fun h=>?_) (fun h=>?_)
  ·have hlt:i<n.kids.length:=by have:=A6 h;rw[Ae]at this;omega
   obtain⟨x,hx⟩:=Ab n.kids hlt;have hwx:=Jx (Bn hx);rw[Bp hx]at hTi;simp only[Nf]at hTi;refine Bv i (by omega) (Ap hx) ?_;refine Aj (ih x (Bn hx) (by omega)) ?_;refine Ai (fun h2=>?_) (fun h2=>?_)
   ·have h2':(Hk vars arrs code x).2=true:=h2;refine Az func157 ?_;rw[hTi,if_pos h2',h2'];rfl
   ·have h2':(Hk vars arrs code x).2=false:=h2;exact IH (i+1) ⟨hlt,by rw[hTi,if_neg (by simp[h2'])]⟩ (by omega) _ _ ⟨vsx (by omega),rfl,rfl,rfl,rfl,trivial⟩ rfl rfl rfl
  ·have:i=n.kids.length:=by have:=Bd h;rw[Ae]at this;omega
   refine Az func157 ?_;rw[hTi,this,Hr];rfl
 refine Pure.run func157 ?_;refine Aj (Ay6 n.kind) ?_;rw[Rv];refine Ec 0 7 (fun h1=>?_) (fun h1=>?_)
 ·have h1':decide (Kv n.kind>0)=true:=h1;have hw:Kv n.kind=1∨Kv n.kind=2:=by
   have:=A6 h1';unfold Kv at this⊢;split
   ·simp
   ·split
    ·simp
    ·rename_i h2 h3;rw[if_neg h2,if_neg h3]at this;omega
  refine Ba 100 rfl ?_;refine Aj (Vi vars n.name hv) ?_;refine Asp 5 (Vi arrs n.name ha) ?_;have hA:Ih vars arrs code n.kind n.name=((code==7&&!decide (Fe 0 vars n.name≥0)&&!decide (Fe 0 arrs n.name≥0))||(code==8&&((Kv n.kind==1&&!decide (Fe 0 vars n.name≥0))||(Kv n.kind==2&&!decide (Fe 0 arrs n.name≥0))))):=by simp only[Ih,h1',N5]
  rw[hA];exact Br 1 0 (A63 n vars arrs _ code _ _ _ hc hw (hloop _ rfl)) ⟨rfl,rfl,rfl,rfl,rfl,rfl,rfl,trivial⟩ rfl rfl rfl rfl rfl
 ·have h1':decide (Kv n.kind>0)=false:=h1;have hA:Ih vars arrs code n.kind n.name=false:=by simp[Ih,h1']
  rw[hA];exact Br 1 0 (hloop _ rfl) ⟨rfl,rfl,rfl,rfl,trivial⟩ rfl rfl rfl rfl rfl
end Go.V
