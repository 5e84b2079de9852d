/- A part of the proof of the claim that the last text states: no condition of its own. -/
import Derived.Test.YtojhghmilenfkaaGreatDoorN3
import Derived.Ground.NamesProg
import Derived.Lib.AtoiTie
import Derived.Lib.Bytealg
import Derived.Lib.ConvBytes
import Derived.Shelf.Strconv.AtoiAll
import Derived.Shelf.Strconv.Itoa3
import Derived.Test.YtojhghmilenfkaaGreatDoorChecked
import Derived.WideLaws
set_option linter.unusedVariables false
set_option linter.unusedSimpArgs false
namespace Go.V
open Go Go.Proofs Go.Proofs.Tryz
def Tf(n:Nd):Bool:=decide (Ai n≤500)&&decide (Dh n≤24)&&Co n
theorem A12(n:Nd)(hn:wN n≤1000000000):Pure X 216 [nd n] (vb (Tf n)):=by
 have hc:=Ry n;have hz:∀a b:Nat,((a:Int)≤(b:Int))↔a≤b:=fun a b=>by omega
 refine Pure.run func216 ?_;refine Al (Aom n (by omega)) ?_;refine Df (fun h1=>?_) (fun h1=>?_)
 ·have h1':Ai n≤500:=by have:=A5 h1;omega
  refine Al (Aon n (by omega)) ?_;refine Df (fun h2=>?_) (fun h2=>?_)
  ·have h2':Dh n≤24:=by have:=A5 h2;omega
   refine Al (At2 n hn) ?_;refine Az func216 ?_;simp[Tf,h1',h2',C8]
  ·have h2':¬Dh n≤24:=by have:=Ba h2;omega
   refine Az func216 ?_;simp[Tf,h2',C8]
 ·have h1':¬Ai n≤500:=by have:=Ba h1;omega
  refine Ii ?_;refine Az func216 ?_;simp[Tf,h1',C8]
inductive FE:Nd→Prop
 |num (m:Int) (h0:0≤m) (h1:m≤1000000):FE (.mk 1 [] m [])
 |var (s:List UInt8) (h:nameS s=true):FE (.mk 2 s 0 [])
 |cell (s:List UInt8) (a:Nd) (h:nameS s=true) (ha:FE a):FE (.mk 3 s 0 [a])
 |len (s:List UInt8) (h:nameS s=true):FE (.mk 4 s 0 [])
 |neg (a:Nd) (ha:FE a):FE (.mk 5 [] 0 [a])
 |two (k:Int) (a b:Nd) (hk:k=6∨k=7∨k=8) (ha:FE a) (hb:FE b):FE (.mk k [] 0 [a,b])
inductive FC:Nd→Prop
 |mk (k:Int) (a b:Nd) (h0:11≤k) (h1:k≤16) (ha:FE a) (hb:FE b):FC (.mk k [] 0 [a,b])
inductive FS:Nd→Prop
 |set (s:List UInt8) (a:Nd) (h:nameS s=true) (ha:FE a):FS (.mk 21 s 0 [a])
 |put (s:List UInt8) (a b:Nd) (h:nameS s=true) (ha:FE a) (hb:FE b):FS (.mk 22 s 0 [a,b])
 |read (s:List UInt8) (h:nameS s=true):FS (.mk 23 s 0 [])
 |ifs (c:Nd) (l l':List Nd) (hc:FC c) (hl:∀x,x∈l→FS x) (hl':∀x,x∈l'→FS x):FS (.mk 24 [] 0 [c,.mk 30 [] 0 l,.mk 30 [] 0 l'])
 |whil (c:Nd) (l:List Nd) (hc:FC c) (hl:∀x,x∈l→FS x):FS (.mk 25 [] 0 [c,.mk 30 [] 0 l])
 |for_ (s:List UInt8) (a b:Nd) (l:List Nd) (h:nameS s=true) (ha:FE a) (hb:FE b) (hl:∀x,x∈l→FS x):FS (.mk 26 s 0 [a,b,.mk 30 [] 0 l])
 |check (c:Nd) (hc:FC c):FS (.mk 27 [] 0 [c])
 |skip:FS (.mk 28 [] 0 [])
 |stop:FS (.mk 29 [] 0 [])
inductive FV:Nd→Prop
 |var (s:List UInt8) (h:nameS s=true):FV (.mk 31 s 0 [])
 |arr (s:List UInt8) (m:Int) (h:nameS s=true) (h0:-1≤m) (h1:m≤1000000):FV (.mk 32 s m [])
inductive FP:Nd→Prop
 |mk (ds l:List Nd) (hd:∀x,x∈ds→FV x) (hl:∀x,x∈l→FS x):FP (.mk 40 [] 0 (ds++[.mk 30 [] 0 l]))
theorem N9{s:List UInt8}(h:nameS s=true):s≠[]:=by rintro rfl;simp[nameS]at h
theorem Ajo{l:List Nd}(h:(l.length:Int)=0):l=[]:=by
 cases l with
 |nil=>rfl
 |cons x l=>simp at h;omega
theorem Axo{l:List Nd}(h:(l.length:Int)=1):∃a,l=[a]:=by
 match l with
 |[]=>simp at h
 |[a]=>exact⟨a,rfl⟩
 |_::_::_=>simp at h;omega
theorem Aqc{l:List Nd}(h:(l.length:Int)=2):∃a b,l=[a,b]:=by
 match l with
 |[]=>simp at h
 |[_]=>simp at h
 |[a,b]=>exact⟨a,b,rfl⟩
 |_::_::_::_=>simp at h;omega
theorem A31{l:List Nd}(h:(l.length:Int)=3):∃a b c,l=[a,b,c]:=by
 match l with
 |[]=>simp at h
 |[_]=>simp at h
 |[_,_]=>simp at h
 |[a,b,c]=>exact⟨a,b,c,rfl⟩
 |_::_::_::_::_=>simp at h;omega
structure HeadF (k:Int)(s:List UInt8)(m:Int)(ks:List Nd)(len:Int)(nm:Bool):Prop where
 hl:0≤len→(ks.length:Int)=len
 hs:nm=!(s==[])
 hn:nm=true→nameS s=true
 hk:k=40→ks≠[]
 hm:Fh k m=true
theorem Afg{k:Int}{s:List UInt8}{m:Int}{ks:List Nd}(h:H9 k s m ks.length=true):(Bj k).2.2=true∧HeadF k s m ks (Bj k).1 (Bj k).2.1:=by
 simp only[H9,Dd,Pd,Ke,zzq54,Ml]at h;obtain⟨⟨⟨⟨⟨h1,h2⟩,h3⟩,h4⟩,h5⟩,h6⟩:=h;refine⟨h1,⟨fun h0=>?_,h3,fun hn=>?_,fun h40 hnil=>?_,h6⟩⟩
 ·rcases h2 with h2|h2
  ·omega
  ·exact h2
 ·rcases h4 with h4|h4
  ·rw[hn]at h4;cases h4
  ·exact h4
 ·subst h40;subst hnil;simp at h5
theorem HeadF.no{k:Int}{s:List UInt8}{m:Int}{ks:List Nd}{len:Int}(h:HeadF k s m ks len false):s=[]:=by
 have:=h.hs;simpa using this
theorem HeadF.num0{k:Int}{s:List UInt8}{m:Int}{ks:List Nd}{len:Int}{b:Bool}(h:HeadF k s m ks len b)(h1:k≠1)(h2:k≠32):m=0:=by
 have:=h.hm;simpa[Fh,h1,h2]using this
theorem Le{p:Nd}:∀{l:List Nd}{i:Nat},Et p i l=true→∀(j:Nat)(x:Nd),l[j]?=some x→K5 p ((i+j:Nat):Int) x.kind=true∧Co x=true
 |[],i,_,j,x,h=>by simp at h
 |y::l,i,hf,j,x,h=>by
  simp only[Et,Dd]at hf;cases j with
  |zero=>simp at h;subst h;exact⟨hf.1,hf.2.1⟩
  |succ j=>
   have:=Le hf.2.2 j x (by simpa using h);rw[show i+(j+1)=i+1+j by omega];exact this
theorem Cn{n lo hi:Int}:Bl n lo hi=true↔lo≤n∧n≤hi:=by simp[Bl]
@[simp] theorem M6(k:Int)(s:List UInt8)(m:Int)(ks:List Nd):(Nd.mk k s m ks).kind=k:=rfl
@[simp] theorem Vw(k:Int)(s:List UInt8)(m:Int)(ks:List Nd):(Nd.mk k s m ks).name=s:=rfl
@[simp] theorem Aai(k:Int)(s:List UInt8)(m:Int)(ks:List Nd):(Nd.mk k s m ks).num=m:=rfl
@[simp] theorem Gh(k:Int)(s:List UInt8)(m:Int)(ks:List Nd):(Nd.mk k s m ks).kids=ks:=rfl
theorem Ati{n:Nd}{i k:Int}(h:n.kind<24):K5 n i k=Kt k:=by
 unfold K5;rw[if_neg (show ¬(n.kind=24∨n.kind=25∨n.kind=27) by omega),if_neg (show ¬(n.kind=26∧i=2) by omega),if_neg (show ¬n.kind=30 by omega),if_neg (show ¬n.kind=40 by omega)]
theorem Ahu{n:Nd}{i k:Int}(h:n.kind=40):K5 n i k=if i=n.kids.length-1 then k==30 else k==31||k==32:=by
 unfold K5;rw[if_neg (show ¬(n.kind=24∨n.kind=25∨n.kind=27) by omega),if_neg (show ¬(n.kind=26∧i=2) by omega),if_neg (show ¬n.kind=30 by omega),if_pos h]
theorem Aeu(n:Nd)(hf:Co n=true)(hk:Kt n.kind=true):FE n:=by
 induction n using Nd.ind with
 |h n ih=>
 obtain⟨k,s,m,ks⟩:=n;simp only[M6,Kt,Cn]at hk;rw[K4,Dd]at hf;simp only[M6,Vw,Aai,Gh]at hf ih;obtain⟨h1,h2⟩:=hf;have hall:=Le h2;have kidE:∀(j:Nat) (x:Nd),ks[j]?=some x→FE x:=fun j x hx=>by
  obtain⟨h3,h4⟩:=hall j x hx;refine ih x (Bh hx) h4 ?_;rwa[Ati (by simp;omega)]at h3
 obtain⟨_,hH⟩:=Afg h1;have:k=1∨k=2∨k=3∨k=4∨k=5∨k=6∨k=7∨k=8:=by omega
 rcases this with rfl|rfl|rfl|rfl|rfl|rfl|rfl|rfl
 ·rw[show Bj 1=(0,false,true) by simp[Bj]]at hH;obtain rfl:=Ajo (hH.hl (by simp));obtain rfl:=hH.no;have:=hH.hm;simp only[Fh,if_true,Cn]at this;exact .num m this.1 this.2
 ·rw[show Bj 2=(0,true,true) by simp[Bj]]at hH;obtain rfl:=Ajo (hH.hl (by simp));obtain rfl:=hH.num0 (by simp) (by simp);exact .var s (hH.hn rfl)
 ·rw[show Bj 3=(1,true,true) by simp[Bj]]at hH;obtain⟨a,rfl⟩:=Axo (hH.hl (by simp));obtain rfl:=hH.num0 (by simp) (by simp);exact .cell s a (hH.hn rfl) (kidE 0 a rfl)
 ·rw[show Bj 4=(0,true,true) by simp[Bj]]at hH;obtain rfl:=Ajo (hH.hl (by simp));obtain rfl:=hH.num0 (by simp) (by simp);exact .len s (hH.hn rfl)
 ·rw[show Bj 5=(1,false,true) by simp[Bj]]at hH;obtain⟨a,rfl⟩:=Axo (hH.hl (by simp));obtain rfl:=hH.num0 (by simp) (by simp);obtain rfl:=hH.no;exact .neg a (kidE 0 a rfl)
 ·rw[show Bj 6=(2,false,true) by simp[Bj]]at hH;obtain⟨a,b,rfl⟩:=Aqc (hH.hl (by simp));obtain rfl:=hH.num0 (by simp) (by simp);obtain rfl:=hH.no;exact .two 6 a b (by simp) (kidE 0 a rfl) (kidE 1 b rfl)
 ·rw[show Bj 7=(2,false,true) by simp[Bj]]at hH;obtain⟨a,b,rfl⟩:=Aqc (hH.hl (by simp));obtain rfl:=hH.num0 (by simp) (by simp);obtain rfl:=hH.no;exact .two 7 a b (by simp) (kidE 0 a rfl) (kidE 1 b rfl)
 ·rw[show Bj 8=(2,false,true) by simp[Bj]]at hH;obtain⟨a,b,rfl⟩:=Aqc (hH.hl (by simp));obtain rfl:=hH.num0 (by simp) (by simp);obtain rfl:=hH.no;exact .two 8 a b (by simp) (kidE 0 a rfl) (kidE 1 b rfl)
theorem Ary(n:Nd)(hf:Co n=true)(hk:Sd n.kind=true):FC n:=by
 obtain⟨k,s,m,ks⟩:=n;simp only[M6,Sd,Cn]at hk;rw[K4,Dd]at hf;simp only[M6,Vw,Aai,Gh]at hf;obtain⟨h1,h2⟩:=hf;have hall:=Le h2;have kidE:∀(j:Nat) (x:Nd),ks[j]?=some x→FE x:=fun j x hx=>by
  obtain⟨h3,h4⟩:=hall j x hx;refine Aeu x h4 ?_;rwa[Ati (by simp;omega)]at h3
 obtain⟨_,hH⟩:=Afg h1;rw[show Bj k=(2,false,true) by simp only[Bj];rw[if_neg (by omega),if_neg (by omega),if_neg (by omega),if_neg (by omega),if_pos (by omega)]]at hH;obtain⟨a,b,rfl⟩:=Aqc (hH.hl (by simp));obtain rfl:=hH.num0 (by omega) (by omega);obtain rfl:=hH.no;exact .mk k a b hk.1 hk.2 (kidE 0 a rfl) (kidE 1 b rfl)
theorem A3i(n:Nd):Co n=true→(Ym n.kind=true→FS n)∧(n.kind=30→∃l,n=.mk 30 [] 0 l∧∀x,x∈l→FS x):=by
 induction n using Nd.ind with
 |h n ih=>
 intro hf;obtain⟨k,s,m,ks⟩:=n;rw[K4,Dd]at hf;simp only[M6,Vw,Aai,Gh]at hf ih⊢;obtain⟨h1,h2⟩:=hf;have hall:=Le h2;obtain⟨_,hH⟩:=Afg h1;have kid:∀(j:Nat) (x:Nd),ks[j]?=some x→K5 (.mk k s m ks) j x.kind=true:=fun j x hx=>by have:=(hall j x hx).1;rwa[Jy]at this
 have fm:∀(j:Nat) (x:Nd),ks[j]?=some x→Co x=true:=fun j x hx=>(hall j x hx).2;have ihs:∀(j:Nat) (x:Nd),ks[j]?=some x→x.kind=30→∃l,x=.mk 30 [] 0 l∧∀x,x∈l→FS x:=fun j x hx=>(ih x (Bh hx) (fm j x hx)).2;refine⟨fun hk=>?_,fun hk=>?_⟩
 ·simp only[Ym,Cn]at hk;have:k=21∨k=22∨k=23∨k=24∨k=25∨k=26∨k=27∨k=28∨k=29:=by omega
  rcases this with rfl|rfl|rfl|rfl|rfl|rfl|rfl|rfl|rfl
  ·rw[show Bj 21=(1,true,true) by simp[Bj]]at hH;obtain⟨a,rfl⟩:=Axo (hH.hl (by simp));obtain rfl:=hH.num0 (by simp) (by simp);have k0:=kid 0 a rfl;simp[K5]at k0;exact .set s a (hH.hn rfl) (Aeu a (fm 0 a rfl) k0)
  ·rw[show Bj 22=(2,true,true) by simp[Bj]]at hH;obtain⟨a,b,rfl⟩:=Aqc (hH.hl (by simp));obtain rfl:=hH.num0 (by simp) (by simp);have k0:=kid 0 a rfl;have k1:=kid 1 b rfl;simp[K5]at k0 k1;exact .put s a b (hH.hn rfl) (Aeu a (fm 0 a rfl) k0) (Aeu b (fm 1 b rfl) k1)
  ·rw[show Bj 23=(0,true,true) by simp[Bj]]at hH;obtain rfl:=Ajo (hH.hl (by simp));obtain rfl:=hH.num0 (by simp) (by simp);exact .read s (hH.hn rfl)
  ·rw[show Bj 24=(3,false,true) by simp[Bj]]at hH;obtain⟨c,a,b,rfl⟩:=A31 (hH.hl (by simp));obtain rfl:=hH.num0 (by simp) (by simp);obtain rfl:=hH.no;have k0:=kid 0 c rfl;have k1:=kid 1 a rfl;have k2:=kid 2 b rfl;simp[K5]at k0 k1 k2;obtain⟨l,rfl,hl⟩:=ihs 1 a rfl k1;obtain⟨l',rfl,hl'⟩:=ihs 2 b rfl k2;exact .ifs c l l' (Ary c (fm 0 c rfl) k0) hl hl'
  ·rw[show Bj 25=(2,false,true) by simp[Bj]]at hH;obtain⟨c,a,rfl⟩:=Aqc (hH.hl (by simp));obtain rfl:=hH.num0 (by simp) (by simp);obtain rfl:=hH.no;have k0:=kid 0 c rfl;have k1:=kid 1 a rfl;simp[K5]at k0 k1;obtain⟨l,rfl,hl⟩:=ihs 1 a rfl k1;exact .whil c l (Ary c (fm 0 c rfl) k0) hl
  ·rw[show Bj 26=(3,true,true) by simp[Bj]]at hH;obtain⟨a,b,d,rfl⟩:=A31 (hH.hl (by simp));obtain rfl:=hH.num0 (by simp) (by simp);have k0:=kid 0 a rfl;have k1:=kid 1 b rfl;have k2:=kid 2 d rfl;simp[K5]at k0 k1 k2;obtain⟨l,rfl,hl⟩:=ihs 2 d rfl k2;exact .for_ s a b l (hH.hn rfl) (Aeu a (fm 0 a rfl) k0) (Aeu b (fm 1 b rfl) k1) hl
  ·rw[show Bj 27=(1,false,true) by simp[Bj]]at hH;obtain⟨c,rfl⟩:=Axo (hH.hl (by simp));obtain rfl:=hH.num0 (by simp) (by simp);obtain rfl:=hH.no;have k0:=kid 0 c rfl;simp[K5]at k0;exact .check c (Ary c (fm 0 c rfl) k0)
  ·rw[show Bj 28=(0,false,true) by simp[Bj]]at hH;obtain rfl:=Ajo (hH.hl (by simp));obtain rfl:=hH.num0 (by simp) (by simp);obtain rfl:=hH.no;exact .skip
  ·rw[show Bj 29=(0,false,true) by simp[Bj]]at hH;obtain rfl:=Ajo (hH.hl (by simp));obtain rfl:=hH.num0 (by simp) (by simp);obtain rfl:=hH.no;exact .stop
 ·subst hk;rw[show Bj 30=(-1,false,true) by simp[Bj]]at hH;obtain rfl:=hH.num0 (by simp) (by simp);obtain rfl:=hH.no;refine⟨ks,rfl,fun x hx=>?_⟩;obtain⟨j,hj⟩:=Bs hx;have k0:=kid j x hj;simp[K5]at k0;exact(ih x hx (fm j x hj)).1 k0
theorem A3j(n:Nd)(hf:Co n=true)(hk:n.kind=31∨n.kind=32):FV n:=by
 obtain⟨k,s,m,ks⟩:=n;rw[K4,Dd]at hf;simp only[M6,Vw,Aai,Gh]at hf hk;obtain⟨h1,h2⟩:=hf;obtain⟨_,hH⟩:=Afg h1;rcases hk with rfl|rfl
 ·rw[show Bj 31=(0,true,true) by simp[Bj]]at hH;obtain rfl:=Ajo (hH.hl (by simp));obtain rfl:=hH.num0 (by simp) (by simp);exact .var s (hH.hn rfl)
 ·rw[show Bj 32=(0,true,true) by simp[Bj]]at hH;obtain rfl:=Ajo (hH.hl (by simp));have:=hH.hm;simp[Fh,Cn]at this;exact .arr s m (hH.hn rfl) this.1 this.2
theorem Azv(n:Nd)(hf:Co n=true)(hk:n.kind=40):FP n:=by
 obtain⟨k,s,m,ks⟩:=n;rw[K4,Dd]at hf;simp only[M6,Vw,Aai,Gh]at hf hk;subst hk;obtain⟨h1,h2⟩:=hf;have hall:=Le h2;obtain⟨_,hH⟩:=Afg h1;rw[show Bj 40=(-1,false,true) by simp[Bj]]at hH;obtain rfl:=hH.num0 (by simp) (by simp);obtain rfl:=hH.no;have hne:=hH.hk rfl;have kid:∀(j:Nat) (x:Nd),ks[j]?=some x→K5 (.mk 40 [] 0 ks) j x.kind=true:=fun j x hx=>by have:=(hall j x hx).1;rwa[Jy]at this
 have fm:∀(j:Nat) (x:Nd),ks[j]?=some x→Co x=true:=fun j x hx=>(hall j x hx).2;have hpos:0<ks.length:=zzq65.2 hne;obtain⟨b,hb⟩:=Ab ks (i:=ks.length-1) (by omega);have hsplit:ks=ks.take (ks.length-1)++[b]:=by
  conv=>lhs;rw[←Aee (ks.length-1) ks]
  congr 1;rw[Akv (by omega),Aef (by omega)];have:=Wv (l:=ks) (i:=ks.length-1) (by omega);rw[hb]at this;rw[←Option.some.inj this]
 have kb:=kid _ b hb;rw[Ahu rfl,if_pos (by rw[Gh];omega)]at kb;obtain⟨l,rfl,hl⟩:=(A3i b (fm _ b hb)).2 (by simpa using kb);rw[hsplit];refine .mk _ l (fun x hx=>?_) hl;obtain⟨j,hj⟩:=Bs hx;have hjl:=Aa hj;rw[Vd]at hjl;have hj':ks[j]?=some x:=by rw[Mb,if_pos (by omega)]at hj;exact hj
 have kx:=kid j x hj';rw[Ahu rfl,if_neg (by rw[Gh];omega)]at kx;exact A3j x (fm j x hj') (by simpa using kx)
def L8(k:Int):Int:=if k=6∨k=7 then 1 else if k=8 then 2 else 3
def Me(l:Int)(k:Int)(t:List UInt8):List UInt8:=if L8 k<l then[40]++t++[41]else t
def Ux(k:Int):List UInt8:=if k=11 then[60]else if k=12 then[60,61]else if k=13 then[62]else if k=14 then[62,61]else if k=15 then[61,61]else[33,61]
def Bt:Nd→List UInt8
 |.mk k s m []=>if k=1 then Md m.toNat else if k=4 then[108,101,110,40]++s++[41]else s
 |.mk k s _ [a]=>if k=3 then s++[91]++Bt a++[93]else[45]++Me 3 a.kind (Bt a)
 |.mk k _ _ (a::b::_)=>
  if k=6 then Me 1 a.kind (Bt a)++[32,43,32]++Me 2 b.kind (Bt b)
  else if k=7 then Me 1 a.kind (Bt a)++[32,45,32]++Me 2 b.kind (Bt b)
  else if k=8 then Me 2 a.kind (Bt a)++[32,42,32]++Me 3 b.kind (Bt b)
  else Bt a++[32]++Ux k++[32]++Bt b
theorem Ko(l k:Int)(t:List UInt8):(Me l k t).length≤t.length+2:=by
 unfold Me;split<;>simp
theorem Adx(k:Int):(Ux k).length≤2:=by
 unfold Ux;repeat' split
 all_goals simp
theorem A09(d n:Nat)(h:n<10^(d+1)):(Md n).length≤d+1:=by
 induction d generalizing n with
 |zero=>unfold Md;rw[if_pos (by simpa using h)];simp
 |succ d ih=>
  unfold Md;split
  ·simp
  ·have:=ih (n/10) (by rw[Nat.pow_succ]at h;omega);simp;omega
theorem Vm(n:Nat)(h:n≤1000000):(Md n).length≤7:=A09 6 n (by omega)
theorem Ft(n:Nd)(h:FE n):(Bt n).length≤12*wN n:=by
 induction h with
 |num m h0 h1=>
  have:=Vm m.toNat (by omega)
  simp only[Bt,wN,if_true];omega
 |var s h=>simp[Bt,wN];omega
 |cell s a h ha ih=>simp[Bt,wN,wL];omega
 |len s h=>simp[Bt,wN];omega
 |neg a ha ih=>have:=Ko 3 a.kind (Bt a);simp[Bt,wN,wL];omega
 |two k a b hk ha hb iha ihb=>
  have h1:=Ko 1 a.kind (Bt a);have h2:=Ko 2 a.kind (Bt a);have h3:=Ko 2 b.kind (Bt b);have h4:=Ko 3 b.kind (Bt b);rcases hk with rfl|rfl|rfl
  ·simp[Bt,wN,wL];omega
  ·simp[Bt,wN,wL];omega
  ·simp[Bt,wN,wL];omega
theorem Oh(n:Nd)(h:FC n):(Bt n).length≤12*wN n:=by
 cases h with
 |mk k a b h0 h1 ha hb=>
  have:=Ft a ha;have:=Ft b hb;have:=Adx k;simp only[Bt];rw[if_neg (by omega),if_neg (by omega),if_neg (by omega)];simp[wN,wL];omega
theorem Wj(a:Nd)(l:List Nd):(Ap (a::l))[(0:Int).toNat]?=some (Af a):=by cases a;rfl
theorem Aeo(a b:Nd)(l:List Nd):(Ap (a::b::l))[(1:Int).toNat]?=some (Af b):=by cases b;rfl
theorem Ay6(a b c:Nd)(l:List Nd):(Ap (a::b::c::l))[(2:Int).toNat]?=some (Af c):=by cases c;rfl
theorem Aya(k:Int):Pure X 310 [vi k] (vi (L8 k)):=by
 refine Pure.run func310 ?_
 repeat' (refine Ah (fun _=>?_) (fun _=>?_))
 all_goals refine Az func310 ?_
 all_goals (simp_all [L8,C8])
theorem Sm(n:Nd)(l:Int)(t:List UInt8)(ht:t.length≤100000000000)(h:Pure X 261 [nd n] (str t)):Pure X 281 [nd n,vi l] (str (Me l n.kind t)):=by
 refine Pure.run func281 ?_;refine Al (Aya n.kind) ?_;refine Ah (fun h1=>?_) (fun h1=>?_)
 ·have h1':=A5 h1;refine Al h ?_;refine Fl ?_ ?_
  ·simp;omega
  refine Fl ?_ ?_
  ·simp;omega
  refine Az func281 ?_;simp[Me,h1',C8]
 ·have h1':=Ba h1;refine Al h ?_;refine Az func281 ?_;simp[Me,h1',C8]
theorem Sn(n:Nd)(h:FE n)(hn:wN n≤1000000000):Pure X 261 [nd n] (str (Bt n)):=by
 induction h with
 |num m h0 h1=>
  obtain⟨q,rfl⟩:∃q:Nat,m=q:=⟨m.toNat,by omega⟩
  refine Pure.run func261 ?_;refine A0 ?_;refine Al (Ajz q (by omega)) ?_;refine Az func261 ?_;simp[Bt,C8]
 |var s h=>
  refine Pure.run func261 ?_;refine Ag ?_;refine A0 ?_;refine Az func261 ?_;simp[Bt,C8]
 |cell s a h ha ih=>
  have hl:=Ft a ha;simp[wN,wL]at hn;refine Pure.run func261 ?_;refine Ag ?_;refine Ag ?_;refine A0 ?_;refine D8 0 ?_;refine Dx ?_ ?_
  ·simp;omega
  refine Db 0 (by omega) (Wj a _) ?_;refine Ce (ih (by omega)) ?_;refine Dx ?_ ?_
  ·simp;omega
  refine Dx ?_ ?_
  ·simp;omega
  refine B2 ?_;refine Az func261 ?_;simp[Bt,C8]
 |len s h=>
  simp[wN,wL]at hn;refine Pure.run func261 ?_;refine Ag ?_;refine Ag ?_;refine Ag ?_;refine A0 ?_;refine Fl ?_ ?_
  ·simp;omega
  refine Fl ?_ ?_
  ·simp;omega
  refine Az func261 ?_;simp[Bt,C8]
 |neg a ha ih=>
  have hl:=Ft a ha;have hp:=Ko 3 a.kind (Bt a);simp[wN,wL]at hn;refine Pure.run func261 ?_;refine Ag ?_;refine Ag ?_;refine Ag ?_;refine Ag ?_;refine A0 ?_;refine B4 0 (by omega) (Wj a _) ?_;refine Al (Sm a 3 (Bt a) (by omega) (ih (by omega))) ?_;refine Fl ?_ ?_
  ·simp;omega
  refine Az func261 ?_;simp[Bt,C8]
 |two k a b hk ha hb iha ihb=>
  have hla:=Ft a ha;have hlb:=Ft b hb;have h1:=Ko 1 a.kind (Bt a);have h2:=Ko 2 a.kind (Bt a);have h3:=Ko 2 b.kind (Bt b);have h4:=Ko 3 b.kind (Bt b);simp[wN,wL]at hn;refine Pure.run func261 ?_;rcases hk with rfl|rfl|rfl
  ·refine Ag ?_;refine Ag ?_;refine Ag ?_;refine Ag ?_;refine Ag ?_;refine A0 ?_;refine D8 0 ?_;refine Db 0 (by omega) (Wj a _) ?_;refine Ce (Sm a 1 (Bt a) (by omega) (iha (by omega))) ?_;refine Dx ?_ ?_
   ·simp;omega
   refine Db 1 (by omega) (Aeo a b _) ?_;refine Ce (Sm b 2 (Bt b) (by omega) (ihb (by omega))) ?_;refine Dx ?_ ?_
   ·simp;omega
   refine B2 ?_;refine Az func261 ?_;simp[Bt,C8]
  ·refine Ag ?_;refine Ag ?_;refine Ag ?_;refine Ag ?_;refine Ag ?_;refine Ag ?_;refine A0 ?_;refine D8 0 ?_;refine Db 0 (by omega) (Wj a _) ?_;refine Ce (Sm a 1 (Bt a) (by omega) (iha (by omega))) ?_;refine Dx ?_ ?_
   ·simp;omega
   refine Db 1 (by omega) (Aeo a b _) ?_;refine Ce (Sm b 2 (Bt b) (by omega) (ihb (by omega))) ?_;refine Dx ?_ ?_
   ·simp;omega
   refine B2 ?_;refine Az func261 ?_;simp[Bt,C8]
  ·refine Ag ?_;refine Ag ?_;refine Ag ?_;refine Ag ?_;refine Ag ?_;refine Ag ?_;refine Ag ?_;refine A0 ?_;refine D8 0 ?_;refine Db 0 (by omega) (Wj a _) ?_;refine Ce (Sm a 2 (Bt a) (by omega) (iha (by omega))) ?_;refine Dx ?_ ?_
   ·simp;omega
   refine Db 1 (by omega) (Aeo a b _) ?_;refine Ce (Sm b 3 (Bt b) (by omega) (ihb (by omega))) ?_;refine Dx ?_ ?_
   ·simp;omega
   refine B2 ?_;refine Az func261 ?_;simp[Bt,C8]
theorem Ah6(n:Nd)(h:FC n)(hn:wN n≤1000000000):Pure X 261 [nd n] (str (Bt n)):=by
 cases h with
 |mk k a b h0 h1 ha hb=>
  have hla:=Ft a ha;have hlb:=Ft b hb;have hr:=Adx k;simp[wN,wL]at hn;refine Pure.run func261 ?_;have ne:∀j:Int,j<11→(k==j)=false:=fun j hj=>by simp;omega
  refine Ag ?_ (ht:=ne 1 (by omega));refine Ag ?_ (ht:=ne 2 (by omega));refine Ag ?_ (ht:=ne 3 (by omega));refine Ag ?_ (ht:=ne 4 (by omega));refine Ag ?_ (ht:=ne 5 (by omega));refine Ag ?_ (ht:=ne 6 (by omega));refine Ag ?_ (ht:=ne 7 (by omega));refine Ag ?_ (ht:=ne 8 (by omega));have hw:IntKind.i64.wrap (k-11)=k-11:=Ac (by omega) (by omega);have hrel:(Dl [[60],[60,61],[62],[62,61],[61,61],[33,61]])[(IntKind.i64.wrap (k-11)).toNat]?=some [str (Ux k)]:=by
   rw[hw];have:k=11∨k=12∨k=13∨k=14∨k=15∨k=16:=by omega
   rcases this with rfl|rfl|rfl|rfl|rfl|rfl<;>rfl
  have hT:Bt (.mk k [] 0 [a,b])=Bt a++[32]++Ux k++[32]++Bt b:=by
   simp only[Bt];rw[if_neg (by omega),if_neg (by omega),if_neg (by omega)]
  rw[hT];refine D8 0 ?_;refine Db 0 (by omega) (Wj a _) ?_;refine Ce (Sn a ha (by omega)) ?_;refine Dx ?_ ?_
  ·simp;omega
  refine Db (IntKind.i64.wrap (k-11)) (by omega) hrel ?_;refine Dx ?_ ?_
  ·simp;omega
  refine Dx ?_ ?_
  ·simp;omega
  refine Db 1 (by omega) (Aeo a b _) ?_;refine Ce (Sn b hb (by omega)) ?_;refine Dx ?_ ?_
  ·simp;omega
  refine B2 ?_;refine Az func261 ?_;simp[C8]
mutual
def Cp:Nd→List UInt8→List UInt8
 |.mk k s m [],p=>
  if k=31 then p++[118,97,114,32]++s++[59,10]
  else if k=32 then p++[97,114,114,97,121,32]++s++[91]++(if 0≤m then Md m.toNat else[63])++[93,59,10]
  else if k=23 then p++[114,101,97,100,32]++s++[59,10]
  else if k=28 then p++[115,107,105,112,59,10]
  else p++[115,116,111,112,59,10]
 |.mk k s _ [a],p=>
  if k=21 then p++s++[32,61,32]++Bt a++[59,10]
  else p++[99,104,101,99,107,32]++Bt a++[59,10]
 |.mk k s _ [a,.mk k' s' m' l],p=>
  if k=22 then p++s++[91]++Bt a++[93,32,61,32]++Bt (.mk k' s' m' l)++[59,10]
  else p++[119,104,105,108,101,32]++Bt a++[32,123,10]++Ij l (p++[32,32])++p++[125,10]
 |.mk k s _ (a::.mk k' s' m' l'::.mk _ _ _ l::_),p=>
  if k=26 then p++[102,111,114,32]++s++[32,102,114,111,109,32]++Bt a++[32,116,111,32]++Bt (.mk k' s' m' l')++[32,123,10]++Ij l (p++[32,32])++p++[125,10]
  else p++[105,102,32]++Bt a++[32,123,10]++Ij l' (p++[32,32])++p ++
   (match l with
     |[]=>[]
     |_=>[125,32,101,108,115,101,32,123,10]++Ij l (p++[32,32])++p)++[125,10]
def Ij:List Nd→List UInt8→List UInt8
 |[],_=>[]
 |x::l,p=>Cp x p++Ij l p
end
theorem Gv{l:List Nd}{x:Nd}(h:x∈l):Dh x≤Gu l:=by
 induction l with
 |nil=>cases h
 |cons y l ih=>
  simp only[Gu];rcases zzq13.1 h with rfl|h
  ·omega
  ·have:=ih h;omega
theorem Sf(l:List Nd)(p:List UInt8):Ij l p=(l.map fun x=>Cp x p).flatten:=by
 induction l with
 |nil=>simp[Ij]
 |cons x l ih=>simp[Ij,ih]
theorem Ac6{l:List Nd}{f:Nd→List UInt8}(h:∀x,x∈l→(f x).length≤4060*wN x):(l.map f).flatten.length≤4060*wL l:=by
 induction l with
 |nil=>simp
 |cons x l ih=>
  have h1:=h x (by simp);have h2:=ih fun y hy=>h y (by simp[hy]);simp only[N0,List.flatten_cons,Ex,wL];omega
theorem Qp{l:List Nd}{p:List UInt8}(h:∀x,x∈l→(Cp x p).length≤4060*wN x):(Ij l p).length≤4060*wL l:=by
 rw[Sf];exact Ac6 h
theorem Aqe(x:Nd)(h:FV x)(p:List UInt8)(hp:p.length≤1000):(Cp x p).length≤4060*wN x:=by
 cases h with
 |var s h=>simp[Cp,wN];omega
 |arr s m h h0 h1=>
  have:=Vm m.toNat (by omega)
  simp[Cp,wN];by_cases h0:0≤m
  ·simp[h0];omega
  ·simp[h0];omega
theorem Afo(x:Nd)(h:FS x):∀p:List UInt8,p.length+2*Dh x≤1000→(Cp x p).length≤4060*wN x:=by
 induction h with
 |set s a h ha=>intro p hp;have:=Ft a ha;simp[Cp,wN,wL];omega
 |put s a b h ha hb=>
  intro p hp;have h1:=Ft a ha;have h2:=Ft b hb;obtain⟨k',s',m',l'⟩:=b;simp only[Cp,wN,wL]at h2⊢;simp;omega
 |read s h=>intro p hp;simp[Cp,wN];omega
 |ifs c l l' hc hl hl' ihl ihl'=>
  intro p hp;have h1:=Oh c hc;simp only[Dh,Gu]at hp;have hL:=Qp (l:=l) (p:=p++[32,32]) fun x hx=>ihl x hx _ (by have:=Gv hx;simp;omega);have hL':=Qp (l:=l') (p:=p++[32,32]) fun x hx=>ihl' x hx _ (by have:=Gv hx;simp;omega);simp only[Cp,wN,wL];cases l' with
  |nil=>simp;omega
  |cons y l'=>simp at hL'⊢;omega
 |whil c l hc hl ihl=>
  intro p hp;have h1:=Oh c hc;simp only[Dh,Gu]at hp;have hL:=Qp (l:=l) (p:=p++[32,32]) fun x hx=>ihl x hx _ (by have:=Gv hx;simp;omega);simp[Cp,wN,wL];omega
 |for_ s a b l h ha hb hl ihl=>
  intro p hp;have h1:=Ft a ha;have h2:=Ft b hb;simp only[Dh,Gu]at hp;have hL:=Qp (l:=l) (p:=p++[32,32]) fun x hx=>ihl x hx _ (by have:=Gv hx;simp;omega);obtain⟨k',s',m',l'⟩:=b;simp only[Cp,wN,wL]at h2⊢;simp;omega
 |check c hc=>intro p hp;have:=Oh c hc;simp[Cp,wN,wL];omega
 |skip=>intro p hp;simp[Cp,wN];omega
 |stop=>intro p hp;simp[Cp,wN];omega
theorem Aoo(k:Int)(hk:k=30∨k=40)(ks:List Nd)(f:Nd→List UInt8)(p:List UInt8)(hp:p.length≤1000)(hw:wL ks≤100000)
 (hf:∀x,x∈ks→Pure X 217 [nd x,str p] (str (f x))∧(f x).length≤4060*wN x):Pure X 217 [nd (.mk k [] 0 ks),str p] (str (ks.map f).flatten):=by
 generalize hT:(ks.map f).flatten=T;have ne:∀j:Int,j≠30→j≠40→(k==j)=false:=fun j h1 h2=>by simp;omega
 have hkl:ks.length≤100000:=by
  have h1:=G7 (.mk k [] 0 ks);rw[Ws]at h1;simp at h1;omega
 refine Pure.run func217 ?_;refine Fl ?_ ?_
 ·simp;omega
 refine Ag ?_ (ht:=ne 31 (by omega) (by omega));refine Ag ?_ (ht:=ne 32 (by omega) (by omega));refine Ag ?_ (ht:=ne 21 (by omega) (by omega));refine Ag ?_ (ht:=ne 22 (by omega) (by omega));refine Ag ?_ (ht:=ne 23 (by omega) (by omega));refine Ag ?_ (ht:=ne 27 (by omega) (by omega));refine Ag ?_ (ht:=ne 28 (by omega) (by omega));refine Ag ?_ (ht:=ne 29 (by omega) (by omega));refine Ag ?_ (ht:=ne 25 (by omega) (by omega));refine Ag ?_ (ht:=ne 26 (by omega) (by omega));refine Ag ?_ (ht:=ne 24 (by omega) (by omega));refine Ar (ι:=Nat) 1 0 (fun i=>i≤ks.length) (fun i=>[(9,vi i),(8,str ((ks.take i).map f).flatten),(2,.ptr 0 0 0),(1,str p)]) (fun _=>⟨[[Af (.mk k [] 0 ks)]],[]⟩) (fun i=>ks.length-i) ?_ 0 (B3 _)
  ⟨rfl,rfl,rfl,rfl,trivial⟩
 intro i hi IH;refine C7 (fun h=>?_) (fun h=>?_)
 ·have hlt:i<ks.length:=by have:=A5 h;rw[Ad]at this;simp at this;omega
  obtain⟨x,hx⟩:=Ab ks hlt;obtain⟨h1,h2⟩:=hf x (Bh hx);have hwx:=P5 (Bh hx);have h3:=Ac6 (l:=ks.take i) (f:=f) fun y hy=>(hf y (Agn hy)).2;have h4:wL (ks.take i)≤wL ks:=by
   have:∀(l:List Nd) (j:Nat),wL (l.take j)≤wL l:=by
    intro l
    induction l with
    |nil=>intro j;simp[wL]
    |cons y l ih=>intro j;cases j with
     |zero=>simp[wL]
     |succ j=>have:=ih j;simp only[List.take_succ_cons,wL];omega
   exact this ks i
  refine B4 i (by omega) (Am hx) ?_;refine Al h1 ?_;refine Fl ?_ ?_
  ·omega
  refine IH (i+1) hlt (by omega) _ _ ⟨vsx (by omega),?_,rfl,rfl,trivial⟩ rfl rfl rfl;rw[G8,hx];simp;rfl
 ·have:i=ks.length:=by have:=Ba h;rw[Ad]at this;simp at this;omega
  subst this;refine Az func217 ?_;rw[I2,hT];rfl
theorem Qq(x:Nd)(l:List Nd)(p:List UInt8)(h:∀x,x∈l→FS x)(hp:p.length+2*Gu l≤1000):(Ij l p).length≤4060*wL l:=
 Qp fun x hx=>Afo x (h x hx) p (by have:=Gv hx;omega)
theorem Ys(l:List Nd)(p:List UInt8)(hl:∀x,x∈l→FS x)(hp:p.length+2*Gu l≤1000)(hw:wL l≤100000)
 (ih:∀x,x∈l→∀p:List UInt8,p.length+2*Dh x≤1000→wN x≤100000→Pure X 217 [nd x,str p] (str (Cp x p))) :
 Pure X 217 [nd (.mk 30 [] 0 l),str p] (str (Ij l p)):=by
 rw[Sf];refine Aoo 30 (.inl rfl) l _ p (by omega) hw fun x hx=>⟨ih x hx p (by have:=Gv hx;omega) (by have:=P5 hx;omega),Afo x (hl x hx) p (by have:=Gv hx;omega)⟩
theorem Ax3(x:Nd)(h:FV x)(p:List UInt8)(hp:p.length≤1000)(hw:wN x≤100000):Pure X 217 [nd x,str p] (str (Cp x p)):=by
 cases h with
 |var s h=>
  simp[wN,wL]at hw;refine Pure.run func217 ?_;refine Fl ?_ ?_
  ·simp;omega
  refine A0 ?_;refine Fl ?_ ?_
  ·simp;omega
  refine Fl ?_ ?_
  ·simp;omega
  refine Fl ?_ ?_
  ·simp;omega
  refine Az func217 ?_;simp[Cp,C8]
 |arr s m h h0 h1=>
  simp[wN,wL]at hw;have hd:=Vm m.toNat (by omega)
  refine Pure.run func217 ?_;refine Fl ?_ ?_
  ·simp;omega
  refine Ag ?_;refine A0 ?_;refine Ah (fun h2=>?_) (fun h2=>?_)
  ·have h2':0≤m:=A5 h2;obtain⟨q,rfl⟩:∃q:Nat,m=q:=⟨m.toNat,by omega⟩
   refine Al (Ajz q (by omega)) ?_;simp only[Hl]at hd;refine Fl ?_ ?_
   ·simp;omega
   refine Fl ?_ ?_
   ·simp;omega
   refine Fl ?_ ?_
   ·simp;omega
   refine Fl ?_ ?_
   ·simp;omega
   refine Fl ?_ ?_
   ·simp;omega
   refine Az func217 ?_;simp[Cp,C8,h2']
  ·have h2':¬0≤m:=Ba h2;refine Fl ?_ ?_
   ·simp;omega
   refine Fl ?_ ?_
   ·simp;omega
   refine Fl ?_ ?_
   ·simp;omega
   refine Fl ?_ ?_
   ·simp;omega
   refine Fl ?_ ?_
   ·simp;omega
   refine Az func217 ?_;simp[Cp,C8,h2']
theorem Ax2(x:Nd)(h:FS x):∀p:List UInt8,p.length+2*Dh x≤1000→wN x≤100000→Pure X 217 [nd x,str p] (str (Cp x p)):=by
 induction h with
 |set s a h ha=>
  intro p hp hw;refine Pure.run func217 ?_;refine Fl ?_ ?_
  ·simp;omega
  refine Ag ?_;refine Ag ?_;have hl:=Ft a ha;simp[wN,wL]at hw;refine A0 ?_;refine D8 0 ?_;refine Dx ?_ ?_
  ·simp;omega
  refine Dx ?_ ?_
  ·simp;omega
  refine Db 0 (by omega) (Wj a _) ?_;refine Ce (Sn a ha (by omega)) ?_;refine Dx ?_ ?_
  ·simp;omega
  refine Dx ?_ ?_
  ·simp;omega
  refine B2 ?_;refine Az func217 ?_;simp[Cp,C8]
 |put s a b h ha hb=>
  intro p hp hw;refine Pure.run func217 ?_;refine Fl ?_ ?_
  ·simp;omega
  refine Ag ?_;refine Ag ?_;have hl:=Ft a ha;have hl2:=Ft b hb;simp[wN,wL]at hw;have hT:Cp (.mk 22 s 0 [a,b]) p=p++s++[91]++Bt a++[93,32,61,32]++Bt b++[59,10]:=by cases b;simp[Cp]
  rw[hT];refine Ag ?_;refine A0 ?_;refine D8 0 ?_;refine Dx ?_ ?_
  ·simp;omega
  refine Dx ?_ ?_
  ·simp;omega
  refine Db 0 (by omega) (Wj a _) ?_;refine Ce (Sn a ha (by omega)) ?_;refine Dx ?_ ?_
  ·simp;omega
  refine Dx ?_ ?_
  ·simp;omega
  refine Db 1 (by omega) (Aeo a b _) ?_;refine Ce (Sn b hb (by omega)) ?_;refine Dx ?_ ?_
  ·simp;omega
  refine Dx ?_ ?_
  ·simp;omega
  refine B2 ?_;refine Az func217 ?_;simp[C8]
 |read s h=>
  intro p hp hw;refine Pure.run func217 ?_;refine Fl ?_ ?_
  ·simp;omega
  refine Ag ?_;refine Ag ?_;simp[wN,wL]at hw;refine Ag ?_;refine Ag ?_;refine A0 ?_;refine Fl ?_ ?_
  ·simp;omega
  refine Fl ?_ ?_
  ·simp;omega
  refine Fl ?_ ?_
  ·simp;omega
  refine Az func217 ?_;simp[Cp,C8]
 |check c hc=>
  intro p hp hw;refine Pure.run func217 ?_;refine Fl ?_ ?_
  ·simp;omega
  refine Ag ?_;refine Ag ?_;have hl:=Oh c hc;simp[wN,wL]at hw;refine Ag ?_;refine Ag ?_;refine Ag ?_;refine A0 ?_;refine Fl ?_ ?_
  ·simp;omega
  refine B4 0 (by omega) (Wj c _) ?_;refine Al (Ah6 c hc (by omega)) ?_;refine Fl ?_ ?_
  ·simp;omega
  refine Fl ?_ ?_
  ·simp;omega
  refine Az func217 ?_;simp[Cp,C8]
 |skip=>
  intro p hp hw;refine Pure.run func217 ?_;refine Fl ?_ ?_
  ·simp;omega
  refine Ag ?_;refine Ag ?_;refine Ag ?_;refine Ag ?_;refine Ag ?_;refine Ag ?_;refine A0 ?_;refine Fl ?_ ?_
  ·simp;omega
  refine Az func217 ?_;simp[Cp,C8]
 |stop=>
  intro p hp hw;refine Pure.run func217 ?_;refine Fl ?_ ?_
  ·simp;omega
  refine Ag ?_;refine Ag ?_;refine Ag ?_;refine Ag ?_;refine Ag ?_;refine Ag ?_;refine Ag ?_;refine A0 ?_;refine Fl ?_ ?_
  ·simp;omega
  refine Az func217 ?_;simp[Cp,C8]
 |whil c l hc hl ihl=>
  intro p hp hw;refine Pure.run func217 ?_;refine Fl ?_ ?_
  ·simp;omega
  refine Ag ?_;refine Ag ?_;have h1:=Oh c hc;simp only[Dh,Gu]at hp;simp[wN,wL]at hw;have hlen:=Qq c l (p++[32,32]) hl (by simp;omega);have hB:=Ys l (p++[32,32]) hl (by simp;omega) (by omega) ihl;refine Ag ?_;refine Ag ?_;refine Ag ?_;refine Ag ?_;refine Ag ?_;refine Ag ?_;refine A0 ?_;refine D8 0 ?_;refine Dx ?_ ?_
  ·simp;omega
  refine Db 0 (by omega) (Wj c _) ?_;refine Ce (Ah6 c hc (by omega)) ?_;refine Dx ?_ ?_
  ·simp;omega
  refine Dx ?_ ?_
  ·simp;omega
  refine Db 1 (by omega) (Aeo c _ _) ?_;refine Ce hB ?_;refine Dx ?_ ?_
  ·simp;omega
  refine Dx ?_ ?_
  ·simp;omega
  refine Dx ?_ ?_
  ·simp;omega
  refine B2 ?_;refine Az func217 ?_;simp[Cp,C8]
 |for_ s a b l h ha hb hl ihl=>
  intro p hp hw;refine Pure.run func217 ?_;refine Fl ?_ ?_
  ·simp;omega
  refine Ag ?_;refine Ag ?_;have h1:=Ft a ha;have h2:=Ft b hb;simp only[Dh,Gu]at hp;simp[wN,wL]at hw;have hlen:=Qq a l (p++[32,32]) hl (by simp;omega);have hB:=Ys l (p++[32,32]) hl (by simp;omega) (by omega) ihl;have hT:Cp (.mk 26 s 0 [a,b,.mk 30 [] 0 l]) p=p++[102,111,114,32]++s++[32,102,114,111,109,32]++Bt a++[32,116,111,32]++Bt b++[32,123,10]++Ij l (p++[32,32])++p++[125,10]:=by
   cases b;simp[Cp]
  rw[hT];refine Ag ?_;refine Ag ?_;refine Ag ?_;refine Ag ?_;refine Ag ?_;refine Ag ?_;refine Ag ?_;refine A0 ?_;refine D8 0 ?_;refine Dx ?_ ?_
  ·simp;omega
  refine Dx ?_ ?_
  ·simp;omega
  refine Dx ?_ ?_
  ·simp;omega
  refine Db 0 (by omega) (Wj a _) ?_;refine Ce (Sn a ha (by omega)) ?_;refine Dx ?_ ?_
  ·simp;omega
  refine Dx ?_ ?_
  ·simp;omega
  refine Db 1 (by omega) (Aeo a b _) ?_;refine Ce (Sn b hb (by omega)) ?_;refine Dx ?_ ?_
  ·simp;omega
  refine Dx ?_ ?_
  ·simp;omega
  refine Db 2 (by omega) (Ay6 a b _ _) ?_;refine Ce hB ?_;refine Dx ?_ ?_
  ·simp;omega
  refine Dx ?_ ?_
  ·simp;omega
  refine Dx ?_ ?_
  ·simp;omega
  refine B2 ?_;refine Az func217 ?_;simp[C8]
 |ifs c l l' hc hl hl' ihl ihl'=>
  intro p hp hw;refine Pure.run func217 ?_;refine Fl ?_ ?_
  ·simp;omega
  refine Ag ?_;refine Ag ?_;have h1:=Oh c hc;simp only[Dh,Gu]at hp;simp[wN,wL]at hw;have hlen:=Qq c l (p++[32,32]) hl (by simp;omega);have hB:=Ys l (p++[32,32]) hl (by simp;omega) (by omega) ihl;have hlen':=Qq c l' (p++[32,32]) hl' (by simp;omega);have hB':=Ys l' (p++[32,32]) hl' (by simp;omega) (by omega) ihl';refine Ag ?_;refine Ag ?_;refine Ag ?_;refine Ag ?_;refine Ag ?_;refine Ag ?_;refine Ag ?_;refine Ag ?_;refine A0 ?_;refine D8 0 ?_;refine Dx ?_ ?_
  ·simp;omega
  refine Db 0 (by omega) (Wj c _) ?_;refine Ce (Ah6 c hc (by omega)) ?_;refine Dx ?_ ?_
  ·simp;omega
  refine Dx ?_ ?_
  ·simp;omega
  refine Db 1 (by omega) (Aeo c _ _) ?_;refine Ce hB ?_;refine Dx ?_ ?_
  ·simp;omega
  refine Dx ?_ ?_
  ·simp;omega
  refine B2 ?_;refine B4 2 (by omega) (Ay6 c _ _ _) ?_;cases l' with
  |nil=>
   refine Ag ?_;refine Fl ?_ ?_
   ·simp;omega
   refine Az func217 ?_;simp[Cp,C8]
  |cons y l'=>
   refine A0 ?_ (ht:=Zd (by simp[Ap]));refine Fl ?_ ?_
   ·simp;omega
   refine B4 2 (by omega) (Ay6 c _ _ _) ?_;refine Al hB' ?_;refine Fl ?_ ?_
   ·simp;omega
   refine Fl ?_ ?_
   ·simp;omega
   refine Fl ?_ ?_
   ·simp;omega
   refine Az func217 ?_;simp[Cp,C8]
def RS.wk(r:RS):Prop:=∀w:Wd,w∈r.ws→w.kind=Di w.text
theorem RS.after.wk{r r':RS}(h:r.after r')(hw:r.wk):r'.wk:=by unfold RS.wk;rw[h.1];exact hw
theorem Al3{s:List UInt8}(h:Di s=1):nameS s=true:=by
 simp only[Di]at h;split at h
 ·simp at h
 ·split at h
  ·assumption
  ·split at h
   ·simp at h
   ·split at h<;>simp at h
theorem Z6{s:List UInt8}(h:Di s=2):0≤Dp s:=by
 simp only[Di]at h;split at h
 ·simp at h
 ·split at h
  ·simp at h
  ·split at h
   ·assumption
   ·split at h<;>simp at h
theorem Ajx:∀(l:List UInt8)(n:Int),Qt n l≤1000000
 |[],n=>by simp only[Qt];split<;>omega
 |c::l,n=>by
  simp only[Qt];split
  ·exact Ajx l _
  ·omega
theorem Adm(s:List UInt8):Dp s≤1000000:=by
 unfold Dp;split
 ·omega
 ·split
  ·omega
  ·split
   ·omega
   ·exact Ajx _ _
theorem Oj{r:RS}(hw:r.wk)(h:r.kind≠0):r.kind=Di r.text:=by
 have hlt:=Se h;obtain⟨w,hwd⟩:=Ab r.ws hlt;have:=hw w (Bh hwd);simp only[RS.kind,RS.text,hwd];exact this
theorem Amd{r:RS}(hw:r.wk)(h:r.named=true):nameS r.text=true:=by
 simp only[RS.named,Ml,Pe,Ago,zzq54]at h;have:=Oj hw (by rw[h.2];simp);exact Al3 (by rw[←this];exact h.2)
theorem J8{r:RS}(hw:r.wk)(h:r.nameR.bad=false):r.named=true∧nameS r.name=true∧r.nameR=r.step∧r.bad=false:=by
 by_cases hn:r.named=true
 ·have hb:r.bad=false:=by simp only[RS.named,Ml,Pe]at hn;exact hn.1
  refine⟨hn,?_,by simp[RS.nameR,hn],hb⟩;simp only[RS.name,hn,if_true];exact Amd hw hn
 ·simp only[RS.nameR,hn,RS.spoil]at h;simp at h
theorem F4{r:RS}{s:List UInt8}(h:(r.need s).bad=false):r.takes s=true∧r.need s=r.step∧r.bad=false:=by
 by_cases hn:r.takes s=true
 ·refine⟨hn,by simp[RS.need,hn],?_⟩;simp only[RS.takes,Ml,Pe]at hn;exact hn.1
 ·simp only[RS.need,hn,RS.spoil]at h;simp at h
theorem Aaq{r:RS}{s:List UInt8}(h:r.takes s=true):r.bad=false:=by
 simp only[RS.takes,Ml,Pe]at h;exact h.1
theorem Je{b c:Bool}(h:b=true→c=true)(hc:c=false):b=false:=by
 cases b
 ·rfl
 ·rw[h rfl]at hc;cases hc
theorem Alw:∀(f:Nat),(∀r:RS,r.ok→r.wk→4*r.left+1≤f→(Fi f r).2.bad=false→FE (Fi f r).1∧r.at_+Ai (Fi f r).1≤(Fi f r).2.at_) ∧
 (∀r:RS,r.ok→r.wk→4*r.left+2≤f→(Ek f r).2.bad=false→FE (Ek f r).1∧r.at_+Ai (Ek f r).1≤(Ek f r).2.at_) ∧
 (∀(x:Nd)(a:Nat)(r:RS),r.ok→r.wk→FE x→a+Ai x≤r.at_→4*r.left+1≤f→(Hy f x r).2.bad=false→FE (Hy f x r).1∧a+Ai (Hy f x r).1≤(Hy f x r).2.at_) ∧
 (∀r:RS,r.ok→r.wk→4*r.left+3≤f→(Ez f r).2.bad=false→FE (Ez f r).1∧r.at_+Ai (Ez f r).1≤(Ez f r).2.at_) ∧
 (∀(x:Nd)(a:Nat)(r:RS),r.ok→r.wk→FE x→a+Ai x≤r.at_→4*r.left+2≤f→(G6 f x r).2.bad=false→FE (G6 f x r).1∧a+Ai (G6 f x r).1≤(G6 f x r).2.at_):=by
 intro f
 induction f with
 |zero=>exact⟨fun r _ _ h=>by omega,fun r _ _ h=>by omega,fun x a r _ _ _ _ h=>by omega,fun r _ _ h=>by omega,fun x a r _ _ _ _ h=>by omega⟩
 |succ f ih=>
  obtain⟨i1,i2,i3,i4,i5⟩:=ih;obtain⟨b1,b2,b3,b4,b5⟩:=Zw f;obtain⟨a1,a2,a3,a4,a5⟩:=Fo f;refine⟨fun r ho hw hf hg=>?_,fun r ho hw hf hg=>?_,fun x a r ho hw hx ha hf hg=>?_,fun r ho hw hf hg=>?_,fun x a r ho hw hx ha hf hg=>?_⟩
  ·have hb:r.bad=false:=Je (fun h=>(Zw (f+1)).1 r h) hg;simp only[Fi]at hg⊢;rw[if_neg (by simp[hb])]at hg⊢;split at hg
   ·rename_i ht;have hl:=(Ay ht (by simp)).1;have ls:=Ca hl;have s:=Aj hl;obtain⟨g1,g2⟩:=i1 r.step (s.ok ho) (s.wk hw) (by omega) hg;rw[if_pos ht];refine⟨.neg _ g1,?_⟩;simp only[Ai,A3,RS.step]at g2⊢;omega
   rename_i ht1;rw[if_neg ht1];split at hg
   ·rename_i hk;rw[if_pos hk];have hk':r.kind=2:=by simpa using hk
    have:=Oj hw (by rw[hk'];simp);refine⟨.num _ (Z6 (by rw[←this];exact hk')) (Adm _),?_⟩;simp[Ai,A3,RS.step]
   rename_i hk;rw[if_neg hk];split at hg
   ·rename_i ht;have hl:=(Ay ht (by simp)).1;have ls:=Ca hl;have s:=Aj hl;obtain⟨n1,n2,n3⟩:=F4 hg;obtain⟨g1,g2⟩:=i4 r.step (s.ok ho) (s.wk hw) (by omega) n3;rw[if_pos ht];refine⟨g1,?_⟩;simp only[n2];simp only[RS.step]at g2⊢;omega
   rename_i ht2;rw[if_neg ht2];split at hg
   ·rename_i ht;have hl:=(Ay ht (by simp)).1;have s:=Aj hl;obtain⟨n1,n2,n3⟩:=F4 hg;have s2:=s.trans (Bb (s:=[40]) (s.ok ho) (by simp));obtain⟨m1,m2,m3,m4⟩:=J8 (s2.wk hw) n3;rw[if_pos ht];refine⟨.len _ m2,?_⟩;have e4:=(F4 m4).2.1;have:((r.step.need [40]).nameR.need [41]).at_=r.at_+4:=by rw[n2,m3,e4];rfl
    simp only[Ai,A3];omega
   rename_i ht3;rw[if_neg ht3];split at hg
   ·rename_i ht;rw[if_pos ht];obtain⟨m1,m2,m3,m4⟩:=J8 hw (Aaq ht);have hl:=(Ay ht (by simp)).1;have s:=(Cv ho).trans (Aj hl);have s':=Bg (Cv ho);have ls:=Ca hl;obtain⟨n1,n2,n3⟩:=F4 hg;obtain⟨g1,g2⟩:=i4 r.nameR.step (s.ok ho) (s.wk hw) (by omega) n3;refine⟨.cell _ _ m2 g1,?_⟩;simp only[n2];simp only[m3,RS.step,Ai,A3]at g2⊢;omega
   ·rename_i ht;rw[if_neg ht];obtain⟨m1,m2,m3,m4⟩:=J8 hw hg;refine⟨.var _ m2,?_⟩;simp[m3,RS.step,Ai,A3]
  ·simp only[Ek]at hg⊢;have h1:=Je (b3 (Fi f r).1 (Fi f r).2) hg;obtain⟨g1,g2⟩:=i1 r ho hw (by omega) h1;have af:=a1 r ho;have lf:=Bg af;exact i3 _ r.at_ _ (af.ok ho) (af.wk hw) g1 g2 (by omega) hg
  ·simp only[Hy]at hg⊢;split at hg
   ·rename_i ht;rw[if_pos ht];have hl:=(Ay ht (by simp)).1;have ls:=Ca hl;have s:=Aj hl;have h1:=Je (b3 _ (Fi f r.step).2) hg;obtain⟨g1,g2⟩:=i1 r.step (s.ok ho) (s.wk hw) (by omega) h1;have af:=s.trans (a1 r.step (s.ok ho));have lf:=Bg (a1 r.step (s.ok ho));refine i3 _ a _ (af.ok ho) (af.wk hw) (.two 8 _ _ (by simp) hx g1) ?_ (by omega) hg;simp only[RS.step,Ai,A3]at g2⊢;omega
   ·rename_i ht;rw[if_neg ht];exact⟨hx,ha⟩
  ·simp only[Ez]at hg⊢;have h1:=Je (b5 (Ek f r).1 (Ek f r).2) hg;obtain⟨g1,g2⟩:=i2 r ho hw (by omega) h1;have af:=a2 r ho;have lf:=Bg af;exact i5 _ r.at_ _ (af.ok ho) (af.wk hw) g1 g2 (by omega) hg
  ·simp only[G6]at hg⊢;split at hg
   ·rename_i ht;rw[if_pos ht];have hl:=(Ay ht (by simp)).1;have ls:=Ca hl;have s:=Aj hl;have h1:=Je (b5 _ (Ek f r.step).2) hg;obtain⟨g1,g2⟩:=i2 r.step (s.ok ho) (s.wk hw) (by omega) h1;have af:=s.trans (a2 r.step (s.ok ho));have lf:=Bg (a2 r.step (s.ok ho));refine i5 _ a _ (af.ok ho) (af.wk hw) (.two 6 _ _ (by simp) hx g1) ?_ (by omega) hg;simp only[RS.step,Ai,A3]at g2⊢;omega
   ·rename_i ht1;rw[if_neg ht1];split at hg
    ·rename_i ht;rw[if_pos ht];have hl:=(Ay ht (by simp)).1;have ls:=Ca hl;have s:=Aj hl;have h1:=Je (b5 _ (Ek f r.step).2) hg;obtain⟨g1,g2⟩:=i2 r.step (s.ok ho) (s.wk hw) (by omega) h1;have af:=s.trans (a2 r.step (s.ok ho));have lf:=Bg (a2 r.step (s.ok ho));refine i5 _ a _ (af.ok ho) (af.wk hw) (.two 7 _ _ (by simp) hx g1) ?_ (by omega) hg;simp only[RS.step,Ai,A3]at g2⊢;omega
    ·rename_i ht;rw[if_neg ht];exact⟨hx,ha⟩
theorem Kz{r:RS}(ho:r.ok)(hw:r.wk)(h:(B8 r).2.bad=false):FE (B8 r).1∧r.at_+Ai (B8 r).1≤(B8 r).2.at_:=
 (Alw 6010).2.2.2.1 r ho hw (by have:=ho.1;simp only[RS.left];omega) h
theorem Adw{s:List UInt8}(h:relS s≠0):11≤relS s∧relS s≤16:=by
 unfold relS at h⊢
 repeat' split
 all_goals (first|omega|simp_all)
theorem Rw{r:RS}(ho:r.ok)(hw:r.wk)(h:(Dm r).2.bad=false):FC (Dm r).1∧r.at_+Ai (Dm r).1≤(Dm r).2.at_:=by
 simp only[Dm]at h⊢;split at h
 ·simp[RS.spoil]at h
 ·rename_i hc;rw[if_neg hc];simp only[Pd,not_or,zzq54,Bool.not_eq_true]at hc;have hl:=V4 hc.2;have a:=B9 ho;have b:=a.trans (Aj hl);obtain⟨g1,g2⟩:=Kz ho hw hc.1;obtain⟨g3,g4⟩:=Kz (b.ok ho) (b.wk hw) h;have hr:=Adw hc.2;refine⟨.mk _ _ _ hr.1 hr.2 g1 g3,?_⟩;simp only[RS.step,Ai,A3]at g4⊢;omega
theorem Asp{r:RS}(h:r.bad=true):(Qz r).2.bad=true:=by
 simp only[Qz];rw[if_neg (by simp[Du (Ae2 h)])];exact Ob (T4 (Ae2 h) _)
theorem Ai0{r:RS}(h:r.bad=true):(Cz r).2.bad=true:=by
 simp only[Cz];rw[if_neg (by simp[Du h]),if_neg (by simp[Du h]),if_neg (by simp[Du h]),if_neg (by simp[Du h])];exact Asp h
theorem Aik{r:RS}(ho:r.ok)(hw:r.wk)(h:(Cz r).2.bad=false):FS (Cz r).1∧r.at_+Ai (Cz r).1≤(Cz r).2.at_:=by
 simp only[Cz]at h⊢;split at h
 ·rename_i ht;rw[if_pos ht];have s:=Aj (Ay ht (by simp)).1;obtain⟨g1,g2⟩:=Rw (s.ok ho) (s.wk hw) h;refine⟨.check _ g1,?_⟩;simp only[RS.step,Ai,A3]at g2⊢;omega
 rename_i ht1;rw[if_neg ht1];split at h
 ·rename_i ht;rw[if_pos ht];have s:=Aj (Ay ht (by simp)).1;obtain⟨m1,m2,m3,m4⟩:=J8 (s.wk hw) h;refine⟨.read _ m2,?_⟩;rw[m3];simp[RS.step,Ai,A3]
 rename_i ht2;rw[if_neg ht2];split at h
 ·rename_i ht;rw[if_pos ht];exact⟨.skip,by simp[RS.step,Ai,A3]⟩
 rename_i ht3;rw[if_neg ht3];split at h
 ·rename_i ht;rw[if_pos ht];exact⟨.stop,by simp[RS.step,Ai,A3]⟩
 rename_i ht4;rw[if_neg ht4];simp only[Qz]at h⊢;split at h
 ·rename_i ht;rw[if_pos ht];obtain⟨m1,m2,m3,m4⟩:=J8 hw (Aaq ht);have s:=(Cv ho).trans (Aj (Ay ht (by simp)).1);have a1:=s.trans (B9 (s.ok ho));have a2:=a1.trans (Bb (s:=[93]) (a1.ok ho) (by simp));have a3:=a2.trans (Bb (s:=[61]) (a2.ok ho) (by simp));have hb:=Je (fun h=>Ob h) h;obtain⟨n1,n2,n3⟩:=F4 hb;obtain⟨n4,n5,n6⟩:=F4 n3;obtain⟨g1,g2⟩:=Kz (s.ok ho) (s.wk hw) n6;obtain⟨g3,g4⟩:=Kz (a3.ok ho) (a3.wk hw) h;refine⟨.put _ _ _ m2 g1 g3,?_⟩;have e1:(((B8 r.nameR.step).2.need [93]).need [61]).at_=(B8 r.nameR.step).2.at_+2:=by rw[n2,n5];rfl
  have e2:r.nameR.step.at_=r.at_+2:=by rw[m3];rfl
  simp only[Ai,A3];omega
 ·rename_i ht;rw[if_neg ht];have a1:=Cv ho;have a2:=a1.trans (Bb (s:=[61]) (a1.ok ho) (by simp));have hb:=Je (fun h=>Ob h) h;obtain⟨n1,n2,n3⟩:=F4 hb;obtain⟨m1,m2,m3,m4⟩:=J8 hw n3;obtain⟨g3,g4⟩:=Kz (a2.ok ho) (a2.wk hw) h;refine⟨.set _ _ m2 g3,?_⟩;have e1:(r.nameR.need [61]).at_=r.at_+2:=by rw[n2,m3];rfl
  simp only[Ai,A3];omega
theorem Af9:∀(f:Nat),(∀r:RS,r.bad=true→(Dc f r).2.bad=true)∧(∀r:RS,r.bad=true→(Ct f r).2.bad=true)∧(∀(acc:List Nd)(r:RS),r.bad=true→(Ed f acc r).2.bad=true):=by
 intro f
 induction f with
 |zero=>exact⟨fun r h=>by simpa only[Dc]using h,fun r h=>by simpa only[Ct]using h,fun x r h=>by simpa only[Ed]using h⟩
 |succ f ih=>
  obtain⟨i1,i2,i3⟩:=ih;refine⟨fun r h=>?_,fun r h=>?_,fun acc r h=>?_⟩
  ·simp only[Dc];rw[if_neg (by simp[Du h]),if_neg (by simp[Du h]),if_neg (by simp[Du h])];exact T4 (Ai0 h) _
  ·simp only[Ct];exact T4 (i3 _ _ (T4 h _)) _
  ·simp only[Ed];rw[if_neg (by simp[h])];exact h
theorem Rx(l:List Nd)(x:Nd):A3 (l++[x])=A3 l+Ai x:=by rw[M3];simp[A3]
theorem V7(r:RS):r.step.at_=r.at_+1:=rfl
theorem Am0:∀(f:Nat),(∀r:RS,r.ok→r.wk→3*r.left+1≤f→(Dc f r).2.bad=false→FS (Dc f r).1∧r.at_+Ai (Dc f r).1≤(Dc f r).2.at_) ∧
 (∀r:RS,r.ok→r.wk→3*r.left+3≤f→(Ct f r).2.bad=false→∃l,(Ct f r).1=.mk 30 [] 0 l∧(∀x,x∈l→FS x)∧r.at_+2+A3 l≤(Ct f r).2.at_) ∧
 (∀(acc:List Nd)(a:Nat)(r:RS),r.ok→r.wk→(∀x,x∈acc→FS x)→a+A3 acc≤r.at_→3*r.left+2≤f→(Ed f acc r).2.bad=false→(∀x,x∈(Ed f acc r).1→FS x)∧a+A3 (Ed f acc r).1≤(Ed f acc r).2.at_):=by
 intro f
 induction f with
 |zero=>exact⟨fun r _ _ h=>by omega,fun r _ _ h=>by omega,fun x a r _ _ _ _ h=>by omega⟩
 |succ f ih=>
  obtain⟨i1,i2,i3⟩:=ih;obtain⟨b1,b2,b3⟩:=Af9 f;obtain⟨a1,a2,a3⟩:=F5 f;refine⟨fun r ho hw hf hg=>?_,fun r ho hw hf hg=>?_,fun acc a r ho hw hx ha hf hg=>?_⟩
  ·simp only[Dc]at hg⊢;split at hg
   ·rename_i ht;rw[if_pos ht];have hl:=(Ay ht (by simp)).1;have ls:=Ca hl;have s:=Aj hl;have c:=s.trans (Dy (s.ok ho));have lc:=Bg (Dy (s.ok ho));split at hg
    ·rename_i ht2;rw[if_pos ht2];have hl2:=(Ay ht2 (by simp)).1;have ls2:=Ca hl2;have d:=c.trans (a2 _ (c.ok ho));have ld:=Bg (a2 _ (c.ok ho));have e:=d.trans (Aj hl2);have hb1:=Aaq ht2;have hb2:=Je (b2 (Dm r.step).2) hb1;obtain⟨g1,g2⟩:=Rw (s.ok ho) (s.wk hw) hb2;obtain⟨l,e1,h1,h2⟩:=i2 _ (c.ok ho) (c.wk hw) (by omega) hb1;obtain⟨l',e2,h3,h4⟩:=i2 _ (e.ok ho) (e.wk hw) (by omega) hg;rw[e1,e2];refine⟨.ifs _ _ _ g1 h1 h3,?_⟩;simp only[V7,Ai,A3]at g2 h4⊢;omega
    ·rename_i ht2;rw[if_neg ht2];have hb2:=Je (b2 (Dm r.step).2) hg;obtain⟨g1,g2⟩:=Rw (s.ok ho) (s.wk hw) hb2;obtain⟨l,e1,h1,h2⟩:=i2 _ (c.ok ho) (c.wk hw) (by omega) hg;rw[e1];refine⟨.ifs _ _ [] g1 h1 (fun x hx=>by cases hx),?_⟩;simp only[V7,Ai,A3]at g2⊢;omega
   rename_i ht1;rw[if_neg ht1];split at hg
   ·rename_i ht;rw[if_pos ht];have hl:=(Ay ht (by simp)).1;have ls:=Ca hl;have s:=Aj hl;have c:=s.trans (Dy (s.ok ho));have lc:=Bg (Dy (s.ok ho));have hb2:=Je (b2 (Dm r.step).2) hg;obtain⟨g1,g2⟩:=Rw (s.ok ho) (s.wk hw) hb2;obtain⟨l,e1,h1,h2⟩:=i2 _ (c.ok ho) (c.wk hw) (by omega) hg;rw[e1];refine⟨.whil _ _ g1 h1,?_⟩;simp only[V7,Ai,A3]at g2⊢;omega
   rename_i ht2;rw[if_neg ht2];split at hg
   ·rename_i ht;rw[if_pos ht];have hl:=(Ay ht (by simp)).1;have ls:=Ca hl;have s:=Aj hl;have fa:=s.trans (R7 (s.ok ho));have fb:=s.trans (K3 (s.ok ho));have lb:=Bg (K3 (s.ok ho));have d:=fb.trans (B9 (fb.ok ho));have ld:=Bg (B9 (fb.ok ho));have hb2:=Je (b2 _) hg;have hb3:=Je (fun h=>Ob h) hb2;obtain⟨n1,n2,n3⟩:=F4 (r:=(B8 (Yh r.step)).2) (s:=wTo) hb3;have hb4:=Je (fun h=>Ob h) n3;obtain⟨n4,n5,n6⟩:=F4 (r:=r.step.nameR) (s:=Jn) hb4;obtain⟨m1,m2,m3,m4⟩:=J8 (s.wk hw) n6;obtain⟨g1,g2⟩:=Kz (fa.ok ho) (fa.wk hw) n3;obtain⟨g3,g4⟩:=Kz (fb.ok ho) (fb.wk hw) hb2;obtain⟨l,e1,h1,h2⟩:=i2 _ (d.ok ho) (d.wk hw) (by omega) hg;rw[e1];refine⟨.for_ _ _ _ _ m2 g1 g3 h1,?_⟩;have e2:(Zz r.step).at_=(B8 (Yh r.step)).2.at_+1:=by show ((B8 (Yh r.step)).2.need wTo).at_=_;rw[n2];rfl
    have e3:(Yh r.step).at_=r.at_+3:=by show (r.step.nameR.need Jn).at_=_;rw[n5,m3];rfl
    simp only[Ai,A3];omega
   ·rename_i ht3;rw[if_neg ht3];obtain⟨n1,n2,n3⟩:=F4 hg;obtain⟨g1,g2⟩:=Aik ho hw n3;refine⟨g1,?_⟩;rw[n2];show r.at_+Ai (Cz r).1≤(Cz r).2.at_+1;omega
  ·simp only[Ct]at hg⊢;obtain⟨n1,n2,n3⟩:=F4 hg;have hb:=Je (b3 [] _) n3;obtain⟨n4,n5,n6⟩:=F4 hb;have hl:=(Ay n4 (by simp)).1;have ls:=Ca hl;have s:=Bb (s:=[123]) ho (by simp);rw[n5]at s n3 n2⊢;obtain⟨g1,g2⟩:=i3 [] r.step.at_ _ (s.ok ho) (s.wk hw) (fun x hx=>by cases hx) (by simp[A3]) (by omega) n3;refine⟨_,rfl,g1,?_⟩;rw[n2];simp only[V7]at g2⊢;omega
  ·simp only[Ed]at hg⊢;split at hg
   ·rename_i hc;rw[if_pos hc];have af:=a1 r ho;have lf:=Bg af;obtain⟨p,rfl⟩:∃p,f=p+1:=⟨f-1,by omega⟩
    have hb:=Je (b3 _ (Dc (p+1) r).2) hg;obtain⟨g1,g2⟩:=i1 r ho hw (by omega) hb;have hon:r.at_<(Dc (p+1) r).2.at_:=by
     rcases Y1 p ho with h|h
     ·rw[hb]at h;cases h
     ·exact h
    have hlt:(Dc (p+1) r).2.left+1≤r.left:=by
     have e1:=af.1;have e2:=af.2.2;simp only[RS.left,e1]at *;omega
    refine i3 _ a _ (af.ok ho) (af.wk hw) (fun x hx'=>?_) ?_ (by omega) hg
    ·rcases zzq45.1 hx' with h|h
     ·exact hx x h
     ·simp at h;subst h;exact g1
    ·rw[Rx];omega
   ·rename_i hc;rw[if_neg hc];exact⟨hx,ha⟩
theorem Amw{r:RS}(hw:r.wk)(h:(I0 r).2.bad=false):-1≤(I0 r).1∧(I0 r).1≤1000000∧(I0 r).2.at_=r.at_+1∧r.bad=false:=by
 simp only[I0]at h⊢;split at h
 ·rename_i hc;rw[if_pos hc];simp only[Dd,Ml,zzq54]at hc;have hk:=Oj hw (by rw[hc.2];simp);have:=Z6 (by rw[←hk];exact hc.2);exact⟨by simp only;omega,Adm _,rfl,hc.1⟩
 ·rename_i hc;rw[if_neg hc];obtain⟨n1,n2,n3⟩:=F4 h;exact⟨by simp,by simp,by rw[n2];rfl,n3⟩
theorem Alu{r:RS}(ho:r.ok)(hw:r.wk)(hd:Hq r=true)(h:(Ji r).2.bad=false):FV (Ji r).1∧Ai (Ji r).1=1∧r.at_+1≤(Ji r).2.at_:=by
 have af:=La ho hd;have hlt:=af.2;have s:=Aj hlt;refine⟨?_,?_,?_⟩
 ·simp only[Ji]at h⊢;split at h
  ·rename_i ht;rw[if_pos ht];exact .var _ (J8 (s.wk hw) h).2.1
  ·rename_i ht;rw[if_neg ht];obtain⟨n1,n2,n3⟩:=F4 h;have s2:=s.trans (Cv (s.ok ho));have s3:=s2.trans (Bb (s:=[91]) (s2.ok ho) (by simp));obtain⟨g1,g2,g3,g4⟩:=Amw (s3.wk hw) n3;obtain⟨n4,n5,n6⟩:=F4 g4;exact .arr _ _ (J8 (s.wk hw) n6).2.1 g1 g2
 ·simp only[Ji];split<;>simp[Ai,A3]
 ·have:=af.1.2.1;rw[V7]at this;exact this
theorem Alj:∀(f:Nat)(acc:List Nd)(r:RS),r.bad=true→(E9 f acc r).2.bad=true
 |0,acc,r,h=>by simpa only[E9]using h
 |f+1,acc,r,h=>by simp only[E9];rw[if_neg (by simp[Hq,Du h])];exact h
theorem Aa1:∀(f:Nat)(acc:List Nd)(a:Nat)(r:RS),r.ok→r.wk→(∀x,x∈acc→FV x)→a+A3 acc≤r.at_→(E9 f acc r).2.bad=false →
 (∀x,x∈(E9 f acc r).1→FV x)∧a+A3 (E9 f acc r).1≤(E9 f acc r).2.at_
 |0,acc,a,r,ho,hw,hx,ha,h=>by simp only[E9]at h⊢;exact⟨hx,ha⟩
 |f+1,acc,a,r,ho,hw,hx,ha,h=>by
  simp only[E9]at h⊢;split at h
  ·rename_i hd;rw[if_pos hd];have hb:=Je (Alj f _ _) h;obtain⟨n1,n2,n3⟩:=F4 hb;obtain⟨g1,g2,g3⟩:=Alu ho hw hd n3;obtain⟨d1,d2⟩:=La ho hd;have s:=(Aj d2).trans d1;have s2:=s.trans (Bb (s:=[59]) (s.ok ho) (by simp));refine Aa1 f _ a _ (s2.ok ho) (s2.wk hw) (fun x hx'=>?_) ?_ h
   ·rcases zzq45.1 hx' with h'|h'
    ·exact hx x h'
    ·simp at h';subst h';exact g1
   ·rw[Rx,n2,V7];omega
  ·rename_i hd;rw[if_neg hd];exact⟨hx,ha⟩
theorem Xi{r:RS}(ho:r.ok)(hw:r.wk)(h:(Ep r).2.bad=false):FP (Ep r).1∧r.at_+Ai (Ep r).1≤(Ep r).2.at_+2∧(Ep r).2.at_=r.ws.length:=by
 simp only[Ep]at h⊢;generalize hT:E9 2000 [] r=T at h⊢;have aT:r.after T.2:=by rw[←hT];exact N6 2000 [] r ho
 have aL:=(F5 5000).2.2 [] T.2 (aT.ok ho);simp only[RS.ends]at h⊢;split at h
 ·simp[RS.spoil]at h
 ·rename_i hc;rw[if_neg hc];have hb:=Je ((Af9 5000).2.2 [] T.2) h;obtain⟨g1,g2⟩:=(Am0 5000).2.2 [] T.2.at_ T.2 (aT.ok ho) (aT.wk hw) (fun x hx=>by cases hx) (by simp[A3]) (by have:=(aT.ok ho).1;simp only[RS.left];omega) h;obtain⟨g3,g4⟩:=Aa1 2000 [] r.at_ r ho hw (fun x hx=>by cases hx) (by simp[A3]) (by rw[hT];exact hb);rw[hT]at g3 g4;refine⟨.mk _ _ g3 g1,?_,?_⟩
  ·simp only[Ai,Rx,A3];omega
  ·have e:=(aT.trans aL).1;have:=aL.2.2;have e2:(Ed 5000 [] T.2).2.ws=r.ws:=e;rw[e2]at this hc;omega
theorem If{X:Cx}{B:Bx}{F:C5}{S:St}{R:AE→St→Prop}{K:List Item}(d:Nat)(y:AV)(hk:AK X B K ((d,y)::F) S R)(h:lk F d=some y:=by rfl):AK X B K F S R:=by
 intro E w a b cs hI hF hn hm hb;refine hk E w a b cs hI ⟨hF.size,hF.nod,fun k z hz=>?_⟩ hn hm hb;rw[J7]at hz;split at hz
 ·rename_i he;subst he;cases hz;exact hF.rel _ _ h
 ·exact hF.rel k z hz
theorem Agk:∀(f a:Nat)(r:List UInt8)(out:List Wd),out.length≤1500→(∀w,w∈out→w.kind=Di w.text)→(Hg f a r out).1.length≤1500∧∀w,w∈(Hg f a r out).1→w.kind=Di w.text
 |0,a,r,out,h1,h2=>by simp only[Hg];exact⟨h1,h2⟩
 |f+1,a,[],out,h1,h2=>by simp only[Hg];exact⟨h1,h2⟩
 |f+1,a,c::l,out,h1,h2=>by
  simp only[Hg];split
  ·exact⟨by simp,fun w hw=>by cases hw⟩
  ·split
   ·exact⟨by simp,fun w hw=>by cases hw⟩
   ·rename_i hk;refine Agk f _ _ _ ?_ fun w hw=>?_
    ·simp at hk⊢;omega
    ·rcases zzq45.1 hw with h|h
     ·exact h2 w h
     ·simp at h;subst h;rfl
theorem Agl(s:List UInt8):(C4 s).1.length≤1500∧∀w,w∈(C4 s).1→w.kind=Di w.text:=by
 unfold C4;split
 ·exact⟨by simp,fun w hw=>by cases hw⟩
 ·exact Agk _ _ _ _ (by simp) (fun w hw=>by cases hw)
def RS.place(r:RS)(e:Nat):Nat:=match r.ws[r.at_]? with
 |some w=>w.pos
 |none=>e
def rs0(s:List UInt8):RS:=⟨(C4 s).1,0,false⟩
theorem Aih(s:List UInt8):(rs0 s).ok:=⟨(Agl s).1,B3 _⟩
theorem Aii(s:List UInt8):(rs0 s).wk:=(Agl s).2
def Fb(s:List UInt8):Nd×Int×Int:=
 if (C4 s).2.1=0 then
  (if (Ep (rs0 s)).2.bad then(Cg,4,(Ep (rs0 s)).2.place s.length)
  else if 500<Ai (Ep (rs0 s)).1∨24<Dh (Ep (rs0 s)).1 then(Cg,5,0)else((Ep (rs0 s)).1,0,0))
 else(Cg,(C4 s).2.1,(C4 s).2.2)
theorem Aj2{s:List UInt8}(h:(Fb s).2.1=0):FP (Fb s).1∧Ai (Fb s).1≤500∧Dh (Fb s).1≤24:=by
 unfold Fb at h⊢;split at h
 ·rename_i h0;rw[if_pos h0];split at h
  ·simp at h
  ·rename_i hb;rw[if_neg hb];split at h
   ·simp at h
   ·rename_i hl;rw[if_neg hl];have:=Xi (Aih s) (Aii s) (by simpa using hb);exact⟨this.1,by simp only;omega,by simp only;omega⟩
 ·rename_i h0;exact absurd h h0
theorem Aj3{r:RS}(ho:r.ok):r.after (Ep r).2:=by
 simp only[Ep];have aT:r.after (E9 2000 [] r).2:=N6 2000 [] r ho;have aL:=(F5 5000).2.2 [] (E9 2000 [] r).2 (aT.ok ho);have a:=aT.trans aL;simp only[RS.ends];split
 ·exact a.trans (Pu (a.ok ho))
 ·exact a
theorem Jd{s:List UInt8}(h:nameS s=true):s.length≤8:=by
 unfold nameS at h;split at h
 ·simp
 ·simp only[Dd,Ke]at h;have:=h.1.1.1;simp;omega
theorem Ax5(s:List UInt8)(hs:s.length≤1000000000):Pure X 218 [str s] (.tup [nd (Fb s).1,.agg [vi (Fb s).2.1,vi (Fb s).2.2]]):=by
 have hw:Pure X 262 [str s] (.tup [.sl (Hk (C4 s).1) .no,.agg [vi (C4 s).2.1,vi (C4 s).2.2]]):=Ayc s hs;refine Pure.run func218 ?_;refine Al hw ?_;refine Ah (fun h=>?_) (fun h=>?_)
 ·have h':(C4 s).2.1≠0:=by have:(!((C4 s).2.1==0))=true:=h;simpa using this
  have hP:Fb s=(Cg,(C4 s).2.1,((C4 s).2.2:Int)):=by simp only[Fb];rw[if_neg h']
  rw[hP];refine D8 12 ?_;refine Dz (A7 rfl rfl rfl rfl rfl rfl rfl) ?_ ?_
  ·exact An (Ck rfl rfl rfl) Gy
  refine Ch (A7 rfl rfl rfl rfl rfl rfl rfl) ?_;refine B2 ?_;refine As func218 ?_;rfl
 have h':(C4 s).2.1=0:=by have:(!((C4 s).2.1==0))=false:=h;simpa using this
 have hP:Fb s=if (Ep (rs0 s)).2.bad then(Cg,4,((Ep (rs0 s)).2.place s.length:Int))else if 500<Ai (Ep (rs0 s)).1∨24<Dh (Ep (rs0 s)).1 then(Cg,5,0)else((Ep (rs0 s)).1,0,0):=by
  simp only[Fb];rw[if_pos h']
 rw[hP];have ho:=Aih s;refine If 6 (.ptr 3 0 0) ?_;refine If 22 (.ptr 3 0 0) ?_;refine Ae [3] [] (A2e (rs0 s) ho) ?_;have hws:(Ep (rs0 s)).2.ws=(C4 s).1:=(Aj3 ho).1;have good:=Xi ho (Aii s);have hl0:=(Aih s).1;generalize Ep (rs0 s)=q at good hws⊢;refine Ah (fun h1=>?_) (fun h1=>?_)
 ·have h1':q.2.bad=true:=h1;rw[if_pos h1'];refine Ah (fun h2=>?_) (fun h2=>?_)
  ·have hlt:q.2.at_<(C4 s).1.length:=by have:=A5 h2;rw[D2]at this;omega
   obtain⟨w,hw⟩:=Ab (C4 s).1 hlt;have hp:q.2.place s.length=w.pos:=by simp[RS.place,hws,hw]
   refine B4 q.2.at_ (by omega) (Rb hw) ?_;refine As func218 ?_;rw[hp];rfl
  ·have hlt:(C4 s).1.length≤q.2.at_:=by have:=Ba h2;rw[D2]at this;omega
   have hp:q.2.place s.length=s.length:=by simp[RS.place,hws,U9 hlt]
   refine As func218 ?_;rw[hp];rfl
 ·have h1':q.2.bad=false:=h1;obtain⟨g1,g2,g3⟩:=good h1';have hc:Ai q.1≤4000000000:=by
   have e:(rs0 s).at_=0:=rfl;omega
  rw[if_neg (by simp[h1'])];refine Al (Aom q.1 hc) ?_;refine Df (fun h2=>?_) (fun h2=>?_)
  ·have h2':500<Ai q.1:=by have:=A5 h2;omega
   rw[if_pos (.inl h2')];refine A0 ?_;refine As func218 ?_;rfl
  ·have h2':¬500<Ai q.1:=by have:=Ba h2;omega
   refine Al (Aon q.1 hc) ?_;refine Ah (fun h3=>?_) (fun h3=>?_)
   ·have h3':24<Dh q.1:=by have:=A5 h3;omega
    rw[if_pos (.inr h3')];refine As func218 ?_;rfl
   ·have h3':¬24<Dh q.1:=by have:=Ba h3;omega
    rw[if_neg (by omega)];refine As func218 ?_;rfl
def Kb(n:Nd):List UInt8:=((n.kids.dropLast).map fun x=>Cp x []).flatten++(match n.kids.getLast? with
 |some b=>Ij b.kids []
 |none=>[])
def Dq(n:Nd):Bool:=(n.kind==40&&Tf n)&&((!(Kb n==[])&&decide ((Kb n).length≤4000))&&(Fb (Kb n)).2.1==0)
theorem Adq(ds l:List Nd):Kb (.mk 40 [] 0 (ds++[.mk 30 [] 0 l]))=(ds.map fun x=>Cp x []).flatten++Ij l []:=by
 simp[Kb]
theorem Ax6(n:Nd)(h:FP n)(hd:Dh n≤24)(hw:wN n≤100000):Pure X 217 [nd n,str []] (str (Kb n))∧(Kb n).length≤4060*wN n:=by
 cases h with
 |mk ds l hd' hl=>
  rw[Adq];simp only[Dh]at hd;have hdl:Gu l≤22:=by
   have:=Gv (l:=ds++[.mk 30 [] 0 l]) (x:=.mk 30 [] 0 l) (by simp);simp only[Dh]at this;omega
  have hwl:wL (ds++[.mk 30 [] 0 l])≤100000:=by simp[wN]at hw;omega
  have hwb:=P5 (l:=ds++[.mk 30 [] 0 l]) (k:=.mk 30 [] 0 l) (by simp);simp only[wN]at hwb;have hf:∀x,x∈ds++[.mk 30 [] 0 l]→Pure X 217 [nd x,str []] (str (if x.kind=30 then Ij x.kids []else Cp x []))∧(if x.kind=30 then Ij x.kids []else Cp x []).length≤4060*wN x:=fun x hx=>by
   have hwx:=P5 hx;rcases zzq45.1 hx with h|h
   ·have hv:=hd' x h;have hk:¬x.kind=30:=by cases hv<;>simp
    rw[if_neg hk];exact⟨Ax3 x hv [] (by simp) (by omega),Aqe x hv [] (by simp)⟩
   ·simp only[List.mem_singleton]at h;subst h;rw[if_pos (M6 30 [] 0 l),Gh];refine⟨Ys l [] hl (by simp;omega) (by simp at hwb;omega) fun x hx=>Ax2 x (hl x hx),?_⟩;have:=Qq (.mk 30 [] 0 l) l [] hl (by simp;omega);simp only[wN];omega
  have hp:=Aoo 40 (.inr rfl) _ _ [] (by simp) hwl hf;have hT:((ds++[Nd.mk 30 [] 0 l]).map fun x=>if x.kind=30 then Ij x.kids []else Cp x []).flatten=(ds.map fun x=>Cp x []).flatten++Ij l []:=by
   have e:(ds.map fun x=>if x.kind=30 then Ij x.kids []else Cp x [])=ds.map fun x=>Cp x []:=by
    apply List.map_congr_left;intro x hx;have hv:=hd' x hx;have hk:¬x.kind=30:=by cases hv<;>simp
    rw[if_neg hk]
   rw[Kr,List.flatten_append,e];simp
  rw[hT]at hp;refine⟨hp,?_⟩;have:=Ac6 fun x hx=>(hf x hx).2;rw[hT]at this;simp only[wN];omega
theorem Aau(n:Nd)(h:Co n=true):wN n≤9*Ai n:=by
 induction n using Nd.ind with
 |h n ih=>
  rw[K4,Dd]at h;have hall:=Le h.2;obtain⟨_,hH⟩:=Afg h.1;have hs:n.name.length≤8:=by
   have e:=hH.hs;cases hb:(Bj n.kind).2.1 with
   |false=>rw[hb]at e;have h0:n.name=[]:=(by simpa using e);rw[h0];simp
   |true=>exact Jd (hH.hn hb)
  have key:∀l:List Nd,(∀x,x∈l→wN x≤9*Ai x)→wL l≤9*A3 l:=by
   intro l
   induction l with
   |nil=>intro _;simp[wL]
   |cons x l ihl=>
    intro hx;have h1:=hx x (by simp);have h2:=ihl fun y hy=>hx y (by simp[hy]);simp only[wL,A3];omega
  have:=key n.kids fun x hx=>by
   obtain⟨j,hj⟩:=Bs hx;exact ih x hx (hall j x hj).2
  rw[Ws,Cj];omega
theorem Aj1(n:Nd)(hn:wN n≤1000000000):Pure X 156 [nd n] (vb (Dq n)):=by
 refine Pure.run func156 ?_;refine Df (fun h1=>?_) (fun h1=>?_)
 ·have h1':¬n.kind=40:=by have:(!(n.kind==40))=true:=h1;simpa using this
  refine A0 ?_;refine Az func156 ?_;simp[Dq,h1',C8]
 have h1':n.kind=40:=by have:(!(n.kind==40))=false:=h1;simpa using this
 refine Al (A12 n hn) ?_;refine Ah (fun h2=>?_) (fun h2=>?_)
 ·have h2':Tf n=false:=by have:(!Tf n)=true:=h2;simpa using this
  refine Az func156 ?_;simp[Dq,h2',C8]
 have h2':Tf n=true:=by have:(!Tf n)=false:=h2;simpa using this
 have h2'':=h2';simp only[Tf,Dd,Ke]at h2'';obtain⟨⟨hc,hd⟩,hf⟩:=h2'';have hw:=Aau n hf;have hP:=Azv n hf h1';obtain⟨hp,hl⟩:=Ax6 n hP hd (by omega);refine Al hp ?_;have hO:Dq n=((!(Kb n==[])&&decide ((Kb n).length≤4000))&&(Fb (Kb n)).2.1==0):=by simp[Dq,h1',h2']
 rw[hO];refine Df (fun h3=>?_) (fun h3=>?_)
 ·have h3':(Kb n==[])=true:=h3;refine A0 ?_;refine Az func156 ?_;rw[h3'];rfl
 have h3':(Kb n==[])=false:=h3;refine Ah (fun h4=>?_) (fun h4=>?_)
 ·have h4':¬(Kb n).length≤4000:=by have:=A5 h4;rw[F9]at this;omega
  refine Az func156 ?_;simp[h4',C8]
 have h4':(Kb n).length≤4000:=by have:=Ba h4;rw[F9]at this;omega
 refine Al (Ax5 (Kb n) (by omega)) ?_;refine Az func156 ?_;simp[h3',h4',C8]
theorem Us(l:List (List UInt8))(s:List UInt8)(hl:l.length≤1000000000):Pure X 102 [.sl (Dl l) .no,str s] (vi (E6 0 l s)):=by
 refine Pure.run func102 ?_;refine Ar (ι:=Nat) 0 0 (fun i=>i≤l.length∧E6 0 l s=E6 i (l.drop i) s) (fun i=>[(5,vi i),(0,.sl (Dl l) .no),(1,str s)]) (fun _=>⟨[],[]⟩) (fun i=>l.length-i) ?_ 0 ⟨B3 _,rfl⟩
  ⟨rfl,rfl,rfl,trivial⟩
 intro i hi IH;refine C7 (fun h=>?_) (fun h=>?_)
 ·have hlt:i<l.length:=by have:=A5 h;rw[F6]at this;omega
  obtain⟨x,hx⟩:=Ab l hlt;have hd:E6 i (l.drop i) s=if s==x then(i:Int)else E6 (i+1) (l.drop (i+1)) s:=by rw[B6 hx];rfl
  refine B4 i (by omega) (Q5 hx) ?_;refine Ah (fun h2=>?_) (fun h2=>?_)
  ·refine Az func102 ?_;have h3:(s==x)=true:=by have:(x==s)=true:=h2;rw[zzq54]at this⊢;exact this.symm
   rw[hi.2,hd,h3];rfl
  ·have h3:(s==x)=false:=by have:(x==s)=false:=h2;rw[beq_eq_false_iff_ne]at this⊢;exact Ne.symm this
   exact IH (i+1) ⟨hlt,by rw[hi.2,hd,h3];rfl⟩ (by omega) _ _ ⟨vsx (by omega),rfl,rfl,trivial⟩ rfl rfl rfl
 ·have:i=l.length:=by have:=Ba h;rw[F6]at this;omega
  refine Az func102 ?_;rw[hi.2,this,Hz];rfl
theorem Acf(l:List (List UInt8)):Kf 1 (Dl l)=true:=Kx (f:=fun s=>[str s]) (fun _=>rfl) l
def Kj(k:Int):Int:=if k=2∨k=21∨k=23∨k=26 then 1 else if k=3∨k=4∨k=22 then 2 else 0
theorem Ayb(k:Int):Pure X 219 [vi k] (vi (Kj k)):=by
 refine Pure.run func219 ?_
 repeat' (refine Ah (fun _=>?_) (fun _=>?_))
 all_goals refine Az func219 ?_
 all_goals (simp_all [Kj,C8])
def Fa(l:List Nd)(k:Int):List (List UInt8):=(l.filter fun x=>x.kind==k).map Nd.name
def Ax(n:Nd)(k:Int):List (List UInt8):=Fa n.kids.dropLast k
theorem Aae(l:List Nd)(k:Int):(Fa l k).length≤l.length:=by simp only[Fa,Py];exact Abm _ _
theorem Sk(n:Nd)(k:Int)(hn:wN n≤1000000000):Pure X 98 [nd n,vi k] (.sl (Dl (Ax n k)) .no):=by
 refine Pure.run func98 ?_;have hkl:=G7 n;have hw:IntKind.i64.wrap ((Ap n.kids).length-1:Int)=n.kids.length-1:=by rw[Ad];exact Ac (by omega) (by omega)
 refine N2 (d:=5) rfl rfl rfl ?_;refine Ar (ι:=Nat) 1 1 (fun i=>i≤n.kids.length-1) (fun i=>[(6,vi i),(5,.sl (Dl (Fa (n.kids.take i) k)) (.tok 0)),(1,vi k),(2,.ptr 0 0 0)]) (fun i=>⟨[[Af n]],[(Fa (n.kids.take i) k).length]⟩) (fun i=>n.kids.length-i) ?_ 0
  (B3 _) ⟨rfl,rfl,rfl,rfl,trivial⟩
 intro i hi IH;refine C7 (fun h=>?_) (fun h=>?_)
 ·have hlt:i<n.kids.length-1:=by have:=A5 h;rw[hw]at this;omega
  obtain⟨x,hx⟩:=Ab n.kids (i:=i) (by omega);have hle:=Aae (n.kids.take i) k;have htl:(n.kids.take i).length=i:=by simp;omega
  refine B4 i (by omega) (Am hx) ?_;refine Ah (fun h2=>?_) (fun h2=>?_)
  ·have h2':(x.kind==k)=true:=h2;have hs:Fa (n.kids.take (i+1)) k=Fa (n.kids.take i) k++[x.name]:=by simp[Fa,G8,hx,Aeg,Abo,h2']
   refine B4 i (by omega) (Am hx) ?_;refine Bn (Bu (res:=Dl (Fa (n.kids.take i) k++[x.name])) rfl rfl rfl rfl rfl rfl rfl rfl rfl rfl rfl rfl rfl rfl (F6 _) (Acf _) rfl rfl rfl ?_ ?_ rfl) ?_
   ·rw[F6];simp;omega
   ·simp[Dl]
   refine IH (i+1) (by omega) (by omega) _ _ ⟨vsx (by omega),?_,rfl,rfl,trivial⟩ ?_ rfl rfl
   ·rw[hs];rfl
   ·rw[hs];simp[St.drop,F6]
  ·have h2':(x.kind==k)=false:=h2;have hs:Fa (n.kids.take (i+1)) k=Fa (n.kids.take i) k:=by simp[Fa,G8,hx,Aeg,Abo,h2']
   refine IH (i+1) (by omega) (by omega) _ _ ⟨vsx (by omega),?_,rfl,rfl,trivial⟩ ?_ rfl rfl
   ·rw[hs];rfl
   ·rw[hs];rfl
 ·have:i=n.kids.length-1:=by have:=Ba h;rw[hw]at this;omega
  refine As func98 ?_;rw[this,Ax,Akw]
theorem Adn(n:Nd)(hn:wN n≤1000000000):Pure X 103 [nd n] (nd n):=by
 induction n using Nd.ind with
 |h n ih=>
 refine Pure.run func103 ?_;have hkl:=G7 n;refine N2 (d:=3) rfl rfl rfl ?_;refine Ar (ι:=Nat) 2 1 (fun i=>i≤n.kids.length) (fun i=>[(4,vi i),(3,.sl (Ap (n.kids.take i)) (.tok 0)),(1,.ptr 0 0 0),(2,.ptr 1 0 0)]) (fun i=>⟨[[Af n],[zN]],[i]⟩) (fun i=>n.kids.length-i) ?_ 0
  (B3 _) ⟨rfl,rfl,rfl,rfl,trivial⟩
 intro i hi IH;refine C7 (fun h=>?_) (fun h=>?_)
 ·have hlt:i<n.kids.length:=by have:=A5 h;rw[Ad]at this;omega
  obtain⟨x,hx⟩:=Ab n.kids hlt;have hwx:=Jg (Bh hx);have htl:(n.kids.take i).length=i:=by simp;omega
  refine B4 i (by omega) (Am hx) ?_;refine Al (ih x (Bh hx) (by omega)) ?_;refine Bn (Bu (res:=Ap (n.kids.take (i+1))) rfl rfl rfl rfl rfl rfl rfl rfl rfl rfl rfl rfl rfl rfl (by rw[Ad,htl]) (Ew _) rfl rfl rfl ?_ ?_ rfl) ?_
  ·rw[Ad];simp;omega
  ·rw[G8,hx,Au,Au];simp
  refine IH (i+1) hlt (by omega) _ _ ⟨vsx (by omega),rfl,rfl,rfl,trivial⟩ ?_ rfl rfl;simp[St.drop,Ad,htl]
 ·have:i=n.kids.length:=by have:=Ba h;rw[Ad]at this;omega
  subst this;refine As func103 ?_;rw[I2];rfl
theorem Az8(s:List UInt8)(a:Nd):Pure X 230 [str s,nd a] (nd (.mk 21 s 0 [a])):=by
 refine Pure.run func230 ?_;refine As func230 ?_;show AV.agg [_,_,_,.sl _ _]=AV.agg [_,_,_,.sl (Ap [a]) _];rw[Au [a]];rfl
theorem At7(s:List UInt8):Pure X 232 [str s] (nd (.mk 2 s 0 [])):=by
 refine Pure.run func232 ?_;exact As func232 rfl
theorem Ax4:Pure X 233 [vi 1] (nd (.mk 1 [] 1 [])):=by
 refine Pure.run func233 ?_;refine Ag ?_;exact As func233 rfl
def Hv(vars arrs:List (List UInt8))(code:Int)(k:Int)(s:List UInt8):Bool:=
 decide (Kj k>0)&&((code==7&&!decide (E6 0 vars s≥0)&&!decide (E6 0 arrs s≥0))||(code==8&&((Kj k==1&&!decide (E6 0 vars s≥0))||(Kj k==2&&!decide (E6 0 arrs s≥0)))))
mutual
def G2(vars arrs:List (List UInt8))(code:Int):Nd→List UInt8×Bool
 |.mk k s _ ks=>if Hv vars arrs code k s then(s,true)else My vars arrs code ks
def My(vars arrs:List (List UInt8))(code:Int):List Nd→List UInt8×Bool
 |[]=>([],false)
 |x::l=>if (G2 vars arrs code x).2 then(G2 vars arrs code x)else My vars arrs code l
end
theorem Ra(vars arrs:List (List UInt8))(code:Int)(n:Nd):G2 vars arrs code n=if Hv vars arrs code n.kind n.name then(n.name,true)else My vars arrs code n.kids:=by cases n;rw[G2];rfl
theorem A5m(n:Nd)(vars arrs:List (List UInt8))(T:List UInt8×Bool)(code w:Int)(v a:Bool)(hc:code=7∨code=8)(hw:w=1∨w=2)
 (h7:AK X ⟨157,f157,0,0⟩ (Lm false 7 f157) [(4,.ptr 0 0 0),(1,.sl (Dl vars) .no),(2,.sl (Dl arrs) .no),(3,vi code)] ⟨[[Af n]],[]⟩ (fun e S=>e=.ret (.tup [str T.1,vb T.2])∧S=⟨[],[]⟩)) :
 AK X ⟨157,f157,0,0⟩ (Lm false 5 f157) [(4,.ptr 0 0 0),(1,.sl (Dl vars) .no),(2,.sl (Dl arrs) .no),(3,vi code),(10,vi w),(11,vb v),(12,vb a)] ⟨[[Af n]],[]⟩
  (fun e S=>e=.ret (.tup [str (if ((code==7&&!v&&!a)||(code==8&&((w==1&&!v)||(w==2&&!a))))then(n.name,true)else T).1,vb (if ((code==7&&!v&&!a)||(code==8&&((w==1&&!v)||(w==2&&!a))))then(n.name,true)else T).2])∧S=⟨[],[]⟩):=by
 refine D5 ?_;rcases hc with rfl|rfl<;>rcases hw with rfl|rfl<;>cases v<;>cases a
 all_goals
  refine Bi 100 rfl ?_
  repeat' (first|refine Ii ?_|refine Hh ?_)
  first
   |(refine A0 ?_;exact Az func157 rfl)
   |(refine Ey 0 7 (fun h=>?_) (fun h=>?_);· cases h
     exact Bz 1 0 h7 ⟨rfl,rfl,rfl,rfl,trivial⟩ rfl rfl rfl rfl rfl)
theorem Aoq(vars arrs:List (List UInt8))(code:Int)(hc:code=7∨code=8)(hv:vars.length≤1000000000)(ha:arrs.length≤1000000000)(n:Nd)(hn:wN n≤1000000000) :
 Pure X 157 [nd n,.sl (Dl vars) .no,.sl (Dl arrs) .no,vi code] (.tup [str (G2 vars arrs code n).1,vb (G2 vars arrs code n).2]):=by
 induction n using Nd.ind with
 |h n ih=>
 have hkl:=G7 n;have hloop:∀T,My vars arrs code n.kids=T→AK X ⟨157,f157,0,0⟩ (Lm false 7 f157) [(4,.ptr 0 0 0),(1,.sl (Dl vars) .no),(2,.sl (Dl arrs) .no),(3,vi code)] ⟨[[Af n]],[]⟩
  (fun e S=>e=.ret (.tup [str T.1,vb T.2])∧S=⟨[],[]⟩):=fun T hT=>by
  refine D5 ?_;refine Bi 100 rfl ?_;refine Ar (ι:=Nat) 1 0 (fun i=>i≤n.kids.length∧T=My vars arrs code (n.kids.drop i)) (fun i=>[(13,vi i),(4,.ptr 0 0 0),(1,.sl (Dl vars) .no),(2,.sl (Dl arrs) .no),(3,vi code)]) (fun _=>⟨[[Af n]],[]⟩)
   (fun i=>n.kids.length-i) ?_ 0 ⟨B3 _,hT.symm⟩ ⟨rfl,rfl,rfl,rfl,rfl,trivial⟩
  rintro i ⟨hi,hTi⟩ IH;refine C7 (fun h=>?_) (fun h=>?_)
  ·have hlt:i<n.kids.length:=by have:=A5 h;rw[Ad]at this;omega
   obtain⟨x,hx⟩:=Ab n.kids hlt;have hwx:=Jg (Bh hx);rw[B6 hx]at hTi;simp only[My]at hTi;refine B4 i (by omega) (Am hx) ?_;refine Al (ih x (Bh hx) (by omega)) ?_;refine Ah (fun h2=>?_) (fun h2=>?_)
   ·have h2':(G2 vars arrs code x).2=true:=h2;refine Az func157 ?_;rw[hTi,if_pos h2',h2'];rfl
   ·have h2':(G2 vars arrs code x).2=false:=h2;exact IH (i+1) ⟨hlt,by rw[hTi,if_neg (by simp[h2'])]⟩ (by omega) _ _ ⟨vsx (by omega),rfl,rfl,rfl,rfl,trivial⟩ rfl rfl rfl
  ·have:i=n.kids.length:=by have:=Ba h;rw[Ad]at this;omega
   refine Az func157 ?_;rw[hTi,this,Hz];rfl
 refine Pure.run func157 ?_;refine Al (Ayb n.kind) ?_;rw[Ra];refine Ey 0 7 (fun h1=>?_) (fun h1=>?_)
 ·have h1':decide (Kj n.kind>0)=true:=h1;have hw:Kj n.kind=1∨Kj n.kind=2:=by
   have:=A5 h1';unfold Kj at this⊢;split
   ·simp
   ·split
    ·simp
    ·rename_i h2 h3;rw[if_neg h2,if_neg h3]at this;omega
  refine Bi 100 rfl ?_;refine Al (Us vars n.name hv) ?_;refine Aru 5 (Us arrs n.name ha) ?_;have hA:Hv vars arrs code n.kind n.name=((code==7&&!decide (E6 0 vars n.name≥0)&&!decide (E6 0 arrs n.name≥0))||(code==8&&((Kj n.kind==1&&!decide (E6 0 vars n.name≥0))||(Kj n.kind==2&&!decide (E6 0 arrs n.name≥0))))):=by simp only[Hv,h1',Re]
  rw[hA];exact Bz 1 0 (A5m n vars arrs _ code _ _ _ hc hw (hloop _ rfl)) ⟨rfl,rfl,rfl,rfl,rfl,rfl,rfl,trivial⟩ rfl rfl rfl rfl rfl
 ·have h1':decide (Kj n.kind>0)=false:=h1;have hA:Hv vars arrs code n.kind n.name=false:=by simp[Hv,h1']
  rw[hA];exact Bz 1 0 (hloop _ rfl) ⟨rfl,rfl,rfl,rfl,trivial⟩ rfl rfl rfl rfl rfl
theorem Ak2{X:Cx}{B:Bx}{S S2:St}{F F':C5}{N:Nat}{R:AE→St→Prop}{ops:Array Oper}{i:Nat}{bs:List Nat}{em:Nat}{Hs:List St}{pend:List J2}{k K:List Item}(id:Nat)(hk:AK X B K F' S2 R)
 (he:evT X B.fn.ntmps id 100 k F S=(K,F',S2):=by rfl):Drv X N ops bs em [] i F S Hs pend fun F1 S1=>AK X B k F1 S1 R:=
 Kv id 100 he hk
def Aem(s:List UInt8):List Nd→List Nd
 |[a,b,.mk k' s' m' l]=>[.mk 21 s 0 [a],.mk 25 [] 0 [.mk 11 [] 0 [.mk 2 s 0 [],b],.mk k' s' m' (l++[.mk 21 s 0 [.mk 6 [] 0 [.mk 2 s 0 [],.mk 1 [] 1 []]]])]]
 |_=>[]
mutual
def A6:Nd→Nd
 |.mk k s m ks=>.mk k s m (Br ks)
def Br:List Nd→List Nd
 |[]=>[]
 |x::l=>G1 x++Br l
def G1:Nd→List Nd
 |.mk k s m ks=>if k=26 then Aem s (Br ks)else[.mk k s m (Br ks)]
end
theorem Bd(k:Int)(s:List UInt8)(m:Int)(ks:List Nd):A6 (.mk k s m ks)=.mk k s m (Br ks):=by rw[A6]
theorem A4:Br []=[]:=by rw[Br]
theorem Ao(x:Nd)(l:List Nd):Br (x::l)=G1 x++Br l:=by rw[Br]
theorem Bf{x:Nd}(h:x.kind≠26):G1 x=[A6 x]:=by
 obtain⟨k,s,m,ks⟩:=x;have h':k≠26:=h;rw[G1,if_neg h',A6]
theorem K6(s:List UInt8)(m:Int)(ks:List Nd):G1 (.mk 26 s m ks)=Aem s (Br ks):=by rw[G1,if_pos rfl]
theorem Uu(a b:List Nd):Br (a++b)=Br a++Br b:=by
 induction a with
 |nil=>simp[A4]
 |cons x a ih=>simp[Ao,ih]
theorem Ie{l:List Nd}(h:∀x,x∈l→x.kind≠26):Br l=l.map A6:=by
 induction l with
 |nil=>simp[A4]
 |cons x l ih=>rw[Ao,Bf (h x (by simp)),ih fun y hy=>h y (by simp[hy])];simp
theorem Cy{x:Nd}(h:FE x):1≤x.kind∧x.kind≤8:=by
 cases h<;>simp;omega
theorem J0{x:Nd}(h:FC x):11≤x.kind∧x.kind≤16:=by
 cases h;simp;omega
theorem Av6{x:Nd}(h:FS x):21≤x.kind∧x.kind≤29:=by
 cases h<;>simp
theorem Abx{x:Nd}(h:FV x):x.kind=31∨x.kind=32:=by
 cases h<;>simp
theorem Ut{x:Nd}(h:FE x):A6 x=x:=by
 induction h with
 |num m h0 h1=>rw[Bd,A4]
 |var s h=>rw[Bd,A4]
 |cell s a h ha ih=>rw[Bd,Ao,A4,Bf (by have:=Cy ha;omega),ih];rfl
 |len s h=>rw[Bd,A4]
 |neg a ha ih=>rw[Bd,Ao,A4,Bf (by have:=Cy ha;omega),ih];rfl
 |two k a b hk ha hb iha ihb=>rw[Bd,Ao,Ao,A4,Bf (by have:=Cy ha;omega),Bf (by have:=Cy hb;omega),iha,ihb];rfl
theorem Sr{x:Nd}(h:FC x):A6 x=x:=by
 cases h with
 |mk k a b h0 h1 ha hb=>rw[Bd,Ao,Ao,A4,Bf (by have:=Cy ha;omega),Bf (by have:=Cy hb;omega),Ut ha,Ut hb];rfl
theorem A16{x:Nd}(h:FV x):A6 x=x:=by
 cases h<;>rw[Bd,A4]
theorem U7(a b:List Nd):wL (a++b)=wL a+wL b:=by
 induction a with
 |nil=>simp[wL]
 |cons x a ih=>simp only[Pz,wL,ih];omega
theorem A1a(s:List UInt8)(l:List Nd):wL (Aem s l)≤wL l+10+5*s.length:=by
 unfold Aem;split
 ·simp only[wL,wN,U7,Wx];omega
 ·simp[wL]
theorem Ro{P:Nd→Prop}{Q:List Nd→Prop}(h1:∀(k:Int)(s:List UInt8)(m:Int)(ks:List Nd),Q ks→P (.mk k s m ks))(h2:Q [])(h3:∀(x:Nd)(l:List Nd),P x→Q l→Q (x::l)):(∀x,P x)∧∀l,Q l:=by
 have hP:∀x,P x:=fun x=>Nd.rec (motive_1:=P) (motive_2:=Q) h1 h2 h3 x;refine⟨hP,fun l=>?_⟩
 induction l with
 |nil=>exact h2
 |cons x l ih=>exact h3 x l (hP x) ih
theorem Aud:(∀n:Nd,wN (A6 n)≤10*wN n∧wL (G1 n)≤10*wN n)∧∀l:List Nd,wL (Br l)≤10*wL l:=by
 refine Ro (fun k s m ks ih=>?_) ?_ (fun x l hx hl=>?_)
 ·have hM:wN (A6 (.mk k s m ks))≤10*wN (.mk k s m ks):=by rw[Bd];simp only[wN];omega
  refine⟨hM,?_⟩;by_cases hk:k=26
  ·subst hk;rw[K6];have:=A1a s (Br ks);simp only[wN];omega
  ·rw[Bf (by simpa using hk)];simp only[wL];omega
 ·simp[A4,wL]
 ·rw[Ao,U7];simp only[wL];omega
theorem Ps(n:Nd):wN (A6 n)≤10*wN n∧wL (G1 n)≤10*wN n:=Aud.1 n
theorem Vx(l:List Nd):wL (Br l)≤10*wL l:=by
 induction l with
 |nil=>simp[A4,wL]
 |cons x l ih=>rw[Ao,U7];have:=(Ps x).2;simp only[wL];omega
theorem Mu(l:List Nd):l.length≤wL l:=by
 induction l with
 |nil=>simp
 |cons x l ih=>have:=Ws x;simp[wL];omega
theorem Ni(k:Int)(s:List UInt8)(m:Int)(ks:List Nd)(hk:k≠26)(hk':k≠30)(hw:wN (.mk k s m ks)≤1000000000)
 (hx:∀x,x∈ks→(x.kind=30∧Pure X 170 [nd x] (.sl (Ap [A6 x]) .no))∨(x.kind≠30∧A6 x=x)) :
 Pure X 170 [nd (.mk k s m ks)] (.sl (Ap [.mk k s m (ks.map A6)]) .no):=by
 have ne1:(k==30)=false:=by simpa using hk'
 have ne2:(k==26)=false:=by simpa using hk
 have hkl:=G7 (.mk k s m ks);simp only[Gh]at hkl;refine Pure.run func170 ?_;refine Ag ?_ (ht:=ne1);refine Ag ?_ (ht:=ne2);refine En 1 0 3 rfl rfl rfl rfl rfl rfl ?_;refine Ar (ι:=Nat) 2 1 (fun i=>i≤ks.length) (fun i=>[(6,vi i),(1,.ptr 0 0 0),(3,.ptr 1 0 0)]) (fun i=>⟨[[Af (.mk k s m ks)],[[vi k,str s,vi m,.sl (Ap ((ks.take i).map A6)) (.tok 0)]]],[i]⟩) (fun i=>ks.length-i) ?_ 0
  (B3 _) ⟨rfl,rfl,rfl,trivial⟩
 intro i hi IH;refine C7 (fun h=>?_) (fun h=>?_)
 ·have hlt:i<ks.length:=by have:=A5 h;rw[Ad]at this;simp at this;omega
  obtain⟨x,hxg⟩:=Ab ks hlt;have hwx:wN x<wN (.mk k s m ks):=Jg (n:=.mk k s m ks) (Bh hxg);have htl:(Ap ((ks.take i).map A6)).length=i:=by rw[Ad];simp;omega
  have hres:Ap ((ks.take i).map A6)++[Af (A6 x)]=Ap ((ks.take (i+1)).map A6):=by simp[Au,G8,hxg]
  have hgo:AK X ⟨170,f170,0,0⟩ (Lm false 15 f170) [(6,vi i),(1,.ptr 0 0 0),(3,.ptr 1 0 0)] ⟨[[Af (.mk k s m ks)],[[vi k,str s,vi m,.sl (Ap ((ks.take (i+1)).map A6)) (.tok 0)]]],[i+1]⟩
   (fun e S=>e=.ret (.sl (Ap [.mk k s m (ks.map A6)]) .no)∧S=⟨[],[]⟩):=by
   refine D5 ?_;refine Bi 100 rfl ?_;exact IH (i+1) hlt (by omega) _ _ ⟨vsx (by omega),rfl,rfl,trivial⟩ rfl rfl rfl
  refine B4 i (by omega) (Am (l:=ks) hxg) ?_;rcases hx x (Bh hxg)with⟨h30,hp⟩|⟨h30,hp⟩
  ·refine A0 ?_ (ht:=by simpa using h30);refine D8 10240 ?_;refine Db i (by omega) (Am (l:=ks) hxg) ?_;refine Ce hp ?_;refine Db 0 (by omega) (Wj (A6 x) []) ?_;refine Ch (Bu (res:=Ap ((ks.take (i+1)).map A6)) rfl rfl rfl rfl rfl rfl rfl rfl rfl rfl rfl rfl rfl rfl htl (Ew _) rfl rfl rfl ?_ hres rfl) ?_
   ·rw[htl];simp;omega
   refine Av ?_;refine Ch (A7 rfl rfl rfl rfl rfl rfl rfl) ?_;refine Ak2 15 ?_;exact Bz 2 1 hgo ⟨rfl,rfl,rfl,trivial⟩ (by simp[St.drop,Ad];omega) rfl rfl rfl rfl
  ·refine Ag ?_ (ht:=by simpa using h30);refine D8 2560 ?_;refine Db i (by omega) (Am (l:=ks) hxg) ?_;refine Ce (Adn x (by omega)) ?_;rw[hp]at hres;refine Ch (Bu (res:=Ap ((ks.take (i+1)).map A6)) rfl rfl rfl rfl rfl rfl rfl rfl rfl rfl rfl rfl rfl rfl htl (Ew _) rfl rfl rfl ?_ hres rfl) ?_
   ·rw[htl];simp;omega
   refine Av ?_;refine Ch (A7 rfl rfl rfl rfl rfl rfl rfl) ?_;refine Ak2 15 ?_;exact Bz 2 1 hgo ⟨rfl,rfl,rfl,trivial⟩ (by simp[St.drop,Ad];omega) rfl rfl rfl rfl
 ·have:i=ks.length:=by have:=Ba h;rw[Ad]at this;simp at this;omega
  subst this;refine As func170 ?_;rw[I2,Au [_]];rfl
theorem Ajw(l:List Nd):Nb (Ap l)=true:=K9.2 fun r hr x hx=>by
 rw[Au]at hr;obtain⟨k,_,rfl⟩:=zzq66.1 hr;simp[Af]at hx;rcases hx with rfl|rfl|rfl|rfl<;>rfl
theorem Hands.pure{X:Cx}{f:FuncId}{args:List AV}{y r:AV}{tk:List Nat}(h:Hands X f args ⟨[],[]⟩ y ⟨[],tk⟩) [hz:FzC ⟨[],tk⟩ 0 0 y r]:Pure X f args r:=by
 refine⟨h.1,fun E w vs hd hI hs hr=>(h.2 E w vs hd hI hs hr).mono fun e w' he=>?_⟩;obtain⟨E1,S1,d1,d2,d3⟩:=he;cases e with
 |returned v=>
  obtain⟨r',hr',hre,rfl⟩:=d3;cases hre;exact⟨E1.drop 0 0,_,d1.drop (fun rows hr=>by simp at hr),d2.trans (Evol.drop E1 w' 0 0),r,hz.s.rel d1 hr',rfl,by simp[St.drop]⟩
 |panicked ch=>obtain⟨h,_⟩:=d3;cases h
 |outgrown=>exact d3.elim
theorem Ajg(m:Int)(s:List UInt8)(ks:List Nd)(hw:wN (.mk 30 s m ks)≤1000000000)
 (hx:∀x,x∈ks→Pure X 170 [nd x] (.sl (Ap (G1 x)) .no)∧Nat.ble 1 (G1 x).length=true) :
 Hands X 170 [nd (.mk 30 s m ks)] ⟨[],[]⟩ (.sl [[vi 30,str s,vi m,.sl (Ap (Br ks)) (.tok 0)]] .tight) ⟨[],[(Br ks).length]⟩:=by
 have hkl:=G7 (.mk 30 s m ks);simp only[Gh]at hkl;refine Hands.run func170 ?_;refine A0 ?_;refine En 1 0 3 rfl rfl rfl rfl rfl rfl ?_;refine Ar (ι:=Nat) 2 1 (fun i=>i≤ks.length) (fun i=>[(4,vi i),(1,.ptr 0 0 0),(3,.ptr 1 0 0)]) (fun i=>⟨[[Af (.mk 30 s m ks)],[[vi 30,str s,vi m,.sl (Ap (Br (ks.take i))) (.tok 0)]]],[(Br (ks.take i)).length]⟩) (fun i=>ks.length-i) ?_ 0
  (B3 _) ⟨rfl,rfl,rfl,trivial⟩ (by simp[A4];rfl)
 intro i hi IH;refine C7 (fun h=>?_) (fun h=>?_)
 ·have hlt:i<ks.length:=by have:=A5 h;rw[Ad]at this;simp at this;omega
  obtain⟨x,hxg⟩:=Ab ks hlt;have hwx:wN x<wN (.mk 30 s m ks):=Jg (n:=.mk 30 s m ks) (Bh hxg);have hsn:Br (ks.take (i+1))=Br (ks.take i)++G1 x:=by rw[G8,hxg,Uu];simp[Ao,A4]
  have hl1:=Mu (Br (ks.take i));have hl2:=Vx (ks.take i);have hl3:wL (ks.take i)≤wL ks:=by
   have:=U7 (ks.take i) (ks.drop i);rw[Aee]at this;omega
  have hl4:=Mu (G1 x);have hl5:=(Ps x).2;have hw':=hw;simp only[wN]at hw';obtain⟨hp,hne⟩:=hx x (Bh hxg);refine D8 1280 ?_;refine Db i (by omega) (Am (l:=ks) hxg) ?_;refine Ce hp ?_;refine Ch (Bu (res:=Ap (Br (ks.take (i+1)))) rfl rfl rfl rfl rfl rfl rfl rfl rfl rfl rfl rfl rfl rfl (Ad _) (Ew _) (Ew _) (Ajw _) (by rw[Ad];exact hne) ?_ ?_ rfl) ?_
  ·rw[Ad,Ad];simp only[wN]at hwx;omega
  ·rw[hsn,Au,Au,Au,Kr]
  refine Av ?_;refine Ch (A7 rfl rfl rfl rfl rfl rfl rfl) ?_;refine B2 ?_;refine IH (i+1) hlt (by omega) _ _ ⟨vsx (by omega),rfl,rfl,trivial⟩ ?_ rfl rfl;simp[St.drop,Ad,hsn]
 ·have:i=ks.length:=by have:=Ba h;rw[Ad]at this;simp at this;omega
  subst this;rw[I2];exact Zj func170 rfl rfl rfl rfl
theorem Yu(m:Int)(s:List UInt8)(ks:List Nd)(hw:wN (.mk 30 s m ks)≤1000000000)
 (hx:∀x,x∈ks→Pure X 170 [nd x] (.sl (Ap (G1 x)) .no)∧Nat.ble 1 (G1 x).length=true) :
 Pure X 170 [nd (.mk 30 s m ks)] (.sl (Ap [.mk 30 s m (Br ks)]) .no):=by
 have:=(Ajg m s ks hw hx).pure;rw[Au [_]];exact this
theorem Qv{x:Nd}(h:FS x):Nat.ble 1 (G1 x).length=true:=by
 by_cases hk:x.kind=26
 ·cases h with
  |for_ s a b l h ha hb hl=>
   rw[K6,Ao,Ao,Ao,A4,Bf (by have:=Cy ha;omega),Bf (by have:=Cy hb;omega),Bf (by simp),Bd];rfl
  |_=>simp at hk
 ·rw[Bf hk];rfl
theorem At8(x:Nd)(h:FS x)(hw:wN x≤1000000000):Pure X 170 [nd x] (.sl (Ap (G1 x)) .no):=by
 induction h with
 |set s a h ha=>
  rw[Bf (by simp),Bd,Ie (by simp;have:=Cy ha;omega)];exact Ni 21 s 0 _ (by simp) (by simp) hw fun x hx=>by simp at hx;subst hx;exact .inr ⟨by have:=Cy ha;omega,Ut ha⟩
 |put s a b h ha hb=>
  rw[Bf (by simp),Bd,Ie (by simp;have:=Cy ha;have:=Cy hb;omega)];refine Ni 22 s 0 _ (by simp) (by simp) hw fun x hx=>?_;simp at hx;rcases hx with rfl|rfl
  ·exact .inr ⟨by have:=Cy ha;omega,Ut ha⟩
  ·exact .inr ⟨by have:=Cy hb;omega,Ut hb⟩
 |read s h=>
  rw[Bf (by simp),Bd,Ie (by simp)];exact Ni 23 s 0 _ (by simp) (by simp) hw fun x hx=>by cases hx
 |skip=>
  rw[Bf (by simp),Bd,Ie (by simp)];exact Ni 28 [] 0 _ (by simp) (by simp) hw fun x hx=>by cases hx
 |stop=>
  rw[Bf (by simp),Bd,Ie (by simp)];exact Ni 29 [] 0 _ (by simp) (by simp) hw fun x hx=>by cases hx
 |check c hc=>
  rw[Bf (by simp),Bd,Ie (by simp;have:=J0 hc;omega)];exact Ni 27 [] 0 _ (by simp) (by simp) hw fun x hx=>by simp at hx;subst hx;exact .inr ⟨by have:=J0 hc;omega,Sr hc⟩
 |whil c l hc hl ihl=>
  rw[Bf (by simp),Bd,Ie (by simp;have:=J0 hc;omega)];simp[wN,wL]at hw;refine Ni 25 [] 0 _ (by simp) (by simp) (by simp[wN,wL];omega) fun x hx=>?_;simp at hx;rcases hx with rfl|rfl
  ·exact .inr ⟨by have:=J0 hc;omega,Sr hc⟩
  ·exact .inl ⟨rfl,by rw[Bd];exact Yu 0 [] l (by simp[wN];omega) fun x hx=>⟨ihl x hx (by have:=P5 hx;omega),Qv (hl x hx)⟩⟩
 |ifs c l l' hc hl hl' ihl ihl'=>
  rw[Bf (by simp),Bd,Ie (by simp;have:=J0 hc;omega)];simp[wN,wL]at hw;refine Ni 24 [] 0 _ (by simp) (by simp) (by simp[wN,wL];omega) fun x hx=>?_;simp at hx;rcases hx with rfl|rfl|rfl
  ·exact .inr ⟨by have:=J0 hc;omega,Sr hc⟩
  ·exact .inl ⟨rfl,by rw[Bd];exact Yu 0 [] l (by simp[wN];omega) fun x hx=>⟨ihl x hx (by have:=P5 hx;omega),Qv (hl x hx)⟩⟩
  ·exact .inl ⟨rfl,by rw[Bd];exact Yu 0 [] l' (by simp[wN];omega) fun x hx=>⟨ihl' x hx (by have:=P5 hx;omega),Qv (hl' x hx)⟩⟩
 |for_ s a b l h ha hb hl ihl=>
  simp[wN,wL]at hw;have hB:=Ajg 0 [] l (by simp[wN];omega) fun x hx=>⟨ihl x hx (by have:=P5 hx;omega),Qv (hl x hx)⟩
  have hl1:=Mu (Br l);have hl2:=Vx l;rw[K6,Ao,Ao,Ao,A4,Bf (by have:=Cy ha;omega),Bf (by have:=Cy hb;omega),Bf (by simp),Bd,Ut ha,Ut hb];refine Pure.run func170 ?_;refine Ag ?_;refine A0 ?_;refine B4 2 (by omega) (Ay6 a b _ []) ?_;refine Ae (τ':=[0]) [] [] hB ?_;refine B4 0 (by omega) (rows:=[_]) rfl ?_;refine D8 10240 ?_;refine Ce (At7 s) ?_;refine Ce Ax4 ?_;refine Ce (Yv 6 (.mk 2 s 0 []) (.mk 1 [] 1 [])) ?_;refine Ce (Az8 s (.mk 6 [] 0 [.mk 2 s 0 [],.mk 1 [] 1 []])) ?_;refine Ch (Bu (res:=Ap (Br l++[.mk 21 s 0 [.mk 6 [] 0 [.mk 2 s 0 [],.mk 1 [] 1 []]]])) rfl rfl rfl rfl rfl rfl rfl rfl rfl rfl rfl rfl rfl rfl (Ad _) (Ew _) rfl rfl rfl ?_ ?_ rfl) ?_
  ·rw[Ad];simp;omega
  ·simp[Au]
  refine Av ?_;refine Ch (A7 rfl rfl rfl rfl rfl rfl rfl) ?_;refine B2 ?_;refine D8 0 ?_;refine Db 0 (by omega) (Wj a _) ?_;refine Ce (Adn a (by omega)) ?_;refine Ce (Az8 s a) ?_;refine Ce (At7 s) ?_;refine Db 1 (by omega) (Aeo a b _) ?_;refine Ce (Adn b (by omega)) ?_;refine Ce (Yv 11 (.mk 2 s 0 []) b) ?_;refine Ce (Yv 25 (.mk 11 [] 0 [.mk 2 s 0 [],b]) (.mk 30 [] 0 (Br l++[.mk 21 s 0 [.mk 6 [] 0 [.mk 2 s 0 [],.mk 1 [] 1 []]]]))) ?_;refine B2 ?_;refine As func170 ?_;show AV.sl _ _=AV.sl (Ap (Aem s [a,b,.mk 30 [] 0 (Br l)])) _;rw[Au (Aem s _)];rfl
theorem Yx{ds l:List Nd}(hd:∀x,x∈ds→FV x):A6 (.mk 40 [] 0 (ds++[.mk 30 [] 0 l]))=.mk 40 [] 0 (ds++[.mk 30 [] 0 (Br l)]):=by
 rw[Bd,Uu,Ao,A4,Bf (by simp),Bd];congr 2;rw[Ie fun x hx=>by have:=Abx (hd x hx);omega];have:ds.map A6=ds:=by
  conv=>rhs;rw[←List.map_id ds]
  exact List.map_congr_left fun x hx=>A16 (hd x hx)
 rw[this]
theorem Abd(n:Nd)(h:FP n)(hw:wN n≤100000000):Pure X 113 [nd n] (nd (A6 n)):=by
 cases h with
 |mk ds l hd hl=>
 rw[Yx hd];have hkl:=G7 (.mk 40 [] 0 (ds++[.mk 30 [] 0 l]));simp only[Gh,Ex,Za]at hkl;have hwl:wN (.mk 30 [] 0 l)<wN (.mk 40 [] 0 (ds++[.mk 30 [] 0 l])):=Jg (n:=.mk 40 [] 0 (ds++[.mk 30 [] 0 l])) (by simp);have hwl':wN (.mk 30 [] 0 l)=1+wL l:=by simp[wN]
 have hN:((Ap (ds++[.mk 30 [] 0 l])).length:Int)=ds.length+1:=by rw[Ad];simp
 have hwr:IntKind.i64.wrap (((Ap (ds++[.mk 30 [] 0 l])).length:Int)-1)=ds.length:=by rw[hN,Ac (by omega) (by omega)];omega
 refine Pure.run func113 ?_;refine En 2 0 3 rfl rfl rfl rfl rfl rfl ?_;refine Ar (ι:=Nat) 3 1 (fun i=>i≤ds.length) (fun i=>[(4,vi i),(1,.ptr 0 0 0),(2,.ptr 1 0 0),(3,.ptr 2 0 0)])
  (fun i=>⟨[[Af (.mk 40 [] 0 (ds++[.mk 30 [] 0 l]))],[zN],[[vi 40,str [],vi 0,.sl (Ap (ds.take i)) (.tok 0)]]],[i]⟩) (fun i=>ds.length-i) ?_ 0
  (B3 _) ⟨rfl,rfl,rfl,rfl,trivial⟩
 intro i hi IH;have htl:(Ap (ds.take i)).length=i:=by rw[Ad];simp;omega
 refine C7 (fun h=>?_) (fun h=>?_)
 ·have hlt:i<ds.length:=by have:=A5 h;rw[Gh,hwr]at this;omega
  obtain⟨x,hx⟩:=Ab ds hlt;have hx':(ds++[Nd.mk 30 [] 0 l])[i]?=some x:=by rw[Cs hlt];exact hx
  have hwx:wN x<wN (.mk 40 [] 0 (ds++[.mk 30 [] 0 l])):=Jg (n:=.mk 40 [] 0 (ds++[.mk 30 [] 0 l])) (Bh hx');refine D8 2560 ?_;refine Db i (by omega) (Am hx') ?_;refine Ce (Adn x (by omega)) ?_;refine Ch (Bu (res:=Ap (ds.take (i+1))) rfl rfl rfl rfl rfl rfl rfl rfl rfl rfl rfl rfl rfl rfl htl (Ew _) rfl rfl rfl ?_ ?_ rfl) ?_
  ·rw[htl];simp;omega
  ·simp[Au,G8,hx]
  refine Av ?_;refine Ch (A7 rfl rfl rfl rfl rfl rfl rfl) ?_;refine B2 ?_;refine IH (i+1) hlt (by omega) _ _ ⟨vsx (by omega),rfl,rfl,rfl,trivial⟩ ?_ rfl rfl;simp[St.drop,htl]
 ·have:i=ds.length:=by have:=Ba h;rw[Gh,hwr]at this;omega
  subst this;rw[I2]at htl⊢;have hlast:(Ap (ds++[Nd.mk 30 [] 0 l]))[(IntKind.i64.wrap (((Ap (ds++[.mk 30 [] 0 l])).length:Int)-1)).toNat]?=some (Af (.mk 30 [] 0 l)):=by
   rw[hwr];exact Am (by simp)
  have hB:=Yu 0 [] l (by omega) fun x hx=>⟨At8 x (hl x hx) (by have:=P5 hx;omega),Qv (hl x hx)⟩
  refine D8 81920 ?_;refine Db _ (by rw[hwr];omega) hlast ?_;refine Ce hB ?_;refine Db 0 (by omega) (Wj _ []) ?_;refine Ch (Bu (res:=Ap (ds++[.mk 30 [] 0 (Br l)])) rfl rfl rfl rfl rfl rfl rfl rfl rfl rfl rfl rfl rfl rfl htl (Ew _) rfl rfl rfl ?_ ?_ rfl) ?_
  ·rw[htl];simp;omega
  ·rw[Au (ds++_),Au ds,Kr];rfl
  refine Av ?_;refine Ch (A7 rfl rfl rfl rfl rfl rfl rfl) ?_;refine B2 ?_;refine As func113 ?_;rfl
def twG(pre:List (List UInt8)):List Nd→Option (List UInt8)
 |[]=>none
 |d::l=>if has pre d.name then some d.name else twG (pre++[d.name]) l
def Um(n:Nd):Bool:=decide (8<(Ax n 31).length)||decide (4<(Ax n 32).length)
def bigS(l:List Nd):Bool:=l.any fun d=>decide (60<d.num)
def Dt(n:Nd):Nd:=n.kids.getLastD Cg
def E4(n:Nd):Int×List UInt8:=
 if Dq n then
  (if Um n then(3,[])else if bigS n.kids.dropLast then(3,[])else
    match twG [] n.kids.dropLast with
    |some s=>(6,s)
    |none=>
     if (G2 (Ax n 31) (Ax n 32) 7 (Dt n)).2 then(7,(G2 (Ax n 31) (Ax n 32) 7 (Dt n)).1)
     else if (G2 (Ax n 31) (Ax n 32) 8 (Dt n)).2 then(8,(G2 (Ax n 31) (Ax n 32) 8 (Dt n)).1)
     else if Dq (A6 n)then(0,[])else(5,[]))
 else(4,[])
theorem Ss{n:Nd}(h:Dq n=true):FP n∧Ai n≤500∧Dh n≤24:=by
 simp only[Dq,Tf,Dd,Ke,zzq54]at h;exact⟨Azv n h.1.2.2 h.1.1,h.1.2.1.1,h.1.2.1.2⟩
theorem Aho(a b:List (List UInt8))(s:List UInt8):has (a++b) s=(has a s||has b s):=by simp[has]
abbrev gC(v a:List (List UInt8)):C5:=[(1,.ptr 0 0 0),(2,.ptr 1 0 0),(3,.sl (Dl v) .no),(4,.sl (Dl a) .no)]
theorem Ax0(n:Nd)(hn:wN n≤100000000):Pure X 97 [nd n] (.agg [vi (E4 n).1,str (E4 n).2]):=by
 refine Pure.run func97 ?_;refine Al (Aj1 n (by omega)) ?_;refine Ah (fun h1=>?_) (fun h1=>?_)
 ·have h1':Dq n=false:=by have:(!Dq n)=true:=h1;simpa using this
  refine As func97 ?_;simp only[E4];rw[if_neg (by simp[h1'])]
 have h1':Dq n=true:=by have:(!Dq n)=false:=h1;simpa using this
 obtain⟨hP,hc,hdp⟩:=Ss h1';have hkl:=G7 n;have hC:E4 n=(if Um n then(3,[])else if bigS n.kids.dropLast then(3,[])else
  match twG [] n.kids.dropLast with
  |some s=>(6,s)
  |none=>
   if (G2 (Ax n 31) (Ax n 32) 7 (Dt n)).2 then(7,(G2 (Ax n 31) (Ax n 32) 7 (Dt n)).1)
   else if (G2 (Ax n 31) (Ax n 32) 8 (Dt n)).2 then(8,(G2 (Ax n 31) (Ax n 32) 8 (Dt n)).1)
   else if Dq (A6 n)then(0,[])else(5,[]):Int×List UInt8):=by simp only[E4];rw[if_pos h1']
 have hvl:(Ax n 31).length≤1000000000:=by have:=Aae n.kids.dropLast 31;simp[Ax]at this⊢;omega
 have hal:(Ax n 32).length≤1000000000:=by have:=Aae n.kids.dropLast 32;simp[Ax]at this⊢;omega
 refine Al (Sk n 31 (by omega)) ?_;refine Al (Sk n 32 (by omega)) ?_;generalize hv:Ax n 31=v at hC hvl⊢;generalize ha:Ax n 32=a at hC hal⊢;have hvs:((Dl v).length:Int)=v.length:=by rw[F6]
 have has':((Dl a).length:Int)=a.length:=by rw[F6]
 have hM:Um n=(decide (8<v.length)||decide (4<a.length)):=by simp only[Um,hv,ha]
 have hne:n.kids≠[]:=by cases hP;simp
 have hpos:0<n.kids.length:=zzq65.2 hne;have hw:IntKind.i64.wrap (((Ap n.kids).length:Int)-1)=((n.kids.length-1:Nat):Int):=by rw[Ad,Ac (by omega) (by omega)];omega
 have hgetD:∀i,i<n.kids.length-1→∀x,n.kids[i]?=some x→n.kids.dropLast[i]?=some x:=fun i hi x hx=>by
  rw[Akw,Mb,if_pos hi];exact hx
 have hdl:n.kids.dropLast.length=n.kids.length-1:=by simp
 have h20:Um n=false→bigS n.kids.dropLast=false→twG [] n.kids.dropLast=none→AK X ⟨97,f97,0,0⟩ (Lm false 20 f97) (gC v a) ⟨[[Af n],[[vi 0,str []]]],[]⟩
  (fun e S=>e=.ret (.agg [vi (E4 n).1,str (E4 n).2])∧S=⟨[],[]⟩):=fun g1 g2 g3=>by
  rw[hC,if_neg (by simp[g1]),if_neg (by simp[g2]),g3];simp only;have hl:n.kids[n.kids.length-1]?=some (Dt n):=by
   simp only[Dt];cases hk:n.kids with
   |nil=>exact absurd hk hne
   |cons y l=>rw[Akx,List.getLast?_eq_getElem?];simp
  have hlast:(Ap n.kids)[(IntKind.i64.wrap (((Ap n.kids).length:Int)-1)).toNat]?=some (Af (Dt n)):=by
   rw[hw];exact Am (by simpa using hl)
  have hwl:wN (Dt n)≤100000000:=by
   have:=Jg (Bh hl);omega
  refine D5 ?_;refine Bi 100 rfl ?_;refine B4 _ (by rw[hw];omega) hlast ?_;refine Al (Aoq v a 7 (.inl rfl) hvl hal (Dt n) (by omega)) ?_;refine Ah (fun h2=>?_) (fun h2=>?_)
  ·have h2':(G2 v a 7 (Dt n)).2=true:=h2;rw[if_pos h2'];refine As func97 ?_;rfl
  have h2':(G2 v a 7 (Dt n)).2=false:=h2;rw[if_neg (by simp[h2'])];refine Al (Aoq v a 8 (.inr rfl) hvl hal (Dt n) (by omega)) ?_;refine Ah (fun h3=>?_) (fun h3=>?_)
  ·have h3':(G2 v a 8 (Dt n)).2=true:=h3;rw[if_pos h3'];refine As func97 ?_;rfl
  have h3':(G2 v a 8 (Dt n)).2=false:=h3;rw[if_neg (by simp[h3'])];refine Al (Abd n hP hn) ?_;refine Al (Aj1 (A6 n) (by have:=(Ps n).1;omega)) ?_;refine Ah (fun h4=>?_) (fun h4=>?_)
  ·have h4':Dq (A6 n)=false:=by have:(!Dq (A6 n))=true:=h4;simpa using this
   rw[if_neg (by simp[h4'])];refine As func97 ?_;rfl
  ·have h4':Dq (A6 n)=true:=by have:(!Dq (A6 n))=false:=h4;simpa using this
   rw[if_pos h4'];refine As func97 ?_;rfl
 have h12:Um n=false→bigS n.kids.dropLast=false→AK X ⟨97,f97,0,0⟩ (Lm false 12 f97) (gC v a) ⟨[[Af n],[[vi 0,str []]]],[]⟩
  (fun e S=>e=.ret (.agg [vi (E4 n).1,str (E4 n).2])∧S=⟨[],[]⟩):=fun g1 g2=>by
  refine D5 ?_;refine Bi 100 rfl ?_;refine Ar (ι:=Nat) 2 0 (fun i=>i≤n.kids.length-1∧twG [] n.kids.dropLast=twG ((n.kids.dropLast.take i).map Nd.name) (n.kids.dropLast.drop i)) (fun i=>(6,vi i)::gC v a) (fun _=>⟨[[Af n],[[vi 0,str []]]],[]⟩)
   (fun i=>n.kids.length-i) ?_ 0 ⟨B3 _,by simp⟩ ⟨rfl,rfl,rfl,rfl,rfl,trivial⟩
  rintro i ⟨hi,hT⟩ IH;refine Bi 100 rfl ?_;refine Ey 0 20 (fun h=>?_) (fun h=>?_)
  ·have hlt:i<n.kids.length-1:=by have:=A5 h;rw[hw]at this;omega
   obtain⟨x,hx⟩:=Ab n.kids (i:=i) (by omega);have hx':=hgetD i hlt x hx;have hd:twG ((n.kids.dropLast.take i).map Nd.name) (n.kids.dropLast.drop i)=if has ((n.kids.dropLast.take i).map Nd.name) x.name then some x.name else twG ((n.kids.dropLast.take (i+1)).map Nd.name) (n.kids.dropLast.drop (i+1)):=by
    rw[B6 hx'];simp only[twG];rw[show (n.kids.dropLast.take (i+1)).map Nd.name=(n.kids.dropLast.take i).map Nd.name++[x.name] by rw[G8,hx'];simp]
   rw[hd]at hT;refine Bi 100 rfl ?_;refine Ar (ι:=Nat) 2 0 (fun k=>k≤i∧has ((n.kids.dropLast.take k).map Nd.name) x.name=false) (fun k=>(7,vi k)::(6,vi i)::gC v a) (fun _=>⟨[[Af n],[[vi 0,str []]]],[]⟩)
    (fun k=>i-k) ?_ 0 ⟨B3 _,by simp[has]⟩ ⟨rfl,rfl,rfl,rfl,rfl,rfl,trivial⟩
   rintro k ⟨hk,hno⟩ IH2;refine C7 (fun h2=>?_) (fun h2=>?_)
   ·have hkl':k<i:=by have:=A5 h2;omega
    obtain⟨y,hy⟩:=Ab n.kids (i:=k) (by omega);have hy':=hgetD k (by omega) y hy;have hsn:has ((n.kids.dropLast.take (k+1)).map Nd.name) x.name=(y.name==x.name):=by
     rw[show (n.kids.dropLast.take (k+1)).map Nd.name=(n.kids.dropLast.take k).map Nd.name++[y.name] by rw[G8,hy'];simp,Aho,hno];simp[has]
    refine D8 0 ?_;refine Db k (by omega) (Am hy) ?_;refine Db i (by omega) (Am hx) ?_;refine B2 ?_;refine Ah (fun h3=>?_) (fun h3=>?_)
    ·have h3':(y.name==x.name)=true:=h3;have hin:has ((n.kids.dropLast.take i).map Nd.name) x.name=true:=by
      have e:n.kids.dropLast.take i=n.kids.dropLast.take (k+1)++(n.kids.dropLast.take i).drop (k+1):=by
       conv=>lhs;rw[←Aee (k+1) (n.kids.dropLast.take i)]
       rw[List.take_take,Nat.min_eq_left (by omega)]
      rw[e,Kr,Aho,hsn,h3'];rfl
     rw[if_pos hin]at hT;refine B4 i (by omega) (Am hx) ?_;refine As func97 ?_;rw[hC,if_neg (by simp[g1]),if_neg (by simp[g2]),hT]
    ·have h3':(y.name==x.name)=false:=h3;exact IH2 (k+1) ⟨hkl',by rw[hsn,h3']⟩ (by omega) _ _ ⟨vsx (by omega),rfl,rfl,rfl,rfl,rfl,trivial⟩ rfl rfl rfl
   ·have:k=i:=by have:=Ba h2;omega
    subst this;rw[if_neg (by rw[hno];simp)]at hT;exact IH (k+1) ⟨by omega,hT⟩ (by omega) _ _ ⟨vsx (by omega),rfl,rfl,rfl,rfl,trivial⟩ rfl rfl rfl
  ·have:i=n.kids.length-1:=by have:=Ba h;rw[hw]at this;omega
   rw[this,←hdl,Hz,I2]at hT;exact Bz 2 0 (h20 g1 g2 (by rw[hT];rfl)) ⟨rfl,rfl,rfl,rfl,trivial⟩ rfl rfl rfl rfl rfl
 have h7:Um n=false→AK X ⟨97,f97,0,0⟩ (Lm false 7 f97) (gC v a) ⟨[[Af n],[[vi 0,str []]]],[]⟩
  (fun e S=>e=.ret (.agg [vi (E4 n).1,str (E4 n).2])∧S=⟨[],[]⟩):=fun g1=>by
  refine D5 ?_;refine Bi 100 rfl ?_;refine Ar (ι:=Nat) 2 0 (fun i=>i≤n.kids.length-1∧bigS n.kids.dropLast=bigS (n.kids.dropLast.drop i)) (fun i=>(5,vi i)::gC v a) (fun _=>⟨[[Af n],[[vi 0,str []]]],[]⟩)
   (fun i=>n.kids.length-i) ?_ 0 ⟨B3 _,by simp⟩ ⟨rfl,rfl,rfl,rfl,rfl,trivial⟩
  rintro i ⟨hi,hT⟩ IH;refine Bi 100 rfl ?_;refine Ey 0 12 (fun h=>?_) (fun h=>?_)
  ·have hlt:i<n.kids.length-1:=by have:=A5 h;rw[hw]at this;omega
   obtain⟨x,hx⟩:=Ab n.kids (i:=i) (by omega);have hx':=hgetD i hlt x hx;have hd:bigS (n.kids.dropLast.drop i)=(decide (60<x.num)||bigS (n.kids.dropLast.drop (i+1))):=by rw[B6 hx'];rfl
   rw[hd]at hT;refine Bi 100 rfl ?_;refine B4 i (by omega) (Am hx) ?_;refine Ah (fun h2=>?_) (fun h2=>?_)
   ·have h2':decide (60<x.num)=true:=by simpa using A5 h2
    refine As func97 ?_;rw[hC,if_neg (by simp[g1]),if_pos (by rw[hT,h2'];rfl)]
   ·have h2':decide (60<x.num)=false:=by simpa using Ba h2
    exact IH (i+1) ⟨by omega,by rw[hT,h2'];rfl⟩ (by omega) _ _ ⟨vsx (by omega),rfl,rfl,rfl,rfl,trivial⟩ rfl rfl rfl
  ·have:i=n.kids.length-1:=by have:=Ba h;rw[hw]at this;omega
   rw[this,←hdl,Hz]at hT;exact Bz 2 0 (h12 g1 (by rw[hT];rfl)) ⟨rfl,rfl,rfl,rfl,trivial⟩ rfl rfl rfl rfl rfl
 refine Df (fun h2=>?_) (fun h2=>?_)
 ·have h2':decide (8<v.length)=true:=by have:=A5 h2;rw[hvs]at this;simp;omega
  refine A0 ?_;refine As func97 ?_;rw[hC,if_pos (by rw[hM,h2'];rfl)]
 ·have h2':decide (8<v.length)=false:=by have:=Ba h2;rw[hvs]at this;simp;omega
  refine Ey 0 7 (fun h3=>?_) (fun h3=>?_)
  ·have h3':decide (4<a.length)=true:=by have:=A5 h3;rw[has']at this;simp;omega
   refine Bi 100 rfl ?_;refine As func97 ?_;rw[hC,if_pos (by rw[hM,h2',h3'];rfl)]
  ·have h3':decide (4<a.length)=false:=by have:=Ba h3;rw[has']at this;simp;omega
   exact Bz 2 0 (h7 (by rw[hM,h2',h3'];rfl)) ⟨rfl,rfl,rfl,rfl,trivial⟩ rfl rfl rfl rfl rfl
def Fy(n:Nd):Bool:=(E4 n).1==0
theorem Ax7(n:Nd)(hn:wN n≤100000000):Pure X 47 [nd n] (vb (Fy n)):=by
 refine Pure.run func47 ?_;refine Al (Ax0 n hn) ?_;exact Az func47 rfl
end Go.V
namespace Go.V
open Go
section
variable {X:Cx}{S:St}{F:C5}{N:Nat}{ops:Array Oper}{i:Nat}{o:Oper}{p q:Operand}{t t':TypeId}
theorem Apl(hu:X.P.underlying t=some (.interface (X.P.methodsAt t)))(ho:ops[i]?=some o:=by rfl)(hw:A8 ops F o=some true:=by rfl)(hop:o.op=.binOp .eql t p (.const .nilIface) t':=by rfl)
 (hp:Dw X F p=some (.val .nilIface):=by rfl):Ndo X N ops i o F (.val (.bool true)) S S:=by
 refine Dj ho hw fun F' E w a hc hI hF=>?_;rw[hop]at hc;have r1:=Ak hI hF ((hc p (by simp[Op.operands])).trans hp);generalize hx:a.eval p=x at r1;cases r1;exact⟨.bool true,by simp[execOp,hop,hx,show a.eval (.const .nilIface)=.nilIface from rfl,eqGuard,run_eql_nil_nil w t hu],.val _⟩
theorem Acs(hu:X.P.underlying t=some (.interface (X.P.methodsAt t)))(ho:ops[i]?=some o:=by rfl)(hw:A8 ops F o=some true:=by rfl)(hop:o.op=.binOp .eql t p (.const .nilIface) t':=by rfl)
 (hp:Dw X F p=some .err:=by rfl):Ndo X N ops i o F (.val (.bool false)) S S:=by
 refine Dj ho hw fun F' E w a hc hI hF=>?_;rw[hop]at hc;have r1:=Ak hI hF ((hc p (by simp[Op.operands])).trans hp);generalize hx:a.eval p=x at r1;cases r1;exact⟨.bool false,by simp[execOp,hop,hx,show a.eval (.const .nilIface)=.nilIface from rfl,eqGuard,run_eql_held_nil w t _ _ hu],.val _⟩
end
end Go.V
namespace Go.Proofs
open Go.Shelf
def X3:Go.Shelf.Ren:=⟨fun|172=>365|244=>375|245=>376|247=>381|279=>382|280=>383|281=>384|282=>385|287=>390|316=>391|171=>295|205=>392|321=>395|322=>396|243=>313|246=>332|283=>355|284=>356|285=>357|286=>358|129=>370|317=>369|318=>371|319=>372|320=>373|337=>379|338=>380|n=>n,fun|9=>9|3=>3|75=>340|76=>341|4=>4|5=>5|167=>381|37=>159|0=>0|85=>382|2=>2|168=>384|53=>361|175=>390|46=>351|210=>394|127=>330|145=>400|143=>398|21=>21|171=>360|173=>364|212=>375|51=>368|20=>20|213=>376|232=>388|233=>389|80=>314|n=>n,fun|15=>6|16=>7|17=>2|18=>4|19=>5|n=>n⟩
theorem Tryz.laysC172:Go.Proofs.LaysC.n172 Tryz.prog X3:={
 mixed:=by kernel_rfl,
 f129:=Tryz.func370.trans (congrArg some (by kernel_rfl)),
 f171:=Tryz.func295.trans (congrArg some (by kernel_rfl)),
 f172:=Tryz.func365.trans (congrArg some (by kernel_rfl)),
 f205:=Tryz.func392.trans (congrArg some (by kernel_rfl)),
 f243:=Tryz.func313.trans (congrArg some (by kernel_rfl)),
 f244:=Tryz.func375.trans (congrArg some (by kernel_rfl)),
 f245:=Tryz.func376.trans (congrArg some (by kernel_rfl)),
 f246:=Tryz.func332.trans (congrArg some (by kernel_rfl)),
 f247:=Tryz.func381.trans (congrArg some (by kernel_rfl)),
 f279:=Tryz.func382.trans (congrArg some (by kernel_rfl)),
 f280:=Tryz.func383.trans (congrArg some (by kernel_rfl)),
 f281:=Tryz.func384.trans (congrArg some (by kernel_rfl)),
 f282:=Tryz.func385.trans (congrArg some (by kernel_rfl)),
 f283:=Tryz.func355.trans (congrArg some (by kernel_rfl)),
 f284:=Tryz.func356.trans (congrArg some (by kernel_rfl)),
 f285:=Tryz.func357.trans (congrArg some (by kernel_rfl)),
 f286:=Tryz.func358.trans (congrArg some (by kernel_rfl)),
 f287:=Tryz.func390.trans (congrArg some (by kernel_rfl)),
 f316:=Tryz.func391.trans (congrArg some (by kernel_rfl)),
 f317:=Tryz.func369.trans (congrArg some (by kernel_rfl)),
 f318:=Tryz.func371.trans (congrArg some (by kernel_rfl)),
 f319:=Tryz.func372.trans (congrArg some (by kernel_rfl)),
 f320:=Tryz.func373.trans (congrArg some (by kernel_rfl)),
 f321:=Tryz.func395.trans (congrArg some (by kernel_rfl)),
 f322:=Tryz.func396.trans (congrArg some (by kernel_rfl)),
 f337:=Tryz.func379.trans (congrArg some (by kernel_rfl)),
 f338:=Tryz.func380.trans (congrArg some (by kernel_rfl)),
 t0:=Tryz.underlying0,
 a0:=Tryz.isAgg0,
 z0:=Tryz.sizeOf0,
 v0:=Tryz.zeroValue0,
 t2:=Tryz.underlying2,
 a2:=Tryz.isAgg2,
 z2:=Tryz.sizeOf2,
 v2:=Tryz.zeroValue2,
 t3:=Tryz.underlying3,
 a3:=Tryz.isAgg3,
 z3:=Tryz.sizeOf3,
 v3:=Tryz.zeroValue3,
 t4:=Tryz.underlying4,
 a4:=Tryz.isAgg4,
 z4:=Tryz.sizeOf4,
 v4:=Tryz.zeroValue4,
 t5:=Tryz.underlying5,
 a5:=Tryz.isAgg5,
 z5:=Tryz.sizeOf5,
 v5:=Tryz.zeroValue5,
 t9:=Tryz.underlying9,
 a9:=Tryz.isAgg9,
 z9:=Tryz.sizeOf9,
 v9:=Tryz.zeroValue9,
 t20:=Tryz.underlying20,
 a20:=Tryz.isAgg20,
 z20:=Tryz.sizeOf20,
 v20:=Tryz.zeroValue20,
 t21:=Tryz.underlying21,
 a21:=Tryz.isAgg21,
 z21:=Tryz.sizeOf21,
 v21:=Tryz.zeroValue21,
 t37:=Tryz.underlying159,
 a37:=Tryz.isAgg159,
 z37:=Tryz.sizeOf159,
 v37:=Tryz.zeroValue159,
 t46:=Tryz.underlying351,
 a46:=Tryz.isAgg351,
 z46:=Tryz.sizeOf351,
 v46:=Tryz.zeroValue351,
 t51:=Tryz.underlying368,
 a51:=Tryz.isAgg368,
 z51:=Tryz.sizeOf368,
 v51:=Tryz.zeroValue368,
 t53:=Tryz.underlying361,
 a53:=Tryz.isAgg361,
 z53:=Tryz.sizeOf361,
 v53:=Tryz.zeroValue361,
 t75:=Tryz.underlying340,
 a75:=Tryz.isAgg340,
 z75:=Tryz.sizeOf340,
 v75:=Tryz.zeroValue340,
 t76:=Tryz.underlying341,
 a76:=Tryz.isAgg341,
 z76:=Tryz.sizeOf341,
 v76:=Tryz.zeroValue341,
 t85:=Tryz.underlying382,
 a85:=Tryz.isAgg382,
 z85:=Tryz.sizeOf382,
 v85:=Tryz.zeroValue382,
 t127:=Tryz.underlying330,
 a127:=Tryz.isAgg330,
 z127:=Tryz.sizeOf330,
 v127:=Tryz.zeroValue330,
 t143:=Tryz.underlying398,
 a143:=Tryz.isAgg398,
 z143:=Tryz.sizeOf398,
 v143:=Tryz.zeroValue398,
 t145:=Tryz.underlying400,
 a145:=Tryz.isAgg400,
 z145:=Tryz.sizeOf400,
 v145:=Tryz.zeroValue400,
 t167:=Tryz.underlying381,
 a167:=Tryz.isAgg381,
 z167:=Tryz.sizeOf381,
 v167:=Tryz.zeroValue381,
 t168:=Tryz.underlying384,
 a168:=Tryz.isAgg384,
 z168:=Tryz.sizeOf384,
 v168:=Tryz.zeroValue384,
 t171:=Tryz.underlying360,
 a171:=Tryz.isAgg360,
 z171:=Tryz.sizeOf360,
 v171:=Tryz.zeroValue360,
 t173:=Tryz.underlying364,
 a173:=Tryz.isAgg364,
 z173:=Tryz.sizeOf364,
 v173:=Tryz.zeroValue364,
 t175:=Tryz.underlying390,
 a175:=Tryz.isAgg390,
 z175:=Tryz.sizeOf390,
 v175:=Tryz.zeroValue390,
 t210:=Tryz.underlying394,
 a210:=Tryz.isAgg394,
 z210:=Tryz.sizeOf394,
 v210:=Tryz.zeroValue394,
 t212:=Tryz.underlying375,
 a212:=Tryz.isAgg375,
 z212:=Tryz.sizeOf375,
 v212:=Tryz.zeroValue375,
 t213:=Tryz.underlying376,
 a213:=Tryz.isAgg376,
 z213:=Tryz.sizeOf376,
 t232:=Tryz.underlying388,
 a232:=Tryz.isAgg388,
 z232:=Tryz.sizeOf388,
 v232:=Tryz.zeroValue388,
 t233:=Tryz.underlying389,
 a233:=Tryz.isAgg389,
 z233:=Tryz.sizeOf389,
 v233:=Tryz.zeroValue389,
 g15:=by kernel_rfl,
 g16:=by kernel_rfl,
 g17:=by kernel_rfl,
 g18:=by kernel_rfl,
 g19:=by kernel_rfl,
 t80:=Tryz.underlying314,
 a80:=Tryz.isAgg314,
 z80:=Tryz.sizeOf314,
 v80:=Tryz.zeroValue314,
 i0:=by kernel_rfl,
 i2:=by kernel_rfl,
 i3:=by kernel_rfl,
 i4:=by kernel_rfl,
 i5:=by kernel_rfl,
 i9:=by kernel_rfl,
 i20:=by kernel_rfl,
 i21:=by kernel_rfl,
 i37:=by kernel_rfl,
 i46:=by kernel_rfl,
 i51:=by kernel_rfl,
 i53:=by kernel_rfl,
 i75:=by kernel_rfl,
 i76:=by kernel_rfl,
 i80:=by kernel_rfl,
 i85:=by kernel_rfl,
 i127:=by kernel_rfl,
 i143:=by kernel_rfl,
 i145:=by kernel_rfl,
 i167:=by kernel_rfl,
 i168:=by kernel_rfl,
 i171:=by kernel_rfl,
 i173:=by kernel_rfl,
 i175:=by kernel_rfl,
 i210:=by kernel_rfl,
 i212:=by kernel_rfl,
 i232:=by kernel_rfl,
 i233:=by kernel_rfl,
 m15:=by kernel_rfl,
 m16:=by kernel_rfl,
 m17:=by kernel_rfl,
 m18:=by kernel_rfl,
 m19:=by kernel_rfl,
 c0:=by kernel_rfl,
 c2:=by kernel_rfl,
 c3:=by kernel_rfl,
 c4:=by kernel_rfl,
 c5:=by kernel_rfl,
 c9:=by kernel_rfl,
 c20:=by kernel_rfl,
 c21:=by kernel_rfl,
 c37:=by kernel_rfl,
 c46:=by kernel_rfl,
 c51:=by kernel_rfl,
 c53:=by kernel_rfl,
 c75:=by kernel_rfl,
 c76:=by kernel_rfl,
 c80:=by kernel_rfl,
 c85:=by kernel_rfl,
 c127:=by kernel_rfl,
 c143:=by kernel_rfl,
 c145:=by kernel_rfl,
 c167:=by kernel_rfl,
 c168:=by kernel_rfl,
 c171:=by kernel_rfl,
 c173:=by kernel_rfl,
 c175:=by kernel_rfl,
 c210:=by kernel_rfl,
 c212:=by kernel_rfl,
 c213:=by kernel_rfl,
 c232:=by kernel_rfl,
 c233:=by kernel_rfl }
def X4:Go.Shelf.Ren:=⟨fun|171=>295|243=>313|246=>332|283=>355|284=>356|285=>357|286=>358|129=>370|317=>369|318=>371|319=>372|320=>373|337=>379|338=>380|n=>n,fun|3=>3|9=>9|2=>2|4=>4|171=>360|0=>0|53=>361|37=>159|5=>5|173=>364|212=>375|51=>368|20=>20|213=>376|46=>351|232=>388|233=>389|n=>n,fun|17=>2|18=>4|19=>5|n=>n⟩
theorem Tryz.laysM171:Go.Proofs.LaysM.n171 Tryz.prog X4:={
 mixed:=by kernel_rfl,
 f129:=Tryz.func370.trans (congrArg some (by kernel_rfl)),
 f171:=Tryz.func295.trans (congrArg some (by kernel_rfl)),
 f243:=Tryz.func313.trans (congrArg some (by kernel_rfl)),
 f246:=Tryz.func332.trans (congrArg some (by kernel_rfl)),
 f283:=Tryz.func355.trans (congrArg some (by kernel_rfl)),
 f284:=Tryz.func356.trans (congrArg some (by kernel_rfl)),
 f285:=Tryz.func357.trans (congrArg some (by kernel_rfl)),
 f286:=Tryz.func358.trans (congrArg some (by kernel_rfl)),
 f317:=Tryz.func369.trans (congrArg some (by kernel_rfl)),
 f318:=Tryz.func371.trans (congrArg some (by kernel_rfl)),
 f319:=Tryz.func372.trans (congrArg some (by kernel_rfl)),
 f320:=Tryz.func373.trans (congrArg some (by kernel_rfl)),
 f337:=Tryz.func379.trans (congrArg some (by kernel_rfl)),
 f338:=Tryz.func380.trans (congrArg some (by kernel_rfl)),
 t0:=Tryz.underlying0,
 a0:=Tryz.isAgg0,
 z0:=Tryz.sizeOf0,
 v0:=Tryz.zeroValue0,
 t2:=Tryz.underlying2,
 a2:=Tryz.isAgg2,
 z2:=Tryz.sizeOf2,
 v2:=Tryz.zeroValue2,
 t3:=Tryz.underlying3,
 a3:=Tryz.isAgg3,
 z3:=Tryz.sizeOf3,
 v3:=Tryz.zeroValue3,
 t4:=Tryz.underlying4,
 a4:=Tryz.isAgg4,
 z4:=Tryz.sizeOf4,
 v4:=Tryz.zeroValue4,
 t5:=Tryz.underlying5,
 a5:=Tryz.isAgg5,
 z5:=Tryz.sizeOf5,
 v5:=Tryz.zeroValue5,
 t9:=Tryz.underlying9,
 a9:=Tryz.isAgg9,
 z9:=Tryz.sizeOf9,
 v9:=Tryz.zeroValue9,
 t20:=Tryz.underlying20,
 a20:=Tryz.isAgg20,
 z20:=Tryz.sizeOf20,
 v20:=Tryz.zeroValue20,
 t37:=Tryz.underlying159,
 a37:=Tryz.isAgg159,
 z37:=Tryz.sizeOf159,
 v37:=Tryz.zeroValue159,
 t46:=Tryz.underlying351,
 a46:=Tryz.isAgg351,
 z46:=Tryz.sizeOf351,
 v46:=Tryz.zeroValue351,
 t51:=Tryz.underlying368,
 a51:=Tryz.isAgg368,
 z51:=Tryz.sizeOf368,
 v51:=Tryz.zeroValue368,
 t53:=Tryz.underlying361,
 a53:=Tryz.isAgg361,
 z53:=Tryz.sizeOf361,
 v53:=Tryz.zeroValue361,
 t171:=Tryz.underlying360,
 a171:=Tryz.isAgg360,
 z171:=Tryz.sizeOf360,
 v171:=Tryz.zeroValue360,
 t173:=Tryz.underlying364,
 a173:=Tryz.isAgg364,
 z173:=Tryz.sizeOf364,
 v173:=Tryz.zeroValue364,
 t212:=Tryz.underlying375,
 a212:=Tryz.isAgg375,
 z212:=Tryz.sizeOf375,
 v212:=Tryz.zeroValue375,
 t213:=Tryz.underlying376,
 a213:=Tryz.isAgg376,
 z213:=Tryz.sizeOf376,
 t232:=Tryz.underlying388,
 a232:=Tryz.isAgg388,
 z232:=Tryz.sizeOf388,
 v232:=Tryz.zeroValue388,
 t233:=Tryz.underlying389,
 a233:=Tryz.isAgg389,
 z233:=Tryz.sizeOf389,
 v233:=Tryz.zeroValue389,
 g17:=by kernel_rfl,
 g18:=by kernel_rfl,
 g19:=by kernel_rfl,
 i0:=by kernel_rfl,
 i2:=by kernel_rfl,
 i3:=by kernel_rfl,
 i4:=by kernel_rfl,
 i5:=by kernel_rfl,
 i9:=by kernel_rfl,
 i20:=by kernel_rfl,
 i37:=by kernel_rfl,
 i46:=by kernel_rfl,
 i51:=by kernel_rfl,
 i53:=by kernel_rfl,
 i171:=by kernel_rfl,
 i173:=by kernel_rfl,
 i212:=by kernel_rfl,
 i232:=by kernel_rfl,
 i233:=by kernel_rfl,
 m17:=by kernel_rfl,
 m18:=by kernel_rfl,
 m19:=by kernel_rfl }
end Go.Proofs
namespace Go.V
open Go Go.Proofs Go.Proofs.Tryz
theorem Amf(n:Int)(h0:-9223372036854775808≤n)(h1:n≤9223372036854775807):Pure X 295 [vi n] (str (Lib.itoa n)):=by
 refine Wm (vs:=[.int .i64 n]) ⟨_,func295,by kernel_rfl,by rfl⟩ rfl fun w hw=>?_;obtain⟨e,z,ht⟩:=hw.tab;have hg:(X.P.globalNamed "internal/strconv.uint64pow10")=some 2:=by kernel_rfl
 have htab:Lib.TabIs X.P w "internal/strconv.uint64pow10" .u64 Lib.pow10Tab:=by
  unfold Lib.TabIs World.var?;rw[hg];simp[ht]
 have h:=Any.strconv_Itoa laysM171 n h0 h1 w htab;refine h.mono fun e w' he=>?_;obtain⟨rfl,k,os,rfl⟩:=he;refine⟨⟨_,rfl,fun E w=>.val _⟩,rfl,rfl,rfl,?_,fun j hj=>?_⟩
 ·simp[Sort.grow,World.drewN]
 ·simp only[Sort.grow,World.drewN];rw[Zb hj]
def Ou(s:List UInt8):Int:=match Lib.atoiAll s with
 |.ok v=>v
 |.range=>Lib.atoiSat s
 |_=>0
def Acx(s:List UInt8):AV:=match Lib.atoiAll s with
 |.ok _=>.val .nilIface
 |_=>.err
theorem A11(s:List UInt8)(hs:s.length≤1000000000):Pure X 365 [str s] (.tup [vi (Ou s),Acx s]):=by
 refine Wm (vs:=[.string ⟨⟨s⟩⟩]) ⟨_,func365,by kernel_rfl,by rfl⟩ rfl fun w hw=>?_;have hsz:(⟨⟨s⟩⟩:ByteArray).size=s.length:=rfl;have tup:∀(a b:Value) (x:AV),(∀E w,Rel E w b x)→∀E w,Rel E w (.tuple #[a,b]) (.tup [.val a,x]):=fun a b x h E w=>by
  refine .tup _ _ rfl fun j v y hv hy=>?_
  match j with
  |0=>simp at hv hy;subst hv;subst hy;exact .val _
  |1=>simp at hv hy;subst hv;subst hy;exact h E w
  |j+2=>simp at hy
 cases h:Lib.atoiAll s with
 |ok v=>
  have hc:=Any.strconv_Atoi_ok laysC172 ⟨⟨s⟩⟩ (by rw[hsz];omega) v h w;refine hc.mono fun e w' he=>?_;obtain⟨rfl,hw'⟩:=he;refine⟨⟨_,rfl,?_⟩,?_⟩
  ·simp only[Ou,Acx,h];exact tup _ _ _ fun E w=>.val _
  ·rcases hw' with rfl|⟨t,rfl⟩
   ·exact RowKit.Below.refl _ _
   ·exact Lib.bytesWorld_below _ _ _
 |range=>
  obtain⟨ev,h1,h2⟩:=hw.rng;have hc:=Any.strconv_Atoi_range laysC172 ⟨⟨s⟩⟩ (by rw[hsz];omega) h ev w h1 h2;refine hc.mono fun e w' he=>?_;obtain⟨N,rfl,_,_,hb⟩:=he;refine⟨⟨_,rfl,?_⟩,hb⟩;simp only[Ou,Acx,h];exact tup _ _ _ fun E w=>.err _ _
 |_=>
  obtain⟨ev,h1,h2⟩:=hw.syn;have hc:=Any.strconv_Atoi_syntax laysC172 ⟨⟨s⟩⟩ (by rw[hsz];omega) h ev w h1 h2;refine hc.mono fun e w' he=>?_;obtain⟨N,rfl,_,_,hb⟩:=he;refine⟨⟨_,rfl,?_⟩,hb⟩;simp only[Ou,Acx,h];exact tup _ _ _ fun E w=>.err _ _
def T8(l:List UInt8):Bool:=l.all digit
def O8(n:Nat)(l:List UInt8):Nat:=l.foldl (fun a c=>10*a+(c.toNat-48)) n
theorem Azr(l:List UInt8):∀n,n≤O8 n l:=by
 induction l with
 |nil=>intro n;simp[O8]
 |cons c l ih=>intro n;have:=ih (10*n+(c.toNat-48));simp only[O8,Aea]at this⊢;omega
theorem Lb{c:UInt8}(h:digit c=true):48≤c.toNat∧c.toNat≤57:=by have:=Aa3 h;omega
theorem Aah:∀(l:List UInt8)(n:Nat),Qt n l=if T8 l then(if O8 n l>1000000 then -1 else(O8 n l:Int))else -1
 |[],n=>by
  have e:Qt n []=if (n:Int)>1000000 then -1 else(n:Int):=rfl;have e2:O8 n []=n:=rfl;have e3:T8 []=true:=rfl;rw[e,e2,e3,if_pos rfl];by_cases h:n>1000000
  ·rw[if_pos h,if_pos (by omega)]
  ·rw[if_neg h,if_neg (by omega)]
 |c::l,n=>by
  simp only[Qt];by_cases hc:digit c=true
  ·rw[if_pos hc];have hd:=Lb hc;have:=Aah l (10*n+(c.toNat-48));rw[show (10*(n:Int)+c.toNat-48)=((10*n+(c.toNat-48):Nat):Int) by omega,this];simp only[T8,P0,hc,Re,O8,Aea];rfl
  ·rw[if_neg hc];have hc':digit c=false:=by simpa using hc
   simp[T8,hc']
theorem Agg(l:List UInt8)(c:UInt8)(n:Nat):O8 n (l++[c])=10*O8 n l+(c.toNat-48):=by simp[O8]
theorem T9(n:Nat):T8 (Md n)=true:=by
 induction n using Nat.strongRecOn with
 |ind n ih=>
  unfold Md;have hd:∀k,k<10→digit (UInt8.ofNat (48+k))=true:=fun k hk=>by
   have:k=0∨k=1∨k=2∨k=3∨k=4∨k=5∨k=6∨k=7∨k=8∨k=9:=by omega
   rcases this with rfl|rfl|rfl|rfl|rfl|rfl|rfl|rfl|rfl|rfl<;>decide
  split
  ·rename_i h;have:=hd n h;simp only[T8,P0,List.all_nil,Bool.and_true];exact this
  ·have:=ih (n/10) (by omega);simp only[T8,List.all_append,P0,List.all_nil,Bool.and_true]at this⊢;rw[this,hd _ (by omega)];rfl
theorem T7(k:Nat)(hk:k<10):(UInt8.ofNat (48+k)).toNat=48+k:=by
 simp;omega
theorem Akq(n:Nat):O8 0 (Md n)=n:=by
 induction n using Nat.strongRecOn with
 |ind n ih=>
  unfold Md;split
  ·rename_i h;simp only[O8,Aea,List.foldl_nil];rw[T7 n h];omega
  ·rw[Agg,ih (n/10) (by omega),T7 _ (by omega)];omega
theorem Ans:∀(q:Nat)(l:List UInt8),l.length=q+1→T8 l=true→(l.length=1∨l.head?≠some 48)→Md (O8 0 l)=l
 |0,l,hl,hd,_=>by
  match l,hl with
  |[c],_=>
   have hc:digit c=true:=by simpa[T8]using hd
   have:=Lb hc;simp only[O8,Aea,List.foldl_nil];unfold Md;rw[if_pos (by omega)];congr 1;apply UInt8.toNat_inj.1;rw[T7 _ (by omega)];omega
 |q+1,l,hl,hd,h0=>by
  have hne:l≠[]:=by rintro rfl;simp at hl
  obtain⟨l',c,rfl⟩:∃l' c,l=l'++[c]:=⟨l.dropLast,l.getLast hne,(List.dropLast_concat_getLast hne).symm⟩
  simp at hl;have hl':l'.length=q+1:=by omega
  simp only[T8,List.all_append,Dd,P0,List.all_nil,Bool.and_true]at hd;have hc:=Lb hd.2;have hhead:l'.head?≠some 48:=by
   rcases h0 with h|h
   ·rw[Ex,hl']at h;simp at h
   ·cases l' with
    |nil=>simp at hl'
    |cons y l'=>simpa using h
  have ih:=Ans q l' hl' hd.1 (.inr hhead);have hpos:1≤O8 0 l':=by
   cases l' with
   |nil=>simp at hl'
   |cons y l'=>
    simp only[T8,P0,Dd]at hd;have hy:=Lb hd.1.1;have:y.toNat≠48:=fun h=>hhead (by simp;exact UInt8.toNat_inj.1 h);have:=Azr l' (10*0+(y.toNat-48));simp only[O8,Aea]at this⊢;omega
  rw[Agg];unfold Md;rw[if_neg (by omega),show (10*O8 0 l'+(c.toNat-48))/10=O8 0 l' by omega,ih,show (10*O8 0 l'+(c.toNat-48))%10=c.toNat-48 by omega];congr 2;apply UInt8.toNat_inj.1;rw[T7 _ (by omega)];omega
theorem Ag7(n:Nat):Lib.decDigits n=Md n:=by
 induction n using Nat.strongRecOn with
 |ind n ih=>
  unfold Md;rw[Lib.decDigits];split
  ·rfl
  ·rw[ih (n/10) (by omega)]
theorem Pr(s:List UInt8):0≤Dp s↔∃n:Nat,n≤1000000∧s=Md n∧Dp s=n:=by
 constructor
 ·intro h;cases s with
  |nil=>simp[Dp]at h
  |cons c l=>
   simp only[Dp]at h⊢;split at h
   ·omega
   ·rename_i h1;split at h
    ·omega
    ·rename_i h2;rw[if_neg h1,if_neg h2];have hv:=Aah (c::l) 0;simp only[Int.ofNat_zero]at hv;rw[hv]at h⊢;split at h
     ·rename_i hd;rw[if_pos hd];split at h
      ·omega
      ·rename_i hle;rw[if_neg hle];refine⟨O8 0 (c::l),by omega,?_,rfl⟩;refine(Ans l.length (c::l) (by simp) hd ?_).symm;simp only[Dd,Ke,zzq54,not_and]at h2;by_cases hl:l.length>0
       ·right;simp;exact h2 hl
       ·have:l=[]:=List.eq_nil_of_length_eq_zero (by omega);subst this;left;rfl
     ·omega
 ·rintro⟨n,_,_,h⟩;omega
theorem Asw(n:Nat)(h:10≤n):(Md n).head?≠some 48:=by
 induction n using Nat.strongRecOn with
 |ind n ih=>
  unfold Md;rw[if_neg (by omega)];have hne:Md (n/10)≠[]:=by unfold Md;split<;>simp
  have ih':(Md (n/10)).head?≠some 48:=by
   by_cases h2:10≤n/10
   ·exact ih (n/10) (by omega) h2
   ·unfold Md;rw[if_pos (by omega)];intro h;have:=congrArg UInt8.toNat (Option.some.inj h)
    rw[T7 _ (by omega)]at this;simp at this;omega
  cases hq:Md (n/10)with
  |nil=>exact absurd hq hne
  |cons y l=>rw[hq]at ih';simpa using ih'
theorem Ag8(n:Nat):1≤(Md n).length:=by
 unfold Md;split<;>simp
theorem Pq(n:Nat)(h:n≤1000000):Dp (Md n)=n:=by
 have hl:=Vm n h;have hp:=Ag8 n;have hv:=Aah (Md n) 0;rw[T9,if_pos rfl,Akq,if_neg (by omega)]at hv;cases hs:Md n with
 |nil=>rw[hs]at hp;simp at hp
 |cons c l=>
  rw[hs]at hl hv;simp at hl;simp only[Dp];rw[if_neg (by omega)];have:¬((decide (l.length>0)&&c==48)=true):=by
   simp only[Dd,Ke,zzq54,not_and];intro h1 h2;have h10:10≤n:=by
    rcases Gs n 10 with h'|h'
    ·unfold Md at hs;rw[if_pos h']at hs;simp at hs;rw[hs.2]at h1;simp at h1
    ·exact h'
   have:=Asw n h10;rw[hs]at this;simp at this;exact this h2
  rw[if_neg this];exact hv
theorem Aa0:∀(l:List UInt8)(n:Nat),T8 l=true→Lib.decFrom n l=some (O8 n l)
 |[],n,_=>by simp[Lib.decFrom,O8]
 |c::l,n,h=>by
  simp only[T8,P0,Dd]at h;have hc:=Lb h.1;have hd:Lib.digitVal c=some (c.toNat-48):=by unfold Lib.digitVal;rw[if_pos (by omega)]
  simp only[Lib.decFrom,hd];rw[Aa0 l _ h.2];simp only[O8,Aea];rw[Nat.mul_comm]
theorem Asm(n:Nat)(h:n≤1000000):Lib.atoiAll (Md n)=.ok (n:Int):=by
 have hl:=Vm n h;have hp:=Ag8 n;have hd:=T9 n;have hv:=Akq n;rw[Lib.atoiAll_short _ (by omega)];cases hs:Md n with
 |nil=>rw[hs]at hp;simp at hp
 |cons c l=>
  rw[hs]at hd hv;have hc:digit c=true:=by simp only[T8,P0,Dd]at hd;exact hd.1
  have hr:=Lb hc;have h45:(c==45)=false:=by rw[beq_eq_false_iff_ne];rintro rfl;simp at hr
  have h43:(c==43)=false:=by rw[beq_eq_false_iff_ne];rintro rfl;simp at hr
  simp only[Lib.atoi,h45,h43,Lib.decNat,Aa0 _ 0 hd,hv];rfl
def Qw(s:List UInt8):Bool:=match Lib.atoiAll s with
 |.ok v=>Lib.itoa v==s
 |_=>false
theorem Af0{s:List UInt8}{n:Nat}(h:n≤1000000)(hs:s=Md n):Qw s=true∧Ou s=n:=by
 subst hs;simp only[Qw,Ou,Asm n h];have:Lib.itoa (n:Int)=Md n:=by unfold Lib.itoa;rw[if_neg (by omega),Hl,Ag7]
 simp[this]
theorem Aq4(c:UInt8)(l:List UInt8)(hc:digit c=true):(Qw (c::l)&&decide (Ou (c::l)≤1000000))=decide (0≤Dp (c::l)):=by
 rw[Bool.eq_iff_iff];simp only[Dd,Ke];rw[Pr];constructor
 ·rintro⟨h1,h2⟩;cases h:Lib.atoiAll (c::l)with
  |ok v=>
   simp only[Qw,Ou,h,zzq54]at h1 h2;have h1:=h1.symm;have hv:¬v<0:=fun hv=>by
    unfold Lib.itoa at h1;rw[if_pos hv]at h1;simp at h1;have:=Lb hc;rw[h1.1]at this;simp at this
   obtain⟨n,rfl⟩:∃n:Nat,v=n:=⟨v.toNat,by omega⟩
   unfold Lib.itoa at h1;rw[if_neg hv,Hl,Ag7]at h1;exact⟨n,by omega,h1,by rw[h1];exact Pq n (by omega)⟩
  |range=>simp[Qw,h]at h1
  |_=>simp[Qw,h]at h1
 ·rintro⟨n,hn,hs,_⟩;obtain⟨a,b⟩:=Af0 hn hs;exact⟨a,by rw[b];omega⟩
theorem Afy(s:List UInt8)(hs:s.length≤1000000000):Pure X 343 [str s] (.tup [vi (Ou s),vb (Qw s)]):=by
 have hu:X.P.underlying 340=some (.interface (X.P.methodsAt 340)):=by kernel_rfl
 have ha:=A11 s hs;refine Pure.run func343 ?_;cases h:Lib.atoiAll s with
 |ok v=>
  simp only[Ou,Acx,Qw,h]at ha⊢;obtain⟨b0,b1⟩:=Lib.atoiAll_bounds h;refine Al ha ?_;refine Bn (Apl hu) ?_;refine Hh ?_;refine Al (Amf v (by omega) (by omega)) ?_;exact Az func343 rfl
 |range=>
  simp only[Ou,Acx,Qw,h]at ha⊢;refine Al ha ?_;refine Bn (Acs hu) ?_;refine Ii ?_;exact Az func343 rfl
 |_=>
  simp only[Ou,Acx,Qw,h]at ha⊢;refine Al ha ?_;refine Bn (Acs hu) ?_;refine Ii ?_;exact Az func343 rfl
theorem Aj9(s:List UInt8)(c:UInt8):Pure X 386 [str s,vc c] (vi (Lib.indexByte s c)):=by
 have hr:∀w,(callFunc 393 ⟨[.string ⟨⟨s⟩⟩,.int .u8 c.toNat]⟩).run X.P w=.ok (.value (.int .i64 (Lib.indexByte s c))) w:=fun w=>by
  refine(run_callFunc_extern func393 (by kernel_rfl) (by kernel_rfl) (by kernel_rfl) (e:=Extern.BytealgIndexByte.indexByte) (by kernel_rfl) _ w).trans ?_;have:=Lib.run_indexByteString (P:=prog) ⟨⟨s⟩⟩ (c.toNat:Int) w;have e:((c.toNat:Int)).toNat.toUInt8=c:=by simp
  rw[e]at this;rw[show (⟨[.string ⟨⟨s⟩⟩,.int .u8 c.toNat]⟩:Array Value)=#[.string ⟨⟨s⟩⟩,.int .u8 c.toNat]from rfl,this];rfl
 refine Pure.run func386 ?_;refine Bn (Alb hr) ?_;exact Az func386 rfl
theorem Aq2(s:List UInt8)(c:UInt8):Pure X 377 [str s,str [c]] (vi (Lib.indexByte s c)):=by
 refine Pure.run func377 ?_;refine Ii ?_;refine Ah (fun h=>?_) (fun h=>?_)
 ·have h':([c]==s)=true:=h;have:s=[c]:=by rw[zzq54]at h';exact h'.symm
  subst this;refine Az func377 ?_;simp[Lib.indexByte,C8]
 ·refine A0 ?_;refine Jh 0 (by omega) (b:=c) rfl ?_;refine Al (Aj9 s c) ?_;exact Az func377 rfl
theorem Aum(s:List UInt8)(c:UInt8):Pure X 366 [str s,str [c]] (vi (Lib.indexByte s c)):=by
 refine Pure.run func366 ?_;refine Al (Aq2 s c) ?_;exact Az func366 rfl
theorem Aj7(s:List UInt8)(c:UInt8):Pure X 345 [str s,str [c]] (vb (decide (Lib.indexByte s c≥0))):=by
 refine Pure.run func345 ?_;refine Al (Aum s c) ?_;exact Az func345 rfl
def oneSigns:List UInt8:=[43,45,42,40,41,91,93,123,125,59,61,60,62,63]
def Kq:List (List UInt8):=[[61,61],[33,61],[60,61],[62,61]]
theorem Wn(l:List UInt8)(c:UInt8):decide (Lib.indexByte l c≥0)=l.contains c:=by
 induction l with
 |nil=>rfl
 |cons b l ih=>
  unfold Lib.indexByte;by_cases h:b=c
  ·subst h;simp
  ·have h':(b==c)=false:=by simpa using h
   have h2:(c==b)=false:=by simpa using Ne.symm h
   rw[h'];simp only[Bool.false_eq_true,if_false,List.contains_cons,h2,Bool.false_or,←ih];have:=Lib.indexByte_ge l c;split
   ·rename_i h3;have:Lib.indexByte l c=-1:=by simpa using h3
    rw[this]
   ·rename_i h3;have:Lib.indexByte l c≠-1:=by simpa using h3
    by_cases h4:Lib.indexByte l c≥0
    ·simp[h4];omega
    ·omega
theorem Add(c:UInt8)(l:List UInt8)(h1:Em c=false)(h2:digit c=false):Di (c::l)=if has Kq (c::l)||(l.isEmpty&&oneSigns.contains c)then 3 else 0:=by
 have k1:has Ui (c::l)=false:=by
  simp only[has,Ui,Ze,List.any_nil,Vf,Pe,beq_eq_false_iff_ne];refine⟨?_,?_,?_,?_,?_,?_,?_,?_,?_,?_,?_,?_,?_⟩<;>(intro h;injection h with h _;subst h;revert h1;decide)
 have k2:nameS (c::l)=false:=by simp[nameS,h1]
 have k3:¬Dp (c::l)≥0:=by
  intro h;obtain⟨n,_,hs,_⟩:=(Pr _).1 h;have:=T9 n;rw[←hs]at this;simp only[T8,P0,h2,Bool.false_and]at this;cases this
 simp only[Di,k1,k2];rw[if_neg (by simp),if_neg (by simp),if_neg k3];have:has Kc (c::l)=(has Kq (c::l)||(l.isEmpty&&oneSigns.contains c)):=by
  cases l with
  |nil=>
   simp only[has,Kc,Kq,oneSigns,Ze,List.any_nil,List.contains_cons,List.contains_nil,List.isEmpty_nil,Re,Vf];have e:∀a:UInt8,(a==c)=(c==a):=fun a=>by rw[Bool.eq_iff_iff,zzq54,zzq54];exact eq_comm
   simp[e,Bool.or_assoc]
  |cons d l=>
   simp only[has,Kc,Kq,Ze,List.any_nil,List.isEmpty_cons,Bool.false_and,Vf];simp
 rw[this]
theorem Akb(s:List UInt8)(hs:s.length≤1000000000):Pure X 320 [str s] (vi (Di s)):=by
 cases s with
 |nil=>
  refine Pure.run func320 ?_;refine A0 ?_;refine Az func320 ?_;rfl
 |cons c l=>
  simp only[Nn]at hs;have hsz:((⟨⟨c::l⟩⟩:ByteArray).size:Int)=l.length+1:=M9 c l;refine Pure.run func320 ?_;refine Ag ?_;refine Al (Ayn (c::l)) ?_;refine Ah (fun h1=>?_) (fun h1=>?_)
  ·have h1':has Ui (c::l)=true:=h1;refine Az func320 ?_;simp[Di,h1',C8]
  have h1':has Ui (c::l)=false:=h1;refine Jh 0 (by omega) (b:=c) rfl ?_;refine Al (Adt c) ?_;refine Ah (fun h2=>?_) (fun h2=>?_)
  ·have h2':Em c=true:=h2;have hk:Di (c::l)=if Q9 (c::l)&&decide (l.length<8)then 1 else 0:=by
    have hn:nameS (c::l)=(Q9 (c::l)&&decide (l.length<8)):=by simp[nameS,h1',h2',Bool.and_comm]
    have hd:digit c=false:=by
     simp only[Em,digit,Bl,Dd,Ke,Bool.and_eq_false_iff,decide_eq_false_iff_not]at h2'⊢;omega
    have k3:¬Dp (c::l)≥0:=by
     intro h;obtain⟨n,_,hs,_⟩:=(Pr _).1 h;have:=T9 n;rw[←hs]at this;simp only[T8,P0,hd,Bool.false_and]at this;cases this
    have k4:has Kc (c::l)=false:=by
     simp only[has,Kc,Ze,List.any_nil,Vf,Pe,beq_eq_false_iff_ne];refine⟨?_,?_,?_,?_,?_,?_,?_,?_,?_,?_,?_,?_,?_,?_,?_,?_,?_,?_⟩<;>(intro h;injection h with h _;subst h;revert h2';decide)
    simp only[Di,h1',hn];rw[if_neg (by simp)];split
    ·rfl
    ·first|(rw[if_neg k3,k4];rfl)|(rw[k4];rfl)
   rw[hk];generalize hT:Q9 (c::l)=T;refine Ar (ι:=Nat) 0 0 (fun i=>i≤l.length+1∧T=Q9 ((c::l).drop i)) (fun i=>[(18,vi i),(17,vi (l.length+1)),(0,str (c::l))]) (fun _=>⟨[],[]⟩) (fun i=>l.length+1-i) ?_ 0 ⟨B3 _,hT.symm⟩
    ⟨rfl,by rw[←hsz];rfl,rfl,trivial⟩
   rintro i ⟨hi,hTi⟩ IH;refine C7 (fun h3=>?_) (fun h3=>?_)
   ·have hlt:i<(c::l).length:=by have:=A5 h3;simp;omega
    obtain⟨b,hb⟩:=Ab (c::l) hlt;rw[B6 hb]at hTi;have hw:Q9 (b::(c::l).drop (i+1))=((Em b||digit b)&&Q9 ((c::l).drop (i+1))):=rfl;rw[hw]at hTi;refine Jh i (by omega) hb ?_;refine Al (Adt b) ?_;refine Df (fun h4=>?_) (fun h4=>?_)
    ·have h4':Em b=false:=by have:(!Em b)=true:=h4;simpa using this
     refine Jh i (by omega) hb ?_;refine Al (Aic b) ?_;refine Ah (fun h5=>?_) (fun h5=>?_)
     ·have h5':digit b=false:=by have:(!digit b)=true:=h5;simpa using this
      refine Az func320 ?_;rw[hTi,h4',h5'];rfl
     ·have h5':digit b=true:=by have:(!digit b)=false:=h5;simpa using this
      exact IH (i+1) ⟨by simp at hlt;omega,by rw[hTi,h5'];simp⟩ (by simp at hlt;omega) _ _ ⟨vsx (by omega),rfl,rfl,trivial⟩ rfl rfl rfl
    ·have h4':Em b=true:=by have:(!Em b)=false:=h4;simpa using this
     refine Ag ?_;exact IH (i+1) ⟨by simp at hlt;omega,by rw[hTi,h4'];simp⟩ (by simp at hlt;omega) _ _ ⟨vsx (by omega),rfl,rfl,trivial⟩ rfl rfl rfl
   ·have:i=(c::l).length:=by have:=Ba h3;simp;omega
    rw[this,Hz]at hTi;have hT1:T=true:=hTi;subst hT1;refine Ah (fun h4=>?_) (fun h4=>?_)
    ·have h4':l.length<8:=by have:=A5 h4;rw[hsz]at this;omega
     refine Az func320 ?_;simp[h4',C8]
    ·have h4':¬l.length<8:=by have:=Ba h4;rw[hsz]at this;omega
     refine Az func320 ?_;simp[h4',C8]
  have h2':Em c=false:=h2;refine Jh 0 (by omega) (b:=c) rfl ?_;refine Al (Aic c) ?_;refine Ah (fun h3=>?_) (fun h3=>?_)
  ·have h3':digit c=true:=h3;have hr:=Aq4 c l h3';have hk:Di (c::l)=if Qw (c::l)&&decide (Ou (c::l)≤1000000)then 2 else 0:=by
    have k2:nameS (c::l)=false:=by simp[nameS,h2']
    have k4:has Kc (c::l)=false:=by
     simp only[has,Kc,Ze,List.any_nil,Vf,Pe,beq_eq_false_iff_ne];refine⟨?_,?_,?_,?_,?_,?_,?_,?_,?_,?_,?_,?_,?_,?_,?_,?_,?_,?_⟩<;>(intro h;injection h with h _;subst h;revert h3';decide)
    simp only[Di,h1',k2,hr];rw[if_neg (by simp),if_neg (by simp)];by_cases h:0≤Dp (c::l)
    ·simp[h]
    ·rw[if_neg (by omega),k4];simp[h]
   rw[hk];refine Al (Afy (c::l) (by simp;omega)) ?_;refine Df (fun h4=>?_) (fun h4=>?_)
   ·have h4':Qw (c::l)=true:=h4;refine Ah (fun h5=>?_) (fun h5=>?_)
    ·have h5':Ou (c::l)≤1000000:=A5 h5;refine Az func320 ?_;simp[h4',h5',C8]
    ·have h5':¬Ou (c::l)≤1000000:=Ba h5;refine Az func320 ?_;simp[h4',h5',C8]
   ·have h4':Qw (c::l)=false:=h4;refine Ag ?_;refine Az func320 ?_;simp[h4',C8]
  have h3':digit c=false:=h3;rw[Add c l h2' h3'];refine Al (Su Kq (c::l) (by decide)) ?_;refine Df (fun h4=>?_) (fun h4=>?_)
  ·have h4':has Kq (c::l)=true:=h4;refine A0 ?_;refine Az func320 ?_;simp[h4',C8]
  have h4':has Kq (c::l)=false:=h4;cases l with
  |nil=>
   refine Hh ?_;refine Al (Aj7 oneSigns c) ?_;refine Ah (fun h5=>?_) (fun h5=>?_)
   ·have h5':oneSigns.contains c=true:=by rw[←Wn];exact h5
    refine Az func320 ?_;rw[h4',h5'];rfl
   ·have h5':oneSigns.contains c=false:=by rw[←Wn];exact h5
    refine Az func320 ?_;rw[h4',h5'];rfl
  |cons d l=>
   have:(((⟨⟨c::d::l⟩⟩:ByteArray).size:Int)==1)=false:=by rw[M9];simp;omega
   refine Ii ?_ (ht:=this);refine Ag ?_;refine Az func320 ?_;simp[h4',C8]
theorem Avn(c d:UInt8)(l:List UInt8)(h1:Em c=false)(h2:digit c=false):(Di [c,d]==3)=has Kc [c,d]:=by
 rw[Add c [d] h1 h2];have:has Kc [c,d]=has Kq [c,d]:=by
  simp only[has,Kc,Kq,Ze,List.any_nil,Vf];simp
 rw[this];cases has Kq [c,d]<;>rfl
def Aw0(c:UInt8):List UInt8→Nat
 |[]=>1
 |d::_=>if has Kc [c,d]then 2 else 1
theorem Aqz(c:UInt8)(l:List UInt8)(hs:l.length≤900000000):Pure X 319 [str (c::l)] (vi (Ll (c::l))):=by
 have hsz:((⟨⟨c::l⟩⟩:ByteArray).size:Int)=l.length+1:=M9 c l;obtain⟨T,hT⟩:∃T,Gx (c::l)=T:=⟨_,rfl⟩
 have hTle:T≤l.length+1:=by rw[←hT];exact Xu _
 have hE:Ll (c::l)=if T=0 then Aw0 c l else T:=by
  by_cases h:(Em c||digit c)=true
  ·have hw:T=1+Gx l:=by rw[←hT];simp only[Gx];rw[if_pos h]
   have he:Ll (c::l)=Gx (c::l):=by simp only[Ll];rw[if_pos h]
   rw[he,hT,if_neg (by omega)]
  ·have hw:T=0:=by rw[←hT];simp only[Gx];rw[if_neg h]
   have he:Ll (c::l)=Aw0 c l:=by simp only[Ll];rw[if_neg h];cases l<;>rfl
   rw[he,if_pos hw]
 have tail:AK X ⟨319,f319,0,0⟩ (Lm false 4 f319) [(3,vi T),(0,str (c::l))] ⟨[],[]⟩ (fun e S=>e=.ret (vi (Ll (c::l)))∧S=⟨[],[]⟩):=by
  rw[hE];refine D5 ?_;refine Bi 100 rfl ?_;refine Df (fun h=>?_) (fun h=>?_)
  ·have h0:T=0:=by have:((T:Int)==0)=true:=h;simpa using this
   have hcd:Em c=false∧digit c=false:=by
    rw[h0]at hT;simp only[Gx]at hT;split at hT
    ·omega
    ·rename_i h;simpa using h
   rw[if_pos h0];cases l with
   |nil=>
    refine Ii ?_;refine Ag ?_;refine Az func319 ?_;rw[h0];rfl
   |cons d l=>
    refine Hh ?_ (ht:=Zd (by rw[hsz];simp;omega));refine Bn (Pj (l:=0) (h:=2) (r:=[c,d]) rfl rfl rfl rfl rfl rfl rfl rfl ?_ ?_ ?_ rfl) ?_
    ·omega
    ·omega
    ·simp;omega
    refine Al (Akb [c,d] (by simp)) ?_;have e:=Avn c d l hcd.1 hcd.2;refine Ah (fun h2=>?_) (fun h2=>?_)
    ·have h2':has Kc [c,d]=true:=by rw[←e];exact h2
     refine Az func319 ?_;simp[h2',C8,Aw0]
    ·have h2':has Kc [c,d]=false:=by rw[←e];exact h2
     refine Az func319 ?_;simp[h2',h0,C8,Aw0]
  ·have h0:T≠0:=by have:((T:Int)==0)=false:=h;simpa using this
   rw[if_neg h0];refine Ii ?_;refine Ag ?_;refine Az func319 ?_;simp only[C8];rw[if_neg (by omega)]
 refine Pure.run func319 ?_;refine Ar (ι:=Nat) 0 0 (fun i=>i≤l.length+1∧T=i+Gx ((c::l).drop i)) (fun i=>[(3,vi i),(0,str (c::l))]) (fun _=>⟨[],[]⟩) (fun i=>l.length+1-i) ?_ 0 ⟨B3 _,by simpa using hT.symm⟩
  ⟨rfl,rfl,trivial⟩
 rintro i ⟨hi,hTi⟩ IH;refine Bi 100 rfl ?_;refine Df (fun h=>?_) (fun h=>?_)
 ·have hlt:i<(c::l).length:=by have:=A5 h;simp;omega
  obtain⟨b,hb⟩:=Ab (c::l) hlt;rw[B6 hb]at hTi;simp only[Gx]at hTi;refine Jh i (by omega) hb ?_;refine Al (Adt b) ?_;refine Df (fun h2=>?_) (fun h2=>?_)
  ·have h2':Em b=true:=h2;refine A0 ?_;rw[h2']at hTi;exact IH (i+1) ⟨by simp at hlt;omega,by rw[hTi];simp;omega⟩ (by simp at hlt;omega) _ _ ⟨vsx (by omega),rfl,trivial⟩ rfl rfl rfl
  ·have h2':Em b=false:=h2;refine Jh i (by omega) hb ?_;refine Al (Aic b) ?_;refine Ey 0 4 (fun h3=>?_) (fun h3=>?_)
   ·have h3':digit b=true:=h3;rw[h3']at hTi;refine Bi 100 rfl ?_;exact IH (i+1) ⟨by simp at hlt;omega,by rw[hTi];simp;omega⟩ (by simp at hlt;omega) _ _ ⟨vsx (by omega),rfl,trivial⟩ rfl rfl rfl
   ·have h3':digit b=false:=h3;rw[h2',h3']at hTi;have hTi':T=i:=by simpa using hTi
    rw[hTi']at tail;exact Bz 0 0 tail ⟨rfl,rfl,trivial⟩ rfl rfl rfl rfl rfl
 ·have hie:i=(c::l).length:=by have:=Ba h;simp;omega
  rw[hie,Hz]at hTi;have hTi':T=i:=by rw[hie,hTi];rfl
  rw[hTi']at tail;refine Ey 0 4 (fun h3=>?_) (fun h3=>?_)
  ·cases h3
  ·exact Bz 0 0 tail ⟨rfl,rfl,trivial⟩ rfl rfl rfl rfl rfl
theorem Ayt(s:List UInt8)(hs:s.length≤900000000):Pure X 300 [str s] (.tup [.sl (Hk (C4 s).1) .no,.agg [vi (C4 s).2.1,vi (C4 s).2.2]]):=by
 refine Pure.run func300 ?_;refine Ah (fun h=>?_) (fun h=>?_)
 ·have:s.length>4000:=by have:=A5 h;rw[F9]at this;omega
  refine If 2 (.sl [] .tight) ?_;refine As func300 ?_;simp only[C4];rw[if_pos this];rfl
 have hlen:¬s.length>4000:=by have:=Ba h;rw[F9]at this;omega
 generalize hT:C4 s=T;have hT':T=Hg (s.length+1) (Cd false s) (s.drop (Cd false s)) []:=by rw[←hT];simp only[C4];rw[if_neg hlen]
 refine N2 (d:=4) rfl rfl rfl ?_;refine Ar (ι:=Nat×List Wd) 1 1 (fun i=>i.1≤s.length∧i.2.length≤1500∧∃f,s.length-i.1<f∧T=Hg f (i.1+Cd false (s.drop i.1)) (s.drop (i.1+Cd false (s.drop i.1))) i.2)
  (fun i=>[(5,vi i.1),(4,.sl (Hk i.2) (.tok 0)),(0,str s),(3,.ptr 0 0 0)]) (fun i=>⟨[[[vi 0,vi 0]]],[i.2.length]⟩) (fun i=>s.length-i.1) ?_ (0,[]) ⟨B3 _,B3 _,s.length+1,by simp,by simpa using hT'⟩
  ⟨rfl,rfl,rfl,rfl,trivial⟩
 rintro⟨a,out⟩ ⟨ha,hout,f,hf,hTa⟩ IH;simp only at ha hout hf hTa IH⊢;refine C7 (fun h=>?_) (fun h=>?_)
 ·have hlt:a<s.length:=by have:=A5 h;rw[F9]at this;omega
  obtain⟨c,hc⟩:=Ab s hlt;have hd:=B6 hc;refine Jh a (by omega) hc ?_;have white:(c==32||c==10)=true→T=Hg f (a+1+Cd false (s.drop (a+1))) (s.drop (a+1+Cd false (s.drop (a+1)))) out:=fun hw=>by
   have e:Cd false (s.drop a)=1+Cd false (s.drop (a+1)):=by rw[hd];simp only[Cd];rw[if_pos hw]
   rw[hTa,e,show a+(1+Cd false (s.drop (a+1)))=a+1+Cd false (s.drop (a+1)) by omega]
  refine Ah (fun h1=>?_) (fun h1=>?_)
  ·have h1':(c==32)=true:=by rw[←cb];exact h1
   exact IH (a+1,out) ⟨by simp only;omega,hout,f,by simp only;omega,white (by rw[h1'];rfl)⟩ (by simp only;omega) _ _ ⟨vsx (by omega),rfl,rfl,rfl,trivial⟩ rfl rfl rfl
  have h1':(c==32)=false:=by rw[←cb];exact h1
  refine Ah (fun h2=>?_) (fun h2=>?_)
  ·have h2':(c==10)=true:=by rw[←cb];exact h2
   exact IH (a+1,out) ⟨by simp only;omega,hout,f,by simp only;omega,white (by rw[h2'];simp)⟩ (by simp only;omega) _ _ ⟨vsx (by omega),rfl,rfl,rfl,trivial⟩ rfl rfl rfl
  have h2':(c==10)=false:=by rw[←cb];exact h2
  refine Ah (fun h3=>?_) (fun h3=>?_)
  ·have h3':(c==35)=true:=by rw[←cb];exact h3
   have hE:Cd false (s.drop a)=Cd true (s.drop a):=by rw[hd];simp only[Cd];rw[if_neg (by simp[h1',h2']),if_pos h3',if_neg (by simp[h2'])]
   rw[hE]at hTa;refine Ar (ι:=Nat) 1 1 (fun i=>a≤i∧i≤s.length∧T=Hg f (i+Cd true (s.drop i)) (s.drop (i+Cd true (s.drop i))) out) (fun i=>[(5,vi i),(4,.sl (Hk out) (.tok 0)),(0,str s),(3,.ptr 0 0 0)])
    (fun _=>⟨[[[vi 0,vi 0]]],[out.length]⟩) (fun i=>s.length-i) ?_ a ⟨Bo _,ha,hTa⟩ ⟨rfl,rfl,rfl,rfl,trivial⟩
   rintro i ⟨hai,hi,hTi⟩ IH2;refine Bi 100 rfl ?_;refine Df (fun h4=>?_) (fun h4=>?_)
   ·have hlt2:i<s.length:=by have:=A5 h4;rw[F9]at this;omega
    obtain⟨b,hb⟩:=Ab s hlt2;have hd2:=B6 hb;refine Jh i (by omega) hb ?_;refine Ah (fun h5=>?_) (fun h5=>?_)
    ·have h5':(b==10)=false:=by
      have:(!((b.toNat:Int)==10))=true:=h5;rw[←cb];simpa using this
     have e:Cd true (s.drop i)=1+Cd true (s.drop (i+1)):=by rw[hd2];simp only[Cd];rw[if_neg (by simp[h5'])]
     exact IH2 (i+1) ⟨by omega,by omega,by rw[hTi,e,show i+(1+Cd true (s.drop (i+1)))=i+1+Cd true (s.drop (i+1)) by omega]⟩ (by omega) _ _ ⟨vsx (by omega),rfl,rfl,rfl,trivial⟩ rfl rfl rfl
    ·have h5':(b==10)=true:=by
      have:(!((b.toNat:Int)==10))=false:=h5;rw[←cb];simpa using this
     have e:Cd true (s.drop i)=Cd false (s.drop i):=by rw[hd2];simp only[Cd];rw[if_pos h5',if_pos (by rw[h5'];simp)]
     have hne:a≠i:=by
      rintro rfl;rw[hc]at hb;cases hb;rw[h5']at h2';cases h2'
     exact IH (i,out) ⟨by simp only;omega,hout,f,by simp only;omega,by rw[e]at hTi;exact hTi⟩ (by simp only;omega) _ _ ⟨rfl,rfl,rfl,rfl,trivial⟩ rfl rfl rfl
   ·have hie:i=s.length:=by have:=Ba h4;rw[F9]at this;omega
    have e:Cd true (s.drop i)=Cd false (s.drop i):=by rw[hie,Hz];rfl
    refine Ag ?_;exact IH (i,out) ⟨by simp only;omega,hout,f,by simp only;omega,by rw[e]at hTi;exact hTi⟩ (by simp only;omega) _ _ ⟨rfl,rfl,rfl,rfl,trivial⟩ rfl rfl rfl
  have h3':(c==35)=false:=by rw[←cb];exact h3
  have h0:Cd false (s.drop a)=0:=by rw[hd];simp only[Cd];rw[if_neg (by simp[h1',h2']),if_neg (by simp[h3'])]
  rw[h0,Px]at hTa;obtain⟨g,rfl⟩:∃g,f=g+1:=⟨f-1,by omega⟩
  obtain⟨n,hn⟩:∃n,Ll (s.drop a)=n:=⟨_,rfl⟩
  have hbd:=Ant c (s.drop (a+1));rw[←hd,hn]at hbd;have hdl:(s.drop a).length=s.length-a:=by simp
  rw[hdl]at hbd;obtain⟨t,ht⟩:∃t,(s.drop a).take n=t:=⟨_,rfl⟩
  have htl:t.length=n:=by rw[←ht];simp;omega
  have hstep:T=if Di t==0 then([],2,a)else if out.length==1500 then([],3,a)else
   Hg g (a+n+Cd false (s.drop (a+n))) (s.drop (a+n+Cd false (s.drop (a+n)))) (out++[⟨Di t,t,a⟩]):=by
   rw[hTa]
   conv=>lhs;unfold Hg
   rw[hd];simp only;rw[←hd,hn,ht,Aed,Aed];rw[show a+(n+Cd false (s.drop (a+n)))=a+n+Cd false (s.drop (a+n)) by omega]
  have hlong:Pure X 319 [str (s.drop a)] (vi n):=by
   have:=Aqz c (s.drop (a+1)) (by simp;omega);rw[←hd,hn]at this;exact this
  refine Bn (Pj (l:=(a:Int)) (h:=(s.length:Int)) (r:=s.drop a) rfl rfl rfl rfl rfl rfl rfl rfl ?_ ?_ ?_ ?_) ?_
  ·omega
  ·omega
  ·omega
  ·simp
  refine Al hlong ?_;have hwr:IntKind.i64.wrap ((a:Int)+(n:Int))=(a+n:Nat):=(Ac (by omega) (by omega)).trans (by omega);refine Bn (Pj (l:=(a:Int)) (h:=IntKind.i64.wrap ((a:Int)+(n:Int))) (r:=t) rfl rfl rfl rfl rfl rfl rfl rfl ?_ ?_ ?_ ?_) ?_
  ·omega
  ·rw[hwr];omega
  ·rw[hwr];omega
  ·rw[hwr,←ht];rw[show ((a+n:Nat):Int).toNat=a+n by omega,show ((a:Nat):Int).toNat=a by omega,List.drop_take,show a+n-a=n by omega]
  refine Al (Akb t (by omega)) ?_;refine Ah (fun h4=>?_) (fun h4=>?_)
  ·have h4':(Di t==0)=true:=h4;refine If 2 (.sl [] .tight) ?_;refine As func300 ?_;rw[hstep,h4'];rfl
  have h4':(Di t==0)=false:=h4;refine Ah (fun h5=>?_) (fun h5=>?_)
  ·have h5':(out.length==1500)=true:=by
    have:(((Hk out).length:Int)==1500)=true:=h5;rw[D2]at this;simp at this⊢;omega
   refine If 2 (.sl [] .tight) ?_;refine As func300 ?_;rw[hstep,h4',h5'];rfl
  have h5':(out.length==1500)=false:=by
   have:(((Hk out).length:Int)==1500)=false:=h5;rw[D2]at this;simp at this⊢;omega
  have h5'':out.length≠1500:=by simpa using h5'
  refine Bn (Bu (res:=Hk (out++[⟨Di t,t,a⟩])) rfl rfl rfl rfl rfl rfl rfl rfl rfl rfl rfl rfl rfl rfl (D2 out) (Ad7 out) rfl rfl rfl ?_ ?_ rfl) ?_
  ·rw[D2];simp;omega
  ·simp[Hk,U8]
  have hst:((⟨⟨t⟩⟩:ByteArray).size:Int)=n:=by rw[F9,htl]
  refine IH (a+n,out++[⟨Di t,t,a⟩]) ⟨by simp only;omega,by simp;omega,g,by simp only;omega,by rw[hstep,h4',h5'];rfl⟩ (by simp only;omega) _ _ ⟨?_,rfl,rfl,rfl,trivial⟩ ?_ rfl rfl
  ·exact Ci (by rw[hst];exact hwr)
  ·simp[St.drop,D2]
 ·have hae:a=s.length:=by have:=Ba h;rw[F9]at this;omega
  refine As func300 ?_;obtain⟨g,rfl⟩:∃g,f=g+1:=⟨f-1,by omega⟩
  rw[hTa,hae,Hz];simp only[Cd,Px,Hz];rfl
end Go.V
