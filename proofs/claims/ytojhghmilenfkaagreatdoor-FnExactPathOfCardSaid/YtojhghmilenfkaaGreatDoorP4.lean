/- A part of the proof of the claim that the last text states: no condition of its own. -/
import Derived.Test.YtojhghmilenfkaaGreatDoorP3
import Derived.Ground.NamesProg
import Derived.Lib.AtoiTie
import Derived.Lib.Bytealg
import Derived.Lib.ConvBytes
import Derived.Shelf.Strconv.AtoiAll
import Derived.Shelf.Strconv.Itoa3
import Derived.Test.YtojhghmilenfkaaGreatDoorChecked
import Derived.WideLaws
set_option linter.unusedVariables false
set_option linter.unusedSimpArgs false
namespace Go.V
open Go Go.Proofs Go.Proofs.Tryz
def Td(n:Nd):Bool:=decide (Ai n≤500)&&decide (Dc n≤24)&&Cp n
theorem A1i(n:Nd)(hn:wN n≤1000000000):Pure X 216 [nd n] (vb (Td n)):=by
 have hc:=Rx n;have hz:∀a b:Nat,((a:Int)≤(b:Int))↔a≤b:=fun a b=>by omega
 refine Pure.run func216 ?_;refine Al (Aob n (by omega)) ?_;refine Db (fun h1=>?_) (fun h1=>?_)
 ·have h1':Ai n≤500:=by have:=A7 h1;omega
  refine Al (Aoc n (by omega)) ?_;refine Db (fun h2=>?_) (fun h2=>?_)
  ·have h2':Dc n≤24:=by have:=A7 h2;omega
   refine Al (Ato n hn) ?_;refine Az func216 ?_;simp[Td,h1',h2',C5]
  ·have h2':¬Dc n≤24:=by have:=Bd h2;omega
   refine Az func216 ?_;simp[Td,h2',C5]
 ·have h1':¬Ai n≤500:=by have:=Bd h1;omega
  refine Ii ?_;refine Az func216 ?_;simp[Td,h1',C5]
inductive FE:Nd→Prop
 |num (m:Int) (h0:0≤m) (h1:m≤1000000):FE (.mk 1 [] m [])
 |var (s:List UInt8) (h:nameS s=true):FE (.mk 2 s 0 [])
 |cell (s:List UInt8) (a:Nd) (h:nameS s=true) (ha:FE a):FE (.mk 3 s 0 [a])
 |len (s:List UInt8) (h:nameS s=true):FE (.mk 4 s 0 [])
 |neg (a:Nd) (ha:FE a):FE (.mk 5 [] 0 [a])
 |two (k:Int) (a b:Nd) (hk:k=6∨k=7∨k=8) (ha:FE a) (hb:FE b):FE (.mk k [] 0 [a,b])
inductive FC:Nd→Prop
 |mk (k:Int) (a b:Nd) (h0:11≤k) (h1:k≤16) (ha:FE a) (hb:FE b):FC (.mk k [] 0 [a,b])
inductive FS:Nd→Prop
 |set (s:List UInt8) (a:Nd) (h:nameS s=true) (ha:FE a):FS (.mk 21 s 0 [a])
 |put (s:List UInt8) (a b:Nd) (h:nameS s=true) (ha:FE a) (hb:FE b):FS (.mk 22 s 0 [a,b])
 |read (s:List UInt8) (h:nameS s=true):FS (.mk 23 s 0 [])
 |ifs (c:Nd) (l l':List Nd) (hc:FC c) (hl:∀x,x∈l→FS x) (hl':∀x,x∈l'→FS x):FS (.mk 24 [] 0 [c,.mk 30 [] 0 l,.mk 30 [] 0 l'])
 |whil (c:Nd) (l:List Nd) (hc:FC c) (hl:∀x,x∈l→FS x):FS (.mk 25 [] 0 [c,.mk 30 [] 0 l])
 |for_ (s:List UInt8) (a b:Nd) (l:List Nd) (h:nameS s=true) (ha:FE a) (hb:FE b) (hl:∀x,x∈l→FS x):FS (.mk 26 s 0 [a,b,.mk 30 [] 0 l])
 |check (c:Nd) (hc:FC c):FS (.mk 27 [] 0 [c])
 |skip:FS (.mk 28 [] 0 [])
 |stop:FS (.mk 29 [] 0 [])
inductive FV:Nd→Prop
 |var (s:List UInt8) (h:nameS s=true):FV (.mk 31 s 0 [])
 |arr (s:List UInt8) (m:Int) (h:nameS s=true) (h0:-1≤m) (h1:m≤1000000):FV (.mk 32 s m [])
inductive FP:Nd→Prop
 |mk (ds l:List Nd) (hd:∀x,x∈ds→FV x) (hl:∀x,x∈l→FS x):FP (.mk 40 [] 0 (ds++[.mk 30 [] 0 l]))
theorem N9{s:List UInt8}(h:nameS s=true):s≠[]:=by rintro rfl;simp[nameS]at h
theorem Aje{l:List Nd}(h:(l.length:Int)=0):l=[]:=by
 cases l with
 |nil=>rfl
 |cons x l=>simp at h;omega
theorem Aw9{l:List Nd}(h:(l.length:Int)=1):∃a,l=[a]:=by
 match l with
 |[]=>simp at h
 |[a]=>exact⟨a,rfl⟩
 |_::_::_=>simp at h;omega
theorem Ap3{l:List Nd}(h:(l.length:Int)=2):∃a b,l=[a,b]:=by
 match l with
 |[]=>simp at h
 |[_]=>simp at h
 |[a,b]=>exact⟨a,b,rfl⟩
 |_::_::_::_=>simp at h;omega
theorem A3h{l:List Nd}(h:(l.length:Int)=3):∃a b c,l=[a,b,c]:=by
 match l with
 |[]=>simp at h
 |[_]=>simp at h
 |[_,_]=>simp at h
 |[a,b,c]=>exact⟨a,b,c,rfl⟩
 |_::_::_::_::_=>simp at h;omega
structure HeadF (k:Int)(s:List UInt8)(m:Int)(ks:List Nd)(len:Int)(nm:Bool):Prop where
 hl:0≤len→(ks.length:Int)=len
 hs:nm=!(s==[])
 hn:nm=true→nameS s=true
 hk:k=40→ks≠[]
 hm:Fb k m=true
theorem Ae9{k:Int}{s:List UInt8}{m:Int}{ks:List Nd}(h:H8 k s m ks.length=true):(Bi k).2.2=true∧HeadF k s m ks (Bi k).1 (Bi k).2.1:=by
 simp only[H8,Da,O9,J9,zzq56,Mh]at h;obtain⟨⟨⟨⟨⟨h1,h2⟩,h3⟩,h4⟩,h5⟩,h6⟩:=h;refine⟨h1,⟨fun h0=>?_,h3,fun hn=>?_,fun h40 hnil=>?_,h6⟩⟩
 ·rcases h2 with h2|h2
  ·omega
  ·exact h2
 ·rcases h4 with h4|h4
  ·rw[hn]at h4;cases h4
  ·exact h4
 ·subst h40;subst hnil;simp at h5
theorem HeadF.no{k:Int}{s:List UInt8}{m:Int}{ks:List Nd}{len:Int}(h:HeadF k s m ks len false):s=[]:=by
 have:=h.hs;simpa using this
theorem HeadF.num0{k:Int}{s:List UInt8}{m:Int}{ks:List Nd}{len:Int}{b:Bool}(h:HeadF k s m ks len b)(h1:k≠1)(h2:k≠32):m=0:=by
 have:=h.hm;simpa[Fb,h1,h2]using this
theorem Lb{p:Nd}:∀{l:List Nd}{i:Nat},Eo p i l=true→∀(j:Nat)(x:Nd),l[j]?=some x→Kz p ((i+j:Nat):Int) x.kind=true∧Cp x=true
 |[],i,_,j,x,h=>by simp at h
 |y::l,i,hf,j,x,h=>by
  simp only[Eo,Da]at hf;cases j with
  |zero=>simp at h;subst h;exact⟨hf.1,hf.2.1⟩
  |succ j=>
   have:=Lb hf.2.2 j x (by simpa using h);rw[show i+(j+1)=i+1+j by omega];exact this
theorem Cj{n lo hi:Int}:Bl n lo hi=true↔lo≤n∧n≤hi:=by simp[Bl]
@[simp] theorem M3(k:Int)(s:List UInt8)(m:Int)(ks:List Nd):(Nd.mk k s m ks).kind=k:=rfl
@[simp] theorem Vq(k:Int)(s:List UInt8)(m:Int)(ks:List Nd):(Nd.mk k s m ks).name=s:=rfl
@[simp] theorem Aal(k:Int)(s:List UInt8)(m:Int)(ks:List Nd):(Nd.mk k s m ks).num=m:=rfl
@[simp] theorem Ge(k:Int)(s:List UInt8)(m:Int)(ks:List Nd):(Nd.mk k s m ks).kids=ks:=rfl
theorem As7{n:Nd}{i k:Int}(h:n.kind<24):Kz n i k=Kq k:=by
 unfold Kz;rw[if_neg (show ¬(n.kind=24∨n.kind=25∨n.kind=27) by omega),if_neg (show ¬(n.kind=26∧i=2) by omega),if_neg (show ¬n.kind=30 by omega),if_neg (show ¬n.kind=40 by omega)]
theorem Ahl{n:Nd}{i k:Int}(h:n.kind=40):Kz n i k=if i=n.kids.length-1 then k==30 else k==31||k==32:=by
 unfold Kz;rw[if_neg (show ¬(n.kind=24∨n.kind=25∨n.kind=27) by omega),if_neg (show ¬(n.kind=26∧i=2) by omega),if_neg (show ¬n.kind=30 by omega),if_pos h]
theorem Aen(n:Nd)(hf:Cp n=true)(hk:Kq n.kind=true):FE n:=by
 induction n using Nd.ind with
 |h n ih=>
 obtain⟨k,s,m,ks⟩:=n;simp only[M3,Kq,Cj]at hk;rw[Ky,Da]at hf;simp only[M3,Vq,Aal,Ge]at hf ih;obtain⟨h1,h2⟩:=hf;have hall:=Lb h2;have kidE:∀(j:Nat) (x:Nd),ks[j]?=some x→FE x:=fun j x hx=>by
  obtain⟨h3,h4⟩:=hall j x hx;refine ih x (Bh hx) h4 ?_;rwa[As7 (by simp;omega)]at h3
 obtain⟨_,hH⟩:=Ae9 h1;have:k=1∨k=2∨k=3∨k=4∨k=5∨k=6∨k=7∨k=8:=by omega
 rcases this with rfl|rfl|rfl|rfl|rfl|rfl|rfl|rfl
 ·rw[show Bi 1=(0,false,true) by simp[Bi]]at hH;obtain rfl:=Aje (hH.hl (by simp));obtain rfl:=hH.no;have:=hH.hm;simp only[Fb,if_true,Cj]at this;exact .num m this.1 this.2
 ·rw[show Bi 2=(0,true,true) by simp[Bi]]at hH;obtain rfl:=Aje (hH.hl (by simp));obtain rfl:=hH.num0 (by simp) (by simp);exact .var s (hH.hn rfl)
 ·rw[show Bi 3=(1,true,true) by simp[Bi]]at hH;obtain⟨a,rfl⟩:=Aw9 (hH.hl (by simp));obtain rfl:=hH.num0 (by simp) (by simp);exact .cell s a (hH.hn rfl) (kidE 0 a rfl)
 ·rw[show Bi 4=(0,true,true) by simp[Bi]]at hH;obtain rfl:=Aje (hH.hl (by simp));obtain rfl:=hH.num0 (by simp) (by simp);exact .len s (hH.hn rfl)
 ·rw[show Bi 5=(1,false,true) by simp[Bi]]at hH;obtain⟨a,rfl⟩:=Aw9 (hH.hl (by simp));obtain rfl:=hH.num0 (by simp) (by simp);obtain rfl:=hH.no;exact .neg a (kidE 0 a rfl)
 ·rw[show Bi 6=(2,false,true) by simp[Bi]]at hH;obtain⟨a,b,rfl⟩:=Ap3 (hH.hl (by simp));obtain rfl:=hH.num0 (by simp) (by simp);obtain rfl:=hH.no;exact .two 6 a b (by simp) (kidE 0 a rfl) (kidE 1 b rfl)
 ·rw[show Bi 7=(2,false,true) by simp[Bi]]at hH;obtain⟨a,b,rfl⟩:=Ap3 (hH.hl (by simp));obtain rfl:=hH.num0 (by simp) (by simp);obtain rfl:=hH.no;exact .two 7 a b (by simp) (kidE 0 a rfl) (kidE 1 b rfl)
 ·rw[show Bi 8=(2,false,true) by simp[Bi]]at hH;obtain⟨a,b,rfl⟩:=Ap3 (hH.hl (by simp));obtain rfl:=hH.num0 (by simp) (by simp);obtain rfl:=hH.no;exact .two 8 a b (by simp) (kidE 0 a rfl) (kidE 1 b rfl)
theorem Arn(n:Nd)(hf:Cp n=true)(hk:Sb n.kind=true):FC n:=by
 obtain⟨k,s,m,ks⟩:=n;simp only[M3,Sb,Cj]at hk;rw[Ky,Da]at hf;simp only[M3,Vq,Aal,Ge]at hf;obtain⟨h1,h2⟩:=hf;have hall:=Lb h2;have kidE:∀(j:Nat) (x:Nd),ks[j]?=some x→FE x:=fun j x hx=>by
  obtain⟨h3,h4⟩:=hall j x hx;refine Aen x h4 ?_;rwa[As7 (by simp;omega)]at h3
 obtain⟨_,hH⟩:=Ae9 h1;rw[show Bi k=(2,false,true) by simp only[Bi];rw[if_neg (by omega),if_neg (by omega),if_neg (by omega),if_neg (by omega),if_pos (by omega)]]at hH;obtain⟨a,b,rfl⟩:=Ap3 (hH.hl (by simp));obtain rfl:=hH.num0 (by omega) (by omega);obtain rfl:=hH.no;exact .mk k a b hk.1 hk.2 (kidE 0 a rfl) (kidE 1 b rfl)
theorem A2y(n:Nd):Cp n=true→(Yp n.kind=true→FS n)∧(n.kind=30→∃l,n=.mk 30 [] 0 l∧∀x,x∈l→FS x):=by
 induction n using Nd.ind with
 |h n ih=>
 intro hf;obtain⟨k,s,m,ks⟩:=n;rw[Ky,Da]at hf;simp only[M3,Vq,Aal,Ge]at hf ih⊢;obtain⟨h1,h2⟩:=hf;have hall:=Lb h2;obtain⟨_,hH⟩:=Ae9 h1;have kid:∀(j:Nat) (x:Nd),ks[j]?=some x→Kz (.mk k s m ks) j x.kind=true:=fun j x hx=>by have:=(hall j x hx).1;rwa[Jt]at this
 have fm:∀(j:Nat) (x:Nd),ks[j]?=some x→Cp x=true:=fun j x hx=>(hall j x hx).2;have ihs:∀(j:Nat) (x:Nd),ks[j]?=some x→x.kind=30→∃l,x=.mk 30 [] 0 l∧∀x,x∈l→FS x:=fun j x hx=>(ih x (Bh hx) (fm j x hx)).2;refine⟨fun hk=>?_,fun hk=>?_⟩
 ·simp only[Yp,Cj]at hk;have:k=21∨k=22∨k=23∨k=24∨k=25∨k=26∨k=27∨k=28∨k=29:=by omega
  rcases this with rfl|rfl|rfl|rfl|rfl|rfl|rfl|rfl|rfl
  ·rw[show Bi 21=(1,true,true) by simp[Bi]]at hH;obtain⟨a,rfl⟩:=Aw9 (hH.hl (by simp));obtain rfl:=hH.num0 (by simp) (by simp);have k0:=kid 0 a rfl;simp[Kz]at k0;exact .set s a (hH.hn rfl) (Aen a (fm 0 a rfl) k0)
  ·rw[show Bi 22=(2,true,true) by simp[Bi]]at hH;obtain⟨a,b,rfl⟩:=Ap3 (hH.hl (by simp));obtain rfl:=hH.num0 (by simp) (by simp);have k0:=kid 0 a rfl;have k1:=kid 1 b rfl;simp[Kz]at k0 k1;exact .put s a b (hH.hn rfl) (Aen a (fm 0 a rfl) k0) (Aen b (fm 1 b rfl) k1)
  ·rw[show Bi 23=(0,true,true) by simp[Bi]]at hH;obtain rfl:=Aje (hH.hl (by simp));obtain rfl:=hH.num0 (by simp) (by simp);exact .read s (hH.hn rfl)
  ·rw[show Bi 24=(3,false,true) by simp[Bi]]at hH;obtain⟨c,a,b,rfl⟩:=A3h (hH.hl (by simp));obtain rfl:=hH.num0 (by simp) (by simp);obtain rfl:=hH.no;have k0:=kid 0 c rfl;have k1:=kid 1 a rfl;have k2:=kid 2 b rfl;simp[Kz]at k0 k1 k2;obtain⟨l,rfl,hl⟩:=ihs 1 a rfl k1;obtain⟨l',rfl,hl'⟩:=ihs 2 b rfl k2;exact .ifs c l l' (Arn c (fm 0 c rfl) k0) hl hl'
  ·rw[show Bi 25=(2,false,true) by simp[Bi]]at hH;obtain⟨c,a,rfl⟩:=Ap3 (hH.hl (by simp));obtain rfl:=hH.num0 (by simp) (by simp);obtain rfl:=hH.no;have k0:=kid 0 c rfl;have k1:=kid 1 a rfl;simp[Kz]at k0 k1;obtain⟨l,rfl,hl⟩:=ihs 1 a rfl k1;exact .whil c l (Arn c (fm 0 c rfl) k0) hl
  ·rw[show Bi 26=(3,true,true) by simp[Bi]]at hH;obtain⟨a,b,d,rfl⟩:=A3h (hH.hl (by simp));obtain rfl:=hH.num0 (by simp) (by simp);have k0:=kid 0 a rfl;have k1:=kid 1 b rfl;have k2:=kid 2 d rfl;simp[Kz]at k0 k1 k2;obtain⟨l,rfl,hl⟩:=ihs 2 d rfl k2;exact .for_ s a b l (hH.hn rfl) (Aen a (fm 0 a rfl) k0) (Aen b (fm 1 b rfl) k1) hl
  ·rw[show Bi 27=(1,false,true) by simp[Bi]]at hH;obtain⟨c,rfl⟩:=Aw9 (hH.hl (by simp));obtain rfl:=hH.num0 (by simp) (by simp);obtain rfl:=hH.no;have k0:=kid 0 c rfl;simp[Kz]at k0;exact .check c (Arn c (fm 0 c rfl) k0)
  ·rw[show Bi 28=(0,false,true) by simp[Bi]]at hH;obtain rfl:=Aje (hH.hl (by simp));obtain rfl:=hH.num0 (by simp) (by simp);obtain rfl:=hH.no;exact .skip
  ·rw[show Bi 29=(0,false,true) by simp[Bi]]at hH;obtain rfl:=Aje (hH.hl (by simp));obtain rfl:=hH.num0 (by simp) (by simp);obtain rfl:=hH.no;exact .stop
 ·subst hk;rw[show Bi 30=(-1,false,true) by simp[Bi]]at hH;obtain rfl:=hH.num0 (by simp) (by simp);obtain rfl:=hH.no;refine⟨ks,rfl,fun x hx=>?_⟩;obtain⟨j,hj⟩:=Bw hx;have k0:=kid j x hj;simp[Kz]at k0;exact(ih x hx (fm j x hj)).1 k0
theorem A2z(n:Nd)(hf:Cp n=true)(hk:n.kind=31∨n.kind=32):FV n:=by
 obtain⟨k,s,m,ks⟩:=n;rw[Ky,Da]at hf;simp only[M3,Vq,Aal,Ge]at hf hk;obtain⟨h1,h2⟩:=hf;obtain⟨_,hH⟩:=Ae9 h1;rcases hk with rfl|rfl
 ·rw[show Bi 31=(0,true,true) by simp[Bi]]at hH;obtain rfl:=Aje (hH.hl (by simp));obtain rfl:=hH.num0 (by simp) (by simp);exact .var s (hH.hn rfl)
 ·rw[show Bi 32=(0,true,true) by simp[Bi]]at hH;obtain rfl:=Aje (hH.hl (by simp));have:=hH.hm;simp[Fb,Cj]at this;exact .arr s m (hH.hn rfl) this.1 this.2
theorem Azb(n:Nd)(hf:Cp n=true)(hk:n.kind=40):FP n:=by
 obtain⟨k,s,m,ks⟩:=n;rw[Ky,Da]at hf;simp only[M3,Vq,Aal,Ge]at hf hk;subst hk;obtain⟨h1,h2⟩:=hf;have hall:=Lb h2;obtain⟨_,hH⟩:=Ae9 h1;rw[show Bi 40=(-1,false,true) by simp[Bi]]at hH;obtain rfl:=hH.num0 (by simp) (by simp);obtain rfl:=hH.no;have hne:=hH.hk rfl;have kid:∀(j:Nat) (x:Nd),ks[j]?=some x→Kz (.mk 40 [] 0 ks) j x.kind=true:=fun j x hx=>by have:=(hall j x hx).1;rwa[Jt]at this
 have fm:∀(j:Nat) (x:Nd),ks[j]?=some x→Cp x=true:=fun j x hx=>(hall j x hx).2;have hpos:0<ks.length:=zzq67.2 hne;obtain⟨b,hb⟩:=Ab ks (i:=ks.length-1) (by omega);have hsplit:ks=ks.take (ks.length-1)++[b]:=by
  conv=>lhs;rw[←Ad8 (ks.length-1) ks]
  congr 1;rw[Aki (by omega),Ad9 (by omega)];have:=Wu (l:=ks) (i:=ks.length-1) (by omega);rw[hb]at this;rw[←Option.some.inj this]
 have kb:=kid _ b hb;rw[Ahl rfl,if_pos (by rw[Ge];omega)]at kb;obtain⟨l,rfl,hl⟩:=(A2y b (fm _ b hb)).2 (by simpa using kb);rw[hsplit];refine .mk _ l (fun x hx=>?_) hl;obtain⟨j,hj⟩:=Bw hx;have hjl:=Aa hj;rw[Ti]at hjl;have hj':ks[j]?=some x:=by rw[Ma,if_pos (by omega)]at hj;exact hj
 have kx:=kid j x hj';rw[Ahl rfl,if_neg (by rw[Ge];omega)]at kx;exact A2z x (fm j x hj') (by simpa using kx)
def L5(k:Int):Int:=if k=6∨k=7 then 1 else if k=8 then 2 else 3
def Mc(l:Int)(k:Int)(t:List UInt8):List UInt8:=if L5 k<l then[40]++t++[41]else t
def Ut(k:Int):List UInt8:=if k=11 then[60]else if k=12 then[60,61]else if k=13 then[62]else if k=14 then[62,61]else if k=15 then[61,61]else[33,61]
def Bu:Nd→List UInt8
 |.mk k s m []=>if k=1 then Mb m.toNat else if k=4 then[108,101,110,40]++s++[41]else s
 |.mk k s _ [a]=>if k=3 then s++[91]++Bu a++[93]else[45]++Mc 3 a.kind (Bu a)
 |.mk k _ _ (a::b::_)=>
  if k=6 then Mc 1 a.kind (Bu a)++[32,43,32]++Mc 2 b.kind (Bu b)
  else if k=7 then Mc 1 a.kind (Bu a)++[32,45,32]++Mc 2 b.kind (Bu b)
  else if k=8 then Mc 2 a.kind (Bu a)++[32,42,32]++Mc 3 b.kind (Bu b)
  else Bu a++[32]++Ut k++[32]++Bu b
theorem Kj(l k:Int)(t:List UInt8):(Mc l k t).length≤t.length+2:=by
 unfold Mc;split<;>simp
theorem Adt(k:Int):(Ut k).length≤2:=by
 unfold Ut;repeat' split
 all_goals simp
theorem A0p(d n:Nat)(h:n<10^(d+1)):(Mb n).length≤d+1:=by
 induction d generalizing n with
 |zero=>unfold Mb;rw[if_pos (by simpa using h)];simp
 |succ d ih=>
  unfold Mb;split
  ·simp
  ·have:=ih (n/10) (by rw[Nat.pow_succ]at h;omega);simp;omega
theorem Vg(n:Nat)(h:n≤1000000):(Mb n).length≤7:=A0p 6 n (by omega)
theorem Fo(n:Nd)(h:FE n):(Bu n).length≤12*wN n:=by
 induction h with
 |num m h0 h1=>
  have:=Vg m.toNat (by omega)
  simp only[Bu,wN,if_true];omega
 |var s h=>simp[Bu,wN];omega
 |cell s a h ha ih=>simp[Bu,wN,wL];omega
 |len s h=>simp[Bu,wN];omega
 |neg a ha ih=>have:=Kj 3 a.kind (Bu a);simp[Bu,wN,wL];omega
 |two k a b hk ha hb iha ihb=>
  have h1:=Kj 1 a.kind (Bu a);have h2:=Kj 2 a.kind (Bu a);have h3:=Kj 2 b.kind (Bu b);have h4:=Kj 3 b.kind (Bu b);rcases hk with rfl|rfl|rfl
  ·simp[Bu,wN,wL];omega
  ·simp[Bu,wN,wL];omega
  ·simp[Bu,wN,wL];omega
theorem Oi(n:Nd)(h:FC n):(Bu n).length≤12*wN n:=by
 cases h with
 |mk k a b h0 h1 ha hb=>
  have:=Fo a ha;have:=Fo b hb;have:=Adt k;simp only[Bu];rw[if_neg (by omega),if_neg (by omega),if_neg (by omega)];simp[wN,wL];omega
theorem Wc(a:Nd)(l:List Nd):(Ap (a::l))[(0:Int).toNat]?=some (Af a):=by cases a;rfl
theorem Aeh(a b:Nd)(l:List Nd):(Ap (a::b::l))[(1:Int).toNat]?=some (Af b):=by cases b;rfl
theorem Ayp(a b c:Nd)(l:List Nd):(Ap (a::b::c::l))[(2:Int).toNat]?=some (Af c):=by cases c;rfl
theorem Axt(k:Int):Pure X 310 [vi k] (vi (L5 k)):=by
 refine Pure.run func310 ?_
 repeat' (refine Ag (fun _=>?_) (fun _=>?_))
 all_goals refine Az func310 ?_
 all_goals (simp_all [L5,C5])
theorem Sn(n:Nd)(l:Int)(t:List UInt8)(ht:t.length≤100000000000)(h:Pure X 261 [nd n] (str t)):Pure X 281 [nd n,vi l] (str (Mc l n.kind t)):=by
 refine Pure.run func281 ?_;refine Al (Axt n.kind) ?_;refine Ag (fun h1=>?_) (fun h1=>?_)
 ·have h1':=A7 h1;refine Al h ?_;refine Fg ?_ ?_
  ·simp;omega
  refine Fg ?_ ?_
  ·simp;omega
  refine Az func281 ?_;simp[Mc,h1',C5]
 ·have h1':=Bd h1;refine Al h ?_;refine Az func281 ?_;simp[Mc,h1',C5]
theorem Sq(n:Nd)(h:FE n)(hn:wN n≤1000000000):Pure X 261 [nd n] (str (Bu n)):=by
 induction h with
 |num m h0 h1=>
  obtain⟨q,rfl⟩:∃q:Nat,m=q:=⟨m.toNat,by omega⟩
  refine Pure.run func261 ?_;refine A1 ?_;refine Al (Ajn q (by omega)) ?_;refine Az func261 ?_;simp[Bu,C5]
 |var s h=>
  refine Pure.run func261 ?_;refine Ah ?_;refine A1 ?_;refine Az func261 ?_;simp[Bu,C5]
 |cell s a h ha ih=>
  have hl:=Fo a ha;simp[wN,wL]at hn;refine Pure.run func261 ?_;refine Ah ?_;refine Ah ?_;refine A1 ?_;refine D8 0 ?_;refine Du ?_ ?_
  ·simp;omega
  refine Dv 0 (by omega) (Wc a _) ?_;refine Ci (ih (by omega)) ?_;refine Du ?_ ?_
  ·simp;omega
  refine Du ?_ ?_
  ·simp;omega
  refine B6 ?_;refine Az func261 ?_;simp[Bu,C5]
 |len s h=>
  simp[wN,wL]at hn;refine Pure.run func261 ?_;refine Ah ?_;refine Ah ?_;refine Ah ?_;refine A1 ?_;refine Fg ?_ ?_
  ·simp;omega
  refine Fg ?_ ?_
  ·simp;omega
  refine Az func261 ?_;simp[Bu,C5]
 |neg a ha ih=>
  have hl:=Fo a ha;have hp:=Kj 3 a.kind (Bu a);simp[wN,wL]at hn;refine Pure.run func261 ?_;refine Ah ?_;refine Ah ?_;refine Ah ?_;refine Ah ?_;refine A1 ?_;refine B7 0 (by omega) (Wc a _) ?_;refine Al (Sn a 3 (Bu a) (by omega) (ih (by omega))) ?_;refine Fg ?_ ?_
  ·simp;omega
  refine Az func261 ?_;simp[Bu,C5]
 |two k a b hk ha hb iha ihb=>
  have hla:=Fo a ha;have hlb:=Fo b hb;have h1:=Kj 1 a.kind (Bu a);have h2:=Kj 2 a.kind (Bu a);have h3:=Kj 2 b.kind (Bu b);have h4:=Kj 3 b.kind (Bu b);simp[wN,wL]at hn;refine Pure.run func261 ?_;rcases hk with rfl|rfl|rfl
  ·refine Ah ?_;refine Ah ?_;refine Ah ?_;refine Ah ?_;refine Ah ?_;refine A1 ?_;refine D8 0 ?_;refine Dv 0 (by omega) (Wc a _) ?_;refine Ci (Sn a 1 (Bu a) (by omega) (iha (by omega))) ?_;refine Du ?_ ?_
   ·simp;omega
   refine Dv 1 (by omega) (Aeh a b _) ?_;refine Ci (Sn b 2 (Bu b) (by omega) (ihb (by omega))) ?_;refine Du ?_ ?_
   ·simp;omega
   refine B6 ?_;refine Az func261 ?_;simp[Bu,C5]
  ·refine Ah ?_;refine Ah ?_;refine Ah ?_;refine Ah ?_;refine Ah ?_;refine Ah ?_;refine A1 ?_;refine D8 0 ?_;refine Dv 0 (by omega) (Wc a _) ?_;refine Ci (Sn a 1 (Bu a) (by omega) (iha (by omega))) ?_;refine Du ?_ ?_
   ·simp;omega
   refine Dv 1 (by omega) (Aeh a b _) ?_;refine Ci (Sn b 2 (Bu b) (by omega) (ihb (by omega))) ?_;refine Du ?_ ?_
   ·simp;omega
   refine B6 ?_;refine Az func261 ?_;simp[Bu,C5]
  ·refine Ah ?_;refine Ah ?_;refine Ah ?_;refine Ah ?_;refine Ah ?_;refine Ah ?_;refine Ah ?_;refine A1 ?_;refine D8 0 ?_;refine Dv 0 (by omega) (Wc a _) ?_;refine Ci (Sn a 2 (Bu a) (by omega) (iha (by omega))) ?_;refine Du ?_ ?_
   ·simp;omega
   refine Dv 1 (by omega) (Aeh a b _) ?_;refine Ci (Sn b 3 (Bu b) (by omega) (ihb (by omega))) ?_;refine Du ?_ ?_
   ·simp;omega
   refine B6 ?_;refine Az func261 ?_;simp[Bu,C5]
theorem Ahw(n:Nd)(h:FC n)(hn:wN n≤1000000000):Pure X 261 [nd n] (str (Bu n)):=by
 cases h with
 |mk k a b h0 h1 ha hb=>
  have hla:=Fo a ha;have hlb:=Fo b hb;have hr:=Adt k;simp[wN,wL]at hn;refine Pure.run func261 ?_;have ne:∀j:Int,j<11→(k==j)=false:=fun j hj=>by simp;omega
  refine Ah ?_ (ht:=ne 1 (by omega));refine Ah ?_ (ht:=ne 2 (by omega));refine Ah ?_ (ht:=ne 3 (by omega));refine Ah ?_ (ht:=ne 4 (by omega));refine Ah ?_ (ht:=ne 5 (by omega));refine Ah ?_ (ht:=ne 6 (by omega));refine Ah ?_ (ht:=ne 7 (by omega));refine Ah ?_ (ht:=ne 8 (by omega));have hw:IntKind.i64.wrap (k-11)=k-11:=Ac (by omega) (by omega);have hrel:(Dj [[60],[60,61],[62],[62,61],[61,61],[33,61]])[(IntKind.i64.wrap (k-11)).toNat]?=some [str (Ut k)]:=by
   rw[hw];have:k=11∨k=12∨k=13∨k=14∨k=15∨k=16:=by omega
   rcases this with rfl|rfl|rfl|rfl|rfl|rfl<;>rfl
  have hT:Bu (.mk k [] 0 [a,b])=Bu a++[32]++Ut k++[32]++Bu b:=by
   simp only[Bu];rw[if_neg (by omega),if_neg (by omega),if_neg (by omega)]
  rw[hT];refine D8 0 ?_;refine Dv 0 (by omega) (Wc a _) ?_;refine Ci (Sq a ha (by omega)) ?_;refine Du ?_ ?_
  ·simp;omega
  refine Dv (IntKind.i64.wrap (k-11)) (by omega) hrel ?_;refine Du ?_ ?_
  ·simp;omega
  refine Du ?_ ?_
  ·simp;omega
  refine Dv 1 (by omega) (Aeh a b _) ?_;refine Ci (Sq b hb (by omega)) ?_;refine Du ?_ ?_
  ·simp;omega
  refine B6 ?_;refine Az func261 ?_;simp[C5]
mutual
def Cq:Nd→List UInt8→List UInt8
 |.mk k s m [],p=>
  if k=31 then p++[118,97,114,32]++s++[59,10]
  else if k=32 then p++[97,114,114,97,121,32]++s++[91]++(if 0≤m then Mb m.toNat else[63])++[93,59,10]
  else if k=23 then p++[114,101,97,100,32]++s++[59,10]
  else if k=28 then p++[115,107,105,112,59,10]
  else p++[115,116,111,112,59,10]
 |.mk k s _ [a],p=>
  if k=21 then p++s++[32,61,32]++Bu a++[59,10]
  else p++[99,104,101,99,107,32]++Bu a++[59,10]
 |.mk k s _ [a,.mk k' s' m' l],p=>
  if k=22 then p++s++[91]++Bu a++[93,32,61,32]++Bu (.mk k' s' m' l)++[59,10]
  else p++[119,104,105,108,101,32]++Bu a++[32,123,10]++Ij l (p++[32,32])++p++[125,10]
 |.mk k s _ (a::.mk k' s' m' l'::.mk _ _ _ l::_),p=>
  if k=26 then p++[102,111,114,32]++s++[32,102,114,111,109,32]++Bu a++[32,116,111,32]++Bu (.mk k' s' m' l')++[32,123,10]++Ij l (p++[32,32])++p++[125,10]
  else p++[105,102,32]++Bu a++[32,123,10]++Ij l' (p++[32,32])++p ++
   (match l with
     |[]=>[]
     |_=>[125,32,101,108,115,101,32,123,10]++Ij l (p++[32,32])++p)++[125,10]
def Ij:List Nd→List UInt8→List UInt8
 |[],_=>[]
 |x::l,p=>Cq x p++Ij l p
end
theorem Gw{l:List Nd}{x:Nd}(h:x∈l):Dc x≤Gv l:=by
 induction l with
 |nil=>cases h
 |cons y l ih=>
  simp only[Gv];rcases zzq13.1 h with rfl|h
  ·omega
  ·have:=ih h;omega
theorem Sg(l:List Nd)(p:List UInt8):Ij l p=(l.map fun x=>Cq x p).flatten:=by
 induction l with
 |nil=>simp[Ij]
 |cons x l ih=>simp[Ij,ih]
theorem Ac3{l:List Nd}{f:Nd→List UInt8}(h:∀x,x∈l→(f x).length≤4060*wN x):(l.map f).flatten.length≤4060*wL l:=by
 induction l with
 |nil=>simp
 |cons x l ih=>
  have h1:=h x (by simp);have h2:=ih fun y hy=>h y (by simp[hy]);simp only[Nz,List.flatten_cons,Es,wL];omega
theorem Qp{l:List Nd}{p:List UInt8}(h:∀x,x∈l→(Cq x p).length≤4060*wN x):(Ij l p).length≤4060*wL l:=by
 rw[Sg];exact Ac3 h
theorem Ap5(x:Nd)(h:FV x)(p:List UInt8)(hp:p.length≤1000):(Cq x p).length≤4060*wN x:=by
 cases h with
 |var s h=>simp[Cq,wN];omega
 |arr s m h h0 h1=>
  have:=Vg m.toNat (by omega)
  simp[Cq,wN];by_cases h0:0≤m
  ·simp[h0];omega
  ·simp[h0];omega
theorem Afg(x:Nd)(h:FS x):∀p:List UInt8,p.length+2*Dc x≤1000→(Cq x p).length≤4060*wN x:=by
 induction h with
 |set s a h ha=>intro p hp;have:=Fo a ha;simp[Cq,wN,wL];omega
 |put s a b h ha hb=>
  intro p hp;have h1:=Fo a ha;have h2:=Fo b hb;obtain⟨k',s',m',l'⟩:=b;simp only[Cq,wN,wL]at h2⊢;simp;omega
 |read s h=>intro p hp;simp[Cq,wN];omega
 |ifs c l l' hc hl hl' ihl ihl'=>
  intro p hp;have h1:=Oi c hc;simp only[Dc,Gv]at hp;have hL:=Qp (l:=l) (p:=p++[32,32]) fun x hx=>ihl x hx _ (by have:=Gw hx;simp;omega);have hL':=Qp (l:=l') (p:=p++[32,32]) fun x hx=>ihl' x hx _ (by have:=Gw hx;simp;omega);simp only[Cq,wN,wL];cases l' with
  |nil=>simp;omega
  |cons y l'=>simp at hL'⊢;omega
 |whil c l hc hl ihl=>
  intro p hp;have h1:=Oi c hc;simp only[Dc,Gv]at hp;have hL:=Qp (l:=l) (p:=p++[32,32]) fun x hx=>ihl x hx _ (by have:=Gw hx;simp;omega);simp[Cq,wN,wL];omega
 |for_ s a b l h ha hb hl ihl=>
  intro p hp;have h1:=Fo a ha;have h2:=Fo b hb;simp only[Dc,Gv]at hp;have hL:=Qp (l:=l) (p:=p++[32,32]) fun x hx=>ihl x hx _ (by have:=Gw hx;simp;omega);obtain⟨k',s',m',l'⟩:=b;simp only[Cq,wN,wL]at h2⊢;simp;omega
 |check c hc=>intro p hp;have:=Oi c hc;simp[Cq,wN,wL];omega
 |skip=>intro p hp;simp[Cq,wN];omega
 |stop=>intro p hp;simp[Cq,wN];omega
theorem Aod(k:Int)(hk:k=30∨k=40)(ks:List Nd)(f:Nd→List UInt8)(p:List UInt8)(hp:p.length≤1000)(hw:wL ks≤100000)
 (hf:∀x,x∈ks→Pure X 217 [nd x,str p] (str (f x))∧(f x).length≤4060*wN x):Pure X 217 [nd (.mk k [] 0 ks),str p] (str (ks.map f).flatten):=by
 generalize hT:(ks.map f).flatten=T;have ne:∀j:Int,j≠30→j≠40→(k==j)=false:=fun j h1 h2=>by simp;omega
 have hkl:ks.length≤100000:=by
  have h1:=G6 (.mk k [] 0 ks);rw[Wo]at h1;simp at h1;omega
 refine Pure.run func217 ?_;refine Fg ?_ ?_
 ·simp;omega
 refine Ah ?_ (ht:=ne 31 (by omega) (by omega));refine Ah ?_ (ht:=ne 32 (by omega) (by omega));refine Ah ?_ (ht:=ne 21 (by omega) (by omega));refine Ah ?_ (ht:=ne 22 (by omega) (by omega));refine Ah ?_ (ht:=ne 23 (by omega) (by omega));refine Ah ?_ (ht:=ne 27 (by omega) (by omega));refine Ah ?_ (ht:=ne 28 (by omega) (by omega));refine Ah ?_ (ht:=ne 29 (by omega) (by omega));refine Ah ?_ (ht:=ne 25 (by omega) (by omega));refine Ah ?_ (ht:=ne 26 (by omega) (by omega));refine Ah ?_ (ht:=ne 24 (by omega) (by omega));refine Av (ι:=Nat) 1 0 (fun i=>i≤ks.length) (fun i=>[(9,vi i),(8,str ((ks.take i).map f).flatten),(2,.ptr 0 0 0),(1,str p)]) (fun _=>⟨[[Af (.mk k [] 0 ks)]],[]⟩) (fun i=>ks.length-i) ?_ 0 (Cc _)
  ⟨rfl,rfl,rfl,rfl,trivial⟩
 intro i hi IH;refine Dh (fun h=>?_) (fun h=>?_)
 ·have hlt:i<ks.length:=by have:=A7 h;rw[Ad]at this;simp at this;omega
  obtain⟨x,hx⟩:=Ab ks hlt;obtain⟨h1,h2⟩:=hf x (Bh hx);have hwx:=P2 (Bh hx);have h3:=Ac3 (l:=ks.take i) (f:=f) fun y hy=>(hf y (Agd hy)).2;have h4:wL (ks.take i)≤wL ks:=by
   have:∀(l:List Nd) (j:Nat),wL (l.take j)≤wL l:=by
    intro l
    induction l with
    |nil=>intro j;simp[wL]
    |cons y l ih=>intro j;cases j with
     |zero=>simp[wL]
     |succ j=>have:=ih j;simp only[List.take_succ_cons,wL];omega
   exact this ks i
  refine B7 i (by omega) (Am hx) ?_;refine Al h1 ?_;refine Fg ?_ ?_
  ·omega
  refine IH (i+1) hlt (by omega) _ _ ⟨vsx (by omega),?_,rfl,rfl,trivial⟩ rfl rfl rfl;rw[G7,hx];simp;rfl
 ·have:i=ks.length:=by have:=Bd h;rw[Ad]at this;simp at this;omega
  subst this;refine Az func217 ?_;rw[I8,hT];rfl
theorem Qq(x:Nd)(l:List Nd)(p:List UInt8)(h:∀x,x∈l→FS x)(hp:p.length+2*Gv l≤1000):(Ij l p).length≤4060*wL l:=
 Qp fun x hx=>Afg x (h x hx) p (by have:=Gw hx;omega)
theorem Yu(l:List Nd)(p:List UInt8)(hl:∀x,x∈l→FS x)(hp:p.length+2*Gv l≤1000)(hw:wL l≤100000)
 (ih:∀x,x∈l→∀p:List UInt8,p.length+2*Dc x≤1000→wN x≤100000→Pure X 217 [nd x,str p] (str (Cq x p))) :
 Pure X 217 [nd (.mk 30 [] 0 l),str p] (str (Ij l p)):=by
 rw[Sg];refine Aod 30 (.inl rfl) l _ p (by omega) hw fun x hx=>⟨ih x hx p (by have:=Gw hx;omega) (by have:=P2 hx;omega),Afg x (hl x hx) p (by have:=Gw hx;omega)⟩
theorem Axm(x:Nd)(h:FV x)(p:List UInt8)(hp:p.length≤1000)(hw:wN x≤100000):Pure X 217 [nd x,str p] (str (Cq x p)):=by
 cases h with
 |var s h=>
  simp[wN,wL]at hw;refine Pure.run func217 ?_;refine Fg ?_ ?_
  ·simp;omega
  refine A1 ?_;refine Fg ?_ ?_
  ·simp;omega
  refine Fg ?_ ?_
  ·simp;omega
  refine Fg ?_ ?_
  ·simp;omega
  refine Az func217 ?_;simp[Cq,C5]
 |arr s m h h0 h1=>
  simp[wN,wL]at hw;have hd:=Vg m.toNat (by omega)
  refine Pure.run func217 ?_;refine Fg ?_ ?_
  ·simp;omega
  refine Ah ?_;refine A1 ?_;refine Ag (fun h2=>?_) (fun h2=>?_)
  ·have h2':0≤m:=A7 h2;obtain⟨q,rfl⟩:∃q:Nat,m=q:=⟨m.toNat,by omega⟩
   refine Al (Ajn q (by omega)) ?_;simp only[Hc]at hd;refine Fg ?_ ?_
   ·simp;omega
   refine Fg ?_ ?_
   ·simp;omega
   refine Fg ?_ ?_
   ·simp;omega
   refine Fg ?_ ?_
   ·simp;omega
   refine Fg ?_ ?_
   ·simp;omega
   refine Az func217 ?_;simp[Cq,C5,h2']
  ·have h2':¬0≤m:=Bd h2;refine Fg ?_ ?_
   ·simp;omega
   refine Fg ?_ ?_
   ·simp;omega
   refine Fg ?_ ?_
   ·simp;omega
   refine Fg ?_ ?_
   ·simp;omega
   refine Fg ?_ ?_
   ·simp;omega
   refine Az func217 ?_;simp[Cq,C5,h2']
theorem Axl(x:Nd)(h:FS x):∀p:List UInt8,p.length+2*Dc x≤1000→wN x≤100000→Pure X 217 [nd x,str p] (str (Cq x p)):=by
 induction h with
 |set s a h ha=>
  intro p hp hw;refine Pure.run func217 ?_;refine Fg ?_ ?_
  ·simp;omega
  refine Ah ?_;refine Ah ?_;have hl:=Fo a ha;simp[wN,wL]at hw;refine A1 ?_;refine D8 0 ?_;refine Du ?_ ?_
  ·simp;omega
  refine Du ?_ ?_
  ·simp;omega
  refine Dv 0 (by omega) (Wc a _) ?_;refine Ci (Sq a ha (by omega)) ?_;refine Du ?_ ?_
  ·simp;omega
  refine Du ?_ ?_
  ·simp;omega
  refine B6 ?_;refine Az func217 ?_;simp[Cq,C5]
 |put s a b h ha hb=>
  intro p hp hw;refine Pure.run func217 ?_;refine Fg ?_ ?_
  ·simp;omega
  refine Ah ?_;refine Ah ?_;have hl:=Fo a ha;have hl2:=Fo b hb;simp[wN,wL]at hw;have hT:Cq (.mk 22 s 0 [a,b]) p=p++s++[91]++Bu a++[93,32,61,32]++Bu b++[59,10]:=by cases b;simp[Cq]
  rw[hT];refine Ah ?_;refine A1 ?_;refine D8 0 ?_;refine Du ?_ ?_
  ·simp;omega
  refine Du ?_ ?_
  ·simp;omega
  refine Dv 0 (by omega) (Wc a _) ?_;refine Ci (Sq a ha (by omega)) ?_;refine Du ?_ ?_
  ·simp;omega
  refine Du ?_ ?_
  ·simp;omega
  refine Dv 1 (by omega) (Aeh a b _) ?_;refine Ci (Sq b hb (by omega)) ?_;refine Du ?_ ?_
  ·simp;omega
  refine Du ?_ ?_
  ·simp;omega
  refine B6 ?_;refine Az func217 ?_;simp[C5]
 |read s h=>
  intro p hp hw;refine Pure.run func217 ?_;refine Fg ?_ ?_
  ·simp;omega
  refine Ah ?_;refine Ah ?_;simp[wN,wL]at hw;refine Ah ?_;refine Ah ?_;refine A1 ?_;refine Fg ?_ ?_
  ·simp;omega
  refine Fg ?_ ?_
  ·simp;omega
  refine Fg ?_ ?_
  ·simp;omega
  refine Az func217 ?_;simp[Cq,C5]
 |check c hc=>
  intro p hp hw;refine Pure.run func217 ?_;refine Fg ?_ ?_
  ·simp;omega
  refine Ah ?_;refine Ah ?_;have hl:=Oi c hc;simp[wN,wL]at hw;refine Ah ?_;refine Ah ?_;refine Ah ?_;refine A1 ?_;refine Fg ?_ ?_
  ·simp;omega
  refine B7 0 (by omega) (Wc c _) ?_;refine Al (Ahw c hc (by omega)) ?_;refine Fg ?_ ?_
  ·simp;omega
  refine Fg ?_ ?_
  ·simp;omega
  refine Az func217 ?_;simp[Cq,C5]
 |skip=>
  intro p hp hw;refine Pure.run func217 ?_;refine Fg ?_ ?_
  ·simp;omega
  refine Ah ?_;refine Ah ?_;refine Ah ?_;refine Ah ?_;refine Ah ?_;refine Ah ?_;refine A1 ?_;refine Fg ?_ ?_
  ·simp;omega
  refine Az func217 ?_;simp[Cq,C5]
 |stop=>
  intro p hp hw;refine Pure.run func217 ?_;refine Fg ?_ ?_
  ·simp;omega
  refine Ah ?_;refine Ah ?_;refine Ah ?_;refine Ah ?_;refine Ah ?_;refine Ah ?_;refine Ah ?_;refine A1 ?_;refine Fg ?_ ?_
  ·simp;omega
  refine Az func217 ?_;simp[Cq,C5]
 |whil c l hc hl ihl=>
  intro p hp hw;refine Pure.run func217 ?_;refine Fg ?_ ?_
  ·simp;omega
  refine Ah ?_;refine Ah ?_;have h1:=Oi c hc;simp only[Dc,Gv]at hp;simp[wN,wL]at hw;have hlen:=Qq c l (p++[32,32]) hl (by simp;omega);have hB:=Yu l (p++[32,32]) hl (by simp;omega) (by omega) ihl;refine Ah ?_;refine Ah ?_;refine Ah ?_;refine Ah ?_;refine Ah ?_;refine Ah ?_;refine A1 ?_;refine D8 0 ?_;refine Du ?_ ?_
  ·simp;omega
  refine Dv 0 (by omega) (Wc c _) ?_;refine Ci (Ahw c hc (by omega)) ?_;refine Du ?_ ?_
  ·simp;omega
  refine Du ?_ ?_
  ·simp;omega
  refine Dv 1 (by omega) (Aeh c _ _) ?_;refine Ci hB ?_;refine Du ?_ ?_
  ·simp;omega
  refine Du ?_ ?_
  ·simp;omega
  refine Du ?_ ?_
  ·simp;omega
  refine B6 ?_;refine Az func217 ?_;simp[Cq,C5]
 |for_ s a b l h ha hb hl ihl=>
  intro p hp hw;refine Pure.run func217 ?_;refine Fg ?_ ?_
  ·simp;omega
  refine Ah ?_;refine Ah ?_;have h1:=Fo a ha;have h2:=Fo b hb;simp only[Dc,Gv]at hp;simp[wN,wL]at hw;have hlen:=Qq a l (p++[32,32]) hl (by simp;omega);have hB:=Yu l (p++[32,32]) hl (by simp;omega) (by omega) ihl;have hT:Cq (.mk 26 s 0 [a,b,.mk 30 [] 0 l]) p=p++[102,111,114,32]++s++[32,102,114,111,109,32]++Bu a++[32,116,111,32]++Bu b++[32,123,10]++Ij l (p++[32,32])++p++[125,10]:=by
   cases b;simp[Cq]
  rw[hT];refine Ah ?_;refine Ah ?_;refine Ah ?_;refine Ah ?_;refine Ah ?_;refine Ah ?_;refine Ah ?_;refine A1 ?_;refine D8 0 ?_;refine Du ?_ ?_
  ·simp;omega
  refine Du ?_ ?_
  ·simp;omega
  refine Du ?_ ?_
  ·simp;omega
  refine Dv 0 (by omega) (Wc a _) ?_;refine Ci (Sq a ha (by omega)) ?_;refine Du ?_ ?_
  ·simp;omega
  refine Du ?_ ?_
  ·simp;omega
  refine Dv 1 (by omega) (Aeh a b _) ?_;refine Ci (Sq b hb (by omega)) ?_;refine Du ?_ ?_
  ·simp;omega
  refine Du ?_ ?_
  ·simp;omega
  refine Dv 2 (by omega) (Ayp a b _ _) ?_;refine Ci hB ?_;refine Du ?_ ?_
  ·simp;omega
  refine Du ?_ ?_
  ·simp;omega
  refine Du ?_ ?_
  ·simp;omega
  refine B6 ?_;refine Az func217 ?_;simp[C5]
 |ifs c l l' hc hl hl' ihl ihl'=>
  intro p hp hw;refine Pure.run func217 ?_;refine Fg ?_ ?_
  ·simp;omega
  refine Ah ?_;refine Ah ?_;have h1:=Oi c hc;simp only[Dc,Gv]at hp;simp[wN,wL]at hw;have hlen:=Qq c l (p++[32,32]) hl (by simp;omega);have hB:=Yu l (p++[32,32]) hl (by simp;omega) (by omega) ihl;have hlen':=Qq c l' (p++[32,32]) hl' (by simp;omega);have hB':=Yu l' (p++[32,32]) hl' (by simp;omega) (by omega) ihl';refine Ah ?_;refine Ah ?_;refine Ah ?_;refine Ah ?_;refine Ah ?_;refine Ah ?_;refine Ah ?_;refine Ah ?_;refine A1 ?_;refine D8 0 ?_;refine Du ?_ ?_
  ·simp;omega
  refine Dv 0 (by omega) (Wc c _) ?_;refine Ci (Ahw c hc (by omega)) ?_;refine Du ?_ ?_
  ·simp;omega
  refine Du ?_ ?_
  ·simp;omega
  refine Dv 1 (by omega) (Aeh c _ _) ?_;refine Ci hB ?_;refine Du ?_ ?_
  ·simp;omega
  refine Du ?_ ?_
  ·simp;omega
  refine B6 ?_;refine B7 2 (by omega) (Ayp c _ _ _) ?_;cases l' with
  |nil=>
   refine Ah ?_;refine Fg ?_ ?_
   ·simp;omega
   refine Az func217 ?_;simp[Cq,C5]
  |cons y l'=>
   refine A1 ?_ (ht:=Zg (by simp[Ap]));refine Fg ?_ ?_
   ·simp;omega
   refine B7 2 (by omega) (Ayp c _ _ _) ?_;refine Al hB' ?_;refine Fg ?_ ?_
   ·simp;omega
   refine Fg ?_ ?_
   ·simp;omega
   refine Fg ?_ ?_
   ·simp;omega
   refine Az func217 ?_;simp[Cq,C5]
def RS.wk(r:RS):Prop:=∀w:Wd,w∈r.ws→w.kind=Dd w.text
theorem RS.after.wk{r r':RS}(h:r.after r')(hw:r.wk):r'.wk:=by unfold RS.wk;rw[h.1];exact hw
theorem Alq{s:List UInt8}(h:Dd s=1):nameS s=true:=by
 simp only[Dd]at h;split at h
 ·simp at h
 ·split at h
  ·assumption
  ·split at h
   ·simp at h
   ·split at h<;>simp at h
theorem Aaa{s:List UInt8}(h:Dd s=2):0≤Dn s:=by
 simp only[Dd]at h;split at h
 ·simp at h
 ·split at h
  ·simp at h
  ·split at h
   ·assumption
   ·split at h<;>simp at h
theorem Ajl:∀(l:List UInt8)(n:Int),Qt n l≤1000000
 |[],n=>by simp only[Qt];split<;>omega
 |c::l,n=>by
  simp only[Qt];split
  ·exact Ajl l _
  ·omega
theorem Adi(s:List UInt8):Dn s≤1000000:=by
 unfold Dn;split
 ·omega
 ·split
  ·omega
  ·split
   ·omega
   ·exact Ajl _ _
theorem Ol{r:RS}(hw:r.wk)(h:r.kind≠0):r.kind=Dd r.text:=by
 have hlt:=Sd h;obtain⟨w,hwd⟩:=Ab r.ws hlt;have:=hw w (Bh hwd);simp only[RS.kind,RS.text,hwd];exact this
theorem Al2{r:RS}(hw:r.wk)(h:r.named=true):nameS r.text=true:=by
 simp only[RS.named,Mh,Pb,Age,zzq56]at h;have:=Ol hw (by rw[h.2];simp);exact Alq (by rw[←this];exact h.2)
theorem J2{r:RS}(hw:r.wk)(h:r.nameR.bad=false):r.named=true∧nameS r.name=true∧r.nameR=r.step∧r.bad=false:=by
 by_cases hn:r.named=true
 ·have hb:r.bad=false:=by simp only[RS.named,Mh,Pb]at hn;exact hn.1
  refine⟨hn,?_,by simp[RS.nameR,hn],hb⟩;simp only[RS.name,hn,if_true];exact Al2 hw hn
 ·simp only[RS.nameR,hn,RS.spoil]at h;simp at h
theorem Fw{r:RS}{s:List UInt8}(h:(r.need s).bad=false):r.takes s=true∧r.need s=r.step∧r.bad=false:=by
 by_cases hn:r.takes s=true
 ·refine⟨hn,by simp[RS.need,hn],?_⟩;simp only[RS.takes,Mh,Pb]at hn;exact hn.1
 ·simp only[RS.need,hn,RS.spoil]at h;simp at h
theorem Aas{r:RS}{s:List UInt8}(h:r.takes s=true):r.bad=false:=by
 simp only[RS.takes,Mh,Pb]at h;exact h.1
theorem Jb{b c:Bool}(h:b=true→c=true)(hc:c=false):b=false:=by
 cases b
 ·rfl
 ·rw[h rfl]at hc;cases hc
theorem Ali:∀(f:Nat),(∀r:RS,r.ok→r.wk→4*r.left+1≤f→(Fc f r).2.bad=false→FE (Fc f r).1∧r.at_+Ai (Fc f r).1≤(Fc f r).2.at_) ∧
 (∀r:RS,r.ok→r.wk→4*r.left+2≤f→(Ed f r).2.bad=false→FE (Ed f r).1∧r.at_+Ai (Ed f r).1≤(Ed f r).2.at_) ∧
 (∀(x:Nd)(a:Nat)(r:RS),r.ok→r.wk→FE x→a+Ai x≤r.at_→4*r.left+1≤f→(Hv f x r).2.bad=false→FE (Hv f x r).1∧a+Ai (Hv f x r).1≤(Hv f x r).2.at_) ∧
 (∀r:RS,r.ok→r.wk→4*r.left+3≤f→(Ev f r).2.bad=false→FE (Ev f r).1∧r.at_+Ai (Ev f r).1≤(Ev f r).2.at_) ∧
 (∀(x:Nd)(a:Nat)(r:RS),r.ok→r.wk→FE x→a+Ai x≤r.at_→4*r.left+2≤f→(G5 f x r).2.bad=false→FE (G5 f x r).1∧a+Ai (G5 f x r).1≤(G5 f x r).2.at_):=by
 intro f
 induction f with
 |zero=>exact⟨fun r _ _ h=>by omega,fun r _ _ h=>by omega,fun x a r _ _ _ _ h=>by omega,fun r _ _ h=>by omega,fun x a r _ _ _ _ h=>by omega⟩
 |succ f ih=>
  obtain⟨i1,i2,i3,i4,i5⟩:=ih;obtain⟨b1,b2,b3,b4,b5⟩:=Z0 f;obtain⟨a1,a2,a3,a4,a5⟩:=Fh f;refine⟨fun r ho hw hf hg=>?_,fun r ho hw hf hg=>?_,fun x a r ho hw hx ha hf hg=>?_,fun r ho hw hf hg=>?_,fun x a r ho hw hx ha hf hg=>?_⟩
  ·have hb:r.bad=false:=Jb (fun h=>(Z0 (f+1)).1 r h) hg;simp only[Fc]at hg⊢;rw[if_neg (by simp[hb])]at hg⊢;split at hg
   ·rename_i ht;have hl:=(Ay ht (by simp)).1;have ls:=Cb hl;have s:=Aj hl;obtain⟨g1,g2⟩:=i1 r.step (s.ok ho) (s.wk hw) (by omega) hg;rw[if_pos ht];refine⟨.neg _ g1,?_⟩;simp only[Ai,A3,RS.step]at g2⊢;omega
   rename_i ht1;rw[if_neg ht1];split at hg
   ·rename_i hk;rw[if_pos hk];have hk':r.kind=2:=by simpa using hk
    have:=Ol hw (by rw[hk'];simp);refine⟨.num _ (Aaa (by rw[←this];exact hk')) (Adi _),?_⟩;simp[Ai,A3,RS.step]
   rename_i hk;rw[if_neg hk];split at hg
   ·rename_i ht;have hl:=(Ay ht (by simp)).1;have ls:=Cb hl;have s:=Aj hl;obtain⟨n1,n2,n3⟩:=Fw hg;obtain⟨g1,g2⟩:=i4 r.step (s.ok ho) (s.wk hw) (by omega) n3;rw[if_pos ht];refine⟨g1,?_⟩;simp only[n2];simp only[RS.step]at g2⊢;omega
   rename_i ht2;rw[if_neg ht2];split at hg
   ·rename_i ht;have hl:=(Ay ht (by simp)).1;have s:=Aj hl;obtain⟨n1,n2,n3⟩:=Fw hg;have s2:=s.trans (Bb (s:=[40]) (s.ok ho) (by simp));obtain⟨m1,m2,m3,m4⟩:=J2 (s2.wk hw) n3;rw[if_pos ht];refine⟨.len _ m2,?_⟩;have e4:=(Fw m4).2.1;have:((r.step.need [40]).nameR.need [41]).at_=r.at_+4:=by rw[n2,m3,e4];rfl
    simp only[Ai,A3];omega
   rename_i ht3;rw[if_neg ht3];split at hg
   ·rename_i ht;rw[if_pos ht];obtain⟨m1,m2,m3,m4⟩:=J2 hw (Aas ht);have hl:=(Ay ht (by simp)).1;have s:=(Cv ho).trans (Aj hl);have s':=Bf (Cv ho);have ls:=Cb hl;obtain⟨n1,n2,n3⟩:=Fw hg;obtain⟨g1,g2⟩:=i4 r.nameR.step (s.ok ho) (s.wk hw) (by omega) n3;refine⟨.cell _ _ m2 g1,?_⟩;simp only[n2];simp only[m3,RS.step,Ai,A3]at g2⊢;omega
   ·rename_i ht;rw[if_neg ht];obtain⟨m1,m2,m3,m4⟩:=J2 hw hg;refine⟨.var _ m2,?_⟩;simp[m3,RS.step,Ai,A3]
  ·simp only[Ed]at hg⊢;have h1:=Jb (b3 (Fc f r).1 (Fc f r).2) hg;obtain⟨g1,g2⟩:=i1 r ho hw (by omega) h1;have af:=a1 r ho;have lf:=Bf af;exact i3 _ r.at_ _ (af.ok ho) (af.wk hw) g1 g2 (by omega) hg
  ·simp only[Hv]at hg⊢;split at hg
   ·rename_i ht;rw[if_pos ht];have hl:=(Ay ht (by simp)).1;have ls:=Cb hl;have s:=Aj hl;have h1:=Jb (b3 _ (Fc f r.step).2) hg;obtain⟨g1,g2⟩:=i1 r.step (s.ok ho) (s.wk hw) (by omega) h1;have af:=s.trans (a1 r.step (s.ok ho));have lf:=Bf (a1 r.step (s.ok ho));refine i3 _ a _ (af.ok ho) (af.wk hw) (.two 8 _ _ (by simp) hx g1) ?_ (by omega) hg;simp only[RS.step,Ai,A3]at g2⊢;omega
   ·rename_i ht;rw[if_neg ht];exact⟨hx,ha⟩
  ·simp only[Ev]at hg⊢;have h1:=Jb (b5 (Ed f r).1 (Ed f r).2) hg;obtain⟨g1,g2⟩:=i2 r ho hw (by omega) h1;have af:=a2 r ho;have lf:=Bf af;exact i5 _ r.at_ _ (af.ok ho) (af.wk hw) g1 g2 (by omega) hg
  ·simp only[G5]at hg⊢;split at hg
   ·rename_i ht;rw[if_pos ht];have hl:=(Ay ht (by simp)).1;have ls:=Cb hl;have s:=Aj hl;have h1:=Jb (b5 _ (Ed f r.step).2) hg;obtain⟨g1,g2⟩:=i2 r.step (s.ok ho) (s.wk hw) (by omega) h1;have af:=s.trans (a2 r.step (s.ok ho));have lf:=Bf (a2 r.step (s.ok ho));refine i5 _ a _ (af.ok ho) (af.wk hw) (.two 6 _ _ (by simp) hx g1) ?_ (by omega) hg;simp only[RS.step,Ai,A3]at g2⊢;omega
   ·rename_i ht1;rw[if_neg ht1];split at hg
    ·rename_i ht;rw[if_pos ht];have hl:=(Ay ht (by simp)).1;have ls:=Cb hl;have s:=Aj hl;have h1:=Jb (b5 _ (Ed f r.step).2) hg;obtain⟨g1,g2⟩:=i2 r.step (s.ok ho) (s.wk hw) (by omega) h1;have af:=s.trans (a2 r.step (s.ok ho));have lf:=Bf (a2 r.step (s.ok ho));refine i5 _ a _ (af.ok ho) (af.wk hw) (.two 7 _ _ (by simp) hx g1) ?_ (by omega) hg;simp only[RS.step,Ai,A3]at g2⊢;omega
    ·rename_i ht;rw[if_neg ht];exact⟨hx,ha⟩
theorem Kw{r:RS}(ho:r.ok)(hw:r.wk)(h:(B9 r).2.bad=false):FE (B9 r).1∧r.at_+Ai (B9 r).1≤(B9 r).2.at_:=
 (Ali 6010).2.2.2.1 r ho hw (by have:=ho.1;simp only[RS.left];omega) h
theorem Ads{s:List UInt8}(h:relS s≠0):11≤relS s∧relS s≤16:=by
 unfold relS at h⊢
 repeat' split
 all_goals (first|omega|simp_all)
theorem Rv{r:RS}(ho:r.ok)(hw:r.wk)(h:(Dk r).2.bad=false):FC (Dk r).1∧r.at_+Ai (Dk r).1≤(Dk r).2.at_:=by
 simp only[Dk]at h⊢;split at h
 ·simp[RS.spoil]at h
 ·rename_i hc;rw[if_neg hc];simp only[O9,not_or,zzq56,Bool.not_eq_true]at hc;have hl:=Vu hc.2;have a:=Ca ho;have b:=a.trans (Aj hl);obtain⟨g1,g2⟩:=Kw ho hw hc.1;obtain⟨g3,g4⟩:=Kw (b.ok ho) (b.wk hw) h;have hr:=Ads hc.2;refine⟨.mk _ _ _ hr.1 hr.2 g1 g3,?_⟩;simp only[RS.step,Ai,A3]at g4⊢;omega
theorem Asd{r:RS}(h:r.bad=true):(Qz r).2.bad=true:=by
 simp only[Qz];rw[if_neg (by simp[Dq (Aev h)])];exact Ob (Tz (Aev h) _)
theorem Aiq{r:RS}(h:r.bad=true):(C1 r).2.bad=true:=by
 simp only[C1];rw[if_neg (by simp[Dq h]),if_neg (by simp[Dq h]),if_neg (by simp[Dq h]),if_neg (by simp[Dq h])];exact Asd h
theorem Aia{r:RS}(ho:r.ok)(hw:r.wk)(h:(C1 r).2.bad=false):FS (C1 r).1∧r.at_+Ai (C1 r).1≤(C1 r).2.at_:=by
 simp only[C1]at h⊢;split at h
 ·rename_i ht;rw[if_pos ht];have s:=Aj (Ay ht (by simp)).1;obtain⟨g1,g2⟩:=Rv (s.ok ho) (s.wk hw) h;refine⟨.check _ g1,?_⟩;simp only[RS.step,Ai,A3]at g2⊢;omega
 rename_i ht1;rw[if_neg ht1];split at h
 ·rename_i ht;rw[if_pos ht];have s:=Aj (Ay ht (by simp)).1;obtain⟨m1,m2,m3,m4⟩:=J2 (s.wk hw) h;refine⟨.read _ m2,?_⟩;rw[m3];simp[RS.step,Ai,A3]
 rename_i ht2;rw[if_neg ht2];split at h
 ·rename_i ht;rw[if_pos ht];exact⟨.skip,by simp[RS.step,Ai,A3]⟩
 rename_i ht3;rw[if_neg ht3];split at h
 ·rename_i ht;rw[if_pos ht];exact⟨.stop,by simp[RS.step,Ai,A3]⟩
 rename_i ht4;rw[if_neg ht4];simp only[Qz]at h⊢;split at h
 ·rename_i ht;rw[if_pos ht];obtain⟨m1,m2,m3,m4⟩:=J2 hw (Aas ht);have s:=(Cv ho).trans (Aj (Ay ht (by simp)).1);have a1:=s.trans (Ca (s.ok ho));have a2:=a1.trans (Bb (s:=[93]) (a1.ok ho) (by simp));have a3:=a2.trans (Bb (s:=[61]) (a2.ok ho) (by simp));have hb:=Jb (fun h=>Ob h) h;obtain⟨n1,n2,n3⟩:=Fw hb;obtain⟨n4,n5,n6⟩:=Fw n3;obtain⟨g1,g2⟩:=Kw (s.ok ho) (s.wk hw) n6;obtain⟨g3,g4⟩:=Kw (a3.ok ho) (a3.wk hw) h;refine⟨.put _ _ _ m2 g1 g3,?_⟩;have e1:(((B9 r.nameR.step).2.need [93]).need [61]).at_=(B9 r.nameR.step).2.at_+2:=by rw[n2,n5];rfl
  have e2:r.nameR.step.at_=r.at_+2:=by rw[m3];rfl
  simp only[Ai,A3];omega
 ·rename_i ht;rw[if_neg ht];have a1:=Cv ho;have a2:=a1.trans (Bb (s:=[61]) (a1.ok ho) (by simp));have hb:=Jb (fun h=>Ob h) h;obtain⟨n1,n2,n3⟩:=Fw hb;obtain⟨m1,m2,m3,m4⟩:=J2 hw n3;obtain⟨g3,g4⟩:=Kw (a2.ok ho) (a2.wk hw) h;refine⟨.set _ _ m2 g3,?_⟩;have e1:(r.nameR.need [61]).at_=r.at_+2:=by rw[n2,m3];rfl
  simp only[Ai,A3];omega
theorem Af0:∀(f:Nat),(∀r:RS,r.bad=true→(C9 f r).2.bad=true)∧(∀r:RS,r.bad=true→(Cs f r).2.bad=true)∧(∀(acc:List Nd)(r:RS),r.bad=true→(D7 f acc r).2.bad=true):=by
 intro f
 induction f with
 |zero=>exact⟨fun r h=>by simpa only[C9]using h,fun r h=>by simpa only[Cs]using h,fun x r h=>by simpa only[D7]using h⟩
 |succ f ih=>
  obtain⟨i1,i2,i3⟩:=ih;refine⟨fun r h=>?_,fun r h=>?_,fun acc r h=>?_⟩
  ·simp only[C9];rw[if_neg (by simp[Dq h]),if_neg (by simp[Dq h]),if_neg (by simp[Dq h])];exact Tz (Aiq h) _
  ·simp only[Cs];exact Tz (i3 _ _ (Tz h _)) _
  ·simp only[D7];rw[if_neg (by simp[h])];exact h
theorem Rw(l:List Nd)(x:Nd):A3 (l++[x])=A3 l+Ai x:=by rw[M0];simp[A3]
theorem Vy(r:RS):r.step.at_=r.at_+1:=rfl
theorem Amr:∀(f:Nat),(∀r:RS,r.ok→r.wk→3*r.left+1≤f→(C9 f r).2.bad=false→FS (C9 f r).1∧r.at_+Ai (C9 f r).1≤(C9 f r).2.at_) ∧
 (∀r:RS,r.ok→r.wk→3*r.left+3≤f→(Cs f r).2.bad=false→∃l,(Cs f r).1=.mk 30 [] 0 l∧(∀x,x∈l→FS x)∧r.at_+2+A3 l≤(Cs f r).2.at_) ∧
 (∀(acc:List Nd)(a:Nat)(r:RS),r.ok→r.wk→(∀x,x∈acc→FS x)→a+A3 acc≤r.at_→3*r.left+2≤f→(D7 f acc r).2.bad=false→(∀x,x∈(D7 f acc r).1→FS x)∧a+A3 (D7 f acc r).1≤(D7 f acc r).2.at_):=by
 intro f
 induction f with
 |zero=>exact⟨fun r _ _ h=>by omega,fun r _ _ h=>by omega,fun x a r _ _ _ _ h=>by omega⟩
 |succ f ih=>
  obtain⟨i1,i2,i3⟩:=ih;obtain⟨b1,b2,b3⟩:=Af0 f;obtain⟨a1,a2,a3⟩:=Fx f;refine⟨fun r ho hw hf hg=>?_,fun r ho hw hf hg=>?_,fun acc a r ho hw hx ha hf hg=>?_⟩
  ·simp only[C9]at hg⊢;split at hg
   ·rename_i ht;rw[if_pos ht];have hl:=(Ay ht (by simp)).1;have ls:=Cb hl;have s:=Aj hl;have c:=s.trans (Dw (s.ok ho));have lc:=Bf (Dw (s.ok ho));split at hg
    ·rename_i ht2;rw[if_pos ht2];have hl2:=(Ay ht2 (by simp)).1;have ls2:=Cb hl2;have d:=c.trans (a2 _ (c.ok ho));have ld:=Bf (a2 _ (c.ok ho));have e:=d.trans (Aj hl2);have hb1:=Aas ht2;have hb2:=Jb (b2 (Dk r.step).2) hb1;obtain⟨g1,g2⟩:=Rv (s.ok ho) (s.wk hw) hb2;obtain⟨l,e1,h1,h2⟩:=i2 _ (c.ok ho) (c.wk hw) (by omega) hb1;obtain⟨l',e2,h3,h4⟩:=i2 _ (e.ok ho) (e.wk hw) (by omega) hg;rw[e1,e2];refine⟨.ifs _ _ _ g1 h1 h3,?_⟩;simp only[Vy,Ai,A3]at g2 h4⊢;omega
    ·rename_i ht2;rw[if_neg ht2];have hb2:=Jb (b2 (Dk r.step).2) hg;obtain⟨g1,g2⟩:=Rv (s.ok ho) (s.wk hw) hb2;obtain⟨l,e1,h1,h2⟩:=i2 _ (c.ok ho) (c.wk hw) (by omega) hg;rw[e1];refine⟨.ifs _ _ [] g1 h1 (fun x hx=>by cases hx),?_⟩;simp only[Vy,Ai,A3]at g2⊢;omega
   rename_i ht1;rw[if_neg ht1];split at hg
   ·rename_i ht;rw[if_pos ht];have hl:=(Ay ht (by simp)).1;have ls:=Cb hl;have s:=Aj hl;have c:=s.trans (Dw (s.ok ho));have lc:=Bf (Dw (s.ok ho));have hb2:=Jb (b2 (Dk r.step).2) hg;obtain⟨g1,g2⟩:=Rv (s.ok ho) (s.wk hw) hb2;obtain⟨l,e1,h1,h2⟩:=i2 _ (c.ok ho) (c.wk hw) (by omega) hg;rw[e1];refine⟨.whil _ _ g1 h1,?_⟩;simp only[Vy,Ai,A3]at g2⊢;omega
   rename_i ht2;rw[if_neg ht2];split at hg
   ·rename_i ht;rw[if_pos ht];have hl:=(Ay ht (by simp)).1;have ls:=Cb hl;have s:=Aj hl;have fa:=s.trans (R6 (s.ok ho));have fb:=s.trans (Kx (s.ok ho));have lb:=Bf (Kx (s.ok ho));have d:=fb.trans (Ca (fb.ok ho));have ld:=Bf (Ca (fb.ok ho));have hb2:=Jb (b2 _) hg;have hb3:=Jb (fun h=>Ob h) hb2;obtain⟨n1,n2,n3⟩:=Fw (r:=(B9 (Yk r.step)).2) (s:=wTo) hb3;have hb4:=Jb (fun h=>Ob h) n3;obtain⟨n4,n5,n6⟩:=Fw (r:=r.step.nameR) (s:=Jl) hb4;obtain⟨m1,m2,m3,m4⟩:=J2 (s.wk hw) n6;obtain⟨g1,g2⟩:=Kw (fa.ok ho) (fa.wk hw) n3;obtain⟨g3,g4⟩:=Kw (fb.ok ho) (fb.wk hw) hb2;obtain⟨l,e1,h1,h2⟩:=i2 _ (d.ok ho) (d.wk hw) (by omega) hg;rw[e1];refine⟨.for_ _ _ _ _ m2 g1 g3 h1,?_⟩;have e2:(Z3 r.step).at_=(B9 (Yk r.step)).2.at_+1:=by show ((B9 (Yk r.step)).2.need wTo).at_=_;rw[n2];rfl
    have e3:(Yk r.step).at_=r.at_+3:=by show (r.step.nameR.need Jl).at_=_;rw[n5,m3];rfl
    simp only[Ai,A3];omega
   ·rename_i ht3;rw[if_neg ht3];obtain⟨n1,n2,n3⟩:=Fw hg;obtain⟨g1,g2⟩:=Aia ho hw n3;refine⟨g1,?_⟩;rw[n2];show r.at_+Ai (C1 r).1≤(C1 r).2.at_+1;omega
  ·simp only[Cs]at hg⊢;obtain⟨n1,n2,n3⟩:=Fw hg;have hb:=Jb (b3 [] _) n3;obtain⟨n4,n5,n6⟩:=Fw hb;have hl:=(Ay n4 (by simp)).1;have ls:=Cb hl;have s:=Bb (s:=[123]) ho (by simp);rw[n5]at s n3 n2⊢;obtain⟨g1,g2⟩:=i3 [] r.step.at_ _ (s.ok ho) (s.wk hw) (fun x hx=>by cases hx) (by simp[A3]) (by omega) n3;refine⟨_,rfl,g1,?_⟩;rw[n2];simp only[Vy]at g2⊢;omega
  ·simp only[D7]at hg⊢;split at hg
   ·rename_i hc;rw[if_pos hc];have af:=a1 r ho;have lf:=Bf af;obtain⟨p,rfl⟩:∃p,f=p+1:=⟨f-1,by omega⟩
    have hb:=Jb (b3 _ (C9 (p+1) r).2) hg;obtain⟨g1,g2⟩:=i1 r ho hw (by omega) hb;have hon:r.at_<(C9 (p+1) r).2.at_:=by
     rcases Y3 p ho with h|h
     ·rw[hb]at h;cases h
     ·exact h
    have hlt:(C9 (p+1) r).2.left+1≤r.left:=by
     have e1:=af.1;have e2:=af.2.2;simp only[RS.left,e1]at *;omega
    refine i3 _ a _ (af.ok ho) (af.wk hw) (fun x hx'=>?_) ?_ (by omega) hg
    ·rcases zzq47.1 hx' with h|h
     ·exact hx x h
     ·simp at h;subst h;exact g1
    ·rw[Rw];omega
   ·rename_i hc;rw[if_neg hc];exact⟨hx,ha⟩
theorem Amn{r:RS}(hw:r.wk)(h:(Iw r).2.bad=false):-1≤(Iw r).1∧(Iw r).1≤1000000∧(Iw r).2.at_=r.at_+1∧r.bad=false:=by
 simp only[Iw]at h⊢;split at h
 ·rename_i hc;rw[if_pos hc];simp only[Da,Mh,zzq56]at hc;have hk:=Ol hw (by rw[hc.2];simp);have:=Aaa (by rw[←hk];exact hc.2);exact⟨by simp only;omega,Adi _,rfl,hc.1⟩
 ·rename_i hc;rw[if_neg hc];obtain⟨n1,n2,n3⟩:=Fw h;exact⟨by simp,by simp,by rw[n2];rfl,n3⟩
theorem Alg{r:RS}(ho:r.ok)(hw:r.wk)(hd:Hn r=true)(h:(Jg r).2.bad=false):FV (Jg r).1∧Ai (Jg r).1=1∧r.at_+1≤(Jg r).2.at_:=by
 have af:=K7 ho hd;have hlt:=af.2;have s:=Aj hlt;refine⟨?_,?_,?_⟩
 ·simp only[Jg]at h⊢;split at h
  ·rename_i ht;rw[if_pos ht];exact .var _ (J2 (s.wk hw) h).2.1
  ·rename_i ht;rw[if_neg ht];obtain⟨n1,n2,n3⟩:=Fw h;have s2:=s.trans (Cv (s.ok ho));have s3:=s2.trans (Bb (s:=[91]) (s2.ok ho) (by simp));obtain⟨g1,g2,g3,g4⟩:=Amn (s3.wk hw) n3;obtain⟨n4,n5,n6⟩:=Fw g4;exact .arr _ _ (J2 (s.wk hw) n6).2.1 g1 g2
 ·simp only[Jg];split<;>simp[Ai,A3]
 ·have:=af.1.2.1;rw[Vy]at this;exact this
theorem Ak7:∀(f:Nat)(acc:List Nd)(r:RS),r.bad=true→(E6 f acc r).2.bad=true
 |0,acc,r,h=>by simpa only[E6]using h
 |f+1,acc,r,h=>by simp only[E6];rw[if_neg (by simp[Hn,Dq h])];exact h
theorem Aa0:∀(f:Nat)(acc:List Nd)(a:Nat)(r:RS),r.ok→r.wk→(∀x,x∈acc→FV x)→a+A3 acc≤r.at_→(E6 f acc r).2.bad=false →
 (∀x,x∈(E6 f acc r).1→FV x)∧a+A3 (E6 f acc r).1≤(E6 f acc r).2.at_
 |0,acc,a,r,ho,hw,hx,ha,h=>by simp only[E6]at h⊢;exact⟨hx,ha⟩
 |f+1,acc,a,r,ho,hw,hx,ha,h=>by
  simp only[E6]at h⊢;split at h
  ·rename_i hd;rw[if_pos hd];have hb:=Jb (Ak7 f _ _) h;obtain⟨n1,n2,n3⟩:=Fw hb;obtain⟨g1,g2,g3⟩:=Alg ho hw hd n3;obtain⟨d1,d2⟩:=K7 ho hd;have s:=(Aj d2).trans d1;have s2:=s.trans (Bb (s:=[59]) (s.ok ho) (by simp));refine Aa0 f _ a _ (s2.ok ho) (s2.wk hw) (fun x hx'=>?_) ?_ h
   ·rcases zzq47.1 hx' with h'|h'
    ·exact hx x h'
    ·simp at h';subst h';exact g1
   ·rw[Rw,n2,Vy];omega
  ·rename_i hd;rw[if_neg hd];exact⟨hx,ha⟩
theorem Xj{r:RS}(ho:r.ok)(hw:r.wk)(h:(El r).2.bad=false):FP (El r).1∧r.at_+Ai (El r).1≤(El r).2.at_+2∧(El r).2.at_=r.ws.length:=by
 simp only[El]at h⊢;generalize hT:E6 2000 [] r=T at h⊢;have aT:r.after T.2:=by rw[←hT];exact N5 2000 [] r ho
 have aL:=(Fx 5000).2.2 [] T.2 (aT.ok ho);simp only[RS.ends]at h⊢;split at h
 ·simp[RS.spoil]at h
 ·rename_i hc;rw[if_neg hc];have hb:=Jb ((Af0 5000).2.2 [] T.2) h;obtain⟨g1,g2⟩:=(Amr 5000).2.2 [] T.2.at_ T.2 (aT.ok ho) (aT.wk hw) (fun x hx=>by cases hx) (by simp[A3]) (by have:=(aT.ok ho).1;simp only[RS.left];omega) h;obtain⟨g3,g4⟩:=Aa0 2000 [] r.at_ r ho hw (fun x hx=>by cases hx) (by simp[A3]) (by rw[hT];exact hb);rw[hT]at g3 g4;refine⟨.mk _ _ g3 g1,?_,?_⟩
  ·simp only[Ai,Rw,A3];omega
  ·have e:=(aT.trans aL).1;have:=aL.2.2;have e2:(D7 5000 [] T.2).2.ws=r.ws:=e;rw[e2]at this hc;omega
theorem Ie{X:Cx}{B:Bx}{F:C3}{S:St}{R:AE→St→Prop}{K:List Item}(d:Nat)(y:AV)(hk:AK X B K ((d,y)::F) S R)(h:lk F d=some y:=by rfl):AK X B K F S R:=by
 intro E w a b cs hI hF hn hm hb;refine hk E w a b cs hI ⟨hF.size,hF.nod,fun k z hz=>?_⟩ hn hm hb;rw[J1]at hz;split at hz
 ·rename_i he;subst he;cases hz;exact hF.rel _ _ h
 ·exact hF.rel k z hz
theorem Aga:∀(f a:Nat)(r:List UInt8)(out:List Wd),out.length≤1500→(∀w,w∈out→w.kind=Dd w.text)→(Hg f a r out).1.length≤1500∧∀w,w∈(Hg f a r out).1→w.kind=Dd w.text
 |0,a,r,out,h1,h2=>by simp only[Hg];exact⟨h1,h2⟩
 |f+1,a,[],out,h1,h2=>by simp only[Hg];exact⟨h1,h2⟩
 |f+1,a,c::l,out,h1,h2=>by
  simp only[Hg];split
  ·exact⟨by simp,fun w hw=>by cases hw⟩
  ·split
   ·exact⟨by simp,fun w hw=>by cases hw⟩
   ·rename_i hk;refine Aga f _ _ _ ?_ fun w hw=>?_
    ·simp at hk⊢;omega
    ·rcases zzq47.1 hw with h|h
     ·exact h2 w h
     ·simp at h;subst h;rfl
theorem Agb(s:List UInt8):(C4 s).1.length≤1500∧∀w,w∈(C4 s).1→w.kind=Dd w.text:=by
 unfold C4;split
 ·exact⟨by simp,fun w hw=>by cases hw⟩
 ·exact Aga _ _ _ _ (by simp) (fun w hw=>by cases hw)
def RS.place(r:RS)(e:Nat):Nat:=match r.ws[r.at_]? with
 |some w=>w.pos
 |none=>e
def rs0(s:List UInt8):RS:=⟨(C4 s).1,0,false⟩
theorem Ah7(s:List UInt8):(rs0 s).ok:=⟨(Agb s).1,Cc _⟩
theorem Ah8(s:List UInt8):(rs0 s).wk:=(Agb s).2
def E8(s:List UInt8):Nd×Int×Int:=
 if (C4 s).2.1=0 then
  (if (El (rs0 s)).2.bad then(Cg,4,(El (rs0 s)).2.place s.length)
  else if 500<Ai (El (rs0 s)).1∨24<Dc (El (rs0 s)).1 then(Cg,5,0)else((El (rs0 s)).1,0,0))
 else(Cg,(C4 s).2.1,(C4 s).2.2)
theorem Ajq{s:List UInt8}(h:(E8 s).2.1=0):FP (E8 s).1∧Ai (E8 s).1≤500∧Dc (E8 s).1≤24:=by
 unfold E8 at h⊢;split at h
 ·rename_i h0;rw[if_pos h0];split at h
  ·simp at h
  ·rename_i hb;rw[if_neg hb];split at h
   ·simp at h
   ·rename_i hl;rw[if_neg hl];have:=Xj (Ah7 s) (Ah8 s) (by simpa using hb);exact⟨this.1,by simp only;omega,by simp only;omega⟩
 ·rename_i h0;exact absurd h h0
theorem Ajs{r:RS}(ho:r.ok):r.after (El r).2:=by
 simp only[El];have aT:r.after (E6 2000 [] r).2:=N5 2000 [] r ho;have aL:=(Fx 5000).2.2 [] (E6 2000 [] r).2 (aT.ok ho);have a:=aT.trans aL;simp only[RS.ends];split
 ·exact a.trans (Pq (a.ok ho))
 ·exact a
theorem I9{s:List UInt8}(h:nameS s=true):s.length≤8:=by
 unfold nameS at h;split at h
 ·simp
 ·simp only[Da,J9]at h;have:=h.1.1.1;simp;omega
theorem Axo(s:List UInt8)(hs:s.length≤1000000000):Pure X 218 [str s] (.tup [nd (E8 s).1,.agg [vi (E8 s).2.1,vi (E8 s).2.2]]):=by
 have hw:Pure X 262 [str s] (.tup [.sl (Hj (C4 s).1) .no,.agg [vi (C4 s).2.1,vi (C4 s).2.2]]):=Axv s hs;refine Pure.run func218 ?_;refine Al hw ?_;refine Ag (fun h=>?_) (fun h=>?_)
 ·have h':(C4 s).2.1≠0:=by have:(!((C4 s).2.1==0))=true:=h;simpa using this
  have hP:E8 s=(Cg,(C4 s).2.1,((C4 s).2.2:Int)):=by simp only[E8];rw[if_neg h']
  rw[hP];refine D8 12 ?_;refine Dx (A8 rfl rfl rfl rfl rfl rfl rfl) ?_ ?_
  ·exact An (Cn rfl rfl rfl) G0
  refine Ch (A8 rfl rfl rfl rfl rfl rfl rfl) ?_;refine B6 ?_;refine Au func218 ?_;rfl
 have h':(C4 s).2.1=0:=by have:(!((C4 s).2.1==0))=false:=h;simpa using this
 have hP:E8 s=if (El (rs0 s)).2.bad then(Cg,4,((El (rs0 s)).2.place s.length:Int))else if 500<Ai (El (rs0 s)).1∨24<Dc (El (rs0 s)).1 then(Cg,5,0)else((El (rs0 s)).1,0,0):=by
  simp only[E8];rw[if_pos h']
 rw[hP];have ho:=Ah7 s;refine Ie 6 (.ptr 3 0 0) ?_;refine Ie 22 (.ptr 3 0 0) ?_;refine Ae [3] [] (A1w (rs0 s) ho) ?_;have hws:(El (rs0 s)).2.ws=(C4 s).1:=(Ajs ho).1;have good:=Xj ho (Ah8 s);have hl0:=(Ah7 s).1;generalize El (rs0 s)=q at good hws⊢;refine Ag (fun h1=>?_) (fun h1=>?_)
 ·have h1':q.2.bad=true:=h1;rw[if_pos h1'];refine Ag (fun h2=>?_) (fun h2=>?_)
  ·have hlt:q.2.at_<(C4 s).1.length:=by have:=A7 h2;rw[Dz]at this;omega
   obtain⟨w,hw⟩:=Ab (C4 s).1 hlt;have hp:q.2.place s.length=w.pos:=by simp[RS.place,hws,hw]
   refine B7 q.2.at_ (by omega) (Rb hw) ?_;refine Au func218 ?_;rw[hp];rfl
  ·have hlt:(C4 s).1.length≤q.2.at_:=by have:=Bd h2;rw[Dz]at this;omega
   have hp:q.2.place s.length=s.length:=by simp[RS.place,hws,U3 hlt]
   refine Au func218 ?_;rw[hp];rfl
 ·have h1':q.2.bad=false:=h1;obtain⟨g1,g2,g3⟩:=good h1';have hc:Ai q.1≤4000000000:=by
   have e:(rs0 s).at_=0:=rfl;omega
  rw[if_neg (by simp[h1'])];refine Al (Aob q.1 hc) ?_;refine Db (fun h2=>?_) (fun h2=>?_)
  ·have h2':500<Ai q.1:=by have:=A7 h2;omega
   rw[if_pos (.inl h2')];refine A1 ?_;refine Au func218 ?_;rfl
  ·have h2':¬500<Ai q.1:=by have:=Bd h2;omega
   refine Al (Aoc q.1 hc) ?_;refine Ag (fun h3=>?_) (fun h3=>?_)
   ·have h3':24<Dc q.1:=by have:=A7 h3;omega
    rw[if_pos (.inr h3')];refine Au func218 ?_;rfl
   ·have h3':¬24<Dc q.1:=by have:=Bd h3;omega
    rw[if_neg (by omega)];refine Au func218 ?_;rfl
def J5(n:Nd):List UInt8:=((n.kids.dropLast).map fun x=>Cq x []).flatten++(match n.kids.getLast? with
 |some b=>Ij b.kids []
 |none=>[])
def Do(n:Nd):Bool:=(n.kind==40&&Td n)&&((!(J5 n==[])&&decide ((J5 n).length≤4000))&&(E8 (J5 n)).2.1==0)
theorem Adm(ds l:List Nd):J5 (.mk 40 [] 0 (ds++[.mk 30 [] 0 l]))=(ds.map fun x=>Cq x []).flatten++Ij l []:=by
 simp[J5]
theorem Axp(n:Nd)(h:FP n)(hd:Dc n≤24)(hw:wN n≤100000):Pure X 217 [nd n,str []] (str (J5 n))∧(J5 n).length≤4060*wN n:=by
 cases h with
 |mk ds l hd' hl=>
  rw[Adm];simp only[Dc]at hd;have hdl:Gv l≤22:=by
   have:=Gw (l:=ds++[.mk 30 [] 0 l]) (x:=.mk 30 [] 0 l) (by simp);simp only[Dc]at this;omega
  have hwl:wL (ds++[.mk 30 [] 0 l])≤100000:=by simp[wN]at hw;omega
  have hwb:=P2 (l:=ds++[.mk 30 [] 0 l]) (k:=.mk 30 [] 0 l) (by simp);simp only[wN]at hwb;have hf:∀x,x∈ds++[.mk 30 [] 0 l]→Pure X 217 [nd x,str []] (str (if x.kind=30 then Ij x.kids []else Cq x []))∧(if x.kind=30 then Ij x.kids []else Cq x []).length≤4060*wN x:=fun x hx=>by
   have hwx:=P2 hx;rcases zzq47.1 hx with h|h
   ·have hv:=hd' x h;have hk:¬x.kind=30:=by cases hv<;>simp
    rw[if_neg hk];exact⟨Axm x hv [] (by simp) (by omega),Ap5 x hv [] (by simp)⟩
   ·simp only[List.mem_singleton]at h;subst h;rw[if_pos (M3 30 [] 0 l),Ge];refine⟨Yu l [] hl (by simp;omega) (by simp at hwb;omega) fun x hx=>Axl x (hl x hx),?_⟩;have:=Qq (.mk 30 [] 0 l) l [] hl (by simp;omega);simp only[wN];omega
  have hp:=Aod 40 (.inr rfl) _ _ [] (by simp) hwl hf;have hT:((ds++[Nd.mk 30 [] 0 l]).map fun x=>if x.kind=30 then Ij x.kids []else Cq x []).flatten=(ds.map fun x=>Cq x []).flatten++Ij l []:=by
   have e:(ds.map fun x=>if x.kind=30 then Ij x.kids []else Cq x [])=ds.map fun x=>Cq x []:=by
    apply List.map_congr_left;intro x hx;have hv:=hd' x hx;have hk:¬x.kind=30:=by cases hv<;>simp
    rw[if_neg hk]
   rw[J8,List.flatten_append,e];simp
  rw[hT]at hp;refine⟨hp,?_⟩;have:=Ac3 fun x hx=>(hf x hx).2;rw[hT]at this;simp only[wN];omega
theorem Aaw(n:Nd)(h:Cp n=true):wN n≤9*Ai n:=by
 induction n using Nd.ind with
 |h n ih=>
  rw[Ky,Da]at h;have hall:=Lb h.2;obtain⟨_,hH⟩:=Ae9 h.1;have hs:n.name.length≤8:=by
   have e:=hH.hs;cases hb:(Bi n.kind).2.1 with
   |false=>rw[hb]at e;have h0:n.name=[]:=(by simpa using e);rw[h0];simp
   |true=>exact I9 (hH.hn hb)
  have key:∀l:List Nd,(∀x,x∈l→wN x≤9*Ai x)→wL l≤9*A3 l:=by
   intro l
   induction l with
   |nil=>intro _;simp[wL]
   |cons x l ihl=>
    intro hx;have h1:=hx x (by simp);have h2:=ihl fun y hy=>hx y (by simp[hy]);simp only[wL,A3];omega
  have:=key n.kids fun x hx=>by
   obtain⟨j,hj⟩:=Bw hx;exact ih x hx (hall j x hj).2
  rw[Wo,Ck];omega
theorem Ajp(n:Nd)(hn:wN n≤1000000000):Pure X 156 [nd n] (vb (Do n)):=by
 refine Pure.run func156 ?_;refine Db (fun h1=>?_) (fun h1=>?_)
 ·have h1':¬n.kind=40:=by have:(!(n.kind==40))=true:=h1;simpa using this
  refine A1 ?_;refine Az func156 ?_;simp[Do,h1',C5]
 have h1':n.kind=40:=by have:(!(n.kind==40))=false:=h1;simpa using this
 refine Al (A1i n hn) ?_;refine Ag (fun h2=>?_) (fun h2=>?_)
 ·have h2':Td n=false:=by have:(!Td n)=true:=h2;simpa using this
  refine Az func156 ?_;simp[Do,h2',C5]
 have h2':Td n=true:=by have:(!Td n)=false:=h2;simpa using this
 have h2'':=h2';simp only[Td,Da,J9]at h2'';obtain⟨⟨hc,hd⟩,hf⟩:=h2'';have hw:=Aaw n hf;have hP:=Azb n hf h1';obtain⟨hp,hl⟩:=Axp n hP hd (by omega);refine Al hp ?_;have hO:Do n=((!(J5 n==[])&&decide ((J5 n).length≤4000))&&(E8 (J5 n)).2.1==0):=by simp[Do,h1',h2']
 rw[hO];refine Db (fun h3=>?_) (fun h3=>?_)
 ·have h3':(J5 n==[])=true:=h3;refine A1 ?_;refine Az func156 ?_;rw[h3'];rfl
 have h3':(J5 n==[])=false:=h3;refine Ag (fun h4=>?_) (fun h4=>?_)
 ·have h4':¬(J5 n).length≤4000:=by have:=A7 h4;rw[F6]at this;omega
  refine Az func156 ?_;simp[h4',C5]
 have h4':(J5 n).length≤4000:=by have:=Bd h4;rw[F6]at this;omega
 refine Al (Axo (J5 n) (by omega)) ?_;refine Az func156 ?_;simp[h3',h4',C5]
theorem Uo(l:List (List UInt8))(s:List UInt8)(hl:l.length≤1000000000):Pure X 102 [.sl (Dj l) .no,str s] (vi (Ey 0 l s)):=by
 refine Pure.run func102 ?_;refine Av (ι:=Nat) 0 0 (fun i=>i≤l.length∧Ey 0 l s=Ey i (l.drop i) s) (fun i=>[(5,vi i),(0,.sl (Dj l) .no),(1,str s)]) (fun _=>⟨[],[]⟩) (fun i=>l.length-i) ?_ 0 ⟨Cc _,rfl⟩
  ⟨rfl,rfl,rfl,trivial⟩
 intro i hi IH;refine Dh (fun h=>?_) (fun h=>?_)
 ·have hlt:i<l.length:=by have:=A7 h;rw[Fy]at this;omega
  obtain⟨x,hx⟩:=Ab l hlt;have hd:Ey i (l.drop i) s=if s==x then(i:Int)else Ey (i+1) (l.drop (i+1)) s:=by rw[B5 hx];rfl
  refine B7 i (by omega) (Q5 hx) ?_;refine Ag (fun h2=>?_) (fun h2=>?_)
  ·refine Az func102 ?_;have h3:(s==x)=true:=by have:(x==s)=true:=h2;rw[zzq56]at this⊢;exact this.symm
   rw[hi.2,hd,h3];rfl
  ·have h3:(s==x)=false:=by have:(x==s)=false:=h2;rw[beq_eq_false_iff_ne]at this⊢;exact Ne.symm this
   exact IH (i+1) ⟨hlt,by rw[hi.2,hd,h3];rfl⟩ (by omega) _ _ ⟨vsx (by omega),rfl,rfl,trivial⟩ rfl rfl rfl
 ·have:i=l.length:=by have:=Bd h;rw[Fy]at this;omega
  refine Az func102 ?_;rw[hi.2,this,Hw];rfl
theorem Acb(l:List (List UInt8)):Ka 1 (Dj l)=true:=Ku (f:=fun s=>[str s]) (fun _=>rfl) l
def Ke(k:Int):Int:=if k=2∨k=21∨k=23∨k=26 then 1 else if k=3∨k=4∨k=22 then 2 else 0
theorem Axu(k:Int):Pure X 219 [vi k] (vi (Ke k)):=by
 refine Pure.run func219 ?_
 repeat' (refine Ag (fun _=>?_) (fun _=>?_))
 all_goals refine Az func219 ?_
 all_goals (simp_all [Ke,C5])
def E7(l:List Nd)(k:Int):List (List UInt8):=(l.filter fun x=>x.kind==k).map Nd.name
def Ax(n:Nd)(k:Int):List (List UInt8):=E7 n.kids.dropLast k
theorem Aah(l:List Nd)(k:Int):(E7 l k).length≤l.length:=by simp only[E7,U7];exact Ze _ _
theorem Sm(n:Nd)(k:Int)(hn:wN n≤1000000000):Pure X 98 [nd n,vi k] (.sl (Dj (Ax n k)) .no):=by
 refine Pure.run func98 ?_;have hkl:=G6 n;have hw:IntKind.i64.wrap ((Ap n.kids).length-1:Int)=n.kids.length-1:=by rw[Ad];exact Ac (by omega) (by omega)
 refine N1 (d:=5) rfl rfl rfl ?_;refine Av (ι:=Nat) 1 1 (fun i=>i≤n.kids.length-1) (fun i=>[(6,vi i),(5,.sl (Dj (E7 (n.kids.take i) k)) (.tok 0)),(1,vi k),(2,.ptr 0 0 0)]) (fun i=>⟨[[Af n]],[(E7 (n.kids.take i) k).length]⟩) (fun i=>n.kids.length-i) ?_ 0
  (Cc _) ⟨rfl,rfl,rfl,rfl,trivial⟩
 intro i hi IH;refine Dh (fun h=>?_) (fun h=>?_)
 ·have hlt:i<n.kids.length-1:=by have:=A7 h;rw[hw]at this;omega
  obtain⟨x,hx⟩:=Ab n.kids (i:=i) (by omega);have hle:=Aah (n.kids.take i) k;have htl:(n.kids.take i).length=i:=by simp;omega
  refine B7 i (by omega) (Am hx) ?_;refine Ag (fun h2=>?_) (fun h2=>?_)
  ·have h2':(x.kind==k)=true:=h2;have hs:E7 (n.kids.take (i+1)) k=E7 (n.kids.take i) k++[x.name]:=by simp[E7,G7,hx,Abm,Abn,h2']
   refine B7 i (by omega) (Am hx) ?_;refine Bm (Bv (res:=Dj (E7 (n.kids.take i) k++[x.name])) rfl rfl rfl rfl rfl rfl rfl rfl rfl rfl rfl rfl rfl rfl (Fy _) (Acb _) rfl rfl rfl ?_ ?_ rfl) ?_
   ·rw[Fy];simp;omega
   ·simp[Dj]
   refine IH (i+1) (by omega) (by omega) _ _ ⟨vsx (by omega),?_,rfl,rfl,trivial⟩ ?_ rfl rfl
   ·rw[hs];rfl
   ·rw[hs];simp[St.drop,Fy]
  ·have h2':(x.kind==k)=false:=h2;have hs:E7 (n.kids.take (i+1)) k=E7 (n.kids.take i) k:=by simp[E7,G7,hx,Abm,Abn,h2']
   refine IH (i+1) (by omega) (by omega) _ _ ⟨vsx (by omega),?_,rfl,rfl,trivial⟩ ?_ rfl rfl
   ·rw[hs];rfl
   ·rw[hs];rfl
 ·have:i=n.kids.length-1:=by have:=Bd h;rw[hw]at this;omega
  refine Au func98 ?_;rw[this,Ax,Akj]
theorem Adj(n:Nd)(hn:wN n≤1000000000):Pure X 103 [nd n] (nd n):=by
 induction n using Nd.ind with
 |h n ih=>
 refine Pure.run func103 ?_;have hkl:=G6 n;refine N1 (d:=3) rfl rfl rfl ?_;refine Av (ι:=Nat) 2 1 (fun i=>i≤n.kids.length) (fun i=>[(4,vi i),(3,.sl (Ap (n.kids.take i)) (.tok 0)),(1,.ptr 0 0 0),(2,.ptr 1 0 0)]) (fun i=>⟨[[Af n],[zN]],[i]⟩) (fun i=>n.kids.length-i) ?_ 0
  (Cc _) ⟨rfl,rfl,rfl,rfl,trivial⟩
 intro i hi IH;refine Dh (fun h=>?_) (fun h=>?_)
 ·have hlt:i<n.kids.length:=by have:=A7 h;rw[Ad]at this;omega
  obtain⟨x,hx⟩:=Ab n.kids hlt;have hwx:=Jd (Bh hx);have htl:(n.kids.take i).length=i:=by simp;omega
  refine B7 i (by omega) (Am hx) ?_;refine Al (ih x (Bh hx) (by omega)) ?_;refine Bm (Bv (res:=Ap (n.kids.take (i+1))) rfl rfl rfl rfl rfl rfl rfl rfl rfl rfl rfl rfl rfl rfl (by rw[Ad,htl]) (Er _) rfl rfl rfl ?_ ?_ rfl) ?_
  ·rw[Ad];simp;omega
  ·rw[G7,hx,As,As];simp
  refine IH (i+1) hlt (by omega) _ _ ⟨vsx (by omega),rfl,rfl,rfl,trivial⟩ ?_ rfl rfl;simp[St.drop,Ad,htl]
 ·have:i=n.kids.length:=by have:=Bd h;rw[Ad]at this;omega
  subst this;refine Au func103 ?_;rw[I8];rfl
theorem Azp(s:List UInt8)(a:Nd):Pure X 230 [str s,nd a] (nd (.mk 21 s 0 [a])):=by
 refine Pure.run func230 ?_;refine Au func230 ?_;show AV.agg [_,_,_,.sl _ _]=AV.agg [_,_,_,.sl (Ap [a]) _];rw[As [a]];rfl
theorem Att(s:List UInt8):Pure X 232 [str s] (nd (.mk 2 s 0 [])):=by
 refine Pure.run func232 ?_;exact Au func232 rfl
theorem Axn:Pure X 233 [vi 1] (nd (.mk 1 [] 1 [])):=by
 refine Pure.run func233 ?_;refine Ah ?_;exact Au func233 rfl
def Ht(vars arrs:List (List UInt8))(code:Int)(k:Int)(s:List UInt8):Bool:=
 decide (Ke k>0)&&((code==7&&!decide (Ey 0 vars s≥0)&&!decide (Ey 0 arrs s≥0))||(code==8&&((Ke k==1&&!decide (Ey 0 vars s≥0))||(Ke k==2&&!decide (Ey 0 arrs s≥0)))))
mutual
def G3(vars arrs:List (List UInt8))(code:Int):Nd→List UInt8×Bool
 |.mk k s _ ks=>if Ht vars arrs code k s then(s,true)else Mw vars arrs code ks
def Mw(vars arrs:List (List UInt8))(code:Int):List Nd→List UInt8×Bool
 |[]=>([],false)
 |x::l=>if (G3 vars arrs code x).2 then(G3 vars arrs code x)else Mw vars arrs code l
end
theorem Ra(vars arrs:List (List UInt8))(code:Int)(n:Nd):G3 vars arrs code n=if Ht vars arrs code n.kind n.name then(n.name,true)else Mw vars arrs code n.kids:=by cases n;rw[G3];rfl
theorem A41(n:Nd)(vars arrs:List (List UInt8))(T:List UInt8×Bool)(code w:Int)(v a:Bool)(hc:code=7∨code=8)(hw:w=1∨w=2)
 (h7:AK X ⟨157,f157,0,0⟩ (Lj false 7 f157) [(4,.ptr 0 0 0),(1,.sl (Dj vars) .no),(2,.sl (Dj arrs) .no),(3,vi code)] ⟨[[Af n]],[]⟩ (fun e S=>e=.ret (.tup [str T.1,vb T.2])∧S=⟨[],[]⟩)) :
 AK X ⟨157,f157,0,0⟩ (Lj false 5 f157) [(4,.ptr 0 0 0),(1,.sl (Dj vars) .no),(2,.sl (Dj arrs) .no),(3,vi code),(10,vi w),(11,vb v),(12,vb a)] ⟨[[Af n]],[]⟩
  (fun e S=>e=.ret (.tup [str (if ((code==7&&!v&&!a)||(code==8&&((w==1&&!v)||(w==2&&!a))))then(n.name,true)else T).1,vb (if ((code==7&&!v&&!a)||(code==8&&((w==1&&!v)||(w==2&&!a))))then(n.name,true)else T).2])∧S=⟨[],[]⟩):=by
 refine D3 ?_;rcases hc with rfl|rfl<;>rcases hw with rfl|rfl<;>cases v<;>cases a
 all_goals
  refine Bj 100 rfl ?_
  repeat' (first|refine Ii ?_|refine Hh ?_)
  first
   |(refine A1 ?_;exact Az func157 rfl)
   |(refine Eu 0 7 (fun h=>?_) (fun h=>?_);· cases h
     exact B3 1 0 h7 ⟨rfl,rfl,rfl,rfl,trivial⟩ rfl rfl rfl rfl rfl)
theorem Aof(vars arrs:List (List UInt8))(code:Int)(hc:code=7∨code=8)(hv:vars.length≤1000000000)(ha:arrs.length≤1000000000)(n:Nd)(hn:wN n≤1000000000) :
 Pure X 157 [nd n,.sl (Dj vars) .no,.sl (Dj arrs) .no,vi code] (.tup [str (G3 vars arrs code n).1,vb (G3 vars arrs code n).2]):=by
 induction n using Nd.ind with
 |h n ih=>
 have hkl:=G6 n;have hloop:∀T,Mw vars arrs code n.kids=T→AK X ⟨157,f157,0,0⟩ (Lj false 7 f157) [(4,.ptr 0 0 0),(1,.sl (Dj vars) .no),(2,.sl (Dj arrs) .no),(3,vi code)] ⟨[[Af n]],[]⟩
  (fun e S=>e=.ret (.tup [str T.1,vb T.2])∧S=⟨[],[]⟩):=fun T hT=>by
  refine D3 ?_;refine Bj 100 rfl ?_;refine Av (ι:=Nat) 1 0 (fun i=>i≤n.kids.length∧T=Mw vars arrs code (n.kids.drop i)) (fun i=>[(13,vi i),(4,.ptr 0 0 0),(1,.sl (Dj vars) .no),(2,.sl (Dj arrs) .no),(3,vi code)]) (fun _=>⟨[[Af n]],[]⟩)
   (fun i=>n.kids.length-i) ?_ 0 ⟨Cc _,hT.symm⟩ ⟨rfl,rfl,rfl,rfl,rfl,trivial⟩
  rintro i ⟨hi,hTi⟩ IH;refine Dh (fun h=>?_) (fun h=>?_)
  ·have hlt:i<n.kids.length:=by have:=A7 h;rw[Ad]at this;omega
   obtain⟨x,hx⟩:=Ab n.kids hlt;have hwx:=Jd (Bh hx);rw[B5 hx]at hTi;simp only[Mw]at hTi;refine B7 i (by omega) (Am hx) ?_;refine Al (ih x (Bh hx) (by omega)) ?_;refine Ag (fun h2=>?_) (fun h2=>?_)
   ·have h2':(G3 vars arrs code x).2=true:=h2;refine Az func157 ?_;rw[hTi,if_pos h2',h2'];rfl
   ·have h2':(G3 vars arrs code x).2=false:=h2;exact IH (i+1) ⟨hlt,by rw[hTi,if_neg (by simp[h2'])]⟩ (by omega) _ _ ⟨vsx (by omega),rfl,rfl,rfl,rfl,trivial⟩ rfl rfl rfl
  ·have:i=n.kids.length:=by have:=Bd h;rw[Ad]at this;omega
   refine Az func157 ?_;rw[hTi,this,Hw];rfl
 refine Pure.run func157 ?_;refine Al (Axu n.kind) ?_;rw[Ra];refine Eu 0 7 (fun h1=>?_) (fun h1=>?_)
 ·have h1':decide (Ke n.kind>0)=true:=h1;have hw:Ke n.kind=1∨Ke n.kind=2:=by
   have:=A7 h1';unfold Ke at this⊢;split
   ·simp
   ·split
    ·simp
    ·rename_i h2 h3;rw[if_neg h2,if_neg h3]at this;omega
  refine Bj 100 rfl ?_;refine Al (Uo vars n.name hv) ?_;refine Arj 5 (Uo arrs n.name ha) ?_;have hA:Ht vars arrs code n.kind n.name=((code==7&&!decide (Ey 0 vars n.name≥0)&&!decide (Ey 0 arrs n.name≥0))||(code==8&&((Ke n.kind==1&&!decide (Ey 0 vars n.name≥0))||(Ke n.kind==2&&!decide (Ey 0 arrs n.name≥0))))):=by simp only[Ht,h1',Re]
  rw[hA];exact B3 1 0 (A41 n vars arrs _ code _ _ _ hc hw (hloop _ rfl)) ⟨rfl,rfl,rfl,rfl,rfl,rfl,rfl,trivial⟩ rfl rfl rfl rfl rfl
 ·have h1':decide (Ke n.kind>0)=false:=h1;have hA:Ht vars arrs code n.kind n.name=false:=by simp[Ht,h1']
  rw[hA];exact B3 1 0 (hloop _ rfl) ⟨rfl,rfl,rfl,rfl,trivial⟩ rfl rfl rfl rfl rfl
theorem Akq{X:Cx}{B:Bx}{S S2:St}{F F':C3}{N:Nat}{R:AE→St→Prop}{ops:Array Oper}{i:Nat}{bs:List Nat}{em:Nat}{Hs:List St}{pend:List Jx}{k K:List Item}(id:Nat)(hk:AK X B K F' S2 R)
 (he:evT X B.fn.ntmps id 100 k F S=(K,F',S2):=by rfl):Drv X N ops bs em [] i F S Hs pend fun F1 S1=>AK X B k F1 S1 R:=
 Ks id 100 he hk
def Aef(s:List UInt8):List Nd→List Nd
 |[a,b,.mk k' s' m' l]=>[.mk 21 s 0 [a],.mk 25 [] 0 [.mk 11 [] 0 [.mk 2 s 0 [],b],.mk k' s' m' (l++[.mk 21 s 0 [.mk 6 [] 0 [.mk 2 s 0 [],.mk 1 [] 1 []]]])]]
 |_=>[]
mutual
def A5:Nd→Nd
 |.mk k s m ks=>.mk k s m (Bt ks)
def Bt:List Nd→List Nd
 |[]=>[]
 |x::l=>G2 x++Bt l
def G2:Nd→List Nd
 |.mk k s m ks=>if k=26 then Aef s (Bt ks)else[.mk k s m (Bt ks)]
end
theorem Bc(k:Int)(s:List UInt8)(m:Int)(ks:List Nd):A5 (.mk k s m ks)=.mk k s m (Bt ks):=by rw[A5]
theorem A4:Bt []=[]:=by rw[Bt]
theorem Ao(x:Nd)(l:List Nd):Bt (x::l)=G2 x++Bt l:=by rw[Bt]
theorem Be{x:Nd}(h:x.kind≠26):G2 x=[A5 x]:=by
 obtain⟨k,s,m,ks⟩:=x;have h':k≠26:=h;rw[G2,if_neg h',A5]
theorem K3(s:List UInt8)(m:Int)(ks:List Nd):G2 (.mk 26 s m ks)=Aef s (Bt ks):=by rw[G2,if_pos rfl]
theorem Uq(a b:List Nd):Bt (a++b)=Bt a++Bt b:=by
 induction a with
 |nil=>simp[A4]
 |cons x a ih=>simp[Ao,ih]
theorem Ic{l:List Nd}(h:∀x,x∈l→x.kind≠26):Bt l=l.map A5:=by
 induction l with
 |nil=>simp[A4]
 |cons x l ih=>rw[Ao,Be (h x (by simp)),ih fun y hy=>h y (by simp[hy])];simp
theorem Cy{x:Nd}(h:FE x):1≤x.kind∧x.kind≤8:=by
 cases h<;>simp;omega
theorem Jv{x:Nd}(h:FC x):11≤x.kind∧x.kind≤16:=by
 cases h;simp;omega
theorem Avr{x:Nd}(h:FS x):21≤x.kind∧x.kind≤29:=by
 cases h<;>simp
theorem Abu{x:Nd}(h:FV x):x.kind=31∨x.kind=32:=by
 cases h<;>simp
theorem Up{x:Nd}(h:FE x):A5 x=x:=by
 induction h with
 |num m h0 h1=>rw[Bc,A4]
 |var s h=>rw[Bc,A4]
 |cell s a h ha ih=>rw[Bc,Ao,A4,Be (by have:=Cy ha;omega),ih];rfl
 |len s h=>rw[Bc,A4]
 |neg a ha ih=>rw[Bc,Ao,A4,Be (by have:=Cy ha;omega),ih];rfl
 |two k a b hk ha hb iha ihb=>rw[Bc,Ao,Ao,A4,Be (by have:=Cy ha;omega),Be (by have:=Cy hb;omega),iha,ihb];rfl
theorem Ss{x:Nd}(h:FC x):A5 x=x:=by
 cases h with
 |mk k a b h0 h1 ha hb=>rw[Bc,Ao,Ao,A4,Be (by have:=Cy ha;omega),Be (by have:=Cy hb;omega),Up ha,Up hb];rfl
theorem A1m{x:Nd}(h:FV x):A5 x=x:=by
 cases h<;>rw[Bc,A4]
theorem Uy(a b:List Nd):wL (a++b)=wL a+wL b:=by
 induction a with
 |nil=>simp[wL]
 |cons x a ih=>simp only[Pu,wL,ih];omega
theorem A0q(s:List UInt8)(l:List Nd):wL (Aef s l)≤wL l+10+5*s.length:=by
 unfold Aef;split
 ·simp only[wL,wN,Uy,Ww];omega
 ·simp[wL]
theorem Ro{P:Nd→Prop}{Q:List Nd→Prop}(h1:∀(k:Int)(s:List UInt8)(m:Int)(ks:List Nd),Q ks→P (.mk k s m ks))(h2:Q [])(h3:∀(x:Nd)(l:List Nd),P x→Q l→Q (x::l)):(∀x,P x)∧∀l,Q l:=by
 have hP:∀x,P x:=fun x=>Nd.rec (motive_1:=P) (motive_2:=Q) h1 h2 h3 x;refine⟨hP,fun l=>?_⟩
 induction l with
 |nil=>exact h2
 |cons x l ih=>exact h3 x l (hP x) ih
theorem Atz:(∀n:Nd,wN (A5 n)≤10*wN n∧wL (G2 n)≤10*wN n)∧∀l:List Nd,wL (Bt l)≤10*wL l:=by
 refine Ro (fun k s m ks ih=>?_) ?_ (fun x l hx hl=>?_)
 ·have hM:wN (A5 (.mk k s m ks))≤10*wN (.mk k s m ks):=by rw[Bc];simp only[wN];omega
  refine⟨hM,?_⟩;by_cases hk:k=26
  ·subst hk;rw[K3];have:=A0q s (Bt ks);simp only[wN];omega
  ·rw[Be (by simpa using hk)];simp only[wL];omega
 ·simp[A4,wL]
 ·rw[Ao,Uy];simp only[wL];omega
theorem Po(n:Nd):wN (A5 n)≤10*wN n∧wL (G2 n)≤10*wN n:=Atz.1 n
theorem Vr(l:List Nd):wL (Bt l)≤10*wL l:=by
 induction l with
 |nil=>simp[A4,wL]
 |cons x l ih=>rw[Ao,Uy];have:=(Po x).2;simp only[wL];omega
theorem Mr(l:List Nd):l.length≤wL l:=by
 induction l with
 |nil=>simp
 |cons x l ih=>have:=Wo x;simp[wL];omega
theorem Nf(k:Int)(s:List UInt8)(m:Int)(ks:List Nd)(hk:k≠26)(hk':k≠30)(hw:wN (.mk k s m ks)≤1000000000)
 (hx:∀x,x∈ks→(x.kind=30∧Pure X 170 [nd x] (.sl (Ap [A5 x]) .no))∨(x.kind≠30∧A5 x=x)) :
 Pure X 170 [nd (.mk k s m ks)] (.sl (Ap [.mk k s m (ks.map A5)]) .no):=by
 have ne1:(k==30)=false:=by simpa using hk'
 have ne2:(k==26)=false:=by simpa using hk
 have hkl:=G6 (.mk k s m ks);simp only[Ge]at hkl;refine Pure.run func170 ?_;refine Ah ?_ (ht:=ne1);refine Ah ?_ (ht:=ne2);refine Ej 1 0 3 rfl rfl rfl rfl rfl rfl ?_;refine Av (ι:=Nat) 2 1 (fun i=>i≤ks.length) (fun i=>[(6,vi i),(1,.ptr 0 0 0),(3,.ptr 1 0 0)]) (fun i=>⟨[[Af (.mk k s m ks)],[[vi k,str s,vi m,.sl (Ap ((ks.take i).map A5)) (.tok 0)]]],[i]⟩) (fun i=>ks.length-i) ?_ 0
  (Cc _) ⟨rfl,rfl,rfl,trivial⟩
 intro i hi IH;refine Dh (fun h=>?_) (fun h=>?_)
 ·have hlt:i<ks.length:=by have:=A7 h;rw[Ad]at this;simp at this;omega
  obtain⟨x,hxg⟩:=Ab ks hlt;have hwx:wN x<wN (.mk k s m ks):=Jd (n:=.mk k s m ks) (Bh hxg);have htl:(Ap ((ks.take i).map A5)).length=i:=by rw[Ad];simp;omega
  have hres:Ap ((ks.take i).map A5)++[Af (A5 x)]=Ap ((ks.take (i+1)).map A5):=by simp[As,G7,hxg]
  have hgo:AK X ⟨170,f170,0,0⟩ (Lj false 15 f170) [(6,vi i),(1,.ptr 0 0 0),(3,.ptr 1 0 0)] ⟨[[Af (.mk k s m ks)],[[vi k,str s,vi m,.sl (Ap ((ks.take (i+1)).map A5)) (.tok 0)]]],[i+1]⟩
   (fun e S=>e=.ret (.sl (Ap [.mk k s m (ks.map A5)]) .no)∧S=⟨[],[]⟩):=by
   refine D3 ?_;refine Bj 100 rfl ?_;exact IH (i+1) hlt (by omega) _ _ ⟨vsx (by omega),rfl,rfl,trivial⟩ rfl rfl rfl
  refine B7 i (by omega) (Am (l:=ks) hxg) ?_;rcases hx x (Bh hxg)with⟨h30,hp⟩|⟨h30,hp⟩
  ·refine A1 ?_ (ht:=by simpa using h30);refine D8 10240 ?_;refine Dv i (by omega) (Am (l:=ks) hxg) ?_;refine Ci hp ?_;refine Dv 0 (by omega) (Wc (A5 x) []) ?_;refine Ch (Bv (res:=Ap ((ks.take (i+1)).map A5)) rfl rfl rfl rfl rfl rfl rfl rfl rfl rfl rfl rfl rfl rfl htl (Er _) rfl rfl rfl ?_ hres rfl) ?_
   ·rw[htl];simp;omega
   refine Ar ?_;refine Ch (A8 rfl rfl rfl rfl rfl rfl rfl) ?_;refine Akq 15 ?_;exact B3 2 1 hgo ⟨rfl,rfl,rfl,trivial⟩ (by simp[St.drop,Ad];omega) rfl rfl rfl rfl
  ·refine Ah ?_ (ht:=by simpa using h30);refine D8 2560 ?_;refine Dv i (by omega) (Am (l:=ks) hxg) ?_;refine Ci (Adj x (by omega)) ?_;rw[hp]at hres;refine Ch (Bv (res:=Ap ((ks.take (i+1)).map A5)) rfl rfl rfl rfl rfl rfl rfl rfl rfl rfl rfl rfl rfl rfl htl (Er _) rfl rfl rfl ?_ hres rfl) ?_
   ·rw[htl];simp;omega
   refine Ar ?_;refine Ch (A8 rfl rfl rfl rfl rfl rfl rfl) ?_;refine Akq 15 ?_;exact B3 2 1 hgo ⟨rfl,rfl,rfl,trivial⟩ (by simp[St.drop,Ad];omega) rfl rfl rfl rfl
 ·have:i=ks.length:=by have:=Bd h;rw[Ad]at this;simp at this;omega
  subst this;refine Au func170 ?_;rw[I8,As [_]];rfl
theorem Ajk(l:List Nd):M8 (Ap l)=true:=K6.2 fun r hr x hx=>by
 rw[As]at hr;obtain⟨k,_,rfl⟩:=zzq68.1 hr;simp[Af]at hx;rcases hx with rfl|rfl|rfl|rfl<;>rfl
theorem Hands.pure{X:Cx}{f:FuncId}{args:List AV}{y r:AV}{tk:List Nat}(h:Hands X f args ⟨[],[]⟩ y ⟨[],tk⟩) [hz:FzC ⟨[],tk⟩ 0 0 y r]:Pure X f args r:=by
 refine⟨h.1,fun E w vs hd hI hs hr=>(h.2 E w vs hd hI hs hr).mono fun e w' he=>?_⟩;obtain⟨E1,S1,d1,d2,d3⟩:=he;cases e with
 |returned v=>
  obtain⟨r',hr',hre,rfl⟩:=d3;cases hre;exact⟨E1.drop 0 0,_,d1.drop (fun rows hr=>by simp at hr),d2.trans (Evol.drop E1 w' 0 0),r,hz.s.rel d1 hr',rfl,by simp[St.drop]⟩
 |panicked ch=>obtain⟨h,_⟩:=d3;cases h
 |outgrown=>exact d3.elim
theorem Ai6(m:Int)(s:List UInt8)(ks:List Nd)(hw:wN (.mk 30 s m ks)≤1000000000)
 (hx:∀x,x∈ks→Pure X 170 [nd x] (.sl (Ap (G2 x)) .no)∧Nat.ble 1 (G2 x).length=true) :
 Hands X 170 [nd (.mk 30 s m ks)] ⟨[],[]⟩ (.sl [[vi 30,str s,vi m,.sl (Ap (Bt ks)) (.tok 0)]] .tight) ⟨[],[(Bt ks).length]⟩:=by
 have hkl:=G6 (.mk 30 s m ks);simp only[Ge]at hkl;refine Hands.run func170 ?_;refine A1 ?_;refine Ej 1 0 3 rfl rfl rfl rfl rfl rfl ?_;refine Av (ι:=Nat) 2 1 (fun i=>i≤ks.length) (fun i=>[(4,vi i),(1,.ptr 0 0 0),(3,.ptr 1 0 0)]) (fun i=>⟨[[Af (.mk 30 s m ks)],[[vi 30,str s,vi m,.sl (Ap (Bt (ks.take i))) (.tok 0)]]],[(Bt (ks.take i)).length]⟩) (fun i=>ks.length-i) ?_ 0
  (Cc _) ⟨rfl,rfl,rfl,trivial⟩ (by simp[A4];rfl)
 intro i hi IH;refine Dh (fun h=>?_) (fun h=>?_)
 ·have hlt:i<ks.length:=by have:=A7 h;rw[Ad]at this;simp at this;omega
  obtain⟨x,hxg⟩:=Ab ks hlt;have hwx:wN x<wN (.mk 30 s m ks):=Jd (n:=.mk 30 s m ks) (Bh hxg);have hsn:Bt (ks.take (i+1))=Bt (ks.take i)++G2 x:=by rw[G7,hxg,Uq];simp[Ao,A4]
  have hl1:=Mr (Bt (ks.take i));have hl2:=Vr (ks.take i);have hl3:wL (ks.take i)≤wL ks:=by
   have:=Uy (ks.take i) (ks.drop i);rw[Ad8]at this;omega
  have hl4:=Mr (G2 x);have hl5:=(Po x).2;have hw':=hw;simp only[wN]at hw';obtain⟨hp,hne⟩:=hx x (Bh hxg);refine D8 1280 ?_;refine Dv i (by omega) (Am (l:=ks) hxg) ?_;refine Ci hp ?_;refine Ch (Bv (res:=Ap (Bt (ks.take (i+1)))) rfl rfl rfl rfl rfl rfl rfl rfl rfl rfl rfl rfl rfl rfl (Ad _) (Er _) (Er _) (Ajk _) (by rw[Ad];exact hne) ?_ ?_ rfl) ?_
  ·rw[Ad,Ad];simp only[wN]at hwx;omega
  ·rw[hsn,As,As,As,J8]
  refine Ar ?_;refine Ch (A8 rfl rfl rfl rfl rfl rfl rfl) ?_;refine B6 ?_;refine IH (i+1) hlt (by omega) _ _ ⟨vsx (by omega),rfl,rfl,trivial⟩ ?_ rfl rfl;simp[St.drop,Ad,hsn]
 ·have:i=ks.length:=by have:=Bd h;rw[Ad]at this;simp at this;omega
  subst this;rw[I8];exact Zn func170 rfl rfl rfl rfl
theorem Yw(m:Int)(s:List UInt8)(ks:List Nd)(hw:wN (.mk 30 s m ks)≤1000000000)
 (hx:∀x,x∈ks→Pure X 170 [nd x] (.sl (Ap (G2 x)) .no)∧Nat.ble 1 (G2 x).length=true) :
 Pure X 170 [nd (.mk 30 s m ks)] (.sl (Ap [.mk 30 s m (Bt ks)]) .no):=by
 have:=(Ai6 m s ks hw hx).pure;rw[As [_]];exact this
theorem Qw{x:Nd}(h:FS x):Nat.ble 1 (G2 x).length=true:=by
 by_cases hk:x.kind=26
 ·cases h with
  |for_ s a b l h ha hb hl=>
   rw[K3,Ao,Ao,Ao,A4,Be (by have:=Cy ha;omega),Be (by have:=Cy hb;omega),Be (by simp),Bc];rfl
  |_=>simp at hk
 ·rw[Be hk];rfl
theorem Atu(x:Nd)(h:FS x)(hw:wN x≤1000000000):Pure X 170 [nd x] (.sl (Ap (G2 x)) .no):=by
 induction h with
 |set s a h ha=>
  rw[Be (by simp),Bc,Ic (by simp;have:=Cy ha;omega)];exact Nf 21 s 0 _ (by simp) (by simp) hw fun x hx=>by simp at hx;subst hx;exact .inr ⟨by have:=Cy ha;omega,Up ha⟩
 |put s a b h ha hb=>
  rw[Be (by simp),Bc,Ic (by simp;have:=Cy ha;have:=Cy hb;omega)];refine Nf 22 s 0 _ (by simp) (by simp) hw fun x hx=>?_;simp at hx;rcases hx with rfl|rfl
  ·exact .inr ⟨by have:=Cy ha;omega,Up ha⟩
  ·exact .inr ⟨by have:=Cy hb;omega,Up hb⟩
 |read s h=>
  rw[Be (by simp),Bc,Ic (by simp)];exact Nf 23 s 0 _ (by simp) (by simp) hw fun x hx=>by cases hx
 |skip=>
  rw[Be (by simp),Bc,Ic (by simp)];exact Nf 28 [] 0 _ (by simp) (by simp) hw fun x hx=>by cases hx
 |stop=>
  rw[Be (by simp),Bc,Ic (by simp)];exact Nf 29 [] 0 _ (by simp) (by simp) hw fun x hx=>by cases hx
 |check c hc=>
  rw[Be (by simp),Bc,Ic (by simp;have:=Jv hc;omega)];exact Nf 27 [] 0 _ (by simp) (by simp) hw fun x hx=>by simp at hx;subst hx;exact .inr ⟨by have:=Jv hc;omega,Ss hc⟩
 |whil c l hc hl ihl=>
  rw[Be (by simp),Bc,Ic (by simp;have:=Jv hc;omega)];simp[wN,wL]at hw;refine Nf 25 [] 0 _ (by simp) (by simp) (by simp[wN,wL];omega) fun x hx=>?_;simp at hx;rcases hx with rfl|rfl
  ·exact .inr ⟨by have:=Jv hc;omega,Ss hc⟩
  ·exact .inl ⟨rfl,by rw[Bc];exact Yw 0 [] l (by simp[wN];omega) fun x hx=>⟨ihl x hx (by have:=P2 hx;omega),Qw (hl x hx)⟩⟩
 |ifs c l l' hc hl hl' ihl ihl'=>
  rw[Be (by simp),Bc,Ic (by simp;have:=Jv hc;omega)];simp[wN,wL]at hw;refine Nf 24 [] 0 _ (by simp) (by simp) (by simp[wN,wL];omega) fun x hx=>?_;simp at hx;rcases hx with rfl|rfl|rfl
  ·exact .inr ⟨by have:=Jv hc;omega,Ss hc⟩
  ·exact .inl ⟨rfl,by rw[Bc];exact Yw 0 [] l (by simp[wN];omega) fun x hx=>⟨ihl x hx (by have:=P2 hx;omega),Qw (hl x hx)⟩⟩
  ·exact .inl ⟨rfl,by rw[Bc];exact Yw 0 [] l' (by simp[wN];omega) fun x hx=>⟨ihl' x hx (by have:=P2 hx;omega),Qw (hl' x hx)⟩⟩
 |for_ s a b l h ha hb hl ihl=>
  simp[wN,wL]at hw;have hB:=Ai6 0 [] l (by simp[wN];omega) fun x hx=>⟨ihl x hx (by have:=P2 hx;omega),Qw (hl x hx)⟩
  have hl1:=Mr (Bt l);have hl2:=Vr l;rw[K3,Ao,Ao,Ao,A4,Be (by have:=Cy ha;omega),Be (by have:=Cy hb;omega),Be (by simp),Bc,Up ha,Up hb];refine Pure.run func170 ?_;refine Ah ?_;refine A1 ?_;refine B7 2 (by omega) (Ayp a b _ []) ?_;refine Ae (τ':=[0]) [] [] hB ?_;refine B7 0 (by omega) (rows:=[_]) rfl ?_;refine D8 10240 ?_;refine Ci (Att s) ?_;refine Ci Axn ?_;refine Ci (Yx 6 (.mk 2 s 0 []) (.mk 1 [] 1 [])) ?_;refine Ci (Azp s (.mk 6 [] 0 [.mk 2 s 0 [],.mk 1 [] 1 []])) ?_;refine Ch (Bv (res:=Ap (Bt l++[.mk 21 s 0 [.mk 6 [] 0 [.mk 2 s 0 [],.mk 1 [] 1 []]]])) rfl rfl rfl rfl rfl rfl rfl rfl rfl rfl rfl rfl rfl rfl (Ad _) (Er _) rfl rfl rfl ?_ ?_ rfl) ?_
  ·rw[Ad];simp;omega
  ·simp[As]
  refine Ar ?_;refine Ch (A8 rfl rfl rfl rfl rfl rfl rfl) ?_;refine B6 ?_;refine D8 0 ?_;refine Dv 0 (by omega) (Wc a _) ?_;refine Ci (Adj a (by omega)) ?_;refine Ci (Azp s a) ?_;refine Ci (Att s) ?_;refine Dv 1 (by omega) (Aeh a b _) ?_;refine Ci (Adj b (by omega)) ?_;refine Ci (Yx 11 (.mk 2 s 0 []) b) ?_;refine Ci (Yx 25 (.mk 11 [] 0 [.mk 2 s 0 [],b]) (.mk 30 [] 0 (Bt l++[.mk 21 s 0 [.mk 6 [] 0 [.mk 2 s 0 [],.mk 1 [] 1 []]]]))) ?_;refine B6 ?_;refine Au func170 ?_;show AV.sl _ _=AV.sl (Ap (Aef s [a,b,.mk 30 [] 0 (Bt l)])) _;rw[As (Aef s _)];rfl
theorem Yz{ds l:List Nd}(hd:∀x,x∈ds→FV x):A5 (.mk 40 [] 0 (ds++[.mk 30 [] 0 l]))=.mk 40 [] 0 (ds++[.mk 30 [] 0 (Bt l)]):=by
 rw[Bc,Uq,Ao,A4,Be (by simp),Bc];congr 2;rw[Ic fun x hx=>by have:=Abu (hd x hx);omega];have:ds.map A5=ds:=by
  conv=>rhs;rw[←List.map_id ds]
  exact List.map_congr_left fun x hx=>A1m (hd x hx)
 rw[this]
theorem Aba(n:Nd)(h:FP n)(hw:wN n≤100000000):Pure X 113 [nd n] (nd (A5 n)):=by
 cases h with
 |mk ds l hd hl=>
 rw[Yz hd];have hkl:=G6 (.mk 40 [] 0 (ds++[.mk 30 [] 0 l]));simp only[Ge,Es,Zb]at hkl;have hwl:wN (.mk 30 [] 0 l)<wN (.mk 40 [] 0 (ds++[.mk 30 [] 0 l])):=Jd (n:=.mk 40 [] 0 (ds++[.mk 30 [] 0 l])) (by simp);have hwl':wN (.mk 30 [] 0 l)=1+wL l:=by simp[wN]
 have hN:((Ap (ds++[.mk 30 [] 0 l])).length:Int)=ds.length+1:=by rw[Ad];simp
 have hwr:IntKind.i64.wrap (((Ap (ds++[.mk 30 [] 0 l])).length:Int)-1)=ds.length:=by rw[hN,Ac (by omega) (by omega)];omega
 refine Pure.run func113 ?_;refine Ej 2 0 3 rfl rfl rfl rfl rfl rfl ?_;refine Av (ι:=Nat) 3 1 (fun i=>i≤ds.length) (fun i=>[(4,vi i),(1,.ptr 0 0 0),(2,.ptr 1 0 0),(3,.ptr 2 0 0)])
  (fun i=>⟨[[Af (.mk 40 [] 0 (ds++[.mk 30 [] 0 l]))],[zN],[[vi 40,str [],vi 0,.sl (Ap (ds.take i)) (.tok 0)]]],[i]⟩) (fun i=>ds.length-i) ?_ 0
  (Cc _) ⟨rfl,rfl,rfl,rfl,trivial⟩
 intro i hi IH;have htl:(Ap (ds.take i)).length=i:=by rw[Ad];simp;omega
 refine Dh (fun h=>?_) (fun h=>?_)
 ·have hlt:i<ds.length:=by have:=A7 h;rw[Ge,hwr]at this;omega
  obtain⟨x,hx⟩:=Ab ds hlt;have hx':(ds++[Nd.mk 30 [] 0 l])[i]?=some x:=by rw[Cr hlt];exact hx
  have hwx:wN x<wN (.mk 40 [] 0 (ds++[.mk 30 [] 0 l])):=Jd (n:=.mk 40 [] 0 (ds++[.mk 30 [] 0 l])) (Bh hx');refine D8 2560 ?_;refine Dv i (by omega) (Am hx') ?_;refine Ci (Adj x (by omega)) ?_;refine Ch (Bv (res:=Ap (ds.take (i+1))) rfl rfl rfl rfl rfl rfl rfl rfl rfl rfl rfl rfl rfl rfl htl (Er _) rfl rfl rfl ?_ ?_ rfl) ?_
  ·rw[htl];simp;omega
  ·simp[As,G7,hx]
  refine Ar ?_;refine Ch (A8 rfl rfl rfl rfl rfl rfl rfl) ?_;refine B6 ?_;refine IH (i+1) hlt (by omega) _ _ ⟨vsx (by omega),rfl,rfl,rfl,trivial⟩ ?_ rfl rfl;simp[St.drop,htl]
 ·have:i=ds.length:=by have:=Bd h;rw[Ge,hwr]at this;omega
  subst this;rw[I8]at htl⊢;have hlast:(Ap (ds++[Nd.mk 30 [] 0 l]))[(IntKind.i64.wrap (((Ap (ds++[.mk 30 [] 0 l])).length:Int)-1)).toNat]?=some (Af (.mk 30 [] 0 l)):=by
   rw[hwr];exact Am (by simp)
  have hB:=Yw 0 [] l (by omega) fun x hx=>⟨Atu x (hl x hx) (by have:=P2 hx;omega),Qw (hl x hx)⟩
  refine D8 81920 ?_;refine Dv _ (by rw[hwr];omega) hlast ?_;refine Ci hB ?_;refine Dv 0 (by omega) (Wc _ []) ?_;refine Ch (Bv (res:=Ap (ds++[.mk 30 [] 0 (Bt l)])) rfl rfl rfl rfl rfl rfl rfl rfl rfl rfl rfl rfl rfl rfl htl (Er _) rfl rfl rfl ?_ ?_ rfl) ?_
  ·rw[htl];simp;omega
  ·rw[As (ds++_),As ds,J8];rfl
  refine Ar ?_;refine Ch (A8 rfl rfl rfl rfl rfl rfl rfl) ?_;refine B6 ?_;refine Au func113 ?_;rfl
def twG(pre:List (List UInt8)):List Nd→Option (List UInt8)
 |[]=>none
 |d::l=>if has pre d.name then some d.name else twG (pre++[d.name]) l
def Uj(n:Nd):Bool:=decide (8<(Ax n 31).length)||decide (4<(Ax n 32).length)
def bigS(l:List Nd):Bool:=l.any fun d=>decide (60<d.num)
def Dp(n:Nd):Nd:=n.kids.getLastD Cg
def Ew(n:Nd):Int×List UInt8:=
 if Do n then
  (if Uj n then(3,[])else if bigS n.kids.dropLast then(3,[])else
    match twG [] n.kids.dropLast with
    |some s=>(6,s)
    |none=>
     if (G3 (Ax n 31) (Ax n 32) 7 (Dp n)).2 then(7,(G3 (Ax n 31) (Ax n 32) 7 (Dp n)).1)
     else if (G3 (Ax n 31) (Ax n 32) 8 (Dp n)).2 then(8,(G3 (Ax n 31) (Ax n 32) 8 (Dp n)).1)
     else if Do (A5 n)then(0,[])else(5,[]))
 else(4,[])
theorem Su{n:Nd}(h:Do n=true):FP n∧Ai n≤500∧Dc n≤24:=by
 simp only[Do,Td,Da,J9,zzq56]at h;exact⟨Azb n h.1.2.2 h.1.1,h.1.2.1.1,h.1.2.1.2⟩
theorem Ahf(a b:List (List UInt8))(s:List UInt8):has (a++b) s=(has a s||has b s):=by simp[has]
abbrev gC(v a:List (List UInt8)):C3:=[(1,.ptr 0 0 0),(2,.ptr 1 0 0),(3,.sl (Dj v) .no),(4,.sl (Dj a) .no)]
theorem Axj(n:Nd)(hn:wN n≤100000000):Pure X 97 [nd n] (.agg [vi (Ew n).1,str (Ew n).2]):=by
 refine Pure.run func97 ?_;refine Al (Ajp n (by omega)) ?_;refine Ag (fun h1=>?_) (fun h1=>?_)
 ·have h1':Do n=false:=by have:(!Do n)=true:=h1;simpa using this
  refine Au func97 ?_;simp only[Ew];rw[if_neg (by simp[h1'])]
 have h1':Do n=true:=by have:(!Do n)=false:=h1;simpa using this
 obtain⟨hP,hc,hdp⟩:=Su h1';have hkl:=G6 n;have hC:Ew n=(if Uj n then(3,[])else if bigS n.kids.dropLast then(3,[])else
  match twG [] n.kids.dropLast with
  |some s=>(6,s)
  |none=>
   if (G3 (Ax n 31) (Ax n 32) 7 (Dp n)).2 then(7,(G3 (Ax n 31) (Ax n 32) 7 (Dp n)).1)
   else if (G3 (Ax n 31) (Ax n 32) 8 (Dp n)).2 then(8,(G3 (Ax n 31) (Ax n 32) 8 (Dp n)).1)
   else if Do (A5 n)then(0,[])else(5,[]):Int×List UInt8):=by simp only[Ew];rw[if_pos h1']
 have hvl:(Ax n 31).length≤1000000000:=by have:=Aah n.kids.dropLast 31;simp[Ax]at this⊢;omega
 have hal:(Ax n 32).length≤1000000000:=by have:=Aah n.kids.dropLast 32;simp[Ax]at this⊢;omega
 refine Al (Sm n 31 (by omega)) ?_;refine Al (Sm n 32 (by omega)) ?_;generalize hv:Ax n 31=v at hC hvl⊢;generalize ha:Ax n 32=a at hC hal⊢;have hvs:((Dj v).length:Int)=v.length:=by rw[Fy]
 have has':((Dj a).length:Int)=a.length:=by rw[Fy]
 have hM:Uj n=(decide (8<v.length)||decide (4<a.length)):=by simp only[Uj,hv,ha]
 have hne:n.kids≠[]:=by cases hP;simp
 have hpos:0<n.kids.length:=zzq67.2 hne;have hw:IntKind.i64.wrap (((Ap n.kids).length:Int)-1)=((n.kids.length-1:Nat):Int):=by rw[Ad,Ac (by omega) (by omega)];omega
 have hgetD:∀i,i<n.kids.length-1→∀x,n.kids[i]?=some x→n.kids.dropLast[i]?=some x:=fun i hi x hx=>by
  rw[Akj,Ma,if_pos hi];exact hx
 have hdl:n.kids.dropLast.length=n.kids.length-1:=by simp
 have h20:Uj n=false→bigS n.kids.dropLast=false→twG [] n.kids.dropLast=none→AK X ⟨97,f97,0,0⟩ (Lj false 20 f97) (gC v a) ⟨[[Af n],[[vi 0,str []]]],[]⟩
  (fun e S=>e=.ret (.agg [vi (Ew n).1,str (Ew n).2])∧S=⟨[],[]⟩):=fun g1 g2 g3=>by
  rw[hC,if_neg (by simp[g1]),if_neg (by simp[g2]),g3];simp only;have hl:n.kids[n.kids.length-1]?=some (Dp n):=by
   simp only[Dp];cases hk:n.kids with
   |nil=>exact absurd hk hne
   |cons y l=>rw[Akk,List.getLast?_eq_getElem?];simp
  have hlast:(Ap n.kids)[(IntKind.i64.wrap (((Ap n.kids).length:Int)-1)).toNat]?=some (Af (Dp n)):=by
   rw[hw];exact Am (by simpa using hl)
  have hwl:wN (Dp n)≤100000000:=by
   have:=Jd (Bh hl);omega
  refine D3 ?_;refine Bj 100 rfl ?_;refine B7 _ (by rw[hw];omega) hlast ?_;refine Al (Aof v a 7 (.inl rfl) hvl hal (Dp n) (by omega)) ?_;refine Ag (fun h2=>?_) (fun h2=>?_)
  ·have h2':(G3 v a 7 (Dp n)).2=true:=h2;rw[if_pos h2'];refine Au func97 ?_;rfl
  have h2':(G3 v a 7 (Dp n)).2=false:=h2;rw[if_neg (by simp[h2'])];refine Al (Aof v a 8 (.inr rfl) hvl hal (Dp n) (by omega)) ?_;refine Ag (fun h3=>?_) (fun h3=>?_)
  ·have h3':(G3 v a 8 (Dp n)).2=true:=h3;rw[if_pos h3'];refine Au func97 ?_;rfl
  have h3':(G3 v a 8 (Dp n)).2=false:=h3;rw[if_neg (by simp[h3'])];refine Al (Aba n hP hn) ?_;refine Al (Ajp (A5 n) (by have:=(Po n).1;omega)) ?_;refine Ag (fun h4=>?_) (fun h4=>?_)
  ·have h4':Do (A5 n)=false:=by have:(!Do (A5 n))=true:=h4;simpa using this
   rw[if_neg (by simp[h4'])];refine Au func97 ?_;rfl
  ·have h4':Do (A5 n)=true:=by have:(!Do (A5 n))=false:=h4;simpa using this
   rw[if_pos h4'];refine Au func97 ?_;rfl
 have h12:Uj n=false→bigS n.kids.dropLast=false→AK X ⟨97,f97,0,0⟩ (Lj false 12 f97) (gC v a) ⟨[[Af n],[[vi 0,str []]]],[]⟩
  (fun e S=>e=.ret (.agg [vi (Ew n).1,str (Ew n).2])∧S=⟨[],[]⟩):=fun g1 g2=>by
  refine D3 ?_;refine Bj 100 rfl ?_;refine Av (ι:=Nat) 2 0 (fun i=>i≤n.kids.length-1∧twG [] n.kids.dropLast=twG ((n.kids.dropLast.take i).map Nd.name) (n.kids.dropLast.drop i)) (fun i=>(6,vi i)::gC v a) (fun _=>⟨[[Af n],[[vi 0,str []]]],[]⟩)
   (fun i=>n.kids.length-i) ?_ 0 ⟨Cc _,by simp⟩ ⟨rfl,rfl,rfl,rfl,rfl,trivial⟩
  rintro i ⟨hi,hT⟩ IH;refine Bj 100 rfl ?_;refine Eu 0 20 (fun h=>?_) (fun h=>?_)
  ·have hlt:i<n.kids.length-1:=by have:=A7 h;rw[hw]at this;omega
   obtain⟨x,hx⟩:=Ab n.kids (i:=i) (by omega);have hx':=hgetD i hlt x hx;have hd:twG ((n.kids.dropLast.take i).map Nd.name) (n.kids.dropLast.drop i)=if has ((n.kids.dropLast.take i).map Nd.name) x.name then some x.name else twG ((n.kids.dropLast.take (i+1)).map Nd.name) (n.kids.dropLast.drop (i+1)):=by
    rw[B5 hx'];simp only[twG];rw[show (n.kids.dropLast.take (i+1)).map Nd.name=(n.kids.dropLast.take i).map Nd.name++[x.name] by rw[G7,hx'];simp]
   rw[hd]at hT;refine Bj 100 rfl ?_;refine Av (ι:=Nat) 2 0 (fun k=>k≤i∧has ((n.kids.dropLast.take k).map Nd.name) x.name=false) (fun k=>(7,vi k)::(6,vi i)::gC v a) (fun _=>⟨[[Af n],[[vi 0,str []]]],[]⟩)
    (fun k=>i-k) ?_ 0 ⟨Cc _,by simp[has]⟩ ⟨rfl,rfl,rfl,rfl,rfl,rfl,trivial⟩
   rintro k ⟨hk,hno⟩ IH2;refine Dh (fun h2=>?_) (fun h2=>?_)
   ·have hkl':k<i:=by have:=A7 h2;omega
    obtain⟨y,hy⟩:=Ab n.kids (i:=k) (by omega);have hy':=hgetD k (by omega) y hy;have hsn:has ((n.kids.dropLast.take (k+1)).map Nd.name) x.name=(y.name==x.name):=by
     rw[show (n.kids.dropLast.take (k+1)).map Nd.name=(n.kids.dropLast.take k).map Nd.name++[y.name] by rw[G7,hy'];simp,Ahf,hno];simp[has]
    refine D8 0 ?_;refine Dv k (by omega) (Am hy) ?_;refine Dv i (by omega) (Am hx) ?_;refine B6 ?_;refine Ag (fun h3=>?_) (fun h3=>?_)
    ·have h3':(y.name==x.name)=true:=h3;have hin:has ((n.kids.dropLast.take i).map Nd.name) x.name=true:=by
      have e:n.kids.dropLast.take i=n.kids.dropLast.take (k+1)++(n.kids.dropLast.take i).drop (k+1):=by
       conv=>lhs;rw[←Ad8 (k+1) (n.kids.dropLast.take i)]
       rw[List.take_take,Nat.min_eq_left (by omega)]
      rw[e,J8,Ahf,hsn,h3'];rfl
     rw[if_pos hin]at hT;refine B7 i (by omega) (Am hx) ?_;refine Au func97 ?_;rw[hC,if_neg (by simp[g1]),if_neg (by simp[g2]),hT]
    ·have h3':(y.name==x.name)=false:=h3;exact IH2 (k+1) ⟨hkl',by rw[hsn,h3']⟩ (by omega) _ _ ⟨vsx (by omega),rfl,rfl,rfl,rfl,rfl,trivial⟩ rfl rfl rfl
   ·have:k=i:=by have:=Bd h2;omega
    subst this;rw[if_neg (by rw[hno];simp)]at hT;exact IH (k+1) ⟨by omega,hT⟩ (by omega) _ _ ⟨vsx (by omega),rfl,rfl,rfl,rfl,trivial⟩ rfl rfl rfl
  ·have:i=n.kids.length-1:=by have:=Bd h;rw[hw]at this;omega
   rw[this,←hdl,Hw,I8]at hT;exact B3 2 0 (h20 g1 g2 (by rw[hT];rfl)) ⟨rfl,rfl,rfl,rfl,trivial⟩ rfl rfl rfl rfl rfl
 have h7:Uj n=false→AK X ⟨97,f97,0,0⟩ (Lj false 7 f97) (gC v a) ⟨[[Af n],[[vi 0,str []]]],[]⟩
  (fun e S=>e=.ret (.agg [vi (Ew n).1,str (Ew n).2])∧S=⟨[],[]⟩):=fun g1=>by
  refine D3 ?_;refine Bj 100 rfl ?_;refine Av (ι:=Nat) 2 0 (fun i=>i≤n.kids.length-1∧bigS n.kids.dropLast=bigS (n.kids.dropLast.drop i)) (fun i=>(5,vi i)::gC v a) (fun _=>⟨[[Af n],[[vi 0,str []]]],[]⟩)
   (fun i=>n.kids.length-i) ?_ 0 ⟨Cc _,by simp⟩ ⟨rfl,rfl,rfl,rfl,rfl,trivial⟩
  rintro i ⟨hi,hT⟩ IH;refine Bj 100 rfl ?_;refine Eu 0 12 (fun h=>?_) (fun h=>?_)
  ·have hlt:i<n.kids.length-1:=by have:=A7 h;rw[hw]at this;omega
   obtain⟨x,hx⟩:=Ab n.kids (i:=i) (by omega);have hx':=hgetD i hlt x hx;have hd:bigS (n.kids.dropLast.drop i)=(decide (60<x.num)||bigS (n.kids.dropLast.drop (i+1))):=by rw[B5 hx'];rfl
   rw[hd]at hT;refine Bj 100 rfl ?_;refine B7 i (by omega) (Am hx) ?_;refine Ag (fun h2=>?_) (fun h2=>?_)
   ·have h2':decide (60<x.num)=true:=by simpa using A7 h2
    refine Au func97 ?_;rw[hC,if_neg (by simp[g1]),if_pos (by rw[hT,h2'];rfl)]
   ·have h2':decide (60<x.num)=false:=by simpa using Bd h2
    exact IH (i+1) ⟨by omega,by rw[hT,h2'];rfl⟩ (by omega) _ _ ⟨vsx (by omega),rfl,rfl,rfl,rfl,trivial⟩ rfl rfl rfl
  ·have:i=n.kids.length-1:=by have:=Bd h;rw[hw]at this;omega
   rw[this,←hdl,Hw]at hT;exact B3 2 0 (h12 g1 (by rw[hT];rfl)) ⟨rfl,rfl,rfl,rfl,trivial⟩ rfl rfl rfl rfl rfl
 refine Db (fun h2=>?_) (fun h2=>?_)
 ·have h2':decide (8<v.length)=true:=by have:=A7 h2;rw[hvs]at this;simp;omega
  refine A1 ?_;refine Au func97 ?_;rw[hC,if_pos (by rw[hM,h2'];rfl)]
 ·have h2':decide (8<v.length)=false:=by have:=Bd h2;rw[hvs]at this;simp;omega
  refine Eu 0 7 (fun h3=>?_) (fun h3=>?_)
  ·have h3':decide (4<a.length)=true:=by have:=A7 h3;rw[has']at this;simp;omega
   refine Bj 100 rfl ?_;refine Au func97 ?_;rw[hC,if_pos (by rw[hM,h2',h3'];rfl)]
  ·have h3':decide (4<a.length)=false:=by have:=Bd h3;rw[has']at this;simp;omega
   exact B3 2 0 (h7 (by rw[hM,h2',h3'];rfl)) ⟨rfl,rfl,rfl,rfl,trivial⟩ rfl rfl rfl rfl rfl
def Fe(n:Nd):Bool:=(Ew n).1==0
theorem Axq(n:Nd)(hn:wN n≤100000000):Pure X 47 [nd n] (vb (Fe n)):=by
 refine Pure.run func47 ?_;refine Al (Axj n hn) ?_;exact Az func47 rfl
end Go.V
namespace Go.V
open Go
section
variable {X:Cx}{S:St}{F:C3}{N:Nat}{ops:Array Oper}{i:Nat}{o:Oper}{p q:Operand}{t t':TypeId}
theorem Apc(hu:X.P.underlying t=some (.interface (X.P.methodsAt t)))(ho:ops[i]?=some o:=by rfl)(hw:A6 ops F o=some true:=by rfl)(hop:o.op=.binOp .eql t p (.const .nilIface) t':=by rfl)
 (hp:Dt X F p=some (.val .nilIface):=by rfl):Ndo X N ops i o F (.val (.bool true)) S S:=by
 refine Df ho hw fun F' E w a hc hI hF=>?_;rw[hop]at hc;have r1:=Ak hI hF ((hc p (by simp[Op.operands])).trans hp);generalize hx:a.eval p=x at r1;cases r1;exact⟨.bool true,by simp[execOp,hop,hx,show a.eval (.const .nilIface)=.nilIface from rfl,eqGuard,run_eql_nil_nil w t hu],.val _⟩
theorem Acn(hu:X.P.underlying t=some (.interface (X.P.methodsAt t)))(ho:ops[i]?=some o:=by rfl)(hw:A6 ops F o=some true:=by rfl)(hop:o.op=.binOp .eql t p (.const .nilIface) t':=by rfl)
 (hp:Dt X F p=some .err:=by rfl):Ndo X N ops i o F (.val (.bool false)) S S:=by
 refine Df ho hw fun F' E w a hc hI hF=>?_;rw[hop]at hc;have r1:=Ak hI hF ((hc p (by simp[Op.operands])).trans hp);generalize hx:a.eval p=x at r1;cases r1;exact⟨.bool false,by simp[execOp,hop,hx,show a.eval (.const .nilIface)=.nilIface from rfl,eqGuard,run_eql_held_nil w t _ _ hu],.val _⟩
end
end Go.V
namespace Go.Proofs
open Go.Shelf
def X6:Go.Shelf.Ren:=⟨fun|172=>365|244=>375|245=>376|247=>381|279=>382|280=>383|281=>384|282=>385|287=>390|316=>391|171=>295|205=>392|321=>395|322=>396|243=>313|246=>332|283=>355|284=>356|285=>357|286=>358|129=>370|317=>369|318=>371|319=>372|320=>373|337=>379|338=>380|n=>n,fun|9=>9|3=>3|75=>340|76=>341|4=>4|5=>5|167=>381|37=>159|0=>0|85=>382|2=>2|168=>384|53=>361|175=>390|46=>351|210=>394|127=>330|145=>400|143=>398|21=>21|171=>360|173=>364|212=>375|51=>368|20=>20|213=>376|232=>388|233=>389|80=>314|n=>n,fun|15=>6|16=>7|17=>2|18=>4|19=>5|n=>n⟩
theorem Tryz.laysC172:Go.Proofs.LaysC.n172 Tryz.prog X6:={
 mixed:=by kernel_rfl,
 f129:=Tryz.func370.trans (congrArg some (by kernel_rfl)),
 f171:=Tryz.func295.trans (congrArg some (by kernel_rfl)),
 f172:=Tryz.func365.trans (congrArg some (by kernel_rfl)),
 f205:=Tryz.func392.trans (congrArg some (by kernel_rfl)),
 f243:=Tryz.func313.trans (congrArg some (by kernel_rfl)),
 f244:=Tryz.func375.trans (congrArg some (by kernel_rfl)),
 f245:=Tryz.func376.trans (congrArg some (by kernel_rfl)),
 f246:=Tryz.func332.trans (congrArg some (by kernel_rfl)),
 f247:=Tryz.func381.trans (congrArg some (by kernel_rfl)),
 f279:=Tryz.func382.trans (congrArg some (by kernel_rfl)),
 f280:=Tryz.func383.trans (congrArg some (by kernel_rfl)),
 f281:=Tryz.func384.trans (congrArg some (by kernel_rfl)),
 f282:=Tryz.func385.trans (congrArg some (by kernel_rfl)),
 f283:=Tryz.func355.trans (congrArg some (by kernel_rfl)),
 f284:=Tryz.func356.trans (congrArg some (by kernel_rfl)),
 f285:=Tryz.func357.trans (congrArg some (by kernel_rfl)),
 f286:=Tryz.func358.trans (congrArg some (by kernel_rfl)),
 f287:=Tryz.func390.trans (congrArg some (by kernel_rfl)),
 f316:=Tryz.func391.trans (congrArg some (by kernel_rfl)),
 f317:=Tryz.func369.trans (congrArg some (by kernel_rfl)),
 f318:=Tryz.func371.trans (congrArg some (by kernel_rfl)),
 f319:=Tryz.func372.trans (congrArg some (by kernel_rfl)),
 f320:=Tryz.func373.trans (congrArg some (by kernel_rfl)),
 f321:=Tryz.func395.trans (congrArg some (by kernel_rfl)),
 f322:=Tryz.func396.trans (congrArg some (by kernel_rfl)),
 f337:=Tryz.func379.trans (congrArg some (by kernel_rfl)),
 f338:=Tryz.func380.trans (congrArg some (by kernel_rfl)),
 t0:=Tryz.underlying0,
 a0:=Tryz.isAgg0,
 z0:=Tryz.sizeOf0,
 v0:=Tryz.zeroValue0,
 t2:=Tryz.underlying2,
 a2:=Tryz.isAgg2,
 z2:=Tryz.sizeOf2,
 v2:=Tryz.zeroValue2,
 t3:=Tryz.underlying3,
 a3:=Tryz.isAgg3,
 z3:=Tryz.sizeOf3,
 v3:=Tryz.zeroValue3,
 t4:=Tryz.underlying4,
 a4:=Tryz.isAgg4,
 z4:=Tryz.sizeOf4,
 v4:=Tryz.zeroValue4,
 t5:=Tryz.underlying5,
 a5:=Tryz.isAgg5,
 z5:=Tryz.sizeOf5,
 v5:=Tryz.zeroValue5,
 t9:=Tryz.underlying9,
 a9:=Tryz.isAgg9,
 z9:=Tryz.sizeOf9,
 v9:=Tryz.zeroValue9,
 t20:=Tryz.underlying20,
 a20:=Tryz.isAgg20,
 z20:=Tryz.sizeOf20,
 v20:=Tryz.zeroValue20,
 t21:=Tryz.underlying21,
 a21:=Tryz.isAgg21,
 z21:=Tryz.sizeOf21,
 v21:=Tryz.zeroValue21,
 t37:=Tryz.underlying159,
 a37:=Tryz.isAgg159,
 z37:=Tryz.sizeOf159,
 v37:=Tryz.zeroValue159,
 t46:=Tryz.underlying351,
 a46:=Tryz.isAgg351,
 z46:=Tryz.sizeOf351,
 v46:=Tryz.zeroValue351,
 t51:=Tryz.underlying368,
 a51:=Tryz.isAgg368,
 z51:=Tryz.sizeOf368,
 v51:=Tryz.zeroValue368,
 t53:=Tryz.underlying361,
 a53:=Tryz.isAgg361,
 z53:=Tryz.sizeOf361,
 v53:=Tryz.zeroValue361,
 t75:=Tryz.underlying340,
 a75:=Tryz.isAgg340,
 z75:=Tryz.sizeOf340,
 v75:=Tryz.zeroValue340,
 t76:=Tryz.underlying341,
 a76:=Tryz.isAgg341,
 z76:=Tryz.sizeOf341,
 v76:=Tryz.zeroValue341,
 t85:=Tryz.underlying382,
 a85:=Tryz.isAgg382,
 z85:=Tryz.sizeOf382,
 v85:=Tryz.zeroValue382,
 t127:=Tryz.underlying330,
 a127:=Tryz.isAgg330,
 z127:=Tryz.sizeOf330,
 v127:=Tryz.zeroValue330,
 t143:=Tryz.underlying398,
 a143:=Tryz.isAgg398,
 z143:=Tryz.sizeOf398,
 v143:=Tryz.zeroValue398,
 t145:=Tryz.underlying400,
 a145:=Tryz.isAgg400,
 z145:=Tryz.sizeOf400,
 v145:=Tryz.zeroValue400,
 t167:=Tryz.underlying381,
 a167:=Tryz.isAgg381,
 z167:=Tryz.sizeOf381,
 v167:=Tryz.zeroValue381,
 t168:=Tryz.underlying384,
 a168:=Tryz.isAgg384,
 z168:=Tryz.sizeOf384,
 v168:=Tryz.zeroValue384,
 t171:=Tryz.underlying360,
 a171:=Tryz.isAgg360,
 z171:=Tryz.sizeOf360,
 v171:=Tryz.zeroValue360,
 t173:=Tryz.underlying364,
 a173:=Tryz.isAgg364,
 z173:=Tryz.sizeOf364,
 v173:=Tryz.zeroValue364,
 t175:=Tryz.underlying390,
 a175:=Tryz.isAgg390,
 z175:=Tryz.sizeOf390,
 v175:=Tryz.zeroValue390,
 t210:=Tryz.underlying394,
 a210:=Tryz.isAgg394,
 z210:=Tryz.sizeOf394,
 v210:=Tryz.zeroValue394,
 t212:=Tryz.underlying375,
 a212:=Tryz.isAgg375,
 z212:=Tryz.sizeOf375,
 v212:=Tryz.zeroValue375,
 t213:=Tryz.underlying376,
 a213:=Tryz.isAgg376,
 z213:=Tryz.sizeOf376,
 t232:=Tryz.underlying388,
 a232:=Tryz.isAgg388,
 z232:=Tryz.sizeOf388,
 v232:=Tryz.zeroValue388,
 t233:=Tryz.underlying389,
 a233:=Tryz.isAgg389,
 z233:=Tryz.sizeOf389,
 v233:=Tryz.zeroValue389,
 g15:=by kernel_rfl,
 g16:=by kernel_rfl,
 g17:=by kernel_rfl,
 g18:=by kernel_rfl,
 g19:=by kernel_rfl,
 t80:=Tryz.underlying314,
 a80:=Tryz.isAgg314,
 z80:=Tryz.sizeOf314,
 v80:=Tryz.zeroValue314,
 i0:=by kernel_rfl,
 i2:=by kernel_rfl,
 i3:=by kernel_rfl,
 i4:=by kernel_rfl,
 i5:=by kernel_rfl,
 i9:=by kernel_rfl,
 i20:=by kernel_rfl,
 i21:=by kernel_rfl,
 i37:=by kernel_rfl,
 i46:=by kernel_rfl,
 i51:=by kernel_rfl,
 i53:=by kernel_rfl,
 i75:=by kernel_rfl,
 i76:=by kernel_rfl,
 i80:=by kernel_rfl,
 i85:=by kernel_rfl,
 i127:=by kernel_rfl,
 i143:=by kernel_rfl,
 i145:=by kernel_rfl,
 i167:=by kernel_rfl,
 i168:=by kernel_rfl,
 i171:=by kernel_rfl,
 i173:=by kernel_rfl,
 i175:=by kernel_rfl,
 i210:=by kernel_rfl,
 i212:=by kernel_rfl,
 i232:=by kernel_rfl,
 i233:=by kernel_rfl,
 m15:=by kernel_rfl,
 m16:=by kernel_rfl,
 m17:=by kernel_rfl,
 m18:=by kernel_rfl,
 m19:=by kernel_rfl,
 c0:=by kernel_rfl,
 c2:=by kernel_rfl,
 c3:=by kernel_rfl,
 c4:=by kernel_rfl,
 c5:=by kernel_rfl,
 c9:=by kernel_rfl,
 c20:=by kernel_rfl,
 c21:=by kernel_rfl,
 c37:=by kernel_rfl,
 c46:=by kernel_rfl,
 c51:=by kernel_rfl,
 c53:=by kernel_rfl,
 c75:=by kernel_rfl,
 c76:=by kernel_rfl,
 c80:=by kernel_rfl,
 c85:=by kernel_rfl,
 c127:=by kernel_rfl,
 c143:=by kernel_rfl,
 c145:=by kernel_rfl,
 c167:=by kernel_rfl,
 c168:=by kernel_rfl,
 c171:=by kernel_rfl,
 c173:=by kernel_rfl,
 c175:=by kernel_rfl,
 c210:=by kernel_rfl,
 c212:=by kernel_rfl,
 c213:=by kernel_rfl,
 c232:=by kernel_rfl,
 c233:=by kernel_rfl }
def X7:Go.Shelf.Ren:=⟨fun|171=>295|243=>313|246=>332|283=>355|284=>356|285=>357|286=>358|129=>370|317=>369|318=>371|319=>372|320=>373|337=>379|338=>380|n=>n,fun|3=>3|9=>9|2=>2|4=>4|171=>360|0=>0|53=>361|37=>159|5=>5|173=>364|212=>375|51=>368|20=>20|213=>376|46=>351|232=>388|233=>389|n=>n,fun|17=>2|18=>4|19=>5|n=>n⟩
theorem Tryz.laysM171:Go.Proofs.LaysM.n171 Tryz.prog X7:={
 mixed:=by kernel_rfl,
 f129:=Tryz.func370.trans (congrArg some (by kernel_rfl)),
 f171:=Tryz.func295.trans (congrArg some (by kernel_rfl)),
 f243:=Tryz.func313.trans (congrArg some (by kernel_rfl)),
 f246:=Tryz.func332.trans (congrArg some (by kernel_rfl)),
 f283:=Tryz.func355.trans (congrArg some (by kernel_rfl)),
 f284:=Tryz.func356.trans (congrArg some (by kernel_rfl)),
 f285:=Tryz.func357.trans (congrArg some (by kernel_rfl)),
 f286:=Tryz.func358.trans (congrArg some (by kernel_rfl)),
 f317:=Tryz.func369.trans (congrArg some (by kernel_rfl)),
 f318:=Tryz.func371.trans (congrArg some (by kernel_rfl)),
 f319:=Tryz.func372.trans (congrArg some (by kernel_rfl)),
 f320:=Tryz.func373.trans (congrArg some (by kernel_rfl)),
 f337:=Tryz.func379.trans (congrArg some (by kernel_rfl)),
 f338:=Tryz.func380.trans (congrArg some (by kernel_rfl)),
 t0:=Tryz.underlying0,
 a0:=Tryz.isAgg0,
 z0:=Tryz.sizeOf0,
 v0:=Tryz.zeroValue0,
 t2:=Tryz.underlying2,
 a2:=Tryz.isAgg2,
 z2:=Tryz.sizeOf2,
 v2:=Tryz.zeroValue2,
 t3:=Tryz.underlying3,
 a3:=Tryz.isAgg3,
 z3:=Tryz.sizeOf3,
 v3:=Tryz.zeroValue3,
 t4:=Tryz.underlying4,
 a4:=Tryz.isAgg4,
 z4:=Tryz.sizeOf4,
 v4:=Tryz.zeroValue4,
 t5:=Tryz.underlying5,
 a5:=Tryz.isAgg5,
 z5:=Tryz.sizeOf5,
 v5:=Tryz.zeroValue5,
 t9:=Tryz.underlying9,
 a9:=Tryz.isAgg9,
 z9:=Tryz.sizeOf9,
 v9:=Tryz.zeroValue9,
 t20:=Tryz.underlying20,
 a20:=Tryz.isAgg20,
 z20:=Tryz.sizeOf20,
 v20:=Tryz.zeroValue20,
 t37:=Tryz.underlying159,
 a37:=Tryz.isAgg159,
 z37:=Tryz.sizeOf159,
 v37:=Tryz.zeroValue159,
 t46:=Tryz.underlying351,
 a46:=Tryz.isAgg351,
 z46:=Tryz.sizeOf351,
 v46:=Tryz.zeroValue351,
 t51:=Tryz.underlying368,
 a51:=Tryz.isAgg368,
 z51:=Tryz.sizeOf368,
 v51:=Tryz.zeroValue368,
 t53:=Tryz.underlying361,
 a53:=Tryz.isAgg361,
 z53:=Tryz.sizeOf361,
 v53:=Tryz.zeroValue361,
 t171:=Tryz.underlying360,
 a171:=Tryz.isAgg360,
 z171:=Tryz.sizeOf360,
 v171:=Tryz.zeroValue360,
 t173:=Tryz.underlying364,
 a173:=Tryz.isAgg364,
 z173:=Tryz.sizeOf364,
 v173:=Tryz.zeroValue364,
 t212:=Tryz.underlying375,
 a212:=Tryz.isAgg375,
 z212:=Tryz.sizeOf375,
 v212:=Tryz.zeroValue375,
 t213:=Tryz.underlying376,
 a213:=Tryz.isAgg376,
 z213:=Tryz.sizeOf376,
 t232:=Tryz.underlying388,
 a232:=Tryz.isAgg388,
 z232:=Tryz.sizeOf388,
 v232:=Tryz.zeroValue388,
 t233:=Tryz.underlying389,
 a233:=Tryz.isAgg389,
 z233:=Tryz.sizeOf389,
 v233:=Tryz.zeroValue389,
 g17:=by kernel_rfl,
 g18:=by kernel_rfl,
 g19:=by kernel_rfl,
 i0:=by kernel_rfl,
 i2:=by kernel_rfl,
 i3:=by kernel_rfl,
 i4:=by kernel_rfl,
 i5:=by kernel_rfl,
 i9:=by kernel_rfl,
 i20:=by kernel_rfl,
 i37:=by kernel_rfl,
 i46:=by kernel_rfl,
 i51:=by kernel_rfl,
 i53:=by kernel_rfl,
 i171:=by kernel_rfl,
 i173:=by kernel_rfl,
 i212:=by kernel_rfl,
 i232:=by kernel_rfl,
 i233:=by kernel_rfl,
 m17:=by kernel_rfl,
 m18:=by kernel_rfl,
 m19:=by kernel_rfl }
end Go.Proofs
namespace Go.V
open Go Go.Proofs Go.Proofs.Tryz
theorem Al5(n:Int)(h0:-9223372036854775808≤n)(h1:n≤9223372036854775807):Pure X 295 [vi n] (str (Lib.itoa n)):=by
 refine Wh (vs:=[.int .i64 n]) ⟨_,func295,by kernel_rfl,by rfl⟩ rfl fun w hw=>?_;obtain⟨e,z,ht⟩:=hw.tab;have hg:(X.P.globalNamed "internal/strconv.uint64pow10")=some 2:=by kernel_rfl
 have htab:Lib.TabIs X.P w "internal/strconv.uint64pow10" .u64 Lib.pow10Tab:=by
  unfold Lib.TabIs World.var?;rw[hg];simp[ht]
 have h:=Any.strconv_Itoa laysM171 n h0 h1 w htab;refine h.mono fun e w' he=>?_;obtain⟨rfl,k,os,rfl⟩:=he;refine⟨⟨_,rfl,fun E w=>.val _⟩,rfl,rfl,rfl,?_,fun j hj=>?_⟩
 ·simp[Sort.grow,World.drewN]
 ·simp only[Sort.grow,World.drewN];rw[Zd hj]
def Ot(s:List UInt8):Int:=match Lib.atoiAll s with
 |.ok v=>v
 |.range=>Lib.atoiSat s
 |_=>0
def Acs(s:List UInt8):AV:=match Lib.atoiAll s with
 |.ok _=>.val .nilIface
 |_=>.err
theorem A1h(s:List UInt8)(hs:s.length≤1000000000):Pure X 365 [str s] (.tup [vi (Ot s),Acs s]):=by
 refine Wh (vs:=[.string ⟨⟨s⟩⟩]) ⟨_,func365,by kernel_rfl,by rfl⟩ rfl fun w hw=>?_;have hsz:(⟨⟨s⟩⟩:ByteArray).size=s.length:=rfl;have tup:∀(a b:Value) (x:AV),(∀E w,Rel E w b x)→∀E w,Rel E w (.tuple #[a,b]) (.tup [.val a,x]):=fun a b x h E w=>by
  refine .tup _ _ rfl fun j v y hv hy=>?_
  match j with
  |0=>simp at hv hy;subst hv;subst hy;exact .val _
  |1=>simp at hv hy;subst hv;subst hy;exact h E w
  |j+2=>simp at hy
 cases h:Lib.atoiAll s with
 |ok v=>
  have hc:=Any.strconv_Atoi_ok laysC172 ⟨⟨s⟩⟩ (by rw[hsz];omega) v h w;refine hc.mono fun e w' he=>?_;obtain⟨rfl,hw'⟩:=he;refine⟨⟨_,rfl,?_⟩,?_⟩
  ·simp only[Ot,Acs,h];exact tup _ _ _ fun E w=>.val _
  ·rcases hw' with rfl|⟨t,rfl⟩
   ·exact RowKit.Below.refl _ _
   ·exact Lib.bytesWorld_below _ _ _
 |range=>
  obtain⟨ev,h1,h2⟩:=hw.rng;have hc:=Any.strconv_Atoi_range laysC172 ⟨⟨s⟩⟩ (by rw[hsz];omega) h ev w h1 h2;refine hc.mono fun e w' he=>?_;obtain⟨N,rfl,_,_,hb⟩:=he;refine⟨⟨_,rfl,?_⟩,hb⟩;simp only[Ot,Acs,h];exact tup _ _ _ fun E w=>.err _ _
 |_=>
  obtain⟨ev,h1,h2⟩:=hw.syn;have hc:=Any.strconv_Atoi_syntax laysC172 ⟨⟨s⟩⟩ (by rw[hsz];omega) h ev w h1 h2;refine hc.mono fun e w' he=>?_;obtain⟨N,rfl,_,_,hb⟩:=he;refine⟨⟨_,rfl,?_⟩,hb⟩;simp only[Ot,Acs,h];exact tup _ _ _ fun E w=>.err _ _
def T6(l:List UInt8):Bool:=l.all digit
def O7(n:Nat)(l:List UInt8):Nat:=l.foldl (fun a c=>10*a+(c.toNat-48)) n
theorem Ay6(l:List UInt8):∀n,n≤O7 n l:=by
 induction l with
 |nil=>intro n;simp[O7]
 |cons c l ih=>intro n;have:=ih (10*n+(c.toNat-48));simp only[O7,Ad5]at this⊢;omega
theorem K8{c:UInt8}(h:digit c=true):48≤c.toNat∧c.toNat≤57:=by have:=Aa2 h;omega
theorem Aak:∀(l:List UInt8)(n:Nat),Qt n l=if T6 l then(if O7 n l>1000000 then -1 else(O7 n l:Int))else -1
 |[],n=>by
  have e:Qt n []=if (n:Int)>1000000 then -1 else(n:Int):=rfl;have e2:O7 n []=n:=rfl;have e3:T6 []=true:=rfl;rw[e,e2,e3,if_pos rfl];by_cases h:n>1000000
  ·rw[if_pos h,if_pos (by omega)]
  ·rw[if_neg h,if_neg (by omega)]
 |c::l,n=>by
  simp only[Qt];by_cases hc:digit c=true
  ·rw[if_pos hc];have hd:=K8 hc;have:=Aak l (10*n+(c.toNat-48));rw[show (10*(n:Int)+c.toNat-48)=((10*n+(c.toNat-48):Nat):Int) by omega,this];simp only[T6,Pv,hc,Re,O7,Ad5];rfl
  ·rw[if_neg hc];have hc':digit c=false:=by simpa using hc
   simp[T6,hc']
theorem Af6(l:List UInt8)(c:UInt8)(n:Nat):O7 n (l++[c])=10*O7 n l+(c.toNat-48):=by simp[O7]
theorem T7(n:Nat):T6 (Mb n)=true:=by
 induction n using Nat.strongRecOn with
 |ind n ih=>
  unfold Mb;have hd:∀k,k<10→digit (UInt8.ofNat (48+k))=true:=fun k hk=>by
   have:k=0∨k=1∨k=2∨k=3∨k=4∨k=5∨k=6∨k=7∨k=8∨k=9:=by omega
   rcases this with rfl|rfl|rfl|rfl|rfl|rfl|rfl|rfl|rfl|rfl<;>decide
  split
  ·rename_i h;have:=hd n h;simp only[T6,Pv,List.all_nil,Bool.and_true];exact this
  ·have:=ih (n/10) (by omega);simp only[T6,List.all_append,Pv,List.all_nil,Bool.and_true]at this⊢;rw[this,hd _ (by omega)];rfl
theorem T5(k:Nat)(hk:k<10):(UInt8.ofNat (48+k)).toNat=48+k:=by
 simp;omega
theorem Akd(n:Nat):O7 0 (Mb n)=n:=by
 induction n using Nat.strongRecOn with
 |ind n ih=>
  unfold Mb;split
  ·rename_i h;simp only[O7,Ad5,List.foldl_nil];rw[T5 n h];omega
  ·rw[Af6,ih (n/10) (by omega),T5 _ (by omega)];omega
theorem Anj:∀(q:Nat)(l:List UInt8),l.length=q+1→T6 l=true→(l.length=1∨l.head?≠some 48)→Mb (O7 0 l)=l
 |0,l,hl,hd,_=>by
  match l,hl with
  |[c],_=>
   have hc:digit c=true:=by simpa[T6]using hd
   have:=K8 hc;simp only[O7,Ad5,List.foldl_nil];unfold Mb;rw[if_pos (by omega)];congr 1;apply UInt8.toNat_inj.1;rw[T5 _ (by omega)];omega
 |q+1,l,hl,hd,h0=>by
  have hne:l≠[]:=by rintro rfl;simp at hl
  obtain⟨l',c,rfl⟩:∃l' c,l=l'++[c]:=⟨l.dropLast,l.getLast hne,(List.dropLast_concat_getLast hne).symm⟩
  simp at hl;have hl':l'.length=q+1:=by omega
  simp only[T6,List.all_append,Da,Pv,List.all_nil,Bool.and_true]at hd;have hc:=K8 hd.2;have hhead:l'.head?≠some 48:=by
   rcases h0 with h|h
   ·rw[Es,hl']at h;simp at h
   ·cases l' with
    |nil=>simp at hl'
    |cons y l'=>simpa using h
  have ih:=Anj q l' hl' hd.1 (.inr hhead);have hpos:1≤O7 0 l':=by
   cases l' with
   |nil=>simp at hl'
   |cons y l'=>
    simp only[T6,Pv,Da]at hd;have hy:=K8 hd.1.1;have:y.toNat≠48:=fun h=>hhead (by simp;exact UInt8.toNat_inj.1 h);have:=Ay6 l' (10*0+(y.toNat-48));simp only[O7,Ad5]at this⊢;omega
  rw[Af6];unfold Mb;rw[if_neg (by omega),show (10*O7 0 l'+(c.toNat-48))/10=O7 0 l' by omega,ih,show (10*O7 0 l'+(c.toNat-48))%10=c.toNat-48 by omega];congr 2;apply UInt8.toNat_inj.1;rw[T5 _ (by omega)];omega
theorem Agy(n:Nat):Lib.decDigits n=Mb n:=by
 induction n using Nat.strongRecOn with
 |ind n ih=>
  unfold Mb;rw[Lib.decDigits];split
  ·rfl
  ·rw[ih (n/10) (by omega)]
theorem Pn(s:List UInt8):0≤Dn s↔∃n:Nat,n≤1000000∧s=Mb n∧Dn s=n:=by
 constructor
 ·intro h;cases s with
  |nil=>simp[Dn]at h
  |cons c l=>
   simp only[Dn]at h⊢;split at h
   ·omega
   ·rename_i h1;split at h
    ·omega
    ·rename_i h2;rw[if_neg h1,if_neg h2];have hv:=Aak (c::l) 0;simp only[Int.ofNat_zero]at hv;rw[hv]at h⊢;split at h
     ·rename_i hd;rw[if_pos hd];split at h
      ·omega
      ·rename_i hle;rw[if_neg hle];refine⟨O7 0 (c::l),by omega,?_,rfl⟩;refine(Anj l.length (c::l) (by simp) hd ?_).symm;simp only[Da,J9,zzq56,not_and]at h2;by_cases hl:l.length>0
       ·right;simp;exact h2 hl
       ·have:l=[]:=List.eq_nil_of_length_eq_zero (by omega);subst this;left;rfl
     ·omega
 ·rintro⟨n,_,_,h⟩;omega
theorem Asl(n:Nat)(h:10≤n):(Mb n).head?≠some 48:=by
 induction n using Nat.strongRecOn with
 |ind n ih=>
  unfold Mb;rw[if_neg (by omega)];have hne:Mb (n/10)≠[]:=by unfold Mb;split<;>simp
  have ih':(Mb (n/10)).head?≠some 48:=by
   by_cases h2:10≤n/10
   ·exact ih (n/10) (by omega) h2
   ·unfold Mb;rw[if_pos (by omega)];intro h;have:=congrArg UInt8.toNat (Option.some.inj h)
    rw[T5 _ (by omega)]at this;simp at this;omega
  cases hq:Mb (n/10)with
  |nil=>exact absurd hq hne
  |cons y l=>rw[hq]at ih';simpa using ih'
theorem Agz(n:Nat):1≤(Mb n).length:=by
 unfold Mb;split<;>simp
theorem Pm(n:Nat)(h:n≤1000000):Dn (Mb n)=n:=by
 have hl:=Vg n h;have hp:=Agz n;have hv:=Aak (Mb n) 0;rw[T7,if_pos rfl,Akd,if_neg (by omega)]at hv;cases hs:Mb n with
 |nil=>rw[hs]at hp;simp at hp
 |cons c l=>
  rw[hs]at hl hv;simp at hl;simp only[Dn];rw[if_neg (by omega)];have:¬((decide (l.length>0)&&c==48)=true):=by
   simp only[Da,J9,zzq56,not_and];intro h1 h2;have h10:10≤n:=by
    rcases Gu n 10 with h'|h'
    ·unfold Mb at hs;rw[if_pos h']at hs;simp at hs;rw[hs.2]at h1;simp at h1
    ·exact h'
   have:=Asl n h10;rw[hs]at this;simp at this;exact this h2
  rw[if_neg this];exact hv
theorem Aaz:∀(l:List UInt8)(n:Nat),T6 l=true→Lib.decFrom n l=some (O7 n l)
 |[],n,_=>by simp[Lib.decFrom,O7]
 |c::l,n,h=>by
  simp only[T6,Pv,Da]at h;have hc:=K8 h.1;have hd:Lib.digitVal c=some (c.toNat-48):=by unfold Lib.digitVal;rw[if_pos (by omega)]
  simp only[Lib.decFrom,hd];rw[Aaz l _ h.2];simp only[O7,Ad5];rw[Nat.mul_comm]
theorem Ar9(n:Nat)(h:n≤1000000):Lib.atoiAll (Mb n)=.ok (n:Int):=by
 have hl:=Vg n h;have hp:=Agz n;have hd:=T7 n;have hv:=Akd n;rw[Lib.atoiAll_short _ (by omega)];cases hs:Mb n with
 |nil=>rw[hs]at hp;simp at hp
 |cons c l=>
  rw[hs]at hd hv;have hc:digit c=true:=by simp only[T6,Pv,Da]at hd;exact hd.1
  have hr:=K8 hc;have h45:(c==45)=false:=by rw[beq_eq_false_iff_ne];rintro rfl;simp at hr
  have h43:(c==43)=false:=by rw[beq_eq_false_iff_ne];rintro rfl;simp at hr
  simp only[Lib.atoi,h45,h43,Lib.decNat,Aaz _ 0 hd,hv];rfl
def Qx(s:List UInt8):Bool:=match Lib.atoiAll s with
 |.ok v=>Lib.itoa v==s
 |_=>false
theorem Afs{s:List UInt8}{n:Nat}(h:n≤1000000)(hs:s=Mb n):Qx s=true∧Ot s=n:=by
 subst hs;simp only[Qx,Ot,Ar9 n h];have:Lib.itoa (n:Int)=Mb n:=by unfold Lib.itoa;rw[if_neg (by omega),Hc,Agy]
 simp[this]
theorem Aqu(c:UInt8)(l:List UInt8)(hc:digit c=true):(Qx (c::l)&&decide (Ot (c::l)≤1000000))=decide (0≤Dn (c::l)):=by
 rw[Bool.eq_iff_iff];simp only[Da,J9];rw[Pn];constructor
 ·rintro⟨h1,h2⟩;cases h:Lib.atoiAll (c::l)with
  |ok v=>
   simp only[Qx,Ot,h,zzq56]at h1 h2;have h1:=h1.symm;have hv:¬v<0:=fun hv=>by
    unfold Lib.itoa at h1;rw[if_pos hv]at h1;simp at h1;have:=K8 hc;rw[h1.1]at this;simp at this
   obtain⟨n,rfl⟩:∃n:Nat,v=n:=⟨v.toNat,by omega⟩
   unfold Lib.itoa at h1;rw[if_neg hv,Hc,Agy]at h1;exact⟨n,by omega,h1,by rw[h1];exact Pm n (by omega)⟩
  |range=>simp[Qx,h]at h1
  |_=>simp[Qx,h]at h1
 ·rintro⟨n,hn,hs,_⟩;obtain⟨a,b⟩:=Afs hn hs;exact⟨a,by rw[b];omega⟩
theorem Afq(s:List UInt8)(hs:s.length≤1000000000):Pure X 343 [str s] (.tup [vi (Ot s),vb (Qx s)]):=by
 have hu:X.P.underlying 340=some (.interface (X.P.methodsAt 340)):=by kernel_rfl
 have ha:=A1h s hs;refine Pure.run func343 ?_;cases h:Lib.atoiAll s with
 |ok v=>
  simp only[Ot,Acs,Qx,h]at ha⊢;obtain⟨b0,b1⟩:=Lib.atoiAll_bounds h;refine Al ha ?_;refine Bm (Apc hu) ?_;refine Hh ?_;refine Al (Al5 v (by omega) (by omega)) ?_;exact Az func343 rfl
 |range=>
  simp only[Ot,Acs,Qx,h]at ha⊢;refine Al ha ?_;refine Bm (Acn hu) ?_;refine Ii ?_;exact Az func343 rfl
 |_=>
  simp only[Ot,Acs,Qx,h]at ha⊢;refine Al ha ?_;refine Bm (Acn hu) ?_;refine Ii ?_;exact Az func343 rfl
theorem Ajz(s:List UInt8)(c:UInt8):Pure X 386 [str s,vc c] (vi (Lib.indexByte s c)):=by
 have hr:∀w,(callFunc 393 ⟨[.string ⟨⟨s⟩⟩,.int .u8 c.toNat]⟩).run X.P w=.ok (.value (.int .i64 (Lib.indexByte s c))) w:=fun w=>by
  refine(run_callFunc_extern func393 (by kernel_rfl) (by kernel_rfl) (by kernel_rfl) (e:=Extern.BytealgIndexByte.indexByte) (by kernel_rfl) _ w).trans ?_;have:=Lib.run_indexByteString (P:=prog) ⟨⟨s⟩⟩ (c.toNat:Int) w;have e:((c.toNat:Int)).toNat.toUInt8=c:=by simp
  rw[e]at this;rw[show (⟨[.string ⟨⟨s⟩⟩,.int .u8 c.toNat]⟩:Array Value)=#[.string ⟨⟨s⟩⟩,.int .u8 c.toNat]from rfl,this];rfl
 refine Pure.run func386 ?_;refine Bm (Akz hr) ?_;exact Az func386 rfl
theorem Aqs(s:List UInt8)(c:UInt8):Pure X 377 [str s,str [c]] (vi (Lib.indexByte s c)):=by
 refine Pure.run func377 ?_;refine Ii ?_;refine Ag (fun h=>?_) (fun h=>?_)
 ·have h':([c]==s)=true:=h;have:s=[c]:=by rw[zzq56]at h';exact h'.symm
  subst this;refine Az func377 ?_;simp[Lib.indexByte,C5]
 ·refine A1 ?_;refine Je 0 (by omega) (b:=c) rfl ?_;refine Al (Ajz s c) ?_;exact Az func377 rfl
theorem Aub(s:List UInt8)(c:UInt8):Pure X 366 [str s,str [c]] (vi (Lib.indexByte s c)):=by
 refine Pure.run func366 ?_;refine Al (Aqs s c) ?_;exact Az func366 rfl
theorem Ajx(s:List UInt8)(c:UInt8):Pure X 345 [str s,str [c]] (vb (decide (Lib.indexByte s c≥0))):=by
 refine Pure.run func345 ?_;refine Al (Aub s c) ?_;exact Az func345 rfl
def oneSigns:List UInt8:=[43,45,42,40,41,91,93,123,125,59,61,60,62,63]
def Kl:List (List UInt8):=[[61,61],[33,61],[60,61],[62,61]]
theorem Wj(l:List UInt8)(c:UInt8):decide (Lib.indexByte l c≥0)=l.contains c:=by
 induction l with
 |nil=>rfl
 |cons b l ih=>
  unfold Lib.indexByte;by_cases h:b=c
  ·subst h;simp
  ·have h':(b==c)=false:=by simpa using h
   have h2:(c==b)=false:=by simpa using Ne.symm h
   rw[h'];simp only[Bool.false_eq_true,if_false,List.contains_cons,h2,Bool.false_or,←ih];have:=Lib.indexByte_ge l c;split
   ·rename_i h3;have:Lib.indexByte l c=-1:=by simpa using h3
    rw[this]
   ·rename_i h3;have:Lib.indexByte l c≠-1:=by simpa using h3
    by_cases h4:Lib.indexByte l c≥0
    ·simp[h4];omega
    ·omega
theorem Ada(c:UInt8)(l:List UInt8)(h1:Eh c=false)(h2:digit c=false):Dd (c::l)=if has Kl (c::l)||(l.isEmpty&&oneSigns.contains c)then 3 else 0:=by
 have k1:has Ug (c::l)=false:=by
  simp only[has,Ug,Zh,List.any_nil,U6,Pb,beq_eq_false_iff_ne];refine⟨?_,?_,?_,?_,?_,?_,?_,?_,?_,?_,?_,?_,?_⟩<;>(intro h;injection h with h _;subst h;revert h1;decide)
 have k2:nameS (c::l)=false:=by simp[nameS,h1]
 have k3:¬Dn (c::l)≥0:=by
  intro h;obtain⟨n,_,hs,_⟩:=(Pn _).1 h;have:=T7 n;rw[←hs]at this;simp only[T6,Pv,h2,Bool.false_and]at this;cases this
 simp only[Dd,k1,k2];rw[if_neg (by simp),if_neg (by simp),if_neg k3];have:has J6 (c::l)=(has Kl (c::l)||(l.isEmpty&&oneSigns.contains c)):=by
  cases l with
  |nil=>
   simp only[has,J6,Kl,oneSigns,Zh,List.any_nil,List.contains_cons,List.contains_nil,List.isEmpty_nil,Re,U6];have e:∀a:UInt8,(a==c)=(c==a):=fun a=>by rw[Bool.eq_iff_iff,zzq56,zzq56];exact eq_comm
   simp[e,Bool.or_assoc]
  |cons d l=>
   simp only[has,J6,Kl,Zh,List.any_nil,List.isEmpty_cons,Bool.false_and,U6];simp
 rw[this]
theorem Aj1(s:List UInt8)(hs:s.length≤1000000000):Pure X 320 [str s] (vi (Dd s)):=by
 cases s with
 |nil=>
  refine Pure.run func320 ?_;refine A1 ?_;refine Az func320 ?_;rfl
 |cons c l=>
  simp only[Nl]at hs;have hsz:((⟨⟨c::l⟩⟩:ByteArray).size:Int)=l.length+1:=M5 c l;refine Pure.run func320 ?_;refine Ah ?_;refine Al (Ax5 (c::l)) ?_;refine Ag (fun h1=>?_) (fun h1=>?_)
  ·have h1':has Ug (c::l)=true:=h1;refine Az func320 ?_;simp[Dd,h1',C5]
  have h1':has Ug (c::l)=false:=h1;refine Je 0 (by omega) (b:=c) rfl ?_;refine Al (Adp c) ?_;refine Ag (fun h2=>?_) (fun h2=>?_)
  ·have h2':Eh c=true:=h2;have hk:Dd (c::l)=if Q9 (c::l)&&decide (l.length<8)then 1 else 0:=by
    have hn:nameS (c::l)=(Q9 (c::l)&&decide (l.length<8)):=by simp[nameS,h1',h2',Bool.and_comm]
    have hd:digit c=false:=by
     simp only[Eh,digit,Bl,Da,J9,Bool.and_eq_false_iff,decide_eq_false_iff_not]at h2'⊢;omega
    have k3:¬Dn (c::l)≥0:=by
     intro h;obtain⟨n,_,hs,_⟩:=(Pn _).1 h;have:=T7 n;rw[←hs]at this;simp only[T6,Pv,hd,Bool.false_and]at this;cases this
    have k4:has J6 (c::l)=false:=by
     simp only[has,J6,Zh,List.any_nil,U6,Pb,beq_eq_false_iff_ne];refine⟨?_,?_,?_,?_,?_,?_,?_,?_,?_,?_,?_,?_,?_,?_,?_,?_,?_,?_⟩<;>(intro h;injection h with h _;subst h;revert h2';decide)
    simp only[Dd,h1',hn];rw[if_neg (by simp)];split
    ·rfl
    ·first|(rw[if_neg k3,k4];rfl)|(rw[k4];rfl)
   rw[hk];generalize hT:Q9 (c::l)=T;refine Av (ι:=Nat) 0 0 (fun i=>i≤l.length+1∧T=Q9 ((c::l).drop i)) (fun i=>[(18,vi i),(17,vi (l.length+1)),(0,str (c::l))]) (fun _=>⟨[],[]⟩) (fun i=>l.length+1-i) ?_ 0 ⟨Cc _,hT.symm⟩
    ⟨rfl,by rw[←hsz];rfl,rfl,trivial⟩
   rintro i ⟨hi,hTi⟩ IH;refine Dh (fun h3=>?_) (fun h3=>?_)
   ·have hlt:i<(c::l).length:=by have:=A7 h3;simp;omega
    obtain⟨b,hb⟩:=Ab (c::l) hlt;rw[B5 hb]at hTi;have hw:Q9 (b::(c::l).drop (i+1))=((Eh b||digit b)&&Q9 ((c::l).drop (i+1))):=rfl;rw[hw]at hTi;refine Je i (by omega) hb ?_;refine Al (Adp b) ?_;refine Db (fun h4=>?_) (fun h4=>?_)
    ·have h4':Eh b=false:=by have:(!Eh b)=true:=h4;simpa using this
     refine Je i (by omega) hb ?_;refine Al (Ah2 b) ?_;refine Ag (fun h5=>?_) (fun h5=>?_)
     ·have h5':digit b=false:=by have:(!digit b)=true:=h5;simpa using this
      refine Az func320 ?_;rw[hTi,h4',h5'];rfl
     ·have h5':digit b=true:=by have:(!digit b)=false:=h5;simpa using this
      exact IH (i+1) ⟨by simp at hlt;omega,by rw[hTi,h5'];simp⟩ (by simp at hlt;omega) _ _ ⟨vsx (by omega),rfl,rfl,trivial⟩ rfl rfl rfl
    ·have h4':Eh b=true:=by have:(!Eh b)=false:=h4;simpa using this
     refine Ah ?_;exact IH (i+1) ⟨by simp at hlt;omega,by rw[hTi,h4'];simp⟩ (by simp at hlt;omega) _ _ ⟨vsx (by omega),rfl,rfl,trivial⟩ rfl rfl rfl
   ·have:i=(c::l).length:=by have:=Bd h3;simp;omega
    rw[this,Hw]at hTi;have hT1:T=true:=hTi;subst hT1;refine Ag (fun h4=>?_) (fun h4=>?_)
    ·have h4':l.length<8:=by have:=A7 h4;rw[hsz]at this;omega
     refine Az func320 ?_;simp[h4',C5]
    ·have h4':¬l.length<8:=by have:=Bd h4;rw[hsz]at this;omega
     refine Az func320 ?_;simp[h4',C5]
  have h2':Eh c=false:=h2;refine Je 0 (by omega) (b:=c) rfl ?_;refine Al (Ah2 c) ?_;refine Ag (fun h3=>?_) (fun h3=>?_)
  ·have h3':digit c=true:=h3;have hr:=Aqu c l h3';have hk:Dd (c::l)=if Qx (c::l)&&decide (Ot (c::l)≤1000000)then 2 else 0:=by
    have k2:nameS (c::l)=false:=by simp[nameS,h2']
    have k4:has J6 (c::l)=false:=by
     simp only[has,J6,Zh,List.any_nil,U6,Pb,beq_eq_false_iff_ne];refine⟨?_,?_,?_,?_,?_,?_,?_,?_,?_,?_,?_,?_,?_,?_,?_,?_,?_,?_⟩<;>(intro h;injection h with h _;subst h;revert h3';decide)
    simp only[Dd,h1',k2,hr];rw[if_neg (by simp),if_neg (by simp)];by_cases h:0≤Dn (c::l)
    ·simp[h]
    ·rw[if_neg (by omega),k4];simp[h]
   rw[hk];refine Al (Afq (c::l) (by simp;omega)) ?_;refine Db (fun h4=>?_) (fun h4=>?_)
   ·have h4':Qx (c::l)=true:=h4;refine Ag (fun h5=>?_) (fun h5=>?_)
    ·have h5':Ot (c::l)≤1000000:=A7 h5;refine Az func320 ?_;simp[h4',h5',C5]
    ·have h5':¬Ot (c::l)≤1000000:=Bd h5;refine Az func320 ?_;simp[h4',h5',C5]
   ·have h4':Qx (c::l)=false:=h4;refine Ah ?_;refine Az func320 ?_;simp[h4',C5]
  have h3':digit c=false:=h3;rw[Ada c l h2' h3'];refine Al (Sv Kl (c::l) (by decide)) ?_;refine Db (fun h4=>?_) (fun h4=>?_)
  ·have h4':has Kl (c::l)=true:=h4;refine A1 ?_;refine Az func320 ?_;simp[h4',C5]
  have h4':has Kl (c::l)=false:=h4;cases l with
  |nil=>
   refine Hh ?_;refine Al (Ajx oneSigns c) ?_;refine Ag (fun h5=>?_) (fun h5=>?_)
   ·have h5':oneSigns.contains c=true:=by rw[←Wj];exact h5
    refine Az func320 ?_;rw[h4',h5'];rfl
   ·have h5':oneSigns.contains c=false:=by rw[←Wj];exact h5
    refine Az func320 ?_;rw[h4',h5'];rfl
  |cons d l=>
   have:(((⟨⟨c::d::l⟩⟩:ByteArray).size:Int)==1)=false:=by rw[M5];simp;omega
   refine Ii ?_ (ht:=this);refine Ah ?_;refine Az func320 ?_;simp[h4',C5]
theorem Au9(c d:UInt8)(l:List UInt8)(h1:Eh c=false)(h2:digit c=false):(Dd [c,d]==3)=has J6 [c,d]:=by
 rw[Ada c [d] h1 h2];have:has J6 [c,d]=has Kl [c,d]:=by
  simp only[has,J6,Kl,Zh,List.any_nil,U6];simp
 rw[this];cases has Kl [c,d]<;>rfl
def Awl(c:UInt8):List UInt8→Nat
 |[]=>1
 |d::_=>if has J6 [c,d]then 2 else 1
theorem Aqp(c:UInt8)(l:List UInt8)(hs:l.length≤900000000):Pure X 319 [str (c::l)] (vi (Li (c::l))):=by
 have hsz:((⟨⟨c::l⟩⟩:ByteArray).size:Int)=l.length+1:=M5 c l;obtain⟨T,hT⟩:∃T,Gy (c::l)=T:=⟨_,rfl⟩
 have hTle:T≤l.length+1:=by rw[←hT];exact Xx _
 have hE:Li (c::l)=if T=0 then Awl c l else T:=by
  by_cases h:(Eh c||digit c)=true
  ·have hw:T=1+Gy l:=by rw[←hT];simp only[Gy];rw[if_pos h]
   have he:Li (c::l)=Gy (c::l):=by simp only[Li];rw[if_pos h]
   rw[he,hT,if_neg (by omega)]
  ·have hw:T=0:=by rw[←hT];simp only[Gy];rw[if_neg h]
   have he:Li (c::l)=Awl c l:=by simp only[Li];rw[if_neg h];cases l<;>rfl
   rw[he,if_pos hw]
 have tail:AK X ⟨319,f319,0,0⟩ (Lj false 4 f319) [(3,vi T),(0,str (c::l))] ⟨[],[]⟩ (fun e S=>e=.ret (vi (Li (c::l)))∧S=⟨[],[]⟩):=by
  rw[hE];refine D3 ?_;refine Bj 100 rfl ?_;refine Db (fun h=>?_) (fun h=>?_)
  ·have h0:T=0:=by have:((T:Int)==0)=true:=h;simpa using this
   have hcd:Eh c=false∧digit c=false:=by
    rw[h0]at hT;simp only[Gy]at hT;split at hT
    ·omega
    ·rename_i h;simpa using h
   rw[if_pos h0];cases l with
   |nil=>
    refine Ii ?_;refine Ah ?_;refine Az func319 ?_;rw[h0];rfl
   |cons d l=>
    refine Hh ?_ (ht:=Zg (by rw[hsz];simp;omega));refine Bm (Pf (l:=0) (h:=2) (r:=[c,d]) rfl rfl rfl rfl rfl rfl rfl rfl ?_ ?_ ?_ rfl) ?_
    ·omega
    ·omega
    ·simp;omega
    refine Al (Aj1 [c,d] (by simp)) ?_;have e:=Au9 c d l hcd.1 hcd.2;refine Ag (fun h2=>?_) (fun h2=>?_)
    ·have h2':has J6 [c,d]=true:=by rw[←e];exact h2
     refine Az func319 ?_;simp[h2',C5,Awl]
    ·have h2':has J6 [c,d]=false:=by rw[←e];exact h2
     refine Az func319 ?_;simp[h2',h0,C5,Awl]
  ·have h0:T≠0:=by have:((T:Int)==0)=false:=h;simpa using this
   rw[if_neg h0];refine Ii ?_;refine Ah ?_;refine Az func319 ?_;simp only[C5];rw[if_neg (by omega)]
 refine Pure.run func319 ?_;refine Av (ι:=Nat) 0 0 (fun i=>i≤l.length+1∧T=i+Gy ((c::l).drop i)) (fun i=>[(3,vi i),(0,str (c::l))]) (fun _=>⟨[],[]⟩) (fun i=>l.length+1-i) ?_ 0 ⟨Cc _,by simpa using hT.symm⟩
  ⟨rfl,rfl,trivial⟩
 rintro i ⟨hi,hTi⟩ IH;refine Bj 100 rfl ?_;refine Db (fun h=>?_) (fun h=>?_)
 ·have hlt:i<(c::l).length:=by have:=A7 h;simp;omega
  obtain⟨b,hb⟩:=Ab (c::l) hlt;rw[B5 hb]at hTi;simp only[Gy]at hTi;refine Je i (by omega) hb ?_;refine Al (Adp b) ?_;refine Db (fun h2=>?_) (fun h2=>?_)
  ·have h2':Eh b=true:=h2;refine A1 ?_;rw[h2']at hTi;exact IH (i+1) ⟨by simp at hlt;omega,by rw[hTi];simp;omega⟩ (by simp at hlt;omega) _ _ ⟨vsx (by omega),rfl,trivial⟩ rfl rfl rfl
  ·have h2':Eh b=false:=h2;refine Je i (by omega) hb ?_;refine Al (Ah2 b) ?_;refine Eu 0 4 (fun h3=>?_) (fun h3=>?_)
   ·have h3':digit b=true:=h3;rw[h3']at hTi;refine Bj 100 rfl ?_;exact IH (i+1) ⟨by simp at hlt;omega,by rw[hTi];simp;omega⟩ (by simp at hlt;omega) _ _ ⟨vsx (by omega),rfl,trivial⟩ rfl rfl rfl
   ·have h3':digit b=false:=h3;rw[h2',h3']at hTi;have hTi':T=i:=by simpa using hTi
    rw[hTi']at tail;exact B3 0 0 tail ⟨rfl,rfl,trivial⟩ rfl rfl rfl rfl rfl
 ·have hie:i=(c::l).length:=by have:=Bd h;simp;omega
  rw[hie,Hw]at hTi;have hTi':T=i:=by rw[hie,hTi];rfl
  rw[hTi']at tail;refine Eu 0 4 (fun h3=>?_) (fun h3=>?_)
  ·cases h3
  ·exact B3 0 0 tail ⟨rfl,rfl,trivial⟩ rfl rfl rfl rfl rfl
theorem Ayb(s:List UInt8)(hs:s.length≤900000000):Pure X 300 [str s] (.tup [.sl (Hj (C4 s).1) .no,.agg [vi (C4 s).2.1,vi (C4 s).2.2]]):=by
 refine Pure.run func300 ?_;refine Ag (fun h=>?_) (fun h=>?_)
 ·have:s.length>4000:=by have:=A7 h;rw[F6]at this;omega
  refine Ie 2 (.sl [] .tight) ?_;refine Au func300 ?_;simp only[C4];rw[if_pos this];rfl
 have hlen:¬s.length>4000:=by have:=Bd h;rw[F6]at this;omega
 generalize hT:C4 s=T;have hT':T=Hg (s.length+1) (Ce false s) (s.drop (Ce false s)) []:=by rw[←hT];simp only[C4];rw[if_neg hlen]
 refine N1 (d:=4) rfl rfl rfl ?_;refine Av (ι:=Nat×List Wd) 1 1 (fun i=>i.1≤s.length∧i.2.length≤1500∧∃f,s.length-i.1<f∧T=Hg f (i.1+Ce false (s.drop i.1)) (s.drop (i.1+Ce false (s.drop i.1))) i.2)
  (fun i=>[(5,vi i.1),(4,.sl (Hj i.2) (.tok 0)),(0,str s),(3,.ptr 0 0 0)]) (fun i=>⟨[[[vi 0,vi 0]]],[i.2.length]⟩) (fun i=>s.length-i.1) ?_ (0,[]) ⟨Cc _,Cc _,s.length+1,by simp,by simpa using hT'⟩
  ⟨rfl,rfl,rfl,rfl,trivial⟩
 rintro⟨a,out⟩ ⟨ha,hout,f,hf,hTa⟩ IH;simp only at ha hout hf hTa IH⊢;refine Dh (fun h=>?_) (fun h=>?_)
 ·have hlt:a<s.length:=by have:=A7 h;rw[F6]at this;omega
  obtain⟨c,hc⟩:=Ab s hlt;have hd:=B5 hc;refine Je a (by omega) hc ?_;have white:(c==32||c==10)=true→T=Hg f (a+1+Ce false (s.drop (a+1))) (s.drop (a+1+Ce false (s.drop (a+1)))) out:=fun hw=>by
   have e:Ce false (s.drop a)=1+Ce false (s.drop (a+1)):=by rw[hd];simp only[Ce];rw[if_pos hw]
   rw[hTa,e,show a+(1+Ce false (s.drop (a+1)))=a+1+Ce false (s.drop (a+1)) by omega]
  refine Ag (fun h1=>?_) (fun h1=>?_)
  ·have h1':(c==32)=true:=by rw[←cb];exact h1
   exact IH (a+1,out) ⟨by simp only;omega,hout,f,by simp only;omega,white (by rw[h1'];rfl)⟩ (by simp only;omega) _ _ ⟨vsx (by omega),rfl,rfl,rfl,trivial⟩ rfl rfl rfl
  have h1':(c==32)=false:=by rw[←cb];exact h1
  refine Ag (fun h2=>?_) (fun h2=>?_)
  ·have h2':(c==10)=true:=by rw[←cb];exact h2
   exact IH (a+1,out) ⟨by simp only;omega,hout,f,by simp only;omega,white (by rw[h2'];simp)⟩ (by simp only;omega) _ _ ⟨vsx (by omega),rfl,rfl,rfl,trivial⟩ rfl rfl rfl
  have h2':(c==10)=false:=by rw[←cb];exact h2
  refine Ag (fun h3=>?_) (fun h3=>?_)
  ·have h3':(c==35)=true:=by rw[←cb];exact h3
   have hE:Ce false (s.drop a)=Ce true (s.drop a):=by rw[hd];simp only[Ce];rw[if_neg (by simp[h1',h2']),if_pos h3',if_neg (by simp[h2'])]
   rw[hE]at hTa;refine Av (ι:=Nat) 1 1 (fun i=>a≤i∧i≤s.length∧T=Hg f (i+Ce true (s.drop i)) (s.drop (i+Ce true (s.drop i))) out) (fun i=>[(5,vi i),(4,.sl (Hj out) (.tok 0)),(0,str s),(3,.ptr 0 0 0)])
    (fun _=>⟨[[[vi 0,vi 0]]],[out.length]⟩) (fun i=>s.length-i) ?_ a ⟨Bo _,ha,hTa⟩ ⟨rfl,rfl,rfl,rfl,trivial⟩
   rintro i ⟨hai,hi,hTi⟩ IH2;refine Bj 100 rfl ?_;refine Db (fun h4=>?_) (fun h4=>?_)
   ·have hlt2:i<s.length:=by have:=A7 h4;rw[F6]at this;omega
    obtain⟨b,hb⟩:=Ab s hlt2;have hd2:=B5 hb;refine Je i (by omega) hb ?_;refine Ag (fun h5=>?_) (fun h5=>?_)
    ·have h5':(b==10)=false:=by
      have:(!((b.toNat:Int)==10))=true:=h5;rw[←cb];simpa using this
     have e:Ce true (s.drop i)=1+Ce true (s.drop (i+1)):=by rw[hd2];simp only[Ce];rw[if_neg (by simp[h5'])]
     exact IH2 (i+1) ⟨by omega,by omega,by rw[hTi,e,show i+(1+Ce true (s.drop (i+1)))=i+1+Ce true (s.drop (i+1)) by omega]⟩ (by omega) _ _ ⟨vsx (by omega),rfl,rfl,rfl,trivial⟩ rfl rfl rfl
    ·have h5':(b==10)=true:=by
      have:(!((b.toNat:Int)==10))=false:=h5;rw[←cb];simpa using this
     have e:Ce true (s.drop i)=Ce false (s.drop i):=by rw[hd2];simp only[Ce];rw[if_pos h5',if_pos (by rw[h5'];simp)]
     have hne:a≠i:=by
      rintro rfl;rw[hc]at hb;cases hb;rw[h5']at h2';cases h2'
     exact IH (i,out) ⟨by simp only;omega,hout,f,by simp only;omega,by rw[e]at hTi;exact hTi⟩ (by simp only;omega) _ _ ⟨rfl,rfl,rfl,rfl,trivial⟩ rfl rfl rfl
   ·have hie:i=s.length:=by have:=Bd h4;rw[F6]at this;omega
    have e:Ce true (s.drop i)=Ce false (s.drop i):=by rw[hie,Hw];rfl
    refine Ah ?_;exact IH (i,out) ⟨by simp only;omega,hout,f,by simp only;omega,by rw[e]at hTi;exact hTi⟩ (by simp only;omega) _ _ ⟨rfl,rfl,rfl,rfl,trivial⟩ rfl rfl rfl
  have h3':(c==35)=false:=by rw[←cb];exact h3
  have h0:Ce false (s.drop a)=0:=by rw[hd];simp only[Ce];rw[if_neg (by simp[h1',h2']),if_neg (by simp[h3'])]
  rw[h0,Pt]at hTa;obtain⟨g,rfl⟩:∃g,f=g+1:=⟨f-1,by omega⟩
  obtain⟨n,hn⟩:∃n,Li (s.drop a)=n:=⟨_,rfl⟩
  have hbd:=Ank c (s.drop (a+1));rw[←hd,hn]at hbd;have hdl:(s.drop a).length=s.length-a:=by simp
  rw[hdl]at hbd;obtain⟨t,ht⟩:∃t,(s.drop a).take n=t:=⟨_,rfl⟩
  have htl:t.length=n:=by rw[←ht];simp;omega
  have hstep:T=if Dd t==0 then([],2,a)else if out.length==1500 then([],3,a)else
   Hg g (a+n+Ce false (s.drop (a+n))) (s.drop (a+n+Ce false (s.drop (a+n)))) (out++[⟨Dd t,t,a⟩]):=by
   rw[hTa]
   conv=>lhs;unfold Hg
   rw[hd];simp only;rw[←hd,hn,ht,Ad7,Ad7];rw[show a+(n+Ce false (s.drop (a+n)))=a+n+Ce false (s.drop (a+n)) by omega]
  have hlong:Pure X 319 [str (s.drop a)] (vi n):=by
   have:=Aqp c (s.drop (a+1)) (by simp;omega);rw[←hd,hn]at this;exact this
  refine Bm (Pf (l:=(a:Int)) (h:=(s.length:Int)) (r:=s.drop a) rfl rfl rfl rfl rfl rfl rfl rfl ?_ ?_ ?_ ?_) ?_
  ·omega
  ·omega
  ·omega
  ·simp
  refine Al hlong ?_;have hwr:IntKind.i64.wrap ((a:Int)+(n:Int))=(a+n:Nat):=(Ac (by omega) (by omega)).trans (by omega);refine Bm (Pf (l:=(a:Int)) (h:=IntKind.i64.wrap ((a:Int)+(n:Int))) (r:=t) rfl rfl rfl rfl rfl rfl rfl rfl ?_ ?_ ?_ ?_) ?_
  ·omega
  ·rw[hwr];omega
  ·rw[hwr];omega
  ·rw[hwr,←ht];rw[show ((a+n:Nat):Int).toNat=a+n by omega,show ((a:Nat):Int).toNat=a by omega,List.drop_take,show a+n-a=n by omega]
  refine Al (Aj1 t (by omega)) ?_;refine Ag (fun h4=>?_) (fun h4=>?_)
  ·have h4':(Dd t==0)=true:=h4;refine Ie 2 (.sl [] .tight) ?_;refine Au func300 ?_;rw[hstep,h4'];rfl
  have h4':(Dd t==0)=false:=h4;refine Ag (fun h5=>?_) (fun h5=>?_)
  ·have h5':(out.length==1500)=true:=by
    have:(((Hj out).length:Int)==1500)=true:=h5;rw[Dz]at this;simp at this⊢;omega
   refine Ie 2 (.sl [] .tight) ?_;refine Au func300 ?_;rw[hstep,h4',h5'];rfl
  have h5':(out.length==1500)=false:=by
   have:(((Hj out).length:Int)==1500)=false:=h5;rw[Dz]at this;simp at this⊢;omega
  have h5'':out.length≠1500:=by simpa using h5'
  refine Bm (Bv (res:=Hj (out++[⟨Dd t,t,a⟩])) rfl rfl rfl rfl rfl rfl rfl rfl rfl rfl rfl rfl rfl rfl (Dz out) (Ad1 out) rfl rfl rfl ?_ ?_ rfl) ?_
  ·rw[Dz];simp;omega
  ·simp[Hj,Uz]
  have hst:((⟨⟨t⟩⟩:ByteArray).size:Int)=n:=by rw[F6,htl]
  refine IH (a+n,out++[⟨Dd t,t,a⟩]) ⟨by simp only;omega,by simp;omega,g,by simp only;omega,by rw[hstep,h4',h5'];rfl⟩ (by simp only;omega) _ _ ⟨?_,rfl,rfl,rfl,trivial⟩ ?_ rfl rfl
  ·exact Ct (by rw[hst];exact hwr)
  ·simp[St.drop,Dz]
 ·have hae:a=s.length:=by have:=Bd h;rw[F6]at this;omega
  refine Au func300 ?_;obtain⟨g,rfl⟩:∃g,f=g+1:=⟨f-1,by omega⟩
  rw[hTa,hae,Hw];simp only[Ce,Pt,Hw];rfl
end Go.V
