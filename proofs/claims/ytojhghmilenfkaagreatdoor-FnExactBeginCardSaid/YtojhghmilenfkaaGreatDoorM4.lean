/- A part of the proof of the claim that the last text states: no condition of its own. -/
import Derived.Test.YtojhghmilenfkaaGreatDoorM3
import Derived.Ground.NamesProg
import Derived.Lib.AtoiTie
import Derived.Lib.Bytealg
import Derived.Lib.ConvBytes
import Derived.Shelf.Strconv.AtoiAll
import Derived.Shelf.Strconv.Itoa3
import Derived.Test.YtojhghmilenfkaaGreatDoorChecked
import Derived.WideLaws
set_option linter.unusedVariables false
set_option linter.unusedSimpArgs false
namespace Go.V
open Go Go.Proofs
def Nk (n:Nd):Bool:=decide (Af n≤500)&&decide (B0 n≤24)&&Bg n
theorem Aqz (n:Nd)(hn:wN n≤1000000000):Pure X 216 [nd n] (vb (Nk n)):=by
 have hc:=Mo n
 have hz:∀ a b:Nat,((a:Int)≤(b:Int))↔a≤b:=fun a b=>by omega
 refine Pure.run Tryz.func216 ?_
 refine AK.pc (Afj n (by omega)) ?_
 refine AK.gd (fun h1=>?_) (fun h1=>?_)
 ·have h1':Af n≤500:=by have:=of_decide_eq_true h1;omega
  refine AK.pc (Afk n (by omega)) ?_
  refine AK.gd (fun h2=>?_) (fun h2=>?_)
  ·have h2':B0 n≤24:=by have:=of_decide_eq_true h2;omega
   refine AK.pc (Akc n hn) ?_
   refine AK.rt Tryz.func216 ?_
   simp [Nk,h1',h2',Bv]
  ·have h2':¬ B0 n≤24:=by have:=of_decide_eq_false h2;omega
   refine AK.rt Tryz.func216 ?_
   simp [Nk,h2',Bv]
 ·have h1':¬ Af n≤500:=by have:=of_decide_eq_false h1;omega
  refine AK.gn ?_
  refine AK.rt Tryz.func216 ?_
  simp [Nk,h1',Bv]
inductive FE:Nd→Prop
 | num (m:Int) (h0:0≤m) (h1:m≤1000000):FE (.mk 1 [] m [])
 | var (s:List UInt8) (h:nameS s=true):FE (.mk 2 s 0 [])
 | cell (s:List UInt8) (a:Nd) (h:nameS s=true) (ha:FE a):FE (.mk 3 s 0 [a])
 | len (s:List UInt8) (h:nameS s=true):FE (.mk 4 s 0 [])
 | neg (a:Nd) (ha:FE a):FE (.mk 5 [] 0 [a])
 | two (k:Int) (a b:Nd) (hk:k=6∨k=7∨k=8) (ha:FE a) (hb:FE b):FE (.mk k [] 0 [a,b])
inductive FC:Nd→Prop
 | mk (k:Int) (a b:Nd) (h0:11≤k) (h1:k≤16) (ha:FE a) (hb:FE b):FC (.mk k [] 0 [a,b])
inductive FS:Nd→Prop
 | set (s:List UInt8) (a:Nd) (h:nameS s=true) (ha:FE a):FS (.mk 21 s 0 [a])
 | put (s:List UInt8) (a b:Nd) (h:nameS s=true) (ha:FE a) (hb:FE b):FS (.mk 22 s 0 [a,b])
 | read (s:List UInt8) (h:nameS s=true):FS (.mk 23 s 0 [])
 | ifs (c:Nd) (l l':List Nd) (hc:FC c) (hl:∀ x,x∈l→FS x) (hl':∀ x,x∈l'→FS x):FS (.mk 24 [] 0 [c,.mk 30 [] 0 l,.mk 30 [] 0 l'])
 | whil (c:Nd) (l:List Nd) (hc:FC c) (hl:∀ x,x∈l→FS x):FS (.mk 25 [] 0 [c,.mk 30 [] 0 l])
 | for_ (s:List UInt8) (a b:Nd) (l:List Nd) (h:nameS s=true) (ha:FE a) (hb:FE b) (hl:∀ x,x∈l→FS x):FS (.mk 26 s 0 [a,b,.mk 30 [] 0 l])
 | check (c:Nd) (hc:FC c):FS (.mk 27 [] 0 [c])
 | skip:FS (.mk 28 [] 0 [])
 | stop:FS (.mk 29 [] 0 [])
inductive FV:Nd→Prop
 | var (s:List UInt8) (h:nameS s=true):FV (.mk 31 s 0 [])
 | arr (s:List UInt8) (m:Int) (h:nameS s=true) (h0:-1≤m) (h1:m≤1000000):FV (.mk 32 s m [])
inductive FP:Nd→Prop
 | mk (ds l:List Nd) (hd:∀ x,x∈ds→FV x) (hl:∀ x,x∈l→FS x):FP (.mk 40 [] 0 (ds++[.mk 30 [] 0 l]))
theorem Ju {s:List UInt8}(h:nameS s=true):s≠[]:=by rintro rfl;simp [nameS] at h
theorem Abg {l:List Nd}(h:(l.length:Int)=0):l=[]:=by
 cases l with
 | nil=>rfl
 | cons x l=>simp at h;omega
theorem Am6 {l:List Nd}(h:(l.length:Int)=1):∃ a,l=[a]:=by
 match l with
 | []=>simp at h
 | [a]=>exact ⟨a,rfl⟩
 | _::_::_=>simp at h;omega
theorem Ag2 {l:List Nd}(h:(l.length:Int)=2):∃ a b,l=[a,b]:=by
 match l with
 | []=>simp at h
 | [_]=>simp at h
 | [a,b]=>exact ⟨a,b,rfl⟩
 | _::_::_::_=>simp at h;omega
theorem Asr {l:List Nd}(h:(l.length:Int)=3):∃ a b c,l=[a,b,c]:=by
 match l with
 | []=>simp at h
 | [_]=>simp at h
 | [_,_]=>simp at h
 | [a,b,c]=>exact ⟨a,b,c,rfl⟩
 | _::_::_::_::_=>simp at h;omega
structure HeadF (k:Int)(s:List UInt8)(m:Int)(ks:List Nd)(len:Int)(nm:Bool):Prop where
 hl:0≤len→(ks.length:Int)=len
 hs:nm=!(s==[])
 hn:nm=true→nameS s=true
 hk:k=40→ks≠[]
 hm:C8 k m=true
theorem Xu {k:Int}{s:List UInt8}{m:Int}{ks:List Nd}(h:Ex k s m ks.length=true):(Aw k).2.2=true∧HeadF k s m ks (Aw k).1 (Aw k).2.1:=by
 simp only [Ex,Bool.and_eq_true,Bool.or_eq_true,decide_eq_true_eq,beq_iff_eq,Bool.not_eq_true'] at h
 obtain ⟨⟨⟨⟨⟨h1,h2⟩,h3⟩,h4⟩,h5⟩,h6⟩:=h
 refine ⟨h1,⟨fun h0=>?_,h3,fun hn=>?_,fun h40 hnil=>?_,h6⟩⟩
 ·rcases h2 with h2 | h2
  ·omega
  ·exact h2
 ·rcases h4 with h4 | h4
  ·rw [hn] at h4;cases h4
  ·exact h4
 ·subst h40;subst hnil;simp at h5
theorem HeadF.no {k:Int}{s:List UInt8}{m:Int}{ks:List Nd}{len:Int}(h:HeadF k s m ks len false):s=[]:=by
 have:=h.hs;simpa using this
theorem HeadF.num0 {k:Int}{s:List UInt8}{m:Int}{ks:List Nd}{len:Int}{b:Bool}(h:HeadF k s m ks len b)(h1:k≠1)(h2:k≠32):m=0:=by
 have:=h.hm;simpa [C8,h1,h2] using this
theorem Hv {p:Nd}:∀ {l:List Nd}{i:Nat},Cr p i l=true→∀ (j:Nat)(x:Nd),l[j]?=some x→Hl p ((i+j:Nat):Int) x.kind=true∧Bg x=true
 | [],i,_,j,x,h=>by simp at h
 | y::l,i,hf,j,x,h=>by
   simp only [Cr,Bool.and_eq_true] at hf
   cases j with
   | zero=>simp at h;subst h;exact ⟨hf.1,hf.2.1⟩
   | succ j =>
     have:=Hv hf.2.2 j x (by simpa using h)
     rw [show i+(j+1)=i+1+j by omega];exact this
theorem Co {n lo hi:Int}:Bu n lo hi=true↔lo≤n∧n≤hi:=by simp [Bu]
@[simp] theorem I2 (k:Int)(s:List UInt8)(m:Int)(ks:List Nd):(Nd.mk k s m ks).kind=k:=rfl
@[simp] theorem Pg (k:Int)(s:List UInt8)(m:Int)(ks:List Nd):(Nd.mk k s m ks).name=s:=rfl
@[simp] theorem Sz (k:Int)(s:List UInt8)(m:Int)(ks:List Nd):(Nd.mk k s m ks).num=m:=rfl
@[simp] theorem Dq (k:Int)(s:List UInt8)(m:Int)(ks:List Nd):(Nd.mk k s m ks).kids=ks:=rfl
theorem Ajs {n:Nd}{i k:Int}(h:n.kind<24):Hl n i k=Hb k:=by
 unfold Hl
 rw [if_neg (show ¬ (n.kind=24∨n.kind=25∨n.kind=27) by omega),if_neg (show ¬ (n.kind=26∧i=2) by omega),if_neg (show ¬ n.kind=30 by omega),if_neg (show ¬ n.kind=40 by omega)]
theorem Zw {n:Nd}{i k:Int}(h:n.kind=40):Hl n i k=if i=n.kids.length-1 then k==30 else k==31||k==32:=by
 unfold Hl
 rw [if_neg (show ¬ (n.kind=24∨n.kind=25∨n.kind=27) by omega),if_neg (show ¬ (n.kind=26∧i=2) by omega),if_neg (show ¬ n.kind=30 by omega),if_pos h]
theorem Xd (n:Nd)(hf:Bg n=true)(hk:Hb n.kind=true):FE n:=by
 induction n using Nd.ind with
 | h n ih =>
 obtain ⟨k,s,m,ks⟩:=n
 simp only [I2,Hb,Co] at hk
 rw [Hk,Bool.and_eq_true] at hf
 simp only [I2,Pg,Sz,Dq] at hf ih
 obtain ⟨h1,h2⟩:=hf
 have hall:=Hv h2
 have kidE:∀ (j:Nat) (x:Nd),ks[j]?=some x→FE x:=fun j x hx=>by
  obtain ⟨h3,h4⟩:=hall j x hx
  refine ih x (List.mem_of_getElem? hx) h4 ?_
  rwa [Ajs (by simp;omega)] at h3
 obtain ⟨_,hH⟩:=Xu h1
 have:k=1∨k=2∨k=3∨k=4∨k=5∨k=6∨k=7∨k=8:=by omega
 rcases this with rfl | rfl | rfl | rfl | rfl | rfl | rfl | rfl
 ·rw [show Aw 1=(0,false,true) by simp [Aw]] at hH
  obtain rfl:=Abg (hH.hl (by simp))
  obtain rfl:=hH.no
  have:=hH.hm
  simp only [C8,if_true,Co] at this
  exact .num m this.1 this.2
 ·rw [show Aw 2=(0,true,true) by simp [Aw]] at hH
  obtain rfl:=Abg (hH.hl (by simp))
  obtain rfl:=hH.num0 (by simp) (by simp)
  exact .var s (hH.hn rfl)
 ·rw [show Aw 3=(1,true,true) by simp [Aw]] at hH
  obtain ⟨a,rfl⟩:=Am6 (hH.hl (by simp))
  obtain rfl:=hH.num0 (by simp) (by simp)
  exact .cell s a (hH.hn rfl) (kidE 0 a rfl)
 ·rw [show Aw 4=(0,true,true) by simp [Aw]] at hH
  obtain rfl:=Abg (hH.hl (by simp))
  obtain rfl:=hH.num0 (by simp) (by simp)
  exact .len s (hH.hn rfl)
 ·rw [show Aw 5=(1,false,true) by simp [Aw]] at hH
  obtain ⟨a,rfl⟩:=Am6 (hH.hl (by simp))
  obtain rfl:=hH.num0 (by simp) (by simp)
  obtain rfl:=hH.no
  exact .neg a (kidE 0 a rfl)
 ·rw [show Aw 6=(2,false,true) by simp [Aw]] at hH
  obtain ⟨a,b,rfl⟩:=Ag2 (hH.hl (by simp))
  obtain rfl:=hH.num0 (by simp) (by simp)
  obtain rfl:=hH.no
  exact .two 6 a b (by simp) (kidE 0 a rfl) (kidE 1 b rfl)
 ·rw [show Aw 7=(2,false,true) by simp [Aw]] at hH
  obtain ⟨a,b,rfl⟩:=Ag2 (hH.hl (by simp))
  obtain rfl:=hH.num0 (by simp) (by simp)
  obtain rfl:=hH.no
  exact .two 7 a b (by simp) (kidE 0 a rfl) (kidE 1 b rfl)
 ·rw [show Aw 8=(2,false,true) by simp [Aw]] at hH
  obtain ⟨a,b,rfl⟩:=Ag2 (hH.hl (by simp))
  obtain rfl:=hH.num0 (by simp) (by simp)
  obtain rfl:=hH.no
  exact .two 8 a b (by simp) (kidE 0 a rfl) (kidE 1 b rfl)
theorem Aic (n:Nd)(hf:Bg n=true)(hk:M0 n.kind=true):FC n:=by
 obtain ⟨k,s,m,ks⟩:=n
 simp only [I2,M0,Co] at hk
 rw [Hk,Bool.and_eq_true] at hf
 simp only [I2,Pg,Sz,Dq] at hf
 obtain ⟨h1,h2⟩:=hf
 have hall:=Hv h2
 have kidE:∀ (j:Nat) (x:Nd),ks[j]?=some x→FE x:=fun j x hx=>by
  obtain ⟨h3,h4⟩:=hall j x hx
  refine Xd x h4 ?_
  rwa [Ajs (by simp;omega)] at h3
 obtain ⟨_,hH⟩:=Xu h1
 rw [show Aw k=(2,false,true) by simp only [Aw];rw [if_neg (by omega),if_neg (by omega),if_neg (by omega),if_neg (by omega),if_pos (by omega)]] at hH
 obtain ⟨a,b,rfl⟩:=Ag2 (hH.hl (by simp))
 obtain rfl:=hH.num0 (by omega) (by omega)
 obtain rfl:=hH.no
 exact .mk k a b hk.1 hk.2 (kidE 0 a rfl) (kidE 1 b rfl)
theorem Ar8 (n:Nd):Bg n=true→(Q8 n.kind=true→FS n)∧(n.kind=30→∃ l,n=.mk 30 [] 0 l∧∀ x,x∈l→FS x):=by
 induction n using Nd.ind with
 | h n ih =>
 intro hf
 obtain ⟨k,s,m,ks⟩:=n
 rw [Hk,Bool.and_eq_true] at hf
 simp only [I2,Pg,Sz,Dq] at hf ih ⊢
 obtain ⟨h1,h2⟩:=hf
 have hall:=Hv h2
 obtain ⟨_,hH⟩:=Xu h1
 have kid:∀ (j:Nat) (x:Nd),ks[j]?=some x→Hl (.mk k s m ks) j x.kind=true:=fun j x hx=>by have:=(hall j x hx).1;rwa [Nat.zero_add] at this
 have fm:∀ (j:Nat) (x:Nd),ks[j]?=some x→Bg x=true:=fun j x hx=>(hall j x hx).2
 have ihs:∀ (j:Nat) (x:Nd),ks[j]?=some x→x.kind=30→∃ l,x=.mk 30 [] 0 l∧∀ x,x∈l→FS x:=fun j x hx=>(ih x (List.mem_of_getElem? hx) (fm j x hx)).2
 refine ⟨fun hk=>?_,fun hk=>?_⟩
 ·simp only [Q8,Co] at hk
  have:k=21∨k=22∨k=23∨k=24∨k=25∨k=26∨k=27∨k=28∨k=29:=by omega
  rcases this with rfl | rfl | rfl | rfl | rfl | rfl | rfl | rfl | rfl
  ·rw [show Aw 21=(1,true,true) by simp [Aw]] at hH
   obtain ⟨a,rfl⟩:=Am6 (hH.hl (by simp))
   obtain rfl:=hH.num0 (by simp) (by simp)
   have k0:=kid 0 a rfl
   simp [Hl] at k0
   exact .set s a (hH.hn rfl) (Xd a (fm 0 a rfl) k0)
  ·rw [show Aw 22=(2,true,true) by simp [Aw]] at hH
   obtain ⟨a,b,rfl⟩:=Ag2 (hH.hl (by simp))
   obtain rfl:=hH.num0 (by simp) (by simp)
   have k0:=kid 0 a rfl
   have k1:=kid 1 b rfl
   simp [Hl] at k0 k1
   exact .put s a b (hH.hn rfl) (Xd a (fm 0 a rfl) k0) (Xd b (fm 1 b rfl) k1)
  ·rw [show Aw 23=(0,true,true) by simp [Aw]] at hH
   obtain rfl:=Abg (hH.hl (by simp))
   obtain rfl:=hH.num0 (by simp) (by simp)
   exact .read s (hH.hn rfl)
  ·rw [show Aw 24=(3,false,true) by simp [Aw]] at hH
   obtain ⟨c,a,b,rfl⟩:=Asr (hH.hl (by simp))
   obtain rfl:=hH.num0 (by simp) (by simp)
   obtain rfl:=hH.no
   have k0:=kid 0 c rfl
   have k1:=kid 1 a rfl
   have k2:=kid 2 b rfl
   simp [Hl] at k0 k1 k2
   obtain ⟨l,rfl,hl⟩:=ihs 1 a rfl k1
   obtain ⟨l',rfl,hl'⟩:=ihs 2 b rfl k2
   exact .ifs c l l' (Aic c (fm 0 c rfl) k0) hl hl'
  ·rw [show Aw 25=(2,false,true) by simp [Aw]] at hH
   obtain ⟨c,a,rfl⟩:=Ag2 (hH.hl (by simp))
   obtain rfl:=hH.num0 (by simp) (by simp)
   obtain rfl:=hH.no
   have k0:=kid 0 c rfl
   have k1:=kid 1 a rfl
   simp [Hl] at k0 k1
   obtain ⟨l,rfl,hl⟩:=ihs 1 a rfl k1
   exact .whil c l (Aic c (fm 0 c rfl) k0) hl
  ·rw [show Aw 26=(3,true,true) by simp [Aw]] at hH
   obtain ⟨a,b,d,rfl⟩:=Asr (hH.hl (by simp))
   obtain rfl:=hH.num0 (by simp) (by simp)
   have k0:=kid 0 a rfl
   have k1:=kid 1 b rfl
   have k2:=kid 2 d rfl
   simp [Hl] at k0 k1 k2
   obtain ⟨l,rfl,hl⟩:=ihs 2 d rfl k2
   exact .for_ s a b l (hH.hn rfl) (Xd a (fm 0 a rfl) k0) (Xd b (fm 1 b rfl) k1) hl
  ·rw [show Aw 27=(1,false,true) by simp [Aw]] at hH
   obtain ⟨c,rfl⟩:=Am6 (hH.hl (by simp))
   obtain rfl:=hH.num0 (by simp) (by simp)
   obtain rfl:=hH.no
   have k0:=kid 0 c rfl
   simp [Hl] at k0
   exact .check c (Aic c (fm 0 c rfl) k0)
  ·rw [show Aw 28=(0,false,true) by simp [Aw]] at hH
   obtain rfl:=Abg (hH.hl (by simp))
   obtain rfl:=hH.num0 (by simp) (by simp)
   obtain rfl:=hH.no
   exact .skip
  ·rw [show Aw 29=(0,false,true) by simp [Aw]] at hH
   obtain rfl:=Abg (hH.hl (by simp))
   obtain rfl:=hH.num0 (by simp) (by simp)
   obtain rfl:=hH.no
   exact .stop
 ·subst hk
  rw [show Aw 30=(-1,false,true) by simp [Aw]] at hH
  obtain rfl:=hH.num0 (by simp) (by simp)
  obtain rfl:=hH.no
  refine ⟨ks,rfl,fun x hx=>?_⟩
  obtain ⟨j,hj⟩:=A3 hx
  have k0:=kid j x hj
  simp [Hl] at k0
  exact (ih x hx (fm j x hj)).1 k0
theorem Ar9 (n:Nd)(hf:Bg n=true)(hk:n.kind=31∨n.kind=32):FV n:=by
 obtain ⟨k,s,m,ks⟩:=n
 rw [Hk,Bool.and_eq_true] at hf
 simp only [I2,Pg,Sz,Dq] at hf hk
 obtain ⟨h1,h2⟩:=hf
 obtain ⟨_,hH⟩:=Xu h1
 rcases hk with rfl | rfl
 ·rw [show Aw 31=(0,true,true) by simp [Aw]] at hH
  obtain rfl:=Abg (hH.hl (by simp))
  obtain rfl:=hH.num0 (by simp) (by simp)
  exact .var s (hH.hn rfl)
 ·rw [show Aw 32=(0,true,true) by simp [Aw]] at hH
  obtain rfl:=Abg (hH.hl (by simp))
  have:=hH.hm
  simp [C8,Co] at this
  exact .arr s m (hH.hn rfl) this.1 this.2
theorem Ao3 (n:Nd)(hf:Bg n=true)(hk:n.kind=40):FP n:=by
 obtain ⟨k,s,m,ks⟩:=n
 rw [Hk,Bool.and_eq_true] at hf
 simp only [I2,Pg,Sz,Dq] at hf hk
 subst hk
 obtain ⟨h1,h2⟩:=hf
 have hall:=Hv h2
 obtain ⟨_,hH⟩:=Xu h1
 rw [show Aw 40=(-1,false,true) by simp [Aw]] at hH
 obtain rfl:=hH.num0 (by simp) (by simp)
 obtain rfl:=hH.no
 have hne:=hH.hk rfl
 have kid:∀ (j:Nat) (x:Nd),ks[j]?=some x→Hl (.mk 40 [] 0 ks) j x.kind=true:=fun j x hx=>by have:=(hall j x hx).1;rwa [Nat.zero_add] at this
 have fm:∀ (j:Nat) (x:Nd),ks[j]?=some x→Bg x=true:=fun j x hx=>(hall j x hx).2
 have hpos:0<ks.length:=List.length_pos_iff.2 hne
 obtain ⟨b,hb⟩:=Ab ks (i:=ks.length-1) (by omega)
 have hsplit:ks=ks.take (ks.length-1)++[b]:=by
  conv=>lhs;rw [← List.take_append_drop (ks.length-1) ks]
  congr 1
  rw [List.drop_eq_getElem_cons (by omega),List.drop_eq_nil_of_le (by omega)]
  have:=List.getElem?_eq_getElem (l:=ks) (i:=ks.length-1) (by omega)
  rw [hb] at this
  rw [← Option.some.inj this]
 have kb:=kid _ b hb
 rw [Zw rfl,if_pos (by rw [Dq];omega)] at kb
 obtain ⟨l,rfl,hl⟩:=(Ar8 b (fm _ b hb)).2 (by simpa using kb)
 rw [hsplit]
 refine .mk _ l (fun x hx=>?_) hl
 obtain ⟨j,hj⟩:=A3 hx
 have hjl:=Aa hj
 rw [List.length_take] at hjl
 have hj':ks[j]?=some x:=by rw [List.getElem?_take,if_pos (by omega)] at hj;exact hj
 have kx:=kid j x hj'
 rw [Zw rfl,if_neg (by rw [Dq];omega)] at kx
 exact Ar9 x (fm j x hj') (by simpa using kx)
def Ic (k:Int):Int:=if k=6∨k=7 then 1 else if k=8 then 2 else 3
def Ih (l:Int)(k:Int)(t:List UInt8):List UInt8:=if Ic k<l then [40]++t++[41] else t
def Oq (k:Int):List UInt8:=if k=11 then [60] else if k=12 then [60,61] else if k=13 then [62] else if k=14 then [62,61] else if k=15 then [61,61] else [33,61]
def A2:Nd→List UInt8
 | .mk k s m []=>if k=1 then Ig m.toNat else if k=4 then [108,101,110,40]++s++[41] else s
 | .mk k s _ [a]=>if k=3 then s++[91]++A2 a++[93] else [45]++Ih 3 a.kind (A2 a)
 | .mk k _ _ (a::b::_) =>
   if k=6 then Ih 1 a.kind (A2 a)++[32,43,32]++Ih 2 b.kind (A2 b)
   else if k=7 then Ih 1 a.kind (A2 a)++[32,45,32]++Ih 2 b.kind (A2 b)
   else if k=8 then Ih 2 a.kind (A2 a)++[32,42,32]++Ih 3 b.kind (A2 b)
   else A2 a++[32]++Oq k++[32]++A2 b
theorem G7 (l k:Int)(t:List UInt8):(Ih l k t).length≤t.length+2:=by
 unfold Ih;split<;>simp
theorem Wn (k:Int):(Oq k).length≤2:=by
 unfold Oq;repeat' split
 all_goals simp
theorem Ap7 (d n:Nat)(h:n<10 ^ (d+1)):(Ig n).length≤d+1:=by
 induction d generalizing n with
 | zero=>unfold Ig;rw [if_pos (by simpa using h)];simp
 | succ d ih =>
   unfold Ig
   split
   ·simp
   ·have:=ih (n / 10) (by rw [Nat.pow_succ] at h;omega)
    simp;omega
theorem O6 (n:Nat)(h:n≤1000000):(Ig n).length≤7:=Ap7 6 n (by omega)
theorem Dd (n:Nd)(h:FE n):(A2 n).length≤12*wN n:=by
 induction h with
 | num m h0 h1 =>
   have:=O6 m.toNat (by omega)
   simp only [A2,wN,if_true]
   omega
 | var s h=>simp [A2,wN];omega
 | cell s a h ha ih=>simp [A2,wN,wL];omega
 | len s h=>simp [A2,wN];omega
 | neg a ha ih=>have:=G7 3 a.kind (A2 a);simp [A2,wN,wL];omega
 | two k a b hk ha hb iha ihb =>
   have h1:=G7 1 a.kind (A2 a)
   have h2:=G7 2 a.kind (A2 a)
   have h3:=G7 2 b.kind (A2 b)
   have h4:=G7 3 b.kind (A2 b)
   rcases hk with rfl | rfl | rfl
   ·simp [A2,wN,wL];omega
   ·simp [A2,wN,wL];omega
   ·simp [A2,wN,wL];omega
theorem J3 (n:Nd)(h:FC n):(A2 n).length≤12*wN n:=by
 cases h with
 | mk k a b h0 h1 ha hb =>
   have:=Dd a ha
   have:=Dd b hb
   have:=Wn k
   simp only [A2]
   rw [if_neg (by omega),if_neg (by omega),if_neg (by omega)]
   simp [wN,wL];omega
theorem Pr (a:Nd)(l:List Nd):(Ai (a::l))[(0:Int).toNat]?=some (Ae a):=by cases a;rfl
theorem W8 (a b:Nd)(l:List Nd):(Ai (a::b::l))[(1:Int).toNat]?=some (Ae b):=by cases b;rfl
theorem Aoi (a b c:Nd)(l:List Nd):(Ai (a::b::c::l))[(2:Int).toNat]?=some (Ae c):=by cases c;rfl
theorem Anv (k:Int):Pure X 310 [vi k] (vi (Ic k)):=by
 refine Pure.run Tryz.func310 ?_
 repeat' (refine AK.if_ (fun _=>?_) (fun _=>?_))
 all_goals refine AK.rt Tryz.func310 ?_
 all_goals (simp_all [Ic,Bv])
theorem M8 (n:Nd)(l:Int)(t:List UInt8)(ht:t.length≤100000000000)(h:Pure X 261 [nd n] (str t)):Pure X 281 [nd n,vi l] (str (Ih l n.kind t)):=by
 refine Pure.run Tryz.func281 ?_
 refine AK.pc (Anv n.kind) ?_
 refine AK.if_ (fun h1=>?_) (fun h1=>?_)
 ·have h1':=of_decide_eq_true h1
  refine AK.pc h ?_
  refine AK.ct ?_ ?_
  ·simp;omega
  refine AK.ct ?_ ?_
  ·simp;omega
  refine AK.rt Tryz.func281 ?_
  simp [Ih,h1',Bv]
 ·have h1':=of_decide_eq_false h1
  refine AK.pc h ?_
  refine AK.rt Tryz.func281 ?_
  simp [Ih,h1',Bv]
theorem M9 (n:Nd)(h:FE n)(hn:wN n≤1000000000):Pure X 261 [nd n] (str (A2 n)):=by
 induction h with
 | num m h0 h1 =>
   obtain ⟨q,rfl⟩:∃ q:Nat,m=q:=⟨m.toNat,by omega⟩
   refine Pure.run Tryz.func261 ?_
   refine AK.yes ?_
   refine AK.pc (Abs q (by omega)) ?_
   refine AK.rt Tryz.func261 ?_
   simp [A2,Bv]
 | var s h =>
   refine Pure.run Tryz.func261 ?_
   refine AK.no ?_
   refine AK.yes ?_
   refine AK.rt Tryz.func261 ?_
   simp [A2,Bv]
 | cell s a h ha ih =>
   have hl:=Dd a ha
   simp [wN,wL] at hn
   refine Pure.run Tryz.func261 ?_
   refine AK.no ?_
   refine AK.no ?_
   refine AK.yes ?_
   refine AK.db 0 ?_
   refine Drv.cg ?_ ?_
   ·simp;omega
   refine Drv.ig 0 (by omega) (Pr a _) ?_
   refine Bl (ih (by omega)) ?_
   refine Drv.cg ?_ ?_
   ·simp;omega
   refine Drv.cg ?_ ?_
   ·simp;omega
   refine Drv.z ?_
   refine AK.rt Tryz.func261 ?_
   simp [A2,Bv]
 | len s h =>
   simp [wN,wL] at hn
   refine Pure.run Tryz.func261 ?_
   refine AK.no ?_
   refine AK.no ?_
   refine AK.no ?_
   refine AK.yes ?_
   refine AK.ct ?_ ?_
   ·simp;omega
   refine AK.ct ?_ ?_
   ·simp;omega
   refine AK.rt Tryz.func261 ?_
   simp [A2,Bv]
 | neg a ha ih =>
   have hl:=Dd a ha
   have hp:=G7 3 a.kind (A2 a)
   simp [wN,wL] at hn
   refine Pure.run Tryz.func261 ?_
   refine AK.no ?_
   refine AK.no ?_
   refine AK.no ?_
   refine AK.no ?_
   refine AK.yes ?_
   refine AK.ix 0 (by omega) (Pr a _) ?_
   refine AK.pc (M8 a 3 (A2 a) (by omega) (ih (by omega))) ?_
   refine AK.ct ?_ ?_
   ·simp;omega
   refine AK.rt Tryz.func261 ?_
   simp [A2,Bv]
 | two k a b hk ha hb iha ihb =>
   have hla:=Dd a ha
   have hlb:=Dd b hb
   have h1:=G7 1 a.kind (A2 a)
   have h2:=G7 2 a.kind (A2 a)
   have h3:=G7 2 b.kind (A2 b)
   have h4:=G7 3 b.kind (A2 b)
   simp [wN,wL] at hn
   refine Pure.run Tryz.func261 ?_
   rcases hk with rfl | rfl | rfl
   ·refine AK.no ?_
    refine AK.no ?_
    refine AK.no ?_
    refine AK.no ?_
    refine AK.no ?_
    refine AK.yes ?_
    refine AK.db 0 ?_
    refine Drv.ig 0 (by omega) (Pr a _) ?_
    refine Bl (M8 a 1 (A2 a) (by omega) (iha (by omega))) ?_
    refine Drv.cg ?_ ?_
    ·simp;omega
    refine Drv.ig 1 (by omega) (W8 a b _) ?_
    refine Bl (M8 b 2 (A2 b) (by omega) (ihb (by omega))) ?_
    refine Drv.cg ?_ ?_
    ·simp;omega
    refine Drv.z ?_
    refine AK.rt Tryz.func261 ?_
    simp [A2,Bv]
   ·refine AK.no ?_
    refine AK.no ?_
    refine AK.no ?_
    refine AK.no ?_
    refine AK.no ?_
    refine AK.no ?_
    refine AK.yes ?_
    refine AK.db 0 ?_
    refine Drv.ig 0 (by omega) (Pr a _) ?_
    refine Bl (M8 a 1 (A2 a) (by omega) (iha (by omega))) ?_
    refine Drv.cg ?_ ?_
    ·simp;omega
    refine Drv.ig 1 (by omega) (W8 a b _) ?_
    refine Bl (M8 b 2 (A2 b) (by omega) (ihb (by omega))) ?_
    refine Drv.cg ?_ ?_
    ·simp;omega
    refine Drv.z ?_
    refine AK.rt Tryz.func261 ?_
    simp [A2,Bv]
   ·refine AK.no ?_
    refine AK.no ?_
    refine AK.no ?_
    refine AK.no ?_
    refine AK.no ?_
    refine AK.no ?_
    refine AK.no ?_
    refine AK.yes ?_
    refine AK.db 0 ?_
    refine Drv.ig 0 (by omega) (Pr a _) ?_
    refine Bl (M8 a 2 (A2 a) (by omega) (iha (by omega))) ?_
    refine Drv.cg ?_ ?_
    ·simp;omega
    refine Drv.ig 1 (by omega) (W8 a b _) ?_
    refine Bl (M8 b 3 (A2 b) (by omega) (ihb (by omega))) ?_
    refine Drv.cg ?_ ?_
    ·simp;omega
    refine Drv.z ?_
    refine AK.rt Tryz.func261 ?_
    simp [A2,Bv]
theorem Z4 (n:Nd)(h:FC n)(hn:wN n≤1000000000):Pure X 261 [nd n] (str (A2 n)):=by
 cases h with
 | mk k a b h0 h1 ha hb =>
   have hla:=Dd a ha
   have hlb:=Dd b hb
   have hr:=Wn k
   simp [wN,wL] at hn
   refine Pure.run Tryz.func261 ?_
   have ne:∀ j:Int,j<11→(k==j)=false:=fun j hj=>by simp;omega
   refine AK.no ?_ (ht:=ne 1 (by omega))
   refine AK.no ?_ (ht:=ne 2 (by omega))
   refine AK.no ?_ (ht:=ne 3 (by omega))
   refine AK.no ?_ (ht:=ne 4 (by omega))
   refine AK.no ?_ (ht:=ne 5 (by omega))
   refine AK.no ?_ (ht:=ne 6 (by omega))
   refine AK.no ?_ (ht:=ne 7 (by omega))
   refine AK.no ?_ (ht:=ne 8 (by omega))
   have hw:IntKind.i64.wrap (k-11)=k-11:=Ac (by omega) (by omega)
   have hrel:(B4 [[60],[60,61],[62],[62,61],[61,61],[33,61]])[(IntKind.i64.wrap (k-11)).toNat]?=some [str (Oq k)]:=by
    rw [hw]
    have:k=11∨k=12∨k=13∨k=14∨k=15∨k=16:=by omega
    rcases this with rfl | rfl | rfl | rfl | rfl | rfl<;>rfl
   have hT:A2 (.mk k [] 0 [a,b])=A2 a++[32]++Oq k++[32]++A2 b:=by
    simp only [A2]
    rw [if_neg (by omega),if_neg (by omega),if_neg (by omega)]
   rw [hT]
   refine AK.db 0 ?_
   refine Drv.ig 0 (by omega) (Pr a _) ?_
   refine Bl (M9 a ha (by omega)) ?_
   refine Drv.cg ?_ ?_
   ·simp;omega
   refine Drv.ig (IntKind.i64.wrap (k-11)) (by omega) hrel ?_
   refine Drv.cg ?_ ?_
   ·simp;omega
   refine Drv.cg ?_ ?_
   ·simp;omega
   refine Drv.ig 1 (by omega) (W8 a b _) ?_
   refine Bl (M9 b hb (by omega)) ?_
   refine Drv.cg ?_ ?_
   ·simp;omega
   refine Drv.z ?_
   refine AK.rt Tryz.func261 ?_
   simp [Bv]
mutual
def Bh:Nd→List UInt8→List UInt8
 | .mk k s m [],p =>
   if k=31 then p++[118,97,114,32]++s++[59,10]
   else if k=32 then p++[97,114,114,97,121,32]++s++[91]++(if 0≤m then Ig m.toNat else [63])++[93,59,10]
   else if k=23 then p++[114,101,97,100,32]++s++[59,10]
   else if k=28 then p++[115,107,105,112,59,10]
   else p++[115,116,111,112,59,10]
 | .mk k s _ [a],p =>
   if k=21 then p++s++[32,61,32]++A2 a++[59,10]
   else p++[99,104,101,99,107,32]++A2 a++[59,10]
 | .mk k s _ [a,.mk k' s' m' l],p =>
   if k=22 then p++s++[91]++A2 a++[93,32,61,32]++A2 (.mk k' s' m' l)++[59,10]
   else p++[119,104,105,108,101,32]++A2 a++[32,123,10]++E8 l (p++[32,32])++p++[125,10]
 | .mk k s _ (a::.mk k' s' m' l'::.mk _ _ _ l::_),p =>
   if k=26 then p++[102,111,114,32]++s++[32,102,114,111,109,32]++A2 a++[32,116,111,32]++A2 (.mk k' s' m' l')++[32,123,10]++E8 l (p++[32,32])++p++[125,10]
   else p++[105,102,32]++A2 a++[32,123,10]++E8 l' (p++[32,32])++p ++
    (match l with
      | []=>[]
      | _=>[125,32,101,108,115,101,32,123,10]++E8 l (p++[32,32])++p)++[125,10]
def E8:List Nd→List UInt8→List UInt8
 | [],_=>[]
 | x::l,p=>Bh x p++E8 l p
end
theorem Dz {l:List Nd}{x:Nd}(h:x∈l):B0 x≤Dy l:=by
 induction l with
 | nil=>cases h
 | cons y l ih =>
   simp only [Dy]
   rcases List.mem_cons.1 h with rfl | h
   ·omega
   ·have:=ih h;omega
theorem M2 (l:List Nd)(p:List UInt8):E8 l p=(l.map fun x=>Bh x p).flatten:=by
 induction l with
 | nil=>simp [E8]
 | cons x l ih=>simp [E8,ih]
theorem Vo {l:List Nd}{f:Nd→List UInt8}(h:∀ x,x∈l→(f x).length≤4060*wN x):(l.map f).flatten.length≤4060*wL l:=by
 induction l with
 | nil=>simp
 | cons x l ih =>
   have h1:=h x (by simp)
   have h2:=ih fun y hy=>h y (by simp [hy])
   simp only [List.map_cons,List.flatten_cons,List.length_append,wL];omega
theorem Lq {l:List Nd}{p:List UInt8}(h:∀ x,x∈l→(Bh x p).length≤4060*wN x):(E8 l p).length≤4060*wL l:=by
 rw [M2];exact Vo h
theorem Ag4 (x:Nd)(h:FV x)(p:List UInt8)(hp:p.length≤1000):(Bh x p).length≤4060*wN x:=by
 cases h with
 | var s h=>simp [Bh,wN];omega
 | arr s m h h0 h1 =>
   have:=O6 m.toNat (by omega)
   simp [Bh,wN]
   by_cases h0:0≤m
   ·simp [h0];omega
   ·simp [h0];omega
theorem X2 (x:Nd)(h:FS x):∀ p:List UInt8,p.length+2*B0 x≤1000→(Bh x p).length≤4060*wN x:=by
 induction h with
 | set s a h ha=>intro p hp;have:=Dd a ha;simp [Bh,wN,wL];omega
 | put s a b h ha hb =>
   intro p hp
   have h1:=Dd a ha
   have h2:=Dd b hb
   obtain ⟨k',s',m',l'⟩:=b
   simp only [Bh,wN,wL] at h2 ⊢
   simp;omega
 | read s h=>intro p hp;simp [Bh,wN];omega
 | ifs c l l' hc hl hl' ihl ihl' =>
   intro p hp
   have h1:=J3 c hc
   simp only [B0,Dy] at hp
   have hL:=Lq (l:=l) (p:=p++[32,32]) fun x hx=>ihl x hx _ (by have:=Dz hx;simp;omega)
   have hL':=Lq (l:=l') (p:=p++[32,32]) fun x hx=>ihl' x hx _ (by have:=Dz hx;simp;omega)
   simp only [Bh,wN,wL]
   cases l' with
   | nil=>simp;omega
   | cons y l'=>simp at hL' ⊢;omega
 | whil c l hc hl ihl =>
   intro p hp
   have h1:=J3 c hc
   simp only [B0,Dy] at hp
   have hL:=Lq (l:=l) (p:=p++[32,32]) fun x hx=>ihl x hx _ (by have:=Dz hx;simp;omega)
   simp [Bh,wN,wL];omega
 | for_ s a b l h ha hb hl ihl =>
   intro p hp
   have h1:=Dd a ha
   have h2:=Dd b hb
   simp only [B0,Dy] at hp
   have hL:=Lq (l:=l) (p:=p++[32,32]) fun x hx=>ihl x hx _ (by have:=Dz hx;simp;omega)
   obtain ⟨k',s',m',l'⟩:=b
   simp only [Bh,wN,wL] at h2 ⊢
   simp;omega
 | check c hc=>intro p hp;have:=J3 c hc;simp [Bh,wN,wL];omega
 | skip=>intro p hp;simp [Bh,wN];omega
 | stop=>intro p hp;simp [Bh,wN];omega
theorem Afl (k:Int)(hk:k=30∨k=40)(ks:List Nd)(f:Nd→List UInt8)(p:List UInt8)(hp:p.length≤1000)(hw:wL ks≤100000)
 (hf:∀ x,x∈ks→Pure X 217 [nd x,str p] (str (f x))∧(f x).length≤4060*wN x):Pure X 217 [nd (.mk k [] 0 ks),str p] (str (ks.map f).flatten):=by
 generalize hT:(ks.map f).flatten=T
 have ne:∀ j:Int,j≠30→j≠40→(k==j)=false:=fun j h1 h2=>by simp;omega
 have hkl:ks.length≤100000:=by
  have h1:=D4 (.mk k [] 0 ks)
  rw [Py] at h1;simp at h1;omega
 refine Pure.run Tryz.func217 ?_
 refine AK.ct ?_ ?_
 ·simp;omega
 refine AK.no ?_ (ht:=ne 31 (by omega) (by omega))
 refine AK.no ?_ (ht:=ne 32 (by omega) (by omega))
 refine AK.no ?_ (ht:=ne 21 (by omega) (by omega))
 refine AK.no ?_ (ht:=ne 22 (by omega) (by omega))
 refine AK.no ?_ (ht:=ne 23 (by omega) (by omega))
 refine AK.no ?_ (ht:=ne 27 (by omega) (by omega))
 refine AK.no ?_ (ht:=ne 28 (by omega) (by omega))
 refine AK.no ?_ (ht:=ne 29 (by omega) (by omega))
 refine AK.no ?_ (ht:=ne 25 (by omega) (by omega))
 refine AK.no ?_ (ht:=ne 26 (by omega) (by omega))
 refine AK.no ?_ (ht:=ne 24 (by omega) (by omega))
 refine AK.while_ (ι:=Nat) 1 0 (fun i=>i≤ks.length) (fun i=>[(9,vi i),(8,str ((ks.take i).map f).flatten),(2,.ptr 0 0 0),(1,str p)]) (fun _=>⟨[[Ae (.mk k [] 0 ks)]],[]⟩) (fun i=>ks.length-i) ?_ 0 (Nat.zero_le _)
  ⟨rfl,rfl,rfl,rfl,trivial⟩
 intro i hi IH
 refine AK.ei (fun h=>?_) (fun h=>?_)
 ·have hlt:i<ks.length:=by have:=of_decide_eq_true h;rw [Ad] at this;simp at this;omega
  obtain ⟨x,hx⟩:=Ab ks hlt
  obtain ⟨h1,h2⟩:=hf x (List.mem_of_getElem? hx)
  have hwx:=K7 (List.mem_of_getElem? hx)
  have h3:=Vo (l:=ks.take i) (f:=f) fun y hy=>(hf y (List.mem_of_mem_take hy)).2
  have h4:wL (ks.take i)≤wL ks:=by
   have:∀ (l:List Nd) (j:Nat),wL (l.take j)≤wL l:=by
    intro l
    induction l with
    | nil=>intro j;simp [wL]
    | cons y l ih=>intro j;cases j with
      | zero=>simp [wL]
      | succ j=>have:=ih j;simp only [List.take_succ_cons,wL];omega
   exact this ks i
  refine AK.ix i (by omega) (Al hx) ?_
  refine AK.pc h1 ?_
  refine AK.ct ?_ ?_
  ·omega
  refine IH (i+1) hlt (by omega) _ _ ⟨vsx (by omega),?_,rfl,rfl,trivial⟩ rfl rfl rfl
  rw [List.take_add_one,hx];simp
  rfl
 ·have:i=ks.length:=by have:=of_decide_eq_false h;rw [Ad] at this;simp at this;omega
  subst this
  refine AK.rt Tryz.func217 ?_
  rw [List.take_length,hT];rfl
theorem Lr (x:Nd)(l:List Nd)(p:List UInt8)(h:∀ x,x∈l→FS x)(hp:p.length+2*Dy l≤1000):(E8 l p).length≤4060*wL l :=
 Lq fun x hx=>X2 x (h x hx) p (by have:=Dz hx;omega)
theorem Rh (l:List Nd)(p:List UInt8)(hl:∀ x,x∈l→FS x)(hp:p.length+2*Dy l≤1000)(hw:wL l≤100000)
 (ih:∀ x,x∈l→∀ p:List UInt8,p.length+2*B0 x≤1000→wN x≤100000→Pure X 217 [nd x,str p] (str (Bh x p))) :
 Pure X 217 [nd (.mk 30 [] 0 l),str p] (str (E8 l p)):=by
 rw [M2]
 refine Afl 30 (.inl rfl) l _ p (by omega) hw fun x hx=>⟨ih x hx p (by have:=Dz hx;omega) (by have:=K7 hx;omega),X2 x (hl x hx) p (by have:=Dz hx;omega)⟩
theorem Ano (x:Nd)(h:FV x)(p:List UInt8)(hp:p.length≤1000)(hw:wN x≤100000):Pure X 217 [nd x,str p] (str (Bh x p)):=by
 cases h with
 | var s h =>
   simp [wN,wL] at hw
   refine Pure.run Tryz.func217 ?_
   refine AK.ct ?_ ?_
   ·simp;omega
   refine AK.yes ?_
   refine AK.ct ?_ ?_
   ·simp;omega
   refine AK.ct ?_ ?_
   ·simp;omega
   refine AK.ct ?_ ?_
   ·simp;omega
   refine AK.rt Tryz.func217 ?_
   simp [Bh,Bv]
 | arr s m h h0 h1 =>
   simp [wN,wL] at hw
   have hd:=O6 m.toNat (by omega)
   refine Pure.run Tryz.func217 ?_
   refine AK.ct ?_ ?_
   ·simp;omega
   refine AK.no ?_
   refine AK.yes ?_
   refine AK.if_ (fun h2=>?_) (fun h2=>?_)
   ·have h2':0≤m:=of_decide_eq_true h2
    obtain ⟨q,rfl⟩:∃ q:Nat,m=q:=⟨m.toNat,by omega⟩
    refine AK.pc (Abs q (by omega)) ?_
    simp only [Int.toNat_natCast] at hd
    refine AK.ct ?_ ?_
    ·simp;omega
    refine AK.ct ?_ ?_
    ·simp;omega
    refine AK.ct ?_ ?_
    ·simp;omega
    refine AK.ct ?_ ?_
    ·simp;omega
    refine AK.ct ?_ ?_
    ·simp;omega
    refine AK.rt Tryz.func217 ?_
    simp [Bh,Bv,h2']
   ·have h2':¬ 0≤m:=of_decide_eq_false h2
    refine AK.ct ?_ ?_
    ·simp;omega
    refine AK.ct ?_ ?_
    ·simp;omega
    refine AK.ct ?_ ?_
    ·simp;omega
    refine AK.ct ?_ ?_
    ·simp;omega
    refine AK.ct ?_ ?_
    ·simp;omega
    refine AK.rt Tryz.func217 ?_
    simp [Bh,Bv,h2']
theorem Ann (x:Nd)(h:FS x):∀ p:List UInt8,p.length+2*B0 x≤1000→wN x≤100000→Pure X 217 [nd x,str p] (str (Bh x p)):=by
 induction h with
 | set s a h ha =>
   intro p hp hw
   refine Pure.run Tryz.func217 ?_
   refine AK.ct ?_ ?_
   ·simp;omega
   refine AK.no ?_
   refine AK.no ?_
   have hl:=Dd a ha
   simp [wN,wL] at hw
   refine AK.yes ?_
   refine AK.db 0 ?_
   refine Drv.cg ?_ ?_
   ·simp;omega
   refine Drv.cg ?_ ?_
   ·simp;omega
   refine Drv.ig 0 (by omega) (Pr a _) ?_
   refine Bl (M9 a ha (by omega)) ?_
   refine Drv.cg ?_ ?_
   ·simp;omega
   refine Drv.cg ?_ ?_
   ·simp;omega
   refine Drv.z ?_
   refine AK.rt Tryz.func217 ?_
   simp [Bh,Bv]
 | put s a b h ha hb =>
   intro p hp hw
   refine Pure.run Tryz.func217 ?_
   refine AK.ct ?_ ?_
   ·simp;omega
   refine AK.no ?_
   refine AK.no ?_
   have hl:=Dd a ha
   have hl2:=Dd b hb
   simp [wN,wL] at hw
   have hT:Bh (.mk 22 s 0 [a,b]) p=p++s++[91]++A2 a++[93,32,61,32]++A2 b++[59,10]:=by cases b;simp [Bh]
   rw [hT]
   refine AK.no ?_
   refine AK.yes ?_
   refine AK.db 0 ?_
   refine Drv.cg ?_ ?_
   ·simp;omega
   refine Drv.cg ?_ ?_
   ·simp;omega
   refine Drv.ig 0 (by omega) (Pr a _) ?_
   refine Bl (M9 a ha (by omega)) ?_
   refine Drv.cg ?_ ?_
   ·simp;omega
   refine Drv.cg ?_ ?_
   ·simp;omega
   refine Drv.ig 1 (by omega) (W8 a b _) ?_
   refine Bl (M9 b hb (by omega)) ?_
   refine Drv.cg ?_ ?_
   ·simp;omega
   refine Drv.cg ?_ ?_
   ·simp;omega
   refine Drv.z ?_
   refine AK.rt Tryz.func217 ?_
   simp [Bv]
 | read s h =>
   intro p hp hw
   refine Pure.run Tryz.func217 ?_
   refine AK.ct ?_ ?_
   ·simp;omega
   refine AK.no ?_
   refine AK.no ?_
   simp [wN,wL] at hw
   refine AK.no ?_
   refine AK.no ?_
   refine AK.yes ?_
   refine AK.ct ?_ ?_
   ·simp;omega
   refine AK.ct ?_ ?_
   ·simp;omega
   refine AK.ct ?_ ?_
   ·simp;omega
   refine AK.rt Tryz.func217 ?_
   simp [Bh,Bv]
 | check c hc =>
   intro p hp hw
   refine Pure.run Tryz.func217 ?_
   refine AK.ct ?_ ?_
   ·simp;omega
   refine AK.no ?_
   refine AK.no ?_
   have hl:=J3 c hc
   simp [wN,wL] at hw
   refine AK.no ?_
   refine AK.no ?_
   refine AK.no ?_
   refine AK.yes ?_
   refine AK.ct ?_ ?_
   ·simp;omega
   refine AK.ix 0 (by omega) (Pr c _) ?_
   refine AK.pc (Z4 c hc (by omega)) ?_
   refine AK.ct ?_ ?_
   ·simp;omega
   refine AK.ct ?_ ?_
   ·simp;omega
   refine AK.rt Tryz.func217 ?_
   simp [Bh,Bv]
 | skip =>
   intro p hp hw
   refine Pure.run Tryz.func217 ?_
   refine AK.ct ?_ ?_
   ·simp;omega
   refine AK.no ?_
   refine AK.no ?_
   refine AK.no ?_
   refine AK.no ?_
   refine AK.no ?_
   refine AK.no ?_
   refine AK.yes ?_
   refine AK.ct ?_ ?_
   ·simp;omega
   refine AK.rt Tryz.func217 ?_
   simp [Bh,Bv]
 | stop =>
   intro p hp hw
   refine Pure.run Tryz.func217 ?_
   refine AK.ct ?_ ?_
   ·simp;omega
   refine AK.no ?_
   refine AK.no ?_
   refine AK.no ?_
   refine AK.no ?_
   refine AK.no ?_
   refine AK.no ?_
   refine AK.no ?_
   refine AK.yes ?_
   refine AK.ct ?_ ?_
   ·simp;omega
   refine AK.rt Tryz.func217 ?_
   simp [Bh,Bv]
 | whil c l hc hl ihl =>
   intro p hp hw
   refine Pure.run Tryz.func217 ?_
   refine AK.ct ?_ ?_
   ·simp;omega
   refine AK.no ?_
   refine AK.no ?_
   have h1:=J3 c hc
   simp only [B0,Dy] at hp
   simp [wN,wL] at hw
   have hlen:=Lr c l (p++[32,32]) hl (by simp;omega)
   have hB:=Rh l (p++[32,32]) hl (by simp;omega) (by omega) ihl
   refine AK.no ?_
   refine AK.no ?_
   refine AK.no ?_
   refine AK.no ?_
   refine AK.no ?_
   refine AK.no ?_
   refine AK.yes ?_
   refine AK.db 0 ?_
   refine Drv.cg ?_ ?_
   ·simp;omega
   refine Drv.ig 0 (by omega) (Pr c _) ?_
   refine Bl (Z4 c hc (by omega)) ?_
   refine Drv.cg ?_ ?_
   ·simp;omega
   refine Drv.cg ?_ ?_
   ·simp;omega
   refine Drv.ig 1 (by omega) (W8 c _ _) ?_
   refine Bl hB ?_
   refine Drv.cg ?_ ?_
   ·simp;omega
   refine Drv.cg ?_ ?_
   ·simp;omega
   refine Drv.cg ?_ ?_
   ·simp;omega
   refine Drv.z ?_
   refine AK.rt Tryz.func217 ?_
   simp [Bh,Bv]
 | for_ s a b l h ha hb hl ihl =>
   intro p hp hw
   refine Pure.run Tryz.func217 ?_
   refine AK.ct ?_ ?_
   ·simp;omega
   refine AK.no ?_
   refine AK.no ?_
   have h1:=Dd a ha
   have h2:=Dd b hb
   simp only [B0,Dy] at hp
   simp [wN,wL] at hw
   have hlen:=Lr a l (p++[32,32]) hl (by simp;omega)
   have hB:=Rh l (p++[32,32]) hl (by simp;omega) (by omega) ihl
   have hT:Bh (.mk 26 s 0 [a,b,.mk 30 [] 0 l]) p=p++[102,111,114,32]++s++[32,102,114,111,109,32]++A2 a++[32,116,111,32]++A2 b++[32,123,10]++E8 l (p++[32,32])++p++[125,10]:=by
    cases b;simp [Bh]
   rw [hT]
   refine AK.no ?_
   refine AK.no ?_
   refine AK.no ?_
   refine AK.no ?_
   refine AK.no ?_
   refine AK.no ?_
   refine AK.no ?_
   refine AK.yes ?_
   refine AK.db 0 ?_
   refine Drv.cg ?_ ?_
   ·simp;omega
   refine Drv.cg ?_ ?_
   ·simp;omega
   refine Drv.cg ?_ ?_
   ·simp;omega
   refine Drv.ig 0 (by omega) (Pr a _) ?_
   refine Bl (M9 a ha (by omega)) ?_
   refine Drv.cg ?_ ?_
   ·simp;omega
   refine Drv.cg ?_ ?_
   ·simp;omega
   refine Drv.ig 1 (by omega) (W8 a b _) ?_
   refine Bl (M9 b hb (by omega)) ?_
   refine Drv.cg ?_ ?_
   ·simp;omega
   refine Drv.cg ?_ ?_
   ·simp;omega
   refine Drv.ig 2 (by omega) (Aoi a b _ _) ?_
   refine Bl hB ?_
   refine Drv.cg ?_ ?_
   ·simp;omega
   refine Drv.cg ?_ ?_
   ·simp;omega
   refine Drv.cg ?_ ?_
   ·simp;omega
   refine Drv.z ?_
   refine AK.rt Tryz.func217 ?_
   simp [Bv]
 | ifs c l l' hc hl hl' ihl ihl' =>
   intro p hp hw
   refine Pure.run Tryz.func217 ?_
   refine AK.ct ?_ ?_
   ·simp;omega
   refine AK.no ?_
   refine AK.no ?_
   have h1:=J3 c hc
   simp only [B0,Dy] at hp
   simp [wN,wL] at hw
   have hlen:=Lr c l (p++[32,32]) hl (by simp;omega)
   have hB:=Rh l (p++[32,32]) hl (by simp;omega) (by omega) ihl
   have hlen':=Lr c l' (p++[32,32]) hl' (by simp;omega)
   have hB':=Rh l' (p++[32,32]) hl' (by simp;omega) (by omega) ihl'
   refine AK.no ?_
   refine AK.no ?_
   refine AK.no ?_
   refine AK.no ?_
   refine AK.no ?_
   refine AK.no ?_
   refine AK.no ?_
   refine AK.no ?_
   refine AK.yes ?_
   refine AK.db 0 ?_
   refine Drv.cg ?_ ?_
   ·simp;omega
   refine Drv.ig 0 (by omega) (Pr c _) ?_
   refine Bl (Z4 c hc (by omega)) ?_
   refine Drv.cg ?_ ?_
   ·simp;omega
   refine Drv.cg ?_ ?_
   ·simp;omega
   refine Drv.ig 1 (by omega) (W8 c _ _) ?_
   refine Bl hB ?_
   refine Drv.cg ?_ ?_
   ·simp;omega
   refine Drv.cg ?_ ?_
   ·simp;omega
   refine Drv.z ?_
   refine AK.ix 2 (by omega) (Aoi c _ _ _) ?_
   cases l' with
   | nil =>
     refine AK.no ?_
     refine AK.ct ?_ ?_
     ·simp;omega
     refine AK.rt Tryz.func217 ?_
     simp [Bh,Bv]
   | cons y l' =>
     refine AK.yes ?_ (ht:=decide_eq_true (by simp [Ai]))
     refine AK.ct ?_ ?_
     ·simp;omega
     refine AK.ix 2 (by omega) (Aoi c _ _ _) ?_
     refine AK.pc hB' ?_
     refine AK.ct ?_ ?_
     ·simp;omega
     refine AK.ct ?_ ?_
     ·simp;omega
     refine AK.ct ?_ ?_
     ·simp;omega
     refine AK.rt Tryz.func217 ?_
     simp [Bh,Bv]
def RS.wk (r:RS):Prop:=∀ w:Wd,w∈r.ws→w.kind=B1 w.text
theorem RS.after.wk {r r':RS}(h:r.after r')(hw:r.wk):r'.wk:=by unfold RS.wk;rw [h.1];exact hw
theorem Adf {s:List UInt8}(h:B1 s=1):nameS s=true:=by
 simp only [B1] at h
 split at h
 ·simp at h
 ·split at h
  ·assumption
  ·split at h
   ·simp at h
   ·split at h<;>simp at h
theorem Sj {s:List UInt8}(h:B1 s=2):0≤B6 s:=by
 simp only [B1] at h
 split at h
 ·simp at h
 ·split at h
  ·simp at h
  ·split at h
   ·assumption
   ·split at h<;>simp at h
theorem Abq:∀ (l:List UInt8)(n:Int),Lu n l≤1000000
 | [],n=>by simp only [Lu];split<;>omega
 | c::l,n=>by
   simp only [Lu]
   split
   ·exact Abq l _
   ·omega
theorem V9 (s:List UInt8):B6 s≤1000000:=by
 unfold B6
 split
 ·omega
 ·split
  ·omega
  ·split
   ·omega
   ·exact Abq _ _
theorem J5 {r:RS}(hw:r.wk)(h:r.kind≠0):r.kind=B1 r.text:=by
 have hlt:=M1 h
 obtain ⟨w,hwd⟩:=Ab r.ws hlt
 have:=hw w (List.mem_of_getElem? hwd)
 simp only [RS.kind,RS.text,hwd];exact this
theorem Ado {r:RS}(hw:r.wk)(h:r.named=true):nameS r.text=true:=by
 simp only [RS.named,Bool.not_eq_true',Bool.or_eq_false_iff,Bool.not_eq_false',beq_iff_eq] at h
 have:=J5 hw (by rw [h.2];simp)
 exact Adf (by rw [← this];exact h.2)
theorem Gs {r:RS}(hw:r.wk)(h:r.nameR.bad=false):r.named=true∧nameS r.name=true∧r.nameR=r.step∧r.bad=false:=by
 by_cases hn:r.named=true
 ·have hb:r.bad=false:=by simp only [RS.named,Bool.not_eq_true',Bool.or_eq_false_iff] at hn;exact hn.1
  refine ⟨hn,?_,by simp [RS.nameR,hn],hb⟩
  simp only [RS.name,hn,if_true]
  exact Ado hw hn
 ·simp only [RS.nameR,hn,RS.spoil] at h;simp at h
theorem Di {r:RS}{s:List UInt8}(h:(r.need s).bad=false):r.takes s=true∧r.need s=r.step∧r.bad=false:=by
 by_cases hn:r.takes s=true
 ·refine ⟨hn,by simp [RS.need,hn],?_⟩
  simp only [RS.takes,Bool.not_eq_true',Bool.or_eq_false_iff] at hn;exact hn.1
 ·simp only [RS.need,hn,RS.spoil] at h;simp at h
theorem Ti {r:RS}{s:List UInt8}(h:r.takes s=true):r.bad=false:=by
 simp only [RS.takes,Bool.not_eq_true',Bool.or_eq_false_iff] at h;exact h.1
theorem Fw {b c:Bool}(h:b=true→c=true)(hc:c=false):b=false:=by
 cases b
 ·rfl
 ·rw [h rfl] at hc;cases hc
theorem Ac8:∀ (f:Nat),(∀ r:RS,r.ok→r.wk→4*r.left+1≤f→(C9 f r).2.bad=false→FE (C9 f r).1∧r.at_+Af (C9 f r).1≤(C9 f r).2.at_) ∧
 (∀ r:RS,r.ok→r.wk→4*r.left+2≤f→(Ck f r).2.bad=false→FE (Ck f r).1∧r.at_+Af (Ck f r).1≤(Ck f r).2.at_) ∧
 (∀ (x:Nd)(a:Nat)(r:RS),r.ok→r.wk→FE x→a+Af x≤r.at_→4*r.left+1≤f→(Er f x r).2.bad=false→FE (Er f x r).1∧a+Af (Er f x r).1≤(Er f x r).2.at_) ∧
 (∀ r:RS,r.ok→r.wk→4*r.left+3≤f→(Cu f r).2.bad=false→FE (Cu f r).1∧r.at_+Af (Cu f r).1≤(Cu f r).2.at_) ∧
 (∀ (x:Nd)(a:Nat)(r:RS),r.ok→r.wk→FE x→a+Af x≤r.at_→4*r.left+2≤f→(D3 f x r).2.bad=false→FE (D3 f x r).1∧a+Af (D3 f x r).1≤(D3 f x r).2.at_):=by
 intro f
 induction f with
 | zero=>exact ⟨fun r _ _ h=>by omega,fun r _ _ h=>by omega,fun x a r _ _ _ _ h=>by omega,fun r _ _ h=>by omega,fun x a r _ _ _ _ h=>by omega⟩
 | succ f ih =>
   obtain ⟨i1,i2,i3,i4,i5⟩:=ih
   obtain ⟨b1,b2,b3,b4,b5⟩:=R9 f
   obtain ⟨a1,a2,a3,a4,a5⟩:=Db f
   refine ⟨fun r ho hw hf hg=>?_,fun r ho hw hf hg=>?_,fun x a r ho hw hx ha hf hg=>?_,fun r ho hw hf hg=>?_,fun x a r ho hw hx ha hf hg=>?_⟩
   ·have hb:r.bad=false:=Fw (fun h=>(R9 (f+1)).1 r h) hg
    simp only [C9] at hg ⊢
    rw [if_neg (by simp [hb])] at hg ⊢
    split at hg
    ·rename_i ht
     have hl:=(Ak ht (by simp)).1
     have ls:=Bc hl
     have s:=Ag hl
     obtain ⟨g1,g2⟩:=i1 r.step (s.ok ho) (s.wk hw) (by omega) hg
     rw [if_pos ht]
     refine ⟨.neg _ g1,?_⟩
     simp only [Af,An,RS.step] at g2 ⊢;omega
    rename_i ht1
    rw [if_neg ht1]
    split at hg
    ·rename_i hk
     rw [if_pos hk]
     have hk':r.kind=2:=by simpa using hk
     have:=J5 hw (by rw [hk'];simp)
     refine ⟨.num _ (Sj (by rw [← this];exact hk')) (V9 _),?_⟩
     simp [Af,An,RS.step]
    rename_i hk
    rw [if_neg hk]
    split at hg
    ·rename_i ht
     have hl:=(Ak ht (by simp)).1
     have ls:=Bc hl
     have s:=Ag hl
     obtain ⟨n1,n2,n3⟩:=Di hg
     obtain ⟨g1,g2⟩:=i4 r.step (s.ok ho) (s.wk hw) (by omega) n3
     rw [if_pos ht]
     refine ⟨g1,?_⟩
     simp only [n2]
     simp only [RS.step] at g2 ⊢;omega
    rename_i ht2
    rw [if_neg ht2]
    split at hg
    ·rename_i ht
     have hl:=(Ak ht (by simp)).1
     have s:=Ag hl
     obtain ⟨n1,n2,n3⟩:=Di hg
     have s2:=s.trans (Ar (s:=[40]) (s.ok ho) (by simp))
     obtain ⟨m1,m2,m3,m4⟩:=Gs (s2.wk hw) n3
     rw [if_pos ht]
     refine ⟨.len _ m2,?_⟩
     have e4:=(Di m4).2.1
     have:((r.step.need [40]).nameR.need [41]).at_=r.at_+4:=by rw [n2,m3,e4];rfl
     simp only [Af,An];omega
    rename_i ht3
    rw [if_neg ht3]
    split at hg
    ·rename_i ht
     rw [if_pos ht]
     obtain ⟨m1,m2,m3,m4⟩:=Gs hw (Ti ht)
     have hl:=(Ak ht (by simp)).1
     have s:=(Bm ho).trans (Ag hl)
     have s':=Au (Bm ho)
     have ls:=Bc hl
     obtain ⟨n1,n2,n3⟩:=Di hg
     obtain ⟨g1,g2⟩:=i4 r.nameR.step (s.ok ho) (s.wk hw) (by omega) n3
     refine ⟨.cell _ _ m2 g1,?_⟩
     simp only [n2]
     simp only [m3,RS.step,Af,An] at g2 ⊢;omega
    ·rename_i ht
     rw [if_neg ht]
     obtain ⟨m1,m2,m3,m4⟩:=Gs hw hg
     refine ⟨.var _ m2,?_⟩
     simp [m3,RS.step,Af,An]
   ·simp only [Ck] at hg ⊢
    have h1:=Fw (b3 (C9 f r).1 (C9 f r).2) hg
    obtain ⟨g1,g2⟩:=i1 r ho hw (by omega) h1
    have af:=a1 r ho
    have lf:=Au af
    exact i3 _ r.at_ _ (af.ok ho) (af.wk hw) g1 g2 (by omega) hg
   ·simp only [Er] at hg ⊢
    split at hg
    ·rename_i ht
     rw [if_pos ht]
     have hl:=(Ak ht (by simp)).1
     have ls:=Bc hl
     have s:=Ag hl
     have h1:=Fw (b3 _ (C9 f r.step).2) hg
     obtain ⟨g1,g2⟩:=i1 r.step (s.ok ho) (s.wk hw) (by omega) h1
     have af:=s.trans (a1 r.step (s.ok ho))
     have lf:=Au (a1 r.step (s.ok ho))
     refine i3 _ a _ (af.ok ho) (af.wk hw) (.two 8 _ _ (by simp) hx g1) ?_ (by omega) hg
     simp only [RS.step,Af,An] at g2 ⊢;omega
    ·rename_i ht
     rw [if_neg ht]
     exact ⟨hx,ha⟩
   ·simp only [Cu] at hg ⊢
    have h1:=Fw (b5 (Ck f r).1 (Ck f r).2) hg
    obtain ⟨g1,g2⟩:=i2 r ho hw (by omega) h1
    have af:=a2 r ho
    have lf:=Au af
    exact i5 _ r.at_ _ (af.ok ho) (af.wk hw) g1 g2 (by omega) hg
   ·simp only [D3] at hg ⊢
    split at hg
    ·rename_i ht
     rw [if_pos ht]
     have hl:=(Ak ht (by simp)).1
     have ls:=Bc hl
     have s:=Ag hl
     have h1:=Fw (b5 _ (Ck f r.step).2) hg
     obtain ⟨g1,g2⟩:=i2 r.step (s.ok ho) (s.wk hw) (by omega) h1
     have af:=s.trans (a2 r.step (s.ok ho))
     have lf:=Au (a2 r.step (s.ok ho))
     refine i5 _ a _ (af.ok ho) (af.wk hw) (.two 6 _ _ (by simp) hx g1) ?_ (by omega) hg
     simp only [RS.step,Af,An] at g2 ⊢;omega
    ·rename_i ht1
     rw [if_neg ht1]
     split at hg
     ·rename_i ht
      rw [if_pos ht]
      have hl:=(Ak ht (by simp)).1
      have ls:=Bc hl
      have s:=Ag hl
      have h1:=Fw (b5 _ (Ck f r.step).2) hg
      obtain ⟨g1,g2⟩:=i2 r.step (s.ok ho) (s.wk hw) (by omega) h1
      have af:=s.trans (a2 r.step (s.ok ho))
      have lf:=Au (a2 r.step (s.ok ho))
      refine i5 _ a _ (af.ok ho) (af.wk hw) (.two 7 _ _ (by simp) hx g1) ?_ (by omega) hg
      simp only [RS.step,Af,An] at g2 ⊢;omega
     ·rename_i ht
      rw [if_neg ht]
      exact ⟨hx,ha⟩
theorem Hi {r:RS}(ho:r.ok)(hw:r.wk)(h:(A9 r).2.bad=false):FE (A9 r).1∧r.at_+Af (A9 r).1≤(A9 r).2.at_ :=
 (Ac8 6010).2.2.2.1 r ho hw (by have:=ho.1;simp only [RS.left];omega) h
theorem Wm {s:List UInt8}(h:relS s≠0):11≤relS s∧relS s≤16:=by
 unfold relS at h ⊢
 repeat' split
 all_goals (first | omega | simp_all)
theorem Mm {r:RS}(ho:r.ok)(hw:r.wk)(h:(B5 r).2.bad=false):FC (B5 r).1∧r.at_+Af (B5 r).1≤(B5 r).2.at_:=by
 simp only [B5] at h ⊢
 split at h
 ·simp [RS.spoil] at h
 ·rename_i hc
  rw [if_neg hc]
  simp only [Bool.or_eq_true,not_or,beq_iff_eq,Bool.not_eq_true] at hc
  have hl:=Pj hc.2
  have a:=Bb ho
  have b:=a.trans (Ag hl)
  obtain ⟨g1,g2⟩:=Hi ho hw hc.1
  obtain ⟨g3,g4⟩:=Hi (b.ok ho) (b.wk hw) h
  have hr:=Wm hc.2
  refine ⟨.mk _ _ _ hr.1 hr.2 g1 g3,?_⟩
  simp only [RS.step,Af,An] at g4 ⊢;omega
theorem Ai0 {r:RS}(h:r.bad=true):(Ly r).2.bad=true:=by
 simp only [Ly]
 rw [if_neg (by simp [B8 (Xj h)])]
 exact Jw (Ny (Xj h) _)
theorem Aau {r:RS}(h:r.bad=true):(Bp r).2.bad=true:=by
 simp only [Bp]
 rw [if_neg (by simp [B8 h]),if_neg (by simp [B8 h]),if_neg (by simp [B8 h]),if_neg (by simp [B8 h])]
 exact Ai0 h
theorem Aah {r:RS}(ho:r.ok)(hw:r.wk)(h:(Bp r).2.bad=false):FS (Bp r).1∧r.at_+Af (Bp r).1≤(Bp r).2.at_:=by
 simp only [Bp] at h ⊢
 split at h
 ·rename_i ht
  rw [if_pos ht]
  have s:=Ag (Ak ht (by simp)).1
  obtain ⟨g1,g2⟩:=Mm (s.ok ho) (s.wk hw) h
  refine ⟨.check _ g1,?_⟩
  simp only [RS.step,Af,An] at g2 ⊢;omega
 rename_i ht1
 rw [if_neg ht1]
 split at h
 ·rename_i ht
  rw [if_pos ht]
  have s:=Ag (Ak ht (by simp)).1
  obtain ⟨m1,m2,m3,m4⟩:=Gs (s.wk hw) h
  refine ⟨.read _ m2,?_⟩
  rw [m3];simp [RS.step,Af,An]
 rename_i ht2
 rw [if_neg ht2]
 split at h
 ·rename_i ht
  rw [if_pos ht]
  exact ⟨.skip,by simp [RS.step,Af,An]⟩
 rename_i ht3
 rw [if_neg ht3]
 split at h
 ·rename_i ht
  rw [if_pos ht]
  exact ⟨.stop,by simp [RS.step,Af,An]⟩
 rename_i ht4
 rw [if_neg ht4]
 simp only [Ly] at h ⊢
 split at h
 ·rename_i ht
  rw [if_pos ht]
  obtain ⟨m1,m2,m3,m4⟩:=Gs hw (Ti ht)
  have s:=(Bm ho).trans (Ag (Ak ht (by simp)).1)
  have a1:=s.trans (Bb (s.ok ho))
  have a2:=a1.trans (Ar (s:=[93]) (a1.ok ho) (by simp))
  have a3:=a2.trans (Ar (s:=[61]) (a2.ok ho) (by simp))
  have hb:=Fw (fun h=>Jw h) h
  obtain ⟨n1,n2,n3⟩:=Di hb
  obtain ⟨n4,n5,n6⟩:=Di n3
  obtain ⟨g1,g2⟩:=Hi (s.ok ho) (s.wk hw) n6
  obtain ⟨g3,g4⟩:=Hi (a3.ok ho) (a3.wk hw) h
  refine ⟨.put _ _ _ m2 g1 g3,?_⟩
  have e1:(((A9 r.nameR.step).2.need [93]).need [61]).at_=(A9 r.nameR.step).2.at_+2:=by rw [n2,n5];rfl
  have e2:r.nameR.step.at_=r.at_+2:=by rw [m3];rfl
  simp only [Af,An];omega
 ·rename_i ht
  rw [if_neg ht]
  have a1:=Bm ho
  have a2:=a1.trans (Ar (s:=[61]) (a1.ok ho) (by simp))
  have hb:=Fw (fun h=>Jw h) h
  obtain ⟨n1,n2,n3⟩:=Di hb
  obtain ⟨m1,m2,m3,m4⟩:=Gs hw n3
  obtain ⟨g3,g4⟩:=Hi (a2.ok ho) (a2.wk hw) h
  refine ⟨.set _ _ m2 g3,?_⟩
  have e1:(r.nameR.need [61]).at_=r.at_+2:=by rw [n2,m3];rfl
  simp only [Af,An];omega
theorem Yi:∀ (f:Nat),(∀ r:RS,r.bad=true→(Bz f r).2.bad=true)∧(∀ r:RS,r.bad=true→(Bi f r).2.bad=true)∧(∀ (acc:List Nd)(r:RS),r.bad=true→(Ch f acc r).2.bad=true):=by
 intro f
 induction f with
 | zero=>exact ⟨fun r h=>by simpa only [Bz] using h,fun r h=>by simpa only [Bi] using h,fun x r h=>by simpa only [Ch] using h⟩
 | succ f ih =>
   obtain ⟨i1,i2,i3⟩:=ih
   refine ⟨fun r h=>?_,fun r h=>?_,fun acc r h=>?_⟩
   ·simp only [Bz]
    rw [if_neg (by simp [B8 h]),if_neg (by simp [B8 h]),if_neg (by simp [B8 h])]
    exact Ny (Aau h) _
   ·simp only [Bi];exact Ny (i3 _ _ (Ny h _)) _
   ·simp only [Ch];rw [if_neg (by simp [h])];exact h
theorem Mn (l:List Nd)(x:Nd):An (l++[x])=An l+Af x:=by rw [Iz];simp [An]
theorem Pm (r:RS):r.step.at_=r.at_+1:=rfl
theorem Ad8:∀ (f:Nat),(∀ r:RS,r.ok→r.wk→3*r.left+1≤f→(Bz f r).2.bad=false→FS (Bz f r).1∧r.at_+Af (Bz f r).1≤(Bz f r).2.at_) ∧
 (∀ r:RS,r.ok→r.wk→3*r.left+3≤f→(Bi f r).2.bad=false→∃ l,(Bi f r).1=.mk 30 [] 0 l∧(∀ x,x∈l→FS x)∧r.at_+2+An l≤(Bi f r).2.at_) ∧
 (∀ (acc:List Nd)(a:Nat)(r:RS),r.ok→r.wk→(∀ x,x∈acc→FS x)→a+An acc≤r.at_→3*r.left+2≤f→(Ch f acc r).2.bad=false→(∀ x,x∈(Ch f acc r).1→FS x)∧a+An (Ch f acc r).1≤(Ch f acc r).2.at_):=by
 intro f
 induction f with
 | zero=>exact ⟨fun r _ _ h=>by omega,fun r _ _ h=>by omega,fun x a r _ _ _ _ h=>by omega⟩
 | succ f ih =>
   obtain ⟨i1,i2,i3⟩:=ih
   obtain ⟨b1,b2,b3⟩:=Yi f
   obtain ⟨a1,a2,a3⟩:=Dj f
   refine ⟨fun r ho hw hf hg=>?_,fun r ho hw hf hg=>?_,fun acc a r ho hw hx ha hf hg=>?_⟩
   ·simp only [Bz] at hg ⊢
    split at hg
    ·rename_i ht
     rw [if_pos ht]
     have hl:=(Ak ht (by simp)).1
     have ls:=Bc hl
     have s:=Ag hl
     have c:=s.trans (Ca (s.ok ho))
     have lc:=Au (Ca (s.ok ho))
     split at hg
     ·rename_i ht2
      rw [if_pos ht2]
      have hl2:=(Ak ht2 (by simp)).1
      have ls2:=Bc hl2
      have d:=c.trans (a2 _ (c.ok ho))
      have ld:=Au (a2 _ (c.ok ho))
      have e:=d.trans (Ag hl2)
      have hb1:=Ti ht2
      have hb2:=Fw (b2 (B5 r.step).2) hb1
      obtain ⟨g1,g2⟩:=Mm (s.ok ho) (s.wk hw) hb2
      obtain ⟨l,e1,h1,h2⟩:=i2 _ (c.ok ho) (c.wk hw) (by omega) hb1
      obtain ⟨l',e2,h3,h4⟩:=i2 _ (e.ok ho) (e.wk hw) (by omega) hg
      rw [e1,e2]
      refine ⟨.ifs _ _ _ g1 h1 h3,?_⟩
      simp only [Pm,Af,An] at g2 h4 ⊢;omega
     ·rename_i ht2
      rw [if_neg ht2]
      have hb2:=Fw (b2 (B5 r.step).2) hg
      obtain ⟨g1,g2⟩:=Mm (s.ok ho) (s.wk hw) hb2
      obtain ⟨l,e1,h1,h2⟩:=i2 _ (c.ok ho) (c.wk hw) (by omega) hg
      rw [e1]
      refine ⟨.ifs _ _ [] g1 h1 (fun x hx=>by cases hx),?_⟩
      simp only [Pm,Af,An] at g2 ⊢;omega
    rename_i ht1
    rw [if_neg ht1]
    split at hg
    ·rename_i ht
     rw [if_pos ht]
     have hl:=(Ak ht (by simp)).1
     have ls:=Bc hl
     have s:=Ag hl
     have c:=s.trans (Ca (s.ok ho))
     have lc:=Au (Ca (s.ok ho))
     have hb2:=Fw (b2 (B5 r.step).2) hg
     obtain ⟨g1,g2⟩:=Mm (s.ok ho) (s.wk hw) hb2
     obtain ⟨l,e1,h1,h2⟩:=i2 _ (c.ok ho) (c.wk hw) (by omega) hg
     rw [e1]
     refine ⟨.whil _ _ g1 h1,?_⟩
     simp only [Pm,Af,An] at g2 ⊢;omega
    rename_i ht2
    rw [if_neg ht2]
    split at hg
    ·rename_i ht
     rw [if_pos ht]
     have hl:=(Ak ht (by simp)).1
     have ls:=Bc hl
     have s:=Ag hl
     have fa:=s.trans (Mv (s.ok ho))
     have fb:=s.trans (Hj (s.ok ho))
     have lb:=Au (Hj (s.ok ho))
     have d:=fb.trans (Bb (fb.ok ho))
     have ld:=Au (Bb (fb.ok ho))
     have hb2:=Fw (b2 _) hg
     have hb3:=Fw (fun h=>Jw h) hb2
     obtain ⟨n1,n2,n3⟩:=Di (r:=(A9 (Q4 r.step)).2) (s:=Ue) hb3
     have hb4:=Fw (fun h=>Jw h) n3
     obtain ⟨n4,n5,n6⟩:=Di (r:=r.step.nameR) (s:=Ga) hb4
     obtain ⟨m1,m2,m3,m4⟩:=Gs (s.wk hw) n6
     obtain ⟨g1,g2⟩:=Hi (fa.ok ho) (fa.wk hw) n3
     obtain ⟨g3,g4⟩:=Hi (fb.ok ho) (fb.wk hw) hb2
     obtain ⟨l,e1,h1,h2⟩:=i2 _ (d.ok ho) (d.wk hw) (by omega) hg
     rw [e1]
     refine ⟨.for_ _ _ _ _ m2 g1 g3 h1,?_⟩
     have e2:(Sd r.step).at_=(A9 (Q4 r.step)).2.at_+1:=by show ((A9 (Q4 r.step)).2.need Ue).at_=_;rw [n2];rfl
     have e3:(Q4 r.step).at_=r.at_+3:=by show (r.step.nameR.need Ga).at_=_;rw [n5,m3];rfl
     simp only [Af,An];omega
    ·rename_i ht3
     rw [if_neg ht3]
     obtain ⟨n1,n2,n3⟩:=Di hg
     obtain ⟨g1,g2⟩:=Aah ho hw n3
     refine ⟨g1,?_⟩
     rw [n2];show r.at_+Af (Bp r).1≤(Bp r).2.at_+1;omega
   ·simp only [Bi] at hg ⊢
    obtain ⟨n1,n2,n3⟩:=Di hg
    have hb:=Fw (b3 [] _) n3
    obtain ⟨n4,n5,n6⟩:=Di hb
    have hl:=(Ak n4 (by simp)).1
    have ls:=Bc hl
    have s:=Ar (s:=[123]) ho (by simp)
    rw [n5] at s n3 n2 ⊢
    obtain ⟨g1,g2⟩:=i3 [] r.step.at_ _ (s.ok ho) (s.wk hw) (fun x hx=>by cases hx) (by simp [An]) (by omega) n3
    refine ⟨_,rfl,g1,?_⟩
    rw [n2]
    simp only [Pm] at g2 ⊢;omega
   ·simp only [Ch] at hg ⊢
    split at hg
    ·rename_i hc
     rw [if_pos hc]
     have af:=a1 r ho
     have lf:=Au af
     obtain ⟨p,rfl⟩:∃ p,f=p+1:=⟨f-1,by omega⟩
     have hb:=Fw (b3 _ (Bz (p+1) r).2) hg
     obtain ⟨g1,g2⟩:=i1 r ho hw (by omega) hb
     have hon:r.at_<(Bz (p+1) r).2.at_:=by
      rcases Rr p ho with h | h
      ·rw [hb] at h;cases h
      ·exact h
     have hlt:(Bz (p+1) r).2.left+1≤r.left:=by
      have e1:=af.1
      have e2:=af.2.2
      simp only [RS.left,e1] at *
      omega
     refine i3 _ a _ (af.ok ho) (af.wk hw) (fun x hx'=>?_) ?_ (by omega) hg
     ·rcases List.mem_append.1 hx' with h | h
      ·exact hx x h
      ·simp at h;subst h;exact g1
     ·rw [Mn];omega
    ·rename_i hc
     rw [if_neg hc]
     exact ⟨hx,ha⟩
theorem Ad4 {r:RS}(hw:r.wk)(h:(Ff r).2.bad=false):-1≤(Ff r).1∧(Ff r).1≤1000000∧(Ff r).2.at_=r.at_+1∧r.bad=false:=by
 simp only [Ff] at h ⊢
 split at h
 ·rename_i hc
  rw [if_pos hc]
  simp only [Bool.and_eq_true,Bool.not_eq_true',beq_iff_eq] at hc
  have hk:=J5 hw (by rw [hc.2];simp)
  have:=Sj (by rw [← hk];exact hc.2)
  exact ⟨by simp only;omega,V9 _,rfl,hc.1⟩
 ·rename_i hc
  rw [if_neg hc]
  obtain ⟨n1,n2,n3⟩:=Di h
  exact ⟨by simp,by simp,by rw [n2];rfl,n3⟩
theorem Ac6 {r:RS}(ho:r.ok)(hw:r.wk)(hd:Em r=true)(h:(F5 r).2.bad=false):FV (F5 r).1∧Af (F5 r).1=1∧r.at_+1≤(F5 r).2.at_:=by
 have af:=Hp ho hd
 have hlt:=af.2
 have s:=Ag hlt
 refine ⟨?_,?_,?_⟩
 ·simp only [F5] at h ⊢
  split at h
  ·rename_i ht
   rw [if_pos ht]
   exact .var _ (Gs (s.wk hw) h).2.1
  ·rename_i ht
   rw [if_neg ht]
   obtain ⟨n1,n2,n3⟩:=Di h
   have s2:=s.trans (Bm (s.ok ho))
   have s3:=s2.trans (Ar (s:=[91]) (s2.ok ho) (by simp))
   obtain ⟨g1,g2,g3,g4⟩:=Ad4 (s3.wk hw) n3
   obtain ⟨n4,n5,n6⟩:=Di g4
   exact .arr _ _ (Gs (s.wk hw) n6).2.1 g1 g2
 ·simp only [F5];split<;>simp [Af,An]
 ·have:=af.1.2.1
  rw [Pm] at this;exact this
theorem Acx:∀ (f:Nat)(acc:List Nd)(r:RS),r.bad=true→(C0 f acc r).2.bad=true
 | 0,acc,r,h=>by simpa only [C0] using h
 | f+1,acc,r,h=>by simp only [C0];rw [if_neg (by simp [Em,B8 h])];exact h
theorem Tv:∀ (f:Nat)(acc:List Nd)(a:Nat)(r:RS),r.ok→r.wk→(∀ x,x∈acc→FV x)→a+An acc≤r.at_→(C0 f acc r).2.bad=false →
 (∀ x,x∈(C0 f acc r).1→FV x)∧a+An (C0 f acc r).1≤(C0 f acc r).2.at_
 | 0,acc,a,r,ho,hw,hx,ha,h=>by simp only [C0] at h ⊢;exact ⟨hx,ha⟩
 | f+1,acc,a,r,ho,hw,hx,ha,h=>by
   simp only [C0] at h ⊢
   split at h
   ·rename_i hd
    rw [if_pos hd]
    have hb:=Fw (Acx f _ _) h
    obtain ⟨n1,n2,n3⟩:=Di hb
    obtain ⟨g1,g2,g3⟩:=Ac6 ho hw hd n3
    obtain ⟨d1,d2⟩:=Hp ho hd
    have s:=(Ag d2).trans d1
    have s2:=s.trans (Ar (s:=[59]) (s.ok ho) (by simp))
    refine Tv f _ a _ (s2.ok ho) (s2.wk hw) (fun x hx'=>?_) ?_ h
    ·rcases List.mem_append.1 hx' with h' | h'
     ·exact hx x h'
     ·simp at h';subst h';exact g1
    ·rw [Mn,n2,Pm];omega
   ·rename_i hd
    rw [if_neg hd]
    exact ⟨hx,ha⟩
theorem Qb {r:RS}(ho:r.ok)(hw:r.wk)(h:(Cn r).2.bad=false):FP (Cn r).1∧r.at_+Af (Cn r).1≤(Cn r).2.at_+2∧(Cn r).2.at_=r.ws.length:=by
 simp only [Cn] at h ⊢
 generalize hT:C0 2000 [] r=T at h ⊢
 have aT:r.after T.2:=by rw [← hT];exact Jo 2000 [] r ho
 have aL:=(Dj 5000).2.2 [] T.2 (aT.ok ho)
 simp only [RS.ends] at h ⊢
 split at h
 ·simp [RS.spoil] at h
 ·rename_i hc
  rw [if_neg hc]
  have hb:=Fw ((Yi 5000).2.2 [] T.2) h
  obtain ⟨g1,g2⟩:=(Ad8 5000).2.2 [] T.2.at_ T.2 (aT.ok ho) (aT.wk hw) (fun x hx=>by cases hx) (by simp [An]) (by have:=(aT.ok ho).1;simp only [RS.left];omega) h
  obtain ⟨g3,g4⟩:=Tv 2000 [] r.at_ r ho hw (fun x hx=>by cases hx) (by simp [An]) (by rw [hT];exact hb)
  rw [hT] at g3 g4
  refine ⟨.mk _ _ g3 g1,?_,?_⟩
  ·simp only [Af,Mn,An];omega
  ·have e:=(aT.trans aL).1
   have:=aL.2.2
   have e2:(Ch 5000 [] T.2).2.ws=r.ws:=e
   rw [e2] at this hc
   omega
theorem AK.as_ {X:Cx}{B:Bx}{F:Bs}{S:St}{R:AE→St→Prop}{K:List Item}(d:Nat)(y:AV)(hk:AK X B K ((d,y)::F) S R)(h:lk F d=some y:=by rfl):AK X B K F S R:=by
 intro E w a b cs hI hF hn hm hb
 refine hk E w a b cs hI ⟨hF.size,hF.nod,fun k z hz=>?_⟩ hn hm hb
 rw [H8] at hz
 split at hz
 ·rename_i he
  subst he
  cases hz
  exact hF.rel _ _ h
 ·exact hF.rel k z hz
theorem Yr:∀ (f a:Nat)(r:List UInt8)(out:List Wd),out.length≤1500→(∀ w,w∈out→w.kind=B1 w.text)→(Ef f a r out).1.length≤1500∧∀ w,w∈(Ef f a r out).1→w.kind=B1 w.text
 | 0,a,r,out,h1,h2=>by simp only [Ef];exact ⟨h1,h2⟩
 | f+1,a,[],out,h1,h2=>by simp only [Ef];exact ⟨h1,h2⟩
 | f+1,a,c::l,out,h1,h2=>by
   simp only [Ef]
   split
   ·exact ⟨by simp,fun w hw=>by cases hw⟩
   ·split
    ·exact ⟨by simp,fun w hw=>by cases hw⟩
    ·rename_i hk
     refine Yr f _ _ _ ?_ fun w hw=>?_
     ·simp at hk ⊢;omega
     ·rcases List.mem_append.1 hw with h | h
      ·exact h2 w h
      ·simp at h;subst h;rfl
theorem Ys (s:List UInt8):(Bq s).1.length≤1500∧∀ w,w∈(Bq s).1→w.kind=B1 w.text:=by
 unfold Bq
 split
 ·exact ⟨by simp,fun w hw=>by cases hw⟩
 ·exact Yr _ _ _ _ (by simp) (fun w hw=>by cases hw)
def RS.place (r:RS)(e:Nat):Nat:=match r.ws[r.at_]? with
 | some w=>w.pos
 | none=>e
def rs0 (s:List UInt8):RS:=⟨(Bq s).1,0,false⟩
theorem Aae (s:List UInt8):(rs0 s).ok:=⟨(Ys s).1,Nat.zero_le _⟩
theorem Aaf (s:List UInt8):(rs0 s).wk:=(Ys s).2
def C5 (s:List UInt8):Nd × Int × Int :=
 if (Bq s).2.1=0 then
  (if (Cn (rs0 s)).2.bad then (B2,4,(Cn (rs0 s)).2.place s.length)
  else if 500<Af (Cn (rs0 s)).1∨24<B0 (Cn (rs0 s)).1 then (B2,5,0) else ((Cn (rs0 s)).1,0,0))
 else (B2,(Bq s).2.1,(Bq s).2.2)
theorem Abu {s:List UInt8}(h:(C5 s).2.1=0):FP (C5 s).1∧Af (C5 s).1≤500∧B0 (C5 s).1≤24:=by
 unfold C5 at h ⊢
 split at h
 ·rename_i h0
  rw [if_pos h0]
  split at h
  ·simp at h
  ·rename_i hb
   rw [if_neg hb]
   split at h
   ·simp at h
   ·rename_i hl
    rw [if_neg hl]
    have:=Qb (Aae s) (Aaf s) (by simpa using hb)
    exact ⟨this.1,by simp only;omega,by simp only;omega⟩
 ·rename_i h0
  exact absurd h h0
theorem Abw {r:RS}(ho:r.ok):r.after (Cn r).2:=by
 simp only [Cn]
 have aT:r.after (C0 2000 [] r).2:=Jo 2000 [] r ho
 have aL:=(Dj 5000).2.2 [] (C0 2000 [] r).2 (aT.ok ho)
 have a:=aT.trans aL
 simp only [RS.ends]
 split
 ·exact a.trans (Kv (a.ok ho))
 ·exact a
theorem Fv {s:List UInt8}(h:nameS s=true):s.length≤8:=by
 unfold nameS at h
 split at h
 ·simp
 ·simp only [Bool.and_eq_true,decide_eq_true_eq] at h
  have:=h.1.1.1
  simp;omega
theorem Anq (s:List UInt8)(hs:s.length≤1000000000):Pure X 218 [str s] (.tup [nd (C5 s).1,.agg [vi (C5 s).2.1,vi (C5 s).2.2]]):=by
 have hw:Pure X 262 [str s] (.tup [.sl (Ei (Bq s).1) .no,.agg [vi (Bq s).2.1,vi (Bq s).2.2]]):=Anx s hs
 refine Pure.run Tryz.func218 ?_
 refine AK.pc hw ?_
 refine AK.if_ (fun h=>?_) (fun h=>?_)
 ·have h':(Bq s).2.1≠0:=by have:(!((Bq s).2.1==0))=true:=h;simpa using this
  have hP:C5 s=(B2,(Bq s).2.1,((Bq s).2.2:Int)):=by simp only [C5];rw [if_neg h']
  rw [hP]
  refine AK.db 12 ?_
  refine Dv (Ndo.store rfl rfl rfl rfl rfl rfl rfl) ?_ ?_
  ·exact Aq (Ndo.ev rfl rfl rfl) Fp
  refine Drv.w (Ndo.store rfl rfl rfl rfl rfl rfl rfl) ?_
  refine Drv.z ?_
  refine AK.rz Tryz.func218 ?_
  rfl
 have h':(Bq s).2.1=0:=by have:(!((Bq s).2.1==0))=false:=h;simpa using this
 have hP:C5 s=if (Cn (rs0 s)).2.bad then (B2,4,((Cn (rs0 s)).2.place s.length:Int)) else if 500<Af (Cn (rs0 s)).1∨24<B0 (Cn (rs0 s)).1 then (B2,5,0) else ((Cn (rs0 s)).1,0,0):=by
  simp only [C5];rw [if_pos h']
 rw [hP]
 have ho:=Aae s
 refine AK.as_ 6 (.ptr 3 0 0) ?_
 refine AK.as_ 22 (.ptr 3 0 0) ?_
 refine AK.hc [3] [] (Ara (rs0 s) ho) ?_
 have hws:(Cn (rs0 s)).2.ws=(Bq s).1:=(Abw ho).1
 have good:=Qb ho (Aaf s)
 have hl0:=(Aae s).1
 generalize Cn (rs0 s)=q at good hws ⊢
 refine AK.if_ (fun h1=>?_) (fun h1=>?_)
 ·have h1':q.2.bad=true:=h1
  rw [if_pos h1']
  refine AK.if_ (fun h2=>?_) (fun h2=>?_)
  ·have hlt:q.2.at_<(Bq s).1.length:=by have:=of_decide_eq_true h2;rw [Cc] at this;omega
   obtain ⟨w,hw⟩:=Ab (Bq s).1 hlt
   have hp:q.2.place s.length=w.pos:=by simp [RS.place,hws,hw]
   refine AK.ix q.2.at_ (by omega) (L8 hw) ?_
   refine AK.rz Tryz.func218 ?_
   rw [hp];rfl
  ·have hlt:(Bq s).1.length≤q.2.at_:=by have:=of_decide_eq_false h2;rw [Cc] at this;omega
   have hp:q.2.place s.length=s.length:=by simp [RS.place,hws,List.getElem?_eq_none hlt]
   refine AK.rz Tryz.func218 ?_
   rw [hp];rfl
 ·have h1':q.2.bad=false:=h1
  obtain ⟨g1,g2,g3⟩:=good h1'
  have hc:Af q.1≤4000000000:=by
   have e:(rs0 s).at_=0:=rfl
   omega
  rw [if_neg (by simp [h1'])]
  refine AK.pc (Afj q.1 hc) ?_
  refine AK.gd (fun h2=>?_) (fun h2=>?_)
  ·have h2':500<Af q.1:=by have:=of_decide_eq_true h2;omega
   rw [if_pos (.inl h2')]
   refine AK.yes ?_
   refine AK.rz Tryz.func218 ?_
   rfl
  ·have h2':¬ 500<Af q.1:=by have:=of_decide_eq_false h2;omega
   refine AK.pc (Afk q.1 hc) ?_
   refine AK.if_ (fun h3=>?_) (fun h3=>?_)
   ·have h3':24<B0 q.1:=by have:=of_decide_eq_true h3;omega
    rw [if_pos (.inr h3')]
    refine AK.rz Tryz.func218 ?_
    rfl
   ·have h3':¬ 24<B0 q.1:=by have:=of_decide_eq_false h3;omega
    rw [if_neg (by omega)]
    refine AK.rz Tryz.func218 ?_
    rfl
def Gw (n:Nd):List UInt8:=((n.kids.dropLast).map fun x=>Bh x []).flatten++(match n.kids.getLast? with
 | some b=>E8 b.kids []
 | none=>[])
def B7 (n:Nd):Bool:=(n.kind==40&&Nk n)&&((!(Gw n==[])&&decide ((Gw n).length≤4000))&&(C5 (Gw n)).2.1==0)
theorem Wg (ds l:List Nd):Gw (.mk 40 [] 0 (ds++[.mk 30 [] 0 l]))=(ds.map fun x=>Bh x []).flatten++E8 l []:=by
 simp [Gw]
theorem Anr (n:Nd)(h:FP n)(hd:B0 n≤24)(hw:wN n≤100000):Pure X 217 [nd n,str []] (str (Gw n))∧(Gw n).length≤4060*wN n:=by
 cases h with
 | mk ds l hd' hl =>
   rw [Wg]
   simp only [B0] at hd
   have hdl:Dy l≤22:=by
    have:=Dz (l:=ds++[.mk 30 [] 0 l]) (x:=.mk 30 [] 0 l) (by simp)
    simp only [B0] at this;omega
   have hwl:wL (ds++[.mk 30 [] 0 l])≤100000:=by simp [wN] at hw;omega
   have hwb:=K7 (l:=ds++[.mk 30 [] 0 l]) (k:=.mk 30 [] 0 l) (by simp)
   simp only [wN] at hwb
   have hf:∀ x,x∈ds++[.mk 30 [] 0 l]→Pure X 217 [nd x,str []] (str (if x.kind=30 then E8 x.kids [] else Bh x []))∧(if x.kind=30 then E8 x.kids [] else Bh x []).length≤4060*wN x:=fun x hx=>by
    have hwx:=K7 hx
    rcases List.mem_append.1 hx with h | h
    ·have hv:=hd' x h
     have hk:¬ x.kind=30:=by cases hv<;>simp
     rw [if_neg hk]
     exact ⟨Ano x hv [] (by simp) (by omega),Ag4 x hv [] (by simp)⟩
    ·simp only [List.mem_singleton] at h
     subst h
     rw [if_pos (I2 30 [] 0 l),Dq]
     refine ⟨Rh l [] hl (by simp;omega) (by simp at hwb;omega) fun x hx=>Ann x (hl x hx),?_⟩
     have:=Lr (.mk 30 [] 0 l) l [] hl (by simp;omega)
     simp only [wN];omega
   have hp:=Afl 40 (.inr rfl) _ _ [] (by simp) hwl hf
   have hT:((ds++[Nd.mk 30 [] 0 l]).map fun x=>if x.kind=30 then E8 x.kids [] else Bh x []).flatten=(ds.map fun x=>Bh x []).flatten++E8 l []:=by
    have e:(ds.map fun x=>if x.kind=30 then E8 x.kids [] else Bh x [])=ds.map fun x=>Bh x []:=by
     apply List.map_congr_left
     intro x hx
     have hv:=hd' x hx
     have hk:¬ x.kind=30:=by cases hv<;>simp
     rw [if_neg hk]
    rw [List.map_append,List.flatten_append,e];simp
   rw [hT] at hp
   refine ⟨hp,?_⟩
   have:=Vo fun x hx=>(hf x hx).2
   rw [hT] at this
   simp only [wN];omega
theorem Tn (n:Nd)(h:Bg n=true):wN n≤9*Af n:=by
 induction n using Nd.ind with
 | h n ih =>
   rw [Hk,Bool.and_eq_true] at h
   have hall:=Hv h.2
   obtain ⟨_,hH⟩:=Xu h.1
   have hs:n.name.length≤8:=by
    have e:=hH.hs
    cases hb:(Aw n.kind).2.1 with
    | false=>rw [hb] at e;have h0:n.name=[]:=(by simpa using e);rw [h0];simp
    | true=>exact Fv (hH.hn hb)
   have key:∀ l:List Nd,(∀ x,x∈l→wN x≤9*Af x)→wL l≤9*An l:=by
    intro l
    induction l with
    | nil=>intro _;simp [wL]
    | cons x l ihl =>
      intro hx
      have h1:=hx x (by simp)
      have h2:=ihl fun y hy=>hx y (by simp [hy])
      simp only [wL,An];omega
   have:=key n.kids fun x hx=>by
    obtain ⟨j,hj⟩:=A3 hx
    exact ih x hx (hall j x hj).2
   rw [Py,Be];omega
theorem Abt (n:Nd)(hn:wN n≤1000000000):Pure X 156 [nd n] (vb (B7 n)):=by
 refine Pure.run Tryz.func156 ?_
 refine AK.gd (fun h1=>?_) (fun h1=>?_)
 ·have h1':¬ n.kind=40:=by have:(!(n.kind==40))=true:=h1;simpa using this
  refine AK.yes ?_
  refine AK.rt Tryz.func156 ?_
  simp [B7,h1',Bv]
 have h1':n.kind=40:=by have:(!(n.kind==40))=false:=h1;simpa using this
 refine AK.pc (Aqz n hn) ?_
 refine AK.if_ (fun h2=>?_) (fun h2=>?_)
 ·have h2':Nk n=false:=by have:(!Nk n)=true:=h2;simpa using this
  refine AK.rt Tryz.func156 ?_
  simp [B7,h2',Bv]
 have h2':Nk n=true:=by have:(!Nk n)=false:=h2;simpa using this
 have h2'':=h2'
 simp only [Nk,Bool.and_eq_true,decide_eq_true_eq] at h2''
 obtain ⟨⟨hc,hd⟩,hf⟩:=h2''
 have hw:=Tn n hf
 have hP:=Ao3 n hf h1'
 obtain ⟨hp,hl⟩:=Anr n hP hd (by omega)
 refine AK.pc hp ?_
 have hO:B7 n=((!(Gw n==[])&&decide ((Gw n).length≤4000))&&(C5 (Gw n)).2.1==0):=by simp [B7,h1',h2']
 rw [hO]
 refine AK.gd (fun h3=>?_) (fun h3=>?_)
 ·have h3':(Gw n==[])=true:=h3
  refine AK.yes ?_
  refine AK.rt Tryz.func156 ?_
  rw [h3'];rfl
 have h3':(Gw n==[])=false:=h3
 refine AK.if_ (fun h4=>?_) (fun h4=>?_)
 ·have h4':¬ (Gw n).length≤4000:=by have:=of_decide_eq_true h4;rw [Dm] at this;omega
  refine AK.rt Tryz.func156 ?_
  simp [h4',Bv]
 have h4':(Gw n).length≤4000:=by have:=of_decide_eq_false h4;rw [Dm] at this;omega
 refine AK.pc (Anq (Gw n) (by omega)) ?_
 refine AK.rt Tryz.func156 ?_
 simp [h3',h4',Bv]
theorem Akb (l:List (List UInt8))(s:List UInt8)(hl:l.length≤1000000000):Pure X 102 [.sl (B4 l) .no,str s] (vi (Iq 0 l s)):=by
 refine Pure.run Tryz.func102 ?_
 refine AK.while_ (ι:=Nat) 0 0 (fun i=>i≤l.length∧Iq 0 l s=Iq i (l.drop i) s) (fun i=>[(5,vi i),(0,.sl (B4 l) .no),(1,str s)]) (fun _=>⟨[],[]⟩) (fun i=>l.length-i) ?_ 0 ⟨Nat.zero_le _,rfl⟩
  ⟨rfl,rfl,rfl,trivial⟩
 intro i hi IH
 refine AK.ei (fun h=>?_) (fun h=>?_)
 ·have hlt:i<l.length:=by have:=of_decide_eq_true h;rw [Dk] at this;omega
  obtain ⟨x,hx⟩:=Ab l hlt
  have hd:Iq i (l.drop i) s=if s==x then (i:Int) else Iq (i+1) (l.drop (i+1)) s:=by rw [Ba hx];rfl
  refine AK.ix i (by omega) (L0 hx) ?_
  refine AK.if_ (fun h2=>?_) (fun h2=>?_)
  ·refine AK.rt Tryz.func102 ?_
   have h3:(s==x)=true:=by have:(x==s)=true:=h2;rw [beq_iff_eq] at this ⊢;exact this.symm
   rw [hi.2,hd,h3];rfl
  ·have h3:(s==x)=false:=by have:(x==s)=false:=h2;rw [beq_eq_false_iff_ne] at this ⊢;exact Ne.symm this
   exact IH (i+1) ⟨hlt,by rw [hi.2,hd,h3];rfl⟩ (by omega) _ _ ⟨vsx (by omega),rfl,rfl,trivial⟩ rfl rfl rfl
 ·have:i=l.length:=by have:=of_decide_eq_false h;rw [Dk] at this;omega
  refine AK.rt Tryz.func102 ?_
  rw [hi.2,this,List.drop_length];rfl
theorem U2 (l:List (List UInt8)):Hg 1 (B4 l)=true:=Io (f:=fun s=>[str s]) (fun _=>rfl) l
def G3 (k:Int):Int:=if k=2∨k=21∨k=23∨k=26 then 1 else if k=3∨k=4∨k=22 then 2 else 0
theorem Anw (k:Int):Pure X 219 [vi k] (vi (G3 k)):=by
 refine Pure.run Tryz.func219 ?_
 repeat' (refine AK.if_ (fun _=>?_) (fun _=>?_))
 all_goals refine AK.rt Tryz.func219 ?_
 all_goals (simp_all [G3,Bv])
def C4 (l:List Nd)(k:Int):List (List UInt8):=(l.filter fun x=>x.kind==k).map Nd.name
def Ay (n:Nd)(k:Int):List (List UInt8):=C4 n.kids.dropLast k
theorem Sv (l:List Nd)(k:Int):(C4 l k).length≤l.length:=by simp only [C4,List.length_map];exact List.length_filter_le _ _
theorem M7 (n:Nd)(k:Int)(hn:wN n≤1000000000):Pure X 98 [nd n,vi k] (.sl (B4 (Ay n k)) .no):=by
 refine Pure.run Tryz.func98 ?_
 have hkl:=D4 n
 have hw:IntKind.i64.wrap ((Ai n.kids).length-1:Int)=n.kids.length-1:=by rw [Ad];exact Ac (by omega) (by omega)
 refine AK.mint (d:=5) rfl rfl rfl ?_
 refine AK.while_ (ι:=Nat) 1 1 (fun i=>i≤n.kids.length-1) (fun i=>[(6,vi i),(5,.sl (B4 (C4 (n.kids.take i) k)) (.tok 0)),(1,vi k),(2,.ptr 0 0 0)]) (fun i=>⟨[[Ae n]],[(C4 (n.kids.take i) k).length]⟩) (fun i=>n.kids.length-i) ?_ 0
  (Nat.zero_le _) ⟨rfl,rfl,rfl,rfl,trivial⟩
 intro i hi IH
 refine AK.ei (fun h=>?_) (fun h=>?_)
 ·have hlt:i<n.kids.length-1:=by have:=of_decide_eq_true h;rw [hw] at this;omega
  obtain ⟨x,hx⟩:=Ab n.kids (i:=i) (by omega)
  have hle:=Sv (n.kids.take i) k
  have htl:(n.kids.take i).length=i:=by simp;omega
  refine AK.ix i (by omega) (Al hx) ?_
  refine AK.if_ (fun h2=>?_) (fun h2=>?_)
  ·have h2':(x.kind==k)=true:=h2
   have hs:C4 (n.kids.take (i+1)) k=C4 (n.kids.take i) k++[x.name]:=by simp [C4,List.take_add_one,hx,List.filter_append,List.filter_cons,h2']
   refine AK.ix i (by omega) (Al hx) ?_
   refine AK.op (Ndo.append (res:=B4 (C4 (n.kids.take i) k++[x.name])) rfl rfl rfl rfl rfl rfl rfl rfl rfl rfl rfl rfl rfl rfl (Dk _) (U2 _) rfl rfl rfl ?_ ?_ rfl) ?_
   ·rw [Dk];simp;omega
   ·simp [B4]
   refine IH (i+1) (by omega) (by omega) _ _ ⟨vsx (by omega),?_,rfl,rfl,trivial⟩ ?_ rfl rfl
   ·rw [hs];rfl
   ·rw [hs];simp [St.drop,Dk]
  ·have h2':(x.kind==k)=false:=h2
   have hs:C4 (n.kids.take (i+1)) k=C4 (n.kids.take i) k:=by simp [C4,List.take_add_one,hx,List.filter_append,List.filter_cons,h2']
   refine IH (i+1) (by omega) (by omega) _ _ ⟨vsx (by omega),?_,rfl,rfl,trivial⟩ ?_ rfl rfl
   ·rw [hs];rfl
   ·rw [hs];rfl
 ·have:i=n.kids.length-1:=by have:=of_decide_eq_false h;rw [hw] at this;omega
  refine AK.rz Tryz.func98 ?_
  rw [this,Ay,List.dropLast_eq_take]
theorem Wa (n:Nd)(hn:wN n≤1000000000):Pure X 103 [nd n] (nd n):=by
 induction n using Nd.ind with
 | h n ih =>
 refine Pure.run Tryz.func103 ?_
 have hkl:=D4 n
 refine AK.mint (d:=3) rfl rfl rfl ?_
 refine AK.while_ (ι:=Nat) 2 1 (fun i=>i≤n.kids.length) (fun i=>[(4,vi i),(3,.sl (Ai (n.kids.take i)) (.tok 0)),(1,.ptr 0 0 0),(2,.ptr 1 0 0)]) (fun i=>⟨[[Ae n],[zN]],[i]⟩) (fun i=>n.kids.length-i) ?_ 0
  (Nat.zero_le _) ⟨rfl,rfl,rfl,rfl,trivial⟩
 intro i hi IH
 refine AK.ei (fun h=>?_) (fun h=>?_)
 ·have hlt:i<n.kids.length:=by have:=of_decide_eq_true h;rw [Ad] at this;omega
  obtain ⟨x,hx⟩:=Ab n.kids hlt
  have hwx:=F3 (List.mem_of_getElem? hx)
  have htl:(n.kids.take i).length=i:=by simp;omega
  refine AK.ix i (by omega) (Al hx) ?_
  refine AK.pc (ih x (List.mem_of_getElem? hx) (by omega)) ?_
  refine AK.op (Ndo.append (res:=Ai (n.kids.take (i+1))) rfl rfl rfl rfl rfl rfl rfl rfl rfl rfl rfl rfl rfl rfl (by rw [Ad,htl]) (Ct _) rfl rfl rfl ?_ ?_ rfl) ?_
  ·rw [Ad];simp;omega
  ·rw [List.take_add_one,hx,Aj,Aj];simp
  refine IH (i+1) hlt (by omega) _ _ ⟨vsx (by omega),rfl,rfl,rfl,trivial⟩ ?_ rfl rfl
  simp [St.drop,Ad,htl]
 ·have:i=n.kids.length:=by have:=of_decide_eq_false h;rw [Ad] at this;omega
  subst this
  refine AK.rz Tryz.func103 ?_
  rw [List.take_length];rfl
theorem Apg (s:List UInt8)(a:Nd):Pure X 230 [str s,nd a] (nd (.mk 21 s 0 [a])):=by
 refine Pure.run Tryz.func230 ?_
 refine AK.rz Tryz.func230 ?_
 show AV.agg [_,_,_,.sl _ _]=AV.agg [_,_,_,.sl (Ai [a]) _]
 rw [Aj [a]];rfl
theorem Akg (s:List UInt8):Pure X 232 [str s] (nd (.mk 2 s 0 [])):=by
 refine Pure.run Tryz.func232 ?_
 exact AK.rz Tryz.func232 rfl
theorem Anp:Pure X 233 [vi 1] (nd (.mk 1 [] 1 [])):=by
 refine Pure.run Tryz.func233 ?_
 refine AK.no ?_
 exact AK.rz Tryz.func233 rfl
def He (vars arrs:List (List UInt8))(code:Int)(k:Int)(s:List UInt8):Bool :=
 decide (G3 k > 0)&&((code==7&&!decide (Iq 0 vars s≥0)&&!decide (Iq 0 arrs s≥0))||(code==8&&((G3 k==1&&!decide (Iq 0 vars s≥0))||(G3 k==2&&!decide (Iq 0 arrs s≥0)))))
mutual
def Et (vars arrs:List (List UInt8))(code:Int):Nd→List UInt8 × Bool
 | .mk k s _ ks=>if He vars arrs code k s then (s,true) else K9 vars arrs code ks
def K9 (vars arrs:List (List UInt8))(code:Int):List Nd→List UInt8 × Bool
 | []=>([],false)
 | x::l=>if (Et vars arrs code x).2 then (Et vars arrs code x) else K9 vars arrs code l
end
theorem To (vars arrs:List (List UInt8))(code:Int)(n:Nd):Et vars arrs code n=if He vars arrs code n.kind n.name then (n.name,true) else K9 vars arrs code n.kids:=by cases n;rw [Et];rfl
theorem At1 (n:Nd)(vars arrs:List (List UInt8))(T:List UInt8 × Bool)(code w:Int)(v a:Bool)(hc:code=7∨code=8)(hw:w=1∨w=2)
 (h7:AK X ⟨157,Tryz.f157,0,0⟩ (Js false 7 Tryz.f157) [(4,.ptr 0 0 0),(1,.sl (B4 vars) .no),(2,.sl (B4 arrs) .no),(3,vi code)] ⟨[[Ae n]],[]⟩ (fun e S=>e=.ret (.tup [str T.1,vb T.2])∧S=⟨[],[]⟩)) :
 AK X ⟨157,Tryz.f157,0,0⟩ (Js false 5 Tryz.f157) [(4,.ptr 0 0 0),(1,.sl (B4 vars) .no),(2,.sl (B4 arrs) .no),(3,vi code),(10,vi w),(11,vb v),(12,vb a)] ⟨[[Ae n]],[]⟩
  (fun e S=>e=.ret (.tup [str (if ((code==7&&!v&&!a)||(code==8&&((w==1&&!v)||(w==2&&!a)))) then (n.name,true) else T).1,vb (if ((code==7&&!v&&!a)||(code==8&&((w==1&&!v)||(w==2&&!a)))) then (n.name,true) else T).2])∧S=⟨[],[]⟩):=by
 refine AK.at_ ?_
 rcases hc with rfl | rfl<;>rcases hw with rfl | rfl<;>cases v<;>cases a
 all_goals
  refine AK.ev 100 rfl ?_
  repeat' (first | refine AK.gn ?_ | refine AK.gy ?_)
  first
   | (refine AK.yes ?_;exact AK.rt Tryz.func157 rfl)
   | (refine AK.ifj 0 7 (fun h=>?_) (fun h=>?_);· cases h
      exact AK.back' 1 0 h7 ⟨rfl,rfl,rfl,rfl,trivial⟩ rfl rfl rfl rfl rfl)
theorem Afn (vars arrs:List (List UInt8))(code:Int)(hc:code=7∨code=8)(hv:vars.length≤1000000000)(ha:arrs.length≤1000000000)(n:Nd)(hn:wN n≤1000000000) :
 Pure X 157 [nd n,.sl (B4 vars) .no,.sl (B4 arrs) .no,vi code] (.tup [str (Et vars arrs code n).1,vb (Et vars arrs code n).2]):=by
 induction n using Nd.ind with
 | h n ih =>
 have hkl:=D4 n
 have hloop:∀ T,K9 vars arrs code n.kids=T→AK X ⟨157,Tryz.f157,0,0⟩ (Js false 7 Tryz.f157) [(4,.ptr 0 0 0),(1,.sl (B4 vars) .no),(2,.sl (B4 arrs) .no),(3,vi code)] ⟨[[Ae n]],[]⟩
  (fun e S=>e=.ret (.tup [str T.1,vb T.2])∧S=⟨[],[]⟩):=fun T hT=>by
  refine AK.at_ ?_
  refine AK.ev 100 rfl ?_
  refine AK.while_ (ι:=Nat) 1 0 (fun i=>i≤n.kids.length∧T=K9 vars arrs code (n.kids.drop i)) (fun i=>[(13,vi i),(4,.ptr 0 0 0),(1,.sl (B4 vars) .no),(2,.sl (B4 arrs) .no),(3,vi code)]) (fun _=>⟨[[Ae n]],[]⟩)
   (fun i=>n.kids.length-i) ?_ 0 ⟨Nat.zero_le _,hT.symm⟩ ⟨rfl,rfl,rfl,rfl,rfl,trivial⟩
  rintro i ⟨hi,hTi⟩ IH
  refine AK.ei (fun h=>?_) (fun h=>?_)
  ·have hlt:i<n.kids.length:=by have:=of_decide_eq_true h;rw [Ad] at this;omega
   obtain ⟨x,hx⟩:=Ab n.kids hlt
   have hwx:=F3 (List.mem_of_getElem? hx)
   rw [Ba hx] at hTi
   simp only [K9] at hTi
   refine AK.ix i (by omega) (Al hx) ?_
   refine AK.pc (ih x (List.mem_of_getElem? hx) (by omega)) ?_
   refine AK.if_ (fun h2=>?_) (fun h2=>?_)
   ·have h2':(Et vars arrs code x).2=true:=h2
    refine AK.rt Tryz.func157 ?_
    rw [hTi,if_pos h2',h2'];rfl
   ·have h2':(Et vars arrs code x).2=false:=h2
    exact IH (i+1) ⟨hlt,by rw [hTi,if_neg (by simp [h2'])]⟩ (by omega) _ _ ⟨vsx (by omega),rfl,rfl,rfl,rfl,trivial⟩ rfl rfl rfl
  ·have:i=n.kids.length:=by have:=of_decide_eq_false h;rw [Ad] at this;omega
   refine AK.rt Tryz.func157 ?_
   rw [hTi,this,List.drop_length];rfl
 refine Pure.run Tryz.func157 ?_
 refine AK.pc (Anw n.kind) ?_
 rw [To]
 refine AK.ifj 0 7 (fun h1=>?_) (fun h1=>?_)
 ·have h1':decide (G3 n.kind > 0)=true:=h1
  have hw:G3 n.kind=1∨G3 n.kind=2:=by
   have:=of_decide_eq_true h1'
   unfold G3 at this ⊢
   split
   ·simp
   ·split
    ·simp
    ·rename_i h2 h3;rw [if_neg h2,if_neg h3] at this;omega
  refine AK.ev 100 rfl ?_
  refine AK.pc (Akb vars n.name hv) ?_
  refine AK.pcj 5 (Akb arrs n.name ha) ?_
  have hA:He vars arrs code n.kind n.name=((code==7&&!decide (Iq 0 vars n.name≥0)&&!decide (Iq 0 arrs n.name≥0))||(code==8&&((G3 n.kind==1&&!decide (Iq 0 vars n.name≥0))||(G3 n.kind==2&&!decide (Iq 0 arrs n.name≥0))))):=by simp only [He,h1',Bool.true_and]
  rw [hA]
  exact AK.back' 1 0 (At1 n vars arrs _ code _ _ _ hc hw (hloop _ rfl)) ⟨rfl,rfl,rfl,rfl,rfl,rfl,rfl,trivial⟩ rfl rfl rfl rfl rfl
 ·have h1':decide (G3 n.kind > 0)=false:=h1
  have hA:He vars arrs code n.kind n.name=false:=by simp [He,h1']
  rw [hA]
  exact AK.back' 1 0 (hloop _ rfl) ⟨rfl,rfl,rfl,rfl,trivial⟩ rfl rfl rfl rfl rfl
theorem Ack {X:Cx}{B:Bx}{S S2:St}{F F':Bs}{N:Nat}{R:AE→St→Prop}{ops:Array Oper}{i:Nat}{bs:List Nat}{em:Nat}{Hs:List St}{pend:List Gl}{k K:List Item}(id:Nat)(hk:AK X B K F' S2 R)
 (he:evT X B.fn.ntmps id 100 k F S=(K,F',S2):=by rfl):Drv X N ops bs em [] i F S Hs pend fun F1 S1=>AK X B k F1 S1 R :=
 AK.evj id 100 he hk
def Zg (s:List UInt8):List Nd→List Nd
 | [a,b,.mk k' s' m' l]=>[.mk 21 s 0 [a],.mk 25 [] 0 [.mk 11 [] 0 [.mk 2 s 0 [],b],.mk k' s' m' (l++[.mk 21 s 0 [.mk 6 [] 0 [.mk 2 s 0 [],.mk 1 [] 1 []]]])]]
 | _=>[]
mutual
def Ap:Nd→Nd
 | .mk k s m ks=>.mk k s m (A4 ks)
def A4:List Nd→List Nd
 | []=>[]
 | x::l=>Ed x++A4 l
def Ed:Nd→List Nd
 | .mk k s m ks=>if k=26 then Zg s (A4 ks) else [.mk k s m (A4 ks)]
end
theorem Az (k:Int)(s:List UInt8)(m:Int)(ks:List Nd):Ap (.mk k s m ks)=.mk k s m (A4 ks):=by rw [Ap]
theorem Av:A4 []=[]:=by rw [A4]
theorem Ao (x:Nd)(l:List Nd):A4 (x::l)=Ed x++A4 l:=by rw [A4]
theorem A1 {x:Nd}(h:x.kind≠26):Ed x=[Ap x]:=by
 obtain ⟨k,s,m,ks⟩:=x
 have h':k≠26:=h
 rw [Ed,if_neg h',Ap]
theorem Iw (s:List UInt8)(m:Int)(ks:List Nd):Ed (.mk 26 s m ks)=Zg s (A4 ks):=by rw [Ed,if_pos rfl]
theorem Ol (a b:List Nd):A4 (a++b)=A4 a++A4 b:=by
 induction a with
 | nil=>simp [Av]
 | cons x a ih=>simp [Ao,ih]
theorem E5 {l:List Nd}(h:∀ x,x∈l→x.kind≠26):A4 l=l.map Ap:=by
 induction l with
 | nil=>simp [Av]
 | cons x l ih=>rw [Ao,A1 (h x (by simp)),ih fun y hy=>h y (by simp [hy])];simp
theorem Bo {x:Nd}(h:FE x):1≤x.kind∧x.kind≤8:=by
 cases h<;>simp
 omega
theorem Gk {x:Nd}(h:FC x):11≤x.kind∧x.kind≤16:=by
 cases h;simp;omega
theorem Alv {x:Nd}(h:FS x):21≤x.kind∧x.kind≤29:=by
 cases h<;>simp
theorem Uk {x:Nd}(h:FV x):x.kind=31∨x.kind=32:=by
 cases h<;>simp
theorem Oj {x:Nd}(h:FE x):Ap x=x:=by
 induction h with
 | num m h0 h1=>rw [Az,Av]
 | var s h=>rw [Az,Av]
 | cell s a h ha ih=>rw [Az,Ao,Av,A1 (by have:=Bo ha;omega),ih];rfl
 | len s h=>rw [Az,Av]
 | neg a ha ih=>rw [Az,Ao,Av,A1 (by have:=Bo ha;omega),ih];rfl
 | two k a b hk ha hb iha ihb=>rw [Az,Ao,Ao,Av,A1 (by have:=Bo ha;omega),A1 (by have:=Bo hb;omega),iha,ihb];rfl
theorem Na {x:Nd}(h:FC x):Ap x=x:=by
 cases h with
 | mk k a b h0 h1 ha hb=>rw [Az,Ao,Ao,Av,A1 (by have:=Bo ha;omega),A1 (by have:=Bo hb;omega),Oj ha,Oj hb];rfl
theorem Aq2 {x:Nd}(h:FV x):Ap x=x:=by
 cases h<;>rw [Az,Av]
theorem Ox (a b:List Nd):wL (a++b)=wL a+wL b:=by
 induction a with
 | nil=>simp [wL]
 | cons x a ih=>simp only [List.cons_append,wL,ih];omega
theorem Ap8 (s:List UInt8)(l:List Nd):wL (Zg s l)≤wL l+10+5*s.length:=by
 unfold Zg
 split
 ·simp only [wL,wN,Ox,List.length_nil];omega
 ·simp [wL]
theorem Oz {P:Nd→Prop}{Q:List Nd→Prop}(h1:∀ (k:Int)(s:List UInt8)(m:Int)(ks:List Nd),Q ks→P (.mk k s m ks))(h2:Q [])(h3:∀ (x:Nd)(l:List Nd),P x→Q l→Q (x::l)):(∀ x,P x)∧∀ l,Q l:=by
 have hP:∀ x,P x:=fun x=>Nd.rec (motive_1:=P) (motive_2:=Q) h1 h2 h3 x
 refine ⟨hP,fun l=>?_⟩
 induction l with
 | nil=>exact h2
 | cons x l ih=>exact h3 x l (hP x) ih
theorem Akl:(∀ n:Nd,wN (Ap n)≤10*wN n∧wL (Ed n)≤10*wN n)∧∀ l:List Nd,wL (A4 l)≤10*wL l:=by
 refine Oz (fun k s m ks ih=>?_) ?_ (fun x l hx hl=>?_)
 ·have hM:wN (Ap (.mk k s m ks))≤10*wN (.mk k s m ks):=by rw [Az];simp only [wN];omega
  refine ⟨hM,?_⟩
  by_cases hk:k=26
  ·subst hk
   rw [Iw]
   have:=Ap8 s (A4 ks)
   simp only [wN];omega
  ·rw [A1 (by simpa using hk)];simp only [wL];omega
 ·simp [Av,wL]
 ·rw [Ao,Ox];simp only [wL];omega
theorem Nb (n:Nd):wN (Ap n)≤10*wN n∧wL (Ed n)≤10*wN n:=Akl.1 n
theorem Pi (l:List Nd):wL (A4 l)≤10*wL l:=by
 induction l with
 | nil=>simp [Av,wL]
 | cons x l ih=>rw [Ao,Ox];have:=(Nb x).2;simp only [wL];omega
theorem Is (l:List Nd):l.length≤wL l:=by
 induction l with
 | nil=>simp
 | cons x l ih=>have:=Py x;simp [wL];omega
theorem Ja (k:Int)(s:List UInt8)(m:Int)(ks:List Nd)(hk:k≠26)(hk':k≠30)(hw:wN (.mk k s m ks)≤1000000000)
 (hx:∀ x,x∈ks→(x.kind=30∧Pure X 170 [nd x] (.sl (Ai [Ap x]) .no))∨(x.kind≠30∧Ap x=x)) :
 Pure X 170 [nd (.mk k s m ks)] (.sl (Ai [.mk k s m (ks.map Ap)]) .no):=by
 have ne1:(k==30)=false:=by simpa using hk'
 have ne2:(k==26)=false:=by simpa using hk
 have hkl:=D4 (.mk k s m ks)
 simp only [Dq] at hkl
 refine Pure.run Tryz.func170 ?_
 refine AK.no ?_ (ht:=ne1)
 refine AK.no ?_ (ht:=ne2)
 refine AK.mintB 1 0 3 rfl rfl rfl rfl rfl rfl ?_
 refine AK.while_ (ι:=Nat) 2 1 (fun i=>i≤ks.length) (fun i=>[(6,vi i),(1,.ptr 0 0 0),(3,.ptr 1 0 0)]) (fun i=>⟨[[Ae (.mk k s m ks)],[[vi k,str s,vi m,.sl (Ai ((ks.take i).map Ap)) (.tok 0)]]],[i]⟩) (fun i=>ks.length-i) ?_ 0
  (Nat.zero_le _) ⟨rfl,rfl,rfl,trivial⟩
 intro i hi IH
 refine AK.ei (fun h=>?_) (fun h=>?_)
 ·have hlt:i<ks.length:=by have:=of_decide_eq_true h;rw [Ad] at this;simp at this;omega
  obtain ⟨x,hxg⟩:=Ab ks hlt
  have hwx:wN x<wN (.mk k s m ks):=F3 (n:=.mk k s m ks) (List.mem_of_getElem? hxg)
  have htl:(Ai ((ks.take i).map Ap)).length=i:=by rw [Ad];simp;omega
  have hres:Ai ((ks.take i).map Ap)++[Ae (Ap x)]=Ai ((ks.take (i+1)).map Ap):=by simp [Aj,List.take_add_one,hxg]
  have hgo:AK X ⟨170,Tryz.f170,0,0⟩ (Js false 15 Tryz.f170) [(6,vi i),(1,.ptr 0 0 0),(3,.ptr 1 0 0)] ⟨[[Ae (.mk k s m ks)],[[vi k,str s,vi m,.sl (Ai ((ks.take (i+1)).map Ap)) (.tok 0)]]],[i+1]⟩
   (fun e S=>e=.ret (.sl (Ai [.mk k s m (ks.map Ap)]) .no)∧S=⟨[],[]⟩):=by
   refine AK.at_ ?_
   refine AK.ev 100 rfl ?_
   exact IH (i+1) hlt (by omega) _ _ ⟨vsx (by omega),rfl,rfl,trivial⟩ rfl rfl rfl
  refine AK.ix i (by omega) (Al (l:=ks) hxg) ?_
  rcases hx x (List.mem_of_getElem? hxg) with ⟨h30,hp⟩ | ⟨h30,hp⟩
  ·refine AK.yes ?_ (ht:=by simpa using h30)
   refine AK.db 10240 ?_
   refine Drv.ig i (by omega) (Al (l:=ks) hxg) ?_
   refine Bl hp ?_
   refine Drv.ig 0 (by omega) (Pr (Ap x) []) ?_
   refine Drv.w (Ndo.append (res:=Ai ((ks.take (i+1)).map Ap)) rfl rfl rfl rfl rfl rfl rfl rfl rfl rfl rfl rfl rfl rfl htl (Ct _) rfl rfl rfl ?_ hres rfl) ?_
   ·rw [htl];simp;omega
   refine Drv.e ?_
   refine Drv.w (Ndo.store rfl rfl rfl rfl rfl rfl rfl) ?_
   refine Ack 15 ?_
   exact AK.back' 2 1 hgo ⟨rfl,rfl,rfl,trivial⟩ (by simp [St.drop,Ad];omega) rfl rfl rfl rfl
  ·refine AK.no ?_ (ht:=by simpa using h30)
   refine AK.db 2560 ?_
   refine Drv.ig i (by omega) (Al (l:=ks) hxg) ?_
   refine Bl (Wa x (by omega)) ?_
   rw [hp] at hres
   refine Drv.w (Ndo.append (res:=Ai ((ks.take (i+1)).map Ap)) rfl rfl rfl rfl rfl rfl rfl rfl rfl rfl rfl rfl rfl rfl htl (Ct _) rfl rfl rfl ?_ hres rfl) ?_
   ·rw [htl];simp;omega
   refine Drv.e ?_
   refine Drv.w (Ndo.store rfl rfl rfl rfl rfl rfl rfl) ?_
   refine Ack 15 ?_
   exact AK.back' 2 1 hgo ⟨rfl,rfl,rfl,trivial⟩ (by simp [St.drop,Ad];omega) rfl rfl rfl rfl
 ·have:i=ks.length:=by have:=of_decide_eq_false h;rw [Ad] at this;simp at this;omega
  subst this
  refine AK.rz Tryz.func170 ?_
  rw [List.take_length,Aj [_]];rfl
theorem Abp (l:List Nd):I5 (Ai l)=true:=Ho.2 fun r hr x hx=>by
 rw [Aj] at hr
 obtain ⟨k,_,rfl⟩:=List.mem_map.1 hr
 simp [Ae] at hx
 rcases hx with rfl | rfl | rfl | rfl<;>rfl
theorem Hands.pure {X:Cx}{f:FuncId}{args:List AV}{y r:AV}{tk:List Nat}(h:Hands X f args ⟨[],[]⟩ y ⟨[],tk⟩) [hz:FzC ⟨[],tk⟩ 0 0 y r]:Pure X f args r:=by
 refine ⟨h.1,fun E w vs hd hI hs hr=>(h.2 E w vs hd hI hs hr).mono fun e w' he=>?_⟩
 obtain ⟨E1,S1,d1,d2,d3⟩:=he
 cases e with
 | returned v =>
   obtain ⟨r',hr',hre,rfl⟩:=d3
   cases hre
   exact ⟨E1.drop 0 0,_,d1.drop (fun rows hr=>by simp at hr),d2.trans (Evol.drop E1 w' 0 0),r,hz.s.rel d1 hr',rfl,by simp [St.drop]⟩
 | panicked ch=>obtain ⟨h,_⟩:=d3;cases h
 | outgrown=>exact d3.elim
theorem Aba (m:Int)(s:List UInt8)(ks:List Nd)(hw:wN (.mk 30 s m ks)≤1000000000)
 (hx:∀ x,x∈ks→Pure X 170 [nd x] (.sl (Ai (Ed x)) .no)∧Nat.ble 1 (Ed x).length=true) :
 Hands X 170 [nd (.mk 30 s m ks)] ⟨[],[]⟩ (.sl [[vi 30,str s,vi m,.sl (Ai (A4 ks)) (.tok 0)]] .tight) ⟨[],[(A4 ks).length]⟩:=by
 have hkl:=D4 (.mk 30 s m ks)
 simp only [Dq] at hkl
 refine Hands.run Tryz.func170 ?_
 refine AK.yes ?_
 refine AK.mintB 1 0 3 rfl rfl rfl rfl rfl rfl ?_
 refine AK.while_ (ι:=Nat) 2 1 (fun i=>i≤ks.length) (fun i=>[(4,vi i),(1,.ptr 0 0 0),(3,.ptr 1 0 0)]) (fun i=>⟨[[Ae (.mk 30 s m ks)],[[vi 30,str s,vi m,.sl (Ai (A4 (ks.take i))) (.tok 0)]]],[(A4 (ks.take i)).length]⟩) (fun i=>ks.length-i) ?_ 0
  (Nat.zero_le _) ⟨rfl,rfl,rfl,trivial⟩ (by simp [Av];rfl)
 intro i hi IH
 refine AK.ei (fun h=>?_) (fun h=>?_)
 ·have hlt:i<ks.length:=by have:=of_decide_eq_true h;rw [Ad] at this;simp at this;omega
  obtain ⟨x,hxg⟩:=Ab ks hlt
  have hwx:wN x<wN (.mk 30 s m ks):=F3 (n:=.mk 30 s m ks) (List.mem_of_getElem? hxg)
  have hsn:A4 (ks.take (i+1))=A4 (ks.take i)++Ed x:=by rw [List.take_add_one,hxg,Ol];simp [Ao,Av]
  have hl1:=Is (A4 (ks.take i))
  have hl2:=Pi (ks.take i)
  have hl3:wL (ks.take i)≤wL ks:=by
   have:=Ox (ks.take i) (ks.drop i)
   rw [List.take_append_drop] at this;omega
  have hl4:=Is (Ed x)
  have hl5:=(Nb x).2
  have hw':=hw
  simp only [wN] at hw'
  obtain ⟨hp,hne⟩:=hx x (List.mem_of_getElem? hxg)
  refine AK.db 1280 ?_
  refine Drv.ig i (by omega) (Al (l:=ks) hxg) ?_
  refine Bl hp ?_
  refine Drv.w (Ndo.append (res:=Ai (A4 (ks.take (i+1)))) rfl rfl rfl rfl rfl rfl rfl rfl rfl rfl rfl rfl rfl rfl (Ad _) (Ct _) (Ct _) (Abp _) (by rw [Ad];exact hne) ?_ ?_ rfl) ?_
  ·rw [Ad,Ad];simp only [wN] at hwx;omega
  ·rw [hsn,Aj,Aj,Aj,List.map_append]
  refine Drv.e ?_
  refine Drv.w (Ndo.store rfl rfl rfl rfl rfl rfl rfl) ?_
  refine Drv.z ?_
  refine IH (i+1) hlt (by omega) _ _ ⟨vsx (by omega),rfl,rfl,trivial⟩ ?_ rfl rfl
  simp [St.drop,Ad,hsn]
 ·have:i=ks.length:=by have:=of_decide_eq_false h;rw [Ad] at this;simp at this;omega
  subst this
  rw [List.take_length]
  exact AK.ret Tryz.func170 rfl rfl rfl rfl
theorem Rj (m:Int)(s:List UInt8)(ks:List Nd)(hw:wN (.mk 30 s m ks)≤1000000000)
 (hx:∀ x,x∈ks→Pure X 170 [nd x] (.sl (Ai (Ed x)) .no)∧Nat.ble 1 (Ed x).length=true) :
 Pure X 170 [nd (.mk 30 s m ks)] (.sl (Ai [.mk 30 s m (A4 ks)]) .no):=by
 have:=(Aba m s ks hw hx).pure
 rw [Aj [_]]
 exact this
theorem Lv {x:Nd}(h:FS x):Nat.ble 1 (Ed x).length=true:=by
 by_cases hk:x.kind=26
 ·cases h with
  | for_ s a b l h ha hb hl =>
    rw [Iw,Ao,Ao,Ao,Av,A1 (by have:=Bo ha;omega),A1 (by have:=Bo hb;omega),A1 (by simp),Az];rfl
  | _=>simp at hk
 ·rw [A1 hk];rfl
theorem Akh (x:Nd)(h:FS x)(hw:wN x≤1000000000):Pure X 170 [nd x] (.sl (Ai (Ed x)) .no):=by
 induction h with
 | set s a h ha =>
   rw [A1 (by simp),Az,E5 (by simp;have:=Bo ha;omega)]
   exact Ja 21 s 0 _ (by simp) (by simp) hw fun x hx=>by simp at hx;subst hx;exact .inr ⟨by have:=Bo ha;omega,Oj ha⟩
 | put s a b h ha hb =>
   rw [A1 (by simp),Az,E5 (by simp;have:=Bo ha;have:=Bo hb;omega)]
   refine Ja 22 s 0 _ (by simp) (by simp) hw fun x hx=>?_
   simp at hx
   rcases hx with rfl | rfl
   ·exact .inr ⟨by have:=Bo ha;omega,Oj ha⟩
   ·exact .inr ⟨by have:=Bo hb;omega,Oj hb⟩
 | read s h =>
   rw [A1 (by simp),Az,E5 (by simp)]
   exact Ja 23 s 0 _ (by simp) (by simp) hw fun x hx=>by cases hx
 | skip =>
   rw [A1 (by simp),Az,E5 (by simp)]
   exact Ja 28 [] 0 _ (by simp) (by simp) hw fun x hx=>by cases hx
 | stop =>
   rw [A1 (by simp),Az,E5 (by simp)]
   exact Ja 29 [] 0 _ (by simp) (by simp) hw fun x hx=>by cases hx
 | check c hc =>
   rw [A1 (by simp),Az,E5 (by simp;have:=Gk hc;omega)]
   exact Ja 27 [] 0 _ (by simp) (by simp) hw fun x hx=>by simp at hx;subst hx;exact .inr ⟨by have:=Gk hc;omega,Na hc⟩
 | whil c l hc hl ihl =>
   rw [A1 (by simp),Az,E5 (by simp;have:=Gk hc;omega)]
   simp [wN,wL] at hw
   refine Ja 25 [] 0 _ (by simp) (by simp) (by simp [wN,wL];omega) fun x hx=>?_
   simp at hx
   rcases hx with rfl | rfl
   ·exact .inr ⟨by have:=Gk hc;omega,Na hc⟩
   ·exact .inl ⟨rfl,by rw [Az];exact Rj 0 [] l (by simp [wN];omega) fun x hx=>⟨ihl x hx (by have:=K7 hx;omega),Lv (hl x hx)⟩⟩
 | ifs c l l' hc hl hl' ihl ihl' =>
   rw [A1 (by simp),Az,E5 (by simp;have:=Gk hc;omega)]
   simp [wN,wL] at hw
   refine Ja 24 [] 0 _ (by simp) (by simp) (by simp [wN,wL];omega) fun x hx=>?_
   simp at hx
   rcases hx with rfl | rfl | rfl
   ·exact .inr ⟨by have:=Gk hc;omega,Na hc⟩
   ·exact .inl ⟨rfl,by rw [Az];exact Rj 0 [] l (by simp [wN];omega) fun x hx=>⟨ihl x hx (by have:=K7 hx;omega),Lv (hl x hx)⟩⟩
   ·exact .inl ⟨rfl,by rw [Az];exact Rj 0 [] l' (by simp [wN];omega) fun x hx=>⟨ihl' x hx (by have:=K7 hx;omega),Lv (hl' x hx)⟩⟩
 | for_ s a b l h ha hb hl ihl =>
   simp [wN,wL] at hw
   have hB:=Aba 0 [] l (by simp [wN];omega) fun x hx=>⟨ihl x hx (by have:=K7 hx;omega),Lv (hl x hx)⟩
   have hl1:=Is (A4 l)
   have hl2:=Pi l
   rw [Iw,Ao,Ao,Ao,Av,A1 (by have:=Bo ha;omega),A1 (by have:=Bo hb;omega),A1 (by simp),Az,Oj ha,Oj hb]
   refine Pure.run Tryz.func170 ?_
   refine AK.no ?_
   refine AK.yes ?_
   refine AK.ix 2 (by omega) (Aoi a b _ []) ?_
   refine AK.hc (τ':=[0]) [] [] hB ?_
   refine AK.ix 0 (by omega) (rows:=[_]) rfl ?_
   refine AK.db 10240 ?_
   refine Bl (Akg s) ?_
   refine Bl Anp ?_
   refine Bl (Rk 6 (.mk 2 s 0 []) (.mk 1 [] 1 [])) ?_
   refine Bl (Apg s (.mk 6 [] 0 [.mk 2 s 0 [],.mk 1 [] 1 []])) ?_
   refine Drv.w (Ndo.append (res:=Ai (A4 l++[.mk 21 s 0 [.mk 6 [] 0 [.mk 2 s 0 [],.mk 1 [] 1 []]]])) rfl rfl rfl rfl rfl rfl rfl rfl rfl rfl rfl rfl rfl rfl (Ad _) (Ct _) rfl rfl rfl ?_ ?_ rfl) ?_
   ·rw [Ad];simp;omega
   ·simp [Aj]
   refine Drv.e ?_
   refine Drv.w (Ndo.store rfl rfl rfl rfl rfl rfl rfl) ?_
   refine Drv.z ?_
   refine AK.db 0 ?_
   refine Drv.ig 0 (by omega) (Pr a _) ?_
   refine Bl (Wa a (by omega)) ?_
   refine Bl (Apg s a) ?_
   refine Bl (Akg s) ?_
   refine Drv.ig 1 (by omega) (W8 a b _) ?_
   refine Bl (Wa b (by omega)) ?_
   refine Bl (Rk 11 (.mk 2 s 0 []) b) ?_
   refine Bl (Rk 25 (.mk 11 [] 0 [.mk 2 s 0 [],b]) (.mk 30 [] 0 (A4 l++[.mk 21 s 0 [.mk 6 [] 0 [.mk 2 s 0 [],.mk 1 [] 1 []]]]))) ?_
   refine Drv.z ?_
   refine AK.rz Tryz.func170 ?_
   show AV.sl _ _=AV.sl (Ai (Zg s [a,b,.mk 30 [] 0 (A4 l)])) _
   rw [Aj (Zg s _)];rfl
theorem Ux {ds l:List Nd}(hd:∀ x,x∈ds→FV x):Ap (.mk 40 [] 0 (ds++[.mk 30 [] 0 l]))=.mk 40 [] 0 (ds++[.mk 30 [] 0 (A4 l)]):=by
 rw [Az,Ol,Ao,Av,A1 (by simp),Az]
 congr 2
 rw [E5 fun x hx=>by have:=Uk (hd x hx);omega]
 have:ds.map Ap=ds:=by
  conv=>rhs;rw [← List.map_id ds]
  exact List.map_congr_left fun x hx=>Aq2 (hd x hx)
 rw [this]
theorem T8 (n:Nd)(h:FP n)(hw:wN n≤100000000):Pure X 113 [nd n] (nd (Ap n)):=by
 cases h with
 | mk ds l hd hl =>
 rw [Ux hd]
 have hkl:=D4 (.mk 40 [] 0 (ds++[.mk 30 [] 0 l]))
 simp only [Dq,List.length_append,List.length_singleton] at hkl
 have hwl:wN (.mk 30 [] 0 l)<wN (.mk 40 [] 0 (ds++[.mk 30 [] 0 l])):=F3 (n:=.mk 40 [] 0 (ds++[.mk 30 [] 0 l])) (by simp)
 have hwl':wN (.mk 30 [] 0 l)=1+wL l:=by simp [wN]
 have hN:((Ai (ds++[.mk 30 [] 0 l])).length:Int)=ds.length+1:=by rw [Ad];simp
 have hwr:IntKind.i64.wrap (((Ai (ds++[.mk 30 [] 0 l])).length:Int)-1)=ds.length:=by rw [hN,Ac (by omega) (by omega)];omega
 refine Pure.run Tryz.func113 ?_
 refine AK.mintB 2 0 3 rfl rfl rfl rfl rfl rfl ?_
 refine AK.while_ (ι:=Nat) 3 1 (fun i=>i≤ds.length) (fun i=>[(4,vi i),(1,.ptr 0 0 0),(2,.ptr 1 0 0),(3,.ptr 2 0 0)])
  (fun i=>⟨[[Ae (.mk 40 [] 0 (ds++[.mk 30 [] 0 l]))],[zN],[[vi 40,str [],vi 0,.sl (Ai (ds.take i)) (.tok 0)]]],[i]⟩) (fun i=>ds.length-i) ?_ 0
  (Nat.zero_le _) ⟨rfl,rfl,rfl,rfl,trivial⟩
 intro i hi IH
 have htl:(Ai (ds.take i)).length=i:=by rw [Ad];simp;omega
 refine AK.ei (fun h=>?_) (fun h=>?_)
 ·have hlt:i<ds.length:=by have:=of_decide_eq_true h;rw [Dq,hwr] at this;omega
  obtain ⟨x,hx⟩:=Ab ds hlt
  have hx':(ds++[Nd.mk 30 [] 0 l])[i]?=some x:=by rw [List.getElem?_append_left hlt];exact hx
  have hwx:wN x<wN (.mk 40 [] 0 (ds++[.mk 30 [] 0 l])):=F3 (n:=.mk 40 [] 0 (ds++[.mk 30 [] 0 l])) (List.mem_of_getElem? hx')
  refine AK.db 2560 ?_
  refine Drv.ig i (by omega) (Al hx') ?_
  refine Bl (Wa x (by omega)) ?_
  refine Drv.w (Ndo.append (res:=Ai (ds.take (i+1))) rfl rfl rfl rfl rfl rfl rfl rfl rfl rfl rfl rfl rfl rfl htl (Ct _) rfl rfl rfl ?_ ?_ rfl) ?_
  ·rw [htl];simp;omega
  ·simp [Aj,List.take_add_one,hx]
  refine Drv.e ?_
  refine Drv.w (Ndo.store rfl rfl rfl rfl rfl rfl rfl) ?_
  refine Drv.z ?_
  refine IH (i+1) hlt (by omega) _ _ ⟨vsx (by omega),rfl,rfl,rfl,trivial⟩ ?_ rfl rfl
  simp [St.drop,htl]
 ·have:i=ds.length:=by have:=of_decide_eq_false h;rw [Dq,hwr] at this;omega
  subst this
  rw [List.take_length] at htl ⊢
  have hlast:(Ai (ds++[Nd.mk 30 [] 0 l]))[(IntKind.i64.wrap (((Ai (ds++[.mk 30 [] 0 l])).length:Int)-1)).toNat]?=some (Ae (.mk 30 [] 0 l)):=by
   rw [hwr];exact Al (by simp)
  have hB:=Rj 0 [] l (by omega) fun x hx=>⟨Akh x (hl x hx) (by have:=K7 hx;omega),Lv (hl x hx)⟩
  refine AK.db 81920 ?_
  refine Drv.ig _ (by rw [hwr];omega) hlast ?_
  refine Bl hB ?_
  refine Drv.ig 0 (by omega) (Pr _ []) ?_
  refine Drv.w (Ndo.append (res:=Ai (ds++[.mk 30 [] 0 (A4 l)])) rfl rfl rfl rfl rfl rfl rfl rfl rfl rfl rfl rfl rfl rfl htl (Ct _) rfl rfl rfl ?_ ?_ rfl) ?_
  ·rw [htl];simp;omega
  ·rw [Aj (ds++_),Aj ds,List.map_append];rfl
  refine Drv.e ?_
  refine Drv.w (Ndo.store rfl rfl rfl rfl rfl rfl rfl) ?_
  refine Drv.z ?_
  refine AK.rz Tryz.func113 ?_
  rfl
def twG (pre:List (List UInt8)):List Nd→Option (List UInt8)
 | []=>none
 | d::l=>if has pre d.name then some d.name else twG (pre++[d.name]) l
def Od (n:Nd):Bool:=decide (8<(Ay n 31).length)||decide (4<(Ay n 32).length)
def bigS (l:List Nd):Bool:=l.any fun d=>decide (60<d.num)
def Ce (n:Nd):Nd:=n.kids.getLastD B2
def C7 (n:Nd):Int × List UInt8 :=
 if B7 n then
  (if Od n then (3,[]) else if bigS n.kids.dropLast then (3,[]) else
    match twG [] n.kids.dropLast with
    | some s=>(6,s)
    | none =>
      if (Et (Ay n 31) (Ay n 32) 7 (Ce n)).2 then (7,(Et (Ay n 31) (Ay n 32) 7 (Ce n)).1)
      else if (Et (Ay n 31) (Ay n 32) 8 (Ce n)).2 then (8,(Et (Ay n 31) (Ay n 32) 8 (Ce n)).1)
      else if B7 (Ap n) then (0,[]) else (5,[]))
 else (4,[])
theorem Nc {n:Nd}(h:B7 n=true):FP n∧Af n≤500∧B0 n≤24:=by
 simp only [B7,Nk,Bool.and_eq_true,decide_eq_true_eq,beq_iff_eq] at h
 exact ⟨Ao3 n h.1.2.2 h.1.1,h.1.2.1.1,h.1.2.1.2⟩
theorem Zr (a b:List (List UInt8))(s:List UInt8):has (a++b) s=(has a s||has b s):=by simp [has]
abbrev gC (v a:List (List UInt8)):Bs:=[(1,.ptr 0 0 0),(2,.ptr 1 0 0),(3,.sl (B4 v) .no),(4,.sl (B4 a) .no)]
theorem Anm (n:Nd)(hn:wN n≤100000000):Pure X 97 [nd n] (.agg [vi (C7 n).1,str (C7 n).2]):=by
 refine Pure.run Tryz.func97 ?_
 refine AK.pc (Abt n (by omega)) ?_
 refine AK.if_ (fun h1=>?_) (fun h1=>?_)
 ·have h1':B7 n=false:=by have:(!B7 n)=true:=h1;simpa using this
  refine AK.rz Tryz.func97 ?_
  simp only [C7];rw [if_neg (by simp [h1'])]
 have h1':B7 n=true:=by have:(!B7 n)=false:=h1;simpa using this
 obtain ⟨hP,hc,hdp⟩:=Nc h1'
 have hkl:=D4 n
 have hC:C7 n=(if Od n then (3,[]) else if bigS n.kids.dropLast then (3,[]) else
  match twG [] n.kids.dropLast with
  | some s=>(6,s)
  | none =>
    if (Et (Ay n 31) (Ay n 32) 7 (Ce n)).2 then (7,(Et (Ay n 31) (Ay n 32) 7 (Ce n)).1)
    else if (Et (Ay n 31) (Ay n 32) 8 (Ce n)).2 then (8,(Et (Ay n 31) (Ay n 32) 8 (Ce n)).1)
    else if B7 (Ap n) then (0,[]) else (5,[]):Int × List UInt8):=by simp only [C7];rw [if_pos h1']
 have hvl:(Ay n 31).length≤1000000000:=by have:=Sv n.kids.dropLast 31;simp [Ay] at this ⊢;omega
 have hal:(Ay n 32).length≤1000000000:=by have:=Sv n.kids.dropLast 32;simp [Ay] at this ⊢;omega
 refine AK.pc (M7 n 31 (by omega)) ?_
 refine AK.pc (M7 n 32 (by omega)) ?_
 generalize hv:Ay n 31=v at hC hvl ⊢
 generalize ha:Ay n 32=a at hC hal ⊢
 have hvs:((B4 v).length:Int)=v.length:=by rw [Dk]
 have has':((B4 a).length:Int)=a.length:=by rw [Dk]
 have hM:Od n=(decide (8<v.length)||decide (4<a.length)):=by simp only [Od,hv,ha]
 have hne:n.kids≠[]:=by cases hP;simp
 have hpos:0<n.kids.length:=List.length_pos_iff.2 hne
 have hw:IntKind.i64.wrap (((Ai n.kids).length:Int)-1)=((n.kids.length-1:Nat):Int):=by rw [Ad,Ac (by omega) (by omega)];omega
 have hgetD:∀ i,i<n.kids.length-1→∀ x,n.kids[i]?=some x→n.kids.dropLast[i]?=some x:=fun i hi x hx=>by
  rw [List.dropLast_eq_take,List.getElem?_take,if_pos hi];exact hx
 have hdl:n.kids.dropLast.length=n.kids.length-1:=by simp
 have h20:Od n=false→bigS n.kids.dropLast=false→twG [] n.kids.dropLast=none→AK X ⟨97,Tryz.f97,0,0⟩ (Js false 20 Tryz.f97) (gC v a) ⟨[[Ae n],[[vi 0,str []]]],[]⟩
  (fun e S=>e=.ret (.agg [vi (C7 n).1,str (C7 n).2])∧S=⟨[],[]⟩):=fun g1 g2 g3=>by
  rw [hC,if_neg (by simp [g1]),if_neg (by simp [g2]),g3]
  simp only
  have hl:n.kids[n.kids.length-1]?=some (Ce n):=by
   simp only [Ce]
   cases hk:n.kids with
   | nil=>exact absurd hk hne
   | cons y l=>rw [List.getLastD_eq_getLast?,List.getLast?_eq_getElem?];simp
  have hlast:(Ai n.kids)[(IntKind.i64.wrap (((Ai n.kids).length:Int)-1)).toNat]?=some (Ae (Ce n)):=by
   rw [hw]
   exact Al (by simpa using hl)
  have hwl:wN (Ce n)≤100000000:=by
   have:=F3 (List.mem_of_getElem? hl);omega
  refine AK.at_ ?_
  refine AK.ev 100 rfl ?_
  refine AK.ix _ (by rw [hw];omega) hlast ?_
  refine AK.pc (Afn v a 7 (.inl rfl) hvl hal (Ce n) (by omega)) ?_
  refine AK.if_ (fun h2=>?_) (fun h2=>?_)
  ·have h2':(Et v a 7 (Ce n)).2=true:=h2
   rw [if_pos h2']
   refine AK.rz Tryz.func97 ?_
   rfl
  have h2':(Et v a 7 (Ce n)).2=false:=h2
  rw [if_neg (by simp [h2'])]
  refine AK.pc (Afn v a 8 (.inr rfl) hvl hal (Ce n) (by omega)) ?_
  refine AK.if_ (fun h3=>?_) (fun h3=>?_)
  ·have h3':(Et v a 8 (Ce n)).2=true:=h3
   rw [if_pos h3']
   refine AK.rz Tryz.func97 ?_
   rfl
  have h3':(Et v a 8 (Ce n)).2=false:=h3
  rw [if_neg (by simp [h3'])]
  refine AK.pc (T8 n hP hn) ?_
  refine AK.pc (Abt (Ap n) (by have:=(Nb n).1;omega)) ?_
  refine AK.if_ (fun h4=>?_) (fun h4=>?_)
  ·have h4':B7 (Ap n)=false:=by have:(!B7 (Ap n))=true:=h4;simpa using this
   rw [if_neg (by simp [h4'])]
   refine AK.rz Tryz.func97 ?_
   rfl
  ·have h4':B7 (Ap n)=true:=by have:(!B7 (Ap n))=false:=h4;simpa using this
   rw [if_pos h4']
   refine AK.rz Tryz.func97 ?_
   rfl
 have h12:Od n=false→bigS n.kids.dropLast=false→AK X ⟨97,Tryz.f97,0,0⟩ (Js false 12 Tryz.f97) (gC v a) ⟨[[Ae n],[[vi 0,str []]]],[]⟩
  (fun e S=>e=.ret (.agg [vi (C7 n).1,str (C7 n).2])∧S=⟨[],[]⟩):=fun g1 g2=>by
  refine AK.at_ ?_
  refine AK.ev 100 rfl ?_
  refine AK.while_ (ι:=Nat) 2 0 (fun i=>i≤n.kids.length-1∧twG [] n.kids.dropLast=twG ((n.kids.dropLast.take i).map Nd.name) (n.kids.dropLast.drop i)) (fun i=>(6,vi i)::gC v a) (fun _=>⟨[[Ae n],[[vi 0,str []]]],[]⟩)
   (fun i=>n.kids.length-i) ?_ 0 ⟨Nat.zero_le _,by simp⟩ ⟨rfl,rfl,rfl,rfl,rfl,trivial⟩
  rintro i ⟨hi,hT⟩ IH
  refine AK.ev 100 rfl ?_
  refine AK.ifj 0 20 (fun h=>?_) (fun h=>?_)
  ·have hlt:i<n.kids.length-1:=by have:=of_decide_eq_true h;rw [hw] at this;omega
   obtain ⟨x,hx⟩:=Ab n.kids (i:=i) (by omega)
   have hx':=hgetD i hlt x hx
   have hd:twG ((n.kids.dropLast.take i).map Nd.name) (n.kids.dropLast.drop i)=if has ((n.kids.dropLast.take i).map Nd.name) x.name then some x.name else twG ((n.kids.dropLast.take (i+1)).map Nd.name) (n.kids.dropLast.drop (i+1)):=by
    rw [Ba hx'];simp only [twG]
    rw [show (n.kids.dropLast.take (i+1)).map Nd.name=(n.kids.dropLast.take i).map Nd.name++[x.name] by rw [List.take_add_one,hx'];simp]
   rw [hd] at hT
   refine AK.ev 100 rfl ?_
   refine AK.while_ (ι:=Nat) 2 0 (fun k=>k≤i∧has ((n.kids.dropLast.take k).map Nd.name) x.name=false) (fun k=>(7,vi k)::(6,vi i)::gC v a) (fun _=>⟨[[Ae n],[[vi 0,str []]]],[]⟩)
    (fun k=>i-k) ?_ 0 ⟨Nat.zero_le _,by simp [has]⟩ ⟨rfl,rfl,rfl,rfl,rfl,rfl,trivial⟩
   rintro k ⟨hk,hno⟩ IH2
   refine AK.ei (fun h2=>?_) (fun h2=>?_)
   ·have hkl':k<i:=by have:=of_decide_eq_true h2;omega
    obtain ⟨y,hy⟩:=Ab n.kids (i:=k) (by omega)
    have hy':=hgetD k (by omega) y hy
    have hsn:has ((n.kids.dropLast.take (k+1)).map Nd.name) x.name=(y.name==x.name):=by
     rw [show (n.kids.dropLast.take (k+1)).map Nd.name=(n.kids.dropLast.take k).map Nd.name++[y.name] by rw [List.take_add_one,hy'];simp,Zr,hno]
     simp [has]
    refine AK.db 0 ?_
    refine Drv.ig k (by omega) (Al hy) ?_
    refine Drv.ig i (by omega) (Al hx) ?_
    refine Drv.z ?_
    refine AK.if_ (fun h3=>?_) (fun h3=>?_)
    ·have h3':(y.name==x.name)=true:=h3
     have hin:has ((n.kids.dropLast.take i).map Nd.name) x.name=true:=by
      have e:n.kids.dropLast.take i=n.kids.dropLast.take (k+1)++(n.kids.dropLast.take i).drop (k+1):=by
       conv=>lhs;rw [← List.take_append_drop (k+1) (n.kids.dropLast.take i)]
       rw [List.take_take,Nat.min_eq_left (by omega)]
      rw [e,List.map_append,Zr,hsn,h3'];rfl
     rw [if_pos hin] at hT
     refine AK.ix i (by omega) (Al hx) ?_
     refine AK.rz Tryz.func97 ?_
     rw [hC,if_neg (by simp [g1]),if_neg (by simp [g2]),hT]
    ·have h3':(y.name==x.name)=false:=h3
     exact IH2 (k+1) ⟨hkl',by rw [hsn,h3']⟩ (by omega) _ _ ⟨vsx (by omega),rfl,rfl,rfl,rfl,rfl,trivial⟩ rfl rfl rfl
   ·have:k=i:=by have:=of_decide_eq_false h2;omega
    subst this
    rw [if_neg (by rw [hno];simp)] at hT
    exact IH (k+1) ⟨by omega,hT⟩ (by omega) _ _ ⟨vsx (by omega),rfl,rfl,rfl,rfl,trivial⟩ rfl rfl rfl
  ·have:i=n.kids.length-1:=by have:=of_decide_eq_false h;rw [hw] at this;omega
   rw [this,← hdl,List.drop_length,List.take_length] at hT
   exact AK.back' 2 0 (h20 g1 g2 (by rw [hT];rfl)) ⟨rfl,rfl,rfl,rfl,trivial⟩ rfl rfl rfl rfl rfl
 have h7:Od n=false→AK X ⟨97,Tryz.f97,0,0⟩ (Js false 7 Tryz.f97) (gC v a) ⟨[[Ae n],[[vi 0,str []]]],[]⟩
  (fun e S=>e=.ret (.agg [vi (C7 n).1,str (C7 n).2])∧S=⟨[],[]⟩):=fun g1=>by
  refine AK.at_ ?_
  refine AK.ev 100 rfl ?_
  refine AK.while_ (ι:=Nat) 2 0 (fun i=>i≤n.kids.length-1∧bigS n.kids.dropLast=bigS (n.kids.dropLast.drop i)) (fun i=>(5,vi i)::gC v a) (fun _=>⟨[[Ae n],[[vi 0,str []]]],[]⟩)
   (fun i=>n.kids.length-i) ?_ 0 ⟨Nat.zero_le _,by simp⟩ ⟨rfl,rfl,rfl,rfl,rfl,trivial⟩
  rintro i ⟨hi,hT⟩ IH
  refine AK.ev 100 rfl ?_
  refine AK.ifj 0 12 (fun h=>?_) (fun h=>?_)
  ·have hlt:i<n.kids.length-1:=by have:=of_decide_eq_true h;rw [hw] at this;omega
   obtain ⟨x,hx⟩:=Ab n.kids (i:=i) (by omega)
   have hx':=hgetD i hlt x hx
   have hd:bigS (n.kids.dropLast.drop i)=(decide (60<x.num)||bigS (n.kids.dropLast.drop (i+1))):=by rw [Ba hx'];rfl
   rw [hd] at hT
   refine AK.ev 100 rfl ?_
   refine AK.ix i (by omega) (Al hx) ?_
   refine AK.if_ (fun h2=>?_) (fun h2=>?_)
   ·have h2':decide (60<x.num)=true:=by simpa using of_decide_eq_true h2
    refine AK.rz Tryz.func97 ?_
    rw [hC,if_neg (by simp [g1]),if_pos (by rw [hT,h2'];rfl)]
   ·have h2':decide (60<x.num)=false:=by simpa using of_decide_eq_false h2
    exact IH (i+1) ⟨by omega,by rw [hT,h2'];rfl⟩ (by omega) _ _ ⟨vsx (by omega),rfl,rfl,rfl,rfl,trivial⟩ rfl rfl rfl
  ·have:i=n.kids.length-1:=by have:=of_decide_eq_false h;rw [hw] at this;omega
   rw [this,← hdl,List.drop_length] at hT
   exact AK.back' 2 0 (h12 g1 (by rw [hT];rfl)) ⟨rfl,rfl,rfl,rfl,trivial⟩ rfl rfl rfl rfl rfl
 refine AK.gd (fun h2=>?_) (fun h2=>?_)
 ·have h2':decide (8<v.length)=true:=by have:=of_decide_eq_true h2;rw [hvs] at this;simp;omega
  refine AK.yes ?_
  refine AK.rz Tryz.func97 ?_
  rw [hC,if_pos (by rw [hM,h2'];rfl)]
 ·have h2':decide (8<v.length)=false:=by have:=of_decide_eq_false h2;rw [hvs] at this;simp;omega
  refine AK.ifj 0 7 (fun h3=>?_) (fun h3=>?_)
  ·have h3':decide (4<a.length)=true:=by have:=of_decide_eq_true h3;rw [has'] at this;simp;omega
   refine AK.ev 100 rfl ?_
   refine AK.rz Tryz.func97 ?_
   rw [hC,if_pos (by rw [hM,h2',h3'];rfl)]
  ·have h3':decide (4<a.length)=false:=by have:=of_decide_eq_false h3;rw [has'] at this;simp;omega
   exact AK.back' 2 0 (h7 (by rw [hM,h2',h3'];rfl)) ⟨rfl,rfl,rfl,rfl,trivial⟩ rfl rfl rfl rfl rfl
def Ib (n:Nd):Bool:=(C7 n).1==0
theorem Ans (n:Nd)(hn:wN n≤100000000):Pure X 47 [nd n] (vb (Ib n)):=by
 refine Pure.run Tryz.func47 ?_
 refine AK.pc (Anm n hn) ?_
 exact AK.rt Tryz.func47 rfl
end Go.V
namespace Go.V
open Go
section
variable {X:Cx}{S:St}{F:Bs}{N:Nat}{ops:Array Oper}{i:Nat}{o:Oper}{p q:Operand}{t t':TypeId}
theorem Age (hu:X.P.underlying t=some (.interface (X.P.methodsAt t)))(ho:ops[i]?=some o:=by rfl)(hw:As ops F o=some true:=by rfl)(hop:o.op=.binOp .eql t p (.const .nilIface) t':=by rfl)
 (hp:Cg X F p=some (.val .nilIface):=by rfl):Ndo X N ops i o F (.val (.bool true)) S S:=by
 refine Ndo.val ho hw fun F' E w a hc hI hF=>?_
 rw [hop] at hc
 have r1:=Ah hI hF ((hc p (by simp [Op.operands])).trans hp)
 generalize hx:a.eval p=x at r1
 cases r1
 exact ⟨.bool true,by simp [execOp,hop,hx,show a.eval (.const .nilIface)=.nilIface from rfl,eqGuard,run_eql_nil_nil w t hu],.val _⟩
theorem Vb (hu:X.P.underlying t=some (.interface (X.P.methodsAt t)))(ho:ops[i]?=some o:=by rfl)(hw:As ops F o=some true:=by rfl)(hop:o.op=.binOp .eql t p (.const .nilIface) t':=by rfl)
 (hp:Cg X F p=some .err:=by rfl):Ndo X N ops i o F (.val (.bool false)) S S:=by
 refine Ndo.val ho hw fun F' E w a hc hI hF=>?_
 rw [hop] at hc
 have r1:=Ah hI hF ((hc p (by simp [Op.operands])).trans hp)
 generalize hx:a.eval p=x at r1
 cases r1
 exact ⟨.bool false,by simp [execOp,hop,hx,show a.eval (.const .nilIface)=.nilIface from rfl,eqGuard,run_eql_held_nil w t _ _ hu],.val _⟩
end
end Go.V
namespace Go.Proofs
open Go.Shelf
def Qq:Go.Shelf.Ren:=⟨fun | 172=>365 | 244=>375 | 245=>376 | 247=>381 | 279=>382 | 280=>383 | 281=>384 | 282=>385 | 287=>390 | 316=>391 | 171=>295 | 205=>392 | 321=>395 | 322=>396 | 243=>313 | 246=>332 | 283=>355 | 284=>356 | 285=>357 | 286=>358 | 129=>370 | 317=>369 | 318=>371 | 319=>372 | 320=>373 | 337=>379 | 338=>380 | n=>n,fun | 9=>9 | 3=>3 | 75=>340 | 76=>341 | 4=>4 | 5=>5 | 167=>381 | 37=>159 | 0=>0 | 85=>382 | 2=>2 | 168=>384 | 53=>361 | 175=>390 | 46=>351 | 210=>394 | 127=>330 | 145=>400 | 143=>398 | 21=>21 | 171=>360 | 173=>364 | 212=>375 | 51=>368 | 20=>20 | 213=>376 | 232=>388 | 233=>389 | 80=>314 | n=>n,fun | 15=>6 | 16=>7 | 17=>2 | 18=>4 | 19=>5 | n=>n⟩
theorem Ky:Go.Proofs.LaysC.n172 Tryz.prog Qq:={
 mixed:=by kernel_rfl,
 f129:=Tryz.func370.trans (congrArg some (by kernel_rfl)),
 f171:=Tryz.func295.trans (congrArg some (by kernel_rfl)),
 f172:=Tryz.func365.trans (congrArg some (by kernel_rfl)),
 f205:=Tryz.func392.trans (congrArg some (by kernel_rfl)),
 f243:=Tryz.func313.trans (congrArg some (by kernel_rfl)),
 f244:=Tryz.func375.trans (congrArg some (by kernel_rfl)),
 f245:=Tryz.func376.trans (congrArg some (by kernel_rfl)),
 f246:=Tryz.func332.trans (congrArg some (by kernel_rfl)),
 f247:=Tryz.func381.trans (congrArg some (by kernel_rfl)),
 f279:=Tryz.func382.trans (congrArg some (by kernel_rfl)),
 f280:=Tryz.func383.trans (congrArg some (by kernel_rfl)),
 f281:=Tryz.func384.trans (congrArg some (by kernel_rfl)),
 f282:=Tryz.func385.trans (congrArg some (by kernel_rfl)),
 f283:=Tryz.func355.trans (congrArg some (by kernel_rfl)),
 f284:=Tryz.func356.trans (congrArg some (by kernel_rfl)),
 f285:=Tryz.func357.trans (congrArg some (by kernel_rfl)),
 f286:=Tryz.func358.trans (congrArg some (by kernel_rfl)),
 f287:=Tryz.func390.trans (congrArg some (by kernel_rfl)),
 f316:=Tryz.func391.trans (congrArg some (by kernel_rfl)),
 f317:=Tryz.func369.trans (congrArg some (by kernel_rfl)),
 f318:=Tryz.func371.trans (congrArg some (by kernel_rfl)),
 f319:=Tryz.func372.trans (congrArg some (by kernel_rfl)),
 f320:=Tryz.func373.trans (congrArg some (by kernel_rfl)),
 f321:=Tryz.func395.trans (congrArg some (by kernel_rfl)),
 f322:=Tryz.func396.trans (congrArg some (by kernel_rfl)),
 f337:=Tryz.func379.trans (congrArg some (by kernel_rfl)),
 f338:=Tryz.func380.trans (congrArg some (by kernel_rfl)),
 t0:=Tryz.underlying0,
 a0:=Tryz.isAgg0,
 z0:=Tryz.sizeOf0,
 v0:=Tryz.zeroValue0,
 t2:=Tryz.underlying2,
 a2:=Tryz.isAgg2,
 z2:=Tryz.sizeOf2,
 v2:=Tryz.zeroValue2,
 t3:=Tryz.underlying3,
 a3:=Tryz.isAgg3,
 z3:=Tryz.sizeOf3,
 v3:=Tryz.zeroValue3,
 t4:=Tryz.underlying4,
 a4:=Tryz.isAgg4,
 z4:=Tryz.sizeOf4,
 v4:=Tryz.zeroValue4,
 t5:=Tryz.underlying5,
 a5:=Tryz.isAgg5,
 z5:=Tryz.sizeOf5,
 v5:=Tryz.zeroValue5,
 t9:=Tryz.underlying9,
 a9:=Tryz.isAgg9,
 z9:=Tryz.sizeOf9,
 v9:=Tryz.zeroValue9,
 t20:=Tryz.underlying20,
 a20:=Tryz.isAgg20,
 z20:=Tryz.sizeOf20,
 v20:=Tryz.zeroValue20,
 t21:=Tryz.underlying21,
 a21:=Tryz.isAgg21,
 z21:=Tryz.sizeOf21,
 v21:=Tryz.zeroValue21,
 t37:=Tryz.underlying159,
 a37:=Tryz.isAgg159,
 z37:=Tryz.sizeOf159,
 v37:=Tryz.zeroValue159,
 t46:=Tryz.underlying351,
 a46:=Tryz.isAgg351,
 z46:=Tryz.sizeOf351,
 v46:=Tryz.zeroValue351,
 t51:=Tryz.underlying368,
 a51:=Tryz.isAgg368,
 z51:=Tryz.sizeOf368,
 v51:=Tryz.zeroValue368,
 t53:=Tryz.underlying361,
 a53:=Tryz.isAgg361,
 z53:=Tryz.sizeOf361,
 v53:=Tryz.zeroValue361,
 t75:=Tryz.underlying340,
 a75:=Tryz.isAgg340,
 z75:=Tryz.sizeOf340,
 v75:=Tryz.zeroValue340,
 t76:=Tryz.underlying341,
 a76:=Tryz.isAgg341,
 z76:=Tryz.sizeOf341,
 v76:=Tryz.zeroValue341,
 t85:=Tryz.underlying382,
 a85:=Tryz.isAgg382,
 z85:=Tryz.sizeOf382,
 v85:=Tryz.zeroValue382,
 t127:=Tryz.underlying330,
 a127:=Tryz.isAgg330,
 z127:=Tryz.sizeOf330,
 v127:=Tryz.zeroValue330,
 t143:=Tryz.underlying398,
 a143:=Tryz.isAgg398,
 z143:=Tryz.sizeOf398,
 v143:=Tryz.zeroValue398,
 t145:=Tryz.underlying400,
 a145:=Tryz.isAgg400,
 z145:=Tryz.sizeOf400,
 v145:=Tryz.zeroValue400,
 t167:=Tryz.underlying381,
 a167:=Tryz.isAgg381,
 z167:=Tryz.sizeOf381,
 v167:=Tryz.zeroValue381,
 t168:=Tryz.underlying384,
 a168:=Tryz.isAgg384,
 z168:=Tryz.sizeOf384,
 v168:=Tryz.zeroValue384,
 t171:=Tryz.underlying360,
 a171:=Tryz.isAgg360,
 z171:=Tryz.sizeOf360,
 v171:=Tryz.zeroValue360,
 t173:=Tryz.underlying364,
 a173:=Tryz.isAgg364,
 z173:=Tryz.sizeOf364,
 v173:=Tryz.zeroValue364,
 t175:=Tryz.underlying390,
 a175:=Tryz.isAgg390,
 z175:=Tryz.sizeOf390,
 v175:=Tryz.zeroValue390,
 t210:=Tryz.underlying394,
 a210:=Tryz.isAgg394,
 z210:=Tryz.sizeOf394,
 v210:=Tryz.zeroValue394,
 t212:=Tryz.underlying375,
 a212:=Tryz.isAgg375,
 z212:=Tryz.sizeOf375,
 v212:=Tryz.zeroValue375,
 t213:=Tryz.underlying376,
 a213:=Tryz.isAgg376,
 z213:=Tryz.sizeOf376,
 t232:=Tryz.underlying388,
 a232:=Tryz.isAgg388,
 z232:=Tryz.sizeOf388,
 v232:=Tryz.zeroValue388,
 t233:=Tryz.underlying389,
 a233:=Tryz.isAgg389,
 z233:=Tryz.sizeOf389,
 v233:=Tryz.zeroValue389,
 g15:=by kernel_rfl,
 g16:=by kernel_rfl,
 g17:=by kernel_rfl,
 g18:=by kernel_rfl,
 g19:=by kernel_rfl,
 t80:=Tryz.underlying314,
 a80:=Tryz.isAgg314,
 z80:=Tryz.sizeOf314,
 v80:=Tryz.zeroValue314,
 i0:=by kernel_rfl,
 i2:=by kernel_rfl,
 i3:=by kernel_rfl,
 i4:=by kernel_rfl,
 i5:=by kernel_rfl,
 i9:=by kernel_rfl,
 i20:=by kernel_rfl,
 i21:=by kernel_rfl,
 i37:=by kernel_rfl,
 i46:=by kernel_rfl,
 i51:=by kernel_rfl,
 i53:=by kernel_rfl,
 i75:=by kernel_rfl,
 i76:=by kernel_rfl,
 i80:=by kernel_rfl,
 i85:=by kernel_rfl,
 i127:=by kernel_rfl,
 i143:=by kernel_rfl,
 i145:=by kernel_rfl,
 i167:=by kernel_rfl,
 i168:=by kernel_rfl,
 i171:=by kernel_rfl,
 i173:=by kernel_rfl,
 i175:=by kernel_rfl,
 i210:=by kernel_rfl,
 i212:=by kernel_rfl,
 i232:=by kernel_rfl,
 i233:=by kernel_rfl,
 m15:=by kernel_rfl,
 m16:=by kernel_rfl,
 m17:=by kernel_rfl,
 m18:=by kernel_rfl,
 m19:=by kernel_rfl,
 c0:=by kernel_rfl,
 c2:=by kernel_rfl,
 c3:=by kernel_rfl,
 c4:=by kernel_rfl,
 c5:=by kernel_rfl,
 c9:=by kernel_rfl,
 c20:=by kernel_rfl,
 c21:=by kernel_rfl,
 c37:=by kernel_rfl,
 c46:=by kernel_rfl,
 c51:=by kernel_rfl,
 c53:=by kernel_rfl,
 c75:=by kernel_rfl,
 c76:=by kernel_rfl,
 c80:=by kernel_rfl,
 c85:=by kernel_rfl,
 c127:=by kernel_rfl,
 c143:=by kernel_rfl,
 c145:=by kernel_rfl,
 c167:=by kernel_rfl,
 c168:=by kernel_rfl,
 c171:=by kernel_rfl,
 c173:=by kernel_rfl,
 c175:=by kernel_rfl,
 c210:=by kernel_rfl,
 c212:=by kernel_rfl,
 c213:=by kernel_rfl,
 c232:=by kernel_rfl,
 c233:=by kernel_rfl }
def Qr:Go.Shelf.Ren:=⟨fun | 171=>295 | 243=>313 | 246=>332 | 283=>355 | 284=>356 | 285=>357 | 286=>358 | 129=>370 | 317=>369 | 318=>371 | 319=>372 | 320=>373 | 337=>379 | 338=>380 | n=>n,fun | 3=>3 | 9=>9 | 2=>2 | 4=>4 | 171=>360 | 0=>0 | 53=>361 | 37=>159 | 5=>5 | 173=>364 | 212=>375 | 51=>368 | 20=>20 | 213=>376 | 46=>351 | 232=>388 | 233=>389 | n=>n,fun | 17=>2 | 18=>4 | 19=>5 | n=>n⟩
theorem Wy:Go.Proofs.LaysM.n171 Tryz.prog Qr:={
 mixed:=by kernel_rfl,
 f129:=Tryz.func370.trans (congrArg some (by kernel_rfl)),
 f171:=Tryz.func295.trans (congrArg some (by kernel_rfl)),
 f243:=Tryz.func313.trans (congrArg some (by kernel_rfl)),
 f246:=Tryz.func332.trans (congrArg some (by kernel_rfl)),
 f283:=Tryz.func355.trans (congrArg some (by kernel_rfl)),
 f284:=Tryz.func356.trans (congrArg some (by kernel_rfl)),
 f285:=Tryz.func357.trans (congrArg some (by kernel_rfl)),
 f286:=Tryz.func358.trans (congrArg some (by kernel_rfl)),
 f317:=Tryz.func369.trans (congrArg some (by kernel_rfl)),
 f318:=Tryz.func371.trans (congrArg some (by kernel_rfl)),
 f319:=Tryz.func372.trans (congrArg some (by kernel_rfl)),
 f320:=Tryz.func373.trans (congrArg some (by kernel_rfl)),
 f337:=Tryz.func379.trans (congrArg some (by kernel_rfl)),
 f338:=Tryz.func380.trans (congrArg some (by kernel_rfl)),
 t0:=Tryz.underlying0,
 a0:=Tryz.isAgg0,
 z0:=Tryz.sizeOf0,
 v0:=Tryz.zeroValue0,
 t2:=Tryz.underlying2,
 a2:=Tryz.isAgg2,
 z2:=Tryz.sizeOf2,
 v2:=Tryz.zeroValue2,
 t3:=Tryz.underlying3,
 a3:=Tryz.isAgg3,
 z3:=Tryz.sizeOf3,
 v3:=Tryz.zeroValue3,
 t4:=Tryz.underlying4,
 a4:=Tryz.isAgg4,
 z4:=Tryz.sizeOf4,
 v4:=Tryz.zeroValue4,
 t5:=Tryz.underlying5,
 a5:=Tryz.isAgg5,
 z5:=Tryz.sizeOf5,
 v5:=Tryz.zeroValue5,
 t9:=Tryz.underlying9,
 a9:=Tryz.isAgg9,
 z9:=Tryz.sizeOf9,
 v9:=Tryz.zeroValue9,
 t20:=Tryz.underlying20,
 a20:=Tryz.isAgg20,
 z20:=Tryz.sizeOf20,
 v20:=Tryz.zeroValue20,
 t37:=Tryz.underlying159,
 a37:=Tryz.isAgg159,
 z37:=Tryz.sizeOf159,
 v37:=Tryz.zeroValue159,
 t46:=Tryz.underlying351,
 a46:=Tryz.isAgg351,
 z46:=Tryz.sizeOf351,
 v46:=Tryz.zeroValue351,
 t51:=Tryz.underlying368,
 a51:=Tryz.isAgg368,
 z51:=Tryz.sizeOf368,
 v51:=Tryz.zeroValue368,
 t53:=Tryz.underlying361,
 a53:=Tryz.isAgg361,
 z53:=Tryz.sizeOf361,
 v53:=Tryz.zeroValue361,
 t171:=Tryz.underlying360,
 a171:=Tryz.isAgg360,
 z171:=Tryz.sizeOf360,
 v171:=Tryz.zeroValue360,
 t173:=Tryz.underlying364,
 a173:=Tryz.isAgg364,
 z173:=Tryz.sizeOf364,
 v173:=Tryz.zeroValue364,
 t212:=Tryz.underlying375,
 a212:=Tryz.isAgg375,
 z212:=Tryz.sizeOf375,
 v212:=Tryz.zeroValue375,
 t213:=Tryz.underlying376,
 a213:=Tryz.isAgg376,
 z213:=Tryz.sizeOf376,
 t232:=Tryz.underlying388,
 a232:=Tryz.isAgg388,
 z232:=Tryz.sizeOf388,
 v232:=Tryz.zeroValue388,
 t233:=Tryz.underlying389,
 a233:=Tryz.isAgg389,
 z233:=Tryz.sizeOf389,
 v233:=Tryz.zeroValue389,
 g17:=by kernel_rfl,
 g18:=by kernel_rfl,
 g19:=by kernel_rfl,
 i0:=by kernel_rfl,
 i2:=by kernel_rfl,
 i3:=by kernel_rfl,
 i4:=by kernel_rfl,
 i5:=by kernel_rfl,
 i9:=by kernel_rfl,
 i20:=by kernel_rfl,
 i37:=by kernel_rfl,
 i46:=by kernel_rfl,
 i51:=by kernel_rfl,
 i53:=by kernel_rfl,
 i171:=by kernel_rfl,
 i173:=by kernel_rfl,
 i212:=by kernel_rfl,
 i232:=by kernel_rfl,
 i233:=by kernel_rfl,
 m17:=by kernel_rfl,
 m18:=by kernel_rfl,
 m19:=by kernel_rfl }
end Go.Proofs
namespace Go.V
open Go Go.Proofs
theorem Adq (n:Int)(h0:-9223372036854775808≤n)(h1:n≤9223372036854775807):Pure X 295 [vi n] (str (Lib.itoa n)):=by
 refine Pt (vs:=[.int .i64 n]) ⟨_,Tryz.func295,by kernel_rfl,by rfl⟩ rfl fun w hw=>?_
 obtain ⟨e,z,ht⟩:=hw.tab
 have hg:(X.P.globalNamed "internal/strconv.uint64pow10")=some 2:=by kernel_rfl
 have htab:Lib.TabIs X.P w "internal/strconv.uint64pow10" .u64 Lib.pow10Tab:=by
  unfold Lib.TabIs World.var?
  rw [hg];simp [ht]
 have h:=Any.strconv_Itoa Wy n h0 h1 w htab
 refine h.mono fun e w' he=>?_
 obtain ⟨rfl,k,os,rfl⟩:=he
 refine ⟨⟨_,rfl,fun E w=>.val _⟩,rfl,rfl,rfl,?_,fun j hj=>?_⟩
 ·simp [Sort.grow,World.drewN]
 ·simp only [Sort.grow,World.drewN]
  rw [Array.getElem?_append_left hj]
def J9 (s:List UInt8):Int:=match Lib.atoiAll s with
 | .ok v=>v
 | .range=>Lib.atoiSat s
 | _=>0
def Vf (s:List UInt8):AV:=match Lib.atoiAll s with
 | .ok _=>.val .nilIface
 | _=>.err
theorem Aqy (s:List UInt8)(hs:s.length≤1000000000):Pure X 365 [str s] (.tup [vi (J9 s),Vf s]):=by
 refine Pt (vs:=[.string ⟨⟨s⟩⟩]) ⟨_,Tryz.func365,by kernel_rfl,by rfl⟩ rfl fun w hw=>?_
 have hsz:(⟨⟨s⟩⟩:ByteArray).size=s.length:=rfl
 have tup:∀ (a b:Value) (x:AV),(∀ E w,Rel E w b x)→∀ E w,Rel E w (.tuple #[a,b]) (.tup [.val a,x]):=fun a b x h E w=>by
  refine .tup _ _ rfl fun j v y hv hy=>?_
  match j with
  | 0=>simp at hv hy;subst hv;subst hy;exact .val _
  | 1=>simp at hv hy;subst hv;subst hy;exact h E w
  | j+2=>simp at hy
 cases h:Lib.atoiAll s with
 | ok v =>
   have hc:=Any.strconv_Atoi_ok Ky ⟨⟨s⟩⟩ (by rw [hsz];omega) v h w
   refine hc.mono fun e w' he=>?_
   obtain ⟨rfl,hw'⟩:=he
   refine ⟨⟨_,rfl,?_⟩,?_⟩
   ·simp only [J9,Vf,h];exact tup _ _ _ fun E w=>.val _
   ·rcases hw' with rfl | ⟨t,rfl⟩
    ·exact RowKit.Below.refl _ _
    ·exact Lib.bytesWorld_below _ _ _
 | range =>
   obtain ⟨ev,h1,h2⟩:=hw.rng
   have hc:=Any.strconv_Atoi_range Ky ⟨⟨s⟩⟩ (by rw [hsz];omega) h ev w h1 h2
   refine hc.mono fun e w' he=>?_
   obtain ⟨N,rfl,_,_,hb⟩:=he
   refine ⟨⟨_,rfl,?_⟩,hb⟩
   simp only [J9,Vf,h];exact tup _ _ _ fun E w=>.err _ _
 | _ =>
   obtain ⟨ev,h1,h2⟩:=hw.syn
   have hc:=Any.strconv_Atoi_syntax Ky ⟨⟨s⟩⟩ (by rw [hsz];omega) h ev w h1 h2
   refine hc.mono fun e w' he=>?_
   obtain ⟨N,rfl,_,_,hb⟩:=he
   refine ⟨⟨_,rfl,?_⟩,hb⟩
   simp only [J9,Vf,h];exact tup _ _ _ fun E w=>.err _ _
def N1 (l:List UInt8):Bool:=l.all digit
def Ki (n:Nat)(l:List UInt8):Nat:=l.foldl (fun a c=>10*a+(c.toNat-48)) n
theorem Ao0 (l:List UInt8):∀ n,n≤Ki n l:=by
 induction l with
 | nil=>intro n;simp [Ki]
 | cons c l ih=>intro n;have:=ih (10*n+(c.toNat-48));simp only [Ki,List.foldl_cons] at this ⊢;omega
theorem Hq {c:UInt8}(h:digit c=true):48≤c.toNat∧c.toNat≤57:=by have:=Tx h;omega
theorem Sy:∀ (l:List UInt8)(n:Nat),Lu n l=if N1 l then (if Ki n l > 1000000 then -1 else (Ki n l:Int)) else -1
 | [],n=>by
   have e:Lu n []=if (n:Int) > 1000000 then -1 else (n:Int):=rfl
   have e2:Ki n []=n:=rfl
   have e3:N1 []=true:=rfl
   rw [e,e2,e3,if_pos rfl]
   by_cases h:n > 1000000
   ·rw [if_pos h,if_pos (by omega)]
   ·rw [if_neg h,if_neg (by omega)]
 | c::l,n=>by
   simp only [Lu]
   by_cases hc:digit c=true
   ·rw [if_pos hc]
    have hd:=Hq hc
    have:=Sy l (10*n+(c.toNat-48))
    rw [show (10*(n:Int)+c.toNat-48)=((10*n+(c.toNat-48):Nat):Int) by omega,this]
    simp only [N1,List.all_cons,hc,Bool.true_and,Ki,List.foldl_cons]
    rfl
   ·rw [if_neg hc]
    have hc':digit c=false:=by simpa using hc
    simp [N1,hc']
theorem Yo (l:List UInt8)(c:UInt8)(n:Nat):Ki n (l++[c])=10*Ki n l+(c.toNat-48):=by simp [Ki]
theorem N2 (n:Nat):N1 (Ig n)=true:=by
 induction n using Nat.strongRecOn with
 | ind n ih =>
   unfold Ig
   have hd:∀ k,k<10→digit (UInt8.ofNat (48+k))=true:=fun k hk=>by
    have:k=0∨k=1∨k=2∨k=3∨k=4∨k=5∨k=6∨k=7∨k=8∨k=9:=by omega
    rcases this with rfl | rfl | rfl | rfl | rfl | rfl | rfl | rfl | rfl | rfl<;>decide
   split
   ·rename_i h
    have:=hd n h
    simp only [N1,List.all_cons,List.all_nil,Bool.and_true];exact this
   ·have:=ih (n / 10) (by omega)
    simp only [N1,List.all_append,List.all_cons,List.all_nil,Bool.and_true] at this ⊢
    rw [this,hd _ (by omega)];rfl
theorem N0 (k:Nat)(hk:k<10):(UInt8.ofNat (48+k)).toNat=48+k:=by
 simp;omega
theorem Acf (n:Nat):Ki 0 (Ig n)=n:=by
 induction n using Nat.strongRecOn with
 | ind n ih =>
   unfold Ig
   split
   ·rename_i h
    simp only [Ki,List.foldl_cons,List.foldl_nil]
    rw [N0 n h];omega
   ·rw [Yo,ih (n / 10) (by omega),N0 _ (by omega)];omega
theorem Aes:∀ (q:Nat)(l:List UInt8),l.length=q+1→N1 l=true→(l.length=1∨l.head?≠some 48)→Ig (Ki 0 l)=l
 | 0,l,hl,hd,_=>by
   match l,hl with
   | [c],_ =>
     have hc:digit c=true:=by simpa [N1] using hd
     have:=Hq hc
     simp only [Ki,List.foldl_cons,List.foldl_nil]
     unfold Ig
     rw [if_pos (by omega)]
     congr 1
     apply UInt8.toNat_inj.1
     rw [N0 _ (by omega)];omega
 | q+1,l,hl,hd,h0=>by
   have hne:l≠[]:=by rintro rfl;simp at hl
   obtain ⟨l',c,rfl⟩:∃ l' c,l=l'++[c]:=⟨l.dropLast,l.getLast hne,(List.dropLast_concat_getLast hne).symm⟩
   simp at hl
   have hl':l'.length=q+1:=by omega
   simp only [N1,List.all_append,Bool.and_eq_true,List.all_cons,List.all_nil,Bool.and_true] at hd
   have hc:=Hq hd.2
   have hhead:l'.head?≠some 48:=by
    rcases h0 with h | h
    ·rw [List.length_append,hl'] at h;simp at h
    ·cases l' with
     | nil=>simp at hl'
     | cons y l'=>simpa using h
   have ih:=Aes q l' hl' hd.1 (.inr hhead)
   have hpos:1≤Ki 0 l':=by
    cases l' with
    | nil=>simp at hl'
    | cons y l' =>
      simp only [N1,List.all_cons,Bool.and_eq_true] at hd
      have hy:=Hq hd.1.1
      have:y.toNat≠48:=fun h=>hhead (by simp;exact UInt8.toNat_inj.1 h)
      have:=Ao0 l' (10*0+(y.toNat-48))
      simp only [Ki,List.foldl_cons] at this ⊢;omega
   rw [Yo]
   unfold Ig
   rw [if_neg (by omega),show (10*Ki 0 l'+(c.toNat-48)) / 10=Ki 0 l' by omega,ih,show (10*Ki 0 l'+(c.toNat-48)) % 10=c.toNat-48 by omega]
   congr 2
   apply UInt8.toNat_inj.1
   rw [N0 _ (by omega)];omega
theorem Y7 (n:Nat):Lib.decDigits n=Ig n:=by
 induction n using Nat.strongRecOn with
 | ind n ih =>
   unfold Ig
   rw [Lib.decDigits]
   split
   ·rfl
   ·rw [ih (n / 10) (by omega)]
theorem Ku (s:List UInt8):0≤B6 s↔∃ n:Nat,n≤1000000∧s=Ig n∧B6 s=n:=by
 constructor
 ·intro h
  cases s with
  | nil=>simp [B6] at h
  | cons c l =>
    simp only [B6] at h ⊢
    split at h
    ·omega
    ·rename_i h1
     split at h
     ·omega
     ·rename_i h2
      rw [if_neg h1,if_neg h2]
      have hv:=Sy (c::l) 0
      simp only [Int.ofNat_zero] at hv
      rw [hv] at h ⊢
      split at h
      ·rename_i hd
       rw [if_pos hd]
       split at h
       ·omega
       ·rename_i hle
        rw [if_neg hle]
        refine ⟨Ki 0 (c::l),by omega,?_,rfl⟩
        refine (Aes l.length (c::l) (by simp) hd ?_).symm
        simp only [Bool.and_eq_true,decide_eq_true_eq,beq_iff_eq,not_and] at h2
        by_cases hl:l.length > 0
        ·right;simp;exact h2 hl
        ·have:l=[]:=List.eq_nil_of_length_eq_zero (by omega)
         subst this;left;rfl
      ·omega
 ·rintro ⟨n,_,_,h⟩;omega
theorem Ai6 (n:Nat)(h:10≤n):(Ig n).head?≠some 48:=by
 induction n using Nat.strongRecOn with
 | ind n ih =>
   unfold Ig
   rw [if_neg (by omega)]
   have hne:Ig (n / 10)≠[]:=by unfold Ig;split<;>simp
   have ih':(Ig (n / 10)).head?≠some 48:=by
    by_cases h2:10≤n / 10
    ·exact ih (n / 10) (by omega) h2
    ·unfold Ig
     rw [if_pos (by omega)]
     intro h
     have:=congrArg UInt8.toNat (Option.some.inj h)
     rw [N0 _ (by omega)] at this
     simp at this
     omega
   cases hq:Ig (n / 10) with
   | nil=>exact absurd hq hne
   | cons y l=>rw [hq] at ih';simpa using ih'
theorem Y8 (n:Nat):1≤(Ig n).length:=by
 unfold Ig;split<;>simp
theorem Kt (n:Nat)(h:n≤1000000):B6 (Ig n)=n:=by
 have hl:=O6 n h
 have hp:=Y8 n
 have hv:=Sy (Ig n) 0
 rw [N2,if_pos rfl,Acf,if_neg (by omega)] at hv
 cases hs:Ig n with
 | nil=>rw [hs] at hp;simp at hp
 | cons c l =>
   rw [hs] at hl hv
   simp at hl
   simp only [B6]
   rw [if_neg (by omega)]
   have:¬ ((decide (l.length > 0)&&c==48)=true):=by
    simp only [Bool.and_eq_true,decide_eq_true_eq,beq_iff_eq,not_and]
    intro h1 h2
    have h10:10≤n:=by
     rcases Nat.lt_or_ge n 10 with h' | h'
     ·unfold Ig at hs;rw [if_pos h'] at hs;simp at hs;rw [hs.2] at h1;simp at h1
     ·exact h'
    have:=Ai6 n h10
    rw [hs] at this
    simp at this
    exact this h2
   rw [if_neg this]
   exact hv
theorem Tu:∀ (l:List UInt8)(n:Nat),N1 l=true→Lib.decFrom n l=some (Ki n l)
 | [],n,_=>by simp [Lib.decFrom,Ki]
 | c::l,n,h=>by
   simp only [N1,List.all_cons,Bool.and_eq_true] at h
   have hc:=Hq h.1
   have hd:Lib.digitVal c=some (c.toNat-48):=by unfold Lib.digitVal;rw [if_pos (by omega)]
   simp only [Lib.decFrom,hd]
   rw [Tu l _ h.2]
   simp only [Ki,List.foldl_cons]
   rw [Nat.mul_comm]
theorem Aix (n:Nat)(h:n≤1000000):Lib.atoiAll (Ig n)=.ok (n:Int):=by
 have hl:=O6 n h
 have hp:=Y8 n
 have hd:=N2 n
 have hv:=Acf n
 rw [Lib.atoiAll_short _ (by omega)]
 cases hs:Ig n with
 | nil=>rw [hs] at hp;simp at hp
 | cons c l =>
   rw [hs] at hd hv
   have hc:digit c=true:=by simp only [N1,List.all_cons,Bool.and_eq_true] at hd;exact hd.1
   have hr:=Hq hc
   have h45:(c==45)=false:=by rw [beq_eq_false_iff_ne];rintro rfl;simp at hr
   have h43:(c==43)=false:=by rw [beq_eq_false_iff_ne];rintro rfl;simp at hr
   simp only [Lib.atoi,h45,h43,Lib.decNat,Tu _ 0 hd,hv]
   rfl
def Lw (s:List UInt8):Bool:=match Lib.atoiAll s with
 | .ok v=>Lib.itoa v==s
 | _=>false
theorem Yc {s:List UInt8}{n:Nat}(h:n≤1000000)(hs:s=Ig n):Lw s=true∧J9 s=n:=by
 subst hs
 simp only [Lw,J9,Aix n h]
 have:Lib.itoa (n:Int)=Ig n:=by unfold Lib.itoa;rw [if_neg (by omega),Int.toNat_natCast,Y7]
 simp [this]
theorem Ahs (c:UInt8)(l:List UInt8)(hc:digit c=true):(Lw (c::l)&&decide (J9 (c::l)≤1000000))=decide (0≤B6 (c::l)):=by
 rw [Bool.eq_iff_iff]
 simp only [Bool.and_eq_true,decide_eq_true_eq]
 rw [Ku]
 constructor
 ·rintro ⟨h1,h2⟩
  cases h:Lib.atoiAll (c::l) with
  | ok v =>
    simp only [Lw,J9,h,beq_iff_eq] at h1 h2
    have h1:=h1.symm
    have hv:¬ v<0:=fun hv=>by
     unfold Lib.itoa at h1
     rw [if_pos hv] at h1
     simp at h1
     have:=Hq hc
     rw [h1.1] at this
     simp at this
    obtain ⟨n,rfl⟩:∃ n:Nat,v=n:=⟨v.toNat,by omega⟩
    unfold Lib.itoa at h1
    rw [if_neg hv,Int.toNat_natCast,Y7] at h1
    exact ⟨n,by omega,h1,by rw [h1];exact Kt n (by omega)⟩
  | range=>simp [Lw,h] at h1
  | _=>simp [Lw,h] at h1
 ·rintro ⟨n,hn,hs,_⟩
  obtain ⟨a,b⟩:=Yc hn hs
  exact ⟨a,by rw [b];omega⟩
theorem Yb (s:List UInt8)(hs:s.length≤1000000000):Pure X 343 [str s] (.tup [vi (J9 s),vb (Lw s)]):=by
 have hu:X.P.underlying 340=some (.interface (X.P.methodsAt 340)):=by kernel_rfl
 have ha:=Aqy s hs
 refine Pure.run Tryz.func343 ?_
 cases h:Lib.atoiAll s with
 | ok v =>
   simp only [J9,Vf,Lw,h] at ha ⊢
   obtain ⟨b0,b1⟩:=Lib.atoiAll_bounds h
   refine AK.pc ha ?_
   refine AK.op (Age hu) ?_
   refine AK.gy ?_
   refine AK.pc (Adq v (by omega) (by omega)) ?_
   exact AK.rt Tryz.func343 rfl
 | range =>
   simp only [J9,Vf,Lw,h] at ha ⊢
   refine AK.pc ha ?_
   refine AK.op (Vb hu) ?_
   refine AK.gn ?_
   exact AK.rt Tryz.func343 rfl
 | _ =>
   simp only [J9,Vf,Lw,h] at ha ⊢
   refine AK.pc ha ?_
   refine AK.op (Vb hu) ?_
   refine AK.gn ?_
   exact AK.rt Tryz.func343 rfl
theorem Ab2 (s:List UInt8)(c:UInt8):Pure X 386 [str s,vc c] (vi (Lib.indexByte s c)):=by
 have hr:∀ w,(callFunc 393 ⟨[.string ⟨⟨s⟩⟩,.int .u8 c.toNat]⟩).run X.P w=.ok (.value (.int .i64 (Lib.indexByte s c))) w:=fun w=>by
  refine (run_callFunc_extern Tryz.func393 (by kernel_rfl) (by kernel_rfl) (by kernel_rfl) (e:=Extern.BytealgIndexByte.indexByte) (by kernel_rfl) _ w).trans ?_
  have:=Lib.run_indexByteString (P:=Tryz.prog) ⟨⟨s⟩⟩ (c.toNat:Int) w
  have e:((c.toNat:Int)).toNat.toUInt8=c:=by simp
  rw [e] at this
  rw [show (⟨[.string ⟨⟨s⟩⟩,.int .u8 c.toNat]⟩:Array Value)=#[.string ⟨⟨s⟩⟩,.int .u8 c.toNat] from rfl,this]
  rfl
 refine Pure.run Tryz.func386 ?_
 refine AK.op (Acp hr) ?_
 exact AK.rt Tryz.func386 rfl
theorem Ahr (s:List UInt8)(c:UInt8):Pure X 377 [str s,str [c]] (vi (Lib.indexByte s c)):=by
 refine Pure.run Tryz.func377 ?_
 refine AK.gn ?_
 refine AK.if_ (fun h=>?_) (fun h=>?_)
 ·have h':([c]==s)=true:=h
  have:s=[c]:=by rw [beq_iff_eq] at h';exact h'.symm
  subst this
  refine AK.rt Tryz.func377 ?_
  simp [Lib.indexByte,Bv]
 ·refine AK.yes ?_
  refine AK.by 0 (by omega) (b:=c) rfl ?_
  refine AK.pc (Ab2 s c) ?_
  exact AK.rt Tryz.func377 rfl
theorem Aku (s:List UInt8)(c:UInt8):Pure X 366 [str s,str [c]] (vi (Lib.indexByte s c)):=by
 refine Pure.run Tryz.func366 ?_
 refine AK.pc (Ahr s c) ?_
 exact AK.rt Tryz.func366 rfl
theorem Ab0 (s:List UInt8)(c:UInt8):Pure X 345 [str s,str [c]] (vb (decide (Lib.indexByte s c≥0))):=by
 refine Pure.run Tryz.func345 ?_
 refine AK.pc (Aku s c) ?_
 exact AK.rt Tryz.func345 rfl
def oneSigns:List UInt8:=[43,45,42,40,41,91,93,123,125,59,61,60,62,63]
def G8:List (List UInt8):=[[61,61],[33,61],[60,61],[62,61]]
theorem Pu (l:List UInt8)(c:UInt8):decide (Lib.indexByte l c≥0)=l.contains c:=by
 induction l with
 | nil=>rfl
 | cons b l ih =>
   unfold Lib.indexByte
   by_cases h:b=c
   ·subst h;simp
   ·have h':(b==c)=false:=by simpa using h
    have h2:(c==b)=false:=by simpa using Ne.symm h
    rw [h']
    simp only [Bool.false_eq_true,if_false,List.contains_cons,h2,Bool.false_or,← ih]
    have:=Lib.indexByte_ge l c
    split
    ·rename_i h3
     have:Lib.indexByte l c=-1:=by simpa using h3
     rw [this]
    ·rename_i h3
     have:Lib.indexByte l c≠-1:=by simpa using h3
     by_cases h4:Lib.indexByte l c≥0
     ·simp [h4];omega
     ·omega
theorem Vv (c:UInt8)(l:List UInt8)(h1:Cm c=false)(h2:digit c=false):B1 (c::l)=if has G8 (c::l)||(l.isEmpty&&oneSigns.contains c) then 3 else 0:=by
 have k1:has Oa (c::l)=false:=by
  simp only [has,Oa,List.any_cons,List.any_nil,Bool.or_false,Bool.or_eq_false_iff,beq_eq_false_iff_ne]
  refine ⟨?_,?_,?_,?_,?_,?_,?_,?_,?_,?_,?_,?_,?_⟩<;>(intro h;injection h with h _;subst h;revert h1;decide)
 have k2:nameS (c::l)=false:=by simp [nameS,h1]
 have k3:¬ B6 (c::l)≥0:=by
  intro h
  obtain ⟨n,_,hs,_⟩:=(Ku _).1 h
  have:=N2 n
  rw [← hs] at this
  simp only [N1,List.all_cons,h2,Bool.false_and] at this
  cases this
 simp only [B1,k1,k2]
 rw [if_neg (by simp),if_neg (by simp),if_neg k3]
 have:has Gx (c::l)=(has G8 (c::l)||(l.isEmpty&&oneSigns.contains c)):=by
  cases l with
  | nil =>
    simp only [has,Gx,G8,oneSigns,List.any_cons,List.any_nil,List.contains_cons,List.contains_nil,List.isEmpty_nil,Bool.true_and,Bool.or_false]
    have e:∀ a:UInt8,(a==c)=(c==a):=fun a=>by rw [Bool.eq_iff_iff,beq_iff_eq,beq_iff_eq];exact eq_comm
    simp [e,Bool.or_assoc]
  | cons d l =>
    simp only [has,Gx,G8,List.any_cons,List.any_nil,List.isEmpty_cons,Bool.false_and,Bool.or_false]
    simp
 rw [this]
theorem Ab4 (s:List UInt8)(hs:s.length≤1000000000):Pure X 320 [str s] (vi (B1 s)):=by
 cases s with
 | nil =>
   refine Pure.run Tryz.func320 ?_
   refine AK.yes ?_
   refine AK.rt Tryz.func320 ?_
   rfl
 | cons c l =>
   simp only [List.length_cons] at hs
   have hsz:((⟨⟨c::l⟩⟩:ByteArray).size:Int)=l.length+1:=I3 c l
   refine Pure.run Tryz.func320 ?_
   refine AK.no ?_
   refine AK.pc (An7 (c::l)) ?_
   refine AK.if_ (fun h1=>?_) (fun h1=>?_)
   ·have h1':has Oa (c::l)=true:=h1
    refine AK.rt Tryz.func320 ?_
    simp [B1,h1',Bv]
   have h1':has Oa (c::l)=false:=h1
   refine AK.by 0 (by omega) (b:=c) rfl ?_
   refine AK.pc (Wj c) ?_
   refine AK.if_ (fun h2=>?_) (fun h2=>?_)
   ·have h2':Cm c=true:=h2
    have hk:B1 (c::l)=if L5 (c::l)&&decide (l.length<8) then 1 else 0:=by
     have hn:nameS (c::l)=(L5 (c::l)&&decide (l.length<8)):=by simp [nameS,h1',h2',Bool.and_comm]
     have hd:digit c=false:=by
      simp only [Cm,digit,Bu,Bool.and_eq_true,decide_eq_true_eq,Bool.and_eq_false_iff,decide_eq_false_iff_not] at h2' ⊢
      omega
     have k3:¬ B6 (c::l)≥0:=by
      intro h
      obtain ⟨n,_,hs,_⟩:=(Ku _).1 h
      have:=N2 n
      rw [← hs] at this
      simp only [N1,List.all_cons,hd,Bool.false_and] at this
      cases this
     have k4:has Gx (c::l)=false:=by
      simp only [has,Gx,List.any_cons,List.any_nil,Bool.or_false,Bool.or_eq_false_iff,beq_eq_false_iff_ne]
      refine ⟨?_,?_,?_,?_,?_,?_,?_,?_,?_,?_,?_,?_,?_,?_,?_,?_,?_,?_⟩<;>(intro h;injection h with h _;subst h;revert h2';decide)
     simp only [B1,h1',hn]
     rw [if_neg (by simp)]
     split
     ·rfl
     ·first | (rw [if_neg k3,k4];rfl) | (rw [k4];rfl)
    rw [hk]
    generalize hT:L5 (c::l)=T
    refine AK.while_ (ι:=Nat) 0 0 (fun i=>i≤l.length+1∧T=L5 ((c::l).drop i)) (fun i=>[(18,vi i),(17,vi (l.length+1)),(0,str (c::l))]) (fun _=>⟨[],[]⟩) (fun i=>l.length+1-i) ?_ 0 ⟨Nat.zero_le _,hT.symm⟩
     ⟨rfl,by rw [← hsz];rfl,rfl,trivial⟩
    rintro i ⟨hi,hTi⟩ IH
    refine AK.ei (fun h3=>?_) (fun h3=>?_)
    ·have hlt:i<(c::l).length:=by have:=of_decide_eq_true h3;simp;omega
     obtain ⟨b,hb⟩:=Ab (c::l) hlt
     rw [Ba hb] at hTi
     have hw:L5 (b::(c::l).drop (i+1))=((Cm b||digit b)&&L5 ((c::l).drop (i+1))):=rfl
     rw [hw] at hTi
     refine AK.by i (by omega) hb ?_
     refine AK.pc (Wj b) ?_
     refine AK.gd (fun h4=>?_) (fun h4=>?_)
     ·have h4':Cm b=false:=by have:(!Cm b)=true:=h4;simpa using this
      refine AK.by i (by omega) hb ?_
      refine AK.pc (Z9 b) ?_
      refine AK.if_ (fun h5=>?_) (fun h5=>?_)
      ·have h5':digit b=false:=by have:(!digit b)=true:=h5;simpa using this
       refine AK.rt Tryz.func320 ?_
       rw [hTi,h4',h5'];rfl
      ·have h5':digit b=true:=by have:(!digit b)=false:=h5;simpa using this
       exact IH (i+1) ⟨by simp at hlt;omega,by rw [hTi,h5'];simp⟩ (by simp at hlt;omega) _ _ ⟨vsx (by omega),rfl,rfl,trivial⟩ rfl rfl rfl
     ·have h4':Cm b=true:=by have:(!Cm b)=false:=h4;simpa using this
      refine AK.no ?_
      exact IH (i+1) ⟨by simp at hlt;omega,by rw [hTi,h4'];simp⟩ (by simp at hlt;omega) _ _ ⟨vsx (by omega),rfl,rfl,trivial⟩ rfl rfl rfl
    ·have:i=(c::l).length:=by have:=of_decide_eq_false h3;simp;omega
     rw [this,List.drop_length] at hTi
     have hT1:T=true:=hTi
     subst hT1
     refine AK.if_ (fun h4=>?_) (fun h4=>?_)
     ·have h4':l.length<8:=by have:=of_decide_eq_true h4;rw [hsz] at this;omega
      refine AK.rt Tryz.func320 ?_
      simp [h4',Bv]
     ·have h4':¬ l.length<8:=by have:=of_decide_eq_false h4;rw [hsz] at this;omega
      refine AK.rt Tryz.func320 ?_
      simp [h4',Bv]
   have h2':Cm c=false:=h2
   refine AK.by 0 (by omega) (b:=c) rfl ?_
   refine AK.pc (Z9 c) ?_
   refine AK.if_ (fun h3=>?_) (fun h3=>?_)
   ·have h3':digit c=true:=h3
    have hr:=Ahs c l h3'
    have hk:B1 (c::l)=if Lw (c::l)&&decide (J9 (c::l)≤1000000) then 2 else 0:=by
     have k2:nameS (c::l)=false:=by simp [nameS,h2']
     have k4:has Gx (c::l)=false:=by
      simp only [has,Gx,List.any_cons,List.any_nil,Bool.or_false,Bool.or_eq_false_iff,beq_eq_false_iff_ne]
      refine ⟨?_,?_,?_,?_,?_,?_,?_,?_,?_,?_,?_,?_,?_,?_,?_,?_,?_,?_⟩<;>(intro h;injection h with h _;subst h;revert h3';decide)
     simp only [B1,h1',k2,hr]
     rw [if_neg (by simp),if_neg (by simp)]
     by_cases h:0≤B6 (c::l)
     ·simp [h]
     ·rw [if_neg (by omega),k4];simp [h]
    rw [hk]
    refine AK.pc (Yb (c::l) (by simp;omega)) ?_
    refine AK.gd (fun h4=>?_) (fun h4=>?_)
    ·have h4':Lw (c::l)=true:=h4
     refine AK.if_ (fun h5=>?_) (fun h5=>?_)
     ·have h5':J9 (c::l)≤1000000:=of_decide_eq_true h5
      refine AK.rt Tryz.func320 ?_
      simp [h4',h5',Bv]
     ·have h5':¬ J9 (c::l)≤1000000:=of_decide_eq_false h5
      refine AK.rt Tryz.func320 ?_
      simp [h4',h5',Bv]
    ·have h4':Lw (c::l)=false:=h4
     refine AK.no ?_
     refine AK.rt Tryz.func320 ?_
     simp [h4',Bv]
   have h3':digit c=false:=h3
   rw [Vv c l h2' h3']
   refine AK.pc (Nf G8 (c::l) (by decide)) ?_
   refine AK.gd (fun h4=>?_) (fun h4=>?_)
   ·have h4':has G8 (c::l)=true:=h4
    refine AK.yes ?_
    refine AK.rt Tryz.func320 ?_
    simp [h4',Bv]
   have h4':has G8 (c::l)=false:=h4
   cases l with
   | nil =>
     refine AK.gy ?_
     refine AK.pc (Ab0 oneSigns c) ?_
     refine AK.if_ (fun h5=>?_) (fun h5=>?_)
     ·have h5':oneSigns.contains c=true:=by rw [← Pu];exact h5
      refine AK.rt Tryz.func320 ?_
      rw [h4',h5'];rfl
     ·have h5':oneSigns.contains c=false:=by rw [← Pu];exact h5
      refine AK.rt Tryz.func320 ?_
      rw [h4',h5'];rfl
   | cons d l =>
     have:(((⟨⟨c::d::l⟩⟩:ByteArray).size:Int)==1)=false:=by rw [I3];simp;omega
     refine AK.gn ?_ (ht:=this)
     refine AK.no ?_
     refine AK.rt Tryz.func320 ?_
     simp [h4',Bv]
theorem Alk (c d:UInt8)(l:List UInt8)(h1:Cm c=false)(h2:digit c=false):(B1 [c,d]==3)=has Gx [c,d]:=by
 rw [Vv c [d] h1 h2]
 have:has Gx [c,d]=has G8 [c,d]:=by
  simp only [has,Gx,G8,List.any_cons,List.any_nil,Bool.or_false];simp
 rw [this]
 cases has G8 [c,d]<;>rfl
def Amk (c:UInt8):List UInt8→Nat
 | []=>1
 | d::_=>if has Gx [c,d] then 2 else 1
theorem Aho (c:UInt8)(l:List UInt8)(hs:l.length≤900000000):Pure X 319 [str (c::l)] (vi (H0 (c::l))):=by
 have hsz:((⟨⟨c::l⟩⟩:ByteArray).size:Int)=l.length+1:=I3 c l
 obtain ⟨T,hT⟩:∃ T,D2 (c::l)=T:=⟨_,rfl⟩
 have hTle:T≤l.length+1:=by rw [← hT];exact Qo _
 have hE:H0 (c::l)=if T=0 then Amk c l else T:=by
  by_cases h:(Cm c||digit c)=true
  ·have hw:T=1+D2 l:=by rw [← hT];simp only [D2];rw [if_pos h]
   have he:H0 (c::l)=D2 (c::l):=by simp only [H0];rw [if_pos h]
   rw [he,hT,if_neg (by omega)]
  ·have hw:T=0:=by rw [← hT];simp only [D2];rw [if_neg h]
   have he:H0 (c::l)=Amk c l:=by simp only [H0];rw [if_neg h];cases l<;>rfl
   rw [he,if_pos hw]
 have tail:AK X ⟨319,Tryz.f319,0,0⟩ (Js false 4 Tryz.f319) [(3,vi T),(0,str (c::l))] ⟨[],[]⟩ (fun e S=>e=.ret (vi (H0 (c::l)))∧S=⟨[],[]⟩):=by
  rw [hE]
  refine AK.at_ ?_
  refine AK.ev 100 rfl ?_
  refine AK.gd (fun h=>?_) (fun h=>?_)
  ·have h0:T=0:=by have:((T:Int)==0)=true:=h;simpa using this
   have hcd:Cm c=false∧digit c=false:=by
    rw [h0] at hT
    simp only [D2] at hT
    split at hT
    ·omega
    ·rename_i h;simpa using h
   rw [if_pos h0]
   cases l with
   | nil =>
     refine AK.gn ?_
     refine AK.no ?_
     refine AK.rt Tryz.func319 ?_
     rw [h0];rfl
   | cons d l =>
     refine AK.gy ?_ (ht:=decide_eq_true (by rw [hsz];simp;omega))
     refine AK.op (Ndo.sub (l:=0) (h:=2) (r:=[c,d]) rfl rfl rfl rfl rfl rfl rfl rfl ?_ ?_ ?_ rfl) ?_
     ·omega
     ·omega
     ·simp;omega
     refine AK.pc (Ab4 [c,d] (by simp)) ?_
     have e:=Alk c d l hcd.1 hcd.2
     refine AK.if_ (fun h2=>?_) (fun h2=>?_)
     ·have h2':has Gx [c,d]=true:=by rw [← e];exact h2
      refine AK.rt Tryz.func319 ?_
      simp [h2',Bv,Amk]
     ·have h2':has Gx [c,d]=false:=by rw [← e];exact h2
      refine AK.rt Tryz.func319 ?_
      simp [h2',h0,Bv,Amk]
  ·have h0:T≠0:=by have:((T:Int)==0)=false:=h;simpa using this
   rw [if_neg h0]
   refine AK.gn ?_
   refine AK.no ?_
   refine AK.rt Tryz.func319 ?_
   simp only [Bv]
   rw [if_neg (by omega)]
 refine Pure.run Tryz.func319 ?_
 refine AK.while_ (ι:=Nat) 0 0 (fun i=>i≤l.length+1∧T=i+D2 ((c::l).drop i)) (fun i=>[(3,vi i),(0,str (c::l))]) (fun _=>⟨[],[]⟩) (fun i=>l.length+1-i) ?_ 0 ⟨Nat.zero_le _,by simpa using hT.symm⟩
  ⟨rfl,rfl,trivial⟩
 rintro i ⟨hi,hTi⟩ IH
 refine AK.ev 100 rfl ?_
 refine AK.gd (fun h=>?_) (fun h=>?_)
 ·have hlt:i<(c::l).length:=by have:=of_decide_eq_true h;simp;omega
  obtain ⟨b,hb⟩:=Ab (c::l) hlt
  rw [Ba hb] at hTi
  simp only [D2] at hTi
  refine AK.by i (by omega) hb ?_
  refine AK.pc (Wj b) ?_
  refine AK.gd (fun h2=>?_) (fun h2=>?_)
  ·have h2':Cm b=true:=h2
   refine AK.yes ?_
   rw [h2'] at hTi
   exact IH (i+1) ⟨by simp at hlt;omega,by rw [hTi];simp;omega⟩ (by simp at hlt;omega) _ _ ⟨vsx (by omega),rfl,trivial⟩ rfl rfl rfl
  ·have h2':Cm b=false:=h2
   refine AK.by i (by omega) hb ?_
   refine AK.pc (Z9 b) ?_
   refine AK.ifj 0 4 (fun h3=>?_) (fun h3=>?_)
   ·have h3':digit b=true:=h3
    rw [h3'] at hTi
    refine AK.ev 100 rfl ?_
    exact IH (i+1) ⟨by simp at hlt;omega,by rw [hTi];simp;omega⟩ (by simp at hlt;omega) _ _ ⟨vsx (by omega),rfl,trivial⟩ rfl rfl rfl
   ·have h3':digit b=false:=h3
    rw [h2',h3'] at hTi
    have hTi':T=i:=by simpa using hTi
    rw [hTi'] at tail
    exact AK.back' 0 0 tail ⟨rfl,rfl,trivial⟩ rfl rfl rfl rfl rfl
 ·have hie:i=(c::l).length:=by have:=of_decide_eq_false h;simp;omega
  rw [hie,List.drop_length] at hTi
  have hTi':T=i:=by rw [hie,hTi];rfl
  rw [hTi'] at tail
  refine AK.ifj 0 4 (fun h3=>?_) (fun h3=>?_)
  ·cases h3
  ·exact AK.back' 0 0 tail ⟨rfl,rfl,trivial⟩ rfl rfl rfl rfl rfl
theorem Aoc (s:List UInt8)(hs:s.length≤900000000):Pure X 300 [str s] (.tup [.sl (Ei (Bq s).1) .no,.agg [vi (Bq s).2.1,vi (Bq s).2.2]]):=by
 refine Pure.run Tryz.func300 ?_
 refine AK.if_ (fun h=>?_) (fun h=>?_)
 ·have:s.length > 4000:=by have:=of_decide_eq_true h;rw [Dm] at this;omega
  refine AK.as_ 2 (.sl [] .tight) ?_
  refine AK.rz Tryz.func300 ?_
  simp only [Bq];rw [if_pos this];rfl
 have hlen:¬ s.length > 4000:=by have:=of_decide_eq_false h;rw [Dm] at this;omega
 generalize hT:Bq s=T
 have hT':T=Ef (s.length+1) (Bd false s) (s.drop (Bd false s)) []:=by rw [← hT];simp only [Bq];rw [if_neg hlen]
 refine AK.mint (d:=4) rfl rfl rfl ?_
 refine AK.while_ (ι:=Nat × List Wd) 1 1 (fun i=>i.1≤s.length∧i.2.length≤1500∧∃ f,s.length-i.1<f∧T=Ef f (i.1+Bd false (s.drop i.1)) (s.drop (i.1+Bd false (s.drop i.1))) i.2)
  (fun i=>[(5,vi i.1),(4,.sl (Ei i.2) (.tok 0)),(0,str s),(3,.ptr 0 0 0)]) (fun i=>⟨[[[vi 0,vi 0]]],[i.2.length]⟩) (fun i=>s.length-i.1) ?_ (0,[]) ⟨Nat.zero_le _,Nat.zero_le _,s.length+1,by simp,by simpa using hT'⟩
  ⟨rfl,rfl,rfl,rfl,trivial⟩
 rintro ⟨a,out⟩ ⟨ha,hout,f,hf,hTa⟩ IH
 simp only at ha hout hf hTa IH ⊢
 refine AK.ei (fun h=>?_) (fun h=>?_)
 ·have hlt:a<s.length:=by have:=of_decide_eq_true h;rw [Dm] at this;omega
  obtain ⟨c,hc⟩:=Ab s hlt
  have hd:=Ba hc
  refine AK.by a (by omega) hc ?_
  have white:(c==32||c==10)=true→T=Ef f (a+1+Bd false (s.drop (a+1))) (s.drop (a+1+Bd false (s.drop (a+1)))) out:=fun hw=>by
   have e:Bd false (s.drop a)=1+Bd false (s.drop (a+1)):=by rw [hd];simp only [Bd];rw [if_pos hw]
   rw [hTa,e,show a+(1+Bd false (s.drop (a+1)))=a+1+Bd false (s.drop (a+1)) by omega]
  refine AK.if_ (fun h1=>?_) (fun h1=>?_)
  ·have h1':(c==32)=true:=by rw [← cb];exact h1
   exact IH (a+1,out) ⟨by simp only;omega,hout,f,by simp only;omega,white (by rw [h1'];rfl)⟩ (by simp only;omega) _ _ ⟨vsx (by omega),rfl,rfl,rfl,trivial⟩ rfl rfl rfl
  have h1':(c==32)=false:=by rw [← cb];exact h1
  refine AK.if_ (fun h2=>?_) (fun h2=>?_)
  ·have h2':(c==10)=true:=by rw [← cb];exact h2
   exact IH (a+1,out) ⟨by simp only;omega,hout,f,by simp only;omega,white (by rw [h2'];simp)⟩ (by simp only;omega) _ _ ⟨vsx (by omega),rfl,rfl,rfl,trivial⟩ rfl rfl rfl
  have h2':(c==10)=false:=by rw [← cb];exact h2
  refine AK.if_ (fun h3=>?_) (fun h3=>?_)
  ·have h3':(c==35)=true:=by rw [← cb];exact h3
   have hE:Bd false (s.drop a)=Bd true (s.drop a):=by rw [hd];simp only [Bd];rw [if_neg (by simp [h1',h2']),if_pos h3',if_neg (by simp [h2'])]
   rw [hE] at hTa
   refine AK.while_ (ι:=Nat) 1 1 (fun i=>a≤i∧i≤s.length∧T=Ef f (i+Bd true (s.drop i)) (s.drop (i+Bd true (s.drop i))) out) (fun i=>[(5,vi i),(4,.sl (Ei out) (.tok 0)),(0,str s),(3,.ptr 0 0 0)])
    (fun _=>⟨[[[vi 0,vi 0]]],[out.length]⟩) (fun i=>s.length-i) ?_ a ⟨Nat.le_refl _,ha,hTa⟩ ⟨rfl,rfl,rfl,rfl,trivial⟩
   rintro i ⟨hai,hi,hTi⟩ IH2
   refine AK.ev 100 rfl ?_
   refine AK.gd (fun h4=>?_) (fun h4=>?_)
   ·have hlt2:i<s.length:=by have:=of_decide_eq_true h4;rw [Dm] at this;omega
    obtain ⟨b,hb⟩:=Ab s hlt2
    have hd2:=Ba hb
    refine AK.by i (by omega) hb ?_
    refine AK.if_ (fun h5=>?_) (fun h5=>?_)
    ·have h5':(b==10)=false:=by
      have:(!((b.toNat:Int)==10))=true:=h5
      rw [← cb];simpa using this
     have e:Bd true (s.drop i)=1+Bd true (s.drop (i+1)):=by rw [hd2];simp only [Bd];rw [if_neg (by simp [h5'])]
     exact IH2 (i+1) ⟨by omega,by omega,by rw [hTi,e,show i+(1+Bd true (s.drop (i+1)))=i+1+Bd true (s.drop (i+1)) by omega]⟩ (by omega) _ _ ⟨vsx (by omega),rfl,rfl,rfl,trivial⟩ rfl rfl rfl
    ·have h5':(b==10)=true:=by
      have:(!((b.toNat:Int)==10))=false:=h5
      rw [← cb];simpa using this
     have e:Bd true (s.drop i)=Bd false (s.drop i):=by rw [hd2];simp only [Bd];rw [if_pos h5',if_pos (by rw [h5'];simp)]
     have hne:a≠i:=by
      rintro rfl
      rw [hc] at hb;cases hb
      rw [h5'] at h2';cases h2'
     exact IH (i,out) ⟨by simp only;omega,hout,f,by simp only;omega,by rw [e] at hTi;exact hTi⟩ (by simp only;omega) _ _ ⟨rfl,rfl,rfl,rfl,trivial⟩ rfl rfl rfl
   ·have hie:i=s.length:=by have:=of_decide_eq_false h4;rw [Dm] at this;omega
    have e:Bd true (s.drop i)=Bd false (s.drop i):=by rw [hie,List.drop_length];rfl
    refine AK.no ?_
    exact IH (i,out) ⟨by simp only;omega,hout,f,by simp only;omega,by rw [e] at hTi;exact hTi⟩ (by simp only;omega) _ _ ⟨rfl,rfl,rfl,rfl,trivial⟩ rfl rfl rfl
  have h3':(c==35)=false:=by rw [← cb];exact h3
  have h0:Bd false (s.drop a)=0:=by rw [hd];simp only [Bd];rw [if_neg (by simp [h1',h2']),if_neg (by simp [h3'])]
  rw [h0,Nat.add_zero] at hTa
  obtain ⟨g,rfl⟩:∃ g,f=g+1:=⟨f-1,by omega⟩
  obtain ⟨n,hn⟩:∃ n,H0 (s.drop a)=n:=⟨_,rfl⟩
  have hbd:=Aet c (s.drop (a+1))
  rw [← hd,hn] at hbd
  have hdl:(s.drop a).length=s.length-a:=by simp
  rw [hdl] at hbd
  obtain ⟨t,ht⟩:∃ t,(s.drop a).take n=t:=⟨_,rfl⟩
  have htl:t.length=n:=by rw [← ht];simp;omega
  have hstep:T=if B1 t==0 then ([],2,a) else if out.length==1500 then ([],3,a) else
   Ef g (a+n+Bd false (s.drop (a+n))) (s.drop (a+n+Bd false (s.drop (a+n)))) (out++[⟨B1 t,t,a⟩]):=by
   rw [hTa]
   conv=>lhs;unfold Ef
   rw [hd]
   simp only
   rw [← hd,hn,ht,List.drop_drop,List.drop_drop]
   rw [show a+(n+Bd false (s.drop (a+n)))=a+n+Bd false (s.drop (a+n)) by omega]
  have hlong:Pure X 319 [str (s.drop a)] (vi n):=by
   have:=Aho c (s.drop (a+1)) (by simp;omega)
   rw [← hd,hn] at this;exact this
  refine AK.op (Ndo.sub (l:=(a:Int)) (h:=(s.length:Int)) (r:=s.drop a) rfl rfl rfl rfl rfl rfl rfl rfl ?_ ?_ ?_ ?_) ?_
  ·omega
  ·omega
  ·omega
  ·simp
  refine AK.pc hlong ?_
  have hwr:IntKind.i64.wrap ((a:Int)+(n:Int))=(a+n:Nat):=(Ac (by omega) (by omega)).trans (by omega)
  refine AK.op (Ndo.sub (l:=(a:Int)) (h:=IntKind.i64.wrap ((a:Int)+(n:Int))) (r:=t) rfl rfl rfl rfl rfl rfl rfl rfl ?_ ?_ ?_ ?_) ?_
  ·omega
  ·rw [hwr];omega
  ·rw [hwr];omega
  ·rw [hwr,← ht]
   rw [show ((a+n:Nat):Int).toNat=a+n by omega,show ((a:Nat):Int).toNat=a by omega,List.drop_take,show a+n-a=n by omega]
  refine AK.pc (Ab4 t (by omega)) ?_
  refine AK.if_ (fun h4=>?_) (fun h4=>?_)
  ·have h4':(B1 t==0)=true:=h4
   refine AK.as_ 2 (.sl [] .tight) ?_
   refine AK.rz Tryz.func300 ?_
   rw [hstep,h4'];rfl
  have h4':(B1 t==0)=false:=h4
  refine AK.if_ (fun h5=>?_) (fun h5=>?_)
  ·have h5':(out.length==1500)=true:=by
    have:(((Ei out).length:Int)==1500)=true:=h5
    rw [Cc] at this
    simp at this ⊢;omega
   refine AK.as_ 2 (.sl [] .tight) ?_
   refine AK.rz Tryz.func300 ?_
   rw [hstep,h4',h5'];rfl
  have h5':(out.length==1500)=false:=by
   have:(((Ei out).length:Int)==1500)=false:=h5
   rw [Cc] at this
   simp at this ⊢;omega
  have h5'':out.length≠1500:=by simpa using h5'
  refine AK.op (Ndo.append (res:=Ei (out++[⟨B1 t,t,a⟩])) rfl rfl rfl rfl rfl rfl rfl rfl rfl rfl rfl rfl rfl rfl (Cc out) (Ww out) rfl rfl rfl ?_ ?_ rfl) ?_
  ·rw [Cc];simp;omega
  ·simp [Ei,Oy]
  have hst:((⟨⟨t⟩⟩:ByteArray).size:Int)=n:=by rw [Dm,htl]
  refine IH (a+n,out++[⟨B1 t,t,a⟩]) ⟨by simp only;omega,by simp;omega,g,by simp only;omega,by rw [hstep,h4',h5'];rfl⟩ (by simp only;omega) _ _ ⟨?_,rfl,rfl,rfl,trivial⟩ ?_ rfl rfl
  ·exact Bn (by rw [hst];exact hwr)
  ·simp [St.drop,Cc]
 ·have hae:a=s.length:=by have:=of_decide_eq_false h;rw [Dm] at this;omega
  refine AK.rz Tryz.func300 ?_
  obtain ⟨g,rfl⟩:∃ g,f=g+1:=⟨f-1,by omega⟩
  rw [hTa,hae,List.drop_length]
  simp only [Bd,Nat.add_zero,List.drop_length]
  rfl
end Go.V
