/- A part of the proof of the claim that the last text states: no condition of its own. -/
import Derived.Test.YtkbnfpldnpeliaaGreatDoorJ3
import Derived.Ground.NamesProg
import Derived.Lib.AtoiTie
import Derived.Lib.Bytealg
import Derived.Lib.ConvBytes
import Derived.Shelf.Strconv.AtoiAll
import Derived.Shelf.Strconv.Itoa3
import Derived.Test.YtkbnfpldnpeliaaGreatDoorChecked
import Derived.WideLaws
set_option linter.unusedVariables false
set_option linter.unusedSimpArgs false
namespace Go.V
open Go Go.Proofs
def O1 (n:Nd):Bool:=decide (Ai n≤500)&&decide (B8 n≤24)&&Bq n
theorem At4 (n:Nd)(hn:wN n≤1000000000):Pure X 125 [nd n] (vb (O1 n)):=by
 have hc:=Lg n
 have hz:∀ a b:Nat,((a:Int)≤(b:Int))↔a≤b:=fun a b=>by omega
 refine Pure.run Tryz.func125 ?_
 refine AK.pc (Ag8 n (by omega)) ?_
 refine AK.gd (fun h1=>?_) (fun h1=>?_)
 ·have h1':Ai n≤500:=by have:=of_decide_eq_true h1;omega
  refine AK.pc (Ag9 n (by omega)) ?_
  refine AK.gd (fun h2=>?_) (fun h2=>?_)
  ·have h2':B8 n≤24:=by have:=of_decide_eq_true h2;omega
   refine AK.pc (Amo n hn) ?_
   refine AK.rt Tryz.func125 ?_
   simp [O1,h1',h2',B3]
  ·have h2':¬ B8 n≤24:=by have:=of_decide_eq_false h2;omega
   refine AK.rt Tryz.func125 ?_
   simp [O1,h2',B3]
 ·have h1':¬ Ai n≤500:=by have:=of_decide_eq_false h1;omega
  refine AK.gn ?_
  refine AK.rt Tryz.func125 ?_
  simp [O1,h1',B3]
inductive FE:Nd→Prop
 | num (m:Int) (h0:0≤m) (h1:m≤1000000):FE (.mk 1 [] m [])
 | var (s:List UInt8) (h:nameS s=true):FE (.mk 2 s 0 [])
 | cell (s:List UInt8) (a:Nd) (h:nameS s=true) (ha:FE a):FE (.mk 3 s 0 [a])
 | len (s:List UInt8) (h:nameS s=true):FE (.mk 4 s 0 [])
 | neg (a:Nd) (ha:FE a):FE (.mk 5 [] 0 [a])
 | two (k:Int) (a b:Nd) (hk:k=6∨k=7∨k=8) (ha:FE a) (hb:FE b):FE (.mk k [] 0 [a,b])
inductive FC:Nd→Prop
 | mk (k:Int) (a b:Nd) (h0:11≤k) (h1:k≤16) (ha:FE a) (hb:FE b):FC (.mk k [] 0 [a,b])
inductive FS:Nd→Prop
 | set (s:List UInt8) (a:Nd) (h:nameS s=true) (ha:FE a):FS (.mk 21 s 0 [a])
 | put (s:List UInt8) (a b:Nd) (h:nameS s=true) (ha:FE a) (hb:FE b):FS (.mk 22 s 0 [a,b])
 | read (s:List UInt8) (h:nameS s=true):FS (.mk 23 s 0 [])
 | ifs (c:Nd) (l l':List Nd) (hc:FC c) (hl:∀ x,x∈l→FS x) (hl':∀ x,x∈l'→FS x):FS (.mk 24 [] 0 [c,.mk 30 [] 0 l,.mk 30 [] 0 l'])
 | whil (c:Nd) (l:List Nd) (hc:FC c) (hl:∀ x,x∈l→FS x):FS (.mk 25 [] 0 [c,.mk 30 [] 0 l])
 | for_ (s:List UInt8) (a b:Nd) (l:List Nd) (h:nameS s=true) (ha:FE a) (hb:FE b) (hl:∀ x,x∈l→FS x):FS (.mk 26 s 0 [a,b,.mk 30 [] 0 l])
 | check (c:Nd) (hc:FC c):FS (.mk 27 [] 0 [c])
 | skip:FS (.mk 28 [] 0 [])
 | stop:FS (.mk 29 [] 0 [])
inductive FV:Nd→Prop
 | var (s:List UInt8) (h:nameS s=true):FV (.mk 31 s 0 [])
 | arr (s:List UInt8) (m:Int) (h:nameS s=true) (h0:-1≤m) (h1:m≤1000000):FV (.mk 32 s m [])
inductive FP:Nd→Prop
 | mk (ds l:List Nd) (hd:∀ x,x∈ds→FV x) (hl:∀ x,x∈l→FS x):FP (.mk 40 [] 0 (ds++[.mk 30 [] 0 l]))
theorem Kw {s:List UInt8}(h:nameS s=true):s≠[]:=by rintro rfl;simp [nameS] at h
theorem Ac9 {l:List Nd}(h:(l.length:Int)=0):l=[]:=by
 cases l with
 | nil=>rfl
 | cons x l=>simp at h;omega
theorem App {l:List Nd}(h:(l.length:Int)=1):∃ a,l=[a]:=by
 match l with
 | []=>simp at h
 | [a]=>exact ⟨a,rfl⟩
 | _::_::_=>simp at h;omega
theorem Ai2 {l:List Nd}(h:(l.length:Int)=2):∃ a b,l=[a,b]:=by
 match l with
 | []=>simp at h
 | [_]=>simp at h
 | [a,b]=>exact ⟨a,b,rfl⟩
 | _::_::_::_=>simp at h;omega
theorem Awc {l:List Nd}(h:(l.length:Int)=3):∃ a b c,l=[a,b,c]:=by
 match l with
 | []=>simp at h
 | [_]=>simp at h
 | [_,_]=>simp at h
 | [a,b,c]=>exact ⟨a,b,c,rfl⟩
 | _::_::_::_::_=>simp at h;omega
structure HeadF (k:Int)(s:List UInt8)(m:Int)(ks:List Nd)(len:Int)(nm:Bool):Prop where
 hl:0≤len→(ks.length:Int)=len
 hs:nm=!(s==[])
 hn:nm=true→nameS s=true
 hk:k=40→ks≠[]
 hm:Da k m=true
theorem Zm {k:Int}{s:List UInt8}{m:Int}{ks:List Nd}(h:E9 k s m ks.length=true):(A7 k).2.2=true∧HeadF k s m ks (A7 k).1 (A7 k).2.1:=by
 simp only [E9,Bool.and_eq_true,Bool.or_eq_true,decide_eq_true_eq,beq_iff_eq,Bool.not_eq_true'] at h
 obtain ⟨⟨⟨⟨⟨h1,h2⟩,h3⟩,h4⟩,h5⟩,h6⟩:=h
 refine ⟨h1,⟨fun h0=>?_,h3,fun hn=>?_,fun h40 hnil=>?_,h6⟩⟩
 ·rcases h2 with h2 | h2
  ·omega
  ·exact h2
 ·rcases h4 with h4 | h4
  ·rw [hn] at h4;cases h4
  ·exact h4
 ·subst h40;subst hnil;simp at h5
theorem HeadF.no {k:Int}{s:List UInt8}{m:Int}{ks:List Nd}{len:Int}(h:HeadF k s m ks len false):s=[]:=by
 have:=h.hs;simpa using this
theorem HeadF.num0 {k:Int}{s:List UInt8}{m:Int}{ks:List Nd}{len:Int}{b:Bool}(h:HeadF k s m ks len b)(h1:k≠1)(h2:k≠32):m=0:=by
 have:=h.hm;simpa [Da,h1,h2] using this
theorem Ig {p:Nd}:∀ {l:List Nd}{i:Nat},Cw p i l=true→∀ (j:Nat)(x:Nd),l[j]?=some x→H9 p ((i+j:Nat):Int) x.kind=true∧Bq x=true
 | [],i,_,j,x,h=>by simp at h
 | y::l,i,hf,j,x,h=>by
   simp only [Cw,Bool.and_eq_true] at hf
   cases j with
   | zero=>simp at h;subst h;exact ⟨hf.1,hf.2.1⟩
   | succ j =>
     have:=Ig hf.2.2 j x (by simpa using h)
     rw [show i+(j+1)=i+1+j by omega];exact this
theorem Az {n lo hi:Int}:A0 n lo hi=true↔lo≤n∧n≤hi:=by simp [A0]
@[simp] theorem Jz (k:Int)(s:List UInt8)(m:Int)(ks:List Nd):(Nd.mk k s m ks).kind=k:=rfl
@[simp] theorem Qs (k:Int)(s:List UInt8)(m:Int)(ks:List Nd):(Nd.mk k s m ks).name=s:=rfl
@[simp] theorem Uy (k:Int)(s:List UInt8)(m:Int)(ks:List Nd):(Nd.mk k s m ks).num=m:=rfl
@[simp] theorem D6 (k:Int)(s:List UInt8)(m:Int)(ks:List Nd):(Nd.mk k s m ks).kids=ks:=rfl
theorem Al5 {n:Nd}{i k:Int}(h:n.kind<24):H9 n i k=Hz k:=by
 unfold H9
 rw [if_neg (show ¬ (n.kind=24∨n.kind=25∨n.kind=27) by omega),if_neg (show ¬ (n.kind=26∧i=2) by omega),if_neg (show ¬ n.kind=30 by omega),if_neg (show ¬ n.kind=40 by omega)]
theorem Abp {n:Nd}{i k:Int}(h:n.kind=40):H9 n i k=if i=n.kids.length-1 then k==30 else k==31||k==32:=by
 unfold H9
 rw [if_neg (show ¬ (n.kind=24∨n.kind=25∨n.kind=27) by omega),if_neg (show ¬ (n.kind=26∧i=2) by omega),if_neg (show ¬ n.kind=30 by omega),if_pos h]
theorem Y3 (n:Nd)(hf:Bq n=true)(hk:Hz n.kind=true):FE n:=by
 induction n using Nd.ind with
 | h n ih =>
 obtain ⟨k,s,m,ks⟩:=n
 simp only [Jz,Hz,Az] at hk
 rw [H8,Bool.and_eq_true] at hf
 simp only [Jz,Qs,Uy,D6] at hf ih
 obtain ⟨h1,h2⟩:=hf
 have hall:=Ig h2
 have kidE:∀ (j:Nat) (x:Nd),ks[j]?=some x→FE x:=fun j x hx=>by
  obtain ⟨h3,h4⟩:=hall j x hx
  refine ih x (List.mem_of_getElem? hx) h4 ?_
  rwa [Al5 (by simp;omega)] at h3
 obtain ⟨_,hH⟩:=Zm h1
 have:k=1∨k=2∨k=3∨k=4∨k=5∨k=6∨k=7∨k=8:=by omega
 rcases this with rfl | rfl | rfl | rfl | rfl | rfl | rfl | rfl
 ·rw [show A7 1=(0,false,true) by simp [A7]] at hH
  obtain rfl:=Ac9 (hH.hl (by simp))
  obtain rfl:=hH.no
  have:=hH.hm
  simp only [Da,if_true,Az] at this
  exact .num m this.1 this.2
 ·rw [show A7 2=(0,true,true) by simp [A7]] at hH
  obtain rfl:=Ac9 (hH.hl (by simp))
  obtain rfl:=hH.num0 (by simp) (by simp)
  exact .var s (hH.hn rfl)
 ·rw [show A7 3=(1,true,true) by simp [A7]] at hH
  obtain ⟨a,rfl⟩:=App (hH.hl (by simp))
  obtain rfl:=hH.num0 (by simp) (by simp)
  exact .cell s a (hH.hn rfl) (kidE 0 a rfl)
 ·rw [show A7 4=(0,true,true) by simp [A7]] at hH
  obtain rfl:=Ac9 (hH.hl (by simp))
  obtain rfl:=hH.num0 (by simp) (by simp)
  exact .len s (hH.hn rfl)
 ·rw [show A7 5=(1,false,true) by simp [A7]] at hH
  obtain ⟨a,rfl⟩:=App (hH.hl (by simp))
  obtain rfl:=hH.num0 (by simp) (by simp)
  obtain rfl:=hH.no
  exact .neg a (kidE 0 a rfl)
 ·rw [show A7 6=(2,false,true) by simp [A7]] at hH
  obtain ⟨a,b,rfl⟩:=Ai2 (hH.hl (by simp))
  obtain rfl:=hH.num0 (by simp) (by simp)
  obtain rfl:=hH.no
  exact .two 6 a b (by simp) (kidE 0 a rfl) (kidE 1 b rfl)
 ·rw [show A7 7=(2,false,true) by simp [A7]] at hH
  obtain ⟨a,b,rfl⟩:=Ai2 (hH.hl (by simp))
  obtain rfl:=hH.num0 (by simp) (by simp)
  obtain rfl:=hH.no
  exact .two 7 a b (by simp) (kidE 0 a rfl) (kidE 1 b rfl)
 ·rw [show A7 8=(2,false,true) by simp [A7]] at hH
  obtain ⟨a,b,rfl⟩:=Ai2 (hH.hl (by simp))
  obtain rfl:=hH.num0 (by simp) (by simp)
  obtain rfl:=hH.no
  exact .two 8 a b (by simp) (kidE 0 a rfl) (kidE 1 b rfl)
theorem Akg (n:Nd)(hf:Bq n=true)(hk:N9 n.kind=true):FC n:=by
 obtain ⟨k,s,m,ks⟩:=n
 simp only [Jz,N9,Az] at hk
 rw [H8,Bool.and_eq_true] at hf
 simp only [Jz,Qs,Uy,D6] at hf
 obtain ⟨h1,h2⟩:=hf
 have hall:=Ig h2
 have kidE:∀ (j:Nat) (x:Nd),ks[j]?=some x→FE x:=fun j x hx=>by
  obtain ⟨h3,h4⟩:=hall j x hx
  refine Y3 x h4 ?_
  rwa [Al5 (by simp;omega)] at h3
 obtain ⟨_,hH⟩:=Zm h1
 rw [show A7 k=(2,false,true) by simp only [A7];rw [if_neg (by omega),if_neg (by omega),if_neg (by omega),if_neg (by omega),if_pos (by omega)]] at hH
 obtain ⟨a,b,rfl⟩:=Ai2 (hH.hl (by simp))
 obtain rfl:=hH.num0 (by omega) (by omega)
 obtain rfl:=hH.no
 exact .mk k a b hk.1 hk.2 (kidE 0 a rfl) (kidE 1 b rfl)
theorem Avw (n:Nd):Bq n=true→(Tc n.kind=true→FS n)∧(n.kind=30→∃ l,n=.mk 30 [] 0 l∧∀ x,x∈l→FS x):=by
 induction n using Nd.ind with
 | h n ih =>
 intro hf
 obtain ⟨k,s,m,ks⟩:=n
 rw [H8,Bool.and_eq_true] at hf
 simp only [Jz,Qs,Uy,D6] at hf ih ⊢
 obtain ⟨h1,h2⟩:=hf
 have hall:=Ig h2
 obtain ⟨_,hH⟩:=Zm h1
 have kid:∀ (j:Nat) (x:Nd),ks[j]?=some x→H9 (.mk k s m ks) j x.kind=true:=fun j x hx=>by have:=(hall j x hx).1;rwa [Nat.zero_add] at this
 have fm:∀ (j:Nat) (x:Nd),ks[j]?=some x→Bq x=true:=fun j x hx=>(hall j x hx).2
 have ihs:∀ (j:Nat) (x:Nd),ks[j]?=some x→x.kind=30→∃ l,x=.mk 30 [] 0 l∧∀ x,x∈l→FS x:=fun j x hx=>(ih x (List.mem_of_getElem? hx) (fm j x hx)).2
 refine ⟨fun hk=>?_,fun hk=>?_⟩
 ·simp only [Tc,Az] at hk
  have:k=21∨k=22∨k=23∨k=24∨k=25∨k=26∨k=27∨k=28∨k=29:=by omega
  rcases this with rfl | rfl | rfl | rfl | rfl | rfl | rfl | rfl | rfl
  ·rw [show A7 21=(1,true,true) by simp [A7]] at hH
   obtain ⟨a,rfl⟩:=App (hH.hl (by simp))
   obtain rfl:=hH.num0 (by simp) (by simp)
   have k0:=kid 0 a rfl
   simp [H9] at k0
   exact .set s a (hH.hn rfl) (Y3 a (fm 0 a rfl) k0)
  ·rw [show A7 22=(2,true,true) by simp [A7]] at hH
   obtain ⟨a,b,rfl⟩:=Ai2 (hH.hl (by simp))
   obtain rfl:=hH.num0 (by simp) (by simp)
   have k0:=kid 0 a rfl
   have k1:=kid 1 b rfl
   simp [H9] at k0 k1
   exact .put s a b (hH.hn rfl) (Y3 a (fm 0 a rfl) k0) (Y3 b (fm 1 b rfl) k1)
  ·rw [show A7 23=(0,true,true) by simp [A7]] at hH
   obtain rfl:=Ac9 (hH.hl (by simp))
   obtain rfl:=hH.num0 (by simp) (by simp)
   exact .read s (hH.hn rfl)
  ·rw [show A7 24=(3,false,true) by simp [A7]] at hH
   obtain ⟨c,a,b,rfl⟩:=Awc (hH.hl (by simp))
   obtain rfl:=hH.num0 (by simp) (by simp)
   obtain rfl:=hH.no
   have k0:=kid 0 c rfl
   have k1:=kid 1 a rfl
   have k2:=kid 2 b rfl
   simp [H9] at k0 k1 k2
   obtain ⟨l,rfl,hl⟩:=ihs 1 a rfl k1
   obtain ⟨l',rfl,hl'⟩:=ihs 2 b rfl k2
   exact .ifs c l l' (Akg c (fm 0 c rfl) k0) hl hl'
  ·rw [show A7 25=(2,false,true) by simp [A7]] at hH
   obtain ⟨c,a,rfl⟩:=Ai2 (hH.hl (by simp))
   obtain rfl:=hH.num0 (by simp) (by simp)
   obtain rfl:=hH.no
   have k0:=kid 0 c rfl
   have k1:=kid 1 a rfl
   simp [H9] at k0 k1
   obtain ⟨l,rfl,hl⟩:=ihs 1 a rfl k1
   exact .whil c l (Akg c (fm 0 c rfl) k0) hl
  ·rw [show A7 26=(3,true,true) by simp [A7]] at hH
   obtain ⟨a,b,d,rfl⟩:=Awc (hH.hl (by simp))
   obtain rfl:=hH.num0 (by simp) (by simp)
   have k0:=kid 0 a rfl
   have k1:=kid 1 b rfl
   have k2:=kid 2 d rfl
   simp [H9] at k0 k1 k2
   obtain ⟨l,rfl,hl⟩:=ihs 2 d rfl k2
   exact .for_ s a b l (hH.hn rfl) (Y3 a (fm 0 a rfl) k0) (Y3 b (fm 1 b rfl) k1) hl
  ·rw [show A7 27=(1,false,true) by simp [A7]] at hH
   obtain ⟨c,rfl⟩:=App (hH.hl (by simp))
   obtain rfl:=hH.num0 (by simp) (by simp)
   obtain rfl:=hH.no
   have k0:=kid 0 c rfl
   simp [H9] at k0
   exact .check c (Akg c (fm 0 c rfl) k0)
  ·rw [show A7 28=(0,false,true) by simp [A7]] at hH
   obtain rfl:=Ac9 (hH.hl (by simp))
   obtain rfl:=hH.num0 (by simp) (by simp)
   obtain rfl:=hH.no
   exact .skip
  ·rw [show A7 29=(0,false,true) by simp [A7]] at hH
   obtain rfl:=Ac9 (hH.hl (by simp))
   obtain rfl:=hH.num0 (by simp) (by simp)
   obtain rfl:=hH.no
   exact .stop
 ·subst hk
  rw [show A7 30=(-1,false,true) by simp [A7]] at hH
  obtain rfl:=hH.num0 (by simp) (by simp)
  obtain rfl:=hH.no
  refine ⟨ks,rfl,fun x hx=>?_⟩
  obtain ⟨j,hj⟩:=Bo hx
  have k0:=kid j x hj
  simp [H9] at k0
  exact (ih x hx (fm j x hj)).1 k0
theorem Avx (n:Nd)(hf:Bq n=true)(hk:n.kind=31∨n.kind=32):FV n:=by
 obtain ⟨k,s,m,ks⟩:=n
 rw [H8,Bool.and_eq_true] at hf
 simp only [Jz,Qs,Uy,D6] at hf hk
 obtain ⟨h1,h2⟩:=hf
 obtain ⟨_,hH⟩:=Zm h1
 rcases hk with rfl | rfl
 ·rw [show A7 31=(0,true,true) by simp [A7]] at hH
  obtain rfl:=Ac9 (hH.hl (by simp))
  obtain rfl:=hH.num0 (by simp) (by simp)
  exact .var s (hH.hn rfl)
 ·rw [show A7 32=(0,true,true) by simp [A7]] at hH
  obtain rfl:=Ac9 (hH.hl (by simp))
  have:=hH.hm
  simp [Da,Az] at this
  exact .arr s m (hH.hn rfl) this.1 this.2
theorem Ar0 (n:Nd)(hf:Bq n=true)(hk:n.kind=40):FP n:=by
 obtain ⟨k,s,m,ks⟩:=n
 rw [H8,Bool.and_eq_true] at hf
 simp only [Jz,Qs,Uy,D6] at hf hk
 subst hk
 obtain ⟨h1,h2⟩:=hf
 have hall:=Ig h2
 obtain ⟨_,hH⟩:=Zm h1
 rw [show A7 40=(-1,false,true) by simp [A7]] at hH
 obtain rfl:=hH.num0 (by simp) (by simp)
 obtain rfl:=hH.no
 have hne:=hH.hk rfl
 have kid:∀ (j:Nat) (x:Nd),ks[j]?=some x→H9 (.mk 40 [] 0 ks) j x.kind=true:=fun j x hx=>by have:=(hall j x hx).1;rwa [Nat.zero_add] at this
 have fm:∀ (j:Nat) (x:Nd),ks[j]?=some x→Bq x=true:=fun j x hx=>(hall j x hx).2
 have hpos:0<ks.length:=List.length_pos_iff.2 hne
 obtain ⟨b,hb⟩:=Ac ks (i:=ks.length-1) (by omega)
 have hsplit:ks=ks.take (ks.length-1)++[b]:=by
  conv=>lhs;rw [← List.take_append_drop (ks.length-1) ks]
  congr 1
  rw [List.drop_eq_getElem_cons (by omega),List.drop_eq_nil_of_le (by omega)]
  have:=List.getElem?_eq_getElem (l:=ks) (i:=ks.length-1) (by omega)
  rw [hb] at this
  rw [← Option.some.inj this]
 have kb:=kid _ b hb
 rw [Abp rfl,if_pos (by rw [D6];omega)] at kb
 obtain ⟨l,rfl,hl⟩:=(Avw b (fm _ b hb)).2 (by simpa using kb)
 rw [hsplit]
 refine .mk _ l (fun x hx=>?_) hl
 obtain ⟨j,hj⟩:=Bo hx
 have hjl:=Ad hj
 rw [List.length_take] at hjl
 have hj':ks[j]?=some x:=by rw [List.getElem?_take,if_pos (by omega)] at hj;exact hj
 have kx:=kid j x hj'
 rw [Abp rfl,if_neg (by rw [D6];omega)] at kx
 exact Avx x (fm j x hj') (by simpa using kx)
def I3 (k:Int):Int:=if k=6∨k=7 then 1 else if k=8 then 2 else 3
def I5 (l:Int)(k:Int)(t:List UInt8):List UInt8:=if I3 k<l then [40]++t++[41] else t
def P4 (k:Int):List UInt8:=if k=11 then [60] else if k=12 then [60,61] else if k=13 then [62] else if k=14 then [62,61] else if k=15 then [61,61] else [33,61]
def Bd:Nd→List UInt8
 | .mk k s m []=>if k=1 then Hh m.toNat else if k=4 then [108,101,110,40]++s++[41] else s
 | .mk k s _ [a]=>if k=3 then s++[91]++Bd a++[93] else [45]++I5 3 a.kind (Bd a)
 | .mk k _ _ (a::b::_) =>
   if k=6 then I5 1 a.kind (Bd a)++[32,43,32]++I5 2 b.kind (Bd b)
   else if k=7 then I5 1 a.kind (Bd a)++[32,45,32]++I5 2 b.kind (Bd b)
   else if k=8 then I5 2 a.kind (Bd a)++[32,42,32]++I5 3 b.kind (Bd b)
   else Bd a++[32]++P4 k++[32]++Bd b
theorem Hv (l k:Int)(t:List UInt8):(I5 l k t).length≤t.length+2:=by
 unfold I5;split<;>simp
theorem Ya (k:Int):(P4 k).length≤2:=by
 unfold P4;repeat' split
 all_goals simp
theorem As8 (d n:Nat)(h:n<10 ^ (d+1)):(Hh n).length≤d+1:=by
 induction d generalizing n with
 | zero=>unfold Hh;rw [if_pos (by simpa using h)];simp
 | succ d ih =>
   unfold Hh
   split
   ·simp
   ·have:=ih (n / 10) (by rw [Nat.pow_succ] at h;omega)
    simp;omega
theorem Qh (n:Nat)(h:n≤1000000):(Hh n).length≤7:=As8 6 n (by omega)
theorem Dh (n:Nd)(h:FE n):(Bd n).length≤12*wN n:=by
 induction h with
 | num m h0 h1 =>
   have:=Qh m.toNat (by omega)
   simp only [Bd,wN,if_true]
   omega
 | var s h=>simp [Bd,wN];omega
 | cell s a h ha ih=>simp [Bd,wN,wL];omega
 | len s h=>simp [Bd,wN];omega
 | neg a ha ih=>have:=Hv 3 a.kind (Bd a);simp [Bd,wN,wL];omega
 | two k a b hk ha hb iha ihb =>
   have h1:=Hv 1 a.kind (Bd a)
   have h2:=Hv 2 a.kind (Bd a)
   have h3:=Hv 2 b.kind (Bd b)
   have h4:=Hv 3 b.kind (Bd b)
   rcases hk with rfl | rfl | rfl
   ·simp [Bd,wN,wL];omega
   ·simp [Bd,wN,wL];omega
   ·simp [Bd,wN,wL];omega
theorem K9 (n:Nd)(h:FC n):(Bd n).length≤12*wN n:=by
 cases h with
 | mk k a b h0 h1 ha hb =>
   have:=Dh a ha
   have:=Dh b hb
   have:=Ya k
   simp only [Bd]
   rw [if_neg (by omega),if_neg (by omega),if_neg (by omega)]
   simp [wN,wL];omega
theorem Rb (a:Nd)(l:List Nd):(Ak (a::l))[(0:Int).toNat]?=some (Af a):=by cases a;rfl
theorem Yy (a b:Nd)(l:List Nd):(Ak (a::b::l))[(1:Int).toNat]?=some (Af b):=by cases b;rfl
theorem Aq1 (a b c:Nd)(l:List Nd):(Ak (a::b::c::l))[(2:Int).toNat]?=some (Af c):=by cases c;rfl
theorem Aqb (k:Int):Pure X 257 [vi k] (vi (I3 k)):=by
 refine Pure.run Tryz.func257 ?_
 repeat' (refine AK.if_ (fun _=>?_) (fun _=>?_))
 all_goals refine AK.rt Tryz.func257 ?_
 all_goals (simp_all [I3,B3])
theorem Oh (n:Nd)(l:Int)(t:List UInt8)(ht:t.length≤100000000000)(h:Pure X 175 [nd n] (str t)):Pure X 223 [nd n,vi l] (str (I5 l n.kind t)):=by
 refine Pure.run Tryz.func223 ?_
 refine AK.pc (Aqb n.kind) ?_
 refine AK.if_ (fun h1=>?_) (fun h1=>?_)
 ·have h1':=of_decide_eq_true h1
  refine AK.pc h ?_
  refine AK.ct ?_ ?_
  ·simp;omega
  refine AK.ct ?_ ?_
  ·simp;omega
  refine AK.rt Tryz.func223 ?_
  simp [I5,h1',B3]
 ·have h1':=of_decide_eq_false h1
  refine AK.pc h ?_
  refine AK.rt Tryz.func223 ?_
  simp [I5,h1',B3]
theorem Oi (n:Nd)(h:FE n)(hn:wN n≤1000000000):Pure X 175 [nd n] (str (Bd n)):=by
 induction h with
 | num m h0 h1 =>
   obtain ⟨q,rfl⟩:∃ q:Nat,m=q:=⟨m.toNat,by omega⟩
   refine Pure.run Tryz.func175 ?_
   refine AK.yes ?_
   refine AK.pc (Adl q (by omega)) ?_
   refine AK.rt Tryz.func175 ?_
   simp [Bd,B3]
 | var s h =>
   refine Pure.run Tryz.func175 ?_
   refine AK.no ?_
   refine AK.yes ?_
   refine AK.rt Tryz.func175 ?_
   simp [Bd,B3]
 | cell s a h ha ih =>
   have hl:=Dh a ha
   simp [wN,wL] at hn
   refine Pure.run Tryz.func175 ?_
   refine AK.no ?_
   refine AK.no ?_
   refine AK.yes ?_
   refine AK.db 0 ?_
   refine Drv.cg ?_ ?_
   ·simp;omega
   refine Drv.ig 0 (by omega) (Rb a _) ?_
   refine As (ih (by omega)) ?_
   refine Drv.cg ?_ ?_
   ·simp;omega
   refine Drv.cg ?_ ?_
   ·simp;omega
   refine Drv.z ?_
   refine AK.rt Tryz.func175 ?_
   simp [Bd,B3]
 | len s h =>
   simp [wN,wL] at hn
   refine Pure.run Tryz.func175 ?_
   refine AK.no ?_
   refine AK.no ?_
   refine AK.no ?_
   refine AK.yes ?_
   refine AK.ct ?_ ?_
   ·simp;omega
   refine AK.ct ?_ ?_
   ·simp;omega
   refine AK.rt Tryz.func175 ?_
   simp [Bd,B3]
 | neg a ha ih =>
   have hl:=Dh a ha
   have hp:=Hv 3 a.kind (Bd a)
   simp [wN,wL] at hn
   refine Pure.run Tryz.func175 ?_
   refine AK.no ?_
   refine AK.no ?_
   refine AK.no ?_
   refine AK.no ?_
   refine AK.yes ?_
   refine AK.ix 0 (by omega) (Rb a _) ?_
   refine AK.pc (Oh a 3 (Bd a) (by omega) (ih (by omega))) ?_
   refine AK.ct ?_ ?_
   ·simp;omega
   refine AK.rt Tryz.func175 ?_
   simp [Bd,B3]
 | two k a b hk ha hb iha ihb =>
   have hla:=Dh a ha
   have hlb:=Dh b hb
   have h1:=Hv 1 a.kind (Bd a)
   have h2:=Hv 2 a.kind (Bd a)
   have h3:=Hv 2 b.kind (Bd b)
   have h4:=Hv 3 b.kind (Bd b)
   simp [wN,wL] at hn
   refine Pure.run Tryz.func175 ?_
   rcases hk with rfl | rfl | rfl
   ·refine AK.no ?_
    refine AK.no ?_
    refine AK.no ?_
    refine AK.no ?_
    refine AK.no ?_
    refine AK.yes ?_
    refine AK.db 0 ?_
    refine Drv.ig 0 (by omega) (Rb a _) ?_
    refine As (Oh a 1 (Bd a) (by omega) (iha (by omega))) ?_
    refine Drv.cg ?_ ?_
    ·simp;omega
    refine Drv.ig 1 (by omega) (Yy a b _) ?_
    refine As (Oh b 2 (Bd b) (by omega) (ihb (by omega))) ?_
    refine Drv.cg ?_ ?_
    ·simp;omega
    refine Drv.z ?_
    refine AK.rt Tryz.func175 ?_
    simp [Bd,B3]
   ·refine AK.no ?_
    refine AK.no ?_
    refine AK.no ?_
    refine AK.no ?_
    refine AK.no ?_
    refine AK.no ?_
    refine AK.yes ?_
    refine AK.db 0 ?_
    refine Drv.ig 0 (by omega) (Rb a _) ?_
    refine As (Oh a 1 (Bd a) (by omega) (iha (by omega))) ?_
    refine Drv.cg ?_ ?_
    ·simp;omega
    refine Drv.ig 1 (by omega) (Yy a b _) ?_
    refine As (Oh b 2 (Bd b) (by omega) (ihb (by omega))) ?_
    refine Drv.cg ?_ ?_
    ·simp;omega
    refine Drv.z ?_
    refine AK.rt Tryz.func175 ?_
    simp [Bd,B3]
   ·refine AK.no ?_
    refine AK.no ?_
    refine AK.no ?_
    refine AK.no ?_
    refine AK.no ?_
    refine AK.no ?_
    refine AK.no ?_
    refine AK.yes ?_
    refine AK.db 0 ?_
    refine Drv.ig 0 (by omega) (Rb a _) ?_
    refine As (Oh a 2 (Bd a) (by omega) (iha (by omega))) ?_
    refine Drv.cg ?_ ?_
    ·simp;omega
    refine Drv.ig 1 (by omega) (Yy a b _) ?_
    refine As (Oh b 3 (Bd b) (by omega) (ihb (by omega))) ?_
    refine Drv.cg ?_ ?_
    ·simp;omega
    refine Drv.z ?_
    refine AK.rt Tryz.func175 ?_
    simp [Bd,B3]
theorem Abx (n:Nd)(h:FC n)(hn:wN n≤1000000000):Pure X 175 [nd n] (str (Bd n)):=by
 cases h with
 | mk k a b h0 h1 ha hb =>
   have hla:=Dh a ha
   have hlb:=Dh b hb
   have hr:=Ya k
   simp [wN,wL] at hn
   refine Pure.run Tryz.func175 ?_
   have ne:∀ j:Int,j<11→(k==j)=false:=fun j hj=>by simp;omega
   refine AK.no ?_ (ht:=ne 1 (by omega))
   refine AK.no ?_ (ht:=ne 2 (by omega))
   refine AK.no ?_ (ht:=ne 3 (by omega))
   refine AK.no ?_ (ht:=ne 4 (by omega))
   refine AK.no ?_ (ht:=ne 5 (by omega))
   refine AK.no ?_ (ht:=ne 6 (by omega))
   refine AK.no ?_ (ht:=ne 7 (by omega))
   refine AK.no ?_ (ht:=ne 8 (by omega))
   have hw:IntKind.i64.wrap (k-11)=k-11:=Aa (by omega) (by omega)
   have hrel:(A3 [[60],[60,61],[62],[62,61],[61,61],[33,61]])[(IntKind.i64.wrap (k-11)).toNat]?=some [str (P4 k)]:=by
    rw [hw]
    have:k=11∨k=12∨k=13∨k=14∨k=15∨k=16:=by omega
    rcases this with rfl | rfl | rfl | rfl | rfl | rfl<;>rfl
   have hT:Bd (.mk k [] 0 [a,b])=Bd a++[32]++P4 k++[32]++Bd b:=by
    simp only [Bd]
    rw [if_neg (by omega),if_neg (by omega),if_neg (by omega)]
   rw [hT]
   refine AK.db 0 ?_
   refine Drv.ig 0 (by omega) (Rb a _) ?_
   refine As (Oi a ha (by omega)) ?_
   refine Drv.cg ?_ ?_
   ·simp;omega
   refine Drv.ig (IntKind.i64.wrap (k-11)) (by omega) hrel ?_
   refine Drv.cg ?_ ?_
   ·simp;omega
   refine Drv.cg ?_ ?_
   ·simp;omega
   refine Drv.ig 1 (by omega) (Yy a b _) ?_
   refine As (Oi b hb (by omega)) ?_
   refine Drv.cg ?_ ?_
   ·simp;omega
   refine Drv.z ?_
   refine AK.rt Tryz.func175 ?_
   simp [B3]
mutual
def Br:Nd→List UInt8→List UInt8
 | .mk k s m [],p =>
   if k=31 then p++[118,97,114,32]++s++[59,10]
   else if k=32 then p++[97,114,114,97,121,32]++s++[91]++(if 0≤m then Hh m.toNat else [63])++[93,59,10]
   else if k=23 then p++[114,101,97,100,32]++s++[59,10]
   else if k=28 then p++[115,107,105,112,59,10]
   else p++[115,116,111,112,59,10]
 | .mk k s _ [a],p =>
   if k=21 then p++s++[32,61,32]++Bd a++[59,10]
   else p++[99,104,101,99,107,32]++Bd a++[59,10]
 | .mk k s _ [a,.mk k' s' m' l],p =>
   if k=22 then p++s++[91]++Bd a++[93,32,61,32]++Bd (.mk k' s' m' l)++[59,10]
   else p++[119,104,105,108,101,32]++Bd a++[32,123,10]++Fp l (p++[32,32])++p++[125,10]
 | .mk k s _ (a::.mk k' s' m' l'::.mk _ _ _ l::_),p =>
   if k=26 then p++[102,111,114,32]++s++[32,102,114,111,109,32]++Bd a++[32,116,111,32]++Bd (.mk k' s' m' l')++[32,123,10]++Fp l (p++[32,32])++p++[125,10]
   else p++[105,102,32]++Bd a++[32,123,10]++Fp l' (p++[32,32])++p ++
    (match l with
      | []=>[]
      | _=>[125,32,101,108,115,101,32,123,10]++Fp l (p++[32,32])++p)++[125,10]
def Fp:List Nd→List UInt8→List UInt8
 | [],_=>[]
 | x::l,p=>Br x p++Fp l p
end
theorem D2 {l:List Nd}{x:Nd}(h:x∈l):B8 x≤D1 l:=by
 induction l with
 | nil=>cases h
 | cons y l ih =>
   simp only [D1]
   rcases List.mem_cons.1 h with rfl | h
   ·omega
   ·have:=ih h;omega
theorem Ob (l:List Nd)(p:List UInt8):Fp l p=(l.map fun x=>Br x p).flatten:=by
 induction l with
 | nil=>simp [Fp]
 | cons x l ih=>simp [Fp,ih]
theorem Xd {l:List Nd}{f:Nd→List UInt8}(h:∀ x,x∈l→(f x).length≤4060*wN x):(l.map f).flatten.length≤4060*wL l:=by
 induction l with
 | nil=>simp
 | cons x l ih =>
   have h1:=h x (by simp)
   have h2:=ih fun y hy=>h y (by simp [hy])
   simp only [List.map_cons,List.flatten_cons,List.length_append,wL];omega
theorem M0 {l:List Nd}{p:List UInt8}(h:∀ x,x∈l→(Br x p).length≤4060*wN x):(Fp l p).length≤4060*wL l:=by
 rw [Ob];exact Xd h
theorem Ai4 (x:Nd)(h:FV x)(p:List UInt8)(hp:p.length≤1000):(Br x p).length≤4060*wN x:=by
 cases h with
 | var s h=>simp [Br,wN];omega
 | arr s m h h0 h1 =>
   have:=Qh m.toNat (by omega)
   simp [Br,wN]
   by_cases h0:0≤m
   ·simp [h0];omega
   ·simp [h0];omega
theorem Zv (x:Nd)(h:FS x):∀ p:List UInt8,p.length+2*B8 x≤1000→(Br x p).length≤4060*wN x:=by
 induction h with
 | set s a h ha=>intro p hp;have:=Dh a ha;simp [Br,wN,wL];omega
 | put s a b h ha hb =>
   intro p hp
   have h1:=Dh a ha
   have h2:=Dh b hb
   obtain ⟨k',s',m',l'⟩:=b
   simp only [Br,wN,wL] at h2 ⊢
   simp;omega
 | read s h=>intro p hp;simp [Br,wN];omega
 | ifs c l l' hc hl hl' ihl ihl' =>
   intro p hp
   have h1:=K9 c hc
   simp only [B8,D1] at hp
   have hL:=M0 (l:=l) (p:=p++[32,32]) fun x hx=>ihl x hx _ (by have:=D2 hx;simp;omega)
   have hL':=M0 (l:=l') (p:=p++[32,32]) fun x hx=>ihl' x hx _ (by have:=D2 hx;simp;omega)
   simp only [Br,wN,wL]
   cases l' with
   | nil=>simp;omega
   | cons y l'=>simp at hL' ⊢;omega
 | whil c l hc hl ihl =>
   intro p hp
   have h1:=K9 c hc
   simp only [B8,D1] at hp
   have hL:=M0 (l:=l) (p:=p++[32,32]) fun x hx=>ihl x hx _ (by have:=D2 hx;simp;omega)
   simp [Br,wN,wL];omega
 | for_ s a b l h ha hb hl ihl =>
   intro p hp
   have h1:=Dh a ha
   have h2:=Dh b hb
   simp only [B8,D1] at hp
   have hL:=M0 (l:=l) (p:=p++[32,32]) fun x hx=>ihl x hx _ (by have:=D2 hx;simp;omega)
   obtain ⟨k',s',m',l'⟩:=b
   simp only [Br,wN,wL] at h2 ⊢
   simp;omega
 | check c hc=>intro p hp;have:=K9 c hc;simp [Br,wN,wL];omega
 | skip=>intro p hp;simp [Br,wN];omega
 | stop=>intro p hp;simp [Br,wN];omega
theorem Ahd (k:Int)(hk:k=30∨k=40)(ks:List Nd)(f:Nd→List UInt8)(p:List UInt8)(hp:p.length≤1000)(hw:wL ks≤100000)
 (hf:∀ x,x∈ks→Pure X 126 [nd x,str p] (str (f x))∧(f x).length≤4060*wN x):Pure X 126 [nd (.mk k [] 0 ks),str p] (str (ks.map f).flatten):=by
 generalize hT:(ks.map f).flatten=T
 have ne:∀ j:Int,j≠30→j≠40→(k==j)=false:=fun j h1 h2=>by simp;omega
 have hkl:ks.length≤100000:=by
  have h1:=Ed (.mk k [] 0 ks)
  rw [Rn] at h1;simp at h1;omega
 refine Pure.run Tryz.func126 ?_
 refine AK.ct ?_ ?_
 ·simp;omega
 refine AK.no ?_ (ht:=ne 31 (by omega) (by omega))
 refine AK.no ?_ (ht:=ne 32 (by omega) (by omega))
 refine AK.no ?_ (ht:=ne 21 (by omega) (by omega))
 refine AK.no ?_ (ht:=ne 22 (by omega) (by omega))
 refine AK.no ?_ (ht:=ne 23 (by omega) (by omega))
 refine AK.no ?_ (ht:=ne 27 (by omega) (by omega))
 refine AK.no ?_ (ht:=ne 28 (by omega) (by omega))
 refine AK.no ?_ (ht:=ne 29 (by omega) (by omega))
 refine AK.no ?_ (ht:=ne 25 (by omega) (by omega))
 refine AK.no ?_ (ht:=ne 26 (by omega) (by omega))
 refine AK.no ?_ (ht:=ne 24 (by omega) (by omega))
 refine AK.while_ (ι:=Nat) 1 0 (fun i=>i≤ks.length) (fun i=>[(9,vi i),(8,str ((ks.take i).map f).flatten),(2,.ptr 0 0 0),(1,str p)]) (fun _=>⟨[[Af (.mk k [] 0 ks)]],[]⟩) (fun i=>ks.length-i) ?_ 0 (Nat.zero_le _)
  ⟨rfl,rfl,rfl,rfl,trivial⟩
 intro i hi IH
 refine AK.ei (fun h=>?_) (fun h=>?_)
 ·have hlt:i<ks.length:=by have:=of_decide_eq_true h;rw [Ae] at this;simp at this;omega
  obtain ⟨x,hx⟩:=Ac ks hlt
  obtain ⟨h1,h2⟩:=hf x (List.mem_of_getElem? hx)
  have hwx:=Mh (List.mem_of_getElem? hx)
  have h3:=Xd (l:=ks.take i) (f:=f) fun y hy=>(hf y (List.mem_of_mem_take hy)).2
  have h4:wL (ks.take i)≤wL ks:=by
   have:∀ (l:List Nd) (j:Nat),wL (l.take j)≤wL l:=by
    intro l
    induction l with
    | nil=>intro j;simp [wL]
    | cons y l ih=>intro j;cases j with
      | zero=>simp [wL]
      | succ j=>have:=ih j;simp only [List.take_succ_cons,wL];omega
   exact this ks i
  refine AK.ix i (by omega) (Ao hx) ?_
  refine AK.pc h1 ?_
  refine AK.ct ?_ ?_
  ·omega
  refine IH (i+1) hlt (by omega) _ _ ⟨vsx (by omega),?_,rfl,rfl,trivial⟩ rfl rfl rfl
  rw [List.take_add_one,hx];simp
  rfl
 ·have:i=ks.length:=by have:=of_decide_eq_false h;rw [Ae] at this;simp at this;omega
  subst this
  refine AK.rt Tryz.func126 ?_
  rw [List.take_length,hT];rfl
theorem M1 (x:Nd)(l:List Nd)(p:List UInt8)(h:∀ x,x∈l→FS x)(hp:p.length+2*D1 l≤1000):(Fp l p).length≤4060*wL l :=
 M0 fun x hx=>Zv x (h x hx) p (by have:=D2 hx;omega)
theorem Ti (l:List Nd)(p:List UInt8)(hl:∀ x,x∈l→FS x)(hp:p.length+2*D1 l≤1000)(hw:wL l≤100000)
 (ih:∀ x,x∈l→∀ p:List UInt8,p.length+2*B8 x≤1000→wN x≤100000→Pure X 126 [nd x,str p] (str (Br x p))) :
 Pure X 126 [nd (.mk 30 [] 0 l),str p] (str (Fp l p)):=by
 rw [Ob]
 refine Ahd 30 (.inl rfl) l _ p (by omega) hw fun x hx=>⟨ih x hx p (by have:=D2 hx;omega) (by have:=Mh hx;omega),Zv x (hl x hx) p (by have:=D2 hx;omega)⟩
theorem Ap2 (x:Nd)(h:FV x)(p:List UInt8)(hp:p.length≤1000)(hw:wN x≤100000):Pure X 126 [nd x,str p] (str (Br x p)):=by
 cases h with
 | var s h =>
   simp [wN,wL] at hw
   refine Pure.run Tryz.func126 ?_
   refine AK.ct ?_ ?_
   ·simp;omega
   refine AK.yes ?_
   refine AK.ct ?_ ?_
   ·simp;omega
   refine AK.ct ?_ ?_
   ·simp;omega
   refine AK.ct ?_ ?_
   ·simp;omega
   refine AK.rt Tryz.func126 ?_
   simp [Br,B3]
 | arr s m h h0 h1 =>
   simp [wN,wL] at hw
   have hd:=Qh m.toNat (by omega)
   refine Pure.run Tryz.func126 ?_
   refine AK.ct ?_ ?_
   ·simp;omega
   refine AK.no ?_
   refine AK.yes ?_
   refine AK.if_ (fun h2=>?_) (fun h2=>?_)
   ·have h2':0≤m:=of_decide_eq_true h2
    obtain ⟨q,rfl⟩:∃ q:Nat,m=q:=⟨m.toNat,by omega⟩
    refine AK.pc (Adl q (by omega)) ?_
    simp only [Int.toNat_natCast] at hd
    refine AK.ct ?_ ?_
    ·simp;omega
    refine AK.ct ?_ ?_
    ·simp;omega
    refine AK.ct ?_ ?_
    ·simp;omega
    refine AK.ct ?_ ?_
    ·simp;omega
    refine AK.ct ?_ ?_
    ·simp;omega
    refine AK.rt Tryz.func126 ?_
    simp [Br,B3,h2']
   ·have h2':¬ 0≤m:=of_decide_eq_false h2
    refine AK.ct ?_ ?_
    ·simp;omega
    refine AK.ct ?_ ?_
    ·simp;omega
    refine AK.ct ?_ ?_
    ·simp;omega
    refine AK.ct ?_ ?_
    ·simp;omega
    refine AK.ct ?_ ?_
    ·simp;omega
    refine AK.rt Tryz.func126 ?_
    simp [Br,B3,h2']
theorem Ap1 (x:Nd)(h:FS x):∀ p:List UInt8,p.length+2*B8 x≤1000→wN x≤100000→Pure X 126 [nd x,str p] (str (Br x p)):=by
 induction h with
 | set s a h ha =>
   intro p hp hw
   refine Pure.run Tryz.func126 ?_
   refine AK.ct ?_ ?_
   ·simp;omega
   refine AK.no ?_
   refine AK.no ?_
   have hl:=Dh a ha
   simp [wN,wL] at hw
   refine AK.yes ?_
   refine AK.db 0 ?_
   refine Drv.cg ?_ ?_
   ·simp;omega
   refine Drv.cg ?_ ?_
   ·simp;omega
   refine Drv.ig 0 (by omega) (Rb a _) ?_
   refine As (Oi a ha (by omega)) ?_
   refine Drv.cg ?_ ?_
   ·simp;omega
   refine Drv.cg ?_ ?_
   ·simp;omega
   refine Drv.z ?_
   refine AK.rt Tryz.func126 ?_
   simp [Br,B3]
 | put s a b h ha hb =>
   intro p hp hw
   refine Pure.run Tryz.func126 ?_
   refine AK.ct ?_ ?_
   ·simp;omega
   refine AK.no ?_
   refine AK.no ?_
   have hl:=Dh a ha
   have hl2:=Dh b hb
   simp [wN,wL] at hw
   have hT:Br (.mk 22 s 0 [a,b]) p=p++s++[91]++Bd a++[93,32,61,32]++Bd b++[59,10]:=by cases b;simp [Br]
   rw [hT]
   refine AK.no ?_
   refine AK.yes ?_
   refine AK.db 0 ?_
   refine Drv.cg ?_ ?_
   ·simp;omega
   refine Drv.cg ?_ ?_
   ·simp;omega
   refine Drv.ig 0 (by omega) (Rb a _) ?_
   refine As (Oi a ha (by omega)) ?_
   refine Drv.cg ?_ ?_
   ·simp;omega
   refine Drv.cg ?_ ?_
   ·simp;omega
   refine Drv.ig 1 (by omega) (Yy a b _) ?_
   refine As (Oi b hb (by omega)) ?_
   refine Drv.cg ?_ ?_
   ·simp;omega
   refine Drv.cg ?_ ?_
   ·simp;omega
   refine Drv.z ?_
   refine AK.rt Tryz.func126 ?_
   simp [B3]
 | read s h =>
   intro p hp hw
   refine Pure.run Tryz.func126 ?_
   refine AK.ct ?_ ?_
   ·simp;omega
   refine AK.no ?_
   refine AK.no ?_
   simp [wN,wL] at hw
   refine AK.no ?_
   refine AK.no ?_
   refine AK.yes ?_
   refine AK.ct ?_ ?_
   ·simp;omega
   refine AK.ct ?_ ?_
   ·simp;omega
   refine AK.ct ?_ ?_
   ·simp;omega
   refine AK.rt Tryz.func126 ?_
   simp [Br,B3]
 | check c hc =>
   intro p hp hw
   refine Pure.run Tryz.func126 ?_
   refine AK.ct ?_ ?_
   ·simp;omega
   refine AK.no ?_
   refine AK.no ?_
   have hl:=K9 c hc
   simp [wN,wL] at hw
   refine AK.no ?_
   refine AK.no ?_
   refine AK.no ?_
   refine AK.yes ?_
   refine AK.ct ?_ ?_
   ·simp;omega
   refine AK.ix 0 (by omega) (Rb c _) ?_
   refine AK.pc (Abx c hc (by omega)) ?_
   refine AK.ct ?_ ?_
   ·simp;omega
   refine AK.ct ?_ ?_
   ·simp;omega
   refine AK.rt Tryz.func126 ?_
   simp [Br,B3]
 | skip =>
   intro p hp hw
   refine Pure.run Tryz.func126 ?_
   refine AK.ct ?_ ?_
   ·simp;omega
   refine AK.no ?_
   refine AK.no ?_
   refine AK.no ?_
   refine AK.no ?_
   refine AK.no ?_
   refine AK.no ?_
   refine AK.yes ?_
   refine AK.ct ?_ ?_
   ·simp;omega
   refine AK.rt Tryz.func126 ?_
   simp [Br,B3]
 | stop =>
   intro p hp hw
   refine Pure.run Tryz.func126 ?_
   refine AK.ct ?_ ?_
   ·simp;omega
   refine AK.no ?_
   refine AK.no ?_
   refine AK.no ?_
   refine AK.no ?_
   refine AK.no ?_
   refine AK.no ?_
   refine AK.no ?_
   refine AK.yes ?_
   refine AK.ct ?_ ?_
   ·simp;omega
   refine AK.rt Tryz.func126 ?_
   simp [Br,B3]
 | whil c l hc hl ihl =>
   intro p hp hw
   refine Pure.run Tryz.func126 ?_
   refine AK.ct ?_ ?_
   ·simp;omega
   refine AK.no ?_
   refine AK.no ?_
   have h1:=K9 c hc
   simp only [B8,D1] at hp
   simp [wN,wL] at hw
   have hlen:=M1 c l (p++[32,32]) hl (by simp;omega)
   have hB:=Ti l (p++[32,32]) hl (by simp;omega) (by omega) ihl
   refine AK.no ?_
   refine AK.no ?_
   refine AK.no ?_
   refine AK.no ?_
   refine AK.no ?_
   refine AK.no ?_
   refine AK.yes ?_
   refine AK.db 0 ?_
   refine Drv.cg ?_ ?_
   ·simp;omega
   refine Drv.ig 0 (by omega) (Rb c _) ?_
   refine As (Abx c hc (by omega)) ?_
   refine Drv.cg ?_ ?_
   ·simp;omega
   refine Drv.cg ?_ ?_
   ·simp;omega
   refine Drv.ig 1 (by omega) (Yy c _ _) ?_
   refine As hB ?_
   refine Drv.cg ?_ ?_
   ·simp;omega
   refine Drv.cg ?_ ?_
   ·simp;omega
   refine Drv.cg ?_ ?_
   ·simp;omega
   refine Drv.z ?_
   refine AK.rt Tryz.func126 ?_
   simp [Br,B3]
 | for_ s a b l h ha hb hl ihl =>
   intro p hp hw
   refine Pure.run Tryz.func126 ?_
   refine AK.ct ?_ ?_
   ·simp;omega
   refine AK.no ?_
   refine AK.no ?_
   have h1:=Dh a ha
   have h2:=Dh b hb
   simp only [B8,D1] at hp
   simp [wN,wL] at hw
   have hlen:=M1 a l (p++[32,32]) hl (by simp;omega)
   have hB:=Ti l (p++[32,32]) hl (by simp;omega) (by omega) ihl
   have hT:Br (.mk 26 s 0 [a,b,.mk 30 [] 0 l]) p=p++[102,111,114,32]++s++[32,102,114,111,109,32]++Bd a++[32,116,111,32]++Bd b++[32,123,10]++Fp l (p++[32,32])++p++[125,10]:=by
    cases b;simp [Br]
   rw [hT]
   refine AK.no ?_
   refine AK.no ?_
   refine AK.no ?_
   refine AK.no ?_
   refine AK.no ?_
   refine AK.no ?_
   refine AK.no ?_
   refine AK.yes ?_
   refine AK.db 0 ?_
   refine Drv.cg ?_ ?_
   ·simp;omega
   refine Drv.cg ?_ ?_
   ·simp;omega
   refine Drv.cg ?_ ?_
   ·simp;omega
   refine Drv.ig 0 (by omega) (Rb a _) ?_
   refine As (Oi a ha (by omega)) ?_
   refine Drv.cg ?_ ?_
   ·simp;omega
   refine Drv.cg ?_ ?_
   ·simp;omega
   refine Drv.ig 1 (by omega) (Yy a b _) ?_
   refine As (Oi b hb (by omega)) ?_
   refine Drv.cg ?_ ?_
   ·simp;omega
   refine Drv.cg ?_ ?_
   ·simp;omega
   refine Drv.ig 2 (by omega) (Aq1 a b _ _) ?_
   refine As hB ?_
   refine Drv.cg ?_ ?_
   ·simp;omega
   refine Drv.cg ?_ ?_
   ·simp;omega
   refine Drv.cg ?_ ?_
   ·simp;omega
   refine Drv.z ?_
   refine AK.rt Tryz.func126 ?_
   simp [B3]
 | ifs c l l' hc hl hl' ihl ihl' =>
   intro p hp hw
   refine Pure.run Tryz.func126 ?_
   refine AK.ct ?_ ?_
   ·simp;omega
   refine AK.no ?_
   refine AK.no ?_
   have h1:=K9 c hc
   simp only [B8,D1] at hp
   simp [wN,wL] at hw
   have hlen:=M1 c l (p++[32,32]) hl (by simp;omega)
   have hB:=Ti l (p++[32,32]) hl (by simp;omega) (by omega) ihl
   have hlen':=M1 c l' (p++[32,32]) hl' (by simp;omega)
   have hB':=Ti l' (p++[32,32]) hl' (by simp;omega) (by omega) ihl'
   refine AK.no ?_
   refine AK.no ?_
   refine AK.no ?_
   refine AK.no ?_
   refine AK.no ?_
   refine AK.no ?_
   refine AK.no ?_
   refine AK.no ?_
   refine AK.yes ?_
   refine AK.db 0 ?_
   refine Drv.cg ?_ ?_
   ·simp;omega
   refine Drv.ig 0 (by omega) (Rb c _) ?_
   refine As (Abx c hc (by omega)) ?_
   refine Drv.cg ?_ ?_
   ·simp;omega
   refine Drv.cg ?_ ?_
   ·simp;omega
   refine Drv.ig 1 (by omega) (Yy c _ _) ?_
   refine As hB ?_
   refine Drv.cg ?_ ?_
   ·simp;omega
   refine Drv.cg ?_ ?_
   ·simp;omega
   refine Drv.z ?_
   refine AK.ix 2 (by omega) (Aq1 c _ _ _) ?_
   cases l' with
   | nil =>
     refine AK.no ?_
     refine AK.ct ?_ ?_
     ·simp;omega
     refine AK.rt Tryz.func126 ?_
     simp [Br,B3]
   | cons y l' =>
     refine AK.yes ?_ (ht:=decide_eq_true (by simp [Ak]))
     refine AK.ct ?_ ?_
     ·simp;omega
     refine AK.ix 2 (by omega) (Aq1 c _ _ _) ?_
     refine AK.pc hB' ?_
     refine AK.ct ?_ ?_
     ·simp;omega
     refine AK.ct ?_ ?_
     ·simp;omega
     refine AK.ct ?_ ?_
     ·simp;omega
     refine AK.rt Tryz.func126 ?_
     simp [Br,B3]
def RS.wk (r:RS):Prop:=∀ w:Wd,w∈r.ws→w.kind=B9 w.text
theorem RS.after.wk {r r':RS}(h:r.after r')(hw:r.wk):r'.wk:=by unfold RS.wk;rw [h.1];exact hw
theorem Afc {s:List UInt8}(h:B9 s=1):nameS s=true:=by
 simp only [B9] at h
 split at h
 ·simp at h
 ·split at h
  ·assumption
  ·split at h
   ·simp at h
   ·split at h<;>simp at h
theorem Um {s:List UInt8}(h:B9 s=2):0≤Cc s:=by
 simp only [B9] at h
 split at h
 ·simp at h
 ·split at h
  ·simp at h
  ·split at h
   ·assumption
   ·split at h<;>simp at h
theorem Adi:∀ (l:List UInt8)(n:Int),M5 n l≤1000000
 | [],n=>by simp only [M5];split<;>omega
 | c::l,n=>by
   simp only [M5]
   split
   ·exact Adi l _
   ·omega
theorem Xx (s:List UInt8):Cc s≤1000000:=by
 unfold Cc
 split
 ·omega
 ·split
  ·omega
  ·split
   ·omega
   ·exact Adi _ _
theorem Lb {r:RS}(hw:r.wk)(h:r.kind≠0):r.kind=B9 r.text:=by
 have hlt:=Oa h
 obtain ⟨w,hwd⟩:=Ac r.ws hlt
 have:=hw w (List.mem_of_getElem? hwd)
 simp only [RS.kind,RS.text,hwd];exact this
theorem Afk {r:RS}(hw:r.wk)(h:r.named=true):nameS r.text=true:=by
 simp only [RS.named,Bool.not_eq_true',Bool.or_eq_false_iff,Bool.not_eq_false',beq_iff_eq] at h
 have:=Lb hw (by rw [h.2];simp)
 exact Afc (by rw [← this];exact h.2)
theorem Hc {r:RS}(hw:r.wk)(h:r.nameR.bad=false):r.named=true∧nameS r.name=true∧r.nameR=r.step∧r.bad=false:=by
 by_cases hn:r.named=true
 ·have hb:r.bad=false:=by simp only [RS.named,Bool.not_eq_true',Bool.or_eq_false_iff] at hn;exact hn.1
  refine ⟨hn,?_,by simp [RS.nameR,hn],hb⟩
  simp only [RS.name,hn,if_true]
  exact Afk hw hn
 ·simp only [RS.nameR,hn,RS.spoil] at h;simp at h
theorem Dm {r:RS}{s:List UInt8}(h:(r.need s).bad=false):r.takes s=true∧r.need s=r.step∧r.bad=false:=by
 by_cases hn:r.takes s=true
 ·refine ⟨hn,by simp [RS.need,hn],?_⟩
  simp only [RS.takes,Bool.not_eq_true',Bool.or_eq_false_iff] at hn;exact hn.1
 ·simp only [RS.need,hn,RS.spoil] at h;simp at h
theorem Va {r:RS}{s:List UInt8}(h:r.takes s=true):r.bad=false:=by
 simp only [RS.takes,Bool.not_eq_true',Bool.or_eq_false_iff] at h;exact h.1
theorem Gi {b c:Bool}(h:b=true→c=true)(hc:c=false):b=false:=by
 cases b
 ·rfl
 ·rw [h rfl] at hc;cases hc
theorem Ae5:∀ (f:Nat),(∀ r:RS,r.ok→r.wk→4*r.left+1≤f→(Db f r).2.bad=false→FE (Db f r).1∧r.at_+Ai (Db f r).1≤(Db f r).2.at_) ∧
 (∀ r:RS,r.ok→r.wk→4*r.left+2≤f→(Co f r).2.bad=false→FE (Co f r).1∧r.at_+Ai (Co f r).1≤(Co f r).2.at_) ∧
 (∀ (x:Nd)(a:Nat)(r:RS),r.ok→r.wk→FE x→a+Ai x≤r.at_→4*r.left+1≤f→(Ey f x r).2.bad=false→FE (Ey f x r).1∧a+Ai (Ey f x r).1≤(Ey f x r).2.at_) ∧
 (∀ r:RS,r.ok→r.wk→4*r.left+3≤f→(C0 f r).2.bad=false→FE (C0 f r).1∧r.at_+Ai (C0 f r).1≤(C0 f r).2.at_) ∧
 (∀ (x:Nd)(a:Nat)(r:RS),r.ok→r.wk→FE x→a+Ai x≤r.at_→4*r.left+2≤f→(Ec f x r).2.bad=false→FE (Ec f x r).1∧a+Ai (Ec f x r).1≤(Ec f x r).2.at_):=by
 intro f
 induction f with
 | zero=>exact ⟨fun r _ _ h=>by omega,fun r _ _ h=>by omega,fun x a r _ _ _ _ h=>by omega,fun r _ _ h=>by omega,fun x a r _ _ _ _ h=>by omega⟩
 | succ f ih =>
   obtain ⟨i1,i2,i3,i4,i5⟩:=ih
   obtain ⟨b1,b2,b3,b4,b5⟩:=Ue f
   obtain ⟨a1,a2,a3,a4,a5⟩:=De f
   refine ⟨fun r ho hw hf hg=>?_,fun r ho hw hf hg=>?_,fun x a r ho hw hx ha hf hg=>?_,fun r ho hw hf hg=>?_,fun x a r ho hw hx ha hf hg=>?_⟩
   ·have hb:r.bad=false:=Gi (fun h=>(Ue (f+1)).1 r h) hg
    simp only [Db] at hg ⊢
    rw [if_neg (by simp [hb])] at hg ⊢
    split at hg
    ·rename_i ht
     have hl:=(An ht (by simp)).1
     have ls:=Bm hl
     have s:=Ah hl
     obtain ⟨g1,g2⟩:=i1 r.step (s.ok ho) (s.wk hw) (by omega) hg
     rw [if_pos ht]
     refine ⟨.neg _ g1,?_⟩
     simp only [Ai,Ar,RS.step] at g2 ⊢;omega
    rename_i ht1
    rw [if_neg ht1]
    split at hg
    ·rename_i hk
     rw [if_pos hk]
     have hk':r.kind=2:=by simpa using hk
     have:=Lb hw (by rw [hk'];simp)
     refine ⟨.num _ (Um (by rw [← this];exact hk')) (Xx _),?_⟩
     simp [Ai,Ar,RS.step]
    rename_i hk
    rw [if_neg hk]
    split at hg
    ·rename_i ht
     have hl:=(An ht (by simp)).1
     have ls:=Bm hl
     have s:=Ah hl
     obtain ⟨n1,n2,n3⟩:=Dm hg
     obtain ⟨g1,g2⟩:=i4 r.step (s.ok ho) (s.wk hw) (by omega) n3
     rw [if_pos ht]
     refine ⟨g1,?_⟩
     simp only [n2]
     simp only [RS.step] at g2 ⊢;omega
    rename_i ht2
    rw [if_neg ht2]
    split at hg
    ·rename_i ht
     have hl:=(An ht (by simp)).1
     have s:=Ah hl
     obtain ⟨n1,n2,n3⟩:=Dm hg
     have s2:=s.trans (Ay (s:=[40]) (s.ok ho) (by simp))
     obtain ⟨m1,m2,m3,m4⟩:=Hc (s2.wk hw) n3
     rw [if_pos ht]
     refine ⟨.len _ m2,?_⟩
     have e4:=(Dm m4).2.1
     have:((r.step.need [40]).nameR.need [41]).at_=r.at_+4:=by rw [n2,m3,e4];rfl
     simp only [Ai,Ar];omega
    rename_i ht3
    rw [if_neg ht3]
    split at hg
    ·rename_i ht
     rw [if_pos ht]
     obtain ⟨m1,m2,m3,m4⟩:=Hc hw (Va ht)
     have hl:=(An ht (by simp)).1
     have s:=(Bt ho).trans (Ah hl)
     have s':=A1 (Bt ho)
     have ls:=Bm hl
     obtain ⟨n1,n2,n3⟩:=Dm hg
     obtain ⟨g1,g2⟩:=i4 r.nameR.step (s.ok ho) (s.wk hw) (by omega) n3
     refine ⟨.cell _ _ m2 g1,?_⟩
     simp only [n2]
     simp only [m3,RS.step,Ai,Ar] at g2 ⊢;omega
    ·rename_i ht
     rw [if_neg ht]
     obtain ⟨m1,m2,m3,m4⟩:=Hc hw hg
     refine ⟨.var _ m2,?_⟩
     simp [m3,RS.step,Ai,Ar]
   ·simp only [Co] at hg ⊢
    have h1:=Gi (b3 (Db f r).1 (Db f r).2) hg
    obtain ⟨g1,g2⟩:=i1 r ho hw (by omega) h1
    have af:=a1 r ho
    have lf:=A1 af
    exact i3 _ r.at_ _ (af.ok ho) (af.wk hw) g1 g2 (by omega) hg
   ·simp only [Ey] at hg ⊢
    split at hg
    ·rename_i ht
     rw [if_pos ht]
     have hl:=(An ht (by simp)).1
     have ls:=Bm hl
     have s:=Ah hl
     have h1:=Gi (b3 _ (Db f r.step).2) hg
     obtain ⟨g1,g2⟩:=i1 r.step (s.ok ho) (s.wk hw) (by omega) h1
     have af:=s.trans (a1 r.step (s.ok ho))
     have lf:=A1 (a1 r.step (s.ok ho))
     refine i3 _ a _ (af.ok ho) (af.wk hw) (.two 8 _ _ (by simp) hx g1) ?_ (by omega) hg
     simp only [RS.step,Ai,Ar] at g2 ⊢;omega
    ·rename_i ht
     rw [if_neg ht]
     exact ⟨hx,ha⟩
   ·simp only [C0] at hg ⊢
    have h1:=Gi (b5 (Co f r).1 (Co f r).2) hg
    obtain ⟨g1,g2⟩:=i2 r ho hw (by omega) h1
    have af:=a2 r ho
    have lf:=A1 af
    exact i5 _ r.at_ _ (af.ok ho) (af.wk hw) g1 g2 (by omega) hg
   ·simp only [Ec] at hg ⊢
    split at hg
    ·rename_i ht
     rw [if_pos ht]
     have hl:=(An ht (by simp)).1
     have ls:=Bm hl
     have s:=Ah hl
     have h1:=Gi (b5 _ (Co f r.step).2) hg
     obtain ⟨g1,g2⟩:=i2 r.step (s.ok ho) (s.wk hw) (by omega) h1
     have af:=s.trans (a2 r.step (s.ok ho))
     have lf:=A1 (a2 r.step (s.ok ho))
     refine i5 _ a _ (af.ok ho) (af.wk hw) (.two 6 _ _ (by simp) hx g1) ?_ (by omega) hg
     simp only [RS.step,Ai,Ar] at g2 ⊢;omega
    ·rename_i ht1
     rw [if_neg ht1]
     split at hg
     ·rename_i ht
      rw [if_pos ht]
      have hl:=(An ht (by simp)).1
      have ls:=Bm hl
      have s:=Ah hl
      have h1:=Gi (b5 _ (Co f r.step).2) hg
      obtain ⟨g1,g2⟩:=i2 r.step (s.ok ho) (s.wk hw) (by omega) h1
      have af:=s.trans (a2 r.step (s.ok ho))
      have lf:=A1 (a2 r.step (s.ok ho))
      refine i5 _ a _ (af.ok ho) (af.wk hw) (.two 7 _ _ (by simp) hx g1) ?_ (by omega) hg
      simp only [RS.step,Ai,Ar] at g2 ⊢;omega
     ·rename_i ht
      rw [if_neg ht]
      exact ⟨hx,ha⟩
theorem H5 {r:RS}(ho:r.ok)(hw:r.wk)(h:(Bj r).2.bad=false):FE (Bj r).1∧r.at_+Ai (Bj r).1≤(Bj r).2.at_ :=
 (Ae5 6010).2.2.2.1 r ho hw (by have:=ho.1;simp only [RS.left];omega) h
theorem X9 {s:List UInt8}(h:relS s≠0):11≤relS s∧relS s≤16:=by
 unfold relS at h ⊢
 repeat' split
 all_goals (first | omega | simp_all)
theorem Nt {r:RS}(ho:r.ok)(hw:r.wk)(h:(Cb r).2.bad=false):FC (Cb r).1∧r.at_+Ai (Cb r).1≤(Cb r).2.at_:=by
 simp only [Cb] at h ⊢
 split at h
 ·simp [RS.spoil] at h
 ·rename_i hc
  rw [if_neg hc]
  simp only [Bool.or_eq_true,not_or,beq_iff_eq,Bool.not_eq_true] at hc
  have hl:=Qx hc.2
  have a:=Bl ho
  have b:=a.trans (Ah hl)
  obtain ⟨g1,g2⟩:=H5 ho hw hc.1
  obtain ⟨g3,g4⟩:=H5 (b.ok ho) (b.wk hw) h
  have hr:=X9 hc.2
  refine ⟨.mk _ _ _ hr.1 hr.2 g1 g3,?_⟩
  simp only [RS.step,Ai,Ar] at g4 ⊢;omega
theorem Ak5 {r:RS}(h:r.bad=true):(Nc r).2.bad=true:=by
 simp only [Nc]
 rw [if_neg (by simp [Ce (Y9 h)])]
 exact K3 (Pi (Y9 h) _)
theorem Aco {r:RS}(h:r.bad=true):(Bw r).2.bad=true:=by
 simp only [Bw]
 rw [if_neg (by simp [Ce h]),if_neg (by simp [Ce h]),if_neg (by simp [Ce h]),if_neg (by simp [Ce h])]
 exact Ak5 h
theorem Acc {r:RS}(ho:r.ok)(hw:r.wk)(h:(Bw r).2.bad=false):FS (Bw r).1∧r.at_+Ai (Bw r).1≤(Bw r).2.at_:=by
 simp only [Bw] at h ⊢
 split at h
 ·rename_i ht
  rw [if_pos ht]
  have s:=Ah (An ht (by simp)).1
  obtain ⟨g1,g2⟩:=Nt (s.ok ho) (s.wk hw) h
  refine ⟨.check _ g1,?_⟩
  simp only [RS.step,Ai,Ar] at g2 ⊢;omega
 rename_i ht1
 rw [if_neg ht1]
 split at h
 ·rename_i ht
  rw [if_pos ht]
  have s:=Ah (An ht (by simp)).1
  obtain ⟨m1,m2,m3,m4⟩:=Hc (s.wk hw) h
  refine ⟨.read _ m2,?_⟩
  rw [m3];simp [RS.step,Ai,Ar]
 rename_i ht2
 rw [if_neg ht2]
 split at h
 ·rename_i ht
  rw [if_pos ht]
  exact ⟨.skip,by simp [RS.step,Ai,Ar]⟩
 rename_i ht3
 rw [if_neg ht3]
 split at h
 ·rename_i ht
  rw [if_pos ht]
  exact ⟨.stop,by simp [RS.step,Ai,Ar]⟩
 rename_i ht4
 rw [if_neg ht4]
 simp only [Nc] at h ⊢
 split at h
 ·rename_i ht
  rw [if_pos ht]
  obtain ⟨m1,m2,m3,m4⟩:=Hc hw (Va ht)
  have s:=(Bt ho).trans (Ah (An ht (by simp)).1)
  have a1:=s.trans (Bl (s.ok ho))
  have a2:=a1.trans (Ay (s:=[93]) (a1.ok ho) (by simp))
  have a3:=a2.trans (Ay (s:=[61]) (a2.ok ho) (by simp))
  have hb:=Gi (fun h=>K3 h) h
  obtain ⟨n1,n2,n3⟩:=Dm hb
  obtain ⟨n4,n5,n6⟩:=Dm n3
  obtain ⟨g1,g2⟩:=H5 (s.ok ho) (s.wk hw) n6
  obtain ⟨g3,g4⟩:=H5 (a3.ok ho) (a3.wk hw) h
  refine ⟨.put _ _ _ m2 g1 g3,?_⟩
  have e1:(((Bj r.nameR.step).2.need [93]).need [61]).at_=(Bj r.nameR.step).2.at_+2:=by rw [n2,n5];rfl
  have e2:r.nameR.step.at_=r.at_+2:=by rw [m3];rfl
  simp only [Ai,Ar];omega
 ·rename_i ht
  rw [if_neg ht]
  have a1:=Bt ho
  have a2:=a1.trans (Ay (s:=[61]) (a1.ok ho) (by simp))
  have hb:=Gi (fun h=>K3 h) h
  obtain ⟨n1,n2,n3⟩:=Dm hb
  obtain ⟨m1,m2,m3,m4⟩:=Hc hw n3
  obtain ⟨g3,g4⟩:=H5 (a2.ok ho) (a2.wk hw) h
  refine ⟨.set _ _ m2 g3,?_⟩
  have e1:(r.nameR.need [61]).at_=r.at_+2:=by rw [n2,m3];rfl
  simp only [Ai,Ar];omega
theorem Aab:∀ (f:Nat),(∀ r:RS,r.bad=true→(B6 f r).2.bad=true)∧(∀ r:RS,r.bad=true→(Bs f r).2.bad=true)∧(∀ (acc:List Nd)(r:RS),r.bad=true→(Cm f acc r).2.bad=true):=by
 intro f
 induction f with
 | zero=>exact ⟨fun r h=>by simpa only [B6] using h,fun r h=>by simpa only [Bs] using h,fun x r h=>by simpa only [Cm] using h⟩
 | succ f ih =>
   obtain ⟨i1,i2,i3⟩:=ih
   refine ⟨fun r h=>?_,fun r h=>?_,fun acc r h=>?_⟩
   ·simp only [B6]
    rw [if_neg (by simp [Ce h]),if_neg (by simp [Ce h]),if_neg (by simp [Ce h])]
    exact Pi (Aco h) _
   ·simp only [Bs];exact Pi (i3 _ _ (Pi h _)) _
   ·simp only [Cm];rw [if_neg (by simp [h])];exact h
theorem Nu (l:List Nd)(x:Nd):Ar (l++[x])=Ar l+Ai x:=by rw [Jv];simp [Ar]
theorem Q0 (r:RS):r.step.at_=r.at_+1:=rfl
theorem Af4:∀ (f:Nat),(∀ r:RS,r.ok→r.wk→3*r.left+1≤f→(B6 f r).2.bad=false→FS (B6 f r).1∧r.at_+Ai (B6 f r).1≤(B6 f r).2.at_) ∧
 (∀ r:RS,r.ok→r.wk→3*r.left+3≤f→(Bs f r).2.bad=false→∃ l,(Bs f r).1=.mk 30 [] 0 l∧(∀ x,x∈l→FS x)∧r.at_+2+Ar l≤(Bs f r).2.at_) ∧
 (∀ (acc:List Nd)(a:Nat)(r:RS),r.ok→r.wk→(∀ x,x∈acc→FS x)→a+Ar acc≤r.at_→3*r.left+2≤f→(Cm f acc r).2.bad=false→(∀ x,x∈(Cm f acc r).1→FS x)∧a+Ar (Cm f acc r).1≤(Cm f acc r).2.at_):=by
 intro f
 induction f with
 | zero=>exact ⟨fun r _ _ h=>by omega,fun r _ _ h=>by omega,fun x a r _ _ _ _ h=>by omega⟩
 | succ f ih =>
   obtain ⟨i1,i2,i3⟩:=ih
   obtain ⟨b1,b2,b3⟩:=Aab f
   obtain ⟨a1,a2,a3⟩:=Dn f
   refine ⟨fun r ho hw hf hg=>?_,fun r ho hw hf hg=>?_,fun acc a r ho hw hx ha hf hg=>?_⟩
   ·simp only [B6] at hg ⊢
    split at hg
    ·rename_i ht
     rw [if_pos ht]
     have hl:=(An ht (by simp)).1
     have ls:=Bm hl
     have s:=Ah hl
     have c:=s.trans (Cg (s.ok ho))
     have lc:=A1 (Cg (s.ok ho))
     split at hg
     ·rename_i ht2
      rw [if_pos ht2]
      have hl2:=(An ht2 (by simp)).1
      have ls2:=Bm hl2
      have d:=c.trans (a2 _ (c.ok ho))
      have ld:=A1 (a2 _ (c.ok ho))
      have e:=d.trans (Ah hl2)
      have hb1:=Va ht2
      have hb2:=Gi (b2 (Cb r.step).2) hb1
      obtain ⟨g1,g2⟩:=Nt (s.ok ho) (s.wk hw) hb2
      obtain ⟨l,e1,h1,h2⟩:=i2 _ (c.ok ho) (c.wk hw) (by omega) hb1
      obtain ⟨l',e2,h3,h4⟩:=i2 _ (e.ok ho) (e.wk hw) (by omega) hg
      rw [e1,e2]
      refine ⟨.ifs _ _ _ g1 h1 h3,?_⟩
      simp only [Q0,Ai,Ar] at g2 h4 ⊢;omega
     ·rename_i ht2
      rw [if_neg ht2]
      have hb2:=Gi (b2 (Cb r.step).2) hg
      obtain ⟨g1,g2⟩:=Nt (s.ok ho) (s.wk hw) hb2
      obtain ⟨l,e1,h1,h2⟩:=i2 _ (c.ok ho) (c.wk hw) (by omega) hg
      rw [e1]
      refine ⟨.ifs _ _ [] g1 h1 (fun x hx=>by cases hx),?_⟩
      simp only [Q0,Ai,Ar] at g2 ⊢;omega
    rename_i ht1
    rw [if_neg ht1]
    split at hg
    ·rename_i ht
     rw [if_pos ht]
     have hl:=(An ht (by simp)).1
     have ls:=Bm hl
     have s:=Ah hl
     have c:=s.trans (Cg (s.ok ho))
     have lc:=A1 (Cg (s.ok ho))
     have hb2:=Gi (b2 (Cb r.step).2) hg
     obtain ⟨g1,g2⟩:=Nt (s.ok ho) (s.wk hw) hb2
     obtain ⟨l,e1,h1,h2⟩:=i2 _ (c.ok ho) (c.wk hw) (by omega) hg
     rw [e1]
     refine ⟨.whil _ _ g1 h1,?_⟩
     simp only [Q0,Ai,Ar] at g2 ⊢;omega
    rename_i ht2
    rw [if_neg ht2]
    split at hg
    ·rename_i ht
     rw [if_pos ht]
     have hl:=(An ht (by simp)).1
     have ls:=Bm hl
     have s:=Ah hl
     have fa:=s.trans (N4 (s.ok ho))
     have fb:=s.trans (H7 (s.ok ho))
     have lb:=A1 (H7 (s.ok ho))
     have d:=fb.trans (Bl (fb.ok ho))
     have ld:=A1 (Bl (fb.ok ho))
     have hb2:=Gi (b2 _) hg
     have hb3:=Gi (fun h=>K3 h) hb2
     obtain ⟨n1,n2,n3⟩:=Dm (r:=(Bj (S7 r.step)).2) (s:=V2) hb3
     have hb4:=Gi (fun h=>K3 h) n3
     obtain ⟨n4,n5,n6⟩:=Dm (r:=r.step.nameR) (s:=Gw) hb4
     obtain ⟨m1,m2,m3,m4⟩:=Hc (s.wk hw) n6
     obtain ⟨g1,g2⟩:=H5 (fa.ok ho) (fa.wk hw) n3
     obtain ⟨g3,g4⟩:=H5 (fb.ok ho) (fb.wk hw) hb2
     obtain ⟨l,e1,h1,h2⟩:=i2 _ (d.ok ho) (d.wk hw) (by omega) hg
     rw [e1]
     refine ⟨.for_ _ _ _ _ m2 g1 g3 h1,?_⟩
     have e2:(Uh r.step).at_=(Bj (S7 r.step)).2.at_+1:=by show ((Bj (S7 r.step)).2.need V2).at_=_;rw [n2];rfl
     have e3:(S7 r.step).at_=r.at_+3:=by show (r.step.nameR.need Gw).at_=_;rw [n5,m3];rfl
     simp only [Ai,Ar];omega
    ·rename_i ht3
     rw [if_neg ht3]
     obtain ⟨n1,n2,n3⟩:=Dm hg
     obtain ⟨g1,g2⟩:=Acc ho hw n3
     refine ⟨g1,?_⟩
     rw [n2];show r.at_+Ai (Bw r).1≤(Bw r).2.at_+1;omega
   ·simp only [Bs] at hg ⊢
    obtain ⟨n1,n2,n3⟩:=Dm hg
    have hb:=Gi (b3 [] _) n3
    obtain ⟨n4,n5,n6⟩:=Dm hb
    have hl:=(An n4 (by simp)).1
    have ls:=Bm hl
    have s:=Ay (s:=[123]) ho (by simp)
    rw [n5] at s n3 n2 ⊢
    obtain ⟨g1,g2⟩:=i3 [] r.step.at_ _ (s.ok ho) (s.wk hw) (fun x hx=>by cases hx) (by simp [Ar]) (by omega) n3
    refine ⟨_,rfl,g1,?_⟩
    rw [n2]
    simp only [Q0] at g2 ⊢;omega
   ·simp only [Cm] at hg ⊢
    split at hg
    ·rename_i hc
     rw [if_pos hc]
     have af:=a1 r ho
     have lf:=A1 af
     obtain ⟨p,rfl⟩:∃ p,f=p+1:=⟨f-1,by omega⟩
     have hb:=Gi (b3 _ (B6 (p+1) r).2) hg
     obtain ⟨g1,g2⟩:=i1 r ho hw (by omega) hb
     have hon:r.at_<(B6 (p+1) r).2.at_:=by
      rcases Tr p ho with h | h
      ·rw [hb] at h;cases h
      ·exact h
     have hlt:(B6 (p+1) r).2.left+1≤r.left:=by
      have e1:=af.1
      have e2:=af.2.2
      simp only [RS.left,e1] at *
      omega
     refine i3 _ a _ (af.ok ho) (af.wk hw) (fun x hx'=>?_) ?_ (by omega) hg
     ·rcases List.mem_append.1 hx' with h | h
      ·exact hx x h
      ·simp at h;subst h;exact g1
     ·rw [Nu];omega
    ·rename_i hc
     rw [if_neg hc]
     exact ⟨hx,ha⟩
theorem Af0 {r:RS}(hw:r.wk)(h:(Fy r).2.bad=false):-1≤(Fy r).1∧(Fy r).1≤1000000∧(Fy r).2.at_=r.at_+1∧r.bad=false:=by
 simp only [Fy] at h ⊢
 split at h
 ·rename_i hc
  rw [if_pos hc]
  simp only [Bool.and_eq_true,Bool.not_eq_true',beq_iff_eq] at hc
  have hk:=Lb hw (by rw [hc.2];simp)
  have:=Um (by rw [← hk];exact hc.2)
  exact ⟨by simp only;omega,Xx _,rfl,hc.1⟩
 ·rename_i hc
  rw [if_neg hc]
  obtain ⟨n1,n2,n3⟩:=Dm h
  exact ⟨by simp,by simp,by rw [n2];rfl,n3⟩
theorem Ae3 {r:RS}(ho:r.ok)(hw:r.wk)(hd:Ep r=true)(h:(Gq r).2.bad=false):FV (Gq r).1∧Ai (Gq r).1=1∧r.at_+1≤(Gq r).2.at_:=by
 have af:=Ic ho hd
 have hlt:=af.2
 have s:=Ah hlt
 refine ⟨?_,?_,?_⟩
 ·simp only [Gq] at h ⊢
  split at h
  ·rename_i ht
   rw [if_pos ht]
   exact .var _ (Hc (s.wk hw) h).2.1
  ·rename_i ht
   rw [if_neg ht]
   obtain ⟨n1,n2,n3⟩:=Dm h
   have s2:=s.trans (Bt (s.ok ho))
   have s3:=s2.trans (Ay (s:=[91]) (s2.ok ho) (by simp))
   obtain ⟨g1,g2,g3,g4⟩:=Af0 (s3.wk hw) n3
   obtain ⟨n4,n5,n6⟩:=Dm g4
   exact .arr _ _ (Hc (s.wk hw) n6).2.1 g1 g2
 ·simp only [Gq];split<;>simp [Ai,Ar]
 ·have:=af.1.2.1
  rw [Q0] at this;exact this
theorem Aew:∀ (f:Nat)(acc:List Nd)(r:RS),r.bad=true→(C4 f acc r).2.bad=true
 | 0,acc,r,h=>by simpa only [C4] using h
 | f+1,acc,r,h=>by simp only [C4];rw [if_neg (by simp [Ep,Ce h])];exact h
theorem Vk:∀ (f:Nat)(acc:List Nd)(a:Nat)(r:RS),r.ok→r.wk→(∀ x,x∈acc→FV x)→a+Ar acc≤r.at_→(C4 f acc r).2.bad=false →
 (∀ x,x∈(C4 f acc r).1→FV x)∧a+Ar (C4 f acc r).1≤(C4 f acc r).2.at_
 | 0,acc,a,r,ho,hw,hx,ha,h=>by simp only [C4] at h ⊢;exact ⟨hx,ha⟩
 | f+1,acc,a,r,ho,hw,hx,ha,h=>by
   simp only [C4] at h ⊢
   split at h
   ·rename_i hd
    rw [if_pos hd]
    have hb:=Gi (Aew f _ _) h
    obtain ⟨n1,n2,n3⟩:=Dm hb
    obtain ⟨g1,g2,g3⟩:=Ae3 ho hw hd n3
    obtain ⟨d1,d2⟩:=Ic ho hd
    have s:=(Ah d2).trans d1
    have s2:=s.trans (Ay (s:=[59]) (s.ok ho) (by simp))
    refine Vk f _ a _ (s2.ok ho) (s2.wk hw) (fun x hx'=>?_) ?_ h
    ·rcases List.mem_append.1 hx' with h' | h'
     ·exact hx x h'
     ·simp at h';subst h';exact g1
    ·rw [Nu,n2,Q0];omega
   ·rename_i hd
    rw [if_neg hd]
    exact ⟨hx,ha⟩
theorem R5 {r:RS}(ho:r.ok)(hw:r.wk)(h:(Ct r).2.bad=false):FP (Ct r).1∧r.at_+Ai (Ct r).1≤(Ct r).2.at_+2∧(Ct r).2.at_=r.ws.length:=by
 simp only [Ct] at h ⊢
 generalize hT:C4 2000 [] r=T at h ⊢
 have aT:r.after T.2:=by rw [← hT];exact Ks 2000 [] r ho
 have aL:=(Dn 5000).2.2 [] T.2 (aT.ok ho)
 simp only [RS.ends] at h ⊢
 split at h
 ·simp [RS.spoil] at h
 ·rename_i hc
  rw [if_neg hc]
  have hb:=Gi ((Aab 5000).2.2 [] T.2) h
  obtain ⟨g1,g2⟩:=(Af4 5000).2.2 [] T.2.at_ T.2 (aT.ok ho) (aT.wk hw) (fun x hx=>by cases hx) (by simp [Ar]) (by have:=(aT.ok ho).1;simp only [RS.left];omega) h
  obtain ⟨g3,g4⟩:=Vk 2000 [] r.at_ r ho hw (fun x hx=>by cases hx) (by simp [Ar]) (by rw [hT];exact hb)
  rw [hT] at g3 g4
  refine ⟨.mk _ _ g3 g1,?_,?_⟩
  ·simp only [Ai,Nu,Ar];omega
  ·have e:=(aT.trans aL).1
   have:=aL.2.2
   have e2:(Cm 5000 [] T.2).2.ws=r.ws:=e
   rw [e2] at this hc
   omega
theorem AK.as_ {X:Cx}{B:Bx}{F:B7}{S:St}{R:AE→St→Prop}{K:List Item}(d:Nat)(y:AV)(hk:AK X B K ((d,y)::F) S R)(h:lk F d=some y:=by rfl):AK X B K F S R:=by
 intro E w a b cs hI hF hn hm hb
 refine hk E w a b cs hI ⟨hF.size,hF.nod,fun k z hz=>?_⟩ hn hm hb
 rw [Iz] at hz
 split at hz
 ·rename_i he
  subst he
  cases hz
  exact hF.rel _ _ h
 ·exact hF.rel k z hz
theorem Aak:∀ (f a:Nat)(r:List UInt8)(out:List Wd),out.length≤1500→(∀ w,w∈out→w.kind=B9 w.text)→(Ek f a r out).1.length≤1500∧∀ w,w∈(Ek f a r out).1→w.kind=B9 w.text
 | 0,a,r,out,h1,h2=>by simp only [Ek];exact ⟨h1,h2⟩
 | f+1,a,[],out,h1,h2=>by simp only [Ek];exact ⟨h1,h2⟩
 | f+1,a,c::l,out,h1,h2=>by
   simp only [Ek]
   split
   ·exact ⟨by simp,fun w hw=>by cases hw⟩
   ·split
    ·exact ⟨by simp,fun w hw=>by cases hw⟩
    ·rename_i hk
     refine Aak f _ _ _ ?_ fun w hw=>?_
     ·simp at hk ⊢;omega
     ·rcases List.mem_append.1 hw with h | h
      ·exact h2 w h
      ·simp at h;subst h;rfl
theorem Aal (s:List UInt8):(B0 s).1.length≤1500∧∀ w,w∈(B0 s).1→w.kind=B9 w.text:=by
 unfold B0
 split
 ·exact ⟨by simp,fun w hw=>by cases hw⟩
 ·exact Aak _ _ _ _ (by simp) (fun w hw=>by cases hw)
def RS.place (r:RS)(e:Nat):Nat:=match r.ws[r.at_]? with
 | some w=>w.pos
 | none=>e
def rs0 (s:List UInt8):RS:=⟨(B0 s).1,0,false⟩
theorem Ab9 (s:List UInt8):(rs0 s).ok:=⟨(Aal s).1,Nat.zero_le _⟩
theorem Aca (s:List UInt8):(rs0 s).wk:=(Aal s).2
def C6 (s:List UInt8):Nd × Int × Int :=
 if (B0 s).2.1=0 then
  (if (Ct (rs0 s)).2.bad then (Ca,4,(Ct (rs0 s)).2.place s.length)
  else if 500<Ai (Ct (rs0 s)).1∨24<B8 (Ct (rs0 s)).1 then (Ca,5,0) else ((Ct (rs0 s)).1,0,0))
 else (Ca,(B0 s).2.1,(B0 s).2.2)
theorem Ado {s:List UInt8}(h:(C6 s).2.1=0):FP (C6 s).1∧Ai (C6 s).1≤500∧B8 (C6 s).1≤24:=by
 unfold C6 at h ⊢
 split at h
 ·rename_i h0
  rw [if_pos h0]
  split at h
  ·simp at h
  ·rename_i hb
   rw [if_neg hb]
   split at h
   ·simp at h
   ·rename_i hl
    rw [if_neg hl]
    have:=R5 (Ab9 s) (Aca s) (by simpa using hb)
    exact ⟨this.1,by simp only;omega,by simp only;omega⟩
 ·rename_i h0
  exact absurd h h0
theorem Adp {r:RS}(ho:r.ok):r.after (Ct r).2:=by
 simp only [Ct]
 have aT:r.after (C4 2000 [] r).2:=Ks 2000 [] r ho
 have aL:=(Dn 5000).2.2 [] (C4 2000 [] r).2 (aT.ok ho)
 have a:=aT.trans aL
 simp only [RS.ends]
 split
 ·exact a.trans (L8 (a.ok ho))
 ·exact a
theorem Gh {s:List UInt8}(h:nameS s=true):s.length≤8:=by
 unfold nameS at h
 split at h
 ·simp
 ·simp only [Bool.and_eq_true,decide_eq_true_eq] at h
  have:=h.1.1.1
  simp;omega
theorem Ap4 (s:List UInt8)(hs:s.length≤1000000000):Pure X 127 [str s] (.tup [nd (C6 s).1,.agg [vi (C6 s).2.1,vi (C6 s).2.2]]):=by
 have hw:Pure X 176 [str s] (.tup [.sl (En (B0 s).1) .no,.agg [vi (B0 s).2.1,vi (B0 s).2.2]]):=Aqd s hs
 refine Pure.run Tryz.func127 ?_
 refine AK.pc hw ?_
 refine AK.if_ (fun h=>?_) (fun h=>?_)
 ·have h':(B0 s).2.1≠0:=by have:(!((B0 s).2.1==0))=true:=h;simpa using this
  have hP:C6 s=(Ca,(B0 s).2.1,((B0 s).2.2:Int)):=by simp only [C6];rw [if_neg h']
  rw [hP]
  refine AK.db 12 ?_
  refine Drv.wl (Ndo.store rfl rfl rfl rfl rfl rfl rfl) ?_ ?_
  ·exact A4 (Ndo.ev rfl rfl rfl) G8
  refine Drv.w (Ndo.store rfl rfl rfl rfl rfl rfl rfl) ?_
  refine Drv.z ?_
  refine AK.rz Tryz.func127 ?_
  rfl
 have h':(B0 s).2.1=0:=by have:(!((B0 s).2.1==0))=false:=h;simpa using this
 have hP:C6 s=if (Ct (rs0 s)).2.bad then (Ca,4,((Ct (rs0 s)).2.place s.length:Int)) else if 500<Ai (Ct (rs0 s)).1∨24<B8 (Ct (rs0 s)).1 then (Ca,5,0) else ((Ct (rs0 s)).1,0,0):=by
  simp only [C6];rw [if_pos h']
 rw [hP]
 have ho:=Ab9 s
 refine AK.as_ 6 (.ptr 3 0 0) ?_
 refine AK.as_ 22 (.ptr 3 0 0) ?_
 refine AK.hc [3] [] (Aur (rs0 s) ho) ?_
 have hws:(Ct (rs0 s)).2.ws=(B0 s).1:=(Adp ho).1
 have good:=R5 ho (Aca s)
 have hl0:=(Ab9 s).1
 generalize Ct (rs0 s)=q at good hws ⊢
 refine AK.if_ (fun h1=>?_) (fun h1=>?_)
 ·have h1':q.2.bad=true:=h1
  rw [if_pos h1']
  refine AK.if_ (fun h2=>?_) (fun h2=>?_)
  ·have hlt:q.2.at_<(B0 s).1.length:=by have:=of_decide_eq_true h2;rw [Cj] at this;omega
   obtain ⟨w,hw⟩:=Ac (B0 s).1 hlt
   have hp:q.2.place s.length=w.pos:=by simp [RS.place,hws,hw]
   refine AK.ix q.2.at_ (by omega) (Nj hw) ?_
   refine AK.rz Tryz.func127 ?_
   rw [hp];rfl
  ·have hlt:(B0 s).1.length≤q.2.at_:=by have:=of_decide_eq_false h2;rw [Cj] at this;omega
   have hp:q.2.place s.length=s.length:=by simp [RS.place,hws,List.getElem?_eq_none hlt]
   refine AK.rz Tryz.func127 ?_
   rw [hp];rfl
 ·have h1':q.2.bad=false:=h1
  obtain ⟨g1,g2,g3⟩:=good h1'
  have hc:Ai q.1≤4000000000:=by
   have e:(rs0 s).at_=0:=rfl
   omega
  rw [if_neg (by simp [h1'])]
  refine AK.pc (Ag8 q.1 hc) ?_
  refine AK.gd (fun h2=>?_) (fun h2=>?_)
  ·have h2':500<Ai q.1:=by have:=of_decide_eq_true h2;omega
   rw [if_pos (.inl h2')]
   refine AK.yes ?_
   refine AK.rz Tryz.func127 ?_
   rfl
  ·have h2':¬ 500<Ai q.1:=by have:=of_decide_eq_false h2;omega
   refine AK.pc (Ag9 q.1 hc) ?_
   refine AK.if_ (fun h3=>?_) (fun h3=>?_)
   ·have h3':24<B8 q.1:=by have:=of_decide_eq_true h3;omega
    rw [if_pos (.inr h3')]
    refine AK.rz Tryz.func127 ?_
    rfl
   ·have h3':¬ 24<B8 q.1:=by have:=of_decide_eq_false h3;omega
    rw [if_neg (by omega)]
    refine AK.rz Tryz.func127 ?_
    rfl
def Hi (n:Nd):List UInt8:=((n.kids.dropLast).map fun x=>Br x []).flatten++(match n.kids.getLast? with
 | some b=>Fp b.kids []
 | none=>[])
def Cd (n:Nd):Bool:=(n.kind==40&&O1 n)&&((!(Hi n==[])&&decide ((Hi n).length≤4000))&&(C6 (Hi n)).2.1==0)
theorem X2 (ds l:List Nd):Hi (.mk 40 [] 0 (ds++[.mk 30 [] 0 l]))=(ds.map fun x=>Br x []).flatten++Fp l []:=by
 simp [Hi]
theorem Ap5 (n:Nd)(h:FP n)(hd:B8 n≤24)(hw:wN n≤100000):Pure X 126 [nd n,str []] (str (Hi n))∧(Hi n).length≤4060*wN n:=by
 cases h with
 | mk ds l hd' hl =>
   rw [X2]
   simp only [B8] at hd
   have hdl:D1 l≤22:=by
    have:=D2 (l:=ds++[.mk 30 [] 0 l]) (x:=.mk 30 [] 0 l) (by simp)
    simp only [B8] at this;omega
   have hwl:wL (ds++[.mk 30 [] 0 l])≤100000:=by simp [wN] at hw;omega
   have hwb:=Mh (l:=ds++[.mk 30 [] 0 l]) (k:=.mk 30 [] 0 l) (by simp)
   simp only [wN] at hwb
   have hf:∀ x,x∈ds++[.mk 30 [] 0 l]→Pure X 126 [nd x,str []] (str (if x.kind=30 then Fp x.kids [] else Br x []))∧(if x.kind=30 then Fp x.kids [] else Br x []).length≤4060*wN x:=fun x hx=>by
    have hwx:=Mh hx
    rcases List.mem_append.1 hx with h | h
    ·have hv:=hd' x h
     have hk:¬ x.kind=30:=by cases hv<;>simp
     rw [if_neg hk]
     exact ⟨Ap2 x hv [] (by simp) (by omega),Ai4 x hv [] (by simp)⟩
    ·simp only [List.mem_singleton] at h
     subst h
     rw [if_pos (Jz 30 [] 0 l),D6]
     refine ⟨Ti l [] hl (by simp;omega) (by simp at hwb;omega) fun x hx=>Ap1 x (hl x hx),?_⟩
     have:=M1 (.mk 30 [] 0 l) l [] hl (by simp;omega)
     simp only [wN];omega
   have hp:=Ahd 40 (.inr rfl) _ _ [] (by simp) hwl hf
   have hT:((ds++[Nd.mk 30 [] 0 l]).map fun x=>if x.kind=30 then Fp x.kids [] else Br x []).flatten=(ds.map fun x=>Br x []).flatten++Fp l []:=by
    have e:(ds.map fun x=>if x.kind=30 then Fp x.kids [] else Br x [])=ds.map fun x=>Br x []:=by
     apply List.map_congr_left
     intro x hx
     have hv:=hd' x hx
     have hk:¬ x.kind=30:=by cases hv<;>simp
     rw [if_neg hk]
    rw [List.map_append,List.flatten_append,e];simp
   rw [hT] at hp
   refine ⟨hp,?_⟩
   have:=Xd fun x hx=>(hf x hx).2
   rw [hT] at this
   simp only [wN];omega
theorem Q7 (n:Nd)(h:Bq n=true):wN n≤9*Ai n:=by
 induction n using Nd.ind with
 | h n ih =>
   rw [H8,Bool.and_eq_true] at h
   have hall:=Ig h.2
   obtain ⟨_,hH⟩:=Zm h.1
   have hs:n.name.length≤8:=by
    have e:=hH.hs
    cases hb:(A7 n.kind).2.1 with
    | false=>rw [hb] at e;have h0:n.name=[]:=(by simpa using e);rw [h0];simp
    | true=>exact Gh (hH.hn hb)
   have key:∀ l:List Nd,(∀ x,x∈l→wN x≤9*Ai x)→wL l≤9*Ar l:=by
    intro l
    induction l with
    | nil=>intro _;simp [wL]
    | cons x l ihl =>
      intro hx
      have h1:=hx x (by simp)
      have h2:=ihl fun y hy=>hx y (by simp [hy])
      simp only [wL,Ar];omega
   have:=key n.kids fun x hx=>by
    obtain ⟨j,hj⟩:=Bo hx
    exact ih x hx (hall j x hj).2
   rw [Rn,Bv];omega
theorem Adm (n:Nd)(hn:wN n≤1000000000):Pure X 83 [nd n] (vb (Cd n)):=by
 refine Pure.run Tryz.func83 ?_
 refine AK.gd (fun h1=>?_) (fun h1=>?_)
 ·have h1':¬ n.kind=40:=by have:(!(n.kind==40))=true:=h1;simpa using this
  refine AK.yes ?_
  refine AK.rt Tryz.func83 ?_
  simp [Cd,h1',B3]
 have h1':n.kind=40:=by have:(!(n.kind==40))=false:=h1;simpa using this
 refine AK.pc (At4 n hn) ?_
 refine AK.if_ (fun h2=>?_) (fun h2=>?_)
 ·have h2':O1 n=false:=by have:(!O1 n)=true:=h2;simpa using this
  refine AK.rt Tryz.func83 ?_
  simp [Cd,h2',B3]
 have h2':O1 n=true:=by have:(!O1 n)=false:=h2;simpa using this
 have h2'':=h2'
 simp only [O1,Bool.and_eq_true,decide_eq_true_eq] at h2''
 obtain ⟨⟨hc,hd⟩,hf⟩:=h2''
 have hw:=Q7 n hf
 have hP:=Ar0 n hf h1'
 obtain ⟨hp,hl⟩:=Ap5 n hP hd (by omega)
 refine AK.pc hp ?_
 have hO:Cd n=((!(Hi n==[])&&decide ((Hi n).length≤4000))&&(C6 (Hi n)).2.1==0):=by simp [Cd,h1',h2']
 rw [hO]
 refine AK.gd (fun h3=>?_) (fun h3=>?_)
 ·have h3':(Hi n==[])=true:=h3
  refine AK.yes ?_
  refine AK.rt Tryz.func83 ?_
  rw [h3'];rfl
 have h3':(Hi n==[])=false:=h3
 refine AK.if_ (fun h4=>?_) (fun h4=>?_)
 ·have h4':¬ (Hi n).length≤4000:=by have:=of_decide_eq_true h4;rw [C7] at this;omega
  refine AK.rt Tryz.func83 ?_
  simp [h4',B3]
 have h4':(Hi n).length≤4000:=by have:=of_decide_eq_false h4;rw [C7] at this;omega
 refine AK.pc (Ap4 (Hi n) (by omega)) ?_
 refine AK.rt Tryz.func83 ?_
 simp [h3',h4',B3]
theorem Amn (l:List (List UInt8))(s:List UInt8)(hl:l.length≤1000000000):Pure X 129 [.sl (A3 l) .no,str s] (vi (Ji 0 l s)):=by
 refine Pure.run Tryz.func129 ?_
 refine AK.while_ (ι:=Nat) 0 0 (fun i=>i≤l.length∧Ji 0 l s=Ji i (l.drop i) s) (fun i=>[(5,vi i),(0,.sl (A3 l) .no),(1,str s)]) (fun _=>⟨[],[]⟩) (fun i=>l.length-i) ?_ 0 ⟨Nat.zero_le _,rfl⟩
  ⟨rfl,rfl,rfl,trivial⟩
 intro i hi IH
 refine AK.ei (fun h=>?_) (fun h=>?_)
 ·have hlt:i<l.length:=by have:=of_decide_eq_true h;rw [Am] at this;omega
  obtain ⟨x,hx⟩:=Ac l hlt
  have hd:Ji i (l.drop i) s=if s==x then (i:Int) else Ji (i+1) (l.drop (i+1)) s:=by rw [Av hx];rfl
  refine AK.ix i (by omega) (Dz hx) ?_
  refine AK.if_ (fun h2=>?_) (fun h2=>?_)
  ·refine AK.rt Tryz.func129 ?_
   have h3:(s==x)=true:=by have:(x==s)=true:=h2;rw [beq_iff_eq] at this ⊢;exact this.symm
   rw [hi.2,hd,h3];rfl
  ·have h3:(s==x)=false:=by have:(x==s)=false:=h2;rw [beq_eq_false_iff_ne] at this ⊢;exact Ne.symm this
   exact IH (i+1) ⟨hlt,by rw [hi.2,hd,h3];rfl⟩ (by omega) _ _ ⟨vsx (by omega),rfl,rfl,trivial⟩ rfl rfl rfl
 ·have:i=l.length:=by have:=of_decide_eq_false h;rw [Am] at this;omega
  refine AK.rt Tryz.func129 ?_
  rw [hi.2,this,List.drop_length];rfl
theorem Fg (l:List (List UInt8)):G1 1 (A3 l)=true:=H2 (f:=fun s=>[str s]) (fun _=>rfl) l
def Hq (k:Int):Int:=if k=2∨k=21∨k=23∨k=26 then 1 else if k=3∨k=4∨k=22 then 2 else 0
theorem Aqc (k:Int):Pure X 128 [vi k] (vi (Hq k)):=by
 refine Pure.run Tryz.func128 ?_
 repeat' (refine AK.if_ (fun _=>?_) (fun _=>?_))
 all_goals refine AK.rt Tryz.func128 ?_
 all_goals (simp_all [Hq,B3])
def C5 (l:List Nd)(k:Int):List (List UInt8):=(l.filter fun x=>x.kind==k).map Nd.name
def Aj (n:Nd)(k:Int):List (List UInt8):=C5 n.kids.dropLast k
theorem Uu (l:List Nd)(k:Int):(C5 l k).length≤l.length:=by simp only [C5,List.length_map];exact List.length_filter_le _ _
theorem Og (n:Nd)(k:Int)(hn:wN n≤1000000000):Pure X 51 [nd n,vi k] (.sl (A3 (Aj n k)) .no):=by
 refine Pure.run Tryz.func51 ?_
 have hkl:=Ed n
 have hw:IntKind.i64.wrap ((Ak n.kids).length-1:Int)=n.kids.length-1:=by rw [Ae];exact Aa (by omega) (by omega)
 refine AK.mint (d:=5) rfl rfl rfl ?_
 refine AK.while_ (ι:=Nat) 1 1 (fun i=>i≤n.kids.length-1) (fun i=>[(6,vi i),(5,.sl (A3 (C5 (n.kids.take i) k)) (.tok 0)),(1,vi k),(2,.ptr 0 0 0)]) (fun i=>⟨[[Af n]],[(C5 (n.kids.take i) k).length]⟩) (fun i=>n.kids.length-i) ?_ 0
  (Nat.zero_le _) ⟨rfl,rfl,rfl,rfl,trivial⟩
 intro i hi IH
 refine AK.ei (fun h=>?_) (fun h=>?_)
 ·have hlt:i<n.kids.length-1:=by have:=of_decide_eq_true h;rw [hw] at this;omega
  obtain ⟨x,hx⟩:=Ac n.kids (i:=i) (by omega)
  have hle:=Uu (n.kids.take i) k
  have htl:(n.kids.take i).length=i:=by simp;omega
  refine AK.ix i (by omega) (Ao hx) ?_
  refine AK.if_ (fun h2=>?_) (fun h2=>?_)
  ·have h2':(x.kind==k)=true:=h2
   have hs:C5 (n.kids.take (i+1)) k=C5 (n.kids.take i) k++[x.name]:=by simp [C5,List.take_add_one,hx,List.filter_append,List.filter_cons,h2']
   refine AK.ix i (by omega) (Ao hx) ?_
   refine AK.op (Ndo.append (res:=A3 (C5 (n.kids.take i) k++[x.name])) rfl rfl rfl rfl rfl rfl rfl rfl rfl rfl rfl rfl rfl rfl (Am _) (Fg _) rfl rfl rfl ?_ ?_ rfl) ?_
   ·rw [Am];simp;omega
   ·simp [A3]
   refine IH (i+1) (by omega) (by omega) _ _ ⟨vsx (by omega),?_,rfl,rfl,trivial⟩ ?_ rfl rfl
   ·rw [hs];rfl
   ·rw [hs];simp [St.drop,Am]
  ·have h2':(x.kind==k)=false:=h2
   have hs:C5 (n.kids.take (i+1)) k=C5 (n.kids.take i) k:=by simp [C5,List.take_add_one,hx,List.filter_append,List.filter_cons,h2']
   refine IH (i+1) (by omega) (by omega) _ _ ⟨vsx (by omega),?_,rfl,rfl,trivial⟩ ?_ rfl rfl
   ·rw [hs];rfl
   ·rw [hs];rfl
 ·have:i=n.kids.length-1:=by have:=of_decide_eq_false h;rw [hw] at this;omega
  refine AK.rz Tryz.func51 ?_
  rw [this,Aj,List.dropLast_eq_take]
theorem Xy (n:Nd)(hn:wN n≤1000000000):Pure X 130 [nd n] (nd n):=by
 induction n using Nd.ind with
 | h n ih =>
 refine Pure.run Tryz.func130 ?_
 have hkl:=Ed n
 refine AK.mint (d:=3) rfl rfl rfl ?_
 refine AK.while_ (ι:=Nat) 2 1 (fun i=>i≤n.kids.length) (fun i=>[(4,vi i),(3,.sl (Ak (n.kids.take i)) (.tok 0)),(1,.ptr 0 0 0),(2,.ptr 1 0 0)]) (fun i=>⟨[[Af n],[zN]],[i]⟩) (fun i=>n.kids.length-i) ?_ 0
  (Nat.zero_le _) ⟨rfl,rfl,rfl,rfl,trivial⟩
 intro i hi IH
 refine AK.ei (fun h=>?_) (fun h=>?_)
 ·have hlt:i<n.kids.length:=by have:=of_decide_eq_true h;rw [Ae] at this;omega
  obtain ⟨x,hx⟩:=Ac n.kids hlt
  have hwx:=Gm (List.mem_of_getElem? hx)
  have htl:(n.kids.take i).length=i:=by simp;omega
  refine AK.ix i (by omega) (Ao hx) ?_
  refine AK.pc (ih x (List.mem_of_getElem? hx) (by omega)) ?_
  refine AK.op (Ndo.append (res:=Ak (n.kids.take (i+1))) rfl rfl rfl rfl rfl rfl rfl rfl rfl rfl rfl rfl rfl rfl (by rw [Ae,htl]) (Cz _) rfl rfl rfl ?_ ?_ rfl) ?_
  ·rw [Ae];simp;omega
  ·rw [List.take_add_one,hx,Al,Al];simp
  refine IH (i+1) hlt (by omega) _ _ ⟨vsx (by omega),rfl,rfl,rfl,trivial⟩ ?_ rfl rfl
  simp [St.drop,Ae,htl]
 ·have:i=n.kids.length:=by have:=of_decide_eq_false h;rw [Ae] at this;omega
  subst this
  refine AK.rz Tryz.func130 ?_
  rw [List.take_length];rfl
theorem Asf (s:List UInt8)(a:Nd):Pure X 178 [str s,nd a] (nd (.mk 21 s 0 [a])):=by
 refine Pure.run Tryz.func178 ?_
 refine AK.rz Tryz.func178 ?_
 show AV.agg [_,_,_,.sl _ _]=AV.agg [_,_,_,.sl (Ak [a]) _]
 rw [Al [a]];rfl
theorem Amu (s:List UInt8):Pure X 180 [str s] (nd (.mk 2 s 0 [])):=by
 refine Pure.run Tryz.func180 ?_
 exact AK.rz Tryz.func180 rfl
theorem Ap3:Pure X 181 [vi 1] (nd (.mk 1 [] 1 [])):=by
 refine Pure.run Tryz.func181 ?_
 refine AK.no ?_
 exact AK.rz Tryz.func181 rfl
def H1 (vars arrs:List (List UInt8))(code:Int)(k:Int)(s:List UInt8):Bool :=
 decide (Hq k > 0)&&((code==7&&!decide (Ji 0 vars s≥0)&&!decide (Ji 0 arrs s≥0))||(code==8&&((Hq k==1&&!decide (Ji 0 vars s≥0))||(Hq k==2&&!decide (Ji 0 arrs s≥0)))))
mutual
def E4 (vars arrs:List (List UInt8))(code:Int):Nd→List UInt8 × Bool
 | .mk k s _ ks=>if H1 vars arrs code k s then (s,true) else Mj vars arrs code ks
def Mj (vars arrs:List (List UInt8))(code:Int):List Nd→List UInt8 × Bool
 | []=>([],false)
 | x::l=>if (E4 vars arrs code x).2 then (E4 vars arrs code x) else Mj vars arrs code l
end
theorem Vf (vars arrs:List (List UInt8))(code:Int)(n:Nd):E4 vars arrs code n=if H1 vars arrs code n.kind n.name then (n.name,true) else Mj vars arrs code n.kids:=by cases n;rw [E4];rfl
theorem Axu (n:Nd)(vars arrs:List (List UInt8))(T:List UInt8 × Bool)(code w:Int)(v a:Bool)(hc:code=7∨code=8)(hw:w=1∨w=2)
 (h7:AK X ⟨84,Tryz.f84,0,0⟩ (Hn false 7 Tryz.f84) [(4,.ptr 0 0 0),(1,.sl (A3 vars) .no),(2,.sl (A3 arrs) .no),(3,vi code)] ⟨[[Af n]],[]⟩ (fun e S=>e=.ret (.tup [str T.1,vb T.2])∧S=⟨[],[]⟩)) :
 AK X ⟨84,Tryz.f84,0,0⟩ (Hn false 5 Tryz.f84) [(4,.ptr 0 0 0),(1,.sl (A3 vars) .no),(2,.sl (A3 arrs) .no),(3,vi code),(10,vi w),(11,vb v),(12,vb a)] ⟨[[Af n]],[]⟩
  (fun e S=>e=.ret (.tup [str (if ((code==7&&!v&&!a)||(code==8&&((w==1&&!v)||(w==2&&!a)))) then (n.name,true) else T).1,vb (if ((code==7&&!v&&!a)||(code==8&&((w==1&&!v)||(w==2&&!a)))) then (n.name,true) else T).2])∧S=⟨[],[]⟩):=by
 refine AK.at_ ?_
 rcases hc with rfl | rfl<;>rcases hw with rfl | rfl<;>cases v<;>cases a
 all_goals
  refine AK.ev 100 rfl ?_
  repeat' (first | refine AK.gn ?_ | refine AK.gy ?_)
  first
   | (refine AK.yes ?_;exact AK.rt Tryz.func84 rfl)
   | (refine AK.ifj 0 7 (fun h=>?_) (fun h=>?_);· cases h
      exact AK.back' 1 0 h7 ⟨rfl,rfl,rfl,rfl,trivial⟩ rfl rfl rfl rfl rfl)
theorem Ahj (vars arrs:List (List UInt8))(code:Int)(hc:code=7∨code=8)(hv:vars.length≤1000000000)(ha:arrs.length≤1000000000)(n:Nd)(hn:wN n≤1000000000) :
 Pure X 84 [nd n,.sl (A3 vars) .no,.sl (A3 arrs) .no,vi code] (.tup [str (E4 vars arrs code n).1,vb (E4 vars arrs code n).2]):=by
 induction n using Nd.ind with
 | h n ih =>
 have hkl:=Ed n
 have hloop:∀ T,Mj vars arrs code n.kids=T→AK X ⟨84,Tryz.f84,0,0⟩ (Hn false 7 Tryz.f84) [(4,.ptr 0 0 0),(1,.sl (A3 vars) .no),(2,.sl (A3 arrs) .no),(3,vi code)] ⟨[[Af n]],[]⟩
  (fun e S=>e=.ret (.tup [str T.1,vb T.2])∧S=⟨[],[]⟩):=fun T hT=>by
  refine AK.at_ ?_
  refine AK.ev 100 rfl ?_
  refine AK.while_ (ι:=Nat) 1 0 (fun i=>i≤n.kids.length∧T=Mj vars arrs code (n.kids.drop i)) (fun i=>[(13,vi i),(4,.ptr 0 0 0),(1,.sl (A3 vars) .no),(2,.sl (A3 arrs) .no),(3,vi code)]) (fun _=>⟨[[Af n]],[]⟩)
   (fun i=>n.kids.length-i) ?_ 0 ⟨Nat.zero_le _,hT.symm⟩ ⟨rfl,rfl,rfl,rfl,rfl,trivial⟩
  rintro i ⟨hi,hTi⟩ IH
  refine AK.ei (fun h=>?_) (fun h=>?_)
  ·have hlt:i<n.kids.length:=by have:=of_decide_eq_true h;rw [Ae] at this;omega
   obtain ⟨x,hx⟩:=Ac n.kids hlt
   have hwx:=Gm (List.mem_of_getElem? hx)
   rw [Av hx] at hTi
   simp only [Mj] at hTi
   refine AK.ix i (by omega) (Ao hx) ?_
   refine AK.pc (ih x (List.mem_of_getElem? hx) (by omega)) ?_
   refine AK.if_ (fun h2=>?_) (fun h2=>?_)
   ·have h2':(E4 vars arrs code x).2=true:=h2
    refine AK.rt Tryz.func84 ?_
    rw [hTi,if_pos h2',h2'];rfl
   ·have h2':(E4 vars arrs code x).2=false:=h2
    exact IH (i+1) ⟨hlt,by rw [hTi,if_neg (by simp [h2'])]⟩ (by omega) _ _ ⟨vsx (by omega),rfl,rfl,rfl,rfl,trivial⟩ rfl rfl rfl
  ·have:i=n.kids.length:=by have:=of_decide_eq_false h;rw [Ae] at this;omega
   refine AK.rt Tryz.func84 ?_
   rw [hTi,this,List.drop_length];rfl
 refine Pure.run Tryz.func84 ?_
 refine AK.pc (Aqc n.kind) ?_
 rw [Vf]
 refine AK.ifj 0 7 (fun h1=>?_) (fun h1=>?_)
 ·have h1':decide (Hq n.kind > 0)=true:=h1
  have hw:Hq n.kind=1∨Hq n.kind=2:=by
   have:=of_decide_eq_true h1'
   unfold Hq at this ⊢
   split
   ·simp
   ·split
    ·simp
    ·rename_i h2 h3;rw [if_neg h2,if_neg h3] at this;omega
  refine AK.ev 100 rfl ?_
  refine AK.pc (Amn vars n.name hv) ?_
  refine AK.pcj 5 (Amn arrs n.name ha) ?_
  have hA:H1 vars arrs code n.kind n.name=((code==7&&!decide (Ji 0 vars n.name≥0)&&!decide (Ji 0 arrs n.name≥0))||(code==8&&((Hq n.kind==1&&!decide (Ji 0 vars n.name≥0))||(Hq n.kind==2&&!decide (Ji 0 arrs n.name≥0))))):=by simp only [H1,h1',Bool.true_and]
  rw [hA]
  exact AK.back' 1 0 (Axu n vars arrs _ code _ _ _ hc hw (hloop _ rfl)) ⟨rfl,rfl,rfl,rfl,rfl,rfl,rfl,trivial⟩ rfl rfl rfl rfl rfl
 ·have h1':decide (Hq n.kind > 0)=false:=h1
  have hA:H1 vars arrs code n.kind n.name=false:=by simp [H1,h1']
  rw [hA]
  exact AK.back' 1 0 (hloop _ rfl) ⟨rfl,rfl,rfl,rfl,trivial⟩ rfl rfl rfl rfl rfl
theorem Aen {X:Cx}{B:Bx}{S S2:St}{F F':B7}{N:Nat}{R:AE→St→Prop}{ops:Array Oper}{i:Nat}{bs:List Nat}{em:Nat}{Hs:List St}{pend:List Hl}{k K:List Item}(id:Nat)(hk:AK X B K F' S2 R)
 (he:evT X B.fn.ntmps id 100 k F S=(K,F',S2):=by rfl):Drv X N ops bs em [] i F S Hs pend fun F1 S1=>AK X B k F1 S1 R :=
 AK.evj id 100 he hk
def Aa9 (s:List UInt8):List Nd→List Nd
 | [a,b,.mk k' s' m' l]=>[.mk 21 s 0 [a],.mk 25 [] 0 [.mk 11 [] 0 [.mk 2 s 0 [],b],.mk k' s' m' (l++[.mk 21 s 0 [.mk 6 [] 0 [.mk 2 s 0 [],.mk 1 [] 1 []]]])]]
 | _=>[]
mutual
def Aw:Nd→Nd
 | .mk k s m ks=>.mk k s m (Be ks)
def Be:List Nd→List Nd
 | []=>[]
 | x::l=>Ei x++Be l
def Ei:Nd→List Nd
 | .mk k s m ks=>if k=26 then Aa9 s (Be ks) else [.mk k s m (Be ks)]
end
theorem A9 (k:Int)(s:List UInt8)(m:Int)(ks:List Nd):Aw (.mk k s m ks)=.mk k s m (Be ks):=by rw [Aw]
theorem A2:Be []=[]:=by rw [Be]
theorem Au (x:Nd)(l:List Nd):Be (x::l)=Ei x++Be l:=by rw [Be]
theorem Bb {x:Nd}(h:x.kind≠26):Ei x=[Aw x]:=by
 obtain ⟨k,s,m,ks⟩:=x
 have h':k≠26:=h
 rw [Ei,if_neg h',Aw]
theorem Jn (s:List UInt8)(m:Int)(ks:List Nd):Ei (.mk 26 s m ks)=Aa9 s (Be ks):=by rw [Ei,if_pos rfl]
theorem P1 (a b:List Nd):Be (a++b)=Be a++Be b:=by
 induction a with
 | nil=>simp [A2]
 | cons x a ih=>simp [Au,ih]
theorem Fe {l:List Nd}(h:∀ x,x∈l→x.kind≠26):Be l=l.map Aw:=by
 induction l with
 | nil=>simp [A2]
 | cons x l ih=>rw [Au,Bb (h x (by simp)),ih fun y hy=>h y (by simp [hy])];simp
theorem Bu {x:Nd}(h:FE x):1≤x.kind∧x.kind≤8:=by
 cases h<;>simp
 omega
theorem G7 {x:Nd}(h:FC x):11≤x.kind∧x.kind≤16:=by
 cases h;simp;omega
theorem Aon {x:Nd}(h:FS x):21≤x.kind∧x.kind≤29:=by
 cases h<;>simp
theorem V6 {x:Nd}(h:FV x):x.kind=31∨x.kind=32:=by
 cases h<;>simp
theorem P0 {x:Nd}(h:FE x):Aw x=x:=by
 induction h with
 | num m h0 h1=>rw [A9,A2]
 | var s h=>rw [A9,A2]
 | cell s a h ha ih=>rw [A9,Au,A2,Bb (by have:=Bu ha;omega),ih];rfl
 | len s h=>rw [A9,A2]
 | neg a ha ih=>rw [A9,Au,A2,Bb (by have:=Bu ha;omega),ih];rfl
 | two k a b hk ha hb iha ihb=>rw [A9,Au,Au,A2,Bb (by have:=Bu ha;omega),Bb (by have:=Bu hb;omega),iha,ihb];rfl
theorem Oj {x:Nd}(h:FC x):Aw x=x:=by
 cases h with
 | mk k a b h0 h1 ha hb=>rw [A9,Au,Au,A2,Bb (by have:=Bu ha;omega),Bb (by have:=Bu hb;omega),P0 ha,P0 hb];rfl
theorem Auc {x:Nd}(h:FV x):Aw x=x:=by
 cases h<;>rw [A9,A2]
theorem Oz (a b:List Nd):wL (a++b)=wL a+wL b:=by
 induction a with
 | nil=>simp [wL]
 | cons x a ih=>simp only [List.cons_append,wL,ih];omega
theorem Ata (s:List UInt8)(l:List Nd):wL (Aa9 s l)≤wL l+10+5*s.length:=by
 unfold Aa9
 split
 ·simp only [wL,wN,Oz,List.length_nil];omega
 ·simp [wL]
theorem Sj {P:Nd→Prop}{Q:List Nd→Prop}(h1:∀ (k:Int)(s:List UInt8)(m:Int)(ks:List Nd),Q ks→P (.mk k s m ks))(h2:Q [])(h3:∀ (x:Nd)(l:List Nd),P x→Q l→Q (x::l)):(∀ x,P x)∧∀ l,Q l:=by
 have hP:∀ x,P x:=fun x=>Nd.rec (motive_1:=P) (motive_2:=Q) h1 h2 h3 x
 refine ⟨hP,fun l=>?_⟩
 induction l with
 | nil=>exact h2
 | cons x l ih=>exact h3 x l (hP x) ih
theorem Am2:(∀ n:Nd,wN (Aw n)≤10*wN n∧wL (Ei n)≤10*wN n)∧∀ l:List Nd,wL (Be l)≤10*wL l:=by
 refine Sj (fun k s m ks ih=>?_) ?_ (fun x l hx hl=>?_)
 ·have hM:wN (Aw (.mk k s m ks))≤10*wN (.mk k s m ks):=by rw [A9];simp only [wN];omega
  refine ⟨hM,?_⟩
  by_cases hk:k=26
  ·subst hk
   rw [Jn]
   have:=Ata s (Be ks)
   simp only [wN];omega
  ·rw [Bb (by simpa using hk)];simp only [wL];omega
 ·simp [A2,wL]
 ·rw [Au,Oz];simp only [wL];omega
theorem Ol (n:Nd):wN (Aw n)≤10*wN n∧wL (Ei n)≤10*wN n:=Am2.1 n
theorem Qw (l:List Nd):wL (Be l)≤10*wL l:=by
 induction l with
 | nil=>simp [A2,wL]
 | cons x l ih=>rw [Au,Oz];have:=(Ol x).2;simp only [wL];omega
theorem Jl (l:List Nd):l.length≤wL l:=by
 induction l with
 | nil=>simp
 | cons x l ih=>have:=Rn x;simp [wL];omega
theorem Kb (k:Int)(s:List UInt8)(m:Int)(ks:List Nd)(hk:k≠26)(hk':k≠30)(hw:wN (.mk k s m ks)≤1000000000)
 (hx:∀ x,x∈ks→(x.kind=30∧Pure X 131 [nd x] (.sl (Ak [Aw x]) .no))∨(x.kind≠30∧Aw x=x)) :
 Pure X 131 [nd (.mk k s m ks)] (.sl (Ak [.mk k s m (ks.map Aw)]) .no):=by
 have ne1:(k==30)=false:=by simpa using hk'
 have ne2:(k==26)=false:=by simpa using hk
 have hkl:=Ed (.mk k s m ks)
 simp only [D6] at hkl
 refine Pure.run Tryz.func131 ?_
 refine AK.no ?_ (ht:=ne1)
 refine AK.no ?_ (ht:=ne2)
 refine AK.mintB 1 0 3 rfl rfl rfl rfl rfl rfl ?_
 refine AK.while_ (ι:=Nat) 2 1 (fun i=>i≤ks.length) (fun i=>[(6,vi i),(1,.ptr 0 0 0),(3,.ptr 1 0 0)]) (fun i=>⟨[[Af (.mk k s m ks)],[[vi k,str s,vi m,.sl (Ak ((ks.take i).map Aw)) (.tok 0)]]],[i]⟩) (fun i=>ks.length-i) ?_ 0
  (Nat.zero_le _) ⟨rfl,rfl,rfl,trivial⟩
 intro i hi IH
 refine AK.ei (fun h=>?_) (fun h=>?_)
 ·have hlt:i<ks.length:=by have:=of_decide_eq_true h;rw [Ae] at this;simp at this;omega
  obtain ⟨x,hxg⟩:=Ac ks hlt
  have hwx:wN x<wN (.mk k s m ks):=Gm (n:=.mk k s m ks) (List.mem_of_getElem? hxg)
  have htl:(Ak ((ks.take i).map Aw)).length=i:=by rw [Ae];simp;omega
  have hres:Ak ((ks.take i).map Aw)++[Af (Aw x)]=Ak ((ks.take (i+1)).map Aw):=by simp [Al,List.take_add_one,hxg]
  have hgo:AK X ⟨131,Tryz.f131,0,0⟩ (Hn false 15 Tryz.f131) [(6,vi i),(1,.ptr 0 0 0),(3,.ptr 1 0 0)] ⟨[[Af (.mk k s m ks)],[[vi k,str s,vi m,.sl (Ak ((ks.take (i+1)).map Aw)) (.tok 0)]]],[i+1]⟩
   (fun e S=>e=.ret (.sl (Ak [.mk k s m (ks.map Aw)]) .no)∧S=⟨[],[]⟩):=by
   refine AK.at_ ?_
   refine AK.ev 100 rfl ?_
   exact IH (i+1) hlt (by omega) _ _ ⟨vsx (by omega),rfl,rfl,trivial⟩ rfl rfl rfl
  refine AK.ix i (by omega) (Ao (l:=ks) hxg) ?_
  rcases hx x (List.mem_of_getElem? hxg) with ⟨h30,hp⟩ | ⟨h30,hp⟩
  ·refine AK.yes ?_ (ht:=by simpa using h30)
   refine AK.db 10240 ?_
   refine Drv.ig i (by omega) (Ao (l:=ks) hxg) ?_
   refine As hp ?_
   refine Drv.ig 0 (by omega) (Rb (Aw x) []) ?_
   refine Drv.w (Ndo.append (res:=Ak ((ks.take (i+1)).map Aw)) rfl rfl rfl rfl rfl rfl rfl rfl rfl rfl rfl rfl rfl rfl htl (Cz _) rfl rfl rfl ?_ hres rfl) ?_
   ·rw [htl];simp;omega
   refine Drv.e ?_
   refine Drv.w (Ndo.store rfl rfl rfl rfl rfl rfl rfl) ?_
   refine Aen 15 ?_
   exact AK.back' 2 1 hgo ⟨rfl,rfl,rfl,trivial⟩ (by simp [St.drop,Ae];omega) rfl rfl rfl rfl
  ·refine AK.no ?_ (ht:=by simpa using h30)
   refine AK.db 2560 ?_
   refine Drv.ig i (by omega) (Ao (l:=ks) hxg) ?_
   refine As (Xy x (by omega)) ?_
   rw [hp] at hres
   refine Drv.w (Ndo.append (res:=Ak ((ks.take (i+1)).map Aw)) rfl rfl rfl rfl rfl rfl rfl rfl rfl rfl rfl rfl rfl rfl htl (Cz _) rfl rfl rfl ?_ hres rfl) ?_
   ·rw [htl];simp;omega
   refine Drv.e ?_
   refine Drv.w (Ndo.store rfl rfl rfl rfl rfl rfl rfl) ?_
   refine Aen 15 ?_
   exact AK.back' 2 1 hgo ⟨rfl,rfl,rfl,trivial⟩ (by simp [St.drop,Ae];omega) rfl rfl rfl rfl
 ·have:i=ks.length:=by have:=of_decide_eq_false h;rw [Ae] at this;simp at this;omega
  subst this
  refine AK.rz Tryz.func131 ?_
  rw [List.take_length,Al [_]];rfl
theorem Adh (l:List Nd):Ir (Ak l)=true:=Gy.2 fun r hr x hx=>by
 rw [Al] at hr
 obtain ⟨k,_,rfl⟩:=List.mem_map.1 hr
 simp [Af] at hx
 rcases hx with rfl | rfl | rfl | rfl<;>rfl
theorem Hands.pure {X:Cx}{f:FuncId}{args:List AV}{y r:AV}{tk:List Nat}(h:Hands X f args ⟨[],[]⟩ y ⟨[],tk⟩) [hz:FzC ⟨[],tk⟩ 0 0 y r]:Pure X f args r:=by
 refine ⟨h.1,fun E w vs hd hI hs hr=>(h.2 E w vs hd hI hs hr).mono fun e w' he=>?_⟩
 obtain ⟨E1,S1,d1,d2,d3⟩:=he
 cases e with
 | returned v =>
   obtain ⟨r',hr',hre,rfl⟩:=d3
   cases hre
   exact ⟨E1.drop 0 0,_,d1.drop (fun rows hr=>by simp at hr),d2.trans (Evol.drop E1 w' 0 0),r,hz.s.rel d1 hr',rfl,by simp [St.drop]⟩
 | panicked ch=>obtain ⟨h,_⟩:=d3;cases h
 | outgrown=>exact d3.elim
theorem Ac3 (m:Int)(s:List UInt8)(ks:List Nd)(hw:wN (.mk 30 s m ks)≤1000000000)
 (hx:∀ x,x∈ks→Pure X 131 [nd x] (.sl (Ak (Ei x)) .no)∧Nat.ble 1 (Ei x).length=true) :
 Hands X 131 [nd (.mk 30 s m ks)] ⟨[],[]⟩ (.sl [[vi 30,str s,vi m,.sl (Ak (Be ks)) (.tok 0)]] .tight) ⟨[],[(Be ks).length]⟩:=by
 have hkl:=Ed (.mk 30 s m ks)
 simp only [D6] at hkl
 refine Hands.run Tryz.func131 ?_
 refine AK.yes ?_
 refine AK.mintB 1 0 3 rfl rfl rfl rfl rfl rfl ?_
 refine AK.while_ (ι:=Nat) 2 1 (fun i=>i≤ks.length) (fun i=>[(4,vi i),(1,.ptr 0 0 0),(3,.ptr 1 0 0)]) (fun i=>⟨[[Af (.mk 30 s m ks)],[[vi 30,str s,vi m,.sl (Ak (Be (ks.take i))) (.tok 0)]]],[(Be (ks.take i)).length]⟩) (fun i=>ks.length-i) ?_ 0
  (Nat.zero_le _) ⟨rfl,rfl,rfl,trivial⟩ (by simp [A2];rfl)
 intro i hi IH
 refine AK.ei (fun h=>?_) (fun h=>?_)
 ·have hlt:i<ks.length:=by have:=of_decide_eq_true h;rw [Ae] at this;simp at this;omega
  obtain ⟨x,hxg⟩:=Ac ks hlt
  have hwx:wN x<wN (.mk 30 s m ks):=Gm (n:=.mk 30 s m ks) (List.mem_of_getElem? hxg)
  have hsn:Be (ks.take (i+1))=Be (ks.take i)++Ei x:=by rw [List.take_add_one,hxg,P1];simp [Au,A2]
  have hl1:=Jl (Be (ks.take i))
  have hl2:=Qw (ks.take i)
  have hl3:wL (ks.take i)≤wL ks:=by
   have:=Oz (ks.take i) (ks.drop i)
   rw [List.take_append_drop] at this;omega
  have hl4:=Jl (Ei x)
  have hl5:=(Ol x).2
  have hw':=hw
  simp only [wN] at hw'
  obtain ⟨hp,hne⟩:=hx x (List.mem_of_getElem? hxg)
  refine AK.db 1280 ?_
  refine Drv.ig i (by omega) (Ao (l:=ks) hxg) ?_
  refine As hp ?_
  refine Drv.w (Ndo.append (res:=Ak (Be (ks.take (i+1)))) rfl rfl rfl rfl rfl rfl rfl rfl rfl rfl rfl rfl rfl rfl (Ae _) (Cz _) (Cz _) (Adh _) (by rw [Ae];exact hne) ?_ ?_ rfl) ?_
  ·rw [Ae,Ae];simp only [wN] at hwx;omega
  ·rw [hsn,Al,Al,Al,List.map_append]
  refine Drv.e ?_
  refine Drv.w (Ndo.store rfl rfl rfl rfl rfl rfl rfl) ?_
  refine Drv.z ?_
  refine IH (i+1) hlt (by omega) _ _ ⟨vsx (by omega),rfl,rfl,trivial⟩ ?_ rfl rfl
  simp [St.drop,Ae,hsn]
 ·have:i=ks.length:=by have:=of_decide_eq_false h;rw [Ae] at this;simp at this;omega
  subst this
  rw [List.take_length]
  exact AK.ret Tryz.func131 rfl rfl rfl rfl
theorem Tl (m:Int)(s:List UInt8)(ks:List Nd)(hw:wN (.mk 30 s m ks)≤1000000000)
 (hx:∀ x,x∈ks→Pure X 131 [nd x] (.sl (Ak (Ei x)) .no)∧Nat.ble 1 (Ei x).length=true) :
 Pure X 131 [nd (.mk 30 s m ks)] (.sl (Ak [.mk 30 s m (Be ks)]) .no):=by
 have:=(Ac3 m s ks hw hx).pure
 rw [Al [_]]
 exact this
theorem M6 {x:Nd}(h:FS x):Nat.ble 1 (Ei x).length=true:=by
 by_cases hk:x.kind=26
 ·cases h with
  | for_ s a b l h ha hb hl =>
    rw [Jn,Au,Au,Au,A2,Bb (by have:=Bu ha;omega),Bb (by have:=Bu hb;omega),Bb (by simp),A9];rfl
  | _=>simp at hk
 ·rw [Bb hk];rfl
theorem Amv (x:Nd)(h:FS x)(hw:wN x≤1000000000):Pure X 131 [nd x] (.sl (Ak (Ei x)) .no):=by
 induction h with
 | set s a h ha =>
   rw [Bb (by simp),A9,Fe (by simp;have:=Bu ha;omega)]
   exact Kb 21 s 0 _ (by simp) (by simp) hw fun x hx=>by simp at hx;subst hx;exact .inr ⟨by have:=Bu ha;omega,P0 ha⟩
 | put s a b h ha hb =>
   rw [Bb (by simp),A9,Fe (by simp;have:=Bu ha;have:=Bu hb;omega)]
   refine Kb 22 s 0 _ (by simp) (by simp) hw fun x hx=>?_
   simp at hx
   rcases hx with rfl | rfl
   ·exact .inr ⟨by have:=Bu ha;omega,P0 ha⟩
   ·exact .inr ⟨by have:=Bu hb;omega,P0 hb⟩
 | read s h =>
   rw [Bb (by simp),A9,Fe (by simp)]
   exact Kb 23 s 0 _ (by simp) (by simp) hw fun x hx=>by cases hx
 | skip =>
   rw [Bb (by simp),A9,Fe (by simp)]
   exact Kb 28 [] 0 _ (by simp) (by simp) hw fun x hx=>by cases hx
 | stop =>
   rw [Bb (by simp),A9,Fe (by simp)]
   exact Kb 29 [] 0 _ (by simp) (by simp) hw fun x hx=>by cases hx
 | check c hc =>
   rw [Bb (by simp),A9,Fe (by simp;have:=G7 hc;omega)]
   exact Kb 27 [] 0 _ (by simp) (by simp) hw fun x hx=>by simp at hx;subst hx;exact .inr ⟨by have:=G7 hc;omega,Oj hc⟩
 | whil c l hc hl ihl =>
   rw [Bb (by simp),A9,Fe (by simp;have:=G7 hc;omega)]
   simp [wN,wL] at hw
   refine Kb 25 [] 0 _ (by simp) (by simp) (by simp [wN,wL];omega) fun x hx=>?_
   simp at hx
   rcases hx with rfl | rfl
   ·exact .inr ⟨by have:=G7 hc;omega,Oj hc⟩
   ·exact .inl ⟨rfl,by rw [A9];exact Tl 0 [] l (by simp [wN];omega) fun x hx=>⟨ihl x hx (by have:=Mh hx;omega),M6 (hl x hx)⟩⟩
 | ifs c l l' hc hl hl' ihl ihl' =>
   rw [Bb (by simp),A9,Fe (by simp;have:=G7 hc;omega)]
   simp [wN,wL] at hw
   refine Kb 24 [] 0 _ (by simp) (by simp) (by simp [wN,wL];omega) fun x hx=>?_
   simp at hx
   rcases hx with rfl | rfl | rfl
   ·exact .inr ⟨by have:=G7 hc;omega,Oj hc⟩
   ·exact .inl ⟨rfl,by rw [A9];exact Tl 0 [] l (by simp [wN];omega) fun x hx=>⟨ihl x hx (by have:=Mh hx;omega),M6 (hl x hx)⟩⟩
   ·exact .inl ⟨rfl,by rw [A9];exact Tl 0 [] l' (by simp [wN];omega) fun x hx=>⟨ihl' x hx (by have:=Mh hx;omega),M6 (hl' x hx)⟩⟩
 | for_ s a b l h ha hb hl ihl =>
   simp [wN,wL] at hw
   have hB:=Ac3 0 [] l (by simp [wN];omega) fun x hx=>⟨ihl x hx (by have:=Mh hx;omega),M6 (hl x hx)⟩
   have hl1:=Jl (Be l)
   have hl2:=Qw l
   rw [Jn,Au,Au,Au,A2,Bb (by have:=Bu ha;omega),Bb (by have:=Bu hb;omega),Bb (by simp),A9,P0 ha,P0 hb]
   refine Pure.run Tryz.func131 ?_
   refine AK.no ?_
   refine AK.yes ?_
   refine AK.ix 2 (by omega) (Aq1 a b _ []) ?_
   refine AK.hc (τ':=[0]) [] [] hB ?_
   refine AK.ix 0 (by omega) (rows:=[_]) rfl ?_
   refine AK.db 10240 ?_
   refine As (Amu s) ?_
   refine As Ap3 ?_
   refine As (Tm 6 (.mk 2 s 0 []) (.mk 1 [] 1 [])) ?_
   refine As (Asf s (.mk 6 [] 0 [.mk 2 s 0 [],.mk 1 [] 1 []])) ?_
   refine Drv.w (Ndo.append (res:=Ak (Be l++[.mk 21 s 0 [.mk 6 [] 0 [.mk 2 s 0 [],.mk 1 [] 1 []]]])) rfl rfl rfl rfl rfl rfl rfl rfl rfl rfl rfl rfl rfl rfl (Ae _) (Cz _) rfl rfl rfl ?_ ?_ rfl) ?_
   ·rw [Ae];simp;omega
   ·simp [Al]
   refine Drv.e ?_
   refine Drv.w (Ndo.store rfl rfl rfl rfl rfl rfl rfl) ?_
   refine Drv.z ?_
   refine AK.db 0 ?_
   refine Drv.ig 0 (by omega) (Rb a _) ?_
   refine As (Xy a (by omega)) ?_
   refine As (Asf s a) ?_
   refine As (Amu s) ?_
   refine Drv.ig 1 (by omega) (Yy a b _) ?_
   refine As (Xy b (by omega)) ?_
   refine As (Tm 11 (.mk 2 s 0 []) b) ?_
   refine As (Tm 25 (.mk 11 [] 0 [.mk 2 s 0 [],b]) (.mk 30 [] 0 (Be l++[.mk 21 s 0 [.mk 6 [] 0 [.mk 2 s 0 [],.mk 1 [] 1 []]]]))) ?_
   refine Drv.z ?_
   refine AK.rz Tryz.func131 ?_
   show AV.sl _ _=AV.sl (Ak (Aa9 s [a,b,.mk 30 [] 0 (Be l)])) _
   rw [Al (Aa9 s _)];rfl
theorem Wj {ds l:List Nd}(hd:∀ x,x∈ds→FV x):Aw (.mk 40 [] 0 (ds++[.mk 30 [] 0 l]))=.mk 40 [] 0 (ds++[.mk 30 [] 0 (Be l)]):=by
 rw [A9,P1,Au,A2,Bb (by simp),A9]
 congr 2
 rw [Fe fun x hx=>by have:=V6 (hd x hx);omega]
 have:ds.map Aw=ds:=by
  conv=>rhs;rw [← List.map_id ds]
  exact List.map_congr_left fun x hx=>Auc (hd x hx)
 rw [this]
theorem Vv (n:Nd)(h:FP n)(hw:wN n≤100000000):Pure X 85 [nd n] (nd (Aw n)):=by
 cases h with
 | mk ds l hd hl =>
 rw [Wj hd]
 have hkl:=Ed (.mk 40 [] 0 (ds++[.mk 30 [] 0 l]))
 simp only [D6,List.length_append,List.length_singleton] at hkl
 have hwl:wN (.mk 30 [] 0 l)<wN (.mk 40 [] 0 (ds++[.mk 30 [] 0 l])):=Gm (n:=.mk 40 [] 0 (ds++[.mk 30 [] 0 l])) (by simp)
 have hwl':wN (.mk 30 [] 0 l)=1+wL l:=by simp [wN]
 have hN:((Ak (ds++[.mk 30 [] 0 l])).length:Int)=ds.length+1:=by rw [Ae];simp
 have hwr:IntKind.i64.wrap (((Ak (ds++[.mk 30 [] 0 l])).length:Int)-1)=ds.length:=by rw [hN,Aa (by omega) (by omega)];omega
 refine Pure.run Tryz.func85 ?_
 refine AK.mintB 2 0 3 rfl rfl rfl rfl rfl rfl ?_
 refine AK.while_ (ι:=Nat) 3 1 (fun i=>i≤ds.length) (fun i=>[(4,vi i),(1,.ptr 0 0 0),(2,.ptr 1 0 0),(3,.ptr 2 0 0)])
  (fun i=>⟨[[Af (.mk 40 [] 0 (ds++[.mk 30 [] 0 l]))],[zN],[[vi 40,str [],vi 0,.sl (Ak (ds.take i)) (.tok 0)]]],[i]⟩) (fun i=>ds.length-i) ?_ 0
  (Nat.zero_le _) ⟨rfl,rfl,rfl,rfl,trivial⟩
 intro i hi IH
 have htl:(Ak (ds.take i)).length=i:=by rw [Ae];simp;omega
 refine AK.ei (fun h=>?_) (fun h=>?_)
 ·have hlt:i<ds.length:=by have:=of_decide_eq_true h;rw [D6,hwr] at this;omega
  obtain ⟨x,hx⟩:=Ac ds hlt
  have hx':(ds++[Nd.mk 30 [] 0 l])[i]?=some x:=by rw [List.getElem?_append_left hlt];exact hx
  have hwx:wN x<wN (.mk 40 [] 0 (ds++[.mk 30 [] 0 l])):=Gm (n:=.mk 40 [] 0 (ds++[.mk 30 [] 0 l])) (List.mem_of_getElem? hx')
  refine AK.db 2560 ?_
  refine Drv.ig i (by omega) (Ao hx') ?_
  refine As (Xy x (by omega)) ?_
  refine Drv.w (Ndo.append (res:=Ak (ds.take (i+1))) rfl rfl rfl rfl rfl rfl rfl rfl rfl rfl rfl rfl rfl rfl htl (Cz _) rfl rfl rfl ?_ ?_ rfl) ?_
  ·rw [htl];simp;omega
  ·simp [Al,List.take_add_one,hx]
  refine Drv.e ?_
  refine Drv.w (Ndo.store rfl rfl rfl rfl rfl rfl rfl) ?_
  refine Drv.z ?_
  refine IH (i+1) hlt (by omega) _ _ ⟨vsx (by omega),rfl,rfl,rfl,trivial⟩ ?_ rfl rfl
  simp [St.drop,htl]
 ·have:i=ds.length:=by have:=of_decide_eq_false h;rw [D6,hwr] at this;omega
  subst this
  rw [List.take_length] at htl ⊢
  have hlast:(Ak (ds++[Nd.mk 30 [] 0 l]))[(IntKind.i64.wrap (((Ak (ds++[.mk 30 [] 0 l])).length:Int)-1)).toNat]?=some (Af (.mk 30 [] 0 l)):=by
   rw [hwr];exact Ao (by simp)
  have hB:=Tl 0 [] l (by omega) fun x hx=>⟨Amv x (hl x hx) (by have:=Mh hx;omega),M6 (hl x hx)⟩
  refine AK.db 81920 ?_
  refine Drv.ig _ (by rw [hwr];omega) hlast ?_
  refine As hB ?_
  refine Drv.ig 0 (by omega) (Rb _ []) ?_
  refine Drv.w (Ndo.append (res:=Ak (ds++[.mk 30 [] 0 (Be l)])) rfl rfl rfl rfl rfl rfl rfl rfl rfl rfl rfl rfl rfl rfl htl (Cz _) rfl rfl rfl ?_ ?_ rfl) ?_
  ·rw [htl];simp;omega
  ·rw [Al (ds++_),Al ds,List.map_append];rfl
  refine Drv.e ?_
  refine Drv.w (Ndo.store rfl rfl rfl rfl rfl rfl rfl) ?_
  refine Drv.z ?_
  refine AK.rz Tryz.func85 ?_
  rfl
def twG (pre:List (List UInt8)):List Nd→Option (List UInt8)
 | []=>none
 | d::l=>if has pre d.name then some d.name else twG (pre++[d.name]) l
def Pw (n:Nd):Bool:=decide (8<(Aj n 31).length)||decide (4<(Aj n 32).length)
def bigS (l:List Nd):Bool:=l.any fun d=>decide (60<d.num)
def Ck (n:Nd):Nd:=n.kids.getLastD Ca
def C9 (n:Nd):Int × List UInt8 :=
 if Cd n then
  (if Pw n then (3,[]) else if bigS n.kids.dropLast then (3,[]) else
    match twG [] n.kids.dropLast with
    | some s=>(6,s)
    | none =>
      if (E4 (Aj n 31) (Aj n 32) 7 (Ck n)).2 then (7,(E4 (Aj n 31) (Aj n 32) 7 (Ck n)).1)
      else if (E4 (Aj n 31) (Aj n 32) 8 (Ck n)).2 then (8,(E4 (Aj n 31) (Aj n 32) 8 (Ck n)).1)
      else if Cd (Aw n) then (0,[]) else (5,[]))
 else (4,[])
theorem Lq {n:Nd}(h:Cd n=true):FP n∧Ai n≤500∧B8 n≤24:=by
 simp only [Cd,O1,Bool.and_eq_true,decide_eq_true_eq,beq_iff_eq] at h
 exact ⟨Ar0 n h.1.2.2 h.1.1,h.1.2.1.1,h.1.2.1.2⟩
theorem Abk (a b:List (List UInt8))(s:List UInt8):has (a++b) s=(has a s||has b s):=by simp [has]
abbrev gC (v a:List (List UInt8)):B7:=[(1,.ptr 0 0 0),(2,.ptr 1 0 0),(3,.sl (A3 v) .no),(4,.sl (A3 a) .no)]
theorem Apz (n:Nd)(hn:wN n≤100000000):Pure X 50 [nd n] (.agg [vi (C9 n).1,str (C9 n).2]):=by
 refine Pure.run Tryz.func50 ?_
 refine AK.pc (Adm n (by omega)) ?_
 refine AK.if_ (fun h1=>?_) (fun h1=>?_)
 ·have h1':Cd n=false:=by have:(!Cd n)=true:=h1;simpa using this
  refine AK.rz Tryz.func50 ?_
  simp only [C9];rw [if_neg (by simp [h1'])]
 have h1':Cd n=true:=by have:(!Cd n)=false:=h1;simpa using this
 obtain ⟨hP,hc,hdp⟩:=Lq h1'
 have hkl:=Ed n
 have hC:C9 n=(if Pw n then (3,[]) else if bigS n.kids.dropLast then (3,[]) else
  match twG [] n.kids.dropLast with
  | some s=>(6,s)
  | none =>
    if (E4 (Aj n 31) (Aj n 32) 7 (Ck n)).2 then (7,(E4 (Aj n 31) (Aj n 32) 7 (Ck n)).1)
    else if (E4 (Aj n 31) (Aj n 32) 8 (Ck n)).2 then (8,(E4 (Aj n 31) (Aj n 32) 8 (Ck n)).1)
    else if Cd (Aw n) then (0,[]) else (5,[]):Int × List UInt8):=by simp only [C9];rw [if_pos h1']
 have hvl:(Aj n 31).length≤1000000000:=by have:=Uu n.kids.dropLast 31;simp [Aj] at this ⊢;omega
 have hal:(Aj n 32).length≤1000000000:=by have:=Uu n.kids.dropLast 32;simp [Aj] at this ⊢;omega
 refine AK.pc (Og n 31 (by omega)) ?_
 refine AK.pc (Og n 32 (by omega)) ?_
 generalize hv:Aj n 31=v at hC hvl ⊢
 generalize ha:Aj n 32=a at hC hal ⊢
 have hvs:((A3 v).length:Int)=v.length:=by rw [Am]
 have has':((A3 a).length:Int)=a.length:=by rw [Am]
 have hM:Pw n=(decide (8<v.length)||decide (4<a.length)):=by simp only [Pw,hv,ha]
 have hne:n.kids≠[]:=by cases hP;simp
 have hpos:0<n.kids.length:=List.length_pos_iff.2 hne
 have hw:IntKind.i64.wrap (((Ak n.kids).length:Int)-1)=((n.kids.length-1:Nat):Int):=by rw [Ae,Aa (by omega) (by omega)];omega
 have hgetD:∀ i,i<n.kids.length-1→∀ x,n.kids[i]?=some x→n.kids.dropLast[i]?=some x:=fun i hi x hx=>by
  rw [List.dropLast_eq_take,List.getElem?_take,if_pos hi];exact hx
 have hdl:n.kids.dropLast.length=n.kids.length-1:=by simp
 have h20:Pw n=false→bigS n.kids.dropLast=false→twG [] n.kids.dropLast=none→AK X ⟨50,Tryz.f50,0,0⟩ (Hn false 20 Tryz.f50) (gC v a) ⟨[[Af n],[[vi 0,str []]]],[]⟩
  (fun e S=>e=.ret (.agg [vi (C9 n).1,str (C9 n).2])∧S=⟨[],[]⟩):=fun g1 g2 g3=>by
  rw [hC,if_neg (by simp [g1]),if_neg (by simp [g2]),g3]
  simp only
  have hl:n.kids[n.kids.length-1]?=some (Ck n):=by
   simp only [Ck]
   cases hk:n.kids with
   | nil=>exact absurd hk hne
   | cons y l=>rw [List.getLastD_eq_getLast?,List.getLast?_eq_getElem?];simp
  have hlast:(Ak n.kids)[(IntKind.i64.wrap (((Ak n.kids).length:Int)-1)).toNat]?=some (Af (Ck n)):=by
   rw [hw]
   exact Ao (by simpa using hl)
  have hwl:wN (Ck n)≤100000000:=by
   have:=Gm (List.mem_of_getElem? hl);omega
  refine AK.at_ ?_
  refine AK.ev 100 rfl ?_
  refine AK.ix _ (by rw [hw];omega) hlast ?_
  refine AK.pc (Ahj v a 7 (.inl rfl) hvl hal (Ck n) (by omega)) ?_
  refine AK.if_ (fun h2=>?_) (fun h2=>?_)
  ·have h2':(E4 v a 7 (Ck n)).2=true:=h2
   rw [if_pos h2']
   refine AK.rz Tryz.func50 ?_
   rfl
  have h2':(E4 v a 7 (Ck n)).2=false:=h2
  rw [if_neg (by simp [h2'])]
  refine AK.pc (Ahj v a 8 (.inr rfl) hvl hal (Ck n) (by omega)) ?_
  refine AK.if_ (fun h3=>?_) (fun h3=>?_)
  ·have h3':(E4 v a 8 (Ck n)).2=true:=h3
   rw [if_pos h3']
   refine AK.rz Tryz.func50 ?_
   rfl
  have h3':(E4 v a 8 (Ck n)).2=false:=h3
  rw [if_neg (by simp [h3'])]
  refine AK.pc (Vv n hP hn) ?_
  refine AK.pc (Adm (Aw n) (by have:=(Ol n).1;omega)) ?_
  refine AK.if_ (fun h4=>?_) (fun h4=>?_)
  ·have h4':Cd (Aw n)=false:=by have:(!Cd (Aw n))=true:=h4;simpa using this
   rw [if_neg (by simp [h4'])]
   refine AK.rz Tryz.func50 ?_
   rfl
  ·have h4':Cd (Aw n)=true:=by have:(!Cd (Aw n))=false:=h4;simpa using this
   rw [if_pos h4']
   refine AK.rz Tryz.func50 ?_
   rfl
 have h12:Pw n=false→bigS n.kids.dropLast=false→AK X ⟨50,Tryz.f50,0,0⟩ (Hn false 12 Tryz.f50) (gC v a) ⟨[[Af n],[[vi 0,str []]]],[]⟩
  (fun e S=>e=.ret (.agg [vi (C9 n).1,str (C9 n).2])∧S=⟨[],[]⟩):=fun g1 g2=>by
  refine AK.at_ ?_
  refine AK.ev 100 rfl ?_
  refine AK.while_ (ι:=Nat) 2 0 (fun i=>i≤n.kids.length-1∧twG [] n.kids.dropLast=twG ((n.kids.dropLast.take i).map Nd.name) (n.kids.dropLast.drop i)) (fun i=>(6,vi i)::gC v a) (fun _=>⟨[[Af n],[[vi 0,str []]]],[]⟩)
   (fun i=>n.kids.length-i) ?_ 0 ⟨Nat.zero_le _,by simp⟩ ⟨rfl,rfl,rfl,rfl,rfl,trivial⟩
  rintro i ⟨hi,hT⟩ IH
  refine AK.ev 100 rfl ?_
  refine AK.ifj 0 20 (fun h=>?_) (fun h=>?_)
  ·have hlt:i<n.kids.length-1:=by have:=of_decide_eq_true h;rw [hw] at this;omega
   obtain ⟨x,hx⟩:=Ac n.kids (i:=i) (by omega)
   have hx':=hgetD i hlt x hx
   have hd:twG ((n.kids.dropLast.take i).map Nd.name) (n.kids.dropLast.drop i)=if has ((n.kids.dropLast.take i).map Nd.name) x.name then some x.name else twG ((n.kids.dropLast.take (i+1)).map Nd.name) (n.kids.dropLast.drop (i+1)):=by
    rw [Av hx'];simp only [twG]
    rw [show (n.kids.dropLast.take (i+1)).map Nd.name=(n.kids.dropLast.take i).map Nd.name++[x.name] by rw [List.take_add_one,hx'];simp]
   rw [hd] at hT
   refine AK.ev 100 rfl ?_
   refine AK.while_ (ι:=Nat) 2 0 (fun k=>k≤i∧has ((n.kids.dropLast.take k).map Nd.name) x.name=false) (fun k=>(7,vi k)::(6,vi i)::gC v a) (fun _=>⟨[[Af n],[[vi 0,str []]]],[]⟩)
    (fun k=>i-k) ?_ 0 ⟨Nat.zero_le _,by simp [has]⟩ ⟨rfl,rfl,rfl,rfl,rfl,rfl,trivial⟩
   rintro k ⟨hk,hno⟩ IH2
   refine AK.ei (fun h2=>?_) (fun h2=>?_)
   ·have hkl':k<i:=by have:=of_decide_eq_true h2;omega
    obtain ⟨y,hy⟩:=Ac n.kids (i:=k) (by omega)
    have hy':=hgetD k (by omega) y hy
    have hsn:has ((n.kids.dropLast.take (k+1)).map Nd.name) x.name=(y.name==x.name):=by
     rw [show (n.kids.dropLast.take (k+1)).map Nd.name=(n.kids.dropLast.take k).map Nd.name++[y.name] by rw [List.take_add_one,hy'];simp,Abk,hno]
     simp [has]
    refine AK.db 0 ?_
    refine Drv.ig k (by omega) (Ao hy) ?_
    refine Drv.ig i (by omega) (Ao hx) ?_
    refine Drv.z ?_
    refine AK.if_ (fun h3=>?_) (fun h3=>?_)
    ·have h3':(y.name==x.name)=true:=h3
     have hin:has ((n.kids.dropLast.take i).map Nd.name) x.name=true:=by
      have e:n.kids.dropLast.take i=n.kids.dropLast.take (k+1)++(n.kids.dropLast.take i).drop (k+1):=by
       conv=>lhs;rw [← List.take_append_drop (k+1) (n.kids.dropLast.take i)]
       rw [List.take_take,Nat.min_eq_left (by omega)]
      rw [e,List.map_append,Abk,hsn,h3'];rfl
     rw [if_pos hin] at hT
     refine AK.ix i (by omega) (Ao hx) ?_
     refine AK.rz Tryz.func50 ?_
     rw [hC,if_neg (by simp [g1]),if_neg (by simp [g2]),hT]
    ·have h3':(y.name==x.name)=false:=h3
     exact IH2 (k+1) ⟨hkl',by rw [hsn,h3']⟩ (by omega) _ _ ⟨vsx (by omega),rfl,rfl,rfl,rfl,rfl,trivial⟩ rfl rfl rfl
   ·have:k=i:=by have:=of_decide_eq_false h2;omega
    subst this
    rw [if_neg (by rw [hno];simp)] at hT
    exact IH (k+1) ⟨by omega,hT⟩ (by omega) _ _ ⟨vsx (by omega),rfl,rfl,rfl,rfl,trivial⟩ rfl rfl rfl
  ·have:i=n.kids.length-1:=by have:=of_decide_eq_false h;rw [hw] at this;omega
   rw [this,← hdl,List.drop_length,List.take_length] at hT
   exact AK.back' 2 0 (h20 g1 g2 (by rw [hT];rfl)) ⟨rfl,rfl,rfl,rfl,trivial⟩ rfl rfl rfl rfl rfl
 have h7:Pw n=false→AK X ⟨50,Tryz.f50,0,0⟩ (Hn false 7 Tryz.f50) (gC v a) ⟨[[Af n],[[vi 0,str []]]],[]⟩
  (fun e S=>e=.ret (.agg [vi (C9 n).1,str (C9 n).2])∧S=⟨[],[]⟩):=fun g1=>by
  refine AK.at_ ?_
  refine AK.ev 100 rfl ?_
  refine AK.while_ (ι:=Nat) 2 0 (fun i=>i≤n.kids.length-1∧bigS n.kids.dropLast=bigS (n.kids.dropLast.drop i)) (fun i=>(5,vi i)::gC v a) (fun _=>⟨[[Af n],[[vi 0,str []]]],[]⟩)
   (fun i=>n.kids.length-i) ?_ 0 ⟨Nat.zero_le _,by simp⟩ ⟨rfl,rfl,rfl,rfl,rfl,trivial⟩
  rintro i ⟨hi,hT⟩ IH
  refine AK.ev 100 rfl ?_
  refine AK.ifj 0 12 (fun h=>?_) (fun h=>?_)
  ·have hlt:i<n.kids.length-1:=by have:=of_decide_eq_true h;rw [hw] at this;omega
   obtain ⟨x,hx⟩:=Ac n.kids (i:=i) (by omega)
   have hx':=hgetD i hlt x hx
   have hd:bigS (n.kids.dropLast.drop i)=(decide (60<x.num)||bigS (n.kids.dropLast.drop (i+1))):=by rw [Av hx'];rfl
   rw [hd] at hT
   refine AK.ev 100 rfl ?_
   refine AK.ix i (by omega) (Ao hx) ?_
   refine AK.if_ (fun h2=>?_) (fun h2=>?_)
   ·have h2':decide (60<x.num)=true:=by simpa using of_decide_eq_true h2
    refine AK.rz Tryz.func50 ?_
    rw [hC,if_neg (by simp [g1]),if_pos (by rw [hT,h2'];rfl)]
   ·have h2':decide (60<x.num)=false:=by simpa using of_decide_eq_false h2
    exact IH (i+1) ⟨by omega,by rw [hT,h2'];rfl⟩ (by omega) _ _ ⟨vsx (by omega),rfl,rfl,rfl,rfl,trivial⟩ rfl rfl rfl
  ·have:i=n.kids.length-1:=by have:=of_decide_eq_false h;rw [hw] at this;omega
   rw [this,← hdl,List.drop_length] at hT
   exact AK.back' 2 0 (h12 g1 (by rw [hT];rfl)) ⟨rfl,rfl,rfl,rfl,trivial⟩ rfl rfl rfl rfl rfl
 refine AK.gd (fun h2=>?_) (fun h2=>?_)
 ·have h2':decide (8<v.length)=true:=by have:=of_decide_eq_true h2;rw [hvs] at this;simp;omega
  refine AK.yes ?_
  refine AK.rz Tryz.func50 ?_
  rw [hC,if_pos (by rw [hM,h2'];rfl)]
 ·have h2':decide (8<v.length)=false:=by have:=of_decide_eq_false h2;rw [hvs] at this;simp;omega
  refine AK.ifj 0 7 (fun h3=>?_) (fun h3=>?_)
  ·have h3':decide (4<a.length)=true:=by have:=of_decide_eq_true h3;rw [has'] at this;simp;omega
   refine AK.ev 100 rfl ?_
   refine AK.rz Tryz.func50 ?_
   rw [hC,if_pos (by rw [hM,h2',h3'];rfl)]
  ·have h3':decide (4<a.length)=false:=by have:=of_decide_eq_false h3;rw [has'] at this;simp;omega
   exact AK.back' 2 0 (h7 (by rw [hM,h2',h3'];rfl)) ⟨rfl,rfl,rfl,rfl,trivial⟩ rfl rfl rfl rfl rfl
def Et (n:Nd):Bool:=(C9 n).1==0
theorem Ap6 (n:Nd)(hn:wN n≤100000000):Pure X 30 [nd n] (vb (Et n)):=by
 refine Pure.run Tryz.func30 ?_
 refine AK.pc (Apz n hn) ?_
 exact AK.rt Tryz.func30 rfl
end Go.V
namespace Go.V
open Go
section
variable {X:Cx}{S:St}{F:B7}{N:Nat}{ops:Array Oper}{i:Nat}{o:Oper}{p q:Operand}{t t':TypeId}
theorem Aid (hu:X.P.underlying t=some (.interface (X.P.methodsAt t)))(ho:ops[i]?=some o:=by rfl)(hw:A6 ops F o=some true:=by rfl)(hop:o.op=.binOp .eql t p (.const .nilIface) t':=by rfl)
 (hp:Cr X F p=some (.val .nilIface):=by rfl):Ndo X N ops i o F (.val (.bool true)) S S:=by
 refine Ndo.val ho hw fun F' E w a hc hI hF=>?_
 rw [hop] at hc
 have r1:=Ag hI hF ((hc p (by simp [Op.operands])).trans hp)
 generalize hx:a.eval p=x at r1
 cases r1
 exact ⟨.bool true,by simp [execOp,hop,hx,show a.eval (.const .nilIface)=.nilIface from rfl,eqGuard,run_eql_nil_nil w t hu],.val _⟩
theorem Ww (hu:X.P.underlying t=some (.interface (X.P.methodsAt t)))(ho:ops[i]?=some o:=by rfl)(hw:A6 ops F o=some true:=by rfl)(hop:o.op=.binOp .eql t p (.const .nilIface) t':=by rfl)
 (hp:Cr X F p=some .err:=by rfl):Ndo X N ops i o F (.val (.bool false)) S S:=by
 refine Ndo.val ho hw fun F' E w a hc hI hF=>?_
 rw [hop] at hc
 have r1:=Ag hI hF ((hc p (by simp [Op.operands])).trans hp)
 generalize hx:a.eval p=x at r1
 cases r1
 exact ⟨.bool false,by simp [execOp,hop,hx,show a.eval (.const .nilIface)=.nilIface from rfl,eqGuard,run_eql_held_nil w t _ _ hu],.val _⟩
end
end Go.V
namespace Go.Proofs
open Go.Shelf
def Sm:Go.Shelf.Ren:=⟨fun | 172=>248 | 244=>272 | 245=>273 | 247=>290 | 279=>291 | 280=>292 | 281=>293 | 282=>294 | 287=>312 | 316=>313 | 171=>46 | 205=>314 | 321=>322 | 322=>323 | 243=>79 | 246=>123 | 283=>168 | 284=>169 | 285=>170 | 286=>171 | 129=>217 | 317=>216 | 318=>218 | 319=>219 | 320=>220 | 337=>252 | 338=>253 | n=>n,fun | 9=>9 | 3=>3 | 75=>95 | 76=>96 | 4=>4 | 5=>5 | 167=>298 | 37=>89 | 0=>0 | 85=>299 | 2=>2 | 168=>301 | 53=>217 | 175=>308 | 46=>259 | 210=>312 | 127=>132 | 145=>322 | 143=>320 | 21=>21 | 171=>216 | 173=>220 | 212=>256 | 51=>257 | 20=>20 | 213=>258 | 232=>287 | 233=>288 | 80=>98 | n=>n,fun | 15=>6 | 16=>7 | 17=>1 | 18=>3 | 19=>4 | n=>n⟩
theorem Fh:Go.Proofs.LaysC.n172 Tryz.prog Sm:={
 mixed:=by kernel_rfl,
 f129:=Tryz.func217.trans (congrArg some (by kernel_rfl)),
 f171:=Tryz.func46.trans (congrArg some (by kernel_rfl)),
 f172:=Tryz.func248.trans (congrArg some (by kernel_rfl)),
 f205:=Tryz.func314.trans (congrArg some (by kernel_rfl)),
 f243:=Tryz.func79.trans (congrArg some (by kernel_rfl)),
 f244:=Tryz.func272.trans (congrArg some (by kernel_rfl)),
 f245:=Tryz.func273.trans (congrArg some (by kernel_rfl)),
 f246:=Tryz.func123.trans (congrArg some (by kernel_rfl)),
 f247:=Tryz.func290.trans (congrArg some (by kernel_rfl)),
 f279:=Tryz.func291.trans (congrArg some (by kernel_rfl)),
 f280:=Tryz.func292.trans (congrArg some (by kernel_rfl)),
 f281:=Tryz.func293.trans (congrArg some (by kernel_rfl)),
 f282:=Tryz.func294.trans (congrArg some (by kernel_rfl)),
 f283:=Tryz.func168.trans (congrArg some (by kernel_rfl)),
 f284:=Tryz.func169.trans (congrArg some (by kernel_rfl)),
 f285:=Tryz.func170.trans (congrArg some (by kernel_rfl)),
 f286:=Tryz.func171.trans (congrArg some (by kernel_rfl)),
 f287:=Tryz.func312.trans (congrArg some (by kernel_rfl)),
 f316:=Tryz.func313.trans (congrArg some (by kernel_rfl)),
 f317:=Tryz.func216.trans (congrArg some (by kernel_rfl)),
 f318:=Tryz.func218.trans (congrArg some (by kernel_rfl)),
 f319:=Tryz.func219.trans (congrArg some (by kernel_rfl)),
 f320:=Tryz.func220.trans (congrArg some (by kernel_rfl)),
 f321:=Tryz.func322.trans (congrArg some (by kernel_rfl)),
 f322:=Tryz.func323.trans (congrArg some (by kernel_rfl)),
 f337:=Tryz.func252.trans (congrArg some (by kernel_rfl)),
 f338:=Tryz.func253.trans (congrArg some (by kernel_rfl)),
 t0:=Tryz.underlying0,
 a0:=Tryz.isAgg0,
 z0:=Tryz.sizeOf0,
 v0:=Tryz.zeroValue0,
 t2:=Tryz.underlying2,
 a2:=Tryz.isAgg2,
 z2:=Tryz.sizeOf2,
 v2:=Tryz.zeroValue2,
 t3:=Tryz.underlying3,
 a3:=Tryz.isAgg3,
 z3:=Tryz.sizeOf3,
 v3:=Tryz.zeroValue3,
 t4:=Tryz.underlying4,
 a4:=Tryz.isAgg4,
 z4:=Tryz.sizeOf4,
 v4:=Tryz.zeroValue4,
 t5:=Tryz.underlying5,
 a5:=Tryz.isAgg5,
 z5:=Tryz.sizeOf5,
 v5:=Tryz.zeroValue5,
 t9:=Tryz.underlying9,
 a9:=Tryz.isAgg9,
 z9:=Tryz.sizeOf9,
 v9:=Tryz.zeroValue9,
 t20:=Tryz.underlying20,
 a20:=Tryz.isAgg20,
 z20:=Tryz.sizeOf20,
 v20:=Tryz.zeroValue20,
 t21:=Tryz.underlying21,
 a21:=Tryz.isAgg21,
 z21:=Tryz.sizeOf21,
 v21:=Tryz.zeroValue21,
 t37:=Tryz.underlying89,
 a37:=Tryz.isAgg89,
 z37:=Tryz.sizeOf89,
 v37:=Tryz.zeroValue89,
 t46:=Tryz.underlying259,
 a46:=Tryz.isAgg259,
 z46:=Tryz.sizeOf259,
 v46:=Tryz.zeroValue259,
 t51:=Tryz.underlying257,
 a51:=Tryz.isAgg257,
 z51:=Tryz.sizeOf257,
 v51:=Tryz.zeroValue257,
 t53:=Tryz.underlying217,
 a53:=Tryz.isAgg217,
 z53:=Tryz.sizeOf217,
 v53:=Tryz.zeroValue217,
 t75:=Tryz.underlying95,
 a75:=Tryz.isAgg95,
 z75:=Tryz.sizeOf95,
 v75:=Tryz.zeroValue95,
 t76:=Tryz.underlying96,
 a76:=Tryz.isAgg96,
 z76:=Tryz.sizeOf96,
 v76:=Tryz.zeroValue96,
 t85:=Tryz.underlying299,
 a85:=Tryz.isAgg299,
 z85:=Tryz.sizeOf299,
 v85:=Tryz.zeroValue299,
 t127:=Tryz.underlying132,
 a127:=Tryz.isAgg132,
 z127:=Tryz.sizeOf132,
 v127:=Tryz.zeroValue132,
 t143:=Tryz.underlying320,
 a143:=Tryz.isAgg320,
 z143:=Tryz.sizeOf320,
 v143:=Tryz.zeroValue320,
 t145:=Tryz.underlying322,
 a145:=Tryz.isAgg322,
 z145:=Tryz.sizeOf322,
 v145:=Tryz.zeroValue322,
 t167:=Tryz.underlying298,
 a167:=Tryz.isAgg298,
 z167:=Tryz.sizeOf298,
 v167:=Tryz.zeroValue298,
 t168:=Tryz.underlying301,
 a168:=Tryz.isAgg301,
 z168:=Tryz.sizeOf301,
 v168:=Tryz.zeroValue301,
 t171:=Tryz.underlying216,
 a171:=Tryz.isAgg216,
 z171:=Tryz.sizeOf216,
 v171:=Tryz.zeroValue216,
 t173:=Tryz.underlying220,
 a173:=Tryz.isAgg220,
 z173:=Tryz.sizeOf220,
 v173:=Tryz.zeroValue220,
 t175:=Tryz.underlying308,
 a175:=Tryz.isAgg308,
 z175:=Tryz.sizeOf308,
 v175:=Tryz.zeroValue308,
 t210:=Tryz.underlying312,
 a210:=Tryz.isAgg312,
 z210:=Tryz.sizeOf312,
 v210:=Tryz.zeroValue312,
 t212:=Tryz.underlying256,
 a212:=Tryz.isAgg256,
 z212:=Tryz.sizeOf256,
 v212:=Tryz.zeroValue256,
 t213:=Tryz.underlying258,
 a213:=Tryz.isAgg258,
 z213:=Tryz.sizeOf258,
 t232:=Tryz.underlying287,
 a232:=Tryz.isAgg287,
 z232:=Tryz.sizeOf287,
 v232:=Tryz.zeroValue287,
 t233:=Tryz.underlying288,
 a233:=Tryz.isAgg288,
 z233:=Tryz.sizeOf288,
 v233:=Tryz.zeroValue288,
 g15:=by kernel_rfl,
 g16:=by kernel_rfl,
 g17:=by kernel_rfl,
 g18:=by kernel_rfl,
 g19:=by kernel_rfl,
 t80:=Tryz.underlying98,
 a80:=Tryz.isAgg98,
 z80:=Tryz.sizeOf98,
 v80:=Tryz.zeroValue98,
 i0:=by kernel_rfl,
 i2:=by kernel_rfl,
 i3:=by kernel_rfl,
 i4:=by kernel_rfl,
 i5:=by kernel_rfl,
 i9:=by kernel_rfl,
 i20:=by kernel_rfl,
 i21:=by kernel_rfl,
 i37:=by kernel_rfl,
 i46:=by kernel_rfl,
 i51:=by kernel_rfl,
 i53:=by kernel_rfl,
 i75:=by kernel_rfl,
 i76:=by kernel_rfl,
 i80:=by kernel_rfl,
 i85:=by kernel_rfl,
 i127:=by kernel_rfl,
 i143:=by kernel_rfl,
 i145:=by kernel_rfl,
 i167:=by kernel_rfl,
 i168:=by kernel_rfl,
 i171:=by kernel_rfl,
 i173:=by kernel_rfl,
 i175:=by kernel_rfl,
 i210:=by kernel_rfl,
 i212:=by kernel_rfl,
 i232:=by kernel_rfl,
 i233:=by kernel_rfl,
 m15:=by kernel_rfl,
 m16:=by kernel_rfl,
 m17:=by kernel_rfl,
 m18:=by kernel_rfl,
 m19:=by kernel_rfl,
 c0:=by kernel_rfl,
 c2:=by kernel_rfl,
 c3:=by kernel_rfl,
 c4:=by kernel_rfl,
 c5:=by kernel_rfl,
 c9:=by kernel_rfl,
 c20:=by kernel_rfl,
 c21:=by kernel_rfl,
 c37:=by kernel_rfl,
 c46:=by kernel_rfl,
 c51:=by kernel_rfl,
 c53:=by kernel_rfl,
 c75:=by kernel_rfl,
 c76:=by kernel_rfl,
 c80:=by kernel_rfl,
 c85:=by kernel_rfl,
 c127:=by kernel_rfl,
 c143:=by kernel_rfl,
 c145:=by kernel_rfl,
 c167:=by kernel_rfl,
 c168:=by kernel_rfl,
 c171:=by kernel_rfl,
 c173:=by kernel_rfl,
 c175:=by kernel_rfl,
 c210:=by kernel_rfl,
 c212:=by kernel_rfl,
 c213:=by kernel_rfl,
 c232:=by kernel_rfl,
 c233:=by kernel_rfl }
def Sn:Go.Shelf.Ren:=⟨fun | 171=>46 | 243=>79 | 246=>123 | 283=>168 | 284=>169 | 285=>170 | 286=>171 | 129=>217 | 317=>216 | 318=>218 | 319=>219 | 320=>220 | 337=>252 | 338=>253 | n=>n,fun | 3=>3 | 9=>9 | 2=>2 | 4=>4 | 171=>216 | 0=>0 | 53=>217 | 37=>89 | 5=>5 | 173=>220 | 212=>256 | 51=>257 | 20=>20 | 213=>258 | 46=>259 | 232=>287 | 233=>288 | n=>n,fun | 17=>1 | 18=>3 | 19=>4 | n=>n⟩
theorem Yp:Go.Proofs.LaysM.n171 Tryz.prog Sn:={
 mixed:=by kernel_rfl,
 f129:=Tryz.func217.trans (congrArg some (by kernel_rfl)),
 f171:=Tryz.func46.trans (congrArg some (by kernel_rfl)),
 f243:=Tryz.func79.trans (congrArg some (by kernel_rfl)),
 f246:=Tryz.func123.trans (congrArg some (by kernel_rfl)),
 f283:=Tryz.func168.trans (congrArg some (by kernel_rfl)),
 f284:=Tryz.func169.trans (congrArg some (by kernel_rfl)),
 f285:=Tryz.func170.trans (congrArg some (by kernel_rfl)),
 f286:=Tryz.func171.trans (congrArg some (by kernel_rfl)),
 f317:=Tryz.func216.trans (congrArg some (by kernel_rfl)),
 f318:=Tryz.func218.trans (congrArg some (by kernel_rfl)),
 f319:=Tryz.func219.trans (congrArg some (by kernel_rfl)),
 f320:=Tryz.func220.trans (congrArg some (by kernel_rfl)),
 f337:=Tryz.func252.trans (congrArg some (by kernel_rfl)),
 f338:=Tryz.func253.trans (congrArg some (by kernel_rfl)),
 t0:=Tryz.underlying0,
 a0:=Tryz.isAgg0,
 z0:=Tryz.sizeOf0,
 v0:=Tryz.zeroValue0,
 t2:=Tryz.underlying2,
 a2:=Tryz.isAgg2,
 z2:=Tryz.sizeOf2,
 v2:=Tryz.zeroValue2,
 t3:=Tryz.underlying3,
 a3:=Tryz.isAgg3,
 z3:=Tryz.sizeOf3,
 v3:=Tryz.zeroValue3,
 t4:=Tryz.underlying4,
 a4:=Tryz.isAgg4,
 z4:=Tryz.sizeOf4,
 v4:=Tryz.zeroValue4,
 t5:=Tryz.underlying5,
 a5:=Tryz.isAgg5,
 z5:=Tryz.sizeOf5,
 v5:=Tryz.zeroValue5,
 t9:=Tryz.underlying9,
 a9:=Tryz.isAgg9,
 z9:=Tryz.sizeOf9,
 v9:=Tryz.zeroValue9,
 t20:=Tryz.underlying20,
 a20:=Tryz.isAgg20,
 z20:=Tryz.sizeOf20,
 v20:=Tryz.zeroValue20,
 t37:=Tryz.underlying89,
 a37:=Tryz.isAgg89,
 z37:=Tryz.sizeOf89,
 v37:=Tryz.zeroValue89,
 t46:=Tryz.underlying259,
 a46:=Tryz.isAgg259,
 z46:=Tryz.sizeOf259,
 v46:=Tryz.zeroValue259,
 t51:=Tryz.underlying257,
 a51:=Tryz.isAgg257,
 z51:=Tryz.sizeOf257,
 v51:=Tryz.zeroValue257,
 t53:=Tryz.underlying217,
 a53:=Tryz.isAgg217,
 z53:=Tryz.sizeOf217,
 v53:=Tryz.zeroValue217,
 t171:=Tryz.underlying216,
 a171:=Tryz.isAgg216,
 z171:=Tryz.sizeOf216,
 v171:=Tryz.zeroValue216,
 t173:=Tryz.underlying220,
 a173:=Tryz.isAgg220,
 z173:=Tryz.sizeOf220,
 v173:=Tryz.zeroValue220,
 t212:=Tryz.underlying256,
 a212:=Tryz.isAgg256,
 z212:=Tryz.sizeOf256,
 v212:=Tryz.zeroValue256,
 t213:=Tryz.underlying258,
 a213:=Tryz.isAgg258,
 z213:=Tryz.sizeOf258,
 t232:=Tryz.underlying287,
 a232:=Tryz.isAgg287,
 z232:=Tryz.sizeOf287,
 v232:=Tryz.zeroValue287,
 t233:=Tryz.underlying288,
 a233:=Tryz.isAgg288,
 z233:=Tryz.sizeOf288,
 v233:=Tryz.zeroValue288,
 g17:=by kernel_rfl,
 g18:=by kernel_rfl,
 g19:=by kernel_rfl,
 i0:=by kernel_rfl,
 i2:=by kernel_rfl,
 i3:=by kernel_rfl,
 i4:=by kernel_rfl,
 i5:=by kernel_rfl,
 i9:=by kernel_rfl,
 i20:=by kernel_rfl,
 i37:=by kernel_rfl,
 i46:=by kernel_rfl,
 i51:=by kernel_rfl,
 i53:=by kernel_rfl,
 i171:=by kernel_rfl,
 i173:=by kernel_rfl,
 i212:=by kernel_rfl,
 i232:=by kernel_rfl,
 i233:=by kernel_rfl,
 m17:=by kernel_rfl,
 m18:=by kernel_rfl,
 m19:=by kernel_rfl }
end Go.Proofs
namespace Go.V
open Go Go.Proofs
theorem Kl (n:Int)(h0:-9223372036854775808≤n)(h1:n≤9223372036854775807):Pure X 46 [vi n] (str (Lib.itoa n)):=by
 refine Rh (vs:=[.int .i64 n]) ⟨_,Tryz.func46,by kernel_rfl,by rfl⟩ rfl fun w hw=>?_
 obtain ⟨e,z,ht⟩:=hw.tab
 have hg:(X.P.globalNamed "internal/strconv.uint64pow10")=some 1:=by kernel_rfl
 have htab:Lib.TabIs X.P w "internal/strconv.uint64pow10" .u64 Lib.pow10Tab:=by
  unfold Lib.TabIs World.var?
  rw [hg];simp [ht]
 have h:=Any.strconv_Itoa Yp n h0 h1 w htab
 refine h.mono fun e w' he=>?_
 obtain ⟨rfl,k,os,rfl⟩:=he
 refine ⟨⟨_,rfl,fun E w=>.val _⟩,rfl,rfl,rfl,?_,fun j hj=>?_⟩
 ·simp [Sort.grow,World.drewN]
 ·simp only [Sort.grow,World.drewN]
  rw [Array.getElem?_append_left hj]
def Le (s:List UInt8):Int:=match Lib.atoiAll s with
 | .ok v=>v
 | .range=>Lib.atoiSat s
 | _=>0
def W2 (s:List UInt8):AV:=match Lib.atoiAll s with
 | .ok _=>.val .nilIface
 | _=>.err
theorem At2 (s:List UInt8)(hs:s.length≤1000000000):Pure X 248 [str s] (.tup [vi (Le s),W2 s]):=by
 refine Rh (vs:=[.string ⟨⟨s⟩⟩]) ⟨_,Tryz.func248,by kernel_rfl,by rfl⟩ rfl fun w hw=>?_
 have hsz:(⟨⟨s⟩⟩:ByteArray).size=s.length:=rfl
 have tup:∀ (a b:Value) (x:AV),(∀ E w,Rel E w b x)→∀ E w,Rel E w (.tuple #[a,b]) (.tup [.val a,x]):=fun a b x h E w=>by
  refine .tup _ _ rfl fun j v y hv hy=>?_
  match j with
  | 0=>simp at hv hy;subst hv;subst hy;exact .val _
  | 1=>simp at hv hy;subst hv;subst hy;exact h E w
  | j+2=>simp at hy
 cases h:Lib.atoiAll s with
 | ok v =>
   have hc:=Any.strconv_Atoi_ok Fh ⟨⟨s⟩⟩ (by rw [hsz];omega) v h w
   refine hc.mono fun e w' he=>?_
   obtain ⟨rfl,hw'⟩:=he
   refine ⟨⟨_,rfl,?_⟩,?_⟩
   ·simp only [Le,W2,h];exact tup _ _ _ fun E w=>.val _
   ·rcases hw' with rfl | ⟨t,rfl⟩
    ·exact RowKit.Below.refl _ _
    ·exact Lib.bytesWorld_below _ _ _
 | range =>
   obtain ⟨ev,h1,h2⟩:=hw.rng
   have hc:=Any.strconv_Atoi_range Fh ⟨⟨s⟩⟩ (by rw [hsz];omega) h ev w h1 h2
   refine hc.mono fun e w' he=>?_
   obtain ⟨N,rfl,_,_,hb⟩:=he
   refine ⟨⟨_,rfl,?_⟩,hb⟩
   simp only [Le,W2,h];exact tup _ _ _ fun E w=>.err _ _
 | _ =>
   obtain ⟨ev,h1,h2⟩:=hw.syn
   have hc:=Any.strconv_Atoi_syntax Fh ⟨⟨s⟩⟩ (by rw [hsz];omega) h ev w h1 h2
   refine hc.mono fun e w' he=>?_
   obtain ⟨N,rfl,_,_,hb⟩:=he
   refine ⟨⟨_,rfl,?_⟩,hb⟩
   simp only [Le,W2,h];exact tup _ _ _ fun E w=>.err _ _
def Pl (l:List UInt8):Bool:=l.all digit
def Lt (n:Nat)(l:List UInt8):Nat:=l.foldl (fun a c=>10*a+(c.toNat-48)) n
theorem Ary (l:List UInt8):∀ n,n≤Lt n l:=by
 induction l with
 | nil=>intro n;simp [Lt]
 | cons c l ih=>intro n;have:=ih (10*n+(c.toNat-48));simp only [Lt,List.foldl_cons] at this ⊢;omega
theorem Ie {c:UInt8}(h:digit c=true):48≤c.toNat∧c.toNat≤57:=by have:=Vn h;omega
theorem Ux:∀ (l:List UInt8)(n:Nat),M5 n l=if Pl l then (if Lt n l > 1000000 then -1 else (Lt n l:Int)) else -1
 | [],n=>by
   have e:M5 n []=if (n:Int) > 1000000 then -1 else (n:Int):=rfl
   have e2:Lt n []=n:=rfl
   have e3:Pl []=true:=rfl
   rw [e,e2,e3,if_pos rfl]
   by_cases h:n > 1000000
   ·rw [if_pos h,if_pos (by omega)]
   ·rw [if_neg h,if_neg (by omega)]
 | c::l,n=>by
   simp only [M5]
   by_cases hc:digit c=true
   ·rw [if_pos hc]
    have hd:=Ie hc
    have:=Ux l (10*n+(c.toNat-48))
    rw [show (10*(n:Int)+c.toNat-48)=((10*n+(c.toNat-48):Nat):Int) by omega,this]
    simp only [Pl,List.all_cons,hc,Bool.true_and,Lt,List.foldl_cons]
    rfl
   ·rw [if_neg hc]
    have hc':digit c=false:=by simpa using hc
    simp [Pl,hc']
theorem Aah (l:List UInt8)(c:UInt8)(n:Nat):Lt n (l++[c])=10*Lt n l+(c.toNat-48):=by simp [Lt]
theorem Pm (n:Nat):Pl (Hh n)=true:=by
 induction n using Nat.strongRecOn with
 | ind n ih =>
   unfold Hh
   have hd:∀ k,k<10→digit (UInt8.ofNat (48+k))=true:=fun k hk=>by
    have:k=0∨k=1∨k=2∨k=3∨k=4∨k=5∨k=6∨k=7∨k=8∨k=9:=by omega
    rcases this with rfl | rfl | rfl | rfl | rfl | rfl | rfl | rfl | rfl | rfl<;>decide
   split
   ·rename_i h
    have:=hd n h
    simp only [Pl,List.all_cons,List.all_nil,Bool.and_true];exact this
   ·have:=ih (n / 10) (by omega)
    simp only [Pl,List.all_append,List.all_cons,List.all_nil,Bool.and_true] at this ⊢
    rw [this,hd _ (by omega)];rfl
theorem Pk (k:Nat)(hk:k<10):(UInt8.ofNat (48+k)).toNat=48+k:=by
 simp;omega
theorem Aeg (n:Nat):Lt 0 (Hh n)=n:=by
 induction n using Nat.strongRecOn with
 | ind n ih =>
   unfold Hh
   split
   ·rename_i h
    simp only [Lt,List.foldl_cons,List.foldl_nil]
    rw [Pk n h];omega
   ·rw [Aah,ih (n / 10) (by omega),Pk _ (by omega)];omega
theorem Agh:∀ (q:Nat)(l:List UInt8),l.length=q+1→Pl l=true→(l.length=1∨l.head?≠some 48)→Hh (Lt 0 l)=l
 | 0,l,hl,hd,_=>by
   match l,hl with
   | [c],_ =>
     have hc:digit c=true:=by simpa [Pl] using hd
     have:=Ie hc
     simp only [Lt,List.foldl_cons,List.foldl_nil]
     unfold Hh
     rw [if_pos (by omega)]
     congr 1
     apply UInt8.toNat_inj.1
     rw [Pk _ (by omega)];omega
 | q+1,l,hl,hd,h0=>by
   have hne:l≠[]:=by rintro rfl;simp at hl
   obtain ⟨l',c,rfl⟩:∃ l' c,l=l'++[c]:=⟨l.dropLast,l.getLast hne,(List.dropLast_concat_getLast hne).symm⟩
   simp at hl
   have hl':l'.length=q+1:=by omega
   simp only [Pl,List.all_append,Bool.and_eq_true,List.all_cons,List.all_nil,Bool.and_true] at hd
   have hc:=Ie hd.2
   have hhead:l'.head?≠some 48:=by
    rcases h0 with h | h
    ·rw [List.length_append,hl'] at h;simp at h
    ·cases l' with
     | nil=>simp at hl'
     | cons y l'=>simpa using h
   have ih:=Agh q l' hl' hd.1 (.inr hhead)
   have hpos:1≤Lt 0 l':=by
    cases l' with
    | nil=>simp at hl'
    | cons y l' =>
      simp only [Pl,List.all_cons,Bool.and_eq_true] at hd
      have hy:=Ie hd.1.1
      have:y.toNat≠48:=fun h=>hhead (by simp;exact UInt8.toNat_inj.1 h)
      have:=Ary l' (10*0+(y.toNat-48))
      simp only [Lt,List.foldl_cons] at this ⊢;omega
   rw [Aah]
   unfold Hh
   rw [if_neg (by omega),show (10*Lt 0 l'+(c.toNat-48)) / 10=Lt 0 l' by omega,ih,show (10*Lt 0 l'+(c.toNat-48)) % 10=c.toNat-48 by omega]
   congr 2
   apply UInt8.toNat_inj.1
   rw [Pk _ (by omega)];omega
theorem Ub (n:Nat):Lib.decDigits n=Hh n:=by
 induction n using Nat.strongRecOn with
 | ind n ih =>
   unfold Hh
   rw [Lib.decDigits]
   split
   ·rfl
   ·rw [ih (n / 10) (by omega)]
theorem L5 (s:List UInt8):0≤Cc s↔∃ n:Nat,n≤1000000∧s=Hh n∧Cc s=n:=by
 constructor
 ·intro h
  cases s with
  | nil=>simp [Cc] at h
  | cons c l =>
    simp only [Cc] at h ⊢
    split at h
    ·omega
    ·rename_i h1
     split at h
     ·omega
     ·rename_i h2
      rw [if_neg h1,if_neg h2]
      have hv:=Ux (c::l) 0
      simp only [Int.ofNat_zero] at hv
      rw [hv] at h ⊢
      split at h
      ·rename_i hd
       rw [if_pos hd]
       split at h
       ·omega
       ·rename_i hle
        rw [if_neg hle]
        refine ⟨Lt 0 (c::l),by omega,?_,rfl⟩
        refine (Agh l.length (c::l) (by simp) hd ?_).symm
        simp only [Bool.and_eq_true,decide_eq_true_eq,beq_iff_eq,not_and] at h2
        by_cases hl:l.length > 0
        ·right;simp;exact h2 hl
        ·have:l=[]:=List.eq_nil_of_length_eq_zero (by omega)
         subst this;left;rfl
      ·omega
 ·rintro ⟨n,_,_,h⟩;omega
theorem Alb (n:Nat)(h:10≤n):(Hh n).head?≠some 48:=by
 induction n using Nat.strongRecOn with
 | ind n ih =>
   unfold Hh
   rw [if_neg (by omega)]
   have hne:Hh (n / 10)≠[]:=by unfold Hh;split<;>simp
   have ih':(Hh (n / 10)).head?≠some 48:=by
    by_cases h2:10≤n / 10
    ·exact ih (n / 10) (by omega) h2
    ·unfold Hh
     rw [if_pos (by omega)]
     intro h
     have:=congrArg UInt8.toNat (Option.some.inj h)
     rw [Pk _ (by omega)] at this
     simp at this
     omega
   cases hq:Hh (n / 10) with
   | nil=>exact absurd hq hne
   | cons y l=>rw [hq] at ih';simpa using ih'
theorem Aa0 (n:Nat):1≤(Hh n).length:=by
 unfold Hh;split<;>simp
theorem L4 (n:Nat)(h:n≤1000000):Cc (Hh n)=n:=by
 have hl:=Qh n h
 have hp:=Aa0 n
 have hv:=Ux (Hh n) 0
 rw [Pm,if_pos rfl,Aeg,if_neg (by omega)] at hv
 cases hs:Hh n with
 | nil=>rw [hs] at hp;simp at hp
 | cons c l =>
   rw [hs] at hl hv
   simp at hl
   simp only [Cc]
   rw [if_neg (by omega)]
   have:¬ ((decide (l.length > 0)&&c==48)=true):=by
    simp only [Bool.and_eq_true,decide_eq_true_eq,beq_iff_eq,not_and]
    intro h1 h2
    have h10:10≤n:=by
     rcases Nat.lt_or_ge n 10 with h' | h'
     ·unfold Hh at hs;rw [if_pos h'] at hs;simp at hs;rw [hs.2] at h1;simp at h1
     ·exact h'
    have:=Alb n h10
    rw [hs] at this
    simp at this
    exact this h2
   rw [if_neg this]
   exact hv
theorem Vj:∀ (l:List UInt8)(n:Nat),Pl l=true→Lib.decFrom n l=some (Lt n l)
 | [],n,_=>by simp [Lib.decFrom,Lt]
 | c::l,n,h=>by
   simp only [Pl,List.all_cons,Bool.and_eq_true] at h
   have hc:=Ie h.1
   have hd:Lib.digitVal c=some (c.toNat-48):=by unfold Lib.digitVal;rw [if_pos (by omega)]
   simp only [Lib.decFrom,hd]
   rw [Vj l _ h.2]
   simp only [Lt,List.foldl_cons]
   rw [Nat.mul_comm]
theorem Ak2 (n:Nat)(h:n≤1000000):Lib.atoiAll (Hh n)=.ok (n:Int):=by
 have hl:=Qh n h
 have hp:=Aa0 n
 have hd:=Pm n
 have hv:=Aeg n
 rw [Lib.atoiAll_short _ (by omega)]
 cases hs:Hh n with
 | nil=>rw [hs] at hp;simp at hp
 | cons c l =>
   rw [hs] at hd hv
   have hc:digit c=true:=by simp only [Pl,List.all_cons,Bool.and_eq_true] at hd;exact hd.1
   have hr:=Ie hc
   have h45:(c==45)=false:=by rw [beq_eq_false_iff_ne];rintro rfl;simp at hr
   have h43:(c==43)=false:=by rw [beq_eq_false_iff_ne];rintro rfl;simp at hr
   simp only [Lib.atoi,h45,h43,Lib.decNat,Vj _ 0 hd,hv]
   rfl
def Na (s:List UInt8):Bool:=match Lib.atoiAll s with
 | .ok v=>Lib.itoa v==s
 | _=>false
theorem Z6 {s:List UInt8}{n:Nat}(h:n≤1000000)(hs:s=Hh n):Na s=true∧Le s=n:=by
 subst hs
 simp only [Na,Le,Ak2 n h]
 have:Lib.itoa (n:Int)=Hh n:=by unfold Lib.itoa;rw [if_neg (by omega),Int.toNat_natCast,Ub]
 simp [this]
theorem Ajv (c:UInt8)(l:List UInt8)(hc:digit c=true):(Na (c::l)&&decide (Le (c::l)≤1000000))=decide (0≤Cc (c::l)):=by
 rw [Bool.eq_iff_iff]
 simp only [Bool.and_eq_true,decide_eq_true_eq]
 rw [L5]
 constructor
 ·rintro ⟨h1,h2⟩
  cases h:Lib.atoiAll (c::l) with
  | ok v =>
    simp only [Na,Le,h,beq_iff_eq] at h1 h2
    have h1:=h1.symm
    have hv:¬ v<0:=fun hv=>by
     unfold Lib.itoa at h1
     rw [if_pos hv] at h1
     simp at h1
     have:=Ie hc
     rw [h1.1] at this
     simp at this
    obtain ⟨n,rfl⟩:∃ n:Nat,v=n:=⟨v.toNat,by omega⟩
    unfold Lib.itoa at h1
    rw [if_neg hv,Int.toNat_natCast,Ub] at h1
    exact ⟨n,by omega,h1,by rw [h1];exact L4 n (by omega)⟩
  | range=>simp [Na,h] at h1
  | _=>simp [Na,h] at h1
 ·rintro ⟨n,hn,hs,_⟩
  obtain ⟨a,b⟩:=Z6 hn hs
  exact ⟨a,by rw [b];omega⟩
theorem Z5 (s:List UInt8)(hs:s.length≤1000000000):Pure X 212 [str s] (.tup [vi (Le s),vb (Na s)]):=by
 have hu:X.P.underlying 95=some (.interface (X.P.methodsAt 95)):=by kernel_rfl
 have ha:=At2 s hs
 refine Pure.run Tryz.func212 ?_
 cases h:Lib.atoiAll s with
 | ok v =>
   simp only [Le,W2,Na,h] at ha ⊢
   obtain ⟨b0,b1⟩:=Lib.atoiAll_bounds h
   refine AK.pc ha ?_
   refine AK.op (Aid hu) ?_
   refine AK.gy ?_
   refine AK.pc (Kl v (by omega) (by omega)) ?_
   exact AK.rt Tryz.func212 rfl
 | range =>
   simp only [Le,W2,Na,h] at ha ⊢
   refine AK.pc ha ?_
   refine AK.op (Ww hu) ?_
   refine AK.gn ?_
   exact AK.rt Tryz.func212 rfl
 | _ =>
   simp only [Le,W2,Na,h] at ha ⊢
   refine AK.pc ha ?_
   refine AK.op (Ww hu) ?_
   refine AK.gn ?_
   exact AK.rt Tryz.func212 rfl
theorem Ady (s:List UInt8)(c:UInt8):Pure X 295 [str s,vc c] (vi (Lib.indexByte s c)):=by
 have hr:∀ w,(callFunc 315 ⟨[.string ⟨⟨s⟩⟩,.int .u8 c.toNat]⟩).run X.P w=.ok (.value (.int .i64 (Lib.indexByte s c))) w:=fun w=>by
  refine (run_callFunc_extern Tryz.func315 (by kernel_rfl) (by kernel_rfl) (by kernel_rfl) (e:=Extern.BytealgIndexByte.indexByte) (by kernel_rfl) _ w).trans ?_
  have:=Lib.run_indexByteString (P:=Tryz.prog) ⟨⟨s⟩⟩ (c.toNat:Int) w
  have e:((c.toNat:Int)).toNat.toUInt8=c:=by simp
  rw [e] at this
  rw [show (⟨[.string ⟨⟨s⟩⟩,.int .u8 c.toNat]⟩:Array Value)=#[.string ⟨⟨s⟩⟩,.int .u8 c.toNat] from rfl,this]
  rfl
 refine Pure.run Tryz.func295 ?_
 refine AK.op (Aer hr) ?_
 exact AK.rt Tryz.func295 rfl
theorem Ajt (s:List UInt8)(c:UInt8):Pure X 274 [str s,str [c]] (vi (Lib.indexByte s c)):=by
 refine Pure.run Tryz.func274 ?_
 refine AK.gn ?_
 refine AK.if_ (fun h=>?_) (fun h=>?_)
 ·have h':([c]==s)=true:=h
  have:s=[c]:=by rw [beq_iff_eq] at h';exact h'.symm
  subst this
  refine AK.rt Tryz.func274 ?_
  simp [Lib.indexByte,B3]
 ·refine AK.yes ?_
  refine AK.by 0 (by omega) (b:=c) rfl ?_
  refine AK.pc (Ady s c) ?_
  exact AK.rt Tryz.func274 rfl
theorem Ane (s:List UInt8)(c:UInt8):Pure X 250 [str s,str [c]] (vi (Lib.indexByte s c)):=by
 refine Pure.run Tryz.func250 ?_
 refine AK.pc (Ajt s c) ?_
 exact AK.rt Tryz.func250 rfl
theorem Adv (s:List UInt8)(c:UInt8):Pure X 214 [str s,str [c]] (vb (decide (Lib.indexByte s c≥0))):=by
 refine Pure.run Tryz.func214 ?_
 refine AK.pc (Ane s c) ?_
 exact AK.rt Tryz.func214 rfl
def oneSigns:List UInt8:=[43,45,42,40,41,91,93,123,125,59,61,60,62,63]
def Hw:List (List UInt8):=[[61,61],[33,61],[60,61],[62,61]]
theorem Ri (l:List UInt8)(c:UInt8):decide (Lib.indexByte l c≥0)=l.contains c:=by
 induction l with
 | nil=>rfl
 | cons b l ih =>
   unfold Lib.indexByte
   by_cases h:b=c
   ·subst h;simp
   ·have h':(b==c)=false:=by simpa using h
    have h2:(c==b)=false:=by simpa using Ne.symm h
    rw [h']
    simp only [Bool.false_eq_true,if_false,List.contains_cons,h2,Bool.false_or,← ih]
    have:=Lib.indexByte_ge l c
    split
    ·rename_i h3
     have:Lib.indexByte l c=-1:=by simpa using h3
     rw [this]
    ·rename_i h3
     have:Lib.indexByte l c≠-1:=by simpa using h3
     by_cases h4:Lib.indexByte l c≥0
     ·simp [h4];omega
     ·omega
theorem Xm (c:UInt8)(l:List UInt8)(h1:Cq c=false)(h2:digit c=false):B9 (c::l)=if has Hw (c::l)||(l.isEmpty&&oneSigns.contains c) then 3 else 0:=by
 have k1:has Pt (c::l)=false:=by
  simp only [has,Pt,List.any_cons,List.any_nil,Bool.or_false,Bool.or_eq_false_iff,beq_eq_false_iff_ne]
  refine ⟨?_,?_,?_,?_,?_,?_,?_,?_,?_,?_,?_,?_,?_⟩<;>(intro h;injection h with h _;subst h;revert h1;decide)
 have k2:nameS (c::l)=false:=by simp [nameS,h1]
 have k3:¬ Cc (c::l)≥0:=by
  intro h
  obtain ⟨n,_,hs,_⟩:=(L5 _).1 h
  have:=Pm n
  rw [← hs] at this
  simp only [Pl,List.all_cons,h2,Bool.false_and] at this
  cases this
 simp only [B9,k1,k2]
 rw [if_neg (by simp),if_neg (by simp),if_neg k3]
 have:has Hj (c::l)=(has Hw (c::l)||(l.isEmpty&&oneSigns.contains c)):=by
  cases l with
  | nil =>
    simp only [has,Hj,Hw,oneSigns,List.any_cons,List.any_nil,List.contains_cons,List.contains_nil,List.isEmpty_nil,Bool.true_and,Bool.or_false]
    have e:∀ a:UInt8,(a==c)=(c==a):=fun a=>by rw [Bool.eq_iff_iff,beq_iff_eq,beq_iff_eq];exact eq_comm
    simp [e,Bool.or_assoc]
  | cons d l =>
    simp only [has,Hj,Hw,List.any_cons,List.any_nil,List.isEmpty_cons,Bool.false_and,Bool.or_false]
    simp
 rw [this]
theorem X5 (s:List UInt8)(hs:s.length≤1000000000):Pure X 165 [str s] (vi (B9 s)):=by
 cases s with
 | nil =>
   refine Pure.run Tryz.func165 ?_
   refine AK.yes ?_
   refine AK.rt Tryz.func165 ?_
   rfl
 | cons c l =>
   simp only [List.length_cons] at hs
   have hsz:((⟨⟨c::l⟩⟩:ByteArray).size:Int)=l.length+1:=J2 c l
   refine Pure.run Tryz.func165 ?_
   refine AK.no ?_
   refine AK.pc (Aql (c::l)) ?_
   refine AK.if_ (fun h1=>?_) (fun h1=>?_)
   ·have h1':has Pt (c::l)=true:=h1
    refine AK.rt Tryz.func165 ?_
    simp [B9,h1',B3]
   have h1':has Pt (c::l)=false:=h1
   refine AK.by 0 (by omega) (b:=c) rfl ?_
   refine AK.pc (X6 c) ?_
   refine AK.if_ (fun h2=>?_) (fun h2=>?_)
   ·have h2':Cq c=true:=h2
    have hk:B9 (c::l)=if Ni (c::l)&&decide (l.length<8) then 1 else 0:=by
     have hn:nameS (c::l)=(Ni (c::l)&&decide (l.length<8)):=by simp [nameS,h1',h2',Bool.and_comm]
     have hd:digit c=false:=by
      simp only [Cq,digit,A0,Bool.and_eq_true,decide_eq_true_eq,Bool.and_eq_false_iff,decide_eq_false_iff_not] at h2' ⊢
      omega
     have k3:¬ Cc (c::l)≥0:=by
      intro h
      obtain ⟨n,_,hs,_⟩:=(L5 _).1 h
      have:=Pm n
      rw [← hs] at this
      simp only [Pl,List.all_cons,hd,Bool.false_and] at this
      cases this
     have k4:has Hj (c::l)=false:=by
      simp only [has,Hj,List.any_cons,List.any_nil,Bool.or_false,Bool.or_eq_false_iff,beq_eq_false_iff_ne]
      refine ⟨?_,?_,?_,?_,?_,?_,?_,?_,?_,?_,?_,?_,?_,?_,?_,?_,?_,?_⟩<;>(intro h;injection h with h _;subst h;revert h2';decide)
     simp only [B9,h1',hn]
     rw [if_neg (by simp)]
     split
     ·rfl
     ·first | (rw [if_neg k3,k4];rfl) | (rw [k4];rfl)
    rw [hk]
    generalize hT:Ni (c::l)=T
    refine AK.while_ (ι:=Nat) 0 0 (fun i=>i≤l.length+1∧T=Ni ((c::l).drop i)) (fun i=>[(18,vi i),(17,vi (l.length+1)),(0,str (c::l))]) (fun _=>⟨[],[]⟩) (fun i=>l.length+1-i) ?_ 0 ⟨Nat.zero_le _,hT.symm⟩
     ⟨rfl,by rw [← hsz];rfl,rfl,trivial⟩
    rintro i ⟨hi,hTi⟩ IH
    refine AK.ei (fun h3=>?_) (fun h3=>?_)
    ·have hlt:i<(c::l).length:=by have:=of_decide_eq_true h3;simp;omega
     obtain ⟨b,hb⟩:=Ac (c::l) hlt
     rw [Av hb] at hTi
     have hw:Ni (b::(c::l).drop (i+1))=((Cq b||digit b)&&Ni ((c::l).drop (i+1))):=rfl
     rw [hw] at hTi
     refine AK.by i (by omega) hb ?_
     refine AK.pc (X6 b) ?_
     refine AK.gd (fun h4=>?_) (fun h4=>?_)
     ·have h4':Cq b=false:=by have:(!Cq b)=true:=h4;simpa using this
      refine AK.by i (by omega) hb ?_
      refine AK.pc (Ab2 b) ?_
      refine AK.if_ (fun h5=>?_) (fun h5=>?_)
      ·have h5':digit b=false:=by have:(!digit b)=true:=h5;simpa using this
       refine AK.rt Tryz.func165 ?_
       rw [hTi,h4',h5'];rfl
      ·have h5':digit b=true:=by have:(!digit b)=false:=h5;simpa using this
       exact IH (i+1) ⟨by simp at hlt;omega,by rw [hTi,h5'];simp⟩ (by simp at hlt;omega) _ _ ⟨vsx (by omega),rfl,rfl,trivial⟩ rfl rfl rfl
     ·have h4':Cq b=true:=by have:(!Cq b)=false:=h4;simpa using this
      refine AK.no ?_
      exact IH (i+1) ⟨by simp at hlt;omega,by rw [hTi,h4'];simp⟩ (by simp at hlt;omega) _ _ ⟨vsx (by omega),rfl,rfl,trivial⟩ rfl rfl rfl
    ·have:i=(c::l).length:=by have:=of_decide_eq_false h3;simp;omega
     rw [this,List.drop_length] at hTi
     have hT1:T=true:=hTi
     subst hT1
     refine AK.if_ (fun h4=>?_) (fun h4=>?_)
     ·have h4':l.length<8:=by have:=of_decide_eq_true h4;rw [hsz] at this;omega
      refine AK.rt Tryz.func165 ?_
      simp [h4',B3]
     ·have h4':¬ l.length<8:=by have:=of_decide_eq_false h4;rw [hsz] at this;omega
      refine AK.rt Tryz.func165 ?_
      simp [h4',B3]
   have h2':Cq c=false:=h2
   refine AK.by 0 (by omega) (b:=c) rfl ?_
   refine AK.pc (Ab2 c) ?_
   refine AK.if_ (fun h3=>?_) (fun h3=>?_)
   ·have h3':digit c=true:=h3
    have hr:=Ajv c l h3'
    have hk:B9 (c::l)=if Na (c::l)&&decide (Le (c::l)≤1000000) then 2 else 0:=by
     have k2:nameS (c::l)=false:=by simp [nameS,h2']
     have k4:has Hj (c::l)=false:=by
      simp only [has,Hj,List.any_cons,List.any_nil,Bool.or_false,Bool.or_eq_false_iff,beq_eq_false_iff_ne]
      refine ⟨?_,?_,?_,?_,?_,?_,?_,?_,?_,?_,?_,?_,?_,?_,?_,?_,?_,?_⟩<;>(intro h;injection h with h _;subst h;revert h3';decide)
     simp only [B9,h1',k2,hr]
     rw [if_neg (by simp),if_neg (by simp)]
     by_cases h:0≤Cc (c::l)
     ·simp [h]
     ·rw [if_neg (by omega),k4];simp [h]
    rw [hk]
    refine AK.pc (Z5 (c::l) (by simp;omega)) ?_
    refine AK.gd (fun h4=>?_) (fun h4=>?_)
    ·have h4':Na (c::l)=true:=h4
     refine AK.if_ (fun h5=>?_) (fun h5=>?_)
     ·have h5':Le (c::l)≤1000000:=of_decide_eq_true h5
      refine AK.rt Tryz.func165 ?_
      simp [h4',h5',B3]
     ·have h5':¬ Le (c::l)≤1000000:=of_decide_eq_false h5
      refine AK.rt Tryz.func165 ?_
      simp [h4',h5',B3]
    ·have h4':Na (c::l)=false:=h4
     refine AK.no ?_
     refine AK.rt Tryz.func165 ?_
     simp [h4',B3]
   have h3':digit c=false:=h3
   rw [Xm c l h2' h3']
   refine AK.pc (Om Hw (c::l) (by decide)) ?_
   refine AK.gd (fun h4=>?_) (fun h4=>?_)
   ·have h4':has Hw (c::l)=true:=h4
    refine AK.yes ?_
    refine AK.rt Tryz.func165 ?_
    simp [h4',B3]
   have h4':has Hw (c::l)=false:=h4
   cases l with
   | nil =>
     refine AK.gy ?_
     refine AK.pc (Adv oneSigns c) ?_
     refine AK.if_ (fun h5=>?_) (fun h5=>?_)
     ·have h5':oneSigns.contains c=true:=by rw [← Ri];exact h5
      refine AK.rt Tryz.func165 ?_
      rw [h4',h5'];rfl
     ·have h5':oneSigns.contains c=false:=by rw [← Ri];exact h5
      refine AK.rt Tryz.func165 ?_
      rw [h4',h5'];rfl
   | cons d l =>
     have:(((⟨⟨c::d::l⟩⟩:ByteArray).size:Int)==1)=false:=by rw [J2];simp;omega
     refine AK.gn ?_ (ht:=this)
     refine AK.no ?_
     refine AK.rt Tryz.func165 ?_
     simp [h4',B3]
theorem Aoe (c d:UInt8)(l:List UInt8)(h1:Cq c=false)(h2:digit c=false):(B9 [c,d]==3)=has Hj [c,d]:=by
 rw [Xm c [d] h1 h2]
 have:has Hj [c,d]=has Hw [c,d]:=by
  simp only [has,Hj,Hw,List.any_cons,List.any_nil,Bool.or_false];simp
 rw [this]
 cases has Hw [c,d]<;>rfl
def Ao5 (c:UInt8):List UInt8→Nat
 | []=>1
 | d::_=>if has Hj [c,d] then 2 else 1
theorem Ajp (c:UInt8)(l:List UInt8)(hs:l.length≤900000000):Pure X 282 [str (c::l)] (vi (Ik (c::l))):=by
 have hsz:((⟨⟨c::l⟩⟩:ByteArray).size:Int)=l.length+1:=J2 c l
 obtain ⟨T,hT⟩:∃ T,D7 (c::l)=T:=⟨_,rfl⟩
 have hTle:T≤l.length+1:=by rw [← hT];exact Si _
 have hE:Ik (c::l)=if T=0 then Ao5 c l else T:=by
  by_cases h:(Cq c||digit c)=true
  ·have hw:T=1+D7 l:=by rw [← hT];simp only [D7];rw [if_pos h]
   have he:Ik (c::l)=D7 (c::l):=by simp only [Ik];rw [if_pos h]
   rw [he,hT,if_neg (by omega)]
  ·have hw:T=0:=by rw [← hT];simp only [D7];rw [if_neg h]
   have he:Ik (c::l)=Ao5 c l:=by simp only [Ik];rw [if_neg h];cases l<;>rfl
   rw [he,if_pos hw]
 have tail:AK X ⟨282,Tryz.f282,0,0⟩ (Hn false 4 Tryz.f282) [(3,vi T),(0,str (c::l))] ⟨[],[]⟩ (fun e S=>e=.ret (vi (Ik (c::l)))∧S=⟨[],[]⟩):=by
  rw [hE]
  refine AK.at_ ?_
  refine AK.ev 100 rfl ?_
  refine AK.gd (fun h=>?_) (fun h=>?_)
  ·have h0:T=0:=by have:((T:Int)==0)=true:=h;simpa using this
   have hcd:Cq c=false∧digit c=false:=by
    rw [h0] at hT
    simp only [D7] at hT
    split at hT
    ·omega
    ·rename_i h;simpa using h
   rw [if_pos h0]
   cases l with
   | nil =>
     refine AK.gn ?_
     refine AK.no ?_
     refine AK.rt Tryz.func282 ?_
     rw [h0];rfl
   | cons d l =>
     refine AK.gy ?_ (ht:=decide_eq_true (by rw [hsz];simp;omega))
     refine AK.op (Ndo.sub (l:=0) (h:=2) (r:=[c,d]) rfl rfl rfl rfl rfl rfl rfl rfl ?_ ?_ ?_ rfl) ?_
     ·omega
     ·omega
     ·simp;omega
     refine AK.pc (X5 [c,d] (by simp)) ?_
     have e:=Aoe c d l hcd.1 hcd.2
     refine AK.if_ (fun h2=>?_) (fun h2=>?_)
     ·have h2':has Hj [c,d]=true:=by rw [← e];exact h2
      refine AK.rt Tryz.func282 ?_
      simp [h2',B3,Ao5]
     ·have h2':has Hj [c,d]=false:=by rw [← e];exact h2
      refine AK.rt Tryz.func282 ?_
      simp [h2',h0,B3,Ao5]
  ·have h0:T≠0:=by have:((T:Int)==0)=false:=h;simpa using this
   rw [if_neg h0]
   refine AK.gn ?_
   refine AK.no ?_
   refine AK.rt Tryz.func282 ?_
   simp only [B3]
   rw [if_neg (by omega)]
 refine Pure.run Tryz.func282 ?_
 refine AK.while_ (ι:=Nat) 0 0 (fun i=>i≤l.length+1∧T=i+D7 ((c::l).drop i)) (fun i=>[(3,vi i),(0,str (c::l))]) (fun _=>⟨[],[]⟩) (fun i=>l.length+1-i) ?_ 0 ⟨Nat.zero_le _,by simpa using hT.symm⟩
  ⟨rfl,rfl,trivial⟩
 rintro i ⟨hi,hTi⟩ IH
 refine AK.ev 100 rfl ?_
 refine AK.gd (fun h=>?_) (fun h=>?_)
 ·have hlt:i<(c::l).length:=by have:=of_decide_eq_true h;simp;omega
  obtain ⟨b,hb⟩:=Ac (c::l) hlt
  rw [Av hb] at hTi
  simp only [D7] at hTi
  refine AK.by i (by omega) hb ?_
  refine AK.pc (X6 b) ?_
  refine AK.gd (fun h2=>?_) (fun h2=>?_)
  ·have h2':Cq b=true:=h2
   refine AK.yes ?_
   rw [h2'] at hTi
   exact IH (i+1) ⟨by simp at hlt;omega,by rw [hTi];simp;omega⟩ (by simp at hlt;omega) _ _ ⟨vsx (by omega),rfl,trivial⟩ rfl rfl rfl
  ·have h2':Cq b=false:=h2
   refine AK.by i (by omega) hb ?_
   refine AK.pc (Ab2 b) ?_
   refine AK.ifj 0 4 (fun h3=>?_) (fun h3=>?_)
   ·have h3':digit b=true:=h3
    rw [h3'] at hTi
    refine AK.ev 100 rfl ?_
    exact IH (i+1) ⟨by simp at hlt;omega,by rw [hTi];simp;omega⟩ (by simp at hlt;omega) _ _ ⟨vsx (by omega),rfl,trivial⟩ rfl rfl rfl
   ·have h3':digit b=false:=h3
    rw [h2',h3'] at hTi
    have hTi':T=i:=by simpa using hTi
    rw [hTi'] at tail
    exact AK.back' 0 0 tail ⟨rfl,rfl,trivial⟩ rfl rfl rfl rfl rfl
 ·have hie:i=(c::l).length:=by have:=of_decide_eq_false h;simp;omega
  rw [hie,List.drop_length] at hTi
  have hTi':T=i:=by rw [hie,hTi];rfl
  rw [hTi'] at tail
  refine AK.ifj 0 4 (fun h3=>?_) (fun h3=>?_)
  ·cases h3
  ·exact AK.back' 0 0 tail ⟨rfl,rfl,trivial⟩ rfl rfl rfl rfl rfl
theorem Aqv (s:List UInt8)(hs:s.length≤900000000):Pure X 267 [str s] (.tup [.sl (En (B0 s).1) .no,.agg [vi (B0 s).2.1,vi (B0 s).2.2]]):=by
 refine Pure.run Tryz.func267 ?_
 refine AK.if_ (fun h=>?_) (fun h=>?_)
 ·have:s.length > 4000:=by have:=of_decide_eq_true h;rw [C7] at this;omega
  refine AK.as_ 2 (.sl [] .tight) ?_
  refine AK.rz Tryz.func267 ?_
  simp only [B0];rw [if_pos this];rfl
 have hlen:¬ s.length > 4000:=by have:=of_decide_eq_false h;rw [C7] at this;omega
 generalize hT:B0 s=T
 have hT':T=Ek (s.length+1) (Bn false s) (s.drop (Bn false s)) []:=by rw [← hT];simp only [B0];rw [if_neg hlen]
 refine AK.mint (d:=4) rfl rfl rfl ?_
 refine AK.while_ (ι:=Nat × List Wd) 1 1 (fun i=>i.1≤s.length∧i.2.length≤1500∧∃ f,s.length-i.1<f∧T=Ek f (i.1+Bn false (s.drop i.1)) (s.drop (i.1+Bn false (s.drop i.1))) i.2)
  (fun i=>[(5,vi i.1),(4,.sl (En i.2) (.tok 0)),(0,str s),(3,.ptr 0 0 0)]) (fun i=>⟨[[[vi 0,vi 0]]],[i.2.length]⟩) (fun i=>s.length-i.1) ?_ (0,[]) ⟨Nat.zero_le _,Nat.zero_le _,s.length+1,by simp,by simpa using hT'⟩
  ⟨rfl,rfl,rfl,rfl,trivial⟩
 rintro ⟨a,out⟩ ⟨ha,hout,f,hf,hTa⟩ IH
 simp only at ha hout hf hTa IH ⊢
 refine AK.ei (fun h=>?_) (fun h=>?_)
 ·have hlt:a<s.length:=by have:=of_decide_eq_true h;rw [C7] at this;omega
  obtain ⟨c,hc⟩:=Ac s hlt
  have hd:=Av hc
  refine AK.by a (by omega) hc ?_
  have white:(c==32||c==10)=true→T=Ek f (a+1+Bn false (s.drop (a+1))) (s.drop (a+1+Bn false (s.drop (a+1)))) out:=fun hw=>by
   have e:Bn false (s.drop a)=1+Bn false (s.drop (a+1)):=by rw [hd];simp only [Bn];rw [if_pos hw]
   rw [hTa,e,show a+(1+Bn false (s.drop (a+1)))=a+1+Bn false (s.drop (a+1)) by omega]
  refine AK.if_ (fun h1=>?_) (fun h1=>?_)
  ·have h1':(c==32)=true:=by rw [← cb];exact h1
   exact IH (a+1,out) ⟨by simp only;omega,hout,f,by simp only;omega,white (by rw [h1'];rfl)⟩ (by simp only;omega) _ _ ⟨vsx (by omega),rfl,rfl,rfl,trivial⟩ rfl rfl rfl
  have h1':(c==32)=false:=by rw [← cb];exact h1
  refine AK.if_ (fun h2=>?_) (fun h2=>?_)
  ·have h2':(c==10)=true:=by rw [← cb];exact h2
   exact IH (a+1,out) ⟨by simp only;omega,hout,f,by simp only;omega,white (by rw [h2'];simp)⟩ (by simp only;omega) _ _ ⟨vsx (by omega),rfl,rfl,rfl,trivial⟩ rfl rfl rfl
  have h2':(c==10)=false:=by rw [← cb];exact h2
  refine AK.if_ (fun h3=>?_) (fun h3=>?_)
  ·have h3':(c==35)=true:=by rw [← cb];exact h3
   have hE:Bn false (s.drop a)=Bn true (s.drop a):=by rw [hd];simp only [Bn];rw [if_neg (by simp [h1',h2']),if_pos h3',if_neg (by simp [h2'])]
   rw [hE] at hTa
   refine AK.while_ (ι:=Nat) 1 1 (fun i=>a≤i∧i≤s.length∧T=Ek f (i+Bn true (s.drop i)) (s.drop (i+Bn true (s.drop i))) out) (fun i=>[(5,vi i),(4,.sl (En out) (.tok 0)),(0,str s),(3,.ptr 0 0 0)])
    (fun _=>⟨[[[vi 0,vi 0]]],[out.length]⟩) (fun i=>s.length-i) ?_ a ⟨Nat.le_refl _,ha,hTa⟩ ⟨rfl,rfl,rfl,rfl,trivial⟩
   rintro i ⟨hai,hi,hTi⟩ IH2
   refine AK.ev 100 rfl ?_
   refine AK.gd (fun h4=>?_) (fun h4=>?_)
   ·have hlt2:i<s.length:=by have:=of_decide_eq_true h4;rw [C7] at this;omega
    obtain ⟨b,hb⟩:=Ac s hlt2
    have hd2:=Av hb
    refine AK.by i (by omega) hb ?_
    refine AK.if_ (fun h5=>?_) (fun h5=>?_)
    ·have h5':(b==10)=false:=by
      have:(!((b.toNat:Int)==10))=true:=h5
      rw [← cb];simpa using this
     have e:Bn true (s.drop i)=1+Bn true (s.drop (i+1)):=by rw [hd2];simp only [Bn];rw [if_neg (by simp [h5'])]
     exact IH2 (i+1) ⟨by omega,by omega,by rw [hTi,e,show i+(1+Bn true (s.drop (i+1)))=i+1+Bn true (s.drop (i+1)) by omega]⟩ (by omega) _ _ ⟨vsx (by omega),rfl,rfl,rfl,trivial⟩ rfl rfl rfl
    ·have h5':(b==10)=true:=by
      have:(!((b.toNat:Int)==10))=false:=h5
      rw [← cb];simpa using this
     have e:Bn true (s.drop i)=Bn false (s.drop i):=by rw [hd2];simp only [Bn];rw [if_pos h5',if_pos (by rw [h5'];simp)]
     have hne:a≠i:=by
      rintro rfl
      rw [hc] at hb;cases hb
      rw [h5'] at h2';cases h2'
     exact IH (i,out) ⟨by simp only;omega,hout,f,by simp only;omega,by rw [e] at hTi;exact hTi⟩ (by simp only;omega) _ _ ⟨rfl,rfl,rfl,rfl,trivial⟩ rfl rfl rfl
   ·have hie:i=s.length:=by have:=of_decide_eq_false h4;rw [C7] at this;omega
    have e:Bn true (s.drop i)=Bn false (s.drop i):=by rw [hie,List.drop_length];rfl
    refine AK.no ?_
    exact IH (i,out) ⟨by simp only;omega,hout,f,by simp only;omega,by rw [e] at hTi;exact hTi⟩ (by simp only;omega) _ _ ⟨rfl,rfl,rfl,rfl,trivial⟩ rfl rfl rfl
  have h3':(c==35)=false:=by rw [← cb];exact h3
  have h0:Bn false (s.drop a)=0:=by rw [hd];simp only [Bn];rw [if_neg (by simp [h1',h2']),if_neg (by simp [h3'])]
  rw [h0,Nat.add_zero] at hTa
  obtain ⟨g,rfl⟩:∃ g,f=g+1:=⟨f-1,by omega⟩
  obtain ⟨n,hn⟩:∃ n,Ik (s.drop a)=n:=⟨_,rfl⟩
  have hbd:=Agi c (s.drop (a+1))
  rw [← hd,hn] at hbd
  have hdl:(s.drop a).length=s.length-a:=by simp
  rw [hdl] at hbd
  obtain ⟨t,ht⟩:∃ t,(s.drop a).take n=t:=⟨_,rfl⟩
  have htl:t.length=n:=by rw [← ht];simp;omega
  have hstep:T=if B9 t==0 then ([],2,a) else if out.length==1500 then ([],3,a) else
   Ek g (a+n+Bn false (s.drop (a+n))) (s.drop (a+n+Bn false (s.drop (a+n)))) (out++[⟨B9 t,t,a⟩]):=by
   rw [hTa]
   conv=>lhs;unfold Ek
   rw [hd]
   simp only
   rw [← hd,hn,ht,List.drop_drop,List.drop_drop]
   rw [show a+(n+Bn false (s.drop (a+n)))=a+n+Bn false (s.drop (a+n)) by omega]
  have hlong:Pure X 282 [str (s.drop a)] (vi n):=by
   have:=Ajp c (s.drop (a+1)) (by simp;omega)
   rw [← hd,hn] at this;exact this
  refine AK.op (Ndo.sub (l:=(a:Int)) (h:=(s.length:Int)) (r:=s.drop a) rfl rfl rfl rfl rfl rfl rfl rfl ?_ ?_ ?_ ?_) ?_
  ·omega
  ·omega
  ·omega
  ·simp
  refine AK.pc hlong ?_
  have hwr:IntKind.i64.wrap ((a:Int)+(n:Int))=(a+n:Nat):=(Aa (by omega) (by omega)).trans (by omega)
  refine AK.op (Ndo.sub (l:=(a:Int)) (h:=IntKind.i64.wrap ((a:Int)+(n:Int))) (r:=t) rfl rfl rfl rfl rfl rfl rfl rfl ?_ ?_ ?_ ?_) ?_
  ·omega
  ·rw [hwr];omega
  ·rw [hwr];omega
  ·rw [hwr,← ht]
   rw [show ((a+n:Nat):Int).toNat=a+n by omega,show ((a:Nat):Int).toNat=a by omega,List.drop_take,show a+n-a=n by omega]
  refine AK.pc (X5 t (by omega)) ?_
  refine AK.if_ (fun h4=>?_) (fun h4=>?_)
  ·have h4':(B9 t==0)=true:=h4
   refine AK.as_ 2 (.sl [] .tight) ?_
   refine AK.rz Tryz.func267 ?_
   rw [hstep,h4'];rfl
  have h4':(B9 t==0)=false:=h4
  refine AK.if_ (fun h5=>?_) (fun h5=>?_)
  ·have h5':(out.length==1500)=true:=by
    have:(((En out).length:Int)==1500)=true:=h5
    rw [Cj] at this
    simp at this ⊢;omega
   refine AK.as_ 2 (.sl [] .tight) ?_
   refine AK.rz Tryz.func267 ?_
   rw [hstep,h4',h5'];rfl
  have h5':(out.length==1500)=false:=by
   have:(((En out).length:Int)==1500)=false:=h5
   rw [Cj] at this
   simp at this ⊢;omega
  have h5'':out.length≠1500:=by simpa using h5'
  refine AK.op (Ndo.append (res:=En (out++[⟨B9 t,t,a⟩])) rfl rfl rfl rfl rfl rfl rfl rfl rfl rfl rfl rfl rfl rfl (Cj out) (Yn out) rfl rfl rfl ?_ ?_ rfl) ?_
  ·rw [Cj];simp;omega
  ·simp [En,Qb]
  have hst:((⟨⟨t⟩⟩:ByteArray).size:Int)=n:=by rw [C7,htl]
  refine IH (a+n,out++[⟨B9 t,t,a⟩]) ⟨by simp only;omega,by simp;omega,g,by simp only;omega,by rw [hstep,h4',h5'];rfl⟩ (by simp only;omega) _ _ ⟨?_,rfl,rfl,rfl,trivial⟩ ?_ rfl rfl
  ·exact A5 (by rw [hst];exact hwr)
  ·simp [St.drop,Cj]
 ·have hae:a=s.length:=by have:=of_decide_eq_false h;rw [C7] at this;omega
  refine AK.rz Tryz.func267 ?_
  obtain ⟨g,rfl⟩:∃ g,f=g+1:=⟨f-1,by omega⟩
  rw [hTa,hae,List.drop_length]
  simp only [Bn,Nat.add_zero,List.drop_length]
  rfl
end Go.V
