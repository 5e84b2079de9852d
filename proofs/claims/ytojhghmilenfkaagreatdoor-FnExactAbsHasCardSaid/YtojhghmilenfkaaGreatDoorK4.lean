/- A part of the proof of the claim that the last text states: no condition of its own. -/
import Derived.Test.YtojhghmilenfkaaGreatDoorK3
import Derived.Ground.NamesProg
import Derived.Lib.AtoiTie
import Derived.Lib.Bytealg
import Derived.Lib.ConvBytes
import Derived.Shelf.Strconv.AtoiAll
import Derived.Shelf.Strconv.Itoa3
import Derived.Test.YtojhghmilenfkaaGreatDoorChecked
import Derived.WideLaws
set_option linter.unusedVariables false
set_option linter.unusedSimpArgs false
namespace Go.V
open Go Go.Proofs
def Oz (n:Nd):Bool:=decide (Ai n≤500)&&decide (B5 n≤24)&&Bo n
theorem Auz (n:Nd)(hn:wN n≤1000000000):Pure X 216 [nd n] (vb (Oz n)):=by
 have hc:=Lf n
 have hz:∀ a b:Nat,((a:Int)≤(b:Int))↔a≤b:=fun a b=>by omega
 refine Pure.run Tryz.func216 ?_
 refine AK.pc (Ahm n (by omega)) ?_
 refine AK.gd (fun h1=>?_) (fun h1=>?_)
 ·have h1':Ai n≤500:=by have:=of_decide_eq_true h1;omega
  refine AK.pc (Ahn n (by omega)) ?_
  refine AK.gd (fun h2=>?_) (fun h2=>?_)
  ·have h2':B5 n≤24:=by have:=of_decide_eq_true h2;omega
   refine AK.pc (Am1 n hn) ?_
   refine AK.rt Tryz.func216 ?_
   simp [Oz,h1',h2',B1]
  ·have h2':¬ B5 n≤24:=by have:=of_decide_eq_false h2;omega
   refine AK.rt Tryz.func216 ?_
   simp [Oz,h2',B1]
 ·have h1':¬ Ai n≤500:=by have:=of_decide_eq_false h1;omega
  refine AK.gn ?_
  refine AK.rt Tryz.func216 ?_
  simp [Oz,h1',B1]
inductive FE:Nd→Prop
 | num (m:Int) (h0:0≤m) (h1:m≤1000000):FE (.mk 1 [] m [])
 | var (s:List UInt8) (h:nameS s=true):FE (.mk 2 s 0 [])
 | cell (s:List UInt8) (a:Nd) (h:nameS s=true) (ha:FE a):FE (.mk 3 s 0 [a])
 | len (s:List UInt8) (h:nameS s=true):FE (.mk 4 s 0 [])
 | neg (a:Nd) (ha:FE a):FE (.mk 5 [] 0 [a])
 | two (k:Int) (a b:Nd) (hk:k=6∨k=7∨k=8) (ha:FE a) (hb:FE b):FE (.mk k [] 0 [a,b])
inductive FC:Nd→Prop
 | mk (k:Int) (a b:Nd) (h0:11≤k) (h1:k≤16) (ha:FE a) (hb:FE b):FC (.mk k [] 0 [a,b])
inductive FS:Nd→Prop
 | set (s:List UInt8) (a:Nd) (h:nameS s=true) (ha:FE a):FS (.mk 21 s 0 [a])
 | put (s:List UInt8) (a b:Nd) (h:nameS s=true) (ha:FE a) (hb:FE b):FS (.mk 22 s 0 [a,b])
 | read (s:List UInt8) (h:nameS s=true):FS (.mk 23 s 0 [])
 | ifs (c:Nd) (l l':List Nd) (hc:FC c) (hl:∀ x,x∈l→FS x) (hl':∀ x,x∈l'→FS x):FS (.mk 24 [] 0 [c,.mk 30 [] 0 l,.mk 30 [] 0 l'])
 | whil (c:Nd) (l:List Nd) (hc:FC c) (hl:∀ x,x∈l→FS x):FS (.mk 25 [] 0 [c,.mk 30 [] 0 l])
 | for_ (s:List UInt8) (a b:Nd) (l:List Nd) (h:nameS s=true) (ha:FE a) (hb:FE b) (hl:∀ x,x∈l→FS x):FS (.mk 26 s 0 [a,b,.mk 30 [] 0 l])
 | check (c:Nd) (hc:FC c):FS (.mk 27 [] 0 [c])
 | skip:FS (.mk 28 [] 0 [])
 | stop:FS (.mk 29 [] 0 [])
inductive FV:Nd→Prop
 | var (s:List UInt8) (h:nameS s=true):FV (.mk 31 s 0 [])
 | arr (s:List UInt8) (m:Int) (h:nameS s=true) (h0:-1≤m) (h1:m≤1000000):FV (.mk 32 s m [])
inductive FP:Nd→Prop
 | mk (ds l:List Nd) (hd:∀ x,x∈ds→FV x) (hl:∀ x,x∈l→FS x):FP (.mk 40 [] 0 (ds++[.mk 30 [] 0 l]))
theorem Kx {s:List UInt8}(h:nameS s=true):s≠[]:=by rintro rfl;simp [nameS] at h
theorem Adb {l:List Nd}(h:(l.length:Int)=0):l=[]:=by
 cases l with
 | nil=>rfl
 | cons x l=>simp at h;omega
theorem Ap7 {l:List Nd}(h:(l.length:Int)=1):∃ a,l=[a]:=by
 match l with
 | []=>simp at h
 | [a]=>exact ⟨a,rfl⟩
 | _::_::_=>simp at h;omega
theorem Ai7 {l:List Nd}(h:(l.length:Int)=2):∃ a b,l=[a,b]:=by
 match l with
 | []=>simp at h
 | [_]=>simp at h
 | [a,b]=>exact ⟨a,b,rfl⟩
 | _::_::_::_=>simp at h;omega
theorem Aw5 {l:List Nd}(h:(l.length:Int)=3):∃ a b c,l=[a,b,c]:=by
 match l with
 | []=>simp at h
 | [_]=>simp at h
 | [_,_]=>simp at h
 | [a,b,c]=>exact ⟨a,b,c,rfl⟩
 | _::_::_::_::_=>simp at h;omega
structure HeadF (k:Int)(s:List UInt8)(m:Int)(ks:List Nd)(len:Int)(nm:Bool):Prop where
 hl:0≤len→(ks.length:Int)=len
 hs:nm=!(s==[])
 hn:nm=true→nameS s=true
 hk:k=40→ks≠[]
 hm:De k m=true
theorem Zf {k:Int}{s:List UInt8}{m:Int}{ks:List Nd}(h:Fb k s m ks.length=true):(A4 k).2.2=true∧HeadF k s m ks (A4 k).1 (A4 k).2.1:=by
 simp only [Fb,Bool.and_eq_true,Bool.or_eq_true,decide_eq_true_eq,beq_iff_eq,Bool.not_eq_true'] at h
 obtain ⟨⟨⟨⟨⟨h1,h2⟩,h3⟩,h4⟩,h5⟩,h6⟩:=h
 refine ⟨h1,⟨fun h0=>?_,h3,fun hn=>?_,fun h40 hnil=>?_,h6⟩⟩
 ·rcases h2 with h2 | h2
  ·omega
  ·exact h2
 ·rcases h4 with h4 | h4
  ·rw [hn] at h4;cases h4
  ·exact h4
 ·subst h40;subst hnil;simp at h5
theorem HeadF.no {k:Int}{s:List UInt8}{m:Int}{ks:List Nd}{len:Int}(h:HeadF k s m ks len false):s=[]:=by
 have:=h.hs;simpa using this
theorem HeadF.num0 {k:Int}{s:List UInt8}{m:Int}{ks:List Nd}{len:Int}{b:Bool}(h:HeadF k s m ks len b)(h1:k≠1)(h2:k≠32):m=0:=by
 have:=h.hm;simpa [De,h1,h2] using this
theorem Ij {p:Nd}:∀ {l:List Nd}{i:Nat},C1 p i l=true→∀ (j:Nat)(x:Nd),l[j]?=some x→Ib p ((i+j:Nat):Int) x.kind=true∧Bo x=true
 | [],i,_,j,x,h=>by simp at h
 | y::l,i,hf,j,x,h=>by
   simp only [C1,Bool.and_eq_true] at hf
   cases j with
   | zero=>simp at h;subst h;exact ⟨hf.1,hf.2.1⟩
   | succ j =>
     have:=Ij hf.2.2 j x (by simpa using h)
     rw [show i+(j+1)=i+1+j by omega];exact this
theorem Av {n lo hi:Int}:Aj n lo hi=true↔lo≤n∧n≤hi:=by simp [Aj]
@[simp] theorem J0 (k:Int)(s:List UInt8)(m:Int)(ks:List Nd):(Nd.mk k s m ks).kind=k:=rfl
@[simp] theorem Qv (k:Int)(s:List UInt8)(m:Int)(ks:List Nd):(Nd.mk k s m ks).name=s:=rfl
@[simp] theorem Uu (k:Int)(s:List UInt8)(m:Int)(ks:List Nd):(Nd.mk k s m ks).num=m:=rfl
@[simp] theorem Ec (k:Int)(s:List UInt8)(m:Int)(ks:List Nd):(Nd.mk k s m ks).kids=ks:=rfl
theorem Amf {n:Nd}{i k:Int}(h:n.kind<24):Ib n i k=H3 k:=by
 unfold Ib
 rw [if_neg (show ¬ (n.kind=24∨n.kind=25∨n.kind=27) by omega),if_neg (show ¬ (n.kind=26∧i=2) by omega),if_neg (show ¬ n.kind=30 by omega),if_neg (show ¬ n.kind=40 by omega)]
theorem Abm {n:Nd}{i k:Int}(h:n.kind=40):Ib n i k=if i=n.kids.length-1 then k==30 else k==31||k==32:=by
 unfold Ib
 rw [if_neg (show ¬ (n.kind=24∨n.kind=25∨n.kind=27) by omega),if_neg (show ¬ (n.kind=26∧i=2) by omega),if_neg (show ¬ n.kind=30 by omega),if_pos h]
theorem Yv (n:Nd)(hf:Bo n=true)(hk:H3 n.kind=true):FE n:=by
 induction n using Nd.ind with
 | h n ih =>
 obtain ⟨k,s,m,ks⟩:=n
 simp only [J0,H3,Av] at hk
 rw [Ia,Bool.and_eq_true] at hf
 simp only [J0,Qv,Uu,Ec] at hf ih
 obtain ⟨h1,h2⟩:=hf
 have hall:=Ij h2
 have kidE:∀ (j:Nat) (x:Nd),ks[j]?=some x→FE x:=fun j x hx=>by
  obtain ⟨h3,h4⟩:=hall j x hx
  refine ih x (List.mem_of_getElem? hx) h4 ?_
  rwa [Amf (by simp;omega)] at h3
 obtain ⟨_,hH⟩:=Zf h1
 have:k=1∨k=2∨k=3∨k=4∨k=5∨k=6∨k=7∨k=8:=by omega
 rcases this with rfl | rfl | rfl | rfl | rfl | rfl | rfl | rfl
 ·rw [show A4 1=(0,false,true) by simp [A4]] at hH
  obtain rfl:=Adb (hH.hl (by simp))
  obtain rfl:=hH.no
  have:=hH.hm
  simp only [De,if_true,Av] at this
  exact .num m this.1 this.2
 ·rw [show A4 2=(0,true,true) by simp [A4]] at hH
  obtain rfl:=Adb (hH.hl (by simp))
  obtain rfl:=hH.num0 (by simp) (by simp)
  exact .var s (hH.hn rfl)
 ·rw [show A4 3=(1,true,true) by simp [A4]] at hH
  obtain ⟨a,rfl⟩:=Ap7 (hH.hl (by simp))
  obtain rfl:=hH.num0 (by simp) (by simp)
  exact .cell s a (hH.hn rfl) (kidE 0 a rfl)
 ·rw [show A4 4=(0,true,true) by simp [A4]] at hH
  obtain rfl:=Adb (hH.hl (by simp))
  obtain rfl:=hH.num0 (by simp) (by simp)
  exact .len s (hH.hn rfl)
 ·rw [show A4 5=(1,false,true) by simp [A4]] at hH
  obtain ⟨a,rfl⟩:=Ap7 (hH.hl (by simp))
  obtain rfl:=hH.num0 (by simp) (by simp)
  obtain rfl:=hH.no
  exact .neg a (kidE 0 a rfl)
 ·rw [show A4 6=(2,false,true) by simp [A4]] at hH
  obtain ⟨a,b,rfl⟩:=Ai7 (hH.hl (by simp))
  obtain rfl:=hH.num0 (by simp) (by simp)
  obtain rfl:=hH.no
  exact .two 6 a b (by simp) (kidE 0 a rfl) (kidE 1 b rfl)
 ·rw [show A4 7=(2,false,true) by simp [A4]] at hH
  obtain ⟨a,b,rfl⟩:=Ai7 (hH.hl (by simp))
  obtain rfl:=hH.num0 (by simp) (by simp)
  obtain rfl:=hH.no
  exact .two 7 a b (by simp) (kidE 0 a rfl) (kidE 1 b rfl)
 ·rw [show A4 8=(2,false,true) by simp [A4]] at hH
  obtain ⟨a,b,rfl⟩:=Ai7 (hH.hl (by simp))
  obtain rfl:=hH.num0 (by simp) (by simp)
  obtain rfl:=hH.no
  exact .two 8 a b (by simp) (kidE 0 a rfl) (kidE 1 b rfl)
theorem Akm (n:Nd)(hf:Bo n=true)(hk:Od n.kind=true):FC n:=by
 obtain ⟨k,s,m,ks⟩:=n
 simp only [J0,Od,Av] at hk
 rw [Ia,Bool.and_eq_true] at hf
 simp only [J0,Qv,Uu,Ec] at hf
 obtain ⟨h1,h2⟩:=hf
 have hall:=Ij h2
 have kidE:∀ (j:Nat) (x:Nd),ks[j]?=some x→FE x:=fun j x hx=>by
  obtain ⟨h3,h4⟩:=hall j x hx
  refine Yv x h4 ?_
  rwa [Amf (by simp;omega)] at h3
 obtain ⟨_,hH⟩:=Zf h1
 rw [show A4 k=(2,false,true) by simp only [A4];rw [if_neg (by omega),if_neg (by omega),if_neg (by omega),if_neg (by omega),if_pos (by omega)]] at hH
 obtain ⟨a,b,rfl⟩:=Ai7 (hH.hl (by simp))
 obtain rfl:=hH.num0 (by omega) (by omega)
 obtain rfl:=hH.no
 exact .mk k a b hk.1 hk.2 (kidE 0 a rfl) (kidE 1 b rfl)
theorem Awq (n:Nd):Bo n=true→(Tc n.kind=true→FS n)∧(n.kind=30→∃ l,n=.mk 30 [] 0 l∧∀ x,x∈l→FS x):=by
 induction n using Nd.ind with
 | h n ih =>
 intro hf
 obtain ⟨k,s,m,ks⟩:=n
 rw [Ia,Bool.and_eq_true] at hf
 simp only [J0,Qv,Uu,Ec] at hf ih ⊢
 obtain ⟨h1,h2⟩:=hf
 have hall:=Ij h2
 obtain ⟨_,hH⟩:=Zf h1
 have kid:∀ (j:Nat) (x:Nd),ks[j]?=some x→Ib (.mk k s m ks) j x.kind=true:=fun j x hx=>by have:=(hall j x hx).1;rwa [Nat.zero_add] at this
 have fm:∀ (j:Nat) (x:Nd),ks[j]?=some x→Bo x=true:=fun j x hx=>(hall j x hx).2
 have ihs:∀ (j:Nat) (x:Nd),ks[j]?=some x→x.kind=30→∃ l,x=.mk 30 [] 0 l∧∀ x,x∈l→FS x:=fun j x hx=>(ih x (List.mem_of_getElem? hx) (fm j x hx)).2
 refine ⟨fun hk=>?_,fun hk=>?_⟩
 ·simp only [Tc,Av] at hk
  have:k=21∨k=22∨k=23∨k=24∨k=25∨k=26∨k=27∨k=28∨k=29:=by omega
  rcases this with rfl | rfl | rfl | rfl | rfl | rfl | rfl | rfl | rfl
  ·rw [show A4 21=(1,true,true) by simp [A4]] at hH
   obtain ⟨a,rfl⟩:=Ap7 (hH.hl (by simp))
   obtain rfl:=hH.num0 (by simp) (by simp)
   have k0:=kid 0 a rfl
   simp [Ib] at k0
   exact .set s a (hH.hn rfl) (Yv a (fm 0 a rfl) k0)
  ·rw [show A4 22=(2,true,true) by simp [A4]] at hH
   obtain ⟨a,b,rfl⟩:=Ai7 (hH.hl (by simp))
   obtain rfl:=hH.num0 (by simp) (by simp)
   have k0:=kid 0 a rfl
   have k1:=kid 1 b rfl
   simp [Ib] at k0 k1
   exact .put s a b (hH.hn rfl) (Yv a (fm 0 a rfl) k0) (Yv b (fm 1 b rfl) k1)
  ·rw [show A4 23=(0,true,true) by simp [A4]] at hH
   obtain rfl:=Adb (hH.hl (by simp))
   obtain rfl:=hH.num0 (by simp) (by simp)
   exact .read s (hH.hn rfl)
  ·rw [show A4 24=(3,false,true) by simp [A4]] at hH
   obtain ⟨c,a,b,rfl⟩:=Aw5 (hH.hl (by simp))
   obtain rfl:=hH.num0 (by simp) (by simp)
   obtain rfl:=hH.no
   have k0:=kid 0 c rfl
   have k1:=kid 1 a rfl
   have k2:=kid 2 b rfl
   simp [Ib] at k0 k1 k2
   obtain ⟨l,rfl,hl⟩:=ihs 1 a rfl k1
   obtain ⟨l',rfl,hl'⟩:=ihs 2 b rfl k2
   exact .ifs c l l' (Akm c (fm 0 c rfl) k0) hl hl'
  ·rw [show A4 25=(2,false,true) by simp [A4]] at hH
   obtain ⟨c,a,rfl⟩:=Ai7 (hH.hl (by simp))
   obtain rfl:=hH.num0 (by simp) (by simp)
   obtain rfl:=hH.no
   have k0:=kid 0 c rfl
   have k1:=kid 1 a rfl
   simp [Ib] at k0 k1
   obtain ⟨l,rfl,hl⟩:=ihs 1 a rfl k1
   exact .whil c l (Akm c (fm 0 c rfl) k0) hl
  ·rw [show A4 26=(3,true,true) by simp [A4]] at hH
   obtain ⟨a,b,d,rfl⟩:=Aw5 (hH.hl (by simp))
   obtain rfl:=hH.num0 (by simp) (by simp)
   have k0:=kid 0 a rfl
   have k1:=kid 1 b rfl
   have k2:=kid 2 d rfl
   simp [Ib] at k0 k1 k2
   obtain ⟨l,rfl,hl⟩:=ihs 2 d rfl k2
   exact .for_ s a b l (hH.hn rfl) (Yv a (fm 0 a rfl) k0) (Yv b (fm 1 b rfl) k1) hl
  ·rw [show A4 27=(1,false,true) by simp [A4]] at hH
   obtain ⟨c,rfl⟩:=Ap7 (hH.hl (by simp))
   obtain rfl:=hH.num0 (by simp) (by simp)
   obtain rfl:=hH.no
   have k0:=kid 0 c rfl
   simp [Ib] at k0
   exact .check c (Akm c (fm 0 c rfl) k0)
  ·rw [show A4 28=(0,false,true) by simp [A4]] at hH
   obtain rfl:=Adb (hH.hl (by simp))
   obtain rfl:=hH.num0 (by simp) (by simp)
   obtain rfl:=hH.no
   exact .skip
  ·rw [show A4 29=(0,false,true) by simp [A4]] at hH
   obtain rfl:=Adb (hH.hl (by simp))
   obtain rfl:=hH.num0 (by simp) (by simp)
   obtain rfl:=hH.no
   exact .stop
 ·subst hk
  rw [show A4 30=(-1,false,true) by simp [A4]] at hH
  obtain rfl:=hH.num0 (by simp) (by simp)
  obtain rfl:=hH.no
  refine ⟨ks,rfl,fun x hx=>?_⟩
  obtain ⟨j,hj⟩:=Bj hx
  have k0:=kid j x hj
  simp [Ib] at k0
  exact (ih x hx (fm j x hj)).1 k0
theorem Awr (n:Nd)(hf:Bo n=true)(hk:n.kind=31∨n.kind=32):FV n:=by
 obtain ⟨k,s,m,ks⟩:=n
 rw [Ia,Bool.and_eq_true] at hf
 simp only [J0,Qv,Uu,Ec] at hf hk
 obtain ⟨h1,h2⟩:=hf
 obtain ⟨_,hH⟩:=Zf h1
 rcases hk with rfl | rfl
 ·rw [show A4 31=(0,true,true) by simp [A4]] at hH
  obtain rfl:=Adb (hH.hl (by simp))
  obtain rfl:=hH.num0 (by simp) (by simp)
  exact .var s (hH.hn rfl)
 ·rw [show A4 32=(0,true,true) by simp [A4]] at hH
  obtain rfl:=Adb (hH.hl (by simp))
  have:=hH.hm
  simp [De,Av] at this
  exact .arr s m (hH.hn rfl) this.1 this.2
theorem Asn (n:Nd)(hf:Bo n=true)(hk:n.kind=40):FP n:=by
 obtain ⟨k,s,m,ks⟩:=n
 rw [Ia,Bool.and_eq_true] at hf
 simp only [J0,Qv,Uu,Ec] at hf hk
 subst hk
 obtain ⟨h1,h2⟩:=hf
 have hall:=Ij h2
 obtain ⟨_,hH⟩:=Zf h1
 rw [show A4 40=(-1,false,true) by simp [A4]] at hH
 obtain rfl:=hH.num0 (by simp) (by simp)
 obtain rfl:=hH.no
 have hne:=hH.hk rfl
 have kid:∀ (j:Nat) (x:Nd),ks[j]?=some x→Ib (.mk 40 [] 0 ks) j x.kind=true:=fun j x hx=>by have:=(hall j x hx).1;rwa [Nat.zero_add] at this
 have fm:∀ (j:Nat) (x:Nd),ks[j]?=some x→Bo x=true:=fun j x hx=>(hall j x hx).2
 have hpos:0<ks.length:=List.length_pos_iff.2 hne
 obtain ⟨b,hb⟩:=Aa ks (i:=ks.length-1) (by omega)
 have hsplit:ks=ks.take (ks.length-1)++[b]:=by
  conv=>lhs;rw [← List.take_append_drop (ks.length-1) ks]
  congr 1
  rw [List.drop_eq_getElem_cons (by omega),List.drop_eq_nil_of_le (by omega)]
  have:=List.getElem?_eq_getElem (l:=ks) (i:=ks.length-1) (by omega)
  rw [hb] at this
  rw [← Option.some.inj this]
 have kb:=kid _ b hb
 rw [Abm rfl,if_pos (by rw [Ec];omega)] at kb
 obtain ⟨l,rfl,hl⟩:=(Awq b (fm _ b hb)).2 (by simpa using kb)
 rw [hsplit]
 refine .mk _ l (fun x hx=>?_) hl
 obtain ⟨j,hj⟩:=Bj hx
 have hjl:=Ad hj
 rw [List.length_take] at hjl
 have hj':ks[j]?=some x:=by rw [List.getElem?_take,if_pos (by omega)] at hj;exact hj
 have kx:=kid j x hj'
 rw [Abm rfl,if_neg (by rw [Ec];omega)] at kx
 exact Awr x (fm j x hj') (by simpa using kx)
def I8 (k:Int):Int:=if k=6∨k=7 then 1 else if k=8 then 2 else 3
def Jb (l:Int)(k:Int)(t:List UInt8):List UInt8:=if I8 k<l then [40]++t++[41] else t
def P6 (k:Int):List UInt8:=if k=11 then [60] else if k=12 then [60,61] else if k=13 then [62] else if k=14 then [62,61] else if k=15 then [61,61] else [33,61]
def Ba:Nd→List UInt8
 | .mk k s m []=>if k=1 then Ja m.toNat else if k=4 then [108,101,110,40]++s++[41] else s
 | .mk k s _ [a]=>if k=3 then s++[91]++Ba a++[93] else [45]++Jb 3 a.kind (Ba a)
 | .mk k _ _ (a::b::_) =>
   if k=6 then Jb 1 a.kind (Ba a)++[32,43,32]++Jb 2 b.kind (Ba b)
   else if k=7 then Jb 1 a.kind (Ba a)++[32,45,32]++Jb 2 b.kind (Ba b)
   else if k=8 then Jb 2 a.kind (Ba a)++[32,42,32]++Jb 3 b.kind (Ba b)
   else Ba a++[32]++P6 k++[32]++Ba b
theorem H0 (l k:Int)(t:List UInt8):(Jb l k t).length≤t.length+2:=by
 unfold Jb;split<;>simp
theorem X2 (k:Int):(P6 k).length≤2:=by
 unfold P6;repeat' split
 all_goals simp
theorem Atz (d n:Nat)(h:n<10 ^ (d+1)):(Ja n).length≤d+1:=by
 induction d generalizing n with
 | zero=>unfold Ja;rw [if_pos (by simpa using h)];simp
 | succ d ih =>
   unfold Ja
   split
   ·simp
   ·have:=ih (n / 10) (by rw [Nat.pow_succ] at h;omega)
    simp;omega
theorem Qn (n:Nat)(h:n≤1000000):(Ja n).length≤7:=Atz 6 n (by omega)
theorem Dk (n:Nd)(h:FE n):(Ba n).length≤12*wN n:=by
 induction h with
 | num m h0 h1 =>
   have:=Qn m.toNat (by omega)
   simp only [Ba,wN,if_true]
   omega
 | var s h=>simp [Ba,wN];omega
 | cell s a h ha ih=>simp [Ba,wN,wL];omega
 | len s h=>simp [Ba,wN];omega
 | neg a ha ih=>have:=H0 3 a.kind (Ba a);simp [Ba,wN,wL];omega
 | two k a b hk ha hb iha ihb =>
   have h1:=H0 1 a.kind (Ba a)
   have h2:=H0 2 a.kind (Ba a)
   have h3:=H0 2 b.kind (Ba b)
   have h4:=H0 3 b.kind (Ba b)
   rcases hk with rfl | rfl | rfl
   ·simp [Ba,wN,wL];omega
   ·simp [Ba,wN,wL];omega
   ·simp [Ba,wN,wL];omega
theorem La (n:Nd)(h:FC n):(Ba n).length≤12*wN n:=by
 cases h with
 | mk k a b h0 h1 ha hb =>
   have:=Dk a ha
   have:=Dk b hb
   have:=X2 k
   simp only [Ba]
   rw [if_neg (by omega),if_neg (by omega),if_neg (by omega)]
   simp [wN,wL];omega
theorem Rh (a:Nd)(l:List Nd):(Ak (a::l))[(0:Int).toNat]?=some (Af a):=by cases a;rfl
theorem Yq (a b:Nd)(l:List Nd):(Ak (a::b::l))[(1:Int).toNat]?=some (Af b):=by cases b;rfl
theorem Aro (a b c:Nd)(l:List Nd):(Ak (a::b::c::l))[(2:Int).toNat]?=some (Af c):=by cases c;rfl
theorem Aqt (k:Int):Pure X 310 [vi k] (vi (I8 k)):=by
 refine Pure.run Tryz.func310 ?_
 repeat' (refine AK.if_ (fun _=>?_) (fun _=>?_))
 all_goals refine AK.rt Tryz.func310 ?_
 all_goals (simp_all [I8,B1])
theorem Om (n:Nd)(l:Int)(t:List UInt8)(ht:t.length≤100000000000)(h:Pure X 261 [nd n] (str t)):Pure X 281 [nd n,vi l] (str (Jb l n.kind t)):=by
 refine Pure.run Tryz.func281 ?_
 refine AK.pc (Aqt n.kind) ?_
 refine AK.if_ (fun h1=>?_) (fun h1=>?_)
 ·have h1':=of_decide_eq_true h1
  refine AK.pc h ?_
  refine AK.ct ?_ ?_
  ·simp;omega
  refine AK.ct ?_ ?_
  ·simp;omega
  refine AK.rt Tryz.func281 ?_
  simp [Jb,h1',B1]
 ·have h1':=of_decide_eq_false h1
  refine AK.pc h ?_
  refine AK.rt Tryz.func281 ?_
  simp [Jb,h1',B1]
theorem Oo (n:Nd)(h:FE n)(hn:wN n≤1000000000):Pure X 261 [nd n] (str (Ba n)):=by
 induction h with
 | num m h0 h1 =>
   obtain ⟨q,rfl⟩:∃ q:Nat,m=q:=⟨m.toNat,by omega⟩
   refine Pure.run Tryz.func261 ?_
   refine AK.yes ?_
   refine AK.pc (Adk q (by omega)) ?_
   refine AK.rt Tryz.func261 ?_
   simp [Ba,B1]
 | var s h =>
   refine Pure.run Tryz.func261 ?_
   refine AK.no ?_
   refine AK.yes ?_
   refine AK.rt Tryz.func261 ?_
   simp [Ba,B1]
 | cell s a h ha ih =>
   have hl:=Dk a ha
   simp [wN,wL] at hn
   refine Pure.run Tryz.func261 ?_
   refine AK.no ?_
   refine AK.no ?_
   refine AK.yes ?_
   refine AK.db 0 ?_
   refine Drv.cg ?_ ?_
   ·simp;omega
   refine Drv.ig 0 (by omega) (Rh a _) ?_
   refine Ax (ih (by omega)) ?_
   refine Drv.cg ?_ ?_
   ·simp;omega
   refine Drv.cg ?_ ?_
   ·simp;omega
   refine Drv.z ?_
   refine AK.rt Tryz.func261 ?_
   simp [Ba,B1]
 | len s h =>
   simp [wN,wL] at hn
   refine Pure.run Tryz.func261 ?_
   refine AK.no ?_
   refine AK.no ?_
   refine AK.no ?_
   refine AK.yes ?_
   refine AK.ct ?_ ?_
   ·simp;omega
   refine AK.ct ?_ ?_
   ·simp;omega
   refine AK.rt Tryz.func261 ?_
   simp [Ba,B1]
 | neg a ha ih =>
   have hl:=Dk a ha
   have hp:=H0 3 a.kind (Ba a)
   simp [wN,wL] at hn
   refine Pure.run Tryz.func261 ?_
   refine AK.no ?_
   refine AK.no ?_
   refine AK.no ?_
   refine AK.no ?_
   refine AK.yes ?_
   refine AK.ix 0 (by omega) (Rh a _) ?_
   refine AK.pc (Om a 3 (Ba a) (by omega) (ih (by omega))) ?_
   refine AK.ct ?_ ?_
   ·simp;omega
   refine AK.rt Tryz.func261 ?_
   simp [Ba,B1]
 | two k a b hk ha hb iha ihb =>
   have hla:=Dk a ha
   have hlb:=Dk b hb
   have h1:=H0 1 a.kind (Ba a)
   have h2:=H0 2 a.kind (Ba a)
   have h3:=H0 2 b.kind (Ba b)
   have h4:=H0 3 b.kind (Ba b)
   simp [wN,wL] at hn
   refine Pure.run Tryz.func261 ?_
   rcases hk with rfl | rfl | rfl
   ·refine AK.no ?_
    refine AK.no ?_
    refine AK.no ?_
    refine AK.no ?_
    refine AK.no ?_
    refine AK.yes ?_
    refine AK.db 0 ?_
    refine Drv.ig 0 (by omega) (Rh a _) ?_
    refine Ax (Om a 1 (Ba a) (by omega) (iha (by omega))) ?_
    refine Drv.cg ?_ ?_
    ·simp;omega
    refine Drv.ig 1 (by omega) (Yq a b _) ?_
    refine Ax (Om b 2 (Ba b) (by omega) (ihb (by omega))) ?_
    refine Drv.cg ?_ ?_
    ·simp;omega
    refine Drv.z ?_
    refine AK.rt Tryz.func261 ?_
    simp [Ba,B1]
   ·refine AK.no ?_
    refine AK.no ?_
    refine AK.no ?_
    refine AK.no ?_
    refine AK.no ?_
    refine AK.no ?_
    refine AK.yes ?_
    refine AK.db 0 ?_
    refine Drv.ig 0 (by omega) (Rh a _) ?_
    refine Ax (Om a 1 (Ba a) (by omega) (iha (by omega))) ?_
    refine Drv.cg ?_ ?_
    ·simp;omega
    refine Drv.ig 1 (by omega) (Yq a b _) ?_
    refine Ax (Om b 2 (Ba b) (by omega) (ihb (by omega))) ?_
    refine Drv.cg ?_ ?_
    ·simp;omega
    refine Drv.z ?_
    refine AK.rt Tryz.func261 ?_
    simp [Ba,B1]
   ·refine AK.no ?_
    refine AK.no ?_
    refine AK.no ?_
    refine AK.no ?_
    refine AK.no ?_
    refine AK.no ?_
    refine AK.no ?_
    refine AK.yes ?_
    refine AK.db 0 ?_
    refine Drv.ig 0 (by omega) (Rh a _) ?_
    refine Ax (Om a 2 (Ba a) (by omega) (iha (by omega))) ?_
    refine Drv.cg ?_ ?_
    ·simp;omega
    refine Drv.ig 1 (by omega) (Yq a b _) ?_
    refine Ax (Om b 3 (Ba b) (by omega) (ihb (by omega))) ?_
    refine Drv.cg ?_ ?_
    ·simp;omega
    refine Drv.z ?_
    refine AK.rt Tryz.func261 ?_
    simp [Ba,B1]
theorem Abs (n:Nd)(h:FC n)(hn:wN n≤1000000000):Pure X 261 [nd n] (str (Ba n)):=by
 cases h with
 | mk k a b h0 h1 ha hb =>
   have hla:=Dk a ha
   have hlb:=Dk b hb
   have hr:=X2 k
   simp [wN,wL] at hn
   refine Pure.run Tryz.func261 ?_
   have ne:∀ j:Int,j<11→(k==j)=false:=fun j hj=>by simp;omega
   refine AK.no ?_ (ht:=ne 1 (by omega))
   refine AK.no ?_ (ht:=ne 2 (by omega))
   refine AK.no ?_ (ht:=ne 3 (by omega))
   refine AK.no ?_ (ht:=ne 4 (by omega))
   refine AK.no ?_ (ht:=ne 5 (by omega))
   refine AK.no ?_ (ht:=ne 6 (by omega))
   refine AK.no ?_ (ht:=ne 7 (by omega))
   refine AK.no ?_ (ht:=ne 8 (by omega))
   have hw:IntKind.i64.wrap (k-11)=k-11:=Ac (by omega) (by omega)
   have hrel:(Ci [[60],[60,61],[62],[62,61],[61,61],[33,61]])[(IntKind.i64.wrap (k-11)).toNat]?=some [str (P6 k)]:=by
    rw [hw]
    have:k=11∨k=12∨k=13∨k=14∨k=15∨k=16:=by omega
    rcases this with rfl | rfl | rfl | rfl | rfl | rfl<;>rfl
   have hT:Ba (.mk k [] 0 [a,b])=Ba a++[32]++P6 k++[32]++Ba b:=by
    simp only [Ba]
    rw [if_neg (by omega),if_neg (by omega),if_neg (by omega)]
   rw [hT]
   refine AK.db 0 ?_
   refine Drv.ig 0 (by omega) (Rh a _) ?_
   refine Ax (Oo a ha (by omega)) ?_
   refine Drv.cg ?_ ?_
   ·simp;omega
   refine Drv.ig (IntKind.i64.wrap (k-11)) (by omega) hrel ?_
   refine Drv.cg ?_ ?_
   ·simp;omega
   refine Drv.cg ?_ ?_
   ·simp;omega
   refine Drv.ig 1 (by omega) (Yq a b _) ?_
   refine Ax (Oo b hb (by omega)) ?_
   refine Drv.cg ?_ ?_
   ·simp;omega
   refine Drv.z ?_
   refine AK.rt Tryz.func261 ?_
   simp [B1]
mutual
def Bp:Nd→List UInt8→List UInt8
 | .mk k s m [],p =>
   if k=31 then p++[118,97,114,32]++s++[59,10]
   else if k=32 then p++[97,114,114,97,121,32]++s++[91]++(if 0≤m then Ja m.toNat else [63])++[93,59,10]
   else if k=23 then p++[114,101,97,100,32]++s++[59,10]
   else if k=28 then p++[115,107,105,112,59,10]
   else p++[115,116,111,112,59,10]
 | .mk k s _ [a],p =>
   if k=21 then p++s++[32,61,32]++Ba a++[59,10]
   else p++[99,104,101,99,107,32]++Ba a++[59,10]
 | .mk k s _ [a,.mk k' s' m' l],p =>
   if k=22 then p++s++[91]++Ba a++[93,32,61,32]++Ba (.mk k' s' m' l)++[59,10]
   else p++[119,104,105,108,101,32]++Ba a++[32,123,10]++Fs l (p++[32,32])++p++[125,10]
 | .mk k s _ (a::.mk k' s' m' l'::.mk _ _ _ l::_),p =>
   if k=26 then p++[102,111,114,32]++s++[32,102,114,111,109,32]++Ba a++[32,116,111,32]++Ba (.mk k' s' m' l')++[32,123,10]++Fs l (p++[32,32])++p++[125,10]
   else p++[105,102,32]++Ba a++[32,123,10]++Fs l' (p++[32,32])++p ++
    (match l with
      | []=>[]
      | _=>[125,32,101,108,115,101,32,123,10]++Fs l (p++[32,32])++p)++[125,10]
def Fs:List Nd→List UInt8→List UInt8
 | [],_=>[]
 | x::l,p=>Bp x p++Fs l p
end
theorem D8 {l:List Nd}{x:Nd}(h:x∈l):B5 x≤D7 l:=by
 induction l with
 | nil=>cases h
 | cons y l ih =>
   simp only [D7]
   rcases List.mem_cons.1 h with rfl | h
   ·omega
   ·have:=ih h;omega
theorem Og (l:List Nd)(p:List UInt8):Fs l p=(l.map fun x=>Bp x p).flatten:=by
 induction l with
 | nil=>simp [Fs]
 | cons x l ih=>simp [Fs,ih]
theorem W7 {l:List Nd}{f:Nd→List UInt8}(h:∀ x,x∈l→(f x).length≤4060*wN x):(l.map f).flatten.length≤4060*wL l:=by
 induction l with
 | nil=>simp
 | cons x l ih =>
   have h1:=h x (by simp)
   have h2:=ih fun y hy=>h y (by simp [hy])
   simp only [List.map_cons,List.flatten_cons,List.length_append,wL];omega
theorem Nb {l:List Nd}{p:List UInt8}(h:∀ x,x∈l→(Bp x p).length≤4060*wN x):(Fs l p).length≤4060*wL l:=by
 rw [Og];exact W7 h
theorem Ai9 (x:Nd)(h:FV x)(p:List UInt8)(hp:p.length≤1000):(Bp x p).length≤4060*wN x:=by
 cases h with
 | var s h=>simp [Bp,wN];omega
 | arr s m h h0 h1 =>
   have:=Qn m.toNat (by omega)
   simp [Bp,wN]
   by_cases h0:0≤m
   ·simp [h0];omega
   ·simp [h0];omega
theorem Zm (x:Nd)(h:FS x):∀ p:List UInt8,p.length+2*B5 x≤1000→(Bp x p).length≤4060*wN x:=by
 induction h with
 | set s a h ha=>intro p hp;have:=Dk a ha;simp [Bp,wN,wL];omega
 | put s a b h ha hb =>
   intro p hp
   have h1:=Dk a ha
   have h2:=Dk b hb
   obtain ⟨k',s',m',l'⟩:=b
   simp only [Bp,wN,wL] at h2 ⊢
   simp;omega
 | read s h=>intro p hp;simp [Bp,wN];omega
 | ifs c l l' hc hl hl' ihl ihl' =>
   intro p hp
   have h1:=La c hc
   simp only [B5,D7] at hp
   have hL:=Nb (l:=l) (p:=p++[32,32]) fun x hx=>ihl x hx _ (by have:=D8 hx;simp;omega)
   have hL':=Nb (l:=l') (p:=p++[32,32]) fun x hx=>ihl' x hx _ (by have:=D8 hx;simp;omega)
   simp only [Bp,wN,wL]
   cases l' with
   | nil=>simp;omega
   | cons y l'=>simp at hL' ⊢;omega
 | whil c l hc hl ihl =>
   intro p hp
   have h1:=La c hc
   simp only [B5,D7] at hp
   have hL:=Nb (l:=l) (p:=p++[32,32]) fun x hx=>ihl x hx _ (by have:=D8 hx;simp;omega)
   simp [Bp,wN,wL];omega
 | for_ s a b l h ha hb hl ihl =>
   intro p hp
   have h1:=Dk a ha
   have h2:=Dk b hb
   simp only [B5,D7] at hp
   have hL:=Nb (l:=l) (p:=p++[32,32]) fun x hx=>ihl x hx _ (by have:=D8 hx;simp;omega)
   obtain ⟨k',s',m',l'⟩:=b
   simp only [Bp,wN,wL] at h2 ⊢
   simp;omega
 | check c hc=>intro p hp;have:=La c hc;simp [Bp,wN,wL];omega
 | skip=>intro p hp;simp [Bp,wN];omega
 | stop=>intro p hp;simp [Bp,wN];omega
theorem Ahq (k:Int)(hk:k=30∨k=40)(ks:List Nd)(f:Nd→List UInt8)(p:List UInt8)(hp:p.length≤1000)(hw:wL ks≤100000)
 (hf:∀ x,x∈ks→Pure X 217 [nd x,str p] (str (f x))∧(f x).length≤4060*wN x):Pure X 217 [nd (.mk k [] 0 ks),str p] (str (ks.map f).flatten):=by
 generalize hT:(ks.map f).flatten=T
 have ne:∀ j:Int,j≠30→j≠40→(k==j)=false:=fun j h1 h2=>by simp;omega
 have hkl:ks.length≤100000:=by
  have h1:=Ei (.mk k [] 0 ks)
  rw [Rr] at h1;simp at h1;omega
 refine Pure.run Tryz.func217 ?_
 refine AK.ct ?_ ?_
 ·simp;omega
 refine AK.no ?_ (ht:=ne 31 (by omega) (by omega))
 refine AK.no ?_ (ht:=ne 32 (by omega) (by omega))
 refine AK.no ?_ (ht:=ne 21 (by omega) (by omega))
 refine AK.no ?_ (ht:=ne 22 (by omega) (by omega))
 refine AK.no ?_ (ht:=ne 23 (by omega) (by omega))
 refine AK.no ?_ (ht:=ne 27 (by omega) (by omega))
 refine AK.no ?_ (ht:=ne 28 (by omega) (by omega))
 refine AK.no ?_ (ht:=ne 29 (by omega) (by omega))
 refine AK.no ?_ (ht:=ne 25 (by omega) (by omega))
 refine AK.no ?_ (ht:=ne 26 (by omega) (by omega))
 refine AK.no ?_ (ht:=ne 24 (by omega) (by omega))
 refine AK.while_ (ι:=Nat) 1 0 (fun i=>i≤ks.length) (fun i=>[(9,vi i),(8,str ((ks.take i).map f).flatten),(2,.ptr 0 0 0),(1,str p)]) (fun _=>⟨[[Af (.mk k [] 0 ks)]],[]⟩) (fun i=>ks.length-i) ?_ 0 (Nat.zero_le _)
  ⟨rfl,rfl,rfl,rfl,trivial⟩
 intro i hi IH
 refine AK.ei (fun h=>?_) (fun h=>?_)
 ·have hlt:i<ks.length:=by have:=of_decide_eq_true h;rw [Ae] at this;simp at this;omega
  obtain ⟨x,hx⟩:=Aa ks hlt
  obtain ⟨h1,h2⟩:=hf x (List.mem_of_getElem? hx)
  have hwx:=Ms (List.mem_of_getElem? hx)
  have h3:=W7 (l:=ks.take i) (f:=f) fun y hy=>(hf y (List.mem_of_mem_take hy)).2
  have h4:wL (ks.take i)≤wL ks:=by
   have:∀ (l:List Nd) (j:Nat),wL (l.take j)≤wL l:=by
    intro l
    induction l with
    | nil=>intro j;simp [wL]
    | cons y l ih=>intro j;cases j with
      | zero=>simp [wL]
      | succ j=>have:=ih j;simp only [List.take_succ_cons,wL];omega
   exact this ks i
  refine AK.ix i (by omega) (Ao hx) ?_
  refine AK.pc h1 ?_
  refine AK.ct ?_ ?_
  ·omega
  refine IH (i+1) hlt (by omega) _ _ ⟨vsx (by omega),?_,rfl,rfl,trivial⟩ rfl rfl rfl
  rw [List.take_add_one,hx];simp
  rfl
 ·have:i=ks.length:=by have:=of_decide_eq_false h;rw [Ae] at this;simp at this;omega
  subst this
  refine AK.rt Tryz.func217 ?_
  rw [List.take_length,hT];rfl
theorem Nc (x:Nd)(l:List Nd)(p:List UInt8)(h:∀ x,x∈l→FS x)(hp:p.length+2*D7 l≤1000):(Fs l p).length≤4060*wL l :=
 Nb fun x hx=>Zm x (h x hx) p (by have:=D8 hx;omega)
theorem Tj (l:List Nd)(p:List UInt8)(hl:∀ x,x∈l→FS x)(hp:p.length+2*D7 l≤1000)(hw:wL l≤100000)
 (ih:∀ x,x∈l→∀ p:List UInt8,p.length+2*B5 x≤1000→wN x≤100000→Pure X 217 [nd x,str p] (str (Bp x p))) :
 Pure X 217 [nd (.mk 30 [] 0 l),str p] (str (Fs l p)):=by
 rw [Og]
 refine Ahq 30 (.inl rfl) l _ p (by omega) hw fun x hx=>⟨ih x hx p (by have:=D8 hx;omega) (by have:=Ms hx;omega),Zm x (hl x hx) p (by have:=D8 hx;omega)⟩
theorem Aql (x:Nd)(h:FV x)(p:List UInt8)(hp:p.length≤1000)(hw:wN x≤100000):Pure X 217 [nd x,str p] (str (Bp x p)):=by
 cases h with
 | var s h =>
   simp [wN,wL] at hw
   refine Pure.run Tryz.func217 ?_
   refine AK.ct ?_ ?_
   ·simp;omega
   refine AK.yes ?_
   refine AK.ct ?_ ?_
   ·simp;omega
   refine AK.ct ?_ ?_
   ·simp;omega
   refine AK.ct ?_ ?_
   ·simp;omega
   refine AK.rt Tryz.func217 ?_
   simp [Bp,B1]
 | arr s m h h0 h1 =>
   simp [wN,wL] at hw
   have hd:=Qn m.toNat (by omega)
   refine Pure.run Tryz.func217 ?_
   refine AK.ct ?_ ?_
   ·simp;omega
   refine AK.no ?_
   refine AK.yes ?_
   refine AK.if_ (fun h2=>?_) (fun h2=>?_)
   ·have h2':0≤m:=of_decide_eq_true h2
    obtain ⟨q,rfl⟩:∃ q:Nat,m=q:=⟨m.toNat,by omega⟩
    refine AK.pc (Adk q (by omega)) ?_
    simp only [Int.toNat_natCast] at hd
    refine AK.ct ?_ ?_
    ·simp;omega
    refine AK.ct ?_ ?_
    ·simp;omega
    refine AK.ct ?_ ?_
    ·simp;omega
    refine AK.ct ?_ ?_
    ·simp;omega
    refine AK.ct ?_ ?_
    ·simp;omega
    refine AK.rt Tryz.func217 ?_
    simp [Bp,B1,h2']
   ·have h2':¬ 0≤m:=of_decide_eq_false h2
    refine AK.ct ?_ ?_
    ·simp;omega
    refine AK.ct ?_ ?_
    ·simp;omega
    refine AK.ct ?_ ?_
    ·simp;omega
    refine AK.ct ?_ ?_
    ·simp;omega
    refine AK.ct ?_ ?_
    ·simp;omega
    refine AK.rt Tryz.func217 ?_
    simp [Bp,B1,h2']
theorem Aqk (x:Nd)(h:FS x):∀ p:List UInt8,p.length+2*B5 x≤1000→wN x≤100000→Pure X 217 [nd x,str p] (str (Bp x p)):=by
 induction h with
 | set s a h ha =>
   intro p hp hw
   refine Pure.run Tryz.func217 ?_
   refine AK.ct ?_ ?_
   ·simp;omega
   refine AK.no ?_
   refine AK.no ?_
   have hl:=Dk a ha
   simp [wN,wL] at hw
   refine AK.yes ?_
   refine AK.db 0 ?_
   refine Drv.cg ?_ ?_
   ·simp;omega
   refine Drv.cg ?_ ?_
   ·simp;omega
   refine Drv.ig 0 (by omega) (Rh a _) ?_
   refine Ax (Oo a ha (by omega)) ?_
   refine Drv.cg ?_ ?_
   ·simp;omega
   refine Drv.cg ?_ ?_
   ·simp;omega
   refine Drv.z ?_
   refine AK.rt Tryz.func217 ?_
   simp [Bp,B1]
 | put s a b h ha hb =>
   intro p hp hw
   refine Pure.run Tryz.func217 ?_
   refine AK.ct ?_ ?_
   ·simp;omega
   refine AK.no ?_
   refine AK.no ?_
   have hl:=Dk a ha
   have hl2:=Dk b hb
   simp [wN,wL] at hw
   have hT:Bp (.mk 22 s 0 [a,b]) p=p++s++[91]++Ba a++[93,32,61,32]++Ba b++[59,10]:=by cases b;simp [Bp]
   rw [hT]
   refine AK.no ?_
   refine AK.yes ?_
   refine AK.db 0 ?_
   refine Drv.cg ?_ ?_
   ·simp;omega
   refine Drv.cg ?_ ?_
   ·simp;omega
   refine Drv.ig 0 (by omega) (Rh a _) ?_
   refine Ax (Oo a ha (by omega)) ?_
   refine Drv.cg ?_ ?_
   ·simp;omega
   refine Drv.cg ?_ ?_
   ·simp;omega
   refine Drv.ig 1 (by omega) (Yq a b _) ?_
   refine Ax (Oo b hb (by omega)) ?_
   refine Drv.cg ?_ ?_
   ·simp;omega
   refine Drv.cg ?_ ?_
   ·simp;omega
   refine Drv.z ?_
   refine AK.rt Tryz.func217 ?_
   simp [B1]
 | read s h =>
   intro p hp hw
   refine Pure.run Tryz.func217 ?_
   refine AK.ct ?_ ?_
   ·simp;omega
   refine AK.no ?_
   refine AK.no ?_
   simp [wN,wL] at hw
   refine AK.no ?_
   refine AK.no ?_
   refine AK.yes ?_
   refine AK.ct ?_ ?_
   ·simp;omega
   refine AK.ct ?_ ?_
   ·simp;omega
   refine AK.ct ?_ ?_
   ·simp;omega
   refine AK.rt Tryz.func217 ?_
   simp [Bp,B1]
 | check c hc =>
   intro p hp hw
   refine Pure.run Tryz.func217 ?_
   refine AK.ct ?_ ?_
   ·simp;omega
   refine AK.no ?_
   refine AK.no ?_
   have hl:=La c hc
   simp [wN,wL] at hw
   refine AK.no ?_
   refine AK.no ?_
   refine AK.no ?_
   refine AK.yes ?_
   refine AK.ct ?_ ?_
   ·simp;omega
   refine AK.ix 0 (by omega) (Rh c _) ?_
   refine AK.pc (Abs c hc (by omega)) ?_
   refine AK.ct ?_ ?_
   ·simp;omega
   refine AK.ct ?_ ?_
   ·simp;omega
   refine AK.rt Tryz.func217 ?_
   simp [Bp,B1]
 | skip =>
   intro p hp hw
   refine Pure.run Tryz.func217 ?_
   refine AK.ct ?_ ?_
   ·simp;omega
   refine AK.no ?_
   refine AK.no ?_
   refine AK.no ?_
   refine AK.no ?_
   refine AK.no ?_
   refine AK.no ?_
   refine AK.yes ?_
   refine AK.ct ?_ ?_
   ·simp;omega
   refine AK.rt Tryz.func217 ?_
   simp [Bp,B1]
 | stop =>
   intro p hp hw
   refine Pure.run Tryz.func217 ?_
   refine AK.ct ?_ ?_
   ·simp;omega
   refine AK.no ?_
   refine AK.no ?_
   refine AK.no ?_
   refine AK.no ?_
   refine AK.no ?_
   refine AK.no ?_
   refine AK.no ?_
   refine AK.yes ?_
   refine AK.ct ?_ ?_
   ·simp;omega
   refine AK.rt Tryz.func217 ?_
   simp [Bp,B1]
 | whil c l hc hl ihl =>
   intro p hp hw
   refine Pure.run Tryz.func217 ?_
   refine AK.ct ?_ ?_
   ·simp;omega
   refine AK.no ?_
   refine AK.no ?_
   have h1:=La c hc
   simp only [B5,D7] at hp
   simp [wN,wL] at hw
   have hlen:=Nc c l (p++[32,32]) hl (by simp;omega)
   have hB:=Tj l (p++[32,32]) hl (by simp;omega) (by omega) ihl
   refine AK.no ?_
   refine AK.no ?_
   refine AK.no ?_
   refine AK.no ?_
   refine AK.no ?_
   refine AK.no ?_
   refine AK.yes ?_
   refine AK.db 0 ?_
   refine Drv.cg ?_ ?_
   ·simp;omega
   refine Drv.ig 0 (by omega) (Rh c _) ?_
   refine Ax (Abs c hc (by omega)) ?_
   refine Drv.cg ?_ ?_
   ·simp;omega
   refine Drv.cg ?_ ?_
   ·simp;omega
   refine Drv.ig 1 (by omega) (Yq c _ _) ?_
   refine Ax hB ?_
   refine Drv.cg ?_ ?_
   ·simp;omega
   refine Drv.cg ?_ ?_
   ·simp;omega
   refine Drv.cg ?_ ?_
   ·simp;omega
   refine Drv.z ?_
   refine AK.rt Tryz.func217 ?_
   simp [Bp,B1]
 | for_ s a b l h ha hb hl ihl =>
   intro p hp hw
   refine Pure.run Tryz.func217 ?_
   refine AK.ct ?_ ?_
   ·simp;omega
   refine AK.no ?_
   refine AK.no ?_
   have h1:=Dk a ha
   have h2:=Dk b hb
   simp only [B5,D7] at hp
   simp [wN,wL] at hw
   have hlen:=Nc a l (p++[32,32]) hl (by simp;omega)
   have hB:=Tj l (p++[32,32]) hl (by simp;omega) (by omega) ihl
   have hT:Bp (.mk 26 s 0 [a,b,.mk 30 [] 0 l]) p=p++[102,111,114,32]++s++[32,102,114,111,109,32]++Ba a++[32,116,111,32]++Ba b++[32,123,10]++Fs l (p++[32,32])++p++[125,10]:=by
    cases b;simp [Bp]
   rw [hT]
   refine AK.no ?_
   refine AK.no ?_
   refine AK.no ?_
   refine AK.no ?_
   refine AK.no ?_
   refine AK.no ?_
   refine AK.no ?_
   refine AK.yes ?_
   refine AK.db 0 ?_
   refine Drv.cg ?_ ?_
   ·simp;omega
   refine Drv.cg ?_ ?_
   ·simp;omega
   refine Drv.cg ?_ ?_
   ·simp;omega
   refine Drv.ig 0 (by omega) (Rh a _) ?_
   refine Ax (Oo a ha (by omega)) ?_
   refine Drv.cg ?_ ?_
   ·simp;omega
   refine Drv.cg ?_ ?_
   ·simp;omega
   refine Drv.ig 1 (by omega) (Yq a b _) ?_
   refine Ax (Oo b hb (by omega)) ?_
   refine Drv.cg ?_ ?_
   ·simp;omega
   refine Drv.cg ?_ ?_
   ·simp;omega
   refine Drv.ig 2 (by omega) (Aro a b _ _) ?_
   refine Ax hB ?_
   refine Drv.cg ?_ ?_
   ·simp;omega
   refine Drv.cg ?_ ?_
   ·simp;omega
   refine Drv.cg ?_ ?_
   ·simp;omega
   refine Drv.z ?_
   refine AK.rt Tryz.func217 ?_
   simp [B1]
 | ifs c l l' hc hl hl' ihl ihl' =>
   intro p hp hw
   refine Pure.run Tryz.func217 ?_
   refine AK.ct ?_ ?_
   ·simp;omega
   refine AK.no ?_
   refine AK.no ?_
   have h1:=La c hc
   simp only [B5,D7] at hp
   simp [wN,wL] at hw
   have hlen:=Nc c l (p++[32,32]) hl (by simp;omega)
   have hB:=Tj l (p++[32,32]) hl (by simp;omega) (by omega) ihl
   have hlen':=Nc c l' (p++[32,32]) hl' (by simp;omega)
   have hB':=Tj l' (p++[32,32]) hl' (by simp;omega) (by omega) ihl'
   refine AK.no ?_
   refine AK.no ?_
   refine AK.no ?_
   refine AK.no ?_
   refine AK.no ?_
   refine AK.no ?_
   refine AK.no ?_
   refine AK.no ?_
   refine AK.yes ?_
   refine AK.db 0 ?_
   refine Drv.cg ?_ ?_
   ·simp;omega
   refine Drv.ig 0 (by omega) (Rh c _) ?_
   refine Ax (Abs c hc (by omega)) ?_
   refine Drv.cg ?_ ?_
   ·simp;omega
   refine Drv.cg ?_ ?_
   ·simp;omega
   refine Drv.ig 1 (by omega) (Yq c _ _) ?_
   refine Ax hB ?_
   refine Drv.cg ?_ ?_
   ·simp;omega
   refine Drv.cg ?_ ?_
   ·simp;omega
   refine Drv.z ?_
   refine AK.ix 2 (by omega) (Aro c _ _ _) ?_
   cases l' with
   | nil =>
     refine AK.no ?_
     refine AK.ct ?_ ?_
     ·simp;omega
     refine AK.rt Tryz.func217 ?_
     simp [Bp,B1]
   | cons y l' =>
     refine AK.yes ?_ (ht:=decide_eq_true (by simp [Ak]))
     refine AK.ct ?_ ?_
     ·simp;omega
     refine AK.ix 2 (by omega) (Aro c _ _ _) ?_
     refine AK.pc hB' ?_
     refine AK.ct ?_ ?_
     ·simp;omega
     refine AK.ct ?_ ?_
     ·simp;omega
     refine AK.ct ?_ ?_
     ·simp;omega
     refine AK.rt Tryz.func217 ?_
     simp [Bp,B1]
def RS.wk (r:RS):Prop:=∀ w:Wd,w∈r.ws→w.kind=B6 w.text
theorem RS.after.wk {r r':RS}(h:r.after r')(hw:r.wk):r'.wk:=by unfold RS.wk;rw [h.1];exact hw
theorem Afh {s:List UInt8}(h:B6 s=1):nameS s=true:=by
 simp only [B6] at h
 split at h
 ·simp at h
 ·split at h
  ·assumption
  ·split at h
   ·simp at h
   ·split at h<;>simp at h
theorem Uj {s:List UInt8}(h:B6 s=2):0≤Cb s:=by
 simp only [B6] at h
 split at h
 ·simp at h
 ·split at h
  ·simp at h
  ·split at h
   ·assumption
   ·split at h<;>simp at h
theorem Adi:∀ (l:List UInt8)(n:Int),Ni n l≤1000000
 | [],n=>by simp only [Ni];split<;>omega
 | c::l,n=>by
   simp only [Ni]
   split
   ·exact Adi l _
   ·omega
theorem Xp (s:List UInt8):Cb s≤1000000:=by
 unfold Cb
 split
 ·omega
 ·split
  ·omega
  ·split
   ·omega
   ·exact Adi _ _
theorem Lc {r:RS}(hw:r.wk)(h:r.kind≠0):r.kind=B6 r.text:=by
 have hlt:=Oe h
 obtain ⟨w,hwd⟩:=Aa r.ws hlt
 have:=hw w (List.mem_of_getElem? hwd)
 simp only [RS.kind,RS.text,hwd];exact this
theorem Afp {r:RS}(hw:r.wk)(h:r.named=true):nameS r.text=true:=by
 simp only [RS.named,Bool.not_eq_true',Bool.or_eq_false_iff,Bool.not_eq_false',beq_iff_eq] at h
 have:=Lc hw (by rw [h.2];simp)
 exact Afh (by rw [← this];exact h.2)
theorem He {r:RS}(hw:r.wk)(h:r.nameR.bad=false):r.named=true∧nameS r.name=true∧r.nameR=r.step∧r.bad=false:=by
 by_cases hn:r.named=true
 ·have hb:r.bad=false:=by simp only [RS.named,Bool.not_eq_true',Bool.or_eq_false_iff] at hn;exact hn.1
  refine ⟨hn,?_,by simp [RS.nameR,hn],hb⟩
  simp only [RS.name,hn,if_true]
  exact Afp hw hn
 ·simp only [RS.nameR,hn,RS.spoil] at h;simp at h
theorem Dp {r:RS}{s:List UInt8}(h:(r.need s).bad=false):r.takes s=true∧r.need s=r.step∧r.bad=false:=by
 by_cases hn:r.takes s=true
 ·refine ⟨hn,by simp [RS.need,hn],?_⟩
  simp only [RS.takes,Bool.not_eq_true',Bool.or_eq_false_iff] at hn;exact hn.1
 ·simp only [RS.need,hn,RS.spoil] at h;simp at h
theorem U3 {r:RS}{s:List UInt8}(h:r.takes s=true):r.bad=false:=by
 simp only [RS.takes,Bool.not_eq_true',Bool.or_eq_false_iff] at h;exact h.1
theorem Gk {b c:Bool}(h:b=true→c=true)(hc:c=false):b=false:=by
 cases b
 ·rfl
 ·rw [h rfl] at hc;cases hc
theorem Ae8:∀ (f:Nat),(∀ r:RS,r.ok→r.wk→4*r.left+1≤f→(Df f r).2.bad=false→FE (Df f r).1∧r.at_+Ai (Df f r).1≤(Df f r).2.at_) ∧
 (∀ r:RS,r.ok→r.wk→4*r.left+2≤f→(Cp f r).2.bad=false→FE (Cp f r).1∧r.at_+Ai (Cp f r).1≤(Cp f r).2.at_) ∧
 (∀ (x:Nd)(a:Nat)(r:RS),r.ok→r.wk→FE x→a+Ai x≤r.at_→4*r.left+1≤f→(E5 f x r).2.bad=false→FE (E5 f x r).1∧a+Ai (E5 f x r).1≤(E5 f x r).2.at_) ∧
 (∀ r:RS,r.ok→r.wk→4*r.left+3≤f→(C4 f r).2.bad=false→FE (C4 f r).1∧r.at_+Ai (C4 f r).1≤(C4 f r).2.at_) ∧
 (∀ (x:Nd)(a:Nat)(r:RS),r.ok→r.wk→FE x→a+Ai x≤r.at_→4*r.left+2≤f→(Eh f x r).2.bad=false→FE (Eh f x r).1∧a+Ai (Eh f x r).1≤(Eh f x r).2.at_):=by
 intro f
 induction f with
 | zero=>exact ⟨fun r _ _ h=>by omega,fun r _ _ h=>by omega,fun x a r _ _ _ _ h=>by omega,fun r _ _ h=>by omega,fun x a r _ _ _ _ h=>by omega⟩
 | succ f ih =>
   obtain ⟨i1,i2,i3,i4,i5⟩:=ih
   obtain ⟨b1,b2,b3,b4,b5⟩:=Ub f
   obtain ⟨a1,a2,a3,a4,a5⟩:=Di f
   refine ⟨fun r ho hw hf hg=>?_,fun r ho hw hf hg=>?_,fun x a r ho hw hx ha hf hg=>?_,fun r ho hw hf hg=>?_,fun x a r ho hw hx ha hf hg=>?_⟩
   ·have hb:r.bad=false:=Gk (fun h=>(Ub (f+1)).1 r h) hg
    simp only [Df] at hg ⊢
    rw [if_neg (by simp [hb])] at hg ⊢
    split at hg
    ·rename_i ht
     have hl:=(Am ht (by simp)).1
     have ls:=Bi hl
     have s:=Ag hl
     obtain ⟨g1,g2⟩:=i1 r.step (s.ok ho) (s.wk hw) (by omega) hg
     rw [if_pos ht]
     refine ⟨.neg _ g1,?_⟩
     simp only [Ai,Ar,RS.step] at g2 ⊢;omega
    rename_i ht1
    rw [if_neg ht1]
    split at hg
    ·rename_i hk
     rw [if_pos hk]
     have hk':r.kind=2:=by simpa using hk
     have:=Lc hw (by rw [hk'];simp)
     refine ⟨.num _ (Uj (by rw [← this];exact hk')) (Xp _),?_⟩
     simp [Ai,Ar,RS.step]
    rename_i hk
    rw [if_neg hk]
    split at hg
    ·rename_i ht
     have hl:=(Am ht (by simp)).1
     have ls:=Bi hl
     have s:=Ag hl
     obtain ⟨n1,n2,n3⟩:=Dp hg
     obtain ⟨g1,g2⟩:=i4 r.step (s.ok ho) (s.wk hw) (by omega) n3
     rw [if_pos ht]
     refine ⟨g1,?_⟩
     simp only [n2]
     simp only [RS.step] at g2 ⊢;omega
    rename_i ht2
    rw [if_neg ht2]
    split at hg
    ·rename_i ht
     have hl:=(Am ht (by simp)).1
     have s:=Ag hl
     obtain ⟨n1,n2,n3⟩:=Dp hg
     have s2:=s.trans (Ay (s:=[40]) (s.ok ho) (by simp))
     obtain ⟨m1,m2,m3,m4⟩:=He (s2.wk hw) n3
     rw [if_pos ht]
     refine ⟨.len _ m2,?_⟩
     have e4:=(Dp m4).2.1
     have:((r.step.need [40]).nameR.need [41]).at_=r.at_+4:=by rw [n2,m3,e4];rfl
     simp only [Ai,Ar];omega
    rename_i ht3
    rw [if_neg ht3]
    split at hg
    ·rename_i ht
     rw [if_pos ht]
     obtain ⟨m1,m2,m3,m4⟩:=He hw (U3 ht)
     have hl:=(Am ht (by simp)).1
     have s:=(Br ho).trans (Ag hl)
     have s':=Az (Br ho)
     have ls:=Bi hl
     obtain ⟨n1,n2,n3⟩:=Dp hg
     obtain ⟨g1,g2⟩:=i4 r.nameR.step (s.ok ho) (s.wk hw) (by omega) n3
     refine ⟨.cell _ _ m2 g1,?_⟩
     simp only [n2]
     simp only [m3,RS.step,Ai,Ar] at g2 ⊢;omega
    ·rename_i ht
     rw [if_neg ht]
     obtain ⟨m1,m2,m3,m4⟩:=He hw hg
     refine ⟨.var _ m2,?_⟩
     simp [m3,RS.step,Ai,Ar]
   ·simp only [Cp] at hg ⊢
    have h1:=Gk (b3 (Df f r).1 (Df f r).2) hg
    obtain ⟨g1,g2⟩:=i1 r ho hw (by omega) h1
    have af:=a1 r ho
    have lf:=Az af
    exact i3 _ r.at_ _ (af.ok ho) (af.wk hw) g1 g2 (by omega) hg
   ·simp only [E5] at hg ⊢
    split at hg
    ·rename_i ht
     rw [if_pos ht]
     have hl:=(Am ht (by simp)).1
     have ls:=Bi hl
     have s:=Ag hl
     have h1:=Gk (b3 _ (Df f r.step).2) hg
     obtain ⟨g1,g2⟩:=i1 r.step (s.ok ho) (s.wk hw) (by omega) h1
     have af:=s.trans (a1 r.step (s.ok ho))
     have lf:=Az (a1 r.step (s.ok ho))
     refine i3 _ a _ (af.ok ho) (af.wk hw) (.two 8 _ _ (by simp) hx g1) ?_ (by omega) hg
     simp only [RS.step,Ai,Ar] at g2 ⊢;omega
    ·rename_i ht
     rw [if_neg ht]
     exact ⟨hx,ha⟩
   ·simp only [C4] at hg ⊢
    have h1:=Gk (b5 (Cp f r).1 (Cp f r).2) hg
    obtain ⟨g1,g2⟩:=i2 r ho hw (by omega) h1
    have af:=a2 r ho
    have lf:=Az af
    exact i5 _ r.at_ _ (af.ok ho) (af.wk hw) g1 g2 (by omega) hg
   ·simp only [Eh] at hg ⊢
    split at hg
    ·rename_i ht
     rw [if_pos ht]
     have hl:=(Am ht (by simp)).1
     have ls:=Bi hl
     have s:=Ag hl
     have h1:=Gk (b5 _ (Cp f r.step).2) hg
     obtain ⟨g1,g2⟩:=i2 r.step (s.ok ho) (s.wk hw) (by omega) h1
     have af:=s.trans (a2 r.step (s.ok ho))
     have lf:=Az (a2 r.step (s.ok ho))
     refine i5 _ a _ (af.ok ho) (af.wk hw) (.two 6 _ _ (by simp) hx g1) ?_ (by omega) hg
     simp only [RS.step,Ai,Ar] at g2 ⊢;omega
    ·rename_i ht1
     rw [if_neg ht1]
     split at hg
     ·rename_i ht
      rw [if_pos ht]
      have hl:=(Am ht (by simp)).1
      have ls:=Bi hl
      have s:=Ag hl
      have h1:=Gk (b5 _ (Cp f r.step).2) hg
      obtain ⟨g1,g2⟩:=i2 r.step (s.ok ho) (s.wk hw) (by omega) h1
      have af:=s.trans (a2 r.step (s.ok ho))
      have lf:=Az (a2 r.step (s.ok ho))
      refine i5 _ a _ (af.ok ho) (af.wk hw) (.two 7 _ _ (by simp) hx g1) ?_ (by omega) hg
      simp only [RS.step,Ai,Ar] at g2 ⊢;omega
     ·rename_i ht
      rw [if_neg ht]
      exact ⟨hx,ha⟩
theorem H8 {r:RS}(ho:r.ok)(hw:r.wk)(h:(Bg r).2.bad=false):FE (Bg r).1∧r.at_+Ai (Bg r).1≤(Bg r).2.at_ :=
 (Ae8 6010).2.2.2.1 r ho hw (by have:=ho.1;simp only [RS.left];omega) h
theorem X1 {s:List UInt8}(h:relS s≠0):11≤relS s∧relS s≤16:=by
 unfold relS at h ⊢
 repeat' split
 all_goals (first | omega | simp_all)
theorem N2 {r:RS}(ho:r.ok)(hw:r.wk)(h:(Ca r).2.bad=false):FC (Ca r).1∧r.at_+Ai (Ca r).1≤(Ca r).2.at_:=by
 simp only [Ca] at h ⊢
 split at h
 ·simp [RS.spoil] at h
 ·rename_i hc
  rw [if_neg hc]
  simp only [Bool.or_eq_true,not_or,beq_iff_eq,Bool.not_eq_true] at hc
  have hl:=Qz hc.2
  have a:=Bh ho
  have b:=a.trans (Ag hl)
  obtain ⟨g1,g2⟩:=H8 ho hw hc.1
  obtain ⟨g3,g4⟩:=H8 (b.ok ho) (b.wk hw) h
  have hr:=X1 hc.2
  refine ⟨.mk _ _ _ hr.1 hr.2 g1 g3,?_⟩
  simp only [RS.step,Ai,Ar] at g4 ⊢;omega
theorem Ale {r:RS}(h:r.bad=true):(Np r).2.bad=true:=by
 simp only [Np]
 rw [if_neg (by simp [Cd (Y1 h)])]
 exact K3 (Pg (Y1 h) _)
theorem Acp {r:RS}(h:r.bad=true):(Bv r).2.bad=true:=by
 simp only [Bv]
 rw [if_neg (by simp [Cd h]),if_neg (by simp [Cd h]),if_neg (by simp [Cd h]),if_neg (by simp [Cd h])]
 exact Ale h
theorem Ab9 {r:RS}(ho:r.ok)(hw:r.wk)(h:(Bv r).2.bad=false):FS (Bv r).1∧r.at_+Ai (Bv r).1≤(Bv r).2.at_:=by
 simp only [Bv] at h ⊢
 split at h
 ·rename_i ht
  rw [if_pos ht]
  have s:=Ag (Am ht (by simp)).1
  obtain ⟨g1,g2⟩:=N2 (s.ok ho) (s.wk hw) h
  refine ⟨.check _ g1,?_⟩
  simp only [RS.step,Ai,Ar] at g2 ⊢;omega
 rename_i ht1
 rw [if_neg ht1]
 split at h
 ·rename_i ht
  rw [if_pos ht]
  have s:=Ag (Am ht (by simp)).1
  obtain ⟨m1,m2,m3,m4⟩:=He (s.wk hw) h
  refine ⟨.read _ m2,?_⟩
  rw [m3];simp [RS.step,Ai,Ar]
 rename_i ht2
 rw [if_neg ht2]
 split at h
 ·rename_i ht
  rw [if_pos ht]
  exact ⟨.skip,by simp [RS.step,Ai,Ar]⟩
 rename_i ht3
 rw [if_neg ht3]
 split at h
 ·rename_i ht
  rw [if_pos ht]
  exact ⟨.stop,by simp [RS.step,Ai,Ar]⟩
 rename_i ht4
 rw [if_neg ht4]
 simp only [Np] at h ⊢
 split at h
 ·rename_i ht
  rw [if_pos ht]
  obtain ⟨m1,m2,m3,m4⟩:=He hw (U3 ht)
  have s:=(Br ho).trans (Ag (Am ht (by simp)).1)
  have a1:=s.trans (Bh (s.ok ho))
  have a2:=a1.trans (Ay (s:=[93]) (a1.ok ho) (by simp))
  have a3:=a2.trans (Ay (s:=[61]) (a2.ok ho) (by simp))
  have hb:=Gk (fun h=>K3 h) h
  obtain ⟨n1,n2,n3⟩:=Dp hb
  obtain ⟨n4,n5,n6⟩:=Dp n3
  obtain ⟨g1,g2⟩:=H8 (s.ok ho) (s.wk hw) n6
  obtain ⟨g3,g4⟩:=H8 (a3.ok ho) (a3.wk hw) h
  refine ⟨.put _ _ _ m2 g1 g3,?_⟩
  have e1:(((Bg r.nameR.step).2.need [93]).need [61]).at_=(Bg r.nameR.step).2.at_+2:=by rw [n2,n5];rfl
  have e2:r.nameR.step.at_=r.at_+2:=by rw [m3];rfl
  simp only [Ai,Ar];omega
 ·rename_i ht
  rw [if_neg ht]
  have a1:=Br ho
  have a2:=a1.trans (Ay (s:=[61]) (a1.ok ho) (by simp))
  have hb:=Gk (fun h=>K3 h) h
  obtain ⟨n1,n2,n3⟩:=Dp hb
  obtain ⟨m1,m2,m3,m4⟩:=He hw n3
  obtain ⟨g3,g4⟩:=H8 (a2.ok ho) (a2.wk hw) h
  refine ⟨.set _ _ m2 g3,?_⟩
  have e1:(r.nameR.need [61]).at_=r.at_+2:=by rw [n2,m3];rfl
  simp only [Ai,Ar];omega
theorem Z7:∀ (f:Nat),(∀ r:RS,r.bad=true→(B4 f r).2.bad=true)∧(∀ r:RS,r.bad=true→(Bq f r).2.bad=true)∧(∀ (acc:List Nd)(r:RS),r.bad=true→(Cn f acc r).2.bad=true):=by
 intro f
 induction f with
 | zero=>exact ⟨fun r h=>by simpa only [B4] using h,fun r h=>by simpa only [Bq] using h,fun x r h=>by simpa only [Cn] using h⟩
 | succ f ih =>
   obtain ⟨i1,i2,i3⟩:=ih
   refine ⟨fun r h=>?_,fun r h=>?_,fun acc r h=>?_⟩
   ·simp only [B4]
    rw [if_neg (by simp [Cd h]),if_neg (by simp [Cd h]),if_neg (by simp [Cd h])]
    exact Pg (Acp h) _
   ·simp only [Bq];exact Pg (i3 _ _ (Pg h _)) _
   ·simp only [Cn];rw [if_neg (by simp [h])];exact h
theorem N3 (l:List Nd)(x:Nd):Ar (l++[x])=Ar l+Ai x:=by rw [Jw];simp [Ar]
theorem Q5 (r:RS):r.step.at_=r.at_+1:=rfl
theorem Agh:∀ (f:Nat),(∀ r:RS,r.ok→r.wk→3*r.left+1≤f→(B4 f r).2.bad=false→FS (B4 f r).1∧r.at_+Ai (B4 f r).1≤(B4 f r).2.at_) ∧
 (∀ r:RS,r.ok→r.wk→3*r.left+3≤f→(Bq f r).2.bad=false→∃ l,(Bq f r).1=.mk 30 [] 0 l∧(∀ x,x∈l→FS x)∧r.at_+2+Ar l≤(Bq f r).2.at_) ∧
 (∀ (acc:List Nd)(a:Nat)(r:RS),r.ok→r.wk→(∀ x,x∈acc→FS x)→a+Ar acc≤r.at_→3*r.left+2≤f→(Cn f acc r).2.bad=false→(∀ x,x∈(Cn f acc r).1→FS x)∧a+Ar (Cn f acc r).1≤(Cn f acc r).2.at_):=by
 intro f
 induction f with
 | zero=>exact ⟨fun r _ _ h=>by omega,fun r _ _ h=>by omega,fun x a r _ _ _ _ h=>by omega⟩
 | succ f ih =>
   obtain ⟨i1,i2,i3⟩:=ih
   obtain ⟨b1,b2,b3⟩:=Z7 f
   obtain ⟨a1,a2,a3⟩:=Dr f
   refine ⟨fun r ho hw hf hg=>?_,fun r ho hw hf hg=>?_,fun acc a r ho hw hx ha hf hg=>?_⟩
   ·simp only [B4] at hg ⊢
    split at hg
    ·rename_i ht
     rw [if_pos ht]
     have hl:=(Am ht (by simp)).1
     have ls:=Bi hl
     have s:=Ag hl
     have c:=s.trans (Cg (s.ok ho))
     have lc:=Az (Cg (s.ok ho))
     split at hg
     ·rename_i ht2
      rw [if_pos ht2]
      have hl2:=(Am ht2 (by simp)).1
      have ls2:=Bi hl2
      have d:=c.trans (a2 _ (c.ok ho))
      have ld:=Az (a2 _ (c.ok ho))
      have e:=d.trans (Ag hl2)
      have hb1:=U3 ht2
      have hb2:=Gk (b2 (Ca r.step).2) hb1
      obtain ⟨g1,g2⟩:=N2 (s.ok ho) (s.wk hw) hb2
      obtain ⟨l,e1,h1,h2⟩:=i2 _ (c.ok ho) (c.wk hw) (by omega) hb1
      obtain ⟨l',e2,h3,h4⟩:=i2 _ (e.ok ho) (e.wk hw) (by omega) hg
      rw [e1,e2]
      refine ⟨.ifs _ _ _ g1 h1 h3,?_⟩
      simp only [Q5,Ai,Ar] at g2 h4 ⊢;omega
     ·rename_i ht2
      rw [if_neg ht2]
      have hb2:=Gk (b2 (Ca r.step).2) hg
      obtain ⟨g1,g2⟩:=N2 (s.ok ho) (s.wk hw) hb2
      obtain ⟨l,e1,h1,h2⟩:=i2 _ (c.ok ho) (c.wk hw) (by omega) hg
      rw [e1]
      refine ⟨.ifs _ _ [] g1 h1 (fun x hx=>by cases hx),?_⟩
      simp only [Q5,Ai,Ar] at g2 ⊢;omega
    rename_i ht1
    rw [if_neg ht1]
    split at hg
    ·rename_i ht
     rw [if_pos ht]
     have hl:=(Am ht (by simp)).1
     have ls:=Bi hl
     have s:=Ag hl
     have c:=s.trans (Cg (s.ok ho))
     have lc:=Az (Cg (s.ok ho))
     have hb2:=Gk (b2 (Ca r.step).2) hg
     obtain ⟨g1,g2⟩:=N2 (s.ok ho) (s.wk hw) hb2
     obtain ⟨l,e1,h1,h2⟩:=i2 _ (c.ok ho) (c.wk hw) (by omega) hg
     rw [e1]
     refine ⟨.whil _ _ g1 h1,?_⟩
     simp only [Q5,Ai,Ar] at g2 ⊢;omega
    rename_i ht2
    rw [if_neg ht2]
    split at hg
    ·rename_i ht
     rw [if_pos ht]
     have hl:=(Am ht (by simp)).1
     have ls:=Bi hl
     have s:=Ag hl
     have fa:=s.trans (N8 (s.ok ho))
     have fb:=s.trans (H9 (s.ok ho))
     have lb:=Az (H9 (s.ok ho))
     have d:=fb.trans (Bh (fb.ok ho))
     have ld:=Az (Bh (fb.ok ho))
     have hb2:=Gk (b2 _) hg
     have hb3:=Gk (fun h=>K3 h) hb2
     obtain ⟨n1,n2,n3⟩:=Dp (r:=(Bg (S8 r.step)).2) (s:=Vx) hb3
     have hb4:=Gk (fun h=>K3 h) n3
     obtain ⟨n4,n5,n6⟩:=Dp (r:=r.step.nameR) (s:=Gw) hb4
     obtain ⟨m1,m2,m3,m4⟩:=He (s.wk hw) n6
     obtain ⟨g1,g2⟩:=H8 (fa.ok ho) (fa.wk hw) n3
     obtain ⟨g3,g4⟩:=H8 (fb.ok ho) (fb.wk hw) hb2
     obtain ⟨l,e1,h1,h2⟩:=i2 _ (d.ok ho) (d.wk hw) (by omega) hg
     rw [e1]
     refine ⟨.for_ _ _ _ _ m2 g1 g3 h1,?_⟩
     have e2:(Ue r.step).at_=(Bg (S8 r.step)).2.at_+1:=by show ((Bg (S8 r.step)).2.need Vx).at_=_;rw [n2];rfl
     have e3:(S8 r.step).at_=r.at_+3:=by show (r.step.nameR.need Gw).at_=_;rw [n5,m3];rfl
     simp only [Ai,Ar];omega
    ·rename_i ht3
     rw [if_neg ht3]
     obtain ⟨n1,n2,n3⟩:=Dp hg
     obtain ⟨g1,g2⟩:=Ab9 ho hw n3
     refine ⟨g1,?_⟩
     rw [n2];show r.at_+Ai (Bv r).1≤(Bv r).2.at_+1;omega
   ·simp only [Bq] at hg ⊢
    obtain ⟨n1,n2,n3⟩:=Dp hg
    have hb:=Gk (b3 [] _) n3
    obtain ⟨n4,n5,n6⟩:=Dp hb
    have hl:=(Am n4 (by simp)).1
    have ls:=Bi hl
    have s:=Ay (s:=[123]) ho (by simp)
    rw [n5] at s n3 n2 ⊢
    obtain ⟨g1,g2⟩:=i3 [] r.step.at_ _ (s.ok ho) (s.wk hw) (fun x hx=>by cases hx) (by simp [Ar]) (by omega) n3
    refine ⟨_,rfl,g1,?_⟩
    rw [n2]
    simp only [Q5] at g2 ⊢;omega
   ·simp only [Cn] at hg ⊢
    split at hg
    ·rename_i hc
     rw [if_pos hc]
     have af:=a1 r ho
     have lf:=Az af
     obtain ⟨p,rfl⟩:∃ p,f=p+1:=⟨f-1,by omega⟩
     have hb:=Gk (b3 _ (B4 (p+1) r).2) hg
     obtain ⟨g1,g2⟩:=i1 r ho hw (by omega) hb
     have hon:r.at_<(B4 (p+1) r).2.at_:=by
      rcases Ts p ho with h | h
      ·rw [hb] at h;cases h
      ·exact h
     have hlt:(B4 (p+1) r).2.left+1≤r.left:=by
      have e1:=af.1
      have e2:=af.2.2
      simp only [RS.left,e1] at *
      omega
     refine i3 _ a _ (af.ok ho) (af.wk hw) (fun x hx'=>?_) ?_ (by omega) hg
     ·rcases List.mem_append.1 hx' with h | h
      ·exact hx x h
      ·simp at h;subst h;exact g1
     ·rw [N3];omega
    ·rename_i hc
     rw [if_neg hc]
     exact ⟨hx,ha⟩
theorem Agd {r:RS}(hw:r.wk)(h:(F3 r).2.bad=false):-1≤(F3 r).1∧(F3 r).1≤1000000∧(F3 r).2.at_=r.at_+1∧r.bad=false:=by
 simp only [F3] at h ⊢
 split at h
 ·rename_i hc
  rw [if_pos hc]
  simp only [Bool.and_eq_true,Bool.not_eq_true',beq_iff_eq] at hc
  have hk:=Lc hw (by rw [hc.2];simp)
  have:=Uj (by rw [← hk];exact hc.2)
  exact ⟨by simp only;omega,Xp _,rfl,hc.1⟩
 ·rename_i hc
  rw [if_neg hc]
  obtain ⟨n1,n2,n3⟩:=Dp h
  exact ⟨by simp,by simp,by rw [n2];rfl,n3⟩
theorem Ae6 {r:RS}(ho:r.ok)(hw:r.wk)(hd:Ex r=true)(h:(Gs r).2.bad=false):FV (Gs r).1∧Ai (Gs r).1=1∧r.at_+1≤(Gs r).2.at_:=by
 have af:=Ig ho hd
 have hlt:=af.2
 have s:=Ag hlt
 refine ⟨?_,?_,?_⟩
 ·simp only [Gs] at h ⊢
  split at h
  ·rename_i ht
   rw [if_pos ht]
   exact .var _ (He (s.wk hw) h).2.1
  ·rename_i ht
   rw [if_neg ht]
   obtain ⟨n1,n2,n3⟩:=Dp h
   have s2:=s.trans (Br (s.ok ho))
   have s3:=s2.trans (Ay (s:=[91]) (s2.ok ho) (by simp))
   obtain ⟨g1,g2,g3,g4⟩:=Agd (s3.wk hw) n3
   obtain ⟨n4,n5,n6⟩:=Dp g4
   exact .arr _ _ (He (s.wk hw) n6).2.1 g1 g2
 ·simp only [Gs];split<;>simp [Ai,Ar]
 ·have:=af.1.2.1
  rw [Q5] at this;exact this
theorem Aey:∀ (f:Nat)(acc:List Nd)(r:RS),r.bad=true→(C8 f acc r).2.bad=true
 | 0,acc,r,h=>by simpa only [C8] using h
 | f+1,acc,r,h=>by simp only [C8];rw [if_neg (by simp [Ex,Cd h])];exact h
theorem Ve:∀ (f:Nat)(acc:List Nd)(a:Nat)(r:RS),r.ok→r.wk→(∀ x,x∈acc→FV x)→a+Ar acc≤r.at_→(C8 f acc r).2.bad=false →
 (∀ x,x∈(C8 f acc r).1→FV x)∧a+Ar (C8 f acc r).1≤(C8 f acc r).2.at_
 | 0,acc,a,r,ho,hw,hx,ha,h=>by simp only [C8] at h ⊢;exact ⟨hx,ha⟩
 | f+1,acc,a,r,ho,hw,hx,ha,h=>by
   simp only [C8] at h ⊢
   split at h
   ·rename_i hd
    rw [if_pos hd]
    have hb:=Gk (Aey f _ _) h
    obtain ⟨n1,n2,n3⟩:=Dp hb
    obtain ⟨g1,g2,g3⟩:=Ae6 ho hw hd n3
    obtain ⟨d1,d2⟩:=Ig ho hd
    have s:=(Ag d2).trans d1
    have s2:=s.trans (Ay (s:=[59]) (s.ok ho) (by simp))
    refine Ve f _ a _ (s2.ok ho) (s2.wk hw) (fun x hx'=>?_) ?_ h
    ·rcases List.mem_append.1 hx' with h' | h'
     ·exact hx x h'
     ·simp at h';subst h';exact g1
    ·rw [N3,n2,Q5];omega
   ·rename_i hd
    rw [if_neg hd]
    exact ⟨hx,ha⟩
theorem R6 {r:RS}(ho:r.ok)(hw:r.wk)(h:(Cw r).2.bad=false):FP (Cw r).1∧r.at_+Ai (Cw r).1≤(Cw r).2.at_+2∧(Cw r).2.at_=r.ws.length:=by
 simp only [Cw] at h ⊢
 generalize hT:C8 2000 [] r=T at h ⊢
 have aT:r.after T.2:=by rw [← hT];exact Kt 2000 [] r ho
 have aL:=(Dr 5000).2.2 [] T.2 (aT.ok ho)
 simp only [RS.ends] at h ⊢
 split at h
 ·simp [RS.spoil] at h
 ·rename_i hc
  rw [if_neg hc]
  have hb:=Gk ((Z7 5000).2.2 [] T.2) h
  obtain ⟨g1,g2⟩:=(Agh 5000).2.2 [] T.2.at_ T.2 (aT.ok ho) (aT.wk hw) (fun x hx=>by cases hx) (by simp [Ar]) (by have:=(aT.ok ho).1;simp only [RS.left];omega) h
  obtain ⟨g3,g4⟩:=Ve 2000 [] r.at_ r ho hw (fun x hx=>by cases hx) (by simp [Ar]) (by rw [hT];exact hb)
  rw [hT] at g3 g4
  refine ⟨.mk _ _ g3 g1,?_,?_⟩
  ·simp only [Ai,N3,Ar];omega
  ·have e:=(aT.trans aL).1
   have:=aL.2.2
   have e2:(Cn 5000 [] T.2).2.ws=r.ws:=e
   rw [e2] at this hc
   omega
theorem AK.as_ {X:Cx}{B:Bx}{F:B3}{S:St}{R:AE→St→Prop}{K:List Item}(d:Nat)(y:AV)(hk:AK X B K ((d,y)::F) S R)(h:lk F d=some y:=by rfl):AK X B K F S R:=by
 intro E w a b cs hI hF hn hm hb
 refine hk E w a b cs hI ⟨hF.size,hF.nod,fun k z hz=>?_⟩ hn hm hb
 rw [I3] at hz
 split at hz
 ·rename_i he
  subst he
  cases hz
  exact hF.rel _ _ h
 ·exact hF.rel k z hz
theorem Aah:∀ (f a:Nat)(r:List UInt8)(out:List Wd),out.length≤1500→(∀ w,w∈out→w.kind=B6 w.text)→(Et f a r out).1.length≤1500∧∀ w,w∈(Et f a r out).1→w.kind=B6 w.text
 | 0,a,r,out,h1,h2=>by simp only [Et];exact ⟨h1,h2⟩
 | f+1,a,[],out,h1,h2=>by simp only [Et];exact ⟨h1,h2⟩
 | f+1,a,c::l,out,h1,h2=>by
   simp only [Et]
   split
   ·exact ⟨by simp,fun w hw=>by cases hw⟩
   ·split
    ·exact ⟨by simp,fun w hw=>by cases hw⟩
    ·rename_i hk
     refine Aah f _ _ _ ?_ fun w hw=>?_
     ·simp at hk ⊢;omega
     ·rcases List.mem_append.1 hw with h | h
      ·exact h2 w h
      ·simp at h;subst h;rfl
theorem Aai (s:List UInt8):(Bz s).1.length≤1500∧∀ w,w∈(Bz s).1→w.kind=B6 w.text:=by
 unfold Bz
 split
 ·exact ⟨by simp,fun w hw=>by cases hw⟩
 ·exact Aah _ _ _ _ (by simp) (fun w hw=>by cases hw)
def RS.place (r:RS)(e:Nat):Nat:=match r.ws[r.at_]? with
 | some w=>w.pos
 | none=>e
def rs0 (s:List UInt8):RS:=⟨(Bz s).1,0,false⟩
theorem Ab6 (s:List UInt8):(rs0 s).ok:=⟨(Aai s).1,Nat.zero_le _⟩
theorem Ab7 (s:List UInt8):(rs0 s).wk:=(Aai s).2
def Da (s:List UInt8):Nd × Int × Int :=
 if (Bz s).2.1=0 then
  (if (Cw (rs0 s)).2.bad then (B8,4,(Cw (rs0 s)).2.place s.length)
  else if 500<Ai (Cw (rs0 s)).1∨24<B5 (Cw (rs0 s)).1 then (B8,5,0) else ((Cw (rs0 s)).1,0,0))
 else (B8,(Bz s).2.1,(Bz s).2.2)
theorem Ado {s:List UInt8}(h:(Da s).2.1=0):FP (Da s).1∧Ai (Da s).1≤500∧B5 (Da s).1≤24:=by
 unfold Da at h ⊢
 split at h
 ·rename_i h0
  rw [if_pos h0]
  split at h
  ·simp at h
  ·rename_i hb
   rw [if_neg hb]
   split at h
   ·simp at h
   ·rename_i hl
    rw [if_neg hl]
    have:=R6 (Ab6 s) (Ab7 s) (by simpa using hb)
    exact ⟨this.1,by simp only;omega,by simp only;omega⟩
 ·rename_i h0
  exact absurd h h0
theorem Adp {r:RS}(ho:r.ok):r.after (Cw r).2:=by
 simp only [Cw]
 have aT:r.after (C8 2000 [] r).2:=Kt 2000 [] r ho
 have aL:=(Dr 5000).2.2 [] (C8 2000 [] r).2 (aT.ok ho)
 have a:=aT.trans aL
 simp only [RS.ends]
 split
 ·exact a.trans (Mh (a.ok ho))
 ·exact a
theorem Gh {s:List UInt8}(h:nameS s=true):s.length≤8:=by
 unfold nameS at h
 split at h
 ·simp
 ·simp only [Bool.and_eq_true,decide_eq_true_eq] at h
  have:=h.1.1.1
  simp;omega
theorem Aqn (s:List UInt8)(hs:s.length≤1000000000):Pure X 218 [str s] (.tup [nd (Da s).1,.agg [vi (Da s).2.1,vi (Da s).2.2]]):=by
 have hw:Pure X 262 [str s] (.tup [.sl (Ev (Bz s).1) .no,.agg [vi (Bz s).2.1,vi (Bz s).2.2]]):=Aqv s hs
 refine Pure.run Tryz.func218 ?_
 refine AK.pc hw ?_
 refine AK.if_ (fun h=>?_) (fun h=>?_)
 ·have h':(Bz s).2.1≠0:=by have:(!((Bz s).2.1==0))=true:=h;simpa using this
  have hP:Da s=(B8,(Bz s).2.1,((Bz s).2.2:Int)):=by simp only [Da];rw [if_neg h']
  rw [hP]
  refine AK.db 12 ?_
  refine En (Ndo.store rfl rfl rfl rfl rfl rfl rfl) ?_ ?_
  ·exact A1 (Ndo.ev rfl rfl rfl) G8
  refine Drv.w (Ndo.store rfl rfl rfl rfl rfl rfl rfl) ?_
  refine Drv.z ?_
  refine AK.rz Tryz.func218 ?_
  rfl
 have h':(Bz s).2.1=0:=by have:(!((Bz s).2.1==0))=false:=h;simpa using this
 have hP:Da s=if (Cw (rs0 s)).2.bad then (B8,4,((Cw (rs0 s)).2.place s.length:Int)) else if 500<Ai (Cw (rs0 s)).1∨24<B5 (Cw (rs0 s)).1 then (B8,5,0) else ((Cw (rs0 s)).1,0,0):=by
  simp only [Da];rw [if_pos h']
 rw [hP]
 have ho:=Ab6 s
 refine AK.as_ 6 (.ptr 3 0 0) ?_
 refine AK.as_ 22 (.ptr 3 0 0) ?_
 refine AK.hc [3] [] (Avh (rs0 s) ho) ?_
 have hws:(Cw (rs0 s)).2.ws=(Bz s).1:=(Adp ho).1
 have good:=R6 ho (Ab7 s)
 have hl0:=(Ab6 s).1
 generalize Cw (rs0 s)=q at good hws ⊢
 refine AK.if_ (fun h1=>?_) (fun h1=>?_)
 ·have h1':q.2.bad=true:=h1
  rw [if_pos h1']
  refine AK.if_ (fun h2=>?_) (fun h2=>?_)
  ·have hlt:q.2.at_<(Bz s).1.length:=by have:=of_decide_eq_true h2;rw [Cj] at this;omega
   obtain ⟨w,hw⟩:=Aa (Bz s).1 hlt
   have hp:q.2.place s.length=w.pos:=by simp [RS.place,hws,hw]
   refine AK.ix q.2.at_ (by omega) (Nu hw) ?_
   refine AK.rz Tryz.func218 ?_
   rw [hp];rfl
  ·have hlt:(Bz s).1.length≤q.2.at_:=by have:=of_decide_eq_false h2;rw [Cj] at this;omega
   have hp:q.2.place s.length=s.length:=by simp [RS.place,hws,List.getElem?_eq_none hlt]
   refine AK.rz Tryz.func218 ?_
   rw [hp];rfl
 ·have h1':q.2.bad=false:=h1
  obtain ⟨g1,g2,g3⟩:=good h1'
  have hc:Ai q.1≤4000000000:=by
   have e:(rs0 s).at_=0:=rfl
   omega
  rw [if_neg (by simp [h1'])]
  refine AK.pc (Ahm q.1 hc) ?_
  refine AK.gd (fun h2=>?_) (fun h2=>?_)
  ·have h2':500<Ai q.1:=by have:=of_decide_eq_true h2;omega
   rw [if_pos (.inl h2')]
   refine AK.yes ?_
   refine AK.rz Tryz.func218 ?_
   rfl
  ·have h2':¬ 500<Ai q.1:=by have:=of_decide_eq_false h2;omega
   refine AK.pc (Ahn q.1 hc) ?_
   refine AK.if_ (fun h3=>?_) (fun h3=>?_)
   ·have h3':24<B5 q.1:=by have:=of_decide_eq_true h3;omega
    rw [if_pos (.inr h3')]
    refine AK.rz Tryz.func218 ?_
    rfl
   ·have h3':¬ 24<B5 q.1:=by have:=of_decide_eq_false h3;omega
    rw [if_neg (by omega)]
    refine AK.rz Tryz.func218 ?_
    rfl
def Hk (n:Nd):List UInt8:=((n.kids.dropLast).map fun x=>Bp x []).flatten++(match n.kids.getLast? with
 | some b=>Fs b.kids []
 | none=>[])
def Cc (n:Nd):Bool:=(n.kind==40&&Oz n)&&((!(Hk n==[])&&decide ((Hk n).length≤4000))&&(Da (Hk n)).2.1==0)
theorem Xv (ds l:List Nd):Hk (.mk 40 [] 0 (ds++[.mk 30 [] 0 l]))=(ds.map fun x=>Bp x []).flatten++Fs l []:=by
 simp [Hk]
theorem Aqo (n:Nd)(h:FP n)(hd:B5 n≤24)(hw:wN n≤100000):Pure X 217 [nd n,str []] (str (Hk n))∧(Hk n).length≤4060*wN n:=by
 cases h with
 | mk ds l hd' hl =>
   rw [Xv]
   simp only [B5] at hd
   have hdl:D7 l≤22:=by
    have:=D8 (l:=ds++[.mk 30 [] 0 l]) (x:=.mk 30 [] 0 l) (by simp)
    simp only [B5] at this;omega
   have hwl:wL (ds++[.mk 30 [] 0 l])≤100000:=by simp [wN] at hw;omega
   have hwb:=Ms (l:=ds++[.mk 30 [] 0 l]) (k:=.mk 30 [] 0 l) (by simp)
   simp only [wN] at hwb
   have hf:∀ x,x∈ds++[.mk 30 [] 0 l]→Pure X 217 [nd x,str []] (str (if x.kind=30 then Fs x.kids [] else Bp x []))∧(if x.kind=30 then Fs x.kids [] else Bp x []).length≤4060*wN x:=fun x hx=>by
    have hwx:=Ms hx
    rcases List.mem_append.1 hx with h | h
    ·have hv:=hd' x h
     have hk:¬ x.kind=30:=by cases hv<;>simp
     rw [if_neg hk]
     exact ⟨Aql x hv [] (by simp) (by omega),Ai9 x hv [] (by simp)⟩
    ·simp only [List.mem_singleton] at h
     subst h
     rw [if_pos (J0 30 [] 0 l),Ec]
     refine ⟨Tj l [] hl (by simp;omega) (by simp at hwb;omega) fun x hx=>Aqk x (hl x hx),?_⟩
     have:=Nc (.mk 30 [] 0 l) l [] hl (by simp;omega)
     simp only [wN];omega
   have hp:=Ahq 40 (.inr rfl) _ _ [] (by simp) hwl hf
   have hT:((ds++[Nd.mk 30 [] 0 l]).map fun x=>if x.kind=30 then Fs x.kids [] else Bp x []).flatten=(ds.map fun x=>Bp x []).flatten++Fs l []:=by
    have e:(ds.map fun x=>if x.kind=30 then Fs x.kids [] else Bp x [])=ds.map fun x=>Bp x []:=by
     apply List.map_congr_left
     intro x hx
     have hv:=hd' x hx
     have hk:¬ x.kind=30:=by cases hv<;>simp
     rw [if_neg hk]
    rw [List.map_append,List.flatten_append,e];simp
   rw [hT] at hp
   refine ⟨hp,?_⟩
   have:=W7 fun x hx=>(hf x hx).2
   rw [hT] at this
   simp only [wN];omega
theorem U7 (n:Nd)(h:Bo n=true):wN n≤9*Ai n:=by
 induction n using Nd.ind with
 | h n ih =>
   rw [Ia,Bool.and_eq_true] at h
   have hall:=Ij h.2
   obtain ⟨_,hH⟩:=Zf h.1
   have hs:n.name.length≤8:=by
    have e:=hH.hs
    cases hb:(A4 n.kind).2.1 with
    | false=>rw [hb] at e;have h0:n.name=[]:=(by simpa using e);rw [h0];simp
    | true=>exact Gh (hH.hn hb)
   have key:∀ l:List Nd,(∀ x,x∈l→wN x≤9*Ai x)→wL l≤9*Ar l:=by
    intro l
    induction l with
    | nil=>intro _;simp [wL]
    | cons x l ihl =>
      intro hx
      have h1:=hx x (by simp)
      have h2:=ihl fun y hy=>hx y (by simp [hy])
      simp only [wL,Ar];omega
   have:=key n.kids fun x hx=>by
    obtain ⟨j,hj⟩:=Bj hx
    exact ih x hx (hall j x hj).2
   rw [Rr,Bu];omega
theorem Adm (n:Nd)(hn:wN n≤1000000000):Pure X 156 [nd n] (vb (Cc n)):=by
 refine Pure.run Tryz.func156 ?_
 refine AK.gd (fun h1=>?_) (fun h1=>?_)
 ·have h1':¬ n.kind=40:=by have:(!(n.kind==40))=true:=h1;simpa using this
  refine AK.yes ?_
  refine AK.rt Tryz.func156 ?_
  simp [Cc,h1',B1]
 have h1':n.kind=40:=by have:(!(n.kind==40))=false:=h1;simpa using this
 refine AK.pc (Auz n hn) ?_
 refine AK.if_ (fun h2=>?_) (fun h2=>?_)
 ·have h2':Oz n=false:=by have:(!Oz n)=true:=h2;simpa using this
  refine AK.rt Tryz.func156 ?_
  simp [Cc,h2',B1]
 have h2':Oz n=true:=by have:(!Oz n)=false:=h2;simpa using this
 have h2'':=h2'
 simp only [Oz,Bool.and_eq_true,decide_eq_true_eq] at h2''
 obtain ⟨⟨hc,hd⟩,hf⟩:=h2''
 have hw:=U7 n hf
 have hP:=Asn n hf h1'
 obtain ⟨hp,hl⟩:=Aqo n hP hd (by omega)
 refine AK.pc hp ?_
 have hO:Cc n=((!(Hk n==[])&&decide ((Hk n).length≤4000))&&(Da (Hk n)).2.1==0):=by simp [Cc,h1',h2']
 rw [hO]
 refine AK.gd (fun h3=>?_) (fun h3=>?_)
 ·have h3':(Hk n==[])=true:=h3
  refine AK.yes ?_
  refine AK.rt Tryz.func156 ?_
  rw [h3'];rfl
 have h3':(Hk n==[])=false:=h3
 refine AK.if_ (fun h4=>?_) (fun h4=>?_)
 ·have h4':¬ (Hk n).length≤4000:=by have:=of_decide_eq_true h4;rw [Du] at this;omega
  refine AK.rt Tryz.func156 ?_
  simp [h4',B1]
 have h4':(Hk n).length≤4000:=by have:=of_decide_eq_false h4;rw [Du] at this;omega
 refine AK.pc (Aqn (Hk n) (by omega)) ?_
 refine AK.rt Tryz.func156 ?_
 simp [h3',h4',B1]
theorem Am0 (l:List (List UInt8))(s:List UInt8)(hl:l.length≤1000000000):Pure X 102 [.sl (Ci l) .no,str s] (vi (Jl 0 l s)):=by
 refine Pure.run Tryz.func102 ?_
 refine AK.while_ (ι:=Nat) 0 0 (fun i=>i≤l.length∧Jl 0 l s=Jl i (l.drop i) s) (fun i=>[(5,vi i),(0,.sl (Ci l) .no),(1,str s)]) (fun _=>⟨[],[]⟩) (fun i=>l.length-i) ?_ 0 ⟨Nat.zero_le _,rfl⟩
  ⟨rfl,rfl,rfl,trivial⟩
 intro i hi IH
 refine AK.ei (fun h=>?_) (fun h=>?_)
 ·have hlt:i<l.length:=by have:=of_decide_eq_true h;rw [B7] at this;omega
  obtain ⟨x,hx⟩:=Aa l hlt
  have hd:Jl i (l.drop i) s=if s==x then (i:Int) else Jl (i+1) (l.drop (i+1)) s:=by rw [An hx];rfl
  refine AK.ix i (by omega) (Nq hx) ?_
  refine AK.if_ (fun h2=>?_) (fun h2=>?_)
  ·refine AK.rt Tryz.func102 ?_
   have h3:(s==x)=true:=by have:(x==s)=true:=h2;rw [beq_iff_eq] at this ⊢;exact this.symm
   rw [hi.2,hd,h3];rfl
  ·have h3:(s==x)=false:=by have:(x==s)=false:=h2;rw [beq_eq_false_iff_ne] at this ⊢;exact Ne.symm this
   exact IH (i+1) ⟨hlt,by rw [hi.2,hd,h3];rfl⟩ (by omega) _ _ ⟨vsx (by omega),rfl,rfl,trivial⟩ rfl rfl rfl
 ·have:i=l.length:=by have:=of_decide_eq_false h;rw [B7] at this;omega
  refine AK.rt Tryz.func102 ?_
  rw [hi.2,this,List.drop_length];rfl
theorem Wk (l:List (List UInt8)):Gj 1 (Ci l)=true:=H6 (f:=fun s=>[str s]) (fun _=>rfl) l
def Hr (k:Int):Int:=if k=2∨k=21∨k=23∨k=26 then 1 else if k=3∨k=4∨k=22 then 2 else 0
theorem Aqu (k:Int):Pure X 219 [vi k] (vi (Hr k)):=by
 refine Pure.run Tryz.func219 ?_
 repeat' (refine AK.if_ (fun _=>?_) (fun _=>?_))
 all_goals refine AK.rt Tryz.func219 ?_
 all_goals (simp_all [Hr,B1])
def C9 (l:List Nd)(k:Int):List (List UInt8):=(l.filter fun x=>x.kind==k).map Nd.name
def Aq (n:Nd)(k:Int):List (List UInt8):=C9 n.kids.dropLast k
theorem Uq (l:List Nd)(k:Int):(C9 l k).length≤l.length:=by simp only [C9,List.length_map];exact List.length_filter_le _ _
theorem Ol (n:Nd)(k:Int)(hn:wN n≤1000000000):Pure X 98 [nd n,vi k] (.sl (Ci (Aq n k)) .no):=by
 refine Pure.run Tryz.func98 ?_
 have hkl:=Ei n
 have hw:IntKind.i64.wrap ((Ak n.kids).length-1:Int)=n.kids.length-1:=by rw [Ae];exact Ac (by omega) (by omega)
 refine AK.mint (d:=5) rfl rfl rfl ?_
 refine AK.while_ (ι:=Nat) 1 1 (fun i=>i≤n.kids.length-1) (fun i=>[(6,vi i),(5,.sl (Ci (C9 (n.kids.take i) k)) (.tok 0)),(1,vi k),(2,.ptr 0 0 0)]) (fun i=>⟨[[Af n]],[(C9 (n.kids.take i) k).length]⟩) (fun i=>n.kids.length-i) ?_ 0
  (Nat.zero_le _) ⟨rfl,rfl,rfl,rfl,trivial⟩
 intro i hi IH
 refine AK.ei (fun h=>?_) (fun h=>?_)
 ·have hlt:i<n.kids.length-1:=by have:=of_decide_eq_true h;rw [hw] at this;omega
  obtain ⟨x,hx⟩:=Aa n.kids (i:=i) (by omega)
  have hle:=Uq (n.kids.take i) k
  have htl:(n.kids.take i).length=i:=by simp;omega
  refine AK.ix i (by omega) (Ao hx) ?_
  refine AK.if_ (fun h2=>?_) (fun h2=>?_)
  ·have h2':(x.kind==k)=true:=h2
   have hs:C9 (n.kids.take (i+1)) k=C9 (n.kids.take i) k++[x.name]:=by simp [C9,List.take_add_one,hx,List.filter_append,List.filter_cons,h2']
   refine AK.ix i (by omega) (Ao hx) ?_
   refine AK.op (Ndo.append (res:=Ci (C9 (n.kids.take i) k++[x.name])) rfl rfl rfl rfl rfl rfl rfl rfl rfl rfl rfl rfl rfl rfl (B7 _) (Wk _) rfl rfl rfl ?_ ?_ rfl) ?_
   ·rw [B7];simp;omega
   ·simp [Ci]
   refine IH (i+1) (by omega) (by omega) _ _ ⟨vsx (by omega),?_,rfl,rfl,trivial⟩ ?_ rfl rfl
   ·rw [hs];rfl
   ·rw [hs];simp [St.drop,B7]
  ·have h2':(x.kind==k)=false:=h2
   have hs:C9 (n.kids.take (i+1)) k=C9 (n.kids.take i) k:=by simp [C9,List.take_add_one,hx,List.filter_append,List.filter_cons,h2']
   refine IH (i+1) (by omega) (by omega) _ _ ⟨vsx (by omega),?_,rfl,rfl,trivial⟩ ?_ rfl rfl
   ·rw [hs];rfl
   ·rw [hs];rfl
 ·have:i=n.kids.length-1:=by have:=of_decide_eq_false h;rw [hw] at this;omega
  refine AK.rz Tryz.func98 ?_
  rw [this,Aq,List.dropLast_eq_take]
theorem Xq (n:Nd)(hn:wN n≤1000000000):Pure X 103 [nd n] (nd n):=by
 induction n using Nd.ind with
 | h n ih =>
 refine Pure.run Tryz.func103 ?_
 have hkl:=Ei n
 refine AK.mint (d:=3) rfl rfl rfl ?_
 refine AK.while_ (ι:=Nat) 2 1 (fun i=>i≤n.kids.length) (fun i=>[(4,vi i),(3,.sl (Ak (n.kids.take i)) (.tok 0)),(1,.ptr 0 0 0),(2,.ptr 1 0 0)]) (fun i=>⟨[[Af n],[zN]],[i]⟩) (fun i=>n.kids.length-i) ?_ 0
  (Nat.zero_le _) ⟨rfl,rfl,rfl,rfl,trivial⟩
 intro i hi IH
 refine AK.ei (fun h=>?_) (fun h=>?_)
 ·have hlt:i<n.kids.length:=by have:=of_decide_eq_true h;rw [Ae] at this;omega
  obtain ⟨x,hx⟩:=Aa n.kids hlt
  have hwx:=Gp (List.mem_of_getElem? hx)
  have htl:(n.kids.take i).length=i:=by simp;omega
  refine AK.ix i (by omega) (Ao hx) ?_
  refine AK.pc (ih x (List.mem_of_getElem? hx) (by omega)) ?_
  refine AK.op (Ndo.append (res:=Ak (n.kids.take (i+1))) rfl rfl rfl rfl rfl rfl rfl rfl rfl rfl rfl rfl rfl rfl (by rw [Ae,htl]) (C3 _) rfl rfl rfl ?_ ?_ rfl) ?_
  ·rw [Ae];simp;omega
  ·rw [List.take_add_one,hx,Al,Al];simp
  refine IH (i+1) hlt (by omega) _ _ ⟨vsx (by omega),rfl,rfl,rfl,trivial⟩ ?_ rfl rfl
  simp [St.drop,Ae,htl]
 ·have:i=n.kids.length:=by have:=of_decide_eq_false h;rw [Ae] at this;omega
  subst this
  refine AK.rz Tryz.func103 ?_
  rw [List.take_length];rfl
theorem As2 (s:List UInt8)(a:Nd):Pure X 230 [str s,nd a] (nd (.mk 21 s 0 [a])):=by
 refine Pure.run Tryz.func230 ?_
 refine AK.rz Tryz.func230 ?_
 show AV.agg [_,_,_,.sl _ _]=AV.agg [_,_,_,.sl (Ak [a]) _]
 rw [Al [a]];rfl
theorem Am5 (s:List UInt8):Pure X 232 [str s] (nd (.mk 2 s 0 [])):=by
 refine Pure.run Tryz.func232 ?_
 exact AK.rz Tryz.func232 rfl
theorem Aqm:Pure X 233 [vi 1] (nd (.mk 1 [] 1 [])):=by
 refine Pure.run Tryz.func233 ?_
 refine AK.no ?_
 exact AK.rz Tryz.func233 rfl
def H5 (vars arrs:List (List UInt8))(code:Int)(k:Int)(s:List UInt8):Bool :=
 decide (Hr k > 0)&&((code==7&&!decide (Jl 0 vars s≥0)&&!decide (Jl 0 arrs s≥0))||(code==8&&((Hr k==1&&!decide (Jl 0 vars s≥0))||(Hr k==2&&!decide (Jl 0 arrs s≥0)))))
mutual
def E7 (vars arrs:List (List UInt8))(code:Int):Nd→List UInt8 × Bool
 | .mk k s _ ks=>if H5 vars arrs code k s then (s,true) else Mu vars arrs code ks
def Mu (vars arrs:List (List UInt8))(code:Int):List Nd→List UInt8 × Bool
 | []=>([],false)
 | x::l=>if (E7 vars arrs code x).2 then (E7 vars arrs code x) else Mu vars arrs code l
end
theorem U8 (vars arrs:List (List UInt8))(code:Int)(n:Nd):E7 vars arrs code n=if H5 vars arrs code n.kind n.name then (n.name,true) else Mu vars arrs code n.kids:=by cases n;rw [E7];rfl
theorem Ayr (n:Nd)(vars arrs:List (List UInt8))(T:List UInt8 × Bool)(code w:Int)(v a:Bool)(hc:code=7∨code=8)(hw:w=1∨w=2)
 (h7:AK X ⟨157,Tryz.f157,0,0⟩ (Gl false 7 Tryz.f157) [(4,.ptr 0 0 0),(1,.sl (Ci vars) .no),(2,.sl (Ci arrs) .no),(3,vi code)] ⟨[[Af n]],[]⟩ (fun e S=>e=.ret (.tup [str T.1,vb T.2])∧S=⟨[],[]⟩)) :
 AK X ⟨157,Tryz.f157,0,0⟩ (Gl false 5 Tryz.f157) [(4,.ptr 0 0 0),(1,.sl (Ci vars) .no),(2,.sl (Ci arrs) .no),(3,vi code),(10,vi w),(11,vb v),(12,vb a)] ⟨[[Af n]],[]⟩
  (fun e S=>e=.ret (.tup [str (if ((code==7&&!v&&!a)||(code==8&&((w==1&&!v)||(w==2&&!a)))) then (n.name,true) else T).1,vb (if ((code==7&&!v&&!a)||(code==8&&((w==1&&!v)||(w==2&&!a)))) then (n.name,true) else T).2])∧S=⟨[],[]⟩):=by
 refine AK.at_ ?_
 rcases hc with rfl | rfl<;>rcases hw with rfl | rfl<;>cases v<;>cases a
 all_goals
  refine AK.ev 100 rfl ?_
  repeat' (first | refine AK.gn ?_ | refine AK.gy ?_)
  first
   | (refine AK.yes ?_;exact AK.rt Tryz.func157 rfl)
   | (refine AK.ifj 0 7 (fun h=>?_) (fun h=>?_);· cases h
      exact AK.back' 1 0 h7 ⟨rfl,rfl,rfl,rfl,trivial⟩ rfl rfl rfl rfl rfl)
theorem Ahw (vars arrs:List (List UInt8))(code:Int)(hc:code=7∨code=8)(hv:vars.length≤1000000000)(ha:arrs.length≤1000000000)(n:Nd)(hn:wN n≤1000000000) :
 Pure X 157 [nd n,.sl (Ci vars) .no,.sl (Ci arrs) .no,vi code] (.tup [str (E7 vars arrs code n).1,vb (E7 vars arrs code n).2]):=by
 induction n using Nd.ind with
 | h n ih =>
 have hkl:=Ei n
 have hloop:∀ T,Mu vars arrs code n.kids=T→AK X ⟨157,Tryz.f157,0,0⟩ (Gl false 7 Tryz.f157) [(4,.ptr 0 0 0),(1,.sl (Ci vars) .no),(2,.sl (Ci arrs) .no),(3,vi code)] ⟨[[Af n]],[]⟩
  (fun e S=>e=.ret (.tup [str T.1,vb T.2])∧S=⟨[],[]⟩):=fun T hT=>by
  refine AK.at_ ?_
  refine AK.ev 100 rfl ?_
  refine AK.while_ (ι:=Nat) 1 0 (fun i=>i≤n.kids.length∧T=Mu vars arrs code (n.kids.drop i)) (fun i=>[(13,vi i),(4,.ptr 0 0 0),(1,.sl (Ci vars) .no),(2,.sl (Ci arrs) .no),(3,vi code)]) (fun _=>⟨[[Af n]],[]⟩)
   (fun i=>n.kids.length-i) ?_ 0 ⟨Nat.zero_le _,hT.symm⟩ ⟨rfl,rfl,rfl,rfl,rfl,trivial⟩
  rintro i ⟨hi,hTi⟩ IH
  refine AK.ei (fun h=>?_) (fun h=>?_)
  ·have hlt:i<n.kids.length:=by have:=of_decide_eq_true h;rw [Ae] at this;omega
   obtain ⟨x,hx⟩:=Aa n.kids hlt
   have hwx:=Gp (List.mem_of_getElem? hx)
   rw [An hx] at hTi
   simp only [Mu] at hTi
   refine AK.ix i (by omega) (Ao hx) ?_
   refine AK.pc (ih x (List.mem_of_getElem? hx) (by omega)) ?_
   refine AK.if_ (fun h2=>?_) (fun h2=>?_)
   ·have h2':(E7 vars arrs code x).2=true:=h2
    refine AK.rt Tryz.func157 ?_
    rw [hTi,if_pos h2',h2'];rfl
   ·have h2':(E7 vars arrs code x).2=false:=h2
    exact IH (i+1) ⟨hlt,by rw [hTi,if_neg (by simp [h2'])]⟩ (by omega) _ _ ⟨vsx (by omega),rfl,rfl,rfl,rfl,trivial⟩ rfl rfl rfl
  ·have:i=n.kids.length:=by have:=of_decide_eq_false h;rw [Ae] at this;omega
   refine AK.rt Tryz.func157 ?_
   rw [hTi,this,List.drop_length];rfl
 refine Pure.run Tryz.func157 ?_
 refine AK.pc (Aqu n.kind) ?_
 rw [U8]
 refine AK.ifj 0 7 (fun h1=>?_) (fun h1=>?_)
 ·have h1':decide (Hr n.kind > 0)=true:=h1
  have hw:Hr n.kind=1∨Hr n.kind=2:=by
   have:=of_decide_eq_true h1'
   unfold Hr at this ⊢
   split
   ·simp
   ·split
    ·simp
    ·rename_i h2 h3;rw [if_neg h2,if_neg h3] at this;omega
  refine AK.ev 100 rfl ?_
  refine AK.pc (Am0 vars n.name hv) ?_
  refine AK.pcj 5 (Am0 arrs n.name ha) ?_
  have hA:H5 vars arrs code n.kind n.name=((code==7&&!decide (Jl 0 vars n.name≥0)&&!decide (Jl 0 arrs n.name≥0))||(code==8&&((Hr n.kind==1&&!decide (Jl 0 vars n.name≥0))||(Hr n.kind==2&&!decide (Jl 0 arrs n.name≥0))))):=by simp only [H5,h1',Bool.true_and]
  rw [hA]
  exact AK.back' 1 0 (Ayr n vars arrs _ code _ _ _ hc hw (hloop _ rfl)) ⟨rfl,rfl,rfl,rfl,rfl,rfl,rfl,trivial⟩ rfl rfl rfl rfl rfl
 ·have h1':decide (Hr n.kind > 0)=false:=h1
  have hA:H5 vars arrs code n.kind n.name=false:=by simp [H5,h1']
  rw [hA]
  exact AK.back' 1 0 (hloop _ rfl) ⟨rfl,rfl,rfl,rfl,trivial⟩ rfl rfl rfl rfl rfl
theorem Aek {X:Cx}{B:Bx}{S S2:St}{F F':B3}{N:Nat}{R:AE→St→Prop}{ops:Array Oper}{i:Nat}{bs:List Nat}{em:Nat}{Hs:List St}{pend:List Hn}{k K:List Item}(id:Nat)(hk:AK X B K F' S2 R)
 (he:evT X B.fn.ntmps id 100 k F S=(K,F',S2):=by rfl):Drv X N ops bs em [] i F S Hs pend fun F1 S1=>AK X B k F1 S1 R :=
 AK.evj id 100 he hk
def Aa7 (s:List UInt8):List Nd→List Nd
 | [a,b,.mk k' s' m' l]=>[.mk 21 s 0 [a],.mk 25 [] 0 [.mk 11 [] 0 [.mk 2 s 0 [],b],.mk k' s' m' (l++[.mk 21 s 0 [.mk 6 [] 0 [.mk 2 s 0 [],.mk 1 [] 1 []]]])]]
 | _=>[]
mutual
def Aw:Nd→Nd
 | .mk k s m ks=>.mk k s m (Bb ks)
def Bb:List Nd→List Nd
 | []=>[]
 | x::l=>Er x++Bb l
def Er:Nd→List Nd
 | .mk k s m ks=>if k=26 then Aa7 s (Bb ks) else [.mk k s m (Bb ks)]
end
theorem A6 (k:Int)(s:List UInt8)(m:Int)(ks:List Nd):Aw (.mk k s m ks)=.mk k s m (Bb ks):=by rw [Aw]
theorem A0:Bb []=[]:=by rw [Bb]
theorem Au (x:Nd)(l:List Nd):Bb (x::l)=Er x++Bb l:=by rw [Bb]
theorem A8 {x:Nd}(h:x.kind≠26):Er x=[Aw x]:=by
 obtain ⟨k,s,m,ks⟩:=x
 have h':k≠26:=h
 rw [Er,if_neg h',Aw]
theorem Jr (s:List UInt8)(m:Int)(ks:List Nd):Er (.mk 26 s m ks)=Aa7 s (Bb ks):=by rw [Er,if_pos rfl]
theorem P3 (a b:List Nd):Bb (a++b)=Bb a++Bb b:=by
 induction a with
 | nil=>simp [A0]
 | cons x a ih=>simp [Au,ih]
theorem Fh {l:List Nd}(h:∀ x,x∈l→x.kind≠26):Bb l=l.map Aw:=by
 induction l with
 | nil=>simp [A0]
 | cons x l ih=>rw [Au,A8 (h x (by simp)),ih fun y hy=>h y (by simp [hy])];simp
theorem Bt {x:Nd}(h:FE x):1≤x.kind∧x.kind≤8:=by
 cases h<;>simp
 omega
theorem G7 {x:Nd}(h:FC x):11≤x.kind∧x.kind≤16:=by
 cases h;simp;omega
theorem Ao0 {x:Nd}(h:FS x):21≤x.kind∧x.kind≤29:=by
 cases h<;>simp
theorem V1 {x:Nd}(h:FV x):x.kind=31∨x.kind=32:=by
 cases h<;>simp
theorem P2 {x:Nd}(h:FE x):Aw x=x:=by
 induction h with
 | num m h0 h1=>rw [A6,A0]
 | var s h=>rw [A6,A0]
 | cell s a h ha ih=>rw [A6,Au,A0,A8 (by have:=Bt ha;omega),ih];rfl
 | len s h=>rw [A6,A0]
 | neg a ha ih=>rw [A6,Au,A0,A8 (by have:=Bt ha;omega),ih];rfl
 | two k a b hk ha hb iha ihb=>rw [A6,Au,Au,A0,A8 (by have:=Bt ha;omega),A8 (by have:=Bt hb;omega),iha,ihb];rfl
theorem Oq {x:Nd}(h:FC x):Aw x=x:=by
 cases h with
 | mk k a b h0 h1 ha hb=>rw [A6,Au,Au,A0,A8 (by have:=Bt ha;omega),A8 (by have:=Bt hb;omega),P2 ha,P2 hb];rfl
theorem Au2 {x:Nd}(h:FV x):Aw x=x:=by
 cases h<;>rw [A6,A0]
theorem Qd (a b:List Nd):wL (a++b)=wL a+wL b:=by
 induction a with
 | nil=>simp [wL]
 | cons x a ih=>simp only [List.cons_append,wL,ih];omega
theorem At1 (s:List UInt8)(l:List Nd):wL (Aa7 s l)≤wL l+10+5*s.length:=by
 unfold Aa7
 split
 ·simp only [wL,wN,Qd,List.length_nil];omega
 ·simp [wL]
theorem Sj {P:Nd→Prop}{Q:List Nd→Prop}(h1:∀ (k:Int)(s:List UInt8)(m:Int)(ks:List Nd),Q ks→P (.mk k s m ks))(h2:Q [])(h3:∀ (x:Nd)(l:List Nd),P x→Q l→Q (x::l)):(∀ x,P x)∧∀ l,Q l:=by
 have hP:∀ x,P x:=fun x=>Nd.rec (motive_1:=P) (motive_2:=Q) h1 h2 h3 x
 refine ⟨hP,fun l=>?_⟩
 induction l with
 | nil=>exact h2
 | cons x l ih=>exact h3 x l (hP x) ih
theorem Ang:(∀ n:Nd,wN (Aw n)≤10*wN n∧wL (Er n)≤10*wN n)∧∀ l:List Nd,wL (Bb l)≤10*wL l:=by
 refine Sj (fun k s m ks ih=>?_) ?_ (fun x l hx hl=>?_)
 ·have hM:wN (Aw (.mk k s m ks))≤10*wN (.mk k s m ks):=by rw [A6];simp only [wN];omega
  refine ⟨hM,?_⟩
  by_cases hk:k=26
  ·subst hk
   rw [Jr]
   have:=At1 s (Bb ks)
   simp only [wN];omega
  ·rw [A8 (by simpa using hk)];simp only [wL];omega
 ·simp [A0,wL]
 ·rw [Au,Qd];simp only [wL];omega
theorem Mf (n:Nd):wN (Aw n)≤10*wN n∧wL (Er n)≤10*wN n:=Ang.1 n
theorem Qy (l:List Nd):wL (Bb l)≤10*wL l:=by
 induction l with
 | nil=>simp [A0,wL]
 | cons x l ih=>rw [Au,Qd];have:=(Mf x).2;simp only [wL];omega
theorem Jo (l:List Nd):l.length≤wL l:=by
 induction l with
 | nil=>simp
 | cons x l ih=>have:=Rr x;simp [wL];omega
theorem J9 (k:Int)(s:List UInt8)(m:Int)(ks:List Nd)(hk:k≠26)(hk':k≠30)(hw:wN (.mk k s m ks)≤1000000000)
 (hx:∀ x,x∈ks→(x.kind=30∧Pure X 170 [nd x] (.sl (Ak [Aw x]) .no))∨(x.kind≠30∧Aw x=x)) :
 Pure X 170 [nd (.mk k s m ks)] (.sl (Ak [.mk k s m (ks.map Aw)]) .no):=by
 have ne1:(k==30)=false:=by simpa using hk'
 have ne2:(k==26)=false:=by simpa using hk
 have hkl:=Ei (.mk k s m ks)
 simp only [Ec] at hkl
 refine Pure.run Tryz.func170 ?_
 refine AK.no ?_ (ht:=ne1)
 refine AK.no ?_ (ht:=ne2)
 refine AK.mintB 1 0 3 rfl rfl rfl rfl rfl rfl ?_
 refine AK.while_ (ι:=Nat) 2 1 (fun i=>i≤ks.length) (fun i=>[(6,vi i),(1,.ptr 0 0 0),(3,.ptr 1 0 0)]) (fun i=>⟨[[Af (.mk k s m ks)],[[vi k,str s,vi m,.sl (Ak ((ks.take i).map Aw)) (.tok 0)]]],[i]⟩) (fun i=>ks.length-i) ?_ 0
  (Nat.zero_le _) ⟨rfl,rfl,rfl,trivial⟩
 intro i hi IH
 refine AK.ei (fun h=>?_) (fun h=>?_)
 ·have hlt:i<ks.length:=by have:=of_decide_eq_true h;rw [Ae] at this;simp at this;omega
  obtain ⟨x,hxg⟩:=Aa ks hlt
  have hwx:wN x<wN (.mk k s m ks):=Gp (n:=.mk k s m ks) (List.mem_of_getElem? hxg)
  have htl:(Ak ((ks.take i).map Aw)).length=i:=by rw [Ae];simp;omega
  have hres:Ak ((ks.take i).map Aw)++[Af (Aw x)]=Ak ((ks.take (i+1)).map Aw):=by simp [Al,List.take_add_one,hxg]
  have hgo:AK X ⟨170,Tryz.f170,0,0⟩ (Gl false 15 Tryz.f170) [(6,vi i),(1,.ptr 0 0 0),(3,.ptr 1 0 0)] ⟨[[Af (.mk k s m ks)],[[vi k,str s,vi m,.sl (Ak ((ks.take (i+1)).map Aw)) (.tok 0)]]],[i+1]⟩
   (fun e S=>e=.ret (.sl (Ak [.mk k s m (ks.map Aw)]) .no)∧S=⟨[],[]⟩):=by
   refine AK.at_ ?_
   refine AK.ev 100 rfl ?_
   exact IH (i+1) hlt (by omega) _ _ ⟨vsx (by omega),rfl,rfl,trivial⟩ rfl rfl rfl
  refine AK.ix i (by omega) (Ao (l:=ks) hxg) ?_
  rcases hx x (List.mem_of_getElem? hxg) with ⟨h30,hp⟩ | ⟨h30,hp⟩
  ·refine AK.yes ?_ (ht:=by simpa using h30)
   refine AK.db 10240 ?_
   refine Drv.ig i (by omega) (Ao (l:=ks) hxg) ?_
   refine Ax hp ?_
   refine Drv.ig 0 (by omega) (Rh (Aw x) []) ?_
   refine Drv.w (Ndo.append (res:=Ak ((ks.take (i+1)).map Aw)) rfl rfl rfl rfl rfl rfl rfl rfl rfl rfl rfl rfl rfl rfl htl (C3 _) rfl rfl rfl ?_ hres rfl) ?_
   ·rw [htl];simp;omega
   refine Drv.e ?_
   refine Drv.w (Ndo.store rfl rfl rfl rfl rfl rfl rfl) ?_
   refine Aek 15 ?_
   exact AK.back' 2 1 hgo ⟨rfl,rfl,rfl,trivial⟩ (by simp [St.drop,Ae];omega) rfl rfl rfl rfl
  ·refine AK.no ?_ (ht:=by simpa using h30)
   refine AK.db 2560 ?_
   refine Drv.ig i (by omega) (Ao (l:=ks) hxg) ?_
   refine Ax (Xq x (by omega)) ?_
   rw [hp] at hres
   refine Drv.w (Ndo.append (res:=Ak ((ks.take (i+1)).map Aw)) rfl rfl rfl rfl rfl rfl rfl rfl rfl rfl rfl rfl rfl rfl htl (C3 _) rfl rfl rfl ?_ hres rfl) ?_
   ·rw [htl];simp;omega
   refine Drv.e ?_
   refine Drv.w (Ndo.store rfl rfl rfl rfl rfl rfl rfl) ?_
   refine Aek 15 ?_
   exact AK.back' 2 1 hgo ⟨rfl,rfl,rfl,trivial⟩ (by simp [St.drop,Ae];omega) rfl rfl rfl rfl
 ·have:i=ks.length:=by have:=of_decide_eq_false h;rw [Ae] at this;simp at this;omega
  subst this
  refine AK.rz Tryz.func170 ?_
  rw [List.take_length,Al [_]];rfl
theorem Adh (l:List Nd):Ga (Ak l)=true:=Fy.2 fun r hr x hx=>by
 rw [Al] at hr
 obtain ⟨k,_,rfl⟩:=List.mem_map.1 hr
 simp [Af] at hx
 rcases hx with rfl | rfl | rfl | rfl<;>rfl
theorem Hands.pure {X:Cx}{f:FuncId}{args:List AV}{y r:AV}{tk:List Nat}(h:Hands X f args ⟨[],[]⟩ y ⟨[],tk⟩) [hz:FzC ⟨[],tk⟩ 0 0 y r]:Pure X f args r:=by
 refine ⟨h.1,fun E w vs hd hI hs hr=>(h.2 E w vs hd hI hs hr).mono fun e w' he=>?_⟩
 obtain ⟨E1,S1,d1,d2,d3⟩:=he
 cases e with
 | returned v =>
   obtain ⟨r',hr',hre,rfl⟩:=d3
   cases hre
   exact ⟨E1.drop 0 0,_,d1.drop (fun rows hr=>by simp at hr),d2.trans (Evol.drop E1 w' 0 0),r,hz.s.rel d1 hr',rfl,by simp [St.drop]⟩
 | panicked ch=>obtain ⟨h,_⟩:=d3;cases h
 | outgrown=>exact d3.elim
theorem Ac6 (m:Int)(s:List UInt8)(ks:List Nd)(hw:wN (.mk 30 s m ks)≤1000000000)
 (hx:∀ x,x∈ks→Pure X 170 [nd x] (.sl (Ak (Er x)) .no)∧Nat.ble 1 (Er x).length=true) :
 Hands X 170 [nd (.mk 30 s m ks)] ⟨[],[]⟩ (.sl [[vi 30,str s,vi m,.sl (Ak (Bb ks)) (.tok 0)]] .tight) ⟨[],[(Bb ks).length]⟩:=by
 have hkl:=Ei (.mk 30 s m ks)
 simp only [Ec] at hkl
 refine Hands.run Tryz.func170 ?_
 refine AK.yes ?_
 refine AK.mintB 1 0 3 rfl rfl rfl rfl rfl rfl ?_
 refine AK.while_ (ι:=Nat) 2 1 (fun i=>i≤ks.length) (fun i=>[(4,vi i),(1,.ptr 0 0 0),(3,.ptr 1 0 0)]) (fun i=>⟨[[Af (.mk 30 s m ks)],[[vi 30,str s,vi m,.sl (Ak (Bb (ks.take i))) (.tok 0)]]],[(Bb (ks.take i)).length]⟩) (fun i=>ks.length-i) ?_ 0
  (Nat.zero_le _) ⟨rfl,rfl,rfl,trivial⟩ (by simp [A0];rfl)
 intro i hi IH
 refine AK.ei (fun h=>?_) (fun h=>?_)
 ·have hlt:i<ks.length:=by have:=of_decide_eq_true h;rw [Ae] at this;simp at this;omega
  obtain ⟨x,hxg⟩:=Aa ks hlt
  have hwx:wN x<wN (.mk 30 s m ks):=Gp (n:=.mk 30 s m ks) (List.mem_of_getElem? hxg)
  have hsn:Bb (ks.take (i+1))=Bb (ks.take i)++Er x:=by rw [List.take_add_one,hxg,P3];simp [Au,A0]
  have hl1:=Jo (Bb (ks.take i))
  have hl2:=Qy (ks.take i)
  have hl3:wL (ks.take i)≤wL ks:=by
   have:=Qd (ks.take i) (ks.drop i)
   rw [List.take_append_drop] at this;omega
  have hl4:=Jo (Er x)
  have hl5:=(Mf x).2
  have hw':=hw
  simp only [wN] at hw'
  obtain ⟨hp,hne⟩:=hx x (List.mem_of_getElem? hxg)
  refine AK.db 1280 ?_
  refine Drv.ig i (by omega) (Ao (l:=ks) hxg) ?_
  refine Ax hp ?_
  refine Drv.w (Ndo.append (res:=Ak (Bb (ks.take (i+1)))) rfl rfl rfl rfl rfl rfl rfl rfl rfl rfl rfl rfl rfl rfl (Ae _) (C3 _) (C3 _) (Adh _) (by rw [Ae];exact hne) ?_ ?_ rfl) ?_
  ·rw [Ae,Ae];simp only [wN] at hwx;omega
  ·rw [hsn,Al,Al,Al,List.map_append]
  refine Drv.e ?_
  refine Drv.w (Ndo.store rfl rfl rfl rfl rfl rfl rfl) ?_
  refine Drv.z ?_
  refine IH (i+1) hlt (by omega) _ _ ⟨vsx (by omega),rfl,rfl,trivial⟩ ?_ rfl rfl
  simp [St.drop,Ae,hsn]
 ·have:i=ks.length:=by have:=of_decide_eq_false h;rw [Ae] at this;simp at this;omega
  subst this
  rw [List.take_length]
  exact AK.ret Tryz.func170 rfl rfl rfl rfl
theorem Tm (m:Int)(s:List UInt8)(ks:List Nd)(hw:wN (.mk 30 s m ks)≤1000000000)
 (hx:∀ x,x∈ks→Pure X 170 [nd x] (.sl (Ak (Er x)) .no)∧Nat.ble 1 (Er x).length=true) :
 Pure X 170 [nd (.mk 30 s m ks)] (.sl (Ak [.mk 30 s m (Bb ks)]) .no):=by
 have:=(Ac6 m s ks hw hx).pure
 rw [Al [_]]
 exact this
theorem Nj {x:Nd}(h:FS x):Nat.ble 1 (Er x).length=true:=by
 by_cases hk:x.kind=26
 ·cases h with
  | for_ s a b l h ha hb hl =>
    rw [Jr,Au,Au,Au,A0,A8 (by have:=Bt ha;omega),A8 (by have:=Bt hb;omega),A8 (by simp),A6];rfl
  | _=>simp at hk
 ·rw [A8 hk];rfl
theorem Am6 (x:Nd)(h:FS x)(hw:wN x≤1000000000):Pure X 170 [nd x] (.sl (Ak (Er x)) .no):=by
 induction h with
 | set s a h ha =>
   rw [A8 (by simp),A6,Fh (by simp;have:=Bt ha;omega)]
   exact J9 21 s 0 _ (by simp) (by simp) hw fun x hx=>by simp at hx;subst hx;exact .inr ⟨by have:=Bt ha;omega,P2 ha⟩
 | put s a b h ha hb =>
   rw [A8 (by simp),A6,Fh (by simp;have:=Bt ha;have:=Bt hb;omega)]
   refine J9 22 s 0 _ (by simp) (by simp) hw fun x hx=>?_
   simp at hx
   rcases hx with rfl | rfl
   ·exact .inr ⟨by have:=Bt ha;omega,P2 ha⟩
   ·exact .inr ⟨by have:=Bt hb;omega,P2 hb⟩
 | read s h =>
   rw [A8 (by simp),A6,Fh (by simp)]
   exact J9 23 s 0 _ (by simp) (by simp) hw fun x hx=>by cases hx
 | skip =>
   rw [A8 (by simp),A6,Fh (by simp)]
   exact J9 28 [] 0 _ (by simp) (by simp) hw fun x hx=>by cases hx
 | stop =>
   rw [A8 (by simp),A6,Fh (by simp)]
   exact J9 29 [] 0 _ (by simp) (by simp) hw fun x hx=>by cases hx
 | check c hc =>
   rw [A8 (by simp),A6,Fh (by simp;have:=G7 hc;omega)]
   exact J9 27 [] 0 _ (by simp) (by simp) hw fun x hx=>by simp at hx;subst hx;exact .inr ⟨by have:=G7 hc;omega,Oq hc⟩
 | whil c l hc hl ihl =>
   rw [A8 (by simp),A6,Fh (by simp;have:=G7 hc;omega)]
   simp [wN,wL] at hw
   refine J9 25 [] 0 _ (by simp) (by simp) (by simp [wN,wL];omega) fun x hx=>?_
   simp at hx
   rcases hx with rfl | rfl
   ·exact .inr ⟨by have:=G7 hc;omega,Oq hc⟩
   ·exact .inl ⟨rfl,by rw [A6];exact Tm 0 [] l (by simp [wN];omega) fun x hx=>⟨ihl x hx (by have:=Ms hx;omega),Nj (hl x hx)⟩⟩
 | ifs c l l' hc hl hl' ihl ihl' =>
   rw [A8 (by simp),A6,Fh (by simp;have:=G7 hc;omega)]
   simp [wN,wL] at hw
   refine J9 24 [] 0 _ (by simp) (by simp) (by simp [wN,wL];omega) fun x hx=>?_
   simp at hx
   rcases hx with rfl | rfl | rfl
   ·exact .inr ⟨by have:=G7 hc;omega,Oq hc⟩
   ·exact .inl ⟨rfl,by rw [A6];exact Tm 0 [] l (by simp [wN];omega) fun x hx=>⟨ihl x hx (by have:=Ms hx;omega),Nj (hl x hx)⟩⟩
   ·exact .inl ⟨rfl,by rw [A6];exact Tm 0 [] l' (by simp [wN];omega) fun x hx=>⟨ihl' x hx (by have:=Ms hx;omega),Nj (hl' x hx)⟩⟩
 | for_ s a b l h ha hb hl ihl =>
   simp [wN,wL] at hw
   have hB:=Ac6 0 [] l (by simp [wN];omega) fun x hx=>⟨ihl x hx (by have:=Ms hx;omega),Nj (hl x hx)⟩
   have hl1:=Jo (Bb l)
   have hl2:=Qy l
   rw [Jr,Au,Au,Au,A0,A8 (by have:=Bt ha;omega),A8 (by have:=Bt hb;omega),A8 (by simp),A6,P2 ha,P2 hb]
   refine Pure.run Tryz.func170 ?_
   refine AK.no ?_
   refine AK.yes ?_
   refine AK.ix 2 (by omega) (Aro a b _ []) ?_
   refine AK.hc (τ':=[0]) [] [] hB ?_
   refine AK.ix 0 (by omega) (rows:=[_]) rfl ?_
   refine AK.db 10240 ?_
   refine Ax (Am5 s) ?_
   refine Ax Aqm ?_
   refine Ax (Tn 6 (.mk 2 s 0 []) (.mk 1 [] 1 [])) ?_
   refine Ax (As2 s (.mk 6 [] 0 [.mk 2 s 0 [],.mk 1 [] 1 []])) ?_
   refine Drv.w (Ndo.append (res:=Ak (Bb l++[.mk 21 s 0 [.mk 6 [] 0 [.mk 2 s 0 [],.mk 1 [] 1 []]]])) rfl rfl rfl rfl rfl rfl rfl rfl rfl rfl rfl rfl rfl rfl (Ae _) (C3 _) rfl rfl rfl ?_ ?_ rfl) ?_
   ·rw [Ae];simp;omega
   ·simp [Al]
   refine Drv.e ?_
   refine Drv.w (Ndo.store rfl rfl rfl rfl rfl rfl rfl) ?_
   refine Drv.z ?_
   refine AK.db 0 ?_
   refine Drv.ig 0 (by omega) (Rh a _) ?_
   refine Ax (Xq a (by omega)) ?_
   refine Ax (As2 s a) ?_
   refine Ax (Am5 s) ?_
   refine Drv.ig 1 (by omega) (Yq a b _) ?_
   refine Ax (Xq b (by omega)) ?_
   refine Ax (Tn 11 (.mk 2 s 0 []) b) ?_
   refine Ax (Tn 25 (.mk 11 [] 0 [.mk 2 s 0 [],b]) (.mk 30 [] 0 (Bb l++[.mk 21 s 0 [.mk 6 [] 0 [.mk 2 s 0 [],.mk 1 [] 1 []]]]))) ?_
   refine Drv.z ?_
   refine AK.rz Tryz.func170 ?_
   show AV.sl _ _=AV.sl (Ak (Aa7 s [a,b,.mk 30 [] 0 (Bb l)])) _
   rw [Al (Aa7 s _)];rfl
theorem We {ds l:List Nd}(hd:∀ x,x∈ds→FV x):Aw (.mk 40 [] 0 (ds++[.mk 30 [] 0 l]))=.mk 40 [] 0 (ds++[.mk 30 [] 0 (Bb l)]):=by
 rw [A6,P3,Au,A0,A8 (by simp),A6]
 congr 2
 rw [Fh fun x hx=>by have:=V1 (hd x hx);omega]
 have:ds.map Aw=ds:=by
  conv=>rhs;rw [← List.map_id ds]
  exact List.map_congr_left fun x hx=>Au2 (hd x hx)
 rw [this]
theorem Vp (n:Nd)(h:FP n)(hw:wN n≤100000000):Pure X 113 [nd n] (nd (Aw n)):=by
 cases h with
 | mk ds l hd hl =>
 rw [We hd]
 have hkl:=Ei (.mk 40 [] 0 (ds++[.mk 30 [] 0 l]))
 simp only [Ec,List.length_append,List.length_singleton] at hkl
 have hwl:wN (.mk 30 [] 0 l)<wN (.mk 40 [] 0 (ds++[.mk 30 [] 0 l])):=Gp (n:=.mk 40 [] 0 (ds++[.mk 30 [] 0 l])) (by simp)
 have hwl':wN (.mk 30 [] 0 l)=1+wL l:=by simp [wN]
 have hN:((Ak (ds++[.mk 30 [] 0 l])).length:Int)=ds.length+1:=by rw [Ae];simp
 have hwr:IntKind.i64.wrap (((Ak (ds++[.mk 30 [] 0 l])).length:Int)-1)=ds.length:=by rw [hN,Ac (by omega) (by omega)];omega
 refine Pure.run Tryz.func113 ?_
 refine AK.mintB 2 0 3 rfl rfl rfl rfl rfl rfl ?_
 refine AK.while_ (ι:=Nat) 3 1 (fun i=>i≤ds.length) (fun i=>[(4,vi i),(1,.ptr 0 0 0),(2,.ptr 1 0 0),(3,.ptr 2 0 0)])
  (fun i=>⟨[[Af (.mk 40 [] 0 (ds++[.mk 30 [] 0 l]))],[zN],[[vi 40,str [],vi 0,.sl (Ak (ds.take i)) (.tok 0)]]],[i]⟩) (fun i=>ds.length-i) ?_ 0
  (Nat.zero_le _) ⟨rfl,rfl,rfl,rfl,trivial⟩
 intro i hi IH
 have htl:(Ak (ds.take i)).length=i:=by rw [Ae];simp;omega
 refine AK.ei (fun h=>?_) (fun h=>?_)
 ·have hlt:i<ds.length:=by have:=of_decide_eq_true h;rw [Ec,hwr] at this;omega
  obtain ⟨x,hx⟩:=Aa ds hlt
  have hx':(ds++[Nd.mk 30 [] 0 l])[i]?=some x:=by rw [List.getElem?_append_left hlt];exact hx
  have hwx:wN x<wN (.mk 40 [] 0 (ds++[.mk 30 [] 0 l])):=Gp (n:=.mk 40 [] 0 (ds++[.mk 30 [] 0 l])) (List.mem_of_getElem? hx')
  refine AK.db 2560 ?_
  refine Drv.ig i (by omega) (Ao hx') ?_
  refine Ax (Xq x (by omega)) ?_
  refine Drv.w (Ndo.append (res:=Ak (ds.take (i+1))) rfl rfl rfl rfl rfl rfl rfl rfl rfl rfl rfl rfl rfl rfl htl (C3 _) rfl rfl rfl ?_ ?_ rfl) ?_
  ·rw [htl];simp;omega
  ·simp [Al,List.take_add_one,hx]
  refine Drv.e ?_
  refine Drv.w (Ndo.store rfl rfl rfl rfl rfl rfl rfl) ?_
  refine Drv.z ?_
  refine IH (i+1) hlt (by omega) _ _ ⟨vsx (by omega),rfl,rfl,rfl,trivial⟩ ?_ rfl rfl
  simp [St.drop,htl]
 ·have:i=ds.length:=by have:=of_decide_eq_false h;rw [Ec,hwr] at this;omega
  subst this
  rw [List.take_length] at htl ⊢
  have hlast:(Ak (ds++[Nd.mk 30 [] 0 l]))[(IntKind.i64.wrap (((Ak (ds++[.mk 30 [] 0 l])).length:Int)-1)).toNat]?=some (Af (.mk 30 [] 0 l)):=by
   rw [hwr];exact Ao (by simp)
  have hB:=Tm 0 [] l (by omega) fun x hx=>⟨Am6 x (hl x hx) (by have:=Ms hx;omega),Nj (hl x hx)⟩
  refine AK.db 81920 ?_
  refine Drv.ig _ (by rw [hwr];omega) hlast ?_
  refine Ax hB ?_
  refine Drv.ig 0 (by omega) (Rh _ []) ?_
  refine Drv.w (Ndo.append (res:=Ak (ds++[.mk 30 [] 0 (Bb l)])) rfl rfl rfl rfl rfl rfl rfl rfl rfl rfl rfl rfl rfl rfl htl (C3 _) rfl rfl rfl ?_ ?_ rfl) ?_
  ·rw [htl];simp;omega
  ·rw [Al (ds++_),Al ds,List.map_append];rfl
  refine Drv.e ?_
  refine Drv.w (Ndo.store rfl rfl rfl rfl rfl rfl rfl) ?_
  refine Drv.z ?_
  refine AK.rz Tryz.func113 ?_
  rfl
def twG (pre:List (List UInt8)):List Nd→Option (List UInt8)
 | []=>none
 | d::l=>if has pre d.name then some d.name else twG (pre++[d.name]) l
def Pw (n:Nd):Bool:=decide (8<(Aq n 31).length)||decide (4<(Aq n 32).length)
def bigS (l:List Nd):Bool:=l.any fun d=>decide (60<d.num)
def Cm (n:Nd):Nd:=n.kids.getLastD B8
def Dd (n:Nd):Int × List UInt8 :=
 if Cc n then
  (if Pw n then (3,[]) else if bigS n.kids.dropLast then (3,[]) else
    match twG [] n.kids.dropLast with
    | some s=>(6,s)
    | none =>
      if (E7 (Aq n 31) (Aq n 32) 7 (Cm n)).2 then (7,(E7 (Aq n 31) (Aq n 32) 7 (Cm n)).1)
      else if (E7 (Aq n 31) (Aq n 32) 8 (Cm n)).2 then (8,(E7 (Aq n 31) (Aq n 32) 8 (Cm n)).1)
      else if Cc (Aw n) then (0,[]) else (5,[]))
 else (4,[])
theorem Ot {n:Nd}(h:Cc n=true):FP n∧Ai n≤500∧B5 n≤24:=by
 simp only [Cc,Oz,Bool.and_eq_true,decide_eq_true_eq,beq_iff_eq] at h
 exact ⟨Asn n h.1.2.2 h.1.1,h.1.2.1.1,h.1.2.1.2⟩
theorem Abh (a b:List (List UInt8))(s:List UInt8):has (a++b) s=(has a s||has b s):=by simp [has]
abbrev gC (v a:List (List UInt8)):B3:=[(1,.ptr 0 0 0),(2,.ptr 1 0 0),(3,.sl (Ci v) .no),(4,.sl (Ci a) .no)]
theorem Aqi (n:Nd)(hn:wN n≤100000000):Pure X 97 [nd n] (.agg [vi (Dd n).1,str (Dd n).2]):=by
 refine Pure.run Tryz.func97 ?_
 refine AK.pc (Adm n (by omega)) ?_
 refine AK.if_ (fun h1=>?_) (fun h1=>?_)
 ·have h1':Cc n=false:=by have:(!Cc n)=true:=h1;simpa using this
  refine AK.rz Tryz.func97 ?_
  simp only [Dd];rw [if_neg (by simp [h1'])]
 have h1':Cc n=true:=by have:(!Cc n)=false:=h1;simpa using this
 obtain ⟨hP,hc,hdp⟩:=Ot h1'
 have hkl:=Ei n
 have hC:Dd n=(if Pw n then (3,[]) else if bigS n.kids.dropLast then (3,[]) else
  match twG [] n.kids.dropLast with
  | some s=>(6,s)
  | none =>
    if (E7 (Aq n 31) (Aq n 32) 7 (Cm n)).2 then (7,(E7 (Aq n 31) (Aq n 32) 7 (Cm n)).1)
    else if (E7 (Aq n 31) (Aq n 32) 8 (Cm n)).2 then (8,(E7 (Aq n 31) (Aq n 32) 8 (Cm n)).1)
    else if Cc (Aw n) then (0,[]) else (5,[]):Int × List UInt8):=by simp only [Dd];rw [if_pos h1']
 have hvl:(Aq n 31).length≤1000000000:=by have:=Uq n.kids.dropLast 31;simp [Aq] at this ⊢;omega
 have hal:(Aq n 32).length≤1000000000:=by have:=Uq n.kids.dropLast 32;simp [Aq] at this ⊢;omega
 refine AK.pc (Ol n 31 (by omega)) ?_
 refine AK.pc (Ol n 32 (by omega)) ?_
 generalize hv:Aq n 31=v at hC hvl ⊢
 generalize ha:Aq n 32=a at hC hal ⊢
 have hvs:((Ci v).length:Int)=v.length:=by rw [B7]
 have has':((Ci a).length:Int)=a.length:=by rw [B7]
 have hM:Pw n=(decide (8<v.length)||decide (4<a.length)):=by simp only [Pw,hv,ha]
 have hne:n.kids≠[]:=by cases hP;simp
 have hpos:0<n.kids.length:=List.length_pos_iff.2 hne
 have hw:IntKind.i64.wrap (((Ak n.kids).length:Int)-1)=((n.kids.length-1:Nat):Int):=by rw [Ae,Ac (by omega) (by omega)];omega
 have hgetD:∀ i,i<n.kids.length-1→∀ x,n.kids[i]?=some x→n.kids.dropLast[i]?=some x:=fun i hi x hx=>by
  rw [List.dropLast_eq_take,List.getElem?_take,if_pos hi];exact hx
 have hdl:n.kids.dropLast.length=n.kids.length-1:=by simp
 have h20:Pw n=false→bigS n.kids.dropLast=false→twG [] n.kids.dropLast=none→AK X ⟨97,Tryz.f97,0,0⟩ (Gl false 20 Tryz.f97) (gC v a) ⟨[[Af n],[[vi 0,str []]]],[]⟩
  (fun e S=>e=.ret (.agg [vi (Dd n).1,str (Dd n).2])∧S=⟨[],[]⟩):=fun g1 g2 g3=>by
  rw [hC,if_neg (by simp [g1]),if_neg (by simp [g2]),g3]
  simp only
  have hl:n.kids[n.kids.length-1]?=some (Cm n):=by
   simp only [Cm]
   cases hk:n.kids with
   | nil=>exact absurd hk hne
   | cons y l=>rw [List.getLastD_eq_getLast?,List.getLast?_eq_getElem?];simp
  have hlast:(Ak n.kids)[(IntKind.i64.wrap (((Ak n.kids).length:Int)-1)).toNat]?=some (Af (Cm n)):=by
   rw [hw]
   exact Ao (by simpa using hl)
  have hwl:wN (Cm n)≤100000000:=by
   have:=Gp (List.mem_of_getElem? hl);omega
  refine AK.at_ ?_
  refine AK.ev 100 rfl ?_
  refine AK.ix _ (by rw [hw];omega) hlast ?_
  refine AK.pc (Ahw v a 7 (.inl rfl) hvl hal (Cm n) (by omega)) ?_
  refine AK.if_ (fun h2=>?_) (fun h2=>?_)
  ·have h2':(E7 v a 7 (Cm n)).2=true:=h2
   rw [if_pos h2']
   refine AK.rz Tryz.func97 ?_
   rfl
  have h2':(E7 v a 7 (Cm n)).2=false:=h2
  rw [if_neg (by simp [h2'])]
  refine AK.pc (Ahw v a 8 (.inr rfl) hvl hal (Cm n) (by omega)) ?_
  refine AK.if_ (fun h3=>?_) (fun h3=>?_)
  ·have h3':(E7 v a 8 (Cm n)).2=true:=h3
   rw [if_pos h3']
   refine AK.rz Tryz.func97 ?_
   rfl
  have h3':(E7 v a 8 (Cm n)).2=false:=h3
  rw [if_neg (by simp [h3'])]
  refine AK.pc (Vp n hP hn) ?_
  refine AK.pc (Adm (Aw n) (by have:=(Mf n).1;omega)) ?_
  refine AK.if_ (fun h4=>?_) (fun h4=>?_)
  ·have h4':Cc (Aw n)=false:=by have:(!Cc (Aw n))=true:=h4;simpa using this
   rw [if_neg (by simp [h4'])]
   refine AK.rz Tryz.func97 ?_
   rfl
  ·have h4':Cc (Aw n)=true:=by have:(!Cc (Aw n))=false:=h4;simpa using this
   rw [if_pos h4']
   refine AK.rz Tryz.func97 ?_
   rfl
 have h12:Pw n=false→bigS n.kids.dropLast=false→AK X ⟨97,Tryz.f97,0,0⟩ (Gl false 12 Tryz.f97) (gC v a) ⟨[[Af n],[[vi 0,str []]]],[]⟩
  (fun e S=>e=.ret (.agg [vi (Dd n).1,str (Dd n).2])∧S=⟨[],[]⟩):=fun g1 g2=>by
  refine AK.at_ ?_
  refine AK.ev 100 rfl ?_
  refine AK.while_ (ι:=Nat) 2 0 (fun i=>i≤n.kids.length-1∧twG [] n.kids.dropLast=twG ((n.kids.dropLast.take i).map Nd.name) (n.kids.dropLast.drop i)) (fun i=>(6,vi i)::gC v a) (fun _=>⟨[[Af n],[[vi 0,str []]]],[]⟩)
   (fun i=>n.kids.length-i) ?_ 0 ⟨Nat.zero_le _,by simp⟩ ⟨rfl,rfl,rfl,rfl,rfl,trivial⟩
  rintro i ⟨hi,hT⟩ IH
  refine AK.ev 100 rfl ?_
  refine AK.ifj 0 20 (fun h=>?_) (fun h=>?_)
  ·have hlt:i<n.kids.length-1:=by have:=of_decide_eq_true h;rw [hw] at this;omega
   obtain ⟨x,hx⟩:=Aa n.kids (i:=i) (by omega)
   have hx':=hgetD i hlt x hx
   have hd:twG ((n.kids.dropLast.take i).map Nd.name) (n.kids.dropLast.drop i)=if has ((n.kids.dropLast.take i).map Nd.name) x.name then some x.name else twG ((n.kids.dropLast.take (i+1)).map Nd.name) (n.kids.dropLast.drop (i+1)):=by
    rw [An hx'];simp only [twG]
    rw [show (n.kids.dropLast.take (i+1)).map Nd.name=(n.kids.dropLast.take i).map Nd.name++[x.name] by rw [List.take_add_one,hx'];simp]
   rw [hd] at hT
   refine AK.ev 100 rfl ?_
   refine AK.while_ (ι:=Nat) 2 0 (fun k=>k≤i∧has ((n.kids.dropLast.take k).map Nd.name) x.name=false) (fun k=>(7,vi k)::(6,vi i)::gC v a) (fun _=>⟨[[Af n],[[vi 0,str []]]],[]⟩)
    (fun k=>i-k) ?_ 0 ⟨Nat.zero_le _,by simp [has]⟩ ⟨rfl,rfl,rfl,rfl,rfl,rfl,trivial⟩
   rintro k ⟨hk,hno⟩ IH2
   refine AK.ei (fun h2=>?_) (fun h2=>?_)
   ·have hkl':k<i:=by have:=of_decide_eq_true h2;omega
    obtain ⟨y,hy⟩:=Aa n.kids (i:=k) (by omega)
    have hy':=hgetD k (by omega) y hy
    have hsn:has ((n.kids.dropLast.take (k+1)).map Nd.name) x.name=(y.name==x.name):=by
     rw [show (n.kids.dropLast.take (k+1)).map Nd.name=(n.kids.dropLast.take k).map Nd.name++[y.name] by rw [List.take_add_one,hy'];simp,Abh,hno]
     simp [has]
    refine AK.db 0 ?_
    refine Drv.ig k (by omega) (Ao hy) ?_
    refine Drv.ig i (by omega) (Ao hx) ?_
    refine Drv.z ?_
    refine AK.if_ (fun h3=>?_) (fun h3=>?_)
    ·have h3':(y.name==x.name)=true:=h3
     have hin:has ((n.kids.dropLast.take i).map Nd.name) x.name=true:=by
      have e:n.kids.dropLast.take i=n.kids.dropLast.take (k+1)++(n.kids.dropLast.take i).drop (k+1):=by
       conv=>lhs;rw [← List.take_append_drop (k+1) (n.kids.dropLast.take i)]
       rw [List.take_take,Nat.min_eq_left (by omega)]
      rw [e,List.map_append,Abh,hsn,h3'];rfl
     rw [if_pos hin] at hT
     refine AK.ix i (by omega) (Ao hx) ?_
     refine AK.rz Tryz.func97 ?_
     rw [hC,if_neg (by simp [g1]),if_neg (by simp [g2]),hT]
    ·have h3':(y.name==x.name)=false:=h3
     exact IH2 (k+1) ⟨hkl',by rw [hsn,h3']⟩ (by omega) _ _ ⟨vsx (by omega),rfl,rfl,rfl,rfl,rfl,trivial⟩ rfl rfl rfl
   ·have:k=i:=by have:=of_decide_eq_false h2;omega
    subst this
    rw [if_neg (by rw [hno];simp)] at hT
    exact IH (k+1) ⟨by omega,hT⟩ (by omega) _ _ ⟨vsx (by omega),rfl,rfl,rfl,rfl,trivial⟩ rfl rfl rfl
  ·have:i=n.kids.length-1:=by have:=of_decide_eq_false h;rw [hw] at this;omega
   rw [this,← hdl,List.drop_length,List.take_length] at hT
   exact AK.back' 2 0 (h20 g1 g2 (by rw [hT];rfl)) ⟨rfl,rfl,rfl,rfl,trivial⟩ rfl rfl rfl rfl rfl
 have h7:Pw n=false→AK X ⟨97,Tryz.f97,0,0⟩ (Gl false 7 Tryz.f97) (gC v a) ⟨[[Af n],[[vi 0,str []]]],[]⟩
  (fun e S=>e=.ret (.agg [vi (Dd n).1,str (Dd n).2])∧S=⟨[],[]⟩):=fun g1=>by
  refine AK.at_ ?_
  refine AK.ev 100 rfl ?_
  refine AK.while_ (ι:=Nat) 2 0 (fun i=>i≤n.kids.length-1∧bigS n.kids.dropLast=bigS (n.kids.dropLast.drop i)) (fun i=>(5,vi i)::gC v a) (fun _=>⟨[[Af n],[[vi 0,str []]]],[]⟩)
   (fun i=>n.kids.length-i) ?_ 0 ⟨Nat.zero_le _,by simp⟩ ⟨rfl,rfl,rfl,rfl,rfl,trivial⟩
  rintro i ⟨hi,hT⟩ IH
  refine AK.ev 100 rfl ?_
  refine AK.ifj 0 12 (fun h=>?_) (fun h=>?_)
  ·have hlt:i<n.kids.length-1:=by have:=of_decide_eq_true h;rw [hw] at this;omega
   obtain ⟨x,hx⟩:=Aa n.kids (i:=i) (by omega)
   have hx':=hgetD i hlt x hx
   have hd:bigS (n.kids.dropLast.drop i)=(decide (60<x.num)||bigS (n.kids.dropLast.drop (i+1))):=by rw [An hx'];rfl
   rw [hd] at hT
   refine AK.ev 100 rfl ?_
   refine AK.ix i (by omega) (Ao hx) ?_
   refine AK.if_ (fun h2=>?_) (fun h2=>?_)
   ·have h2':decide (60<x.num)=true:=by simpa using of_decide_eq_true h2
    refine AK.rz Tryz.func97 ?_
    rw [hC,if_neg (by simp [g1]),if_pos (by rw [hT,h2'];rfl)]
   ·have h2':decide (60<x.num)=false:=by simpa using of_decide_eq_false h2
    exact IH (i+1) ⟨by omega,by rw [hT,h2'];rfl⟩ (by omega) _ _ ⟨vsx (by omega),rfl,rfl,rfl,rfl,trivial⟩ rfl rfl rfl
  ·have:i=n.kids.length-1:=by have:=of_decide_eq_false h;rw [hw] at this;omega
   rw [this,← hdl,List.drop_length] at hT
   exact AK.back' 2 0 (h12 g1 (by rw [hT];rfl)) ⟨rfl,rfl,rfl,rfl,trivial⟩ rfl rfl rfl rfl rfl
 refine AK.gd (fun h2=>?_) (fun h2=>?_)
 ·have h2':decide (8<v.length)=true:=by have:=of_decide_eq_true h2;rw [hvs] at this;simp;omega
  refine AK.yes ?_
  refine AK.rz Tryz.func97 ?_
  rw [hC,if_pos (by rw [hM,h2'];rfl)]
 ·have h2':decide (8<v.length)=false:=by have:=of_decide_eq_false h2;rw [hvs] at this;simp;omega
  refine AK.ifj 0 7 (fun h3=>?_) (fun h3=>?_)
  ·have h3':decide (4<a.length)=true:=by have:=of_decide_eq_true h3;rw [has'] at this;simp;omega
   refine AK.ev 100 rfl ?_
   refine AK.rz Tryz.func97 ?_
   rw [hC,if_pos (by rw [hM,h2',h3'];rfl)]
  ·have h3':decide (4<a.length)=false:=by have:=of_decide_eq_false h3;rw [has'] at this;simp;omega
   exact AK.back' 2 0 (h7 (by rw [hM,h2',h3'];rfl)) ⟨rfl,rfl,rfl,rfl,trivial⟩ rfl rfl rfl rfl rfl
def Hq (n:Nd):Bool:=(Dd n).1==0
theorem Ahu (n:Nd)(hn:wN n≤100000000):Pure X 47 [nd n] (vb (Hq n)):=by
 refine Pure.run Tryz.func47 ?_
 refine AK.pc (Aqi n hn) ?_
 exact AK.rt Tryz.func47 rfl
end Go.V
namespace Go.V
open Go
section
variable {X:Cx}{S:St}{F:B3}{N:Nat}{ops:Array Oper}{i:Nat}{o:Oper}{p q:Operand}{t t':TypeId}
theorem Ail (hu:X.P.underlying t=some (.interface (X.P.methodsAt t)))(ho:ops[i]?=some o:=by rfl)(hw:A2 ops F o=some true:=by rfl)(hop:o.op=.binOp .eql t p (.const .nilIface) t':=by rfl)
 (hp:Co X F p=some (.val .nilIface):=by rfl):Ndo X N ops i o F (.val (.bool true)) S S:=by
 refine Ndo.val ho hw fun F' E w a hc hI hF=>?_
 rw [hop] at hc
 have r1:=Ah hI hF ((hc p (by simp [Op.operands])).trans hp)
 generalize hx:a.eval p=x at r1
 cases r1
 exact ⟨.bool true,by simp [execOp,hop,hx,show a.eval (.const .nilIface)=.nilIface from rfl,eqGuard,run_eql_nil_nil w t hu],.val _⟩
theorem Ws (hu:X.P.underlying t=some (.interface (X.P.methodsAt t)))(ho:ops[i]?=some o:=by rfl)(hw:A2 ops F o=some true:=by rfl)(hop:o.op=.binOp .eql t p (.const .nilIface) t':=by rfl)
 (hp:Co X F p=some .err:=by rfl):Ndo X N ops i o F (.val (.bool false)) S S:=by
 refine Ndo.val ho hw fun F' E w a hc hI hF=>?_
 rw [hop] at hc
 have r1:=Ah hI hF ((hc p (by simp [Op.operands])).trans hp)
 generalize hx:a.eval p=x at r1
 cases r1
 exact ⟨.bool false,by simp [execOp,hop,hx,show a.eval (.const .nilIface)=.nilIface from rfl,eqGuard,run_eql_held_nil w t _ _ hu],.val _⟩
end
end Go.V
namespace Go.Proofs
open Go.Shelf
def Sm:Go.Shelf.Ren:=⟨fun | 172=>365 | 244=>375 | 245=>376 | 247=>381 | 279=>382 | 280=>383 | 281=>384 | 282=>385 | 287=>390 | 316=>391 | 171=>295 | 205=>392 | 321=>395 | 322=>396 | 243=>313 | 246=>332 | 283=>355 | 284=>356 | 285=>357 | 286=>358 | 129=>370 | 317=>369 | 318=>371 | 319=>372 | 320=>373 | 337=>379 | 338=>380 | n=>n,fun | 9=>9 | 3=>3 | 75=>340 | 76=>341 | 4=>4 | 5=>5 | 167=>381 | 37=>159 | 0=>0 | 85=>382 | 2=>2 | 168=>384 | 53=>361 | 175=>390 | 46=>351 | 210=>394 | 127=>330 | 145=>400 | 143=>398 | 21=>21 | 171=>360 | 173=>364 | 212=>375 | 51=>368 | 20=>20 | 213=>376 | 232=>388 | 233=>389 | 80=>314 | n=>n,fun | 15=>6 | 16=>7 | 17=>2 | 18=>4 | 19=>5 | n=>n⟩
theorem Ml:Go.Proofs.LaysC.n172 Tryz.prog Sm:={
 mixed:=by kernel_rfl,
 f129:=Tryz.func370.trans (congrArg some (by kernel_rfl)),
 f171:=Tryz.func295.trans (congrArg some (by kernel_rfl)),
 f172:=Tryz.func365.trans (congrArg some (by kernel_rfl)),
 f205:=Tryz.func392.trans (congrArg some (by kernel_rfl)),
 f243:=Tryz.func313.trans (congrArg some (by kernel_rfl)),
 f244:=Tryz.func375.trans (congrArg some (by kernel_rfl)),
 f245:=Tryz.func376.trans (congrArg some (by kernel_rfl)),
 f246:=Tryz.func332.trans (congrArg some (by kernel_rfl)),
 f247:=Tryz.func381.trans (congrArg some (by kernel_rfl)),
 f279:=Tryz.func382.trans (congrArg some (by kernel_rfl)),
 f280:=Tryz.func383.trans (congrArg some (by kernel_rfl)),
 f281:=Tryz.func384.trans (congrArg some (by kernel_rfl)),
 f282:=Tryz.func385.trans (congrArg some (by kernel_rfl)),
 f283:=Tryz.func355.trans (congrArg some (by kernel_rfl)),
 f284:=Tryz.func356.trans (congrArg some (by kernel_rfl)),
 f285:=Tryz.func357.trans (congrArg some (by kernel_rfl)),
 f286:=Tryz.func358.trans (congrArg some (by kernel_rfl)),
 f287:=Tryz.func390.trans (congrArg some (by kernel_rfl)),
 f316:=Tryz.func391.trans (congrArg some (by kernel_rfl)),
 f317:=Tryz.func369.trans (congrArg some (by kernel_rfl)),
 f318:=Tryz.func371.trans (congrArg some (by kernel_rfl)),
 f319:=Tryz.func372.trans (congrArg some (by kernel_rfl)),
 f320:=Tryz.func373.trans (congrArg some (by kernel_rfl)),
 f321:=Tryz.func395.trans (congrArg some (by kernel_rfl)),
 f322:=Tryz.func396.trans (congrArg some (by kernel_rfl)),
 f337:=Tryz.func379.trans (congrArg some (by kernel_rfl)),
 f338:=Tryz.func380.trans (congrArg some (by kernel_rfl)),
 t0:=Tryz.underlying0,
 a0:=Tryz.isAgg0,
 z0:=Tryz.sizeOf0,
 v0:=Tryz.zeroValue0,
 t2:=Tryz.underlying2,
 a2:=Tryz.isAgg2,
 z2:=Tryz.sizeOf2,
 v2:=Tryz.zeroValue2,
 t3:=Tryz.underlying3,
 a3:=Tryz.isAgg3,
 z3:=Tryz.sizeOf3,
 v3:=Tryz.zeroValue3,
 t4:=Tryz.underlying4,
 a4:=Tryz.isAgg4,
 z4:=Tryz.sizeOf4,
 v4:=Tryz.zeroValue4,
 t5:=Tryz.underlying5,
 a5:=Tryz.isAgg5,
 z5:=Tryz.sizeOf5,
 v5:=Tryz.zeroValue5,
 t9:=Tryz.underlying9,
 a9:=Tryz.isAgg9,
 z9:=Tryz.sizeOf9,
 v9:=Tryz.zeroValue9,
 t20:=Tryz.underlying20,
 a20:=Tryz.isAgg20,
 z20:=Tryz.sizeOf20,
 v20:=Tryz.zeroValue20,
 t21:=Tryz.underlying21,
 a21:=Tryz.isAgg21,
 z21:=Tryz.sizeOf21,
 v21:=Tryz.zeroValue21,
 t37:=Tryz.underlying159,
 a37:=Tryz.isAgg159,
 z37:=Tryz.sizeOf159,
 v37:=Tryz.zeroValue159,
 t46:=Tryz.underlying351,
 a46:=Tryz.isAgg351,
 z46:=Tryz.sizeOf351,
 v46:=Tryz.zeroValue351,
 t51:=Tryz.underlying368,
 a51:=Tryz.isAgg368,
 z51:=Tryz.sizeOf368,
 v51:=Tryz.zeroValue368,
 t53:=Tryz.underlying361,
 a53:=Tryz.isAgg361,
 z53:=Tryz.sizeOf361,
 v53:=Tryz.zeroValue361,
 t75:=Tryz.underlying340,
 a75:=Tryz.isAgg340,
 z75:=Tryz.sizeOf340,
 v75:=Tryz.zeroValue340,
 t76:=Tryz.underlying341,
 a76:=Tryz.isAgg341,
 z76:=Tryz.sizeOf341,
 v76:=Tryz.zeroValue341,
 t85:=Tryz.underlying382,
 a85:=Tryz.isAgg382,
 z85:=Tryz.sizeOf382,
 v85:=Tryz.zeroValue382,
 t127:=Tryz.underlying330,
 a127:=Tryz.isAgg330,
 z127:=Tryz.sizeOf330,
 v127:=Tryz.zeroValue330,
 t143:=Tryz.underlying398,
 a143:=Tryz.isAgg398,
 z143:=Tryz.sizeOf398,
 v143:=Tryz.zeroValue398,
 t145:=Tryz.underlying400,
 a145:=Tryz.isAgg400,
 z145:=Tryz.sizeOf400,
 v145:=Tryz.zeroValue400,
 t167:=Tryz.underlying381,
 a167:=Tryz.isAgg381,
 z167:=Tryz.sizeOf381,
 v167:=Tryz.zeroValue381,
 t168:=Tryz.underlying384,
 a168:=Tryz.isAgg384,
 z168:=Tryz.sizeOf384,
 v168:=Tryz.zeroValue384,
 t171:=Tryz.underlying360,
 a171:=Tryz.isAgg360,
 z171:=Tryz.sizeOf360,
 v171:=Tryz.zeroValue360,
 t173:=Tryz.underlying364,
 a173:=Tryz.isAgg364,
 z173:=Tryz.sizeOf364,
 v173:=Tryz.zeroValue364,
 t175:=Tryz.underlying390,
 a175:=Tryz.isAgg390,
 z175:=Tryz.sizeOf390,
 v175:=Tryz.zeroValue390,
 t210:=Tryz.underlying394,
 a210:=Tryz.isAgg394,
 z210:=Tryz.sizeOf394,
 v210:=Tryz.zeroValue394,
 t212:=Tryz.underlying375,
 a212:=Tryz.isAgg375,
 z212:=Tryz.sizeOf375,
 v212:=Tryz.zeroValue375,
 t213:=Tryz.underlying376,
 a213:=Tryz.isAgg376,
 z213:=Tryz.sizeOf376,
 t232:=Tryz.underlying388,
 a232:=Tryz.isAgg388,
 z232:=Tryz.sizeOf388,
 v232:=Tryz.zeroValue388,
 t233:=Tryz.underlying389,
 a233:=Tryz.isAgg389,
 z233:=Tryz.sizeOf389,
 v233:=Tryz.zeroValue389,
 g15:=by kernel_rfl,
 g16:=by kernel_rfl,
 g17:=by kernel_rfl,
 g18:=by kernel_rfl,
 g19:=by kernel_rfl,
 t80:=Tryz.underlying314,
 a80:=Tryz.isAgg314,
 z80:=Tryz.sizeOf314,
 v80:=Tryz.zeroValue314,
 i0:=by kernel_rfl,
 i2:=by kernel_rfl,
 i3:=by kernel_rfl,
 i4:=by kernel_rfl,
 i5:=by kernel_rfl,
 i9:=by kernel_rfl,
 i20:=by kernel_rfl,
 i21:=by kernel_rfl,
 i37:=by kernel_rfl,
 i46:=by kernel_rfl,
 i51:=by kernel_rfl,
 i53:=by kernel_rfl,
 i75:=by kernel_rfl,
 i76:=by kernel_rfl,
 i80:=by kernel_rfl,
 i85:=by kernel_rfl,
 i127:=by kernel_rfl,
 i143:=by kernel_rfl,
 i145:=by kernel_rfl,
 i167:=by kernel_rfl,
 i168:=by kernel_rfl,
 i171:=by kernel_rfl,
 i173:=by kernel_rfl,
 i175:=by kernel_rfl,
 i210:=by kernel_rfl,
 i212:=by kernel_rfl,
 i232:=by kernel_rfl,
 i233:=by kernel_rfl,
 m15:=by kernel_rfl,
 m16:=by kernel_rfl,
 m17:=by kernel_rfl,
 m18:=by kernel_rfl,
 m19:=by kernel_rfl,
 c0:=by kernel_rfl,
 c2:=by kernel_rfl,
 c3:=by kernel_rfl,
 c4:=by kernel_rfl,
 c5:=by kernel_rfl,
 c9:=by kernel_rfl,
 c20:=by kernel_rfl,
 c21:=by kernel_rfl,
 c37:=by kernel_rfl,
 c46:=by kernel_rfl,
 c51:=by kernel_rfl,
 c53:=by kernel_rfl,
 c75:=by kernel_rfl,
 c76:=by kernel_rfl,
 c80:=by kernel_rfl,
 c85:=by kernel_rfl,
 c127:=by kernel_rfl,
 c143:=by kernel_rfl,
 c145:=by kernel_rfl,
 c167:=by kernel_rfl,
 c168:=by kernel_rfl,
 c171:=by kernel_rfl,
 c173:=by kernel_rfl,
 c175:=by kernel_rfl,
 c210:=by kernel_rfl,
 c212:=by kernel_rfl,
 c213:=by kernel_rfl,
 c232:=by kernel_rfl,
 c233:=by kernel_rfl }
def Sn:Go.Shelf.Ren:=⟨fun | 171=>295 | 243=>313 | 246=>332 | 283=>355 | 284=>356 | 285=>357 | 286=>358 | 129=>370 | 317=>369 | 318=>371 | 319=>372 | 320=>373 | 337=>379 | 338=>380 | n=>n,fun | 3=>3 | 9=>9 | 2=>2 | 4=>4 | 171=>360 | 0=>0 | 53=>361 | 37=>159 | 5=>5 | 173=>364 | 212=>375 | 51=>368 | 20=>20 | 213=>376 | 46=>351 | 232=>388 | 233=>389 | n=>n,fun | 17=>2 | 18=>4 | 19=>5 | n=>n⟩
theorem Yg:Go.Proofs.LaysM.n171 Tryz.prog Sn:={
 mixed:=by kernel_rfl,
 f129:=Tryz.func370.trans (congrArg some (by kernel_rfl)),
 f171:=Tryz.func295.trans (congrArg some (by kernel_rfl)),
 f243:=Tryz.func313.trans (congrArg some (by kernel_rfl)),
 f246:=Tryz.func332.trans (congrArg some (by kernel_rfl)),
 f283:=Tryz.func355.trans (congrArg some (by kernel_rfl)),
 f284:=Tryz.func356.trans (congrArg some (by kernel_rfl)),
 f285:=Tryz.func357.trans (congrArg some (by kernel_rfl)),
 f286:=Tryz.func358.trans (congrArg some (by kernel_rfl)),
 f317:=Tryz.func369.trans (congrArg some (by kernel_rfl)),
 f318:=Tryz.func371.trans (congrArg some (by kernel_rfl)),
 f319:=Tryz.func372.trans (congrArg some (by kernel_rfl)),
 f320:=Tryz.func373.trans (congrArg some (by kernel_rfl)),
 f337:=Tryz.func379.trans (congrArg some (by kernel_rfl)),
 f338:=Tryz.func380.trans (congrArg some (by kernel_rfl)),
 t0:=Tryz.underlying0,
 a0:=Tryz.isAgg0,
 z0:=Tryz.sizeOf0,
 v0:=Tryz.zeroValue0,
 t2:=Tryz.underlying2,
 a2:=Tryz.isAgg2,
 z2:=Tryz.sizeOf2,
 v2:=Tryz.zeroValue2,
 t3:=Tryz.underlying3,
 a3:=Tryz.isAgg3,
 z3:=Tryz.sizeOf3,
 v3:=Tryz.zeroValue3,
 t4:=Tryz.underlying4,
 a4:=Tryz.isAgg4,
 z4:=Tryz.sizeOf4,
 v4:=Tryz.zeroValue4,
 t5:=Tryz.underlying5,
 a5:=Tryz.isAgg5,
 z5:=Tryz.sizeOf5,
 v5:=Tryz.zeroValue5,
 t9:=Tryz.underlying9,
 a9:=Tryz.isAgg9,
 z9:=Tryz.sizeOf9,
 v9:=Tryz.zeroValue9,
 t20:=Tryz.underlying20,
 a20:=Tryz.isAgg20,
 z20:=Tryz.sizeOf20,
 v20:=Tryz.zeroValue20,
 t37:=Tryz.underlying159,
 a37:=Tryz.isAgg159,
 z37:=Tryz.sizeOf159,
 v37:=Tryz.zeroValue159,
 t46:=Tryz.underlying351,
 a46:=Tryz.isAgg351,
 z46:=Tryz.sizeOf351,
 v46:=Tryz.zeroValue351,
 t51:=Tryz.underlying368,
 a51:=Tryz.isAgg368,
 z51:=Tryz.sizeOf368,
 v51:=Tryz.zeroValue368,
 t53:=Tryz.underlying361,
 a53:=Tryz.isAgg361,
 z53:=Tryz.sizeOf361,
 v53:=Tryz.zeroValue361,
 t171:=Tryz.underlying360,
 a171:=Tryz.isAgg360,
 z171:=Tryz.sizeOf360,
 v171:=Tryz.zeroValue360,
 t173:=Tryz.underlying364,
 a173:=Tryz.isAgg364,
 z173:=Tryz.sizeOf364,
 v173:=Tryz.zeroValue364,
 t212:=Tryz.underlying375,
 a212:=Tryz.isAgg375,
 z212:=Tryz.sizeOf375,
 v212:=Tryz.zeroValue375,
 t213:=Tryz.underlying376,
 a213:=Tryz.isAgg376,
 z213:=Tryz.sizeOf376,
 t232:=Tryz.underlying388,
 a232:=Tryz.isAgg388,
 z232:=Tryz.sizeOf388,
 v232:=Tryz.zeroValue388,
 t233:=Tryz.underlying389,
 a233:=Tryz.isAgg389,
 z233:=Tryz.sizeOf389,
 v233:=Tryz.zeroValue389,
 g17:=by kernel_rfl,
 g18:=by kernel_rfl,
 g19:=by kernel_rfl,
 i0:=by kernel_rfl,
 i2:=by kernel_rfl,
 i3:=by kernel_rfl,
 i4:=by kernel_rfl,
 i5:=by kernel_rfl,
 i9:=by kernel_rfl,
 i20:=by kernel_rfl,
 i37:=by kernel_rfl,
 i46:=by kernel_rfl,
 i51:=by kernel_rfl,
 i53:=by kernel_rfl,
 i171:=by kernel_rfl,
 i173:=by kernel_rfl,
 i212:=by kernel_rfl,
 i232:=by kernel_rfl,
 i233:=by kernel_rfl,
 m17:=by kernel_rfl,
 m18:=by kernel_rfl,
 m19:=by kernel_rfl }
end Go.Proofs
namespace Go.V
open Go Go.Proofs
theorem Afs (n:Int)(h0:-9223372036854775808≤n)(h1:n≤9223372036854775807):Pure X 295 [vi n] (str (Lib.itoa n)):=by
 refine Rj (vs:=[.int .i64 n]) ⟨_,Tryz.func295,by kernel_rfl,by rfl⟩ rfl fun w hw=>?_
 obtain ⟨e,z,ht⟩:=hw.tab
 have hg:(X.P.globalNamed "internal/strconv.uint64pow10")=some 2:=by kernel_rfl
 have htab:Lib.TabIs X.P w "internal/strconv.uint64pow10" .u64 Lib.pow10Tab:=by
  unfold Lib.TabIs World.var?
  rw [hg];simp [ht]
 have h:=Any.strconv_Itoa Yg n h0 h1 w htab
 refine h.mono fun e w' he=>?_
 obtain ⟨rfl,k,os,rfl⟩:=he
 refine ⟨⟨_,rfl,fun E w=>.val _⟩,rfl,rfl,rfl,?_,fun j hj=>?_⟩
 ·simp [Sort.grow,World.drewN]
 ·simp only [Sort.grow,World.drewN]
  rw [Array.getElem?_append_left hj]
def Le (s:List UInt8):Int:=match Lib.atoiAll s with
 | .ok v=>v
 | .range=>Lib.atoiSat s
 | _=>0
def Wu (s:List UInt8):AV:=match Lib.atoiAll s with
 | .ok _=>.val .nilIface
 | _=>.err
theorem Auv (s:List UInt8)(hs:s.length≤1000000000):Pure X 365 [str s] (.tup [vi (Le s),Wu s]):=by
 refine Rj (vs:=[.string ⟨⟨s⟩⟩]) ⟨_,Tryz.func365,by kernel_rfl,by rfl⟩ rfl fun w hw=>?_
 have hsz:(⟨⟨s⟩⟩:ByteArray).size=s.length:=rfl
 have tup:∀ (a b:Value) (x:AV),(∀ E w,Rel E w b x)→∀ E w,Rel E w (.tuple #[a,b]) (.tup [.val a,x]):=fun a b x h E w=>by
  refine .tup _ _ rfl fun j v y hv hy=>?_
  match j with
  | 0=>simp at hv hy;subst hv;subst hy;exact .val _
  | 1=>simp at hv hy;subst hv;subst hy;exact h E w
  | j+2=>simp at hy
 cases h:Lib.atoiAll s with
 | ok v =>
   have hc:=Any.strconv_Atoi_ok Ml ⟨⟨s⟩⟩ (by rw [hsz];omega) v h w
   refine hc.mono fun e w' he=>?_
   obtain ⟨rfl,hw'⟩:=he
   refine ⟨⟨_,rfl,?_⟩,?_⟩
   ·simp only [Le,Wu,h];exact tup _ _ _ fun E w=>.val _
   ·rcases hw' with rfl | ⟨t,rfl⟩
    ·exact RowKit.Below.refl _ _
    ·exact Lib.bytesWorld_below _ _ _
 | range =>
   obtain ⟨ev,h1,h2⟩:=hw.rng
   have hc:=Any.strconv_Atoi_range Ml ⟨⟨s⟩⟩ (by rw [hsz];omega) h ev w h1 h2
   refine hc.mono fun e w' he=>?_
   obtain ⟨N,rfl,_,_,hb⟩:=he
   refine ⟨⟨_,rfl,?_⟩,hb⟩
   simp only [Le,Wu,h];exact tup _ _ _ fun E w=>.err _ _
 | _ =>
   obtain ⟨ev,h1,h2⟩:=hw.syn
   have hc:=Any.strconv_Atoi_syntax Ml ⟨⟨s⟩⟩ (by rw [hsz];omega) h ev w h1 h2
   refine hc.mono fun e w' he=>?_
   obtain ⟨N,rfl,_,_,hb⟩:=he
   refine ⟨⟨_,rfl,?_⟩,hb⟩
   simp only [Le,Wu,h];exact tup _ _ _ fun E w=>.err _ _
def Pk (l:List UInt8):Bool:=l.all digit
def Lq (n:Nat)(l:List UInt8):Nat:=l.foldl (fun a c=>10*a+(c.toNat-48)) n
theorem Asl (l:List UInt8):∀ n,n≤Lq n l:=by
 induction l with
 | nil=>intro n;simp [Lq]
 | cons c l ih=>intro n;have:=ih (10*n+(c.toNat-48));simp only [Lq,List.foldl_cons] at this ⊢;omega
theorem Ih {c:UInt8}(h:digit c=true):48≤c.toNat∧c.toNat≤57:=by have:=Vg h;omega
theorem Ut:∀ (l:List UInt8)(n:Nat),Ni n l=if Pk l then (if Lq n l > 1000000 then -1 else (Lq n l:Int)) else -1
 | [],n=>by
   have e:Ni n []=if (n:Int) > 1000000 then -1 else (n:Int):=rfl
   have e2:Lq n []=n:=rfl
   have e3:Pk []=true:=rfl
   rw [e,e2,e3,if_pos rfl]
   by_cases h:n > 1000000
   ·rw [if_pos h,if_pos (by omega)]
   ·rw [if_neg h,if_neg (by omega)]
 | c::l,n=>by
   simp only [Ni]
   by_cases hc:digit c=true
   ·rw [if_pos hc]
    have hd:=Ih hc
    have:=Ut l (10*n+(c.toNat-48))
    rw [show (10*(n:Int)+c.toNat-48)=((10*n+(c.toNat-48):Nat):Int) by omega,this]
    simp only [Pk,List.all_cons,hc,Bool.true_and,Lq,List.foldl_cons]
    rfl
   ·rw [if_neg hc]
    have hc':digit c=false:=by simpa using hc
    simp [Pk,hc']
theorem Aae (l:List UInt8)(c:UInt8)(n:Nat):Lq n (l++[c])=10*Lq n l+(c.toNat-48):=by simp [Lq]
theorem Pl (n:Nat):Pk (Ja n)=true:=by
 induction n using Nat.strongRecOn with
 | ind n ih =>
   unfold Ja
   have hd:∀ k,k<10→digit (UInt8.ofNat (48+k))=true:=fun k hk=>by
    have:k=0∨k=1∨k=2∨k=3∨k=4∨k=5∨k=6∨k=7∨k=8∨k=9:=by omega
    rcases this with rfl | rfl | rfl | rfl | rfl | rfl | rfl | rfl | rfl | rfl<;>decide
   split
   ·rename_i h
    have:=hd n h
    simp only [Pk,List.all_cons,List.all_nil,Bool.and_true];exact this
   ·have:=ih (n / 10) (by omega)
    simp only [Pk,List.all_append,List.all_cons,List.all_nil,Bool.and_true] at this ⊢
    rw [this,hd _ (by omega)];rfl
theorem Pj (k:Nat)(hk:k<10):(UInt8.ofNat (48+k)).toNat=48+k:=by
 simp;omega
theorem Aee (n:Nat):Lq 0 (Ja n)=n:=by
 induction n using Nat.strongRecOn with
 | ind n ih =>
   unfold Ja
   split
   ·rename_i h
    simp only [Lq,List.foldl_cons,List.foldl_nil]
    rw [Pj n h];omega
   ·rw [Aae,ih (n / 10) (by omega),Pj _ (by omega)];omega
theorem Agw:∀ (q:Nat)(l:List UInt8),l.length=q+1→Pk l=true→(l.length=1∨l.head?≠some 48)→Ja (Lq 0 l)=l
 | 0,l,hl,hd,_=>by
   match l,hl with
   | [c],_ =>
     have hc:digit c=true:=by simpa [Pk] using hd
     have:=Ih hc
     simp only [Lq,List.foldl_cons,List.foldl_nil]
     unfold Ja
     rw [if_pos (by omega)]
     congr 1
     apply UInt8.toNat_inj.1
     rw [Pj _ (by omega)];omega
 | q+1,l,hl,hd,h0=>by
   have hne:l≠[]:=by rintro rfl;simp at hl
   obtain ⟨l',c,rfl⟩:∃ l' c,l=l'++[c]:=⟨l.dropLast,l.getLast hne,(List.dropLast_concat_getLast hne).symm⟩
   simp at hl
   have hl':l'.length=q+1:=by omega
   simp only [Pk,List.all_append,Bool.and_eq_true,List.all_cons,List.all_nil,Bool.and_true] at hd
   have hc:=Ih hd.2
   have hhead:l'.head?≠some 48:=by
    rcases h0 with h | h
    ·rw [List.length_append,hl'] at h;simp at h
    ·cases l' with
     | nil=>simp at hl'
     | cons y l'=>simpa using h
   have ih:=Agw q l' hl' hd.1 (.inr hhead)
   have hpos:1≤Lq 0 l':=by
    cases l' with
    | nil=>simp at hl'
    | cons y l' =>
      simp only [Pk,List.all_cons,Bool.and_eq_true] at hd
      have hy:=Ih hd.1.1
      have:y.toNat≠48:=fun h=>hhead (by simp;exact UInt8.toNat_inj.1 h)
      have:=Asl l' (10*0+(y.toNat-48))
      simp only [Lq,List.foldl_cons] at this ⊢;omega
   rw [Aae]
   unfold Ja
   rw [if_neg (by omega),show (10*Lq 0 l'+(c.toNat-48)) / 10=Lq 0 l' by omega,ih,show (10*Lq 0 l'+(c.toNat-48)) % 10=c.toNat-48 by omega]
   congr 2
   apply UInt8.toNat_inj.1
   rw [Pj _ (by omega)];omega
theorem Aay (n:Nat):Lib.decDigits n=Ja n:=by
 induction n using Nat.strongRecOn with
 | ind n ih =>
   unfold Ja
   rw [Lib.decDigits]
   split
   ·rfl
   ·rw [ih (n / 10) (by omega)]
theorem Me (s:List UInt8):0≤Cb s↔∃ n:Nat,n≤1000000∧s=Ja n∧Cb s=n:=by
 constructor
 ·intro h
  cases s with
  | nil=>simp [Cb] at h
  | cons c l =>
    simp only [Cb] at h ⊢
    split at h
    ·omega
    ·rename_i h1
     split at h
     ·omega
     ·rename_i h2
      rw [if_neg h1,if_neg h2]
      have hv:=Ut (c::l) 0
      simp only [Int.ofNat_zero] at hv
      rw [hv] at h ⊢
      split at h
      ·rename_i hd
       rw [if_pos hd]
       split at h
       ·omega
       ·rename_i hle
        rw [if_neg hle]
        refine ⟨Lq 0 (c::l),by omega,?_,rfl⟩
        refine (Agw l.length (c::l) (by simp) hd ?_).symm
        simp only [Bool.and_eq_true,decide_eq_true_eq,beq_iff_eq,not_and] at h2
        by_cases hl:l.length > 0
        ·right;simp;exact h2 hl
        ·have:l=[]:=List.eq_nil_of_length_eq_zero (by omega)
         subst this;left;rfl
      ·omega
 ·rintro ⟨n,_,_,h⟩;omega
theorem Aln (n:Nat)(h:10≤n):(Ja n).head?≠some 48:=by
 induction n using Nat.strongRecOn with
 | ind n ih =>
   unfold Ja
   rw [if_neg (by omega)]
   have hne:Ja (n / 10)≠[]:=by unfold Ja;split<;>simp
   have ih':(Ja (n / 10)).head?≠some 48:=by
    by_cases h2:10≤n / 10
    ·exact ih (n / 10) (by omega) h2
    ·unfold Ja
     rw [if_pos (by omega)]
     intro h
     have:=congrArg UInt8.toNat (Option.some.inj h)
     rw [Pj _ (by omega)] at this
     simp at this
     omega
   cases hq:Ja (n / 10) with
   | nil=>exact absurd hq hne
   | cons y l=>rw [hq] at ih';simpa using ih'
theorem Aaz (n:Nat):1≤(Ja n).length:=by
 unfold Ja;split<;>simp
theorem Md (n:Nat)(h:n≤1000000):Cb (Ja n)=n:=by
 have hl:=Qn n h
 have hp:=Aaz n
 have hv:=Ut (Ja n) 0
 rw [Pl,if_pos rfl,Aee,if_neg (by omega)] at hv
 cases hs:Ja n with
 | nil=>rw [hs] at hp;simp at hp
 | cons c l =>
   rw [hs] at hl hv
   simp at hl
   simp only [Cb]
   rw [if_neg (by omega)]
   have:¬ ((decide (l.length > 0)&&c==48)=true):=by
    simp only [Bool.and_eq_true,decide_eq_true_eq,beq_iff_eq,not_and]
    intro h1 h2
    have h10:10≤n:=by
     rcases Nat.lt_or_ge n 10 with h' | h'
     ·unfold Ja at hs;rw [if_pos h'] at hs;simp at hs;rw [hs.2] at h1;simp at h1
     ·exact h'
    have:=Aln n h10
    rw [hs] at this
    simp at this
    exact this h2
   rw [if_neg this]
   exact hv
theorem Vd:∀ (l:List UInt8)(n:Nat),Pk l=true→Lib.decFrom n l=some (Lq n l)
 | [],n,_=>by simp [Lib.decFrom,Lq]
 | c::l,n,h=>by
   simp only [Pk,List.all_cons,Bool.and_eq_true] at h
   have hc:=Ih h.1
   have hd:Lib.digitVal c=some (c.toNat-48):=by unfold Lib.digitVal;rw [if_pos (by omega)]
   simp only [Lib.decFrom,hd]
   rw [Vd l _ h.2]
   simp only [Lq,List.foldl_cons]
   rw [Nat.mul_comm]
theorem Alb (n:Nat)(h:n≤1000000):Lib.atoiAll (Ja n)=.ok (n:Int):=by
 have hl:=Qn n h
 have hp:=Aaz n
 have hd:=Pl n
 have hv:=Aee n
 rw [Lib.atoiAll_short _ (by omega)]
 cases hs:Ja n with
 | nil=>rw [hs] at hp;simp at hp
 | cons c l =>
   rw [hs] at hd hv
   have hc:digit c=true:=by simp only [Pk,List.all_cons,Bool.and_eq_true] at hd;exact hd.1
   have hr:=Ih hc
   have h45:(c==45)=false:=by rw [beq_eq_false_iff_ne];rintro rfl;simp at hr
   have h43:(c==43)=false:=by rw [beq_eq_false_iff_ne];rintro rfl;simp at hr
   simp only [Lib.atoi,h45,h43,Lib.decNat,Vd _ 0 hd,hv]
   rfl
def Nl (s:List UInt8):Bool:=match Lib.atoiAll s with
 | .ok v=>Lib.itoa v==s
 | _=>false
theorem Zz {s:List UInt8}{n:Nat}(h:n≤1000000)(hs:s=Ja n):Nl s=true∧Le s=n:=by
 subst hs
 simp only [Nl,Le,Alb n h]
 have:Lib.itoa (n:Int)=Ja n:=by unfold Lib.itoa;rw [if_neg (by omega),Int.toNat_natCast,Aay]
 simp [this]
theorem Ajy (c:UInt8)(l:List UInt8)(hc:digit c=true):(Nl (c::l)&&decide (Le (c::l)≤1000000))=decide (0≤Cb (c::l)):=by
 rw [Bool.eq_iff_iff]
 simp only [Bool.and_eq_true,decide_eq_true_eq]
 rw [Me]
 constructor
 ·rintro ⟨h1,h2⟩
  cases h:Lib.atoiAll (c::l) with
  | ok v =>
    simp only [Nl,Le,h,beq_iff_eq] at h1 h2
    have h1:=h1.symm
    have hv:¬ v<0:=fun hv=>by
     unfold Lib.itoa at h1
     rw [if_pos hv] at h1
     simp at h1
     have:=Ih hc
     rw [h1.1] at this
     simp at this
    obtain ⟨n,rfl⟩:∃ n:Nat,v=n:=⟨v.toNat,by omega⟩
    unfold Lib.itoa at h1
    rw [if_neg hv,Int.toNat_natCast,Aay] at h1
    exact ⟨n,by omega,h1,by rw [h1];exact Md n (by omega)⟩
  | range=>simp [Nl,h] at h1
  | _=>simp [Nl,h] at h1
 ·rintro ⟨n,hn,hs,_⟩
  obtain ⟨a,b⟩:=Zz hn hs
  exact ⟨a,by rw [b];omega⟩
theorem Zy (s:List UInt8)(hs:s.length≤1000000000):Pure X 343 [str s] (.tup [vi (Le s),vb (Nl s)]):=by
 have hu:X.P.underlying 340=some (.interface (X.P.methodsAt 340)):=by kernel_rfl
 have ha:=Auv s hs
 refine Pure.run Tryz.func343 ?_
 cases h:Lib.atoiAll s with
 | ok v =>
   simp only [Le,Wu,Nl,h] at ha ⊢
   obtain ⟨b0,b1⟩:=Lib.atoiAll_bounds h
   refine AK.pc ha ?_
   refine AK.op (Ail hu) ?_
   refine AK.gy ?_
   refine AK.pc (Afs v (by omega) (by omega)) ?_
   exact AK.rt Tryz.func343 rfl
 | range =>
   simp only [Le,Wu,Nl,h] at ha ⊢
   refine AK.pc ha ?_
   refine AK.op (Ws hu) ?_
   refine AK.gn ?_
   exact AK.rt Tryz.func343 rfl
 | _ =>
   simp only [Le,Wu,Nl,h] at ha ⊢
   refine AK.pc ha ?_
   refine AK.op (Ws hu) ?_
   refine AK.gn ?_
   exact AK.rt Tryz.func343 rfl
theorem Adw (s:List UInt8)(c:UInt8):Pure X 386 [str s,vc c] (vi (Lib.indexByte s c)):=by
 have hr:∀ w,(callFunc 393 ⟨[.string ⟨⟨s⟩⟩,.int .u8 c.toNat]⟩).run X.P w=.ok (.value (.int .i64 (Lib.indexByte s c))) w:=fun w=>by
  refine (run_callFunc_extern Tryz.func393 (by kernel_rfl) (by kernel_rfl) (by kernel_rfl) (e:=Extern.BytealgIndexByte.indexByte) (by kernel_rfl) _ w).trans ?_
  have:=Lib.run_indexByteString (P:=Tryz.prog) ⟨⟨s⟩⟩ (c.toNat:Int) w
  have e:((c.toNat:Int)).toNat.toUInt8=c:=by simp
  rw [e] at this
  rw [show (⟨[.string ⟨⟨s⟩⟩,.int .u8 c.toNat]⟩:Array Value)=#[.string ⟨⟨s⟩⟩,.int .u8 c.toNat] from rfl,this]
  rfl
 refine Pure.run Tryz.func386 ?_
 refine AK.op (Aeq hr) ?_
 exact AK.rt Tryz.func386 rfl
theorem Ajx (s:List UInt8)(c:UInt8):Pure X 377 [str s,str [c]] (vi (Lib.indexByte s c)):=by
 refine Pure.run Tryz.func377 ?_
 refine AK.gn ?_
 refine AK.if_ (fun h=>?_) (fun h=>?_)
 ·have h':([c]==s)=true:=h
  have:s=[c]:=by rw [beq_iff_eq] at h';exact h'.symm
  subst this
  refine AK.rt Tryz.func377 ?_
  simp [Lib.indexByte,B1]
 ·refine AK.yes ?_
  refine AK.by 0 (by omega) (b:=c) rfl ?_
  refine AK.pc (Adw s c) ?_
  exact AK.rt Tryz.func377 rfl
theorem Ans (s:List UInt8)(c:UInt8):Pure X 366 [str s,str [c]] (vi (Lib.indexByte s c)):=by
 refine Pure.run Tryz.func366 ?_
 refine AK.pc (Ajx s c) ?_
 exact AK.rt Tryz.func366 rfl
theorem Adt (s:List UInt8)(c:UInt8):Pure X 345 [str s,str [c]] (vb (decide (Lib.indexByte s c≥0))):=by
 refine Pure.run Tryz.func345 ?_
 refine AK.pc (Ans s c) ?_
 exact AK.rt Tryz.func345 rfl
def oneSigns:List UInt8:=[43,45,42,40,41,91,93,123,125,59,61,60,62,63]
def H1:List (List UInt8):=[[61,61],[33,61],[60,61],[62,61]]
theorem Rl (l:List UInt8)(c:UInt8):decide (Lib.indexByte l c≥0)=l.contains c:=by
 induction l with
 | nil=>rfl
 | cons b l ih =>
   unfold Lib.indexByte
   by_cases h:b=c
   ·subst h;simp
   ·have h':(b==c)=false:=by simpa using h
    have h2:(c==b)=false:=by simpa using Ne.symm h
    rw [h']
    simp only [Bool.false_eq_true,if_false,List.contains_cons,h2,Bool.false_or,← ih]
    have:=Lib.indexByte_ge l c
    split
    ·rename_i h3
     have:Lib.indexByte l c=-1:=by simpa using h3
     rw [this]
    ·rename_i h3
     have:Lib.indexByte l c≠-1:=by simpa using h3
     by_cases h4:Lib.indexByte l c≥0
     ·simp [h4];omega
     ·omega
theorem Xf (c:UInt8)(l:List UInt8)(h1:Ct c=false)(h2:digit c=false):B6 (c::l)=if has H1 (c::l)||(l.isEmpty&&oneSigns.contains c) then 3 else 0:=by
 have k1:has Ps (c::l)=false:=by
  simp only [has,Ps,List.any_cons,List.any_nil,Bool.or_false,Bool.or_eq_false_iff,beq_eq_false_iff_ne]
  refine ⟨?_,?_,?_,?_,?_,?_,?_,?_,?_,?_,?_,?_,?_⟩<;>(intro h;injection h with h _;subst h;revert h1;decide)
 have k2:nameS (c::l)=false:=by simp [nameS,h1]
 have k3:¬ Cb (c::l)≥0:=by
  intro h
  obtain ⟨n,_,hs,_⟩:=(Me _).1 h
  have:=Pl n
  rw [← hs] at this
  simp only [Pk,List.all_cons,h2,Bool.false_and] at this
  cases this
 simp only [B6,k1,k2]
 rw [if_neg (by simp),if_neg (by simp),if_neg k3]
 have:has Hl (c::l)=(has H1 (c::l)||(l.isEmpty&&oneSigns.contains c)):=by
  cases l with
  | nil =>
    simp only [has,Hl,H1,oneSigns,List.any_cons,List.any_nil,List.contains_cons,List.contains_nil,List.isEmpty_nil,Bool.true_and,Bool.or_false]
    have e:∀ a:UInt8,(a==c)=(c==a):=fun a=>by rw [Bool.eq_iff_iff,beq_iff_eq,beq_iff_eq];exact eq_comm
    simp [e,Bool.or_assoc]
  | cons d l =>
    simp only [has,Hl,H1,List.any_cons,List.any_nil,List.isEmpty_cons,Bool.false_and,Bool.or_false]
    simp
 rw [this]
theorem Ady (s:List UInt8)(hs:s.length≤1000000000):Pure X 320 [str s] (vi (B6 s)):=by
 cases s with
 | nil =>
   refine Pure.run Tryz.func320 ?_
   refine AK.yes ?_
   refine AK.rt Tryz.func320 ?_
   rfl
 | cons c l =>
   simp only [List.length_cons] at hs
   have hsz:((⟨⟨c::l⟩⟩:ByteArray).size:Int)=l.length+1:=J3 c l
   refine Pure.run Tryz.func320 ?_
   refine AK.no ?_
   refine AK.pc (Aq8 (c::l)) ?_
   refine AK.if_ (fun h1=>?_) (fun h1=>?_)
   ·have h1':has Ps (c::l)=true:=h1
    refine AK.rt Tryz.func320 ?_
    simp [B6,h1',B1]
   have h1':has Ps (c::l)=false:=h1
   refine AK.by 0 (by omega) (b:=c) rfl ?_
   refine AK.pc (Xy c) ?_
   refine AK.if_ (fun h2=>?_) (fun h2=>?_)
   ·have h2':Ct c=true:=h2
    have hk:B6 (c::l)=if Nt (c::l)&&decide (l.length<8) then 1 else 0:=by
     have hn:nameS (c::l)=(Nt (c::l)&&decide (l.length<8)):=by simp [nameS,h1',h2',Bool.and_comm]
     have hd:digit c=false:=by
      simp only [Ct,digit,Aj,Bool.and_eq_true,decide_eq_true_eq,Bool.and_eq_false_iff,decide_eq_false_iff_not] at h2' ⊢
      omega
     have k3:¬ Cb (c::l)≥0:=by
      intro h
      obtain ⟨n,_,hs,_⟩:=(Me _).1 h
      have:=Pl n
      rw [← hs] at this
      simp only [Pk,List.all_cons,hd,Bool.false_and] at this
      cases this
     have k4:has Hl (c::l)=false:=by
      simp only [has,Hl,List.any_cons,List.any_nil,Bool.or_false,Bool.or_eq_false_iff,beq_eq_false_iff_ne]
      refine ⟨?_,?_,?_,?_,?_,?_,?_,?_,?_,?_,?_,?_,?_,?_,?_,?_,?_,?_⟩<;>(intro h;injection h with h _;subst h;revert h2';decide)
     simp only [B6,h1',hn]
     rw [if_neg (by simp)]
     split
     ·rfl
     ·first | (rw [if_neg k3,k4];rfl) | (rw [k4];rfl)
    rw [hk]
    generalize hT:Nt (c::l)=T
    refine AK.while_ (ι:=Nat) 0 0 (fun i=>i≤l.length+1∧T=Nt ((c::l).drop i)) (fun i=>[(18,vi i),(17,vi (l.length+1)),(0,str (c::l))]) (fun _=>⟨[],[]⟩) (fun i=>l.length+1-i) ?_ 0 ⟨Nat.zero_le _,hT.symm⟩
     ⟨rfl,by rw [← hsz];rfl,rfl,trivial⟩
    rintro i ⟨hi,hTi⟩ IH
    refine AK.ei (fun h3=>?_) (fun h3=>?_)
    ·have hlt:i<(c::l).length:=by have:=of_decide_eq_true h3;simp;omega
     obtain ⟨b,hb⟩:=Aa (c::l) hlt
     rw [An hb] at hTi
     have hw:Nt (b::(c::l).drop (i+1))=((Ct b||digit b)&&Nt ((c::l).drop (i+1))):=rfl
     rw [hw] at hTi
     refine AK.by i (by omega) hb ?_
     refine AK.pc (Xy b) ?_
     refine AK.gd (fun h4=>?_) (fun h4=>?_)
     ·have h4':Ct b=false:=by have:(!Ct b)=true:=h4;simpa using this
      refine AK.by i (by omega) hb ?_
      refine AK.pc (Aby b) ?_
      refine AK.if_ (fun h5=>?_) (fun h5=>?_)
      ·have h5':digit b=false:=by have:(!digit b)=true:=h5;simpa using this
       refine AK.rt Tryz.func320 ?_
       rw [hTi,h4',h5'];rfl
      ·have h5':digit b=true:=by have:(!digit b)=false:=h5;simpa using this
       exact IH (i+1) ⟨by simp at hlt;omega,by rw [hTi,h5'];simp⟩ (by simp at hlt;omega) _ _ ⟨vsx (by omega),rfl,rfl,trivial⟩ rfl rfl rfl
     ·have h4':Ct b=true:=by have:(!Ct b)=false:=h4;simpa using this
      refine AK.no ?_
      exact IH (i+1) ⟨by simp at hlt;omega,by rw [hTi,h4'];simp⟩ (by simp at hlt;omega) _ _ ⟨vsx (by omega),rfl,rfl,trivial⟩ rfl rfl rfl
    ·have:i=(c::l).length:=by have:=of_decide_eq_false h3;simp;omega
     rw [this,List.drop_length] at hTi
     have hT1:T=true:=hTi
     subst hT1
     refine AK.if_ (fun h4=>?_) (fun h4=>?_)
     ·have h4':l.length<8:=by have:=of_decide_eq_true h4;rw [hsz] at this;omega
      refine AK.rt Tryz.func320 ?_
      simp [h4',B1]
     ·have h4':¬ l.length<8:=by have:=of_decide_eq_false h4;rw [hsz] at this;omega
      refine AK.rt Tryz.func320 ?_
      simp [h4',B1]
   have h2':Ct c=false:=h2
   refine AK.by 0 (by omega) (b:=c) rfl ?_
   refine AK.pc (Aby c) ?_
   refine AK.if_ (fun h3=>?_) (fun h3=>?_)
   ·have h3':digit c=true:=h3
    have hr:=Ajy c l h3'
    have hk:B6 (c::l)=if Nl (c::l)&&decide (Le (c::l)≤1000000) then 2 else 0:=by
     have k2:nameS (c::l)=false:=by simp [nameS,h2']
     have k4:has Hl (c::l)=false:=by
      simp only [has,Hl,List.any_cons,List.any_nil,Bool.or_false,Bool.or_eq_false_iff,beq_eq_false_iff_ne]
      refine ⟨?_,?_,?_,?_,?_,?_,?_,?_,?_,?_,?_,?_,?_,?_,?_,?_,?_,?_⟩<;>(intro h;injection h with h _;subst h;revert h3';decide)
     simp only [B6,h1',k2,hr]
     rw [if_neg (by simp),if_neg (by simp)]
     by_cases h:0≤Cb (c::l)
     ·simp [h]
     ·rw [if_neg (by omega),k4];simp [h]
    rw [hk]
    refine AK.pc (Zy (c::l) (by simp;omega)) ?_
    refine AK.gd (fun h4=>?_) (fun h4=>?_)
    ·have h4':Nl (c::l)=true:=h4
     refine AK.if_ (fun h5=>?_) (fun h5=>?_)
     ·have h5':Le (c::l)≤1000000:=of_decide_eq_true h5
      refine AK.rt Tryz.func320 ?_
      simp [h4',h5',B1]
     ·have h5':¬ Le (c::l)≤1000000:=of_decide_eq_false h5
      refine AK.rt Tryz.func320 ?_
      simp [h4',h5',B1]
    ·have h4':Nl (c::l)=false:=h4
     refine AK.no ?_
     refine AK.rt Tryz.func320 ?_
     simp [h4',B1]
   have h3':digit c=false:=h3
   rw [Xf c l h2' h3']
   refine AK.pc (Ou H1 (c::l) (by decide)) ?_
   refine AK.gd (fun h4=>?_) (fun h4=>?_)
   ·have h4':has H1 (c::l)=true:=h4
    refine AK.yes ?_
    refine AK.rt Tryz.func320 ?_
    simp [h4',B1]
   have h4':has H1 (c::l)=false:=h4
   cases l with
   | nil =>
     refine AK.gy ?_
     refine AK.pc (Adt oneSigns c) ?_
     refine AK.if_ (fun h5=>?_) (fun h5=>?_)
     ·have h5':oneSigns.contains c=true:=by rw [← Rl];exact h5
      refine AK.rt Tryz.func320 ?_
      rw [h4',h5'];rfl
     ·have h5':oneSigns.contains c=false:=by rw [← Rl];exact h5
      refine AK.rt Tryz.func320 ?_
      rw [h4',h5'];rfl
   | cons d l =>
     have:(((⟨⟨c::d::l⟩⟩:ByteArray).size:Int)==1)=false:=by rw [J3];simp;omega
     refine AK.gn ?_ (ht:=this)
     refine AK.no ?_
     refine AK.rt Tryz.func320 ?_
     simp [h4',B1]
theorem Aos (c d:UInt8)(l:List UInt8)(h1:Ct c=false)(h2:digit c=false):(B6 [c,d]==3)=has Hl [c,d]:=by
 rw [Xf c [d] h1 h2]
 have:has Hl [c,d]=has H1 [c,d]:=by
  simp only [has,Hl,H1,List.any_cons,List.any_nil,Bool.or_false];simp
 rw [this]
 cases has H1 [c,d]<;>rfl
def Apk (c:UInt8):List UInt8→Nat
 | []=>1
 | d::_=>if has Hl [c,d] then 2 else 1
theorem Ajs (c:UInt8)(l:List UInt8)(hs:l.length≤900000000):Pure X 319 [str (c::l)] (vi (Io (c::l))):=by
 have hsz:((⟨⟨c::l⟩⟩:ByteArray).size:Int)=l.length+1:=J3 c l
 obtain ⟨T,hT⟩:∃ T,Ed (c::l)=T:=⟨_,rfl⟩
 have hTle:T≤l.length+1:=by rw [← hT];exact Si _
 have hE:Io (c::l)=if T=0 then Apk c l else T:=by
  by_cases h:(Ct c||digit c)=true
  ·have hw:T=1+Ed l:=by rw [← hT];simp only [Ed];rw [if_pos h]
   have he:Io (c::l)=Ed (c::l):=by simp only [Io];rw [if_pos h]
   rw [he,hT,if_neg (by omega)]
  ·have hw:T=0:=by rw [← hT];simp only [Ed];rw [if_neg h]
   have he:Io (c::l)=Apk c l:=by simp only [Io];rw [if_neg h];cases l<;>rfl
   rw [he,if_pos hw]
 have tail:AK X ⟨319,Tryz.f319,0,0⟩ (Gl false 4 Tryz.f319) [(3,vi T),(0,str (c::l))] ⟨[],[]⟩ (fun e S=>e=.ret (vi (Io (c::l)))∧S=⟨[],[]⟩):=by
  rw [hE]
  refine AK.at_ ?_
  refine AK.ev 100 rfl ?_
  refine AK.gd (fun h=>?_) (fun h=>?_)
  ·have h0:T=0:=by have:((T:Int)==0)=true:=h;simpa using this
   have hcd:Ct c=false∧digit c=false:=by
    rw [h0] at hT
    simp only [Ed] at hT
    split at hT
    ·omega
    ·rename_i h;simpa using h
   rw [if_pos h0]
   cases l with
   | nil =>
     refine AK.gn ?_
     refine AK.no ?_
     refine AK.rt Tryz.func319 ?_
     rw [h0];rfl
   | cons d l =>
     refine AK.gy ?_ (ht:=decide_eq_true (by rw [hsz];simp;omega))
     refine AK.op (Ndo.sub (l:=0) (h:=2) (r:=[c,d]) rfl rfl rfl rfl rfl rfl rfl rfl ?_ ?_ ?_ rfl) ?_
     ·omega
     ·omega
     ·simp;omega
     refine AK.pc (Ady [c,d] (by simp)) ?_
     have e:=Aos c d l hcd.1 hcd.2
     refine AK.if_ (fun h2=>?_) (fun h2=>?_)
     ·have h2':has Hl [c,d]=true:=by rw [← e];exact h2
      refine AK.rt Tryz.func319 ?_
      simp [h2',B1,Apk]
     ·have h2':has Hl [c,d]=false:=by rw [← e];exact h2
      refine AK.rt Tryz.func319 ?_
      simp [h2',h0,B1,Apk]
  ·have h0:T≠0:=by have:((T:Int)==0)=false:=h;simpa using this
   rw [if_neg h0]
   refine AK.gn ?_
   refine AK.no ?_
   refine AK.rt Tryz.func319 ?_
   simp only [B1]
   rw [if_neg (by omega)]
 refine Pure.run Tryz.func319 ?_
 refine AK.while_ (ι:=Nat) 0 0 (fun i=>i≤l.length+1∧T=i+Ed ((c::l).drop i)) (fun i=>[(3,vi i),(0,str (c::l))]) (fun _=>⟨[],[]⟩) (fun i=>l.length+1-i) ?_ 0 ⟨Nat.zero_le _,by simpa using hT.symm⟩
  ⟨rfl,rfl,trivial⟩
 rintro i ⟨hi,hTi⟩ IH
 refine AK.ev 100 rfl ?_
 refine AK.gd (fun h=>?_) (fun h=>?_)
 ·have hlt:i<(c::l).length:=by have:=of_decide_eq_true h;simp;omega
  obtain ⟨b,hb⟩:=Aa (c::l) hlt
  rw [An hb] at hTi
  simp only [Ed] at hTi
  refine AK.by i (by omega) hb ?_
  refine AK.pc (Xy b) ?_
  refine AK.gd (fun h2=>?_) (fun h2=>?_)
  ·have h2':Ct b=true:=h2
   refine AK.yes ?_
   rw [h2'] at hTi
   exact IH (i+1) ⟨by simp at hlt;omega,by rw [hTi];simp;omega⟩ (by simp at hlt;omega) _ _ ⟨vsx (by omega),rfl,trivial⟩ rfl rfl rfl
  ·have h2':Ct b=false:=h2
   refine AK.by i (by omega) hb ?_
   refine AK.pc (Aby b) ?_
   refine AK.ifj 0 4 (fun h3=>?_) (fun h3=>?_)
   ·have h3':digit b=true:=h3
    rw [h3'] at hTi
    refine AK.ev 100 rfl ?_
    exact IH (i+1) ⟨by simp at hlt;omega,by rw [hTi];simp;omega⟩ (by simp at hlt;omega) _ _ ⟨vsx (by omega),rfl,trivial⟩ rfl rfl rfl
   ·have h3':digit b=false:=h3
    rw [h2',h3'] at hTi
    have hTi':T=i:=by simpa using hTi
    rw [hTi'] at tail
    exact AK.back' 0 0 tail ⟨rfl,rfl,trivial⟩ rfl rfl rfl rfl rfl
 ·have hie:i=(c::l).length:=by have:=of_decide_eq_false h;simp;omega
  rw [hie,List.drop_length] at hTi
  have hTi':T=i:=by rw [hie,hTi];rfl
  rw [hTi'] at tail
  refine AK.ifj 0 4 (fun h3=>?_) (fun h3=>?_)
  ·cases h3
  ·exact AK.back' 0 0 tail ⟨rfl,rfl,trivial⟩ rfl rfl rfl rfl rfl
theorem Ari (s:List UInt8)(hs:s.length≤900000000):Pure X 300 [str s] (.tup [.sl (Ev (Bz s).1) .no,.agg [vi (Bz s).2.1,vi (Bz s).2.2]]):=by
 refine Pure.run Tryz.func300 ?_
 refine AK.if_ (fun h=>?_) (fun h=>?_)
 ·have:s.length > 4000:=by have:=of_decide_eq_true h;rw [Du] at this;omega
  refine AK.as_ 2 (.sl [] .tight) ?_
  refine AK.rz Tryz.func300 ?_
  simp only [Bz];rw [if_pos this];rfl
 have hlen:¬ s.length > 4000:=by have:=of_decide_eq_false h;rw [Du] at this;omega
 generalize hT:Bz s=T
 have hT':T=Et (s.length+1) (Bl false s) (s.drop (Bl false s)) []:=by rw [← hT];simp only [Bz];rw [if_neg hlen]
 refine AK.mint (d:=4) rfl rfl rfl ?_
 refine AK.while_ (ι:=Nat × List Wd) 1 1 (fun i=>i.1≤s.length∧i.2.length≤1500∧∃ f,s.length-i.1<f∧T=Et f (i.1+Bl false (s.drop i.1)) (s.drop (i.1+Bl false (s.drop i.1))) i.2)
  (fun i=>[(5,vi i.1),(4,.sl (Ev i.2) (.tok 0)),(0,str s),(3,.ptr 0 0 0)]) (fun i=>⟨[[[vi 0,vi 0]]],[i.2.length]⟩) (fun i=>s.length-i.1) ?_ (0,[]) ⟨Nat.zero_le _,Nat.zero_le _,s.length+1,by simp,by simpa using hT'⟩
  ⟨rfl,rfl,rfl,rfl,trivial⟩
 rintro ⟨a,out⟩ ⟨ha,hout,f,hf,hTa⟩ IH
 simp only at ha hout hf hTa IH ⊢
 refine AK.ei (fun h=>?_) (fun h=>?_)
 ·have hlt:a<s.length:=by have:=of_decide_eq_true h;rw [Du] at this;omega
  obtain ⟨c,hc⟩:=Aa s hlt
  have hd:=An hc
  refine AK.by a (by omega) hc ?_
  have white:(c==32||c==10)=true→T=Et f (a+1+Bl false (s.drop (a+1))) (s.drop (a+1+Bl false (s.drop (a+1)))) out:=fun hw=>by
   have e:Bl false (s.drop a)=1+Bl false (s.drop (a+1)):=by rw [hd];simp only [Bl];rw [if_pos hw]
   rw [hTa,e,show a+(1+Bl false (s.drop (a+1)))=a+1+Bl false (s.drop (a+1)) by omega]
  refine AK.if_ (fun h1=>?_) (fun h1=>?_)
  ·have h1':(c==32)=true:=by rw [← cb];exact h1
   exact IH (a+1,out) ⟨by simp only;omega,hout,f,by simp only;omega,white (by rw [h1'];rfl)⟩ (by simp only;omega) _ _ ⟨vsx (by omega),rfl,rfl,rfl,trivial⟩ rfl rfl rfl
  have h1':(c==32)=false:=by rw [← cb];exact h1
  refine AK.if_ (fun h2=>?_) (fun h2=>?_)
  ·have h2':(c==10)=true:=by rw [← cb];exact h2
   exact IH (a+1,out) ⟨by simp only;omega,hout,f,by simp only;omega,white (by rw [h2'];simp)⟩ (by simp only;omega) _ _ ⟨vsx (by omega),rfl,rfl,rfl,trivial⟩ rfl rfl rfl
  have h2':(c==10)=false:=by rw [← cb];exact h2
  refine AK.if_ (fun h3=>?_) (fun h3=>?_)
  ·have h3':(c==35)=true:=by rw [← cb];exact h3
   have hE:Bl false (s.drop a)=Bl true (s.drop a):=by rw [hd];simp only [Bl];rw [if_neg (by simp [h1',h2']),if_pos h3',if_neg (by simp [h2'])]
   rw [hE] at hTa
   refine AK.while_ (ι:=Nat) 1 1 (fun i=>a≤i∧i≤s.length∧T=Et f (i+Bl true (s.drop i)) (s.drop (i+Bl true (s.drop i))) out) (fun i=>[(5,vi i),(4,.sl (Ev out) (.tok 0)),(0,str s),(3,.ptr 0 0 0)])
    (fun _=>⟨[[[vi 0,vi 0]]],[out.length]⟩) (fun i=>s.length-i) ?_ a ⟨Nat.le_refl _,ha,hTa⟩ ⟨rfl,rfl,rfl,rfl,trivial⟩
   rintro i ⟨hai,hi,hTi⟩ IH2
   refine AK.ev 100 rfl ?_
   refine AK.gd (fun h4=>?_) (fun h4=>?_)
   ·have hlt2:i<s.length:=by have:=of_decide_eq_true h4;rw [Du] at this;omega
    obtain ⟨b,hb⟩:=Aa s hlt2
    have hd2:=An hb
    refine AK.by i (by omega) hb ?_
    refine AK.if_ (fun h5=>?_) (fun h5=>?_)
    ·have h5':(b==10)=false:=by
      have:(!((b.toNat:Int)==10))=true:=h5
      rw [← cb];simpa using this
     have e:Bl true (s.drop i)=1+Bl true (s.drop (i+1)):=by rw [hd2];simp only [Bl];rw [if_neg (by simp [h5'])]
     exact IH2 (i+1) ⟨by omega,by omega,by rw [hTi,e,show i+(1+Bl true (s.drop (i+1)))=i+1+Bl true (s.drop (i+1)) by omega]⟩ (by omega) _ _ ⟨vsx (by omega),rfl,rfl,rfl,trivial⟩ rfl rfl rfl
    ·have h5':(b==10)=true:=by
      have:(!((b.toNat:Int)==10))=false:=h5
      rw [← cb];simpa using this
     have e:Bl true (s.drop i)=Bl false (s.drop i):=by rw [hd2];simp only [Bl];rw [if_pos h5',if_pos (by rw [h5'];simp)]
     have hne:a≠i:=by
      rintro rfl
      rw [hc] at hb;cases hb
      rw [h5'] at h2';cases h2'
     exact IH (i,out) ⟨by simp only;omega,hout,f,by simp only;omega,by rw [e] at hTi;exact hTi⟩ (by simp only;omega) _ _ ⟨rfl,rfl,rfl,rfl,trivial⟩ rfl rfl rfl
   ·have hie:i=s.length:=by have:=of_decide_eq_false h4;rw [Du] at this;omega
    have e:Bl true (s.drop i)=Bl false (s.drop i):=by rw [hie,List.drop_length];rfl
    refine AK.no ?_
    exact IH (i,out) ⟨by simp only;omega,hout,f,by simp only;omega,by rw [e] at hTi;exact hTi⟩ (by simp only;omega) _ _ ⟨rfl,rfl,rfl,rfl,trivial⟩ rfl rfl rfl
  have h3':(c==35)=false:=by rw [← cb];exact h3
  have h0:Bl false (s.drop a)=0:=by rw [hd];simp only [Bl];rw [if_neg (by simp [h1',h2']),if_neg (by simp [h3'])]
  rw [h0,Nat.add_zero] at hTa
  obtain ⟨g,rfl⟩:∃ g,f=g+1:=⟨f-1,by omega⟩
  obtain ⟨n,hn⟩:∃ n,Io (s.drop a)=n:=⟨_,rfl⟩
  have hbd:=Agx c (s.drop (a+1))
  rw [← hd,hn] at hbd
  have hdl:(s.drop a).length=s.length-a:=by simp
  rw [hdl] at hbd
  obtain ⟨t,ht⟩:∃ t,(s.drop a).take n=t:=⟨_,rfl⟩
  have htl:t.length=n:=by rw [← ht];simp;omega
  have hstep:T=if B6 t==0 then ([],2,a) else if out.length==1500 then ([],3,a) else
   Et g (a+n+Bl false (s.drop (a+n))) (s.drop (a+n+Bl false (s.drop (a+n)))) (out++[⟨B6 t,t,a⟩]):=by
   rw [hTa]
   conv=>lhs;unfold Et
   rw [hd]
   simp only
   rw [← hd,hn,ht,List.drop_drop,List.drop_drop]
   rw [show a+(n+Bl false (s.drop (a+n)))=a+n+Bl false (s.drop (a+n)) by omega]
  have hlong:Pure X 319 [str (s.drop a)] (vi n):=by
   have:=Ajs c (s.drop (a+1)) (by simp;omega)
   rw [← hd,hn] at this;exact this
  refine AK.op (Ndo.sub (l:=(a:Int)) (h:=(s.length:Int)) (r:=s.drop a) rfl rfl rfl rfl rfl rfl rfl rfl ?_ ?_ ?_ ?_) ?_
  ·omega
  ·omega
  ·omega
  ·simp
  refine AK.pc hlong ?_
  have hwr:IntKind.i64.wrap ((a:Int)+(n:Int))=(a+n:Nat):=(Ac (by omega) (by omega)).trans (by omega)
  refine AK.op (Ndo.sub (l:=(a:Int)) (h:=IntKind.i64.wrap ((a:Int)+(n:Int))) (r:=t) rfl rfl rfl rfl rfl rfl rfl rfl ?_ ?_ ?_ ?_) ?_
  ·omega
  ·rw [hwr];omega
  ·rw [hwr];omega
  ·rw [hwr,← ht]
   rw [show ((a+n:Nat):Int).toNat=a+n by omega,show ((a:Nat):Int).toNat=a by omega,List.drop_take,show a+n-a=n by omega]
  refine AK.pc (Ady t (by omega)) ?_
  refine AK.if_ (fun h4=>?_) (fun h4=>?_)
  ·have h4':(B6 t==0)=true:=h4
   refine AK.as_ 2 (.sl [] .tight) ?_
   refine AK.rz Tryz.func300 ?_
   rw [hstep,h4'];rfl
  have h4':(B6 t==0)=false:=h4
  refine AK.if_ (fun h5=>?_) (fun h5=>?_)
  ·have h5':(out.length==1500)=true:=by
    have:(((Ev out).length:Int)==1500)=true:=h5
    rw [Cj] at this
    simp at this ⊢;omega
   refine AK.as_ 2 (.sl [] .tight) ?_
   refine AK.rz Tryz.func300 ?_
   rw [hstep,h4',h5'];rfl
  have h5':(out.length==1500)=false:=by
   have:(((Ev out).length:Int)==1500)=false:=h5
   rw [Cj] at this
   simp at this ⊢;omega
  have h5'':out.length≠1500:=by simpa using h5'
  refine AK.op (Ndo.append (res:=Ev (out++[⟨B6 t,t,a⟩])) rfl rfl rfl rfl rfl rfl rfl rfl rfl rfl rfl rfl rfl rfl (Cj out) (Ye out) rfl rfl rfl ?_ ?_ rfl) ?_
  ·rw [Cj];simp;omega
  ·simp [Ev,Qe]
  have hst:((⟨⟨t⟩⟩:ByteArray).size:Int)=n:=by rw [Du,htl]
  refine IH (a+n,out++[⟨B6 t,t,a⟩]) ⟨by simp only;omega,by simp;omega,g,by simp only;omega,by rw [hstep,h4',h5'];rfl⟩ (by simp only;omega) _ _ ⟨?_,rfl,rfl,rfl,trivial⟩ ?_ rfl rfl
  ·exact A3 (by rw [hst];exact hwr)
  ·simp [St.drop,Cj]
 ·have hae:a=s.length:=by have:=of_decide_eq_false h;rw [Du] at this;omega
  refine AK.rz Tryz.func300 ?_
  obtain ⟨g,rfl⟩:∃ g,f=g+1:=⟨f-1,by omega⟩
  rw [hTa,hae,List.drop_length]
  simp only [Bl,Nat.add_zero,List.drop_length]
  rfl
end Go.V
