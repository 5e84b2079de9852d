/- A part of the proof of the claim that the last text states: no condition of its own. -/
import Derived.Test.YtkbnfpldnpeliaaGreatDoorJ9
set_option linter.unusedVariables false
set_option linter.unusedSimpArgs false
namespace Go.V
open Go Go.Proofs
theorem Am5 {n:Nd}(hr:Et n=true):(Ew (Cn n)).pts≤108005:=by
 obtain ⟨fp,hc,hw,hne,hkl⟩:=Ff hr
 obtain ⟨ds,hpl,_,hps,hwl⟩:=Aap fp
 obtain ⟨fp2,hc2,_⟩:=Lq (W5 hr).2.2
 have hpw:=Q7 _ (Qc fp2)
 rw [hpl] at hpw hc2
 simp only [wN,wL,Oz] at hpw
 have hps2:=Ki hps Ca ⟨1,0,[],[],[],0⟩ (by decide)
 have hl:=J0 6 Ca hps2.pt
 have hA:=hps2.trans hl (Nat.le_refl _)
 have hpp:=hA.pts
 simp only [bG] at hpp
 show _≤_
 unfold Ew
 have:(1:Nat)=(⟨1,0,[],[],[],0⟩:Gr).pts:=rfl
 omega
structure Tb where
 code:Int
 vis:Int
 wide:List Ab
 pts:List Ab
abbrev Q5 (t:Tb):List AV:=[vi t.code,vi t.vis,.sl (F4 t.wide) .no,.sl (F4 t.pts) .no]
abbrev tbl (t:Tb):AV:=.agg (Q5 t)
structure TbOk (t:Tb):Prop where
 wl:t.wide.length≤1000000000
 pl:t.pts.length≤1000000000
 w:∀ x,x∈t.wide→AbOk x
 p:∀ x,x∈t.pts→AbOk x
theorem Af7 (t:Tb)(h:TbOk t):Pure X 24 [tbl t] (tbl t):=by
 refine Pure.run Tryz.func24 ?_
 refine AK.pc (Ah4 t.wide h.wl h.w) ?_
 refine AK.pc (Ah4 t.pts h.pl h.p) ?_
 exact AK.rz Tryz.func24 rfl
theorem Au5 (t:Tb)(h:TbOk t):Pure X 26 [tbl t,tbl t] (vb true):=by
 refine Pure.run Tryz.func26 ?_
 refine AK.no ?_ (ht:=by simp)
 refine AK.no ?_ (ht:=by simp)
 refine AK.pc (Ah2 t.wide h.wl h.w) ?_
 refine AK.no ?_
 refine AK.pc (Ah2 t.pts h.pl h.p) ?_
 refine AK.no ?_
 exact AK.rz Tryz.func26 rfl
def ptT (n:Nd)(i:Nat)(a:Ab):List UInt8:=[112,111,105,110,116,32]++Lib.itoa i++[10]++Wz n a
def Nf (n:Nd):Nat→List Ab→List UInt8
 | _,[]=>[]
 | i,a::l=>ptT n i a++Nf n (i+1) l
def Arl (n:Nd)(t:Tb):List UInt8:=if Et n=true∧t.code=0∧(t.pts.length:Int)=(Ew (Cn n)).pts∧t.pts.all (Nr n)=true then Nf n 0 t.pts else []
theorem An5 (n:Nd)(l m:List Ab):∀ k,Nf n k (l++m)=Nf n k l++Nf n (k+l.length) m:=by
 induction l with
 | nil=>intro k;rfl
 | cons a l ih=>intro k;simp only [List.cons_append,Nf,List.length_cons];rw [ih,List.append_assoc,show k+1+l.length=k+(l.length+1) by omega]
theorem Aac {n:Nd}{l:List Ab}{i:Nat}{a:Ab}(h:l[i]?=some a):Nf n 0 (l.take (i+1))=Nf n 0 (l.take i)++ptT n i a:=by
 have hlt:=Ad h
 have e:l.take (i+1)=l.take i++[a]:=by rw [List.take_add_one,h];rfl
 rw [e,An5,List.length_take,Nat.zero_add,Nat.min_eq_left (Nat.le_of_lt hlt)]
 simp only [Nf,List.append_nil]
theorem T5 {n:Nd}{a:Ab}(hr:Et n=true)(h:Nr n a=true):(Wz n a).length≤914101:=by
 unfold Wz
 cases h0:Ex a.n a.d with
 | true=>simp
 | false =>
   have tx:=Aat hr h h0
   have h1:=Rw (ns:=Fq n) tx.f tx.lab
   have h2:=Ou (ns:=Fq n) (Aj n 32) a.sg tx.nm tx.seg
   have h3:(Aj n 32).length≤(Fq n).length:=by rw [Fq];simp
   have h4:=tx.n13
   simp;omega
theorem Ab0 {n:Nd}{i:Nat}{a:Ab}(hr:Et n=true)(h:Nr n a=true)(hi:i≤1000000000):(ptT n i a).length≤914140:=by
 have h1:=T5 hr h
 have h2:=D5 (n:=(i:Int)) (by omega) (by omega)
 simp [ptT];omega
theorem Tt {n:Nd}(hr:Et n=true):∀ (l:List Ab)(k:Nat),l.all (Nr n)=true→k+l.length≤1000000000→(Nf n k l).length≤914140*l.length
 | [],_,_,_=>Nat.zero_le _
 | a::l,k,h,hk=>by
   rw [List.all_cons,Bool.and_eq_true] at h
   rw [List.length_cons] at hk ⊢
   have h1:=Tt hr l (k+1) h.2 (by omega)
   have h2:=Ab0 (i:=k) hr h.1 (by omega)
   simp only [Nf,List.length_append];omega
theorem Adk (n:Nd)(hn:wN n≤100000000)(t:Tb)(ht:TbOk t):Pure X 23 [nd n,tbl t] (str (Arl n t)):=by
 have hlen:((F4 t.pts).length:Int)=t.pts.length:=by simp [F4]
 refine Pure.run Tryz.func23 ?_
 refine AK.pc (Ap6 n (by omega)) ?_
 unfold Arl
 cases hr:Et n with
 | false =>
   rw [if_neg (fun h=>by cases h.1)]
   refine AK.gy ?_
   refine AK.yes ?_
   exact AK.rz Tryz.func23 rfl
 | true =>
   obtain ⟨fp,_,hw,hne,hkl⟩:=Ff hr
   refine AK.gn ?_
   refine AK.if_ (fun g=>?_) (fun g=>?_)
   ·have g':(t.code != 0)=true:=g
    rw [if_neg (fun h=>by simp [h.2.1] at g')]
    exact AK.rz Tryz.func23 rfl
   have g':t.code=0:=by
    have:(t.code != 0)=false:=g
    simpa using this
   refine AK.pc (Aua n hr) ?_
   refine AK.if_ (fun g2=>?_) (fun g2=>?_)
   ·have g2':((t.pts.length:Int) != (Ew (Cn n)).pts)=true:=by rw [← hlen];exact g2
    rw [if_neg (fun h=>by simp [h.2.2.1] at g2')]
    exact AK.rz Tryz.func23 rfl
   have g2':(t.pts.length:Int)=(Ew (Cn n)).pts:=by
    have:(((F4 t.pts).length:Int) != (Ew (Cn n)).pts)=false:=g2
    rw [hlen] at this;simpa using this
   have hp:=Am5 hr
   refine AK.mint (d:=6) rfl rfl rfl ?_
   refine AK.while_ (ι:=Nat) 3 1 (fun i=>i≤t.pts.length∧(t.pts.take i).all (Nr n)=true) (fun i=>[(7,vi i),(6,.sl (Hm (Nf n 0 (t.pts.take i))) (.tok 0)),(5,.ptr 2 0 0),(3,.ptr 1 0 0)])
    (fun i=>⟨[[Af n],[Q5 t],[O5 n]],[(Nf n 0 (t.pts.take i)).length]⟩) (fun i=>t.pts.length-i) ?_ 0 ⟨Nat.zero_le _,rfl⟩ ⟨rfl,rfl,rfl,rfl,trivial⟩
   rintro i ⟨hi,hA⟩ IH
   refine AK.ei (fun g3=>?_) (fun g3=>?_)
   ·have hlt:i<t.pts.length:=by have:=of_decide_eq_true g3;rw [hlen] at this;omega
    obtain ⟨a,hx⟩:=Ac t.pts hlt
    have hm:=List.mem_of_getElem? hx
    have ha:=ht.p a hm
    refine AK.db 0 ?_
    refine Drv.ig i (by omega) (A8 (f:=Di) hx) ?_
    refine As (At1 n hkl a ha) ?_
    refine Drv.z ?_
    cases hb:Nr n a with
    | false =>
      refine AK.yes ?_
      refine AK.rz Tryz.func23 ?_
      rw [if_neg (fun h=>by have:=h.2.2.2;rw [Ag2 hx hb] at this;cases this)]
    | true =>
      have e1:=T5 hr hb
      have e2:=D5 (n:=(i:Int)) (by omega) (by omega)
      have e3:=Tt hr _ 0 hA (by rw [List.length_take];omega)
      rw [List.length_take] at e3
      have e4:=Ab0 (i:=i) hr hb (by omega)
      have et:=Aac (n:=n) hx
      refine AK.no ?_
      refine AK.db 8192 ?_
      refine As (Hd i (by omega) (by omega)) ?_
      refine Ax (fun S'=>Aq rfl rfl rfl rfl rfl (by simp;omega) rfl) ?_
      refine Ax (fun S'=>Aq rfl rfl rfl rfl rfl (by simp;omega) rfl) ?_
      refine Drv.go ?_
      refine Drv.ig i (by omega) (A8 (f:=Di) hx) ?_
      refine As (Apy n a hr ha hb) ?_
      refine Ax (fun S'=>Aq rfl rfl rfl rfl rfl (by simp;omega) rfl) ?_
      refine Drv.w (Akt (s:=ptT n i a) (res:=Hm (Nf n 0 (t.pts.take (i+1)))) (tk:=[(Nf n 0 (t.pts.take (i+1))).length]) rfl (Lf _) (Aij _) (Nat.ble_eq_true_of_le (by simp [ptT])) ?_ ?_ ?_ rfl rfl rfl rfl rfl rfl rfl rfl rfl rfl rfl rfl rfl rfl) ?_
      ·rw [Lf];omega
      ·rw [et,Ae0]
      ·rw [Lf,et,List.length_append];rfl
      refine Drv.e ?_
      refine Drv.z ?_
      exact IH (i+1) ⟨hlt,Acm hx hA hb⟩ (by omega) _ _ ⟨vsx (by omega),rfl,rfl,rfl,trivial⟩ rfl rfl rfl
   ·have hie:i=t.pts.length:=by have:=of_decide_eq_false g3;rw [hlen] at this;omega
    rw [hie,List.take_length] at hA
    refine AK.ev 100 rfl ?_
    refine AK.op (Pg (s:=Nf n 0 (t.pts.take i)) rfl rfl rfl rfl rfl rfl rfl rfl rfl rfl rfl) ?_
    refine AK.rz Tryz.func23 ?_
    rw [if_pos ⟨rfl,g',g2',hA⟩,hie,List.take_length]
theorem Adt (n:Nd)(hn:wN n≤100000000)(hnum:PrI n)(t:Tb)(ht:TbOk t):Pure X 25 [nd n,tbl t] (str (Arl n t)):=by
 have hlen:((F4 t.pts).length:Int)=t.pts.length:=by simp [F4]
 have hq:=Ajq n hn hnum t.pts ht.pl ht.p
 refine Pure.run Tryz.func25 ?_
 unfold Arl
 by_cases hra:Et n=true∧t.pts.all (Nr n)=true
 ·obtain ⟨hr,hA⟩:=hra
  obtain ⟨fp,_,hw,hne,hkl⟩:=Ff hr
  rw [hr,hA,if_pos ⟨rfl,rfl⟩] at hq
  rw [hr,hA]
  refine AK.pc hq ?_
  refine AK.dn 0 2 ?_
  refine Drv.t false ?_
  refine Cp 4 ?_
  by_cases hc:t.code=0
  ·refine Drv.t false ?_ (hb:=by simp [hc])
   refine Drv.go ?_
   refine Drv.z ?_
   refine AK.ifj 0 4 (fun g2=>?_) (fun g2=>?_)
   ·have g2':((t.pts.length:Int) != (Ew (Cn n)).pts)=true:=by rw [← hlen];exact g2
    rw [if_neg (fun h=>by simp [h.2.2.1] at g2')]
    exact AK.rz Tryz.func25 rfl
   have g2':(t.pts.length:Int)=(Ew (Cn n)).pts:=by
    have:(((F4 t.pts).length:Int) != (Ew (Cn n)).pts)=false:=g2
    rw [hlen] at this;simpa using this
   rw [if_pos ⟨rfl,hc,g2',rfl⟩]
   have hp:=Am5 hr
   refine AK.ev 1 rfl ?_
   refine AK.op (Rr (y:=⟨2,.str [(0,1),(1,1)],[.val (.pointer none),.sl [] .tight],[false,false]⟩) (rest:=[]) 5 rfl rfl rfl rfl rfl rfl rfl rfl rfl) ?_
   refine AK.sto ⟨[[Af n],[Q5 t],[bA (Je 93 2 true) []]],[0]⟩ ?_
   refine AK.while_ (ι:=Nat) 3 1 (fun i=>i≤t.pts.length) (fun i=>[(38,vi i),(37,vi t.pts.length),(36,.sl (F4 t.pts) .no),(7,.ptr 2 0 0),(5,.cptr (M9 n))])
    (fun i=>⟨[[Af n],[Q5 t],[bA (Je 93 2 (i==0)) (Nf n 0 (t.pts.take i))]],[(Nf n 0 (t.pts.take i)).length]⟩) (fun i=>t.pts.length-i) ?_ 0 (Nat.zero_le _) ⟨rfl,A5 hlen,rfl,rfl,rfl,trivial⟩
   rintro i hi IH
   refine AK.ei (fun g3=>?_) (fun g3=>?_)
   ·have hlt:i<t.pts.length:=by have:=of_decide_eq_true g3;omega
    obtain ⟨a,hx⟩:=Ac t.pts hlt
    have hm:=List.mem_of_getElem? hx
    have ha:=ht.p a hm
    have hb:=List.all_eq_true.1 hA a hm
    have e1:=T5 hr hb
    have e2:=D5 (n:=(i:Int)) (by omega) (by omega)
    have hAt:(t.pts.take i).all (Nr n)=true:=List.all_eq_true.2 fun x hx=>List.all_eq_true.1 hA x (List.mem_of_mem_take hx)
    have e3:=Tt hr _ 0 hAt (by rw [List.length_take];omega)
    rw [List.length_take] at e3
    have e4:=Ab0 (i:=i) hr hb (by omega)
    have et:=Aac (n:=n) hx
    refine AK.ix i (by omega) (A8 (f:=Di) hx) ?_
    refine AK.db 256 ?_
    refine As (Kl i (by omega) (by omega)) ?_
    refine Ax (fun S'=>Aq rfl rfl rfl rfl rfl (by simp;omega) rfl) ?_
    refine Ax (fun S'=>Aq rfl rfl rfl rfl rfl (by simp;omega) rfl) ?_
    refine Drv.go ?_
    refine As (Aqg n a hr ha hb) ?_
    refine Ax (fun S'=>Aq rfl rfl rfl rfl rfl (by simp;omega) rfl) ?_
    refine Drv.w (Ndo.hd (τ':=[0]) [2] [0] (wA (i==0) (Nf n 0 (t.pts.take i)) (ptT n i a) (by omega))) ?_
    refine Drv.z ?_
    refine IH (i+1) hlt (by omega) _ _ ⟨vsx (by omega),rfl,rfl,rfl,rfl,trivial⟩ ?_ rfl rfl
    exact congrArg (fun z=>St.mk [[Af n],[Q5 t],[bA (.ptr 2 0 0) z]] [z.length]) et.symm
   ·have hie:i=t.pts.length:=by have:=of_decide_eq_false g3;omega
    have e3:=Tt hr _ 0 hA (by omega)
    refine AK.ev 100 rfl ?_
    refine AK.hc (τ':=[0]) [2] [0] (sA (i==0) (Nf n 0 (t.pts.take i)) (by rw [hie,List.take_length];omega)) ?_
    refine AK.rz Tryz.func25 ?_
    rw [hie,List.take_length]
  ·refine Drv.t true ?_ (hb:=by simp [hc])
   refine Drv.go ?_
   refine Drv.z ?_
   refine AK.yes ?_
   rw [if_neg (fun h=>hc h.2.1)]
   exact AK.rz Tryz.func25 rfl
 ·have hb:(Et n&&t.pts.all (Nr n))=false:=by
   cases h1:Et n with
   | false=>rfl
   | true =>
     cases h2:t.pts.all (Nr n) with
     | false=>rfl
     | true=>exact absurd ⟨h1,h2⟩ hra
  rw [hb,if_neg hra] at hq
  rw [if_neg (fun h=>hra ⟨h.1,h.2.2.2⟩)]
  refine AK.pc hq ?_
  refine AK.dn 0 2 ?_
  refine Drv.t true ?_
  refine Cp 4 ?_
  refine Drv.t true ?_
  refine Drv.go ?_
  refine Drv.z ?_
  refine AK.yes ?_
  exact AK.rz Tryz.func25 rfl
structure TbLn (t:Tb):Prop where
 wl:t.wide.length≤9223372036854775807
 pl:t.pts.length≤9223372036854775807
 w:∀ x,x∈t.wide→AbLn x
 p:∀ x,x∈t.pts→AbLn x
def Af5 (t:Tb):Nat:=(t.wide.length+Ko t.wide)+(t.pts.length+Ko t.pts)
theorem Au9 (t:Tb)(h:TbLn t)(left:Int)(h0:0≤left)(h1:left≤1048576):Pure X 22 [tbl t,vi left] (vi (Eu (Af5 t) left)):=by
 refine Pure.run Tryz.func22 ?_
 refine AK.pc (Ah3 t.wide left h0 h1 h.wl h.w) ?_
 refine AK.if_ (fun g=>?_) (fun g=>?_)
 ·have g':=Hf h0 (of_decide_eq_true g)
  refine AK.rz Tryz.func22 ?_
  unfold Af5
  rw [Jr (by omega)]
 have g':=I2 (show 0≤Eu (t.wide.length+Ko t.wide) left by have:=of_decide_eq_false g;omega)
 refine AK.pc (Ah3 t.pts (Eu (t.wide.length+Ko t.wide) left) (by omega) (by omega) h.pl h.p) ?_
 refine AK.if_ (fun g2=>?_) (fun g2=>?_)
 ·have g2':=Hf (by omega) (of_decide_eq_true g2)
  refine AK.rz Tryz.func22 ?_
  unfold Af5
  rw [Gu g'.2,← g'.1,g2'.1]
 have g2':=I2 (show 0≤Eu (t.pts.length+Ko t.pts) (Eu (t.wide.length+Ko t.wide) left) by have:=of_decide_eq_false g2;omega)
 refine AK.rz Tryz.func22 ?_
 unfold Af5
 rw [Gu g'.2,g'.1]
theorem Aeb (n:Nd)(t:Tb)(hpn:PrI n)(hln:LnI n)(hlt:TbLn t):Pure X 6 [nd n,tbl t] (vb true):=by
 refine Pure.run Tryz.func6 ?_
 refine AK.pc (Axp n hln 1048576 (by omega) (by omega)) ?_
 refine AK.if_ (fun g=>?_) (fun g=>?_)
 ·exact AK.rz Tryz.func6 rfl
 have g1:=I2 (show 0≤Eu (swN n) 1048576 by have:=of_decide_eq_false g;omega)
 refine AK.pc (Au9 t hlt (Eu (swN n) 1048576) (by omega) (by omega)) ?_
 refine AK.if_ (fun g2=>?_) (fun g2=>?_)
 ·exact AK.rz Tryz.func6 rfl
 have g3:=I2 (show 0≤Eu (Af5 t) (Eu (swN n) 1048576) by have:=of_decide_eq_false g2;omega)
 have w1:=Aw2.1 n
 have c1:=Lg n
 have hsw:Af5 t≤1048576:=by omega
 unfold Af5 at hsw
 have ht:TbOk t:=⟨by omega,by omega,fun a h=>Aga (by have:=Aea h;omega),fun a h=>Aga (by have:=Aea h;omega)⟩
 refine AK.db 0 ?_
 refine As (Avb n (by omega)) ?_
 refine As (Af7 t ht) ?_
 refine As (Adk n (by omega) t ht) ?_
 refine Drv.z ?_
 refine AK.pc (Avb n (by omega)) ?_
 refine AK.pc (Af7 t ht) ?_
 refine AK.pc (Adt n (by omega) hpn t ht) ?_
 refine AK.no ?_ (ht:=by simp)
 refine AK.db 0 ?_
 refine As (Avb n (by omega)) ?_
 refine As (Axo n (by omega)) ?_
 refine Drv.z ?_
 refine AK.no ?_
 refine AK.db 0 ?_
 refine As (Af7 t ht) ?_
 refine As (Au5 t ht) ?_
 refine Drv.z ?_
 refine AK.no ?_
 exact AK.rz Tryz.func6 rfl
end Go.V
namespace Go.V
open Go Go.Proofs Go.ChangeShapes Go.WideShapes Go.ChangeAt Go.RowKit
set_option maxRecDepth 100000
abbrev Arm:Value:=.agg #[.int .i64 0,.int .i64 0,.slice none 0 0,.slice none 0 0]
section
variable {H:Type}{enc:TypeId × Value→H}{w:World}{sp:Nat→Bool}{held:Bool}
theorem Aed (fuel:Nat)(cs:List Value)(x:DataW H × List MemPlace)(h:DataW.trod enc Tryz.prog w 0 sp held fuel 46 cs=some x):∃ l:List Ab,(∀ a,a∈l→AbLn a∧AbI a)∧l.length≤9223372036854775807∧RelL w cs [.sl (F4 l) .no] :=
 Ii Di (fun a=>AbLn a∧AbI a) Tryz.underlying46 (show Tryz.prog.cellsOf 30=3 by kernel_rfl) (by decide) (fun y=>rfl) (fun n _ cs' x' hx'=>Arn n cs' x' hx') h
theorem Aru (fuel:Nat)(cs:List Value)(x:DataW H × List MemPlace)(h:DataW.trod enc Tryz.prog w 0 sp held fuel 55 cs=some x):∃ t:Tb,TbLn t∧RelL w cs (Q5 t):=by
 obtain ⟨xs,n1,rfl,_,hl,hxs,hf⟩:=DataW.trod_struct Tryz.underlying55 h
 have hl4:cs.length=4:=hl.trans (by kernel_rfl)
 have hx4:xs.length=4:=hxs
 obtain ⟨c0,c1,c2,c3,rfl⟩:=Ar8 hl4
 obtain ⟨x0,hx0⟩:=Ac xs (i:=0) (by omega)
 obtain ⟨x1,hx1⟩:=Ac xs (i:=1) (by omega)
 obtain ⟨x2,hx2⟩:=Ac xs (i:=2) (by omega)
 obtain ⟨x3,hx3⟩:=Ac xs (i:=3) (by omega)
 have cse:Tryz.prog.cellsOf 46=1:=by kernel_rfl
 have f0:DataW.trod enc Tryz.prog w 0 sp held n1 3 (([c0,c1,c2,c3].drop 0).take (Tryz.prog.cellsOf 3))=some x0:=(hf 0 _ rfl).trans hx0
 have f1:DataW.trod enc Tryz.prog w 0 sp held n1 3 (([c0,c1,c2,c3].drop 1).take (Tryz.prog.cellsOf 3))=some x1:=(hf 1 _ rfl).trans hx1
 have f2:DataW.trod enc Tryz.prog w 0 sp held n1 46 (([c0,c1,c2,c3].drop 2).take (Tryz.prog.cellsOf 46))=some x2:=(hf 2 _ rfl).trans hx2
 have f3:DataW.trod enc Tryz.prog w 0 sp held n1 46 (([c0,c1,c2,c3].drop 3).take (Tryz.prog.cellsOf 46))=some x3:=(hf 3 _ rfl).trans hx3
 rw [c3e] at f0 f1
 rw [cse] at f2 f3
 obtain ⟨a,_,a2⟩:=V1 _ _ _ f0
 obtain ⟨b,_,b2⟩:=V1 _ _ _ f1
 obtain ⟨l,l0,l1,l2⟩:=Aed _ _ _ f2
 obtain ⟨m,m0,m1,m2⟩:=Aed _ _ _ f3
 have a3:RelL w [c0] (I9 a):=a2
 have b3:RelL w [c1] (I9 b):=b2
 have l3:RelL w [c2] [.sl (F4 l) .no]:=l2
 have m3:RelL w [c3] [.sl (F4 m) .no]:=m2
 exact ⟨⟨a,b,l,m⟩,⟨l1,m1,fun x hx=>(l0 x hx).1,fun x hx=>(m0 x hx).1⟩,.cons a3.get1 (.cons b3.get1 (.cons l3.get1 m3))⟩
end
theorem Awz {H:Type}{enc:TypeId × Value→H}{W:World}{base:Nat}{v:Value}{d:DataW H}{ps:List MemPlace}(hv:Value.okWide Tryz.prog W .any base 55 v)(h:DataW.Trod enc Tryz.prog W 0 (fun _=>true) true 55 v d ps) :
 ∃ t:Tb,TbLn t∧Rel E0 W v (tbl t):=by
 unfold Value.okWide at hv
 rw [Tryz.underlying55] at hv
 obtain ⟨cs,rfl,_⟩:=hv
 obtain ⟨fuel,h⟩:=h
 obtain ⟨t,h1,h3⟩:=Aru fuel _ _ h
 exact ⟨t,h1,h3.agg⟩
end Go.V
namespace Go.Proofs.YtkbnfpldnpeliaaGreatDoor.tableText
open Go Go.Proofs Go.V Go.ChangeShapes Go.WideShapes Go.ChangeAt Go.RowKit
set_option maxRecDepth 100000
theorem Ak9 (H:Type)(enc:TypeId × Value→H)(W:World)(base:Nat)(args:Array Value)(ds gs:List (DataW H))(before:List MemPlace)
 (hval:∀ (j:Nat) t v,Tryz.f6.params[j]?=some t→args[j]?=some v→Value.okWide Tryz.prog W .any base t v)
 (hW:DataW.Whole enc Tryz.prog Tryz.f6.params.toList Rows.fnExactTableTextSpec.vars false W args.toList ds gs before)(hL:laidMetH Tryz.prog Rows.fnExactTableTextRow.laid W)(hs:W.ShapedOpen Tryz.prog) :
 Calls Tryz.prog 6 args W fun e W'=>∃ v,e=.returned v∧Rows.fnExactTableTextSpec.post enc Tryz.prog Tryz.f6 false true false false W args v W':=by
 have hW':=hW
 obtain ⟨p,q,hA0,_,_,_,_⟩:=hW
 have hA:DataW.TrodAll enc Tryz.prog W 0 (fun _=>true) true [24,55] args.toList ds p:=hA0
 obtain ⟨v0,vs0,d0,ds0,p0,q0,hargs,rfl,rfl,h0,r0⟩:=trodAll_cons hA
 obtain ⟨v1,vs1,d1,ds1,p1,q1,hargs1,rfl,rfl,h1,r1⟩:=trodAll_cons r0
 obtain ⟨rfl,rfl,rfl⟩:=trodAll_nil r1
 subst hargs1
 have ha0:args[0]?=some v0:=by rw [← Array.getElem?_toList,hargs];rfl
 have ha1:args[1]?=some v1:=by rw [← Array.getElem?_toList,hargs];rfl
 obtain ⟨n,n1,n2,n3⟩:=Apw (hval 0 24 v0 rfl ha0) h0
 obtain ⟨t,t2,t3⟩:=Awz (hval 1 55 v1 rfl ha1) h1
 have hR:RelL W args.toList [nd n,tbl t]:=by rw [hargs];exact .cons n3 (.cons t3 .nil)
 refine (Aq3 (Aeb n t n1 n2 t2) hs hL hR).mono fun r W' ⟨he,hb⟩=>?_
 refine ⟨_,he,Aji Al6 (fun t ht=>?_) (fun n hn=>?_) hW' hb (fun hg=>?_) rfl Tryz.underlying4⟩
 ·have h:t∈[24,55]:=ht
  simp only [List.mem_cons,List.not_mem_nil,or_false] at h
  rcases h with rfl | rfl
  ·exact ⟨by kernel_rfl,of_decide_eq_true (by kernel_rfl)⟩
  ·exact ⟨by kernel_rfl,of_decide_eq_true (by kernel_rfl)⟩
 ·have h:n∈["loop.example/g00093/impl.condWords", "loop.example/g00093/impl.none"]:=hn
  simp only [List.mem_cons,List.not_mem_nil,or_false] at h
  rcases h with rfl | rfl
  ·exact ⟨_,_,Ao0,As5,As4,As3⟩
  ·exact ⟨_,_,Apx,Atz,Aty,Atx⟩
 ·obtain ⟨g1,g2,rfl⟩:=Agz hg;rfl
set_option maxRecDepth 100000
theorem ab {a b:Bool}(h:a=true)(g:b=true):(a&&b)=true:=by rw [h,g];rfl
set_option maxHeartbeats 100000000 in
theorem As2:joinedFacts Tryz.pinned.checked.prog 6 Tryz.f6 (OpenSpec.ofChange Rows.fnExactTableTextSpec).bare Rows.fnExactTableTextRow=true:=by
 unfold joinedFacts
 iterate 31 refine ab ?_ ?_
 all_goals as_aux_lemma=>kernel_rfl
end Go.Proofs.YtkbnfpldnpeliaaGreatDoor.tableText
