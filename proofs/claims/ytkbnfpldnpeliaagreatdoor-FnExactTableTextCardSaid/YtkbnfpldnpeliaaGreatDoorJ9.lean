/- A part of the proof of the claim that the last text states: no condition of its own. -/
import Derived.Test.YtkbnfpldnpeliaaGreatDoorJ8
import Derived.Deep.Strs
import Derived.Ground.NamesProg
import Derived.Lib.ItoaLen
import Derived.Shelf.Strings.OnBuilder
import Derived.Test.YtkbnfpldnpeliaaGreatDoorChecked
set_option linter.unusedVariables false
set_option linter.unusedSimpArgs false
namespace Go.V
open Go Go.Proofs
def Yw (p:Vl→Bool):Nat→List Vl→Int
 | _,[]=>-1
 | i,x::l=>if p x then i else Yw p (i+1) l
theorem Al0 (p:Vl→Bool)(l:List Vl):∀ i:Nat,decide (Yw p i l≥0)=l.any p:=by
 induction l with
 | nil=>intro i;simp [Yw]
 | cons x l ih =>
   intro i
   rw [List.any_cons,← ih (i+1)]
   cases h:p x with
   | true=>simp [Yw,h]
   | false=>simp [Yw,h]
theorem Anf (l:List Vl)(f:FuncId)(p:Vl→Bool)(hl:l.length≤1000000000)(hp:∀ x,x∈l→Pure X f [.agg (Em x)] (vb (p x))):Pure X 199 [.sl (Rf l) .no,.fn f []] (vi (Yw p 0 l)):=by
 have hlen:((Rf l).length:Int)=l.length:=by simp [Rf]
 refine Pure.run Tryz.func199 ?_
 refine AK.while_ (ι:=Nat) 0 0 (fun i=>i≤l.length∧Yw p 0 l=Yw p i (l.drop i)) (fun i=>[(8,vi i),(7,vi l.length),(0,.sl (Rf l) .no),(1,.fn f [])]) (fun _=>⟨[],[]⟩) (fun i=>l.length-i) ?_ 0 ⟨Nat.zero_le _,rfl⟩
  ⟨rfl,A5 hlen,rfl,rfl,trivial⟩
 intro i hi IH
 refine AK.ei (fun h=>?_) (fun h=>?_)
 ·have hlt:i<l.length:=by have:=of_decide_eq_true h;omega
  obtain ⟨x,hx⟩:=Ac l hlt
  have hd:Yw p i (l.drop i)=if p x then (i:Int) else Yw p (i+1) (l.drop (i+1)):=by rw [Av hx];rfl
  refine AK.ix i (by omega) (A8 (f:=Em) hx) ?_
  refine AK.pc (hp x (List.mem_of_getElem? hx)) ?_
  refine AK.if_ (fun h2=>?_) (fun h2=>?_)
  ·have h3:p x=true:=h2
   refine AK.rz Tryz.func199 ?_
   rw [hi.2,hd,h3];rfl
  ·have h3:p x=false:=h2
   exact IH (i+1) ⟨hlt,by rw [hi.2,hd,h3];rfl⟩ (by omega) _ _ ⟨vsx (by omega),rfl,rfl,rfl,trivial⟩ rfl rfl rfl
 ·have:i=l.length:=by have:=of_decide_eq_false h;omega
  refine AK.rz Tryz.func199 ?_
  rw [hi.2,this,List.drop_length];rfl
theorem Adw (l:List Vl)(f:FuncId)(p:Vl→Bool)(hl:l.length≤1000000000)(hp:∀ x,x∈l→Pure X f [.agg (Em x)] (vb (p x))):Pure X 153 [.sl (Rf l) .no,.fn f []] (vb (l.any p)):=by
 refine Pure.run Tryz.func153 ?_
 refine AK.pc (Anf l f p hl hp) ?_
 refine AK.rz Tryz.func153 ?_
 rw [← Al0 p l 0]
theorem An2 (l:List (Int × Int)):G1 2 (G6 l)=true:=H2 (f:=C2) (fun _=>rfl) l
theorem Au2 (l:List (Int × Int)):Ir (G6 l)=true:=Gy.2 fun r hr x hx=>by
 obtain ⟨e,_,rfl⟩:=List.mem_map.1 hr
 simp at hx
 rcases hx with rfl | rfl<;>rfl
theorem Aq7 (a b:List (Int × Int)):G6 (a++b)=G6 a++G6 b:=by simp [G6]
theorem Zj {l:List (List (Int × Int))}{i:Nat}{x:List (Int × Int)}(h:l[i]?=some x):(l.take (i+1)).flatten=(l.take i).flatten++x:=by
 rw [List.take_add_one,h];simp
theorem Aqq (g:Sg)(hg:SgOk g)(size len:Int)(hK:1≤g.tm.length)(hK2:g.tm.length≤16)(hv:∀ v,v∈g.vs→Pure X 155 [.agg (Em v)] (vb (Js v))) :
 AK X ⟨105,Tryz.f105,0,0⟩ (Hn false 20 Tryz.f105) [(0,vi size),(1,vi len),(7,vi g.tm.length),(5,.ptr 0 0 0)] ⟨[[B4 g]],[]⟩
  (fun e S=>e=.ret (vb (hasY (g.tm.getD 0 []) (0,0)&&(hasY (g.tm.getD (g.tm.length-1) []) (len,0)&&g.vs.all Js)))∧S=⟨[],[]⟩):=by
 obtain ⟨x0,hx0⟩:=Ac g.tm (i:=0) (by omega)
 obtain ⟨x1,hx1⟩:=Ac g.tm (i:=g.tm.length-1) (by omega)
 have e0:g.tm.getD 0 []=x0:=by simp [List.getD,hx0]
 have e1:g.tm.getD (g.tm.length-1) []=x1:=by simp [List.getD,hx1]
 have hw:IntKind.i64.wrap ((g.tm.length:Int)-1)=(g.tm.length-1:Nat):=(Aa (by omega) (by omega)).trans (by omega)
 have hc:=Adw g.vs 154 (fun v=>!Js v) hg.vs (fun v hv1=>by
  refine Pure.run Tryz.func154 ?_
  refine AK.pc (hv v hv1) ?_
  exact AK.rz Tryz.func154 rfl)
 have ha:(!g.vs.any fun v=>!Js v)=g.vs.all Js:=by
  induction g.vs with
  | nil=>rfl
  | cons v l ih=>rw [List.any_cons,List.all_cons,← ih];cases Js v<;>simp
 rw [e0,e1]
 refine AK.at_ ?_
 refine AK.ev 100 rfl ?_
 refine AK.pc (Aug len) ?_
 refine AK.dn 0 2 ?_
 refine Ax (fun S'=>Ndo.index rfl rfl rfl rfl rfl rfl rfl rfl rfl (by omega) (A8 (f:=Lr) hx0)) ?_
 refine Drv.go ?_
 refine Drv.pc (Ab3 x0 (0,0) (hg.rows x0 (List.mem_of_getElem? hx0))) ?_
 cases h0:hasY x0 (0,0) with
 | false =>
   refine Drv.t false ?_
   refine Cp 9 ?_
   refine Drv.t false ?_
   refine Drv.go ?_
   refine Drv.z ?_
   exact AK.rz Tryz.func105 rfl
 | true =>
   refine Drv.t true ?_
   refine Drv.go ?_
   refine Ax (fun S'=>Ndo.index rfl rfl rfl rfl rfl rfl rfl rfl rfl (by rw [hw];omega) (by rw [hw];exact A8 (f:=Lr) hx1)) ?_
   refine Drv.go ?_
   refine Drv.pc (Ab3 x1 (len,0) (hg.rows x1 (List.mem_of_getElem? hx1))) ?_
   refine Cp 1 ?_
   cases h1:hasY x1 (len,0) with
   | false =>
     refine Drv.t false ?_
     refine Drv.go ?_
     refine Drv.z ?_
     exact AK.rz Tryz.func105 rfl
   | true =>
     refine Drv.t true ?_
     refine Drv.go ?_
     refine As hc ?_
     refine Drv.z ?_
     refine AK.rz Tryz.func105 ?_
     rw [← ha];rfl
theorem Aqr (g:Sg)(hg:SgOk g)(size len:Int)(hs0:-1000000≤size)(hs1:size≤1000000)(hv:∀ v,v∈g.vs→Pure X 155 [.agg (Em v)] (vb (Js v))):Pure X 105 [vi size,vi len,.agg (B4 g)] (vb (Rc size len g)):=by
 have l1:((D9 g.tm).length:Int)=g.tm.length:=by simp [D9]
 have l2:((Rf g.vs).length:Int)=g.vs.length:=by simp [Rf]
 have l3:((T1 g.ms).length:Int)=g.ms.length:=by simp [T1]
 have htm:=hg.tm
 have hvs:=hg.vs
 have hms:=hg.ms
 have hw:IntKind.i64.wrap ((g.tm.length:Int)-1)=g.tm.length-1:=Aa (by omega) (by omega)
 have hb:=Fv ((D9 g.tm).length:Int) 1 16
 rw [l1] at hb
 unfold Rc
 refine Pure.run Tryz.func105 ?_
 refine AK.pc (Awo size len hs0 hs1) ?_
 cases h1:Ov size len with
 | false =>
   refine AK.gy ?_
   refine AK.gy ?_
   refine AK.gy ?_
   refine AK.yes ?_
   refine AK.rz Tryz.func105 ?_
   rfl
 | true =>
   refine AK.gn ?_
   refine AK.pc (Fv ((D9 g.tm).length:Int) 1 16) ?_
   rw [l1]
   cases h2:A0 (g.tm.length:Int) 1 16 with
   | false =>
     refine AK.gy ?_
     refine AK.gy ?_
     refine AK.yes ?_
     refine AK.rz Tryz.func105 ?_
     rfl
   | true =>
     have h2':=Az.1 h2
     refine AK.gn ?_
     refine AK.gd (fun g3=>?_) (fun g3=>?_)
     ·have g3':((g.vs.length:Int)==g.tm.length-1)=false:=by
       have:(((Rf g.vs).length:Int) != IntKind.i64.wrap ((g.tm.length:Int)-1))=true:=g3
       rw [l2,hw] at this;simpa using this
      refine AK.yes ?_
      refine AK.rz Tryz.func105 ?_
      rw [g3'];rfl
     have g3':((g.vs.length:Int)==g.tm.length-1)=true:=by
      have:(((Rf g.vs).length:Int) != IntKind.i64.wrap ((g.tm.length:Int)-1))=false:=g3
      rw [l2,hw] at this;simpa using this
     rw [g3']
     refine AK.if_ (fun g4=>?_) (fun g4=>?_)
     ·have g4':((g.ms.length:Int)==g.tm.length-1)=false:=by
       have:(((T1 g.ms).length:Int) != IntKind.i64.wrap ((g.tm.length:Int)-1))=true:=g4
       rw [l3,hw] at this;simpa using this
      refine AK.rz Tryz.func105 ?_
      rw [g4'];rfl
     have g4':((g.ms.length:Int)==g.tm.length-1)=true:=by
      have:(((T1 g.ms).length:Int) != IntKind.i64.wrap ((g.tm.length:Int)-1))=false:=g4
      rw [l3,hw] at this;simpa using this
     rw [g4']
     simp only [Bool.true_and]
     have L20:=Aqq g hg size len (by omega) (by omega) hv
     generalize (hasY (g.tm.getD 0 []) (0,0)&&(hasY (g.tm.getD (g.tm.length-1) []) (len,0)&&g.vs.all Js))=G at L20 ⊢
     refine AK.mint (d:=8) rfl rfl rfl ?_
     refine AK.while_ (ι:=Nat) 1 1 (fun i=>i≤g.tm.length∧((g.tm.take i).flatten.length≤40)∧Ke size [] g.tm=Ke size (g.tm.take i).flatten (g.tm.drop i)) (fun i=>[(47,vi i),(46,vi g.tm.length),(45,.sl (D9 g.tm) .no),(8,.sl (G6 (g.tm.take i).flatten) (.tok 0)),(0,vi size),(1,vi len),(7,vi g.tm.length),(5,.ptr 0 0 0)])
      (fun i=>⟨[[B4 g]],[(g.tm.take i).flatten.length]⟩) (fun i=>g.tm.length-i) ?_ 0 ⟨Nat.zero_le _,by simp,rfl⟩ ⟨rfl,A5 l1,rfl,rfl,rfl,rfl,rfl,rfl,trivial⟩
     rintro i ⟨hi,hse,hT⟩ IH
     refine AK.ev 100 rfl ?_
     refine AK.ifj 0 20 (fun h=>?_) (fun h=>?_)
     ·have hlt:i<g.tm.length:=by have:=of_decide_eq_true h;omega
      obtain ⟨x,hx⟩:=Ac g.tm hlt
      have hft:=Zj hx
      rw [Av hx] at hT
      simp only [Ke] at hT
      have hxl:=hg.rows x (List.mem_of_getElem? hx)
      have lx:((G6 x).length:Int)=x.length:=by simp [G6]
      generalize hse2:(g.tm.take i).flatten=seen at hse hT hft ⊢
      have L14:Ky size seen none x=true→AK X ⟨105,Tryz.f105,0,0⟩ (Hn false 14 Tryz.f105) (F14 g size len i x seen) ⟨[[B4 g]],[seen.length]⟩ (fun e S=>e=.ret (vb (Ke size [] g.tm&&G))∧S=⟨[],[]⟩):=fun hrow=>by
       rw [hrow] at hT
       refine AK.at_ ?_
       refine AK.ei (fun g5=>?_) (fun g5=>?_)
       ·have g5':((x.length:Int)==0)=true:=by have:(((G6 x).length:Int)==0)=true:=g5;rwa [lx] at this
        refine AK.rz Tryz.func105 ?_
        rw [hT,g5'];rfl
       have g5':((x.length:Int)==0)=false:=by have:(((G6 x).length:Int)==0)=false:=g5;rwa [lx] at this
       have hx0:1≤(G6 x).length:=by have:(x.length:Int)≠0:=by simpa using g5'
                                    omega
       refine AK.op (Ndo.append (res:=G6 (seen++x)) rfl rfl rfl rfl rfl rfl rfl rfl rfl rfl rfl rfl rfl rfl (by simp [G6]) (An2 _) (An2 _) (Au2 x) (Nat.ble_eq_true_of_le hx0) ?_ ?_ rfl) ?_
       ·simp only [G6,List.length_map];omega
       ·rw [Aq7]
       refine AK.sto ⟨[[B4 g]],[(seen++x).length]⟩ ?_ (by simp [G6])
       refine AK.if_ (fun g6=>?_) (fun g6=>?_)
       ·have g6':decide (((seen++x).length:Int) > 40)=true:=by have:decide (((G6 (seen++x)).length:Int) > 40)=true:=g6;simpa [G6] using this
        refine AK.rz Tryz.func105 ?_
        rw [hT,g5',g6'];rfl
       have g6':decide (((seen++x).length:Int) > 40)=false:=by have:decide (((G6 (seen++x)).length:Int) > 40)=false:=g6;simpa [G6] using this
       have g7:¬ (((seen++x).length:Int) > 40):=of_decide_eq_false g6'
       refine IH (i+1) ⟨hlt,by rw [hft];omega,by rw [hft,hT,g5',g6'];rfl⟩ (by omega) _ _ ⟨vsx (by omega),rfl,rfl,?_,rfl,rfl,rfl,rfl,trivial⟩ ?_ rfl rfl
       ·rw [hft];rfl
       ·rw [hft];rfl
      refine AK.ev 100 rfl ?_
      refine AK.opj 8 (Ndo.index rfl rfl rfl rfl rfl rfl rfl rfl rfl (by omega) (A8 (f:=Lr) hx)) ?_
      refine AK.back' 1 1 (Anm g size len hs0 hs1 i seen x (by omega) hxl hx _ L14 (fun hb2=>by rw [hT,hb2];rfl)) ⟨rfl,rfl,rfl,rfl,rfl,rfl,rfl,rfl,rfl,trivial⟩ rfl rfl rfl rfl rfl
     ·have hie:i=g.tm.length:=by have:=of_decide_eq_false h;omega
      subst hie
      have ht:Ke size [] g.tm=true:=by rw [hT,List.drop_length];rfl
      rw [ht,Bool.true_and]
      exact AK.back' 1 0 L20 ⟨rfl,rfl,rfl,rfl,trivial⟩ rfl rfl rfl rfl rfl
def eqY (s x:Int × Int):Bool:=(x.1==s.1)&&(x.2==s.2)
theorem Al1 (s:Int × Int)(l:List (Int × Int)):∀ i:Nat,decide (Q9 i l s≥0)=l.any (eqY s):=by
 induction l with
 | nil=>intro i;simp [Q9]
 | cons x l ih =>
   intro i
   rw [List.any_cons,← ih (i+1)]
   have e0:Q9 i (x::l) s=if eqY s x=true then (i:Int) else Q9 (i+1) l s:=rfl
   cases h:eqY s x with
   | true =>
     rw [h,if_pos rfl] at e0
     simp [e0]
   | false =>
     rw [h,if_neg (by simp)] at e0
     simp [e0]
theorem Xh (l:List (Int × Int))(s:Int × Int):hasY l s=l.any (eqY s):=Al1 s l 0
theorem Alw (a b:List (Int × Int))(s:Int × Int):hasY (a++b) s=(hasY a s||hasY b s):=by simp only [Xh,List.any_append]
theorem Alf (s:Int × Int):eqY s s=true:=by simp [eqY]
theorem As9 {s x:Int × Int}(h:eqY s x=true):x=s:=by
 simp only [eqY,Bool.and_eq_true,beq_iff_eq] at h
 exact Prod.ext h.1 h.2
theorem Alx {l:List (Int × Int)}{s:Int × Int}(h:s∈l):hasY l s=true:=by
 rw [Xh,List.any_eq_true];exact ⟨s,h,Alf s⟩
theorem Amc {l:List (Int × Int)}{s:Int × Int}(h:hasY l s=true):s∈l:=by
 rw [Xh,List.any_eq_true] at h
 obtain ⟨x,hx,he⟩:=h
 rw [← As9 he];exact hx
theorem Aq2 (s:Int × Int)(l:List (List (Int × Int))):∀ k:Nat,P5 k l s=-1∨P5 k l s≥k:=by
 induction l with
 | nil=>intro k;exact .inl rfl
 | cons x l ih =>
   intro k
   simp only [P5]
   split
   ·exact .inr (Int.le_refl _)
   ·rcases ih (k+1) with h | h
    ·exact .inl h
    ·exact .inr (by omega)
theorem Ab7 {s:Int × Int}:∀ (tm:List (List (Int × Int)))(k i:Nat)(x:List (Int × Int)),tm[i]?=some x→hasY x s=true→(P5 k tm s != ((k+i:Nat):Int))=hasY (tm.take i).flatten s
 | [],k,i,x,h,_=>by simp at h
 | y::l,k,0,x,h,hs=>by
   simp at h;subst h
   simp only [P5,hs,if_true,List.take_zero,List.flatten_nil,Nat.add_zero]
   simp;rfl
 | y::l,k,i+1,x,h,hs=>by
   have h':l[i]?=some x:=by simpa using h
   simp only [P5,List.take_succ_cons,List.flatten_cons]
   rw [Alw]
   cases hy:hasY y s with
   | true =>
     rw [if_pos rfl,Bool.true_or]
     simp;omega
   | false =>
     rw [if_neg (by simp),Bool.false_or,← Ab7 l (k+1) i x h' hs]
     congr 1
     omega
theorem Yd {size:Int}{seen:List (Int × Int)}:∀ (l:List (Int × Int))(p:Option (Int × Int)),Ky size seen p l=true→∀ s,s∈l→hasY seen s=false
 | [],_,_=>fun s hs=>by cases hs
 | y::l,p,h=>fun s hs=>by
   simp only [Ky,Bool.and_eq_true,Bool.not_eq_true'] at h
   rcases List.mem_cons.1 hs with rfl | hs
   ·exact h.1.2.2
   ·exact Yd l _ h.2 s hs
theorem Vx {size:Int}:∀ (tm:List (List (Int × Int)))(seen:List (Int × Int)),Ke size seen tm=true→∀ (i:Nat)(x:List (Int × Int))(s:Int × Int),tm[i]?=some x→hasY x s=true→hasY (seen++(tm.take i).flatten) s=false
 | [],_,_=>fun i x s h=>by simp at h
 | y::l,seen,hT=>fun i x s h hs=>by
   simp only [Ke,Bool.and_eq_true] at hT
   cases i with
   | zero =>
     simp at h;subst h
     simpa using Yd _ _ hT.1 s (Amc hs)
   | succ i =>
     have h':l[i]?=some x:=by simpa using h
     have:=Vx l (seen++y) hT.2.2.2 i x s h' hs
     simpa [List.append_assoc] using this
theorem Ahw {size:Int}{tm:List (List (Int × Int))}(hT:Ke size [] tm=true){i:Nat}{x:List (Int × Int)}(hx:tm[i]?=some x)(s:Int × Int):(P5 0 tm s==(i:Int))=hasY x s:=by
 cases hs:hasY x s with
 | true =>
   have h1:=Vx tm [] hT i x s hx hs
   have h2:=Ab7 tm 0 i x hx hs
   rw [List.nil_append] at h1
   rw [h1,Nat.zero_add] at h2
   simpa using h2
 | false =>
   have key:∀ (tm:List (List (Int × Int))) (k i:Nat),tm[i]?=some x→(P5 k tm s==((k+i:Nat):Int))=false:=by
    intro tm
    induction tm with
    | nil=>intro k i h;simp at h
    | cons y l ih =>
      intro k i h
      cases i with
      | zero =>
        simp at h;subst h
        simp only [P5,hs]
        rcases Aq2 s l (k+1) with h | h<;>simp<;>omega
      | succ i =>
        have h':l[i]?=some x:=by simpa using h
        simp only [P5]
        split
        ·simp;omega
        ·have:=ih (k+1) i h'
         rw [← this];congr 1;omega
   have:=key tm 0 i hx
   simpa using this
abbrev G0 (g:Sg)(size len:Int):B7:=[(0,vi size),(1,vi len),(7,vi g.tm.length),(5,.ptr 0 0 0)]
theorem Ap7 (g:Sg)(hg:SgOk g)(size len:Int)(hT:Ke size [] g.tm=true)(hK:1≤g.tm.length)(hK2:g.tm.length≤16)(hvl:g.vs.length=g.tm.length-1)(hv:∀ v,v∈g.vs→Pure X 95 [.agg (Em v)] (vb (Js v))) :
 AK X ⟨57,Tryz.f57,0,0⟩ (Hn false 17 Tryz.f57) (G0 g size len) ⟨[[B4 g]],[]⟩
  (fun e S=>e=.ret (vb (hasY (g.tm.getD 0 []) (0,0)&&(hasY (g.tm.getD (g.tm.length-1) []) (len,0)&&g.vs.all Js)))∧S=⟨[],[]⟩):=by
 obtain ⟨x0,hx0⟩:=Ac g.tm (i:=0) (by omega)
 obtain ⟨x1,hx1⟩:=Ac g.tm (i:=g.tm.length-1) (by omega)
 have e0:g.tm.getD 0 []=x0:=by simp [List.getD,hx0]
 have e1:g.tm.getD (g.tm.length-1) []=x1:=by simp [List.getD,hx1]
 have hw:IntKind.i64.wrap ((g.tm.length:Int)-1)=(g.tm.length-1:Nat):=(Aa (by omega) (by omega)).trans (by omega)
 have r0:=Ahw hT hx0 (0,0)
 have r1:=Ahw hT hx1 (len,0)
 rw [e0,e1]
 refine AK.at_ ?_
 refine AK.ev 100 rfl ?_
 refine AK.while_ (ι:=Nat) 1 0 (fun i=>i≤g.vs.length∧g.vs.all Js=(g.vs.drop i).all Js) (fun i=>(12,vi i)::G0 g size len) (fun _=>⟨[[B4 g]],[]⟩) (fun i=>g.vs.length-i) ?_ 0 ⟨Nat.zero_le _,rfl⟩
  ⟨rfl,rfl,rfl,rfl,rfl,trivial⟩
 rintro i ⟨hi,hU⟩ IH
 refine AK.ei (fun h=>?_) (fun h=>?_)
 ·have hlt:i<g.vs.length:=by have:=of_decide_eq_true h;rw [hw] at this;omega
  obtain ⟨v,hv1⟩:=Ac g.vs hlt
  rw [Av hv1,List.all_cons] at hU
  refine AK.ix i (by omega) (A8 (f:=Em) hv1) ?_
  refine AK.pc (hv v (List.mem_of_getElem? hv1)) ?_
  refine AK.if_ (fun g2=>?_) (fun g2=>?_)
  ·have g':Js v=false:=by simpa using (show (!Js v)=true from g2)
   refine AK.rz Tryz.func57 ?_
   rw [hU,g'];simp
  ·have g':Js v=true:=by simpa using (show (!Js v)=false from g2)
   exact IH (i+1) ⟨hlt,by rw [hU,g'];rfl⟩ (by omega) _ _ ⟨vsx (by omega),rfl,rfl,rfl,rfl,trivial⟩ rfl rfl rfl
 ·have hie:i=g.vs.length:=by have:=of_decide_eq_false h;rw [hw] at this;omega
  have ha:g.vs.all Js=true:=by rw [hU,hie,List.drop_length];rfl
  rw [ha,Bool.and_true]
  refine AK.pc (Ahb g hg (0,0)) ?_
  refine AK.gd (fun g2=>?_) (fun g2=>?_)
  ·have g':hasY x0 (0,0)=true:=by rw [← r0];exact g2
   refine AK.pc (Ahb g hg (len,0)) ?_
   refine AK.rz Tryz.func57 ?_
   rw [hw,g',← r1];rfl
  ·have g':hasY x0 (0,0)=false:=by rw [← r0];exact g2
   refine AK.rz Tryz.func57 ?_
   rw [g'];rfl
theorem Amw (g:Sg)(hg:SgOk g)(size len:Int)(hs0:-1000000≤size)(hs1:size≤1000000)(i:Nat)(seen x:List (Int × Int))(cn:Nat)(hse:(g.tm.take i).flatten=seen)(hx:g.tm[i]?=some x)(R:Bool)
 (h:Ky size seen none x=true→AK X ⟨57,Tryz.f57,0,0⟩ (Hn false 7 Tryz.f57) ((9,vi i)::(8,vi cn)::G0 g size len) ⟨[[B4 g]],[]⟩ (fun e S=>e=.ret (vb R)∧S=⟨[],[]⟩))
 (hbad:Ky size seen none x=false→R=false) :
 AK X ⟨57,Tryz.f57,0,0⟩ (Hn false 12 Tryz.f57) ((9,vi i)::(10,.sl (G6 x) .no)::(8,vi cn)::G0 g size len) ⟨[[B4 g]],[]⟩ (fun e S=>e=.ret (vb R)∧S=⟨[],[]⟩):=by
 have hlen:((G6 x).length:Int)=x.length:=by simp [G6]
 have hxl:=hg.rows x (List.mem_of_getElem? hx)
 refine AK.at_ ?_
 refine AK.ev 100 rfl ?_
 refine AK.while_ (ι:=Nat) 1 0 (fun j=>j≤x.length∧Ky size seen none x=Ky size seen (M8 x j) (x.drop j)) (fun j=>(11,vi j)::(9,vi i)::(10,.sl (G6 x) .no)::(8,vi cn)::G0 g size len) (fun _=>⟨[[B4 g]],[]⟩) (fun j=>x.length-j) ?_ 0 ⟨Nat.zero_le _,rfl⟩
  ⟨rfl,rfl,rfl,rfl,rfl,rfl,rfl,rfl,trivial⟩
 rintro j ⟨hj,hT⟩ IH
 refine AK.ev 100 rfl ?_
 refine AK.ifj 0 7 (fun hh=>?_) (fun hh=>?_)
 ·have hlt:j<x.length:=by have:=of_decide_eq_true hh;omega
  obtain ⟨s,hs⟩:=Ac x hlt
  rw [Ad3 hs] at hT
  have hrow:(P5 0 g.tm s != (i:Int))=hasY seen s:=by
   have:=Ab7 g.tm 0 i x hx (Alx (List.mem_of_getElem? hs))
   rw [hse,Nat.zero_add] at this;exact this
  have step:(Rk (M8 x j) s&&!hasY seen s)=true→F9 size s.1 s.2=true→(j+1≤x.length∧Ky size seen none x=Ky size seen (M8 x (j+1)) (x.drop (j+1))):=fun h1 h2=>⟨hlt,by rw [hT,h2,h1];rfl⟩
  refine AK.ev 100 rfl ?_
  refine AK.dn 0 3 ?_
  refine Ax (fun S'=>Ndo.index rfl rfl rfl rfl rfl rfl rfl rfl rfl (by omega) (A8 (f:=C2) hs)) ?_
  refine Cp 1 ?_
  refine Drv.pc (Ahg size s.1 s.2 hs0 hs1) ?_
  refine Cp 1 ?_
  cases h2:F9 size s.1 s.2 with
  | false =>
    rw [h2] at hT
    refine Drv.t true ?_
    refine Cp 16 ?_
    refine Drv.t true ?_
    refine Drv.go ?_
    refine Drv.z ?_
    refine AK.yes ?_
    refine AK.rz Tryz.func57 ?_
    rw [hbad hT]
  | true =>
    refine Drv.t false ?_
    refine Cp 2 ?_
    cases j with
    | zero =>
      have hp:Rk (M8 x 0) s=true:=rfl
      refine Drv.t false ?_
      refine Cp 13 ?_
      refine Drv.t false ?_
      refine Drv.go ?_
      refine Ax (fun S'=>Ndo.index rfl rfl rfl rfl rfl rfl rfl rfl rfl (by omega) (A8 (f:=C2) hs)) ?_
      refine Drv.go ?_
      refine As (Ahb g hg s) ?_
      refine Drv.z ?_
      refine AK.if_ (fun g3=>?_) (fun g3=>?_)
      ·have g3':hasY seen s=true:=by rw [← hrow];exact g3
       refine AK.rz Tryz.func57 ?_
       rw [hbad (by rw [hT,g3'];simp)]
      ·have g3':hasY seen s=false:=by rw [← hrow];exact g3
       exact IH (0+1) (step (by rw [hp,g3'];rfl) h2) (by omega) _ _ ⟨vsx (by omega),rfl,rfl,rfl,rfl,rfl,rfl,rfl,trivial⟩ rfl rfl rfl
    | succ j =>
      obtain ⟨q,hq⟩:=Ac x (i:=j) (by omega)
      have hp:Rk (M8 x (j+1)) s=Mz q s:=by show Rk (x[j]?) s=_;rw [hq];rfl
      have hw:IntKind.i64.wrap (((j+1:Nat):Int)-1)=j:=(Aa (by omega) (by omega)).trans (by omega)
      refine Drv.t true ?_ (hb:=decide_eq_true (by omega))
      refine Drv.go ?_
      refine Ax (fun S'=>Ndo.index rfl rfl rfl rfl rfl rfl rfl rfl rfl (by rw [hw];omega) (by rw [hw];exact A8 (f:=C2) hq)) ?_
      refine Drv.go ?_
      refine Ax (fun S'=>Ndo.index rfl rfl rfl rfl rfl rfl rfl rfl rfl (by omega) (A8 (f:=C2) hs)) ?_
      refine Drv.go ?_
      refine Drv.pc (At8 q s) ?_
      refine Cp 3 ?_
      cases h3:Mz q s with
      | false =>
        refine Drv.t true ?_
        refine Drv.go ?_
        refine Drv.z ?_
        refine AK.yes ?_
        refine AK.rz Tryz.func57 ?_
        rw [hbad (by rw [hT,hp,h3];simp)]
      | true =>
        rw [h3] at hp
        refine Drv.t false ?_
        refine Drv.go ?_
        refine Ax (fun S'=>Ndo.index rfl rfl rfl rfl rfl rfl rfl rfl rfl (by omega) (A8 (f:=C2) hs)) ?_
        refine Drv.go ?_
        refine As (Ahb g hg s) ?_
        refine Drv.z ?_
        refine AK.if_ (fun g3=>?_) (fun g3=>?_)
        ·have g3':hasY seen s=true:=by rw [← hrow];exact g3
         refine AK.rz Tryz.func57 ?_
         rw [hbad (by rw [hT,g3'];simp)]
        ·have g3':hasY seen s=false:=by rw [← hrow];exact g3
         exact IH ((j+1)+1) (step (by rw [hp,g3'];rfl) h2) (by omega) _ _ ⟨vsx (by omega),rfl,rfl,rfl,rfl,rfl,rfl,rfl,trivial⟩ rfl rfl rfl
 ·have hje:j=x.length:=by have:=of_decide_eq_false hh;omega
  have ht:Ky size seen none x=true:=by rw [hT,hje,List.drop_length];rfl
  exact AK.back' 1 0 (h ht) ⟨rfl,rfl,rfl,rfl,rfl,rfl,trivial⟩ rfl rfl rfl rfl rfl
theorem Ap8 (g:Sg)(hg:SgOk g)(size len:Int)(hs0:-1000000≤size)(hs1:size≤1000000)(hv:∀ v,v∈g.vs→Pure X 95 [.agg (Em v)] (vb (Js v))):Pure X 57 [vi size,vi len,.agg (B4 g)] (vb (Rc size len g)):=by
 have l1:((D9 g.tm).length:Int)=g.tm.length:=by simp [D9]
 have l2:((Rf g.vs).length:Int)=g.vs.length:=by simp [Rf]
 have l3:((T1 g.ms).length:Int)=g.ms.length:=by simp [T1]
 have htm:=hg.tm
 have hvs:=hg.vs
 have hms:=hg.ms
 have hw:IntKind.i64.wrap (((D9 g.tm).length:Int)-1)=g.tm.length-1:=by rw [l1];exact Aa (by omega) (by omega)
 unfold Rc
 refine Pure.run Tryz.func57 ?_
 refine AK.pc (Awk size len hs0 hs1) ?_
 cases h1:Ov size len with
 | false =>
   refine AK.gy ?_
   refine AK.gy ?_
   refine AK.gy ?_
   refine AK.gy ?_
   refine AK.yes ?_
   refine AK.rz Tryz.func57 ?_
   rfl
 | true =>
   refine AK.gn ?_
   refine AK.gd (fun a1=>?_) (fun a1=>?_)
   ·have a1':((D9 g.tm).length:Int)<1:=of_decide_eq_true a1
    have h2:A0 (g.tm.length:Int) 1 16=false:=by
     cases h:A0 (g.tm.length:Int) 1 16 with
     | false=>rfl
     | true=>have:=Az.1 h;omega
    refine AK.gy ?_
    refine AK.gy ?_
    refine AK.yes ?_
    refine AK.rz Tryz.func57 ?_
    rw [h2];rfl
   have a1':¬ ((D9 g.tm).length:Int)<1:=of_decide_eq_false a1
   refine AK.gd (fun a2=>?_) (fun a2=>?_)
   ·have a2':((D9 g.tm).length:Int) > 16:=of_decide_eq_true a2
    have h2:A0 (g.tm.length:Int) 1 16=false:=by
     cases h:A0 (g.tm.length:Int) 1 16 with
     | false=>rfl
     | true=>have:=Az.1 h;omega
    refine AK.gy ?_
    refine AK.yes ?_
    refine AK.rz Tryz.func57 ?_
    rw [h2];rfl
   have a2':¬ ((D9 g.tm).length:Int) > 16:=of_decide_eq_false a2
   have h2:A0 (g.tm.length:Int) 1 16=true:=Az.2 (by omega)
   rw [h2]
   refine AK.gd (fun g3=>?_) (fun g3=>?_)
   ·have g3':((g.vs.length:Int)==g.tm.length-1)=false:=by
     have:(((Rf g.vs).length:Int) != IntKind.i64.wrap (((D9 g.tm).length:Int)-1))=true:=g3
     rw [l2,hw] at this;simpa using this
    refine AK.yes ?_
    refine AK.rz Tryz.func57 ?_
    rw [g3'];rfl
   have g3':((g.vs.length:Int)==g.tm.length-1)=true:=by
    have:(((Rf g.vs).length:Int) != IntKind.i64.wrap (((D9 g.tm).length:Int)-1))=false:=g3
    rw [l2,hw] at this;simpa using this
   have g3q:(g.vs.length:Int)=g.tm.length-1:=by simpa using g3'
   rw [g3']
   refine AK.if_ (fun g4=>?_) (fun g4=>?_)
   ·have g4':((g.ms.length:Int)==g.tm.length-1)=false:=by
     have:(((T1 g.ms).length:Int) != IntKind.i64.wrap (((D9 g.tm).length:Int)-1))=true:=g4
     rw [l3,hw] at this;simpa using this
    refine AK.rz Tryz.func57 ?_
    rw [g4'];rfl
   have g4':((g.ms.length:Int)==g.tm.length-1)=true:=by
    have:(((T1 g.ms).length:Int) != IntKind.i64.wrap (((D9 g.tm).length:Int)-1))=false:=g4
    rw [l3,hw] at this;simpa using this
   rw [g4']
   simp only [Bool.true_and]
   have L17:=fun hT=>Ap7 g hg size len hT (by omega) (by omega) (by omega) hv
   generalize (hasY (g.tm.getD 0 []) (0,0)&&(hasY (g.tm.getD (g.tm.length-1) []) (len,0)&&g.vs.all Js))=G at L17 ⊢
   refine AK.while_ (ι:=Nat) 1 0 (fun i=>i≤g.tm.length∧((g.tm.take i).flatten.length≤40)∧Ke size [] g.tm=Ke size (g.tm.take i).flatten (g.tm.drop i)) (fun i=>(9,vi i)::(8,vi (g.tm.take i).flatten.length)::G0 g size len)
    (fun i=>⟨[[B4 g]],[]⟩) (fun i=>g.tm.length-i) ?_ 0 ⟨Nat.zero_le _,by simp,rfl⟩ ⟨rfl,rfl,rfl,rfl,A5 l1,rfl,trivial⟩
   rintro i ⟨hi,hse,hT⟩ IH
   refine AK.ev 100 rfl ?_
   refine AK.ifj 0 17 (fun h=>?_) (fun h=>?_)
   ·have hlt:i<g.tm.length:=by have:=of_decide_eq_true h;omega
    obtain ⟨x,hx⟩:=Ac g.tm hlt
    have hft:=Zj hx
    rw [Av hx] at hT
    simp only [Ke] at hT
    have hxl:=hg.rows x (List.mem_of_getElem? hx)
    have lx:((G6 x).length:Int)=x.length:=by simp [G6]
    generalize hse2:(g.tm.take i).flatten=seen at hse hT hft ⊢
    have hcn:IntKind.i64.wrap ((seen.length:Int)+(G6 x).length)=((seen++x).length:Nat):=by rw [List.length_append,lx];exact (Aa (by omega) (by omega)).trans (by omega)
    refine AK.ev 100 rfl ?_
    refine AK.ix i (by omega) (A8 (f:=Lr) hx) ?_
    refine AK.as_ 8 (vi ((seen++x).length:Nat)) ?_ (A5 hcn)
    refine AK.gd (fun g5=>?_) (fun g5=>?_)
    ·have g5':((x.length:Int)==0)=true:=by have:(((G6 x).length:Int)==0)=true:=g5;rwa [lx] at this
     refine AK.yes ?_
     refine AK.rz Tryz.func57 ?_
     rw [hT,g5'];simp
    have g5':((x.length:Int)==0)=false:=by have:(((G6 x).length:Int)==0)=false:=g5;rwa [lx] at this
    refine AK.ifj 0 12 (fun g6=>?_) (fun g6=>?_)
    ·have g6':decide (((seen++x).length:Int) > 40)=true:=g6
     refine AK.ev 100 rfl ?_
     refine AK.rz Tryz.func57 ?_
     rw [hT,g6'];simp
    have g6':decide (((seen++x).length:Int) > 40)=false:=g6
    have g7:¬ (((seen++x).length:Int) > 40):=of_decide_eq_false g6'
    refine AK.back' 1 0 (Amw g hg size len hs0 hs1 i seen x (seen++x).length hse2 hx _ (fun hrow=>?_) (fun hb2=>by rw [hT,hb2];rfl)) ⟨rfl,rfl,rfl,rfl,rfl,rfl,rfl,trivial⟩ rfl rfl rfl rfl rfl
    rw [hrow] at hT
    refine AK.at_ ?_
    refine AK.ev 100 rfl ?_
    refine IH (i+1) ⟨hlt,by rw [hft];omega,by rw [hft,hT,g5',g6'];rfl⟩ (by omega) _ _ ⟨vsx (by omega),?_,rfl,rfl,rfl,rfl,trivial⟩ rfl rfl rfl
    rw [hft];rfl
   ·have hie:i=g.tm.length:=by have:=of_decide_eq_false h;omega
    subst hie
    have ht:Ke size [] g.tm=true:=by rw [hT,List.drop_length];rfl
    rw [ht,Bool.true_and]
    exact AK.back' 1 0 (L17 ht) ⟨rfl,rfl,rfl,rfl,trivial⟩ rfl rfl rfl rfl rfl
theorem At5 (lo hi:Int):Pure X 182 [.agg [vi lo,vi hi]] (vb (decide (lo≤hi))):=by
 refine Pure.run Tryz.func182 ?_
 exact AK.rz Tryz.func182 rfl
def Gk (lo hi:Int):Bool:=((lo==1)&&(hi==0))||(isV lo&&(isV hi&&decide (lo≤hi)))
theorem Ahf (lo hi:Int):Pure X 134 [.agg [vi lo,vi hi]] (vb (Gk lo hi)):=by
 refine Pure.run Tryz.func134 ?_
 refine AK.gd (fun g=>?_) (fun g=>?_)
 ·have g':(lo==1)=true:=g
  refine AK.gd (fun g2=>?_) (fun g2=>?_)
  ·have g2':(hi==0)=true:=g2
   refine AK.rz Tryz.func134 ?_
   unfold Gk;rw [g',g2'];rfl
  ·have g2':(hi==0)=false:=g2
   have hh:((lo==1)&&(hi==0))=false:=by rw [g2'];simp
   refine AK.pc (At5 lo hi) ?_
   refine AK.gd (fun k1=>?_) (fun k1=>?_)
   ·have k1':decide (lo≤hi)=true:=k1
    refine AK.pc (Ahh lo) ?_
    cases k2':isV lo with
    | true =>
      refine AK.gy ?_
      refine AK.pc (Ahh hi) ?_
      refine AK.rz Tryz.func134 ?_
      simp only [Gk,hh,k1',k2',Bool.and_true,Bool.true_and,Bool.false_or]
    | false =>
      refine AK.gn ?_
      refine AK.rz Tryz.func134 ?_
      unfold Gk;rw [hh,k2'];rfl
   ·have k1':decide (lo≤hi)=false:=k1
    refine AK.gn ?_
    refine AK.rz Tryz.func134 ?_
    simp only [Gk,hh,k1',Bool.and_false,Bool.or_false]
 ·have g':(lo==1)=false:=g
  have hh:((lo==1)&&(hi==0))=false:=by rw [g'];rfl
  refine AK.gn ?_
  refine AK.pc (At5 lo hi) ?_
  refine AK.gd (fun k1=>?_) (fun k1=>?_)
  ·have k1':decide (lo≤hi)=true:=k1
   refine AK.pc (Ahh lo) ?_
   cases k2':isV lo with
   | true =>
     refine AK.gy ?_
     refine AK.pc (Ahh hi) ?_
     refine AK.rz Tryz.func134 ?_
     simp only [Gk,hh,k1',k2',Bool.and_true,Bool.true_and,Bool.false_or]
   | false =>
     refine AK.gn ?_
     refine AK.rz Tryz.func134 ?_
     unfold Gk;rw [hh,k2'];rfl
  ·have k1':decide (lo≤hi)=false:=k1
   refine AK.gn ?_
   refine AK.rz Tryz.func134 ?_
   simp only [Gk,hh,k1',Bool.and_false,Bool.or_false]
theorem Ahi (v:Vl):Pure X 95 [.agg (Em v)] (vb (Js v)):=by
 refine Pure.run Tryz.func95 ?_
 refine AK.pc (Ahf v.lo v.hi) ?_
 exact AK.rz Tryz.func95 rfl
def Up (nv i:Nat):Int:=1+nv+i
def P8 (size:Int)(nv:Nat):Nat→List Sg→Bool
 | _,[]=>true
 | i,x::l=>Rc size (Up nv i) x&&P8 size nv (i+1) l
def Aau (size:Int)(nv na:Nat)(a:Ab):Bool :=
 if Ex a.n a.d=true then (a.sg.length:Int)==0 else Iv a.n a.d&&((a.n==size)&&(((a.sg.length:Int)==na)&&P8 size nv 0 a.sg))
abbrev Nr (n:Nd)(a:Ab):Bool:=Aau (Jp n) (Aj n 31).length (Aj n 32).length a
theorem Zu {n:Nd}(hl:n.kids.length≤4500){i:Nat}(hi:i≤100000):IntKind.i64.wrap (IntKind.i64.wrap (1+((Aj n 31).length:Int))+i)=Up (Aj n 31).length i:=by
 have h1:=Fs n 31
 rw [Aa (n:=1+((Aj n 31).length:Int)) (by omega) (by omega),Aa (by omega) (by omega)];rfl
theorem Ad5 {n:Nd}(hl:n.kids.length≤4500):0≤Jp n∧Jp n≤100000:=by
 have h1:=Fs n 31
 have h2:=Fs n 32
 unfold Jp
 rw [Aa (n:=1+((Aj n 31).length:Int)) (by omega) (by omega),Aa (by omega) (by omega)]
 omega
theorem At1 (n:Nd)(hl:n.kids.length≤4500)(a:Ab)(ha:AbOk a):Pure X 32 [.agg (O5 n),ab a] (vb (Nr n a)):=by
 obtain ⟨z0,z1⟩:=Ad5 hl
 have hd2:=Fs n 32
 have l1:((Nk a.sg).length:Int)=a.sg.length:=by simp [Nk]
 have l2:((A3 (Aj n 32)).length:Int)=(Aj n 32).length:=by rw [Am]
 show Pure X _ _ (vb (Aau _ _ _ _))
 unfold Aau
 refine Pure.run Tryz.func32 ?_
 refine AK.pc (Abw a.n a.d) ?_
 refine AK.if_ (fun g=>?_) (fun g=>?_)
 ·have g':Ex a.n a.d=true:=g
  refine AK.rz Tryz.func32 ?_
  rw [if_pos g',l1]
 have g':¬ Ex a.n a.d=true:=by have:Ex a.n a.d=false:=g;simp [this]
 rw [if_neg g']
 refine AK.dn 0 2 ?_
 refine Drv.pc (Aha a.n a.d) ?_
 refine Cp 1 ?_
 cases h1:Iv a.n a.d with
 | false =>
   refine Drv.t true ?_
   refine Cp 7 ?_
   refine Drv.t true ?_
   refine Drv.go ?_
   refine Drv.z ?_
   refine AK.yes ?_
   exact AK.rz Tryz.func32 rfl
 | true =>
   refine Drv.t false ?_
   refine Cp 4 ?_
   refine Drv.pc (Amy n) ?_
   refine Cp 2 ?_
   cases h2:(a.n==Jp n) with
   | false =>
     refine Drv.t true ?_ (hb:=by simpa using h2)
     refine Drv.go ?_
     refine Drv.z ?_
     refine AK.yes ?_
     exact AK.rz Tryz.func32 rfl
   | true =>
     refine Drv.t false ?_ (hb:=by simpa using h2)
     refine Drv.go ?_
     refine Drv.z ?_
     refine AK.if_ (fun g3=>?_) (fun g3=>?_)
     ·have g3':((a.sg.length:Int)==(Aj n 32).length)=false:=by
       have:(((Nk a.sg).length:Int) != (A3 (Aj n 32)).length)=true:=g3
       rw [l1,l2] at this;simpa using this
      refine AK.rz Tryz.func32 ?_
      rw [g3'];rfl
     have g3':((a.sg.length:Int)==(Aj n 32).length)=true:=by
      have:(((Nk a.sg).length:Int) != (A3 (Aj n 32)).length)=false:=g3
      rw [l1,l2] at this;simpa using this
     have g3q:(a.sg.length:Int)=(Aj n 32).length:=by simpa using g3'
     rw [g3']
     simp only [Bool.true_and]
     refine AK.while_ (ι:=Nat) 2 0 (fun i=>i≤a.sg.length∧P8 (Jp n) (Aj n 31).length 0 a.sg=P8 (Jp n) (Aj n 31).length i (a.sg.drop i)) (fun i=>[(5,vi i),(2,.ptr 0 0 0),(3,.ptr 1 0 0)]) (fun _=>⟨[[O5 n],[Di a]],[]⟩) (fun i=>a.sg.length-i) ?_ 0 ⟨Nat.zero_le _,rfl⟩
      ⟨rfl,rfl,rfl,trivial⟩
     rintro i ⟨hi,hT⟩ IH
     refine AK.ei (fun h=>?_) (fun h=>?_)
     ·have hlt:i<a.sg.length:=by have:=of_decide_eq_true h;rw [l2] at this;omega
      obtain ⟨x,hx⟩:=Ac a.sg hlt
      rw [Av hx] at hT
      simp only [P8] at hT
      have hle:=Zu hl (i:=i) (by omega)
      have hln:=Amt n (i:Int)
      rw [hle] at hln
      refine AK.db 0 ?_
      refine As (Amy n) ?_
      refine As hln ?_
      refine Ax (fun S'=>Ndo.index rfl rfl rfl rfl rfl rfl rfl rfl rfl (by omega) (A8 (f:=B4) hx)) ?_
      refine Drv.go ?_
      refine As (Ap8 x (ha.rows x (List.mem_of_getElem? hx)) (Jp n) (Up (Aj n 31).length i) (by omega) (by omega) (fun v _=>Ahi v)) ?_
      refine Drv.z ?_
      refine AK.if_ (fun g2=>?_) (fun g2=>?_)
      ·have g2':Rc (Jp n) (Up (Aj n 31).length i) x=false:=by simpa using (show (!Rc (Jp n) (Up (Aj n 31).length i) x)=true from g2)
       refine AK.rz Tryz.func32 ?_
       rw [hT,g2'];rfl
      ·have g2':Rc (Jp n) (Up (Aj n 31).length i) x=true:=by simpa using (show (!Rc (Jp n) (Up (Aj n 31).length i) x)=false from g2)
       exact IH (i+1) ⟨hlt,by rw [hT,g2'];rfl⟩ (by omega) _ _ ⟨vsx (by omega),rfl,rfl,trivial⟩ rfl rfl rfl
     ·have hie:i=a.sg.length:=by have:=of_decide_eq_false h;rw [l2] at this;omega
      subst hie
      refine AK.rz Tryz.func32 ?_
      rw [hT,List.drop_length];rfl
theorem Z3 (a:Ab):Pure X 74 [ab a] (vb (Ex a.n a.d&&((a.sg.length:Int)==0))):=by
 have l1:((Nk a.sg).length:Int)=a.sg.length:=by simp [Nk]
 refine Pure.run Tryz.func74 ?_
 refine AK.pc (Ahr a.n a.d) ?_
 refine AK.gd (fun g=>?_) (fun g=>?_)
 ·have g':Ex a.n a.d=true:=g
  refine AK.rz Tryz.func74 ?_
  rw [g',l1];rfl
 ·have g':Ex a.n a.d=false:=g
  refine AK.rz Tryz.func74 ?_
  rw [g'];rfl
theorem Xw {n:Int}{d:List Int}(h:Ex n d=true):Iv n d=false:=by
 simp only [Ex,Bool.and_eq_true,beq_iff_eq] at h
 unfold Iv
 cases hb:A0 n 1 13 with
 | false=>rfl
 | true=>have:=Az.1 hb;omega
theorem Auf (hV:∀ v,Pure X 155 [.agg (Em v)] (vb (Js v)))(n:Nd)(hl:n.kids.length≤4500)(a:Ab)(ha:AbOk a):Pure X 62 [.cptr (M9 n),ab a] (vb (Nr n a)):=by
 obtain ⟨z0,z1⟩:=Ad5 hl
 have hd2:=Fs n 32
 have l1:((Nk a.sg).length:Int)=a.sg.length:=by simp [Nk]
 have l2:((A3 (Aj n 32)).length:Int)=(Aj n 32).length:=by rw [Am]
 show Pure X _ _ (vb (Aau _ _ _ _))
 unfold Aau
 refine Pure.run Tryz.func62 ?_
 refine AK.pc (Z3 a) ?_
 refine AK.if_ (fun g=>?_) (fun g=>?_)
 ·have g':(Ex a.n a.d&&((a.sg.length:Int)==0))=true:=g
  rw [Bool.and_eq_true] at g'
  refine AK.rz Tryz.func62 ?_
  rw [if_pos g'.1,g'.2]
 have g':(Ex a.n a.d&&((a.sg.length:Int)==0))=false:=g
 refine AK.dn 0 2 ?_
 refine Drv.pc (Aho a.n a.d) ?_
 refine Cp 1 ?_
 cases h1:Iv a.n a.d with
 | false =>
   refine Drv.t true ?_
   refine Cp 7 ?_
   refine Drv.t true ?_
   refine Drv.go ?_
   refine Drv.z ?_
   refine AK.yes ?_
   refine AK.rz Tryz.func62 ?_
   split
   ·rename_i hn
    rw [hn,Bool.true_and] at g'
    rw [g']
   ·rfl
 | true =>
   have hnn:¬ Ex a.n a.d=true:=fun h=>by rw [Xw h] at h1;cases h1
   rw [if_neg hnn]
   refine Drv.t false ?_
   refine Cp 4 ?_
   refine Drv.pc (Ann n) ?_
   refine Cp 2 ?_
   cases h2:(a.n==Jp n) with
   | false =>
     refine Drv.t true ?_ (hb:=by simpa using h2)
     refine Drv.go ?_
     refine Drv.z ?_
     refine AK.yes ?_
     exact AK.rz Tryz.func62 rfl
   | true =>
     refine Drv.t false ?_ (hb:=by simpa using h2)
     refine Drv.go ?_
     refine Drv.z ?_
     refine AK.if_ (fun g3=>?_) (fun g3=>?_)
     ·have g3':((a.sg.length:Int)==(Aj n 32).length)=false:=by
       have:(((Nk a.sg).length:Int) != (A3 (Aj n 32)).length)=true:=g3
       rw [l1,l2] at this;simpa using this
      refine AK.rz Tryz.func62 ?_
      rw [g3'];rfl
     have g3':((a.sg.length:Int)==(Aj n 32).length)=true:=by
      have:(((Nk a.sg).length:Int) != (A3 (Aj n 32)).length)=false:=g3
      rw [l1,l2] at this;simpa using this
     have g3q:(a.sg.length:Int)=(Aj n 32).length:=by simpa using g3'
     rw [g3']
     simp only [Bool.true_and]
     refine AK.while_ (ι:=Nat) 1 0 (fun i=>i≤a.sg.length∧P8 (Jp n) (Aj n 31).length 0 a.sg=P8 (Jp n) (Aj n 31).length i (a.sg.drop i)) (fun i=>[(35,vi i),(34,vi a.sg.length),(33,.sl (Nk a.sg) .no),(0,.cptr (M9 n)),(3,.ptr 0 0 0)]) (fun _=>⟨[[Di a]],[]⟩) (fun i=>a.sg.length-i) ?_ 0 ⟨Nat.zero_le _,rfl⟩
      ⟨rfl,A5 l1,rfl,rfl,rfl,trivial⟩
     rintro i ⟨hi,hT⟩ IH
     refine AK.ei (fun h=>?_) (fun h=>?_)
     ·have hlt:i<a.sg.length:=by have:=of_decide_eq_true h;omega
      obtain ⟨x,hx⟩:=Ac a.sg hlt
      rw [Av hx] at hT
      simp only [P8] at hT
      have hle:=Zu hl (i:=i) (by omega)
      have hln:=Ani n (i:Int)
      rw [hle] at hln
      refine AK.ix i (by omega) (A8 (f:=B4) hx) ?_
      refine AK.db 0 ?_
      refine As (Ann n) ?_
      refine As hln ?_
      refine As (Aqr x (ha.rows x (List.mem_of_getElem? hx)) (Jp n) (Up (Aj n 31).length i) (by omega) (by omega) (fun v _=>hV v)) ?_
      refine Drv.z ?_
      refine AK.if_ (fun g2=>?_) (fun g2=>?_)
      ·have g2':Rc (Jp n) (Up (Aj n 31).length i) x=false:=by simpa using (show (!Rc (Jp n) (Up (Aj n 31).length i) x)=true from g2)
       refine AK.rz Tryz.func62 ?_
       rw [hT,g2'];rfl
      ·have g2':Rc (Jp n) (Up (Aj n 31).length i) x=true:=by simpa using (show (!Rc (Jp n) (Up (Aj n 31).length i) x)=false from g2)
       exact IH (i+1) ⟨hlt,by rw [hT,g2'];rfl⟩ (by omega) _ _ ⟨vsx (by omega),rfl,rfl,rfl,rfl,trivial⟩ rfl rfl rfl
     ·have hie:i=a.sg.length:=by have:=of_decide_eq_false h;omega
      subst hie
      refine AK.rz Tryz.func62 ?_
      rw [hT,List.drop_length];rfl
theorem Au1 {l:List (List (Int × Int))}{x:List (Int × Int)}(h:x∈l):x.length≤swY l:=by
 induction l with
 | nil=>cases h
 | cons y l ih =>
   simp only [swY]
   rcases List.mem_cons.1 h with rfl | h
   ·omega
   ·have:=ih h;omega
theorem An1 {l:List Sg}{x:Sg}(h:x∈l):Yz x≤P9 l:=by
 induction l with
 | nil=>cases h
 | cons y l ih =>
   simp only [P9]
   rcases List.mem_cons.1 h with rfl | h
   ·omega
   ·have:=ih h;omega
theorem Aga {a:Ab}(h:Yl a≤1048576):AbOk a:=by
 unfold Yl at h
 refine ⟨by omega,by omega,fun x hx=>?_⟩
 have h1:=An1 hx
 unfold Yz at h1
 exact ⟨by omega,fun y hy=>by have:=Au1 hy;omega,by omega,by omega⟩
abbrev T3 (n:Int):Prop:=-9223372036854775808≤n∧n≤9223372036854775807
structure SgI (s:Sg):Prop where
 tm:∀ x,x∈s.tm→∀ c,c∈x→T3 c.1∧T3 c.2
 vs:∀ v,v∈s.vs→T3 v.lo∧T3 v.hi
structure AbI (a:Ab):Prop where
 d:∀ y,y∈a.d→T3 y
 sg:∀ s,s∈a.sg→SgI s
theorem Ahs (lo hi:Int):Pure X 200 [.agg [vi lo,vi hi]] (vb (Gk lo hi)):=by
 have hq:∀ x,Pure X 244 [vi x] (vb (isV x)):=fun x=>Aqm x
 have hfl:Jh X.P 157=some [0,0]:=by kernel_rfl
 refine Pure.run Tryz.func200 ?_
 refine AK.op (Jt (r:=(lo==1)&&((hi==0)&&true)) rfl rfl rfl rfl rfl hfl rfl (.inl ⟨rfl,rfl⟩)) ?_
 refine AK.gd (fun g=>?_) (fun g=>?_)
 ·have g':((lo==1)&&((hi==0)&&true))=true:=g
  rw [Bool.and_true] at g'
  refine AK.rz Tryz.func200 ?_
  unfold Gk;rw [g'];rfl
 ·have g':((lo==1)&&((hi==0)&&true))=false:=g
  rw [Bool.and_true] at g'
  refine AK.pc (hq lo) ?_
  unfold Gk;rw [g',Bool.false_or]
  cases k2:isV lo with
  | true =>
    refine AK.gy ?_
    refine AK.pc (hq hi) ?_
    cases k3:isV hi with
    | true =>
      refine AK.gy ?_
      exact AK.rz Tryz.func200 rfl
    | false =>
      refine AK.gn ?_
      exact AK.rz Tryz.func200 rfl
  | false =>
    refine AK.gn ?_
    refine AK.gn ?_
    exact AK.rz Tryz.func200 rfl
theorem Aht (v:Vl):Pure X 155 [.agg (Em v)] (vb (Js v)):=by
 refine Pure.run Tryz.func155 ?_
 refine AK.pc (Ahs v.lo v.hi) ?_
 exact AK.rz Tryz.func155 rfl
end Go.V
namespace Go.V
open Go Go.Proofs Go.ChangeShapes Go.WideShapes Go.ChangeAt Go.RowKit Go.Deep
set_option maxRecDepth 100000
section
variable {H:Type}{enc:TypeId × Value→H}{w:World}{sp:Nat→Bool}{held:Bool}
theorem V1 (fuel:Nat)(cs:List Value)(x:DataW H × List MemPlace)(h:DataW.trod enc Tryz.prog w 0 sp held fuel 3 cs=some x):∃ n:Int,T3 n∧RelL w cs (I9 n):=by
 obtain ⟨n,h0,h1,rfl⟩:=Af8 Tryz.underlying3 h
 exact ⟨n,Agu h0 h1,.one (.val _)⟩
theorem Asm (fuel:Nat)(cs:List Value)(x:DataW H × List MemPlace)(h:DataW.trod enc Tryz.prog w 0 sp held fuel 4 cs=some x):∃ b:Bool,True∧RelL w cs (Km b):=by
 obtain ⟨b,rfl,_⟩:=DataW.trod_bool Tryz.underlying4 h
 exact ⟨b,trivial,.one (.val _)⟩
theorem RelL.app {cs ds:List Value}{l m:List AV}(h:RelL w cs l)(g:RelL w ds m):RelL w (cs++ds) (l++m) :=
 ⟨by simp [h.1,g.1],fun j v x h1 h2=>by
   have e:=h.1
   rw [List.getElem?_append] at h1 h2
   by_cases hj:j<cs.length
   ·rw [if_pos hj] at h1
    rw [if_pos (by omega)] at h2
    exact h.2 j v x h1 h2
   ·rw [if_neg hj] at h1
    rw [if_neg (by omega),← e] at h2
    exact g.2 _ v x h1 h2⟩
theorem Agz {α:Type}{l:List α}(h:l.length=2):∃ a b,l=[a,b]:=by
 rcases l with _ | ⟨a,_ | ⟨b,_ | ⟨c,l⟩⟩⟩<;>simp at h
 exact ⟨a,b,rfl⟩
theorem Al9 {α:Type}{l:List α}(h:l.length=3):∃ a b c,l=[a,b,c]:=by
 rcases l with _ | ⟨a,_ | ⟨b,_ | ⟨c,_ | ⟨d,l⟩⟩⟩⟩<;>simp at h
 exact ⟨a,b,c,rfl⟩
theorem c3e:Tryz.prog.cellsOf 3=1:=by kernel_rfl
theorem c4e:Tryz.prog.cellsOf 4=1:=by kernel_rfl
theorem Art (fuel:Nat)(cs:List Value)(x:DataW H × List MemPlace)(h:DataW.trod enc Tryz.prog w 0 sp held fuel 239 cs=some x):∃ c:Int × Int,(T3 c.1∧T3 c.2)∧RelL w cs (C2 c):=by
 obtain ⟨y0,y1,n1,rfl,hl,f0,f1⟩:=trod_struct2 Tryz.underlying239 h
 have hln:cs.length=2:=hl.trans (by kernel_rfl)
 obtain ⟨c0,c1,rfl⟩:=Agz hln
 have f0':DataW.trod enc Tryz.prog w 0 sp held n1 3 (([c0,c1].drop 0).take (Tryz.prog.cellsOf 3))=some y0:=f0
 have f1':DataW.trod enc Tryz.prog w 0 sp held n1 3 (([c0,c1].drop 1).take (Tryz.prog.cellsOf 3))=some y1:=f1
 rw [c3e] at f0' f1'
 obtain ⟨a,a1,a2⟩:=V1 _ _ _ f0'
 obtain ⟨b,b1,b2⟩:=V1 _ _ _ f1'
 have a3:RelL w [c0] (I9 a):=a2
 have b3:RelL w [c1] (I9 b):=b2
 exact ⟨(a,b),⟨a1,b1⟩,.cons a3.get1 b3⟩
theorem Arr (fuel:Nat)(cs:List Value)(x:DataW H × List MemPlace)(h:DataW.trod enc Tryz.prog w 0 sp held fuel 191 cs=some x):∃ c:Int × Int,(T3 c.1∧T3 c.2)∧RelL w cs (C2 c):=by
 obtain ⟨y0,y1,n1,rfl,hl,f0,f1⟩:=trod_struct2 Tryz.underlying191 h
 have hln:cs.length=2:=hl.trans (by kernel_rfl)
 obtain ⟨c0,c1,rfl⟩:=Agz hln
 have f0':DataW.trod enc Tryz.prog w 0 sp held n1 3 (([c0,c1].drop 0).take (Tryz.prog.cellsOf 3))=some y0:=f0
 have f1':DataW.trod enc Tryz.prog w 0 sp held n1 3 (([c0,c1].drop 1).take (Tryz.prog.cellsOf 3))=some y1:=f1
 rw [c3e] at f0' f1'
 obtain ⟨a,a1,a2⟩:=V1 _ _ _ f0'
 obtain ⟨b,b1,b2⟩:=V1 _ _ _ f1'
 have a3:RelL w [c0] (I9 a):=a2
 have b3:RelL w [c1] (I9 b):=b2
 exact ⟨(a,b),⟨a1,b1⟩,.cons a3.get1 b3⟩
theorem Aoc (fuel:Nat)(cs:List Value)(x:DataW H × List MemPlace)(h:DataW.trod enc Tryz.prog w 0 sp held fuel 179 cs=some x):∃ l:List (Int × Int),(l.length≤9223372036854775807∧∀ c,c∈l→T3 c.1∧T3 c.2)∧RelL w cs (Lr l):=by
 obtain ⟨l,h0,h1,h2⟩:=Ii C2 (fun c=>T3 c.1∧T3 c.2) Tryz.underlying179 (show Tryz.prog.cellsOf 239=2 by kernel_rfl) (by decide) (fun y=>rfl) (fun n _ cs' x' hx'=>Art n cs' x' hx') h
 exact ⟨l,⟨h1,h0⟩,h2⟩
theorem Aka (fuel:Nat)(cs:List Value)(x:DataW H × List MemPlace)(h:DataW.trod enc Tryz.prog w 0 sp held fuel 101 cs=some x):∃ l:List (List (Int × Int)),(∀ y,y∈l→y.length≤9223372036854775807∧∀ c,c∈y→T3 c.1∧T3 c.2)∧l.length≤9223372036854775807∧RelL w cs [.sl (D9 l) .no] :=
 Ii Lr (fun y=>y.length≤9223372036854775807∧∀ c,c∈y→T3 c.1∧T3 c.2) Tryz.underlying101 (show Tryz.prog.cellsOf 179=1 by kernel_rfl) (by decide) (fun y=>rfl) (fun n _ cs' x' hx'=>Aoc n cs' x' hx') h
theorem Arv (fuel:Nat)(cs:List Value)(x:DataW H × List MemPlace)(h:DataW.trod enc Tryz.prog w 0 sp held fuel 193 cs=some x):∃ v:Vl,(T3 v.lo∧T3 v.hi)∧RelL w cs (Em v):=by
 obtain ⟨y0,y1,n1,rfl,hl,f0,f1⟩:=trod_struct2 Tryz.underlying193 h
 have hln:cs.length=3:=hl.trans (by kernel_rfl)
 obtain ⟨c0,c1,c2,rfl⟩:=Al9 hln
 have c2e:Tryz.prog.cellsOf 191=2:=by kernel_rfl
 have f0':DataW.trod enc Tryz.prog w 0 sp held n1 191 (([c0,c1,c2].drop 0).take (Tryz.prog.cellsOf 191))=some y0:=f0
 have f1':DataW.trod enc Tryz.prog w 0 sp held n1 4 (([c0,c1,c2].drop 2).take (Tryz.prog.cellsOf 4))=some y1:=f1
 rw [c2e] at f0'
 rw [c4e] at f1'
 obtain ⟨r,a1,a2⟩:=Arr _ _ _ f0'
 obtain ⟨b,_,b2⟩:=Asm _ _ _ f1'
 have a3:RelL w [c0,c1] (C2 r):=a2
 have b3:RelL w [c2] (Km b):=b2
 exact ⟨⟨r.1,r.2,b⟩,a1,a3.app b3⟩
theorem Aod (fuel:Nat)(cs:List Value)(x:DataW H × List MemPlace)(h:DataW.trod enc Tryz.prog w 0 sp held fuel 102 cs=some x):∃ l:List Vl,(∀ y,y∈l→T3 y.lo∧T3 y.hi)∧l.length≤9223372036854775807∧RelL w cs [.sl (Rf l) .no] :=
 Ii Em (fun v=>T3 v.lo∧T3 v.hi) Tryz.underlying102 (show Tryz.prog.cellsOf 193=3 by kernel_rfl) (by decide) (fun y=>rfl) (fun n _ cs' x' hx'=>Arv n cs' x' hx') h
theorem An9 (fuel:Nat)(cs:List Value)(x:DataW H × List MemPlace)(h:DataW.trod enc Tryz.prog w 0 sp held fuel 103 cs=some x):∃ l:List Bool,(∀ y,y∈l→True)∧l.length≤9223372036854775807∧RelL w cs [.sl (T1 l) .no] :=
 Ii Km (fun _=>True) Tryz.underlying103 c4e (by decide) (fun y=>rfl) (fun n _ cs' x' hx'=>Asm n cs' x' hx') h
theorem Arp (fuel:Nat)(cs:List Value)(x:DataW H × List MemPlace)(h:DataW.trod enc Tryz.prog w 0 sp held fuel 25 cs=some x):∃ l:List Int,(∀ y,y∈l→T3 y)∧l.length≤9223372036854775807∧RelL w cs [.sl (I6 l) .no] :=
 Ii I9 T3 Tryz.underlying25 c3e (by decide) (fun y=>rfl) (fun n _ cs' x' hx'=>V1 n cs' x' hx') h
theorem Ars (fuel:Nat)(cs:List Value)(x:DataW H × List MemPlace)(h:DataW.trod enc Tryz.prog w 0 sp held fuel 105 cs=some x):∃ s:Sg,(SgLn s∧SgI s)∧RelL w cs (B4 s):=by
 obtain ⟨y0,y1,y2,n1,rfl,hl,f0,f1,f2⟩:=trod_struct3 Tryz.underlying105 h
 have hln:cs.length=3:=hl.trans (by kernel_rfl)
 obtain ⟨c0,c1,c2,rfl⟩:=Al9 hln
 have k0:Tryz.prog.cellsOf 101=1:=by kernel_rfl
 have k1:Tryz.prog.cellsOf 102=1:=by kernel_rfl
 have k2:Tryz.prog.cellsOf 103=1:=by kernel_rfl
 have f0':DataW.trod enc Tryz.prog w 0 sp held n1 101 (([c0,c1,c2].drop 0).take (Tryz.prog.cellsOf 101))=some y0:=f0
 have f1':DataW.trod enc Tryz.prog w 0 sp held n1 102 (([c0,c1,c2].drop 1).take (Tryz.prog.cellsOf 102))=some y1:=f1
 have f2':DataW.trod enc Tryz.prog w 0 sp held n1 103 (([c0,c1,c2].drop 2).take (Tryz.prog.cellsOf 103))=some y2:=f2
 rw [k0] at f0'
 rw [k1] at f1'
 rw [k2] at f2'
 obtain ⟨tm,t1,t2,t3⟩:=Aka _ _ _ f0'
 obtain ⟨vs,v1,v2,v3⟩:=Aod _ _ _ f1'
 obtain ⟨ms,_,m2,m3⟩:=An9 _ _ _ f2'
 have t4:RelL w [c0] [.sl (D9 tm) .no]:=t3
 have v4:RelL w [c1] [.sl (Rf vs) .no]:=v3
 have m4:RelL w [c2] [.sl (T1 ms) .no]:=m3
 exact ⟨⟨tm,vs,ms⟩,⟨⟨t2,fun x hx=>(t1 x hx).1,v2,m2⟩,⟨fun x hx=>(t1 x hx).2,v1⟩⟩,.cons t4.get1 (.cons v4.get1 m4)⟩
theorem Aob (fuel:Nat)(cs:List Value)(x:DataW H × List MemPlace)(h:DataW.trod enc Tryz.prog w 0 sp held fuel 28 cs=some x):∃ l:List Sg,(∀ y,y∈l→SgLn y∧SgI y)∧l.length≤9223372036854775807∧RelL w cs [.sl (Nk l) .no] :=
 Ii B4 (fun s=>SgLn s∧SgI s) Tryz.underlying28 (show Tryz.prog.cellsOf 105=3 by kernel_rfl) (by decide) (fun y=>rfl) (fun n _ cs' x' hx'=>Ars n cs' x' hx') h
theorem Aro (fuel:Nat)(cs:List Value)(x:DataW H × List MemPlace)(h:DataW.trod enc Tryz.prog w 0 sp held fuel 27 cs=some x):∃ f:Int × List Int,(f.2.length≤9223372036854775807∧∀ y,y∈f.2→T3 y)∧RelL w cs (H6 f.1 f.2):=by
 obtain ⟨y0,y1,n1,rfl,hl,f0,f1⟩:=trod_struct2 Tryz.underlying27 h
 have hln:cs.length=2:=hl.trans (by kernel_rfl)
 obtain ⟨c0,c1,rfl⟩:=Agz hln
 have k1:Tryz.prog.cellsOf 25=1:=by kernel_rfl
 have f0':DataW.trod enc Tryz.prog w 0 sp held n1 3 (([c0,c1].drop 0).take (Tryz.prog.cellsOf 3))=some y0:=f0
 have f1':DataW.trod enc Tryz.prog w 0 sp held n1 25 (([c0,c1].drop 1).take (Tryz.prog.cellsOf 25))=some y1:=f1
 rw [c3e] at f0'
 rw [k1] at f1'
 obtain ⟨a,_,a2⟩:=V1 _ _ _ f0'
 obtain ⟨d,d1,d2,d3⟩:=Arp _ _ _ f1'
 have a3:RelL w [c0] (I9 a):=a2
 have d4:RelL w [c1] [.sl (I6 d) .no]:=d3
 exact ⟨(a,d),⟨d2,d1⟩,.cons a3.get1 d4⟩
theorem Arn (fuel:Nat)(cs:List Value)(x:DataW H × List MemPlace)(h:DataW.trod enc Tryz.prog w 0 sp held fuel 30 cs=some x):∃ a:Ab,(AbLn a∧AbI a)∧RelL w cs (Di a):=by
 obtain ⟨y0,y1,n1,rfl,hl,f0,f1⟩:=trod_struct2 Tryz.underlying30 h
 have hln:cs.length=3:=hl.trans (by kernel_rfl)
 obtain ⟨c0,c1,c2,rfl⟩:=Al9 hln
 have k0:Tryz.prog.cellsOf 27=2:=by kernel_rfl
 have k1:Tryz.prog.cellsOf 28=1:=by kernel_rfl
 have f0':DataW.trod enc Tryz.prog w 0 sp held n1 27 (([c0,c1,c2].drop 0).take (Tryz.prog.cellsOf 27))=some y0:=f0
 have f1':DataW.trod enc Tryz.prog w 0 sp held n1 28 (([c0,c1,c2].drop 2).take (Tryz.prog.cellsOf 28))=some y1:=f1
 rw [k0] at f0'
 rw [k1] at f1'
 obtain ⟨f,d1,d2⟩:=Aro _ _ _ f0'
 obtain ⟨sg,s1,s2,s3⟩:=Aob _ _ _ f1'
 have d3:RelL w [c0,c1] (H6 f.1 f.2):=d2
 have s4:RelL w [c2] [.sl (Nk sg) .no]:=s3
 exact ⟨⟨f.1,f.2,sg⟩,⟨⟨d1.1,s2,fun x hx=>(s1 x hx).1⟩,⟨d1.2,fun x hx=>(s1 x hx).2⟩⟩,d3.app s4⟩
end
theorem Tw {H:Type}{enc:TypeId × Value→H}{P:Program}(hl:laidOutB P=true){W W':World}{sp':Nat→Bool}(hb:Below W.heap.size W W'):∀ {ns:List String}{gs:List (DataW H)}{ps:List MemPlace},
 (∀ n,n∈ns→∃ g t,P.globalNamed n=some g∧(P.globals[g]?).map (·.type)=some t∧P.readableRec t=true∧t<P.types.size)→DataW.TrodVars enc P W (fun _=>true) ns gs ps→(∀ p∈ps,W.sameAt W' p)→(∀ p∈ps,sp' p.block=true)→DataW.TrodVars enc P W' sp' ns gs ps
 | [],[],_,_,h,_,_=>h
 | n::ns,d::gs,_,hn,⟨g,t,cs,fuel,p,q,h1,h2,h3,h4,h5,rfl⟩,hs,hsp=>by
   obtain ⟨g',t',k1,k2,hr,hlt⟩:=hn n (by simp)
   obtain rfl:=Option.some.inj (k1.symm.trans h1)
   obtain rfl:=Option.some.inj (k2.symm.trans h2)
   obtain ⟨fuel',h6⟩:=WideElems.Trod_stays (sp':=sp') hl hr hlt (show DataW.Trod enc P W 0 (fun _=>true) true t' (.agg cs) d p from ⟨fuel,h4⟩) (fun x hx=>hs x (by simp [hx])) (fun x hx=>hsp x (by simp [hx]))
   refine ⟨g',t',cs,fuel',p,q,h1,h2,?_,h6,Tw hl hb (fun x hx=>hn x (by simp [hx])) h5 (fun x hx=>hs x (by simp [hx])) (fun x hx=>hsp x (by simp [hx])),rfl⟩
   unfold World.var? at h3 ⊢
   rw [h1] at h3 ⊢
   simp only [Option.bind_some] at h3 ⊢
   have hgl:g'<W.heap.size:=by
    rcases Nat.lt_or_ge g' W.heap.size with h' | h'
    ·exact h'
    ·simp [Array.getElem?_eq_none h'] at h3
   rw [hb.block g' hgl];exact h3
 | [],_::_,_,_,h,_,_=>h.elim
 | _::_,[],_,_,h,_,_=>h.elim
theorem Tx {H:Type}{enc:TypeId × Value→H}{P:Program}{W:World}{sp:Nat→Bool}:∀ {ns:List String}{gs:List (DataW H)}{ps:List MemPlace},DataW.TrodVars enc P W sp ns gs ps→gs.length=ns.length
 | [],[],_,_=>rfl
 | _::_,_::_,_,⟨_,_,_,_,_,_,_,_,_,_,h,_⟩=>congrArg (·+1) (Tx h)
 | [],_::_,_,h=>h.elim
 | _::_,[],_,h=>h.elim
theorem Aji {H:Type}{enc:TypeId × Value→H}{P:Program}{fn:Func}{s:ChangeSpec}{apart fresh handsOn:Bool}{W W':World}{args:Array Value}{ds gs:List (DataW H)}{before:List MemPlace}
 (hl:laidOutB P=true)(hp:∀ t,t∈fn.params.toList→P.readableRec t=true∧t<P.types.size)(hn:∀ n,n∈s.vars→∃ g t,P.globalNamed n=some g∧(P.globals[g]?).map (·.type)=some t∧P.readableRec t=true∧t<P.types.size)
 (hW:DataW.Whole enc P fn.params.toList s.vars apart W args.toList ds gs before)(hb:Below W.heap.size W W')
 (hargs:gs.length=s.vars.length→s.fn H (ds++gs)={ results:=[.lit (.bool true)],args:=ds,vars:=gs }){tb:Nat}(hres:fn.resultTypes=#[tb])(htb:P.underlying tb=some .bool) :
 s.post enc P fn apart fresh handsOn false W args (.bool true) W':=by
 have hW':=hW
 obtain ⟨p,q,hA,hV,rfl,hfz,hnd⟩:=hW
 have hlt':∀ x,x∈p++q→x.block<W.heap.size:=fun x hx=>hW'.lt x hx
 have e:=hargs (Tx hV)
 refine ⟨ds,gs,p++q,[],p,q,hW',?_,?_,?_,hb.frame _,fun h=>by cases h⟩
 ·rw [e,hres];exact trodAll_cons_mk (shut_bool htb _) trodAll_mk0
 ·rw [e]
  exact Rm hl hp hA (fun x hx=>hb.same (hlt' x (by simp [hx]))) (fun x hx=>by simpa using hlt' x (by simp [hx]))
 ·rw [e]
  exact Tw hl hb hn hV (fun x hx=>hb.same (hlt' x (by simp [hx]))) (fun x hx=>by simpa using hlt' x (by simp [hx]))
theorem Apx:Tryz.prog.globalNamed "loop.example/g00093/impl.none" = some 0:=by kernel_rfl
theorem Atz:(Tryz.prog.globals[0]?).map (·.type)=some 157:=by kernel_rfl
theorem Aty:Tryz.prog.readableRec 157=true:=by kernel_rfl
theorem Atx:157<Tryz.prog.types.size:=of_decide_eq_true (by kernel_rfl)
end Go.V
namespace Go.V
open Go
section
variable {X:Cx}{S:St}{F:B7}{N:Nat}{ops:Array Oper}{i:Nat}{o:Oper}
theorem Lf (s:List UInt8):(Hm s).length=s.length:=by simp [Hm]
theorem Aln (s:List UInt8):Ch s.length 1 (fun i _=>.int .u8 (s.getD i 0).toNat)=Mk s:=by
 apply List.ext_getElem?
 intro j
 by_cases hj:j<s.length
 ·have:=Ha (n:=s.length) (sz:=1) (vals:=fun i _=>.int .u8 (s.getD i 0).toNat) hj (Nat.zero_lt_one)
  rw [Nat.mul_one,Nat.add_zero] at this
  obtain ⟨x,hx⟩:=Ac s hj
  rw [this,Ace hx];simp [List.getD,hx]
 ·rw [List.getElem?_eq_none (by rw [Cl];omega),List.getElem?_eq_none (by rw [Oy];omega)]
theorem Akt {c:Call}{p q:Operand}{t tt tx e n:Nat}{y yx ye:Ty}{rows res:List (List AV)}{s:List UInt8}{tk:List Nat}(hS:S.toks[t]?=some n)(hn:rows.length=n)(hl:G1 1 rows=true)(hne:Nat.ble 1 s.length=true)(hb:rows.length+s.length≤100000000000)
 (hres:rows++Hm s=res)(htk:S.toks.set t (rows.length+s.length)=tk)
 (ho:ops[i]?=some o:=by rfl)(hw:A6 ops F o=some true:=by rfl)(hop:o.op=.call c:=by rfl)(hcal:c.callee=.builtin .append:=by rfl)(hargs:c.args.toList=[p,q]:=by rfl)
 (htys:c.argTypes.toList=[tt,tx]:=by rfl)(hp:Cr X F p=some (.sl rows (.tok t)):=by rfl)(hq:Cr X F q=some (str s):=by rfl)(hy:X.ty tt=some y:=by rfl)(hyk:y.k=.slc e:=by rfl)(hye:X.ty e=some ye:=by rfl)(h1:ye.size=1:=by rfl)(hyx:X.ty tx=some yx:=by rfl)
 (hyxk:yx.k=.string:=by rfl):Ndo X N ops i o F (.sl res (.tok t)) S ⟨S.boxes,tk⟩:=by
 subst htk;subst hres;subst hn
 intro F' E w a hlk hI hF
 obtain ⟨callee,args,argTypes⟩:=c
 simp only at hcal hargs htys
 subst hcal
 have ha:args=#[p,q]:=by rw [← Array.toList_inj];exact hargs
 have ht:argTypes=#[tt,tx]:=by rw [← Array.toList_inj];exact htys
 subst ha;subst ht
 have hlo:=D8 hlk
 rw [hop] at hlo
 have r1:=Ag hI hF ((B1 (X:=X) (F:=F) (F':=F') (o:=p) fun s hs=>hlo s (by simp [Op.operands,Call.operands,hs])).trans hp)
 have r2:=Ag hI hF ((B1 (X:=X) (F:=F) (F':=F') (o:=q) fun s hs=>hlo s (by simp [Op.operands,Call.operands,hs])).trans hq)
 obtain ⟨d1,hd1,hk1⟩:=(X.ty_ok tt y hy).agg
 simp only [hyk] at hk1
 obtain ⟨rfl,ye',hye',hne0⟩:=hk1
 obtain ⟨d2,hd2,hk2⟩:=(X.ty_ok tx yx hyx).agg
 simp only [hyxk] at hk2
 subst hk2
 generalize hv:a.eval q=v at r2
 cases r2
 have hsrc:=Ahy (w:=w) hd2 s
 rw [← Aln,← Lf s,← h1] at hsrc
 have hb1:=Lf s
 obtain ⟨v,E',w',g1,g2,g3,g4⟩:=W0 hI (ty:=o.type) (new:=Hm s) hd1 hye (by omega) r1 hsrc (fun i' j' r x hi hj=>by
  simp only [Hm,List.getElem?_map] at hi
  cases hx:s[i']? with
  | none=>rw [hx] at hi;cases hi
  | some b =>
    rw [hx] at hi;cases hi
    cases j' with
    | zero=>simp at hj;subst hj;simp only [List.getD,hx,Option.getD_some];exact .val _
    | succ j'=>simp at hj) hS (fun r hr=>by rw [h1];exact E6.1 hl r hr) (fun r hr=>by rw [h1];obtain ⟨b,_,rfl⟩:=List.mem_map.1 hr;rfl) (fun h=>by rw [h] at hb1;simp at hb1;rw [← hb1] at hne;simp at hne) (by rw [hb1];exact hb)
 rw [hb1] at g2
 exact Does.val ho (Bz hF (by rw [B5 hlk];exact hw)) (by simp [execOp,hop,resolve,invoke,builtin,hv,g1]) (.inl rfl) ⟨E',g2,g3,g4⟩
end
end Go.V
namespace Go.V
open Go Go.Proofs
theorem Ac6 (n:Nat):Lib.itoa (n:Int)=Hh n:=by unfold Lib.itoa;rw [if_neg (by omega),Int.toNat_natCast,Ub]
theorem Aiz (n:Nat)(h:0<n):Lib.itoa (-(n:Int))=45::Hh n:=by unfold Lib.itoa;rw [if_pos (by omega),Ub];simp
theorem Qi (n:Nat)(h:n≤9223372036854775807):(Hh n).length≤21:=by rw [← Ac6];exact Lib.itoa_length_le _ (by omega) (by omega)
theorem Qu (n:Nat)(hn:n≤9223372036854775807):Pure X 44 [vi n] (str (Hh n)):=by
 induction n using Nat.strongRecOn with
 | ind n ih =>
 refine Pure.run Tryz.func44 ?_
 refine AK.no ?_ (ht:=decide_eq_false (by omega))
 refine AK.no ?_ (ht:=decide_eq_false (by omega))
 refine AK.if_ (fun h=>?_) (fun h=>?_)
 ·have h':=of_decide_eq_true h
  refine AK.op (Pg (s:=[UInt8.ofNat (48+n)]) rfl rfl rfl rfl rfl rfl rfl rfl rfl rfl ?_) ?_
  ·show [[_]]=[[_]]
   rw [Nz n (by omega)]
  refine AK.rt Tryz.func44 ?_
  unfold Hh
  rw [if_pos (by omega)];rfl
 ·have h':=of_decide_eq_false h
  have hd:(n:Int).tdiv 10=((n / 10:Nat):Int):=by rw [Int.tdiv_eq_ediv_of_nonneg (by omega)];omega
  have ihq:Pure X 44 [vi (IntKind.i64.wrap ((n:Int).tdiv 10))] (str (Hh (n / 10))):=by
   rw [hd,Aa (by omega) (by omega)];exact ih (n / 10) (by omega) (by omega)
  have hm:((n:Int).tmod 10)=((n % 10:Nat):Int):=by rw [Int.tmod_eq_emod_of_nonneg (by omega)];omega
  refine AK.db 0 ?_
  refine As ihq ?_
  refine Ax (fun S'=>Pg (s:=[UInt8.ofNat (48+n % 10)]) rfl rfl rfl rfl rfl rfl rfl rfl rfl rfl ?_) ?_
  ·show [[_]]=[[_]]
   rw [hm,Nz (n % 10) (by omega)]
  refine Ax (fun S'=>Aq rfl rfl rfl rfl rfl ?_ rfl) ?_
  ·have:=Qi (n / 10) (by omega)
   simp;omega
  refine Drv.go ?_
  refine Drv.z ?_
  refine AK.rt Tryz.func44 ?_
  conv=>rhs;unfold Hh
  rw [if_neg (by omega)];rfl
theorem Hd (n:Int)(h0:-9223372036854775808≤n)(h1:n≤9223372036854775807):Pure X 44 [vi n] (str (Lib.itoa n)):=by
 rcases Int.lt_or_le n 0 with h | h
 ·obtain ⟨m,rfl⟩:∃ m:Nat,n=-(m:Int):=⟨n.natAbs,by omega⟩
  rw [Aiz m (by omega)]
  refine Pure.run Tryz.func44 ?_
  by_cases hs:m<10
  ·have hp:=Qu m (by omega)
   have e:IntKind.i64.wrap (- -(m:Int))=m:=by rw [Int.neg_neg];exact Aa (by omega) (by omega)
   rw [← e] at hp
   refine AK.no ?_ (ht:=decide_eq_false (by omega))
   refine AK.yes ?_ (ht:=decide_eq_true (by omega))
   refine AK.pc hp ?_
   refine AK.op (Aq rfl rfl rfl rfl rfl ?_ rfl) ?_
   ·have:=Qi m (by omega)
    simp;omega
   exact AK.rz Tryz.func44 rfl
  ·have hd:(-(m:Int)).tdiv 10=-((m / 10:Nat):Int):=by rw [Int.neg_tdiv,Int.tdiv_eq_ediv_of_nonneg (by omega)];omega
   have hm:(-(m:Int)).tmod 10=-((m % 10:Nat):Int):=by rw [Int.neg_tmod,Int.tmod_eq_emod_of_nonneg (by omega)];omega
   have ea:IntKind.i64.wrap (-(IntKind.i64.wrap ((-(m:Int)).tdiv 10)))=((m / 10:Nat):Int):=by rw [hd,Aa (n:=-((m / 10:Nat):Int)) (by omega) (by omega),Int.neg_neg];exact Aa (by omega) (by omega)
   have eb:IntKind.i64.wrap (-((-(m:Int)).tmod 10))=((m % 10:Nat):Int):=by rw [hm,Int.neg_neg];exact Aa (by omega) (by omega)
   have hpa:=Qu (m / 10) (by omega)
   have hpb:=Qu (m % 10) (by omega)
   rw [← ea] at hpa
   rw [← eb] at hpb
   have la:=Qi (m / 10) (by omega)
   have lb:=Qi (m % 10) (by omega)
   refine AK.yes ?_ (ht:=decide_eq_true (by omega))
   refine AK.pc hpa ?_
   refine AK.op (Aq rfl rfl rfl rfl rfl ?_ rfl) ?_
   ·simp;omega
   refine AK.pc hpb ?_
   refine AK.op (Aq rfl rfl rfl rfl rfl ?_ rfl) ?_
   ·simp;omega
   refine AK.rz Tryz.func44 ?_
   conv=>rhs;unfold Hh
   rw [if_neg hs]
   have e1:Hh (m % 10)=[UInt8.ofNat (48+m % 10)]:=by unfold Hh;rw [if_pos (by omega)]
   rw [e1];simp
 ·obtain ⟨m,rfl⟩:∃ m:Nat,n=(m:Int):=⟨n.toNat,by omega⟩
  rw [Ac6];exact Qu m (by omega)
def Jk:List UInt8:=[108,101,110,40]
def Lk (s:List UInt8):List UInt8:=Jk++s++[41]
def Fq (n:Nd):List (List UInt8):=Aj n 31++(Aj n 32).map Lk
def GoodL (s:List UInt8):Prop:=∃ w,nameS w=true∧(s=w∨s=Lk w)
theorem Qr {w:List UInt8}(h:nameS w=true):w.length≤8∧1≤w.length:=by
 cases w with
 | nil=>simp [nameS] at h
 | cons c l =>
   simp only [nameS,Bool.and_eq_true,decide_eq_true_eq] at h
   have:=h.1.1.1
   simp;omega
theorem Adg {w:List UInt8}(h:nameS w=true):M7 w Jk=false:=by
 cases hp:M7 w Jk with
 | false=>rfl
 | true =>
   have hw:=(G4 h).1
   simp only [M7,beq_iff_eq] at hp
   have hm:(40:UInt8)∈w:=List.mem_of_mem_take (by rw [hp];decide)
   have:=List.all_eq_true.1 hw 40 hm
   exact absurd this (by decide)
theorem GoodL.len {s:List UInt8}(h:GoodL s):s.length≤13:=by
 obtain ⟨w,hw,rfl | rfl⟩:=h
 ·have:=Qr hw;omega
 ·have:=Qr hw;simp [Lk,Jk];omega
theorem Ada (w:List UInt8):M7 (Lk w) Jk=true:=by simp [M7,Lk,Jk]
theorem Am9 (s:List UInt8)(hs:s.length≤1000000000):Pure X 163 [str s,str Jk] (.tup [str (if M7 s Jk=true then s.drop 4 else s),vb (M7 s Jk)]):=by
 have h0:Pure X 207 [str s,str Jk] (.tup [str (if M7 s Jk=true then s.drop 4 else s),vb (M7 s Jk)]):=by
  refine Pure.run Tryz.func207 ?_
  refine AK.pc (U2 s Jk (by omega) (by decide)) ?_
  cases h:M7 s Jk with
  | false =>
    refine AK.yes ?_
    exact AK.rz Tryz.func207 rfl
  | true =>
    have hl:4≤s.length:=by
     simp only [M7,beq_iff_eq] at h
     have:=congrArg List.length h
     simp [Jk] at this;omega
    refine AK.no ?_
    refine AK.op (Ndo.sub (l:=4) (h:=(s.length:Int)) (r:=s.drop 4) rfl rfl rfl rfl rfl rfl rfl rfl ?_ ?_ ?_ ?_) ?_
    ·omega
    ·omega
    ·omega
    ·simp
    exact AK.rz Tryz.func207 rfl
 refine Pure.run Tryz.func163 ?_
 refine AK.pc h0 ?_
 exact AK.rz Tryz.func163 rfl
theorem Aju (w:List UInt8)(hw:w.length≤1000000000):Pure X 164 [str (w++[41]),str [41]] (str w):=by
 have hl:((w++[41]).length:Int)=w.length+1:=by simp
 have e1:IntKind.i64.wrap (((w++[41]).length:Int)-1)=w.length:=by rw [hl];exact (Aa (by omega) (by omega)).trans (by omega)
 have h1:Pure X 247 [str (w++[41]),str [41]] (vb true):=by
  refine Pure.run Tryz.func247 ?_
  refine AK.gd (fun h=>?_) (fun h=>?_)
  ·refine AK.op (Ndo.sub (l:=(w.length:Int)) (h:=((w++[41]).length:Int)) (r:=[41]) rfl rfl rfl rfl ?_ rfl rfl rfl ?_ ?_ ?_ ?_) ?_
   ·show some _=_
    rw [← e1];rfl
   ·omega
   ·omega
   ·omega
   ·rw [List.take_of_length_le (by simp)];simp
   exact AK.rz Tryz.func247 rfl
  ·exfalso
   have:=of_decide_eq_false h
   rw [C7,C7] at this;simp at this
   omega
 have h0:Pure X 208 [str (w++[41]),str [41]] (str w):=by
  refine Pure.run Tryz.func208 ?_
  refine AK.pc h1 ?_
  refine AK.yes ?_
  refine AK.op (Ndo.sub (l:=0) (h:=(w.length:Int)) (r:=w) rfl rfl rfl rfl rfl ?_ rfl rfl ?_ ?_ ?_ ?_) ?_
  ·show some _=_
   rw [← e1];rfl
  ·omega
  ·omega
  ·omega
  ·simp
  exact AK.rz Tryz.func208 rfl
 refine Pure.run Tryz.func164 ?_
 refine AK.pc h0 ?_
 exact AK.rz Tryz.func164 rfl
theorem Aqn (s:List UInt8)(h:GoodL s):Pure X 162 [str s] (vb false):=by
 have hsl:=h.len
 have hc:=Am9 s (by omega)
 obtain ⟨w,hw,hs⟩:=h
 have hw8:=Qr hw
 have hk:=X5 w (by omega)
 rw [(G4 hw).2] at hk
 refine Pure.run Tryz.func162 ?_
 rcases hs with rfl | rfl
 ·rw [Adg hw,if_neg (by simp)] at hc
  refine AK.pc hc ?_
  refine AK.no ?_
  refine AK.pc hk ?_
  exact AK.rz Tryz.func162 rfl
 ·rw [Ada,if_pos rfl,show (Lk w).drop 4=w++[41] by simp [Lk,Jk]] at hc
  refine AK.pc hc ?_
  refine AK.yes ?_
  refine AK.pc (Aju w (by omega)) ?_
  refine AK.op (Aq rfl rfl rfl rfl rfl (by simp;omega) rfl) ?_
  refine AK.gn ?_ (ht:=by simp)
  refine AK.pc hk ?_
  exact AK.rz Tryz.func162 rfl
theorem Adu (l:List (List UInt8))(k:Int)(hl:l.length≤1000000000)(hg:∀ s,s∈l→GoodL s):Pure X 116 [.sl (A3 l) .no,vi k] (vb ((l.length:Int)==k)):=by
 have hlen:((A3 l).length:Int)=l.length:=by rw [Am]
 have h1:Pure X 206 [.sl (A3 l) .no,.fn 162 []] (vi (-1)):=by
  refine Pure.run Tryz.func206 ?_
  refine AK.while_ (ι:=Nat) 0 0 (fun i=>i≤l.length) (fun i=>[(8,vi i),(7,vi l.length),(0,.sl (A3 l) .no),(1,.fn 162 [])]) (fun _=>⟨[],[]⟩) (fun i=>l.length-i) ?_ 0 (Nat.zero_le _)
   ⟨rfl,A5 hlen,rfl,rfl,trivial⟩
  intro i hi IH
  refine AK.ei (fun h=>?_) (fun h=>?_)
  ·have hlt:i<l.length:=by have:=of_decide_eq_true h;omega
   obtain ⟨x,hx⟩:=Ac l hlt
   refine AK.ix i (by omega) (Dz hx) ?_
   refine AK.pc (Aqn x (hg x (List.mem_of_getElem? hx))) ?_
   refine AK.no ?_
   exact IH (i+1) hlt (by omega) _ _ ⟨vsx (by omega),rfl,rfl,rfl,trivial⟩ rfl rfl rfl
  ·exact AK.rz Tryz.func206 rfl
 have h2:Pure X 161 [.sl (A3 l) .no,.fn 162 []] (vb false):=by
  refine Pure.run Tryz.func161 ?_
  refine AK.pc h1 ?_
  exact AK.rz Tryz.func161 rfl
 refine Pure.run Tryz.func116 ?_
 refine AK.gd (fun h=>?_) (fun h=>?_)
 ·have h':((l.length:Int)==k)=true:=by rw [← hlen];exact h
  refine AK.pc h2 ?_
  refine AK.rz Tryz.func116 ?_
  rw [h'];rfl
 ·have h':((l.length:Int)==k)=false:=by rw [← hlen];exact h
  refine AK.rz Tryz.func116 ?_
  rw [h']
theorem Ahc (s:List UInt8)(h:GoodL s):Pure X 112 [str s] (vb true):=by
 have hsl:=h.len
 obtain ⟨w,hw,hs⟩:=h
 have hw8:=Qr hw
 have hn:=Abv w (by omega)
 rw [hw] at hn
 refine Pure.run Tryz.func112 ?_
 rcases hs with rfl | rfl
 ·refine AK.gd (fun g=>?_) (fun g=>?_)
  ·have g':=of_decide_eq_true g
   rw [C7] at g'
   have hp:=Adg hw
   refine AK.op (Ndo.sub (l:=0) (h:=4) (r:=s.take 4) rfl rfl rfl rfl rfl rfl rfl rfl ?_ ?_ ?_ ?_) ?_
   ·omega
   ·omega
   ·omega
   ·simp
   refine AK.gn ?_ (ht:=hp)
   refine AK.no ?_
   refine AK.pc hn ?_
   exact AK.rz Tryz.func112 rfl
  ·refine AK.gn ?_
   refine AK.no ?_
   refine AK.pc hn ?_
   exact AK.rz Tryz.func112 rfl
 ·have hl:(Lk w).length=w.length+5:=by simp [Lk,Jk]
  have hli:((Lk w).length:Int)=w.length+5:=by rw [hl];simp
  have e1:IntKind.i64.wrap (((Lk w).length:Int)-1)=w.length+4:=by rw [hli];exact (Aa (by omega) (by omega)).trans (by omega)
  refine AK.gd (fun g=>?_) (fun g=>?_)
  ·clear g
   refine AK.op (Ndo.sub (l:=0) (h:=4) (r:=(Lk w).take 4) rfl rfl rfl rfl rfl rfl rfl rfl ?_ ?_ ?_ ?_) ?_
   ·omega
   ·omega
   ·rw [hli];omega
   ·simp
   refine AK.gy ?_ (ht:=Ada w)
   refine AK.by (b:=41) (IntKind.i64.wrap (((Lk w).length:Int)-1)) (by rw [e1];omega) ?_ ?_
   ·rw [e1,show ((w.length:Int)+4).toNat=(Jk++w).length by simp [Jk];omega]
    simp [Lk]
   refine AK.yes ?_ (ht:=by simp)
   refine AK.op (Ndo.sub (l:=4) (h:=(w.length:Int)+4) (r:=w) rfl rfl rfl rfl rfl ?_ rfl rfl ?_ ?_ ?_ ?_) ?_
   ·show some _=_
    rw [← e1];rfl
   ·omega
   ·omega
   ·rw [hli];omega
   ·rw [show ((w.length:Int)+4).toNat=(Jk++w).length by simp [Jk];omega]
    simp [Lk,Jk]
   refine AK.pc hn ?_
   exact AK.rz Tryz.func112 rfl
  ·exfalso
   have:=of_decide_eq_false g
   rw [C7,hli] at this;omega
theorem Ams (l:List (List UInt8))(hl:l.length<13)(hg:∀ s,s∈l→GoodL s):Pure X 160 [.sl (A3 l) .no] (vb true):=by
 have hlen:((A3 l).length:Int)=l.length:=by rw [Am]
 refine Pure.run Tryz.func160 ?_
 refine AK.no ?_ (ht:=decide_eq_false (by rw [hlen];omega))
 refine AK.while_ (ι:=Nat) 0 0 (fun i=>i≤l.length) (fun i=>[(3,vi i),(0,.sl (A3 l) .no)]) (fun _=>⟨[],[]⟩) (fun i=>l.length-i) ?_ 0 (Nat.zero_le _)
  ⟨rfl,rfl,trivial⟩
 intro i hi IH
 refine AK.ei (fun h=>?_) (fun h=>?_)
 ·have hlt:i<l.length:=by have:=of_decide_eq_true h;rw [hlen] at this;omega
  obtain ⟨x,hx⟩:=Ac l hlt
  refine AK.ix i (by omega) (Dz hx) ?_
  refine AK.pc (Ahc x (hg x (List.mem_of_getElem? hx))) ?_
  refine AK.no ?_
  exact IH (i+1) hlt (by omega) _ _ ⟨vsx (by omega),rfl,trivial⟩ rfl rfl rfl
 ·exact AK.rz Tryz.func160 rfl
theorem Zs {n:Nd}(fp:FP n):∀ s,s∈Fq n→GoodL s:=by
 have hd:∀ k s,s∈Aj n k→nameS s=true:=fun k s hs=>by
  rw [Aa1] at hs
  obtain ⟨x,hx,rfl⟩:=List.mem_map.1 hs
  cases fp with
  | mk ds l h1 h2 =>
    have hx':x∈ds:=by
     have:=(List.mem_filter.1 hx).1
     simpa [Nd.kids] using this
    cases h1 x hx' with
    | var s h=>exact h
    | arr s m h=>exact h
 intro s hs
 rw [Fq,List.mem_append] at hs
 rcases hs with hs | hs
 ·exact ⟨s,hd _ s hs,.inl rfl⟩
 ·obtain ⟨w,hw,rfl⟩:=List.mem_map.1 hs
  exact ⟨w,hd _ w hw,.inr rfl⟩
theorem Ajm (l:List (List UInt8))(hne:l≠[])(hl:l.length≤1000000000):Hands X 119 [.sl (A3 l) .no] ⟨[],[]⟩ (.sl (A3 l) (.tok 0)) ⟨[],[l.length]⟩:=by
 have hu:X.P.underlying 67=some (.slice 9):=by kernel_rfl
 have hn:A3 l≠[]:=fun h=>hne (List.length_eq_zero_iff.1 (by rw [← Am,h];rfl))
 refine Hands.mk (n:=0) (m:=0) Tryz.func119 rfl rfl (by kernel_rfl) rfl rfl ?_
 refine AK.ev 100 rfl ?_
 refine AK.nilS hu (fun c hc=>?_)
 have hc':=hc hn
 subst hc'
 refine AK.ev 100 rfl ?_
 refine AK.no ?_
 refine AK.mint (d:=5) rfl rfl rfl ?_
 refine AK.op (Ndo.append (res:=A3 l) (tk:=[l.length]) rfl rfl rfl rfl rfl rfl rfl rfl rfl rfl rfl rfl rfl rfl rfl rfl (Fg _) (Q4 _) ?_ ?_ rfl ?_) ?_
 ·rw [Am];exact Nat.ble_eq_true_of_le (List.length_pos_iff.2 hne)
 ·rw [Am];simp;omega
 ·simp [Am]
 refine AK.retK Tryz.func119 ?_
 exact ⟨rfl,rfl⟩
theorem Ajl:Hands X 119 [.sl [] .no] ⟨[],[]⟩ (.sl [] .tight) ⟨[],[]⟩:=by
 have hu:X.P.underlying 67=some (.slice 9):=by kernel_rfl
 refine Hands.mk (n:=0) (m:=0) Tryz.func119 rfl rfl (by kernel_rfl) rfl rfl ?_
 refine AK.ev 100 rfl ?_
 refine AK.nilS hu (fun c hc=>?_)
 refine AK.ei (fun h=>?_) (fun h=>?_)
 ·refine AK.as_ 2 (.sl [] .tight) ?_
  refine AK.retK Tryz.func119 ?_
  exact ⟨rfl,rfl⟩
 ·refine AK.op Ws ?_
  refine AK.retK Tryz.func119 ?_
  exact ⟨rfl,rfl⟩
abbrev Il (vs ar:List (List UInt8))(i:Nat):List (List UInt8):=vs++(ar.take i).map Lk
theorem Ge (vs ar:List (List UInt8)){i:Nat}(h:i≤ar.length):(Il vs ar i).length=vs.length+i:=by simp [Il];omega
theorem Qq (vs ar:List (List UInt8)){i:Nat}{x:List UInt8}(h:ar[i]?=some x):Il vs ar (i+1)=Il vs ar i++[Lk x]:=by rw [Il,Il,List.take_add_one,h];simp
theorem Anh (n:Nd)(hl:n.kids.length≤100000)(hs:∀ s,s∈Aj n 32→s.length≤100):Pure X 76 [.cptr (M9 n)] (.sl (A3 (Fq n)) .no):=by
 have hv:=Fs n 31
 have ha:=Fs n 32
 unfold Fq
 obtain ⟨vs,hvs⟩:∃ x,Aj n 31=x:=⟨_,rfl⟩
 obtain ⟨ar,hAs⟩:∃ x,Aj n 32=x:=⟨_,rfl⟩
 have hal:((A3 ar).length:Int)=ar.length:=by rw [Am]
 rw [hvs] at hv
 rw [hAs] at ha hs
 refine Pure.run Tryz.func76 ?_
 by_cases hne:vs=[]
 ·have hc:=Ajl
  rw [show ([]:List (List AV))=A3 (Aj n 31) by rw [hvs,hne];rfl] at hc
  refine AK.hc [] [] hc ?_
  refine AK.sto ⟨[],[]⟩ ?_
  refine AK.mint (d:=3) rfl rfl rfl ?_
  rw [hvs,hAs]
  refine AK.while_ (ι:=Nat) 0 1 (fun i=>i≤ar.length) (fun i=>[(16,vi i),(15,vi ar.length),(14,.sl (A3 ar) .no),(3,.sl (A3 (Il vs ar i)) (.tok 0))]) (fun i=>⟨[],[(Il vs ar i).length]⟩) (fun i=>ar.length-i) ?_ 0 (Nat.zero_le _)
   ⟨rfl,A5 hal,rfl,(by rw [hne];rfl),trivial⟩ (by rw [hne];rfl)
  intro i hi IH
  refine AK.ei (fun h=>?_) (fun h=>?_)
  ·have hlt:i<ar.length:=by have:=of_decide_eq_true h;omega
   obtain ⟨x,hx⟩:=Ac ar hlt
   have hxl:=hs x (List.mem_of_getElem? hx)
   refine AK.ix i (by omega) (Dz hx) ?_
   refine AK.op (Aq rfl rfl rfl rfl rfl (by simp;omega) rfl) ?_
   refine AK.op (Aq rfl rfl rfl rfl rfl (by simp;omega) rfl) ?_
   refine AK.op (Ndo.append (res:=A3 (Il vs ar (i+1))) (tk:=[(Il vs ar (i+1)).length]) rfl rfl rfl rfl rfl rfl rfl rfl rfl rfl rfl rfl rfl rfl (Am _) (Fg _) rfl rfl rfl ?_ ?_ ?_) ?_
   ·rw [Am,Ge vs ar (by omega)];simp;omega
   ·rw [Qq vs ar hx];simp [A3,Lk,Jk]
   ·rw [Am,Ge vs ar (by omega),Ge vs ar (by omega)];rfl
   exact IH (i+1) hlt (by omega) _ _ ⟨vsx (by omega),rfl,rfl,rfl,trivial⟩ rfl rfl rfl
  ·have hie:i=ar.length:=by have:=of_decide_eq_false h;omega
   refine AK.rz Tryz.func76 ?_
   rw [hie,Il,List.take_length]
 ·have hc:=Ajm (Aj n 31) (by rw [hvs];exact hne) (by rw [hvs];omega)
  refine AK.hc (τ':=[0]) [] [] hc ?_
  rw [hvs,hAs]
  have h00:Il vs ar 0=vs:=by simp [Il]
  refine AK.while_ (ι:=Nat) 0 1 (fun i=>i≤ar.length) (fun i=>[(16,vi i),(15,vi ar.length),(14,.sl (A3 ar) .no),(3,.sl (A3 (Il vs ar i)) (.tok 0))]) (fun i=>⟨[],[(Il vs ar i).length]⟩) (fun i=>ar.length-i) ?_ 0 (Nat.zero_le _)
   ⟨rfl,A5 hal,rfl,(by rw [h00];rfl),trivial⟩ (by rw [h00];rfl)
  intro i hi IH
  refine AK.ei (fun h=>?_) (fun h=>?_)
  ·have hlt:i<ar.length:=by have:=of_decide_eq_true h;omega
   obtain ⟨x,hx⟩:=Ac ar hlt
   have hxl:=hs x (List.mem_of_getElem? hx)
   refine AK.ix i (by omega) (Dz hx) ?_
   refine AK.op (Aq rfl rfl rfl rfl rfl (by simp;omega) rfl) ?_
   refine AK.op (Aq rfl rfl rfl rfl rfl (by simp;omega) rfl) ?_
   refine AK.op (Ndo.append (res:=A3 (Il vs ar (i+1))) (tk:=[(Il vs ar (i+1)).length]) rfl rfl rfl rfl rfl rfl rfl rfl rfl rfl rfl rfl rfl rfl (Am _) (Fg _) rfl rfl rfl ?_ ?_ ?_) ?_
   ·rw [Am,Ge vs ar (by omega)];simp;omega
   ·rw [Qq vs ar hx];simp [A3,Lk,Jk]
   ·rw [Am,Ge vs ar (by omega),Ge vs ar (by omega)];rfl
   exact IH (i+1) hlt (by omega) _ _ ⟨vsx (by omega),rfl,rfl,rfl,trivial⟩ rfl rfl rfl
  ·have hie:i=ar.length:=by have:=of_decide_eq_false h;omega
   refine AK.rz Tryz.func76 ?_
   rw [hie,Il,List.take_length]
theorem At7 (n:Nd)(hl:n.kids.length≤100000)(hs:∀ s,s∈Aj n 32→s.length≤100):Pure X 71 [.agg (O5 n)] (.sl (A3 (Fq n)) .no):=by
 have hv:=Fs n 31
 have ha:=Fs n 32
 have hal:((A3 (Aj n 32)).length:Int)=(Aj n 32).length:=by rw [Am]
 have h00:Il (Aj n 31) (Aj n 32) 0=Aj n 31:=by simp [Il]
 refine Pure.run Tryz.func71 ?_
 by_cases hne:Aj n 31=[]
 ·have ha0:A3 (Aj n 31)=[]:=by rw [hne];rfl
  refine AK.as_ 7 (.sl [] .no) ?_ (by rw [ha0];rfl)
  refine AK.op Ws ?_
  refine AK.mint (d:=3) rfl rfl rfl ?_
  refine AK.while_ (ι:=Nat) 1 1 (fun i=>i≤(Aj n 32).length) (fun i=>[(4,vi i),(3,.sl (A3 (Il (Aj n 31) (Aj n 32) i)) (.tok 0)),(1,.ptr 0 0 0)]) (fun i=>⟨[[O5 n]],[(Il (Aj n 31) (Aj n 32) i).length]⟩) (fun i=>(Aj n 32).length-i) ?_ 0 (Nat.zero_le _)
   ⟨rfl,(by rw [hne];rfl),rfl,trivial⟩ (by rw [hne];rfl)
  intro i hi IH
  refine AK.ei (fun h=>?_) (fun h=>?_)
  ·have hlt:i<(Aj n 32).length:=by have:=of_decide_eq_true h;rw [hal] at this;omega
   obtain ⟨x,hx⟩:=Ac (Aj n 32) hlt
   have hxl:=hs x (List.mem_of_getElem? hx)
   refine AK.ix i (by omega) (Dz hx) ?_
   refine AK.op (Aq rfl rfl rfl rfl rfl (by simp;omega) rfl) ?_
   refine AK.op (Aq rfl rfl rfl rfl rfl (by simp;omega) rfl) ?_
   refine AK.op (Ndo.append (res:=A3 (Il (Aj n 31) (Aj n 32) (i+1))) (tk:=[(Il (Aj n 31) (Aj n 32) (i+1)).length]) rfl rfl rfl rfl rfl rfl rfl rfl rfl rfl rfl rfl rfl rfl (Am _) (Fg _) rfl rfl rfl ?_ ?_ ?_) ?_
   ·rw [Am,Ge (Aj n 31) (Aj n 32) (by omega)];simp;omega
   ·rw [Qq (Aj n 31) (Aj n 32) hx];simp [A3,Lk,Jk]
   ·rw [Am,Ge (Aj n 31) (Aj n 32) (by omega),Ge (Aj n 31) (Aj n 32) (by omega)];rfl
   exact IH (i+1) hlt (by omega) _ _ ⟨vsx (by omega),rfl,rfl,trivial⟩ rfl rfl rfl
  ·have hie:i=(Aj n 32).length:=by have:=of_decide_eq_false h;rw [hal] at this;omega
   refine AK.rz Tryz.func71 ?_
   rw [hie,Il,List.take_length];rfl
 ·refine AK.mint (d:=5) rfl rfl rfl ?_
  refine AK.op (Ndo.append (res:=A3 (Aj n 31)) (tk:=[(Aj n 31).length]) rfl rfl rfl rfl rfl rfl rfl rfl rfl rfl rfl rfl rfl rfl rfl rfl (Fg _) (Q4 _) ?_ ?_ rfl ?_) ?_
  ·rw [Am];exact Nat.ble_eq_true_of_le (List.length_pos_iff.2 hne)
  ·rw [Am];simp;omega
  ·simp [Am]
  refine AK.while_ (ι:=Nat) 1 1 (fun i=>i≤(Aj n 32).length) (fun i=>[(4,vi i),(3,.sl (A3 (Il (Aj n 31) (Aj n 32) i)) (.tok 0)),(1,.ptr 0 0 0)]) (fun i=>⟨[[O5 n]],[(Il (Aj n 31) (Aj n 32) i).length]⟩) (fun i=>(Aj n 32).length-i) ?_ 0 (Nat.zero_le _)
   ⟨rfl,(by rw [h00];rfl),rfl,trivial⟩ (by rw [h00];rfl)
  intro i hi IH
  refine AK.ei (fun h=>?_) (fun h=>?_)
  ·have hlt:i<(Aj n 32).length:=by have:=of_decide_eq_true h;rw [hal] at this;omega
   obtain ⟨x,hx⟩:=Ac (Aj n 32) hlt
   have hxl:=hs x (List.mem_of_getElem? hx)
   refine AK.ix i (by omega) (Dz hx) ?_
   refine AK.op (Aq rfl rfl rfl rfl rfl (by simp;omega) rfl) ?_
   refine AK.op (Aq rfl rfl rfl rfl rfl (by simp;omega) rfl) ?_
   refine AK.op (Ndo.append (res:=A3 (Il (Aj n 31) (Aj n 32) (i+1))) (tk:=[(Il (Aj n 31) (Aj n 32) (i+1)).length]) rfl rfl rfl rfl rfl rfl rfl rfl rfl rfl rfl rfl rfl rfl (Am _) (Fg _) rfl rfl rfl ?_ ?_ ?_) ?_
   ·rw [Am,Ge (Aj n 31) (Aj n 32) (by omega)];simp;omega
   ·rw [Qq (Aj n 31) (Aj n 32) hx];simp [A3,Lk,Jk]
   ·rw [Am,Ge (Aj n 31) (Aj n 32) (by omega),Ge (Aj n 31) (Aj n 32) (by omega)];rfl
   exact IH (i+1) hlt (by omega) _ _ ⟨vsx (by omega),rfl,rfl,trivial⟩ rfl rfl rfl
  ·have hie:i=(Aj n 32).length:=by have:=of_decide_eq_false h;rw [hal] at this;omega
   refine AK.rz Tryz.func71 ?_
   rw [hie,Il,List.take_length];rfl
end Go.V
namespace Go.Proofs
open Go.Shelf
def Mq:Go.Shelf.Ren:=⟨fun | 156=>118 | 165=>166 | 166=>45 | 169=>47 | 240=>78 | 241=>215 | 276=>122 | 277=>251 | n=>n,fun | 31=>67 | 9=>9 | 3=>3 | 4=>4 | 0=>0 | 20=>20 | 72=>93 | 76=>96 | 70=>91 | 37=>89 | 75=>95 | 127=>132 | 164=>175 | 5=>5 | 80=>98 | n=>n,fun | n=>n⟩
theorem Sl:Go.Proofs.Lays.n156 Tryz.prog Mq:={
 mixed:=by kernel_rfl,
 f156:=Tryz.func118.trans (congrArg some (by kernel_rfl)),
 f165:=Tryz.func166.trans (congrArg some (by kernel_rfl)),
 f166:=Tryz.func45.trans (congrArg some (by kernel_rfl)),
 f169:=Tryz.func47.trans (congrArg some (by kernel_rfl)),
 f240:=Tryz.func78.trans (congrArg some (by kernel_rfl)),
 f241:=Tryz.func215.trans (congrArg some (by kernel_rfl)),
 f276:=Tryz.func122.trans (congrArg some (by kernel_rfl)),
 f277:=Tryz.func251.trans (congrArg some (by kernel_rfl)),
 t0:=Tryz.underlying0,
 a0:=Tryz.isAgg0,
 z0:=Tryz.sizeOf0,
 v0:=Tryz.zeroValue0,
 t3:=Tryz.underlying3,
 a3:=Tryz.isAgg3,
 z3:=Tryz.sizeOf3,
 v3:=Tryz.zeroValue3,
 t4:=Tryz.underlying4,
 a4:=Tryz.isAgg4,
 z4:=Tryz.sizeOf4,
 v4:=Tryz.zeroValue4,
 t9:=Tryz.underlying9,
 a9:=Tryz.isAgg9,
 z9:=Tryz.sizeOf9,
 v9:=Tryz.zeroValue9,
 t20:=Tryz.underlying20,
 a20:=Tryz.isAgg20,
 z20:=Tryz.sizeOf20,
 v20:=Tryz.zeroValue20,
 t31:=Tryz.underlying67,
 a31:=Tryz.isAgg67,
 z31:=Tryz.sizeOf67,
 v31:=Tryz.zeroValue67,
 t37:=Tryz.underlying89,
 a37:=Tryz.isAgg89,
 z37:=Tryz.sizeOf89,
 v37:=Tryz.zeroValue89,
 t70:=Tryz.underlying91,
 a70:=Tryz.isAgg91,
 z70:=Tryz.sizeOf91,
 v70:=Tryz.zeroValue91,
 t72:=Tryz.underlying93,
 a72:=Tryz.isAgg93,
 z72:=Tryz.sizeOf93,
 v72:=Tryz.zeroValue93,
 t75:=Tryz.underlying95,
 a75:=Tryz.isAgg95,
 z75:=Tryz.sizeOf95,
 v75:=Tryz.zeroValue95,
 t76:=Tryz.underlying96,
 a76:=Tryz.isAgg96,
 z76:=Tryz.sizeOf96,
 v76:=Tryz.zeroValue96,
 t127:=Tryz.underlying132,
 a127:=Tryz.isAgg132,
 z127:=Tryz.sizeOf132,
 v127:=Tryz.zeroValue132,
 t164:=Tryz.underlying175,
 a164:=Tryz.isAgg175,
 z164:=Tryz.sizeOf175,
 v164:=Tryz.zeroValue175 }
end Go.Proofs
namespace Go.V
open Go Go.Proofs
section
variable {X:Cx}
theorem Wx {f:FuncId}{args:List AV}{r:AV}(hE:Lc X.P f)
 (h:∀ (E:Env)(w:World)(us:Array Value),Inv X E ⟨[],[]⟩ w→us.size=args.length→(∀ (j:Nat)(v:Value)(x:AV),us[j]?=some v→args[j]?=some x→Rel E w v x) →
   Calls X.P f us w fun e w'=>(∃ v,e=.returned v∧∀ E w,Rel E w v r)∧RowKit.Below w.heap.size w w'):Pure X f args r:=by
 refine ⟨hE,fun E w us _ hI hs hr=>?_⟩
 refine (h E w us hI hs hr).mono fun e w' he=>?_
 obtain ⟨⟨v,rfl,hv⟩,hb⟩:=he
 have hlt:∀ b o v,w.cell? ⟨b,o,none⟩=some v→w'.cell? ⟨b,o,none⟩=some v:=fun b o v hc=>by
  have hl:=Gp hc
  unfold World.cell? at hc ⊢
  rw [hb.block b hl];exact hc
 have ev:Evol E w E w' E.boxes.length E.toks.length:=⟨rfl,fun _ _ h=>⟨h,fun _ h=>h⟩,fun _ _ k h=>⟨k,h,.inl rfl⟩,hb.os,hb.tape,hb.output,hb.size,fun k hk _=>hb.block k hk,fun b o v _ hc=>hlt b o v hc,fun _ _ _ h=>h,fun _ _ h=>h,rfl,fun q e he=>by
  have hl:q<w.heap.size:=by
   rcases Nat.lt_or_ge q w.heap.size with h | h
   ·exact h
   ·simp [Dc,Array.getElem?_eq_none h] at he
  unfold Dc at he ⊢
  rw [hb.block q hl];exact he,fun _ _ _ b _ _ _ _ o ho=>(hb.block b (Kt ho)).trans ho⟩
 exact ⟨E,⟨[],[]⟩,hI.keep ev (fun b hb'=>hb.block b (hI.own_lt hb')),ev.weaken (Nat.zero_le _) (Nat.zero_le _),r,hv E w',rfl,rfl⟩
end
theorem Xk:Builder.Extra Tryz.prog Mq where
 sizeBuilder:=by kernel_rfl
 liesBuilder:=by kernel_rfl
 t5:=Fh.t5
 a5:=Fh.a5
 z5:=Fh.z5
 v5:=Fh.v5
 infoByte:=by kernel_rfl
 cellsByte:=by kernel_rfl
 sizeByte:=by kernel_rfl
 neB5:=by decide
theorem Afr (l:List (List UInt8))(sep:List UInt8)(hl:l.length≤1000000000)(hj:(Lib.join l sep).length≤100000000000):Pure X 118 [.sl (A3 l) .no,str sep] (str (Lib.join l sep)):=by
 refine Wx ⟨_,Tryz.func118,by kernel_rfl,by rfl⟩ fun E w us hI hs hr=>?_
 have hs2:us.size=2:=hs
 obtain ⟨us⟩:=us
 obtain ⟨u0,u1,rfl⟩:∃ a b,us=[a,b]:=by
  rcases us with _ | ⟨a,_ | ⟨b,_ | ⟨c,l⟩⟩⟩<;>simp at hs2
  exact ⟨a,b,rfl⟩
 have r0:=hr 0 u0 _ rfl rfl
 have r1:=hr 1 u1 _ rfl rfl
 cases r1
 have hm:(l.map fun s=>(⟨⟨s⟩⟩:ByteArray)).map (·.data.toList)=l:=by simp [List.map_map,Function.comp_def]
 have fin:∀ {e:Ending},e=.returned (.string ⟨(Lib.join ((l.map fun s=>(⟨⟨s⟩⟩:ByteArray)).map (·.data.toList)) sep).toArray⟩)→(∃ v,e=.returned v∧∀ E w,Rel E w v (str (Lib.join l sep))):=fun h=>by
  rw [hm] at h;exact ⟨_,h,fun E w=>.val _⟩
 cases r0 with
 | sl _ _ a n cap b o sz vals hn hx ha hsz hm2 hc hrr hs3 hcap =>
   subst hn
   by_cases h0:l=[]
   ·subst h0
    exact (Any.strings_Join_none Sl Xk a cap ⟨⟨sep⟩⟩ w).mono fun e w' ⟨he,hw⟩=>⟨⟨_,he,fun E w=>.val _⟩,hw▸RowKit.Below.refl _ _⟩
   ·have hne:(A3 l).length≠0:=by rw [Am];exact fun h=>h0 (List.length_eq_zero_iff.1 h)
    rw [ha hne]
    obtain ⟨s0,hs0⟩:=Ac l (i:=0) (by rw [Am] at hne;omega)
    have hz1:sz=1:=(hsz _ (List.mem_of_getElem? (Dz hs0))).symm
    subst hz1
    have hcell:∀ (j:Nat) (x:ByteArray),(l.map fun s=>(⟨⟨s⟩⟩:ByteArray))[j]?=some x→w.cell? ⟨b,o+j,none⟩=some (.string x):=fun j x hx1=>by
     simp only [List.getElem?_map,Option.map_eq_some_iff] at hx1
     obtain ⟨s,hs1,rfl⟩:=hx1
     have hj1:=Ad hs1
     have h1:=hc j 0 (by rw [Am];exact hj1) (by omega)
     have h2:=hrr j 0 _ _ (Dz hs1) rfl
     generalize vals j 0=z at h1 h2
     cases h2
     simpa using h1
    have hc0:=hcell 0 ⟨⟨s0⟩⟩ (by simp [hs0])
    have:=Any.strings_Join Sl Xk b o cap (l.map fun s=>(⟨⟨s⟩⟩:ByteArray)) ⟨⟨sep⟩⟩ w hcell (Gp hc0) (by simp;omega) (by simpa [Am] using hcap) (by rw [hm];exact Nat.le_trans hj (by omega))
    rw [List.length_map] at this
    rw [Am]
    exact this.mono fun e w' ⟨he,hb⟩=>⟨fin he,hb⟩
def Md (lo hi:Int):List UInt8:=if lo≤hi then Lib.itoa lo++[46,46]++Lib.itoa hi else [110,111,110,101]
def Aw1:List UInt8:=[32,111,114,32,117,110,119,114,105,116,116,101,110]
def Nh (v:Vl):List UInt8:=if v.m=true then Md v.lo v.hi else Md v.lo v.hi++Aw1
theorem Ot {lo hi:Int}(h:Gk lo hi=true):(lo=1∧hi=0)∨(-1000000≤lo∧lo≤hi∧hi≤1000000):=by
 simp only [Gk,isV,Bool.or_eq_true,Bool.and_eq_true,beq_iff_eq,decide_eq_true_eq] at h
 rcases h with h | ⟨h1,h2,h3⟩
 ·exact .inl h
 ·have:=Az.1 h1;have:=Az.1 h2
  exact .inr ⟨by omega,h3,by omega⟩
theorem D5 {n:Int}(h0:-1000000000≤n)(h1:n≤1000000000):(Lib.itoa n).length≤21:=Lib.itoa_length_le n (by omega) (by omega)
theorem R8 {lo hi:Int}(h:Gk lo hi=true):(Md lo hi).length≤44:=by
 unfold Md
 rcases Ot h with ⟨rfl,rfl⟩ | ⟨h0,h1,h2⟩
 ·simp
 ·have:=D5 (n:=lo) (by omega) (by omega)
  have:=D5 (n:=hi) (by omega) (by omega)
  rw [if_pos h1];simp;omega
theorem Ad1 (lo hi:Int)(h:Gk lo hi=true):Pure X 167 [.agg [vi lo,vi hi]] (str (Md lo hi)):=by
 have hc:=Ot h
 have hfl:Jh X.P 157=some [0,0]:=by kernel_rfl
 have hr:=Ahs lo hi
 rw [h] at hr
 refine Pure.run Tryz.func167 ?_
 refine AK.pc hr ?_
 refine AK.no ?_
 refine AK.op (Jt (r:=(lo==1)&&((hi==0)&&true)) rfl rfl rfl rfl rfl hfl rfl (.inl ⟨rfl,rfl⟩)) ?_
 refine AK.if_ (fun g=>?_) (fun g=>?_)
 ·refine AK.rz Tryz.func167 ?_
  unfold Md
  rw [if_neg ?_]
  (have:((lo==1)&&((hi==0)&&true))=true:=g;simp at this;omega)
 ·have hle:lo≤hi:=by
   (have:((lo==1)&&((hi==0)&&true))=false:=g;simp at this;omega)
  have h1:-1000000≤lo∧hi≤1000000:=by rcases hc with h | h<;>omega
  have l1:=D5 (n:=lo) (by omega) (by omega)
  have l2:=D5 (n:=hi) (by omega) (by omega)
  refine AK.db 0 ?_
  refine As (Kl lo (by omega) (by omega)) ?_
  refine Ax (fun S'=>Aq rfl rfl rfl rfl rfl (by simp;omega) rfl) ?_
  refine Drv.go ?_
  refine As (Kl hi (by omega) (by omega)) ?_
  refine Ax (fun S'=>Aq rfl rfl rfl rfl rfl (by simp;omega) rfl) ?_
  refine Drv.go ?_
  refine Drv.z ?_
  refine AK.rz Tryz.func167 ?_
  unfold Md;rw [if_pos hle]
theorem Adn (lo hi:Int)(h:Gk lo hi=true):Pure X 159 [.agg [vi lo,vi hi]] (str (Md lo hi)):=by
 have hc:=Ot h
 have hfl:=hc
 have hr:=Ahf lo hi
 rw [h] at hr
 refine Pure.run Tryz.func159 ?_
 refine AK.pc hr ?_
 refine AK.no ?_
 refine AK.pc (At5 lo hi) ?_
 refine AK.if_ (fun g=>?_) (fun g=>?_)
 ·refine AK.rz Tryz.func159 ?_
  unfold Md
  rw [if_neg ?_]
  (have:(!decide (lo≤hi))=true:=g;simpa using this)
 ·have hle:lo≤hi:=by
   (have:(!decide (lo≤hi))=false:=g;simpa using this)
  have h1:-1000000≤lo∧hi≤1000000:=by rcases hc with h | h<;>omega
  have l1:=D5 (n:=lo) (by omega) (by omega)
  have l2:=D5 (n:=hi) (by omega) (by omega)
  refine AK.db 0 ?_
  refine As (Hd lo (by omega) (by omega)) ?_
  refine Ax (fun S'=>Aq rfl rfl rfl rfl rfl (by simp;omega) rfl) ?_
  refine Drv.go ?_
  refine As (Hd hi (by omega) (by omega)) ?_
  refine Ax (fun S'=>Aq rfl rfl rfl rfl rfl (by simp;omega) rfl) ?_
  refine Drv.go ?_
  refine Drv.z ?_
  refine AK.rz Tryz.func159 ?_
  unfold Md;rw [if_pos hle]
theorem Aun (v:Vl)(h:Js v=true):Pure X 120 [.agg (Em v)] (str (Nh v)):=by
 have h':Gk v.lo v.hi=true:=h
 have hl:=R8 h'
 have hr:=Aht v
 rw [h] at hr
 unfold Nh
 refine Pure.run Tryz.func120 ?_
 refine AK.pc hr ?_
 refine AK.gn ?_
 refine AK.if_ (fun g=>?_) (fun g=>?_)
 ·have g':v.m=true:=g
  refine AK.pc (Ad1 v.lo v.hi h') ?_
  refine AK.rz Tryz.func120 ?_
  rw [if_pos g']
 ·have g':v.m=false:=g
  refine AK.pc (Ad1 v.lo v.hi h') ?_
  refine AK.op (Aq rfl rfl rfl rfl rfl (by simp;omega) rfl) ?_
  refine AK.rz Tryz.func120 ?_
  rw [if_neg (by simp [g'])];rfl
theorem Aub (v:Vl)(h:Js v=true):Pure X 113 [.agg (Em v)] (str (Nh v)):=by
 have h':Gk v.lo v.hi=true:=h
 have hl:=R8 h'
 have hr:=Ahi v
 rw [h] at hr
 unfold Nh
 refine Pure.run Tryz.func113 ?_
 refine AK.pc hr ?_
 refine AK.no ?_
 refine AK.if_ (fun g=>?_) (fun g=>?_)
 ·have g':v.m=true:=g
  refine AK.pc (Adn v.lo v.hi h') ?_
  refine AK.rz Tryz.func113 ?_
  rw [if_pos g']
 ·have g':v.m=false:=g
  refine AK.pc (Adn v.lo v.hi h') ?_
  refine AK.op (Aq rfl rfl rfl rfl rfl (by simp;omega) rfl) ?_
  refine AK.rz Tryz.func113 ?_
  rw [if_neg (by simp [g'])];rfl
def nmT (ns:List (List UInt8))(v:Int):List UInt8:=ns.getD (v-1).toNat []
def Fl (ns:List (List UInt8))(x:Int × Int):List UInt8 :=
 if x.1=0 then Lib.itoa x.2 else if x.2<0 then nmT ns x.1++[32,45,32]++Lib.itoa (-x.2) else if 0<x.2 then nmT ns x.1++[32,43,32]++Lib.itoa x.2 else nmT ns x.1
structure SymOkT (ns:List (List UInt8))(x:Int × Int):Prop where
 v0:0≤x.1
 v1:x.1≤ns.length
 c0:-1000≤x.2
 c1:x.2≤1000
theorem Qt {ns:List (List UInt8)}{v:Int}(h0:1≤v)(h1:v≤ns.length)(hn:ns.length≤100):0≤IntKind.i64.wrap (v-1)∧(A3 ns)[(IntKind.i64.wrap (v-1)).toNat]?=some [str (nmT ns v)]:=by
 have hw:IntKind.i64.wrap (v-1)=v-1:=Aa (by omega) (by omega)
 rw [hw]
 obtain ⟨s,hs⟩:=Ac ns (i:=(v-1).toNat) (by omega)
 refine ⟨by omega,?_⟩
 rw [Dz hs,nmT,List.getD_eq_getElem?_getD,hs];rfl
theorem Kx {ns:List (List UInt8)}(hg:∀ s,s∈ns→GoodL s)(v:Int):(nmT ns v).length≤13:=by
 unfold nmT
 rw [List.getD_eq_getElem?_getD]
 cases hs:ns[(v-1).toNat]? with
 | none=>exact Nat.zero_le _
 | some s=>exact (hg s (List.mem_of_getElem? hs)).len
theorem Ym {ns:List (List UInt8)}{x:Int × Int}(hg:∀ s,s∈ns→GoodL s)(hx:SymOkT ns x):(Fl ns x).length≤37:=by
 have h0:=Kx hg x.1
 have h1:=D5 (n:=x.2) (by have:=hx.c0;omega) (by have:=hx.c1;omega)
 have h2:=D5 (n:=-x.2) (by have:=hx.c1;omega) (by have:=hx.c0;omega)
 unfold Fl
 split
 ·omega
 split
 ·simp;omega
 split
 ·simp;omega
 ·omega
theorem Aum (ns:List (List UInt8))(x:Int × Int)(hn:ns.length≤100)(hg:∀ s,s∈ns→GoodL s)(hx:SymOkT ns x):Pure X 121 [.agg (C2 x),.sl (A3 ns) .no] (str (Fl ns x)):=by
 have hv0:=hx.v0
 have hv1:=hx.v1
 have hc0:=hx.c0
 have hc1:=hx.c1
 have hnl:=Kx hg x.1
 have l1:=D5 (n:=x.2) (by omega) (by omega)
 have l2:=D5 (n:=-x.2) (by omega) (by omega)
 refine Pure.run Tryz.func121 ?_
 refine AK.if_ (fun g=>?_) (fun g=>?_)
 ·have g':x.1=0:=by have:(x.1==0)=true:=g;simpa using this
  refine AK.pc (Kl x.2 (by omega) (by omega)) ?_
  refine AK.rz Tryz.func121 ?_
  unfold Fl;rw [if_pos g']
 have g':¬ x.1=0:=by have:(x.1==0)=false:=g;simpa using this
 have hg1:=Qt (ns:=ns) (v:=x.1) (by omega) (by omega) hn
 refine AK.if_ (fun g2=>?_) (fun g2=>?_)
 ·have g2':=of_decide_eq_true g2
  have hwn:IntKind.i64.wrap (-x.2)=-x.2:=Aa (by omega) (by omega)
  have hd:=Kl (-x.2) (by omega) (by omega)
  rw [← hwn] at hd
  refine AK.db 0 ?_
  refine Ax (fun S'=>Ndo.index rfl rfl rfl rfl rfl rfl rfl rfl rfl hg1.1 hg1.2) ?_
  refine Drv.go ?_
  refine Ax (fun S'=>Aq rfl rfl rfl rfl rfl (by simp;omega) rfl) ?_
  refine Drv.go ?_
  refine As hd ?_
  refine Ax (fun S'=>Aq rfl rfl rfl rfl rfl (by simp [hwn];omega) rfl) ?_
  refine Drv.go ?_
  refine Drv.z ?_
  refine AK.rz Tryz.func121 ?_
  unfold Fl;rw [if_neg (by omega),if_pos (by omega),hwn]
 have g2':=of_decide_eq_false g2
 refine AK.if_ (fun g3=>?_) (fun g3=>?_)
 ·have g3':=of_decide_eq_true g3
  refine AK.db 0 ?_
  refine Ax (fun S'=>Ndo.index rfl rfl rfl rfl rfl rfl rfl rfl rfl hg1.1 hg1.2) ?_
  refine Drv.go ?_
  refine Ax (fun S'=>Aq rfl rfl rfl rfl rfl (by simp;omega) rfl) ?_
  refine Drv.go ?_
  refine As (Kl x.2 (by omega) (by omega)) ?_
  refine Ax (fun S'=>Aq rfl rfl rfl rfl rfl (by simp;omega) rfl) ?_
  refine Drv.go ?_
  refine Drv.z ?_
  refine AK.rz Tryz.func121 ?_
  unfold Fl;rw [if_neg (by omega),if_neg (by omega),if_pos (by omega)]
 have g3':=of_decide_eq_false g3
 refine AK.ix _ hg1.1 hg1.2 ?_
 refine AK.rz Tryz.func121 ?_
 unfold Fl;rw [if_neg g',if_neg (by omega),if_neg (by omega)]
theorem Am0 (ns:List (List UInt8))(x:Int × Int)(hn:ns.length<13)(hg:∀ s,s∈ns→GoodL s)(hx:SymOkT ns x):Pure X 114 [.agg (C2 x),.sl (A3 ns) .no] (str (Fl ns x)):=by
 have hv0:=hx.v0
 have hv1:=hx.v1
 have hc0:=hx.c0
 have hc1:=hx.c1
 have hnl:=Kx hg x.1
 have l1:=D5 (n:=x.2) (by omega) (by omega)
 have l2:=D5 (n:=-x.2) (by omega) (by omega)
 have hw:IntKind.i64.wrap (((A3 ns).length:Int)+1)=ns.length+1:=by rw [Am];exact Aa (by omega) (by omega)
 have hso:=Ahg (ns.length+1) x.1 x.2 (by omega) (by omega)
 rw [show F9 (ns.length+1) x.1 x.2=true by simp only [F9,Bool.and_eq_true];exact ⟨⟨Az.2 (by omega),Az.2 (by omega)⟩,Az.2 (by omega)⟩,← hw] at hso
 refine Pure.run Tryz.func114 ?_
 refine AK.pc (Ams ns hn hg) ?_
 refine AK.gn ?_
 refine AK.pc hso ?_
 refine AK.no ?_
 refine AK.if_ (fun g=>?_) (fun g=>?_)
 ·have g':x.1=0:=by have:(x.1==0)=true:=g;simpa using this
  refine AK.pc (Hd x.2 (by omega) (by omega)) ?_
  refine AK.rz Tryz.func114 ?_
  unfold Fl;rw [if_pos g']
 have g':¬ x.1=0:=by have:(x.1==0)=false:=g;simpa using this
 have hg1:=Qt (ns:=ns) (v:=x.1) (by omega) (by omega) (by omega)
 refine AK.if_ (fun g2=>?_) (fun g2=>?_)
 ·have g2':=of_decide_eq_true g2
  refine AK.db 0 ?_
  refine Ax (fun S'=>Ndo.index rfl rfl rfl rfl rfl rfl rfl rfl rfl hg1.1 hg1.2) ?_
  refine Drv.go ?_
  refine Ax (fun S'=>Aq rfl rfl rfl rfl rfl (by simp;omega) rfl) ?_
  refine Drv.go ?_
  refine As (Hd x.2 (by omega) (by omega)) ?_
  refine Ax (fun S'=>Aq rfl rfl rfl rfl rfl (by simp;omega) rfl) ?_
  refine Drv.go ?_
  refine Drv.z ?_
  refine AK.rz Tryz.func114 ?_
  unfold Fl;rw [if_neg (by omega),if_neg (by omega),if_pos (by omega)]
 have g2':=of_decide_eq_false g2
 refine AK.if_ (fun g3=>?_) (fun g3=>?_)
 ·have g3':=of_decide_eq_true g3
  have hwn:IntKind.i64.wrap (-x.2)=-x.2:=Aa (by omega) (by omega)
  have hd:=Hd (-x.2) (by omega) (by omega)
  rw [← hwn] at hd
  refine AK.db 0 ?_
  refine Ax (fun S'=>Ndo.index rfl rfl rfl rfl rfl rfl rfl rfl rfl hg1.1 hg1.2) ?_
  refine Drv.go ?_
  refine Ax (fun S'=>Aq rfl rfl rfl rfl rfl (by simp;omega) rfl) ?_
  refine Drv.go ?_
  refine As hd ?_
  refine Ax (fun S'=>Aq rfl rfl rfl rfl rfl (by simp [hwn];omega) rfl) ?_
  refine Drv.go ?_
  refine Drv.z ?_
  refine AK.rz Tryz.func114 ?_
  unfold Fl;rw [if_neg (by omega),if_pos (by omega),hwn]
 have g3':=of_decide_eq_false g3
 refine AK.ix _ hg1.1 hg1.2 ?_
 refine AK.rz Tryz.func114 ?_
 unfold Fl;rw [if_neg g',if_neg (by omega),if_neg (by omega)]
def Dt (ns:List (List UInt8))(i j:Nat)(x:Int):List UInt8 :=
 if j=0 then nmT ns i++[32,60,61,32]++Lib.itoa x else if i=0 then nmT ns j++[32,62,61,32]++Lib.itoa (-x) else nmT ns i++[32,45,32]++nmT ns j++[32,60,61,32]++Lib.itoa x
def Iw (ns:List (List UInt8))(m:Nat):Nat→List Int→List (List UInt8)
 | _,[]=>[]
 | k,x::l=>if (x==Kr (k / m) (k % m))=true then Iw ns m (k+1) l else Dt ns (k / m) (k % m) x::Iw ns m (k+1) l
abbrev jn (o:List (List UInt8)):List UInt8:=Lib.join o [44,32]
def Kj (ns:List (List UInt8))(n:Int)(d:List Int):List UInt8:=if Iw ns n.toNat 0 d=[] then [97,110,121] else jn (Iw ns n.toNat 0 d)
theorem My (sep:List UInt8)(o:List (List UInt8))(w:List UInt8):Lib.join (o++[w]) sep=if o=[] then w else Lib.join o sep++sep++w:=by
 cases o with
 | nil=>rw [if_pos rfl];exact Lib.join_one w sep
 | cons x r =>
   rw [if_neg (by simp),List.cons_append,Lib.join_cons,Lib.join_cons]
   simp [Lib.joinTail]
theorem Wg {sep:List UInt8}{o:List (List UInt8)}(h:∀ w,w∈o→1≤w.length)(hne:o≠[]):Lib.join o sep≠[]:=by
 cases o with
 | nil=>exact absurd rfl hne
 | cons x r =>
   have:=h x (by simp)
   rw [Lib.join_cons]
   intro e
   have:=congrArg List.length e
   rw [List.length_append,List.length_nil] at this;omega
theorem J9 {sep:List UInt8}{c:Nat}:∀ {o:List (List UInt8)},(∀ w,w∈o→w.length≤c)→(Lib.join o sep).length≤(c+sep.length)*o.length:=by
 intro o h
 cases o with
 | nil=>simp [Lib.join_nil]
 | cons x r =>
   rw [Lib.join_cons]
   have h2:∀ r:List (List UInt8),(∀ w,w∈r→w.length≤c)→(Lib.joinTail sep r).length≤(c+sep.length)*r.length:=by
    intro r
    induction r with
    | nil=>intro _;simp [Lib.joinTail]
    | cons y r ih =>
      intro hr
      have h3:=ih (fun w hw=>hr w (by simp [hw]))
      have h4:=hr y (by simp)
      have e:Lib.joinTail sep (y::r)=(sep++y)++Lib.joinTail sep r:=rfl
      rw [e,List.length_append,List.length_append,List.length_cons,Nat.mul_succ];omega
   have h5:=h2 r (fun w hw=>h w (by simp [hw]))
   have h6:=h x (by simp)
   rw [List.length_append,List.length_cons,Nat.mul_succ];omega
theorem Age {m:Nat}:∀ {l:List Int}{k i:Nat}{x:Int},T6 m k l=true→l[i]?=some x→okD m (k+i) x=true
 | [],_,_,_,_,h=>by simp at h
 | y::l,k,0,x,ha,h=>by
   simp at h;subst h
   simp only [T6,Bool.and_eq_true] at ha
   exact ha.1
 | y::l,k,i+1,x,ha,h=>by
   simp only [T6,Bool.and_eq_true] at ha
   have:=Age (k:=k+1) ha.2 (show l[i]?=some x by simpa using h)
   rwa [show k+1+i=k+(i+1) by omega] at this
theorem Aoy (i j:Nat):Kr i j≤2000000:=by unfold Kr;split;· omega
                                         split<;>omega
structure FactAt (m i j:Nat)(x:Int):Prop where
 x0:-2000000≤x
 x1:x≤2000000
 il:i<m
 jl:j<m
 ne:¬ (x==Kr i j)=true→i≠j
theorem Aa5 {n:Int}{d:List Int}{k:Nat}{x:Int}(hf:Iv n d=true)(hx:d[k]?=some x):FactAt n.toNat (k / n.toNat) (k % n.toNat) x:=by
 simp only [Iv,Bool.and_eq_true,beq_iff_eq] at hf
 obtain ⟨h1,h2,h3⟩:=hf
 have h1':=Az.1 h1
 obtain ⟨m,rfl⟩:∃ m:Nat,n=m:=⟨n.toNat,by omega⟩
 rw [Int.toNat_natCast] at h3 ⊢
 have hk:=Ad hx
 have hd:d.length=m*m:=by have:((d.length:Nat):Int)=((m*m:Nat):Int):=by rw [h2];simp
                          omega
 have ho:=Age h3 hx
 rw [Nat.zero_add] at ho
 simp only [okD,Bool.and_eq_true] at ho
 have hb:=Az.1 ho.1
 have hc:=Aoy (k / m) (k % m)
 refine ⟨by omega,by omega,Nat.div_lt_of_lt_mul (by omega),Nat.mod_lt _ (by omega),fun hne he=>hne ?_⟩
 have h4:=ho.2
 rw [he] at h4 ⊢
 simp at h4
 rw [h4];unfold Kr;simp
theorem Zh {ns:List (List UInt8)}{m i j:Nat}{x:Int}(hg:∀ s,s∈ns→GoodL s)(h:FactAt m i j x):1≤(Dt ns i j x).length∧(Dt ns i j x).length≤60:=by
 have h0:=Kx hg (i:Int)
 have h1:=Kx hg (j:Int)
 have h2:=D5 (n:=x) (by have:=h.x0;omega) (by have:=h.x1;omega)
 have h3:=D5 (n:=-x) (by have:=h.x1;omega) (by have:=h.x0;omega)
 unfold Dt
 split
 ·simp;omega
 split
 ·simp;omega
 ·simp;omega
theorem Qk {ns:List (List UInt8)}{m:Nat}(hg:∀ s,s∈ns→GoodL s):∀ {l:List Int}{k:Nat},(∀ (i:Nat)(x:Int),l[i]?=some x→FactAt m ((k+i) / m) ((k+i) % m) x)→(∀ w,w∈Iw ns m k l→1≤w.length∧w.length≤60)∧(Iw ns m k l).length≤l.length
 | [],_,_=>⟨fun w hw=>by simp [Iw] at hw,Nat.le_refl _⟩
 | x::l,k,h=>by
   obtain ⟨h1,h2⟩:=Qk hg (l:=l) (k:=k+1) (fun i y hy=>by have:=h (i+1) y (by simpa using hy);rwa [show k+(i+1)=k+1+i by omega] at this)
   have h3:=Zh hg (h 0 x rfl)
   rw [Nat.add_zero] at h3
   simp only [Iw]
   split
   ·exact ⟨h1,by rw [List.length_cons];omega⟩
   ·refine ⟨fun w hw=>?_,by rw [List.length_cons,List.length_cons];omega⟩
    rcases List.mem_cons.1 hw with rfl | hw
    ·exact h3
    ·exact h1 w hw
theorem Xb {ns:List (List UInt8)}{m k:Nat}{d:List Int}{x:Int}(h:d[k]?=some x):Iw ns m k (d.drop k)=if (x==Kr (k / m) (k % m))=true then Iw ns m (k+1) (d.drop (k+1)) else Dt ns (k / m) (k % m) x::Iw ns m (k+1) (d.drop (k+1)):=by rw [Av h];rfl
theorem Anb (n:Int)(d:List Int)(ns:List (List UInt8))(hf:Iv n d=true)(hn:(ns.length:Int)=n-1)(hg:∀ s,s∈ns→GoodL s):Pure X 75 [.agg (H6 n d),.sl (A3 ns) .no] (str (Kj ns n d)):=by
 have hno:Ex n d=false:=by
  cases h:Ex n d with
  | false=>rfl
  | true=>rw [Xw h] at hf;cases hf
 have q1:=Ahr n d
 rw [hno] at q1
 have q2:=Aho n d
 rw [hf] at q2
 have fat:=fun {k:Nat} {x:Int} (hx:d[k]?=some x)=>Aa5 hf hx
 have hf':=hf
 simp only [Iv,Bool.and_eq_true,beq_iff_eq] at hf'
 have hb:=Az.1 hf'.1
 have hdl:=hf'.2.1
 have hw:IntKind.i64.wrap (n-1)=n-1:=Aa (by omega) (by omega)
 have q3:=Adu ns (IntKind.i64.wrap (n-1)) (by omega) hg
 rw [show ((ns.length:Int)==IntKind.i64.wrap (n-1))=true by rw [hw,hn];simp] at q3
 obtain ⟨m,rfl⟩:∃ m:Nat,n=m:=⟨n.toNat,by omega⟩
 have hmm:(m:Int)*m≤13*13:=Int.mul_le_mul hb.2 hb.2 (by omega) (by omega)
 have hzl:((I6 d).length:Int)=d.length:=by rw [J3]
 unfold Kj
 rw [Int.toNat_natCast] at fat ⊢
 obtain ⟨T,hTT⟩:∃ T,Iw ns m 0 d=T:=⟨_,rfl⟩
 have hmem:=Qk (ns:=ns) (m:=m) hg (l:=d) (k:=0) (fun i x hx=>by rw [Nat.zero_add];exact fat hx)
 rw [hTT] at hmem
 have hTm:=hmem.1
 have hTl:T.length≤169:=by have:=hmem.2;omega
 rw [hTT]
 refine Pure.run Tryz.func75 ?_
 refine AK.pc q1 ?_
 refine AK.no ?_
 refine AK.pc q2 ?_
 refine AK.gn ?_
 refine AK.pc q3 ?_
 refine AK.no ?_
 refine AK.mint (d:=5) rfl rfl rfl ?_
 refine AK.while_ (ι:=Nat × List (List UInt8)) 1 1 (fun k=>k.1≤d.length∧k.2++Iw ns m k.1 (d.drop k.1)=T) (fun k=>[(29,vi k.1),(28,vi d.length),(27,.sl (I6 d) .no),(5,.sl (A3 k.2) (.tok 0)),(2,.ptr 0 0 0),(1,.sl (A3 ns) .no)])
  (fun k=>⟨[[H6 m d]],[k.2.length]⟩) (fun k=>d.length-k.1) ?_ (0,[]) ⟨Nat.zero_le _,hTT⟩ ⟨rfl,A5 hzl,rfl,rfl,rfl,rfl,trivial⟩
 rintro ⟨k,o⟩ ⟨hk,hT⟩ IH
 simp only at hk hT IH ⊢
 refine AK.ei (fun h=>?_) (fun h=>?_)
 ·have hlt:k<d.length:=by have:=of_decide_eq_true h;omega
  obtain ⟨x,hx⟩:=Ac d hlt
  have fa:=fat hx
  rw [Xb hx] at hT
  have hq:O4 .quo .i64 (k:Int) (m:Int) true=some (.int .i64 ((k / m:Nat):Int)):=by
   have e1:decide ((m:Int)=0)=false:=decide_eq_false (by omega)
   have e2:(k:Int).tdiv m=((k / m:Nat):Int):=rfl
   have e3:k / m≤k:=Nat.div_le_self _ _
   simp only [O4,e1,e2]
   generalize k / m=z at e3 ⊢
   rw [Aa (by omega) (by omega)]
  have hr:O4 .rem .i64 (k:Int) (m:Int) true=some (.int .i64 ((k % m:Nat):Int)):=by
   have e1:decide ((m:Int)=0)=false:=decide_eq_false (by omega)
   have e2:(k:Int).tmod m=((k % m:Nat):Int):=rfl
   simp only [O4,e1,e2]
  have hol:o.length≤169:=by have:=congrArg List.length hT;rw [List.length_append] at this;omega
  refine AK.ix k (by omega) (Wp hx) ?_
  refine AK.db 0 ?_
  refine Ax (fun S'=>Qd hq) ?_
  refine Drv.go ?_
  refine Ax (fun S'=>Qd hr) ?_
  refine Drv.go ?_
  refine Drv.z ?_
  generalize k / m=i at fa hT ⊢
  generalize k % m=j at fa hT ⊢
  refine AK.pc (Ahm i j) ?_
  refine AK.if_ (fun g=>?_) (fun g=>?_)
  ·rw [if_pos g] at hT
   exact IH (k+1,o) ⟨hlt,hT⟩ (by simp only;omega) _ _ ⟨vsx (by omega),rfl,rfl,rfl,rfl,rfl,trivial⟩ rfl rfl rfl
  have g':(x==Kr i j)=false:=g
  rw [if_neg (by rw [g'];simp),← List.singleton_append,← List.append_assoc] at hT
  have hne:=fa.ne (by rw [g'];simp)
  have hgi:i≠0→0≤IntKind.i64.wrap ((i:Int)-1)∧(A3 ns)[(IntKind.i64.wrap ((i:Int)-1)).toNat]?=some [str (nmT ns (i:Int))]:=fun h=>Qt (by omega) (by have:=fa.il;omega) (by omega)
  have hgj:j≠0→0≤IntKind.i64.wrap ((j:Int)-1)∧(A3 ns)[(IntKind.i64.wrap ((j:Int)-1)).toNat]?=some [str (nmT ns (j:Int))]:=fun h=>Qt (by omega) (by have:=fa.jl;omega) (by omega)
  have hx0:=fa.x0
  have hx1:=fa.x1
  have l1:=D5 (n:=x) (by omega) (by omega)
  have l2:=D5 (n:=-x) (by omega) (by omega)
  have n1:=Kx hg (i:Int)
  have n2:=Kx hg (j:Int)
  have hwn:IntKind.i64.wrap (-x)=-x:=Aa (by omega) (by omega)
  refine AK.if_ (fun g2=>?_) (fun g2=>?_)
  ·have hj:j=0:=by have:((j:Int)==0)=true:=g2;simp at this;omega
   have hi0:i≠0:=by omega
   refine AK.db 2048 ?_
   refine Ax (fun S'=>Ndo.index rfl rfl rfl rfl rfl rfl rfl rfl rfl (hgi hi0).1 (hgi hi0).2) ?_
   refine Drv.go ?_
   refine Ax (fun S'=>Aq rfl rfl rfl rfl rfl (by simp;omega) rfl) ?_
   refine Drv.go ?_
   refine As (Kl x (by omega) (by omega)) ?_
   refine Ax (fun S'=>Aq rfl rfl rfl rfl rfl (by simp [hwn];omega) rfl) ?_
   refine Drv.go ?_
   refine Drv.w (Ndo.append (res:=A3 (o++[Dt ns i j x])) (tk:=[(o++[Dt ns i j x]).length]) rfl rfl rfl rfl rfl rfl rfl rfl rfl rfl rfl rfl rfl rfl (Am _) (Fg _) rfl rfl rfl ?_ ?_ ?_) ?_
   ·rw [Am];simp;omega
   ·simp [A3,Dt,hj]
   ·rw [Am,List.length_append];rfl
   refine Drv.e ?_
   refine Drv.z ?_
   exact IH (k+1,o++[Dt ns i j x]) ⟨hlt,hT⟩ (by simp only;omega) _ _ ⟨vsx (by omega),rfl,rfl,rfl,rfl,rfl,trivial⟩ rfl rfl rfl
  have hj0:j≠0:=by have:((j:Int)==0)=false:=g2;simp at this;omega
  refine AK.if_ (fun g3=>?_) (fun g3=>?_)
  ·have hi:i=0:=by have:((i:Int)==0)=true:=g3;simp at this;omega
   have hd1:=Kl (-x) (by omega) (by omega)
   rw [← hwn] at hd1
   refine AK.db 4096 ?_
   refine Ax (fun S'=>Ndo.index rfl rfl rfl rfl rfl rfl rfl rfl rfl (hgj hj0).1 (hgj hj0).2) ?_
   refine Drv.go ?_
   refine Ax (fun S'=>Aq rfl rfl rfl rfl rfl (by simp;omega) rfl) ?_
   refine Drv.go ?_
   refine As hd1 ?_
   refine Ax (fun S'=>Aq rfl rfl rfl rfl rfl (by simp [hwn];omega) rfl) ?_
   refine Drv.go ?_
   refine Drv.w (Ndo.append (res:=A3 (o++[Dt ns i j x])) (tk:=[(o++[Dt ns i j x]).length]) rfl rfl rfl rfl rfl rfl rfl rfl rfl rfl rfl rfl rfl rfl (Am _) (Fg _) rfl rfl rfl ?_ ?_ ?_) ?_
   ·rw [Am];simp;omega
   ·simp [A3,Dt,hj0,hi,hwn]
   ·rw [Am,List.length_append];rfl
   refine Drv.e ?_
   refine Drv.z ?_
   exact IH (k+1,o++[Dt ns i j x]) ⟨hlt,hT⟩ (by simp only;omega) _ _ ⟨vsx (by omega),rfl,rfl,rfl,rfl,rfl,trivial⟩ rfl rfl rfl
  have hi0:i≠0:=by have:((i:Int)==0)=false:=g3;simp at this;omega
  refine AK.db 262144 ?_
  refine Ax (fun S'=>Ndo.index rfl rfl rfl rfl rfl rfl rfl rfl rfl (hgi hi0).1 (hgi hi0).2) ?_
  refine Drv.go ?_
  refine Ax (fun S'=>Aq rfl rfl rfl rfl rfl (by simp;omega) rfl) ?_
  refine Drv.go ?_
  refine Ax (fun S'=>Ndo.index rfl rfl rfl rfl rfl rfl rfl rfl rfl (hgj hj0).1 (hgj hj0).2) ?_
  refine Drv.go ?_
  refine Ax (fun S'=>Aq rfl rfl rfl rfl rfl (by simp;omega) rfl) ?_
  refine Ax (fun S'=>Aq rfl rfl rfl rfl rfl (by simp;omega) rfl) ?_
  refine Drv.go ?_
  refine As (Kl x (by omega) (by omega)) ?_
  refine Ax (fun S'=>Aq rfl rfl rfl rfl rfl (by simp;omega) rfl) ?_
  refine Drv.go ?_
  refine Drv.w (Ndo.append (res:=A3 (o++[Dt ns i j x])) (tk:=[(o++[Dt ns i j x]).length]) rfl rfl rfl rfl rfl rfl rfl rfl rfl rfl rfl rfl rfl rfl (Am _) (Fg _) rfl rfl rfl ?_ ?_ ?_) ?_
  ·rw [Am];simp;omega
  ·simp [A3,Dt,hj0,hi0]
  ·rw [Am,List.length_append];rfl
  refine Drv.e ?_
  refine Drv.z ?_
  exact IH (k+1,o++[Dt ns i j x]) ⟨hlt,hT⟩ (by simp only;omega) _ _ ⟨vsx (by omega),rfl,rfl,rfl,rfl,rfl,trivial⟩ rfl rfl rfl
 ·have hke:k=d.length:=by have:=of_decide_eq_false h;omega
  rw [hke,List.drop_length,Iw,List.append_nil] at hT
  subst hT
  have lo:((A3 o).length:Int)=o.length:=by rw [Am]
  refine AK.ei (fun g=>?_) (fun g=>?_)
  ·have g':o=[]:=by have:(((A3 o).length:Int)==0)=true:=g;rw [lo] at this;simpa using this
   refine AK.rz Tryz.func75 ?_
   rw [if_pos g']
  ·have g':o≠[]:=fun e=>by have:(((A3 o).length:Int)==0)=false:=g;rw [lo,e] at this;simp at this
   have hjl:=J9 (sep:=[44,32]) (fun w hw=>(hTm w hw).2)
   refine AK.pc (Afr o [44,32] (by omega) (by simp at hjl;omega)) ?_
   refine AK.rz Tryz.func75 ?_
   rw [if_neg g']
theorem Amm (n:Int)(d:List Int)(ns:List (List UInt8))(hf:Iv n d=true)(hn:(ns.length:Int)=n-1)(hg:∀ s,s∈ns→GoodL s):Pure X 72 [.agg (H6 n d),.sl (A3 ns) .no] (str (Kj ns n d)):=by
 have hno:Ex n d=false:=by
  cases h:Ex n d with
  | false=>rfl
  | true=>rw [Xw h] at hf;cases hf
 have q1:=Abw n d
 rw [hno] at q1
 have q2:=Aha n d
 rw [hf] at q2
 have fat:=fun {k:Nat} {x:Int} (hx:d[k]?=some x)=>Aa5 hf hx
 have hf':=hf
 simp only [Iv,Bool.and_eq_true,beq_iff_eq] at hf'
 have hb:=Az.1 hf'.1
 have hdl:=hf'.2.1
 have hw:IntKind.i64.wrap (n-1)=n-1:=Aa (by omega) (by omega)
 obtain ⟨m,rfl⟩:∃ m:Nat,n=m:=⟨n.toNat,by omega⟩
 have hmm:(m:Int)*m≤13*13:=Int.mul_le_mul hb.2 hb.2 (by omega) (by omega)
 have gn:d.length=m*m:=by have:((d.length:Nat):Int)=((m*m:Nat):Int):=by rw [hdl];simp
                          omega
 have hsq:m*m≤169:=by omega
 have hzl:((A3 ns).length:Int)=ns.length:=by rw [Am]
 unfold Kj
 rw [Int.toNat_natCast] at fat ⊢
 obtain ⟨T,hTT⟩:∃ T,Iw ns m 0 d=T:=⟨_,rfl⟩
 have hmem:=Qk (ns:=ns) (m:=m) hg (l:=d) (k:=0) (fun i x hx=>by rw [Nat.zero_add];exact fat hx)
 rw [hTT] at hmem
 have hTm:=hmem.1
 have hTl:T.length≤169:=by have:=hmem.2;omega
 rw [hTT]
 refine Pure.run Tryz.func72 ?_
 refine AK.pc q1 ?_
 refine AK.no ?_
 refine AK.pc q2 ?_
 refine AK.gn ?_
 refine AK.no ?_ (ht:=by rw [hw,hzl,hn];simp)
 refine AK.while_ (ι:=Nat) 1 0 (fun i=>i≤ns.length) (fun i=>[(5,vi i),(2,.ptr 0 0 0),(1,.sl (A3 ns) .no)]) (fun _=>⟨[[H6 m d]],[]⟩) (fun i=>ns.length-i) ?_ 0 (Nat.zero_le _)
  ⟨rfl,rfl,rfl,trivial⟩
 intro i hi IH
 refine AK.ei (fun h=>?_) (fun h=>?_)
 ·have hlt:i<ns.length:=by have:=of_decide_eq_true h;rw [hzl] at this;omega
  obtain ⟨x,hx⟩:=Ac ns hlt
  refine AK.ix i (by omega) (Dz hx) ?_
  refine AK.pc (Ahc x (hg x (List.mem_of_getElem? hx))) ?_
  refine AK.no ?_
  exact IH (i+1) hlt (by omega) _ _ ⟨vsx (by omega),rfl,rfl,trivial⟩ rfl rfl rfl
 clear IH hi
 refine AK.while_ (ι:=Nat × List (List UInt8)) 1 0 (fun i=>i.1≤m∧i.2++Iw ns m (i.1*m) (d.drop (i.1*m))=T) (fun i=>[(7,vi i.1),(6,str (jn i.2)),(2,.ptr 0 0 0),(1,.sl (A3 ns) .no)]) (fun _=>⟨[[H6 m d]],[]⟩) (fun i=>m-i.1) ?_ (0,[]) ⟨Nat.zero_le _,by simpa using hTT⟩
  ⟨rfl,rfl,rfl,rfl,trivial⟩
 rintro ⟨i,o⟩ ⟨hi,hT⟩ IH
 simp only at hi hT IH ⊢
 refine AK.ei (fun h=>?_) (fun h=>?_)
 ·have hlt:i<m:=by have:=of_decide_eq_true h;omega
  have him:i*m+m≤m*m:=by rw [← Nat.succ_mul];exact Nat.mul_le_mul_right _ hlt
  refine AK.while_ (ι:=Nat × List (List UInt8)) 1 0 (fun j=>j.1≤m∧j.2++Iw ns m (i*m+j.1) (d.drop (i*m+j.1))=T) (fun j=>[(8,vi j.1),(7,vi i),(6,str (jn j.2)),(2,.ptr 0 0 0),(1,.sl (A3 ns) .no)]) (fun _=>⟨[[H6 m d]],[]⟩) (fun j=>m-j.1) ?_ (0,o) ⟨Nat.zero_le _,by simpa using hT⟩
   ⟨rfl,rfl,rfl,rfl,rfl,trivial⟩
  rintro ⟨j,o2⟩ ⟨hj,hU⟩ JH
  simp only at hj hU JH ⊢
  refine AK.ei (fun g=>?_) (fun g=>?_)
  ·have hjl:j<m:=by have:=of_decide_eq_true g;omega
   obtain ⟨x,hx⟩:=Ac d (i:=i*m+j) (by omega)
   have fa:=fat hx
   rw [Xb hx] at hU
   have e1:(i*m+j) / m=i:=by rw [Nat.mul_comm i m,Nat.mul_add_div (by omega),Nat.div_eq_of_lt hjl];rfl
   have e2:(i*m+j) % m=j:=by rw [Nat.mul_comm i m,Nat.mul_add_mod,Nat.mod_eq_of_lt hjl]
   rw [e1,e2] at fa hU
   have w1:IntKind.i64.wrap ((i:Int)*m)=((i*m:Nat):Int):=by
    have:((i:Int)*m)=((i*m:Nat):Int):=by simp
    rw [this];exact Aa (by omega) (by omega)
   have w2:IntKind.i64.wrap (IntKind.i64.wrap ((i:Int)*m)+j)=((i*m+j:Nat):Int):=by
    rw [w1];exact (Aa (by omega) (by omega)).trans (by omega)
   refine AK.as_ 55 (vi ((i*m+j:Nat):Int)) ?_ (A5 w2)
   refine AK.ix (i*m+j) (by omega) (Wp hx) ?_
   refine AK.pc (Ag7 i j) ?_
   refine AK.if_ (fun g2=>?_) (fun g2=>?_)
   ·rw [if_pos g2] at hU
    exact JH (j+1,o2) ⟨hjl,hU⟩ (by simp only;omega) _ _ ⟨vsx (by omega),rfl,rfl,rfl,rfl,trivial⟩ rfl rfl rfl
   have g2':(x==Kr i j)=false:=g2
   rw [if_neg (by rw [g2'];simp),← List.singleton_append,← List.append_assoc] at hU
   have hne:=fa.ne (by rw [g2'];simp)
   have hol:o2.length≤169:=by have:=congrArg List.length hU;rw [List.length_append,List.length_append] at this;omega
   have hjl2:=J9 (sep:=[44,32]) (o:=o2) (c:=60) (fun w hw=>(hTm w (by rw [← hU];simp [hw])).2)
   have hjl3:(jn o2).length≤62*169:=Nat.le_trans hjl2 (by rw [show (60+[44,(32:UInt8)].length)=62 from rfl];exact Nat.mul_le_mul_left _ hol)
   have hwl:=Zh hg fa
   have hjs:=My [44,32] o2 (Dt ns i j x)
   have hgi:i≠0→0≤IntKind.i64.wrap ((i:Int)-1)∧(A3 ns)[(IntKind.i64.wrap ((i:Int)-1)).toNat]?=some [str (nmT ns (i:Int))]:=fun h=>Qt (by omega) (by have:=fa.il;omega) (by omega)
   have hgj:j≠0→0≤IntKind.i64.wrap ((j:Int)-1)∧(A3 ns)[(IntKind.i64.wrap ((j:Int)-1)).toNat]?=some [str (nmT ns (j:Int))]:=fun h=>Qt (by omega) (by have:=fa.jl;omega) (by omega)
   have hx0:=fa.x0
   have hx1:=fa.x1
   have l1:=D5 (n:=x) (by omega) (by omega)
   have l2:=D5 (n:=-x) (by omega) (by omega)
   have n1:=Kx hg (i:Int)
   have n2:=Kx hg (j:Int)
   have hwn:IntKind.i64.wrap (-x)=-x:=Aa (by omega) (by omega)
   refine AK.if_ (fun g3=>?_) (fun g3=>?_)
   ·have hj0:j=0:=by have:((j:Int)==0)=true:=g3;simp at this;omega
    have hi0:i≠0:=by omega
    refine AK.db 0 ?_
    refine Ax (fun S'=>Ndo.index rfl rfl rfl rfl rfl rfl rfl rfl rfl (hgi hi0).1 (hgi hi0).2) ?_
    refine Drv.go ?_
    refine Ax (fun S'=>Aq rfl rfl rfl rfl rfl (by simp;omega) rfl) ?_
    refine Drv.go ?_
    refine As (Hd x (by omega) (by omega)) ?_
    refine Ax (fun S'=>Aq rfl rfl rfl rfl rfl (by simp [hwn];omega) rfl) ?_
    refine Drv.go ?_
    refine Drv.z ?_
    refine AK.as_ 10 (str (Dt ns i j x)) ?_ (by unfold Dt;rw [if_pos hj0];rfl)
    by_cases ho:o2=[]
    ·rw [if_pos ho] at hjs
     have hj6:jn o2++Dt ns i j x=jn (o2++[Dt ns i j x]):=by rw [show jn (o2++[Dt ns i j x])=_ from hjs,ho];rfl
     refine AK.no ?_ (ht:=by rw [ho];rfl)
     refine AK.op (Aq rfl rfl rfl rfl rfl (by omega) rfl) ?_
     exact JH (j+1,o2++[Dt ns i j x]) ⟨hjl,hU⟩ (by simp only;omega) _ _ ⟨vsx (by omega),rfl,congrArg (fun s=>some (str s)) hj6,rfl,rfl,trivial⟩ rfl rfl rfl
    ·rw [if_neg ho] at hjs
     have hjn:jn o2≠[]:=Wg (fun w hw=>(hTm w (by rw [← hU];simp [hw])).1) ho
     refine AK.yes ?_ (ht:=by show (!(jn o2==([]:List UInt8)))=true;rw [beq_eq_false_iff_ne.2 hjn];rfl)
     refine AK.op (Aq rfl rfl rfl rfl rfl (by simp;omega) rfl) ?_
     refine AK.op (Aq rfl rfl rfl rfl rfl (by simp;omega) rfl) ?_
     exact JH (j+1,o2++[Dt ns i j x]) ⟨hjl,hU⟩ (by simp only;omega) _ _ ⟨vsx (by omega),rfl,congrArg (fun s=>some (str s)) hjs.symm,rfl,rfl,trivial⟩ rfl rfl rfl
   have hj0:j≠0:=by have:((j:Int)==0)=false:=g3;simp at this;omega
   refine AK.if_ (fun g4=>?_) (fun g4=>?_)
   ·have hi0:i=0:=by have:((i:Int)==0)=true:=g4;simp at this;omega
    have hd1:=Hd (-x) (by omega) (by omega)
    rw [← hwn] at hd1
    refine AK.db 0 ?_
    refine Ax (fun S'=>Ndo.index rfl rfl rfl rfl rfl rfl rfl rfl rfl (hgj hj0).1 (hgj hj0).2) ?_
    refine Drv.go ?_
    refine Ax (fun S'=>Aq rfl rfl rfl rfl rfl (by simp;omega) rfl) ?_
    refine Drv.go ?_
    refine As hd1 ?_
    refine Ax (fun S'=>Aq rfl rfl rfl rfl rfl (by simp [hwn];omega) rfl) ?_
    refine Drv.go ?_
    refine Drv.z ?_
    refine AK.as_ 10 (str (Dt ns i j x)) ?_ (by unfold Dt;rw [if_neg hj0,if_pos hi0];exact congrArg (fun z=>some (str (nmT ns j++[32,62,61,32]++Lib.itoa z))) hwn)
    by_cases ho:o2=[]
    ·rw [if_pos ho] at hjs
     have hj6:jn o2++Dt ns i j x=jn (o2++[Dt ns i j x]):=by rw [show jn (o2++[Dt ns i j x])=_ from hjs,ho];rfl
     refine AK.no ?_ (ht:=by rw [ho];rfl)
     refine AK.op (Aq rfl rfl rfl rfl rfl (by omega) rfl) ?_
     exact JH (j+1,o2++[Dt ns i j x]) ⟨hjl,hU⟩ (by simp only;omega) _ _ ⟨vsx (by omega),rfl,congrArg (fun s=>some (str s)) hj6,rfl,rfl,trivial⟩ rfl rfl rfl
    ·rw [if_neg ho] at hjs
     have hjn:jn o2≠[]:=Wg (fun w hw=>(hTm w (by rw [← hU];simp [hw])).1) ho
     refine AK.yes ?_ (ht:=by show (!(jn o2==([]:List UInt8)))=true;rw [beq_eq_false_iff_ne.2 hjn];rfl)
     refine AK.op (Aq rfl rfl rfl rfl rfl (by simp;omega) rfl) ?_
     refine AK.op (Aq rfl rfl rfl rfl rfl (by simp;omega) rfl) ?_
     exact JH (j+1,o2++[Dt ns i j x]) ⟨hjl,hU⟩ (by simp only;omega) _ _ ⟨vsx (by omega),rfl,congrArg (fun s=>some (str s)) hjs.symm,rfl,rfl,trivial⟩ rfl rfl rfl
   have hi0:i≠0:=by have:((i:Int)==0)=false:=g4;simp at this;omega
   refine AK.db 0 ?_
   refine Ax (fun S'=>Ndo.index rfl rfl rfl rfl rfl rfl rfl rfl rfl (hgi hi0).1 (hgi hi0).2) ?_
   refine Drv.go ?_
   refine Ax (fun S'=>Aq rfl rfl rfl rfl rfl (by simp;omega) rfl) ?_
   refine Drv.go ?_
   refine Ax (fun S'=>Ndo.index rfl rfl rfl rfl rfl rfl rfl rfl rfl (hgj hj0).1 (hgj hj0).2) ?_
   refine Drv.go ?_
   refine Ax (fun S'=>Aq rfl rfl rfl rfl rfl (by simp;omega) rfl) ?_
   refine Ax (fun S'=>Aq rfl rfl rfl rfl rfl (by simp;omega) rfl) ?_
   refine Drv.go ?_
   refine As (Hd x (by omega) (by omega)) ?_
   refine Ax (fun S'=>Aq rfl rfl rfl rfl rfl (by simp;omega) rfl) ?_
   refine Drv.go ?_
   refine Drv.z ?_
   refine AK.as_ 10 (str (Dt ns i j x)) ?_ (by unfold Dt;rw [if_neg hj0,if_neg hi0];rfl)
   by_cases ho:o2=[]
   ·rw [if_pos ho] at hjs
    have hj6:jn o2++Dt ns i j x=jn (o2++[Dt ns i j x]):=by rw [show jn (o2++[Dt ns i j x])=_ from hjs,ho];rfl
    refine AK.no ?_ (ht:=by rw [ho];rfl)
    refine AK.op (Aq rfl rfl rfl rfl rfl (by omega) rfl) ?_
    exact JH (j+1,o2++[Dt ns i j x]) ⟨hjl,hU⟩ (by simp only;omega) _ _ ⟨vsx (by omega),rfl,congrArg (fun s=>some (str s)) hj6,rfl,rfl,trivial⟩ rfl rfl rfl
   ·rw [if_neg ho] at hjs
    have hjn:jn o2≠[]:=Wg (fun w hw=>(hTm w (by rw [← hU];simp [hw])).1) ho
    refine AK.yes ?_ (ht:=by show (!(jn o2==([]:List UInt8)))=true;rw [beq_eq_false_iff_ne.2 hjn];rfl)
    refine AK.op (Aq rfl rfl rfl rfl rfl (by simp;omega) rfl) ?_
    refine AK.op (Aq rfl rfl rfl rfl rfl (by simp;omega) rfl) ?_
    exact JH (j+1,o2++[Dt ns i j x]) ⟨hjl,hU⟩ (by simp only;omega) _ _ ⟨vsx (by omega),rfl,congrArg (fun s=>some (str s)) hjs.symm,rfl,rfl,trivial⟩ rfl rfl rfl
  ·have hje:j=m:=by have:=of_decide_eq_false g;omega
   subst hje
   exact IH (i+1,o2) ⟨hlt,by rw [Nat.succ_mul];exact hU⟩ (by simp only;omega) _ _ ⟨vsx (by omega),rfl,rfl,rfl,trivial⟩ rfl rfl rfl
 ·have hie:i=m:=by have:=of_decide_eq_false h;omega
  rw [hie,← gn,List.drop_length,Iw,List.append_nil] at hT
  subst hT
  refine AK.ev 100 rfl ?_
  by_cases ho:o=[]
  ·refine AK.yes ?_ (ht:=by rw [ho];rfl)
   refine AK.rz Tryz.func72 ?_
   rw [if_pos ho]
  ·have hjn:jn o≠[]:=Wg (fun w hw=>(hTm w hw).1) ho
   refine AK.no ?_ (ht:=by show (jn o==([]:List UInt8))=false;exact beq_eq_false_iff_ne.2 hjn)
   refine AK.rz Tryz.func72 ?_
   rw [if_neg ho]
def H4 (ns:List (List UInt8))(x:List (Int × Int)):List UInt8:=[123]++jn (x.map (Fl ns))++[125]
def O0 (g:Sg)(i:Nat):List (List UInt8):=if i=0 then [] else Nh (g.vs.getD (i-1) ⟨0,0,false⟩)::(if g.ms.getD (i-1) false=true then [[63]] else [])
def P7 (ns:List (List UInt8))(g:Sg):Nat→List (List (Int × Int))→List (List UInt8)
 | _,[]=>[]
 | i,x::l=>O0 g i++H4 ns x::P7 ns g (i+1) l
def U7 (ns:List (List UInt8))(g:Sg):List UInt8:=Lib.join (P7 ns g 0 g.tm) [32]
structure SegTx (ns:List (List UInt8))(g:Sg):Prop where
 n:ns.length<13
 lab:∀ s,s∈ns→GoodL s
 tm:g.tm.length≤16
 row:∀ x,x∈g.tm→x.length≤40∧∀ s,s∈x→SymOkT ns s
 vs:g.vs.length+1=g.tm.length
 ms:g.ms.length+1=g.tm.length
 val:∀ v,v∈g.vs→Js v=true
theorem Aeh {v:Vl}(h:Js v=true):(Nh v).length≤57:=by
 have:=R8 (lo:=v.lo) (hi:=v.hi) h
 unfold Nh;split
 ·omega
 ·simp [Aw1];omega
theorem Rt {ns:List (List UInt8)}{g:Sg}(hg:SegTx ns g){x:List (Int × Int)}(hx:x∈g.tm):(jn (x.map (Fl ns))).length≤1560∧(H4 ns x).length≤1562:=by
 have h1:(jn (x.map (Fl ns))).length≤_:=J9 (sep:=[44,32]) (o:=x.map (Fl ns)) (c:=37) (fun w hw=>by
  obtain ⟨s,hs,rfl⟩:=List.mem_map.1 hw
  exact Ym hg.lab ((hg.row x hx).2 s hs))
 have h2:=(hg.row x hx).1
 have h3:(jn (x.map (Fl ns))).length≤1560:=by
  rw [List.length_map] at h1
  have h4:(37+[44,(32:UInt8)].length)=39:=rfl
  rw [h4] at h1;omega
 refine ⟨h3,?_⟩
 unfold H4;simp;omega
theorem Aii {ns:List (List UInt8)}{g:Sg}(hg:SegTx ns g){i:Nat}(hi:i<g.tm.length):(O0 g i).length≤2∧∀ w,w∈O0 g i→w.length≤57:=by
 unfold O0
 split
 ·exact ⟨by simp,fun w hw=>by cases hw⟩
 ·rename_i h0
  have hvs:=hg.vs
  obtain ⟨v,hv⟩:=Ac g.vs (i:=i-1) (by omega)
  have hl:=Aeh (hg.val v (List.mem_of_getElem? hv))
  rw [List.getD_eq_getElem?_getD,hv]
  simp only [Option.getD_some]
  split
  ·refine ⟨by simp,fun w hw=>?_⟩
   simp at hw
   rcases hw with rfl | rfl
   ·exact hl
   ·simp
  ·refine ⟨by simp,fun w hw=>?_⟩
   simp at hw;subst hw;exact hl
theorem To {ns:List (List UInt8)}{g:Sg}(hg:SegTx ns g):∀ (l:List (List (Int × Int)))(i:Nat),i+l.length≤g.tm.length→(∀ x,x∈l→x∈g.tm)→(P7 ns g i l).length≤3*l.length∧∀ w,w∈P7 ns g i l→w.length≤1562
 | [],i,_,_=>⟨Nat.le_refl _,fun w hw=>by cases hw⟩
 | x::l,i,hl,hm=>by
   rw [List.length_cons] at hl
   have h1:=To hg l (i+1) (by omega) (fun y hy=>hm y (by simp [hy]))
   have h2:=Aii hg (i:=i) (by omega)
   have h3:=Rt hg (hm x (by simp))
   refine ⟨by simp only [P7,List.length_append,List.length_cons];omega,fun w hw=>?_⟩
   simp only [P7,List.mem_append,List.mem_cons] at hw
   rcases hw with hw | rfl | hw
   ·have:=h2.2 w hw;omega
   ·exact h3.2
   ·exact h1.2 w hw
set_option maxHeartbeats 1000000 in
theorem Aul (ns:List (List UInt8))(g:Sg)(hg:SegTx ns g):Pure X 77 [.agg (B4 g),.sl (A3 ns) .no] (str (U7 ns g)):=by
 have htm:=hg.tm
 have hvs:=hg.vs
 have hms:=hg.ms
 have hWl:=To hg g.tm 0 (by omega) (fun x hx=>hx)
 unfold U7
 obtain ⟨W,hW⟩:∃ W,P7 ns g 0 g.tm=W:=⟨_,rfl⟩
 rw [hW] at hWl ⊢
 have l1:((D9 g.tm).length:Int)=g.tm.length:=by simp [D9]
 refine Pure.run Tryz.func77 ?_
 refine AK.mint (d:=5) rfl rfl rfl ?_
 refine AK.while_ (ι:=Nat × List (List UInt8)) 1 1 (fun i=>i.1≤g.tm.length∧i.2++P7 ns g i.1 (g.tm.drop i.1)=W) (fun i=>[(15,vi i.1),(14,vi g.tm.length),(13,.sl (D9 g.tm) .no),(5,.sl (A3 i.2) (.tok 0)),(2,.ptr 0 0 0),(1,.sl (A3 ns) .no)])
  (fun i=>⟨[[B4 g]],[i.2.length]⟩) (fun i=>g.tm.length-i.1) ?_ (0,[]) ⟨Nat.zero_le _,hW⟩ ⟨rfl,A5 l1,rfl,rfl,rfl,rfl,trivial⟩
 rintro ⟨i,o⟩ ⟨hi,hT⟩ IH
 simp only at hi hT IH ⊢
 refine AK.ei (fun h=>?_) (fun h=>?_)
 ·have hlt:i<g.tm.length:=by have:=of_decide_eq_true h;omega
  obtain ⟨x,hx⟩:=Ac g.tm hlt
  have hxm:=List.mem_of_getElem? hx
  have hxr:=hg.row x hxm
  have hbl:=Rt hg hxm
  have hb1:(Lib.join (x.map (Fl ns)) [44,32]).length≤1560:=hbl.1
  have lx:((G6 x).length:Int)=x.length:=by simp [G6]
  rw [Av hx] at hT
  simp only [P7] at hT
  obtain ⟨rest,hrest⟩:∃ r,P7 ns g (i+1) (g.tm.drop (i+1))=r:=⟨_,rfl⟩
  rw [hrest] at hT
  have hol:=congrArg List.length hT
  rw [List.length_append,List.length_append,List.length_cons] at hol
  have L:∀ o1:List (List UInt8),o1.length≤48→o1++H4 ns x::rest=W→AK X ⟨77,Tryz.f77,0,0⟩ (Hn true 11 Tryz.f77)
   [(44,vi 0),(43,vi (G6 x).length),(42,.sl (G6 x) .no),(8,.sl [] .tight),(5,.sl (A3 o1) (.tok 0)),(15,vi i),(14,vi g.tm.length),(13,.sl (D9 g.tm) .no),(2,.ptr 0 0 0),(1,.sl (A3 ns) .no)] ⟨[[B4 g]],[o1.length]⟩
   (fun e S=>e=.ret (str (Lib.join W [32]))∧S=⟨[],[]⟩):=by
   intro o1 ho1 hU
   refine AK.at_ ?_
   refine AK.mint (d:=8) rfl rfl rfl ?_
   refine AK.while_ (ι:=Nat) 1 2 (fun j=>j≤x.length) (fun j=>[(44,vi j),(43,vi x.length),(42,.sl (G6 x) .no),(8,.sl (A3 ((x.take j).map (Fl ns))) (.tok 1)),(5,.sl (A3 o1) (.tok 0)),(15,vi i),(14,vi g.tm.length),(13,.sl (D9 g.tm) .no),(2,.ptr 0 0 0),(1,.sl (A3 ns) .no)])
    (fun j=>⟨[[B4 g]],[o1.length,((x.take j).map (Fl ns)).length]⟩) (fun j=>x.length-j) ?_ 0 (Nat.zero_le _) ⟨rfl,A5 lx,rfl,rfl,rfl,rfl,rfl,rfl,rfl,rfl,trivial⟩
   intro j hj JH
   refine AK.ei (fun q=>?_) (fun q=>?_)
   ·have hjl:j<x.length:=by have:=of_decide_eq_true q;omega
    obtain ⟨s,hs⟩:=Ac x hjl
    have e1:(x.take (j+1)).map (Fl ns)=(x.take j).map (Fl ns)++[Fl ns s]:=by rw [List.take_add_one,hs];simp
    have e2:((x.take j).map (Fl ns)).length≤40:=by simp;omega
    refine AK.ix j (by omega) (A8 (f:=C2) hs) ?_
    refine AK.pc (Aum ns s (by have:=hg.n;omega) hg.lab (hxr.2 s (List.mem_of_getElem? hs))) ?_
    refine AK.op (Ndo.append (res:=A3 ((x.take (j+1)).map (Fl ns))) (tk:=[o1.length,((x.take (j+1)).map (Fl ns)).length]) rfl rfl rfl rfl rfl rfl rfl rfl rfl rfl rfl rfl rfl rfl (Am _) (Fg _) rfl rfl rfl ?_ ?_ ?_) ?_
    ·rw [Am];simp only [List.length_cons,List.length_nil];omega
    ·rw [e1];simp [A3]
    ·rw [Am,e1,List.length_append];rfl
    exact JH (j+1) hjl (by omega) _ _ ⟨vsx (by omega),rfl,rfl,rfl,rfl,rfl,rfl,rfl,rfl,rfl,trivial⟩ rfl rfl rfl
   ·have hje:j=x.length:=by have:=of_decide_eq_false q;omega
    subst hje
    rw [List.take_length]
    refine AK.ev 100 rfl ?_
    refine AK.pc (Afr (x.map (Fl ns)) [44,32] (by rw [List.length_map];have:=hxr.1;omega) (by omega)) ?_
    refine AK.op (Aq rfl rfl rfl rfl rfl (by simp;omega) rfl) ?_
    refine AK.op (Aq rfl rfl rfl rfl rfl (by simp;omega) rfl) ?_
    refine AK.op (Ndo.append (res:=A3 (o1++[H4 ns x])) (tk:=[(o1++[H4 ns x]).length,(x.map (Fl ns)).length]) rfl rfl rfl rfl rfl rfl rfl rfl rfl rfl rfl rfl rfl rfl (Am _) (Fg _) rfl rfl rfl ?_ ?_ ?_) ?_
    ·rw [Am];simp;omega
    ·simp [A3,H4]
    ·rw [Am,List.length_append];rfl
    exact IH (i+1,o1++[H4 ns x]) ⟨hlt,by rw [← hU,← hrest];simp⟩ (by simp only;omega) _ _ ⟨vsx (by omega),rfl,rfl,rfl,rfl,rfl,trivial⟩ rfl rfl rfl
  refine AK.ix i (by omega) (A8 (f:=Lr) hx) ?_
  refine AK.if_ (fun q=>?_) (fun q=>?_)
  ·have hi0:i≠0:=by have:=of_decide_eq_true q;omega
   have hw:IntKind.i64.wrap ((i:Int)-1)=((i-1:Nat):Int):=(Aa (by omega) (by omega)).trans (by omega)
   obtain ⟨v,hv⟩:=Ac g.vs (i:=i-1) (by omega)
   obtain ⟨b,hb⟩:=Ac g.ms (i:=i-1) (by omega)
   have e1:O0 g i=Nh v::(if b=true then [[63]] else []):=by unfold O0;rw [if_neg hi0,List.getD_eq_getElem?_getD,List.getD_eq_getElem?_getD,hv,hb];rfl
   rw [e1] at hT hol
   rw [List.length_cons] at hol
   refine AK.ix (IntKind.i64.wrap ((i:Int)-1)) (by rw [hw];omega) (by rw [hw];exact A8 (f:=Em) hv) ?_
   refine AK.pc (Aun v (hg.val v (List.mem_of_getElem? hv))) ?_
   refine AK.op (Ndo.append (res:=A3 (o++[Nh v])) (tk:=[(o++[Nh v]).length]) rfl rfl rfl rfl rfl rfl rfl rfl rfl rfl rfl rfl rfl rfl (Am _) (Fg _) rfl rfl rfl ?_ ?_ ?_) ?_
   ·rw [Am];simp;omega
   ·simp [A3,H4]
   ·rw [Am,List.length_append];rfl
   refine AK.ix (IntKind.i64.wrap ((i:Int)-1)) (by rw [hw];omega) (by rw [hw];exact A8 (f:=Km) hb) ?_
   refine AK.if_ (fun q2=>?_) (fun q2=>?_)
   ·have q2':b=true:=q2
    rw [if_pos q2'] at hT hol
    have hol2:(o++[Nh v]).length≤47:=by simp at hol ⊢;omega
    refine AK.op (Ndo.append (res:=A3 ((o++[Nh v])++[[63]])) (tk:=[((o++[Nh v])++[[63]]).length]) rfl rfl rfl rfl rfl rfl rfl rfl rfl rfl rfl rfl rfl rfl (Am _) (Fg _) rfl rfl rfl ?_ ?_ ?_) ?_
    ·rw [Am];simp only [List.length_cons,List.length_nil];omega
    ·simp [A3]
    ·rw [Am];simp
    exact AK.back' 1 1 (L ((o++[Nh v])++[[63]]) (by rw [List.length_append];simp only [List.length_cons,List.length_nil];omega) (by rw [← hT];simp)) ⟨rfl,rfl,rfl,rfl,rfl,rfl,rfl,rfl,rfl,rfl,trivial⟩ rfl rfl rfl rfl rfl
   ·have q2':b=false:=q2
    rw [if_neg (by simp [q2'])] at hT hol
    exact AK.back' 1 1 (L (o++[Nh v]) (by simp at hol ⊢;omega) (by rw [← hT];simp)) ⟨rfl,rfl,rfl,rfl,rfl,rfl,rfl,rfl,rfl,rfl,trivial⟩ rfl rfl rfl rfl rfl
  ·have hi0:i=0:=by have:=of_decide_eq_false q;omega
   have e1:O0 g i=[]:=by unfold O0;rw [if_pos hi0]
   rw [e1] at hT hol
   exact AK.back' 1 1 (L o (by omega) (by rw [← hT];rfl)) ⟨rfl,rfl,rfl,rfl,rfl,rfl,rfl,rfl,rfl,rfl,trivial⟩ rfl rfl rfl rfl rfl
 ·have hie:i=g.tm.length:=by have:=of_decide_eq_false h;omega
  rw [hie,List.drop_length,P7,List.append_nil] at hT
  subst hT
  have hjl:=J9 (sep:=[32]) (o:=o) hWl.2
  rw [show (1562+[(32:UInt8)].length)=1563 from rfl] at hjl
  refine AK.ev 100 rfl ?_
  refine AK.pc (Afr o [32] (by omega) (by omega)) ?_
  exact AK.rz Tryz.func77 rfl
set_option maxHeartbeats 1000000 in
theorem At9 (ns:List (List UInt8))(g:Sg)(hg:SegTx ns g):Pure X 73 [.agg (B4 g),.sl (A3 ns) .no] (str (U7 ns g)):=by
 have htm:=hg.tm
 have hvs:=hg.vs
 have hms:=hg.ms
 have hWl:=To hg g.tm 0 (by omega) (fun x hx=>hx)
 unfold U7
 obtain ⟨W,hW⟩:∃ W,P7 ns g 0 g.tm=W:=⟨_,rfl⟩
 rw [hW] at hWl ⊢
 have l1:((D9 g.tm).length:Int)=g.tm.length:=by simp [D9]
 refine Pure.run Tryz.func73 ?_
 refine AK.while_ (ι:=Nat × List (List UInt8)) 1 0 (fun i=>i.1≤g.tm.length∧(i.1=0→i.2=[])∧(i.1≠0→i.2≠[])∧i.2++P7 ns g i.1 (g.tm.drop i.1)=W) (fun i=>[(6,vi i.1),(5,str (Lib.join i.2 [32])),(2,.ptr 0 0 0),(1,.sl (A3 ns) .no)])
  (fun _=>⟨[[B4 g]],[]⟩) (fun i=>g.tm.length-i.1) ?_ (0,[]) ⟨Nat.zero_le _,fun _=>rfl,fun h=>absurd rfl h,hW⟩ ⟨rfl,rfl,rfl,rfl,trivial⟩
 rintro ⟨i,o⟩ ⟨hi,hz,hnz,hT⟩ IH
 simp only at hi hz hnz hT IH ⊢
 have hjo:(Lib.join o [32]).length≤90000:=by
  have h1:=J9 (sep:=[32]) (o:=o) (c:=1562) (fun w hw=>hWl.2 w (by rw [← hT];simp [hw]))
  have h2:=congrArg List.length hT
  rw [List.length_append] at h2
  rw [show (1562+[(32:UInt8)].length)=1563 from rfl] at h1
  omega
 refine AK.ei (fun h=>?_) (fun h=>?_)
 ·have hlt:i<g.tm.length:=by have:=of_decide_eq_true h;rw [l1] at this;omega
  obtain ⟨x,hx⟩:=Ac g.tm hlt
  have hxm:=List.mem_of_getElem? hx
  have hxr:=hg.row x hxm
  have hbl:=Rt hg hxm
  have lx:((G6 x).length:Int)=x.length:=by simp [G6]
  rw [Av hx] at hT
  simp only [P7] at hT
  obtain ⟨rest,hrest⟩:∃ r,P7 ns g (i+1) (g.tm.drop (i+1))=r:=⟨_,rfl⟩
  rw [hrest] at hT
  have L:∀ (o1:List (List UInt8)) (B:List UInt8),B=(if o1=[] then [] else Lib.join o1 [32]++[32])→B.length≤100000→o1++H4 ns x::rest=W→AK X ⟨73,Tryz.f73,0,0⟩ (Hn true 11 Tryz.f73)
   [(7,vi 0),(5,str (B++[123])),(6,vi i),(2,.ptr 0 0 0),(1,.sl (A3 ns) .no)] ⟨[[B4 g]],[]⟩ (fun e S=>e=.ret (str (Lib.join W [32]))∧S=⟨[],[]⟩):=by
   intro o1 B hB hBl hU
   refine AK.at_ ?_
   refine AK.while_ (ι:=Nat) 1 0 (fun j=>j≤x.length) (fun j=>[(7,vi j),(5,str (B++[123]++jn ((x.take j).map (Fl ns)))),(6,vi i),(2,.ptr 0 0 0),(1,.sl (A3 ns) .no)])
    (fun _=>⟨[[B4 g]],[]⟩) (fun j=>x.length-j) ?_ 0 (Nat.zero_le _) ⟨rfl,by rw [show jn ((x.take 0).map (Fl ns))=[] from rfl,List.append_nil];rfl,rfl,rfl,rfl,trivial⟩
   intro j hj JH
   refine AK.ev 100 rfl ?_
   refine AK.ix i (by omega) (A8 (f:=Lr) hx) ?_
   refine AK.if_ (fun q=>?_) (fun q=>?_)
   ·have hjl:j<x.length:=by have:=of_decide_eq_true q;rw [lx] at this;omega
    obtain ⟨s,hs⟩:=Ac x hjl
    have hsk:=hxr.2 s (List.mem_of_getElem? hs)
    have hsl:=Ym hg.lab hsk
    have e1:(x.take (j+1)).map (Fl ns)=(x.take j).map (Fl ns)++[Fl ns s]:=by rw [List.take_add_one,hs];simp
    have hjs:=My [44,32] ((x.take j).map (Fl ns)) (Fl ns s)
    rw [← e1] at hjs
    have hjl2:(jn ((x.take j).map (Fl ns))).length≤1560:=by
     have h1:(jn ((x.take j).map (Fl ns))).length≤_:=J9 (sep:=[44,32]) (c:=37) (fun w hw=>by
      obtain ⟨y,hy,rfl⟩:=List.mem_map.1 hw
      exact Ym hg.lab (hxr.2 y (List.mem_of_mem_take hy)))
     rw [show (37+[44,(32:UInt8)].length)=39 from rfl] at h1
     have h2:((x.take j).map (Fl ns)).length≤40:=by simp;have:=hxr.1;omega
     omega
    have hJl:((x.take j).map (Fl ns)).length=j:=by simp;omega
    generalize (x.take j).map (Fl ns)=J at e1 hjs hjl2 hJl ⊢
    have hjl3:(Lib.join J [44,32]).length≤1560:=hjl2
    refine AK.if_ (fun q2=>?_) (fun q2=>?_)
    ·have hj0:J≠[]:=fun e=>by
      have:=of_decide_eq_true q2
      rw [e] at hJl
      simp at hJl;omega
     rw [if_neg hj0] at hjs
     refine AK.op (Aq rfl rfl rfl rfl rfl (by simp;omega) rfl) ?_
     refine AK.ix i (by omega) (A8 (f:=Lr) hx) ?_
     refine AK.ix j (by omega) (A8 (f:=C2) hs) ?_
     refine AK.pc (Am0 ns s hg.n hg.lab hsk) ?_
     refine AK.op (Aq rfl rfl rfl rfl rfl (by simp;omega) rfl) ?_
     exact JH (j+1) hjl (by omega) _ _ ⟨vsx (by omega),congrArg (fun z=>some (str z)) (by rw [show jn ((x.take (j+1)).map (Fl ns))=_ from hjs];simp),rfl,rfl,rfl,trivial⟩ rfl rfl rfl
    ·have hj0:j=0:=by have:=of_decide_eq_false q2;omega
     have hJ0:J=[]:=List.length_eq_zero_iff.1 (by omega)
     rw [if_pos hJ0] at hjs
     have hje0:jn J=[]:=by rw [hJ0];rfl
     refine AK.ix i (by omega) (A8 (f:=Lr) hx) ?_
     refine AK.ix j (by omega) (A8 (f:=C2) hs) ?_
     refine AK.pc (Am0 ns s hg.n hg.lab hsk) ?_
     refine AK.op (Aq rfl rfl rfl rfl rfl (by simp;omega) rfl) ?_
     exact JH (j+1) hjl (by omega) _ _ ⟨vsx (by omega),congrArg (fun z=>some (str z)) (by rw [show jn ((x.take (j+1)).map (Fl ns))=_ from hjs];rw [hje0];simp),rfl,rfl,rfl,trivial⟩ rfl rfl rfl
   ·have hje:j=x.length:=by have:=of_decide_eq_false q;rw [lx] at this;omega
    subst hje
    rw [List.take_length]
    refine AK.ev 100 rfl ?_
    refine AK.op (Aq rfl rfl rfl rfl rfl (by have:=hbl.1;simp;omega) rfl) ?_
    have hjs:=My [32] o1 (H4 ns x)
    refine IH (i+1,o1++[H4 ns x]) ⟨hlt,fun h=>by simp at h,fun _=>by simp,by rw [← hU,← hrest];simp⟩ (by simp only;omega) _ _ ⟨vsx (by omega),congrArg (fun z=>some (str z)) ?_,rfl,rfl,trivial⟩ rfl rfl rfl
    show B++[123]++jn (x.map (Fl ns))++[125]=Lib.join (o1++[H4 ns x]) [32]
    rw [hjs,hB]
    split
    ·simp [H4]
    ·simp [H4]
  refine AK.if_ (fun q=>?_) (fun q=>?_)
  ·have hi0:i≠0:=by have:=of_decide_eq_true q;omega
   have ho:=hnz hi0
   have hw:IntKind.i64.wrap ((i:Int)-1)=((i-1:Nat):Int):=(Aa (by omega) (by omega)).trans (by omega)
   obtain ⟨v,hv⟩:=Ac g.vs (i:=i-1) (by omega)
   obtain ⟨b,hb⟩:=Ac g.ms (i:=i-1) (by omega)
   have hvo:=hg.val v (List.mem_of_getElem? hv)
   have hvl:=Aeh hvo
   have e1:O0 g i=Nh v::(if b=true then [[63]] else []):=by unfold O0;rw [if_neg hi0,List.getD_eq_getElem?_getD,List.getD_eq_getElem?_getD,hv,hb];rfl
   rw [e1] at hT
   have j1:=My [32] o (Nh v)
   rw [if_neg ho] at j1
   have j2:=My [32] (o++[Nh v]) [63]
   rw [if_neg (by simp),j1] at j2
   refine AK.op (Aq rfl rfl rfl rfl rfl (by simp;omega) rfl) ?_
   refine AK.ix (IntKind.i64.wrap ((i:Int)-1)) (by rw [hw];omega) (by rw [hw];exact A8 (f:=Em) hv) ?_
   refine AK.pc (Aub v hvo) ?_
   refine AK.op (Aq rfl rfl rfl rfl rfl (by simp;omega) rfl) ?_
   refine AK.op (Aq rfl rfl rfl rfl rfl (by simp;omega) rfl) ?_
   refine AK.ix (IntKind.i64.wrap ((i:Int)-1)) (by rw [hw];omega) (by rw [hw];exact A8 (f:=Km) hb) ?_
   refine AK.if_ (fun q2=>?_) (fun q2=>?_)
   ·have q2':b=true:=q2
    rw [if_pos q2'] at hT
    refine AK.op (Aq rfl rfl rfl rfl rfl (by simp;omega) rfl) ?_
    refine AK.op (Aq rfl rfl rfl rfl rfl (by simp;omega) rfl) ?_
    exact AK.back' 1 0 (L ((o++[Nh v])++[[63]]) _ (by rw [if_neg (by simp),j2];simp) (by simp;omega) (by rw [← hT];simp)) ⟨rfl,rfl,rfl,rfl,rfl,trivial⟩ rfl rfl rfl rfl rfl
   ·have q2':b=false:=q2
    rw [if_neg (by simp [q2'])] at hT
    refine AK.op (Aq rfl rfl rfl rfl rfl (by simp;omega) rfl) ?_
    exact AK.back' 1 0 (L (o++[Nh v]) _ (by rw [if_neg (by simp),j1]) (by simp;omega) (by rw [← hT];simp)) ⟨rfl,rfl,rfl,rfl,rfl,trivial⟩ rfl rfl rfl rfl rfl
  ·have hi0:i=0:=by have:=of_decide_eq_false q;omega
   have ho:=hz hi0
   have e1:O0 g i=[]:=by unfold O0;rw [if_pos hi0]
   rw [e1] at hT
   refine AK.op (Aq rfl rfl rfl rfl rfl (by simp;omega) rfl) ?_
   exact AK.back' 1 0 (L o (Lib.join o [32]) (by rw [if_pos ho,ho];rfl) (by omega) (by rw [← hT];rfl)) ⟨rfl,rfl,rfl,rfl,rfl,trivial⟩ rfl rfl rfl rfl rfl
 ·have hie:i=g.tm.length:=by have:=of_decide_eq_false h;rw [l1] at this;omega
  rw [hie,List.drop_length,P7,List.append_nil] at hT
  subst hT
  exact AK.rz Tryz.func73 rfl
def Av4 (b:Bool):Int:=if b=true then 1 else 0
def Axa (l:List (Int × Int)):List Int:=(l.length:Int)::l.flatMap fun c=>[c.1,c.2]
def Asn:List Vl→List Bool→List Int
 | v::vs,m::ms=>[v.lo,v.hi,Av4 v.m,Av4 m]++Asn vs ms
 | _,_=>[]
def Axn (s:Sg):List Int:=(s.tm.length:Int)::(s.tm.flatMap Axa++Asn s.vs s.ms)
def Aw9 (a:Ab):List Int:=1::(a.d++a.sg.flatMap Axn)
theorem At3 (a:Ab):Pure X 70 [ab a] (vb (Ex a.n a.d)):=by
 refine Pure.run Tryz.func70 ?_
 refine AK.pc (Abw a.n a.d) ?_
 exact AK.rz Tryz.func70 rfl
structure TellOk (a:Ab):Prop where
 ok:AbOk a
 d:a.d≠[]
 ms:∀ s,s∈a.sg→s.vs.length≤s.ms.length
 T:(Aw9 a).length≤1000000000
theorem Aij (s:List UInt8):G1 1 (Hm s)=true:=H2 (f:=fun (c:UInt8)=>[AV.val (.int .u8 c.toNat)]) (fun _=>rfl) s
instance {n m:Nat}{s:List UInt8}:OKR n m (Hm s):=⟨fun r hr x hx=>by obtain ⟨e,_,rfl⟩:=List.mem_map.1 hr;simp at hx;subst hx;exact .val _⟩
theorem Ae0 (s t:List UInt8):Hm (s++t)=Hm s++Hm t:=by simp [Hm]
theorem Aih {size:Int}{nv na:Nat}{a:Ab}(h:Aau size nv na a=true):(Ex a.n a.d&&((a.sg.length:Int)==0))=Ex a.n a.d:=by
 unfold Aau at h
 split at h
 ·rename_i h1;rw [h1,h];rfl
 ·rename_i h1;simp [h1]
def Jo (ns:List (List UInt8)):List (List UInt8)→List Sg→List UInt8
 | s::l,g::gs=>s++[58,32]++U7 ns g++[10]++Jo ns l gs
 | _,_=>[]
def Wz (n:Nd)(a:Ab):List UInt8:=if Ex a.n a.d=true then [110,111,116,104,105,110,103,10] else Kj (Fq n) a.n a.d++[10]++Jo (Fq n) (Aj n 32) a.sg
theorem Ad4 {size:Int}{seen:List (Int × Int)}:∀ {l:List (Int × Int)}{p:Option (Int × Int)},Ky size seen p l=true→∀ s,s∈l→F9 size s.1 s.2=true
 | [],_,_=>fun s hs=>by cases hs
 | y::l,p,h=>fun s hs=>by
   simp only [Ky,Bool.and_eq_true] at h
   rcases List.mem_cons.1 hs with rfl | hs
   ·exact h.1.1
   ·exact Ad4 h.2 s hs
theorem U6 {size:Int}:∀ {tm:List (List (Int × Int))}{seen:List (Int × Int)},Ke size seen tm=true→∀ x,x∈tm→x.length≤40∧∀ s,s∈x→F9 size s.1 s.2=true
 | [],_,_=>fun x hx=>by cases hx
 | y::l,seen,h=>fun x hx=>by
   simp only [Ke,Bool.and_eq_true,Bool.not_eq_true'] at h
   rcases List.mem_cons.1 hx with rfl | hx
   ·have:=of_decide_eq_false h.2.2.1
    rw [List.length_append] at this
    exact ⟨by omega,Ad4 h.1⟩
   ·exact U6 h.2.2.2 x hx
theorem Anv {ns:List (List UInt8)}{len:Int}{g:Sg}(h:Rc (ns.length+1) len g=true)(hn:ns.length<13)(hl:∀ s,s∈ns→GoodL s):SegTx ns g:=by
 simp only [Rc,Bool.and_eq_true,beq_iff_eq] at h
 obtain ⟨_,h1,h2,h3,h4,_,_,h5⟩:=h
 have hb:=Az.1 h1
 refine ⟨hn,hl,by omega,fun x hx=>⟨(U6 h4 x hx).1,fun s hs=>?_⟩,by omega,by omega,fun v hv=>List.all_eq_true.1 h5 v hv⟩
 have h6:=(U6 h4 x hx).2 s hs
 simp only [F9,Bool.and_eq_true] at h6
 have a1:=Az.1 h6.1.2
 have a2:=Az.1 h6.2
 exact ⟨by omega,by omega,by omega,by omega⟩
theorem Ad6 {size:Int}{nv:Nat}:∀ {l:List Sg}{i k:Nat}{g:Sg},P8 size nv i l=true→l[k]?=some g→Rc size (Up nv (i+k)) g=true
 | [],_,_,_,_,h=>by simp at h
 | x::l,i,0,g,h,hk=>by
   simp at hk;subst hk
   simp only [P8,Bool.and_eq_true] at h
   exact h.1
 | x::l,i,k+1,g,h,hk=>by
   simp only [P8,Bool.and_eq_true] at h
   have:=Ad6 (k:=k) h.2 (by simpa using hk)
   rwa [show i+1+k=i+(k+1) by omega] at this
structure AbTx (n:Nd)(a:Ab):Prop where
 f:Iv a.n a.d=true
 l:((Fq n).length:Int)=a.n-1
 n13:(Fq n).length<13
 lab:∀ s,s∈Fq n→GoodL s
 sg:a.sg.length=(Aj n 32).length
 seg:∀ g,g∈a.sg→SegTx (Fq n) g
 nm:∀ s,s∈Aj n 32→s.length≤100
theorem Amf {n:Nd}(fp:FP n):∀ s,s∈Aj n 32→s.length≤100:=fun s hs=>by
 have:=(Zs fp (Lk s) (by rw [Fq];exact List.mem_append_right _ (List.mem_map_of_mem hs))).len
 simp [Lk,Jk] at this;omega
theorem Aat {n:Nd}{a:Ab}(hr:Et n=true)(h:Nr n a=true)(hn:Ex a.n a.d=false):AbTx n a:=by
 obtain ⟨fp,_,hw,hne,hkl⟩:=Ff hr
 have h1:=Fs n 31
 have h2:=Fs n 32
 have hs:Jp n=(Fq n).length+1:=by
  unfold Jp
  rw [Aa (n:=1+((Aj n 31).length:Int)) (by omega) (by omega),Aa (by omega) (by omega),Fq]
  simp;omega
 have h':Aau (Jp n) (Aj n 31).length (Aj n 32).length a=true:=h
 unfold Aau at h'
 rw [if_neg (by simp [hn])] at h'
 simp only [Bool.and_eq_true,beq_iff_eq] at h'
 obtain ⟨a1,a2,a3,a4⟩:=h'
 have hf:=a1
 simp only [Iv,Bool.and_eq_true] at hf
 have hb:=Az.1 hf.1
 have hl13:(Fq n).length<13:=by omega
 have hg:=Zs fp
 refine ⟨a1,by omega,hl13,hg,by omega,fun g hgm=>?_,Amf fp⟩
 obtain ⟨k,hk⟩:=Bo hgm
 have:=Ad6 a4 hk
 rw [hs] at this
 exact Anv this hl13 hg
theorem Yf {ns:List (List UInt8)}{g:Sg}(hg:SegTx ns g):(U7 ns g).length≤75100:=by
 have h1:=To hg g.tm 0 (by omega) (fun x hx=>hx)
 have h2:=J9 (sep:=[32]) (o:=P7 ns g 0 g.tm) h1.2
 have h3:=hg.tm
 rw [show (1562+[(32:UInt8)].length)=1563 from rfl] at h2
 unfold U7;omega
theorem Ou {ns:List (List UInt8)}:∀ (l:List (List UInt8))(gs:List Sg),(∀ s,s∈l→s.length≤100)→(∀ g,g∈gs→SegTx ns g)→(Jo ns l gs).length≤75300*l.length
 | [],_,_,_=>by simp [Jo]
 | s::l,[],_,_=>by simp [Jo]
 | s::l,g::gs,h1,h2=>by
   have h3:=Ou l gs (fun x hx=>h1 x (by simp [hx])) (fun x hx=>h2 x (by simp [hx]))
   have h4:=Yf (h2 g (by simp))
   have h5:=h1 s (by simp)
   simp only [Jo,List.length_append,List.length_cons,List.length_nil];omega
theorem Rw {ns:List (List UInt8)}{n:Int}{d:List Int}(hf:Iv n d=true)(hg:∀ s,s∈ns→GoodL s):(Kj ns n d).length≤10500:=by
 have hmem:=Qk (ns:=ns) (m:=n.toNat) hg (l:=d) (k:=0) (fun i x hx=>by rw [Nat.zero_add];exact Aa5 hf hx)
 have h1:(jn (Iw ns n.toNat 0 d)).length≤_:=J9 (sep:=[44,32]) (c:=60) (fun w hw=>(hmem.1 w hw).2)
 rw [show (60+[44,(32:UInt8)].length)=62 from rfl] at h1
 simp only [Iv,Bool.and_eq_true,beq_iff_eq] at hf
 have hb:=Az.1 hf.1
 have hnn:n*n≤13*13:=Int.mul_le_mul hb.2 hb.2 (by omega) (by omega)
 have hd:=hf.2.1
 unfold Kj;split
 ·simp
 ·have:=hmem.2;omega
theorem Vw {ns l:List (List UInt8)}{gs:List Sg}{i:Nat}{s:List UInt8}{g:Sg}(h1:l[i]?=some s)(h2:gs[i]?=some g):Jo ns (l.drop i) (gs.drop i)=s++[58,32]++U7 ns g++[10]++Jo ns (l.drop (i+1)) (gs.drop (i+1)):=by rw [Av h1,Av h2];rfl
theorem Ye {ns l:List (List UInt8)}{gs:List Sg}(h:gs.length=l.length):Jo ns (l.drop l.length) (gs.drop l.length)=[]:=by rw [List.drop_length];rfl
theorem Aqg (n:Nd)(a:Ab)(hr:Et n=true)(ha:AbOk a)(h:Nr n a=true):Pure X 43 [.cptr (M9 n),ab a] (str (Wz n a)):=by
 obtain ⟨fp,_,hw,hne,hkl⟩:=Ff hr
 have hnt:=Z3 a
 rw [Aih h] at hnt
 have hlb:=Anh n (by omega) (Amf fp)
 have hsl:((Nk a.sg).length:Int)=a.sg.length:=by simp [Nk]
 unfold Wz
 refine Pure.run Tryz.func43 ?_
 cases h0:Ex a.n a.d with
 | true =>
   rw [h0] at hnt
   refine AK.pc hnt ?_
   refine AK.yes ?_
   exact AK.rz Tryz.func43 rfl
 | false =>
   rw [h0] at hnt
   rw [if_neg (by simp)]
   have tx:=Aat hr h h0
   have hsg:=tx.sg
   have hfl:=Rw (ns:=Fq n) tx.f tx.lab
   have hrl:=Ou (ns:=Fq n) (Aj n 32) a.sg tx.nm tx.seg
   have hdl:=Fs n 32
   obtain ⟨T,hT0⟩:∃ T,Kj (Fq n) a.n a.d++[10]++Jo (Fq n) (Aj n 32) a.sg=T:=⟨_,rfl⟩
   have hTl:T.length≤1000000000:=by rw [← hT0];simp;omega
   rw [hT0]
   refine AK.pc hnt ?_
   refine AK.ifj (e:=false) 0 3 (fun h=>nomatch h) (fun _=>?_)
   refine AK.ev 1 rfl ?_
   refine AK.op (Rr (y:=⟨2,.str [(0,1),(1,1)],[.val (.pointer none),.sl [] .tight],[false,false]⟩) (rest:=[]) 5 rfl rfl rfl rfl rfl rfl rfl rfl rfl) ?_
   refine AK.sto ⟨[[Di a],[bA (Je 93 1 true) []]],[0]⟩ ?_
   refine AK.as_ 5 (.ptr 1 0 0) ?_
   refine AK.db 64 ?_
   refine As hlb ?_
   refine As (Anb a.n a.d (Fq n) tx.f tx.l tx.lab) ?_
   refine Ax (fun S'=>Aq rfl rfl rfl rfl rfl (by simp;omega) rfl) ?_
   refine Drv.w (Ndo.hd (τ':=[0]) [1] [0] (wA true [] (Kj (Fq n) a.n a.d++[10]) (by simp;omega))) ?_
   refine Drv.z ?_
   refine AK.while_ (ι:=Nat × List UInt8) 2 1 (fun i=>i.1≤a.sg.length∧i.2++Jo (Fq n) ((Aj n 32).drop i.1) (a.sg.drop i.1)=T) (fun i=>[(20,vi i.1),(19,vi a.sg.length),(18,.sl (Nk a.sg) .no),(5,.ptr 1 0 0),(0,.cptr (M9 n))])
    (fun i=>⟨[[Di a],[bA (.ptr 1 0 0) i.2]],[i.2.length]⟩) (fun i=>a.sg.length-i.1) ?_ (0,Kj (Fq n) a.n a.d++[10]) ⟨Nat.zero_le _,hT0⟩ ⟨rfl,A5 hsl,rfl,rfl,rfl,trivial⟩
   rintro ⟨i,o⟩ ⟨hi,hT⟩ IH
   simp only at hi hT IH ⊢
   refine AK.ei (fun q=>?_) (fun q=>?_)
   ·have hlt:i<a.sg.length:=by have:=of_decide_eq_true q;omega
    obtain ⟨g,hg⟩:=Ac a.sg hlt
    obtain ⟨s,hs⟩:=Ac (Aj n 32) (i:=i) (by have:=tx.sg;omega)
    have sx:=tx.seg g (List.mem_of_getElem? hg)
    have hsl1:=Yf sx
    have hs1:=tx.nm s (List.mem_of_getElem? hs)
    rw [Vw hs hg,← List.append_assoc] at hT
    have hol:=congrArg List.length hT
    rw [List.length_append,List.length_append] at hol
    refine AK.ix i (by omega) (A8 (f:=B4) hg) ?_
    refine AK.db 16384 ?_
    refine Drv.ig i (by omega) (Dz hs) ?_
    refine Ax (fun S'=>Aq rfl rfl rfl rfl rfl (by simp;omega) rfl) ?_
    refine Drv.go ?_
    refine As hlb ?_
    refine As (Aul (Fq n) g sx) ?_
    refine Ax (fun S'=>Aq rfl rfl rfl rfl rfl (by simp;omega) rfl) ?_
    refine Ax (fun S'=>Aq rfl rfl rfl rfl rfl (by simp;omega) rfl) ?_
    refine Drv.w (Ndo.hd (τ':=[0]) [1] [0] (wA false o (s++[58,32]++U7 (Fq n) g++[10]) (by omega))) ?_
    refine Drv.z ?_
    exact IH (i+1,o++(s++[58,32]++U7 (Fq n) g++[10])) ⟨hlt,hT⟩ (by simp only;omega) _ _ ⟨vsx (by omega),rfl,rfl,rfl,rfl,trivial⟩ rfl rfl rfl
   ·have hie:i=(Aj n 32).length:=by have:=of_decide_eq_false q;have:=tx.sg;omega
    rw [hie,Ye tx.sg,List.append_nil] at hT
    subst hT
    refine AK.ev 100 rfl ?_
    refine AK.hc (τ':=[0]) [1] [0] (sA false o (by omega)) ?_
    exact AK.rz Tryz.func43 rfl
theorem Apy (n:Nd)(a:Ab)(hr:Et n=true)(ha:AbOk a)(h:Nr n a=true):Pure X 42 [.agg (O5 n),ab a] (str (Wz n a)):=by
 obtain ⟨fp,_,hw,hne,hkl⟩:=Ff hr
 have hnt:=At3 a
 have hsl:((A3 (Aj n 32)).length:Int)=(Aj n 32).length:=by rw [Am]
 unfold Wz
 refine Pure.run Tryz.func42 ?_
 cases h0:Ex a.n a.d with
 | true =>
   rw [h0] at hnt
   refine AK.pc hnt ?_
   refine AK.yes ?_
   exact AK.rz Tryz.func42 rfl
 | false =>
   rw [h0] at hnt
   rw [if_neg (by simp)]
   have tx:=Aat hr h h0
   have hsg:=tx.sg
   have hfl:=Rw (ns:=Fq n) tx.f tx.lab
   have hrl:=Ou (ns:=Fq n) (Aj n 32) a.sg tx.nm tx.seg
   have hdl:=Fs n 32
   obtain ⟨T,hT0⟩:∃ T,Kj (Fq n) a.n a.d++[10]++Jo (Fq n) (Aj n 32) a.sg=T:=⟨_,rfl⟩
   have hTl:T.length≤1000000000:=by rw [← hT0];simp;omega
   rw [hT0]
   refine AK.pc hnt ?_
   refine AK.no ?_
   refine AK.pc (At7 n (by omega) (Amf fp)) ?_
   refine AK.pc (Amm a.n a.d (Fq n) tx.f tx.l tx.lab) ?_
   refine AK.op (Aq rfl rfl rfl rfl rfl (by simp;omega) rfl) ?_
   refine AK.while_ (ι:=Nat × List UInt8) 2 0 (fun i=>i.1≤(Aj n 32).length∧i.2++Jo (Fq n) ((Aj n 32).drop i.1) (a.sg.drop i.1)=T) (fun i=>[(7,vi i.1),(6,str i.2),(5,.sl (A3 (Fq n)) .no),(3,.ptr 1 0 0),(2,.ptr 0 0 0)])
    (fun _=>⟨[[O5 n],[Di a]],[]⟩) (fun i=>(Aj n 32).length-i.1) ?_ (0,Kj (Fq n) a.n a.d++[10]) ⟨Nat.zero_le _,hT0⟩ ⟨rfl,rfl,rfl,rfl,rfl,trivial⟩
   rintro ⟨i,o⟩ ⟨hi,hT⟩ IH
   simp only at hi hT IH ⊢
   refine AK.ei (fun q=>?_) (fun q=>?_)
   ·have hlt:i<(Aj n 32).length:=by have:=of_decide_eq_true q;rw [hsl] at this;omega
    obtain ⟨s,hs⟩:=Ac (Aj n 32) hlt
    obtain ⟨g,hg⟩:=Ac a.sg (i:=i) (by have:=tx.sg;omega)
    have sx:=tx.seg g (List.mem_of_getElem? hg)
    have hsl1:=Yf sx
    have hs1:=tx.nm s (List.mem_of_getElem? hs)
    rw [Vw hs hg,← List.append_assoc] at hT
    have hol:=congrArg List.length hT
    rw [List.length_append,List.length_append] at hol
    refine AK.db 0 ?_
    refine Drv.ig i (by omega) (Dz hs) ?_
    refine Ax (fun S'=>Aq rfl rfl rfl rfl rfl (by omega) rfl) ?_
    refine Ax (fun S'=>Aq rfl rfl rfl rfl rfl (by simp;omega) rfl) ?_
    refine Drv.go ?_
    refine Drv.ig i (by omega) (A8 (f:=B4) hg) ?_
    refine As (At9 (Fq n) g sx) ?_
    refine Ax (fun S'=>Aq rfl rfl rfl rfl rfl (by simp;omega) rfl) ?_
    refine Ax (fun S'=>Aq rfl rfl rfl rfl rfl (by simp;omega) rfl) ?_
    refine Drv.go ?_
    refine Drv.z ?_
    exact IH (i+1,o++(s++[58,32]++U7 (Fq n) g++[10])) ⟨hlt,hT⟩ (by show (Aj n 32).length-(i+1)<(Aj n 32).length-i;omega) _ _ ⟨vsx (by omega),congrArg (fun z=>some (str z)) (show o++s++[58,32]++U7 (Fq n) g++[10]=o++(s++[58,32]++U7 (Fq n) g++[10]) by simp only [List.append_assoc]),rfl,rfl,rfl,trivial⟩ rfl rfl rfl
   ·have hie:i=(Aj n 32).length:=by have:=of_decide_eq_false q;rw [hsl] at this;omega
    rw [hie,Ye tx.sg,List.append_nil] at hT
    subst hT
    exact AK.rz Tryz.func42 rfl
def F4 (l:List Ab):List (List AV):=l.map Di
def Ko:List Ab→Nat
 | []=>0
 | x::l=>Yl x+Ko l
instance {n m:Nat}{l:List (Ab)}:OKR n m (F4 l):=⟨fun r hr x hx=>by
 obtain ⟨e,_,rfl⟩:=List.mem_map.1 hr
 exact (inferInstance:OKL n m (Di e)).ok x hx⟩
instance {n m i:Nat}{l:List (Ab)}:OKR n m (Rv Di [vi 0,.sl [] .tight,.sl [] .tight] l i):=⟨fun r hr x hx=>by
 rcases List.mem_append.1 hr with h | h
 ·exact (inferInstance:OKR n m (F4 (l.take i))).ok r h x hx
 ·rw [List.eq_of_mem_replicate h] at hx
  exact (inferInstance:OKL n m [vi 0,.sl [] .tight,.sl [] .tight]).ok x hx⟩
theorem Ah4 (l:List (Ab))(hl:l.length≤1000000000)(h1:∀ x,x∈l→AbOk x):Pure X 17 [.sl (F4 l) .no] (.sl (F4 l) .no):=by
 have hlen:(F4 l).length=l.length:=by simp [F4]
 refine Pure.run Tryz.func17 ?_
 refine AK.op (Ndo.mkS (n:=(F4 l).length) (b:=0) (by rw [hlen];exact hl) rfl rfl rfl rfl rfl rfl rfl rfl rfl rfl) ?_
 refine AK.while_ (ι:=Nat) 1 0 (fun i=>i≤l.length) (fun i=>[(4,vi i),(3,.bsl 0 l.length),(0,.sl (F4 l) .no)]) (fun i=>⟨[Rv Di [vi 0,.sl [] .tight,.sl [] .tight] l i],[]⟩) (fun i=>l.length-i) ?_ 0 (Nat.zero_le _)
  ⟨rfl,by rw [← hlen];rfl,rfl,trivial⟩ (congrArg (fun b=>St.mk [b] []) (Nx Di [vi 0,.sl [] .tight,.sl [] .tight] l).symm)
 intro i hi IH
 refine AK.ei (fun h=>?_) (fun h=>?_)
 ·have hlt:i<l.length:=by have:=of_decide_eq_true h;rw [hlen] at this;omega
  obtain ⟨x,hx⟩:=Ac l hlt
  have hr:=Nw Di [vi 0,.sl [] .tight,.sl [] .tight] hlt
  refine AK.ix i (by omega) (A8 (f:=Di) hx) ?_
  refine AK.pc (Avc x (h1 x (List.mem_of_getElem? hx))) ?_
  refine AK.atB i hlt hr ?_
  refine AK.stB hr ?_
  refine IH (i+1) hlt (by omega) _ _ ⟨vsx (by omega),rfl,rfl,trivial⟩ ?_ rfl rfl
  exact congrArg (fun b=>St.mk [b] []) (Ny Di [vi 0,.sl [] .tight,.sl [] .tight] hx)
 ·have:i=l.length:=by have:=of_decide_eq_false h;rw [hlen] at this;omega
  subst this
  refine AK.rbs Tryz.func17 (b:=0) ?_ hlen hl
  show some (Rv Di [vi 0,.sl [] .tight,.sl [] .tight] l l.length)=_
  rw [Nv];rfl
theorem Ah2 (l:List (Ab))(hl:l.length≤1000000000)(h1:∀ x,x∈l→AbOk x):Pure X 19 [.sl (F4 l) .no,.sl (F4 l) .no] (vb true):=by
 have hlen:(F4 l).length=l.length:=by simp [F4]
 refine Pure.run Tryz.func19 ?_
 refine AK.no ?_ (ht:=by simp)
 refine AK.while_ (ι:=Nat) 0 0 (fun i=>i≤l.length) (fun i=>[(5,vi i),(0,.sl (F4 l) .no),(1,.sl (F4 l) .no)]) (fun i=>⟨[],[]⟩) (fun i=>l.length-i) ?_ 0 (Nat.zero_le _)
  ⟨rfl,rfl,rfl,trivial⟩
 intro i hi IH
 refine AK.ei (fun h=>?_) (fun h=>?_)
 ·have hlt:i<l.length:=by have:=of_decide_eq_true h;rw [hlen] at this;omega
  obtain ⟨x,hx⟩:=Ac l hlt
  refine AK.db 0 ?_
  refine Drv.ig i (by omega) (A8 (f:=Di) hx) ?_
  refine Drv.ig i (by omega) (A8 (f:=Di) hx) ?_
  refine As (Au3 x (h1 x (List.mem_of_getElem? hx))) ?_
  refine Drv.z ?_
  refine AK.no ?_ (ht:=by simp)
  exact IH (i+1) hlt (by omega) _ _ ⟨vsx (by omega),rfl,rfl,trivial⟩ rfl rfl rfl
 ·exact AK.rz Tryz.func19 rfl
theorem Ah3 (l:List (Ab))(left:Int)(h0:0≤left)(h1:left≤1048576)(hl:l.length≤9223372036854775807)(hx:∀ x,x∈l→AbLn x) :
 Pure X 15 [.sl (F4 l) .no,vi left] (vi (Eu (l.length+Ko l) left)):=by
 have hlen:(F4 l).length=l.length:=by simp [F4]
 have hw:IntKind.i64.wrap (left-(F4 l).length)=left-l.length:=by rw [hlen];exact Aa (by omega) (by omega)
 refine Pure.run Tryz.func15 ?_
 refine AK.if_ (fun g=>?_) (fun g=>?_)
 ·have g':=of_decide_eq_true g
  rw [hw] at g'
  refine AK.rz Tryz.func15 ?_
  rw [Jr (by omega)]
 have g':=of_decide_eq_false g
 rw [hw] at g'
 have e0:Eu (l.length+Ko l) left=Eu (Ko l) (IntKind.i64.wrap (left-(F4 l).length)):=by rw [hw,Gu (by omega)]
 rw [e0]
 have hb:0≤IntKind.i64.wrap (left-(F4 l).length)∧IntKind.i64.wrap (left-(F4 l).length)≤1048576:=by rw [hw];omega
 generalize IntKind.i64.wrap (left-(F4 l).length)=lf0 at hb
 refine AK.while_ (ι:=Nat × Int) 0 0 (fun i=>i.1≤l.length∧0≤i.2∧i.2≤1048576∧Eu (Ko l) lf0=Eu (Ko (l.drop i.1)) i.2) (fun i=>[(5,vi i.1),(1,vi i.2),(0,.sl (F4 l) .no)]) (fun _=>⟨[],[]⟩) (fun i=>l.length-i.1) ?_ (0,lf0) ⟨Nat.zero_le _,hb.1,hb.2,rfl⟩
  ⟨rfl,rfl,rfl,trivial⟩
 rintro ⟨i,lf⟩ ⟨hi,hp0,hp1,hT⟩ IH
 simp only at hi hp0 hp1 hT IH ⊢
 refine AK.ei (fun h=>?_) (fun h=>?_)
 ·have hlt:i<l.length:=by have:=of_decide_eq_true h;rw [hlen] at this;omega
  obtain ⟨x,hx1⟩:=Ac l hlt
  rw [Av hx1] at hT
  simp only [Ko] at hT
  have hs:Pure X 8 [.agg (Di x),vi lf] (vi (Eu (Yl x) lf)):=Au7 x (hx x (List.mem_of_getElem? hx1)) lf hp0 hp1
  refine AK.ix i (by omega) (A8 (f:=Di) hx1) ?_
  refine AK.pc hs ?_
  refine AK.if_ (fun g2=>?_) (fun g2=>?_)
  ·have g2':=Hf hp0 (of_decide_eq_true g2)
   refine AK.rz Tryz.func15 ?_
   rw [hT,Jr g2'.2]
  ·have g2':=I2 (show 0≤Eu (Yl x) lf by have:=of_decide_eq_false g2;omega)
   refine IH (i+1,Eu (Yl x) lf) ⟨hlt,?_,?_,?_⟩ (by simp only;omega) _ _ ⟨A5 ((Aa (by omega) (by omega)).trans (by simp)),rfl,rfl,trivial⟩ rfl rfl rfl
   ·show 0≤Eu (Yl x) lf;omega
   ·show Eu (Yl x) lf≤_;omega
   ·rw [hT,Gu g2'.2,g2'.1]
 ·have:i=l.length:=by have:=of_decide_eq_false h;rw [hlen] at this;omega
  subst this
  rw [List.drop_length] at hT
  refine AK.rz Tryz.func15 ?_
  rw [hT]
  unfold Eu Ko
  rw [if_pos (by simpa using hp0)];simp
theorem Acm {α:Type}{p:α→Bool}{l:List α}{i:Nat}{a:α}(h:l[i]?=some a)(hA:(l.take i).all p=true)(hb:p a=true):(l.take (i+1)).all p=true:=by
 rw [List.take_add_one,h,List.all_append,hA];simp [hb]
theorem Ag2 {α:Type}{p:α→Bool}{l:List α}{i:Nat}{a:α}(h:l[i]?=some a)(hb:p a=false):l.all p=false:=by
 cases hc:l.all p with
 | false=>rfl
 | true=>rw [List.all_eq_true] at hc;have:=hc a (List.mem_of_getElem? h);rw [hb] at this;cases this
theorem Ajq (n:Nd)(hn:wN n≤100000000)(hnum:PrI n)(l:List Ab)(hll:l.length≤1000000000)(ho:∀ a,a∈l→AbOk a) :
 Pure X 36 [nd n,.sl (F4 l) .no] (.tup [if Et n=true∧l.all (Nr n)=true then .cptr (M9 n) else .val (.pointer none),vb (Et n&&l.all (Nr n))]):=by
 have hlen:((F4 l).length:Int)=l.length:=by simp [F4]
 have hcw:=Lg n
 have hp:=Ab4 n (by omega) hnum
 refine Pure.run Tryz.func36 ?_
 cases hr:Et n with
 | false =>
   rw [if_neg (by simp [hr])] at hp
   refine AK.pc hp ?_
   refine AK.yes ?_
   exact AK.rz Tryz.func36 rfl
 | true =>
   obtain ⟨fp,_,hw,hne,hkl⟩:=Ff hr
   rw [if_pos hr] at hp
   refine AK.pc hp ?_
   refine AK.no ?_
   refine AK.while_ (ι:=Nat) 1 0 (fun i=>i≤l.length∧(l.take i).all (Nr n)=true) (fun i=>[(19,vi i),(18,vi l.length),(17,.sl (F4 l) .no),(6,.cptr (M9 n))]) (fun _=>⟨[[Af n]],[]⟩) (fun i=>l.length-i) ?_ 0 ⟨Nat.zero_le _,rfl⟩
    ⟨rfl,A5 hlen,rfl,rfl,trivial⟩
   rintro i ⟨hi,hA⟩ IH
   refine AK.ei (fun g=>?_) (fun g=>?_)
   ·have hlt:i<l.length:=by have:=of_decide_eq_true g;omega
    obtain ⟨a,hx⟩:=Ac l hlt
    refine AK.ix i (by omega) (A8 (f:=Di) hx) ?_
    refine AK.pc (Auf Aht n hkl a (ho a (List.mem_of_getElem? hx))) ?_
    cases hb:Nr n a with
    | false =>
      refine AK.yes ?_
      refine AK.rz Tryz.func36 ?_
      rw [Ag2 hx hb];rfl
    | true =>
      refine AK.no ?_
      exact IH (i+1) ⟨hlt,Acm hx hA hb⟩ (by omega) _ _ ⟨vsx (by omega),rfl,rfl,rfl,trivial⟩ rfl rfl rfl
   ·have hie:i=l.length:=by have:=of_decide_eq_false g;omega
    rw [hie,List.take_length] at hA
    refine AK.rz Tryz.func36 ?_
    rw [hA];rfl
theorem Aea {l:List Ab}{x:Ab}(h:x∈l):Yl x≤Ko l:=by
 induction l with
 | nil=>cases h
 | cons y l ih =>
   simp only [Ko]
   rcases List.mem_cons.1 h with rfl | h
   ·omega
   ·have:=ih h;omega
end Go.V
