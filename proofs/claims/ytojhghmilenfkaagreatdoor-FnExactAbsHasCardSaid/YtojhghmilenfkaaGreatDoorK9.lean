/- A part of the proof of the claim that the last text states: no condition of its own. -/
import Derived.Test.YtojhghmilenfkaaGreatDoorK8
import Derived.Deep.Strs
set_option linter.unusedVariables false
set_option linter.unusedSimpArgs false
namespace Go.V
open Go Go.Proofs
def Yp (p:Vl→Bool):Nat→List Vl→Int
 | _,[]=>-1
 | i,x::l=>if p x then i else Yp p (i+1) l
theorem Amb (p:Vl→Bool)(l:List Vl):∀ i:Nat,decide (Yp p i l≥0)=l.any p:=by
 induction l with
 | nil=>intro i;simp [Yp]
 | cons x l ih =>
   intro i
   rw [List.any_cons,← ih (i+1)]
   cases h:p x with
   | true=>simp [Yp,h]
   | false=>simp [Yp,h]
theorem Ant (l:List Vl)(f:FuncId)(p:Vl→Bool)(hl:l.length≤1000000000)(hp:∀ x,x∈l→Pure X f [.agg (D4 x)] (vb (p x))):Pure X 253 [.sl (O3 l) .no,.fn f []] (vi (Yp p 0 l)):=by
 have hlen:((O3 l).length:Int)=l.length:=by simp [O3]
 refine Pure.run Tryz.func253 ?_
 refine AK.while_ (ι:=Nat) 0 0 (fun i=>i≤l.length∧Yp p 0 l=Yp p i (l.drop i)) (fun i=>[(8,vi i),(7,vi l.length),(0,.sl (O3 l) .no),(1,.fn f [])]) (fun _=>⟨[],[]⟩) (fun i=>l.length-i) ?_ 0 ⟨Nat.zero_le _,rfl⟩
  ⟨rfl,A3 hlen,rfl,rfl,trivial⟩
 intro i hi IH
 refine AK.ei (fun h=>?_) (fun h=>?_)
 ·have hlt:i<l.length:=by have:=of_decide_eq_true h;omega
  obtain ⟨x,hx⟩:=Aa l hlt
  have hd:Yp p i (l.drop i)=if p x then (i:Int) else Yp p (i+1) (l.drop (i+1)):=by rw [An hx];rfl
  refine AK.ix i (by omega) (As (f:=D4) hx) ?_
  refine AK.pc (hp x (List.mem_of_getElem? hx)) ?_
  refine AK.if_ (fun h2=>?_) (fun h2=>?_)
  ·have h3:p x=true:=h2
   refine AK.rz Tryz.func253 ?_
   rw [hi.2,hd,h3];rfl
  ·have h3:p x=false:=h2
   exact IH (i+1) ⟨hlt,by rw [hi.2,hd,h3];rfl⟩ (by omega) _ _ ⟨vsx (by omega),rfl,rfl,rfl,trivial⟩ rfl rfl rfl
 ·have:i=l.length:=by have:=of_decide_eq_false h;omega
  refine AK.rz Tryz.func253 ?_
  rw [hi.2,this,List.drop_length];rfl
theorem Adu (l:List Vl)(f:FuncId)(p:Vl→Bool)(hl:l.length≤1000000000)(hp:∀ x,x∈l→Pure X f [.agg (D4 x)] (vb (p x))):Pure X 209 [.sl (O3 l) .no,.fn f []] (vb (l.any p)):=by
 refine Pure.run Tryz.func209 ?_
 refine AK.pc (Ant l f p hl hp) ?_
 refine AK.rz Tryz.func209 ?_
 rw [← Amb p l 0]
theorem Aoe (l:List (Int × Int)):Gj 2 (Hg l)=true:=H6 (f:=Cy) (fun _=>rfl) l
theorem Avt (l:List (Int × Int)):Ga (Hg l)=true:=Fy.2 fun r hr x hx=>by
 obtain ⟨e,_,rfl⟩:=List.mem_map.1 hr
 simp at hx
 rcases hx with rfl | rfl<;>rfl
theorem Arv (a b:List (Int × Int)):Hg (a++b)=Hg a++Hg b:=by simp [Hg]
theorem Zc {l:List (List (Int × Int))}{i:Nat}{x:List (Int × Int)}(h:l[i]?=some x):(l.take (i+1)).flatten=(l.take i).flatten++x:=by
 rw [List.take_add_one,h];simp
theorem Arc (g:Sg)(hg:SgOk g)(size len:Int)(hK:1≤g.tm.length)(hK2:g.tm.length≤16)(hv:∀ v,v∈g.vs→Pure X 211 [.agg (D4 v)] (vb (Jc v))) :
 AK X ⟨151,Tryz.f151,0,0⟩ (Gl false 20 Tryz.f151) [(0,vi size),(1,vi len),(7,vi g.tm.length),(5,.ptr 0 0 0)] ⟨[[Bs g]],[]⟩
  (fun e S=>e=.ret (vb (hasY (g.tm.getD 0 []) (0,0)&&(hasY (g.tm.getD (g.tm.length-1) []) (len,0)&&g.vs.all Jc)))∧S=⟨[],[]⟩):=by
 obtain ⟨x0,hx0⟩:=Aa g.tm (i:=0) (by omega)
 obtain ⟨x1,hx1⟩:=Aa g.tm (i:=g.tm.length-1) (by omega)
 have e0:g.tm.getD 0 []=x0:=by simp [List.getD,hx0]
 have e1:g.tm.getD (g.tm.length-1) []=x1:=by simp [List.getD,hx1]
 have hw:IntKind.i64.wrap ((g.tm.length:Int)-1)=(g.tm.length-1:Nat):=(Ac (by omega) (by omega)).trans (by omega)
 have hc:=Adu g.vs 210 (fun v=>!Jc v) hg.vs (fun v hv1=>by
  refine Pure.run Tryz.func210 ?_
  refine AK.pc (hv v hv1) ?_
  exact AK.rz Tryz.func210 rfl)
 have ha:(!g.vs.any fun v=>!Jc v)=g.vs.all Jc:=by
  induction g.vs with
  | nil=>rfl
  | cons v l ih=>rw [List.any_cons,List.all_cons,← ih];cases Jc v<;>simp
 rw [e0,e1]
 refine AK.at_ ?_
 refine AK.ev 100 rfl ?_
 refine AK.pc (Au7 len) ?_
 refine AK.dn 0 2 ?_
 refine Cs (fun S'=>Ndo.index rfl rfl rfl rfl rfl rfl rfl rfl rfl (by omega) (As (f:=Km) hx0)) ?_
 refine Drv.go ?_
 refine Drv.pc (Abz x0 (0,0) (hg.rows x0 (List.mem_of_getElem? hx0))) ?_
 cases h0:hasY x0 (0,0) with
 | false =>
   refine Drv.t false ?_
   refine Bm 9 ?_
   refine Drv.t false ?_
   refine Drv.go ?_
   refine Drv.z ?_
   exact AK.rz Tryz.func151 rfl
 | true =>
   refine Drv.t true ?_
   refine Drv.go ?_
   refine Cs (fun S'=>Ndo.index rfl rfl rfl rfl rfl rfl rfl rfl rfl (by rw [hw];omega) (by rw [hw];exact As (f:=Km) hx1)) ?_
   refine Drv.go ?_
   refine Drv.pc (Abz x1 (len,0) (hg.rows x1 (List.mem_of_getElem? hx1))) ?_
   refine Bm 1 ?_
   cases h1:hasY x1 (len,0) with
   | false =>
     refine Drv.t false ?_
     refine Drv.go ?_
     refine Drv.z ?_
     exact AK.rz Tryz.func151 rfl
   | true =>
     refine Drv.t true ?_
     refine Drv.go ?_
     refine Ax hc ?_
     refine Drv.z ?_
     refine AK.rz Tryz.func151 ?_
     rw [← ha];rfl
theorem Ah5 (g:Sg)(hg:SgOk g)(size len:Int)(hs0:-1000000≤size)(hs1:size≤1000000)(hv:∀ v,v∈g.vs→Pure X 211 [.agg (D4 v)] (vb (Jc v))):Pure X 151 [vi size,vi len,.agg (Bs g)] (vb (Lv size len g)):=by
 have l1:((Ej g.tm).length:Int)=g.tm.length:=by simp [Ej]
 have l2:((O3 g.vs).length:Int)=g.vs.length:=by simp [O3]
 have l3:((T1 g.ms).length:Int)=g.ms.length:=by simp [T1]
 have htm:=hg.tm
 have hvs:=hg.vs
 have hms:=hg.ms
 have hw:IntKind.i64.wrap ((g.tm.length:Int)-1)=g.tm.length-1:=Ac (by omega) (by omega)
 have hb:=Dq ((Ej g.tm).length:Int) 1 16
 rw [l1] at hb
 unfold Lv
 refine Pure.run Tryz.func151 ?_
 refine AK.pc (Axn size len hs0 hs1) ?_
 cases h1:Kl size len with
 | false =>
   refine AK.gy ?_
   refine AK.gy ?_
   refine AK.gy ?_
   refine AK.yes ?_
   refine AK.rz Tryz.func151 ?_
   rfl
 | true =>
   refine AK.gn ?_
   refine AK.pc (Dq ((Ej g.tm).length:Int) 1 16) ?_
   rw [l1]
   cases h2:Aj (g.tm.length:Int) 1 16 with
   | false =>
     refine AK.gy ?_
     refine AK.gy ?_
     refine AK.yes ?_
     refine AK.rz Tryz.func151 ?_
     rfl
   | true =>
     have h2':=Av.1 h2
     refine AK.gn ?_
     refine AK.gd (fun g3=>?_) (fun g3=>?_)
     ·have g3':((g.vs.length:Int)==g.tm.length-1)=false:=by
       have:(((O3 g.vs).length:Int) != IntKind.i64.wrap ((g.tm.length:Int)-1))=true:=g3
       rw [l2,hw] at this;simpa using this
      refine AK.yes ?_
      refine AK.rz Tryz.func151 ?_
      rw [g3'];rfl
     have g3':((g.vs.length:Int)==g.tm.length-1)=true:=by
      have:(((O3 g.vs).length:Int) != IntKind.i64.wrap ((g.tm.length:Int)-1))=false:=g3
      rw [l2,hw] at this;simpa using this
     rw [g3']
     refine AK.if_ (fun g4=>?_) (fun g4=>?_)
     ·have g4':((g.ms.length:Int)==g.tm.length-1)=false:=by
       have:(((T1 g.ms).length:Int) != IntKind.i64.wrap ((g.tm.length:Int)-1))=true:=g4
       rw [l3,hw] at this;simpa using this
      refine AK.rz Tryz.func151 ?_
      rw [g4'];rfl
     have g4':((g.ms.length:Int)==g.tm.length-1)=true:=by
      have:(((T1 g.ms).length:Int) != IntKind.i64.wrap ((g.tm.length:Int)-1))=false:=g4
      rw [l3,hw] at this;simpa using this
     rw [g4']
     simp only [Bool.true_and]
     have L20:=Arc g hg size len (by omega) (by omega) hv
     generalize (hasY (g.tm.getD 0 []) (0,0)&&(hasY (g.tm.getD (g.tm.length-1) []) (len,0)&&g.vs.all Jc))=G at L20 ⊢
     refine AK.mint (d:=8) rfl rfl rfl ?_
     refine AK.while_ (ι:=Nat) 1 1 (fun i=>i≤g.tm.length∧((g.tm.take i).flatten.length≤40)∧I6 size [] g.tm=I6 size (g.tm.take i).flatten (g.tm.drop i)) (fun i=>[(47,vi i),(46,vi g.tm.length),(45,.sl (Ej g.tm) .no),(8,.sl (Hg (g.tm.take i).flatten) (.tok 0)),(0,vi size),(1,vi len),(7,vi g.tm.length),(5,.ptr 0 0 0)])
      (fun i=>⟨[[Bs g]],[(g.tm.take i).flatten.length]⟩) (fun i=>g.tm.length-i) ?_ 0 ⟨Nat.zero_le _,by simp,rfl⟩ ⟨rfl,A3 l1,rfl,rfl,rfl,rfl,rfl,rfl,trivial⟩
     rintro i ⟨hi,hse,hT⟩ IH
     refine AK.ev 100 rfl ?_
     refine AK.ifj 0 20 (fun h=>?_) (fun h=>?_)
     ·have hlt:i<g.tm.length:=by have:=of_decide_eq_true h;omega
      obtain ⟨x,hx⟩:=Aa g.tm hlt
      have hft:=Zc hx
      rw [An hx] at hT
      simp only [I6] at hT
      have hxl:=hg.rows x (List.mem_of_getElem? hx)
      have lx:((Hg x).length:Int)=x.length:=by simp [Hg]
      generalize hse2:(g.tm.take i).flatten=seen at hse hT hft ⊢
      have L14:Ky size seen none x=true→AK X ⟨151,Tryz.f151,0,0⟩ (Gl false 14 Tryz.f151) (F14 g size len i x seen) ⟨[[Bs g]],[seen.length]⟩ (fun e S=>e=.ret (vb (I6 size [] g.tm&&G))∧S=⟨[],[]⟩):=fun hrow=>by
       rw [hrow] at hT
       refine AK.at_ ?_
       refine AK.ei (fun g5=>?_) (fun g5=>?_)
       ·have g5':((x.length:Int)==0)=true:=by have:(((Hg x).length:Int)==0)=true:=g5;rwa [lx] at this
        refine AK.rz Tryz.func151 ?_
        rw [hT,g5'];rfl
       have g5':((x.length:Int)==0)=false:=by have:(((Hg x).length:Int)==0)=false:=g5;rwa [lx] at this
       have hx0:1≤(Hg x).length:=by have:(x.length:Int)≠0:=by simpa using g5'
                                    omega
       refine AK.op (Ndo.append (res:=Hg (seen++x)) rfl rfl rfl rfl rfl rfl rfl rfl rfl rfl rfl rfl rfl rfl (by simp [Hg]) (Aoe _) (Aoe _) (Avt x) (Nat.ble_eq_true_of_le hx0) ?_ ?_ rfl) ?_
       ·simp only [Hg,List.length_map];omega
       ·rw [Arv]
       refine AK.sto ⟨[[Bs g]],[(seen++x).length]⟩ ?_ (by simp [Hg])
       refine AK.if_ (fun g6=>?_) (fun g6=>?_)
       ·have g6':decide (((seen++x).length:Int) > 40)=true:=by have:decide (((Hg (seen++x)).length:Int) > 40)=true:=g6;simpa [Hg] using this
        refine AK.rz Tryz.func151 ?_
        rw [hT,g5',g6'];rfl
       have g6':decide (((seen++x).length:Int) > 40)=false:=by have:decide (((Hg (seen++x)).length:Int) > 40)=false:=g6;simpa [Hg] using this
       have g7:¬ (((seen++x).length:Int) > 40):=of_decide_eq_false g6'
       refine IH (i+1) ⟨hlt,by rw [hft];omega,by rw [hft,hT,g5',g6'];rfl⟩ (by omega) _ _ ⟨vsx (by omega),rfl,rfl,?_,rfl,rfl,rfl,rfl,trivial⟩ ?_ rfl rfl
       ·rw [hft];rfl
       ·rw [hft];rfl
      refine AK.ev 100 rfl ?_
      refine AK.opj 8 (Ndo.index rfl rfl rfl rfl rfl rfl rfl rfl rfl (by omega) (As (f:=Km) hx)) ?_
      refine AK.back' 1 1 (An0 g size len hs0 hs1 i seen x (by omega) hxl hx _ L14 (fun hb2=>by rw [hT,hb2];rfl)) ⟨rfl,rfl,rfl,rfl,rfl,rfl,rfl,rfl,rfl,trivial⟩ rfl rfl rfl rfl rfl
     ·have hie:i=g.tm.length:=by have:=of_decide_eq_false h;omega
      subst hie
      have ht:I6 size [] g.tm=true:=by rw [hT,List.drop_length];rfl
      rw [ht,Bool.true_and]
      exact AK.back' 1 0 L20 ⟨rfl,rfl,rfl,rfl,trivial⟩ rfl rfl rfl rfl rfl
def eqY (s x:Int × Int):Bool:=(x.1==s.1)&&(x.2==s.2)
theorem Amc (s:Int × Int)(l:List (Int × Int)):∀ i:Nat,decide (Rb i l s≥0)=l.any (eqY s):=by
 induction l with
 | nil=>intro i;simp [Rb]
 | cons x l ih =>
   intro i
   rw [List.any_cons,← ih (i+1)]
   have e0:Rb i (x::l) s=if eqY s x=true then (i:Int) else Rb (i+1) l s:=rfl
   cases h:eqY s x with
   | true =>
     rw [h,if_pos rfl] at e0
     simp [e0]
   | false =>
     rw [h,if_neg (by simp)] at e0
     simp [e0]
theorem Xb (l:List (Int × Int))(s:Int × Int):hasY l s=l.any (eqY s):=Amc s l 0
theorem Al7 (a b:List (Int × Int))(s:Int × Int):hasY (a++b) s=(hasY a s||hasY b s):=by simp only [Xb,List.any_append]
theorem Alr (s:Int × Int):eqY s s=true:=by simp [eqY]
theorem At0 {s x:Int × Int}(h:eqY s x=true):x=s:=by
 simp only [eqY,Bool.and_eq_true,beq_iff_eq] at h
 exact Prod.ext h.1 h.2
theorem Al8 {l:List (Int × Int)}{s:Int × Int}(h:s∈l):hasY l s=true:=by
 rw [Xb,List.any_eq_true];exact ⟨s,h,Alr s⟩
theorem Xj {l:List (Int × Int)}{s:Int × Int}(h:hasY l s=true):s∈l:=by
 rw [Xb,List.any_eq_true] at h
 obtain ⟨x,hx,he⟩:=h
 rw [← At0 he];exact hx
theorem Arp (s:Int × Int)(l:List (List (Int × Int))):∀ k:Nat,P8 k l s=-1∨P8 k l s≥k:=by
 induction l with
 | nil=>intro k;exact .inl rfl
 | cons x l ih =>
   intro k
   simp only [P8]
   split
   ·exact .inr (Int.le_refl _)
   ·rcases ih (k+1) with h | h
    ·exact .inl h
    ·exact .inr (by omega)
theorem Ab4 {s:Int × Int}:∀ (tm:List (List (Int × Int)))(k i:Nat)(x:List (Int × Int)),tm[i]?=some x→hasY x s=true→(P8 k tm s != ((k+i:Nat):Int))=hasY (tm.take i).flatten s
 | [],k,i,x,h,_=>by simp at h
 | y::l,k,0,x,h,hs=>by
   simp at h;subst h
   simp only [P8,hs,if_true,List.take_zero,List.flatten_nil,Nat.add_zero]
   simp;rfl
 | y::l,k,i+1,x,h,hs=>by
   have h':l[i]?=some x:=by simpa using h
   simp only [P8,List.take_succ_cons,List.flatten_cons]
   rw [Al7]
   cases hy:hasY y s with
   | true =>
     rw [if_pos rfl,Bool.true_or]
     simp;omega
   | false =>
     rw [if_neg (by simp),Bool.false_or,← Ab4 l (k+1) i x h' hs]
     congr 1
     omega
theorem X5 {size:Int}{seen:List (Int × Int)}:∀ (l:List (Int × Int))(p:Option (Int × Int)),Ky size seen p l=true→∀ s,s∈l→hasY seen s=false
 | [],_,_=>fun s hs=>by cases hs
 | y::l,p,h=>fun s hs=>by
   simp only [Ky,Bool.and_eq_true,Bool.not_eq_true'] at h
   rcases List.mem_cons.1 hs with rfl | hs
   ·exact h.1.2.2
   ·exact X5 l _ h.2 s hs
theorem Vr {size:Int}:∀ (tm:List (List (Int × Int)))(seen:List (Int × Int)),I6 size seen tm=true→∀ (i:Nat)(x:List (Int × Int))(s:Int × Int),tm[i]?=some x→hasY x s=true→hasY (seen++(tm.take i).flatten) s=false
 | [],_,_=>fun i x s h=>by simp at h
 | y::l,seen,hT=>fun i x s h hs=>by
   simp only [I6,Bool.and_eq_true] at hT
   cases i with
   | zero =>
     simp at h;subst h
     simpa using X5 _ _ hT.1 s (Xj hs)
   | succ i =>
     have h':l[i]?=some x:=by simpa using h
     have:=Vr l (seen++y) hT.2.2.2 i x s h' hs
     simpa [List.append_assoc] using this
theorem Ah8 {size:Int}{tm:List (List (Int × Int))}(hT:I6 size [] tm=true){i:Nat}{x:List (Int × Int)}(hx:tm[i]?=some x)(s:Int × Int):(P8 0 tm s==(i:Int))=hasY x s:=by
 cases hs:hasY x s with
 | true =>
   have h1:=Vr tm [] hT i x s hx hs
   have h2:=Ab4 tm 0 i x hx hs
   rw [List.nil_append] at h1
   rw [h1,Nat.zero_add] at h2
   simpa using h2
 | false =>
   have key:∀ (tm:List (List (Int × Int))) (k i:Nat),tm[i]?=some x→(P8 k tm s==((k+i:Nat):Int))=false:=by
    intro tm
    induction tm with
    | nil=>intro k i h;simp at h
    | cons y l ih =>
      intro k i h
      cases i with
      | zero =>
        simp at h;subst h
        simp only [P8,hs]
        rcases Arp s l (k+1) with h | h<;>simp<;>omega
      | succ i =>
        have h':l[i]?=some x:=by simpa using h
        simp only [P8]
        split
        ·simp;omega
        ·have:=ih (k+1) i h'
         rw [← this];congr 1;omega
   have:=key tm 0 i hx
   simpa using this
abbrev G0 (g:Sg)(size len:Int):B3:=[(0,vi size),(1,vi len),(7,vi g.tm.length),(5,.ptr 0 0 0)]
theorem Aqp (g:Sg)(hg:SgOk g)(size len:Int)(hT:I6 size [] g.tm=true)(hK:1≤g.tm.length)(hK2:g.tm.length≤16)(hvl:g.vs.length=g.tm.length-1)(hv:∀ v,v∈g.vs→Pure X 248 [.agg (D4 v)] (vb (Jc v))) :
 AK X ⟨196,Tryz.f196,0,0⟩ (Gl false 17 Tryz.f196) (G0 g size len) ⟨[[Bs g]],[]⟩
  (fun e S=>e=.ret (vb (hasY (g.tm.getD 0 []) (0,0)&&(hasY (g.tm.getD (g.tm.length-1) []) (len,0)&&g.vs.all Jc)))∧S=⟨[],[]⟩):=by
 obtain ⟨x0,hx0⟩:=Aa g.tm (i:=0) (by omega)
 obtain ⟨x1,hx1⟩:=Aa g.tm (i:=g.tm.length-1) (by omega)
 have e0:g.tm.getD 0 []=x0:=by simp [List.getD,hx0]
 have e1:g.tm.getD (g.tm.length-1) []=x1:=by simp [List.getD,hx1]
 have hw:IntKind.i64.wrap ((g.tm.length:Int)-1)=(g.tm.length-1:Nat):=(Ac (by omega) (by omega)).trans (by omega)
 have r0:=Ah8 hT hx0 (0,0)
 have r1:=Ah8 hT hx1 (len,0)
 rw [e0,e1]
 refine AK.at_ ?_
 refine AK.ev 100 rfl ?_
 refine AK.while_ (ι:=Nat) 1 0 (fun i=>i≤g.vs.length∧g.vs.all Jc=(g.vs.drop i).all Jc) (fun i=>(12,vi i)::G0 g size len) (fun _=>⟨[[Bs g]],[]⟩) (fun i=>g.vs.length-i) ?_ 0 ⟨Nat.zero_le _,rfl⟩
  ⟨rfl,rfl,rfl,rfl,rfl,trivial⟩
 rintro i ⟨hi,hU⟩ IH
 refine AK.ei (fun h=>?_) (fun h=>?_)
 ·have hlt:i<g.vs.length:=by have:=of_decide_eq_true h;rw [hw] at this;omega
  obtain ⟨v,hv1⟩:=Aa g.vs hlt
  rw [An hv1,List.all_cons] at hU
  refine AK.ix i (by omega) (As (f:=D4) hv1) ?_
  refine AK.pc (hv v (List.mem_of_getElem? hv1)) ?_
  refine AK.if_ (fun g2=>?_) (fun g2=>?_)
  ·have g':Jc v=false:=by simpa using (show (!Jc v)=true from g2)
   refine AK.rz Tryz.func196 ?_
   rw [hU,g'];simp
  ·have g':Jc v=true:=by simpa using (show (!Jc v)=false from g2)
   exact IH (i+1) ⟨hlt,by rw [hU,g'];rfl⟩ (by omega) _ _ ⟨vsx (by omega),rfl,rfl,rfl,rfl,trivial⟩ rfl rfl rfl
 ·have hie:i=g.vs.length:=by have:=of_decide_eq_false h;rw [hw] at this;omega
  have ha:g.vs.all Jc=true:=by rw [hU,hie,List.drop_length];rfl
  rw [ha,Bool.and_true]
  refine AK.pc (Ahp g hg (0,0)) ?_
  refine AK.gd (fun g2=>?_) (fun g2=>?_)
  ·have g':hasY x0 (0,0)=true:=by rw [← r0];exact g2
   refine AK.pc (Ahp g hg (len,0)) ?_
   refine AK.rz Tryz.func196 ?_
   rw [hw,g',← r1];rfl
  ·have g':hasY x0 (0,0)=false:=by rw [← r0];exact g2
   refine AK.rz Tryz.func196 ?_
   rw [g'];rfl
theorem Am8 (g:Sg)(hg:SgOk g)(size len:Int)(hs0:-1000000≤size)(hs1:size≤1000000)(i:Nat)(seen x:List (Int × Int))(cn:Nat)(hse:(g.tm.take i).flatten=seen)(hx:g.tm[i]?=some x)(R:Bool)
 (h:Ky size seen none x=true→AK X ⟨196,Tryz.f196,0,0⟩ (Gl false 7 Tryz.f196) ((9,vi i)::(8,vi cn)::G0 g size len) ⟨[[Bs g]],[]⟩ (fun e S=>e=.ret (vb R)∧S=⟨[],[]⟩))
 (hbad:Ky size seen none x=false→R=false) :
 AK X ⟨196,Tryz.f196,0,0⟩ (Gl false 12 Tryz.f196) ((9,vi i)::(10,.sl (Hg x) .no)::(8,vi cn)::G0 g size len) ⟨[[Bs g]],[]⟩ (fun e S=>e=.ret (vb R)∧S=⟨[],[]⟩):=by
 have hlen:((Hg x).length:Int)=x.length:=by simp [Hg]
 have hxl:=hg.rows x (List.mem_of_getElem? hx)
 refine AK.at_ ?_
 refine AK.ev 100 rfl ?_
 refine AK.while_ (ι:=Nat) 1 0 (fun j=>j≤x.length∧Ky size seen none x=Ky size seen (Nk x j) (x.drop j)) (fun j=>(11,vi j)::(9,vi i)::(10,.sl (Hg x) .no)::(8,vi cn)::G0 g size len) (fun _=>⟨[[Bs g]],[]⟩) (fun j=>x.length-j) ?_ 0 ⟨Nat.zero_le _,rfl⟩
  ⟨rfl,rfl,rfl,rfl,rfl,rfl,rfl,rfl,trivial⟩
 rintro j ⟨hj,hT⟩ IH
 refine AK.ev 100 rfl ?_
 refine AK.ifj 0 7 (fun hh=>?_) (fun hh=>?_)
 ·have hlt:j<x.length:=by have:=of_decide_eq_true hh;omega
  obtain ⟨s,hs⟩:=Aa x hlt
  rw [Ad3 hs] at hT
  have hrow:(P8 0 g.tm s != (i:Int))=hasY seen s:=by
   have:=Ab4 g.tm 0 i x hx (Al8 (List.mem_of_getElem? hs))
   rw [hse,Nat.zero_add] at this;exact this
  have step:(Rm (Nk x j) s&&!hasY seen s)=true→G5 size s.1 s.2=true→(j+1≤x.length∧Ky size seen none x=Ky size seen (Nk x (j+1)) (x.drop (j+1))):=fun h1 h2=>⟨hlt,by rw [hT,h2,h1];rfl⟩
  refine AK.ev 100 rfl ?_
  refine AK.dn 0 3 ?_
  refine Cs (fun S'=>Ndo.index rfl rfl rfl rfl rfl rfl rfl rfl rfl (by omega) (As (f:=Cy) hs)) ?_
  refine Bm 1 ?_
  refine Drv.pc (Aqs size s.1 s.2 hs0 hs1) ?_
  refine Bm 1 ?_
  cases h2:G5 size s.1 s.2 with
  | false =>
    rw [h2] at hT
    refine Drv.t true ?_
    refine Bm 16 ?_
    refine Drv.t true ?_
    refine Drv.go ?_
    refine Drv.z ?_
    refine AK.yes ?_
    refine AK.rz Tryz.func196 ?_
    rw [hbad hT]
  | true =>
    refine Drv.t false ?_
    refine Bm 2 ?_
    cases j with
    | zero =>
      have hp:Rm (Nk x 0) s=true:=rfl
      refine Drv.t false ?_
      refine Bm 13 ?_
      refine Drv.t false ?_
      refine Drv.go ?_
      refine Cs (fun S'=>Ndo.index rfl rfl rfl rfl rfl rfl rfl rfl rfl (by omega) (As (f:=Cy) hs)) ?_
      refine Drv.go ?_
      refine Ax (Ahp g hg s) ?_
      refine Drv.z ?_
      refine AK.if_ (fun g3=>?_) (fun g3=>?_)
      ·have g3':hasY seen s=true:=by rw [← hrow];exact g3
       refine AK.rz Tryz.func196 ?_
       rw [hbad (by rw [hT,g3'];simp)]
      ·have g3':hasY seen s=false:=by rw [← hrow];exact g3
       exact IH (0+1) (step (by rw [hp,g3'];rfl) h2) (by omega) _ _ ⟨vsx (by omega),rfl,rfl,rfl,rfl,rfl,rfl,rfl,trivial⟩ rfl rfl rfl
    | succ j =>
      obtain ⟨q,hq⟩:=Aa x (i:=j) (by omega)
      have hp:Rm (Nk x (j+1)) s=Na q s:=by show Rm (x[j]?) s=_;rw [hq];rfl
      have hw:IntKind.i64.wrap (((j+1:Nat):Int)-1)=j:=(Ac (by omega) (by omega)).trans (by omega)
      refine Drv.t true ?_ (hb:=decide_eq_true (by omega))
      refine Drv.go ?_
      refine Cs (fun S'=>Ndo.index rfl rfl rfl rfl rfl rfl rfl rfl rfl (by rw [hw];omega) (by rw [hw];exact As (f:=Cy) hq)) ?_
      refine Drv.go ?_
      refine Cs (fun S'=>Ndo.index rfl rfl rfl rfl rfl rfl rfl rfl rfl (by omega) (As (f:=Cy) hs)) ?_
      refine Drv.go ?_
      refine Drv.pc (Au1 q s) ?_
      refine Bm 3 ?_
      cases h3:Na q s with
      | false =>
        refine Drv.t true ?_
        refine Drv.go ?_
        refine Drv.z ?_
        refine AK.yes ?_
        refine AK.rz Tryz.func196 ?_
        rw [hbad (by rw [hT,hp,h3];simp)]
      | true =>
        rw [h3] at hp
        refine Drv.t false ?_
        refine Drv.go ?_
        refine Cs (fun S'=>Ndo.index rfl rfl rfl rfl rfl rfl rfl rfl rfl (by omega) (As (f:=Cy) hs)) ?_
        refine Drv.go ?_
        refine Ax (Ahp g hg s) ?_
        refine Drv.z ?_
        refine AK.if_ (fun g3=>?_) (fun g3=>?_)
        ·have g3':hasY seen s=true:=by rw [← hrow];exact g3
         refine AK.rz Tryz.func196 ?_
         rw [hbad (by rw [hT,g3'];simp)]
        ·have g3':hasY seen s=false:=by rw [← hrow];exact g3
         exact IH ((j+1)+1) (step (by rw [hp,g3'];rfl) h2) (by omega) _ _ ⟨vsx (by omega),rfl,rfl,rfl,rfl,rfl,rfl,rfl,trivial⟩ rfl rfl rfl
 ·have hje:j=x.length:=by have:=of_decide_eq_false hh;omega
  have ht:Ky size seen none x=true:=by rw [hT,hje,List.drop_length];rfl
  exact AK.back' 1 0 (h ht) ⟨rfl,rfl,rfl,rfl,rfl,rfl,trivial⟩ rfl rfl rfl rfl rfl
theorem Ahv (g:Sg)(hg:SgOk g)(size len:Int)(hs0:-1000000≤size)(hs1:size≤1000000)(hv:∀ v,v∈g.vs→Pure X 248 [.agg (D4 v)] (vb (Jc v))):Pure X 196 [vi size,vi len,.agg (Bs g)] (vb (Lv size len g)):=by
 have l1:((Ej g.tm).length:Int)=g.tm.length:=by simp [Ej]
 have l2:((O3 g.vs).length:Int)=g.vs.length:=by simp [O3]
 have l3:((T1 g.ms).length:Int)=g.ms.length:=by simp [T1]
 have htm:=hg.tm
 have hvs:=hg.vs
 have hms:=hg.ms
 have hw:IntKind.i64.wrap (((Ej g.tm).length:Int)-1)=g.tm.length-1:=by rw [l1];exact Ac (by omega) (by omega)
 unfold Lv
 refine Pure.run Tryz.func196 ?_
 refine AK.pc (Axg size len hs0 hs1) ?_
 cases h1:Kl size len with
 | false =>
   refine AK.gy ?_
   refine AK.gy ?_
   refine AK.gy ?_
   refine AK.gy ?_
   refine AK.yes ?_
   refine AK.rz Tryz.func196 ?_
   rfl
 | true =>
   refine AK.gn ?_
   refine AK.gd (fun a1=>?_) (fun a1=>?_)
   ·have a1':((Ej g.tm).length:Int)<1:=of_decide_eq_true a1
    have h2:Aj (g.tm.length:Int) 1 16=false:=by
     cases h:Aj (g.tm.length:Int) 1 16 with
     | false=>rfl
     | true=>have:=Av.1 h;omega
    refine AK.gy ?_
    refine AK.gy ?_
    refine AK.yes ?_
    refine AK.rz Tryz.func196 ?_
    rw [h2];rfl
   have a1':¬ ((Ej g.tm).length:Int)<1:=of_decide_eq_false a1
   refine AK.gd (fun a2=>?_) (fun a2=>?_)
   ·have a2':((Ej g.tm).length:Int) > 16:=of_decide_eq_true a2
    have h2:Aj (g.tm.length:Int) 1 16=false:=by
     cases h:Aj (g.tm.length:Int) 1 16 with
     | false=>rfl
     | true=>have:=Av.1 h;omega
    refine AK.gy ?_
    refine AK.yes ?_
    refine AK.rz Tryz.func196 ?_
    rw [h2];rfl
   have a2':¬ ((Ej g.tm).length:Int) > 16:=of_decide_eq_false a2
   have h2:Aj (g.tm.length:Int) 1 16=true:=Av.2 (by omega)
   rw [h2]
   refine AK.gd (fun g3=>?_) (fun g3=>?_)
   ·have g3':((g.vs.length:Int)==g.tm.length-1)=false:=by
     have:(((O3 g.vs).length:Int) != IntKind.i64.wrap (((Ej g.tm).length:Int)-1))=true:=g3
     rw [l2,hw] at this;simpa using this
    refine AK.yes ?_
    refine AK.rz Tryz.func196 ?_
    rw [g3'];rfl
   have g3':((g.vs.length:Int)==g.tm.length-1)=true:=by
    have:(((O3 g.vs).length:Int) != IntKind.i64.wrap (((Ej g.tm).length:Int)-1))=false:=g3
    rw [l2,hw] at this;simpa using this
   have g3q:(g.vs.length:Int)=g.tm.length-1:=by simpa using g3'
   rw [g3']
   refine AK.if_ (fun g4=>?_) (fun g4=>?_)
   ·have g4':((g.ms.length:Int)==g.tm.length-1)=false:=by
     have:(((T1 g.ms).length:Int) != IntKind.i64.wrap (((Ej g.tm).length:Int)-1))=true:=g4
     rw [l3,hw] at this;simpa using this
    refine AK.rz Tryz.func196 ?_
    rw [g4'];rfl
   have g4':((g.ms.length:Int)==g.tm.length-1)=true:=by
    have:(((T1 g.ms).length:Int) != IntKind.i64.wrap (((Ej g.tm).length:Int)-1))=false:=g4
    rw [l3,hw] at this;simpa using this
   rw [g4']
   simp only [Bool.true_and]
   have L17:=fun hT=>Aqp g hg size len hT (by omega) (by omega) (by omega) hv
   generalize (hasY (g.tm.getD 0 []) (0,0)&&(hasY (g.tm.getD (g.tm.length-1) []) (len,0)&&g.vs.all Jc))=G at L17 ⊢
   refine AK.while_ (ι:=Nat) 1 0 (fun i=>i≤g.tm.length∧((g.tm.take i).flatten.length≤40)∧I6 size [] g.tm=I6 size (g.tm.take i).flatten (g.tm.drop i)) (fun i=>(9,vi i)::(8,vi (g.tm.take i).flatten.length)::G0 g size len)
    (fun i=>⟨[[Bs g]],[]⟩) (fun i=>g.tm.length-i) ?_ 0 ⟨Nat.zero_le _,by simp,rfl⟩ ⟨rfl,rfl,rfl,rfl,A3 l1,rfl,trivial⟩
   rintro i ⟨hi,hse,hT⟩ IH
   refine AK.ev 100 rfl ?_
   refine AK.ifj 0 17 (fun h=>?_) (fun h=>?_)
   ·have hlt:i<g.tm.length:=by have:=of_decide_eq_true h;omega
    obtain ⟨x,hx⟩:=Aa g.tm hlt
    have hft:=Zc hx
    rw [An hx] at hT
    simp only [I6] at hT
    have hxl:=hg.rows x (List.mem_of_getElem? hx)
    have lx:((Hg x).length:Int)=x.length:=by simp [Hg]
    generalize hse2:(g.tm.take i).flatten=seen at hse hT hft ⊢
    have hcn:IntKind.i64.wrap ((seen.length:Int)+(Hg x).length)=((seen++x).length:Nat):=by rw [List.length_append,lx];exact (Ac (by omega) (by omega)).trans (by omega)
    refine AK.ev 100 rfl ?_
    refine AK.ix i (by omega) (As (f:=Km) hx) ?_
    refine AK.as_ 8 (vi ((seen++x).length:Nat)) ?_ (A3 hcn)
    refine AK.gd (fun g5=>?_) (fun g5=>?_)
    ·have g5':((x.length:Int)==0)=true:=by have:(((Hg x).length:Int)==0)=true:=g5;rwa [lx] at this
     refine AK.yes ?_
     refine AK.rz Tryz.func196 ?_
     rw [hT,g5'];simp
    have g5':((x.length:Int)==0)=false:=by have:(((Hg x).length:Int)==0)=false:=g5;rwa [lx] at this
    refine AK.ifj 0 12 (fun g6=>?_) (fun g6=>?_)
    ·have g6':decide (((seen++x).length:Int) > 40)=true:=g6
     refine AK.ev 100 rfl ?_
     refine AK.rz Tryz.func196 ?_
     rw [hT,g6'];simp
    have g6':decide (((seen++x).length:Int) > 40)=false:=g6
    have g7:¬ (((seen++x).length:Int) > 40):=of_decide_eq_false g6'
    refine AK.back' 1 0 (Am8 g hg size len hs0 hs1 i seen x (seen++x).length hse2 hx _ (fun hrow=>?_) (fun hb2=>by rw [hT,hb2];rfl)) ⟨rfl,rfl,rfl,rfl,rfl,rfl,rfl,trivial⟩ rfl rfl rfl rfl rfl
    rw [hrow] at hT
    refine AK.at_ ?_
    refine AK.ev 100 rfl ?_
    refine IH (i+1) ⟨hlt,by rw [hft];omega,by rw [hft,hT,g5',g6'];rfl⟩ (by omega) _ _ ⟨vsx (by omega),?_,rfl,rfl,rfl,rfl,trivial⟩ rfl rfl rfl
    rw [hft];rfl
   ·have hie:i=g.tm.length:=by have:=of_decide_eq_false h;omega
    subst hie
    have ht:I6 size [] g.tm=true:=by rw [hT,List.drop_length];rfl
    rw [ht,Bool.true_and]
    exact AK.back' 1 0 (L17 ht) ⟨rfl,rfl,rfl,rfl,trivial⟩ rfl rfl rfl rfl rfl
theorem Axc (lo hi:Int):Pure X 303 [.agg [vi lo,vi hi]] (vb (decide (lo≤hi))):=by
 refine Pure.run Tryz.func303 ?_
 exact AK.rz Tryz.func303 rfl
def Ic (lo hi:Int):Bool:=((lo==1)&&(hi==0))||(Lt lo&&(Lt hi&&decide (lo≤hi)))
theorem Aht (lo hi:Int):Pure X 273 [.agg [vi lo,vi hi]] (vb (Ic lo hi)):=by
 refine Pure.run Tryz.func273 ?_
 refine AK.gd (fun g=>?_) (fun g=>?_)
 ·have g':(lo==1)=true:=g
  refine AK.gd (fun g2=>?_) (fun g2=>?_)
  ·have g2':(hi==0)=true:=g2
   refine AK.rz Tryz.func273 ?_
   unfold Ic;rw [g',g2'];rfl
  ·have g2':(hi==0)=false:=g2
   have hh:((lo==1)&&(hi==0))=false:=by rw [g2'];simp
   refine AK.pc (Axc lo hi) ?_
   refine AK.gd (fun k1=>?_) (fun k1=>?_)
   ·have k1':decide (lo≤hi)=true:=k1
    refine AK.pc (Xs lo) ?_
    cases k2':Lt lo with
    | true =>
      refine AK.gy ?_
      refine AK.pc (Xs hi) ?_
      refine AK.rz Tryz.func273 ?_
      simp only [Ic,hh,k1',k2',Bool.and_true,Bool.true_and,Bool.false_or]
    | false =>
      refine AK.gn ?_
      refine AK.rz Tryz.func273 ?_
      unfold Ic;rw [hh,k2'];rfl
   ·have k1':decide (lo≤hi)=false:=k1
    refine AK.gn ?_
    refine AK.rz Tryz.func273 ?_
    simp only [Ic,hh,k1',Bool.and_false,Bool.or_false]
 ·have g':(lo==1)=false:=g
  have hh:((lo==1)&&(hi==0))=false:=by rw [g'];rfl
  refine AK.gn ?_
  refine AK.pc (Axc lo hi) ?_
  refine AK.gd (fun k1=>?_) (fun k1=>?_)
  ·have k1':decide (lo≤hi)=true:=k1
   refine AK.pc (Xs lo) ?_
   cases k2':Lt lo with
   | true =>
     refine AK.gy ?_
     refine AK.pc (Xs hi) ?_
     refine AK.rz Tryz.func273 ?_
     simp only [Ic,hh,k1',k2',Bool.and_true,Bool.true_and,Bool.false_or]
   | false =>
     refine AK.gn ?_
     refine AK.rz Tryz.func273 ?_
     unfold Ic;rw [hh,k2'];rfl
  ·have k1':decide (lo≤hi)=false:=k1
   refine AK.gn ?_
   refine AK.rz Tryz.func273 ?_
   simp only [Ic,hh,k1',Bool.and_false,Bool.or_false]
theorem Abt (v:Vl):Pure X 248 [.agg (D4 v)] (vb (Jc v)):=by
 refine Pure.run Tryz.func248 ?_
 refine AK.pc (Aht v.lo v.hi) ?_
 exact AK.rz Tryz.func248 rfl
def Re (nv i:Nat):Int:=1+nv+i
def Vt (size:Int)(nv:Nat):Nat→List Sg→Bool
 | _,[]=>true
 | i,x::l=>Lv size (Re nv i) x&&Vt size nv (i+1) l
def Aaq (size:Int)(nv na:Nat)(a:Ab):Bool :=
 if Ft a.n a.d=true then (a.sg.length:Int)==0 else Ma a.n a.d&&((a.n==size)&&(((a.sg.length:Int)==na)&&Vt size nv 0 a.sg))
abbrev Aet (n:Nd)(a:Ab):Bool:=Aaq (G4 n) (Aq n 31).length (Aq n 32).length a
theorem K4 {n:Nd}(hl:n.kids.length≤4500){i:Nat}(hi:i≤100000):IntKind.i64.wrap (IntKind.i64.wrap (1+((Aq n 31).length:Int))+i)=Re (Aq n 31).length i:=by
 have h1:=Gz n 31
 rw [Ac (n:=1+((Aq n 31).length:Int)) (by omega) (by omega),Ac (by omega) (by omega)];rfl
theorem Tp {n:Nd}(hl:n.kids.length≤4500):0≤G4 n∧G4 n≤100000:=by
 have h1:=Gz n 31
 have h2:=Gz n 32
 unfold G4
 rw [Ac (n:=1+((Aq n 31).length:Int)) (by omega) (by omega),Ac (by omega) (by omega)]
 omega
theorem Auu (n:Nd)(hl:n.kids.length≤4500)(a:Ab)(ha:AbOk a):Pure X 139 [.agg (Rn n),ab a] (vb (Aet n a)):=by
 obtain ⟨z0,z1⟩:=Tp hl
 have hd2:=Gz n 32
 have l1:((Nv a.sg).length:Int)=a.sg.length:=by simp [Nv]
 have l2:((Ci (Aq n 32)).length:Int)=(Aq n 32).length:=by rw [B7]
 show Pure X _ _ (vb (Aaq _ _ _ _))
 unfold Aaq
 refine Pure.run Tryz.func139 ?_
 refine AK.pc (Ahr a.n a.d) ?_
 refine AK.if_ (fun g=>?_) (fun g=>?_)
 ·have g':Ft a.n a.d=true:=g
  refine AK.rz Tryz.func139 ?_
  rw [if_pos g',l1]
 have g':¬ Ft a.n a.d=true:=by have:Ft a.n a.d=false:=g;simp [this]
 rw [if_neg g']
 refine AK.dn 0 2 ?_
 refine Drv.pc (Aho a.n a.d) ?_
 refine Bm 1 ?_
 cases h1:Ma a.n a.d with
 | false =>
   refine Drv.t true ?_
   refine Bm 7 ?_
   refine Drv.t true ?_
   refine Drv.go ?_
   refine Drv.z ?_
   refine AK.yes ?_
   exact AK.rz Tryz.func139 rfl
 | true =>
   refine Drv.t false ?_
   refine Bm 4 ?_
   refine Drv.pc (Afv n) ?_
   refine Bm 2 ?_
   cases h2:(a.n==G4 n) with
   | false =>
     refine Drv.t true ?_ (hb:=by simpa using h2)
     refine Drv.go ?_
     refine Drv.z ?_
     refine AK.yes ?_
     exact AK.rz Tryz.func139 rfl
   | true =>
     refine Drv.t false ?_ (hb:=by simpa using h2)
     refine Drv.go ?_
     refine Drv.z ?_
     refine AK.if_ (fun g3=>?_) (fun g3=>?_)
     ·have g3':((a.sg.length:Int)==(Aq n 32).length)=false:=by
       have:(((Nv a.sg).length:Int) != (Ci (Aq n 32)).length)=true:=g3
       rw [l1,l2] at this;simpa using this
      refine AK.rz Tryz.func139 ?_
      rw [g3'];rfl
     have g3':((a.sg.length:Int)==(Aq n 32).length)=true:=by
      have:(((Nv a.sg).length:Int) != (Ci (Aq n 32)).length)=false:=g3
      rw [l1,l2] at this;simpa using this
     have g3q:(a.sg.length:Int)=(Aq n 32).length:=by simpa using g3'
     rw [g3']
     simp only [Bool.true_and]
     refine AK.while_ (ι:=Nat) 2 0 (fun i=>i≤a.sg.length∧Vt (G4 n) (Aq n 31).length 0 a.sg=Vt (G4 n) (Aq n 31).length i (a.sg.drop i)) (fun i=>[(5,vi i),(2,.ptr 0 0 0),(3,.ptr 1 0 0)]) (fun _=>⟨[[Rn n],[Ju a]],[]⟩) (fun i=>a.sg.length-i) ?_ 0 ⟨Nat.zero_le _,rfl⟩
      ⟨rfl,rfl,rfl,trivial⟩
     rintro i ⟨hi,hT⟩ IH
     refine AK.ei (fun h=>?_) (fun h=>?_)
     ·have hlt:i<a.sg.length:=by have:=of_decide_eq_true h;rw [l2] at this;omega
      obtain ⟨x,hx⟩:=Aa a.sg hlt
      rw [An hx] at hT
      simp only [Vt] at hT
      have hle:=K4 hl (i:=i) (by omega)
      have hln:=Adl n (i:Int)
      rw [hle] at hln
      refine AK.db 0 ?_
      refine Ax (Afv n) ?_
      refine Ax hln ?_
      refine Cs (fun S'=>Ndo.index rfl rfl rfl rfl rfl rfl rfl rfl rfl (by omega) (As (f:=Bs) hx)) ?_
      refine Drv.go ?_
      refine Ax (Ahv x (ha.rows x (List.mem_of_getElem? hx)) (G4 n) (Re (Aq n 31).length i) (by omega) (by omega) (fun v _=>Abt v)) ?_
      refine Drv.z ?_
      refine AK.if_ (fun g2=>?_) (fun g2=>?_)
      ·have g2':Lv (G4 n) (Re (Aq n 31).length i) x=false:=by simpa using (show (!Lv (G4 n) (Re (Aq n 31).length i) x)=true from g2)
       refine AK.rz Tryz.func139 ?_
       rw [hT,g2'];rfl
      ·have g2':Lv (G4 n) (Re (Aq n 31).length i) x=true:=by simpa using (show (!Lv (G4 n) (Re (Aq n 31).length i) x)=false from g2)
       exact IH (i+1) ⟨hlt,by rw [hT,g2'];rfl⟩ (by omega) _ _ ⟨vsx (by omega),rfl,rfl,trivial⟩ rfl rfl rfl
     ·have hie:i=a.sg.length:=by have:=of_decide_eq_false h;rw [l2] at this;omega
      subst hie
      refine AK.rz Tryz.func139 ?_
      rw [hT,List.drop_length];rfl
def Mm (n:Nd)(a:Ab):Bool:=Hq n&&Aet n a
theorem Aqg (n:Nd)(hn:wN n≤100000000)(a:Ab)(ha:AbOk a):Pure X 84 [nd n,ab a] (vb (Mm n a)):=by
 refine Pure.run Tryz.func84 ?_
 refine AK.dn 0 1 ?_
 refine Drv.pc (Ahu n hn) ?_
 unfold Mm
 cases hr:Hq n with
 | false =>
   refine Drv.t false ?_
   refine Drv.go ?_
   refine Drv.z ?_
   exact AK.rz Tryz.func84 rfl
 | true =>
   obtain ⟨fp,_,hw,hne,hkl⟩:=Fi hr
   refine Drv.t true ?_
   refine Drv.go ?_
   refine Ax (Afw n hr) ?_
   refine Ax (Auu n hkl a ha) ?_
   refine Drv.z ?_
   exact AK.rz Tryz.func84 rfl
theorem Zw (a:Ab):Pure X 90 [ab a] (vb (Ft a.n a.d&&((a.sg.length:Int)==0))):=by
 have l1:((Nv a.sg).length:Int)=a.sg.length:=by simp [Nv]
 refine Pure.run Tryz.func90 ?_
 refine AK.pc (Ara a.n a.d) ?_
 refine AK.gd (fun g=>?_) (fun g=>?_)
 ·have g':Ft a.n a.d=true:=g
  refine AK.rz Tryz.func90 ?_
  rw [g',l1];rfl
 ·have g':Ft a.n a.d=false:=g
  refine AK.rz Tryz.func90 ?_
  rw [g'];rfl
theorem Amr {n:Int}{d:List Int}(h:Ft n d=true):Ma n d=false:=by
 simp only [Ft,Bool.and_eq_true,beq_iff_eq] at h
 unfold Ma
 cases hb:Aj n 1 13 with
 | false=>rfl
 | true=>have:=Av.1 hb;omega
theorem Au4 (hV:∀ v,Pure X 211 [.agg (D4 v)] (vb (Jc v)))(n:Nd)(hl:n.kids.length≤4500)(a:Ab)(ha:AbOk a):Pure X 147 [.cptr (Mg n),ab a] (vb (Aet n a)):=by
 obtain ⟨z0,z1⟩:=Tp hl
 have hd2:=Gz n 32
 have l1:((Nv a.sg).length:Int)=a.sg.length:=by simp [Nv]
 have l2:((Ci (Aq n 32)).length:Int)=(Aq n 32).length:=by rw [B7]
 show Pure X _ _ (vb (Aaq _ _ _ _))
 unfold Aaq
 refine Pure.run Tryz.func147 ?_
 refine AK.pc (Zw a) ?_
 refine AK.if_ (fun g=>?_) (fun g=>?_)
 ·have g':(Ft a.n a.d&&((a.sg.length:Int)==0))=true:=g
  rw [Bool.and_eq_true] at g'
  refine AK.rz Tryz.func147 ?_
  rw [if_pos g'.1,g'.2]
 have g':(Ft a.n a.d&&((a.sg.length:Int)==0))=false:=g
 refine AK.dn 0 2 ?_
 refine Drv.pc (Ah1 a.n a.d) ?_
 refine Bm 1 ?_
 cases h1:Ma a.n a.d with
 | false =>
   refine Drv.t true ?_
   refine Bm 7 ?_
   refine Drv.t true ?_
   refine Drv.go ?_
   refine Drv.z ?_
   refine AK.yes ?_
   refine AK.rz Tryz.func147 ?_
   split
   ·rename_i hn
    rw [hn,Bool.true_and] at g'
    rw [g']
   ·rfl
 | true =>
   have hnn:¬ Ft a.n a.d=true:=fun h=>by rw [Amr h] at h1;cases h1
   rw [if_neg hnn]
   refine Drv.t false ?_
   refine Bm 4 ?_
   refine Drv.pc (Af4 n) ?_
   refine Bm 2 ?_
   cases h2:(a.n==G4 n) with
   | false =>
     refine Drv.t true ?_ (hb:=by simpa using h2)
     refine Drv.go ?_
     refine Drv.z ?_
     refine AK.yes ?_
     exact AK.rz Tryz.func147 rfl
   | true =>
     refine Drv.t false ?_ (hb:=by simpa using h2)
     refine Drv.go ?_
     refine Drv.z ?_
     refine AK.if_ (fun g3=>?_) (fun g3=>?_)
     ·have g3':((a.sg.length:Int)==(Aq n 32).length)=false:=by
       have:(((Nv a.sg).length:Int) != (Ci (Aq n 32)).length)=true:=g3
       rw [l1,l2] at this;simpa using this
      refine AK.rz Tryz.func147 ?_
      rw [g3'];rfl
     have g3':((a.sg.length:Int)==(Aq n 32).length)=true:=by
      have:(((Nv a.sg).length:Int) != (Ci (Aq n 32)).length)=false:=g3
      rw [l1,l2] at this;simpa using this
     have g3q:(a.sg.length:Int)=(Aq n 32).length:=by simpa using g3'
     rw [g3']
     simp only [Bool.true_and]
     refine AK.while_ (ι:=Nat) 1 0 (fun i=>i≤a.sg.length∧Vt (G4 n) (Aq n 31).length 0 a.sg=Vt (G4 n) (Aq n 31).length i (a.sg.drop i)) (fun i=>[(35,vi i),(34,vi a.sg.length),(33,.sl (Nv a.sg) .no),(0,.cptr (Mg n)),(3,.ptr 0 0 0)]) (fun _=>⟨[[Ju a]],[]⟩) (fun i=>a.sg.length-i) ?_ 0 ⟨Nat.zero_le _,rfl⟩
      ⟨rfl,A3 l1,rfl,rfl,rfl,trivial⟩
     rintro i ⟨hi,hT⟩ IH
     refine AK.ei (fun h=>?_) (fun h=>?_)
     ·have hlt:i<a.sg.length:=by have:=of_decide_eq_true h;omega
      obtain ⟨x,hx⟩:=Aa a.sg hlt
      rw [An hx] at hT
      simp only [Vt] at hT
      have hle:=K4 hl (i:=i) (by omega)
      have hln:=Adz n (i:Int)
      rw [hle] at hln
      refine AK.ix i (by omega) (As (f:=Bs) hx) ?_
      refine AK.db 0 ?_
      refine Ax (Af4 n) ?_
      refine Ax hln ?_
      refine Ax (Ah5 x (ha.rows x (List.mem_of_getElem? hx)) (G4 n) (Re (Aq n 31).length i) (by omega) (by omega) (fun v _=>hV v)) ?_
      refine Drv.z ?_
      refine AK.if_ (fun g2=>?_) (fun g2=>?_)
      ·have g2':Lv (G4 n) (Re (Aq n 31).length i) x=false:=by simpa using (show (!Lv (G4 n) (Re (Aq n 31).length i) x)=true from g2)
       refine AK.rz Tryz.func147 ?_
       rw [hT,g2'];rfl
      ·have g2':Lv (G4 n) (Re (Aq n 31).length i) x=true:=by simpa using (show (!Lv (G4 n) (Re (Aq n 31).length i) x)=false from g2)
       exact IH (i+1) ⟨hlt,by rw [hT,g2'];rfl⟩ (by omega) _ _ ⟨vsx (by omega),rfl,rfl,rfl,rfl,trivial⟩ rfl rfl rfl
     ·have hie:i=a.sg.length:=by have:=of_decide_eq_false h;omega
      subst hie
      refine AK.rz Tryz.func147 ?_
      rw [hT,List.drop_length];rfl
theorem Ajt (hV:∀ v,Pure X 211 [.agg (D4 v)] (vb (Jc v)))(n:Nd)(hn:wN n≤100000000)(hnum:PrI n)(a:Ab)(ha:AbOk a):Pure X 89 [nd n,.sl [Ju a] .no] (.tup [if Mm n a=true then .cptr (Mg n) else .val (.pointer none),vb (Mm n a)]):=by
 have hcw:=Lf n
 have hp:=Ab0 n (by omega) hnum
 have hrow:([Ju a]:List (List AV))[0]?=some (Ju a):=rfl
 refine Pure.run Tryz.func89 ?_
 unfold Mm
 cases hr:Hq n with
 | false =>
   rw [if_neg (by simp [hr])] at hp
   refine AK.pc hp ?_
   refine AK.yes ?_
   exact AK.rz Tryz.func89 rfl
 | true =>
   obtain ⟨fp,_,hw,hne,hkl⟩:=Fi hr
   rw [if_pos hr] at hp
   refine AK.pc hp ?_
   refine AK.no ?_
   refine AK.loop ?_
   refine AK.ev 100 rfl ?_
   refine AK.yes ?_
   refine AK.ix 0 (by decide) hrow ?_
   refine AK.pc (Au4 hV n hkl a ha) ?_
   cases h2:Aet n a with
   | false =>
     refine AK.yes ?_
     exact AK.rz Tryz.func89 rfl
   | true =>
     refine AK.no ?_
     refine Acd ?_
     refine AK.ev 100 rfl ?_
     refine AK.no ?_
     exact AK.rz Tryz.func89 rfl
theorem Avs {l:List (List (Int × Int))}{x:List (Int × Int)}(h:x∈l):x.length≤swY l:=by
 induction l with
 | nil=>cases h
 | cons y l ih =>
   simp only [swY]
   rcases List.mem_cons.1 h with rfl | h
   ·omega
   ·have:=ih h;omega
theorem Aod {l:List Sg}{x:Sg}(h:x∈l):Yr x≤Qa l:=by
 induction l with
 | nil=>cases h
 | cons y l ih =>
   simp only [Qa]
   rcases List.mem_cons.1 h with rfl | h
   ·omega
   ·have:=ih h;omega
theorem Aoz {a:Ab}(h:Agi a≤1048576):AbOk a:=by
 unfold Agi at h
 refine ⟨by omega,by omega,fun x hx=>?_⟩
 have h1:=Aod hx
 unfold Yr at h1
 exact ⟨by omega,fun y hy=>by have:=Avs hy;omega,by omega,by omega⟩
abbrev T4 (n:Int):Prop:=-9223372036854775808≤n∧n≤9223372036854775807
structure SgI (s:Sg):Prop where
 tm:∀ x,x∈s.tm→∀ c,c∈x→T4 c.1∧T4 c.2
 vs:∀ v,v∈s.vs→T4 v.lo∧T4 v.hi
structure AbI (a:Ab):Prop where
 d:∀ y,y∈a.d→T4 y
 sg:∀ s,s∈a.sg→SgI s
theorem Ah4 (lo hi:Int):Pure X 254 [.agg [vi lo,vi hi]] (vb (Ic lo hi)):=by
 have hq:∀ x,Pure X 132 [vi x] (vb (Lt x)):=fun x=>Wh x
 have hfl:Kj X.P 210=some [0,0]:=by kernel_rfl
 refine Pure.run Tryz.func254 ?_
 refine AK.op (Kr (r:=(lo==1)&&((hi==0)&&true)) rfl rfl rfl rfl rfl hfl rfl (.inl ⟨rfl,rfl⟩)) ?_
 refine AK.gd (fun g=>?_) (fun g=>?_)
 ·have g':((lo==1)&&((hi==0)&&true))=true:=g
  rw [Bool.and_true] at g'
  refine AK.rz Tryz.func254 ?_
  unfold Ic;rw [g'];rfl
 ·have g':((lo==1)&&((hi==0)&&true))=false:=g
  rw [Bool.and_true] at g'
  refine AK.pc (hq lo) ?_
  unfold Ic;rw [g',Bool.false_or]
  cases k2:Lt lo with
  | true =>
    refine AK.gy ?_
    refine AK.pc (hq hi) ?_
    cases k3:Lt hi with
    | true =>
      refine AK.gy ?_
      exact AK.rz Tryz.func254 rfl
    | false =>
      refine AK.gn ?_
      exact AK.rz Tryz.func254 rfl
  | false =>
    refine AK.gn ?_
    refine AK.gn ?_
    exact AK.rz Tryz.func254 rfl
theorem Ab1 (v:Vl):Pure X 211 [.agg (D4 v)] (vb (Jc v)):=by
 refine Pure.run Tryz.func211 ?_
 refine AK.pc (Ah4 v.lo v.hi) ?_
 exact AK.rz Tryz.func211 rfl
end Go.V
namespace Go.V
open Go Go.Proofs Go.ChangeShapes Go.WideShapes Go.ChangeAt Go.RowKit Go.Deep
set_option maxRecDepth 100000
section
variable {H:Type}{enc:TypeId × Value→H}{w:World}{sp:Nat→Bool}{held:Bool}
theorem Aad (fuel:Nat)(cs:List Value)(x:DataW H × List MemPlace)(h:DataW.trod enc Tryz.prog w 0 sp held fuel 3 cs=some x):∃ n:Int,T4 n∧RelL w cs (Hv n):=by
 obtain ⟨n,h0,h1,rfl⟩:=Lo Tryz.underlying3 h
 exact ⟨n,Aha h0 h1,.one (.val _)⟩
theorem Atc (fuel:Nat)(cs:List Value)(x:DataW H × List MemPlace)(h:DataW.trod enc Tryz.prog w 0 sp held fuel 4 cs=some x):∃ b:Bool,True∧RelL w cs (Kn b):=by
 obtain ⟨b,rfl,_⟩:=DataW.trod_bool Tryz.underlying4 h
 exact ⟨b,trivial,.one (.val _)⟩
theorem RelL.app {cs ds:List Value}{l m:List AV}(h:RelL w cs l)(g:RelL w ds m):RelL w (cs++ds) (l++m) :=
 ⟨by simp [h.1,g.1],fun j v x h1 h2=>by
   have e:=h.1
   rw [List.getElem?_append] at h1 h2
   by_cases hj:j<cs.length
   ·rw [if_pos hj] at h1
    rw [if_pos (by omega)] at h2
    exact h.2 j v x h1 h2
   ·rw [if_neg hj] at h1
    rw [if_neg (by omega),← e] at h2
    exact g.2 _ v x h1 h2⟩
theorem Ahf {α:Type}{l:List α}(h:l.length=2):∃ a b,l=[a,b]:=by
 rcases l with _ | ⟨a,_ | ⟨b,_ | ⟨c,l⟩⟩⟩<;>simp at h
 exact ⟨a,b,rfl⟩
theorem Aml {α:Type}{l:List α}(h:l.length=3):∃ a b c,l=[a,b,c]:=by
 rcases l with _ | ⟨a,_ | ⟨b,_ | ⟨c,_ | ⟨d,l⟩⟩⟩⟩<;>simp at h
 exact ⟨a,b,c,rfl⟩
theorem c3e:Tryz.prog.cellsOf 3=1:=by kernel_rfl
theorem c4e:Tryz.prog.cellsOf 4=1:=by kernel_rfl
theorem Asg (fuel:Nat)(cs:List Value)(x:DataW H × List MemPlace)(h:DataW.trod enc Tryz.prog w 0 sp held fuel 318 cs=some x):∃ c:Int × Int,(T4 c.1∧T4 c.2)∧RelL w cs (Cy c):=by
 obtain ⟨y0,y1,n1,rfl,hl,f0,f1⟩:=trod_struct2 Tryz.underlying318 h
 have hln:cs.length=2:=hl.trans (by kernel_rfl)
 obtain ⟨c0,c1,rfl⟩:=Ahf hln
 have f0':DataW.trod enc Tryz.prog w 0 sp held n1 3 (([c0,c1].drop 0).take (Tryz.prog.cellsOf 3))=some y0:=f0
 have f1':DataW.trod enc Tryz.prog w 0 sp held n1 3 (([c0,c1].drop 1).take (Tryz.prog.cellsOf 3))=some y1:=f1
 rw [c3e] at f0' f1'
 obtain ⟨a,a1,a2⟩:=Aad _ _ _ f0'
 obtain ⟨b,b1,b2⟩:=Aad _ _ _ f1'
 have a3:RelL w [c0] (Hv a):=a2
 have b3:RelL w [c1] (Hv b):=b2
 exact ⟨(a,b),⟨a1,b1⟩,.cons a3.get1 b3⟩
theorem Ase (fuel:Nat)(cs:List Value)(x:DataW H × List MemPlace)(h:DataW.trod enc Tryz.prog w 0 sp held fuel 288 cs=some x):∃ c:Int × Int,(T4 c.1∧T4 c.2)∧RelL w cs (Cy c):=by
 obtain ⟨y0,y1,n1,rfl,hl,f0,f1⟩:=trod_struct2 Tryz.underlying288 h
 have hln:cs.length=2:=hl.trans (by kernel_rfl)
 obtain ⟨c0,c1,rfl⟩:=Ahf hln
 have f0':DataW.trod enc Tryz.prog w 0 sp held n1 3 (([c0,c1].drop 0).take (Tryz.prog.cellsOf 3))=some y0:=f0
 have f1':DataW.trod enc Tryz.prog w 0 sp held n1 3 (([c0,c1].drop 1).take (Tryz.prog.cellsOf 3))=some y1:=f1
 rw [c3e] at f0' f1'
 obtain ⟨a,a1,a2⟩:=Aad _ _ _ f0'
 obtain ⟨b,b1,b2⟩:=Aad _ _ _ f1'
 have a3:RelL w [c0] (Hv a):=a2
 have b3:RelL w [c1] (Hv b):=b2
 exact ⟨(a,b),⟨a1,b1⟩,.cons a3.get1 b3⟩
theorem Aoq (fuel:Nat)(cs:List Value)(x:DataW H × List MemPlace)(h:DataW.trod enc Tryz.prog w 0 sp held fuel 284 cs=some x):∃ l:List (Int × Int),(l.length≤9223372036854775807∧∀ c,c∈l→T4 c.1∧T4 c.2)∧RelL w cs (Km l):=by
 obtain ⟨l,h0,h1,h2⟩:=Gi Cy (fun c=>T4 c.1∧T4 c.2) Tryz.underlying284 (show Tryz.prog.cellsOf 318=2 by kernel_rfl) (by decide) (fun y=>rfl) (fun n _ cs' x' hx'=>Asg n cs' x' hx') h
 exact ⟨l,⟨h1,h0⟩,h2⟩
theorem Akg (fuel:Nat)(cs:List Value)(x:DataW H × List MemPlace)(h:DataW.trod enc Tryz.prog w 0 sp held fuel 198 cs=some x):∃ l:List (List (Int × Int)),(∀ y,y∈l→y.length≤9223372036854775807∧∀ c,c∈y→T4 c.1∧T4 c.2)∧l.length≤9223372036854775807∧RelL w cs [.sl (Ej l) .no] :=
 Gi Km (fun y=>y.length≤9223372036854775807∧∀ c,c∈y→T4 c.1∧T4 c.2) Tryz.underlying198 (show Tryz.prog.cellsOf 284=1 by kernel_rfl) (by decide) (fun y=>rfl) (fun n _ cs' x' hx'=>Aoq n cs' x' hx') h
theorem Ash (fuel:Nat)(cs:List Value)(x:DataW H × List MemPlace)(h:DataW.trod enc Tryz.prog w 0 sp held fuel 290 cs=some x):∃ v:Vl,(T4 v.lo∧T4 v.hi)∧RelL w cs (D4 v):=by
 obtain ⟨y0,y1,n1,rfl,hl,f0,f1⟩:=trod_struct2 Tryz.underlying290 h
 have hln:cs.length=3:=hl.trans (by kernel_rfl)
 obtain ⟨c0,c1,c2,rfl⟩:=Aml hln
 have c2e:Tryz.prog.cellsOf 288=2:=by kernel_rfl
 have f0':DataW.trod enc Tryz.prog w 0 sp held n1 288 (([c0,c1,c2].drop 0).take (Tryz.prog.cellsOf 288))=some y0:=f0
 have f1':DataW.trod enc Tryz.prog w 0 sp held n1 4 (([c0,c1,c2].drop 2).take (Tryz.prog.cellsOf 4))=some y1:=f1
 rw [c2e] at f0'
 rw [c4e] at f1'
 obtain ⟨r,a1,a2⟩:=Ase _ _ _ f0'
 obtain ⟨b,_,b2⟩:=Atc _ _ _ f1'
 have a3:RelL w [c0,c1] (Cy r):=a2
 have b3:RelL w [c2] (Kn b):=b2
 exact ⟨⟨r.1,r.2,b⟩,a1,a3.app b3⟩
theorem Aor (fuel:Nat)(cs:List Value)(x:DataW H × List MemPlace)(h:DataW.trod enc Tryz.prog w 0 sp held fuel 199 cs=some x):∃ l:List Vl,(∀ y,y∈l→T4 y.lo∧T4 y.hi)∧l.length≤9223372036854775807∧RelL w cs [.sl (O3 l) .no] :=
 Gi D4 (fun v=>T4 v.lo∧T4 v.hi) Tryz.underlying199 (show Tryz.prog.cellsOf 290=3 by kernel_rfl) (by decide) (fun y=>rfl) (fun n _ cs' x' hx'=>Ash n cs' x' hx') h
theorem Aon (fuel:Nat)(cs:List Value)(x:DataW H × List MemPlace)(h:DataW.trod enc Tryz.prog w 0 sp held fuel 141 cs=some x):∃ l:List Bool,(∀ y,y∈l→True)∧l.length≤9223372036854775807∧RelL w cs [.sl (T1 l) .no] :=
 Gi Kn (fun _=>True) Tryz.underlying141 c4e (by decide) (fun y=>rfl) (fun n _ cs' x' hx'=>Atc n cs' x' hx') h
theorem Asb (fuel:Nat)(cs:List Value)(x:DataW H × List MemPlace)(h:DataW.trod enc Tryz.prog w 0 sp held fuel 37 cs=some x):∃ l:List Int,(∀ y,y∈l→T4 y)∧l.length≤9223372036854775807∧RelL w cs [.sl (Dl l) .no] :=
 Gi Hv T4 Tryz.underlying37 c3e (by decide) (fun y=>rfl) (fun n _ cs' x' hx'=>Aad n cs' x' hx') h
theorem Asf (fuel:Nat)(cs:List Value)(x:DataW H × List MemPlace)(h:DataW.trod enc Tryz.prog w 0 sp held fuel 201 cs=some x):∃ s:Sg,(SgLn s∧SgI s)∧RelL w cs (Bs s):=by
 obtain ⟨y0,y1,y2,n1,rfl,hl,f0,f1,f2⟩:=trod_struct3 Tryz.underlying201 h
 have hln:cs.length=3:=hl.trans (by kernel_rfl)
 obtain ⟨c0,c1,c2,rfl⟩:=Aml hln
 have k0:Tryz.prog.cellsOf 198=1:=by kernel_rfl
 have k1:Tryz.prog.cellsOf 199=1:=by kernel_rfl
 have k2:Tryz.prog.cellsOf 141=1:=by kernel_rfl
 have f0':DataW.trod enc Tryz.prog w 0 sp held n1 198 (([c0,c1,c2].drop 0).take (Tryz.prog.cellsOf 198))=some y0:=f0
 have f1':DataW.trod enc Tryz.prog w 0 sp held n1 199 (([c0,c1,c2].drop 1).take (Tryz.prog.cellsOf 199))=some y1:=f1
 have f2':DataW.trod enc Tryz.prog w 0 sp held n1 141 (([c0,c1,c2].drop 2).take (Tryz.prog.cellsOf 141))=some y2:=f2
 rw [k0] at f0'
 rw [k1] at f1'
 rw [k2] at f2'
 obtain ⟨tm,t1,t2,t3⟩:=Akg _ _ _ f0'
 obtain ⟨vs,v1,v2,v3⟩:=Aor _ _ _ f1'
 obtain ⟨ms,_,m2,m3⟩:=Aon _ _ _ f2'
 have t4:RelL w [c0] [.sl (Ej tm) .no]:=t3
 have v4:RelL w [c1] [.sl (O3 vs) .no]:=v3
 have m4:RelL w [c2] [.sl (T1 ms) .no]:=m3
 exact ⟨⟨tm,vs,ms⟩,⟨⟨t2,fun x hx=>(t1 x hx).1,v2,m2⟩,⟨fun x hx=>(t1 x hx).2,v1⟩⟩,.cons t4.get1 (.cons v4.get1 m4)⟩
theorem Aop (fuel:Nat)(cs:List Value)(x:DataW H × List MemPlace)(h:DataW.trod enc Tryz.prog w 0 sp held fuel 66 cs=some x):∃ l:List Sg,(∀ y,y∈l→SgLn y∧SgI y)∧l.length≤9223372036854775807∧RelL w cs [.sl (Nv l) .no] :=
 Gi Bs (fun s=>SgLn s∧SgI s) Tryz.underlying66 (show Tryz.prog.cellsOf 201=3 by kernel_rfl) (by decide) (fun y=>rfl) (fun n _ cs' x' hx'=>Asf n cs' x' hx') h
theorem Asa (fuel:Nat)(cs:List Value)(x:DataW H × List MemPlace)(h:DataW.trod enc Tryz.prog w 0 sp held fuel 65 cs=some x):∃ f:Int × List Int,(f.2.length≤9223372036854775807∧∀ y,y∈f.2→T4 y)∧RelL w cs (Iz f.1 f.2):=by
 obtain ⟨y0,y1,n1,rfl,hl,f0,f1⟩:=trod_struct2 Tryz.underlying65 h
 have hln:cs.length=2:=hl.trans (by kernel_rfl)
 obtain ⟨c0,c1,rfl⟩:=Ahf hln
 have k1:Tryz.prog.cellsOf 37=1:=by kernel_rfl
 have f0':DataW.trod enc Tryz.prog w 0 sp held n1 3 (([c0,c1].drop 0).take (Tryz.prog.cellsOf 3))=some y0:=f0
 have f1':DataW.trod enc Tryz.prog w 0 sp held n1 37 (([c0,c1].drop 1).take (Tryz.prog.cellsOf 37))=some y1:=f1
 rw [c3e] at f0'
 rw [k1] at f1'
 obtain ⟨a,_,a2⟩:=Aad _ _ _ f0'
 obtain ⟨d,d1,d2,d3⟩:=Asb _ _ _ f1'
 have a3:RelL w [c0] (Hv a):=a2
 have d4:RelL w [c1] [.sl (Dl d) .no]:=d3
 exact ⟨(a,d),⟨d2,d1⟩,.cons a3.get1 d4⟩
theorem Ar8 (fuel:Nat)(cs:List Value)(x:DataW H × List MemPlace)(h:DataW.trod enc Tryz.prog w 0 sp held fuel 68 cs=some x):∃ a:Ab,(AbLn a∧AbI a)∧RelL w cs (Ju a):=by
 obtain ⟨y0,y1,n1,rfl,hl,f0,f1⟩:=trod_struct2 Tryz.underlying68 h
 have hln:cs.length=3:=hl.trans (by kernel_rfl)
 obtain ⟨c0,c1,c2,rfl⟩:=Aml hln
 have k0:Tryz.prog.cellsOf 65=2:=by kernel_rfl
 have k1:Tryz.prog.cellsOf 66=1:=by kernel_rfl
 have f0':DataW.trod enc Tryz.prog w 0 sp held n1 65 (([c0,c1,c2].drop 0).take (Tryz.prog.cellsOf 65))=some y0:=f0
 have f1':DataW.trod enc Tryz.prog w 0 sp held n1 66 (([c0,c1,c2].drop 2).take (Tryz.prog.cellsOf 66))=some y1:=f1
 rw [k0] at f0'
 rw [k1] at f1'
 obtain ⟨f,d1,d2⟩:=Asa _ _ _ f0'
 obtain ⟨sg,s1,s2,s3⟩:=Aop _ _ _ f1'
 have d3:RelL w [c0,c1] (Iz f.1 f.2):=d2
 have s4:RelL w [c2] [.sl (Nv sg) .no]:=s3
 exact ⟨⟨f.1,f.2,sg⟩,⟨⟨d1.1,s2,fun x hx=>(s1 x hx).1⟩,⟨d1.2,fun x hx=>(s1 x hx).2⟩⟩,d3.app s4⟩
end
theorem Ati {H:Type}{enc:TypeId × Value→H}{W:World}{base:Nat}{v:Value}{d:DataW H}{ps:List MemPlace}(hv:Value.okWide Tryz.prog W .any base 68 v)(h:DataW.Trod enc Tryz.prog W 0 (fun _=>true) true 68 v d ps) :
 ∃ a:Ab,AbLn a∧AbI a∧Rel E0 W v (ab a):=by
 unfold Value.okWide at hv
 rw [Tryz.underlying68] at hv
 obtain ⟨cs,rfl,_⟩:=hv
 obtain ⟨fuel,h⟩:=h
 obtain ⟨a,h1,h3⟩:=Ar8 fuel _ _ h
 exact ⟨a,h1.1,h1.2,h3.agg⟩
abbrev Apb:Value:=.agg #[.int .i64 0,.slice none 0 0,.slice none 0 0]
theorem Tw {H:Type}{enc:TypeId × Value→H}{P:Program}(hl:laidOutB P=true){W W':World}{sp':Nat→Bool}(hb:Below W.heap.size W W'):∀ {ns:List String}{gs:List (DataW H)}{ps:List MemPlace},
 (∀ n,n∈ns→∃ g t,P.globalNamed n=some g∧(P.globals[g]?).map (·.type)=some t∧P.readableRec t=true∧t<P.types.size)→DataW.TrodVars enc P W (fun _=>true) ns gs ps→(∀ p∈ps,W.sameAt W' p)→(∀ p∈ps,sp' p.block=true)→DataW.TrodVars enc P W' sp' ns gs ps
 | [],[],_,_,h,_,_=>h
 | n::ns,d::gs,_,hn,⟨g,t,cs,fuel,p,q,h1,h2,h3,h4,h5,rfl⟩,hs,hsp=>by
   obtain ⟨g',t',k1,k2,hr,hlt⟩:=hn n (by simp)
   obtain rfl:=Option.some.inj (k1.symm.trans h1)
   obtain rfl:=Option.some.inj (k2.symm.trans h2)
   obtain ⟨fuel',h6⟩:=WideElems.Trod_stays (sp':=sp') hl hr hlt (show DataW.Trod enc P W 0 (fun _=>true) true t' (.agg cs) d p from ⟨fuel,h4⟩) (fun x hx=>hs x (by simp [hx])) (fun x hx=>hsp x (by simp [hx]))
   refine ⟨g',t',cs,fuel',p,q,h1,h2,?_,h6,Tw hl hb (fun x hx=>hn x (by simp [hx])) h5 (fun x hx=>hs x (by simp [hx])) (fun x hx=>hsp x (by simp [hx])),rfl⟩
   unfold World.var? at h3 ⊢
   rw [h1] at h3 ⊢
   simp only [Option.bind_some] at h3 ⊢
   have hgl:g'<W.heap.size:=by
    rcases Nat.lt_or_ge g' W.heap.size with h' | h'
    ·exact h'
    ·simp [Array.getElem?_eq_none h'] at h3
   rw [hb.block g' hgl];exact h3
 | [],_::_,_,_,h,_,_=>h.elim
 | _::_,[],_,_,h,_,_=>h.elim
theorem Tx {H:Type}{enc:TypeId × Value→H}{P:Program}{W:World}{sp:Nat→Bool}:∀ {ns:List String}{gs:List (DataW H)}{ps:List MemPlace},DataW.TrodVars enc P W sp ns gs ps→gs.length=ns.length
 | [],[],_,_=>rfl
 | _::_,_::_,_,⟨_,_,_,_,_,_,_,_,_,_,h,_⟩=>congrArg (·+1) (Tx h)
 | [],_::_,_,h=>h.elim
 | _::_,[],_,h=>h.elim
theorem Ajo {H:Type}{enc:TypeId × Value→H}{P:Program}{fn:Func}{s:ChangeSpec}{apart fresh handsOn:Bool}{W W':World}{args:Array Value}{ds gs:List (DataW H)}{before:List MemPlace}
 (hl:laidOutB P=true)(hp:∀ t,t∈fn.params.toList→P.readableRec t=true∧t<P.types.size)(hn:∀ n,n∈s.vars→∃ g t,P.globalNamed n=some g∧(P.globals[g]?).map (·.type)=some t∧P.readableRec t=true∧t<P.types.size)
 (hW:DataW.Whole enc P fn.params.toList s.vars apart W args.toList ds gs before)(hb:Below W.heap.size W W')
 (hargs:gs.length=s.vars.length→s.fn H (ds++gs)={ results:=[.lit (.bool true)],args:=ds,vars:=gs }){tb:Nat}(hres:fn.resultTypes=#[tb])(htb:P.underlying tb=some .bool) :
 s.post enc P fn apart fresh handsOn false W args (.bool true) W':=by
 have hW':=hW
 obtain ⟨p,q,hA,hV,rfl,hfz,hnd⟩:=hW
 have hlt':∀ x,x∈p++q→x.block<W.heap.size:=fun x hx=>hW'.lt x hx
 have e:=hargs (Tx hV)
 refine ⟨ds,gs,p++q,[],p,q,hW',?_,?_,?_,hb.frame _,fun h=>by cases h⟩
 ·rw [e,hres];exact trodAll_cons_mk (shut_bool htb _) trodAll_mk0
 ·rw [e]
  exact Rq hl hp hA (fun x hx=>hb.same (hlt' x (by simp [hx]))) (fun x hx=>by simpa using hlt' x (by simp [hx]))
 ·rw [e]
  exact Tw hl hb hn hV (fun x hx=>hb.same (hlt' x (by simp [hx]))) (fun x hx=>by simpa using hlt' x (by simp [hx]))
theorem Aqf:Tryz.prog.globalNamed "loop.example/g00093/impl.none" = some 0:=by kernel_rfl
theorem Aus:(Tryz.prog.globals[0]?).map (·.type)=some 210:=by kernel_rfl
theorem Aur:Tryz.prog.readableRec 210=true:=by kernel_rfl
theorem Auq:210<Tryz.prog.types.size:=of_decide_eq_true (by kernel_rfl)
end Go.V
namespace Go.V
open Go Go.Proofs
structure Cf where
 pt:Int
 vars:List Int
 cells:List (List (Bool × Int))
 used:Int
 steps:Int
 trap:Int
 edge:Int
 acc:Int
abbrev Fq (c:Bool × Int):List AV:=[vb c.1,vi c.2]
def Iy (l:List (Bool × Int)):List (List AV):=l.map Fq
abbrev Lr (l:List (Bool × Int)):List AV:=[.sl (Iy l) .no]
def Ha (l:List (List (Bool × Int))):List (List AV):=l.map Lr
abbrev Jv (c:Cf):List AV:=[vi c.pt,.sl (Dl c.vars) .no,.sl (Ha c.cells) .no,vi c.used,vi c.steps,vi c.trap,vi c.edge,vi c.acc]
abbrev cf (c:Cf):AV:=.agg (Jv c)
instance {n m:Nat}{l:List (Bool × Int)}:OKR n m (Iy l):=⟨fun r hr x hx=>by
 obtain ⟨e,_,rfl⟩:=List.mem_map.1 hr
 simp at hx
 rcases hx with rfl | rfl<;>exact .val _⟩
instance {n m:Nat}{l:List (List (Bool × Int))}:OKR n m (Ha l):=⟨fun r hr x hx=>by
 obtain ⟨e,_,rfl⟩:=List.mem_map.1 hr
 simp at hx;subst hx
 exact (inferInstance:OK n m (.sl (Iy e) .no)).ok⟩
theorem V4 (l:List (Bool × Int)):(Iy l).length=l.length:=by simp [Iy]
theorem M4 (l:List (List (Bool × Int))):(Ha l).length=l.length:=by simp [Ha]
instance {n m i:Nat}{l:List (Bool × Int)}:OKR n m (Qm Fq [vb false,vi 0] l i):=⟨fun r hr x hx=>by
 rcases List.mem_append.1 hr with h | h
 ·exact (inferInstance:OKR n m (Iy (l.take i))).ok r h x hx
 ·rw [List.eq_of_mem_replicate h] at hx;simp at hx;rcases hx with rfl | rfl<;>exact .val _⟩
instance {n m i:Nat}{l:List (List (Bool × Int))}:OKR n m (Qm Lr [.sl [] .tight] l i):=⟨fun r hr x hx=>by
 rcases List.mem_append.1 hr with h | h
 ·exact (inferInstance:OKR n m (Ha (l.take i))).ok r h x hx
 ·rw [List.eq_of_mem_replicate h] at hx;simp at hx;subst hx;exact (inferInstance:OK n m (.sl [] .tight)).ok⟩
theorem Aoi (c:Bool × Int):Pure X 183 [.agg (Fq c)] (.agg (Fq c)):=by
 refine Pure.run Tryz.func183 ?_
 exact AK.rz Tryz.func183 rfl
theorem Axw (l:List (Bool × Int))(hl:l.length≤1000000000)  : Pure X 126 [.sl (Iy l) .no] (.sl (Iy l) .no):=by
 have hlen:(Iy l).length=l.length:=by simp [Iy]
 refine Pure.run Tryz.func126 ?_
 refine AK.op (Ndo.mkS (n:=(Iy l).length) (b:=0) (by rw [hlen];exact hl) rfl rfl rfl rfl rfl rfl rfl rfl rfl rfl) ?_
 refine AK.while_ (ι:=Nat) 1 0 (fun i=>i≤l.length) (fun i=>[(4,vi i),(3,.bsl 0 l.length),(0,.sl (Iy l) .no)]) (fun i=>⟨[Qm Fq [vb false,vi 0] l i],[]⟩) (fun i=>l.length-i) ?_ 0 (Nat.zero_le _)
  ⟨rfl,by rw [← hlen];rfl,rfl,trivial⟩ (congrArg (fun b=>St.mk [b] []) (L3 Fq [vb false,vi 0] l).symm)
 intro i hi IH
 refine AK.ei (fun h=>?_) (fun h=>?_)
 ·have hlt:i<l.length:=by have:=of_decide_eq_true h;rw [hlen] at this;omega
  obtain ⟨x,hx⟩:=Aa l hlt
  have hr:=L1 Fq [vb false,vi 0] hlt
  refine AK.ix i (by omega) (As (f:=Fq) hx) ?_
  refine AK.pc (Aoi x) ?_
  refine AK.atB i hlt hr ?_
  refine AK.stB hr ?_
  refine IH (i+1) hlt (by omega) _ _ ⟨vsx (by omega),rfl,rfl,trivial⟩ ?_ rfl rfl
  exact congrArg (fun b=>St.mk [b] []) (L4 Fq [vb false,vi 0] hx)
 ·have:i=l.length:=by have:=of_decide_eq_false h;rw [hlen] at this;omega
  subst this
  refine AK.rbs Tryz.func126 (b:=0) ?_ hlen hl
  show some (Qm Fq [vb false,vi 0] l l.length)=_
  rw [L0];rfl
theorem Av5 (l:List (List (Bool × Int)))(hl:l.length≤1000000000)(h1:∀ x,x∈l→x.length≤1000000000):Pure X 77 [.sl (Ha l) .no] (.sl (Ha l) .no):=by
 have hlen:(Ha l).length=l.length:=by simp [Ha]
 refine Pure.run Tryz.func77 ?_
 refine AK.op (Ndo.mkS (n:=(Ha l).length) (b:=0) (by rw [hlen];exact hl) rfl rfl rfl rfl rfl rfl rfl rfl rfl rfl) ?_
 refine AK.while_ (ι:=Nat) 1 0 (fun i=>i≤l.length) (fun i=>[(4,vi i),(3,.bsl 0 l.length),(0,.sl (Ha l) .no)]) (fun i=>⟨[Qm Lr [.sl [] .tight] l i],[]⟩) (fun i=>l.length-i) ?_ 0 (Nat.zero_le _)
  ⟨rfl,by rw [← hlen];rfl,rfl,trivial⟩ (congrArg (fun b=>St.mk [b] []) (L3 Lr [.sl [] .tight] l).symm)
 intro i hi IH
 refine AK.ei (fun h=>?_) (fun h=>?_)
 ·have hlt:i<l.length:=by have:=of_decide_eq_true h;rw [hlen] at this;omega
  obtain ⟨x,hx⟩:=Aa l hlt
  have hr:=L1 Lr [.sl [] .tight] hlt
  refine AK.ix i (by omega) (As (f:=Lr) hx) ?_
  refine AK.pc (Axw x (h1 x (List.mem_of_getElem? hx))) ?_
  refine AK.atB i hlt hr ?_
  refine AK.stB hr ?_
  refine IH (i+1) hlt (by omega) _ _ ⟨vsx (by omega),rfl,rfl,trivial⟩ ?_ rfl rfl
  exact congrArg (fun b=>St.mk [b] []) (L4 Lr [.sl [] .tight] hx)
 ·have:i=l.length:=by have:=of_decide_eq_false h;rw [hlen] at this;omega
  subst this
  refine AK.rbs Tryz.func77 (b:=0) ?_ hlen hl
  show some (Qm Lr [.sl [] .tight] l l.length)=_
  rw [L0];rfl
theorem Aog (c:Bool × Int):Pure X 169 [.agg (Fq c),.agg (Fq c)] (vb true):=by
 refine Pure.run Tryz.func169 ?_
 refine AK.no ?_ (ht:=by simp)
 refine AK.no ?_ (ht:=by simp)
 exact AK.rz Tryz.func169 rfl
theorem Axq (l:List (Bool × Int))(hl:l.length≤1000000000)  : Pure X 110 [.sl (Iy l) .no,.sl (Iy l) .no] (vb true):=by
 have hlen:(Iy l).length=l.length:=by simp [Iy]
 refine Pure.run Tryz.func110 ?_
 refine AK.no ?_ (ht:=by simp)
 refine AK.while_ (ι:=Nat) 0 0 (fun i=>i≤l.length) (fun i=>[(5,vi i),(0,.sl (Iy l) .no),(1,.sl (Iy l) .no)]) (fun i=>⟨[],[]⟩) (fun i=>l.length-i) ?_ 0 (Nat.zero_le _)
  ⟨rfl,rfl,rfl,trivial⟩
 intro i hi IH
 refine AK.ei (fun h=>?_) (fun h=>?_)
 ·have hlt:i<l.length:=by have:=of_decide_eq_true h;rw [hlen] at this;omega
  obtain ⟨x,hx⟩:=Aa l hlt
  refine AK.db 0 ?_
  refine Drv.ig i (by omega) (As (f:=Fq) hx) ?_
  refine Drv.ig i (by omega) (As (f:=Fq) hx) ?_
  refine Ax (Aog x) ?_
  refine Drv.z ?_
  refine AK.no ?_ (ht:=by simp)
  exact IH (i+1) hlt (by omega) _ _ ⟨vsx (by omega),rfl,rfl,trivial⟩ rfl rfl rfl
 ·exact AK.rz Tryz.func110 rfl
theorem Avv (l:List (List (Bool × Int)))(hl:l.length≤1000000000)(h1:∀ x,x∈l→x.length≤1000000000):Pure X 64 [.sl (Ha l) .no,.sl (Ha l) .no] (vb true):=by
 have hlen:(Ha l).length=l.length:=by simp [Ha]
 refine Pure.run Tryz.func64 ?_
 refine AK.no ?_ (ht:=by simp)
 refine AK.while_ (ι:=Nat) 0 0 (fun i=>i≤l.length) (fun i=>[(5,vi i),(0,.sl (Ha l) .no),(1,.sl (Ha l) .no)]) (fun i=>⟨[],[]⟩) (fun i=>l.length-i) ?_ 0 (Nat.zero_le _)
  ⟨rfl,rfl,rfl,trivial⟩
 intro i hi IH
 refine AK.ei (fun h=>?_) (fun h=>?_)
 ·have hlt:i<l.length:=by have:=of_decide_eq_true h;rw [hlen] at this;omega
  obtain ⟨x,hx⟩:=Aa l hlt
  refine AK.db 0 ?_
  refine Drv.ig i (by omega) (As (f:=Lr) hx) ?_
  refine Drv.ig i (by omega) (As (f:=Lr) hx) ?_
  refine Ax (Axq x (h1 x (List.mem_of_getElem? hx))) ?_
  refine Drv.z ?_
  refine AK.no ?_ (ht:=by simp)
  exact IH (i+1) hlt (by omega) _ _ ⟨vsx (by omega),rfl,rfl,trivial⟩ rfl rfl rfl
 ·exact AK.rz Tryz.func64 rfl
theorem Axt (rows:List (List AV)) [h:OKR 0 0 rows](left:Int)(h0:0≤left)(h1:left≤1048576)(hl:rows.length≤9223372036854775807):Pure X 119 [.sl rows .no,vi left] (vi (Ef rows.length left)):=by
 have hw:IntKind.i64.wrap (left-rows.length)=left-rows.length:=Ac (by omega) (by omega)
 have e0:Ef rows.length left=if left-rows.length<0 then -1 else left-rows.length:=by unfold Ef;split<;>split<;>omega
 rw [e0,← hw]
 refine Pure.run Tryz.func119 ?_
 refine AK.if_ (fun g=>?_) (fun g=>?_)
 ·refine AK.rz Tryz.func119 ?_
  rw [if_pos (of_decide_eq_true g)]
 ·refine AK.rz Tryz.func119 ?_
  rw [if_neg (of_decide_eq_false g)]
def swC:List (List (Bool × Int))→Nat
 | []=>0
 | x::l=>x.length+swC l
theorem Av0 (l:List (List (Bool × Int)))(left:Int)(h0:0≤left)(h1:left≤1048576)(hl:l.length≤9223372036854775807)(hx:∀ x,x∈l→x.length≤9223372036854775807) :
 Pure X 73 [.sl (Ha l) .no,vi left] (vi (Ef (l.length+swC l) left)):=by
 have hlen:(Ha l).length=l.length:=by simp [Ha]
 have hw:IntKind.i64.wrap (left-(Ha l).length)=left-l.length:=by rw [hlen];exact Ac (by omega) (by omega)
 refine Pure.run Tryz.func73 ?_
 refine AK.if_ (fun g=>?_) (fun g=>?_)
 ·have g':=of_decide_eq_true g
  rw [hw] at g'
  refine AK.rz Tryz.func73 ?_
  rw [Js (by omega)]
 have g':=of_decide_eq_false g
 rw [hw] at g'
 have e0:Ef (l.length+swC l) left=Ef (swC l) (IntKind.i64.wrap (left-(Ha l).length)):=by rw [hw,Hh (by omega)]
 rw [e0]
 have hb:0≤IntKind.i64.wrap (left-(Ha l).length)∧IntKind.i64.wrap (left-(Ha l).length)≤1048576:=by rw [hw];omega
 generalize IntKind.i64.wrap (left-(Ha l).length)=lf0 at hb
 refine AK.while_ (ι:=Nat × Int) 0 0 (fun i=>i.1≤l.length∧0≤i.2∧i.2≤1048576∧Ef (swC l) lf0=Ef (swC (l.drop i.1)) i.2) (fun i=>[(5,vi i.1),(1,vi i.2),(0,.sl (Ha l) .no)]) (fun _=>⟨[],[]⟩) (fun i=>l.length-i.1) ?_ (0,lf0) ⟨Nat.zero_le _,hb.1,hb.2,rfl⟩
  ⟨rfl,rfl,rfl,trivial⟩
 rintro ⟨i,lf⟩ ⟨hi,hp0,hp1,hT⟩ IH
 simp only at hi hp0 hp1 hT IH ⊢
 refine AK.ei (fun h=>?_) (fun h=>?_)
 ·have hlt:i<l.length:=by have:=of_decide_eq_true h;rw [hlen] at this;omega
  obtain ⟨x,hx1⟩:=Aa l hlt
  rw [An hx1] at hT
  simp only [swC] at hT
  have hs:=Axt (Iy x) lf hp0 hp1 (by rw [V4];exact hx x (List.mem_of_getElem? hx1))
  rw [V4] at hs
  refine AK.ix i (by omega) (As (f:=Lr) hx1) ?_
  refine AK.pc hs ?_
  refine AK.if_ (fun g2=>?_) (fun g2=>?_)
  ·have g2':=Hi hp0 (of_decide_eq_true g2)
   refine AK.rz Tryz.func73 ?_
   rw [hT,Js g2'.2]
  ·have g2':=I7 (show 0≤Ef x.length lf by have:=of_decide_eq_false g2;omega)
   refine IH (i+1,Ef x.length lf) ⟨hlt,?_,?_,?_⟩ (by simp only;omega) _ _ ⟨A3 ((Ac (by omega) (by omega)).trans (by simp)),rfl,rfl,trivial⟩ rfl rfl rfl
   ·show 0≤Ef x.length lf;omega
   ·show Ef x.length lf≤_;omega
   ·rw [hT,Hh g2'.2,g2'.1]
 ·have:i=l.length:=by have:=of_decide_eq_false h;rw [hlen] at this;omega
  subst this
  rw [List.drop_length] at hT
  refine AK.rz Tryz.func73 ?_
  rw [hT]
  unfold Ef swC
  rw [if_pos (by simpa using hp0)];simp
def D3 (c:Bool × Int):Bool:=Lt c.2&&(c.1||(c.2==0))
def P7 (x:List (Bool × Int))(s:Int):Bool:=decide (x.length≤60)&&((!decide (s≥0)||((x.length:Int)==s))&&x.all D3)
def Jf:List (List (Bool × Int))→List Int→Bool
 | x::l,s::ss=>P7 x s&&Jf l ss
 | _,_=>true
def Kd (es:List Eg)(c:Cf):Bool :=
 if c.trap=0 then (c.edge==0)&&(c.acc==0) else Aj c.edge 0 ((es.length:Int)-1)&&(((es.map Eg.f).getD c.edge.toNat (-1)==c.pt)&&Aj c.acc 0 500)
def Wy (pts nv na:Nat)(ss:List Int)(es:List Eg)(c:Cf):Bool :=
 Aj c.pt 0 ((pts:Int)-1)&&((c.vars.length==nv)&&((c.cells.length==na)&&(Aj c.used 0 100&&(Aj c.steps 0 5000&&(Aj c.trap 0 5&&(c.vars.all Lt&&(Jf c.cells ss&&Kd es c)))))))
theorem Anl (c:Bool × Int):Pure X 129 [.agg (Fq c)] (vb (D3 c)):=by
 obtain ⟨w,m⟩:=c
 refine Pure.run Tryz.func129 ?_
 cases w with
 | true =>
   refine AK.gy ?_
   refine AK.pc (Wh m) ?_
   refine AK.gd (fun g=>?_) (fun g=>?_)
   ·have g':Lt m=true:=g
    refine AK.rz Tryz.func129 ?_
    simp [D3,g']
   ·have g':Lt m=false:=g
    refine AK.gn ?_
    refine AK.rz Tryz.func129 ?_
    simp [D3,g']
 | false =>
   refine AK.gn ?_
   refine AK.gn ?_
   refine AK.gy ?_
   refine AK.rz Tryz.func129 ?_
   by_cases h:m=0
   ·subst h;rfl
   ·simp [D3,h]
def Hw {α:Type}(p:α→Bool):Nat→List α→Int
 | _,[]=>-1
 | i,x::l=>if p x then i else Hw p (i+1) l
theorem M9 {α:Type}(p:α→Bool):∀ (l:List α)(i:Nat),decide (Hw p i l≥0)=l.any p
 | [],i=>by simp [Hw]
 | x::l,i=>by
   have hb:(x::l).any p=(p x||l.any p):=rfl
   rw [hb,← M9 p l (i+1)]
   by_cases h:p x=true
   ·simp [Hw,h]
   ·have h':p x=false:=by simpa using h
    have:Hw p i (x::l)=Hw p (i+1) l:=by simp only [Hw];rw [if_neg h]
    rw [this,h'];rfl
theorem Axj (c:Bool × Int):Pure X 128 [.agg (Fq c)] (vb (!D3 c)):=by
 refine Pure.run Tryz.func128 ?_
 refine AK.pc (Anl c) ?_
 exact AK.rz Tryz.func128 rfl
theorem Axk (x:Int):Pure X 131 [vi x] (vb (!Lt x)):=by
 refine Pure.run Tryz.func131 ?_
 refine AK.pc (Wh x) ?_
 exact AK.rz Tryz.func131 rfl
theorem Au8 (l:List (Bool × Int))(hl:l.length≤1000000000)  : Pure X 184 [.sl (Iy l) .no,.fn 128 []] (vi (Hw (fun x=>!D3 x) 0 l)):=by
 have hlen:(Iy l).length=l.length:=by simp [Iy]
 refine Pure.run Tryz.func184 ?_
 refine AK.while_ (ι:=Nat) 0 0 (fun i=>i≤l.length∧Hw (fun x=>!D3 x) 0 l=Hw (fun x=>!D3 x) i (l.drop i)) (fun i=>[(8,vi i),(7,vi l.length),(0,.sl (Iy l) .no),(1,.fn 128 [])]) (fun _=>⟨[],[]⟩) (fun i=>l.length-i) ?_ 0 ⟨Nat.zero_le _,rfl⟩
  ⟨rfl,by rw [← hlen];rfl,rfl,rfl,trivial⟩
 intro i hi IH
 refine AK.ei (fun h=>?_) (fun h=>?_)
 ·have hlt:i<l.length:=by have:=of_decide_eq_true h;omega
  obtain ⟨x,hx⟩:=Aa l hlt
  have hd:Hw (fun x=>!D3 x) i (l.drop i)=if ((fun x=>!D3 x)) x then (i:Int) else Hw (fun x=>!D3 x) (i+1) (l.drop (i+1)):=by rw [An hx];rfl
  refine AK.ix i (by omega) (As (f:=Fq) hx) ?_
  refine AK.pc (Axj x) ?_
  refine AK.if_ (fun h2=>?_) (fun h2=>?_)
  ·refine AK.rt Tryz.func184 ?_
   have h3:((fun x=>!D3 x)) x=true:=h2
   rw [hi.2,hd,h3];rfl
  ·have h3:((fun x=>!D3 x)) x=false:=h2
   exact IH (i+1) ⟨hlt,by rw [hi.2,hd,h3];rfl⟩ (by omega) _ _ ⟨vsx (by omega),rfl,rfl,rfl,trivial⟩ rfl rfl rfl
 ·have:i=l.length:=by have:=of_decide_eq_false h;omega
  refine AK.rt Tryz.func184 ?_
  rw [hi.2,this,List.drop_length];rfl
theorem Aq6 (l:List (Int))(hl:l.length≤1000000000)  : Pure X 185 [.sl (Dl l) .no,.fn 131 []] (vi (Hw (fun x=>!Lt x) 0 l)):=by
 have hlen:(Dl l).length=l.length:=by simp [Dl]
 refine Pure.run Tryz.func185 ?_
 refine AK.while_ (ι:=Nat) 0 0 (fun i=>i≤l.length∧Hw (fun x=>!Lt x) 0 l=Hw (fun x=>!Lt x) i (l.drop i)) (fun i=>[(8,vi i),(7,vi l.length),(0,.sl (Dl l) .no),(1,.fn 131 [])]) (fun _=>⟨[],[]⟩) (fun i=>l.length-i) ?_ 0 ⟨Nat.zero_le _,rfl⟩
  ⟨rfl,by rw [← hlen];rfl,rfl,rfl,trivial⟩
 intro i hi IH
 refine AK.ei (fun h=>?_) (fun h=>?_)
 ·have hlt:i<l.length:=by have:=of_decide_eq_true h;omega
  obtain ⟨x,hx⟩:=Aa l hlt
  have hd:Hw (fun x=>!Lt x) i (l.drop i)=if ((fun x=>!Lt x)) x then (i:Int) else Hw (fun x=>!Lt x) (i+1) (l.drop (i+1)):=by rw [An hx];rfl
  refine AK.ix i (by omega) (As (f:=Hv) hx) ?_
  refine AK.pc (Axk x) ?_
  refine AK.if_ (fun h2=>?_) (fun h2=>?_)
  ·refine AK.rt Tryz.func185 ?_
   have h3:((fun x=>!Lt x)) x=true:=h2
   rw [hi.2,hd,h3];rfl
  ·have h3:((fun x=>!Lt x)) x=false:=h2
   exact IH (i+1) ⟨hlt,by rw [hi.2,hd,h3];rfl⟩ (by omega) _ _ ⟨vsx (by omega),rfl,rfl,rfl,trivial⟩ rfl rfl rfl
 ·have:i=l.length:=by have:=of_decide_eq_false h;omega
  refine AK.rt Tryz.func185 ?_
  rw [hi.2,this,List.drop_length];rfl
theorem Au9 (l:List (Int))(hl:l.length≤1000000000)(v:Int):Pure X 186 [.sl (Dl l) .no,vi v] (vi (Hw (fun x=>v==x) 0 l)):=by
 have hlen:(Dl l).length=l.length:=by simp [Dl]
 refine Pure.run Tryz.func186 ?_
 refine AK.while_ (ι:=Nat) 0 0 (fun i=>i≤l.length∧Hw (fun x=>v==x) 0 l=Hw (fun x=>v==x) i (l.drop i)) (fun i=>[(8,vi i),(7,vi l.length),(0,.sl (Dl l) .no),(1,vi v)]) (fun _=>⟨[],[]⟩) (fun i=>l.length-i) ?_ 0 ⟨Nat.zero_le _,rfl⟩
  ⟨rfl,by rw [← hlen];rfl,rfl,rfl,trivial⟩
 intro i hi IH
 refine AK.ei (fun h=>?_) (fun h=>?_)
 ·have hlt:i<l.length:=by have:=of_decide_eq_true h;omega
  obtain ⟨x,hx⟩:=Aa l hlt
  have hd:Hw (fun x=>v==x) i (l.drop i)=if ((fun x=>v==x)) x then (i:Int) else Hw (fun x=>v==x) (i+1) (l.drop (i+1)):=by rw [An hx];rfl
  refine AK.ix i (by omega) (As (f:=Hv) hx) ?_
  skip
  refine AK.if_ (fun h2=>?_) (fun h2=>?_)
  ·refine AK.rt Tryz.func186 ?_
   have h3:((fun x=>v==x)) x=true:=h2
   rw [hi.2,hd,h3];rfl
  ·have h3:((fun x=>v==x)) x=false:=h2
   exact IH (i+1) ⟨hlt,by rw [hi.2,hd,h3];rfl⟩ (by omega) _ _ ⟨vsx (by omega),rfl,rfl,rfl,trivial⟩ rfl rfl rfl
 ·have:i=l.length:=by have:=of_decide_eq_false h;omega
  refine AK.rt Tryz.func186 ?_
  rw [hi.2,this,List.drop_length];rfl
theorem Ano (l:List (Bool × Int))(hl:l.length≤1000000000):Pure X 127 [.sl (Iy l) .no,.fn 128 []] (vb (!(l.all D3))):=by
 have e:(!(l.all D3))=l.any fun x=>!D3 x:=List.not_all_eq_any_not
 rw [e]
 refine Pure.run Tryz.func127 ?_
 refine AK.pc (Au8 l hl) ?_
 refine AK.rt Tryz.func127 ?_
 rw [← M9 _ l 0];rfl
theorem Aq1 (l:List Int)(hl:l.length≤1000000000):Pure X 130 [.sl (Dl l) .no,.fn 131 []] (vb (!(l.all Lt))):=by
 have e:(!(l.all Lt))=l.any fun x=>!Lt x:=List.not_all_eq_any_not
 rw [e]
 refine Pure.run Tryz.func130 ?_
 refine AK.pc (Aq6 l hl) ?_
 refine AK.rt Tryz.func130 ?_
 rw [← M9 _ l 0];rfl
theorem Au6 (l:List Int)(hl:l.length≤1000000000)(v:Int):Pure X 133 [.sl (Dl l) .no,vi v] (vb (l.any fun x=>v==x)):=by
 refine Pure.run Tryz.func133 ?_
 refine AK.pc (Au9 l hl v) ?_
 refine AK.rt Tryz.func133 ?_
 rw [← M9 _ l 0];rfl
theorem Ap6 (es:List Eg)(p:Nat)(v:Int):∀ k:Nat,((Rc Eg.f p k es).any fun x=>v==(x:Int))=(decide ((k:Int)≤v)&&(decide (v<(k:Int)+es.length)&&((es.map Eg.f).getD (v-k).toNat (-1)==p))):=by
 induction es with
 | nil=>intro k;simp [Rc]
 | cons e es ih =>
   intro k
   have hrec:=ih (k+1)
   by_cases hv:v=k
   ·subst hv
    have h0:((es.map Eg.f))=es.map Eg.f:=rfl
    simp only [Rc]
    by_cases he:e.f=p
    ·simp [he];omega
    ·rw [if_neg he,hrec]
     have a:decide (((k+1:Nat):Int)≤(k:Int))=false:=by simp;omega
     rw [a];simp [he]
   ·have hne:(v==(k:Int))=false:=by simpa using hv
    have hg:((e::es).map Eg.f).getD (v-k).toNat (-1)=if v<k then e.f else (es.map Eg.f).getD (v-(k+1:Nat)).toNat (-1):=by
     by_cases hlt:v<k
     ·rw [if_pos hlt,show (v-(k:Int)).toNat=0 by omega];rfl
     ·rw [if_neg hlt,show (v-(k:Int)).toNat=(v-((k+1:Nat):Int)).toNat+1 by omega];rfl
    have hstep:((Rc Eg.f p k (e::es)).any fun x=>v==(x:Int))=((Rc Eg.f p (k+1) es).any fun x=>v==(x:Int)):=by
     simp only [Rc]
     split
     ·simp [hne]
     ·rfl
    rw [hstep,hrec,hg]
    by_cases hlt:v<k
    ·have a:decide ((k:Int)≤v)=false:=by simpa using hlt
     have b:decide (((k+1:Nat):Int)≤v)=false:=by simp;omega
     rw [a,b];rfl
    ·have a:decide ((k:Int)≤v)=true:=by simp;omega
     have b:decide (((k+1:Nat):Int)≤v)=true:=by simp;omega
     have c:decide (v<(k:Int)+((e::es).length:Nat))=decide (v<((k+1:Nat):Int)+(es.length:Nat)):=by
      simp only [List.length_cons]
      exact decide_eq_decide.2 (by omega)
     rw [a,b,if_neg hlt,c]
theorem Ap2 (l:List Nat):O8 l=Dl (l.map fun (i:Nat)=>(i:Int)):=by simp [O8,Dl]
theorem Amj (f:Eg→Int)(l:List Eg){pts j:Nat}(h:j<pts):(Pu f l pts)[j]?=some [.sl (O8 (Jn f l j)) .no]:=by simp [Pu,h]
theorem Auj (es:List Eg)(p:Nat)(v:Int):((Jn Eg.f es p).map fun (i:Nat)=>(i:Int)).any (fun x=>v==x)=(Aj v 0 ((es.length:Int)-1)&&((es.map Eg.f).getD v.toNat (-1)==p)):=by
 rw [List.any_map]
 have:=Ap6 es p v 0
 unfold Jn
 rw [show ((fun x=>v==x) ∘ fun (i:Nat)=>(i:Int))=fun (x:Nat)=>v==(x:Int) from rfl,this,← Bool.and_assoc]
 congr 1
 ·unfold Aj
  congr 1
  exact decide_eq_decide.2 (by omega)
 ·simp
abbrev Sv (n:Nd)(c:Cf):Bool:=Wy (Ee (A5 n)).pts (Aq n 31).length (Aq n 32).length (Db n) (I1 (A5 n)) c
structure CfOk (c:Cf):Prop where
 vars:c.vars.length≤1000000000
 cells:c.cells.length≤1000000000
 rows:∀ x,x∈c.cells→x.length≤1000000000
theorem Ya (n:Nd):(Db n).length=(Aq n 32).length:=by rw [Aa0,Db,List.length_map,List.length_map]
theorem Alt {n:Nd}(hr:Hq n=true):(Ee (A5 n)).pts≤2000000∧(I1 (A5 n)).length≤2000000:=by
 obtain ⟨fp,hc,hw,hne,hkl⟩:=Fi hr
 obtain ⟨ds,hpl,_,hps,hwl⟩:=Aam fp
 have hpw:=(Mf n).1
 have hps2:=Ki hps B8 ⟨1,0,[],[],[],0⟩ (by decide)
 have hl:=J1 6 B8 hps2.pt
 have hA:=hps2.trans hl (Nat.le_refl _)
 obtain ⟨es,e1,e2,e3⟩:=hA.es
 have hpp:=hA.pts
 simp only [bG] at e2 hpp
 have hes:(Ee (A5 n)).es=es:=by unfold Ee;rw [e1];rfl
 refine ⟨by show _≤_;unfold Ee;have:(1:Nat)=(⟨1,0,[],[],[],0⟩:Gr).pts:=rfl;omega,by unfold I1;rw [hes,List.length_map];omega⟩
theorem Au5 (n:Nd)(c:Cf)(hE:(I1 (A5 n)).length≤2000000)(h0:0≤c.pt)(h1:c.pt<(Ee (A5 n)).pts)(ht:¬ c.trap=0)(h6:Aj c.trap 1 5=true) :
 AK X ⟨78,Tryz.f78,0,0⟩ (Gl false 13 Tryz.f78) [(0,.cptr (Mg n)),(3,.ptr 0 0 0)] ⟨[[Jv c]],[]⟩ (fun e S=>e=.ret (vb (Kd (I1 (A5 n)) c))∧S=⟨[],[]⟩):=by
 obtain ⟨j,hj⟩:=Int.eq_ofNat_of_zero_le h0
 have hl:=Td Eg.f j (I1 (A5 n)) 0
 have hc:=Au6 ((Jn Eg.f (I1 (A5 n)) j).map fun (i:Nat)=>(i:Int)) (by rw [List.length_map];unfold Jn;omega) c.edge
 rw [← Ap2,Auj,← hj] at hc
 have hg:(Pu Eg.f (I1 (A5 n)) (Ee (A5 n)).pts)[c.pt.toNat]?=some [.sl (O8 (Jn Eg.f (I1 (A5 n)) j)) .no]:=by rw [hj];exact Amj Eg.f _ (by omega)
 have e0:Kd (I1 (A5 n)) c=((Aj c.edge 0 (((I1 (A5 n)).length:Int)-1)&&((((I1 (A5 n))).map Eg.f).getD c.edge.toNat (-1)==c.pt))&&Aj c.acc 0 500):=by unfold Kd;rw [if_neg ht,Bool.and_assoc]
 rw [e0]
 refine AK.at_ ?_
 refine AK.dn 0 2 ?_
 refine Drv.pc (Dq c.trap 1 5) ?_
 rw [h6]
 refine Drv.t true ?_
 refine Drv.go ?_
 refine Cs (fun S'=>Ndo.index rfl rfl rfl rfl rfl rfl rfl rfl rfl h0 hg) ?_
 refine Drv.go ?_
 refine Drv.pc hc ?_
 refine Bm 1 ?_
 cases hb:(Aj c.edge 0 (((I1 (A5 n)).length:Int)-1)&&((((I1 (A5 n))).map Eg.f).getD c.edge.toNat (-1)==c.pt)) with
 | false =>
   refine Drv.t false ?_
   refine Drv.go ?_
   refine Drv.z ?_
   exact AK.rz Tryz.func78 rfl
 | true =>
   refine Drv.t true ?_
   refine Drv.go ?_
   refine Ax (Dq c.acc 0 500) ?_
   refine Drv.z ?_
   exact AK.rz Tryz.func78 rfl
set_option maxHeartbeats 2000000 in
theorem Axi (n:Nd)(c:Cf)(hc:CfOk c)(hE:(I1 (A5 n)).length≤2000000)(h0:0≤c.pt)(h1:c.pt<(Ee (A5 n)).pts) :
 AK X ⟨78,Tryz.f78,0,0⟩ (Gl false 9 Tryz.f78) [(0,.cptr (Mg n)),(3,.ptr 0 0 0)] ⟨[[Jv c]],[]⟩
  (fun e S=>e=.ret (vb (Aj c.used 0 100&&(Aj c.steps 0 5000&&(Aj c.trap 0 5&&(c.vars.all Lt&&Kd (I1 (A5 n)) c)))))∧S=⟨[],[]⟩):=by
 refine AK.at_ ?_
 refine AK.ev 100 rfl ?_
 refine AK.pc (Aq1 c.vars hc.vars) ?_
 cases hv:c.vars.all Lt with
 | false =>
   refine AK.gy ?_
   refine AK.gy ?_
   refine AK.yes ?_
   refine AK.rz Tryz.func78 ?_
   simp
 | true =>
   refine AK.gn ?_
   refine AK.pc (Dq c.used 0 100) ?_
   cases hu:Aj c.used 0 100 with
   | false =>
     refine AK.gy ?_
     refine AK.yes ?_
     refine AK.rz Tryz.func78 ?_
     simp
   | true =>
     refine AK.gn ?_
     refine AK.pc (Dq c.steps 0 5000) ?_
     cases hs:Aj c.steps 0 5000 with
     | false =>
       refine AK.yes ?_
       refine AK.rz Tryz.func78 ?_
       simp
     | true =>
       refine AK.no ?_
       refine AK.ifj 0 13 (fun ht=>?_) (fun ht=>?_)
       ·have ht':c.trap=0:=by simpa using (show (c.trap==0)=true from ht)
        have e0:Kd (I1 (A5 n)) c=((c.edge==0)&&(c.acc==0)):=by unfold Kd;rw [if_pos ht']
        have e1:Aj c.trap 0 5=true:=by rw [ht'];rfl
        rw [e0,e1]
        refine AK.ev 100 rfl ?_
        refine AK.gd (fun g=>?_) (fun g=>?_)
        ·have g':(c.edge==0)=true:=g
         refine AK.rz Tryz.func78 ?_
         rw [g'];simp
        ·have g':(c.edge==0)=false:=g
         refine AK.rz Tryz.func78 ?_
         rw [g'];rfl
       ·have ht':¬ c.trap=0:=by simpa using (show (c.trap==0)=false from ht)
        cases h6:Aj c.trap 1 5 with
        | true =>
          have e1:Aj c.trap 0 5=true:=by rw [Av] at h6 ⊢;omega
          rw [e1]
          have:=Au5 n c hE h0 h1 ht' h6
          simp only [Bool.true_and]
          exact AK.back' 1 0 this ⟨rfl,rfl,trivial⟩ rfl rfl rfl rfl rfl
        | false =>
          have e1:Aj c.trap 0 5=false:=by
           cases h7:Aj c.trap 0 5 with
           | false=>rfl
           | true =>
             rw [Av] at h7
             rw [Av.2 (by omega)] at h6;cases h6
          rw [e1]
          refine AK.dn 0 2 ?_
          refine Drv.pc (Dq c.trap 1 5) ?_
          rw [h6]
          refine Drv.t false ?_
          refine Bm 12 ?_
          refine Drv.t false ?_
          refine Drv.go ?_
          refine Drv.z ?_
          exact AK.rz Tryz.func78 rfl
theorem X6 {l:List (List (Bool × Int))}{ss:List Int}{i:Nat}{x:List (Bool × Int)}{s:Int}(hx:l[i]?=some x)(hs:ss[i]?=some s):Jf (l.drop i) (ss.drop i)=(P7 x s&&Jf (l.drop (i+1)) (ss.drop (i+1))):=by rw [An hx,An hs];rfl
theorem Anp (n:Nd)(hr:Hq n=true)(c:Cf)(hc:CfOk c):Pure X 78 [.cptr (Mg n),cf c] (vb (Sv n c)):=by
 obtain ⟨hP,hE⟩:=Alt hr
 obtain ⟨fp,_,hw,hne,hkl⟩:=Fi hr
 have hd1:=Gz n 31
 have hd2:=Gz n 32
 have hsz:=Ya n
 have l1:((Dl c.vars).length:Int)=c.vars.length:=by rw [Ck]
 have l2:((Ha c.cells).length:Int)=c.cells.length:=by rw [M4]
 have l3:((Ci (Aq n 31)).length:Int)=(Aq n 31).length:=by rw [B7]
 have l4:((Ci (Aq n 32)).length:Int)=(Aq n 32).length:=by rw [B7]
 show Pure X _ _ (vb (Wy _ _ _ _ _ _))
 unfold Wy
 refine Pure.run Tryz.func78 ?_
 refine AK.dn 0 7 ?_
 refine Drv.pc (Zu c.pt (Ee (A5 n)).pts (by omega) (by omega)) ?_
 refine Bm 1 ?_
 cases h1:Aj c.pt 0 (((Ee (A5 n)).pts:Int)-1) with
 | false =>
   refine Drv.t true ?_
   refine Bm 10 ?_
   refine Drv.t true ?_
   refine Drv.go ?_
   refine Drv.z ?_
   refine AK.yes ?_
   exact AK.rz Tryz.func78 rfl
 | true =>
   have h1':=Av.1 h1
   refine Drv.t false ?_
   refine Bm 10 ?_
   cases h2:(c.vars.length==(Aq n 31).length) with
   | false =>
     have h2':¬ c.vars.length=(Aq n 31).length:=by simpa using h2
     refine Drv.t true ?_ (hb:=by rw [l1,l3];simp;omega)
     refine Drv.go ?_
     refine Drv.z ?_
     refine AK.yes ?_
     exact AK.rz Tryz.func78 rfl
   | true =>
     have h2':c.vars.length=(Aq n 31).length:=by simpa using h2
     refine Drv.t false ?_ (hb:=by rw [l1,l3];simp;omega)
     refine Drv.go ?_
     refine Drv.z ?_
     cases h3:(c.cells.length==(Aq n 32).length) with
     | false =>
       have h3':¬ c.cells.length=(Aq n 32).length:=by simpa using h3
       refine AK.yes ?_ (ht:=by rw [l2,l4];simp;omega)
       exact AK.rz Tryz.func78 rfl
     | true =>
       have h3':c.cells.length=(Aq n 32).length:=by simpa using h3
       refine AK.no ?_ (ht:=by rw [l2,l4];simp;omega)
       have L9:=Axi n c hc hE h1'.1 (by omega)
       simp only [Bool.true_and]
       generalize hG:(Aj c.used 0 100&&(Aj c.steps 0 5000&&(Aj c.trap 0 5&&(c.vars.all Lt&&Kd (I1 (A5 n)) c))))=G at L9
       have hG2:(Aj c.used 0 100&&(Aj c.steps 0 5000&&(Aj c.trap 0 5&&(c.vars.all Lt&&(Jf c.cells (Db n)&&Kd (I1 (A5 n)) c)))))=(Jf c.cells (Db n)&&G):=by
        rw [← hG]
        cases Jf c.cells (Db n)<;>simp
       rw [hG2]
       refine AK.while_ (ι:=Nat) 1 0 (fun i=>i≤c.cells.length∧Jf c.cells (Db n)=Jf (c.cells.drop i) ((Db n).drop i)) (fun i=>[(41,vi i),(40,vi c.cells.length),(39,.sl (Ha c.cells) .no),(0,.cptr (Mg n)),(3,.ptr 0 0 0)])
        (fun _=>⟨[[Jv c]],[]⟩) (fun i=>c.cells.length-i) ?_ 0 ⟨Nat.zero_le _,rfl⟩ ⟨rfl,by rw [← l2];rfl,rfl,rfl,rfl,trivial⟩
       rintro i ⟨hi,hT⟩ IH
       refine AK.ev 100 rfl ?_
       refine AK.ifj 0 9 (fun h=>?_) (fun h=>?_)
       ·have hlt:i<c.cells.length:=by have:=of_decide_eq_true h;omega
        obtain ⟨x,hx⟩:=Aa c.cells hlt
        obtain ⟨s,hs⟩:=Aa (Db n) (i:=i) (by omega)
        rw [X6 hx hs] at hT
        have hxl:=hc.rows x (List.mem_of_getElem? hx)
        have l5:((Iy x).length:Int)=x.length:=by rw [V4]
        have bad:P7 x s=false→(Jf c.cells (Db n)&&G)=false:=fun hb=>by rw [hT,hb];rfl
        refine AK.ix i (by omega) (As (f:=Lr) hx) ?_
        refine AK.ix i (by omega) (Cu hs) ?_
        refine AK.gd (fun g=>?_) (fun g=>?_)
        ·have g':=of_decide_eq_true g
         refine AK.ix i (by omega) (Cu hs) ?_
         refine AK.gd (fun g2=>?_) (fun g2=>?_)
         ·have g2':¬ (x.length:Int)=s:=by rw [l5] at g2;simpa using g2
          refine AK.gy ?_
          refine AK.yes ?_
          refine AK.rz Tryz.func78 ?_
          rw [bad (by simp [P7,g2'];omega)]
         ·have g2':(x.length:Int)=s:=by rw [l5] at g2;simpa using g2
          have SZ:(!decide (s≥0)||((x.length:Int)==s))=true:=by simp [g2']
          refine AK.gd (fun g3=>?_) (fun g3=>?_)
          ·have g3':¬ x.length≤60:=by have:=of_decide_eq_true g3;rw [l5] at this;omega
           refine AK.yes ?_
           refine AK.rz Tryz.func78 ?_
           rw [bad (by simp [P7,g3'])]
          ·have g3':x.length≤60:=by have:=of_decide_eq_false g3;rw [l5] at this;omega
           refine AK.pc (Ano x hxl) ?_
           refine AK.if_ (fun g4=>?_) (fun g4=>?_)
           ·have g4':x.all D3=false:=by simpa using (show (!x.all D3)=true from g4)
            refine AK.rz Tryz.func78 ?_
            rw [bad (by unfold P7;rw [g4'];simp)]
           ·have g4':x.all D3=true:=by simpa using (show (!x.all D3)=false from g4)
            have hrow:P7 x s=true:=by unfold P7;rw [g4',SZ];simp [g3']
            refine IH (i+1) ⟨hlt,by rw [hT,hrow];rfl⟩ (by omega) _ _ ⟨vsx (by omega),rfl,rfl,rfl,rfl,trivial⟩ rfl rfl rfl
        ·have g':=of_decide_eq_false g
         have SZ:(!decide (s≥0)||((x.length:Int)==s))=true:=by rw [decide_eq_false (show ¬ s≥0 by omega)];rfl
         refine AK.gn ?_
         refine AK.gd (fun g3=>?_) (fun g3=>?_)
         ·have g3':¬ x.length≤60:=by have:=of_decide_eq_true g3;rw [l5] at this;omega
          refine AK.yes ?_
          refine AK.rz Tryz.func78 ?_
          rw [bad (by simp [P7,g3'])]
         ·have g3':x.length≤60:=by have:=of_decide_eq_false g3;rw [l5] at this;omega
          refine AK.pc (Ano x hxl) ?_
          refine AK.if_ (fun g4=>?_) (fun g4=>?_)
          ·have g4':x.all D3=false:=by simpa using (show (!x.all D3)=true from g4)
           refine AK.rz Tryz.func78 ?_
           rw [bad (by unfold P7;rw [g4'];simp)]
          ·have g4':x.all D3=true:=by simpa using (show (!x.all D3)=false from g4)
           have hrow:P7 x s=true:=by unfold P7;rw [g4',SZ];simp [g3']
           refine IH (i+1) ⟨hlt,by rw [hT,hrow];rfl⟩ (by omega) _ _ ⟨vsx (by omega),rfl,rfl,rfl,rfl,trivial⟩ rfl rfl rfl
       ·have hie:i=c.cells.length:=by have:=of_decide_eq_false h;omega
        have hr1:Jf c.cells (Db n)=true:=by rw [hT,hie,List.drop_length];rfl
        rw [hr1,Bool.true_and]
        exact AK.back' 1 0 L9 ⟨rfl,rfl,trivial⟩ rfl rfl rfl rfl rfl
abbrev Fsp (n:Nd):B3:=[(2,.ptr 0 0 0),(3,.ptr 1 0 0)]
abbrev Ssp (n:Nd)(c:Cf):St:=⟨[[Rn n],[Jv c]],[]⟩
theorem Aux (n:Nd)(c:Cf)(hE:(I1 (A5 n)).length≤2000000)(ht:¬ c.trap=0) :
 AK X ⟨120,Tryz.f120,0,0⟩ (Gl false 21 Tryz.f120) (Fsp n) (Ssp n c) (fun e S=>e=.ret (vb (Kd (I1 (A5 n)) c))∧S=⟨[],[]⟩):=by
 have l1:((C7 (I1 (A5 n))).length:Int)=(I1 (A5 n)).length:=by rw [Hc]
 have hw:IntKind.i64.wrap ((C7 (I1 (A5 n))).length-1)=(I1 (A5 n)).length-1:=by rw [l1];exact Ac (by omega) (by omega)
 have hb:=Cr c.edge 0 (IntKind.i64.wrap ((C7 (I1 (A5 n))).length-1))
 rw [hw] at hb
 have e0:Kd (I1 (A5 n)) c=((Aj c.edge 0 (((I1 (A5 n)).length:Int)-1)&&((((I1 (A5 n))).map Eg.f).getD c.edge.toNat (-1)==c.pt))&&Aj c.acc 0 500):=by unfold Kd;rw [if_neg ht,Bool.and_assoc]
 rw [e0]
 refine AK.at_ ?_
 refine AK.dn 0 7 ?_
 refine Drv.pc (Cr c.edge 0 (IntKind.i64.wrap ((C7 (I1 (A5 n))).length-1))) ?_
 rw [hw]
 cases h1:Aj c.edge 0 (((I1 (A5 n)).length:Int)-1) with
 | false =>
   refine Drv.t false ?_
   refine Bm 12 ?_
   refine Drv.t false ?_
   refine Drv.go ?_
   refine Drv.z ?_
   exact AK.rz Tryz.func120 rfl
 | true =>
   have h1':=Av.1 h1
   obtain ⟨e,he⟩:=Aa (I1 (A5 n)) (i:=c.edge.toNat) (by omega)
   have hg:((I1 (A5 n)).map Eg.f).getD c.edge.toNat (-1)=e.f:=by simp [List.getD,he]
   rw [hg]
   refine Drv.t true ?_
   refine Drv.go ?_
   refine Cs (fun S'=>Ndo.index rfl rfl rfl rfl rfl rfl rfl rfl rfl h1'.1 (Qo he)) ?_
   refine Bm 6 ?_
   cases h2:(e.f==c.pt) with
   | false =>
     refine Drv.t false ?_
     refine Drv.go ?_
     refine Drv.z ?_
     exact AK.rz Tryz.func120 rfl
   | true =>
     refine Drv.t true ?_
     refine Drv.go ?_
     refine Ax (Cr c.acc 0 500) ?_
     refine Drv.z ?_
     exact AK.rz Tryz.func120 rfl
theorem Auw (n:Nd)(c:Cf)(hE:(I1 (A5 n)).length≤2000000) :
 AK X ⟨120,Tryz.f120,0,0⟩ (Gl false 19 Tryz.f120) (Fsp n) (Ssp n c) (fun e S=>e=.ret (vb (Kd (I1 (A5 n)) c))∧S=⟨[],[]⟩):=by
 refine AK.at_ ?_
 refine AK.ev 100 rfl ?_
 refine AK.ifj 0 21 (fun ht=>?_) (fun ht=>?_)
 ·have ht':c.trap=0:=by simpa using (show (c.trap==0)=true from ht)
  have e0:Kd (I1 (A5 n)) c=((c.edge==0)&&(c.acc==0)):=by unfold Kd;rw [if_pos ht']
  rw [e0]
  refine AK.ev 100 rfl ?_
  refine AK.gd (fun g=>?_) (fun g=>?_)
  ·have g':(c.edge==0)=true:=g
   refine AK.rz Tryz.func120 ?_
   rw [g'];rfl
  ·have g':(c.edge==0)=false:=g
   refine AK.rz Tryz.func120 ?_
   rw [g'];rfl
 ·have ht':¬ c.trap=0:=by simpa using (show (c.trap==0)=false from ht)
  exact AK.back' 2 0 (Aux n c hE ht') ⟨rfl,rfl,trivial⟩ rfl rfl rfl rfl rfl
theorem Aiq (l:List (Bool × Int)){i:Nat}{x:Bool × Int}(h:l[i]?=some x):(l.drop i).all D3=(D3 x&&(l.drop (i+1)).all D3):=by rw [An h];rfl
theorem Axa (n:Nd)(c:Cf)(hc:CfOk c)(hE:(I1 (A5 n)).length≤2000000)(hss:(Db n).length=c.cells.length) :
 AK X ⟨120,Tryz.f120,0,0⟩ (Gl false 8 Tryz.f120) (Fsp n) (Ssp n c) (fun e S=>e=.ret (vb (Jf c.cells (Db n)&&Kd (I1 (A5 n)) c))∧S=⟨[],[]⟩):=by
 have L19:=Auw n c hE
 have hcc:=hc.cells
 generalize Kd (I1 (A5 n)) c=G at L19 ⊢
 refine AK.at_ ?_
 refine AK.ev 100 rfl ?_
 refine AK.while_ (ι:=Nat) 2 0 (fun i=>i≤c.cells.length∧Jf c.cells (Db n)=Jf (c.cells.drop i) ((Db n).drop i)) (fun i=>[(6,vi i),(2,.ptr 0 0 0),(3,.ptr 1 0 0)])
  (fun _=>Ssp n c) (fun i=>c.cells.length-i) ?_ 0 ⟨Nat.zero_le _,rfl⟩ ⟨rfl,rfl,rfl,trivial⟩
 rintro i ⟨hi,hT⟩ IH
 refine AK.ev 100 rfl ?_
 refine AK.ifj 0 19 (fun h=>?_) (fun h=>?_)
 ·have hlt:i<c.cells.length:=by have:=of_decide_eq_true h;rw [M4] at this;omega
  obtain ⟨x,hx⟩:=Aa c.cells hlt
  obtain ⟨s,hs⟩:=Aa (Db n) (i:=i) (by omega)
  rw [X6 hx hs] at hT
  have hxl:=hc.rows x (List.mem_of_getElem? hx)
  have l5:((Iy x).length:Int)=x.length:=by rw [V4]
  have bad:P7 x s=false→(Jf c.cells (Db n)&&G)=false:=fun hb=>by rw [hT,hb];rfl
  have inner:x.length≤60→(!decide (s≥0)||((x.length:Int)==s))=true→AK X ⟨120,Tryz.f120,0,0⟩ (Gl false 13 Tryz.f120) [(6,vi i),(2,.ptr 0 0 0),(3,.ptr 1 0 0)] (Ssp n c) (fun e S=>e=.ret (vb (Jf c.cells (Db n)&&G))∧S=⟨[],[]⟩):=fun k1 k2=>by
   have hrow:P7 x s=x.all D3:=by unfold P7;rw [k2,decide_eq_true k1];rfl
   refine AK.at_ ?_
   refine AK.ev 100 rfl ?_
   refine AK.while_ (ι:=Nat) 2 0 (fun j=>j≤x.length∧x.all D3=(x.drop j).all D3) (fun j=>[(7,vi j),(6,vi i),(2,.ptr 0 0 0),(3,.ptr 1 0 0)])
    (fun _=>Ssp n c) (fun j=>x.length-j) ?_ 0 ⟨Nat.zero_le _,rfl⟩ ⟨rfl,rfl,rfl,rfl,trivial⟩
   rintro j ⟨hj,hU⟩ JH
   refine AK.ev 100 rfl ?_
   refine AK.ix i (by omega) (As (f:=Lr) hx) ?_
   refine AK.if_ (fun g=>?_) (fun g=>?_)
   ·have hjl:j<x.length:=by have:=of_decide_eq_true g;rw [l5] at this;omega
    obtain ⟨y,hy⟩:=Aa x hjl
    rw [Aiq x hy] at hU
    obtain ⟨w,m⟩:=y
    have bad2:D3 (w,m)=false→(Jf c.cells (Db n)&&G)=false:=fun hb=>bad (by rw [hrow,hU,hb];rfl)
    refine AK.ix i (by omega) (As (f:=Lr) hx) ?_
    refine AK.ix j (by omega) (As (f:=Fq) hy) ?_
    refine AK.pc (Xs m) ?_
    cases hm:Lt m with
    | false =>
      refine AK.gy ?_
      refine AK.yes ?_
      refine AK.rz Tryz.func120 ?_
      rw [bad2 (by unfold D3;rw [hm];rfl)]
    | true =>
      refine AK.gn ?_
      cases w with
      | true =>
        refine AK.gn ?_
        refine AK.no ?_
        exact JH (j+1) ⟨hjl,by rw [hU];simp [D3,hm]⟩ (by omega) _ _ ⟨vsx (by omega),rfl,rfl,rfl,trivial⟩ rfl rfl rfl
      | false =>
        refine AK.gy ?_
        refine AK.if_ (fun g4=>?_) (fun g4=>?_)
        ·have g4':¬ m=0:=by simpa using (show (m != 0)=true from g4)
         refine AK.rz Tryz.func120 ?_
         rw [bad2 (by simp [D3,g4'])]
        ·have g4':m=0:=by simpa using (show (m != 0)=false from g4)
         have h1:D3 (false,m)=true:=by unfold D3;rw [hm,g4'];rfl
         exact JH (j+1) ⟨hjl,by rw [hU,h1];rfl⟩ (by omega) _ _ ⟨vsx (by omega),rfl,rfl,rfl,trivial⟩ rfl rfl rfl
   ·have hje:j=x.length:=by have:=of_decide_eq_false g;rw [l5] at this;omega
    have hxa:x.all D3=true:=by rw [hU,hje,List.drop_length];rfl
    exact IH (i+1) ⟨hlt,by rw [hT,hrow,hxa];rfl⟩ (by omega) _ _ ⟨vsx (by omega),rfl,rfl,trivial⟩ rfl rfl rfl
  refine AK.dn 0 3 ?_
  refine Cs (fun S'=>Ndo.index rfl rfl rfl rfl rfl rfl rfl rfl rfl (by omega) (As (f:=Lr) hx)) ?_
  refine Bm 3 ?_
  by_cases k1:x.length≤60
  ·refine Drv.t false ?_ (hb:=decide_eq_false (by rw [l5];omega))
   refine Drv.go ?_
   refine Cs (fun S'=>Ndo.index rfl rfl rfl rfl rfl rfl rfl rfl rfl (by omega) (Cu hs)) ?_
   refine Bm 2 ?_
   by_cases k2:s≥0
   ·refine Drv.t true ?_ (hb:=decide_eq_true k2)
    refine Drv.go ?_
    refine Cs (fun S'=>Ndo.index rfl rfl rfl rfl rfl rfl rfl rfl rfl (by omega) (As (f:=Lr) hx)) ?_
    refine Drv.go ?_
    refine Cs (fun S'=>Ndo.index rfl rfl rfl rfl rfl rfl rfl rfl rfl (by omega) (Cu hs)) ?_
    refine Drv.go ?_
    refine Drv.z ?_
    refine AK.ifj 0 13 (fun g=>?_) (fun g=>?_)
    ·have g':¬ (x.length:Int)=s:=by rw [l5] at g;simpa using g
     refine AK.ev 100 rfl ?_
     refine AK.rz Tryz.func120 ?_
     rw [bad (by simp [P7,g'];omega)]
    ·have g':(x.length:Int)=s:=by rw [l5] at g;simpa using g
     exact AK.back' 2 0 (inner k1 (by rw [beq_iff_eq.2 g',Bool.or_true])) ⟨rfl,rfl,rfl,trivial⟩ rfl rfl rfl rfl rfl
   ·refine Drv.t false ?_ (hb:=decide_eq_false k2)
    refine Drv.go ?_
    refine Drv.z ?_
    refine AK.ifj (e:=false) 0 13 (fun g=>nomatch g) (fun g=>?_)
    exact AK.back' 2 0 (inner k1 (by rw [decide_eq_false k2];rfl)) ⟨rfl,rfl,rfl,trivial⟩ rfl rfl rfl rfl rfl
  ·refine Drv.t true ?_ (hb:=decide_eq_true (by rw [l5];omega))
   refine Drv.go ?_
   refine Drv.z ?_
   refine AK.yes ?_
   refine AK.rz Tryz.func120 ?_
   rw [bad (by simp [P7,k1])]
 ·have hie:i=c.cells.length:=by have:=of_decide_eq_false h;rw [M4] at this;omega
  have hr1:Jf c.cells (Db n)=true:=by rw [hT,hie,List.drop_length];rfl
  rw [hr1,Bool.true_and]
  exact AK.back' 2 0 L19 ⟨rfl,rfl,trivial⟩ rfl rfl rfl rfl rfl
theorem Amz (n:Nd)(hr:Hq n=true)(c:Cf)(hc:CfOk c):Pure X 120 [.agg (Rn n),cf c] (vb (Sv n c)):=by
 obtain ⟨hP,hE⟩:=Alt hr
 obtain ⟨fp,_,hw,hne,hkl⟩:=Fi hr
 have hd1:=Gz n 31
 have hd2:=Gz n 32
 have hsz:=Ya n
 have hcv:=hc.vars
 have l1:((Dl c.vars).length:Int)=c.vars.length:=by rw [Ck]
 have l2:((Ha c.cells).length:Int)=c.cells.length:=by rw [M4]
 have l3:((Ci (Aq n 31)).length:Int)=(Aq n 31).length:=by rw [B7]
 have l4:((Ci (Aq n 32)).length:Int)=(Aq n 32).length:=by rw [B7]
 have hwp:IntKind.i64.wrap ((Ee (A5 n)).pts-1)=(Ee (A5 n)).pts-1:=Ac (by omega) (by omega)
 have hT:Sv n c=Wy (Ee (A5 n)).pts (Aq n 31).length (Aq n 32).length (Db n) (I1 (A5 n)) c:=rfl
 unfold Wy at hT
 refine Pure.run Tryz.func120 ?_
 refine AK.pc (Cr c.pt 0 (IntKind.i64.wrap ((Ee (A5 n)).pts-1))) ?_
 rw [hwp]
 cases h1:Aj c.pt 0 (((Ee (A5 n)).pts:Int)-1) with
 | false =>
   rw [h1] at hT
   refine AK.gy ?_
   refine AK.gy ?_
   refine AK.gy ?_
   refine AK.gy ?_
   refine AK.gy ?_
   refine AK.yes ?_
   refine AK.rz Tryz.func120 ?_
   rw [hT];simp
 | true =>
   rw [h1] at hT
   refine AK.gn ?_
   cases h2:(c.vars.length==(Aq n 31).length) with
   | false =>
     have h2':¬ c.vars.length=(Aq n 31).length:=by simpa using h2
     rw [h2] at hT
     refine AK.gy ?_ (ht:=by rw [l1,l3];simp;omega)
     refine AK.gy ?_
     refine AK.gy ?_
     refine AK.gy ?_
     refine AK.yes ?_
     refine AK.rz Tryz.func120 ?_
     rw [hT];simp
   | true =>
     have h2':c.vars.length=(Aq n 31).length:=by simpa using h2
     rw [h2] at hT
     refine AK.gn ?_ (ht:=by rw [l1,l3];simp;omega)
     cases h3:(c.cells.length==(Aq n 32).length) with
     | false =>
       have h3':¬ c.cells.length=(Aq n 32).length:=by simpa using h3
       rw [h3] at hT
       refine AK.gy ?_ (ht:=by rw [l2,l4];simp;omega)
       refine AK.gy ?_
       refine AK.gy ?_
       refine AK.yes ?_
       refine AK.rz Tryz.func120 ?_
       rw [hT];simp
     | true =>
       have h3':c.cells.length=(Aq n 32).length:=by simpa using h3
       rw [h3] at hT
       refine AK.gn ?_ (ht:=by rw [l2,l4];simp;omega)
       refine AK.pc (Cr c.used 0 100) ?_
       cases h4:Aj c.used 0 100 with
       | false =>
         rw [h4] at hT
         refine AK.gy ?_
         refine AK.gy ?_
         refine AK.yes ?_
         refine AK.rz Tryz.func120 ?_
         rw [hT];simp
       | true =>
         rw [h4] at hT
         refine AK.gn ?_
         refine AK.pc (Cr c.steps 0 5000) ?_
         cases h5:Aj c.steps 0 5000 with
         | false =>
           rw [h5] at hT
           refine AK.gy ?_
           refine AK.yes ?_
           refine AK.rz Tryz.func120 ?_
           rw [hT];simp
         | true =>
           rw [h5] at hT
           refine AK.gn ?_
           refine AK.pc (Cr c.trap 0 5) ?_
           cases h6:Aj c.trap 0 5 with
           | false =>
             rw [h6] at hT
             refine AK.yes ?_
             refine AK.rz Tryz.func120 ?_
             rw [hT];simp
           | true =>
             rw [h6] at hT
             simp only [Bool.true_and] at hT
             rw [hT]
             refine AK.no ?_
             have L8:=Axa n c hc hE (by omega)
             refine AK.while_ (ι:=Nat) 2 0 (fun i=>i≤c.vars.length∧c.vars.all Lt=(c.vars.drop i).all Lt) (fun i=>[(5,vi i),(2,.ptr 0 0 0),(3,.ptr 1 0 0)]) (fun _=>Ssp n c) (fun i=>c.vars.length-i) ?_ 0 ⟨Nat.zero_le _,rfl⟩
              ⟨rfl,rfl,rfl,trivial⟩
             rintro i ⟨hi,hV⟩ IH
             refine AK.ev 100 rfl ?_
             refine AK.ifj 0 8 (fun h=>?_) (fun h=>?_)
             ·have hlt:i<c.vars.length:=by have:=of_decide_eq_true h;rw [Ck] at this;omega
              obtain ⟨x,hx⟩:=Aa c.vars hlt
              rw [An hx,List.all_cons] at hV
              refine AK.ix i (by omega) (Cu hx) ?_
              refine AK.pc (Xs x) ?_
              refine AK.if_ (fun g=>?_) (fun g=>?_)
              ·have g':Lt x=false:=by simpa using (show (!Lt x)=true from g)
               refine AK.rz Tryz.func120 ?_
               rw [hV,g'];rfl
              ·have g':Lt x=true:=by simpa using (show (!Lt x)=false from g)
               exact IH (i+1) ⟨hlt,by rw [hV,g'];rfl⟩ (by omega) _ _ ⟨vsx (by omega),rfl,rfl,trivial⟩ rfl rfl rfl
             ·have hie:i=c.vars.length:=by have:=of_decide_eq_false h;rw [Ck] at this;omega
              have hv1:c.vars.all Lt=true:=by rw [hV,hie,List.drop_length];rfl
              rw [hv1,Bool.true_and]
              exact AK.back' 2 0 L8 ⟨rfl,rfl,trivial⟩ rfl rfl rfl rfl rfl
def Aax (n:Nd)(c:Cf):Bool:=Hq n&&Sv n c
theorem Ajk (n:Nd)(hn:wN n≤100000000)(c:Cf)(hc:CfOk c):Pure X 74 [nd n,cf c] (vb (Aax n c)):=by
 refine Pure.run Tryz.func74 ?_
 refine AK.dn 0 1 ?_
 refine Drv.pc (Ahu n hn) ?_
 unfold Aax
 cases hr:Hq n with
 | false =>
   refine Drv.t false ?_
   refine Drv.go ?_
   refine Drv.z ?_
   exact AK.rz Tryz.func74 rfl
 | true =>
   refine Drv.t true ?_
   refine Drv.go ?_
   refine Ax (Afw n hr) ?_
   refine Ax (Amz n hr c hc) ?_
   refine Drv.z ?_
   exact AK.rz Tryz.func74 rfl
structure CfLn (c:Cf):Prop where
 vars:c.vars.length≤9223372036854775807
 cells:c.cells.length≤9223372036854775807
 rows:∀ x,x∈c.cells→x.length≤9223372036854775807
def Agj (c:Cf):Nat:=c.vars.length+(c.cells.length+swC c.cells)
theorem Avq {l:List (List (Bool × Int))}{x:List (Bool × Int)}(h:x∈l):x.length≤swC l:=by
 induction l with
 | nil=>cases h
 | cons y l ih =>
   simp only [swC]
   rcases List.mem_cons.1 h with rfl | h
   ·omega
   ·have:=ih h;omega
theorem Av1 (c:Cf)(h:CfLn c)(left:Int)(h0:0≤left)(h1:left≤1048576):Pure X 37 [cf c,vi left] (vi (Ef (Agj c) left)):=by
 have l1:(Dl c.vars).length=c.vars.length:=Ck _
 have hI:=As7 (Dl c.vars) left h0 h1 (by rw [l1];exact h.vars)
 rw [l1] at hI
 refine Pure.run Tryz.func37 ?_
 refine AK.pc hI ?_
 refine AK.if_ (fun g=>?_) (fun g=>?_)
 ·have g':=Hi h0 (of_decide_eq_true g)
  refine AK.rz Tryz.func37 ?_
  unfold Agj
  rw [Js g'.2]
 ·have g':=I7 (show 0≤Ef c.vars.length left by have:=of_decide_eq_false g;omega)
  have e0:Ef (Agj c) left=Ef (c.cells.length+swC c.cells) (Ef c.vars.length left):=by unfold Agj;rw [Hh g'.2,g'.1]
  rw [e0]
  have hb:0≤Ef c.vars.length left∧Ef c.vars.length left≤1048576:=by omega
  generalize Ef c.vars.length left=lf at hb ⊢
  refine AK.pc (Av0 c.cells lf hb.1 hb.2 h.cells h.rows) ?_
  refine AK.if_ (fun g2=>?_) (fun g2=>?_)
  ·have g2':=Hi hb.1 (of_decide_eq_true g2)
   refine AK.rz Tryz.func37 ?_
   rw [g2'.1]
  ·exact AK.rz Tryz.func37 rfl
theorem Agm (c:Cf)(hc:CfOk c):Pure X 39 [cf c] (cf c):=by
 refine Pure.run Tryz.func39 ?_
 refine AK.pc (As8 c.vars hc.vars) ?_
 refine AK.pc (Av5 c.cells hc.cells hc.rows) ?_
 exact AK.rz Tryz.func39 rfl
theorem Avw (c:Cf)(hc:CfOk c):Pure X 22 [cf c,cf c] (vb true):=by
 refine Pure.run Tryz.func22 ?_
 refine AK.no ?_ (ht:=by simp)
 refine AK.pc (As6 c.vars hc.vars) ?_
 refine AK.no ?_
 refine AK.pc (Avv c.cells hc.cells hc.rows) ?_
 refine AK.no ?_
 refine AK.no ?_ (ht:=by simp)
 refine AK.no ?_ (ht:=by simp)
 refine AK.no ?_ (ht:=by simp)
 refine AK.no ?_ (ht:=by simp)
 refine AK.no ?_ (ht:=by simp)
 exact AK.rz Tryz.func22 rfl
set_option maxRecDepth 100000
section
variable {H:Type}{enc:TypeId × Value→H}{w:World}{sp:Nat→Bool}{held:Bool}
theorem Ake (fuel:Nat)(cs:List Value)(x:DataW H × List MemPlace)(h:DataW.trod enc Tryz.prog w 0 sp held fuel 3 cs=some x):∃ n:Int,True∧RelL w cs (Hv n):=by
 obtain ⟨n,_,_,rfl⟩:=Lo Tryz.underlying3 h
 exact ⟨n,trivial,.one (.val _)⟩
theorem Akf (fuel:Nat)(cs:List Value)(x:DataW H × List MemPlace)(h:DataW.trod enc Tryz.prog w 0 sp held fuel 37 cs=some x):∃ l:List Int,l.length≤9223372036854775807∧RelL w cs [.sl (Dl l) .no]:=by
 obtain ⟨l,_,h1,h2⟩:=Gi Hv (fun _=>True) Tryz.underlying37 (show Tryz.prog.cellsOf 3=1 by kernel_rfl) (by decide) (fun y=>rfl) (fun n _ cs' x' hx'=>Ake n cs' x' hx') h
 exact ⟨l,h1,h2⟩
theorem Akd (fuel:Nat)(cs:List Value)(x:DataW H × List MemPlace)(h:DataW.trod enc Tryz.prog w 0 sp held fuel 238 cs=some x):∃ c:Bool × Int,True∧RelL w cs (Fq c):=by
 obtain ⟨xs,n1,rfl,_,hl,hxs,hf⟩:=DataW.trod_struct Tryz.underlying238 h
 have hl2:cs.length=2:=hl.trans (by kernel_rfl)
 have hx2:xs.length=2:=hxs
 obtain ⟨c0,c1,rfl⟩:∃ a b,cs=[a,b]:=by
  rcases cs with _ | ⟨a,_ | ⟨b,_ | ⟨c,l⟩⟩⟩<;>simp at hl2
  exact ⟨a,b,rfl⟩
 obtain ⟨x0,hx0⟩:=Aa xs (i:=0) (by omega)
 obtain ⟨x1,hx1⟩:=Aa xs (i:=1) (by omega)
 have c3e:Tryz.prog.cellsOf 3=1:=by kernel_rfl
 have c4e:Tryz.prog.cellsOf 4=1:=by kernel_rfl
 have f0:DataW.trod enc Tryz.prog w 0 sp held n1 4 (([c0,c1].drop 0).take (Tryz.prog.cellsOf 4))=some x0:=(hf 0 _ rfl).trans hx0
 have f1:DataW.trod enc Tryz.prog w 0 sp held n1 3 (([c0,c1].drop 1).take (Tryz.prog.cellsOf 3))=some x1:=(hf 1 _ rfl).trans hx1
 rw [c4e] at f0
 rw [c3e] at f1
 obtain ⟨b,e0,_⟩:=DataW.trod_bool Tryz.underlying4 f0
 obtain ⟨m,_,_,e1⟩:=Lo Tryz.underlying3 f1
 have e0':c0=.bool b:=(List.cons.inj e0).1
 have e1':c1=.int .i64 m:=(List.cons.inj e1).1
 subst e0';subst e1'
 exact ⟨(b,m),trivial,.cons (.val _) (.one (.val _))⟩
theorem Agn (fuel:Nat)(cs:List Value)(x:DataW H × List MemPlace)(h:DataW.trod enc Tryz.prog w 0 sp held fuel 178 cs=some x):∃ l:List (Bool × Int),l.length≤9223372036854775807∧RelL w cs (Lr l):=by
 obtain ⟨l,_,h1,h2⟩:=Gi Fq (fun _=>True) Tryz.underlying178 (show Tryz.prog.cellsOf 238=2 by kernel_rfl) (by decide) (fun y=>rfl) (fun n _ cs' x' hx'=>Akd n cs' x' hx') h
 exact ⟨l,h1,h2⟩
theorem Aeb (fuel:Nat)(cs:List Value)(x:DataW H × List MemPlace)(h:DataW.trod enc Tryz.prog w 0 sp held fuel 57 cs=some x):∃ l:List (List (Bool × Int)),(∀ y,y∈l→y.length≤9223372036854775807)∧l.length≤9223372036854775807∧RelL w cs [.sl (Ha l) .no] :=
 Gi Lr (fun y=>y.length≤9223372036854775807) Tryz.underlying57 (show Tryz.prog.cellsOf 178=1 by kernel_rfl) (by decide) (fun y=>rfl) (fun n _ cs' x' hx'=>Agn n cs' x' hx') h
theorem Asv {α:Type}{l:List α}(h:l.length=8):∃ a b c d e f g i,l=[a,b,c,d,e,f,g,i]:=by
 rcases l with _ | ⟨a,_ | ⟨b,_ | ⟨c,_ | ⟨d,_ | ⟨e,_ | ⟨f,_ | ⟨g,_ | ⟨i,_ | ⟨j,l⟩⟩⟩⟩⟩⟩⟩⟩⟩<;>simp at h
 exact ⟨a,b,c,d,e,f,g,i,rfl⟩
theorem Ar9 (fuel:Nat)(cs:List Value)(x:DataW H × List MemPlace)(h:DataW.trod enc Tryz.prog w 0 sp held fuel 59 cs=some x):∃ c:Cf,CfLn c∧RelL w cs (Jv c):=by
 obtain ⟨xs,n1,rfl,_,hl,hxs,hf⟩:=DataW.trod_struct Tryz.underlying59 h
 have hl8:cs.length=8:=hl.trans (by kernel_rfl)
 have hx8:xs.length=8:=hxs
 obtain ⟨c0,c1,c2,c3,c4,c5,c6,c7,rfl⟩:=Asv hl8
 obtain ⟨x0,x1,x2,x3,x4,x5,x6,x7,rfl⟩:=Asv hx8
 have c3e:Tryz.prog.cellsOf 3=1:=by kernel_rfl
 have cie:Tryz.prog.cellsOf 37=1:=by kernel_rfl
 have cse:Tryz.prog.cellsOf 57=1:=by kernel_rfl
 have f0:DataW.trod enc Tryz.prog w 0 sp held n1 3 (([c0,c1,c2,c3,c4,c5,c6,c7].drop 0).take (Tryz.prog.cellsOf 3))=some x0:=hf 0 _ rfl
 rw [c3e] at f0
 obtain ⟨m0,_,_,e0⟩:=Lo Tryz.underlying3 f0
 have e0':c0=.int .i64 m0:=(List.cons.inj e0).1
 have f3:DataW.trod enc Tryz.prog w 0 sp held n1 3 (([c0,c1,c2,c3,c4,c5,c6,c7].drop 3).take (Tryz.prog.cellsOf 3))=some x3:=hf 3 _ rfl
 rw [c3e] at f3
 obtain ⟨m3,_,_,e3⟩:=Lo Tryz.underlying3 f3
 have e3':c3=.int .i64 m3:=(List.cons.inj e3).1
 have f4:DataW.trod enc Tryz.prog w 0 sp held n1 3 (([c0,c1,c2,c3,c4,c5,c6,c7].drop 4).take (Tryz.prog.cellsOf 3))=some x4:=hf 4 _ rfl
 rw [c3e] at f4
 obtain ⟨m4,_,_,e4⟩:=Lo Tryz.underlying3 f4
 have e4':c4=.int .i64 m4:=(List.cons.inj e4).1
 have f5:DataW.trod enc Tryz.prog w 0 sp held n1 3 (([c0,c1,c2,c3,c4,c5,c6,c7].drop 5).take (Tryz.prog.cellsOf 3))=some x5:=hf 5 _ rfl
 rw [c3e] at f5
 obtain ⟨m5,_,_,e5⟩:=Lo Tryz.underlying3 f5
 have e5':c5=.int .i64 m5:=(List.cons.inj e5).1
 have f6:DataW.trod enc Tryz.prog w 0 sp held n1 3 (([c0,c1,c2,c3,c4,c5,c6,c7].drop 6).take (Tryz.prog.cellsOf 3))=some x6:=hf 6 _ rfl
 rw [c3e] at f6
 obtain ⟨m6,_,_,e6⟩:=Lo Tryz.underlying3 f6
 have e6':c6=.int .i64 m6:=(List.cons.inj e6).1
 have f7:DataW.trod enc Tryz.prog w 0 sp held n1 3 (([c0,c1,c2,c3,c4,c5,c6,c7].drop 7).take (Tryz.prog.cellsOf 3))=some x7:=hf 7 _ rfl
 rw [c3e] at f7
 obtain ⟨m7,_,_,e7⟩:=Lo Tryz.underlying3 f7
 have e7':c7=.int .i64 m7:=(List.cons.inj e7).1
 have f1:DataW.trod enc Tryz.prog w 0 sp held n1 37 (([c0,c1,c2,c3,c4,c5,c6,c7].drop 1).take (Tryz.prog.cellsOf 37))=some x1:=hf 1 _ rfl
 rw [cie] at f1
 obtain ⟨vs,v1,v2⟩:=Akf n1 _ _ f1
 have v2':RelL w [c1] [.sl (Dl vs) .no]:=v2
 have f2:DataW.trod enc Tryz.prog w 0 sp held n1 57 (([c0,c1,c2,c3,c4,c5,c6,c7].drop 2).take (Tryz.prog.cellsOf 57))=some x2:=hf 2 _ rfl
 rw [cse] at f2
 obtain ⟨ls,l1,l2,l3⟩:=Aeb n1 _ _ f2
 have l3':RelL w [c2] [.sl (Ha ls) .no]:=l3
 subst e0';subst e3';subst e4';subst e5';subst e6';subst e7'
 exact ⟨⟨m0,vs,ls,m3,m4,m5,m6,m7⟩,⟨v1,l2,l1⟩,.cons (.val _) (.cons v2'.get1 (.cons l3'.get1 (.cons (.val _) (.cons (.val _) (.cons (.val _) (.cons (.val _) (.one (.val _))))))))⟩
end
theorem Apf {H:Type}{enc:TypeId × Value→H}{W:World}{base:Nat}{v:Value}{d:DataW H}{ps:List MemPlace}(hv:Value.okWide Tryz.prog W .any base 59 v)(h:DataW.Trod enc Tryz.prog W 0 (fun _=>true) true 59 v d ps) :
 ∃ c:Cf,CfLn c∧Rel E0 W v (cf c):=by
 unfold Value.okWide at hv
 rw [Tryz.underlying59] at hv
 obtain ⟨cs,rfl,_⟩:=hv
 obtain ⟨fuel,h⟩:=h
 obtain ⟨c,h1,h3⟩:=Ar9 fuel _ _ h
 exact ⟨c,h1,h3.agg⟩
abbrev Apd:Value:=.agg #[.int .i64 0,.slice none 0 0,.slice none 0 0,.int .i64 0,.int .i64 0,.int .i64 0,.int .i64 0,.int .i64 0]
def Afd (lo hi x:Int):Bool:=Ic lo hi&&(decide (lo≤x)&&decide (x≤hi))
def Rz (v:Vl)(c:Bool × Int):Bool:=if c.1=true then Afd v.lo v.hi c.2 else Jc v&&(!v.m&&(c.2==0))
def E6 (vs:List Int)(i:Nat):Int:=vs.getD i 0
def Mk (vs:List Int)(n:Int):Bool:=((vs.length:Int)==n)&&(Aj n 1 13&&((E6 vs 0==0)&&vs.all Lt))
def okH (vs:List Int)(m k:Nat)(x:Int):Bool:=decide (E6 vs (k / m)-E6 vs (k % m)≤x)
def Yi (vs:List Int)(m:Nat):Nat→List Int→Bool
 | _,[]=>true
 | k,x::l=>okH vs m k x&&Yi vs m (k+1) l
def Rv (n:Int)(d vs:List Int):Bool:=Ma n d&&(Mk vs n&&Yi vs n.toNat 0 d)
theorem Acn {vs:List Int}{m k:Nat}{d:List Int}{x:Int}(h:d[k]?=some x):Yi vs m k (d.drop k)=(okH vs m k x&&Yi vs m (k+1) (d.drop (k+1))):=by rw [An h];rfl
theorem Dy {vs:List Int}{i:Nat}{x:Int}(h:vs[i]?=some x):E6 vs i=x:=by rw [E6,List.getD_eq_getElem?_getD,h];rfl
def Pz (vs:List Int)(s:Int × Int):Int:=E6 vs s.1.toNat+s.2
def Fj (vs:List Int)(x:List (Int × Int)):Int:=Pz vs (x.getD 0 (0,0))
def Nm (vs:List Int)(x:List (Int × Int)):Bool:=x.all fun s=>Pz vs s==Fj vs x
def Il (a b:Int)(m:Bool):Bool:=decide (a≤b)&&(!(a==b)||m)
def Iw (cs:List (Bool × Int))(v:Vl)(a b:Int):Bool:=((cs.take b.toNat).drop a.toNat).all (Rz v)
def G3 (at_:List Int)(ms:List Bool):Nat→List Vl→Bool
 | _,[]=>true
 | i,_::l=>Il (E6 at_ i) (E6 at_ (i+1)) (ms.getD i false)&&G3 at_ ms (i+1) l
def Rk (at_:List Int)(cs:List (Bool × Int)):Nat→List Vl→Bool
 | _,[]=>true
 | i,v::l=>Iw cs v (E6 at_ i) (E6 at_ (i+1))&&Rk at_ cs (i+1) l
def Y2 (at_:List Int)(ms:List Bool)(cs:List (Bool × Int)):Nat→List Vl→Bool
 | _,[]=>true
 | i,v::l=>Il (E6 at_ i) (E6 at_ (i+1)) (ms.getD i false)&&((decide (0≤E6 at_ i)&&decide (E6 at_ (i+1)≤cs.length))&&(Iw cs v (E6 at_ i) (E6 at_ (i+1))&&Y2 at_ ms cs (i+1) l))
def Ad6 (size len:Int)(g:Sg)(vs:List Int)(cs:List (Bool × Int)):Bool :=
 Lv size len g&&(Mk vs size&&(((cs.length:Int)==E6 vs len.toNat)&&(g.tm.all (Nm vs)&&(G3 (g.tm.map (Fj vs)) g.ms 0 g.vs&&Rk (g.tm.map (Fj vs)) cs 0 g.vs))))
theorem P1 {at_:List Int}{ms:List Bool}:∀ (l:List Vl)(i:Nat),G3 at_ ms i l=true→∀ j,i≤j→j≤i+l.length→E6 at_ i≤E6 at_ j∧E6 at_ j≤E6 at_ (i+l.length)
 | [],i,_,j,h1,h2=>by
   have:j=i:=by simp at h2;omega
   subst this;simp
 | v::l,i,h,j,h1,h2=>by
   simp only [G3,Bool.and_eq_true,Il,decide_eq_true_eq] at h
   have ih:=P1 (at_:=at_) (ms:=ms) l (i+1) h.2
   rw [List.length_cons] at h2 ⊢
   have e:i+(l.length+1)=i+1+l.length:=by omega
   rw [e]
   have h3:=ih (i+1) (Nat.le_refl _) (by omega)
   by_cases hj:j=i
   ·subst hj;exact ⟨Int.le_refl _,by have:=h.1.1;omega⟩
   ·have:=ih j (by omega) (by omega)
    exact ⟨by have:=h.1.1;omega,this.2⟩
theorem Adn {at_:List Int}{ms:List Bool}{i:Nat}{v:Vl}{l:List Vl}:G3 at_ ms i (v::l)=(Il (E6 at_ i) (E6 at_ (i+1)) (ms.getD i false)&&G3 at_ ms (i+1) l):=rfl
theorem Ww {at_:List Int}{ms:List Bool}{cs:List (Bool × Int)}{i:Nat}{v:Vl}{l:List Vl}:Y2 at_ ms cs i (v::l)=(Il (E6 at_ i) (E6 at_ (i+1)) (ms.getD i false)&&((decide (0≤E6 at_ i)&&decide (E6 at_ (i+1)≤cs.length))&&(Iw cs v (E6 at_ i) (E6 at_ (i+1))&&Y2 at_ ms cs (i+1) l))):=rfl
theorem Aeu {at_:List Int}{cs:List (Bool × Int)}{i:Nat}{v:Vl}{l:List Vl}:Rk at_ cs i (v::l)=(Iw cs v (E6 at_ i) (E6 at_ (i+1))&&Rk at_ cs (i+1) l):=rfl
theorem Acr {at_:List Int}{ms:List Bool}{cs:List (Bool × Int)}:∀ (l:List Vl)(i:Nat),0≤E6 at_ i→(G3 at_ ms i l=true→E6 at_ (i+l.length)≤cs.length)→Y2 at_ ms cs i l=(G3 at_ ms i l&&Rk at_ cs i l)
 | [],_,_,_=>rfl
 | v::l,i,h0,h1=>by
   have hm:=P1 (at_:=at_) (ms:=ms) (v::l) i
   rw [Ww,Aeu]
   rw [Adn] at h1 hm ⊢
   generalize hP:Il (E6 at_ i) (E6 at_ (i+1)) (ms.getD i false)=P at h1 hm ⊢
   cases P with
   | false=>simp
   | true =>
     simp only [Il,Bool.and_eq_true,decide_eq_true_eq] at hP
     have e:i+(v::l).length=i+1+l.length:=by rw [List.length_cons];omega
     rw [e] at h1 hm
     simp only [Bool.true_and] at h1 hm ⊢
     have ih:=Acr (at_:=at_) (ms:=ms) (cs:=cs) l (i+1) (by omega) h1
     rw [ih]
     cases hq:G3 at_ ms (i+1) l with
     | false=>simp
     | true =>
       have h2:=h1 hq
       have h3:=(hm hq (i+1) (by omega) (by omega)).2
       rw [decide_eq_true h0,decide_eq_true (show E6 at_ (i+1)≤(cs.length:Int) by omega)]
       rfl
theorem Afu (lo hi x:Int):Pure X 249 [.agg [vi lo,vi hi],vi x] (vb (Afd lo hi x)):=by
 refine Pure.run Tryz.func249 ?_
 refine AK.pc (Aht lo hi) ?_
 unfold Afd
 cases h:Ic lo hi with
 | false =>
   refine AK.gn ?_
   refine AK.gn ?_
   exact AK.rz Tryz.func249 rfl
 | true =>
   refine AK.gy ?_
   refine AK.gd (fun g=>?_) (fun g=>?_)
   ·have g':decide (lo≤x)=true:=g
    refine AK.rz Tryz.func249 ?_
    rw [g'];rfl
   ·have g':decide (lo≤x)=false:=g
    refine AK.rz Tryz.func249 ?_
    rw [g'];rfl
theorem Af3 (lo hi x:Int):Pure X 212 [.agg [vi lo,vi hi],vi x] (vb (Afd lo hi x)):=by
 refine Pure.run Tryz.func212 ?_
 refine AK.pc (Ah4 lo hi) ?_
 unfold Afd
 cases h:Ic lo hi with
 | false =>
   refine AK.gn ?_
   refine AK.gn ?_
   exact AK.rz Tryz.func212 rfl
 | true =>
   refine AK.gy ?_
   refine AK.gd (fun g=>?_) (fun g=>?_)
   ·have g':decide (lo≤x)=true:=g
    refine AK.rz Tryz.func212 ?_
    rw [g'];rfl
   ·have g':decide (lo≤x)=false:=g
    refine AK.rz Tryz.func212 ?_
    rw [g'];rfl
theorem Anb (v:Vl)(c:Bool × Int):Pure X 198 [.agg (D4 v),.agg (Fq c)] (vb (Rz v c)):=by
 obtain ⟨b,n⟩:=c
 refine Pure.run Tryz.func198 ?_
 refine AK.pc (Abt v) ?_
 unfold Rz
 cases h:Jc v with
 | false =>
   refine AK.yes ?_
   refine AK.rz Tryz.func198 ?_
   have:Afd v.lo v.hi n=false:=by unfold Afd;rw [show Ic v.lo v.hi=Jc v from rfl,h];rfl
   rw [this];cases b<;>rfl
 | true =>
   refine AK.no ?_
   cases b with
   | true =>
     refine AK.yes ?_
     refine AK.pc (Afu v.lo v.hi n) ?_
     exact AK.rz Tryz.func198 rfl
   | false =>
     refine AK.no ?_
     refine AK.gd (fun g=>?_) (fun g=>?_)
     ·have g':(!v.m)=true:=g
      refine AK.rz Tryz.func198 ?_
      rw [g'];rfl
     ·have g':(!v.m)=false:=g
      refine AK.rz Tryz.func198 ?_
      rw [g'];rfl
theorem An2 (v:Vl)(c:Bool × Int):Pure X 154 [.agg (D4 v),.agg (Fq c)] (vb (Rz v c)):=by
 obtain ⟨b,n⟩:=c
 refine Pure.run Tryz.func154 ?_
 unfold Rz
 cases b with
 | true =>
   refine AK.yes ?_
   refine AK.pc (Af3 v.lo v.hi n) ?_
   exact AK.rz Tryz.func154 rfl
 | false =>
   refine AK.no ?_
   refine AK.pc (Ab1 v) ?_
   cases h:Jc v with
   | false =>
     refine AK.gn ?_
     refine AK.gn ?_
     exact AK.rz Tryz.func154 rfl
   | true =>
     refine AK.gy ?_
     refine AK.gd (fun g=>?_) (fun g=>?_)
     ·have g':(!v.m)=true:=g
      refine AK.rz Tryz.func154 ?_
      rw [g'];rfl
     ·have g':(!v.m)=false:=g
      refine AK.rz Tryz.func154 ?_
      rw [g'];rfl
theorem Aq7 (l:List (Int))(hl:l.length≤1000000000)(f:FuncId)(p:Int→Bool)(hp:∀ x,x∈l→Pure X f [vi x] (vb (p x))):Pure X 185 [.sl (Dl l) .no,.fn f []] (vi (Hw p 0 l)):=by
 have hlen:(Dl l).length=l.length:=by simp [Dl]
 refine Pure.run Tryz.func185 ?_
 refine AK.while_ (ι:=Nat) 0 0 (fun i=>i≤l.length∧Hw p 0 l=Hw p i (l.drop i)) (fun i=>[(8,vi i),(7,vi l.length),(0,.sl (Dl l) .no),(1,.fn f [])]) (fun _=>⟨[],[]⟩) (fun i=>l.length-i) ?_ 0 ⟨Nat.zero_le _,rfl⟩
  ⟨rfl,by rw [← hlen];rfl,rfl,rfl,trivial⟩
 intro i hi IH
 refine AK.ei (fun h=>?_) (fun h=>?_)
 ·have hlt:i<l.length:=by have:=of_decide_eq_true h;omega
  obtain ⟨x,hx⟩:=Aa l hlt
  have hd:Hw p i (l.drop i)=if (p) x then (i:Int) else Hw p (i+1) (l.drop (i+1)):=by rw [An hx];rfl
  refine AK.ix i (by omega) (As (f:=Hv) hx) ?_
  refine AK.pc (hp x (List.mem_of_getElem? hx)) ?_
  refine AK.if_ (fun h2=>?_) (fun h2=>?_)
  ·refine AK.rt Tryz.func185 ?_
   have h3:(p) x=true:=h2
   rw [hi.2,hd,h3];rfl
  ·have h3:(p) x=false:=h2
   exact IH (i+1) ⟨hlt,by rw [hi.2,hd,h3];rfl⟩ (by omega) _ _ ⟨vsx (by omega),rfl,rfl,rfl,trivial⟩ rfl rfl rfl
 ·have:i=l.length:=by have:=of_decide_eq_false h;omega
  refine AK.rt Tryz.func185 ?_
  rw [hi.2,this,List.drop_length];rfl
theorem Aq5 (l:List (Bool × Int))(hl:l.length≤1000000000)(f:FuncId)(cs:List AV) [OKL 0 0 cs](p:Bool × Int→Bool)(hp:∀ x,x∈l→Pure X f [.agg (Fq x),.cptr cs] (vb (p x))):Pure X 184 [.sl (Iy l) .no,.fn f [.cptr cs]] (vi (Hw p 0 l)):=by
 have hlen:(Iy l).length=l.length:=by simp [Iy]
 refine Pure.run Tryz.func184 ?_
 refine AK.while_ (ι:=Nat) 0 0 (fun i=>i≤l.length∧Hw p 0 l=Hw p i (l.drop i)) (fun i=>[(8,vi i),(7,vi l.length),(0,.sl (Iy l) .no),(1,.fn f [.cptr cs])]) (fun _=>⟨[],[]⟩) (fun i=>l.length-i) ?_ 0 ⟨Nat.zero_le _,rfl⟩
  ⟨rfl,by rw [← hlen];rfl,rfl,rfl,trivial⟩
 intro i hi IH
 refine AK.ei (fun h=>?_) (fun h=>?_)
 ·have hlt:i<l.length:=by have:=of_decide_eq_true h;omega
  obtain ⟨x,hx⟩:=Aa l hlt
  have hd:Hw p i (l.drop i)=if (p) x then (i:Int) else Hw p (i+1) (l.drop (i+1)):=by rw [An hx];rfl
  refine AK.ix i (by omega) (As (f:=Fq) hx) ?_
  refine AK.pc (hp x (List.mem_of_getElem? hx)) ?_
  refine AK.if_ (fun h2=>?_) (fun h2=>?_)
  ·refine AK.rt Tryz.func184 ?_
   have h3:(p) x=true:=h2
   rw [hi.2,hd,h3];rfl
  ·have h3:(p) x=false:=h2
   exact IH (i+1) ⟨hlt,by rw [hi.2,hd,h3];rfl⟩ (by omega) _ _ ⟨vsx (by omega),rfl,rfl,rfl,trivial⟩ rfl rfl rfl
 ·have:i=l.length:=by have:=of_decide_eq_false h;omega
  refine AK.rt Tryz.func184 ?_
  rw [hi.2,this,List.drop_length];rfl
theorem Aq2 (l:List Int)(hl:l.length≤1000000000)(f:FuncId)(p:Int→Bool)(hp:∀ x,x∈l→Pure X f [vi x] (vb (p x))):Pure X 130 [.sl (Dl l) .no,.fn f []] (vb (l.any p)):=by
 refine Pure.run Tryz.func130 ?_
 refine AK.pc (Aq7 l hl f p hp) ?_
 refine AK.rt Tryz.func130 ?_
 rw [← M9 _ l 0];rfl
theorem Ahz (l:List (Bool × Int))(hl:l.length≤1000000000)(f:FuncId)(cs:List AV) [OKL 0 0 cs](p:Bool × Int→Bool)(hp:∀ x,x∈l→Pure X f [.agg (Fq x),.cptr cs] (vb (p x))):Pure X 127 [.sl (Iy l) .no,.fn f [.cptr cs]] (vb (l.any p)):=by
 refine Pure.run Tryz.func127 ?_
 refine AK.pc (Aq5 l hl f cs p hp) ?_
 refine AK.rt Tryz.func127 ?_
 rw [← M9 _ l 0];rfl
theorem Arf (x:Int):Pure X 203 [vi x] (vb (!Lt x)):=by
 refine Pure.run Tryz.func203 ?_
 refine AK.pc (Wh x) ?_
 exact AK.rz Tryz.func203 rfl
theorem Ad1 (vs:List Int)(hl:vs.length≤1000000000)(n:Int):Pure X 150 [.sl (Dl vs) .no,vi n] (vb (Mk vs n)):=by
 have hlen:((Dl vs).length:Int)=vs.length:=by rw [Ck]
 refine Pure.run Tryz.func150 ?_
 unfold Mk
 refine AK.gd (fun g=>?_) (fun g=>?_)
 ·have g':((vs.length:Int)==n)=true:=by rw [← hlen];exact g
  refine AK.pc (Dq n 1 13) ?_
  rw [g']
  cases h1:Aj n 1 13 with
  | false =>
    refine AK.gn ?_
    refine AK.gn ?_
    exact AK.rz Tryz.func150 rfl
  | true =>
    have h1':=Av.1 h1
    have g2:(vs.length:Int)=n:=by simpa using g'
    obtain ⟨x,hx⟩:=Aa vs (i:=0) (by omega)
    refine AK.gy ?_
    refine AK.ix 0 (by omega) (Cu hx) ?_
    rw [Dy hx]
    refine AK.gd (fun g3=>?_) (fun g3=>?_)
    ·have g3':(x==0)=true:=g3
     refine AK.pc (Aq2 vs hl _ _ fun x _=>Arf x) ?_
     refine AK.rz Tryz.func150 ?_
     rw [g3']
     show AV.val (.bool (!(vs.any fun x=>!Lt x)))=vb (vs.all Lt)
     rw [← List.not_all_eq_any_not,Bool.not_not]
    ·have g3':(x==0)=false:=g3
     refine AK.rz Tryz.func150 ?_
     rw [g3'];rfl
 ·have g':((vs.length:Int)==n)=false:=by rw [← hlen];exact g
  refine AK.gn ?_
  refine AK.gn ?_
  refine AK.rz Tryz.func150 ?_
  rw [g'];rfl
theorem Anc (vs:List Int)(n:Int)(h1:Aj n 1 13=true):Pure X 197 [vi n,.sl (Dl vs) .no] (vb (Mk vs n)):=by
 have hlen:((Dl vs).length:Int)=vs.length:=by rw [Ck]
 have h1':=Av.1 h1
 refine Pure.run Tryz.func197 ?_
 unfold Mk
 rw [h1]
 refine AK.gd (fun g=>?_) (fun g=>?_)
 ·have g':((vs.length:Int)==n)=false:=by
   have:(((Dl vs).length:Int) != n)=true:=g
   rw [hlen] at this;simpa using this
  refine AK.gy ?_
  refine AK.yes ?_
  refine AK.rz Tryz.func197 ?_
  rw [g'];rfl
 have g':((vs.length:Int)==n)=true:=by
  have:(((Dl vs).length:Int) != n)=false:=g
  rw [hlen] at this;simpa using this
 have g2:(vs.length:Int)=n:=by simpa using g'
 have hn:decide (n<1)=false:=decide_eq_false (by omega)
 obtain ⟨x,hx⟩:=Aa vs (i:=0) (by omega)
 rw [g',Dy hx]
 refine AK.gn ?_ (ht:=hn)
 refine AK.ix 0 (by omega) (Cu hx) ?_
 refine AK.if_ (fun g3=>?_) (fun g3=>?_)
 ·have g3':(x==0)=false:=by have:(x != 0)=true:=g3;simpa using this
  refine AK.rz Tryz.func197 ?_
  rw [g3'];rfl
 have g3':(x==0)=true:=by have:(x != 0)=false:=g3;simpa using this
 rw [g3']
 refine AK.while_ (ι:=Nat) 0 0 (fun i=>i≤vs.length∧vs.all Lt=(vs.drop i).all Lt) (fun i=>[(5,vi i),(0,vi n),(1,.sl (Dl vs) .no)]) (fun _=>⟨[],[]⟩) (fun i=>vs.length-i) ?_ 0 ⟨Nat.zero_le _,rfl⟩
  ⟨rfl,rfl,rfl,trivial⟩
 rintro i ⟨hi,hT⟩ IH
 refine AK.ei (fun h=>?_) (fun h=>?_)
 ·have hlt:i<vs.length:=by have:=of_decide_eq_true h;omega
  obtain ⟨y,hy⟩:=Aa vs hlt
  rw [An hy,List.all_cons] at hT
  refine AK.ix i (by omega) (Cu hy) ?_
  refine AK.pc (Xs y) ?_
  cases hb:Lt y with
  | false =>
    refine AK.yes ?_
    refine AK.rz Tryz.func197 ?_
    rw [hT,hb];rfl
  | true =>
    refine AK.no ?_
    exact IH (i+1) ⟨hlt,by rw [hT,hb];rfl⟩ (by omega) _ _ ⟨vsx (by omega),rfl,rfl,trivial⟩ rfl rfl rfl
 ·have hie:i=vs.length:=by have:=of_decide_eq_false h;omega
  refine AK.rz Tryz.func197 ?_
  rw [hT,hie,List.drop_length];rfl
theorem Qc {vs:List Int}{n:Int}(h:Mk vs n=true):(vs.length:Int)=n∧E6 vs 0=0∧∀ (i:Nat)(x:Int),vs[i]?=some x→-1000000≤x∧x≤1000000:=by
 simp only [Mk,Bool.and_eq_true,beq_iff_eq] at h
 refine ⟨h.1,h.2.2.1,fun i x hx=>?_⟩
 have:=List.all_eq_true.1 h.2.2.2 x (List.mem_of_getElem? hx)
 exact Av.1 this
theorem Af2 (n:Int)(d vs:List Int)(hl:vs.length≤1000000000):Pure X 91 [.agg (Iz n d),.sl (Dl vs) .no] (vb (Rv n d vs)):=by
 have hlen:((Dl d).length:Int)=d.length:=by rw [Ck]
 refine Pure.run Tryz.func91 ?_
 refine AK.pc (Ah1 n d) ?_
 unfold Rv
 cases hf:Ma n d with
 | false =>
   refine AK.gy ?_
   refine AK.yes ?_
   exact AK.rz Tryz.func91 rfl
 | true =>
   have hf':=hf
   simp only [Ma,Bool.and_eq_true,beq_iff_eq] at hf'
   have h1':=Av.1 hf'.1
   have hd:=hf'.2.1
   obtain ⟨m,rfl⟩:∃ m:Nat,n=m:=⟨n.toNat,by omega⟩
   have hmm:(m:Int)*m≤13*13:=Int.mul_le_mul h1'.2 h1'.2 (by omega) (by omega)
   have gn:d.length=m*m:=by have:((d.length:Nat):Int)=((m*m:Nat):Int):=by rw [hd];simp
                            omega
   refine AK.gn ?_
   refine AK.pc (Ad1 vs hl m) ?_
   cases hv:Mk vs m with
   | false =>
     refine AK.yes ?_
     exact AK.rz Tryz.func91 rfl
   | true =>
     have hvs:=Qc hv
     refine AK.no ?_
     rw [Int.toNat_natCast]
     refine AK.while_ (ι:=Nat) 1 0 (fun i=>i≤d.length∧Yi vs m 0 d=Yi vs m i (d.drop i)) (fun i=>[(20,vi i),(19,vi d.length),(18,.sl (Dl d) .no),(1,.sl (Dl vs) .no),(2,.ptr 0 0 0)]) (fun _=>⟨[[Iz m d]],[]⟩) (fun i=>d.length-i) ?_ 0 ⟨Nat.zero_le _,rfl⟩
      ⟨rfl,A3 hlen,rfl,rfl,rfl,trivial⟩
     rintro k ⟨hk,hT⟩ IH
     refine AK.ei (fun h=>?_) (fun h=>?_)
     ·have hlt:k<d.length:=by have:=of_decide_eq_true h;omega
      obtain ⟨x,hx⟩:=Aa d hlt
      rw [Acn hx] at hT
      have hq:O2 .quo .i64 (k:Int) (m:Int) true=some (.int .i64 ((k / m:Nat):Int)):=by
       have e1:decide ((m:Int)=0)=false:=decide_eq_false (by omega)
       have e2:(k:Int).tdiv m=((k / m:Nat):Int):=rfl
       have e3:k / m≤k:=Nat.div_le_self _ _
       simp only [O2,e1,e2]
       generalize k / m=z at e3 ⊢
       rw [Ac (by omega) (by omega)]
      have hr:O2 .rem .i64 (k:Int) (m:Int) true=some (.int .i64 ((k % m:Nat):Int)):=by
       have e1:decide ((m:Int)=0)=false:=decide_eq_false (by omega)
       have e2:(k:Int).tmod m=((k % m:Nat):Int):=rfl
       simp only [O2,e1,e2]
      have hkm:k / m<m:=Nat.div_lt_of_lt_mul (by omega)
      have hkr:k % m<m:=Nat.mod_lt _ (by omega)
      obtain ⟨y0,hy0⟩:=Aa vs (i:=k / m) (by omega)
      obtain ⟨y1,hy1⟩:=Aa vs (i:=k % m) (by omega)
      have v0:=hvs.2.2 _ _ hy0
      have v1:=hvs.2.2 _ _ hy1
      have hw:IntKind.i64.wrap (y0-y1)=y0-y1:=Ac (by omega) (by omega)
      have hok:okH vs m k x=!decide (IntKind.i64.wrap (y0-y1) > x):=by
       unfold okH
       rw [Dy hy0,Dy hy1,hw]
       by_cases h:y0-y1≤x
       ·rw [decide_eq_true h,decide_eq_false (by omega)];rfl
       ·rw [decide_eq_false h,decide_eq_true (by omega)];rfl
      refine AK.ix k (by omega) (Cu hx) ?_
      refine AK.db 0 ?_
      refine Cs (fun S'=>Qg hq) ?_
      refine Drv.ig ((k / m:Nat):Int) (Int.natCast_nonneg _) (Cu hy0) ?_
      refine Cs (fun S'=>Qg hr) ?_
      refine Drv.ig ((k % m:Nat):Int) (Int.natCast_nonneg _) (Cu hy1) ?_
      refine Drv.z ?_
      refine AK.if_ (fun g=>?_) (fun g=>?_)
      ·refine AK.rz Tryz.func91 ?_
       rw [hT,hok,g];rfl
      ·exact IH (k+1) ⟨hlt,by rw [hT,hok,g];rfl⟩ (by omega) _ _ ⟨vsx (by omega),rfl,rfl,rfl,rfl,trivial⟩ rfl rfl rfl
     ·have:k=d.length:=by have:=of_decide_eq_false h;omega
      subst this
      refine AK.rz Tryz.func91 ?_
      rw [hT,List.drop_length];rfl
theorem Afr (n:Int)(d vs:List Int):Pure X 142 [.agg (Iz n d),.sl (Dl vs) .no] (vb (Rv n d vs)):=by
 have hlen:((Dl d).length:Int)=d.length:=by rw [Ck]
 refine Pure.run Tryz.func142 ?_
 refine AK.pc (Aho n d) ?_
 unfold Rv
 cases hf:Ma n d with
 | false =>
   refine AK.gy ?_
   refine AK.yes ?_
   exact AK.rz Tryz.func142 rfl
 | true =>
   have hf':=hf
   simp only [Ma,Bool.and_eq_true,beq_iff_eq] at hf'
   have h1':=Av.1 hf'.1
   have hd:=hf'.2.1
   obtain ⟨m,rfl⟩:∃ m:Nat,n=m:=⟨n.toNat,by omega⟩
   have hmm:(m:Int)*m≤13*13:=Int.mul_le_mul h1'.2 h1'.2 (by omega) (by omega)
   have gn:d.length=m*m:=by have:((d.length:Nat):Int)=((m*m:Nat):Int):=by rw [hd];simp
                            omega
   refine AK.gn ?_
   refine AK.pc (Anc vs m hf'.1) ?_
   cases hv:Mk vs m with
   | false =>
     refine AK.yes ?_
     exact AK.rz Tryz.func142 rfl
   | true =>
     have hvs:=Qc hv
     refine AK.no ?_
     rw [Int.toNat_natCast]
     refine AK.while_ (ι:=Nat) 1 0 (fun i=>i≤m∧Yi vs m 0 d=Yi vs m (i*m) (d.drop (i*m))) (fun i=>[(5,vi i),(1,.sl (Dl vs) .no),(2,.ptr 0 0 0)]) (fun _=>⟨[[Iz m d]],[]⟩) (fun i=>m-i) ?_ 0 ⟨Nat.zero_le _,by simp⟩
      ⟨rfl,rfl,rfl,trivial⟩
     rintro i ⟨hi,hT⟩ IH
     refine AK.ei (fun h=>?_) (fun h=>?_)
     ·have hlt:i<m:=by have:=of_decide_eq_true h;omega
      have him:i*m+m≤m*m:=by rw [← Nat.succ_mul];exact Nat.mul_le_mul_right _ hlt
      refine AK.while_ (ι:=Nat) 1 0 (fun j=>j≤m∧Yi vs m 0 d=Yi vs m (i*m+j) (d.drop (i*m+j))) (fun j=>[(6,vi j),(5,vi i),(1,.sl (Dl vs) .no),(2,.ptr 0 0 0)]) (fun _=>⟨[[Iz m d]],[]⟩) (fun j=>m-j) ?_ 0 ⟨Nat.zero_le _,by simpa using hT⟩
       ⟨rfl,rfl,rfl,rfl,trivial⟩
      rintro j ⟨hj,hU⟩ JH
      refine AK.ei (fun g2=>?_) (fun g2=>?_)
      ·have hjl:j<m:=by have:=of_decide_eq_true g2;omega
       obtain ⟨x,hx⟩:=Aa d (i:=i*m+j) (by omega)
       rw [Acn hx] at hU
       have e1:(i*m+j) / m=i:=by rw [Nat.mul_comm i m,Nat.mul_add_div (by omega),Nat.div_eq_of_lt hjl];rfl
       have e2:(i*m+j) % m=j:=by rw [Nat.mul_comm i m,Nat.mul_add_mod,Nat.mod_eq_of_lt hjl]
       have hsq:m*m≤169:=by omega
       have w1:IntKind.i64.wrap ((i:Int)*m)=((i*m:Nat):Int):=by
        have:((i:Int)*m)=((i*m:Nat):Int):=by simp
        rw [this];exact Ac (by omega) (by omega)
       have w2:IntKind.i64.wrap (IntKind.i64.wrap ((i:Int)*m)+j)=((i*m+j:Nat):Int):=by
        rw [w1];exact (Ac (by omega) (by omega)).trans (by omega)
       obtain ⟨y0,hy0⟩:=Aa vs (i:=i) (by omega)
       obtain ⟨y1,hy1⟩:=Aa vs (i:=j) (by omega)
       have v0:=hvs.2.2 _ _ hy0
       have v1:=hvs.2.2 _ _ hy1
       have hw:IntKind.i64.wrap (y0-y1)=y0-y1:=Ac (by omega) (by omega)
       have hok:okH vs m (i*m+j) x=!decide (IntKind.i64.wrap (y0-y1) > x):=by
        unfold okH
        rw [e1,e2,Dy hy0,Dy hy1,hw]
        by_cases h:y0-y1≤x
        ·rw [decide_eq_true h,decide_eq_false (by omega)];rfl
        ·rw [decide_eq_false h,decide_eq_true (by omega)];rfl
       refine AK.db 0 ?_
       refine Drv.ig i (by omega) (Cu hy0) ?_
       refine Drv.ig j (by omega) (Cu hy1) ?_
       refine Drv.ig (IntKind.i64.wrap (IntKind.i64.wrap ((i:Int)*m)+j)) (by rw [w2];omega) (by rw [w2];exact Cu hx) ?_
       refine Drv.z ?_
       refine AK.if_ (fun g=>?_) (fun g=>?_)
       ·refine AK.rz Tryz.func142 ?_
        rw [hU,hok,g];rfl
       ·exact JH (j+1) ⟨hjl,by rw [hU,hok,g];rfl⟩ (by omega) _ _ ⟨vsx (by omega),rfl,rfl,rfl,trivial⟩ rfl rfl rfl
      ·have hje:j=m:=by have:=of_decide_eq_false g2;omega
       subst hje
       exact IH (i+1) ⟨hlt,by rw [hU,Nat.succ_mul]⟩ (by omega) _ _ ⟨vsx (by omega),rfl,rfl,trivial⟩ rfl rfl rfl
     ·have hie:i=m:=by have:=of_decide_eq_false h;omega
      subst hie
      refine AK.rz Tryz.func142 ?_
      rw [hT,← gn,List.drop_length];rfl
theorem Ad4 {size:Int}{seen:List (Int × Int)}:∀ {l:List (Int × Int)}{p:Option (Int × Int)},Ky size seen p l=true→∀ s,s∈l→G5 size s.1 s.2=true
 | [],_,_=>fun s hs=>by cases hs
 | y::l,p,h=>fun s hs=>by
   simp only [Ky,Bool.and_eq_true] at h
   rcases List.mem_cons.1 hs with rfl | hs
   ·exact h.1.1
   ·exact Ad4 h.2 s hs
theorem Z0 {size:Int}:∀ {tm:List (List (Int × Int))}{seen:List (Int × Int)},I6 size seen tm=true→∀ x,x∈tm→x.length≤40∧∀ s,s∈x→G5 size s.1 s.2=true
 | [],_,_=>fun x hx=>by cases hx
 | y::l,seen,h=>fun x hx=>by
   simp only [I6,Bool.and_eq_true,Bool.not_eq_true'] at h
   rcases List.mem_cons.1 hx with rfl | hx
   ·have:=of_decide_eq_false h.2.2.1
    rw [List.length_append] at this
    exact ⟨by omega,Ad4 h.1⟩
   ·exact Z0 h.2.2.2 x hx
theorem Ad5 {size:Int}:∀ {tm:List (List (Int × Int))}{seen:List (Int × Int)},I6 size seen tm=true→∀ x,x∈tm→x≠[]
 | [],_,_=>fun x hx=>by cases hx
 | y::l,seen,h=>fun x hx=>by
   simp only [I6,Bool.and_eq_true,Bool.not_eq_true'] at h
   rcases List.mem_cons.1 hx with rfl | hx
   ·rintro rfl;simp at h
   ·exact Ad5 h.2.2.2 x hx
theorem Auy (a:Ab):Pure X 85 [ab a] (vb (Ft a.n a.d)):=by
 refine Pure.run Tryz.func85 ?_
 refine AK.pc (Ahr a.n a.d) ?_
 exact AK.rz Tryz.func85 rfl
end Go.V
namespace Go.V
open Go
inductive Sh (d:Nat):AV→AV→Prop where
 | val (v:Value):Sh d (.val v) (.val v)
 | junk (x:AV):Sh d x .junk
 | nil (sp:Sp):Sh d (.sl [] sp) (.sl [] .no)
 | pnil (t v:Nat):Sh d (.psl [] t v) (.sl [] .no)
 | bsl (b k:Nat):Sh d (.bsl b k) (.bsl (b+d) k)
 | agg (cs cs':List AV) (hl:cs'.length=cs.length) (hz:∀ (j:Nat) (x y:AV),cs[j]?=some x→cs'[j]?=some y→Sh d x y):Sh d (.agg cs) (.agg cs')
 | tup (cs cs':List AV) (hl:cs'.length=cs.length) (hz:∀ (j:Nat) (x y:AV),cs[j]?=some x→cs'[j]?=some y→Sh d x y):Sh d (.tup cs) (.tup cs')
theorem Sh.rel {d:Nat}{E1 E':Env}{w:World}{x y:AV}(h:Sh d x y)(hb:∀ (b:Nat)(q:Nat × Nat),E1.boxes[b]?=some (some q)→E'.boxes[b+d]?=some (some q)):∀ {v:Value},Rel E1 w v x→Rel E' w v y:=by
 induction h with
 | val v=>intro v' hx;cases hx;exact .val _
 | junk x=>intro v hx;exact .junk v
 | nil sp =>
   intro v hx
   cases hx with
   | sl _ _ a n cap b o sz vals hn hx ha hsz hm hc hr hs hcap =>
     have h0:n=0:=by simpa using hn.symm
     subst h0
     exact .sl [] .no a 0 cap b o sz vals rfl hx (fun h=>absurd rfl h) (fun r hr=>by cases hr) (fun i j hi=>by omega) (fun i j hi=>by omega) (fun i j r x hi=>by simp at hi) trivial hcap
 | pnil t ver =>
   intro v hx
   cases hx with
   | psl _ _ _ a n cap k sz vals hn hx hcap hk hv hsz hp hr hf =>
     have h0:n=0:=by simpa using hn.symm
     subst h0
     exact .sl [] .no a 0 cap 0 0 sz vals rfl hx (fun h=>absurd rfl h) (fun r hr=>by cases hr) (fun i j hi=>by omega) (fun i j hi=>by omega) (fun i j r x hi=>by simp at hi) trivial hcap
 | bsl b k =>
   intro v hx
   cases hx with
   | bsl _ blk sz _ cap h hc=>exact .bsl _ blk sz k cap (hb b _ h) hc
 | agg cs cs' hl hz ih =>
   intro v hx
   cases hx with
   | agg vs _ hl' hr =>
     refine .agg vs cs' (by omega) (fun j v y hv hy=>?_)
     obtain ⟨x,hx⟩:=Aa cs (i:=j) (by have:=Ad hy;omega)
     exact ih j x y hx hy (hr j v x hv hx)
 | tup cs cs' hl hz ih =>
   intro v hx
   cases hx with
   | tup vs _ hl' hr =>
     refine .tup vs cs' (by omega) (fun j v y hv hy=>?_)
     obtain ⟨x,hx⟩:=Aa cs (i:=j) (by have:=Ad hy;omega)
     exact ih j x y hx hy (hr j v x hv hx)
inductive ShL (d:Nat):List AV→List AV→Prop where
 | nil:ShL d [] []
 | cons {x y:AV} {l l':List AV} (h:Sh d x y) (t:ShL d l l'):ShL d (x::l) (y::l')
theorem ShL.get {d:Nat}{l l':List AV}(h:ShL d l l'):l'.length=l.length∧∀ (j:Nat)(x y:AV),l[j]?=some x→l'[j]?=some y→Sh d x y:=by
 induction h with
 | nil=>exact ⟨rfl,fun j x y h=>by simp at h⟩
 | cons h t ih =>
   refine ⟨by simp [ih.1],fun j x y hx hy=>?_⟩
   cases j with
   | zero=>simp at hx hy;subst hx;subst hy;exact h
   | succ j=>exact ih.2 j x y (by simpa using hx) (by simpa using hy)
def ShR (d:Nat)(r r':List (List AV)):Prop:=r'.length=r.length∧∀ (i:Nat)(x y:List AV),r[i]?=some x→r'[i]?=some y→ShL d x y
def ShB (d:Nat)(b b':List (List (List AV))):Prop:=b'.length=b.length∧∀ (i:Nat)(x y:List (List AV)),b[i]?=some x→b'[i]?=some y→ShR d x y
theorem Fz.box {S:St}{b:Nat}{rows:List (List AV)}{cs:List AV}(hS:S.boxes[b]?=some rows)(hr:rows[0]?=some cs)(hok:∀ x,x∈cs→Ok 0 0 x):Fz S 0 0 (.ptr b 0 0) (.cptr cs) :=
 .ptr b 0 0 rows cs cs (Nat.zero_le _) hS hr rfl fun j x y hx hy=>by
  rw [List.drop_zero,hy] at hx;cases hx;exact .same _ (hok _ (List.mem_of_getElem? hy))
theorem Akr {S:St}{f:FuncId}{x y:AV}(h:Fz S 0 0 x y):Fz S 0 0 (.fn f [x]) (.fn f [y]) :=
 .fn f [x] [y] rfl fun j a b ha hb=>by
  cases j with
  | zero=>simp at ha hb;subst ha;subst hb;exact h
  | succ j=>simp at ha
section
variable {X:Cx}{B:Bx}{E E1:Env}{S S1:St}{w w':World}{F:B3}{a:Act}{N:Nat}{R:AE→St→Prop}{ops:Array Oper}{i:Nat}{o:Oper}
def Env.lent (E:Env):Env:=⟨[],[],E.fr,[]⟩
theorem Kq {b:Nat}:¬ E.lent.own b:=fun h=>by
 rcases h with ⟨i,s,h⟩ | ⟨t,l,c,s,h⟩<;>simp [Env.lent] at h
theorem Acf {b o:Nat}(h:E.lent.mt b o):E.fr b o:=by
 rcases h with h | ⟨i,s,h⟩ | ⟨t,l,c,s,h,_⟩
 ·exact h
 ·simp [Env.lent] at h
 ·simp [Env.lent] at h
theorem Inv.lent (hI:Inv X E S w):Inv X E.lent ⟨[],[]⟩ w where
 nb:=rfl
 nt:=rfl
 np i hi:=by simp [Env.lent] at hi
 box i b sz rows h:=by simp [Env.lent] at h
 tok t l b c sz h:=by simp [Env.lent] at h
 bb i j b s s' h:=by simp [Env.lent] at h
 bt i t b s l c sz h:=by simp [Env.lent] at h
 tt i j b l c s l' c' s' h:=by simp [Env.lent] at h
 frlt b o h:=⟨Kq,(hI.frlt b o h).2⟩
 lo b h:=absurd h Kq
 frlo:=hI.frlo
 sz:=hI.sz
 glob:=hI.glob
theorem Fz.lent (hI:Inv X E S w){x y:AV}(h:Fz S 0 0 x y){v:Value}(hx:Rel E w v x):Rel E.lent w v y:=by
 have h1:=h.rel hI hx
 have h2:=h1.ok
 refine h1.env (by simpa [Env.drop] using h2) fun b o h=>.inl (Acf h)
def Env.gain (E E1:Env):Env:=⟨E.boxes++E1.boxes,E.toks,E.fr,E.df⟩
theorem M8 {j:Nat}{q:Nat × Nat}(h:(E.gain E1).boxes[j]?=some (some q)):E.boxes[j]?=some (some q)∨(E.boxes.length≤j∧E1.boxes[j-E.boxes.length]?=some (some q)):=by
 simp only [Env.gain] at h
 rcases Nat.lt_or_ge j E.boxes.length with hj | hj
 ·rw [List.getElem?_append_left hj] at h;exact .inl h
 ·rw [List.getElem?_append_right hj] at h;exact .inr ⟨hj,h⟩
theorem Afb (hI:Inv X E S w)(hI1:Inv X E1 S1 w')(ev:Evol E.lent w E1 w' 0 0){bx:List (List (List AV))}(hsh:ShB E.boxes.length S1.boxes bx) :
 Evol E w (E.gain E1) w' E.boxes.length E.toks.length∧Inv X (E.gain E1) ⟨S.boxes++bx,S.toks⟩ w':=by
 have hfar:∀ {b:Nat},b<w.heap.size→w'.heap[b]?=w.heap[b]?:=fun {b} h=>ev.block b h Kq
 have hge:∀ {b j s:Nat},E1.boxes[j]?=some (some (b,s))→w.heap.size≤b:=fun {b j s} h=>by
  rcases Nat.lt_or_ge b w.heap.size with h' | h'
  ·exact absurd (ev.own b h' (.inl ⟨j,s,h⟩)) Kq
  ·exact h'
 have hownx:∀ {b:Nat},(E.gain E1).own b→E.own b∨∃ j s,E1.boxes[j]?=some (some (b,s)):=fun {b} h=>by
  rcases h with ⟨j,s,h⟩ | h
  ·rcases M8 h with h | ⟨_,h⟩
   ·exact .inl (.inl ⟨j,s,h⟩)
   ·exact .inr ⟨_,s,h⟩
  ·exact .inl (.inr h)
 have ev2:Evol E w (E.gain E1) w' E.boxes.length E.toks.length:=by
  refine ⟨rfl,fun j hj hl=>⟨by simp [Env.gain];omega,fun x hx=>by simp only [Env.gain];rw [List.getElem?_append_left hl];exact hx⟩,fun t ht k hk=>⟨k,hk,.inl rfl⟩,ev.os,ev.tape,ev.output,ev.size,fun b hb _=>hfar hb,
   fun b o v hm hc=>?_,fun b o hb h=>?_,fun b hb h=>?_,rfl,ev.ty,fun _ _ _ b _ _ _ _ o ho=>by rw [hfar (Ku ho)];exact ho⟩
  ·have hb:=G9 hc
   unfold World.cell? at hc ⊢
   rw [hfar hb];exact hc
  ·rcases h with h | ⟨j,s,h⟩ | h
   ·exact .inl h
   ·rcases M8 h with h | ⟨_,h⟩
    ·exact .inr (.inl ⟨j,s,h⟩)
    ·have:=hge h;omega
   ·exact .inr (.inr h)
  ·rcases hownx h with h | ⟨j,s,h⟩
   ·exact h
   ·have:=hge h;omega
 refine ⟨ev2,?_⟩
 have hnb:=hI.nb
 have hnb1:=hI1.nb
 have hsl:=hsh.1
 exact {
  nb:=by simp [Env.gain];omega
  nt:=hI.nt
  np:=fun j hj=>by
   simp only [Env.gain,List.length_append] at hj ⊢
   rcases Nat.lt_or_ge j E.boxes.length with h | h
   ·rw [List.getElem?_append_left h];exact hI.np j h
   ·rw [List.getElem?_append_right h];exact hI1.np _ (by omega)
  box:=fun j b s rows' h1 h2=>by
   simp only at h2
   rcases M8 h1 with h1 | ⟨hj,h1⟩
   ·have:=Ad h1
    rw [List.getElem?_append_left (by omega)] at h2
    obtain ⟨cs',e',hh',hs',hl',hr'⟩:=hI.box j b s rows' h1 h2
    exact ⟨cs',e',(hfar (hI.own_lt (.inl ⟨j,s,h1⟩))).trans hh',hs',hl',fun k r q x v h3 h4 h5=>(hr' k r q x v h3 h4 h5).step ev2⟩
   ·rw [List.getElem?_append_right (by omega),← hnb] at h2
    obtain ⟨rows,hrw⟩:=Aa S1.boxes (i:=j-E.boxes.length) (by have:=Ad h1;omega)
    obtain ⟨cs,e,hh,hs,hl,hr⟩:=hI1.box _ b s rows h1 hrw
    obtain ⟨hrl,hrr⟩:=hsh.2 _ _ _ hrw h2
    refine ⟨cs,e,hh,by rw [hrl];exact hs,fun r hr'=>?_,fun k r q x v h3 h4 h5=>?_⟩
    ·obtain ⟨k,hk⟩:=Bj hr'
     obtain ⟨r0,hr0⟩:=Aa rows (i:=k) (by have:=Ad hk;omega)
     rw [(hrr k r0 r hr0 hk).get.1]
     exact hl r0 (List.mem_of_getElem? hr0)
    ·obtain ⟨r0,hr0⟩:=Aa rows (i:=k) (by have:=Ad h3;omega)
     have hrl2:=(hrr k r0 r hr0 h3).get
     obtain ⟨x0,hx0⟩:=Aa r0 (i:=q) (by have:=Ad h4;omega)
     refine (hrl2.2 q x0 x hx0 h4).rel (fun b' q' hb'=>?_) (hr k r0 q x0 v hr0 hx0 h5)
     simp only [Env.gain]
     rw [List.getElem?_append_right (by omega)]
     simpa using hb'
  tok:=fun t l b c s h=>by
   obtain ⟨h1,h0,cs,e,hh,hs⟩:=hI.tok t l b c s h
   exact ⟨h1,h0,cs,e,(hfar (hI.own_lt (.inr ⟨t,l,c,s,h⟩))).trans hh,hs⟩
  bb:=fun i j b s s' h1 h2=>by
   rcases M8 h1 with h1 | ⟨hi,h1⟩<;>rcases M8 h2 with h2 | ⟨hj,h2⟩
   ·exact hI.bb i j b s s' h1 h2
   ·have:=hge h2;have:=hI.own_lt (.inl ⟨i,s,h1⟩);omega
   ·have:=hge h1;have:=hI.own_lt (.inl ⟨j,s',h2⟩);omega
   ·have:=hI1.bb _ _ b s s' h1 h2;omega
  bt:=fun i t b s l c sz' h1 h2=>by
   rcases M8 h1 with h1 | ⟨hi,h1⟩
   ·exact hI.bt i t b s l c sz' h1 h2
   ·have:=hge h1;have:=hI.own_lt (.inr ⟨t,l,c,sz',h2⟩);omega
  tt:=hI.tt
  frlt:=fun b o h=>⟨fun h'=>by
   rcases hownx h' with h' | ⟨j,s,h'⟩
   ·exact (hI.frlt b o h).1 h'
   ·have:=(hI.frlt b o h).2;have:=hge h';omega,Nat.lt_of_lt_of_le (hI.frlt b o h).2 ev.size⟩
  lo:=fun b h=>by
   rcases hownx h with h | ⟨j,s,h⟩
   ·exact hI.lo b h
   ·exact hI1.lo b (.inl ⟨j,s,h⟩)
  frlo:=hI.frlo
  sz:=hI1.sz
  glob:=hI1.glob }
def Gives (X:Cx)(f:FuncId)(args:List AV)(P:AV→List (List (List AV))→Prop):Prop :=
 Kh X.P f∧ACalls X f args ⟨[],[]⟩ fun e S'=>∃ r,e=.ret r∧P r S'.boxes
theorem Gives.mk {f:FuncId}{fn:Func}{c:Code}{args:List AV}{P:AV→List (List (List AV))→Prop}(hf:X.P.funcs[f]?=some fn)(hb:fn.body=some c)(hl:Nat.ble args.length fn.ntmps=true)(hnm:(fn.name == "runtime.NumGoroutine")=false)
 (h:AK X ⟨f,fn,0,0⟩ [.code c] (Mn 0 args) ⟨[],[]⟩ fun e S'=>∃ r,e=.ret r∧P r S'.boxes):Gives X f args P :=
 ⟨⟨fn,hf,hnm,by rw [hb];rfl⟩,Gy (n:=0) (m:=0) (hh:=fun C S' hx=>by obtain ⟨r,hx,_⟩:=hx;cases hx) hf hb hl rfl rfl h⟩
theorem Pure.gives {f:FuncId}{args:List AV}{r:AV}(h:Pure X f args r):Gives X f args fun r' bx=>r'=r∧bx=[] :=
 ⟨h.1,fun E w vs h1 h2 h3 h4=>(h.2 E w vs h1 h2 h3 h4).mono fun e w' ⟨E',S',g1,g2,g3⟩=>⟨E',S',g1,g2,by
   cases e with
   | returned v=>obtain ⟨r',h1,h2,rfl⟩:=g3;cases h2;exact ⟨_,h1,_,rfl,rfl,rfl⟩
   | panicked ch=>obtain ⟨h,_⟩:=g3;cases h
   | outgrown=>exact g3⟩⟩
theorem Ael {c:Call}{fo:Operand}{f:FuncId}{caps xs zs ys:List AV}{P:AV→List (List (List AV))→Prop}{F':B3}(hc:Gives X f ys P)(hl:∀ t,t∈o.looksAt ops→lk F' t=lk F t)(hI:Inv X E S w)(hF:FR E w F' a N)
 (ho:ops[i]?=some o)(hw:A2 ops F o=some true)(hop:o.op=.call c)(hcal:c.callee=.value fo)(hfo:Co X F fo=some (.fn f caps))(hx:Fg X F c.args.toList=some xs)(hzs:Iv xs caps=some zs)(ha:FzL S 0 0 zs ys) :
 Does X ops i a w fun v w'=>∃ r E1 S1,P r S1.boxes∧Inv X E1 S1 w'∧Evol E.lent w E1 w' 0 0∧Rel E1 w' v r:=by
 obtain ⟨l1,l2⟩:=N1 (X:=X) hop hcal hl
 have hz:=Ql hzs
 obtain ⟨vs,h1,h2,h3⟩:=Ph hop hcal hc.1 hI hF (l1.trans hfo) (l2.trans hx)
 refine Does.call ho (Bw hF (by rw [B2 hl];exact hw)) h1 ((hc.2 E.lent w vs rfl hI.lent (by rw [h2,hz,ha.get.1]) (fun j v y hv hy=>?_)).mono fun e w' he=>?_)
 ·obtain ⟨x,hxj⟩:=Aa zs (i:=j) (by have:=Ad hy;rw [ha.get.1] at this;exact this)
  exact (ha.get.2 j x y hxj hy).lent hI (h3 j v x hv (by rw [hz];exact hxj))
 ·obtain ⟨E1,S1,d1,d2,d3⟩:=he
  cases e with
  | returned v =>
    obtain ⟨r',hr',r,hre,hP⟩:=d3
    cases hre
    exact ⟨v,rfl,_,E1,S1,hP,d1,d2,hr'⟩
  | panicked ch=>obtain ⟨r,h,_⟩:=d3;cases h
  | outgrown=>exact d3.elim
theorem Ndo.gv {c:Call}{fo:Operand}{f:FuncId}{caps xs zs ys:List AV}{r r':AV}{bx bx':List (List (List AV))}(hc:Gives X f ys fun r0 b0=>r0=r∧b0=bx)(ha:FzL S 0 0 zs ys)(hr:Sh S.boxes.length r r')(hb:ShB S.boxes.length bx bx')
 (ho:ops[i]?=some o:=by rfl)(hw:A2 ops F o=some true:=by rfl)(hop:o.op=.call c:=by rfl)(hcal:c.callee=.value fo:=by rfl)(hfo:Co X F fo=some (.fn f caps):=by rfl)(hx:Fg X F c.args.toList=some xs:=by rfl)(hzs:Iv xs caps=some zs:=by rfl) :
 Ndo X N ops i o F r' S ⟨S.boxes++bx',S.toks⟩:=by
 intro F' E w a hl hI hF
 obtain hd:=Ael hc hl hI hF ho hw hop hcal hfo hx hzs ha
 intro b k cs rest
 obtain ⟨v,w',⟨r0,E1,S1,⟨rfl,rfl⟩,d1,d2,d3⟩,hst⟩:=hd b k cs rest
 have nb:=hI.nb
 obtain ⟨g1,g2⟩:=Afb hI d1 d2 (by rw [nb];exact hb)
 refine ⟨v,w',⟨_,g2,g1,hr.rel (fun b' q hq=>?_) d3⟩,hst⟩
 simp only [Env.gain]
 rw [List.getElem?_append_right (by omega)]
 rw [← nb,Nat.add_sub_cancel];exact hq
theorem Ak3 {c:Call}{fo:Operand}{f:FuncId}{caps xs zs ys:List AV}{r r':AV}(hc:Pure X f ys r)(ha:FzL S 0 0 zs ys)(hr:Sh S.boxes.length r r')
 (ho:ops[i]?=some o:=by rfl)(hw:A2 ops F o=some true:=by rfl)(hop:o.op=.call c:=by rfl)(hcal:c.callee=.value fo:=by rfl)(hfo:Co X F fo=some (.fn f caps):=by rfl)(hx:Fg X F c.args.toList=some xs:=by rfl)(hzs:Iv xs caps=some zs:=by rfl) :
 Ndo X N ops i o F r' S S:=by
 have h:=Ndo.gv (X:=X) (N:=N) (F:=F) (S:=S) (i:=i) (bx:=[]) (bx':=[]) hc.gives ha hr ⟨rfl,fun i x y hx=>by simp at hx⟩ ho hw hop hcal hfo hx hzs
 rw [List.append_nil] at h
 exact h
end
end Go.V
namespace Go.V
open Go Go.Proofs
structure RowH (k:Nat)(x:List (Int × Int)):Prop where
 ne:x≠[]
 t:∀ s,s∈x→0≤s.1∧s.1<k∧-1000≤s.2∧s.2≤1000
theorem Z1 {size len:Int}{g:Sg}{k:Nat}(h:Lv size len g=true)(hk:(k:Int)=size):∀ x,x∈g.tm→RowH k x:=fun x hx=>by
 simp only [Lv,Bool.and_eq_true,beq_iff_eq] at h
 have hT:=h.2.2.2.2.1
 refine ⟨Ad5 hT x hx,fun s hs=>?_⟩
 have h6:=(Z0 hT x hx).2 s hs
 simp only [G5,Bool.and_eq_true] at h6
 have a1:=Av.1 h6.1.2
 have a2:=Av.1 h6.2
 exact ⟨by omega,by omega,by omega,by omega⟩
theorem Qw {vs:List Int}{n:Int}{k:Nat}(hv:Mk vs n=true)(hk:(k:Int)=n){x:List (Int × Int)}(hx:RowH k x){s:Int × Int}(hs:s∈x) :
 ∃ y,vs[s.1.toNat]?=some y∧IntKind.i64.wrap (y+s.2)=Pz vs s∧-2000000≤Pz vs s∧Pz vs s≤2000000:=by
 have hvs:=Qc hv
 obtain ⟨h0,h1,h2,h3⟩:=hx.t s hs
 obtain ⟨y,hy⟩:=Aa vs (i:=s.1.toNat) (by omega)
 have hb:=hvs.2.2 _ _ hy
 have e:Pz vs s=y+s.2:=by unfold Pz;rw [Dy hy]
 exact ⟨y,hy,by rw [e];exact Ac (by omega) (by omega),by omega,by omega⟩
theorem V8 {x:List (Int × Int)}(h:x≠[]):x[0]?=some (x.getD 0 (0,0))∧x.getD 0 (0,0)∈x:=by
 cases x with
 | nil=>exact absurd rfl h
 | cons a l=>exact ⟨rfl,by simp⟩
theorem Ss {α:Type}{p:α→Bool}{l:List α}{i:Nat}{a:α}(h:l[i]?=some a)(hA:(l.take i).all p=true)(hb:p a=true):(l.take (i+1)).all p=true:=by
 rw [List.take_add_one,h,List.all_append,hA];simp [hb]
theorem Sr {α:Type}{p:α→Bool}{l:List α}{i:Nat}{a:α}(h:l[i]?=some a)(hb:p a=false):l.all p=false:=by
 cases hl:l.all p with
 | false=>rfl
 | true=>rw [List.all_eq_true.1 hl a (List.mem_of_getElem? h)] at hb;cases hb
theorem Aju (g:Sg)(hg:SgOk g)(vs:List Int)(n:Int)(k:Nat)(hv:Mk vs n=true)(hk:(k:Int)=n)(hr:∀ x,x∈g.tm→RowH k x) :
 Pure X 152 [.agg (Bs g),.sl (Dl vs) .no] (.tup [.sl (Dl (if g.tm.all (Nm vs)=true then g.tm.map (Fj vs) else [])) .no,vb (g.tm.all (Nm vs))]):=by
 have hlen:((Ej g.tm).length:Int)=g.tm.length:=by simp [Ej]
 have ht:=hg.tm
 refine Pure.run Tryz.func152 ?_
 refine AK.mint (d:=6) rfl rfl rfl ?_
 refine AK.while_ (ι:=Nat) 1 1 (fun i=>i≤g.tm.length∧(g.tm.take i).all (Nm vs)=true) (fun i=>[(15,vi i),(14,vi g.tm.length),(13,.sl (Ej g.tm) .no),(6,.sl (Dl ((g.tm.take i).map (Fj vs))) (.tok 0)),(1,.sl (Dl vs) .no),(2,.ptr 0 0 0)])
  (fun i=>⟨[[Bs g]],[((g.tm.take i).map (Fj vs)).length]⟩) (fun i=>g.tm.length-i) ?_ 0 ⟨Nat.zero_le _,rfl⟩ ⟨rfl,A3 hlen,rfl,rfl,rfl,rfl,trivial⟩
 rintro i ⟨hi,hA⟩ IH
 refine AK.ei (fun q=>?_) (fun q=>?_)
 ·have hlt:i<g.tm.length:=by have:=of_decide_eq_true q;omega
  obtain ⟨x,hx⟩:=Aa g.tm hlt
  have hm:=List.mem_of_getElem? hx
  have hrx:=hr x hm
  have hxl:((Hg x).length:Int)=x.length:=by simp [Hg]
  have hxle:=hg.rows x hm
  obtain ⟨hd0,hdm⟩:=V8 hrx.ne
  obtain ⟨y0,hy0,hw0,b0,b1⟩:=Qw hv hk hrx hdm
  have hrow:Fj vs x=Pz vs (x.getD 0 (0,0)):=rfl
  have h00:=(hrx.t _ hdm).1
  refine AK.ix i (by omega) (As (f:=Km) hx) ?_
  refine AK.while_ (ι:=Nat) 1 1 (fun j=>j≤x.length∧(x.take j).all (fun s=>Pz vs s==Fj vs x)=true) (fun j=>[(21,vi j),(20,vi x.length),(19,.sl (Hg x) .no),(8,.sl (Hg x) .no),(15,vi i),(14,vi g.tm.length),(13,.sl (Ej g.tm) .no),(6,.sl (Dl ((g.tm.take i).map (Fj vs))) (.tok 0)),(1,.sl (Dl vs) .no),(2,.ptr 0 0 0)])
   (fun _=>⟨[[Bs g]],[((g.tm.take i).map (Fj vs)).length]⟩) (fun j=>x.length-j) ?_ 0 ⟨Nat.zero_le _,rfl⟩ ⟨rfl,A3 hxl,rfl,rfl,rfl,rfl,rfl,rfl,rfl,rfl,trivial⟩
  rintro j ⟨hj,hB⟩ JH
  refine AK.ei (fun q2=>?_) (fun q2=>?_)
  ·have hjl:j<x.length:=by have:=of_decide_eq_true q2;omega
   obtain ⟨s,hs⟩:=Aa x hjl
   obtain ⟨y,hy,hw,c0,c1⟩:=Qw hv hk hrx (List.mem_of_getElem? hs)
   have hs0:=(hrx.t s (List.mem_of_getElem? hs)).1
   refine AK.ix j (by omega) (As (f:=Cy) hs) ?_
   refine AK.db 0 ?_
   refine Drv.ig s.1 hs0 (Cu hy) ?_
   refine Drv.ig 0 (by omega) (As (f:=Cy) hd0) ?_
   refine Drv.ig (x.getD 0 (0,0)).1 h00 (Cu hy0) ?_
   refine Drv.ig 0 (by omega) (As (f:=Cy) hd0) ?_
   refine Drv.z ?_
   have hcmp:(Pz vs s==Fj vs x)=!(IntKind.i64.wrap (y+s.2) != IntKind.i64.wrap (y0+(x.getD 0 (0,0)).2)):=by rw [hw,hw0,hrow];exact (Bool.not_not _).symm
   refine AK.if_ (fun q3=>?_) (fun q3=>?_)
   ·have:g.tm.all (Nm vs)=false:=Sr hx (by unfold Nm;exact Sr hs (by rw [hcmp,q3];rfl))
    refine AK.as_ 4 (.sl [] .tight) ?_
    refine AK.rz Tryz.func152 ?_
    rw [this];rfl
   ·exact JH (j+1) ⟨hjl,Ss hs hB (by rw [hcmp,q3];rfl)⟩ (by omega) _ _ ⟨vsx (by omega),rfl,rfl,rfl,rfl,rfl,rfl,rfl,rfl,rfl,trivial⟩ rfl rfl rfl
  ·have hje:j=x.length:=by have:=of_decide_eq_false q2;omega
   rw [hje,List.take_length] at hB
   have hsx:Nm vs x=true:=hB
   have htk:(g.tm.take (i+1)).map (Fj vs)=(g.tm.take i).map (Fj vs)++[Fj vs x]:=by rw [List.take_add_one,hx];simp
   refine AK.ev 100 rfl ?_
   refine AK.db 16384 ?_
   refine Drv.ig 0 (by omega) (As (f:=Cy) hd0) ?_
   refine Drv.ig (x.getD 0 (0,0)).1 h00 (Cu hy0) ?_
   refine Drv.ig 0 (by omega) (As (f:=Cy) hd0) ?_
   refine Drv.w (Ndo.append (res:=Dl ((g.tm.take (i+1)).map (Fj vs))) (tk:=[((g.tm.take (i+1)).map (Fj vs)).length]) rfl rfl rfl rfl rfl rfl rfl rfl rfl rfl rfl rfl rfl rfl (Ck _) (Qf _) rfl rfl rfl ?_ ?_ ?_) ?_
   ·rw [Ck];simp;omega
   ·rw [htk,hrow,← hw0];simp [Dl]
   ·rw [Ck,htk,List.length_append];rfl
   refine Drv.e ?_
   refine Drv.z ?_
   exact IH (i+1) ⟨hlt,Ss hx hA hsx⟩ (by omega) _ _ ⟨vsx (by omega),rfl,rfl,rfl,rfl,rfl,trivial⟩ rfl rfl rfl
 ·have hie:i=g.tm.length:=by have:=of_decide_eq_false q;omega
  rw [hie,List.take_length] at hA
  refine AK.rz Tryz.func152 ?_
  rw [hie,List.take_length,hA,if_pos rfl]
theorem Ti {tm:List (List (Int × Int))}{vs:List Int}{i:Nat}{x:List (Int × Int)}(h:tm[i]?=some x):(tm.map (Fj vs))[i]?=some (Fj vs x):=by simp [h]
theorem Agy {size len:Int}{g:Sg}{vs:List Int}(h:Lv size len g=true)(h0:E6 vs 0=0)(hs:g.tm.all (Nm vs)=true) :
 E6 (g.tm.map (Fj vs)) 0=0∧E6 (g.tm.map (Fj vs)) (0+g.vs.length)=E6 vs len.toNat∧g.tm.length=g.vs.length+1∧g.ms.length=g.vs.length∧1≤len∧len≤size-1∧2≤size∧size≤13:=by
 simp only [Lv,Bool.and_eq_true,beq_iff_eq] at h
 obtain ⟨hsh,h1,h2,h3,hT,hf,hl,_⟩:=h
 have hb:=Av.1 h1
 simp only [Kl,Bool.and_eq_true] at hsh
 have e1:=Av.1 hsh.1
 have e2:=Av.1 hsh.2
 obtain ⟨x,hx⟩:=Aa g.tm (i:=0) (by omega)
 obtain ⟨y,hy⟩:=Aa g.tm (i:=g.tm.length-1) (by omega)
 rw [List.getD_eq_getElem?_getD,hx] at hf
 rw [List.getD_eq_getElem?_getD,hy] at hl
 have ax:=List.all_eq_true.1 hs x (List.mem_of_getElem? hx)
 have ay:=List.all_eq_true.1 hs y (List.mem_of_getElem? hy)
 have bx:=List.all_eq_true.1 ax _ (Xj hf)
 have bY:=List.all_eq_true.1 ay _ (Xj hl)
 have cx:Pz vs (0,0)=Fj vs x:=by simpa using bx
 have cy:Pz vs (len,0)=Fj vs y:=by simpa using bY
 have ek:0+g.vs.length=g.tm.length-1:=by omega
 refine ⟨?_,?_,by omega,by omega,e2.1,e2.2,e1.1,e1.2⟩
 ·rw [Dy (Ti hx),← cx];simpa [Pz] using h0
 ·rw [ek,Dy (Ti hy),← cy];simp [Pz]
theorem As3 (v:Vl)(c:Bool × Int):Pure X 153 [.agg (Fq c),.cptr (D4 v)] (vb (!Rz v c)):=by
 refine Pure.run Tryz.func153 ?_
 refine AK.pc (An2 v c) ?_
 exact AK.rz Tryz.func153 rfl
theorem Alj (l:List (Bool × Int)):Gj 2 (Iy l)=true:=H6 (f:=Fq) (fun _=>rfl) l
theorem Agv (cs:List (Bool × Int))(a b:Nat):((Iy cs).take b).drop a=Iy ((cs.take b).drop a):=by simp [Iy,List.map_take,List.map_drop]
theorem Anz (size len:Int)(hs0:-1000000≤size)(hs1:size≤1000000)(g:Sg)(hg:SgOk g)(vs:List Int)(hvl:vs.length≤1000000000)(cs:List (Bool × Int))(hcl:cs.length≤1000000000) :
 Pure X 92 [vi size,vi len,.agg (Bs g),.sl (Dl vs) .no,.sl (Iy cs) .no] (vb (Ad6 size len g vs cs)):=by
 have hlen:((Iy cs).length:Int)=cs.length:=by simp [Iy]
 have hlv:((O3 g.vs).length:Int)=g.vs.length:=by simp [O3]
 have hvv:=hg.vs
 refine Pure.run Tryz.func92 ?_
 refine AK.pc (Ah5 g hg size len hs0 hs1 fun v _=>Ab1 v) ?_
 unfold Ad6
 cases hsb:Lv size len g with
 | false =>
   refine AK.gy ?_
   refine AK.gy ?_
   refine AK.yes ?_
   exact AK.rz Tryz.func92 rfl
 | true =>
   refine AK.gn ?_
   refine AK.pc (Ad1 vs hvl size) ?_
   cases hv:Mk vs size with
   | false =>
     refine AK.gy ?_
     refine AK.yes ?_
     exact AK.rz Tryz.func92 rfl
   | true =>
     have hvs:=Qc hv
     have hsb':=hsb
     simp only [Lv,Bool.and_eq_true,beq_iff_eq,Kl] at hsb'
     have e1:=Av.1 hsb'.1.1
     have e2:=Av.1 hsb'.1.2
     obtain ⟨y,hy⟩:=Aa vs (i:=len.toNat) (by omega)
     refine AK.gn ?_
     refine AK.ix len (by omega) (Cu hy) ?_
     rw [Dy hy]
     refine AK.if_ (fun q=>?_) (fun q=>?_)
     ·have q':((cs.length:Int)==y)=false:=by
       have:(((Iy cs).length:Int) != y)=true:=q
       rw [hlen] at this;simpa using this
      refine AK.rz Tryz.func92 ?_
      rw [q'];rfl
     have q':((cs.length:Int)==y)=true:=by
      have:(((Iy cs).length:Int) != y)=false:=q
      rw [hlen] at this;simpa using this
     have hcy:(cs.length:Int)=y:=by simpa using q'
     have hrow:=Z1 (k:=vs.length) hsb hvs.1
     refine AK.pc (Aju g hg vs size vs.length hv hvs.1 hrow) ?_
     rw [q']
     cases hA:g.tm.all (Nm vs) with
     | false =>
       refine AK.yes ?_
       exact AK.rz Tryz.func92 rfl
     | true =>
       refine AK.no ?_
       rw [if_pos rfl]
       obtain ⟨z0,z1,z2,z3,_⟩:=Agy hsb hvs.2.1 hA
       rw [Dy hy] at z1
       have hboth:=Acr (at_:=g.tm.map (Fj vs)) (ms:=g.ms) (cs:=cs) g.vs 0 (by omega) (fun _=>by omega)
       have hal:∀ (i:Nat) (a:Int),(g.tm.map (Fj vs))[i]?=some a→-2000000≤a∧a≤2000000:=fun i a ha=>by
        obtain ⟨x,hx⟩:=Aa g.tm (i:=i) (by have:=Ad ha;simpa using this)
        rw [Ti hx] at ha;cases ha
        have hr:=hrow x (List.mem_of_getElem? hx)
        obtain ⟨y0,_,_,b0,b1⟩:=Qw hv hvs.1 hr (V8 hr.ne).2
        exact ⟨b0,b1⟩
       have hatl:(g.tm.map (Fj vs)).length=g.vs.length+1:=by rw [List.length_map];exact z2
       generalize hat:g.tm.map (Fj vs)=at_ at z0 z1 hboth hal hatl ⊢
       show AK _ _ _ _ _ fun e S=>e=.ret (vb (true&&(true&&(true&&(true&&(G3 at_ g.ms 0 g.vs&&Rk at_ cs 0 g.vs))))))∧S=_
       rw [← hboth]
       simp only [Bool.true_and]
       refine AK.while_ (ι:=Nat) 1 0 (fun i=>i≤g.vs.length∧Y2 at_ g.ms cs 0 g.vs=Y2 at_ g.ms cs i (g.vs.drop i)) (fun i=>[(48,vi i),(47,vi g.vs.length),(46,.sl (O3 g.vs) .no),(11,.sl (Dl at_) .no),(4,.sl (Iy cs) .no),(7,.ptr 0 0 0)])
        (fun _=>⟨[[Bs g]],[]⟩) (fun i=>g.vs.length-i) ?_ 0 ⟨Nat.zero_le _,rfl⟩ ⟨rfl,A3 hlv,rfl,rfl,rfl,rfl,trivial⟩
       rintro i ⟨hi,hT⟩ IH
       refine AK.ei (fun h=>?_) (fun h=>?_)
       ·have hlt:i<g.vs.length:=by have:=of_decide_eq_true h;omega
        obtain ⟨v,hvx⟩:=Aa g.vs hlt
        obtain ⟨a,ha⟩:=Aa at_ (i:=i) (by omega)
        obtain ⟨b,hb⟩:=Aa at_ (i:=i+1) (by omega)
        obtain ⟨m,hm⟩:=Aa g.ms (i:=i) (by omega)
        rw [An hvx,Ww,Dy ha,Dy hb,List.getD_eq_getElem?_getD,hm,Option.getD_some] at hT
        have hwi:IntKind.i64.wrap ((i:Int)+1)=((i+1:Nat):Int):=(Ac (by omega) (by omega)).trans (by omega)
        refine AK.ix i (by omega) (As (f:=D4) hvx) ?_
        refine AK.db 0 ?_
        refine Drv.ig i (by omega) (Cu ha) ?_
        refine Drv.ig (IntKind.i64.wrap ((i:Int)+1)) (by rw [hwi];omega) (by rw [hwi];exact Cu hb) ?_
        refine Drv.z ?_
        refine AK.gd (fun g1=>?_) (fun g1=>?_)
        ·have hp:Il a b m=false:=by
          have:=of_decide_eq_true g1
          unfold Il;rw [decide_eq_false (by omega)];rfl
         refine AK.yes ?_
         refine AK.rz Tryz.func92 ?_
         rw [hT,hp];rfl
        have g1':decide (a≤b)=true:=by have:=of_decide_eq_false g1;exact decide_eq_true (by omega)
        refine AK.gd (fun g2=>?_) (fun g2=>?_)
        ·have g2':(a==b)=true:=g2
         refine AK.ix i (by omega) (As (f:=Kn) hm) ?_
         refine AK.if_ (fun g3=>?_) (fun g3=>?_)
         ·have g3':m=false:=by have:(!m)=true:=g3;simpa using this
          refine AK.rz Tryz.func92 ?_
          rw [hT];unfold Il;rw [g1',g2',g3'];rfl
         ·have hp:Il a b m=true:=by
           have g3':m=true:=by have:(!m)=false:=g3;simpa using this
           unfold Il;rw [g1',g2',g3'];rfl
          refine AK.gd (fun g4=>?_) (fun g4=>?_)
          ·have g4':=of_decide_eq_true g4
           refine AK.gy ?_
           refine AK.yes ?_
           refine AK.rz Tryz.func92 ?_
           rw [hT,hp,decide_eq_false (by omega)];rfl
          have g4':=of_decide_eq_false g4
          refine AK.gd (fun g5=>?_) (fun g5=>?_)
          ·have g5':=of_decide_eq_true g5
           rw [hlen] at g5'
           refine AK.yes ?_
           refine AK.rz Tryz.func92 ?_
           rw [hT,hp,decide_eq_true (by omega),decide_eq_false (show ¬ b≤(cs.length:Int) by omega)];rfl
          have g5':=of_decide_eq_false g5
          rw [hlen] at g5'
          have hab:=of_decide_eq_true g1'
          refine AK.op (Qi (r:=Iy ((cs.take b.toNat).drop a.toNat)) rfl rfl rfl rfl rfl rfl rfl rfl rfl (by omega) hab (by rw [hlen];omega) (Alj cs) (Agv cs _ _)) ?_
          have hcon:=Ahz ((cs.take b.toNat).drop a.toNat) (by rw [List.length_drop,List.length_take];omega) 153 (D4 v) (fun c=>!Rz v c) (fun c _=>As3 v c)
          rw [← List.not_all_eq_any_not] at hcon
          refine AK.op (Ak3 hcon (.cons (.same _ (inferInstance:OK 0 0 (.sl (Iy ((cs.take b.toNat).drop a.toNat)) .no)).ok) (.cons (Akr (Fz.box rfl rfl (inferInstance:OKL 0 0 (D4 v)).ok)) .nil)) (.val _)) ?_
          refine AK.if_ (fun g6=>?_) (fun g6=>?_)
          ·have g6':Iw cs v a b=false:=by have:(!((cs.take b.toNat).drop a.toNat).all (Rz v))=true:=g6;simpa [Iw] using this
           refine AK.rz Tryz.func92 ?_
           rw [hT,hp,decide_eq_true (by omega),decide_eq_true (show b≤(cs.length:Int) by omega),g6'];rfl
          ·have g6':Iw cs v a b=true:=by have:(!((cs.take b.toNat).drop a.toNat).all (Rz v))=false:=g6;simpa [Iw] using this
           exact IH (i+1) ⟨hlt,by rw [hT,hp,decide_eq_true (by omega),decide_eq_true (show b≤(cs.length:Int) by omega),g6'];rfl⟩ (by omega) _ _ ⟨vsx (by omega),rfl,rfl,rfl,rfl,rfl,trivial⟩ rfl rfl rfl
        ·have g2':(a==b)=false:=g2
         have hp:Il a b m=true:=by unfold Il;rw [g1',g2'];rfl
         refine AK.no ?_
         refine AK.gd (fun g4=>?_) (fun g4=>?_)
         ·have g4':=of_decide_eq_true g4
          refine AK.gy ?_
          refine AK.yes ?_
          refine AK.rz Tryz.func92 ?_
          rw [hT,hp,decide_eq_false (by omega)];rfl
         have g4':=of_decide_eq_false g4
         refine AK.gd (fun g5=>?_) (fun g5=>?_)
         ·have g5':=of_decide_eq_true g5
          rw [hlen] at g5'
          refine AK.yes ?_
          refine AK.rz Tryz.func92 ?_
          rw [hT,hp,decide_eq_true (by omega),decide_eq_false (show ¬ b≤(cs.length:Int) by omega)];rfl
         have g5':=of_decide_eq_false g5
         rw [hlen] at g5'
         have hab:=of_decide_eq_true g1'
         refine AK.op (Qi (r:=Iy ((cs.take b.toNat).drop a.toNat)) rfl rfl rfl rfl rfl rfl rfl rfl rfl (by omega) hab (by rw [hlen];omega) (Alj cs) (Agv cs _ _)) ?_
         have hcon:=Ahz ((cs.take b.toNat).drop a.toNat) (by rw [List.length_drop,List.length_take];omega) 153 (D4 v) (fun c=>!Rz v c) (fun c _=>As3 v c)
         rw [← List.not_all_eq_any_not] at hcon
         refine AK.op (Ak3 hcon (.cons (.same _ (inferInstance:OK 0 0 (.sl (Iy ((cs.take b.toNat).drop a.toNat)) .no)).ok) (.cons (Akr (Fz.box rfl rfl (inferInstance:OKL 0 0 (D4 v)).ok)) .nil)) (.val _)) ?_
         refine AK.if_ (fun g6=>?_) (fun g6=>?_)
         ·have g6':Iw cs v a b=false:=by have:(!((cs.take b.toNat).drop a.toNat).all (Rz v))=true:=g6;simpa [Iw] using this
          refine AK.rz Tryz.func92 ?_
          rw [hT,hp,decide_eq_true (by omega),decide_eq_true (show b≤(cs.length:Int) by omega),g6'];rfl
         ·have g6':Iw cs v a b=true:=by have:(!((cs.take b.toNat).drop a.toNat).all (Rz v))=false:=g6;simpa [Iw] using this
          exact IH (i+1) ⟨hlt,by rw [hT,hp,decide_eq_true (by omega),decide_eq_true (show b≤(cs.length:Int) by omega),g6'];rfl⟩ (by omega) _ _ ⟨vsx (by omega),rfl,rfl,rfl,rfl,rfl,trivial⟩ rfl rfl rfl
       ·have hie:i=g.vs.length:=by have:=of_decide_eq_false h;omega
        refine AK.rz Tryz.func92 ?_
        rw [hT,hie,List.drop_length];rfl
end Go.V
