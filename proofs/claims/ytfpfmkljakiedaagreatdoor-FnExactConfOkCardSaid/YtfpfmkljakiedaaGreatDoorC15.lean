/- A part of the proof of the claim that the last text states: no condition of its own. -/
import Derived.Test.YtfpfmkljakiedaaGreatDoorC14
set_option linter.unusedVariables false
set_option linter.unusedSimpArgs false
namespace Go.V
open Go Go.Proofs
abbrev Fsp (n:Nd):Frm:=[(2,.ptr 0 0 0),(3,.ptr 1 0 0)]
abbrev Ssp (n:Nd)(c:Cf):St:=⟨[[takeC n],[cfcells c]],[]⟩
theorem p_cf21 (n:Nd)(c:Cf)(hE:(gEs (planL n)).length≤2000000)(ht:¬ c.trap=0) :
 AK X ⟨74,Tryz.f74,0,0⟩ (locG false 21 Tryz.f74) (Fsp n) (Ssp n c) (fun e S=>e=.ret (vb (tailB (gEs (planL n)) c))∧S=⟨[],[]⟩):=by
 have l1:((erows (gEs (planL n))).length:Int)=(gEs (planL n)).length:=by rw [erows_len]
 have hw:IntKind.i64.wrap ((erows (gEs (planL n))).length-1)=(gEs (planL n)).length-1:=by rw [l1];exact wrap_small (by omega) (by omega)
 have hb:=p_between c.edge 0 (IntKind.i64.wrap ((erows (gEs (planL n))).length-1))
 rw [hw] at hb
 have e0:tailB (gEs (planL n)) c=((between c.edge 0 (((gEs (planL n)).length:Int)-1)&&((((gEs (planL n))).map Eg.f).getD c.edge.toNat (-1)==c.pt))&&between c.acc 0 500):=by unfold tailB;rw [if_neg ht,Bool.and_assoc]
 rw [e0]
 refine AK.at_ ?_
 refine AK.dn 0 7 ?_
 refine Drv.pc (p_between c.edge 0 (IntKind.i64.wrap ((erows (gEs (planL n))).length-1))) ?_
 rw [hw]
 cases h1:between c.edge 0 (((gEs (planL n)).length:Int)-1) with
 | false =>
   refine Drv.t false ?_
   refine Drv.gon 12 ?_
   refine Drv.t false ?_
   refine Drv.go ?_
   refine Drv.z ?_
   exact AK.rz Tryz.func74 rfl
 | true =>
   have h1':=between_iff.1 h1
   obtain ⟨e,he⟩:=lget_of_lt (gEs (planL n)) (i:=c.edge.toNat) (by omega)
   have hg:((gEs (planL n)).map Eg.f).getD c.edge.toNat (-1)=e.f:=by simp [List.getD,he]
   rw [hg]
   refine Drv.t true ?_
   refine Drv.go ?_
   refine Drv.ru (fun S'=>Ndo.index rfl rfl rfl rfl rfl rfl rfl rfl rfl h1'.1 (erows_get he)) ?_
   refine Drv.gon 6 ?_
   cases h2:(e.f==c.pt) with
   | false =>
     refine Drv.t false ?_
     refine Drv.go ?_
     refine Drv.z ?_
     exact AK.rz Tryz.func74 rfl
   | true =>
     refine Drv.t true ?_
     refine Drv.go ?_
     refine Drv.pg (p_between c.acc 0 500) ?_
     refine Drv.z ?_
     exact AK.rz Tryz.func74 rfl
theorem p_cf19 (n:Nd)(c:Cf)(hE:(gEs (planL n)).length≤2000000) :
 AK X ⟨74,Tryz.f74,0,0⟩ (locG false 19 Tryz.f74) (Fsp n) (Ssp n c) (fun e S=>e=.ret (vb (tailB (gEs (planL n)) c))∧S=⟨[],[]⟩):=by
 refine AK.at_ ?_
 refine AK.ev 100 rfl ?_
 refine AK.ifj 0 21 (fun ht=>?_) (fun ht=>?_)
 ·have ht':c.trap=0:=by simpa using (show (c.trap==0)=true from ht)
  have e0:tailB (gEs (planL n)) c=((c.edge==0)&&(c.acc==0)):=by unfold tailB;rw [if_pos ht']
  rw [e0]
  refine AK.ev 100 rfl ?_
  refine AK.gd (fun g=>?_) (fun g=>?_)
  ·have g':(c.edge==0)=true:=g
   refine AK.rz Tryz.func74 ?_
   rw [g'];rfl
  ·have g':(c.edge==0)=false:=g
   refine AK.rz Tryz.func74 ?_
   rw [g'];rfl
 ·have ht':¬ c.trap=0:=by simpa using (show (c.trap==0)=false from ht)
  exact AK.back' 2 0 (p_cf21 n c hE ht') ⟨rfl,rfl,trivial⟩ rfl rfl rfl rfl rfl
theorem cellB_and (l:List (Bool × Int)){i:Nat}{x:Bool × Int}(h:l[i]?=some x):(l.drop i).all cellB=(cellB x&&(l.drop (i+1)).all cellB):=by rw [drop_cons h];rfl
theorem p_cf8 (n:Nd)(c:Cf)(hc:CfOk c)(hE:(gEs (planL n)).length≤2000000)(hss:(sizesT n).length=c.cells.length) :
 AK X ⟨74,Tryz.f74,0,0⟩ (locG false 8 Tryz.f74) (Fsp n) (Ssp n c) (fun e S=>e=.ret (vb (rowsB c.cells (sizesT n)&&tailB (gEs (planL n)) c))∧S=⟨[],[]⟩):=by
 have L19:=p_cf19 n c hE
 have hcc:=hc.cells
 generalize tailB (gEs (planL n)) c=G at L19 ⊢
 refine AK.at_ ?_
 refine AK.ev 100 rfl ?_
 refine AK.while_ (ι:=Nat) 2 0 (fun i=>i≤c.cells.length∧rowsB c.cells (sizesT n)=rowsB (c.cells.drop i) ((sizesT n).drop i)) (fun i=>[(6,vi i),(2,.ptr 0 0 0),(3,.ptr 1 0 0)])
  (fun _=>Ssp n c) (fun i=>c.cells.length-i) ?_ 0 ⟨Nat.zero_le _,rfl⟩ ⟨rfl,rfl,rfl,trivial⟩ rfl rfl rfl rfl rfl (fun _=>inferInstance) (fun _=>inferInstance)
 rintro i ⟨hi,hT⟩ IH
 refine AK.ev 100 rfl ?_
 refine AK.ifj 0 19 (fun h=>?_) (fun h=>?_)
 ·have hlt:i<c.cells.length:=by have:=of_decide_eq_true h;rw [crss_len] at this;omega
  obtain ⟨x,hx⟩:=lget_of_lt c.cells hlt
  obtain ⟨s,hs⟩:=lget_of_lt (sizesT n) (i:=i) (by omega)
  rw [rowsB_drop hx hs] at hT
  have hxl:=hc.rows x (List.mem_of_getElem? hx)
  have l5:((crs x).length:Int)=x.length:=by rw [crs_len]
  have bad:rowB x s=false→(rowsB c.cells (sizesT n)&&G)=false:=fun hb=>by rw [hT,hb];rfl
  have inner:x.length≤60→(!decide (s≥0)||((x.length:Int)==s))=true→AK X ⟨74,Tryz.f74,0,0⟩ (locG false 13 Tryz.f74) [(6,vi i),(2,.ptr 0 0 0),(3,.ptr 1 0 0)] (Ssp n c) (fun e S=>e=.ret (vb (rowsB c.cells (sizesT n)&&G))∧S=⟨[],[]⟩):=fun k1 k2=>by
   have hrow:rowB x s=x.all cellB:=by unfold rowB;rw [k2,decide_eq_true k1];rfl
   refine AK.at_ ?_
   refine AK.ev 100 rfl ?_
   refine AK.while_ (ι:=Nat) 2 0 (fun j=>j≤x.length∧x.all cellB=(x.drop j).all cellB) (fun j=>[(7,vi j),(6,vi i),(2,.ptr 0 0 0),(3,.ptr 1 0 0)])
    (fun _=>Ssp n c) (fun j=>x.length-j) ?_ 0 ⟨Nat.zero_le _,rfl⟩ ⟨rfl,rfl,rfl,rfl,trivial⟩ rfl rfl rfl rfl rfl (fun _=>inferInstance) (fun _=>inferInstance)
   rintro j ⟨hj,hU⟩ JH
   refine AK.ev 100 rfl ?_
   refine AK.ix i (by omega) (map_get (f:=crow) hx) ?_
   refine AK.if_ (fun g=>?_) (fun g=>?_)
   ·have hjl:j<x.length:=by have:=of_decide_eq_true g;rw [l5] at this;omega
    obtain ⟨y,hy⟩:=lget_of_lt x hjl
    rw [cellB_and x hy] at hU
    obtain ⟨w,m⟩:=y
    have bad2:cellB (w,m)=false→(rowsB c.cells (sizesT n)&&G)=false:=fun hb=>bad (by rw [hrow,hU,hb];rfl)
    refine AK.ix i (by omega) (map_get (f:=crow) hx) ?_
    refine AK.ix j (by omega) (map_get (f:=ccell) hy) ?_
    refine AK.pc (p_val m) ?_
    cases hm:isV m with
    | false =>
      refine AK.gy ?_
      refine AK.yes ?_
      refine AK.rz Tryz.func74 ?_
      rw [bad2 (by unfold cellB;rw [hm];rfl)]
    | true =>
      refine AK.gn ?_
      cases w with
      | true =>
        refine AK.gn ?_
        refine AK.no ?_
        exact JH (j+1) ⟨hjl,by rw [hU];simp [cellB,hm]⟩ (by omega) _ _ ⟨vint ((wrap_small (by omega) (by omega)).trans (by omega)),rfl,rfl,rfl,trivial⟩ rfl rfl rfl
      | false =>
        refine AK.gy ?_
        refine AK.if_ (fun g4=>?_) (fun g4=>?_)
        ·have g4':¬ m=0:=by simpa using (show (m != 0)=true from g4)
         refine AK.rz Tryz.func74 ?_
         rw [bad2 (by simp [cellB,g4'])]
        ·have g4':m=0:=by simpa using (show (m != 0)=false from g4)
         have h1:cellB (false,m)=true:=by unfold cellB;rw [hm,g4'];rfl
         exact JH (j+1) ⟨hjl,by rw [hU,h1];rfl⟩ (by omega) _ _ ⟨vint ((wrap_small (by omega) (by omega)).trans (by omega)),rfl,rfl,rfl,trivial⟩ rfl rfl rfl
   ·have hje:j=x.length:=by have:=of_decide_eq_false g;rw [l5] at this;omega
    have hxa:x.all cellB=true:=by rw [hU,hje,List.drop_length];rfl
    exact IH (i+1) ⟨hlt,by rw [hT,hrow,hxa];rfl⟩ (by omega) _ _ ⟨vint ((wrap_small (by omega) (by omega)).trans (by omega)),rfl,rfl,trivial⟩ rfl rfl rfl
  refine AK.dn 0 3 ?_
  refine Drv.ru (fun S'=>Ndo.index rfl rfl rfl rfl rfl rfl rfl rfl rfl (by omega) (map_get (f:=crow) hx)) ?_
  refine Drv.gon 3 ?_
  by_cases k1:x.length≤60
  ·refine Drv.t false ?_ (hb:=decide_eq_false (by rw [l5];omega))
   refine Drv.go ?_
   refine Drv.ru (fun S'=>Ndo.index rfl rfl rfl rfl rfl rfl rfl rfl rfl (by omega) (zrs_get hs)) ?_
   refine Drv.gon 2 ?_
   by_cases k2:s≥0
   ·refine Drv.t true ?_ (hb:=decide_eq_true k2)
    refine Drv.go ?_
    refine Drv.ru (fun S'=>Ndo.index rfl rfl rfl rfl rfl rfl rfl rfl rfl (by omega) (map_get (f:=crow) hx)) ?_
    refine Drv.go ?_
    refine Drv.ru (fun S'=>Ndo.index rfl rfl rfl rfl rfl rfl rfl rfl rfl (by omega) (zrs_get hs)) ?_
    refine Drv.go ?_
    refine Drv.z ?_
    refine AK.ifj 0 13 (fun g=>?_) (fun g=>?_)
    ·have g':¬ (x.length:Int)=s:=by rw [l5] at g;simpa using g
     refine AK.ev 100 rfl ?_
     refine AK.rz Tryz.func74 ?_
     rw [bad (by simp [rowB,g'];omega)]
    ·have g':(x.length:Int)=s:=by rw [l5] at g;simpa using g
     exact AK.back' 2 0 (inner k1 (by rw [beq_iff_eq.2 g',Bool.or_true])) ⟨rfl,rfl,rfl,trivial⟩ rfl rfl rfl rfl rfl
   ·refine Drv.t false ?_ (hb:=decide_eq_false k2)
    refine Drv.go ?_
    refine Drv.z ?_
    refine AK.ifj (e:=false) 0 13 (fun g=>nomatch g) (fun g=>?_)
    exact AK.back' 2 0 (inner k1 (by rw [decide_eq_false k2];rfl)) ⟨rfl,rfl,rfl,trivial⟩ rfl rfl rfl rfl rfl
  ·refine Drv.t true ?_ (hb:=decide_eq_true (by rw [l5];omega))
   refine Drv.go ?_
   refine Drv.z ?_
   refine AK.yes ?_
   refine AK.rz Tryz.func74 ?_
   rw [bad (by simp [rowB,k1])]
 ·have hie:i=c.cells.length:=by have:=of_decide_eq_false h;rw [crss_len] at this;omega
  have hr1:rowsB c.cells (sizesT n)=true:=by rw [hT,hie,List.drop_length];rfl
  rw [hr1,Bool.true_and]
  exact AK.back' 2 0 L19 ⟨rfl,rfl,trivial⟩ rfl rfl rfl rfl rfl
theorem p_confOk (n:Nd)(hr:rightS n=true)(c:Cf)(hc:CfOk c):Pure X 74 [.agg (takeC n),cf c] (vb (confN n c)):=by
 obtain ⟨hP,hE⟩:=es_len hr
 obtain ⟨fp,_,hw,hne,hkl⟩:=right_facts hr
 have hd1:=declS_le n 31
 have hd2:=declS_le n 32
 have hsz:=sizesT_len n
 have hcv:=hc.vars
 have l1:((zrs c.vars).length:Int)=c.vars.length:=by rw [zrs_len]
 have l2:((crss c.cells).length:Int)=c.cells.length:=by rw [crss_len]
 have l3:((strR (declS n 31)).length:Int)=(declS n 31).length:=by rw [strR_len]
 have l4:((strR (declS n 32)).length:Int)=(declS n 32).length:=by rw [strR_len]
 have hwp:IntKind.i64.wrap ((gAll (planL n)).pts-1)=(gAll (planL n)).pts-1:=wrap_small (by omega) (by omega)
 have hT:confN n c=confS (gAll (planL n)).pts (declS n 31).length (declS n 32).length (sizesT n) (gEs (planL n)) c:=rfl
 unfold confS at hT
 refine Pure.run Tryz.func74 ?_
 refine AK.pc (p_between c.pt 0 (IntKind.i64.wrap ((gAll (planL n)).pts-1))) ?_
 rw [hwp]
 cases h1:between c.pt 0 (((gAll (planL n)).pts:Int)-1) with
 | false =>
   rw [h1] at hT
   refine AK.gy ?_
   refine AK.gy ?_
   refine AK.gy ?_
   refine AK.gy ?_
   refine AK.gy ?_
   refine AK.yes ?_
   refine AK.rz Tryz.func74 ?_
   rw [hT];simp
 | true =>
   rw [h1] at hT
   refine AK.gn ?_
   cases h2:(c.vars.length==(declS n 31).length) with
   | false =>
     have h2':¬ c.vars.length=(declS n 31).length:=by simpa using h2
     rw [h2] at hT
     refine AK.gy ?_ (ht:=by rw [l1,l3];simp;omega)
     refine AK.gy ?_
     refine AK.gy ?_
     refine AK.gy ?_
     refine AK.yes ?_
     refine AK.rz Tryz.func74 ?_
     rw [hT];simp
   | true =>
     have h2':c.vars.length=(declS n 31).length:=by simpa using h2
     rw [h2] at hT
     refine AK.gn ?_ (ht:=by rw [l1,l3];simp;omega)
     cases h3:(c.cells.length==(declS n 32).length) with
     | false =>
       have h3':¬ c.cells.length=(declS n 32).length:=by simpa using h3
       rw [h3] at hT
       refine AK.gy ?_ (ht:=by rw [l2,l4];simp;omega)
       refine AK.gy ?_
       refine AK.gy ?_
       refine AK.yes ?_
       refine AK.rz Tryz.func74 ?_
       rw [hT];simp
     | true =>
       have h3':c.cells.length=(declS n 32).length:=by simpa using h3
       rw [h3] at hT
       refine AK.gn ?_ (ht:=by rw [l2,l4];simp;omega)
       refine AK.pc (p_between c.used 0 100) ?_
       cases h4:between c.used 0 100 with
       | false =>
         rw [h4] at hT
         refine AK.gy ?_
         refine AK.gy ?_
         refine AK.yes ?_
         refine AK.rz Tryz.func74 ?_
         rw [hT];simp
       | true =>
         rw [h4] at hT
         refine AK.gn ?_
         refine AK.pc (p_between c.steps 0 5000) ?_
         cases h5:between c.steps 0 5000 with
         | false =>
           rw [h5] at hT
           refine AK.gy ?_
           refine AK.yes ?_
           refine AK.rz Tryz.func74 ?_
           rw [hT];simp
         | true =>
           rw [h5] at hT
           refine AK.gn ?_
           refine AK.pc (p_between c.trap 0 5) ?_
           cases h6:between c.trap 0 5 with
           | false =>
             rw [h6] at hT
             refine AK.yes ?_
             refine AK.rz Tryz.func74 ?_
             rw [hT];simp
           | true =>
             rw [h6] at hT
             simp only [Bool.true_and] at hT
             rw [hT]
             refine AK.no ?_
             have L8:=p_cf8 n c hc hE (by omega)
             refine AK.while_ (ι:=Nat) 2 0 (fun i=>i≤c.vars.length∧c.vars.all isV=(c.vars.drop i).all isV) (fun i=>[(5,vi i),(2,.ptr 0 0 0),(3,.ptr 1 0 0)]) (fun _=>Ssp n c) (fun i=>c.vars.length-i) ?_ 0 ⟨Nat.zero_le _,rfl⟩
              ⟨rfl,rfl,rfl,trivial⟩ rfl rfl rfl rfl rfl (fun _=>inferInstance) (fun _=>inferInstance)
             rintro i ⟨hi,hV⟩ IH
             refine AK.ev 100 rfl ?_
             refine AK.ifj 0 8 (fun h=>?_) (fun h=>?_)
             ·have hlt:i<c.vars.length:=by have:=of_decide_eq_true h;rw [zrs_len] at this;omega
              obtain ⟨x,hx⟩:=lget_of_lt c.vars hlt
              rw [drop_cons hx,List.all_cons] at hV
              refine AK.ix i (by omega) (zrs_get hx) ?_
              refine AK.pc (p_val x) ?_
              refine AK.if_ (fun g=>?_) (fun g=>?_)
              ·have g':isV x=false:=by simpa using (show (!isV x)=true from g)
               refine AK.rz Tryz.func74 ?_
               rw [hV,g'];rfl
              ·have g':isV x=true:=by simpa using (show (!isV x)=false from g)
               exact IH (i+1) ⟨hlt,by rw [hV,g'];rfl⟩ (by omega) _ _ ⟨vint ((wrap_small (by omega) (by omega)).trans (by omega)),rfl,rfl,trivial⟩ rfl rfl rfl
             ·have hie:i=c.vars.length:=by have:=of_decide_eq_false h;rw [zrs_len] at this;omega
              have hv1:c.vars.all isV=true:=by rw [hV,hie,List.drop_length];rfl
              rw [hv1,Bool.true_and]
              exact AK.back' 2 0 L8 ⟨rfl,rfl,trivial⟩ rfl rfl rfl rfl rfl
def confOkM (n:Nd)(c:Cf):Bool:=rightS n&&confN n c
theorem p_confOkP (n:Nd)(hn:wN n≤100000000)(c:Cf)(hc:CfOk c):Pure X 22 [nd n,cf c] (vb (confOkM n c)):=by
 refine Pure.run Tryz.func22 ?_
 refine AK.dn 0 1 ?_
 refine Drv.pc (p_right n hn) ?_
 unfold confOkM
 cases hr:rightS n with
 | false =>
   refine Drv.t false ?_
   refine Drv.go ?_
   refine Drv.z ?_
   exact AK.rz Tryz.func22 rfl
 | true =>
   refine Drv.t true ?_
   refine Drv.go ?_
   refine Drv.pg (p_take n hr) ?_
   refine Drv.pg (p_confOk n hr c hc) ?_
   refine Drv.z ?_
   exact AK.rz Tryz.func22 rfl
theorem q_confOkP (n:Nd)(hn:wN n≤100000000)(hnum:PrI n)(c:Cf)(hc:CfOk c):Pure X 24 [nd n,cf c] (vb (confOkM n c)):=by
 have hcw:=count_le_w n
 have hp:=q_newProgram n (by omega) hnum
 refine Pure.run Tryz.func24 ?_
 unfold confOkM
 cases hr:rightS n with
 | false =>
   rw [if_neg (by simp [hr])] at hp
   refine AK.pc hp ?_
   refine AK.gn ?_
   exact AK.rz Tryz.func24 rfl
 | true =>
   rw [if_pos hr] at hp
   refine AK.pc hp ?_
   refine AK.gy ?_
   refine AK.pc (q_confOk n hr c hc) ?_
   exact AK.rz Tryz.func24 rfl
structure CfLn (c:Cf):Prop where
 vars:c.vars.length≤9223372036854775807
 cells:c.cells.length≤9223372036854775807
 rows:∀ x,x∈c.cells→x.length≤9223372036854775807
def swCf (c:Cf):Nat:=c.vars.length+(c.cells.length+swC c.cells)
theorem swC_le {l:List (List (Bool × Int))}{x:List (Bool × Int)}(h:x∈l):x.length≤swC l:=by
 induction l with
 | nil=>cases h
 | cons y l ih =>
   simp only [swC]
   rcases List.mem_cons.1 h with rfl | h
   ·omega
   ·have:=ih h;omega
theorem t_szCf (c:Cf)(h:CfLn c)(left:Int)(h0:0≤left)(h1:left≤1048576):Pure X 21 [cf c,vi left] (vi (szR (swCf c) left)):=by
 have l1:(zrs c.vars).length=c.vars.length:=zrs_len _
 have hI:=t_szI (zrs c.vars) left h0 h1 (by rw [l1];exact h.vars)
 rw [l1] at hI
 refine Pure.run Tryz.func21 ?_
 refine AK.pc hI ?_
 refine AK.if_ (fun g=>?_) (fun g=>?_)
 ·have g':=szR_neg h0 (of_decide_eq_true g)
  refine AK.rz Tryz.func21 ?_
  unfold swCf
  rw [szR_lt g'.2]
 ·have g':=szR_pos (show 0≤szR c.vars.length left by have:=of_decide_eq_false g;omega)
  have e0:szR (swCf c) left=szR (c.cells.length+swC c.cells) (szR c.vars.length left):=by unfold swCf;rw [szR_add g'.2,g'.1]
  rw [e0]
  have hb:0≤szR c.vars.length left∧szR c.vars.length left≤1048576:=by omega
  generalize szR c.vars.length left=lf at hb ⊢
  refine AK.pc (t_szCC c.cells lf hb.1 hb.2 h.cells h.rows) ?_
  refine AK.if_ (fun g2=>?_) (fun g2=>?_)
  ·have g2':=szR_neg hb.1 (of_decide_eq_true g2)
   refine AK.rz Tryz.func21 ?_
   rw [g2'.1]
  ·exact AK.rz Tryz.func21 rfl
theorem t_toCf (c:Cf)(hc:CfOk c):Pure X 23 [cf c] (cf c):=by
 refine Pure.run Tryz.func23 ?_
 refine AK.pc (t_toI c.vars hc.vars) ?_
 refine AK.pc (t_toCC c.cells hc.cells hc.rows) ?_
 exact AK.rz Tryz.func23 rfl
theorem t_eqCf (c:Cf)(hc:CfOk c):Pure X 25 [cf c,cf c] (vb true):=by
 refine Pure.run Tryz.func25 ?_
 refine AK.no ?_ (ht:=by simp)
 refine AK.pc (t_eqI c.vars hc.vars) ?_
 refine AK.no ?_
 refine AK.pc (t_eqCC c.cells hc.cells hc.rows) ?_
 refine AK.no ?_
 refine AK.no ?_ (ht:=by simp)
 refine AK.no ?_ (ht:=by simp)
 refine AK.no ?_ (ht:=by simp)
 refine AK.no ?_ (ht:=by simp)
 refine AK.no ?_ (ht:=by simp)
 exact AK.rz Tryz.func25 rfl
theorem t_confOk (n:Nd)(c:Cf)(hpn:PrI n)(hln:LnI n)(hlc:CfLn c):Pure X 5 [nd n,cf c] (vb true):=by
 refine Pure.run Tryz.func5 ?_
 refine AK.pc (t_sz n hln 1048576 (by omega) (by omega)) ?_
 refine AK.if_ (fun g=>?_) (fun g=>?_)
 ·exact AK.rz Tryz.func5 rfl
 have g1:=szR_pos (show 0≤szR (swN n) 1048576 by have:=of_decide_eq_false g;omega)
 refine AK.pc (t_szCf c hlc (szR (swN n) 1048576) (by omega) (by omega)) ?_
 refine AK.if_ (fun g2=>?_) (fun g2=>?_)
 ·exact AK.rz Tryz.func5 rfl
 have g3:=szR_pos (show 0≤szR (swCf c) (szR (swN n) 1048576) by have:=of_decide_eq_false g2;omega)
 have w1:=wN_sw.1 n
 have c1:=count_le_w n
 have g4:swCf c≤1048576:=by omega
 unfold swCf at g4
 have hc:CfOk c:=⟨by omega,by omega,fun x hx=>by have:=swC_le hx;omega⟩
 refine AK.db 0 ?_
 refine Drv.pg (t_to n (by omega)) ?_
 refine Drv.pg (t_toCf c hc) ?_
 refine Drv.pg (p_confOkP n (by omega) c hc) ?_
 refine Drv.z ?_
 refine AK.pc (t_to n (by omega)) ?_
 refine AK.pc (t_toCf c hc) ?_
 refine AK.pc (q_confOkP n (by omega) hpn c hc) ?_
 refine AK.no ?_ (ht:=by simp)
 refine AK.db 0 ?_
 refine Drv.pg (t_to n (by omega)) ?_
 refine Drv.pg (t_eq n (by omega)) ?_
 refine Drv.z ?_
 refine AK.no ?_
 refine AK.db 0 ?_
 refine Drv.pg (t_toCf c hc) ?_
 refine Drv.pg (t_eqCf c hc) ?_
 refine Drv.z ?_
 refine AK.no ?_
 exact AK.rz Tryz.func5 rfl
set_option maxRecDepth 100000
section
variable {H:Type}{enc:TypeId × Value→H}{w:World}{sp:Nat→Bool}{held:Bool}
theorem trod_int1 (fuel:Nat)(cs:List Value)(x:DataW H × List MemPlace)(h:DataW.trod enc Tryz.prog w 0 sp held fuel 3 cs=some x):∃ n:Int,True∧RelL w cs (icell n):=by
 obtain ⟨n,_,_,rfl⟩:=trod_i Tryz.underlying3 h
 exact ⟨n,trivial,.one (.val _)⟩
theorem trod_ints (fuel:Nat)(cs:List Value)(x:DataW H × List MemPlace)(h:DataW.trod enc Tryz.prog w 0 sp held fuel 43 cs=some x):∃ l:List Int,l.length≤9223372036854775807∧RelL w cs [.sl (zrs l) .no]:=by
 obtain ⟨l,_,h1,h2⟩:=rel_slice icell (fun _=>True) Tryz.underlying43 (show Tryz.prog.cellsOf 3=1 by kernel_rfl) (by decide) (fun y=>rfl) (fun n _ cs' x' hx'=>trod_int1 n cs' x' hx') h
 exact ⟨l,h1,h2⟩
theorem trod_cell (fuel:Nat)(cs:List Value)(x:DataW H × List MemPlace)(h:DataW.trod enc Tryz.prog w 0 sp held fuel 186 cs=some x):∃ c:Bool × Int,True∧RelL w cs (ccell c):=by
 obtain ⟨xs,n1,rfl,_,hl,hxs,hf⟩:=DataW.trod_struct Tryz.underlying186 h
 have hl2:cs.length=2:=hl.trans (by kernel_rfl)
 have hx2:xs.length=2:=hxs
 obtain ⟨c0,c1,rfl⟩:∃ a b,cs=[a,b]:=by
  rcases cs with _ | ⟨a,_ | ⟨b,_ | ⟨c,l⟩⟩⟩<;>simp at hl2
  exact ⟨a,b,rfl⟩
 obtain ⟨x0,hx0⟩:=lget_of_lt xs (i:=0) (by omega)
 obtain ⟨x1,hx1⟩:=lget_of_lt xs (i:=1) (by omega)
 have c3e:Tryz.prog.cellsOf 3=1:=by kernel_rfl
 have c4e:Tryz.prog.cellsOf 4=1:=by kernel_rfl
 have f0:DataW.trod enc Tryz.prog w 0 sp held n1 4 (([c0,c1].drop 0).take (Tryz.prog.cellsOf 4))=some x0:=(hf 0 _ rfl).trans hx0
 have f1:DataW.trod enc Tryz.prog w 0 sp held n1 3 (([c0,c1].drop 1).take (Tryz.prog.cellsOf 3))=some x1:=(hf 1 _ rfl).trans hx1
 rw [c4e] at f0
 rw [c3e] at f1
 obtain ⟨b,e0,_⟩:=DataW.trod_bool Tryz.underlying4 f0
 obtain ⟨m,_,_,e1⟩:=trod_i Tryz.underlying3 f1
 have e0':c0=.bool b:=(List.cons.inj e0).1
 have e1':c1=.int .i64 m:=(List.cons.inj e1).1
 subst e0';subst e1'
 exact ⟨(b,m),trivial,.cons (.val _) (.one (.val _))⟩
theorem trod_cells (fuel:Nat)(cs:List Value)(x:DataW H × List MemPlace)(h:DataW.trod enc Tryz.prog w 0 sp held fuel 141 cs=some x):∃ l:List (Bool × Int),l.length≤9223372036854775807∧RelL w cs (crow l):=by
 obtain ⟨l,_,h1,h2⟩:=rel_slice ccell (fun _=>True) Tryz.underlying141 (show Tryz.prog.cellsOf 186=2 by kernel_rfl) (by decide) (fun y=>rfl) (fun n _ cs' x' hx'=>trod_cell n cs' x' hx') h
 exact ⟨l,h1,h2⟩
theorem trod_cellss (fuel:Nat)(cs:List Value)(x:DataW H × List MemPlace)(h:DataW.trod enc Tryz.prog w 0 sp held fuel 44 cs=some x):∃ l:List (List (Bool × Int)),(∀ y,y∈l→y.length≤9223372036854775807)∧l.length≤9223372036854775807∧RelL w cs [.sl (crss l) .no] :=
 rel_slice crow (fun y=>y.length≤9223372036854775807) Tryz.underlying44 (show Tryz.prog.cellsOf 141=1 by kernel_rfl) (by decide) (fun y=>rfl) (fun n _ cs' x' hx'=>trod_cells n cs' x' hx') h
theorem list8 {α:Type}{l:List α}(h:l.length=8):∃ a b c d e f g i,l=[a,b,c,d,e,f,g,i]:=by
 rcases l with _ | ⟨a,_ | ⟨b,_ | ⟨c,_ | ⟨d,_ | ⟨e,_ | ⟨f,_ | ⟨g,_ | ⟨i,_ | ⟨j,l⟩⟩⟩⟩⟩⟩⟩⟩⟩<;>simp at h
 exact ⟨a,b,c,d,e,f,g,i,rfl⟩
theorem trod_cf (fuel:Nat)(cs:List Value)(x:DataW H × List MemPlace)(h:DataW.trod enc Tryz.prog w 0 sp held fuel 46 cs=some x):∃ c:Cf,CfLn c∧RelL w cs (cfcells c):=by
 obtain ⟨xs,n1,rfl,_,hl,hxs,hf⟩:=DataW.trod_struct Tryz.underlying46 h
 have hl8:cs.length=8:=hl.trans (by kernel_rfl)
 have hx8:xs.length=8:=hxs
 obtain ⟨c0,c1,c2,c3,c4,c5,c6,c7,rfl⟩:=list8 hl8
 obtain ⟨x0,x1,x2,x3,x4,x5,x6,x7,rfl⟩:=list8 hx8
 have c3e:Tryz.prog.cellsOf 3=1:=by kernel_rfl
 have cie:Tryz.prog.cellsOf 43=1:=by kernel_rfl
 have cse:Tryz.prog.cellsOf 44=1:=by kernel_rfl
 have f0:DataW.trod enc Tryz.prog w 0 sp held n1 3 (([c0,c1,c2,c3,c4,c5,c6,c7].drop 0).take (Tryz.prog.cellsOf 3))=some x0:=hf 0 _ rfl
 rw [c3e] at f0
 obtain ⟨m0,_,_,e0⟩:=trod_i Tryz.underlying3 f0
 have e0':c0=.int .i64 m0:=(List.cons.inj e0).1
 have f3:DataW.trod enc Tryz.prog w 0 sp held n1 3 (([c0,c1,c2,c3,c4,c5,c6,c7].drop 3).take (Tryz.prog.cellsOf 3))=some x3:=hf 3 _ rfl
 rw [c3e] at f3
 obtain ⟨m3,_,_,e3⟩:=trod_i Tryz.underlying3 f3
 have e3':c3=.int .i64 m3:=(List.cons.inj e3).1
 have f4:DataW.trod enc Tryz.prog w 0 sp held n1 3 (([c0,c1,c2,c3,c4,c5,c6,c7].drop 4).take (Tryz.prog.cellsOf 3))=some x4:=hf 4 _ rfl
 rw [c3e] at f4
 obtain ⟨m4,_,_,e4⟩:=trod_i Tryz.underlying3 f4
 have e4':c4=.int .i64 m4:=(List.cons.inj e4).1
 have f5:DataW.trod enc Tryz.prog w 0 sp held n1 3 (([c0,c1,c2,c3,c4,c5,c6,c7].drop 5).take (Tryz.prog.cellsOf 3))=some x5:=hf 5 _ rfl
 rw [c3e] at f5
 obtain ⟨m5,_,_,e5⟩:=trod_i Tryz.underlying3 f5
 have e5':c5=.int .i64 m5:=(List.cons.inj e5).1
 have f6:DataW.trod enc Tryz.prog w 0 sp held n1 3 (([c0,c1,c2,c3,c4,c5,c6,c7].drop 6).take (Tryz.prog.cellsOf 3))=some x6:=hf 6 _ rfl
 rw [c3e] at f6
 obtain ⟨m6,_,_,e6⟩:=trod_i Tryz.underlying3 f6
 have e6':c6=.int .i64 m6:=(List.cons.inj e6).1
 have f7:DataW.trod enc Tryz.prog w 0 sp held n1 3 (([c0,c1,c2,c3,c4,c5,c6,c7].drop 7).take (Tryz.prog.cellsOf 3))=some x7:=hf 7 _ rfl
 rw [c3e] at f7
 obtain ⟨m7,_,_,e7⟩:=trod_i Tryz.underlying3 f7
 have e7':c7=.int .i64 m7:=(List.cons.inj e7).1
 have f1:DataW.trod enc Tryz.prog w 0 sp held n1 43 (([c0,c1,c2,c3,c4,c5,c6,c7].drop 1).take (Tryz.prog.cellsOf 43))=some x1:=hf 1 _ rfl
 rw [cie] at f1
 obtain ⟨vs,v1,v2⟩:=trod_ints n1 _ _ f1
 have v2':RelL w [c1] [.sl (zrs vs) .no]:=v2
 have f2:DataW.trod enc Tryz.prog w 0 sp held n1 44 (([c0,c1,c2,c3,c4,c5,c6,c7].drop 2).take (Tryz.prog.cellsOf 44))=some x2:=hf 2 _ rfl
 rw [cse] at f2
 obtain ⟨ls,l1,l2,l3⟩:=trod_cellss n1 _ _ f2
 have l3':RelL w [c2] [.sl (crss ls) .no]:=l3
 subst e0';subst e3';subst e4';subst e5';subst e6';subst e7'
 exact ⟨⟨m0,vs,ls,m3,m4,m5,m6,m7⟩,⟨v1,l2,l1⟩,.cons (.val _) (.cons v2'.get1 (.cons l3'.get1 (.cons (.val _) (.cons (.val _) (.cons (.val _) (.cons (.val _) (.one (.val _))))))))⟩
end
theorem conf_of {H:Type}{enc:TypeId × Value→H}{W:World}{base:Nat}{v:Value}{d:DataW H}{ps:List MemPlace}(hv:Value.okWide Tryz.prog W .any base 46 v)(h:DataW.Trod enc Tryz.prog W 0 (fun _=>true) true 46 v d ps) :
 ∃ c:Cf,CfLn c∧Rel E0 W v (cf c):=by
 unfold Value.okWide at hv
 rw [Tryz.underlying46] at hv
 obtain ⟨cs,rfl,_⟩:=hv
 obtain ⟨fuel,h⟩:=h
 obtain ⟨c,h1,h3⟩:=trod_cf fuel _ _ h
 exact ⟨c,h1,h3.agg⟩
abbrev cf0V:Value:=.agg #[.int .i64 0,.slice none 0 0,.slice none 0 0,.int .i64 0,.int .i64 0,.int .i64 0,.int .i64 0,.int .i64 0]
end Go.V
namespace Go.Proofs.YtfpfmkljakiedaaGreatDoor.confOk
open Go Go.Proofs Go.V Go.ChangeShapes Go.WideShapes Go.ChangeAt Go.RowKit
set_option maxRecDepth 100000
theorem contract (H:Type)(enc:TypeId × Value→H)(W:World)(base:Nat)(args:Array Value)(ds gs:List (DataW H))(before:List MemPlace)
 (hval:∀ (j:Nat) t v,Tryz.f5.params[j]?=some t→args[j]?=some v→Value.okWide Tryz.prog W .any base t v)
 (hW:DataW.Whole enc Tryz.prog Tryz.f5.params.toList Rows.fnExactConfOkSpec.vars false W args.toList ds gs before)(hL:laidMetH Tryz.prog Rows.fnExactConfOkRow.laid W)(hs:W.ShapedOpen Tryz.prog) :
 Calls Tryz.prog 5 args W fun e W'=>∃ v,e=.returned v∧Rows.fnExactConfOkSpec.post enc Tryz.prog Tryz.f5 false true false false W args v W':=by
 have hW':=hW
 obtain ⟨p,q,hA0,_,_,_,_⟩:=hW
 have hA:DataW.TrodAll enc Tryz.prog W 0 (fun _=>true) true [24,46] args.toList ds p:=hA0
 obtain ⟨v0,vs0,d0,ds0,p0,q0,hargs,rfl,rfl,h0,r0⟩:=trodAll_cons hA
 obtain ⟨v1,vs1,d1,ds1,p1,q1,hargs1,rfl,rfl,h1,r1⟩:=trodAll_cons r0
 obtain ⟨rfl,rfl,rfl⟩:=trodAll_nil r1
 subst hargs1
 have ha0:args[0]?=some v0:=by rw [← Array.getElem?_toList,hargs];rfl
 have ha1:args[1]?=some v1:=by rw [← Array.getElem?_toList,hargs];rfl
 obtain ⟨n,n1,n2,n3⟩:=node_of (hval 0 24 v0 rfl ha0) h0
 obtain ⟨c,e2,e3⟩:=conf_of (hval 1 46 v1 rfl ha1) h1
 have hR:RelL W args.toList [nd n,cf c]:=by rw [hargs];exact .cons n3 (.cons e3 .nil)
 refine (run_law (t_confOk n c n1 n2 e2) hs hL hR).mono fun r W' ⟨he,hb⟩=>?_
 refine ⟨_,he,post_pure laidOut0 (fun t ht=>?_) rfl condVar condTy condRd condLt hW' hb (fun g1 hg=>?_) rfl Tryz.underlying4⟩
 ·have h:t∈[24,46]:=ht
  simp only [List.mem_cons,List.not_mem_nil,or_false] at h
  rcases h with rfl | rfl
  ·exact ⟨by kernel_rfl,of_decide_eq_true (by kernel_rfl)⟩
  ·exact ⟨by kernel_rfl,of_decide_eq_true (by kernel_rfl)⟩
 ·subst hg;rfl
set_option maxRecDepth 100000
theorem ab {a b:Bool}(h:a=true)(g:b=true):(a&&b)=true:=by rw [h,g];rfl
set_option maxHeartbeats 100000000 in
theorem closed:joinedFacts Tryz.pinned.checked.prog 5 Tryz.f5 (OpenSpec.ofChange Rows.fnExactConfOkSpec).bare Rows.fnExactConfOkRow=true:=by
 unfold joinedFacts
 iterate 31 refine ab ?_ ?_
 all_goals as_aux_lemma=>kernel_rfl
end Go.Proofs.YtfpfmkljakiedaaGreatDoor.confOk
