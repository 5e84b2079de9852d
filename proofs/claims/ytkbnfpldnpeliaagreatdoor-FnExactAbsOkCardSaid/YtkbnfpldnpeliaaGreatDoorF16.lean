/- A part of the proof of the claim that the last text states: no condition of its own. -/
import Derived.Test.YtkbnfpldnpeliaaGreatDoorF15
import Derived.Deep.Strs
set_option linter.unusedVariables false
set_option linter.unusedSimpArgs false
namespace Go.V
open Go Go.Proofs
theorem p_is (lo hi:Int):Pure X 182 [.agg [vi lo,vi hi]] (vb (decide (lo≤hi))):=by
 refine Pure.run Tryz.func182 ?_
 exact AK.rz Tryz.func182 rfl
def rangeB (lo hi:Int):Bool:=((lo==1)&&(hi==0))||(isV lo&&(isV hi&&decide (lo≤hi)))
theorem p_range (lo hi:Int):Pure X 134 [.agg [vi lo,vi hi]] (vb (rangeB lo hi)):=by
 refine Pure.run Tryz.func134 ?_
 refine AK.gd (fun g=>?_) (fun g=>?_)
 ·have g':(lo==1)=true:=g
  refine AK.gd (fun g2=>?_) (fun g2=>?_)
  ·have g2':(hi==0)=true:=g2
   refine AK.rz Tryz.func134 ?_
   unfold rangeB;rw [g',g2'];rfl
  ·have g2':(hi==0)=false:=g2
   have hh:((lo==1)&&(hi==0))=false:=by rw [g2'];simp
   refine AK.pc (p_is lo hi) ?_
   refine AK.gd (fun k1=>?_) (fun k1=>?_)
   ·have k1':decide (lo≤hi)=true:=k1
    refine AK.pc (p_val lo) ?_
    cases k2':isV lo with
    | true =>
      refine AK.gy ?_
      refine AK.pc (p_val hi) ?_
      refine AK.rz Tryz.func134 ?_
      simp only [rangeB,hh,k1',k2',Bool.and_true,Bool.true_and,Bool.false_or]
    | false =>
      refine AK.gn ?_
      refine AK.rz Tryz.func134 ?_
      unfold rangeB;rw [hh,k2'];rfl
   ·have k1':decide (lo≤hi)=false:=k1
    refine AK.gn ?_
    refine AK.rz Tryz.func134 ?_
    simp only [rangeB,hh,k1',Bool.and_false,Bool.or_false]
 ·have g':(lo==1)=false:=g
  have hh:((lo==1)&&(hi==0))=false:=by rw [g'];rfl
  refine AK.gn ?_
  refine AK.pc (p_is lo hi) ?_
  refine AK.gd (fun k1=>?_) (fun k1=>?_)
  ·have k1':decide (lo≤hi)=true:=k1
   refine AK.pc (p_val lo) ?_
   cases k2':isV lo with
   | true =>
     refine AK.gy ?_
     refine AK.pc (p_val hi) ?_
     refine AK.rz Tryz.func134 ?_
     simp only [rangeB,hh,k1',k2',Bool.and_true,Bool.true_and,Bool.false_or]
   | false =>
     refine AK.gn ?_
     refine AK.rz Tryz.func134 ?_
     unfold rangeB;rw [hh,k2'];rfl
  ·have k1':decide (lo≤hi)=false:=k1
   refine AK.gn ?_
   refine AK.rz Tryz.func134 ?_
   simp only [rangeB,hh,k1',Bool.and_false,Bool.or_false]
theorem p_valOk (v:Vl):Pure X 95 [.agg (vcell v)] (vb (valB v)):=by
 refine Pure.run Tryz.func95 ?_
 refine AK.pc (p_range v.lo v.hi) ?_
 exact AK.rz Tryz.func95 rfl
def lenN (nv i:Nat):Int:=1+nv+i
def segsB (size:Int)(nv:Nat):Nat→List Sg→Bool
 | _,[]=>true
 | i,x::l=>segB size (lenN nv i) x&&segsB size nv (i+1) l
def absB (size:Int)(nv na:Nat)(a:Ab):Bool :=
 if noneB a.n a.d=true then (a.sg.length:Int)==0 else factB a.n a.d&&((a.n==size)&&(((a.sg.length:Int)==na)&&segsB size nv 0 a.sg))
abbrev absN (n:Nd)(a:Ab):Bool:=absB (sSym n) (declS n 31).length (declS n 32).length a
theorem len_small {n:Nd}(hl:n.kids.length≤4500){i:Nat}(hi:i≤100000):IntKind.i64.wrap (IntKind.i64.wrap (1+((declS n 31).length:Int))+i)=lenN (declS n 31).length i:=by
 have h1:=declS_le n 31
 rw [wrap_small (n:=1+((declS n 31).length:Int)) (by omega) (by omega),wrap_small (by omega) (by omega)];rfl
theorem sS_small {n:Nd}(hl:n.kids.length≤4500):0≤sSym n∧sSym n≤100000:=by
 have h1:=declS_le n 31
 have h2:=declS_le n 32
 unfold sSym
 rw [wrap_small (n:=1+((declS n 31).length:Int)) (by omega) (by omega),wrap_small (by omega) (by omega)]
 omega
theorem p_absN (n:Nd)(hl:n.kids.length≤4500)(a:Ab)(ha:AbOk a):Pure X 32 [.agg (takeC n),ab a] (vb (absN n a)):=by
 obtain ⟨z0,z1⟩:=sS_small hl
 have hd2:=declS_le n 32
 have l1:((sgs a.sg).length:Int)=a.sg.length:=by simp [sgs]
 have l2:((strR (declS n 32)).length:Int)=(declS n 32).length:=by rw [strR_len]
 show Pure X _ _ (vb (absB _ _ _ _))
 unfold absB
 refine Pure.run Tryz.func32 ?_
 refine AK.pc (p_noneF a.n a.d) ?_
 refine AK.if_ (fun g=>?_) (fun g=>?_)
 ·have g':noneB a.n a.d=true:=g
  refine AK.rz Tryz.func32 ?_
  rw [if_pos g',l1]
 have g':¬ noneB a.n a.d=true:=by have:noneB a.n a.d=false:=g;simp [this]
 rw [if_neg g']
 refine AK.dn 0 2 ?_
 refine Drv.pc (p_facts a.n a.d) ?_
 refine Drv.gon 1 ?_
 cases h1:factB a.n a.d with
 | false =>
   refine Drv.t true ?_
   refine Drv.gon 7 ?_
   refine Drv.t true ?_
   refine Drv.go ?_
   refine Drv.z ?_
   refine AK.yes ?_
   exact AK.rz Tryz.func32 rfl
 | true =>
   refine Drv.t false ?_
   refine Drv.gon 4 ?_
   refine Drv.pc (p_size n) ?_
   refine Drv.gon 2 ?_
   cases h2:(a.n==sSym n) with
   | false =>
     refine Drv.t true ?_ (hb:=by simpa using h2)
     refine Drv.go ?_
     refine Drv.z ?_
     refine AK.yes ?_
     exact AK.rz Tryz.func32 rfl
   | true =>
     refine Drv.t false ?_ (hb:=by simpa using h2)
     refine Drv.go ?_
     refine Drv.z ?_
     refine AK.if_ (fun g3=>?_) (fun g3=>?_)
     ·have g3':((a.sg.length:Int)==(declS n 32).length)=false:=by
       have:(((sgs a.sg).length:Int) != (strR (declS n 32)).length)=true:=g3
       rw [l1,l2] at this;simpa using this
      refine AK.rz Tryz.func32 ?_
      rw [g3'];rfl
     have g3':((a.sg.length:Int)==(declS n 32).length)=true:=by
      have:(((sgs a.sg).length:Int) != (strR (declS n 32)).length)=false:=g3
      rw [l1,l2] at this;simpa using this
     have g3q:(a.sg.length:Int)=(declS n 32).length:=by simpa using g3'
     rw [g3']
     simp only [Bool.true_and]
     refine AK.while_ (ι:=Nat) 2 0 (fun i=>i≤a.sg.length∧segsB (sSym n) (declS n 31).length 0 a.sg=segsB (sSym n) (declS n 31).length i (a.sg.drop i)) (fun i=>[(5,vi i),(2,.ptr 0 0 0),(3,.ptr 1 0 0)]) (fun _=>⟨[[takeC n],[abcells a]],[]⟩) (fun i=>a.sg.length-i) ?_ 0 ⟨Nat.zero_le _,rfl⟩
      ⟨rfl,rfl,rfl,trivial⟩ rfl rfl rfl rfl rfl (fun _=>inferInstance) (fun _=>inferInstance)
     rintro i ⟨hi,hT⟩ IH
     refine AK.ev 100 rfl ?_
     refine AK.if_ (fun h=>?_) (fun h=>?_)
     ·have hlt:i<a.sg.length:=by have:=of_decide_eq_true h;rw [l2] at this;omega
      obtain ⟨x,hx⟩:=lget_of_lt a.sg hlt
      rw [drop_cons hx] at hT
      simp only [segsB] at hT
      have hle:=len_small hl (i:=i) (by omega)
      have hln:=p_length n (i:Int)
      rw [hle] at hln
      refine AK.db 0 ?_
      refine Drv.pg (p_size n) ?_
      refine Drv.pg hln ?_
      refine Drv.ru (fun S'=>Ndo.index rfl rfl rfl rfl rfl rfl rfl rfl rfl (by omega) (map_get (f:=sgcell) hx)) ?_
      refine Drv.go ?_
      refine Drv.pg (p_segOk x (ha.rows x (List.mem_of_getElem? hx)) (sSym n) (lenN (declS n 31).length i) (by omega) (by omega) (fun v _=>p_valOk v)) ?_
      refine Drv.z ?_
      refine AK.if_ (fun g2=>?_) (fun g2=>?_)
      ·have g2':segB (sSym n) (lenN (declS n 31).length i) x=false:=by simpa using (show (!segB (sSym n) (lenN (declS n 31).length i) x)=true from g2)
       refine AK.rz Tryz.func32 ?_
       rw [hT,g2'];rfl
      ·have g2':segB (sSym n) (lenN (declS n 31).length i) x=true:=by simpa using (show (!segB (sSym n) (lenN (declS n 31).length i) x)=false from g2)
       exact IH (i+1) ⟨hlt,by rw [hT,g2'];rfl⟩ (by omega) _ _ ⟨vint ((wrap_small (by omega) (by omega)).trans (by omega)),rfl,rfl,trivial⟩ rfl rfl rfl
     ·have hie:i=a.sg.length:=by have:=of_decide_eq_false h;rw [l2] at this;omega
      subst hie
      refine AK.rz Tryz.func32 ?_
      rw [hT,List.drop_length];rfl
def absOkM (n:Nd)(a:Ab):Bool:=rightS n&&absN n a
theorem p_absOk (n:Nd)(hn:wN n≤100000000)(a:Ab)(ha:AbOk a):Pure X 9 [nd n,ab a] (vb (absOkM n a)):=by
 refine Pure.run Tryz.func9 ?_
 refine AK.dn 0 1 ?_
 refine Drv.pc (p_right n hn) ?_
 unfold absOkM
 cases hr:rightS n with
 | false =>
   refine Drv.t false ?_
   refine Drv.go ?_
   refine Drv.z ?_
   exact AK.rz Tryz.func9 rfl
 | true =>
   obtain ⟨fp,_,hw,hne,hkl⟩:=right_facts hr
   refine Drv.t true ?_
   refine Drv.go ?_
   refine Drv.pg (p_take n hr) ?_
   refine Drv.pg (p_absN n hkl a ha) ?_
   refine Drv.z ?_
   exact AK.rz Tryz.func9 rfl
theorem q_nothing (a:Ab):Pure X 74 [ab a] (vb (noneB a.n a.d&&((a.sg.length:Int)==0))):=by
 have l1:((sgs a.sg).length:Int)=a.sg.length:=by simp [sgs]
 refine Pure.run Tryz.func74 ?_
 refine AK.pc (q_noneF a.n a.d) ?_
 refine AK.gd (fun g=>?_) (fun g=>?_)
 ·have g':noneB a.n a.d=true:=g
  refine AK.rz Tryz.func74 ?_
  rw [g',l1];rfl
 ·have g':noneB a.n a.d=false:=g
  refine AK.rz Tryz.func74 ?_
  rw [g'];rfl
theorem none_bad {n:Int}{d:List Int}(h:noneB n d=true):factB n d=false:=by
 simp only [noneB,Bool.and_eq_true,beq_iff_eq] at h
 unfold factB
 cases hb:between n 1 13 with
 | false=>rfl
 | true=>have:=between_iff.1 hb;omega
theorem q_absN (hV:∀ v,Pure X 155 [.agg (vcell v)] (vb (valB v)))(n:Nd)(hl:n.kids.length≤4500)(a:Ab)(ha:AbOk a):Pure X 62 [.cptr (progC n),ab a] (vb (absN n a)):=by
 obtain ⟨z0,z1⟩:=sS_small hl
 have hd2:=declS_le n 32
 have l1:((sgs a.sg).length:Int)=a.sg.length:=by simp [sgs]
 have l2:((strR (declS n 32)).length:Int)=(declS n 32).length:=by rw [strR_len]
 show Pure X _ _ (vb (absB _ _ _ _))
 unfold absB
 refine Pure.run Tryz.func62 ?_
 refine AK.pc (q_nothing a) ?_
 refine AK.if_ (fun g=>?_) (fun g=>?_)
 ·have g':(noneB a.n a.d&&((a.sg.length:Int)==0))=true:=g
  rw [Bool.and_eq_true] at g'
  refine AK.rz Tryz.func62 ?_
  rw [if_pos g'.1,g'.2]
 have g':(noneB a.n a.d&&((a.sg.length:Int)==0))=false:=g
 refine AK.dn 0 2 ?_
 refine Drv.pc (q_facts a.n a.d) ?_
 refine Drv.gon 1 ?_
 cases h1:factB a.n a.d with
 | false =>
   refine Drv.t true ?_
   refine Drv.gon 7 ?_
   refine Drv.t true ?_
   refine Drv.go ?_
   refine Drv.z ?_
   refine AK.yes ?_
   refine AK.rz Tryz.func62 ?_
   split
   ·rename_i hn
    rw [hn,Bool.true_and] at g'
    rw [g']
   ·rfl
 | true =>
   have hnn:¬ noneB a.n a.d=true:=fun h=>by rw [none_bad h] at h1;cases h1
   rw [if_neg hnn]
   refine Drv.t false ?_
   refine Drv.gon 4 ?_
   refine Drv.pc (q_size n) ?_
   refine Drv.gon 2 ?_
   cases h2:(a.n==sSym n) with
   | false =>
     refine Drv.t true ?_ (hb:=by simpa using h2)
     refine Drv.go ?_
     refine Drv.z ?_
     refine AK.yes ?_
     exact AK.rz Tryz.func62 rfl
   | true =>
     refine Drv.t false ?_ (hb:=by simpa using h2)
     refine Drv.go ?_
     refine Drv.z ?_
     refine AK.if_ (fun g3=>?_) (fun g3=>?_)
     ·have g3':((a.sg.length:Int)==(declS n 32).length)=false:=by
       have:(((sgs a.sg).length:Int) != (strR (declS n 32)).length)=true:=g3
       rw [l1,l2] at this;simpa using this
      refine AK.rz Tryz.func62 ?_
      rw [g3'];rfl
     have g3':((a.sg.length:Int)==(declS n 32).length)=true:=by
      have:(((sgs a.sg).length:Int) != (strR (declS n 32)).length)=false:=g3
      rw [l1,l2] at this;simpa using this
     have g3q:(a.sg.length:Int)=(declS n 32).length:=by simpa using g3'
     rw [g3']
     simp only [Bool.true_and]
     refine AK.while_ (ι:=Nat) 1 0 (fun i=>i≤a.sg.length∧segsB (sSym n) (declS n 31).length 0 a.sg=segsB (sSym n) (declS n 31).length i (a.sg.drop i)) (fun i=>[(35,vi i),(34,vi a.sg.length),(33,.sl (sgs a.sg) .no),(0,.cptr (progC n)),(3,.ptr 0 0 0)]) (fun _=>⟨[[abcells a]],[]⟩) (fun i=>a.sg.length-i) ?_ 0 ⟨Nat.zero_le _,rfl⟩
      ⟨rfl,vint l1,rfl,rfl,rfl,trivial⟩ rfl rfl rfl rfl rfl (fun _=>inferInstance) (fun _=>inferInstance)
     rintro i ⟨hi,hT⟩ IH
     refine AK.ev 100 rfl ?_
     refine AK.if_ (fun h=>?_) (fun h=>?_)
     ·have hlt:i<a.sg.length:=by have:=of_decide_eq_true h;omega
      obtain ⟨x,hx⟩:=lget_of_lt a.sg hlt
      rw [drop_cons hx] at hT
      simp only [segsB] at hT
      have hle:=len_small hl (i:=i) (by omega)
      have hln:=q_lenSym n (i:Int)
      rw [hle] at hln
      refine AK.ix i (by omega) (map_get (f:=sgcell) hx) ?_
      refine AK.db 0 ?_
      refine Drv.pg (q_size n) ?_
      refine Drv.pg hln ?_
      refine Drv.pg (q_segOk x (ha.rows x (List.mem_of_getElem? hx)) (sSym n) (lenN (declS n 31).length i) (by omega) (by omega) (fun v _=>hV v)) ?_
      refine Drv.z ?_
      refine AK.if_ (fun g2=>?_) (fun g2=>?_)
      ·have g2':segB (sSym n) (lenN (declS n 31).length i) x=false:=by simpa using (show (!segB (sSym n) (lenN (declS n 31).length i) x)=true from g2)
       refine AK.rz Tryz.func62 ?_
       rw [hT,g2'];rfl
      ·have g2':segB (sSym n) (lenN (declS n 31).length i) x=true:=by simpa using (show (!segB (sSym n) (lenN (declS n 31).length i) x)=false from g2)
       exact IH (i+1) ⟨hlt,by rw [hT,g2'];rfl⟩ (by omega) _ _ ⟨vint ((wrap_small (by omega) (by omega)).trans (by omega)),rfl,rfl,rfl,rfl,trivial⟩ rfl rfl rfl
     ·have hie:i=a.sg.length:=by have:=of_decide_eq_false h;omega
      subst hie
      refine AK.rz Tryz.func62 ?_
      rw [hT,List.drop_length];rfl
theorem q_newAbs1 (hV:∀ v,Pure X 155 [.agg (vcell v)] (vb (valB v)))(n:Nd)(hn:wN n≤100000000)(hnum:PrI n)(a:Ab)(ha:AbOk a):Pure X 36 [nd n,.sl [abcells a] .no] (.tup [if absOkM n a=true then .cptr (progC n) else .val (.pointer none),vb (absOkM n a)]):=by
 have hcw:=count_le_w n
 have hp:=q_newProgram n (by omega) hnum
 have hrow:([abcells a]:List (List AV))[0]?=some (abcells a):=rfl
 refine Pure.run Tryz.func36 ?_
 unfold absOkM
 cases hr:rightS n with
 | false =>
   rw [if_neg (by simp [hr])] at hp
   refine AK.pc hp ?_
   refine AK.yes ?_
   exact AK.rz Tryz.func36 rfl
 | true =>
   obtain ⟨fp,_,hw,hne,hkl⟩:=right_facts hr
   rw [if_pos hr] at hp
   refine AK.pc hp ?_
   refine AK.no ?_
   refine AK.loop ?_
   refine AK.ev 100 rfl ?_
   refine AK.yes ?_
   refine AK.ix 0 (by decide) hrow ?_
   refine AK.pc (q_absN hV n hkl a ha) ?_
   cases h2:absN n a with
   | false =>
     refine AK.yes ?_
     exact AK.rz Tryz.func36 rfl
   | true =>
     refine AK.no ?_
     refine AK.again ?_
     refine AK.ev 100 rfl ?_
     refine AK.no ?_
     exact AK.rz Tryz.func36 rfl
theorem q_absOkP (hV:∀ v,Pure X 155 [.agg (vcell v)] (vb (valB v)))(n:Nd)(hn:wN n≤100000000)(hnum:PrI n)(a:Ab)(ha:AbOk a):Pure X 12 [nd n,ab a] (vb (absOkM n a)):=by
 have hq:=q_newAbs1 hV n hn hnum a ha
 refine Pure.run Tryz.func12 ?_
 cases h:absOkM n a with
 | true =>
   rw [h,if_pos rfl] at hq
   refine AK.pc hq ?_
   exact AK.rz Tryz.func12 rfl
 | false =>
   rw [h,if_neg (by simp)] at hq
   refine AK.pc hq ?_
   exact AK.rz Tryz.func12 rfl
theorem swY_le {l:List (List (Int × Int))}{x:List (Int × Int)}(h:x∈l):x.length≤swY l:=by
 induction l with
 | nil=>cases h
 | cons y l ih =>
   simp only [swY]
   rcases List.mem_cons.1 h with rfl | h
   ·omega
   ·have:=ih h;omega
theorem swSgL_le {l:List Sg}{x:Sg}(h:x∈l):swSg x≤swSgL l:=by
 induction l with
 | nil=>cases h
 | cons y l ih =>
   simp only [swSgL]
   rcases List.mem_cons.1 h with rfl | h
   ·omega
   ·have:=ih h;omega
theorem AbOk_of {a:Ab}(h:swAb a≤1048576):AbOk a:=by
 unfold swAb at h
 refine ⟨by omega,by omega,fun x hx=>?_⟩
 have h1:=swSgL_le hx
 unfold swSg at h1
 exact ⟨by omega,fun y hy=>by have:=swY_le hy;omega,by omega,by omega⟩
theorem t_absOk (hV:∀ v,Pure X 155 [.agg (vcell v)] (vb (valB v)))(n:Nd)(a:Ab)(hpn:PrI n)(hln:LnI n)(hla:AbLn a):Pure X 3 [nd n,ab a] (vb true):=by
 refine Pure.run Tryz.func3 ?_
 refine AK.pc (t_sz n hln 1048576 (by omega) (by omega)) ?_
 refine AK.if_ (fun g=>?_) (fun g=>?_)
 ·exact AK.rz Tryz.func3 rfl
 have g1:=szR_pos (show 0≤szR (swN n) 1048576 by have:=of_decide_eq_false g;omega)
 refine AK.pc (t_szAb a hla (szR (swN n) 1048576) (by omega) (by omega)) ?_
 refine AK.if_ (fun g2=>?_) (fun g2=>?_)
 ·exact AK.rz Tryz.func3 rfl
 have g3:=szR_pos (show 0≤szR (swAb a) (szR (swN n) 1048576) by have:=of_decide_eq_false g2;omega)
 have w1:=wN_sw.1 n
 have c1:=count_le_w n
 have ha:AbOk a:=AbOk_of (by omega)
 refine AK.db 0 ?_
 refine Drv.pg (t_to n (by omega)) ?_
 refine Drv.pg (t_toAb a ha) ?_
 refine Drv.pg (p_absOk n (by omega) a ha) ?_
 refine Drv.z ?_
 refine AK.pc (t_to n (by omega)) ?_
 refine AK.pc (t_toAb a ha) ?_
 refine AK.pc (q_absOkP hV n (by omega) hpn a ha) ?_
 refine AK.no ?_ (ht:=by simp)
 refine AK.db 0 ?_
 refine Drv.pg (t_to n (by omega)) ?_
 refine Drv.pg (t_eq n (by omega)) ?_
 refine Drv.z ?_
 refine AK.no ?_
 refine AK.db 0 ?_
 refine Drv.pg (t_toAb a ha) ?_
 refine Drv.pg (t_eqAb a ha) ?_
 refine Drv.z ?_
 refine AK.no ?_
 exact AK.rz Tryz.func3 rfl
abbrev I64 (n:Int):Prop:=-9223372036854775808≤n∧n≤9223372036854775807
structure SgI (s:Sg):Prop where
 tm:∀ x,x∈s.tm→∀ c,c∈x→I64 c.1∧I64 c.2
 vs:∀ v,v∈s.vs→I64 v.lo∧I64 v.hi
structure AbI (a:Ab):Prop where
 d:∀ y,y∈a.d→I64 y
 sg:∀ s,s∈a.sg→SgI s
theorem q_range (lo hi:Int):Pure X 200 [.agg [vi lo,vi hi]] (vb (rangeB lo hi)):=by
 have hq:∀ x,Pure X 244 [vi x] (vb (isV x)):=fun x=>q_isVal x
 have hfl:flatTy X.P 157=some [0,0]:=by kernel_rfl
 refine Pure.run Tryz.func200 ?_
 refine AK.op (Ndo.eqs (r:=(lo==1)&&((hi==0)&&true)) rfl rfl rfl rfl rfl hfl rfl (.inl ⟨rfl,rfl⟩)) ?_
 refine AK.gd (fun g=>?_) (fun g=>?_)
 ·have g':((lo==1)&&((hi==0)&&true))=true:=g
  rw [Bool.and_true] at g'
  refine AK.rz Tryz.func200 ?_
  unfold rangeB;rw [g'];rfl
 ·have g':((lo==1)&&((hi==0)&&true))=false:=g
  rw [Bool.and_true] at g'
  refine AK.pc (hq lo) ?_
  unfold rangeB;rw [g',Bool.false_or]
  cases k2:isV lo with
  | true =>
    refine AK.gy ?_
    refine AK.pc (hq hi) ?_
    cases k3:isV hi with
    | true =>
      refine AK.gy ?_
      exact AK.rz Tryz.func200 rfl
    | false =>
      refine AK.gn ?_
      exact AK.rz Tryz.func200 rfl
  | false =>
    refine AK.gn ?_
    refine AK.gn ?_
    exact AK.rz Tryz.func200 rfl
theorem q_valOk (v:Vl):Pure X 155 [.agg (vcell v)] (vb (valB v)):=by
 refine Pure.run Tryz.func155 ?_
 refine AK.pc (q_range v.lo v.hi) ?_
 exact AK.rz Tryz.func155 rfl
end Go.V
namespace Go.V
open Go Go.Proofs Go.ChangeShapes Go.WideShapes Go.ChangeAt Go.RowKit Go.Deep
set_option maxRecDepth 100000
section
variable {H:Type}{enc:TypeId × Value→H}{w:World}{sp:Nat→Bool}{held:Bool}
theorem trodi (fuel:Nat)(cs:List Value)(x:DataW H × List MemPlace)(h:DataW.trod enc Tryz.prog w 0 sp held fuel 3 cs=some x):∃ n:Int,I64 n∧RelL w cs (icell n):=by
 obtain ⟨n,h0,h1,rfl⟩:=trod_i Tryz.underlying3 h
 exact ⟨n,i64_rng h0 h1,.one (.val _)⟩
theorem trodb (fuel:Nat)(cs:List Value)(x:DataW H × List MemPlace)(h:DataW.trod enc Tryz.prog w 0 sp held fuel 4 cs=some x):∃ b:Bool,True∧RelL w cs (bcell b):=by
 obtain ⟨b,rfl,_⟩:=DataW.trod_bool Tryz.underlying4 h
 exact ⟨b,trivial,.one (.val _)⟩
theorem RelL.app {cs ds:List Value}{l m:List AV}(h:RelL w cs l)(g:RelL w ds m):RelL w (cs++ds) (l++m) :=
 ⟨by simp [h.1,g.1],fun j v x h1 h2=>by
   have e:=h.1
   rw [List.getElem?_append] at h1 h2
   by_cases hj:j<cs.length
   ·rw [if_pos hj] at h1
    rw [if_pos (by omega)] at h2
    exact h.2 j v x h1 h2
   ·rw [if_neg hj] at h1
    rw [if_neg (by omega),← e] at h2
    exact g.2 _ v x h1 h2⟩
theorem list2 {α:Type}{l:List α}(h:l.length=2):∃ a b,l=[a,b]:=by
 rcases l with _ | ⟨a,_ | ⟨b,_ | ⟨c,l⟩⟩⟩<;>simp at h
 exact ⟨a,b,rfl⟩
theorem list3 {α:Type}{l:List α}(h:l.length=3):∃ a b c,l=[a,b,c]:=by
 rcases l with _ | ⟨a,_ | ⟨b,_ | ⟨c,_ | ⟨d,l⟩⟩⟩⟩<;>simp at h
 exact ⟨a,b,c,rfl⟩
theorem c3e:Tryz.prog.cellsOf 3=1:=by kernel_rfl
theorem c4e:Tryz.prog.cellsOf 4=1:=by kernel_rfl
theorem trod_sy (fuel:Nat)(cs:List Value)(x:DataW H × List MemPlace)(h:DataW.trod enc Tryz.prog w 0 sp held fuel 239 cs=some x):∃ c:Int × Int,(I64 c.1∧I64 c.2)∧RelL w cs (scell c):=by
 obtain ⟨y0,y1,n1,rfl,hl,f0,f1⟩:=trod_struct2 Tryz.underlying239 h
 have hln:cs.length=2:=hl.trans (by kernel_rfl)
 obtain ⟨c0,c1,rfl⟩:=list2 hln
 have f0':DataW.trod enc Tryz.prog w 0 sp held n1 3 (([c0,c1].drop 0).take (Tryz.prog.cellsOf 3))=some y0:=f0
 have f1':DataW.trod enc Tryz.prog w 0 sp held n1 3 (([c0,c1].drop 1).take (Tryz.prog.cellsOf 3))=some y1:=f1
 rw [c3e] at f0' f1'
 obtain ⟨a,a1,a2⟩:=trodi _ _ _ f0'
 obtain ⟨b,b1,b2⟩:=trodi _ _ _ f1'
 have a3:RelL w [c0] (icell a):=a2
 have b3:RelL w [c1] (icell b):=b2
 exact ⟨(a,b),⟨a1,b1⟩,.cons a3.get1 b3⟩
theorem trod_rg (fuel:Nat)(cs:List Value)(x:DataW H × List MemPlace)(h:DataW.trod enc Tryz.prog w 0 sp held fuel 191 cs=some x):∃ c:Int × Int,(I64 c.1∧I64 c.2)∧RelL w cs (scell c):=by
 obtain ⟨y0,y1,n1,rfl,hl,f0,f1⟩:=trod_struct2 Tryz.underlying191 h
 have hln:cs.length=2:=hl.trans (by kernel_rfl)
 obtain ⟨c0,c1,rfl⟩:=list2 hln
 have f0':DataW.trod enc Tryz.prog w 0 sp held n1 3 (([c0,c1].drop 0).take (Tryz.prog.cellsOf 3))=some y0:=f0
 have f1':DataW.trod enc Tryz.prog w 0 sp held n1 3 (([c0,c1].drop 1).take (Tryz.prog.cellsOf 3))=some y1:=f1
 rw [c3e] at f0' f1'
 obtain ⟨a,a1,a2⟩:=trodi _ _ _ f0'
 obtain ⟨b,b1,b2⟩:=trodi _ _ _ f1'
 have a3:RelL w [c0] (icell a):=a2
 have b3:RelL w [c1] (icell b):=b2
 exact ⟨(a,b),⟨a1,b1⟩,.cons a3.get1 b3⟩
theorem trod_sys (fuel:Nat)(cs:List Value)(x:DataW H × List MemPlace)(h:DataW.trod enc Tryz.prog w 0 sp held fuel 179 cs=some x):∃ l:List (Int × Int),(l.length≤9223372036854775807∧∀ c,c∈l→I64 c.1∧I64 c.2)∧RelL w cs (srow l):=by
 obtain ⟨l,h0,h1,h2⟩:=rel_slice scell (fun c=>I64 c.1∧I64 c.2) Tryz.underlying179 (show Tryz.prog.cellsOf 239=2 by kernel_rfl) (by decide) (fun y=>rfl) (fun n _ cs' x' hx'=>trod_sy n cs' x' hx') h
 exact ⟨l,⟨h1,h0⟩,h2⟩
theorem trod_syss (fuel:Nat)(cs:List Value)(x:DataW H × List MemPlace)(h:DataW.trod enc Tryz.prog w 0 sp held fuel 101 cs=some x):∃ l:List (List (Int × Int)),(∀ y,y∈l→y.length≤9223372036854775807∧∀ c,c∈y→I64 c.1∧I64 c.2)∧l.length≤9223372036854775807∧RelL w cs [.sl (syss l) .no] :=
 rel_slice srow (fun y=>y.length≤9223372036854775807∧∀ c,c∈y→I64 c.1∧I64 c.2) Tryz.underlying101 (show Tryz.prog.cellsOf 179=1 by kernel_rfl) (by decide) (fun y=>rfl) (fun n _ cs' x' hx'=>trod_sys n cs' x' hx') h
theorem trod_vl (fuel:Nat)(cs:List Value)(x:DataW H × List MemPlace)(h:DataW.trod enc Tryz.prog w 0 sp held fuel 193 cs=some x):∃ v:Vl,(I64 v.lo∧I64 v.hi)∧RelL w cs (vcell v):=by
 obtain ⟨y0,y1,n1,rfl,hl,f0,f1⟩:=trod_struct2 Tryz.underlying193 h
 have hln:cs.length=3:=hl.trans (by kernel_rfl)
 obtain ⟨c0,c1,c2,rfl⟩:=list3 hln
 have c2e:Tryz.prog.cellsOf 191=2:=by kernel_rfl
 have f0':DataW.trod enc Tryz.prog w 0 sp held n1 191 (([c0,c1,c2].drop 0).take (Tryz.prog.cellsOf 191))=some y0:=f0
 have f1':DataW.trod enc Tryz.prog w 0 sp held n1 4 (([c0,c1,c2].drop 2).take (Tryz.prog.cellsOf 4))=some y1:=f1
 rw [c2e] at f0'
 rw [c4e] at f1'
 obtain ⟨r,a1,a2⟩:=trod_rg _ _ _ f0'
 obtain ⟨b,_,b2⟩:=trodb _ _ _ f1'
 have a3:RelL w [c0,c1] (scell r):=a2
 have b3:RelL w [c2] (bcell b):=b2
 exact ⟨⟨r.1,r.2,b⟩,a1,a3.app b3⟩
theorem trod_vls (fuel:Nat)(cs:List Value)(x:DataW H × List MemPlace)(h:DataW.trod enc Tryz.prog w 0 sp held fuel 102 cs=some x):∃ l:List Vl,(∀ y,y∈l→I64 y.lo∧I64 y.hi)∧l.length≤9223372036854775807∧RelL w cs [.sl (vls l) .no] :=
 rel_slice vcell (fun v=>I64 v.lo∧I64 v.hi) Tryz.underlying102 (show Tryz.prog.cellsOf 193=3 by kernel_rfl) (by decide) (fun y=>rfl) (fun n _ cs' x' hx'=>trod_vl n cs' x' hx') h
theorem trod_bls (fuel:Nat)(cs:List Value)(x:DataW H × List MemPlace)(h:DataW.trod enc Tryz.prog w 0 sp held fuel 103 cs=some x):∃ l:List Bool,(∀ y,y∈l→True)∧l.length≤9223372036854775807∧RelL w cs [.sl (bls l) .no] :=
 rel_slice bcell (fun _=>True) Tryz.underlying103 c4e (by decide) (fun y=>rfl) (fun n _ cs' x' hx'=>trodb n cs' x' hx') h
theorem trod_is (fuel:Nat)(cs:List Value)(x:DataW H × List MemPlace)(h:DataW.trod enc Tryz.prog w 0 sp held fuel 25 cs=some x):∃ l:List Int,(∀ y,y∈l→I64 y)∧l.length≤9223372036854775807∧RelL w cs [.sl (zrs l) .no] :=
 rel_slice icell I64 Tryz.underlying25 c3e (by decide) (fun y=>rfl) (fun n _ cs' x' hx'=>trodi n cs' x' hx') h
theorem trod_sg (fuel:Nat)(cs:List Value)(x:DataW H × List MemPlace)(h:DataW.trod enc Tryz.prog w 0 sp held fuel 105 cs=some x):∃ s:Sg,(SgLn s∧SgI s)∧RelL w cs (sgcell s):=by
 obtain ⟨y0,y1,y2,n1,rfl,hl,f0,f1,f2⟩:=trod_struct3 Tryz.underlying105 h
 have hln:cs.length=3:=hl.trans (by kernel_rfl)
 obtain ⟨c0,c1,c2,rfl⟩:=list3 hln
 have k0:Tryz.prog.cellsOf 101=1:=by kernel_rfl
 have k1:Tryz.prog.cellsOf 102=1:=by kernel_rfl
 have k2:Tryz.prog.cellsOf 103=1:=by kernel_rfl
 have f0':DataW.trod enc Tryz.prog w 0 sp held n1 101 (([c0,c1,c2].drop 0).take (Tryz.prog.cellsOf 101))=some y0:=f0
 have f1':DataW.trod enc Tryz.prog w 0 sp held n1 102 (([c0,c1,c2].drop 1).take (Tryz.prog.cellsOf 102))=some y1:=f1
 have f2':DataW.trod enc Tryz.prog w 0 sp held n1 103 (([c0,c1,c2].drop 2).take (Tryz.prog.cellsOf 103))=some y2:=f2
 rw [k0] at f0'
 rw [k1] at f1'
 rw [k2] at f2'
 obtain ⟨tm,t1,t2,t3⟩:=trod_syss _ _ _ f0'
 obtain ⟨vs,v1,v2,v3⟩:=trod_vls _ _ _ f1'
 obtain ⟨ms,_,m2,m3⟩:=trod_bls _ _ _ f2'
 have t4:RelL w [c0] [.sl (syss tm) .no]:=t3
 have v4:RelL w [c1] [.sl (vls vs) .no]:=v3
 have m4:RelL w [c2] [.sl (bls ms) .no]:=m3
 exact ⟨⟨tm,vs,ms⟩,⟨⟨t2,fun x hx=>(t1 x hx).1,v2,m2⟩,⟨fun x hx=>(t1 x hx).2,v1⟩⟩,.cons t4.get1 (.cons v4.get1 m4)⟩
theorem trod_sgs (fuel:Nat)(cs:List Value)(x:DataW H × List MemPlace)(h:DataW.trod enc Tryz.prog w 0 sp held fuel 28 cs=some x):∃ l:List Sg,(∀ y,y∈l→SgLn y∧SgI y)∧l.length≤9223372036854775807∧RelL w cs [.sl (sgs l) .no] :=
 rel_slice sgcell (fun s=>SgLn s∧SgI s) Tryz.underlying28 (show Tryz.prog.cellsOf 105=3 by kernel_rfl) (by decide) (fun y=>rfl) (fun n _ cs' x' hx'=>trod_sg n cs' x' hx') h
theorem trod_fa (fuel:Nat)(cs:List Value)(x:DataW H × List MemPlace)(h:DataW.trod enc Tryz.prog w 0 sp held fuel 27 cs=some x):∃ f:Int × List Int,(f.2.length≤9223372036854775807∧∀ y,y∈f.2→I64 y)∧RelL w cs (fcells f.1 f.2):=by
 obtain ⟨y0,y1,n1,rfl,hl,f0,f1⟩:=trod_struct2 Tryz.underlying27 h
 have hln:cs.length=2:=hl.trans (by kernel_rfl)
 obtain ⟨c0,c1,rfl⟩:=list2 hln
 have k1:Tryz.prog.cellsOf 25=1:=by kernel_rfl
 have f0':DataW.trod enc Tryz.prog w 0 sp held n1 3 (([c0,c1].drop 0).take (Tryz.prog.cellsOf 3))=some y0:=f0
 have f1':DataW.trod enc Tryz.prog w 0 sp held n1 25 (([c0,c1].drop 1).take (Tryz.prog.cellsOf 25))=some y1:=f1
 rw [c3e] at f0'
 rw [k1] at f1'
 obtain ⟨a,_,a2⟩:=trodi _ _ _ f0'
 obtain ⟨d,d1,d2,d3⟩:=trod_is _ _ _ f1'
 have a3:RelL w [c0] (icell a):=a2
 have d4:RelL w [c1] [.sl (zrs d) .no]:=d3
 exact ⟨(a,d),⟨d2,d1⟩,.cons a3.get1 d4⟩
theorem trod_ab (fuel:Nat)(cs:List Value)(x:DataW H × List MemPlace)(h:DataW.trod enc Tryz.prog w 0 sp held fuel 30 cs=some x):∃ a:Ab,(AbLn a∧AbI a)∧RelL w cs (abcells a):=by
 obtain ⟨y0,y1,n1,rfl,hl,f0,f1⟩:=trod_struct2 Tryz.underlying30 h
 have hln:cs.length=3:=hl.trans (by kernel_rfl)
 obtain ⟨c0,c1,c2,rfl⟩:=list3 hln
 have k0:Tryz.prog.cellsOf 27=2:=by kernel_rfl
 have k1:Tryz.prog.cellsOf 28=1:=by kernel_rfl
 have f0':DataW.trod enc Tryz.prog w 0 sp held n1 27 (([c0,c1,c2].drop 0).take (Tryz.prog.cellsOf 27))=some y0:=f0
 have f1':DataW.trod enc Tryz.prog w 0 sp held n1 28 (([c0,c1,c2].drop 2).take (Tryz.prog.cellsOf 28))=some y1:=f1
 rw [k0] at f0'
 rw [k1] at f1'
 obtain ⟨f,d1,d2⟩:=trod_fa _ _ _ f0'
 obtain ⟨sg,s1,s2,s3⟩:=trod_sgs _ _ _ f1'
 have d3:RelL w [c0,c1] (fcells f.1 f.2):=d2
 have s4:RelL w [c2] [.sl (sgs sg) .no]:=s3
 exact ⟨⟨f.1,f.2,sg⟩,⟨⟨d1.1,s2,fun x hx=>(s1 x hx).1⟩,⟨d1.2,fun x hx=>(s1 x hx).2⟩⟩,d3.app s4⟩
end
theorem abs_of {H:Type}{enc:TypeId × Value→H}{W:World}{base:Nat}{v:Value}{d:DataW H}{ps:List MemPlace}(hv:Value.okWide Tryz.prog W .any base 30 v)(h:DataW.Trod enc Tryz.prog W 0 (fun _=>true) true 30 v d ps) :
 ∃ a:Ab,AbLn a∧AbI a∧Rel E0 W v (ab a):=by
 unfold Value.okWide at hv
 rw [Tryz.underlying30] at hv
 obtain ⟨cs,rfl,_⟩:=hv
 obtain ⟨fuel,h⟩:=h
 obtain ⟨a,h1,h3⟩:=trod_ab fuel _ _ h
 exact ⟨a,h1.1,h1.2,h3.agg⟩
abbrev ab0V:Value:=.agg #[.int .i64 0,.slice none 0 0,.slice none 0 0]
theorem trodVars_all {H:Type}{enc:TypeId × Value→H}{P:Program}(hl:laidOutB P=true){W W':World}{sp':Nat→Bool}(hb:Below W.heap.size W W'):∀ {ns:List String}{gs:List (DataW H)}{ps:List MemPlace},
 (∀ n,n∈ns→∃ g t,P.globalNamed n=some g∧(P.globals[g]?).map (·.type)=some t∧P.readableRec t=true∧t<P.types.size)→DataW.TrodVars enc P W (fun _=>true) ns gs ps→(∀ p∈ps,W.sameAt W' p)→(∀ p∈ps,sp' p.block=true)→DataW.TrodVars enc P W' sp' ns gs ps
 | [],[],_,_,h,_,_=>h
 | n::ns,d::gs,_,hn,⟨g,t,cs,fuel,p,q,h1,h2,h3,h4,h5,rfl⟩,hs,hsp=>by
   obtain ⟨g',t',k1,k2,hr,hlt⟩:=hn n (by simp)
   obtain rfl:=Option.some.inj (k1.symm.trans h1)
   obtain rfl:=Option.some.inj (k2.symm.trans h2)
   obtain ⟨fuel',h6⟩:=WideElems.Trod_stays (sp':=sp') hl hr hlt (show DataW.Trod enc P W 0 (fun _=>true) true t' (.agg cs) d p from ⟨fuel,h4⟩) (fun x hx=>hs x (by simp [hx])) (fun x hx=>hsp x (by simp [hx]))
   refine ⟨g',t',cs,fuel',p,q,h1,h2,?_,h6,trodVars_all hl hb (fun x hx=>hn x (by simp [hx])) h5 (fun x hx=>hs x (by simp [hx])) (fun x hx=>hsp x (by simp [hx])),rfl⟩
   unfold World.var? at h3 ⊢
   rw [h1] at h3 ⊢
   simp only [Option.bind_some] at h3 ⊢
   have hgl:g'<W.heap.size:=by
    rcases Nat.lt_or_ge g' W.heap.size with h' | h'
    ·exact h'
    ·simp [Array.getElem?_eq_none h'] at h3
   rw [hb.block g' hgl];exact h3
 | [],_::_,_,_,h,_,_=>h.elim
 | _::_,[],_,_,h,_,_=>h.elim
theorem trodVars_len {H:Type}{enc:TypeId × Value→H}{P:Program}{W:World}{sp:Nat→Bool}:∀ {ns:List String}{gs:List (DataW H)}{ps:List MemPlace},DataW.TrodVars enc P W sp ns gs ps→gs.length=ns.length
 | [],[],_,_=>rfl
 | _::_,_::_,_,⟨_,_,_,_,_,_,_,_,_,_,h,_⟩=>congrArg (·+1) (trodVars_len h)
 | [],_::_,_,h=>h.elim
 | _::_,[],_,h=>h.elim
theorem post_vars {H:Type}{enc:TypeId × Value→H}{P:Program}{fn:Func}{s:ChangeSpec}{apart fresh handsOn:Bool}{W W':World}{args:Array Value}{ds gs:List (DataW H)}{before:List MemPlace}
 (hl:laidOutB P=true)(hp:∀ t,t∈fn.params.toList→P.readableRec t=true∧t<P.types.size)(hn:∀ n,n∈s.vars→∃ g t,P.globalNamed n=some g∧(P.globals[g]?).map (·.type)=some t∧P.readableRec t=true∧t<P.types.size)
 (hW:DataW.Whole enc P fn.params.toList s.vars apart W args.toList ds gs before)(hb:Below W.heap.size W W')
 (hargs:gs.length=s.vars.length→s.fn H (ds++gs)={ results:=[.lit (.bool true)],args:=ds,vars:=gs }){tb:Nat}(hres:fn.resultTypes=#[tb])(htb:P.underlying tb=some .bool) :
 s.post enc P fn apart fresh handsOn false W args (.bool true) W':=by
 have hW':=hW
 obtain ⟨p,q,hA,hV,rfl,hfz,hnd⟩:=hW
 have hlt':∀ x,x∈p++q→x.block<W.heap.size:=fun x hx=>hW'.lt x hx
 have e:=hargs (trodVars_len hV)
 refine ⟨ds,gs,p++q,[],p,q,hW',?_,?_,?_,hb.frame _,fun h=>by cases h⟩
 ·rw [e,hres];exact trodAll_cons_mk (shut_bool htb _) trodAll_mk0
 ·rw [e]
  exact trodAll_stays hl hp hA (fun x hx=>hb.same (hlt' x (by simp [hx]))) (fun x hx=>by simpa using hlt' x (by simp [hx]))
 ·rw [e]
  exact trodVars_all hl hb hn hV (fun x hx=>hb.same (hlt' x (by simp [hx]))) (fun x hx=>by simpa using hlt' x (by simp [hx]))
theorem noneVar:Tryz.prog.globalNamed "loop.example/g00093/impl.none" = some 0:=by kernel_rfl
theorem noneTy:(Tryz.prog.globals[0]?).map (·.type)=some 157:=by kernel_rfl
theorem noneRd:Tryz.prog.readableRec 157=true:=by kernel_rfl
theorem noneLt:157<Tryz.prog.types.size:=of_decide_eq_true (by kernel_rfl)
end Go.V
namespace Go.Proofs.YtkbnfpldnpeliaaGreatDoor.absOk
open Go Go.Proofs Go.V Go.ChangeShapes Go.WideShapes Go.ChangeAt Go.RowKit
set_option maxRecDepth 100000
theorem contract (H:Type)(enc:TypeId × Value→H)(W:World)(base:Nat)(args:Array Value)(ds gs:List (DataW H))(before:List MemPlace)
 (hval:∀ (j:Nat) t v,Tryz.f3.params[j]?=some t→args[j]?=some v→Value.okWide Tryz.prog W .any base t v)
 (hW:DataW.Whole enc Tryz.prog Tryz.f3.params.toList Rows.fnExactAbsOkSpec.vars false W args.toList ds gs before)(hL:laidMetH Tryz.prog Rows.fnExactAbsOkRow.laid W)(hs:W.ShapedOpen Tryz.prog) :
 Calls Tryz.prog 3 args W fun e W'=>∃ v,e=.returned v∧Rows.fnExactAbsOkSpec.post enc Tryz.prog Tryz.f3 false true false false W args v W':=by
 have hW':=hW
 obtain ⟨p,q,hA0,_,_,_,_⟩:=hW
 have hA:DataW.TrodAll enc Tryz.prog W 0 (fun _=>true) true [24,30] args.toList ds p:=hA0
 obtain ⟨v0,vs0,d0,ds0,p0,q0,hargs,rfl,rfl,h0,r0⟩:=trodAll_cons hA
 obtain ⟨v1,vs1,d1,ds1,p1,q1,hargs1,rfl,rfl,h1,r1⟩:=trodAll_cons r0
 obtain ⟨rfl,rfl,rfl⟩:=trodAll_nil r1
 subst hargs1
 have ha0:args[0]?=some v0:=by rw [← Array.getElem?_toList,hargs];rfl
 have ha1:args[1]?=some v1:=by rw [← Array.getElem?_toList,hargs];rfl
 obtain ⟨n,n1,n2,n3⟩:=node_of (hval 0 24 v0 rfl ha0) h0
 obtain ⟨a,a1,a2,a3⟩:=abs_of (hval 1 30 v1 rfl ha1) h1
 have hR:RelL W args.toList [nd n,ab a]:=by rw [hargs];exact .cons n3 (.cons a3 .nil)
 refine (run_law (t_absOk q_valOk n a n1 n2 a1) hs hL hR).mono fun r W' ⟨he,hb⟩=>?_
 refine ⟨_,he,post_vars laidOut0 (fun t ht=>?_) (fun n hn=>?_) hW' hb (fun hg=>?_) rfl Tryz.underlying4⟩
 ·have h:t∈[24,30]:=ht
  simp only [List.mem_cons,List.not_mem_nil,or_false] at h
  rcases h with rfl | rfl
  ·exact ⟨by kernel_rfl,of_decide_eq_true (by kernel_rfl)⟩
  ·exact ⟨by kernel_rfl,of_decide_eq_true (by kernel_rfl)⟩
 ·have h:n∈["loop.example/g00093/impl.condWords", "loop.example/g00093/impl.none"]:=hn
  simp only [List.mem_cons,List.not_mem_nil,or_false] at h
  rcases h with rfl | rfl
  ·exact ⟨_,_,condVar,condTy,condRd,condLt⟩
  ·exact ⟨_,_,noneVar,noneTy,noneRd,noneLt⟩
 ·obtain ⟨g1,g2,rfl⟩:=list2 hg;rfl
set_option maxRecDepth 100000
theorem ab {a b:Bool}(h:a=true)(g:b=true):(a&&b)=true:=by rw [h,g];rfl
set_option maxHeartbeats 100000000 in
theorem closed:joinedFacts Tryz.pinned.checked.prog 3 Tryz.f3 (OpenSpec.ofChange Rows.fnExactAbsOkSpec).bare Rows.fnExactAbsOkRow=true:=by
 unfold joinedFacts
 iterate 31 refine ab ?_ ?_
 all_goals as_aux_lemma=>kernel_rfl
end Go.Proofs.YtkbnfpldnpeliaaGreatDoor.absOk
