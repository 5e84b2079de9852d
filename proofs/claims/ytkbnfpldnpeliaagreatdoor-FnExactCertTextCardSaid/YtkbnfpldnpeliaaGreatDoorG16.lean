/- A part of the proof of the claim that the last text states: no condition of its own. -/
import Derived.Test.YtkbnfpldnpeliaaGreatDoorG15
import Derived.Deep.Strs
import Derived.Lib.ItoaLen
set_option linter.unusedVariables false
set_option linter.unusedSimpArgs false
namespace Go.V
open Go Go.Proofs
theorem p_is (lo hi:Int):Pure X 182 [.agg [vi lo,vi hi]] (vb (decide (lo≤hi))):=by
 refine Pure.run Tryz.func182 ?_
 exact AK.rz Tryz.func182 rfl
def rangeB (lo hi:Int):Bool:=((lo==1)&&(hi==0))||(isV lo&&(isV hi&&decide (lo≤hi)))
theorem p_range (lo hi:Int):Pure X 134 [.agg [vi lo,vi hi]] (vb (rangeB lo hi)):=by
 refine Pure.run Tryz.func134 ?_
 refine AK.gd (fun g=>?_) (fun g=>?_)
 ·have g':(lo==1)=true:=g
  refine AK.gd (fun g2=>?_) (fun g2=>?_)
  ·have g2':(hi==0)=true:=g2
   refine AK.rz Tryz.func134 ?_
   unfold rangeB;rw [g',g2'];rfl
  ·have g2':(hi==0)=false:=g2
   have hh:((lo==1)&&(hi==0))=false:=by rw [g2'];simp
   refine AK.pc (p_is lo hi) ?_
   refine AK.gd (fun k1=>?_) (fun k1=>?_)
   ·have k1':decide (lo≤hi)=true:=k1
    refine AK.pc (p_val lo) ?_
    cases k2':isV lo with
    | true =>
      refine AK.gy ?_
      refine AK.pc (p_val hi) ?_
      refine AK.rz Tryz.func134 ?_
      simp only [rangeB,hh,k1',k2',Bool.and_true,Bool.true_and,Bool.false_or]
    | false =>
      refine AK.gn ?_
      refine AK.rz Tryz.func134 ?_
      unfold rangeB;rw [hh,k2'];rfl
   ·have k1':decide (lo≤hi)=false:=k1
    refine AK.gn ?_
    refine AK.rz Tryz.func134 ?_
    simp only [rangeB,hh,k1',Bool.and_false,Bool.or_false]
 ·have g':(lo==1)=false:=g
  have hh:((lo==1)&&(hi==0))=false:=by rw [g'];rfl
  refine AK.gn ?_
  refine AK.pc (p_is lo hi) ?_
  refine AK.gd (fun k1=>?_) (fun k1=>?_)
  ·have k1':decide (lo≤hi)=true:=k1
   refine AK.pc (p_val lo) ?_
   cases k2':isV lo with
   | true =>
     refine AK.gy ?_
     refine AK.pc (p_val hi) ?_
     refine AK.rz Tryz.func134 ?_
     simp only [rangeB,hh,k1',k2',Bool.and_true,Bool.true_and,Bool.false_or]
   | false =>
     refine AK.gn ?_
     refine AK.rz Tryz.func134 ?_
     unfold rangeB;rw [hh,k2'];rfl
  ·have k1':decide (lo≤hi)=false:=k1
   refine AK.gn ?_
   refine AK.rz Tryz.func134 ?_
   simp only [rangeB,hh,k1',Bool.and_false,Bool.or_false]
theorem p_valOk (v:Vl):Pure X 95 [.agg (vcell v)] (vb (valB v)):=by
 refine Pure.run Tryz.func95 ?_
 refine AK.pc (p_range v.lo v.hi) ?_
 exact AK.rz Tryz.func95 rfl
def lenN (nv i:Nat):Int:=1+nv+i
def segsB (size:Int)(nv:Nat):Nat→List Sg→Bool
 | _,[]=>true
 | i,x::l=>segB size (lenN nv i) x&&segsB size nv (i+1) l
def absB (size:Int)(nv na:Nat)(a:Ab):Bool :=
 if noneB a.n a.d=true then (a.sg.length:Int)==0 else factB a.n a.d&&((a.n==size)&&(((a.sg.length:Int)==na)&&segsB size nv 0 a.sg))
abbrev absN (n:Nd)(a:Ab):Bool:=absB (sSym n) (declS n 31).length (declS n 32).length a
theorem len_small {n:Nd}(hl:n.kids.length≤4500){i:Nat}(hi:i≤100000):IntKind.i64.wrap (IntKind.i64.wrap (1+((declS n 31).length:Int))+i)=lenN (declS n 31).length i:=by
 have h1:=declS_le n 31
 rw [wrap_small (n:=1+((declS n 31).length:Int)) (by omega) (by omega),wrap_small (by omega) (by omega)];rfl
theorem sS_small {n:Nd}(hl:n.kids.length≤4500):0≤sSym n∧sSym n≤100000:=by
 have h1:=declS_le n 31
 have h2:=declS_le n 32
 unfold sSym
 rw [wrap_small (n:=1+((declS n 31).length:Int)) (by omega) (by omega),wrap_small (by omega) (by omega)]
 omega
theorem p_absN (n:Nd)(hl:n.kids.length≤4500)(a:Ab)(ha:AbOk a):Pure X 32 [.agg (takeC n),ab a] (vb (absN n a)):=by
 obtain ⟨z0,z1⟩:=sS_small hl
 have hd2:=declS_le n 32
 have l1:((sgs a.sg).length:Int)=a.sg.length:=by simp [sgs]
 have l2:((strR (declS n 32)).length:Int)=(declS n 32).length:=by rw [strR_len]
 show Pure X _ _ (vb (absB _ _ _ _))
 unfold absB
 refine Pure.run Tryz.func32 ?_
 refine AK.pc (p_noneF a.n a.d) ?_
 refine AK.if_ (fun g=>?_) (fun g=>?_)
 ·have g':noneB a.n a.d=true:=g
  refine AK.rz Tryz.func32 ?_
  rw [if_pos g',l1]
 have g':¬ noneB a.n a.d=true:=by have:noneB a.n a.d=false:=g;simp [this]
 rw [if_neg g']
 refine AK.dn 0 2 ?_
 refine Drv.pc (p_facts a.n a.d) ?_
 refine Drv.gon 1 ?_
 cases h1:factB a.n a.d with
 | false =>
   refine Drv.t true ?_
   refine Drv.gon 7 ?_
   refine Drv.t true ?_
   refine Drv.go ?_
   refine Drv.z ?_
   refine AK.yes ?_
   exact AK.rz Tryz.func32 rfl
 | true =>
   refine Drv.t false ?_
   refine Drv.gon 4 ?_
   refine Drv.pc (p_size n) ?_
   refine Drv.gon 2 ?_
   cases h2:(a.n==sSym n) with
   | false =>
     refine Drv.t true ?_ (hb:=by simpa using h2)
     refine Drv.go ?_
     refine Drv.z ?_
     refine AK.yes ?_
     exact AK.rz Tryz.func32 rfl
   | true =>
     refine Drv.t false ?_ (hb:=by simpa using h2)
     refine Drv.go ?_
     refine Drv.z ?_
     refine AK.if_ (fun g3=>?_) (fun g3=>?_)
     ·have g3':((a.sg.length:Int)==(declS n 32).length)=false:=by
       have:(((sgs a.sg).length:Int) != (strR (declS n 32)).length)=true:=g3
       rw [l1,l2] at this;simpa using this
      refine AK.rz Tryz.func32 ?_
      rw [g3'];rfl
     have g3':((a.sg.length:Int)==(declS n 32).length)=true:=by
      have:(((sgs a.sg).length:Int) != (strR (declS n 32)).length)=false:=g3
      rw [l1,l2] at this;simpa using this
     have g3q:(a.sg.length:Int)=(declS n 32).length:=by simpa using g3'
     rw [g3']
     simp only [Bool.true_and]
     refine AK.while_ (ι:=Nat) 2 0 (fun i=>i≤a.sg.length∧segsB (sSym n) (declS n 31).length 0 a.sg=segsB (sSym n) (declS n 31).length i (a.sg.drop i)) (fun i=>[(5,vi i),(2,.ptr 0 0 0),(3,.ptr 1 0 0)]) (fun _=>⟨[[takeC n],[abcells a]],[]⟩) (fun i=>a.sg.length-i) ?_ 0 ⟨Nat.zero_le _,rfl⟩
      ⟨rfl,rfl,rfl,trivial⟩ rfl rfl rfl rfl rfl (fun _=>inferInstance) (fun _=>inferInstance)
     rintro i ⟨hi,hT⟩ IH
     refine AK.ev 100 rfl ?_
     refine AK.if_ (fun h=>?_) (fun h=>?_)
     ·have hlt:i<a.sg.length:=by have:=of_decide_eq_true h;rw [l2] at this;omega
      obtain ⟨x,hx⟩:=lget_of_lt a.sg hlt
      rw [drop_cons hx] at hT
      simp only [segsB] at hT
      have hle:=len_small hl (i:=i) (by omega)
      have hln:=p_length n (i:Int)
      rw [hle] at hln
      refine AK.db 0 ?_
      refine Drv.pg (p_size n) ?_
      refine Drv.pg hln ?_
      refine Drv.ru (fun S'=>Ndo.index rfl rfl rfl rfl rfl rfl rfl rfl rfl (by omega) (map_get (f:=sgcell) hx)) ?_
      refine Drv.go ?_
      refine Drv.pg (p_segOk x (ha.rows x (List.mem_of_getElem? hx)) (sSym n) (lenN (declS n 31).length i) (by omega) (by omega) (fun v _=>p_valOk v)) ?_
      refine Drv.z ?_
      refine AK.if_ (fun g2=>?_) (fun g2=>?_)
      ·have g2':segB (sSym n) (lenN (declS n 31).length i) x=false:=by simpa using (show (!segB (sSym n) (lenN (declS n 31).length i) x)=true from g2)
       refine AK.rz Tryz.func32 ?_
       rw [hT,g2'];rfl
      ·have g2':segB (sSym n) (lenN (declS n 31).length i) x=true:=by simpa using (show (!segB (sSym n) (lenN (declS n 31).length i) x)=false from g2)
       exact IH (i+1) ⟨hlt,by rw [hT,g2'];rfl⟩ (by omega) _ _ ⟨vint ((wrap_small (by omega) (by omega)).trans (by omega)),rfl,rfl,trivial⟩ rfl rfl rfl
     ·have hie:i=a.sg.length:=by have:=of_decide_eq_false h;rw [l2] at this;omega
      subst hie
      refine AK.rz Tryz.func32 ?_
      rw [hT,List.drop_length];rfl
theorem q_nothing (a:Ab):Pure X 74 [ab a] (vb (noneB a.n a.d&&((a.sg.length:Int)==0))):=by
 have l1:((sgs a.sg).length:Int)=a.sg.length:=by simp [sgs]
 refine Pure.run Tryz.func74 ?_
 refine AK.pc (q_noneF a.n a.d) ?_
 refine AK.gd (fun g=>?_) (fun g=>?_)
 ·have g':noneB a.n a.d=true:=g
  refine AK.rz Tryz.func74 ?_
  rw [g',l1];rfl
 ·have g':noneB a.n a.d=false:=g
  refine AK.rz Tryz.func74 ?_
  rw [g'];rfl
theorem none_bad {n:Int}{d:List Int}(h:noneB n d=true):factB n d=false:=by
 simp only [noneB,Bool.and_eq_true,beq_iff_eq] at h
 unfold factB
 cases hb:between n 1 13 with
 | false=>rfl
 | true=>have:=between_iff.1 hb;omega
theorem q_absN (hV:∀ v,Pure X 155 [.agg (vcell v)] (vb (valB v)))(n:Nd)(hl:n.kids.length≤4500)(a:Ab)(ha:AbOk a):Pure X 62 [.cptr (progC n),ab a] (vb (absN n a)):=by
 obtain ⟨z0,z1⟩:=sS_small hl
 have hd2:=declS_le n 32
 have l1:((sgs a.sg).length:Int)=a.sg.length:=by simp [sgs]
 have l2:((strR (declS n 32)).length:Int)=(declS n 32).length:=by rw [strR_len]
 show Pure X _ _ (vb (absB _ _ _ _))
 unfold absB
 refine Pure.run Tryz.func62 ?_
 refine AK.pc (q_nothing a) ?_
 refine AK.if_ (fun g=>?_) (fun g=>?_)
 ·have g':(noneB a.n a.d&&((a.sg.length:Int)==0))=true:=g
  rw [Bool.and_eq_true] at g'
  refine AK.rz Tryz.func62 ?_
  rw [if_pos g'.1,g'.2]
 have g':(noneB a.n a.d&&((a.sg.length:Int)==0))=false:=g
 refine AK.dn 0 2 ?_
 refine Drv.pc (q_facts a.n a.d) ?_
 refine Drv.gon 1 ?_
 cases h1:factB a.n a.d with
 | false =>
   refine Drv.t true ?_
   refine Drv.gon 7 ?_
   refine Drv.t true ?_
   refine Drv.go ?_
   refine Drv.z ?_
   refine AK.yes ?_
   refine AK.rz Tryz.func62 ?_
   split
   ·rename_i hn
    rw [hn,Bool.true_and] at g'
    rw [g']
   ·rfl
 | true =>
   have hnn:¬ noneB a.n a.d=true:=fun h=>by rw [none_bad h] at h1;cases h1
   rw [if_neg hnn]
   refine Drv.t false ?_
   refine Drv.gon 4 ?_
   refine Drv.pc (q_size n) ?_
   refine Drv.gon 2 ?_
   cases h2:(a.n==sSym n) with
   | false =>
     refine Drv.t true ?_ (hb:=by simpa using h2)
     refine Drv.go ?_
     refine Drv.z ?_
     refine AK.yes ?_
     exact AK.rz Tryz.func62 rfl
   | true =>
     refine Drv.t false ?_ (hb:=by simpa using h2)
     refine Drv.go ?_
     refine Drv.z ?_
     refine AK.if_ (fun g3=>?_) (fun g3=>?_)
     ·have g3':((a.sg.length:Int)==(declS n 32).length)=false:=by
       have:(((sgs a.sg).length:Int) != (strR (declS n 32)).length)=true:=g3
       rw [l1,l2] at this;simpa using this
      refine AK.rz Tryz.func62 ?_
      rw [g3'];rfl
     have g3':((a.sg.length:Int)==(declS n 32).length)=true:=by
      have:(((sgs a.sg).length:Int) != (strR (declS n 32)).length)=false:=g3
      rw [l1,l2] at this;simpa using this
     have g3q:(a.sg.length:Int)=(declS n 32).length:=by simpa using g3'
     rw [g3']
     simp only [Bool.true_and]
     refine AK.while_ (ι:=Nat) 1 0 (fun i=>i≤a.sg.length∧segsB (sSym n) (declS n 31).length 0 a.sg=segsB (sSym n) (declS n 31).length i (a.sg.drop i)) (fun i=>[(35,vi i),(34,vi a.sg.length),(33,.sl (sgs a.sg) .no),(0,.cptr (progC n)),(3,.ptr 0 0 0)]) (fun _=>⟨[[abcells a]],[]⟩) (fun i=>a.sg.length-i) ?_ 0 ⟨Nat.zero_le _,rfl⟩
      ⟨rfl,vint l1,rfl,rfl,rfl,trivial⟩ rfl rfl rfl rfl rfl (fun _=>inferInstance) (fun _=>inferInstance)
     rintro i ⟨hi,hT⟩ IH
     refine AK.ev 100 rfl ?_
     refine AK.if_ (fun h=>?_) (fun h=>?_)
     ·have hlt:i<a.sg.length:=by have:=of_decide_eq_true h;omega
      obtain ⟨x,hx⟩:=lget_of_lt a.sg hlt
      rw [drop_cons hx] at hT
      simp only [segsB] at hT
      have hle:=len_small hl (i:=i) (by omega)
      have hln:=q_lenSym n (i:Int)
      rw [hle] at hln
      refine AK.ix i (by omega) (map_get (f:=sgcell) hx) ?_
      refine AK.db 0 ?_
      refine Drv.pg (q_size n) ?_
      refine Drv.pg hln ?_
      refine Drv.pg (q_segOk x (ha.rows x (List.mem_of_getElem? hx)) (sSym n) (lenN (declS n 31).length i) (by omega) (by omega) (fun v _=>hV v)) ?_
      refine Drv.z ?_
      refine AK.if_ (fun g2=>?_) (fun g2=>?_)
      ·have g2':segB (sSym n) (lenN (declS n 31).length i) x=false:=by simpa using (show (!segB (sSym n) (lenN (declS n 31).length i) x)=true from g2)
       refine AK.rz Tryz.func62 ?_
       rw [hT,g2'];rfl
      ·have g2':segB (sSym n) (lenN (declS n 31).length i) x=true:=by simpa using (show (!segB (sSym n) (lenN (declS n 31).length i) x)=false from g2)
       exact IH (i+1) ⟨hlt,by rw [hT,g2'];rfl⟩ (by omega) _ _ ⟨vint ((wrap_small (by omega) (by omega)).trans (by omega)),rfl,rfl,rfl,rfl,trivial⟩ rfl rfl rfl
     ·have hie:i=a.sg.length:=by have:=of_decide_eq_false h;omega
      subst hie
      refine AK.rz Tryz.func62 ?_
      rw [hT,List.drop_length];rfl
theorem swY_le {l:List (List (Int × Int))}{x:List (Int × Int)}(h:x∈l):x.length≤swY l:=by
 induction l with
 | nil=>cases h
 | cons y l ih =>
   simp only [swY]
   rcases List.mem_cons.1 h with rfl | h
   ·omega
   ·have:=ih h;omega
theorem swSgL_le {l:List Sg}{x:Sg}(h:x∈l):swSg x≤swSgL l:=by
 induction l with
 | nil=>cases h
 | cons y l ih =>
   simp only [swSgL]
   rcases List.mem_cons.1 h with rfl | h
   ·omega
   ·have:=ih h;omega
theorem AbOk_of {a:Ab}(h:swAb a≤1048576):AbOk a:=by
 unfold swAb at h
 refine ⟨by omega,by omega,fun x hx=>?_⟩
 have h1:=swSgL_le hx
 unfold swSg at h1
 exact ⟨by omega,fun y hy=>by have:=swY_le hy;omega,by omega,by omega⟩
abbrev I64 (n:Int):Prop:=-9223372036854775808≤n∧n≤9223372036854775807
structure SgI (s:Sg):Prop where
 tm:∀ x,x∈s.tm→∀ c,c∈x→I64 c.1∧I64 c.2
 vs:∀ v,v∈s.vs→I64 v.lo∧I64 v.hi
structure AbI (a:Ab):Prop where
 d:∀ y,y∈a.d→I64 y
 sg:∀ s,s∈a.sg→SgI s
theorem q_range (lo hi:Int):Pure X 200 [.agg [vi lo,vi hi]] (vb (rangeB lo hi)):=by
 have hq:∀ x,Pure X 244 [vi x] (vb (isV x)):=fun x=>q_isVal x
 have hfl:flatTy X.P 157=some [0,0]:=by kernel_rfl
 refine Pure.run Tryz.func200 ?_
 refine AK.op (Ndo.eqs (r:=(lo==1)&&((hi==0)&&true)) rfl rfl rfl rfl rfl hfl rfl (.inl ⟨rfl,rfl⟩)) ?_
 refine AK.gd (fun g=>?_) (fun g=>?_)
 ·have g':((lo==1)&&((hi==0)&&true))=true:=g
  rw [Bool.and_true] at g'
  refine AK.rz Tryz.func200 ?_
  unfold rangeB;rw [g'];rfl
 ·have g':((lo==1)&&((hi==0)&&true))=false:=g
  rw [Bool.and_true] at g'
  refine AK.pc (hq lo) ?_
  unfold rangeB;rw [g',Bool.false_or]
  cases k2:isV lo with
  | true =>
    refine AK.gy ?_
    refine AK.pc (hq hi) ?_
    cases k3:isV hi with
    | true =>
      refine AK.gy ?_
      exact AK.rz Tryz.func200 rfl
    | false =>
      refine AK.gn ?_
      exact AK.rz Tryz.func200 rfl
  | false =>
    refine AK.gn ?_
    refine AK.gn ?_
    exact AK.rz Tryz.func200 rfl
theorem q_valOk (v:Vl):Pure X 155 [.agg (vcell v)] (vb (valB v)):=by
 refine Pure.run Tryz.func155 ?_
 refine AK.pc (q_range v.lo v.hi) ?_
 exact AK.rz Tryz.func155 rfl
end Go.V
namespace Go.V
open Go Go.Proofs Go.ChangeShapes Go.WideShapes Go.ChangeAt Go.RowKit Go.Deep
set_option maxRecDepth 100000
section
variable {H:Type}{enc:TypeId × Value→H}{w:World}{sp:Nat→Bool}{held:Bool}
theorem trodi (fuel:Nat)(cs:List Value)(x:DataW H × List MemPlace)(h:DataW.trod enc Tryz.prog w 0 sp held fuel 3 cs=some x):∃ n:Int,I64 n∧RelL w cs (icell n):=by
 obtain ⟨n,h0,h1,rfl⟩:=trod_i Tryz.underlying3 h
 exact ⟨n,i64_rng h0 h1,.one (.val _)⟩
theorem trodb (fuel:Nat)(cs:List Value)(x:DataW H × List MemPlace)(h:DataW.trod enc Tryz.prog w 0 sp held fuel 4 cs=some x):∃ b:Bool,True∧RelL w cs (bcell b):=by
 obtain ⟨b,rfl,_⟩:=DataW.trod_bool Tryz.underlying4 h
 exact ⟨b,trivial,.one (.val _)⟩
theorem RelL.app {cs ds:List Value}{l m:List AV}(h:RelL w cs l)(g:RelL w ds m):RelL w (cs++ds) (l++m) :=
 ⟨by simp [h.1,g.1],fun j v x h1 h2=>by
   have e:=h.1
   rw [List.getElem?_append] at h1 h2
   by_cases hj:j<cs.length
   ·rw [if_pos hj] at h1
    rw [if_pos (by omega)] at h2
    exact h.2 j v x h1 h2
   ·rw [if_neg hj] at h1
    rw [if_neg (by omega),← e] at h2
    exact g.2 _ v x h1 h2⟩
theorem list2 {α:Type}{l:List α}(h:l.length=2):∃ a b,l=[a,b]:=by
 rcases l with _ | ⟨a,_ | ⟨b,_ | ⟨c,l⟩⟩⟩<;>simp at h
 exact ⟨a,b,rfl⟩
theorem list3 {α:Type}{l:List α}(h:l.length=3):∃ a b c,l=[a,b,c]:=by
 rcases l with _ | ⟨a,_ | ⟨b,_ | ⟨c,_ | ⟨d,l⟩⟩⟩⟩<;>simp at h
 exact ⟨a,b,c,rfl⟩
theorem c3e:Tryz.prog.cellsOf 3=1:=by kernel_rfl
theorem c4e:Tryz.prog.cellsOf 4=1:=by kernel_rfl
theorem trod_sy (fuel:Nat)(cs:List Value)(x:DataW H × List MemPlace)(h:DataW.trod enc Tryz.prog w 0 sp held fuel 239 cs=some x):∃ c:Int × Int,(I64 c.1∧I64 c.2)∧RelL w cs (scell c):=by
 obtain ⟨y0,y1,n1,rfl,hl,f0,f1⟩:=trod_struct2 Tryz.underlying239 h
 have hln:cs.length=2:=hl.trans (by kernel_rfl)
 obtain ⟨c0,c1,rfl⟩:=list2 hln
 have f0':DataW.trod enc Tryz.prog w 0 sp held n1 3 (([c0,c1].drop 0).take (Tryz.prog.cellsOf 3))=some y0:=f0
 have f1':DataW.trod enc Tryz.prog w 0 sp held n1 3 (([c0,c1].drop 1).take (Tryz.prog.cellsOf 3))=some y1:=f1
 rw [c3e] at f0' f1'
 obtain ⟨a,a1,a2⟩:=trodi _ _ _ f0'
 obtain ⟨b,b1,b2⟩:=trodi _ _ _ f1'
 have a3:RelL w [c0] (icell a):=a2
 have b3:RelL w [c1] (icell b):=b2
 exact ⟨(a,b),⟨a1,b1⟩,.cons a3.get1 b3⟩
theorem trod_rg (fuel:Nat)(cs:List Value)(x:DataW H × List MemPlace)(h:DataW.trod enc Tryz.prog w 0 sp held fuel 191 cs=some x):∃ c:Int × Int,(I64 c.1∧I64 c.2)∧RelL w cs (scell c):=by
 obtain ⟨y0,y1,n1,rfl,hl,f0,f1⟩:=trod_struct2 Tryz.underlying191 h
 have hln:cs.length=2:=hl.trans (by kernel_rfl)
 obtain ⟨c0,c1,rfl⟩:=list2 hln
 have f0':DataW.trod enc Tryz.prog w 0 sp held n1 3 (([c0,c1].drop 0).take (Tryz.prog.cellsOf 3))=some y0:=f0
 have f1':DataW.trod enc Tryz.prog w 0 sp held n1 3 (([c0,c1].drop 1).take (Tryz.prog.cellsOf 3))=some y1:=f1
 rw [c3e] at f0' f1'
 obtain ⟨a,a1,a2⟩:=trodi _ _ _ f0'
 obtain ⟨b,b1,b2⟩:=trodi _ _ _ f1'
 have a3:RelL w [c0] (icell a):=a2
 have b3:RelL w [c1] (icell b):=b2
 exact ⟨(a,b),⟨a1,b1⟩,.cons a3.get1 b3⟩
theorem trod_sys (fuel:Nat)(cs:List Value)(x:DataW H × List MemPlace)(h:DataW.trod enc Tryz.prog w 0 sp held fuel 179 cs=some x):∃ l:List (Int × Int),(l.length≤9223372036854775807∧∀ c,c∈l→I64 c.1∧I64 c.2)∧RelL w cs (srow l):=by
 obtain ⟨l,h0,h1,h2⟩:=rel_slice scell (fun c=>I64 c.1∧I64 c.2) Tryz.underlying179 (show Tryz.prog.cellsOf 239=2 by kernel_rfl) (by decide) (fun y=>rfl) (fun n _ cs' x' hx'=>trod_sy n cs' x' hx') h
 exact ⟨l,⟨h1,h0⟩,h2⟩
theorem trod_syss (fuel:Nat)(cs:List Value)(x:DataW H × List MemPlace)(h:DataW.trod enc Tryz.prog w 0 sp held fuel 101 cs=some x):∃ l:List (List (Int × Int)),(∀ y,y∈l→y.length≤9223372036854775807∧∀ c,c∈y→I64 c.1∧I64 c.2)∧l.length≤9223372036854775807∧RelL w cs [.sl (syss l) .no] :=
 rel_slice srow (fun y=>y.length≤9223372036854775807∧∀ c,c∈y→I64 c.1∧I64 c.2) Tryz.underlying101 (show Tryz.prog.cellsOf 179=1 by kernel_rfl) (by decide) (fun y=>rfl) (fun n _ cs' x' hx'=>trod_sys n cs' x' hx') h
theorem trod_vl (fuel:Nat)(cs:List Value)(x:DataW H × List MemPlace)(h:DataW.trod enc Tryz.prog w 0 sp held fuel 193 cs=some x):∃ v:Vl,(I64 v.lo∧I64 v.hi)∧RelL w cs (vcell v):=by
 obtain ⟨y0,y1,n1,rfl,hl,f0,f1⟩:=trod_struct2 Tryz.underlying193 h
 have hln:cs.length=3:=hl.trans (by kernel_rfl)
 obtain ⟨c0,c1,c2,rfl⟩:=list3 hln
 have c2e:Tryz.prog.cellsOf 191=2:=by kernel_rfl
 have f0':DataW.trod enc Tryz.prog w 0 sp held n1 191 (([c0,c1,c2].drop 0).take (Tryz.prog.cellsOf 191))=some y0:=f0
 have f1':DataW.trod enc Tryz.prog w 0 sp held n1 4 (([c0,c1,c2].drop 2).take (Tryz.prog.cellsOf 4))=some y1:=f1
 rw [c2e] at f0'
 rw [c4e] at f1'
 obtain ⟨r,a1,a2⟩:=trod_rg _ _ _ f0'
 obtain ⟨b,_,b2⟩:=trodb _ _ _ f1'
 have a3:RelL w [c0,c1] (scell r):=a2
 have b3:RelL w [c2] (bcell b):=b2
 exact ⟨⟨r.1,r.2,b⟩,a1,a3.app b3⟩
theorem trod_vls (fuel:Nat)(cs:List Value)(x:DataW H × List MemPlace)(h:DataW.trod enc Tryz.prog w 0 sp held fuel 102 cs=some x):∃ l:List Vl,(∀ y,y∈l→I64 y.lo∧I64 y.hi)∧l.length≤9223372036854775807∧RelL w cs [.sl (vls l) .no] :=
 rel_slice vcell (fun v=>I64 v.lo∧I64 v.hi) Tryz.underlying102 (show Tryz.prog.cellsOf 193=3 by kernel_rfl) (by decide) (fun y=>rfl) (fun n _ cs' x' hx'=>trod_vl n cs' x' hx') h
theorem trod_bls (fuel:Nat)(cs:List Value)(x:DataW H × List MemPlace)(h:DataW.trod enc Tryz.prog w 0 sp held fuel 103 cs=some x):∃ l:List Bool,(∀ y,y∈l→True)∧l.length≤9223372036854775807∧RelL w cs [.sl (bls l) .no] :=
 rel_slice bcell (fun _=>True) Tryz.underlying103 c4e (by decide) (fun y=>rfl) (fun n _ cs' x' hx'=>trodb n cs' x' hx') h
theorem trod_is (fuel:Nat)(cs:List Value)(x:DataW H × List MemPlace)(h:DataW.trod enc Tryz.prog w 0 sp held fuel 25 cs=some x):∃ l:List Int,(∀ y,y∈l→I64 y)∧l.length≤9223372036854775807∧RelL w cs [.sl (zrs l) .no] :=
 rel_slice icell I64 Tryz.underlying25 c3e (by decide) (fun y=>rfl) (fun n _ cs' x' hx'=>trodi n cs' x' hx') h
theorem trod_sg (fuel:Nat)(cs:List Value)(x:DataW H × List MemPlace)(h:DataW.trod enc Tryz.prog w 0 sp held fuel 105 cs=some x):∃ s:Sg,(SgLn s∧SgI s)∧RelL w cs (sgcell s):=by
 obtain ⟨y0,y1,y2,n1,rfl,hl,f0,f1,f2⟩:=trod_struct3 Tryz.underlying105 h
 have hln:cs.length=3:=hl.trans (by kernel_rfl)
 obtain ⟨c0,c1,c2,rfl⟩:=list3 hln
 have k0:Tryz.prog.cellsOf 101=1:=by kernel_rfl
 have k1:Tryz.prog.cellsOf 102=1:=by kernel_rfl
 have k2:Tryz.prog.cellsOf 103=1:=by kernel_rfl
 have f0':DataW.trod enc Tryz.prog w 0 sp held n1 101 (([c0,c1,c2].drop 0).take (Tryz.prog.cellsOf 101))=some y0:=f0
 have f1':DataW.trod enc Tryz.prog w 0 sp held n1 102 (([c0,c1,c2].drop 1).take (Tryz.prog.cellsOf 102))=some y1:=f1
 have f2':DataW.trod enc Tryz.prog w 0 sp held n1 103 (([c0,c1,c2].drop 2).take (Tryz.prog.cellsOf 103))=some y2:=f2
 rw [k0] at f0'
 rw [k1] at f1'
 rw [k2] at f2'
 obtain ⟨tm,t1,t2,t3⟩:=trod_syss _ _ _ f0'
 obtain ⟨vs,v1,v2,v3⟩:=trod_vls _ _ _ f1'
 obtain ⟨ms,_,m2,m3⟩:=trod_bls _ _ _ f2'
 have t4:RelL w [c0] [.sl (syss tm) .no]:=t3
 have v4:RelL w [c1] [.sl (vls vs) .no]:=v3
 have m4:RelL w [c2] [.sl (bls ms) .no]:=m3
 exact ⟨⟨tm,vs,ms⟩,⟨⟨t2,fun x hx=>(t1 x hx).1,v2,m2⟩,⟨fun x hx=>(t1 x hx).2,v1⟩⟩,.cons t4.get1 (.cons v4.get1 m4)⟩
theorem trod_sgs (fuel:Nat)(cs:List Value)(x:DataW H × List MemPlace)(h:DataW.trod enc Tryz.prog w 0 sp held fuel 28 cs=some x):∃ l:List Sg,(∀ y,y∈l→SgLn y∧SgI y)∧l.length≤9223372036854775807∧RelL w cs [.sl (sgs l) .no] :=
 rel_slice sgcell (fun s=>SgLn s∧SgI s) Tryz.underlying28 (show Tryz.prog.cellsOf 105=3 by kernel_rfl) (by decide) (fun y=>rfl) (fun n _ cs' x' hx'=>trod_sg n cs' x' hx') h
theorem trod_fa (fuel:Nat)(cs:List Value)(x:DataW H × List MemPlace)(h:DataW.trod enc Tryz.prog w 0 sp held fuel 27 cs=some x):∃ f:Int × List Int,(f.2.length≤9223372036854775807∧∀ y,y∈f.2→I64 y)∧RelL w cs (fcells f.1 f.2):=by
 obtain ⟨y0,y1,n1,rfl,hl,f0,f1⟩:=trod_struct2 Tryz.underlying27 h
 have hln:cs.length=2:=hl.trans (by kernel_rfl)
 obtain ⟨c0,c1,rfl⟩:=list2 hln
 have k1:Tryz.prog.cellsOf 25=1:=by kernel_rfl
 have f0':DataW.trod enc Tryz.prog w 0 sp held n1 3 (([c0,c1].drop 0).take (Tryz.prog.cellsOf 3))=some y0:=f0
 have f1':DataW.trod enc Tryz.prog w 0 sp held n1 25 (([c0,c1].drop 1).take (Tryz.prog.cellsOf 25))=some y1:=f1
 rw [c3e] at f0'
 rw [k1] at f1'
 obtain ⟨a,_,a2⟩:=trodi _ _ _ f0'
 obtain ⟨d,d1,d2,d3⟩:=trod_is _ _ _ f1'
 have a3:RelL w [c0] (icell a):=a2
 have d4:RelL w [c1] [.sl (zrs d) .no]:=d3
 exact ⟨(a,d),⟨d2,d1⟩,.cons a3.get1 d4⟩
theorem trod_ab (fuel:Nat)(cs:List Value)(x:DataW H × List MemPlace)(h:DataW.trod enc Tryz.prog w 0 sp held fuel 30 cs=some x):∃ a:Ab,(AbLn a∧AbI a)∧RelL w cs (abcells a):=by
 obtain ⟨y0,y1,n1,rfl,hl,f0,f1⟩:=trod_struct2 Tryz.underlying30 h
 have hln:cs.length=3:=hl.trans (by kernel_rfl)
 obtain ⟨c0,c1,c2,rfl⟩:=list3 hln
 have k0:Tryz.prog.cellsOf 27=2:=by kernel_rfl
 have k1:Tryz.prog.cellsOf 28=1:=by kernel_rfl
 have f0':DataW.trod enc Tryz.prog w 0 sp held n1 27 (([c0,c1,c2].drop 0).take (Tryz.prog.cellsOf 27))=some y0:=f0
 have f1':DataW.trod enc Tryz.prog w 0 sp held n1 28 (([c0,c1,c2].drop 2).take (Tryz.prog.cellsOf 28))=some y1:=f1
 rw [k0] at f0'
 rw [k1] at f1'
 obtain ⟨f,d1,d2⟩:=trod_fa _ _ _ f0'
 obtain ⟨sg,s1,s2,s3⟩:=trod_sgs _ _ _ f1'
 have d3:RelL w [c0,c1] (fcells f.1 f.2):=d2
 have s4:RelL w [c2] [.sl (sgs sg) .no]:=s3
 exact ⟨⟨f.1,f.2,sg⟩,⟨⟨d1.1,s2,fun x hx=>(s1 x hx).1⟩,⟨d1.2,fun x hx=>(s1 x hx).2⟩⟩,d3.app s4⟩
end
theorem trodVars_all {H:Type}{enc:TypeId × Value→H}{P:Program}(hl:laidOutB P=true){W W':World}{sp':Nat→Bool}(hb:Below W.heap.size W W'):∀ {ns:List String}{gs:List (DataW H)}{ps:List MemPlace},
 (∀ n,n∈ns→∃ g t,P.globalNamed n=some g∧(P.globals[g]?).map (·.type)=some t∧P.readableRec t=true∧t<P.types.size)→DataW.TrodVars enc P W (fun _=>true) ns gs ps→(∀ p∈ps,W.sameAt W' p)→(∀ p∈ps,sp' p.block=true)→DataW.TrodVars enc P W' sp' ns gs ps
 | [],[],_,_,h,_,_=>h
 | n::ns,d::gs,_,hn,⟨g,t,cs,fuel,p,q,h1,h2,h3,h4,h5,rfl⟩,hs,hsp=>by
   obtain ⟨g',t',k1,k2,hr,hlt⟩:=hn n (by simp)
   obtain rfl:=Option.some.inj (k1.symm.trans h1)
   obtain rfl:=Option.some.inj (k2.symm.trans h2)
   obtain ⟨fuel',h6⟩:=WideElems.Trod_stays (sp':=sp') hl hr hlt (show DataW.Trod enc P W 0 (fun _=>true) true t' (.agg cs) d p from ⟨fuel,h4⟩) (fun x hx=>hs x (by simp [hx])) (fun x hx=>hsp x (by simp [hx]))
   refine ⟨g',t',cs,fuel',p,q,h1,h2,?_,h6,trodVars_all hl hb (fun x hx=>hn x (by simp [hx])) h5 (fun x hx=>hs x (by simp [hx])) (fun x hx=>hsp x (by simp [hx])),rfl⟩
   unfold World.var? at h3 ⊢
   rw [h1] at h3 ⊢
   simp only [Option.bind_some] at h3 ⊢
   have hgl:g'<W.heap.size:=by
    rcases Nat.lt_or_ge g' W.heap.size with h' | h'
    ·exact h'
    ·simp [Array.getElem?_eq_none h'] at h3
   rw [hb.block g' hgl];exact h3
 | [],_::_,_,_,h,_,_=>h.elim
 | _::_,[],_,_,h,_,_=>h.elim
theorem trodVars_len {H:Type}{enc:TypeId × Value→H}{P:Program}{W:World}{sp:Nat→Bool}:∀ {ns:List String}{gs:List (DataW H)}{ps:List MemPlace},DataW.TrodVars enc P W sp ns gs ps→gs.length=ns.length
 | [],[],_,_=>rfl
 | _::_,_::_,_,⟨_,_,_,_,_,_,_,_,_,_,h,_⟩=>congrArg (·+1) (trodVars_len h)
 | [],_::_,_,h=>h.elim
 | _::_,[],_,h=>h.elim
theorem post_vars {H:Type}{enc:TypeId × Value→H}{P:Program}{fn:Func}{s:ChangeSpec}{apart fresh handsOn:Bool}{W W':World}{args:Array Value}{ds gs:List (DataW H)}{before:List MemPlace}
 (hl:laidOutB P=true)(hp:∀ t,t∈fn.params.toList→P.readableRec t=true∧t<P.types.size)(hn:∀ n,n∈s.vars→∃ g t,P.globalNamed n=some g∧(P.globals[g]?).map (·.type)=some t∧P.readableRec t=true∧t<P.types.size)
 (hW:DataW.Whole enc P fn.params.toList s.vars apart W args.toList ds gs before)(hb:Below W.heap.size W W')
 (hargs:gs.length=s.vars.length→s.fn H (ds++gs)={ results:=[.lit (.bool true)],args:=ds,vars:=gs }){tb:Nat}(hres:fn.resultTypes=#[tb])(htb:P.underlying tb=some .bool) :
 s.post enc P fn apart fresh handsOn false W args (.bool true) W':=by
 have hW':=hW
 obtain ⟨p,q,hA,hV,rfl,hfz,hnd⟩:=hW
 have hlt':∀ x,x∈p++q→x.block<W.heap.size:=fun x hx=>hW'.lt x hx
 have e:=hargs (trodVars_len hV)
 refine ⟨ds,gs,p++q,[],p,q,hW',?_,?_,?_,hb.frame _,fun h=>by cases h⟩
 ·rw [e,hres];exact trodAll_cons_mk (shut_bool htb _) trodAll_mk0
 ·rw [e]
  exact trodAll_stays hl hp hA (fun x hx=>hb.same (hlt' x (by simp [hx]))) (fun x hx=>by simpa using hlt' x (by simp [hx]))
 ·rw [e]
  exact trodVars_all hl hb hn hV (fun x hx=>hb.same (hlt' x (by simp [hx]))) (fun x hx=>by simpa using hlt' x (by simp [hx]))
theorem noneVar:Tryz.prog.globalNamed "loop.example/g00093/impl.none" = some 0:=by kernel_rfl
theorem noneTy:(Tryz.prog.globals[0]?).map (·.type)=some 157:=by kernel_rfl
theorem noneRd:Tryz.prog.readableRec 157=true:=by kernel_rfl
theorem noneLt:157<Tryz.prog.types.size:=of_decide_eq_true (by kernel_rfl)
end Go.V
namespace Go.V
open Go
section
variable {X:Cx}{S:St}{F:Frm}{N:Nat}{ops:Array Oper}{i:Nat}{o:Oper}
theorem bytesR_len (s:List UInt8):(bytesR s).length=s.length:=by simp [bytesR]
theorem flatv_u8 (s:List UInt8):flatv s.length 1 (fun i _=>.int .u8 (s.getD i 0).toNat)=u8s s:=by
 apply List.ext_getElem?
 intro j
 by_cases hj:j<s.length
 ·have:=flatv_get (n:=s.length) (sz:=1) (vals:=fun i _=>.int .u8 (s.getD i 0).toNat) hj (Nat.zero_lt_one)
  rw [Nat.mul_one,Nat.add_zero] at this
  obtain ⟨x,hx⟩:=lget_of_lt s hj
  rw [this,u8s_get hx];simp [List.getD,hx]
 ·rw [List.getElem?_eq_none (by rw [flatv_len];omega),List.getElem?_eq_none (by rw [u8s_len];omega)]
theorem Ndo.appS {c:Call}{p q:Operand}{t tt tx e n:Nat}{y yx ye:Ty}{rows res:List (List AV)}{s:List UInt8}{tk:List Nat}(hS:S.toks[t]?=some n)(hn:rows.length=n)(hl:allLen 1 rows=true)(hne:Nat.ble 1 s.length=true)(hb:rows.length+s.length≤100000000000)
 (hres:rows++bytesR s=res)(htk:S.toks.set t (rows.length+s.length)=tk)
 (ho:ops[i]?=some o:=by rfl)(hw:wantA ops F o=some true:=by rfl)(hop:o.op=.call c:=by rfl)(hcal:c.callee=.builtin .append:=by rfl)(hargs:c.args.toList=[p,q]:=by rfl)
 (htys:c.argTypes.toList=[tt,tx]:=by rfl)(hp:opr X F p=some (.sl rows (.tok t)):=by rfl)(hq:opr X F q=some (str s):=by rfl)(hy:X.ty tt=some y:=by rfl)(hyk:y.k=.slc e:=by rfl)(hye:X.ty e=some ye:=by rfl)(h1:ye.size=1:=by rfl)(hyx:X.ty tx=some yx:=by rfl)
 (hyxk:yx.k=.string:=by rfl):Ndo X N ops i o F (.sl res (.tok t)) S ⟨S.boxes,tk⟩:=by
 subst htk;subst hres;subst hn
 intro F' E w a hlk hI hF
 obtain ⟨callee,args,argTypes⟩:=c
 simp only at hcal hargs htys
 subst hcal
 have ha:args=#[p,q]:=by rw [← Array.toList_inj];exact hargs
 have ht:argTypes=#[tt,tx]:=by rw [← Array.toList_inj];exact htys
 subst ha;subst ht
 have hlo:=looks_of hlk
 rw [hop] at hlo
 have r1:=opr_sound hI hF ((opr_congr (X:=X) (F:=F) (F':=F') (o:=p) fun s hs=>hlo s (by simp [Op.operands,Call.operands,hs])).trans hp)
 have r2:=opr_sound hI hF ((opr_congr (X:=X) (F:=F) (F':=F') (o:=q) fun s hs=>hlo s (by simp [Op.operands,Call.operands,hs])).trans hq)
 obtain ⟨d1,hd1,hk1⟩:=(X.ty_ok tt y hy).agg
 simp only [hyk] at hk1
 obtain ⟨rfl,ye',hye',hne0⟩:=hk1
 obtain ⟨d2,hd2,hk2⟩:=(X.ty_ok tx yx hyx).agg
 simp only [hyxk] at hk2
 subst hk2
 generalize hv:a.eval q=v at r2
 cases r2
 have hsrc:=src_str (w:=w) hd2 s
 rw [← flatv_u8,← bytesR_len s,← h1] at hsrc
 have hb1:=bytesR_len s
 obtain ⟨v,E',w',g1,g2,g3,g4⟩:=append_src hI (ty:=o.type) (new:=bytesR s) hd1 hye (by omega) r1 hsrc (fun i' j' r x hi hj=>by
  simp only [bytesR,List.getElem?_map] at hi
  cases hx:s[i']? with
  | none=>rw [hx] at hi;cases hi
  | some b =>
    rw [hx] at hi;cases hi
    cases j' with
    | zero=>simp at hj;subst hj;simp only [List.getD,hx,Option.getD_some];exact .val _
    | succ j'=>simp at hj) hS (fun r hr=>by rw [h1];exact allLen_eq.1 hl r hr) (fun r hr=>by rw [h1];obtain ⟨b,_,rfl⟩:=List.mem_map.1 hr;rfl) (fun h=>by rw [h] at hb1;simp at hb1;rw [← hb1] at hne;simp at hne) (by rw [hb1];exact hb)
 rw [hb1] at g2
 exact Does.val ho (wanted_of hF (by rw [wantA_congr hlk];exact hw)) (by simp [execOp,hop,resolve,invoke,builtin,hv,g1]) (.inl rfl) ⟨E',g2,g3,g4⟩
theorem Ndo.appB {c:Call}{p q:Operand}{t tt tx te e:Nat}{y yx ye:Ty}{s s':List UInt8}{new:List (List AV)}{sp:Sp}{tk:List Nat}(hb:s.length+s'.length≤100000000000)(hne:s'≠[])(hnew:new=bytesR s')(htk:S.toks.set t (s.length+s'.length)=tk)(hS:S.toks[t]?=some s.length)
 (ho:ops[i]?=some o:=by rfl)(hw:wantA ops F o=some true:=by rfl)(hop:o.op=.call c:=by rfl)(hcal:c.callee=.builtin .append:=by rfl)(hargs:c.args.toList=[p,q]:=by rfl)
 (htys:c.argTypes.toList=[tt,tx]:=by rfl)(hp:opr X F p=some (.buf te s t):=by rfl)(hq:opr X F q=some (.sl new sp):=by rfl)(hy:X.ty tt=some y:=by rfl)(hyk:y.k=.slc te:=by rfl)(hye:X.ty te=some ye:=by rfl)(h1:ye.size=1:=by rfl)(hyx:X.ty tx=some yx:=by rfl)
 (hyxk:yx.k=.slc e:=by rfl):Ndo X N ops i o F (.buf te (s++s') t) S ⟨S.boxes,tk⟩:=by
 subst htk;subst hnew
 intro F' E w a hlk hI hF
 obtain ⟨callee,args,argTypes⟩:=c
 simp only at hcal hargs htys
 subst hcal
 have ha:args=#[p,q]:=by rw [← Array.toList_inj];exact hargs
 have ht:argTypes=#[tt,tx]:=by rw [← Array.toList_inj];exact htys
 subst ha;subst ht
 have hlo:=looks_of hlk
 rw [hop] at hlo
 have r1:=opr_sound hI hF ((opr_congr (X:=X) (F:=F) (F':=F') (o:=p) fun s hs=>hlo s (by simp [Op.operands,Call.operands,hs])).trans hp)
 have r2:=opr_sound hI hF ((opr_congr (X:=X) (F:=F) (F':=F') (o:=q) fun s hs=>hlo s (by simp [Op.operands,Call.operands,hs])).trans hq)
 obtain ⟨d1,hd1,hk1⟩:=(X.ty_ok tt y hy).agg
 simp only [hyk] at hk1
 obtain ⟨rfl,ye',hye',hne0⟩:=hk1
 obtain ⟨d2,hd2,hk2⟩:=(X.ty_ok tx yx hyx).agg
 simp only [hyxk] at hk2
 obtain ⟨rfl,_⟩:=hk2
 obtain ⟨vals,hsrc,hr⟩:=src_of (size:=1) hd2 r2 (fun r hr=>by obtain ⟨b,_,rfl⟩:=List.mem_map.1 hr;rfl) (fun r hr x hx=>by
  obtain ⟨b,_,rfl⟩:=List.mem_map.1 hr
  simp at hx;subst hx;rfl) (fun h=>hne (List.length_eq_zero_iff.1 (by rw [← bytesR_len,h];rfl)))
 have e:flatv (bytesR s').length 1 vals=u8s s':=by
  rw [bytesR_len,← flatv_u8]
  refine List.map_congr_left fun j hj=>?_
  have hj':j<s'.length:=by simpa using hj
  obtain ⟨b,hb'⟩:=lget_of_lt s' hj'
  have h0:=hr j 0 [.val (.int .u8 b.toNat)] (.val (.int .u8 b.toNat)) (by simp [bytesR,hb']) rfl
  rw [Nat.div_one,Nat.mod_one]
  show vals j 0=Value.int .u8 (s'.getD j 0).toNat
  rw [show s'.getD j 0=b by simp [List.getD,hb']]
  generalize hz:vals j 0=z at h0
  cases h0;rfl
 rw [e,bytesR_len] at hsrc
 obtain ⟨v,E',w',g1,g2,g3,g4⟩:=appbuf_src hI (ty:=o.type) hd1 hye h1 hsrc r1 hS hb
 exact Does.val ho (wanted_of hF (by rw [wantA_congr hlk];exact hw)) (by simp [execOp,hop,resolve,invoke,builtin,g1]) (.inl rfl) ⟨E',g2,g3,g4⟩
end
end Go.V
namespace Go.V
open Go Go.Proofs
theorem itoa_dec (n:Nat):Lib.itoa (n:Int)=dec n:=by unfold Lib.itoa;rw [if_neg (by omega),Int.toNat_natCast,dec_eq]
theorem itoa_ndec (n:Nat)(h:0<n):Lib.itoa (-(n:Int))=45::dec n:=by unfold Lib.itoa;rw [if_pos (by omega),dec_eq];simp
theorem dec_len21 (n:Nat)(h:n≤9223372036854775807):(dec n).length≤21:=by rw [← itoa_dec];exact Lib.itoa_length_le _ (by omega) (by omega)
theorem itoa_pos (n:Int):0<(Lib.itoa n).length:=by
 rcases Int.lt_or_le n 0 with h | h
 ·obtain ⟨m,rfl⟩:∃ m:Nat,n=-(m:Int):=⟨n.natAbs,by omega⟩
  rw [itoa_ndec m (by omega)];simp
 ·obtain ⟨m,rfl⟩:∃ m:Nat,n=(m:Int):=⟨n.toNat,by omega⟩
  rw [itoa_dec];exact dec_pos m
theorem p_digitsB (n:Nat)(hn:n≤9223372036854775807):Pure X 44 [vi n] (str (dec n)):=by
 induction n using Nat.strongRecOn with
 | ind n ih =>
 refine Pure.run Tryz.func44 ?_
 refine AK.no ?_ (ht:=decide_eq_false (by omega))
 refine AK.no ?_ (ht:=decide_eq_false (by omega))
 refine AK.if_ (fun h=>?_) (fun h=>?_)
 ·have h':=of_decide_eq_true h
  refine AK.op (Ndo.bstr (s:=[UInt8.ofNat (48+n)]) rfl rfl rfl rfl rfl rfl rfl rfl rfl rfl ?_) ?_
  ·show [[_]]=[[_]]
   rw [digit_byte n (by omega)]
  refine AK.rt Tryz.func44 ?_
  unfold dec
  rw [if_pos (by omega)];rfl
 ·have h':=of_decide_eq_false h
  have hd:(n:Int).tdiv 10=((n / 10:Nat):Int):=by rw [Int.tdiv_eq_ediv_of_nonneg (by omega)];omega
  have ihq:Pure X 44 [vi (IntKind.i64.wrap ((n:Int).tdiv 10))] (str (dec (n / 10))):=by
   rw [hd,wrap_small (by omega) (by omega)];exact ih (n / 10) (by omega) (by omega)
  have hm:((n:Int).tmod 10)=((n % 10:Nat):Int):=by rw [Int.tmod_eq_emod_of_nonneg (by omega)];omega
  refine AK.db 0 ?_
  refine Drv.pg ihq ?_
  refine Drv.ru (fun S'=>Ndo.bstr (s:=[UInt8.ofNat (48+n % 10)]) rfl rfl rfl rfl rfl rfl rfl rfl rfl rfl ?_) ?_
  ·show [[_]]=[[_]]
   rw [hm,digit_byte (n % 10) (by omega)]
  refine Drv.ru (fun S'=>Ndo.cat rfl rfl rfl rfl rfl ?_ rfl) ?_
  ·have:=dec_len21 (n / 10) (by omega)
   simp;omega
  refine Drv.go ?_
  refine Drv.z ?_
  refine AK.rt Tryz.func44 ?_
  conv=>rhs;unfold dec
  rw [if_neg (by omega)];rfl
theorem p_digitsI (n:Int)(h0:-9223372036854775808≤n)(h1:n≤9223372036854775807):Pure X 44 [vi n] (str (Lib.itoa n)):=by
 rcases Int.lt_or_le n 0 with h | h
 ·obtain ⟨m,rfl⟩:∃ m:Nat,n=-(m:Int):=⟨n.natAbs,by omega⟩
  rw [itoa_ndec m (by omega)]
  refine Pure.run Tryz.func44 ?_
  by_cases hs:m<10
  ·have hp:=p_digitsB m (by omega)
   have e:IntKind.i64.wrap (- -(m:Int))=m:=by rw [Int.neg_neg];exact wrap_small (by omega) (by omega)
   rw [← e] at hp
   refine AK.no ?_ (ht:=decide_eq_false (by omega))
   refine AK.yes ?_ (ht:=decide_eq_true (by omega))
   refine AK.pc hp ?_
   refine AK.op (Ndo.cat rfl rfl rfl rfl rfl ?_ rfl) ?_
   ·have:=dec_len21 m (by omega)
    simp;omega
   exact AK.rz Tryz.func44 rfl
  ·have hd:(-(m:Int)).tdiv 10=-((m / 10:Nat):Int):=by rw [Int.neg_tdiv,Int.tdiv_eq_ediv_of_nonneg (by omega)];omega
   have hm:(-(m:Int)).tmod 10=-((m % 10:Nat):Int):=by rw [Int.neg_tmod,Int.tmod_eq_emod_of_nonneg (by omega)];omega
   have ea:IntKind.i64.wrap (-(IntKind.i64.wrap ((-(m:Int)).tdiv 10)))=((m / 10:Nat):Int):=by rw [hd,wrap_small (n:=-((m / 10:Nat):Int)) (by omega) (by omega),Int.neg_neg];exact wrap_small (by omega) (by omega)
   have eb:IntKind.i64.wrap (-((-(m:Int)).tmod 10))=((m % 10:Nat):Int):=by rw [hm,Int.neg_neg];exact wrap_small (by omega) (by omega)
   have hpa:=p_digitsB (m / 10) (by omega)
   have hpb:=p_digitsB (m % 10) (by omega)
   rw [← ea] at hpa
   rw [← eb] at hpb
   have la:=dec_len21 (m / 10) (by omega)
   have lb:=dec_len21 (m % 10) (by omega)
   refine AK.yes ?_ (ht:=decide_eq_true (by omega))
   refine AK.pc hpa ?_
   refine AK.op (Ndo.cat rfl rfl rfl rfl rfl ?_ rfl) ?_
   ·simp;omega
   refine AK.pc hpb ?_
   refine AK.op (Ndo.cat rfl rfl rfl rfl rfl ?_ rfl) ?_
   ·simp;omega
   refine AK.rz Tryz.func44 ?_
   conv=>rhs;unfold dec
   rw [if_neg hs]
   have e1:dec (m % 10)=[UInt8.ofNat (48+m % 10)]:=by unfold dec;rw [if_pos (by omega)]
   rw [e1];simp
 ·obtain ⟨m,rfl⟩:∃ m:Nat,n=(m:Int):=⟨n.toNat,by omega⟩
  rw [itoa_dec];exact p_digitsB m (by omega)
theorem wB (b:Bool)(s:List UInt8)(c:UInt8)(z:Int)(hz:(c.toNat:Int)=z)(hb:s.length≤90000000000):Hands X 68 [.ptr 0 0 0,.val (.int .u8 z)] ⟨[[bA (adr 93 0 b) s]],[s.length]⟩ (.val .nilIface) ⟨[[bA (.ptr 0 0 0) (s++[c])]],[(s++[c]).length]⟩:=by
 subst hz
 cases b with
 | false =>
   refine Hands.run (n:=1) (m:=1) Tryz.func68 ?_
   refine AK.hc (τ':=[0]) [0] [0] (cA_old s) ?_
   refine AK.op (Ndo.appB (s':=[c]) (by simp;omega) (by simp) rfl rfl rfl rfl rfl rfl rfl rfl rfl rfl rfl rfl rfl rfl rfl rfl rfl) ?_
   rw [List.length_append]
   exact AK.rb Tryz.func68 rfl rfl
 | true =>
   refine Hands.run (n:=1) (m:=1) Tryz.func68 ?_
   refine AK.hc (τ':=[0]) [0] [0] (cA_new s) ?_
   refine AK.op (Ndo.appB (s':=[c]) (by simp;omega) (by simp) rfl rfl rfl rfl rfl rfl rfl rfl rfl rfl rfl rfl rfl rfl rfl rfl rfl) ?_
   rw [List.length_append]
   exact AK.rb Tryz.func68 rfl rfl
theorem bLen (b:Bool)(s:List UInt8):Hands X 69 [.ptr 0 0 0] ⟨[[bA (adr 93 0 b) s]],[s.length]⟩ (vi s.length) ⟨[[bA (adr 93 0 b) s]],[s.length]⟩:=by
 cases b with
 | false =>
   refine Hands.run (n:=1) (m:=1) Tryz.func69 ?_
   refine AK.op Ndo.blen ?_
   exact AK.rb Tryz.func69 rfl rfl
 | true =>
   refine Hands.run (n:=1) (m:=1) Tryz.func69 ?_
   refine AK.op Ndo.blen ?_
   exact AK.rb Tryz.func69 rfl rfl
def bitN (b:Bool):Int:=if b=true then 1 else 0
def bndN (l:List (Int × Int)):List Int:=(l.length:Int)::l.flatMap fun c=>[c.1,c.2]
def valsN:List Vl→List Bool→List Int
 | v::vs,m::ms=>[v.lo,v.hi,bitN v.m,bitN m]++valsN vs ms
 | _,_=>[]
theorem valsN_nil (ms:List Bool):valsN [] ms=[]:=by cases ms<;>rfl
def segN (s:Sg):List Int:=(s.tm.length:Int)::(s.tm.flatMap bndN++valsN s.vs s.ms)
def absT (a:Ab):List Int:=1::(a.d++a.sg.flatMap segN)
def absI (a:Ab):List Int:=if noneB a.n a.d=true then [0] else absT a
theorem q_bit (b:Bool):Pure X 111 [vb b] (vi (bitN b)):=by
 refine Pure.run Tryz.func111 ?_
 cases b with
 | true =>
   refine AK.yes ?_
   exact AK.rz Tryz.func111 rfl
 | false =>
   refine AK.no ?_
   exact AK.rz Tryz.func111 rfl
theorem p_bit (b:Bool):Pure X 110 [vb b] (vi (bitN b)):=by
 refine Pure.run Tryz.func110 ?_
 cases b with
 | true =>
   refine AK.yes ?_
   exact AK.rz Tryz.func110 rfl
 | false =>
   refine AK.no ?_
   exact AK.rz Tryz.func110 rfl
theorem p_dead (a:Ab):Pure X 70 [ab a] (vb (noneB a.n a.d)):=by
 refine Pure.run Tryz.func70 ?_
 refine AK.pc (p_noneF a.n a.d) ?_
 exact AK.rz Tryz.func70 rfl
theorem cap_len {α:Type}{a b T:List α}(h:a++b=T):a.length+b.length=T.length:=by rw [← h,List.length_append]
structure TellOk (a:Ab):Prop where
 ok:AbOk a
 d:a.d≠[]
 ms:∀ s,s∈a.sg→s.vs.length≤s.ms.length
 T:(absT a).length≤1000000000
theorem zrs_ac (l:List Int):allCellR (zrs l)=true:=allCellR_map (f:=fun m=>[vi m]) (fun _=>rfl) l
theorem q_absNumbers (a:Ab)(ha:noneB a.n a.d=false→TellOk a)(hnn:(noneB a.n a.d&&((a.sg.length:Int)==0))=noneB a.n a.d):Pure X 67 [ab a] (.sl (zrs (absI a)) .no):=by
 have hnt:=q_nothing a
 rw [hnn] at hnt
 refine Pure.run Tryz.func67 ?_
 refine AK.pc hnt ?_
 unfold absI
 cases h0:noneB a.n a.d with
 | true =>
   refine AK.yes ?_
   exact AK.rz Tryz.func67 rfl
 | false =>
   rw [if_neg (by simp)]
   have ha:=ha h0
   have hsg:=ha.ok.sg
   refine AK.no ?_
   have hd:=ha.d
   have hd0:0<a.d.length:=List.length_pos_iff.2 hd
   have hT1:[(1:Int)]++a.d++a.sg.flatMap segN=absT a:=by simp [absT]
   have hTl:=ha.T
   generalize absT a=T at hT1 hTl ⊢
   have hl1:=cap_len hT1
   simp only [List.length_append,List.length_cons,List.length_nil] at hl1
   refine AK.ev 100 rfl ?_
   refine AK.mint (d:=15) rfl rfl rfl ?_
   refine AK.op (Ndo.append (res:=zrs (1::a.d)) (tk:=[(1::a.d).length]) rfl rfl rfl rfl rfl rfl rfl rfl rfl rfl rfl rfl rfl rfl rfl rfl (zrs_al _) (zrs_ac _) ?_ ?_ ?_ ?_) ?_
   ·rw [zrs_len];exact Nat.ble_eq_true_of_le hd0
   ·rw [zrs_len];simp;omega
   ·rfl
   ·simp [zrs_len];omega
   have hsl:((sgs a.sg).length:Int)=a.sg.length:=by simp [sgs]
   refine AK.while_ (ι:=Nat × List Int) 1 1 (fun i=>i.1≤a.sg.length∧i.2++(a.sg.drop i.1).flatMap segN=T) (fun i=>[(23,vi i.1),(22,vi a.sg.length),(21,.sl (sgs a.sg) .no),(3,.sl (zrs i.2) (.tok 0))]) (fun i=>⟨[[abcells a]],[i.2.length]⟩)
    (fun i=>a.sg.length-i.1) ?_ (0,1::a.d) ⟨Nat.zero_le _,by simpa using hT1⟩ ⟨rfl,vint hsl,rfl,rfl,trivial⟩ rfl rfl rfl rfl rfl (fun _=>inferInstance) (fun _=>inferInstance)
   rintro ⟨i,out⟩ ⟨hi,hT⟩ IH
   simp only at hi hT IH ⊢
   refine AK.ev 100 rfl ?_
   refine AK.if_ (fun h=>?_) (fun h=>?_)
   ·have hlt:i<a.sg.length:=by have:=of_decide_eq_true h;omega
    obtain ⟨s,hs⟩:=lget_of_lt a.sg hlt
    have hso:=ha.ok.rows s (List.mem_of_getElem? hs)
    have hms:=ha.ms s (List.mem_of_getElem? hs)
    have hstm:=hso.tm
    have hsvs:=hso.vs
    rw [drop_cons hs,List.flatMap_cons] at hT
    obtain ⟨rest,hrest⟩:∃ r,(a.sg.drop (i+1)).flatMap segN=r:=⟨_,rfl⟩
    rw [hrest] at hT
    have l1:((syss s.tm).length:Int)=s.tm.length:=by simp [syss]
    have l2:((vls s.vs).length:Int)=s.vs.length:=by simp [vls]
    have e1:segN s=[((syss s.tm).length:Int)]++(s.tm.flatMap bndN++valsN s.vs s.ms):=by rw [l1];rfl
    rw [e1,List.append_assoc,← List.append_assoc] at hT
    have hol:=cap_len hT
    rw [List.length_append,List.length_append] at hol
    refine AK.ix i (by omega) (map_get (f:=sgcell) hs) ?_
    refine AK.op (Ndo.append (res:=zrs (out++[((syss s.tm).length:Int)])) (tk:=[(out++[((syss s.tm).length:Int)]).length]) rfl rfl rfl rfl rfl rfl rfl rfl rfl rfl rfl rfl rfl rfl (zrs_len _) (zrs_al _) rfl rfl rfl ?_ ?_ ?_) ?_
    ·rw [zrs_len];simp;omega
    ·simp [zrs]
    ·rw [zrs_len,List.length_append];rfl
    generalize out++[((syss s.tm).length:Int)]=o1 at hT
    refine AK.while_ (ι:=Nat × List Int) 2 1 (fun j=>j.1≤s.tm.length∧j.2++((s.tm.drop j.1).flatMap bndN++(valsN s.vs s.ms++rest))=T) (fun j=>[(36,vi j.1),(35,vi s.tm.length),(34,.sl (syss s.tm) .no),(3,.sl (zrs j.2) (.tok 0)),(5,.ptr 1 0 0),(23,vi i),(22,vi a.sg.length),(21,.sl (sgs a.sg) .no)])
     (fun j=>⟨[[abcells a],[sgcell s]],[j.2.length]⟩) (fun j=>s.tm.length-j.1) ?_ (0,o1) ⟨Nat.zero_le _,by rw [← hT];simp⟩ ⟨rfl,vint l1,rfl,rfl,rfl,rfl,rfl,rfl,trivial⟩ rfl rfl rfl rfl rfl (fun _=>inferInstance) (fun _=>inferInstance)
    rintro ⟨j,o2⟩ ⟨hj,hU⟩ JH
    simp only at hj hU JH ⊢
    refine AK.ev 100 rfl ?_
    refine AK.if_ (fun g=>?_) (fun g=>?_)
    ·have hjl:j<s.tm.length:=by have:=of_decide_eq_true g;omega
     obtain ⟨x,hx⟩:=lget_of_lt s.tm hjl
     have hxl:=hso.rows x (List.mem_of_getElem? hx)
     have lx:((sys x).length:Int)=x.length:=by simp [sys]
     rw [drop_cons hx,List.flatMap_cons] at hU
     obtain ⟨R2,hR2⟩:∃ r,(s.tm.drop (j+1)).flatMap bndN++(valsN s.vs s.ms++rest)=r:=⟨_,rfl⟩
     have e2:bndN x=[((sys x).length:Int)]++x.flatMap fun c=>[c.1,c.2]:=by rw [lx];rfl
     rw [e2] at hU
     simp only [List.append_assoc] at hU
     rw [hR2,← List.append_assoc] at hU
     have hol2:=cap_len hU
     rw [List.length_append] at hol2
     refine AK.ix j (by omega) (map_get (f:=srow) hx) ?_
     refine AK.op (Ndo.append (res:=zrs (o2++[((sys x).length:Int)])) (tk:=[(o2++[((sys x).length:Int)]).length]) rfl rfl rfl rfl rfl rfl rfl rfl rfl rfl rfl rfl rfl rfl (zrs_len _) (zrs_al _) rfl rfl rfl ?_ ?_ ?_) ?_
     ·rw [zrs_len];simp;omega
     ·simp [zrs]
     ·rw [zrs_len,List.length_append];rfl
     generalize o2++[((sys x).length:Int)]=o3 at hU
     refine AK.while_ (ι:=Nat × List Int) 2 1 (fun k=>k.1≤x.length∧k.2++(((x.drop k.1).flatMap fun c=>[c.1,c.2])++R2)=T) (fun k=>[(47,vi k.1),(46,vi x.length),(45,.sl (sys x) .no),(3,.sl (zrs k.2) (.tok 0)),(36,vi j),(35,vi s.tm.length),(34,.sl (syss s.tm) .no),(5,.ptr 1 0 0),(23,vi i),(22,vi a.sg.length),(21,.sl (sgs a.sg) .no)])
      (fun k=>⟨[[abcells a],[sgcell s]],[k.2.length]⟩) (fun k=>x.length-k.1) ?_ (0,o3) ⟨Nat.zero_le _,by rw [← hU];simp⟩ ⟨rfl,vint lx,rfl,rfl,rfl,rfl,rfl,rfl,rfl,rfl,rfl,trivial⟩ rfl rfl rfl rfl rfl (fun _=>inferInstance) (fun _=>inferInstance)
     rintro ⟨k,o4⟩ ⟨hk,hV⟩ KH
     simp only at hk hV KH ⊢
     refine AK.ev 100 rfl ?_
     refine AK.if_ (fun q=>?_) (fun q=>?_)
     ·have hkl:k<x.length:=by have:=of_decide_eq_true q;omega
      obtain ⟨c,hc⟩:=lget_of_lt x hkl
      rw [drop_cons hc,List.flatMap_cons,List.append_assoc,← List.append_assoc] at hV
      have hol3:=cap_len hV
      rw [List.length_append] at hol3
      refine AK.ix k (by omega) (map_get (f:=scell) hc) ?_
      refine AK.op (Ndo.append (res:=zrs (o4++[c.1,c.2])) (tk:=[(o4++[c.1,c.2]).length]) rfl rfl rfl rfl rfl rfl rfl rfl rfl rfl rfl rfl rfl rfl (zrs_len _) (zrs_al _) rfl rfl rfl ?_ ?_ ?_) ?_
      ·rw [zrs_len];simp;omega
      ·simp [zrs]
      ·rw [zrs_len,List.length_append];rfl
      exact KH (k+1,o4++[c.1,c.2]) ⟨hkl,hV⟩ (by simp only;omega) _ _ ⟨vint ((wrap_small (by omega) (by omega)).trans (by omega)),rfl,rfl,rfl,rfl,rfl,rfl,rfl,rfl,rfl,rfl,trivial⟩ rfl rfl rfl
     ·have hke:k=x.length:=by have:=of_decide_eq_false q;omega
      rw [hke,List.drop_length] at hV
      exact JH (j+1,o4) ⟨hjl,by rw [← hV,← hR2];simp⟩ (by simp only;omega) _ _ ⟨vint ((wrap_small (by omega) (by omega)).trans (by omega)),rfl,rfl,rfl,rfl,rfl,rfl,rfl,trivial⟩ rfl rfl rfl
    ·have hje:j=s.tm.length:=by have:=of_decide_eq_false g;omega
     rw [hje,List.drop_length,List.flatMap_nil,List.nil_append] at hU
     refine AK.while_ (ι:=Nat × List Int) 2 1 (fun k=>k.1≤s.vs.length∧k.2++(valsN (s.vs.drop k.1) (s.ms.drop k.1)++rest)=T) (fun k=>[(63,vi k.1),(62,vi s.vs.length),(61,.sl (vls s.vs) .no),(3,.sl (zrs k.2) (.tok 0)),(5,.ptr 1 0 0),(23,vi i),(22,vi a.sg.length),(21,.sl (sgs a.sg) .no)])
      (fun k=>⟨[[abcells a],[sgcell s]],[k.2.length]⟩) (fun k=>s.vs.length-k.1) ?_ (0,o2) ⟨Nat.zero_le _,hU⟩ ⟨rfl,vint l2,rfl,rfl,rfl,rfl,rfl,rfl,trivial⟩ rfl rfl rfl rfl rfl (fun _=>inferInstance) (fun _=>inferInstance)
     rintro ⟨k,o4⟩ ⟨hk,hV⟩ KH
     simp only at hk hV KH ⊢
     refine AK.ev 100 rfl ?_
     refine AK.if_ (fun q=>?_) (fun q=>?_)
     ·have hkl:k<s.vs.length:=by have:=of_decide_eq_true q;omega
      obtain ⟨v,hv⟩:=lget_of_lt s.vs hkl
      obtain ⟨m,hm⟩:=lget_of_lt s.ms (i:=k) (by omega)
      rw [drop_cons hv,drop_cons hm,valsN,List.append_assoc,← List.append_assoc] at hV
      have hol3:=cap_len hV
      rw [List.length_append] at hol3
      refine AK.ix k (by omega) (map_get (f:=vcell) hv) ?_
      refine AK.db 131072 ?_
      refine Drv.pg (q_bit v.m) ?_
      refine Drv.ig k (by omega) (map_get (f:=bcell) hm) ?_
      refine Drv.pg (q_bit m) ?_
      refine Drv.w (Ndo.append (res:=zrs (o4++[v.lo,v.hi,bitN v.m,bitN m])) (tk:=[(o4++[v.lo,v.hi,bitN v.m,bitN m]).length]) rfl rfl rfl rfl rfl rfl rfl rfl rfl rfl rfl rfl rfl rfl (zrs_len _) (zrs_al _) rfl rfl rfl ?_ ?_ ?_) ?_
      ·rw [zrs_len];simp;omega
      ·simp [zrs]
      ·rw [zrs_len,List.length_append];rfl
      refine Drv.e ?_
      refine Drv.z ?_
      exact KH (k+1,o4++[v.lo,v.hi,bitN v.m,bitN m]) ⟨hkl,hV⟩ (by simp only;omega) _ _ ⟨vint ((wrap_small (by omega) (by omega)).trans (by omega)),rfl,rfl,rfl,rfl,rfl,rfl,rfl,trivial⟩ rfl rfl rfl
     ·have hke:k=s.vs.length:=by have:=of_decide_eq_false q;omega
      rw [hke,List.drop_length,valsN_nil,List.nil_append] at hV
      exact IH (i+1,o4) ⟨hlt,by rw [← hV,← hrest]⟩ (by simp only;omega) _ _ ⟨vint ((wrap_small (by omega) (by omega)).trans (by omega)),rfl,rfl,rfl,trivial⟩ rfl rfl rfl
   ·have hie:i=a.sg.length:=by have:=of_decide_eq_false h;omega
    rw [hie,List.drop_length,List.flatMap_nil,List.append_nil] at hT
    subst hT
    exact AK.rz Tryz.func67 rfl
def sepN (i:Nat)(n:Int):List UInt8:=(if i=0 then [] else [32])++Lib.itoa n
def numsT:Nat→List Int→List UInt8
 | _,[]=>[]
 | i,n::l=>sepN i n++numsT (i+1) l
def lineN (l:List Int):List UInt8:=numsT 0 l++[10]
theorem numsT_len (l:List Int)(h:∀ n,n∈l→I64 n):∀ i,(numsT i l).length≤22*l.length:=by
 induction l with
 | nil=>intro i;simp [numsT]
 | cons n l ih =>
   intro i
   have h1:=ih (fun x hx=>h x (by simp [hx])) (i+1)
   have h2:=Lib.itoa_length_le n (h n (by simp)).1 (h n (by simp)).2
   have h3:(sepN i n).length≤22:=by unfold sepN;split<;>simp<;>omega
   simp only [numsT,List.length_append,List.length_cons];omega
theorem lineC_len (l:List Int)(h:∀ n,n∈l→I64 n):(lineN l).length≤22*l.length+1:=by
 have:=numsT_len l h 0
 simp [lineN];omega
theorem bytesR_al (s:List UInt8):allLen 1 (bytesR s)=true:=allLen_map (f:=fun (c:UInt8)=>[AV.val (.int .u8 c.toNat)]) (fun _=>rfl) s
theorem bytesR_ac (s:List UInt8):allCellR (bytesR s)=true:=allCellR_map (f:=fun (c:UInt8)=>[AV.val (.int .u8 c.toNat)]) (fun _=>rfl) s
instance {n m:Nat}{s:List UInt8}:OKR n m (bytesR s):=⟨fun r hr x hx=>by obtain ⟨e,_,rfl⟩:=List.mem_map.1 hr;simp at hx;subst hx;exact .val _⟩
theorem bytesR_app (s t:List UInt8):bytesR (s++t)=bytesR s++bytesR t:=by simp [bytesR]
theorem p_line (l:List Int)(hl:l.length≤1000000000)(h:∀ n,n∈l→I64 n):Pure X 65 [.sl (zrs l) .no] (.sl (bytesR (lineN l)) .no):=by
 have hlen:((zrs l).length:Int)=l.length:=by rw [zrs_len]
 have hTl:=numsT_len l h 0
 refine Pure.run Tryz.func65 ?_
 refine AK.mint (d:=3) rfl rfl rfl ?_
 refine AK.while_ (ι:=Nat × List UInt8) 0 1 (fun i=>i.1≤l.length∧i.2++numsT i.1 (l.drop i.1)=numsT 0 l) (fun i=>[(4,vi i.1),(3,.sl (bytesR i.2) (.tok 0)),(0,.sl (zrs l) .no)]) (fun i=>⟨[],[i.2.length]⟩) (fun i=>l.length-i.1) ?_ (0,[]) ⟨Nat.zero_le _,rfl⟩
  ⟨rfl,rfl,rfl,trivial⟩ rfl rfl rfl rfl rfl (fun _=>inferInstance) (fun _=>inferInstance)
 rintro ⟨i,o⟩ ⟨hi,hT⟩ IH
 simp only at hi hT IH ⊢
 refine AK.ev 100 rfl ?_
 refine AK.if_ (fun g=>?_) (fun g=>?_)
 ·have hlt:i<l.length:=by have:=of_decide_eq_true g;rw [hlen] at this;omega
  obtain ⟨n,hn⟩:=lget_of_lt l hlt
  have hI:=h n (List.mem_of_getElem? hn)
  rw [drop_cons hn,numsT,← List.append_assoc] at hT
  have hol:=cap_len hT
  rw [List.length_append] at hol
  have hit:=itoa_pos n
  refine AK.if_ (fun g2=>?_) (fun g2=>?_)
  ·have hs:sepN i n=[32]++Lib.itoa n:=by unfold sepN;rw [if_neg (by have:=of_decide_eq_true g2;omega)]
   refine AK.op (Ndo.append (res:=bytesR (o++[32])) (tk:=[(o++[32]).length]) rfl rfl rfl rfl rfl rfl rfl rfl rfl rfl rfl rfl rfl rfl (bytesR_len _) (bytesR_al _) rfl rfl rfl ?_ ?_ ?_) ?_
   ·rw [bytesR_len];simp;omega
   ·simp [bytesR]
   ·rw [bytesR_len,List.length_append];rfl
   refine AK.ix i (by omega) (zrs_get hn) ?_
   refine AK.pc (p_digitsI n hI.1 hI.2) ?_
   refine AK.op (Ndo.appS (res:=bytesR (o++sepN i n)) (tk:=[(o++sepN i n).length]) rfl (bytesR_len _) (bytesR_al _) (Nat.ble_eq_true_of_le hit) ?_ ?_ ?_ rfl rfl rfl rfl rfl rfl rfl rfl rfl rfl rfl rfl rfl rfl) ?_
   ·rw [bytesR_len];simp only [hs,List.length_append,List.length_cons,List.length_nil] at hol ⊢;omega
   ·rw [hs];simp [bytesR]
   ·rw [bytesR_len,hs];simp<;>omega
   exact IH (i+1,o++sepN i n) ⟨hlt,hT⟩ (by simp only;omega) _ _ ⟨vint ((wrap_small (by omega) (by omega)).trans (by omega)),rfl,rfl,trivial⟩ rfl rfl rfl
  ·have hs:sepN i n=Lib.itoa n:=by unfold sepN;rw [if_pos (by have:=of_decide_eq_false g2;omega)];rfl
   refine AK.ix i (by omega) (zrs_get hn) ?_
   refine AK.pc (p_digitsI n hI.1 hI.2) ?_
   refine AK.op (Ndo.appS (res:=bytesR (o++sepN i n)) (tk:=[(o++sepN i n).length]) rfl (bytesR_len _) (bytesR_al _) (Nat.ble_eq_true_of_le hit) ?_ ?_ ?_ rfl rfl rfl rfl rfl rfl rfl rfl rfl rfl rfl rfl rfl rfl) ?_
   ·rw [bytesR_len];simp only [hs,List.length_append,List.length_cons,List.length_nil] at hol ⊢;omega
   ·rw [hs];simp [bytesR]
   ·rw [bytesR_len,hs];simp<;>omega
   exact IH (i+1,o++sepN i n) ⟨hlt,hT⟩ (by simp only;omega) _ _ ⟨vint ((wrap_small (by omega) (by omega)).trans (by omega)),rfl,rfl,trivial⟩ rfl rfl rfl
 ·have hie:i=l.length:=by have:=of_decide_eq_false g;rw [hlen] at this;omega
  rw [hie,List.drop_length,numsT,List.append_nil] at hT
  refine AK.ev 100 rfl ?_
  refine AK.op (Ndo.append (res:=bytesR (o++[10])) (tk:=[(o++[10]).length]) rfl rfl rfl rfl rfl rfl rfl rfl rfl rfl rfl rfl rfl rfl (bytesR_len _) (bytesR_al _) rfl rfl rfl ?_ ?_ ?_) ?_
  ·rw [bytesR_len];simp;rw [hT];omega
  ·simp [bytesR]
  ·rw [bytesR_len,List.length_append];rfl
  refine AK.rz Tryz.func65 ?_
  rw [hT];rfl
def certL (l:List Ab):List UInt8:=l.flatMap fun a=>lineN (absI a)
def certT (n:Nd)(l:List Ab):List UInt8:=if (l.length:Int)=(gAll (planL n)).pts∧l.all (absN n)=true∧(certL l).length≤400000 then certL l else []
theorem certL_take {l:List Ab}{i:Nat}{a:Ab}(h:l[i]?=some a):certL (l.take (i+1))=certL (l.take i)++lineN (absI a):=by rw [List.take_add_one,h];simp [certL]
theorem certL_le (l:List Ab)(i:Nat):(certL (l.take i)).length≤(certL l).length:=by
 have:certL l=certL (l.take i)++certL (l.drop i):=by rw [certL,certL,certL,← List.flatMap_append,List.take_append_drop]
 rw [this,List.length_append];omega
theorem absB_none {size:Int}{nv na:Nat}{a:Ab}(h:absB size nv na a=true):(noneB a.n a.d&&((a.sg.length:Int)==0))=noneB a.n a.d:=by
 unfold absB at h
 split at h
 ·rename_i h1;rw [h1,h];rfl
 ·rename_i h1;simp [h1]
theorem segsB_ms {size:Int}{nv:Nat}:∀ {l:List Sg}{i:Nat},segsB size nv i l=true→∀ s,s∈l→s.vs.length≤s.ms.length
 | [],_,_,s,hs=>by cases hs
 | x::l,i,h,s,hs=>by
   simp only [segsB,Bool.and_eq_true] at h
   rcases List.mem_cons.1 hs with rfl | hs
   ·have:=h.1
    simp only [segB,Bool.and_eq_true,beq_iff_eq] at this
    omega
   ·exact segsB_ms h.2 s hs
theorem absB_tell {size:Int}{nv na:Nat}{a:Ab}(h:absB size nv na a=true)(ha:AbOk a)(hT:(absT a).length≤1000000000)(hn:noneB a.n a.d=false):TellOk a:=by
 unfold absB at h
 rw [if_neg (by simp [hn])] at h
 simp only [Bool.and_eq_true] at h
 refine ⟨ha,fun hd=>?_,segsB_ms h.2.2.2,hT⟩
 have h1:=h.1
 simp only [factB,Bool.and_eq_true,beq_iff_eq] at h1
 obtain ⟨h2,h3,_⟩:=h1
 have h2':=between_iff.1 h2
 rw [hd] at h3
 have:(0:Int)<a.n*a.n:=Int.mul_pos (by omega) (by omega)
 simp at h3
 omega
theorem valsN_I:∀ {vs:List Vl}{ms:List Bool},(∀ v,v∈vs→I64 v.lo∧I64 v.hi)→∀ n,n∈valsN vs ms→I64 n
 | [],_,_,n,hn=>by simp [valsN] at hn
 | _::_,[],_,n,hn=>by simp [valsN] at hn
 | v::vs,m::ms,h,n,hn=>by
   have hb:∀ b,I64 (bitN b):=fun b=>by unfold bitN;split<;>(unfold I64;omega)
   rw [valsN,List.mem_append] at hn
   rcases hn with hn | hn
   ·simp at hn
    have:=h v (by simp)
    rcases hn with rfl | rfl | rfl | rfl
    ·exact this.1
    ·exact this.2
    ·exact hb _
    ·exact hb _
   ·exact valsN_I (fun x hx=>h x (by simp [hx])) n hn
theorem len_I {n:Nat}(h:n≤1000000000):I64 n:=⟨by omega,by omega⟩
theorem absI_I {a:Ab}(ha:AbOk a)(hI:AbI a):∀ n,n∈absI a→I64 n:=by
 intro n hn
 unfold absI at hn
 split at hn
 ·simp at hn;subst hn;exact ⟨by omega,by omega⟩
 ·simp only [absT,List.mem_cons,List.mem_append,List.mem_flatMap] at hn
  rcases hn with rfl | hn | ⟨s,hs,hn⟩
  ·exact ⟨by omega,by omega⟩
  ·exact hI.d n hn
  ·have ho:=ha.rows s hs
   have hi:=hI.sg s hs
   simp only [segN,List.mem_cons,List.mem_append,List.mem_flatMap] at hn
   rcases hn with rfl | ⟨x,hx,hn⟩ | hn
   ·exact len_I ho.tm
   ·simp only [bndN,List.mem_cons,List.mem_flatMap] at hn
    rcases hn with rfl | ⟨c,hc,hn⟩
    ·exact len_I (ho.rows x hx)
    ·have:=hi.tm x hx c hc
     simp at hn
     rcases hn with rfl | rfl
     ·exact this.1
     ·exact this.2
   ·exact valsN_I hi.vs n hn
theorem absI_le {a:Ab}(hT:(absT a).length≤1000000000):(absI a).length≤1000000000:=by
 unfold absI;split
 ·simp
 ·exact hT
def abss (l:List Ab):List (List AV):=l.map abcells
def swAbL:List Ab→Nat
 | []=>0
 | x::l=>swAb x+swAbL l
instance {n m:Nat}{l:List (Ab)}:OKR n m (abss l):=⟨fun r hr x hx=>by
 obtain ⟨e,_,rfl⟩:=List.mem_map.1 hr
 exact (inferInstance:OKL n m (abcells e)).ok x hx⟩
instance {n m i:Nat}{l:List (Ab)}:OKR n m (cpR abcells [vi 0,.sl [] .tight,.sl [] .tight] l i):=⟨fun r hr x hx=>by
 rcases List.mem_append.1 hr with h | h
 ·exact (inferInstance:OKR n m (abss (l.take i))).ok r h x hx
 ·rw [List.eq_of_mem_replicate h] at hx
  exact (inferInstance:OKL n m [vi 0,.sl [] .tight,.sl [] .tight]).ok x hx⟩
theorem t_toAbS (l:List (Ab))(hl:l.length≤1000000000)(h1:∀ x,x∈l→AbOk x):Pure X 17 [.sl (abss l) .no] (.sl (abss l) .no):=by
 have hlen:(abss l).length=l.length:=by simp [abss]
 refine Pure.run Tryz.func17 ?_
 refine AK.op (Ndo.mkS (n:=(abss l).length) (b:=0) (by rw [hlen];exact hl) rfl rfl rfl rfl rfl rfl rfl rfl rfl rfl) ?_
 refine AK.while_ (ι:=Nat) 1 0 (fun i=>i≤l.length) (fun i=>[(4,vi i),(3,.bsl 0 l.length),(0,.sl (abss l) .no)]) (fun i=>⟨[cpR abcells [vi 0,.sl [] .tight,.sl [] .tight] l i],[]⟩) (fun i=>l.length-i) ?_ 0 (Nat.zero_le _)
  ⟨rfl,by rw [← hlen];rfl,rfl,trivial⟩ (congrArg (fun b=>St.mk [b] []) (cpR_nil abcells [vi 0,.sl [] .tight,.sl [] .tight] l).symm) rfl rfl rfl rfl (fun _=>inferInstance) (fun _=>inferInstance)
 intro i hi IH
 refine AK.ev 100 rfl ?_
 refine AK.if_ (fun h=>?_) (fun h=>?_)
 ·have hlt:i<l.length:=by have:=of_decide_eq_true h;rw [hlen] at this;omega
  obtain ⟨x,hx⟩:=lget_of_lt l hlt
  have hr:=cpR_get abcells [vi 0,.sl [] .tight,.sl [] .tight] hlt
  refine AK.ix i (by omega) (map_get (f:=abcells) hx) ?_
  refine AK.pc (t_toAb x (h1 x (List.mem_of_getElem? hx))) ?_
  refine AK.atB i hlt hr ?_
  refine AK.stB hr ?_
  refine IH (i+1) hlt (by omega) _ _ ⟨vint ((wrap_small (by omega) (by omega)).trans (by omega)),rfl,rfl,trivial⟩ ?_ rfl rfl
  exact congrArg (fun b=>St.mk [b] []) (cpR_set abcells [vi 0,.sl [] .tight,.sl [] .tight] hx)
 ·have:i=l.length:=by have:=of_decide_eq_false h;rw [hlen] at this;omega
  subst this
  refine AK.rbs Tryz.func17 (b:=0) ?_ hlen hl
  show some (cpR abcells [vi 0,.sl [] .tight,.sl [] .tight] l l.length)=_
  rw [cpR_all];rfl
theorem t_eqAbS (l:List (Ab))(hl:l.length≤1000000000)(h1:∀ x,x∈l→AbOk x):Pure X 19 [.sl (abss l) .no,.sl (abss l) .no] (vb true):=by
 have hlen:(abss l).length=l.length:=by simp [abss]
 refine Pure.run Tryz.func19 ?_
 refine AK.no ?_ (ht:=by simp)
 refine AK.while_ (ι:=Nat) 0 0 (fun i=>i≤l.length) (fun i=>[(5,vi i),(0,.sl (abss l) .no),(1,.sl (abss l) .no)]) (fun i=>⟨[],[]⟩) (fun i=>l.length-i) ?_ 0 (Nat.zero_le _)
  ⟨rfl,rfl,rfl,trivial⟩ rfl rfl rfl rfl rfl (fun _=>inferInstance) (fun _=>inferInstance)
 intro i hi IH
 refine AK.ev 100 rfl ?_
 refine AK.if_ (fun h=>?_) (fun h=>?_)
 ·have hlt:i<l.length:=by have:=of_decide_eq_true h;rw [hlen] at this;omega
  obtain ⟨x,hx⟩:=lget_of_lt l hlt
  refine AK.db 0 ?_
  refine Drv.ig i (by omega) (map_get (f:=abcells) hx) ?_
  refine Drv.ig i (by omega) (map_get (f:=abcells) hx) ?_
  refine Drv.pg (t_eqAb x (h1 x (List.mem_of_getElem? hx))) ?_
  refine Drv.z ?_
  refine AK.no ?_ (ht:=by simp)
  exact IH (i+1) hlt (by omega) _ _ ⟨vint ((wrap_small (by omega) (by omega)).trans (by omega)),rfl,rfl,trivial⟩ rfl rfl rfl
 ·exact AK.rz Tryz.func19 rfl
theorem t_szAbS (l:List (Ab))(left:Int)(h0:0≤left)(h1:left≤1048576)(hl:l.length≤9223372036854775807)(hx:∀ x,x∈l→AbLn x) :
 Pure X 15 [.sl (abss l) .no,vi left] (vi (szR (l.length+swAbL l) left)):=by
 have hlen:(abss l).length=l.length:=by simp [abss]
 have hw:IntKind.i64.wrap (left-(abss l).length)=left-l.length:=by rw [hlen];exact wrap_small (by omega) (by omega)
 refine Pure.run Tryz.func15 ?_
 refine AK.if_ (fun g=>?_) (fun g=>?_)
 ·have g':=of_decide_eq_true g
  rw [hw] at g'
  refine AK.rz Tryz.func15 ?_
  rw [szR_lt (by omega)]
 have g':=of_decide_eq_false g
 rw [hw] at g'
 have e0:szR (l.length+swAbL l) left=szR (swAbL l) (IntKind.i64.wrap (left-(abss l).length)):=by rw [hw,szR_add (by omega)]
 rw [e0]
 have hb:0≤IntKind.i64.wrap (left-(abss l).length)∧IntKind.i64.wrap (left-(abss l).length)≤1048576:=by rw [hw];omega
 generalize IntKind.i64.wrap (left-(abss l).length)=lf0 at hb
 refine AK.while_ (ι:=Nat × Int) 0 0 (fun i=>i.1≤l.length∧0≤i.2∧i.2≤1048576∧szR (swAbL l) lf0=szR (swAbL (l.drop i.1)) i.2) (fun i=>[(5,vi i.1),(1,vi i.2),(0,.sl (abss l) .no)]) (fun _=>⟨[],[]⟩) (fun i=>l.length-i.1) ?_ (0,lf0) ⟨Nat.zero_le _,hb.1,hb.2,rfl⟩
  ⟨rfl,rfl,rfl,trivial⟩ rfl rfl rfl rfl rfl (fun _=>inferInstance) (fun _=>inferInstance)
 rintro ⟨i,lf⟩ ⟨hi,hp0,hp1,hT⟩ IH
 simp only at hi hp0 hp1 hT IH ⊢
 refine AK.ev 100 rfl ?_
 refine AK.if_ (fun h=>?_) (fun h=>?_)
 ·have hlt:i<l.length:=by have:=of_decide_eq_true h;rw [hlen] at this;omega
  obtain ⟨x,hx1⟩:=lget_of_lt l hlt
  rw [drop_cons hx1] at hT
  simp only [swAbL] at hT
  have hs:Pure X 8 [.agg (abcells x),vi lf] (vi (szR (swAb x) lf)):=t_szAb x (hx x (List.mem_of_getElem? hx1)) lf hp0 hp1
  refine AK.ix i (by omega) (map_get (f:=abcells) hx1) ?_
  refine AK.pc hs ?_
  refine AK.if_ (fun g2=>?_) (fun g2=>?_)
  ·have g2':=szR_neg hp0 (of_decide_eq_true g2)
   refine AK.rz Tryz.func15 ?_
   rw [hT,szR_lt g2'.2]
  ·have g2':=szR_pos (show 0≤szR (swAb x) lf by have:=of_decide_eq_false g2;omega)
   refine IH (i+1,szR (swAb x) lf) ⟨hlt,?_,?_,?_⟩ (by simp only;omega) _ _ ⟨vint ((wrap_small (by omega) (by omega)).trans (by simp)),rfl,rfl,trivial⟩ rfl rfl rfl
   ·show 0≤szR (swAb x) lf;omega
   ·show szR (swAb x) lf≤_;omega
   ·rw [hT,szR_add g2'.2,g2'.1]
 ·have:i=l.length:=by have:=of_decide_eq_false h;rw [hlen] at this;omega
  subst this
  rw [List.drop_length] at hT
  refine AK.rz Tryz.func15 ?_
  rw [hT]
  unfold szR swAbL
  rw [if_pos (by simpa using hp0)];simp
theorem p_pack (a:Ab)(ha:noneB a.n a.d=false→TellOk a):Pure X 66 [ab a] (.sl (zrs (absI a)) .no):=by
 refine Pure.run Tryz.func66 ?_
 refine AK.pc (p_dead a) ?_
 unfold absI
 cases h0:noneB a.n a.d with
 | true =>
   refine AK.yes ?_
   exact AK.rz Tryz.func66 rfl
 | false =>
   rw [if_neg (by simp)]
   have ha:=ha h0
   have hsg:=ha.ok.sg
   refine AK.no ?_
   have hd:=ha.d
   have hd0:0<a.d.length:=List.length_pos_iff.2 hd
   have hT1:[(1:Int)]++a.d++a.sg.flatMap segN=absT a:=by simp [absT]
   have hTl:=ha.T
   generalize absT a=T at hT1 hTl ⊢
   have hl1:=cap_len hT1
   simp only [List.length_append,List.length_cons,List.length_nil] at hl1
   refine AK.ev 100 rfl ?_
   refine AK.mint (d:=12) rfl rfl rfl ?_
   refine AK.op (Ndo.append (res:=zrs (1::a.d)) (tk:=[(1::a.d).length]) rfl rfl rfl rfl rfl rfl rfl rfl rfl rfl rfl rfl rfl rfl rfl rfl (zrs_al _) (zrs_ac _) ?_ ?_ ?_ ?_) ?_
   ·rw [zrs_len];exact Nat.ble_eq_true_of_le hd0
   ·rw [zrs_len];simp;omega
   ·rfl
   ·simp [zrs_len];omega
   have hsl:((sgs a.sg).length:Int)=a.sg.length:=by simp [sgs]
   refine AK.while_ (ι:=Nat × List Int) 1 1 (fun i=>i.1≤a.sg.length∧i.2++(a.sg.drop i.1).flatMap segN=T) (fun i=>[(4,vi i.1),(3,.sl (zrs i.2) (.tok 0)),(1,.ptr 0 0 0)]) (fun i=>⟨[[abcells a]],[i.2.length]⟩)
    (fun i=>a.sg.length-i.1) ?_ (0,1::a.d) ⟨Nat.zero_le _,by simpa using hT1⟩ ⟨rfl,rfl,rfl,trivial⟩ rfl rfl rfl rfl rfl (fun _=>inferInstance) (fun _=>inferInstance)
   rintro ⟨i,out⟩ ⟨hi,hT⟩ IH
   simp only at hi hT IH ⊢
   refine AK.ev 100 rfl ?_
   refine AK.if_ (fun h=>?_) (fun h=>?_)
   ·have hlt:i<a.sg.length:=by have:=of_decide_eq_true h;rw [hsl] at this;omega
    obtain ⟨s,hs⟩:=lget_of_lt a.sg hlt
    have hso:=ha.ok.rows s (List.mem_of_getElem? hs)
    have hms:=ha.ms s (List.mem_of_getElem? hs)
    have hstm:=hso.tm
    have hsvs:=hso.vs
    rw [drop_cons hs,List.flatMap_cons] at hT
    obtain ⟨rest,hrest⟩:∃ r,(a.sg.drop (i+1)).flatMap segN=r:=⟨_,rfl⟩
    rw [hrest] at hT
    have l1:((syss s.tm).length:Int)=s.tm.length:=by simp [syss]
    have l2:((vls s.vs).length:Int)=s.vs.length:=by simp [vls]
    have e1:segN s=[((syss s.tm).length:Int)]++(s.tm.flatMap bndN++valsN s.vs s.ms):=by rw [l1];rfl
    rw [e1,List.append_assoc,← List.append_assoc] at hT
    have hol:=cap_len hT
    rw [List.length_append,List.length_append] at hol
    refine AK.ix i (by omega) (map_get (f:=sgcell) hs) ?_
    refine AK.op (Ndo.append (res:=zrs (out++[((syss s.tm).length:Int)])) (tk:=[(out++[((syss s.tm).length:Int)]).length]) rfl rfl rfl rfl rfl rfl rfl rfl rfl rfl rfl rfl rfl rfl (zrs_len _) (zrs_al _) rfl rfl rfl ?_ ?_ ?_) ?_
    ·rw [zrs_len];simp;omega
    ·simp [zrs]
    ·rw [zrs_len,List.length_append];rfl
    generalize out++[((syss s.tm).length:Int)]=o1 at hT
    refine AK.while_ (ι:=Nat × List Int) 2 1 (fun j=>j.1≤s.tm.length∧j.2++((s.tm.drop j.1).flatMap bndN++(valsN s.vs s.ms++rest))=T) (fun j=>[(6,vi j.1),(3,.sl (zrs j.2) (.tok 0)),(5,.ptr 1 0 0),(4,vi i),(1,.ptr 0 0 0)])
     (fun j=>⟨[[abcells a],[sgcell s]],[j.2.length]⟩) (fun j=>s.tm.length-j.1) ?_ (0,o1) ⟨Nat.zero_le _,by rw [← hT];simp⟩ ⟨rfl,rfl,rfl,rfl,rfl,trivial⟩ rfl rfl rfl rfl rfl (fun _=>inferInstance) (fun _=>inferInstance)
    rintro ⟨j,o2⟩ ⟨hj,hU⟩ JH
    simp only at hj hU JH ⊢
    refine AK.ev 100 rfl ?_
    refine AK.if_ (fun g=>?_) (fun g=>?_)
    ·have hjl:j<s.tm.length:=by have:=of_decide_eq_true g;rw [l1] at this;omega
     obtain ⟨x,hx⟩:=lget_of_lt s.tm hjl
     have hxl:=hso.rows x (List.mem_of_getElem? hx)
     have lx:((sys x).length:Int)=x.length:=by simp [sys]
     rw [drop_cons hx,List.flatMap_cons] at hU
     obtain ⟨R2,hR2⟩:∃ r,(s.tm.drop (j+1)).flatMap bndN++(valsN s.vs s.ms++rest)=r:=⟨_,rfl⟩
     have e2:bndN x=[((sys x).length:Int)]++x.flatMap fun c=>[c.1,c.2]:=by rw [lx];rfl
     rw [e2] at hU
     simp only [List.append_assoc] at hU
     rw [hR2,← List.append_assoc] at hU
     have hol2:=cap_len hU
     rw [List.length_append] at hol2
     refine AK.ix j (by omega) (map_get (f:=srow) hx) ?_
     refine AK.op (Ndo.append (res:=zrs (o2++[((sys x).length:Int)])) (tk:=[(o2++[((sys x).length:Int)]).length]) rfl rfl rfl rfl rfl rfl rfl rfl rfl rfl rfl rfl rfl rfl (zrs_len _) (zrs_al _) rfl rfl rfl ?_ ?_ ?_) ?_
     ·rw [zrs_len];simp;omega
     ·simp [zrs]
     ·rw [zrs_len,List.length_append];rfl
     generalize o2++[((sys x).length:Int)]=o3 at hU
     refine AK.while_ (ι:=Nat × List Int) 2 1 (fun k=>k.1≤x.length∧k.2++(((x.drop k.1).flatMap fun c=>[c.1,c.2])++R2)=T) (fun k=>[(7,vi k.1),(3,.sl (zrs k.2) (.tok 0)),(6,vi j),(5,.ptr 1 0 0),(4,vi i),(1,.ptr 0 0 0)])
      (fun k=>⟨[[abcells a],[sgcell s]],[k.2.length]⟩) (fun k=>x.length-k.1) ?_ (0,o3) ⟨Nat.zero_le _,by rw [← hU];simp⟩ ⟨rfl,rfl,rfl,rfl,rfl,rfl,trivial⟩ rfl rfl rfl rfl rfl (fun _=>inferInstance) (fun _=>inferInstance)
     rintro ⟨k,o4⟩ ⟨hk,hV⟩ KH
     simp only at hk hV KH ⊢
     refine AK.ev 100 rfl ?_
     refine AK.ix j (by omega) (map_get (f:=srow) hx) ?_
     refine AK.if_ (fun q=>?_) (fun q=>?_)
     ·have hkl:k<x.length:=by have:=of_decide_eq_true q;rw [lx] at this;omega
      obtain ⟨c,hc⟩:=lget_of_lt x hkl
      rw [drop_cons hc,List.flatMap_cons,List.append_assoc,← List.append_assoc] at hV
      have hol3:=cap_len hV
      rw [List.length_append] at hol3
      refine AK.db 1048576 ?_
      refine Drv.ig j (by omega) (map_get (f:=srow) hx) ?_
      refine Drv.ig k (by omega) (map_get (f:=scell) hc) ?_
      refine Drv.ig j (by omega) (map_get (f:=srow) hx) ?_
      refine Drv.ig k (by omega) (map_get (f:=scell) hc) ?_
      refine Drv.w (Ndo.append (res:=zrs (o4++[c.1,c.2])) (tk:=[(o4++[c.1,c.2]).length]) rfl rfl rfl rfl rfl rfl rfl rfl rfl rfl rfl rfl rfl rfl (zrs_len _) (zrs_al _) rfl rfl rfl ?_ ?_ ?_) ?_
      ·rw [zrs_len];simp;omega
      ·simp [zrs]
      ·rw [zrs_len,List.length_append];rfl
      refine Drv.e ?_
      refine Drv.z ?_
      exact KH (k+1,o4++[c.1,c.2]) ⟨hkl,hV⟩ (by simp only;omega) _ _ ⟨vint ((wrap_small (by omega) (by omega)).trans (by omega)),rfl,rfl,rfl,rfl,rfl,trivial⟩ rfl rfl rfl
     ·have hke:k=x.length:=by have:=of_decide_eq_false q;rw [lx] at this;omega
      rw [hke,List.drop_length] at hV
      exact JH (j+1,o4) ⟨hjl,by rw [← hV,← hR2];simp⟩ (by simp only;omega) _ _ ⟨vint ((wrap_small (by omega) (by omega)).trans (by omega)),rfl,rfl,rfl,rfl,trivial⟩ rfl rfl rfl
    ·have hje:j=s.tm.length:=by have:=of_decide_eq_false g;rw [l1] at this;omega
     rw [hje,List.drop_length,List.flatMap_nil,List.nil_append] at hU
     refine AK.while_ (ι:=Nat × List Int) 2 1 (fun k=>k.1≤s.vs.length∧k.2++(valsN (s.vs.drop k.1) (s.ms.drop k.1)++rest)=T) (fun k=>[(8,vi k.1),(3,.sl (zrs k.2) (.tok 0)),(5,.ptr 1 0 0),(4,vi i),(1,.ptr 0 0 0)])
      (fun k=>⟨[[abcells a],[sgcell s]],[k.2.length]⟩) (fun k=>s.vs.length-k.1) ?_ (0,o2) ⟨Nat.zero_le _,hU⟩ ⟨rfl,rfl,rfl,rfl,rfl,trivial⟩ rfl rfl rfl rfl rfl (fun _=>inferInstance) (fun _=>inferInstance)
     rintro ⟨k,o4⟩ ⟨hk,hV⟩ KH
     simp only at hk hV KH ⊢
     refine AK.ev 100 rfl ?_
     refine AK.if_ (fun q=>?_) (fun q=>?_)
     ·have hkl:k<s.vs.length:=by have:=of_decide_eq_true q;rw [l2] at this;omega
      obtain ⟨v,hv⟩:=lget_of_lt s.vs hkl
      obtain ⟨m,hm⟩:=lget_of_lt s.ms (i:=k) (by omega)
      rw [drop_cons hv,drop_cons hm,valsN,List.append_assoc,← List.append_assoc] at hV
      have hol3:=cap_len hV
      rw [List.length_append] at hol3
      refine AK.db 536870912 ?_
      refine Drv.ig k (by omega) (map_get (f:=vcell) hv) ?_
      refine Drv.ig k (by omega) (map_get (f:=vcell) hv) ?_
      refine Drv.ig k (by omega) (map_get (f:=vcell) hv) ?_
      refine Drv.pg (p_bit v.m) ?_
      refine Drv.ig k (by omega) (map_get (f:=bcell) hm) ?_
      refine Drv.pg (p_bit m) ?_
      refine Drv.w (Ndo.append (res:=zrs (o4++[v.lo,v.hi,bitN v.m,bitN m])) (tk:=[(o4++[v.lo,v.hi,bitN v.m,bitN m]).length]) rfl rfl rfl rfl rfl rfl rfl rfl rfl rfl rfl rfl rfl rfl (zrs_len _) (zrs_al _) rfl rfl rfl ?_ ?_ ?_) ?_
      ·rw [zrs_len];simp;omega
      ·simp [zrs]
      ·rw [zrs_len,List.length_append];rfl
      refine Drv.e ?_
      refine Drv.z ?_
      exact KH (k+1,o4++[v.lo,v.hi,bitN v.m,bitN m]) ⟨hkl,hV⟩ (by simp only;omega) _ _ ⟨vint ((wrap_small (by omega) (by omega)).trans (by omega)),rfl,rfl,rfl,rfl,trivial⟩ rfl rfl rfl
     ·have hke:k=s.vs.length:=by have:=of_decide_eq_false q;rw [l2] at this;omega
      rw [hke,List.drop_length,valsN_nil,List.nil_append] at hV
      exact IH (i+1,o4) ⟨hlt,by rw [← hV,← hrest]⟩ (by simp only;omega) _ _ ⟨vint ((wrap_small (by omega) (by omega)).trans (by omega)),rfl,rfl,trivial⟩ rfl rfl rfl
   ·have hie:i=a.sg.length:=by have:=of_decide_eq_false h;rw [hsl] at this;omega
    rw [hie,List.drop_length,List.flatMap_nil,List.append_nil] at hT
    subst hT
    exact AK.rz Tryz.func66 rfl
theorem all_take {α:Type}{p:α→Bool}{l:List α}{i:Nat}{a:α}(h:l[i]?=some a)(hA:(l.take i).all p=true)(hb:p a=true):(l.take (i+1)).all p=true:=by
 rw [List.take_add_one,h,List.all_append,hA];simp [hb]
theorem not_all {α:Type}{p:α→Bool}{l:List α}{i:Nat}{a:α}(h:l[i]?=some a)(hb:p a=false):l.all p=false:=by
 cases hc:l.all p with
 | false=>rfl
 | true=>rw [List.all_eq_true] at hc;have:=hc a (List.mem_of_getElem? h);rw [hb] at this;cases this
theorem p_certText (n:Nd)(hl:n.kids.length≤4500)(l:List Ab)(hll:l.length≤1000000000)(ho:∀ a,a∈l→AbOk a)(hI:∀ a,a∈l→AbI a)(hT:∀ a,a∈l→(absT a).length≤1000000000) :
 Pure X 40 [.agg (takeC n),.sl (abss l) .no] (str (certT n l)):=by
 have hlen:((abss l).length:Int)=l.length:=by simp [abss]
 refine Pure.run Tryz.func40 ?_
 refine AK.if_ (fun g=>?_) (fun g=>?_)
 ·have g':((l.length:Int) != (gAll (planL n)).pts)=true:=by rw [← hlen];exact g
  refine AK.rz Tryz.func40 ?_
  unfold certT;rw [if_neg (fun h=>by simp [h.1] at g')]
 have g':(l.length:Int)=(gAll (planL n)).pts:=by
  have:(((abss l).length:Int) != (gAll (planL n)).pts)=false:=g
  rw [hlen] at this;simpa using this
 refine AK.mint (d:=5) rfl rfl rfl ?_
 refine AK.while_ (ι:=Nat) 1 1 (fun i=>i≤l.length∧(l.take i).all (absN n)=true∧(certL (l.take i)).length≤400000) (fun i=>[(6,vi i),(5,.sl (bytesR (certL (l.take i))) (.tok 0)),(2,.ptr 0 0 0),(1,.sl (abss l) .no)])
  (fun i=>⟨[[takeC n]],[(certL (l.take i)).length]⟩) (fun i=>l.length-i) ?_ 0 ⟨Nat.zero_le _,rfl,by simp [certL]⟩ ⟨rfl,rfl,rfl,rfl,trivial⟩ rfl rfl rfl rfl rfl (fun _=>inferInstance) (fun _=>inferInstance)
 rintro i ⟨hi,hA,hC⟩ IH
 refine AK.ev 100 rfl ?_
 refine AK.if_ (fun g2=>?_) (fun g2=>?_)
 ·have hlt:i<l.length:=by have:=of_decide_eq_true g2;rw [hlen] at this;omega
  obtain ⟨a,hx⟩:=lget_of_lt l hlt
  have hm:=List.mem_of_getElem? hx
  have ha:=ho a hm
  have hia:=hI a hm
  have hta:=hT a hm
  refine AK.db 0 ?_
  refine Drv.ig i (by omega) (map_get (f:=abcells) hx) ?_
  refine Drv.pg (p_absN n hl a ha) ?_
  refine Drv.z ?_
  cases hb:absN n a with
  | false =>
    refine AK.yes ?_
    refine AK.rz Tryz.func40 ?_
    unfold certT;rw [if_neg (fun h=>by have:=h.2.1;rw [not_all hx hb] at this;cases this)]
  | true =>
    have hI1:=absI_I ha hia
    have hL:=lineC_len (absI a) hI1
    have hle:=absI_le hta
    have ht:=certL_take hx
    refine AK.no ?_
    refine AK.ix i (by omega) (map_get (f:=abcells) hx) ?_
    refine AK.pc (p_pack a (fun hn=>absB_tell hb ha hta hn)) ?_
    refine AK.pc (p_line (absI a) hle hI1) ?_
    refine AK.op (Ndo.append (res:=bytesR (certL (l.take (i+1)))) (tk:=[(certL (l.take (i+1))).length]) rfl rfl rfl rfl rfl rfl rfl rfl rfl rfl rfl rfl rfl rfl (bytesR_len _) (bytesR_al _) (bytesR_al _) (bytesR_ac _) ?_ ?_ ?_ ?_) ?_
    ·rw [bytesR_len];exact Nat.ble_eq_true_of_le (by simp [lineN])
    ·rw [bytesR_len,bytesR_len];omega
    ·rw [ht,bytesR_app]
    ·rw [bytesR_len,bytesR_len,ht,List.length_append];rfl
    have lb:((bytesR (certL (l.take (i+1)))).length:Int)=(certL (l.take (i+1))).length:=by rw [bytesR_len]
    refine AK.if_ (fun g3=>?_) (fun g3=>?_)
    ·have g3':=of_decide_eq_true g3
     rw [lb] at g3'
     have:=certL_le l (i+1)
     refine AK.rz Tryz.func40 ?_
     unfold certT;rw [if_neg (fun h=>by omega)]
    ·have g3':=of_decide_eq_false g3
     rw [lb] at g3'
     exact IH (i+1) ⟨hlt,all_take hx hA hb,by omega⟩ (by omega) _ _ ⟨vint ((wrap_small (by omega) (by omega)).trans (by omega)),rfl,rfl,rfl,trivial⟩ rfl rfl rfl
 ·have hie:i=l.length:=by have:=of_decide_eq_false g2;rw [hlen] at this;omega
  rw [hie,List.take_length] at hA hC
  refine AK.ev 100 rfl ?_
  refine AK.op (Ndo.bstr (s:=certL (l.take i)) rfl rfl rfl rfl rfl rfl rfl rfl rfl rfl rfl) ?_
  refine AK.rz Tryz.func40 ?_
  rw [hie,List.take_length]
  unfold certT;rw [if_pos ⟨g',hA,hC⟩]
def certO (n:Nd)(l:List Ab):List UInt8:=if rightS n=true then certT n l else []
theorem p_CertText (n:Nd)(hn:wN n≤100000000)(l:List Ab)(hll:l.length≤1000000000)(ho:∀ a,a∈l→AbOk a)(hI:∀ a,a∈l→AbI a)(hT:∀ a,a∈l→(absT a).length≤1000000000) :
 Pure X 16 [nd n,.sl (abss l) .no] (str (certO n l)):=by
 refine Pure.run Tryz.func16 ?_
 refine AK.pc (p_right n (by omega)) ?_
 unfold certO
 cases hr:rightS n with
 | false =>
   refine AK.yes ?_
   exact AK.rz Tryz.func16 rfl
 | true =>
   obtain ⟨fp,_,hw,hne,hkl⟩:=right_facts hr
   refine AK.no ?_
   refine AK.pc (p_take n hr) ?_
   refine AK.pc (p_certText n hkl l hll ho hI hT) ?_
   exact AK.rz Tryz.func16 rfl
theorem q_newAbsL (n:Nd)(hn:wN n≤100000000)(hnum:PrI n)(l:List Ab)(hll:l.length≤1000000000)(ho:∀ a,a∈l→AbOk a) :
 Pure X 36 [nd n,.sl (abss l) .no] (.tup [if rightS n=true∧l.all (absN n)=true then .cptr (progC n) else .val (.pointer none),vb (rightS n&&l.all (absN n))]):=by
 have hlen:((abss l).length:Int)=l.length:=by simp [abss]
 have hcw:=count_le_w n
 have hp:=q_newProgram n (by omega) hnum
 refine Pure.run Tryz.func36 ?_
 cases hr:rightS n with
 | false =>
   rw [if_neg (by simp [hr])] at hp
   refine AK.pc hp ?_
   refine AK.yes ?_
   exact AK.rz Tryz.func36 rfl
 | true =>
   obtain ⟨fp,_,hw,hne,hkl⟩:=right_facts hr
   rw [if_pos hr] at hp
   refine AK.pc hp ?_
   refine AK.no ?_
   refine AK.while_ (ι:=Nat) 1 0 (fun i=>i≤l.length∧(l.take i).all (absN n)=true) (fun i=>[(19,vi i),(18,vi l.length),(17,.sl (abss l) .no),(6,.cptr (progC n))]) (fun _=>⟨[[ncells n]],[]⟩) (fun i=>l.length-i) ?_ 0 ⟨Nat.zero_le _,rfl⟩
    ⟨rfl,vint hlen,rfl,rfl,trivial⟩ rfl rfl rfl rfl rfl (fun _=>inferInstance) (fun _=>inferInstance)
   rintro i ⟨hi,hA⟩ IH
   refine AK.ev 100 rfl ?_
   refine AK.if_ (fun g=>?_) (fun g=>?_)
   ·have hlt:i<l.length:=by have:=of_decide_eq_true g;omega
    obtain ⟨a,hx⟩:=lget_of_lt l hlt
    refine AK.ix i (by omega) (map_get (f:=abcells) hx) ?_
    refine AK.pc (q_absN q_valOk n hkl a (ho a (List.mem_of_getElem? hx))) ?_
    cases hb:absN n a with
    | false =>
      refine AK.yes ?_
      refine AK.rz Tryz.func36 ?_
      rw [not_all hx hb];rfl
    | true =>
      refine AK.no ?_
      exact IH (i+1) ⟨hlt,all_take hx hA hb⟩ (by omega) _ _ ⟨vint ((wrap_small (by omega) (by omega)).trans (by omega)),rfl,rfl,rfl,trivial⟩ rfl rfl rfl
   ·have hie:i=l.length:=by have:=of_decide_eq_false g;omega
    rw [hie,List.take_length] at hA
    refine AK.rz Tryz.func36 ?_
    rw [hA];rfl
theorem certL_drop {l:List Ab}{i:Nat}{a:Ab}(h:l[i]?=some a):certL (l.drop i)=lineN (absI a)++certL (l.drop (i+1)):=by rw [drop_cons h];rfl
theorem q_certText (n:Nd)(l:List Ab)(hll:l.length≤1000000000)(ho:∀ a,a∈l→AbOk a)(hI:∀ a,a∈l→AbI a)(hT:∀ a,a∈l→(absT a).length≤1000000000)(hA:l.all (absN n)=true)(hC:(certL l).length≤10000000000) :
 Pure X 41 [.sl (abss l) .no] (str (if (certL l).length≤400000 then certL l else [])):=by
 have hlen:((abss l).length:Int)=l.length:=by simp [abss]
 refine Pure.mk Tryz.func41 rfl rfl (by kernel_rfl) ?_
 refine AK.evj 1 100 rfl ?_
 refine AK.ev 1 rfl ?_
 refine AK.op (Ndo.allocB (y:=⟨2,.str [(0,1),(1,1)],[.val (.pointer none),.sl [] .tight],[false,false]⟩) (rest:=[]) 5 rfl rfl rfl rfl rfl rfl rfl rfl rfl) ?_
 refine AK.while_ (ι:=Nat × List UInt8 × Bool) 1 1 (fun i=>i.1≤l.length∧i.2.1++certL (l.drop i.1)=certL l) (fun i=>[(10,vi i.1),(9,vi l.length),(8,.sl (abss l) .no),(3,.ptr 0 0 0)])
  (fun i=>⟨[[bA (adr 93 0 i.2.2) i.2.1]],[i.2.1.length]⟩) (fun i=>l.length-i.1) ?_ (0,[],true) ⟨Nat.zero_le _,rfl⟩ ⟨rfl,vint hlen,rfl,rfl,trivial⟩ rfl rfl rfl rfl rfl (fun _=>inferInstance) (fun _=>inferInstance)
 rintro ⟨i,o,c⟩ ⟨hi,hU⟩ IH
 simp only at hi hU IH ⊢
 refine AK.ev 100 rfl ?_
 refine AK.if_ (fun g=>?_) (fun g=>?_)
 ·have hlt:i<l.length:=by have:=of_decide_eq_true g;omega
  obtain ⟨a,hx⟩:=lget_of_lt l hlt
  have hm:=List.mem_of_getElem? hx
  have ha:=ho a hm
  have hta:=hT a hm
  have hb:absN n a=true:=by rw [List.all_eq_true] at hA;exact hA a hm
  have hI1:=absI_I ha (hI a hm)
  have hle:=absI_le hta
  rw [certL_drop hx] at hU
  obtain ⟨rest,hrest⟩:∃ r,certL (l.drop (i+1))=r:=⟨_,rfl⟩
  rw [hrest] at hU
  refine AK.ix i (by omega) (map_get (f:=abcells) hx) ?_
  refine AK.pc (q_absNumbers a (fun hn=>absB_tell hb ha hta hn) (absB_none hb)) ?_
  generalize absI a=L at hU hI1 hle
  have hzl:((zrs L).length:Int)=L.length:=by rw [zrs_len]
  refine AK.while_ (ι:=Nat × List UInt8 × Bool) 1 1 (fun k=>k.1≤L.length∧k.2.1++(numsT k.1 (L.drop k.1)++([10]++rest))=certL l) (fun k=>[(17,vi k.1),(16,vi L.length),(15,.sl (zrs L) .no),(10,vi i),(9,vi l.length),(8,.sl (abss l) .no),(3,.ptr 0 0 0)])
   (fun k=>⟨[[bA (adr 93 0 k.2.2) k.2.1]],[k.2.1.length]⟩) (fun k=>L.length-k.1) ?_ (0,o,c) ⟨Nat.zero_le _,by rw [← hU];simp [lineN]⟩ ⟨rfl,vint hzl,rfl,rfl,rfl,rfl,rfl,trivial⟩ rfl rfl rfl rfl rfl (fun _=>inferInstance) (fun _=>inferInstance)
  rintro ⟨k,o2,c2⟩ ⟨hk,hV⟩ KH
  simp only at hk hV KH ⊢
  refine AK.ev 100 rfl ?_
  refine AK.if_ (fun q=>?_) (fun q=>?_)
  ·have hkl:k<L.length:=by have:=of_decide_eq_true q;omega
   obtain ⟨z,hz⟩:=lget_of_lt L hkl
   have hzI:=hI1 z (List.mem_of_getElem? hz)
   rw [drop_cons hz,numsT,List.append_assoc,← List.append_assoc] at hV
   have hol:=cap_len hV
   rw [List.length_append] at hol
   refine AK.ix k (by omega) (zrs_get hz) ?_
   refine AK.if_ (fun g2=>?_) (fun g2=>?_)
   ·have hs:sepN k z=[32]++Lib.itoa z:=by unfold sepN;rw [if_neg (by have:=of_decide_eq_true g2;omega)]
    refine AK.hc (τ':=[0]) [0] [0] (wB c2 o2 32 32 rfl (by omega)) ?_
    refine AK.pc (p_itoa z hzI.1 hzI.2) ?_
    refine AK.hc (τ':=[0]) [0] [0] (wA false (o2++[32]) (Lib.itoa z) (by simp only [hs,List.length_append,List.length_cons,List.length_nil] at hol ⊢;omega)) ?_
    refine KH (k+1,o2++sepN k z,false) ⟨hkl,hV⟩ (by simp only;omega) _ _ ⟨vint ((wrap_small (by omega) (by omega)).trans (by omega)),rfl,rfl,rfl,rfl,rfl,rfl,trivial⟩ ?_ rfl rfl
    rw [hs,← List.append_assoc];rfl
   ·have hs:sepN k z=Lib.itoa z:=by unfold sepN;rw [if_pos (by have:=of_decide_eq_false g2;omega)];rfl
    refine AK.pc (p_itoa z hzI.1 hzI.2) ?_
    refine AK.hc (τ':=[0]) [0] [0] (wA c2 o2 (Lib.itoa z) (by simp only [hs,List.length_append,List.length_cons,List.length_nil] at hol ⊢;omega)) ?_
    refine KH (k+1,o2++sepN k z,false) ⟨hkl,hV⟩ (by simp only;omega) _ _ ⟨vint ((wrap_small (by omega) (by omega)).trans (by omega)),rfl,rfl,rfl,rfl,rfl,rfl,trivial⟩ ?_ rfl rfl
    rw [hs];rfl
  ·have hke:k=L.length:=by have:=of_decide_eq_false q;omega
   rw [hke,List.drop_length,numsT,List.nil_append,← List.append_assoc] at hV
   have hol:=cap_len hV
   rw [List.length_append] at hol
   refine AK.ev 100 rfl ?_
   refine AK.hc (τ':=[0]) [0] [0] (wB c2 o2 10 10 rfl (by omega)) ?_
   exact IH (i+1,o2++[10],false) ⟨hlt,by rw [← hV,← hrest]⟩ (by simp only;omega) _ _ ⟨vint ((wrap_small (by omega) (by omega)).trans (by omega)),rfl,rfl,rfl,trivial⟩ rfl rfl rfl
 ·have hie:i=l.length:=by have:=of_decide_eq_false g;omega
  rw [hie,List.drop_length,show certL []=[] from rfl,List.append_nil] at hU
  subst hU
  refine AK.ev 100 rfl ?_
  refine AK.hc (τ':=[0]) [0] [0] (bLen c (certL l)) ?_
  refine AK.if_ (fun g3=>?_) (fun g3=>?_)
  ·have g3':=of_decide_eq_true g3
   refine AK.rz Tryz.func41 ?_
   rw [if_neg (by omega)]
  ·have g3':=of_decide_eq_false g3
   refine AK.hc (τ':=[0]) [0] [0] (sA c (certL l) (by omega)) ?_
   refine AK.rz Tryz.func41 ?_
   rw [if_pos (by omega)]
theorem q_CertText (n:Nd)(hn:wN n≤100000000)(hnum:PrI n)(l:List Ab)(hll:l.length≤1000000000)(ho:∀ a,a∈l→AbOk a)(hI:∀ a,a∈l→AbI a)(hT:∀ a,a∈l→(absT a).length≤1000000000)(hC:(certL l).length≤10000000000) :
 Pure X 18 [nd n,.sl (abss l) .no] (str (certO n l)):=by
 have hlen:((abss l).length:Int)=l.length:=by simp [abss]
 have hp:=q_newAbsL n hn hnum l hll ho
 refine Pure.run Tryz.func18 ?_
 unfold certO
 cases hr:rightS n with
 | false =>
   rw [hr,if_neg (fun h=>by cases h.1),Bool.false_and] at hp
   refine AK.pc hp ?_
   refine AK.gy ?_
   refine AK.yes ?_
   exact AK.rz Tryz.func18 rfl
 | true =>
   rw [if_pos rfl]
   rw [hr,Bool.true_and] at hp
   cases hA:l.all (absN n) with
   | false =>
     rw [hA,if_neg (fun h=>by cases h.2)] at hp
     refine AK.pc hp ?_
     refine AK.gy ?_
     refine AK.yes ?_
     refine AK.rz Tryz.func18 ?_
     unfold certT;rw [if_neg (fun h=>by rw [hA] at h;cases h.2.1)]
   | true =>
     rw [hA,if_pos ⟨rfl,rfl⟩] at hp
     refine AK.pc hp ?_
     refine AK.gn ?_
     refine AK.if_ (fun g=>?_) (fun g=>?_)
     ·have g':((l.length:Int) != (gAll (planL n)).pts)=true:=by rw [← hlen];exact g
      refine AK.rz Tryz.func18 ?_
      unfold certT;rw [if_neg (fun h=>by simp [h.1] at g')]
     ·have g':(l.length:Int)=(gAll (planL n)).pts:=by
       have:(((abss l).length:Int) != (gAll (planL n)).pts)=false:=g
       rw [hlen] at this;simpa using this
      refine AK.pc (q_certText n l hll ho hI hT hA hC) ?_
      refine AK.rz Tryz.func18 ?_
      unfold certT
      by_cases hc:(certL l).length≤400000
      ·rw [if_pos hc,if_pos ⟨g',hA,hc⟩]
      ·rw [if_neg hc,if_neg (fun h=>hc h.2.2)]
theorem pairs_len (x:List (Int × Int)):(x.flatMap fun c=>[c.1,c.2]).length=2*x.length:=by
 induction x with
 | nil=>rfl
 | cons c x ih=>rw [List.flatMap_cons,List.length_append,ih];simp;omega
theorem bnds_len (tm:List (List (Int × Int))):(tm.flatMap bndN).length=tm.length+2*swY tm:=by
 induction tm with
 | nil=>rfl
 | cons x tm ih=>rw [List.flatMap_cons,List.length_append,ih];simp only [bndN,List.length_cons,pairs_len,swY];omega
theorem valsN_len:∀ (vs:List Vl)(ms:List Bool),(valsN vs ms).length≤4*vs.length
 | [],ms=>by rw [valsN_nil];simp
 | v::vs,[]=>by simp [valsN]
 | v::vs,m::ms=>by
   have:=valsN_len vs ms
   rw [valsN,List.length_append,List.length_cons]
   simp only [List.length_cons,List.length_nil];omega
theorem segs_len (sg:List Sg):(sg.flatMap segN).length≤sg.length+4*swSgL sg:=by
 induction sg with
 | nil=>exact Nat.zero_le _
 | cons s sg ih =>
   have h1:=valsN_len s.vs s.ms
   have h2:=bnds_len s.tm
   rw [List.flatMap_cons,List.length_append]
   simp only [segN,List.length_cons,List.length_append,swSgL,swSg];omega
theorem absT_len (a:Ab):(absT a).length≤1+4*swAb a:=by
 have:=segs_len a.sg
 simp only [absT,List.length_cons,List.length_append,swAb];omega
theorem swAbL_le {l:List Ab}{x:Ab}(h:x∈l):swAb x≤swAbL l:=by
 induction l with
 | nil=>cases h
 | cons y l ih =>
   simp only [swAbL]
   rcases List.mem_cons.1 h with rfl | h
   ·omega
   ·have:=ih h;omega
theorem certL_len:∀ l:List Ab,(∀ a,a∈l→AbOk a)→(∀ a,a∈l→AbI a)→(certL l).length≤45*l.length+88*swAbL l
 | [],_,_=>Nat.zero_le _
 | a::l,ho,hI=>by
   have h1:=certL_len l (fun x hx=>ho x (by simp [hx])) (fun x hx=>hI x (by simp [hx]))
   have h2:=lineC_len (absI a) (absI_I (ho a (by simp)) (hI a (by simp)))
   have h3:=absT_len a
   have h4:(absI a).length≤1+4*swAb a:=by unfold absI;split
                                          ·simp
                                          ·exact h3
   have e:certL (a::l)=lineN (absI a)++certL l:=rfl
   rw [e,List.length_append,swAbL,List.length_cons];omega
theorem t_certText (n:Nd)(l:List Ab)(hpn:PrI n)(hln:LnI n)(hla:∀ a,a∈l→AbLn a)(hll:l.length≤9223372036854775807)(hI:∀ a,a∈l→AbI a):Pure X 4 [nd n,.sl (abss l) .no] (vb true):=by
 refine Pure.run Tryz.func4 ?_
 refine AK.pc (t_sz n hln 1048576 (by omega) (by omega)) ?_
 refine AK.if_ (fun g=>?_) (fun g=>?_)
 ·exact AK.rz Tryz.func4 rfl
 have g1:=szR_pos (show 0≤szR (swN n) 1048576 by have:=of_decide_eq_false g;omega)
 refine AK.pc (t_szAbS l (szR (swN n) 1048576) (by omega) (by omega) hll hla) ?_
 refine AK.if_ (fun g2=>?_) (fun g2=>?_)
 ·exact AK.rz Tryz.func4 rfl
 have g3:=szR_pos (show 0≤szR (l.length+swAbL l) (szR (swN n) 1048576) by have:=of_decide_eq_false g2;omega)
 have w1:=wN_sw.1 n
 have c1:=count_le_w n
 have hl:l.length≤1000000000:=by omega
 have ha:∀ a,a∈l→AbOk a:=fun a h=>AbOk_of (by have:=swAbL_le h;omega)
 have hT:∀ a,a∈l→(absT a).length≤1000000000:=fun a h=>by have:=swAbL_le h;have:=absT_len a;omega
 have hC:=certL_len l ha hI
 refine AK.pc (t_to n (by omega)) ?_
 refine AK.pc (t_toAbS l hl ha) ?_
 refine AK.pc (p_CertText n (by omega) l hl ha hI hT) ?_
 refine AK.pc (t_to n (by omega)) ?_
 refine AK.pc (t_toAbS l hl ha) ?_
 refine AK.pc (q_CertText n (by omega) hpn l hl ha hI hT (by omega)) ?_
 refine AK.no ?_ (ht:=by simp)
 refine AK.db 0 ?_
 refine Drv.pg (t_to n (by omega)) ?_
 refine Drv.pg (t_eq n (by omega)) ?_
 refine Drv.z ?_
 refine AK.no ?_
 refine AK.pc (t_toAbS l hl ha) ?_
 refine AK.pc (t_eqAbS l hl ha) ?_
 refine AK.no ?_
 exact AK.rz Tryz.func4 rfl
end Go.V
namespace Go.V
open Go Go.Proofs Go.ChangeShapes Go.WideShapes Go.ChangeAt Go.RowKit
set_option maxRecDepth 100000
abbrev abl (l:List Ab):AV:=.sl (abss l) .no
abbrev abl0V:Value:=.slice none 0 0
theorem absl_of {H:Type}{enc:TypeId × Value→H}{W:World}{base:Nat}{v:Value}{d:DataW H}{ps:List MemPlace}(hv:Value.okWide Tryz.prog W .any base 46 v)(h:DataW.Trod enc Tryz.prog W 0 (fun _=>true) true 46 v d ps) :
 ∃ l:List Ab,(∀ a,a∈l→AbLn a∧AbI a)∧l.length≤9223372036854775807∧Rel E0 W v (abl l):=by
 obtain ⟨a0,len,cap,rfl⟩:=okWide_slice Tryz.underlying46 hv
 obtain ⟨fuel,h⟩:=h
 obtain ⟨l,h0,h1,h2⟩:=rel_slice abcells (fun a=>AbLn a∧AbI a) Tryz.underlying46 (show Tryz.prog.cellsOf 30=3 by kernel_rfl) (by decide) (fun y=>rfl) (fun n _ cs' x' hx'=>trod_ab n cs' x' hx') h
 exact ⟨l,h0,h1,RelL.get1 h2⟩
end Go.V
namespace Go.Proofs.YtkbnfpldnpeliaaGreatDoor.certText
open Go Go.Proofs Go.V Go.ChangeShapes Go.WideShapes Go.ChangeAt Go.RowKit
set_option maxRecDepth 100000
theorem contract (H:Type)(enc:TypeId × Value→H)(W:World)(base:Nat)(args:Array Value)(ds gs:List (DataW H))(before:List MemPlace)
 (hval:∀ (j:Nat) t v,Tryz.f4.params[j]?=some t→args[j]?=some v→Value.okWide Tryz.prog W .any base t v)
 (hW:DataW.Whole enc Tryz.prog Tryz.f4.params.toList Rows.fnExactCertTextSpec.vars false W args.toList ds gs before)(hL:laidMetH Tryz.prog Rows.fnExactCertTextRow.laid W)(hs:W.ShapedOpen Tryz.prog) :
 Calls Tryz.prog 4 args W fun e W'=>∃ v,e=.returned v∧Rows.fnExactCertTextSpec.post enc Tryz.prog Tryz.f4 false true false false W args v W':=by
 have hW':=hW
 obtain ⟨p,q,hA0,_,_,_,_⟩:=hW
 have hA:DataW.TrodAll enc Tryz.prog W 0 (fun _=>true) true [24,46] args.toList ds p:=hA0
 obtain ⟨v0,vs0,d0,ds0,p0,q0,hargs,rfl,rfl,h0,r0⟩:=trodAll_cons hA
 obtain ⟨v1,vs1,d1,ds1,p1,q1,hargs1,rfl,rfl,h1,r1⟩:=trodAll_cons r0
 obtain ⟨rfl,rfl,rfl⟩:=trodAll_nil r1
 subst hargs1
 have ha0:args[0]?=some v0:=by rw [← Array.getElem?_toList,hargs];rfl
 have ha1:args[1]?=some v1:=by rw [← Array.getElem?_toList,hargs];rfl
 obtain ⟨n,n1,n2,n3⟩:=node_of (hval 0 24 v0 rfl ha0) h0
 obtain ⟨l,l1,l2,l3⟩:=absl_of (hval 1 46 v1 rfl ha1) h1
 have hR:RelL W args.toList [nd n,abl l]:=by rw [hargs];exact .cons n3 (.cons l3 .nil)
 refine (run_law (t_certText n l n1 n2 (fun a ha=>(l1 a ha).1) l2 (fun a ha=>(l1 a ha).2)) hs hL hR).mono fun r W' ⟨he,hb⟩=>?_
 refine ⟨_,he,post_vars laidOut0 (fun t ht=>?_) (fun n hn=>?_) hW' hb (fun hg=>?_) rfl Tryz.underlying4⟩
 ·have h:t∈[24,46]:=ht
  simp only [List.mem_cons,List.not_mem_nil,or_false] at h
  rcases h with rfl | rfl
  ·exact ⟨by kernel_rfl,of_decide_eq_true (by kernel_rfl)⟩
  ·exact ⟨by kernel_rfl,of_decide_eq_true (by kernel_rfl)⟩
 ·have h:n∈["loop.example/g00093/impl.condWords", "loop.example/g00093/impl.none"]:=hn
  simp only [List.mem_cons,List.not_mem_nil,or_false] at h
  rcases h with rfl | rfl
  ·exact ⟨_,_,condVar,condTy,condRd,condLt⟩
  ·exact ⟨_,_,noneVar,noneTy,noneRd,noneLt⟩
 ·obtain ⟨g1,g2,rfl⟩:=list2 hg;rfl
set_option maxRecDepth 100000
theorem ab {a b:Bool}(h:a=true)(g:b=true):(a&&b)=true:=by rw [h,g];rfl
set_option maxHeartbeats 100000000 in
theorem closed:joinedFacts Tryz.pinned.checked.prog 4 Tryz.f4 (OpenSpec.ofChange Rows.fnExactCertTextSpec).bare Rows.fnExactCertTextRow=true:=by
 unfold joinedFacts
 iterate 31 refine ab ?_ ?_
 all_goals as_aux_lemma=>kernel_rfl
end Go.Proofs.YtkbnfpldnpeliaaGreatDoor.certText
