/- A part of the proof of the claim that the last text states: no condition of its own. -/
import Derived.Test.YtkbnfpldnpeliaaGreatDoorG7
import Derived.Lib.AtoiTie
import Derived.Lib.Bytealg
set_option linter.unusedVariables false
set_option linter.unusedSimpArgs false
namespace Go.V
open Go Go.Proofs
def digs (l:List UInt8):Bool:=l.all digit
def valD (n:Nat)(l:List UInt8):Nat:=l.foldl (fun a c=>10*a+(c.toNat-48)) n
theorem valD_ge (l:List UInt8):∀ n,n≤valD n l:=by
 induction l with
 | nil=>intro n;simp [valD]
 | cons c l ih=>intro n;have:=ih (10*n+(c.toNat-48));simp only [valD,List.foldl_cons] at this ⊢;omega
theorem digit_nat {c:UInt8}(h:digit c=true):48≤c.toNat∧c.toNat≤57:=by have:=digit_range h;omega
theorem numGo_val:∀ (l:List UInt8)(n:Nat),numGo n l=if digs l then (if valD n l > 1000000 then -1 else (valD n l:Int)) else -1
 | [],n=>by
   have e:numGo n []=if (n:Int) > 1000000 then -1 else (n:Int):=rfl
   have e2:valD n []=n:=rfl
   have e3:digs []=true:=rfl
   rw [e,e2,e3,if_pos rfl]
   by_cases h:n > 1000000
   ·rw [if_pos h,if_pos (by omega)]
   ·rw [if_neg h,if_neg (by omega)]
 | c::l,n=>by
   simp only [numGo]
   by_cases hc:digit c=true
   ·rw [if_pos hc]
    have hd:=digit_nat hc
    have:=numGo_val l (10*n+(c.toNat-48))
    rw [show (10*(n:Int)+c.toNat-48)=((10*n+(c.toNat-48):Nat):Int) by omega,this]
    simp only [digs,List.all_cons,hc,Bool.true_and,valD,List.foldl_cons]
    rfl
   ·rw [if_neg hc]
    have hc':digit c=false:=by simpa using hc
    simp [digs,hc']
theorem valD_snoc (l:List UInt8)(c:UInt8)(n:Nat):valD n (l++[c])=10*valD n l+(c.toNat-48):=by simp [valD]
theorem digs_dec (n:Nat):digs (dec n)=true:=by
 induction n using Nat.strongRecOn with
 | ind n ih =>
   unfold dec
   have hd:∀ k,k<10→digit (UInt8.ofNat (48+k))=true:=fun k hk=>by
    have:k=0∨k=1∨k=2∨k=3∨k=4∨k=5∨k=6∨k=7∨k=8∨k=9:=by omega
    rcases this with rfl | rfl | rfl | rfl | rfl | rfl | rfl | rfl | rfl | rfl<;>decide
   split
   ·rename_i h
    have:=hd n h
    simp only [digs,List.all_cons,List.all_nil,Bool.and_true];exact this
   ·have:=ih (n / 10) (by omega)
    simp only [digs,List.all_append,List.all_cons,List.all_nil,Bool.and_true] at this ⊢
    rw [this,hd _ (by omega)];rfl
theorem digit_of (k:Nat)(hk:k<10):(UInt8.ofNat (48+k)).toNat=48+k:=by
 simp;omega
theorem valD_dec (n:Nat):valD 0 (dec n)=n:=by
 induction n using Nat.strongRecOn with
 | ind n ih =>
   unfold dec
   split
   ·rename_i h
    simp only [valD,List.foldl_cons,List.foldl_nil]
    rw [digit_of n h];omega
   ·rw [valD_snoc,ih (n / 10) (by omega),digit_of _ (by omega)];omega
theorem dec_val:∀ (q:Nat)(l:List UInt8),l.length=q+1→digs l=true→(l.length=1∨l.head?≠some 48)→dec (valD 0 l)=l
 | 0,l,hl,hd,_=>by
   match l,hl with
   | [c],_ =>
     have hc:digit c=true:=by simpa [digs] using hd
     have:=digit_nat hc
     simp only [valD,List.foldl_cons,List.foldl_nil]
     unfold dec
     rw [if_pos (by omega)]
     congr 1
     apply UInt8.toNat_inj.1
     rw [digit_of _ (by omega)];omega
 | q+1,l,hl,hd,h0=>by
   have hne:l≠[]:=by rintro rfl;simp at hl
   obtain ⟨l',c,rfl⟩:∃ l' c,l=l'++[c]:=⟨l.dropLast,l.getLast hne,(List.dropLast_concat_getLast hne).symm⟩
   simp at hl
   have hl':l'.length=q+1:=by omega
   simp only [digs,List.all_append,Bool.and_eq_true,List.all_cons,List.all_nil,Bool.and_true] at hd
   have hc:=digit_nat hd.2
   have hhead:l'.head?≠some 48:=by
    rcases h0 with h | h
    ·rw [List.length_append,hl'] at h;simp at h
    ·cases l' with
     | nil=>simp at hl'
     | cons y l'=>simpa using h
   have ih:=dec_val q l' hl' hd.1 (.inr hhead)
   have hpos:1≤valD 0 l':=by
    cases l' with
    | nil=>simp at hl'
    | cons y l' =>
      simp only [digs,List.all_cons,Bool.and_eq_true] at hd
      have hy:=digit_nat hd.1.1
      have:y.toNat≠48:=fun h=>hhead (by simp;exact UInt8.toNat_inj.1 h)
      have:=valD_ge l' (10*0+(y.toNat-48))
      simp only [valD,List.foldl_cons] at this ⊢;omega
   rw [valD_snoc]
   unfold dec
   rw [if_neg (by omega),show (10*valD 0 l'+(c.toNat-48)) / 10=valD 0 l' by omega,ih,show (10*valD 0 l'+(c.toNat-48)) % 10=c.toNat-48 by omega]
   congr 2
   apply UInt8.toNat_inj.1
   rw [digit_of _ (by omega)];omega
theorem dec_eq (n:Nat):Lib.decDigits n=dec n:=by
 induction n using Nat.strongRecOn with
 | ind n ih =>
   unfold dec
   rw [Lib.decDigits]
   split
   ·rfl
   ·rw [ih (n / 10) (by omega)]
theorem numberS_iff (s:List UInt8):0≤numberS s↔∃ n:Nat,n≤1000000∧s=dec n∧numberS s=n:=by
 constructor
 ·intro h
  cases s with
  | nil=>simp [numberS] at h
  | cons c l =>
    simp only [numberS] at h ⊢
    split at h
    ·omega
    ·rename_i h1
     split at h
     ·omega
     ·rename_i h2
      rw [if_neg h1,if_neg h2]
      have hv:=numGo_val (c::l) 0
      simp only [Int.ofNat_zero] at hv
      rw [hv] at h ⊢
      split at h
      ·rename_i hd
       rw [if_pos hd]
       split at h
       ·omega
       ·rename_i hle
        rw [if_neg hle]
        refine ⟨valD 0 (c::l),by omega,?_,rfl⟩
        refine (dec_val l.length (c::l) (by simp) hd ?_).symm
        simp only [Bool.and_eq_true,decide_eq_true_eq,beq_iff_eq,not_and] at h2
        by_cases hl:l.length > 0
        ·right;simp;exact h2 hl
        ·have:l=[]:=List.eq_nil_of_length_eq_zero (by omega)
         subst this;left;rfl
      ·omega
 ·rintro ⟨n,_,_,h⟩;omega
theorem dec_head (n:Nat)(h:10≤n):(dec n).head?≠some 48:=by
 induction n using Nat.strongRecOn with
 | ind n ih =>
   unfold dec
   rw [if_neg (by omega)]
   have hne:dec (n / 10)≠[]:=by unfold dec;split<;>simp
   have ih':(dec (n / 10)).head?≠some 48:=by
    by_cases h2:10≤n / 10
    ·exact ih (n / 10) (by omega) h2
    ·unfold dec
     rw [if_pos (by omega)]
     intro h
     have:=congrArg UInt8.toNat (Option.some.inj h)
     rw [digit_of _ (by omega)] at this
     simp at this
     omega
   cases hq:dec (n / 10) with
   | nil=>exact absurd hq hne
   | cons y l=>rw [hq] at ih';simpa using ih'
theorem dec_pos (n:Nat):1≤(dec n).length:=by
 unfold dec;split<;>simp
theorem numberS_dec (n:Nat)(h:n≤1000000):numberS (dec n)=n:=by
 have hl:=dec_le7 n h
 have hp:=dec_pos n
 have hv:=numGo_val (dec n) 0
 rw [digs_dec,if_pos rfl,valD_dec,if_neg (by omega)] at hv
 cases hs:dec n with
 | nil=>rw [hs] at hp;simp at hp
 | cons c l =>
   rw [hs] at hl hv
   simp at hl
   simp only [numberS]
   rw [if_neg (by omega)]
   have:¬ ((decide (l.length > 0)&&c==48)=true):=by
    simp only [Bool.and_eq_true,decide_eq_true_eq,beq_iff_eq,not_and]
    intro h1 h2
    have h10:10≤n:=by
     rcases Nat.lt_or_ge n 10 with h' | h'
     ·unfold dec at hs;rw [if_pos h'] at hs;simp at hs;rw [hs.2] at h1;simp at h1
     ·exact h'
    have:=dec_head n h10
    rw [hs] at this
    simp at this
    exact this h2
   rw [if_neg this]
   exact hv
theorem decFrom_val:∀ (l:List UInt8)(n:Nat),digs l=true→Lib.decFrom n l=some (valD n l)
 | [],n,_=>by simp [Lib.decFrom,valD]
 | c::l,n,h=>by
   simp only [digs,List.all_cons,Bool.and_eq_true] at h
   have hc:=digit_nat h.1
   have hd:Lib.digitVal c=some (c.toNat-48):=by unfold Lib.digitVal;rw [if_pos (by omega)]
   simp only [Lib.decFrom,hd]
   rw [decFrom_val l _ h.2]
   simp only [valD,List.foldl_cons]
   rw [Nat.mul_comm]
theorem atoi_dec (n:Nat)(h:n≤1000000):Lib.atoiAll (dec n)=.ok (n:Int):=by
 have hl:=dec_le7 n h
 have hp:=dec_pos n
 have hd:=digs_dec n
 have hv:=valD_dec n
 rw [Lib.atoiAll_short _ (by omega)]
 cases hs:dec n with
 | nil=>rw [hs] at hp;simp at hp
 | cons c l =>
   rw [hs] at hd hv
   have hc:digit c=true:=by simp only [digs,List.all_cons,Bool.and_eq_true] at hd;exact hd.1
   have hr:=digit_nat hc
   have h45:(c==45)=false:=by rw [beq_eq_false_iff_ne];rintro rfl;simp at hr
   have h43:(c==43)=false:=by rw [beq_eq_false_iff_ne];rintro rfl;simp at hr
   simp only [Lib.atoi,h45,h43,Lib.decNat,decFrom_val _ 0 hd,hv]
   rfl
def readS (s:List UInt8):Bool:=match Lib.atoiAll s with
 | .ok v=>Lib.itoa v==s
 | _=>false
theorem readS_num {s:List UInt8}{n:Nat}(h:n≤1000000)(hs:s=dec n):readS s=true∧atoiN s=n:=by
 subst hs
 simp only [readS,atoiN,atoi_dec n h]
 have:Lib.itoa (n:Int)=dec n:=by unfold Lib.itoa;rw [if_neg (by omega),Int.toNat_natCast,dec_eq]
 simp [this]
theorem readS_iff (c:UInt8)(l:List UInt8)(hc:digit c=true):(readS (c::l)&&decide (atoiN (c::l)≤1000000))=decide (0≤numberS (c::l)):=by
 rw [Bool.eq_iff_iff]
 simp only [Bool.and_eq_true,decide_eq_true_eq]
 rw [numberS_iff]
 constructor
 ·rintro ⟨h1,h2⟩
  cases h:Lib.atoiAll (c::l) with
  | ok v =>
    simp only [readS,atoiN,h,beq_iff_eq] at h1 h2
    have h1:=h1.symm
    have hv:¬ v<0:=fun hv=>by
     unfold Lib.itoa at h1
     rw [if_pos hv] at h1
     simp at h1
     have:=digit_nat hc
     rw [h1.1] at this
     simp at this
    obtain ⟨n,rfl⟩:∃ n:Nat,v=n:=⟨v.toNat,by omega⟩
    unfold Lib.itoa at h1
    rw [if_neg hv,Int.toNat_natCast,dec_eq] at h1
    exact ⟨n,by omega,h1,by rw [h1];exact numberS_dec n (by omega)⟩
  | range=>simp [readS,h] at h1
  | _=>simp [readS,h] at h1
 ·rintro ⟨n,hn,hs,_⟩
  obtain ⟨a,b⟩:=readS_num hn hs
  exact ⟨a,by rw [b];omega⟩
theorem q_readNum (s:List UInt8)(hs:s.length≤1000000000):Pure X 212 [str s] (.tup [vi (atoiN s),vb (readS s)]):=by
 have hu:X.P.underlying 95=some (.interface (X.P.methodsAt 95)):=by kernel_rfl
 have ha:=p_atoi s hs
 refine Pure.run Tryz.func212 ?_
 cases h:Lib.atoiAll s with
 | ok v =>
   simp only [atoiN,atoiE,readS,h] at ha ⊢
   obtain ⟨b0,b1⟩:=Lib.atoiAll_bounds h
   refine AK.pc ha ?_
   refine AK.op (Ndo.isNil hu) ?_
   refine AK.gy ?_
   refine AK.pc (p_itoa v (by omega) (by omega)) ?_
   exact AK.rt Tryz.func212 rfl
 | range =>
   simp only [atoiN,atoiE,readS,h] at ha ⊢
   refine AK.pc ha ?_
   refine AK.op (Ndo.notNil hu) ?_
   refine AK.gn ?_
   exact AK.rt Tryz.func212 rfl
 | _ =>
   simp only [atoiN,atoiE,readS,h] at ha ⊢
   refine AK.pc ha ?_
   refine AK.op (Ndo.notNil hu) ?_
   refine AK.gn ?_
   exact AK.rt Tryz.func212 rfl
theorem q_indexByte (s:List UInt8)(c:UInt8):Pure X 295 [str s,vc c] (vi (Lib.indexByte s c)):=by
 have hr:∀ w,(callFunc 315 ⟨[.string ⟨⟨s⟩⟩,.int .u8 c.toNat]⟩).run X.P w=.ok (.value (.int .i64 (Lib.indexByte s c))) w:=fun w=>by
  refine (run_callFunc_extern Tryz.func315 (by kernel_rfl) (by kernel_rfl) (by kernel_rfl) (e:=Extern.BytealgIndexByte.indexByte) (by kernel_rfl) _ w).trans ?_
  have:=Lib.run_indexByteString (P:=Tryz.prog) ⟨⟨s⟩⟩ (c.toNat:Int) w
  have e:((c.toNat:Int)).toNat.toUInt8=c:=by simp
  rw [e] at this
  rw [show (⟨[.string ⟨⟨s⟩⟩,.int .u8 c.toNat]⟩:Array Value)=#[.string ⟨⟨s⟩⟩,.int .u8 c.toNat] from rfl,this]
  rfl
 refine Pure.run Tryz.func295 ?_
 refine AK.op (Ndo.extern hr) ?_
 exact AK.rt Tryz.func295 rfl
theorem q_slIndex (s:List UInt8)(c:UInt8):Pure X 274 [str s,str [c]] (vi (Lib.indexByte s c)):=by
 refine Pure.run Tryz.func274 ?_
 refine AK.gn ?_
 refine AK.if_ (fun h=>?_) (fun h=>?_)
 ·have h':([c]==s)=true:=h
  have:s=[c]:=by rw [beq_iff_eq] at h';exact h'.symm
  subst this
  refine AK.rt Tryz.func274 ?_
  simp [Lib.indexByte,retA]
 ·refine AK.yes ?_
  refine AK.by 0 (by omega) (b:=c) rfl ?_
  refine AK.pc (q_indexByte s c) ?_
  exact AK.rt Tryz.func274 rfl
theorem q_index1 (s:List UInt8)(c:UInt8):Pure X 250 [str s,str [c]] (vi (Lib.indexByte s c)):=by
 refine Pure.run Tryz.func250 ?_
 refine AK.pc (q_slIndex s c) ?_
 exact AK.rt Tryz.func250 rfl
theorem q_contains1 (s:List UInt8)(c:UInt8):Pure X 214 [str s,str [c]] (vb (decide (Lib.indexByte s c≥0))):=by
 refine Pure.run Tryz.func214 ?_
 refine AK.pc (q_index1 s c) ?_
 exact AK.rt Tryz.func214 rfl
def oneSigns:List UInt8:=[43,45,42,40,41,91,93,123,125,59,61,60,62,63]
def twoSigns:List (List UInt8):=[[61,61],[33,61],[60,61],[62,61]]
theorem indexByte_mem (l:List UInt8)(c:UInt8):decide (Lib.indexByte l c≥0)=l.contains c:=by
 induction l with
 | nil=>rfl
 | cons b l ih =>
   unfold Lib.indexByte
   by_cases h:b=c
   ·subst h;simp
   ·have h':(b==c)=false:=by simpa using h
    have h2:(c==b)=false:=by simpa using Ne.symm h
    rw [h']
    simp only [Bool.false_eq_true,if_false,List.contains_cons,h2,Bool.false_or,← ih]
    have:=Lib.indexByte_ge l c
    split
    ·rename_i h3
     have:Lib.indexByte l c=-1:=by simpa using h3
     rw [this]
    ·rename_i h3
     have:Lib.indexByte l c≠-1:=by simpa using h3
     by_cases h4:Lib.indexByte l c≥0
     ·simp [h4];omega
     ·omega
theorem kindS_sign (c:UInt8)(l:List UInt8)(h1:letter c=false)(h2:digit c=false):kindS (c::l)=if has twoSigns (c::l)||(l.isEmpty&&oneSigns.contains c) then 3 else 0:=by
 have k1:has keys (c::l)=false:=by
  simp only [has,keys,List.any_cons,List.any_nil,Bool.or_false,Bool.or_eq_false_iff,beq_eq_false_iff_ne]
  refine ⟨?_,?_,?_,?_,?_,?_,?_,?_,?_,?_,?_,?_,?_⟩<;>(intro h;injection h with h _;subst h;revert h1;decide)
 have k2:nameS (c::l)=false:=by simp [nameS,h1]
 have k3:¬ numberS (c::l)≥0:=by
  intro h
  obtain ⟨n,_,hs,_⟩:=(numberS_iff _).1 h
  have:=digs_dec n
  rw [← hs] at this
  simp only [digs,List.all_cons,h2,Bool.false_and] at this
  cases this
 simp only [kindS,k1,k2]
 rw [if_neg (by simp),if_neg (by simp),if_neg k3]
 have:has signs (c::l)=(has twoSigns (c::l)||(l.isEmpty&&oneSigns.contains c)):=by
  cases l with
  | nil =>
    simp only [has,signs,twoSigns,oneSigns,List.any_cons,List.any_nil,List.contains_cons,List.contains_nil,List.isEmpty_nil,Bool.true_and,Bool.or_false]
    have e:∀ a:UInt8,(a==c)=(c==a):=fun a=>by rw [Bool.eq_iff_iff,beq_iff_eq,beq_iff_eq];exact eq_comm
    simp [e,Bool.or_assoc]
  | cons d l =>
    simp only [has,signs,twoSigns,List.any_cons,List.any_nil,List.isEmpty_cons,Bool.false_and,Bool.or_false]
    simp
 rw [this]
theorem q_kindOf (s:List UInt8)(hs:s.length≤1000000000):Pure X 165 [str s] (vi (kindS s)):=by
 cases s with
 | nil =>
   refine Pure.run Tryz.func165 ?_
   refine AK.yes ?_
   refine AK.rt Tryz.func165 ?_
   rfl
 | cons c l =>
   simp only [List.length_cons] at hs
   have hsz:((⟨⟨c::l⟩⟩:ByteArray).size:Int)=l.length+1:=sz_cons c l
   refine Pure.run Tryz.func165 ?_
   refine AK.no ?_
   refine AK.pc (q_isKey (c::l)) ?_
   refine AK.if_ (fun h1=>?_) (fun h1=>?_)
   ·have h1':has keys (c::l)=true:=h1
    refine AK.rt Tryz.func165 ?_
    simp [kindS,h1',retA]
   have h1':has keys (c::l)=false:=h1
   refine AK.by 0 (by omega) (b:=c) rfl ?_
   refine AK.pc (q_letter c) ?_
   refine AK.if_ (fun h2=>?_) (fun h2=>?_)
   ·have h2':letter c=true:=h2
    have hk:kindS (c::l)=if word (c::l)&&decide (l.length<8) then 1 else 0:=by
     have hn:nameS (c::l)=(word (c::l)&&decide (l.length<8)):=by simp [nameS,h1',h2',Bool.and_comm]
     have hd:digit c=false:=by
      simp only [letter,digit,between,Bool.and_eq_true,decide_eq_true_eq,Bool.and_eq_false_iff,decide_eq_false_iff_not] at h2' ⊢
      omega
     have k3:¬ numberS (c::l)≥0:=by
      intro h
      obtain ⟨n,_,hs,_⟩:=(numberS_iff _).1 h
      have:=digs_dec n
      rw [← hs] at this
      simp only [digs,List.all_cons,hd,Bool.false_and] at this
      cases this
     have k4:has signs (c::l)=false:=by
      simp only [has,signs,List.any_cons,List.any_nil,Bool.or_false,Bool.or_eq_false_iff,beq_eq_false_iff_ne]
      refine ⟨?_,?_,?_,?_,?_,?_,?_,?_,?_,?_,?_,?_,?_,?_,?_,?_,?_,?_⟩<;>(intro h;injection h with h _;subst h;revert h2';decide)
     simp only [kindS,h1',hn]
     rw [if_neg (by simp)]
     split
     ·rfl
     ·first | (rw [if_neg k3,k4];rfl) | (rw [k4];rfl)
    rw [hk]
    generalize hT:word (c::l)=T
    refine AK.while_ (ι:=Nat) 0 0 (fun i=>i≤l.length+1∧T=word ((c::l).drop i)) (fun i=>[(18,vi i),(17,vi (l.length+1)),(0,str (c::l))]) (fun _=>⟨[],[]⟩) (fun i=>l.length+1-i) ?_ 0 ⟨Nat.zero_le _,hT.symm⟩
     ⟨rfl,by rw [← hsz];rfl,rfl,trivial⟩ rfl rfl rfl rfl rfl (fun _=>inferInstance) (fun _=>inferInstance)
    rintro i ⟨hi,hTi⟩ IH
    refine AK.ev 100 rfl ?_
    refine AK.if_ (fun h3=>?_) (fun h3=>?_)
    ·have hlt:i<(c::l).length:=by have:=of_decide_eq_true h3;simp;omega
     obtain ⟨b,hb⟩:=lget_of_lt (c::l) hlt
     rw [drop_cons hb] at hTi
     have hw:word (b::(c::l).drop (i+1))=((letter b||digit b)&&word ((c::l).drop (i+1))):=rfl
     rw [hw] at hTi
     refine AK.by i (by omega) hb ?_
     refine AK.pc (q_letter b) ?_
     refine AK.gd (fun h4=>?_) (fun h4=>?_)
     ·have h4':letter b=false:=by have:(!letter b)=true:=h4;simpa using this
      refine AK.by i (by omega) hb ?_
      refine AK.pc (q_digit b) ?_
      refine AK.if_ (fun h5=>?_) (fun h5=>?_)
      ·have h5':digit b=false:=by have:(!digit b)=true:=h5;simpa using this
       refine AK.rt Tryz.func165 ?_
       rw [hTi,h4',h5'];rfl
      ·have h5':digit b=true:=by have:(!digit b)=false:=h5;simpa using this
       exact IH (i+1) ⟨by simp at hlt;omega,by rw [hTi,h5'];simp⟩ (by simp at hlt;omega) _ _ ⟨vint ((wrap_small (by omega) (by omega)).trans (by omega)),rfl,rfl,trivial⟩ rfl rfl rfl
     ·have h4':letter b=true:=by have:(!letter b)=false:=h4;simpa using this
      refine AK.no ?_
      exact IH (i+1) ⟨by simp at hlt;omega,by rw [hTi,h4'];simp⟩ (by simp at hlt;omega) _ _ ⟨vint ((wrap_small (by omega) (by omega)).trans (by omega)),rfl,rfl,trivial⟩ rfl rfl rfl
    ·have:i=(c::l).length:=by have:=of_decide_eq_false h3;simp;omega
     rw [this,List.drop_length] at hTi
     have hT1:T=true:=hTi
     subst hT1
     refine AK.if_ (fun h4=>?_) (fun h4=>?_)
     ·have h4':l.length<8:=by have:=of_decide_eq_true h4;rw [hsz] at this;omega
      refine AK.rt Tryz.func165 ?_
      simp [h4',retA]
     ·have h4':¬ l.length<8:=by have:=of_decide_eq_false h4;rw [hsz] at this;omega
      refine AK.rt Tryz.func165 ?_
      simp [h4',retA]
   have h2':letter c=false:=h2
   refine AK.by 0 (by omega) (b:=c) rfl ?_
   refine AK.pc (q_digit c) ?_
   refine AK.if_ (fun h3=>?_) (fun h3=>?_)
   ·have h3':digit c=true:=h3
    have hr:=readS_iff c l h3'
    have hk:kindS (c::l)=if readS (c::l)&&decide (atoiN (c::l)≤1000000) then 2 else 0:=by
     have k2:nameS (c::l)=false:=by simp [nameS,h2']
     have k4:has signs (c::l)=false:=by
      simp only [has,signs,List.any_cons,List.any_nil,Bool.or_false,Bool.or_eq_false_iff,beq_eq_false_iff_ne]
      refine ⟨?_,?_,?_,?_,?_,?_,?_,?_,?_,?_,?_,?_,?_,?_,?_,?_,?_,?_⟩<;>(intro h;injection h with h _;subst h;revert h3';decide)
     simp only [kindS,h1',k2,hr]
     rw [if_neg (by simp),if_neg (by simp)]
     by_cases h:0≤numberS (c::l)
     ·simp [h]
     ·rw [if_neg (by omega),k4];simp [h]
    rw [hk]
    refine AK.pc (q_readNum (c::l) (by simp;omega)) ?_
    refine AK.gd (fun h4=>?_) (fun h4=>?_)
    ·have h4':readS (c::l)=true:=h4
     refine AK.if_ (fun h5=>?_) (fun h5=>?_)
     ·have h5':atoiN (c::l)≤1000000:=of_decide_eq_true h5
      refine AK.rt Tryz.func165 ?_
      simp [h4',h5',retA]
     ·have h5':¬ atoiN (c::l)≤1000000:=of_decide_eq_false h5
      refine AK.rt Tryz.func165 ?_
      simp [h4',h5',retA]
    ·have h4':readS (c::l)=false:=h4
     refine AK.no ?_
     refine AK.rt Tryz.func165 ?_
     simp [h4',retA]
   have h3':digit c=false:=h3
   rw [kindS_sign c l h2' h3']
   refine AK.pc (q_contains twoSigns (c::l) (by decide)) ?_
   refine AK.gd (fun h4=>?_) (fun h4=>?_)
   ·have h4':has twoSigns (c::l)=true:=h4
    refine AK.yes ?_
    refine AK.rt Tryz.func165 ?_
    simp [h4',retA]
   have h4':has twoSigns (c::l)=false:=h4
   cases l with
   | nil =>
     refine AK.gy ?_
     refine AK.pc (q_contains1 oneSigns c) ?_
     refine AK.if_ (fun h5=>?_) (fun h5=>?_)
     ·have h5':oneSigns.contains c=true:=by rw [← indexByte_mem];exact h5
      refine AK.rt Tryz.func165 ?_
      rw [h4',h5'];rfl
     ·have h5':oneSigns.contains c=false:=by rw [← indexByte_mem];exact h5
      refine AK.rt Tryz.func165 ?_
      rw [h4',h5'];rfl
   | cons d l =>
     have:(((⟨⟨c::d::l⟩⟩:ByteArray).size:Int)==1)=false:=by rw [sz_cons];simp;omega
     refine AK.gn ?_ (ht:=this)
     refine AK.no ?_
     refine AK.rt Tryz.func165 ?_
     simp [h4',retA]
theorem two_sign (c d:UInt8)(l:List UInt8)(h1:letter c=false)(h2:digit c=false):(kindS [c,d]==3)=has signs [c,d]:=by
 rw [kindS_sign c [d] h1 h2]
 have:has signs [c,d]=has twoSigns [c,d]:=by
  simp only [has,signs,twoSigns,List.any_cons,List.any_nil,Bool.or_false];simp
 rw [this]
 cases has twoSigns [c,d]<;>rfl
def end2 (c:UInt8):List UInt8→Nat
 | []=>1
 | d::_=>if has signs [c,d] then 2 else 1
theorem q_longest (c:UInt8)(l:List UInt8)(hs:l.length≤900000000):Pure X 282 [str (c::l)] (vi (endN (c::l))):=by
 have hsz:((⟨⟨c::l⟩⟩:ByteArray).size:Int)=l.length+1:=sz_cons c l
 obtain ⟨T,hT⟩:∃ T,wordLen (c::l)=T:=⟨_,rfl⟩
 have hTle:T≤l.length+1:=by rw [← hT];exact wordLen_le _
 have hE:endN (c::l)=if T=0 then end2 c l else T:=by
  by_cases h:(letter c||digit c)=true
  ·have hw:T=1+wordLen l:=by rw [← hT];simp only [wordLen];rw [if_pos h]
   have he:endN (c::l)=wordLen (c::l):=by simp only [endN];rw [if_pos h]
   rw [he,hT,if_neg (by omega)]
  ·have hw:T=0:=by rw [← hT];simp only [wordLen];rw [if_neg h]
   have he:endN (c::l)=end2 c l:=by simp only [endN];rw [if_neg h];cases l<;>rfl
   rw [he,if_pos hw]
 have tail:AK X ⟨282,Tryz.f282,0,0⟩ (locG false 4 Tryz.f282) [(3,vi T),(0,str (c::l))] ⟨[],[]⟩ (fun e S=>e=.ret (vi (endN (c::l)))∧S=⟨[],[]⟩):=by
  rw [hE]
  refine AK.at_ ?_
  refine AK.ev 100 rfl ?_
  refine AK.gd (fun h=>?_) (fun h=>?_)
  ·have h0:T=0:=by have:((T:Int)==0)=true:=h;simpa using this
   have hcd:letter c=false∧digit c=false:=by
    rw [h0] at hT
    simp only [wordLen] at hT
    split at hT
    ·omega
    ·rename_i h;simpa using h
   rw [if_pos h0]
   cases l with
   | nil =>
     refine AK.gn ?_
     refine AK.no ?_
     refine AK.rt Tryz.func282 ?_
     rw [h0];rfl
   | cons d l =>
     refine AK.gy ?_ (ht:=decide_eq_true (by rw [hsz];simp;omega))
     refine AK.op (Ndo.sub (l:=0) (h:=2) (r:=[c,d]) rfl rfl rfl rfl rfl rfl rfl rfl ?_ ?_ ?_ rfl) ?_
     ·omega
     ·omega
     ·simp;omega
     refine AK.pc (q_kindOf [c,d] (by simp)) ?_
     have e:=two_sign c d l hcd.1 hcd.2
     refine AK.if_ (fun h2=>?_) (fun h2=>?_)
     ·have h2':has signs [c,d]=true:=by rw [← e];exact h2
      refine AK.rt Tryz.func282 ?_
      simp [h2',retA,end2]
     ·have h2':has signs [c,d]=false:=by rw [← e];exact h2
      refine AK.rt Tryz.func282 ?_
      simp [h2',h0,retA,end2]
  ·have h0:T≠0:=by have:((T:Int)==0)=false:=h;simpa using this
   rw [if_neg h0]
   refine AK.gn ?_
   refine AK.no ?_
   refine AK.rt Tryz.func282 ?_
   simp only [retA]
   rw [if_neg (by omega)]
 refine Pure.run Tryz.func282 ?_
 refine AK.while_ (ι:=Nat) 0 0 (fun i=>i≤l.length+1∧T=i+wordLen ((c::l).drop i)) (fun i=>[(3,vi i),(0,str (c::l))]) (fun _=>⟨[],[]⟩) (fun i=>l.length+1-i) ?_ 0 ⟨Nat.zero_le _,by simpa using hT.symm⟩
  ⟨rfl,rfl,trivial⟩ rfl rfl rfl rfl rfl (fun _=>inferInstance) (fun _=>inferInstance)
 rintro i ⟨hi,hTi⟩ IH
 refine AK.ev 100 rfl ?_
 refine AK.gd (fun h=>?_) (fun h=>?_)
 ·have hlt:i<(c::l).length:=by have:=of_decide_eq_true h;simp;omega
  obtain ⟨b,hb⟩:=lget_of_lt (c::l) hlt
  rw [drop_cons hb] at hTi
  simp only [wordLen] at hTi
  refine AK.by i (by omega) hb ?_
  refine AK.pc (q_letter b) ?_
  refine AK.gd (fun h2=>?_) (fun h2=>?_)
  ·have h2':letter b=true:=h2
   refine AK.yes ?_
   rw [h2'] at hTi
   exact IH (i+1) ⟨by simp at hlt;omega,by rw [hTi];simp;omega⟩ (by simp at hlt;omega) _ _ ⟨vint ((wrap_small (by omega) (by omega)).trans (by omega)),rfl,trivial⟩ rfl rfl rfl
  ·have h2':letter b=false:=h2
   refine AK.by i (by omega) hb ?_
   refine AK.pc (q_digit b) ?_
   refine AK.ifj 0 4 (fun h3=>?_) (fun h3=>?_)
   ·have h3':digit b=true:=h3
    rw [h3'] at hTi
    refine AK.ev 100 rfl ?_
    exact IH (i+1) ⟨by simp at hlt;omega,by rw [hTi];simp;omega⟩ (by simp at hlt;omega) _ _ ⟨vint ((wrap_small (by omega) (by omega)).trans (by omega)),rfl,trivial⟩ rfl rfl rfl
   ·have h3':digit b=false:=h3
    rw [h2',h3'] at hTi
    have hTi':T=i:=by simpa using hTi
    rw [hTi'] at tail
    exact AK.back' 0 0 tail ⟨rfl,rfl,trivial⟩ rfl rfl rfl rfl rfl
 ·have hie:i=(c::l).length:=by have:=of_decide_eq_false h;simp;omega
  rw [hie,List.drop_length] at hTi
  have hTi':T=i:=by rw [hie,hTi];rfl
  rw [hTi'] at tail
  refine AK.ifj 0 4 (fun h3=>?_) (fun h3=>?_)
  ·cases h3
  ·exact AK.back' 0 0 tail ⟨rfl,rfl,trivial⟩ rfl rfl rfl rfl rfl
theorem q_words (s:List UInt8)(hs:s.length≤900000000):Pure X 267 [str s] (.tup [.sl (wrows (wordsS s).1) .no,.agg [vi (wordsS s).2.1,vi (wordsS s).2.2]]):=by
 refine Pure.run Tryz.func267 ?_
 refine AK.if_ (fun h=>?_) (fun h=>?_)
 ·have:s.length > 4000:=by have:=of_decide_eq_true h;rw [sz_str] at this;omega
  refine AK.as_ 2 (.sl [] .tight) ?_
  refine AK.rz Tryz.func267 ?_
  simp only [wordsS];rw [if_pos this];rfl
 have hlen:¬ s.length > 4000:=by have:=of_decide_eq_false h;rw [sz_str] at this;omega
 generalize hT:wordsS s=T
 have hT':T=wordsG (s.length+1) (skipG false s) (s.drop (skipG false s)) []:=by rw [← hT];simp only [wordsS];rw [if_neg hlen]
 refine AK.mint (d:=4) rfl rfl rfl ?_
 refine AK.while_ (ι:=Nat × List Wd) 1 1 (fun i=>i.1≤s.length∧i.2.length≤1500∧∃ f,s.length-i.1<f∧T=wordsG f (i.1+skipG false (s.drop i.1)) (s.drop (i.1+skipG false (s.drop i.1))) i.2)
  (fun i=>[(5,vi i.1),(4,.sl (wrows i.2) (.tok 0)),(0,str s),(3,.ptr 0 0 0)]) (fun i=>⟨[[[vi 0,vi 0]]],[i.2.length]⟩) (fun i=>s.length-i.1) ?_ (0,[]) ⟨Nat.zero_le _,Nat.zero_le _,s.length+1,by simp,by simpa using hT'⟩
  ⟨rfl,rfl,rfl,rfl,trivial⟩ rfl rfl rfl rfl rfl (fun _=>inferInstance) (fun _=>inferInstance)
 rintro ⟨a,out⟩ ⟨ha,hout,f,hf,hTa⟩ IH
 simp only at ha hout hf hTa IH ⊢
 refine AK.ev 100 rfl ?_
 refine AK.if_ (fun h=>?_) (fun h=>?_)
 ·have hlt:a<s.length:=by have:=of_decide_eq_true h;rw [sz_str] at this;omega
  obtain ⟨c,hc⟩:=lget_of_lt s hlt
  have hd:=drop_cons hc
  refine AK.by a (by omega) hc ?_
  have white:(c==32||c==10)=true→T=wordsG f (a+1+skipG false (s.drop (a+1))) (s.drop (a+1+skipG false (s.drop (a+1)))) out:=fun hw=>by
   have e:skipG false (s.drop a)=1+skipG false (s.drop (a+1)):=by rw [hd];simp only [skipG];rw [if_pos hw]
   rw [hTa,e,show a+(1+skipG false (s.drop (a+1)))=a+1+skipG false (s.drop (a+1)) by omega]
  refine AK.if_ (fun h1=>?_) (fun h1=>?_)
  ·have h1':(c==32)=true:=by rw [← cb];exact h1
   exact IH (a+1,out) ⟨by simp only;omega,hout,f,by simp only;omega,white (by rw [h1'];rfl)⟩ (by simp only;omega) _ _ ⟨vint ((wrap_small (by omega) (by omega)).trans (by omega)),rfl,rfl,rfl,trivial⟩ rfl rfl rfl
  have h1':(c==32)=false:=by rw [← cb];exact h1
  refine AK.if_ (fun h2=>?_) (fun h2=>?_)
  ·have h2':(c==10)=true:=by rw [← cb];exact h2
   exact IH (a+1,out) ⟨by simp only;omega,hout,f,by simp only;omega,white (by rw [h2'];simp)⟩ (by simp only;omega) _ _ ⟨vint ((wrap_small (by omega) (by omega)).trans (by omega)),rfl,rfl,rfl,trivial⟩ rfl rfl rfl
  have h2':(c==10)=false:=by rw [← cb];exact h2
  refine AK.if_ (fun h3=>?_) (fun h3=>?_)
  ·have h3':(c==35)=true:=by rw [← cb];exact h3
   have hE:skipG false (s.drop a)=skipG true (s.drop a):=by rw [hd];simp only [skipG];rw [if_neg (by simp [h1',h2']),if_pos h3',if_neg (by simp [h2'])]
   rw [hE] at hTa
   refine AK.while_ (ι:=Nat) 1 1 (fun i=>a≤i∧i≤s.length∧T=wordsG f (i+skipG true (s.drop i)) (s.drop (i+skipG true (s.drop i))) out) (fun i=>[(5,vi i),(4,.sl (wrows out) (.tok 0)),(0,str s),(3,.ptr 0 0 0)])
    (fun _=>⟨[[[vi 0,vi 0]]],[out.length]⟩) (fun i=>s.length-i) ?_ a ⟨Nat.le_refl _,ha,hTa⟩ ⟨rfl,rfl,rfl,rfl,trivial⟩ rfl rfl rfl rfl rfl (fun _=>inferInstance) (fun _=>inferInstance)
   rintro i ⟨hai,hi,hTi⟩ IH2
   refine AK.ev 100 rfl ?_
   refine AK.gd (fun h4=>?_) (fun h4=>?_)
   ·have hlt2:i<s.length:=by have:=of_decide_eq_true h4;rw [sz_str] at this;omega
    obtain ⟨b,hb⟩:=lget_of_lt s hlt2
    have hd2:=drop_cons hb
    refine AK.by i (by omega) hb ?_
    refine AK.if_ (fun h5=>?_) (fun h5=>?_)
    ·have h5':(b==10)=false:=by
      have:(!((b.toNat:Int)==10))=true:=h5
      rw [← cb];simpa using this
     have e:skipG true (s.drop i)=1+skipG true (s.drop (i+1)):=by rw [hd2];simp only [skipG];rw [if_neg (by simp [h5'])]
     exact IH2 (i+1) ⟨by omega,by omega,by rw [hTi,e,show i+(1+skipG true (s.drop (i+1)))=i+1+skipG true (s.drop (i+1)) by omega]⟩ (by omega) _ _ ⟨vint ((wrap_small (by omega) (by omega)).trans (by omega)),rfl,rfl,rfl,trivial⟩ rfl rfl rfl
    ·have h5':(b==10)=true:=by
      have:(!((b.toNat:Int)==10))=false:=h5
      rw [← cb];simpa using this
     have e:skipG true (s.drop i)=skipG false (s.drop i):=by rw [hd2];simp only [skipG];rw [if_pos h5',if_pos (by rw [h5'];simp)]
     have hne:a≠i:=by
      rintro rfl
      rw [hc] at hb;cases hb
      rw [h5'] at h2';cases h2'
     exact IH (i,out) ⟨by simp only;omega,hout,f,by simp only;omega,by rw [e] at hTi;exact hTi⟩ (by simp only;omega) _ _ ⟨rfl,rfl,rfl,rfl,trivial⟩ rfl rfl rfl
   ·have hie:i=s.length:=by have:=of_decide_eq_false h4;rw [sz_str] at this;omega
    have e:skipG true (s.drop i)=skipG false (s.drop i):=by rw [hie,List.drop_length];rfl
    refine AK.no ?_
    exact IH (i,out) ⟨by simp only;omega,hout,f,by simp only;omega,by rw [e] at hTi;exact hTi⟩ (by simp only;omega) _ _ ⟨rfl,rfl,rfl,rfl,trivial⟩ rfl rfl rfl
  have h3':(c==35)=false:=by rw [← cb];exact h3
  have h0:skipG false (s.drop a)=0:=by rw [hd];simp only [skipG];rw [if_neg (by simp [h1',h2']),if_neg (by simp [h3'])]
  rw [h0,Nat.add_zero] at hTa
  obtain ⟨g,rfl⟩:∃ g,f=g+1:=⟨f-1,by omega⟩
  obtain ⟨n,hn⟩:∃ n,endN (s.drop a)=n:=⟨_,rfl⟩
  have hbd:=endN_bd c (s.drop (a+1))
  rw [← hd,hn] at hbd
  have hdl:(s.drop a).length=s.length-a:=by simp
  rw [hdl] at hbd
  obtain ⟨t,ht⟩:∃ t,(s.drop a).take n=t:=⟨_,rfl⟩
  have htl:t.length=n:=by rw [← ht];simp;omega
  have hstep:T=if kindS t==0 then ([],2,a) else if out.length==1500 then ([],3,a) else
   wordsG g (a+n+skipG false (s.drop (a+n))) (s.drop (a+n+skipG false (s.drop (a+n)))) (out++[⟨kindS t,t,a⟩]):=by
   rw [hTa]
   conv=>lhs;unfold wordsG
   rw [hd]
   simp only
   rw [← hd,hn,ht,List.drop_drop,List.drop_drop]
   rw [show a+(n+skipG false (s.drop (a+n)))=a+n+skipG false (s.drop (a+n)) by omega]
  have hlong:Pure X 282 [str (s.drop a)] (vi n):=by
   have:=q_longest c (s.drop (a+1)) (by simp;omega)
   rw [← hd,hn] at this;exact this
  refine AK.op (Ndo.sub (l:=(a:Int)) (h:=(s.length:Int)) (r:=s.drop a) rfl rfl rfl rfl rfl rfl rfl rfl ?_ ?_ ?_ ?_) ?_
  ·omega
  ·omega
  ·omega
  ·simp
  refine AK.pc hlong ?_
  have hwr:IntKind.i64.wrap ((a:Int)+(n:Int))=(a+n:Nat):=(wrap_small (by omega) (by omega)).trans (by omega)
  refine AK.op (Ndo.sub (l:=(a:Int)) (h:=IntKind.i64.wrap ((a:Int)+(n:Int))) (r:=t) rfl rfl rfl rfl rfl rfl rfl rfl ?_ ?_ ?_ ?_) ?_
  ·omega
  ·rw [hwr];omega
  ·rw [hwr];omega
  ·rw [hwr,← ht]
   rw [show ((a+n:Nat):Int).toNat=a+n by omega,show ((a:Nat):Int).toNat=a by omega,List.drop_take,show a+n-a=n by omega]
  refine AK.pc (q_kindOf t (by omega)) ?_
  refine AK.if_ (fun h4=>?_) (fun h4=>?_)
  ·have h4':(kindS t==0)=true:=h4
   refine AK.as_ 2 (.sl [] .tight) ?_
   refine AK.rz Tryz.func267 ?_
   rw [hstep,h4'];rfl
  have h4':(kindS t==0)=false:=h4
  refine AK.if_ (fun h5=>?_) (fun h5=>?_)
  ·have h5':(out.length==1500)=true:=by
    have:(((wrows out).length:Int)==1500)=true:=h5
    rw [wrows_len] at this
    simp at this ⊢;omega
   refine AK.as_ 2 (.sl [] .tight) ?_
   refine AK.rz Tryz.func267 ?_
   rw [hstep,h4',h5'];rfl
  have h5':(out.length==1500)=false:=by
   have:(((wrows out).length:Int)==1500)=false:=h5
   rw [wrows_len] at this
   simp at this ⊢;omega
  have h5'':out.length≠1500:=by simpa using h5'
  refine AK.op (Ndo.append (res:=wrows (out++[⟨kindS t,t,a⟩])) rfl rfl rfl rfl rfl rfl rfl rfl rfl rfl rfl rfl rfl rfl (wrows_len out) (wrows_al out) rfl rfl rfl ?_ ?_ rfl) ?_
  ·rw [wrows_len];simp;omega
  ·simp [wrows,wcell]
  have hst:((⟨⟨t⟩⟩:ByteArray).size:Int)=n:=by rw [sz_str,htl]
  refine IH (a+n,out++[⟨kindS t,t,a⟩]) ⟨by simp only;omega,by simp;omega,g,by simp only;omega,by rw [hstep,h4',h5'];rfl⟩ (by simp only;omega) _ _ ⟨?_,rfl,rfl,rfl,trivial⟩ ?_ rfl rfl
  ·exact vint (by rw [hst];exact hwr)
  ·simp [St.drop,wrows_len]
 ·have hae:a=s.length:=by have:=of_decide_eq_false h;rw [sz_str] at this;omega
  refine AK.rz Tryz.func267 ?_
  obtain ⟨g,rfl⟩:∃ g,f=g+1:=⟨f-1,by omega⟩
  rw [hTa,hae,List.drop_length]
  simp only [skipG,Nat.add_zero,List.drop_length]
  rfl
def pc (r:RS)(e:Nat):List AV:=[.sl (wrows (r.ws.drop r.at_)) .no,vi e]
instance {n m:Nat}{r:RS}{e:Nat}:OKL n m (pc r e):=⟨fun x hx=>by
 simp [pc] at hx
 rcases hx with rfl | rfl
 ·exact .sl _ _ (fun q hq y hy=>(inferInstance:OKR n m (wrows _)).ok q hq y hy) (fun t ht=>by cases ht)
 ·exact .val _⟩
def pan (p:Nat):List PanicEntry:=[{ v:=.iface 294 (.agg ⟨[.int .i64 p]⟩),recovered:=false }]
theorem drop_here {r:RS}{w:Wd}(h:r.ws[r.at_]?=some w):r.ws.drop r.at_=w::r.ws.drop (r.at_+1):=drop_cons h
theorem i_next (r:RS)(e:Nat):Hands X 305 [.ptr 0 0 0] ⟨[[pc r e]],[]⟩ (.agg [vi r.kind,str r.text,vi (r.place e)]) ⟨[[pc r e]],[]⟩:=by
 cases hw:r.ws[r.at_]? with
 | none =>
   have hd:r.ws.drop r.at_=[]:=List.drop_eq_nil_of_le (by have:=List.getElem?_eq_none_iff.1 hw;omega)
   have hp:pc r e=[.sl [] .no,vi e]:=by simp [pc,hd,wrows]
   simp only [RS.kind,RS.text,RS.place,hw]
   rw [hp]
   refine Hands.run Tryz.func305 ?_
   refine AK.yes ?_
   exact AK.rb Tryz.func305 rfl rfl
 | some w =>
   have hp:pc r e=[.sl (wrows (w::r.ws.drop (r.at_+1))) .no,vi e]:=by simp only [pc,drop_here hw]
   simp only [RS.kind,RS.text,RS.place,hw]
   rw [hp]
   refine Hands.run Tryz.func305 ?_
   refine AK.no ?_ (ht:=by simp [wrows];omega)
   refine AK.ix 0 (by omega) (r:=wcell w) rfl ?_
   exact AK.rb Tryz.func305 rfl rfl
theorem i_refuse (r:RS)(e:Nat):Throws X 284 [.ptr 0 0 0] ⟨[[pc r e]],[]⟩ (pan (r.place e)) ⟨[[pc r e]],[]⟩:=by
 refine Throws.run Tryz.func284 ?_
 refine AK.hc [0] [] (i_next r e) ?_
 refine AK.op Ndo.iface ?_
 exact AK.tb Tryz.func284 Thr.go rfl
theorem i_is (r:RS)(e:Nat)(s:List UInt8):Hands X 306 [.ptr 0 0 0,str s] ⟨[[pc r e]],[]⟩ (vb (r.text==s)) ⟨[[pc r e]],[]⟩:=by
 refine Hands.run Tryz.func306 ?_
 refine AK.hc [0] [] (i_next r e) ?_
 exact AK.rb Tryz.func306 rfl rfl
theorem i_take (r:RS)(e:Nat)(h:r.at_<r.ws.length):Hands X 307 [.ptr 0 0 0] ⟨[[pc r e]],[]⟩ (.agg [vi r.kind,str r.text,vi (r.place e)]) ⟨[[pc r.step e]],[]⟩:=by
 obtain ⟨w,hw⟩:=lget_of_lt r.ws h
 refine Hands.run Tryz.func307 ?_
 refine AK.hc [0] [] (i_next r e) ?_
 refine AK.op (Ndo.cut (l:=1) (h:=((wrows (r.ws.drop r.at_)).length:Int)) (r:=wrows (r.ws.drop (r.at_+1))) rfl rfl rfl rfl rfl rfl rfl rfl rfl ?_ ?_ ?_ ?_ ?_) ?_
 ·omega
 ·rw [wrows_len];simp;omega
 ·omega
 ·exact wrows_al _
 ·rw [Int.toNat_natCast,List.take_length,drop_here hw];rfl
 exact AK.rb Tryz.func307 rfl rfl
theorem takes_ok {r:RS}(h:r.bad=false)(s:List UInt8):r.takes s=(r.text==s):=by simp [RS.takes,h]
theorem i_skip (r:RS)(e:Nat)(s:List UInt8)(hb:r.bad=false)(hs:s≠[]):Hands X 285 [.ptr 0 0 0,str s] ⟨[[pc r e]],[]⟩ (vb (r.takes s)) ⟨[[pc (r.take s) e]],[]⟩:=by
 refine Hands.run Tryz.func285 ?_
 refine AK.hc [0] [] (i_is r e s) ?_
 refine AK.if_ (fun h=>?_) (fun h=>?_)
 ·have h':r.takes s=false:=by rw [takes_ok hb];have:(!(r.text==s))=true:=h;simpa using this
  have ht:r.take s=r:=by simp [RS.take,h']
  rw [h',ht]
  exact AK.rb Tryz.func285 rfl rfl
 ·have h':r.takes s=true:=by rw [takes_ok hb];have:(!(r.text==s))=false:=h;simpa using this
  have ht:r.take s=r.step:=by simp [RS.take,h']
  rw [h',ht]
  refine AK.hc [0] [] (i_take r e (takes_lt h' hs).1) ?_
  exact AK.rb Tryz.func285 rfl rfl
def RS.needs (r:RS)(l:List (List UInt8)):RS:=l.foldl RS.need r
theorem place_need {r:RS}{s:List UInt8}(h:r.takes s=false)(e:Nat):(r.need s).place e=r.place e:=by simp [RS.need,h,RS.spoil,RS.place]
theorem pc_need {r:RS}{s:List UInt8}(h:r.takes s=false)(e:Nat):pc (r.need s) e=pc r e:=by simp [RS.need,h,RS.spoil,pc]
theorem need_bad {r:RS}(h:r.bad=true)(s:List UInt8):r.need s=r:=by
 obtain ⟨ws,a,b⟩:=r
 simp only at h;subst h
 simp [RS.need,RS.takes,RS.spoil]
theorem needs_bad {r:RS}(h:r.bad=true):∀ l:List (List UInt8),r.needs l=r:=by
 intro l
 induction l with
 | nil=>rfl
 | cons s l ih=>show (r.need s).needs l=r;rw [need_bad h s,ih]
theorem want_loop (r0:RS)(e:Nat)(l:List (List UInt8))(hl:l.length≤1000)(hne:∀ s,s∈l→s≠[])(hb0:r0.bad=false)(R:AE→St→Prop)
 (h1:(r0.needs l).bad=false→R (.ret (.tup [])) ⟨[[pc (r0.needs l) e]],[]⟩)(hp:(r0.needs l).bad=true→R (.panic (pan ((r0.needs l).place e))) ⟨[[pc (r0.needs l) e]],[]⟩) :
 AK X ⟨287,Tryz.f287,1,0⟩ (locG false 0 Tryz.f287) [(0,.ptr 0 0 0),(1,.sl (strR l) .no)] ⟨[[pc r0 e]],[]⟩ R:=by
 refine AK.at_ ?_
 refine AK.ev 100 rfl ?_
 refine AK.while_ (ι:=Nat × RS) 1 0 (fun i=>i.1≤l.length∧i.2.bad=false∧r0.needs l=i.2.needs (l.drop i.1)) (fun i=>[(8,vi i.1),(7,vi l.length),(6,.sl (strR l) .no),(0,.ptr 0 0 0)]) (fun i=>⟨[[pc i.2 e]],[]⟩) (fun i=>l.length-i.1) ?_ (0,r0)
  ⟨Nat.zero_le _,hb0,rfl⟩ ⟨rfl,by rw [← strR_len];rfl,rfl,rfl,trivial⟩ rfl rfl rfl rfl rfl (fun _=>inferInstance) (fun _=>inferInstance)
 rintro ⟨i,r⟩ ⟨hi,hb,hN⟩ IH
 simp only at hi hb hN IH ⊢
 refine AK.ev 100 rfl ?_
 refine AK.if_ (fun h=>?_) (fun h=>?_)
 ·have hlt:i<l.length:=by have:=of_decide_eq_true h;omega
  obtain ⟨s,hsg⟩:=lget_of_lt l hlt
  have hs:=hne s (List.mem_of_getElem? hsg)
  rw [drop_cons hsg] at hN
  have hN':r0.needs l=(r.need s).needs (l.drop (i+1)):=hN
  refine AK.ix i (by omega) (strR_get hsg) ?_
  refine AK.hc [0] [] (i_skip r e s hb hs) ?_
  refine AK.if_ (fun h3=>?_) (fun h3=>?_)
  ·have h2':r.takes s=false:=by have:(!r.takes s)=true:=h3;simpa using this
   have ht:r.take s=r:=by simp [RS.take,h2']
   have hbad:(r.need s).bad=true:=by simp [RS.need,h2',RS.spoil]
   rw [needs_bad hbad] at hN'
   rw [ht]
   rw [hN'] at hp
   refine AK.thr (B:=⟨287,Tryz.f287,1,0⟩) Tryz.func287 (Thr.hd [0] [] (i_refuse r e)) 0 (Nat.le_refl _) (fun rows hr=>?_) ?_
   ·have e:rows=[pc r e]:=by simpa [upd] using hr
    subst e
    exact (inferInstance:OKR 1 0 [pc r _]).ok
   ·have:=hp hbad
    rw [place_need h2',pc_need h2'] at this
    exact this
  ·have h2':r.takes s=true:=by have:(!r.takes s)=false:=h3;simpa using this
   have ht:r.take s=r.need s:=by simp [RS.take,RS.need,h2']
   have hb':(r.need s).bad=false:=by simp [RS.need,h2',RS.step,hb]
   rw [ht]
   exact IH (i+1,r.need s) ⟨hlt,hb',hN'⟩ (by simp only;omega) _ _ ⟨vint ((wrap_small (by omega) (by omega)).trans (by omega)),rfl,rfl,rfl,trivial⟩ rfl rfl rfl
 ·have hie:i=l.length:=by have:=of_decide_eq_false h;omega
  rw [hie,List.drop_length] at hN
  have hN':r0.needs l=r:=hN
  rw [hN'] at h1
  refine AK.endZ (B:=⟨287,Tryz.f287,1,0⟩) Tryz.func287 rfl 0 (Nat.le_refl _) (.same _ (.tup [] (fun x hx=>by cases hx))) (fun rows hr=>?_) ?_
  ·have e:rows=[pc r e]:=by simpa [upd] using hr
   subst e
   exact (inferInstance:OKR 1 0 [pc r _]).ok
  ·exact h1 hb
theorem i_want (r:RS)(e:Nat)(l:List (List UInt8))(hl:l.length≤1000)(hne:∀ s,s∈l→s≠[])(hb:r.bad=false)(h:(r.needs l).bad=false) :
 Hands X 287 [.ptr 0 0 0,.sl (strR l) .no] ⟨[[pc r e]],[]⟩ (.tup []) ⟨[[pc (r.needs l) e]],[]⟩:=by
 refine Hands.mk Tryz.func287 rfl rfl (by kernel_rfl) rfl rfl ?_
 refine AK.evj 0 100 rfl ?_
 exact want_loop r e l hl hne hb _ (fun _=>⟨rfl,rfl⟩) (fun hc=>by rw [h] at hc;cases hc)
theorem i_wantT (r:RS)(e:Nat)(l:List (List UInt8))(hl:l.length≤1000)(hne:∀ s,s∈l→s≠[])(hb:r.bad=false)(h:(r.needs l).bad=true) :
 Throws X 287 [.ptr 0 0 0,.sl (strR l) .no] ⟨[[pc r e]],[]⟩ (pan ((r.needs l).place e)) ⟨[[pc (r.needs l) e]],[]⟩:=by
 refine ⟨⟨_,Tryz.func287,by kernel_rfl,rfl⟩,ACalls.of' (n:=1) (m:=0) Tryz.func287 rfl rfl rfl rfl ?_⟩
 refine AK.evj 0 100 rfl ?_
 exact want_loop r e l hl hne hb _ (fun hc=>by rw [h] at hc;cases hc) (fun _=>⟨rfl,rfl⟩)
theorem i_want1 (r:RS)(e:Nat)(s:List UInt8)(hs:s≠[])(hb:r.bad=false)(h:(r.need s).bad=false) :
 Hands X 287 [.ptr 0 0 0,.sl [[str s]] .no] ⟨[[pc r e]],[]⟩ (.tup []) ⟨[[pc (r.need s) e]],[]⟩:=i_want r e [s] (by simp) (by simpa using hs) hb h
theorem i_want1T (r:RS)(e:Nat)(s:List UInt8)(hs:s≠[])(hb:r.bad=false)(h:(r.need s).bad=true) :
 Throws X 287 [.ptr 0 0 0,.sl [[str s]] .no] ⟨[[pc r e]],[]⟩ (pan ((r.need s).place e)) ⟨[[pc (r.need s) e]],[]⟩:=i_wantT r e [s] (by simp) (by simpa using hs) hb h
theorem named_iff {r:RS}(hb:r.bad=false):r.named=(r.kind==1):=by simp [RS.named,hb]
theorem i_name (r:RS)(e:Nat)(hb:r.bad=false)(h:r.nameR.bad=false):Hands X 286 [.ptr 0 0 0] ⟨[[pc r e]],[]⟩ (str r.name) ⟨[[pc r.nameR e]],[]⟩:=by
 have hn:r.named=true:=by
  cases hn:r.named with
  | true=>rfl
  | false=>simp [RS.nameR,hn,RS.spoil] at h
 have hk:(r.kind==1)=true:=by rw [← named_iff hb];exact hn
 have hlt:r.at_<r.ws.length:=kind_lt (by have:r.kind=1:=by simpa using hk
                                         omega)
 have e1:r.name=r.text:=by simp [RS.name,hn]
 have e2:r.nameR=r.step:=by simp [RS.nameR,hn]
 rw [e1,e2]
 refine Hands.run Tryz.func286 ?_
 refine AK.hc [0] [] (i_next r e) ?_
 refine AK.no ?_ (ht:=by simpa using hk)
 refine AK.hc [0] [] (i_take r e hlt) ?_
 exact AK.rb Tryz.func286 rfl rfl
theorem i_nameT (r:RS)(e:Nat)(hb:r.bad=false)(h:r.nameR.bad=true):Throws X 286 [.ptr 0 0 0] ⟨[[pc r e]],[]⟩ (pan (r.nameR.place e)) ⟨[[pc r.nameR e]],[]⟩:=by
 have hn:r.named=false:=by
  cases hn:r.named with
  | false=>rfl
  | true=>simp [RS.nameR,hn,RS.step,hb] at h
 have hk:(r.kind==1)=false:=by rw [← named_iff hb];exact hn
 have e1:r.nameR.place e=r.place e:=by simp [RS.nameR,hn,RS.spoil,RS.place]
 have e2:pc r.nameR e=pc r e:=by simp [RS.nameR,hn,RS.spoil,pc]
 rw [e1,e2]
 refine Throws.run Tryz.func286 ?_
 refine AK.hc [0] [] (i_next r e) ?_
 refine AK.yes ?_ (ht:=by simpa using hk)
 exact AK.tb Tryz.func286 (Thr.hd [0] [] (i_refuse r e)) rfl
theorem i_num (r:RS)(e:Nat)(hw:r.wk)(hk:r.kind=2):Hands X 288 [.ptr 0 0 0] ⟨[[pc r e]],[]⟩ (vi (numberS r.text)) ⟨[[pc r.step e]],[]⟩:=by
 have hlt:r.at_<r.ws.length:=kind_lt (by omega)
 have hkt:=word_here hw (by omega)
 obtain ⟨n,hn,hs,hv⟩:=(numberS_iff r.text).1 (kindS_num (by rw [← hkt];exact hk))
 have hr:=readS_num hn hs
 have hlen:r.text.length≤1000000000:=by rw [hs];have:=dec_le7 n hn;omega
 have hN:=q_readNum r.text hlen
 rw [hr.2,← hv] at hN
 refine Hands.run Tryz.func288 ?_
 refine AK.hc [0] [] (i_next r e) ?_
 refine AK.no ?_ (ht:=by simp [hk])
 refine AK.hc [0] [] (i_take r e hlt) ?_
 refine AK.pc hN ?_
 exact AK.rb Tryz.func288 rfl rfl
theorem i_numT (r:RS)(e:Nat)(hk:r.kind≠2):Throws X 288 [.ptr 0 0 0] ⟨[[pc r e]],[]⟩ (pan (r.place e)) ⟨[[pc r e]],[]⟩:=by
 refine Throws.run Tryz.func288 ?_
 refine AK.hc [0] [] (i_next r e) ?_
 refine AK.yes ?_ (ht:=by simpa using hk)
 exact AK.tb Tryz.func288 (Thr.hd [0] [] (i_refuse r e)) rfl
theorem i_ended (r:RS)(e:Nat)(n:Nd)(hb:r.bad=false)(h:(r.need [59]).bad=false):Hands X 308 [.ptr 0 0 0,nd n] ⟨[[pc r e]],[]⟩ (nd n) ⟨[[pc (r.need [59]) e]],[]⟩:=by
 refine Hands.run Tryz.func308 ?_
 refine AK.hc [0] [] (i_want1 r e [59] (by simp) hb h) ?_
 exact AK.rb Tryz.func308 rfl rfl
theorem i_endedT (r:RS)(e:Nat)(n:Nd)(hb:r.bad=false)(h:(r.need [59]).bad=true):Throws X 308 [.ptr 0 0 0,nd n] ⟨[[pc r e]],[]⟩ (pan ((r.need [59]).place e)) ⟨[[pc (r.need [59]) e]],[]⟩:=by
 refine Throws.run Tryz.func308 ?_
 exact AK.tb Tryz.func308 (Thr.hd [0] [] (i_want1T r e [59] (by simp) hb h)) rfl
def Rp (T:Nd × RS)(e:Nat):AE→St→Prop:=fun ae S=>ae=(if T.2.bad then .panic (pan (T.2.place e)) else .ret (nd T.1))∧S=⟨[[pc T.2 e]],[]⟩
theorem Rp_ok {n:Nd}{q:RS}{e:Nat}(h:q.bad=false):Rp (n,q) e=fun ae S=>ae=.ret (nd n)∧S=⟨[[pc q e]],[]⟩:=by funext ae S;simp [Rp,h]
theorem Rp_bad {n:Nd}{q:RS}{e:Nat}(h:q.bad=true):Rp (n,q) e=fun ae S=>ae=.panic (pan (q.place e))∧S=⟨[[pc q e]],[]⟩:=by funext ae S;simp [Rp,h]
structure GoesI (f:FuncId)(T:Nd × RS)(r:RS)(e:Nat):Prop where
 ok:T.2.bad=false→Hands X f [.ptr 0 0 0] ⟨[[pc r e]],[]⟩ (nd T.1) ⟨[[pc T.2 e]],[]⟩
 bad:T.2.bad=true→Throws X f [.ptr 0 0 0] ⟨[[pc r e]],[]⟩ (pan (T.2.place e)) ⟨[[pc T.2 e]],[]⟩
theorem GoesI.run {f:FuncId}{fn:Func}{c:Code}{T:Nd × RS}{r:RS}{e:Nat}{K:List Item}{F':Frm}{S2:St}(hf:X.P.funcs[f]?=some fn)(h:AK X ⟨f,fn,1,0⟩ K F' S2 (Rp T e))(hb:fn.body=some c:=by rfl)
 (hl:Nat.ble 1 fn.ntmps=true:=by rfl)(hnm:(fn.name == "runtime.NumGoroutine")=false:=by kernel_rfl)(he:Go.V.ev X fn.ntmps 200 [.code c] [(0,.ptr 0 0 0)] ⟨[[pc r e]],[]⟩=(K,F',S2):=by rfl):GoesI f T r e:=by
 obtain ⟨n,q⟩:=T
 refine ⟨fun hg=>?_,fun hg=>?_⟩
 ·rw [Rp_ok hg] at h
  exact Hands.mk hf hb hl hnm rfl rfl (AK.ev 200 he h)
 ·rw [Rp_bad hg] at h
  exact ⟨⟨fn,hf,hnm,by rw [hb];rfl⟩,ACalls.of' hf hb hl rfl rfl (AK.ev 200 he h)⟩
theorem nameR_bad {r:RS}(h:r.bad=true):r.nameR=r:=by
 obtain ⟨ws,a,b⟩:=r
 simp only at h;subst h
 simp [RS.nameR,RS.named,RS.spoil]
theorem termL_bad {f:Nat}{x:Nd}{r:RS}(h:r.bad=true):termL f x r=(x,r):=by
 cases f with
 | zero=>rfl
 | succ f=>simp only [termL];rw [if_neg (by simp [bad_takes h])]
theorem exprL_bad {f:Nat}{x:Nd}{r:RS}(h:r.bad=true):exprL f x r=(x,r):=by
 cases f with
 | zero=>rfl
 | succ f=>simp only [exprL];rw [if_neg (by simp [bad_takes h]),if_neg (by simp [bad_takes h])]
theorem bad_not {b:Bool}(h:¬ b=false):b=true:=by cases b<;>simp at h ⊢
theorem takes_step {r:RS}{s:List UInt8}(h:r.takes s=true):r.take s=r.step:=by simp [RS.take,h]
theorem takes_not {r:RS}{s:List UInt8}(h:r.takes s=false):r.take s=r:=by simp [RS.take,h]
theorem takes_ne {r:RS}{s s':List UInt8}(h:r.takes s=true)(hne:s≠s'):r.takes s'=false:=by
 simp only [RS.takes,Bool.not_eq_true',Bool.or_eq_false_iff,Bool.not_eq_false',beq_iff_eq] at h
 simp only [RS.takes,h.1,h.2,Bool.false_or]
 simpa using hne
def IOne (f:Nat):Prop:=∀ (r:RS)(e:Nat),r.ok→r.wk→r.bad=false→4*r.left+1≤f→GoesI 324 (oneM f r) r e
def ITerm (f:Nat):Prop:=∀ (r:RS)(e:Nat),r.ok→r.wk→r.bad=false→4*r.left+2≤f→GoesI 321 (termM f r) r e
def IExpr (f:Nat):Prop:=∀ (r:RS)(e:Nat),r.ok→r.wk→r.bad=false→4*r.left+3≤f→GoesI 311 (exprM f r) r e
theorem i_one (f:Nat)(i1:∀ g,g<f→IOne g)(i4:∀ g,g<f→IExpr g):IOne f:=by
 intro r e ho hw hb hf
 obtain ⟨g,rfl⟩:∃ g,f=g+1:=⟨f-1,by omega⟩
 refine GoesI.run Tryz.func324 ?_
 have hM:oneM (g+1) r=if r.takes [45] then (.mk 5 [] 0 [(oneM g r.step).1],(oneM g r.step).2)
  else if r.kind==2 then (.mk 1 [] (numberS r.text) [],r.step)
  else if r.takes [40] then ((exprM g r.step).1,(exprM g r.step).2.need [41])
  else if r.takes [108,101,110] then (.mk 4 (r.step.need [40]).name 0 [],(r.step.need [40]).nameR.need [41])
  else if r.nameR.takes [91] then (.mk 3 r.name 0 [(exprM g r.nameR.step).1],(exprM g r.nameR.step).2.need [93])
  else (.mk 2 r.name 0 [],r.nameR):=by simp only [oneM];rw [if_neg (by simp [hb])]
 rw [hM]
 refine AK.hc [0] [] (i_skip r e [45] hb (by simp)) ?_
 refine AK.if_ (fun h1=>?_) (fun h1=>?_)
 ·have h1':r.takes [45]=true:=h1
  have hl:=(takes_lt h1' (by simp)).1
  have ls:=left_step hl
  have s:=step_after hl
  rw [if_pos h1',takes_step h1']
  have ih:=i1 g (by omega) r.step e (s.ok ho) (s.wk hw) hb (by omega)
  by_cases hg:(oneM g r.step).2.bad=false
  ·rw [Rp_ok hg]
   refine AK.hc [0] [] (ih.ok hg) ?_
   rw [nd_eq]
   exact AK.rb Tryz.func324 rfl rfl
  ·have hg:=bad_not hg
   rw [Rp_bad hg]
   exact AK.tb Tryz.func324 (Thr.hd [0] [] (ih.bad hg)) rfl
 have h1':r.takes [45]=false:=h1
 rw [if_neg (by simp [h1']),takes_not h1']
 refine AK.hc [0] [] (i_next r e) ?_
 refine AK.if_ (fun h2=>?_) (fun h2=>?_)
 ·have h2':(r.kind==2)=true:=h2
  rw [if_pos h2',Rp_ok (show r.step.bad=false from hb)]
  refine AK.hc [0] [] (i_num r e hw (by simpa using h2')) ?_
  exact AK.rb Tryz.func324 rfl rfl
 have h2':(r.kind==2)=false:=h2
 rw [if_neg (by simp [h2'])]
 refine AK.hc [0] [] (i_skip r e [108,101,110] hb (by simp)) ?_
 refine AK.if_ (fun h3=>?_) (fun h3=>?_)
 ·have h3':r.takes [108,101,110]=true:=h3
  have hn:=takes_ne (s':=[40]) h3' (by simp)
  have hl:=(takes_lt h3' (by simp)).1
  have s:=step_after hl
  rw [if_neg (by simp [hn]),if_pos h3',takes_step h3']
  have hb1:r.step.bad=false:=hb
  by_cases g1:(r.step.need [40]).bad=false
  ·refine AK.hc [0] [] (i_want1 r.step e [40] (by simp) hb1 g1) ?_
   by_cases g2:(r.step.need [40]).nameR.bad=false
   ·refine AK.hc [0] [] (i_name (r.step.need [40]) e g1 g2) ?_
    by_cases g3:((r.step.need [40]).nameR.need [41]).bad=false
    ·rw [Rp_ok g3]
     refine AK.hc [0] [] (i_want1 (r.step.need [40]).nameR e [41] (by simp) g2 g3) ?_
     exact AK.rb Tryz.func324 rfl rfl
    ·have g3:=bad_not g3
     rw [Rp_bad g3]
     exact AK.tb Tryz.func324 (Thr.hd [0] [] (i_want1T (r.step.need [40]).nameR e [41] (by simp) g2 g3)) rfl
   ·have g2:=bad_not g2
    rw [need_bad g2,Rp_bad g2]
    exact AK.tb Tryz.func324 (Thr.hd [0] [] (i_nameT (r.step.need [40]) e g1 g2)) rfl
  ·have g1:=bad_not g1
   rw [nameR_bad g1,need_bad g1,Rp_bad g1]
   exact AK.tb Tryz.func324 (Thr.hd [0] [] (i_want1T r.step e [40] (by simp) hb1 g1)) rfl
 have h3':r.takes [108,101,110]=false:=h3
 rw [takes_not h3']
 refine AK.hc [0] [] (i_skip r e [40] hb (by simp)) ?_
 refine AK.if_ (fun h4=>?_) (fun h4=>?_)
 ·have h4':r.takes [40]=true:=h4
  have hl:=(takes_lt h4' (by simp)).1
  have ls:=left_step hl
  have s:=step_after hl
  rw [if_pos h4',takes_step h4']
  have ih:=i4 g (by omega) r.step e (s.ok ho) (s.wk hw) hb (by omega)
  by_cases g1:(exprM g r.step).2.bad=false
  ·refine AK.hc [0] [] (ih.ok g1) ?_
   by_cases g2:((exprM g r.step).2.need [41]).bad=false
   ·rw [Rp_ok g2]
    refine AK.hc [0] [] (i_want1 (exprM g r.step).2 e [41] (by simp) g1 g2) ?_
    exact AK.rb Tryz.func324 rfl rfl
   ·have g2:=bad_not g2
    rw [Rp_bad g2]
    exact AK.tb Tryz.func324 (Thr.hd [0] [] (i_want1T (exprM g r.step).2 e [41] (by simp) g1 g2)) rfl
  ·have g1:=bad_not g1
   rw [need_bad g1,Rp_bad g1]
   exact AK.tb Tryz.func324 (Thr.hd [0] [] (ih.bad g1)) rfl
 have h4':r.takes [40]=false:=h4
 rw [if_neg (by simp [h4']),if_neg (by simp [h3']),takes_not h4']
 by_cases g1:r.nameR.bad=false
 ·have an:=nameR_after ho
  refine AK.hc [0] [] (i_name r e hb g1) ?_
  refine AK.hc [0] [] (i_skip r.nameR e [91] g1 (by simp)) ?_
  refine AK.if_ (fun h5=>?_) (fun h5=>?_)
  ·have h5':r.nameR.takes [91]=false:=by have:(!r.nameR.takes [91])=true:=h5;simpa using this
   rw [if_neg (by simp [h5']),takes_not h5',Rp_ok g1]
   exact AK.rb Tryz.func324 rfl rfl
  ·have h5':r.nameR.takes [91]=true:=by have:(!r.nameR.takes [91])=false:=h5;simpa using this
   have hl:=(takes_lt h5' (by simp)).1
   have ls:=left_step hl
   have la:=left_after an
   have s:=an.trans (step_after hl)
   rw [if_pos h5',takes_step h5']
   have ih:=i4 g (by omega) r.nameR.step e (s.ok ho) (s.wk hw) g1 (by omega)
   by_cases g2:(exprM g r.nameR.step).2.bad=false
   ·refine AK.hc [0] [] (ih.ok g2) ?_
    by_cases g3:((exprM g r.nameR.step).2.need [93]).bad=false
    ·rw [Rp_ok g3]
     refine AK.hc [0] [] (i_want1 (exprM g r.nameR.step).2 e [93] (by simp) g2 g3) ?_
     rw [nd_eq]
     exact AK.rb Tryz.func324 rfl rfl
    ·have g3:=bad_not g3
     rw [Rp_bad g3]
     exact AK.tb Tryz.func324 (Thr.hd [0] [] (i_want1T (exprM g r.nameR.step).2 e [93] (by simp) g2 g3)) rfl
   ·have g2:=bad_not g2
    rw [need_bad g2,Rp_bad g2]
    exact AK.tb Tryz.func324 (Thr.hd [0] [] (ih.bad g2)) rfl
 ·have g1:=bad_not g1
  rw [if_neg (by simp [bad_takes g1]),Rp_bad g1]
  exact AK.tb Tryz.func324 (Thr.hd [0] [] (i_nameT r e hb g1)) rfl
theorem Drv.mw {X:Cx}{S:St}{F F':Frm}{N:Nat}{ops:Array Oper}{i:Nat}{o:Oper}{os:List Oper}{x y:AV}{bs:List Nat}{em:Nat}{Hs:List St}{pend:List Pend}{KK:Frm→St→Prop}
 (k:Drv X N ops bs em os (i+1) F' S Hs pend KK)(ho:ops[i]?=some o:=by rfl)(hw:wantA ops F o=some true:=by rfl)(h:∀ bx tk,evalM X F ⟨bx,tk⟩ o.op=some (x,⟨bx,tk⟩):=by intro _ _;rfl) [hr:RinC [] [] x y]
 (hF:putO N o.dst y F=some F':=by rfl):Drv X N ops bs em (o::os) i F S Hs pend KK:=by
 obtain ⟨h1,rfl⟩:=putO_eq hF
 exact Drv.free (fun ⟨bx,tk⟩=>Ndo.wk (Ndo.mem ho hw (h bx tk))) h1 k
theorem i_term (f:Nat)(i1:∀ g,g<f→IOne g):ITerm f:=by
 intro r e ho hw hb hf
 obtain ⟨g,rfl⟩:∃ g,f=g+1:=⟨f-1,by omega⟩
 refine GoesI.run Tryz.func321 ?_
 have hM:termM (g+1) r=termL g (oneM g r).1 (oneM g r).2:=by simp only [termM]
 rw [hM]
 have ih:=i1 g (by omega) r e ho hw hb (by omega)
 have af:=(exprs_after g).1 r ho
 have lf:=left_after af
 generalize oneM g r=q at ih af lf ⊢
 obtain ⟨x,q⟩:=q
 simp only at ih af lf ⊢
 by_cases g1:q.bad=false
 ·refine AK.hc [0] [] (ih.ok g1) ?_
  generalize hT:termL g x q=T
  refine AK.while_ (ι:=Nat × Nd × RS) 3 0 (fun i=>i.2.2.ok∧i.2.2.wk∧i.2.2.bad=false∧4*i.2.2.left+1≤i.1∧i.1≤g∧T=termL i.1 i.2.1 i.2.2) (fun _=>[(0,.ptr 0 0 0),(2,.ptr 1 0 0),(3,.ptr 2 0 0)])
   (fun i=>⟨[[pc i.2.2 e],[zN],[ncells i.2.1]],[]⟩) (fun i=>i.1) ?_ (g,x,q) ⟨af.ok ho,af.wk hw,g1,by simp only;omega,Nat.le_refl _,hT.symm⟩ ⟨rfl,rfl,rfl,trivial⟩ rfl rfl rfl rfl rfl (fun _=>inferInstance) (fun _=>inferInstance)
  rintro ⟨n,y,q⟩ ⟨hqo,hqw,hqb,hfu,hng,hTn⟩ IH
  simp only at hqo hqw hqb hfu hng hTn IH ⊢
  obtain ⟨m,rfl⟩:∃ m,n=m+1:=⟨n-1,by omega⟩
  have hL:T=if q.takes [42] then termL m (.mk 8 [] 0 [y,(oneM m q.step).1]) (oneM m q.step).2 else (y,q):=by rw [hTn];simp only [termL]
  refine AK.ev 100 rfl ?_
  refine AK.hc [0] [] (i_skip q e [42] hqb (by simp)) ?_
  refine AK.if_ (fun h=>?_) (fun h=>?_)
  ·have h':q.takes [42]=true:=h
   have hl:=(takes_lt h' (by simp)).1
   have ls:=left_step hl
   have s:=step_after hl
   rw [if_pos h'] at hL
   rw [takes_step h']
   have ih2:=i1 m (by omega) q.step e (s.ok hqo) (s.wk hqw) hqb (by omega)
   have af2:=(exprs_after m).1 q.step (s.ok hqo)
   have lf2:=left_after af2
   by_cases g2:(oneM m q.step).2.bad=false
   ·refine AK.dn 36 2 ?_
    refine Drv.wl (Ndo.hd [0] [] (ih2.ok g2)) ?_ ?_
    ·exact strip_eq (Ndo.ev rfl rfl rfl) allN
    refine Drv.mw ?_
    refine Drv.e ?_
    refine Drv.w (Ndo.store rfl rfl rfl rfl rfl rfl rfl) ?_
    refine Drv.z ?_
    refine IH (m,.mk 8 [] 0 [y,(oneM m q.step).1],(oneM m q.step).2) ⟨(s.trans af2).ok hqo,(s.trans af2).wk hqw,g2,by simp only;omega,by simp only;omega,hL⟩ (by simp only;omega) _ _ ⟨rfl,rfl,rfl,trivial⟩ ?_ rfl rfl
    simp [St.drop,upd,ncells,nrows_map]
   ·have g2:=bad_not g2
    rw [termL_bad g2] at hL
    rw [hL,Rp_bad g2]
    refine AK.dnT (S1:=?S1) 2 36 2 Tryz.func321 ?hk ?hS
    case hk =>
     refine Drv.tz ?_
     exact Thr.hd [0] [] (ih2.bad g2)
    case hS=>rfl
  ·have h':q.takes [42]=false:=h
   rw [if_neg (by simp [h'])] at hL
   rw [takes_not h',hL,Rp_ok hqb]
   exact AK.rb Tryz.func321 rfl rfl
 ·have g1:=bad_not g1
  rw [termL_bad g1,Rp_bad g1]
  exact AK.tb Tryz.func321 (Thr.hd [0] [] (ih.bad g1)) rfl
theorem i_expr (f:Nat)(i2:∀ g,g<f→ITerm g):IExpr f:=by
 intro r e ho hw hb hf
 obtain ⟨g,rfl⟩:∃ g,f=g+1:=⟨f-1,by omega⟩
 refine GoesI.run Tryz.func311 ?_
 have hM:exprM (g+1) r=exprL g (termM g r).1 (termM g r).2:=by simp only [exprM]
 rw [hM]
 have ih:=i2 g (by omega) r e ho hw hb (by omega)
 have af:=(exprs_after g).2.1 r ho
 have lf:=left_after af
 generalize termM g r=q at ih af lf ⊢
 obtain ⟨x,q⟩:=q
 simp only at ih af lf ⊢
 by_cases g1:q.bad=false
 ·refine AK.hc [0] [] (ih.ok g1) ?_
  generalize hT:exprL g x q=T
  refine AK.while_ (ι:=Nat × Nd × RS) 3 0 (fun i=>i.2.2.ok∧i.2.2.wk∧i.2.2.bad=false∧4*i.2.2.left+2≤i.1∧i.1≤g∧T=exprL i.1 i.2.1 i.2.2) (fun _=>[(0,.ptr 0 0 0),(2,.ptr 1 0 0),(3,.ptr 2 0 0)])
   (fun i=>⟨[[pc i.2.2 e],[zN],[ncells i.2.1]],[]⟩) (fun i=>i.1) ?_ (g,x,q) ⟨af.ok ho,af.wk hw,g1,by simp only;omega,Nat.le_refl _,hT.symm⟩ ⟨rfl,rfl,rfl,trivial⟩ rfl rfl rfl rfl rfl (fun _=>inferInstance) (fun _=>inferInstance)
  rintro ⟨n,y,q⟩ ⟨hqo,hqw,hqb,hfu,hng,hTn⟩ IH
  simp only at hqo hqw hqb hfu hng hTn IH ⊢
  obtain ⟨m,rfl⟩:∃ m,n=m+1:=⟨n-1,by omega⟩
  have hL:T=if q.takes [43] then exprL m (.mk 6 [] 0 [y,(termM m q.step).1]) (termM m q.step).2
   else if q.takes [45] then exprL m (.mk 7 [] 0 [y,(termM m q.step).1]) (termM m q.step).2 else (y,q):=by rw [hTn];simp only [exprL]
  refine AK.ev 100 rfl ?_
  refine AK.hc [0] [] (i_is q e [45]) ?_
  refine AK.if_ (fun h=>?_) (fun h=>?_)
  ·have h':q.takes [45]=true:=by rw [takes_ok hqb];exact h
   rw [if_neg (by simp [takes_ne (s':=[43]) h' (by simp)]),if_pos h'] at hL
   have hl:=(takes_lt h' (by simp)).1
   have ls:=left_step hl
   have s:=step_after hl
   have ih2:=i2 m (by omega) q.step e (s.ok hqo) (s.wk hqw) hqb (by omega)
   have af2:=(exprs_after m).2.1 q.step (s.ok hqo)
   have lf2:=left_after af2
   refine AK.hc [0] [] (i_take q e hl) ?_
   by_cases g2:(termM m q.step).2.bad=false
   ·refine AK.dn 72 3 ?_
    refine Drv.wl (Ndo.hd [0] [] (ih2.ok g2)) ?_ ?_
    ·exact strip_eq (Ndo.ev rfl rfl rfl) allN
    refine Drv.mw ?_
    refine Drv.e ?_
    refine Drv.w (Ndo.store rfl rfl rfl rfl rfl rfl rfl) ?_
    refine Drv.z ?_
    refine IH (m,.mk 7 [] 0 [y,(termM m q.step).1],(termM m q.step).2) ⟨(s.trans af2).ok hqo,(s.trans af2).wk hqw,g2,by simp only;omega,by simp only;omega,hL⟩ (by simp only;omega) _ _ ⟨rfl,rfl,rfl,trivial⟩ ?_ rfl rfl
    simp [St.drop,upd,ncells,nrows_map]
   ·have g2:=bad_not g2
    rw [exprL_bad g2] at hL
    rw [hL,Rp_bad g2]
    refine AK.dnT (S1:=?S1) 3 72 3 Tryz.func311 ?hk ?hS
    case hk =>
     refine Drv.tz ?_
     exact Thr.hd [0] [] (ih2.bad g2)
    case hS=>rfl
  ·have h0:q.takes [45]=false:=by rw [takes_ok hqb];exact h
   refine AK.hc [0] [] (i_is q e [43]) ?_
   refine AK.if_ (fun h2=>?_) (fun h2=>?_)
   ·have h':q.takes [43]=false:=by rw [takes_ok hqb];have:(!(q.text==[43]))=true:=h2;simpa using this
    rw [if_neg (by simp [h']),if_neg (by simp [h0])] at hL
    rw [hL,Rp_ok hqb]
    exact AK.rb Tryz.func311 rfl rfl
   ·have h':q.takes [43]=true:=by rw [takes_ok hqb];have:(!(q.text==[43]))=false:=h2;simpa using this
    rw [if_pos h'] at hL
    have hl:=(takes_lt h' (by simp)).1
    have ls:=left_step hl
    have s:=step_after hl
    have ih2:=i2 m (by omega) q.step e (s.ok hqo) (s.wk hqw) hqb (by omega)
    have af2:=(exprs_after m).2.1 q.step (s.ok hqo)
    have lf2:=left_after af2
    refine AK.hc [0] [] (i_take q e hl) ?_
    by_cases g2:(termM m q.step).2.bad=false
    ·refine AK.dn 72 3 ?_
     refine Drv.wl (Ndo.hd [0] [] (ih2.ok g2)) ?_ ?_
     ·exact strip_eq (Ndo.ev rfl rfl rfl) allN
     refine Drv.mw ?_
     refine Drv.e ?_
     refine Drv.w (Ndo.store rfl rfl rfl rfl rfl rfl rfl) ?_
     refine Drv.z ?_
     refine IH (m,.mk 6 [] 0 [y,(termM m q.step).1],(termM m q.step).2) ⟨(s.trans af2).ok hqo,(s.trans af2).wk hqw,g2,by simp only;omega,by simp only;omega,hL⟩ (by simp only;omega) _ _ ⟨rfl,rfl,rfl,trivial⟩ ?_ rfl rfl
     simp [St.drop,upd,ncells,nrows_map]
    ·have g2:=bad_not g2
     rw [exprL_bad g2] at hL
     rw [hL,Rp_bad g2]
     refine AK.dnT (S1:=?S1) 3 72 3 Tryz.func311 ?hk ?hS
     case hk =>
      refine Drv.tz ?_
      exact Thr.hd [0] [] (ih2.bad g2)
     case hS=>rfl
 ·have g1:=bad_not g1
  rw [exprL_bad g1,Rp_bad g1]
  exact AK.tb Tryz.func311 (Thr.hd [0] [] (ih.bad g1)) rfl
theorem i_exprs:∀ f:Nat,IOne f∧ITerm f∧IExpr f:=by
 intro f
 induction f using Nat.strongRecOn with
 | ind f ih=>exact ⟨i_one f (fun g hg=>(ih g hg).1) (fun g hg=>(ih g hg).2.2),i_term f (fun g hg=>(ih g hg).1),i_expr f (fun g hg=>(ih g hg).2.1)⟩
theorem i_exprR (r:RS)(e:Nat)(ho:r.ok)(hw:r.wk)(hb:r.bad=false):GoesI 311 (exprR r) r e :=
 (i_exprs 6010).2.2 r e ho hw hb (by have:=ho.1;simp only [RS.left];omega)
abbrev relsW:List (List UInt8):=[[60],[60,61],[62],[62,61],[61,61],[33,61]]
theorem relS_idx (s:List UInt8):idxS 0 relsW s=if relS s=0 then -1 else relS s-11:=by
 simp only [idxS,relS]
 repeat' split
 all_goals simp_all
theorem Ndo.arrv {X:Cx}{S:St}{F:Frm}{N t n e:Nat}{ops:Array Oper}{i:Nat}{o:Oper}{p:Operand}{cs:List AV}{y ye:Ty}{rows:List (List AV)}(hrows:cs.map (fun x=>[x])=rows)(ho:ops[i]?=some o:=by rfl)(hw:wantA ops F o=some true:=by rfl)
 (hop:o.op=.slice t p none none none:=by rfl)(hp:opr X F p=some (.cptr cs):=by rfl)(hy:X.ty t=some y:=by rfl)(hyk:y.k=.arr n e:=by rfl)(hye:X.ty e=some ye:=by rfl)(h1:ye.size=1:=by rfl)
 (hl:cs.length=n:=by rfl)(hx:Nat.ble n 1000=true:=by rfl):Ndo X N ops i o F (.sl rows .no) S S:=by
 subst hrows
 refine Ndo.val ho hw fun F' E w a hc hI hF=>?_
 rw [hop] at hc
 have r1:=opr_sound hI hF ((hc p (by simp [Op.operands])).trans hp)
 obtain ⟨d,hdd,hd2⟩:=(X.ty_ok t y hy).agg
 simp only [hyk] at hd2
 obtain ⟨rfl,ye',hye',hne0⟩:=hd2
 rw [hye] at hye';cases hye'
 have hn:=Nat.le_of_ble_eq_true hx
 generalize hv:a.eval p=u at r1
 cases r1 with
 | cptr _ b o' vals hm hcl hr =>
   refine ⟨.slice (some ⟨b,o',none⟩) n n,?_,?_⟩
   ·simp [execOp,hop,hv,Instr.sliceAt,run_underlying hdd,sizeOf_run hye,Instr.sureAddr,asAddr,Instr.sliceBounds,addr_add]
   ·refine .sl _ .no _ n n b o' 1 (fun i' _=>vals i') (by simp [hl]) (by unfold maxN;omega) (fun _=>rfl) (fun r hr=>?_) (fun i' j' hi hj=>?_) (fun i' j' hi hj=>?_) (fun i' j' r x hi hj=>?_) trivial (Nat.le_refl _)
    ·obtain ⟨x,_,rfl⟩:=List.mem_map.1 hr;rfl
    ·have:=hm i' (by omega)
     rw [show o'+i'*1+j'=o'+i' by omega];exact this
    ·have:=hcl i' (by omega)
     rw [show o'+i'*1+j'=o'+i' by omega];exact this
    ·rw [List.getElem?_map] at hi
     cases hx':cs[i']? with
     | none=>rw [hx'] at hi;cases hi
     | some z =>
       rw [hx'] at hi
       cases hi
       cases j' with
       | zero=>simp at hj;subst hj;exact hr i' z hx'
       | succ j=>simp at hj
theorem i_cond (r:RS)(e:Nat)(ho:r.ok)(hw:r.wk)(hb:r.bad=false):GoesI 309 (condR r) r e:=by
 refine GoesI.run Tryz.func309 ?_
 have ih:=i_exprR r e ho hw hb
 have af:=exprR_after ho
 simp only [condR]
 generalize exprR r=q at ih af ⊢
 obtain ⟨x,q⟩:=q
 simp only at ih af ⊢
 by_cases g1:q.bad=false
 ·refine AK.hc [0] [] (ih.ok g1) ?_
  have hidx:=relS_idx q.text
  refine AK.dn 0 0 ?_
  refine Drv.ru (fun S'=>Ndo.arrv (cs:=condG) (rows:=strR relsW) rfl) ?_
  refine Drv.gon 1 ?_
  refine Drv.lo (Ndo.hd [0] [] (i_next q e)) ?_
  refine Drv.go ?_
  refine Drv.pc (q_index relsW q.text (by decide)) ?_
  refine Drv.go ?_
  refine Drv.z ?_
  rw [hidx]
  by_cases hz:relS q.text=0
  ·rw [if_pos hz,if_pos (by simp [hz]),Rp_bad (show q.spoil.bad=true from rfl)]
   refine AK.yes ?_
   exact AK.tb Tryz.func309 (Thr.hd [0] [] (i_refuse q e)) rfl
  ·have hrr:=relS_range hz
   rw [if_neg hz,if_neg (by simp [g1,hz])]
   have hl:=relS_text hz
   have s:=af.trans (step_after hl)
   have ih2:=i_exprR q.step e (s.ok ho) (s.wk hw) g1
   refine AK.no ?_ (ht:=decide_eq_false (by omega))
   refine AK.hc [0] [] (i_take q e hl) ?_
   have hwr:IntKind.i64.wrap (11+(relS q.text-11))=relS q.text:=(wrap_small (by omega) (by omega)).trans (by omega)
   by_cases g2:(exprR q.step).2.bad=false
   ·rw [Rp_ok g2]
    refine AK.dn 144 4 ?_
    refine Drv.wl (Ndo.hd [0] [] (ih2.ok g2)) ?_ ?_
    ·exact strip_eq (Ndo.ev rfl rfl rfl) allN
    refine Drv.m ?_
    refine Drv.e ?_
    refine Drv.w (Ndo.store rfl rfl rfl rfl rfl rfl rfl) ?_
    refine Drv.z ?_
    refine AK.rb Tryz.func309 ?_ rfl
    rw [hwr,nd_eq];rfl
   ·have g2:=bad_not g2
    rw [Rp_bad g2]
    refine AK.dnT (S1:=?S1) 4 144 4 Tryz.func309 ?hk ?hS
    case hk =>
     refine Drv.tz ?_
     exact Thr.hd [0] [] (ih2.bad g2)
    case hS=>rfl
 ·have g1:=bad_not g1
  rw [if_pos (by simp [g1]),Rp_bad (show q.spoil.bad=true from rfl)]
  have e1:q.spoil=q:=by
   obtain ⟨ws,a,b⟩:=q
   simp only at g1;subst g1;rfl
  rw [e1]
  exact AK.tb Tryz.func309 (Thr.hd [0] [] (ih.bad g1)) rfl
end Go.V
namespace Go.V
open Go
section
variable {X:Cx}{B:Bx}{E:Env}{S:St}{w:World}{F:Frm}{a:Act}{N:Nat}{ops:Array Oper}{i:Nat}{o:Oper}{p q:Operand}
theorem Ndo.mkB {t n e:Nat}{ps:Array (Nat × Operand)}{y ye:Ty}{rows:List (List AV)}{bx:List (List (List AV))}{b:Nat}(ho:ops[i]?=some o:=by rfl)(hw:wantA ops F o=some true:=by rfl)(hop:o.op=.buildSlice t n ps:=by rfl)
 (hy:X.ty t=some y:=by rfl)(hk:y.k=.slc e:=by rfl)(hye:X.ty e=some ye:=by rfl)(hble:Nat.ble (n*ye.size) 1000000=true:=by rfl)
 (hr:layR X F ye.size ps.toList (List.replicate n ye.zero)=some (.sl rows .tight):=by rfl)(hb:lenK S.boxes=b:=by rfl)(hbx:S.boxes++[rows]=bx:=by rfl):Ndo X N ops i o F (.bsl b n) S ⟨bx,S.toks⟩:=by
 subst hbx
 rw [lenK_eq] at hb
 subst hb
 intro F' E w a hl hI hF
 have hlr:layR X F' ye.size ps.toList (List.replicate n ye.zero)=some (.sl rows .tight):=by
  have hc:=looks_of hl
  rw [hop] at hc
  have:∀ (l:List (Nat × Operand)) (rs:List (List AV)),(∀ x,x∈l→∀ k,x.2=.tmp k→lk F' k=lk F k)→layR X F' ye.size l rs=layR X F ye.size l rs:=by
   intro l
   induction l with
   | nil=>intro rs _;rfl
   | cons z l ih =>
     intro rs h
     obtain ⟨j,z⟩:=z
     simp only [layR]
     rw [opr_congr (F':=F') (F:=F) fun k hk=>h (j,z) (by simp) k hk]
     cases opr X F z with
     | none=>rfl
     | some v =>
       simp only
       cases cellsOf v with
       | none=>rfl
       | some xs =>
         simp only
         cases Nat.beq xs.length ye.size with
         | false=>rfl
         | true =>
           simp only
           have:∀ (l2:List (List AV)) (j:Nat) (x:List AV) (k1 k2:List (List AV)→Option AV),(∀ r,k1 r=k2 r)→setK l2 j x k1=setK l2 j x k2:=by
            intro l2
            induction l2 with
            | nil=>intro j x k1 k2 h;cases j<;>rfl
            | cons c l2 ih2 =>
              intro j x k1 k2 h
              cases j with
              | zero=>simp only [setK];exact h _
              | succ j=>simp only [setK];exact ih2 j x _ _ fun r=>h _
           exact this _ _ _ _ _ fun r=>ih r fun x hx=>h x (by simp [hx])
  rw [this]
  ·exact hr
  ·intro x hx k hk
   exact hc k (by simp only [Op.operands];simp;exact ⟨x.1,by rw [← hk];simpa using hx⟩)
 have hle:n*ye.size≤1000000:=Nat.le_of_ble_eq_true hble
 obtain ⟨d,hd,hdd⟩:=(X.ty_ok t y hy).agg
 simp only [hk] at hdd
 obtain ⟨rfl,ye',hye',hne⟩:=hdd
 rw [hye] at hye';cases hye'
 obtain ⟨z,hz,hzc,hzl,i',hi,hiz,his,hib⟩:=zero_run hye w
 have hzs:z.cells.size=ye.size:=by rw [← hzl,← hzc];simp
 have hg0:Grid E w ye.size ((Array.range (n*ye.size)).map (z.cells[· % z.cells.size]!)) (List.replicate n ye.zero):=by
  refine grid_zero hzc hzl _ (by simp) (fun i hi=>?_)
  have hm:i % ye.size<z.cells.size:=by rw [hzs];exact Nat.mod_lt _ (Nat.pos_of_ne_zero hne)
  have hr0:(Array.range (n*ye.size))[i]?=some i:=by simp [hi]
  rw [Array.getElem?_map,hr0]
  simp only [Option.map_some]
  rw [hzs,getElem!_pos z.cells (i % ye.size) hm,Array.getElem?_eq_getElem hm]
 obtain ⟨cells',rows',hf',hg',hl',hrr⟩:=layR_sound hI hF ps.toList _ _ _ hg0 hlr
 cases hrr
 have hn:rows.length=n:=by simpa using hl'
 obtain ⟨ev,hI'⟩:=hI.newBox (w':=w.alloc (.cells cells' e)) (cs:=cells') (e:=e) (sz:=ye.size) (rows:=rows) rfl rfl rfl rfl hg'.1 hg'.2.1 hg'.2.2
 refine Does.val ho (wanted_of hF (by rw [wantA_congr hl];exact hw)) (v:=.slice (some ⟨w.heap.size,0,none⟩) n n) ?_ (.inl rfl) ⟨_,hI',ev,?_⟩
 ·have hsz:=sizeOf_run hye w
  have hpp:(ps.map fun (x:Nat × Operand)=>(x.1,a.eval x.2)).toList=ps.toList.map fun p=>(p.1,a.eval p.2):=by simp
  have h24:¬ (n*ye.size > 16777216):=by omega
  simp only [execOp,hop,Instr.buildSlice,Sem.run_bind,run_underlying hd,Result.andThen_ok,hsz]
  by_cases h0:n*ye.size=0
  ·have hn0:n=0:=by
    rcases Nat.mul_eq_zero.1 h0 with h | h
    ·exact h
    ·exact absurd h hne
   subst hn0
   have e1:∀ f:Nat→Value,(Array.range 0).map f=#[]:=fun f=>by rw [← Array.toList_inj];simp
   have hf2:=hf'
   simp only [Nat.zero_mul,e1] at hf2
   simp [hf2,newRow,hn,e1]
  ·simp [h24,h0,hz,hf',newRow,hn]
 ·exact .bsl S.boxes.length w.heap.size ye.size n n (by rw [← hI.nb];exact getElem?_snoc_new _ _) (Nat.le_refl _)
theorem Ndo.atB {t e b n:Nat}{ik:IntKind}{j:Nat}{y ye:Ty}{rows:List (List AV)}{r:List AV}(ho:ops[i]?=some o:=by rfl)(hw:wantA ops F o=some true:=by rfl)(hop:o.op=.indexAddr t p q:=by rfl)(hp:opr X F p=some (.bsl b n):=by rfl)
 (hq:opr X F q=some (.val (.int ik j)):=by rfl)(hy:X.ty t=some y:=by rfl)(hyk:y.k=.slc e:=by rfl)(hye:X.ty e=some ye:=by rfl)(hj:Nat.blt j n=true:=by rfl)(hb:S.boxes[b]?=some rows:=by rfl)(hr:rows[j]?=some r:=by rfl)(hl:r.length=ye.size:=by rfl):Ndo X N ops i o F (.ptr b j 0) S S:=by
 refine Ndo.val ho hw fun F' E w a hc hI hF=>?_
 rw [hop] at hc
 have h1:=opr_sound hI hF ((hc p (by simp [Op.operands])).trans hp)
 have h2:=opr_sound hI hF ((hc q (by simp [Op.operands])).trans hq)
 obtain ⟨d,hdd,hd2⟩:=(X.ty_ok t y hy).agg
 simp only [hyk] at hd2
 obtain ⟨rfl,ye',hye',hne⟩:=hd2
 rw [hye] at hye';cases hye'
 have hlt:j<n:=by simpa [Nat.blt_eq] using hj
 cases hh2:a.eval q<;>rw [hh2] at h2<;>cases h2
 generalize hh1:a.eval p=u at h1
 cases h1 with
 | bsl _ blk sz _ cap hB hcap =>
   obtain ⟨arr,e',hh,hs,hlen,hrel⟩:=hI.box b blk sz rows hB hb
   have hsz:sz=ye.size:=by rw [← hl,hlen r (List.mem_of_getElem? hr)]
   subst hsz
   refine ⟨.pointer (some ⟨blk,j*ye.size,none⟩),?_,?_⟩
   ·have hin:(j:Int)<(n:Int):=by omega
    simp [execOp,hop,hh1,hh2,Instr.indexAt,asIntOf,run_underlying hdd,hin,sizeOf_run hye,addr_add]
    intro h;omega
   ·have:=Rel.ptr (E:=E) (w:=w) b j 0 blk ye.size hB
    simpa using this
class BoxC (bx:List (List (List AV)))(b:Nat)(rows:outParam (List (List AV))):Prop where
 h:bx[b]?=some rows
instance {x:List (List AV)}{l:List (List (List AV))}:BoxC (x::l) 0 x:=⟨rfl⟩
instance {x y:List (List AV)}{l:List (List (List AV))}{b:Nat} [h:BoxC l b y]:BoxC (x::l) (b+1) y:=⟨by simpa using h.h⟩
class LeC (n b:Nat):Prop where
 h:n≤b
instance {b:Nat}:LeC 0 b:=⟨Nat.zero_le _⟩
instance {n b:Nat} [h:LeC n b]:LeC (n+1) (b+1):=⟨Nat.succ_le_succ h.h⟩
class LenC (l:List (List AV))(k:Nat):Prop where
 h:k=l.length∧k≤maxN
instance {a b c:List AV}:LenC [a,b,c] 3:=⟨rfl,by decide⟩
instance {bx:List (List (List AV))}{tk:List Nat}{n m b k:Nat}{rows rows':List (List AV)} [h1:BoxC bx b rows] [h2:LeC n b] [h3:LenC rows k] [h4:FzRC ⟨bx,tk⟩ n m rows rows']:FzC ⟨bx,tk⟩ n m (.bsl b k) (.sl rows' .no) :=
 ⟨.bsl b k rows rows' h2.h h1.h (Nat.le_of_eq h3.h.1) h3.h.2 (h4.s.get.1.trans h3.h.1.symm) (fun i r r' h1 h2=>(h4.s.get.2 i r r' h1 h2).get.1) (fun i j r r' x y h1 h2 h3 h5=>(h4.s.get.2 i r r' h1 h2).get.2 j x y h3 h5)⟩
end
end Go.V
namespace Go.V
open Go Go.Proofs
theorem oneM_bad {f:Nat}{r:RS}(h:r.bad=true):(oneM f r).2=r:=by
 cases f with
 | zero=>rfl
 | succ f=>simp only [oneM];rw [if_pos h]
theorem termM_bad {f:Nat}{r:RS}(h:r.bad=true):(termM f r).2=r:=by
 cases f with
 | zero=>rfl
 | succ f=>simp only [termM];rw [termL_bad (by rw [oneM_bad h];exact h),oneM_bad h]
theorem exprM_bad {f:Nat}{r:RS}(h:r.bad=true):(exprM f r).2=r:=by
 cases f with
 | zero=>rfl
 | succ f=>simp only [exprM];rw [exprL_bad (by rw [termM_bad h];exact h),termM_bad h]
theorem exprR_bad {r:RS}(h:r.bad=true):(exprR r).2=r:=exprM_bad h
theorem spoil_bad {r:RS}(h:r.bad=true):r.spoil=r:=by
 obtain ⟨ws,a,b⟩:=r
 simp only at h;subst h;rfl
theorem listM_bad {f:Nat}{acc:List Nd}{r:RS}(h:r.bad=true):listM f acc r=(acc,r):=by
 cases f with
 | zero=>rfl
 | succ f=>simp only [listM];rw [if_neg (by simp [h])]
theorem blockM_bad {f:Nat}{r:RS}(h:r.bad=true):(blockM f r).2=r:=by
 cases f with
 | zero=>rfl
 | succ f=>simp only [blockM];rw [need_bad h,listM_bad h];exact need_bad h _
theorem stmtM_end {f:Nat}{r:RS}(hb:r.bad=false)(h:r.ws.length≤r.at_):(stmtM (f+1) r).2=r.spoil:=by
 have ht:r.text=[]:=by simp [RS.text,List.getElem?_eq_none h]
 have hk:r.kind=0:=by simp [RS.kind,List.getElem?_eq_none h]
 have no:∀ s:List UInt8,s≠[]→r.takes s=false:=fun s hs=>by
  rw [takes_ok hb,ht];simpa using Ne.symm hs
 have hn:r.nameR=r.spoil:=by simp [RS.nameR,RS.named,hb,hk]
 have hsb:r.spoil.bad=true:=rfl
 simp only [stmtM]
 rw [if_neg (by simp [no]),if_neg (by simp [no]),if_neg (by simp [no])]
 simp only [simpleR]
 rw [if_neg (by simp [no]),if_neg (by simp [no]),if_neg (by simp [no]),if_neg (by simp [no])]
 simp only [setR]
 rw [hn,if_neg (by simp [bad_takes hsb]),need_bad hsb]
 simp only [exprR_bad hsb]
 exact need_bad hsb _
def IStmt (f:Nat):Prop:=∀ (r:RS)(e:Nat),r.ok→r.wk→r.bad=false→3*r.left+1≤f→f≤100000→GoesI 289 (stmtM f r) r e
def IBlock (f:Nat):Prop:=∀ (r:RS)(e:Nat),r.ok→r.wk→r.bad=false→3*r.left+3≤f→f≤100000→GoesI 310 (blockM f r) r e
theorem i_block (f:Nat)(ih:∀ g,g<f→IStmt g):IBlock f:=by
 intro r e ho hw hb hf hF
 obtain ⟨g,rfl⟩:∃ g,f=g+1:=⟨f-1,by omega⟩
 refine GoesI.run Tryz.func310 ?_
 simp only [blockM]
 by_cases g1:(r.need [123]).bad=false
 ·obtain ⟨n1,n2,n3⟩:=need_good g1
  have hl:=(takes_lt n1 (by simp)).1
  have ls:=left_step hl
  have s:=step_after hl
  refine AK.hc [0] [] (i_want1 r e [123] (by simp) hb g1) ?_
  rw [n2]
  generalize hT:listM g [] r.step=T
  refine AK.mintB 2 0 3 rfl rfl rfl rfl rfl rfl ?_
  refine AK.while_ (ι:=Nat × List Nd × RS) 3 1 (fun i=>i.2.2.ok∧i.2.2.wk∧i.2.2.bad=false∧i.2.1.length+i.1≤g∧3*i.2.2.left+2≤i.1∧T=listM i.1 i.2.1 i.2.2) (fun _=>[(0,.ptr 0 0 0),(2,.ptr 1 0 0),(3,.ptr 2 0 0)])
   (fun i=>⟨[[pc i.2.2 e],[zN],[[vi 30,str [],vi 0,.sl (nrows i.2.1) (.tok 0)]]],[i.2.1.length]⟩) (fun i=>i.1) ?_ (g,[],r.step) ⟨s.ok ho,s.wk hw,hb,by simp,by simp only;omega,hT.symm⟩ ⟨rfl,rfl,rfl,trivial⟩ rfl rfl rfl rfl rfl (fun _=>inferInstance) (fun _=>inferInstance)
  rintro ⟨n,acc,q⟩ ⟨hqo,hqw,hqb,hlen,hfu,hTn⟩ IH
  simp only at hqo hqw hqb hlen hfu hTn IH ⊢
  obtain ⟨m,rfl⟩:∃ m,n=m+1:=⟨n-1,by omega⟩
  have hL:T=if !q.bad&&decide (q.at_<q.ws.length)&&!(q.text==[125]) then listM m (acc++[(stmtM m q).1]) (stmtM m q).2 else (acc,q):=by rw [hTn];simp only [listM]
  refine AK.ev 100 rfl ?_
  refine AK.hc [0] [] (i_skip q e [125] hqb (by simp)) ?_
  refine AK.if_ (fun h=>?_) (fun h=>?_)
  ·have h':q.takes [125]=false:=by have:(!q.takes [125])=true:=h;simpa using this
   have h'':(q.text==[125])=false:=by rw [← takes_ok hqb];exact h'
   rw [takes_not h']
   have ih2:=ih m (by omega) q e hqo hqw hqb (by omega) (by omega)
   by_cases hlt:q.at_<q.ws.length
   ·rw [if_pos (by simp [hqb,hlt,h''])] at hL
    have af:=(stmts_after m).1 q hqo
    have lf:=left_after af
    by_cases g2:(stmtM m q).2.bad=false
    ·have hon:q.at_<(stmtM m q).2.at_:=by
      obtain ⟨p,rfl⟩:∃ p,m=p+1:=⟨m-1,by omega⟩
      rcases stmtM_on p hqo with h | h
      ·rw [g2] at h;cases h
      ·exact h
     have hll:(stmtM m q).2.left+1≤q.left:=by
      have e1:=af.1
      have e2:=af.2.2
      simp only [RS.left,e1] at *
      omega
     refine AK.dn 168 3 ?_
     refine Drv.wl (Ndo.hd [0] [] (ih2.ok g2)) ?_ ?_
     ·exact strip_eq (Ndo.ev rfl rfl rfl) allN
     refine Drv.m ?_
     refine Drv.w (Ndo.append (res:=nrows (acc++[(stmtM m q).1])) rfl rfl rfl rfl rfl rfl rfl rfl rfl rfl rfl rfl rfl rfl (nrows_len acc) (nrows_al acc) rfl rfl rfl ?_ ?_ rfl) ?_
     ·rw [nrows_len];simp;omega
     ·rw [nrows_map,nrows_map,List.map_append];rfl
     refine Drv.e ?_
     refine Drv.w (Ndo.store rfl rfl rfl rfl rfl rfl rfl) ?_
     refine Drv.z ?_
     refine IH (m,acc++[(stmtM m q).1],(stmtM m q).2) ⟨af.ok hqo,af.wk hqw,g2,by simp;omega,by simp only;omega,hL⟩ (by simp only;omega) _ _ ⟨rfl,rfl,rfl,trivial⟩ ?_ rfl rfl
     simp [St.drop,nrows_len,upd]
    ·have g2:=bad_not g2
     rw [listM_bad g2] at hL
     rw [hL,need_bad g2,Rp_bad g2]
     refine AK.dnT (S1:=?S1) 3 168 3 Tryz.func310 ?hk ?hS
     case hk =>
      refine Drv.tz ?_
      exact Thr.hd [0] [] (ih2.bad g2)
     case hS=>rfl
   ·rw [if_neg (by simp [hlt])] at hL
    obtain ⟨p,rfl⟩:∃ p,m=p+1:=⟨m-1,by omega⟩
    have hE:=stmtM_end (f:=p) hqb (by omega)
    have hN:q.need [125]=q.spoil:=by simp [RS.need,h']
    have g2:(stmtM (p+1) q).2.bad=true:=by rw [hE];rfl
    have ihb:=ih2.bad g2
    rw [hE] at ihb
    rw [hL,hN,Rp_bad (show q.spoil.bad=true from rfl)]
    refine AK.dnT (S1:=?S2) 3 168 3 Tryz.func310 ?hk ?hS
    case hk =>
     refine Drv.tz ?_
     exact Thr.hd [0] [] ihb
    case hS=>rfl
  ·have h':q.takes [125]=true:=by have:(!q.takes [125])=false:=h;simpa using this
   have h'':(q.text==[125])=true:=by rw [← takes_ok hqb];exact h'
   have hN:q.need [125]=q.step:=by simp [RS.need,h']
   rw [if_neg (by simp [h''])] at hL
   rw [hL,hN,takes_step h',Rp_ok (show q.step.bad=false from hqb),nd_eq]
   refine AK.rb Tryz.func310 ?_ rfl
   rw [nrows_map]
 ·have g1:=bad_not g1
  rw [listM_bad g1,need_bad g1,Rp_bad g1]
  exact AK.tb Tryz.func310 (Thr.hd [0] [] (i_want1T r e [123] (by simp) hb g1)) rfl
theorem need2 (r:RS)(s t:List UInt8):r.needs [s,t]=(r.need s).need t:=rfl
theorem e_ok (r:RS)(e:Nat)(n:Nd){x:AV}(hx:nd n=x)(hb:r.bad=false)(h:(r.need [59]).bad=false):Hands X 308 [.ptr 0 0 0,x] ⟨[[pc r e]],[]⟩ x ⟨[[pc (r.need [59]) e]],[]⟩:=by
 subst hx;exact i_ended r e n hb h
theorem e_no (r:RS)(e:Nat)(n:Nd){x:AV}(hx:nd n=x)(hb:r.bad=false)(h:(r.need [59]).bad=true):Throws X 308 [.ptr 0 0 0,x] ⟨[[pc r e]],[]⟩ (pan ((r.need [59]).place e)) ⟨[[pc (r.need [59]) e]],[]⟩:=by
 subst hx;exact i_endedT r e n hb h
theorem nd1 (k:Int)(s:List UInt8)(m:Int)(a:Nd):nd (.mk k s m [a])=.agg [vi k,str s,vi m,.sl [ncells a] .no]:=by rw [nd_eq];rfl
theorem nd2 (k:Int)(s:List UInt8)(m:Int)(a b:Nd):nd (.mk k s m [a,b])=.agg [vi k,str s,vi m,.sl [ncells a,ncells b] .no]:=by rw [nd_eq];rfl
theorem nd3 (k:Int)(s:List UInt8)(m:Int)(a b c:Nd):nd (.mk k s m [a,b,c])=.agg [vi k,str s,vi m,.sl [ncells a,ncells b,ncells c] .no]:=by rw [nd_eq];rfl
theorem nd0' (k:Int)(s:List UInt8)(m:Int):nd (.mk k s m [])=.agg [vi k,str s,vi m,.sl [] .no]:=by rw [nd_eq];rfl
theorem AK.sto {X:Cx}{B:Bx}{F:Frm}{S:St}{R:AE→St→Prop}{K:List Item}(S':St)(hk:AK X B K F S' R)(h:S=S':=by rfl):AK X B K F S R:=by
 subst h;exact hk
theorem i_set (r:RS)(e:Nat)(ho:r.ok)(hw:r.wk)(hb:r.bad=false) :
 AK X ⟨289,Tryz.f289,1,0⟩ (locG false 23 Tryz.f289) [(0,.ptr 0 0 0),(2,.ptr 1 0 0)] ⟨[[pc r e],[zN]],[]⟩ (Rp ((setR r).1,(setR r).2.need [59]) e):=by
 refine AK.at_ ?_
 refine AK.ev 100 rfl ?_
 simp only [setR]
 by_cases g1:r.nameR.bad=false
 ·have an:=nameR_after ho
  refine AK.hc [0] [] (i_name r e hb g1) ?_
  refine AK.hc [0] [] (i_skip r.nameR e [91] g1 (by simp)) ?_
  refine AK.if_ (fun h=>?_) (fun h=>?_)
  ·have h':r.nameR.takes [91]=true:=h
   have hl:=(takes_lt h' (by simp)).1
   have s:=an.trans (step_after hl)
   have hsb:r.nameR.step.bad=false:=g1
   have ih:=i_exprR r.nameR.step e (s.ok ho) (s.wk hw) hsb
   have a1:=s.trans (exprR_after (s.ok ho))
   rw [if_pos h',takes_step h']
   simp only
   by_cases g2:(exprR r.nameR.step).2.bad=false
   ·refine AK.hc [0] [] (ih.ok g2) ?_
    rw [← need2]
    by_cases g3:((exprR r.nameR.step).2.needs [[93],[61]]).bad=false
    ·refine AK.hc [0] [] (i_want (exprR r.nameR.step).2 e [[93],[61]] (by simp) (by simp) g2 g3) ?_
     have a3:r.after ((exprR r.nameR.step).2.needs [[93],[61]]):=by
      have b1:=a1.trans (need_after (s:=[93]) (a1.ok ho) (by simp))
      exact b1.trans (need_after (s:=[61]) (b1.ok ho) (by simp))
     have ih2:=i_exprR _ e (a3.ok ho) (a3.wk hw) g3
     generalize (exprR r.nameR.step).2.needs [[93],[61]]=u at g3 ih2 a3 ⊢
     by_cases g4:(exprR u).2.bad=false
     ·by_cases g5:((exprR u).2.need [59]).bad=false
      ·rw [Rp_ok g5]
       refine AK.dn 400 4 ?_
       refine Drv.wl (Ndo.hd [0] [] (ih2.ok g4)) ?_ ?_
       ·exact strip_eq (Ndo.ev rfl rfl rfl) allN
       refine Drv.mw ?_
       refine Drv.e ?_
       refine Drv.w (Ndo.hd [0] [] (e_ok (exprR u).2 e (.mk 22 r.name 0 [(exprR r.nameR.step).1,(exprR u).1]) (nd2 22 r.name 0 _ _) g4 g5)) ?_
       refine Drv.w (Ndo.store rfl rfl rfl rfl rfl rfl rfl) ?_
       refine Drv.z ?_
       rw [nd2]
       exact AK.rb Tryz.func289 rfl rfl
      ·have g5:=bad_not g5
       rw [Rp_bad g5]
       refine AK.dnT (S1:=?S1) 7 400 4 Tryz.func289 ?hk ?hS
       case hk =>
        refine Drv.wl (Ndo.hd [0] [] (ih2.ok g4)) ?_ ?_
        ·exact strip_eq (Ndo.ev rfl rfl rfl) allN
        refine Drv.mw ?_
        refine Drv.e ?_
        refine Drv.tz ?_
        exact Thr.hd [0] [] (e_no (exprR u).2 e (.mk 22 r.name 0 [(exprR r.nameR.step).1,(exprR u).1]) (nd2 22 r.name 0 _ _) g4 g5)
       case hS=>rfl
     ·have g4:=bad_not g4
      rw [need_bad g4,Rp_bad g4]
      refine AK.dnT (S1:=?S2) 4 400 4 Tryz.func289 ?hk ?hS
      case hk =>
       refine Drv.tz ?_
       exact Thr.hd [0] [] (ih2.bad g4)
      case hS=>rfl
    ·have g3:=bad_not g3
     rw [exprR_bad g3,need_bad g3,Rp_bad g3]
     exact AK.tb Tryz.func289 (Thr.hd [0] [] (i_wantT (exprR r.nameR.step).2 e [[93],[61]] (by simp) (by simp) g2 g3)) rfl
   ·have g2:=bad_not g2
    rw [need_bad g2,need_bad g2,exprR_bad g2,need_bad g2,Rp_bad g2]
    exact AK.tb Tryz.func289 (Thr.hd [0] [] (ih.bad g2)) rfl
  ·have h':r.nameR.takes [91]=false:=h
   rw [if_neg (by simp [h']),takes_not h']
   simp only
   by_cases g2:(r.nameR.need [61]).bad=false
   ·have a2:=an.trans (need_after (s:=[61]) (an.ok ho) (by simp))
    refine AK.hc [0] [] (i_want1 r.nameR e [61] (by simp) g1 g2) ?_
    have ih2:=i_exprR _ e (a2.ok ho) (a2.wk hw) g2
    generalize r.nameR.need [61]=u at g2 ih2 a2 ⊢
    by_cases g4:(exprR u).2.bad=false
    ·refine AK.hcn 0 [0] [] (ih2.ok g4) ?_
     refine AK.op (Ndo.wk (Ndo.mem rfl rfl rfl)) ?_
     by_cases g5:((exprR u).2.need [59]).bad=false
     ·rw [Rp_ok g5]
      refine AK.hc [0] [] (e_ok (exprR u).2 e (.mk 21 r.name 0 [(exprR u).1]) (nd1 21 r.name 0 _) g4 g5) ?_
      rw [nd1]
      exact AK.rb Tryz.func289 rfl rfl
     ·have g5:=bad_not g5
      rw [Rp_bad g5]
      exact AK.tb Tryz.func289 (Thr.hd [0] [] (e_no (exprR u).2 e (.mk 21 r.name 0 [(exprR u).1]) (nd1 21 r.name 0 _) g4 g5)) rfl
    ·have g4:=bad_not g4
     rw [need_bad g4,Rp_bad g4]
     exact AK.tb Tryz.func289 (Thr.hd [0] [] (ih2.bad g4)) rfl
   ·have g2:=bad_not g2
    rw [exprR_bad g2,need_bad g2,Rp_bad g2]
    exact AK.tb Tryz.func289 (Thr.hd [0] [] (i_want1T r.nameR e [61] (by simp) g1 g2)) rfl
 ·have g1:=bad_not g1
  rw [if_neg (by simp [bad_takes g1])]
  simp only
  rw [need_bad g1,exprR_bad g1,need_bad g1,Rp_bad g1]
  exact AK.tb Tryz.func289 (Thr.hd [0] [] (i_nameT r e hb g1)) rfl
theorem i_stmt (f:Nat)(ih:∀ g,g<f→IBlock g):IStmt f:=by
 intro r e ho hw hb hf hF
 obtain ⟨g,rfl⟩:∃ g,f=g+1:=⟨f-1,by omega⟩
 have hset:=i_set r e ho hw hb
 refine GoesI.run Tryz.func289 ?_
 have hM:stmtM (g+1) r=if r.takes wIf then
  (if (blockM g (condR r.step).2).2.takes wElse then
    (.mk 24 [] 0 [(condR r.step).1,(blockM g (condR r.step).2).1,(blockM g (blockM g (condR r.step).2).2.step).1],(blockM g (blockM g (condR r.step).2).2.step).2)
  else (.mk 24 [] 0 [(condR r.step).1,(blockM g (condR r.step).2).1,.mk 30 [] 0 []],(blockM g (condR r.step).2).2))
  else if r.takes wWhile then (.mk 25 [] 0 [(condR r.step).1,(blockM g (condR r.step).2).1],(blockM g (condR r.step).2).2)
  else if r.takes wFor then
   (.mk 26 r.step.name 0 [(exprR (forA r.step)).1,(exprR (forB r.step)).1,(blockM g (exprR (forB r.step)).2).1],(blockM g (exprR (forB r.step)).2).2)
  else ((simpleR r).1,(simpleR r).2.need [59]):=by simp only [stmtM]
 have hS:simpleR r=if r.takes wCheck then (.mk 27 [] 0 [(condR r.step).1],(condR r.step).2)
  else if r.takes wRead then (.mk 23 r.step.name 0 [],r.step.nameR)
  else if r.takes wSkip then (.mk 28 [] 0 [],r.step)
  else if r.takes wStop then (.mk 29 [] 0 [],r.step)
  else setR r:=by simp only [simpleR]
 rw [hM]
 refine AK.hc [0] [] (i_skip r e wRead hb (by simp)) ?_
 refine AK.if_ (fun h1=>?_) (fun h1=>?_)
 ·have h1':r.takes wRead=true:=h1
  have s:=step_after (takes_lt h1' (by simp)).1
  have hsb:r.step.bad=false:=hb
  rw [if_neg (by simp [takes_ne (s':=wIf) h1' (by simp)]),if_neg (by simp [takes_ne (s':=wWhile) h1' (by simp)]),if_neg (by simp [takes_ne (s':=wFor) h1' (by simp)]),hS,if_neg (by simp [takes_ne (s':=wCheck) h1' (by simp)]),if_pos h1',takes_step h1']
  simp only
  by_cases g1:r.step.nameR.bad=false
  ·refine AK.hc [0] [] (i_name r.step e hsb g1) ?_
   by_cases g2:(r.step.nameR.need [59]).bad=false
   ·rw [Rp_ok g2]
    refine AK.hc [0] [] (e_ok r.step.nameR e (.mk 23 r.step.name 0 []) (nd0' 23 r.step.name 0) g1 g2) ?_
    rw [nd0']
    exact AK.rb Tryz.func289 rfl rfl
   ·have g2:=bad_not g2
    rw [Rp_bad g2]
    exact AK.tb Tryz.func289 (Thr.hd [0] [] (e_no r.step.nameR e (.mk 23 r.step.name 0 []) (nd0' 23 r.step.name 0) g1 g2)) rfl
  ·have g1:=bad_not g1
   rw [need_bad g1,Rp_bad g1]
   exact AK.tb Tryz.func289 (Thr.hd [0] [] (i_nameT r.step e hsb g1)) rfl
 have n1:r.takes wRead=false:=h1
 rw [takes_not n1]
 refine AK.hc [0] [] (i_skip r e wIf hb (by simp)) ?_
 refine AK.if_ (fun h2=>?_) (fun h2=>?_)
 ·have h2':r.takes wIf=true:=h2
  have hl:=(takes_lt h2' (by simp)).1
  have ls:=left_step hl
  have s:=step_after hl
  have hsb:r.step.bad=false:=hb
  rw [if_pos h2',takes_step h2']
  have ic:=i_cond r.step e (s.ok ho) (s.wk hw) hsb
  have c:=s.trans (condR_after (s.ok ho))
  have lc:=left_after (condR_after (s.ok ho))
  generalize condR r.step=q at ic c lc ⊢
  obtain ⟨x,q⟩:=q
  simp only at ic c lc ⊢
  by_cases g1:q.bad=false
  ·refine AK.hc [0] [] (ic.ok g1) ?_
   have ib:=ih g (by omega) q e (c.ok ho) (c.wk hw) g1 (by omega) (by omega)
   have d:=c.trans ((stmts_after g).2.1 q (c.ok ho))
   have ld:=left_after ((stmts_after g).2.1 q (c.ok ho))
   generalize blockM g q=u at ib d ld ⊢
   obtain ⟨y,u⟩:=u
   simp only at ib d ld ⊢
   by_cases g2:u.bad=false
   ·refine AK.hcn 1 [0] [] (ib.ok g2) ?_
    refine AK.wk 23 ?_
    refine AK.op (Ndo.mkB (b:=2)) ?_
    refine AK.hc [0] [] (i_skip u e wElse g2 (by simp)) ?_
    refine AK.if_ (fun h3=>?_) (fun h3=>?_)
    ·have h3':u.takes wElse=true:=h3
     have hl2:=(takes_lt h3' (by simp)).1
     have ls2:=left_step hl2
     have s2:=d.trans (step_after hl2)
     rw [if_pos h3',takes_step h3']
     have ib2:=ih g (by omega) u.step e (s2.ok ho) (s2.wk hw) g2 (by omega) (by omega)
     generalize blockM g u.step=v at ib2 ⊢
     obtain ⟨z,v⟩:=v
     simp only at ib2 ⊢
     by_cases g3:v.bad=false
     ·rw [Rp_ok g3]
      refine AK.dn 40 3 ?_
      refine Drv.wl (Ndo.hd [0] [] (ib2.ok g3)) ?_ ?_
      ·exact strip_eq (Ndo.ev rfl rfl rfl) allN
      refine Drv.look (strip_eq (Ndo.atB (j:=2)) (strip_eq (Ndo.atB (j:=2)) allN)) rfl ?_
      refine Drv.w (Ndo.store rfl rfl rfl rfl rfl rfl rfl) ?_
      refine Drv.z ?_
      refine AK.sto ⟨[[pc v e],[[vi 24,str [],vi 0,.bsl 2 3]],[ncells x,ncells y,ncells z],[[vi 24,str [],vi 0,.bsl 2 3]]],[]⟩ ?_
      rw [nd3]
      exact AK.rb Tryz.func289 rfl rfl
     ·have g3:=bad_not g3
      rw [Rp_bad g3]
      refine AK.dnT (S1:=?S1) 3 40 3 Tryz.func289 ?hk ?hS
      case hk =>
       refine Drv.tz ?_
       exact Thr.hd [0] [] (ib2.bad g3)
      case hS=>rfl
    ·have h3':u.takes wElse=false:=h3
     rw [if_neg (by simp [h3']),takes_not h3',Rp_ok g2]
     refine AK.sto ⟨[[pc u e],[[vi 24,str [],vi 0,.bsl 2 3]],[ncells x,ncells y,ncells (.mk 30 [] 0 [])],[[vi 24,str [],vi 0,.bsl 2 3]]],[]⟩ ?_
     rw [nd3]
     exact AK.rb Tryz.func289 rfl rfl
   ·have g2:=bad_not g2
    rw [if_neg (by simp [bad_takes g2]),Rp_bad g2]
    exact AK.tb Tryz.func289 (Thr.hd [0] [] (ib.bad g2)) rfl
  ·have g1:=bad_not g1
   have e1:=blockM_bad (f:=g) g1
   rw [e1,if_neg (by simp [bad_takes g1]),Rp_bad g1]
   exact AK.tb Tryz.func289 (Thr.hd [0] [] (ic.bad g1)) rfl
 have n2:r.takes wIf=false:=h2
 rw [if_neg (by simp [n2]),takes_not n2]
 refine AK.hc [0] [] (i_skip r e wWhile hb (by simp)) ?_
 refine AK.if_ (fun h3=>?_) (fun h3=>?_)
 ·have h3':r.takes wWhile=true:=h3
  have hl:=(takes_lt h3' (by simp)).1
  have ls:=left_step hl
  have s:=step_after hl
  have hsb:r.step.bad=false:=hb
  rw [if_pos h3',takes_step h3']
  have ic:=i_cond r.step e (s.ok ho) (s.wk hw) hsb
  have c:=s.trans (condR_after (s.ok ho))
  have lc:=left_after (condR_after (s.ok ho))
  generalize condR r.step=q at ic c lc ⊢
  obtain ⟨x,q⟩:=q
  simp only at ic c lc ⊢
  by_cases g1:q.bad=false
  ·refine AK.hc [0] [] (ic.ok g1) ?_
   have ib:=ih g (by omega) q e (c.ok ho) (c.wk hw) g1 (by omega) (by omega)
   generalize blockM g q=u at ib ⊢
   obtain ⟨y,u⟩:=u
   simp only at ib ⊢
   by_cases g2:u.bad=false
   ·rw [Rp_ok g2]
    refine AK.hc [0] [] (ib.ok g2) ?_
    rw [nd2]
    exact AK.rb Tryz.func289 rfl rfl
   ·have g2:=bad_not g2
    rw [Rp_bad g2]
    exact AK.tb Tryz.func289 (Thr.hd [0] [] (ib.bad g2)) rfl
  ·have g1:=bad_not g1
   rw [blockM_bad g1,Rp_bad g1]
   exact AK.tb Tryz.func289 (Thr.hd [0] [] (ic.bad g1)) rfl
 have n3:r.takes wWhile=false:=h3
 rw [if_neg (by simp [n3]),takes_not n3]
 refine AK.hc [0] [] (i_skip r e wFor hb (by simp)) ?_
 refine AK.if_ (fun h4=>?_) (fun h4=>?_)
 ·have h4':r.takes wFor=true:=h4
  have hl:=(takes_lt h4' (by simp)).1
  have ls:=left_step hl
  have s:=step_after hl
  have hsb:r.step.bad=false:=hb
  rw [if_pos h4',takes_step h4']
  have fa:=forA_after (s.ok ho)
  have fb:=forB_after (s.ok ho)
  have lb:=left_after fb
  simp only [forB,forA] at fb lb ⊢
  simp only [forA] at fa
  by_cases g1:r.step.nameR.bad=false
  ·refine AK.hc [0] [] (i_name r.step e hsb g1) ?_
   by_cases g2:(r.step.nameR.need wFrom).bad=false
   ·refine AK.hc [0] [] (i_want1 r.step.nameR e wFrom (by simp) g1 g2) ?_
    have f1:=s.trans fa
    have i1:=i_exprR _ e (f1.ok ho) (f1.wk hw) g2
    generalize r.step.nameR.need wFrom=q1 at g2 i1 fb lb ⊢
    generalize exprR q1=t1 at i1 fb lb ⊢
    obtain ⟨x1,u1⟩:=t1
    simp only at i1 fb lb ⊢
    by_cases g3:u1.bad=false
    ·refine AK.hc [0] [] (i1.ok g3) ?_
     by_cases g4:(u1.need wTo).bad=false
     ·refine AK.hc [0] [] (i_want1 u1 e wTo (by simp) g3 g4) ?_
      have f2:=s.trans fb
      have i2:=i_exprR _ e (f2.ok ho) (f2.wk hw) g4
      have f3:=f2.trans (exprR_after (f2.ok ho))
      have l3:=left_after (exprR_after (f2.ok ho))
      generalize u1.need wTo=q2 at g4 i2 f2 f3 l3 lb ⊢
      generalize exprR q2=t2 at i2 f3 l3 ⊢
      obtain ⟨x2,u2⟩:=t2
      simp only at i2 f3 l3 ⊢
      by_cases g5:u2.bad=false
      ·have ib:=ih g (by omega) u2 e (f3.ok ho) (f3.wk hw) g5 (by omega) (by omega)
       generalize blockM g u2=v at ib ⊢
       obtain ⟨y,v⟩:=v
       simp only at ib ⊢
       by_cases g6:v.bad=false
       ·rw [Rp_ok g6]
        refine AK.dn 148 2 ?_
        refine Drv.wl (Ndo.hd [0] [] (i2.ok g5)) ?_ ?_
        ·exact strip_eq (Ndo.ev rfl rfl rfl) allN
        refine Drv.e ?_
        refine Drv.wl (Ndo.hd [0] [] (ib.ok g6)) ?_ ?_
        ·intro p hp
         replace hp:=(List.mem_filter.1 hp).1
         revert p
         exact strip_eq (Ndo.ev rfl rfl rfl) allN
        refine Drv.m ?_
        refine Drv.e ?_
        refine Drv.w (Ndo.store rfl rfl rfl rfl rfl rfl rfl) ?_
        refine Drv.z ?_
        rw [nd3]
        exact AK.rb Tryz.func289 rfl rfl
       ·have g6:=bad_not g6
        rw [Rp_bad g6]
        refine AK.dnT (S1:=?S2) 4 148 2 Tryz.func289 ?hk ?hS
        case hk =>
         refine Drv.wl (Ndo.hd [0] [] (i2.ok g5)) ?_ ?_
         ·exact strip_eq (Ndo.ev rfl rfl rfl) allN
         refine Drv.e ?_
         refine Drv.tz ?_
         exact Thr.hd [0] [] (ib.bad g6)
        case hS=>rfl
      ·have g5:=bad_not g5
       rw [blockM_bad g5,Rp_bad g5]
       refine AK.dnT (S1:=?S3) 2 148 2 Tryz.func289 ?hk ?hS
       case hk =>
        refine Drv.tz ?_
        exact Thr.hd [0] [] (i2.bad g5)
       case hS=>rfl
     ·have g4:=bad_not g4
      have eb:(exprR (u1.need wTo)).2=u1.need wTo:=exprR_bad g4
      rw [eb,blockM_bad g4,Rp_bad g4]
      exact AK.tb Tryz.func289 (Thr.hd [0] [] (i_want1T u1 e wTo (by simp) g3 g4)) rfl
    ·have g3:=bad_not g3
     rw [need_bad g3,exprR_bad g3,blockM_bad g3,Rp_bad g3]
     exact AK.tb Tryz.func289 (Thr.hd [0] [] (i1.bad g3)) rfl
   ·have g2:=bad_not g2
    rw [exprR_bad g2,need_bad g2,exprR_bad g2,blockM_bad g2,Rp_bad g2]
    exact AK.tb Tryz.func289 (Thr.hd [0] [] (i_want1T r.step.nameR e wFrom (by simp) g1 g2)) rfl
  ·have g1:=bad_not g1
   rw [need_bad g1,exprR_bad g1,need_bad g1,exprR_bad g1,blockM_bad g1,Rp_bad g1]
   exact AK.tb Tryz.func289 (Thr.hd [0] [] (i_nameT r.step e hsb g1)) rfl
 have n4:r.takes wFor=false:=h4
 rw [if_neg (by simp [n4]),takes_not n4]
 refine AK.hc [0] [] (i_skip r e wCheck hb (by simp)) ?_
 refine AK.if_ (fun h5=>?_) (fun h5=>?_)
 ·have h5':r.takes wCheck=true:=h5
  have hl:=(takes_lt h5' (by simp)).1
  have s:=step_after hl
  have hsb:r.step.bad=false:=hb
  rw [hS,if_pos h5',takes_step h5']
  simp only
  have ic:=i_cond r.step e (s.ok ho) (s.wk hw) hsb
  generalize condR r.step=q at ic ⊢
  obtain ⟨x,q⟩:=q
  simp only at ic ⊢
  by_cases g1:q.bad=false
  ·refine AK.hcn 0 [0] [] (ic.ok g1) ?_
   refine AK.op (Ndo.wk (Ndo.mem rfl rfl rfl)) ?_
   by_cases g2:(q.need [59]).bad=false
   ·rw [Rp_ok g2]
    refine AK.hc [0] [] (e_ok q e (.mk 27 [] 0 [x]) (nd1 27 [] 0 x) g1 g2) ?_
    rw [nd1]
    exact AK.rb Tryz.func289 rfl rfl
   ·have g2:=bad_not g2
    rw [Rp_bad g2]
    exact AK.tb Tryz.func289 (Thr.hd [0] [] (e_no q e (.mk 27 [] 0 [x]) (nd1 27 [] 0 x) g1 g2)) rfl
  ·have g1:=bad_not g1
   rw [need_bad g1,Rp_bad g1]
   exact AK.tb Tryz.func289 (Thr.hd [0] [] (ic.bad g1)) rfl
 have n5:r.takes wCheck=false:=h5
 rw [hS,if_neg (by simp [n5]),if_neg (by simp [n1]),takes_not n5]
 refine AK.hc [0] [] (i_skip r e wSkip hb (by simp)) ?_
 refine AK.if_ (fun h6=>?_) (fun h6=>?_)
 ·have h6':r.takes wSkip=true:=h6
  have hsb:r.step.bad=false:=hb
  rw [if_pos h6',takes_step h6']
  simp only
  by_cases g2:(r.step.need [59]).bad=false
  ·rw [Rp_ok g2]
   refine AK.hc [0] [] (e_ok r.step e (.mk 28 [] 0 []) (nd0' 28 [] 0) hsb g2) ?_
   rw [nd0']
   exact AK.rb Tryz.func289 rfl rfl
  ·have g2:=bad_not g2
   rw [Rp_bad g2]
   exact AK.tb Tryz.func289 (Thr.hd [0] [] (e_no r.step e (.mk 28 [] 0 []) (nd0' 28 [] 0) hsb g2)) rfl
 have n6:r.takes wSkip=false:=h6
 rw [if_neg (by simp [n6]),takes_not n6]
 refine AK.hc [0] [] (i_skip r e wStop hb (by simp)) ?_
 refine AK.ifj 0 23 (fun h6=>?_) (fun h6=>?_)
 ·have h6':r.takes wStop=true:=h6
  have hsb:r.step.bad=false:=hb
  rw [if_pos h6',takes_step h6']
  simp only
  refine AK.ev 100 rfl ?_
  by_cases g2:(r.step.need [59]).bad=false
  ·rw [Rp_ok g2]
   refine AK.hc [0] [] (e_ok r.step e (.mk 29 [] 0 []) (nd0' 29 [] 0) hsb g2) ?_
   rw [nd0']
   exact AK.rb Tryz.func289 rfl rfl
  ·have g2:=bad_not g2
   rw [Rp_bad g2]
   exact AK.tb Tryz.func289 (Thr.hd [0] [] (e_no r.step e (.mk 29 [] 0 []) (nd0' 29 [] 0) hsb g2)) rfl
 ·have h6':r.takes wStop=false:=h6
  rw [if_neg (by simp [h6']),takes_not h6']
  exact AK.back' 2 0 hset ⟨rfl,rfl,trivial⟩ rfl rfl rfl rfl rfl
theorem i_stmts:∀ f:Nat,IStmt f∧IBlock f:=by
 intro f
 induction f using Nat.strongRecOn with
 | ind f ih=>exact ⟨i_stmt f (fun g hg=>(ih g hg).2),i_block f (fun g hg=>(ih g hg).1)⟩
end Go.V
