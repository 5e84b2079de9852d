/- A part of the proof of the claim that the last text states: no condition of its own. -/
import Derived.Test.YtojhghmilenfkaaGreatDoorK9
set_option linter.unusedVariables false
set_option linter.unusedSimpArgs false
namespace Go.V
open Go Go.Proofs
theorem Aio {at_:List Int}{cs:List (Bool × Int)}{vs:List Vl}{i:Nat}{v:Vl}(h:vs[i]?=some v):Rk at_ cs i (vs.drop i)=(Iw cs v (E6 at_ i) (E6 at_ (i+1))&&Rk at_ cs (i+1) (vs.drop (i+1))):=by rw [An h];rfl
theorem R4 {at_:List Int}{ms:List Bool}{vs:List Vl}{i:Nat}{v:Vl}(h:vs[i]?=some v):G3 at_ ms i (vs.drop i)=(Il (E6 at_ i) (E6 at_ (i+1)) (ms.getD i false)&&G3 at_ ms (i+1) (vs.drop (i+1))):=by rw [An h];rfl
theorem Vq {at_:List Int}{ms:List Bool}{vs:List Vl}(h:G3 at_ ms 0 vs=true):∀ i:Nat,i≤vs.length→G3 at_ ms i (vs.drop i)=true
 | 0,_=>h
 | i+1,hi=>by
   have ih:=Vq h i (by omega)
   obtain ⟨v,hv⟩:=Aa vs (i:=i) (by omega)
   rw [R4 hv,Bool.and_eq_true] at ih
   exact ih.2
theorem Aty {cs:List (Bool × Int)}{A B k:Nat}{c:Bool × Int}(hc:cs[k]?=some c)(h1:A≤k)(h2:k<B):((cs.take B).drop A)[k-A]?=some c:=by
 rw [List.getElem?_drop,List.getElem?_take,show A+(k-A)=k by omega,if_pos h2];exact hc
theorem Alm {cs:List (Bool × Int)}{A k:Nat}{c:Bool × Int}{p:Bool × Int→Bool}(hc:cs[k]?=some c)(h1:A≤k)(hA:((cs.take k).drop A).all p=true)(hb:p c=true):((cs.take (k+1)).drop A).all p=true:=by
 have hk:=Ad hc
 rw [List.take_add_one,hc,List.drop_append_of_le_length (by rw [List.length_take];omega),List.all_append,hA];simp [hb]
theorem Am7 (size len:Int)(hs0:-1000000≤size)(hs1:size≤1000000)(g:Sg)(hg:SgOk g)(vs:List Int)(cs:List (Bool × Int))(hcl:cs.length≤1000000000) :
 Pure X 143 [vi size,vi len,.agg (Bs g),.sl (Dl vs) .no,.sl (Iy cs) .no] (vb (Ad6 size len g vs cs)):=by
 have hlen:((Iy cs).length:Int)=cs.length:=by simp [Iy]
 have hlv:((O3 g.vs).length:Int)=g.vs.length:=by simp [O3]
 have hlt_:((Ej g.tm).length:Int)=g.tm.length:=by simp [Ej]
 have hvv:=hg.vs
 have htt:=hg.tm
 refine Pure.run Tryz.func143 ?_
 refine AK.pc (Ahv g hg size len hs0 hs1 fun v _=>Abt v) ?_
 unfold Ad6
 cases hsb:Lv size len g with
 | false =>
   refine AK.gy ?_
   refine AK.gy ?_
   refine AK.yes ?_
   exact AK.rz Tryz.func143 rfl
 | true =>
   have hsb':=hsb
   simp only [Lv,Bool.and_eq_true,beq_iff_eq,Kl] at hsb'
   have e1:=Av.1 hsb'.1.1
   have e2:=Av.1 hsb'.1.2
   refine AK.gn ?_
   refine AK.pc (Anc vs size (Av.2 ⟨by omega,by omega⟩)) ?_
   cases hv:Mk vs size with
   | false =>
     refine AK.gy ?_
     refine AK.yes ?_
     exact AK.rz Tryz.func143 rfl
   | true =>
     have hvs:=Qc hv
     obtain ⟨y,hy⟩:=Aa vs (i:=len.toNat) (by omega)
     refine AK.gn ?_
     refine AK.ix len (by omega) (Cu hy) ?_
     rw [Dy hy]
     refine AK.if_ (fun q=>?_) (fun q=>?_)
     ·have q':((cs.length:Int)==y)=false:=by
       have:(((Iy cs).length:Int) != y)=true:=q
       rw [hlen] at this;simpa using this
      refine AK.rz Tryz.func143 ?_
      rw [q'];rfl
     have q':((cs.length:Int)==y)=true:=by
      have:(((Iy cs).length:Int) != y)=false:=q
      rw [hlen] at this;simpa using this
     have hcy:(cs.length:Int)=y:=by simpa using q'
     have hrow:=Z1 (k:=vs.length) hsb hvs.1
     rw [q']
     refine AK.mint (d:=11) rfl rfl rfl ?_
     refine AK.while_ (ι:=Nat) 1 1 (fun i=>i≤g.tm.length∧(g.tm.take i).all (Nm vs)=true) (fun i=>[(12,vi i),(11,.sl (Dl ((g.tm.take i).map (Fj vs))) (.tok 0)),(3,.sl (Dl vs) .no),(4,.sl (Iy cs) .no),(7,.ptr 0 0 0)])
      (fun i=>⟨[[Bs g]],[((g.tm.take i).map (Fj vs)).length]⟩) (fun i=>g.tm.length-i) ?_ 0 ⟨Nat.zero_le _,rfl⟩ ⟨rfl,rfl,rfl,rfl,rfl,trivial⟩
     rintro i ⟨hi,hA⟩ IH
     refine AK.ei (fun q=>?_) (fun q=>?_)
     ·have hlt:i<g.tm.length:=by have:=of_decide_eq_true q;omega
      obtain ⟨x,hx⟩:=Aa g.tm hlt
      have hm:=List.mem_of_getElem? hx
      have hrx:=hrow x hm
      have hxl:((Hg x).length:Int)=x.length:=by simp [Hg]
      have hxle:=hg.rows x hm
      obtain ⟨hd0,hdm⟩:=V8 hrx.ne
      obtain ⟨y0,hy0,hw0,b0,b1⟩:=Qw hv hvs.1 hrx hdm
      have hrw:Fj vs x=Pz vs (x.getD 0 (0,0)):=rfl
      have h00:=(hrx.t _ hdm).1
      refine AK.db 0 ?_
      refine Drv.ig i (by omega) (As (f:=Km) hx) ?_
      refine Drv.ig 0 (by omega) (As (f:=Cy) hd0) ?_
      refine Drv.ig (x.getD 0 (0,0)).1 h00 (Cu hy0) ?_
      refine Drv.ig i (by omega) (As (f:=Km) hx) ?_
      refine Drv.ig 0 (by omega) (As (f:=Cy) hd0) ?_
      refine Drv.z ?_
      refine AK.while_ (ι:=Nat) 1 1 (fun j=>j≤x.length∧(x.take j).all (fun s=>Pz vs s==Fj vs x)=true) (fun j=>[(14,vi j),(13,vi (Fj vs x)),(12,vi i),(11,.sl (Dl ((g.tm.take i).map (Fj vs))) (.tok 0)),(3,.sl (Dl vs) .no),(4,.sl (Iy cs) .no),(7,.ptr 0 0 0)])
       (fun _=>⟨[[Bs g]],[((g.tm.take i).map (Fj vs)).length]⟩) (fun j=>x.length-j) ?_ 0 ⟨Nat.zero_le _,rfl⟩ ⟨rfl,A3 (hw0.trans hrw.symm),rfl,rfl,rfl,rfl,rfl,trivial⟩
      rintro j ⟨hj,hB⟩ JH
      refine AK.ev 100 rfl ?_
      refine AK.ix i (by omega) (As (f:=Km) hx) ?_
      refine AK.if_ (fun q2=>?_) (fun q2=>?_)
      ·have hjl:j<x.length:=by have:=of_decide_eq_true q2;omega
       obtain ⟨s,hs⟩:=Aa x hjl
       obtain ⟨yy,hyy,hw,c0,c1⟩:=Qw hv hvs.1 hrx (List.mem_of_getElem? hs)
       have hs0:=(hrx.t s (List.mem_of_getElem? hs)).1
       refine AK.db 0 ?_
       refine Drv.ig i (by omega) (As (f:=Km) hx) ?_
       refine Drv.ig j (by omega) (As (f:=Cy) hs) ?_
       refine Drv.ig s.1 hs0 (Cu hyy) ?_
       refine Drv.ig i (by omega) (As (f:=Km) hx) ?_
       refine Drv.ig j (by omega) (As (f:=Cy) hs) ?_
       refine Drv.z ?_
       have hcmp:(Pz vs s==Fj vs x)=!(IntKind.i64.wrap (yy+s.2) != Fj vs x):=by rw [hw];exact (Bool.not_not _).symm
       refine AK.if_ (fun q3=>?_) (fun q3=>?_)
       ·have:g.tm.all (Nm vs)=false:=Sr hx (by unfold Nm;exact Sr hs (by rw [hcmp,q3];rfl))
        refine AK.rz Tryz.func143 ?_
        rw [this];rfl
       ·exact JH (j+1) ⟨hjl,Ss hs hB (by rw [hcmp,q3];rfl)⟩ (by omega) _ _ ⟨vsx (by omega),rfl,rfl,rfl,rfl,rfl,rfl,trivial⟩ rfl rfl rfl
      ·have hje:j=x.length:=by have:=of_decide_eq_false q2;omega
       rw [hje,List.take_length] at hB
       have hsx:Nm vs x=true:=hB
       have htk:(g.tm.take (i+1)).map (Fj vs)=(g.tm.take i).map (Fj vs)++[Fj vs x]:=by rw [List.take_add_one,hx];simp
       refine AK.ev 100 rfl ?_
       refine AK.op (Ndo.append (res:=Dl ((g.tm.take (i+1)).map (Fj vs))) (tk:=[((g.tm.take (i+1)).map (Fj vs)).length]) rfl rfl rfl rfl rfl rfl rfl rfl rfl rfl rfl rfl rfl rfl (Ck _) (Qf _) rfl rfl rfl ?_ ?_ ?_) ?_
       ·rw [Ck];simp;omega
       ·rw [htk];simp [Dl]
       ·rw [Ck,htk,List.length_append];rfl
       exact IH (i+1) ⟨hlt,Ss hx hA hsx⟩ (by omega) _ _ ⟨vsx (by omega),rfl,rfl,rfl,rfl,trivial⟩ rfl rfl rfl
     have hie:i=g.tm.length:=by have:=of_decide_eq_false q;omega
     rw [hie,List.take_length] at hA
     obtain ⟨z0,z1,z2,z3,_⟩:=Agy hsb hvs.2.1 hA
     rw [Dy hy] at z1
     have hal:∀ (i:Nat) (a:Int),(g.tm.map (Fj vs))[i]?=some a→-2000000≤a∧a≤2000000:=fun i a ha=>by
      obtain ⟨x,hx⟩:=Aa g.tm (i:=i) (by have:=Ad ha;simpa using this)
      rw [Ti hx] at ha;cases ha
      have hr:=hrow x (List.mem_of_getElem? hx)
      obtain ⟨y0,_,_,b0,b1⟩:=Qw hv hvs.1 hr (V8 hr.ne).2
      exact ⟨b0,b1⟩
     have hatl:(g.tm.map (Fj vs)).length=g.vs.length+1:=by rw [List.length_map];exact z2
     rw [hA,hie,List.take_length]
     have hmono:=P1 (at_:=g.tm.map (Fj vs)) (ms:=g.ms) g.vs 0
     generalize hat:g.tm.map (Fj vs)=at_ at z0 z1 hal hatl hmono ⊢
     simp only [Bool.true_and]
     refine AK.ev 100 rfl ?_
     refine AK.while_ (ι:=Nat) 1 1 (fun i=>i≤g.vs.length∧G3 at_ g.ms 0 g.vs=G3 at_ g.ms i (g.vs.drop i)) (fun i=>[(15,vi i),(11,.sl (Dl at_) (.tok 0)),(4,.sl (Iy cs) .no),(7,.ptr 0 0 0)])
      (fun _=>⟨[[Bs g]],[at_.length]⟩) (fun i=>g.vs.length-i) ?_ 0 ⟨Nat.zero_le _,rfl⟩ ⟨rfl,rfl,rfl,rfl,trivial⟩
     rintro i ⟨hi2,hT⟩ IH2
     refine AK.ei (fun h=>?_) (fun h=>?_)
     ·have hlt:i<g.vs.length:=by have:=of_decide_eq_true h;omega
      obtain ⟨v,hvx⟩:=Aa g.vs hlt
      obtain ⟨a,ha⟩:=Aa at_ (i:=i) (by omega)
      obtain ⟨b,hb⟩:=Aa at_ (i:=i+1) (by omega)
      obtain ⟨m,hm⟩:=Aa g.ms (i:=i) (by omega)
      rw [R4 hvx,Dy ha,Dy hb,List.getD_eq_getElem?_getD,hm,Option.getD_some] at hT
      have hwi:IntKind.i64.wrap ((i:Int)+1)=((i+1:Nat):Int):=(Ac (by omega) (by omega)).trans (by omega)
      refine AK.db 0 ?_
      refine Drv.ig i (by omega) (Cu ha) ?_
      refine Cs (fun S'=>Ndo.index rfl rfl rfl rfl rfl rfl rfl rfl rfl (by rw [hwi];omega) (by rw [hwi];exact Cu hb)) ?_
      refine Bm 2 ?_
      by_cases hab:a≤b
      ·refine Drv.t false ?_ (hb:=decide_eq_false (by omega))
       refine Drv.go ?_
       refine Drv.ig i (by omega) (Cu ha) ?_
       refine Cs (fun S'=>Ndo.index rfl rfl rfl rfl rfl rfl rfl rfl rfl (by rw [hwi];omega) (by rw [hwi];exact Cu hb)) ?_
       refine Bm 2 ?_
       by_cases hab2:a=b
       ·refine Drv.t true ?_ (hb:=beq_iff_eq.2 hab2)
        refine Drv.go ?_
        refine Drv.ig i (by omega) (As (f:=Kn) hm) ?_
        refine Drv.z ?_
        refine AK.if_ (fun g3=>?_) (fun g3=>?_)
        ·have g3':m=false:=by have:(!m)=true:=g3;simpa using this
         refine AK.rz Tryz.func143 ?_
         rw [hT];unfold Il;rw [g3',beq_iff_eq.2 hab2,decide_eq_true hab];rfl
        ·have g3':m=true:=by have:(!m)=false:=g3;simpa using this
         exact IH2 (i+1) ⟨hlt,by rw [hT];unfold Il;rw [g3',beq_iff_eq.2 hab2,decide_eq_true hab];rfl⟩ (by omega) _ _ ⟨vsx (by omega),rfl,rfl,rfl,trivial⟩ rfl rfl rfl
       ·have hne:(a==b)=false:=by simpa using hab2
        refine Drv.t false ?_ (hb:=hne)
        refine Drv.go ?_
        refine Drv.z ?_
        refine AK.no ?_
        exact IH2 (i+1) ⟨hlt,by rw [hT];unfold Il;rw [hne,decide_eq_true hab];rfl⟩ (by omega) _ _ ⟨vsx (by omega),rfl,rfl,rfl,trivial⟩ rfl rfl rfl
      ·refine Drv.t true ?_ (hb:=decide_eq_true (by omega))
       refine Drv.go ?_
       refine Drv.z ?_
       refine AK.yes ?_
       refine AK.rz Tryz.func143 ?_
       rw [hT];unfold Il;rw [decide_eq_false hab];rfl
     have hie2:i=g.vs.length:=by have:=of_decide_eq_false h;omega
     rw [hie2,List.drop_length] at hT
     have hP:G3 at_ g.ms 0 g.vs=true:=hT
     have hmn:=hmono hP
     rw [hP]
     simp only [Bool.true_and]
     refine AK.ev 100 rfl ?_
     refine AK.while_ (ι:=Nat) 1 1 (fun i=>i≤g.vs.length∧Rk at_ cs 0 g.vs=Rk at_ cs i (g.vs.drop i)) (fun i=>[(16,vi i),(11,.sl (Dl at_) (.tok 0)),(4,.sl (Iy cs) .no),(7,.ptr 0 0 0)])
      (fun _=>⟨[[Bs g]],[at_.length]⟩) (fun i=>g.vs.length-i) ?_ 0 ⟨Nat.zero_le _,rfl⟩ ⟨rfl,rfl,rfl,rfl,trivial⟩
     rintro i ⟨hi3,hU⟩ IH3
     refine AK.ei (fun h3=>?_) (fun h3=>?_)
     ·have hlt:i<g.vs.length:=by have:=of_decide_eq_true h3;omega
      obtain ⟨v,hvx⟩:=Aa g.vs hlt
      obtain ⟨a,ha⟩:=Aa at_ (i:=i) (by omega)
      obtain ⟨b,hb⟩:=Aa at_ (i:=i+1) (by omega)
      have hd:=Vq hP i hi3
      rw [R4 hvx,Bool.and_eq_true,Dy ha,Dy hb] at hd
      have hab:a≤b:=by
       have:=hd.1
       simp only [Il,Bool.and_eq_true,decide_eq_true_eq] at this
       exact this.1
      have l0:=(hmn i (by omega) (by omega)).1
      have l1:=(hmn (i+1) (by omega) (by omega)).2
      rw [Dy ha] at l0
      rw [Dy hb] at l1
      obtain ⟨A,rfl⟩:∃ A:Nat,a=A:=⟨a.toNat,by omega⟩
      obtain ⟨C,rfl⟩:∃ C:Nat,b=C:=⟨b.toNat,by omega⟩
      rw [Aio hvx,Dy ha,Dy hb] at hU
      have hwi:IntKind.i64.wrap ((i:Int)+1)=((i+1:Nat):Int):=(Ac (by omega) (by omega)).trans (by omega)
      have hcH:Iw cs v A C=((cs.take C).drop A).all (Rz v):=rfl
      refine AK.ix i (by omega) (Cu ha) ?_
      refine AK.while_ (ι:=Nat) 1 1 (fun k=>A≤k∧k≤C∧((cs.take k).drop A).all (Rz v)=true) (fun k=>[(17,vi k),(16,vi i),(11,.sl (Dl at_) (.tok 0)),(4,.sl (Iy cs) .no),(7,.ptr 0 0 0)])
       (fun _=>⟨[[Bs g]],[at_.length]⟩) (fun k=>C-k) ?_ A ⟨Nat.le_refl _,by omega,by rw [List.drop_eq_nil_of_le (by rw [List.length_take];omega)];rfl⟩ ⟨rfl,rfl,rfl,rfl,rfl,trivial⟩
      rintro k ⟨k0,k1,hB⟩ KH
      refine AK.ev 100 rfl ?_
      refine AK.ix (IntKind.i64.wrap ((i:Int)+1)) (by rw [hwi];omega) (by rw [hwi];exact Cu hb) ?_
      refine AK.if_ (fun g4=>?_) (fun g4=>?_)
      ·have hk:k<C:=by have:=of_decide_eq_true g4;omega
       obtain ⟨c,hc⟩:=Aa cs (i:=k) (by omega)
       refine AK.db 0 ?_
       refine Drv.ig i (by omega) (As (f:=D4) hvx) ?_
       refine Drv.ig k (by omega) (As (f:=Fq) hc) ?_
       refine Ax (Anb v c) ?_
       refine Drv.z ?_
       cases hh:Rz v c with
       | false =>
         refine AK.yes ?_
         refine AK.rz Tryz.func143 ?_
         rw [hU,hcH,Sr (Aty hc k0 hk) hh];rfl
       | true =>
         refine AK.no ?_
         exact KH (k+1) ⟨by omega,hk,Alm hc k0 hB hh⟩ (by omega) _ _ ⟨vsx (by omega),rfl,rfl,rfl,rfl,trivial⟩ rfl rfl rfl
      ·have hk:k=C:=by have:=of_decide_eq_false g4;omega
       rw [hk] at hB
       exact IH3 (i+1) ⟨hlt,by rw [hU,hcH,hB];rfl⟩ (by omega) _ _ ⟨vsx (by omega),rfl,rfl,rfl,trivial⟩ rfl rfl rfl
     ·have hie3:i=g.vs.length:=by have:=of_decide_eq_false h3;omega
      refine AK.rz Tryz.func143 ?_
      rw [hU,hie3,List.drop_length];rfl
end Go.V
namespace Go.V
open Go
section
variable {X:Cx}{B:Bx}{E E1:Env}{S S1:St}{w w':World}{F:B3}{a:Act}{N:Nat}{R:AE→St→Prop}{ops:Array Oper}{i:Nat}{o:Oper}
def Runs (X:Cx)(f:FuncId)(args:List AV)(S:St)(P:AV→St→Prop):Prop :=
 Kh X.P f∧ACalls X f args S fun e S'=>∃ r,e=.ret r∧P r S'
theorem Runs.mk {f:FuncId}{fn:Func}{c:Code}{args:List AV}{P:AV→St→Prop}(hf:X.P.funcs[f]?=some fn)(hb:fn.body=some c)(hl:Nat.ble args.length fn.ntmps=true)(hnm:(fn.name == "runtime.NumGoroutine")=false)
 (h:AK X ⟨f,fn,S.boxes.length,S.toks.length⟩ [.code c] (Mn 0 args) S fun e S'=>∃ r,e=.ret r∧P r S'):Runs X f args S P :=
 ⟨⟨fn,hf,hnm,by rw [hb];rfl⟩,Gy (n:=S.boxes.length) (m:=S.toks.length) (hh:=fun C S' hx=>by obtain ⟨r,hx,_⟩:=hx;cases hx) hf hb hl rfl rfl h⟩
theorem Aci {c:Call}{p q:Operand}{t tt tx e e':Nat}{y yx ye:Ty}{rows new:List (List AV)}{sp:Sp}{n:Nat}{res:List (List AV)}{tk:List Nat}(hn:rows.length=n)(hl:Gj ye.size rows=true)(hl':Gj ye.size new=true)(hc:Ga new=true)
 (hb:rows.length+new.length≤100000000000)(hres:rows++new=res)(htk:S.toks.set t (rows.length+new.length)=tk)(ho:ops[i]?=some o:=by rfl)(hw:A2 ops F o=some true:=by rfl)(hop:o.op=.call c:=by rfl)(hcal:c.callee=.builtin .append:=by rfl)
 (hargs:c.args.toList=[p,q]:=by rfl)(htys:c.argTypes.toList=[tt,tx]:=by rfl)(hp:Co X F p=some (.sl rows (.tok t)):=by rfl)(hq:Co X F q=some (.sl new sp):=by rfl)(hy:X.ty tt=some y:=by rfl)(hyk:y.k=.slc e:=by rfl)(hye:X.ty e=some ye:=by rfl)
 (hyx:X.ty tx=some yx:=by rfl)(hyxk:yx.k=.slc e':=by rfl)(hS:S.toks[t]?=some n:=by rfl):Ndo X N ops i o F (.sl res (.tok t)) S ⟨S.boxes,tk⟩:=by
 cases new with
 | nil =>
   have h:=Ach (X:=X) (N:=N) (S:=S) ho hw hop hcal hargs htys hp hq hy hyk hye hyx hyxk
   rw [List.append_nil] at hres
   subst hres;subst htk
   have:S.toks.set t (rows.length+([]:List (List AV)).length)=S.toks:=by
    rw [List.length_nil,Nat.add_zero,hn]
    obtain ⟨hlt,he⟩:=List.getElem?_eq_some_iff.1 hS
    rw [← he,List.set_getElem_self]
   rw [this]
   exact h
 | cons r l=>exact Ndo.append ho hw hop hcal hargs htys hp hq hy hyk hye hyx hyxk hS hn hl hl' hc (by simp) hb hres htk
end
end Go.V
namespace Go.V
open Go Go.Proofs
def Y4 (x:List (Bool × Int)):Int:=x.length
def Jt (c:Cf)(i:Nat):List Int:=[0]++c.vars++(c.cells.take i).map Y4
theorem Q7 {c:Cf}{i:Nat}{x:List (Bool × Int)}(h:c.cells[i]?=some x):Jt c (i+1)=Jt c i++[Y4 x]:=by
 unfold Jt;rw [List.take_add_one,h];simp
theorem Yd (c:Cf)(i:Nat):(Jt c i).length≤1+c.vars.length+c.cells.length:=by
 unfold Jt;simp;omega
def Vu (size:Int)(nv:Nat)(vs:List Int):Nat→List Sg→List (List (Bool × Int))→Bool
 | i,g::gs,x::xs=>Ad6 size (Re nv i) g vs x&&Vu size nv vs (i+1) gs xs
 | _,_,_=>true
def App (n:Nd)(a:Ab)(c:Cf):Bool:=Rv a.n a.d (Jt c c.cells.length)&&Vu (G4 n) (Aq n 31).length (Jt c c.cells.length) 0 a.sg c.cells
def V3 (n:Nd)(a:Ab)(c:Cf):Bool:=Mm n a&&(!Ft a.n a.d&&(Sv n c&&App n a c))
theorem Z2 {size:Int}{nv:Nat}{vs:List Int}{i:Nat}{gs:List Sg}{xs:List (List (Bool × Int))}{g:Sg}{x:List (Bool × Int)}(h:gs[i]?=some g)(h':xs[i]?=some x) :
 Vu size nv vs i (gs.drop i) (xs.drop i)=(Ad6 size (Re nv i) g vs x&&Vu size nv vs (i+1) (gs.drop (i+1)) (xs.drop (i+1))):=by rw [An h,An h'];rfl
theorem Agu {n:Nd}{c:Cf}(h:Sv n c=true):c.cells.length=(Aq n 32).length:=by
 have h':Wy _ _ _ _ _ c=true:=h
 unfold Wy at h'
 simp only [Bool.and_eq_true,beq_iff_eq] at h'
 omega
theorem Ak7 {n:Nd}{a:Ab}(h:Aet n a=true)(h0:Ft a.n a.d=false):a.sg.length=(Aq n 32).length:=by
 have h':Aaq (G4 n) (Aq n 31).length (Aq n 32).length a=true:=h
 unfold Aaq at h'
 rw [if_neg (by simp [h0])] at h'
 simp only [Bool.and_eq_true,beq_iff_eq] at h'
 omega
theorem Ak8 {n:Nd}{a:Ab}(h:Aet n a=true):(Ft a.n a.d&&((a.sg.length:Int)==0))=Ft a.n a.d:=by
 have h':Aaq (G4 n) (Aq n 31).length (Aq n 32).length a=true:=h
 unfold Aaq at h'
 cases h0:Ft a.n a.d with
 | false=>rfl
 | true=>rw [if_pos h0] at h';rw [h'];rfl
theorem Aov (l:List Int):Ga (Dl l)=true:=Aas (f:=fun m=>[vi m]) (fun _=>rfl) l
theorem Ane (c:Cf)(hc:CfOk c):Pure X 141 [cf c] (.sl (Dl (Jt c c.cells.length)) .no):=by
 have hv:=hc.vars
 have hcl:=hc.cells
 have hlen:((Ha c.cells).length:Int)=c.cells.length:=by rw [M4]
 refine Pure.run Tryz.func141 ?_
 refine AK.mint (d:=5) rfl rfl rfl ?_
 refine AK.op (Aci (res:=Dl (Jt c 0)) (tk:=[(Jt c 0).length]) rfl rfl (Qf c.vars) (Aov c.vars) ?_ ?_ ?_) ?_
 ·rw [Ck];simp;omega
 ·simp [Dl,Jt]
 ·rw [Ck];simp [Jt];omega
 refine AK.while_ (ι:=Nat) 1 1 (fun i=>i≤c.cells.length) (fun i=>[(4,vi i),(3,.sl (Dl (Jt c i)) (.tok 0)),(1,.ptr 0 0 0)]) (fun i=>⟨[[Jv c]],[(Jt c i).length]⟩) (fun i=>c.cells.length-i) ?_ 0 (Nat.zero_le _) ⟨rfl,rfl,rfl,trivial⟩
 intro i hi IH
 refine AK.ei (fun h=>?_) (fun h=>?_)
 ·skip
  have hlt:i<c.cells.length:=by have:=of_decide_eq_true h;(rw [hlen] at this;omega)
  obtain ⟨x,hx⟩:=Aa c.cells hlt
  have hxl:((Iy x).length:Int)=Y4 x:=by simp [Iy,Y4]
  have hvl:=Yd c i
  refine AK.ix i (by omega) (As (f:=Lr) hx) ?_
  refine AK.op (Ndo.append (res:=Dl (Jt c (i+1))) (tk:=[(Jt c (i+1)).length]) rfl rfl rfl rfl rfl rfl rfl rfl rfl rfl rfl rfl rfl rfl (Ck _) (Qf _) rfl rfl rfl ?_ ?_ ?_) ?_
  ·rw [Ck];simp;omega
  ·rw [Q7 hx,← hxl];simp [Dl]
  ·rw [Ck,Q7 hx,List.length_append];rfl
  exact IH (i+1) hlt (by omega) _ _ ⟨vsx (by omega),rfl,rfl,trivial⟩ rfl rfl rfl
 ·have hie:i=c.cells.length:=by have:=of_decide_eq_false h;rw [hlen] at this;omega
  refine AK.rz Tryz.func141 ?_
  rw [hie]
theorem Amy (n:Nd)(hkl:n.kids.length≤4500)(a:Ab)(ha:AbOk a)(c:Cf)(hc:CfOk c)(hA:Aet n a=true)(h0:Ft a.n a.d=false)(hC:Sv n c=true):Pure X 86 [.agg (Rn n),ab a,cf c] (vb (App n a c)):=by
 have hv:=hc.vars
 have hcl:=hc.cells
 have l2:((Ci (Aq n 32)).length:Int)=(Aq n 32).length:=by rw [B7]
 have hd2:=Gz n 32
 have na:=Agu hC
 have sa:=Ak7 hA h0
 obtain ⟨z0,z1⟩:=Tp hkl
 refine Pure.run Tryz.func86 ?_
 refine AK.pc (Ane c hc) ?_
 refine AK.pc (Afr a.n a.d (Jt c c.cells.length)) ?_
 unfold App
 generalize Jt c c.cells.length=V
 cases hf:Rv a.n a.d V with
 | false =>
   refine AK.yes ?_
   exact AK.rz Tryz.func86 rfl
 | true =>
   refine AK.no ?_
   refine AK.while_ (ι:=Nat) 3 0 (fun i=>i≤(Aq n 32).length∧Vu (G4 n) (Aq n 31).length V 0 a.sg c.cells=Vu (G4 n) (Aq n 31).length V i (a.sg.drop i) (c.cells.drop i)) (fun i=>[(8,vi i),(7,.sl (Dl V) .no),(3,.ptr 0 0 0),(4,.ptr 1 0 0),(5,.ptr 2 0 0)])
    (fun _=>⟨[[Rn n],[Ju a],[Jv c]],[]⟩) (fun i=>(Aq n 32).length-i) ?_ 0 ⟨Nat.zero_le _,rfl⟩ ⟨rfl,rfl,rfl,rfl,rfl,trivial⟩
   rintro i ⟨hi,hT⟩ IH
   refine AK.ei (fun h=>?_) (fun h=>?_)
   ·have hlt:i<(Aq n 32).length:=by have:=of_decide_eq_true h;rw [l2] at this;omega
    obtain ⟨g,hg⟩:=Aa a.sg (i:=i) (by omega)
    obtain ⟨x,hx⟩:=Aa c.cells (i:=i) (by omega)
    have hseg:=Am7 (G4 n) (IntKind.i64.wrap (IntKind.i64.wrap (1+((Aq n 31).length:Int))+i)) (by omega) (by omega) g (ha.rows g (List.mem_of_getElem? hg)) V x (hc.rows x (List.mem_of_getElem? hx))
    rw [K4 hkl (by omega)] at hseg
    have hlen:=Adl n i
    rw [K4 hkl (by omega)] at hlen
    rw [Z2 hg hx] at hT
    refine AK.db 0 ?_
    refine Ax (Afv n) ?_
    refine Ax hlen ?_
    refine Drv.ig i (by omega) (As (f:=Bs) hg) ?_
    refine Drv.ig i (by omega) (As (f:=Lr) hx) ?_
    refine Ax hseg ?_
    refine Drv.z ?_
    cases hb:Ad6 (G4 n) (Re (Aq n 31).length i) g V x with
    | false =>
      refine AK.yes ?_
      refine AK.rz Tryz.func86 ?_
      rw [hT,hb];rfl
    | true =>
      refine AK.no ?_
      exact IH (i+1) ⟨hlt,by rw [hT,hb];rfl⟩ (by omega) _ _ ⟨vsx (by omega),rfl,rfl,rfl,rfl,trivial⟩ rfl rfl rfl
   ·have hie:i=(Aq n 32).length:=by have:=of_decide_eq_false h;rw [l2] at this;omega
    refine AK.rz Tryz.func86 ?_
    rw [hT,hie,← na,List.drop_length]
    cases a.sg.drop c.cells.length<;>rfl
theorem Amx (n:Nd)(hn:wN n≤100000000)(a:Ab)(ha:AbOk a)(c:Cf)(hc:CfOk c):Pure X 42 [nd n,ab a,cf c] (vb (V3 n a c)):=by
 refine Pure.run Tryz.func42 ?_
 refine AK.dn 0 2 ?_
 refine Drv.pc (Aqg n hn a ha) ?_
 unfold V3
 cases hA:Mm n a with
 | false =>
   refine Drv.t false ?_
   refine Bm 4 ?_
   refine Drv.t false ?_
   refine Bm 4 ?_
   refine Drv.t false ?_
   refine Drv.go ?_
   refine Drv.z ?_
   exact AK.rz Tryz.func42 rfl
 | true =>
   have hA':=hA
   simp only [Mm,Bool.and_eq_true] at hA'
   obtain ⟨fp,_,hw,hne,hkl⟩:=Fi hA'.1
   refine Drv.t true ?_
   refine Bm 1 ?_
   refine Drv.pc (Auy a) ?_
   refine Bm 2 ?_
   cases h0:Ft a.n a.d with
   | true =>
     refine Drv.t false ?_ (hb:=by simp [h0])
     refine Bm 4 ?_
     refine Drv.t false ?_
     refine Drv.go ?_
     refine Drv.z ?_
     exact AK.rz Tryz.func42 rfl
   | false =>
     refine Drv.t true ?_ (hb:=by simp [h0])
     refine Bm 2 ?_
     refine Drv.pc (Ajk n hn c hc) ?_
     refine Bm 1 ?_
     unfold Aax
     rw [hA'.1,Bool.true_and]
     cases hC:Sv n c with
     | false =>
       refine Drv.t false ?_
       refine Drv.go ?_
       refine Drv.z ?_
       exact AK.rz Tryz.func42 rfl
     | true =>
       refine Drv.t true ?_
       refine Drv.go ?_
       refine Ax (Afw n hA'.1) ?_
       refine Ax (Amy n hkl a ha c hc hA'.2 h0 hC) ?_
       refine Drv.z ?_
       exact AK.rz Tryz.func42 rfl
theorem Anj (n:Nd)(hn:wN n≤100000000)(hnum:PrI n)(a:Ab)(ha:AbOk a)(c:Cf)(hc:CfOk c)(hvs:c.vars.length≤100000000):Pure X 44 [nd n,ab a,cf c] (vb (V3 n a c)):=by
 have hv:=hc.vars
 have hcl:=hc.cells
 have hlen:((Ha c.cells).length:Int)=c.cells.length:=by rw [M4]
 have hsl:((Nv a.sg).length:Int)=a.sg.length:=by simp [Nv]
 have hq:=Ajt Ab1 n hn hnum a ha
 have hnt:=Zw a
 refine Pure.run Tryz.func44 ?_
 unfold V3
 cases hA:Mm n a with
 | false =>
   rw [hA,if_neg (by simp)] at hq
   refine AK.pc hq ?_
   refine AK.gy ?_
   refine AK.gy ?_
   refine AK.yes ?_
   exact AK.rz Tryz.func44 rfl
 | true =>
   have hA':=hA
   simp only [Mm,Bool.and_eq_true] at hA'
   obtain ⟨fp,_,hw,hne,hkl⟩:=Fi hA'.1
   obtain ⟨z0,z1⟩:=Tp hkl
   have hd2:=Gz n 32
   rw [hA,if_pos rfl] at hq
   rw [Ak8 hA'.2] at hnt
   refine AK.pc hq ?_
   refine AK.gn ?_
   refine AK.pc (Anp n hA'.1 c hc) ?_
   cases hC:Sv n c with
   | false =>
     refine AK.gy ?_
     refine AK.yes ?_
     refine AK.rz Tryz.func44 ?_
     cases Ft a.n a.d<;>rfl
   | true =>
     have na:=Agu hC
     refine AK.gn ?_
     refine AK.pc hnt ?_
     cases h0:Ft a.n a.d with
     | true =>
       refine AK.yes ?_
       exact AK.rz Tryz.func44 rfl
     | false =>
       have sa:=Ak7 hA'.2 h0
       refine AK.no ?_
       refine AK.mint (d:=33) rfl rfl rfl ?_
       refine AK.op (Aci (res:=Dl (Jt c 0)) (tk:=[(Jt c 0).length]) rfl rfl (Qf c.vars) (Aov c.vars) ?_ ?_ ?_) ?_
       ·rw [Ck];simp;omega
       ·simp [Dl,Jt]
       ·rw [Ck];simp [Jt];omega
       refine AK.while_ (ι:=Nat) 3 1 (fun i=>i≤c.cells.length) (fun i=>[(40,vi i),(39,vi c.cells.length),(38,.sl (Ha c.cells) .no),(9,.sl (Dl (Jt c i)) (.tok 0)),(7,.cptr (Mg n)),(4,.ptr 1 0 0),(5,.ptr 2 0 0)])
        (fun i=>⟨[[Af n],[Ju a],[Jv c]],[(Jt c i).length]⟩) (fun i=>c.cells.length-i) ?_ 0 (Nat.zero_le _) ⟨rfl,A3 hlen,rfl,rfl,rfl,rfl,rfl,trivial⟩
       intro i hi IH
       refine AK.ei (fun h=>?_) (fun h=>?_)
       ·skip
        have hlt:i<c.cells.length:=by have:=of_decide_eq_true h;omega
        obtain ⟨x,hx⟩:=Aa c.cells hlt
        have hxl:((Iy x).length:Int)=Y4 x:=by simp [Iy,Y4]
        have hvl:=Yd c i
        refine AK.ix i (by omega) (As (f:=Lr) hx) ?_
        refine AK.op (Ndo.append (res:=Dl (Jt c (i+1))) (tk:=[(Jt c (i+1)).length]) rfl rfl rfl rfl rfl rfl rfl rfl rfl rfl rfl rfl rfl rfl (Ck _) (Qf _) rfl rfl rfl ?_ ?_ ?_) ?_
        ·rw [Ck];simp;omega
        ·rw [Q7 hx,← hxl];simp [Dl]
        ·rw [Ck,Q7 hx,List.length_append];rfl
        exact IH (i+1) hlt (by omega) _ _ ⟨vsx (by omega),rfl,rfl,rfl,rfl,rfl,rfl,trivial⟩ rfl rfl rfl
       have hie:i=c.cells.length:=by have:=of_decide_eq_false h;omega
       have hvl:=Yd c c.cells.length
       rw [hie]
       unfold App
       generalize Jt c c.cells.length=V at hvl ⊢
       refine AK.ev 100 rfl ?_
       refine AK.pc (Af2 a.n a.d V (by omega)) ?_
       cases hf:Rv a.n a.d V with
       | false =>
         refine AK.yes ?_
         exact AK.rz Tryz.func44 rfl
       | true =>
         refine AK.no ?_
         refine AK.while_ (ι:=Nat) 3 1 (fun i=>i≤a.sg.length∧Vu (G4 n) (Aq n 31).length V 0 a.sg c.cells=Vu (G4 n) (Aq n 31).length V i (a.sg.drop i) (c.cells.drop i)) (fun i=>[(58,vi i),(57,vi a.sg.length),(56,.sl (Nv a.sg) .no),(9,.sl (Dl V) (.tok 0)),(7,.cptr (Mg n)),(5,.ptr 2 0 0)])
          (fun _=>⟨[[Af n],[Ju a],[Jv c]],[V.length]⟩) (fun i=>a.sg.length-i) ?_ 0 ⟨Nat.zero_le _,rfl⟩ ⟨rfl,A3 hsl,rfl,rfl,rfl,rfl,trivial⟩
         rintro i ⟨hi,hT⟩ IH
         refine AK.ei (fun h=>?_) (fun h=>?_)
         ·have hlt:i<a.sg.length:=by have:=of_decide_eq_true h;omega
          obtain ⟨g,hg⟩:=Aa a.sg (i:=i) (by omega)
          obtain ⟨x,hx⟩:=Aa c.cells (i:=i) (by omega)
          have hseg:=Anz (G4 n) (IntKind.i64.wrap (IntKind.i64.wrap (1+((Aq n 31).length:Int))+i)) (by omega) (by omega) g (ha.rows g (List.mem_of_getElem? hg)) V (by omega) x (hc.rows x (List.mem_of_getElem? hx))
          rw [K4 hkl (by omega)] at hseg
          have hls:=Adz n i
          rw [K4 hkl (by omega)] at hls
          rw [Z2 hg hx] at hT
          refine AK.ix i (by omega) (As (f:=Bs) hg) ?_
          refine AK.db 0 ?_
          refine Ax (Af4 n) ?_
          refine Ax hls ?_
          refine Drv.ig i (by omega) (As (f:=Lr) hx) ?_
          refine Ax hseg ?_
          refine Drv.z ?_
          cases hb:Ad6 (G4 n) (Re (Aq n 31).length i) g V x with
          | false =>
            refine AK.yes ?_
            refine AK.rz Tryz.func44 ?_
            rw [hT,hb];rfl
          | true =>
            refine AK.no ?_
            exact IH (i+1) ⟨hlt,by rw [hT,hb];rfl⟩ (by omega) _ _ ⟨vsx (by omega),rfl,rfl,rfl,rfl,rfl,trivial⟩ rfl rfl rfl
         ·have hie:i=a.sg.length:=by have:=of_decide_eq_false h;omega
          refine AK.rz Tryz.func44 ?_
          rw [hT,hie,List.drop_length]
          rfl
theorem Aof (n:Nd)(a:Ab)(c:Cf)(hpn:PrI n)(hln:LnI n)(hla:AbLn a)(hlc:CfLn c):Pure X 9 [nd n,ab a,cf c] (vb true):=by
 refine Pure.run Tryz.func9 ?_
 refine AK.pc (Aym n hln 1048576 (by omega) (by omega)) ?_
 refine AK.if_ (fun g=>?_) (fun g=>?_)
 ·exact AK.rz Tryz.func9 rfl
 have g1:=I7 (show 0≤Ef (swN n) 1048576 by have:=of_decide_eq_false g;omega)
 refine AK.pc (Avz a hla (Ef (swN n) 1048576) (by omega) (by omega)) ?_
 refine AK.if_ (fun g2=>?_) (fun g2=>?_)
 ·exact AK.rz Tryz.func9 rfl
 have g3:=I7 (show 0≤Ef (Agi a) (Ef (swN n) 1048576) by have:=of_decide_eq_false g2;omega)
 refine AK.pc (Av1 c hlc (Ef (Agi a) (Ef (swN n) 1048576)) (by omega) (by omega)) ?_
 refine AK.if_ (fun g4=>?_) (fun g4=>?_)
 ·exact AK.rz Tryz.func9 rfl
 have g5:=I7 (show 0≤Ef (Agj c) (Ef (Agi a) (Ef (swN n) 1048576)) by have:=of_decide_eq_false g4;omega)
 have w1:=Axz.1 n
 have c1:=Lf n
 have ha:AbOk a:=Aoz (by omega)
 have hsw:Agj c≤1048576:=by omega
 unfold Agj at hsw
 have hc:CfOk c:=⟨by omega,by omega,fun x hx=>by have:=Avq hx;omega⟩
 refine AK.db 0 ?_
 refine Ax (Av4 n (by omega)) ?_
 refine Ax (Agl a ha) ?_
 refine Ax (Agm c hc) ?_
 refine Ax (Amx n (by omega) a ha c hc) ?_
 refine Drv.z ?_
 refine AK.pc (Av4 n (by omega)) ?_
 refine AK.pc (Agl a ha) ?_
 refine AK.pc (Agm c hc) ?_
 refine AK.pc (Anj n (by omega) hpn a ha c hc (by omega)) ?_
 refine AK.no ?_ (ht:=by simp)
 refine AK.db 0 ?_
 refine Ax (Av4 n (by omega)) ?_
 refine Ax (Ayl n (by omega)) ?_
 refine Drv.z ?_
 refine AK.no ?_
 refine AK.db 0 ?_
 refine Ax (Agl a ha) ?_
 refine Ax (Avu a ha) ?_
 refine Drv.z ?_
 refine AK.no ?_
 refine AK.db 0 ?_
 refine Ax (Agm c hc) ?_
 refine Ax (Avw c hc) ?_
 refine Drv.z ?_
 refine AK.no ?_
 exact AK.rz Tryz.func9 rfl
end Go.V
namespace Go.Proofs.YtojhghmilenfkaaGreatDoor.absHas
open Go Go.Proofs Go.V Go.ChangeShapes Go.WideShapes Go.ChangeAt Go.RowKit
set_option maxRecDepth 100000
theorem Ali (H:Type)(enc:TypeId × Value→H)(W:World)(base:Nat)(args:Array Value)(ds gs:List (DataW H))(before:List MemPlace)
 (hval:∀ (j:Nat) t v,Tryz.f9.params[j]?=some t→args[j]?=some v→Value.okWide Tryz.prog W .any base t v)
 (hW:DataW.Whole enc Tryz.prog Tryz.f9.params.toList Rows.fnExactAbsHasSpec.vars false W args.toList ds gs before)(hL:laidMetH Tryz.prog Rows.fnExactAbsHasRow.laid W)(hs:W.ShapedOpen Tryz.prog) :
 Calls Tryz.prog 9 args W fun e W'=>∃ v,e=.returned v∧Rows.fnExactAbsHasSpec.post enc Tryz.prog Tryz.f9 false true false false W args v W':=by
 have hW':=hW
 obtain ⟨p,q,hA0,_,_,_,_⟩:=hW
 have hA:DataW.TrodAll enc Tryz.prog W 0 (fun _=>true) true [24,68,59] args.toList ds p:=hA0
 obtain ⟨v0,vs0,d0,ds0,p0,q0,hargs,rfl,rfl,h0,r0⟩:=trodAll_cons hA
 obtain ⟨v1,vs1,d1,ds1,p1,q1,hargs1,rfl,rfl,h1,r1⟩:=trodAll_cons r0
 obtain ⟨v2,vs2,d2,ds2,p2,q2,hargs2,rfl,rfl,h2,r2⟩:=trodAll_cons r1
 obtain ⟨rfl,rfl,rfl⟩:=trodAll_nil r2
 subst hargs2
 subst hargs1
 have ha0:args[0]?=some v0:=by rw [← Array.getElem?_toList,hargs];rfl
 have ha1:args[1]?=some v1:=by rw [← Array.getElem?_toList,hargs];rfl
 have ha2:args[2]?=some v2:=by rw [← Array.getElem?_toList,hargs];rfl
 obtain ⟨n,n1,n2,n3⟩:=Aqe (hval 0 24 v0 rfl ha0) h0
 obtain ⟨a,a1,a2,a3⟩:=Ati (hval 1 68 v1 rfl ha1) h1
 obtain ⟨c,c2,c3⟩:=Apf (hval 2 59 v2 rfl ha2) h2
 have hR:RelL W args.toList [nd n,ab a,cf c]:=by rw [hargs];exact .cons n3 (.cons a3 (.cons c3 .nil))
 refine (Arq (Aof n a c n1 n2 a1 c2) hs hL hR).mono fun r W' ⟨he,hb⟩=>?_
 refine ⟨_,he,Ajo Amg (fun t ht=>?_) (fun n hn=>?_) hW' hb (fun hg=>?_) rfl Tryz.underlying4⟩
 ·have h:t∈[24,68,59]:=ht
  simp only [List.mem_cons,List.not_mem_nil,or_false] at h
  rcases h with rfl | rfl | rfl
  ·exact ⟨by kernel_rfl,of_decide_eq_true (by kernel_rfl)⟩
  ·exact ⟨by kernel_rfl,of_decide_eq_true (by kernel_rfl)⟩
  ·exact ⟨by kernel_rfl,of_decide_eq_true (by kernel_rfl)⟩
 ·have h:n∈["loop.example/g00093/impl.condWords", "loop.example/g00093/impl.none"]:=hn
  simp only [List.mem_cons,List.not_mem_nil,or_false] at h
  rcases h with rfl | rfl
  ·exact ⟨_,_,Ape,Atv,Atu,Att⟩
  ·exact ⟨_,_,Aqf,Aus,Aur,Auq⟩
 ·obtain ⟨g1,g2,rfl⟩:=Ahf hg;rfl
set_option maxRecDepth 100000
theorem ab {a b:Bool}(h:a=true)(g:b=true):(a&&b)=true:=by rw [h,g];rfl
set_option maxHeartbeats 100000000 in
theorem Ats:joinedFacts Tryz.pinned.checked.prog 9 Tryz.f9 (OpenSpec.ofChange Rows.fnExactAbsHasSpec).bare Rows.fnExactAbsHasRow=true:=by
 unfold joinedFacts
 iterate 31 refine ab ?_ ?_
 all_goals as_aux_lemma=>kernel_rfl
set_option maxRecDepth 100000
theorem Ami (os:Os):laidMet Tryz.prog Rows.fnExactAbsHasRow.laid ((Amh os).forCall (fun _ _=>0) ⟨#[],#[Aqd,Apb,Apd],[]⟩).memory:=laidMet_of_run' 8 (by kernel_rfl) (by kernel_rfl)
theorem reads (os:Os){H:Type}(enc:TypeId × Value→H):∃ places,DataW.whole enc Tryz.prog ((Amh os).forCall (fun _ _=>0) ⟨#[],#[Aqd,Apb,Apd],[]⟩).memory Tryz.f9.params.toList Rows.fnExactAbsHasSpec.vars false #[Aqd,Apb,Apd].toList 8=some ([.agg [.lit (.int .i64 0),.lit (.string []),.lit (.int .i64 0),.nil],.agg [.agg [.lit (.int .i64 0),.nil],.nil],.agg [.lit (.int .i64 0),.nil,.nil,.lit (.int .i64 0),.lit (.int .i64 0),.lit (.int .i64 0),.lit (.int .i64 0),.lit (.int .i64 0)]],[.agg (condB.map fun b=>.lit (.string b)),.agg [.lit (.int .i64 1),.lit (.int .i64 0)]],places) :=
 ⟨MemPlace.row ⟨1,0,none⟩ 6++MemPlace.row ⟨0,0,none⟩ 2,by kernel_rfl⟩
theorem Aun (os:Os)(started:os.Started)(H:Type)(enc:TypeId × Value→H)(F:Stop.Interp) :
 ReturnsInHanded {} Tryz.checked os 9 .any ((OpenSpec.ofChange Rows.fnExactAbsHasSpec).preRow enc Tryz.prog Tryz.f9 Rows.fnExactAbsHasRow.domain false Rows.fnExactAbsHasRow.laid)
  (((OpenSpec.ofChange Rows.fnExactAbsHasSpec).at F).post enc Tryz.prog Tryz.f9 false true false false):=by
 obtain ⟨places,hx⟩:=reads os enc
 refine returnsInHanded_of_row (C:=Tryz.checked) (s:=OpenSpec.ofChange Rows.fnExactAbsHasSpec) Ayh started (by kernel_rfl) Tryz.func9
  (witness_row_at (enc:=enc) (C:=Tryz.checked) false (Amh os) #[Aqd,Apb,Apd] rfl (by kernel_rfl) (by kernel_rfl) (by kernel_rfl)
    (OpenSpec.preRow_of_cond 8 hx (by kernel_rfl) (fun k hk=>by cases hk) (by kernel_rfl) (Ami os))) ?_
 intro W base args ds gs before hval hW _ _ _ hL hs _
 exact Ali H enc W base args ds gs before hval hW hL hs
theorem Ayk:Rows.FnExactAbsHasSaid :=
 OpenClaim.holds_of_cond 9 Tryz.f9 rfl rfl rfl rfl rfl rfl rfl ⟨rfl,rfl,rfl,rfl,rfl⟩ rfl rfl rfl rfl rfl (by kernel_rfl) Tryz.func9 Ats
  (of_decide_eq_true (by kernel_rfl)) (by unfold Func.isWrapper;first | (rw [if_pos (by decide +kernel)];kernel_rfl) | (rw [if_neg (by decide +kernel)];exact ⟨rfl,rfl⟩))
  (fun os started H enc _ F=>by rw [OpenClaim.pre_eq_preRow];exact Aun os started H enc F)
theorem plain (f:FuncId)(fn:Func)(hf:Tryz.pinned.checked.prog.funcNamed "loop.example/g00093/laws.FnExactAbsHas" = some f)(hfn:Tryz.pinned.checked.prog.funcs[f]?=some fn) :
 true=Tryz.pinned.checked.prog.looks []∧∀ (j:Nat) t,fn.params[j]?=some t→Tryz.pinned.checked.prog.wantsStandIn t=false:=by
 obtain rfl:f=9:=Option.some.inj ((show Tryz.prog.funcNamed "loop.example/g00093/laws.FnExactAbsHas" = some 9 by kernel_rfl).symm.trans hf) |>.symm
 obtain rfl:fn=Tryz.f9:=(Option.some.inj (Tryz.func9.symm.trans hfn)).symm
 refine ⟨by kernel_rfl,fun j t ht=>?_⟩
 have ht':(#[24,68,59]:Array Nat)[j]?=some t:=ht
 have h:t=24∨t=68∨t=59:=by simpa using Array.mem_of_getElem? ht'
 rcases h with rfl | rfl | rfl
 ·exact (show Tryz.prog.wantsStandIn 24=false by kernel_rfl)
 ·exact (show Tryz.prog.wantsStandIn 68=false by kernel_rfl)
 ·exact (show Tryz.prog.wantsStandIn 59=false by kernel_rfl)
end Go.Proofs.YtojhghmilenfkaaGreatDoor.absHas
