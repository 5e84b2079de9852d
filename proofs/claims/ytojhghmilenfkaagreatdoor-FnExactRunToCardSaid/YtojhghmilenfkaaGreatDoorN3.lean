/- A part of the proof of the claim that the last text states: no condition of its own. -/
import Derived.Test.YtojhghmilenfkaaGreatDoorN2
import Derived.Laws.IdiomStrings
import Derived.Laws.StructEq
set_option linter.unusedVariables false
set_option linter.unusedSimpArgs false
namespace Go.V
open Go
section
variable {X:Cx}{B:Bx}{E:Env}{S:St}{w:World}{F:C5}{a:Act}{N:Nat}{R:AE→St→Prop}
def FD(ops:Array Oper)(x:Nat→AV)(listed:Nat→Bool)(F:C5):Nat→C5
 |0=>F
 |j+1=>match listed j with
  |true=>match ops[j]? with
   |some o=>putF o.dst (x j) (FD ops x listed F j)
   |none=>FD ops x listed F j
  |false=>FD ops x listed F j
theorem Hu(dst:Option Nat)(x:AV)(F:C5)(t:Nat):lk (putF dst x F) t=if dst=some t then some x else lk F t:=by
 cases dst with
 |none=>simp[putF]
 |some d=>simp only[putF,J7,Option.some.injEq]
theorem J6{ops:Array Oper}{x:Nat→AV}{listed:Nat→Bool}{t:Nat}:∀n,(∀j,j<n→listed j=true→∀o,ops[j]?=some o→o.dst≠some t)→lk (FD ops x listed F n) t=lk F t
 |0,_=>rfl
 |n+1,h=>by
  have ih:lk (FD ops x listed F n) t=lk F t:=J6 n (fun j hj=>h j (by omega));simp only[FD];split
  ·rename_i hl;split
   ·rename_i o ho;rw[Hu,if_neg (h n (by omega) hl o ho),ih]
   ·exact ih
  ·exact ih
theorem Mv{ops:Array Oper}{x:Nat→AV}{listed:Nat→Bool}{t j:Nat}{o:Oper}(ho:ops[j]?=some o)(hd:o.dst=some t)(hl:listed j=true)
 (hu:∀(j':Nat)(o':Oper),j≠j'→ops[j']?=some o'→o'.dst≠some t):∀n,j<n→lk (FD ops x listed F n) t=some (x j)
 |0,h=>by omega
 |n+1,h=>by
  simp only[FD];by_cases hj:j=n
  ·subst hj;simp only[hl,ho];rw[Hu,if_pos hd]
  ·have ih:lk (FD ops x listed F n) t=some (x j):=Mv ho hd hl hu n (by omega);split
   ·split
    ·rename_i o' ho';rw[Hu,if_neg (hu n o' hj ho'),ih]
    ·exact ih
   ·exact ih
structure DrawOk (ops:Array Oper)(bs:List Nat)(em:Nat):Prop where
 bits:Zq ops bs=true
 looks:∀(i j:Nat) (oi oj:Oper),ops[i]?=some oi→ops[j]?=some oj→∀t,oj.dst=some t→t∈oi.looksAt ops→(j<i∧bitOf bs j i=true)∨(i<j∧bitOf bs i j=true)
 dsts:∀(i j:Nat) (oi oj:Oper),ops[i]?=some oi→ops[j]?=some oj→i≠j→∀t,oi.dst=some t→oj.dst≠some t
 effs:∀(i j:Nat) (oi oj:Oper),ops[i]?=some oi→ops[j]?=some oj→i<j→em.testBit i=true→em.testBit j=true→bitOf bs i j=true
theorem Aa4{ops:Array Oper}{bs:List Nat}{em:Nat}(h:R0 ops bs em=true):DrawOk ops bs em:=by
 unfold R0 at h;rw[Dd]at h;obtain⟨h0,h1⟩:=h;have key:∀(i j:Nat) (oi oj:Oper),ops[i]?=some oi→ops[j]?=some oj →
  ((match oj.dst with
     |some t=>!(oi.looksAt ops).contains t||(Nat.blt j i&&bitOf bs j i)||(Nat.blt i j&&bitOf bs i j)
     |none=>true) &&
    (Nat.ble j i||(match oi.dst with
      |some t=>oj.dst != some t
      |none=>true)) &&
    (Nat.ble j i||!(em.testBit i&&em.testBit j)||bitOf bs i j))=true:=fun i j oi oj hi hj=>by
  have li:i<ops.size:=by
   rcases Gs i ops.size with h|h
   ·exact h
   ·rw[Abv h]at hi;cases hi
  have lj:j<ops.size:=by
   rcases Gs j ops.size with h|h
   ·exact h
   ·rw[Abv h]at hj;cases hj
  have a1:=zzq48.1 h1 i (zzq53.2 li);rw[hi]at a1;have a2:=zzq48.1 a1 j (zzq53.2 lj);rw[hj]at a2;exact a2
 refine⟨h0,fun i j oi oj hi hj t ht hm=>?_,fun i j oi oj hi hj hne t ht hc=>?_,fun i j oi oj hi hj hlt e1 e2=>?_⟩
 ·have:=key i j oi oj hi hj;simp only[Dd,ht,Pd,Ml,Fw]at this;rcases this.1.1 with(h|h)|h
  ·have hc:(oi.looksAt ops).contains t=true:=List.contains_iff_mem.2 hm;rw[hc]at h;cases h
  ·exact .inl h
  ·exact .inr h
 ·rcases Nat.lt_or_gt_of_ne hne with h|h
  ·have:=key i j oi oj hi hj;simp only[Dd,ht,Pd]at this;rcases this.1.2 with h'|h'
   ·have:=Jz h';omega
   ·rw[hc]at h';simp at h'
  ·have:=key j i oj oi hj hi;simp only[Dd,hc,Pd]at this;rcases this.1.2 with h'|h'
   ·have:=Jz h';omega
   ·rw[ht]at h';simp at h'
 ·have:=key i j oi oj hi hj;simp only[Dd,Pd,e1,e2]at this;rcases this.2 with(h'|h')|h'
  ·have:=Jz h';omega
  ·simp at h'
  ·exact h'
theorem Ja{l:Array Bool}{i j:Nat}(hi:i<l.size):(l.setIfInBounds i true).getD j false=if i=j then true else l.getD j false:=by
 by_cases h:i=j
 ·subst h;simp[Apg,Array.getElem?_setIfInBounds,hi]
 ·simp[Apg,Array.getElem?_setIfInBounds_ne h,h]
def Abs(l:Array Bool)(n:Nat):Nat:=((List.range n).filter fun j=>!l.getD j false).length
theorem Acz{l:Array Bool}{n i:Nat}(hi:i<n)(hs:l.size=n)(hl:l.getD i false=false):Abs (l.setIfInBounds i true) n+1≤Abs l n:=by
 unfold Abs;have hsub:((List.range n).filter fun j=>!(l.setIfInBounds i true).getD j false)=((List.range n).filter fun j=>!l.getD j false).filter (fun j=>j != i):=by
  rw[List.filter_filter];apply List.filter_congr;intro j _;rw[Ja (by omega)];by_cases h:i=j
  ·subst h;simp
  ·simp[h,Ne.symm h]
 rw[hsub];have hm:i∈(List.range n).filter fun j=>!l.getD j false:=zzq56.2 ⟨zzq53.2 hi,by simp only[hl];rfl⟩;have:=(List.length_filter_lt_length_iff_exists (p:=fun j=>j != i) (l:=(List.range n).filter fun j=>!l.getD j false)).2 ⟨i,hm,by simp⟩;omega
theorem Aab{ops:Array Oper}{listed:Array Bool}{i:Nat}(h:i∈Region.ready .any ops listed):i<ops.size∧listed.getD i true=false∧∃o,ops[i]?=some o ∧
 ∀e,e∈o.after.toList→Region.binds .any e=true→listed.getD e.on false=true:=by
 unfold Region.ready at h;obtain⟨h1,h2⟩:=zzq56.1 h;have hi:=zzq53.1 h1;have ho:ops[i]?=some ops[i]:=by simp[hi]
 rw[ho]at h2;simp only[Dd,Ml,Lk,Option.getD_some]at h2;refine⟨hi,h2.1,_,ho,fun e he hb=>?_⟩;have:=Array.all_eq_true'.1 h2.2 e (by simpa using he);simpa[hb]using this
theorem W6{ops:Array Oper}{bs:List Nat}(hb:Zq ops bs=true){listed:Array Bool}(hs:listed.size=ops.size)(hr:Region.ready .any ops listed=[]):∀j,j<ops.size→listed.getD j false=true:=by
 intro j
 induction j using Nat.strongRecOn with
 |ind j ih=>
  intro hj;cases hl:listed.getD j false with
  |true=>rfl
  |false=>
   have ho:ops[j]?=some ops[j]:=by simp[hj]
   have hk:=zzq48.1 hb j (zzq53.2 hj);rw[ho]at hk;simp only[Dd]at hk;have:j∈Region.ready .any ops listed:=by
    unfold Region.ready;refine zzq56.2 ⟨zzq53.2 hj,?_⟩;have hl':listed.getD j true=false:=by
     have:j<listed.size:=by omega
     simp[Array.getD,this]at hl⊢;exact hl
    rw[ho];simp only[hl',Bool.not_false,Lk,Option.getD_some,Re];refine Array.all_eq_true'.2 fun e he=>?_;cases hbe:Region.binds .any e with
    |false=>simp
    |true=>
     have hlt:e.on<j:=by
      have:=zzq48.1 hk.2 e (by simpa using he);simp only[hbe,Bool.not_true,Vf]at this;simpa[Fw]using this
     simp[ih e.on hlt (by omega)]
   rw[hr]at this;cases this
theorem Awy{ops:Array Oper}{bs:List Nat}{em:Nat}(dk:DrawOk ops bs em){eff:Nat→Bool}{x:Nat→AV}{FF:Nat→C5}{SS:Nat→St}{Hs:List St}{pend:List J2}
 (D:DData X N ops bs em 0 ops.size eff x FF SS Hs pend)(hF0:FF 0=F)(k:List Item):∀(fuel t:Nat)(listed:Array Bool)(a:Act)(w:World)(E:Env)(p:Nat),
 listed.size=ops.size→Closed ops listed→p≤ops.size→(∀e,e<ops.size→eff e=true→(listed.getD e false=true↔e<p))→Abs listed ops.size≤fuel →
 Inv X E (SS p) w→FR E w (FD ops x (listed.getD · false) F ops.size) a N→∀(b:Frame) (cs:List Frame),
  ∃E' w' a',Steps X.P (lone (b.at a (.inRegion ops (Region.linearise.go .any ops fuel t listed [])::k)) cs w) (lone (b.at a' k) cs w')∧Inv X E' (SS ops.size) w' ∧
   FR E' w' (FF ops.size) a' N∧Evol E w E' w' E.boxes.length E.toks.length:=by
 have hFF:∀n,n≤ops.size→FF n=FD ops x (fun _=>true) F n:=by
  intro n
  induction n with
  |zero=>intro _;exact hF0
  |succ n ih=>
   intro hn;have ho:ops[n]?=some ops[n]:=by simp[show n<ops.size by omega]
   rw[(D.step n (B3 _) (by omega) _ ho).1,ih (by omega)];simp[FD,ho]
 have hSS:∀p q,p≤q→q≤ops.size→(∀e,p≤e→e<q→eff e=false)→SS q=SS p:=by
  intro p q hpq
  induction q with
  |zero=>intro _ _;rw[show p=0 by omega]
  |succ q ih=>
   intro hq he;by_cases h:p=q+1
   ·rw[h]
   ·rw[D.eff0 q (B3 _) (by omega) (he q (by omega) (by omega))];exact ih (by omega) (by omega) (fun e h1 h2=>he e h1 (by omega))
 have fin:∀(listed:Array Bool) (a:Act) (w:World) (E:Env) (p:Nat),p≤ops.size→(∀e,e<ops.size→eff e=true→(listed.getD e false=true↔e<p)) →
  (∀j,j<ops.size→listed.getD j false=true)→Inv X E (SS p) w→FR E w (FD ops x (listed.getD · false) F ops.size) a N→∀(b:Frame)(cs:List Frame),
  ∃E' w' a',Steps X.P (lone (b.at a (.inRegion ops []::k)) cs w) (lone (b.at a' k) cs w')∧Inv X E' (SS ops.size) w' ∧
   FR E' w' (FF ops.size) a' N∧Evol E w E' w' E.boxes.length E.toks.length:=by
  intro listed a w E p hp hpe hall hI hF b cs;refine⟨E,w,a,.one step_region_end,?_,?_,Evol.refl _ _ _ _⟩
  ·rw[hSS p ops.size hp (Bo _) fun e h1 h2=>by
    cases he:eff e with
    |false=>rfl
    |true=>have:=(hpe e h2 he).1 (hall e h2);omega]
   exact hI
  ·rw[hFF _ (Bo _)];have:FD ops x (listed.getD · false) F ops.size=FD ops x (fun _=>true) F ops.size:=by
    have:∀n,n≤ops.size→FD ops x (listed.getD · false) F n=FD ops x (fun _=>true) F n:=by
     intro n
     induction n with
     |zero=>intro _;rfl
     |succ n ih=>intro hn;simp only[FD,hall n (by omega),ih (by omega)]
    exact this _ (Bo _)
   rw[←this];exact hF
 intro fuel
 induction fuel with
 |zero=>
  intro t listed a w E p hs hc hp hpe hcnt hI hF b cs;refine fin listed a w E p hp hpe (fun j hj=>?_) hI hF b cs;cases hl:listed.getD j false with
  |true=>rfl
  |false=>
   have:j∈(List.range ops.size).filter fun j=>!listed.getD j false:=zzq56.2 ⟨zzq53.2 hj,by simp only[hl];rfl⟩;unfold Abs at hcnt;have:=List.length_pos_of_mem this;omega
 |succ fuel ih=>
  intro t listed a w E p hs hc hp hpe hcnt hI hF b cs;simp only[Region.linearise.go];change ∃E' w' a',Steps X.P (lone (b.at a (.inRegion ops (match(Region.ready .any ops listed)[t%(Region.ready .any ops listed).length]? with
   |some i=>Region.linearise.go .any ops fuel (t/(Region.ready .any ops listed).length) (listed.setIfInBounds i true) [i]
   |none=>[].reverse)::k)) cs w) (lone (b.at a' k) cs w')∧_∧_∧_
  cases hi:(Region.ready .any ops listed)[t%(Region.ready .any ops listed).length]? with
  |none=>
   have hnil:Region.ready .any ops listed=[]:=by
    cases hr:Region.ready .any ops listed with
    |nil=>rfl
    |cons y ys=>
     rw[hr]at hi;have hlt:t%(y::ys).length<(y::ys).length:=Nat.mod_lt _ (by simp);simp at hi;simp at hlt;omega
   exact fin listed a w E p hp hpe (W6 dk.bits hs hnil) hI hF b cs
  |some i=>
   obtain⟨hin,hil,o,ho,hafter⟩:=Aab (Bh hi);have hilf:listed.getD i false=false:=by
    have:i<listed.size:=by omega
    simp[Array.getD,this]at hil⊢;exact hil
   simp only[];rw[linearise_go_acc,List.reverse_singleton,Akv];have rbit:∀e,e<ops.size→bitOf bs e i=true→listed.getD e false=true:=fun e he hbit=>by
    have hk:=zzq48.1 dk.bits i (zzq53.2 hin);rw[ho]at hk;simp only[Dd,zzq54]at hk;unfold bitOf at hbit;rw[hk.1]at hbit;rcases Qe bs e _ 0 hbit with h|⟨e',he',hbe,h⟩
    ·simp at h
    ·have hl':=hafter e' he' hbe;rcases h with rfl|h
     ·exact hl'
     ·have:e'.on<ops.size:=by
       have h2:=zzq48.1 hk.2 e' he';simp only[hbe,Bool.not_true,Vf]at h2;have:e'.on<i:=by simpa[Fw]using h2
       omega
      exact hc.bit dk.bits e'.on e this hl' h
   have notbit:∀e,e<ops.size→listed.getD e false=true→bitOf bs i e=false:=fun e he hl=>by
    cases hb:bitOf bs i e with
    |false=>rfl
    |true=>have:=hc.bit dk.bits e i he hl hb;rw[hilf]at this;cases this
   have hagree:∀t,t∈o.looksAt ops→lk (FD ops x (listed.getD · false) F ops.size) t=lk (FF i) t:=fun t ht=>by
    rw[hFF i (by omega)];by_cases hw:∃(j:Nat) (oj:Oper),ops[j]?=some oj∧oj.dst=some t
    ·obtain⟨j,oj,hj,hd⟩:=hw;have hjn:j<ops.size:=by
      rcases Gs j ops.size with h|h
      ·exact h
      ·rw[Abv h]at hj;cases hj
     have hu:∀(j':Nat) (o':Oper),j≠j'→ops[j']?=some o'→o'.dst≠some t:=fun j' o' hne ho'=>dk.dsts j j' oj o' hj ho' hne t hd;rcases dk.looks i j o oj ho hj t hd ht with⟨h1,h2⟩|⟨h1,h2⟩
     ·rw[Mv (listed:=(listed.getD · false)) hj hd (rbit j hjn h2) hu ops.size hjn,Mv (listed:=fun _=>true) hj hd rfl hu i h1]
     ·have hjl:listed.getD j false=false:=by
       cases hl:listed.getD j false with
       |false=>rfl
       |true=>have:=notbit j hjn hl;rw[h2]at this;cases this
      rw[J6 ops.size fun j' _ hl' o' ho' hc'=>by
       by_cases hjj:j=j'
       ·subst hjj;rw[hjl]at hl';cases hl'
       ·exact hu j' o' hjj ho' hc',
       J6 i fun j' hj' _ o' ho' hc'=>by
        by_cases hjj:j=j'
        ·omega
        ·exact hu j' o' hjj ho' hc']
    ·rw[J6 ops.size fun j' _ _ o' ho' hc'=>hw ⟨j',o',ho',hc'⟩,J6 i fun j' _ _ o' ho' hc'=>hw ⟨j',o',ho',hc'⟩]
   have hcl':Closed ops (listed.setIfInBounds i true):=fun j oj hj hoj e he hb=>by
    rw[Ja (by omega)]at hj⊢;by_cases hie:i=e.on
    ·rw[if_pos hie]
    ·rw[if_neg hie];by_cases hij:i=j
     ·subst hij;rw[ho]at hoj;cases hoj;exact hafter e he hb
     ·rw[if_neg hij]at hj;exact hc j oj hj hoj e he hb
   have hlk':∀t,lk (FD ops x ((listed.setIfInBounds i true).getD · false) F ops.size) t=lk (putF o.dst (x i) (FD ops x (listed.getD · false) F ops.size)) t:=fun t=>by
    rw[Hu];have hset:∀j,(listed.setIfInBounds i true).getD j false=if i=j then true else listed.getD j false:=fun j=>Ja (by omega);by_cases hd:o.dst=some t
    ·rw[if_pos hd];exact Mv ho hd (by rw[hset];simp) (fun j' o' hne ho'=>dk.dsts i j' o o' ho ho' hne t hd) ops.size hin
    ·rw[if_neg hd];have:∀n,lk (FD ops x ((listed.setIfInBounds i true).getD · false) F n) t=lk (FD ops x (listed.getD · false) F n) t:=by
      intro n
      induction n with
      |zero=>rfl
      |succ n ihn=>
       have hn':=hset n;simp only[FD];by_cases hn:i=n
       ·subst hn;rw[hn',if_pos rfl,hilf,ho];rw[Hu,if_neg hd,ihn]
       ·rw[hn',if_neg hn];split
        ·split
         ·rw[Hu,Hu,ihn]
         ·exact ihn
        ·exact ihn
     exact this _
   have next:∀(p':Nat),p'≤ops.size→(∀e,e<ops.size→eff e=true→((listed.setIfInBounds i true).getD e false=true↔e<p'))→Ndo X N ops i o (FF i) (x i) (SS p) (SS p') →
    ∃E' w' a',Steps X.P (lone (b.at a (.inRegion ops (i::Region.linearise.go .any ops fuel (t/(Region.ready .any ops listed).length) (listed.setIfInBounds i true) [])::k)) cs w) (lone (b.at a' k) cs w') ∧
     Inv X E' (SS ops.size) w'∧FR E' w' (FF ops.size) a' N∧Evol E w E' w' E.boxes.length E.toks.length:=fun p' hp' hpe' hn=>by
    obtain⟨v,w1,⟨E1,h1,h2,h3⟩,h4⟩:=hn _ E w a hagree hI hF b k cs (Region.linearise.go .any ops fuel (t/(Region.ready .any ops listed).length) (listed.setIfInBounds i true) []);rw[ho]at h4;have hd:=(D.step i (B3 _) hin o ho).2;have hF1:FR E1 w1 (FD ops x ((listed.setIfInBounds i true).getD · false) F ops.size) (a.put o.dst v) N:=by
     have:=(hF.step h2).putF hd h3;exact⟨this.size,this.nod,fun q y hq=>this.rel q y (by rw[←hlk' q];exact hq)⟩
    have hcu:=Acz hin hs hilf;obtain⟨E',w',a',k1,k2,k3,k4⟩:=ih (t/(Region.ready .any ops listed).length) (listed.setIfInBounds i true) _ w1 E1 p' (by simp[hs]) hcl' hp' hpe' (by omega) h1 hF1 b cs;have hlen:=h2.len;exact⟨E',w',a',h4.trans k1,k2,k3,h2.trans (k4.weaken hlen.1 hlen.2)⟩
   cases he:eff i with
   |false=>
    refine next p hp (fun e hen hee=>?_) ?_
    ·rw[Ja (by omega)];by_cases hie:i=e
     ·subst hie;rw[he]at hee;cases hee
     ·rw[if_neg hie];exact hpe e hen hee
    ·exact D.will i (B3 _) hin he o ho p (B3 _) hp (fun e h1 h2 h3=>notbit e (by omega) ((hpe e (by omega) h3).2 h2))
   |true=>
    obtain⟨es,hn⟩:=D.eff1 i (B3 _) hin he o ho;have hpi:p≤i:=by
     rcases Gs i p with h|h
     ·have:=(hpe i hin he).2 h;rw[hilf]at this;cases this
     ·exact h
    have before:∀e,e<i→eff e=true→listed.getD e false=true:=fun e hei hee=>by
     have hoe:ops[e]?=some ops[e]:=by simp[show e<ops.size by omega]
     exact rbit e (by omega) (dk.effs e i _ o hoe ho hei (D.eff1 e (B3 _) (by omega) hee _ hoe).1 es)
    have hSp:SS i=SS p:=hSS p i hpi (by omega) (fun e h1 h2=>by
     cases hee:eff e with
     |false=>rfl
     |true=>have:=(hpe e (by omega) hee).1 (before e h2 hee);omega)
    refine next (i+1) (by omega) (fun e hen hee=>?_) (by rw[←hSp];exact hn)
    rw[Ja (by omega)];by_cases hie:i=e
    ·subst hie;simp
    ·rw[if_neg hie];constructor
     ·intro hl;rcases Gs e (i+1)with h|h
      ·exact h
      ·have hoe:ops[e]?=some ops[e]:=by simp[hen]
       have:=dk.effs i e o _ ho hoe (by omega) es (D.eff1 e (B3 _) hen hee _ hoe).1;have h2:=notbit e hen hl;rw[this]at h2;cases h2
     ·intro hlt;exact before e (by omega) hee
theorem Gw(E:Env)(w:World)(n m:Nat):Evol E w E { w with drawn:=w.drawn+1 } n m:=
 ⟨rfl,fun _ _ h=>⟨h,fun _ h=>h⟩,fun _ _ k h=>⟨k,h,.inl rfl⟩,rfl,rfl,rfl,Bo _,fun _ _ _=>rfl,fun _ _ _ _ h=>h,fun _ _ _ h=>h,fun _ _ h=>h,rfl,fun _ _ h=>h,fun _ _ _ _ _ _ _ _ _ h=>h⟩
theorem Av0{id:Nat}{ops:Array Oper}{k:List Item}(bs:List Nat)(em:Nat)(hst:R0 ops bs em=true)
 (h:Drv X B.fn.ntmps ops bs em ops.toList 0 F S [S] [] fun F' S'=>AK X B k F' S' R):AK X B (.code (.region id ops true)::k) F S R:=by
 obtain⟨eff,x,FF,SS,h1,h2,h3,D⟩:=Tt ops.toList 0 F S [S] [] _ h (fun j hj=>by simp) (by simp) (fun q hq=>by cases hq);have hlen:0+ops.toList.length=ops.size:=by simp
 rw[hlen]at h3 D;refine P1 h3 fun E w a b cs hI hF hb=>?_;have hI1:Inv X E (SS 0) { w with drawn:=w.drawn+1 }:=by rw[h2];exact hI.keep (Gw E w _ _) (fun _ _=>rfl)
 have hF1:FR E { w with drawn:=w.drawn+1 } (FD ops x ((Array.replicate ops.size false).getD · false) F ops.size) a B.fn.ntmps:=by
  have hF':=hF.step (Gw E w _ _);have:FD ops x ((Array.replicate ops.size false).getD · false) F ops.size=F:=by
   have:∀n,FD ops x ((Array.replicate ops.size false).getD · false) F n=F:=by
    intro n
    induction n with
    |zero=>rfl
    |succ n ih=>
     simp only[FD];have:(Array.replicate ops.size false).getD n false=false:=by
      simp[Array.getD]
     rw[this];exact ih
   exact this _
  rw[this];exact hF'
 have hz:∀j,(Array.replicate ops.size false).getD j false=false:=fun j=>by simp[Array.getD]
 obtain⟨E',w',a',g1,g2,g3,g4⟩:=Awy (Aa4 hst) D h1 k ops.size (w.tape w.drawn (.order b.fn id)) (Array.replicate ops.size false) a { w with drawn:=w.drawn+1 } E 0 (by simp)
  (fun j o hj=>by rw[hz]at hj;cases hj) (B3 _) (fun e he hee=>by rw[hz];simp) (by
    unfold Abs;exact Pb (Abm _ _) (by simp)) hI1 hF1 b cs
 refine⟨E',w',a',.head step_region_draw ?_,g2,(Gw E w _ _).trans g4,g3⟩;simp only[Region.schedule,X.mixed,Bool.true_or,if_true];exact g1
end
section
variable {X:Cx}{B:Bx}{E:Env}{S:St}{w w':World}{F:C5}{a:Act}{N:Nat}{R:AE→St→Prop}
def Env.setTok(E:Env)(t:Nat)(k:Tk):Env:={ E with toks:=E.toks.set t k }
theorem Eu{α:Type}{l:List α}{i j:Nat}{x y:α}(h:(l.set i x)[j]?=some y):(j=i∧y=x)∨(j≠i∧l[j]?=some y):=by
 rw[Vb]at h;split at h
 ·rename_i hij;split at h
  ·cases h;exact .inl ⟨hij.symm,rfl⟩
  ·cases h
 ·rename_i hij;exact .inr ⟨fun e=>hij e.symm,h⟩
theorem Pw{w w':World}{b q:Nat}{e:TypeId}(h1:q=b→∃cs cs' te z,w.heap[q]?=some (.cells cs te z)∧w'.heap[q]?=some (.cells cs' te z))(h2:q≠b→w'.heap[q]?=w.heap[q]?)(h:F3 w q=some e):F3 w' q=some e:=by
 unfold F3 at h⊢;by_cases hq:q=b
 ·obtain⟨cs,cs',te,z,g1,g2⟩:=h1 hq;rw[g1]at h;rw[g2];exact h
 ·rw[h2 hq];exact h
theorem O7(hI:Inv X E S w){t n m b c sz:Nat}{k:Tk}(hk:E.toks[t]?=some k)(hkn:k.len=n)(hlt:n<m)(hmc:sz≠0→m≤c)
 (hos:w'.os=w.os)(htp:w'.tape=w.tape)(hout:w'.output=w.output)(hsize:w.heap.size≤w'.heap.size)(hoth:∀q,q<w.heap.size→q≠b→w'.heap[q]?=w.heap[q]?)
 (hb:b=w.heap.size∨k.sp=some (b,c,sz))(hbs:b<w'.heap.size)(hcell:∀o v,o<n*sz→w.cell? ⟨b,o,none⟩=some v→w'.cell? ⟨b,o,none⟩=some v)
 (hnew:∃cs e,w'.heap[b]?=some (.cells cs e (0,0))∧(sz≠0→cs.size=c*sz))(hty:∀q e,F3 w q=some e→F3 w' q=some e) :
 Evol E w (E.setTok t ⟨m,some (b,c,sz)⟩) w' E.boxes.length E.toks.length∧Inv X (E.setTok t ⟨m,some (b,c,sz)⟩) ⟨S.boxes,S.toks.set t m⟩ w' ∧
  ∀o,o<m*sz→¬(E.setTok t ⟨m,some (b,c,sz)⟩).mt b o:=by
 have hkt:=Aa hk;obtain⟨kl,ksp⟩:=k;simp only at hkn hb;subst hkn;have hwas:∀{l' c' s':Nat} {q:Nat},E.toks[q]?=some (Tk.mk l' (some (b,c',s')))→q=t:=fun{l' c' s' q} h=>by
  rcases hb with hb|hb
  ·exact absurd (.inr ⟨q,l',c',s',hb▸h⟩) (Vp hI)
  ·subst hb;exact hI.tt q t b l' c' s' kl c sz h hk
 have nobox:∀{i s:Nat},E.boxes[i]?=some (some (b,s))→False:=fun{i s} h=>by
  rcases hb with hb|hb
  ·exact absurd (.inl ⟨i,s,hb▸h⟩) (Vp hI)
  ·subst hb;exact hI.bt i t b s kl c sz h hk
 have nofr:∀o,¬E.fr b o:=fun o h=>by
  rcases hb with hb|hb
  ·have:=(hI.frlt b o h).2;omega
  ·subst hb;exact(hI.frlt b o h).1 (.inr ⟨t,kl,c,sz,hk⟩)
 have hown:∀q,(E.setTok t ⟨m,some (b,c,sz)⟩).own q→E.own q∨q=b:=fun q h=>by
  rcases h with⟨i,s,h⟩|⟨i,l,c',s,h⟩
  ·exact .inl (.inl ⟨i,s,h⟩)
  ·rcases Eu h with⟨_,h⟩|⟨_,h⟩
   ·cases h;exact .inr rfl
   ·exact .inl (.inr ⟨i,l,c',s,h⟩)
 have hbown:b<w.heap.size→E.own b:=fun h=>by
  rcases hb with hb|hb
  ·omega
  ·subst hb;exact .inr ⟨t,kl,c,sz,hk⟩
 have hmt:∀q o,q<w.heap.size→(E.setTok t ⟨m,some (b,c,sz)⟩).mt q o→E.mt q o:=fun q o hq h=>by
  rcases h with h|⟨i,s,h⟩|⟨i,l,c',s,h,ho⟩
  ·exact .inl h
  ·exact .inr (.inl ⟨i,s,h⟩)
  ·rcases Eu h with⟨_,h⟩|⟨_,h⟩
   ·cases h;rcases hb with hb|hb
    ·omega
    ·subst hb;have:=Tq sz (Nat.le_of_lt hlt);exact .inr (.inr ⟨t,kl,c,sz,hk,by omega⟩)
   ·exact .inr (.inr ⟨i,l,c',s,h,ho⟩)
 have ev:Evol E w (E.setTok t ⟨m,some (b,c,sz)⟩) w' E.boxes.length E.toks.length:=by
  refine⟨rfl,fun _ _ h=>⟨h,fun _ h=>h⟩,fun q hq k' hk'=>?_,hos,htp,hout,hsize,fun q hq ho=>?_,fun q o v hm hc=>?_,fun q o hq h=>hmt q o hq h,fun q hq h=>?_,rfl,hty,fun q _ k' b1 c1 g1 g2 g3 o ho=>?_⟩
  ·by_cases hqt:q=t
   ·subst hqt;rw[hk]at hk';cases hk';exact⟨⟨m,some (b,c,sz)⟩,by simp[Env.setTok,hkt],.inr hlt⟩
   ·exact⟨k',by simp only[Env.setTok];rw[Fq (by omega)];exact hk',.inl rfl⟩
  ·exact hoth q hq fun h=>ho (by subst h;exact hbown hq)
  ·by_cases hqb:q=b
   ·subst hqb;refine hcell o v ?_ hc;rcases hb with hb|hb
    ·have:=J3 hc;omega
    ·subst hb;rcases Gs o (kl*sz)with h|h
     ·exact h
     ·exact absurd (.inr (.inr ⟨t,kl,c,sz,hk,h⟩)) hm
   ·have hq:=J3 hc;unfold World.cell? at hc⊢;simp only[hoth q hq hqb];exact hc
  ·rcases hown q h with h|h
   ·exact h
   ·subst h;exact hbown hq
  ·obtain⟨kl',ksp'⟩:=k';simp only at g2;subst g2;have hne:b1≠b:=fun h=>by
    have hqt:=hwas (h▸g1);subst hqt;rw[hk]at g1;simp only[Env.setTok]at g3;rw[Eh hkt]at g3;cases g1;cases g3;omega
   rw[hoth b1 (N7 ho) hne];exact ho
 refine⟨ev,?_,fun o ho h=>?_⟩
 ·exact{
   nb:=hI.nb
   nt:=by simp only[Env.setTok,Zc,hI.nt]
   np:=hI.np
   box:=fun i b' s rr h1 h2=>by
    obtain⟨cs',e',hh',hs',hl',hr'⟩:=hI.box i b' s rr h1 h2;have hne:b'≠b:=fun h=>nobox (h▸h1);exact⟨cs',e',(hoth b' (hI.own_lt (.inl ⟨i,s,h1⟩)) hne).trans hh',hs',hl',fun k r j x v h3 h4 h5=>(hr' k r j x v h3 h4 h5).step ev⟩
   tok:=fun q l b' c' s h=>by
    rcases Eu h with⟨_,h⟩|⟨hq,h⟩
    ·cases h;obtain⟨cs,e,h1,h2⟩:=hnew;exact⟨hmc,by omega,cs,e,h1,h2⟩
    ·obtain⟨h1,h0,cs,e,hh',hs'⟩:=hI.tok q l b' c' s h;have hne:b'≠b:=fun hx=>hq (hwas (hx▸h));exact⟨h1,h0,cs,e,(hoth b' (hI.own_lt (.inr ⟨q,l,c',s,h⟩)) hne).trans hh',hs'⟩
   bb:=hI.bb
   bt:=fun i q b' s l c' s' h1 h2=>by
    rcases Eu h2 with⟨_,h2⟩|⟨_,h2⟩
    ·cases h2;exact nobox h1
    ·exact hI.bt i q b' s l c' s' h1 h2
   tt:=fun i j b' l c1 s l' c' s' h1 h2=>by
    rcases Eu h1 with⟨hi,h1⟩|⟨hi,h1⟩<;>rcases Eu h2 with⟨hj,h2⟩|⟨hj,h2⟩
    ·omega
    ·cases h1;exact absurd (hwas h2) hj
    ·cases h2;exact absurd (hwas h1) hi
    ·exact hI.tt i j b' l c1 s l' c' s' h1 h2
   frlt:=fun q o h=>⟨fun h'=>by
    rcases hown q h' with h'|h'
    ·exact(hI.frlt q o h).1 h'
    ·subst h';exact nofr o h,Mz (hI.frlt q o h).2 hsize⟩
   lo:=fun q h=>by
    rcases hown q h with h|h
    ·exact hI.lo q h
    ·subst h;rcases hb with hb|hb
     ·rw[hb];exact hI.sz
     ·subst hb;exact hI.lo _ (.inr ⟨t,kl,c,sz,hk⟩)
   frlo:=hI.frlo
   sz:=Pb hI.sz hsize
   glob:=X.glob_st w w' (fun q hq=>ev.block q (Mz hq hI.sz) (fun ho=>by have:=hI.lo q ho;omega)) hI.sz hos hI.glob }
 ·rcases h with h|⟨i,s,h⟩|⟨i,l,c',s,h,ho'⟩
  ·exact nofr o h
  ·exact nobox h
  ·rcases Eu h with⟨_,h⟩|⟨hq,h⟩
   ·cases h;omega
   ·exact hq (hwas h)
def D4(n sz:Nat)(vals:Nat→Nat→Value):List Value:=(List.range (n*sz)).map fun q=>vals (q/sz) (q%sz)
theorem El(n sz:Nat)(vals:Nat→Nat→Value):(D4 n sz vals).length=n*sz:=by simp[D4]
theorem Ld{n sz:Nat}{vals:Nat→Nat→Value}{i j:Nat}(hi:i<n)(hj:j<sz):(D4 n sz vals)[i*sz+j]?=some (vals i j):=by
 have:=I6 hi hj;simp only[D4,Gl];rw[Abn this];simp only[Lk];rw[Nat.mul_comm i sz,Nat.mul_add_div (by omega),Nat.mul_add_mod,Nat.mod_eq_of_lt hj,Nat.div_eq_of_lt hj,Px]
theorem Yg{n sz:Nat}{vals:Nat→Nat→Value}{q:Nat}(hq:q<n*sz):∃i j,i<n∧j<sz∧q=i*sz+j∧(D4 n sz vals)[q]?=some (vals i j):=by
 have hs:0<sz:=by
  rcases Nat.eq_zero_or_pos sz with h|h
  ·subst h;simp at hq
  ·exact h
 have hdm:=Nat.div_add_mod q sz;rw[Nat.mul_comm]at hdm;have hi:q/sz<n:=(Nat.div_lt_iff_lt_mul hs).2 hq;have hj:=Nat.mod_lt q hs;refine⟨q/sz,q%sz,hi,hj,hdm.symm,?_⟩;have h:=Ld (n:=n) (vals:=vals) hi hj;rw[hdm]at h;exact h
theorem Amz{tx e':TypeId}(hk:X.P.underlying tx=some (.slice e')){size:Nat}{new:List (List AV)}{sp:Sp}{u:Value}(hu:Rel E w u (.sl new sp))(hz:∀r,r∈new→r.length=size)
 (hc:∀r,r∈new→∀x,x∈r→I3 x=true)(hne:new≠[]) :
 ∃vals:Nat→Nat→Value,Src X.P size tx u new.length (D4 new.length size vals) w∧∀(i j:Nat) (r:List AV) (x:AV),new[i]?=some r→r[j]?=some x→Rel E w (vals i j) x:=by
 cases hu with
 |sl _ _ a n cap b o sz vals hn hx ha hsz hm hcl hr hs hcap=>
  subst hn;obtain⟨r0,l0,rfl⟩:∃r0 l0,new=r0::l0:=by
   cases new with
   |nil=>exact absurd rfl hne
   |cons r l=>exact⟨r,l,rfl⟩
  have hs0:sz=size:=by rw[←hsz r0 (by simp),hz r0 (by simp)]
  subst hs0;have ha':=ha (by simp);subst ha';refine⟨vals,Src.ofSlice w hk ⟨b,o,none⟩ _ cap _ (El _ _ _) (fun q v hq=>?_) (fun v hv=>?_),hr⟩
  ·obtain⟨i,j,hi,hj,rfl,he⟩:=Yg (vals:=vals) (by have:=Aa hq;rw[El]at this;exact this);rw[he]at hq;cases hq;rw[Ge,←Mj];exact hcl i j hi hj
  ·obtain⟨q,hq⟩:=Bs hv;obtain⟨i,j,hi,hj,rfl,he⟩:=Yg (vals:=vals) (by have:=Aa hq;rw[El]at this;exact this);rw[he]at hq;cases hq;obtain⟨r,hri⟩:=Ab (r0::l0) hi;have hrl:=hz r (Bh hri);obtain⟨x,hxj⟩:=Ab r (i:=j) (by omega);exact L4 (hr i j r x hri hxj) (hc r (Bh hri) x (Bh hxj))
theorem P3(t tx ty e:TypeId)(i:TypeInfo)(ht:X.P.underlying t=some (.slice e))(hi:X.P.info? e=some i)(b sLen sCap:Nat)(x:Value)(n:Nat)(news:List Value)(hs:Src X.P i.size tx x n news w)
 (hroom:sLen+n≤sCap){cur:Array Value}{te:TypeId}(hb:w.heap[b]?=some (.cells cur te (0,0)))(hfit:sLen*i.size+news.length≤cur.size) :
 (Builtin.append_ #[t,tx] ty #[.slice (some ⟨b,0,none⟩) sLen sCap,x]).run X.P w=.ok (.slice (some ⟨b,0,none⟩) (sLen+n) sCap)
   (w.setRow b (cur.toList.take (sLen*i.size)++news++cur.toList.drop (sLen*i.size+news.length)).toArray):=by
 have hst:=run_storeCells_at X.P b (sLen*i.size) te news 0 cur w hb (by simpa using hfit) hs.one;simp only[Px]at hst;rcases hs.kind with⟨e',hk⟩|hk<;>simp[Builtin.append_,run_underlying ht,run_underlying hk,sizeOf,typeInfo,hi,hs.len,hroom,hs.cells,Ge,hst]
theorem Ali(hI:Inv X E S w){t:Nat}{tt tx ty e:TypeId}{ye:Ty}(hu:X.P.underlying tt=some (.slice e))(hye:X.ty e=some ye)(hne0:ye.size≠0)
 {rows new:List (List AV)}{u v:Value}{vals2:Nat→Nat→Value}(hp:Rel E w u (.sl rows (.tok t)))(hsrc:Src X.P ye.size tx v new.length (D4 new.length ye.size vals2) w)
 (hr2:∀(i j:Nat)(r:List AV)(x:AV),new[i]?=some r→r[j]?=some x→Rel E w (vals2 i j) x)(hS:S.toks[t]?=some rows.length)
 (hz:∀r,r∈rows→r.length=ye.size)(hz':∀r,r∈new→r.length=ye.size)(hne:new≠[])(hb:rows.length+new.length≤100000000000) :
 ∃r E' w',(Builtin.append_ #[tt,tx] ty #[u,v]).run X.P w=.ok r w'∧Inv X E' ⟨S.boxes,S.toks.set t (rows.length+new.length)⟩ w'∧Evol E w E' w' E.boxes.length E.toks.length ∧
  Rel E' w' r (.sl (rows++new) (.tok t)):=by
 obtain⟨i,z,hi,hsz,hby,hzv,hzc,hzl,_⟩:=(X.ty_ok e ye hye).info;have hnew:0<new.length:=zzq65.2 hne;rw[←hsz]at hsrc;generalize hR:rows=rows0 at hp;cases hp with
 |sl _ _ a n cap b o sz vals hn hx ha hszr hm hcl hr hs hcap=>
 subst hR;subst hn;obtain⟨k,hk1,hk2,hk3⟩:=hs;have hkl:k.len=rows.length:=by
  have h1:=hI.nt;have h2:(E.toks.map Tk.len)[t]?=some k.len:=by simp[hk1]
  rw[h1,hS]at h2;exact(Option.some.inj h2).symm
 have hk4:=hk3 hkl.symm;have hvals:∀(vals':Nat→Nat→Value),(∀i j,i<rows.length→vals' i j=vals i j)→(∀i j,rows.length≤i→vals' i j=vals2 (i-rows.length) j)→∀{E':Env} {w':World},Evol E w E' w' E.boxes.length E.toks.length →
  ∀(i j:Nat) (r:List AV) (x:AV),(rows++new)[i]?=some r→r[j]?=some x→Rel E' w' (vals' i j) x:=fun vals' h1 h2 {E' w'} ev i j r x hi hj=>by
  rcases Gs i rows.length with h|h
  ·rw[Cs h]at hi;rw[h1 i j h];exact(hr i j r x hi hj).step ev
  ·rw[Gk h]at hi;rw[h2 i j h];exact(hr2 _ j r x hi hj).step ev
 have hall:∀r,r∈rows++new→r.length=ye.size:=fun r h=>by
  rcases zzq45.1 h with h|h
  ·exact hz r h
  ·exact hz' r h
 have hlen:(rows++new).length=rows.length+new.length:=by simp
 have grow:cap<rows.length+new.length→∃r E' w',(Builtin.append_ #[tt,tx] ty #[.slice a rows.length cap,v]).run X.P w=.ok r w'∧Inv X E' ⟨S.boxes,S.toks.set t (rows.length+new.length)⟩ w'∧Evol E w E' w' E.boxes.length E.toks.length ∧
  Rel E' w' r (.sl (rows++new) (.tok t)):=fun hg=>by
  have hold:(Builtin.firstCells i.size rows.length (.slice a rows.length cap)).run X.P w.drew=.ok (D4 rows.length i.size vals).toArray w.drew:=by
   rcases Nat.eq_zero_or_pos rows.length with h0|h0
   ·rw[h0];have:D4 0 i.size vals=[]:=by simp[D4]
    rw[this];cases a with
    |none=>exact run_firstCells_none _ _ _ _ _
    |some a0=>exact run_firstCells_some _ _ _ _ _ _ _ (by simp) (fun j v hj=>by simp at hj)
   ·have ha':=ha (by omega);subst ha';obtain⟨r0,hr0⟩:=Ab rows h0;have:sz=i.size:=by rw[←hszr r0 (Bh hr0),hz r0 (Bh hr0),hsz]
    subst this;refine run_firstCells_some _ _ _ _ _ _ _ (El _ _ _) (fun q v hq=>?_);obtain⟨i',j',hi',hj',rfl,he⟩:=Yg (vals:=vals) (by have:=Aa hq;rw[El]at this;exact this);rw[he]at hq;cases hq;rw[Ge,←Mj];exact hcl i' j' hi' hj'
  have hby':(rows.length+new.length)*i.bytes≤140737488355328:=Pb (Nat.mul_le_mul_left _ hby) (by omega);have hrun:=run_append_grow_src w tt tx ty e i z hu hi hzv a rows.length cap _ hold v new.length _ hsrc hg (by omega) (growslice_fits hg hby');have hcc:=grownCap_ge w (rows.length+new.length) cap e;generalize grownCap w (rows.length+new.length) cap e=cc at hrun hcc;have hfl:∀(i' j':Nat),i'<rows.length+new.length→j'<ye.size→(D4 rows.length i.size vals++D4 new.length i.size vals2)[i'*ye.size+j']?=some (if i'<rows.length then vals i' j' else vals2 (i'-rows.length) j'):=fun i' j' hi' hj'=>by
   rw[hsz];by_cases h:i'<rows.length
   ·have:=I6 h hj';rw[Cs (by rw[El];exact this),if_pos h];exact Ld h hj'
   ·have hle:rows.length*ye.size≤i'*ye.size:=Tq _ (by omega);rw[Gk (by rw[El];omega),if_neg h,El];rw[show i'*ye.size+j'-rows.length*ye.size=(i'-rows.length)*ye.size+j' by rw[Nat.sub_mul];omega];exact Ld (by omega) hj'
  have hcs:((D4 rows.length i.size vals++D4 new.length i.size vals2).toArray++Builtin.zeroCells z.cells (cc-(rows.length+new.length))).size=cc*ye.size:=by
   have hzs:z.cells.size=ye.size:=by rw[←hzl,←hzc];simp
   have:(Builtin.zeroCells z.cells (cc-(rows.length+new.length))).size=(cc-(rows.length+new.length))*ye.size:=by
    simp[Builtin.zeroCells,hzs]
   rw[Array.size_append,this,Abl,Ex,El,El,hsz,←Rf,←Rf];congr 1;omega
  have hpush:∀o:Obj,(w.drew.alloc o).heap=w.heap.push o:=fun _=>rfl;obtain⟨ev,hI',hmt⟩:=O7 (w':=w.drew.alloc (.cells ((D4 rows.length i.size vals++D4 new.length i.size vals2).toArray++Builtin.zeroCells z.cells (cc-(rows.length+new.length))) e)) hI (t:=t) (n:=rows.length) (m:=rows.length+new.length)
   (b:=w.heap.size) (c:=cc) (sz:=ye.size) hk1 hkl (by omega) (fun _=>hcc) rfl rfl rfl (by rw[hpush];simp) (fun q hq _=>by rw[hpush,Y9 hq];simp[hq]) (.inl rfl) (by rw[hpush];simp)
   (fun o v _ h=>by have:=J3 h;omega) ⟨_,e,by rw[hpush];simp,fun _=>hcs⟩ (Evol.push (E:=E) (w:=w) ⟨_,hpush _⟩ rfl rfl rfl 0 0).ty
  refine⟨_,_,_,hrun,hI',ev,?_⟩;have hkt:=Aa hk1;refine .sl (rows++new) (.tok t) _ _ cc w.heap.size 0 ye.size (fun i j=>if i<rows.length then vals i j else vals2 (i-rows.length) j) hlen (by unfold Pg;omega) (fun _=>rfl) hall (fun i' j' hi' hj'=>?_) (fun i' j' hi' hj'=>?_)
   (hvals _ (fun i' j' h=>if_pos h) (fun i' j' h=>if_neg (by omega)) ev) ⟨⟨rows.length+new.length,some (w.heap.size,cc,ye.size)⟩,by simp[Env.setTok,hkt],Bo _,fun _=>⟨rfl,rfl,rfl⟩⟩ hcc
  ·have:=I6 hi' hj';exact hmt _ (by omega)
  ·have h:=hfl i' j' hi' hj';have hlt:=Aa h;simp only[Jy];have hheap:(w.drew.alloc (.cells ((D4 rows.length i.size vals++D4 new.length i.size vals2).toArray++Builtin.zeroCells z.cells (cc-(rows.length+new.length))) e)).heap[w.heap.size]? =
    some (.cells ((D4 rows.length i.size vals++D4 new.length i.size vals2).toArray++Builtin.zeroCells z.cells (cc-(rows.length+new.length))) e (0,0)):=by rw[hpush];simp
   simp only[World.cell?,hheap];rw[Zb (by simpa using hlt),Rc];exact h
 by_cases hg:cap<rows.length+new.length
 ·exact grow hg
 ·obtain⟨kl,ksp⟩:=k;cases ksp with
  |none=>simp only at hk4;omega
  |some q=>
   obtain⟨b',c',s'⟩:=q;simp only at hk4 hkl;obtain⟨rfl,rfl,rfl⟩:=hk4;subst hkl;obtain⟨h1,h00,cur,te,hh,hcs⟩:=hI.tok t _ b' cap s' hk1;have h0:s'≠0:=fun hs0=>by
    obtain⟨r0,hr0⟩:=Ab rows (i:=0) (by omega);have g1:=hszr r0 (Bh hr0);have g2:=hz r0 (Bh hr0);omega
   have h1:=h1 h0;have hcs:=hcs h0;have hab:=ha (by omega);simp only[Option.some.injEq,Addr.mk.injEq,and_true]at hab;obtain⟨rfl,rfl⟩:=hab;obtain⟨r0,hr0⟩:=Ab rows (i:=0) (by omega);have:s'=i.size:=by rw[←hszr r0 (Bh hr0),hz r0 (Bh hr0),hsz]
   subst this;have hsub:(rows.length+new.length)*i.size≤cap*i.size:=Tq _ (by omega);rw[Rf]at hsub;have hfit:rows.length*i.size+(D4 new.length i.size vals2).length≤cur.size:=by rw[El,hcs];exact hsub
   have hrun:=P3 tt tx ty e i hu hi b' rows.length cap v new.length _ hsrc (by omega) hh hfit;have hfl:=El new.length i.size vals2;have hat:=setRow_heap w b' cur (cur.toList.take (rows.length*i.size)++D4 new.length i.size vals2++cur.toList.drop (rows.length*i.size+(D4 new.length i.size vals2).length)).toArray te _ hh;have hoth:∀q,q≠b'→(w.setRow b' (cur.toList.take (rows.length*i.size)++D4 new.length i.size vals2++cur.toList.drop (rows.length*i.size+(D4 new.length i.size vals2).length)).toArray).heap[q]?=w.heap[q]?:=
    fun q hq=>setRow_other w b' q _ (by omega)
   have hspl:=fun q=>K7 cur.toList (D4 new.length i.size vals2) (rows.length*i.size) q (by simpa using hfit);have hsp1:∀q,q<rows.length*i.size→(cur.toList.take (rows.length*i.size)++D4 new.length i.size vals2++cur.toList.drop (rows.length*i.size+(D4 new.length i.size vals2).length))[q]?=cur.toList[q]?:=fun q h=>by
    rw[hspl,if_neg (by omega)]
   have hsp2:∀q,rows.length*i.size≤q→q<rows.length*i.size+(D4 new.length i.size vals2).length →
    (cur.toList.take (rows.length*i.size)++D4 new.length i.size vals2++cur.toList.drop (rows.length*i.size+(D4 new.length i.size vals2).length))[q]?=(D4 new.length i.size vals2)[q-rows.length*i.size]?:=fun q h1 h2=>by
    rw[hspl,if_pos ⟨h1,h2⟩]
   have hbw:b'<w.heap.size:=hI.own_lt (.inr ⟨t,_,cap,i.size,hk1⟩);obtain⟨ev,hI',hmt⟩:=O7 (w':=w.setRow b' (cur.toList.take (rows.length*i.size)++D4 new.length i.size vals2++cur.toList.drop (rows.length*i.size+(D4 new.length i.size vals2).length)).toArray) hI (t:=t) (n:=rows.length) (m:=rows.length+new.length)
    (b:=b') (c:=cap) (sz:=i.size) hk1 rfl (by omega) (fun _=>by omega) rfl rfl rfl (by simp) (fun q _ hq=>hoth q hq) (.inr rfl) (by simpa using hbw)
    (fun o v ho h=>by
      simp only[World.cell?,hh]at h;simp only[World.cell?,hat,Rc];rw[hsp1 o ho];simpa using h)
    ⟨_,_,hat,fun _=>by rw[Abl,K8 _ _ _ (by simpa using hfit)];simpa using hcs⟩
    (fun q e he=>Pw (fun h=>by subst h;exact⟨_,_,_,_,hh,hat⟩) (hoth q) he)
   refine⟨_,_,_,hrun,hI',ev,?_⟩;have hkt:=Aa hk1;have hnm:∀i' j',i'<rows.length+new.length→j'<i.size→i'*i.size+j'<(rows.length+new.length)*i.size:=fun i' j' hi' hj'=>I6 hi' hj';refine .sl (rows++new) (.tok t) _ _ cap b' 0 i.size (fun i j=>if i<rows.length then vals i j else vals2 (i-rows.length) j) hlen (by unfold Pg;omega) (fun _=>rfl) (fun r hr=>by rw[hall r hr,hsz]) (fun i' j' hi' hj'=>?_) (fun i' j' hi' hj'=>?_)
    (hvals _ (fun i' j' h=>if_pos h) (fun i' j' h=>if_neg (by omega)) ev) ⟨⟨rows.length+new.length,some (b',cap,i.size)⟩,by simp[Env.setTok,hkt],Bo _,fun _=>⟨rfl,rfl,rfl⟩⟩ (by omega)
   ·have:=hnm i' j' hi' hj';exact hmt _ (by omega)
   ·simp only[Jy];by_cases h:i'<rows.length
    ·have h3:=hcl i' j' h hj';simp only[Jy]at h3;rw[if_pos h];exact ev.cell _ _ _ (by have:=hm i' j' h hj';simpa using this) h3
    ·rw[if_neg h];simp only[World.cell?,hat,Rc];have hle:rows.length*i.size≤i'*i.size:=Tq _ (by omega);have h4:=hnm i' j' hi' hj';rw[Rf]at h4;rw[hsp2 _ (by omega) (by omega)];rw[show i'*i.size+j'-rows.length*i.size=(i'-rows.length)*i.size+j' by rw[Nat.sub_mul];omega];exact Ld (by omega) hj'
theorem Ag2(hI:Inv X E S w){t:Nat}{tt tx ty e e':TypeId}{ye:Ty}(hu:X.P.underlying tt=some (.slice e))(hk:X.P.underlying tx=some (.slice e'))(hye:X.ty e=some ye)(hne0:ye.size≠0)
 {rows new:List (List AV)}{sp:Sp}{u v:Value}(hp:Rel E w u (.sl rows (.tok t)))(hq:Rel E w v (.sl new sp))(hS:S.toks[t]?=some rows.length)
 (hz:∀r,r∈rows→r.length=ye.size)(hz':∀r,r∈new→r.length=ye.size)(hc:∀r,r∈new→∀x,x∈r→I3 x=true)(hne:new≠[])(hb:rows.length+new.length≤100000000000) :
 ∃r E' w',(Builtin.append_ #[tt,tx] ty #[u,v]).run X.P w=.ok r w'∧Inv X E' ⟨S.boxes,S.toks.set t (rows.length+new.length)⟩ w'∧Evol E w E' w' E.boxes.length E.toks.length ∧
  Rel E' w' r (.sl (rows++new) (.tok t)):=by
 obtain⟨vals2,hsrc,hr2⟩:=Amz hk hq hz' hc hne;exact Ali hI hu hye hne0 hp hsrc hr2 hS hz hz' hne hb
end
abbrev str(s:List UInt8):AV:=.val (.string ⟨⟨s⟩⟩)
def Kf(n:Nat):List (List AV)→Bool
 |[]=>true
 |r::l=>match Nat.beq r.length n with
  |true=>Kf n l
  |false=>false
def Nb:List (List AV)→Bool
 |[]=>true
 |r::l=>match Jt r with
  |true=>Nb l
  |false=>false
theorem Ip{n:Nat}:∀{l:List (List AV)},Kf n l=true↔∀r,r∈l→r.length=n
 |[]=>by simp[Kf]
 |r::l=>by
  simp only[Kf];constructor
  ·intro h;split at h
   ·rename_i hb;intro q hq;rcases zzq13.1 hq with rfl|hq
    ·exact Ve hb
    ·exact Ip.1 h q hq
   ·cases h
  ·intro h;have h1:=h r (by simp);have:Nat.beq r.length n=true:=by rw[h1];exact Nat.beq_refl n
   rw[this];exact Ip.2 fun q hq=>h q (by simp[hq])
theorem M2:∀{l:List AV},Jt l=true↔∀x,x∈l→I3 x=true
 |[]=>by simp[Jt]
 |x::l=>by
  simp only[Jt];constructor
  ·intro h;split at h
   ·rename_i hb;intro q hq;rcases zzq13.1 hq with rfl|hq
    ·exact hb
    ·exact M2.1 h q hq
   ·cases h
  ·intro h;rw[h x (by simp)];exact M2.2 fun q hq=>h q (by simp[hq])
theorem K9:∀{l:List (List AV)},Nb l=true↔∀r,r∈l→∀x,x∈r→I3 x=true
 |[]=>by simp[Nb]
 |r::l=>by
  simp only[Nb];constructor
  ·intro h;split at h
   ·rename_i hb;intro q hq;rcases zzq13.1 hq with rfl|hq
    ·exact M2.1 hb
    ·exact K9.1 h q hq
   ·cases h
  ·intro h;rw[M2.2 (h r (by simp))];exact K9.2 fun q hq=>h q (by simp[hq])
theorem Kx{α:Type}{n:Nat}{f:α→List AV}(h:∀a,(f a).length=n)(l:List α):Kf n (l.map f)=true:=
 Ip.2 fun r hr=>by obtain⟨a,_,rfl⟩:=zzq66.1 hr;exact h a
section
variable {X:Cx}{B:Bx}{E:Env}{S:St}{w w':World}{F:C5}{a:Act}{N:Nat}{R:AE→St→Prop}
def Env.mint(E:Env)(n:Nat):Env:={ E with toks:=E.toks++[⟨n,none⟩] }
theorem Adh{n b:Nat}:(E.mint n).own b↔E.own b:=by
 constructor
 ·rintro(h|⟨t,l,c,sz,h⟩)
  ·exact .inl h
  ·rcases getElem?_snoc h with h|⟨_,h⟩
   ·exact .inr ⟨t,l,c,sz,h⟩
   ·cases h
 ·rintro(h|⟨t,l,c,sz,h⟩)
  ·exact .inl h
  ·exact .inr ⟨t,l,c,sz,getElem?_snoc_left h⟩
theorem Axs{n b o:Nat}:(E.mint n).mt b o↔E.mt b o:=by
 constructor
 ·rintro(h|h|⟨t,l,c,sz,h,h'⟩)
  ·exact .inl h
  ·exact .inr (.inl h)
  ·rcases getElem?_snoc h with h|⟨_,h⟩
   ·exact .inr (.inr ⟨t,l,c,sz,h,h'⟩)
   ·cases h
 ·rintro(h|h|⟨t,l,c,sz,h,h'⟩)
  ·exact .inl h
  ·exact .inr (.inl h)
  ·exact .inr (.inr ⟨t,l,c,sz,getElem?_snoc_left h,h'⟩)
theorem M7(E:Env)(w:World)(n:Nat):Evol E w (E.mint n) w E.boxes.length E.toks.length where
 fr:=rfl
 boxes _ _ h:=⟨h,fun _ h=>h⟩
 toks t _ k hk:=⟨k,getElem?_snoc_left hk,.inl rfl⟩
 os:=rfl
 tape:=rfl
 output:=rfl
 size:=Bo _
 block _ _ _:=rfl
 cell _ _ _ _ h:=h
 mt _ _ _ h:=Axs.1 h
 own _ _ h:=Adh.1 h
 df:=rfl
 ty _ _ h:=h
 pv _ _ _ _ _ _ _ _ _ h:=h
theorem Inv.mint(hI:Inv X E S w)(n:Nat):Inv X (E.mint n) ⟨S.boxes,S.toks++[n]⟩ w where
 nb:=hI.nb
 nt:=by simp[Env.mint,hI.nt]
 np:=hI.np
 box i b sz rows h1 h2:=by
  obtain⟨cs,e,hh,hs,hl,hr⟩:=hI.box i b sz rows h1 h2;exact⟨cs,e,hh,hs,hl,fun k r j x v h3 h4 h5=>(hr k r j x v h3 h4 h5).step (M7 E w n)⟩
 tok t l b c sz h:=by
  rcases getElem?_snoc h with h|⟨_,h⟩
  ·exact hI.tok t l b c sz h
  ·cases h
 bb:=hI.bb
 bt i t b s l c sz h1 h2:=by
  rcases getElem?_snoc h2 with h|⟨_,h⟩
  ·exact hI.bt i t b s l c sz h1 h
  ·cases h
 tt i j b l c s l' c' s' h1 h2:=by
  rcases getElem?_snoc h1 with h1|⟨_,h1⟩
  ·rcases getElem?_snoc h2 with h2|⟨_,h2⟩
   ·exact hI.tt i j b l c s l' c' s' h1 h2
   ·cases h2
  ·cases h1
 frlt b o h:=⟨fun h'=>(hI.frlt b o h).1 (Adh.1 h'),(hI.frlt b o h).2⟩
 lo b h:=hI.lo b (Adh.1 h)
 frlo:=hI.frlo
 sz:=hI.sz
 glob:=hI.glob
theorem Rel.mint(hI:Inv X E S w){v:Value}{rows:List (List AV)}(h:Rel E w v (.sl rows .tight)):Rel (E.mint rows.length) w v (.sl rows (.tok S.toks.length)):=by
 have h':=h.step (M7 E w rows.length);have hl:S.toks.length=E.toks.length:=by rw[←hI.nt];simp
 cases h' with
 |sl _ _ a n cap b o sz vals hn hx ha hsz hm hc hr hs hcap=>
  refine .sl rows _ a n cap b o sz vals hn hx ha hsz hm hc hr ⟨⟨rows.length,none⟩,?_,by simp[hn],fun _=>hs⟩ hcap;rw[hl];exact getElem?_snoc_new _ _
theorem FR.mint(hF:FR E w F a N)(n:Nat):FR (E.mint n) w F a N:=hF.step (M7 E w n)
theorem N2{K:List Item}{d m:Nat}{rows:List (List AV)}{tk:List Nat}(hd:lk F d=some (.sl rows .tight))(hn:S.toks.length=m)(htk:S.toks++[rows.length]=tk)
 (hk:AK X B K ((d,.sl rows (.tok m))::F) ⟨S.boxes,tk⟩ R):AK X B K F S R:=by
 subst hn;subst htk;intro E w a b cs hI hF hn hm hb;have ev:=M7 E w rows.length;have hI':=hI.mint rows.length;have hF':FR (E.mint rows.length) w ((d,.sl rows (.tok S.toks.length))::F) a B.fn.ntmps:=by
  have h0:=hF.mint rows.length;refine⟨h0.size,h0.nod,fun k x hx=>?_⟩;rw[J7]at hx;split at hx
  ·rename_i hdk;subst hdk;cases hx;obtain⟨v,hv,hr⟩:=hF.rel d _ hd;exact⟨v,hv,Rel.mint hI hr⟩
  ·exact h0.rel k x hx
 have nt:E.toks.length=S.toks.length:=by rw[←hI.nt];simp
 exact Fin.from (Steps.refl _ _) (ev.weaken (by rw[hI.nb];exact hn) (by omega)) (hk (E.mint rows.length) w a b cs hI' hF' hn (by simp;omega) hb)
theorem Bu{ops:Array Oper}{i:Nat}{o:Oper}{c:Call}{p q:Operand}{t tt tx e e':Nat}{y yx ye:Ty}{rows new:List (List AV)}{sp:Sp}{n:Nat}{res:List (List AV)}{tk:List Nat}
 (ho:ops[i]?=some o)(hw:A8 ops F o=some true)(hop:o.op=.call c)(hcal:c.callee=.builtin .append)(hargs:c.args.toList=[p,q])(htys:c.argTypes.toList=[tt,tx])
 (hp:Dw X F p=some (.sl rows (.tok t)))(hq:Dw X F q=some (.sl new sp))(hy:X.ty tt=some y)(hyk:y.k=.slc e)(hye:X.ty e=some ye)(hyx:X.ty tx=some yx)(hyxk:yx.k=.slc e')
 (hS:S.toks[t]?=some n)(hn:rows.length=n)(hl:Kf ye.size rows=true)(hl':Kf ye.size new=true)(hc:Nb new=true)(hne:Nat.ble 1 new.length=true)(hb:rows.length+new.length≤100000000000)
 (hres:rows++new=res)(htk:S.toks.set t (rows.length+new.length)=tk):Ndo X N ops i o F (.sl res (.tok t)) S ⟨S.boxes,tk⟩:=by
 subst hres;subst htk;subst hn;intro F' E w a hlk hI hF;obtain⟨callee,args,argTypes⟩:=c;simp only at hcal hargs htys;subst hcal;have ha:args=#[p,q]:=by rw[←zzq34];exact hargs
 have ht:argTypes=#[tt,tx]:=by rw[←zzq34];exact htys
 subst ha;subst ht;have hlo:=G0 hlk;rw[hop]at hlo;have r1:=Ak hI hF ((Dk (X:=X) (F:=F) (F':=F') (o:=p) fun s hs=>hlo s (by simp[Op.operands,Call.operands,hs])).trans hp);have r2:=Ak hI hF ((Dk (X:=X) (F:=F) (F':=F') (o:=q) fun s hs=>hlo s (by simp[Op.operands,Call.operands,hs])).trans hq);obtain⟨d1,hd1,hk1⟩:=(X.ty_ok tt y hy).agg;simp only[hyk]at hk1;obtain⟨rfl,ye',hye',hne0⟩:=hk1;rw[hye]at hye';cases hye';obtain⟨d2,hd2,hk2⟩:=(X.ty_ok tx yx hyx).agg;simp only[hyxk]at hk2;obtain⟨rfl,_⟩:=hk2;obtain⟨v,E',w',h1,h2,h3,h4⟩:=Ag2 hI (ty:=o.type) hd1 hd2 hye hne0 r1 r2 hS (Ip.1 hl) (Ip.1 hl') (K9.1 hc) (fun h=>by rw[h]at hne;simp at hne) hb;exact Does.val ho (Cr hF (by rw[C6 hlk];exact hw)) (by simp[execOp,hop,resolve,invoke,builtin,h1]) (.inl rfl) ⟨E',h2,h3,h4⟩
def Tl(X:Cx)(F:C5):Option Operand→Int→Option Int
 |none,d=>some d
 |some x,_=>match Dw X F x with
  |some (.val (.int _ n))=>some n
  |_=>none
theorem X6(hI:Inv X E S w)(hF:FR E w F a N){lo:Option Operand}{d l:Int}(h:Tl X F lo d=some l):(lo=none∧l=d)∨∃x k,lo=some x∧a.eval x=.int k l:=by
 cases lo with
 |none=>simp only[Tl]at h;cases h;exact .inl ⟨rfl,rfl⟩
 |some x=>
  simp only[Tl]at h;split at h
  ·rename_i k n hx;cases h;have:=Ak hI hF hx;generalize hv:a.eval x=v at this;cases this;exact .inr ⟨x,k,rfl,hv⟩
  ·cases h
theorem Qg{F':C5}{lo:Option Operand}{d:Int}(h:∀x,lo=some x→Dw X F' x=Dw X F x):Tl X F' lo d=Tl X F lo d:=by
 cases lo with
 |none=>rfl
 |some x=>simp only[Tl,h x rfl]
theorem Ku{isS:Bool}{len cap:Nat}{lo hi:Option Value}{l h:Int}(hlo:(lo=none∧l=0)∨∃k,lo=some (.int k l))(hhi:(hi=none∧h=(len:Int))∨∃k,hi=some (.int k h))
 (h0:0≤l)(h1:l≤h)(h2:h≤(len:Int))(hc:len≤cap)(w:World):(Instr.sliceBounds isS len cap lo hi none).run X.P w=.ok (l.toNat,h.toNat,cap) w:=by
 have hh:(0:Int)≤h:=by omega
 have hhc:h≤(cap:Int):=by omega
 have hlh:l≤(h.toNat:Int):=by omega
 have hmx:max h 0=h:=by omega
 rcases hlo with⟨rfl,rfl⟩|⟨k,rfl⟩<;>rcases hhi with⟨rfl,rfl⟩|⟨k',rfl⟩ <;>
  simp[Instr.sliceBounds,Instr.sliceBound,asIntOf,h0,h1,hh,hhc,hlh,hmx]
theorem Ajb(s:List UInt8){l h:Nat}(hl:l≤h)(hs:h≤s.length):(⟨⟨s⟩⟩:ByteArray).extract l h=⟨⟨(s.take h).drop l⟩⟩:=by
 have:∀(x y:ByteArray),x.data.toList=y.data.toList→x=y:=fun x y h=>by
  cases x;cases y;simp only[ByteArray.mk.injEq];exact zzq34.1 h
 apply this;simp[ByteArray.extract,ByteArray.copySlice,List.drop_take]
theorem Pj{ops:Array Oper}{i:Nat}{o:Oper}{t:Nat}{p:Operand}{lo hi:Option Operand}{s r:List UInt8}{l h:Int}{y:Ty}
 (ho:ops[i]?=some o)(hw:A8 ops F o=some true)(hop:o.op=.slice t p lo hi none)(hp:Dw X F p=some (str s))(hlo:Tl X F lo 0=some l)(hhi:Tl X F hi (s.length:Int)=some h)
 (hy:X.ty t=some y)(hyk:y.k=.string)(h0:0≤l)(h1:l≤h)(h2:h≤(s.length:Int))(hr:(s.take h.toNat).drop l.toNat=r):Ndo X N ops i o F (str r) S S:=by
 subst hr;refine Dj ho hw fun F' E w a hc hI hF=>?_;rw[hop]at hc;have r1:=Ak hI hF ((hc p (by simp[Op.operands])).trans hp);have b1:=X6 hI hF (show Tl X F' lo 0=some l by rw[Qg fun x hx=>hc x (by subst hx;simp[Op.operands])];exact hlo);have b2:=X6 hI hF (show Tl X F' hi (s.length:Int)=some h by rw[Qg fun x hx=>hc x (by subst hx;simp[Op.operands])];exact hhi);obtain⟨d,hdd,hd2⟩:=(X.ty_ok t y hy).agg;simp only[hyk]at hd2;subst hd2;generalize hu:a.eval p=u at r1;cases r1;have hb:=Ku (X:=X) (isS:=false) (len:=s.length) (cap:=s.length) (lo:=lo.map a.eval) (hi:=hi.map a.eval) (l:=l) (h:=h)
  (by rcases b1 with⟨rfl,rfl⟩|⟨x,k,rfl,hx⟩
      ·exact .inl ⟨rfl,rfl⟩
      ·exact .inr ⟨k,by simp[hx]⟩)
  (by rcases b2 with⟨rfl,rfl⟩|⟨x,k,rfl,hx⟩
      ·exact .inl ⟨rfl,rfl⟩
      ·exact .inr ⟨k,by simp[hx]⟩) h0 h1 h2 (Bo _) w
 have hsz:(⟨⟨s⟩⟩:ByteArray).size=s.length:=rfl;refine⟨.string ⟨⟨(s.take h.toNat).drop l.toNat⟩⟩,?_,.val _⟩;have he:=Ajb s (l:=l.toNat) (h:=h.toNat) (by omega) (by omega);simp[execOp,hop,hu,Instr.sliceAt,Instr.slice,run_underlying hdd,hsz,hb,he]
theorem Aby{ops:Array Oper}{i:Nat}{o:Oper}{t:Nat}{p:Operand}{lo hi:Option Operand}{rows r:List (List AV)}{sp:Sp}{l h:Int}{y ye:Ty}{e:Nat}
 (ho:ops[i]?=some o)(hw:A8 ops F o=some true)(hop:o.op=.slice t p lo hi none)(hp:Dw X F p=some (.sl rows sp))(hlo:Tl X F lo 0=some l)(hhi:Tl X F hi (rows.length:Int)=some h)
 (hy:X.ty t=some y)(hyk:y.k=.slc e)(hye:X.ty e=some ye)(h0:0≤l)(h1:l≤h)(h2:h≤(rows.length:Int))(hl:Kf ye.size rows=true)(hr:(rows.take h.toNat).drop l.toNat=r):Ndo X N ops i o F (.sl r .no) S S:=by
 subst hr;refine Dj ho hw fun F' E w a hc hI hF=>?_;rw[hop]at hc;have r1:=Ak hI hF ((hc p (by simp[Op.operands])).trans hp);have b1:=X6 hI hF (show Tl X F' lo 0=some l by rw[Qg fun x hx=>hc x (by subst hx;simp[Op.operands])];exact hlo);have b2:=X6 hI hF (show Tl X F' hi (rows.length:Int)=some h by rw[Qg fun x hx=>hc x (by subst hx;simp[Op.operands])];exact hhi);obtain⟨d,hdd,hd2⟩:=(X.ty_ok t y hy).agg;simp only[hyk]at hd2;obtain⟨rfl,ye',hye',hne0⟩:=hd2;rw[hye]at hye';cases hye';generalize hu:a.eval p=u at r1;cases r1 with
 |sl _ _ a' n cap b o' sz vals hn hx ha hsz hm hcl hrr hs hcap=>
 subst hn;have hb:=Ku (X:=X) (isS:=true) (len:=rows.length) (cap:=cap) (lo:=lo.map a.eval) (hi:=hi.map a.eval) (l:=l) (h:=h)
  (by rcases b1 with⟨rfl,rfl⟩|⟨x,k,rfl,hx⟩
      ·exact .inl ⟨rfl,rfl⟩
      ·exact .inr ⟨k,by simp[hx]⟩)
  (by rcases b2 with⟨rfl,rfl⟩|⟨x,k,rfl,hx⟩
      ·exact .inl ⟨rfl,rfl⟩
      ·exact .inr ⟨k,by simp[hx]⟩) h0 h1 h2 hcap w
 refine⟨.slice (if cap=l.toNat then a' else a'.map (·.add (l.toNat*ye.size))) (h.toNat-l.toNat) (cap-l.toNat),?_,?_⟩
 ·simp[execOp,hop,hu,Instr.sliceAt,Instr.slice,run_underlying hdd,hb,Dr hye]
 ·have hlen:((rows.take h.toNat).drop l.toNat).length=h.toNat-l.toNat:=by simp;omega
  have hget:∀i' r,((rows.take h.toNat).drop l.toNat)[i']?=some r→rows[l.toNat+i']?=some r:=fun i' r hi=>by
   rw[Nz,Mb]at hi;split at hi
   ·exact hi
   ·cases hi
  refine .sl _ .no _ _ _ b (o'+l.toNat*ye.size) ye.size (fun i' j'=>vals (l.toNat+i') j') hlen (by omega) (fun hne=>?_) (fun r hr=>Ip.1 hl r (Agn (List.mem_of_mem_drop hr))) (fun i' j' hi hj=>?_) (fun i' j' hi hj=>?_)
   (fun i' j' r x hi hj=>hrr _ _ r x (hget i' r hi) hj) trivial (by omega)
  ·rw[if_neg (by omega),ha (by omega)];simp[Ge]
  ·obtain⟨r0,hr0⟩:=Ab rows (i:=0) (by omega);have:sz=ye.size:=by rw[←hsz r0 (Bh hr0),Ip.1 hl r0 (Bh hr0)]
   subst this;have:=hm (l.toNat+i') j' (by omega) hj;rw[Rf,←Mj]at this;exact this
  ·obtain⟨r0,hr0⟩:=Ab rows (i:=0) (by omega);have:sz=ye.size:=by rw[←hsz r0 (Bh hr0),Ip.1 hl r0 (Bh hr0)]
   subst this;have:=hcl (l.toNat+i') j' (by omega) hj;rw[Rf,←Mj]at this;exact this
theorem Rq{ops:Array Oper}{i:Nat}{o:Oper}{t t':Nat}{p q:Operand}{s s' r:List UInt8}(ho:ops[i]?=some o)(hw:A8 ops F o=some true)(hop:o.op=.binOp .add t p q t')
 (hp:Dw X F p=some (str s))(hq:Dw X F q=some (str s'))(hl:s.length+s'.length≤1000000000000)(hr:s++s'=r):Ndo X N ops i o F (str r) S S:=by
 subst hr;refine Dj ho hw fun F' E w a hc hI hF=>?_;rw[hop]at hc;have r1:=Ak hI hF ((hc p (by simp[Op.operands])).trans hp);have r2:=Ak hI hF ((hc q (by simp[Op.operands])).trans hq);generalize hu:a.eval p=u at r1;generalize hv:a.eval q=v at r2;cases r1;cases r2;have hcat:(⟨⟨s⟩⟩:ByteArray)++⟨⟨s'⟩⟩=⟨⟨s++s'⟩⟩:=by
  have:∀(x y:ByteArray),x.data.toList=y.data.toList→x=y:=fun x y h=>by
   cases x;cases y;simp only[ByteArray.mk.injEq];exact zzq34.1 h
  apply this;simp
 have h1:(⟨⟨s⟩⟩:ByteArray).size=s.length:=rfl;have h2:(⟨⟨s'⟩⟩:ByteArray).size=s'.length:=rfl;refine⟨.string ⟨⟨s++s'⟩⟩,?_,.val _⟩;have hm:¬(IntKind.i64.max<(s.length:Int)+(s'.length:Int)):=by simp[IntKind.max,IntKind.bits,IntKind.signed];omega
 simp[execOp,hop,hu,hv,eqGuard,binOp,Op.stringOp,h1,h2,hm,hcat];omega
end
def M4:List Nat→List AV→List AV→Option Bool
 |[],[],[]=>some true
 |0::ks,.val (.int k a)::l,.val (.int k' b)::l'=>match M4 ks l l' with
  |some r=>match decide (k=k')with
   |true=>some ((a==b)&&r)
   |false=>none
  |none=>none
 |1::ks,.val (.string a)::l,.val (.string b)::l'=>match M4 ks l l' with
  |some r=>some ((a.data.toList==b.data.toList)&&r)
  |none=>none
 |2::ks,.val (.bool a)::l,.val (.bool b)::l'=>match M4 ks l l' with
  |some r=>some ((a==b)&&r)
  |none=>none
 |_,_,_=>none
def Zy(P:Program):List Field→Nat→Option (List Nat)
 |[],_=>some []
 |f::l,j=>match f.name != "_" && Nat.beq f.offset j with
  |true=>match Zy P l (j+1)with
   |some ks=>match P.underlying f.type with
    |some (.int _)=>some (0::ks)
    |some .string=>some (1::ks)
    |some .bool=>some (2::ks)
    |_=>none
   |none=>none
  |false=>none
def R6(P:Program)(t:Nat):Option (List Nat):=
 match !P.stoodInHeld t&&!P.eqGuardType P.depth t with
 |true=>match P.underlying t with
  |some (.struct fs)=>Zy P fs.toList 0
  |_=>none
 |false=>none
theorem Aly{P:Program}{t:Nat}{ks:List Nat}(h:R6 P t=some ks):P.underlying t=some (.struct (P.fieldsOf t))∧P.stoodInHeld t=false∧P.eqGuardType P.depth t=false∧Zy P (P.fieldsOf t).toList 0=some ks:=by
 unfold R6 at h;split at h
 ·rename_i hb;simp only[Dd,Ml]at hb;split at h
  ·rename_i fs hfs;have:P.fieldsOf t=fs:=by unfold Program.fieldsOf;rw[hfs]
   rw[this];exact⟨hfs,hb.1,hb.2,h⟩
  ·cases h
 ·cases h
section
variable {X:Cx}{B:Bx}{E:Env}{S:St}{w w':World}{F:C5}{a:Act}{N:Nat}{R:AE→St→Prop}
theorem Og{f:Field}{P:Program}{d:TypeDesc}(hf:P.underlying f.type=some d)(h1:∀fs,d≠.struct fs)(h2:∀n e,d≠.array n e){xs:Array Value}{v:Value}(hv:xs[f.offset]?=some v)(w:World) :
 (part f.type xs f.offset).run P w=.ok v w:=by
 have:(isAgg f.type).run P w=.ok false w:=by
  unfold isAgg;simp only[Sem.run_bind,run_underlying hf,Result.andThen_ok];cases d<;>first|(exact absurd rfl (h1 _))|(exact absurd rfl (h2 _ _))|simp
 simp[part,this,hv]
theorem Yc{P:Program}(w:World)(d:Nat)(xs ys:Array Value)(E:Env):∀(fs:List Field)(j:Nat)(ks:List Nat)(cs ds:List AV)(r:Bool),Zy P fs j=some ks→M4 ks cs ds=some r →
 (∀(i:Nat)(x:AV),cs[i]?=some x→∃v,xs[j+i]?=some v∧Rel E w v x)→(∀(i:Nat)(x:AV),ds[i]?=some x→∃v,ys[j+i]?=some v∧Rel E w v x) →
 (Op.eqFields (d+1) xs ys fs).run P w=.ok r w
 |[],j,ks,cs,ds,r,hf,he,_,_=>by
  simp only[Zy]at hf;cases hf;unfold M4 at he;split at he
  ·cases he;simp[Op.eqFields]
  ·cases ‹([]:List Nat)=_›
  ·cases ‹([]:List Nat)=_›
  ·cases ‹([]:List Nat)=_›
  ·cases he
 |f::fs,j,ks,cs,ds,r,hf,he,hx,hy=>by
  simp only[Zy]at hf;split at hf
  case h_2=>cases hf
  rename_i hno;simp only[Dd,bne_iff_ne,ne_eq]at hno;obtain⟨hn,ho⟩:=hno;have ho':=Ve ho;split at hf
  case h_2=>cases hf
  rename_i ks' hrest;have shift:∀{zs:Array Value} {c:AV} {cs:List AV},(∀(i:Nat) (x:AV),(c::cs)[i]?=some x→∃v,zs[j+i]?=some v∧Rel E w v x) →
   (∃v,zs[f.offset]?=some v∧Rel E w v c)∧∀(i:Nat)(x:AV),cs[i]?=some x→∃v,zs[j+1+i]?=some v∧Rel E w v x:=fun{zs c cs} h=>by
   refine⟨by rw[ho'];exact h 0 c rfl,fun i x hi=>?_⟩;have:=h (i+1) x (by simpa using hi);rwa[show j+(i+1)=j+1+i by omega]at this
  have fin:∀{cs ds:List AV} {u v:Value} {b r':Bool},M4 ks' cs ds=some r'→(∀(i:Nat) (x:AV),cs[i]?=some x→∃v,xs[j+1+i]?=some v∧Rel E w v x) →
   (∀(i:Nat)(x:AV),ds[i]?=some x→∃v,ys[j+1+i]?=some v∧Rel E w v x)→(part f.type xs f.offset).run P w=.ok v w→(part f.type ys f.offset).run P w=.ok u w →
   (Op.equalIn (d+1) f.type v u).run P w=.ok b w→r=(b&&r')→(Op.eqFields (d+1) xs ys (f::fs)).run P w=.ok r w:=fun{cs ds u v b r'} h1 hx' hy' p1 p2 h2 h3=>by
   have ih:=Yc w d xs ys E fs (j+1) ks' cs ds r' hrest h1 hx' hy';simp only[Op.eqFields,hn,not_false_eq_true,if_true,Sem.run_bind,p1,p2,h2,Result.andThen_ok,ne_eq];subst h3;cases b
   ·simp
   ·simpa using ih
  split at hf
  ·rename_i k0 hu;cases hf;unfold M4 at he;split at he
   ·cases ‹(0::ks':List Nat)=_›
   ·cases ‹(0::ks':List Nat)=_›;split at he
    ·rename_i r' hr';split at he
     ·rename_i hk;cases he;obtain rfl:=A5 hk;obtain⟨⟨v,hv,hrv⟩,hx'⟩:=shift hx;obtain⟨⟨u,hu',hru⟩,hy'⟩:=shift hy;cases hrv;cases hru;exact fin hr' hx' hy' (Og hu (fun _ h=>by cases h) (fun _ _ h=>by cases h) hv w) (Og hu (fun _ h=>by cases h) (fun _ _ h=>by cases h) hu' w) (run_equalIn_int w d f.type _ _ _ _ hu) rfl
     ·cases he
    ·cases he
   ·cases ‹(0::ks':List Nat)=_›
   ·cases ‹(0::ks':List Nat)=_›
   ·cases he
  ·rename_i hu;cases hf;unfold M4 at he;split at he
   ·cases ‹(1::ks':List Nat)=_›
   ·cases ‹(1::ks':List Nat)=_›
   ·cases ‹(1::ks':List Nat)=_›;split at he
    ·rename_i r' hr';cases he;obtain⟨⟨v,hv,hrv⟩,hx'⟩:=shift hx;obtain⟨⟨u,hu',hru⟩,hy'⟩:=shift hy;cases hrv;cases hru;exact fin hr' hx' hy' (Og hu (fun _ h=>by cases h) (fun _ _ h=>by cases h) hv w) (Og hu (fun _ h=>by cases h) (fun _ _ h=>by cases h) hu' w) (run_equalIn_string w d f.type _ _ hu) (by rw[ByteArray.toList_eq,ByteArray.toList_eq])
    ·cases he
   ·cases ‹(1::ks':List Nat)=_›
   ·cases he
  ·rename_i hu;cases hf;unfold M4 at he;split at he
   ·cases ‹(2::ks':List Nat)=_›
   ·cases ‹(2::ks':List Nat)=_›
   ·cases ‹(2::ks':List Nat)=_›
   ·cases ‹(2::ks':List Nat)=_›;split at he
    ·rename_i r' hr';cases he;obtain⟨⟨v,hv,hrv⟩,hx'⟩:=shift hx;obtain⟨⟨u,hu',hru⟩,hy'⟩:=shift hy;cases hrv;cases hru;exact fin hr' hx' hy' (Og hu (fun _ h=>by cases h) (fun _ _ h=>by cases h) hv w) (Og hu (fun _ h=>by cases h) (fun _ _ h=>by cases h) hu' w) (run_equalIn_bool w d f.type _ _ hu) rfl
    ·cases he
   ·cases he
  ·cases hf
theorem Vi{ops:Array Oper}{i:Nat}{o:Oper}{op:BinOp}{t t':Nat}{p q:Operand}{cs ds:List AV}{ks:List Nat}{e r:Bool}(ho:ops[i]?=some o)(hw:A8 ops F o=some true)(hop:o.op=.binOp op t p q t')
 (hp:Dw X F p=some (.agg cs))(hq:Dw X F q=some (.agg ds))(hfl:R6 X.P t=some ks)(he:M4 ks cs ds=some e)(hr:(op=.eql∧e=r)∨(op=.neq∧(!e)=r)):Ndo X N ops i o F (.val (.bool r)) S S:=by
 refine Dj ho hw fun F' E w a hc hI hF=>?_;rw[hop]at hc;have r1:=Ak hI hF ((hc p (by simp[Op.operands])).trans hp);have r2:=Ak hI hF ((hc q (by simp[Op.operands])).trans hq);obtain⟨h1,h2,h3,h4⟩:=Aly hfl;generalize hu:a.eval p=u at r1;generalize hv:a.eval q=v at r2;cases r1 with
 |agg xs _ hl hr1=>
 cases r2 with
 |agg ys _ hl' hr2=>
 have hrun:=Yc (P:=X.P) w 9998 xs ys E (X.P.fieldsOf t).toList 0 ks cs ds e h4 he
  (fun i x hi=>by obtain⟨v,hv⟩:=Kw xs (i:=i) (by rw[hl];exact Aa hi);exact⟨v,by simpa using hv,hr1 i v x hv hi⟩)
  (fun i x hi=>by obtain⟨v,hv⟩:=Kw ys (i:=i) (by rw[hl'];exact Aa hi);exact⟨v,by simpa using hv,hr2 i v x hv hi⟩)
 have heq:=run_equalIn_struct (P:=X.P) w 9999 t xs ys h1 h2;rw[hrun]at heq;have hg:=run_eqGuard_agg (P:=X.P) w op t p q xs ys h3;rcases hr with⟨rfl,rfl⟩|⟨rfl,rfl⟩
 ·exact⟨_,by simp[execOp,hop,hu,hv,hg,run_eql_struct,heq],.val _⟩
 ·exact⟨_,by simp[execOp,hop,hu,hv,hg,run_neq_struct,heq],.val _⟩
end
def Iq:List Oper→List Nat→List Nat
 |[],bs=>bs
 |o::os,bs=>Iq os (bs++[Ass bs o.after.toList])
def Alq(s:List UInt8):List (List AV):=s.map fun c=>[AV.val (.int .u8 c.toNat)]
theorem An{α:Type}{P:α→Prop}{l:List α}{x:α}(h:P x)(t:∀y,y∈l→P y):∀y,y∈x::l→P y:=fun y hy=>by
 rcases zzq13.1 hy with rfl|hy
 ·exact h
 ·exact t y hy
theorem Gy{α:Type}{P:α→Prop}:∀y,y∈([]:List α)→P y:=fun y hy=>by cases hy
section
variable {X:Cx}{B:Bx}{E:Env}{S S':St}{w w':World}{F:C5}{a:Act}{N:Nat}{R:AE→St→Prop}{ops:Array Oper}{bs:List Nat}{em:Nat}{os:List Oper}{i:Nat}{o:Oper}{x:AV}{Hs:List St}{pend:List J2}{K:C5→St→Prop}
theorem De{id:Nat}{k:List Item}(em:Nat)(hst:R0 ops (Iq ops.toList []) em=true)
 (h:Drv X B.fn.ntmps ops (Iq ops.toList []) em ops.toList 0 F S [S] [] fun F' S'=>AK X B k F' S' R):AK X B (.code (.region id ops true)::k) F S R:=
 Av0 _ em hst h
theorem Kk(h:∀S',Ndo X N ops i o F x S' S')(hd:D3 N o.dst=true)(k:Drv X N ops bs em os (i+1) (putF o.dst x F) S Hs pend K):Drv X N ops bs em (o::os) i F S Hs pend K:=
 .inl ⟨x,hd,h,k⟩
theorem Ak1(ho:ops[i]?=some o)(hw:A8 ops F o=some true)(h:∀S',Ej X F S' o.op=some x)(hd:D3 N o.dst=true)(k:Drv X N ops bs em os (i+1) (putF o.dst x F) S Hs pend K) :
 Drv X N ops bs em (o::os) i F S Hs pend K:=
 Kk (fun S'=>Ck ho hw (h S')) hd k
theorem Agu(ho:ops[i]?=some o)(hw:A8 ops F o=some true)(h:∀bx tk,Kl X F ⟨bx,tk⟩ o.op=some (x,⟨bx,tk⟩))(hd:D3 N o.dst=true)(k:Drv X N ops bs em os (i+1) (putF o.dst x F) S Hs pend K) :
 Drv X N ops bs em (o::os) i F S Hs pend K:=
 Kk (fun⟨bx,tk⟩=>Lu ho hw (h bx tk)) hd k
theorem P8(h:∀S',S'∈Hs→Ndo X N ops i o F x S' S')(hd:D3 N o.dst=true)(k:Drv X N ops bs em os (i+1) (putF o.dst x F) S Hs ((i,o,F,x)::pend) K):Drv X N ops bs em (o::os) i F S Hs pend K:=
 .inr (.inl ⟨x,hd,h,k⟩)
theorem Aet{S0:St}(ho:ops[i]?=some o)(hw:A8 ops F o=some true)(h:Ej X F S0 o.op=some x)(hd:D3 N o.dst=true)(k:Drv X N ops bs em os (i+1) (putF o.dst x F) S [S0] ((i,o,F,x)::pend) K) :
 Drv X N ops bs em (o::os) i F S [S0] pend K:=
 P8 (An (Ck ho hw h) Gy) hd k
theorem Ang{pend':List J2}(h:Ndo X N ops i o F x S S')(he:em.testBit i=true)(hd:D3 N o.dst=true)(hp:pend.filter (fun p=>!bitOf bs p.1 i)=pend')
 (hr:∀p,p∈pend'→Ndo X N ops p.1 p.2.1 p.2.2.1 p.2.2.2 S' S')(k:Drv X N ops bs em os (i+1) (putF o.dst x F) S' (S'::Hs) pend' K):Drv X N ops bs em (o::os) i F S Hs pend K:=
 .inr (.inr ⟨x,S',pend',he,hd,h,hp,hr,k⟩)
theorem Ary(h:Ndo X N ops i o F x S S')(he:em.testBit i=true)(hd:D3 N o.dst=true)(hp:pend.filter (fun p=>!bitOf bs p.1 i)=[])
 (k:Drv X N ops bs em os (i+1) (putF o.dst x F) S' (S'::Hs) [] K):Drv X N ops bs em (o::os) i F S Hs pend K:=
 Ang h he hd hp Gy k
theorem Arx(h:K F S):Drv X N ops bs em [] i F S Hs pend K:=h
theorem A7{t:Nat}{p q:Operand}{y:Ty}{u v:AV}(ho:ops[i]?=some o)(hw:A8 ops F o=some true)(hop:o.op=.store t p q)(hy:X.ty t=some y)(hp:Dw X F p=some u)(hq:Dw X F q=some v)
 (h:U5 S y.size u v=some S'):Ndo X N ops i o F .junk S S':=by
 intro F' E w a hl hI hF;have hlo:=G0 hl;rw[hop]at hlo;have r1:=Ak hI hF ((Dk (X:=X) (F:=F) (F':=F') (o:=p) fun s hs=>hlo s (by simp[Op.operands,hs])).trans hp);have r2:=Ak hI hF ((Dk (X:=X) (F:=F) (F':=F') (o:=q) fun s hs=>hlo s (by simp[Op.operands,hs])).trans hq);obtain⟨w',h1,h2,h3⟩:=Y2 hI hy r1 r2 h;exact Does.val (v:=undef) ho (Cr hF (by rw[C6 hl];exact hw)) (by simp[execOp,hop,h1]) (.inr ⟨rfl,rfl⟩) ⟨E,h2,h3,.junk _⟩
theorem X1(ho:ops[i]?=some o)(hw:A8 ops F o=some false):Ndo X N ops i o F (.val (.tuple #[])) S S:=by
 intro F' E w a hl hI hF b k cs rest;exact⟨undef,w,⟨E,hI,Evol.refl _ _ _ _,.val undef⟩,.one (by rw[ho];exact Xq ho (Cr hF (by rw[C6 hl];exact hw)))⟩
theorem Awc{b:Bool}(h:Ndo X N ops i o F (.val (.bool b)) S S'):Ndo X N ops i o F (.lit b) S S':=by
 intro F' E w a hl hI hF;intro b' k cs rest;obtain⟨v,w',⟨E',h1,h2,h3⟩,h4⟩:=h F' E w a hl hI hF b' k cs rest;refine⟨v,w',⟨E',h1,h2,?_⟩,h4⟩;cases h3;exact .lit b
theorem Mp{t e m:Nat}{p q:Operand}{cs r:List AV}{ik:IntKind}{n:Int}{y ye:Ty}(ho:ops[i]?=some o)(hw:A8 ops F o=some true)(hop:o.op=.indexAddr t p q)
 (hp:Dw X F p=some (.cptr cs))(hq:Dw X F q=some (.val (.int ik n)))(hy:X.ty t=some y)(hyk:y.k=.arr m e)(hye:X.ty e=some ye)(h0:0≤n)(h1:n<(m:Int))(hl:n.toNat*ye.size≤cs.length)
 (hr:cs.drop (n.toNat*ye.size)=r):Ndo X N ops i o F (.cptr r) S S:=by
 subst hr;refine Dj ho hw fun F' E w a hc hI hF=>?_;rw[hop]at hc;have r1:=Ak hI hF ((hc p (by simp[Op.operands])).trans hp);have r2:=Ak hI hF ((hc q (by simp[Op.operands])).trans hq);obtain⟨d,hdd,hd2⟩:=(X.ty_ok t y hy).agg;simp only[hyk]at hd2;obtain⟨rfl,ye',hye',_⟩:=hd2;rw[hye]at hye';cases hye';generalize hu:a.eval p=u at r1;generalize hv:a.eval q=v at r2;cases r2;cases r1 with
 |cptr _ b o' vals hm hcl hrr=>
  refine⟨.pointer (some ⟨b,o'+n.toNat*ye.size,none⟩),?_,?_⟩
  ·simp[execOp,hop,hu,hv,Instr.indexAt,asIntOf,run_underlying hdd,Instr.sureAddr,h0,h1,Dr hye,Ge]
  ·refine .cptr _ b _ (fun j=>vals (n.toNat*ye.size+j)) (fun j hj=>?_) (fun j hj=>?_) (fun j x hx=>hrr _ x (by simpa using hx))
   ·have:=hm (n.toNat*ye.size+j) (by simp at hj;omega);rwa[←Mj]at this
   ·have:=hcl (n.toNat*ye.size+j) (by simp at hj;omega);rwa[←Mj]at this
theorem W4{t e m:Nat}{p q:Operand}{cs:List AV}{ik:IntKind}{n:Int}{y ye:Ty}(ho:ops[i]?=some o)(hw:A8 ops F o=some true)(hop:o.op=.index t p q)
 (hp:Dw X F p=some (.agg cs))(hq:Dw X F q=some (.val (.int ik n)))(hy:X.ty t=some y)(hyk:y.k=.arr m e)(hye:X.ty e=some ye)(hone:Gg ye.k=false)(h0:0≤n)(h1:n<(m:Int))
 (hr:cs[n.toNat]?=some x):Ndo X N ops i o F x S S:=by
 refine Dj ho hw fun F' E w a hc hI hF=>?_;rw[hop]at hc;have r1:=Ak hI hF ((hc p (by simp[Op.operands])).trans hp);have r2:=Ak hI hF ((hc q (by simp[Op.operands])).trans hq);obtain⟨d,hdd,hd2⟩:=(X.ty_ok t y hy).agg;simp only[hyk]at hd2;obtain⟨rfl,ye',hye',_⟩:=hd2;rw[hye]at hye';cases hye';obtain⟨_,_,_,_,_,_,_,_,hs1⟩:=(X.ty_ok e ye hye).info;have hs:=hs1 hone;generalize hu:a.eval p=u at r1;generalize hv:a.eval q=v at r2;cases r2;cases r1 with
 |agg vs _ hl hrr=>
  obtain⟨v,hv'⟩:=Kw vs (i:=n.toNat) (by rw[hl];exact Aa hr);exact⟨v,by simp[execOp,hop,hu,hv,Instr.index,asIntOf,run_underlying hdd,h0,h1,Dr hye,hs,part,Z5 hye,hone,hv'],hrr _ v x hv' hr⟩
theorem Acp{src dst e:Nat}{p:Operand}{rows:List (List AV)}{sp:Sp}{s:List UInt8}{y ye yd:Ty}(ho:ops[i]?=some o)(hw:A8 ops F o=some true)(hop:o.op=.convert src dst p)
 (hp:Dw X F p=some (.sl rows sp))(hy:X.ty src=some y)(hyk:y.k=.slc e)(hye:X.ty e=some ye)(hyek:ye.k=.int .u8)(hyd:X.ty dst=some yd)(hydk:yd.k=.string)(hr:rows=Alq s):Ndo X N ops i o F (str s) S S:=by
 subst hr;refine Dj ho hw fun F' E w a hc hI hF=>?_;rw[hop]at hc;have r1:=Ak hI hF ((hc p (by simp[Op.operands])).trans hp);obtain⟨d,hdd,hd2⟩:=(X.ty_ok src y hy).agg;simp only[hyk]at hd2;obtain⟨rfl,_⟩:=hd2;obtain⟨d,hde,hd2⟩:=(X.ty_ok e ye hye).agg;simp only[hyek]at hd2;subst hd2;obtain⟨d,hds,hd2⟩:=(X.ty_ok dst yd hyd).agg;simp only[hydk]at hd2;subst hd2;generalize hu:a.eval p=u at r1;cases r1 with
 |sl _ _ a' n cap b o' sz vals hn hx ha hsz hm hcl hrr hs hcap=>
  have hlen:n=s.length:=by rw[←hn];simp[Alq]
  subst hlen;refine⟨.string ⟨⟨s⟩⟩,?_,.val _⟩;simp only[execOp,hop,hu];cases s with
  |nil=>
   cases a' with
   |none=>simp[run_convert_bytes_string w src dst e _ _ _ hdd hde hds,Conv.bytesToString];rfl
   |some a0=>
    have:=run_convert_bytes_back w src dst e a0 cap [] hdd hde hds (fun j hj=>by simp at hj);simp at this⊢;rw[this];rfl
  |cons c l=>
   have ha':=ha (by simp);subst ha';have hs1:sz=1:=by rw[←hsz _ (zzq66.2 ⟨c,by simp,rfl⟩)];rfl
   subst hs1;have:=run_convert_bytes_back w src dst e ⟨b,o',none⟩ cap (c::l) hdd hde hds (fun j hj=>by
    have h1:=hcl j 0 hj (by omega);have h2:=hrr j 0 [AV.val (.int .u8 ((c::l)[j]).toNat)] (.val (.int .u8 ((c::l)[j]).toNat)) (by simp only[Alq];rw[Gl,Wv hj];rfl) rfl;rw[Ge];simp only[Nat.mul_one,Px]at h1;rw[h1];generalize vals j 0=u at h2;cases h2;rfl)
   simp only[Sem.run_bind,this,Result.andThen_ok];rfl
end
def upd{α:Type}:List α→List Nat→List α→List α
 |l,t::ts,x::xs=>upd (l.set t x) ts xs
 |l,_,_=>l
theorem Acg{α:Type}:∀(l:List α)(ts:List Nat)(xs:List α),(upd l ts xs).length=l.length
 |l,t::ts,x::xs=>by simp[upd,Acg]
 |l,[],_=>by simp[upd]
 |l,_::_,[]=>by simp[upd]
theorem Y6{α:Type}:∀(l:List α)(ts:List Nat)(xs:List α)(i:Nat),i∉ts→(upd l ts xs)[i]?=l[i]?
 |l,t::ts,x::xs,i,h=>by
  simp only[upd];rw[Y6 _ ts xs i (fun h'=>h (by simp[h']))];have:t≠i:=fun e=>h (by simp[e]);simp[Vb,this]
 |l,[],_,i,_=>by simp[upd]
 |l,_::_,[],i,_=>by simp[upd]
theorem Aio{α:Type}:∀(l:List α)(ts:List Nat)(xs:List α)(j i:Nat),ts.Nodup→ts[j]?=some i→i<l.length→j<xs.length→(upd l ts xs)[i]?=xs[j]?
 |l,t::ts,x::xs,0,i,hn,h,hi,_=>by
  simp at h;subst h;simp only[upd];rw[Y6 _ ts xs t (List.nodup_cons.1 hn).1];simp[hi]
 |l,t::ts,x::xs,j+1,i,hn,h,hi,hj=>by
  simp only[upd];rw[Aio _ ts xs j i (List.nodup_cons.1 hn).2 (by simpa using h) (by simpa using hi) (by simpa using hj)];simp
 |l,[],_,j,i,_,h,_,_=>by simp at h
 |l,_::_,[],j,i,_,_,_,hj=>by simp at hj
theorem Aod{α β:Type}(f:α→β):∀(l:List α)(ts:List Nat)(xs:List α),(upd l ts xs).map f=upd (l.map f) ts (xs.map f)
 |l,t::ts,x::xs=>by simp only[upd,N0];rw[Aod f,Zc]
 |l,[],_=>by simp[upd]
 |l,_::_,[]=>by simp[upd]
def A0p(d:Bool)(τ:List Nat)(sp sp':Sp):Prop:=
 (d=true∧sp'=.no)∨(d=false∧sp=.no)∨(sp=.no∧sp'=.no)∨(sp=.tight∧sp'=.tight)∨∃t t',sp=.tok t∧sp'=.tok t'∧τ[t']?=some t
inductive Ren (d:Bool)(σ τ:List Nat):AV→AV→Prop where
 |flat (x:AV) (h:Ok 0 0 x):Ren d σ τ x x
 |ptr (b b' r o:Nat) (h:σ[b']?=some b):Ren d σ τ (.ptr b r o) (.ptr b' r o)
 |bsl (b b' k:Nat) (h:σ[b']?=some b):Ren d σ τ (.bsl b k) (.bsl b' k)
 |tagN (te b b':Nat) (h:σ[b']?=some b):Ren d σ τ (.tagN te b) (.tagN te b')
 |buf (te:Nat) (s:List UInt8) (t t':Nat) (h:τ[t']?=some t):Ren d σ τ (.buf te s t) (.buf te s t')
 |psl (rows:List (List AV)) (t t' v:Nat) (h:τ[t']?=some t) (hl:He 0 0 rows):Ren d σ τ (.psl rows t v) (.psl rows t' v)
 |sl (rows rows':List (List AV)) (sp sp':Sp) (hl:rows'.length=rows.length) (hll:∀(i:Nat) (r r':List AV),rows[i]?=some r→rows'[i]?=some r'→r'.length=r.length)
   (hz:∀(i j:Nat)(r r':List AV)(x y:AV),rows[i]?=some r→rows'[i]?=some r'→r[j]?=some x→r'[j]?=some y→Ren d σ τ x y)(hs:A0p d τ sp sp'):Ren d σ τ (.sl rows sp) (.sl rows' sp')
 |cptr (cs cs':List AV) (hl:cs'.length=cs.length) (hz:∀(j:Nat) (x y:AV),cs[j]?=some x→cs'[j]?=some y→Ren d σ τ x y):Ren d σ τ (.cptr cs) (.cptr cs')
 |agg (cs cs':List AV) (hl:cs'.length=cs.length) (hz:∀(j:Nat) (x y:AV),cs[j]?=some x→cs'[j]?=some y→Ren d σ τ x y):Ren d σ τ (.agg cs) (.agg cs')
 |tup (cs cs':List AV) (hl:cs'.length=cs.length) (hz:∀(j:Nat) (x y:AV),cs[j]?=some x→cs'[j]?=some y→Ren d σ τ x y):Ren d σ τ (.tup cs) (.tup cs')
 |fn (f:FuncId) (cs cs':List AV) (hl:cs'.length=cs.length) (hz:∀(j:Nat) (x y:AV),cs[j]?=some x→cs'[j]?=some y→Ren d σ τ x y):Ren d σ τ (.fn f cs) (.fn f cs')
inductive RenL (d:Bool)(σ τ:List Nat):List AV→List AV→Prop where
 |nil:RenL d σ τ [] []
 |cons {x y:AV} {l l':List AV} (h:Ren d σ τ x y) (t:RenL d σ τ l l'):RenL d σ τ (x::l) (y::l')
inductive RenR (d:Bool)(σ τ:List Nat):List (List AV)→List (List AV)→Prop where
 |nil:RenR d σ τ [] []
 |cons {x y:List AV} {l l':List (List AV)} (h:RenL d σ τ x y) (t:RenR d σ τ l l'):RenR d σ τ (x::l) (y::l')
inductive RenB (d:Bool)(σ τ:List Nat):List (List (List AV))→List (List (List AV))→Prop where
 |nil:RenB d σ τ [] []
 |cons {x y:List (List AV)} {l l':List (List (List AV))} (h:RenR d σ τ x y) (t:RenB d σ τ l l'):RenB d σ τ (x::l) (y::l')
section
variable {d:Bool}{σ τ:List Nat}
theorem RenL.get{l l':List AV}(h:RenL d σ τ l l'):l'.length=l.length∧∀(j:Nat)(x y:AV),l[j]?=some x→l'[j]?=some y→Ren d σ τ x y:=by
 induction h with
 |nil=>exact⟨rfl,fun j x y h=>by simp at h⟩
 |cons h t ih=>
  refine⟨by simp[ih.1],fun j x y hx hy=>?_⟩;cases j with
  |zero=>simp at hx hy;subst hx;subst hy;exact h
  |succ j=>exact ih.2 j x y (by simpa using hx) (by simpa using hy)
theorem RenR.get{l l':List (List AV)}(h:RenR d σ τ l l'):l'.length=l.length∧∀(j:Nat)(x y:List AV),l[j]?=some x→l'[j]?=some y→RenL d σ τ x y:=by
 induction h with
 |nil=>exact⟨rfl,fun j x y h=>by simp at h⟩
 |cons h t ih=>
  refine⟨by simp[ih.1],fun j x y hx hy=>?_⟩;cases j with
  |zero=>simp at hx hy;subst hx;subst hy;exact h
  |succ j=>exact ih.2 j x y (by simpa using hx) (by simpa using hy)
theorem RenB.get{l l':List (List (List AV))}(h:RenB d σ τ l l'):l'.length=l.length∧∀(j:Nat)(x y:List (List AV)),l[j]?=some x→l'[j]?=some y→RenR d σ τ x y:=by
 induction h with
 |nil=>exact⟨rfl,fun j x y h=>by simp at h⟩
 |cons h t ih=>
  refine⟨by simp[ih.1],fun j x y hx hy=>?_⟩;cases j with
  |zero=>simp at hx hy;subst hx;subst hy;exact h
  |succ j=>exact ih.2 j x y (by simpa using hx) (by simpa using hy)
theorem RenL.flat:∀{l:List AV},(∀x,x∈l→Ok 0 0 x)→RenL d σ τ l l
 |[],_=>.nil
 |x::l,h=>.cons (.flat x (h x (by simp))) (RenL.flat fun y hy=>h y (by simp[hy]))
theorem RenR.flat:∀{l:List (List AV)},He 0 0 l→RenR d σ τ l l
 |[],_=>.nil
 |x::l,h=>.cons (RenL.flat (h x (by simp))) (RenR.flat fun y hy=>h y (by simp[hy]))
theorem Zm{rows rows':List (List AV)}{sp sp':Sp}(h:RenR d σ τ rows rows')(hs:A0p d τ sp sp'):Ren d σ τ (.sl rows sp) (.sl rows' sp'):=
 .sl rows rows' sp sp' h.get.1 (fun i r r' h1 h2=>(h.get.2 i r r' h1 h2).get.1) (fun i j r r' x y h1 h2 h3 h4=>(h.get.2 i r r' h1 h2).get.2 j x y h3 h4) hs
theorem Anj{l l':List AV}(h:RenL d σ τ l l'):Ren d σ τ (.agg l) (.agg l'):=.agg l l' h.get.1 h.get.2
theorem Ank{l l':List AV}(h:RenL d σ τ l l'):Ren d σ τ (.tup l) (.tup l'):=.tup l l' h.get.1 h.get.2
theorem Asj{l l':List AV}(h:RenL d σ τ l l'):Ren d σ τ (.cptr l) (.cptr l'):=.cptr l l' h.get.1 h.get.2
theorem A0q{f:FuncId}{l l':List AV}(h:RenL d σ τ l l'):Ren d σ τ (.fn f l) (.fn f l'):=.fn f l l' h.get.1 h.get.2
end
section
variable {X:Cx}{B:Bx}{E:Env}{S:St}{w w':World}{F:C5}{a:Act}{N:Nat}{R:AE→St→Prop}{σ τ:List Nat}
theorem Ren.fwd{Ea Eb:Env}(hmt:∀b o,Eb.mt b o→Ea.mt b o)(hbox:∀(i j:Nat)(q:Nat×Nat),σ[j]?=some i→Ea.boxes[i]?=some (some q)→Eb.boxes[j]?=some (some q))
 (htok:∀(i j:Nat)(k:Tk),τ[j]?=some i→Ea.toks[i]?=some k→Eb.toks[j]?=some k){x y:AV}(h:Ren true σ τ x y):∀{v:Value},Rel Ea w v x→Rel Eb w v y:=by
 induction h with
 |flat x h=>exact fun hx=>hx.env h hmt
 |ptr b b' r o h=>
  intro v hx;cases hx with
  |ptr _ _ _ blk sz hB=>exact .ptr b' r o blk sz (hbox _ _ _ h hB)
 |bsl b b' k h=>
  intro v hx;cases hx with
  |bsl _ blk sz _ cap hB hcap=>exact .bsl b' blk sz k cap (hbox _ _ _ h hB) hcap
 |tagN te b b' h=>
  intro v hx;cases hx with
  |tagN _ _ blk sz hB ht=>exact .tagN te b' blk sz (hbox _ _ _ h hB) ht
 |buf te s t t' h=>
  intro v hx;cases hx with
  |buf _ _ _ a cap k hk hn hx hs hc=>exact .buf te s t' a cap k (htok _ _ _ h hk) hn hx (fun hl=>(hs hl).move (fun _ _ _ _ h=>h) (fun b o _ h=>hmt b o h) (fun _ _ h=>h)) hc
 |psl rows t t' ver h hl=>
  intro v hx;cases hx with
  |psl _ _ _ a n cap k sz vals hn hx hcap hk hv hsz hp hr hf=>
   exact .psl rows t' ver a n cap k sz vals hn hx hcap (htok _ _ _ h hk) hv hsz hp (fun i j r x h1 h2=>(hr i j r x h1 h2).env (hl r (Bh h1) x (Bh h2)) hmt) hf
 |sl rows rows' sp sp' hl hll hz hs ih=>
  intro v hx;cases hx with
  |sl _ _ a n cap b o sz vals hn hx ha hsz hm hc hr hsp hcap=>
   refine .sl rows' sp' a n cap b o sz vals (by omega) hx ha (fun r hr'=>?_) (fun i j hi hj hh=>hm i j hi hj (hmt _ _ hh)) hc (fun i j r' y hi hj=>?_) ?_ hcap
   ·obtain⟨i,hi⟩:=Bs hr';obtain⟨r0,hr0⟩:=Ab rows (i:=i) (by have:=Aa hi;omega);rw[hll i r0 r hr0 hi];exact hsz r0 (Bh hr0)
   ·obtain⟨r0,hr0⟩:=Ab rows (i:=i) (by have:=Aa hi;omega);obtain⟨x,hx'⟩:=Ab r0 (i:=j) (by have:=Aa hj;have:=hll i r0 r' hr0 hi;omega);exact ih i j r0 r' x y hr0 hi hx' hj (hr i j r0 x hr0 hx')
   ·rcases hs with⟨_,rfl⟩|⟨h,_⟩|⟨_,rfl⟩|⟨rfl,rfl⟩|⟨t,t',rfl,rfl,ht⟩
    ·trivial
    ·cases h
    ·trivial
    ·exact hsp
    ·obtain⟨k,hk,h1,h2⟩:=hsp;exact⟨k,htok _ _ _ ht hk,h1,h2⟩
 |cptr cs cs' hl hz ih=>
  intro v hx;cases hx with
  |cptr _ b o vals hm hc hr=>
   refine .cptr cs' b o vals (fun j hj hh=>hm j (by omega) (hmt _ _ hh)) (fun j hj=>hc j (by omega)) (fun j y hy=>?_);obtain⟨x,hx⟩:=Ab cs (i:=j) (by have:=Aa hy;omega);exact ih j x y hx hy (hr j x hx)
 |agg cs cs' hl hz ih=>
  intro v hx;cases hx with
  |agg vs _ hl' hr=>
   refine .agg vs cs' (by omega) (fun j v y hv hy=>?_);obtain⟨x,hx⟩:=Ab cs (i:=j) (by have:=Aa hy;omega);exact ih j x y hx hy (hr j v x hv hx)
 |tup cs cs' hl hz ih=>
  intro v hx;cases hx with
  |tup vs _ hl' hr=>
   refine .tup vs cs' (by omega) (fun j v y hv hy=>?_);obtain⟨x,hx⟩:=Ab cs (i:=j) (by have:=Aa hy;omega);exact ih j x y hx hy (hr j v x hv hx)
 |fn f cs cs' hl hz ih=>
  intro v hx;cases hx with
  |fn _ vs _ hl' hr=>
   refine .fn f vs cs' (by omega) (fun j v y hv hy=>?_);obtain⟨x,hx⟩:=Ab cs (i:=j) (by have:=Aa hy;omega);exact ih j x y hx hy (hr j v x hv hx)
theorem Ren.bwd{Ea Eb:Env}(hmt:∀b o,Eb.mt b o→Ea.mt b o)(hbox:∀(i j:Nat)(q:Nat×Nat),σ[j]?=some i→Ea.boxes[j]?=some (some q)→Eb.boxes[i]?=some (some q))
 (htok:∀(i j:Nat)(k:Tk),τ[j]?=some i→Ea.toks[j]?=some k→Eb.toks[i]?=some k){x y:AV}(h:Ren false σ τ x y):∀{v:Value},Rel Ea w v y→Rel Eb w v x:=by
 induction h with
 |flat x h=>exact fun hx=>hx.env h hmt
 |ptr b b' r o h=>
  intro v hx;cases hx with
  |ptr _ _ _ blk sz hB=>exact .ptr b r o blk sz (hbox _ _ _ h hB)
 |bsl b b' k h=>
  intro v hx;cases hx with
  |bsl _ blk sz _ cap hB hcap=>exact .bsl b blk sz k cap (hbox _ _ _ h hB) hcap
 |tagN te b b' h=>
  intro v hx;cases hx with
  |tagN _ _ blk sz hB ht=>exact .tagN te b blk sz (hbox _ _ _ h hB) ht
 |buf te s t t' h=>
  intro v hx;cases hx with
  |buf _ _ _ a cap k hk hn hx hs hc=>exact .buf te s t a cap k (htok _ _ _ h hk) hn hx (fun hl=>(hs hl).move (fun _ _ _ _ h=>h) (fun b o _ h=>hmt b o h) (fun _ _ h=>h)) hc
 |psl rows t t' ver h hl=>
  intro v hx;cases hx with
  |psl _ _ _ a n cap k sz vals hn hx hcap hk hv hsz hp hr hf=>
   exact .psl rows t ver a n cap k sz vals hn hx hcap (htok _ _ _ h hk) hv hsz hp (fun i j r x h1 h2=>(hr i j r x h1 h2).env (hl r (Bh h1) x (Bh h2)) hmt) hf
 |sl rows rows' sp sp' hl hll hz hs ih=>
  intro v hx;cases hx with
  |sl _ _ a n cap b o sz vals hn hx ha hsz hm hc hr hsp hcap=>
   refine .sl rows sp a n cap b o sz vals (by omega) hx ha (fun r hr'=>?_) (fun i j hi hj hh=>hm i j hi hj (hmt _ _ hh)) hc (fun i j r' y hi hj=>?_) ?_ hcap
   ·obtain⟨i,hi⟩:=Bs hr';obtain⟨r0,hr0⟩:=Ab rows' (i:=i) (by have:=Aa hi;omega);rw[←hll i r r0 hi hr0];exact hsz r0 (Bh hr0)
   ·obtain⟨r0,hr0⟩:=Ab rows' (i:=i) (by have:=Aa hi;omega);obtain⟨x,hx'⟩:=Ab r0 (i:=j) (by have:=Aa hj;have:=hll i r' r0 hi hr0;omega);exact ih i j r' r0 y x hi hr0 hj hx' (hr i j r0 x hr0 hx')
   ·rcases hs with⟨h,_⟩|⟨_,rfl⟩|⟨rfl,_⟩|⟨rfl,rfl⟩|⟨t,t',rfl,rfl,ht⟩
    ·cases h
    ·trivial
    ·trivial
    ·exact hsp
    ·obtain⟨k,hk,h1,h2⟩:=hsp;exact⟨k,htok _ _ _ ht hk,h1,h2⟩
 |cptr cs cs' hl hz ih=>
  intro v hx;cases hx with
  |cptr _ b o vals hm hc hr=>
   refine .cptr cs b o vals (fun j hj hh=>hm j (by omega) (hmt _ _ hh)) (fun j hj=>hc j (by omega)) (fun j y hy=>?_);obtain⟨x,hx⟩:=Ab cs' (i:=j) (by have:=Aa hy;omega);exact ih j y x hy hx (hr j x hx)
 |agg cs cs' hl hz ih=>
  intro v hx;cases hx with
  |agg vs _ hl' hr=>
   refine .agg vs cs (by omega) (fun j v y hv hy=>?_);obtain⟨x,hx⟩:=Ab cs' (i:=j) (by have:=Aa hy;omega);exact ih j y x hy hx (hr j v x hv hx)
 |tup cs cs' hl hz ih=>
  intro v hx;cases hx with
  |tup vs _ hl' hr=>
   refine .tup vs cs (by omega) (fun j v y hv hy=>?_);obtain⟨x,hx⟩:=Ab cs' (i:=j) (by have:=Aa hy;omega);exact ih j y x hy hx (hr j v x hv hx)
 |fn f cs cs' hl hz ih=>
  intro v hx;cases hx with
  |fn _ vs _ hl' hr=>
   refine .fn f vs cs (by omega) (fun j v y hv hy=>?_);obtain⟨x,hx⟩:=Ab cs' (i:=j) (by have:=Aa hy;omega);exact ih j y x hy hx (hr j v x hv hx)
def Env.ownS(E:Env)(σ τ:List Nat)(b:Nat):Prop:=
 (∃(i s:Nat),i∈σ∧E.boxes[i]?=some (some (b,s)))∨(∃(t l c sz:Nat),t∈τ∧E.toks[t]?=some (Tk.mk l (some (b,c,sz))))
def Env.sub(E:Env)(σ τ:List Nat):Env:=
 ⟨σ.map fun i=>E.boxes.getD i none,τ.map fun t=>E.toks.getD t ⟨0,none⟩,fun b o=>E.mt b o∧¬E.ownS σ τ b,[]⟩
theorem I8{j:Nat}{q:Nat×Nat}:(E.sub σ τ).boxes[j]?=some (some q)↔∃i,σ[j]?=some i∧E.boxes[i]?=some (some q):=by
 simp only[Env.sub,Gl];constructor
 ·intro h;cases hj:σ[j]? with
  |none=>rw[hj]at h;simp at h
  |some i=>
   rw[hj]at h;simp only[Lk,Option.some.injEq]at h;refine⟨i,rfl,?_⟩;cases hb:E.boxes[i]? with
   |none=>simp[List.getD,hb]at h
   |some x=>simp[List.getD,hb]at h;rw[h]
 ·rintro⟨i,h1,h2⟩;rw[h1];simp[List.getD,h2]
theorem J9{j:Nat}{k:Tk}(ht:∀t,t∈τ→t<E.toks.length):(E.sub σ τ).toks[j]?=some k↔∃t,τ[j]?=some t∧E.toks[t]?=some k:=by
 simp only[Env.sub,Gl];constructor
 ·intro h;cases hj:τ[j]? with
  |none=>rw[hj]at h;simp at h
  |some i=>
   rw[hj]at h;simp only[Lk,Option.some.injEq]at h;have hlt:=ht i (Bh hj);refine⟨i,rfl,?_⟩;simp[List.getD,hlt]at h⊢;exact h
 ·rintro⟨i,h1,h2⟩;rw[h1];simp[List.getD,h2]
theorem Pv(ht:∀t,t∈τ→t<E.toks.length){b:Nat}:(E.sub σ τ).own b↔E.ownS σ τ b:=by
 constructor
 ·rintro(⟨j,s,h⟩|⟨j,l,c,sz,h⟩)
  ·obtain⟨i,h1,h2⟩:=I8.1 h;exact .inl ⟨i,s,Bh h1,h2⟩
  ·obtain⟨t,h1,h2⟩:=(J9 ht).1 h;exact .inr ⟨t,l,c,sz,Bh h1,h2⟩
 ·rintro(⟨i,s,hi,h⟩|⟨t,l,c,sz,hi,h⟩)
  ·obtain⟨j,hj⟩:=Bs hi;exact .inl ⟨j,s,I8.2 ⟨i,hj,h⟩⟩
  ·obtain⟨j,hj⟩:=Bs hi;exact .inr ⟨j,l,c,sz,(J9 ht).2 ⟨t,hj,h⟩⟩
theorem O3{b:Nat}(h:E.ownS σ τ b):E.own b:=by
 rcases h with⟨i,s,_,h⟩|⟨t,l,c,sz,_,h⟩
 ·exact .inl ⟨i,s,h⟩
 ·exact .inr ⟨t,l,c,sz,h⟩
theorem Sz(ht:∀t,t∈τ→t<E.toks.length){b o:Nat}(h:(E.sub σ τ).mt b o):E.mt b o:=by
 rcases h with h|⟨j,s,h⟩|⟨j,l,c,sz,h,h'⟩
 ·exact h.1
 ·obtain⟨i,h1,h2⟩:=I8.1 h;exact .inr (.inl ⟨i,s,h2⟩)
 ·obtain⟨t,h1,h2⟩:=(J9 ht).1 h;exact .inr (.inr ⟨t,l,c,sz,h2,h'⟩)
theorem Aaf{α:Type}{l:List α}(hn:l.Nodup){i j:Nat}{x:α}(hi:l[i]?=some x)(hj:l[j]?=some x):i=j:=by
 have h1:=Aa hi;have h2:=Aa hj;rw[Wv h1]at hi;rw[Wv h2]at hj;exact(List.getElem_inj hn).1 ((Option.some.inj hi).trans (Option.some.inj hj).symm)
theorem Inv.sub(hI:Inv X E S w)(hσ:σ.Nodup)(hτ:τ.Nodup)(hτl:∀t,t∈τ→t<E.toks.length){Sc:St}(hb:RenB true σ τ (σ.map fun i=>S.boxes.getD i []) Sc.boxes)
 (hσl:∀i,i∈σ→i<S.boxes.length)(ht:τ.map (fun t=>S.toks.getD t 0)=Sc.toks):Inv X (E.sub σ τ) Sc w where
 nb:=by have:=hb.get.1;simp only[Py]at this;simp[Env.sub,this]
 nt:=by
  rw[←ht,←hI.nt];simp only[Env.sub,List.map_map];apply List.map_congr_left;intro t htm;have:=hτl t htm;simp[List.getD,this]
 np j hj:=by
  obtain⟨i,hi⟩:=Ab σ (i:=j) (by simpa[Env.sub]using hj);obtain⟨q,hq⟩:=hI.np i (by rw[hI.nb];exact hσl i (Bh hi));exact⟨q,I8.2 ⟨i,hi,hq⟩⟩
 box j b sz rows' h1 h2:=by
  obtain⟨i,h3,h4⟩:=I8.1 h1;have hi:=hσl i (Bh h3);obtain⟨rows,hrows⟩:=Ab S.boxes hi;have hR:=hb.get.2 j rows rows' (by simp[h3,List.getD,hrows]) h2;obtain⟨cs,e,hh,hs,hl,hr⟩:=hI.box i b sz rows h4 hrows;refine⟨cs,e,hh,by rw[hR.get.1];exact hs,fun r' hr'=>?_,fun k r' q y v hk hq hv=>?_⟩
  ·obtain⟨k,hk⟩:=Bs hr';obtain⟨r,hr0⟩:=Ab rows (i:=k) (by have:=Aa hk;have:=hR.get.1;omega);rw[(hR.get.2 k r r' hr0 hk).get.1];exact hl r (Bh hr0)
  ·obtain⟨r,hr0⟩:=Ab rows (i:=k) (by have:=Aa hk;have:=hR.get.1;omega);have hL:=hR.get.2 k r r' hr0 hk;obtain⟨x,hx⟩:=Ab r (i:=q) (by have:=Aa hq;have:=hL.get.1;omega);exact(hL.get.2 q x y hx hq).fwd (fun b o=>Sz hτl) (fun i j q h1 h2=>I8.2 ⟨i,h1,h2⟩) (fun i j k h1 h2=>(J9 hτl).2 ⟨i,h1,h2⟩) (hr k r q x v hr0 hx hv)
 tok t l b c sz h:=by
  obtain⟨i,h1,h2⟩:=(J9 hτl).1 h;exact hI.tok i l b c sz h2
 bb i j b s s' h1 h2:=by
  obtain⟨i',h3,h4⟩:=I8.1 h1;obtain⟨j',h5,h6⟩:=I8.1 h2;have:=hI.bb i' j' b s s' h4 h6;subst this;exact Aaf hσ h3 h5
 bt i t b s l c sz h1 h2:=by
  obtain⟨i',h3,h4⟩:=I8.1 h1;obtain⟨j',h5,h6⟩:=(J9 hτl).1 h2;exact hI.bt i' j' b s l c sz h4 h6
 tt i j b l c s l' c' s' h1 h2:=by
  obtain⟨i',h3,h4⟩:=(J9 hτl).1 h1;obtain⟨j',h5,h6⟩:=(J9 hτl).1 h2;have:=hI.tt i' j' b l c s l' c' s' h4 h6;subst this;exact Aaf hτ h3 h5
 frlt b o h:=⟨fun h'=>h.2 ((Pv hτl).1 h'),by
  rcases Aad hI h.1 with h|h
  ·exact hI.own_lt h
  ·exact(hI.frlt b o h).2⟩
 lo b h:=hI.lo b (O3 ((Pv hτl).1 h))
 frlo b o h:=by
  rcases Aad hI h.1 with h|h
  ·exact hI.lo b h
  ·exact hI.frlo b o h
 sz:=hI.sz
 glob:=hI.glob
end
end Go.V
