/- A part of the proof of the claim that the last text states: no condition of its own. -/
import Derived.Test.YtkbnfpldnpeliaaGreatDoorG5
set_option linter.unusedVariables false
set_option linter.unusedSimpArgs false
namespace Go.V
open Go Go.Proofs
theorem r_stmt (f:Nat)(ihb:∀ g,g<f→HBlock g):HStmt f:=by
 intro r hr hf hF
 obtain ⟨g,rfl⟩:∃ g,f=g+1:=⟨f-1,by omega⟩
 refine Hands.run Tryz.func259 ?_
 refine AK.hc [0] [] (r_take r wIf hr) ?_
 refine AK.if_ (fun h1=>?_) (fun h1=>?_)
 ·have ht:=takes_lt h1 (by simp)
  have hk:r.take wIf=r.step:=by simp [RS.take,h1]
  have a:=step_after ht.1
  have ls:=left_step ht.1
  have c:=a.trans (condR_after (a.ok hr))
  have lc:=left_after (condR_after (a.ok hr))
  have d:=c.trans ((stmts_after g).2.1 _ (c.ok hr))
  have ld:=left_after ((stmts_after g).2.1 _ (c.ok hr))
  simp only [stmtM]
  rw [if_pos h1,hk]
  refine AK.hc [0] [] (r_cond r.step (a.ok hr)) ?_
  refine AK.hc [0] [] (ihb g (by omega) (condR r.step).2 (c.ok hr) (by omega) (by omega)) ?_
  refine AK.hc [0] [] (r_take (blockM g (condR r.step).2).2 wElse (d.ok hr)) ?_
  refine AK.if_ (fun h2=>?_) (fun h2=>?_)
  ·have ht2:=takes_lt h2 (by simp)
   have hk2:(blockM g (condR r.step).2).2.take wElse=(blockM g (condR r.step).2).2.step:=by simp [RS.take,h2]
   have e:=step_after ht2.1
   have le:=left_step ht2.1
   rw [if_pos h2,hk2]
   refine AK.hc [0] [] (ihb g (by omega) (blockM g (condR r.step).2).2.step (e.ok (d.ok hr)) (by omega) (by omega)) ?_
   rw [nd_eq]
   exact AK.rb Tryz.func259 rfl rfl
  ·have hk2:(blockM g (condR r.step).2).2.take wElse=(blockM g (condR r.step).2).2:=by simp [RS.take,h2]
   rw [if_neg (by simp [h2]),hk2,nd_eq]
   exact AK.rb Tryz.func259 rfl rfl
 have hk1:r.take wIf=r:=by simp [RS.take,h1]
 rw [hk1]
 refine AK.hc [0] [] (r_take r wWhile hr) ?_
 refine AK.if_ (fun h2=>?_) (fun h2=>?_)
 ·have ht:=takes_lt h2 (by simp)
  have hk:r.take wWhile=r.step:=by simp [RS.take,h2]
  have a:=step_after ht.1
  have ls:=left_step ht.1
  have c:=a.trans (condR_after (a.ok hr))
  have lc:=left_after (condR_after (a.ok hr))
  simp only [stmtM]
  rw [if_neg (by simp [h1]),if_pos h2,hk]
  refine AK.hc [0] [] (r_cond r.step (a.ok hr)) ?_
  refine AK.hc [0] [] (ihb g (by omega) (condR r.step).2 (c.ok hr) (by omega) (by omega)) ?_
  refine AK.pc (p_two 25 (condR r.step).1 (blockM g (condR r.step).2).1) ?_
  exact AK.rb Tryz.func259 rfl rfl
 have hk2:r.take wWhile=r:=by simp [RS.take,h2]
 rw [hk2]
 refine AK.hc [0] [] (r_take r wFor hr) ?_
 refine AK.if_ (fun h3=>?_) (fun h3=>?_)
 ·have ht:=takes_lt h3 (by simp)
  have hk:r.take wFor=r.step:=by simp [RS.take,h3]
  have a:=step_after ht.1
  have ls:=left_step ht.1
  have b:=a.trans (nameR_after (a.ok hr))
  have c:=a.trans (forA_after (a.ok hr))
  have d:=c.trans (exprR_after (c.ok hr))
  have e:=a.trans (forB_after (a.ok hr))
  have e2:=e.trans (exprR_after (e.ok hr))
  have l1:=left_after (forB_after (a.ok hr))
  have l2:=left_after (exprR_after (e.ok hr))
  simp only [stmtM]
  rw [if_neg (by simp [h1]),if_neg (by simp [h2]),if_pos h3,hk]
  refine AK.hc [0] [] (r_name r.step (a.ok hr)) ?_
  refine AK.hc [0] [] (r_need r.step.nameR wFrom (b.ok hr)) ?_
  refine AK.hc [0] [] (r_exprR (forA r.step) (c.ok hr)) ?_
  refine AK.hc [0] [] (r_need (exprR (forA r.step)).2 wTo (d.ok hr)) ?_
  refine AK.hc [0] [] (r_exprR (forB r.step) (e.ok hr)) ?_
  refine AK.hc [0] [] (ihb g (by omega) (exprR (forB r.step)).2 (e2.ok hr) (by omega) (by omega)) ?_
  rw [nd_eq]
  exact AK.rb Tryz.func259 rfl rfl
 have hk3:r.take wFor=r:=by simp [RS.take,h3]
 rw [hk3]
 have hs:=simpleR_after hr
 have hT:stmtM (g+1) r=((simpleR r).1,(simpleR r).2.need [59]):=by simp only [stmtM];rw [if_neg (by simp [h1]),if_neg (by simp [h2]),if_neg (by simp [h3])]
 rw [hT]
 refine AK.hc [0] [] (r_take r wCheck hr) ?_
 refine AK.if_ (fun h4=>?_) (fun h4=>?_)
 ·have ht:=takes_lt h4 (by simp)
  have hk:r.take wCheck=r.step:=by simp [RS.take,h4]
  have a:=step_after ht.1
  have c:=a.trans (condR_after (a.ok hr))
  have hS:simpleR r=(.mk 27 [] 0 [(condR r.step).1],(condR r.step).2):=by simp only [simpleR];rw [if_pos h4]
  rw [hk,hS]
  refine AK.hc [0] [] (r_cond r.step (a.ok hr)) ?_
  refine AK.pc (p_one 27 (condR r.step).1) ?_
  refine AK.hc [0] [] (r_need (condR r.step).2 [59] (c.ok hr)) ?_
  exact AK.rb Tryz.func259 rfl rfl
 have hk4:r.take wCheck=r:=by simp [RS.take,h4]
 rw [hk4]
 refine AK.hc [0] [] (r_take r wRead hr) ?_
 refine AK.if_ (fun h5=>?_) (fun h5=>?_)
 ·have ht:=takes_lt h5 (by simp)
  have hk:r.take wRead=r.step:=by simp [RS.take,h5]
  have a:=step_after ht.1
  have c:=a.trans (nameR_after (a.ok hr))
  have hS:simpleR r=(.mk 23 r.step.name 0 [],r.step.nameR):=by simp only [simpleR];rw [if_neg (by simp [h4]),if_pos h5]
  rw [hk,hS,nd_eq]
  refine AK.hc [0] [] (r_name r.step (a.ok hr)) ?_
  refine AK.hc [0] [] (r_need r.step.nameR [59] (c.ok hr)) ?_
  exact AK.rb Tryz.func259 rfl rfl
 have hk5:r.take wRead=r:=by simp [RS.take,h5]
 rw [hk5]
 refine AK.hc [0] [] (r_take r wSkip hr) ?_
 refine AK.if_ (fun h6=>?_) (fun h6=>?_)
 ·have ht:=takes_lt h6 (by simp)
  have hk:r.take wSkip=r.step:=by simp [RS.take,h6]
  have a:=step_after ht.1
  have hS:simpleR r=(.mk 28 [] 0 [],r.step):=by simp only [simpleR];rw [if_neg (by simp [h4]),if_neg (by simp [h5]),if_pos h6]
  rw [hk,hS,nd_eq]
  refine AK.hc [0] [] (r_need r.step [59] (a.ok hr)) ?_
  exact AK.rb Tryz.func259 rfl rfl
 have hk6:r.take wSkip=r:=by simp [RS.take,h6]
 rw [hk6]
 refine AK.hc [0] [] (r_take r wStop hr) ?_
 refine AK.if_ (fun h7=>?_) (fun h7=>?_)
 ·have ht:=takes_lt h7 (by simp)
  have hk:r.take wStop=r.step:=by simp [RS.take,h7]
  have a:=step_after ht.1
  have hS:simpleR r=(.mk 29 [] 0 [],r.step):=by simp only [simpleR];rw [if_neg (by simp [h4]),if_neg (by simp [h5]),if_neg (by simp [h6]),if_pos h7]
  rw [hk,hS,nd_eq]
  refine AK.hc [0] [] (r_need r.step [59] (a.ok hr)) ?_
  exact AK.rb Tryz.func259 rfl rfl
 have hk7:r.take wStop=r:=by simp [RS.take,h7]
 have hS:simpleR r=setR r:=by simp only [simpleR];rw [if_neg (by simp [h4]),if_neg (by simp [h5]),if_neg (by simp [h6]),if_neg (by simp [h7])]
 rw [hk7,hS]
 have a:=nameR_after hr
 refine AK.hc [0] [] (r_name r hr) ?_
 refine AK.hc [0] [] (r_take r.nameR [91] (a.ok hr)) ?_
 refine AK.if_ (fun h8=>?_) (fun h8=>?_)
 ·have ht:=takes_lt h8 (by simp)
  have hk:r.nameR.take [91]=r.nameR.step:=by simp [RS.take,h8]
  have b:=a.trans (step_after ht.1)
  have c:=b.trans (exprR_after (b.ok hr))
  have d:=c.trans (need_after (s:=[93]) (c.ok hr) (by simp))
  have e:=d.trans (need_after (s:=[61]) (d.ok hr) (by simp))
  have f:=e.trans (exprR_after (e.ok hr))
  simp only [setR]
  rw [if_pos h8,hk]
  refine AK.hc [0] [] (r_exprR r.nameR.step (b.ok hr)) ?_
  refine AK.hc [0] [] (r_need (exprR r.nameR.step).2 [93] (c.ok hr)) ?_
  refine AK.hc [0] [] (r_need ((exprR r.nameR.step).2.need [93]) [61] (d.ok hr)) ?_
  refine AK.hc [0] [] (r_exprR (((exprR r.nameR.step).2.need [93]).need [61]) (e.ok hr)) ?_
  refine AK.pc (p_two 22 (exprR r.nameR.step).1 (exprR (((exprR r.nameR.step).2.need [93]).need [61])).1) ?_
  refine AK.hc [0] [] (r_need (exprR (((exprR r.nameR.step).2.need [93]).need [61])).2 [59] (f.ok hr)) ?_
  exact AK.rb Tryz.func259 rfl rfl
 ·have hk:r.nameR.take [91]=r.nameR:=by simp [RS.take,h8]
  have b:=a.trans (need_after (s:=[61]) (a.ok hr) (by simp))
  have c:=b.trans (exprR_after (b.ok hr))
  simp only [setR]
  rw [if_neg (by simp [h8]),hk]
  refine AK.hc [0] [] (r_need r.nameR [61] (a.ok hr)) ?_
  refine AK.hc [0] [] (r_exprR (r.nameR.need [61]) (b.ok hr)) ?_
  refine AK.pc (p_one 21 (exprR (r.nameR.need [61])).1) ?_
  refine AK.hc [0] [] (r_need (exprR (r.nameR.need [61])).2 [59] (c.ok hr)) ?_
  exact AK.rb Tryz.func259 rfl rfl
theorem bad_takes {r:RS}(h:r.bad=true)(s:List UInt8):r.takes s=false:=by simp [RS.takes,h]
theorem bad_need {r:RS}(h:r.bad=true)(s:List UInt8):(r.need s).bad=true:=by simp [RS.need,bad_takes h s,RS.spoil]
theorem bad_nameR {r:RS}(h:r.bad=true):r.nameR.bad=true:=by simp [RS.nameR,RS.named,h,RS.spoil]
theorem exprs_bad:∀ (f:Nat),(∀ r:RS,r.bad=true→(oneM f r).2.bad=true)∧(∀ r:RS,r.bad=true→(termM f r).2.bad=true)∧(∀ (x:Nd)(r:RS),r.bad=true→(termL f x r).2.bad=true) ∧
 (∀ r:RS,r.bad=true→(exprM f r).2.bad=true)∧(∀ (x:Nd)(r:RS),r.bad=true→(exprL f x r).2.bad=true):=by
 intro f
 induction f with
 | zero=>exact ⟨fun r h=>by simpa only [oneM] using h,fun r h=>by simpa only [termM] using h,fun x r h=>by simpa only [termL] using h,fun r h=>by simpa only [exprM] using h,fun x r h=>by simpa only [exprL] using h⟩
 | succ f ih =>
   obtain ⟨i1,i2,i3,i4,i5⟩:=ih
   refine ⟨fun r h=>?_,fun r h=>?_,fun x r h=>?_,fun r h=>?_,fun x r h=>?_⟩
   ·simp only [oneM];rw [if_pos h];exact h
   ·simp only [termM];exact i3 _ _ (i1 r h)
   ·simp only [termL];rw [if_neg (by simp [bad_takes h])];exact h
   ·simp only [exprM];exact i5 _ _ (i2 r h)
   ·simp only [exprL];rw [if_neg (by simp [bad_takes h]),if_neg (by simp [bad_takes h])];exact h
theorem bad_exprR {r:RS}(h:r.bad=true):(exprR r).2.bad=true:=(exprs_bad 6010).2.2.2.1 r h
def RS.on (r r':RS):Prop:=r'.bad=true∨r.at_<r'.at_
theorem on_need {r r':RS}(h:r.on r')(hk:r'.ok)(s:List UInt8)(hs:s≠[]):r.on (r'.need s):=by
 rcases h with h | h
 ·exact .inl (bad_need h s)
 ·exact .inr (Nat.lt_of_lt_of_le h (need_after hk hs).2.1)
theorem on_exprR {r r':RS}(h:r.on r')(hk:r'.ok):r.on (exprR r').2:=by
 rcases h with h | h
 ·exact .inl (bad_exprR h)
 ·exact .inr (Nat.lt_of_lt_of_le h (exprR_after hk).2.1)
theorem on_after {r r':RS}(h:r.step.after r'):r.on r':=.inr (Nat.lt_of_lt_of_le (Nat.lt_succ_self r.at_) h.2.1)
theorem on_nameR {r:RS}:r.on r.nameR:=by
 simp only [RS.nameR]
 split
 ·exact .inr (Nat.lt_succ_self _)
 ·exact .inl rfl
theorem setR_on {r:RS}(h:r.ok):r.on (setR r).2:=by
 have a:=nameR_after h
 have o:=on_nameR (r:=r)
 simp only [setR]
 split
 ·rename_i ht
  have b:=a.trans (step_after (takes_lt ht (by simp)).1)
  have c:=b.trans (exprR_after (b.ok h))
  have d:=c.trans (need_after (s:=[93]) (c.ok h) (by simp))
  have e:=d.trans (need_after (s:=[61]) (d.ok h) (by simp))
  rcases o with o | o
  ·rw [bad_takes o] at ht;cases ht
  ·exact .inr (Nat.lt_of_lt_of_le o ((step_after (takes_lt ht (by simp)).1).trans ((exprR_after (b.ok h)).trans ((need_after (s:=[93]) (c.ok h) (by simp)).trans ((need_after (s:=[61]) (d.ok h) (by simp)).trans (exprR_after (e.ok h)))))).2.1)
 ·have b:=a.trans (need_after (s:=[61]) (a.ok h) (by simp))
  exact on_exprR (on_need o (a.ok h) [61] (by simp)) (b.ok h)
theorem simpleR_on {r:RS}(h:r.ok):r.on (simpleR r).2:=by
 simp only [simpleR]
 split
 ·rename_i ht
  have b:=step_after (takes_lt ht (by simp)).1
  exact on_after (condR_after (b.ok h))
 split
 ·rename_i ht
  have b:=step_after (takes_lt ht (by simp)).1
  exact on_after (nameR_after (b.ok h))
 split
 ·rename_i ht
  exact on_after (after_refl ((step_after (takes_lt ht (by simp)).1).ok h))
 split
 ·rename_i ht
  exact on_after (after_refl ((step_after (takes_lt ht (by simp)).1).ok h))
 exact setR_on h
theorem stmtM_on (f:Nat){r:RS}(h:r.ok):r.on (stmtM (f+1) r).2:=by
 have i2:=(stmts_after f).2.1
 simp only [stmtM]
 split
 ·rename_i ht
  have b:=step_after (takes_lt ht (by simp)).1
  have c:=condR_after (b.ok h)
  have d:=c.trans (i2 _ (c.ok (b.ok h)))
  split
  ·rename_i ht2
   have e:=d.trans (step_after (takes_lt ht2 (by simp)).1)
   exact on_after (e.trans (i2 _ (e.ok (b.ok h))))
  ·exact on_after d
 split
 ·rename_i ht
  have b:=step_after (takes_lt ht (by simp)).1
  have c:=condR_after (b.ok h)
  exact on_after (c.trans (i2 _ (c.ok (b.ok h))))
 split
 ·rename_i ht
  have b:=step_after (takes_lt ht (by simp)).1
  have c:=forB_after (b.ok h)
  have d:=c.trans (exprR_after (c.ok (b.ok h)))
  exact on_after (d.trans (i2 _ (d.ok (b.ok h))))
 ·exact on_need (simpleR_on h) ((simpleR_after h).ok h) [59] (by simp)
theorem nrows_al (l:List Nd):allLen 4 (nrows l)=true:=by rw [nrows_map];exact allLen_map (f:=ncells) (fun _=>rfl) l
theorem r_list (f:Nat)(ih:∀ g,g<f→HStmt g):HList f:=by
 intro r hr hf hF
 refine Hands.run Tryz.func233 ?_
 generalize hTT:listM f [] r=T
 refine AK.mintB 2 0 3 rfl rfl rfl rfl rfl rfl ?_
 refine AK.while_ (ι:=Nat × List Nd × RS) 3 1 (fun i=>i.2.2.ok∧i.2.1.length+i.1≤f∧(i.2.2.bad=true∨3*i.2.2.left+2≤i.1)∧T=listM i.1 i.2.1 i.2.2)
  (fun i=>[(0,.ptr 0 0 0),(2,.ptr 1 0 0),(3,.ptr 2 0 0)])
  (fun i=>⟨[[rc i.2.2],[zN],[[vi 30,str [],vi 0,.sl (nrows i.2.1) (.tok 0)]]],[i.2.1.length]⟩) (fun i=>i.1) ?_ (f,[],r) ⟨hr,by simp,.inr hf,hTT.symm⟩ ⟨rfl,rfl,rfl,trivial⟩ rfl rfl rfl rfl rfl (fun _=>inferInstance) (fun _=>inferInstance)
 rintro ⟨n,acc,q⟩ ⟨hq,hlen,hfu,hTn⟩ IH
 simp only at hq hlen hfu hTn IH ⊢
 refine AK.ev 100 rfl ?_
 cases hb:q.bad with
 | true =>
   have hT:T=(acc,q):=by
    rw [hTn]
    cases n with
    | zero=>rfl
    | succ n=>simp only [listM];rw [if_neg (by simp [hb])]
   refine AK.dn 0 5 ?_
   refine Drv.t false ?_ (hb:=by simp [hb])
   refine Drv.gon 11 ?_
   refine Drv.t false ?_
   refine Drv.go ?_
   refine Drv.z ?_
   refine AK.no ?_
   rw [hT,nd_eq]
   refine AK.rb Tryz.func233 ?_ rfl
   rw [nrows_map]
 | false =>
   by_cases hlt:q.at_<q.ws.length
   ·refine AK.dn 0 5 ?_
    refine Drv.t true ?_ (hb:=by simp [hb])
    refine Drv.gon 11 ?_
    refine Drv.t true ?_ (hb:=decide_eq_true (by rw [wrows_len];omega))
    refine Drv.gon 1 ?_
    refine Drv.lo (Ndo.hd [0] [] (r_text q)) ?_
    refine Drv.go ?_
    refine Drv.z ?_
    refine AK.if_ (fun h=>?_) (fun h=>?_)
    ·have h':(!(q.text==[125]))=true:=h
     have hn1:2≤n:=by
      rcases hfu with h | h
      ·rw [hb] at h;cases h
      ·omega
     obtain ⟨m,rfl⟩:∃ m,n=m+1:=⟨n-1,by omega⟩
     have hfu':3*q.left+2≤m+1:=by
      rcases hfu with h | h
      ·rw [hb] at h;cases h
      ·exact h
     have hT:T=listM m (acc++[(stmtM m q).1]) (stmtM m q).2:=by
      rw [hTn];simp only [listM];rw [if_pos (by simp only [hb,h',Bool.not_false,Bool.true_and,Bool.and_true];exact decide_eq_true hlt)]
     have af:=(stmts_after m).1 q hq
     have lf:=left_after af
     have hon:q.on (stmtM m q).2:=by
      obtain ⟨p,rfl⟩:∃ p,m=p+1:=⟨m-1,by omega⟩
      exact stmtM_on p hq
     refine AK.dn 168 3 ?_
     refine Drv.wl (Ndo.hd [0] [] (ih m (by omega) q hq (by omega) (by omega))) ?_ ?_
     ·exact strip_eq (Ndo.ev rfl rfl rfl) allN
     refine Drv.m ?_
     refine Drv.w (Ndo.append (res:=nrows (acc++[(stmtM m q).1])) rfl rfl rfl rfl rfl rfl rfl rfl rfl rfl rfl rfl rfl rfl (nrows_len acc) (nrows_al acc) rfl rfl rfl ?_ ?_ rfl) ?_
     ·rw [nrows_len];simp;omega
     ·rw [nrows_map,nrows_map,List.map_append];rfl
     refine Drv.e ?_
     refine Drv.w (Ndo.store rfl rfl rfl rfl rfl rfl rfl) ?_
     refine Drv.z ?_
     refine IH (m,acc++[(stmtM m q).1],(stmtM m q).2) ⟨af.ok hq,by simp;omega,?_,hT⟩ (by simp only;omega) _ _ ⟨rfl,rfl,rfl,trivial⟩ ?_ rfl rfl
     ·rcases hon with h | h
      ·exact .inl h
      ·refine .inr ?_
       simp only
       have h3:(stmtM m q).2.left+1≤q.left:=by
        have e1:=af.1
        have e2:=af.2.2
        simp only [RS.left,e1] at *
        omega
       omega
     ·simp [St.drop,nrows_len,upd]
    ·have h':(!(q.text==[125]))=false:=h
     have hT:T=(acc,q):=by
      rw [hTn]
      cases n with
      | zero=>rfl
      | succ n=>simp only [listM];rw [if_neg (by simp [h'])]
     rw [hT,nd_eq]
     refine AK.rb Tryz.func233 ?_ rfl
     rw [nrows_map]
   ·have hT:T=(acc,q):=by
     rw [hTn]
     cases n with
     | zero=>rfl
     | succ n=>simp only [listM];rw [if_neg (by simp [hlt])]
    refine AK.dn 0 5 ?_
    refine Drv.t true ?_ (hb:=by simp [hb])
    refine Drv.gon 11 ?_
    refine Drv.t false ?_ (hb:=decide_eq_false (by rw [wrows_len];omega))
    refine Drv.go ?_
    refine Drv.z ?_
    refine AK.no ?_
    rw [hT,nd_eq]
    refine AK.rb Tryz.func233 ?_ rfl
    rw [nrows_map]
theorem r_stmts:∀ f,HStmt f∧HBlock f∧HList f:=by
 intro f
 induction f using Nat.strongRecOn with
 | ind f ih=>exact ⟨r_stmt f (fun g h=>(ih g h).2.1),r_block f (fun g h=>(ih g h).2.2),r_list f (fun g h=>(ih g h).1)⟩
def sizeR (q:RS):Int × RS:=if !q.bad&&q.kind==2 then (numberS q.text,q.step) else (-1,q.need [63])
def declR (r:RS):Nd × RS :=
 if r.takes wVar then (.mk 31 r.step.name 0 [],r.step.nameR)
 else (.mk 32 r.step.name (sizeR (r.step.nameR.need [91])).1 [],(sizeR (r.step.nameR.need [91])).2.need [93])
def isDecl (r:RS):Bool:=r.takes wVar||r.takes wArray
def declsM:Nat→List Nd→RS→List Nd × RS
 | 0,acc,r=>(acc,r)
 | f+1,acc,r=>if isDecl r then declsM f (acc++[(declR r).1]) ((declR r).2.need [59]) else (acc,r)
def RS.ends (r:RS):RS:=if r.at_<r.ws.length then r.spoil else r
def progR (r:RS):Nd × RS :=
 (.mk 40 [] 0 ((declsM 2000 [] r).1++[.mk 30 [] 0 (listM 5000 [] (declsM 2000 [] r).2).1]),(listM 5000 [] (declsM 2000 [] r).2).2.ends)
theorem sizeR_after {q:RS}(h:q.ok):q.after (sizeR q).2:=by
 simp only [sizeR]
 split
 ·rename_i hc
  simp only [Bool.and_eq_true,beq_iff_eq] at hc
  exact step_after (kind_lt (by omega))
 ·exact need_after h (by simp)
theorem declR_after {r:RS}(h:r.ok)(hd:isDecl r=true):r.step.after (declR r).2∧r.at_<r.ws.length:=by
 simp only [isDecl,Bool.or_eq_true] at hd
 have hlt:r.at_<r.ws.length:=by
  rcases hd with hd | hd
  ·exact (takes_lt hd (by simp)).1
  ·exact (takes_lt hd (by simp)).1
 have so:=(step_after hlt).ok h
 refine ⟨?_,hlt⟩
 simp only [declR]
 split
 ·exact nameR_after so
 ·have a:=nameR_after so
  have b:=a.trans (need_after (s:=[91]) (a.ok so) (by simp))
  have c:=b.trans (sizeR_after (b.ok so))
  exact c.trans (need_after (c.ok so) (by simp))
theorem declsM_after:∀ (f:Nat)(acc:List Nd)(r:RS),r.ok→r.after (declsM f acc r).2
 | 0,acc,r,h=>by simp only [declsM];exact after_refl h
 | f+1,acc,r,h=>by
   simp only [declsM]
   split
   ·rename_i hd
    obtain ⟨a,hlt⟩:=declR_after h hd
    have b:=(step_after hlt).trans a
    have c:=b.trans (need_after (s:=[59]) (b.ok h) (by simp))
    exact c.trans (declsM_after f _ _ (c.ok h))
   ·exact after_refl h
abbrev gP:Frm:=[(0,.ptr 0 0 0),(2,.ptr 1 0 0),(3,.ptr 2 0 0)]
abbrev sP (q:RS)(acc:List Nd):St:=⟨[[rc q],[zN],[[vi 40,str [],vi 0,.sl (nrows acc) (.tok 0)]]],[acc.length]⟩
theorem r_prog (r:RS)(hr:r.ok):Hands X 177 [.ptr 0 0 0] ⟨[[rc r]],[]⟩ (nd (progR r).1) ⟨[[rc (progR r).2]],[]⟩:=by
 refine Hands.run Tryz.func177 ?_
 obtain ⟨T,hTT⟩:∃ T,declsM 2000 [] r=T:=⟨_,rfl⟩
 have hleft:r.left≤1500:=by have:=hr.1;simp only [RS.left];omega
 have aT:r.after T.2:=by rw [← hTT];exact declsM_after 2000 [] r hr
 have hTl:T.1.length≤2000→AK X ⟨177,Tryz.f177,1,0⟩ (locG false 16 Tryz.f177) gP (sP T.2 T.1) (fun e S=>e=.ret (nd (progR r).1)∧S=⟨[[rc (progR r).2]],[]⟩):=fun hlen=>by
  refine AK.at_ ?_
  have to:=aT.ok hr
  have al:=(stmts_after 5000).2.2 [] T.2 to
  have hl5:3*T.2.left+2≤5000:=by have:=to.1;simp only [RS.left];omega
  refine AK.dn 168 3 ?_
  refine Drv.wl (Ndo.hd [0] [] ((r_stmts 5000).2.2 T.2 to hl5 (by omega))) ?_ ?_
  ·exact strip_eq (Ndo.ev rfl rfl rfl) allN
  refine Drv.m ?_
  refine Drv.w (Ndo.append (res:=nrows (T.1++[.mk 30 [] 0 (listM 5000 [] T.2).1])) rfl rfl rfl rfl rfl rfl rfl rfl rfl rfl rfl rfl rfl rfl (nrows_len T.1) (nrows_al T.1) rfl rfl rfl ?_ ?_ rfl) ?_
  ·rw [nrows_len];simp;omega
  ·rw [nrows_map,nrows_map,List.map_append];rfl
  refine Drv.e ?_
  refine Drv.w (Ndo.store rfl rfl rfl rfl rfl rfl rfl) ?_
  refine Drv.z ?_
  refine AK.dr ?_
  have hP:progR r=(.mk 40 [] 0 (T.1++[.mk 30 [] 0 (listM 5000 [] T.2).1]),(listM 5000 [] T.2).2.ends):=by simp only [progR];rw [hTT]
  rw [hP]
  refine AK.if_ (fun h=>?_) (fun h=>?_)
  ·have h':(listM 5000 [] T.2).2.at_<(listM 5000 [] T.2).2.ws.length:=by have:=of_decide_eq_true h;rw [wrows_len] at this;omega
   have he:(listM 5000 [] T.2).2.ends=(listM 5000 [] T.2).2.spoil:=by simp only [RS.ends];rw [if_pos h']
   rw [he,nd_eq]
   refine AK.rb Tryz.func177 ?_ rfl
   rw [nrows_map]
  ·have h':¬ (listM 5000 [] T.2).2.at_<(listM 5000 [] T.2).2.ws.length:=by have:=of_decide_eq_false h;rw [wrows_len] at this;omega
   have he:(listM 5000 [] T.2).2.ends=(listM 5000 [] T.2).2:=by simp only [RS.ends];rw [if_neg h']
   rw [he,nd_eq]
   refine AK.rb Tryz.func177 ?_ rfl
   rw [nrows_map]
 refine AK.mintB 2 0 3 rfl rfl rfl rfl rfl rfl ?_
 refine AK.while_ (ι:=Nat × List Nd × RS) 3 1 (fun i=>i.2.2.ok∧i.2.1.length+i.1≤2000∧i.2.2.left+1≤i.1∧T=declsM i.1 i.2.1 i.2.2) (fun _=>gP) (fun i=>sP i.2.2 i.2.1) (fun i=>i.1) ?_ (2000,[],r)
  ⟨hr,by simp,by simp only;omega,hTT.symm⟩ ⟨rfl,rfl,rfl,trivial⟩ rfl rfl rfl rfl rfl (fun _=>inferInstance) (fun _=>inferInstance)
 rintro ⟨n,acc,q⟩ ⟨hq,hlen,hfu,hTn⟩ IH
 simp only at hq hlen hfu hTn IH ⊢
 obtain ⟨m,rfl⟩:∃ m,n=m+1:=⟨n-1,by omega⟩
 have out:isDecl q=false→T=(acc,q):=fun h=>by rw [hTn];simp only [declsM];rw [if_neg (by simp [h])]
 refine AK.ev 100 rfl ?_
 refine AK.if_ (fun h=>?_) (fun h=>?_)
 ·have hb:q.bad=false:=by have:(!q.bad)=true:=h;simpa using this
  have fin:∀ (d:Nd) (q':RS),declR q=(d,q')→isDecl q=true→d.kids=[] →
   AK X ⟨177,Tryz.f177,1,0⟩ (locG false 14 Tryz.f177) ((4,.ptr 3 0 0)::gP)
    ⟨[[rc q'],[zN],[[vi 40,str [],vi 0,.sl (nrows acc) (.tok 0)]],[[vi d.kind,str d.name,vi d.num,.sl [] .tight]]],[acc.length]⟩ (fun e S=>e=.ret (nd (progR r).1)∧S=⟨[[rc (progR r).2]],[]⟩):=fun d q' hd hD hk=>by
   obtain ⟨af,hlt⟩:=declR_after hq hD
   rw [hd] at af
   have aq:=(step_after hlt).trans af
   have an:=aq.trans (need_after (s:=[59]) (aq.ok hq) (by simp))
   have l1:=left_step hlt
   have l2:(q'.need [59]).left≤q.step.left:=left_after (af.trans (need_after (s:=[59]) (aq.ok hq) (by simp)))
   refine AK.at_ ?_
   refine AK.ev 100 rfl ?_
   refine AK.hc [0] [] (r_need q' [59] (aq.ok hq)) ?_
   refine AK.wk 54 ?_
   refine AK.op (Ndo.append (res:=nrows (acc++[d])) rfl rfl rfl rfl rfl rfl rfl rfl rfl rfl rfl rfl rfl rfl (nrows_len acc) (nrows_al acc) rfl rfl rfl ?_ ?_ rfl) ?_
   ·rw [nrows_len];simp;omega
   ·rw [nrows_map,nrows_map,List.map_append]
    obtain ⟨k,s,v,ks⟩:=d
    simp only [Nd.kids] at hk
    subst hk;rfl
   refine IH (m,acc++[d],q'.need [59]) ⟨an.ok hq,by simp;omega,by simp only;omega,?_⟩ (by simp only;omega) _ _ ⟨rfl,rfl,rfl,trivial⟩ ?_ rfl rfl
   ·rw [hTn];simp only [declsM];rw [if_pos hD,hd]
   ·simp [St.drop,nrows_len,upd]
  refine AK.hc [0] [] (r_take q wVar hq) ?_
  refine AK.if_ (fun h1=>?_) (fun h1=>?_)
  ·have ht:=takes_lt h1 (by simp)
   have hk:q.take wVar=q.step:=by simp [RS.take,h1]
   have a:=step_after ht.1
   rw [hk]
   refine AK.hcj 14 [0] [] (r_name q.step (a.ok hq)) ?_
   exact AK.back' 4 1 (fin (.mk 31 q.step.name 0 []) q.step.nameR (by simp only [declR];rw [if_pos h1]) (by simp [isDecl,h1]) rfl) ⟨rfl,rfl,rfl,rfl,trivial⟩ rfl rfl rfl rfl rfl
  have hk1:q.take wVar=q:=by simp [RS.take,h1]
  rw [hk1]
  refine AK.hc [0] [] (r_take q wArray hq) ?_
  refine AK.if_ (fun h2=>?_) (fun h2=>?_)
  ·have ht:=takes_lt h2 (by simp)
   have hk:q.take wArray=q.step:=by simp [RS.take,h2]
   have a:=step_after ht.1
   have b:=a.trans (nameR_after (a.ok hq))
   have c:=b.trans (need_after (s:=[91]) (b.ok hq) (by simp))
   have hD:isDecl q=true:=by simp [isDecl,h2]
   have hR:declR q=(.mk 32 q.step.name (sizeR (q.step.nameR.need [91])).1 [],(sizeR (q.step.nameR.need [91])).2.need [93]):=by simp only [declR];rw [if_neg (by simp [h1])]
   rw [hk]
   refine AK.hc [0] [] (r_name q.step (a.ok hq)) ?_
   refine AK.hc [0] [] (r_need q.step.nameR [91] (b.ok hq)) ?_
   generalize hu:q.step.nameR.need [91]=u at hR c ⊢
   have hok:=c.ok hq
   have e:=c.trans (sizeR_after hok)
   have fin13:∀ (v:Int) (u':RS),sizeR u=(v,u')→AK X ⟨177,Tryz.f177,1,0⟩ (locG false 13 Tryz.f177) ((4,.ptr 3 0 0)::gP)
    ⟨[[rc u'],[zN],[[vi 40,str [],vi 0,.sl (nrows acc) (.tok 0)]],[[vi 32,str q.step.name,vi v,.sl [] .tight]]],[acc.length]⟩ (fun e S=>e=.ret (nd (progR r).1)∧S=⟨[[rc (progR r).2]],[]⟩):=fun v u' hv=>by
    rw [hv] at hR e
    refine AK.at_ ?_
    refine AK.ev 100 rfl ?_
    refine AK.hcj 14 [0] [] (r_need u' [93] (e.ok hq)) ?_
    exact AK.back' 4 1 (fin (.mk 32 q.step.name v []) (u'.need [93]) hR hD rfl) ⟨rfl,rfl,rfl,rfl,trivial⟩ rfl rfl rfl rfl rfl
   have hno:(!u.bad&&u.kind==2)=false→AK X ⟨177,Tryz.f177,1,0⟩ (locG false 12 Tryz.f177) ((4,.ptr 3 0 0)::gP)
    ⟨[[rc u],[zN],[[vi 40,str [],vi 0,.sl (nrows acc) (.tok 0)]],[[vi 32,str q.step.name,vi (-1),.sl [] .tight]]],[acc.length]⟩ (fun e S=>e=.ret (nd (progR r).1)∧S=⟨[[rc (progR r).2]],[]⟩):=fun hc=>by
    refine AK.at_ ?_
    refine AK.ev 100 rfl ?_
    refine AK.hcj 13 [0] [] (r_need u [63] hok) ?_
    exact AK.back' 4 1 (fin13 (-1) (u.need [63]) (by simp only [sizeR];rw [if_neg (by simp [hc])])) ⟨rfl,rfl,rfl,rfl,trivial⟩ rfl rfl rfl rfl rfl
   refine AK.gd (fun h3=>?_) (fun h3=>?_)
   ·refine AK.hc [0] [] (r_kind u) ?_
    refine AK.ifj 0 12 (fun h4=>?_) (fun h4=>?_)
    ·have hk2:u.kind=2:=by have:(u.kind==2)=true:=h4;simpa using this
     have hlt:=kind_lt (r:=u) (by omega)
     refine AK.hc [0] [] (r_text u) ?_
     have hsz:sizeR u=(numberS u.text,u.step):=by simp only [sizeR];rw [if_pos (by simp [hk2];simpa using h3)]
     have hu1:=hok.1
     refine AK.pcj 13 (p_number u.text) ?_
     refine AK.back' 4 1 (fin13 (numberS u.text) u.step hsz) ⟨rfl,rfl,rfl,rfl,trivial⟩ ?_ rfl rfl rfl rfl
     simp only [rc,rd,RS.step]
     rw [show ((u.at_+1:Nat):Int)=IntKind.i64.wrap ((u.at_:Int)+1) from ((wrap_small (by omega) (by omega)).trans (by omega)).symm]
     rfl
    ·have hk2:(u.kind==2)=false:=h4
     exact AK.back' 4 1 (hno (by simp [hk2])) ⟨rfl,rfl,rfl,rfl,trivial⟩ rfl rfl rfl rfl rfl
   ·refine AK.ifj 0 12 (fun h4=>?_) (fun _=>?_)
    ·cases h4
    exact AK.back' 4 1 (hno (by simp [h3])) ⟨rfl,rfl,rfl,rfl,trivial⟩ rfl rfl rfl rfl rfl
  ·have hk2:q.take wArray=q:=by simp [RS.take,h2]
   have hT:=out (by simp [isDecl,h1,h2])
   rw [hT] at hTl
   rw [hk2]
   exact AK.back' 3 1 (hTl (by simp only;omega)) ⟨rfl,rfl,rfl,trivial⟩ rfl rfl rfl rfl rfl
 ·have hb:q.bad=true:=by have:(!q.bad)=false:=h;simpa using this
  have hT:=out (by simp [isDecl,bad_takes hb])
  rw [hT] at hTl
  exact AK.back' 3 1 (hTl (by simp only;omega)) ⟨rfl,rfl,rfl,trivial⟩ rfl rfl rfl rfl rfl
mutual
def depthN:Nd→Nat
 | .mk _ _ _ ks=>depthL ks+1
def depthL:List Nd→Nat
 | []=>0
 | n::l=>max (depthN n) (depthL l)
end
theorem depthN_eq (n:Nd):depthN n=depthL n.kids+1:=by cases n;simp [depthN,Nd.kids]
theorem depthL_append (a b:List Nd):depthL (a++b)=max (depthL a) (depthL b):=by
 induction a with
 | nil=>simp [depthL]
 | cons x a ih=>simp only [List.cons_append,depthL,ih];omega
theorem depthL_snoc {l:List Nd}{i:Nat}{n:Nd}(h:l[i]?=some n):depthL (l.take (i+1))=max (depthL (l.take i)) (depthN n):=by
 rw [List.take_add_one,h,depthL_append];simp [depthL]
theorem depth_le_count (n:Nd):depthN n≤countN n:=by
 induction n using Nd.ind with
 | h n ih =>
   have key:∀ l:List Nd,(∀ k,k∈l→depthN k≤countN k)→depthL l≤countL l:=by
    intro l
    induction l with
    | nil=>intro _;simp [depthL]
    | cons x l ihl =>
      intro h
      have h1:=h x (by simp)
      have h2:=ihl (fun k hk=>h k (by simp [hk]))
      simp only [depthL,countL];omega
   rw [depthN_eq,countN_eq]
   have:=key n.kids ih
   omega
mutual
def wN:Nd→Nat
 | .mk _ s _ ks=>1+s.length+wL ks
def wL:List Nd→Nat
 | []=>0
 | n::l=>wN n+wL l
end
theorem wN_eq (n:Nd):wN n=1+n.name.length+wL n.kids:=by cases n;rfl
theorem wL_mem {l:List Nd}{k:Nd}(h:k∈l):wN k≤wL l:=by
 induction l with
 | nil=>cases h
 | cons x l ih =>
   simp only [wL]
   rcases List.mem_cons.1 h with rfl | h
   ·omega
   ·have:=ih h;omega
theorem wN_kid {n k:Nd}(h:k∈n.kids):wN k<wN n:=by
 have:=wL_mem h;rw [wN_eq n];omega
theorem count_le_w (n:Nd):countN n≤wN n:=by
 induction n using Nd.ind with
 | h n ih =>
   have key:∀ l:List Nd,(∀ k,k∈l→countN k≤wN k)→countL l≤wL l:=by
    intro l
    induction l with
    | nil=>intro _;simp [countL]
    | cons x l ihl =>
      intro h
      have h1:=h x (by simp)
      have h2:=ihl (fun k hk=>h k (by simp [hk]))
      simp only [countL,wL];omega
   rw [wN_eq,countN_eq]
   have:=key n.kids ih
   omega
theorem kids_le_w (n:Nd):n.kids.length<wN n:=by
 have:=length_le_countL n.kids
 have:=count_le_w n
 rw [countN_eq] at this
 omega
theorem name_lt_w (n:Nd):n.name.length<wN n:=by rw [wN_eq];omega
theorem p_count (n:Nd)(hn:countN n≤4000000000):Pure X 172 [nd n] (vi (countN n)):=by
 induction n using Nd.ind with
 | h n ih =>
 refine Pure.run Tryz.func172 ?_
 have hc:=countN_eq n
 have hll:=length_le_countL n.kids
 refine AK.while_ (ι:=Nat) 1 0 (fun i=>i≤n.kids.length) (fun i=>[(4,vi i),(3,vi (1+countL (n.kids.take i):Nat)),(1,.ptr 0 0 0)]) (fun _=>⟨[[ncells n]],[]⟩) (fun i=>n.kids.length-i) ?_ 0 (Nat.zero_le _)
  ⟨rfl,rfl,rfl,trivial⟩ rfl rfl rfl rfl rfl (fun _=>inferInstance) (fun _=>inferInstance)
 intro i hi IH
 refine AK.ev 100 rfl ?_
 refine AK.if_ (fun h=>?_) (fun h=>?_)
 ·have hlt:i<n.kids.length:=by have:=of_decide_eq_true h;rw [nrows_len] at this;omega
  obtain ⟨kid,hkid⟩:=lget_of_lt n.kids hlt
  have hsn:=countL_snoc hkid
  have hle:=countL_le (l:=n.kids) (i:=i+1)
  refine AK.ix i (by omega) (nrows_get hkid) ?_
  refine AK.pc (ih kid (List.mem_of_getElem? hkid) (by omega)) ?_
  exact IH (i+1) hlt (by omega) _ _ ⟨vint ((wrap_small (by omega) (by omega)).trans (by omega)),vint ((wrap_small (by omega) (by omega)).trans (by omega)),rfl,trivial⟩ rfl rfl rfl
 ·have:i=n.kids.length:=by have:=of_decide_eq_false h;rw [nrows_len] at this;omega
  subst this
  refine AK.rt Tryz.func172 ?_
  rw [hc,List.take_length];rfl
theorem p_depth (n:Nd)(hn:countN n≤4000000000):Pure X 173 [nd n] (vi (depthN n)):=by
 induction n using Nd.ind with
 | h n ih =>
 refine Pure.run Tryz.func173 ?_
 have hc:=countN_eq n
 have hll:=length_le_countL n.kids
 have hd:=depth_le_count n
 rw [depthN_eq] at hd ⊢
 refine AK.while_ (ι:=Nat) 1 0 (fun i=>i≤n.kids.length) (fun i=>[(4,vi i),(3,vi (depthL (n.kids.take i):Nat)),(1,.ptr 0 0 0)]) (fun _=>⟨[[ncells n]],[]⟩) (fun i=>n.kids.length-i) ?_ 0 (Nat.zero_le _)
  ⟨rfl,rfl,rfl,trivial⟩ rfl rfl rfl rfl rfl (fun _=>inferInstance) (fun _=>inferInstance)
 intro i hi IH
 refine AK.ev 100 rfl ?_
 refine AK.if_ (fun h=>?_) (fun h=>?_)
 ·have hlt:i<n.kids.length:=by have:=of_decide_eq_true h;rw [nrows_len] at this;omega
  obtain ⟨kid,hkid⟩:=lget_of_lt n.kids hlt
  have hsn:=depthL_snoc hkid
  have hcs:=countL_snoc hkid
  have hle:=countL_le (l:=n.kids) (i:=i+1)
  refine AK.ix i (by omega) (nrows_get hkid) ?_
  refine AK.pc (ih kid (List.mem_of_getElem? hkid) (by omega)) ?_
  refine AK.if_ (fun h2=>?_) (fun h2=>?_)
  ·have:=of_decide_eq_true h2
   exact IH (i+1) hlt (by omega) _ _ ⟨vint ((wrap_small (by omega) (by omega)).trans (by omega)),vint (by omega),rfl,trivial⟩ rfl rfl rfl
  ·have:=of_decide_eq_false h2
   exact IH (i+1) hlt (by omega) _ _ ⟨vint ((wrap_small (by omega) (by omega)).trans (by omega)),vint (by omega),rfl,trivial⟩ rfl rfl rfl
 ·have:i=n.kids.length:=by have:=of_decide_eq_false h;rw [nrows_len] at this;omega
  subst this
  refine AK.rt Tryz.func173 ?_
  rw [List.take_length]
  exact congrArg (fun x=>AV.val (.int .i64 x)) ((wrap_small (by omega) (by omega)).trans (by omega))
def isExprK (k:Int):Bool:=between k 1 8
def isCondK (k:Int):Bool:=between k 11 16
def isStmtK (k:Int):Bool:=between k 21 29
theorem p_isExpr (k:Int):Pure X 256 [vi k] (vb (isExprK k)):=by
 refine Pure.run Tryz.func256 ?_
 refine AK.pc (p_between k 1 8) ?_
 exact AK.rt Tryz.func256 rfl
theorem p_isCond (k:Int):Pure X 254 [vi k] (vb (isCondK k)):=by
 refine Pure.run Tryz.func254 ?_
 refine AK.pc (p_between k 11 16) ?_
 exact AK.rt Tryz.func254 rfl
theorem p_isStmt (k:Int):Pure X 255 [vi k] (vb (isStmtK k)):=by
 refine Pure.run Tryz.func255 ?_
 refine AK.pc (p_between k 21 29) ?_
 exact AK.rt Tryz.func255 rfl
def shapeS (k:Int):Int × Bool × Bool :=
 if k=1∨k=28∨k=29 then (0,false,true)
 else if k=2∨k=4∨k=23∨k=31∨k=32 then (0,true,true)
 else if k=3∨k=21 then (1,true,true)
 else if k=5∨k=27 then (1,false,true)
 else if k=6∨k=7∨k=8∨k=11∨k=12∨k=13∨k=14∨k=15∨k=16∨k=25 then (2,false,true)
 else if k=22 then (2,true,true)
 else if k=24 then (3,false,true)
 else if k=26 then (3,true,true)
 else if k=30∨k=40 then (-1,false,true)
 else (0,false,false)
theorem p_shape (k:Int):Pure X 221 [vi k] (.tup [vi (shapeS k).1,vb (shapeS k).2.1,vb (shapeS k).2.2]):=by
 refine Pure.run Tryz.func221 ?_
 repeat' (refine AK.if_ (fun _=>?_) (fun _=>?_))
 all_goals refine AK.rt Tryz.func221 ?_
 all_goals (simp_all [shapeS,retA])
def kidS (n:Nd)(i k:Int):Bool :=
 if n.kind=24∨n.kind=25∨n.kind=27 then (if i=0 then isCondK k else k==30)
 else if n.kind=26∧i=2 then k==30
 else if n.kind=30 then isStmtK k
 else if n.kind=40 then (if i=n.kids.length-1 then k==30 else k==31||k==32)
 else isExprK k
theorem p_kid (n:Nd)(i k:Int)(hn:n.kids.length≤4000000000):Pure X 222 [nd n,vi i,vi k] (vb (kidS n i k)):=by
 refine Pure.run Tryz.func222 ?_
 have hw:IntKind.i64.wrap ((nrows n.kids).length-1:Int)=n.kids.length-1:=by rw [nrows_len];exact wrap_small (by omega) (by omega)
 repeat' (first | refine AK.if_ (fun _=>?_) (fun _=>?_) | refine AK.gd (fun _=>?_) (fun _=>?_) | refine AK.pc (p_isCond k) ?_ | refine AK.pc (p_isStmt k) ?_ | refine AK.pc (p_isExpr k) ?_)
 all_goals refine AK.rt Tryz.func222 ?_
 all_goals (simp_all [kidS,retA])
def numOkS (k m:Int):Bool:=if k=1 then between m 0 1000000 else if k=32 then between m (-1) 1000000 else m==0
def headS (k:Int)(s:List UInt8)(m:Int)(len:Nat):Bool :=
 (shapeS k).2.2&&(decide ((shapeS k).1<0)||((len:Int)==(shapeS k).1))&&((shapeS k).2.1==!(s==[]))&&(!(shapeS k).2.1||nameS s)&&!(k==40&&len==0)&&numOkS k m
mutual
def formedN:Nd→Bool
 | .mk k s m ks=>headS k s m ks.length&&formedL (.mk k s m ks) 0 ks
def formedL:Nd→Nat→List Nd→Bool
 | _,_,[]=>true
 | p,i,x::l=>kidS p i x.kind&&(formedN x&&formedL p (i+1) l)
end
theorem formedN_eq (n:Nd):formedN n=(headS n.kind n.name n.num n.kids.length&&formedL n 0 n.kids):=by cases n;rfl
theorem p_formed (n:Nd)(hn:wN n≤1000000000):Pure X 174 [nd n] (vb (formedN n)):=by
 induction n using Nd.ind with
 | h n ih =>
 have hll:=kids_le_w n
 have hloop:∀ T:Bool,formedL n 0 n.kids=T→AK X ⟨174,Tryz.f174,0,0⟩ (locG false 13 Tryz.f174) [(1,.ptr 0 0 0)] ⟨[[ncells n]],[]⟩ (fun e S=>e=.ret (vb T)∧S=⟨[],[]⟩):=fun T hT=>by
  refine AK.at_ ?_
  refine AK.ev 100 rfl ?_
  refine AK.while_ (ι:=Nat) 1 0 (fun i=>i≤n.kids.length∧T=formedL n i (n.kids.drop i)) (fun i=>[(6,vi i),(1,.ptr 0 0 0)]) (fun _=>⟨[[ncells n]],[]⟩) (fun i=>n.kids.length-i) ?_ 0 ⟨Nat.zero_le _,hT.symm⟩
   ⟨rfl,rfl,trivial⟩ rfl rfl rfl rfl rfl (fun _=>inferInstance) (fun _=>inferInstance)
  rintro i ⟨hi,hTi⟩ IH
  refine AK.ev 100 rfl ?_
  refine AK.if_ (fun h=>?_) (fun h=>?_)
  ·have hlt:i<n.kids.length:=by have:=of_decide_eq_true h;rw [nrows_len] at this;omega
   obtain ⟨kid,hkid⟩:=lget_of_lt n.kids hlt
   have hkw:=wN_kid (List.mem_of_getElem? hkid)
   rw [drop_cons hkid] at hTi
   simp only [formedL] at hTi
   refine AK.db 0 ?_
   refine Drv.ru (fun S'=>Ndo.index rfl rfl rfl rfl rfl rfl rfl rfl rfl (by omega) (nrows_get hkid)) ?_
   refine Drv.go ?_
   refine Drv.pc (p_kid n i kid.kind (by omega)) ?_
   refine Drv.gon 1 ?_
   cases hk:kidS n i kid.kind with
   | false =>
     refine Drv.t true ?_
     refine Drv.go ?_
     refine Drv.z ?_
     refine AK.yes ?_
     refine AK.rt Tryz.func174 ?_
     rw [hTi,hk];rfl
   | true =>
     refine Drv.t false ?_
     refine Drv.go ?_
     refine Drv.ru (fun S'=>Ndo.index rfl rfl rfl rfl rfl rfl rfl rfl rfl (by omega) (nrows_get hkid)) ?_
     refine Drv.go ?_
     refine Drv.pc (ih kid (List.mem_of_getElem? hkid) (by omega)) ?_
     refine Drv.go ?_
     refine Drv.z ?_
     refine AK.if_ (fun h2=>?_) (fun h2=>?_)
     ·have h2':(!formedN kid)=true:=h2
      refine AK.rt Tryz.func174 ?_
      rw [hTi]
      simp at h2'
      simp [h2',retA]
     ·have h2':(!formedN kid)=false:=h2
      simp at h2'
      refine IH (i+1) ⟨hlt,?_⟩ (by omega) _ _ ⟨vint ((wrap_small (by omega) (by omega)).trans (by omega)),rfl,trivial⟩ rfl rfl rfl
      rw [hTi,hk,h2'];simp
  ·have:i=n.kids.length:=by have:=of_decide_eq_false h;rw [nrows_len] at this;omega
   subst this
   refine AK.rt Tryz.func174 ?_
   rw [hTi,List.drop_length];rfl
 have hnl:n.name.length≤1000000000:=by have:=name_lt_w n;omega
 have hF:=formedN_eq n
 have hcont:headS n.kind n.name 0 n.kids.length=headS n.kind n.name 0 n.kids.length→∀ z,(headS n.kind n.name n.num n.kids.length=numOkS n.kind n.num)→z=formedN n →
  AK X ⟨174,Tryz.f174,0,0⟩ (locG false 4 Tryz.f174) [(1,.ptr 0 0 0)] ⟨[[ncells n]],[]⟩ (fun e S=>e=.ret (vb z)∧S=⟨[],[]⟩):=fun _ z hH hz=>by
  subst hz
  rw [hH] at hF
  refine AK.at_ ?_
  refine AK.ev 100 rfl ?_
  refine AK.if_ (fun h1=>?_) (fun h1=>?_)
  ·refine AK.pc (p_between n.num 0 1000000) ?_
   refine AK.ifj 0 13 (fun h2=>?_) (fun h2=>?_)
   ·refine AK.rt Tryz.func174 ?_
    rw [hF];simp_all [numOkS,retA]
   ·refine AK.back' 1 0 (hloop _ ?_) ⟨rfl,trivial⟩ rfl rfl rfl rfl rfl
    simp_all [numOkS]
  ·refine AK.if_ (fun h2=>?_) (fun h2=>?_)
   ·refine AK.pc (p_between n.num (-1) 1000000) ?_
    refine AK.ifj 0 13 (fun h2=>?_) (fun h2=>?_)
    ·refine AK.rt Tryz.func174 ?_
     rw [hF];simp_all [numOkS,retA]
    ·refine AK.back' 1 0 (hloop _ ?_) ⟨rfl,trivial⟩ rfl rfl rfl rfl rfl
     simp_all [numOkS]
   ·refine AK.ifj 0 13 (fun h2=>?_) (fun h2=>?_)
    ·refine AK.rt Tryz.func174 ?_
     rw [hF];simp_all [numOkS,retA]
    ·refine AK.back' 1 0 (hloop _ ?_) ⟨rfl,trivial⟩ rfl rfl rfl rfl rfl
     simp_all [numOkS]
 refine Pure.run Tryz.func174 ?_
 refine AK.pc (p_shape n.kind) ?_
 generalize hsh:shapeS n.kind=sh
 obtain ⟨a,b,c⟩:=sh
 have hlen:((nrows n.kids).length:Int)=n.kids.length:=by rw [nrows_len]
 have hH:headS n.kind n.name n.num n.kids.length=(c&&(decide (a<0)||((n.kids.length:Int)==a))&&(b==!(n.name==[]))&&(!b||nameS n.name)&&!(n.kind==40&&n.kids.length==0)&&numOkS n.kind n.num):=by simp only [headS,hsh]
 cases c with
 | false =>
   refine AK.gy ?_
   refine AK.gy ?_
   refine AK.gy ?_
   refine AK.gy ?_
   refine AK.yes ?_
   refine AK.rt Tryz.func174 ?_
   rw [hF,hH];simp_all [retA]<;>(intros;omega)
 | true =>
   refine AK.gn ?_
   refine AK.gd (fun h1=>?_) (fun h1=>?_)
   ·refine AK.gd (fun h2=>?_) (fun h2=>?_)
    ·refine AK.gy ?_
     refine AK.gy ?_
     refine AK.yes ?_
     refine AK.rt Tryz.func174 ?_
     rw [hF,hH];simp_all [retA]<;>(intros;omega)
    ·skip
     refine AK.gd (fun h3=>?_) (fun h3=>?_)
     ·refine AK.gy ?_
      refine AK.yes ?_
      refine AK.rt Tryz.func174 ?_
      rw [hF,hH];simp_all [retA]<;>(intros;omega)
     ·cases b with
      | true =>
        refine AK.gy ?_
        refine AK.pc (p_name n.name hnl) ?_
        refine AK.gd (fun h4=>?_) (fun h4=>?_)
        ·skip
         refine AK.yes ?_
         refine AK.rt Tryz.func174 ?_
         rw [hF,hH];simp_all [retA]<;>(intros;omega)
        ·skip
         refine AK.gd (fun h5=>?_) (fun h5=>?_)
         ·refine AK.ifj 0 4 (fun h6=>?_) (fun h6=>?_)
          ·refine AK.rt Tryz.func174 ?_
           rw [hF,hH];simp_all [retA]<;>(intros;omega)
          ·refine AK.back' 1 0 (hcont rfl _ ?_ rfl) ⟨rfl,trivial⟩ rfl rfl rfl rfl rfl
           rw [hH];simp_all<;>(intro _ hk;rw [nrows_len,hk] at hlen;simp at hlen;omega)
         ·refine AK.ifj 0 4 (fun h6=>?_) (fun h6=>?_)
          ·cases h6
          ·refine AK.back' 1 0 (hcont rfl _ ?_ rfl) ⟨rfl,trivial⟩ rfl rfl rfl rfl rfl
           rw [hH];simp_all<;>(intro _ hk;rw [nrows_len,hk] at hlen;simp at hlen;omega)
      | false =>
        refine AK.gn ?_
        refine AK.gn ?_
        refine AK.gd (fun h5=>?_) (fun h5=>?_)
        ·refine AK.ifj 0 4 (fun h6=>?_) (fun h6=>?_)
         ·refine AK.rt Tryz.func174 ?_
          rw [hF,hH];simp_all [retA]<;>(intros;omega)
         ·refine AK.back' 1 0 (hcont rfl _ ?_ rfl) ⟨rfl,trivial⟩ rfl rfl rfl rfl rfl
          rw [hH];simp_all<;>(intro _ hk;rw [nrows_len,hk] at hlen;simp at hlen;omega)
        ·refine AK.ifj 0 4 (fun h6=>?_) (fun h6=>?_)
         ·cases h6
         ·refine AK.back' 1 0 (hcont rfl _ ?_ rfl) ⟨rfl,trivial⟩ rfl rfl rfl rfl rfl
          rw [hH];simp_all<;>(intro _ hk;rw [nrows_len,hk] at hlen;simp at hlen;omega)
   ·refine AK.gn ?_
    refine AK.gd (fun h3=>?_) (fun h3=>?_)
    ·refine AK.gy ?_
     refine AK.yes ?_
     refine AK.rt Tryz.func174 ?_
     rw [hF,hH];simp_all [retA]<;>(intros;omega)
    ·cases b with
     | true =>
       refine AK.gy ?_
       refine AK.pc (p_name n.name hnl) ?_
       refine AK.gd (fun h4=>?_) (fun h4=>?_)
       ·skip
        refine AK.yes ?_
        refine AK.rt Tryz.func174 ?_
        rw [hF,hH];simp_all [retA]<;>(intros;omega)
       ·skip
        refine AK.gd (fun h5=>?_) (fun h5=>?_)
        ·refine AK.ifj 0 4 (fun h6=>?_) (fun h6=>?_)
         ·refine AK.rt Tryz.func174 ?_
          rw [hF,hH];simp_all [retA]<;>(intros;omega)
         ·refine AK.back' 1 0 (hcont rfl _ ?_ rfl) ⟨rfl,trivial⟩ rfl rfl rfl rfl rfl
          rw [hH];simp_all<;>(intro _ hk;rw [nrows_len,hk] at hlen;simp at hlen;omega)
        ·refine AK.ifj 0 4 (fun h6=>?_) (fun h6=>?_)
         ·cases h6
         ·refine AK.back' 1 0 (hcont rfl _ ?_ rfl) ⟨rfl,trivial⟩ rfl rfl rfl rfl rfl
          rw [hH];simp_all<;>(intro _ hk;rw [nrows_len,hk] at hlen;simp at hlen;omega)
     | false =>
       refine AK.gn ?_
       refine AK.gn ?_
       refine AK.gd (fun h5=>?_) (fun h5=>?_)
       ·refine AK.ifj 0 4 (fun h6=>?_) (fun h6=>?_)
        ·refine AK.rt Tryz.func174 ?_
         rw [hF,hH];simp_all [retA]<;>(intros;omega)
        ·refine AK.back' 1 0 (hcont rfl _ ?_ rfl) ⟨rfl,trivial⟩ rfl rfl rfl rfl rfl
         rw [hH];simp_all<;>(intro _ hk;rw [nrows_len,hk] at hlen;simp at hlen;omega)
       ·refine AK.ifj 0 4 (fun h6=>?_) (fun h6=>?_)
        ·cases h6
        ·refine AK.back' 1 0 (hcont rfl _ ?_ rfl) ⟨rfl,trivial⟩ rfl rfl rfl rfl rfl
         rw [hH];simp_all<;>(intro _ hk;rw [nrows_len,hk] at hlen;simp at hlen;omega)
def fitsS (n:Nd):Bool:=decide (countN n≤500)&&decide (depthN n≤24)&&formedN n
theorem p_fits (n:Nd)(hn:wN n≤1000000000):Pure X 125 [nd n] (vb (fitsS n)):=by
 have hc:=count_le_w n
 have hz:∀ a b:Nat,((a:Int)≤(b:Int))↔a≤b:=fun a b=>by omega
 refine Pure.run Tryz.func125 ?_
 refine AK.pc (p_count n (by omega)) ?_
 refine AK.gd (fun h1=>?_) (fun h1=>?_)
 ·have h1':countN n≤500:=by have:=of_decide_eq_true h1;omega
  refine AK.pc (p_depth n (by omega)) ?_
  refine AK.gd (fun h2=>?_) (fun h2=>?_)
  ·have h2':depthN n≤24:=by have:=of_decide_eq_true h2;omega
   refine AK.pc (p_formed n hn) ?_
   refine AK.rt Tryz.func125 ?_
   simp [fitsS,h1',h2',retA]
  ·have h2':¬ depthN n≤24:=by have:=of_decide_eq_false h2;omega
   refine AK.rt Tryz.func125 ?_
   simp [fitsS,h2',retA]
 ·have h1':¬ countN n≤500:=by have:=of_decide_eq_false h1;omega
  refine AK.gn ?_
  refine AK.rt Tryz.func125 ?_
  simp [fitsS,h1',retA]
inductive FE:Nd→Prop
 | num (m:Int) (h0:0≤m) (h1:m≤1000000):FE (.mk 1 [] m [])
 | var (s:List UInt8) (h:nameS s=true):FE (.mk 2 s 0 [])
 | cell (s:List UInt8) (a:Nd) (h:nameS s=true) (ha:FE a):FE (.mk 3 s 0 [a])
 | len (s:List UInt8) (h:nameS s=true):FE (.mk 4 s 0 [])
 | neg (a:Nd) (ha:FE a):FE (.mk 5 [] 0 [a])
 | two (k:Int) (a b:Nd) (hk:k=6∨k=7∨k=8) (ha:FE a) (hb:FE b):FE (.mk k [] 0 [a,b])
inductive FC:Nd→Prop
 | mk (k:Int) (a b:Nd) (h0:11≤k) (h1:k≤16) (ha:FE a) (hb:FE b):FC (.mk k [] 0 [a,b])
inductive FS:Nd→Prop
 | set (s:List UInt8) (a:Nd) (h:nameS s=true) (ha:FE a):FS (.mk 21 s 0 [a])
 | put (s:List UInt8) (a b:Nd) (h:nameS s=true) (ha:FE a) (hb:FE b):FS (.mk 22 s 0 [a,b])
 | read (s:List UInt8) (h:nameS s=true):FS (.mk 23 s 0 [])
 | ifs (c:Nd) (l l':List Nd) (hc:FC c) (hl:∀ x,x∈l→FS x) (hl':∀ x,x∈l'→FS x):FS (.mk 24 [] 0 [c,.mk 30 [] 0 l,.mk 30 [] 0 l'])
 | whil (c:Nd) (l:List Nd) (hc:FC c) (hl:∀ x,x∈l→FS x):FS (.mk 25 [] 0 [c,.mk 30 [] 0 l])
 | for_ (s:List UInt8) (a b:Nd) (l:List Nd) (h:nameS s=true) (ha:FE a) (hb:FE b) (hl:∀ x,x∈l→FS x):FS (.mk 26 s 0 [a,b,.mk 30 [] 0 l])
 | check (c:Nd) (hc:FC c):FS (.mk 27 [] 0 [c])
 | skip:FS (.mk 28 [] 0 [])
 | stop:FS (.mk 29 [] 0 [])
inductive FV:Nd→Prop
 | var (s:List UInt8) (h:nameS s=true):FV (.mk 31 s 0 [])
 | arr (s:List UInt8) (m:Int) (h:nameS s=true) (h0:-1≤m) (h1:m≤1000000):FV (.mk 32 s m [])
inductive FP:Nd→Prop
 | mk (ds l:List Nd) (hd:∀ x,x∈ds→FV x) (hl:∀ x,x∈l→FS x):FP (.mk 40 [] 0 (ds++[.mk 30 [] 0 l]))
theorem name_ne {s:List UInt8}(h:nameS s=true):s≠[]:=by rintro rfl;simp [nameS] at h
theorem len0 {l:List Nd}(h:(l.length:Int)=0):l=[]:=by
 cases l with
 | nil=>rfl
 | cons x l=>simp at h;omega
theorem len1 {l:List Nd}(h:(l.length:Int)=1):∃ a,l=[a]:=by
 match l with
 | []=>simp at h
 | [a]=>exact ⟨a,rfl⟩
 | _::_::_=>simp at h;omega
theorem len2 {l:List Nd}(h:(l.length:Int)=2):∃ a b,l=[a,b]:=by
 match l with
 | []=>simp at h
 | [_]=>simp at h
 | [a,b]=>exact ⟨a,b,rfl⟩
 | _::_::_::_=>simp at h;omega
theorem len3 {l:List Nd}(h:(l.length:Int)=3):∃ a b c,l=[a,b,c]:=by
 match l with
 | []=>simp at h
 | [_]=>simp at h
 | [_,_]=>simp at h
 | [a,b,c]=>exact ⟨a,b,c,rfl⟩
 | _::_::_::_::_=>simp at h;omega
structure HeadF (k:Int)(s:List UInt8)(m:Int)(ks:List Nd)(len:Int)(nm:Bool):Prop where
 hl:0≤len→(ks.length:Int)=len
 hs:nm=!(s==[])
 hn:nm=true→nameS s=true
 hk:k=40→ks≠[]
 hm:numOkS k m=true
theorem headF {k:Int}{s:List UInt8}{m:Int}{ks:List Nd}(h:headS k s m ks.length=true):(shapeS k).2.2=true∧HeadF k s m ks (shapeS k).1 (shapeS k).2.1:=by
 simp only [headS,Bool.and_eq_true,Bool.or_eq_true,decide_eq_true_eq,beq_iff_eq,Bool.not_eq_true'] at h
 obtain ⟨⟨⟨⟨⟨h1,h2⟩,h3⟩,h4⟩,h5⟩,h6⟩:=h
 refine ⟨h1,⟨fun h0=>?_,h3,fun hn=>?_,fun h40 hnil=>?_,h6⟩⟩
 ·rcases h2 with h2 | h2
  ·omega
  ·exact h2
 ·rcases h4 with h4 | h4
  ·rw [hn] at h4;cases h4
  ·exact h4
 ·subst h40;subst hnil;simp at h5
theorem HeadF.no {k:Int}{s:List UInt8}{m:Int}{ks:List Nd}{len:Int}(h:HeadF k s m ks len false):s=[]:=by
 have:=h.hs;simpa using this
theorem HeadF.num0 {k:Int}{s:List UInt8}{m:Int}{ks:List Nd}{len:Int}{b:Bool}(h:HeadF k s m ks len b)(h1:k≠1)(h2:k≠32):m=0:=by
 have:=h.hm;simpa [numOkS,h1,h2] using this
theorem formedL_all {p:Nd}:∀ {l:List Nd}{i:Nat},formedL p i l=true→∀ (j:Nat)(x:Nd),l[j]?=some x→kidS p ((i+j:Nat):Int) x.kind=true∧formedN x=true
 | [],i,_,j,x,h=>by simp at h
 | y::l,i,hf,j,x,h=>by
   simp only [formedL,Bool.and_eq_true] at hf
   cases j with
   | zero=>simp at h;subst h;exact ⟨hf.1,hf.2.1⟩
   | succ j =>
     have:=formedL_all hf.2.2 j x (by simpa using h)
     rw [show i+(j+1)=i+1+j by omega];exact this
theorem between_iff {n lo hi:Int}:between n lo hi=true↔lo≤n∧n≤hi:=by simp [between]
@[simp] theorem kind_mk (k:Int)(s:List UInt8)(m:Int)(ks:List Nd):(Nd.mk k s m ks).kind=k:=rfl
@[simp] theorem name_mk (k:Int)(s:List UInt8)(m:Int)(ks:List Nd):(Nd.mk k s m ks).name=s:=rfl
@[simp] theorem num_mk (k:Int)(s:List UInt8)(m:Int)(ks:List Nd):(Nd.mk k s m ks).num=m:=rfl
@[simp] theorem kids_mk (k:Int)(s:List UInt8)(m:Int)(ks:List Nd):(Nd.mk k s m ks).kids=ks:=rfl
theorem kidS_e {n:Nd}{i k:Int}(h:n.kind<24):kidS n i k=isExprK k:=by
 unfold kidS
 rw [if_neg (show ¬ (n.kind=24∨n.kind=25∨n.kind=27) by omega),if_neg (show ¬ (n.kind=26∧i=2) by omega),if_neg (show ¬ n.kind=30 by omega),if_neg (show ¬ n.kind=40 by omega)]
theorem kidS_p {n:Nd}{i k:Int}(h:n.kind=40):kidS n i k=if i=n.kids.length-1 then k==30 else k==31||k==32:=by
 unfold kidS
 rw [if_neg (show ¬ (n.kind=24∨n.kind=25∨n.kind=27) by omega),if_neg (show ¬ (n.kind=26∧i=2) by omega),if_neg (show ¬ n.kind=30 by omega),if_pos h]
theorem FE_of (n:Nd)(hf:formedN n=true)(hk:isExprK n.kind=true):FE n:=by
 induction n using Nd.ind with
 | h n ih =>
 obtain ⟨k,s,m,ks⟩:=n
 simp only [kind_mk,isExprK,between_iff] at hk
 rw [formedN_eq,Bool.and_eq_true] at hf
 simp only [kind_mk,name_mk,num_mk,kids_mk] at hf ih
 obtain ⟨h1,h2⟩:=hf
 have hall:=formedL_all h2
 have kidE:∀ (j:Nat) (x:Nd),ks[j]?=some x→FE x:=fun j x hx=>by
  obtain ⟨h3,h4⟩:=hall j x hx
  refine ih x (List.mem_of_getElem? hx) h4 ?_
  rwa [kidS_e (by simp;omega)] at h3
 obtain ⟨_,hH⟩:=headF h1
 have:k=1∨k=2∨k=3∨k=4∨k=5∨k=6∨k=7∨k=8:=by omega
 rcases this with rfl | rfl | rfl | rfl | rfl | rfl | rfl | rfl
 ·rw [show shapeS 1=(0,false,true) by simp [shapeS]] at hH
  obtain rfl:=len0 (hH.hl (by simp))
  obtain rfl:=hH.no
  have:=hH.hm
  simp only [numOkS,if_true,between_iff] at this
  exact .num m this.1 this.2
 ·rw [show shapeS 2=(0,true,true) by simp [shapeS]] at hH
  obtain rfl:=len0 (hH.hl (by simp))
  obtain rfl:=hH.num0 (by simp) (by simp)
  exact .var s (hH.hn rfl)
 ·rw [show shapeS 3=(1,true,true) by simp [shapeS]] at hH
  obtain ⟨a,rfl⟩:=len1 (hH.hl (by simp))
  obtain rfl:=hH.num0 (by simp) (by simp)
  exact .cell s a (hH.hn rfl) (kidE 0 a rfl)
 ·rw [show shapeS 4=(0,true,true) by simp [shapeS]] at hH
  obtain rfl:=len0 (hH.hl (by simp))
  obtain rfl:=hH.num0 (by simp) (by simp)
  exact .len s (hH.hn rfl)
 ·rw [show shapeS 5=(1,false,true) by simp [shapeS]] at hH
  obtain ⟨a,rfl⟩:=len1 (hH.hl (by simp))
  obtain rfl:=hH.num0 (by simp) (by simp)
  obtain rfl:=hH.no
  exact .neg a (kidE 0 a rfl)
 ·rw [show shapeS 6=(2,false,true) by simp [shapeS]] at hH
  obtain ⟨a,b,rfl⟩:=len2 (hH.hl (by simp))
  obtain rfl:=hH.num0 (by simp) (by simp)
  obtain rfl:=hH.no
  exact .two 6 a b (by simp) (kidE 0 a rfl) (kidE 1 b rfl)
 ·rw [show shapeS 7=(2,false,true) by simp [shapeS]] at hH
  obtain ⟨a,b,rfl⟩:=len2 (hH.hl (by simp))
  obtain rfl:=hH.num0 (by simp) (by simp)
  obtain rfl:=hH.no
  exact .two 7 a b (by simp) (kidE 0 a rfl) (kidE 1 b rfl)
 ·rw [show shapeS 8=(2,false,true) by simp [shapeS]] at hH
  obtain ⟨a,b,rfl⟩:=len2 (hH.hl (by simp))
  obtain rfl:=hH.num0 (by simp) (by simp)
  obtain rfl:=hH.no
  exact .two 8 a b (by simp) (kidE 0 a rfl) (kidE 1 b rfl)
theorem FC_of (n:Nd)(hf:formedN n=true)(hk:isCondK n.kind=true):FC n:=by
 obtain ⟨k,s,m,ks⟩:=n
 simp only [kind_mk,isCondK,between_iff] at hk
 rw [formedN_eq,Bool.and_eq_true] at hf
 simp only [kind_mk,name_mk,num_mk,kids_mk] at hf
 obtain ⟨h1,h2⟩:=hf
 have hall:=formedL_all h2
 have kidE:∀ (j:Nat) (x:Nd),ks[j]?=some x→FE x:=fun j x hx=>by
  obtain ⟨h3,h4⟩:=hall j x hx
  refine FE_of x h4 ?_
  rwa [kidS_e (by simp;omega)] at h3
 obtain ⟨_,hH⟩:=headF h1
 rw [show shapeS k=(2,false,true) by simp only [shapeS];rw [if_neg (by omega),if_neg (by omega),if_neg (by omega),if_neg (by omega),if_pos (by omega)]] at hH
 obtain ⟨a,b,rfl⟩:=len2 (hH.hl (by simp))
 obtain rfl:=hH.num0 (by omega) (by omega)
 obtain rfl:=hH.no
 exact .mk k a b hk.1 hk.2 (kidE 0 a rfl) (kidE 1 b rfl)
theorem FS_of (n:Nd):formedN n=true→(isStmtK n.kind=true→FS n)∧(n.kind=30→∃ l,n=.mk 30 [] 0 l∧∀ x,x∈l→FS x):=by
 induction n using Nd.ind with
 | h n ih =>
 intro hf
 obtain ⟨k,s,m,ks⟩:=n
 rw [formedN_eq,Bool.and_eq_true] at hf
 simp only [kind_mk,name_mk,num_mk,kids_mk] at hf ih ⊢
 obtain ⟨h1,h2⟩:=hf
 have hall:=formedL_all h2
 obtain ⟨_,hH⟩:=headF h1
 have kid:∀ (j:Nat) (x:Nd),ks[j]?=some x→kidS (.mk k s m ks) j x.kind=true:=fun j x hx=>by have:=(hall j x hx).1;rwa [Nat.zero_add] at this
 have fm:∀ (j:Nat) (x:Nd),ks[j]?=some x→formedN x=true:=fun j x hx=>(hall j x hx).2
 have ihs:∀ (j:Nat) (x:Nd),ks[j]?=some x→x.kind=30→∃ l,x=.mk 30 [] 0 l∧∀ x,x∈l→FS x:=fun j x hx=>(ih x (List.mem_of_getElem? hx) (fm j x hx)).2
 refine ⟨fun hk=>?_,fun hk=>?_⟩
 ·simp only [isStmtK,between_iff] at hk
  have:k=21∨k=22∨k=23∨k=24∨k=25∨k=26∨k=27∨k=28∨k=29:=by omega
  rcases this with rfl | rfl | rfl | rfl | rfl | rfl | rfl | rfl | rfl
  ·rw [show shapeS 21=(1,true,true) by simp [shapeS]] at hH
   obtain ⟨a,rfl⟩:=len1 (hH.hl (by simp))
   obtain rfl:=hH.num0 (by simp) (by simp)
   have k0:=kid 0 a rfl
   simp [kidS] at k0
   exact .set s a (hH.hn rfl) (FE_of a (fm 0 a rfl) k0)
  ·rw [show shapeS 22=(2,true,true) by simp [shapeS]] at hH
   obtain ⟨a,b,rfl⟩:=len2 (hH.hl (by simp))
   obtain rfl:=hH.num0 (by simp) (by simp)
   have k0:=kid 0 a rfl
   have k1:=kid 1 b rfl
   simp [kidS] at k0 k1
   exact .put s a b (hH.hn rfl) (FE_of a (fm 0 a rfl) k0) (FE_of b (fm 1 b rfl) k1)
  ·rw [show shapeS 23=(0,true,true) by simp [shapeS]] at hH
   obtain rfl:=len0 (hH.hl (by simp))
   obtain rfl:=hH.num0 (by simp) (by simp)
   exact .read s (hH.hn rfl)
  ·rw [show shapeS 24=(3,false,true) by simp [shapeS]] at hH
   obtain ⟨c,a,b,rfl⟩:=len3 (hH.hl (by simp))
   obtain rfl:=hH.num0 (by simp) (by simp)
   obtain rfl:=hH.no
   have k0:=kid 0 c rfl
   have k1:=kid 1 a rfl
   have k2:=kid 2 b rfl
   simp [kidS] at k0 k1 k2
   obtain ⟨l,rfl,hl⟩:=ihs 1 a rfl k1
   obtain ⟨l',rfl,hl'⟩:=ihs 2 b rfl k2
   exact .ifs c l l' (FC_of c (fm 0 c rfl) k0) hl hl'
  ·rw [show shapeS 25=(2,false,true) by simp [shapeS]] at hH
   obtain ⟨c,a,rfl⟩:=len2 (hH.hl (by simp))
   obtain rfl:=hH.num0 (by simp) (by simp)
   obtain rfl:=hH.no
   have k0:=kid 0 c rfl
   have k1:=kid 1 a rfl
   simp [kidS] at k0 k1
   obtain ⟨l,rfl,hl⟩:=ihs 1 a rfl k1
   exact .whil c l (FC_of c (fm 0 c rfl) k0) hl
  ·rw [show shapeS 26=(3,true,true) by simp [shapeS]] at hH
   obtain ⟨a,b,d,rfl⟩:=len3 (hH.hl (by simp))
   obtain rfl:=hH.num0 (by simp) (by simp)
   have k0:=kid 0 a rfl
   have k1:=kid 1 b rfl
   have k2:=kid 2 d rfl
   simp [kidS] at k0 k1 k2
   obtain ⟨l,rfl,hl⟩:=ihs 2 d rfl k2
   exact .for_ s a b l (hH.hn rfl) (FE_of a (fm 0 a rfl) k0) (FE_of b (fm 1 b rfl) k1) hl
  ·rw [show shapeS 27=(1,false,true) by simp [shapeS]] at hH
   obtain ⟨c,rfl⟩:=len1 (hH.hl (by simp))
   obtain rfl:=hH.num0 (by simp) (by simp)
   obtain rfl:=hH.no
   have k0:=kid 0 c rfl
   simp [kidS] at k0
   exact .check c (FC_of c (fm 0 c rfl) k0)
  ·rw [show shapeS 28=(0,false,true) by simp [shapeS]] at hH
   obtain rfl:=len0 (hH.hl (by simp))
   obtain rfl:=hH.num0 (by simp) (by simp)
   obtain rfl:=hH.no
   exact .skip
  ·rw [show shapeS 29=(0,false,true) by simp [shapeS]] at hH
   obtain rfl:=len0 (hH.hl (by simp))
   obtain rfl:=hH.num0 (by simp) (by simp)
   obtain rfl:=hH.no
   exact .stop
 ·subst hk
  rw [show shapeS 30=(-1,false,true) by simp [shapeS]] at hH
  obtain rfl:=hH.num0 (by simp) (by simp)
  obtain rfl:=hH.no
  refine ⟨ks,rfl,fun x hx=>?_⟩
  obtain ⟨j,hj⟩:=lget_of_mem hx
  have k0:=kid j x hj
  simp [kidS] at k0
  exact (ih x hx (fm j x hj)).1 k0
theorem FV_of (n:Nd)(hf:formedN n=true)(hk:n.kind=31∨n.kind=32):FV n:=by
 obtain ⟨k,s,m,ks⟩:=n
 rw [formedN_eq,Bool.and_eq_true] at hf
 simp only [kind_mk,name_mk,num_mk,kids_mk] at hf hk
 obtain ⟨h1,h2⟩:=hf
 obtain ⟨_,hH⟩:=headF h1
 rcases hk with rfl | rfl
 ·rw [show shapeS 31=(0,true,true) by simp [shapeS]] at hH
  obtain rfl:=len0 (hH.hl (by simp))
  obtain rfl:=hH.num0 (by simp) (by simp)
  exact .var s (hH.hn rfl)
 ·rw [show shapeS 32=(0,true,true) by simp [shapeS]] at hH
  obtain rfl:=len0 (hH.hl (by simp))
  have:=hH.hm
  simp [numOkS,between_iff] at this
  exact .arr s m (hH.hn rfl) this.1 this.2
theorem FP_of (n:Nd)(hf:formedN n=true)(hk:n.kind=40):FP n:=by
 obtain ⟨k,s,m,ks⟩:=n
 rw [formedN_eq,Bool.and_eq_true] at hf
 simp only [kind_mk,name_mk,num_mk,kids_mk] at hf hk
 subst hk
 obtain ⟨h1,h2⟩:=hf
 have hall:=formedL_all h2
 obtain ⟨_,hH⟩:=headF h1
 rw [show shapeS 40=(-1,false,true) by simp [shapeS]] at hH
 obtain rfl:=hH.num0 (by simp) (by simp)
 obtain rfl:=hH.no
 have hne:=hH.hk rfl
 have kid:∀ (j:Nat) (x:Nd),ks[j]?=some x→kidS (.mk 40 [] 0 ks) j x.kind=true:=fun j x hx=>by have:=(hall j x hx).1;rwa [Nat.zero_add] at this
 have fm:∀ (j:Nat) (x:Nd),ks[j]?=some x→formedN x=true:=fun j x hx=>(hall j x hx).2
 have hpos:0<ks.length:=List.length_pos_iff.2 hne
 obtain ⟨b,hb⟩:=lget_of_lt ks (i:=ks.length-1) (by omega)
 have hsplit:ks=ks.take (ks.length-1)++[b]:=by
  conv=>lhs;rw [← List.take_append_drop (ks.length-1) ks]
  congr 1
  rw [List.drop_eq_getElem_cons (by omega),List.drop_eq_nil_of_le (by omega)]
  have:=List.getElem?_eq_getElem (l:=ks) (i:=ks.length-1) (by omega)
  rw [hb] at this
  rw [← Option.some.inj this]
 have kb:=kid _ b hb
 rw [kidS_p rfl,if_pos (by rw [kids_mk];omega)] at kb
 obtain ⟨l,rfl,hl⟩:=(FS_of b (fm _ b hb)).2 (by simpa using kb)
 rw [hsplit]
 refine .mk _ l (fun x hx=>?_) hl
 obtain ⟨j,hj⟩:=lget_of_mem hx
 have hjl:=lt_of_get hj
 rw [List.length_take] at hjl
 have hj':ks[j]?=some x:=by rw [List.getElem?_take,if_pos (by omega)] at hj;exact hj
 have kx:=kid j x hj'
 rw [kidS_p rfl,if_neg (by rw [kids_mk];omega)] at kx
 exact FV_of x (fm j x hj') (by simpa using kx)
def tightS (k:Int):Int:=if k=6∨k=7 then 1 else if k=8 then 2 else 3
def parT (l:Int)(k:Int)(t:List UInt8):List UInt8:=if tightS k<l then [40]++t++[41] else t
def relT (k:Int):List UInt8:=if k=11 then [60] else if k=12 then [60,61] else if k=13 then [62] else if k=14 then [62,61] else if k=15 then [61,61] else [33,61]
def textN:Nd→List UInt8
 | .mk k s m []=>if k=1 then dec m.toNat else if k=4 then [108,101,110,40]++s++[41] else s
 | .mk k s _ [a]=>if k=3 then s++[91]++textN a++[93] else [45]++parT 3 a.kind (textN a)
 | .mk k _ _ (a::b::_) =>
   if k=6 then parT 1 a.kind (textN a)++[32,43,32]++parT 2 b.kind (textN b)
   else if k=7 then parT 1 a.kind (textN a)++[32,45,32]++parT 2 b.kind (textN b)
   else if k=8 then parT 2 a.kind (textN a)++[32,42,32]++parT 3 b.kind (textN b)
   else textN a++[32]++relT k++[32]++textN b
theorem parT_len (l k:Int)(t:List UInt8):(parT l k t).length≤t.length+2:=by
 unfold parT;split<;>simp
theorem relT_len (k:Int):(relT k).length≤2:=by
 unfold relT;repeat' split
 all_goals simp
theorem dec_le (d n:Nat)(h:n<10 ^ (d+1)):(dec n).length≤d+1:=by
 induction d generalizing n with
 | zero=>unfold dec;rw [if_pos (by simpa using h)];simp
 | succ d ih =>
   unfold dec
   split
   ·simp
   ·have:=ih (n / 10) (by rw [Nat.pow_succ] at h;omega)
    simp;omega
theorem dec_le7 (n:Nat)(h:n≤1000000):(dec n).length≤7:=dec_le 6 n (by omega)
theorem textN_len (n:Nd)(h:FE n):(textN n).length≤12*wN n:=by
 induction h with
 | num m h0 h1 =>
   have:=dec_le7 m.toNat (by omega)
   simp only [textN,wN,if_true]
   omega
 | var s h=>simp [textN,wN];omega
 | cell s a h ha ih=>simp [textN,wN,wL];omega
 | len s h=>simp [textN,wN];omega
 | neg a ha ih=>have:=parT_len 3 a.kind (textN a);simp [textN,wN,wL];omega
 | two k a b hk ha hb iha ihb =>
   have h1:=parT_len 1 a.kind (textN a)
   have h2:=parT_len 2 a.kind (textN a)
   have h3:=parT_len 2 b.kind (textN b)
   have h4:=parT_len 3 b.kind (textN b)
   rcases hk with rfl | rfl | rfl
   ·simp [textN,wN,wL];omega
   ·simp [textN,wN,wL];omega
   ·simp [textN,wN,wL];omega
theorem textC_len (n:Nd)(h:FC n):(textN n).length≤12*wN n:=by
 cases h with
 | mk k a b h0 h1 ha hb =>
   have:=textN_len a ha
   have:=textN_len b hb
   have:=relT_len k
   simp only [textN]
   rw [if_neg (by omega),if_neg (by omega),if_neg (by omega)]
   simp [wN,wL];omega
theorem row0 (a:Nd)(l:List Nd):(nrows (a::l))[(0:Int).toNat]?=some (ncells a):=by cases a;rfl
theorem row1 (a b:Nd)(l:List Nd):(nrows (a::b::l))[(1:Int).toNat]?=some (ncells b):=by cases b;rfl
theorem row2 (a b c:Nd)(l:List Nd):(nrows (a::b::c::l))[(2:Int).toNat]?=some (ncells c):=by cases c;rfl
theorem p_tight (k:Int):Pure X 257 [vi k] (vi (tightS k)):=by
 refine Pure.run Tryz.func257 ?_
 repeat' (refine AK.if_ (fun _=>?_) (fun _=>?_))
 all_goals refine AK.rt Tryz.func257 ?_
 all_goals (simp_all [tightS,retA])
theorem p_paren (n:Nd)(l:Int)(t:List UInt8)(ht:t.length≤100000000000)(h:Pure X 175 [nd n] (str t)):Pure X 223 [nd n,vi l] (str (parT l n.kind t)):=by
 refine Pure.run Tryz.func223 ?_
 refine AK.pc (p_tight n.kind) ?_
 refine AK.if_ (fun h1=>?_) (fun h1=>?_)
 ·have h1':=of_decide_eq_true h1
  refine AK.pc h ?_
  refine AK.ct ?_ ?_
  ·simp;omega
  refine AK.ct ?_ ?_
  ·simp;omega
  refine AK.rt Tryz.func223 ?_
  simp [parT,h1',retA]
 ·have h1':=of_decide_eq_false h1
  refine AK.pc h ?_
  refine AK.rt Tryz.func223 ?_
  simp [parT,h1',retA]
theorem p_textE (n:Nd)(h:FE n)(hn:wN n≤1000000000):Pure X 175 [nd n] (str (textN n)):=by
 induction h with
 | num m h0 h1 =>
   obtain ⟨q,rfl⟩:∃ q:Nat,m=q:=⟨m.toNat,by omega⟩
   refine Pure.run Tryz.func175 ?_
   refine AK.yes ?_
   refine AK.pc (p_digits q (by omega)) ?_
   refine AK.rt Tryz.func175 ?_
   simp [textN,retA]
 | var s h =>
   refine Pure.run Tryz.func175 ?_
   refine AK.no ?_
   refine AK.yes ?_
   refine AK.rt Tryz.func175 ?_
   simp [textN,retA]
 | cell s a h ha ih =>
   have hl:=textN_len a ha
   simp [wN,wL] at hn
   refine Pure.run Tryz.func175 ?_
   refine AK.no ?_
   refine AK.no ?_
   refine AK.yes ?_
   refine AK.db 0 ?_
   refine Drv.cg ?_ ?_
   ·simp;omega
   refine Drv.ig 0 (by omega) (row0 a _) ?_
   refine Drv.pg (ih (by omega)) ?_
   refine Drv.cg ?_ ?_
   ·simp;omega
   refine Drv.cg ?_ ?_
   ·simp;omega
   refine Drv.z ?_
   refine AK.rt Tryz.func175 ?_
   simp [textN,retA]
 | len s h =>
   simp [wN,wL] at hn
   refine Pure.run Tryz.func175 ?_
   refine AK.no ?_
   refine AK.no ?_
   refine AK.no ?_
   refine AK.yes ?_
   refine AK.ct ?_ ?_
   ·simp;omega
   refine AK.ct ?_ ?_
   ·simp;omega
   refine AK.rt Tryz.func175 ?_
   simp [textN,retA]
 | neg a ha ih =>
   have hl:=textN_len a ha
   have hp:=parT_len 3 a.kind (textN a)
   simp [wN,wL] at hn
   refine Pure.run Tryz.func175 ?_
   refine AK.no ?_
   refine AK.no ?_
   refine AK.no ?_
   refine AK.no ?_
   refine AK.yes ?_
   refine AK.ix 0 (by omega) (row0 a _) ?_
   refine AK.pc (p_paren a 3 (textN a) (by omega) (ih (by omega))) ?_
   refine AK.ct ?_ ?_
   ·simp;omega
   refine AK.rt Tryz.func175 ?_
   simp [textN,retA]
 | two k a b hk ha hb iha ihb =>
   have hla:=textN_len a ha
   have hlb:=textN_len b hb
   have h1:=parT_len 1 a.kind (textN a)
   have h2:=parT_len 2 a.kind (textN a)
   have h3:=parT_len 2 b.kind (textN b)
   have h4:=parT_len 3 b.kind (textN b)
   simp [wN,wL] at hn
   refine Pure.run Tryz.func175 ?_
   rcases hk with rfl | rfl | rfl
   ·refine AK.no ?_
    refine AK.no ?_
    refine AK.no ?_
    refine AK.no ?_
    refine AK.no ?_
    refine AK.yes ?_
    refine AK.db 0 ?_
    refine Drv.ig 0 (by omega) (row0 a _) ?_
    refine Drv.pg (p_paren a 1 (textN a) (by omega) (iha (by omega))) ?_
    refine Drv.cg ?_ ?_
    ·simp;omega
    refine Drv.ig 1 (by omega) (row1 a b _) ?_
    refine Drv.pg (p_paren b 2 (textN b) (by omega) (ihb (by omega))) ?_
    refine Drv.cg ?_ ?_
    ·simp;omega
    refine Drv.z ?_
    refine AK.rt Tryz.func175 ?_
    simp [textN,retA]
   ·refine AK.no ?_
    refine AK.no ?_
    refine AK.no ?_
    refine AK.no ?_
    refine AK.no ?_
    refine AK.no ?_
    refine AK.yes ?_
    refine AK.db 0 ?_
    refine Drv.ig 0 (by omega) (row0 a _) ?_
    refine Drv.pg (p_paren a 1 (textN a) (by omega) (iha (by omega))) ?_
    refine Drv.cg ?_ ?_
    ·simp;omega
    refine Drv.ig 1 (by omega) (row1 a b _) ?_
    refine Drv.pg (p_paren b 2 (textN b) (by omega) (ihb (by omega))) ?_
    refine Drv.cg ?_ ?_
    ·simp;omega
    refine Drv.z ?_
    refine AK.rt Tryz.func175 ?_
    simp [textN,retA]
   ·refine AK.no ?_
    refine AK.no ?_
    refine AK.no ?_
    refine AK.no ?_
    refine AK.no ?_
    refine AK.no ?_
    refine AK.no ?_
    refine AK.yes ?_
    refine AK.db 0 ?_
    refine Drv.ig 0 (by omega) (row0 a _) ?_
    refine Drv.pg (p_paren a 2 (textN a) (by omega) (iha (by omega))) ?_
    refine Drv.cg ?_ ?_
    ·simp;omega
    refine Drv.ig 1 (by omega) (row1 a b _) ?_
    refine Drv.pg (p_paren b 3 (textN b) (by omega) (ihb (by omega))) ?_
    refine Drv.cg ?_ ?_
    ·simp;omega
    refine Drv.z ?_
    refine AK.rt Tryz.func175 ?_
    simp [textN,retA]
theorem p_textC (n:Nd)(h:FC n)(hn:wN n≤1000000000):Pure X 175 [nd n] (str (textN n)):=by
 cases h with
 | mk k a b h0 h1 ha hb =>
   have hla:=textN_len a ha
   have hlb:=textN_len b hb
   have hr:=relT_len k
   simp [wN,wL] at hn
   refine Pure.run Tryz.func175 ?_
   have ne:∀ j:Int,j<11→(k==j)=false:=fun j hj=>by simp;omega
   refine AK.no ?_ (ht:=ne 1 (by omega))
   refine AK.no ?_ (ht:=ne 2 (by omega))
   refine AK.no ?_ (ht:=ne 3 (by omega))
   refine AK.no ?_ (ht:=ne 4 (by omega))
   refine AK.no ?_ (ht:=ne 5 (by omega))
   refine AK.no ?_ (ht:=ne 6 (by omega))
   refine AK.no ?_ (ht:=ne 7 (by omega))
   refine AK.no ?_ (ht:=ne 8 (by omega))
   have hw:IntKind.i64.wrap (k-11)=k-11:=wrap_small (by omega) (by omega)
   have hrel:(strR [[60],[60,61],[62],[62,61],[61,61],[33,61]])[(IntKind.i64.wrap (k-11)).toNat]?=some [str (relT k)]:=by
    rw [hw]
    have:k=11∨k=12∨k=13∨k=14∨k=15∨k=16:=by omega
    rcases this with rfl | rfl | rfl | rfl | rfl | rfl<;>rfl
   have hT:textN (.mk k [] 0 [a,b])=textN a++[32]++relT k++[32]++textN b:=by
    simp only [textN]
    rw [if_neg (by omega),if_neg (by omega),if_neg (by omega)]
   rw [hT]
   refine AK.db 0 ?_
   refine Drv.ig 0 (by omega) (row0 a _) ?_
   refine Drv.pg (p_textE a ha (by omega)) ?_
   refine Drv.cg ?_ ?_
   ·simp;omega
   refine Drv.ig (IntKind.i64.wrap (k-11)) (by omega) hrel ?_
   refine Drv.cg ?_ ?_
   ·simp;omega
   refine Drv.cg ?_ ?_
   ·simp;omega
   refine Drv.ig 1 (by omega) (row1 a b _) ?_
   refine Drv.pg (p_textE b hb (by omega)) ?_
   refine Drv.cg ?_ ?_
   ·simp;omega
   refine Drv.z ?_
   refine AK.rt Tryz.func175 ?_
   simp [retA]
mutual
def lineS:Nd→List UInt8→List UInt8
 | .mk k s m [],p =>
   if k=31 then p++[118,97,114,32]++s++[59,10]
   else if k=32 then p++[97,114,114,97,121,32]++s++[91]++(if 0≤m then dec m.toNat else [63])++[93,59,10]
   else if k=23 then p++[114,101,97,100,32]++s++[59,10]
   else if k=28 then p++[115,107,105,112,59,10]
   else p++[115,116,111,112,59,10]
 | .mk k s _ [a],p =>
   if k=21 then p++s++[32,61,32]++textN a++[59,10]
   else p++[99,104,101,99,107,32]++textN a++[59,10]
 | .mk k s _ [a,.mk k' s' m' l],p =>
   if k=22 then p++s++[91]++textN a++[93,32,61,32]++textN (.mk k' s' m' l)++[59,10]
   else p++[119,104,105,108,101,32]++textN a++[32,123,10]++lineL l (p++[32,32])++p++[125,10]
 | .mk k s _ (a::.mk k' s' m' l'::.mk _ _ _ l::_),p =>
   if k=26 then p++[102,111,114,32]++s++[32,102,114,111,109,32]++textN a++[32,116,111,32]++textN (.mk k' s' m' l')++[32,123,10]++lineL l (p++[32,32])++p++[125,10]
   else p++[105,102,32]++textN a++[32,123,10]++lineL l' (p++[32,32])++p ++
    (match l with
      | []=>[]
      | _=>[125,32,101,108,115,101,32,123,10]++lineL l (p++[32,32])++p)++[125,10]
def lineL:List Nd→List UInt8→List UInt8
 | [],_=>[]
 | x::l,p=>lineS x p++lineL l p
end
theorem depth_mem {l:List Nd}{x:Nd}(h:x∈l):depthN x≤depthL l:=by
 induction l with
 | nil=>cases h
 | cons y l ih =>
   simp only [depthL]
   rcases List.mem_cons.1 h with rfl | h
   ·omega
   ·have:=ih h;omega
theorem lineL_flat (l:List Nd)(p:List UInt8):lineL l p=(l.map fun x=>lineS x p).flatten:=by
 induction l with
 | nil=>simp [lineL]
 | cons x l ih=>simp [lineL,ih]
theorem flat_len {l:List Nd}{f:Nd→List UInt8}(h:∀ x,x∈l→(f x).length≤4060*wN x):(l.map f).flatten.length≤4060*wL l:=by
 induction l with
 | nil=>simp
 | cons x l ih =>
   have h1:=h x (by simp)
   have h2:=ih fun y hy=>h y (by simp [hy])
   simp only [List.map_cons,List.flatten_cons,List.length_append,wL];omega
theorem lineL_len {l:List Nd}{p:List UInt8}(h:∀ x,x∈l→(lineS x p).length≤4060*wN x):(lineL l p).length≤4060*wL l:=by
 rw [lineL_flat];exact flat_len h
theorem lineV_len (x:Nd)(h:FV x)(p:List UInt8)(hp:p.length≤1000):(lineS x p).length≤4060*wN x:=by
 cases h with
 | var s h=>simp [lineS,wN];omega
 | arr s m h h0 h1 =>
   have:=dec_le7 m.toNat (by omega)
   simp [lineS,wN]
   by_cases h0:0≤m
   ·simp [h0];omega
   ·simp [h0];omega
theorem lineS_len (x:Nd)(h:FS x):∀ p:List UInt8,p.length+2*depthN x≤1000→(lineS x p).length≤4060*wN x:=by
 induction h with
 | set s a h ha=>intro p hp;have:=textN_len a ha;simp [lineS,wN,wL];omega
 | put s a b h ha hb =>
   intro p hp
   have h1:=textN_len a ha
   have h2:=textN_len b hb
   obtain ⟨k',s',m',l'⟩:=b
   simp only [lineS,wN,wL] at h2 ⊢
   simp;omega
 | read s h=>intro p hp;simp [lineS,wN];omega
 | ifs c l l' hc hl hl' ihl ihl' =>
   intro p hp
   have h1:=textC_len c hc
   simp only [depthN,depthL] at hp
   have hL:=lineL_len (l:=l) (p:=p++[32,32]) fun x hx=>ihl x hx _ (by have:=depth_mem hx;simp;omega)
   have hL':=lineL_len (l:=l') (p:=p++[32,32]) fun x hx=>ihl' x hx _ (by have:=depth_mem hx;simp;omega)
   simp only [lineS,wN,wL]
   cases l' with
   | nil=>simp;omega
   | cons y l'=>simp at hL' ⊢;omega
 | whil c l hc hl ihl =>
   intro p hp
   have h1:=textC_len c hc
   simp only [depthN,depthL] at hp
   have hL:=lineL_len (l:=l) (p:=p++[32,32]) fun x hx=>ihl x hx _ (by have:=depth_mem hx;simp;omega)
   simp [lineS,wN,wL];omega
 | for_ s a b l h ha hb hl ihl =>
   intro p hp
   have h1:=textN_len a ha
   have h2:=textN_len b hb
   simp only [depthN,depthL] at hp
   have hL:=lineL_len (l:=l) (p:=p++[32,32]) fun x hx=>ihl x hx _ (by have:=depth_mem hx;simp;omega)
   obtain ⟨k',s',m',l'⟩:=b
   simp only [lineS,wN,wL] at h2 ⊢
   simp;omega
 | check c hc=>intro p hp;have:=textC_len c hc;simp [lineS,wN,wL];omega
 | skip=>intro p hp;simp [lineS,wN];omega
 | stop=>intro p hp;simp [lineS,wN];omega
theorem p_lineL (k:Int)(hk:k=30∨k=40)(ks:List Nd)(f:Nd→List UInt8)(p:List UInt8)(hp:p.length≤1000)(hw:wL ks≤100000)
 (hf:∀ x,x∈ks→Pure X 126 [nd x,str p] (str (f x))∧(f x).length≤4060*wN x):Pure X 126 [nd (.mk k [] 0 ks),str p] (str (ks.map f).flatten):=by
 generalize hT:(ks.map f).flatten=T
 have ne:∀ j:Int,j≠30→j≠40→(k==j)=false:=fun j h1 h2=>by simp;omega
 have hkl:ks.length≤100000:=by
  have h1:=kids_le_w (.mk k [] 0 ks)
  rw [wN_eq] at h1;simp at h1;omega
 refine Pure.run Tryz.func126 ?_
 refine AK.ct ?_ ?_
 ·simp;omega
 refine AK.no ?_ (ht:=ne 31 (by omega) (by omega))
 refine AK.no ?_ (ht:=ne 32 (by omega) (by omega))
 refine AK.no ?_ (ht:=ne 21 (by omega) (by omega))
 refine AK.no ?_ (ht:=ne 22 (by omega) (by omega))
 refine AK.no ?_ (ht:=ne 23 (by omega) (by omega))
 refine AK.no ?_ (ht:=ne 27 (by omega) (by omega))
 refine AK.no ?_ (ht:=ne 28 (by omega) (by omega))
 refine AK.no ?_ (ht:=ne 29 (by omega) (by omega))
 refine AK.no ?_ (ht:=ne 25 (by omega) (by omega))
 refine AK.no ?_ (ht:=ne 26 (by omega) (by omega))
 refine AK.no ?_ (ht:=ne 24 (by omega) (by omega))
 refine AK.while_ (ι:=Nat) 1 0 (fun i=>i≤ks.length) (fun i=>[(9,vi i),(8,str ((ks.take i).map f).flatten),(2,.ptr 0 0 0),(1,str p)]) (fun _=>⟨[[ncells (.mk k [] 0 ks)]],[]⟩) (fun i=>ks.length-i) ?_ 0 (Nat.zero_le _)
  ⟨rfl,rfl,rfl,rfl,trivial⟩ rfl rfl rfl rfl rfl (fun _=>inferInstance) (fun _=>inferInstance)
 intro i hi IH
 refine AK.ev 100 rfl ?_
 refine AK.if_ (fun h=>?_) (fun h=>?_)
 ·have hlt:i<ks.length:=by have:=of_decide_eq_true h;rw [nrows_len] at this;simp at this;omega
  obtain ⟨x,hx⟩:=lget_of_lt ks hlt
  obtain ⟨h1,h2⟩:=hf x (List.mem_of_getElem? hx)
  have hwx:=wL_mem (List.mem_of_getElem? hx)
  have h3:=flat_len (l:=ks.take i) (f:=f) fun y hy=>(hf y (List.mem_of_mem_take hy)).2
  have h4:wL (ks.take i)≤wL ks:=by
   have:∀ (l:List Nd) (j:Nat),wL (l.take j)≤wL l:=by
    intro l
    induction l with
    | nil=>intro j;simp [wL]
    | cons y l ih=>intro j;cases j with
      | zero=>simp [wL]
      | succ j=>have:=ih j;simp only [List.take_succ_cons,wL];omega
   exact this ks i
  refine AK.ix i (by omega) (nrows_get hx) ?_
  refine AK.pc h1 ?_
  refine AK.ct ?_ ?_
  ·omega
  refine IH (i+1) hlt (by omega) _ _ ⟨vint ((wrap_small (by omega) (by omega)).trans (by omega)),?_,rfl,rfl,trivial⟩ rfl rfl rfl
  rw [List.take_add_one,hx];simp
  rfl
 ·have:i=ks.length:=by have:=of_decide_eq_false h;rw [nrows_len] at this;simp at this;omega
  subst this
  refine AK.rt Tryz.func126 ?_
  rw [List.take_length,hT];rfl
theorem lineN_len (x:Nd)(l:List Nd)(p:List UInt8)(h:∀ x,x∈l→FS x)(hp:p.length+2*depthL l≤1000):(lineL l p).length≤4060*wL l :=
 lineL_len fun x hx=>lineS_len x (h x hx) p (by have:=depth_mem hx;omega)
theorem p_block (l:List Nd)(p:List UInt8)(hl:∀ x,x∈l→FS x)(hp:p.length+2*depthL l≤1000)(hw:wL l≤100000)
 (ih:∀ x,x∈l→∀ p:List UInt8,p.length+2*depthN x≤1000→wN x≤100000→Pure X 126 [nd x,str p] (str (lineS x p))) :
 Pure X 126 [nd (.mk 30 [] 0 l),str p] (str (lineL l p)):=by
 rw [lineL_flat]
 refine p_lineL 30 (.inl rfl) l _ p (by omega) hw fun x hx=>⟨ih x hx p (by have:=depth_mem hx;omega) (by have:=wL_mem hx;omega),lineS_len x (hl x hx) p (by have:=depth_mem hx;omega)⟩
theorem p_lineV (x:Nd)(h:FV x)(p:List UInt8)(hp:p.length≤1000)(hw:wN x≤100000):Pure X 126 [nd x,str p] (str (lineS x p)):=by
 cases h with
 | var s h =>
   simp [wN,wL] at hw
   refine Pure.run Tryz.func126 ?_
   refine AK.ct ?_ ?_
   ·simp;omega
   refine AK.yes ?_
   refine AK.ct ?_ ?_
   ·simp;omega
   refine AK.ct ?_ ?_
   ·simp;omega
   refine AK.ct ?_ ?_
   ·simp;omega
   refine AK.rt Tryz.func126 ?_
   simp [lineS,retA]
 | arr s m h h0 h1 =>
   simp [wN,wL] at hw
   have hd:=dec_le7 m.toNat (by omega)
   refine Pure.run Tryz.func126 ?_
   refine AK.ct ?_ ?_
   ·simp;omega
   refine AK.no ?_
   refine AK.yes ?_
   refine AK.if_ (fun h2=>?_) (fun h2=>?_)
   ·have h2':0≤m:=of_decide_eq_true h2
    obtain ⟨q,rfl⟩:∃ q:Nat,m=q:=⟨m.toNat,by omega⟩
    refine AK.pc (p_digits q (by omega)) ?_
    simp only [Int.toNat_natCast] at hd
    refine AK.ct ?_ ?_
    ·simp;omega
    refine AK.ct ?_ ?_
    ·simp;omega
    refine AK.ct ?_ ?_
    ·simp;omega
    refine AK.ct ?_ ?_
    ·simp;omega
    refine AK.ct ?_ ?_
    ·simp;omega
    refine AK.rt Tryz.func126 ?_
    simp [lineS,retA,h2']
   ·have h2':¬ 0≤m:=of_decide_eq_false h2
    refine AK.ct ?_ ?_
    ·simp;omega
    refine AK.ct ?_ ?_
    ·simp;omega
    refine AK.ct ?_ ?_
    ·simp;omega
    refine AK.ct ?_ ?_
    ·simp;omega
    refine AK.ct ?_ ?_
    ·simp;omega
    refine AK.rt Tryz.func126 ?_
    simp [lineS,retA,h2']
theorem p_lineS (x:Nd)(h:FS x):∀ p:List UInt8,p.length+2*depthN x≤1000→wN x≤100000→Pure X 126 [nd x,str p] (str (lineS x p)):=by
 induction h with
 | set s a h ha =>
   intro p hp hw
   refine Pure.run Tryz.func126 ?_
   refine AK.ct ?_ ?_
   ·simp;omega
   refine AK.no ?_
   refine AK.no ?_
   have hl:=textN_len a ha
   simp [wN,wL] at hw
   refine AK.yes ?_
   refine AK.db 0 ?_
   refine Drv.cg ?_ ?_
   ·simp;omega
   refine Drv.cg ?_ ?_
   ·simp;omega
   refine Drv.ig 0 (by omega) (row0 a _) ?_
   refine Drv.pg (p_textE a ha (by omega)) ?_
   refine Drv.cg ?_ ?_
   ·simp;omega
   refine Drv.cg ?_ ?_
   ·simp;omega
   refine Drv.z ?_
   refine AK.rt Tryz.func126 ?_
   simp [lineS,retA]
 | put s a b h ha hb =>
   intro p hp hw
   refine Pure.run Tryz.func126 ?_
   refine AK.ct ?_ ?_
   ·simp;omega
   refine AK.no ?_
   refine AK.no ?_
   have hl:=textN_len a ha
   have hl2:=textN_len b hb
   simp [wN,wL] at hw
   have hT:lineS (.mk 22 s 0 [a,b]) p=p++s++[91]++textN a++[93,32,61,32]++textN b++[59,10]:=by cases b;simp [lineS]
   rw [hT]
   refine AK.no ?_
   refine AK.yes ?_
   refine AK.db 0 ?_
   refine Drv.cg ?_ ?_
   ·simp;omega
   refine Drv.cg ?_ ?_
   ·simp;omega
   refine Drv.ig 0 (by omega) (row0 a _) ?_
   refine Drv.pg (p_textE a ha (by omega)) ?_
   refine Drv.cg ?_ ?_
   ·simp;omega
   refine Drv.cg ?_ ?_
   ·simp;omega
   refine Drv.ig 1 (by omega) (row1 a b _) ?_
   refine Drv.pg (p_textE b hb (by omega)) ?_
   refine Drv.cg ?_ ?_
   ·simp;omega
   refine Drv.cg ?_ ?_
   ·simp;omega
   refine Drv.z ?_
   refine AK.rt Tryz.func126 ?_
   simp [retA]
 | read s h =>
   intro p hp hw
   refine Pure.run Tryz.func126 ?_
   refine AK.ct ?_ ?_
   ·simp;omega
   refine AK.no ?_
   refine AK.no ?_
   simp [wN,wL] at hw
   refine AK.no ?_
   refine AK.no ?_
   refine AK.yes ?_
   refine AK.ct ?_ ?_
   ·simp;omega
   refine AK.ct ?_ ?_
   ·simp;omega
   refine AK.ct ?_ ?_
   ·simp;omega
   refine AK.rt Tryz.func126 ?_
   simp [lineS,retA]
 | check c hc =>
   intro p hp hw
   refine Pure.run Tryz.func126 ?_
   refine AK.ct ?_ ?_
   ·simp;omega
   refine AK.no ?_
   refine AK.no ?_
   have hl:=textC_len c hc
   simp [wN,wL] at hw
   refine AK.no ?_
   refine AK.no ?_
   refine AK.no ?_
   refine AK.yes ?_
   refine AK.ct ?_ ?_
   ·simp;omega
   refine AK.ix 0 (by omega) (row0 c _) ?_
   refine AK.pc (p_textC c hc (by omega)) ?_
   refine AK.ct ?_ ?_
   ·simp;omega
   refine AK.ct ?_ ?_
   ·simp;omega
   refine AK.rt Tryz.func126 ?_
   simp [lineS,retA]
 | skip =>
   intro p hp hw
   refine Pure.run Tryz.func126 ?_
   refine AK.ct ?_ ?_
   ·simp;omega
   refine AK.no ?_
   refine AK.no ?_
   refine AK.no ?_
   refine AK.no ?_
   refine AK.no ?_
   refine AK.no ?_
   refine AK.yes ?_
   refine AK.ct ?_ ?_
   ·simp;omega
   refine AK.rt Tryz.func126 ?_
   simp [lineS,retA]
 | stop =>
   intro p hp hw
   refine Pure.run Tryz.func126 ?_
   refine AK.ct ?_ ?_
   ·simp;omega
   refine AK.no ?_
   refine AK.no ?_
   refine AK.no ?_
   refine AK.no ?_
   refine AK.no ?_
   refine AK.no ?_
   refine AK.no ?_
   refine AK.yes ?_
   refine AK.ct ?_ ?_
   ·simp;omega
   refine AK.rt Tryz.func126 ?_
   simp [lineS,retA]
 | whil c l hc hl ihl =>
   intro p hp hw
   refine Pure.run Tryz.func126 ?_
   refine AK.ct ?_ ?_
   ·simp;omega
   refine AK.no ?_
   refine AK.no ?_
   have h1:=textC_len c hc
   simp only [depthN,depthL] at hp
   simp [wN,wL] at hw
   have hlen:=lineN_len c l (p++[32,32]) hl (by simp;omega)
   have hB:=p_block l (p++[32,32]) hl (by simp;omega) (by omega) ihl
   refine AK.no ?_
   refine AK.no ?_
   refine AK.no ?_
   refine AK.no ?_
   refine AK.no ?_
   refine AK.no ?_
   refine AK.yes ?_
   refine AK.db 0 ?_
   refine Drv.cg ?_ ?_
   ·simp;omega
   refine Drv.ig 0 (by omega) (row0 c _) ?_
   refine Drv.pg (p_textC c hc (by omega)) ?_
   refine Drv.cg ?_ ?_
   ·simp;omega
   refine Drv.cg ?_ ?_
   ·simp;omega
   refine Drv.ig 1 (by omega) (row1 c _ _) ?_
   refine Drv.pg hB ?_
   refine Drv.cg ?_ ?_
   ·simp;omega
   refine Drv.cg ?_ ?_
   ·simp;omega
   refine Drv.cg ?_ ?_
   ·simp;omega
   refine Drv.z ?_
   refine AK.rt Tryz.func126 ?_
   simp [lineS,retA]
 | for_ s a b l h ha hb hl ihl =>
   intro p hp hw
   refine Pure.run Tryz.func126 ?_
   refine AK.ct ?_ ?_
   ·simp;omega
   refine AK.no ?_
   refine AK.no ?_
   have h1:=textN_len a ha
   have h2:=textN_len b hb
   simp only [depthN,depthL] at hp
   simp [wN,wL] at hw
   have hlen:=lineN_len a l (p++[32,32]) hl (by simp;omega)
   have hB:=p_block l (p++[32,32]) hl (by simp;omega) (by omega) ihl
   have hT:lineS (.mk 26 s 0 [a,b,.mk 30 [] 0 l]) p=p++[102,111,114,32]++s++[32,102,114,111,109,32]++textN a++[32,116,111,32]++textN b++[32,123,10]++lineL l (p++[32,32])++p++[125,10]:=by
    cases b;simp [lineS]
   rw [hT]
   refine AK.no ?_
   refine AK.no ?_
   refine AK.no ?_
   refine AK.no ?_
   refine AK.no ?_
   refine AK.no ?_
   refine AK.no ?_
   refine AK.yes ?_
   refine AK.db 0 ?_
   refine Drv.cg ?_ ?_
   ·simp;omega
   refine Drv.cg ?_ ?_
   ·simp;omega
   refine Drv.cg ?_ ?_
   ·simp;omega
   refine Drv.ig 0 (by omega) (row0 a _) ?_
   refine Drv.pg (p_textE a ha (by omega)) ?_
   refine Drv.cg ?_ ?_
   ·simp;omega
   refine Drv.cg ?_ ?_
   ·simp;omega
   refine Drv.ig 1 (by omega) (row1 a b _) ?_
   refine Drv.pg (p_textE b hb (by omega)) ?_
   refine Drv.cg ?_ ?_
   ·simp;omega
   refine Drv.cg ?_ ?_
   ·simp;omega
   refine Drv.ig 2 (by omega) (row2 a b _ _) ?_
   refine Drv.pg hB ?_
   refine Drv.cg ?_ ?_
   ·simp;omega
   refine Drv.cg ?_ ?_
   ·simp;omega
   refine Drv.cg ?_ ?_
   ·simp;omega
   refine Drv.z ?_
   refine AK.rt Tryz.func126 ?_
   simp [retA]
 | ifs c l l' hc hl hl' ihl ihl' =>
   intro p hp hw
   refine Pure.run Tryz.func126 ?_
   refine AK.ct ?_ ?_
   ·simp;omega
   refine AK.no ?_
   refine AK.no ?_
   have h1:=textC_len c hc
   simp only [depthN,depthL] at hp
   simp [wN,wL] at hw
   have hlen:=lineN_len c l (p++[32,32]) hl (by simp;omega)
   have hB:=p_block l (p++[32,32]) hl (by simp;omega) (by omega) ihl
   have hlen':=lineN_len c l' (p++[32,32]) hl' (by simp;omega)
   have hB':=p_block l' (p++[32,32]) hl' (by simp;omega) (by omega) ihl'
   refine AK.no ?_
   refine AK.no ?_
   refine AK.no ?_
   refine AK.no ?_
   refine AK.no ?_
   refine AK.no ?_
   refine AK.no ?_
   refine AK.no ?_
   refine AK.yes ?_
   refine AK.db 0 ?_
   refine Drv.cg ?_ ?_
   ·simp;omega
   refine Drv.ig 0 (by omega) (row0 c _) ?_
   refine Drv.pg (p_textC c hc (by omega)) ?_
   refine Drv.cg ?_ ?_
   ·simp;omega
   refine Drv.cg ?_ ?_
   ·simp;omega
   refine Drv.ig 1 (by omega) (row1 c _ _) ?_
   refine Drv.pg hB ?_
   refine Drv.cg ?_ ?_
   ·simp;omega
   refine Drv.cg ?_ ?_
   ·simp;omega
   refine Drv.z ?_
   refine AK.ix 2 (by omega) (row2 c _ _ _) ?_
   cases l' with
   | nil =>
     refine AK.no ?_
     refine AK.ct ?_ ?_
     ·simp;omega
     refine AK.rt Tryz.func126 ?_
     simp [lineS,retA]
   | cons y l' =>
     refine AK.yes ?_ (ht:=decide_eq_true (by simp [nrows]))
     refine AK.ct ?_ ?_
     ·simp;omega
     refine AK.ix 2 (by omega) (row2 c _ _ _) ?_
     refine AK.pc hB' ?_
     refine AK.ct ?_ ?_
     ·simp;omega
     refine AK.ct ?_ ?_
     ·simp;omega
     refine AK.ct ?_ ?_
     ·simp;omega
     refine AK.rt Tryz.func126 ?_
     simp [lineS,retA]
end Go.V
