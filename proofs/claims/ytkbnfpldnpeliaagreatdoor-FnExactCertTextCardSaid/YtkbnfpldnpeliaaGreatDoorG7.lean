/- A part of the proof of the claim that the last text states: no condition of its own. -/
import Derived.Test.YtkbnfpldnpeliaaGreatDoorG6
import Derived.Ground.NamesProg
import Derived.Lib.ConvBytes
import Derived.Shelf.Strconv.AtoiAll
import Derived.Shelf.Strconv.Itoa3
import Derived.Test.YtkbnfpldnpeliaaGreatDoorChecked
import Derived.WideLaws
set_option linter.unusedVariables false
set_option linter.unusedSimpArgs false
namespace Go.V
open Go Go.Proofs
def RS.wk (r:RS):Prop:=∀ w:Wd,w∈r.ws→w.kind=kindS w.text
theorem RS.after.wk {r r':RS}(h:r.after r')(hw:r.wk):r'.wk:=by unfold RS.wk;rw [h.1];exact hw
theorem kindS_name {s:List UInt8}(h:kindS s=1):nameS s=true:=by
 simp only [kindS] at h
 split at h
 ·simp at h
 ·split at h
  ·assumption
  ·split at h
   ·simp at h
   ·split at h<;>simp at h
theorem kindS_num {s:List UInt8}(h:kindS s=2):0≤numberS s:=by
 simp only [kindS] at h
 split at h
 ·simp at h
 ·split at h
  ·simp at h
  ·split at h
   ·assumption
   ·split at h<;>simp at h
theorem numGo_le:∀ (l:List UInt8)(n:Int),numGo n l≤1000000
 | [],n=>by simp only [numGo];split<;>omega
 | c::l,n=>by
   simp only [numGo]
   split
   ·exact numGo_le l _
   ·omega
theorem numberS_le (s:List UInt8):numberS s≤1000000:=by
 unfold numberS
 split
 ·omega
 ·split
  ·omega
  ·split
   ·omega
   ·exact numGo_le _ _
theorem word_here {r:RS}(hw:r.wk)(h:r.kind≠0):r.kind=kindS r.text:=by
 have hlt:=kind_lt h
 obtain ⟨w,hwd⟩:=lget_of_lt r.ws hlt
 have:=hw w (List.mem_of_getElem? hwd)
 simp only [RS.kind,RS.text,hwd];exact this
theorem named_name {r:RS}(hw:r.wk)(h:r.named=true):nameS r.text=true:=by
 simp only [RS.named,Bool.not_eq_true',Bool.or_eq_false_iff,Bool.not_eq_false',beq_iff_eq] at h
 have:=word_here hw (by rw [h.2];simp)
 exact kindS_name (by rw [← this];exact h.2)
theorem name_good {r:RS}(hw:r.wk)(h:r.nameR.bad=false):r.named=true∧nameS r.name=true∧r.nameR=r.step∧r.bad=false:=by
 by_cases hn:r.named=true
 ·have hb:r.bad=false:=by simp only [RS.named,Bool.not_eq_true',Bool.or_eq_false_iff] at hn;exact hn.1
  refine ⟨hn,?_,by simp [RS.nameR,hn],hb⟩
  simp only [RS.name,hn,if_true]
  exact named_name hw hn
 ·simp only [RS.nameR,hn,RS.spoil] at h;simp at h
theorem need_good {r:RS}{s:List UInt8}(h:(r.need s).bad=false):r.takes s=true∧r.need s=r.step∧r.bad=false:=by
 by_cases hn:r.takes s=true
 ·refine ⟨hn,by simp [RS.need,hn],?_⟩
  simp only [RS.takes,Bool.not_eq_true',Bool.or_eq_false_iff] at hn;exact hn.1
 ·simp only [RS.need,hn,RS.spoil] at h;simp at h
theorem takes_bad {r:RS}{s:List UInt8}(h:r.takes s=true):r.bad=false:=by
 simp only [RS.takes,Bool.not_eq_true',Bool.or_eq_false_iff] at h;exact h.1
theorem bad_of {b c:Bool}(h:b=true→c=true)(hc:c=false):b=false:=by
 cases b
 ·rfl
 ·rw [h rfl] at hc;cases hc
theorem exprs_good:∀ (f:Nat),(∀ r:RS,r.ok→r.wk→4*r.left+1≤f→(oneM f r).2.bad=false→FE (oneM f r).1∧r.at_+countN (oneM f r).1≤(oneM f r).2.at_) ∧
 (∀ r:RS,r.ok→r.wk→4*r.left+2≤f→(termM f r).2.bad=false→FE (termM f r).1∧r.at_+countN (termM f r).1≤(termM f r).2.at_) ∧
 (∀ (x:Nd)(a:Nat)(r:RS),r.ok→r.wk→FE x→a+countN x≤r.at_→4*r.left+1≤f→(termL f x r).2.bad=false→FE (termL f x r).1∧a+countN (termL f x r).1≤(termL f x r).2.at_) ∧
 (∀ r:RS,r.ok→r.wk→4*r.left+3≤f→(exprM f r).2.bad=false→FE (exprM f r).1∧r.at_+countN (exprM f r).1≤(exprM f r).2.at_) ∧
 (∀ (x:Nd)(a:Nat)(r:RS),r.ok→r.wk→FE x→a+countN x≤r.at_→4*r.left+2≤f→(exprL f x r).2.bad=false→FE (exprL f x r).1∧a+countN (exprL f x r).1≤(exprL f x r).2.at_):=by
 intro f
 induction f with
 | zero=>exact ⟨fun r _ _ h=>by omega,fun r _ _ h=>by omega,fun x a r _ _ _ _ h=>by omega,fun r _ _ h=>by omega,fun x a r _ _ _ _ h=>by omega⟩
 | succ f ih =>
   obtain ⟨i1,i2,i3,i4,i5⟩:=ih
   obtain ⟨b1,b2,b3,b4,b5⟩:=exprs_bad f
   obtain ⟨a1,a2,a3,a4,a5⟩:=exprs_after f
   refine ⟨fun r ho hw hf hg=>?_,fun r ho hw hf hg=>?_,fun x a r ho hw hx ha hf hg=>?_,fun r ho hw hf hg=>?_,fun x a r ho hw hx ha hf hg=>?_⟩
   ·have hb:r.bad=false:=bad_of (fun h=>(exprs_bad (f+1)).1 r h) hg
    simp only [oneM] at hg ⊢
    rw [if_neg (by simp [hb])] at hg ⊢
    split at hg
    ·rename_i ht
     have hl:=(takes_lt ht (by simp)).1
     have ls:=left_step hl
     have s:=step_after hl
     obtain ⟨g1,g2⟩:=i1 r.step (s.ok ho) (s.wk hw) (by omega) hg
     rw [if_pos ht]
     refine ⟨.neg _ g1,?_⟩
     simp only [countN,countL,RS.step] at g2 ⊢;omega
    rename_i ht1
    rw [if_neg ht1]
    split at hg
    ·rename_i hk
     rw [if_pos hk]
     have hk':r.kind=2:=by simpa using hk
     have:=word_here hw (by rw [hk'];simp)
     refine ⟨.num _ (kindS_num (by rw [← this];exact hk')) (numberS_le _),?_⟩
     simp [countN,countL,RS.step]
    rename_i hk
    rw [if_neg hk]
    split at hg
    ·rename_i ht
     have hl:=(takes_lt ht (by simp)).1
     have ls:=left_step hl
     have s:=step_after hl
     obtain ⟨n1,n2,n3⟩:=need_good hg
     obtain ⟨g1,g2⟩:=i4 r.step (s.ok ho) (s.wk hw) (by omega) n3
     rw [if_pos ht]
     refine ⟨g1,?_⟩
     simp only [n2]
     simp only [RS.step] at g2 ⊢;omega
    rename_i ht2
    rw [if_neg ht2]
    split at hg
    ·rename_i ht
     have hl:=(takes_lt ht (by simp)).1
     have s:=step_after hl
     obtain ⟨n1,n2,n3⟩:=need_good hg
     have s2:=s.trans (need_after (s:=[40]) (s.ok ho) (by simp))
     obtain ⟨m1,m2,m3,m4⟩:=name_good (s2.wk hw) n3
     rw [if_pos ht]
     refine ⟨.len _ m2,?_⟩
     have e4:=(need_good m4).2.1
     have:((r.step.need [40]).nameR.need [41]).at_=r.at_+4:=by rw [n2,m3,e4];rfl
     simp only [countN,countL];omega
    rename_i ht3
    rw [if_neg ht3]
    split at hg
    ·rename_i ht
     rw [if_pos ht]
     obtain ⟨m1,m2,m3,m4⟩:=name_good hw (takes_bad ht)
     have hl:=(takes_lt ht (by simp)).1
     have s:=(nameR_after ho).trans (step_after hl)
     have s':=left_after (nameR_after ho)
     have ls:=left_step hl
     obtain ⟨n1,n2,n3⟩:=need_good hg
     obtain ⟨g1,g2⟩:=i4 r.nameR.step (s.ok ho) (s.wk hw) (by omega) n3
     refine ⟨.cell _ _ m2 g1,?_⟩
     simp only [n2]
     simp only [m3,RS.step,countN,countL] at g2 ⊢;omega
    ·rename_i ht
     rw [if_neg ht]
     obtain ⟨m1,m2,m3,m4⟩:=name_good hw hg
     refine ⟨.var _ m2,?_⟩
     simp [m3,RS.step,countN,countL]
   ·simp only [termM] at hg ⊢
    have h1:=bad_of (b3 (oneM f r).1 (oneM f r).2) hg
    obtain ⟨g1,g2⟩:=i1 r ho hw (by omega) h1
    have af:=a1 r ho
    have lf:=left_after af
    exact i3 _ r.at_ _ (af.ok ho) (af.wk hw) g1 g2 (by omega) hg
   ·simp only [termL] at hg ⊢
    split at hg
    ·rename_i ht
     rw [if_pos ht]
     have hl:=(takes_lt ht (by simp)).1
     have ls:=left_step hl
     have s:=step_after hl
     have h1:=bad_of (b3 _ (oneM f r.step).2) hg
     obtain ⟨g1,g2⟩:=i1 r.step (s.ok ho) (s.wk hw) (by omega) h1
     have af:=s.trans (a1 r.step (s.ok ho))
     have lf:=left_after (a1 r.step (s.ok ho))
     refine i3 _ a _ (af.ok ho) (af.wk hw) (.two 8 _ _ (by simp) hx g1) ?_ (by omega) hg
     simp only [RS.step,countN,countL] at g2 ⊢;omega
    ·rename_i ht
     rw [if_neg ht]
     exact ⟨hx,ha⟩
   ·simp only [exprM] at hg ⊢
    have h1:=bad_of (b5 (termM f r).1 (termM f r).2) hg
    obtain ⟨g1,g2⟩:=i2 r ho hw (by omega) h1
    have af:=a2 r ho
    have lf:=left_after af
    exact i5 _ r.at_ _ (af.ok ho) (af.wk hw) g1 g2 (by omega) hg
   ·simp only [exprL] at hg ⊢
    split at hg
    ·rename_i ht
     rw [if_pos ht]
     have hl:=(takes_lt ht (by simp)).1
     have ls:=left_step hl
     have s:=step_after hl
     have h1:=bad_of (b5 _ (termM f r.step).2) hg
     obtain ⟨g1,g2⟩:=i2 r.step (s.ok ho) (s.wk hw) (by omega) h1
     have af:=s.trans (a2 r.step (s.ok ho))
     have lf:=left_after (a2 r.step (s.ok ho))
     refine i5 _ a _ (af.ok ho) (af.wk hw) (.two 6 _ _ (by simp) hx g1) ?_ (by omega) hg
     simp only [RS.step,countN,countL] at g2 ⊢;omega
    ·rename_i ht1
     rw [if_neg ht1]
     split at hg
     ·rename_i ht
      rw [if_pos ht]
      have hl:=(takes_lt ht (by simp)).1
      have ls:=left_step hl
      have s:=step_after hl
      have h1:=bad_of (b5 _ (termM f r.step).2) hg
      obtain ⟨g1,g2⟩:=i2 r.step (s.ok ho) (s.wk hw) (by omega) h1
      have af:=s.trans (a2 r.step (s.ok ho))
      have lf:=left_after (a2 r.step (s.ok ho))
      refine i5 _ a _ (af.ok ho) (af.wk hw) (.two 7 _ _ (by simp) hx g1) ?_ (by omega) hg
      simp only [RS.step,countN,countL] at g2 ⊢;omega
     ·rename_i ht
      rw [if_neg ht]
      exact ⟨hx,ha⟩
theorem exprR_good {r:RS}(ho:r.ok)(hw:r.wk)(h:(exprR r).2.bad=false):FE (exprR r).1∧r.at_+countN (exprR r).1≤(exprR r).2.at_ :=
 (exprs_good 6010).2.2.2.1 r ho hw (by have:=ho.1;simp only [RS.left];omega) h
theorem relS_range {s:List UInt8}(h:relS s≠0):11≤relS s∧relS s≤16:=by
 unfold relS at h ⊢
 repeat' split
 all_goals (first | omega | simp_all)
theorem condR_good {r:RS}(ho:r.ok)(hw:r.wk)(h:(condR r).2.bad=false):FC (condR r).1∧r.at_+countN (condR r).1≤(condR r).2.at_:=by
 simp only [condR] at h ⊢
 split at h
 ·simp [RS.spoil] at h
 ·rename_i hc
  rw [if_neg hc]
  simp only [Bool.or_eq_true,not_or,beq_iff_eq,Bool.not_eq_true] at hc
  have hl:=relS_text hc.2
  have a:=exprR_after ho
  have b:=a.trans (step_after hl)
  obtain ⟨g1,g2⟩:=exprR_good ho hw hc.1
  obtain ⟨g3,g4⟩:=exprR_good (b.ok ho) (b.wk hw) h
  have hr:=relS_range hc.2
  refine ⟨.mk _ _ _ hr.1 hr.2 g1 g3,?_⟩
  simp only [RS.step,countN,countL] at g4 ⊢;omega
theorem bad_setR {r:RS}(h:r.bad=true):(setR r).2.bad=true:=by
 simp only [setR]
 rw [if_neg (by simp [bad_takes (bad_nameR h)])]
 exact bad_exprR (bad_need (bad_nameR h) _)
theorem bad_simpleR {r:RS}(h:r.bad=true):(simpleR r).2.bad=true:=by
 simp only [simpleR]
 rw [if_neg (by simp [bad_takes h]),if_neg (by simp [bad_takes h]),if_neg (by simp [bad_takes h]),if_neg (by simp [bad_takes h])]
 exact bad_setR h
theorem simpleR_good {r:RS}(ho:r.ok)(hw:r.wk)(h:(simpleR r).2.bad=false):FS (simpleR r).1∧r.at_+countN (simpleR r).1≤(simpleR r).2.at_:=by
 simp only [simpleR] at h ⊢
 split at h
 ·rename_i ht
  rw [if_pos ht]
  have s:=step_after (takes_lt ht (by simp)).1
  obtain ⟨g1,g2⟩:=condR_good (s.ok ho) (s.wk hw) h
  refine ⟨.check _ g1,?_⟩
  simp only [RS.step,countN,countL] at g2 ⊢;omega
 rename_i ht1
 rw [if_neg ht1]
 split at h
 ·rename_i ht
  rw [if_pos ht]
  have s:=step_after (takes_lt ht (by simp)).1
  obtain ⟨m1,m2,m3,m4⟩:=name_good (s.wk hw) h
  refine ⟨.read _ m2,?_⟩
  rw [m3];simp [RS.step,countN,countL]
 rename_i ht2
 rw [if_neg ht2]
 split at h
 ·rename_i ht
  rw [if_pos ht]
  exact ⟨.skip,by simp [RS.step,countN,countL]⟩
 rename_i ht3
 rw [if_neg ht3]
 split at h
 ·rename_i ht
  rw [if_pos ht]
  exact ⟨.stop,by simp [RS.step,countN,countL]⟩
 rename_i ht4
 rw [if_neg ht4]
 simp only [setR] at h ⊢
 split at h
 ·rename_i ht
  rw [if_pos ht]
  obtain ⟨m1,m2,m3,m4⟩:=name_good hw (takes_bad ht)
  have s:=(nameR_after ho).trans (step_after (takes_lt ht (by simp)).1)
  have a1:=s.trans (exprR_after (s.ok ho))
  have a2:=a1.trans (need_after (s:=[93]) (a1.ok ho) (by simp))
  have a3:=a2.trans (need_after (s:=[61]) (a2.ok ho) (by simp))
  have hb:=bad_of (fun h=>bad_exprR h) h
  obtain ⟨n1,n2,n3⟩:=need_good hb
  obtain ⟨n4,n5,n6⟩:=need_good n3
  obtain ⟨g1,g2⟩:=exprR_good (s.ok ho) (s.wk hw) n6
  obtain ⟨g3,g4⟩:=exprR_good (a3.ok ho) (a3.wk hw) h
  refine ⟨.put _ _ _ m2 g1 g3,?_⟩
  have e1:(((exprR r.nameR.step).2.need [93]).need [61]).at_=(exprR r.nameR.step).2.at_+2:=by rw [n2,n5];rfl
  have e2:r.nameR.step.at_=r.at_+2:=by rw [m3];rfl
  simp only [countN,countL];omega
 ·rename_i ht
  rw [if_neg ht]
  have a1:=nameR_after ho
  have a2:=a1.trans (need_after (s:=[61]) (a1.ok ho) (by simp))
  have hb:=bad_of (fun h=>bad_exprR h) h
  obtain ⟨n1,n2,n3⟩:=need_good hb
  obtain ⟨m1,m2,m3,m4⟩:=name_good hw n3
  obtain ⟨g3,g4⟩:=exprR_good (a2.ok ho) (a2.wk hw) h
  refine ⟨.set _ _ m2 g3,?_⟩
  have e1:(r.nameR.need [61]).at_=r.at_+2:=by rw [n2,m3];rfl
  simp only [countN,countL];omega
theorem stmts_bad:∀ (f:Nat),(∀ r:RS,r.bad=true→(stmtM f r).2.bad=true)∧(∀ r:RS,r.bad=true→(blockM f r).2.bad=true)∧(∀ (acc:List Nd)(r:RS),r.bad=true→(listM f acc r).2.bad=true):=by
 intro f
 induction f with
 | zero=>exact ⟨fun r h=>by simpa only [stmtM] using h,fun r h=>by simpa only [blockM] using h,fun x r h=>by simpa only [listM] using h⟩
 | succ f ih =>
   obtain ⟨i1,i2,i3⟩:=ih
   refine ⟨fun r h=>?_,fun r h=>?_,fun acc r h=>?_⟩
   ·simp only [stmtM]
    rw [if_neg (by simp [bad_takes h]),if_neg (by simp [bad_takes h]),if_neg (by simp [bad_takes h])]
    exact bad_need (bad_simpleR h) _
   ·simp only [blockM];exact bad_need (i3 _ _ (bad_need h _)) _
   ·simp only [listM];rw [if_neg (by simp [h])];exact h
theorem countL_snoc' (l:List Nd)(x:Nd):countL (l++[x])=countL l+countN x:=by rw [countL_append];simp [countL]
theorem step_at (r:RS):r.step.at_=r.at_+1:=rfl
theorem stmts_good:∀ (f:Nat),(∀ r:RS,r.ok→r.wk→3*r.left+1≤f→(stmtM f r).2.bad=false→FS (stmtM f r).1∧r.at_+countN (stmtM f r).1≤(stmtM f r).2.at_) ∧
 (∀ r:RS,r.ok→r.wk→3*r.left+3≤f→(blockM f r).2.bad=false→∃ l,(blockM f r).1=.mk 30 [] 0 l∧(∀ x,x∈l→FS x)∧r.at_+2+countL l≤(blockM f r).2.at_) ∧
 (∀ (acc:List Nd)(a:Nat)(r:RS),r.ok→r.wk→(∀ x,x∈acc→FS x)→a+countL acc≤r.at_→3*r.left+2≤f→(listM f acc r).2.bad=false→(∀ x,x∈(listM f acc r).1→FS x)∧a+countL (listM f acc r).1≤(listM f acc r).2.at_):=by
 intro f
 induction f with
 | zero=>exact ⟨fun r _ _ h=>by omega,fun r _ _ h=>by omega,fun x a r _ _ _ _ h=>by omega⟩
 | succ f ih =>
   obtain ⟨i1,i2,i3⟩:=ih
   obtain ⟨b1,b2,b3⟩:=stmts_bad f
   obtain ⟨a1,a2,a3⟩:=stmts_after f
   refine ⟨fun r ho hw hf hg=>?_,fun r ho hw hf hg=>?_,fun acc a r ho hw hx ha hf hg=>?_⟩
   ·simp only [stmtM] at hg ⊢
    split at hg
    ·rename_i ht
     rw [if_pos ht]
     have hl:=(takes_lt ht (by simp)).1
     have ls:=left_step hl
     have s:=step_after hl
     have c:=s.trans (condR_after (s.ok ho))
     have lc:=left_after (condR_after (s.ok ho))
     split at hg
     ·rename_i ht2
      rw [if_pos ht2]
      have hl2:=(takes_lt ht2 (by simp)).1
      have ls2:=left_step hl2
      have d:=c.trans (a2 _ (c.ok ho))
      have ld:=left_after (a2 _ (c.ok ho))
      have e:=d.trans (step_after hl2)
      have hb1:=takes_bad ht2
      have hb2:=bad_of (b2 (condR r.step).2) hb1
      obtain ⟨g1,g2⟩:=condR_good (s.ok ho) (s.wk hw) hb2
      obtain ⟨l,e1,h1,h2⟩:=i2 _ (c.ok ho) (c.wk hw) (by omega) hb1
      obtain ⟨l',e2,h3,h4⟩:=i2 _ (e.ok ho) (e.wk hw) (by omega) hg
      rw [e1,e2]
      refine ⟨.ifs _ _ _ g1 h1 h3,?_⟩
      simp only [step_at,countN,countL] at g2 h4 ⊢;omega
     ·rename_i ht2
      rw [if_neg ht2]
      have hb2:=bad_of (b2 (condR r.step).2) hg
      obtain ⟨g1,g2⟩:=condR_good (s.ok ho) (s.wk hw) hb2
      obtain ⟨l,e1,h1,h2⟩:=i2 _ (c.ok ho) (c.wk hw) (by omega) hg
      rw [e1]
      refine ⟨.ifs _ _ [] g1 h1 (fun x hx=>by cases hx),?_⟩
      simp only [step_at,countN,countL] at g2 ⊢;omega
    rename_i ht1
    rw [if_neg ht1]
    split at hg
    ·rename_i ht
     rw [if_pos ht]
     have hl:=(takes_lt ht (by simp)).1
     have ls:=left_step hl
     have s:=step_after hl
     have c:=s.trans (condR_after (s.ok ho))
     have lc:=left_after (condR_after (s.ok ho))
     have hb2:=bad_of (b2 (condR r.step).2) hg
     obtain ⟨g1,g2⟩:=condR_good (s.ok ho) (s.wk hw) hb2
     obtain ⟨l,e1,h1,h2⟩:=i2 _ (c.ok ho) (c.wk hw) (by omega) hg
     rw [e1]
     refine ⟨.whil _ _ g1 h1,?_⟩
     simp only [step_at,countN,countL] at g2 ⊢;omega
    rename_i ht2
    rw [if_neg ht2]
    split at hg
    ·rename_i ht
     rw [if_pos ht]
     have hl:=(takes_lt ht (by simp)).1
     have ls:=left_step hl
     have s:=step_after hl
     have fa:=s.trans (forA_after (s.ok ho))
     have fb:=s.trans (forB_after (s.ok ho))
     have lb:=left_after (forB_after (s.ok ho))
     have d:=fb.trans (exprR_after (fb.ok ho))
     have ld:=left_after (exprR_after (fb.ok ho))
     have hb2:=bad_of (b2 _) hg
     have hb3:=bad_of (fun h=>bad_exprR h) hb2
     obtain ⟨n1,n2,n3⟩:=need_good (r:=(exprR (forA r.step)).2) (s:=wTo) hb3
     have hb4:=bad_of (fun h=>bad_exprR h) n3
     obtain ⟨n4,n5,n6⟩:=need_good (r:=r.step.nameR) (s:=wFrom) hb4
     obtain ⟨m1,m2,m3,m4⟩:=name_good (s.wk hw) n6
     obtain ⟨g1,g2⟩:=exprR_good (fa.ok ho) (fa.wk hw) n3
     obtain ⟨g3,g4⟩:=exprR_good (fb.ok ho) (fb.wk hw) hb2
     obtain ⟨l,e1,h1,h2⟩:=i2 _ (d.ok ho) (d.wk hw) (by omega) hg
     rw [e1]
     refine ⟨.for_ _ _ _ _ m2 g1 g3 h1,?_⟩
     have e2:(forB r.step).at_=(exprR (forA r.step)).2.at_+1:=by show ((exprR (forA r.step)).2.need wTo).at_=_;rw [n2];rfl
     have e3:(forA r.step).at_=r.at_+3:=by show (r.step.nameR.need wFrom).at_=_;rw [n5,m3];rfl
     simp only [countN,countL];omega
    ·rename_i ht3
     rw [if_neg ht3]
     obtain ⟨n1,n2,n3⟩:=need_good hg
     obtain ⟨g1,g2⟩:=simpleR_good ho hw n3
     refine ⟨g1,?_⟩
     rw [n2];show r.at_+countN (simpleR r).1≤(simpleR r).2.at_+1;omega
   ·simp only [blockM] at hg ⊢
    obtain ⟨n1,n2,n3⟩:=need_good hg
    have hb:=bad_of (b3 [] _) n3
    obtain ⟨n4,n5,n6⟩:=need_good hb
    have hl:=(takes_lt n4 (by simp)).1
    have ls:=left_step hl
    have s:=need_after (s:=[123]) ho (by simp)
    rw [n5] at s n3 n2 ⊢
    obtain ⟨g1,g2⟩:=i3 [] r.step.at_ _ (s.ok ho) (s.wk hw) (fun x hx=>by cases hx) (by simp [countL]) (by omega) n3
    refine ⟨_,rfl,g1,?_⟩
    rw [n2]
    simp only [step_at] at g2 ⊢;omega
   ·simp only [listM] at hg ⊢
    split at hg
    ·rename_i hc
     rw [if_pos hc]
     have af:=a1 r ho
     have lf:=left_after af
     obtain ⟨p,rfl⟩:∃ p,f=p+1:=⟨f-1,by omega⟩
     have hb:=bad_of (b3 _ (stmtM (p+1) r).2) hg
     obtain ⟨g1,g2⟩:=i1 r ho hw (by omega) hb
     have hon:r.at_<(stmtM (p+1) r).2.at_:=by
      rcases stmtM_on p ho with h | h
      ·rw [hb] at h;cases h
      ·exact h
     have hlt:(stmtM (p+1) r).2.left+1≤r.left:=by
      have e1:=af.1
      have e2:=af.2.2
      simp only [RS.left,e1] at *
      omega
     refine i3 _ a _ (af.ok ho) (af.wk hw) (fun x hx'=>?_) ?_ (by omega) hg
     ·rcases List.mem_append.1 hx' with h | h
      ·exact hx x h
      ·simp at h;subst h;exact g1
     ·rw [countL_snoc'];omega
    ·rename_i hc
     rw [if_neg hc]
     exact ⟨hx,ha⟩
theorem sizeR_good {r:RS}(hw:r.wk)(h:(sizeR r).2.bad=false):-1≤(sizeR r).1∧(sizeR r).1≤1000000∧(sizeR r).2.at_=r.at_+1∧r.bad=false:=by
 simp only [sizeR] at h ⊢
 split at h
 ·rename_i hc
  rw [if_pos hc]
  simp only [Bool.and_eq_true,Bool.not_eq_true',beq_iff_eq] at hc
  have hk:=word_here hw (by rw [hc.2];simp)
  have:=kindS_num (by rw [← hk];exact hc.2)
  exact ⟨by simp only;omega,numberS_le _,rfl,hc.1⟩
 ·rename_i hc
  rw [if_neg hc]
  obtain ⟨n1,n2,n3⟩:=need_good h
  exact ⟨by simp,by simp,by rw [n2];rfl,n3⟩
theorem declR_good {r:RS}(ho:r.ok)(hw:r.wk)(hd:isDecl r=true)(h:(declR r).2.bad=false):FV (declR r).1∧countN (declR r).1=1∧r.at_+1≤(declR r).2.at_:=by
 have af:=declR_after ho hd
 have hlt:=af.2
 have s:=step_after hlt
 refine ⟨?_,?_,?_⟩
 ·simp only [declR] at h ⊢
  split at h
  ·rename_i ht
   rw [if_pos ht]
   exact .var _ (name_good (s.wk hw) h).2.1
  ·rename_i ht
   rw [if_neg ht]
   obtain ⟨n1,n2,n3⟩:=need_good h
   have s2:=s.trans (nameR_after (s.ok ho))
   have s3:=s2.trans (need_after (s:=[91]) (s2.ok ho) (by simp))
   obtain ⟨g1,g2,g3,g4⟩:=sizeR_good (s3.wk hw) n3
   obtain ⟨n4,n5,n6⟩:=need_good g4
   exact .arr _ _ (name_good (s.wk hw) n6).2.1 g1 g2
 ·simp only [declR];split<;>simp [countN,countL]
 ·have:=af.1.2.1
  rw [step_at] at this;exact this
theorem bad_declsM:∀ (f:Nat)(acc:List Nd)(r:RS),r.bad=true→(declsM f acc r).2.bad=true
 | 0,acc,r,h=>by simpa only [declsM] using h
 | f+1,acc,r,h=>by simp only [declsM];rw [if_neg (by simp [isDecl,bad_takes h])];exact h
theorem declsM_good:∀ (f:Nat)(acc:List Nd)(a:Nat)(r:RS),r.ok→r.wk→(∀ x,x∈acc→FV x)→a+countL acc≤r.at_→(declsM f acc r).2.bad=false →
 (∀ x,x∈(declsM f acc r).1→FV x)∧a+countL (declsM f acc r).1≤(declsM f acc r).2.at_
 | 0,acc,a,r,ho,hw,hx,ha,h=>by simp only [declsM] at h ⊢;exact ⟨hx,ha⟩
 | f+1,acc,a,r,ho,hw,hx,ha,h=>by
   simp only [declsM] at h ⊢
   split at h
   ·rename_i hd
    rw [if_pos hd]
    have hb:=bad_of (bad_declsM f _ _) h
    obtain ⟨n1,n2,n3⟩:=need_good hb
    obtain ⟨g1,g2,g3⟩:=declR_good ho hw hd n3
    obtain ⟨d1,d2⟩:=declR_after ho hd
    have s:=(step_after d2).trans d1
    have s2:=s.trans (need_after (s:=[59]) (s.ok ho) (by simp))
    refine declsM_good f _ a _ (s2.ok ho) (s2.wk hw) (fun x hx'=>?_) ?_ h
    ·rcases List.mem_append.1 hx' with h' | h'
     ·exact hx x h'
     ·simp at h';subst h';exact g1
    ·rw [countL_snoc',n2,step_at];omega
   ·rename_i hd
    rw [if_neg hd]
    exact ⟨hx,ha⟩
theorem progR_good {r:RS}(ho:r.ok)(hw:r.wk)(h:(progR r).2.bad=false):FP (progR r).1∧r.at_+countN (progR r).1≤(progR r).2.at_+2∧(progR r).2.at_=r.ws.length:=by
 simp only [progR] at h ⊢
 generalize hT:declsM 2000 [] r=T at h ⊢
 have aT:r.after T.2:=by rw [← hT];exact declsM_after 2000 [] r ho
 have aL:=(stmts_after 5000).2.2 [] T.2 (aT.ok ho)
 simp only [RS.ends] at h ⊢
 split at h
 ·simp [RS.spoil] at h
 ·rename_i hc
  rw [if_neg hc]
  have hb:=bad_of ((stmts_bad 5000).2.2 [] T.2) h
  obtain ⟨g1,g2⟩:=(stmts_good 5000).2.2 [] T.2.at_ T.2 (aT.ok ho) (aT.wk hw) (fun x hx=>by cases hx) (by simp [countL]) (by have:=(aT.ok ho).1;simp only [RS.left];omega) h
  obtain ⟨g3,g4⟩:=declsM_good 2000 [] r.at_ r ho hw (fun x hx=>by cases hx) (by simp [countL]) (by rw [hT];exact hb)
  rw [hT] at g3 g4
  refine ⟨.mk _ _ g3 g1,?_,?_⟩
  ·simp only [countN,countL_snoc',countL];omega
  ·have e:=(aT.trans aL).1
   have:=aL.2.2
   have e2:(listM 5000 [] T.2).2.ws=r.ws:=e
   rw [e2] at this hc
   omega
theorem AK.as_ {X:Cx}{B:Bx}{F:Frm}{S:St}{R:AE→St→Prop}{K:List Item}(d:Nat)(y:AV)(hk:AK X B K ((d,y)::F) S R)(h:lk F d=some y:=by rfl):AK X B K F S R:=by
 intro E w a b cs hI hF hn hm hb
 refine hk E w a b cs hI ⟨hF.size,hF.nod,fun k z hz=>?_⟩ hn hm hb
 rw [lk_cons] at hz
 split at hz
 ·rename_i he
  subst he
  cases hz
  exact hF.rel _ _ h
 ·exact hF.rel k z hz
theorem wordsG_ok:∀ (f a:Nat)(r:List UInt8)(out:List Wd),out.length≤1500→(∀ w,w∈out→w.kind=kindS w.text)→(wordsG f a r out).1.length≤1500∧∀ w,w∈(wordsG f a r out).1→w.kind=kindS w.text
 | 0,a,r,out,h1,h2=>by simp only [wordsG];exact ⟨h1,h2⟩
 | f+1,a,[],out,h1,h2=>by simp only [wordsG];exact ⟨h1,h2⟩
 | f+1,a,c::l,out,h1,h2=>by
   simp only [wordsG]
   split
   ·exact ⟨by simp,fun w hw=>by cases hw⟩
   ·split
    ·exact ⟨by simp,fun w hw=>by cases hw⟩
    ·rename_i hk
     refine wordsG_ok f _ _ _ ?_ fun w hw=>?_
     ·simp at hk ⊢;omega
     ·rcases List.mem_append.1 hw with h | h
      ·exact h2 w h
      ·simp at h;subst h;rfl
theorem wordsS_ok (s:List UInt8):(wordsS s).1.length≤1500∧∀ w,w∈(wordsS s).1→w.kind=kindS w.text:=by
 unfold wordsS
 split
 ·exact ⟨by simp,fun w hw=>by cases hw⟩
 ·exact wordsG_ok _ _ _ _ (by simp) (fun w hw=>by cases hw)
def RS.place (r:RS)(e:Nat):Nat:=match r.ws[r.at_]? with
 | some w=>w.pos
 | none=>e
def rs0 (s:List UInt8):RS:=⟨(wordsS s).1,0,false⟩
theorem rs0_ok (s:List UInt8):(rs0 s).ok:=⟨(wordsS_ok s).1,Nat.zero_le _⟩
theorem rs0_wk (s:List UInt8):(rs0 s).wk:=(wordsS_ok s).2
def parseS (s:List UInt8):Nd × Int × Int :=
 if (wordsS s).2.1=0 then
  (if (progR (rs0 s)).2.bad then (nd0,4,(progR (rs0 s)).2.place s.length)
  else if 500<countN (progR (rs0 s)).1∨24<depthN (progR (rs0 s)).1 then (nd0,5,0) else ((progR (rs0 s)).1,0,0))
 else (nd0,(wordsS s).2.1,(wordsS s).2.2)
theorem parseS_good {s:List UInt8}(h:(parseS s).2.1=0):FP (parseS s).1∧countN (parseS s).1≤500∧depthN (parseS s).1≤24:=by
 unfold parseS at h ⊢
 split at h
 ·rename_i h0
  rw [if_pos h0]
  split at h
  ·simp at h
  ·rename_i hb
   rw [if_neg hb]
   split at h
   ·simp at h
   ·rename_i hl
    rw [if_neg hl]
    have:=progR_good (rs0_ok s) (rs0_wk s) (by simpa using hb)
    exact ⟨this.1,by simp only;omega,by simp only;omega⟩
 ·rename_i h0
  exact absurd h h0
theorem progR_after {r:RS}(ho:r.ok):r.after (progR r).2:=by
 simp only [progR]
 have aT:r.after (declsM 2000 [] r).2:=declsM_after 2000 [] r ho
 have aL:=(stmts_after 5000).2.2 [] (declsM 2000 [] r).2 (aT.ok ho)
 have a:=aT.trans aL
 simp only [RS.ends]
 split
 ·exact a.trans (spoil_after (a.ok ho))
 ·exact a
theorem nameS_len {s:List UInt8}(h:nameS s=true):s.length≤8:=by
 unfold nameS at h
 split at h
 ·simp
 ·simp only [Bool.and_eq_true,decide_eq_true_eq] at h
  have:=h.1.1.1
  simp;omega
theorem p_parse (s:List UInt8)(hs:s.length≤1000000000):Pure X 127 [str s] (.tup [nd (parseS s).1,.agg [vi (parseS s).2.1,vi (parseS s).2.2]]):=by
 have hw:Pure X 176 [str s] (.tup [.sl (wrows (wordsS s).1) .no,.agg [vi (wordsS s).2.1,vi (wordsS s).2.2]]):=p_words s hs
 refine Pure.run Tryz.func127 ?_
 refine AK.pc hw ?_
 refine AK.if_ (fun h=>?_) (fun h=>?_)
 ·have h':(wordsS s).2.1≠0:=by have:(!((wordsS s).2.1==0))=true:=h;simpa using this
  have hP:parseS s=(nd0,(wordsS s).2.1,((wordsS s).2.2:Int)):=by simp only [parseS];rw [if_neg h']
  rw [hP]
  refine AK.db 12 ?_
  refine Drv.wl (Ndo.store rfl rfl rfl rfl rfl rfl rfl) ?_ ?_
  ·exact strip_eq (Ndo.ev rfl rfl rfl) allN
  refine Drv.w (Ndo.store rfl rfl rfl rfl rfl rfl rfl) ?_
  refine Drv.z ?_
  refine AK.rz Tryz.func127 ?_
  rfl
 have h':(wordsS s).2.1=0:=by have:(!((wordsS s).2.1==0))=false:=h;simpa using this
 have hP:parseS s=if (progR (rs0 s)).2.bad then (nd0,4,((progR (rs0 s)).2.place s.length:Int)) else if 500<countN (progR (rs0 s)).1∨24<depthN (progR (rs0 s)).1 then (nd0,5,0) else ((progR (rs0 s)).1,0,0):=by
  simp only [parseS];rw [if_pos h']
 rw [hP]
 have ho:=rs0_ok s
 refine AK.as_ 6 (.ptr 3 0 0) ?_
 refine AK.as_ 22 (.ptr 3 0 0) ?_
 refine AK.hc [3] [] (r_prog (rs0 s) ho) ?_
 have hws:(progR (rs0 s)).2.ws=(wordsS s).1:=(progR_after ho).1
 have good:=progR_good ho (rs0_wk s)
 have hl0:=(rs0_ok s).1
 generalize progR (rs0 s)=q at good hws ⊢
 refine AK.if_ (fun h1=>?_) (fun h1=>?_)
 ·have h1':q.2.bad=true:=h1
  rw [if_pos h1']
  refine AK.if_ (fun h2=>?_) (fun h2=>?_)
  ·have hlt:q.2.at_<(wordsS s).1.length:=by have:=of_decide_eq_true h2;rw [wrows_len] at this;omega
   obtain ⟨w,hw⟩:=lget_of_lt (wordsS s).1 hlt
   have hp:q.2.place s.length=w.pos:=by simp [RS.place,hws,hw]
   refine AK.ix q.2.at_ (by omega) (wrows_get hw) ?_
   refine AK.rz Tryz.func127 ?_
   rw [hp];rfl
  ·have hlt:(wordsS s).1.length≤q.2.at_:=by have:=of_decide_eq_false h2;rw [wrows_len] at this;omega
   have hp:q.2.place s.length=s.length:=by simp [RS.place,hws,List.getElem?_eq_none hlt]
   refine AK.rz Tryz.func127 ?_
   rw [hp];rfl
 ·have h1':q.2.bad=false:=h1
  obtain ⟨g1,g2,g3⟩:=good h1'
  have hc:countN q.1≤4000000000:=by
   have e:(rs0 s).at_=0:=rfl
   omega
  rw [if_neg (by simp [h1'])]
  refine AK.pc (p_count q.1 hc) ?_
  refine AK.gd (fun h2=>?_) (fun h2=>?_)
  ·have h2':500<countN q.1:=by have:=of_decide_eq_true h2;omega
   rw [if_pos (.inl h2')]
   refine AK.yes ?_
   refine AK.rz Tryz.func127 ?_
   rfl
  ·have h2':¬ 500<countN q.1:=by have:=of_decide_eq_false h2;omega
   refine AK.pc (p_depth q.1 hc) ?_
   refine AK.if_ (fun h3=>?_) (fun h3=>?_)
   ·have h3':24<depthN q.1:=by have:=of_decide_eq_true h3;omega
    rw [if_pos (.inr h3')]
    refine AK.rz Tryz.func127 ?_
    rfl
   ·have h3':¬ 24<depthN q.1:=by have:=of_decide_eq_false h3;omega
    rw [if_neg (by omega)]
    refine AK.rz Tryz.func127 ?_
    rfl
def progT (n:Nd):List UInt8:=((n.kids.dropLast).map fun x=>lineS x []).flatten++(match n.kids.getLast? with
 | some b=>lineL b.kids []
 | none=>[])
def progOkS (n:Nd):Bool:=(n.kind==40&&fitsS n)&&((!(progT n==[])&&decide ((progT n).length≤4000))&&(parseS (progT n)).2.1==0)
theorem progT_mk (ds l:List Nd):progT (.mk 40 [] 0 (ds++[.mk 30 [] 0 l]))=(ds.map fun x=>lineS x []).flatten++lineL l []:=by
 simp [progT]
theorem p_progT (n:Nd)(h:FP n)(hd:depthN n≤24)(hw:wN n≤100000):Pure X 126 [nd n,str []] (str (progT n))∧(progT n).length≤4060*wN n:=by
 cases h with
 | mk ds l hd' hl =>
   rw [progT_mk]
   simp only [depthN] at hd
   have hdl:depthL l≤22:=by
    have:=depth_mem (l:=ds++[.mk 30 [] 0 l]) (x:=.mk 30 [] 0 l) (by simp)
    simp only [depthN] at this;omega
   have hwl:wL (ds++[.mk 30 [] 0 l])≤100000:=by simp [wN] at hw;omega
   have hwb:=wL_mem (l:=ds++[.mk 30 [] 0 l]) (k:=.mk 30 [] 0 l) (by simp)
   simp only [wN] at hwb
   have hf:∀ x,x∈ds++[.mk 30 [] 0 l]→Pure X 126 [nd x,str []] (str (if x.kind=30 then lineL x.kids [] else lineS x []))∧(if x.kind=30 then lineL x.kids [] else lineS x []).length≤4060*wN x:=fun x hx=>by
    have hwx:=wL_mem hx
    rcases List.mem_append.1 hx with h | h
    ·have hv:=hd' x h
     have hk:¬ x.kind=30:=by cases hv<;>simp
     rw [if_neg hk]
     exact ⟨p_lineV x hv [] (by simp) (by omega),lineV_len x hv [] (by simp)⟩
    ·simp only [List.mem_singleton] at h
     subst h
     rw [if_pos (kind_mk 30 [] 0 l),kids_mk]
     refine ⟨p_block l [] hl (by simp;omega) (by simp at hwb;omega) fun x hx=>p_lineS x (hl x hx),?_⟩
     have:=lineN_len (.mk 30 [] 0 l) l [] hl (by simp;omega)
     simp only [wN];omega
   have hp:=p_lineL 40 (.inr rfl) _ _ [] (by simp) hwl hf
   have hT:((ds++[Nd.mk 30 [] 0 l]).map fun x=>if x.kind=30 then lineL x.kids [] else lineS x []).flatten=(ds.map fun x=>lineS x []).flatten++lineL l []:=by
    have e:(ds.map fun x=>if x.kind=30 then lineL x.kids [] else lineS x [])=ds.map fun x=>lineS x []:=by
     apply List.map_congr_left
     intro x hx
     have hv:=hd' x hx
     have hk:¬ x.kind=30:=by cases hv<;>simp
     rw [if_neg hk]
    rw [List.map_append,List.flatten_append,e];simp
   rw [hT] at hp
   refine ⟨hp,?_⟩
   have:=flat_len fun x hx=>(hf x hx).2
   rw [hT] at this
   simp only [wN];omega
theorem wN_formed (n:Nd)(h:formedN n=true):wN n≤9*countN n:=by
 induction n using Nd.ind with
 | h n ih =>
   rw [formedN_eq,Bool.and_eq_true] at h
   have hall:=formedL_all h.2
   obtain ⟨_,hH⟩:=headF h.1
   have hs:n.name.length≤8:=by
    have e:=hH.hs
    cases hb:(shapeS n.kind).2.1 with
    | false=>rw [hb] at e;have h0:n.name=[]:=(by simpa using e);rw [h0];simp
    | true=>exact nameS_len (hH.hn hb)
   have key:∀ l:List Nd,(∀ x,x∈l→wN x≤9*countN x)→wL l≤9*countL l:=by
    intro l
    induction l with
    | nil=>intro _;simp [wL]
    | cons x l ihl =>
      intro hx
      have h1:=hx x (by simp)
      have h2:=ihl fun y hy=>hx y (by simp [hy])
      simp only [wL,countL];omega
   have:=key n.kids fun x hx=>by
    obtain ⟨j,hj⟩:=lget_of_mem hx
    exact ih x hx (hall j x hj).2
   rw [wN_eq,countN_eq];omega
theorem p_progOk (n:Nd)(hn:wN n≤1000000000):Pure X 83 [nd n] (vb (progOkS n)):=by
 refine Pure.run Tryz.func83 ?_
 refine AK.gd (fun h1=>?_) (fun h1=>?_)
 ·have h1':¬ n.kind=40:=by have:(!(n.kind==40))=true:=h1;simpa using this
  refine AK.yes ?_
  refine AK.rt Tryz.func83 ?_
  simp [progOkS,h1',retA]
 have h1':n.kind=40:=by have:(!(n.kind==40))=false:=h1;simpa using this
 refine AK.pc (p_fits n hn) ?_
 refine AK.if_ (fun h2=>?_) (fun h2=>?_)
 ·have h2':fitsS n=false:=by have:(!fitsS n)=true:=h2;simpa using this
  refine AK.rt Tryz.func83 ?_
  simp [progOkS,h2',retA]
 have h2':fitsS n=true:=by have:(!fitsS n)=false:=h2;simpa using this
 have h2'':=h2'
 simp only [fitsS,Bool.and_eq_true,decide_eq_true_eq] at h2''
 obtain ⟨⟨hc,hd⟩,hf⟩:=h2''
 have hw:=wN_formed n hf
 have hP:=FP_of n hf h1'
 obtain ⟨hp,hl⟩:=p_progT n hP hd (by omega)
 refine AK.pc hp ?_
 have hO:progOkS n=((!(progT n==[])&&decide ((progT n).length≤4000))&&(parseS (progT n)).2.1==0):=by simp [progOkS,h1',h2']
 rw [hO]
 refine AK.gd (fun h3=>?_) (fun h3=>?_)
 ·have h3':(progT n==[])=true:=h3
  refine AK.yes ?_
  refine AK.rt Tryz.func83 ?_
  rw [h3'];rfl
 have h3':(progT n==[])=false:=h3
 refine AK.if_ (fun h4=>?_) (fun h4=>?_)
 ·have h4':¬ (progT n).length≤4000:=by have:=of_decide_eq_true h4;rw [sz_str] at this;omega
  refine AK.rt Tryz.func83 ?_
  simp [h4',retA]
 have h4':(progT n).length≤4000:=by have:=of_decide_eq_false h4;rw [sz_str] at this;omega
 refine AK.pc (p_parse (progT n) (by omega)) ?_
 refine AK.rt Tryz.func83 ?_
 simp [h3',h4',retA]
theorem p_find (l:List (List UInt8))(s:List UInt8)(hl:l.length≤1000000000):Pure X 129 [.sl (strR l) .no,str s] (vi (idxS 0 l s)):=by
 refine Pure.run Tryz.func129 ?_
 refine AK.while_ (ι:=Nat) 0 0 (fun i=>i≤l.length∧idxS 0 l s=idxS i (l.drop i) s) (fun i=>[(5,vi i),(0,.sl (strR l) .no),(1,str s)]) (fun _=>⟨[],[]⟩) (fun i=>l.length-i) ?_ 0 ⟨Nat.zero_le _,rfl⟩
  ⟨rfl,rfl,rfl,trivial⟩ rfl rfl rfl rfl rfl (fun _=>inferInstance) (fun _=>inferInstance)
 intro i hi IH
 refine AK.ev 100 rfl ?_
 refine AK.if_ (fun h=>?_) (fun h=>?_)
 ·have hlt:i<l.length:=by have:=of_decide_eq_true h;rw [strR_len] at this;omega
  obtain ⟨x,hx⟩:=lget_of_lt l hlt
  have hd:idxS i (l.drop i) s=if s==x then (i:Int) else idxS (i+1) (l.drop (i+1)) s:=by rw [drop_cons hx];rfl
  refine AK.ix i (by omega) (strR_get hx) ?_
  refine AK.if_ (fun h2=>?_) (fun h2=>?_)
  ·refine AK.rt Tryz.func129 ?_
   have h3:(s==x)=true:=by have:(x==s)=true:=h2;rw [beq_iff_eq] at this ⊢;exact this.symm
   rw [hi.2,hd,h3];rfl
  ·have h3:(s==x)=false:=by have:(x==s)=false:=h2;rw [beq_eq_false_iff_ne] at this ⊢;exact Ne.symm this
   exact IH (i+1) ⟨hlt,by rw [hi.2,hd,h3];rfl⟩ (by omega) _ _ ⟨vint ((wrap_small (by omega) (by omega)).trans (by omega)),rfl,rfl,trivial⟩ rfl rfl rfl
 ·have:i=l.length:=by have:=of_decide_eq_false h;rw [strR_len] at this;omega
  refine AK.rt Tryz.func129 ?_
  rw [hi.2,this,List.drop_length];rfl
theorem strR_al (l:List (List UInt8)):allLen 1 (strR l)=true:=allLen_map (f:=fun s=>[str s]) (fun _=>rfl) l
def wantsS (k:Int):Int:=if k=2∨k=21∨k=23∨k=26 then 1 else if k=3∨k=4∨k=22 then 2 else 0
theorem p_wants (k:Int):Pure X 128 [vi k] (vi (wantsS k)):=by
 refine Pure.run Tryz.func128 ?_
 repeat' (refine AK.if_ (fun _=>?_) (fun _=>?_))
 all_goals refine AK.rt Tryz.func128 ?_
 all_goals (simp_all [wantsS,retA])
def namesK (l:List Nd)(k:Int):List (List UInt8):=(l.filter fun x=>x.kind==k).map Nd.name
def declS (n:Nd)(k:Int):List (List UInt8):=namesK n.kids.dropLast k
theorem namesK_le (l:List Nd)(k:Int):(namesK l k).length≤l.length:=by simp only [namesK,List.length_map];exact List.length_filter_le _ _
theorem p_declared (n:Nd)(k:Int)(hn:wN n≤1000000000):Pure X 51 [nd n,vi k] (.sl (strR (declS n k)) .no):=by
 refine Pure.run Tryz.func51 ?_
 have hkl:=kids_le_w n
 have hw:IntKind.i64.wrap ((nrows n.kids).length-1:Int)=n.kids.length-1:=by rw [nrows_len];exact wrap_small (by omega) (by omega)
 refine AK.mint (d:=5) rfl rfl rfl ?_
 refine AK.while_ (ι:=Nat) 1 1 (fun i=>i≤n.kids.length-1) (fun i=>[(6,vi i),(5,.sl (strR (namesK (n.kids.take i) k)) (.tok 0)),(1,vi k),(2,.ptr 0 0 0)]) (fun i=>⟨[[ncells n]],[(namesK (n.kids.take i) k).length]⟩) (fun i=>n.kids.length-i) ?_ 0
  (Nat.zero_le _) ⟨rfl,rfl,rfl,rfl,trivial⟩ rfl rfl rfl rfl rfl (fun _=>inferInstance) (fun _=>inferInstance)
 intro i hi IH
 refine AK.ev 100 rfl ?_
 refine AK.if_ (fun h=>?_) (fun h=>?_)
 ·have hlt:i<n.kids.length-1:=by have:=of_decide_eq_true h;rw [hw] at this;omega
  obtain ⟨x,hx⟩:=lget_of_lt n.kids (i:=i) (by omega)
  have hle:=namesK_le (n.kids.take i) k
  have htl:(n.kids.take i).length=i:=by simp;omega
  refine AK.ix i (by omega) (nrows_get hx) ?_
  refine AK.if_ (fun h2=>?_) (fun h2=>?_)
  ·have h2':(x.kind==k)=true:=h2
   have hs:namesK (n.kids.take (i+1)) k=namesK (n.kids.take i) k++[x.name]:=by simp [namesK,List.take_add_one,hx,List.filter_append,List.filter_cons,h2']
   refine AK.ix i (by omega) (nrows_get hx) ?_
   refine AK.op (Ndo.append (res:=strR (namesK (n.kids.take i) k++[x.name])) rfl rfl rfl rfl rfl rfl rfl rfl rfl rfl rfl rfl rfl rfl (strR_len _) (strR_al _) rfl rfl rfl ?_ ?_ rfl) ?_
   ·rw [strR_len];simp;omega
   ·simp [strR]
   refine IH (i+1) (by omega) (by omega) _ _ ⟨vint ((wrap_small (by omega) (by omega)).trans (by omega)),?_,rfl,rfl,trivial⟩ ?_ rfl rfl
   ·rw [hs];rfl
   ·rw [hs];simp [St.drop,strR_len]
  ·have h2':(x.kind==k)=false:=h2
   have hs:namesK (n.kids.take (i+1)) k=namesK (n.kids.take i) k:=by simp [namesK,List.take_add_one,hx,List.filter_append,List.filter_cons,h2']
   refine IH (i+1) (by omega) (by omega) _ _ ⟨vint ((wrap_small (by omega) (by omega)).trans (by omega)),?_,rfl,rfl,trivial⟩ ?_ rfl rfl
   ·rw [hs];rfl
   ·rw [hs];rfl
 ·have:i=n.kids.length-1:=by have:=of_decide_eq_false h;rw [hw] at this;omega
  refine AK.rz Tryz.func51 ?_
  rw [this,declS,List.dropLast_eq_take]
theorem p_copy (n:Nd)(hn:wN n≤1000000000):Pure X 130 [nd n] (nd n):=by
 induction n using Nd.ind with
 | h n ih =>
 refine Pure.run Tryz.func130 ?_
 have hkl:=kids_le_w n
 refine AK.mint (d:=3) rfl rfl rfl ?_
 refine AK.while_ (ι:=Nat) 2 1 (fun i=>i≤n.kids.length) (fun i=>[(4,vi i),(3,.sl (nrows (n.kids.take i)) (.tok 0)),(1,.ptr 0 0 0),(2,.ptr 1 0 0)]) (fun i=>⟨[[ncells n],[zN]],[i]⟩) (fun i=>n.kids.length-i) ?_ 0
  (Nat.zero_le _) ⟨rfl,rfl,rfl,rfl,trivial⟩ rfl rfl rfl rfl rfl (fun _=>inferInstance) (fun _=>inferInstance)
 intro i hi IH
 refine AK.ev 100 rfl ?_
 refine AK.if_ (fun h=>?_) (fun h=>?_)
 ·have hlt:i<n.kids.length:=by have:=of_decide_eq_true h;rw [nrows_len] at this;omega
  obtain ⟨x,hx⟩:=lget_of_lt n.kids hlt
  have hwx:=wN_kid (List.mem_of_getElem? hx)
  have htl:(n.kids.take i).length=i:=by simp;omega
  refine AK.ix i (by omega) (nrows_get hx) ?_
  refine AK.pc (ih x (List.mem_of_getElem? hx) (by omega)) ?_
  refine AK.op (Ndo.append (res:=nrows (n.kids.take (i+1))) rfl rfl rfl rfl rfl rfl rfl rfl rfl rfl rfl rfl rfl rfl (by rw [nrows_len,htl]) (nrows_al _) rfl rfl rfl ?_ ?_ rfl) ?_
  ·rw [nrows_len];simp;omega
  ·rw [List.take_add_one,hx,nrows_map,nrows_map];simp
  refine IH (i+1) hlt (by omega) _ _ ⟨vint ((wrap_small (by omega) (by omega)).trans (by omega)),rfl,rfl,rfl,trivial⟩ ?_ rfl rfl
  simp [St.drop,nrows_len,htl]
 ·have:i=n.kids.length:=by have:=of_decide_eq_false h;rw [nrows_len] at this;omega
  subst this
  refine AK.rz Tryz.func130 ?_
  rw [List.take_length];rfl
theorem p_set (s:List UInt8)(a:Nd):Pure X 178 [str s,nd a] (nd (.mk 21 s 0 [a])):=by
 refine Pure.run Tryz.func178 ?_
 refine AK.rz Tryz.func178 ?_
 show AV.agg [_,_,_,.sl _ _]=AV.agg [_,_,_,.sl (nrows [a]) _]
 rw [nrows_map [a]];rfl
theorem p_lvar (s:List UInt8):Pure X 180 [str s] (nd (.mk 2 s 0 [])):=by
 refine Pure.run Tryz.func180 ?_
 exact AK.rz Tryz.func180 rfl
theorem p_lnum1:Pure X 181 [vi 1] (nd (.mk 1 [] 1 [])):=by
 refine Pure.run Tryz.func181 ?_
 refine AK.no ?_
 exact AK.rz Tryz.func181 rfl
def wrongAt (vars arrs:List (List UInt8))(code:Int)(k:Int)(s:List UInt8):Bool :=
 decide (wantsS k > 0)&&((code==7&&!decide (idxS 0 vars s≥0)&&!decide (idxS 0 arrs s≥0))||(code==8&&((wantsS k==1&&!decide (idxS 0 vars s≥0))||(wantsS k==2&&!decide (idxS 0 arrs s≥0)))))
mutual
def wrongN (vars arrs:List (List UInt8))(code:Int):Nd→List UInt8 × Bool
 | .mk k s _ ks=>if wrongAt vars arrs code k s then (s,true) else wrongL vars arrs code ks
def wrongL (vars arrs:List (List UInt8))(code:Int):List Nd→List UInt8 × Bool
 | []=>([],false)
 | x::l=>if (wrongN vars arrs code x).2 then (wrongN vars arrs code x) else wrongL vars arrs code l
end
theorem wrongN_eq (vars arrs:List (List UInt8))(code:Int)(n:Nd):wrongN vars arrs code n=if wrongAt vars arrs code n.kind n.name then (n.name,true) else wrongL vars arrs code n.kids:=by cases n;rw [wrongN];rfl
theorem w_at (n:Nd)(vars arrs:List (List UInt8))(T:List UInt8 × Bool)(code w:Int)(v a:Bool)(hc:code=7∨code=8)(hw:w=1∨w=2)
 (h7:AK X ⟨84,Tryz.f84,0,0⟩ (locG false 7 Tryz.f84) [(4,.ptr 0 0 0),(1,.sl (strR vars) .no),(2,.sl (strR arrs) .no),(3,vi code)] ⟨[[ncells n]],[]⟩ (fun e S=>e=.ret (.tup [str T.1,vb T.2])∧S=⟨[],[]⟩)) :
 AK X ⟨84,Tryz.f84,0,0⟩ (locG false 5 Tryz.f84) [(4,.ptr 0 0 0),(1,.sl (strR vars) .no),(2,.sl (strR arrs) .no),(3,vi code),(10,vi w),(11,vb v),(12,vb a)] ⟨[[ncells n]],[]⟩
  (fun e S=>e=.ret (.tup [str (if ((code==7&&!v&&!a)||(code==8&&((w==1&&!v)||(w==2&&!a)))) then (n.name,true) else T).1,vb (if ((code==7&&!v&&!a)||(code==8&&((w==1&&!v)||(w==2&&!a)))) then (n.name,true) else T).2])∧S=⟨[],[]⟩):=by
 refine AK.at_ ?_
 rcases hc with rfl | rfl<;>rcases hw with rfl | rfl<;>cases v<;>cases a
 all_goals
  refine AK.ev 100 rfl ?_
  repeat' (first | refine AK.gn ?_ | refine AK.gy ?_)
  first
   | (refine AK.yes ?_;exact AK.rt Tryz.func84 rfl)
   | (refine AK.ifj 0 7 (fun h=>?_) (fun h=>?_);· cases h
      exact AK.back' 1 0 h7 ⟨rfl,rfl,rfl,rfl,trivial⟩ rfl rfl rfl rfl rfl)
theorem p_wrong (vars arrs:List (List UInt8))(code:Int)(hc:code=7∨code=8)(hv:vars.length≤1000000000)(ha:arrs.length≤1000000000)(n:Nd)(hn:wN n≤1000000000) :
 Pure X 84 [nd n,.sl (strR vars) .no,.sl (strR arrs) .no,vi code] (.tup [str (wrongN vars arrs code n).1,vb (wrongN vars arrs code n).2]):=by
 induction n using Nd.ind with
 | h n ih =>
 have hkl:=kids_le_w n
 have hloop:∀ T,wrongL vars arrs code n.kids=T→AK X ⟨84,Tryz.f84,0,0⟩ (locG false 7 Tryz.f84) [(4,.ptr 0 0 0),(1,.sl (strR vars) .no),(2,.sl (strR arrs) .no),(3,vi code)] ⟨[[ncells n]],[]⟩
  (fun e S=>e=.ret (.tup [str T.1,vb T.2])∧S=⟨[],[]⟩):=fun T hT=>by
  refine AK.at_ ?_
  refine AK.ev 100 rfl ?_
  refine AK.while_ (ι:=Nat) 1 0 (fun i=>i≤n.kids.length∧T=wrongL vars arrs code (n.kids.drop i)) (fun i=>[(13,vi i),(4,.ptr 0 0 0),(1,.sl (strR vars) .no),(2,.sl (strR arrs) .no),(3,vi code)]) (fun _=>⟨[[ncells n]],[]⟩)
   (fun i=>n.kids.length-i) ?_ 0 ⟨Nat.zero_le _,hT.symm⟩ ⟨rfl,rfl,rfl,rfl,rfl,trivial⟩ rfl rfl rfl rfl rfl (fun _=>inferInstance) (fun _=>inferInstance)
  rintro i ⟨hi,hTi⟩ IH
  refine AK.ev 100 rfl ?_
  refine AK.if_ (fun h=>?_) (fun h=>?_)
  ·have hlt:i<n.kids.length:=by have:=of_decide_eq_true h;rw [nrows_len] at this;omega
   obtain ⟨x,hx⟩:=lget_of_lt n.kids hlt
   have hwx:=wN_kid (List.mem_of_getElem? hx)
   rw [drop_cons hx] at hTi
   simp only [wrongL] at hTi
   refine AK.ix i (by omega) (nrows_get hx) ?_
   refine AK.pc (ih x (List.mem_of_getElem? hx) (by omega)) ?_
   refine AK.if_ (fun h2=>?_) (fun h2=>?_)
   ·have h2':(wrongN vars arrs code x).2=true:=h2
    refine AK.rt Tryz.func84 ?_
    rw [hTi,if_pos h2',h2'];rfl
   ·have h2':(wrongN vars arrs code x).2=false:=h2
    exact IH (i+1) ⟨hlt,by rw [hTi,if_neg (by simp [h2'])]⟩ (by omega) _ _ ⟨vint ((wrap_small (by omega) (by omega)).trans (by omega)),rfl,rfl,rfl,rfl,trivial⟩ rfl rfl rfl
  ·have:i=n.kids.length:=by have:=of_decide_eq_false h;rw [nrows_len] at this;omega
   refine AK.rt Tryz.func84 ?_
   rw [hTi,this,List.drop_length];rfl
 refine Pure.run Tryz.func84 ?_
 refine AK.pc (p_wants n.kind) ?_
 rw [wrongN_eq]
 refine AK.ifj 0 7 (fun h1=>?_) (fun h1=>?_)
 ·have h1':decide (wantsS n.kind > 0)=true:=h1
  have hw:wantsS n.kind=1∨wantsS n.kind=2:=by
   have:=of_decide_eq_true h1'
   unfold wantsS at this ⊢
   split
   ·simp
   ·split
    ·simp
    ·rename_i h2 h3;rw [if_neg h2,if_neg h3] at this;omega
  refine AK.ev 100 rfl ?_
  refine AK.pc (p_find vars n.name hv) ?_
  refine AK.pcj 5 (p_find arrs n.name ha) ?_
  have hA:wrongAt vars arrs code n.kind n.name=((code==7&&!decide (idxS 0 vars n.name≥0)&&!decide (idxS 0 arrs n.name≥0))||(code==8&&((wantsS n.kind==1&&!decide (idxS 0 vars n.name≥0))||(wantsS n.kind==2&&!decide (idxS 0 arrs n.name≥0))))):=by simp only [wrongAt,h1',Bool.true_and]
  rw [hA]
  exact AK.back' 1 0 (w_at n vars arrs _ code _ _ _ hc hw (hloop _ rfl)) ⟨rfl,rfl,rfl,rfl,rfl,rfl,rfl,trivial⟩ rfl rfl rfl rfl rfl
 ·have h1':decide (wantsS n.kind > 0)=false:=h1
  have hA:wrongAt vars arrs code n.kind n.name=false:=by simp [wrongAt,h1']
  rw [hA]
  exact AK.back' 1 0 (hloop _ rfl) ⟨rfl,rfl,rfl,rfl,trivial⟩ rfl rfl rfl rfl rfl
theorem Drv.zj {X:Cx}{B:Bx}{S S2:St}{F F':Frm}{N:Nat}{R:AE→St→Prop}{ops:Array Oper}{i:Nat}{bs:List Nat}{em:Nat}{Hs:List St}{pend:List Pend}{k K:List Item}(id:Nat)(hk:AK X B K F' S2 R)
 (he:evT X B.fn.ntmps id 100 k F S=(K,F',S2):=by rfl):Drv X N ops bs em [] i F S Hs pend fun F1 S1=>AK X B k F1 S1 R :=
 AK.evj id 100 he hk
def forT (s:List UInt8):List Nd→List Nd
 | [a,b,.mk k' s' m' l]=>[.mk 21 s 0 [a],.mk 25 [] 0 [.mk 11 [] 0 [.mk 2 s 0 [],b],.mk k' s' m' (l++[.mk 21 s 0 [.mk 6 [] 0 [.mk 2 s 0 [],.mk 1 [] 1 []]]])]]
 | _=>[]
mutual
def plainM:Nd→Nd
 | .mk k s m ks=>.mk k s m (plainML ks)
def plainML:List Nd→List Nd
 | []=>[]
 | x::l=>plain1 x++plainML l
def plain1:Nd→List Nd
 | .mk k s m ks=>if k=26 then forT s (plainML ks) else [.mk k s m (plainML ks)]
end
theorem plainM_mk (k:Int)(s:List UInt8)(m:Int)(ks:List Nd):plainM (.mk k s m ks)=.mk k s m (plainML ks):=by rw [plainM]
theorem plainML_nil:plainML []=[]:=by rw [plainML]
theorem plainML_cons (x:Nd)(l:List Nd):plainML (x::l)=plain1 x++plainML l:=by rw [plainML]
theorem plain1_no {x:Nd}(h:x.kind≠26):plain1 x=[plainM x]:=by
 obtain ⟨k,s,m,ks⟩:=x
 have h':k≠26:=h
 rw [plain1,if_neg h',plainM]
theorem plain1_for (s:List UInt8)(m:Int)(ks:List Nd):plain1 (.mk 26 s m ks)=forT s (plainML ks):=by rw [plain1,if_pos rfl]
theorem plainML_app (a b:List Nd):plainML (a++b)=plainML a++plainML b:=by
 induction a with
 | nil=>simp [plainML_nil]
 | cons x a ih=>simp [plainML_cons,ih]
theorem plainML_map {l:List Nd}(h:∀ x,x∈l→x.kind≠26):plainML l=l.map plainM:=by
 induction l with
 | nil=>simp [plainML_nil]
 | cons x l ih=>rw [plainML_cons,plain1_no (h x (by simp)),ih fun y hy=>h y (by simp [hy])];simp
theorem FE_kind {x:Nd}(h:FE x):1≤x.kind∧x.kind≤8:=by
 cases h<;>simp
 omega
theorem FC_kind {x:Nd}(h:FC x):11≤x.kind∧x.kind≤16:=by
 cases h;simp;omega
theorem FS_kind {x:Nd}(h:FS x):21≤x.kind∧x.kind≤29:=by
 cases h<;>simp
theorem FV_kind {x:Nd}(h:FV x):x.kind=31∨x.kind=32:=by
 cases h<;>simp
theorem plainE {x:Nd}(h:FE x):plainM x=x:=by
 induction h with
 | num m h0 h1=>rw [plainM_mk,plainML_nil]
 | var s h=>rw [plainM_mk,plainML_nil]
 | cell s a h ha ih=>rw [plainM_mk,plainML_cons,plainML_nil,plain1_no (by have:=FE_kind ha;omega),ih];rfl
 | len s h=>rw [plainM_mk,plainML_nil]
 | neg a ha ih=>rw [plainM_mk,plainML_cons,plainML_nil,plain1_no (by have:=FE_kind ha;omega),ih];rfl
 | two k a b hk ha hb iha ihb=>rw [plainM_mk,plainML_cons,plainML_cons,plainML_nil,plain1_no (by have:=FE_kind ha;omega),plain1_no (by have:=FE_kind hb;omega),iha,ihb];rfl
theorem plainC {x:Nd}(h:FC x):plainM x=x:=by
 cases h with
 | mk k a b h0 h1 ha hb=>rw [plainM_mk,plainML_cons,plainML_cons,plainML_nil,plain1_no (by have:=FE_kind ha;omega),plain1_no (by have:=FE_kind hb;omega),plainE ha,plainE hb];rfl
theorem plainV {x:Nd}(h:FV x):plainM x=x:=by
 cases h<;>rw [plainM_mk,plainML_nil]
theorem wL_app (a b:List Nd):wL (a++b)=wL a+wL b:=by
 induction a with
 | nil=>simp [wL]
 | cons x a ih=>simp only [List.cons_append,wL,ih];omega
theorem forT_w (s:List UInt8)(l:List Nd):wL (forT s l)≤wL l+10+5*s.length:=by
 unfold forT
 split
 ·simp only [wL,wN,wL_app,List.length_nil];omega
 ·simp [wL]
theorem Nd.ind2 {P:Nd→Prop}{Q:List Nd→Prop}(h1:∀ (k:Int)(s:List UInt8)(m:Int)(ks:List Nd),Q ks→P (.mk k s m ks))(h2:Q [])(h3:∀ (x:Nd)(l:List Nd),P x→Q l→Q (x::l)):(∀ x,P x)∧∀ l,Q l:=by
 have hP:∀ x,P x:=fun x=>Nd.rec (motive_1:=P) (motive_2:=Q) h1 h2 h3 x
 refine ⟨hP,fun l=>?_⟩
 induction l with
 | nil=>exact h2
 | cons x l ih=>exact h3 x l (hP x) ih
theorem plain_ws:(∀ n:Nd,wN (plainM n)≤10*wN n∧wL (plain1 n)≤10*wN n)∧∀ l:List Nd,wL (plainML l)≤10*wL l:=by
 refine Nd.ind2 (fun k s m ks ih=>?_) ?_ (fun x l hx hl=>?_)
 ·have hM:wN (plainM (.mk k s m ks))≤10*wN (.mk k s m ks):=by rw [plainM_mk];simp only [wN];omega
  refine ⟨hM,?_⟩
  by_cases hk:k=26
  ·subst hk
   rw [plain1_for]
   have:=forT_w s (plainML ks)
   simp only [wN];omega
  ·rw [plain1_no (by simpa using hk)];simp only [wL];omega
 ·simp [plainML_nil,wL]
 ·rw [plainML_cons,wL_app];simp only [wL];omega
theorem plain_w (n:Nd):wN (plainM n)≤10*wN n∧wL (plain1 n)≤10*wN n:=plain_ws.1 n
theorem plainML_w (l:List Nd):wL (plainML l)≤10*wL l:=by
 induction l with
 | nil=>simp [plainML_nil,wL]
 | cons x l ih=>rw [plainML_cons,wL_app];have:=(plain_w x).2;simp only [wL];omega
theorem len_le_wL (l:List Nd):l.length≤wL l:=by
 induction l with
 | nil=>simp
 | cons x l ih=>have:=wN_eq x;simp [wL];omega
theorem p_plainO (k:Int)(s:List UInt8)(m:Int)(ks:List Nd)(hk:k≠26)(hk':k≠30)(hw:wN (.mk k s m ks)≤1000000000)
 (hx:∀ x,x∈ks→(x.kind=30∧Pure X 131 [nd x] (.sl (nrows [plainM x]) .no))∨(x.kind≠30∧plainM x=x)) :
 Pure X 131 [nd (.mk k s m ks)] (.sl (nrows [.mk k s m (ks.map plainM)]) .no):=by
 have ne1:(k==30)=false:=by simpa using hk'
 have ne2:(k==26)=false:=by simpa using hk
 have hkl:=kids_le_w (.mk k s m ks)
 simp only [kids_mk] at hkl
 refine Pure.run Tryz.func131 ?_
 refine AK.no ?_ (ht:=ne1)
 refine AK.no ?_ (ht:=ne2)
 refine AK.mintB 1 0 3 rfl rfl rfl rfl rfl rfl ?_
 refine AK.while_ (ι:=Nat) 2 1 (fun i=>i≤ks.length) (fun i=>[(6,vi i),(1,.ptr 0 0 0),(3,.ptr 1 0 0)]) (fun i=>⟨[[ncells (.mk k s m ks)],[[vi k,str s,vi m,.sl (nrows ((ks.take i).map plainM)) (.tok 0)]]],[i]⟩) (fun i=>ks.length-i) ?_ 0
  (Nat.zero_le _) ⟨rfl,rfl,rfl,trivial⟩ rfl rfl rfl rfl rfl (fun _=>inferInstance) (fun _=>inferInstance)
 intro i hi IH
 refine AK.ev 100 rfl ?_
 refine AK.if_ (fun h=>?_) (fun h=>?_)
 ·have hlt:i<ks.length:=by have:=of_decide_eq_true h;rw [nrows_len] at this;simp at this;omega
  obtain ⟨x,hxg⟩:=lget_of_lt ks hlt
  have hwx:wN x<wN (.mk k s m ks):=wN_kid (n:=.mk k s m ks) (List.mem_of_getElem? hxg)
  have htl:(nrows ((ks.take i).map plainM)).length=i:=by rw [nrows_len];simp;omega
  have hres:nrows ((ks.take i).map plainM)++[ncells (plainM x)]=nrows ((ks.take (i+1)).map plainM):=by simp [nrows_map,List.take_add_one,hxg]
  have hgo:AK X ⟨131,Tryz.f131,0,0⟩ (locG false 15 Tryz.f131) [(6,vi i),(1,.ptr 0 0 0),(3,.ptr 1 0 0)] ⟨[[ncells (.mk k s m ks)],[[vi k,str s,vi m,.sl (nrows ((ks.take (i+1)).map plainM)) (.tok 0)]]],[i+1]⟩
   (fun e S=>e=.ret (.sl (nrows [.mk k s m (ks.map plainM)]) .no)∧S=⟨[],[]⟩):=by
   refine AK.at_ ?_
   refine AK.ev 100 rfl ?_
   exact IH (i+1) hlt (by omega) _ _ ⟨vint ((wrap_small (by omega) (by omega)).trans (by omega)),rfl,rfl,trivial⟩ rfl rfl rfl
  refine AK.ix i (by omega) (nrows_get (l:=ks) hxg) ?_
  rcases hx x (List.mem_of_getElem? hxg) with ⟨h30,hp⟩ | ⟨h30,hp⟩
  ·refine AK.yes ?_ (ht:=by simpa using h30)
   refine AK.db 10240 ?_
   refine Drv.ig i (by omega) (nrows_get (l:=ks) hxg) ?_
   refine Drv.pg hp ?_
   refine Drv.ig 0 (by omega) (row0 (plainM x) []) ?_
   refine Drv.w (Ndo.append (res:=nrows ((ks.take (i+1)).map plainM)) rfl rfl rfl rfl rfl rfl rfl rfl rfl rfl rfl rfl rfl rfl htl (nrows_al _) rfl rfl rfl ?_ hres rfl) ?_
   ·rw [htl];simp;omega
   refine Drv.e ?_
   refine Drv.w (Ndo.store rfl rfl rfl rfl rfl rfl rfl) ?_
   refine Drv.zj 15 ?_
   exact AK.back' 2 1 hgo ⟨rfl,rfl,rfl,trivial⟩ (by simp [St.drop,nrows_len];omega) rfl rfl rfl rfl
  ·refine AK.no ?_ (ht:=by simpa using h30)
   refine AK.db 2560 ?_
   refine Drv.ig i (by omega) (nrows_get (l:=ks) hxg) ?_
   refine Drv.pg (p_copy x (by omega)) ?_
   rw [hp] at hres
   refine Drv.w (Ndo.append (res:=nrows ((ks.take (i+1)).map plainM)) rfl rfl rfl rfl rfl rfl rfl rfl rfl rfl rfl rfl rfl rfl htl (nrows_al _) rfl rfl rfl ?_ hres rfl) ?_
   ·rw [htl];simp;omega
   refine Drv.e ?_
   refine Drv.w (Ndo.store rfl rfl rfl rfl rfl rfl rfl) ?_
   refine Drv.zj 15 ?_
   exact AK.back' 2 1 hgo ⟨rfl,rfl,rfl,trivial⟩ (by simp [St.drop,nrows_len];omega) rfl rfl rfl rfl
 ·have:i=ks.length:=by have:=of_decide_eq_false h;rw [nrows_len] at this;simp at this;omega
  subst this
  refine AK.rz Tryz.func131 ?_
  rw [List.take_length,nrows_map [_]];rfl
theorem nrows_ac (l:List Nd):allCellR (nrows l)=true:=allCellR_eq.2 fun r hr x hx=>by
 rw [nrows_map] at hr
 obtain ⟨k,_,rfl⟩:=List.mem_map.1 hr
 simp [ncells] at hx
 rcases hx with rfl | rfl | rfl | rfl<;>rfl
theorem Hands.pure {X:Cx}{f:FuncId}{args:List AV}{y r:AV}{tk:List Nat}(h:Hands X f args ⟨[],[]⟩ y ⟨[],tk⟩) [hz:FzC ⟨[],tk⟩ 0 0 y r]:Pure X f args r:=by
 refine ⟨h.1,fun E w vs hd hI hs hr=>(h.2 E w vs hd hI hs hr).mono fun e w' he=>?_⟩
 obtain ⟨E1,S1,d1,d2,d3⟩:=he
 cases e with
 | returned v =>
   obtain ⟨r',hr',hre,rfl⟩:=d3
   cases hre
   exact ⟨E1.drop 0 0,_,d1.drop (fun rows hr=>by simp at hr),d2.trans (Evol.drop E1 w' 0 0),r,hz.s.rel d1 hr',rfl,by simp [St.drop]⟩
 | panicked ch=>obtain ⟨h,_⟩:=d3;cases h
 | outgrown=>exact d3.elim
theorem h_plainB (m:Int)(s:List UInt8)(ks:List Nd)(hw:wN (.mk 30 s m ks)≤1000000000)
 (hx:∀ x,x∈ks→Pure X 131 [nd x] (.sl (nrows (plain1 x)) .no)∧Nat.ble 1 (plain1 x).length=true) :
 Hands X 131 [nd (.mk 30 s m ks)] ⟨[],[]⟩ (.sl [[vi 30,str s,vi m,.sl (nrows (plainML ks)) (.tok 0)]] .tight) ⟨[],[(plainML ks).length]⟩:=by
 have hkl:=kids_le_w (.mk 30 s m ks)
 simp only [kids_mk] at hkl
 refine Hands.run Tryz.func131 ?_
 refine AK.yes ?_
 refine AK.mintB 1 0 3 rfl rfl rfl rfl rfl rfl ?_
 refine AK.while_ (ι:=Nat) 2 1 (fun i=>i≤ks.length) (fun i=>[(4,vi i),(1,.ptr 0 0 0),(3,.ptr 1 0 0)]) (fun i=>⟨[[ncells (.mk 30 s m ks)],[[vi 30,str s,vi m,.sl (nrows (plainML (ks.take i))) (.tok 0)]]],[(plainML (ks.take i)).length]⟩) (fun i=>ks.length-i) ?_ 0
  (Nat.zero_le _) ⟨rfl,rfl,rfl,trivial⟩ (by simp [plainML_nil];rfl) rfl rfl rfl rfl (fun _=>inferInstance) (fun _=>inferInstance)
 intro i hi IH
 refine AK.ev 100 rfl ?_
 refine AK.if_ (fun h=>?_) (fun h=>?_)
 ·have hlt:i<ks.length:=by have:=of_decide_eq_true h;rw [nrows_len] at this;simp at this;omega
  obtain ⟨x,hxg⟩:=lget_of_lt ks hlt
  have hwx:wN x<wN (.mk 30 s m ks):=wN_kid (n:=.mk 30 s m ks) (List.mem_of_getElem? hxg)
  have hsn:plainML (ks.take (i+1))=plainML (ks.take i)++plain1 x:=by rw [List.take_add_one,hxg,plainML_app];simp [plainML_cons,plainML_nil]
  have hl1:=len_le_wL (plainML (ks.take i))
  have hl2:=plainML_w (ks.take i)
  have hl3:wL (ks.take i)≤wL ks:=by
   have:=wL_app (ks.take i) (ks.drop i)
   rw [List.take_append_drop] at this;omega
  have hl4:=len_le_wL (plain1 x)
  have hl5:=(plain_w x).2
  have hw':=hw
  simp only [wN] at hw'
  obtain ⟨hp,hne⟩:=hx x (List.mem_of_getElem? hxg)
  refine AK.db 1280 ?_
  refine Drv.ig i (by omega) (nrows_get (l:=ks) hxg) ?_
  refine Drv.pg hp ?_
  refine Drv.w (Ndo.append (res:=nrows (plainML (ks.take (i+1)))) rfl rfl rfl rfl rfl rfl rfl rfl rfl rfl rfl rfl rfl rfl (nrows_len _) (nrows_al _) (nrows_al _) (nrows_ac _) (by rw [nrows_len];exact hne) ?_ ?_ rfl) ?_
  ·rw [nrows_len,nrows_len];simp only [wN] at hwx;omega
  ·rw [hsn,nrows_map,nrows_map,nrows_map,List.map_append]
  refine Drv.e ?_
  refine Drv.w (Ndo.store rfl rfl rfl rfl rfl rfl rfl) ?_
  refine Drv.z ?_
  refine IH (i+1) hlt (by omega) _ _ ⟨vint ((wrap_small (by omega) (by omega)).trans (by omega)),rfl,rfl,trivial⟩ ?_ rfl rfl
  simp [St.drop,nrows_len,hsn]
 ·have:i=ks.length:=by have:=of_decide_eq_false h;rw [nrows_len] at this;simp at this;omega
  subst this
  rw [List.take_length]
  exact AK.ret Tryz.func131 rfl rfl rfl rfl
theorem p_plainB (m:Int)(s:List UInt8)(ks:List Nd)(hw:wN (.mk 30 s m ks)≤1000000000)
 (hx:∀ x,x∈ks→Pure X 131 [nd x] (.sl (nrows (plain1 x)) .no)∧Nat.ble 1 (plain1 x).length=true) :
 Pure X 131 [nd (.mk 30 s m ks)] (.sl (nrows [.mk 30 s m (plainML ks)]) .no):=by
 have:=(h_plainB m s ks hw hx).pure
 rw [nrows_map [_]]
 exact this
theorem plain1_ne {x:Nd}(h:FS x):Nat.ble 1 (plain1 x).length=true:=by
 by_cases hk:x.kind=26
 ·cases h with
  | for_ s a b l h ha hb hl =>
    rw [plain1_for,plainML_cons,plainML_cons,plainML_cons,plainML_nil,plain1_no (by have:=FE_kind ha;omega),plain1_no (by have:=FE_kind hb;omega),plain1_no (by simp),plainM_mk];rfl
  | _=>simp at hk
 ·rw [plain1_no hk];rfl
theorem p_plainS (x:Nd)(h:FS x)(hw:wN x≤1000000000):Pure X 131 [nd x] (.sl (nrows (plain1 x)) .no):=by
 induction h with
 | set s a h ha =>
   rw [plain1_no (by simp),plainM_mk,plainML_map (by simp;have:=FE_kind ha;omega)]
   exact p_plainO 21 s 0 _ (by simp) (by simp) hw fun x hx=>by simp at hx;subst hx;exact .inr ⟨by have:=FE_kind ha;omega,plainE ha⟩
 | put s a b h ha hb =>
   rw [plain1_no (by simp),plainM_mk,plainML_map (by simp;have:=FE_kind ha;have:=FE_kind hb;omega)]
   refine p_plainO 22 s 0 _ (by simp) (by simp) hw fun x hx=>?_
   simp at hx
   rcases hx with rfl | rfl
   ·exact .inr ⟨by have:=FE_kind ha;omega,plainE ha⟩
   ·exact .inr ⟨by have:=FE_kind hb;omega,plainE hb⟩
 | read s h =>
   rw [plain1_no (by simp),plainM_mk,plainML_map (by simp)]
   exact p_plainO 23 s 0 _ (by simp) (by simp) hw fun x hx=>by cases hx
 | skip =>
   rw [plain1_no (by simp),plainM_mk,plainML_map (by simp)]
   exact p_plainO 28 [] 0 _ (by simp) (by simp) hw fun x hx=>by cases hx
 | stop =>
   rw [plain1_no (by simp),plainM_mk,plainML_map (by simp)]
   exact p_plainO 29 [] 0 _ (by simp) (by simp) hw fun x hx=>by cases hx
 | check c hc =>
   rw [plain1_no (by simp),plainM_mk,plainML_map (by simp;have:=FC_kind hc;omega)]
   exact p_plainO 27 [] 0 _ (by simp) (by simp) hw fun x hx=>by simp at hx;subst hx;exact .inr ⟨by have:=FC_kind hc;omega,plainC hc⟩
 | whil c l hc hl ihl =>
   rw [plain1_no (by simp),plainM_mk,plainML_map (by simp;have:=FC_kind hc;omega)]
   simp [wN,wL] at hw
   refine p_plainO 25 [] 0 _ (by simp) (by simp) (by simp [wN,wL];omega) fun x hx=>?_
   simp at hx
   rcases hx with rfl | rfl
   ·exact .inr ⟨by have:=FC_kind hc;omega,plainC hc⟩
   ·exact .inl ⟨rfl,by rw [plainM_mk];exact p_plainB 0 [] l (by simp [wN];omega) fun x hx=>⟨ihl x hx (by have:=wL_mem hx;omega),plain1_ne (hl x hx)⟩⟩
 | ifs c l l' hc hl hl' ihl ihl' =>
   rw [plain1_no (by simp),plainM_mk,plainML_map (by simp;have:=FC_kind hc;omega)]
   simp [wN,wL] at hw
   refine p_plainO 24 [] 0 _ (by simp) (by simp) (by simp [wN,wL];omega) fun x hx=>?_
   simp at hx
   rcases hx with rfl | rfl | rfl
   ·exact .inr ⟨by have:=FC_kind hc;omega,plainC hc⟩
   ·exact .inl ⟨rfl,by rw [plainM_mk];exact p_plainB 0 [] l (by simp [wN];omega) fun x hx=>⟨ihl x hx (by have:=wL_mem hx;omega),plain1_ne (hl x hx)⟩⟩
   ·exact .inl ⟨rfl,by rw [plainM_mk];exact p_plainB 0 [] l' (by simp [wN];omega) fun x hx=>⟨ihl' x hx (by have:=wL_mem hx;omega),plain1_ne (hl' x hx)⟩⟩
 | for_ s a b l h ha hb hl ihl =>
   simp [wN,wL] at hw
   have hB:=h_plainB 0 [] l (by simp [wN];omega) fun x hx=>⟨ihl x hx (by have:=wL_mem hx;omega),plain1_ne (hl x hx)⟩
   have hl1:=len_le_wL (plainML l)
   have hl2:=plainML_w l
   rw [plain1_for,plainML_cons,plainML_cons,plainML_cons,plainML_nil,plain1_no (by have:=FE_kind ha;omega),plain1_no (by have:=FE_kind hb;omega),plain1_no (by simp),plainM_mk,plainE ha,plainE hb]
   refine Pure.run Tryz.func131 ?_
   refine AK.no ?_
   refine AK.yes ?_
   refine AK.ix 2 (by omega) (row2 a b _ []) ?_
   refine AK.hc (τ':=[0]) [] [] hB ?_
   refine AK.ix 0 (by omega) (rows:=[_]) rfl ?_
   refine AK.db 10240 ?_
   refine Drv.pg (p_lvar s) ?_
   refine Drv.pg p_lnum1 ?_
   refine Drv.pg (p_two 6 (.mk 2 s 0 []) (.mk 1 [] 1 [])) ?_
   refine Drv.pg (p_set s (.mk 6 [] 0 [.mk 2 s 0 [],.mk 1 [] 1 []])) ?_
   refine Drv.w (Ndo.append (res:=nrows (plainML l++[.mk 21 s 0 [.mk 6 [] 0 [.mk 2 s 0 [],.mk 1 [] 1 []]]])) rfl rfl rfl rfl rfl rfl rfl rfl rfl rfl rfl rfl rfl rfl (nrows_len _) (nrows_al _) rfl rfl rfl ?_ ?_ rfl) ?_
   ·rw [nrows_len];simp;omega
   ·simp [nrows_map]
   refine Drv.e ?_
   refine Drv.w (Ndo.store rfl rfl rfl rfl rfl rfl rfl) ?_
   refine Drv.z ?_
   refine AK.db 0 ?_
   refine Drv.ig 0 (by omega) (row0 a _) ?_
   refine Drv.pg (p_copy a (by omega)) ?_
   refine Drv.pg (p_set s a) ?_
   refine Drv.pg (p_lvar s) ?_
   refine Drv.ig 1 (by omega) (row1 a b _) ?_
   refine Drv.pg (p_copy b (by omega)) ?_
   refine Drv.pg (p_two 11 (.mk 2 s 0 []) b) ?_
   refine Drv.pg (p_two 25 (.mk 11 [] 0 [.mk 2 s 0 [],b]) (.mk 30 [] 0 (plainML l++[.mk 21 s 0 [.mk 6 [] 0 [.mk 2 s 0 [],.mk 1 [] 1 []]]]))) ?_
   refine Drv.z ?_
   refine AK.rz Tryz.func131 ?_
   show AV.sl _ _=AV.sl (nrows (forT s [a,b,.mk 30 [] 0 (plainML l)])) _
   rw [nrows_map (forT s _)];rfl
theorem plain_P {ds l:List Nd}(hd:∀ x,x∈ds→FV x):plainM (.mk 40 [] 0 (ds++[.mk 30 [] 0 l]))=.mk 40 [] 0 (ds++[.mk 30 [] 0 (plainML l)]):=by
 rw [plainM_mk,plainML_app,plainML_cons,plainML_nil,plain1_no (by simp),plainM_mk]
 congr 2
 rw [plainML_map fun x hx=>by have:=FV_kind (hd x hx);omega]
 have:ds.map plainM=ds:=by
  conv=>rhs;rw [← List.map_id ds]
  exact List.map_congr_left fun x hx=>plainV (hd x hx)
 rw [this]
theorem p_plainProg (n:Nd)(h:FP n)(hw:wN n≤100000000):Pure X 85 [nd n] (nd (plainM n)):=by
 cases h with
 | mk ds l hd hl =>
 rw [plain_P hd]
 have hkl:=kids_le_w (.mk 40 [] 0 (ds++[.mk 30 [] 0 l]))
 simp only [kids_mk,List.length_append,List.length_singleton] at hkl
 have hwl:wN (.mk 30 [] 0 l)<wN (.mk 40 [] 0 (ds++[.mk 30 [] 0 l])):=wN_kid (n:=.mk 40 [] 0 (ds++[.mk 30 [] 0 l])) (by simp)
 have hwl':wN (.mk 30 [] 0 l)=1+wL l:=by simp [wN]
 have hN:((nrows (ds++[.mk 30 [] 0 l])).length:Int)=ds.length+1:=by rw [nrows_len];simp
 have hwr:IntKind.i64.wrap (((nrows (ds++[.mk 30 [] 0 l])).length:Int)-1)=ds.length:=by rw [hN,wrap_small (by omega) (by omega)];omega
 refine Pure.run Tryz.func85 ?_
 refine AK.mintB 2 0 3 rfl rfl rfl rfl rfl rfl ?_
 refine AK.while_ (ι:=Nat) 3 1 (fun i=>i≤ds.length) (fun i=>[(4,vi i),(1,.ptr 0 0 0),(2,.ptr 1 0 0),(3,.ptr 2 0 0)])
  (fun i=>⟨[[ncells (.mk 40 [] 0 (ds++[.mk 30 [] 0 l]))],[zN],[[vi 40,str [],vi 0,.sl (nrows (ds.take i)) (.tok 0)]]],[i]⟩) (fun i=>ds.length-i) ?_ 0
  (Nat.zero_le _) ⟨rfl,rfl,rfl,rfl,trivial⟩ rfl rfl rfl rfl rfl (fun _=>inferInstance) (fun _=>inferInstance)
 intro i hi IH
 have htl:(nrows (ds.take i)).length=i:=by rw [nrows_len];simp;omega
 refine AK.ev 100 rfl ?_
 refine AK.if_ (fun h=>?_) (fun h=>?_)
 ·have hlt:i<ds.length:=by have:=of_decide_eq_true h;rw [kids_mk,hwr] at this;omega
  obtain ⟨x,hx⟩:=lget_of_lt ds hlt
  have hx':(ds++[Nd.mk 30 [] 0 l])[i]?=some x:=by rw [List.getElem?_append_left hlt];exact hx
  have hwx:wN x<wN (.mk 40 [] 0 (ds++[.mk 30 [] 0 l])):=wN_kid (n:=.mk 40 [] 0 (ds++[.mk 30 [] 0 l])) (List.mem_of_getElem? hx')
  refine AK.db 2560 ?_
  refine Drv.ig i (by omega) (nrows_get hx') ?_
  refine Drv.pg (p_copy x (by omega)) ?_
  refine Drv.w (Ndo.append (res:=nrows (ds.take (i+1))) rfl rfl rfl rfl rfl rfl rfl rfl rfl rfl rfl rfl rfl rfl htl (nrows_al _) rfl rfl rfl ?_ ?_ rfl) ?_
  ·rw [htl];simp;omega
  ·simp [nrows_map,List.take_add_one,hx]
  refine Drv.e ?_
  refine Drv.w (Ndo.store rfl rfl rfl rfl rfl rfl rfl) ?_
  refine Drv.z ?_
  refine IH (i+1) hlt (by omega) _ _ ⟨vint ((wrap_small (by omega) (by omega)).trans (by omega)),rfl,rfl,rfl,trivial⟩ ?_ rfl rfl
  simp [St.drop,htl]
 ·have:i=ds.length:=by have:=of_decide_eq_false h;rw [kids_mk,hwr] at this;omega
  subst this
  rw [List.take_length] at htl ⊢
  have hlast:(nrows (ds++[Nd.mk 30 [] 0 l]))[(IntKind.i64.wrap (((nrows (ds++[.mk 30 [] 0 l])).length:Int)-1)).toNat]?=some (ncells (.mk 30 [] 0 l)):=by
   rw [hwr];exact nrows_get (by simp)
  have hB:=p_plainB 0 [] l (by omega) fun x hx=>⟨p_plainS x (hl x hx) (by have:=wL_mem hx;omega),plain1_ne (hl x hx)⟩
  refine AK.db 81920 ?_
  refine Drv.ig _ (by rw [hwr];omega) hlast ?_
  refine Drv.pg hB ?_
  refine Drv.ig 0 (by omega) (row0 _ []) ?_
  refine Drv.w (Ndo.append (res:=nrows (ds++[.mk 30 [] 0 (plainML l)])) rfl rfl rfl rfl rfl rfl rfl rfl rfl rfl rfl rfl rfl rfl htl (nrows_al _) rfl rfl rfl ?_ ?_ rfl) ?_
  ·rw [htl];simp;omega
  ·rw [nrows_map (ds++_),nrows_map ds,List.map_append];rfl
  refine Drv.e ?_
  refine Drv.w (Ndo.store rfl rfl rfl rfl rfl rfl rfl) ?_
  refine Drv.z ?_
  refine AK.rz Tryz.func85 ?_
  rfl
def twG (pre:List (List UInt8)):List Nd→Option (List UInt8)
 | []=>none
 | d::l=>if has pre d.name then some d.name else twG (pre++[d.name]) l
def manyS (n:Nd):Bool:=decide (8<(declS n 31).length)||decide (4<(declS n 32).length)
def bigS (l:List Nd):Bool:=l.any fun d=>decide (60<d.num)
def lastN (n:Nd):Nd:=n.kids.getLastD nd0
def checkS (n:Nd):Int × List UInt8 :=
 if progOkS n then
  (if manyS n then (3,[]) else if bigS n.kids.dropLast then (3,[]) else
    match twG [] n.kids.dropLast with
    | some s=>(6,s)
    | none =>
      if (wrongN (declS n 31) (declS n 32) 7 (lastN n)).2 then (7,(wrongN (declS n 31) (declS n 32) 7 (lastN n)).1)
      else if (wrongN (declS n 31) (declS n 32) 8 (lastN n)).2 then (8,(wrongN (declS n 31) (declS n 32) 8 (lastN n)).1)
      else if progOkS (plainM n) then (0,[]) else (5,[]))
 else (4,[])
theorem progOkS_FP {n:Nd}(h:progOkS n=true):FP n∧countN n≤500∧depthN n≤24:=by
 simp only [progOkS,fitsS,Bool.and_eq_true,decide_eq_true_eq,beq_iff_eq] at h
 exact ⟨FP_of n h.1.2.2 h.1.1,h.1.2.1.1,h.1.2.1.2⟩
theorem has_app (a b:List (List UInt8))(s:List UInt8):has (a++b) s=(has a s||has b s):=by simp [has]
abbrev gC (v a:List (List UInt8)):Frm:=[(1,.ptr 0 0 0),(2,.ptr 1 0 0),(3,.sl (strR v) .no),(4,.sl (strR a) .no)]
theorem p_check (n:Nd)(hn:wN n≤100000000):Pure X 50 [nd n] (.agg [vi (checkS n).1,str (checkS n).2]):=by
 refine Pure.run Tryz.func50 ?_
 refine AK.pc (p_progOk n (by omega)) ?_
 refine AK.if_ (fun h1=>?_) (fun h1=>?_)
 ·have h1':progOkS n=false:=by have:(!progOkS n)=true:=h1;simpa using this
  refine AK.rz Tryz.func50 ?_
  simp only [checkS];rw [if_neg (by simp [h1'])]
 have h1':progOkS n=true:=by have:(!progOkS n)=false:=h1;simpa using this
 obtain ⟨hP,hc,hdp⟩:=progOkS_FP h1'
 have hkl:=kids_le_w n
 have hC:checkS n=(if manyS n then (3,[]) else if bigS n.kids.dropLast then (3,[]) else
  match twG [] n.kids.dropLast with
  | some s=>(6,s)
  | none =>
    if (wrongN (declS n 31) (declS n 32) 7 (lastN n)).2 then (7,(wrongN (declS n 31) (declS n 32) 7 (lastN n)).1)
    else if (wrongN (declS n 31) (declS n 32) 8 (lastN n)).2 then (8,(wrongN (declS n 31) (declS n 32) 8 (lastN n)).1)
    else if progOkS (plainM n) then (0,[]) else (5,[]):Int × List UInt8):=by simp only [checkS];rw [if_pos h1']
 have hvl:(declS n 31).length≤1000000000:=by have:=namesK_le n.kids.dropLast 31;simp [declS] at this ⊢;omega
 have hal:(declS n 32).length≤1000000000:=by have:=namesK_le n.kids.dropLast 32;simp [declS] at this ⊢;omega
 refine AK.pc (p_declared n 31 (by omega)) ?_
 refine AK.pc (p_declared n 32 (by omega)) ?_
 generalize hv:declS n 31=v at hC hvl ⊢
 generalize ha:declS n 32=a at hC hal ⊢
 have hvs:((strR v).length:Int)=v.length:=by rw [strR_len]
 have has':((strR a).length:Int)=a.length:=by rw [strR_len]
 have hM:manyS n=(decide (8<v.length)||decide (4<a.length)):=by simp only [manyS,hv,ha]
 have hne:n.kids≠[]:=by cases hP;simp
 have hpos:0<n.kids.length:=List.length_pos_iff.2 hne
 have hw:IntKind.i64.wrap (((nrows n.kids).length:Int)-1)=((n.kids.length-1:Nat):Int):=by rw [nrows_len,wrap_small (by omega) (by omega)];omega
 have hgetD:∀ i,i<n.kids.length-1→∀ x,n.kids[i]?=some x→n.kids.dropLast[i]?=some x:=fun i hi x hx=>by
  rw [List.dropLast_eq_take,List.getElem?_take,if_pos hi];exact hx
 have hdl:n.kids.dropLast.length=n.kids.length-1:=by simp
 have h20:manyS n=false→bigS n.kids.dropLast=false→twG [] n.kids.dropLast=none→AK X ⟨50,Tryz.f50,0,0⟩ (locG false 20 Tryz.f50) (gC v a) ⟨[[ncells n],[[vi 0,str []]]],[]⟩
  (fun e S=>e=.ret (.agg [vi (checkS n).1,str (checkS n).2])∧S=⟨[],[]⟩):=fun g1 g2 g3=>by
  rw [hC,if_neg (by simp [g1]),if_neg (by simp [g2]),g3]
  simp only
  have hl:n.kids[n.kids.length-1]?=some (lastN n):=by
   simp only [lastN]
   cases hk:n.kids with
   | nil=>exact absurd hk hne
   | cons y l=>rw [List.getLastD_eq_getLast?,List.getLast?_eq_getElem?];simp
  have hlast:(nrows n.kids)[(IntKind.i64.wrap (((nrows n.kids).length:Int)-1)).toNat]?=some (ncells (lastN n)):=by
   rw [hw]
   exact nrows_get (by simpa using hl)
  have hwl:wN (lastN n)≤100000000:=by
   have:=wN_kid (List.mem_of_getElem? hl);omega
  refine AK.at_ ?_
  refine AK.ev 100 rfl ?_
  refine AK.ix _ (by rw [hw];omega) hlast ?_
  refine AK.pc (p_wrong v a 7 (.inl rfl) hvl hal (lastN n) (by omega)) ?_
  refine AK.if_ (fun h2=>?_) (fun h2=>?_)
  ·have h2':(wrongN v a 7 (lastN n)).2=true:=h2
   rw [if_pos h2']
   refine AK.rz Tryz.func50 ?_
   rfl
  have h2':(wrongN v a 7 (lastN n)).2=false:=h2
  rw [if_neg (by simp [h2'])]
  refine AK.pc (p_wrong v a 8 (.inr rfl) hvl hal (lastN n) (by omega)) ?_
  refine AK.if_ (fun h3=>?_) (fun h3=>?_)
  ·have h3':(wrongN v a 8 (lastN n)).2=true:=h3
   rw [if_pos h3']
   refine AK.rz Tryz.func50 ?_
   rfl
  have h3':(wrongN v a 8 (lastN n)).2=false:=h3
  rw [if_neg (by simp [h3'])]
  refine AK.pc (p_plainProg n hP hn) ?_
  refine AK.pc (p_progOk (plainM n) (by have:=(plain_w n).1;omega)) ?_
  refine AK.if_ (fun h4=>?_) (fun h4=>?_)
  ·have h4':progOkS (plainM n)=false:=by have:(!progOkS (plainM n))=true:=h4;simpa using this
   rw [if_neg (by simp [h4'])]
   refine AK.rz Tryz.func50 ?_
   rfl
  ·have h4':progOkS (plainM n)=true:=by have:(!progOkS (plainM n))=false:=h4;simpa using this
   rw [if_pos h4']
   refine AK.rz Tryz.func50 ?_
   rfl
 have h12:manyS n=false→bigS n.kids.dropLast=false→AK X ⟨50,Tryz.f50,0,0⟩ (locG false 12 Tryz.f50) (gC v a) ⟨[[ncells n],[[vi 0,str []]]],[]⟩
  (fun e S=>e=.ret (.agg [vi (checkS n).1,str (checkS n).2])∧S=⟨[],[]⟩):=fun g1 g2=>by
  refine AK.at_ ?_
  refine AK.ev 100 rfl ?_
  refine AK.while_ (ι:=Nat) 2 0 (fun i=>i≤n.kids.length-1∧twG [] n.kids.dropLast=twG ((n.kids.dropLast.take i).map Nd.name) (n.kids.dropLast.drop i)) (fun i=>(6,vi i)::gC v a) (fun _=>⟨[[ncells n],[[vi 0,str []]]],[]⟩)
   (fun i=>n.kids.length-i) ?_ 0 ⟨Nat.zero_le _,by simp⟩ ⟨rfl,rfl,rfl,rfl,rfl,trivial⟩ rfl rfl rfl rfl rfl (fun _=>inferInstance) (fun _=>inferInstance)
  rintro i ⟨hi,hT⟩ IH
  refine AK.ev 100 rfl ?_
  refine AK.ifj 0 20 (fun h=>?_) (fun h=>?_)
  ·have hlt:i<n.kids.length-1:=by have:=of_decide_eq_true h;rw [hw] at this;omega
   obtain ⟨x,hx⟩:=lget_of_lt n.kids (i:=i) (by omega)
   have hx':=hgetD i hlt x hx
   have hd:twG ((n.kids.dropLast.take i).map Nd.name) (n.kids.dropLast.drop i)=if has ((n.kids.dropLast.take i).map Nd.name) x.name then some x.name else twG ((n.kids.dropLast.take (i+1)).map Nd.name) (n.kids.dropLast.drop (i+1)):=by
    rw [drop_cons hx'];simp only [twG]
    rw [show (n.kids.dropLast.take (i+1)).map Nd.name=(n.kids.dropLast.take i).map Nd.name++[x.name] by rw [List.take_add_one,hx'];simp]
   rw [hd] at hT
   refine AK.ev 100 rfl ?_
   refine AK.while_ (ι:=Nat) 2 0 (fun k=>k≤i∧has ((n.kids.dropLast.take k).map Nd.name) x.name=false) (fun k=>(7,vi k)::(6,vi i)::gC v a) (fun _=>⟨[[ncells n],[[vi 0,str []]]],[]⟩)
    (fun k=>i-k) ?_ 0 ⟨Nat.zero_le _,by simp [has]⟩ ⟨rfl,rfl,rfl,rfl,rfl,rfl,trivial⟩ rfl rfl rfl rfl rfl (fun _=>inferInstance) (fun _=>inferInstance)
   rintro k ⟨hk,hno⟩ IH2
   refine AK.ev 100 rfl ?_
   refine AK.if_ (fun h2=>?_) (fun h2=>?_)
   ·have hkl':k<i:=by have:=of_decide_eq_true h2;omega
    obtain ⟨y,hy⟩:=lget_of_lt n.kids (i:=k) (by omega)
    have hy':=hgetD k (by omega) y hy
    have hsn:has ((n.kids.dropLast.take (k+1)).map Nd.name) x.name=(y.name==x.name):=by
     rw [show (n.kids.dropLast.take (k+1)).map Nd.name=(n.kids.dropLast.take k).map Nd.name++[y.name] by rw [List.take_add_one,hy'];simp,has_app,hno]
     simp [has]
    refine AK.db 0 ?_
    refine Drv.ig k (by omega) (nrows_get hy) ?_
    refine Drv.ig i (by omega) (nrows_get hx) ?_
    refine Drv.z ?_
    refine AK.if_ (fun h3=>?_) (fun h3=>?_)
    ·have h3':(y.name==x.name)=true:=h3
     have hin:has ((n.kids.dropLast.take i).map Nd.name) x.name=true:=by
      have e:n.kids.dropLast.take i=n.kids.dropLast.take (k+1)++(n.kids.dropLast.take i).drop (k+1):=by
       conv=>lhs;rw [← List.take_append_drop (k+1) (n.kids.dropLast.take i)]
       rw [List.take_take,Nat.min_eq_left (by omega)]
      rw [e,List.map_append,has_app,hsn,h3'];rfl
     rw [if_pos hin] at hT
     refine AK.ix i (by omega) (nrows_get hx) ?_
     refine AK.rz Tryz.func50 ?_
     rw [hC,if_neg (by simp [g1]),if_neg (by simp [g2]),hT]
    ·have h3':(y.name==x.name)=false:=h3
     exact IH2 (k+1) ⟨hkl',by rw [hsn,h3']⟩ (by omega) _ _ ⟨vint ((wrap_small (by omega) (by omega)).trans (by omega)),rfl,rfl,rfl,rfl,rfl,trivial⟩ rfl rfl rfl
   ·have:k=i:=by have:=of_decide_eq_false h2;omega
    subst this
    rw [if_neg (by rw [hno];simp)] at hT
    exact IH (k+1) ⟨by omega,hT⟩ (by omega) _ _ ⟨vint ((wrap_small (by omega) (by omega)).trans (by omega)),rfl,rfl,rfl,rfl,trivial⟩ rfl rfl rfl
  ·have:i=n.kids.length-1:=by have:=of_decide_eq_false h;rw [hw] at this;omega
   rw [this,← hdl,List.drop_length,List.take_length] at hT
   exact AK.back' 2 0 (h20 g1 g2 (by rw [hT];rfl)) ⟨rfl,rfl,rfl,rfl,trivial⟩ rfl rfl rfl rfl rfl
 have h7:manyS n=false→AK X ⟨50,Tryz.f50,0,0⟩ (locG false 7 Tryz.f50) (gC v a) ⟨[[ncells n],[[vi 0,str []]]],[]⟩
  (fun e S=>e=.ret (.agg [vi (checkS n).1,str (checkS n).2])∧S=⟨[],[]⟩):=fun g1=>by
  refine AK.at_ ?_
  refine AK.ev 100 rfl ?_
  refine AK.while_ (ι:=Nat) 2 0 (fun i=>i≤n.kids.length-1∧bigS n.kids.dropLast=bigS (n.kids.dropLast.drop i)) (fun i=>(5,vi i)::gC v a) (fun _=>⟨[[ncells n],[[vi 0,str []]]],[]⟩)
   (fun i=>n.kids.length-i) ?_ 0 ⟨Nat.zero_le _,by simp⟩ ⟨rfl,rfl,rfl,rfl,rfl,trivial⟩ rfl rfl rfl rfl rfl (fun _=>inferInstance) (fun _=>inferInstance)
  rintro i ⟨hi,hT⟩ IH
  refine AK.ev 100 rfl ?_
  refine AK.ifj 0 12 (fun h=>?_) (fun h=>?_)
  ·have hlt:i<n.kids.length-1:=by have:=of_decide_eq_true h;rw [hw] at this;omega
   obtain ⟨x,hx⟩:=lget_of_lt n.kids (i:=i) (by omega)
   have hx':=hgetD i hlt x hx
   have hd:bigS (n.kids.dropLast.drop i)=(decide (60<x.num)||bigS (n.kids.dropLast.drop (i+1))):=by rw [drop_cons hx'];rfl
   rw [hd] at hT
   refine AK.ev 100 rfl ?_
   refine AK.ix i (by omega) (nrows_get hx) ?_
   refine AK.if_ (fun h2=>?_) (fun h2=>?_)
   ·have h2':decide (60<x.num)=true:=by simpa using of_decide_eq_true h2
    refine AK.rz Tryz.func50 ?_
    rw [hC,if_neg (by simp [g1]),if_pos (by rw [hT,h2'];rfl)]
   ·have h2':decide (60<x.num)=false:=by simpa using of_decide_eq_false h2
    exact IH (i+1) ⟨by omega,by rw [hT,h2'];rfl⟩ (by omega) _ _ ⟨vint ((wrap_small (by omega) (by omega)).trans (by omega)),rfl,rfl,rfl,rfl,trivial⟩ rfl rfl rfl
  ·have:i=n.kids.length-1:=by have:=of_decide_eq_false h;rw [hw] at this;omega
   rw [this,← hdl,List.drop_length] at hT
   exact AK.back' 2 0 (h12 g1 (by rw [hT];rfl)) ⟨rfl,rfl,rfl,rfl,trivial⟩ rfl rfl rfl rfl rfl
 refine AK.gd (fun h2=>?_) (fun h2=>?_)
 ·have h2':decide (8<v.length)=true:=by have:=of_decide_eq_true h2;rw [hvs] at this;simp;omega
  refine AK.yes ?_
  refine AK.rz Tryz.func50 ?_
  rw [hC,if_pos (by rw [hM,h2'];rfl)]
 ·have h2':decide (8<v.length)=false:=by have:=of_decide_eq_false h2;rw [hvs] at this;simp;omega
  refine AK.ifj 0 7 (fun h3=>?_) (fun h3=>?_)
  ·have h3':decide (4<a.length)=true:=by have:=of_decide_eq_true h3;rw [has'] at this;simp;omega
   refine AK.ev 100 rfl ?_
   refine AK.rz Tryz.func50 ?_
   rw [hC,if_pos (by rw [hM,h2',h3'];rfl)]
  ·have h3':decide (4<a.length)=false:=by have:=of_decide_eq_false h3;rw [has'] at this;simp;omega
   exact AK.back' 2 0 (h7 (by rw [hM,h2',h3'];rfl)) ⟨rfl,rfl,rfl,rfl,trivial⟩ rfl rfl rfl rfl rfl
def rightS (n:Nd):Bool:=(checkS n).1==0
theorem p_right (n:Nd)(hn:wN n≤100000000):Pure X 30 [nd n] (vb (rightS n)):=by
 refine Pure.run Tryz.func30 ?_
 refine AK.pc (p_check n hn) ?_
 exact AK.rt Tryz.func30 rfl
end Go.V
namespace Go.V
open Go
section
variable {X:Cx}{S:St}{F:Frm}{N:Nat}{ops:Array Oper}{i:Nat}{o:Oper}{p q:Operand}{t t':TypeId}
theorem Ndo.isNil (hu:X.P.underlying t=some (.interface (X.P.methodsAt t)))(ho:ops[i]?=some o:=by rfl)(hw:wantA ops F o=some true:=by rfl)(hop:o.op=.binOp .eql t p (.const .nilIface) t':=by rfl)
 (hp:opr X F p=some (.val .nilIface):=by rfl):Ndo X N ops i o F (.val (.bool true)) S S:=by
 refine Ndo.val ho hw fun F' E w a hc hI hF=>?_
 rw [hop] at hc
 have r1:=opr_sound hI hF ((hc p (by simp [Op.operands])).trans hp)
 generalize hx:a.eval p=x at r1
 cases r1
 exact ⟨.bool true,by simp [execOp,hop,hx,show a.eval (.const .nilIface)=.nilIface from rfl,eqGuard,run_eql_nil_nil w t hu],.val _⟩
theorem Ndo.notNil (hu:X.P.underlying t=some (.interface (X.P.methodsAt t)))(ho:ops[i]?=some o:=by rfl)(hw:wantA ops F o=some true:=by rfl)(hop:o.op=.binOp .eql t p (.const .nilIface) t':=by rfl)
 (hp:opr X F p=some .err:=by rfl):Ndo X N ops i o F (.val (.bool false)) S S:=by
 refine Ndo.val ho hw fun F' E w a hc hI hF=>?_
 rw [hop] at hc
 have r1:=opr_sound hI hF ((hc p (by simp [Op.operands])).trans hp)
 generalize hx:a.eval p=x at r1
 cases r1
 exact ⟨.bool false,by simp [execOp,hop,hx,show a.eval (.const .nilIface)=.nilIface from rfl,eqGuard,run_eql_held_nil w t _ _ hu],.val _⟩
end
end Go.V
namespace Go.Proofs
open Go.Shelf
def Tryz.laysC172_ren:Go.Shelf.Ren:=⟨fun | 172=>248 | 244=>272 | 245=>273 | 247=>290 | 279=>291 | 280=>292 | 281=>293 | 282=>294 | 287=>312 | 316=>313 | 171=>46 | 205=>314 | 321=>322 | 322=>323 | 243=>79 | 246=>123 | 283=>168 | 284=>169 | 285=>170 | 286=>171 | 129=>217 | 317=>216 | 318=>218 | 319=>219 | 320=>220 | 337=>252 | 338=>253 | n=>n,fun | 9=>9 | 3=>3 | 75=>95 | 76=>96 | 4=>4 | 5=>5 | 167=>298 | 37=>89 | 0=>0 | 85=>299 | 2=>2 | 168=>301 | 53=>217 | 175=>308 | 46=>259 | 210=>312 | 127=>132 | 145=>322 | 143=>320 | 21=>21 | 171=>216 | 173=>220 | 212=>256 | 51=>257 | 20=>20 | 213=>258 | 232=>287 | 233=>288 | 80=>98 | n=>n,fun | 15=>6 | 16=>7 | 17=>1 | 18=>3 | 19=>4 | n=>n⟩
theorem Tryz.laysC172:Go.Proofs.LaysC.n172 Tryz.prog Tryz.laysC172_ren:={
 mixed:=by kernel_rfl,
 f129:=Tryz.func217.trans (congrArg some (by kernel_rfl)),
 f171:=Tryz.func46.trans (congrArg some (by kernel_rfl)),
 f172:=Tryz.func248.trans (congrArg some (by kernel_rfl)),
 f205:=Tryz.func314.trans (congrArg some (by kernel_rfl)),
 f243:=Tryz.func79.trans (congrArg some (by kernel_rfl)),
 f244:=Tryz.func272.trans (congrArg some (by kernel_rfl)),
 f245:=Tryz.func273.trans (congrArg some (by kernel_rfl)),
 f246:=Tryz.func123.trans (congrArg some (by kernel_rfl)),
 f247:=Tryz.func290.trans (congrArg some (by kernel_rfl)),
 f279:=Tryz.func291.trans (congrArg some (by kernel_rfl)),
 f280:=Tryz.func292.trans (congrArg some (by kernel_rfl)),
 f281:=Tryz.func293.trans (congrArg some (by kernel_rfl)),
 f282:=Tryz.func294.trans (congrArg some (by kernel_rfl)),
 f283:=Tryz.func168.trans (congrArg some (by kernel_rfl)),
 f284:=Tryz.func169.trans (congrArg some (by kernel_rfl)),
 f285:=Tryz.func170.trans (congrArg some (by kernel_rfl)),
 f286:=Tryz.func171.trans (congrArg some (by kernel_rfl)),
 f287:=Tryz.func312.trans (congrArg some (by kernel_rfl)),
 f316:=Tryz.func313.trans (congrArg some (by kernel_rfl)),
 f317:=Tryz.func216.trans (congrArg some (by kernel_rfl)),
 f318:=Tryz.func218.trans (congrArg some (by kernel_rfl)),
 f319:=Tryz.func219.trans (congrArg some (by kernel_rfl)),
 f320:=Tryz.func220.trans (congrArg some (by kernel_rfl)),
 f321:=Tryz.func322.trans (congrArg some (by kernel_rfl)),
 f322:=Tryz.func323.trans (congrArg some (by kernel_rfl)),
 f337:=Tryz.func252.trans (congrArg some (by kernel_rfl)),
 f338:=Tryz.func253.trans (congrArg some (by kernel_rfl)),
 t0:=Tryz.underlying0,
 a0:=Tryz.isAgg0,
 z0:=Tryz.sizeOf0,
 v0:=Tryz.zeroValue0,
 t2:=Tryz.underlying2,
 a2:=Tryz.isAgg2,
 z2:=Tryz.sizeOf2,
 v2:=Tryz.zeroValue2,
 t3:=Tryz.underlying3,
 a3:=Tryz.isAgg3,
 z3:=Tryz.sizeOf3,
 v3:=Tryz.zeroValue3,
 t4:=Tryz.underlying4,
 a4:=Tryz.isAgg4,
 z4:=Tryz.sizeOf4,
 v4:=Tryz.zeroValue4,
 t5:=Tryz.underlying5,
 a5:=Tryz.isAgg5,
 z5:=Tryz.sizeOf5,
 v5:=Tryz.zeroValue5,
 t9:=Tryz.underlying9,
 a9:=Tryz.isAgg9,
 z9:=Tryz.sizeOf9,
 v9:=Tryz.zeroValue9,
 t20:=Tryz.underlying20,
 a20:=Tryz.isAgg20,
 z20:=Tryz.sizeOf20,
 v20:=Tryz.zeroValue20,
 t21:=Tryz.underlying21,
 a21:=Tryz.isAgg21,
 z21:=Tryz.sizeOf21,
 v21:=Tryz.zeroValue21,
 t37:=Tryz.underlying89,
 a37:=Tryz.isAgg89,
 z37:=Tryz.sizeOf89,
 v37:=Tryz.zeroValue89,
 t46:=Tryz.underlying259,
 a46:=Tryz.isAgg259,
 z46:=Tryz.sizeOf259,
 v46:=Tryz.zeroValue259,
 t51:=Tryz.underlying257,
 a51:=Tryz.isAgg257,
 z51:=Tryz.sizeOf257,
 v51:=Tryz.zeroValue257,
 t53:=Tryz.underlying217,
 a53:=Tryz.isAgg217,
 z53:=Tryz.sizeOf217,
 v53:=Tryz.zeroValue217,
 t75:=Tryz.underlying95,
 a75:=Tryz.isAgg95,
 z75:=Tryz.sizeOf95,
 v75:=Tryz.zeroValue95,
 t76:=Tryz.underlying96,
 a76:=Tryz.isAgg96,
 z76:=Tryz.sizeOf96,
 v76:=Tryz.zeroValue96,
 t85:=Tryz.underlying299,
 a85:=Tryz.isAgg299,
 z85:=Tryz.sizeOf299,
 v85:=Tryz.zeroValue299,
 t127:=Tryz.underlying132,
 a127:=Tryz.isAgg132,
 z127:=Tryz.sizeOf132,
 v127:=Tryz.zeroValue132,
 t143:=Tryz.underlying320,
 a143:=Tryz.isAgg320,
 z143:=Tryz.sizeOf320,
 v143:=Tryz.zeroValue320,
 t145:=Tryz.underlying322,
 a145:=Tryz.isAgg322,
 z145:=Tryz.sizeOf322,
 v145:=Tryz.zeroValue322,
 t167:=Tryz.underlying298,
 a167:=Tryz.isAgg298,
 z167:=Tryz.sizeOf298,
 v167:=Tryz.zeroValue298,
 t168:=Tryz.underlying301,
 a168:=Tryz.isAgg301,
 z168:=Tryz.sizeOf301,
 v168:=Tryz.zeroValue301,
 t171:=Tryz.underlying216,
 a171:=Tryz.isAgg216,
 z171:=Tryz.sizeOf216,
 v171:=Tryz.zeroValue216,
 t173:=Tryz.underlying220,
 a173:=Tryz.isAgg220,
 z173:=Tryz.sizeOf220,
 v173:=Tryz.zeroValue220,
 t175:=Tryz.underlying308,
 a175:=Tryz.isAgg308,
 z175:=Tryz.sizeOf308,
 v175:=Tryz.zeroValue308,
 t210:=Tryz.underlying312,
 a210:=Tryz.isAgg312,
 z210:=Tryz.sizeOf312,
 v210:=Tryz.zeroValue312,
 t212:=Tryz.underlying256,
 a212:=Tryz.isAgg256,
 z212:=Tryz.sizeOf256,
 v212:=Tryz.zeroValue256,
 t213:=Tryz.underlying258,
 a213:=Tryz.isAgg258,
 z213:=Tryz.sizeOf258,
 t232:=Tryz.underlying287,
 a232:=Tryz.isAgg287,
 z232:=Tryz.sizeOf287,
 v232:=Tryz.zeroValue287,
 t233:=Tryz.underlying288,
 a233:=Tryz.isAgg288,
 z233:=Tryz.sizeOf288,
 v233:=Tryz.zeroValue288,
 g15:=by kernel_rfl,
 g16:=by kernel_rfl,
 g17:=by kernel_rfl,
 g18:=by kernel_rfl,
 g19:=by kernel_rfl,
 t80:=Tryz.underlying98,
 a80:=Tryz.isAgg98,
 z80:=Tryz.sizeOf98,
 v80:=Tryz.zeroValue98,
 i0:=by kernel_rfl,
 i2:=by kernel_rfl,
 i3:=by kernel_rfl,
 i4:=by kernel_rfl,
 i5:=by kernel_rfl,
 i9:=by kernel_rfl,
 i20:=by kernel_rfl,
 i21:=by kernel_rfl,
 i37:=by kernel_rfl,
 i46:=by kernel_rfl,
 i51:=by kernel_rfl,
 i53:=by kernel_rfl,
 i75:=by kernel_rfl,
 i76:=by kernel_rfl,
 i80:=by kernel_rfl,
 i85:=by kernel_rfl,
 i127:=by kernel_rfl,
 i143:=by kernel_rfl,
 i145:=by kernel_rfl,
 i167:=by kernel_rfl,
 i168:=by kernel_rfl,
 i171:=by kernel_rfl,
 i173:=by kernel_rfl,
 i175:=by kernel_rfl,
 i210:=by kernel_rfl,
 i212:=by kernel_rfl,
 i232:=by kernel_rfl,
 i233:=by kernel_rfl,
 m15:=by kernel_rfl,
 m16:=by kernel_rfl,
 m17:=by kernel_rfl,
 m18:=by kernel_rfl,
 m19:=by kernel_rfl,
 c0:=by kernel_rfl,
 c2:=by kernel_rfl,
 c3:=by kernel_rfl,
 c4:=by kernel_rfl,
 c5:=by kernel_rfl,
 c9:=by kernel_rfl,
 c20:=by kernel_rfl,
 c21:=by kernel_rfl,
 c37:=by kernel_rfl,
 c46:=by kernel_rfl,
 c51:=by kernel_rfl,
 c53:=by kernel_rfl,
 c75:=by kernel_rfl,
 c76:=by kernel_rfl,
 c80:=by kernel_rfl,
 c85:=by kernel_rfl,
 c127:=by kernel_rfl,
 c143:=by kernel_rfl,
 c145:=by kernel_rfl,
 c167:=by kernel_rfl,
 c168:=by kernel_rfl,
 c171:=by kernel_rfl,
 c173:=by kernel_rfl,
 c175:=by kernel_rfl,
 c210:=by kernel_rfl,
 c212:=by kernel_rfl,
 c213:=by kernel_rfl,
 c232:=by kernel_rfl,
 c233:=by kernel_rfl }
def Tryz.laysM171_ren:Go.Shelf.Ren:=⟨fun | 171=>46 | 243=>79 | 246=>123 | 283=>168 | 284=>169 | 285=>170 | 286=>171 | 129=>217 | 317=>216 | 318=>218 | 319=>219 | 320=>220 | 337=>252 | 338=>253 | n=>n,fun | 3=>3 | 9=>9 | 2=>2 | 4=>4 | 171=>216 | 0=>0 | 53=>217 | 37=>89 | 5=>5 | 173=>220 | 212=>256 | 51=>257 | 20=>20 | 213=>258 | 46=>259 | 232=>287 | 233=>288 | n=>n,fun | 17=>1 | 18=>3 | 19=>4 | n=>n⟩
theorem Tryz.laysM171:Go.Proofs.LaysM.n171 Tryz.prog Tryz.laysM171_ren:={
 mixed:=by kernel_rfl,
 f129:=Tryz.func217.trans (congrArg some (by kernel_rfl)),
 f171:=Tryz.func46.trans (congrArg some (by kernel_rfl)),
 f243:=Tryz.func79.trans (congrArg some (by kernel_rfl)),
 f246:=Tryz.func123.trans (congrArg some (by kernel_rfl)),
 f283:=Tryz.func168.trans (congrArg some (by kernel_rfl)),
 f284:=Tryz.func169.trans (congrArg some (by kernel_rfl)),
 f285:=Tryz.func170.trans (congrArg some (by kernel_rfl)),
 f286:=Tryz.func171.trans (congrArg some (by kernel_rfl)),
 f317:=Tryz.func216.trans (congrArg some (by kernel_rfl)),
 f318:=Tryz.func218.trans (congrArg some (by kernel_rfl)),
 f319:=Tryz.func219.trans (congrArg some (by kernel_rfl)),
 f320:=Tryz.func220.trans (congrArg some (by kernel_rfl)),
 f337:=Tryz.func252.trans (congrArg some (by kernel_rfl)),
 f338:=Tryz.func253.trans (congrArg some (by kernel_rfl)),
 t0:=Tryz.underlying0,
 a0:=Tryz.isAgg0,
 z0:=Tryz.sizeOf0,
 v0:=Tryz.zeroValue0,
 t2:=Tryz.underlying2,
 a2:=Tryz.isAgg2,
 z2:=Tryz.sizeOf2,
 v2:=Tryz.zeroValue2,
 t3:=Tryz.underlying3,
 a3:=Tryz.isAgg3,
 z3:=Tryz.sizeOf3,
 v3:=Tryz.zeroValue3,
 t4:=Tryz.underlying4,
 a4:=Tryz.isAgg4,
 z4:=Tryz.sizeOf4,
 v4:=Tryz.zeroValue4,
 t5:=Tryz.underlying5,
 a5:=Tryz.isAgg5,
 z5:=Tryz.sizeOf5,
 v5:=Tryz.zeroValue5,
 t9:=Tryz.underlying9,
 a9:=Tryz.isAgg9,
 z9:=Tryz.sizeOf9,
 v9:=Tryz.zeroValue9,
 t20:=Tryz.underlying20,
 a20:=Tryz.isAgg20,
 z20:=Tryz.sizeOf20,
 v20:=Tryz.zeroValue20,
 t37:=Tryz.underlying89,
 a37:=Tryz.isAgg89,
 z37:=Tryz.sizeOf89,
 v37:=Tryz.zeroValue89,
 t46:=Tryz.underlying259,
 a46:=Tryz.isAgg259,
 z46:=Tryz.sizeOf259,
 v46:=Tryz.zeroValue259,
 t51:=Tryz.underlying257,
 a51:=Tryz.isAgg257,
 z51:=Tryz.sizeOf257,
 v51:=Tryz.zeroValue257,
 t53:=Tryz.underlying217,
 a53:=Tryz.isAgg217,
 z53:=Tryz.sizeOf217,
 v53:=Tryz.zeroValue217,
 t171:=Tryz.underlying216,
 a171:=Tryz.isAgg216,
 z171:=Tryz.sizeOf216,
 v171:=Tryz.zeroValue216,
 t173:=Tryz.underlying220,
 a173:=Tryz.isAgg220,
 z173:=Tryz.sizeOf220,
 v173:=Tryz.zeroValue220,
 t212:=Tryz.underlying256,
 a212:=Tryz.isAgg256,
 z212:=Tryz.sizeOf256,
 v212:=Tryz.zeroValue256,
 t213:=Tryz.underlying258,
 a213:=Tryz.isAgg258,
 z213:=Tryz.sizeOf258,
 t232:=Tryz.underlying287,
 a232:=Tryz.isAgg287,
 z232:=Tryz.sizeOf287,
 v232:=Tryz.zeroValue287,
 t233:=Tryz.underlying288,
 a233:=Tryz.isAgg288,
 z233:=Tryz.sizeOf288,
 v233:=Tryz.zeroValue288,
 g17:=by kernel_rfl,
 g18:=by kernel_rfl,
 g19:=by kernel_rfl,
 i0:=by kernel_rfl,
 i2:=by kernel_rfl,
 i3:=by kernel_rfl,
 i4:=by kernel_rfl,
 i5:=by kernel_rfl,
 i9:=by kernel_rfl,
 i20:=by kernel_rfl,
 i37:=by kernel_rfl,
 i46:=by kernel_rfl,
 i51:=by kernel_rfl,
 i53:=by kernel_rfl,
 i171:=by kernel_rfl,
 i173:=by kernel_rfl,
 i212:=by kernel_rfl,
 i232:=by kernel_rfl,
 i233:=by kernel_rfl,
 m17:=by kernel_rfl,
 m18:=by kernel_rfl,
 m19:=by kernel_rfl }
end Go.Proofs
namespace Go.V
open Go Go.Proofs
theorem p_itoa (n:Int)(h0:-9223372036854775808≤n)(h1:n≤9223372036854775807):Pure X 46 [vi n] (str (Lib.itoa n)):=by
 refine Pure.of_calls (vs:=[.int .i64 n]) ⟨_,Tryz.func46,by kernel_rfl,by rfl⟩ rfl fun w hw=>?_
 obtain ⟨e,z,ht⟩:=hw.tab
 have hg:(X.P.globalNamed "internal/strconv.uint64pow10")=some 1:=by kernel_rfl
 have htab:Lib.TabIs X.P w "internal/strconv.uint64pow10" .u64 Lib.pow10Tab:=by
  unfold Lib.TabIs World.var?
  rw [hg];simp [ht]
 have h:=Any.strconv_Itoa Tryz.laysM171 n h0 h1 w htab
 refine h.mono fun e w' he=>?_
 obtain ⟨rfl,k,os,rfl⟩:=he
 refine ⟨⟨_,rfl,fun E w=>.val _⟩,rfl,rfl,rfl,?_,fun j hj=>?_⟩
 ·simp [Sort.grow,World.drewN]
 ·simp only [Sort.grow,World.drewN]
  rw [Array.getElem?_append_left hj]
def atoiN (s:List UInt8):Int:=match Lib.atoiAll s with
 | .ok v=>v
 | .range=>Lib.atoiSat s
 | _=>0
def atoiE (s:List UInt8):AV:=match Lib.atoiAll s with
 | .ok _=>.val .nilIface
 | _=>.err
theorem p_atoi (s:List UInt8)(hs:s.length≤1000000000):Pure X 248 [str s] (.tup [vi (atoiN s),atoiE s]):=by
 refine Pure.of_calls (vs:=[.string ⟨⟨s⟩⟩]) ⟨_,Tryz.func248,by kernel_rfl,by rfl⟩ rfl fun w hw=>?_
 have hsz:(⟨⟨s⟩⟩:ByteArray).size=s.length:=rfl
 have tup:∀ (a b:Value) (x:AV),(∀ E w,Rel E w b x)→∀ E w,Rel E w (.tuple #[a,b]) (.tup [.val a,x]):=fun a b x h E w=>by
  refine .tup _ _ rfl fun j v y hv hy=>?_
  match j with
  | 0=>simp at hv hy;subst hv;subst hy;exact .val _
  | 1=>simp at hv hy;subst hv;subst hy;exact h E w
  | j+2=>simp at hy
 cases h:Lib.atoiAll s with
 | ok v =>
   have hc:=Any.strconv_Atoi_ok Tryz.laysC172 ⟨⟨s⟩⟩ (by rw [hsz];omega) v h w
   refine hc.mono fun e w' he=>?_
   obtain ⟨rfl,hw'⟩:=he
   refine ⟨⟨_,rfl,?_⟩,?_⟩
   ·simp only [atoiN,atoiE,h];exact tup _ _ _ fun E w=>.val _
   ·rcases hw' with rfl | ⟨t,rfl⟩
    ·exact RowKit.Below.refl _ _
    ·exact Lib.bytesWorld_below _ _ _
 | range =>
   obtain ⟨ev,h1,h2⟩:=hw.rng
   have hc:=Any.strconv_Atoi_range Tryz.laysC172 ⟨⟨s⟩⟩ (by rw [hsz];omega) h ev w h1 h2
   refine hc.mono fun e w' he=>?_
   obtain ⟨N,rfl,_,_,hb⟩:=he
   refine ⟨⟨_,rfl,?_⟩,hb⟩
   simp only [atoiN,atoiE,h];exact tup _ _ _ fun E w=>.err _ _
 | _ =>
   obtain ⟨ev,h1,h2⟩:=hw.syn
   have hc:=Any.strconv_Atoi_syntax Tryz.laysC172 ⟨⟨s⟩⟩ (by rw [hsz];omega) h ev w h1 h2
   refine hc.mono fun e w' he=>?_
   obtain ⟨N,rfl,_,_,hb⟩:=he
   refine ⟨⟨_,rfl,?_⟩,hb⟩
   simp only [atoiN,atoiE,h];exact tup _ _ _ fun E w=>.err _ _
end Go.V
