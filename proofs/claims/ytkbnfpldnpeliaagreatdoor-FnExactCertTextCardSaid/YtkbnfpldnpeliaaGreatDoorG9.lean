/- A part of the proof of the claim that the last text states: no condition of its own. -/
import Derived.Test.YtkbnfpldnpeliaaGreatDoorG8
import Derived.Lib.UnsafeStr
import Derived.Recover
set_option linter.unusedVariables false
set_option linter.unusedSimpArgs false
namespace Go.V
open Go Go.Proofs
theorem stmtM_close {f:Nat}{r:RS}(hb:r.bad=false)(hw:r.wk)(ht:r.text=[125]):(stmtM (f+1) r).2=r.spoil:=by
 have hk:(r.kind==1)=false:=by
  by_cases h0:r.kind=0
  ·simp [h0]
  ·have hkt:=word_here hw h0
   rw [hkt,ht];decide
 have no:∀ s:List UInt8,s≠[125]→r.takes s=false:=fun s hs=>by
  rw [takes_ok hb,ht];simpa using Ne.symm hs
 have hn:r.nameR=r.spoil:=by simp [RS.nameR,RS.named,hb,hk]
 have hsb:r.spoil.bad=true:=rfl
 simp only [stmtM]
 rw [if_neg (by simp [no]),if_neg (by simp [no]),if_neg (by simp [no])]
 simp only [simpleR]
 rw [if_neg (by simp [no]),if_neg (by simp [no]),if_neg (by simp [no]),if_neg (by simp [no])]
 simp only [setR]
 rw [hn,if_neg (by simp [bad_takes hsb]),need_bad hsb]
 simp only [exprR_bad hsb]
 exact need_bad hsb _
theorem declsM_bad {f:Nat}{acc:List Nd}{r:RS}(h:r.bad=true):declsM f acc r=(acc,r):=by
 cases f with
 | zero=>rfl
 | succ f=>simp only [declsM];rw [if_neg (by simp [isDecl,bad_takes h])]
theorem ends_bad {r:RS}(h:r.bad=true):r.ends=r:=by
 simp only [RS.ends];split
 ·exact spoil_bad h
 ·rfl
def tailR (T:List Nd × RS):Nd × RS:=(.mk 40 [] 0 (T.1++[.mk 30 [] 0 (listM 5000 [] T.2).1]),(listM 5000 [] T.2).2.ends)
theorem progR_tail (r:RS):progR r=tailR (declsM 2000 [] r):=rfl
theorem tailR_bad {acc:List Nd}{r:RS}(h:r.bad=true):(tailR (acc,r)).2=r:=by
 simp only [tailR,listM_bad h];exact ends_bad h
abbrev gI:Frm:=[(0,.ptr 0 0 0),(2,.ptr 1 0 0),(3,.ptr 2 0 0)]
abbrev sI (q:RS)(e:Nat)(acc:List Nd):St:=⟨[[pc q e],[zN],[[vi 40,str [],vi 0,.sl (nrows acc) (.tok 0)]]],[acc.length]⟩
theorem i_tail (q:RS)(e:Nat)(acc:List Nd)(ho:q.ok)(hw:q.wk)(hb:q.bad=false)(hl:acc.length≤2000) :
 AK X ⟨269,Tryz.f269,1,0⟩ (locG false 13 Tryz.f269) gI (sI q e acc) (Rp (tailR (acc,q)) e):=by
 refine AK.at_ ?_
 refine AK.ev 100 rfl ?_
 have hq1:=ho.1
 have hleft:q.left≤1500:=by simp only [RS.left];omega
 generalize hT:tailR (acc,q)=T
 refine AK.mintB 3 0 3 rfl rfl rfl rfl rfl rfl ?_
 refine AK.while_ (ι:=Nat × List Nd × RS) 4 2 (fun i=>i.2.2.ok∧i.2.2.wk∧i.2.2.bad=false∧i.2.1.length+i.1≤5000∧3*i.2.2.left+2≤i.1∧T=(.mk 40 [] 0 (acc++[Nd.mk 30 [] 0 (listM i.1 i.2.1 i.2.2).1]),(listM i.1 i.2.1 i.2.2).2.ends)) (fun _=>(5,.ptr 3 0 0)::gI)
  (fun i=>⟨[[pc i.2.2 e],[zN],[[vi 40,str [],vi 0,.sl (nrows acc) (.tok 0)]],[[vi 30,str [],vi 0,.sl (nrows i.2.1) (.tok 1)]]],[acc.length,i.2.1.length]⟩) (fun i=>i.1) ?_ (5000,[],q) ⟨ho,hw,hb,by simp,by simp only;omega,hT.symm⟩ ⟨rfl,rfl,rfl,rfl,trivial⟩ rfl rfl rfl rfl rfl (fun _=>inferInstance) (fun _=>inferInstance)
 rintro ⟨n,ks,u⟩ ⟨huo,huw,hub,hlen,hfu,hTn⟩ IH
 simp only at huo huw hub hlen hfu hTn IH ⊢
 obtain ⟨m,rfl⟩:∃ m,n=m+1:=⟨n-1,by omega⟩
 have hL:listM (m+1) ks u=if !u.bad&&decide (u.at_<u.ws.length)&&!(u.text==[125]) then listM m (ks++[(stmtM m u).1]) (stmtM m u).2 else (ks,u):=by simp only [listM]
 have hu1:=huo.1
 refine AK.ev 100 rfl ?_
 refine AK.if_ (fun h=>?_) (fun h=>?_)
 ·have hlt:u.at_<u.ws.length:=by
   have h1:=of_decide_eq_true h
   rw [wrows_len,List.length_drop] at h1;omega
  have ih2:=(i_stmts m).1 u e huo huw hub (by omega) (by omega)
  by_cases ht:u.text=[125]
  ·obtain ⟨p,rfl⟩:∃ p,m=p+1:=⟨m-1,by omega⟩
   have hC:=stmtM_close (f:=p) hub huw ht
   have g2:(stmtM (p+1) u).2.bad=true:=by rw [hC];rfl
   have ihb:=ih2.bad g2
   rw [hC] at ihb
   rw [if_neg (by simp [ht])] at hL
   rw [hL] at hTn
   have he:u.ends=u.spoil:=by simp only [RS.ends];rw [if_pos hlt]
   rw [he] at hTn
   rw [hTn,Rp_bad (show u.spoil.bad=true from rfl)]
   refine AK.dnT (S1:=?S1) 3 168 3 Tryz.func269 ?hk ?hS
   case hk =>
    refine Drv.tz ?_
    exact Thr.hd [0] [] ihb
   case hS=>rfl
  ·rw [if_pos (by simp [hub,hlt,ht])] at hL
   rw [hL] at hTn
   have af:=(stmts_after m).1 u huo
   have lf:=left_after af
   by_cases g2:(stmtM m u).2.bad=false
   ·have hon:u.at_<(stmtM m u).2.at_:=by
     obtain ⟨p,rfl⟩:∃ p,m=p+1:=⟨m-1,by omega⟩
     rcases stmtM_on p huo with h | h
     ·rw [g2] at h;cases h
     ·exact h
    have hll:(stmtM m u).2.left+1≤u.left:=by
     have e1:=af.1
     have e2:=af.2.2
     simp only [RS.left,e1] at *
     omega
    refine AK.dn 168 3 ?_
    refine Drv.wl (Ndo.hd [0] [] (ih2.ok g2)) ?_ ?_
    ·exact strip_eq (Ndo.ev rfl rfl rfl) allN
    refine Drv.m ?_
    refine Drv.w (Ndo.append (res:=nrows (ks++[(stmtM m u).1])) rfl rfl rfl rfl rfl rfl rfl rfl rfl rfl rfl rfl rfl rfl (nrows_len ks) (nrows_al ks) rfl rfl rfl ?_ ?_ rfl) ?_
    ·rw [nrows_len];simp;omega
    ·rw [nrows_map,nrows_map,List.map_append];rfl
    refine Drv.e ?_
    refine Drv.w (Ndo.store rfl rfl rfl rfl rfl rfl rfl) ?_
    refine Drv.z ?_
    refine IH (m,ks++[(stmtM m u).1],(stmtM m u).2) ⟨af.ok huo,af.wk huw,g2,by simp;omega,by simp only;omega,hTn⟩ (by simp only;omega) _ _ ⟨rfl,rfl,rfl,rfl,trivial⟩ ?_ rfl rfl
    simp [St.drop,nrows_len,upd]
   ·have g2:=bad_not g2
    rw [listM_bad g2,ends_bad g2] at hTn
    rw [hTn,Rp_bad g2]
    refine AK.dnT (S1:=?S2) 3 168 3 Tryz.func269 ?hk ?hS
    case hk =>
     refine Drv.tz ?_
     exact Thr.hd [0] [] (ih2.bad g2)
    case hS=>rfl
 ·have hge:u.ws.length≤u.at_:=by
   have h1:=of_decide_eq_false h
   rw [wrows_len,List.length_drop] at h1;omega
  rw [if_neg (by simp;omega)] at hL
  rw [hL] at hTn
  have he:u.ends=u:=by simp only [RS.ends];rw [if_neg (by omega)]
  rw [he] at hTn
  rw [hTn,Rp_ok hub]
  refine AK.ev 100 rfl ?_
  refine AK.wk 62 ?_
  refine AK.op (Ndo.append (res:=nrows (acc++[Nd.mk 30 [] 0 ks])) rfl rfl rfl rfl rfl rfl rfl rfl rfl rfl rfl rfl rfl rfl (nrows_len acc) (nrows_al acc) rfl rfl rfl ?_ ?_ rfl) ?_
  ·rw [nrows_len];simp;omega
  ·rw [nrows_map acc,nrows_map (acc++_),List.map_append];rfl
  rw [nd_eq]
  refine AK.rb Tryz.func269 ?_ rfl
  rw [nrows_map]
theorem declsM_ok (f:Nat)(acc:List Nd)(r:RS):declsM (f+1) acc r=if isDecl r then declsM f (acc++[(declR r).1]) ((declR r).2.need [59]) else (acc,r):=rfl
theorem sizeR_num {q:RS}(hb:q.bad=false)(hk:q.kind=2):sizeR q=(numberS q.text,q.step):=by simp only [sizeR];rw [if_pos (by simp [hb,hk])]
theorem sizeR_ask {q:RS}(hk:q.kind≠2):sizeR q=(-1,q.need [63]):=by simp only [sizeR];rw [if_neg (by simp [hk])]
theorem sizeR_bad {q:RS}(h:q.bad=true):(sizeR q).2=q:=by simp only [sizeR];rw [if_neg (by simp [h])];exact need_bad h _
theorem Rp_tail {acc:List Nd}{q:RS}{e:Nat}(h:q.bad=true):Rp (tailR (acc,q)) e=fun ae S=>ae=.panic (pan (q.place e))∧S=⟨[[pc q e]],[]⟩:=by
 have hq:=tailR_bad (acc:=acc) h
 generalize tailR (acc,q)=T at hq ⊢
 obtain ⟨n,u⟩:=T
 simp only at hq;subst hq
 exact Rp_bad h
set_option maxHeartbeats 800000 in
theorem i_prog (r:RS)(e:Nat)(hr:r.ok)(hw:r.wk)(hb:r.bad=false):GoesI 269 (progR r) r e:=by
 refine GoesI.run Tryz.func269 ?_
 rw [progR_tail]
 generalize hTT:declsM 2000 [] r=T
 have hleft:r.left≤1500:=by have:=hr.1;simp only [RS.left];omega
 refine AK.mintB 2 0 3 rfl rfl rfl rfl rfl rfl ?_
 refine AK.while_ (ι:=Nat × List Nd × RS) 3 1 (fun i=>i.2.2.ok∧i.2.2.wk∧i.2.2.bad=false∧i.2.1.length+i.1≤2000∧i.2.2.left+1≤i.1∧T=declsM i.1 i.2.1 i.2.2) (fun _=>gI) (fun i=>sI i.2.2 e i.2.1) (fun i=>i.1) ?_ (2000,[],r)
  ⟨hr,hw,hb,by simp,by simp only;omega,hTT.symm⟩ ⟨rfl,rfl,rfl,trivial⟩ rfl rfl rfl rfl rfl (fun _=>inferInstance) (fun _=>inferInstance)
 rintro ⟨n,acc,q⟩ ⟨hq,hqw,hqb,hlen,hfu,hTn⟩ IH
 simp only at hq hqw hqb hlen hfu hTn IH ⊢
 obtain ⟨m,rfl⟩:∃ m,n=m+1:=⟨n-1,by omega⟩
 rw [declsM_ok] at hTn
 refine AK.ev 100 rfl ?_
 refine AK.hc [0] [] (i_skip q e wVar hqb (by simp)) ?_
 refine AK.if_ (fun h1=>?_) (fun h1=>?_)
 ·have h1':q.takes wVar=true:=h1
  have hD:isDecl q=true:=by simp [isDecl,h1']
  have hR:declR q=(.mk 31 q.step.name 0 [],q.step.nameR):=by simp only [declR];rw [if_pos h1']
  obtain ⟨af,hlt⟩:=declR_after hq hD
  have a:=step_after hlt
  have l1:=left_step hlt
  rw [if_pos hD,hR] at hTn
  rw [hR] at af
  simp only at hTn af
  rw [takes_step h1']
  have hsb:q.step.bad=false:=hqb
  by_cases g1:q.step.nameR.bad=false
  ·refine AK.dn 328 3 ?_
   refine Drv.wl (Ndo.hd [0] [] (i_name q.step e hsb g1)) ?_ ?_
   ·exact strip_eq (Ndo.ev rfl rfl rfl) allN
   refine Drv.e ?_
   refine Drv.mw ?_
   refine Drv.w (Ndo.append (res:=nrows (acc++[.mk 31 q.step.name 0 []])) rfl rfl rfl rfl rfl rfl rfl rfl rfl rfl rfl rfl rfl rfl (nrows_len acc) (nrows_al acc) rfl rfl rfl ?_ ?_ rfl) ?_
   ·rw [nrows_len];simp;omega
   ·rw [nrows_map acc,nrows_map (acc++_),List.map_append];rfl
   refine Drv.e ?_
   refine Drv.w (Ndo.store rfl rfl rfl rfl rfl rfl rfl) ?_
   refine Drv.z ?_
   by_cases g2:(q.step.nameR.need [59]).bad=false
   ·refine AK.hc [0] [] (i_want1 q.step.nameR e [59] (by simp) g1 g2) ?_
    have an:=af.trans (need_after (s:=[59]) (af.ok (a.ok hq)) (by simp))
    have ln:=left_after an
    have at':=a.trans an
    refine IH (m,acc++[.mk 31 q.step.name 0 []],q.step.nameR.need [59]) ⟨at'.ok hq,at'.wk hqw,g2,by simp;omega,by simp only;omega,hTn⟩ (by simp only;omega) _ _ ⟨rfl,rfl,rfl,trivial⟩ ?_ rfl rfl
    simp [St.drop,nrows_len,upd]
   ·have g2:=bad_not g2
    rw [declsM_bad g2] at hTn
    rw [hTn,Rp_tail g2]
    exact AK.tb Tryz.func269 (Thr.hd [0] [] (i_want1T q.step.nameR e [59] (by simp) g1 g2)) rfl
  ·have g1:=bad_not g1
   rw [need_bad g1,declsM_bad g1] at hTn
   rw [hTn,Rp_tail g1]
   refine AK.dnT (S1:=?S1) 3 328 3 Tryz.func269 ?hk ?hS
   case hk =>
    refine Drv.tz ?_
    exact Thr.hd [0] [] (i_nameT q.step e hsb g1)
   case hS=>rfl
 have h1':q.takes wVar=false:=h1
 rw [takes_not h1']
 refine AK.hc [0] [] (i_skip q e wArray hqb (by simp)) ?_
 refine AK.ifj 0 13 (fun h2=>?_) (fun h2=>?_)
 ·have h2':q.takes wArray=true:=h2
  have hD:isDecl q=true:=by simp [isDecl,h2']
  have hR:declR q=(.mk 32 q.step.name (sizeR (q.step.nameR.need [91])).1 [],(sizeR (q.step.nameR.need [91])).2.need [93]):=by simp only [declR];rw [if_neg (by simp [h1'])]
  obtain ⟨af,hlt⟩:=declR_after hq hD
  have a:=step_after hlt
  have l1:=left_step hlt
  rw [if_pos hD,hR] at hTn
  rw [hR] at af
  simp only at hTn af
  rw [takes_step h2']
  have hsb:q.step.bad=false:=hqb
  by_cases g1:q.step.nameR.bad=false
  ·have b:=a.trans (nameR_after (a.ok hq))
   refine AK.hc [0] [] (i_name q.step e hsb g1) ?_
   by_cases g2:(q.step.nameR.need [91]).bad=false
   ·have c:=b.trans (need_after (s:=[91]) (b.ok hq) (by simp))
    refine AK.hc [0] [] (i_want1 q.step.nameR e [91] (by simp) g1 g2) ?_
    generalize q.step.nameR.need [91]=u at g2 c hTn af ⊢
    have fin:∀ (v:Int) (u':RS),sizeR u=(v,u')→u'.bad=false→AK X ⟨269,Tryz.f269,1,0⟩ (locG false 11 Tryz.f269) ((4,.ptr 3 0 0)::gI)
     ⟨[[pc u' e],[zN],[[vi 40,str [],vi 0,.sl (nrows acc) (.tok 0)]],[[vi 32,str q.step.name,vi v,.sl [] .tight]]],[acc.length]⟩ (Rp (tailR T) e):=fun v u' hv hub=>by
     rw [hv] at hTn af
     simp only at hTn af
     rw [← need2] at hTn
     refine AK.at_ ?_
     refine AK.ev 100 rfl ?_
     by_cases g4:(u'.needs [[93],[59]]).bad=false
     ·refine AK.hc [0] [] (i_want u' e [[93],[59]] (by simp) (by simp) hub g4) ?_
      refine AK.wk 42 ?_
      refine AK.op (Ndo.append (res:=nrows (acc++[.mk 32 q.step.name v []])) rfl rfl rfl rfl rfl rfl rfl rfl rfl rfl rfl rfl rfl rfl (nrows_len acc) (nrows_al acc) rfl rfl rfl ?_ ?_ rfl) ?_
      ·rw [nrows_len];simp;omega
      ·rw [nrows_map acc,nrows_map (acc++_),List.map_append];rfl
      have an:q.step.after (u'.needs [[93],[59]]):=af.trans (need_after (s:=[59]) (af.ok (a.ok hq)) (by simp))
      have ln:=left_after an
      have at':=a.trans an
      refine IH (m,acc++[.mk 32 q.step.name v []],u'.needs [[93],[59]]) ⟨at'.ok hq,at'.wk hqw,g4,by simp;omega,by simp only;omega,hTn⟩ (by simp only;omega) _ _ ⟨rfl,rfl,rfl,trivial⟩ ?_ rfl rfl
      simp [St.drop,nrows_len,upd]
     ·have g4:=bad_not g4
      rw [declsM_bad g4] at hTn
      rw [hTn,Rp_tail g4]
      exact AK.tb Tryz.func269 (Thr.hd [0] [] (i_wantT u' e [[93],[59]] (by simp) (by simp) hub g4)) rfl
    refine AK.hc [0] [] (i_skip u e [63] g2 (by simp)) ?_
    refine AK.ifj 11 0 (fun h3=>?_) (fun h3=>?_)
    ·have h3':u.takes [63]=true:=h3
     have hk:u.kind≠2:=fun hk=>by
      have hkt:=word_here (c.wk hqw) (by omega)
      have ht:u.text=[63]:=by rw [takes_ok g2] at h3';simpa using h3'
      rw [hk,ht] at hkt;revert hkt;decide
     have hN:u.need [63]=u.step:=by simp [RS.need,h3']
     rw [takes_step h3']
     exact AK.back' 4 1 (fin (-1) u.step (by rw [sizeR_ask hk,hN]) g2) ⟨rfl,rfl,rfl,rfl,trivial⟩ rfl rfl rfl rfl rfl
    ·have h3':u.takes [63]=false:=h3
     rw [takes_not h3']
     by_cases hk:u.kind=2
     ·refine AK.hcj 11 [0] [] (i_num u e (c.wk hqw) hk) ?_
      exact AK.back' 4 1 (fin (numberS u.text) u.step (sizeR_num g2 hk) g2) ⟨rfl,rfl,rfl,rfl,trivial⟩ rfl rfl rfl rfl rfl
     ·have hs:(u.need [63]).bad=true:=by simp [RS.need,h3',RS.spoil]
      have hp:(u.need [63]).place e=u.place e:=place_need h3' e
      have hpc:pc (u.need [63]) e=pc u e:=pc_need h3' e
      rw [sizeR_ask hk] at hTn
      simp only at hTn
      rw [need_bad hs,need_bad hs,declsM_bad hs] at hTn
      rw [hTn,Rp_tail hs,hp,hpc]
      exact AK.tb Tryz.func269 (Thr.hd [0] [] (i_numT u e hk)) rfl
   ·have g2:=bad_not g2
    rw [sizeR_bad g2,need_bad g2,need_bad g2,declsM_bad g2] at hTn
    rw [hTn,Rp_tail g2]
    exact AK.tb Tryz.func269 (Thr.hd [0] [] (i_want1T q.step.nameR e [91] (by simp) g1 g2)) rfl
  ·have g1:=bad_not g1
   rw [need_bad g1,sizeR_bad g1,need_bad g1,need_bad g1,declsM_bad g1] at hTn
   rw [hTn,Rp_tail g1]
   exact AK.tb Tryz.func269 (Thr.hd [0] [] (i_nameT q.step e hsb g1)) rfl
 ·have h2':q.takes wArray=false:=h2
  rw [takes_not h2']
  rw [if_neg (by simp [isDecl,h1',h2'])] at hTn
  rw [hTn]
  exact AK.back' 3 1 (i_tail q e acc hq hqw hqb (by omega)) ⟨rfl,rfl,rfl,trivial⟩ rfl rfl rfl rfl rfl
end Go.V
namespace Go.V
open Go
section
variable {X:Cx}{B:Bx}{E:Env}{S S':St}{w:World}{F F':Frm}{a:Act}{N:Nat}{R:AE→St→Prop}{K K':List Item}
def Env.dfs (E:Env)(D:List Deferred):Env:={ E with df:=D }
theorem Rel.dfE (D:List Deferred){v:Value}{x:AV}(h:Rel E w v x):Rel (E.dfs D) w v x :=
 Rel.move (E:=E) (E':=E.dfs D) (n:=E.boxes.length) (m:=E.toks.length) (fun i _ hl=>⟨hl,fun _ h=>h⟩) (fun t _ k h=>⟨k,h,.inl rfl⟩) (fun _ _ _ _ h=>h) (fun _ _ _ h=>h) (fun _ _ h=>h) (fun _ _ _ _ _ _ _ _ _ h=>h) h h.ok
theorem Inv.dfE (D:List Deferred)(hI:Inv X E S w):Inv X (E.dfs D) S w where
 nb:=hI.nb
 nt:=hI.nt
 np:=hI.np
 box i b sz rows h1 h2:=by
  obtain ⟨cs,e,hh,hs,hl,hr⟩:=hI.box i b sz rows h1 h2
  exact ⟨cs,e,hh,hs,hl,fun k r j x v h3 h4 h5=>(hr k r j x v h3 h4 h5).dfE D⟩
 tok:=hI.tok
 bb:=hI.bb
 bt:=hI.bt
 tt:=hI.tt
 frlt:=hI.frlt
 lo:=hI.lo
 frlo:=hI.frlo
 sz:=hI.sz
 glob:=hI.glob
theorem Evol.dfE {D:List Deferred}{E':Env}{w':World}{n m:Nat}(h:Evol (E.dfs D) w E' w' n m):Evol E w (E'.dfs E.df) w' n m :=
 ⟨h.fr,h.boxes,h.toks,h.os,h.tape,h.output,h.size,h.block,h.cell,h.mt,h.own,rfl,h.ty,h.pv⟩
theorem AK.hooked (C:List Frame→Frame→Env→World→Machine→Prop)(he:Go.V.ev X B.fn.ntmps 200 K F S=(K',F',S'))
 (hc:∀ (cs:List Frame)(b:Frame)(E:Env)(w:World)(E':Env)(w':World)(st st':Machine),Steps X.P st st'→Evol E w E' w' B.n B.m→C cs b E' w' st'→C cs b E w st)
 (h:∀ (E:Env)(w:World)(a:Act)(b:Frame)(cs:List Frame),Inv X E S' w→FR E w F' a B.fn.ntmps→B.n≤S'.boxes.length→b.fn=B.f→C cs b E w (lone (b.at a K') cs w))
 (hI:Inv X E S w)(hF:FR E w F a B.fn.ntmps)(hn:B.n≤S.boxes.length)(hm:B.m≤S.toks.length){b:Frame}(hb:b.fn=B.f)(cs:List Frame):C cs b E w (lone (b.at a K) cs w):=by
 have hAK:AK X B K F S fun e _=>e=.hook C:=AK.ev 200 he fun E w a b cs hI hF hn hm hb=>.inr ⟨C,rfl,fun E w E' w' st st'=>hc cs b E w E' w' st st',h E w a b cs hI hF hn hb⟩
 rcases hAK E w a b cs hI hF hn hm hb with ⟨e,w',fr,⟨E2,S2,_,_,h3⟩,_⟩ | ⟨C',h1,_,h3⟩
 ·cases e with
  | returned v=>obtain ⟨_,_,h⟩:=h3;cases h
  | panicked ch=>cases h3
  | outgrown=>exact h3.elim
 ·cases h1;exact h3
theorem ACalls.defers {f g:FuncId}{fn:Func}{c:Code}{args caps:List AV}{o:Oper}{cl:Call}{ops:Array Oper}{i:Nat}{l:List Nat}{k:List Item}{t:Nat}(hf:X.P.funcs[f]?=some fn)(hb:fn.body=some c)(hl:args.length≤fn.ntmps)
 (he:Go.V.ev X fn.ntmps 200 [.code c] (argF 0 args) ⟨[],[]⟩=(.inRegion ops (i::l)::k,F',S'))(ho:ops[i]?=some o)(hw:wantA ops F' o=some true)(hop:o.op=.defer cl)(hcal:cl.callee=.value (.tmp t))(hca:cl.args=#[])
 (hod:o.dst=none)(ht:lk F' t=some (.fn g caps))
 (h:∀ (E:Env)(w:World)(a:Act)(b:Frame)(cs:List Frame)(us:Array Value),Inv X E S' w→FR E w F' a fn.ntmps→E.df=[⟨.fn (.func g) us,#[]⟩]→us.size=caps.length →
   (∀ (j:Nat)(v:Value)(x:AV),us[j]?=some v→caps[j]?=some x→Rel E w v x)→b.fn=f→b.kind=.normal →
   ∃ e w' fr,Done X E w 0 0 R e w'∧Comes X.P (lone (b.at a (.inRegion ops l::k)) cs w) (lone fr cs w') e∧fr.fn=f∧fr.leaving X.P w' e):ACalls X f args ⟨[],[]⟩ R:=by
 intro E w vs hdf hI hs hr cs
 let b:Frame:={ (default:Frame) with fn:=f,kind:=.normal }
 let a:Act:={ tmps:=vs++Array.replicate (fn.ntmps-vs.size) undef,defers:=[] }
 have henter:Frame.enter X.P f vs .normal=b.at a [.code c]:=by simp [Frame.enter,Frame.at,hf,hb,b,a]
 have hF:FR E w (argF 0 args) a fn.ntmps:=by
  refine ⟨by simp [a];omega,hdf.symm,fun k x hk=>?_⟩
  obtain ⟨_,h2⟩:=lk_argF args 0 k x hk
  simp only [Nat.sub_zero] at h2
  have hlt:k<vs.size:=by rw [hs];exact lt_of_get h2
  exact ⟨vs[k],by simp only [a];rw [Array.getElem?_append_left hlt];simp [hlt],hr k _ x (by simp [hlt]) h2⟩
 rw [henter]
 have:=AK.hooked (X:=X) (B:=⟨f,fn,0,0⟩) (fun cs b E w st=>E.df=[]→b.fn=f→b.kind=.normal→∃ e w' fr,Done X E w 0 0 R e w'∧Comes X.P st (lone fr cs w') e∧fr.fn=f∧fr.leaving X.P w' e) he
  (fun cs b E w E' w' st st' hst ev hC hE hb hk=>by
    obtain ⟨e,w2,fr,⟨E2,S2,d1,d2,d3⟩,k2,k3⟩:=hC (ev.df.trans hE) hb hk
    exact ⟨e,w2,fr,⟨E2,S2,d1,ev.trans d2,d3⟩,Comes.of_steps hst k2,k3⟩)
  (fun E w a b cs hI hF _ _ hE hb hk=>by
    obtain ⟨v,hv,hr⟩:=hF.rel _ _ ht
    cases hr with
    | fn _ us _ hul hur =>
      have hg:=stepG_op (P:=X.P) (b:=b) (k:=k) (cs:=cs) (w:=w) (rest:=l) ho (wanted_of hF hw)
      have hev:a.eval (.tmp t)=.func (.func g) #[] us:=by simp [Act.eval,hv]
      have hrun:(execOp a.eval o).run X.P w=.ok (.defer ⟨.fn (.func g) us,#[]⟩) w:=by
       simp [execOp,hop,resolve,hcal,hca,hev,Deferred.ofValue]
      have hfin:({ b.at a (.inRegion ops (i::l)::k) with defers:=⟨.fn (.func g) us,#[]⟩::a.defers }:Frame).finish undef=b.at { a with defers:=⟨.fn (.func g) us,#[]⟩::a.defers } (.inRegion ops l::k):=by
       have:=Frame.finish_at b { a with defers:=⟨.fn (.func g) us,#[]⟩::a.defers } ops i l k undef
       rw [ho] at this
       simp only [Option.bind_some,hod] at this
       exact this
      have hnil:a.defers=[]:=hF.nod.trans hE
      have hstep:Go.step X.P (lone (b.at a (.inRegion ops (i::l)::k)) cs w)=.next (lone (b.at { a with defers:=[⟨.fn (.func g) us,#[]⟩] } (.inRegion ops l::k)) cs w):=by
       refine step_lone_go ?_
       rw [hg]
       simp only [stepG.apply,Sem.runT_eq,hrun,GStep.bare_after]
       rw [hnil] at hfin
       rw [← hfin]
       simp only [Frame.at,hnil]
       rfl
      have hI2:=hI.dfE [⟨.fn (.func g) us,#[]⟩]
      have hF2:FR (E.dfs [⟨.fn (.func g) us,#[]⟩]) w F' { a with defers:=[⟨.fn (.func g) us,#[]⟩] } fn.ntmps :=
       ⟨hF.size,rfl,fun k x hk=>let ⟨v,h1,h2⟩:=hF.rel k x hk;⟨v,h1,h2.dfE _⟩⟩
      obtain ⟨e,w',fr,⟨E2,S2,d1,d2,d3⟩,k2,k3,k4⟩:=h _ w _ b cs us hI2 hF2 rfl hul (fun j v x hv hx=>(hur j v x hv hx).dfE _) hb hk
      refine ⟨e,w',fr,⟨E2.dfs E.df,S2,d1.dfE _,d2.dfE,?_⟩,Comes.of_steps (.one hstep) k2,k3,k4⟩
      cases e with
      | returned v=>obtain ⟨r,h1,h2⟩:=d3;exact ⟨r,h1.dfE _,h2⟩
      | panicked ch=>exact d3
      | outgrown=>exact d3)
  hI hF (Nat.zero_le _) (Nat.zero_le _) (b:=b) rfl cs
 exact this hdf rfl rfl
theorem callsD_ak {g:FuncId}{gn:Func}{c:Code}{args:List AV}{o:Oper}{cl:Call}{ops:Array Oper}{i d n:Nat}{l:List Nat}{k:List Item}{r:AV}{S2:St}{u u':FrameMode}{v0:Value}(hf:X.P.funcs[g]?=some gn)(hb:gn.body=some c)
 (hl:args.length≤gn.ntmps)(he:Go.V.ev X gn.ntmps 200 [.code c] (argF 0 args) S=(.inRegion ops (i::l)::k,F',S'))(ho:ops[i]?=some o)(hw:wantA ops F' o=some true)(hop:o.op=.call cl)(hcal:cl.callee=.builtin .recover)
 (hca:cl.args=#[])(hod:o.dst=some d)(hd:d<gn.ntmps)(hn:n=S.boxes.length)(htk:S.toks=[])
 (hrec:∀ (c0:Frame)(cs:List Frame),c0.mode=u→(match recoverD (c0::cs) with | some q=>q | none=>(.nilIface,c0::cs))=(v0,{ c0 with mode:=u' }::cs))
 (hk:AK X ⟨g,gn,n,0⟩ (.inRegion ops l::k) ((d,.val v0)::F') S' fun e S'=>e=.ret r∧S'=S2)(hdf:E.df=[])(hI:Inv X E S w){vs:Array Value}(hs:vs.size=args.length)
 (hr:∀ (j:Nat)(v:Value)(x:AV),vs[j]?=some v→args[j]?=some x→Rel E w v x) :
 CallsD X.P g vs u w fun e u2 w'=>u2=u'∧(∃ v,e=.returned v)∧∃ E',Inv X E' S2 w'∧Evol E w E' w' n 0:=by
 intro c0 cs hu
 let b:Frame:={ (default:Frame) with fn:=g,kind:=.deferred }
 let a:Act:={ tmps:=vs++Array.replicate (gn.ntmps-vs.size) undef,defers:=[] }
 have henter:Frame.enter X.P g vs .deferred=b.at a [.code c]:=by simp [Frame.enter,Frame.at,hf,hb,b,a]
 have hF:FR E w (argF 0 args) a gn.ntmps:=by
  refine ⟨by simp [a];omega,hdf.symm,fun k x hk=>?_⟩
  obtain ⟨_,h2⟩:=lk_argF args 0 k x hk
  simp only [Nat.sub_zero] at h2
  have hlt:k<vs.size:=by rw [hs];exact lt_of_get h2
  exact ⟨vs[k],by simp only [a];rw [Array.getElem?_append_left hlt];simp [hlt],hr k _ x (by simp [hlt]) h2⟩
 rw [henter]
 subst hn
 have:=AK.hooked (X:=X) (B:=⟨g,gn,S.boxes.length,0⟩) (fun cs b E w st=>E.df=[]→b.fn=g→b.kind=.deferred→b.roundOf=none→∀ (c0:Frame) (cs0:List Frame),cs=c0::cs0→c0.mode=u →
  ∃ e w' fr,((∃ v,e=.returned v)∧∃ E',Inv X E' S2 w'∧Evol E w E' w' S.boxes.length 0)∧Comes X.P st (lone fr ({ c0 with mode:=u' }::cs0) w') e∧fr.kind=.deferred∧fr.going X.P w' e) he
  (fun cs b E w E' w' st st' hst ev hC hE hb hk hr c0 cs0 hc hu=>by
    obtain ⟨e,w2,fr,⟨d1,E2,d2,d3⟩,k2,k3⟩:=hC (ev.df.trans hE) hb hk hr c0 cs0 hc hu
    exact ⟨e,w2,fr,⟨d1,E2,d2,ev.trans d3⟩,Comes.of_steps hst k2,k3⟩)
  (fun E w a b cs hI hF hn hb hE _ hkd hro c0 cs0 hcs hu=>by
    subst hcs
    have hg:=stepG_op (P:=X.P) (b:=b) (k:=k) (cs:=c0::cs0) (w:=w) (rest:=l) ho (wanted_of hF hw)
    have hrun:(execOp a.eval o).run X.P w=.ok .recover w:=by
     simp [execOp,hop,resolve,hcal,hca,invoke]
     rfl
    have hfin:∀ v,(b.at a (.inRegion ops (i::l)::k)).finish v=b.at (a.put (some d) v) (.inRegion ops l::k):=fun v=>by
     rw [Frame.finish_at,ho];simp only [Option.bind_some,hod]
    have htr:=tryRecover_deferred (fr:=b.at a (.inRegion ops (i::l)::k)) hkd (c0::cs0)
    have hstep:Go.step X.P (lone (b.at a (.inRegion ops (i::l)::k)) (c0::cs0) w)=.next (lone (b.at (a.put (some d) v0) (.inRegion ops l::k)) ({ c0 with mode:=u' }::cs0) w):=by
     refine step_lone_go ?_
     have hrec:=hrec c0 cs0 hu
     rw [hg,← hfin]
     simp only [Frame.at] at htr ⊢
     cases hR:recoverD (c0::cs0) with
     | none =>
       rw [hR] at hrec
       obtain ⟨h1,h2⟩:=Prod.mk.inj hrec
       subst h1
       rw [← h2]
       simp [stepG.apply,hrun,htr,hR,hro]
     | some q =>
       obtain ⟨q1,q2⟩:=q
       rw [hR] at hrec
       obtain ⟨h1,h2⟩:=Prod.mk.inj hrec
       subst h1;subst h2
       simp [stepG.apply,hrun,htr,hR,hro]
    have hF2:FR E w ((d,.val v0)::F') (a.put (some d) v0) gn.ntmps:=hF.put hd (.val v0)
    rcases hk E w _ b ({ c0 with mode:=u' }::cs0) hI hF2 hn (Nat.zero_le _) hb with ⟨e,w',fr,⟨E2,S3,d1,d2,d3⟩,k2,k3,k4⟩ | ⟨C,h1,_⟩
    ·cases e with
     | returned v =>
       obtain ⟨q,q1,q2,rfl⟩:=d3
       rw [hE,hkd] at k4
       obtain ⟨m1,m2,m3,m4⟩:=k4
       exact ⟨_,w',fr,⟨⟨v,rfl⟩,E2,d1,d2⟩,Comes.of_steps (.one hstep) k2,m3,m1,m2,m4⟩
     | panicked ch=>obtain ⟨h,_⟩:=d3;cases h
     | outgrown=>exact d3.elim
    ·cases h1.1)
  hI hF (Nat.le_refl _) (by rw [htk];exact Nat.le_refl _) (b:=b) rfl (c0::cs)
 obtain ⟨e,w',fr,d,k2,k3⟩:=this hdf rfl rfl rfl c0 cs rfl hu
 exact ⟨e,u',w',fr,⟨rfl,d⟩,k2,k3⟩
theorem exit_deferred {f g:FuncId}{fn:Func}{us:Array Value}{u u':FrameMode}{fr:Frame}{cs:List Frame}{xs:List AV}{r:AV}{S2:St}(hI:Inv X E S w)(hF:FR E w F a fn.ntmps)(htk:S.toks=[])(hu:u≠.run)(hm:fr.mode=u)
 (hd:fr.defers=[⟨.fn (.func g) us,#[]⟩])(htm:fr.tmps=a.tmps)(hkd:fr.kind=.normal)(hfr:fr.fn=f)(hf:X.P.funcs[f]?=some fn)(hE:Enters X.P g)(hset:settle u'=.returning)
 (hc:CallsD X.P g us u w fun e u2 w'=>u2=u'∧(∃ v,e=.returned v)∧∃ E',Inv X E' S2 w'∧Evol (E.dfs []) w E' w' S.boxes.length 0)(hres:resF X F S2 fn.results.toList=some xs)(hr0:retA xs=r)(hz:Ok 0 0 r) :
 ∃ e w' fr',Done X E w 0 0 (fun e S=>e=.ret r∧S=⟨[],[]⟩) e w'∧Comes X.P (lone fr cs w) (lone fr' cs w') e∧fr'.fn=f∧fr'.leaving X.P w' e:=by
 subst hr0
 have hle:Leaves X.P fn fr.tmps (fun e w'=>Done X E w 0 0 (fun e S=>e=.ret (retA xs)∧S=⟨[],[]⟩) e w') [⟨.fn (.func g) us,#[]⟩] u w:=by
  obtain ⟨gn,hgn,hname,hbody⟩:=hE
  have hi:(invoke (.fn (.func g) us) #[]).run X.P w=.ok (.enter g us) w:=by
   have hne:¬ (gn.name = "runtime.NumGoroutine"):=fun h=>by rw [h] at hname;simp at hname
   simp [invoke,callFunc,hgn,hne,hbody]
   intro hbn;rw [hbn] at hbody;cases hbody
  refine leaves_cons hu hi (hc.mono fun e u2 w' h=>?_)
  obtain ⟨rfl,⟨v,rfl⟩,E2,h2,h3⟩:=h
  have nt:E.toks.length=0:=by have:=hI.nt;rw [htk] at this;simpa using congrArg List.length this
  have ev:Evol (E.dfs []) w E2 w' E.boxes.length E.toks.length:=by rw [nt,hI.nb];exact h3
  have hF2:FR E2 w' F { a with defers:=E2.df } fn.ntmps:=⟨hF.size,rfl,fun k x hk=>let ⟨v,q1,q2⟩:=hF.rel k x hk;⟨v,q1,(q2.dfE []).step ev⟩⟩
  obtain ⟨v',q1,q2⟩:=results_sound h2 hF2 hres
  show Leaves X.P fn fr.tmps _ [] (settle u2) w'
  rw [hset]
  refine ⟨v',by rw [htm];exact q1,(E2.drop 0 0).dfs E.df,⟨[],[]⟩,?_,?_,retA xs,?_,rfl,rfl⟩
  ·have:=(h2.drop (n:=0) (m:=0) (fun rows hr=>by simp at hr)).dfE E.df
   simpa [St.drop] using this
  ·exact ((h3.weaken (Nat.zero_le _) (Nat.zero_le _)).trans (Evol.drop E2 w' 0 0)).dfE
  ·exact (q2.drop hz).dfE _
 obtain ⟨e,w',fr',h1,h2,h3,h4⟩:=leaves_steps [⟨.fn (.func g) us,#[]⟩] u w fr cs hm hd rfl (by rw [hfr];exact hf) hkd hle
 exact ⟨e,w',fr',h1,h2,h3.trans hfr,h4⟩
def DefC (X:Cx)(f g:FuncId)(us:Array Value)(caps:List AV)(R:AE→St→Prop):List Frame→Frame→Env→World→Machine→Prop:=fun cs b E w st =>
 E.df=[⟨.fn (.func g) us,#[]⟩]→(∀ (j:Nat) (v:Value) (x:AV),us[j]?=some v→caps[j]?=some x→Rel E w v x)→b.fn=f→b.kind=.normal →
  ∃ e w' fr,Done X E w 0 0 R e w'∧Comes X.P st (lone fr cs w') e∧fr.fn=f∧fr.leaving X.P w' e
theorem DefC.closed {f g:FuncId}{us:Array Value}{caps:List AV}{n m:Nat}(hcap:∀ x,x∈caps→Ok n m x)(cs:List Frame)(b:Frame)(E:Env)(w:World)(E':Env)(w':World)(st st':Machine)(hs:Steps X.P st st')(ev:Evol E w E' w' n m)
 (h:DefC X f g us caps R cs b E' w' st'):DefC X f g us caps R cs b E w st:=fun hd hu hb hk=>by
 obtain ⟨e,w2,fr,⟨E2,S2,d1,d2,d3⟩,k2,k3⟩:=h (ev.df.trans hd) (fun j v x hv hx=>(hu j v x hv hx).mono ev (hcap x (List.mem_of_getElem? hx))) hb hk
 exact ⟨e,w2,fr,⟨E2,S2,d1,(ev.weaken (Nat.zero_le _) (Nat.zero_le _)).trans d2,d3⟩,Comes.of_steps hs k2,k3⟩
theorem ACalls.defer {f g:FuncId}{fn:Func}{c:Code}{args caps:List AV}{o:Oper}{cl:Call}{ops:Array Oper}{i n:Nat}{l:List Nat}{k:List Item}{t:Nat}(hf:X.P.funcs[f]?=some fn)
 (h:∀ us:Array Value,us.size=caps.length→AK X ⟨f,fn,n,0⟩ (.inRegion ops l::k) F' S' fun e _=>e=.hook (DefC X f g us caps R))(hb:fn.body=some c:=by rfl)(hl:Nat.ble args.length fn.ntmps=true:=by rfl)
 (he:Go.V.ev X fn.ntmps 200 [.code c] (argF 0 args) ⟨[],[]⟩=(.inRegion ops (i::l)::k,F',S'):=by rfl)(ho:ops[i]?=some o:=by rfl)(hw:wantA ops F' o=some true:=by rfl)(hop:o.op=.defer cl:=by rfl)
 (hcal:cl.callee=.value (.tmp t):=by rfl)(hca:cl.args=#[]:=by rfl)(hod:o.dst=none:=by rfl)(ht:lk F' t=some (.fn g caps):=by rfl)(hn:lenK S'.boxes=n:=by rfl) [hcap:OKL n 0 caps]:ACalls X f args ⟨[],[]⟩ R:=by
 refine ACalls.defers hf hb (Nat.le_of_ble_eq_true hl) he ho hw hop hcal hca hod ht fun E w a b cs us hI hF hdf hul hur hbf hbk=>?_
 rw [← lenK_eq] at *
 rcases h us hul E w a b cs hI hF (by rw [← hn,← lenK_eq];exact Nat.le_refl _) (Nat.zero_le _) hbf with ⟨e,w',fr,⟨E2,S2,_,_,h3⟩,_⟩ | ⟨C',h1,_,h3⟩
 ·cases e with
  | returned v=>obtain ⟨_,_,h⟩:=h3;cases h
  | panicked ch=>cases h3
  | outgrown=>exact h3.elim
 ·cases h1;exact h3 hdf hur hbf hbk
def DefOk (X:Cx)(g:FuncId)(caps:List AV)(S:St)(u u':FrameMode)(S2:St):Prop :=
 Enters X.P g∧∀ (E:Env) (w:World) (us:Array Value),E.df=[]→Inv X E S w→us.size=caps.length→(∀ (j:Nat) (v:Value) (x:AV),us[j]?=some v→caps[j]?=some x→Rel E w v x) →
  CallsD X.P g us u w fun e u2 w'=>u2=u'∧(∃ v,e=.returned v)∧∃ E',Inv X E' S2 w'∧Evol E w E' w' S.boxes.length 0
theorem DefOk.run {g:FuncId}{gn:Func}{c:Code}{caps:List AV}{o:Oper}{cl:Call}{ops:Array Oper}{i d n:Nat}{l:List Nat}{k:List Item}{r:AV}{bx:List (List (List AV))}{S2:St}{u u':FrameMode}{v0:Value}(hf:X.P.funcs[g]?=some gn)
 (hrec:∀ (c0:Frame)(cs:List Frame),c0.mode=u→(match recoverD (c0::cs) with | some q=>q | none=>(.nilIface,c0::cs))=(v0,{ c0 with mode:=u' }::cs))
 (hk:AK X ⟨g,gn,n,0⟩ (.inRegion ops l::k) ((d,.val v0)::F') S' fun e S'=>e=.ret r∧S'=S2)(hn:lenK bx=n:=by rfl)(hb:gn.body=some c:=by rfl)(hl:Nat.ble caps.length gn.ntmps=true:=by rfl)
 (hnm:(gn.name == "runtime.NumGoroutine")=false:=by kernel_rfl)(he:Go.V.ev X gn.ntmps 200 [.code c] (argF 0 caps) ⟨bx,[]⟩=(.inRegion ops (i::l)::k,F',S'):=by rfl)(ho:ops[i]?=some o:=by rfl)(hw:wantA ops F' o=some true:=by rfl)(hop:o.op=.call cl:=by rfl)(hcal:cl.callee=.builtin .recover:=by rfl)
 (hca:cl.args=#[]:=by rfl)(hod:o.dst=some d:=by rfl)(hd:Nat.blt d gn.ntmps=true:=by rfl):DefOk X g caps ⟨bx,[]⟩ u u' S2:=by
 subst hn
 rw [lenK_eq] at hk
 exact ⟨⟨gn,hf,hnm,by rw [hb];rfl⟩,fun E w us hdf hI hs hr=>callsD_ak hf hb (Nat.le_of_ble_eq_true hl) he ho hw hop hcal hca hod (by simpa [Nat.blt_eq] using hd) rfl rfl hrec hk hdf hI hs hr⟩
theorem AK.outD {f g:FuncId}{fn:Func}{n:Nat}{us:Array Value}{caps:List AV}{bx:List (List (List AV))}{u u':FrameMode}{xs:List AV}{r:AV}{S2:St}(hus:us.size=caps.length)(hf:X.P.funcs[f]?=some fn)(hcap:∀ x,x∈caps→Ok n 0 x)(hu:u≠.run)
 (hset:settle u'=.returning)(hD:DefOk X g caps ⟨bx,[]⟩ u u' S2)(hres:resF X F S2 fn.results.toList=some xs)(hr0:retA xs=r)(hz:Ok 0 0 r)
 (h:∀ (E:Env)(w:World)(a:Act)(b:Frame)(cs:List Frame),Inv X E S w→FR E w F a fn.ntmps→b.fn=f→∃ E' w' fr,Inv X E' ⟨bx,[]⟩ w'∧Evol E w E' w' E.boxes.length E.toks.length∧fr.fn=b.fn∧fr.mode=u∧fr.defers=a.defers∧fr.tmps=a.tmps∧fr.kind=b.kind ∧
   Steps X.P (lone (b.at a K) cs w) (lone fr cs w')):AK X ⟨f,fn,n,0⟩ K F S fun e _=>e=.hook (DefC X f g us caps fun e S=>e=.ret r∧S=⟨[],[]⟩):=by
 intro E w a b cs hI hF hn hm hb
 refine .inr ⟨_,rfl,fun E w E' w' st st' hs ev h=>DefC.closed hcap cs b E w E' w' st st' hs ev h,fun hdf hur hbf hbk=>?_⟩
 obtain ⟨E',w',fr,h1,h2,h3,h4,h5,h6,h7,h8⟩:=h E w a b cs hI hF hb
 have hF':FR E' w' F a fn.ntmps:=hF.step h2
 obtain ⟨hE,hc⟩:=hD
 have hcall:=hc (E'.dfs []) w' us rfl (h1.dfE []) hus (fun j v x hv hx=>((hur j v x hv hx).step h2).dfE [])
 obtain ⟨e,w2,fr2,⟨E3,S3,d1,d2,d3⟩,k2,k3,k4⟩:=exit_deferred (cs:=cs) h1 hF' rfl hu h4 (by rw [h5];exact hF.nod.trans hdf) h6 (h7.trans hbk) (h3.trans hbf) hf hE hset hcall hres hr0 hz
 exact ⟨e,w2,fr2,⟨E3,S3,d1,(h2.weaken (Nat.zero_le _) (Nat.zero_le _)).trans d2,d3⟩,Comes.of_steps h8 k2,k3,k4⟩
theorem AK.retD {f g:FuncId}{fn:Func}{n:Nat}{us:Array Value}{caps:List AV}{bx:List (List (List AV))}{k:List Item}{xs:List AV}{r:AV}{S2:St}(hus:us.size=caps.length)(hf:X.P.funcs[f]?=some fn)(hD:DefOk X g caps ⟨bx,[]⟩ .returning .returning S2)
 (hres:resF X F S2 fn.results.toList=some xs:=by rfl)(hr0:retA xs=r:=by rfl) [hz:OK 0 0 r] [hcap:OKL n 0 caps](hS:S=⟨bx,[]⟩:=by rfl) :
 AK X ⟨f,fn,n,0⟩ (.code .ret::k) F S fun e _=>e=.hook (DefC X f g us caps fun e S=>e=.ret r∧S=⟨[],[]⟩) :=
 AK.outD hus hf hcap.ok (by simp) rfl hD hres hr0 hz.ok fun E w a b cs hI hF hb=>⟨E,w,{ b.at a (.code .ret::k) with mode:=.returning },by rw [← hS];exact hI,Evol.refl _ _ _ _,rfl,rfl,rfl,rfl,rfl,.one step_ret⟩
theorem AK.thrD {f g:FuncId}{fn:Func}{n:Nat}{us:Array Value}{caps:List AV}{bx:List (List (List AV))}{k:List Item}{l:List Nat}{ops:Array Oper}{i:Nat}{o:Oper}{xs:List AV}{r:AV}{S2:St}{ch:List PanicEntry}{u':FrameMode}(hus:us.size=caps.length)
 (hf:X.P.funcs[f]?=some fn)(ht:Thr X fn.ntmps ops i o F S ch ⟨bx,[]⟩)(hset:settle u'=.returning)(hD:DefOk X g caps ⟨bx,[]⟩ (.panicking ch) u' S2)(hres:resF X F S2 fn.results.toList=some xs:=by rfl)(hr0:retA xs=r:=by rfl) [hz:OK 0 0 r] [hcap:OKL n 0 caps] :
 AK X ⟨f,fn,n,0⟩ (.inRegion ops (i::l)::k) F S fun e _=>e=.hook (DefC X f g us caps fun e S=>e=.ret r∧S=⟨[],[]⟩) :=
 AK.outD hus hf hcap.ok (by simp) hset hD hres hr0 hz.ok fun E w a b cs hI hF hb=>ht F E w a (fun _ _=>rfl) hI hF b k cs l
theorem Ndo.assertT {ops:Array Oper}{i:Nat}{o:Oper}{p:Operand}{xt t:TypeId}{v:Value}{x:AV}{td:TypeDesc}(htd:X.P.underlying t=some td)(hni:∀ ms,td≠.interface ms)(hv:∀ (E:Env)(w:World),Rel E w v x)(ho:ops[i]?=some o:=by rfl)
 (hw:wantA ops F o=some true:=by rfl)(hop:o.op=.typeAssert p xt t true:=by rfl)(hp:opr X F p=some (.val (.iface t v)):=by rfl):Ndo X N ops i o F (.tup [x,.val (.bool true)]) S S:=by
 refine Ndo.val ho hw fun F' E w a hc hI hF=>?_
 rw [hop] at hc
 have r1:=opr_sound hI hF ((hc p (by simp [Op.operands])).trans hp)
 generalize hx:a.eval p=y at r1
 cases r1
 refine ⟨.tuple #[v,.bool true],?_,.tup _ _ rfl fun j u z hu hz=>?_⟩
 ·cases td with
  | interface ms=>exact absurd rfl (hni ms)
  | _=>simp [execOp,hop,hx,Instr.typeAssert,run_underlying htd]
 ·cases j with
  | zero=>simp at hu hz;subst hu;subst hz;exact hv E w
  | succ j=>cases j with
    | zero=>simp at hu hz;subst hu;subst hz;exact .val _
    | succ j=>simp at hz
theorem Ndo.neNil {ops:Array Oper}{i:Nat}{o:Oper}{p:Operand}{t t':TypeId}(hu:X.P.underlying t=some (.interface (X.P.methodsAt t)))(ho:ops[i]?=some o:=by rfl)(hw:wantA ops F o=some true:=by rfl)(hop:o.op=.binOp .neq t p (.const .nilIface) t':=by rfl)
 (hp:opr X F p=some (.val .nilIface):=by rfl):Ndo X N ops i o F (.val (.bool false)) S S:=by
 refine Ndo.val ho hw fun F' E w a hc hI hF=>?_
 rw [hop] at hc
 have r1:=opr_sound hI hF ((hc p (by simp [Op.operands])).trans hp)
 generalize hx:a.eval p=x at r1
 cases r1
 exact ⟨.bool false,by simp [execOp,hop,hx,show a.eval (.const .nilIface)=.nilIface from rfl,eqGuard,run_neq_nil_nil w t hu],.val _⟩
theorem Ndo.neHeld {ops:Array Oper}{i:Nat}{o:Oper}{p:Operand}{t t' u:TypeId}{v:Value}(hu:X.P.underlying t=some (.interface (X.P.methodsAt t)))(ho:ops[i]?=some o:=by rfl)(hw:wantA ops F o=some true:=by rfl)(hop:o.op=.binOp .neq t p (.const .nilIface) t':=by rfl)
 (hp:opr X F p=some (.val (.iface u v)):=by rfl):Ndo X N ops i o F (.val (.bool true)) S S:=by
 refine Ndo.val ho hw fun F' E w a hc hI hF=>?_
 rw [hop] at hc
 have r1:=opr_sound hI hF ((hc p (by simp [Op.operands])).trans hp)
 generalize hx:a.eval p=x at r1
 cases r1
 exact ⟨.bool true,by simp [execOp,hop,hx,show a.eval (.const .nilIface)=.nilIface from rfl,eqGuard,run_neq_held_nil w t u v hu],.val _⟩
end
end Go.V
namespace Go.V
open Go Go.Proofs
theorem q_depth (n:Nd)(hn:countN n≤4000000000):Pure X 261 [nd n] (vi (depthN n)):=by
 induction n using Nd.ind with
 | h n ih =>
 refine Pure.run Tryz.func261 ?_
 have hc:=countN_eq n
 have hll:=length_le_countL n.kids
 have hd:=depth_le_count n
 rw [depthN_eq] at hd ⊢
 refine AK.while_ (ι:=Nat) 1 0 (fun i=>i≤n.kids.length) (fun i=>[(9,vi i),(8,vi n.kids.length),(7,.sl (nrows n.kids) .no),(3,vi (depthL (n.kids.take i):Nat))]) (fun _=>⟨[[ncells n]],[]⟩) (fun i=>n.kids.length-i) ?_ 0 (Nat.zero_le _)
  ⟨rfl,by rw [← nrows_len];rfl,rfl,rfl,trivial⟩ rfl rfl rfl rfl rfl (fun _=>inferInstance) (fun _=>inferInstance)
 intro i hi IH
 refine AK.ev 100 rfl ?_
 refine AK.if_ (fun h=>?_) (fun h=>?_)
 ·have hlt:i<n.kids.length:=by have:=of_decide_eq_true h;omega
  obtain ⟨kid,hkid⟩:=lget_of_lt n.kids hlt
  have hsn:=depthL_snoc hkid
  have hcs:=countL_snoc hkid
  have hle:=countL_le (l:=n.kids) (i:=i+1)
  refine AK.ix i (by omega) (nrows_get hkid) ?_
  refine AK.pc (ih kid (List.mem_of_getElem? hkid) (by omega)) ?_
  refine IH (i+1) hlt (by omega) _ _ ⟨vint ((wrap_small (by omega) (by omega)).trans (by omega)),rfl,rfl,vint ?_,trivial⟩ rfl rfl rfl
  split<;>omega
 ·have:i=n.kids.length:=by have:=of_decide_eq_false h;omega
  subst this
  refine AK.rt Tryz.func261 ?_
  rw [List.take_length]
  exact congrArg (fun x=>AV.val (.int .i64 x)) ((wrap_small (by omega) (by omega)).trans (by omega))
theorem q_count (n:Nd)(hn:countN n≤4000000000):Pure X 260 [nd n] (vi (countN n)):=t1 n hn
def largeN (n:Nd):Bool:=decide (500<countN n∨24<depthN n)
theorem q_isLarge (n:Nd)(hn:countN n≤4000000000):Pure X 235 [nd n] (vb (largeN n)):=by
 refine Pure.run Tryz.func235 ?_
 refine AK.pc (q_count n hn) ?_
 refine AK.gd (fun h=>?_) (fun h=>?_)
 ·have h':500<countN n:=by have:=of_decide_eq_true h;omega
  refine AK.rz Tryz.func235 ?_
  simp [largeN,h']
 ·have h':¬ 500<countN n:=by have:=of_decide_eq_false h;omega
  refine AK.pc (q_depth n hn) ?_
  refine AK.rz Tryz.func235 ?_
  simp [largeN,h']
  omega
theorem under20:X.P.underlying 20=some (.interface (X.P.methodsAt 20)):=by kernel_rfl
theorem def_good (x:AV)(u:RS)(e:Nat)(n:Nd)(i:Int):DefOk X 283 [.ptr 0 0 0,.ptr 1 0 0] ⟨[[ncells n],[[vi i]],[pc u e]],[]⟩ .returning .returning ⟨[[ncells n],[[vi i]],[pc u e]],[]⟩:=by
 refine DefOk.run Tryz.func283 (r:=.tup []) (v0:=.nilIface) (fun c0 cs h=>by simp [recoverD,h];obtain ⟨_,_,_,_,_,_,_⟩:=c0;simp at h;subst h;rfl) ?_
 refine AK.ev 100 rfl ?_
 refine AK.op (Ndo.neNil under20) ?_
 refine AK.no ?_
 exact AK.fb Tryz.func283 rfl rfl
theorem def_bad (u:RS)(e p:Nat):DefOk X 283 [.ptr 0 0 0,.ptr 1 0 0] ⟨[[zN],[[vi 0]],[pc u e]],[]⟩ (.panicking (pan p)) (.panicking [{ v:=.iface 294 (.agg ⟨[.int .i64 p]⟩),recovered:=true }]) ⟨[[zN],[[vi p]],[pc u e]],[]⟩:=by
 obtain ⟨d,hd,hk⟩:=(X.ty_ok 294 _ rfl).agg
 obtain ⟨fields,rfl,_⟩:=hk
 refine DefOk.run Tryz.func283 (r:=.tup []) (v0:=.iface 294 (.agg ⟨[.int .i64 p]⟩)) (fun c0 cs h=>by simp [recoverD,h,pan]) ?_
 refine AK.ev 100 rfl ?_
 refine AK.op (Ndo.neHeld under20) ?_
 refine AK.yes ?_
 refine AK.op (Ndo.assertT (x:=.agg [vi p]) hd (by simp) (fun E w=>.agg _ _ rfl fun j v x hv hx=>?_)) ?_
 ·cases j with
  | zero=>simp at hv hx;subst hv;subst hx;exact .val _
  | succ j=>simp at hx
 refine AK.no ?_
 refine AK.db 24 ?_
 refine Drv.wl (Ndo.store rfl rfl rfl rfl rfl rfl rfl) ?_ ?_
 ·exact strip_eq (Ndo.ev rfl rfl rfl) allN
 refine Drv.w (Ndo.store rfl rfl rfl rfl rfl rfl rfl) ?_
 refine Drv.z ?_
 exact AK.fb Tryz.func283 rfl rfl
theorem Pure.less {X:Cx}{f:FuncId}{args:List AV}{r y:AV}(h:Pure X f args r) [hw:RinC [] [] r y]:Pure X f args y:=by
 refine ⟨h.1,fun E w vs hd hI hs hr=>(h.2 E w vs hd hI hs hr).mono fun e w' he=>?_⟩
 obtain ⟨E1,S1,d1,d2,d3⟩:=he
 cases e with
 | returned v =>
   obtain ⟨r',hr',hre,rfl⟩:=d3
   cases hre
   exact ⟨E1,_,d1,d2,y,hw.s.less hr',rfl,rfl⟩
 | panicked ch=>obtain ⟨h,_⟩:=d3;cases h
 | outgrown=>exact d3.elim
def readT (r:RS)(e:Nat):Nd × Int:=if (progR r).2.bad then (nd0,(progR r).2.place e) else ((progR r).1,-1)
theorem progR_end {r:RS}(h:(progR r).2.bad=false):(progR r).2.ws.length≤(progR r).2.at_:=by
 simp only [progR,RS.ends] at h ⊢
 split at h
 ·simp [RS.spoil] at h
 ·rename_i hn
  rw [if_neg hn];omega
theorem q_read (ws:List Wd)(e:Nat)(ho:(RS.mk ws 0 false).ok)(hw:(RS.mk ws 0 false).wk) :
 Pure X 268 [.sl (wrows ws) .no,vi e,.fn 269 []] (.tup [nd (readT ⟨ws,0,false⟩ e).1,vi (readT ⟨ws,0,false⟩ e).2]):=by
 have hp:=i_prog ⟨ws,0,false⟩ e ho hw rfl
 have he:=progR_end (r:=⟨ws,0,false⟩)
 unfold readT
 generalize progR ⟨ws,0,false⟩=T at hp he ⊢
 obtain ⟨n,q⟩:=T
 simp only at hp he ⊢
 by_cases g:q.bad=false
 ·rw [if_neg (by simp [g])]
  have he:=he g
  refine ⟨⟨_,Tryz.func268,by kernel_rfl,rfl⟩,ACalls.defer (g:=283) (caps:=[.ptr 0 0 0,.ptr 1 0 0]) (n:=2) Tryz.func268 fun us hus=>?_⟩
  refine AK.ev 100 rfl ?_
  refine AK.as_ 8 (.ptr 2 0 0) ?_
  refine AK.as_ 15 (.ptr 2 0 0) ?_
  refine AK.hc [2] [] (hp.ok g) ?_
  refine AK.no ?_ (ht:=by rw [wrows_len,List.length_drop];simp;omega)
  exact AK.retD hus Tryz.func268 (def_good .junk q e n (-1))
 ·have g:=bad_not g
  rw [if_pos (by simp [g])]
  have:Pure X 268 [.sl (wrows ws) .no,vi e,.fn 269 []] (.tup [.agg zN,vi (q.place e)]):=by
   refine ⟨⟨_,Tryz.func268,by kernel_rfl,rfl⟩,ACalls.defer (g:=283) (caps:=[.ptr 0 0 0,.ptr 1 0 0]) (n:=2) Tryz.func268 fun us hus=>?_⟩
   refine AK.ev 100 rfl ?_
   refine AK.as_ 15 (.ptr 2 0 0) ?_
   exact AK.thrD hus Tryz.func268 (Thr.hd [2] [] (hp.bad g)) rfl (def_bad q e (q.place e))
  exact Pure.less this
theorem wordsG_at:∀ (f a:Nat)(r:List UInt8)(out:List Wd),(wordsG f a r out).2.1=0→(wordsG f a r out).2.2=0
 | 0,a,r,out,h=>rfl
 | f+1,a,[],out,h=>rfl
 | f+1,a,c::l,out,h=>by
   simp only [wordsG] at h ⊢
   split at h
   ·simp at h
   ·rename_i h1
    rw [if_neg h1]
    split at h
    ·simp at h
    ·rename_i h2
     rw [if_neg h2]
     exact wordsG_at f _ _ _ h
theorem wordsS_at {s:List UInt8}(h:(wordsS s).2.1=0):(wordsS s).2.2=0:=by
 unfold wordsS at h ⊢
 split at h
 ·simp at h
 ·rename_i h1
  rw [if_neg h1]
  exact wordsG_at _ _ _ _ h
theorem q_parse (s:List UInt8)(hs:s.length≤900000000):Pure X 238 [str s] (.tup [nd (parseS s).1,.agg [vi (parseS s).2.1,vi (parseS s).2.2]]):=by
 have hw:Pure X 267 [str s] (.tup [.sl (wrows (wordsS s).1) .no,.agg [vi (wordsS s).2.1,vi (wordsS s).2.2]]):=q_words s hs
 have hat:=wordsS_at (s:=s)
 have ho:=rs0_ok s
 have hk:=rs0_wk s
 have hgood:=progR_good ho hk
 have hP:parseS s=if (wordsS s).2.1=0 then
  (if (progR ⟨(wordsS s).1,0,false⟩).2.bad then (nd0,4,((progR ⟨(wordsS s).1,0,false⟩).2.place s.length:Int))
  else if 500<countN (progR ⟨(wordsS s).1,0,false⟩).1∨24<depthN (progR ⟨(wordsS s).1,0,false⟩).1 then (nd0,5,0) else ((progR ⟨(wordsS s).1,0,false⟩).1,0,0))
  else (nd0,(wordsS s).2.1,((wordsS s).2.2:Int)):=rfl
 rw [hP]
 simp only [rs0] at ho hk hgood
 generalize wordsS s=T at hw hat ho hk hgood ⊢
 obtain ⟨ws,c,at_⟩:=T
 simp only at hw hat ho hk hgood ⊢
 have hfl:flatTy X.P 182=some [0,0]:=by kernel_rfl
 refine Pure.run Tryz.func238 ?_
 refine AK.pc hw ?_
 refine AK.op (Ndo.eqs (r:=!((c==0)&&(((at_:Int)==0)&&true))) rfl rfl rfl rfl rfl hfl rfl (.inr ⟨rfl,rfl⟩)) ?_
 refine AK.if_ (fun h=>?_) (fun h=>?_)
 ·have h':c≠0:=by
   intro h0
   have:=hat h0
   simp [h0,this] at h
  rw [if_neg h']
  refine AK.db 12 ?_
  refine Drv.wl (Ndo.store rfl rfl rfl rfl rfl rfl rfl) ?_ ?_
  ·exact strip_eq (Ndo.ev rfl rfl rfl) allN
  refine Drv.w (Ndo.store rfl rfl rfl rfl rfl rfl rfl) ?_
  refine Drv.z ?_
  refine AK.rz Tryz.func238 ?_
  rfl
 have h':c=0:=by simp at h;exact h.1
 rw [if_pos h']
 have hR:=q_read ws s.length ho hk
 unfold readT at hR
 generalize progR ⟨ws,0,false⟩=q at hR hgood ⊢
 obtain ⟨n,u⟩:=q
 simp only at hR hgood ⊢
 by_cases g:u.bad=true
 ·rw [if_pos g] at hR
  rw [if_pos g]
  refine AK.pc hR ?_
  refine AK.yes ?_ (ht:=by simp)
  refine AK.rz Tryz.func238 ?_
  rfl
 ·rw [if_neg g] at hR
  rw [if_neg g]
  have g':u.bad=false:=by simpa using g
  obtain ⟨g1,g2,g3⟩:=hgood g'
  have hl0:=ho.1
  simp only at hl0 g2
  have hc:countN n≤4000000000:=by omega
  refine AK.pc hR ?_
  refine AK.no ?_
  refine AK.pc (q_isLarge n hc) ?_
  refine AK.if_ (fun h2=>?_) (fun h2=>?_)
  ·have h2':500<countN n∨24<depthN n:=by simpa [largeN] using h2
   rw [if_pos h2']
   refine AK.rz Tryz.func238 ?_
   rfl
  ·have h2':¬ (500<countN n∨24<depthN n):=by simpa [largeN] using h2
   rw [if_neg h2']
   refine AK.rz Tryz.func238 ?_
   rfl
end Go.V
namespace Go.V
open Go
section
variable {X:Cx}{B:Bx}{E:Env}{S:St}{w:World}{F:Frm}{a:Act}{N:Nat}{ops:Array Oper}{i:Nat}{o:Oper}
def u8s (s:List UInt8):List Value:=s.map fun b=>.int .u8 b.toNat
theorem u8s_len (s:List UInt8):(u8s s).length=s.length:=by simp [u8s]
theorem u8s_get {s:List UInt8}{j:Nat}{x:UInt8}(h:s[j]?=some x):(u8s s)[j]?=some (.int .u8 x.toNat):=by simp [u8s,h]
theorem u8s_at {s:List UInt8}{j:Nat}{v:Value}(h:(u8s s)[j]?=some v):∃ x,s[j]?=some x∧v=.int .u8 x.toNat:=by
 simp only [u8s,List.getElem?_map] at h
 cases hs:s[j]? with
 | none=>simp [hs] at h
 | some x=>simp [hs] at h;exact ⟨x,rfl,h.symm⟩
theorem src_str {tx:TypeId}(hk:X.P.underlying tx=some .string)(s:List UInt8):Src X.P 1 tx (.string ⟨⟨s⟩⟩) s.length (u8s s) w:=by
 have:=Src.ofString (P:=X.P) w hk ⟨⟨s⟩⟩
 exact this
theorem set_same {l:List Nat}{t x:Nat}(h:l[t]?=some x):l.set t x=l:=by
 apply List.ext_getElem?
 intro j
 rw [List.getElem?_set]
 split
 ·rename_i hj;subst hj
  split
  ·exact h.symm
  ·rename_i hl;exact absurd (lt_of_get h) hl
 ·rfl
theorem appbuf_src (hI:Inv X E S w){t:Nat}{tt tx ty te:TypeId}{ye:Ty}(hu:X.P.underlying tt=some (.slice te))(hye:X.ty te=some ye)(h1:ye.size=1)
 {s s':List UInt8}{u x:Value}(hsrc:Src X.P 1 tx x s'.length (u8s s') w)(hp:Rel E w u (.buf te s t))(hS:S.toks[t]?=some s.length)(hb:s.length+s'.length≤100000000000) :
 ∃ r E' w',(Builtin.append_ #[tt,tx] ty #[u,x]).run X.P w=.ok r w'∧Inv X E' ⟨S.boxes,S.toks.set t (s.length+s'.length)⟩ w'∧Evol E w E' w' E.boxes.length E.toks.length ∧
  Rel E' w' r (.buf te (s++s') t):=by
 obtain ⟨i,z,hi,hsz,hby,hzv,hzc,hzl,_⟩:=(X.ty_ok te ye hye).info
 rw [h1] at hsz hzl
 rw [← hsz] at hsrc
 cases hp with
 | buf _ _ _ a cap k hk1 hk2 hx hs hc =>
 have hkl:k.len=s.length:=by
  have h1:=hI.nt
  have h2:(E.toks.map Tk.len)[t]?=some k.len:=by simp [hk1]
  rw [h1,hS] at h2
  exact (Option.some.inj h2).symm
 have hba:=hs hkl.symm
 by_cases h0:s'=[]
 ·subst h0
  refine ⟨.slice a s.length cap,E,w,?_,?_,Evol.refl _ _ _ _,?_⟩
  ·have hn:s.length+0≤cap:=hc
   have hl:(Builtin.lenOf x).run X.P w=.ok 0 w:=hsrc.len w
   have hf:(Builtin.firstCells i.size 0 x).run X.P w=.ok #[] w:=hsrc.cells
   rcases hsrc.kind with ⟨e',hk⟩ | hk
   all_goals cases a with
   | none=>simp [Builtin.append_,run_underlying hu,run_underlying hk,sizeOf,typeInfo,hi,hl,hf,hc]
   | some a=>simp [Builtin.append_,run_underlying hu,run_underlying hk,sizeOf,typeInfo,hi,hl,hf,hc,storeCells]
  ·rw [show s.length+([]:List UInt8).length=s.length from rfl,set_same hS];exact hI
  ·rw [List.append_nil];exact .buf te s t a cap k hk1 hk2 hx hs hc
 have hnew:0<s'.length:=List.length_pos_iff.2 h0
 have hlen:(s++s').length=s.length+s'.length:=by simp
 by_cases hg:cap<s.length+s'.length
 ·have hold:(Builtin.firstCells i.size s.length (.slice a s.length cap)).run X.P w.drew=.ok (u8s s).toArray w.drew:=by
   rcases Nat.eq_zero_or_pos s.length with h0 | h0
   ·have hs0:s=[]:=List.length_eq_zero_iff.1 h0
    rw [h0,hs0]
    cases a with
    | none=>exact run_firstCells_none _ _ _ _ _
    | some a0=>exact run_firstCells_some _ _ _ _ _ _ _ (by simp [u8s]) (fun j v hj=>by simp [u8s] at hj)
   ·unfold BufAt at hba
    split at hba
    ·rw [hba.1] at h0;simp at h0
    ·obtain ⟨rfl,rfl,rfl,q4,q5,q6⟩:=hba
     refine run_firstCells_some _ _ _ _ _ _ _ (by rw [u8s_len,hsz,Nat.mul_one]) (fun q v hq=>?_)
     obtain ⟨x,hx,rfl⟩:=u8s_at hq
     rw [addr_add,Nat.zero_add]
     exact q6 q x hx
  have hby':(s.length+s'.length)*i.bytes≤140737488355328:=Nat.le_trans (Nat.mul_le_mul_left _ hby) (by omega)
  have hrun:=run_append_grow_src w tt tx ty te i z hu hi hzv a s.length cap _ hold x s'.length _ hsrc hg (by omega) (growslice_fits hg hby')
  have hcc:=grownCap_ge w (s.length+s'.length) cap te
  generalize grownCap w (s.length+s'.length) cap te=cc at hrun hcc
  have hcs:((u8s s++u8s s').toArray++Builtin.zeroCells z.cells (cc-(s.length+s'.length))).size=cc*1:=by
   have hzs:z.cells.size=1:=by rw [← hzl,← hzc];simp
   have:(Builtin.zeroCells z.cells (cc-(s.length+s'.length))).size=(cc-(s.length+s'.length))*1:=by
    simp [Builtin.zeroCells,hzs]
   rw [Array.size_append,this,List.size_toArray,List.length_append,u8s_len,u8s_len]
   omega
  have hpush:∀ o:Obj,(w.drew.alloc o).heap=w.heap.push o:=fun _=>rfl
  obtain ⟨ev,hI',hmt⟩:=tok_step (w':=w.drew.alloc (.cells ((u8s s++u8s s').toArray++Builtin.zeroCells z.cells (cc-(s.length+s'.length))) te)) hI (t:=t) (n:=s.length) (m:=s.length+s'.length)
   (b:=w.heap.size) (c:=cc) (sz:=1) hk1 hkl (by omega) (fun _=>hcc) rfl rfl rfl (by rw [hpush];simp) (fun q hq _=>by rw [hpush,Array.getElem?_push_lt hq];simp [hq]) (.inl rfl) (by rw [hpush];simp)
   (fun o v _ h=>by have:=cell_lt h;omega) ⟨_,te,by rw [hpush];simp,fun _=>hcs⟩ (Evol.push (E:=E) (w:=w) ⟨_,hpush _⟩ rfl rfl rfl 0 0).ty
  refine ⟨_,_,_,hrun,hI',ev,?_⟩
  have hkt:=lt_of_get hk1
  have hheap:(w.drew.alloc (.cells ((u8s s++u8s s').toArray++Builtin.zeroCells z.cells (cc-(s.length+s'.length))) te)).heap[w.heap.size]? =
   some (.cells ((u8s s++u8s s').toArray++Builtin.zeroCells z.cells (cc-(s.length+s'.length))) te (0,0)):=by rw [hpush];simp
  refine (fun hsl:∀ n,n=(s++s').length→Rel (E.setTok t ⟨s.length+s'.length,some (w.heap.size,cc,1)⟩) (w.drew.alloc (.cells ((u8s s++u8s s').toArray++Builtin.zeroCells z.cells (cc-(s.length+s'.length))) te)) (.slice (some ⟨w.heap.size,0,none⟩) n cc) (.buf te (s++s') t)=>hsl _ hlen.symm) ?_
  rintro n rfl
  refine .buf te (s++s') t _ cc ⟨s.length+s'.length,some (w.heap.size,cc,1)⟩ (by simp [Env.setTok,hkt]) (by rw [hlen];exact Nat.le_refl _) (by unfold maxN;omega) (fun _=>?_) (by omega)
  refine ⟨rfl,rfl,rfl,by simp only [typeAt,hheap],fun j hj=>hmt j (by omega),fun j x hx=>?_⟩
  have hj:=lt_of_get hx
  simp only [World.cell?,hheap]
  rw [Array.getElem?_append_left (by simp [u8s_len];omega),List.getElem?_toArray]
  rw [show u8s s++u8s s'=u8s (s++s') by simp [u8s]]
  exact u8s_get hx
 ·obtain ⟨kl,ksp⟩:=k
  cases ksp with
  | none=>simp only [BufAt] at hba;omega
  | some q =>
    obtain ⟨b',c',s1⟩:=q
    simp only [BufAt] at hba
    simp only at hkl
    obtain ⟨rfl,rfl,rfl,q4,q5,q6⟩:=hba
    subst hkl
    obtain ⟨h1,h00,cur,te',hh,hcs⟩:=hI.tok t _ b' cap 1 hk1
    have h1:=h1 (by decide)
    have hcs:=hcs (by decide)
    have hte:te'=te:=by simpa [typeAt,hh] using q4
    subst hte
    have hfit:s.length*i.size+(u8s s').length≤cur.size:=by rw [u8s_len,hcs,hsz];omega
    have hrun:=run_append_at tt tx ty te' i hu hi b' s.length cap x s'.length _ hsrc (by omega) hh hfit
    rw [hsz,Nat.mul_one] at hrun hfit
    have hl':=u8s_len s'
    have hat:=setRow_heap w b' cur (cur.toList.take s.length++u8s s'++cur.toList.drop (s.length+(u8s s').length)).toArray te' _ hh
    have hoth:∀ q,q≠b'→(w.setRow b' (cur.toList.take s.length++u8s s'++cur.toList.drop (s.length+(u8s s').length)).toArray).heap[q]?=w.heap[q]? :=
     fun q hq=>setRow_other w b' q _ (by omega)
    have hspl:=fun q=>splice_get cur.toList (u8s s') s.length q (by simpa using hfit)
    have hsp1:∀ q,q<s.length→(cur.toList.take s.length++u8s s'++cur.toList.drop (s.length+(u8s s').length))[q]?=cur.toList[q]?:=fun q h=>by
     rw [hspl,if_neg (by omega)]
    have hsp2:∀ q,s.length≤q→q<s.length+(u8s s').length→(cur.toList.take s.length++u8s s'++cur.toList.drop (s.length+(u8s s').length))[q]?=(u8s s')[q-s.length]?:=fun q h1 h2=>by
     rw [hspl,if_pos ⟨h1,h2⟩]
    have hbw:b'<w.heap.size:=hI.own_lt (.inr ⟨t,_,cap,1,hk1⟩)
    obtain ⟨ev,hI',hmt⟩:=tok_step (w':=w.setRow b' (cur.toList.take s.length++u8s s'++cur.toList.drop (s.length+(u8s s').length)).toArray) hI (t:=t) (n:=s.length) (m:=s.length+s'.length)
     (b:=b') (c:=cap) (sz:=1) hk1 rfl (by omega) (fun _=>by omega) rfl rfl rfl (by simp) (fun q _ hq=>hoth q hq) (.inr rfl) (by simpa using hbw)
     (fun o v ho h=>by
       simp only [World.cell?,hh] at h
       simp only [World.cell?,hat,List.getElem?_toArray]
       rw [hsp1 o (by omega)]
       simpa using h)
     ⟨_,_,hat,fun _=>by rw [List.size_toArray,splice_len _ _ _ (by simpa using hfit)];simpa using hcs⟩
     (fun q e he=>typeAt_same (fun h=>by subst h;exact ⟨_,_,_,_,hh,hat⟩) (hoth q) he)
    refine ⟨_,_,_,hrun,hI',ev,?_⟩
    have hkt:=lt_of_get hk1
    refine (fun hsl:∀ n,n=(s++s').length→Rel (E.setTok t ⟨s.length+s'.length,some (b',cap,1)⟩) (w.setRow b' (cur.toList.take s.length++u8s s'++cur.toList.drop (s.length+(u8s s').length)).toArray) (.slice (some ⟨b',0,none⟩) n cap) (.buf te' (s++s') t)=>hsl _ hlen.symm) ?_
    rintro n rfl
    refine .buf te' (s++s') t _ cap ⟨s.length+s'.length,some (b',cap,1)⟩ (by simp [Env.setTok,hkt]) (by rw [hlen];exact Nat.le_refl _) (by unfold maxN;omega) (fun _=>?_) (by omega)
    refine ⟨rfl,rfl,rfl,ev.ty _ _ q4,fun j hj=>hmt j (by omega),fun j x hx=>?_⟩
    have hj:=lt_of_get hx
    by_cases hjs:j<s.length
    ·rw [List.getElem?_append_left hjs] at hx
     exact ev.cell _ _ _ (q5 j hjs) (q6 j x hx)
    ·rw [List.getElem?_append_right (by omega)] at hx
     simp only [World.cell?,hat,List.getElem?_toArray]
     rw [hsp2 j (by omega) (by omega)]
     exact u8s_get hx
theorem Ndo.apps {c:Call}{p q:Operand}{t tt tx te:Nat}{y yx ye:Ty}{s s':List UInt8}{tk:List Nat}(ho:ops[i]?=some o)(hw:wantA ops F o=some true)(hop:o.op=.call c)(hcal:c.callee=.builtin .append)(hargs:c.args.toList=[p,q])
 (htys:c.argTypes.toList=[tt,tx])(hp:opr X F p=some (.buf te s t))(hq:opr X F q=some (str s'))(hy:X.ty tt=some y)(hyk:y.k=.slc te)(hye:X.ty te=some ye)(h1:ye.size=1)(hyx:X.ty tx=some yx)(hyxk:yx.k=.string)
 (hS:S.toks[t]?=some s.length)(hb:s.length+s'.length≤100000000000)(htk:S.toks.set t (s.length+s'.length)=tk):Ndo X N ops i o F (.buf te (s++s') t) S ⟨S.boxes,tk⟩:=by
 subst htk
 intro F' E w a hlk hI hF
 obtain ⟨callee,args,argTypes⟩:=c
 simp only at hcal hargs htys
 subst hcal
 have ha:args=#[p,q]:=by rw [← Array.toList_inj];exact hargs
 have ht:argTypes=#[tt,tx]:=by rw [← Array.toList_inj];exact htys
 subst ha;subst ht
 have hlo:=looks_of hlk
 rw [hop] at hlo
 have r1:=opr_sound hI hF ((opr_congr (X:=X) (F:=F) (F':=F') (o:=p) fun s hs=>hlo s (by simp [Op.operands,Call.operands,hs])).trans hp)
 have r2:=opr_sound hI hF ((opr_congr (X:=X) (F:=F) (F':=F') (o:=q) fun s hs=>hlo s (by simp [Op.operands,Call.operands,hs])).trans hq)
 obtain ⟨d1,hd1,hk1⟩:=(X.ty_ok tt y hy).agg
 simp only [hyk] at hk1
 obtain ⟨rfl,ye',hye',hne0⟩:=hk1
 obtain ⟨d2,hd2,hk2⟩:=(X.ty_ok tx yx hyx).agg
 simp only [hyxk] at hk2
 subst hk2
 generalize hv:a.eval q=v at r2
 cases r2
 obtain ⟨v,E',w',g1,g2,g3,g4⟩:=appbuf_src hI (ty:=o.type) hd1 hye h1 (src_str hd2 s') r1 hS hb
 exact Does.val ho (wanted_of hF (by rw [wantA_congr hlk];exact hw)) (by simp [execOp,hop,resolve,invoke,builtin,hv,g1]) (.inl rfl) ⟨E',g2,g3,g4⟩
theorem Ndo.blen {c:Call}{p:Operand}{te t tt:Nat}{s:List UInt8}{y:Ty}{e:Nat}(ho:ops[i]?=some o:=by rfl)(hw:wantA ops F o=some true:=by rfl)(hop:o.op=.call c:=by rfl)(hcal:c.callee=.builtin .len:=by rfl)(hargs:c.args=#[p]:=by rfl)
 (htys:c.argTypes=#[tt]:=by rfl)(hp:opr X F p=some (.buf te s t):=by rfl)(hy:X.ty tt=some y:=by rfl)(hyk:y.k=.slc e:=by rfl):Ndo X N ops i o F (.val (.int .i64 s.length)) S S:=by
 refine Ndo.val ho hw fun F' E w a hc hI hF=>?_
 rw [hop] at hc
 simp only [Op.operands,Call.operands,hcal,hargs,Array.toList_append,List.mem_append] at hc
 have r1:=opr_sound hI hF ((hc p (.inr (by simp))).trans hp)
 obtain ⟨d,hd,hk⟩:=(X.ty_ok tt y hy).agg
 simp only [hyk] at hk
 obtain ⟨rfl,_⟩:=hk
 generalize hv:a.eval p=v at r1
 cases r1
 exact ⟨_,by simp [execOp,hop,resolve,hcal,hargs,htys,hv,invoke,builtin,Builtin.len_,run_underlying hd,goInt],.val _⟩
theorem BufAt.nil {te:Nat}{k:Tk}{p:Option Addr}{cap:Nat}(h:BufAt E w te [] k p cap)(hc:cap=0)(hI:Inv X E S w){t:Nat}(hk:E.toks[t]?=some k):p=none:=by
 unfold BufAt at h
 split at h
 ·exact h.2.2
 ·rename_i b c sz hsp
  obtain ⟨kl,ksp⟩:=k
  simp only at hsp
  subst hsp
  obtain ⟨h1,h2,_⟩:=hI.tok _ _ _ _ _ hk
  have:=h1 (by rw [h.2.2.1];decide)
  have:=h.1
  omega
theorem Ndo.bdata {c:Call}{p:Operand}{te t:Nat}{s:List UInt8}(hS:S.toks[t]?=some s.length)(ho:ops[i]?=some o:=by rfl)(hw:wantA ops F o=some true:=by rfl)(hop:o.op=.call c:=by rfl)(hcal:c.callee=.builtin .unsafeSliceData:=by rfl)(hargs:c.args=#[p]:=by rfl)
 (hp:opr X F p=some (.buf te s t):=by rfl):Ndo X N ops i o F (.dat te s t) S S:=by
 refine Ndo.val ho hw fun F' E w a hc hI hF=>?_
 rw [hop] at hc
 simp only [Op.operands,Call.operands,hcal,hargs,Array.toList_append,List.mem_append] at hc
 have r1:=opr_sound hI hF ((hc p (.inr (by simp))).trans hp)
 generalize hv:a.eval p=v at r1
 cases r1 with
 | buf _ _ _ ad cap k hk1 hk2 hx hs hcp =>
 have hkl:k.len=s.length:=by
  have h1:=hI.nt
  have h2:(E.toks.map Tk.len)[t]?=some k.len:=by simp [hk1]
  rw [h1,hS] at h2
  exact (Option.some.inj h2).symm
 have hba:=hs hkl.symm
 refine ⟨.pointer ad,?_,.dat te s t ad k hk1 hk2 fun _ _=>⟨cap,hba⟩⟩
 have hrun:(Builtin.unsafeSliceData_ c.argTypes o.type #[.slice ad s.length cap]).run X.P w=.ok (.pointer ad) w:=by
  cases ad with
  | none=>rfl
  | some ad =>
    refine Lib.run_unsafeSliceData_row w _ _ ad s.length cap fun h0=>?_
    have hs0:s=[]:=by rw [h0] at hcp;exact List.length_eq_zero_iff.1 (by omega)
    subst hs0
    have:=hba.nil h0 hI hk1
    cases this
 simp [execOp,hop,resolve,hcal,hargs,hv,invoke,builtin,hrun]
theorem freeze_at (w:World)(ad:Addr)(n q:Nat):(w.freeze ad n).heap[q]?=w.heap[q]?∨∃ cs e z z',w.heap[q]?=some (.cells cs e z)∧(w.freeze ad n).heap[q]?=some (.cells cs e z'):=by
 unfold World.freeze
 by_cases hn:n=0
 ·simp [hn]
 ·simp only [hn,if_false]
  rw [Array.getElem?_modify]
  by_cases hq:ad.block=q
  ·rw [if_pos hq]
   cases hh:w.heap[q]? with
   | none=>exact .inl rfl
   | some ob=>cases ob with
     | cells cs e z=>exact .inr ⟨cs,e,z,_,rfl,rfl⟩
     | _=>exact .inl rfl
  ·rw [if_neg hq];exact .inl rfl
theorem typeAt_freeze (w:World)(ad:Addr)(n:Nat){q:Nat}{e:TypeId}(h:typeAt w q=some e):typeAt (w.freeze ad n) q=some e:=by
 unfold typeAt at *
 rcases freeze_at w ad n q with h1 | ⟨cs,e',z,z',h1,h2⟩
 ·rw [h1];exact h
 ·rw [h1] at h;rw [h2];exact h
theorem freeze_other (w:World)(ad:Addr)(n q:Nat)(h:q≠ad.block):(w.freeze ad n).heap[q]?=w.heap[q]?:=by
 unfold World.freeze
 by_cases hn:n=0
 ·simp [hn]
 ·simp only [hn,if_false]
  rw [Array.getElem?_modify,if_neg (fun he=>h he.symm)]
theorem freeze_cell (w:World)(ad p:Addr)(n:Nat):(w.freeze ad n).cell? p=w.cell? p:=by
 unfold World.cell?
 rcases freeze_at w ad n p.block with h1 | ⟨cs,e',z,z',h1,h2⟩
 ·rw [h1]
 ·rw [h1,h2]
theorem freeze_size (w:World)(ad:Addr)(n:Nat):(w.freeze ad n).heap.size=w.heap.size:=by
 unfold World.freeze
 by_cases hn:n=0
 ·simp [hn]
 ·simp [hn]
theorem burn (hI:Inv X E S w){t l:Nat}{k:Tk}{w':World}(hk:E.toks[t]?=some k)(hkl:k.len=l)(hos:w'.os=w.os)(htp:w'.tape=w.tape)(hout:w'.output=w.output)(hsize:w'.heap.size=w.heap.size)
 (hoth:∀ q,(∀ c sz,k.sp≠some (q,c,sz))→w'.heap[q]?=w.heap[q]?)(hcell:∀ p,w'.cell? p=w.cell? p)(hty:∀ q e,typeAt w q=some e→typeAt w' q=some e) :
 Evol E w (E.setTok t ⟨l+1,none⟩) w' E.boxes.length E.toks.length∧Inv X (E.setTok t ⟨l+1,none⟩) ⟨S.boxes,S.toks.set t (l+1)⟩ w':=by
 subst hkl
 have hkt:=lt_of_get hk
 have htok:∀ {q l b c sz:Nat},(E.setTok t ⟨k.len+1,none⟩).toks[q]?=some (Tk.mk l (some (b,c,sz)))→E.toks[q]?=some (Tk.mk l (some (b,c,sz)))∧q≠t:=fun {q l b c sz} h=>by
  rcases get_set h with ⟨_,h⟩ | ⟨hq,h⟩
  ·cases h
  ·exact ⟨h,hq⟩
 have hown:∀ q,(E.setTok t ⟨k.len+1,none⟩).own q→E.own q:=fun q h=>by
  rcases h with h | ⟨i,l,c,s,h⟩
  ·exact .inl h
  ·exact .inr ⟨i,l,c,s,(htok h).1⟩
 have hmt:∀ q o,(E.setTok t ⟨k.len+1,none⟩).mt q o→E.mt q o:=fun q o h=>by
  rcases h with h | h | ⟨i,l,c,s,h,h'⟩
  ·exact .inl h
  ·exact .inr (.inl h)
  ·exact .inr (.inr ⟨i,l,c,s,(htok h).1,h'⟩)
 have hfar:∀ q,¬ E.own q→w'.heap[q]?=w.heap[q]?:=fun q hq=>hoth q fun c sz he=>hq (.inr ⟨t,k.len,c,sz,by rw [hk];obtain ⟨kl,ks⟩:=k;simp only at he;subst he;rfl⟩)
 have ev:Evol E w (E.setTok t ⟨k.len+1,none⟩) w' E.boxes.length E.toks.length:=by
  refine ⟨rfl,fun _ _ h=>⟨h,fun _ h=>h⟩,fun q hq k' hk'=>?_,hos,htp,hout,by rw [hsize];exact Nat.le_refl _,fun q _ hq=>hfar q hq,fun b o v _ hc=>by rw [hcell];exact hc,fun b o _ h=>hmt b o h,fun b _ h=>hown b h,rfl,hty,fun q _ k' b1 c1 g1 g2 g3 o ho=>?_⟩
  by_cases hqt:q=t
  ·subst hqt
   rw [hk] at hk';cases hk'
   exact ⟨⟨k.len+1,none⟩,by simp [Env.setTok,hkt],.inr (Nat.lt_succ_self _)⟩
  ·exact ⟨k',by simp only [Env.setTok];rw [List.getElem?_set_ne (by omega)];exact hk',.inl rfl⟩
  ·obtain ⟨kl',ksp'⟩:=k'
   simp only at g2;subst g2
   rw [hoth b1 fun c' sz' he=>?_]
   ·exact ho
   ·have hqt:=hI.tt q t b1 kl' c1 0 k.len c' sz' g1 (by rw [hk];obtain ⟨kl,ks⟩:=k;simp only at he;subst he;rfl)
    subst hqt
    have:=(htok g3).2
    exact this rfl
 refine ⟨ev,?_⟩
 exact {
  nb:=hI.nb
  nt:=by simp only [Env.setTok,List.map_set,hI.nt]
  np:=hI.np
  box:=fun i b sz rows h1 h2=>by
   obtain ⟨cs,e,hh,hs,hl,hr⟩:=hI.box i b sz rows h1 h2
   have:w'.heap[b]?=w.heap[b]?:=hoth b fun c sz' he=>hI.bt i t b sz k.len c sz' h1 (by rw [hk];obtain ⟨kl,ks⟩:=k;simp only at he;subst he;rfl)
   exact ⟨cs,e,by rw [this];exact hh,hs,hl,fun k r j x v h3 h4 h5=>(hr k r j x v h3 h4 h5).step ev⟩
  tok:=fun q l b c sz h=>by
   obtain ⟨h1,hq⟩:=htok h
   obtain ⟨h2,h3,cs,e,hh,hs⟩:=hI.tok q l b c sz h1
   have:w'.heap[b]?=w.heap[b]?:=hoth b fun c' sz' he=>hq (hI.tt q t b l c sz k.len c' sz' h1 (by rw [hk];obtain ⟨kl,ks⟩:=k;simp only at he;subst he;rfl))
   exact ⟨h2,h3,cs,e,by rw [this];exact hh,hs⟩
  bb:=hI.bb
  bt:=fun i q b s l c sz h1 h2=>hI.bt i q b s l c sz h1 (htok h2).1
  tt:=fun i j b l c s l' c' s' h1 h2=>hI.tt i j b l c s l' c' s' (htok h1).1 (htok h2).1
  frlt:=fun b o h=>⟨fun h'=>(hI.frlt b o h).1 (hown b h'),by rw [hsize];exact (hI.frlt b o h).2⟩
  lo:=fun b h=>hI.lo b (hown b h)
  frlo:=hI.frlo
  sz:=by rw [hsize];exact hI.sz
  glob:=X.glob_st w w' (fun q hq=>hfar q fun h=>by have:=hI.lo q h;omega) hI.sz hos hI.glob }
theorem Ndo.ustr {c:Call}{p q:Operand}{te t:Nat}{s:List UInt8}{pt it:TypeId}{tk:List Nat}(hte:X.P.cellsOf te=1)(hpt:X.P.underlying pt=some (.pointer te))(hS:S.toks[t]?=some s.length)(hb:s.length≤100000000000)
 (htk:S.toks.set t (s.length+1)=tk)(ho:ops[i]?=some o:=by rfl)(hw:wantA ops F o=some true:=by rfl)(hop:o.op=.call c:=by rfl)(hcal:c.callee=.builtin .unsafeString:=by rfl)(hargs:c.args=#[p,q]:=by rfl)(htys:c.argTypes=#[pt,it]:=by rfl)
 (hp:opr X F p=some (.dat te s t):=by rfl)(hq:opr X F q=some (.val (.int .i64 s.length)):=by rfl):Ndo X N ops i o F (str s) S ⟨S.boxes,tk⟩:=by
 subst htk
 intro F' E w a hlk hI hF
 have hlo:=looks_of hlk
 rw [hop] at hlo
 simp only [Op.operands,Call.operands,hcal,hargs,Array.toList_append,List.mem_append] at hlo
 have r1:=opr_sound hI hF ((opr_congr (X:=X) (F:=F) (F':=F') (o:=p) fun s hs=>hlo s (.inr (by simp [hs]))).trans hp)
 have r2:=opr_sound hI hF ((opr_congr (X:=X) (F:=F) (F':=F') (o:=q) fun s hs=>hlo s (.inr (by simp [hs]))).trans hq)
 generalize hu:a.eval p=u at r1
 generalize hv:a.eval q=v at r2
 cases r2
 cases r1 with
 | dat _ _ _ ad k hk1 hk2 hs =>
 have hkl:k.len=s.length:=by
  have h1:=hI.nt
  have h2:(E.toks.map Tk.len)[t]?=some k.len:=by simp [hk1]
  rw [h1,hS] at h2
  exact (Option.some.inj h2).symm
 have fin:∀ w',(Builtin.unsafeString_ #[pt,it] o.type #[.pointer ad,.int .i64 s.length]).run X.P w=.ok (.string ⟨⟨s⟩⟩) w'→w'.os=w.os→w'.tape=w.tape→w'.output=w.output→w'.heap.size=w.heap.size →
  (∀ q,(∀ c sz,k.sp≠some (q,c,sz))→w'.heap[q]?=w.heap[q]?)→(∀ p,w'.cell? p=w.cell? p)→(∀ q e,typeAt w q=some e→typeAt w' q=some e) →
  Does X ops i a w fun v w'=>∃ E',Inv X E' ⟨S.boxes,S.toks.set t (s.length+1)⟩ w'∧Evol E w E' w' E.boxes.length E.toks.length∧Rel E' w' v (str s):=fun w' hr h1 h2 h3 h4 h5 h6 h7=>by
  obtain ⟨ev,hI'⟩:=burn hI hk1 hkl h1 h2 h3 h4 h5 h6 h7
  exact Does.val ho (wanted_of hF (by rw [wantA_congr hlk];exact hw)) (by simp [execOp,hop,resolve,hcal,hargs,htys,hu,hv,invoke,builtin,hr]) (.inl rfl) ⟨_,hI',ev,.val _⟩
 by_cases h0:s=[]
 ·subst h0
  exact fin w (Lib.run_unsafeString_none w pt it o.type ad) rfl rfl rfl rfl (fun _ _=>rfl) (fun _=>rfl) (fun _ _ h=>h)
 ·obtain ⟨cap,hba⟩:=hs hkl.symm h0
  unfold BufAt at hba
  split at hba
  ·exact absurd hba.1 h0
  ·rename_i b cc sz hsp
   obtain ⟨rfl,rfl,rfl,q4,q5,q6⟩:=hba
   obtain ⟨kl,ksp⟩:=k
   simp only at hsp hkl
   subst hsp;subst hkl
   obtain ⟨g1,g2,cur,te',hh,hcs⟩:=hI.tok t _ b cap 1 hk1
   have g1:=g1 (by decide)
   have hcs:=hcs (by decide)
   have hte':te'=te:=by simpa [typeAt,hh] using q4
   subst hte'
   have hsh:w.shape? b=some (te',cur.size):=by simp [World.shape?,hh]
   refine fin (w.freeze ⟨b,0,none⟩ s.length) (Lib.run_unsafeString_row w pt it o.type te' hpt hte b cur.size hsh s h0 (by omega) (by omega) (fun j x hx=>?_)) ?_ ?_ ?_ (freeze_size _ _ _) (fun q hq=>freeze_other _ _ _ _ fun he=>hq cap 1 (by rw [he])) (fun p=>freeze_cell _ _ _ _)
    (fun q e h=>typeAt_freeze _ _ _ h)
   ·rw [addr_add,Nat.zero_add];exact q6 j x hx
   ·unfold World.freeze;split<;>rfl
   ·unfold World.freeze;split<;>rfl
   ·unfold World.freeze;split<;>rfl
end
section
variable {X:Cx}{B:Bx}{E:Env}{S:St}{w:World}{F:Frm}{a:Act}{N:Nat}{ops:Array Oper}{i:Nat}{o:Oper}
theorem ofVal_inj {u v:Value}(h:ofVal u=ofVal v):u=v:=by
 unfold ofVal at h
 split at h<;>split at h
 ·rfl
 ·cases h
 ·cases h
 ·cases h;rfl
theorem ofVals_inj:∀ {l l':List Value},l.map ofVal=l'.map ofVal→l=l'
 | [],[],_=>rfl
 | [],_::_,h=>by simp at h
 | _::_,[],h=>by simp at h
 | x::l,y::l',h=>by
   simp only [List.map_cons,List.cons.injEq] at h
   rw [ofVal_inj h.1,ofVals_inj h.2]
theorem Inv.recell (hI:Inv X E S w){b:Nat}{rows rows':List (List AV)}(hS:S.boxes[b]?=some rows)(hl:rows'.length=rows.length)(hll:∀ r,r∈rows'→∃ r0,r0∈rows∧r.length=r0.length)
 (hr:∀ (blk sz:Nat)(cs:Array Value)(te:TypeId),E.boxes[b]?=some (some (blk,sz))→w.heap[blk]?=some (.cells cs te (0,0))→∀ (k:Nat)(r:List AV)(j:Nat)(x:AV)(v:Value),rows'[k]?=some r→r[j]?=some x→cs[k*sz+j]?=some v→Rel E w v x) :
 Inv X E ⟨S.boxes.set b rows',S.toks⟩ w :=
 { hI with
   nb:=by simp [hI.nb]
   box:=fun i blk sz q h1 h2=>by
    rcases get_set h2 with ⟨rfl,rfl⟩ | ⟨_,h2⟩
    ·obtain ⟨cs,e,hh,hs,hlen,_⟩:=hI.box i blk sz rows h1 hS
     exact ⟨cs,e,hh,by rw [hl];exact hs,fun r hm=>by obtain ⟨r0,h0,he⟩:=hll r hm;rw [he];exact hlen r0 h0,hr blk sz cs e h1 hh⟩
    ·exact hI.box i blk sz q h1 h2 }
theorem newBuilder (hI:Inv X E S w)(t te:TypeId){v:Value}{rest:List Value}(hv:v.cells.toList=.pointer none::.slice none 0 0::rest) :
 ∃ E' w',(newVar t v).run X.P w=.ok ⟨w.heap.size,0,none⟩ w'∧Inv X E' ⟨S.boxes++[[.tagN t S.boxes.length::.buf te [] S.toks.length::rest.map ofVal]],S.toks++[0]⟩ w'∧Evol E w E' w' E.boxes.length E.toks.length ∧
  Rel E' w' (.pointer (some ⟨w.heap.size,0,none⟩)) (.ptr S.boxes.length 0 0):=by
 have hlen:v.cells.size=rest.length+2:=by have:=congrArg List.length hv;simpa using this
 obtain ⟨ev,hI'⟩:=hI.newBox (w':=w.alloc (.cells v.cells t)) (cs:=v.cells) (e:=t) (sz:=rest.length+2) (rows:=[v.cells.toList.map ofVal]) rfl rfl rfl rfl (by simp [hlen])
  (fun r hr=>by simp at hr;subst hr;simp [hlen]) (fun k r j x u h1 h2 h3=>by
    cases k with
    | zero =>
      simp at h1;subst h1
      simp at h2 h3
      obtain ⟨u',h2,rfl⟩:=h2
      rw [h3] at h2;cases h2
      exact rel_ofVal u
    | succ k=>simp at h1)
 have hI2:=hI'.mint 0
 have evm:=mint_ev (E.addBox w.heap.size (rest.length+2)) (w.alloc (.cells v.cells t)) 0
 have hl:=ev.len
 have ev2:=ev.trans (evm.weaken hl.1 hl.2)
 have hnb:E.boxes.length=S.boxes.length:=hI.nb
 have hnt:E.toks.length=S.toks.length:=by rw [← hI.nt];simp
 have hbx:((E.addBox w.heap.size (rest.length+2)).mint 0).boxes[S.boxes.length]?=some (some (w.heap.size,rest.length+2)):=by
  show (E.addBox w.heap.size (rest.length+2)).boxes[S.boxes.length]?=_
  rw [← hnb];exact getElem?_snoc_new _ _
 have hnew:(w.alloc (.cells v.cells t)).heap[w.heap.size]?=some (.cells v.cells t (0,0)):=by
  have:(w.alloc (.cells v.cells t)).heap=w.heap.push (.cells v.cells t (0,0)):=rfl
  rw [this];simp
 have hty:typeAt (w.alloc (.cells v.cells t)) w.heap.size=some t:=by simp only [typeAt,hnew]
 refine ⟨_,_,by simp [newVar,newRow],?_,ev2,?_⟩
 ·have hget:(S.boxes++[[v.cells.toList.map ofVal]])[S.boxes.length]?=some [v.cells.toList.map ofVal]:=by simp
  have:=hI2.recell (b:=S.boxes.length) (rows':=[.tagN t S.boxes.length::.buf te [] S.toks.length::rest.map ofVal]) hget rfl (fun r hr=>⟨v.cells.toList.map ofVal,by simp,by simp at hr;subst hr;simp [hlen]⟩) (fun blk sz cs e h1 h2 k r j x u h3 h4 h5=>by
   rw [hbx] at h1;cases h1
   have hcs:cs=v.cells:=by
    rw [hnew] at h2;cases h2;rfl
   subst hcs
   cases k with
   | succ k=>simp at h3
   | zero =>
     simp at h3;subst h3
     have h5':v.cells.toList[j]?=some u:=by simpa using h5
     rw [hv] at h5'
     cases j with
     | zero=>simp at h4 h5';subst h4;subst h5';exact .tagN t _ _ _ hbx hty
     | succ j=>cases j with
       | zero =>
         simp at h4 h5';subst h4;subst h5'
         exact .buf te [] _ none 0 ⟨0,none⟩ (by simp only [Env.mint];rw [← hnt];exact getElem?_snoc_new _ _) (Nat.le_refl _) (Nat.zero_le _) (fun _=>⟨rfl,rfl,rfl⟩) (Nat.le_refl _)
       | succ j =>
         simp at h4 h5'
         obtain ⟨u',h4,rfl⟩:=h4
         rw [h5'] at h4;cases h4
         exact rel_ofVal u)
  simpa using this
 ·have:=Rel.ptr (E:=(E.addBox w.heap.size (rest.length+2)).mint 0) (w:=w.alloc (.cells v.cells t)) S.boxes.length 0 0 w.heap.size (rest.length+2) hbx
  simpa using this
theorem Ndo.allocB {t:TypeId}{y:Ty}{rest:List Value}{bx:List (List (List AV))}{tk:List Nat}{b m:Nat}(te:TypeId)(ho:ops[i]?=some o)(hw:wantA ops F o=some true)(hop:o.op=.alloc t)(hy:X.ty t=some y)
 (hz:y.zero=(.pointer none::.slice none 0 0::rest).map ofVal)(hb:lenK S.boxes=b)(hm:lenK S.toks=m)(hbx:S.boxes++[[.tagN t b::.buf te [] m::rest.map ofVal]]=bx)(htk:S.toks++[0]=tk):Ndo X N ops i o F (.ptr b 0 0) S ⟨bx,tk⟩:=by
 subst hbx;subst htk
 rw [lenK_eq] at hb hm
 subst hb;subst hm
 intro F' E w a hl hI hF
 obtain ⟨z,hzr,hzc,_⟩:=zero_run hy w
 rw [hz] at hzc
 obtain ⟨E',w',h1,h2,h3,h4⟩:=newBuilder hI t te (v:=z) (ofVals_inj hzc)
 exact Does.val ho (wanted_of hF (by rw [wantA_congr hl];exact hw)) (by simp [execOp,hop,Instr.alloc,hzr,h1]) (.inl rfl) ⟨E',h2,h3,h4⟩
theorem Ndo.buildZ {t:TypeId}{y:Ty}{cs:List Value}{fs:List (Nat × Nat)}(ho:ops[i]?=some o)(hw:wantA ops F o=some true)(hop:o.op=.build t #[])(hy:X.ty t=some y)(hk:y.k=.str fs)(hz:y.zero=cs.map ofVal) :
 Ndo X N ops i o F (.val (.agg ⟨cs⟩)) S S:=by
 refine Ndo.val ho hw fun F' E w a hc hI hF=>?_
 obtain ⟨d,hd,hdd⟩:=(X.ty_ok t y hy).agg
 simp only [hk] at hdd
 obtain ⟨fields,rfl,hm,_⟩:=hdd
 obtain ⟨z,_,hzc,hl,i,hi,hiz,his,_⟩:=zero_run hy w
 rw [hz] at hzc
 have hcs:=ofVals_inj hzc
 have hrun:=run_build (P:=X.P) w t #[] z.cells (by simp [Program.built,hi,hd,hiz,hm,Instr.fill])
 refine ⟨.agg z.cells,by simp [execOp,hop,hrun],?_⟩
 have:z.cells=⟨cs⟩:=by rw [← Array.toList_inj];exact hcs
 rw [this];exact .val _
theorem Ndo.boxB {t:TypeId}{p:Operand}{rest:List Value}{bx:List (List (List AV))}{tk:List Nat}{b m:Nat}(te:TypeId)(ho:ops[i]?=some o)(hw:wantA ops F o=some true)(hop:o.op=.box t p)(hp:opr X F p=some (.val (.agg ⟨.pointer none::.slice none 0 0::rest⟩)))
 (hb:lenK S.boxes=b)(hm:lenK S.toks=m)(hbx:S.boxes++[[.tagN t b::.buf te [] m::rest.map ofVal]]=bx)(htk:S.toks++[0]=tk):Ndo X N ops i o F (.ptr b 0 0) S ⟨bx,tk⟩:=by
 subst hbx;subst htk
 rw [lenK_eq] at hb hm
 subst hb;subst hm
 intro F' E w a hl hI hF
 have hlo:=looks_of hl
 rw [hop] at hlo
 have r1:=opr_sound hI hF ((opr_congr (X:=X) (F:=F) (F':=F') (o:=p) fun s hs=>hlo s (by simp [Op.operands,hs])).trans hp)
 generalize hv:a.eval p=v at r1
 cases r1
 obtain ⟨E',w',h1,h2,h3,h4⟩:=newBuilder hI t te (v:=.agg ⟨.pointer none::.slice none 0 0::rest⟩) rfl
 exact Does.val ho (wanted_of hF (by rw [wantA_congr hl];exact hw)) (by simp [execOp,hop,Instr.box,hv,h1]) (.inl rfl) ⟨E',h2,h3,h4⟩
theorem box_place (hI:Inv X E S w){b r off blk sz:Nat}{rows:List (List AV)}{row:List AV}(hS:S.boxes[b]?=some rows)(hr:rows[r]?=some row)(ho:off<row.length)(hB:E.boxes[b]?=some (some (blk,sz))) :
 ∃ cs e,w.heap[blk]?=some (.cells cs e (0,0))∧cs.size=rows.length*sz∧sz=row.length∧r*sz+off<cs.size:=by
 obtain ⟨cs,e,hh,hs,hl,_⟩:=hI.box b blk sz rows hB hS
 have hsz:=hl row (List.mem_of_getElem? hr)
 have hrl:=lt_of_get hr
 refine ⟨cs,e,hh,hs,hsz.symm,?_⟩
 rw [hs]
 exact row_in hrl (by omega)
theorem noView_run {blk:Nat}{cs:Array Value}{e:TypeId}(h:w.heap[blk]?=some (.cells cs e (0,0))):(viewAt blk).run X.P w=.ok none w:=by
 have hsh:w.shape? blk=some (e,cs.size):=by simp [World.shape?,h]
 simp [viewAt,hsh]
theorem Ndo.toU {src dst t:TypeId}{p:Operand}{b r off:Nat}{y:Ty}{rows:List (List AV)}{row:List AV}(hu:X.P.underlying src=some (.pointer t))(hv:X.P.underlying dst=some .unsafePointer)(hy:X.ty t=some y)(hy0:y.size≠0)
 (ho:ops[i]?=some o:=by rfl)(hw:wantA ops F o=some true:=by rfl)(hop:o.op=.convert src dst p:=by rfl)(hp:opr X F p=some (.ptr b r off):=by rfl)(hS:S.boxes[b]?=some rows:=by rfl)(hr:rows[r]?=some row:=by rfl)
 (hof:Nat.blt off row.length=true:=by rfl):Ndo X N ops i o F (.ptr b r off) S S:=by
 refine Ndo.val ho hw fun F' E w a hc hI hF=>?_
 rw [hop] at hc
 have r1:=opr_sound hI hF ((hc p (by simp [Op.operands])).trans hp)
 generalize hx:a.eval p=x at r1
 cases r1 with
 | ptr _ _ _ blk sz hB =>
   obtain ⟨cs,e,hh,hs,hsz,hin⟩:=box_place hI hS hr (by simpa [Nat.blt_eq] using hof) hB
   have hsh:w.shape? blk=some (e,cs.size):=by simp [World.shape?,hh]
   refine ⟨.pointer (some ⟨blk,r*sz+off,none⟩),?_,.ptr b r off blk sz hB⟩
   have hnv:=noView_run (X:=X) hh
   have hlt:¬ cs.size≤r*sz+off:=by omega
   simp [execOp,hop,hx,convert,run_underlying hu,run_underlying hv,Conv.unsafePointer,Conv.seenAt,hnv,cellsIn,hsh,sizeOf_run hy,hy0,hlt]
theorem Ndo.fromU {src dst t te:TypeId}{p:Operand}{b r off j:Nat}{rows:List (List AV)}{row:List AV}{y:Ty}(hu:X.P.underlying src=some .unsafePointer)(hv:X.P.underlying dst=some (.pointer t))(hy:X.ty t=some y)
 (hlies:∀ n,n=rows.length*row.length→liesAt X.P X.P.depth te (n / X.P.cellsOf te) (r*row.length+off) t 1=true)(ho:ops[i]?=some o:=by rfl)(hw:wantA ops F o=some true:=by rfl)(hop:o.op=.convert src dst p:=by rfl)
 (hp:opr X F p=some (.ptr b r off):=by rfl)(hS:S.boxes[b]?=some rows:=by rfl)(hr:rows[r]?=some row:=by rfl)(hof:Nat.blt off row.length=true:=by rfl)(hj:row[j]?=some (.tagN te b):=by rfl):Ndo X N ops i o F (.ptr b r off) S S:=by
 refine Ndo.val ho hw fun F' E w a hc hI hF=>?_
 rw [hop] at hc
 have r1:=opr_sound hI hF ((hc p (by simp [Op.operands])).trans hp)
 generalize hx:a.eval p=x at r1
 cases r1 with
 | ptr _ _ _ blk sz hB =>
   obtain ⟨cs,e,hh,hs,hsz,hin⟩:=box_place hI hS hr (by simpa [Nat.blt_eq] using hof) hB
   have hte:e=te:=by
    obtain ⟨cs',e',hh',_,hl,hrel⟩:=hI.box b blk sz rows hB hS
    rw [hh] at hh';cases hh'
    have hjl:=lt_of_get hj
    obtain ⟨v,hv⟩:∃ v,cs[r*sz+j]?=some v:=⟨cs[r*sz+j]'(by rw [hs];exact row_in (lt_of_get hr) (by omega)),by simp⟩
    have:=hrel r row j _ v hr hj hv
    cases this with
    | tagN _ _ blk' sz' hB' ht =>
      rw [hB] at hB';cases hB'
      simpa [typeAt,hh] using ht
   subst hte
   have hsh:w.shape? blk=some (e,cs.size):=by simp [World.shape?,hh]
   refine ⟨.pointer (some ⟨blk,r*sz+off,none⟩),?_,.ptr b r off blk sz hB⟩
   have hnv:=noView_run (X:=X) hh
   have hl:=hlies cs.size (by rw [hs,hsz])
   rw [← hsz] at hl
   have hva:(variablesAt ⟨blk,r*sz+off,none⟩ t 1).run X.P w=.ok true w:=by simp [variablesAt,hsh,hl]
   by_cases h0:y.size=0
   ·simp [execOp,hop,hx,convert,run_underlying hu,run_underlying hv,Conv.unsafePointer,Conv.seenAt,hnv,sizeOf_run hy,h0,hva]
   ·simp [execOp,hop,hx,convert,run_underlying hu,run_underlying hv,Conv.unsafePointer,Conv.seenAt,hnv,sizeOf_run hy,h0,hva]
theorem equalIn_pnil {t e:TypeId}(hd:X.P.underlying t=some (.pointer e))(d:Nat)(p:Option Addr)(w:World):(Op.equalIn (d+1) t (.pointer p) (.pointer none)).run X.P w=.ok p.isNone w:=by
 unfold Op.equalIn
 cases p<;>simp [run_underlying hd]
theorem equalIn_pself {t e:TypeId}{y:Ty}(hd:X.P.underlying t=some (.pointer e))(hy:X.ty e=some y)(hy0:y.size≠0)(d:Nat)(p:Addr)(w:World):(Op.equalIn (d+1) t (.pointer (some p)) (.pointer (some p))).run X.P w=.ok true w:=by
 unfold Op.equalIn
 simp [run_underlying hd,sizeOf_run hy,hy0,sameAddr]
theorem Ndo.pNil {t t' e te b:TypeId}{p:Operand}(hu:X.P.underlying t=some (.pointer e))(ho:ops[i]?=some o:=by rfl)(hw:wantA ops F o=some true:=by rfl)(hop:o.op=.binOp .eql t p (.const (.pointer none)) t':=by rfl)
 (hp:opr X F p=some (.tagN te b):=by rfl):Ndo X N ops i o F (.val (.bool true)) S S:=by
 refine Ndo.val ho hw fun F' E w a hc hI hF=>?_
 rw [hop] at hc
 have r1:=opr_sound hI hF ((hc p (by simp [Op.operands])).trans hp)
 generalize hx:a.eval p=x at r1
 cases r1
 have e1:=equalIn_pnil hu 9999 none w
 exact ⟨.bool true,by simp only [execOp,hop,hx,show a.eval (.const (.pointer none))=.pointer none from rfl,eqGuard,binOp,Op.equal,Op.maxDepth];simp [e1],.val _⟩
theorem Ndo.pSome {t t' e b r off:TypeId}{p:Operand}(hu:X.P.underlying t=some (.pointer e))(ho:ops[i]?=some o:=by rfl)(hw:wantA ops F o=some true:=by rfl)(hop:o.op=.binOp .eql t p (.const (.pointer none)) t':=by rfl)
 (hp:opr X F p=some (.ptr b r off):=by rfl):Ndo X N ops i o F (.val (.bool false)) S S:=by
 refine Ndo.val ho hw fun F' E w a hc hI hF=>?_
 rw [hop] at hc
 have r1:=opr_sound hI hF ((hc p (by simp [Op.operands])).trans hp)
 generalize hx:a.eval p=x at r1
 cases r1
 have e1:=fun q=>equalIn_pnil hu 9999 (some q) w
 exact ⟨.bool false,by simp only [execOp,hop,hx,show a.eval (.const (.pointer none))=.pointer none from rfl,eqGuard,binOp,Op.equal,Op.maxDepth];simp [e1],.val _⟩
theorem Ndo.pSelf {t t' e b r off:TypeId}{p q:Operand}{y:Ty}(hu:X.P.underlying t=some (.pointer e))(hy:X.ty e=some y)(hy0:y.size≠0)(ho:ops[i]?=some o:=by rfl)(hw:wantA ops F o=some true:=by rfl)(hop:o.op=.binOp .neq t p q t':=by rfl)
 (hp:opr X F p=some (.ptr b r off):=by rfl)(hq:opr X F q=some (.ptr b r off):=by rfl):Ndo X N ops i o F (.val (.bool false)) S S:=by
 refine Ndo.val ho hw fun F' E w a hc hI hF=>?_
 rw [hop] at hc
 have r1:=opr_sound hI hF ((hc p (by simp [Op.operands])).trans hp)
 have r2:=opr_sound hI hF ((hc q (by simp [Op.operands])).trans hq)
 generalize hx:a.eval p=x at r1
 generalize hz:a.eval q=z at r2
 cases r1 with
 | ptr _ _ _ blk sz hB =>
 cases r2 with
 | ptr _ _ _ blk' sz' hB' =>
 rw [hB] at hB';cases hB'
 have e1:=fun q=>equalIn_pself hu hy hy0 9999 q w
 exact ⟨.bool false,by simp only [execOp,hop,hx,hz,eqGuard,binOp,Op.equal,Op.maxDepth];simp [e1],.val _⟩
theorem Ndo.ident {c:Call}{fo p:Operand}{f:FuncId}{x:AV}(hr:∀ v w,(callFunc f #[v]).run X.P w=.ok (.value v) w)(ho:ops[i]?=some o:=by rfl)(hw:wantA ops F o=some true:=by rfl)
 (hop:o.op=.call c:=by rfl)(hcal:c.callee=.value fo:=by rfl)(hargs:c.args=#[p]:=by rfl)(hfo:opr X F fo=some (.fn f []):=by rfl)(hp:opr X F p=some x:=by rfl):Ndo X N ops i o F x S S:=by
 refine Ndo.val ho hw fun F' E w a hc hI hF=>?_
 rw [hop] at hc
 simp only [Op.operands,Call.operands,hcal,hargs,Array.toList_append,List.mem_append] at hc
 have h1:=opr_sound hI hF ((hc fo (.inl (by simp))).trans hfo)
 have h2:=opr_sound hI hF ((hc p (.inr (by simp))).trans hp)
 cases hh:a.eval fo<;>rw [hh] at h1<;>cases h1
 rename_i caps hcl hcr
 have hcaps:caps=#[]:=by apply Array.eq_empty_of_size_eq_zero;simpa using hcl
 subst hcaps
 exact ⟨a.eval p,by simp [execOp,hop,resolve,hcal,hargs,hh,Deferred.ofValue,invoke,hr],h2⟩
end
end Go.V
namespace Go.V
open Go Go.Proofs
section
variable {X:Cx}{B:Bx}{E:Env}{S:St}{w:World}{F:Frm}{R:AE→St→Prop}{N:Nat}{ops:Array Oper}{i:Nat}{o:Oper}{k:List Item}
theorem Ndo.band {t t':TypeId}{p q:Operand}{κ:IntKind}{a b r:Int}(hr:κ.wrap ((BitVec.ofInt κ.bits a &&& BitVec.ofInt κ.bits b).toNat)=r)(ho:ops[i]?=some o:=by rfl)(hw:wantA ops F o=some true:=by rfl)(hop:o.op=.binOp .and t p q t':=by rfl)
 (hp:opr X F p=some (.val (.int κ a)):=by rfl)(hq:opr X F q=some (.val (.int κ b)):=by rfl):Ndo X N ops i o F (.val (.int κ r)) S S:=by
 subst hr
 refine Ndo.val ho hw fun F' E w ac hc hI hF=>?_
 rw [hop] at hc
 have r1:=opr_sound hI hF ((hc p (by simp [Op.operands])).trans hp)
 have r2:=opr_sound hI hF ((hc q (by simp [Op.operands])).trans hq)
 generalize hu:ac.eval p=u at r1
 generalize hv:ac.eval q=v at r2
 cases r1;cases r2
 exact ⟨_,by simp [execOp,hop,hu,hv,eqGuard,binOp,Op.intBits],.val _⟩
theorem Ndo.bshr {t t':TypeId}{p q:Operand}{κ κ':IntKind}{a b r:Int}(h0:0≤b)(hr:a.fdiv (2 ^ (min b.toNat κ.bits))=r)(ho:ops[i]?=some o:=by rfl)(hw:wantA ops F o=some true:=by rfl)(hop:o.op=.binOp .shr t p q t':=by rfl)
 (hp:opr X F p=some (.val (.int κ a)):=by rfl)(hq:opr X F q=some (.val (.int κ' b)):=by rfl):Ndo X N ops i o F (.val (.int κ r)) S S:=by
 subst hr
 refine Ndo.val ho hw fun F' E w ac hc hI hF=>?_
 rw [hop] at hc
 have r1:=opr_sound hI hF ((hc p (by simp [Op.operands])).trans hp)
 have r2:=opr_sound hI hF ((hc q (by simp [Op.operands])).trans hq)
 generalize hu:ac.eval p=u at r1
 generalize hv:ac.eval q=v at r2
 cases r1;cases r2
 have hn:¬ b<0:=by omega
 exact ⟨_,by simp [execOp,hop,hu,hv,eqGuard,binOp,Op.shift,hn],.val _⟩
theorem AK.cc {e:Bool}{x y:Code}{K:List Item}{F':Frm}{S2:St}(hk:AK X B K F' S2 R)(he:Go.V.ev X B.fn.ntmps 200 (.code (if e then x else y)::k) F S=(K,F',S2):=by rfl):AK X B (.code (.cond (.const (.bool e)) x y)::k) F S R :=
 AK.todo (AK.ev 200 he hk) fun w a b cs=>step_cond (t:=e) rfl
end
theorem q_mul64 (y:Nat)(hy:y<64):Pure X 319 [.val (.int .u64 2),.val (.int .u64 y)] (.tup [.val (.int .u64 0),.val (.int .u64 (2*y:Nat))]):=by
 have b2:IntKind.u64.wrap ((BitVec.ofInt IntKind.u64.bits 2 &&& BitVec.ofInt IntKind.u64.bits 4294967295).toNat)=2:=by decide
 have b0:IntKind.u64.wrap ((BitVec.ofInt IntKind.u64.bits 0 &&& BitVec.ofInt IntKind.u64.bits 4294967295).toNat)=0:=by decide
 have s2:(2:Int).fdiv (2 ^ (min (32:Int).toNat IntKind.u64.bits))=0:=by decide
 have s0:(0:Int).fdiv (2 ^ (min (32:Int).toNat IntKind.u64.bits))=0:=by decide
 have hand:∀ y:Nat,y<64→IntKind.u64.wrap ((BitVec.ofInt IntKind.u64.bits (y:Int) &&& BitVec.ofInt IntKind.u64.bits 4294967295).toNat)=(y:Int):=by decide
 have hshr:∀ y:Nat,y<64→(y:Int).fdiv (2 ^ (min (32:Int).toNat IntKind.u64.bits))=0:=by decide
 have hshr2:∀ y:Nat,y<64→(IntKind.u64.wrap ((2:Int)*(y:Int))).fdiv (2 ^ (min (32:Int).toNat IntKind.u64.bits))=0:=by decide
 have hmul:∀ y:Nat,y<64→IntKind.u64.wrap ((2:Int)*(y:Int))=((2*y:Nat):Int):=by decide
 have hz:∀ y:Nat,y<64→IntKind.u64.wrap ((BitVec.ofInt IntKind.u64.bits (IntKind.u64.wrap (IntKind.u64.wrap ((0:Int)*(y:Int))+0)) &&& BitVec.ofInt IntKind.u64.bits 4294967295).toNat)=0:=by decide
 have hz2:∀ y:Nat,y<64→(IntKind.u64.wrap (IntKind.u64.wrap ((0:Int)*(y:Int))+0)).fdiv (2 ^ (min (32:Int).toNat IntKind.u64.bits))=0:=by decide
 have s4:(IntKind.u64.wrap (0+IntKind.u64.wrap (2*0))).fdiv (2 ^ (min (32:Int).toNat IntKind.u64.bits))=0:=by decide
 refine Pure.run Tryz.func319 ?_
 refine AK.op (Ndo.band b2) ?_
 refine AK.op (Ndo.bshr (by decide) s2) ?_
 refine AK.op (Ndo.band (hand y hy)) ?_
 refine AK.op (Ndo.bshr (by decide) (hshr y hy)) ?_
 refine AK.op (Ndo.bshr (by decide) (hshr2 y hy)) ?_
 refine AK.op (Ndo.band (hz y hy)) ?_
 refine AK.op (Ndo.bshr (by decide) (hz2 y hy)) ?_
 refine AK.op (Ndo.bshr (by decide) s4) ?_
 refine AK.rz Tryz.func319 ?_
 rw [hmul y hy];rfl
theorem q_mul (y:Nat)(hy:y<64):Pure X 301 [.val (.int .u64 2),.val (.int .u64 y)] (.tup [.val (.int .u64 0),.val (.int .u64 (2*y:Nat))]):=by
 refine Pure.run Tryz.func301 ?_
 refine AK.cc ?_
 refine AK.pc (q_mul64 y hy) ?_
 exact AK.rz Tryz.func301 rfl
def preS (s p:List UInt8):Bool:=s.take p.length==p
theorem q_hasPre0 (s p:List UInt8)(hs:s.length≤1000000000000)(hp:p.length≤1000000000000):Pure X 246 [str s,str p] (vb (preS s p)):=by
 refine Pure.run Tryz.func246 ?_
 refine AK.gd (fun h=>?_) (fun h=>?_)
 ·have h':p.length≤s.length:=by have:=of_decide_eq_true h;rw [sz_str,sz_str] at this;omega
  refine AK.op (Ndo.sub (l:=0) (h:=(p.length:Int)) (r:=s.take p.length) rfl rfl rfl rfl rfl ?_ rfl rfl ?_ ?_ ?_ ?_) ?_
  ·show some _=_
   rw [sz_str]
  ·omega
  ·omega
  ·omega
  ·simp
  refine AK.rz Tryz.func246 ?_
  rfl
 ·have h':s.length<p.length:=by have:=of_decide_eq_false h;rw [sz_str,sz_str] at this;omega
  refine AK.rz Tryz.func246 ?_
  have:preS s p=false:=by
   simp only [preS,beq_eq_false_iff_ne]
   intro he
   have:=congrArg List.length he
   simp at this;omega
  rw [this]
theorem q_hasPre (s p:List UInt8)(hs:s.length≤1000000000000)(hp:p.length≤1000000000000):Pure X 302 [str s,str p] (vb (preS s p)):=by
 refine Pure.run Tryz.func302 ?_
 refine AK.pc (q_hasPre0 s p hs hp) ?_
 exact AK.rz Tryz.func302 rfl
def trimS (s p:List UInt8):List UInt8:=if preS s p then s.drop p.length else s
theorem q_trim0 (s p:List UInt8)(hs:s.length≤1000000000000)(hp:p.length≤1000000000000):Pure X 320 [str s,str p] (str (trimS s p)):=by
 refine Pure.run Tryz.func320 ?_
 refine AK.pc (q_hasPre0 s p hs hp) ?_
 refine AK.if_ (fun h=>?_) (fun h=>?_)
 ·have h':preS s p=true:=h
  have hl:p.length≤s.length:=by
   have:=congrArg List.length (beq_iff_eq.1 h')
   simp at this;omega
  refine AK.op (Ndo.sub (l:=(p.length:Int)) (h:=(s.length:Int)) (r:=s.drop p.length) rfl rfl rfl rfl ?_ rfl rfl rfl ?_ ?_ ?_ ?_) ?_
  ·show some _=_
   rw [sz_str]
  ·omega
  ·omega
  ·omega
  ·rw [Int.toNat_natCast,Int.toNat_natCast,List.take_length]
  refine AK.rz Tryz.func320 ?_
  simp only [trimS,h',if_true]
 ·have h':preS s p=false:=h
  refine AK.rz Tryz.func320 ?_
  simp [trimS,h']
theorem q_trim (s p:List UInt8)(hs:s.length≤1000000000000)(hp:p.length≤1000000000000):Pure X 304 [str s,str p] (str (trimS s p)):=by
 refine Pure.run Tryz.func304 ?_
 refine AK.pc (q_trim0 s p hs hp) ?_
 exact AK.rz Tryz.func304 rfl
theorem q_repeat (k:Nat)(hk:k≤60):Pure X 280 [str [32,32],vi k] (str (List.replicate (2*k) 32)):=by
 have wk:∀ k:Nat,k≤60→IntKind.u64.wrap (k:Int)=(k:Int):=by decide
 have wk2:∀ k:Nat,k≤60→IntKind.i64.wrap ((2*k:Nat):Int)=((2*k:Nat):Int):=by decide
 have hm:Pure X 301 [.val (.int .u64 2),.val (.int .u64 (IntKind.u64.wrap (k:Int)))] (.tup [.val (.int .u64 0),.val (.int .u64 (2*k:Nat))]):=by
  rw [wk k hk];exact q_mul k (by omega)
 refine Pure.run Tryz.func280 ?_
 refine AK.if_ (fun h=>?_) (fun h=>?_)
 ·have h':k=0:=by simpa using h
  subst h'
  exact AK.rz Tryz.func280 rfl
 refine AK.if_ (fun h1=>?_) (fun h1=>?_)
 ·have h':k=1:=by simp at h1;omega
  subst h'
  exact AK.rz Tryz.func280 rfl
 refine AK.no ?_ (ht:=by simp)
 refine AK.pc hm ?_
 refine AK.gn ?_ (ht:=by simp)
 refine AK.no ?_ (ht:=by simp;omega)
 refine AK.no ?_
 refine AK.by 0 (by omega) (b:=32) rfl ?_
 refine AK.yes ?_
 refine AK.gy ?_ (ht:=by rw [wk2 k hk];simp;omega)
 refine AK.pc (q_hasPre (List.replicate 128 32) [32,32] (by simp) (by simp)) ?_
 refine AK.yes ?_
 refine AK.op (Ndo.sub (s:=List.replicate 128 32) (l:=0) (h:=IntKind.i64.wrap ((2*k:Nat):Int)) (r:=List.replicate (2*k) 32) rfl rfl rfl rfl rfl rfl rfl rfl ?_ ?_ ?_ ?_) ?_
 ·omega
 ·rw [wk2 k hk];omega
 ·rw [wk2 k hk];simp;omega
 ·rw [wk2 k hk,Int.toNat_natCast,List.take_replicate]
  simp
  omega
 exact AK.rz Tryz.func280 rfl
theorem u227:X.P.underlying 91=some (.pointer 93):=by kernel_rfl
theorem u290:X.P.underlying 175=some .unsafePointer:=by kernel_rfl
theorem lies229:liesAt X.P X.P.depth 93 (2 / X.P.cellsOf 93) 0 93 1=true:=by kernel_rfl
theorem lies231:liesAt X.P X.P.depth 270 (4 / X.P.cellsOf 270) 0 93 1=true:=by kernel_rfl
theorem noEsc (v:Value)(w:World):(callFunc 122 #[v]).run X.P w=.ok (.value v) w :=
 (run_callFunc_extern Tryz.func122 (by kernel_rfl) (by kernel_rfl) (by kernel_rfl) (e:=Extern.AbiNoEscape.same) (by kernel_rfl) _ w).trans rfl
abbrev bA (A:AV)(s:List UInt8):List AV:=[A,.buf 5 s 0]
abbrev bQ (A:AV)(s:List UInt8)(ws:List (List UInt8))(h:Int):List AV:=[A,.buf 5 s 0,.sl (strR ws) .no,vi h]
abbrev bP (A:AV)(s:List UInt8)(ws:List (List UInt8))(h:Int):List AV:=[A,.buf 5 s 0,.sl (strR ws) (.tok 1),vi h]
abbrev bN (A:AV)(s:List UInt8)(h:Int):List AV:=[A,.buf 5 s 0,.sl [] .tight,vi h]
theorem cA_new (s:List UInt8):Hands X 78 [.ptr 0 0 0] ⟨[[bA (.tagN 93 0) s]],[s.length]⟩ (.tup []) ⟨[[bA (.ptr 0 0 0) s]],[s.length]⟩:=by
 refine Hands.run (n:=1) (m:=1) Tryz.func78 ?_
 refine AK.op (Ndo.pNil u227) ?_
 refine AK.yes ?_
 refine AK.op (Ndo.toU u227 u290 rfl (by simp)) ?_
 refine AK.op (Ndo.ident noEsc) ?_
 refine AK.op (Ndo.fromU (te:=93) (j:=0) u290 u227 rfl ?_) ?_
 ·intro n hn
  subst hn
  exact lies229
 exact AK.fb Tryz.func78 rfl rfl
theorem cA_old (s:List UInt8):Hands X 78 [.ptr 0 0 0] ⟨[[bA (.ptr 0 0 0) s]],[s.length]⟩ (.tup []) ⟨[[bA (.ptr 0 0 0) s]],[s.length]⟩:=by
 refine Hands.run (n:=1) (m:=1) Tryz.func78 ?_
 refine AK.op (Ndo.pSome u227) ?_
 refine AK.no ?_
 refine AK.op (Ndo.pSelf u227 rfl (by simp)) ?_
 refine AK.no ?_
 exact AK.fb Tryz.func78 rfl rfl
theorem cQ_new (s:List UInt8) (ws:List (List UInt8)) (h:Int):Hands X 78 [.ptr 0 0 0] ⟨[[bQ (.tagN 270 0) s ws h]],[s.length]⟩ (.tup []) ⟨[[bQ (.ptr 0 0 0) s ws h]],[s.length]⟩:=by
 refine Hands.run (n:=1) (m:=1) Tryz.func78 ?_
 refine AK.op (Ndo.pNil u227) ?_
 refine AK.yes ?_
 refine AK.op (Ndo.toU u227 u290 rfl (by simp)) ?_
 refine AK.op (Ndo.ident noEsc) ?_
 refine AK.op (Ndo.fromU (te:=270) (j:=0) u290 u227 rfl ?_) ?_
 ·intro n hn
  subst hn
  exact lies231
 exact AK.fb Tryz.func78 rfl rfl
theorem cQ_old (s:List UInt8) (ws:List (List UInt8)) (h:Int):Hands X 78 [.ptr 0 0 0] ⟨[[bQ (.ptr 0 0 0) s ws h]],[s.length]⟩ (.tup []) ⟨[[bQ (.ptr 0 0 0) s ws h]],[s.length]⟩:=by
 refine Hands.run (n:=1) (m:=1) Tryz.func78 ?_
 refine AK.op (Ndo.pSome u227) ?_
 refine AK.no ?_
 refine AK.op (Ndo.pSelf u227 rfl (by simp)) ?_
 refine AK.no ?_
 exact AK.fb Tryz.func78 rfl rfl
theorem wA_new (s:List UInt8)(x:List UInt8)(hb:s.length+x.length≤100000000000):Hands X 45 [.ptr 0 0 0,str x] ⟨[[bA (.tagN 93 0) s]],[s.length]⟩ (.tup [vi x.length,.val .nilIface]) ⟨[[bA (.ptr 0 0 0) (s++x)]],[(s++x).length]⟩:=by
 refine Hands.run (n:=1) (m:=1) Tryz.func45 ?_
 refine AK.hc (τ':=[0]) [0] [0] (cA_new s) ?_
 refine AK.op (Ndo.apps rfl rfl rfl rfl rfl rfl rfl rfl rfl rfl rfl rfl rfl rfl rfl hb rfl) ?_
 rw [List.length_append]
 exact AK.rb Tryz.func45 rfl rfl
theorem wA_old (s:List UInt8)(x:List UInt8)(hb:s.length+x.length≤100000000000):Hands X 45 [.ptr 0 0 0,str x] ⟨[[bA (.ptr 0 0 0) s]],[s.length]⟩ (.tup [vi x.length,.val .nilIface]) ⟨[[bA (.ptr 0 0 0) (s++x)]],[(s++x).length]⟩:=by
 refine Hands.run (n:=1) (m:=1) Tryz.func45 ?_
 refine AK.hc (τ':=[0]) [0] [0] (cA_old s) ?_
 refine AK.op (Ndo.apps rfl rfl rfl rfl rfl rfl rfl rfl rfl rfl rfl rfl rfl rfl rfl hb rfl) ?_
 rw [List.length_append]
 exact AK.rb Tryz.func45 rfl rfl
theorem wQ_new (s:List UInt8) (ws:List (List UInt8)) (h:Int)(x:List UInt8)(hb:s.length+x.length≤100000000000):Hands X 45 [.ptr 0 0 0,str x] ⟨[[bQ (.tagN 270 0) s ws h]],[s.length]⟩ (.tup [vi x.length,.val .nilIface]) ⟨[[bQ (.ptr 0 0 0) (s++x) ws h]],[(s++x).length]⟩:=by
 refine Hands.run (n:=1) (m:=1) Tryz.func45 ?_
 refine AK.hc (τ':=[0]) [0] [0] (cQ_new s ws h) ?_
 refine AK.op (Ndo.apps rfl rfl rfl rfl rfl rfl rfl rfl rfl rfl rfl rfl rfl rfl rfl hb rfl) ?_
 rw [List.length_append]
 exact AK.rb Tryz.func45 rfl rfl
theorem wQ_old (s:List UInt8) (ws:List (List UInt8)) (h:Int)(x:List UInt8)(hb:s.length+x.length≤100000000000):Hands X 45 [.ptr 0 0 0,str x] ⟨[[bQ (.ptr 0 0 0) s ws h]],[s.length]⟩ (.tup [vi x.length,.val .nilIface]) ⟨[[bQ (.ptr 0 0 0) (s++x) ws h]],[(s++x).length]⟩:=by
 refine Hands.run (n:=1) (m:=1) Tryz.func45 ?_
 refine AK.hc (τ':=[0]) [0] [0] (cQ_old s ws h) ?_
 refine AK.op (Ndo.apps rfl rfl rfl rfl rfl rfl rfl rfl rfl rfl rfl rfl rfl rfl rfl hb rfl) ?_
 rw [List.length_append]
 exact AK.rb Tryz.func45 rfl rfl
theorem u253:X.P.underlying 132=some (.pointer 5):=by kernel_rfl
theorem c5:X.P.cellsOf 5=1:=by kernel_rfl
theorem sA_new (s:List UInt8)(hb:s.length≤100000000000):Hands X 47 [.ptr 0 0 0] ⟨[[bA (.tagN 93 0) s]],[s.length]⟩ (str s) ⟨[[bA (.tagN 93 0) s]],[s.length+1]⟩:=by
 refine Hands.run (n:=1) (m:=1) Tryz.func47 ?_
 refine AK.dn 1024 4 ?_
 refine Drv.lo (Ndo.bdata rfl) ?_
 refine Drv.go ?_ rfl
 refine Drv.ru (fun S'=>Ndo.blen) ?_
 refine Drv.w (Ndo.ustr c5 u253 rfl hb rfl) ?_
 refine Drv.e ?_
 refine Drv.z ?_
 exact AK.rb Tryz.func47 rfl rfl
theorem sA_old (s:List UInt8)(hb:s.length≤100000000000):Hands X 47 [.ptr 0 0 0] ⟨[[bA (.ptr 0 0 0) s]],[s.length]⟩ (str s) ⟨[[bA (.ptr 0 0 0) s]],[s.length+1]⟩:=by
 refine Hands.run (n:=1) (m:=1) Tryz.func47 ?_
 refine AK.dn 1024 4 ?_
 refine Drv.lo (Ndo.bdata rfl) ?_
 refine Drv.go ?_ rfl
 refine Drv.ru (fun S'=>Ndo.blen) ?_
 refine Drv.w (Ndo.ustr c5 u253 rfl hb rfl) ?_
 refine Drv.e ?_
 refine Drv.z ?_
 exact AK.rb Tryz.func47 rfl rfl
theorem sN_new (s:List UInt8) (h:Int)(hb:s.length≤100000000000):Hands X 47 [.ptr 0 0 0] ⟨[[bN (.tagN 270 0) s h]],[s.length]⟩ (str s) ⟨[[bN (.tagN 270 0) s h]],[s.length+1]⟩:=by
 refine Hands.run (n:=1) (m:=1) Tryz.func47 ?_
 refine AK.dn 1024 4 ?_
 refine Drv.lo (Ndo.bdata rfl) ?_
 refine Drv.go ?_ rfl
 refine Drv.ru (fun S'=>Ndo.blen) ?_
 refine Drv.w (Ndo.ustr c5 u253 rfl hb rfl) ?_
 refine Drv.e ?_
 refine Drv.z ?_
 exact AK.rb Tryz.func47 rfl rfl
theorem sN_old (s:List UInt8) (h:Int)(hb:s.length≤100000000000):Hands X 47 [.ptr 0 0 0] ⟨[[bN (.ptr 0 0 0) s h]],[s.length]⟩ (str s) ⟨[[bN (.ptr 0 0 0) s h]],[s.length+1]⟩:=by
 refine Hands.run (n:=1) (m:=1) Tryz.func47 ?_
 refine AK.dn 1024 4 ?_
 refine Drv.lo (Ndo.bdata rfl) ?_
 refine Drv.go ?_ rfl
 refine Drv.ru (fun S'=>Ndo.blen) ?_
 refine Drv.w (Ndo.ustr c5 u253 rfl hb rfl) ?_
 refine Drv.e ?_
 refine Drv.z ?_
 exact AK.rb Tryz.func47 rfl rfl
def adr (te k:Nat):Bool→AV
 | true=>.tagN te k
 | false=>.ptr k 0 0
instance {n m te k:Nat}{b:Bool} [h:LtC k n]:OK n m (adr te k b):=⟨by cases b;exact .ptr k 0 0 h.lt;exact .tagN te k h.lt⟩
instance {σ τ:List Nat}{te k k':Nat}{b:Bool} [h:IdxC σ k k']:RinC σ τ (adr te k b) (adr te k' b):=⟨by cases b;exact .ptr k k' 0 0 h.h;exact .tagN te k k' h.h⟩
instance {σ τ:List Nat}{te k k':Nat}{b:Bool} [h:GetC σ k' k]:RoutC σ τ (adr te k b) (adr te k' b):=⟨by cases b;exact .ptr k k' 0 0 h.h;exact .tagN te k k' h.h⟩
theorem wA (b:Bool)(s x:List UInt8)(hb:s.length+x.length≤100000000000):Hands X 45 [.ptr 0 0 0,str x] ⟨[[bA (adr 93 0 b) s]],[s.length]⟩ (.tup [vi x.length,.val .nilIface]) ⟨[[bA (.ptr 0 0 0) (s++x)]],[(s++x).length]⟩:=by
 cases b
 ·exact wA_old s x hb
 ·exact wA_new s x hb
theorem wQ (b:Bool)(s:List UInt8)(ws:List (List UInt8))(h:Int)(x:List UInt8)(hb:s.length+x.length≤100000000000) :
 Hands X 45 [.ptr 0 0 0,str x] ⟨[[bQ (adr 270 0 b) s ws h]],[s.length]⟩ (.tup [vi x.length,.val .nilIface]) ⟨[[bQ (.ptr 0 0 0) (s++x) ws h]],[(s++x).length]⟩:=by
 cases b
 ·exact wQ_old s ws h x hb
 ·exact wQ_new s ws h x hb
theorem sA (b:Bool)(s:List UInt8)(hb:s.length≤100000000000):Hands X 47 [.ptr 0 0 0] ⟨[[bA (adr 93 0 b) s]],[s.length]⟩ (str s) ⟨[[bA (adr 93 0 b) s]],[s.length+1]⟩:=by
 cases b
 ·exact sA_old s hb
 ·exact sA_new s hb
theorem sN (b:Bool)(s:List UInt8)(h:Int)(hb:s.length≤100000000000):Hands X 47 [.ptr 0 0 0] ⟨[[bN (adr 270 0 b) s h]],[s.length]⟩ (str s) ⟨[[bN (adr 270 0 b) s h]],[s.length+1]⟩:=by
 cases b
 ·exact sN_old s h hb
 ·exact sN_new s h hb
end Go.V
